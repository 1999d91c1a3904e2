/- Written by hand (wip/tools/gen_shard_two.py): the law's function two. -/
import Derived.Test.YtoclacnhckpkfaaDoorHAsmText
import Derived.Test.YtoclacnhckpkfaaDoorFAshardSplit
import Derived.Test.YtoclacnhckpkfaaDoorFAsextonplainInts
namespace Go.Proofs.YtoclacnhckpkfaaDoor.FA
open Go.RowKit Go.Proofs.YtoclacnhckpkfaaDoorW.PrintWords Go.Proofs.YtoclacnhckpkfaaDoorW.PrintLast Go.Proofs.YtoclacnhckpkfaaDoorW.PrintMore Go.Proofs.YtoclacnhckpkfaaDoor.Hand Go.Proofs.YtoclacnhckpkfaaDoor.B
set_option linter.unusedVariables false
set_option linter.unusedSimpArgs false
theorem infoU8 : (Tryd.prog.info? 5).map (fun i => (i.zero, i.size, i.bytes)) = some (some (.int .u8 0), 1, 1) := by kernel_rfl
theorem ABox.lower {N N' : Nat} {w : World} {g : Nat} {op sz sm : Int} {d : List ByteArray} (h : ABox N w g op sz sm d) (hn : N' ≤ N) : ABox N' w g op sz sm d := ⟨h.1, h.2.1, Nat.le_trans hn h.2.2⟩
theorem ABox.len {N : Nat} {w : World} {g : Nat} {op sz sm : Int} {d : List ByteArray} (h : ABox N w g op sz sm d) : d.length = 256 := h.1
theorem e_toList : (⟨#[]⟩ : ByteArray).toList = [] := by rw [Lib.toList_data]
theorem noData_at (i : Nat) (h : i < noData.length) : noData[i].toList = [] := by
  simp only [noData, List.getElem_replicate]
  exact e_toList
theorem pieces_is (op sz sm : Int) (h0 : 0 ≤ sz) (h1 : sz ≤ 65535) : shard_Manifest_pieces.f op sz sm = some ((sz + 255) / 256) := by
  unfold shard_Manifest_pieces.f
  have e1 : wrap64 (sz + 256) = sz + 256 := wrap64_in (by omega) (by omega)
  have e2 : wrap64 (sz + 256 - 1) = sz + 255 := by rw [wrap64_in (by omega) (by omega)]; omega
  have e3 : Int.tdiv (sz + 255) 256 = (sz + 255) / 256 := Int.tdiv_eq_ediv_of_nonneg (by omega)
  rw [e1, e2, e3, wrap64_in (by omega) (by omega)]
theorem length_is (op sz sm n : Int) (h0 : 0 ≤ sz) (h1 : sz ≤ 65535) (h2 : 0 ≤ n) (h3 : n ≤ 256) : shard_Manifest_length.f op sz sm n = some (mn 256 (sz - n * 256)) := by
  unfold shard_Manifest_length.f
  have e1 : wrap64 (n * 256) = n * 256 := wrap64_in (by omega) (by omega)
  rw [e1, wrap64_in (by omega) (by omega)]
/-- The text of two. -/
def zText : ByteArray := strOfNums (List.replicate 300 0)
def d1 (b : ByteArray) : List ByteArray := noData.set 1 b
def d2 (a b : ByteArray) : List ByteArray := (d1 b).set 0 a
set_option maxHeartbeats 16000000 in
set_option maxRecDepth 100000 in
theorem two_walk (k : Nat) (sm p q : Int) (a b : ByteArray) (w : World) (hT : TabW w) (h1 : shard_Split.f k 5 zText = some (5, 300, sm, [⟨5, 0, a, p⟩, ⟨5, 1, b, q⟩], 0)) (h2 : shard_Check.f 5 300 sm = some 0) (ha : a.size = 256) (hb_ : b.size = 44) (hpa : poly_Sum.f k a = some p) (hqb : poly_Sum.f k b = some q) (hs : sumU k (d2 a b) 2 = some sm) (hj : (⟨(Lib.join (((d2 a b).take 2).map (·.data.toList)) (⟨#[]⟩ : ByteArray).data.toList).toArray⟩ : ByteArray) = zText) (hjl : (Lib.join (((d2 a b).take 2).map (·.data.toList)) (⟨#[]⟩ : ByteArray).data.toList).length ≤ 140737488355328) (hm1 : missU (d1 b) 2 = [0]) (hm2 : missU (d2 a b) 2 = []) (hi : sextonplain_Ints.f k [0] [0] = some true) (hz300 : zText.size = 300) : Calls Tryd.prog 8 #[] w fun ev w' => ev = .returned (.bool true) ∧ Below w.heap.size w w' := by
  have HB := Aside0.mk (Below.refl w.heap.size w)
  have HT := Aside0.mk hT
  have H1 := Aside0.mk h1
  have H2 := Aside0.mk h2
  have HA := Aside0.mk ha
  have HBS := Aside0.mk hb_
  have HPA := Aside0.mk hpa
  have HQB := Aside0.mk hqb
  have HS := Aside0.mk hs
  have HJ := Aside0.mk hj
  have HJL := Aside0.mk hjl
  have HM1 := Aside0.mk hm1
  have HM2 := Aside0.mk hm2
  have HI := Aside0.mk hi
  clear hT h1 h2 ha hb_ hpa hqb hs hj hjl hm1 hm2 hi
  go_enter Tryd.func8, Tryd.ntmps8
  go_upto_region 3 with (first | ((with_reducible refine gate_dst (N := 14) rfl ?_); refine Kd.R_make (Kd.int .u8) (w0 := w) w.heap.size 5 rfl (N := 14) rfl 67 _ _ rfl 300 rfl rfl Tryd.underlying67 (.int .u8 0) 1 infoU8 rfl (by decide) (by decide) (0 : Int) (ok := fun _ => True) (okp := fun _ => True) ?hz (fun _ _ => trivial) trivial (by decide) (by decide) HB.out HB.out.size ?_; (case hz => exact rfl); intro v1_ w1_ ho hb hg hat; obtain ⟨Ab, cb, eb⟩ := Kd.R_slice ho; subst eb; have hcv : (convert 67 9 (.slice Ab (List.replicate (300 : Int).toNat (0 : Int)).length cb)).run Tryd.prog w1_ = .ok (.string zText) w1_ := Kd.C_string Tryd.underlying67 Tryd.underlying5 Tryd.underlying9 (Kd.R_reads' ho).2.2; have hcv2 : (convert 67 9 (.slice Ab 300 cb)).run Tryd.prog w1_ = .ok (.string zText) w1_ := hcv; clear hcv HB; have HB := Aside0.mk hb; clear ho hb hg hat) | (go_at_call 9; (with_reducible refine (shard_Split.calls k 5 zText 5 300 sm [⟨5, 0, a, p⟩, ⟨5, 1, b, q⟩] 0 _ (TabW.below HT.out HB.out) H1.out).mono ?_); rintro e_ w2_ ⟨V, rfl, ho, hb⟩; obtain ⟨AL, cL, eL⟩ := Kd.R_slice ho; subst eL; have HO := Aside0.mk (Kd.R_lower ho HB.out.size); have n1_ := Aside0.mk (below_step HB.out hb); (try clear hcv2); clear HB ho hb; have HB := n1_; clear n1_) | ((with_reducible refine gate_dst (N := 2) rfl ?_); refine box_event ?hg (N := 2) ?hd (cs := #[(.int .i64 0), (.int .i64 0), (.int .i64 0)]) (t := 23) ?hr ?_; (case hd => rfl); (case hg => rfl); (case hr => first | (go_simp; done) | (go_simp; rfl)); intro g2 hg w3_ hbox hb; have BKM := Aside0.mk hbox; have n0_ := Aside0.mk (below_step HB.out hb); have n1_ := Aside0.mk (Kd.R_below HO.out hb); have GM := Aside0.mk (show w.heap.size ≤ g2 from by rw [hg]; exact HB.out.size); clear HB HO; have HB := n0_; have HO := n1_; clear n0_ n1_ hb hbox hg; have hm0 := (blk_cell BKM.out 0).trans rfl; have hm1 := (blk_cell BKM.out 1).trans rfl; have hm2 := (blk_cell BKM.out 2).trans rfl; have hn0 := blk_frozen BKM.out 0; have hn1 := blk_frozen BKM.out 1; have hn2 := blk_frozen BKM.out 2))
  have n0_ := Aside0.mk (show Below w.heap.size w (((w3_.setCell ⟨g2, 0, none⟩ (.int .i64 5)).setCell ⟨g2, 1, none⟩ (.int .i64 300)).setCell ⟨g2, 2, none⟩ (.int .i64 sm)) from below_set (below_set (below_set HB.out GM.out) GM.out) GM.out)
  have n1_ := Aside0.mk (show (((w3_.setCell ⟨g2, 0, none⟩ (.int .i64 5)).setCell ⟨g2, 1, none⟩ (.int .i64 300)).setCell ⟨g2, 2, none⟩ (.int .i64 sm)).heap[g2]? = some (.cells #[.int .i64 5, .int .i64 300, .int .i64 sm] 23 (0, 0)) from blk_put (cs := #[.int .i64 5, .int .i64 300, .int .i64 0]) (blk_put (cs := #[.int .i64 5, .int .i64 0, .int .i64 0]) (blk_put (cs := #[.int .i64 0, .int .i64 0, .int .i64 0]) BKM.out 0 _ rfl) 1 _ rfl) 2 _ rfl)
  have n2_ := Aside0.mk (show Kd.R k36 36 (((w3_.setCell ⟨g2, 0, none⟩ (.int .i64 5)).setCell ⟨g2, 1, none⟩ (.int .i64 300)).setCell ⟨g2, 2, none⟩ (.int .i64 sm)) w.heap.size (fun _ => True) (.slice AL 2 cL) [⟨5, 0, a, p⟩, ⟨5, 1, b, q⟩] from Kd.R_set (Kd.R_set (Kd.R_set HO.out BKM.out (by decide) 0 _) (blk_put (cs := #[.int .i64 0, .int .i64 0, .int .i64 0]) BKM.out 0 _ rfl) (by decide) 1 _) (blk_put (cs := #[.int .i64 5, .int .i64 0, .int .i64 0]) (blk_put (cs := #[.int .i64 0, .int .i64 0, .int .i64 0]) BKM.out 0 _ rfl) 1 _ rfl) (by decide) 2 _)
  clear HB BKM HO hm0 hm1 hm2 hn0 hn1 hn2
  have HB := n0_
  have BKM := n1_
  have HO := n2_
  clear n0_ n1_ n2_
  generalize (((w3_.setCell ⟨g2, 0, none⟩ (.int .i64 5)).setCell ⟨g2, 1, none⟩ (.int .i64 300)).setCell ⟨g2, 2, none⟩ (.int .i64 sm)) = w4_ at HB BKM HO ⊢
  have hm0 := (blk_cell BKM.out 0).trans rfl
  have hm1 := (blk_cell BKM.out 1).trans rfl
  have hm2 := (blk_cell BKM.out 2).trans rfl
  go_upto_region 6 with (first | (go_at_call 14; (with_reducible refine (shard_New.good 5 300 sm _ H2.out).mono ?_); rintro e_ w5_ ⟨g, rfl, hab, hb⟩; have AB := Aside0.mk (hab.lower HB.out.size); have n0_ := Aside0.mk (below_step HB.out hb); have n1_ := Aside0.mk (Kd.R_below HO.out hb); clear HB HO BKM hm0 hm1 hm2 hab hb; have HB := n0_; have HO := n1_; clear n0_ n1_))
  obtain ⟨ad, eA, hx00, hx01, hx02, hx03⟩ := at_T36 (Kd.R_reads' HO.out).2.2 0 (by decide) (show (0 : Int) < 2 by decide)
  obtain ⟨ad1, eA1, hx10, hx11, hx12, hx13⟩ := at_T36 (Kd.R_reads' HO.out).2.2 1 (by decide) (show (1 : Int) < 2 by decide)
  obtain rfl : ad = ad1 := Option.some.inj (eA.symm.trans eA1)
  subst eA
  clear eA1
  have hr0 : rd_T36 [⟨5, 0, a, p⟩, ⟨5, 1, b, q⟩] 0 = ⟨5, 0, a, p⟩ := rfl
  have hr1 : rd_T36 [⟨5, 0, a, p⟩, ⟨5, 1, b, q⟩] 1 = ⟨5, 1, b, q⟩ := rfl
  rw [hr0] at hx00 hx01 hx02 hx03
  rw [hr1] at hx10 hx11 hx12 hx13
  clear hr0 hr1
  have hy10 : w5_.cell? ⟨ad.block, ad.off + 4, none⟩ = some (.int .i64 5) := hx10
  have hy11 : w5_.cell? ⟨ad.block, ad.off + 4 + 1, none⟩ = some (.int .i64 1) := hx11
  have hy12 : w5_.cell? ⟨ad.block, ad.off + 4 + 2, none⟩ = some (.string b) := hx12
  have hy13 : w5_.cell? ⟨ad.block, ad.off + 4 + 3, none⟩ = some (.int .i64 q) := hx13
  go_upto_region 7 with (first | (go_at_call 15; (refine (shard_Add.new 5 300 sm noData k 5 1 b q 2 44 q w.heap.size g _ AB.out rfl ((pieces_is 5 300 sm (by decide) (by decide)).trans rfl) (by decide) ((length_is 5 300 sm ((1 : Nat) : Int) (by decide) (by decide) (by decide) (by decide)).trans rfl) (by rw [HBS.out]; decide) (TabW.below HT.out HB.out) HQB.out rfl (by rw [ABox.len AB.out]; decide) (by decide) (noData_at 1 _)).mono ?_); rintro e_ w7_0 ⟨w6_, rfl, hb, rfl⟩; (try clear hx00 hx01 hx02 hx03 hx10 hx11 hx12 hx13); (try clear hy10 hy11 hy12 hy13); (try clear hy01 hy02 hy03 hy04); have n0_ := Aside0.mk (show ABox w.heap.size (w6_.setCell ⟨g, 3 + 1, none⟩ (.string b)) g 5 300 sm (d1 b) from (AB.out.below hb).put 1 b); have n1_ := Aside0.mk (below_set (below_step HB.out hb) AB.out.2.2 : Below w.heap.size w (w6_.setCell ⟨g, 3 + 1, none⟩ (.string b))); have n2_ := Aside0.mk (Kd.R_set (Kd.R_below HO.out hb) (AB.out.below hb).2.1 (by decide) (3 + 1) (.string b)); clear AB HB HO; have AB := n0_; have HB := n1_; have HO := n2_; clear n0_ n1_ n2_ hb; generalize (w6_.setCell ⟨g, 3 + 1, none⟩ (.string b)) = w7_ at AB HB HO ⊢))
  go_upto_region 8 with (first | (go_at_call 18; (refine (shard_Missing.ok 5 300 sm (d1 b) 2 w.heap.size g _ AB.out ((pieces_is 5 300 sm (by decide) (by decide)).trans rfl) (by decide)).mono ?_); rintro e_ w8_ ⟨VM, rfl, ho, hb⟩; rw [HM1.out] at ho; obtain ⟨AM, cM, eM⟩ := Kd.R_slice ho; subst eM; have HV := Aside0.mk (Kd.R_lower ho HB.out.size); have n0_ := Aside0.mk (AB.out.below hb); have n1_ := Aside0.mk (below_step HB.out hb); have n2_ := Aside0.mk (Kd.R_below HO.out hb); clear AB HB HO ho; have AB := n0_; have HB := n1_; have HO := n2_; clear n0_ n1_ n2_ hb))
  obtain ⟨ad1, eA1, hx00, hx01, hx02, hx03⟩ := at_T36 (Kd.R_reads' HO.out).2.2 0 (by decide) (show (0 : Int) < 2 by decide)
  obtain rfl : ad = ad1 := Option.some.inj eA1
  clear eA1
  have hr_ : rd_T36 [⟨5, 0, a, p⟩, ⟨5, 1, b, q⟩] 0 = ⟨5, 0, a, p⟩ := rfl
  rw [hr_] at hx00 hx01 hx02 hx03
  clear hr_
  have hy04 : w8_.cell? ad = some (.int .i64 5) := by simpa [Addr.add] using hx00
  have hy01 : w8_.cell? ⟨ad.block, ad.off + 1, none⟩ = some (.int .i64 0) := by simpa [Addr.add] using hx01
  have hy02 : w8_.cell? ⟨ad.block, ad.off + 2, none⟩ = some (.string a) := by simpa [Addr.add] using hx02
  have hy03 : w8_.cell? ⟨ad.block, ad.off + 3, none⟩ = some (.int .i64 p) := by simpa [Addr.add] using hx03
  go_upto_region 9 with (first | (go_at_call 15; (refine (shard_Add.new 5 300 sm (d1 b) k 5 0 a p 2 256 p w.heap.size g _ AB.out rfl ((pieces_is 5 300 sm (by decide) (by decide)).trans rfl) (by decide) ((length_is 5 300 sm ((0 : Nat) : Int) (by decide) (by decide) (by decide) (by decide)).trans rfl) (by rw [HA.out]; decide) (TabW.below HT.out HB.out) HPA.out rfl (by rw [ABox.len AB.out]; decide) (by decide) (by simp only [d1, List.getElem_set]; exact noData_at 0 (by decide))).mono ?_); rintro e_ w9_0 ⟨w6_, rfl, hb, rfl⟩; (try clear hx00 hx01 hx02 hx03 hx10 hx11 hx12 hx13); (try clear hy10 hy11 hy12 hy13); (try clear hy01 hy02 hy03 hy04); have n0_ := Aside0.mk (show ABox w.heap.size (w6_.setCell ⟨g, 3 + 0, none⟩ (.string a)) g 5 300 sm (d2 a b) from (AB.out.below hb).put 0 a); have n1_ := Aside0.mk (below_set (below_step HB.out hb) AB.out.2.2 : Below w.heap.size w (w6_.setCell ⟨g, 3 + 0, none⟩ (.string a))); have n2_ := Aside0.mk (Kd.R_set (Kd.R_below HO.out hb) (AB.out.below hb).2.1 (by decide) (3 + 0) (.string a)); have n3_ := Aside0.mk (Kd.R_set (Kd.R_below HV.out hb) (AB.out.below hb).2.1 (by decide) (3 + 0) (.string a)); clear HV; have HV := n3_; clear n3_; clear AB HB HO; have AB := n0_; have HB := n1_; have HO := n2_; clear n0_ n1_ n2_ hb; generalize (w6_.setCell ⟨g, 3 + 0, none⟩ (.string a)) = w9_ at AB HB HO HV ⊢))
  go_upto_region 10 with (first | (go_at_call 17; (refine (shard_Text.all 5 300 sm (d2 a b) 2 w.heap.size g _ AB.out ((pieces_is 5 300 sm (by decide) (by decide)).trans rfl) (by decide) k HM2.out (TabW.below HT.out HB.out) HS.out HJL.out).mono ?_); rintro e_ w11_ ⟨rfl, hb⟩; rw [HJ.out]; have n1_ := Aside0.mk (below_step HB.out hb); have n2_ := Aside0.mk (Kd.R_below HO.out hb); have n3_ := Aside0.mk (Kd.R_below HV.out hb); clear AB HB HO HV; have HB := n1_; have HO := n2_; have HV := n3_; clear n1_ n2_ n3_ hb))
  obtain ⟨ad1, eA1, hx10, hx11, hx12, hx13⟩ := at_T36 (Kd.R_reads' HO.out).2.2 1 (by decide) (show (1 : Int) < 2 by decide)
  obtain rfl : ad = ad1 := Option.some.inj eA1
  clear eA1
  have hr_ : rd_T36 [⟨5, 0, a, p⟩, ⟨5, 1, b, q⟩] 1 = ⟨5, 1, b, q⟩ := rfl
  rw [hr_] at hx10 hx11 hx12 hx13
  clear hr_
  have hy10 : w11_.cell? ⟨ad.block, ad.off + 4, none⟩ = some (.int .i64 5) := hx10
  have hy11 : w11_.cell? ⟨ad.block, ad.off + 4 + 1, none⟩ = some (.int .i64 1) := hx11
  have hy12 : w11_.cell? ⟨ad.block, ad.off + 4 + 2, none⟩ = some (.string b) := hx12
  have hy13 : w11_.cell? ⟨ad.block, ad.off + 4 + 3, none⟩ = some (.int .i64 q) := hx13
  have k44 : ((b.size : Int) == 44) = true := by rw [HBS.out]; decide
  have k45 : b.size = 44 := HBS.out
  go_wp2_with (first | (go_at_call 22; have hro : Kd.R (Kd.int .i64) 3 (w11_.alloc (.cells #[.int .i64 0] 3)) w11_.heap.size (fun _ => True) (.slice (some ⟨w11_.heap.size, 0, none⟩) 1 1) [(0 : Int)] := ⟨fun _ _ => trivial, OwnRow.lit (ps := [(0 : Int)]) w11_ _ (Reps.one (show Kd.M (Kd.int .i64) _ _ _ (0 : Int) [.int .i64 0] from rfl) (Reps.none _ _)) (Nat.le_refl _) (by decide)⟩; (refine (sextonplain_Ints.calls k AM cM [0] (some ⟨w11_.heap.size, 0, none⟩) 1 [0] true _ (Kd.C_below (Kd.R_reads' HV.out).2.2 (below_alloc (Below.refl _ _) _)) (Kd.R_reads' HV.out).2.1 (Kd.R_reads' hro).2.2 (Nat.le_refl _) HI.out).mono ?_); rintro e_ w12_ ⟨rfl, ⟨nd, rfl⟩⟩; have hb := below_dN (w11_.alloc (.cells #[.int .i64 0] 3)) nd; have n1_ := Aside0.mk (below_step (below_alloc HB.out _) hb); clear HB; have HB := n1_; clear n1_ hro))
  go_ret
  exact ⟨rfl, HB.out⟩
end Go.Proofs.YtoclacnhckpkfaaDoor.FA
