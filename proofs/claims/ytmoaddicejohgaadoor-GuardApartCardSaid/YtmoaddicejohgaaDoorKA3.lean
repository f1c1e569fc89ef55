/- Packed: Guard10, Laid, Open10, GuardApart, GuardApartCard, as far as guardApartCard_holds needs them. No conditions but those that stand in the statements. -/
import Derived.Test.YtmoaddicejohgaaDoorKA2
import Derived.Test.YtmoaddicejohgaaDoorRows
import Derived.LaidMore
import Derived.OpenShut
import Derived.Stop.Joined
import Derived.MakeChecks
import Derived.ChangeMaps5
import Derived.Test.YtmoaddicejohgaaDoorCards
import Derived.Test.YtmoaddicejohgaaDoorTie
import Derived.SevenTiedAt
set_option linter.unusedSimpArgs false
set_option linter.unusedVariables false
set_option maxRecDepth 100000
set_option maxHeartbeats 4000000
namespace Go.Proofs.YtmoaddicejohgaaDoor
open Go
open List (getD_cons_zero getD_cons_succ set_cons_zero set_cons_succ)
theorem expO_len (sl il : List UInt8) : ∀ k, (expO sl il k).length = 32 * k
  | 0 => rfl
  | k + 1 => by
    show (expO sl il k ++ expT sl il (k + 1)).length = _
    rw [List.length_append, expO_len sl il k, expT_succ, macL_len]; omega
theorem labL_len (sl : List UInt8) (nm : ByteArray) (cl : List UInt8) (n : Nat) : (labL sl nm cl n).length = n := by
  unfold labL; rw [List.length_take, expO_len]; omega
theorem kKey_size (sl : List UInt8) : (kKey sl).size = 16 := by unfold kKey; rw [bsz, labL_len]
theorem kIv_size (sl : List UInt8) : (kIv sl).size = 12 := by unfold kIv; rw [bsz, labL_len]
theorem kMask_size (sl : List UInt8) : (kMask sl).size = 16 := by unfold kMask; rw [bsz, labL_len]
theorem kNext_size (sl : List UInt8) : (kNext sl).size = 32 := by unfold kNext; rw [bsz, labL_len]
theorem kCli_size (sl : List UInt8) : (kCli sl).size = 32 := by unfold kCli; rw [bsz, labL_len]
theorem kSrv_size (sl : List UInt8) : (kSrv sl).size = 32 := by unfold kSrv; rw [bsz, labL_len]
theorem keys_right (sl : List UInt8) : rightB (kKey sl) (kIv sl) (kMask sl) = true := by
  unfold rightB; rw [kKey_size, kIv_size, kMask_size]; rfl
theorem Back.keys {a b c a' b' c' : ByteArray} {hl cl : List UInt8} {sz nu : Nat} (h : Back a b c hl cl sz nu) (hr : rightB a' b' c' = true) : Back a' b' c' hl cl sz nu := ⟨h.s1, h.s4, h.nb, hr, h.hl1, h.first, h.low, h.tail⟩
theorem Back.sealE {a b c : ByteArray} {hl cl : List UInt8} {sz nu : Nat} (h : Back a b c hl cl sz nu) (hc : cl.length ≤ 65000) : sealE a b c hl (sz : Nat) (nu : Nat) cl.length = 0 := by
  obtain ⟨h1, h2, h3, h4, h5, h6, h7, h8⟩ := h
  have hm : ((sz : Nat) : Int).toNat = sz := by omega
  have hnm : ((nu : Nat) : Int).toNat = nu := by omega
  unfold Go.Proofs.YtmoaddicejohgaaDoor.sealE
  rw [if_pos ⟨by omega, by omega, by omega, by omega, h4, by omega⟩, hm, hnm, if_pos ⟨h6, h7⟩, if_neg (by omega), if_neg (by omega)]
theorem apart10_calls (a b c hd ca ds : ByteArray) (size number ex : Int) (ft : Bool) (w : World) (hs1 : -9223372036854775808 ≤ size) (hs2 : size ≤ 9223372036854775807) (hT : Tabs w) : Ret Tryd.prog 7 #[.agg #[.string a, .string b, .string c, .string hd, I64 size, I64 number, .string ca, I64 ex, BV ft], .string ds] w fun v w' => v = BV true ∧ Chg [] w w' := by
 have hex : (ca.extract 0 (min ca.size 100)).size = min ca.size 100 := by rw [ByteArray.size_extract]; omega
 have hds : (ds.extract 0 (min ds.size 20)).size = min ds.size 20 := by rw [ByteArray.size_extract]; omega
 refine Ret.enter Tryd.func7 rfl ?_
 simp only [Tryd.ntmps7, fe, Nat.reduceAdd, Nat.reduceSub]
 have hH := Hp.start [] w
 refine wp_seq_k ?_
 intro K1 hK1
 refine wrt [.x 0, .p 1] ?_
 refine plan_box rfl rfl hH rfl ?_
 clear hH
 intro b2 w3 hH
 (try simp only [nf, nh, Value.cells, arrB_set] at hH ⊢)
 refine pa ?_;simp only [nf]
 refine plan_nil hH ?_
 clear hH
 intro w4 hH
 refine hK1 _ _ ?_
 (try clear hK1 K1)
 refine wp_seq_k ?_
 intro K5 hK5
 refine wrt [.p 0, .p 1, .p 2, .p 3, .p 4, .p 5] ?_
 refine pm (pm ?_);simp only [nf]
 refine pp rfl rfl (pr_len_str rfl Tryd.underlying9) ?_;simp only [nf]
 refine pp rfl rfl (by first | exact pr_min_n (n := 20) rfl rfl | exact pr_min rfl rfl) ?_;simp only [nf]
 refine pp rfl rfl (pr_slice_str_h rfl rfl Tryd.underlying9 (by first | omega | ((rw [hex]; omega)))) ?_;simp only [nf]
 refine pa ?_;simp only [nf]
 refine plan_nil hH ?_
 clear hH
 intro w6 hH
 refine hK5 _ _ ?_
 (try clear hK5 K5)
 refine wp_seq_k ?_
 intro K7 hK7
 refine wrt [.p 0, .q 1, .p 2, .p 3, .p 4, .p 5, .p 6, .p 7, .p 8] ?_
 refine pm ?_;simp only [nf]
 refine pq rfl rfl (qr_call cf18 (fun w' hw => keysFirst_calls _ w' (hT.grow (hH.chg.trans hw)) (by rw [hds]; omega)) rfl) ?_;simp only [nf]
 refine pm ?_;simp only [nf]
 refine pp rfl rfl (pr_extract rfl rfl) ?_;simp only [nf]
 refine pp rfl rfl (pr_extract rfl rfl) ?_;simp only [nf]
 refine pp rfl rfl (pr_extract rfl rfl) ?_;simp only [nf]
 refine pa (pa (pa ?_));simp only [nf]
 refine plan_nil hH ?_
 clear hH
 intro w8 hH
 refine hK7 _ _ ?_
 (try clear hK7 K7)
 refine wp_seq_k ?_
 intro K9 hK9
 refine wrt [.p 0, .q 1, .p 2, .p 3, .p 4, .p 5, .p 6, .p 7, .p 8] ?_
 refine pm ?_;simp only [nf]
 refine pq rfl rfl (qr_call cf18 (fun w' hw => keysFirst_calls _ w' (hT.grow (hH.chg.trans hw)) (by rw [hds]; omega)) rfl) ?_;simp only [nf]
 refine pm ?_;simp only [nf]
 refine pp rfl rfl (pr_extract rfl rfl) ?_;simp only [nf]
 refine pp rfl rfl (pr_extract rfl rfl) ?_;simp only [nf]
 refine pp rfl rfl (pr_extract rfl rfl) ?_;simp only [nf]
 refine pa (pa (pa ?_));simp only [nf]
 refine plan_nil hH ?_
 clear hH
 intro w10 hH
 refine hK9 _ _ ?_
 (try clear hK9 K9)
 refine wp_seq_k ?_
 intro K11 hK11
 refine wrt [.p 0, .q 1, .p 2, .p 3, .p 4, .p 5, .p 6] ?_
 refine pm ?_;simp only [nf]
 refine pq rfl rfl (qr_call cf19 (fun w' hw => keysNext_calls _ w' (hT.grow (hH.chg.trans hw)) (kCli_size _)) rfl) ?_;simp only [nf]
 refine pm ?_;simp only [nf]
 refine pp rfl rfl (pr_extract rfl rfl) ?_;simp only [nf]
 refine pp rfl rfl (pr_extract rfl rfl) ?_;simp only [nf]
 refine pa (pa ?_);simp only [nf]
 refine plan_nil hH ?_
 clear hH
 intro w12 hH
 refine hK11 _ _ ?_
 (try clear hK11 K11)
 refine wp_seq_k ?_
 intro K13 hK13
 refine wrt [.p 0, .q 1, .p 2, .p 3, .p 4, .x 5, .e 6, .p 7] ?_
 refine pm ?_;simp only [nf]
 refine pq rfl rfl (qr_call cf20 (fun w' hw => keysOf_calls _ w' (hT.grow (hH.chg.trans hw)) (by simp only [kCli_size, kSrv_size, kNext_size])) rfl) ?_;simp only [nf]
 refine pm ?_;simp only [nf]
 refine pp rfl rfl (pr_extract rfl rfl) ?_;simp only [nf]
 refine pp rfl rfl (pr_extract rfl rfl) ?_;simp only [nf]
 refine plan_alloc rfl rfl hH zc37 ?_
 clear hH
 intro b14 w15 hH
 (try simp only [nf, nh, Value.cells, arrB_set] at hH ⊢)
 refine plan_storeW 1 rfl rfl hH rfl rfl rfl (by simp [Value.oneCell']) sz37 (by simp) (by simp) ?_
 clear hH
 intro w16 hH
 (try simp only [nf, nh, Value.cells, arrB_set] at hH ⊢)
 refine pa ?_;simp only [nf]
 refine plan_nil hH ?_
 clear hH
 intro w17 hH
 refine hK13 _ _ ?_
 (try clear hK13 K13)
 refine wp_seq_k ?_
 intro K18 hK18
 refine wrt [.p 0, .q 1, .p 2, .p 3, .p 4, .x 5, .e 6, .p 7] ?_
 refine pm ?_;simp only [nf]
 refine pq rfl rfl (qr_call cf20 (fun w' hw => keysOf_calls _ w' (hT.grow (hH.chg.trans hw)) (by simp only [kCli_size, kSrv_size, kNext_size])) rfl) ?_;simp only [nf]
 refine pm ?_;simp only [nf]
 refine pp rfl rfl (pr_extract rfl rfl) ?_;simp only [nf]
 refine pp rfl rfl (pr_extract rfl rfl) ?_;simp only [nf]
 refine plan_alloc rfl rfl hH zc37 ?_
 clear hH
 intro b19 w20 hH
 (try simp only [nf, nh, Value.cells, arrB_set] at hH ⊢)
 refine plan_storeW 2 rfl rfl hH rfl rfl rfl (by simp [Value.oneCell']) sz37 (by simp) (by simp) ?_
 clear hH
 intro w21 hH
 (try simp only [nf, nh, Value.cells, arrB_set] at hH ⊢)
 refine pa ?_;simp only [nf]
 refine plan_nil hH ?_
 clear hH
 intro w22 hH
 refine hK18 _ _ ?_
 (try clear hK18 K18)
 refine wp_seq_k ?_
 intro K23 hK23
 refine wrt [.p 0, .q 1, .p 2, .p 3, .p 4, .x 5, .e 6, .p 7] ?_
 refine pm ?_;simp only [nf]
 refine pq rfl rfl (qr_call cf20 (fun w' hw => keysOf_calls _ w' (hT.grow (hH.chg.trans hw)) (by simp only [kCli_size, kSrv_size, kNext_size])) rfl) ?_;simp only [nf]
 refine pm ?_;simp only [nf]
 refine pp rfl rfl (pr_extract rfl rfl) ?_;simp only [nf]
 refine pp rfl rfl (pr_extract rfl rfl) ?_;simp only [nf]
 refine plan_alloc rfl rfl hH zc37 ?_
 clear hH
 intro b24 w25 hH
 (try simp only [nf, nh, Value.cells, arrB_set] at hH ⊢)
 refine plan_storeW 3 rfl rfl hH rfl rfl rfl (by simp [Value.oneCell']) sz37 (by simp) (by simp) ?_
 clear hH
 intro w26 hH
 (try simp only [nf, nh, Value.cells, arrB_set] at hH ⊢)
 refine pa ?_;simp only [nf]
 refine plan_nil hH ?_
 clear hH
 intro w27 hH
 have hr0 := keys_right ((kCli (macL salt1 (ds.extract 0 (min ds.size 20)).data.toList)).data.toList)
 have hr1 := keys_right ((kSrv (macL salt1 (ds.extract 0 (min ds.size 20)).data.toList)).data.toList)
 have hr2 := keys_right ((kNext (kCli (macL salt1 (ds.extract 0 (min ds.size 20)).data.toList)).data.toList).data.toList)
 generalize kKey ((kCli (macL salt1 (ds.extract 0 (min ds.size 20)).data.toList)).data.toList) = A0 at *
 generalize kIv ((kCli (macL salt1 (ds.extract 0 (min ds.size 20)).data.toList)).data.toList) = B0 at *
 generalize kMask ((kCli (macL salt1 (ds.extract 0 (min ds.size 20)).data.toList)).data.toList) = C0 at *
 generalize kKey ((kSrv (macL salt1 (ds.extract 0 (min ds.size 20)).data.toList)).data.toList) = A1 at *
 generalize kIv ((kSrv (macL salt1 (ds.extract 0 (min ds.size 20)).data.toList)).data.toList) = B1 at *
 generalize kMask ((kSrv (macL salt1 (ds.extract 0 (min ds.size 20)).data.toList)).data.toList) = C1 at *
 generalize kKey ((kNext (kCli (macL salt1 (ds.extract 0 (min ds.size 20)).data.toList)).data.toList).data.toList) = A2 at *
 generalize kIv ((kNext (kCli (macL salt1 (ds.extract 0 (min ds.size 20)).data.toList)).data.toList).data.toList) = B2 at *
 generalize kMask ((kNext (kCli (macL salt1 (ds.extract 0 (min ds.size 20)).data.toList)).data.toList).data.toList) = C2 at *
 refine hK23 _ _ ?_
 (try clear hK23 K23)
 refine wp_seq_k ?_
 intro K28 hK28
 refine wp_seq_k ?_
 intro K29 hK29
 refine wrt [.q 0, .p 1, .p 2, .p 3, .p 4, .p 5, .p 6, .p 7, .p 8, .p 9, .p 10, .p 11, .p 12, .p 13, .p 14, .p 15, .p 16, .p 17, .p 18, .p 19, .p 20, .p 21, .p 22, .p 23, .p 24, .p 25, .p 26, .p 27, .p 28, .p 29, .p 30, .p 31, .p 32, .p 33, .p 34, .p 35] ?_
 refine pq rfl rfl (qr_call cf8 (fun w' hw => guards_calls w' (hT.grow (hH.chg.trans hw))) rfl) ?_;simp only [nf]
 refine pp rfl rfl (pr_not rfl) ?_;simp only [nf]
 refine pm ?_;simp only [nf]
 refine plan_pc_f rfl rfl rfl (fun hb => by have hb' := hb; try simp only [gsl] at hb'; rw [hb]; exact pr_move) ?_
 (try simp only [nf])
 refine plan_pc_f rfl rfl rfl (fun hb => by have hb' := hb; try simp only [gsl] at hb'; rw [hb]; exact (pr_bin rfl rfl (by first | exact bin_neq_n (n := 0)  | exact bin_neq_i))) ?_
 (try simp only [nf])
 refine pp rfl rfl (pr_pick_or rfl rfl rfl) ?_;simp only [nf]
 refine pm ?_;simp only [nf]
 refine plan_pc_f rfl rfl rfl (fun hb => by have hb' := hb; try simp only [gsl] at hb'; rw [hb]; exact pr_move) ?_
 (try simp only [nf])
 refine plan_pc_f rfl rfl rfl (fun hb => by have hb' := hb; try simp only [gsl] at hb'; rw [hb]; exact (pr_bin rfl rfl (by first | exact bin_neq_n (n := 0)  | exact bin_neq_i))) ?_
 (try simp only [nf])
 refine pp rfl rfl (pr_pick_or rfl rfl rfl) ?_;simp only [nf]
 refine pm ?_;simp only [nf]
 refine plan_pc_f rfl rfl rfl (fun hb => by have hb' := hb; try simp only [gsl] at hb'; rw [hb]; exact pr_move) ?_
 (try simp only [nf])
 refine plan_pc_f rfl rfl rfl (fun hb => by have hb' := hb; try simp only [gsl] at hb'; rw [hb]; exact (pr_bin rfl rfl (by first | exact bin_neq_n (n := 0)  | exact bin_neq_i))) ?_
 (try simp only [nf])
 refine pp rfl rfl (pr_pick_or rfl rfl rfl) ?_;simp only [nf]
 refine pm ?_;simp only [nf]
 refine plan_pc_f rfl rfl rfl (fun hb => by have hb' := hb; try simp only [gsl] at hb'; rw [hb]; exact pr_move) ?_
 (try simp only [nf])
 refine plan_pc_f rfl rfl rfl (fun hb => by have hb' := hb; try simp only [gsl] at hb'; rw [hb]; exact (pr_bin rfl rfl (by first | exact bin_neq_n (n := 0)  | exact bin_neq_i))) ?_
 (try simp only [nf])
 refine pp rfl rfl (pr_pick_or rfl rfl rfl) ?_;simp only [nf]
 refine pm ?_;simp only [nf]
 refine plan_pc_f rfl rfl rfl (fun hb => by have hb' := hb; try simp only [gsl] at hb'; rw [hb]; exact pr_move) ?_
 (try simp only [nf])
 refine plan_pc_f rfl rfl rfl (fun hb => by have hb' := hb; try simp only [gsl] at hb'; rw [hb]; exact (pr_bin rfl rfl (by first | exact bin_neq_n (n := 0)  | exact bin_neq_i))) ?_
 (try simp only [nf])
 refine pp rfl rfl (pr_pick_or rfl rfl rfl) ?_;simp only [nf]
 refine pm ?_;simp only [nf]
 refine plan_pc_f rfl rfl rfl (fun hb => by have hb' := hb; try simp only [gsl] at hb'; rw [hb]; exact pr_move) ?_
 (try simp only [nf])
 refine plan_pc_f rfl rfl rfl (fun hb => by have hb' := hb; try simp only [gsl] at hb'; rw [hb]; exact (pr_bin rfl rfl (by first | exact bin_neq_n (n := 0)  | exact bin_neq_i))) ?_
 (try simp only [nf])
 refine pp rfl rfl (pr_pick_or rfl rfl rfl) ?_;simp only [nf]
 refine pm ?_;simp only [nf]
 refine plan_pc_f rfl rfl rfl (fun hb => by have hb' := hb; try simp only [gsl] at hb'; rw [hb]; exact pr_move) ?_
 (try simp only [nf])
 refine plan_pc_f rfl rfl rfl (fun hb => by have hb' := hb; try simp only [gsl] at hb'; rw [hb]; exact pr_move) ?_
 (try simp only [nf])
 refine plan_pc_f rfl rfl rfl (fun hb => by have hb' := hb; try simp only [gsl] at hb'; rw [hb]; exact (pr_bin rfl rfl bin_neq_s)) ?_
 (try simp only [nf])
 refine pp rfl rfl (pr_pick_or rfl rfl rfl) ?_;simp only [nf]
 refine pm ?_;simp only [nf]
 refine plan_pc_f rfl rfl rfl (fun hb => by have hb' := hb; try simp only [gsl] at hb'; rw [hb]; exact pr_move) ?_
 (try simp only [nf])
 refine plan_pc_f rfl rfl rfl (fun hb => by have hb' := hb; try simp only [gsl] at hb'; rw [hb]; exact pr_move) ?_
 (try simp only [nf])
 refine plan_pc_f rfl rfl rfl (fun hb => by have hb' := hb; try simp only [gsl] at hb'; rw [hb]; exact (pr_bin rfl rfl bin_neq_s)) ?_
 (try simp only [nf])
 refine pp rfl rfl (pr_pick_or rfl rfl rfl) ?_;simp only [nf]
 refine plan_nil hH ?_
 clear hH
 intro w30 hH
 refine hK29 _ _ ?_
 (try clear hK29 K29)
 refine wp_cond_false (by show BV _ = _; simp) ?_
 refine wp_skip ?_
 refine hK28 _ _ ?_
 (try clear hK28 K28)
 refine wp_seq_k ?_
 intro K31 hK31
 refine wrt [.p 0, .q 1, .p 2, .q 3, .p 4, .q 5, .p 6, .p 7, .e 8, .p 9, .e 10] ?_
 refine pp rfl rfl (pr_fieldAddr 0 rfl Tryd.underlying37 rfl rfl sz9) ?_;simp only [nf]
 refine pq rfl rfl (qr_load1 rfl Tryd.underlying9 rfl ((hH.blk 1 rfl).cell rfl)) ?_;simp only [nf]
 refine pp rfl rfl (pr_fieldAddr 1 rfl Tryd.underlying37 rfl rfl sz9) ?_;simp only [nf]
 refine pq rfl rfl (qr_load1 rfl Tryd.underlying9 rfl ((hH.blk 1 rfl).cell rfl)) ?_;simp only [nf]
 refine pp rfl rfl (pr_fieldAddr 2 rfl Tryd.underlying37 rfl rfl sz9) ?_;simp only [nf]
 refine pq rfl rfl (qr_load1 rfl Tryd.underlying9 rfl ((hH.blk 1 rfl).cell rfl)) ?_;simp only [nf]
 refine pp rfl rfl (pr_build (by rfl) (bd30_0_1_2 _ _ _)) ?_;simp only [nf]
 refine pp rfl rfl (pr_fieldAddr 0 rfl Tryd.underlying32 rfl rfl sz30) ?_;simp only [nf]
 refine plan_storeN 0 rfl rfl hH rfl rfl rfl (by simp [Value.oneCell']) sz30 (by simp) (by simp <;> omega) ?_
 clear hH
 intro w32 hH
 (try simp only [nf, nh, Value.cells, arrB_set] at hH ⊢)
 simp only [spl, Nat.reduceAdd] at hH
 refine pp rfl rfl (pr_fieldAddr 8 rfl Tryd.underlying32 rfl rfl sz4) ?_;simp only [nf]
 refine plan_store1 0 rfl rfl hH rfl rfl rfl rfl sz4 (by simp <;> omega) ?_
 clear hH
 intro w33 hH
 (try simp only [nf, nh, Value.cells, arrB_set] at hH ⊢)
 refine plan_nil hH ?_
 clear hH
 intro w34 hH
 refine hK31 _ _ ?_
 (try clear hK31 K31)
 refine wp_seq_k ?_
 intro K35 hK35
 refine wrt [.q 0, .x 1, .p 2] ?_
 refine pq rfl rfl (qr_loadW rfl (hH.blk 0 rfl) Tryd.underlying32 rfl sz32 (by simp)) ?_;simp only [nf]
 refine plan_callx rfl rfl hH cf11 (fun w' hH => fit_calls _ _ _ _ _ _ _ _ _ w' (by omega) (by omega)) rfl (fun _ _ _ h => by obtain ⟨_, _, hg, _⟩ := h; exact hg) ?_
 clear hH
 intro w36 v37 w38 hH hp39
 obtain ⟨s, rfl, hg, hsz⟩ := hp39
 replace hH := hH.call hg
 clear hg
 (try simp only [nf])
 refine pa ?_;simp only [nf]
 refine plan_nil hH ?_
 clear hH
 intro w40 hH
 refine hK35 _ _ ?_
 (try clear hK35 K35)
 refine wp_seq_k ?_
 intro K41 hK41
 by_cases hE : sealE A0 B0 C0 s.data.toList size number (ca.extract 0 (min ca.size 100)).data.toList.length = 0
 ·
  obtain ⟨q1, q2, q3, q4, q5, q6, q7, q8, q9, q10⟩ := sealE_ok hE
  obtain ⟨sz, rfl⟩ : ∃ k : Nat, size = k := ⟨size.toNat, by omega⟩
  obtain ⟨nu, rfl⟩ : ∃ k : Nat, number = k := ⟨number.toNat, by omega⟩
  have hm : ((sz : Nat) : Int).toNat = sz := by omega
  have hnm : ((nu : Nat) : Int).toNat = nu := by omega
  have hB := Back.of hE
  have hB0 := hB
  have hB1 : Back A1 B1 C1 s.data.toList (ca.extract 0 (min ca.size 100)).data.toList sz nu := hB.keys hr1
  have hB2 : Back A2 B2 C2 s.data.toList (ca.extract 0 (min ca.size 100)).data.toList sz nu := hB.keys hr2
  have hsl : s.data.toList.length = s.size := str_len s
  have hcl : (ca.extract 0 (min ca.size 100)).data.toList.length = min ca.size 100 := hex
  have hE1 := hB1.sealE (by omega)
  have hE2 := hB2.sealE (by omega)
  have hsz1 : sz + 1 ≤ s.size := by have := hB.hl1; omega
  clear q7 q8 q9 q10
  refine wp_region_pend [] [] (Chg []) (by kernel_rfl) ?_
  refine Pend.plan (n := 8) Far.grown (by kernel_rfl) (fun _ _ _ _ _ h => by first | exact h | exact BP.panic _ _ _ _ _ h) [.p 1, .p 3, .p 5, .p 7, .p 9, .q 0, .q 4, .q 6, .q 8, .q 10, .p 11, .p 12, .p 13] [] _ _ (by simp [AllR]) (by simp [effects]) (by simp [marked]) (by kernel_rfl) ?_
  refine pm ?_;simp only [nf]
  refine pp rfl rfl (pr_fieldAddr 4 rfl Tryd.underlying32 rfl rfl sz3) ?_;simp only [nf]
  refine pp rfl rfl (pr_fieldAddr 5 rfl Tryd.underlying32 rfl rfl sz3) ?_;simp only [nf]
  refine pp rfl rfl (pr_fieldAddr 6 rfl Tryd.underlying32 rfl rfl sz9) ?_;simp only [nf]
  refine pp rfl rfl (pr_fieldAddr 6 rfl Tryd.underlying32 rfl rfl sz9) ?_;simp only [nf]
  refine pq rfl rfl (qr_loadW rfl (hH.blk 1 rfl) Tryd.underlying37 rfl sz37 (by simp)) ?_;simp only [nf]
  refine pq rfl rfl (qr_load1 rfl Tryd.underlying3 rfl ((hH.blk 0 rfl).cell rfl)) ?_;simp only [nf]
  refine pq rfl rfl (qr_load1 rfl Tryd.underlying3 rfl ((hH.blk 0 rfl).cell rfl)) ?_;simp only [nf]
  refine pq rfl rfl (qr_load1 rfl Tryd.underlying9 rfl ((hH.blk 0 rfl).cell rfl)) ?_;simp only [nf]
  refine pq rfl rfl (qr_load1 rfl Tryd.underlying9 rfl ((hH.blk 0 rfl).cell rfl)) ?_;simp only [nf]
  refine pp rfl rfl (pr_len_str rfl Tryd.underlying9) ?_;simp only [nf]
  refine pp rfl rfl (by first | exact pr_min_n (n := 100) rfl rfl | exact pr_min rfl rfl) ?_;simp only [nf]
  refine pp rfl rfl (pr_slice_str_h rfl rfl Tryd.underlying9 (by first | omega | ((rw [hex]; omega)))) ?_;simp only [nf]
  refine plan_nil hH ?_
  clear hH
  intro w42 hH
  refine Pend.join2 (n := 6) Far.grown (by kernel_rfl) (fun _ _ _ _ _ h => by first | exact h | exact BP.panic _ _ _ _ _ h) 2 14 hH (by decide) (by kernel_rfl) (by kernel_rfl) (by kernel_rfl) (by kernel_rfl) (xs_s2b rfl rfl (fun _ => rfl) rfl (fun _ => rfl) Tryd.underlying9 Tryd.underlying22 Tryd.underlying5) (xs_s2b rfl rfl (fun _ => rfl) rfl (fun _ => rfl) Tryd.underlying9 Tryd.underlying22 Tryd.underlying5) ?_
  clear hH
  intro v43 es44 v45 es46 w47 hR48 hR49 hH
  obtain ⟨o50, cap51, cs52, rfl, hO53, rfl⟩ := hR48
  obtain ⟨o54, cap55, cs56, rfl, hO57, rfl⟩ := hR49
  (try simp only [nf] at hH ⊢)
  (try simp only [nf, nh, Value.cells, arrB_set] at hH ⊢)
  refine Pend.plan (n := 0) Far.grown (by kernel_rfl) (fun _ _ _ _ _ h => by first | exact h | exact BP.panic _ _ _ _ _ h) [.x 15, .p 16, .p 17, .p 18, .p 19, .p 20] [14, 2, 13, 12, 11, 10, 8, 6, 4, 0, 9, 7, 5, 3, 1] _ _ (by simp [AllR]) (by simp [effects]) (by simp [marked]) (by kernel_rfl) ?_
  refine plan_callx rfl rfl hH cf13 (fun w' hH => (gseal_calls A0 B0 C0 _ _ _ _ _ _ w' (OwnC.sl hH 4 rfl hO53) (OwnC.sl hH 5 rfl hO57) (by rw [str_len]; omega) (by rw [str_len, hex]; omega) (by omega) (by omega)).mono fun v w' h => h.1 hE) rfl (fun _ _ _ h => by obtain ⟨_, _, _, _, hg, _⟩ := h; exact hg) ?_
  clear hH
  intro w58 v59 w60 hH hp61
  obtain ⟨o62, cap63, cs64, rfl, hg, hO65, hfr⟩ := hp61
  replace hH := hH.callown hg hfr
  clear hg hfr
  (try simp only [nf, nh, Value.cells, arrB_set] at hH ⊢)
  (try simp only [nf])
  refine pm ?_;simp only [nf]
  refine pp rfl rfl (pr_extract rfl rfl) ?_;simp only [nf]
  refine pp rfl rfl (pr_extract rfl rfl) ?_;simp only [nf]
  refine pa (pa ?_);simp only [nf]
  refine plan_nil hH ?_
  clear hH
  intro w66 hH
  refine Pend.done (by kernel_rfl) ?_
  intro w67 hw68
  replace hH := hH.call hw68; clear hw68
  simp only [hm, hnm] at hO65 ⊢
  refine hK41 _ _ ?_
  (try clear hK41 K41)
  refine wp_seq_k ?_
  intro K69 hK69
  refine wp_seq_k ?_
  intro K70 hK70
  refine wrt [.p 0, .p 1] ?_
  refine pm ?_;simp only [nf]
  refine pp rfl rfl (pr_bin rfl rfl (by first | exact bin_neq_n (n := 0)  | exact bin_neq_i)) ?_;simp only [nf]
  refine plan_nil hH ?_
  clear hH
  intro w71 hH
  refine hK70 _ _ ?_
  (try clear hK70 K70)
  refine wp_cond_false rfl ?_
  refine wp_skip ?_
  refine hK69 _ _ ?_
  (try clear hK69 K69)
  refine wp_seq_k ?_
  intro K72 hK72
  refine wrt [.p 0, .p 1, .p 2, .q 3, .p 4, .p 5] ?_
  refine pm ?_;simp only [nf]
  refine pp rfl rfl (pr_len_str rfl Tryd.underlying9) ?_;simp only [nf]
  refine pp rfl rfl (pr_fieldAddr 4 rfl Tryd.underlying32 rfl rfl sz3) ?_;simp only [nf]
  refine pq rfl rfl (qr_load1 rfl Tryd.underlying3 rfl ((hH.blk 0 rfl).cell rfl)) ?_;simp only [nf]
  refine pp rfl rfl (pr_bin rfl rfl (by first | exact bin_sub_n (by first | omega | ((rw [hex]; omega))) (by first | omega | ((rw [hex]; omega))) | exact bin_sub_i (by first | omega | ((rw [hex]; omega))) (by first | omega | ((rw [hex]; omega))))) ?_;simp only [nf]
  refine pa ?_;simp only [nf]
  refine plan_nil hH ?_
  clear hH
  intro w73 hH
  refine hK72 _ _ ?_
  (try clear hK72 K72)
  refine wp_seq_k ?_
  intro K74 hK74
  refine wrt [.q 0, .p 1, .p 2, .p 3, .q 4, .x 5, .p 6, .p 7, .p 8, .p 9, .p 10, .p 11, .p 12, .p 13, .p 14] ?_
  refine pq rfl rfl (qr_loadW rfl (hH.blk 1 rfl) Tryd.underlying37 rfl sz37 (by simp)) ?_;simp only [nf]
  refine pm (pm ?_);simp only [nf]
  refine pp rfl rfl (pr_fieldAddr 5 rfl Tryd.underlying32 rfl rfl sz3) ?_;simp only [nf]
  refine pq rfl rfl (qr_load1 rfl Tryd.underlying3 rfl ((hH.blk 0 rfl).cell rfl)) ?_;simp only [nf]
  refine plan_callx rfl rfl hH cf16 (fun w' hH => gopen_back A0 B0 C0 s.data.toList (ca.extract 0 (min ca.size 100)).data.toList sz nu nu _ w' hB0 hB.nb (Nat.le_add_right _ _) (Nat.le_add_right _ _) (OwnC.sl hH 6 rfl hO65) (by omega) (by omega)) rfl (fun _ _ _ h => by obtain ⟨_, _, _, _, _, _, hg, _⟩ := h; exact hg.chg) ?_
  clear hH
  intro w75 v76 w77 hH hp78
  obtain ⟨o79, cs80, o81, cap82, cs83, rfl, hg, hD84, hO85⟩ := hp78
  replace hH := hH.join hg
  clear hg
  (try simp only [nf, nh, Value.cells, arrB_set] at hH ⊢)
  (try simp only [nf])
  refine pm ?_;simp only [nf]
  refine pp rfl rfl (pr_extract rfl rfl) ?_;simp only [nf]
  refine pp rfl rfl (pr_extract rfl rfl) ?_;simp only [nf]
  refine pp rfl rfl (pr_extract rfl rfl) ?_;simp only [nf]
  refine pp rfl rfl (pr_extract rfl rfl) ?_;simp only [nf]
  refine pa (pa (pa (pa ?_)));simp only [nf]
  refine plan_nil hH ?_
  clear hH
  intro w86 hH
  refine hK74 _ _ ?_
  (try clear hK74 K74)
  refine wp_seq_k ?_
  intro K87 hK87
  refine wrt [.q 0, .p 1, .x 2, .p 3, .q 4, .p 5, .q 6, .p 7, .x 8, .p 9, .p 10, .p 11, .p 12, .p 13] ?_
  refine pq rfl rfl (qr_loadW rfl (hH.blk 2 rfl) Tryd.underlying37 rfl sz37 (by simp)) ?_;simp only [nf]
  refine pm ?_;simp only [nf]
  refine plan_s2b rfl rfl hH rfl Tryd.underlying9 Tryd.underlying22 Tryd.underlying5 ?_
  clear hH
  intro b88 cap89 cs90 w91 hO92 hH
  (try simp only [nf] at hH ⊢)
  (try simp only [nf, nh, Value.cells, arrB_set] at hH ⊢)
  refine pp rfl rfl (pr_fieldAddr 4 rfl Tryd.underlying32 rfl rfl sz3) ?_;simp only [nf]
  refine pq rfl rfl (qr_load1 rfl Tryd.underlying3 rfl ((hH.blk 0 rfl).cell rfl)) ?_;simp only [nf]
  refine pp rfl rfl (pr_fieldAddr 5 rfl Tryd.underlying32 rfl rfl sz3) ?_;simp only [nf]
  refine pq rfl rfl (qr_load1 rfl Tryd.underlying3 rfl ((hH.blk 0 rfl).cell rfl)) ?_;simp only [nf]
  refine pm ?_;simp only [nf]
  refine plan_callx rfl rfl hH cf13 (fun w' hH => (gseal_calls A1 B1 C1 _ _ _ _ ((sz : Nat) : Int) ((nu : Nat) : Int) w' (OwnC.sl hH 9 rfl hO92) (OwnC.sl hH 8 rfl hO85) (by rw [str_len]; omega) (by rw [str_len, hex]; omega) (by omega) (by omega)).mono fun v w' h => h.1 hE1) rfl (fun _ _ _ h => by obtain ⟨_, _, _, _, hg, _⟩ := h; exact hg) ?_
  clear hH
  intro w93 v94 w95 hH hp96
  obtain ⟨o97, cap98, cs99, rfl, hg, hO100, hfr⟩ := hp96
  replace hH := hH.callown hg hfr
  clear hg hfr
  (try simp only [nf, nh, Value.cells, arrB_set] at hH ⊢)
  (try simp only [nf])
  refine pm ?_;simp only [nf]
  refine pp rfl rfl (pr_extract rfl rfl) ?_;simp only [nf]
  refine pp rfl rfl (pr_extract rfl rfl) ?_;simp only [nf]
  refine pa (pa ?_);simp only [nf]
  refine plan_nil hH ?_
  clear hH
  intro w101 hH
  simp only [hm, hnm] at hO100 ⊢
  refine hK87 _ _ ?_
  (try clear hK87 K87)
  refine wp_seq_k ?_
  intro K102 hK102
  refine wrt [.q 0, .p 1, .p 2, .p 3, .q 4, .x 5, .p 6, .p 7, .p 8, .p 9, .p 10, .p 11, .p 12, .p 13, .p 14] ?_
  refine pq rfl rfl (qr_loadW rfl (hH.blk 2 rfl) Tryd.underlying37 rfl sz37 (by simp)) ?_;simp only [nf]
  refine pm (pm ?_);simp only [nf]
  refine pp rfl rfl (pr_fieldAddr 5 rfl Tryd.underlying32 rfl rfl sz3) ?_;simp only [nf]
  refine pq rfl rfl (qr_load1 rfl Tryd.underlying3 rfl ((hH.blk 0 rfl).cell rfl)) ?_;simp only [nf]
  refine plan_callx rfl rfl hH cf16 (fun w' hH => gopen_back A1 B1 C1 s.data.toList (ca.extract 0 (min ca.size 100)).data.toList sz nu nu _ w' hB1 hB.nb (Nat.le_add_right _ _) (Nat.le_add_right _ _) (OwnC.sl hH 10 rfl hO100) (by omega) (by omega)) rfl (fun _ _ _ h => by obtain ⟨_, _, _, _, _, _, hg, _⟩ := h; exact hg.chg) ?_
  clear hH
  intro w103 v104 w105 hH hp106
  obtain ⟨o107, cs108, o109, cap110, cs111, rfl, hg, hD112, hO113⟩ := hp106
  replace hH := hH.join hg
  clear hg
  (try simp only [nf, nh, Value.cells, arrB_set] at hH ⊢)
  (try simp only [nf])
  refine pm ?_;simp only [nf]
  refine pp rfl rfl (pr_extract rfl rfl) ?_;simp only [nf]
  refine pp rfl rfl (pr_extract rfl rfl) ?_;simp only [nf]
  refine pp rfl rfl (pr_extract rfl rfl) ?_;simp only [nf]
  refine pp rfl rfl (pr_extract rfl rfl) ?_;simp only [nf]
  refine pa (pa (pa (pa ?_)));simp only [nf]
  refine plan_nil hH ?_
  clear hH
  intro w114 hH
  refine hK102 _ _ ?_
  (try clear hK102 K102)
  refine wp_seq_k ?_
  intro K115 hK115
  refine wrt [.q 0, .p 1, .x 2, .p 3, .q 4, .p 5, .q 6, .p 7, .x 8, .p 9, .p 10, .p 11, .p 12, .p 13] ?_
  refine pq rfl rfl (qr_loadW rfl (hH.blk 3 rfl) Tryd.underlying37 rfl sz37 (by simp)) ?_;simp only [nf]
  refine pm ?_;simp only [nf]
  refine plan_s2b rfl rfl hH rfl Tryd.underlying9 Tryd.underlying22 Tryd.underlying5 ?_
  clear hH
  intro b116 cap117 cs118 w119 hO120 hH
  (try simp only [nf] at hH ⊢)
  (try simp only [nf, nh, Value.cells, arrB_set] at hH ⊢)
  refine pp rfl rfl (pr_fieldAddr 4 rfl Tryd.underlying32 rfl rfl sz3) ?_;simp only [nf]
  refine pq rfl rfl (qr_load1 rfl Tryd.underlying3 rfl ((hH.blk 0 rfl).cell rfl)) ?_;simp only [nf]
  refine pp rfl rfl (pr_fieldAddr 5 rfl Tryd.underlying32 rfl rfl sz3) ?_;simp only [nf]
  refine pq rfl rfl (qr_load1 rfl Tryd.underlying3 rfl ((hH.blk 0 rfl).cell rfl)) ?_;simp only [nf]
  refine pm ?_;simp only [nf]
  refine plan_callx rfl rfl hH cf13 (fun w' hH => (gseal_calls A2 B2 C2 _ _ _ _ ((sz : Nat) : Int) ((nu : Nat) : Int) w' (OwnC.sl hH 13 rfl hO120) (OwnC.sl hH 8 rfl hO85) (by rw [str_len]; omega) (by rw [str_len, hex]; omega) (by omega) (by omega)).mono fun v w' h => h.1 hE2) rfl (fun _ _ _ h => by obtain ⟨_, _, _, _, hg, _⟩ := h; exact hg) ?_
  clear hH
  intro w121 v122 w123 hH hp124
  obtain ⟨o125, cap126, cs127, rfl, hg, hO128, hfr⟩ := hp124
  replace hH := hH.callown hg hfr
  clear hg hfr
  (try simp only [nf, nh, Value.cells, arrB_set] at hH ⊢)
  (try simp only [nf])
  refine pm ?_;simp only [nf]
  refine pp rfl rfl (pr_extract rfl rfl) ?_;simp only [nf]
  refine pp rfl rfl (pr_extract rfl rfl) ?_;simp only [nf]
  refine pa (pa ?_);simp only [nf]
  refine plan_nil hH ?_
  clear hH
  intro w129 hH
  simp only [hm, hnm] at hO128 ⊢
  refine hK115 _ _ ?_
  (try clear hK115 K115)
  refine wp_seq_k ?_
  intro K130 hK130
  refine wrt [.q 0, .p 1, .p 2, .p 3, .q 4, .x 5, .p 6, .p 7, .p 8, .p 9, .p 10, .p 11, .p 12, .p 13, .p 14] ?_
  refine pq rfl rfl (qr_loadW rfl (hH.blk 3 rfl) Tryd.underlying37 rfl sz37 (by simp)) ?_;simp only [nf]
  refine pm (pm ?_);simp only [nf]
  refine pp rfl rfl (pr_fieldAddr 5 rfl Tryd.underlying32 rfl rfl sz3) ?_;simp only [nf]
  refine pq rfl rfl (qr_load1 rfl Tryd.underlying3 rfl ((hH.blk 0 rfl).cell rfl)) ?_;simp only [nf]
  refine plan_callx rfl rfl hH cf16 (fun w' hH => gopen_back A2 B2 C2 s.data.toList (ca.extract 0 (min ca.size 100)).data.toList sz nu nu _ w' hB2 hB.nb (Nat.le_add_right _ _) (Nat.le_add_right _ _) (OwnC.sl hH 14 rfl hO128) (by omega) (by omega)) rfl (fun _ _ _ h => by obtain ⟨_, _, _, _, _, _, hg, _⟩ := h; exact hg.chg) ?_
  clear hH
  intro w131 v132 w133 hH hp134
  obtain ⟨o135, cs136, o137, cap138, cs139, rfl, hg, hD140, hO141⟩ := hp134
  replace hH := hH.join hg
  clear hg
  (try simp only [nf, nh, Value.cells, arrB_set] at hH ⊢)
  (try simp only [nf])
  refine pm ?_;simp only [nf]
  refine pp rfl rfl (pr_extract rfl rfl) ?_;simp only [nf]
  refine pp rfl rfl (pr_extract rfl rfl) ?_;simp only [nf]
  refine pp rfl rfl (pr_extract rfl rfl) ?_;simp only [nf]
  refine pp rfl rfl (pr_extract rfl rfl) ?_;simp only [nf]
  refine pa (pa (pa (pa ?_)));simp only [nf]
  refine plan_nil hH ?_
  clear hH
  intro w142 hH
  refine hK130 _ _ ?_
  (try clear hK130 K130)
  refine wp_seq_k ?_
  intro K143 hK143
  refine wrt [.p 0, .p 1, .p 2, .p 3, .p 4, .p 5, .p 6, .p 7, .p 8, .p 9, .p 10, .p 11, .p 12, .p 13, .p 14, .p 15, .p 16, .p 17, .p 18, .p 19, .q 20, .p 21, .p 22, .p 23, .p 24, .p 25, .q 26, .p 27, .p 28, .p 29, .p 30, .p 31, .q 32, .p 33, .p 34, .p 35, .p 36, .p 37, .p 38, .q 39, .p 40, .p 41, .p 42, .p 43, .p 44, .p 45, .p 46, .p 47, .p 48, .p 49, .p 50, .p 51, .p 52, .p 53, .q 54, .p 55, .q 56, .p 57, .p 58, .p 59, .p 60, .q 61, .p 62, .q 63, .p 64, .p 65, .p 66] ?_
  refine pm ?_;simp only [nf]
  refine pp rfl rfl (pr_bin rfl rfl (by first | exact bin_eql_n (n := 0)  | exact bin_eql_i)) ?_;simp only [nf]
  refine pm ?_;simp only [nf]
  refine plan_pc_t rfl rfl rfl (fun hb => by have hb' := hb; try simp only [gsl] at hb'; rw [hb]; exact pr_move) ?_
  (try simp only [nf])
  refine plan_pc_t rfl rfl rfl (fun hb => by have hb' := hb; try simp only [gsl] at hb'; rw [hb]; exact (pr_bin rfl rfl (by first | exact bin_eql_n (n := 0)  | exact bin_eql_i))) ?_
  (try simp only [nf])
  refine pp rfl rfl (pr_pick_and rfl rfl rfl) ?_;simp only [nf]
  refine pm ?_;simp only [nf]
  refine plan_pc_t rfl rfl rfl (fun hb => by have hb' := hb; try simp only [gsl] at hb'; rw [hb]; exact pr_move) ?_
  (try simp only [nf])
  refine plan_pc_t rfl rfl rfl (fun hb => by have hb' := hb; try simp only [gsl] at hb'; rw [hb]; exact (pr_bin rfl rfl (by first | exact bin_eql_n (n := 0)  | exact bin_eql_i))) ?_
  (try simp only [nf])
  refine pp rfl rfl (pr_pick_and rfl rfl rfl) ?_;simp only [nf]
  refine pm ?_;simp only [nf]
  refine plan_pc_t rfl rfl rfl (fun hb => by have hb' := hb; try simp only [gsl] at hb'; rw [hb]; exact pr_move) ?_
  (try simp only [nf])
  refine plan_pc_t rfl rfl rfl (fun hb => by have hb' := hb; try simp only [gsl] at hb'; rw [hb]; exact (pr_bin rfl rfl (by first | exact bin_eql_n (n := 0)  | exact bin_eql_i))) ?_
  (try simp only [nf])
  refine pp rfl rfl (pr_pick_and rfl rfl rfl) ?_;simp only [nf]
  refine pm ?_;simp only [nf]
  refine plan_pc_t rfl rfl rfl (fun hb => by have hb' := hb; try simp only [gsl] at hb'; rw [hb]; exact pr_move) ?_
  (try simp only [nf])
  refine plan_pc_t rfl rfl rfl (fun hb => by have hb' := hb; try simp only [gsl] at hb'; rw [hb]; exact (pr_bin rfl rfl (by first | exact bin_eql_n (n := 0)  | exact bin_eql_i))) ?_
  (try simp only [nf])
  refine pp rfl rfl (pr_pick_and rfl rfl rfl) ?_;simp only [nf]
  refine pm ?_;simp only [nf]
  refine plan_pc_t rfl rfl rfl (fun hb => by have hb' := hb; try simp only [gsl] at hb'; rw [hb]; exact pr_move) ?_
  (try simp only [nf])
  refine plan_qc_t rfl rfl rfl (fun hb => by have hb' := hb; try simp only [gsl] at hb'; rw [hb]; exact (qr_b2s (OwnD.sl hH 7 rfl hD84) rfl Tryd.underlying22 Tryd.underlying5 Tryd.underlying9)) ?_
  (try simp only [nf])
  refine plan_pc_t rfl rfl rfl (fun hb => by have hb' := hb; try simp only [gsl] at hb'; rw [hb]; exact pr_move) ?_
  (try simp only [nf])
  refine plan_pc_t rfl rfl rfl (fun hb => by have hb' := hb; try simp only [gsl] at hb'; rw [hb]; exact (pr_bin rfl rfl bin_eql_s)) ?_
  (try simp only [nf])
  refine pp rfl rfl (pr_pick_and rfl rfl rfl) ?_;simp only [nf]
  refine pm ?_;simp only [nf]
  refine plan_pc_t rfl rfl rfl (fun hb => by have hb' := hb; try simp only [gsl] at hb'; rw [hb]; exact pr_move) ?_
  (try simp only [nf])
  refine plan_qc_t rfl rfl rfl (fun hb => by have hb' := hb; try simp only [gsl] at hb'; rw [hb]; exact (qr_b2s (OwnD.sl hH 11 rfl hD112) rfl Tryd.underlying22 Tryd.underlying5 Tryd.underlying9)) ?_
  (try simp only [nf])
  refine plan_pc_t rfl rfl rfl (fun hb => by have hb' := hb; try simp only [gsl] at hb'; rw [hb]; exact pr_move) ?_
  (try simp only [nf])
  refine plan_pc_t rfl rfl rfl (fun hb => by have hb' := hb; try simp only [gsl] at hb'; rw [hb]; exact (pr_bin rfl rfl bin_eql_s)) ?_
  (try simp only [nf])
  refine pp rfl rfl (pr_pick_and rfl rfl rfl) ?_;simp only [nf]
  refine pm ?_;simp only [nf]
  refine plan_pc_t rfl rfl rfl (fun hb => by have hb' := hb; try simp only [gsl] at hb'; rw [hb]; exact pr_move) ?_
  (try simp only [nf])
  refine plan_qc_t rfl rfl rfl (fun hb => by have hb' := hb; try simp only [gsl] at hb'; rw [hb]; exact (qr_b2s (OwnD.sl hH 15 rfl hD140) rfl Tryd.underlying22 Tryd.underlying5 Tryd.underlying9)) ?_
  (try simp only [nf])
  refine plan_pc_t rfl rfl rfl (fun hb => by have hb' := hb; try simp only [gsl] at hb'; rw [hb]; exact pr_move) ?_
  (try simp only [nf])
  refine plan_pc_t rfl rfl rfl (fun hb => by have hb' := hb; try simp only [gsl] at hb'; rw [hb]; exact (pr_bin rfl rfl bin_eql_s)) ?_
  (try simp only [nf])
  refine pp rfl rfl (pr_pick_and rfl rfl rfl) ?_;simp only [nf]
  refine pm ?_;simp only [nf]
  refine plan_pc_t rfl rfl rfl (fun hb => by have hb' := hb; try simp only [gsl] at hb'; rw [hb]; exact pr_move) ?_
  (try simp only [nf])
  refine plan_pc_t rfl rfl rfl (fun hb => by have hb' := hb; try simp only [gsl] at hb'; rw [hb]; exact (pr_fieldAddr 5 rfl Tryd.underlying32 rfl rfl sz3)) ?_
  (try simp only [nf])
  refine plan_qc_t rfl rfl rfl (fun hb => by have hb' := hb; try simp only [gsl] at hb'; rw [hb]; exact (qr_load1 rfl Tryd.underlying3 rfl ((hH.blk 0 rfl).cell rfl))) ?_
  (try simp only [nf])
  refine plan_pc_t rfl rfl rfl (fun hb => by have hb' := hb; try simp only [gsl] at hb'; rw [hb]; exact (pr_bin rfl rfl (by first | exact bin_eql_n  | exact bin_eql_i))) ?_
  (try simp only [nf])
  refine pp rfl rfl (pr_pick_and rfl rfl rfl) ?_;simp only [nf]
  refine pm ?_;simp only [nf]
  refine plan_pc_t rfl rfl rfl (fun hb => by have hb' := hb; try simp only [gsl] at hb'; rw [hb]; exact pr_move) ?_
  (try simp only [nf])
  refine plan_pc_t rfl rfl rfl (fun hb => by have hb' := hb; try simp only [gsl] at hb'; rw [hb]; exact pr_move) ?_
  (try simp only [nf])
  refine plan_pc_t rfl rfl rfl (fun hb => by have hb' := hb; try simp only [gsl] at hb'; rw [hb]; exact (pr_bin rfl rfl (by first | exact bin_eql_n  | exact bin_eql_i))) ?_
  (try simp only [nf])
  refine pp rfl rfl (pr_pick_and rfl rfl rfl) ?_;simp only [nf]
  refine pm ?_;simp only [nf]
  refine plan_pc_t rfl rfl rfl (fun hb => by have hb' := hb; try simp only [gsl] at hb'; rw [hb]; exact pr_move) ?_
  (try simp only [nf])
  refine plan_pc_t rfl rfl rfl (fun hb => by have hb' := hb; try simp only [gsl] at hb'; rw [hb]; exact pr_move) ?_
  (try simp only [nf])
  refine plan_pc_t rfl rfl rfl (fun hb => by have hb' := hb; try simp only [gsl] at hb'; rw [hb]; exact (pr_bin rfl rfl (by first | exact bin_eql_n  | exact bin_eql_i))) ?_
  (try simp only [nf])
  refine pp rfl rfl (pr_pick_and rfl rfl rfl) ?_;simp only [nf]
  refine pm ?_;simp only [nf]
  refine plan_pc_t rfl rfl rfl (fun hb => by have hb' := hb; try simp only [gsl] at hb'; rw [hb]; exact pr_move) ?_
  (try simp only [nf])
  refine plan_qc_t rfl rfl rfl (fun hb => by have hb' := hb; try simp only [gsl] at hb'; rw [hb]; exact (qr_b2s (OwnC.sl hH 12 rfl hO113) rfl Tryd.underlying22 Tryd.underlying5 Tryd.underlying9)) ?_
  (try simp only [nf])
  refine plan_pc_t rfl rfl rfl (fun hb => by have hb' := hb; try simp only [gsl] at hb'; rw [hb]; exact pr_move) ?_
  (try simp only [nf])
  refine plan_qc_t rfl rfl rfl (fun hb => by have hb' := hb; try simp only [gsl] at hb'; rw [hb]; exact (qr_b2s (OwnC.sl hH 8 rfl hO85) rfl Tryd.underlying22 Tryd.underlying5 Tryd.underlying9)) ?_
  (try simp only [nf])
  refine plan_pc_t rfl rfl rfl (fun hb => by have hb' := hb; try simp only [gsl] at hb'; rw [hb]; exact (pr_bin rfl rfl bin_eql_s)) ?_
  (try simp only [nf])
  refine pp rfl rfl (pr_pick_and rfl rfl rfl) ?_;simp only [nf]
  refine pm ?_;simp only [nf]
  refine plan_pc_t rfl rfl rfl (fun hb => by have hb' := hb; try simp only [gsl] at hb'; rw [hb]; exact pr_move) ?_
  (try simp only [nf])
  refine plan_qc_t rfl rfl rfl (fun hb => by have hb' := hb; try simp only [gsl] at hb'; rw [hb]; exact (qr_b2s (OwnC.sl hH 16 rfl hO141) rfl Tryd.underlying22 Tryd.underlying5 Tryd.underlying9)) ?_
  (try simp only [nf])
  refine plan_pc_t rfl rfl rfl (fun hb => by have hb' := hb; try simp only [gsl] at hb'; rw [hb]; exact pr_move) ?_
  (try simp only [nf])
  refine plan_qc_t rfl rfl rfl (fun hb => by have hb' := hb; try simp only [gsl] at hb'; rw [hb]; exact (qr_b2s (OwnC.sl hH 8 rfl hO85) rfl Tryd.underlying22 Tryd.underlying5 Tryd.underlying9)) ?_
  (try simp only [nf])
  refine plan_pc_t rfl rfl rfl (fun hb => by have hb' := hb; try simp only [gsl] at hb'; rw [hb]; exact (pr_bin rfl rfl bin_eql_s)) ?_
  (try simp only [nf])
  refine pp rfl rfl (pr_pick_and rfl rfl rfl) ?_;simp only [nf]
  refine pa ?_;simp only [nf]
  refine plan_nil hH ?_
  clear hH
  intro w144 hH
  refine hK143 _ _ ?_
  (try clear hK143 K143)
  refine wp_ret ?_
  (try simp only [Exit.then, Exit.inBlock, ↓reduceIte, Nat.reduceEqDiff])
  refine BP.ret1 rfl rfl ?_
  exact ⟨by first | rfl | simp, hH.chg⟩
 ·
  refine wp_region_pend [] [] (Chg []) (by kernel_rfl) ?_
  refine Pend.plan (n := 8) Far.grown (by kernel_rfl) (fun _ _ _ _ _ h => by first | exact h | exact BP.panic _ _ _ _ _ h) [.p 1, .p 3, .p 5, .p 7, .p 9, .q 0, .q 4, .q 6, .q 8, .q 10, .p 11, .p 12, .p 13] [] _ _ (by simp [AllR]) (by simp [effects]) (by simp [marked]) (by kernel_rfl) ?_
  refine pm ?_;simp only [nf]
  refine pp rfl rfl (pr_fieldAddr 4 rfl Tryd.underlying32 rfl rfl sz3) ?_;simp only [nf]
  refine pp rfl rfl (pr_fieldAddr 5 rfl Tryd.underlying32 rfl rfl sz3) ?_;simp only [nf]
  refine pp rfl rfl (pr_fieldAddr 6 rfl Tryd.underlying32 rfl rfl sz9) ?_;simp only [nf]
  refine pp rfl rfl (pr_fieldAddr 6 rfl Tryd.underlying32 rfl rfl sz9) ?_;simp only [nf]
  refine pq rfl rfl (qr_loadW rfl (hH.blk 1 rfl) Tryd.underlying37 rfl sz37 (by simp)) ?_;simp only [nf]
  refine pq rfl rfl (qr_load1 rfl Tryd.underlying3 rfl ((hH.blk 0 rfl).cell rfl)) ?_;simp only [nf]
  refine pq rfl rfl (qr_load1 rfl Tryd.underlying3 rfl ((hH.blk 0 rfl).cell rfl)) ?_;simp only [nf]
  refine pq rfl rfl (qr_load1 rfl Tryd.underlying9 rfl ((hH.blk 0 rfl).cell rfl)) ?_;simp only [nf]
  refine pq rfl rfl (qr_load1 rfl Tryd.underlying9 rfl ((hH.blk 0 rfl).cell rfl)) ?_;simp only [nf]
  refine pp rfl rfl (pr_len_str rfl Tryd.underlying9) ?_;simp only [nf]
  refine pp rfl rfl (by first | exact pr_min_n (n := 100) rfl rfl | exact pr_min rfl rfl) ?_;simp only [nf]
  refine pp rfl rfl (pr_slice_str_h rfl rfl Tryd.underlying9 (by first | omega | ((rw [hex]; omega)))) ?_;simp only [nf]
  refine plan_nil hH ?_
  clear hH
  intro w145 hH
  refine Pend.join2 (n := 6) Far.grown (by kernel_rfl) (fun _ _ _ _ _ h => by first | exact h | exact BP.panic _ _ _ _ _ h) 2 14 hH (by decide) (by kernel_rfl) (by kernel_rfl) (by kernel_rfl) (by kernel_rfl) (xs_s2b rfl rfl (fun _ => rfl) rfl (fun _ => rfl) Tryd.underlying9 Tryd.underlying22 Tryd.underlying5) (xs_s2b rfl rfl (fun _ => rfl) rfl (fun _ => rfl) Tryd.underlying9 Tryd.underlying22 Tryd.underlying5) ?_
  clear hH
  intro v146 es147 v148 es149 w150 hR151 hR152 hH
  obtain ⟨o153, cap154, cs155, rfl, hO156, rfl⟩ := hR151
  obtain ⟨o157, cap158, cs159, rfl, hO160, rfl⟩ := hR152
  (try simp only [nf] at hH ⊢)
  (try simp only [nf, nh, Value.cells, arrB_set] at hH ⊢)
  refine Pend.plan (n := 0) Far.grown (by kernel_rfl) (fun _ _ _ _ _ h => by first | exact h | exact BP.panic _ _ _ _ _ h) [.x 15, .p 16, .p 17, .p 18, .p 19, .p 20] [14, 2, 13, 12, 11, 10, 8, 6, 4, 0, 9, 7, 5, 3, 1] _ _ (by simp [AllR]) (by simp [effects]) (by simp [marked]) (by kernel_rfl) ?_
  refine plan_callx rfl rfl hH cf13 (fun w' hH => (gseal_calls A0 B0 C0 _ _ _ _ _ _ w' (OwnC.sl hH 4 rfl hO156) (OwnC.sl hH 5 rfl hO160) (by rw [str_len]; omega) (by rw [str_len, hex]; omega) (by omega) (by omega)).mono fun v w' h => h.2 _ rfl hE) rfl (fun _ _ _ h => h.2) ?_
  clear hH
  intro w161 v162 w163 hH hp164
  obtain ⟨rfl, hg⟩ := hp164
  replace hH := hH.call hg
  clear hg
  (try simp only [nf])
  refine pm ?_;simp only [nf]
  refine pp rfl rfl (pr_extract rfl rfl) ?_;simp only [nf]
  refine pp rfl rfl (pr_extract rfl rfl) ?_;simp only [nf]
  refine pa (pa ?_);simp only [nf]
  refine plan_nil hH ?_
  clear hH
  intro w165 hH
  refine Pend.done (by kernel_rfl) ?_
  intro w166 hw167
  replace hH := hH.call hw167; clear hw167
  refine hK41 _ _ ?_
  (try clear hK41 K41)
  refine wp_seq_k ?_
  intro K168 hK168
  refine wp_seq_k ?_
  intro K169 hK169
  refine wrt [.p 0, .p 1] ?_
  refine pm ?_;simp only [nf]
  refine pp rfl rfl (pr_bin rfl rfl (by first | exact bin_neq_n (n := 0)  | exact bin_neq_i)) ?_;simp only [nf]
  refine plan_nil hH ?_
  clear hH
  intro w170 hH
  refine hK169 _ _ ?_
  (try clear hK169 K169)
  refine wp_cond_true (by show BV _ = _; simpa using hE) ?_
  refine wp_seq_k ?_
  intro K171 hK171
  refine wrt [.p 0] ?_
  refine pa ?_;simp only [nf]
  refine plan_nil hH ?_
  clear hH
  intro w172 hH
  refine hK171 _ _ ?_
  (try clear hK171 K171)
  refine wp_ret ?_
  (try simp only [Exit.then, Exit.inBlock, ↓reduceIte, Nat.reduceEqDiff])
  refine BP.ret1 rfl rfl ?_
  exact ⟨by first | rfl | simp, hH.chg⟩
end Go.Proofs.YtmoaddicejohgaaDoor
set_option linter.unusedSimpArgs false
set_option linter.unusedVariables false
set_option maxRecDepth 100000
set_option maxHeartbeats 4000000
namespace Go.Proofs.YtmoaddicejohgaaDoor
open Go
open List (getD_cons_zero getD_cons_succ set_cons_zero set_cons_succ)
open Go.ChangeShapes Go.WideShapes Go.RowKit
def laidL : List (String × DataW Unit) := [("rhyne/sha.first", Rows.laid_rhyne_sha_first), ("rhyne/sha.round", Rows.laid_rhyne_sha_round)]
theorem gFirst : Tryd.prog.globalNamed "rhyne/sha.first" = some 0 := by kernel_rfl
theorem gRound : Tryd.prog.globalNamed "rhyne/sha.round" = some 1 := by kernel_rfl
theorem tFirst : (Tryd.prog.globals[0]?).map (·.type) = some 125 := by kernel_rfl
theorem tRound : (Tryd.prog.globals[1]?).map (·.type) = some 133 := by kernel_rfl
theorem door_met (os : Os) (args : Array Value) : laidMetH Tryd.prog laidL ((World.doorLaid Tryd.prog 400 os).forCall (fun _ _ => 0) ⟨#[], args, []⟩).memory :=
  laidMetH_of_parts3 (fuel := 8) (laidMet_of_run' 8 (by kernel_rfl) (by kernel_rfl)) (by kernel_rfl) (by kernel_rfl)
theorem laid_cells {P : Program} {w : World} {sp : Nat → Bool} {hd : Bool} {enc : TypeId × Value → Unit} {t e : TypeId} {n fuel : Nat} {cs : List Value} {f : Nat → UInt32} {ds : List (DataW Unit)} {m : List MemPlace} (hu : P.underlying t = some (.array n e)) (he : P.underlying e = some (.int .u32)) (hc : P.cellsOf e = 1)
    (h : DataW.trod enc P w 0 sp hd fuel t cs = some (.agg ds, m)) (hf : ∀ i, i < n → ds[i]? = some (.lit (.int .u32 (f i).toNat))) : ∀ i, i < n → cs[i]? = some (V32 (f i)) := by
  obtain ⟨xs, k, rfl, hx, hlen, hxs, hall⟩ := DataW.trod_array hu h
  simp only [Prod.mk.injEq, DataW.agg.injEq] at hx
  intro i hi
  have h1 := hall i hi
  rw [hc, Nat.mul_one] at h1
  have hy : xs[i]? = some (xs[i]'(by omega)) := by rw [List.getElem?_eq_getElem]
  rw [hy] at h1
  obtain ⟨z, hz, hz2, _⟩ := DataW.trod_int he h1
  have hfi := hf i hi
  rw [hx.1, List.getElem?_map, hy, hz2] at hfi
  simp only [Option.map_some, Option.some.injEq, DataW.lit.injEq, Lit.int.injEq, true_and] at hfi
  subst hfi
  have := congrArg (·[0]?) hz
  simpa using this
theorem tabs_of_laid {W : World} (h : laidMetH Tryd.prog laidL W) : Tabs W := by
  rw [MakeChecks.laidMetH_plain _ _ _ (by kernel_rfl)] at h
  obtain ⟨ps, ⟨g0, t0, cs0, f0, p0, q0, hg0, ht0, hv0, hd0, ⟨g1, t1, cs1, f1, p1, q1, hg1, ht1, hv1, hd1, _, _⟩, _⟩, _, _⟩ := h
  obtain rfl := Option.some.inj (gFirst.symm.trans hg0)
  obtain rfl := Option.some.inj (gRound.symm.trans hg1)
  obtain rfl := Option.some.inj (tFirst.symm.trans ht0)
  obtain rfl := Option.some.inj (tRound.symm.trans ht1)
  have c1 : Tryd.prog.cellsOf 113 = 1 := by kernel_rfl
  refine ⟨fun i hi => ?_, fun i hi => ?_⟩
  · rw [World.var?_cell hg0 hv0 i, ← Array.getElem?_toList]
    refine laid_cells Tryd.underlying125 Tryd.underlying113 c1 hd0 (fun j hj => ?_) i hi
    have : ((List.range 8).all fun j => match (Rows.laid_rhyne_sha_first : DataW Unit) with | .agg l => (match l[j]? with | some (.lit (.int .u32 z)) => z == ((shaH j).toNat : Int) | _ => false) | _ => false) = true := by kernel_rfl
    have h2 := List.all_eq_true.1 this j (List.mem_range.2 hj)
    simp only [Rows.laid_rhyne_sha_first] at h2
    split at h2
    · rename_i z hz; rw [hz, eq_of_beq h2]
    · cases h2
  · rw [World.var?_cell hg1 hv1 i, ← Array.getElem?_toList]
    refine laid_cells Tryd.underlying133 Tryd.underlying113 c1 hd1 (fun j hj => ?_) i hi
    have : ((List.range 64).all fun j => match (Rows.laid_rhyne_sha_round : DataW Unit) with | .agg l => (match l[j]? with | some (.lit (.int .u32 z)) => z == ((shaK j).toNat : Int) | _ => false) | _ => false) = true := by kernel_rfl
    have h2 := List.all_eq_true.1 this j (List.mem_range.2 hj)
    simp only [Rows.laid_rhyne_sha_round] at h2
    split at h2
    · rename_i z hz; rw [hz, eq_of_beq h2]
    · cases h2
theorem law_lifted_laid {os : Os} {H : Type} {enc : TypeId × Value → H} {f : FuncId} {fn : Func} {s : ChangeSpec} {conds : List PathCond} {apart handsOn again : Bool} {tb : TypeId}
    (started : os.Started) (noInit : Tryd.prog.inits.idxOf? f = none) (hfn : Tryd.prog.funcs[f]? = some fn)
    (witness : ∃ (w : World) (tape : Tape) (i : Input), w.os = os ∧ (w.forCall tape i).Shaped Tryd.prog ∧ i.vars = [] ∧ Input.okWide Tryd.prog (w.forCall tape i) .any w.heap.size f i ∧
      ((s.pre enc Tryd.prog fn conds apart (w.forCall tape i).memory i.args ∧ laidMetH Tryd.prog laidL (w.forCall tape i).memory) ∧ sizedMet enc Tryd.prog fn (OpenSpec.ofChange s) apart (w.forCall tape i).memory i.args) ∧ ({} : Assume).holds Tryd.prog (lone (Frame.enter Tryd.prog f i.args .normal) [] (w.forCall tape i)))
    (hpar : (fn.params.toList.all fun t => Tryd.prog.readableRec t && decide (t < Tryd.prog.types.size)) = true) (hrt : fn.resultTypes = #[tb]) (hb : Tryd.prog.underlying tb = some .bool) (hv : s.vars = [])
    (hs : ∀ ds : List (DataW H), ds.length = fn.params.toList.length → s.fn H ds = { results := [.lit (.bool true)], args := ds })
    (walk : ∀ (W : World) (base : Nat) (args : Array Value) (ds : List (DataW H)) (p : List MemPlace), Tabs W → (∀ (j : Nat) t v, fn.params[j]? = some t → args[j]? = some v → Value.okWide Tryd.prog W .any base t v) →
      DataW.TrodAll enc Tryd.prog W 0 (fun _ => true) true fn.params.toList args.toList ds p → (∀ (j : Nat) t d, fn.params.toList[j]? = some t → ds[j]? = some d → (d.weights Tryd.prog t).all (· ≤ reachBytes) = true) → Ret Tryd.prog f args W fun v w' => v = BV true ∧ Chg [] W w') :
    ReturnsInHanded {} Tryd.checked os f .any (fun w args => (s.pre enc Tryd.prog fn conds apart w args ∧ laidMetH Tryd.prog laidL w) ∧ sizedMet enc Tryd.prog fn (OpenSpec.ofChange s) apart w args) (s.post enc Tryd.prog fn apart true handsOn again) := by
  refine returnsInHanded_of_change_and (C := Tryd.checked) (X := fun w _ => laidMetH Tryd.prog laidL w) (fun _ _ _ hh h => h.of_heap hh) (by kernel_rfl) started noInit hfn witness ?_
  intro W base args ds gs before hval hW hcnd hwt hL _
  have hW' := hW
  obtain ⟨p, q, hA, hV, _, _, _⟩ := hW'
  have hwt' : ∀ (j : Nat) t d, fn.params.toList[j]? = some t → ds[j]? = some d → (d.weights Tryd.prog t).all (· ≤ reachBytes) = true := fun j t d h1 h2 =>
    weightsEach_at hwt j t d (by rw [List.getElem?_append_left (List.getElem?_eq_some_iff.1 h1).1]; exact h1) (by rw [List.getElem?_append_left (List.getElem?_eq_some_iff.1 h2).1]; exact h2)
  exact (walk W base args ds p (tabs_of_laid hL) hval hA hwt').calls.mono fun e w' ⟨v, he, hv', hc⟩ => ⟨v, he, by subst hv'; exact post_of_true (by kernel_rfl) hpar hrt hb hv hs hW hc⟩
end Go.Proofs.YtmoaddicejohgaaDoor
set_option linter.unusedSimpArgs false
set_option linter.unusedVariables false
set_option maxRecDepth 100000
set_option maxHeartbeats 4000000
namespace Go.Proofs.YtmoaddicejohgaaDoor
open Go
open List (getD_cons_zero getD_cons_succ set_cons_zero set_cons_succ)
open Go.ChangeShapes Go.WideShapes Go.RowKit
theorem open_pack {H : Type} {enc : TypeId × Value → H} {w : World} {base : Nat} {spare : Nat → Bool} {held : Bool} {r : Reach} {b0 : Nat} {v : Value} {d : DataW H} {ps : List MemPlace} (hval : Value.okWide Tryd.prog w r b0 32 v) (h : DataW.Trod enc Tryd.prog w base spare held 32 v d ps) :
    ∃ (x0 : ByteArray) (x1 : ByteArray) (x2 : ByteArray) (x3 : ByteArray) (x4 : Int) (x5 : Int) (x6 : ByteArray) (x7 : Int) (x8 : Bool), v = .agg #[.string x0, .string x1, .string x2, .string x3, I64 x4, I64 x5, .string x6, I64 x7, BV x8] ∧ x0.size ≤ maxLen ∧ x1.size ≤ maxLen ∧ x2.size ≤ maxLen ∧ x3.size ≤ maxLen ∧ (-9223372036854775808 ≤ x4 ∧ x4 ≤ 9223372036854775807) ∧ (-9223372036854775808 ≤ x5 ∧ x5 ≤ 9223372036854775807) ∧ x6.size ≤ maxLen ∧ (-9223372036854775808 ≤ x7 ∧ x7 ≤ 9223372036854775807) := by
  obtain ⟨fuel, h⟩ := h
  unfold Value.okWide at hval
  rw [Tryd.underlying32] at hval
  obtain ⟨cs, rfl, hsz, _⟩ := hval
  have hct : Tryd.prog.cellsOf 32 = 9 := by have hst := sz32; unfold szc at hst; unfold Program.cellsOf; rw [hst]; rfl
  rw [hct] at hsz
  obtain ⟨_, _, g0⟩ := trod_field (ft := 30) (off := 0) (m := 3) Tryd.underlying32 h 0 rfl sz30
  obtain ⟨_, _, g0_0⟩ := trod_field (ft := 9) (off := 0) (m := 1) Tryd.underlying30 g0 0 rfl sz9
  obtain ⟨x0, e0, _, hx0⟩ := DataW.trod_string Tryd.underlying9 g0_0
  obtain ⟨_, _, g0_1⟩ := trod_field (ft := 9) (off := 1) (m := 1) Tryd.underlying30 g0 1 rfl sz9
  obtain ⟨x1, e1, _, hx1⟩ := DataW.trod_string Tryd.underlying9 g0_1
  obtain ⟨_, _, g0_2⟩ := trod_field (ft := 9) (off := 2) (m := 1) Tryd.underlying30 g0 2 rfl sz9
  obtain ⟨x2, e2, _, hx2⟩ := DataW.trod_string Tryd.underlying9 g0_2
  obtain ⟨_, _, g1⟩ := trod_field (ft := 9) (off := 3) (m := 1) Tryd.underlying32 h 1 rfl sz9
  obtain ⟨x3, e3, _, hx3⟩ := DataW.trod_string Tryd.underlying9 g1
  obtain ⟨_, _, g2⟩ := trod_field (ft := 3) (off := 4) (m := 1) Tryd.underlying32 h 2 rfl sz3
  obtain ⟨x4, e4, _, hw4⟩ := DataW.trod_int Tryd.underlying3 g2
  have hb4 := bounds_i64 hw4
  obtain ⟨_, _, g3⟩ := trod_field (ft := 3) (off := 5) (m := 1) Tryd.underlying32 h 3 rfl sz3
  obtain ⟨x5, e5, _, hw5⟩ := DataW.trod_int Tryd.underlying3 g3
  have hb5 := bounds_i64 hw5
  obtain ⟨_, _, g4⟩ := trod_field (ft := 9) (off := 6) (m := 1) Tryd.underlying32 h 4 rfl sz9
  obtain ⟨x6, e6, _, hx6⟩ := DataW.trod_string Tryd.underlying9 g4
  obtain ⟨_, _, g5⟩ := trod_field (ft := 3) (off := 7) (m := 1) Tryd.underlying32 h 5 rfl sz3
  obtain ⟨x7, e7, _, hw7⟩ := DataW.trod_int Tryd.underlying3 g5
  have hb7 := bounds_i64 hw7
  obtain ⟨_, _, g6⟩ := trod_field (ft := 4) (off := 8) (m := 1) Tryd.underlying32 h 6 rfl sz4
  obtain ⟨x8, e8, _⟩ := DataW.trod_bool Tryd.underlying4 g6
  refine ⟨x0, x1, x2, x3, x4, x5, x6, x7, x8, congrArg Value.agg (Array.ext' ?_), hx0, hx1, hx2, hx3, hb4, hb5, hx6, hb7⟩
  have hlen : cs.toList.length = 9 := by rw [Array.length_toList]; exact hsz
  simp only [Value.cells] at e0 e1 e2 e3 e4 e5 e6 e7 e8
  generalize cs.toList = L at *
  obtain ⟨c0, c1, c2, c3, c4, c5, c6, c7, c8, rfl⟩ : ∃ c0 c1 c2 c3 c4 c5 c6 c7 c8 : Value, L = [c0, c1, c2, c3, c4, c5, c6, c7, c8] := by
    match L, hlen with
    | [c0, c1, c2, c3, c4, c5, c6, c7, c8], _ => exact ⟨c0, c1, c2, c3, c4, c5, c6, c7, c8, rfl⟩
  simp only [List.drop_succ_cons, List.drop_zero, List.take_succ_cons, List.take_zero, List.cons.injEq, and_true] at e0 e1 e2 e3 e4 e5 e6 e7 e8
  subst e0 e1 e2 e3 e4 e5 e6 e7 e8
  rfl
end Go.Proofs.YtmoaddicejohgaaDoor
set_option linter.unusedSimpArgs false
set_option linter.unusedVariables false
set_option maxRecDepth 100000
set_option maxHeartbeats 4000000
namespace Go.Proofs.YtmoaddicejohgaaDoor
open Go
open List (getD_cons_zero getD_cons_succ set_cons_zero set_cons_succ)
open Go.ChangeShapes Go.WideShapes Go.RowKit
theorem guardApartLifted (os : Os) (started : os.Started) (H : Type) (enc : TypeId × Value → H) :
    ReturnsInHanded {} Tryd.checked os 7 .any (fun w args => (Rows.guardApartSpec.pre enc Tryd.prog Tryd.f7 [] false w args ∧ laidMetH Tryd.prog laidL w) ∧ sizedMet enc Tryd.prog Tryd.f7 (OpenSpec.ofChange Rows.guardApartSpec) false w args) (Rows.guardApartSpec.post enc Tryd.prog Tryd.f7 false true false false) := by
  refine law_lifted_laid started (by kernel_rfl) Tryd.func7
    (ChangeSpec.witness_shaped (enc := enc) (C := Tryd.checked) (os := os) (X := fun w _ => laidMetH Tryd.prog laidL w) false (World.doorLaid Tryd.prog 400 os) #[.agg #[.string ⟨#[]⟩, .string ⟨#[]⟩, .string ⟨#[]⟩, .string ⟨#[]⟩, I64 0, I64 0, .string ⟨#[]⟩, I64 0, BV false], .string ⟨#[]⟩] 8 rfl (World.shaped_of_RefB (by kernel_rfl) (by kernel_rfl)) (by kernel_rfl) (by kernel_rfl) (by kernel_rfl) (door_met os _)) (by kernel_rfl) (by kernel_rfl) Tryd.underlying4 rfl
    (fun ds hds => ?_) ?_
  · rw [Tryd.params7] at hds
    match ds, hds with
    | [d0, d1], _ => rfl
  · intro W base args ds p hT hval hA hwt
    have hval' : ∀ (j : Nat) t v, Tryd.f7.params[j]? = some t → args[j]? = some v → Value.okWide Tryd.prog W .any base t v := hval
    replace hA : DataW.TrodAll enc Tryd.prog W 0 (fun _ => true) true Tryd.f7.params.toList args.toList ds p := hA
    rw [Tryd.params7] at hA hval' hwt
    obtain ⟨v0, vs0, d0, ds0, p0, q0, hargs, rfl, rfl, h0, r0⟩ := ChangeShapes.trodAll_cons hA
    obtain ⟨v1, vs1, d1, ds1, p1, q1, rfl, rfl, rfl, h1, r1⟩ := ChangeShapes.trodAll_cons r0
    obtain ⟨rfl, rfl, rfl⟩ := ChangeShapes.trodAll_nil r1
    obtain rfl : args = #[v0, v1] := by cases args; simp_all
    obtain ⟨a, b, c, hd, size, number, ca, ex, ft, rfl, hxa, hxb, hxc, hxd, hbs, hbn, hxca, hbe⟩ := open_pack (hval' 0 32 v0 rfl rfl) h0
    obtain ⟨s1, rfl, rfl, rfl, hs1⟩ := ChangeMaps.open_string Tryd.underlying9 (hval' 1 9 v1 rfl rfl) h1
    exact apart10_calls a b c hd ca s1 size number ex ft W hbs.1 hbs.2 hT
theorem guardApart_row : Rows.GuardApartSaid :=
  OpenClaim.holds_of_wide 7 Tryd.f7 rfl rfl rfl rfl rfl rfl rfl ⟨rfl, rfl, rfl, rfl, rfl⟩ rfl rfl rfl rfl rfl (by kernel_rfl) Tryd.func7 (by kernel_rfl)
    (of_decide_eq_true (by kernel_rfl)) (by unfold Func.isWrapper; first | (rw [if_pos (by decide +kernel)]; kernel_rfl) | (rw [if_neg (by decide +kernel)]; exact ⟨rfl, rfl⟩))
    (fun os started H enc _ => guardApartLifted os started H enc)
end Go.Proofs.YtmoaddicejohgaaDoor
set_option linter.unusedSimpArgs false
set_option linter.unusedVariables false
set_option maxRecDepth 100000
set_option maxHeartbeats 4000000
namespace Go.Proofs.YtmoaddicejohgaaDoor
open Go
open List (getD_cons_zero getD_cons_succ set_cons_zero set_cons_succ)
theorem guardApartCard_holds : Rows.GuardApartCardSaid :=
  Claim7.holds_tied_plain_at .later [] [.data, .data] true (true, "b45bd5553fe966b81b69c4ca1b599b99ea55aad53f0ecc1504cc158a93d9c7db") false
    guardApart_row (fun _ h => by cases h) (by kernel_rfl) (fun _ h => by cases h) guardApart_row_tie rfl ⟨rfl, rfl⟩ (by kernel_rfl) rfl
    (fun f fn hf hfn => by
      obtain rfl : f = 7 := Option.some.inj ((show Tryd.prog.funcNamed "rhyne/rhynelaw10.GuardApart" = some 7 by kernel_rfl).symm.trans hf) |>.symm
      obtain rfl : fn = Tryd.f7 := (Option.some.inj (Tryd.func7.symm.trans hfn)).symm
      exact ⟨by kernel_rfl, fun j t ht => by
        rw [Tryd.params7] at ht
        match j, ht with
        | 0, ht => cases ht; exact (show Tryd.prog.wantsStandIn 32 = false by kernel_rfl)
        | 1, ht => cases ht; exact (show Tryd.prog.wantsStandIn 9 = false by kernel_rfl)
        | j + 2, ht => simp at ht⟩)
    (by kernel_rfl)
end Go.Proofs.YtmoaddicejohgaaDoor
#print axioms Go.Proofs.YtmoaddicejohgaaDoor.guardApartCard_holds
