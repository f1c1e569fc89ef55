/- Walks of the document's Count and Stream. No further conditions. -/
import Derived.Test.YtmoaddicejohgaaDoorAes5
import Derived.Test.YtmoaddicejohgaaDoorAes7
set_option linter.unusedSimpArgs false
set_option linter.unusedVariables false
set_option maxRecDepth 100000
set_option maxHeartbeats 4000000
namespace Go.Proofs.YtmoaddicejohgaaDoor
open Go
open List (getD_cons_zero getD_cons_succ set_cons_zero set_cons_succ)

theorem be32_sum (c : Nat → UInt8) : (c 12).toUInt32 <<< 24 + (c 13).toUInt32 <<< 16 + (c 14).toUInt32 <<< 8 + (c 15).toUInt32 = be32 c := by
  unfold be32
  apply UInt32.toNat_inj.1
  have h2 := (c 12).toNat_lt; have h3 := (c 13).toNat_lt; have h4 := (c 14).toNat_lt; have h5 := (c 15).toNat_lt
  generalize (c 12) = x2 at *; generalize (c 13) = x3 at *; generalize (c 14) = x4 at *; generalize (c 15) = x5 at *
  have e2 : (x2.toUInt32 <<< 24).toNat = x2.toNat <<< 24 := by
    simp only [UInt32.toNat_shiftLeft, UInt8.toNat_toUInt32, Nat.shiftLeft_eq]
    show x2.toNat * 2 ^ 24 % 2 ^ 32 = x2.toNat * 2 ^ 24
    omega
  have e3 : (x3.toUInt32 <<< 16).toNat = x3.toNat <<< 16 := by
    simp only [UInt32.toNat_shiftLeft, UInt8.toNat_toUInt32, Nat.shiftLeft_eq]
    show x3.toNat * 2 ^ 16 % 2 ^ 32 = x3.toNat * 2 ^ 16
    omega
  have e4 : (x4.toUInt32 <<< 8).toNat = x4.toNat <<< 8 := by
    simp only [UInt32.toNat_shiftLeft, UInt8.toNat_toUInt32, Nat.shiftLeft_eq]
    show x4.toNat * 2 ^ 8 % 2 ^ 32 = x4.toNat * 2 ^ 8
    omega
  rw [UInt32.toNat_or, UInt32.toNat_or, UInt32.toNat_or, UInt32.toNat_add, UInt32.toNat_add, UInt32.toNat_add, e2, e3, e4, UInt8.toNat_toUInt32]
  have o1 : x2.toNat <<< 24 ||| x3.toNat <<< 16 = (x2.toNat * 256 + x3.toNat) <<< 16 := by
    rw [show x2.toNat <<< 24 = (x2.toNat <<< 8) <<< 16 by rw [← Nat.shiftLeft_add], ← Nat.shiftLeft_or_distrib, ← Nat.shiftLeft_add_eq_or_of_lt (i := 8) h3]; simp only [Nat.shiftLeft_eq]
  have o2 : (x2.toNat * 256 + x3.toNat) <<< 16 ||| x4.toNat <<< 8 = ((x2.toNat * 256 + x3.toNat) * 256 + x4.toNat) <<< 8 := by
    rw [show (x2.toNat * 256 + x3.toNat) <<< 16 = ((x2.toNat * 256 + x3.toNat) <<< 8) <<< 8 by rw [← Nat.shiftLeft_add], ← Nat.shiftLeft_or_distrib, ← Nat.shiftLeft_add_eq_or_of_lt (i := 8) h4]; simp only [Nat.shiftLeft_eq]
  have o3 : ((x2.toNat * 256 + x3.toNat) * 256 + x4.toNat) <<< 8 ||| x5.toNat = ((x2.toNat * 256 + x3.toNat) * 256 + x4.toNat) * 256 + x5.toNat := by
    rw [← Nat.shiftLeft_add_eq_or_of_lt (i := 8) h5, Nat.shiftLeft_eq]
  rw [o1, o2, o3]
  simp only [Nat.shiftLeft_eq]
  omega
/-- The block of bytes that a counter is turned to. -/
def blkS (key cf : Nat → UInt8) (m : Nat) : ByteArray := ⟨((List.range 16).map fun i => aesR (kexp key) (ctrF cf (be32 cf + UInt32.ofNat m)) 10 i).toArray⟩
def ctrS (cf : Nat → UInt8) (m : Nat) : ByteArray := ⟨((List.range 16).map fun i => ctrF cf (be32 cf + UInt32.ofNat m) i).toArray⟩
theorem add_bound (s : ByteArray) (l : List UInt8) (h : s.size = 16) (hl : l.length = 4) : (s.extract 0 12).size + (ByteArray.mk l.toArray).size < 9223372036854775808 := by
  have h1 : (s.extract 0 12).size = 12 := by rw [ByteArray.size_extract, h]; rfl
  have h2 : (ByteArray.mk l.toArray).size = 4 := by rw [← hl]; simp [ByteArray.size]
  omega
theorem list16 (l : List UInt8) (h : l.length = 16) (cf : Nat → UInt8) (hcf : ∀ i, i < 16 → l.getD i 0 = cf i) : l = (List.range 16).map cf := by
  apply List.ext_getElem?
  intro i
  by_cases hi : i < 16
  · have := hcf i hi
    simp only [List.getD] at this
    rw [List.getElem?_eq_getElem (by omega)] at this ⊢
    simp [hi] at this ⊢
    exact this
  · rw [List.getElem?_eq_none (by omega), List.getElem?_eq_none (by simp; omega)]
theorem ctrS_is (s : ByteArray) (cf : Nat → UInt8) (hs : s.size = 16) (hcf : ∀ i, i < 16 → s.data.toList.getD i 0 = cf i) (n : UInt32) :
    s.extract 0 12 ++ ⟨[(n >>> 24).toUInt8, (n >>> 16).toUInt8, (n >>> 8).toUInt8, n.toUInt8].toArray⟩ = ⟨((List.range 16).map fun i => ctrF cf n i).toArray⟩ := by
  have hl := list16 s.data.toList (by rw [Array.length_toList]; exact hs) cf hcf
  apply ByteArray.ext
  apply Array.ext'
  rw [ByteArray.data_append, ByteArray.data_extract, Array.toList_append, Array.toList_extract, hl]
  rfl

theorem count_calls (s : ByteArray) (cf : Nat → UInt8) (hs : s.size = 16) (hcf : ∀ i, i < 16 → s.data.toList.getD i 0 = cf i) (m : Nat) (w : World) :
    Ret Tryd.prog 55 #[.string s, I64 (m : Nat)] w fun v w' => v = .string (ctrS cf m) ∧ Chg [] w w' := by
 refine Ret.enter Tryd.func55 rfl ?_
 simp only [Tryd.ntmps55, fe, Nat.reduceAdd, Nat.reduceSub]
 have hH := Hp.start [] w
 refine wp_seq_k ?_
 intro K1 hK1
 refine wrt [.p 0] ?_
 refine pa ?_;simp only [nf]
 refine plan_nil hH ?_
 clear hH
 intro w2 hH
 refine hK1 _ _ ?_
 (try clear hK1 K1)
 refine wp_seq_k ?_
 intro K3 hK3
 refine wrp [.p 0, .p 1, .p 2, .p 3, .p 4, .p 5, .p 6, .p 7, .p 8, .p 9, .p 10, .p 11, .p 12, .p 13, .p 14, .p 15, .p 16, .p 17, .p 18, .p 19, .p 20, .p 21] ?_
 refine pm ?_;simp only [nf]
 refine pp rfl rfl (pr_index_str (i := 12) rfl rfl Tryd.underlying9 (by first | omega | (exact add_bound s _ hs rfl))) ?_;simp only [nf]
 refine pp rfl rfl (pr_conv rfl (cnv_u8_u32 _ Tryd.underlying5 Tryd.underlying113)) ?_;simp only [nf]
 refine pp rfl rfl (pr_bin rfl rfl (bin_shlc_u32 24 24 (by decide) rfl _)) ?_;simp only [nf]
 refine pm ?_;simp only [nf]
 refine pp rfl rfl (pr_index_str (i := 13) rfl rfl Tryd.underlying9 (by first | omega | (exact add_bound s _ hs rfl))) ?_;simp only [nf]
 refine pp rfl rfl (pr_conv rfl (cnv_u8_u32 _ Tryd.underlying5 Tryd.underlying113)) ?_;simp only [nf]
 refine pp rfl rfl (pr_bin rfl rfl (bin_shlc_u32 16 16 (by decide) rfl _)) ?_;simp only [nf]
 refine pp rfl rfl (pr_bin rfl rfl (bin_add_u32 _ _)) ?_;simp only [nf]
 refine pm ?_;simp only [nf]
 refine pp rfl rfl (pr_index_str (i := 14) rfl rfl Tryd.underlying9 (by first | omega | (exact add_bound s _ hs rfl))) ?_;simp only [nf]
 refine pp rfl rfl (pr_conv rfl (cnv_u8_u32 _ Tryd.underlying5 Tryd.underlying113)) ?_;simp only [nf]
 refine pp rfl rfl (pr_bin rfl rfl (bin_shlc_u32 8 8 (by decide) rfl _)) ?_;simp only [nf]
 refine pp rfl rfl (pr_bin rfl rfl (bin_add_u32 _ _)) ?_;simp only [nf]
 refine pm ?_;simp only [nf]
 refine pp rfl rfl (pr_index_str (i := 15) rfl rfl Tryd.underlying9 (by first | omega | (exact add_bound s _ hs rfl))) ?_;simp only [nf]
 refine pp rfl rfl (pr_conv rfl (cnv_u8_u32 _ Tryd.underlying5 Tryd.underlying113)) ?_;simp only [nf]
 refine pp rfl rfl (pr_bin rfl rfl (bin_add_u32 _ _)) ?_;simp only [nf]
 refine pm ?_;simp only [nf]
 refine pp rfl rfl (pr_conv rfl (by first | exact cnv_n_u32 Tryd.underlying3 Tryd.underlying113 | exact cnv_i_u32 Tryd.underlying3 Tryd.underlying113)) ?_;simp only [nf]
 refine pp rfl rfl (pr_bin rfl rfl (bin_add_u32 _ _)) ?_;simp only [nf]
 refine pa ?_;simp only [nf]
 refine plan_nil hH ?_
 clear hH
 intro w4 hH
 refine hK3 _ _ ?_
 (try clear hK3 K3)
 refine wp_seq_k ?_
 intro K5 hK5
 refine wrp [.p 0, .p 1, .p 2, .p 3, .p 4, .p 5, .p 6, .p 7, .p 8, .p 9, .p 10, .p 11, .p 12, .x 13, .q 14, .p 15, .p 16] ?_
 refine pm ?_;simp only [nf]
 refine pp rfl rfl (pr_slice_str_h (h := 12) rfl rfl Tryd.underlying9 (by first | omega | (exact add_bound s _ hs rfl))) ?_;simp only [nf]
 refine pm ?_;simp only [nf]
 refine pp rfl rfl (pr_bin rfl rfl (bin_shrc_u32 24 24 (by decide) rfl _)) ?_;simp only [nf]
 refine pp rfl rfl (pr_conv rfl (cnv_u32_u8 _ Tryd.underlying113 Tryd.underlying5)) ?_;simp only [nf]
 refine pm ?_;simp only [nf]
 refine pp rfl rfl (pr_bin rfl rfl (bin_shrc_u32 16 16 (by decide) rfl _)) ?_;simp only [nf]
 refine pp rfl rfl (pr_conv rfl (cnv_u32_u8 _ Tryd.underlying113 Tryd.underlying5)) ?_;simp only [nf]
 refine pm ?_;simp only [nf]
 refine pp rfl rfl (pr_bin rfl rfl (bin_shrc_u32 8 8 (by decide) rfl _)) ?_;simp only [nf]
 refine pp rfl rfl (pr_conv rfl (cnv_u32_u8 _ Tryd.underlying113 Tryd.underlying5)) ?_;simp only [nf]
 refine pm ?_;simp only [nf]
 refine pp rfl rfl (pr_conv rfl (cnv_u32_u8 _ Tryd.underlying113 Tryd.underlying5)) ?_;simp only [nf]
 refine plan_buildSlice rfl rfl hH Tryd.underlying22 (by rfl) (bs4 _ _ _ _) ?_
 clear hH
 intro b6 w7 hH
 (try simp only [nf, nh, Value.cells] at hH ⊢)
 refine pq rfl rfl (qr_b2s (OwnC.sl hH 0 rfl (OwnC.of_bytes rfl)) rfl Tryd.underlying22 Tryd.underlying5 Tryd.underlying9) ?_;simp only [nf]
 refine pp rfl rfl (pr_bin rfl rfl (bin_add_s (by first | omega | (exact add_bound s _ hs rfl)))) ?_;simp only [nf]
 refine pa ?_;simp only [nf]
 refine plan_nil hH ?_
 clear hH
 intro w8 hH
 refine hK5 _ _ ?_
 (try clear hK5 K5)
 refine wp_ret ?_
 (try simp only [Exit.then, Exit.inBlock, ↓reduceIte, Nat.reduceEqDiff])
 refine BP.ret1 rfl rfl ?_
 refine ⟨congrArg Value.string ((ctrS_is s cf hs hcf _).trans ?_), hH.chg⟩
 unfold ctrS
 rw [str_at, str_at, str_at, str_at, hcf 12 (by omega), hcf 13 (by omega), hcf 14 (by omega), hcf 15 (by omega), be32_sum]

theorem ctrS_size (cf : Nat → UInt8) (m : Nat) : (ctrS cf m).size = 16 := by unfold ctrS; simp [ByteArray.size]
theorem blkS_size (key cf : Nat → UInt8) (m : Nat) : (blkS key cf m).size = 16 := by unfold blkS; simp [ByteArray.size]
theorem ctrS_at (cf : Nat → UInt8) (m i : Nat) (h : i < 16) : (ctrS cf m).data.toList.getD i 0 = ctrF cf (be32 cf + UInt32.ofNat m) i := by unfold ctrS; exact cut16 _ h
theorem ks_at (key cf : Nat → UInt8) (p : Nat) {sv : ByteArray} (h : sv = blkS key cf (p / 16)) (hi : p % 16 < sv.size) : sv[p % 16]'hi = ksF (kexp key) cf p := by
  subst h
  rw [str_at]
  unfold blkS
  exact cut16 _ (Nat.mod_lt _ (by decide))
/-- What the document's stream holds at hand: a block, or none as yet. -/
def Held (key cf : Nat → UInt8) (hv : Int) (sv : ByteArray) : Prop := hv = -1 ∨ ∃ m : Nat, hv = (m : Int) ∧ sv = blkS key cf m
theorem own_step {o : Option Nat} {n cap a i : Nat} {cs : Array Value} {K cf : Nat → UInt8} {bl : List UInt8} {x : UInt8} (hO : OwnC o n cap 1 cs ((strm K cf a bl i ++ [bl.getD i 0 ^^^ x]).map V8)) (hx : x = ksF K cf (a + i)) : OwnC o n cap 1 cs ((strm K cf a bl (i + 1)).map V8) := by
  rw [strm_succ, ← hx]; exact hO
theorem sv_of {key cf : Nat → UInt8} {hv : Int} {sv : ByteArray} {n : Nat} (h : Held key cf hv sv) (e : (n : Int) = hv) : sv = blkS key cf n := by
  rcases h with h | ⟨m, h, h'⟩
  · omega
  · rw [h', show m = n by omega]
theorem blkS_at (key cf : Nat → UInt8) (m i : Nat) (h : i < 16) : (blkS key cf m).data.toList.getD i 0 = aesR (kexp key) (ctrF cf (be32 cf + UInt32.ofNat m)) 10 i := by unfold blkS; exact cut16 _ h

theorem refstream_calls (bk : Nat) (key cf : Nat → UInt8) (s : ByteArray) (a : Nat) (b : ByteArray) (w : World) (hk : Blk w bk 103 (arr8 432 (keyF key))) (hs : s.size = 16) (hcf : ∀ i, i < 16 → s.data.toList.getD i 0 = cf i) (hab : a + b.size < 9223372036854775808) (hb : b.size ≤ 140737488355328) :
    Ret Tryd.prog 40 #[PT bk 0, .string s, I64 (a : Nat), .string b] w fun v w' => v = .string ⟨(strm (kexp key) cf a b.data.toList b.size).toArray⟩ ∧ Chg [] w w' := by
 refine Ret.enter Tryd.func40 rfl ?_
 simp only [Tryd.ntmps40, fe, Nat.reduceAdd, Nat.reduceSub]
 have hH := Hp.start [] w
 refine wp_seq_k ?_
 intro K1 hK1
 refine wrt [.p 0] ?_
 refine pa ?_;simp only [nf]
 refine plan_nil hH ?_
 clear hH
 intro w2 hH
 refine hK1 _ _ ?_
 (try clear hK1 K1)
 refine wp_seq_k ?_
 intro K3 hK3
 refine wrt [.p 0] ?_
 refine pa ?_;simp only [nf]
 refine plan_nil hH ?_
 clear hH
 intro w4 hH
 refine hK3 _ _ ?_
 (try clear hK3 K3)
 refine wp_seq_k ?_
 intro K5 hK5
 refine wrt [.p 0, .p 1] ?_
 refine pa (pa ?_);simp only [nf]
 refine plan_nil hH ?_
 clear hH
 intro w6 hH
 refine hK5 _ _ ?_
 (try clear hK5 K5)
 refine wp_seq_k ?_
 intro K7 hK7
 refine wp_seq_k ?_
 intro K8 hK8
 refine wrt [.p 0] ?_
 refine pka 0 ?_;simp only [nf]
 refine plan_nil hH ?_
 clear hH
 intro w9 hH
 refine hK8 _ _ ?_
 (try clear hK8 K8)
 refine wp_block ?_
 refine wp_loopT [9, 10, 11, 12] [13, 14, 15, 16, 17, 18, 19, 20, 21, 22, 23, 24, 25, 26, 27, 28, 29, 30, 31, 32, 33, 34, 35, 36, 37, 38, 39, 40, 41, 42, 43, 44, 45] (fun (n10 : Nat) (vs : List Value) (w' : World) => ∃ (i : Nat) (o : Option Nat) (cap : Nat) (cs : Array Value) (sv : ByteArray) (hv : Int), vs = [own o i cap, .string sv, I64 hv, I64 (i : Nat)] ∧ Hp [] w w' [(o, 5, cs)] ∧ n10 = b.size - i ∧ i ≤ b.size ∧ OwnC o i cap 1 cs ((strm (kexp key) cf a b.data.toList i).map V8) ∧ Held key cf hv sv) (b.size - 0) (by kernel_rfl) ?_ ?_
 ·
  simp only [ga]
  refine ⟨0, none, 0, #[], _, _, rfl, ?_, rfl, ?_, ?_, ?_⟩
  ·
   exact hH.nil _
  · first | omega | (omega)
  · first | omega | (exact OwnC.start 1)
  · first | omega | (exact .inl rfl)
 clear hH
 intro n10 vs11 w12 hR13 d0
 obtain ⟨i, o, cap, cs, sv, hv, rfl, hH, hn14, hf15, hO, hsv⟩ := hR13
 simp only [putAll, putD, List.set_cons_zero, List.set_cons_succ, Nat.zero_add, Nat.reduceAdd]
 refine wp_seq_k ?_
 intro K16 hK16
 refine wp_seq_k ?_
 intro K17 hK17
 refine wrt [.p 0, .p 1, .p 2, .p 3] ?_
 refine pm (pm ?_);simp only [nf]
 refine pp rfl rfl (pr_len_str rfl Tryd.underlying9) ?_;simp only [nf]
 refine pp rfl rfl (pr_bin rfl rfl (by first | exact bin_lss_n  | exact bin_lss_i)) ?_;simp only [nf]
 refine plan_nil hH ?_
 clear hH
 intro w18 hH
 refine hK17 _ _ ?_
 (try clear hK17 K17)
 refine wp_cond_split rfl (fun hc19 => ?_) (fun hc19 => ?_)
 ·
  (try simp only [cnd] at hc19)
  refine wp_skip ?_
  refine hK16 _ _ ?_
  (try clear hK16 K16)
  refine wp_seq_k ?_
  intro K20 hK20
  refine wp_block ?_
  refine wp_seq_k ?_
  intro K21 hK21
  refine wrt [.p 0, .p 1, .p 2, .p 3, .p 4] ?_
  refine pm (pm ?_);simp only [nf]
  refine pp rfl rfl (pr_bin rfl rfl (by first | exact bin_add_n (by first | omega | (first | (rw [blkS_size]; omega) | (show _ < (blkS key cf _).size; rw [blkS_size]; omega))) | exact bin_add_i (by first | omega | (first | (rw [blkS_size]; omega) | (show _ < (blkS key cf _).size; rw [blkS_size]; omega))) (by first | omega | (first | (rw [blkS_size]; omega) | (show _ < (blkS key cf _).size; rw [blkS_size]; omega))))) ?_;simp only [nf]
  refine pp rfl rfl (pr_bin rfl rfl (by first | exact bin_quo_n (n := 16) (by first | omega | (first | (rw [blkS_size]; omega) | (show _ < (blkS key cf _).size; rw [blkS_size]; omega))) (by first | omega | (first | (rw [blkS_size]; omega) | (show _ < (blkS key cf _).size; rw [blkS_size]; omega))))) ?_;simp only [nf]
  refine pa ?_;simp only [nf]
  refine plan_nil hH ?_
  clear hH
  intro w22 hH
  refine hK21 _ _ ?_
  (try clear hK21 K21)
  refine wp_seq_k ?_
  intro K23 hK23
  refine wp_seq_k ?_
  intro K24 hK24
  refine wrt [.p 0, .p 1, .p 2] ?_
  refine pm (pm ?_);simp only [nf]
  refine pp rfl rfl (pr_bin rfl rfl (by first | exact bin_neq_n  | exact bin_neq_i)) ?_;simp only [nf]
  refine plan_nil hH ?_
  clear hH
  intro w25 hH
  refine hK24 _ _ ?_
  (try clear hK24 K24)
  refine wp_cond_split rfl (fun hc26 => ?_) (fun hc26 => ?_)
  ·
   (try simp only [cnd] at hc26)
   refine wrt [.p 0, .p 1, .p 2, .q 3, .q 4, .p 5, .p 6, .p 7] ?_
   refine pm (pm (pm ?_));simp only [nf]
   refine pq rfl rfl (qr_call cf55 (fun w' hw => count_calls _ cf hs hcf _ w') rfl) ?_;simp only [nf]
   refine pq rfl rfl (qr_call cf48 (fun w' hw => refblock_calls _ key (ctrS cf _) _ (fun i hi => ctrS_at cf _ i hi) (ctrS_size _ _) w' (hw.nil_blk (hH.chg.nil_blk hk))) rfl) ?_;simp only [nf]
   refine pm (pa (pa ?_));simp only [nf]
   refine plan_nil hH ?_
   clear hH
   intro w27 hH
   refine hK23 _ _ ?_
   (try clear hK23 K23)
   refine wrp [.p 0, .p 1, .p 2, .p 3, .p 4, .p 5, .p 6, .p 7, .p 8, .p 9, .p 10, .x 11, .e 12, .p 13] ?_
   refine pm (pm (pm ?_));simp only [nf]
   refine pp rfl rfl (pr_index_str rfl rfl Tryd.underlying9 (by first | omega | (first | (rw [blkS_size]; omega) | (show _ < (blkS key cf _).size; rw [blkS_size]; omega)))) ?_;simp only [nf]
   refine pm (pm (pm ?_));simp only [nf]
   refine pp rfl rfl (pr_bin rfl rfl (by first | exact bin_add_n (by first | omega | (first | (rw [blkS_size]; omega) | (show _ < (blkS key cf _).size; rw [blkS_size]; omega))) | exact bin_add_i (by first | omega | (first | (rw [blkS_size]; omega) | (show _ < (blkS key cf _).size; rw [blkS_size]; omega))) (by first | omega | (first | (rw [blkS_size]; omega) | (show _ < (blkS key cf _).size; rw [blkS_size]; omega))))) ?_;simp only [nf]
   refine pp rfl rfl (pr_bin rfl rfl (by first | exact bin_rem_n (n := 16) (by first | omega | (first | (rw [blkS_size]; omega) | (show _ < (blkS key cf _).size; rw [blkS_size]; omega))))) ?_;simp only [nf]
   refine pp rfl rfl (pr_index_str rfl rfl Tryd.underlying9 (by first | omega | (first | (rw [blkS_size]; omega) | (show _ < (blkS key cf _).size; rw [blkS_size]; omega)))) ?_;simp only [nf]
   refine pp rfl rfl (pr_bin rfl rfl (bin_xor_u8 _ _)) ?_;simp only [nf]
   refine plan_buildSlice rfl rfl hH Tryd.underlying22 (by rfl) (bs1 _) ?_
   clear hH
   intro b28 w29 hH
   (try simp only [nf, nh, Value.cells] at hH ⊢)
   refine plan_append 0 rfl rfl hH rfl hO (fun w' hH => ((OwnC.sl hH 1 rfl (OwnC.of_bytes rfl))).src) rfl rfl Tryd.underlying22 Tryd.underlying22 (.inl ⟨_, rfl⟩) sz5 bz5 ze5 rfl (by first | omega | (simp <;> omega)) (by first | omega | (simp <;> omega)) ?_
   clear hH
   intro o30 cap31 cs32 w33 hO34 hH
   (try simp only [nf] at hH ⊢)
   (try simp only [nf, nh, Value.cells] at hH ⊢)
   try rw [← List.map_append] at hO34
   (try simp only [Nat.zero_add, List.nil_append, List.length_nil] at hO34 ⊢)
   refine pa ?_;simp only [nf]
   refine plan_nil hH ?_
   clear hH
   intro w35 hH
   refine hK20 _ _ ?_
   (try clear hK20 K20)
   refine wrt [.p 0, .p 1, .p 2] ?_
   refine pm ?_;simp only [nf]
   refine pp rfl rfl (pr_bin rfl rfl (by first | exact bin_add_n (n := 1) (by first | omega | (first | (rw [blkS_size]; omega) | (show _ < (blkS key cf _).size; rw [blkS_size]; omega))) | exact bin_add_i (by first | omega | (first | (rw [blkS_size]; omega) | (show _ < (blkS key cf _).size; rw [blkS_size]; omega))) (by first | omega | (first | (rw [blkS_size]; omega) | (show _ < (blkS key cf _).size; rw [blkS_size]; omega))))) ?_;simp only [nf]
   refine pa ?_;simp only [nf]
   refine plan_nil hH ?_
   clear hH
   intro w36 hH
   (try simp only [Exit.then, Exit.inBlock, ↓reduceIte, Nat.reduceEqDiff])
   refine ⟨b.size - (i + 1), ?_, _, rfl, by kernel_rfl, ?_⟩
   · first | omega | (omega)
   simp only [ga]
   refine ⟨i + 1, o30, cap31, cs32, _, _, rfl, ?_, rfl, ?_, ?_, ?_⟩
   ·
    exact hH.take 1
   · first | omega | (omega)
   · first | omega | (have hq := hO34; rw [str_at b] at hq; exact own_step hq (ks_at key cf (a + i) rfl _))
   · first | omega | (first | exact .inr ⟨_, rfl, rfl⟩ | exact hsv)
  ·
   (try simp only [cnd] at hc26)
   obtain rfl : sv = blkS key cf ((a + i) / 16) := sv_of hsv (by omega)
   refine wp_skip ?_
   refine hK23 _ _ ?_
   (try clear hK23 K23)
   refine wrp [.p 0, .p 1, .p 2, .p 3, .p 4, .p 5, .p 6, .p 7, .p 8, .p 9, .p 10, .x 11, .e 12, .p 13] ?_
   refine pm (pm (pm ?_));simp only [nf]
   refine pp rfl rfl (pr_index_str rfl rfl Tryd.underlying9 (by first | omega | (first | (rw [blkS_size]; omega) | (show _ < (blkS key cf _).size; rw [blkS_size]; omega)))) ?_;simp only [nf]
   refine pm (pm (pm ?_));simp only [nf]
   refine pp rfl rfl (pr_bin rfl rfl (by first | exact bin_add_n (by first | omega | (first | (rw [blkS_size]; omega) | (show _ < (blkS key cf _).size; rw [blkS_size]; omega))) | exact bin_add_i (by first | omega | (first | (rw [blkS_size]; omega) | (show _ < (blkS key cf _).size; rw [blkS_size]; omega))) (by first | omega | (first | (rw [blkS_size]; omega) | (show _ < (blkS key cf _).size; rw [blkS_size]; omega))))) ?_;simp only [nf]
   refine pp rfl rfl (pr_bin rfl rfl (by first | exact bin_rem_n (n := 16) (by first | omega | (first | (rw [blkS_size]; omega) | (show _ < (blkS key cf _).size; rw [blkS_size]; omega))))) ?_;simp only [nf]
   refine pp rfl rfl (pr_index_str rfl rfl Tryd.underlying9 (by first | omega | (first | (rw [blkS_size]; omega) | (show _ < (blkS key cf _).size; rw [blkS_size]; omega)))) ?_;simp only [nf]
   refine pp rfl rfl (pr_bin rfl rfl (bin_xor_u8 _ _)) ?_;simp only [nf]
   refine plan_buildSlice rfl rfl hH Tryd.underlying22 (by rfl) (bs1 _) ?_
   clear hH
   intro b37 w38 hH
   (try simp only [nf, nh, Value.cells] at hH ⊢)
   refine plan_append 0 rfl rfl hH rfl hO (fun w' hH => ((OwnC.sl hH 1 rfl (OwnC.of_bytes rfl))).src) rfl rfl Tryd.underlying22 Tryd.underlying22 (.inl ⟨_, rfl⟩) sz5 bz5 ze5 rfl (by first | omega | (simp <;> omega)) (by first | omega | (simp <;> omega)) ?_
   clear hH
   intro o39 cap40 cs41 w42 hO43 hH
   (try simp only [nf] at hH ⊢)
   (try simp only [nf, nh, Value.cells] at hH ⊢)
   try rw [← List.map_append] at hO43
   (try simp only [Nat.zero_add, List.nil_append, List.length_nil] at hO43 ⊢)
   refine pa ?_;simp only [nf]
   refine plan_nil hH ?_
   clear hH
   intro w44 hH
   refine hK20 _ _ ?_
   (try clear hK20 K20)
   refine wrt [.p 0, .p 1, .p 2] ?_
   refine pm ?_;simp only [nf]
   refine pp rfl rfl (pr_bin rfl rfl (by first | exact bin_add_n (n := 1) (by first | omega | (first | (rw [blkS_size]; omega) | (show _ < (blkS key cf _).size; rw [blkS_size]; omega))) | exact bin_add_i (by first | omega | (first | (rw [blkS_size]; omega) | (show _ < (blkS key cf _).size; rw [blkS_size]; omega))) (by first | omega | (first | (rw [blkS_size]; omega) | (show _ < (blkS key cf _).size; rw [blkS_size]; omega))))) ?_;simp only [nf]
   refine pa ?_;simp only [nf]
   refine plan_nil hH ?_
   clear hH
   intro w45 hH
   (try simp only [Exit.then, Exit.inBlock, ↓reduceIte, Nat.reduceEqDiff])
   refine ⟨b.size - (i + 1), ?_, _, rfl, by kernel_rfl, ?_⟩
   · first | omega | (omega)
   simp only [ga]
   refine ⟨i + 1, o39, cap40, cs41, _, _, rfl, ?_, rfl, ?_, ?_, ?_⟩
   ·
    exact hH.take 1
   · first | omega | (omega)
   · first | omega | (have hq := hO43; rw [str_at b] at hq; exact own_step hq (ks_at key cf (a + i) rfl _))
   · first | omega | (first | exact .inr ⟨_, rfl, rfl⟩ | exact hsv)
 ·
  (try simp only [cnd] at hc19)
  refine wp_exit ?_
  (try simp only [Exit.then, Exit.inBlock, ↓reduceIte, Nat.reduceEqDiff])
  refine hK7 _ _ ?_
  (try clear hK7 K7)
  refine wp_seq_k ?_
  intro K46 hK46
  refine wrt [.p 0, .q 1, .p 2] ?_
  refine pm ?_;simp only [nf]
  refine pq rfl rfl (qr_b2s (OwnC.sl hH 0 rfl hO) rfl Tryd.underlying22 Tryd.underlying5 Tryd.underlying9) ?_;simp only [nf]
  refine pa ?_;simp only [nf]
  refine plan_nil hH ?_
  clear hH
  intro w47 hH
  refine hK46 _ _ ?_
  (try clear hK46 K46)
  refine wp_ret ?_
  (try simp only [Exit.then, Exit.inBlock, ↓reduceIte, Nat.reduceEqDiff])
  refine BP.ret1 rfl rfl ?_
  obtain rfl : i = b.size := by omega
  exact ⟨rfl, hH.chg⟩

end Go.Proofs.YtmoaddicejohgaaDoor
