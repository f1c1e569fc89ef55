/- Walks of the document's layer 4: whole, count, Xor, Sum, seal, Seal, Open; and that its sums are the program's. No further conditions. -/
import Derived.Test.YtmoaddicejohgaaDoorGcmR
set_option linter.unusedSimpArgs false
set_option linter.unusedVariables false
set_option maxRecDepth 100000
set_option maxHeartbeats 4000000
namespace Go.Proofs.YtmoaddicejohgaaDoor
open Go
open List (getD_cons_zero getD_cons_succ set_cons_zero set_cons_succ)

theorem str_of {s : ByteArray} {l : List UInt8} (h : s.data.toList = l) : s = ⟨l.toArray⟩ := by
  subst h; rfl
theorem str_len (s : ByteArray) : s.data.toList.length = s.size := rfl
theorem str_app (a b : ByteArray) : (a ++ b).data.toList = a.data.toList ++ b.data.toList := by rw [ByteArray.data_append, Array.toList_append]
/-- Filled up with noughts. -/
def wholeL (l : List UInt8) : List UInt8 := l ++ List.replicate ((16 - l.length % 16) % 16) 0
def cntF (n i : Nat) : UInt8 := UInt8.ofNat (8 * n / 2 ^ (56 - 8 * i))
def cntL (n : Nat) : List UInt8 := (List.range 8).map (cntF n)
def xorL (a b : List UInt8) (n : Nat) : List UInt8 := (List.range n).map fun i => a.getD i 0 ^^^ b.getD i 0
theorem xorL_succ (a b : List UInt8) (n : Nat) : xorL a b (n + 1) = xorL a b n ++ [a.getD n 0 ^^^ b.getD n 0] := by
  unfold xorL; rw [List.range_succ, List.map_append]; rfl
theorem map_set {n i : Nat} {f : Nat → UInt8} {v : UInt8} : ((List.range n).map f).set i v = (List.range n).map (upd f i v) := by
  apply List.ext_getElem (by simp)
  intro j h1 h2
  rw [List.getElem_set]
  simp only [List.getElem_map, List.getElem_range, upd]
  by_cases h : i = j
  · rw [if_pos h, if_pos h.symm]
  · rw [if_neg h, if_neg fun e => h e.symm]
theorem map_cut {n k : Nat} {g z : Nat → UInt8} {v : UInt8} (hv : v = g k) : ((List.range n).map fun j => if j < k then g j else z j).set k v = (List.range n).map fun j => if j < k + 1 then g j else z j := by
  rw [map_set]
  exact List.map_congr_left fun j _ => upd_lt hv j
theorem whole_len (l : List UInt8) : (wholeL l).length = 16 * blocks l := by
  unfold wholeL blocks
  rw [List.length_append, List.length_replicate]; omega
theorem whole_getD (l : List UInt8) (i : Nat) : (wholeL l).getD i 0 = l.getD i 0 := by
  unfold wholeL
  simp only [List.getD, List.getElem?_append]
  by_cases h : i < l.length
  · rw [if_pos h]
  · rw [if_neg h, List.getElem?_replicate, List.getElem?_eq_none (by omega)]
    split <;> rfl
theorem takeP_congr (h r : P2) {a b : List UInt8} : ∀ n, (∀ i, i < 16 * n → a.getD i 0 = b.getD i 0) → takeP h r a n = takeP h r b n
  | 0, _ => rfl
  | n + 1, hab => by
    have e : blkP a n = blkP b n := ofP_congr fun i hi => hab _ (by omega)
    rw [takeP, takeP, takeP_congr h r n fun i hi => hab i (by omega), e]
theorem takeP_app (h r : P2) (a b : List UInt8) (m : Nat) (ha : a.length = 16 * m) : ∀ n, takeP h r (a ++ b) (m + n) = takeP h (takeP h r a m) b n
  | 0 => takeP_congr h r m fun i hi => by simp only [List.getD, List.getElem?_append, ha, hi, if_true]
  | n + 1 => by
    have e : blkP (a ++ b) (m + n) = blkP b n := ofP_congr fun i _ => by
      simp only [List.getD, List.getElem?_append, ha]
      rw [if_neg (by omega), show 16 * (m + n) + i - 16 * m = 16 * n + i by omega]
    rw [← Nat.add_assoc, takeP, takeP, takeP_app h r a b m ha n, e]
theorem cnt_word (m : Nat) (h : m < 2 ^ 64) : wordF (fun i => UInt8.ofNat (m / 2 ^ (56 - 8 * i))) 8 = UInt64.ofNat m := by
  apply UInt64.toNat_inj.1
  rw [ofNat_toNat64 m h]
  apply Nat.eq_of_testBit_eq
  intro k
  rw [word_bit _ 8 (Nat.le_refl _)]
  by_cases hk : k < 64
  · rw [decide_eq_true (by omega), Bool.true_and, UInt8.toNat_ofNat', Nat.testBit_mod_two_pow, decide_eq_true (by omega), Bool.true_and, Nat.testBit_div_two_pow, show k % 8 + (56 - 8 * (8 - 1 - k / 8)) = k by omega]
  · rw [decide_eq_false (by omega), Nat.testBit_lt_two_pow (Nat.lt_of_lt_of_le h (Nat.pow_le_pow_right (by decide) (by omega)))]; rfl
theorem shl3 (n : Nat) : UInt64.ofNat (8 * n) = UInt64.ofNat n <<< 3 := by
  apply UInt64.toNat_inj.1
  rw [UInt64.toNat_shiftLeft, UInt64.toNat_ofNat', UInt64.toNat_ofNat']
  show 8 * n % 2 ^ 64 = (n % 2 ^ 64) <<< 3 % 2 ^ 64
  rw [Nat.shiftLeft_eq]; omega
theorem cnt_blk (m n : Nat) (hm : m < 2 ^ 60) (hn : n < 2 ^ 60) : blkP (cntL m ++ cntL n) 0 = (UInt64.ofNat m <<< 3, UInt64.ofNat n <<< 3) := by
  have hl : (cntL m).length = 8 := by simp [cntL]
  have e : ∀ k i, i < 8 → (cntL k).getD i 0 = cntF k i := fun k i hi => by simp [cntL, List.getD, hi]
  have e1 : blkP (cntL m ++ cntL n) 0 = ofP fun i => if i < 8 then cntF m i else cntF n (i - 8) := ofP_congr fun i hi => by
    rw [Nat.mul_zero, Nat.zero_add]
    by_cases h : i < 8
    · rw [if_pos h, ← e m i h]; simp only [List.getD, List.getElem?_append, hl, h, if_true]
    · rw [if_neg h, ← e n (i - 8) (by omega)]; simp only [List.getD, List.getElem?_append, hl, h, if_false]
  rw [e1, ← shl3, ← shl3, ← cnt_word (8 * m) (by omega), ← cnt_word (8 * n) (by omega)]
  unfold ofP
  congr 1
/-- The document's sum is the program's. -/
theorem sum_is (h : P2) (al cl : List UInt8) (ha : al.length < 2 ^ 60) (hc : cl.length < 2 ^ 60) : takeP h (0, 0) (wholeL al ++ wholeL cl ++ cntL al.length ++ cntL cl.length) (blocks al + blocks cl + 1) = sealP h al cl := by
  have e : wholeL al ++ wholeL cl ++ cntL al.length ++ cntL cl.length = (wholeL al ++ wholeL cl) ++ (cntL al.length ++ cntL cl.length) := by rw [List.append_assoc]
  rw [e, takeP_app h (0, 0) (wholeL al ++ wholeL cl) _ (blocks al + blocks cl) (by rw [List.length_append, whole_len, whole_len]; omega) 1, takeP_app h (0, 0) (wholeL al) (wholeL cl) (blocks al) (whole_len al),
    takeP_congr h (0, 0) (blocks al) fun i _ => whole_getD al i, takeP_congr h _ (blocks cl) fun i _ => whole_getD cl i]
  rw [takeP, takeP, cnt_blk _ _ ha hc]; rfl
theorem nb_of (f : Nat → UInt8) (j : Nat) (hj : j < 16) : nbP (ofP f) j = f j := by
  rw [nb_is _ _ hj]
  apply UInt8.toNat_inj.1
  apply Nat.eq_of_testBit_eq
  intro k
  rw [nbN_bit]
  by_cases hk : k < 8
  · have := cf_of f (8 * j + (7 - k)) (by omega)
    rw [bitF_is] at this
    unfold cf at this
    rw [show 127 - (8 * j + (7 - k)) = 8 * (15 - j) + k by omega, show (8 * j + (7 - k)) / 8 = j by omega, show 7 - (8 * j + (7 - k)) % 8 = k by omega] at this
    rw [decide_eq_true hk, Bool.true_and, this]
  · rw [decide_eq_false hk, bit8 _ (by omega)]; rfl
theorem of_nb (p : P2) : ofP (nbP p) = p := pw_inj (Nat.eq_of_testBit_eq fun k => by
  by_cases hk : k < 128
  · have := cf_of (nbP p) (127 - k) (by omega)
    unfold cf at this
    rw [show 127 - (127 - k) = k by omega, bitF_is, nb_is _ _ (by omega), nbN_bit, decide_eq_true (by omega : 7 - (127 - k) % 8 < 8), Bool.true_and, show 8 * (15 - (127 - k) / 8) + (7 - (127 - k) % 8) = k by omega] at this
    exact this
  · rw [Nat.testBit_lt_two_pow (Nat.lt_of_lt_of_le (pw_lt _) (Nat.pow_le_pow_right (by decide) (by omega))), Nat.testBit_lt_two_pow (Nat.lt_of_lt_of_le (pw_lt _) (Nat.pow_le_pow_right (by decide) (by omega)))])
theorem nb_xor (p q : P2) (j : Nat) (hj : j < 16) : nbP (p.1 ^^^ q.1, p.2 ^^^ q.2) j = nbP p j ^^^ nbP q j := by
  rw [nb_is _ _ hj, nb_is _ _ hj, nb_is _ _ hj, pw_xor]
  apply UInt8.toNat_inj.1
  apply Nat.eq_of_testBit_eq
  intro k
  rw [UInt8.toNat_xor, Nat.testBit_xor, nbN_bit, nbN_bit, nbN_bit, Nat.testBit_xor]
  cases decide (k < 8) <;> simp
theorem strP_size (p : P2) : (strP p).size = 16 := by simp [strP, ByteArray.size]
theorem strP_at (p : P2) {i : Nat} (h : i < 16) : (strP p).data.toList.getD i 0 = nbP p i := by
  unfold strP; exact cut16 _ h
theorem of_strP (p : P2) : ofP (fun i => (strP p).data.toList.getD i 0) = p := (ofP_congr fun i hi => strP_at p hi).trans (of_nb p)
theorem xorL_len (a b : List UInt8) (n : Nat) : (xorL a b n).length = n := by simp [xorL]
theorem xorL_at (a b : List UInt8) {n i : Nat} (h : i < n) : (xorL a b n).getD i 0 = a.getD i 0 ^^^ b.getD i 0 := by simp [xorL, List.getD, h]
theorem sum_step (h r : P2) (sl : List UInt8) (k : Nat) (rs bs hs : ByteArray) (hr : rs = strP (takeP h r sl k)) (hh : hs = strP h) (hb : ∀ i, i < 16 → bs.data.toList.getD i 0 = sl.getD (16 * k + i) 0) :
    strP (mulP (ofP fun i => (xorL rs.data.toList bs.data.toList 16).getD i 0) (ofP fun i => hs.data.toList.getD i 0)) = strP (takeP h r sl (k + 1)) := by
  subst hr hh
  rw [of_strP, takeP]
  refine congrArg strP (congrArg (fun x => mulP x h) ?_)
  refine (ofP_congr fun i hi => ?_).trans (of_nb _)
  rw [xorL_at _ _ hi, strP_at _ hi, hb i hi, nb_xor _ _ _ hi]
  congr 1
  exact (nb_of (fun i => sl.getD (16 * k + i) 0) i hi).symm
theorem be32_nat (c : Nat → UInt8) : (be32 c).toNat = (((c 12).toNat * 256 + (c 13).toNat) * 256 + (c 14).toNat) * 256 + (c 15).toNat := by
  rw [← be32_sum]
  have h2 := (c 12).toNat_lt; have h3 := (c 13).toNat_lt; have h4 := (c 14).toNat_lt; have h5 := (c 15).toNat_lt
  simp only [UInt32.toNat_add, UInt32.toNat_shiftLeft, UInt8.toNat_toUInt32, Nat.shiftLeft_eq]
  show ((((c 12).toNat * 2 ^ 24 % 2 ^ 32 + (c 13).toNat * 2 ^ 16 % 2 ^ 32) % 2 ^ 32 + (c 14).toNat * 2 ^ 8 % 2 ^ 32) % 2 ^ 32 + (c 15).toNat) % 2 ^ 32 = _
  omega
theorem ctrF_self (c : Nat → UInt8) : ∀ i, i < 16 → ctrF c (be32 c) i = c i := by
  intro i hi
  have h : i < 12 ∨ i = 12 ∨ i = 13 ∨ i = 14 ∨ i = 15 := by omega
  have hb := be32_nat c
  have h2 := (c 12).toNat_lt; have h3 := (c 13).toNat_lt; have h4 := (c 14).toNat_lt; have h5 := (c 15).toNat_lt
  rcases h with h | rfl | rfl | rfl | rfl
  · exact ctr_head c _ i h
  · show ((be32 c) >>> 24).toUInt8 = c 12
    apply UInt8.toNat_inj.1
    rw [UInt32.toNat_toUInt8, UInt32.toNat_shiftRight, hb, Nat.shiftRight_eq_div_pow]
    show _ / 2 ^ 24 % 256 = _
    omega
  · show ((be32 c) >>> 16).toUInt8 = c 13
    apply UInt8.toNat_inj.1
    rw [UInt32.toNat_toUInt8, UInt32.toNat_shiftRight, hb, Nat.shiftRight_eq_div_pow]
    show _ / 2 ^ 16 % 256 = _
    omega
  · show ((be32 c) >>> 8).toUInt8 = c 14
    apply UInt8.toNat_inj.1
    rw [UInt32.toNat_toUInt8, UInt32.toNat_shiftRight, hb, Nat.shiftRight_eq_div_pow]
    show _ / 2 ^ 8 % 256 = _
    omega
  · show (be32 c).toUInt8 = c 15
    apply UInt8.toNat_inj.1
    rw [UInt32.toNat_toUInt8, hb]
    omega
theorem ks_head (K c : Nat → UInt8) (i : Nat) (hi : i < 16) : ksF K c i = aesR K c 10 i := by
  unfold ksF
  rw [Nat.div_eq_of_lt hi, Nat.mod_eq_of_lt hi, show be32 c + UInt32.ofNat 0 = be32 c from UInt32.add_zero _]
  exact aesR_congr (fun _ _ => rfl) (ctrF_self c) 10 (Nat.le_refl _) i hi
theorem seal_is (K q : Nat → UInt8) (h : P2) (nl al cl : List UInt8) (bs : ByteArray) (hb : ∀ i, i < 16 → bs.data.toList.getD i 0 = q i) (hq : ∀ i, i < 16 → ksF K (gctr nl 1) i = q i) :
    xorL (strP (sealP h al cl)).data.toList bs.data.toList 16 = sealL K h nl al cl := by
  unfold xorL sealL strm
  refine List.map_congr_left fun i hi => ?_
  have hi : i < 16 := List.mem_range.1 hi
  have e1 : ((List.range 16).map (nbP (sealP h al cl))).getD i 0 = nbP (sealP h al cl) i := cut16 _ hi
  rw [strP_at _ hi, e1, Nat.zero_add, hq i hi, hb i hi]

theorem own_init {b n : Nat} {g : Nat → UInt8} : OwnC (some b) n n 1 (arr8 n fun _ => 0) (((List.range n).map fun j => if j < 0 then g j else 0).map V8) := by
  have := OwnC.made (b := b) (n := n) (f := fun _ => 0)
  simpa using this
theorem bsz (l : List UInt8) : (ByteArray.mk l.toArray).size = l.length := by simp [ByteArray.size]
theorem xor_size (a b : List UInt8) (n : Nat) : (ByteArray.mk (xorL a b n).toArray).size = n := by rw [bsz, xorL_len]
theorem cnt_len (n : Nat) : (cntL n).length = 8 := by simp [cntL]
theorem cnt_all (n : Nat) : ((List.range 8).map fun j => if j < 8 then cntF n j else 0) = cntL n := List.map_congr_left fun j hj => if_pos (List.mem_range.1 hj)
theorem strP_of (f : Nat → UInt8) : (⟨((List.range 16).map f).toArray⟩ : ByteArray) = strP (ofP f) := by
  unfold strP
  rw [List.map_congr_left fun j hj => (nb_of f j (List.mem_range.1 hj)).symm]
theorem strP_zero : (⟨((List.range 16).map fun _ => (0 : UInt8)).toArray⟩ : ByteArray) = strP (0, 0) := by kernel_rfl
theorem str_cut (s : ByteArray) (a i : Nat) (h : i < 16) (hs : a + 16 ≤ s.size) : (s.extract a (a + 16)).data.toList.getD i 0 = s.data.toList.getD (a + i) 0 := by
  rw [ByteArray.data_extract, Array.toList_extract, List.extract_eq_take_drop]
  simp only [List.getD, List.getElem?_take, List.getElem?_drop]
  rw [if_pos (by omega)]
theorem cut_size (s : ByteArray) (a : Nat) (hs : a + 16 ≤ s.size) : (s.extract a (a + 16)).size = 16 := by
  rw [ByteArray.size_extract]; omega
theorem getD_app (l r : List UInt8) (i : Nat) : (⟨l.toArray⟩ ++ ⟨r.toArray⟩ : ByteArray).data.toList.getD i 0 = (l ++ r).getD i 0 := by rw [str_app]

theorem whole_calls (s : ByteArray) (hs : s.size ≤ 1000000000) (w : World) : Ret Tryd.prog 58 #[.string s] w fun v w' => v = .string ⟨(wholeL s.data.toList).toArray⟩ ∧ Chg [] w w' := by
 refine Ret.enter Tryd.func58 rfl ?_
 simp only [Tryd.ntmps58, fe, Nat.reduceAdd, Nat.reduceSub]
 have hH := Hp.start [] w
 refine wp_seq_k ?_
 intro K1 hK1
 refine wrt [.p 0] ?_
 refine pa ?_;simp only [nf]
 refine plan_nil hH ?_
 clear hH
 intro w2 hH
 refine hK1 _ _ ?_
 (try clear hK1 K1)
 refine wp_seq_k ?_
 intro K3 hK3
 refine wp_block ?_
 refine wp_loopT [0] [3, 4, 5, 6, 7, 8] (fun (n4 : Nat) (vs : List Value) (w' : World) => ∃ (k : Nat) (sv : ByteArray), vs = [.string sv] ∧ Hp [] w w' [] ∧ n4 = (16 - s.size % 16) % 16 - k ∧ k ≤ (16 - s.size % 16) % 16 ∧ sv.size = s.size + k ∧ sv.data.toList = s.data.toList ++ List.replicate k 0) ((16 - s.size % 16) % 16 - 0) (by kernel_rfl) ?_ ?_
 ·
  simp only [ga]
  refine ⟨0, s, rfl, ?_, rfl, ?_, ?_, ?_⟩
  ·
   exact hH
  · first | omega | (omega)
  · first | omega | (omega)
  · first | omega | (simp)
 clear hH
 intro n4 vs5 w6 hR7 d0
 obtain ⟨k, sv, rfl, hH, hn8, hf9, hf10, hsv⟩ := hR7
 simp only [putAll, putD, List.set_cons_zero, List.set_cons_succ, Nat.zero_add, Nat.reduceAdd]
 refine wp_seq_k ?_
 intro K11 hK11
 refine wp_seq_k ?_
 intro K12 hK12
 refine wrt [.p 0, .p 1, .p 2, .p 3] ?_
 refine pm ?_;simp only [nf]
 refine pp rfl rfl (pr_len_str rfl Tryd.underlying9) ?_;simp only [nf]
 refine pp rfl rfl (pr_bin rfl rfl (by first | exact bin_rem_n (n := 16) (by first | omega | (show sv.size + 1 < _; omega)))) ?_;simp only [nf]
 refine pp rfl rfl (pr_bin rfl rfl (by first | exact bin_neq_n (n := 0)  | exact bin_neq_i)) ?_;simp only [nf]
 refine plan_nil hH ?_
 clear hH
 intro w13 hH
 refine hK12 _ _ ?_
 (try clear hK12 K12)
 refine wp_cond_split rfl (fun hc14 => ?_) (fun hc14 => ?_)
 ·
  (try simp only [cnd] at hc14)
  refine wp_skip ?_
  refine hK11 _ _ ?_
  (try clear hK11 K11)
  refine wp_block ?_
  refine wrt [.p 0, .p 1, .p 2] ?_
  refine pm ?_;simp only [nf]
  refine pp rfl rfl (pr_bin rfl rfl (bin_add_s (by first | omega | (show sv.size + 1 < _; omega)))) ?_;simp only [nf]
  refine pa ?_;simp only [nf]
  refine plan_nil hH ?_
  clear hH
  intro w15 hH
  (try simp only [Exit.then, Exit.inBlock, ↓reduceIte, Nat.reduceEqDiff])
  refine ⟨(16 - s.size % 16) % 16 - (k + 1), ?_, _, rfl, by kernel_rfl, ?_⟩
  · first | omega | (omega)
  simp only [ga]
  refine ⟨k + 1, _, rfl, ?_, rfl, ?_, ?_, ?_⟩
  ·
   exact hH
  · first | omega | (omega)
  · first | omega | (rw [ByteArray.size_append]; show sv.size + 1 = _; omega)
  · first | omega | (rw [str_app, hsv, List.append_assoc, ← List.replicate_succ'])
 ·
  (try simp only [cnd] at hc14)
  refine wp_exit ?_
  (try simp only [Exit.then, Exit.inBlock, ↓reduceIte, Nat.reduceEqDiff])
  refine hK3 _ _ ?_
  (try clear hK3 K3)
  refine wp_seq_k ?_
  intro K16 hK16
  refine wrt [.p 0, .p 1] ?_
  refine pm (pa ?_);simp only [nf]
  refine plan_nil hH ?_
  clear hH
  intro w17 hH
  refine hK16 _ _ ?_
  (try clear hK16 K16)
  refine wp_ret ?_
  (try simp only [Exit.then, Exit.inBlock, ↓reduceIte, Nat.reduceEqDiff])
  refine BP.ret1 rfl rfl ?_
  obtain rfl : k = (16 - s.size % 16) % 16 := by omega
  exact ⟨congrArg Value.string (str_of hsv), hH.chg⟩

theorem count4_calls (s : ByteArray) (hs : s.size ≤ 1000000000) (w : World) : Ret Tryd.prog 59 #[.string s] w fun v w' => v = .string ⟨(cntL s.size).toArray⟩ ∧ Chg [] w w' := by
 refine Ret.enter Tryd.func59 rfl ?_
 simp only [Tryd.ntmps59, fe, Nat.reduceAdd, Nat.reduceSub]
 have hH := Hp.start [] w
 refine wp_seq_k ?_
 intro K1 hK1
 refine wrt [.p 0] ?_
 refine pa ?_;simp only [nf]
 refine plan_nil hH ?_
 clear hH
 intro w2 hH
 refine hK1 _ _ ?_
 (try clear hK1 K1)
 refine wp_seq_k ?_
 intro K3 hK3
 refine wrt [.p 0, .p 1, .p 2, .p 3] ?_
 refine pm ?_;simp only [nf]
 refine pp rfl rfl (pr_len_str rfl Tryd.underlying9) ?_;simp only [nf]
 refine pp rfl rfl (pr_bin rfl rfl (by first | exact bin_mul_n (m := 8) (by first | omega | (simp <;> omega)) | exact bin_mul_i (by first | omega | (simp <;> omega)) (by first | omega | (simp <;> omega)))) ?_;simp only [nf]
 refine pa ?_;simp only [nf]
 refine plan_nil hH ?_
 clear hH
 intro w4 hH
 refine hK3 _ _ ?_
 (try clear hK3 K3)
 refine wp_seq_k ?_
 intro K5 hK5
 refine wrt [.x 0, .p 1] ?_
 refine plan_make (n := 8) (c := 8) rfl rfl hH rfl rfl Tryd.underlying22 sz5 bz5 ze5 rfl (by first | omega | (simp <;> omega)) (by first | omega | (simp <;> omega)) (by first | omega | (simp <;> omega)) ?_
 clear hH
 intro b6 w7 hH
 (try simp only [nf] at hH ⊢)
 rw [made_arr8] at hH
 (try simp only [nf, nh, Value.cells, arrB_set] at hH ⊢)
 refine pa ?_;simp only [nf]
 refine plan_nil hH ?_
 clear hH
 intro w8 hH
 refine hK5 _ _ ?_
 (try clear hK5 K5)
 refine wp_seq_k ?_
 intro K9 hK9
 refine wp_seq_k ?_
 intro K10 hK10
 refine wrt [.p 0] ?_
 refine pka 0 ?_;simp only [nf]
 refine plan_nil hH ?_
 clear hH
 intro w11 hH
 refine hK10 _ _ ?_
 (try clear hK10 K10)
 refine wp_block ?_
 refine wp_loopT [5] [10, 11, 12, 13, 14, 15, 16, 17, 18, 19, 20, 21, 22] (fun (n12 : Nat) (vs : List Value) (w' : World) => ∃ (i : Nat) (cs : Array Value), vs = [I64 (i : Nat)] ∧ Hp [] w w' [(some b6, 5, cs)] ∧ n12 = 8 - i ∧ i ≤ 8 ∧ OwnC (some b6) 8 8 1 cs (((List.range 8).map fun j => if j < i then cntF s.size j else 0).map V8)) (8 - 0) (by kernel_rfl) ?_ ?_
 ·
  simp only [ga]
  refine ⟨0, arr8 8 fun _ => 0, rfl, ?_, rfl, ?_, ?_⟩
  ·
   exact hH
  · first | omega | (omega)
  · first | omega | (exact own_init)
 clear hH
 intro n12 vs13 w14 hR15 d0
 obtain ⟨i, cs, rfl, hH, hn16, hf17, hO⟩ := hR15
 simp only [putAll, putD, List.set_cons_zero, List.set_cons_succ, Nat.zero_add, Nat.reduceAdd]
 refine wp_seq_k ?_
 intro K18 hK18
 refine wp_seq_k ?_
 intro K19 hK19
 refine wrt [.p 0, .p 1] ?_
 refine pm ?_;simp only [nf]
 refine pp rfl rfl (pr_bin rfl rfl (by first | exact bin_lss_n (n := 8)  | exact bin_lss_i)) ?_;simp only [nf]
 refine plan_nil hH ?_
 clear hH
 intro w20 hH
 refine hK19 _ _ ?_
 (try clear hK19 K19)
 refine wp_cond_split rfl (fun hc21 => ?_) (fun hc21 => ?_)
 ·
  (try simp only [cnd] at hc21)
  refine wp_skip ?_
  refine hK18 _ _ ?_
  (try clear hK18 K18)
  refine wp_seq_k ?_
  intro K22 hK22
  refine wp_block ?_
  refine wrt [.p 0, .p 1, .p 2, .p 3, .p 4, .p 5, .p 6, .p 7, .p 8, .e 9] ?_
  refine pm (pm (pm (pm ?_)));simp only [nf]
  refine pp rfl rfl (pr_bin rfl rfl (by first | exact bin_mul_n (m := 8) (by first | omega | (simp <;> omega)) | exact bin_mul_i (by first | omega | (simp <;> omega)) (by first | omega | (simp <;> omega)))) ?_;simp only [nf]
  refine pp rfl rfl (pr_bin rfl rfl (by first | exact bin_sub_n (m := 56) (by first | omega | (simp <;> omega)) (by first | omega | (simp <;> omega)) | exact bin_sub_i (by first | omega | (simp <;> omega)) (by first | omega | (simp <;> omega)))) ?_;simp only [nf]
  refine pp rfl rfl (pr_bin rfl rfl (by first | exact bin_shr_n (by first | omega | (simp <;> omega)) | exact bin_shr_i (by first | omega | (simp <;> omega)))) ?_;simp only [nf]
  refine pp rfl rfl (pr_conv rfl (by first | exact cnv_n_u8 Tryd.underlying3 Tryd.underlying5 | exact cnv_i_u8 Tryd.underlying3 Tryd.underlying5)) ?_;simp only [nf]
  refine pp rfl rfl (pr_idx_Sl (OwnC.sl hH 0 rfl hO) rfl rfl Tryd.underlying22 sz5 (by first | omega | (simp <;> omega))) ?_;simp only [nf]
  refine plan_storeO 0 rfl rfl hH rfl rfl hO rfl sz5 (by first | omega | (simp <;> omega)) ?_
  clear hH
  intro cs24 w23 hO25 hH
  (try simp only [nf, nh, Value.cells, arrB_set] at hH ⊢)
  refine plan_nil hH ?_
  clear hH
  intro w26 hH
  refine hK22 _ _ ?_
  (try clear hK22 K22)
  refine wrt [.p 0, .p 1, .p 2] ?_
  refine pm ?_;simp only [nf]
  refine pp rfl rfl (pr_bin rfl rfl (by first | exact bin_add_n (n := 1) (by first | omega | (simp <;> omega)) | exact bin_add_i (by first | omega | (simp <;> omega)) (by first | omega | (simp <;> omega)))) ?_;simp only [nf]
  refine pa ?_;simp only [nf]
  refine plan_nil hH ?_
  clear hH
  intro w27 hH
  (try simp only [Exit.then, Exit.inBlock, ↓reduceIte, Nat.reduceEqDiff])
  refine ⟨8 - (i + 1), ?_, _, rfl, by kernel_rfl, ?_⟩
  · first | omega | (omega)
  simp only [ga]
  refine ⟨i + 1, cs24, rfl, ?_, rfl, ?_, ?_⟩
  ·
   exact hH
  · first | omega | (omega)
  · first | omega | (rw [← map_cut rfl]; exact hO25)
 ·
  (try simp only [cnd] at hc21)
  refine wp_exit ?_
  (try simp only [Exit.then, Exit.inBlock, ↓reduceIte, Nat.reduceEqDiff])
  refine hK9 _ _ ?_
  (try clear hK9 K9)
  refine wp_seq_k ?_
  intro K28 hK28
  refine wrt [.p 0, .q 1, .p 2] ?_
  refine pm ?_;simp only [nf]
  refine pq rfl rfl (qr_b2s (OwnC.sl hH 0 rfl hO) rfl Tryd.underlying22 Tryd.underlying5 Tryd.underlying9) ?_;simp only [nf]
  refine pa ?_;simp only [nf]
  refine plan_nil hH ?_
  clear hH
  intro w29 hH
  refine hK28 _ _ ?_
  (try clear hK28 K28)
  refine wp_ret ?_
  (try simp only [Exit.then, Exit.inBlock, ↓reduceIte, Nat.reduceEqDiff])
  refine BP.ret1 rfl rfl ?_
  obtain rfl : i = 8 := by omega
  rw [cnt_all]
  exact ⟨rfl, hH.chg⟩

theorem xor_calls (a b : ByteArray) (n : Nat) (ha : a.size = n) (hb : n ≤ b.size) (hn : n ≤ 1000000000) (w : World) : Ret Tryd.prog 56 #[.string a, .string b] w fun v w' => v = .string ⟨(xorL a.data.toList b.data.toList n).toArray⟩ ∧ Chg [] w w' := by
 refine Ret.enter Tryd.func56 rfl ?_
 simp only [Tryd.ntmps56, fe, Nat.reduceAdd, Nat.reduceSub]
 have hH := Hp.start [] w
 refine wp_seq_k ?_
 intro K1 hK1
 refine wrt [.p 0] ?_
 refine pa ?_;simp only [nf]
 refine plan_nil hH ?_
 clear hH
 intro w2 hH
 refine hK1 _ _ ?_
 (try clear hK1 K1)
 refine wp_seq_k ?_
 intro K3 hK3
 refine wrt [.p 0] ?_
 refine pa ?_;simp only [nf]
 refine plan_nil hH ?_
 clear hH
 intro w4 hH
 refine hK3 _ _ ?_
 (try clear hK3 K3)
 refine wp_seq_k ?_
 intro K5 hK5
 refine wp_seq_k ?_
 intro K6 hK6
 refine wrt [.p 0] ?_
 refine pka 0 ?_;simp only [nf]
 refine plan_nil hH ?_
 clear hH
 intro w7 hH
 refine hK6 _ _ ?_
 (try clear hK6 K6)
 refine wp_block ?_
 refine wp_loopT [5, 6] [7, 8, 9, 10, 11, 12, 13, 14, 15, 16, 17, 18, 19, 20, 21, 22] (fun (n8 : Nat) (vs : List Value) (w' : World) => ∃ (i : Nat) (o : Option Nat) (cap : Nat) (cs : Array Value), vs = [own o i cap, I64 (i : Nat)] ∧ Hp [] w w' [(o, 5, cs)] ∧ n8 = n - i ∧ i ≤ n ∧ OwnC o i cap 1 cs ((xorL a.data.toList b.data.toList i).map V8)) (n - 0) (by kernel_rfl) ?_ ?_
 ·
  simp only [ga]
  refine ⟨0, none, 0, #[], rfl, ?_, rfl, ?_, ?_⟩
  ·
   exact hH.nil _
  · first | omega | (omega)
  · first | omega | (exact OwnC.start 1)
 clear hH
 intro n8 vs9 w10 hR11 d0
 obtain ⟨i, o, cap, cs, rfl, hH, hn12, hf13, hO⟩ := hR11
 simp only [putAll, putD, List.set_cons_zero, List.set_cons_succ, Nat.zero_add, Nat.reduceAdd]
 refine wp_seq_k ?_
 intro K14 hK14
 refine wp_seq_k ?_
 intro K15 hK15
 refine wrt [.p 0, .p 1, .p 2, .p 3] ?_
 refine pm (pm ?_);simp only [nf]
 refine pp rfl rfl (pr_len_str rfl Tryd.underlying9) ?_;simp only [nf]
 refine pp rfl rfl (pr_bin rfl rfl (by first | exact bin_lss_n  | exact bin_lss_i)) ?_;simp only [nf]
 refine plan_nil hH ?_
 clear hH
 intro w16 hH
 refine hK15 _ _ ?_
 (try clear hK15 K15)
 refine wp_cond_split rfl (fun hc17 => ?_) (fun hc17 => ?_)
 ·
  (try simp only [cnd] at hc17)
  refine wp_skip ?_
  refine hK14 _ _ ?_
  (try clear hK14 K14)
  refine wp_seq_k ?_
  intro K18 hK18
  refine wp_block ?_
  refine wrp [.p 0, .p 1, .p 2, .p 3, .p 4, .p 5, .p 6, .p 7, .x 8, .e 9, .p 10] ?_
  refine pm (pm (pm ?_));simp only [nf]
  refine pp rfl rfl (pr_index_str rfl rfl Tryd.underlying9 (by omega)) ?_;simp only [nf]
  refine pm (pm ?_);simp only [nf]
  refine pp rfl rfl (pr_index_str rfl rfl Tryd.underlying9 (by omega)) ?_;simp only [nf]
  refine pp rfl rfl (pr_bin rfl rfl (bin_xor_u8 _ _)) ?_;simp only [nf]
  refine plan_buildSlice rfl rfl hH Tryd.underlying22 (by rfl) (bs1 _) ?_
  clear hH
  intro b19 w20 hH
  (try simp only [nf, nh, Value.cells, arrB_set] at hH ⊢)
  refine plan_append 0 rfl rfl hH rfl hO (fun w' hH => ((OwnC.sl hH 1 rfl (OwnC.of_bytes rfl))).src) rfl rfl Tryd.underlying22 Tryd.underlying22 (.inl ⟨_, rfl⟩) sz5 bz5 ze5 rfl (by first | omega | (simp <;> omega)) (by first | omega | (simp <;> omega)) ?_
  clear hH
  intro o21 cap22 cs23 w24 hO25 hH
  (try simp only [nf] at hH ⊢)
  (try simp only [nf, nh, Value.cells, arrB_set] at hH ⊢)
  try rw [← List.map_append] at hO25
  (try simp only [Nat.zero_add, List.nil_append, List.length_nil] at hO25 ⊢)
  refine pa ?_;simp only [nf]
  refine plan_nil hH ?_
  clear hH
  intro w26 hH
  refine hK18 _ _ ?_
  (try clear hK18 K18)
  refine wrt [.p 0, .p 1, .p 2] ?_
  refine pm ?_;simp only [nf]
  refine pp rfl rfl (pr_bin rfl rfl (by first | exact bin_add_n (n := 1) (by omega) | exact bin_add_i (by omega) (by omega))) ?_;simp only [nf]
  refine pa ?_;simp only [nf]
  refine plan_nil hH ?_
  clear hH
  intro w27 hH
  (try simp only [Exit.then, Exit.inBlock, ↓reduceIte, Nat.reduceEqDiff])
  refine ⟨n - (i + 1), ?_, _, rfl, by kernel_rfl, ?_⟩
  · first | omega | (omega)
  simp only [ga]
  refine ⟨i + 1, o21, cap22, cs23, rfl, ?_, rfl, ?_, ?_⟩
  ·
   exact hH.take 1
  · first | omega | (omega)
  · first | omega | (have hq := hO25; simp only [str_at] at hq; rw [xorL_succ]; exact hq)
 ·
  (try simp only [cnd] at hc17)
  refine wp_exit ?_
  (try simp only [Exit.then, Exit.inBlock, ↓reduceIte, Nat.reduceEqDiff])
  refine hK5 _ _ ?_
  (try clear hK5 K5)
  refine wp_seq_k ?_
  intro K28 hK28
  refine wrt [.p 0, .q 1, .p 2] ?_
  refine pm ?_;simp only [nf]
  refine pq rfl rfl (qr_b2s (OwnC.sl hH 0 rfl hO) rfl Tryd.underlying22 Tryd.underlying5 Tryd.underlying9) ?_;simp only [nf]
  refine pa ?_;simp only [nf]
  refine plan_nil hH ?_
  clear hH
  intro w29 hH
  refine hK28 _ _ ?_
  (try clear hK28 K28)
  refine wp_ret ?_
  (try simp only [Exit.then, Exit.inBlock, ↓reduceIte, Nat.reduceEqDiff])
  refine BP.ret1 rfl rfl ?_
  obtain rfl : i = n := by omega
  exact ⟨rfl, hH.chg⟩

theorem sum_calls (h s : ByteArray) (hp : P2) (n : Nat) (sl : List UInt8) (hh : h = strP hp) (hs : s.size = 16 * n) (hsl : s.data.toList = sl) (hn : n ≤ 1000000000) (w : World) : Ret Tryd.prog 57 #[.string h, .string s] w fun v w' => v = .string (strP (takeP hp (0, 0) sl n)) ∧ Chg [] w w' := by
 refine Ret.enter Tryd.func57 rfl ?_
 simp only [Tryd.ntmps57, fe, Nat.reduceAdd, Nat.reduceSub]
 have hH := Hp.start [] w
 refine wp_seq_k ?_
 intro K1 hK1
 refine wrt [.p 0] ?_
 refine pa ?_;simp only [nf]
 refine plan_nil hH ?_
 clear hH
 intro w2 hH
 refine hK1 _ _ ?_
 (try clear hK1 K1)
 refine wp_seq_k ?_
 intro K3 hK3
 refine wrt [.x 0, .q 1, .p 2] ?_
 refine plan_make (n := 16) (c := 16) rfl rfl hH rfl rfl Tryd.underlying22 sz5 bz5 ze5 rfl (by omega) (by omega) (by omega) ?_
 clear hH
 intro b4 w5 hH
 (try simp only [nf] at hH ⊢)
 rw [made_arr8] at hH
 (try simp only [nf, nh, Value.cells, arrB_set] at hH ⊢)
 refine pq rfl rfl (qr_b2s (OwnC.sl hH 0 rfl OwnC.made) rfl Tryd.underlying22 Tryd.underlying5 Tryd.underlying9) ?_;simp only [nf]
 refine pa ?_;simp only [nf]
 refine plan_nil hH ?_
 clear hH
 intro w6 hH
 refine hK3 _ _ ?_
 (try clear hK3 K3)
 refine wp_seq_k ?_
 intro K7 hK7
 refine wp_seq_k ?_
 intro K8 hK8
 refine wrt [.p 0] ?_
 refine pka 0 ?_;simp only [nf]
 refine plan_nil hH ?_
 clear hH
 intro w9 hH
 refine hK8 _ _ ?_
 (try clear hK8 K8)
 refine wp_block ?_
 obtain ⟨kc10, hkc11, hN⟩ := hH.name 0 rfl
 replace hH := hN; clear hN; simp only [List.set_cons_zero, List.set_cons_succ] at hH
 refine wp_loopT [5, 6] [9, 10, 11, 12, 13, 14, 15, 16, 17, 18, 19, 20, 21, 22, 23] (fun (n12 : Nat) (vs : List Value) (w' : World) => ∃ (k : Nat) (rs : ByteArray), vs = [.string rs, I64 ((16 * k : Nat))] ∧ Hp [] w w' [(some b4, 5, kc10)] ∧ n12 = n - k ∧ k ≤ n ∧ rs = strP (takeP hp (0, 0) sl k)) (n - 0) (by kernel_rfl) ?_ ?_
 ·
  simp only [ga]
  refine ⟨0, _, rfl, ?_, rfl, ?_, ?_⟩
  ·
   exact hH
  · first | omega | (omega)
  · first | omega | (exact strP_zero)
 clear hH
 intro n12 vs13 w14 hR15 d0
 obtain ⟨k, rs, rfl, hH, hn16, hf17, hr⟩ := hR15
 simp only [putAll, putD, List.set_cons_zero, List.set_cons_succ, Nat.zero_add, Nat.reduceAdd]
 have hr16 : rs.size = 16 := by rw [hr]; exact strP_size _
 subst hkc11
 refine wp_seq_k ?_
 intro K18 hK18
 refine wp_seq_k ?_
 intro K19 hK19
 refine wrt [.p 0, .p 1, .p 2, .p 3] ?_
 refine pm (pm ?_);simp only [nf]
 refine pp rfl rfl (pr_len_str rfl Tryd.underlying9) ?_;simp only [nf]
 refine pp rfl rfl (pr_bin rfl rfl (by first | exact bin_lss_n  | exact bin_lss_i)) ?_;simp only [nf]
 refine plan_nil hH ?_
 clear hH
 intro w20 hH
 refine hK19 _ _ ?_
 (try clear hK19 K19)
 refine wp_cond_split rfl (fun hc21 => ?_) (fun hc21 => ?_)
 ·
  (try simp only [cnd] at hc21)
  refine wp_skip ?_
  refine hK18 _ _ ?_
  (try clear hK18 K18)
  refine wp_seq_k ?_
  intro K22 hK22
  refine wp_block ?_
  refine wrt [.p 0, .p 1, .p 2, .p 3, .p 4, .p 5, .q 6, .p 7, .q 8, .p 9] ?_
  refine pm (pm (pm (pm ?_)));simp only [nf]
  refine pp rfl rfl (pr_bin rfl rfl (by first | exact bin_add_n (n := 16) (by omega) | exact bin_add_i (by omega) (by omega))) ?_;simp only [nf]
  refine pp rfl rfl (pr_slice_str_lh rfl rfl rfl Tryd.underlying9 (by omega) (by omega)) ?_;simp only [nf]
  refine pq rfl rfl (qr_call cf56 (fun w' hw => xor_calls _ _ 16 hr16 (by rw [cut_size _ _ (by omega)]; exact Nat.le_refl _) (by omega) w') rfl) ?_;simp only [nf]
  refine pm ?_;simp only [nf]
  refine pq rfl rfl (qr_call cf73 (fun w' hw => refTimes_calls _ _ (xor_size _ _ _) (by rw [hh]; exact strP_size _) w') rfl) ?_;simp only [nf]
  refine pa ?_;simp only [nf]
  refine plan_nil hH ?_
  clear hH
  intro w23 hH
  refine hK22 _ _ ?_
  (try clear hK22 K22)
  refine wrt [.p 0, .p 1, .p 2] ?_
  refine pm ?_;simp only [nf]
  refine pp rfl rfl (pr_bin rfl rfl (by first | exact bin_add_n (n := 16) (by omega) | exact bin_add_i (by omega) (by omega))) ?_;simp only [nf]
  refine pa ?_;simp only [nf]
  refine plan_nil hH ?_
  clear hH
  intro w24 hH
  (try simp only [Exit.then, Exit.inBlock, ↓reduceIte, Nat.reduceEqDiff])
  refine ⟨n - (k + 1), ?_, _, rfl, by kernel_rfl, ?_⟩
  · first | omega | (omega)
  simp only [ga]
  refine ⟨k + 1, _, rfl, ?_, rfl, ?_, ?_⟩
  ·
   exact hH
  · first | omega | (omega)
  · first | omega | (exact sum_step _ _ _ _ _ _ _ hr hh fun i hi => by rw [← hsl]; exact str_cut _ _ _ hi (by omega))
 ·
  (try simp only [cnd] at hc21)
  refine wp_exit ?_
  (try simp only [Exit.then, Exit.inBlock, ↓reduceIte, Nat.reduceEqDiff])
  refine hK7 _ _ ?_
  (try clear hK7 K7)
  refine wp_seq_k ?_
  intro K25 hK25
  refine wrt [.p 0, .p 1] ?_
  refine pm (pa ?_);simp only [nf]
  refine plan_nil hH ?_
  clear hH
  intro w26 hH
  refine hK25 _ _ ?_
  (try clear hK25 K25)
  refine wp_ret ?_
  (try simp only [Exit.then, Exit.inBlock, ↓reduceIte, Nat.reduceEqDiff])
  refine BP.ret1 rfl rfl ?_
  obtain rfl : k = n := by omega
  exact ⟨congrArg Value.string hr, hH.chg⟩

theorem gctr_at (n : ByteArray) (x : UInt8) (i : Nat) : (n ++ ⟨#[0, 0, 0, x]⟩ : ByteArray).data.toList.getD i 0 = gctr n.data.toList x i := by rw [str_app]; rfl
theorem app4_size (n : ByteArray) (x : UInt8) (h : n.size = 12) : (n ++ ⟨#[0, 0, 0, x]⟩ : ByteArray).size = 16 := by rw [ByteArray.size_append, h]; rfl

theorem refseal_calls (bk : Nat) (key : Nat → UInt8) (nn aa cc : ByteArray) (w : World) (hk : Blk w bk 103 (arr8 432 (keyF key))) (hn : nn.size = 12) (haa : aa.size ≤ 100000000) (hcc : cc.size ≤ 100000000) :
    Ret Tryd.prog 41 #[PT bk 0, .string nn, .string aa, .string cc] w fun v w' => v = .string ⟨(sealL (kexp key) (hP (kexp key)) nn.data.toList aa.data.toList cc.data.toList).toArray⟩ ∧ Chg [] w w' := by
 have hba : blocks aa.data.toList ≤ 10000000 := by unfold blocks; rw [str_len]; omega
 have hbc : blocks cc.data.toList ≤ 10000000 := by unfold blocks; rw [str_len]; omega
 have hsz : ((((⟨(wholeL aa.data.toList).toArray⟩ : ByteArray) ++ ⟨(wholeL cc.data.toList).toArray⟩) ++ ⟨(cntL aa.size).toArray⟩) ++ ⟨(cntL cc.size).toArray⟩).size = 16 * (blocks aa.data.toList + blocks cc.data.toList + 1) := by rw [ByteArray.size_append, ByteArray.size_append, ByteArray.size_append, bsz, bsz, bsz (cntL aa.size), bsz (cntL cc.size), whole_len, whole_len, cnt_len, cnt_len]; omega
 refine Ret.enter Tryd.func41 rfl ?_
 simp only [Tryd.ntmps41, fe, Nat.reduceAdd, Nat.reduceSub]
 have hH := Hp.start [] w
 refine wp_seq_k ?_
 intro K1 hK1
 refine wrt [.p 0] ?_
 refine pa ?_;simp only [nf]
 refine plan_nil hH ?_
 clear hH
 intro w2 hH
 refine hK1 _ _ ?_
 (try clear hK1 K1)
 refine wp_seq_k ?_
 intro K3 hK3
 refine wrt [.p 0, .x 1, .q 2, .q 3, .p 4] ?_
 refine pm ?_;simp only [nf]
 refine plan_make (n := 16) (c := 16) rfl rfl hH rfl rfl Tryd.underlying22 sz5 bz5 ze5 rfl (by first | omega | (first | (rw [hn]; show 12 + 4 < _; omega) | (simp only [ByteArray.size_append, bsz, whole_len, cnt_len] at *; omega))) (by first | omega | (first | (rw [hn]; show 12 + 4 < _; omega) | (simp only [ByteArray.size_append, bsz, whole_len, cnt_len] at *; omega))) (by first | omega | (first | (rw [hn]; show 12 + 4 < _; omega) | (simp only [ByteArray.size_append, bsz, whole_len, cnt_len] at *; omega))) ?_
 clear hH
 intro b4 w5 hH
 (try simp only [nf] at hH ⊢)
 rw [made_arr8] at hH
 (try simp only [nf, nh, Value.cells, arrB_set] at hH ⊢)
 refine pq rfl rfl (qr_b2s (OwnC.sl hH 0 rfl OwnC.made) rfl Tryd.underlying22 Tryd.underlying5 Tryd.underlying9) ?_;simp only [nf]
 refine pq rfl rfl (qr_call cf48 (fun w' hw => refblock_calls _ key _ (fun _ => 0) (fun i _ => zeros_getD 16 i) (by rw [bsz]; simp) w' (hw.nil_blk (hH.chg.nil_blk hk))) rfl) ?_;simp only [nf]
 refine pa ?_;simp only [nf]
 refine plan_nil hH ?_
 clear hH
 intro w6 hH
 refine hK3 _ _ ?_
 (try clear hK3 K3)
 refine wp_seq_k ?_
 intro K7 hK7
 refine wrt [.p 0, .p 1, .q 2, .p 3, .q 4, .p 5, .p 6, .q 7, .p 8, .p 9, .q 10, .p 11, .q 12, .p 13, .p 14, .p 15, .q 16, .q 17, .p 18] ?_
 refine pm (pm ?_);simp only [nf]
 refine pq rfl rfl (qr_call cf58 (fun w' hw => whole_calls _ (by omega) w') rfl) ?_;simp only [nf]
 refine pm ?_;simp only [nf]
 refine pq rfl rfl (qr_call cf58 (fun w' hw => whole_calls _ (by omega) w') rfl) ?_;simp only [nf]
 refine pp rfl rfl (pr_bin rfl rfl (bin_add_s (by first | omega | (first | (rw [hn]; show 12 + 4 < _; omega) | (simp only [ByteArray.size_append, bsz, whole_len, cnt_len] at *; omega))))) ?_;simp only [nf]
 refine pm ?_;simp only [nf]
 refine pq rfl rfl (qr_call cf59 (fun w' hw => count4_calls _ (by omega) w') rfl) ?_;simp only [nf]
 refine pp rfl rfl (pr_bin rfl rfl (bin_add_s (by first | omega | (first | (rw [hn]; show 12 + 4 < _; omega) | (simp only [ByteArray.size_append, bsz, whole_len, cnt_len] at *; omega))))) ?_;simp only [nf]
 refine pm ?_;simp only [nf]
 refine pq rfl rfl (qr_call cf59 (fun w' hw => count4_calls _ (by omega) w') rfl) ?_;simp only [nf]
 refine pp rfl rfl (pr_bin rfl rfl (bin_add_s (by first | omega | (first | (rw [hn]; show 12 + 4 < _; omega) | (simp only [ByteArray.size_append, bsz, whole_len, cnt_len] at *; omega))))) ?_;simp only [nf]
 refine pq rfl rfl (qr_call cf57 (fun w' hw => sum_calls _ _ (hP (kexp key)) (blocks aa.data.toList + blocks cc.data.toList + 1) _ (strP_of _) hsz (by rw [str_app, str_app, str_app]) (by omega) w') rfl) ?_;simp only [nf]
 refine pm (pm ?_);simp only [nf]
 refine pp rfl rfl (pr_bin rfl rfl (bin_add_s (by first | omega | (first | (rw [hn]; show 12 + 4 < _; omega) | (simp only [ByteArray.size_append, bsz, whole_len, cnt_len] at *; omega))))) ?_;simp only [nf]
 refine pq rfl rfl (qr_call cf48 (fun w' hw => refblock_calls _ key _ (gctr nn.data.toList 1) (fun i _ => gctr_at nn 1 i) (app4_size _ _ hn) w' (hw.nil_blk (hH.chg.nil_blk hk))) rfl) ?_;simp only [nf]
 refine pq rfl rfl (qr_call cf56 (fun w' hw => xor_calls _ _ 16 (strP_size _) (by rw [bsz]; simp) (by omega) w') rfl) ?_;simp only [nf]
 refine pa ?_;simp only [nf]
 refine plan_nil hH ?_
 clear hH
 intro w8 hH
 refine hK7 _ _ ?_
 (try clear hK7 K7)
 refine wp_ret ?_
 (try simp only [Exit.then, Exit.inBlock, ↓reduceIte, Nat.reduceEqDiff])
 refine BP.ret1 rfl rfl ?_
 refine ⟨congrArg Value.string (congrArg (fun l : List UInt8 => (⟨l.toArray⟩ : ByteArray)) ?_), hH.chg⟩
 have e := sum_is (hP (kexp key)) aa.data.toList cc.data.toList (by rw [str_len]; omega) (by rw [str_len]; omega)
 rw [str_len, str_len] at e
 rw [e]
 exact seal_is _ (fun i => aesR (kexp key) (gctr nn.data.toList 1) 10 i) _ _ _ _ ⟨((List.range 16).map fun i => aesR (kexp key) (gctr nn.data.toList 1) 10 i).toArray⟩ (fun i hi => cut16 (fun i => aesR (kexp key) (gctr nn.data.toList 1) 10 i) hi) (fun i hi => ks_head _ _ i hi)

theorem refSeal_calls (key nn aa b : ByteArray) (w : World) (hk : key.data.toList.length = 16) (hn : nn.size = 12) (haa : aa.size ≤ 100000000) (hb : b.size ≤ 100000000) : Ret Tryd.prog 21 #[.string key, .string nn, .string aa, .string b] w fun v w' => v = .tuple #[.string ⟨(sealedL (kexp (fun i => key.data.toList.getD i 0)) (hP (kexp (fun i => key.data.toList.getD i 0))) nn.data.toList aa.data.toList b.data.toList).toArray⟩, I64 (0 : Nat)] ∧ Chg [] w w' := by
 refine Ret.enter Tryd.func21 rfl ?_
 simp only [Tryd.ntmps21, fe, Nat.reduceAdd, Nat.reduceSub]
 have hH := Hp.start [] w
 refine wp_seq_k ?_
 intro K1 hK1
 refine wrt [.p 0, .p 1] ?_
 refine pa (pka 0 ?_);simp only [nf]
 refine plan_nil hH ?_
 clear hH
 intro w2 hH
 refine hK1 _ _ ?_
 (try clear hK1 K1)
 refine wp_seq_k ?_
 intro K3 hK3
 refine wp_seq_k ?_
 intro K4 hK4
 refine wrt [.p 0, .p 1, .p 2] ?_
 refine pm ?_;simp only [nf]
 refine pp rfl rfl (pr_len_str rfl Tryd.underlying9) ?_;simp only [nf]
 refine pp rfl rfl (pr_bin rfl rfl (by first | exact bin_neq_n (n := 12)  | exact bin_neq_i)) ?_;simp only [nf]
 refine plan_nil hH ?_
 clear hH
 intro w5 hH
 refine hK4 _ _ ?_
 (try clear hK4 K4)
 refine wp_cond_false (by show BV _ = _; rw [hn]; rfl) ?_
 refine wp_skip ?_
 refine hK3 _ _ ?_
 (try clear hK3 K3)
 refine wp_seq_k ?_
 intro K6 hK6
 refine wrt [.p 0, .x 1, .p 2] ?_
 refine pm ?_;simp only [nf]
 refine plan_callx rfl rfl hH cf39 (fun w' hH => ready_calls _ (fun i => key.data.toList.getD i 0) rfl w' hk) rfl (fun _ _ _ h => h.choose_spec.2.1) ?_
 clear hH
 intro w7 v8 w9 hH hp10
 obtain ⟨b11, rfl, hg, hfr, hbk⟩ := hp10
 replace hH := hH.callnew hg hbk hfr
 clear hg hfr hbk
 (try simp only [nf, nh, Value.cells, arrB_set] at hH ⊢)
 (try simp only [nf])
 refine pa ?_;simp only [nf]
 refine plan_nil hH ?_
 clear hH
 intro w12 hH
 refine hK6 _ _ ?_
 (try clear hK6 K6)
 refine wp_seq_k ?_
 intro K13 hK13
 refine wrt [.p 0, .p 1, .p 2, .p 3, .q 4, .p 5] ?_
 refine pm (pm ?_);simp only [nf]
 refine pp rfl rfl (pr_bin rfl rfl (bin_add_s (by first | omega | (first | (rw [hn]; show 12 + 4 < _; omega) | (rw [bsz (strm _ _ _ _ _), bsz (sealL _ _ _ _ _), strm_len, sealL_len]; omega))))) ?_;simp only [nf]
 refine pm ?_;simp only [nf]
 refine pq rfl rfl (qr_call cf40 (fun w' hw => refstream_calls _ (fun i => key.data.toList.getD i 0) (gctr nn.data.toList 2) _ 0 _ w' (hw.nil_blk (hH.blk 0 rfl)) (app4_size _ _ hn) (fun i _ => gctr_at nn 2 i) (by omega) (by omega)) rfl) ?_;simp only [nf]
 refine pa ?_;simp only [nf]
 refine plan_nil hH ?_
 clear hH
 intro w14 hH
 refine hK13 _ _ ?_
 (try clear hK13 K13)
 refine wp_seq_k ?_
 intro K15 hK15
 refine wrt [.p 0, .p 1, .p 2, .p 3, .p 4, .q 5, .p 6, .p 7, .p 8] ?_
 refine pm (pm (pm (pm (pm ?_))));simp only [nf]
 refine pq rfl rfl (qr_call cf41 (fun w' hw => refseal_calls _ (fun i => key.data.toList.getD i 0) _ _ _ w' (hw.nil_blk (hH.blk 0 rfl)) hn haa (by rw [bsz, strm_len]; omega)) rfl) ?_;simp only [nf]
 refine pp rfl rfl (pr_bin rfl rfl (bin_add_s (by first | omega | (first | (rw [hn]; show 12 + 4 < _; omega) | (rw [bsz (strm _ _ _ _ _), bsz (sealL _ _ _ _ _), strm_len, sealL_len]; omega))))) ?_;simp only [nf]
 refine pa (pka 0 ?_);simp only [nf]
 refine plan_nil hH ?_
 clear hH
 intro w16 hH
 refine hK15 _ _ ?_
 (try clear hK15 K15)
 refine wp_ret ?_
 (try simp only [Exit.then, Exit.inBlock, ↓reduceIte, Nat.reduceEqDiff])
 refine BP.ret2 rfl rfl rfl ?_
 exact ⟨by unfold sealedL hidL; rw [str_len]; exact congrArg (fun x : ByteArray => Value.tuple #[.string x, I64 (0 : Nat)]) (str_of (str_app _ _)), hH.chg⟩

theorem refSeal_nonce (key nn aa b : Value) (s : ByteArray) (w : World) (hn : s.size ≠ 12) : Ret Tryd.prog 21 #[key, .string s, aa, b] w fun v w' => v = .tuple #[.string ⟨#[]⟩, I64 (1 : Nat)] ∧ Chg [] w w' := by
 refine Ret.enter Tryd.func21 rfl ?_
 simp only [Tryd.ntmps21, fe, Nat.reduceAdd, Nat.reduceSub]
 have hH := Hp.start [] w
 refine wp_seq_k ?_
 intro K1 hK1
 refine wrt [.p 0, .p 1] ?_
 refine pa (pka 0 ?_);simp only [nf]
 refine plan_nil hH ?_
 clear hH
 intro w2 hH
 refine hK1 _ _ ?_
 (try clear hK1 K1)
 refine wp_seq_k ?_
 intro K3 hK3
 refine wp_seq_k ?_
 intro K4 hK4
 refine wrt [.p 0, .p 1, .p 2] ?_
 refine pm ?_;simp only [nf]
 refine pp rfl rfl (pr_len_str rfl Tryd.underlying9) ?_;simp only [nf]
 refine pp rfl rfl (pr_bin rfl rfl (by first | exact bin_neq_n (n := 12)  | exact bin_neq_i)) ?_;simp only [nf]
 refine plan_nil hH ?_
 clear hH
 intro w5 hH
 refine hK4 _ _ ?_
 (try clear hK4 K4)
 refine wp_cond_true (by show BV _ = _; rw [bne_iff_ne.mpr hn]) ?_
 refine wp_seq_k ?_
 intro K6 hK6
 refine wrt [.p 0, .p 1] ?_
 refine pa (pka 1 ?_);simp only [nf]
 refine plan_nil hH ?_
 clear hH
 intro w7 hH
 refine hK6 _ _ ?_
 (try clear hK6 K6)
 refine wp_ret ?_
 (try simp only [Exit.then, Exit.inBlock, ↓reduceIte, Nat.reduceEqDiff])
 refine BP.ret2 rfl rfl rfl ?_
 exact ⟨rfl, hH.chg⟩

theorem refOpen_nonce (key aa : Value) (s b : ByteArray) (w : World) (hn : s.size ≠ 12) : Ret Tryd.prog 34 #[key, .string s, aa, .string b] w fun v w' => v = .tuple #[.string ⟨#[]⟩, I64 (1 : Nat)] ∧ Chg [] w w' := by
 refine Ret.enter Tryd.func34 rfl ?_
 simp only [Tryd.ntmps34, fe, Nat.reduceAdd, Nat.reduceSub]
 have hH := Hp.start [] w
 refine wp_seq_k ?_
 intro K1 hK1
 refine wrt [.p 0, .p 1] ?_
 refine pa (pka 0 ?_);simp only [nf]
 refine plan_nil hH ?_
 clear hH
 intro w2 hH
 refine hK1 _ _ ?_
 (try clear hK1 K1)
 refine wp_seq_k ?_
 intro K3 hK3
 refine wp_seq_k ?_
 intro K4 hK4
 refine wrt [.p 0, .p 1, .p 2] ?_
 refine pm ?_;simp only [nf]
 refine pp rfl rfl (pr_len_str rfl Tryd.underlying9) ?_;simp only [nf]
 refine pp rfl rfl (pr_bin rfl rfl (by first | exact bin_neq_n (n := 12)  | exact bin_neq_i)) ?_;simp only [nf]
 refine plan_nil hH ?_
 clear hH
 intro w5 hH
 refine hK4 _ _ ?_
 (try clear hK4 K4)
 refine wp_cond_true (by show BV _ = _; rw [bne_iff_ne.mpr hn]) ?_
 refine wp_seq_k ?_
 intro K6 hK6
 refine wrt [.p 0, .p 1] ?_
 refine pa (pka 1 ?_);simp only [nf]
 refine plan_nil hH ?_
 clear hH
 intro w7 hH
 refine hK6 _ _ ?_
 (try clear hK6 K6)
 refine wp_ret ?_
 (try simp only [Exit.then, Exit.inBlock, ↓reduceIte, Nat.reduceEqDiff])
 refine BP.ret2 rfl rfl rfl ?_
 exact ⟨rfl, hH.chg⟩

theorem refOpen_short (key aa : Value) (s b : ByteArray) (w : World) (hn : s.size = 12) (hb : b.size < 16) : Ret Tryd.prog 34 #[key, .string s, aa, .string b] w fun v w' => v = .tuple #[.string ⟨#[]⟩, I64 (3 : Nat)] ∧ Chg [] w w' := by
 refine Ret.enter Tryd.func34 rfl ?_
 simp only [Tryd.ntmps34, fe, Nat.reduceAdd, Nat.reduceSub]
 have hH := Hp.start [] w
 refine wp_seq_k ?_
 intro K1 hK1
 refine wrt [.p 0, .p 1] ?_
 refine pa (pka 0 ?_);simp only [nf]
 refine plan_nil hH ?_
 clear hH
 intro w2 hH
 refine hK1 _ _ ?_
 (try clear hK1 K1)
 refine wp_seq_k ?_
 intro K3 hK3
 refine wp_seq_k ?_
 intro K4 hK4
 refine wrt [.p 0, .p 1, .p 2] ?_
 refine pm ?_;simp only [nf]
 refine pp rfl rfl (pr_len_str rfl Tryd.underlying9) ?_;simp only [nf]
 refine pp rfl rfl (pr_bin rfl rfl (by first | exact bin_neq_n (n := 12)  | exact bin_neq_i)) ?_;simp only [nf]
 refine plan_nil hH ?_
 clear hH
 intro w5 hH
 refine hK4 _ _ ?_
 (try clear hK4 K4)
 refine wp_cond_false (by show BV _ = _; rw [hn]; rfl) ?_
 refine wp_skip ?_
 refine hK3 _ _ ?_
 (try clear hK3 K3)
 refine wp_seq_k ?_
 intro K6 hK6
 refine wp_seq_k ?_
 intro K7 hK7
 refine wrt [.p 0, .p 1, .p 2] ?_
 refine pm ?_;simp only [nf]
 refine pp rfl rfl (pr_len_str rfl Tryd.underlying9) ?_;simp only [nf]
 refine pp rfl rfl (pr_bin rfl rfl (by first | exact bin_lss_n (n := 16)  | exact bin_lss_i)) ?_;simp only [nf]
 refine plan_nil hH ?_
 clear hH
 intro w8 hH
 refine hK7 _ _ ?_
 (try clear hK7 K7)
 refine wp_cond_true (by show BV _ = _; exact congrArg BV (decide_eq_true hb)) ?_
 refine wp_seq_k ?_
 intro K9 hK9
 refine wrt [.p 0, .p 1] ?_
 refine pa (pka 3 ?_);simp only [nf]
 refine plan_nil hH ?_
 clear hH
 intro w10 hH
 refine hK9 _ _ ?_
 (try clear hK9 K9)
 refine wp_ret ?_
 (try simp only [Exit.then, Exit.inBlock, ↓reduceIte, Nat.reduceEqDiff])
 refine BP.ret2 rfl rfl rfl ?_
 exact ⟨rfl, hH.chg⟩

theorem cut_take (b : ByteArray) (n : Nat) : (b.extract 0 n).data.toList = b.data.toList.take n := by
  rw [ByteArray.data_extract, Array.toList_extract, List.extract_eq_take_drop]; simp
theorem cut_drop (b : ByteArray) (n : Nat) : (b.extract n b.size).data.toList = b.data.toList.drop n := by
  rw [ByteArray.data_extract, Array.toList_extract, List.extract_eq_take_drop, List.take_of_length_le]
  rw [List.length_drop, str_len]; exact Nat.le_refl _
theorem cut_take_size (b : ByteArray) (n : Nat) (h : n ≤ b.size) : (b.extract 0 n).size = n := by rw [ByteArray.size_extract]; omega

theorem refOpen_wrong (key nn aa b : ByteArray) (w : World) (hk : key.data.toList.length = 16) (hn : nn.size = 12) (haa : aa.size ≤ 100000000) (hb : b.size ≤ 100000000) (h16 : 16 ≤ b.size) (hne : sealL (kexp (fun i => key.data.toList.getD i 0)) (hP (kexp (fun i => key.data.toList.getD i 0))) nn.data.toList aa.data.toList (b.data.toList.take (b.data.toList.length - 16)) ≠ b.data.toList.drop (b.data.toList.length - 16)) : Ret Tryd.prog 34 #[.string key, .string nn, .string aa, .string b] w fun v w' => v = .tuple #[.string ⟨#[]⟩, I64 (4 : Nat)] ∧ Chg [] w w' := by
 refine Ret.enter Tryd.func34 rfl ?_
 simp only [Tryd.ntmps34, fe, Nat.reduceAdd, Nat.reduceSub]
 have hH := Hp.start [] w
 refine wp_seq_k ?_
 intro K1 hK1
 refine wrt [.p 0, .p 1] ?_
 refine pa (pka 0 ?_);simp only [nf]
 refine plan_nil hH ?_
 clear hH
 intro w2 hH
 refine hK1 _ _ ?_
 (try clear hK1 K1)
 refine wp_seq_k ?_
 intro K3 hK3
 refine wp_seq_k ?_
 intro K4 hK4
 refine wrt [.p 0, .p 1, .p 2] ?_
 refine pm ?_;simp only [nf]
 refine pp rfl rfl (pr_len_str rfl Tryd.underlying9) ?_;simp only [nf]
 refine pp rfl rfl (pr_bin rfl rfl (by first | exact bin_neq_n (n := 12)  | exact bin_neq_i)) ?_;simp only [nf]
 refine plan_nil hH ?_
 clear hH
 intro w5 hH
 refine hK4 _ _ ?_
 (try clear hK4 K4)
 refine wp_cond_false (by show BV _ = _; rw [hn]; rfl) ?_
 refine wp_skip ?_
 refine hK3 _ _ ?_
 (try clear hK3 K3)
 refine wp_seq_k ?_
 intro K6 hK6
 refine wp_seq_k ?_
 intro K7 hK7
 refine wrt [.p 0, .p 1, .p 2] ?_
 refine pm ?_;simp only [nf]
 refine pp rfl rfl (pr_len_str rfl Tryd.underlying9) ?_;simp only [nf]
 refine pp rfl rfl (pr_bin rfl rfl (by first | exact bin_lss_n (n := 16)  | exact bin_lss_i)) ?_;simp only [nf]
 refine plan_nil hH ?_
 clear hH
 intro w8 hH
 refine hK7 _ _ ?_
 (try clear hK7 K7)
 refine wp_cond_false (by show BV _ = _; exact congrArg BV (decide_eq_false (by omega))) ?_
 refine wp_skip ?_
 refine hK6 _ _ ?_
 (try clear hK6 K6)
 refine wp_seq_k ?_
 intro K9 hK9
 refine wrt [.p 0, .x 1, .p 2] ?_
 refine pm ?_;simp only [nf]
 refine plan_callx rfl rfl hH cf39 (fun w' hH => ready_calls _ (fun i => key.data.toList.getD i 0) rfl w' hk) rfl (fun _ _ _ h => h.choose_spec.2.1) ?_
 clear hH
 intro w10 v11 w12 hH hp13
 obtain ⟨b14, rfl, hg, hfr, hbk⟩ := hp13
 replace hH := hH.callnew hg hbk hfr
 clear hg hfr hbk
 (try simp only [nf, nh, Value.cells, arrB_set] at hH ⊢)
 (try simp only [nf])
 refine pa ?_;simp only [nf]
 refine plan_nil hH ?_
 clear hH
 intro w15 hH
 refine hK9 _ _ ?_
 (try clear hK9 K9)
 refine wp_seq_k ?_
 intro K16 hK16
 refine wrt [.p 0, .p 1, .p 2, .p 3, .p 4, .p 5] ?_
 refine pm (pm ?_);simp only [nf]
 refine pp rfl rfl (pr_len_str rfl Tryd.underlying9) ?_;simp only [nf]
 refine pp rfl rfl (pr_bin rfl rfl (by first | exact bin_sub_n (n := 16) (by first | omega | (first | (rw [hn]; show 12 + 4 < _; omega) | omega)) (by first | omega | (first | (rw [hn]; show 12 + 4 < _; omega) | omega)) | exact bin_sub_i (by first | omega | (first | (rw [hn]; show 12 + 4 < _; omega) | omega)) (by first | omega | (first | (rw [hn]; show 12 + 4 < _; omega) | omega)))) ?_;simp only [nf]
 refine pp rfl rfl (pr_slice_str_h rfl rfl Tryd.underlying9 (by first | omega | (first | (rw [hn]; show 12 + 4 < _; omega) | omega))) ?_;simp only [nf]
 refine pa ?_;simp only [nf]
 refine plan_nil hH ?_
 clear hH
 intro w17 hH
 refine hK16 _ _ ?_
 (try clear hK16 K16)
 refine wp_seq_k ?_
 intro K18 hK18
 refine wp_seq_k ?_
 intro K19 hK19
 refine wrp [.p 0, .p 1, .p 2, .p 3, .p 5, .p 6, .p 7, .p 8, .p 9, .q 4, .p 10] ?_
 refine pm (pm (pm (pm (pm (pm ?_)))));simp only [nf]
 refine pp rfl rfl (pr_len_str rfl Tryd.underlying9) ?_;simp only [nf]
 refine pp rfl rfl (pr_bin rfl rfl (by first | exact bin_sub_n (n := 16) (by first | omega | (first | (rw [hn]; show 12 + 4 < _; omega) | omega)) (by first | omega | (first | (rw [hn]; show 12 + 4 < _; omega) | omega)) | exact bin_sub_i (by first | omega | (first | (rw [hn]; show 12 + 4 < _; omega) | omega)) (by first | omega | (first | (rw [hn]; show 12 + 4 < _; omega) | omega)))) ?_;simp only [nf]
 refine pp rfl rfl (pr_slice_str_l rfl rfl Tryd.underlying9 (by first | omega | (first | (rw [hn]; show 12 + 4 < _; omega) | omega))) ?_;simp only [nf]
 refine pq rfl rfl (qr_call cf41 (fun w' hw => refseal_calls _ (fun i => key.data.toList.getD i 0) _ _ _ w' (hw.nil_blk (hH.blk 0 rfl)) hn haa (by rw [cut_take_size _ _ (by omega)]; omega)) rfl) ?_;simp only [nf]
 refine pp rfl rfl (pr_bin rfl rfl bin_neq_s) ?_;simp only [nf]
 refine plan_nil hH ?_
 clear hH
 intro w20 hH
 refine hK19 _ _ ?_
 (try clear hK19 K19)
 refine wp_cond_true (by
      refine congrArg BV (?_ : (!(_ == (b.extract (b.size - 16) b.size).data.toList)) = true)
      rw [Bool.not_eq_true', beq_eq_false_iff_ne, cut_drop, cut_take]; exact hne) ?_
 refine wp_seq_k ?_
 intro K21 hK21
 refine wrt [.p 0, .p 1] ?_
 refine pa (pka 4 ?_);simp only [nf]
 refine plan_nil hH ?_
 clear hH
 intro w22 hH
 refine hK21 _ _ ?_
 (try clear hK21 K21)
 refine wp_ret ?_
 (try simp only [Exit.then, Exit.inBlock, ↓reduceIte, Nat.reduceEqDiff])
 refine BP.ret2 rfl rfl rfl ?_
 exact ⟨rfl, hH.chg⟩

theorem refOpen_calls (key nn aa b : ByteArray) (w : World) (hk : key.data.toList.length = 16) (hn : nn.size = 12) (haa : aa.size ≤ 100000000) (hb : b.size ≤ 100000000) (h16 : 16 ≤ b.size) (hne : sealL (kexp (fun i => key.data.toList.getD i 0)) (hP (kexp (fun i => key.data.toList.getD i 0))) nn.data.toList aa.data.toList (b.data.toList.take (b.data.toList.length - 16)) = b.data.toList.drop (b.data.toList.length - 16)) : Ret Tryd.prog 34 #[.string key, .string nn, .string aa, .string b] w fun v w' => v = .tuple #[.string ⟨(hidL (kexp (fun i => key.data.toList.getD i 0)) nn.data.toList (b.data.toList.take (b.data.toList.length - 16))).toArray⟩, I64 (0 : Nat)] ∧ Chg [] w w' := by
 refine Ret.enter Tryd.func34 rfl ?_
 simp only [Tryd.ntmps34, fe, Nat.reduceAdd, Nat.reduceSub]
 have hH := Hp.start [] w
 refine wp_seq_k ?_
 intro K1 hK1
 refine wrt [.p 0, .p 1] ?_
 refine pa (pka 0 ?_);simp only [nf]
 refine plan_nil hH ?_
 clear hH
 intro w2 hH
 refine hK1 _ _ ?_
 (try clear hK1 K1)
 refine wp_seq_k ?_
 intro K3 hK3
 refine wp_seq_k ?_
 intro K4 hK4
 refine wrt [.p 0, .p 1, .p 2] ?_
 refine pm ?_;simp only [nf]
 refine pp rfl rfl (pr_len_str rfl Tryd.underlying9) ?_;simp only [nf]
 refine pp rfl rfl (pr_bin rfl rfl (by first | exact bin_neq_n (n := 12)  | exact bin_neq_i)) ?_;simp only [nf]
 refine plan_nil hH ?_
 clear hH
 intro w5 hH
 refine hK4 _ _ ?_
 (try clear hK4 K4)
 refine wp_cond_false (by show BV _ = _; rw [hn]; rfl) ?_
 refine wp_skip ?_
 refine hK3 _ _ ?_
 (try clear hK3 K3)
 refine wp_seq_k ?_
 intro K6 hK6
 refine wp_seq_k ?_
 intro K7 hK7
 refine wrt [.p 0, .p 1, .p 2] ?_
 refine pm ?_;simp only [nf]
 refine pp rfl rfl (pr_len_str rfl Tryd.underlying9) ?_;simp only [nf]
 refine pp rfl rfl (pr_bin rfl rfl (by first | exact bin_lss_n (n := 16)  | exact bin_lss_i)) ?_;simp only [nf]
 refine plan_nil hH ?_
 clear hH
 intro w8 hH
 refine hK7 _ _ ?_
 (try clear hK7 K7)
 refine wp_cond_false (by show BV _ = _; exact congrArg BV (decide_eq_false (by omega))) ?_
 refine wp_skip ?_
 refine hK6 _ _ ?_
 (try clear hK6 K6)
 refine wp_seq_k ?_
 intro K9 hK9
 refine wrt [.p 0, .x 1, .p 2] ?_
 refine pm ?_;simp only [nf]
 refine plan_callx rfl rfl hH cf39 (fun w' hH => ready_calls _ (fun i => key.data.toList.getD i 0) rfl w' hk) rfl (fun _ _ _ h => h.choose_spec.2.1) ?_
 clear hH
 intro w10 v11 w12 hH hp13
 obtain ⟨b14, rfl, hg, hfr, hbk⟩ := hp13
 replace hH := hH.callnew hg hbk hfr
 clear hg hfr hbk
 (try simp only [nf, nh, Value.cells, arrB_set] at hH ⊢)
 (try simp only [nf])
 refine pa ?_;simp only [nf]
 refine plan_nil hH ?_
 clear hH
 intro w15 hH
 refine hK9 _ _ ?_
 (try clear hK9 K9)
 refine wp_seq_k ?_
 intro K16 hK16
 refine wrt [.p 0, .p 1, .p 2, .p 3, .p 4, .p 5] ?_
 refine pm (pm ?_);simp only [nf]
 refine pp rfl rfl (pr_len_str rfl Tryd.underlying9) ?_;simp only [nf]
 refine pp rfl rfl (pr_bin rfl rfl (by first | exact bin_sub_n (n := 16) (by first | omega | (first | (rw [hn]; show 12 + 4 < _; omega) | omega)) (by first | omega | (first | (rw [hn]; show 12 + 4 < _; omega) | omega)) | exact bin_sub_i (by first | omega | (first | (rw [hn]; show 12 + 4 < _; omega) | omega)) (by first | omega | (first | (rw [hn]; show 12 + 4 < _; omega) | omega)))) ?_;simp only [nf]
 refine pp rfl rfl (pr_slice_str_h rfl rfl Tryd.underlying9 (by first | omega | (first | (rw [hn]; show 12 + 4 < _; omega) | omega))) ?_;simp only [nf]
 refine pa ?_;simp only [nf]
 refine plan_nil hH ?_
 clear hH
 intro w17 hH
 refine hK16 _ _ ?_
 (try clear hK16 K16)
 refine wp_seq_k ?_
 intro K18 hK18
 refine wp_seq_k ?_
 intro K19 hK19
 refine wrp [.p 0, .p 1, .p 2, .p 3, .p 5, .p 6, .p 7, .p 8, .p 9, .q 4, .p 10] ?_
 refine pm (pm (pm (pm (pm (pm ?_)))));simp only [nf]
 refine pp rfl rfl (pr_len_str rfl Tryd.underlying9) ?_;simp only [nf]
 refine pp rfl rfl (pr_bin rfl rfl (by first | exact bin_sub_n (n := 16) (by first | omega | (first | (rw [hn]; show 12 + 4 < _; omega) | omega)) (by first | omega | (first | (rw [hn]; show 12 + 4 < _; omega) | omega)) | exact bin_sub_i (by first | omega | (first | (rw [hn]; show 12 + 4 < _; omega) | omega)) (by first | omega | (first | (rw [hn]; show 12 + 4 < _; omega) | omega)))) ?_;simp only [nf]
 refine pp rfl rfl (pr_slice_str_l rfl rfl Tryd.underlying9 (by first | omega | (first | (rw [hn]; show 12 + 4 < _; omega) | omega))) ?_;simp only [nf]
 refine pq rfl rfl (qr_call cf41 (fun w' hw => refseal_calls _ (fun i => key.data.toList.getD i 0) _ _ _ w' (hw.nil_blk (hH.blk 0 rfl)) hn haa (by rw [cut_take_size _ _ (by omega)]; omega)) rfl) ?_;simp only [nf]
 refine pp rfl rfl (pr_bin rfl rfl bin_neq_s) ?_;simp only [nf]
 refine plan_nil hH ?_
 clear hH
 intro w20 hH
 refine hK19 _ _ ?_
 (try clear hK19 K19)
 refine wp_cond_false (by
      refine congrArg BV (?_ : (!(_ == (b.extract (b.size - 16) b.size).data.toList)) = false)
      rw [Bool.not_eq_false', beq_iff_eq, cut_drop, cut_take]; exact hne) ?_
 refine wp_skip ?_
 refine hK18 _ _ ?_
 (try clear hK18 K18)
 refine wp_seq_k ?_
 intro K21 hK21
 refine wrt [.p 0, .p 1, .p 2, .p 3, .q 4, .p 5, .p 6] ?_
 refine pm (pm ?_);simp only [nf]
 refine pp rfl rfl (pr_bin rfl rfl (bin_add_s (by first | omega | (first | (rw [hn]; show 12 + 4 < _; omega) | omega)))) ?_;simp only [nf]
 refine pm ?_;simp only [nf]
 refine pq rfl rfl (qr_call cf40 (fun w' hw => refstream_calls _ (fun i => key.data.toList.getD i 0) (gctr nn.data.toList 2) _ 0 _ w' (hw.nil_blk (hH.blk 0 rfl)) (app4_size _ _ hn) (fun i _ => gctr_at nn 2 i) (by rw [cut_take_size _ _ (by omega)]; omega) (by rw [cut_take_size _ _ (by omega)]; omega)) rfl) ?_;simp only [nf]
 refine pa (pka 0 ?_);simp only [nf]
 refine plan_nil hH ?_
 clear hH
 intro w22 hH
 refine hK21 _ _ ?_
 (try clear hK21 K21)
 refine wp_ret ?_
 (try simp only [Exit.then, Exit.inBlock, ↓reduceIte, Nat.reduceEqDiff])
 refine BP.ret2 rfl rfl rfl ?_
 refine ⟨congrArg (fun x : ByteArray => Value.tuple #[.string x, I64 (0 : Nat)]) (congrArg (fun l : List UInt8 => (⟨l.toArray⟩ : ByteArray)) (?_ : strm _ _ 0 (b.extract 0 (b.size - 16)).data.toList (b.extract 0 (b.size - 16)).size = _)), hH.chg⟩
 rw [← str_len (b.extract 0 (b.size - 16)), cut_take]; rfl

end Go.Proofs.YtmoaddicejohgaaDoor
