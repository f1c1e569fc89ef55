/- Walks of guard.Open and of the document's DocOpen, with all that they refuse. No further conditions. -/
import Derived.Test.YtmoaddicejohgaaDoorGuard5
set_option linter.unusedSimpArgs false
set_option linter.unusedVariables false
set_option maxRecDepth 100000
set_option maxHeartbeats 4000000
namespace Go.Proofs.YtmoaddicejohgaaDoor
open Go
open List (getD_cons_zero getD_cons_succ set_cons_zero set_cons_succ)

/-- What stands at a place: how many bytes the number has; the bytes laid bare; the number; the head; what is behind. -/
def opSz (c : ByteArray) (l : List UInt8) (p : Nat) : Nat := ((l.getD 0 0 ^^^ (maskL c.data.toList l p).getD 0 0) &&& 3).toNat + 1
def opBare (c : ByteArray) (l : List UInt8) (p : Nat) : List UInt8 := hideL l (maskL c.data.toList l p) p (opSz c l p)
def opNum (c : ByteArray) (l : List UInt8) (p e : Nat) : Nat := wholeN (lowN ((opBare c l p).drop p) (opSz c l p)) (opSz c l p) e
def opHead (c : ByteArray) (l : List UInt8) (p : Nat) : List UInt8 := (opBare c l p).take (p + opSz c l p)
def opRest (c : ByteArray) (l : List UInt8) (p : Nat) : List UInt8 := (opBare c l p).drop (p + opSz c l p)
def opBody (c : ByteArray) (l : List UInt8) (p : Nat) : List UInt8 := (opRest c l p).take ((opRest c l p).length - 16)
def opOk (a b c : ByteArray) (l : List UInt8) (p e : Nat) : Prop :=
  sealL (keyF16 a) (hP (keyF16 a)) (nonL b.data.toList (opNum c l p e) 8) (opHead c l p) (opBody c l p) = (opRest c l p).drop ((opRest c l p).length - 16)
instance (a b c : ByteArray) (l : List UInt8) (p e : Nat) : Decidable (opOk a b c l p e) := inferInstanceAs (Decidable (_ = _))
def opOut (a b c : ByteArray) (l : List UInt8) (p e : Nat) : List UInt8 := hidL (keyF16 a) (nonL b.data.toList (opNum c l p e) 8) (opBody c l p)
def openE (a b c : ByteArray) (l : List UInt8) (p e : Int) : Nat :=
  if 1 ≤ p ∧ 0 ≤ e ∧ e ≤ 4611686018427387903 ∧ rightB a b c = true then
    if p + 20 ≤ l.length then (if opOk a b c l p.toNat e.toNat then 0 else 4) else 3
  else 1
theorem opSz_lo (c : ByteArray) (l : List UInt8) (p : Nat) : 1 ≤ opSz c l p ∧ opSz c l p ≤ 4 := by
  unfold opSz; rw [u8_and3]; omega
theorem opBare_len (c : ByteArray) (l : List UInt8) (p : Nat) : (opBare c l p).length = l.length := hideL_len ..
theorem opRest_len (c : ByteArray) (l : List UInt8) (p : Nat) : (opRest c l p).length = l.length - (p + opSz c l p) := by
  unfold opRest; rw [List.length_drop, opBare_len]
theorem lowN_take (l : List UInt8) : ∀ n m, n ≤ m → lowN (l.take m) n = lowN l n
  | 0, _, _ => rfl
  | n + 1, m, h => by
    rw [lowN_succ, lowN_succ, lowN_take l n m (by omega)]
    simp only [List.getD, List.getElem?_take]
    rw [if_pos (by omega)]
theorem low_cut (l : List UInt8) (p n : Nat) (h : p + n ≤ l.length) : lowN ((l.drop p).take (p + n - p)) ((l.drop p).take (p + n - p)).length = lowN (l.drop p) n := by
  rw [Nat.add_sub_cancel_left, List.length_take, List.length_drop, Nat.min_eq_left (by omega), lowN_take _ _ _ (Nat.le_refl _)]
theorem whole_lt (low size e : Nat) (h1 : 1 ≤ size) (h4 : size ≤ 4) (hl : low < 2 ^ (8 * size)) (he : e ≤ 4611686018427387903) : wholeN low size e < 9223372036854775808 := by
  obtain ⟨hw1, hw2, hw3⟩ := pow_size size h1 h4
  have hdm : e / 2 ^ (8 * size) * 2 ^ (8 * size) ≤ e := Nat.div_mul_le_self _ _
  unfold wholeN
  split
  · omega
  · split <;> omega

theorem gopen_calls (a b c : ByteArray) (bv : Value) (l : List UInt8) (p e : Int) (w : World) (hv : Sl w bv l) (hl : l.length ≤ 65000) (hp1 : -9223372036854775808 ≤ p) (hp2 : p ≤ 9223372036854775807) : Ret Tryd.prog 16 #[.agg #[.string a, .string b, .string c], bv, I64 p, I64 e] w fun v w' => (openE a b c l p e = 0 → ∃ o1 cs1 o2 cap2 cs2, v = .tuple #[ownO o1 0 (p.toNat + opSz c l p.toNat) (p.toNat + opSz c l p.toNat), I64 (opNum c l p.toNat e.toNat : Nat), own o2 ((opRest c l p.toNat).length - 16) cap2, I64 (0 : Nat)] ∧ Hp [] w w' [(o1, 5, cs1), (o2, 5, cs2)] ∧ OwnD o1 0 (p.toNat + opSz c l p.toNat) (p.toNat + opSz c l p.toNat) cs1 (opHead c l p.toNat) ∧ OwnC o2 ((opRest c l p.toNat).length - 16) cap2 1 cs2 ((opOut a b c l p.toNat e.toNat).map V8)) ∧ ∀ k, openE a b c l p e = k → k ≠ 0 → v = .tuple #[.slice none 0 0, I64 (0 : Nat), .slice none 0 0, I64 (k : Nat)] ∧ Chg [] w w' := by
 refine Ret.enter Tryd.func16 rfl ?_
 simp only [Tryd.ntmps16, fe, Nat.reduceAdd, Nat.reduceSub]
 have hH := Hp.start [] w
 refine wp_seq_k ?_
 intro K1 hK1
 refine wrt [.x 0, .p 1, .p 2, .p 3, .p 4] ?_
 refine plan_box rfl rfl hH rfl ?_
 clear hH
 intro b2 w3 hH
 (try simp only [nf, nh, Value.cells, arrB_set] at hH ⊢)
 refine pa (pka 0 (pa (pka 0 ?_)));simp only [nf]
 refine plan_nil hH ?_
 clear hH
 intro w4 hH
 refine hK1 _ _ ?_
 (try clear hK1 K1)
 refine wp_seq_k ?_
 intro K5 hK5
 refine wp_block ?_
 refine wp_seq_k ?_
 intro K6 hK6
 refine wrt [.p 0, .p 1, .p 2, .p 3, .p 4, .p 5, .p 6, .p 7, .p 8, .p 9, .p 10, .q 11, .q 12, .p 13, .p 14, .p 15] ?_
 refine pm ?_;simp only [nf]
 refine pp rfl rfl (pr_bin rfl rfl (by first | exact bin_lss_n (n := 1)  | exact bin_lss_i)) ?_;simp only [nf]
 refine pm ?_;simp only [nf]
 refine plan_pc_f rfl rfl rfl (fun hb => by have hb' := hb; try simp only [gsl] at hb'; rw [hb]; exact pr_move) ?_
 (try simp only [nf])
 refine plan_pc_f rfl rfl rfl (fun hb => by have hb' := hb; try simp only [gsl] at hb'; rw [hb]; exact (pr_bin rfl rfl (by first | exact bin_lss_n (n := 0)  | exact bin_lss_i))) ?_
 (try simp only [nf])
 refine pp rfl rfl (pr_pick_or rfl rfl rfl) ?_;simp only [nf]
 refine pm ?_;simp only [nf]
 refine plan_pc_f rfl rfl rfl (fun hb => by have hb' := hb; try simp only [gsl] at hb'; rw [hb]; exact pr_move) ?_
 (try simp only [nf])
 refine plan_pc_f rfl rfl rfl (fun hb => by have hb' := hb; try simp only [gsl] at hb'; rw [hb]; exact (pr_bin rfl rfl (by first | exact bin_gtr_n (n := 4611686018427387903)  | exact bin_gtr_i))) ?_
 (try simp only [nf])
 refine pp rfl rfl (pr_pick_or rfl rfl rfl) ?_;simp only [nf]
 refine pm ?_;simp only [nf]
 refine plan_qc_f rfl rfl rfl (fun hb => by have hb' := hb; try simp only [gsl] at hb'; rw [hb]; exact (qr_loadW rfl (hH.blk 0 rfl) Tryd.underlying37 rfl sz37 (by simp))) ?_
 (try simp only [nf])
 refine plan_qc_f rfl rfl rfl (fun hb => by have hb' := hb; try simp only [gsl] at hb'; rw [hb]; exact (qr_call cf27 (fun w' hw => right_calls _ _ _ w') rfl)) ?_
 (try simp only [nf])
 refine plan_pc_f rfl rfl rfl (fun hb => by have hb' := hb; try simp only [gsl] at hb'; rw [hb]; exact (pr_not rfl)) ?_
 (try simp only [nf])
 refine pp rfl rfl (pr_pick_or rfl rfl rfl) ?_;simp only [nf]
 refine pa ?_;simp only [nf]
 refine plan_nil hH ?_
 clear hH
 intro w7 hH
 refine hK6 _ _ ?_
 (try clear hK6 K6)
 refine wp_cond_split rfl (fun hc8 => ?_) (fun hc8 => ?_)
 ·
  (try simp only [cnd, gsl] at hc8)
  have hq := hc8
  refine wp_seq_k ?_
  intro K9 hK9
  refine wrt [.p 0, .p 1, .p 2, .p 3] ?_
  refine pa (pka 0 (pa (pka 1 ?_)));simp only [nf]
  refine plan_nil hH ?_
  clear hH
  intro w10 hH
  refine hK9 _ _ ?_
  (try clear hK9 K9)
  refine wp_ret ?_
  (try simp only [Exit.then, Exit.inBlock, ↓reduceIte, Nat.reduceEqDiff])
  refine BP.ret4 rfl rfl rfl rfl rfl ?_
  have he : openE a b c l p e = 1 := by
    unfold openE
    rw [if_neg (fun h => by (obtain ⟨h1, h2, h3, h5⟩ := h; rcases hq with ((hq | hq) | hq) | hq <;> first | omega | (rw [h5] at hq; cases hq)))]
  exact ⟨fun h => by (rw [he] at h; cases h), fun k h1 _ => by (rw [he] at h1; subst h1; exact ⟨rfl, hH.chg⟩)⟩
 ·
  (try simp only [cnd, gsl] at hc8)
  have hq := hc8
  have hok : 1 ≤ p ∧ 0 ≤ e ∧ e ≤ 4611686018427387903 ∧ rightB a b c = true := ⟨by omega, by omega, by omega, hq.2⟩
  obtain ⟨ha, hb, hc⟩ := rightB_is hok.2.2.2
  obtain ⟨pn, rfl⟩ : ∃ k : Nat, p = k := ⟨p.toNat, by omega⟩
  obtain ⟨en, rfl⟩ : ∃ k : Nat, e = k := ⟨e.toNat, by omega⟩
  have hm : ((pn : Nat) : Int).toNat = pn := by omega
  have hnm : ((en : Nat) : Int).toNat = en := by omega
  refine wp_seq_k ?_
  intro K11 hK11
  refine wrt [.p 0, .p 1, .p 2, .p 3, .p 4, .p 5, .p 6, .p 7, .p 8, .p 9, .p 10, .p 11] ?_
  refine pm (pm ?_);simp only [nf]
  refine pp rfl rfl (pr_len_Sl (hv.chg hH.chg) rfl Tryd.underlying22) ?_;simp only [nf]
  refine pp rfl rfl (pr_bin rfl rfl (by first | exact bin_gtr_n  | exact bin_gtr_i)) ?_;simp only [nf]
  refine pm ?_;simp only [nf]
  refine plan_pc_f rfl rfl rfl (fun hb => by have hb' := hb; try simp only [gsl] at hb'; rw [hb]; exact pr_move) ?_
  (try simp only [nf])
  refine plan_pc_f rfl rfl rfl (fun hb => by have hb' := hb; try simp only [gsl] at hb'; rw [hb]; exact (pr_len_Sl (hv.chg hH.chg) rfl Tryd.underlying22)) ?_
  (try simp only [nf])
  refine plan_pc_f rfl rfl rfl (fun hb => by have hb' := hb; try simp only [gsl] at hb'; rw [hb]; exact pr_move) ?_
  (try simp only [nf])
  refine plan_pc_f rfl rfl rfl (fun hb => by have hb' := hb; try simp only [gsl] at hb'; rw [hb]; exact (pr_bin rfl rfl (by first | exact bin_sub_n (by first | omega | (first | (simp only [hideL_len, List.length_take, List.length_drop] at *; omega) | (rw [hbl]; omega) | (have := lt_u8 ((l.getD 0 0 ^^^ maskF c.data.toList l pn 0) &&& 3); omega))) (by first | omega | (first | (simp only [hideL_len, List.length_take, List.length_drop] at *; omega) | (rw [hbl]; omega) | (have := lt_u8 ((l.getD 0 0 ^^^ maskF c.data.toList l pn 0) &&& 3); omega))) | exact bin_sub_i (by first | omega | (first | (simp only [hideL_len, List.length_take, List.length_drop] at *; omega) | (rw [hbl]; omega) | (have := lt_u8 ((l.getD 0 0 ^^^ maskF c.data.toList l pn 0) &&& 3); omega))) (by first | omega | (first | (simp only [hideL_len, List.length_take, List.length_drop] at *; omega) | (rw [hbl]; omega) | (have := lt_u8 ((l.getD 0 0 ^^^ maskF c.data.toList l pn 0) &&& 3); omega)))))) ?_
  (try simp only [nf])
  refine plan_pc_f rfl rfl rfl (fun hb => by have hb' := hb; try simp only [gsl] at hb'; rw [hb]; exact (pr_bin rfl rfl (by first | exact bin_lss_n (n := 20)  | exact bin_lss_i))) ?_
  (try simp only [nf])
  refine pp rfl rfl (pr_pick_or rfl rfl rfl) ?_;simp only [nf]
  refine pa ?_;simp only [nf]
  refine plan_nil hH ?_
  clear hH
  intro w12 hH
  refine hK11 _ _ ?_
  (try clear hK11 K11)
  refine wp_cond_split rfl (fun hc13 => ?_) (fun hc13 => ?_)
  ·
   (try simp only [cnd, gsl] at hc13)
   have ht := hc13
   refine wp_seq_k ?_
   intro K14 hK14
   refine wrt [.p 0, .p 1, .p 2, .p 3] ?_
   refine pa (pka 0 (pa (pka 3 ?_)));simp only [nf]
   refine plan_nil hH ?_
   clear hH
   intro w15 hH
   refine hK14 _ _ ?_
   (try clear hK14 K14)
   refine wp_ret ?_
   (try simp only [Exit.then, Exit.inBlock, ↓reduceIte, Nat.reduceEqDiff])
   refine BP.ret4 rfl rfl rfl rfl rfl ?_
   have he : openE a b c l (pn : Nat) (en : Nat) = 3 := by
     unfold openE
     rw [if_pos hok, if_neg (by omega)]
   exact ⟨fun h => by (rw [he] at h; cases h), fun k h1 _ => by (rw [he] at h1; subst h1; exact ⟨rfl, hH.chg⟩)⟩
  ·
   (try simp only [cnd, gsl] at hc13)
   have ht := hc13
   have hlen : pn + 20 ≤ l.length := by omega
   obtain ⟨hz1, hz2⟩ := opSz_lo c l pn
   obtain ⟨hw1, hw2, hw3⟩ := pow_size (opSz c l pn) hz1 hz2
   have hbl := opBare_len c l pn
   have hrl := opRest_len c l pn
   have hlw := lowN_lt ((opBare c l pn).drop pn) (opSz c l pn)
   have hnb : opNum c l pn en < 9223372036854775808 := whole_lt _ _ _ hz1 hz2 hlw (by omega)
   have hcut := low_cut (opBare c l pn) pn (opSz c l pn) (by omega)
   refine wp_skip ?_
   refine hK5 _ _ ?_
   (try clear hK5 K5)
   refine wp_seq_k ?_
   intro K16 hK16
   refine wrt [.p 0, .x 1, .p 2] ?_
   refine pm ?_;simp only [nf]
   refine plan_callx rfl rfl hH cf30 (fun w' hH => clone_calls _ _ w' (hv.chg hH.chg) (by apply List.ne_nil_of_length_pos; omega) (by omega)) rfl (fun _ _ _ h => by obtain ⟨_, _, _, _, hg, _⟩ := h; exact hg) ?_
   clear hH
   intro w17 v18 w19 hH hp20
   obtain ⟨o21, cap22, cs23, rfl, hg, hO24, hfr⟩ := hp20
   replace hH := hH.callown hg hfr
   clear hg hfr
   (try simp only [nf, nh, Value.cells, arrB_set] at hH ⊢)
   (try simp only [nf])
   refine pa ?_;simp only [nf]
   refine plan_nil hH ?_
   clear hH
   intro w25 hH
   obtain ⟨b26, rfl⟩ := OwnC.some hO24 (by omega)
   refine hK16 _ _ ?_
   (try clear hK16 K16)
   refine wp_seq_k ?_
   intro K27 hK27
   refine wrt [.q 0, .p 1, .p 2, .x 3, .p 4] ?_
   refine pq rfl rfl (qr_loadW rfl (hH.blk 0 rfl) Tryd.underlying37 rfl sz37 (by simp)) ?_;simp only [nf]
   refine pm (pm ?_);simp only [nf]
   refine plan_callx rfl rfl hH cf32 (fun w' hH => mask_calls _ _ _ _ _ _ w' (OwnC.sl hH 1 rfl hO24) hc hlen (by omega)) rfl (fun _ _ _ h => h.choose_spec.2.1) ?_
   clear hH
   intro w28 v29 w30 hH hp31
   obtain ⟨b32, rfl, hg, hfr, hbk⟩ := hp31
   replace hH := hH.callnew hg hbk hfr
   clear hg hfr hbk
   (try simp only [nf, nh, Value.cells, arrB_set] at hH ⊢)
   (try simp only [nf])
   refine pa ?_;simp only [nf]
   refine plan_nil hH ?_
   clear hH
   intro w33 hH
   refine hK27 _ _ ?_
   (try clear hK27 K27)
   refine wp_seq_k ?_
   intro K34 hK34
   refine wrp [.p 0, .p 1, .p 3, .p 4, .q 2, .q 5, .p 6, .p 7, .p 8, .p 9, .p 10] ?_
   refine pm ?_;simp only [nf]
   refine pp rfl rfl (pr_idx_Sl (i := 0) (OwnC.sl hH 1 rfl hO24) rfl rfl Tryd.underlying22 sz5 (by first | omega | (first | (simp only [hideL_len, List.length_take, List.length_drop] at *; omega) | (rw [hbl]; omega) | (have := lt_u8 ((l.getD 0 0 ^^^ maskF c.data.toList l pn 0) &&& 3); omega)))) ?_;simp only [nf]
   refine pm ?_;simp only [nf]
   refine pp rfl rfl (pr_idxS1 (i := 0) rfl rfl Tryd.underlying22 sz5 (by first | omega | (first | (simp only [hideL_len, List.length_take, List.length_drop] at *; omega) | (rw [hbl]; omega) | (have := lt_u8 ((l.getD 0 0 ^^^ maskF c.data.toList l pn 0) &&& 3); omega)))) ?_;simp only [nf]
   refine pq rfl rfl (qr_load1 rfl Tryd.underlying5 rfl (Sl.cell (i := 0) (OwnC.sl hH 1 rfl hO24) (by first | omega | (first | (simp only [hideL_len, List.length_take, List.length_drop] at *; omega) | (rw [hbl]; omega) | (have := lt_u8 ((l.getD 0 0 ^^^ maskF c.data.toList l pn 0) &&& 3); omega))))) ?_;simp only [nf]
   refine pq rfl rfl (qr_load1 rfl Tryd.underlying5 rfl ((hH.blk 2 rfl).cell (arr8_get (by first | omega | (first | (simp only [hideL_len, List.length_take, List.length_drop] at *; omega) | (rw [hbl]; omega) | (have := lt_u8 ((l.getD 0 0 ^^^ maskF c.data.toList l pn 0) &&& 3); omega)))))) ?_;simp only [nf]
   refine pp rfl rfl (pr_bin rfl rfl (bin_xor_u8 _ _)) ?_;simp only [nf]
   refine pp rfl rfl (pr_bin rfl rfl (bin_and_u8 _ 3)) ?_;simp only [nf]
   refine pp rfl rfl (pr_conv rfl (cnv_u8_n _ Tryd.underlying5 Tryd.underlying3)) ?_;simp only [nf]
   refine pp rfl rfl (pr_bin rfl rfl (by first | exact bin_add_n (n := 1) (by first | omega | (first | (simp only [hideL_len, List.length_take, List.length_drop] at *; omega) | (rw [hbl]; omega) | (have := lt_u8 ((l.getD 0 0 ^^^ maskF c.data.toList l pn 0) &&& 3); omega))) | exact bin_add_i (by first | omega | (first | (simp only [hideL_len, List.length_take, List.length_drop] at *; omega) | (rw [hbl]; omega) | (have := lt_u8 ((l.getD 0 0 ^^^ maskF c.data.toList l pn 0) &&& 3); omega))) (by first | omega | (first | (simp only [hideL_len, List.length_take, List.length_drop] at *; omega) | (rw [hbl]; omega) | (have := lt_u8 ((l.getD 0 0 ^^^ maskF c.data.toList l pn 0) &&& 3); omega))))) ?_;simp only [nf]
   refine pa ?_;simp only [nf]
   refine plan_nil hH ?_
   clear hH
   intro w35 hH
   have hsz : ((l.getD 0 0 ^^^ maskF c.data.toList l pn 0) &&& 3).toNat + 1 = opSz c l pn := by unfold opSz; rw [show (maskL c.data.toList l pn).getD 0 0 = maskF c.data.toList l pn 0 from cut16 _ (by decide)]
   rw [hsz]
   refine hK34 _ _ ?_
   (try clear hK34 K34)
   refine wp_seq_k ?_
   intro K36 hK36
   refine wrt [.p 0, .p 1, .p 2, .p 3, .e 4] ?_
   refine pm (pm (pm (pm ?_)));simp only [nf]
   refine plan_calle rfl rfl hH cf31 (fun w' hH => hide_calls _ _ _ _ l (maskL c.data.toList l pn) _ pn (opSz c l pn) w' rfl (hH.blk 1 rfl) hO24 (fun w'' hw => (Sl.of_arr8 (o := 0) (n := 16) (hw.blk (hH.blk 2 rfl) (by simp only [List.mem_singleton]; exact hH.other (i := 1) rfl (j := 2) rfl (by decide) rfl)) (by omega) (by omega)).of_eq (by simp only [Nat.zero_add]; rfl)) (by omega) (by omega) (by rw [maskL_len]; omega) (by omega)) rfl ?_
   clear hH
   intro w37 v38 w39 hH hp40
   obtain ⟨rfl, hg, cs41, hbk, hO42⟩ := hp40
   replace hH := hH.callw 1 rfl hg hbk
   clear hg hbk
   (try simp only [nf, nh, Value.cells, arrB_set] at hH ⊢)
   refine plan_nil hH ?_
   clear hH
   intro w43 hH
   replace hO42 : OwnC _ _ _ 1 _ ((opBare c l pn).map V8) := hO42
   refine hK36 _ _ ?_
   (try clear hK36 K36)
   refine wp_seq_k ?_
   intro K44 hK44
   refine wrt [.p 0, .p 1, .p 2, .p 3] ?_
   refine pm (pm ?_);simp only [nf]
   refine pp rfl rfl (pr_bin rfl rfl (by first | exact bin_add_n (by first | omega | (first | (simp only [hideL_len, List.length_take, List.length_drop] at *; omega) | (rw [hbl]; omega) | (have := lt_u8 ((l.getD 0 0 ^^^ maskF c.data.toList l pn 0) &&& 3); omega))) | exact bin_add_i (by first | omega | (first | (simp only [hideL_len, List.length_take, List.length_drop] at *; omega) | (rw [hbl]; omega) | (have := lt_u8 ((l.getD 0 0 ^^^ maskF c.data.toList l pn 0) &&& 3); omega))) (by first | omega | (first | (simp only [hideL_len, List.length_take, List.length_drop] at *; omega) | (rw [hbl]; omega) | (have := lt_u8 ((l.getD 0 0 ^^^ maskF c.data.toList l pn 0) &&& 3); omega))))) ?_;simp only [nf]
   refine pa ?_;simp only [nf]
   refine plan_nil hH ?_
   clear hH
   intro w45 hH
   refine hK44 _ _ ?_
   (try clear hK44 K44)
   refine wp_seq_k ?_
   intro K46 hK46
   refine wrt [.p 0, .p 1, .p 2, .p 3, .q 4, .p 5, .p 6, .q 7, .p 8, .p 9, .p 10, .p 11, .p 12] ?_
   refine pm (pm (pm ?_));simp only [nf]
   refine pp rfl rfl (pr_slice_Sl_lh (OwnC.sl hH 1 rfl hO42) rfl rfl rfl Tryd.underlying22 sz5 (by first | omega | (first | (simp only [hideL_len, List.length_take, List.length_drop] at *; omega) | (rw [hbl]; omega) | (have := lt_u8 ((l.getD 0 0 ^^^ maskF c.data.toList l pn 0) &&& 3); omega))) (by first | omega | (first | (simp only [hideL_len, List.length_take, List.length_drop] at *; omega) | (rw [hbl]; omega) | (have := lt_u8 ((l.getD 0 0 ^^^ maskF c.data.toList l pn 0) &&& 3); omega)))) ?_;simp only [nf]
   refine pq rfl rfl (qr_call cf28 (fun w' hw => low_calls _ _ w' ((Sl.cut (OwnC.sl hH 1 rfl hO42) (by first | omega | (first | (simp only [hideL_len, List.length_take, List.length_drop] at *; omega) | (rw [hbl]; omega) | (have := lt_u8 ((l.getD 0 0 ^^^ maskF c.data.toList l pn 0) &&& 3); omega))) (by first | omega | (first | (simp only [hideL_len, List.length_take, List.length_drop] at *; omega) | (rw [hbl]; omega) | (have := lt_u8 ((l.getD 0 0 ^^^ maskF c.data.toList l pn 0) &&& 3); omega)))).chg hw) (by rw [List.length_take, List.length_drop]; omega)) rfl) ?_;simp only [nf]
   refine pm (pm ?_);simp only [nf]
   refine pq rfl rfl (qr_call cf35 (fun w' hw => pkwhole_calls _ _ _ w' hz1 hz2 (by rw [hcut]; exact hlw) (by omega)) rfl) ?_;simp only [nf]
   refine pm ?_;simp only [nf]
   refine pp rfl rfl (pr_extract rfl rfl) ?_;simp only [nf]
   refine pp rfl rfl (pr_extract rfl rfl) ?_;simp only [nf]
   refine pa (pa ?_);simp only [nf]
   refine plan_nil hH ?_
   clear hH
   intro w47 hH
   rw [hcut]
   have hnum : wholeN (lowN ((opBare c l pn).drop pn) (opSz c l pn)) (opSz c l pn) en = opNum c l pn en := rfl
   rw [hnum]
   refine hK46 _ _ ?_
   (try clear hK46 K46)
   refine wp_seq_k ?_
   intro K48 hK48
   refine wp_seq_k ?_
   intro K49 hK49
   refine wrt [.p 0, .p 1] ?_
   refine pm ?_;simp only [nf]
   refine pp rfl rfl (pr_bin rfl rfl (by first | exact bin_neq_n (n := 0)  | exact bin_neq_i)) ?_;simp only [nf]
   refine plan_nil hH ?_
   clear hH
   intro w50 hH
   refine hK49 _ _ ?_
   (try clear hK49 K49)
   refine wp_cond_false rfl ?_
   refine wp_skip ?_
   refine hK48 _ _ ?_
   (try clear hK48 K48)
   refine wp_seq_k ?_
   intro K51 hK51
   refine wrt [.p 0, .q 1, .x 2, .x 3, .p 4, .p 5, .p 6, .p 7, .p 8] ?_
   refine pp rfl rfl (pr_fieldAddr 0 rfl Tryd.underlying37 rfl rfl sz9) ?_;simp only [nf]
   refine pq rfl rfl (qr_load1 rfl Tryd.underlying9 rfl ((hH.blk 0 rfl).cell rfl)) ?_;simp only [nf]
   refine plan_s2b rfl rfl hH rfl Tryd.underlying9 Tryd.underlying22 Tryd.underlying5 ?_
   clear hH
   intro b52 cap53 cs54 w55 hO56 hH
   (try simp only [nf] at hH ⊢)
   (try simp only [nf, nh, Value.cells, arrB_set] at hH ⊢)
   refine plan_callx rfl rfl hH cf22 (fun w' hH => gnew_calls _ _ w' (OwnC.sl hH 3 rfl hO56) (by simpa using ha)) rfl (fun _ _ _ h => by obtain ⟨_, _, _, hg, _⟩ := h; exact hg) ?_
   clear hH
   intro w57 v58 w59 hH hp60
   obtain ⟨b61, b62, rfl, hg, hfc, hbc, hfx, hbx, hne⟩ := hp60
   replace hH := hH.callnew2 hg hbc hfc hbx hfx hne
   clear hg hfc hbc hfx hbx hne
   (try simp only [nf, nh, Value.cells, arrB_set] at hH ⊢)
   (try simp only [nf])
   refine pm ?_;simp only [nf]
   refine pp rfl rfl (pr_extract rfl rfl) ?_;simp only [nf]
   refine pp rfl rfl (pr_extract rfl rfl) ?_;simp only [nf]
   refine pa (pa ?_);simp only [nf]
   refine plan_nil hH ?_
   clear hH
   intro w63 hH
   refine hK51 _ _ ?_
   (try clear hK51 K51)
   refine wp_seq_k ?_
   intro K64 hK64
   refine wp_seq_k ?_
   intro K65 hK65
   refine wrt [.p 0, .p 1] ?_
   refine pm ?_;simp only [nf]
   refine pp rfl rfl (pr_bin rfl rfl (by first | exact bin_neq_n (n := 0)  | exact bin_neq_i)) ?_;simp only [nf]
   refine plan_nil hH ?_
   clear hH
   intro w66 hH
   refine hK65 _ _ ?_
   (try clear hK65 K65)
   refine wp_cond_false rfl ?_
   refine wp_skip ?_
   refine hK64 _ _ ?_
   (try clear hK64 K64)
   refine wp_seq_k ?_
   intro K67 hK67
   by_cases hopen : opOk a b c l pn en
   ·
    refine wrp [.p 0, .p 2, .p 4, .p 5, .p 6, .p 7, .p 8, .p 9, .q 1, .x 3, .x 10, .p 11, .p 12, .p 13, .p 14, .p 15] ?_
    refine pm (pm (pm (pm ?_)));simp only [nf]
    refine pp rfl rfl (pr_slice_Sl_h (OwnC.sl hH 1 rfl hO42) rfl rfl Tryd.underlying22 sz5 (by first | omega | (first | (simp only [hideL_len, List.length_take, List.length_drop] at *; omega) | (rw [hbl]; omega) | (have := lt_u8 ((l.getD 0 0 ^^^ maskF c.data.toList l pn 0) &&& 3); omega)))) ?_;simp only [nf]
    refine pm (pm ?_);simp only [nf]
    refine pp rfl rfl (pr_slice_Sl_l (OwnC.sl hH 1 rfl hO42) rfl rfl Tryd.underlying22 sz5 (by first | omega | (first | (simp only [hideL_len, List.length_take, List.length_drop] at *; omega) | (rw [hbl]; omega) | (have := lt_u8 ((l.getD 0 0 ^^^ maskF c.data.toList l pn 0) &&& 3); omega)))) ?_;simp only [nf]
    refine pq rfl rfl (qr_loadW rfl (hH.blk 0 rfl) Tryd.underlying37 rfl sz37 (by simp)) ?_;simp only [nf]
    refine plan_callx rfl rfl hH cf29 (fun w' hH => nonce_calls _ _ _ _ w' hb hnb) rfl (fun _ _ _ h => by obtain ⟨_, _, _, _, hg, _⟩ := h; exact hg) ?_
    clear hH
    intro w68 v69 w70 hH hp71
    obtain ⟨o72, cap73, cs74, rfl, hg, hO75, hfr⟩ := hp71
    replace hH := hH.callown hg hfr
    clear hg hfr
    (try simp only [nf, nh, Value.cells, arrB_set] at hH ⊢)
    (try simp only [nf])
    refine plan_callx rfl rfl hH cf36 (fun w' hH => Open_calls _ _ _ (hP _) _ _ _ _ _ _ w' (hH.blk 5 rfl) (hH.blk 4 rfl) (OwnC.sl hH 6 rfl hO75) (by rw [nonL_len]; simpa using hb) ((Sl.cuth (OwnC.sl hH 1 rfl hO42) (by first | omega | (first | (simp only [hideL_len, List.length_take, List.length_drop] at *; omega) | (rw [hbl]; omega) | (have := lt_u8 ((l.getD 0 0 ^^^ maskF c.data.toList l pn 0) &&& 3); omega)))).of_eq (show _ = opHead c l pn from rfl)) ((Sl.cutl (OwnC.sl hH 1 rfl hO42) (by first | omega | (first | (simp only [hideL_len, List.length_take, List.length_drop] at *; omega) | (rw [hbl]; omega) | (have := lt_u8 ((l.getD 0 0 ^^^ maskF c.data.toList l pn 0) &&& 3); omega)))).of_eq (show _ = opRest c l pn from rfl)) (by omega) (by omega) hopen) rfl (fun _ _ _ h => by obtain ⟨_, _, _, _, hg, _⟩ := h; exact hg) ?_
    clear hH
    intro w76 v77 w78 hH hp79
    obtain ⟨o80, cap81, cs82, rfl, hg, hO83, hfr⟩ := hp79
    replace hH := hH.callown hg hfr
    clear hg hfr
    (try simp only [nf, nh, Value.cells, arrB_set] at hH ⊢)
    (try simp only [nf])
    refine pm ?_;simp only [nf]
    refine pp rfl rfl (pr_extract rfl rfl) ?_;simp only [nf]
    refine pp rfl rfl (pr_extract rfl rfl) ?_;simp only [nf]
    refine pa (pa ?_);simp only [nf]
    refine plan_nil hH ?_
    clear hH
    intro w84 hH
    refine hK67 _ _ ?_
    (try clear hK67 K67)
    refine wp_seq_k ?_
    intro K85 hK85
    refine wp_seq_k ?_
    intro K86 hK86
    refine wrt [.p 0, .p 1, .p 2, .p 3, .p 4, .p 5, .p 6] ?_
    refine pm ?_;simp only [nf]
    refine pp rfl rfl (pr_bin rfl rfl (by first | exact bin_neq_n (n := 0)  | exact bin_neq_i)) ?_;simp only [nf]
    refine plan_p (v := BV false) rfl rfl (pr_move_v rfl) ?_
    (try simp only [nf])
    refine pp rfl rfl pr_move ?_;simp only [nf]
    refine pp rfl rfl (pr_len_sl rfl Tryd.underlying22) ?_;simp only [nf]
    refine pp rfl rfl (pr_bin rfl rfl (by first | exact bin_gtr_n (n := 65000)  | exact bin_gtr_i)) ?_;simp only [nf]
    refine pp rfl rfl (pr_pick_f rfl) ?_;simp only [nf]
    refine plan_nil hH ?_
    clear hH
    intro w87 hH
    refine hK86 _ _ ?_
    (try clear hK86 K86)
    refine wp_cond_false (by show BV _ = _; exact congrArg BV (decide_eq_false (by rw [hrl]; omega))) ?_
    refine wp_skip ?_
    refine hK85 _ _ ?_
    (try clear hK85 K85)
    refine wp_seq_k ?_
    intro K88 hK88
    refine wrt [.p 0, .p 1, .p 2, .p 3, .p 4, .p 5, .p 6, .p 7, .p 8, .p 9] ?_
    refine pm (pm (pm ?_));simp only [nf]
    refine pp rfl rfl (pr_slice_O3 rfl rfl rfl Tryd.underlying22 sz5 (Nat.le_trans (by first | omega | (first | (simp only [hideL_len, List.length_take, List.length_drop] at *; omega) | (rw [hbl]; omega) | (have := lt_u8 ((l.getD 0 0 ^^^ maskF c.data.toList l pn 0) &&& 3); omega))) (OwnC.le hO42))) ?_;simp only [nf]
    refine pm (pm (pa (pa (pa (pka 0 ?_)))));simp only [nf]
    refine plan_nil hH ?_
    clear hH
    intro w89 hH
    refine hK88 _ _ ?_
    (try clear hK88 K88)
    refine wp_ret ?_
    (try simp only [Exit.then, Exit.inBlock, ↓reduceIte, Nat.reduceEqDiff])
    refine BP.ret4 rfl rfl rfl rfl rfl ?_
    have he : openE a b c l (pn : Nat) (en : Nat) = 0 := by
      unfold openE
      rw [if_pos hok, if_pos (by omega), hm, hnm, if_pos hopen]
    simp only [hm, hnm]
    refine ⟨fun _ => ⟨_, _, _, _, _, rfl, hH.pick2 1 7 rfl rfl (by decide), ?_, ?_⟩, fun e h1 h2 => absurd (h1.symm.trans he) h2⟩
    · exact OwnC.cut3 (l := opBare c l pn) (by assumption) (by omega)
    · assumption
   ·
    refine wrp [.p 0, .p 2, .p 4, .p 5, .p 6, .p 7, .p 8, .p 9, .q 1, .x 3, .x 10, .p 11, .p 12, .p 13, .p 14, .p 15] ?_
    refine pm (pm (pm (pm ?_)));simp only [nf]
    refine pp rfl rfl (pr_slice_Sl_h (OwnC.sl hH 1 rfl hO42) rfl rfl Tryd.underlying22 sz5 (by first | omega | (first | (simp only [hideL_len, List.length_take, List.length_drop] at *; omega) | (rw [hbl]; omega) | (have := lt_u8 ((l.getD 0 0 ^^^ maskF c.data.toList l pn 0) &&& 3); omega)))) ?_;simp only [nf]
    refine pm (pm ?_);simp only [nf]
    refine pp rfl rfl (pr_slice_Sl_l (OwnC.sl hH 1 rfl hO42) rfl rfl Tryd.underlying22 sz5 (by first | omega | (first | (simp only [hideL_len, List.length_take, List.length_drop] at *; omega) | (rw [hbl]; omega) | (have := lt_u8 ((l.getD 0 0 ^^^ maskF c.data.toList l pn 0) &&& 3); omega)))) ?_;simp only [nf]
    refine pq rfl rfl (qr_loadW rfl (hH.blk 0 rfl) Tryd.underlying37 rfl sz37 (by simp)) ?_;simp only [nf]
    refine plan_callx rfl rfl hH cf29 (fun w' hH => nonce_calls _ _ _ _ w' hb hnb) rfl (fun _ _ _ h => by obtain ⟨_, _, _, _, hg, _⟩ := h; exact hg) ?_
    clear hH
    intro w90 v91 w92 hH hp93
    obtain ⟨o94, cap95, cs96, rfl, hg, hO97, hfr⟩ := hp93
    replace hH := hH.callown hg hfr
    clear hg hfr
    (try simp only [nf, nh, Value.cells, arrB_set] at hH ⊢)
    (try simp only [nf])
    refine plan_callx rfl rfl hH cf36 (fun w' hH => Open_wrong _ _ _ (hP _) _ _ _ _ _ _ w' (hH.blk 5 rfl) (hH.blk 4 rfl) (OwnC.sl hH 6 rfl hO97) (by rw [nonL_len]; simpa using hb) ((Sl.cuth (OwnC.sl hH 1 rfl hO42) (by first | omega | (first | (simp only [hideL_len, List.length_take, List.length_drop] at *; omega) | (rw [hbl]; omega) | (have := lt_u8 ((l.getD 0 0 ^^^ maskF c.data.toList l pn 0) &&& 3); omega)))).of_eq (show _ = opHead c l pn from rfl)) ((Sl.cutl (OwnC.sl hH 1 rfl hO42) (by first | omega | (first | (simp only [hideL_len, List.length_take, List.length_drop] at *; omega) | (rw [hbl]; omega) | (have := lt_u8 ((l.getD 0 0 ^^^ maskF c.data.toList l pn 0) &&& 3); omega)))).of_eq (show _ = opRest c l pn from rfl)) (by omega) (by omega) hopen) rfl (fun _ _ _ h => h.2) ?_
    clear hH
    intro w98 v99 w100 hH hp101
    obtain ⟨rfl, hg⟩ := hp101
    replace hH := hH.call hg
    clear hg
    (try simp only [nf])
    refine pm ?_;simp only [nf]
    refine pp rfl rfl (pr_extract rfl rfl) ?_;simp only [nf]
    refine pp rfl rfl (pr_extract rfl rfl) ?_;simp only [nf]
    refine pa (pa ?_);simp only [nf]
    refine plan_nil hH ?_
    clear hH
    intro w102 hH
    refine hK67 _ _ ?_
    (try clear hK67 K67)
    refine wp_seq_k ?_
    intro K103 hK103
    refine wp_seq_k ?_
    intro K104 hK104
    refine wrt [.p 0, .p 1, .p 2, .p 3, .p 4, .p 5, .p 6] ?_
    refine pm ?_;simp only [nf]
    refine pp rfl rfl (pr_bin rfl rfl (by first | exact bin_neq_n (n := 0)  | exact bin_neq_i)) ?_;simp only [nf]
    refine plan_p (v := BV true) rfl rfl (pr_move_v rfl) ?_
    (try simp only [nf])
    refine plan_ps rfl rfl ?_
    (try simp only [nf])
    refine plan_ps rfl rfl ?_
    (try simp only [nf])
    refine plan_ps rfl rfl ?_
    (try simp only [nf])
    refine pp rfl rfl (pr_pick_t rfl) ?_;simp only [nf]
    refine plan_nil hH ?_
    clear hH
    intro w105 hH
    refine hK104 _ _ ?_
    (try clear hK104 K104)
    refine wp_cond_true rfl ?_
    refine wp_seq_k ?_
    intro K106 hK106
    refine wrt [.p 0, .p 1, .p 2, .p 3] ?_
    refine pa (pka 0 (pa (pka 4 ?_)));simp only [nf]
    refine plan_nil hH ?_
    clear hH
    intro w107 hH
    refine hK106 _ _ ?_
    (try clear hK106 K106)
    refine wp_ret ?_
    (try simp only [Exit.then, Exit.inBlock, ↓reduceIte, Nat.reduceEqDiff])
    refine BP.ret4 rfl rfl rfl rfl rfl ?_
    have he : openE a b c l (pn : Nat) (en : Nat) = 4 := by
      unfold openE
      rw [if_pos hok, if_pos (by omega), hm, hnm, if_neg hopen]
    exact ⟨fun h => by (rw [he] at h; cases h), fun k h1 _ => by (rw [he] at h1; subst h1; exact ⟨rfl, hH.chg⟩)⟩

theorem lset_getD0 (l : List UInt8) (v : UInt8) (h : 0 < l.length) : (l.set 0 v).getD 0 0 = v := by
  cases l with
  | nil => simp at h
  | cons x xs => rfl
theorem lowN_drop (l : List UInt8) (p i : Nat) : lowN (l.drop p) (i + 1) = lowN (l.drop p) i * 256 + (l.getD (p + i) 0).toNat := by
  rw [lowN_succ]; simp only [List.getD, List.getElem?_drop]

theorem docopen_calls (a b c s : ByteArray) (p e : Int) (w : World) (hl : s.size ≤ 65000) (hp1 : -9223372036854775808 ≤ p) (hp2 : p ≤ 9223372036854775807) : Ret Tryd.prog 15 #[.agg #[.string a, .string b, .string c], .string s, I64 p, I64 e] w fun v w' => (openE a b c s.data.toList p e = 0 → v = .tuple #[.string ⟨(opHead c s.data.toList p.toNat).toArray⟩, I64 (opNum c s.data.toList p.toNat e.toNat : Nat), .string ⟨(opOut a b c s.data.toList p.toNat e.toNat).toArray⟩, I64 (0 : Nat)] ∧ Chg [] w w') ∧ ∀ k, openE a b c s.data.toList p e = k → k ≠ 0 → v = .tuple #[.string ⟨#[]⟩, I64 (0 : Nat), .string ⟨#[]⟩, I64 (k : Nat)] ∧ Chg [] w w' := by
 have hsl : s.data.toList.length = s.size := by simp
 refine Ret.enter Tryd.func15 rfl ?_
 simp only [Tryd.ntmps15, fe, Nat.reduceAdd, Nat.reduceSub]
 have hH := Hp.start [] w
 refine wp_seq_k ?_
 intro K1 hK1
 refine wrt [.x 0, .p 1, .p 2, .p 3, .p 4] ?_
 refine plan_box rfl rfl hH rfl ?_
 clear hH
 intro b2 w3 hH
 (try simp only [nf, nh, Value.cells, arrB_set] at hH ⊢)
 refine pa (pka 0 (pa (pka 0 ?_)));simp only [nf]
 refine plan_nil hH ?_
 clear hH
 intro w4 hH
 refine hK1 _ _ ?_
 (try clear hK1 K1)
 refine wp_seq_k ?_
 intro K5 hK5
 refine wp_seq_k ?_
 intro K6 hK6
 refine wrt [.p 0, .p 1, .p 2, .p 3, .p 4, .p 5, .p 6, .p 7, .p 8, .p 9, .p 10, .q 11, .q 12, .p 13, .p 14] ?_
 refine pm ?_;simp only [nf]
 refine pp rfl rfl (pr_bin rfl rfl (by first | exact bin_lss_n (n := 1)  | exact bin_lss_i)) ?_;simp only [nf]
 refine pm ?_;simp only [nf]
 refine plan_pc_f rfl rfl rfl (fun hb => by have hb' := hb; try simp only [gsl] at hb'; rw [hb]; exact pr_move) ?_
 (try simp only [nf])
 refine plan_pc_f rfl rfl rfl (fun hb => by have hb' := hb; try simp only [gsl] at hb'; rw [hb]; exact (pr_bin rfl rfl (by first | exact bin_lss_n (n := 0)  | exact bin_lss_i))) ?_
 (try simp only [nf])
 refine pp rfl rfl (pr_pick_or rfl rfl rfl) ?_;simp only [nf]
 refine pm ?_;simp only [nf]
 refine plan_pc_f rfl rfl rfl (fun hb => by have hb' := hb; try simp only [gsl] at hb'; rw [hb]; exact pr_move) ?_
 (try simp only [nf])
 refine plan_pc_f rfl rfl rfl (fun hb => by have hb' := hb; try simp only [gsl] at hb'; rw [hb]; exact (pr_bin rfl rfl (by first | exact bin_gtr_n (n := 4611686018427387903)  | exact bin_gtr_i))) ?_
 (try simp only [nf])
 refine pp rfl rfl (pr_pick_or rfl rfl rfl) ?_;simp only [nf]
 refine pm ?_;simp only [nf]
 refine plan_qc_f rfl rfl rfl (fun hb => by have hb' := hb; try simp only [gsl] at hb'; rw [hb]; exact (qr_loadW rfl (hH.blk 0 rfl) Tryd.underlying30 rfl sz30 (by simp))) ?_
 (try simp only [nf])
 refine plan_qc_f rfl rfl rfl (fun hb => by have hb' := hb; try simp only [gsl] at hb'; rw [hb]; exact (qr_call cf24 (fun w' hw => docright_calls _ _ _ w') rfl)) ?_
 (try simp only [nf])
 refine plan_pc_f rfl rfl rfl (fun hb => by have hb' := hb; try simp only [gsl] at hb'; rw [hb]; exact (pr_not rfl)) ?_
 (try simp only [nf])
 refine pp rfl rfl (pr_pick_or rfl rfl rfl) ?_;simp only [nf]
 refine plan_nil hH ?_
 clear hH
 intro w7 hH
 refine hK6 _ _ ?_
 (try clear hK6 K6)
 refine wp_cond_split rfl (fun hc8 => ?_) (fun hc8 => ?_)
 ·
  (try simp only [cnd, gsl] at hc8)
  have hq := hc8
  refine wp_seq_k ?_
  intro K9 hK9
  refine wrt [.p 0, .p 1, .p 2, .p 3] ?_
  refine pa (pka 0 (pa (pka 1 ?_)));simp only [nf]
  refine plan_nil hH ?_
  clear hH
  intro w10 hH
  refine hK9 _ _ ?_
  (try clear hK9 K9)
  refine wp_ret ?_
  (try simp only [Exit.then, Exit.inBlock, ↓reduceIte, Nat.reduceEqDiff])
  refine BP.ret4 rfl rfl rfl rfl rfl ?_
  have he : openE a b c s.data.toList p e = 1 := by
    unfold openE
    rw [if_neg (fun h => by (obtain ⟨h1, h2, h3, h5⟩ := h; rcases hq with ((hq | hq) | hq) | hq <;> first | omega | (rw [h5] at hq; cases hq)))]
  exact ⟨fun h => by (rw [he] at h; cases h), fun k h1 _ => by (rw [he] at h1; subst h1; exact ⟨rfl, hH.chg⟩)⟩
 ·
  (try simp only [cnd, gsl] at hc8)
  have hq := hc8
  have hok : 1 ≤ p ∧ 0 ≤ e ∧ e ≤ 4611686018427387903 ∧ rightB a b c = true := ⟨by omega, by omega, by omega, hq.2⟩
  obtain ⟨ha, hb, hc⟩ := rightB_is hok.2.2.2
  obtain ⟨pn, rfl⟩ : ∃ k : Nat, p = k := ⟨p.toNat, by omega⟩
  obtain ⟨en, rfl⟩ : ∃ k : Nat, e = k := ⟨e.toNat, by omega⟩
  have hm : ((pn : Nat) : Int).toNat = pn := by omega
  have hnm : ((en : Nat) : Int).toNat = en := by omega
  refine wp_skip ?_
  refine hK5 _ _ ?_
  (try clear hK5 K5)
  refine wp_seq_k ?_
  intro K11 hK11
  refine wp_seq_k ?_
  intro K12 hK12
  refine wrt [.p 0, .p 1, .p 2, .p 3, .p 4, .p 5, .p 6, .p 7, .p 8, .p 9, .p 10] ?_
  refine pm (pm ?_);simp only [nf]
  refine pp rfl rfl (pr_len_str rfl Tryd.underlying9) ?_;simp only [nf]
  refine pp rfl rfl (pr_bin rfl rfl (by first | exact bin_gtr_n  | exact bin_gtr_i)) ?_;simp only [nf]
  refine pm ?_;simp only [nf]
  refine plan_pc_f rfl rfl rfl (fun hb => by have hb' := hb; try simp only [gsl] at hb'; rw [hb]; exact pr_move) ?_
  (try simp only [nf])
  refine plan_pc_f rfl rfl rfl (fun hb => by have hb' := hb; try simp only [gsl] at hb'; rw [hb]; exact (pr_len_str rfl Tryd.underlying9)) ?_
  (try simp only [nf])
  refine plan_pc_f rfl rfl rfl (fun hb => by have hb' := hb; try simp only [gsl] at hb'; rw [hb]; exact pr_move) ?_
  (try simp only [nf])
  refine plan_pc_f rfl rfl rfl (fun hb => by have hb' := hb; try simp only [gsl] at hb'; rw [hb]; exact (pr_bin rfl rfl (by first | exact bin_sub_n (by first | omega | (first | (have := lt_u8 ((hideL s.data.toList (maskL c.data.toList s.data.toList pn) pn 0).getD 0 0); omega) | (rw [bsz]; simp only [hideL_len]; omega) | (rw [bsz]; omega) | (have := lt_u8 ((opBare c s.data.toList pn).getD (pn + i) 0); omega))) (by first | omega | (first | (have := lt_u8 ((hideL s.data.toList (maskL c.data.toList s.data.toList pn) pn 0).getD 0 0); omega) | (rw [bsz]; simp only [hideL_len]; omega) | (rw [bsz]; omega) | (have := lt_u8 ((opBare c s.data.toList pn).getD (pn + i) 0); omega))) | exact bin_sub_i (by first | omega | (first | (have := lt_u8 ((hideL s.data.toList (maskL c.data.toList s.data.toList pn) pn 0).getD 0 0); omega) | (rw [bsz]; simp only [hideL_len]; omega) | (rw [bsz]; omega) | (have := lt_u8 ((opBare c s.data.toList pn).getD (pn + i) 0); omega))) (by first | omega | (first | (have := lt_u8 ((hideL s.data.toList (maskL c.data.toList s.data.toList pn) pn 0).getD 0 0); omega) | (rw [bsz]; simp only [hideL_len]; omega) | (rw [bsz]; omega) | (have := lt_u8 ((opBare c s.data.toList pn).getD (pn + i) 0); omega)))))) ?_
  (try simp only [nf])
  refine plan_pc_f rfl rfl rfl (fun hb => by have hb' := hb; try simp only [gsl] at hb'; rw [hb]; exact (pr_bin rfl rfl (by first | exact bin_lss_n (n := 20)  | exact bin_lss_i))) ?_
  (try simp only [nf])
  refine pp rfl rfl (pr_pick_or rfl rfl rfl) ?_;simp only [nf]
  refine plan_nil hH ?_
  clear hH
  intro w13 hH
  refine hK12 _ _ ?_
  (try clear hK12 K12)
  refine wp_cond_split rfl (fun hc14 => ?_) (fun hc14 => ?_)
  ·
   (try simp only [cnd, gsl] at hc14)
   have ht := hc14
   refine wp_seq_k ?_
   intro K15 hK15
   refine wrt [.p 0, .p 1, .p 2, .p 3] ?_
   refine pa (pka 0 (pa (pka 3 ?_)));simp only [nf]
   refine plan_nil hH ?_
   clear hH
   intro w16 hH
   refine hK15 _ _ ?_
   (try clear hK15 K15)
   refine wp_ret ?_
   (try simp only [Exit.then, Exit.inBlock, ↓reduceIte, Nat.reduceEqDiff])
   refine BP.ret4 rfl rfl rfl rfl rfl ?_
   have he : openE a b c s.data.toList (pn : Nat) (en : Nat) = 3 := by
     unfold openE
     rw [if_pos hok, if_neg (by omega)]
   exact ⟨fun h => by (rw [he] at h; cases h), fun k h1 _ => by (rw [he] at h1; subst h1; exact ⟨rfl, hH.chg⟩)⟩
  ·
   (try simp only [cnd, gsl] at hc14)
   have ht := hc14
   have hlen : pn + 20 ≤ s.size := by omega
   obtain ⟨hz1, hz2⟩ := opSz_lo c s.data.toList pn
   obtain ⟨hw1, hw2, hw3⟩ := pow_size (opSz c s.data.toList pn) hz1 hz2
   have hbl := opBare_len c s.data.toList pn
   have hrl := opRest_len c s.data.toList pn
   have hlw := lowN_lt ((opBare c s.data.toList pn).drop pn) (opSz c s.data.toList pn)
   have hnb : opNum c s.data.toList pn en < 9223372036854775808 := whole_lt _ _ _ hz1 hz2 hlw (by omega)
   have hcut := low_cut (opBare c s.data.toList pn) pn (opSz c s.data.toList pn) (by omega)
   refine wp_skip ?_
   refine hK11 _ _ ?_
   (try clear hK11 K11)
   refine wp_seq_k ?_
   intro K17 hK17
   refine wrt [.q 0, .p 1, .p 2, .q 3, .p 4, .p 5, .p 6, .p 7, .p 8] ?_
   refine pq rfl rfl (qr_loadW rfl (hH.blk 0 rfl) Tryd.underlying30 rfl sz30 (by simp)) ?_;simp only [nf]
   refine pm (pm ?_);simp only [nf]
   refine pq rfl rfl (qr_call cf26 (fun w' hw => masked_calls a b c s pn 0 w' hc (by omega) (by omega) (by omega)) rfl) ?_;simp only [nf]
   refine pp rfl rfl (pr_index_strD (i := 0) rfl rfl Tryd.underlying9 (by first | omega | (first | (have := lt_u8 ((hideL s.data.toList (maskL c.data.toList s.data.toList pn) pn 0).getD 0 0); omega) | (rw [bsz]; simp only [hideL_len]; omega) | (rw [bsz]; omega) | (have := lt_u8 ((opBare c s.data.toList pn).getD (pn + i) 0); omega)))) ?_;simp only [nf]
   refine pp rfl rfl (pr_conv rfl (cnv_u8_n _ Tryd.underlying5 Tryd.underlying3)) ?_;simp only [nf]
   refine pp rfl rfl (pr_bin rfl rfl (by first | exact bin_rem_n (n := 4) (by first | omega | (first | (have := lt_u8 ((hideL s.data.toList (maskL c.data.toList s.data.toList pn) pn 0).getD 0 0); omega) | (rw [bsz]; simp only [hideL_len]; omega) | (rw [bsz]; omega) | (have := lt_u8 ((opBare c s.data.toList pn).getD (pn + i) 0); omega))))) ?_;simp only [nf]
   refine pp rfl rfl (pr_bin rfl rfl (by first | exact bin_add_n (n := 1) (by first | omega | (first | (have := lt_u8 ((hideL s.data.toList (maskL c.data.toList s.data.toList pn) pn 0).getD 0 0); omega) | (rw [bsz]; simp only [hideL_len]; omega) | (rw [bsz]; omega) | (have := lt_u8 ((opBare c s.data.toList pn).getD (pn + i) 0); omega))) | exact bin_add_i (by first | omega | (first | (have := lt_u8 ((hideL s.data.toList (maskL c.data.toList s.data.toList pn) pn 0).getD 0 0); omega) | (rw [bsz]; simp only [hideL_len]; omega) | (rw [bsz]; omega) | (have := lt_u8 ((opBare c s.data.toList pn).getD (pn + i) 0); omega))) (by first | omega | (first | (have := lt_u8 ((hideL s.data.toList (maskL c.data.toList s.data.toList pn) pn 0).getD 0 0); omega) | (rw [bsz]; simp only [hideL_len]; omega) | (rw [bsz]; omega) | (have := lt_u8 ((opBare c s.data.toList pn).getD (pn + i) 0); omega))))) ?_;simp only [nf]
   refine pa ?_;simp only [nf]
   refine plan_nil hH ?_
   clear hH
   intro w18 hH
   have hsz : ((hideL s.data.toList (maskL c.data.toList s.data.toList pn) pn 0).getD 0 0).toNat % 4 + 1 = opSz c s.data.toList pn := by
     unfold opSz hideL
     rw [lset_getD0 _ _ (by omega), u8_and3]
   rw [hsz]
   refine hK17 _ _ ?_
   (try clear hK17 K17)
   refine wp_seq_k ?_
   intro K19 hK19
   refine wrt [.q 0, .p 1, .p 2, .p 3, .q 4, .p 5] ?_
   refine pq rfl rfl (qr_loadW rfl (hH.blk 0 rfl) Tryd.underlying30 rfl sz30 (by simp)) ?_;simp only [nf]
   refine pm (pm (pm ?_));simp only [nf]
   refine pq rfl rfl (qr_call cf26 (fun w' hw => masked_calls a b c s pn (opSz c s.data.toList pn) w' hc (by omega) (by omega) (by omega)) rfl) ?_;simp only [nf]
   refine pa ?_;simp only [nf]
   refine plan_nil hH ?_
   clear hH
   intro w20 hH
   have hbare : hideL s.data.toList (maskL c.data.toList s.data.toList pn) pn (opSz c s.data.toList pn) = opBare c s.data.toList pn := rfl
   rw [hbare]
   refine hK19 _ _ ?_
   (try clear hK19 K19)
   refine wp_seq_k ?_
   intro K21 hK21
   refine wrt [.p 0] ?_
   refine pka 0 ?_;simp only [nf]
   refine plan_nil hH ?_
   clear hH
   intro w22 hH
   refine hK21 _ _ ?_
   (try clear hK21 K21)
   refine wp_seq_k ?_
   intro K23 hK23
   refine wp_seq_k ?_
   intro K24 hK24
   refine wrt [.p 0] ?_
   refine pka 0 ?_;simp only [nf]
   refine plan_nil hH ?_
   clear hH
   intro w25 hH
   refine hK24 _ _ ?_
   (try clear hK24 K24)
   refine wp_block ?_
   obtain ⟨kc26, hkc27, hN⟩ := hH.name 0 rfl
   replace hH := hN; clear hN; simp only [List.set_cons_zero, List.set_cons_succ] at hH
   refine wp_loopT [14, 15] [60, 61, 62, 63, 64, 65, 66, 67, 68, 69, 70, 71, 72, 73] (fun (n28 : Nat) (vs : List Value) (w' : World) => ∃ (i : Nat), vs = [I64 (lowN ((opBare c s.data.toList pn).drop pn) i : Nat), I64 (i : Nat)] ∧ Hp [] w w' [(some b2, 30, kc26)] ∧ n28 = opSz c s.data.toList pn - i ∧ i ≤ opSz c s.data.toList pn) (opSz c s.data.toList pn - 0) (by kernel_rfl) ?_ ?_
   ·
    simp only [ga]
    refine ⟨0, rfl, ?_, rfl, ?_⟩
    ·
     exact hH
    · first | omega | (omega)
   clear hH
   intro n28 vs29 w30 hR31 d0
   obtain ⟨i, rfl, hH, hn32, hf33⟩ := hR31
   simp only [putAll, putD, List.set_cons_zero, List.set_cons_succ, Nat.zero_add, Nat.reduceAdd]
   have hl32 := lowN_32 ((opBare c s.data.toList pn).drop pn) i (by omega)
   subst hkc27
   refine wp_seq_k ?_
   intro K34 hK34
   refine wp_seq_k ?_
   intro K35 hK35
   refine wrt [.p 0, .p 1, .p 2] ?_
   refine pm (pm ?_);simp only [nf]
   refine pp rfl rfl (pr_bin rfl rfl (by first | exact bin_lss_n  | exact bin_lss_i)) ?_;simp only [nf]
   refine plan_nil hH ?_
   clear hH
   intro w36 hH
   refine hK35 _ _ ?_
   (try clear hK35 K35)
   refine wp_cond_split rfl (fun hc37 => ?_) (fun hc37 => ?_)
   ·
    (try simp only [cnd, gsl] at hc37)
    refine wp_skip ?_
    refine hK34 _ _ ?_
    (try clear hK34 K34)
    refine wp_seq_k ?_
    intro K38 hK38
    refine wp_block ?_
    refine wrt [.p 0, .p 1, .p 2, .p 3, .p 4, .p 5, .p 6, .p 7, .p 8, .p 9] ?_
    refine pm ?_;simp only [nf]
    refine pp rfl rfl (pr_bin rfl rfl (bin_shl_n (c := 8) (by decide) (by first | omega | (first | (have := lt_u8 ((hideL s.data.toList (maskL c.data.toList s.data.toList pn) pn 0).getD 0 0); omega) | (rw [bsz]; simp only [hideL_len]; omega) | (rw [bsz]; omega) | (have := lt_u8 ((opBare c s.data.toList pn).getD (pn + i) 0); omega))))) ?_;simp only [nf]
    refine pm (pm (pm ?_));simp only [nf]
    refine pp rfl rfl (pr_bin rfl rfl (by first | exact bin_add_n (by first | omega | (first | (have := lt_u8 ((hideL s.data.toList (maskL c.data.toList s.data.toList pn) pn 0).getD 0 0); omega) | (rw [bsz]; simp only [hideL_len]; omega) | (rw [bsz]; omega) | (have := lt_u8 ((opBare c s.data.toList pn).getD (pn + i) 0); omega))) | exact bin_add_i (by first | omega | (first | (have := lt_u8 ((hideL s.data.toList (maskL c.data.toList s.data.toList pn) pn 0).getD 0 0); omega) | (rw [bsz]; simp only [hideL_len]; omega) | (rw [bsz]; omega) | (have := lt_u8 ((opBare c s.data.toList pn).getD (pn + i) 0); omega))) (by first | omega | (first | (have := lt_u8 ((hideL s.data.toList (maskL c.data.toList s.data.toList pn) pn 0).getD 0 0); omega) | (rw [bsz]; simp only [hideL_len]; omega) | (rw [bsz]; omega) | (have := lt_u8 ((opBare c s.data.toList pn).getD (pn + i) 0); omega))))) ?_;simp only [nf]
    refine pp rfl rfl (pr_index_strD rfl rfl Tryd.underlying9 (by first | omega | (first | (have := lt_u8 ((hideL s.data.toList (maskL c.data.toList s.data.toList pn) pn 0).getD 0 0); omega) | (rw [bsz]; simp only [hideL_len]; omega) | (rw [bsz]; omega) | (have := lt_u8 ((opBare c s.data.toList pn).getD (pn + i) 0); omega)))) ?_;simp only [nf]
    refine pp rfl rfl (pr_conv rfl (cnv_u8_n _ Tryd.underlying5 Tryd.underlying3)) ?_;simp only [nf]
    refine pp rfl rfl (pr_bin rfl rfl (by first | exact bin_add_n (by first | omega | (first | (have := lt_u8 ((hideL s.data.toList (maskL c.data.toList s.data.toList pn) pn 0).getD 0 0); omega) | (rw [bsz]; simp only [hideL_len]; omega) | (rw [bsz]; omega) | (have := lt_u8 ((opBare c s.data.toList pn).getD (pn + i) 0); omega))) | exact bin_add_i (by first | omega | (first | (have := lt_u8 ((hideL s.data.toList (maskL c.data.toList s.data.toList pn) pn 0).getD 0 0); omega) | (rw [bsz]; simp only [hideL_len]; omega) | (rw [bsz]; omega) | (have := lt_u8 ((opBare c s.data.toList pn).getD (pn + i) 0); omega))) (by first | omega | (first | (have := lt_u8 ((hideL s.data.toList (maskL c.data.toList s.data.toList pn) pn 0).getD 0 0); omega) | (rw [bsz]; simp only [hideL_len]; omega) | (rw [bsz]; omega) | (have := lt_u8 ((opBare c s.data.toList pn).getD (pn + i) 0); omega))))) ?_;simp only [nf]
    refine pa ?_;simp only [nf]
    refine plan_nil hH ?_
    clear hH
    intro w39 hH
    refine hK38 _ _ ?_
    (try clear hK38 K38)
    refine wrt [.p 0, .p 1, .p 2] ?_
    refine pm ?_;simp only [nf]
    refine pp rfl rfl (pr_bin rfl rfl (by first | exact bin_add_n (n := 1) (by first | omega | (first | (have := lt_u8 ((hideL s.data.toList (maskL c.data.toList s.data.toList pn) pn 0).getD 0 0); omega) | (rw [bsz]; simp only [hideL_len]; omega) | (rw [bsz]; omega) | (have := lt_u8 ((opBare c s.data.toList pn).getD (pn + i) 0); omega))) | exact bin_add_i (by first | omega | (first | (have := lt_u8 ((hideL s.data.toList (maskL c.data.toList s.data.toList pn) pn 0).getD 0 0); omega) | (rw [bsz]; simp only [hideL_len]; omega) | (rw [bsz]; omega) | (have := lt_u8 ((opBare c s.data.toList pn).getD (pn + i) 0); omega))) (by first | omega | (first | (have := lt_u8 ((hideL s.data.toList (maskL c.data.toList s.data.toList pn) pn 0).getD 0 0); omega) | (rw [bsz]; simp only [hideL_len]; omega) | (rw [bsz]; omega) | (have := lt_u8 ((opBare c s.data.toList pn).getD (pn + i) 0); omega))))) ?_;simp only [nf]
    refine pa ?_;simp only [nf]
    refine plan_nil hH ?_
    clear hH
    intro w40 hH
    (try simp only [Exit.then, Exit.inBlock, ↓reduceIte, Nat.reduceEqDiff])
    rw [show lowN ((opBare c s.data.toList pn).drop pn) i * 2 ^ 8 + ((opBare c s.data.toList pn).getD (pn + i) 0).toNat = lowN ((opBare c s.data.toList pn).drop pn) (i + 1) from (lowN_drop _ _ _).symm]
    refine ⟨opSz c s.data.toList pn - (i + 1), ?_, _, rfl, by kernel_rfl, ?_⟩
    · first | omega | (omega)
    simp only [ga]
    refine ⟨i + 1, rfl, ?_, rfl, ?_⟩
    ·
     exact hH
    · first | omega | (omega)
   ·
    (try simp only [cnd, gsl] at hc37)
    obtain rfl : i = opSz c s.data.toList pn := by omega
    refine wp_exit ?_
    (try simp only [Exit.then, Exit.inBlock, ↓reduceIte, Nat.reduceEqDiff])
    refine hK23 _ _ ?_
    (try clear hK23 K23)
    refine wp_seq_k ?_
    intro K41 hK41
    refine wrt [.p 0, .p 1, .p 2, .q 3, .p 4, .p 5, .p 6, .p 7, .p 8] ?_
    refine pm (pm (pm ?_));simp only [nf]
    refine pq rfl rfl (qr_call cf33 (fun w' hw => docwhole_calls _ _ en w' hz1 hz2 hlw (by omega)) rfl) ?_;simp only [nf]
    refine pm ?_;simp only [nf]
    refine pp rfl rfl (pr_extract rfl rfl) ?_;simp only [nf]
    refine pp rfl rfl (pr_extract rfl rfl) ?_;simp only [nf]
    refine pa (pa ?_);simp only [nf]
    refine plan_nil hH ?_
    clear hH
    intro w42 hH
    have hnum : wholeN (lowN ((opBare c s.data.toList pn).drop pn) (opSz c s.data.toList pn)) (opSz c s.data.toList pn) en = opNum c s.data.toList pn en := rfl
    rw [hnum]
    refine hK41 _ _ ?_
    (try clear hK41 K41)
    refine wp_seq_k ?_
    intro K43 hK43
    refine wrt [.p 0, .p 1, .p 2, .p 3, .p 4, .p 5] ?_
    refine pm (pm (pm ?_));simp only [nf]
    refine pp rfl rfl (pr_bin rfl rfl (by first | exact bin_add_n (by first | omega | (first | (have := lt_u8 ((hideL s.data.toList (maskL c.data.toList s.data.toList pn) pn 0).getD 0 0); omega) | (rw [bsz]; simp only [hideL_len]; omega) | (rw [bsz]; omega) | (have := lt_u8 ((opBare c s.data.toList pn).getD (pn + i) 0); omega))) | exact bin_add_i (by first | omega | (first | (have := lt_u8 ((hideL s.data.toList (maskL c.data.toList s.data.toList pn) pn 0).getD 0 0); omega) | (rw [bsz]; simp only [hideL_len]; omega) | (rw [bsz]; omega) | (have := lt_u8 ((opBare c s.data.toList pn).getD (pn + i) 0); omega))) (by first | omega | (first | (have := lt_u8 ((hideL s.data.toList (maskL c.data.toList s.data.toList pn) pn 0).getD 0 0); omega) | (rw [bsz]; simp only [hideL_len]; omega) | (rw [bsz]; omega) | (have := lt_u8 ((opBare c s.data.toList pn).getD (pn + i) 0); omega))))) ?_;simp only [nf]
    refine pp rfl rfl (pr_slice_str_h rfl rfl Tryd.underlying9 (by first | omega | (first | (have := lt_u8 ((hideL s.data.toList (maskL c.data.toList s.data.toList pn) pn 0).getD 0 0); omega) | (rw [bsz]; simp only [hideL_len]; omega) | (rw [bsz]; omega) | (have := lt_u8 ((opBare c s.data.toList pn).getD (pn + i) 0); omega)))) ?_;simp only [nf]
    refine pa ?_;simp only [nf]
    refine plan_nil hH ?_
    clear hH
    intro w44 hH
    refine hK43 _ _ ?_
    (try clear hK43 K43)
    refine wp_seq_k ?_
    intro K45 hK45
    by_cases hopen : opOk a b c s.data.toList pn en
    ·
     refine wrp [.p 0, .p 2, .p 4, .p 6, .p 7, .p 8, .p 9, .p 10, .p 11, .q 1, .q 3, .q 5, .q 12, .p 13, .p 14, .p 15, .p 16, .p 17] ?_
     refine pp rfl rfl (pr_fieldAddr 0 rfl Tryd.underlying30 rfl rfl sz9) ?_;simp only [nf]
     refine pp rfl rfl (pr_fieldAddr 1 rfl Tryd.underlying30 rfl rfl sz9) ?_;simp only [nf]
     refine pm (pm (pm (pm (pm ?_))));simp only [nf]
     refine pp rfl rfl (pr_bin rfl rfl (by first | exact bin_add_n (by first | omega | (first | (have := lt_u8 ((hideL s.data.toList (maskL c.data.toList s.data.toList pn) pn 0).getD 0 0); omega) | (rw [bsz]; simp only [hideL_len]; omega) | (rw [bsz]; omega) | (have := lt_u8 ((opBare c s.data.toList pn).getD (pn + i) 0); omega))) | exact bin_add_i (by first | omega | (first | (have := lt_u8 ((hideL s.data.toList (maskL c.data.toList s.data.toList pn) pn 0).getD 0 0); omega) | (rw [bsz]; simp only [hideL_len]; omega) | (rw [bsz]; omega) | (have := lt_u8 ((opBare c s.data.toList pn).getD (pn + i) 0); omega))) (by first | omega | (first | (have := lt_u8 ((hideL s.data.toList (maskL c.data.toList s.data.toList pn) pn 0).getD 0 0); omega) | (rw [bsz]; simp only [hideL_len]; omega) | (rw [bsz]; omega) | (have := lt_u8 ((opBare c s.data.toList pn).getD (pn + i) 0); omega))))) ?_;simp only [nf]
     refine pp rfl rfl (pr_slice_str_l rfl rfl Tryd.underlying9 (by first | omega | (first | (have := lt_u8 ((hideL s.data.toList (maskL c.data.toList s.data.toList pn) pn 0).getD 0 0); omega) | (rw [bsz]; simp only [hideL_len]; omega) | (rw [bsz]; omega) | (have := lt_u8 ((opBare c s.data.toList pn).getD (pn + i) 0); omega)))) ?_;simp only [nf]
     refine pq rfl rfl (qr_load1 rfl Tryd.underlying9 rfl ((hH.blk 0 rfl).cell rfl)) ?_;simp only [nf]
     refine pq rfl rfl (qr_load1 rfl Tryd.underlying9 rfl ((hH.blk 0 rfl).cell rfl)) ?_;simp only [nf]
     refine pq rfl rfl (qr_call cf25 (fun w' hw => docnonce_calls _ _ w' hb hnb) rfl) ?_;simp only [nf]
     refine pq rfl rfl (qr_call cf34 (fun w' hw => refOpen_calls a ⟨(nonL b.data.toList (opNum c s.data.toList pn en) 8).toArray⟩ ((⟨(opBare c s.data.toList pn).toArray⟩ : ByteArray).extract 0 (pn + opSz c s.data.toList pn)) ((⟨(opBare c s.data.toList pn).toArray⟩ : ByteArray).extract (pn + opSz c s.data.toList pn) (⟨(opBare c s.data.toList pn).toArray⟩ : ByteArray).size) w' (by simpa using ha) (by rw [bsz, nonL_len]; simpa using hb) (by rw [ByteArray.size_extract, bsz]; omega) (by rw [ByteArray.size_extract, bsz]; omega) (by rw [ByteArray.size_extract, bsz]; omega) (by rw [cut_take, cut_drop]; exact hopen)) rfl) ?_;simp only [nf]
     refine pm ?_;simp only [nf]
     refine pp rfl rfl (pr_extract rfl rfl) ?_;simp only [nf]
     refine pp rfl rfl (pr_extract rfl rfl) ?_;simp only [nf]
     refine pa (pa ?_);simp only [nf]
     refine plan_nil hH ?_
     clear hH
     intro w46 hH
     have hrest : ((⟨(opBare c s.data.toList pn).toArray⟩ : ByteArray).extract (pn + opSz c s.data.toList pn) (⟨(opBare c s.data.toList pn).toArray⟩ : ByteArray).size).data.toList = opRest c s.data.toList pn := by rw [cut_drop]; rfl
     have hhead : (⟨(opBare c s.data.toList pn).toArray⟩ : ByteArray).extract 0 (pn + opSz c s.data.toList pn) = ⟨(opHead c s.data.toList pn).toArray⟩ := str_of (by rw [cut_take]; rfl)
     rw [hrest, hhead]
     refine hK45 _ _ ?_
     (try clear hK45 K45)
     refine wp_seq_k ?_
     intro K47 hK47
     refine wp_seq_k ?_
     intro K48 hK48
     refine wrt [.p 0, .p 1, .p 2, .p 3, .p 4, .p 5, .p 6] ?_
     refine pm ?_;simp only [nf]
     refine pp rfl rfl (pr_bin rfl rfl (by first | exact bin_neq_n (n := 0)  | exact bin_neq_i)) ?_;simp only [nf]
     refine plan_p (v := BV false) rfl rfl (pr_move_v rfl) ?_
     (try simp only [nf])
     refine pp rfl rfl pr_move ?_;simp only [nf]
     refine pp rfl rfl (pr_len_str rfl Tryd.underlying9) ?_;simp only [nf]
     refine pp rfl rfl (pr_bin rfl rfl (by first | exact bin_gtr_n (n := 65000)  | exact bin_gtr_i)) ?_;simp only [nf]
     refine pp rfl rfl (pr_pick_f rfl) ?_;simp only [nf]
     refine plan_nil hH ?_
     clear hH
     intro w49 hH
     refine hK48 _ _ ?_
     (try clear hK48 K48)
     refine wp_cond_false (by show BV _ = _; exact congrArg BV (decide_eq_false (by rw [bsz, hidL_len, List.length_take]; omega))) ?_
     refine wp_skip ?_
     refine hK47 _ _ ?_
     (try clear hK47 K47)
     refine wp_seq_k ?_
     intro K50 hK50
     refine wrt [.p 0, .p 1, .p 2, .p 3, .p 4, .p 5, .p 6] ?_
     refine pm (pm (pm (pa (pa (pa ?_)))));simp only [nf]
     refine pka 0 ?_;simp only [nf]
     refine plan_nil hH ?_
     clear hH
     intro w51 hH
     refine hK50 _ _ ?_
     (try clear hK50 K50)
     refine wp_ret ?_
     (try simp only [Exit.then, Exit.inBlock, ↓reduceIte, Nat.reduceEqDiff])
     refine BP.ret4 rfl rfl rfl rfl rfl ?_
     have he : openE a b c s.data.toList (pn : Nat) (en : Nat) = 0 := by
       unfold openE
       rw [if_pos hok, if_pos (by omega), hm, hnm, if_pos hopen]
     exact ⟨fun _ => ⟨by rw [hm, hnm]; rfl, hH.chg⟩, fun e h1 h2 => absurd (h1.symm.trans he) h2⟩
    ·
     refine wrp [.p 0, .p 2, .p 4, .p 6, .p 7, .p 8, .p 9, .p 10, .p 11, .q 1, .q 3, .q 5, .q 12, .p 13, .p 14, .p 15, .p 16, .p 17] ?_
     refine pp rfl rfl (pr_fieldAddr 0 rfl Tryd.underlying30 rfl rfl sz9) ?_;simp only [nf]
     refine pp rfl rfl (pr_fieldAddr 1 rfl Tryd.underlying30 rfl rfl sz9) ?_;simp only [nf]
     refine pm (pm (pm (pm (pm ?_))));simp only [nf]
     refine pp rfl rfl (pr_bin rfl rfl (by first | exact bin_add_n (by first | omega | (first | (have := lt_u8 ((hideL s.data.toList (maskL c.data.toList s.data.toList pn) pn 0).getD 0 0); omega) | (rw [bsz]; simp only [hideL_len]; omega) | (rw [bsz]; omega) | (have := lt_u8 ((opBare c s.data.toList pn).getD (pn + i) 0); omega))) | exact bin_add_i (by first | omega | (first | (have := lt_u8 ((hideL s.data.toList (maskL c.data.toList s.data.toList pn) pn 0).getD 0 0); omega) | (rw [bsz]; simp only [hideL_len]; omega) | (rw [bsz]; omega) | (have := lt_u8 ((opBare c s.data.toList pn).getD (pn + i) 0); omega))) (by first | omega | (first | (have := lt_u8 ((hideL s.data.toList (maskL c.data.toList s.data.toList pn) pn 0).getD 0 0); omega) | (rw [bsz]; simp only [hideL_len]; omega) | (rw [bsz]; omega) | (have := lt_u8 ((opBare c s.data.toList pn).getD (pn + i) 0); omega))))) ?_;simp only [nf]
     refine pp rfl rfl (pr_slice_str_l rfl rfl Tryd.underlying9 (by first | omega | (first | (have := lt_u8 ((hideL s.data.toList (maskL c.data.toList s.data.toList pn) pn 0).getD 0 0); omega) | (rw [bsz]; simp only [hideL_len]; omega) | (rw [bsz]; omega) | (have := lt_u8 ((opBare c s.data.toList pn).getD (pn + i) 0); omega)))) ?_;simp only [nf]
     refine pq rfl rfl (qr_load1 rfl Tryd.underlying9 rfl ((hH.blk 0 rfl).cell rfl)) ?_;simp only [nf]
     refine pq rfl rfl (qr_load1 rfl Tryd.underlying9 rfl ((hH.blk 0 rfl).cell rfl)) ?_;simp only [nf]
     refine pq rfl rfl (qr_call cf25 (fun w' hw => docnonce_calls _ _ w' hb hnb) rfl) ?_;simp only [nf]
     refine pq rfl rfl (qr_call cf34 (fun w' hw => refOpen_wrong a ⟨(nonL b.data.toList (opNum c s.data.toList pn en) 8).toArray⟩ ((⟨(opBare c s.data.toList pn).toArray⟩ : ByteArray).extract 0 (pn + opSz c s.data.toList pn)) ((⟨(opBare c s.data.toList pn).toArray⟩ : ByteArray).extract (pn + opSz c s.data.toList pn) (⟨(opBare c s.data.toList pn).toArray⟩ : ByteArray).size) w' (by simpa using ha) (by rw [bsz, nonL_len]; simpa using hb) (by rw [ByteArray.size_extract, bsz]; omega) (by rw [ByteArray.size_extract, bsz]; omega) (by rw [ByteArray.size_extract, bsz]; omega) (by rw [cut_take, cut_drop]; exact hopen)) rfl) ?_;simp only [nf]
     refine pm ?_;simp only [nf]
     refine pp rfl rfl (pr_extract rfl rfl) ?_;simp only [nf]
     refine pp rfl rfl (pr_extract rfl rfl) ?_;simp only [nf]
     refine pa (pa ?_);simp only [nf]
     refine plan_nil hH ?_
     clear hH
     intro w52 hH
     refine hK45 _ _ ?_
     (try clear hK45 K45)
     refine wp_seq_k ?_
     intro K53 hK53
     refine wp_seq_k ?_
     intro K54 hK54
     refine wrt [.p 0, .p 1, .p 2, .p 3, .p 4, .p 5, .p 6] ?_
     refine pm ?_;simp only [nf]
     refine pp rfl rfl (pr_bin rfl rfl (by first | exact bin_neq_n (n := 0)  | exact bin_neq_i)) ?_;simp only [nf]
     refine plan_p (v := BV true) rfl rfl (pr_move_v rfl) ?_
     (try simp only [nf])
     refine plan_ps rfl rfl ?_
     (try simp only [nf])
     refine plan_ps rfl rfl ?_
     (try simp only [nf])
     refine plan_ps rfl rfl ?_
     (try simp only [nf])
     refine pp rfl rfl (pr_pick_t rfl) ?_;simp only [nf]
     refine plan_nil hH ?_
     clear hH
     intro w55 hH
     refine hK54 _ _ ?_
     (try clear hK54 K54)
     refine wp_cond_true rfl ?_
     refine wp_seq_k ?_
     intro K56 hK56
     refine wrt [.p 0, .p 1, .p 2, .p 3] ?_
     refine pa (pka 0 (pa (pka 4 ?_)));simp only [nf]
     refine plan_nil hH ?_
     clear hH
     intro w57 hH
     refine hK56 _ _ ?_
     (try clear hK56 K56)
     refine wp_ret ?_
     (try simp only [Exit.then, Exit.inBlock, ↓reduceIte, Nat.reduceEqDiff])
     refine BP.ret4 rfl rfl rfl rfl rfl ?_
     have he : openE a b c s.data.toList (pn : Nat) (en : Nat) = 4 := by
       unfold openE
       rw [if_pos hok, if_pos (by omega), hm, hnm, if_neg hopen]
     exact ⟨fun h => by (rw [he] at h; cases h), fun k h1 _ => by (rw [he] at h1; subst h1; exact ⟨rfl, hH.chg⟩)⟩

end Go.Proofs.YtmoaddicejohgaaDoor
