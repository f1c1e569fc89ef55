/- Packed: Sha1, Sha2, Conv, Hkdf, Fx, Guard, Join, ForkN, Bits, Vlq0, Gcm0, Gcm1, Mach, Plus, Obj, MachC, Field0, as far as shakeWordsCard_holds, shakeAgreesCard_holds needs them. No conditions but those that stand in the statements. -/
import Derived.Test.YtomjbepgbnbgmaaDoorSw0
import Derived.Lib.ConvBytes
set_option linter.unusedSimpArgs false
set_option linter.unusedVariables false
set_option maxRecDepth 100000
set_option maxHeartbeats 4000000
namespace Go.Proofs.YtomjbepgbnbgmaaDoor
open Go
open List (getD_cons_zero getD_cons_succ set_cons_zero set_cons_succ)
def gZ (l:List UInt8):Nat→Nat→UInt32
  |0=>CO
  |k+1=>q9 (gZ l k) fun i=>l.getD (64*k+i) 0
theorem og (l:List UInt8) (k:Nat):q9 (gZ l k) (fun i=>(l.drop (64*k)).getD i 0)=gZ l (k+1):=by
  show _=q9 (gZ l k) fun i=>l.getD (64*k+i) 0;congr 1;funext i;simp only[List.getD,List.getElem?_drop]
theorem uN {p q:Nat→UInt8} (h:∀i,i<64→p i=q i):∀n,n<64→eG p n=eG q n:=by
  intro n;induction n using Nat.strongRecOn with
  |ind n ih=>
    intro hn;by_cases h16:n<16
    · rw[rT _ h16,rT _ h16]
      unfold rb;rw[h _ (by omega),h _ (by omega),h _ (by omega),h _ (by omega)]
    · rw[rX _ h16,rX _ h16,ih _ (by omega) (by omega),ih _ (by omega) (by omega),ih _ (by omega) (by omega),ih _ (by omega) (by omega)]
theorem pQ {r w w':Nat→UInt32}:∀n,(∀i,i<n→w i=w' i)→j1 r w n=j1 r w' n
  |0,_=>rfl
  |n+1,h=>by
    unfold j1;rw[pQ n fun i hi=>h i (by omega),h n (by omega)]
theorem vl {r:Nat→UInt32} {p q:Nat→UInt8} (h:∀i,i<64→p i=q i):q9 r p=q9 r q:=by
  unfold q9;rw[pQ 64 fun i hi=>uN h i hi]
theorem mf (l bl:List UInt8):∀k,64*k≤l.length→gZ (l++bl) k=gZ l k
  |0,_=>rfl
  |k+1,h=>by
    unfold gZ;rw[mf l bl k (by omega)];refine vl fun i hi=>?_;simp only[List.getD,List.getElem?_append];rw[if_pos (by omega)]
def gK (l:List UInt8):List UInt8:=l.drop (64*(l.length/64))
def fT (r:Nat→UInt32) (v:Value) (n:Nat):Array Value:=dD 8 r++ #[v,bb (n:Nat)]
@[simp] theorem mu (r:Nat→UInt32) (v:Value) (n:Nat):(fT r v n).size=10:=by simp[fT]
theorem e8 {r:Nat→UInt32} {v:Value} {n:Nat}:(fT r v n)[8]? =some v:=by
  unfold fT;rw[Array.getElem?_append_right (by simp)];simp
theorem my {r:Nat→UInt32} {v:Value} {n:Nat}:(fT r v n)[9]? =some (bb (n:Nat)):=by
  unfold fT;rw[Array.getElem?_append_right (by simp)];simp
theorem oC {r:Nat→UInt32} {v:Value} {n i:Nat} (h:i<8):(fT r v n)[i]? =some (gV (r i)):=by
  unfold fT;rw[Array.getElem?_append_left (by simpa using h),cz h]
theorem qr {r:Nat→UInt32} {v:Value} {n:Nat}:(fT r v n).extract 0 (0+8)=dD 8 r:=by
  refine gM (by simp) fun i hi=>?_;rw[Array.getElem?_extract,if_pos (by simp;omega),Nat.zero_add,oC hi]
theorem oV {cs:Array Value} {r:Nat→UInt32} {v:Value} {n:Nat} (hs:cs.size=10) (h:∀i,i<8→cs[i]? =some (gV (r i))) (h8:cs[8]? =some v) (h9:cs[9]? =some (bb (n:Nat))):cs=fT r v n:=by
  apply Array.ext_getElem?;intro i;by_cases h1:i<8
  · rw[h i h1,oC h1]
  · by_cases h2:i=8
    · subst h2;rw[h8,e8]
    · by_cases h3:i=9
      · subst h3;rw[h9,my]
      · rw[Array.getElem?_eq_none (by omega),Array.getElem?_eq_none (by rw[mu];omega)]
theorem pZ (r:Nat→UInt32) (v u:Value) (n:Nat):(fT r v n).setIfInBounds 8 u=fT r u n:=by
  refine oV (by simp) (fun i hi=>?_) ?_ ?_
  · rw[Array.getElem?_setIfInBounds,if_neg (by omega),oC hi]
  · rw[Array.getElem?_setIfInBounds,if_pos rfl,if_pos (by simp)]
  · rw[Array.getElem?_setIfInBounds,if_neg (by omega),my]
theorem pE (r:Nat→UInt32) (v:Value) (n m:Nat):(fT r v n).setIfInBounds 9 (bb (m:Nat))=fT r v m:=by
  refine oV (by simp) (fun i hi=>?_) ?_ ?_
  · rw[Array.getElem?_setIfInBounds,if_neg (by omega),oC hi]
  · rw[Array.getElem?_setIfInBounds,if_neg (by omega),e8]
  · rw[Array.getElem?_setIfInBounds,if_pos rfl,if_pos (by simp)]
theorem qx (r q:Nat→UInt32) (v:Value) (n:Nat):cR (fT r v n) 0 (dD 8 q)=fT q v n:=by
  have hs:0+(dD 8 q).size≤(fT r v n).size:=by simp
  refine oV (by rw[eS hs];simp) (fun i hi=>?_) ?_ ?_
  · rw[dP hs,if_pos (by simp;omega),Nat.sub_zero,cz hi]
  · rw[dP hs,if_neg (by simp),e8]
  · rw[dP hs,if_neg (by simp),my]
theorem qz1:type_of% (And.intro @nf (And.intro @nh (And.intro @c_ (And.intro @pZ (And.intro @pE (@qx)))))):=And.intro @nf (And.intro @nh (And.intro @c_ (And.intro @pZ (And.intro @pE (@qx)))))
theorem b_.lt {w:World} (h:b_ w):2≤w.heap.size:=by
  have:=block_lt_of_cell (h.2 0 (by decide));exact this
theorem Hp.start2 {w:World} {b:Nat} {t t2:TypeId} {cs cs2:Array Value} {o:Option Nat} (h:cD w b t cs) (ho:∀x,o=some x→cD w x t2 cs2∧x≠b):Hp (b::o.toList) w w [(some b,t,cs),(o,t2,cs2)]:=by
  have h1:Hp (b::o.toList) w w [(some b,t,cs)]:=(Hp.start (b::o.toList) w).add (some b,t,cs) (fun b' hb'=>by cases hb';exact⟨.inr (by simp),h⟩) (by simp);refine h1.add (o,t2,cs2) (fun x hx=>⟨.inr ?_,(ho x hx).1⟩) (fun e he x hx hxe=>?_)
  · have hx:o=some x:=hx
    subst hx;simp
  · simp only[List.mem_singleton]at he
    subst he;cases hxe;exact(ho _ hx).2 rfl
theorem Hp.callw2 {S:List Nat} {w0 w w':World} {L:List bU} (h:Hp S w0 w L) (i j:Nat) {b:Nat} {t t2:TypeId} {cs cs' cs2 cs2':Array Value} {o o':Option Nat} (hi:L[i]? =some (some b,t,cs)) (hj:L[j]? =some (o,t2,cs2)) (hij:i≠j)
    (hc:Chg (b::o.toList) w w') (hb:cD w' b t cs') (ho:∀x,o'=some x→cD w' x t2 cs2'∧x≠b∧(w.heap.size≤x∨x∈o.toList)):Hp S w0 w' ((L.set i (some b,t,cs')).set j (o',t2,cs2')) where
  chg := h.chg.trans' hc (fun x hx hlt => by
    rcases List.mem_cons.1 hx with rfl|hx
    · rcases h.mine i hi with h1|h1
      · omega
      · exact h1
    · have hx:o=some x:=by cases o<;>simp_all
      subst hx;rcases h.mine j hj with h1|h1
      · omega
      · exact h1)
  own x hx y hy:=by
    obtain⟨m,hm⟩:=List.mem_iff_getElem?.1 hx;rw[List.getElem?_set]at hm;by_cases e1:j=m
    · rw[if_pos e1]at hm
      split at hm
      · cases hm
        have hy:o'=some y:=hy;obtain⟨h1,h2,h3⟩:=ho y hy;refine⟨?_,h1⟩;rcases h3 with h3|h3
        · have:=h.chg.size;exact .inl (by omega)
        · have:o=some y:=by cases o<;>simp_all
          subst this;exact h.mine j hj
      · cases hm
    · rw[if_neg e1,List.getElem?_set]at hm
      by_cases e2:i=m
      · rw[if_pos e2]at hm
        split at hm
        · cases hm;cases hy;exact⟨h.mine i hi,hb⟩
        · cases hm
      · rw[if_neg e2]at hm
        have hmem:=List.mem_of_getElem? hm;obtain⟨h1,h2⟩:=h.own x hmem y hy;refine⟨h1,hc.blk h2 fun hin=>?_⟩;rcases List.mem_cons.1 hin with rfl|hin
        · exact e2 (h.apart i m y (by rw[hi];rfl) (by rw[hm];exact hy))
        · have:o=some y:=by cases o<;>simp_all
          subst this;exact e1 (h.apart j m y (by rw[hj];rfl) (by rw[hm];exact hy))
  apart m m' y hm hm':=by
    have key:∀q:Nat,(((L.set i (some b,t,cs')).set j (o',t2,cs2'))[q]?).bind bU.at=some y→(q=j∧o'=some y)∨(q≠j∧q=i∧b=y)∨(q≠j∧q≠i∧(L[q]?).bind bU.at=some y):=by
      intro q hq;rw[List.getElem?_set]at hq;by_cases e1:j=q
      · rw[if_pos e1]at hq
        split at hq
        · exact .inl ⟨e1.symm,hq⟩
        · simp at hq
      · rw[if_neg e1,List.getElem?_set]at hq
        by_cases e2:i=q
        · rw[if_pos e2]at hq
          split at hq
          · exact .inr (.inl ⟨fun h=>e1 h.symm,e2.symm,by simpa [bU.at] using hq⟩)
          · simp at hq
        · rw[if_neg e2]at hq
          exact .inr (.inr ⟨fun h=>e1 h.symm,fun h=>e2 h.symm,hq⟩)
    have old:∀q,q≠j→(L[q]?).bind bU.at=some y→o'=some y→False:=by
      intro q hqj hq hoy;obtain⟨h1,h2,h3⟩:=ho y hoy;obtain⟨x,hx,hxb⟩:=Option.bind_eq_some_iff.1 hq;rcases h3 with h3|h3
      · have:=h.lt (List.mem_of_getElem? hx) hxb;omega
      · have:o=some y:=by cases o<;>simp_all
        subst this;exact hqj (h.apart q j y hq (by rw[hj];rfl))
    rcases key m hm with ⟨a1,a2⟩|⟨a0,a1,a2⟩|⟨a0,a1,a2⟩<;>rcases key m' hm' with ⟨c1,c2⟩|⟨c0,c1,c2⟩|⟨c0,c1,c2⟩
    · omega
    · exact((ho y a2).2.1 c2.symm).elim
    · exact(old m' c0 c2 a2).elim
    · exact((ho y c2).2.1 a2.symm).elim
    · omega
    · exact(c1 (h.apart m' i y c2 (by rw[hi];exact congrArg some a2))).elim
    · exact(old m a0 a2 c2).elim
    · exact(a1 (h.apart m i y a2 (by rw[hi];exact congrArg some c2))).elim
    · exact h.apart m m' y a2 c2
def kw (l:List UInt8) (v:Value):Array Value:=fT (gZ l (l.length/64)) v l.length
@[simp] theorem Ca (l:List UInt8) (v:Value):(kw l v).size=10:=by simp[kw]
theorem qE (l bl:List UInt8):(l++bl).drop (64*(l.length/64))=gK l++bl:=by
  rw[List.drop_append_of_le_length (by omega)];rfl
theorem qy (l:List UInt8):(gK l).length=l.length%64:=by
  unfold gK;rw[List.length_drop];omega
theorem OwnD.next {o:Option Nat} {f m c:Nat} {cs:Array Value} {l:List UInt8} {k:Nat} (h:OwnD o f m c cs (l.drop (64*k))) (hm:64≤m):OwnD o (oM f 64 c) (m - 64) (c - 64) cs (l.drop (64*(k+1))):=by
  have h2:=OwnD.cutl h hm;rw[List.drop_drop]at h2;exact h2
theorem Hp.no {w0 w:World} {L:List bU} (h:Hp [] w0 w L) (hT:b_ w0) (i j:Nat) {b:Nat} {t t2:TypeId} {cs cs2:Array Value} {o:Option Nat} (hi:L[i]? =some (some b,t,cs)) (hj:L[j]? =some (o,t2,cs2)) {g:Nat} (hg:g<2):g∉b::o.toList:=by
  have hl:=hT.lt;intro hin;rcases List.mem_cons.1 hin with rfl|hin
  · have:=(h.mine i hi).resolve_right (by simp);omega
  · have:o=some g:=by cases o<;>simp_all
    subst this;have:=(h.mine j hj).resolve_right (by simp);omega
theorem Hp.sure2 {w0 w w':World} {L:List bU} (h:Hp [] w0 w L) (i j:Nat) {b:Nat} {t t2:TypeId} {cs cs2:Array Value} {o:Option Nat} (hi:L[i]? =some (some b,t,cs)) (hj:L[j]? =some (o,t2,cs2)) (hc:Chg (b::o.toList) w w'):Chg [] w0 w':=
  h.chg.trans' hc fun x hx hlt=>by
    rcases List.mem_cons.1 hx with rfl|hx
    · have:=(h.mine i hi).resolve_right (by simp);omega
    · have hx:o=some x:=by cases o<;>simp_all
      subst hx;have:=(h.mine j hj).resolve_right (by simp);omega
theorem Hp.keep2 {w0 w w':World} {L:List bU} (h:Hp [] w0 w L) (i j k:Nat) {b:Nat} {t t2:TypeId} {cs cs2:Array Value} {o:Option Nat} {e:bU} (hi:L[i]? =some (some b,t,cs)) (hj:L[j]? =some (o,t2,cs2)) (hk:L[k]? =some e) (hki:k≠i) (hkj:k≠j) (hc:Chg (b::o.toList) w w'):Hp [] w0 w' [e] where
  chg:=h.sure2 i j hi hj hc
  own x hx y hy:=by
    simp only[List.mem_singleton]at hx;subst hx;obtain⟨h1,h2⟩:=h.own x (List.mem_of_getElem? hk) y hy;refine⟨h1,hc.blk h2 fun hin=>?_⟩;rcases List.mem_cons.1 hin with rfl|hin
    · exact hki (h.apart k i y (by rw[hk];exact hy) (by rw[hi];rfl))
    · have:o=some y:=by cases o<;>simp_all
      subst this;exact hkj (h.apart k j y (by rw[hk];exact hy) (by rw[hj];rfl))
  apart m m' y hm hm':=by
    have key:∀q:Nat,(([e]:List bU)[q]?).bind bU.at=some y→q=0:=by
      intro q hq;cases q with
      |zero=>rfl
      |succ q=>simp at hq
    rw[key m hm,key m' hm']
theorem Hp.addnone {S:List Nat} {w0 w:World} {L:List bU} (h:Hp S w0 w L) (t:TypeId) (cs:Array Value):Hp S w0 w (L++[(none,t,cs)]):=
  h.add (none,t,cs) (fun b hb=>by cases hb) (fun e he x hx hxe=>by cases hx)
theorem j9 (w:World) (hT:b_ w):aZ Tryd.prog 71 #[] w fun v w'=>∃b,v=PT b 0∧Chg [] w w'∧w.heap.size≤b∧cD w' b 135 (kw [] (fC none 0 0 0)):=by
 refine aZ.enter Tryd.func71 rfl ?_;simp only[Tryd.ntmps71,fe,Nat.reduceAdd,Nat.reduceSub];have hH:=Hp.start [] w;refine wp_seq_k fun K1 hK1=>ak [.p 0] ?_;refine pa ?_;simp only[nf];refine aa hH fun w2 hH=>hK1 _ _ (wp_seq_k fun K3 hK3=>ak [.q 0,.p 1,.x 2,.p 3] ?_);refine pq rfl rfl (AP (hT.grow hH.chg).1 rfl Tryd.underlying133 rfl jt) ?_;simp only[nf];refine aI (v:= .agg (kw [] (fC none 0 0 0))) rfl rfl (fun w=>by kernel_rfl) ?_;simp only[nf];refine aX rfl rfl hH rfl ?_;clear hH;intro b4 w5 hH;simp only[qz0,Value.cells]at hH⊢;refine pa ?_;simp only[nf];refine aa hH fun w6 hH=>hK3 _ _ (wp_ret ?_);refine BP.ret1 rfl rfl ?_;exact⟨_,rfl,hH.chg,(hH.mine 0 rfl).resolve_right (by simp),hH.blk 0 rfl⟩
theorem ff (bh:Nat) (o:Option Nat) (off n cap:Nat) (cs:Array Value) (l bl:List UInt8) (bv:Value) (w:World) (hT:b_ w) (h0:0∉bh::o.toList) (h1:1∉bh::o.toList)
    (hb:cD w bh 135 (kw l (fC o off n cap))) (hO:OwnD o off n cap cs (gK l)) (hc:∀x,o=some x→cD w x 5 cs∧x≠bh) (hs:∀w',Chg (bh::o.toList) w w'→Sl w' bv bl) (hm:l.length+bl.length≤140737488355328):
    aZ Tryd.prog 72 #[PT bh 0,bv] w fun v w'=>v= .tuple #[]∧∃o' f' m' c' cs',Chg (bh::o.toList) w w'∧cD w' bh 135 (kw (l++bl) (fC o' f' m' c'))∧OwnD o' f' m' c' cs' (gK (l++bl))∧∀x,o'=some x→cD w' x 5 cs'∧x≠bh∧(w.heap.size≤x∨x∈o.toList):=by
 unfold kw at hb;have hrl:=hO.len;rw[qy]at hrl;refine aZ.enter Tryd.func72 rfl ?_;simp only[Tryd.ntmps72,fe,Nat.reduceAdd,Nat.reduceSub];have hH:=Hp.start2 hb hc;refine wp_seq_k fun K1 hK1=>wp_seq_k fun K2 hK2=>ak [.p 0,.p 1] ?_;refine pm ?_;simp only[nf];refine pp rfl rfl (ac rfl rfl (bN Tryd.underlying112)) ?_;simp only[nf];refine aa hH fun w3 hH=>hK2 _ _ (wp_cond_false rfl (wp_skip (hK1 _ _ (wp_seq_k fun K4 hK4=>ak [.p 0,.p 1,.p 2,.q 3,.p 4,.p 5,.p 6,.p 7,.p 8,.e 9] ?_))));refine pm ?_;simp only[nf];refine pp rfl rfl (ae rfl) ?_;simp only[nf];refine pp rfl rfl (ab 9 rfl Tryd.underlying135 rfl rfl fO) ?_;simp only[nf];refine pq rfl rfl (ah rfl Tryd.underlying3 rfl ((hH.blk 0 rfl).cell my)) ?_;simp only[nf];refine pm ?_;simp only[nf];refine pp rfl rfl (aM (hs _ hH.chg) rfl Tryd.underlying31) ?_;simp only[nf];refine pp rfl rfl (ac rfl rfl (by exact aE (by omega))) ?_;simp only[nf];refine pp rfl rfl (ae rfl) ?_;simp only[nf];refine pp rfl rfl (ab 9 rfl Tryd.underlying135 rfl rfl fO) ?_;simp only[nf];refine am 0 rfl rfl hH rfl rfl rfl rfl fO (by simp<;>omega) ?_;clear hH;intro w5 hH;simp only[qz1,Value.cells]at hH⊢;refine aa hH fun w6 hH=>hK4 _ _ (wp_seq_k fun K7 hK7=>ak [.p 0,.p 1,.p 2,.p 3,.q 4,.p 5,.e 6,.p 7,.p 8,.e 9] ?_);refine pm (pm ?_);simp only[nf];refine pp rfl rfl (ae rfl) ?_;simp only[nf];refine pp rfl rfl (ab 8 rfl Tryd.underlying135 rfl rfl cW) ?_;simp only[nf];refine pq rfl rfl (ah rfl Tryd.underlying31 rfl ((hH.blk 0 rfl).cell e8)) ?_;simp only[nf];refine pm ?_;simp only[nf];refine mX 1 rfl rfl hH rfl hO (fun w' hH=>((hs _ hH.chg)).src) rfl rfl Tryd.underlying31 Tryd.underlying31 (.inl ⟨_,rfl⟩) bL iX iW (by omega) ?_;clear hH;intro o8 off9 cap10 cs11 w12 hO13 hH;simp only[nf]at hH⊢;refine pp rfl rfl (ae rfl) ?_;simp only[nf];refine pp rfl rfl (ab 8 rfl Tryd.underlying135 rfl rfl cW) ?_;simp only[nf];refine am 0 rfl rfl hH rfl rfl rfl rfl cW (by simp<;>omega) ?_;clear hH;intro w14 hH;simp only[qz1,Value.cells]at hH⊢;refine aa hH fun w15 hH=>hK7 _ _ (wp_block (bd [] [24,25,26,27,28,29,30,31,32,33,34,35,36,37,38,39,40,41,42,43,44,45,46,47,48,49] (fun(n16:Nat) (vs:List Value) (w':World)=>∃(k f m c:Nat),vs=[]∧Hp (bh::o.toList) w w' [(some bh,135,fT (gZ (l++bl) k) (fC o8 f m c) (l.length+bl.length)),(o8,5,cs11)]∧n16=m∧64*k≤l.length+bl.length∧OwnD o8 f m c cs11 ((l++bl).drop (64*k))) (n+bl.length) (by kernel_rfl) ?_ ?_))
 ·simp only[ga];refine⟨l.length/64,off9,n+bl.length,cap10,trivial,?_,rfl,?_,?_⟩
  ·rw[mf _ _ _ (by omega)];exact hH
  · omega
  · (rw[qE];assumption)
 clear hH;intro n16 vs17 w18 hR19 d0;obtain⟨k,f,m,c,rfl,hH,hn20,hf21,hD⟩:=hR19;simp only[bG,c6,List.set_cons_zero,List.set_cons_succ,Nat.zero_add,Nat.reduceAdd];have hml:=hD.len;rw[List.length_drop,List.length_append]at hml;refine wp_seq_k fun K22 hK22=>wp_seq_k fun K23 hK23=>ak [.p 0,.p 1,.p 2,.q 3,.p 4,.p 5] ?_;refine pm ?_;simp only[nf];refine pp rfl rfl (ae rfl) ?_;simp only[nf];refine pp rfl rfl (ab 8 rfl Tryd.underlying135 rfl rfl cW) ?_;simp only[nf];refine pq rfl rfl (ah rfl Tryd.underlying31 rfl ((hH.blk 0 rfl).cell e8)) ?_;simp only[nf];refine pp rfl rfl (bC rfl Tryd.underlying31) ?_;simp only[nf];refine pp rfl rfl (ac rfl rfl (by exact de (n:=64))) ?_;simp only[nf];refine aa hH fun w24 hH=>hK23 _ _ (wp_cond_split rfl (fun hc25=>?_) (fun hc25=>?_))
 ·simp only[dm]at hc25;refine wp_skip (hK22 _ _ (wp_block (wp_seq_k fun K26 hK26=>en [.p 0,.p 1,.p 2,.p 3,.p 5,.p 6,.p 7,.q 4,.q 8,.q 9,.p 10,.p 11,.e 12] ?_)));refine pm (pm ?_);simp only[nf];refine pp rfl rfl (ae rfl) ?_;simp only[nf];refine pp rfl rfl (ab 0 rfl Tryd.underlying135 rfl rfl jt) ?_;simp only[nf];refine pm ?_;simp only[nf];refine pp rfl rfl (ae rfl) ?_;simp only[nf];refine pp rfl rfl (ab 8 rfl Tryd.underlying135 rfl rfl cW) ?_;simp only[nf];refine pq rfl rfl (bO _ rfl (hH.blk 0 rfl) Tryd.underlying133 rfl jt (by rw[mu];omega) qr) ?_;simp only[nf];refine pq rfl rfl (ah rfl Tryd.underlying31 rfl ((hH.blk 0 rfl).cell e8)) ?_;simp only[nf];refine pq rfl rfl (aj cf84 (fun w' hw=>ng _ _ _ w' ((hT.chg hH.chg h0 h1).grow hw) ((OwnD.sl hH 1 rfl hD).chg hw) (by(simp<;>omega))) rfl) ?_;simp only[nf];refine pp rfl rfl (ae rfl) ?_;simp only[nf];refine pp rfl rfl (ab 0 rfl Tryd.underlying135 rfl rfl jt) ?_;simp only[nf];refine dI 0 rfl rfl hH rfl rfl rfl lq jt (by simp) (by simp<;>omega) ?_;clear hH;intro w27 hH;simp only[qz1,Value.cells]at hH⊢;refine aa hH fun w28 hH=>hK26 _ _ (ak [.p 0,.p 1,.p 2,.p 3,.q 4,.p 5,.p 6,.p 7,.e 8] ?_);refine pm (pm ?_);simp only[nf];refine pp rfl rfl (ae rfl) ?_;simp only[nf];refine pp rfl rfl (ab 8 rfl Tryd.underlying135 rfl rfl cW) ?_;simp only[nf];refine pq rfl rfl (ah rfl Tryd.underlying31 rfl ((hH.blk 0 rfl).cell e8)) ?_;simp only[nf];refine pp rfl rfl (iC (lo:=64) rfl rfl Tryd.underlying31 bL (by omega)) ?_;simp only[nf];refine pp rfl rfl (ae rfl) ?_;simp only[nf];refine pp rfl rfl (ab 8 rfl Tryd.underlying135 rfl rfl cW) ?_;simp only[nf];refine am 0 rfl rfl hH rfl rfl rfl rfl cW (by simp<;>omega) ?_;clear hH;intro w29 hH;simp only[qz1,Value.cells]at hH⊢;refine aa hH fun w30 hH=>?_;simp only[Exit.then,Exit.inBlock,↓reduceIte,Nat.reduceEqDiff];refine⟨m - 64,?_,_,rfl,by kernel_rfl,?_⟩
  · omega
  simp only[ga];refine⟨k+1,oM f 64 c,m - 64,c - 64,trivial,?_,rfl,?_,?_⟩
  ·rw[og]at hH;exact hH
  · omega
  · (exact OwnD.next hD (by omega))
 ·simp only[dm]at hc25;refine wp_exit ?_;simp only[Exit.then,Exit.inBlock,↓reduceIte,Nat.reduceEqDiff];refine BP.normal ?_;refine BP.ret0 rfl rfl ?_;obtain rfl:k=(l++bl).length/64:=by rw[List.length_append];omega
  refine⟨rfl,_,f,m,c,_,hH.chg,?_,hD,fun x hx=>?_⟩
  · unfold kw
    simpa only[List.length_append] using hH.blk 0 rfl
  · subst hx
    have hne:=hH.other (i:=0) rfl (j:=1) rfl (by decide) rfl;refine⟨hH.blk 1 rfl,hne,?_⟩;rcases hH.mine 1 rfl with h|h
    · exact .inl h
    · exact .inr ((List.mem_cons.1 h).resolve_left hne)
end Go.Proofs.YtomjbepgbnbgmaaDoor
namespace Go.Proofs.YtomjbepgbnbgmaaDoor
open Go
open List (getD_cons_zero getD_cons_succ set_cons_zero set_cons_succ)
def nQ (n:Nat):Nat:=(120 - (n+1)%64)%64
def CA (n j:Nat):UInt8:=(if 56 - 8*j<64 then UInt64.ofNat n<<<3>>>UInt64.ofNat (56 - 8*j)else 0).toUInt8
def gY (l:List UInt8):List UInt8:=l++(128::(List.replicate (nQ l.length) 0++(List.range 8).map (CA l.length)))
def s9 (l:List UInt8) (i:Nat):UInt8:=(if 24 - 8*(i%4)<32 then gZ (gY l) ((gY l).length/64) (i/4)>>>UInt32.ofNat (24 - 8*(i%4))else 0).toUInt8
theorem vJ (l:List UInt8):(gY l).length=l.length+1+nQ l.length+8:=by
  simp only[gY,List.length_append,List.length_cons,List.length_replicate,List.length_map,List.length_range];omega
theorem Hp.opt2 {S:List Nat} {w0 w:World} {L:List bU} (h:Hp S w0 w L) (i j:Nat) {b:Nat} {t t2:TypeId} {cs cs2:Array Value} {o:Option Nat} (hi:L[i]? =some (some b,t,cs)) (hj:L[j]? =some (o,t2,cs2)) (hij:i≠j):∀x,o=some x→cD w x t2 cs2∧x≠b:=fun x hx=>by
  subst hx;exact⟨h.blk j hj,h.other hi hj hij rfl⟩
theorem OwnD.rest0:OwnD none 0 0 0 #[] (gK []):=OwnD.start
theorem j0 (bh:Nat) (v:Value) (l:List UInt8) (w:World) (hT:b_ w) (hb:cD w bh 135 (kw l v)) (hr:Sl w v (gK l)) (hm:l.length≤140737488350000):
    aZ Tryd.prog 73 #[PT bh 0] w fun v' w'=>v'= .agg (a9 32 (s9 l))∧Chg [] w w':=by
 unfold kw at hb;have hrl:=qy l;have hz2:nQ l.length=(120 - (l.length+1)%64)%64:=rfl;have hpl:=vJ l;refine aZ.enter Tryd.func73 rfl ?_;simp only[Tryd.ntmps73,fe,Nat.reduceAdd,Nat.reduceSub];have hH:=Hp.start [] w;refine wp_seq_k fun K1 hK1=>ak [.x 0] ?_;refine au rfl rfl hH eF ?_;clear hH;intro b2 w3 hH;simp only[qz0,Value.cells]at hH⊢;refine aa hH fun w4 hH=>hK1 _ _ (wp_seq_k fun K5 hK5=>wp_seq_k fun K6 hK6=>ak [.p 0,.p 1] ?_);refine pm ?_;simp only[nf];refine pp rfl rfl (ac rfl rfl (bN Tryd.underlying112)) ?_;simp only[nf];refine aa hH fun w7 hH=>hK6 _ _ (wp_cond_false rfl (wp_skip (hK5 _ _ (wp_seq_k fun K8 hK8=>ak [.x 0,.p 1,.p 2,.p 3,.q 4,.e 5,.x 6,.e 7,.p 8] ?_))));refine bA rfl rfl hH Tryd.underlying31 (by rfl) (bs0) ?_;clear hH;intro b9 w10 hH;simp only[qz0,Value.cells]at hH⊢;refine pm ?_;simp only[nf];refine pp rfl rfl (ae rfl) ?_;simp only[nf];refine pp rfl rfl (ab 8 rfl Tryd.underlying135 rfl rfl cW) ?_;simp only[nf];refine pq rfl rfl (ah rfl Tryd.underlying31 rfl ((hH.chg.nil_blk hb).cell (by exact e8))) ?_;simp only[nf];refine bn 1 rfl rfl hH rfl (OwnC.of_bytes rfl) (fun w' hH=>((hr.chg hH.chg)).src) rfl rfl Tryd.underlying31 Tryd.underlying31 (.inl ⟨_,rfl⟩) bL iX iW rfl (by(simp<;>omega)) (by(simp<;>omega)) ?_;clear hH;intro o11 cap12 cs13 w14 hO15 hH;simp only[nf]at hH⊢;rw[←List.map_append]at hO15;simp only[Nat.zero_add,List.nil_append,List.length_nil]at hO15⊢;refine bA rfl rfl hH Tryd.underlying31 (by rfl) (ja 128) ?_;clear hH;intro b16 w17 hH;simp only[qz0,Value.cells]at hH⊢;refine bn 1 rfl rfl hH rfl hO15 (fun w' hH=>((OwnC.sl hH 2 rfl (OwnC.of_bytes rfl))).src) rfl rfl Tryd.underlying31 Tryd.underlying31 (.inl ⟨_,rfl⟩) bL iX iW rfl (by(simp<;>omega)) (by(simp<;>omega)) ?_;clear hH;intro o18 cap19 cs20 w21 hO22 hH;simp only[nf]at hH⊢;rw[←List.map_append]at hO22;refine pa ?_;simp only[nf];refine aa hH fun w23 hH=>hK8 _ _ (wp_seq_k fun K24 hK24=>wp_block ?_);obtain⟨kc25,hkc26,hN⟩:=hH.name 0 rfl;replace hH:=hN;clear hN;simp only[List.set_cons_zero,List.set_cons_succ]at hH;refine bd [3] [20,21,22,23,24,25,26] (fun(n27:Nat) (vs:List Value) (w':World)=>∃(q:Nat) (o:Option Nat) (c:Nat) (cs:Array Value),vs=[own o ((gK l).length+1+q) c]∧Hp [] w w' [(some b2,22,kc25),(o,5,cs)]∧n27=nQ l.length - q∧q≤nQ l.length∧OwnC o ((gK l).length+1+q) c 1 cs ((gK l++[128]++List.replicate q 0).map V8)) (nQ l.length - 0) (by kernel_rfl) ?_ ?_
 ·simp only[ga];refine⟨0,o18,cap19,cs20,rfl,?_,rfl,?_,?_⟩
  ·exact hH.take 2
  · omega
  · (rw[List.replicate_zero,List.append_nil];exact hO22)
 clear hH;intro n27 vs28 w29 hR30 d0;obtain⟨q,o,c,cs,rfl,hH,hn31,hf32,hO⟩:=hR30;simp only[bG,c6,List.set_cons_zero,List.set_cons_succ,Nat.zero_add,Nat.reduceAdd];subst hkc26;refine wp_seq_k fun K33 hK33=>wp_seq_k fun K34 hK34=>ak [.p 0,.p 1,.p 2,.p 3] ?_;refine pm ?_;simp only[nf];refine pp rfl rfl (bC rfl Tryd.underlying31) ?_;simp only[nf];refine pp rfl rfl (ac rfl rfl (by first|exact dM (n:=64) (by omega))) ?_;simp only[nf];refine pp rfl rfl (ac rfl rfl (by exact an (n:=56))) ?_;simp only[nf];refine aa hH fun w35 hH=>hK34 _ _ (wp_cond_split rfl (fun hc36=>?_) (fun hc36=>?_))
 ·simp only[dm]at hc36;refine wp_skip (hK33 _ _ (wp_block (ak [.p 0,.x 1,.e 2,.p 3] ?_)));refine pm ?_;simp only[nf];refine bA rfl rfl hH Tryd.underlying31 (by rfl) (ja 0) ?_;clear hH;intro b37 w38 hH;simp only[qz0,Value.cells]at hH⊢;refine bn 1 rfl rfl hH rfl hO (fun w' hH=>((OwnC.sl hH 2 rfl (OwnC.of_bytes rfl))).src) rfl rfl Tryd.underlying31 Tryd.underlying31 (.inl ⟨_,rfl⟩) bL iX iW rfl (by(simp<;>omega)) (by(simp<;>omega)) ?_;clear hH;intro o39 cap40 cs41 w42 hO43 hH;simp only[nf]at hH⊢;rw[←List.map_append]at hO43;refine pa ?_;simp only[nf];refine aa hH fun w44 hH=>?_;simp only[Exit.then,Exit.inBlock,↓reduceIte,Nat.reduceEqDiff];refine⟨nQ l.length - (q+1),?_,_,rfl,by kernel_rfl,?_⟩
  · omega
  simp only[ga];refine⟨q+1,o39,cap40,cs41,rfl,?_,rfl,?_,?_⟩
  ·exact hH.take 2
  · omega
  · (rw[List.replicate_succ',←List.append_assoc];exact hO43)
 ·simp only[dm]at hc36;obtain rfl:q=nQ l.length:=by omega
  refine wp_exit ?_;simp only[Exit.then,Exit.inBlock,↓reduceIte,Nat.reduceEqDiff];refine hK24 _ _ (wp_seq_k fun K45 hK45=>wp_seq_k fun K46 hK46=>ak [.p 0] ?_);refine ci 56 ?_;simp only[nf];refine aa hH fun w47 hH=>hK46 _ _ (wp_block ?_);obtain⟨kc48,hkc49,hN⟩:=hH.name 0 rfl;replace hH:=hN;clear hN;simp only[List.set_cons_zero,List.set_cons_succ]at hH;refine bd [3,4] [27,28,29,30,31,32,33,34,35,36,37,38,39,40,41,42] (fun(n50:Nat) (vs:List Value) (w':World)=>∃(j:Nat) (o:Option Nat) (c:Nat) (cs:Array Value),vs=[own o ((gK l).length+1+nQ l.length+j) c,bb ((56:Int) - 8*(j:Nat))]∧Hp [] w w' [(some b2,22,kc48),(o,5,cs)]∧n50=8 - j∧j≤8∧OwnC o ((gK l).length+1+nQ l.length+j) c 1 cs ((gK l++[128]++List.replicate (nQ l.length) 0++(List.range j).map (CA l.length)).map V8)) (8 - 0) (by kernel_rfl) ?_ ?_
  ·simp only[ga];refine⟨0,o,c,cs,rfl,?_,rfl,?_,?_⟩
   ·exact hH.take 2
   · omega
   · (rw[List.range_zero,List.map_nil,List.append_nil];exact hO)
  clear hH;intro n50 vs51 w52 hR53 d1;obtain⟨j,o,c,cs,rfl,hH,hn54,hf55,hO⟩:=hR53;simp only[bG,c6,List.set_cons_zero,List.set_cons_succ,Nat.zero_add,Nat.reduceAdd];subst hkc49;refine wp_seq_k fun K56 hK56=>wp_seq_k fun K57 hK57=>ak [.p 0,.p 1] ?_;refine pm ?_;simp only[nf];refine pp rfl rfl (ac rfl rfl (by exact ik)) ?_;simp only[nf];refine aa hH fun w58 hH=>hK57 _ _ (wp_cond_split rfl (fun hc59=>?_) (fun hc59=>?_))
  ·simp only[dm]at hc59;simp only[show((56:Int) - 8*(j:Nat))=((56 - 8*j:Nat):Int)by omega];refine wp_skip (hK56 _ _ (wp_seq_k fun K60 hK60=>wp_block (ak [.p 0,.p 1,.p 2,.p 3,.q 4,.p 5,.p 6,.p 7,.p 8,.p 9,.x 10,.e 11,.p 12] ?_)));refine pm (pm ?_);simp only[nf];refine pp rfl rfl (ae rfl) ?_;simp only[nf];refine pp rfl rfl (ab 9 rfl Tryd.underlying135 rfl rfl fO) ?_;simp only[nf];refine pq rfl rfl (ah rfl Tryd.underlying3 rfl ((hH.chg.nil_blk hb).cell (by exact my))) ?_;simp only[nf];refine pp rfl rfl (bw rfl (by exact gl Tryd.underlying3 Tryd.underlying35)) ?_;simp only[nf];refine pp rfl rfl (ac rfl rfl (d8 3 3 (by decide) rfl _)) ?_;simp only[nf];refine pm ?_;simp only[nf];refine pp rfl rfl (ac rfl rfl (d6 _ _ _)) ?_;simp only[nf];refine pp rfl rfl (bw rfl (iH _ Tryd.underlying35 Tryd.underlying5)) ?_;simp only[nf];refine bA rfl rfl hH Tryd.underlying31 (by rfl) (ja _) ?_;clear hH;intro b61 w62 hH;simp only[qz0,Value.cells]at hH⊢;refine bn 1 rfl rfl hH rfl hO (fun w' hH=>((OwnC.sl hH 2 rfl (OwnC.of_bytes rfl))).src) rfl rfl Tryd.underlying31 Tryd.underlying31 (.inl ⟨_,rfl⟩) bL iX iW rfl (by(simp<;>omega)) (by(simp<;>omega)) ?_;clear hH;intro o63 cap64 cs65 w66 hO67 hH;simp only[nf]at hH⊢;rw[←List.map_append]at hO67;refine pa ?_;simp only[nf];refine aa hH fun w68 hH=>hK60 _ _ (ak [.p 0,.p 1,.p 2] ?_);refine pm ?_;simp only[nf];refine pp rfl rfl (ac rfl rfl (by exact ic (by omega) (by omega))) ?_;simp only[nf];refine pa ?_;simp only[nf];refine aa hH fun w69 hH=>?_;simp only[Exit.then,Exit.inBlock,↓reduceIte,Nat.reduceEqDiff];rw[show(((56 - 8*j:Nat):Int) - 8)=56 - 8*((j+1:Nat):Int)by omega];refine⟨8 - (j+1),?_,_,rfl,by kernel_rfl,?_⟩
   · omega
   simp only[ga];refine⟨j+1,o63,cap64,cs65,rfl,?_,rfl,?_,?_⟩
   ·exact hH.take 2
   · omega
   · (rw[List.range_succ,List.map_append (f:=CA l.length),←List.append_assoc];exact hO67)
  ·simp only[dm]at hc59;obtain rfl:j=8:=by omega
   refine wp_exit ?_;simp only[Exit.then,Exit.inBlock,↓reduceIte,Nat.reduceEqDiff];refine hK45 _ _ (wp_seq_k fun K70 hK70=>ak [.p 0,.p 1,.p 2,.q 3,.x 4,.e 5] ?_);refine pm ?_;simp only[nf];refine pp rfl rfl (ae rfl) ?_;simp only[nf];refine pp rfl rfl (ab 0 rfl Tryd.underlying135 rfl rfl jt) ?_;simp only[nf];refine pq rfl rfl (bO _ rfl (hH.chg.nil_blk hb) Tryd.underlying133 rfl jt (by rw[mu];omega) qr) ?_;simp only[nf];refine au rfl rfl hH Bu ?_;clear hH;intro b71 w72 hH;simp only[qz0,Value.cells]at hH⊢;refine ao 2 rfl rfl hH rfl rfl rfl lq jt (by simp) (by simp) ?_;clear hH;intro w73 hH;simp only[qz0,Value.cells]at hH⊢;refine aa hH fun w74 hH=>hK70 _ _ (wp_seq_k fun K75 hK75=>wp_block ?_);obtain⟨kc76,hkc77,hN⟩:=hH.name 0 rfl;replace hH:=hN;clear hN;simp only[List.set_cons_zero,List.set_cons_succ]at hH;refine bd [3] [47,48,49,50,51,52,53,54] (fun(n78:Nat) (vs:List Value) (w':World)=>∃(k f m c:Nat),vs=[fC o f m c]∧Hp [] w w' [(some b2,22,kc76),(o,5,cs),(some b71,133,dD 8 (gZ (gY l) k))]∧n78=m∧64*k≤(gY l).length∧OwnD o f m c cs ((gY l).drop (64*k))) ((gK l).length+1+nQ l.length+8) (by kernel_rfl) ?_ ?_
   ·simp only[ga];refine⟨l.length/64,0,(gK l).length+1+nQ l.length+8,c,rfl,?_,rfl,?_,?_⟩
    ·unfold gY;rw[mf _ _ _ (by omega)];exact hH
    · omega
    · (unfold gY;rw[qE];have h:=OwnC.d hO;simp only[List.append_assoc,List.cons_append,List.nil_append]at h⊢;exact h)
   clear hH;intro n78 vs79 w80 hR81 d2;obtain⟨k,f,m,c,rfl,hH,hn82,hf83,hD⟩:=hR81;simp only[bG,c6,List.set_cons_zero,List.set_cons_succ,Nat.zero_add,Nat.reduceAdd];have hml:=hD.len;rw[List.length_drop]at hml;subst hkc77;refine wp_seq_k fun K84 hK84=>wp_seq_k fun K85 hK85=>ak [.p 0,.p 1,.p 2] ?_;refine pm ?_;simp only[nf];refine pp rfl rfl (bC rfl Tryd.underlying31) ?_;simp only[nf];refine pp rfl rfl (ac rfl rfl (by exact bZ (n:=0))) ?_;simp only[nf];refine aa hH fun w86 hH=>hK85 _ _ (wp_cond_split rfl (fun hc87=>?_) (fun hc87=>?_))
   ·simp only[dm]at hc87;refine wp_skip (hK84 _ _ (wp_seq_k fun K88 hK88=>wp_block (ak [.q 0,.p 1,.q 2,.e 3] ?_)));refine pq rfl rfl (aA rfl (hH.blk 2 rfl) Tryd.underlying133 rfl jt (by simp)) ?_;simp only[nf];refine pm ?_;simp only[nf];refine pq rfl rfl (aj cf84 (fun w' hw=>ng _ _ _ w' (hT.grow (hH.chg.trans hw)) ((OwnD.sl hH 1 rfl hD).chg hw) (by(simp<;>omega))) rfl) ?_;simp only[nf];refine ao 2 rfl rfl hH rfl rfl rfl lq jt (by simp) (by simp) ?_;clear hH;intro w89 hH;simp only[qz0,Value.cells]at hH⊢;refine aa hH fun w90 hH=>hK88 _ _ (ak [.p 0,.p 1,.p 2] ?_);refine pm ?_;simp only[nf];refine pp rfl rfl (iC (lo:=64) rfl rfl Tryd.underlying31 bL (by omega)) ?_;simp only[nf];refine pa ?_;simp only[nf];refine aa hH fun w91 hH=>?_;simp only[Exit.then,Exit.inBlock,↓reduceIte,Nat.reduceEqDiff];refine⟨m - 64,?_,_,rfl,by kernel_rfl,?_⟩
    · omega
    simp only[ga];refine⟨k+1,oM f 64 c,m - 64,c - 64,rfl,?_,rfl,?_,?_⟩
    ·rw[og]at hH;exact hH
    · omega
    · (exact OwnD.next hD (by omega))
   ·simp only[dm]at hc87;obtain rfl:k=(gY l).length/64:=by omega
    refine wp_exit ?_;simp only[Exit.then,Exit.inBlock,↓reduceIte,Nat.reduceEqDiff];refine hK75 _ _ (wp_seq_k fun K92 hK92=>ak [.x 0] ?_);refine au rfl rfl hH eF ?_;clear hH;intro b93 w94 hH;simp only[qz0,Value.cells]at hH⊢;refine aa hH fun w95 hH=>hK92 _ _ (wp_seq_k fun K96 hK96=>wp_seq_k fun K97 hK97=>ak [.p 0] ?_);refine pk 0 ?_;simp only[nf];refine aa hH fun w98 hH=>hK97 _ _ (wp_block ?_);obtain⟨kc99,hkc100,hN⟩:=hH.name 0 rfl;replace hH:=hN;clear hN;simp only[List.set_cons_zero,List.set_cons_succ]at hH;refine bd [55] [7,56,57,58,59,60,61,62,63,64,65,66,67,68,69,70] (fun(n101:Nat) (vs:List Value) (w':World)=>∃(i:Nat),vs=[bb (i:Nat)]∧Hp [] w w' [(some b2,22,kc99),(o,5,cs),(some b71,133,dD 8 (gZ (gY l) ((gY l).length/64))),(some b93,22,a9 32 fun j=>if j<i then s9 l j else 0)]∧n101=32 - i∧i≤32) (32 - 0) (by kernel_rfl) ?_ ?_
    ·simp only[ga];refine⟨0,rfl,?_,rfl,?_⟩
     ·exact hH.say 3 rfl (bI fun j hj=>by rw[if_neg (by omega)])
     · omega
    clear hH;intro n101 vs102 w103 hR104 d3;obtain⟨i,rfl,hH,hn105,hf106⟩:=hR104;simp only[bG,c6,List.set_cons_zero,List.set_cons_succ,Nat.zero_add,Nat.reduceAdd];subst hkc100;refine wp_seq_k fun K107 hK107=>ak [.p 0] ?_;refine pp rfl rfl (ac rfl rfl (by exact aJ (n:=32))) ?_;simp only[nf];refine aa hH fun w108 hH=>hK107 _ _ (wp_seq_k fun K109 hK109=>wp_cond_split rfl (fun hc110=>?_) (fun hc110=>?_))
    ·simp only[dm]at hc110;refine wp_skip (hK109 _ _ (wp_seq_k fun K111 hK111=>wp_block (wp_seq_k fun K112 hK112=>ak [.p 0,.p 1] ?_)));refine pm (pa ?_);simp only[nf];refine aa hH fun w113 hH=>hK112 _ _ (ak [.p 0,.p 1,.p 2,.p 3,.q 4,.p 5,.p 6,.p 7,.p 8,.p 9,.p 10,.p 11,.e 12] ?_);refine pm (pm ?_);simp only[nf];refine pp rfl rfl (ac rfl rfl (by first|exact gz (n:=4) (by omega) (by omega))) ?_;simp only[nf];refine pp rfl rfl (aq rfl rfl Tryd.underlying133 eN (by omega)) ?_;simp only[nf];refine pq rfl rfl (ah rfl Tryd.underlying132 rfl ((hH.blk 2 rfl).cell (cz (by omega)))) ?_;simp only[nf];refine pm ?_;simp only[nf];refine pp rfl rfl (ac rfl rfl (by first|exact dM (n:=4) (by omega))) ?_;simp only[nf];refine pp rfl rfl (ac rfl rfl (by exact dV (m:=8) (by omega))) ?_;simp only[nf];refine pp rfl rfl (ac rfl rfl (by exact cj (m:=24) (by omega) (by omega))) ?_;simp only[nf];refine pp rfl rfl (ac rfl rfl (li _ _ _)) ?_;simp only[nf];refine pp rfl rfl (bw rfl (iz _ Tryd.underlying132 Tryd.underlying5)) ?_;simp only[nf];refine pp rfl rfl (aq rfl rfl Tryd.underlying22 bL (by omega)) ?_;simp only[nf];refine am 3 rfl rfl hH rfl rfl rfl rfl bL (by simp<;>omega) ?_;clear hH;intro w114 hH;simp only[qz0,Value.cells]at hH⊢;refine aa hH fun w115 hH=>hK111 _ _ (ak [.p 0,.p 1] ?_);refine pp rfl rfl (ac rfl rfl (by exact aE (n:=1) (by omega))) ?_;simp only[nf];refine pm ?_;simp only[nf];refine aa hH fun w116 hH=>?_;simp only[Exit.then,Exit.inBlock,↓reduceIte,Nat.reduceEqDiff];refine⟨32 - (i+1),?_,_,rfl,by kernel_rfl,?_⟩
     · omega
     simp only[ga];refine⟨i+1,rfl,?_,rfl,?_⟩
     ·exact hH.say 3 rfl (bI fun j hj=>nM (g:=s9 l) (z:=fun _=>0) rfl j)
     · omega
    ·simp only[dm]at hc110;obtain rfl:i=32:=by omega
     replace hH:=hH.say 3 rfl (bI (g:=s9 l) fun j hj=>if_pos hj);simp only[List.set_cons_zero,List.set_cons_succ]at hH;refine wp_exit ?_;simp only[Exit.then,Exit.inBlock,↓reduceIte,Nat.reduceEqDiff];refine hK96 _ _ (wp_seq_k fun K117 hK117=>ak [.q 0,.e 1] ?_);refine pq rfl rfl (aA rfl (hH.blk 3 rfl) Tryd.underlying22 rfl bp (by simp)) ?_;simp only[nf];refine ao 0 rfl rfl hH rfl rfl rfl bj bp (by simp) (by simp) ?_;clear hH;intro w118 hH;simp only[qz0,Value.cells]at hH⊢;refine aa hH fun w119 hH=>hK117 _ _ (wp_ret ?_);refine BP.retc rfl rfl (hH.blk 0 rfl) Tryd.underlying22 rfl bp (by simp) ?_;exact⟨rfl,hH.chg⟩
theorem n3 (v:Value) (l:List UInt8) (w:World) (hT:b_ w) (hv:Sl w v l) (hm:l.length≤140737488350000):aZ Tryd.prog 70 #[v] w fun v' w'=>v'= .agg (a9 32 (s9 l))∧Chg [] w w':=by
 refine aZ.enter Tryd.func70 rfl ?_;simp only[Tryd.ntmps70,fe,Nat.reduceAdd,Nat.reduceSub];have hH:=Hp.start [] w;refine wp_seq_k fun K1 hK1=>ak [.x 0] ?_;refine au rfl rfl hH eF ?_;clear hH;intro b2 w3 hH;simp only[qz0,Value.cells]at hH⊢;refine aa hH fun w4 hH=>hK1 _ _ (wp_seq_k fun K5 hK5=>ak [.x 0,.p 1] ?_);refine ar rfl rfl hH B6 (fun w' hH=>j9 w' (hT.grow hH.chg)) rfl (fun _ _ _ h=>h.choose_spec.2.1) ?_;clear hH;intro w6 v7 w8 hH hp9;obtain⟨b10,rfl,hg,hfr,hbk⟩:=hp9;replace hH:=(hH.callnew hg hbk hfr).addnone 5 #[];clear hg hfr hbk;simp only[qz0,Value.cells]at hH⊢;refine pa ?_;simp only[nf];refine aa hH fun w11 hH=>hK5 _ _ (wp_seq_k fun K12 hK12=>ak [.p 0,.p 1,.e 2] ?_);refine pm (pm ?_);simp only[nf];refine aB rfl rfl hH zO (fun w' hH=>ff _ _ _ _ _ _ _ _ _ w' (hT.grow hH.chg) (hH.no hT 1 2 rfl rfl (by decide)) (hH.no hT 1 2 rfl rfl (by decide)) (hH.blk 1 rfl) OwnD.rest0 (hH.opt2 1 2 rfl rfl (by decide)) (fun w2 hc=>(hv.chg (hH.sure2 1 2 rfl rfl hc))) (by(simp<;>omega))) rfl ?_;clear hH;intro w13 v14 w15 hH hp16;obtain⟨rfl,o17,f18,n19,c20,cs21,hg,hbk,hO22,hox⟩:=hp16;replace hH:=hH.callw2 1 2 rfl rfl (by decide) hg hbk hox;clear hg hbk hox;simp only[qz0,Value.cells]at hH⊢;refine aa hH fun w23 hH=>hK12 _ _ (wp_seq_k fun K24 hK24=>ak [.p 0,.q 1,.e 2] ?_);refine pm (pq rfl rfl (aj B8 (fun w' hw=>j0 _ _ _ w' (hT.grow (hH.chg.trans hw)) (hw.nil_blk (hH.blk 1 rfl)) ((OwnD.sl hH 2 rfl hO22).chg hw) (by omega)) rfl) ?_);simp only[nf];refine ao 0 rfl rfl hH rfl rfl rfl bj bp (by simp) (by simp) ?_;clear hH;intro w25 hH;simp only[qz0,Value.cells]at hH⊢;refine aa hH fun w26 hH=>hK24 _ _ (wp_ret ?_);refine BP.retc rfl rfl (hH.blk 0 rfl) Tryd.underlying22 rfl bp (by simp) ?_;exact⟨rfl,hH.chg⟩
def vZ (kl:List UInt8) (i:Nat):UInt8:=kl.getD i 0
def tK (kl:List UInt8) (n:Nat):List UInt8:=(List.range n).map fun i=>vZ kl i^^^54
def sY (kl:List UInt8) (n:Nat):List UInt8:=(List.range n).map fun i=>vZ kl i^^^92
@[simp] theorem C_ (kl:List UInt8) (n:Nat):(tK kl n).length=n:=by simp[tK]
@[simp] theorem Dt (kl:List UInt8) (n:Nat):(sY kl n).length=n:=by simp[sY]
theorem qo (kl:List UInt8) (n:Nat):tK kl n++[vZ kl n^^^54]=tK kl (n+1):=by simp[tK,List.range_succ]
theorem qP (kl:List UInt8) (n:Nat):sY kl n++[vZ kl n^^^92]=sY kl (n+1):=by simp[sY,List.range_succ]
def BR (kl bl:List UInt8) (i:Nat):UInt8:=s9 (sY kl 64++(List.range 32).map (s9 (tK kl 64++bl))) i
theorem y9 (l:List UInt8) (hl:l.length≤64) (j:Nat):(if 0≤j∧j<min l.length 64 then l.getD (j - 0) 0 else 0)=vZ l j:=by
  unfold vZ;by_cases h:j<l.length
  · rw[if_pos ⟨Nat.zero_le _,by omega⟩,Nat.sub_zero]
  · rw[if_neg (by omega)];simp[List.getD,List.getElem?_eq_none (Nat.le_of_not_lt h)]
theorem ji (kv bv:Value) (kl bl:List UInt8) (w:World) (hT:b_ w) (hk:Sl w kv kl) (hb:Sl w bv bl) (h64:kl.length≤64) (hm:bl.length≤140737488340000):
    aZ Tryd.prog 55 #[kv,bv] w fun v' w'=>v'= .agg (a9 32 (BR kl bl))∧Chg [] w w':=by
 refine aZ.enter Tryd.func55 rfl ?_;simp only[Tryd.ntmps55,fe,Nat.reduceAdd,Nat.reduceSub];have hH:=Hp.start [] w;refine wp_seq_k fun K1 hK1=>ak [.x 0] ?_;refine au rfl rfl hH eF ?_;clear hH;intro b2 w3 hH;simp only[qz0,Value.cells]at hH⊢;refine aa hH fun w4 hH=>hK1 _ _ (wp_seq_k fun K5 hK5=>ak [.x 0] ?_);refine au rfl rfl hH C2 ?_;clear hH;intro b6 w7 hH;simp only[qz0,Value.cells]at hH⊢;refine aa hH fun w8 hH=>hK5 _ _ (wp_seq_k fun K9 hK9=>wp_seq_k fun K10 hK10=>ak [.p 0,.p 1,.p 2] ?_);refine pm (pp rfl rfl (aM (hk.chg hH.chg) rfl Tryd.underlying31) (pp rfl rfl (ac rfl rfl (bZ (n:=64))) ?_));simp only[nf];refine aa hH fun w11 hH=>hK10 _ _ (wp_cond_false (by show BV _=_;exact congrArg BV (decide_eq_false (by omega))) (ak [.p 0,.p 1,.e 2] ?_));refine pp rfl rfl (aR rfl Tryd.underlying110 bL) (pm ?_);simp only[nf];refine lu 1 rfl rfl hH rfl (fun w' hH=>((hk.chg hH.chg)).csrc) rfl rfl Tryd.underlying31 bL (by omega) ?_;clear hH;intro w12 hH;simp only[qz0,Value.cells]at hH⊢;refine aa hH fun w13 hH=>?_;replace hH:=hH.say 1 rfl (bI (g:=vZ kl) fun j hj=>y9 kl h64 j);simp only[List.set_cons_zero,List.set_cons_succ]at hH;refine hK9 _ _ (wp_seq_k fun K14 hK14=>ak [.x 0,.x 1,.p 2,.p 3] ?_);refine ar rfl rfl hH B6 (fun w' hH=>j9 w' (hT.grow hH.chg)) rfl (fun _ _ _ h=>h.choose_spec.2.1) ?_;clear hH;intro w15 v16 w17 hH hp18;obtain⟨b19,rfl,hg,hfr,hbk⟩:=hp18;replace hH:=(hH.callnew hg hbk hfr).addnone 5 #[];clear hg hfr hbk;simp only[qz0,Value.cells]at hH⊢;refine ar rfl rfl hH B6 (fun w' hH=>j9 w' (hT.grow hH.chg)) rfl (fun _ _ _ h=>h.choose_spec.2.1) ?_;clear hH;intro w20 v21 w22 hH hp23;obtain⟨b24,rfl,hg,hfr,hbk⟩:=hp23;replace hH:=(hH.callnew hg hbk hfr).addnone 5 #[];clear hg hfr hbk;simp only[qz0,Value.cells]at hH⊢;refine pa (pa ?_);simp only[nf];refine aa hH fun w25 hH=>hK14 _ _ (wp_seq_k fun K26 hK26=>wp_seq_k fun K27 hK27=>ak [.q 0,.p 1] ?_);refine pq rfl rfl (aA rfl (hH.blk 1 rfl) Tryd.underlying110 rfl C9 (by simp)) (pk 0 ?_);simp only[nf];refine aa hH fun w28 hH=>hK27 _ _ (wp_block ?_);obtain⟨kc29,hkc30,hN⟩:=hH.name 0 rfl;replace hH:=hN;clear hN;simp only[List.set_cons_zero,List.set_cons_succ]at hH;obtain⟨kc31,hkc32,hN⟩:=hH.name 1 rfl;replace hH:=hN;clear hN;simp only[List.set_cons_zero,List.set_cons_succ]at hH;refine bd [26] [10,27,28,29,30,31,32,33,34,35,36,37,38,39] (fun(n33:Nat) (vs:List Value) (w':World)=>∃(i:Nat) (oa:Option Nat) (fa na ca:Nat) (sa:Array Value) (ob:Option Nat) (fb nb cb:Nat) (sb:Array Value),vs=[bb (i:Nat)]∧Hp [] w w' [(some b2,22,kc29),(some b6,110,kc31),(some b19,135,kw (tK kl i) (fC oa fa na ca)),(oa,5,sa),(some b24,135,kw (sY kl i) (fC ob fb nb cb)),(ob,5,sb)]∧n33=64 - i∧i≤64∧OwnD oa fa na ca sa (gK (tK kl i))∧OwnD ob fb nb cb sb (gK (sY kl i))) (64 - 0) (by kernel_rfl) ?_ ?_
 ·simp only[ga];refine⟨0,none,0,0,0,#[],none,0,0,0,#[],rfl,?_,rfl,?_,?_,?_⟩
  ·exact hH
  · omega
  · (exact OwnD.rest0)
  · (exact OwnD.rest0)
 clear hH;intro n33 vs34 w35 hR36 d0;obtain⟨i,oa,fa,na,ca,sa,ob,fb,nb,cb,sb,rfl,hH,hn37,hf38,hOa,hOb⟩:=hR36;simp only[bG,c6,List.set_cons_zero,List.set_cons_succ,Nat.zero_add,Nat.reduceAdd];subst hkc30 hkc32;refine wp_seq_k fun K39 hK39=>ak [.p 0] ?_;refine pp rfl rfl (ac rfl rfl (aJ (n:=64))) ?_;simp only[nf];refine aa hH fun w40 hH=>hK39 _ _ (wp_seq_k fun K41 hK41=>wp_cond_split rfl (fun hc42=>?_) (fun hc42=>?_))
 ·simp only[dm]at hc42;refine wp_skip (hK41 _ _ (wp_seq_k fun K43 hK43=>wp_block (wp_seq_k fun K44 hK44=>ak [.p 0,.p 1] ?_)));refine pp rfl rfl (eC rfl rfl Tryd.underlying110 bL (mh Tryd.underlying5 rfl) (by omega) (bK (by omega))) (pa ?_);simp only[nf];refine aa hH fun w45 hH=>hK44 _ _ (wp_seq_k fun K46 hK46=>ak [.p 0,.p 1,.p 2,.x 3,.e 4] ?_);refine pm (pm (pp rfl rfl (ac rfl rfl (ck _ 54)) ?_));simp only[nf];refine bA rfl rfl hH Tryd.underlying31 (by rfl) (ja _) ?_;clear hH;intro b47 w48 hH;simp only[qz0,Value.cells]at hH⊢;refine aB rfl rfl hH zO (fun w' hH=>ff _ _ _ _ _ _ _ _ _ w' (hT.grow hH.chg) (hH.no hT 2 3 rfl rfl (by decide)) (hH.no hT 2 3 rfl rfl (by decide)) (hH.blk 2 rfl) hOa (hH.opt2 2 3 rfl rfl (by decide)) (fun w2 hc=>(OwnC.sl (hH.keep2 2 3 6 rfl rfl rfl (by decide) (by decide) hc) 0 rfl (OwnC.of_bytes rfl))) (by(simp<;>omega))) rfl ?_;clear hH;intro w49 v50 w51 hH hp52;obtain⟨rfl,o53,f54,n55,c56,cs57,hg,hbk,hO58,hox⟩:=hp52;replace hH:=hH.callw2 2 3 rfl rfl (by decide) hg hbk hox;clear hg hbk hox;simp only[qz0,Value.cells]at hH⊢;refine aa hH fun w59 hH=>hK46 _ _ (ak [.p 0,.p 1,.p 2,.x 3,.e 4] ?_);refine pm (pm (pp rfl rfl (ac rfl rfl (ck _ 92)) ?_));simp only[nf];refine bA rfl rfl hH Tryd.underlying31 (by rfl) (ja _) ?_;clear hH;intro b60 w61 hH;simp only[qz0,Value.cells]at hH⊢;refine aB rfl rfl hH zO (fun w' hH=>ff _ _ _ _ _ _ _ _ _ w' (hT.grow hH.chg) (hH.no hT 4 5 rfl rfl (by decide)) (hH.no hT 4 5 rfl rfl (by decide)) (hH.blk 4 rfl) hOb (hH.opt2 4 5 rfl rfl (by decide)) (fun w2 hc=>(OwnC.sl (hH.keep2 4 5 7 rfl rfl rfl (by decide) (by decide) hc) 0 rfl (OwnC.of_bytes rfl))) (by(simp<;>omega))) rfl ?_;clear hH;intro w62 v63 w64 hH hp65;obtain⟨rfl,o66,f67,n68,c69,cs70,hg,hbk,hO71,hox⟩:=hp65;replace hH:=hH.callw2 4 5 rfl rfl (by decide) hg hbk hox;clear hg hbk hox;simp only[qz0,Value.cells]at hH⊢;refine aa hH fun w72 hH=>hK43 _ _ (ak [.p 0,.p 1] ?_);refine pp rfl rfl (ac rfl rfl (aE (n:=1) (by omega))) (pm ?_);simp only[nf];refine aa hH fun w73 hH=>?_;simp only[Exit.then,Exit.inBlock,↓reduceIte,Nat.reduceEqDiff];refine⟨64 - (i+1),?_,_,rfl,by kernel_rfl,?_⟩
  · omega
  simp only[ga];refine⟨i+1,o53,f54,n55,c56,cs57,o66,f67,n68,c69,cs70,rfl,?_,rfl,?_,?_,?_⟩
  ·rw[qo,qP]at hH;exact hH.take 6
  · omega
  · (rw[←qo];exact hO58)
  · (rw[←qP];exact hO71)
 ·simp only[dm]at hc42;obtain rfl:i=64:=by omega
  refine wp_exit ?_;simp only[Exit.then,Exit.inBlock,↓reduceIte,Nat.reduceEqDiff];refine hK26 _ _ (wp_seq_k fun K74 hK74=>ak [.p 0,.p 1,.e 2] ?_);refine pm (pm ?_);simp only[nf];refine aB rfl rfl hH zO (fun w' hH=>ff _ _ _ _ _ _ _ _ _ w' (hT.grow hH.chg) (hH.no hT 2 3 rfl rfl (by decide)) (hH.no hT 2 3 rfl rfl (by decide)) (hH.blk 2 rfl) hOa (hH.opt2 2 3 rfl rfl (by decide)) (fun w2 hc=>(hb.chg (hH.sure2 2 3 rfl rfl hc))) (by(simp<;>omega))) rfl ?_;clear hH;intro w75 v76 w77 hH hp78;obtain⟨rfl,o79,f80,n81,c82,cs83,hg,hbk,hO84,hox⟩:=hp78;replace hH:=hH.callw2 2 3 rfl rfl (by decide) hg hbk hox;clear hg hbk hox;simp only[qz0,Value.cells]at hH⊢;refine aa hH fun w85 hH=>hK74 _ _ (wp_seq_k fun K86 hK86=>ak [.p 0,.q 1,.x 2,.e 3] ?_);refine pm (pq rfl rfl (aj B8 (fun w' hw=>j0 _ _ _ w' (hT.grow (hH.chg.trans hw)) (hw.nil_blk (hH.blk 2 rfl)) ((OwnD.sl hH 3 rfl hO84).chg hw) (by(simp<;>omega))) rfl) ?_);simp only[nf];refine au rfl rfl hH eF ?_;clear hH;intro b87 w88 hH;simp only[qz0,Value.cells]at hH⊢;refine ao 6 rfl rfl hH rfl rfl rfl bj bp (by simp) (by simp) ?_;clear hH;intro w89 hH;simp only[qz0,Value.cells]at hH⊢;refine aa hH fun w90 hH=>hK86 _ _ (wp_seq_k fun K91 hK91=>ak [.p 0,.p 1,.e 2] ?_);refine pm (pp rfl rfl (aR rfl Tryd.underlying22 bL) ?_);simp only[nf];refine aB rfl rfl hH zO (fun w' hH=>ff _ _ _ _ _ _ _ _ _ w' (hT.grow hH.chg) (hH.no hT 4 5 rfl rfl (by decide)) (hH.no hT 4 5 rfl rfl (by decide)) (hH.blk 4 rfl) hOb (hH.opt2 4 5 rfl rfl (by decide)) (fun w2 hc=>(Sl.of_arr8 ((hH.keep2 4 5 6 rfl rfl rfl (by decide) (by decide) hc).blk 0 rfl) (by omega) (by omega))) (by(simp<;>omega))) rfl ?_;clear hH;intro w92 v93 w94 hH hp95;obtain⟨rfl,o96,f97,n98,c99,cs100,hg,hbk,hO101,hox⟩:=hp95;replace hH:=hH.callw2 4 5 rfl rfl (by decide) hg hbk hox;clear hg hbk hox;simp only[qz0,Value.cells]at hH⊢;refine aa hH fun w102 hH=>hK91 _ _ (wp_seq_k fun K103 hK103=>ak [.p 0,.q 1,.e 2] ?_);refine pm (pq rfl rfl (aj B8 (fun w' hw=>j0 _ _ _ w' (hT.grow (hH.chg.trans hw)) (hw.nil_blk (hH.blk 4 rfl)) ((OwnD.sl hH 5 rfl hO101).chg hw) (by(simp<;>omega))) rfl) ?_);simp only[nf];refine ao 0 rfl rfl hH rfl rfl rfl bj bp (by simp) (by simp) ?_;clear hH;intro w104 hH;simp only[qz0,Value.cells]at hH⊢;refine aa hH fun w105 hH=>hK103 _ _ (wp_ret ?_);refine BP.retc rfl rfl (hH.blk 0 rfl) Tryd.underlying22 rfl bp (by simp) ?_;exact⟨rfl,hH.chg⟩
end Go.Proofs.YtomjbepgbnbgmaaDoor
namespace Go.Proofs.YtomjbepgbnbgmaaDoor
open Go
theorem BP.retct {P:Program} {fn:Func} {Post:Value→World→Prop} {tm:List Value} {w:World} {p q:Tmp} {t T:TypeId} {D:TypeDesc} {b n:Nat} {cs:Array Value} {v2:Value} (hr:fn.results= #[.cell p t,.tmp q]) (hp:tm.getD p undef=PT b 0) (hq:tm.getD q undef=v2) (hb:cD w b T cs)
    (hu:P.underlying t=some D) (hD:dO D=true) (hs:szc P t=some n) (hn:cs.size=n) (h:Post (.tuple #[.agg cs,v2]) w):BP P fn Post .ret ⟨tm.toArray,[]⟩ w:=by
  subst hq;refine .of (v:= .tuple #[.agg cs,tm.getD q undef]) ?_ rfl h
  have hl := ie (P := P) (w := w) (b := b) (o := 0) (cs := cs) hu hD hs (fun j hj => by
    have hlt:0+j<cs.size:=by omega
    rw [hb.cell (Array.getElem?_eq_getElem hlt), Array.getElem?_eq_getElem hlt]) (by omega)
  rw[show cs.extract 0 (0+n)=cs by rw[Nat.zero_add,←hn];simp]at hl;have hp':tm[p]?.getD undef=PT b 0:=by rw[←hp,List.getD_eq_getElem?_getD]
  simp[results,hr,hp',asAddr,hl]
theorem nZ (w:World) (n c:Nat) (e:TypeId):n≤grownCap w n c e:=by
  simp[grownCap,Question.cut]
theorem zX (w:World) (e b:Nat) (s:ByteArray):OwnC (some b) s.size (grownCap w s.size 0 e) 1 (Lib.bytesCells w e s) (s.data.toList.map V8) where
  le:=nZ ..
  size:=by
    have h1:=nZ w s.size 0 e;have h2:s.data.size=s.size:=rfl;simp only[Lib.bytesCells,Array.size_append,Array.size_map,Array.size_replicate];omega
  nil h:=by cases h
  len:=by simp
  at_ i hi:=by
    have h2:s.data.size=s.size:=rfl;have h3:i<s.data.size:=by omega
    unfold Lib.bytesCells;rw[Array.getElem?_append_left (by simpa using h3),Array.getElem?_map,List.getElem?_map,Array.getElem?_toList]
theorem zE (w:World) (e:TypeId) (s:ByteArray):Chg [] w (Lib.bytesWorld w e s):=
  ((((Hp.start [] w).drew.alloc e (Lib.bytesCells w e s))).mark 0 rfl).chg
theorem OwnC.cut3 {o:Option Nat} {n c:Nat} {cs:Array Value} {l:List UInt8} {m:Nat} (h:OwnC o n c 1 cs (l.map V8)) (hm:m≤n):OwnD o 0 m m cs (l.take m) where
  le:=Nat.le_refl _;fit:=by have:=h.d.fit;have:=h.le;omega
  nil e:=by have:=h.nil e;have:=h.le;omega
  len:=by have:=h.d.len;rw[List.length_take];omega
  at_ i hi:=by
    rw[List.length_take]at hi;rw[h.d.at_ i (by omega)];simp
section
variable {P : Program} {ops : List Oper} {Q : Exit → Act → World → Prop} {r : List PStep} {a : Act} {w : World} {i : Nat} {d : Option Tmp} {ty : TypeId} {pos : String} {af : Array Edge} {g : Option (Nat × Bool)} {x y : Operand} {t t' T : TypeId}
  {S:List Nat} {w0:World} {L:List bU}
theorem aQ {dst:Tmp} {e:TypeId} {s:ByteArray} (ho:ops[i]? =some ⟨some dst,.convert t t' x,ty,pos,af,g⟩) (hg:Region.wanted ⟨some dst,.convert t t' x,ty,pos,af,g⟩ (yielded ops.toArray a.tmps)=true)
    (hH:Hp S w0 w L) (hx:a.eval x= .string s) (hu:P.underlying t=some .string) (hu':P.underlying t'=some (.slice e)) (he:P.underlying e=some (.int .u8))
    (h:∀b cap cs w',OwnC (some b) s.size cap 1 cs (s.data.toList.map V8)→Hp S w0 w' (L++[(some b,e,cs)])→aN P ops.toArray Q r (a.put (some dst) (own (some b) s.size cap)) w'):aN P ops.toArray Q (.x i::r) a w:=by
  refine lM hH ho hg fun w hH=>⟨own (some w.heap.size) s.size (grownCap w s.size 0 e),Lib.bytesWorld w e s,?_,zE w e s,h w.heap.size _ _ _ (zX w e _ s) ?_⟩
  · simp only[execOp,hx]
    rw[Sem.run_bind,Lib.run_convert_string_bytes w t t' e s hu hu' he]
    rfl
  · have h1:=((hH.drew.alloc e (Lib.bytesCells w e s))).mark L.length (b:=w.heap.size) (t:=e) (cs:=Lib.bytesCells w e s) (by simp)
    have e1:(L++[(some w.drew.heap.size,e,Lib.bytesCells w e s)]).set L.length (some w.heap.size,e,Lib.bytesCells w e s)=L++[(some w.heap.size,e,Lib.bytesCells w e s)]:=by
      rw[List.set_append_right _ _ (Nat.le_refl _),Nat.sub_self];rfl
    rw[e1]at h1
    exact h1
theorem sj {k k':IntKind} {e:TypeId} {o:Option Nat} {n c h:Nat} {xh xm:Operand} (hx:a.eval x=own o n c) (hh:a.eval xh= .int k (h:Int)) (hm:a.eval xm= .int k' (h:Int)) (hu:P.underlying t=some (.slice e)) (hs:szc P e=some 1) (h1:h≤c):
    c7 P ⟨d,.slice t x none (some xh) (some xm),ty,pos,af,g⟩ a (fC o 0 h h):=fun w=>by
  refine br (w:=w) ?_
  have e0:(if h=0 then(o.map fun b=>(⟨b,0,none⟩:Addr))else(o.map fun b=>(⟨b,0,none⟩:Addr)).map fun a=>a.add 0)=o.map fun b=>(⟨b,0,none⟩:Addr):=by
    split
    · rfl
    · cases o<;>simp[Addr.add]
  simp only[own,fC]at hx⊢;simp[hx,hh,hm,Instr.sliceAt,Instr.slice,run_underlying hu,Instr.sliceBounds,dX h1,dX (Nat.le_refl h),cn hs,e0];intro _;cases o<;>simp[Addr.add]
end
end Go.Proofs.YtomjbepgbnbgmaaDoor
namespace Go.Proofs.YtomjbepgbnbgmaaDoor
open Go
open List (getD_cons_zero getD_cons_succ set_cons_zero set_cons_succ)
def nr (sl bl:List UInt8):List UInt8:=(List.range 32).map (BR sl bl)
@[simp] theorem pi (sl bl:List UInt8):(nr sl bl).length=32:=by simp[nr]
def ua (sl il:List UInt8):Nat→List UInt8
  |0=>[]
  |k+1=>nr sl (ua sl il k++il++[UInt8.ofNat (k+1)])
def tM (sl il:List UInt8):Nat→List UInt8
  |0=>[]
  |k+1=>tM sl il k++ua sl il (k+1)
theorem qz (sl il:List UInt8) (k:Nat):ua sl il (k+1)=nr sl (ua sl il k++il++[UInt8.ofNat (k+1)]):=rfl
theorem xF (sl il:List UInt8) (k:Nat):tM sl il (k+1)=tM sl il k++nr sl (ua sl il k++il++[UInt8.ofNat (k+1)]):=rfl
def tN:Nat→Nat
  |0=>0
  |_+1=>32
theorem Dg (k:Nat):tN k≤32:=by cases k<;>simp[tN]
theorem Aw (n:Nat):UInt8.ofNat n+1=UInt8.ofNat (n+1):=by
  apply UInt8.toNat_inj.1;simp[UInt8.toNat_add]
def Dc (nm:ByteArray) (cl:List UInt8) (n:Nat):List UInt8:=
  [UInt8.ofNat (n/2^8),UInt8.ofNat n,UInt8.ofNat (6+nm.size)]++[116,108,115,49,51,32]++nm.data.toList++[UInt8.ofNat cl.length]++cl
def xw (sl:List UInt8) (nm:ByteArray) (cl:List UInt8) (n:Nat):List UInt8:=(tM sl (Dc nm cl n) ((n+31)/32)).take n
theorem Hp.two {S:List Nat} {w0 w:World} {L:List bU} (h:Hp S w0 w L) (i j:Nat) {e e':bU} (hi:L[i]? =some e) (hj:L[j]? =some e') (hij:i≠j):Hp S w0 w [e,e']:=by
  have h1:Hp S w0 w [e]:=(h.take 0).add e (fun b hb=>h.own e (List.mem_of_getElem? hi) b hb) (fun x hx=>by simp at hx);refine h1.add e' (fun b hb=>h.own e' (List.mem_of_getElem? hj) b hb) (fun x hx b hb hxb=>?_);simp only[List.mem_singleton]at hx;subst hx;exact hij (h.apart i j b (by rw[hi];exact hxb) (by rw[hj];exact hb))
theorem i' (sv bv:Value) (sl bl:List UInt8) (w:World) (hT:b_ w) (hs:Sl w sv sl) (hb:Sl w bv bl) (h64:sl.length≤64) (hm:bl.length≤140737488340000):aZ Tryd.prog 33 #[sv,bv] w fun v w'=>∃o cap cs,v=own o 32 cap∧Chg [] w w'∧OwnC o 32 cap 1 cs ((nr sl bl).map V8)∧∀b,o=some b→w.heap.size≤b∧cD w' b 22 cs:=by
 refine aZ.enter Tryd.func33 rfl ?_;simp only[Tryd.ntmps33,fe,Nat.reduceAdd,Nat.reduceSub];have hH:=Hp.start [] w;refine wp_seq_k fun K1 hK1=>ak [.p 0] ?_;refine pa ?_;simp only[nf];refine aa hH fun w2 hH=>hK1 _ _ (wp_seq_k fun K3 hK3=>ak [.p 0,.p 1,.q 2,.x 3,.e 4] ?_);refine pm (pm (pq rfl rfl (aj za (fun w' hw=>ji _ _ _ _ w' (hT.grow (hH.chg.trans hw)) ((hs.chg hH.chg).chg hw) ((hb.chg hH.chg).chg hw) (by assumption) (by omega)) rfl) ?_));simp only[nf];refine au rfl rfl hH eF ?_;clear hH;intro b4 w5 hH;simp only[qz0,Value.cells]at hH⊢;refine ao 0 rfl rfl hH rfl rfl rfl bj bp (by simp) (by simp) ?_;clear hH;intro w6 hH;simp only[qz0,Value.cells]at hH⊢;refine aa hH fun w7 hH=>hK3 _ _ (wp_seq_k fun K8 hK8=>ak [.p 0,.p 1] ?_);refine pp rfl rfl (aR rfl Tryd.underlying22 bL) (pa ?_);simp only[nf];refine aa hH fun w9 hH=>hK8 _ _ (wp_ret ?_);refine BP.ret1 rfl rfl ?_;exact⟨some _,32,_,rfl,hH.chg,OwnC.made,hH.owned 0 rfl⟩
theorem rI (sv iv:Value) (sl il:List UInt8) (n:Nat) (w:World) (hT:b_ w) (hs:Sl w sv sl) (hi:Sl w iv il) (h64:sl.length≤64) (hil:il.length≤10000) (hn:n≤8160):aZ Tryd.prog 83 #[sv,iv,bb n] w fun v w'=>∃o cs,v= .tuple #[fC o 0 n n,bb (0:Nat)]∧Chg [] w w'∧OwnD o 0 n n cs ((tM sl il ((n+31)/32)).take n)∧∀b,o=some b→w.heap.size≤b∧cD w' b 5 cs:=by
 refine aZ.enter Tryd.func83 rfl ?_;simp only[Tryd.ntmps83,fe,Nat.reduceAdd,Nat.reduceSub];have hH:=Hp.start [] w;refine wp_seq_k fun K1 hK1=>ak [.p 0,.p 1] ?_;refine pa (ci 0 ?_);simp only[nf];refine aa hH fun w2 hH=>hK1 _ _ (wp_seq_k fun K3 hK3=>wp_seq_k fun K4 hK4=>ak [.p 0,.p 1,.p 2,.p 3,.p 4,.p 5] ?_);refine pm (pp rfl rfl (ac rfl rfl (aJ (n:=0))) ?_);simp only[nf];refine aI (v:=BV false) rfl rfl (ap (by show BV _=_;exact congrArg BV (decide_eq_false (by omega)))) ?_;simp only[nf];refine pp rfl rfl aw (pp rfl rfl (ac rfl rfl (bZ (n:=8160))) (pp rfl rfl (aO rfl) ?_));simp only[nf];refine aa hH fun w5 hH=>hK4 _ _ (wp_cond_false (by show BV _=_;exact congrArg BV (decide_eq_false (by omega))) (wp_skip (hK3 _ _ (wp_seq_k fun K6 hK6=>ak [.p 0,.p 1] ?_))));refine pa (pa ?_);simp only[nf];refine aa hH fun w7 hH=>hK6 _ _ (wp_seq_k fun K8 hK8=>wp_seq_k fun K9 hK9=>ak [.p 0] ?_);refine pa ?_;simp only[nf];refine aa hH fun w10 hH=>hK9 _ _ (wp_block (bd [8,9,10] [11,12,19,20,21,22,23,24,25,26,27,28,29,30,31,32,33,34,35,36,37,38,39] (fun(n11:Nat) (vs:List Value) (w':World)=>∃(k:Nat) (o:Option Nat) (c:Nat) (cs:Array Value) (ot:Option Nat) (tc:Nat) (ts:Array Value),vs=[own o (32*k) c,own ot (tN k) tc,V8 (UInt8.ofNat (k+1))]∧Hp [] w w' [(o,5,cs),(ot,22,ts)]∧n11=(n+31)/32 - k∧k≤(n+31)/32∧OwnC o (32*k) c 1 cs ((tM sl il k).map V8)∧OwnC ot (tN k) tc 1 ts ((ua sl il k).map V8)) ((n+31)/32 - 0) (by kernel_rfl) ?_ ?_))
 ·simp only[ga];refine⟨0,none,0,#[],none,0,#[],rfl,?_,rfl,?_,?_,?_⟩
  ·exact(hH.nil _).nil _
  · omega
  · (exact OwnC.start 1)
  · (exact OwnC.start 1)
 clear hH;intro n11 vs12 w13 hR14 d0;obtain⟨k,o,c,cs,ot,tc,ts,rfl,hH,hn15,hf16,hO,hOt⟩:=hR14;simp only[bG,c6,List.set_cons_zero,List.set_cons_succ,Nat.zero_add,Nat.reduceAdd];have htn:=Dg k;have hlt:=hOt.d.len;have hlo:=hO.d.len;refine wp_seq_k fun K17 hK17=>wp_seq_k fun K18 hK18=>ak [.p 0,.p 1,.p 2,.p 3] ?_;refine pm (pp rfl rfl (bC rfl Tryd.underlying31) (pm (pp rfl rfl (ac rfl rfl (aJ)) ?_)));simp only[nf];refine aa hH fun w19 hH=>hK18 _ _ (wp_cond_split rfl (fun hc20=>?_) (fun hc20=>?_))
 ·simp only[dm]at hc20;refine wp_skip (hK17 _ _ (wp_seq_k fun K21 hK21=>wp_block (wp_seq_k fun K22 hK22=>ak [.x 0,.p 1,.e 2,.p 3,.e 4,.p 5,.x 6,.e 7,.p 8] ?_)));refine bA rfl rfl hH Tryd.underlying31 (by rfl) (bs0) ?_;clear hH;intro b23 w24 hH;simp only[qz0,Value.cells]at hH⊢;refine pm ?_;simp only[nf];refine bn 2 rfl rfl hH rfl (OwnC.of_bytes rfl) (fun w' hH=>((OwnC.sl hH 1 rfl hOt)).src) rfl rfl Tryd.underlying31 Tryd.underlying31 (.inl ⟨_,rfl⟩) bL iX iW rfl (by(simp<;>omega)) (by(simp<;>omega)) ?_;clear hH;intro o25 cap26 cs27 w28 hO29 hH;simp only[nf]at hH⊢;rw[←List.map_append]at hO29;simp only[Nat.zero_add,List.nil_append,List.length_nil]at hO29⊢;refine pm ?_;simp only[nf];refine bn 2 rfl rfl hH rfl hO29 (fun w' hH=>((hi.chg hH.chg)).src) rfl rfl Tryd.underlying31 Tryd.underlying31 (.inl ⟨_,rfl⟩) bL iX iW rfl (by omega) (by omega) ?_;clear hH;intro o30 cap31 cs32 w33 hO34 hH;simp only[nf]at hH⊢;rw[←List.map_append]at hO34;refine pm ?_;simp only[nf];refine bA rfl rfl hH Tryd.underlying31 (by rfl) (ja _) ?_;clear hH;intro b35 w36 hH;simp only[qz0,Value.cells]at hH⊢;refine bn 2 rfl rfl hH rfl hO34 (fun w' hH=>((OwnC.sl hH 3 rfl (OwnC.of_bytes rfl))).src) rfl rfl Tryd.underlying31 Tryd.underlying31 (.inl ⟨_,rfl⟩) bL iX iW rfl (by(simp<;>omega)) (by(simp<;>omega)) ?_;clear hH;intro o37 cap38 cs39 w40 hO41 hH;simp only[nf]at hH⊢;rw[←List.map_append]at hO41;refine pa ?_;simp only[nf];refine aa hH fun w42 hH=>hK22 _ _ (wp_seq_k fun K43 hK43=>ak [.p 0,.p 1,.q 2,.x 3,.e 4] ?_);refine pm (pm (pq rfl rfl (aj za (fun w' hw=>ji _ _ _ _ w' (hT.grow (hH.chg.trans hw)) ((hs.chg hH.chg).chg hw) ((OwnC.sl hH 2 rfl hO41).chg hw) (by assumption) (by(simp<;>omega))) rfl) ?_));simp only[nf];refine au rfl rfl hH eF ?_;clear hH;intro b44 w45 hH;simp only[qz0,Value.cells]at hH⊢;refine ao 4 rfl rfl hH rfl rfl rfl bj bp (by simp) (by simp) ?_;clear hH;intro w46 hH;simp only[qz0,Value.cells]at hH⊢;refine aa hH fun w47 hH=>hK43 _ _ (wp_seq_k fun K48 hK48=>ak [.p 0,.p 1] ?_);refine pp rfl rfl (aR rfl Tryd.underlying22 bL) (pa ?_);simp only[nf];refine aa hH fun w49 hH=>hK48 _ _ (ak [.p 0,.p 1,.e 2,.p 3] ?_);refine pm (pm ?_);simp only[nf];refine bn 0 rfl rfl hH rfl hO (fun w' hH=>((Sl.of_arr8 (hH.blk 4 rfl) (by omega) (by omega))).src) rfl rfl Tryd.underlying31 Tryd.underlying31 (.inl ⟨_,rfl⟩) bL iX iW rfl (by(simp<;>omega)) (by(simp<;>omega)) ?_;clear hH;intro o50 cap51 cs52 w53 hO54 hH;simp only[nf]at hH⊢;rw[←List.map_append]at hO54;simp only[Nat.zero_add,List.nil_append,List.length_nil]at hO54⊢;refine pa ?_;simp only[nf];refine aa hH fun w55 hH=>hK21 _ _ (ak [.p 0,.p 1,.p 2] ?_);refine pm (pp rfl rfl (ac rfl rfl (uz _ 1)) (pa ?_));simp only[nf];refine aa hH fun w56 hH=>?_;simp only[Exit.then,Exit.inBlock,↓reduceIte,Nat.reduceEqDiff];rw[Aw];refine⟨(n+31)/32 - (k+1),?_,_,rfl,by kernel_rfl,?_⟩
  · omega
  simp only[ga];refine⟨k+1,o50,cap51,cs52,some b44,32,a9 32 (BR sl (ua sl il k++il++[UInt8.ofNat (k+1)])),rfl,?_,rfl,?_,?_,?_⟩
  ·exact hH.two 0 4 rfl rfl (by decide)
  · omega
  · (rw[xF];exact hO54)
  · (rw[qz];exact OwnC.made)
 ·simp only[dm]at hc20;obtain rfl:k=(n+31)/32:=by omega
  refine wp_exit ?_;simp only[Exit.then,Exit.inBlock,↓reduceIte,Nat.reduceEqDiff];refine hK8 _ _ (wp_seq_k fun K57 hK57=>ak [.p 0,.p 1,.p 2,.p 3,.p 4,.p 5] ?_);refine pm (pm (pm (pp rfl rfl (sj rfl rfl rfl Tryd.underlying31 bL (Nat.le_trans (by omega) (OwnC.le hO))) (pa (ci 0 ?_)))));simp only[nf];refine aa hH fun w58 hH=>hK57 _ _ (wp_ret ?_);refine BP.ret2 rfl rfl rfl ?_;exact⟨_,_,rfl,hH.chg,hO.cut3 (by omega),hH.owned 0 rfl⟩
theorem mJ (sv cv:Value) (nm:ByteArray) (sl cl:List UInt8) (n:Nat) (w:World) (hT:b_ w) (hs:Sl w sv sl) (hc:Sl w cv cl) (h64:sl.length≤64) (hnm:nm.size≤249) (hcl:cl.length≤255) (hn:n≤8160):aZ Tryd.prog 67 #[sv,.string nm,cv,bb n] w fun v w'=>∃o cs,v= .tuple #[fC o 0 n n,bb (0:Nat)]∧Chg [] w w'∧OwnD o 0 n n cs (xw sl nm cl n)∧∀b,o=some b→w.heap.size≤b∧cD w' b 5 cs:=by
 have h6:(⟨#[116,108,115,49,51,32]⟩:ByteArray).size=6:=rfl;refine aZ.enter Tryd.func67 rfl ?_;simp only[Tryd.ntmps67,fe,Nat.reduceAdd,Nat.reduceSub];have hH:=Hp.start [] w;refine wp_seq_k fun K1 hK1=>ak [.p 0,.p 1] ?_;refine pa (ci 0 ?_);simp only[nf];refine aa hH fun w2 hH=>hK1 _ _ (wp_seq_k fun K3 hK3=>wp_block (wp_seq_k fun K4 hK4=>ak [.p 0,.p 1,.p 2,.p 3,.p 4,.p 5,.p 6] ?_));refine pm ?_;simp only[nf];refine pp rfl rfl (ac rfl rfl (by exact aJ (n:=0))) ?_;simp only[nf];refine aI (v:=BV false) rfl rfl (ap (by show BV _=_;exact congrArg BV (decide_eq_false (by omega)))) ?_;simp only[nf];refine pp rfl rfl aw ?_;simp only[nf];refine pp rfl rfl (ac rfl rfl (by exact bZ (n:=8160))) ?_;simp only[nf];refine pp rfl rfl (aO rfl) ?_;simp only[nf];refine pa ?_;simp only[nf];refine aa hH fun w5 hH=>hK4 _ _ (wp_cond_false (by show BV _=_;exact congrArg BV (decide_eq_false (by omega))) (wp_seq_k fun K6 hK6=>ak [.p 0,.p 1,.p 2,.p 3,.p 4,.p 5,.p 6,.p 7,.p 8] ?_));refine pm ?_;simp only[nf];refine pp rfl rfl (bE rfl Tryd.underlying9) ?_;simp only[nf];refine pp rfl rfl (ac rfl rfl (by exact bZ (n:=249))) ?_;simp only[nf];refine aI (v:=BV false) rfl rfl (ap (by show BV _=_;exact congrArg BV (decide_eq_false (by omega)))) ?_;simp only[nf];refine pp rfl rfl aw ?_;simp only[nf];refine pp rfl rfl (aM (hc.chg hH.chg) rfl Tryd.underlying31) ?_;simp only[nf];refine pp rfl rfl (ac rfl rfl (by exact bZ (n:=255))) ?_;simp only[nf];refine pp rfl rfl (aO rfl) ?_;simp only[nf];refine pa ?_;simp only[nf];refine aa hH fun w7 hH=>hK6 _ _ (wp_cond_false (by show BV _=_;exact congrArg BV (decide_eq_false (by omega))) (wp_skip (hK3 _ _ (wp_seq_k fun K8 hK8=>ak [.p 0,.p 1,.p 2,.p 3,.p 4,.p 5,.p 6,.p 7,.p 8,.x 9,.e 10,.p 11] ?_))));refine pm ?_;simp only[nf];refine pp rfl rfl (ac rfl rfl (nK (c:=8) (by decide))) ?_;simp only[nf];refine pp rfl rfl (bw rfl (by exact gO Tryd.underlying3 Tryd.underlying5)) ?_;simp only[nf];refine pm ?_;simp only[nf];refine pp rfl rfl (bw rfl (by exact gO Tryd.underlying3 Tryd.underlying5)) ?_;simp only[nf];refine pm ?_;simp only[nf];refine pp rfl rfl (bE rfl Tryd.underlying9) ?_;simp only[nf];refine pp rfl rfl (ac rfl rfl (by exact aE (m:=6) (by omega))) ?_;simp only[nf];refine pp rfl rfl (bw rfl (by exact gO Tryd.underlying3 Tryd.underlying5)) ?_;simp only[nf];refine bA rfl rfl hH Tryd.underlying31 (by rfl) (bs3 _ _ _) ?_;clear hH;intro b9 w10 hH;simp only[qz0,Value.cells]at hH⊢;refine bn 0 rfl rfl hH rfl (OwnC.of_bytes rfl) (fun w' hH=>mp _) rfl rfl Tryd.underlying31 Tryd.underlying9 (.inr rfl) bL iX iW rfl (by(simp<;>omega)) (by(simp<;>omega)) ?_;clear hH;intro o11 cap12 cs13 w14 hO15 hH;simp only[nf]at hH⊢;rw[←List.map_append]at hO15;simp only[Nat.zero_add,List.nil_append,List.length_nil]at hO15⊢;refine pa ?_;simp only[nf];refine aa hH fun w16 hH=>hK8 _ _ (wp_seq_k fun K17 hK17=>ak [.p 0,.p 1,.e 2,.p 3,.p 4,.p 5,.x 6,.e 7,.p 8] ?_);refine pm (pm ?_);simp only[nf];refine bn 0 rfl rfl hH rfl hO15 (fun w' hH=>mp _) rfl rfl Tryd.underlying31 Tryd.underlying9 (.inr rfl) bL iX iW rfl (by(simp<;>omega)) (by(simp<;>omega)) ?_;clear hH;intro o18 cap19 cs20 w21 hO22 hH;simp only[nf]at hH⊢;rw[←List.map_append]at hO22;refine pm ?_;simp only[nf];refine pp rfl rfl (aM (hc.chg hH.chg) rfl Tryd.underlying31) ?_;simp only[nf];refine pp rfl rfl (bw rfl (by exact gO Tryd.underlying3 Tryd.underlying5)) ?_;simp only[nf];refine bA rfl rfl hH Tryd.underlying31 (by rfl) (ja _) ?_;clear hH;intro b23 w24 hH;simp only[qz0,Value.cells]at hH⊢;refine bn 0 rfl rfl hH rfl hO22 (fun w' hH=>((OwnC.sl hH 1 rfl (OwnC.of_bytes rfl))).src) rfl rfl Tryd.underlying31 Tryd.underlying31 (.inl ⟨_,rfl⟩) bL iX iW rfl (by(simp<;>omega)) (by(simp<;>omega)) ?_;clear hH;intro o25 cap26 cs27 w28 hO29 hH;simp only[nf]at hH⊢;rw[←List.map_append]at hO29;refine pa ?_;simp only[nf];refine aa hH fun w30 hH=>hK17 _ _ (wp_seq_k fun K31 hK31=>ak [.p 0,.p 1,.p 2,.e 3,.p 4,.x 5,.p 6,.p 7,.p 8,.p 9] ?_);refine pm (pm (pm ?_));simp only[nf];refine bn 0 rfl rfl hH rfl hO29 (fun w' hH=>((hc.chg hH.chg)).src) rfl rfl Tryd.underlying31 Tryd.underlying31 (.inl ⟨_,rfl⟩) bL iX iW rfl (by(simp<;>omega)) (by(simp<;>omega)) ?_;clear hH;intro o32 cap33 cs34 w35 hO36 hH;simp only[nf]at hH⊢;rw[←List.map_append]at hO36;refine pm ?_;simp only[nf];refine ar rfl rfl hH cf83 (fun w' hH=>rI _ _ _ _ _ w' (hT.grow hH.chg) (hs.chg hH.chg) (OwnC.sl hH 0 rfl hO36) h64 (by(simp<;>omega)) hn) rfl (fun _ _ _ h=>by obtain⟨_,_,_,hg,_⟩:=h;exact hg) ?_;clear hH;intro w37 v38 w39 hH hp40;obtain⟨o41,cs42,rfl,hg,hO43,hfr⟩:=hp40;replace hH:=hH.callown hg hfr;clear hg hfr;simp only[qz0,Value.cells]at hH⊢;refine pp rfl rfl (ai rfl rfl) ?_;simp only[nf];refine pp rfl rfl (ai rfl rfl) ?_;simp only[nf];refine pa (pa ?_);simp only[nf];refine aa hH fun w44 hH=>hK31 _ _ (wp_ret ?_);refine BP.ret2 rfl rfl rfl ?_;exact⟨_,_,rfl,hH.chg,by assumption,hH.owned 2 rfl⟩
end Go.Proofs.YtomjbepgbnbgmaaDoor
namespace Go.Proofs.YtomjbepgbnbgmaaDoor
open Go
abbrev bF:=Nat→UInt64
def yP (b:Nat→UInt8):Nat→bF
  |0=>fun _=>0
  |i+1=>dn (yP b i) (i/51) (yP b i (i/51)|||(if i%51<64 then((if i%8<8 then b (i/8)>>>UInt8.ofNat (i%8)else 0)&&&1).toUInt64<<<UInt64.ofNat (i%51)else 0))
def o_ (b:Nat→UInt8):bF:=yP b 255
def ia (f:bF):Nat→bF×UInt64
  |0=>(f,0)
  |i+1=>(dn (dn (ia f i).1 i ((ia f i).1 i+(ia f i).2)) i (dn (ia f i).1 i ((ia f i).1 i+(ia f i).2) i&&&2251799813685247),dn (ia f i).1 i ((ia f i).1 i+(ia f i).2) i>>>51)
def eA (f:bF):bF:=dn (ia f 5).1 0 ((ia f 5).1 0+19*(ia f 5).2)
def lU (a:bF):Nat→UInt64
  |0=>a 0+19
  |i+1=>a (i+1)+lU a i>>>51
def lT (a:bF):Nat→bF
  |0=>a
  |i+1=>dn (dn (lT a i) (i+1) (lT a i (i+1)+lT a i i>>>51)) i (dn (lT a i) (i+1) (lT a i (i+1)+lT a i i>>>51) i&&&2251799813685247)
def xn (a:bF):bF:=dn (lT (dn a 0 (a 0+(19:UInt64)*(lU a 4>>>51))) 4) 4 (lT (dn a 0 (a 0+(19:UInt64)*(lU a 4>>>51))) 4 4&&&2251799813685247)
def od (a:bF):Nat→Nat→UInt8
  |0=>fun _=>0
  |i+1=>dn (od a i) (i/8) (od a i (i/8)|||(if i%8<8 then((if i%51<64 then a (i/51)>>>UInt64.ofNat (i%51)else 0)&&&1).toUInt8<<<UInt8.ofNat (i%8)else 0))
def g_ (f:bF):Nat→UInt8:=od (xn (eA (eA (eA f)))) 255
def ow (f g:bF):Nat→bF
  |0=>f
  |i+1=>dn (ow f g i) i (ow f g i i+g i)
def tW (f g:bF):bF:=eA (ow f g 5)
def most (i:Nat):UInt64:=if i=0 then 9007199254740988 - 72 else 9007199254740988
def kB (f g:bF):Nat→bF
  |0=>f
  |i+1=>dn (kB f g i) i (kB f g i i+(most i - g i))
def tt (f g:bF):bF:=eA (kB f g 5)
def xq (x y:UInt64):UInt64:=UInt64.ofNat (x.toNat*y.toNat/18446744073709551616)
def qj (x y:UInt64):UInt64:=UInt64.ofNat ((x.toNat+y.toNat)/18446744073709551616)
def jM (i j:Nat):Nat:=if 5≤i+j then i+j - 5 else i+j
def lP (i j:Nat) (y:UInt64):UInt64:=if 5≤i+j then y*19 else y
def t_ (i j:Nat) (x y:UInt64) (s:bF×bF):bF×bF:=
  (dn s.1 (jM i j) (s.1 (jM i j)+(xq x (lP i j y)+qj (s.2 (jM i j)) (x*lP i j y))),dn s.2 (jM i j) (s.2 (jM i j)+x*lP i j y))
def mx (i:Nat) (x:UInt64) (g:bF) (s:bF×bF):Nat→bF×bF
  |0=>s
  |j+1=>t_ i j x (g j) (mx i x g s j)
def fW (f g:bF):Nat→bF×bF
  |0=>(fun _=>0,fun _=>0)
  |i+1=>mx i (f i) g (fW f g i) 5
def fB (s:bF×bF):Nat→bF×UInt64
  |0=>(fun _=>0,0)
  |k+1=>(dn (fB s k).1 k ((s.2 k+(fB s k).2)&&&2251799813685247),(s.1 k+qj (s.2 k) (fB s k).2)<<<13|||(s.2 k+(fB s k).2)>>>51)
def oO (p:bF×UInt64):bF:=dn (dn p.1 0 (p.1 0+(19:UInt64)*(p.2&&&2251799813685247))) 1 (dn p.1 0 (p.1 0+(19:UInt64)*(p.2&&&2251799813685247)) 1+(19:UInt64)*(p.2>>>51))
def g9 (f g:bF):bF:=eA (oO (fB (fW f g 5) 5))
theorem zR (x:UInt64):(x&&&4294967295).toNat=x.toNat%4294967296:=by rw[UInt64.toNat_and];exact Nat.and_two_pow_sub_one_eq_mod x.toNat 32
theorem tD (x:UInt64):(x>>>32).toNat=x.toNat/4294967296:=by rw[UInt64.toNat_shiftRight];exact Nat.shiftRight_eq_div_pow _ _
theorem pv {a b:Nat} (ha:a<4294967296) (hb:b<4294967296):a*b≤18446744065119617025:=Nat.mul_le_mul (show a≤4294967295 by omega) (show b≤4294967295 by omega)
theorem wI {a b:UInt64} (ha:a.toNat<4294967296) (hb:b.toNat<4294967296):(a*b).toNat=a.toNat*b.toNat:=by
  rw[UInt64.toNat_mul];have:=pv ha hb;exact Nat.mod_eq_of_lt (by omega)
theorem sQ (x y:UInt64):(xq x y).toNat=x.toNat*y.toNat/18446744073709551616:=by
  unfold xq;have hx:=x.toNat_lt;have hy:=y.toNat_lt;have:x.toNat*y.toNat≤18446744073709551615*18446744073709551615:=Nat.mul_le_mul (by omega) (by omega);exact UInt64.toNat_ofNat_of_lt' (by have:UInt64.size=18446744073709551616:=rfl;omega)
theorem zM (x y:UInt64):(x>>>32)*(y>>>32)+((x>>>32)*(y&&&(4294967295:UInt64))+((x&&&(4294967295:UInt64))*(y&&&(4294967295:UInt64)))>>>32)>>>32+((((x>>>32)*(y&&&(4294967295:UInt64))+((x&&&(4294967295:UInt64))*(y&&&(4294967295:UInt64)))>>>32)&&&(4294967295:UInt64))+(x&&&(4294967295:UInt64))*(y>>>32))>>>32=xq x y:=by
  apply UInt64.toNat_inj.1;rw[sQ];have hx0:=zR x;have hx1:=tD x;have hy0:=zR y;have hy1:=tD y;have lx:=x.toNat_lt;have ly:=y.toNat_lt;have ex:x.toNat=x.toNat/4294967296*4294967296+x.toNat%4294967296:=by omega
  have ey:y.toNat=y.toNat/4294967296*4294967296+y.toNat%4294967296:=by omega
  generalize x>>>32=a1 at *;generalize y>>>32=b1 at *;generalize x&&&(4294967295:UInt64)=a0 at *;generalize y&&&(4294967295:UInt64)=b0 at *;have l0:a0.toNat<4294967296:=by omega
  have l1:a1.toNat<4294967296:=by omega
  have k0:b0.toNat<4294967296:=by omega
  have k1:b1.toNat<4294967296:=by omega
  rw[←hx0,←hx1]at ex;rw[←hy0,←hy1]at ey
  have ep:x.toNat*y.toNat=a1.toNat*b1.toNat*18446744073709551616+(a1.toNat*b0.toNat+a0.toNat*b1.toNat)*4294967296+a0.toNat*b0.toNat:=by
    rw[ex,ey];grind
  rw[ep];have p00:=pv l0 k0;have p01:=pv l0 k1;have p10:=pv l1 k0;have p11:=pv l1 k1;have m00:=wI l0 k0;have m01:=wI l0 k1;have m10:=wI l1 k0;have m11:=wI l1 k1;generalize a0*b0=q00 at *;generalize a0*b1=q01 at *;generalize a1*b0=q10 at *;generalize a1*b1=q11 at *;generalize a0.toNat*b0.toNat=n00 at *;generalize a0.toNat*b1.toNat=n01 at *;generalize a1.toNat*b0.toNat=n10 at *;generalize a1.toNat*b1.toNat=n11 at *;have t1:(q10+q00>>>32).toNat=n10+n00/4294967296:=by rw[UInt64.toNat_add,tD,m00,m10];omega
  have t2:(((q10+q00>>>32)&&&(4294967295:UInt64))+q01).toNat=(n10+n00/4294967296)%4294967296+n01:=by rw[UInt64.toNat_add,zR,t1,m01];omega
  rw[UInt64.toNat_add,UInt64.toNat_add,tD,tD,t1,t2,m11];omega
def zs:bF:=fun i=>if i=0 then 1 else 0
def nS (f:bF):Nat→bF
  |0=>zs
  |n+1=>if n=252∨n=250 then g9 (nS f n) (nS f n)else g9 (g9 (nS f n) (nS f n)) f
def An (f:bF):bF:=nS f 255
def B_ (s:Bool):UInt64:=if s then 18446744073709551615 else 0
def qC (s:Bool) (f g:bF):Nat→bF×bF
  |0=>(f,g)
  |i+1=>(dn (qC s f g i).1 i ((qC s f g i).1 i^^^(((qC s f g i).1 i^^^(qC s f g i).2 i)&&&B_ s)),dn (qC s f g i).2 i ((qC s f g i).2 i^^^(((qC s f g i).1 i^^^(qC s f g i).2 i)&&&B_ s)))
theorem sV (s:Bool) (f g:bF):∀n j,(qC s f g n).1 j=(if j<n∧s=true then g j else f j)∧(qC s f g n).2 j=(if j<n∧s=true then f j else g j)
  |0,j=>by simp[qC]
  |n+1,j=>by
    have ih:=sV s f g n
    have e:∀x y:UInt64,x^^^((x^^^y)&&&B_ s)=(if s=true then y else x)∧y^^^((x^^^y)&&&B_ s)=(if s=true then x else y):=fun x y=>by
      cases s
      · simp[B_]
      · have hm:∀z:UInt64,z&&&B_ true=z:=fun z=>UInt64.toBitVec_inj.1 (by rw[UInt64.toBitVec_and];show z.toBitVec&&&BitVec.allOnes 64=_;rw[BitVec.and_allOnes])
        rw[hm,←UInt64.xor_assoc,UInt64.xor_self,UInt64.zero_xor,UInt64.xor_comm x y,←UInt64.xor_assoc,UInt64.xor_self,UInt64.zero_xor];exact⟨rfl,rfl⟩
    have i1:=(ih n).1;have i2:=(ih n).2;rw[if_neg (by omega)]at i1 i2;simp only[qC,dn];rw[i1,i2,(e _ _).1,(e _ _).2,(ih j).1,(ih j).2];by_cases hj:j=n
    · subst hj
      rw[if_pos rfl,if_pos rfl];cases s<;>simp
    · rw[if_neg hj,if_neg hj]
      have:j<n+1↔j<n:=by omega
      simp[this]
theorem tX (f g:bF):bf 5 (qC true f g 5).1=bf 5 g:=fR fun i hi=>by rw[(sV true f g 5 i).1,if_pos ⟨hi,rfl⟩]
theorem r8 (f g:bF):bf 5 (qC true f g 5).2=bf 5 f:=fR fun i hi=>by rw[(sV true f g 5 i).2,if_pos ⟨hi,rfl⟩]
theorem qY (f g:bF):bf 5 (qC false f g 5).1=bf 5 f:=fR fun i hi=>by rw[(sV false f g 5 i).1,if_neg (by simp)]
theorem q6 (f g:bF):bf 5 (qC false f g 5).2=bf 5 g:=fR fun i hi=>by rw[(sV false f g 5 i).2,if_neg (by simp)]
structure Pt where
  x:bF
  z:bF
abbrev Pt.v (p:Pt):Value:= .agg (bf 10 (je p.x p.z))
def iQ (l:List UInt8):bF:=o_ fun i=>l.getD i 0
def px (p:Pt):bF:=tW p.x p.z
def r4 (p:Pt):bF:=tt p.x p.z
def Bs (p:Pt):bF:=tt (g9 (px p) (px p)) (g9 (r4 p) (r4 p))
def v6 (p q:Pt):bF:=g9 (tW q.x q.z) (r4 p)
def wE (p q:Pt):bF:=g9 (tt q.x q.z) (px p)
def qt (p:Pt):Pt:=⟨g9 (g9 (px p) (px p)) (g9 (r4 p) (r4 p)),g9 (Bs p) (tW (g9 (px p) (px p)) (g9 (iQ [65,219,1]) (Bs p)))⟩
def qu (p q:Pt) (u:bF):Pt:=⟨g9 (tW (v6 p q) (wE p q)) (tW (v6 p q) (wE p q)),g9 u (g9 (tt (v6 p q) (wE p q)) (tt (v6 p q) (wE p q)))⟩
def ju (n:Nat→UInt8) (i:Nat):Bool:=decide (i=254)||(decide (3≤i)&&(((if i%8<8 then n (i/8)>>>UInt8.ofNat (i%8)else 0)&&&1)==1))
def cG (n:Nat→UInt8) (u:bF):Nat→Pt×Pt×Bool
  |0=>(⟨iQ [1],iQ []⟩,⟨u,iQ [1]⟩,false)
  |k+1=>
    let s:=cG n u k
    let b:=ju n (254 - k)
    let c:=b !=s.2.2
    let p:Pt:=⟨if c then s.2.1.x else s.1.x,if c then s.2.1.z else s.1.z⟩
    let q:Pt:=⟨if c then s.1.x else s.2.1.x,if c then s.1.z else s.2.1.z⟩
    (qt p,qu p q u,b)
def bu (n at':Nat→UInt8):Nat→UInt8:=
  let s:=cG n (o_ at') 255
  let x:=if s.2.2 then s.2.1.x else s.1.x
  let z:=if s.2.2 then s.2.1.z else s.1.z
  g_ (g9 x (An z))
end Go.Proofs.YtomjbepgbnbgmaaDoor
namespace Go.Proofs.YtomjbepgbnbgmaaDoor
open Go
theorem Hp.join {S:List Nat} {w0 w w':World} {L es:List bU} (h:Hp S w0 w L) (k:Hp [] w w' es):Hp S w0 w' (L++es) where
  chg:=h.chg.trans' k.chg (by simp)
  own x hx b hb:=by
    rcases List.mem_append.1 hx with hx|hx
    · exact(h.call k.chg).own x hx b hb
    · obtain⟨h1,h2⟩:=k.own x hx b hb
      refine⟨.inl (Nat.le_trans h.chg.size (h1.resolve_right (by simp))),h2⟩
  apart i j b hi hj:=by
    have key:∀m:Nat,((L++es)[m]?).bind bU.at=some b→(m<L.length∧(L[m]?).bind bU.at=some b)∨(L.length≤m∧(es[m - L.length]?).bind bU.at=some b):=by
      intro m hm;rw[List.getElem?_append]at hm;split at hm
      · rename_i h1;exact .inl ⟨h1,hm⟩
      · rename_i h1;exact .inr ⟨by omega,hm⟩
    have cross:∀m m':Nat,(L[m]?).bind bU.at=some b→(es[m']?).bind bU.at=some b→False:=by
      intro m m' h1 h2;obtain⟨x,hx,hxb⟩:=Option.bind_eq_some_iff.1 h1;obtain⟨y,hy,hyb⟩:=Option.bind_eq_some_iff.1 h2;have a1:=h.lt (List.mem_of_getElem? hx) hxb;have a2:=(k.own y (List.mem_of_getElem? hy) b hyb).1.resolve_right (by simp);omega
    rcases key i hi with ⟨a1,a2⟩|⟨a1,a2⟩<;>rcases key j hj with ⟨c1,c2⟩|⟨c1,c2⟩
    · exact h.apart i j b a2 c2
    · exact(cross _ _ a2 c2).elim
    · exact(cross _ _ c2 a2).elim
    · have:=k.apart _ _ b a2 c2;omega
theorem Hp.pick1 {S:List Nat} {w0 w:World} {L:List bU} (h:Hp S w0 w L) (i:Nat) {e:bU} (hi:L[i]? =some e):Hp S w0 w [e]:=
  (h.take 0).add e (fun b hb=>h.own e (List.mem_of_getElem? hi) b hb) (fun x hx=>by simp at hx)
theorem Hp.pick2 {S:List Nat} {w0 w:World} {L:List bU} (h:Hp S w0 w L) (i j:Nat) {e e':bU} (hi:L[i]? =some e) (hj:L[j]? =some e') (hij:i≠j):Hp S w0 w [e,e']:=by
  refine(h.pick1 i hi).add e' (fun b hb=>h.own e' (List.mem_of_getElem? hj) b hb) (fun x hx b hb hxb=>?_);simp only[List.mem_singleton]at hx;subst hx;exact hij (h.apart i j b (by rw[hi];exact hxb) (by rw[hj];exact hb))
section
variable {P : Program} {ops : List Oper} {Q : Exit → Act → World → Prop} {r : List PStep} {a : Act} {w : World} {i j : Nat} {d : Option Tmp} {ty : TypeId} {pos : String} {af : Array Edge} {g : Option (Nat × Bool)} {x y c : Operand} {t t' T : TypeId} {o : Oper} {v : Value} {b : Bool}
theorem fP {pol:Bool} (hg:o.guard=some (j,pol)) (hy:yielded ops.toArray a.tmps j=some b):Region.wanted o (yielded ops.toArray a.tmps)=(b==pol):=by
  unfold Region.wanted;rw[hg];simp only[hy];cases b<;>cases pol<;>rfl
theorem a8 (ho:ops[i]? =some o) (hg:o.guard=some (j,true)) (hy:yielded ops.toArray a.tmps j=some b) (hrun:b=true→c7 P o a v) (h:aN P ops.toArray Q r (a.put o.dst (cond b v undef)) w):aN P ops.toArray Q (.p i::r) a w:=by
  cases b with
  |true=>exact aI ho (by rw[fP hg hy];rfl) (hrun rfl) h
  |false=>exact ax ho (by rw[fP hg hy];rfl) h
theorem ay (ho:ops[i]? =some o) (hg:o.guard=some (j,false)) (hy:yielded ops.toArray a.tmps j=some b) (hrun:b=false→c7 P o a v) (h:aN P ops.toArray Q r (a.put o.dst (cond b undef v)) w):aN P ops.toArray Q (.p i::r) a w:=by
  cases b with
  |false=>exact aI ho (by rw[fP hg hy];rfl) (hrun rfl) h
  |true=>exact ax ho (by rw[fP hg hy];rfl) h
theorem dN (ho:ops[i]? =some o) (hg:o.guard=some (j,true)) (hy:yielded ops.toArray a.tmps j=some b) (hrun:b=true→jn P o a w v) (h:aN P ops.toArray Q r (a.put o.dst (cond b v undef)) w):aN P ops.toArray Q (.q i::r) a w:=by
  cases b with
  |true=>exact ug ho (by rw[fP hg hy];rfl) (hrun rfl) h
  |false=>exact cY ho (by rw[fP hg hy];rfl) h
theorem fk (ho:ops[i]? =some o) (hg:o.guard=some (j,false)) (hy:yielded ops.toArray a.tmps j=some b) (hrun:b=false→jn P o a w v) (h:aN P ops.toArray Q r (a.put o.dst (cond b undef v)) w):aN P ops.toArray Q (.q i::r) a w:=by
  cases b with
  |false=>exact ug ho (by rw[fP hg hy];rfl) (hrun rfl) h
  |true=>exact cY ho (by rw[fP hg hy];rfl) h
theorem bt {b':Bool} (hc:a.eval c= .bool b) (hx:a.eval x= .bool true) (hy:a.eval y=cond b undef (.bool b')):c7 P ⟨d,.pick c x y,ty,pos,af,g⟩ a (BV (b||b')):=by
  have h:=oG (P:=P) (d:=d) (ty:=ty) (pos:=pos) (af:=af) (g:=g) (x:=x) (y:=y) hc;cases b with
  |true=>rw[if_pos rfl,hx]at h;exact h
  |false=>rw[if_neg (by decide),hy]at h;exact h
theorem cH {b':Bool} (hc:a.eval c= .bool b) (hx:a.eval x=cond b (.bool b') undef) (hy:a.eval y= .bool false):c7 P ⟨d,.pick c x y,ty,pos,af,g⟩ a (BV (b&&b')):=by
  have h:=oG (P:=P) (d:=d) (ty:=ty) (pos:=pos) (af:=af) (g:=g) (x:=x) (y:=y) hc;cases b with
  |true=>rw[if_pos rfl,hx]at h;exact h
  |false=>rw[if_neg (by decide),hy]at h;exact h
theorem OwnC.some {o:Option Nat} {n cap s:Nat} {cs:Array Value} {xs:List Value} (h:OwnC o n cap s cs xs) (hn:0<n):∃b,o=some b:=by
  cases o with
  |none=>have:=h.nil rfl;have:=h.le;omega
  |some b=>exact⟨b,rfl⟩
end
theorem cE:(∀a b:Bool,((a||b)=false)=(a=false∧b=false))∧(∀a b:Bool,((a||b)=true)=(a=true∨b=true))∧(∀a b:Bool,((a&&b)=true)=(a=true∧b=true))∧(∀a b:Bool,((a&&b)=false)=(a=false∨b=false))∧
  (∀a:Bool,((!a)=true)=(a=false))∧(∀a:Bool,((!a)=false)=(a=true))∧(∀(p:Prop) [Decidable p],(decide p=true)=p)∧(∀(p:Prop) [Decidable p],(decide p=false)=¬p)∧
  (∀a b:Nat,((a==b)=true)=(a=b))∧(∀a b:Nat,((a==b)=false)=¬(a=b))∧(∀a b:Nat,((a !=b)=true)=¬(a=b))∧(∀a b:Nat,((a !=b)=false)=(a=b))∧
  (∀a b:Int,((a==b)=true)=(a=b))∧(∀a b:Int,((a==b)=false)=¬(a=b))∧(∀a b:Int,((a !=b)=true)=¬(a=b))∧(∀a b:Int,((a !=b)=false)=(a=b))∧
  (∀a b:UInt8,((a==b)=true)=(a=b))∧(∀a b:UInt8,((a==b)=false)=¬(a=b))∧(∀a b:UInt8,((a !=b)=true)=¬(a=b))∧(∀a b:UInt8,((a !=b)=false)=(a=b))∧
  (∀a b:List UInt8,((a==b)=true)=(a=b))∧(∀a b:List UInt8,((a==b)=false)=¬(a=b))∧
  (∀a b:Nat,(¬a<b)=(b≤a))∧(∀a b:Nat,(¬a≤b)=(b<a))∧(∀a b:Int,(¬a<b)=(b≤a))∧(∀a b:Int,(¬a≤b)=(b<a))∧
  (∀a b:Nat,(a>b)=(b<a))∧(∀a b:Nat,(a≥b)=(b≤a))∧(∀a b:Int,(a>b)=(b<a))∧(∀a b:Int,(a≥b)=(b≤a)):=by
  refine⟨by simp,by simp,by simp,by simp,by simp,by simp,fun p _=>by simp,fun p _=>by simp,?_,?_,?_,?_,?_,?_,?_,?_,?_,?_,?_,?_,?_,?_,?_,?_,?_,?_,fun _ _=>rfl,fun _ _=>rfl,fun _ _=>rfl,fun _ _=>rfl⟩
  all_goals intro a b
  all_goals simp
theorem qz2:type_of% (And.intro @dm (@cE)):=And.intro @dm (@cE)
end Go.Proofs.YtomjbepgbnbgmaaDoor
namespace Go.Proofs.YtomjbepgbnbgmaaDoor
open Go
theorem Hp.pair {S:List Nat} {w0 w:World} {L:List bU} (h:Hp S w0 w L):L.Pairwise fun e e'=>∀b,e.1=some b→e'.1≠some b:=by
  rw[List.pairwise_iff_getElem];intro i j hi hj hij b h1 h2;have:=h.apart i j b (by rw[List.getElem?_eq_getElem hi];exact h1) (by rw[List.getElem?_eq_getElem hj];exact h2);omega
theorem Hp.of_pair {S:List Nat} {w0 w:World} {L:List bU} (hc:Chg S w0 w) (ho:∀e∈L,∀b,e.1=some b→(w0.heap.size≤b∨b∈S)∧cD w b e.2.1 e.2.2) (hp:L.Pairwise fun e e'=>∀b,e.1=some b→e'.1≠some b):Hp S w0 w L:=by
  refine⟨hc,ho,fun i j b hi hj=>?_⟩;rw[List.pairwise_iff_getElem]at hp;obtain⟨x,hx,hxb⟩:=Option.bind_eq_some_iff.1 hi;obtain⟨y,hy,hyb⟩:=Option.bind_eq_some_iff.1 hj;obtain⟨hil,rfl⟩:=List.getElem?_eq_some_iff.1 hx;obtain⟨hjl,rfl⟩:=List.getElem?_eq_some_iff.1 hy;rcases Nat.lt_trichotomy i j with h|h|h
  · exact absurd hyb (hp i j hil hjl h b hxb)
  · exact h
  · exact absurd hxb (hp j i hjl hil h b hyb)
theorem Hp.perm {S:List Nat} {w0 w:World} {L L':List bU} (h:Hp S w0 w L) (hp:L.Perm L'):Hp S w0 w L':=
  .of_pair h.chg (fun e he=>h.own e (hp.mem_iff.2 he)) ((hp.pairwise_iff (fun {a b} hab x h1 h2=>hab x h2 h1)).1 h.pair)
theorem Hp.swap {S:List Nat} {w0 w:World} {L a b:List bU} (h:Hp S w0 w (L++a++b)):Hp S w0 w (L++b++a):=by
  refine h.perm ?_;rw[List.append_assoc,List.append_assoc];exact List.Perm.append_left _ List.perm_append_comm
section
variable {P : Program} {ops : List Oper} {Q : Exit → Act → World → Prop} {md : Region.Mode} {E M : List Nat} {R0 : World → World → Prop} {S : List Nat} {w0 : World} {L : List bU}
def XA (P:Program) (ops:List Oper) (Q:Exit→Act→World→Prop) (i:Nat) (di:Tmp) (S:List Nat) (w0:World) (L:List bU) (R:Value→List bU→Prop) (a:Act):Prop:=
  ∀L' w,Hp S w0 w (L++L')→∀K:Act→World→Prop,(∀v es w',R v es→Hp S w0 w' (L++L'++es)→K (a.put (some di) v) w')→aN P ops.toArray (QK Q K) [.x i] a w
structure XS (P:Program) (ops:List Oper) (Q:Exit→Act→World→Prop) (i:Nat) (di dj:Tmp) (S:List Nat) (w0:World) (L:List bU) (R:Value→List bU→Prop) (a:Act):Prop where
  here:XA P ops Q i di S w0 L R a
  there:∀u,XA P ops Q i di S w0 L R (a.put (some dj) u)
theorem Rel.swap {ops:Array Oper} {A:Array Bool} {l:List Nat} {i j:Nat} (h:Rel ops A (i::j::l)):Rel ops A (j::i::l) where
  at_ k hk:=by
    rw[h.at_ k hk];simp only[List.contains_cons];cases(k==i)<;>cases(k==j)<;>rfl
  size:=h.size;bound k hk:=h.bound k (by simp only[List.mem_cons]at hk⊢;rcases hk with hk|hk|hk<;>simp[hk])
theorem aP.swap {n i j:Nat} {l:List Nat} {a:Act} {w:World} (h:aP P md ops.toArray Q E M R0 n (i::j::l) a w):aP P md ops.toArray Q E M R0 n (j::i::l) a w:=
  fun fuel A hR hn=>h fuel A hR.swap hn
theorem aP.join2 (hR0:Far R0) (hsel:Region.noSelect ops.toArray=true) (hQ:∀c a d v w,Q (.panic c) (a.put d v) w→Q (.panic c) a w) {n:Nat} {l:List Nat} {a:Act} {w:World} (i j:Nat) {di dj:Tmp} {Ri Rj:Value→List bU→Prop}
    (hH:Hp S w0 w L) (hne:di≠dj) (r1:dH (dw md ops.toArray) l i=true) (hall:i8 l [i,j] (dw md ops.toArray) 0=true) (p1:iG (dw md ops.toArray) E M [.x j] (i::l)=true) (p2:iG (dw md ops.toArray) E M [.x i] (j::l)=true)
    (xi:XS P ops Q i di dj S w0 L Ri a) (xj:XS P ops Q j dj di S w0 L Rj a)
    (h:∀v es v' es' w',Ri v es→Rj v' es'→Hp S w0 w' (L++es++es')→aP P md ops.toArray Q E M R0 n (j::i::l) ((a.put (some di) v).put (some dj) v') w'):aP P md ops.toArray Q E M R0 (n+2) l a w:=by
  have hH0:Hp S w0 w (L++[]):=by rw[List.append_nil];exact hH
  refine aP.fork2 hR0 (n:=n+1) (.x i) (.x j) rfl rfl trivial trivial r1 hall ?_ ?_
  · refine xi.here [] w hH0 _ fun v es w' hR hH'=>?_
    rw[List.append_nil]at hH'
    refine aP.plan (n:=n) hR0 hsel hQ [.x j] (i::l) _ _ trivial (by simp[aK]) (by simp[aW]) p1 ?_
    exact xj.there v es w' hH' _ fun v' es' w'' hR' hH''=>h v es v' es' w'' hR hR' hH''
  · refine xj.here [] w hH0 _ fun v' es' w' hR' hH'=>?_
    rw[List.append_nil]at hH'
    refine aP.plan (n:=n) hR0 hsel hQ [.x i] (j::l) _ _ trivial (by simp[aK]) (by simp[aW]) p2 ?_
    refine xi.there v' es' w' hH' _ fun v es w'' hR hH''=>?_
    have h1:=h v es v' es' w'' hR hR' hH''.swap
    rw[Act.put_comm a v v' (by intro d h1 h2;cases h1;cases h2;exact hne rfl)]at h1
    exact h1.swap
def yg (T n s:Nat) (xs:List Value) (f:Value→Value) (v:Value) (es:List bU):Prop:=∃o cap cs,v=f (own o n cap)∧OwnC o n cap s cs xs∧es=[(o,T,cs)]
def RBlk (T:Nat) (cs:Array Value) (f:Nat→Value) (v:Value) (es:List bU):Prop:=∃b,v=f b∧es=[(some b,T,cs)]
variable {i : Nat} {d dj : Tmp} {ty : TypeId} {pos : String} {af : Array Edge} {g : Option (Nat × Bool)} {x y : Operand} {t t' T : TypeId} {a : Act}
theorem zu {e:TypeId} {s:ByteArray} (ho:ops[i]? =some ⟨some d,.convert t t' x,ty,pos,af,g⟩) (hg:Region.wanted ⟨some d,.convert t t' x,ty,pos,af,g⟩ (yielded ops.toArray a.tmps)=true) (hx:a.eval x= .string s)
    (hu:P.underlying t=some .string) (hu':P.underlying t'=some (.slice e)) (he:P.underlying e=some (.int .u8)):XA P ops Q i d S w0 L (yg e s.size 1 (s.data.toList.map V8) id) a:=fun L' w hH K h=>
  aQ ho hg hH hx hu hu' he fun b cap cs w' hO hH'=>fun w2 hw2=>h _ _ w2 ⟨some b,cap,cs,rfl,hO,rfl⟩ (hH'.call hw2)
theorem z6 {e:TypeId} {s:ByteArray} (ho:ops[i]? =some ⟨some d,.convert t t' x,ty,pos,af,g⟩) (hg:Region.wanted ⟨some d,.convert t t' x,ty,pos,af,g⟩ (yielded ops.toArray a.tmps)=true) (hg':∀u,Region.wanted ⟨some d,.convert t t' x,ty,pos,af,g⟩ (yielded ops.toArray (a.put (some dj) u).tmps)=true)
    (hx:a.eval x= .string s) (hx':∀u,(a.put (some dj) u).eval x= .string s) (hu:P.underlying t=some .string) (hu':P.underlying t'=some (.slice e)) (he:P.underlying e=some (.int .u8)):XS P ops Q i d dj S w0 L (yg e s.size 1 (s.data.toList.map V8) id) a:=
  ⟨zu ho hg hx hu hu' he,fun u=>zu ho (hg' u) (hx' u) hu hu' he⟩
theorem ub {cs:Array Value} (ho:ops[i]? =some ⟨some d,.alloc t,ty,pos,af,g⟩) (hg:Region.wanted ⟨some d,.alloc t,ty,pos,af,g⟩ (yielded ops.toArray a.tmps)=true) (hz:dt P t=some cs):XA P ops Q i d S w0 L (RBlk t cs fun b=>PT b 0) a:=fun L' w hH K h=>
  au ho hg hH hz fun b w' hH'=>fun w2 hw2=>h _ _ w2 ⟨b,rfl,rfl⟩ (hH'.call hw2)
theorem jw {cs:Array Value} (ho:ops[i]? =some ⟨some d,.alloc t,ty,pos,af,g⟩) (hg:Region.wanted ⟨some d,.alloc t,ty,pos,af,g⟩ (yielded ops.toArray a.tmps)=true) (hg':∀u,Region.wanted ⟨some d,.alloc t,ty,pos,af,g⟩ (yielded ops.toArray (a.put (some dj) u).tmps)=true) (hz:dt P t=some cs):XS P ops Q i d dj S w0 L (RBlk t cs fun b=>PT b 0) a:=
  ⟨ub ho hg hz,fun u=>ub ho (hg' u) hz⟩
end
end Go.Proofs.YtomjbepgbnbgmaaDoor
namespace Go.Proofs.YtomjbepgbnbgmaaDoor
open Go
section
variable {P : Program} {ops : Array Oper} {Q : Exit → Act → World → Prop} {md : Region.Mode} {E M : List Nat} {R0 : World → World → Prop}
theorem aP.forkL (hR0:Far R0) {n:Nat} {l:List Nat} {a:Act} {w:World} (s0:PStep) (ss:List PStep) (r1:dH (dw md ops) l s0.idx=true) (hall:i8 l (ss.map PStep.idx) (dw md ops) 0=true)
    (h:∀s∈ss,iB E M s=true∧aY R0 [s]∧aN P ops (QK Q (aP P md ops Q E M R0 n (s.idx::l))) [s] a w):aP P md ops Q E M R0 (n+1) l a w:=by
  intro fuel L hR hn;obtain⟨fuel,rfl⟩:∃m,fuel=m+1:=⟨fuel - 1,by omega⟩
  have hmem:s0.idx∈Region.ready md ops L:=by
    unfold dH at r1;cases ht:(dw md ops)[s0.idx]? with
    |none=>rw[ht]at r1;cases r1
    |some rr=>
      rw[ht]at r1;obtain⟨o,ho,rfl⟩:=m_ ht;simp only[Bool.and_eq_true,Bool.not_eq_true']at r1;exact(dW hR).2 ⟨r1.1,o,ho,r1.2⟩
  intro w1 hw1;refine⟨fun h0=>(by rw[h0]at hmem;cases hmem),fun j hj=>?_⟩;obtain⟨hj0,oj,hoj,hjs⟩:=(dW hR).1 hj;have hin:=j8 _ 0 hall j _ (fG hoj) (by simpa using hj0) hjs
  have hj2:j∈ss.map PStep.idx:=by
    have:=List.contains_iff_mem.1 hin;simpa using this
  obtain⟨s,hs,rfl⟩:=List.mem_map.1 hj2;obtain⟨c,A,hp⟩:=h s hs;exact wpOp_mono (fun a' w' h'=>⟨h'.1,h'.2 fuel _ (hR.cons (cB hoj)) (by omega)⟩) (pc hR0 s c A hp w1 hw1)
theorem aP.fork3 (hR0:Far R0) {n:Nat} {l:List Nat} {a:Act} {w:World} (s1 s2 s3:PStep) (c1:iB E M s1=true) (c2:iB E M s2=true) (c3:iB E M s3=true) (A1:aY R0 [s1]) (A2:aY R0 [s2]) (A3:aY R0 [s3]) (r1:dH (dw md ops) l s1.idx=true) (hall:i8 l [s1.idx,s2.idx,s3.idx] (dw md ops) 0=true)
    (h1:aN P ops (QK Q (aP P md ops Q E M R0 n (s1.idx::l))) [s1] a w) (h2:aN P ops (QK Q (aP P md ops Q E M R0 n (s2.idx::l))) [s2] a w) (h3:aN P ops (QK Q (aP P md ops Q E M R0 n (s3.idx::l))) [s3] a w):aP P md ops Q E M R0 (n+1) l a w:=
  aP.forkL hR0 s1 [s1,s2,s3] r1 hall fun s hs=>by
    simp only[List.mem_cons,List.not_mem_nil,or_false]at hs;rcases hs with rfl|rfl|rfl
    · exact⟨c1,A1,h1⟩
    · exact⟨c2,A2,h2⟩
    · exact⟨c3,A3,h3⟩
theorem aP.fork4 (hR0:Far R0) {n:Nat} {l:List Nat} {a:Act} {w:World} (s1 s2 s3 s4:PStep) (c1:iB E M s1=true) (c2:iB E M s2=true) (c3:iB E M s3=true) (c4:iB E M s4=true) (A1:aY R0 [s1]) (A2:aY R0 [s2]) (A3:aY R0 [s3]) (A4:aY R0 [s4]) (r1:dH (dw md ops) l s1.idx=true) (hall:i8 l [s1.idx,s2.idx,s3.idx,s4.idx] (dw md ops) 0=true)
    (h1:aN P ops (QK Q (aP P md ops Q E M R0 n (s1.idx::l))) [s1] a w) (h2:aN P ops (QK Q (aP P md ops Q E M R0 n (s2.idx::l))) [s2] a w) (h3:aN P ops (QK Q (aP P md ops Q E M R0 n (s3.idx::l))) [s3] a w) (h4:aN P ops (QK Q (aP P md ops Q E M R0 n (s4.idx::l))) [s4] a w):aP P md ops Q E M R0 (n+1) l a w:=
  aP.forkL hR0 s1 [s1,s2,s3,s4] r1 hall fun s hs=>by
    simp only[List.mem_cons,List.not_mem_nil,or_false]at hs;rcases hs with rfl|rfl|rfl|rfl
    · exact⟨c1,A1,h1⟩
    · exact⟨c2,A2,h2⟩
    · exact⟨c3,A3,h3⟩
    · exact⟨c4,A4,h4⟩
end
section
variable {P : Program} {ops : List Oper} {Q : Exit → Act → World → Prop} {r : List PStep} {a : Act} {w : World} {i : Nat} {S : List Nat} {w0 : World} {L : List bU} {v : Value} {o : Oper}
theorem v4 (ho:ops[i]? =some o) (hg:Region.wanted o (yielded ops.toArray a.tmps)=true) (hH:Hp S w0 w L) (hl:∀w1,Hp S w0 w1 L→r5 P o a w1 v) (h:∀w1,Hp S w0 w1 L→aN P ops.toArray Q r (a.put o.dst v) w1):aN P ops.toArray Q (.x i::r) a w:=fun w1 hw=>by
  unfold wpOp;simp only[ef ho,hg,if_true];refine .inl ?_;unfold Oper.wp;rw[hl w1 (hH.call hw),Oper.upon_value];exact⟨.refl _ _,h w1 (hH.call hw)⟩
section
variable {d : Option Tmp} {ty : TypeId} {pos : String} {af : Array Edge} {g : Option (Nat × Bool)} {x y : Operand} {t T : TypeId} {N : Nat}
theorem xp {D:TypeDesc} {b n:Nat} {cs:Array Value} (hb:cD w b T cs) (hN:b<N) (hx:a.eval x=PT b 0) (hu:P.underlying t=some D) (hD:dO D=true) (hs:szc P t=some n) (hn:cs.size=n):wP P ⟨d,.load t x,ty,pos,af,g⟩ a (ChgN N) w (.agg cs):=
  .of_l fun w' hw=>mZ hx (hw.blk hb hN) hu hD hs hn
theorem bi {dst:Tmp} {cs:Array Value} (ho:ops[i]? =some ⟨some dst,.alloc t,ty,pos,af,g⟩) (hg:Region.wanted ⟨some dst,.alloc t,ty,pos,af,g⟩ (yielded ops.toArray a.tmps)=true) (hNw:N≤w.heap.size)
    (hH:Hp S w0 w L) (hz:dt P t=some cs) (h:∀b w',N≤w'.heap.size→N≤b→Hp S w0 w' (L++[(some b,t,cs)])→aN P ops.toArray Q r (a.put (some dst) (PT b 0)) w'):aN P ops.toArray Q (.x i::r) a w:=fun w1 hw=>by
  have hN1:N≤w1.heap.size:=Nat.le_trans hNw hw.size
  have hr:(execOp a.eval ⟨some dst,.alloc t,ty,pos,af,g⟩).run P w1= .ok (.value (PT w1.heap.size 0)) (w1.alloc (.cells cs t)):=by
    unfold dt at hz;obtain⟨z,hz1,rfl⟩:=Option.map_eq_some_iff.1 hz;obtain⟨inf,hi,hz2⟩:=Option.bind_eq_some_iff.1 hz1;simp[execOp,Instr.alloc,zeroValue,typeInfo,hi,hz2,newVar,newRow]
  unfold wpOp;simp only[ef ho,hg,if_true];refine .inl ?_;unfold Oper.wp;rw[hr,Oper.upon_value];have hc:Chg [] w1 (w1.alloc (.cells cs t)):=(Chg.refl _ _).alloc _;exact⟨hc,h _ _ (Nat.le_trans hN1 hc.size) hN1 ((hH.call hw).alloc t cs)⟩
theorem aH (n:Nat) {b m:Nat} {cs vs:Array Value} (ho:ops[i]? =some ⟨none,.store t x y,ty,pos,af,g⟩) (hg:Region.wanted ⟨none,.store t x y,ty,pos,af,g⟩ (yielded ops.toArray a.tmps)=true) (hNw:N≤w.heap.size)
    (hH:Hp S w0 w L) (hx:a.eval x=PT b 0) (hi:L[n]? =some (some b,T,cs)) (hy:a.eval y= .agg vs) (h1:∀v∈vs.toList,v.oneCell'=true) (hs:szc P t=some m) (hm:vs.size=m) (hlt:cs.size=m) (hb:N≤b)
    (h:∀w',N≤w'.heap.size→Hp S w0 w' (L.set n (some b,T,vs))→aN P ops.toArray Q r a w'):aN P ops.toArray Q (.s i (ChgN N)::r) a w:=fun w1 hw1=>by
  have hN1:N≤w1.heap.size:=Nat.le_trans hNw hw1.size
  have hH:=hH.call hw1
  have hbk:=hH.blk n hi
  obtain⟨w',hr,hB,hoth,hsz,e1,e2,e3⟩:=cQ (P:=P) vs.toList 0 0 w1 cs hbk (by simp;omega) h1
  have hrun:(execOp a.eval ⟨none,.store t x y,ty,pos,af,g⟩).run P w1= .ok .skip w':=by
    simp[execOp,hx,hy,Instr.storeAt,Instr.sureAddr,storeVar,cn hs,Value.cells,hm,hr]
  have hc:Chg [b] w1 w':=⟨e1,e2,e3,by omega,fun k hk hn=>hoth k (by simpa using hn)⟩
  have hH':Hp S w0 w' (L.set n (some b,T,vs)):=by
    have:=hH.put n hi (hH.chg.trans' hc ?_) (by simpa using hB) fun k hk _=>hoth k hk
    · rwa [pF (by omega)]at this
    · intro z hz hlt
      simp only[List.mem_singleton]at hz
      subst hz
      rcases hH.mine n hi with h1|h1
      · omega
      · exact h1
  unfold wpOp
  simp only[ef ho,hg,if_true]
  refine .inl ?_
  unfold Oper.wp
  rw[hrun]
  exact⟨.of_chg hc (by simpa using hb),h w' (by omega) hH'⟩
end
theorem ou {α:Type} (L:List α):(List.range L.length).filterMap (fun i=>L[i]?)=L:=by
  apply List.ext_getElem?;intro i;induction L generalizing i with
  |nil=>rfl
  |cons x xs ih=>
    rw[List.length_cons,List.range_succ_eq_map,List.filterMap_cons];simp only[List.getElem?_cons_zero,List.filterMap_map,Function.comp_def,List.getElem?_cons_succ];cases i with
    |zero=>rfl
    |succ i=>rw[List.getElem?_cons_succ,List.getElem?_cons_succ];exact ih i
theorem Hp.idx {L':List bU} (h:Hp S w0 w L) (p:List Nat) (m:Nat) (hm:L.length=m) (hp:p.Perm (List.range m)) (e:p.filterMap (fun i=>L[i]?)=L'):Hp S w0 w L':=by
  subst e hm;refine h.perm ?_;have:=hp.filterMap (fun i=>L[i]?);rw[ou]at this;exact this.symm
def Imp (A B:Prop):Prop:=A→B
theorem rest1 {A B:Prop} {H K:Nat→World→Prop} (h:(∀a w,H a w→K a w)→A→B) (ha:∀a w,H a w→K a w):Imp A B:=h ha
theorem rest2 {A B:Prop} {H K:Nat→Nat→World→Prop} (h:(∀a b w,H a b w→K a b w)→A→B) (ha:∀a b w,H a b w→K a b w):Imp A B:=h ha
theorem CY {A B:Prop} {H K:Nat→Nat→Nat→Nat→World→Prop} (h:(∀a b c d w,H a b c d w→K a b c d w)→A→B) (ha:∀a b c d w,H a b c d w→K a b c d w):Imp A B:=h ha
end
end Go.Proofs.YtomjbepgbnbgmaaDoor
namespace Go.Proofs.YtomjbepgbnbgmaaDoor
open Go
section
variable {P : Program} {t : TypeId} {x y : Operand}
theorem sF {m n:Nat} (hm:m<9223372036854775808) (hn:n<9223372036854775808):fl P .or t x y (bb m) (bb n) (bb (m|||n:Nat)):=a_ fun w=>by
  simp only[binOp,Op.intBits,eh]
  have h:(IntKind.i64.wrap (((BitVec.ofNat 64 m)|||(BitVec.ofNat 64 n)).toNat:Int))=((m|||n:Nat):Int):=by
    have hb:m|||n<9223372036854775808:=Nat.or_lt_two_pow (n:=63) hm hn
    rw[BitVec.toNat_or,BitVec.toNat_ofNat,BitVec.toNat_ofNat,Nat.mod_eq_of_lt (by omega),Nat.mod_eq_of_lt (by omega)];exact d5 _ (by omega) (by omega)
  show Result.ok (Value.int .i64 (IntKind.i64.wrap (((BitVec.ofNat 64 m)|||(BitVec.ofNat 64 n)).toNat:Int))) w=_;rw[h]
theorem xT {m n:Nat} (hm:m<9223372036854775808) (hn:n<9223372036854775808):fl P .and t x y (bb m) (bb n) (bb (m&&&n:Nat)):=a_ fun w=>by
  simp only[binOp,Op.intBits,eh]
  have h:(IntKind.i64.wrap (((BitVec.ofNat 64 m)&&&(BitVec.ofNat 64 n)).toNat:Int))=((m&&&n:Nat):Int):=by
    have hb:m&&&n<9223372036854775808:=Nat.and_lt_two_pow (n:=63) _ hn;rw[BitVec.toNat_and,BitVec.toNat_ofNat,BitVec.toNat_ofNat,Nat.mod_eq_of_lt (by omega),Nat.mod_eq_of_lt (by omega)];exact d5 _ (by omega) (by omega)
  show Result.ok (Value.int .i64 (IntKind.i64.wrap (((BitVec.ofNat 64 m)&&&(BitVec.ofNat 64 n)).toNat:Int))) w=_;rw[h]
end
end Go.Proofs.YtomjbepgbnbgmaaDoor
namespace Go.Proofs.YtomjbepgbnbgmaaDoor
open Go
open List (getD_cons_zero getD_cons_succ set_cons_zero set_cons_succ)
def wy (i:Nat):UInt8:=([0,1,56,2,57,49,28,3,61,58,42,50,38,29,17,4,62,47,59,36,45,43,51,22,53,39,33,30,24,18,12,5,63,55,48,27,60,41,37,16,46,35,44,21,52,32,23,11,54,26,40,15,34,20,31,10,25,14,19,9,13,8,7,6]:List UInt8).getD i 0
def c9 (w:World):Prop:=∀i,i<64→w.cell? ⟨3,i,none⟩=some (V8 (wy i))
theorem c9.grow {w w':World} (h:c9 w) (hc:Chg [] w w'):c9 w':=fun i hi=>hc.cell (h i hi) (by simp)
def Aq (s:Nat):Nat:=if s=1 then 0 else if s=2 then 1 else if s=4 then 2 else 3
theorem Br (x:UInt64):(x>>>58).toNat<64:=by
  have h:=x.toNat_lt;rw[UInt64.toNat_shiftRight];show x.toNat>>>58<64;rw[Nat.shiftRight_eq_div_pow];omega
def hY (n s:Nat):UInt64:=UInt64.ofNat n|||(if 8*s - 2<64 then UInt64.ofNat (Aq s)<<<UInt64.ofNat (8*s - 2)else 0)
def yj (n s:Nat):Nat→List UInt8
  |0=>[]
  |i+1=>yj n s i++[(if 8*(s - 1 - i)<64 then hY n s>>>UInt64.ofNat (8*(s - 1 - i))else 0).toUInt8]
theorem pT (n s:Nat):∀i,(yj n s i).length=i
  |0=>rfl
  |i+1=>by rw[yj,List.length_append,pT n s i];rfl
def om (n s:Nat):List UInt8:=yj n s s
def vf (n s:Nat):Bool:=(if 8*s - 2<64 then UInt64.ofNat n>>>UInt64.ofNat (8*s - 2)else 0)==0
theorem wi {n s:Nat} (hn:n<9223372036854775808) (hs:s=1∨s=2∨s=4∨s=8):vf n s=decide (n<2^(8*s - 2)):=by
  unfold vf;rw[if_pos (by omega),Bool.eq_iff_iff,beq_iff_eq,decide_eq_true_iff]
  have e:(UInt64.ofNat n>>>UInt64.ofNat (8*s - 2)).toNat=n/2^(8*s - 2):=by
    rw[UInt64.toNat_shiftRight,UInt64.toNat_ofNat_of_lt' (by have:UInt64.size=18446744073709551616:=rfl;omega),UInt64.toNat_ofNat_of_lt' (by have:UInt64.size=18446744073709551616:=rfl;omega),Nat.mod_eq_of_lt (by omega),Nat.shiftRight_eq_div_pow]
  constructor
  · intro h
    have h1:=congrArg UInt64.toNat h;rw[e]at h1;have h1:n/2^(8*s - 2)=0:=h1;exact(Nat.div_eq_zero_iff_lt (Nat.two_pow_pos _)).1 h1
  · intro h
    apply UInt64.toNat_inj.1;rw[e,Nat.div_eq_of_lt h];rfl
def iL (n:Nat):Nat:=if n<64 then 1 else if n<16384 then 2 else if n<1073741824 then 4 else 8
theorem vY (x:UInt64) (w:World) (hZ:c9 w) (hx:x≠0):aZ Tryd.prog 95 #[db x] w fun v w'=>v=bb ((wy (((x&&& -x)*285870213051353865)>>>58).toNat).toNat:Nat)∧Chg [] w w':=by
 refine aZ.enter Tryd.func95 rfl ?_;simp only[Tryd.ntmps95,fe,Nat.reduceAdd,Nat.reduceSub];have hH:=Hp.start [] w;refine wp_seq_k fun K1 hK1=>ak [.p 0] ?_;refine ci 0 ?_;simp only[nf];refine aa hH fun w2 hH=>hK1 _ _ (wp_seq_k fun K3 hK3=>wp_seq_k fun K4 hK4=>ak [.p 0,.p 1] ?_);refine pm ?_;simp only[nf];refine pp rfl rfl (ac rfl rfl (n' _ 0)) ?_;simp only[nf];refine aa hH fun w5 hH=>hK4 _ _ (wp_cond_false (by show BV _=_;rw[beq_eq_false_iff_ne.mpr hx]) (wp_skip (hK3 _ _ (wp_seq_k fun K6 hK6=>ak [.p 0,.p 1,.p 2,.p 3,.p 4,.p 5,.p 6,.q 7,.p 8,.p 9] ?_))));refine pm (pm ?_);simp only[nf];refine pp rfl rfl (kI rfl) ?_;simp only[nf];refine pp rfl rfl (ac rfl rfl (bJ _ _)) ?_;simp only[nf];refine pp rfl rfl (ac rfl rfl (dq _ 285870213051353865)) ?_;simp only[nf];refine pp rfl rfl (ac rfl rfl (bY 58 58 (by decide) rfl _)) ?_;simp only[nf];refine pp rfl rfl (aq rfl rfl Tryd.underlying110 bL (by(exact Br _))) ?_;simp only[nf];refine pq rfl rfl (ah rfl Tryd.underlying5 rfl ((hZ.grow hH.chg) _ (by(exact Br _)))) ?_;simp only[nf];refine pp rfl rfl (bw rfl (kV _ Tryd.underlying5 Tryd.underlying3)) ?_;simp only[nf];refine pa ?_;simp only[nf];refine aa hH fun w7 hH=>hK6 _ _ (wp_ret ?_);refine BP.ret1 rfl rfl ?_;exact⟨rfl,hH.chg⟩
theorem BM (x:UInt64) (w:World) (hZ:c9 w) (hx:x≠0):aZ Tryd.prog 85 #[db x] w fun v w'=>v=bb ((wy (((x&&& -x)*285870213051353865)>>>58).toNat).toNat:Nat)∧Chg [] w w':=by
 refine aZ.enter Tryd.func85 rfl ?_;simp only[Tryd.ntmps85,fe,Nat.reduceAdd,Nat.reduceSub];have hH:=Hp.start [] w;refine wp_seq_k fun K1 hK1=>ak [.p 0] ?_;refine ci 0 ?_;simp only[nf];refine aa hH fun w2 hH=>hK1 _ _ (wp_seq_k fun K3 hK3=>wp_cond_false rfl (wp_skip (hK3 _ _ (wp_seq_k fun K4 hK4=>ak [.p 0,.q 1,.p 2] ?_))));refine pm ?_;simp only[nf];refine pq rfl rfl (aj cf95 (fun w' hw=>vY _ w' (hZ.grow (hH.chg.trans hw)) hx) rfl) ?_;simp only[nf];refine pa ?_;simp only[nf];refine aa hH fun w5 hH=>hK4 _ _ (wp_ret ?_);refine BP.ret1 rfl rfl ?_;exact⟨rfl,hH.chg⟩
theorem z_ (s:Nat) (w:World) (hZ:c9 w) (hs:s=1∨s=2∨s=4∨s=8):aZ Tryd.prog 85 #[db (UInt64.ofNat s)] w fun v w'=>v=bb (Aq s:Nat)∧Chg [] w w':=by
  refine(BM (UInt64.ofNat s) w hZ ?_).mono fun v w' h=>?_
  · rcases hs with rfl|rfl|rfl|rfl<;>decide
  · rcases hs with rfl|rfl|rfl|rfl<;>exact h
theorem py (n s:Nat) (w:World) (hn:n<9223372036854775808) (hs:s=1∨s=2∨s=4∨s=8):aZ Tryd.prog 74 #[bb n,bb s] w fun v w'=>v=BV (vf n s)∧Chg [] w w':=by
 refine aZ.enter Tryd.func74 rfl ?_;simp only[Tryd.ntmps74,fe,Nat.reduceAdd,Nat.reduceSub];have hH:=Hp.start [] w;refine wp_seq_k fun K1 hK1=>ak [.p 0] ?_;refine pa ?_;simp only[nf];refine aa hH fun w2 hH=>hK1 _ _ (wp_seq_k fun K3 hK3=>ak [.p 0,.p 1,.p 2,.p 3,.p 4,.p 5,.p 6,.p 7,.p 8,.p 9,.p 10,.p 11] ?_);refine pm (pp rfl rfl (ac rfl rfl (de (n:=0))) ?_);simp only[nf];refine aI (v:=BV true) rfl rfl (ap rfl) ?_;simp only[nf];refine pp rfl rfl aw (pp rfl rfl (bw rfl (gl Tryd.underlying3 Tryd.underlying35)) (pp rfl rfl aw (pp rfl rfl (ac rfl rfl (dV (m:=8) (by omega))) ?_)));simp only[nf];refine pp rfl rfl (ac rfl rfl (cj (n:=2) (by omega) (by omega))) (pp rfl rfl (ac rfl rfl (d6 _ _ _)) (pp rfl rfl (ac rfl rfl (n' _ 0)) (pp rfl rfl (ba rfl) ?_)));simp only[nf];refine pa ?_;simp only[nf];refine aa hH fun w4 hH=>hK3 _ _ (wp_ret ?_);refine BP.ret1 rfl rfl ?_;exact⟨rfl,hH.chg⟩
theorem td (n s:Nat) (w:World) (hZ:c9 w) (hn:n<9223372036854775808) (hs:s=1∨s=2∨s=4∨s=8) (hf:vf n s=true):aZ Tryd.prog 75 #[bb n,bb s] w fun v w'=>∃o cap cs,v= .tuple #[own o s cap,bb (0:Nat)]∧Chg [] w w'∧OwnC o s cap 1 cs ((om n s).map V8)∧∀b,o=some b→w.heap.size≤b∧cD w' b 5 cs:=by
 refine aZ.enter Tryd.func75 rfl ?_;simp only[Tryd.ntmps75,fe,Nat.reduceAdd,Nat.reduceSub];have hH:=Hp.start [] w;refine wp_seq_k fun K1 hK1=>ak [.p 0,.p 1] ?_;refine pa (ci 0 ?_);simp only[nf];refine aa hH fun w2 hH=>hK1 _ _ (wp_seq_k fun K3 hK3=>wp_block (wp_seq_k fun K4 hK4=>ak [.p 0,.p 1,.p 2,.p 3,.p 4,.p 5,.p 6,.p 7,.p 8,.p 9,.p 10,.p 11,.p 12,.p 13] ?_));refine pm ?_;simp only[nf];refine pp rfl rfl (ac rfl rfl (by exact aJ (n:=1))) ?_;simp only[nf];refine pm ?_;simp only[nf];refine ay rfl rfl rfl (fun hgd=>by have hgd':=hgd;(simp only[cE]at hgd');rw[hgd];exact aw) ?_;simp only[nf];refine ay rfl rfl rfl (fun hgd=>by have hgd':=hgd;(simp only[cE]at hgd');rw[hgd];exact(ac rfl rfl (by exact bZ (n:=8)))) ?_;simp only[nf];refine pp rfl rfl (bt rfl rfl rfl) ?_;simp only[nf];refine pm ?_;simp only[nf];refine ay rfl rfl rfl (fun hgd=>by have hgd':=hgd;(simp only[cE]at hgd');rw[hgd];exact aw) ?_;simp only[nf];refine ay rfl rfl rfl (fun hgd=>by have hgd':=hgd;(simp only[cE]at hgd');rw[hgd];exact aw) ?_;simp only[nf];refine ay rfl rfl rfl (fun hgd=>by have hgd':=hgd;(simp only[cE]at hgd');rw[hgd];exact(ac rfl rfl (by exact cj (n:=1) (by omega) (by omega)))) ?_;simp only[nf];refine ay rfl rfl rfl (fun hgd=>by have hgd':=hgd;(simp only[cE]at hgd');rw[hgd];exact(ac rfl rfl (by first|exact xT (by omega) (by omega)))) ?_;simp only[nf];refine ay rfl rfl rfl (fun hgd=>by have hgd':=hgd;(simp only[cE]at hgd');rw[hgd];exact(ac rfl rfl (by exact an (n:=0)))) ?_;simp only[nf];refine pp rfl rfl (bt rfl rfl rfl) ?_;simp only[nf];refine pa ?_;simp only[nf];refine aa hH fun w5 hH=>hK4 _ _ (wp_cond_false (by rcases hs with rfl|rfl|rfl|rfl<;>rfl) (wp_seq_k fun K6 hK6=>ak [.p 0,.p 1,.q 2,.p 3,.p 4] ?_));refine pm (pm ?_);simp only[nf];refine pq rfl rfl (aj cf74 (fun w' hw=>py _ _ w' hn (by exact hs)) rfl) ?_;simp only[nf];refine pp rfl rfl (bS rfl) ?_;simp only[nf];refine pa ?_;simp only[nf];refine aa hH fun w7 hH=>hK6 _ _ (wp_cond_false (by show BV (!vf n s)=_;rw[hf];rfl) (wp_skip (hK3 _ _ (wp_seq_k fun K8 hK8=>ak [.p 0,.p 1,.p 2,.p 3,.q 4,.p 5,.p 6,.p 7,.p 8,.p 9,.p 10,.p 11] ?_))));refine pm ?_;simp only[nf];refine pp rfl rfl (bw rfl (by exact gl Tryd.underlying3 Tryd.underlying35)) ?_;simp only[nf];refine pm ?_;simp only[nf];refine pp rfl rfl (bw rfl (by exact gl Tryd.underlying3 Tryd.underlying54)) ?_;simp only[nf];refine pq rfl rfl (aj cf85 (fun w' hw=>z_ _ w' (hZ.grow (hH.chg.trans hw)) hs) rfl) ?_;simp only[nf];refine pp rfl rfl (bw rfl (by exact gl Tryd.underlying3 Tryd.underlying35)) ?_;simp only[nf];refine pm ?_;simp only[nf];refine pp rfl rfl (ac rfl rfl (by exact dV (m:=8) (by omega))) ?_;simp only[nf];refine pp rfl rfl (ac rfl rfl (by exact cj (n:=2) (by omega) (by omega))) ?_;simp only[nf];refine pp rfl rfl (ac rfl rfl (kK _ _ _)) ?_;simp only[nf];refine pp rfl rfl (ac rfl rfl (fL _ _)) ?_;simp only[nf];refine pa ?_;simp only[nf];refine aa hH fun w9 hH=>hK8 _ _ (wp_seq_k fun K10 hK10=>ak [.p 0] ?_);refine pa ?_;simp only[nf];refine aa hH fun w11 hH=>hK10 _ _ (wp_seq_k fun K12 hK12=>wp_seq_k fun K13 hK13=>ak [.p 0,.p 1,.p 2,.p 3] ?_);refine pm ?_;simp only[nf];refine pp rfl rfl (ac rfl rfl (by exact cj (n:=1) (by omega) (by omega))) ?_;simp only[nf];refine pp rfl rfl (ac rfl rfl (by exact dV (m:=8) (by omega))) ?_;simp only[nf];refine pa ?_;simp only[nf];refine aa hH fun w14 hH=>?_;rw[show((8*(s - 1):Nat):Int)=8*(s:Int) - 8 by omega];refine hK13 _ _ (wp_block (bd [7,8] [42,43,44,45,46,47,48,49,50,51,52] (fun(n15:Nat) (vs:List Value) (w':World)=>∃(m k:Nat) (o:Option Nat) (c:Nat) (cs:Array Value),vs=[own o k c,bb (8*(m:Int) - 8)]∧Hp [] w w' [(o,5,cs)]∧n15=m∧k+m=s∧OwnC o k c 1 cs ((yj n s k).map V8)) (s) (by kernel_rfl) ?_ ?_))
 ·simp only[ga];refine⟨s,0,none,0,#[],rfl,?_,rfl,?_,?_⟩
  ·exact hH.nil _
  · omega
  · (exact OwnC.start 1)
 clear hH;intro n15 vs16 w17 hR18 d0;obtain⟨m,k,o,c,cs,rfl,hH,hn19,hf20,hO⟩:=hR18;simp only[bG,c6,List.set_cons_zero,List.set_cons_succ,Nat.zero_add,Nat.reduceAdd];refine wp_seq_k fun K21 hK21=>wp_seq_k fun K22 hK22=>ak [.p 0,.p 1] ?_;refine pm ?_;simp only[nf];refine pp rfl rfl (ac rfl rfl (by exact ik)) ?_;simp only[nf];refine aa hH fun w23 hH=>hK22 _ _ (wp_cond_split rfl (fun hc24=>?_) (fun hc24=>?_))
 ·simp only[qz2]at hc24;obtain⟨i,rfl⟩:∃i,m=i+1:=⟨m - 1,by omega⟩;rw[show(8*((i+1:Nat):Int) - 8)=((8*i:Nat):Int)by omega];have e2:s - 1 - k=i:=by omega
  refine wp_skip (hK21 _ _ (wp_seq_k fun K25 hK25=>wp_block (ak [.p 0,.p 1,.p 2,.p 3,.p 4,.x 5,.e 6,.p 7] ?_)));refine pm (pm (pm ?_));simp only[nf];refine pp rfl rfl (ac rfl rfl (d6 _ _ _)) ?_;simp only[nf];refine pp rfl rfl (bw rfl (iH _ Tryd.underlying35 Tryd.underlying5)) ?_;simp only[nf];refine bA rfl rfl hH Tryd.underlying31 (by rfl) (ja _) ?_;clear hH;intro b26 w27 hH;simp only[qz0,Value.cells]at hH⊢;refine bn 0 rfl rfl hH rfl hO (fun w' hH=>((OwnC.sl hH 1 rfl (OwnC.of_bytes rfl))).src) rfl rfl Tryd.underlying31 Tryd.underlying31 (.inl ⟨_,rfl⟩) bL iX iW rfl (by(simp<;>omega)) (by(simp<;>omega)) ?_;clear hH;intro o28 cap29 cs30 w31 hO32 hH;simp only[nf]at hH⊢;rw[←List.map_append]at hO32;refine pa ?_;simp only[nf];refine aa hH fun w33 hH=>hK25 _ _ (ak [.p 0,.p 1,.p 2] ?_);refine pm ?_;simp only[nf];refine pp rfl rfl (ac rfl rfl (by exact ic (by omega) (by omega))) ?_;simp only[nf];refine pa ?_;simp only[nf];refine aa hH fun w34 hH=>?_;simp only[Exit.then,Exit.inBlock,↓reduceIte,Nat.reduceEqDiff];rw[show(((8*i:Nat):Int) - 8)=8*(i:Int) - 8 by omega];refine⟨i,?_,_,rfl,by kernel_rfl,?_⟩
  · omega
  simp only[ga];refine⟨i,k+1,o28,cap29,cs30,rfl,?_,rfl,?_,?_⟩
  ·exact hH.take 1
  · omega
  · (rw[yj,e2];exact hO32)
 ·simp only[qz2]at hc24;refine wp_exit ?_;simp only[Exit.then,Exit.inBlock,↓reduceIte,Nat.reduceEqDiff];refine hK12 _ _ (wp_seq_k fun K35 hK35=>ak [.p 0,.p 1,.p 2] ?_);refine pm (pa (ci 0 ?_));simp only[nf];refine aa hH fun w36 hH=>hK35 _ _ (wp_ret ?_);refine BP.ret2 rfl rfl rfl ?_;obtain rfl:m=0:=by omega
  obtain rfl:k=s:=by omega
  exact⟨_,_,_,rfl,hH.chg,hO,hH.owned 0 rfl⟩
theorem zp {n s:Nat} (h:s=1∨s=2∧64≤n∨s=4∧16384≤n∨s=8∧1073741824≤n) (hn:n<4611686018427387904) (hf:vf n s=true):iL n=s:=by
  rw[wi (by omega) (by omega)]at hf;have hf:=of_decide_eq_true hf;unfold iL;rcases h with rfl|⟨rfl,h⟩|⟨rfl,h⟩|⟨rfl,h⟩
  · have hf:n<64:=hf
    rw[if_pos hf]
  · have hf:n<16384:=hf
    rw[if_neg (by omega),if_pos hf]
  · have hf:n<1073741824:=hf
    rw[if_neg (by omega),if_neg (by omega),if_pos hf]
  · rw[if_neg (by omega),if_neg (by omega),if_neg (by omega)]
theorem A8 {n s:Nat} (h:s=1∨s=2∧64≤n∨s=4∧16384≤n∨s=8∧1073741824≤n) (hn:n<4611686018427387904) (hf:vf n s=false):s*2=1∨s*2=2∧64≤n∨s*2=4∧16384≤n∨s*2=8∧1073741824≤n:=by
  rw[wi (by omega) (by omega)]at hf;have hf:=of_decide_eq_false hf;rcases h with rfl|⟨rfl,h⟩|⟨rfl,h⟩|⟨rfl,h⟩
  · have hf:¬n<64:=hf
    omega
  · have hf:¬n<16384:=hf
    omega
  · have hf:¬n<1073741824:=hf
    omega
  · have hf:¬n<4611686018427387904:=hf
    omega
theorem xz (n:Nat) (w:World) (hZ:c9 w) (hn2:n<4611686018427387904):aZ Tryd.prog 56 #[bb n] w fun v w'=>∃o cap cs,v= .tuple #[own o (iL n) cap,bb (0:Nat)]∧Chg [] w w'∧OwnC o (iL n) cap 1 cs ((om n (iL n)).map V8)∧∀b,o=some b→w.heap.size≤b∧cD w' b 5 cs:=by
 have hn:n<9223372036854775808:=by omega
 refine aZ.enter Tryd.func56 rfl ?_;simp only[Tryd.ntmps56,fe,Nat.reduceAdd,Nat.reduceSub];have hH:=Hp.start [] w;refine wp_seq_k fun K1 hK1=>ak [.p 0,.p 1] ?_;refine pa (ci 0 ?_);simp only[nf];refine aa hH fun w2 hH=>hK1 _ _ (wp_seq_k fun K3 hK3=>wp_seq_k fun K4 hK4=>ak [.p 0] ?_);refine ci 1 ?_;simp only[nf];refine aa hH fun w5 hH=>hK4 _ _ (wp_block (bd [4] [2,3,5,6,7,8,9,10,11,12,13,14,15,16] (fun(n6:Nat) (vs:List Value) (w':World)=>∃(s:Nat),vs=[bb (s:Nat)]∧Hp [] w w' []∧n6=16 - s∧(s=1∨s=2∧64≤n∨s=4∧16384≤n∨s=8∧1073741824≤n)) (16 - 1) (by kernel_rfl) ?_ ?_))
 ·simp only[ga];refine⟨1,rfl,?_,rfl,?_⟩
  ·exact hH
  · omega
 clear hH;intro n6 vs7 w8 hR9 d0;obtain⟨s,rfl,hH,hn10,hsf⟩:=hR9;simp only[bG,c6,List.set_cons_zero,List.set_cons_succ,Nat.zero_add,Nat.reduceAdd];have hs:s=1∨s=2∨s=4∨s=8:=by omega
 refine wp_seq_k fun K11 hK11=>wp_seq_k fun K12 hK12=>ak [.p 0,.p 1] ?_;refine pm ?_;simp only[nf];refine pp rfl rfl (ac rfl rfl (by exact jq (n:=8))) ?_;simp only[nf];refine aa hH fun w13 hH=>hK12 _ _ (wp_cond_true (by show BV _=_;rw[decide_eq_true (by omega)]) (wp_skip (hK11 _ _ (wp_seq_k fun K14 hK14=>wp_block (wp_seq_k fun K15 hK15=>ak [.p 0,.p 1,.q 2] ?_)))));refine pm (pm ?_);simp only[nf];refine pq rfl rfl (aj cf74 (fun w' hw=>py _ _ w' hn (by exact hs)) rfl) ?_;simp only[nf];refine aa hH fun w16 hH=>hK15 _ _ (wp_cond_split rfl (fun hc17=>?_) (fun hc17=>?_))
 ·have hf:=hc17;have hv:=zp hsf hn2 hf;refine wp_seq_k fun K18 hK18=>ak [.p 0,.p 1,.x 2,.p 3,.p 4,.p 5,.p 6] ?_;refine pm (pm ?_);simp only[nf];refine ar rfl rfl hH cf75 (fun w' hH=>td _ _ w' (hZ.grow hH.chg) hn hs hf) rfl (fun _ _ _ h=>by obtain⟨_,_,_,_,hg,_⟩:=h;exact hg) ?_;clear hH;intro w19 v20 w21 hH hp22;obtain⟨o23,cap24,cs25,rfl,hg,hO26,hfr⟩:=hp22;replace hH:=hH.callown hg hfr;clear hg hfr;simp only[qz0,Value.cells]at hH⊢;refine pp rfl rfl (ai rfl rfl) ?_;simp only[nf];refine pp rfl rfl (ai rfl rfl) ?_;simp only[nf];refine pa (pa ?_);simp only[nf];refine aa hH fun w27 hH=>hK18 _ _ (wp_ret ?_);simp only[Exit.then,Exit.inBlock,↓reduceIte,Nat.reduceEqDiff];refine BP.ret2 rfl rfl rfl ?_;rw[hv];exact⟨_,_,_,rfl,hH.chg,(by assumption),hH.owned 0 rfl⟩
 ·have hno:=A8 hsf hn2 hc17;refine wp_skip (hK14 _ _ (ak [.p 0,.p 1,.p 2] ?_));refine pm ?_;simp only[nf];refine pp rfl rfl (ac rfl rfl (by exact dV (n:=2) (by omega))) ?_;simp only[nf];refine pa ?_;simp only[nf];refine aa hH fun w28 hH=>?_;simp only[Exit.then,Exit.inBlock,↓reduceIte,Nat.reduceEqDiff];refine⟨16 - s*2,?_,_,rfl,by kernel_rfl,?_⟩
  · omega
  simp only[ga];refine⟨s*2,rfl,?_,rfl,?_⟩
  ·exact hH
  · omega
end Go.Proofs.YtomjbepgbnbgmaaDoor
namespace Go.Proofs.YtomjbepgbnbgmaaDoor
open Go
open List (getD_cons_zero getD_cons_succ set_cons_zero set_cons_succ)
abbrev P2:=UInt64×UInt64
abbrev PV (p:P2):Value:= .agg #[db p.1,db p.2]
def n7 (f:Nat→UInt8):Nat→UInt64
  |0=>0
  |n+1=>n7 f n<<<8|||(f n).toUInt64
def ofP (f:Nat→UInt8):P2:=(n7 f 8,n7 (fun i=>f (8+i)) 8)
def wx (x:UInt64) (i:Nat):UInt8:=(if 56 - 8*i<64 then x>>>UInt64.ofNat (56 - 8*i)else 0).toUInt8
def B2 (p:P2) (j:Nat):UInt8:=if j<8 then wx p.1 j else wx p.2 (j - 8)
def Ae (a:P2) (i:Nat):UInt64:= -((if 63 - i%64<64 then(if 64≤i then a.2 else a.1)>>>UInt64.ofNat (63 - i%64)else 0)&&&1)
def bW (b:P2):Nat→P2
  |0=>b
  |n+1=>((bW b n).1>>>1^^^(-((bW b n).2&&&1))&&&16212958658533785600,(bW b n).2>>>1|||(bW b n).1<<<63)
def zW (a b:P2):Nat→P2
  |0=>(0,0)
  |n+1=>((zW a b n).1^^^(bW b n).1&&&Ae a n,(zW a b n).2^^^(bW b n).2&&&Ae a n)
def Ci (a b:P2):P2:=zW a b 128
def blkP (l:List UInt8) (n:Nat):P2:=ofP fun i=>l.getD (16*n+i) 0
def mA (h r:P2) (l:List UInt8):Nat→P2
  |0=>r
  |n+1=>Ci ((mA h r l n).1^^^(blkP l n).1,(mA h r l n).2^^^(blkP l n).2) h
def gD (l:List UInt8):Nat:=(l.length+15)/16
theorem uT (l:List UInt8) (h:8≤l.length):n7 (fun i=>(l.take 8).getD i 0) 8=n7 (fun i=>l.getD i 0) 8:=by
  simp only[n7];rw[fQ l (by omega),fQ l (by omega),fQ l (by omega),fQ l (by omega),fQ l (by omega),fQ l (by omega),fQ l (by omega),fQ l (by omega)]
theorem AU (p:P2) (i j:Nat) (hi:i<8) (hj:j<16):
    dn (dn (fun j=>if j<i∨8≤j∧j<8+i then B2 p j else 0) i (wx p.1 i)) (8+i) (wx p.2 i) j=if j<i+1∨8≤j∧j<8+(i+1)then B2 p j else 0:=by
  simp only[dn];by_cases h1:j=8+i
  · subst h1
    rw[if_pos rfl,if_pos (by omega)];unfold B2;rw[if_neg (by omega),Nat.add_sub_cancel_left]
  · rw[if_neg h1]
    by_cases h2:j=i
    · subst h2
      rw[if_pos rfl,if_pos (by omega)];unfold B2;rw[if_pos hi]
    · rw[if_neg h2]
      by_cases h3:j<i∨8≤j∧j<8+i
      · rw[if_pos h3,if_pos (by omega)]
      · rw[if_neg h3,if_neg (by omega)]
theorem p4 (v:Value) (l:List UInt8) (w:World) (hv:Sl w v l) (h8:8≤l.length):aZ Tryd.prog 89 #[v] w fun v' w'=>v'=db (n7 (fun i=>l.getD i 0) 8)∧Chg [] w w':=by
 refine aZ.enter Tryd.func89 rfl ?_;simp only[Tryd.ntmps89,fe,Nat.reduceAdd,Nat.reduceSub];have hH:=Hp.start [] w;refine wp_seq_k fun K1 hK1=>ak [.p 0] ?_;refine pa ?_;simp only[nf];refine aa hH fun w2 hH=>hK1 _ _ (wp_seq_k fun K3 hK3=>ak [.p 0] ?_);refine pa ?_;simp only[nf];refine aa hH fun w4 hH=>hK3 _ _ (wp_seq_k fun K5 hK5=>wp_seq_k fun K6 hK6=>ak [.p 0,.p 1,.p 2,.p 3] ?_);refine pm ?_;simp only[nf];refine pp rfl rfl (dh (hi:=8) (hv.chg hH.chg) rfl rfl Tryd.underlying31 bL (by omega)) ?_;simp only[nf];refine pp rfl rfl (aM (Sl.cuth (hv.chg hH.chg) (by omega)) rfl Tryd.underlying31) ?_;simp only[nf];refine pk 0 ?_;simp only[nf];refine aa hH fun w7 hH=>hK6 _ _ (wp_block (bd [3,9] [5,10,11,12,13,14,15,16,17,18] (fun(n8:Nat) (vs:List Value) (w':World)=>∃(i:Nat),vs=[db (n7 (fun i=>(l.take 8).getD i 0) i),bb (i:Nat)]∧Hp [] w w' []∧n8=8 - i∧i≤8) (8 - 0) (by kernel_rfl) ?_ ?_))
 ·simp only[ga];refine⟨0,rfl,?_,rfl,?_⟩
  ·exact hH
  · omega
 clear hH;intro n8 vs9 w10 hR11 d0;obtain⟨i,rfl,hH,hn12,hf13⟩:=hR11;simp only[bG,c6,List.set_cons_zero,List.set_cons_succ,Nat.zero_add,Nat.reduceAdd];refine wp_seq_k fun K14 hK14=>ak [.p 0] ?_;refine pp rfl rfl (ac rfl rfl (by exact aJ)) ?_;simp only[nf];refine aa hH fun w15 hH=>hK14 _ _ (wp_seq_k fun K16 hK16=>wp_cond_split rfl (fun hc17=>?_) (fun hc17=>?_))
 ·simp only[dm]at hc17;simp only[List.length_take]at hc17;refine wp_skip (hK16 _ _ (wp_seq_k fun K18 hK18=>wp_block (wp_seq_k fun K19 hK19=>ak [.p 0,.q 1,.p 2] ?_)));refine pp rfl rfl (bR (Sl.cuth (hv.chg hH.chg) (by omega)) rfl rfl Tryd.underlying31 bL (by(simp<;>omega))) ?_;simp only[nf];refine pq rfl rfl (ah rfl Tryd.underlying5 rfl (Sl.cell (Sl.cuth (hv.chg hH.chg) (by omega)) (by(simp<;>omega)))) ?_;simp only[nf];refine pa ?_;simp only[nf];refine aa hH fun w20 hH=>hK19 _ _ (ak [.p 0,.p 1,.p 2,.p 3,.p 4,.p 5] ?_);refine pm ?_;simp only[nf];refine pp rfl rfl (ac rfl rfl (d8 8 8 (by decide) rfl _)) ?_;simp only[nf];refine pm ?_;simp only[nf];refine pp rfl rfl (bw rfl (ki _ Tryd.underlying5 Tryd.underlying35)) ?_;simp only[nf];refine pp rfl rfl (ac rfl rfl (fL _ _)) ?_;simp only[nf];refine pa ?_;simp only[nf];refine aa hH fun w21 hH=>hK18 _ _ (ak [.p 0,.p 1] ?_);refine pp rfl rfl (ac rfl rfl (by exact aE (n:=1) (by omega))) ?_;simp only[nf];refine pm ?_;simp only[nf];refine aa hH fun w22 hH=>?_;simp only[Exit.then,Exit.inBlock,↓reduceIte,Nat.reduceEqDiff];refine⟨8 - (i+1),?_,_,rfl,by kernel_rfl,?_⟩
  · omega
  simp only[ga];refine⟨i+1,rfl,?_,rfl,?_⟩
  ·exact hH
  · omega
 ·simp only[dm]at hc17;simp only[List.length_take]at hc17;refine wp_exit ?_;simp only[Exit.then,Exit.inBlock,↓reduceIte,Nat.reduceEqDiff];refine hK5 _ _ (wp_seq_k fun K23 hK23=>ak [.p 0,.p 1] ?_);refine pm (pa ?_);simp only[nf];refine aa hH fun w24 hH=>hK23 _ _ (wp_ret ?_);refine BP.ret1 rfl rfl ?_;obtain rfl:i=8:=by omega
  exact⟨congrArg db (uT l h8),hH.chg⟩
theorem tZ (p:P2) (w:World):aZ Tryd.prog 92 #[PV p] w fun v w'=>v= .agg (a9 16 (B2 p))∧Chg [] w w':=by
 refine aZ.enter Tryd.func92 rfl ?_;simp only[Tryd.ntmps92,fe,Nat.reduceAdd,Nat.reduceSub];have hH:=Hp.start [] w;refine wp_seq_k fun K1 hK1=>ak [.x 0,.x 1] ?_;refine aX rfl rfl hH rfl ?_;clear hH;intro b2 w3 hH;simp only[qz0,Value.cells]at hH⊢;refine au rfl rfl hH kL ?_;clear hH;intro b4 w5 hH;simp only[qz0,Value.cells]at hH⊢;refine aa hH fun w6 hH=>hK1 _ _ (wp_seq_k fun K7 hK7=>ak [.x 0] ?_);refine au rfl rfl hH kL ?_;clear hH;intro b8 w9 hH;simp only[qz0,Value.cells]at hH⊢;refine aa hH fun w10 hH=>hK7 _ _ (wp_seq_k fun K11 hK11=>wp_seq_k fun K12 hK12=>ak [.p 0] ?_);refine pk 0 ?_;simp only[nf];refine aa hH fun w13 hH=>hK12 _ _ (wp_block (bd [5] [4,6,7,8,9,10,11,12,13,14,15,16,17,18,19,20,21,22,23,24,25,26,27] (fun(n14:Nat) (vs:List Value) (w':World)=>∃(i:Nat),vs=[bb (i:Nat)]∧Hp [] w w' [(some b2,123,#[db p.1,db p.2]),(some b4,125,a9 16 fun _=>0),(some b8,125,a9 16 fun j=>if j<i∨8≤j∧j<8+i then B2 p j else 0)]∧n14=8 - i∧i≤8) (8 - 0) (by kernel_rfl) ?_ ?_))
 ·simp only[ga];refine⟨0,rfl,?_,rfl,?_⟩
  ·exact hH.say 2 rfl (bI fun j hj=>by rw[if_neg (by omega)])
  · omega
 clear hH;intro n14 vs15 w16 hR17 d0;obtain⟨i,rfl,hH,hn18,hf19⟩:=hR17;simp only[bG,c6,List.set_cons_zero,List.set_cons_succ,Nat.zero_add,Nat.reduceAdd];refine wp_seq_k fun K20 hK20=>ak [.p 0] ?_;refine pp rfl rfl (ac rfl rfl (by exact aJ (n:=8))) ?_;simp only[nf];refine aa hH fun w21 hH=>hK20 _ _ (wp_seq_k fun K22 hK22=>wp_cond_split rfl (fun hc23=>?_) (fun hc23=>?_))
 ·simp only[dm]at hc23;refine wp_skip (hK22 _ _ (wp_seq_k fun K24 hK24=>wp_block (wp_seq_k fun K25 hK25=>ak [.p 0,.p 1] ?_)));refine pm (pa ?_);simp only[nf];refine aa hH fun w26 hH=>hK25 _ _ ?_;refine fF (Chg [b8]) (Far.chg _) [.p 0,.p 1,.p 2,.p 3,.p 5,.p 6,.p 7,.p 10,.p 12,.p 13,.p 14,.r 4 (Chg [b8]),.p 8,.p 9,.p 17,.r 11 (Chg [b8]),.p 15,.p 16,.s 18 (Chg [b8]),.p 19,.s 20 (Chg [b8])] (by simp[aY]) (by kernel_rfl) (by kernel_rfl) (by kernel_rfl) (by kernel_rfl) (fun _ _ _ _ _ h=>by exact BP.panic _ _ _ _ _ h) ?_;refine pm (pm ?_);simp only[nf];refine pp rfl rfl (ac rfl rfl (by exact aE (m:=8) (by omega))) ?_;simp only[nf];refine pp rfl rfl (ab 0 rfl Tryd.underlying123 rfl rfl bz) ?_;simp only[nf];refine pm ?_;simp only[nf];refine pp rfl rfl (ac rfl rfl (by exact dV (m:=8) (by omega))) ?_;simp only[nf];refine pp rfl rfl (ac rfl rfl (by exact cj (m:=56) (by omega) (by omega))) ?_;simp only[nf];refine pp rfl rfl (ab 1 rfl Tryd.underlying123 rfl rfl bz) ?_;simp only[nf];refine pm ?_;simp only[nf];refine pp rfl rfl (ac rfl rfl (by exact dV (m:=8) (by omega))) ?_;simp only[nf];refine pp rfl rfl (ac rfl rfl (by exact cj (m:=56) (by omega) (by omega))) ?_;simp only[nf];refine jA rfl rfl (pj (fun w' hw=>hH.far 0 rfl hw (by simp only[List.mem_cons,List.not_mem_nil,or_false,not_or];exact hH.other (i:=2) rfl (j:=0) rfl (by decide) rfl)) rfl Tryd.underlying35 rfl rfl) ?_;simp only[nf];refine pp rfl rfl (ac rfl rfl (d6 _ _ _)) ?_;simp only[nf];refine pp rfl rfl (bw rfl (iH _ Tryd.underlying35 Tryd.underlying5)) ?_;simp only[nf];refine pp rfl rfl (aq rfl rfl Tryd.underlying125 bL (by omega)) ?_;simp only[nf];refine jA rfl rfl (pj (fun w' hw=>hH.far 0 rfl hw (by simp only[List.mem_cons,List.not_mem_nil,or_false,not_or];exact hH.other (i:=2) rfl (j:=0) rfl (by decide) rfl)) rfl Tryd.underlying35 rfl rfl) ?_;simp only[nf];refine pp rfl rfl (ac rfl rfl (d6 _ _ _)) ?_;simp only[nf];refine pp rfl rfl (bw rfl (iH _ Tryd.underlying35 Tryd.underlying5)) ?_;simp only[nf];refine mP 2 rfl rfl hH rfl rfl rfl rfl bL (by simp<;>omega) (by simp) ?_;clear hH;intro w27 hH;simp only[qz0,Value.cells]at hH⊢;refine pp rfl rfl (aq rfl rfl Tryd.underlying125 bL (by omega)) ?_;simp only[nf];refine mP 2 rfl rfl hH rfl rfl rfl rfl bL (by simp<;>omega) (by simp) ?_;clear hH;intro w28 hH;simp only[qz0,Value.cells]at hH⊢;refine aa hH fun w29 hH=>hK24 _ _ (ak [.p 0,.p 1] ?_);refine pp rfl rfl (ac rfl rfl (by exact aE (n:=1) (by omega))) ?_;simp only[nf];refine pm ?_;simp only[nf];refine aa hH fun w30 hH=>?_;simp only[Exit.then,Exit.inBlock,↓reduceIte,Nat.reduceEqDiff];refine⟨8 - (i+1),?_,_,rfl,by kernel_rfl,?_⟩
  · omega
  simp only[ga];refine⟨i+1,rfl,?_,rfl,?_⟩
  ·exact hH.say 2 rfl (bI fun j hj=>AU p i j (by omega) hj)
  · omega
 ·simp only[dm]at hc23;refine wp_exit ?_;simp only[Exit.then,Exit.inBlock,↓reduceIte,Nat.reduceEqDiff];refine hK11 _ _ (wp_seq_k fun K31 hK31=>ak [.q 0,.e 1] ?_);refine pq rfl rfl (aA rfl (hH.blk 2 rfl) Tryd.underlying125 rfl dF (by simp)) ?_;simp only[nf];refine ao 1 rfl rfl hH rfl rfl rfl bj dF (by simp) (by simp) ?_;clear hH;intro w32 hH;simp only[qz0,Value.cells]at hH⊢;refine aa hH fun w33 hH=>hK31 _ _ (wp_ret ?_);refine BP.retc rfl rfl (hH.blk 1 rfl) Tryd.underlying125 rfl dF (by simp) ?_;obtain rfl:i=8:=by omega
  exact⟨by rw[bI fun j hj=>if_pos (by omega)],hH.chg⟩
theorem rY (f:Nat→UInt8) (w:World):aZ Tryd.prog 79 #[.agg (a9 16 f)] w fun v w'=>v=PV (ofP f)∧Chg [] w w':=by
 refine aZ.enter Tryd.func79 rfl ?_;simp only[Tryd.ntmps79,fe,Nat.reduceAdd,Nat.reduceSub];have hH:=Hp.start [] w;refine wp_seq_k fun K1 hK1=>ak [.x 0,.x 1] ?_;refine aX rfl rfl hH rfl ?_;clear hH;intro b2 w3 hH;simp only[qz0,Value.cells]at hH⊢;refine au rfl rfl hH qN ?_;clear hH;intro b4 w5 hH;simp only[qz0,Value.cells]at hH⊢;refine aa hH fun w6 hH=>hK1 _ _ (wp_seq_k fun K7 hK7=>en [.p 0,.p 2,.q 1,.q 3,.p 4,.e 5] ?_);refine pp rfl rfl (k8 (h:=8) rfl rfl Tryd.underlying125 bL (by omega)) (pp rfl rfl (oo (l:=8) rfl rfl Tryd.underlying125 bL (by omega)) (pq rfl rfl (aj cf89 (fun w' hw=>p4 _ _ w' ((Sl.of_arr8 (hH.blk 0 rfl) (by omega) (by omega)).chg hw) (by simp)) rfl) (pq rfl rfl (aj cf89 (fun w' hw=>p4 _ _ w' ((Sl.of_arr8 (hH.blk 0 rfl) (by omega) (by omega)).chg hw) (by simp)) rfl) ?_)));simp only[nf];refine pp rfl rfl (aT (by rfl) (nB _ _)) ?_;simp only[nf];refine ao 1 rfl rfl hH rfl rfl rfl (by simp[Value.oneCell']) gS (by simp) (by simp) ?_;clear hH;intro w8 hH;simp only[qz0,Value.cells]at hH⊢;refine aa hH fun w9 hH=>hK7 _ _ (wp_ret ?_);refine BP.retc rfl rfl (hH.blk 1 rfl) Tryd.underlying123 rfl gS (by simp) ?_;exact⟨rfl,hH.chg⟩
theorem mS (a b:P2) (w:World):aZ Tryd.prog 91 #[PV a,PV b] w fun v w'=>v=PV (Ci a b)∧Chg [] w w':=by
 refine aZ.enter Tryd.func91 rfl ?_;simp only[Tryd.ntmps91,fe,Nat.reduceAdd,Nat.reduceSub];have hH:=Hp.start [] w;refine wp_seq_k fun K1 hK1=>ak [.x 0,.x 1,.x 2] ?_;refine aX rfl rfl hH rfl ?_;clear hH;intro b2 w3 hH;simp only[qz0,Value.cells]at hH⊢;refine aX rfl rfl hH rfl ?_;clear hH;intro b4 w5 hH;simp only[qz0,Value.cells]at hH⊢;refine au rfl rfl hH qN ?_;clear hH;intro b6 w7 hH;simp only[qz0,Value.cells]at hH⊢;refine aa hH fun w8 hH=>hK1 _ _ (wp_seq_k fun K9 hK9=>ak [.x 0] ?_);refine au rfl rfl hH qN ?_;clear hH;intro b10 w11 hH;simp only[qz0,Value.cells]at hH⊢;refine aa hH fun w12 hH=>hK9 _ _ (wp_seq_k fun K13 hK13=>wp_seq_k fun K14 hK14=>ak [.p 0] ?_);refine pk 0 ?_;simp only[nf];refine aa hH fun w15 hH=>hK14 _ _ (wp_block (bd [10] [6,7,8,9,11,12,13,14,15,16,17,18,19,20,21,22,23,24,25,26,27,28,29,30,31,32,33,34,35,36,37,38,39,40,41,42,43,44,45,46,47,48,49,50,51,52,53,54,55,56,57,58,59,60,61] (fun(n16:Nat) (vs:List Value) (w':World)=>∃(i:Nat),vs=[bb (i:Nat)]∧Hp [] w w' [(some b2,123,#[db a.1,db a.2]),(some b4,123,#[db (bW b i).1,db (bW b i).2]),(some b6,123,#[db 0,db 0]),(some b10,123,#[db (zW a b i).1,db (zW a b i).2])]∧n16=128 - i∧i≤128) (128 - 0) (by kernel_rfl) ?_ ?_))
 ·simp only[ga];refine⟨0,rfl,?_,rfl,?_⟩
  ·exact hH
  · omega
 clear hH;intro n16 vs17 w18 hR19 d0;obtain⟨i,rfl,hH,hn20,hf21⟩:=hR19;simp only[bG,c6,List.set_cons_zero,List.set_cons_succ,Nat.zero_add,Nat.reduceAdd];refine wp_seq_k fun K22 hK22=>ak [.p 0] ?_;refine pp rfl rfl (ac rfl rfl (by exact aJ (n:=128))) ?_;simp only[nf];refine aa hH fun w23 hH=>hK22 _ _ (wp_seq_k fun K24 hK24=>wp_cond_split rfl (fun hc25=>?_) (fun hc25=>?_))
 ·simp only[dm]at hc25;refine wp_skip (hK24 _ _ (wp_seq_k fun K26 hK26=>wp_block (wp_seq_k fun K27 hK27=>ak [.p 0,.p 1] ?_)));refine pm (pa ?_);simp only[nf];refine aa hH fun w28 hH=>hK27 _ _ (wp_seq_k fun K29 hK29=>ak [.p 0,.q 1,.p 2] ?_);refine pp rfl rfl (ab 0 rfl Tryd.underlying123 rfl rfl bz) ?_;simp only[nf];refine pq rfl rfl (ah rfl Tryd.underlying35 rfl ((hH.blk 0 rfl).cell rfl)) ?_;simp only[nf];refine pa ?_;simp only[nf];refine aa hH fun w30 hH=>hK29 _ _ (wp_seq_k fun K31 hK31=>wp_seq_k fun K32 hK32=>ak [.p 0,.p 1] ?_);refine pm ?_;simp only[nf];refine pp rfl rfl (ac rfl rfl (by exact de (n:=64))) ?_;simp only[nf];refine aa hH fun w33 hH=>hK32 _ _ (wp_cond_split rfl (fun hc34=>?_) (fun hc34=>?_))
  ·simp only[dm]at hc34;refine ak [.p 0,.q 1,.p 2] ?_;refine pp rfl rfl (ab 1 rfl Tryd.underlying123 rfl rfl bz) ?_;simp only[nf];refine pq rfl rfl (ah rfl Tryd.underlying35 rfl ((hH.blk 0 rfl).cell rfl)) ?_;simp only[nf];refine pa ?_;simp only[nf];refine aa hH fun w35 hH=>hK31 _ _ (wp_seq_k fun K36 hK36=>ak [.p 0,.p 1,.p 2,.p 3,.p 4,.p 5,.p 6,.p 7] ?_);refine pm (pm ?_);simp only[nf];refine pp rfl rfl (ac rfl rfl (by first|exact dM (n:=64) (by omega))) ?_;simp only[nf];refine pp rfl rfl (ac rfl rfl (by exact cj (m:=63) (by omega) (by omega))) ?_;simp only[nf];refine pp rfl rfl (ac rfl rfl (d6 _ _ _)) ?_;simp only[nf];refine pp rfl rfl (ac rfl rfl (bJ _ 1)) ?_;simp only[nf];refine pp rfl rfl (kI rfl) ?_;simp only[nf];refine pa ?_;simp only[nf];refine aa hH fun w37 hH=>hK36 _ _ (wp_seq_k fun K38 hK38=>ak [.p 0,.q 1,.p 2,.q 3,.p 4,.p 5,.p 6,.p 7,.e 8] ?_);refine pp rfl rfl (ab 0 rfl Tryd.underlying123 rfl rfl bz) ?_;simp only[nf];refine pq rfl rfl (ah rfl Tryd.underlying35 rfl ((hH.blk 3 rfl).cell rfl)) ?_;simp only[nf];refine pp rfl rfl (ab 0 rfl Tryd.underlying123 rfl rfl bz) ?_;simp only[nf];refine pq rfl rfl (ah rfl Tryd.underlying35 rfl ((hH.blk 1 rfl).cell rfl)) ?_;simp only[nf];refine pm ?_;simp only[nf];refine pp rfl rfl (ac rfl rfl (bJ _ _)) ?_;simp only[nf];refine pp rfl rfl (ac rfl rfl (cd _ _)) ?_;simp only[nf];refine pp rfl rfl (ab 0 rfl Tryd.underlying123 rfl rfl bz) ?_;simp only[nf];refine am 3 rfl rfl hH rfl rfl rfl rfl bz (by simp<;>omega) ?_;clear hH;intro w39 hH;simp only[qz0,Value.cells]at hH⊢;refine aa hH fun w40 hH=>hK38 _ _ (wp_seq_k fun K41 hK41=>ak [.p 0,.q 1,.p 2,.q 3,.p 4,.p 5,.p 6,.p 7,.e 8] ?_);refine pp rfl rfl (ab 1 rfl Tryd.underlying123 rfl rfl bz) ?_;simp only[nf];refine pq rfl rfl (ah rfl Tryd.underlying35 rfl ((hH.blk 3 rfl).cell rfl)) ?_;simp only[nf];refine pp rfl rfl (ab 1 rfl Tryd.underlying123 rfl rfl bz) ?_;simp only[nf];refine pq rfl rfl (ah rfl Tryd.underlying35 rfl ((hH.blk 1 rfl).cell rfl)) ?_;simp only[nf];refine pm ?_;simp only[nf];refine pp rfl rfl (ac rfl rfl (bJ _ _)) ?_;simp only[nf];refine pp rfl rfl (ac rfl rfl (cd _ _)) ?_;simp only[nf];refine pp rfl rfl (ab 1 rfl Tryd.underlying123 rfl rfl bz) ?_;simp only[nf];refine am 3 rfl rfl hH rfl rfl rfl rfl bz (by simp<;>omega) ?_;clear hH;intro w42 hH;simp only[qz0,Value.cells]at hH⊢;refine aa hH fun w43 hH=>hK41 _ _ (wp_seq_k fun K44 hK44=>ak [.p 0,.q 1,.p 2,.p 3,.p 4] ?_);refine pp rfl rfl (ab 1 rfl Tryd.underlying123 rfl rfl bz) ?_;simp only[nf];refine pq rfl rfl (ah rfl Tryd.underlying35 rfl ((hH.blk 1 rfl).cell rfl)) ?_;simp only[nf];refine pp rfl rfl (ac rfl rfl (bJ _ 1)) ?_;simp only[nf];refine pp rfl rfl (kI rfl) ?_;simp only[nf];refine pa ?_;simp only[nf];refine aa hH fun w45 hH=>hK44 _ _ (wp_seq_k fun K46 hK46=>ak [.p 0,.q 1,.p 2,.p 3,.q 4,.p 5,.p 6,.p 7,.e 8] ?_);refine pp rfl rfl (ab 1 rfl Tryd.underlying123 rfl rfl bz) ?_;simp only[nf];refine pq rfl rfl (ah rfl Tryd.underlying35 rfl ((hH.blk 1 rfl).cell rfl)) ?_;simp only[nf];refine pp rfl rfl (ac rfl rfl (bY 1 1 (by decide) rfl _)) ?_;simp only[nf];refine pp rfl rfl (ab 0 rfl Tryd.underlying123 rfl rfl bz) ?_;simp only[nf];refine pq rfl rfl (ah rfl Tryd.underlying35 rfl ((hH.blk 1 rfl).cell rfl)) ?_;simp only[nf];refine pp rfl rfl (ac rfl rfl (d8 63 63 (by decide) rfl _)) ?_;simp only[nf];refine pp rfl rfl (ac rfl rfl (fL _ _)) ?_;simp only[nf];refine pp rfl rfl (ab 1 rfl Tryd.underlying123 rfl rfl bz) ?_;simp only[nf];refine am 1 rfl rfl hH rfl rfl rfl rfl bz (by simp<;>omega) ?_;clear hH;intro w47 hH;simp only[qz0,Value.cells]at hH⊢;refine aa hH fun w48 hH=>hK46 _ _ (ak [.p 0,.q 1,.p 2,.p 3,.p 4,.p 5,.p 6,.e 7] ?_);refine pp rfl rfl (ab 0 rfl Tryd.underlying123 rfl rfl bz) ?_;simp only[nf];refine pq rfl rfl (ah rfl Tryd.underlying35 rfl ((hH.blk 1 rfl).cell rfl)) ?_;simp only[nf];refine pp rfl rfl (ac rfl rfl (bY 1 1 (by decide) rfl _)) ?_;simp only[nf];refine pm ?_;simp only[nf];refine pp rfl rfl (ac rfl rfl (bJ _ 16212958658533785600)) ?_;simp only[nf];refine pp rfl rfl (ac rfl rfl (cd _ _)) ?_;simp only[nf];refine pp rfl rfl (ab 0 rfl Tryd.underlying123 rfl rfl bz) ?_;simp only[nf];refine am 1 rfl rfl hH rfl rfl rfl rfl bz (by simp<;>omega) ?_;clear hH;intro w49 hH;simp only[qz0,Value.cells]at hH⊢;refine aa hH fun w50 hH=>hK26 _ _ (ak [.p 0,.p 1] ?_);refine pp rfl rfl (ac rfl rfl (by exact aE (n:=1) (by omega))) ?_;simp only[nf];refine pm ?_;simp only[nf];refine aa hH fun w51 hH=>?_;simp only[Exit.then,Exit.inBlock,↓reduceIte,Nat.reduceEqDiff];refine⟨128 - (i+1),?_,_,rfl,by kernel_rfl,?_⟩
   · omega
   simp only[ga];refine⟨i+1,rfl,?_,rfl,?_⟩
   ·refine hH.cast ?_;simp only[zW,bW,Ae];rw[if_pos (by omega:64≤i)]
   · omega
  ·simp only[dm]at hc34;refine wp_skip (hK31 _ _ (wp_seq_k fun K52 hK52=>ak [.p 0,.p 1,.p 2,.p 3,.p 4,.p 5,.p 6,.p 7] ?_));refine pm (pm ?_);simp only[nf];refine pp rfl rfl (ac rfl rfl (by first|exact dM (n:=64) (by omega))) ?_;simp only[nf];refine pp rfl rfl (ac rfl rfl (by exact cj (m:=63) (by omega) (by omega))) ?_;simp only[nf];refine pp rfl rfl (ac rfl rfl (d6 _ _ _)) ?_;simp only[nf];refine pp rfl rfl (ac rfl rfl (bJ _ 1)) ?_;simp only[nf];refine pp rfl rfl (kI rfl) ?_;simp only[nf];refine pa ?_;simp only[nf];refine aa hH fun w53 hH=>hK52 _ _ (wp_seq_k fun K54 hK54=>ak [.p 0,.q 1,.p 2,.q 3,.p 4,.p 5,.p 6,.p 7,.e 8] ?_);refine pp rfl rfl (ab 0 rfl Tryd.underlying123 rfl rfl bz) ?_;simp only[nf];refine pq rfl rfl (ah rfl Tryd.underlying35 rfl ((hH.blk 3 rfl).cell rfl)) ?_;simp only[nf];refine pp rfl rfl (ab 0 rfl Tryd.underlying123 rfl rfl bz) ?_;simp only[nf];refine pq rfl rfl (ah rfl Tryd.underlying35 rfl ((hH.blk 1 rfl).cell rfl)) ?_;simp only[nf];refine pm ?_;simp only[nf];refine pp rfl rfl (ac rfl rfl (bJ _ _)) ?_;simp only[nf];refine pp rfl rfl (ac rfl rfl (cd _ _)) ?_;simp only[nf];refine pp rfl rfl (ab 0 rfl Tryd.underlying123 rfl rfl bz) ?_;simp only[nf];refine am 3 rfl rfl hH rfl rfl rfl rfl bz (by simp<;>omega) ?_;clear hH;intro w55 hH;simp only[qz0,Value.cells]at hH⊢;refine aa hH fun w56 hH=>hK54 _ _ (wp_seq_k fun K57 hK57=>ak [.p 0,.q 1,.p 2,.q 3,.p 4,.p 5,.p 6,.p 7,.e 8] ?_);refine pp rfl rfl (ab 1 rfl Tryd.underlying123 rfl rfl bz) ?_;simp only[nf];refine pq rfl rfl (ah rfl Tryd.underlying35 rfl ((hH.blk 3 rfl).cell rfl)) ?_;simp only[nf];refine pp rfl rfl (ab 1 rfl Tryd.underlying123 rfl rfl bz) ?_;simp only[nf];refine pq rfl rfl (ah rfl Tryd.underlying35 rfl ((hH.blk 1 rfl).cell rfl)) ?_;simp only[nf];refine pm ?_;simp only[nf];refine pp rfl rfl (ac rfl rfl (bJ _ _)) ?_;simp only[nf];refine pp rfl rfl (ac rfl rfl (cd _ _)) ?_;simp only[nf];refine pp rfl rfl (ab 1 rfl Tryd.underlying123 rfl rfl bz) ?_;simp only[nf];refine am 3 rfl rfl hH rfl rfl rfl rfl bz (by simp<;>omega) ?_;clear hH;intro w58 hH;simp only[qz0,Value.cells]at hH⊢;refine aa hH fun w59 hH=>hK57 _ _ (wp_seq_k fun K60 hK60=>ak [.p 0,.q 1,.p 2,.p 3,.p 4] ?_);refine pp rfl rfl (ab 1 rfl Tryd.underlying123 rfl rfl bz) ?_;simp only[nf];refine pq rfl rfl (ah rfl Tryd.underlying35 rfl ((hH.blk 1 rfl).cell rfl)) ?_;simp only[nf];refine pp rfl rfl (ac rfl rfl (bJ _ 1)) ?_;simp only[nf];refine pp rfl rfl (kI rfl) ?_;simp only[nf];refine pa ?_;simp only[nf];refine aa hH fun w61 hH=>hK60 _ _ (wp_seq_k fun K62 hK62=>ak [.p 0,.q 1,.p 2,.p 3,.q 4,.p 5,.p 6,.p 7,.e 8] ?_);refine pp rfl rfl (ab 1 rfl Tryd.underlying123 rfl rfl bz) ?_;simp only[nf];refine pq rfl rfl (ah rfl Tryd.underlying35 rfl ((hH.blk 1 rfl).cell rfl)) ?_;simp only[nf];refine pp rfl rfl (ac rfl rfl (bY 1 1 (by decide) rfl _)) ?_;simp only[nf];refine pp rfl rfl (ab 0 rfl Tryd.underlying123 rfl rfl bz) ?_;simp only[nf];refine pq rfl rfl (ah rfl Tryd.underlying35 rfl ((hH.blk 1 rfl).cell rfl)) ?_;simp only[nf];refine pp rfl rfl (ac rfl rfl (d8 63 63 (by decide) rfl _)) ?_;simp only[nf];refine pp rfl rfl (ac rfl rfl (fL _ _)) ?_;simp only[nf];refine pp rfl rfl (ab 1 rfl Tryd.underlying123 rfl rfl bz) ?_;simp only[nf];refine am 1 rfl rfl hH rfl rfl rfl rfl bz (by simp<;>omega) ?_;clear hH;intro w63 hH;simp only[qz0,Value.cells]at hH⊢;refine aa hH fun w64 hH=>hK62 _ _ (ak [.p 0,.q 1,.p 2,.p 3,.p 4,.p 5,.p 6,.e 7] ?_);refine pp rfl rfl (ab 0 rfl Tryd.underlying123 rfl rfl bz) ?_;simp only[nf];refine pq rfl rfl (ah rfl Tryd.underlying35 rfl ((hH.blk 1 rfl).cell rfl)) ?_;simp only[nf];refine pp rfl rfl (ac rfl rfl (bY 1 1 (by decide) rfl _)) ?_;simp only[nf];refine pm ?_;simp only[nf];refine pp rfl rfl (ac rfl rfl (bJ _ 16212958658533785600)) ?_;simp only[nf];refine pp rfl rfl (ac rfl rfl (cd _ _)) ?_;simp only[nf];refine pp rfl rfl (ab 0 rfl Tryd.underlying123 rfl rfl bz) ?_;simp only[nf];refine am 1 rfl rfl hH rfl rfl rfl rfl bz (by simp<;>omega) ?_;clear hH;intro w65 hH;simp only[qz0,Value.cells]at hH⊢;refine aa hH fun w66 hH=>hK26 _ _ (ak [.p 0,.p 1] ?_);refine pp rfl rfl (ac rfl rfl (by exact aE (n:=1) (by omega))) ?_;simp only[nf];refine pm ?_;simp only[nf];refine aa hH fun w67 hH=>?_;simp only[Exit.then,Exit.inBlock,↓reduceIte,Nat.reduceEqDiff];refine⟨128 - (i+1),?_,_,rfl,by kernel_rfl,?_⟩
   · omega
   simp only[ga];refine⟨i+1,rfl,?_,rfl,?_⟩
   ·refine hH.cast ?_;simp only[zW,bW,Ae];rw[if_neg (by omega:¬64≤i)]
   · omega
 ·simp only[dm]at hc25;refine wp_exit ?_;simp only[Exit.then,Exit.inBlock,↓reduceIte,Nat.reduceEqDiff];refine hK13 _ _ (wp_seq_k fun K68 hK68=>ak [.q 0,.e 1] ?_);refine pq rfl rfl (aA rfl (hH.blk 3 rfl) Tryd.underlying123 rfl gS (by simp)) ?_;simp only[nf];refine ao 2 rfl rfl hH rfl rfl rfl (by simp[Value.oneCell']) gS (by simp) (by simp) ?_;clear hH;intro w69 hH;simp only[qz0,Value.cells]at hH⊢;refine aa hH fun w70 hH=>hK68 _ _ (wp_ret ?_);refine BP.retc rfl rfl (hH.blk 2 rfl) Tryd.underlying123 rfl gS (by simp) ?_;obtain rfl:i=128:=by omega
  exact⟨rfl,hH.chg⟩
end Go.Proofs.YtomjbepgbnbgmaaDoor
namespace Go.Proofs.YtomjbepgbnbgmaaDoor
open Go
open List (getD_cons_zero getD_cons_succ set_cons_zero set_cons_succ)
theorem yU (l:List UInt8) (k j:Nat) (hj:j<16):(if 0≤j∧j<min (l.drop (16*k)).length 16 then(l.drop (16*k)).getD (j - 0) 0 else 0)=l.getD (16*k+j) 0:=by
  rw[Nat.sub_zero];by_cases h:j<min (l.drop (16*k)).length 16
  · rw[if_pos ⟨Nat.zero_le _,h⟩]
    simp only[List.getD,List.getElem?_drop]
  · rw[if_neg (by omega)]
    rw[List.length_drop]at h;simp only[List.getD];rw[List.getElem?_eq_none (by omega)];rfl
theorem zh (l:List UInt8) (k:Nat):(l.drop (16*k)).drop (min (l.drop (16*k)).length 16)=l.drop (16*(k+1)):=by
  rw[List.drop_drop];by_cases h:16*k+16≤l.length
  · rw[List.length_drop,show 16*k+min (l.length - 16*k) 16=16*(k+1)by omega]
  · rw[List.length_drop,List.drop_eq_nil_of_le (by omega),List.drop_eq_nil_of_le (by omega)]
def orD (a b:List UInt8):Nat→UInt8
  |0=>0
  |n+1=>orD a b n|||(a.getD n 0^^^b.getD n 0)
theorem zi {x y:UInt8}:x|||y=0↔x=0∧y=0:=by
  constructor
  · intro h
    have h1:=congrArg UInt8.toNat h;rw[UInt8.toNat_or]at h1;have h1:x.toNat|||y.toNat=0:=h1
    rw[Nat.or_eq_zero_iff]at h1;exact⟨UInt8.toNat_inj.1 h1.1,UInt8.toNat_inj.1 h1.2⟩
  · rintro⟨rfl,rfl⟩;rfl
theorem x9 {x y:UInt8}:x^^^y=0↔x=y:=by
  constructor
  · intro h
    have:=congrArg (· ^^^y) h;simpa [UInt8.xor_assoc] using this
  · rintro rfl;exact UInt8.xor_self
theorem t5 (a b:List UInt8):∀n,orD a b n=0↔∀i,i<n→a.getD i 0=b.getD i 0
  |0=>⟨fun _ i hi=>absurd hi (Nat.not_lt_zero _),fun _=>rfl⟩
  |n+1=>by
    rw[orD,zi,t5 a b n,x9];constructor
    · rintro⟨h1,h2⟩ i hi
      by_cases e:i=n
      · subst e;exact h2
      · exact h1 i (by omega)
    · intro h
      exact⟨fun i hi=>h i (by omega),h n (by omega)⟩
theorem Af {a b:List UInt8} (h:a.length=b.length):(orD a b a.length==0)=(a==b):=by
  rw[Bool.eq_iff_iff,beq_iff_eq,beq_iff_eq,t5];constructor
  · intro h1
    apply List.ext_getElem h;intro i h2 h3;have:=h1 i h2;simpa [List.getD,h2,h3] using this
  · rintro rfl i _;rfl
def zD (nl:List UInt8) (n:UInt8) (i:Nat):UInt8:=(nl++[0,0,0,n]).getD i 0
def DC (h:P2) (al cl:List UInt8):P2:=
  Ci ((mA h (mA h (0,0) al (gD al)) cl (gD cl)).1^^^UInt64.ofNat al.length<<<3,(mA h (mA h (0,0) al (gD al)) cl (gD cl)).2^^^UInt64.ofNat cl.length<<<3) h
def kx (kf:Nat→UInt8) (h:P2) (nl al cl:List UInt8):List UInt8:=kC kf (zD nl 1) 0 ((List.range 16).map (B2 (DC h al cl))) 16
def nw (kf:Nat→UInt8) (nl bl:List UInt8):List UInt8:=kC kf (zD nl 2) 0 bl bl.length
def fv (kf:Nat→UInt8) (h:P2) (nl al bl:List UInt8):List UInt8:=nw kf nl bl++kx kf h nl al (nw kf nl bl)
theorem jz (kf:Nat→UInt8) (h:P2) (nl al cl:List UInt8):(kx kf h nl al cl).length=16:=kG ..
theorem lg (kf:Nat→UInt8) (nl bl:List UInt8):(nw kf nl bl).length=bl.length:=kG ..
def hP (kf:Nat→UInt8):P2:=ofP (kF kf (fun _=>0) 10)
theorem Dz (kf:Nat→UInt8):ofP (kF kf (fun i=>((List.range 16).map fun _=>(0:UInt8)).getD i 0) 10)=hP kf:=by
  unfold hP;rw[show(fun i=>((List.range 16).map fun _=>(0:UInt8)).getD i 0)=fun _=>0 from funext (vW 16)]
theorem pW (bx:Nat) (X v:Value) (h r:P2) (l:List UInt8) (w:World) (hx:cD w bx 127 #[X,db h.1,db h.2]) (hv:Sl w v l):
    aZ Tryd.prog 90 #[PT bx 0,PV r,v] w fun v' w'=>v'=PV (mA h r l (gD l))∧Chg [] w w':=by
 refine aZ.enter Tryd.func90 rfl ?_;simp only[Tryd.ntmps90,fe,Nat.reduceAdd,Nat.reduceSub];have hH:=Hp.start [] w;refine wp_seq_k fun K1 hK1=>ak [.x 0,.x 1] ?_;refine aX rfl rfl hH rfl ?_;clear hH;intro b2 w3 hH;simp only[qz0,Value.cells]at hH⊢;refine au rfl rfl hH qN ?_;clear hH;intro b4 w5 hH;simp only[qz0,Value.cells]at hH⊢;refine aa hH fun w6 hH=>hK1 _ _ (wp_seq_k fun K7 hK7=>wp_block ?_);obtain⟨kc8,hkc9,hN⟩:=hH.name 1 rfl;replace hH:=hN;clear hN;simp only[List.set_cons_zero,List.set_cons_succ]at hH;refine bd [2] [7,8,9,10,11,12,13,14,15,16,17,18,19,20,21,22,23,24,25,26,27,28,29,30,31,32,33,34,35,36] (fun(n10:Nat) (vs:List Value) (w':World)=>∃(k:Nat) (bv:Value),vs=[bv]∧Hp [] w w' [(some b2,123,#[db (mA h r l k).1,db (mA h r l k).2]),(some b4,123,kc8)]∧n10=gD l - k∧k≤gD l∧Sl w bv (l.drop (16*k))) (gD l - 0) (by kernel_rfl) ?_ ?_
 ·simp only[ga];refine⟨0,_,rfl,?_,rfl,?_,?_⟩
  ·exact hH
  · omega
  · (exact hv)
 clear hH;intro n10 vs11 w12 hR13 d0;obtain⟨k,bv,rfl,hH,hn14,hf15,hbv⟩:=hR13;simp only[bG,c6,List.set_cons_zero,List.set_cons_succ,Nat.zero_add,Nat.reduceAdd];subst hkc9;refine wp_seq_k fun K16 hK16=>wp_seq_k fun K17 hK17=>ak [.p 0,.p 1,.p 2] ?_;refine pm ?_;simp only[nf];refine pp rfl rfl (aM (hbv.chg hH.chg) rfl Tryd.underlying31) ?_;simp only[nf];refine pp rfl rfl (ac rfl rfl (by exact bZ (n:=0))) ?_;simp only[nf];refine aa hH fun w18 hH=>hK17 _ _ (wp_cond_split rfl (fun hc19=>?_) (fun hc19=>?_))
 ·simp only[dm]at hc19;refine wp_skip (hK16 _ _ (wp_block (wp_seq_k fun K20 hK20=>ak [.x 0] ?_)));refine au rfl rfl hH kL ?_;clear hH;intro b21 w22 hH;simp only[qz0,Value.cells]at hH⊢;refine aa hH fun w23 hH=>hK20 _ _ (wp_seq_k fun K24 hK24=>ak [.p 0,.p 1,.e 2,.p 3] ?_);refine pp rfl rfl (aR rfl Tryd.underlying125 bL) ?_;simp only[nf];refine pm ?_;simp only[nf];refine lu 2 rfl rfl hH rfl (fun w' hH=>((hbv.chg hH.chg)).csrc) rfl rfl Tryd.underlying31 bL (by omega) ?_;clear hH;intro w25 hH;simp only[qz0,Value.cells]at hH⊢;refine pa ?_;simp only[nf];refine aa hH fun w26 hH=>?_;replace hH:=hH.say 2 rfl (bI fun j hj=>yU l k j hj);simp only[List.set_cons_zero,List.set_cons_succ]at hH;refine hK24 _ _ (wp_seq_k fun K27 hK27=>ak [.p 0,.p 1,.p 2,.p 3] ?_);refine pm (pm ?_);simp only[nf];refine pp rfl rfl (cM (hbv.chg hH.chg) rfl rfl Tryd.underlying31 bL (by omega)) ?_;simp only[nf];refine pa ?_;simp only[nf];refine aa hH fun w28 hH=>hK27 _ _ (wp_seq_k fun K29 hK29=>ak [.q 0,.q 1,.x 2,.e 3] ?_);refine pq rfl rfl (aA rfl (hH.blk 2 rfl) Tryd.underlying125 rfl dF (by simp)) ?_;simp only[nf];refine pq rfl rfl (aj cf79 (fun w' hw=>rY _ w') rfl) ?_;simp only[nf];refine au rfl rfl hH qN ?_;clear hH;intro b30 w31 hH;simp only[qz0,Value.cells]at hH⊢;refine ao 3 rfl rfl hH rfl rfl rfl (by simp[Value.oneCell']) gS (by simp) (by simp) ?_;clear hH;intro w32 hH;simp only[qz0,Value.cells]at hH⊢;refine aa hH fun w33 hH=>hK29 _ _ (en [.p 0,.p 2,.p 5,.p 7,.p 11,.p 12,.p 13,.q 1,.q 3,.p 4,.q 6,.q 8,.p 9,.p 10,.q 14,.q 15,.e 16] ?_);refine pp rfl rfl (ab 0 rfl Tryd.underlying123 rfl rfl bz) ?_;simp only[nf];refine pp rfl rfl (ab 0 rfl Tryd.underlying123 rfl rfl bz) ?_;simp only[nf];refine pp rfl rfl (ab 1 rfl Tryd.underlying123 rfl rfl bz) ?_;simp only[nf];refine pp rfl rfl (ab 1 rfl Tryd.underlying123 rfl rfl bz) ?_;simp only[nf];refine pm ?_;simp only[nf];refine pp rfl rfl (ae rfl) ?_;simp only[nf];refine pp rfl rfl (ab 1 rfl Tryd.underlying127 rfl rfl gS) ?_;simp only[nf];refine pq rfl rfl (ah rfl Tryd.underlying35 rfl ((hH.blk 0 rfl).cell rfl)) ?_;simp only[nf];refine pq rfl rfl (ah rfl Tryd.underlying35 rfl ((hH.blk 3 rfl).cell rfl)) ?_;simp only[nf];refine pp rfl rfl (ac rfl rfl (cd _ _)) ?_;simp only[nf];refine pq rfl rfl (ah rfl Tryd.underlying35 rfl ((hH.blk 0 rfl).cell rfl)) ?_;simp only[nf];refine pq rfl rfl (ah rfl Tryd.underlying35 rfl ((hH.blk 3 rfl).cell rfl)) ?_;simp only[nf];refine pp rfl rfl (ac rfl rfl (cd _ _)) ?_;simp only[nf];refine pp rfl rfl (aT (by rfl) (nB _ _)) ?_;simp only[nf];refine pq rfl rfl (bO _ rfl (hH.chg.nil_blk hx) Tryd.underlying123 rfl gS (by simp) (ext2 _ _ _ _ rfl)) ?_;simp only[nf];refine pq rfl rfl (aj cf91 (fun w' hw=>mS (_,_) (_,_) w') rfl) ?_;simp only[nf];refine ao 0 rfl rfl hH rfl rfl rfl (by simp[Value.oneCell']) gS (by simp) (by simp) ?_;clear hH;intro w34 hH;simp only[qz0,Value.cells]at hH⊢;refine aa hH fun w35 hH=>?_;simp only[Exit.then,Exit.inBlock,↓reduceIte,Nat.reduceEqDiff];refine⟨gD l - (k+1),?_,_,rfl,by kernel_rfl,?_⟩
  · (unfold gD at *;simp only[List.length_drop]at *;omega)
  simp only[ga];refine⟨k+1,_,rfl,?_,rfl,?_,?_⟩
  ·exact hH.take 2
  · (unfold gD at *;simp only[List.length_drop]at *;omega)
  · (rw[←zh];exact Sl.cutl hbv (by omega))
 ·simp only[dm]at hc19;refine wp_exit ?_;simp only[Exit.then,Exit.inBlock,↓reduceIte,Nat.reduceEqDiff];refine hK7 _ _ (wp_seq_k fun K36 hK36=>ak [.q 0,.e 1] ?_);refine pq rfl rfl (aA rfl (hH.blk 0 rfl) Tryd.underlying123 rfl gS (by simp)) ?_;simp only[nf];refine ao 1 rfl rfl hH rfl rfl rfl (by simp[Value.oneCell']) gS (by simp) (by simp) ?_;clear hH;intro w37 hH;simp only[qz0,Value.cells]at hH⊢;refine aa hH fun w38 hH=>hK36 _ _ (wp_ret ?_);refine BP.retc rfl rfl (hH.blk 1 rfl) Tryd.underlying123 rfl gS (by simp) ?_;obtain rfl:k=gD l:=by unfold gD at *;simp only[List.length_drop]at *;omega
  exact⟨rfl,hH.chg⟩
theorem jd (v:Value) (nl:List UInt8) (n:UInt8) (w:World) (hv:Sl w v nl) (hl:nl.length=12):aZ Tryd.prog 82 #[v,V8 n] w fun v w'=>∃o cap cs,v=own o 16 cap∧Chg [] w w'∧OwnC o 16 cap 1 cs ((nl++[0,0,0,n]).map V8)∧∀bo,o=some bo→w.heap.size≤bo∧cD w' bo 5 cs:=by
 refine aZ.enter Tryd.func82 rfl ?_;simp only[Tryd.ntmps82,fe,Nat.reduceAdd,Nat.reduceSub];have hH:=Hp.start [] w;refine wp_seq_k fun K1 hK1=>ak [.p 0] ?_;refine pa ?_;simp only[nf];refine aa hH fun w2 hH=>hK1 _ _ (wp_seq_k fun K3 hK3=>ak [.x 0,.p 1,.e 2,.p 3,.x 4,.e 5,.p 6] ?_);refine bA rfl rfl hH Tryd.underlying31 (by rfl) (bs0) ?_;clear hH;intro b4 w5 hH;simp only[qz0,Value.cells]at hH⊢;refine pm ?_;simp only[nf];refine bn 0 rfl rfl hH rfl (OwnC.of_bytes rfl) (fun w' hH=>((hv.chg hH.chg)).src) rfl rfl Tryd.underlying31 Tryd.underlying31 (.inl ⟨_,rfl⟩) bL iX iW rfl (by(simp<;>omega)) (by(simp<;>omega)) ?_;clear hH;intro o6 cap7 cs8 w9 hO10 hH;simp only[nf]at hH⊢;rw[←List.map_append]at hO10;simp only[Nat.zero_add,List.nil_append,List.length_nil]at hO10⊢;refine pm ?_;simp only[nf];refine bA rfl rfl hH Tryd.underlying31 (by rfl) (bs4 0 0 0 _) ?_;clear hH;intro b11 w12 hH;simp only[qz0,Value.cells]at hH⊢;refine bn 0 rfl rfl hH rfl hO10 (fun w' hH=>((OwnC.sl hH 1 rfl (OwnC.of_bytes rfl))).src) rfl rfl Tryd.underlying31 Tryd.underlying31 (.inl ⟨_,rfl⟩) bL iX iW rfl (by(simp<;>omega)) (by(simp<;>omega)) ?_;clear hH;intro o13 cap14 cs15 w16 hO17 hH;simp only[nf]at hH⊢;rw[←List.map_append]at hO17;refine pa ?_;simp only[nf];refine aa hH fun w18 hH=>hK3 _ _ (wp_ret ?_);refine BP.ret1 rfl rfl ?_;simp only[List.length_cons,List.length_nil,hl,Nat.reduceAdd]at *;exact⟨_,_,_,rfl,hH.chg,(by assumption),hH.owned 0 rfl⟩
theorem yG (a b:Value) (al bl:List UInt8) (w:World) (hal:al.length<9223372036854775808) (ha:Sl w a al) (hb:Sl w b bl) (hl:al.length≠bl.length):aZ Tryd.prog 52 #[a,b] w fun v w'=>v=BV (al==bl)∧Chg [] w w':=by
 refine aZ.enter Tryd.func52 rfl ?_;simp only[Tryd.ntmps52,fe,Nat.reduceAdd,Nat.reduceSub];have hH:=Hp.start [] w;refine wp_seq_k fun K1 hK1=>ak [.p 0] ?_;refine pa ?_;simp only[nf];refine aa hH fun w2 hH=>hK1 _ _ (wp_seq_k fun K3 hK3=>wp_seq_k fun K4 hK4=>ak [.p 0,.p 1,.p 2,.p 3,.p 4] ?_);refine pm (pp rfl rfl (aM (ha.chg hH.chg) rfl Tryd.underlying31) (pm (pp rfl rfl (aM (hb.chg hH.chg) rfl Tryd.underlying31) (pp rfl rfl (ac rfl rfl (an)) ?_))));simp only[nf];refine aa hH fun w5 hH=>hK4 _ _ (wp_cond_true (by show BV _=_;rw[bne_iff_ne.mpr hl]) (wp_seq_k fun K6 hK6=>ak [.p 0] ?_));refine pa ?_;simp only[nf];refine aa hH fun w7 hH=>hK6 _ _ (wp_ret ?_);simp only[Exit.then,Exit.inBlock,↓reduceIte,Nat.reduceEqDiff];refine BP.ret1 rfl rfl ?_;exact⟨congrArg BV (by symm;rw[beq_eq_false_iff_ne];rintro rfl;exact hl rfl),hH.chg⟩
theorem yH (a b:Value) (al bl:List UInt8) (w:World) (hal:al.length<9223372036854775808) (ha:Sl w a al) (hb:Sl w b bl) (hl:al.length=bl.length):aZ Tryd.prog 52 #[a,b] w fun v w'=>v=BV (al==bl)∧Chg [] w w':=by
 refine aZ.enter Tryd.func52 rfl ?_;simp only[Tryd.ntmps52,fe,Nat.reduceAdd,Nat.reduceSub];have hH:=Hp.start [] w;refine wp_seq_k fun K1 hK1=>ak [.p 0] ?_;refine pa ?_;simp only[nf];refine aa hH fun w2 hH=>hK1 _ _ (wp_seq_k fun K3 hK3=>wp_seq_k fun K4 hK4=>ak [.p 0,.p 1,.p 2,.p 3,.p 4] ?_);refine pm ?_;simp only[nf];refine pp rfl rfl (aM (ha.chg hH.chg) rfl Tryd.underlying31) ?_;simp only[nf];refine pm ?_;simp only[nf];refine pp rfl rfl (aM (hb.chg hH.chg) rfl Tryd.underlying31) ?_;simp only[nf];refine pp rfl rfl (ac rfl rfl (by exact an)) ?_;simp only[nf];refine aa hH fun w5 hH=>hK4 _ _ (wp_cond_false (by show BV _=_;rw[hl,bne_self_eq_false]) (wp_skip (hK3 _ _ (wp_seq_k fun K6 hK6=>ak [.p 0] ?_))));refine pa ?_;simp only[nf];refine aa hH fun w7 hH=>hK6 _ _ (wp_seq_k fun K8 hK8=>wp_seq_k fun K9 hK9=>ak [.p 0,.p 1,.p 2] ?_);refine pm ?_;simp only[nf];refine pp rfl rfl (aM (ha.chg hH.chg) rfl Tryd.underlying31) ?_;simp only[nf];refine pk 0 ?_;simp only[nf];refine aa hH fun w10 hH=>hK9 _ _ (wp_block (bd [5,15] [6,7,16,17,18,19,20,21,22,23,24,25,26,27,28] (fun(n11:Nat) (vs:List Value) (w':World)=>∃(i:Nat),vs=[V8 (orD al bl i),bb (i:Nat)]∧Hp [] w w' []∧n11=al.length - i∧i≤al.length) (al.length - 0) (by kernel_rfl) ?_ ?_))
 ·simp only[ga];refine⟨0,rfl,?_,rfl,?_⟩
  ·exact hH
  · omega
 clear hH;intro n11 vs12 w13 hR14 d0;obtain⟨i,rfl,hH,hn15,hf16⟩:=hR14;simp only[bG,c6,List.set_cons_zero,List.set_cons_succ,Nat.zero_add,Nat.reduceAdd];refine wp_seq_k fun K17 hK17=>ak [.p 0] ?_;refine pp rfl rfl (ac rfl rfl (by exact aJ)) ?_;simp only[nf];refine aa hH fun w18 hH=>hK17 _ _ (wp_seq_k fun K19 hK19=>wp_cond_split rfl (fun hc20=>?_) (fun hc20=>?_))
 ·simp only[dm]at hc20;refine wp_skip (hK19 _ _ (wp_seq_k fun K21 hK21=>wp_block (wp_seq_k fun K22 hK22=>ak [.p 0,.p 1,.q 2,.p 3,.p 4] ?_)));refine pm ?_;simp only[nf];refine pp rfl rfl (bR (ha.chg hH.chg) rfl rfl Tryd.underlying31 bL (by omega)) ?_;simp only[nf];refine pq rfl rfl (ah rfl Tryd.underlying5 rfl (Sl.cell (ha.chg hH.chg) (by omega))) ?_;simp only[nf];refine pa (pa ?_);simp only[nf];refine aa hH fun w23 hH=>hK22 _ _ (ak [.p 0,.p 1,.p 2,.p 3,.p 4,.q 5,.p 6,.p 7,.p 8] ?_);refine pm (pm (pm (pm ?_)));simp only[nf];refine pp rfl rfl (bR (hb.chg hH.chg) rfl rfl Tryd.underlying31 bL (by omega)) ?_;simp only[nf];refine pq rfl rfl (ah rfl Tryd.underlying5 rfl (Sl.cell (hb.chg hH.chg) (by omega))) ?_;simp only[nf];refine pp rfl rfl (ac rfl rfl (ck _ _)) ?_;simp only[nf];refine pp rfl rfl (ac rfl rfl (qs _ _)) ?_;simp only[nf];refine pa ?_;simp only[nf];refine aa hH fun w24 hH=>hK21 _ _ (ak [.p 0,.p 1] ?_);refine pp rfl rfl (ac rfl rfl (by exact aE (n:=1) (by omega))) ?_;simp only[nf];refine pm ?_;simp only[nf];refine aa hH fun w25 hH=>?_;simp only[Exit.then,Exit.inBlock,↓reduceIte,Nat.reduceEqDiff];refine⟨al.length - (i+1),?_,_,rfl,by kernel_rfl,?_⟩
  · omega
  simp only[ga];refine⟨i+1,rfl,?_,rfl,?_⟩
  ·exact hH
  · omega
 ·simp only[dm]at hc20;refine wp_exit ?_;simp only[Exit.then,Exit.inBlock,↓reduceIte,Nat.reduceEqDiff];refine hK8 _ _ (wp_seq_k fun K26 hK26=>ak [.p 0,.p 1,.p 2] ?_);refine pm ?_;simp only[nf];refine pp rfl rfl (ac rfl rfl (eP _ 0)) ?_;simp only[nf];refine pa ?_;simp only[nf];refine aa hH fun w27 hH=>hK26 _ _ (wp_ret ?_);refine BP.ret1 rfl rfl ?_;obtain rfl:i=al.length:=by omega
  exact⟨congrArg BV (Af hl),hH.chg⟩
theorem eT (a b:Value) (al bl:List UInt8) (w:World) (hal:al.length<9223372036854775808) (ha:Sl w a al) (hb:Sl w b bl):aZ Tryd.prog 52 #[a,b] w fun v w'=>v=BV (al==bl)∧Chg [] w w':=by
  by_cases hl:al.length=bl.length
  · exact yH a b al bl w hal ha hb hl
  · exact yG a b al bl w hal ha hb hl
theorem iE (key:Value) (l:List UInt8) (w:World) (hk:Sl w key l) (hl:l.length=16):aZ Tryd.prog 63 #[key] w fun v w'=>
    ∃bc bx,v= .tuple #[PT bx 0,bb (0:Nat)]∧Chg [] w w'∧w.heap.size≤bc∧cD w' bc 140 (a9 176 (el fun i=>l.getD i 0))∧w.heap.size≤bx∧cD w' bx 127 #[PT bc 0,db (hP (el fun i=>l.getD i 0)).1,db (hP (el fun i=>l.getD i 0)).2]∧bc≠bx:=by
 refine aZ.enter Tryd.func63 rfl ?_;simp only[Tryd.ntmps63,fe,Nat.reduceAdd,Nat.reduceSub];have hH:=Hp.start [] w;refine wp_seq_k fun K1 hK1=>ak [.p 0,.p 1] ?_;refine pa (ci 0 ?_);simp only[nf];refine aa hH fun w2 hH=>hK1 _ _ (wp_seq_k fun K3 hK3=>ak [.p 0,.x 1,.p 2,.p 3,.p 4,.p 5,.p 6] ?_);refine pm ?_;simp only[nf];refine ar rfl rfl hH cf77 (fun w' hH=>x' _ _ w' (hk.chg hH.chg) hl) rfl (fun _ _ _ h=>h.choose_spec.2.1) ?_;clear hH;intro w4 v5 w6 hH hp7;obtain⟨b8,rfl,hg,hfr,hbk⟩:=hp7;replace hH:=hH.callnew hg hbk hfr;clear hg hfr hbk;simp only[qz0,Value.cells]at hH⊢;refine pm ?_;simp only[nf];refine pp rfl rfl (ai rfl rfl) ?_;simp only[nf];refine pp rfl rfl (ai rfl rfl) ?_;simp only[nf];refine pa (pa ?_);simp only[nf];refine aa hH fun w9 hH=>hK3 _ _ (wp_seq_k fun K10 hK10=>wp_seq_k fun K11 hK11=>ak [.p 0,.p 1] ?_);refine pm ?_;simp only[nf];refine pp rfl rfl (ac rfl rfl (by exact an (n:=0))) ?_;simp only[nf];refine aa hH fun w12 hH=>hK11 _ _ (wp_cond_false rfl (wp_skip (hK10 _ _ (wp_seq_k fun K13 hK13=>ak [.p 0,.x 1,.x 2,.p 3,.p 4,.p 5,.p 6,.p 7] ?_))));refine pm ?_;simp only[nf];refine lp (n:=16) (c:=16) rfl rfl hH rfl rfl Tryd.underlying31 bL iX iW rfl (by omega) (by omega) (by omega) ?_;clear hH;intro b14 w15 hH;simp only[nf]at hH⊢;rw[lF]at hH;simp only[qz0,Value.cells]at hH⊢;refine ar rfl rfl hH cf78 (fun w' hH=>s5 _ _ _ _ w' (hH.blk 0 rfl) (OwnC.sl hH 1 rfl OwnC.made) (by simp)) rfl (fun _ _ _ h=>h.choose_spec.2.1) ?_;clear hH;intro w16 v17 w18 hH hp19;obtain⟨b20,rfl,hg,hfr,hbk⟩:=hp19;replace hH:=hH.callnew hg hbk hfr;clear hg hfr hbk;simp only[qz0,Value.cells]at hH⊢;refine pm ?_;simp only[nf];refine pp rfl rfl (ai rfl rfl) ?_;simp only[nf];refine pp rfl rfl (ai rfl rfl) ?_;simp only[nf];refine pa (pa ?_);simp only[nf];refine aa hH fun w21 hH=>hK13 _ _ (wp_seq_k fun K22 hK22=>wp_seq_k fun K23 hK23=>ak [.p 0,.p 1] ?_);refine pm ?_;simp only[nf];refine pp rfl rfl (ac rfl rfl (by exact an (n:=0))) ?_;simp only[nf];refine aa hH fun w24 hH=>hK23 _ _ (wp_cond_false rfl (wp_skip (hK22 _ _ (wp_seq_k fun K25 hK25=>ak [.p 0,.p 1,.p 2,.q 3,.q 4,.p 5,.x 6,.p 7,.p 8] ?_))));refine pm (pm ?_);simp only[nf];refine pp rfl rfl (wz rfl Tryd.underlying125 (by omega)) ?_;simp only[nf];refine pq rfl rfl (aA rfl (hH.blk 2 rfl) Tryd.underlying125 rfl dF (by simp)) ?_;simp only[nf];refine pq rfl rfl (aj cf79 (fun w' hw=>rY _ w') rfl) ?_;simp only[nf];refine pp rfl rfl (aT (by rfl) (ym _ _ _)) ?_;simp only[nf];refine aX rfl rfl hH rfl ?_;clear hH;intro b26 w27 hH;simp only[qz0,Value.cells]at hH⊢;refine pa (ci 0 ?_);simp only[nf];refine aa hH fun w28 hH=>hK25 _ _ (wp_ret ?_);refine BP.ret2 rfl rfl rfl ?_;rw[Dz]at hH;exact⟨_,_,rfl,hH.chg,(hH.mine 0 rfl).resolve_right (by simp),hH.blk 0 rfl,(hH.mine 3 rfl).resolve_right (by simp),hH.blk 3 rfl,hH.other (i:=3) rfl (j:=0) rfl (by decide) rfl⟩
theorem pd (key:Value) (l:List UInt8) (w:World) (hk:Sl w key l) (hl:l.length≠16):aZ Tryd.prog 63 #[key] w fun v w'=>v= .tuple #[.pointer none,bb (1:Nat)]∧Chg [] w w':=by
 refine aZ.enter Tryd.func63 rfl ?_;simp only[Tryd.ntmps63,fe,Nat.reduceAdd,Nat.reduceSub];have hH:=Hp.start [] w;refine wp_seq_k fun K1 hK1=>ak [.p 0,.p 1] ?_;refine pa (ci 0 ?_);simp only[nf];refine aa hH fun w2 hH=>hK1 _ _ (wp_seq_k fun K3 hK3=>ak [.p 0,.q 1,.p 2,.p 3,.p 4,.p 5,.p 6] ?_);refine pm (pq rfl rfl (aj cf77 (fun w' hw=>xY _ _ w' ((hk.chg hH.chg).chg hw) hl) rfl) (pm (pp rfl rfl (ai rfl rfl) (pp rfl rfl (ai rfl rfl) (pa (pa ?_))))));simp only[nf];refine aa hH fun w4 hH=>hK3 _ _ (wp_seq_k fun K5 hK5=>wp_seq_k fun K6 hK6=>ak [.p 0,.p 1] ?_);refine pm (pp rfl rfl (ac rfl rfl (an (n:=0))) ?_);simp only[nf];refine aa hH fun w7 hH=>hK6 _ _ (wp_cond_true rfl (wp_seq_k fun K8 hK8=>ak [.p 0,.p 1,.p 2] ?_));refine pm (pa (pa ?_));simp only[nf];refine aa hH fun w9 hH=>hK8 _ _ (wp_ret ?_);simp only[Exit.then,Exit.inBlock,↓reduceIte,Nat.reduceEqDiff];refine BP.ret2 rfl rfl rfl ?_;exact⟨rfl,hH.chg⟩
theorem mi (bx bc:Nat) (kf:Nat→UInt8) (h:P2) (nv av cv:Value) (nl al cl:List UInt8) (w:World) (hx:cD w bx 127 #[PT bc 0,db h.1,db h.2]) (hc:cD w bc 140 (a9 176 kf)) (hn:Sl w nv nl) (hl:nl.length=12) (ha:Sl w av al) (hv:Sl w cv cl):
    aZ Tryd.prog 80 #[PT bx 0,nv,av,cv] w fun v w'=>∃o cap cs,v=own o 16 cap∧Chg [] w w'∧OwnC o 16 cap 1 cs ((kx kf h nl al cl).map V8)∧∀bo,o=some bo→w.heap.size≤bo∧cD w' bo 5 cs:=by
 refine aZ.enter Tryd.func80 rfl ?_;simp only[Tryd.ntmps80,fe,Nat.reduceAdd,Nat.reduceSub];have hH:=Hp.start [] w;refine wp_seq_k fun K1 hK1=>ak [.p 0] ?_;refine pa ?_;simp only[nf];refine aa hH fun w2 hH=>hK1 _ _ (wp_seq_k fun K3 hK3=>ak [.p 0,.p 1,.p 2,.p 3,.q 4,.p 5,.q 6,.x 7,.e 8] ?_);refine pm (pm ?_);simp only[nf];refine pp rfl rfl (aT (by rfl) (B7)) ?_;simp only[nf];refine pm ?_;simp only[nf];refine pq rfl rfl (aj cf90 (fun w' hw=>pW _ _ _ _ (0,0) _ w' (hw.nil_blk (hH.chg.nil_blk hx)) ((ha.chg hH.chg).chg hw)) rfl) ?_;simp only[nf];refine pm ?_;simp only[nf];refine pq rfl rfl (aj cf90 (fun w' hw=>pW _ _ _ _ _ _ w' (hw.nil_blk (hH.chg.nil_blk hx)) ((hv.chg hH.chg).chg hw)) rfl) ?_;simp only[nf];refine au rfl rfl hH qN ?_;clear hH;intro b4 w5 hH;simp only[qz0,Value.cells]at hH⊢;refine ao 0 rfl rfl hH rfl rfl rfl (by simp[Value.oneCell']) gS (by simp) (by simp) ?_;clear hH;intro w6 hH;simp only[qz0,Value.cells]at hH⊢;refine aa hH fun w7 hH=>hK3 _ _ (wp_seq_k fun K8 hK8=>en [.p 0,.p 2,.p 3,.p 4,.p 5,.p 7,.p 9,.p 10,.p 11,.p 12,.p 15,.p 16,.p 17,.q 1,.p 6,.q 8,.p 13,.p 14,.q 18,.q 19,.e 20] ?_);refine pp rfl rfl (ab 0 rfl Tryd.underlying123 rfl rfl bz) ?_;simp only[nf];refine pm ?_;simp only[nf];refine pp rfl rfl (aM (ha.chg hH.chg) rfl Tryd.underlying31) ?_;simp only[nf];refine pp rfl rfl (bw rfl (by exact gl Tryd.underlying3 Tryd.underlying35)) ?_;simp only[nf];refine pp rfl rfl (ac rfl rfl (d8 3 3 (by decide) rfl _)) ?_;simp only[nf];refine pp rfl rfl (ab 1 rfl Tryd.underlying123 rfl rfl bz) ?_;simp only[nf];refine pm ?_;simp only[nf];refine pp rfl rfl (aM (hv.chg hH.chg) rfl Tryd.underlying31) ?_;simp only[nf];refine pp rfl rfl (bw rfl (by exact gl Tryd.underlying3 Tryd.underlying35)) ?_;simp only[nf];refine pp rfl rfl (ac rfl rfl (d8 3 3 (by decide) rfl _)) ?_;simp only[nf];refine pm ?_;simp only[nf];refine pp rfl rfl (ae rfl) ?_;simp only[nf];refine pp rfl rfl (ab 1 rfl Tryd.underlying127 rfl rfl gS) ?_;simp only[nf];refine pq rfl rfl (ah rfl Tryd.underlying35 rfl ((hH.blk 0 rfl).cell rfl)) ?_;simp only[nf];refine pp rfl rfl (ac rfl rfl (cd _ _)) ?_;simp only[nf];refine pq rfl rfl (ah rfl Tryd.underlying35 rfl ((hH.blk 0 rfl).cell rfl)) ?_;simp only[nf];refine pp rfl rfl (ac rfl rfl (cd _ _)) ?_;simp only[nf];refine pp rfl rfl (aT (by rfl) (nB _ _)) ?_;simp only[nf];refine pq rfl rfl (bO _ rfl (hH.chg.nil_blk hx) Tryd.underlying123 rfl gS (by simp) (ext2 _ _ _ _ rfl)) ?_;simp only[nf];refine pq rfl rfl (aj cf91 (fun w' hw=>mS (_,_) (_,_) w') rfl) ?_;simp only[nf];refine ao 0 rfl rfl hH rfl rfl rfl (by simp[Value.oneCell']) gS (by simp) (by simp) ?_;clear hH;intro w9 hH;simp only[qz0,Value.cells]at hH⊢;refine aa hH fun w10 hH=>hK8 _ _ (wp_seq_k fun K11 hK11=>ak [.q 0,.q 1,.x 2,.e 3] ?_);refine pq rfl rfl (aA rfl (hH.blk 0 rfl) Tryd.underlying123 rfl gS (by simp)) ?_;simp only[nf];refine pq rfl rfl (aj cf92 (fun w' hw=>tZ _ w') rfl) ?_;simp only[nf];refine au rfl rfl hH kL ?_;clear hH;intro b12 w13 hH;simp only[qz0,Value.cells]at hH⊢;refine ao 1 rfl rfl hH rfl rfl rfl bj dF (by simp) (by simp) ?_;clear hH;intro w14 hH;simp only[qz0,Value.cells]at hH⊢;refine aa hH fun w15 hH=>hK11 _ _ (wp_seq_k fun K16 hK16=>en [.p 0,.p 1,.p 2,.p 4,.p 6,.q 3,.x 5,.x 7,.p 8,.p 9,.p 10,.p 11,.p 12] ?_);refine pm ?_;simp only[nf];refine pp rfl rfl (ae rfl) ?_;simp only[nf];refine pp rfl rfl (ab 0 rfl Tryd.underlying127 rfl rfl zv) ?_;simp only[nf];refine pm ?_;simp only[nf];refine pp rfl rfl (aR rfl Tryd.underlying125 bL) ?_;simp only[nf];refine pq rfl rfl (ah rfl Tryd.underlying118 rfl ((hH.chg.nil_blk hx).cell rfl)) ?_;simp only[nf];refine ar rfl rfl hH Cl (fun w' hH=>jd _ _ 1 w' (hn.chg hH.chg) hl) rfl (fun _ _ _ h=>by obtain⟨_,_,_,_,hg,_⟩:=h;exact hg) ?_;clear hH;intro w17 v18 w19 hH hp20;obtain⟨o21,cap22,cs23,rfl,hg,hO24,hfr⟩:=hp20;replace hH:=hH.callown hg hfr;clear hg hfr;simp only[qz0,Value.cells]at hH⊢;refine ar rfl rfl hH CP (fun w' hH=>jV _ _ (zD nl 1) _ _ 0 _ _ w' (hH.chg.nil_blk hc) (OwnC.sl hH 2 rfl hO24) (by simp[hl]) (fun i hi=>rfl) (Sl.of_arr8 (hH.blk 1 rfl) (by omega) (by omega)) (by omega) (by(simp<;>omega))) rfl (fun _ _ _ h=>by obtain⟨_,_,_,_,hg,_⟩:=h;exact hg) ?_;clear hH;intro w25 v26 w27 hH hp28;obtain⟨o29,cap30,cs31,rfl,hg,hO32,hfr⟩:=hp28;replace hH:=hH.callown hg hfr;clear hg hfr;simp only[qz0,Value.cells]at hH⊢;refine pm ?_;simp only[nf];refine pp rfl rfl (ai rfl rfl) ?_;simp only[nf];refine pp rfl rfl (ai rfl rfl) ?_;simp only[nf];refine pa (pa ?_);simp only[nf];refine aa hH fun w33 hH=>hK16 _ _ (wp_seq_k fun K34 hK34=>ak [.p 0,.p 1] ?_);refine pm (pa ?_);simp only[nf];refine aa hH fun w35 hH=>hK34 _ _ (wp_ret ?_);refine BP.ret1 rfl rfl ?_;simp only[List.length_map,List.length_range]at *;exact⟨_,_,_,rfl,hH.chg,(by assumption),hH.owned 3 rfl⟩
theorem uc (bx bc:Nat) (kf:Nat→UInt8) (h:P2) (nv av bv:Value) (nl al bl:List UInt8) (w:World) (hx:cD w bx 127 #[PT bc 0,db h.1,db h.2]) (hc:cD w bc 140 (a9 176 kf)) (hn:Sl w nv nl) (hl:nl.length=12) (ha:Sl w av al) (hb:Sl w bv bl) (hbl:bl.length≤100000000000000):
    aZ Tryd.prog 69 #[PT bx 0,nv,av,bv] w fun v w'=>∃o cap cs,v= .tuple #[own o (bl.length+16) cap,bb (0:Nat)]∧Chg [] w w'∧OwnC o (bl.length+16) cap 1 cs ((fv kf h nl al bl).map V8)∧∀bo,o=some bo→w.heap.size≤bo∧cD w' bo 5 cs:=by
 refine aZ.enter Tryd.func69 rfl ?_;simp only[Tryd.ntmps69,fe,Nat.reduceAdd,Nat.reduceSub];have hH:=Hp.start [] w;refine wp_seq_k fun K1 hK1=>ak [.p 0,.p 1] ?_;refine pa (ci 0 ?_);simp only[nf];refine aa hH fun w2 hH=>hK1 _ _ (wp_seq_k fun K3 hK3=>wp_seq_k fun K4 hK4=>ak [.p 0,.p 1,.p 2,.p 3,.p 4,.p 5,.p 6] ?_);refine pm (pp rfl rfl (ac rfl rfl (bN Tryd.underlying102)) ?_);simp only[nf];refine aI (v:=BV false) rfl rfl (ap rfl) ?_;simp only[nf];refine pp rfl rfl aw (pp rfl rfl (aM (hn.chg hH.chg) rfl Tryd.underlying31) (pp rfl rfl (ac rfl rfl (an (n:=12))) (pp rfl rfl (aO rfl) ?_)));simp only[nf];refine aa hH fun w5 hH=>hK4 _ _ (wp_cond_false (by show BV _=_;rw[hl];rfl) (wp_skip (hK3 _ _ (wp_seq_k fun K6 hK6=>en [.p 0,.p 1,.p 2,.p 4,.p 6,.q 3,.x 5,.x 7,.p 8,.p 9,.p 10,.p 11,.p 12] ?_))));refine pm (pp rfl rfl (ae rfl) (pp rfl rfl (ab 0 rfl Tryd.underlying127 rfl rfl zv) (pm (pm (pq rfl rfl (ah rfl Tryd.underlying118 rfl ((hH.chg.nil_blk hx).cell rfl)) ?_)))));simp only[nf];refine ar rfl rfl hH Cl (fun w' hH=>jd _ _ 2 w' (hn.chg hH.chg) hl) rfl (fun _ _ _ h=>by obtain⟨_,_,_,_,hg,_⟩:=h;exact hg) ?_;clear hH;intro w7 v8 w9 hH hp10;obtain⟨o11,cap12,cs13,rfl,hg,hO14,hfr⟩:=hp10;replace hH:=hH.callown hg hfr;clear hg hfr;simp only[qz0,Value.cells]at hH⊢;refine ar rfl rfl hH CP (fun w' hH=>jV _ _ (zD nl 2) _ _ 0 _ _ w' (hH.chg.nil_blk hc) (OwnC.sl hH 0 rfl hO14) (by simp[hl]) (fun i hi=>rfl) (hb.chg hH.chg) (by omega) (by omega)) rfl (fun _ _ _ h=>by obtain⟨_,_,_,_,hg,_⟩:=h;exact hg) ?_;clear hH;intro w15 v16 w17 hH hp18;obtain⟨o19,cap20,cs21,rfl,hg,hO22,hfr⟩:=hp18;replace hH:=hH.callown hg hfr;clear hg hfr;simp only[qz0,Value.cells]at hH⊢;refine pm (pp rfl rfl (ai rfl rfl) (pp rfl rfl (ai rfl rfl) (pa (pa ?_))));simp only[nf];refine aa hH fun w23 hH=>hK6 _ _ (wp_seq_k fun K24 hK24=>wp_seq_k fun K25 hK25=>ak [.p 0,.p 1] ?_);refine pm (pp rfl rfl (ac rfl rfl (an (n:=0))) ?_);simp only[nf];refine aa hH fun w26 hH=>hK25 _ _ (wp_cond_false rfl (wp_skip (hK24 _ _ (wp_seq_k fun K27 hK27=>ak [.p 0,.p 1,.p 2,.p 3,.p 4,.x 5,.e 6,.p 7,.p 8] ?_))));refine pm (pm (pm (pm (pm ?_))));simp only[nf];refine ar rfl rfl hH Cr (fun w' hH=>mi _ _ _ _ _ _ _ _ _ _ w' (hH.chg.nil_blk hx) (hH.chg.nil_blk hc) (hn.chg hH.chg) hl (ha.chg hH.chg) (OwnC.sl hH 1 rfl hO22)) rfl (fun _ _ _ h=>by obtain⟨_,_,_,_,hg,_⟩:=h;exact hg) ?_;clear hH;intro w28 v29 w30 hH hp31;obtain⟨o32,cap33,cs34,rfl,hg,hO35,hfr⟩:=hp31;replace hH:=hH.callown hg hfr;clear hg hfr;simp only[qz0,Value.cells]at hH⊢;refine bn 1 rfl rfl hH rfl hO22 (fun w' hH=>((OwnC.sl hH 2 rfl hO35)).src) rfl rfl Tryd.underlying31 Tryd.underlying31 (.inl ⟨_,rfl⟩) bL iX iW rfl (by(simp only[jz,kG];omega)) (by(simp only[jz,kG];omega)) ?_;clear hH;intro o36 cap37 cs38 w39 hO40 hH;simp only[nf]at hH⊢;rw[←List.map_append]at hO40;refine pa (ci 0 ?_);simp only[nf];refine aa hH fun w41 hH=>hK27 _ _ (wp_ret ?_);refine BP.ret2 rfl rfl rfl ?_;exact⟨_,_,_,rfl,hH.chg,(by assumption),hH.owned 1 rfl⟩
theorem gw (bx:Nat) (nv av bv:Value) (nl bl:List UInt8) (w:World) (hn:Sl w nv nl) (hl:nl.length=12) (hb:Sl w bv bl) (hbl:bl.length<16):
    aZ Tryd.prog 64 #[PT bx 0,nv,av,bv] w fun v w'=>v= .tuple #[.slice none 0 0,bb (3:Nat)]∧Chg [] w w':=by
 refine aZ.enter Tryd.func64 rfl ?_;simp only[Tryd.ntmps64,fe,Nat.reduceAdd,Nat.reduceSub];have hH:=Hp.start [] w;refine wp_seq_k fun K1 hK1=>ak [.p 0,.p 1] ?_;refine pa (ci 0 ?_);simp only[nf];refine aa hH fun w2 hH=>hK1 _ _ (wp_seq_k fun K3 hK3=>ak [.p 0,.p 1,.p 2,.p 3] ?_);refine pm ?_;simp only[nf];refine pp rfl rfl (aM (hb.chg hH.chg) rfl Tryd.underlying31) ?_;simp only[nf];refine pp rfl rfl (ac rfl rfl (by exact ic (by omega) (by omega))) ?_;simp only[nf];refine pa ?_;simp only[nf];refine aa hH fun w4 hH=>hK3 _ _ (wp_seq_k fun K5 hK5=>wp_block (wp_seq_k fun K6 hK6=>ak [.p 0,.p 1,.p 2,.p 3,.p 4,.p 5,.p 6,.p 7] ?_));refine pm ?_;simp only[nf];refine pp rfl rfl (ac rfl rfl (bN Tryd.underlying102)) ?_;simp only[nf];refine aI (v:=BV false) rfl rfl (ap rfl) ?_;simp only[nf];refine pp rfl rfl aw ?_;simp only[nf];refine pp rfl rfl (aM (hn.chg hH.chg) rfl Tryd.underlying31) ?_;simp only[nf];refine pp rfl rfl (ac rfl rfl (by exact an (n:=12))) ?_;simp only[nf];refine pp rfl rfl (aO rfl) ?_;simp only[nf];refine pa ?_;simp only[nf];refine aa hH fun w7 hH=>hK6 _ _ (wp_cond_false (by show BV _=_;rw[hl];rfl) (wp_seq_k fun K8 hK8=>ak [.p 0,.p 1,.p 2] ?_));refine pm ?_;simp only[nf];refine pp rfl rfl (ac rfl rfl (by exact qA)) ?_;simp only[nf];refine pa ?_;simp only[nf];refine aa hH fun w9 hH=>hK8 _ _ (wp_cond_true (by show BV _=_;exact congrArg BV (decide_eq_true (by omega))) (wp_seq_k fun K10 hK10=>ak [.p 0,.p 1] ?_));refine pa (ci 3 ?_);simp only[nf];refine aa hH fun w11 hH=>hK10 _ _ (wp_ret ?_);simp only[Exit.then,Exit.inBlock,↓reduceIte,Nat.reduceEqDiff];refine BP.ret2 rfl rfl rfl ?_;exact⟨rfl,hH.chg⟩
theorem gp (bx bc:Nat) (kf:Nat→UInt8) (h:P2) (nv av bv:Value) (nl al bl:List UInt8) (w:World) (hx:cD w bx 127 #[PT bc 0,db h.1,db h.2]) (hc:cD w bc 140 (a9 176 kf)) (hn:Sl w nv nl) (hl:nl.length=12) (ha:Sl w av al) (hb:Sl w bv bl) (hbl:bl.length≤140737488355328) (h16:16≤bl.length) (hne:kx kf h nl al (bl.take (bl.length - 16))≠bl.drop (bl.length - 16)):
    aZ Tryd.prog 64 #[PT bx 0,nv,av,bv] w fun v w'=>v= .tuple #[.slice none 0 0,bb (4:Nat)]∧Chg [] w w':=by
 refine aZ.enter Tryd.func64 rfl ?_;simp only[Tryd.ntmps64,fe,Nat.reduceAdd,Nat.reduceSub];have hH:=Hp.start [] w;refine wp_seq_k fun K1 hK1=>ak [.p 0,.p 1] ?_;refine pa (ci 0 ?_);simp only[nf];refine aa hH fun w2 hH=>hK1 _ _ (wp_seq_k fun K3 hK3=>ak [.p 0,.p 1,.p 2,.p 3] ?_);refine pm ?_;simp only[nf];refine pp rfl rfl (aM (hb.chg hH.chg) rfl Tryd.underlying31) ?_;simp only[nf];refine pp rfl rfl (ac rfl rfl (by exact cj (n:=16) (by omega) (by omega))) ?_;simp only[nf];refine pa ?_;simp only[nf];refine aa hH fun w4 hH=>hK3 _ _ (wp_seq_k fun K5 hK5=>wp_block (wp_seq_k fun K6 hK6=>ak [.p 0,.p 1,.p 2,.p 3,.p 4,.p 5,.p 6,.p 7] ?_));refine pm ?_;simp only[nf];refine pp rfl rfl (ac rfl rfl (bN Tryd.underlying102)) ?_;simp only[nf];refine aI (v:=BV false) rfl rfl (ap rfl) ?_;simp only[nf];refine pp rfl rfl aw ?_;simp only[nf];refine pp rfl rfl (aM (hn.chg hH.chg) rfl Tryd.underlying31) ?_;simp only[nf];refine pp rfl rfl (ac rfl rfl (by exact an (n:=12))) ?_;simp only[nf];refine pp rfl rfl (aO rfl) ?_;simp only[nf];refine pa ?_;simp only[nf];refine aa hH fun w7 hH=>hK6 _ _ (wp_cond_false (by show BV _=_;rw[hl];rfl) (wp_seq_k fun K8 hK8=>ak [.p 0,.p 1,.p 2] ?_));refine pm ?_;simp only[nf];refine pp rfl rfl (ac rfl rfl (by exact aJ (n:=0))) ?_;simp only[nf];refine pa ?_;simp only[nf];refine aa hH fun w9 hH=>hK8 _ _ (wp_cond_false (by show BV _=_;exact congrArg BV (decide_eq_false (by omega))) (wp_seq_k fun K10 hK10=>en [.p 0,.p 1,.p 2,.p 3,.p 4,.p 5,.p 7,.p 8,.p 9,.x 6,.q 10,.p 11,.p 12] ?_));refine pm (pm (pm (pm (pm ?_))));simp only[nf];refine pp rfl rfl (dh (hb.chg hH.chg) rfl rfl Tryd.underlying31 bL (by omega)) ?_;simp only[nf];refine pm (pm ?_);simp only[nf];refine pp rfl rfl (cM (hb.chg hH.chg) rfl rfl Tryd.underlying31 bL (by omega)) ?_;simp only[nf];refine ar rfl rfl hH Cr (fun w' hH=>mi _ _ _ _ _ _ _ _ _ _ w' (hH.chg.nil_blk hx) (hH.chg.nil_blk hc) (hn.chg hH.chg) hl (ha.chg hH.chg) (Sl.cuth (hb.chg hH.chg) (by omega))) rfl (fun _ _ _ h=>by obtain⟨_,_,_,_,hg,_⟩:=h;exact hg) ?_;clear hH;intro w11 v12 w13 hH hp14;obtain⟨o15,cap16,cs17,rfl,hg,hO18,hfr⟩:=hp14;replace hH:=hH.callown hg hfr;clear hg hfr;simp only[qz0,Value.cells]at hH⊢;refine pq rfl rfl (aj sB (fun w' hw=>eT _ _ _ _ w' (by(simp[jz]<;>omega)) ((OwnC.sl hH 0 rfl hO18).chg hw) ((Sl.cutl (hb.chg hH.chg) (by omega)).chg hw)) rfl) ?_;simp only[nf];refine pp rfl rfl (bS rfl) ?_;simp only[nf];refine pa ?_;simp only[nf];refine aa hH fun w19 hH=>hK10 _ _ (wp_cond_true (by show BV (!_)=_;rw[beq_eq_false_iff_ne.mpr hne];rfl) (wp_seq_k fun K20 hK20=>ak [.p 0,.p 1] ?_));refine pa (ci 4 ?_);simp only[nf];refine aa hH fun w21 hH=>hK20 _ _ (wp_ret ?_);simp only[Exit.then,Exit.inBlock,↓reduceIte,Nat.reduceEqDiff];refine BP.ret2 rfl rfl rfl ?_;exact⟨rfl,hH.chg⟩
theorem dy (bx bc:Nat) (kf:Nat→UInt8) (h:P2) (nv av bv:Value) (nl al bl:List UInt8) (w:World) (hx:cD w bx 127 #[PT bc 0,db h.1,db h.2]) (hc:cD w bc 140 (a9 176 kf)) (hn:Sl w nv nl) (hl:nl.length=12) (ha:Sl w av al) (hb:Sl w bv bl) (hbl:bl.length≤140737488355328) (h16:16≤bl.length) (he:kx kf h nl al (bl.take (bl.length - 16))=bl.drop (bl.length - 16)):
    aZ Tryd.prog 64 #[PT bx 0,nv,av,bv] w fun v w'=>∃o cap cs,v= .tuple #[own o (bl.length - 16) cap,bb (0:Nat)]∧Chg [] w w'∧OwnC o (bl.length - 16) cap 1 cs ((nw kf nl (bl.take (bl.length - 16))).map V8)∧∀bo,o=some bo→w.heap.size≤bo∧cD w' bo 5 cs:=by
 refine aZ.enter Tryd.func64 rfl ?_;simp only[Tryd.ntmps64,fe,Nat.reduceAdd,Nat.reduceSub];have hH:=Hp.start [] w;refine wp_seq_k fun K1 hK1=>ak [.p 0,.p 1] ?_;refine pa (ci 0 ?_);simp only[nf];refine aa hH fun w2 hH=>hK1 _ _ (wp_seq_k fun K3 hK3=>ak [.p 0,.p 1,.p 2,.p 3] ?_);refine pm ?_;simp only[nf];refine pp rfl rfl (aM (hb.chg hH.chg) rfl Tryd.underlying31) ?_;simp only[nf];refine pp rfl rfl (ac rfl rfl (by exact cj (n:=16) (by omega) (by omega))) ?_;simp only[nf];refine pa ?_;simp only[nf];refine aa hH fun w4 hH=>hK3 _ _ (wp_seq_k fun K5 hK5=>wp_block (wp_seq_k fun K6 hK6=>ak [.p 0,.p 1,.p 2,.p 3,.p 4,.p 5,.p 6,.p 7] ?_));refine pm ?_;simp only[nf];refine pp rfl rfl (ac rfl rfl (bN Tryd.underlying102)) ?_;simp only[nf];refine aI (v:=BV false) rfl rfl (ap rfl) ?_;simp only[nf];refine pp rfl rfl aw ?_;simp only[nf];refine pp rfl rfl (aM (hn.chg hH.chg) rfl Tryd.underlying31) ?_;simp only[nf];refine pp rfl rfl (ac rfl rfl (by exact an (n:=12))) ?_;simp only[nf];refine pp rfl rfl (aO rfl) ?_;simp only[nf];refine pa ?_;simp only[nf];refine aa hH fun w7 hH=>hK6 _ _ (wp_cond_false (by show BV _=_;rw[hl];rfl) (wp_seq_k fun K8 hK8=>ak [.p 0,.p 1,.p 2] ?_));refine pm ?_;simp only[nf];refine pp rfl rfl (ac rfl rfl (by exact aJ (n:=0))) ?_;simp only[nf];refine pa ?_;simp only[nf];refine aa hH fun w9 hH=>hK8 _ _ (wp_cond_false (by show BV _=_;exact congrArg BV (decide_eq_false (by omega))) (wp_seq_k fun K10 hK10=>en [.p 0,.p 1,.p 2,.p 3,.p 4,.p 5,.p 7,.p 8,.p 9,.x 6,.q 10,.p 11,.p 12] ?_));refine pm (pm (pm (pm (pm ?_))));simp only[nf];refine pp rfl rfl (dh (hb.chg hH.chg) rfl rfl Tryd.underlying31 bL (by omega)) ?_;simp only[nf];refine pm (pm ?_);simp only[nf];refine pp rfl rfl (cM (hb.chg hH.chg) rfl rfl Tryd.underlying31 bL (by omega)) ?_;simp only[nf];refine ar rfl rfl hH Cr (fun w' hH=>mi _ _ _ _ _ _ _ _ _ _ w' (hH.chg.nil_blk hx) (hH.chg.nil_blk hc) (hn.chg hH.chg) hl (ha.chg hH.chg) (Sl.cuth (hb.chg hH.chg) (by omega))) rfl (fun _ _ _ h=>by obtain⟨_,_,_,_,hg,_⟩:=h;exact hg) ?_;clear hH;intro w11 v12 w13 hH hp14;obtain⟨o15,cap16,cs17,rfl,hg,hO18,hfr⟩:=hp14;replace hH:=hH.callown hg hfr;clear hg hfr;simp only[qz0,Value.cells]at hH⊢;refine pq rfl rfl (aj sB (fun w' hw=>eT _ _ _ _ w' (by(simp[jz]<;>omega)) ((OwnC.sl hH 0 rfl hO18).chg hw) ((Sl.cutl (hb.chg hH.chg) (by omega)).chg hw)) rfl) ?_;simp only[nf];refine pp rfl rfl (bS rfl) ?_;simp only[nf];refine pa ?_;simp only[nf];refine aa hH fun w19 hH=>hK10 _ _ (wp_cond_false (by show BV (!_)=_;rw[beq_iff_eq.mpr he];rfl) (wp_skip (hK5 _ _ (wp_seq_k fun K20 hK20=>en [.p 0,.p 1,.p 2,.p 4,.p 6,.p 7,.p 8,.q 3,.x 5,.x 9,.p 10,.p 11,.p 12,.p 13] ?_))));refine pm ?_;simp only[nf];refine pp rfl rfl (ae rfl) ?_;simp only[nf];refine pp rfl rfl (ab 0 rfl Tryd.underlying127 rfl rfl zv) ?_;simp only[nf];refine pm (pm (pm ?_));simp only[nf];refine pp rfl rfl (dh (hb.chg hH.chg) rfl rfl Tryd.underlying31 bL (by omega)) ?_;simp only[nf];refine pq rfl rfl (ah rfl Tryd.underlying118 rfl ((hH.chg.nil_blk hx).cell rfl)) ?_;simp only[nf];refine ar rfl rfl hH Cl (fun w' hH=>jd _ _ 2 w' (hn.chg hH.chg) hl) rfl (fun _ _ _ h=>by obtain⟨_,_,_,_,hg,_⟩:=h;exact hg) ?_;clear hH;intro w21 v22 w23 hH hp24;obtain⟨o25,cap26,cs27,rfl,hg,hO28,hfr⟩:=hp24;replace hH:=hH.callown hg hfr;clear hg hfr;simp only[qz0,Value.cells]at hH⊢;refine ar rfl rfl hH CP (fun w' hH=>jV _ _ (zD nl 2) _ _ 0 _ _ w' (hH.chg.nil_blk hc) (OwnC.sl hH 1 rfl hO28) (by simp[hl]) (fun i hi=>rfl) (Sl.cuth (hb.chg hH.chg) (by omega)) (by omega) (by(simp<;>omega))) rfl (fun _ _ _ h=>by obtain⟨_,_,_,_,hg,_⟩:=h;exact hg) ?_;clear hH;intro w29 v30 w31 hH hp32;obtain⟨o33,cap34,cs35,rfl,hg,hO36,hfr⟩:=hp32;replace hH:=hH.callown hg hfr;clear hg hfr;simp only[qz0,Value.cells]at hH⊢;refine pp rfl rfl (ai rfl rfl) ?_;simp only[nf];refine pp rfl rfl (ai rfl rfl) ?_;simp only[nf];refine pa (pa ?_);simp only[nf];refine aa hH fun w37 hH=>hK20 _ _ (wp_ret ?_);refine BP.ret2 rfl rfl rfl ?_;rw[show(bl.take (bl.length - 16)).length=bl.length - 16 by simp]at *;exact⟨_,_,_,rfl,hH.chg,(by unfold nw;rw[show(bl.take (bl.length - 16)).length=bl.length - 16 by simp];assumption),hH.owned 2 rfl⟩
end Go.Proofs.YtomjbepgbnbgmaaDoor
namespace Go.Proofs.YtomjbepgbnbgmaaDoor
open Go
structure Cfg where
  proto:ByteArray
  params:ByteArray
  random:Nat→UInt8
  key:Nat→UInt8
  ownk:Nat→UInt8
  ticket:ByteArray
  secret:ByteArray
  sealk:ByteArray
structure Two where
  client:ByteArray
  server:ByteArray
  known:Bool
def aU:ByteArray:=⟨#[]⟩
def two0:Two:=⟨aU,aU,false⟩
structure Mach where
  c:Cfg
  server:Bool
  all:List UInt8
  next:Nat
  level:Nat
  inn:List UInt8
  out:Nat→List UInt8
  alert:Nat
  sched:List UInt8
  sec:Nat→Two
  later:ByteArray
  peer:ByteArray
  told:Bool
  done:Bool
  resumed:Bool
  tick:ByteArray
  ticked:Bool
def dS (f:Nat→UInt8):List UInt8:=(List.range 32).map f
def kX (l:List UInt8):List UInt8:=dS (s9 l)
def cg (l:List UInt8):List UInt8:=om l.length (iL l.length)++l
def df (kind:UInt8) (b:List UInt8):List UInt8:=[kind,UInt8.ofNat (b.length/65536),UInt8.ofNat (b.length/256),UInt8.ofNat b.length]++b
def aF (s:ByteArray):List UInt8:=s.data.toList
def bT (l:List UInt8):ByteArray:=⟨l.toArray⟩
def pH:ByteArray:=⟨#[100,101,114,105,118,101,100]⟩
def xE:ByteArray:=⟨#[102,105,110,105,115,104,101,100]⟩
def zK:ByteArray:=⟨#[99,32,104,115,32,116,114,97,102,102,105,99]⟩
def z5:ByteArray:=⟨#[115,32,104,115,32,116,114,97,102,102,105,99]⟩
def u9:ByteArray:=⟨#[99,32,97,112,32,116,114,97,102,102,105,99]⟩
def vd:ByteArray:=⟨#[115,32,97,112,32,116,114,97,102,102,105,99]⟩
def lQ:ByteArray:=⟨#[114,101,115,32,109,97,115,116,101,114]⟩
def nj:List UInt8:=(List.range 32).map fun _=>0
def rv:List UInt8:=nr [] nj
def dB (s b:List UInt8):List UInt8:=nr (xw s pH (kX []) 32) (if b=[]then nj else b)
def cC (s:List UInt8) (nm:ByteArray) (all:List UInt8):List UInt8:=xw s nm (kX all) 32
def bD (secret all:List UInt8):List UInt8:=nr (xw secret xE [] 32) (kX all)
def cS (key pb:Nat→UInt8) (all:List UInt8):List UInt8:=nr (dS (bu key pb)) (kX all)
def cX (k:Nat→UInt8):Nat→UInt8:=bu k fun i=>if i=0 then 9 else 0
def Mach.say (m:Mach) (lv:Nat) (kind:UInt8) (b:List UInt8):Mach:={m with out:=dn m.out lv (m.out lv++df kind b),all:=m.all++df kind b}
def Mach.heard (m:Mach) (w:List UInt8) (next level:Nat):Mach:={m with all:=m.all++w,next:=next,level:=level}
def Mach.derive (m:Mach) (nm:ByteArray):ByteArray:=bT (cC m.sched nm m.all)
def Mach.first (m:Mach) (secret:ByteArray) (shared:Nat→UInt8):Mach:=
  let m1:={m with sched:=dB (dB m.sched (aF secret)) (dS shared)}
  {m1 with sec:=dn m1.sec 1 ⟨m1.derive zK,m1.derive z5,true⟩}
def Mach.second (m:Mach):Mach:=
  let m1:={m with sched:=dB m.sched []}
  {m1 with sec:=dn m1.sec 2 ⟨m1.derive u9,m1.derive vd,true⟩}
def Mach.waits (m:Mach) (level:Nat):Bool:=m.next !=0&&m.level==level
def gP (l:List UInt8):Option (Nat×Nat):=
  match l with
  |[]=>none
  |x::r=>
    let size:=2^(x.toNat/64)
    if l.length<size then none else some ((r.take (size - 1)).foldl (fun n y=>n*256+y.toNat) (x.toNat%64),size)
def nd (l:List UInt8):Option (List UInt8×List UInt8):=
  match gP l with
  |none=>none
  |some (n,k)=>if 65535<n∨l.length - k<n then none else some ((l.drop k).take n,l.drop (k+n))
def bM:Nat→List UInt8→Option (List (List UInt8))
  |0,l=>if l=[]then some []else none
  |n+1,l=>
    match nd l with
    |none=>none
    |some (s,r)=>(bM n r).map (s:: ·)
def dk (c:Cfg) (t:List UInt8):List UInt8:=
  if t.length<12∨c.sealk.size≠16∨(t.drop 12).length<16 then []else
    let kf:=el fun i=>c.sealk.data.toList.getD i 0
    let bl:=t.drop 12
    let body:=bl.take (bl.length - 16)
    if kx kf (hP kf) (t.take 12) (aF c.proto) body=bl.drop (bl.length - 16)∧body.length=32 then nw kf (t.take 12) body else []
def dT (f:Nat→UInt8):Bool:=(List.range 32).all fun i=>f i==0
def eY (l:List UInt8) (k:Nat):Nat→UInt8:=fun i=>l.getD (k+i) 0
def Mach.speech (m:Mach):Mach:=m.say 1 8 (cg (aF m.c.proto)++cg (aF m.c.params))
def Mach.proves (m:Mach) (pb:Nat→UInt8):Mach:=
  let m1:=m.say 1 11 (dS (cX m.c.ownk))
  m1.say 1 15 (cS m.c.ownk pb m1.all)
def Mach.greets (m:Mach) (secret:List UInt8) (shared pb:Nat→UInt8):Mach:=
  let m1:=m.say 0 2 (dS m.c.random++dS (cX m.c.key)++[if secret=[]then 0 else 1])
  let m2:=(m1.first (bT secret) shared).speech
  let m3:=if secret=[]then m2.proves pb else m2
  (m3.say 1 20 (bD (aF (m3.sec 1).server) m3.all)).second
def Mach.hello (m:Mach) (b w:List UInt8):Mach×Nat:=
  if b.length<64 then(m,50)else
  match bM 3 (b.drop 64)with
  |some [p,q,t]=>
    if p≠aF m.c.proto then(m,120)else
    let pb:=eY b 32
    let shared:=bu m.c.key pb
    if dT shared then(m,47)else
    let secret:=dk m.c t
    (Mach.greets {(m.heard w 20 1)with peer:=bT q,told:=true,resumed:=secret !=[]} secret shared pb,0)
  |_=>(m,50)
def Mach.answer (m:Mach) (b w:List UInt8):Mach×Nat:=
  if b.length≠65 then(m,50)else
  let shared:=bu m.c.key (eY b 32)
  if dT shared∨1<b.getD 64 0∨b.getD 64 0=1∧m.c.ticket=aU then(m,47)else
  let m1:={(m.heard w 8 1)with resumed:=b.getD 64 0==1}
  (m1.first (if b.getD 64 0=1 then m.c.secret else aU) shared,0)
def Mach.spoken (m:Mach) (b w:List UInt8):Mach×Nat:=
  match bM 2 b with
  |some [p,q]=>if p≠aF m.c.proto then(m,120)else(Mach.heard {m with peer:=bT q} w (if m.resumed then 20 else 11) 1,0)
  |_=>(m,50)
def Mach.named (m:Mach) (b w:List UInt8):Mach×Nat:=
  if b.length≠32 then(m,50)else if b≠dS m.c.ownk then(m,42)else(m.heard w 15 1,0)
def Mach.proved (m:Mach) (b w:List UInt8):Mach×Nat:=
  if b.length≠32 then(m,50)else if b≠cS m.c.key m.c.ownk m.all then(m,42)else(m.heard w 20 1,0)
def Mach.hand (m:Mach):Mach:=
  if m.c.sealk.size≠16 then m else
    let kf:=el fun i=>m.c.sealk.data.toList.getD i 0
    let nonce:=(dS m.c.random).take 12
    {m with out:=dn m.out 2 (m.out 2++df 4 (cg (nonce++fv kf (hP kf) nonce (aF m.c.proto) (aF m.later))))}
def Mach.sealed (m:Mach) (b w:List UInt8):Mach×Nat:=
  let secret:=if m.server then(m.sec 1).client else(m.sec 1).server
  if b.length≠32 then(m,50)else if b≠bD (aF secret) m.all then(m,51)else
  if m.server then
    let m1:=Mach.heard {m with done:=true} w 0 2
    (Mach.hand {m1 with later:=m1.derive lQ},0)
  else
    let m1:=(Mach.heard {m with done:=true} w 4 2).second
    let m2:=m1.say 1 20 (bD (aF (m1.sec 1).client) m1.all)
    ({m2 with later:=m2.derive lQ,told:=true},0)
def Mach.ticketed (m:Mach) (b:List UInt8):Mach×Nat:=
  match bM 1 b with
  |some [t]=>({m with tick:=bT t,ticked:=true},0)
  |_=>(m,50)
def Mach.one (m:Mach) (b w:List UInt8):Mach×Nat:=
  if m.next=1 then m.hello b w else if m.next=2 then m.answer b w else if m.next=8 then m.spoken b w else if m.next=11 then m.named b w else if m.next=15 then m.proved b w else if m.next=20 then m.sealed b w else m.ticketed b
def Mach.loop (level:Nat):Nat→Mach→Mach
  |0,m=>m
  |k+1,m=>
    if m.alert=0∧m.waits level=true∧4≤m.inn.length then
      let n:=(m.inn.getD 1 0).toNat*65536+(m.inn.getD 2 0).toNat*256+(m.inn.getD 3 0).toNat
      if(m.inn.getD 0 0).toNat≠m.next∨2000<n then {m with alert:=10}
      else if m.inn.length<4+n then m
      else
        let w:=m.inn.take (4+n)
        let r:=Mach.one {m with inn:=m.inn.drop (4+n)} (w.drop 4) w
        Mach.loop level k {r.1 with alert:=r.2}
    else m
def Mach.take (m:Mach) (level:Nat) (b:List UInt8):Mach×Nat:=
  if m.alert≠0∨b=[]then(m,m.alert)
  else if m.waits level=false then({m with alert:=10},10)
  else
    let m1:=Mach.loop level (m.inn++b).length {m with inn:=m.inn++b}
    let m2:=if m1.alert=0∧m1.inn≠[]∧m1.waits level=false then {m1 with alert:=10}else m1
    (m2,m2.alert)
def Mach.speak (m:Mach) (level:Nat):Mach×List UInt8:=if 2<level∨m.alert≠0 then(m,[])else({m with out:=dn m.out level []},m.out level)
def cF (c:Cfg):Bool:=c.proto.size !=0&&decide (c.proto.size≤255)&&decide (c.params.size≤1000)
def cy (c:Cfg) (server:Bool) (next:Nat):Mach:=⟨c,server,[],next,0,[],fun _=>[],0,rv,fun _=>two0,aU,aU,false,false,false,aU,false⟩
def dU (c:Cfg):Option Mach:=
  if cF c=false∨200<c.ticket.size∨((c.ticket.size==0) !=(c.secret.size==0))=true∨c.secret.size≠0∧c.secret.size≠32 then none
  else some ((cy c false 2).say 0 1 (dS c.random++dS (cX c.key)++cg (aF c.proto)++cg (aF c.params)++cg (aF c.ticket)))
def em (c:Cfg):Option Mach:=if cF c=false∨c.sealk.size≠16 then none else some (cy c true 1)
end Go.Proofs.YtomjbepgbnbgmaaDoor
namespace Go.Proofs.YtomjbepgbnbgmaaDoor
open Go
section
variable {P : Program} {a : Act} {w : World} {d : Option Tmp} {ty : TypeId} {pos : String} {af : Array Edge} {g : Option (Nat × Bool)} {x y : Operand} {t T : TypeId}
end
theorem spl:(∀(l:List Value) (o:Nat) (vs:List Value),cR l.toArray o vs.toArray=(l.take o++vs++l.drop (o+vs.length)).toArray)∧(∀(x:Value) (l:List Value) (n:Nat),(x::l).take (n+1)=x::l.take n)∧(∀l:List Value,l.take 0=[])∧(∀(x:Value) (l:List Value) (n:Nat),(x::l).drop (n+1)=l.drop n)∧(∀l:List Value,l.drop 0=l)∧
    (∀(x:Value) (l m:List Value),(x::l)++m=x::(l++m))∧(∀m:List Value,[]++m=m)∧(∀(x:Value) (l:List Value),(x::l).length=l.length+1)∧(([]:List Value).length=0)∧(∀n:Nat,0+n=n):=
  ⟨fun l o vs=>by unfold cR;simp,fun _ _ _=>rfl,fun _=>rfl,fun _ _ _=>rfl,fun _=>rfl,fun _ _ _=>rfl,fun _=>rfl,fun _ _=>rfl,rfl,Nat.zero_add⟩
end Go.Proofs.YtomjbepgbnbgmaaDoor
namespace Go.Proofs.YtomjbepgbnbgmaaDoor
open Go
def du (E:List bU):List Nat:=E.filterMap bU.at
theorem lN {E:List bU} {b:Nat}:b∈du E↔∃e∈E,e.1=some b:=by
  unfold du;rw[List.mem_filterMap];rfl
section
variable {S : List Nat} {w0 w w' : World} {L E O E' : List bU}
theorem Hp.cross (h:Hp S w0 w (E++O)) {b:Nat} {e:bU} (he:e∈O) (hb:e.1=some b):b∉du E:=fun hm=>by
  obtain⟨e2,he2,hb2⟩:=lN.1 hm;have:=(List.pairwise_append.1 h.pair).2.2 e2 he2 e he b hb2;exact this hb
theorem Hp.old (h:Hp S w0 w (E++O)) {b:Nat} (hb:b∈du E):w0.heap.size≤b∨b∈S:=by
  obtain⟨e,he,h1⟩:=lN.1 hb;exact(h.own e (List.mem_append_left _ he) b h1).1
theorem Hp.partE (h:Hp S w0 w (E++O)):Hp (du E) w w E:=
  .of_pair (.refl _ _) (fun e he b hb=>⟨.inr (lN.2 ⟨e,he,hb⟩),(h.own e (List.mem_append_left _ he) b hb).2⟩) (List.pairwise_append.1 h.pair).1
theorem Hp.swapE (h:Hp S w0 w (E++O)) (h':Hp (du E) w w' E'):Hp S w0 w' (E'++O):=by
  refine .of_pair (h.chg.trans' h'.chg fun b hb hlt=>?_) (fun e he b hb=>?_) ?_
  · rcases h.old hb with h1|h1
    · omega
    · exact h1
  · rcases List.mem_append.1 he with he|he
    · obtain⟨h1,h2⟩:=h'.own e he b hb
      refine⟨?_,h2⟩;rcases h1 with h1|h1
      · have:=h.chg.size;exact .inl (by omega)
      · exact h.old h1
    · obtain⟨h1,h2⟩:=h.own e (List.mem_append_right _ he) b hb
      exact⟨h1,h'.chg.blk h2 (h.cross he hb)⟩
  · refine List.pairwise_append.2 ⟨h'.pair,(List.pairwise_append.1 h.pair).2.1,fun e he e2 he2 b hb hb2=>?_⟩
    have h2:=(h.own e2 (List.mem_append_right _ he2) b hb2).2.lt;rcases(h'.own e he b hb).1 with h1|h1
    · omega
    · exact h.cross he2 hb2 h1
theorem Hp.restO (h:Hp S w0 w (E++O)) (hc:Chg (du E) w w'):Hp (du E++du O) w w' O:=
  .of_pair (hc.weak fun x hx=>List.mem_append_left _ hx) (fun e he b hb=>⟨.inr (List.mem_append_right _ (lN.2 ⟨e,he,hb⟩)),hc.blk (h.own e (List.mem_append_right _ he) b hb).2 (h.cross he hb)⟩) (List.pairwise_append.1 h.pair).2.1
theorem Hp.slO (h:Hp S w0 w (E++O)) {l:List UInt8} (j:Nat) {o:Option Nat} {cs:Array Value} {n cap:Nat} {T:TypeId} (hj:O[j]? =some (o,T,cs)) (hO:OwnC o n cap 1 cs (l.map V8)):∀w',Chg (du E) w w'→Sl w' (Go.Proofs.YtomjbepgbnbgmaaDoor.own o n cap) l:=fun w' hc=>
  OwnC.sl (h.restO hc) j hj hO
end
theorem Hp.stab {S:List Nat} {w0 w:World} {E O:List bU} {p:World→Prop} (h:Hp S w0 w (E++O)) (hv:∀w',Chg S w0 w'→p w'):∀w',Chg (du E) w w'→p w':=fun w' hc=>by
  refine hv w' (h.chg.trans' hc fun b hb hlt=>?_);rcases h.old hb with h1|h1
  · omega
  · exact h1
theorem Hp.sub {S:List Nat} {w0 w:World} {L L':List bU} (h:Hp S w0 w L) (hs:L'.Sublist L):Hp S w0 w L':=
  .of_pair h.chg (fun e he b hb=>h.own e (hs.subset he) b hb) (h.pair.sublist hs)
section
variable {S : List Nat} {w0 w w' : World} {e1 e2 e3 e4 e5 e7 e6' e7' : bU} {O : List bU} {bk : Nat} {T : TypeId} {cs : Array Value}
theorem Hp.mixF (h:Hp S w0 w (e1::e2::e3::e4::e5::(some bk,T,cs)::e7::O)):Hp S w0 w ([(some bk,T,cs)]++(e1::e2::e3::e4::e5::e7::O)):=
  h.perm (List.perm_middle (l₁:=[e1,e2,e3,e4,e5]) (a:=(some bk,T,cs)) (l₂:=e7::O))
theorem Hp.mixIn (h:Hp S w0 w (e1::e2::e3::e4::e5::(some bk,T,cs)::e7::O)):Hp [bk] w w [(some bk,T,cs)]:=h.mixF.partE
theorem Hp.mixOut (h:Hp S w0 w (e1::e2::e3::e4::e5::(some bk,T,cs)::e7::O)) (h':Hp [bk] w w' [e6',e7']):Hp S w0 w' (e1::e2::e3::e4::e5::e6'::e7'::O):=by
  have h1:Hp S w0 w' ([e6',e7']++(e1::e2::e3::e4::e5::e7::O)):=Hp.swapE (E:=[(some bk,T,cs)]) h.mixF h'
  have h2 : Hp S w0 w' ([e6', e7'] ++ (e1 :: e2 :: e3 :: e4 :: e5 :: O)) := h1.sub (by
    refine List.Sublist.append (List.Sublist.refl _) ?_;exact .cons_cons _ (.cons_cons _ (.cons_cons _ (.cons_cons _ (.cons_cons _ (.cons _ (.refl _)))))))
  refine h2.perm ?_;have:=(List.perm_append_comm (l₁:=[e6',e7']) (l₂:=[e1,e2,e3,e4,e5])).append_right O;simpa using this
theorem Hp.mixStab {p:World→Prop} (h:Hp S w0 w (e1::e2::e3::e4::e5::(some bk,T,cs)::e7::O)) (hv:∀w',Chg S w0 w'→p w'):∀w',Chg [bk] w w'→p w':=Hp.stab (E:=[(some bk,T,cs)]) h.mixF hv
theorem Hp.mixRest (h:Hp S w0 w (e1::e2::e3::e4::e5::(some bk,T,cs)::e7::O)) (w':World) (hc:Chg [bk] w w'):Hp ([bk]++du (e1::e2::e3::e4::e5::e7::O)) w w' (e1::e2::e3::e4::e5::e7::O):=Hp.restO (E:=[(some bk,T,cs)]) h.mixF hc
end
theorem OwnC.of_list {b n s:Nat} {l:List Value} (h:l.length=n*s):OwnC (Option.some b) n n s l.toArray l:=
  ⟨Nat.le_refl _,by simpa using h,(by intro h;cases h),h,fun i _=>by simp⟩
theorem OwnC.srcX {P:Program} {w:World} {S:List Nat} {w0:World} {L:List bU} (hH:Hp S w0 w L) (k:Nat) {o:Option Nat} {e n cap s:Nat} {cs:Array Value} {xs:List Value} (hk:L[k]? =Option.some (o,e,cs)) (hO:OwnC o n cap s cs xs) (h1:∀x∈xs,x.oneCell'=true):
    wj P w (own o n cap) s n xs:=
  ⟨fun w'=>rfl,hO.len,h1,fun w' hw=>nR (hH.call hw) k hk hO⟩
section
variable {P : Program} {ops : List Oper} {Q : Exit → Act → World → Prop} {r : List PStep} {a : Act} {w : World} {i : Nat} {d : Option Tmp} {ty : TypeId} {pos : String} {af : Array Edge} {g : Option (Nat × Bool)} {x y : Operand} {t t' T : TypeId} {S : List Nat} {w0 : World} {L : List bU}
theorem jC {dst:Tmp} {n m e:Nat} {ad:Option Addr} {xs news:List Value} {D:TypeDesc} {vy:Value}
    (ho:ops[i]? =some ⟨some dst,.call ⟨.builtin .append,#[x,y],#[t,t']⟩,ty,pos,af,g⟩) (hg:Region.wanted ⟨some dst,.call ⟨.builtin .append,#[x,y],#[t,t']⟩,ty,pos,af,g⟩ (yielded ops.toArray a.tmps)=true)
    (hH:Hp S w0 w L) (hsx:∀w1,Hp S w0 w1 L→wj P w1 (.slice ad n n) 1 n xs) (hsrc:∀w1,Hp S w0 w1 L→wj P w1 vy 1 m news) (hm:0<m) (hx:a.eval x= .slice ad n n) (hy:a.eval y=vy) (hu:P.underlying t=some (.slice e)) (hu':P.underlying t'=some D) (hD:(∃e2,D= .slice e2)∨D= .string)
    (hs:szc P e=some 1) (hb:eg P e=some 1) (hz:dt P e=some #[V8 0]) (hbd:n+m≤140737488355328)
    (h:∀o' cap' cs' w',OwnC o' (n+m) cap' 1 cs' (xs++news)→Hp S w0 w' (L++[(o',e,cs')])→aN P ops.toArray Q r (a.put (some dst) (own o' (n+m) cap')) w'):aN P ops.toArray Q (.x i::r) a w:=by
  refine lM hH ho hg fun w hH=>?_
  obtain⟨hlen,hnl,hone,hfirst⟩:=hsrc w hH
  obtain⟨_,hnx,_,hfx⟩:=hsx w hH
  have hbts:∃inf,P.info? e=some inf∧inf.bytes=1∧inf.size=1∧∃z,inf.zero=some z∧z.cells= #[V8 0]:=by
    unfold eg at hb
    obtain⟨inf,hi,hb1⟩:=Option.map_eq_some_iff.1 hb
    unfold szc at hs
    rw[hi]at hs
    unfold dt at hz
    rw[hi]at hz
    obtain⟨z,hz1,hz2⟩:=Option.map_eq_some_iff.1 hz
    exact⟨inf,hi,hb1,by simpa using hs,z,by simpa using hz1,hz2⟩
  obtain⟨inf,hinf,hib,his,z,hiz,hzc⟩:=hbts
  have hroom:¬n+m≤n:=by omega
  obtain⟨c,hc,hch⟩:∃c,n+m≤c∧(Question.appendCap (n+m) n e).cut (w.tape w.drawn (.appendCap (n+m) n e))=c:=⟨_,by simp[Question.cut],rfl⟩
  have hfc:(Question.appendCap (n+m) n e).forced=false:=rfl
  have hd:Chg [] w w.drew:=(Chg.refl _ _).drew
  have hf:=hfirst w.drew hd
  have hfo:=hfx w.drew hd
  have hfit:=growslice_fits (bytes:=inf.bytes) (show n<n+m by omega) (by rw[hib];omega)
  have h48:¬(281474976710656<Builtin.nextslicecap (n+m) n*inf.bytes):=by omega
  have h63:¬(9223372036854775807<((n:Int)+(m:Int))):=by omega
  have hzl:(Builtin.zeroCells #[V8 0] (c - (n+m))).size=c - (n+m):=by simp[Builtin.zeroCells]
  refine⟨own (some w.drew.heap.size) (n+m) c,w.drew.alloc (.cells (xs.toArray++news.toArray++Builtin.zeroCells #[V8 0] (c - (n+m))) e),?_,hd.alloc _,h (some w.drew.heap.size) c _ _ ⟨hc,?_,(by intro h;cases h),by rw[List.length_append,hnx,hnl,Nat.add_mul],fun j hj=>?_⟩ ((hH.call hd).alloc e _)⟩
  · have hr:(Builtin.append_ #[t,t'] ty #[.slice ad n n,vy]).run P w= .ok (own (some w.drew.heap.size) (n+m) c) (w.drew.alloc (.cells (xs.toArray++news.toArray++Builtin.zeroCells #[V8 0] (c - (n+m))) e)):=by
      rcases hD with ⟨e2,rfl⟩|rfl<;>simp[Builtin.append_,run_underlying hu,run_underlying hu',own,sizeOf,typeInfo,zeroValue,hinf,hiz,hlen,hroom,h63,h48,hfc,hch,hzc,newRow]
      all_goals (rw[his,hfo];simp only[Result.andThen_ok];rw[hf];simp;congr 2;apply Array.ext';simp)
    simp only[execOp,resolve,List.map_toArray,List.map_cons,List.map_nil,hx,hy,invoke,builtin,Sem.run_bind,Sem.run_pure,Result.andThen_ok,hr]
  · simp only[Array.size_append,List.size_toArray,hzl,hnx,hnl];omega
  · have:j<(xs++news).length:=by rw[List.length_append,hnx,hnl,←Nat.add_mul];exact hj
    rw[Array.getElem?_append_left (by simpa using this)]
    simp
structure Keep (b:Nat) (w w':World):Prop where
  os:w'.os=w.os
  tape:w'.tape=w.tape
  output:w'.output=w.output
  size:w.heap.size≤w'.heap.size
  block:b<w.heap.size→w'.heap[b]? =w.heap[b]?
theorem Far.keep (b:Nat):Far (Keep b) where
  of w w' h:=⟨h.os,h.tape,h.output,h.size,fun hk=>h.block b hk (by simp)⟩;trans x y z h k:=⟨k.os.trans h.os,k.tape.trans h.tape,k.output.trans h.output,Nat.le_trans h.size k.size,fun hlt=>(k.block (Nat.lt_of_lt_of_le hlt h.size)).trans (h.block hlt)⟩
theorem Keep.of_chg {b:Nat} {S:List Nat} {w w':World} (h:Chg S w w') (hS:b∉S):Keep b w w':=⟨h.os,h.tape,h.output,h.size,fun hlt=>h.block b hlt hS⟩
theorem jx {D:TypeDesc} {b o:Nat} {cs:Array Value} {v:Value} (hb:cD w b T cs) (hx:a.eval x=PT b o) (hu:P.underlying t=some D) (hD:dO D=false) (hc:cs[o]? =some v):wP P ⟨d,.load t x,ty,pos,af,g⟩ a (Keep b) w v:=
  pj (fun w' hw=>hb.of_heap (hw.block hb.lt)) hx hu hD hc
theorem fm (k:Nat) {b0:Nat} {dst:Tmp} {o:Option Nat} {n cap s bts m e:Nat} {cs zc:Array Value} {xs news:List Value} {D:TypeDesc} {vy:Value}
    (ho:ops[i]? =some ⟨some dst,.call ⟨.builtin .append,#[x,y],#[t,t']⟩,ty,pos,af,g⟩) (hg:Region.wanted ⟨some dst,.call ⟨.builtin .append,#[x,y],#[t,t']⟩,ty,pos,af,g⟩ (yielded ops.toArray a.tmps)=true)
    (hNb:∀b,o=some b→b≠b0)
    (hH:Hp S w0 w L) (hk:L[k]? =some (o,e,cs)) (hO:OwnC o n cap s cs xs) (hsrc:∀w1,Hp S w0 w1 L→wj P w1 vy s m news) (hx:a.eval x=own o n cap) (hy:a.eval y=vy) (hu:P.underlying t=some (.slice e)) (hu':P.underlying t'=some D) (hD:(∃e2,D= .slice e2)∨D= .string)
    (hs:szc P e=some s) (hb:eg P e=some bts) (hz:dt P e=some zc) (hzs:zc.size=s) (hbd:(n+m)*bts≤140737488355328) (hbd':n+m<9223372036854775808)
    (h:∀o' cap' cs' w',OwnC o' (n+m) cap' s cs' (xs++news)→Hp S w0 w' (L.set k (o',e,cs'))→aN P ops.toArray Q r (a.put (some dst) (own o' (n+m) cap')) w'):aN P ops.toArray Q (.s i (Keep b0)::r) a w:=fun w1 hw=>by
  obtain⟨o',cap',cs',w',hr,hO',hH',hc,hn⟩:=vw (ty:=ty) k (hH.call hw) hk hO (hsrc w1 (hH.call hw)) hu hu' hD hs hb hz hzs hbd hbd'
  have hrun:(execOp a.eval ⟨some dst,.call ⟨.builtin .append,#[x,y],#[t,t']⟩,ty,pos,af,g⟩).run P w1= .ok (.value (own o' (n+m) cap')) w':=by
    simp only[execOp,resolve,List.map_toArray,List.map_cons,List.map_nil,hx,hy,invoke,builtin,Sem.run_bind,Sem.run_pure,Result.andThen_ok,hr]
  unfold wpOp
  simp only[ef ho,hg,if_true]
  refine .inl ?_
  unfold Oper.wp
  rw[hrun]
  exact⟨Keep.of_chg hc fun hb=>hNb b0 (by simpa using hb) rfl,h o' cap' cs' w' hO' hH'⟩
theorem pR {n m e:Nat} {d:Tmp} {ad:Option Addr} {xs news:List Value} {D:TypeDesc} {vy:Value}
    (ho:ops[i]? =some ⟨some d,.call ⟨.builtin .append,#[x,y],#[t,t']⟩,ty,pos,af,g⟩) (hg:Region.wanted ⟨some d,.call ⟨.builtin .append,#[x,y],#[t,t']⟩,ty,pos,af,g⟩ (yielded ops.toArray a.tmps)=true)
    (hsx:∀L' w1,Hp S w0 w1 (L++L')→wj P w1 (.slice ad n n) 1 n xs) (hsrc:∀L' w1,Hp S w0 w1 (L++L')→wj P w1 vy 1 m news) (hm:0<m) (hx:a.eval x= .slice ad n n) (hy:a.eval y=vy) (hu:P.underlying t=some (.slice e)) (hu':P.underlying t'=some D) (hD:(∃e2,D= .slice e2)∨D= .string)
    (hs:szc P e=some 1) (hb:eg P e=some 1) (hz:dt P e=some #[V8 0]) (hbd:n+m≤140737488355328):XA P ops Q i d S w0 L (yg e (n+m) 1 (xs++news) id) a:=fun L' w hH K h=>
  jC ho hg hH (hsx L') (hsrc L') hm hx hy hu hu' hD hs hb hz hbd fun o' cap' cs' w' hO hH'=>fun w2 hw2=>h _ _ w2 ⟨o',cap',cs',rfl,hO,rfl⟩ (hH'.call hw2)
theorem oT {n m e:Nat} {d dj:Tmp} {ad:Option Addr} {xs news:List Value} {D:TypeDesc} {vy:Value}
    (ho:ops[i]? =some ⟨some d,.call ⟨.builtin .append,#[x,y],#[t,t']⟩,ty,pos,af,g⟩) (hg:Region.wanted ⟨some d,.call ⟨.builtin .append,#[x,y],#[t,t']⟩,ty,pos,af,g⟩ (yielded ops.toArray a.tmps)=true) (hg':∀u,Region.wanted ⟨some d,.call ⟨.builtin .append,#[x,y],#[t,t']⟩,ty,pos,af,g⟩ (yielded ops.toArray (a.put (some dj) u).tmps)=true)
    (hsx:∀L' w1,Hp S w0 w1 (L++L')→wj P w1 (.slice ad n n) 1 n xs) (hsrc:∀L' w1,Hp S w0 w1 (L++L')→wj P w1 vy 1 m news) (hm:0<m) (hx:a.eval x= .slice ad n n) (hx':∀u,(a.put (some dj) u).eval x= .slice ad n n) (hy:a.eval y=vy) (hy':∀u,(a.put (some dj) u).eval y=vy) (hu:P.underlying t=some (.slice e)) (hu':P.underlying t'=some D) (hD:(∃e2,D= .slice e2)∨D= .string)
    (hs:szc P e=some 1) (hb:eg P e=some 1) (hz:dt P e=some #[V8 0]) (hbd:n+m≤140737488355328):XS P ops Q i d dj S w0 L (yg e (n+m) 1 (xs++news) id) a:=
  ⟨pR ho hg hsx hsrc hm hx hy hu hu' hD hs hb hz hbd,fun u=>pR ho (hg' u) hsx hsrc hm (hx' u) (hy' u) hu hu' hD hs hb hz hbd⟩
theorem lW {e n:Nat} {d:Tmp} {cs:Array Value} {parts:List (Nat×Operand)} {vs:List (Nat×Value)} {l:List Value} (ho:ops[i]? =some ⟨some d,.buildSlice t n parts.toArray,ty,pos,af,g⟩) (hg:Region.wanted ⟨some d,.buildSlice t n parts.toArray,ty,pos,af,g⟩ (yielded ops.toArray a.tmps)=true)
    (hu:P.underlying t=some (.slice e)) (hv:(parts.map fun p=>(p.1,a.eval p.2))=vs) (hrun:∀w,(Instr.buildSlice t n vs.toArray).run P w= .ok (.slice (some ⟨w.heap.size,0,none⟩) n n) (w.alloc (.cells cs e))) (hcs:cs=l.toArray) (hl:l.length=n*1):XA P ops Q i d S w0 L (yg e n 1 l id) a:=fun L' w hH K h=>
  bA ho hg hH hu hv hrun fun b w' hH'=>fun w2 hw2=>h _ _ w2 ⟨some b,n,cs,rfl,by rw[hcs];exact OwnC.of_list hl,rfl⟩ (hH'.call hw2)
theorem lY {e n:Nat} {d dj:Tmp} {cs:Array Value} {parts:List (Nat×Operand)} {vs:List (Nat×Value)} {l:List Value} (ho:ops[i]? =some ⟨some d,.buildSlice t n parts.toArray,ty,pos,af,g⟩) (hg:Region.wanted ⟨some d,.buildSlice t n parts.toArray,ty,pos,af,g⟩ (yielded ops.toArray a.tmps)=true)
    (hg':∀u,Region.wanted ⟨some d,.buildSlice t n parts.toArray,ty,pos,af,g⟩ (yielded ops.toArray (a.put (some dj) u).tmps)=true) (hu:P.underlying t=some (.slice e)) (hv:(parts.map fun p=>(p.1,a.eval p.2))=vs) (hv':∀u,(parts.map fun p=>(p.1,(a.put (some dj) u).eval p.2))=vs)
    (hrun:∀w,(Instr.buildSlice t n vs.toArray).run P w= .ok (.slice (some ⟨w.heap.size,0,none⟩) n n) (w.alloc (.cells cs e))) (hcs:cs=l.toArray) (hl:l.length=n*1):XS P ops Q i d dj S w0 L (yg e n 1 l id) a:=
  ⟨lW ho hg hu hv hrun hcs hl,fun u=>lW ho (hg' u) hu (hv' u) hrun hcs hl⟩
end
end Go.Proofs.YtomjbepgbnbgmaaDoor
namespace Go.Proofs.YtomjbepgbnbgmaaDoor
open Go
def fZ (c:Cfg):Array Value:= #[.string c.proto,.string c.params]++a9 32 c.random++a9 32 c.key++a9 32 c.ownk++ #[.string c.ticket,.string c.secret,.string c.sealk]
def pI (t:Two):Array Value:= #[.string t.client,.string t.server,BV t.known]
def aV (m:Mach) (vA vI v0 v1 v2 vK:Value):Array Value:=fZ m.c++ #[BV m.server,vA,bb m.next,bb m.level,vI,v0,v1,v2,bb m.alert,vK]++pI (m.sec 0)++pI (m.sec 1)++pI (m.sec 2)++ #[.string m.later,.string m.peer,BV m.told,BV m.done,BV m.resumed,.string m.tick,BV m.ticked]
@[simp] theorem nz (c:Cfg):(fZ c).size=101:=by simp[fZ]
@[simp] theorem cr (m:Mach) (vA vI v0 v1 v2 vK:Value):(aV m vA vI v0 v1 v2 vK).size=127:=by simp[aV,nz,pI]
theorem eR (m:Mach) (vA vI v0 v1 v2 vK:Value):(aV m vA vI v0 v1 v2 vK)[101]? =some (BV m.server):=by kernel_rfl
theorem ew (m:Mach) (vA vI v0 v1 v2 vK:Value):(aV m vA vI v0 v1 v2 vK)[103]? =some (bb m.next):=by kernel_rfl
theorem vQ (m:Mach) (vA vI v0 v1 v2 vK:Value):(aV m vA vI v0 v1 v2 vK)[104]? =some (bb m.level):=by kernel_rfl
theorem bX (m:Mach) (vA vI v0 v1 v2 vK:Value):(aV m vA vI v0 v1 v2 vK)[109]? =some (bb m.alert):=by kernel_rfl
theorem oY (m:Mach) (vA vI v0 v1 v2 vK:Value):(aV m vA vI v0 v1 v2 vK)[120]? =some (.string m.later):=by kernel_rfl
theorem uC (m:Mach) (vA vI v0 v1 v2 vK:Value):(aV m vA vI v0 v1 v2 vK)[121]? =some (.string m.peer):=by kernel_rfl
theorem vU (m:Mach) (vA vI v0 v1 v2 vK:Value):(aV m vA vI v0 v1 v2 vK)[122]? =some (BV m.told):=by kernel_rfl
theorem vG (m:Mach) (vA vI v0 v1 v2 vK:Value):(aV m vA vI v0 v1 v2 vK)[123]? =some (BV m.done):=by kernel_rfl
theorem ev (m:Mach) (vA vI v0 v1 v2 vK:Value):(aV m vA vI v0 v1 v2 vK)[124]? =some (BV m.resumed):=by kernel_rfl
theorem ut (m:Mach) (vA vI v0 v1 v2 vK:Value):(aV m vA vI v0 v1 v2 vK)[125]? =some (.string m.tick):=by kernel_rfl
theorem vN (m:Mach) (vA vI v0 v1 v2 vK:Value):(aV m vA vI v0 v1 v2 vK)[126]? =some (BV m.ticked):=by kernel_rfl
theorem d9 (m:Mach) (vA vI v0 v1 v2 vK:Value):(aV m vA vI v0 v1 v2 vK)[0]? =some (.string m.c.proto):=by kernel_rfl
theorem sS (m:Mach) (vA vI v0 v1 v2 vK:Value):(aV m vA vI v0 v1 v2 vK)[1]? =some (.string m.c.params):=by kernel_rfl
theorem qv (m:Mach) (vA vI v0 v1 v2 vK:Value):(aV m vA vI v0 v1 v2 vK)[98]? =some (.string m.c.ticket):=by kernel_rfl
theorem xv (m:Mach) (vA vI v0 v1 v2 vK:Value):(aV m vA vI v0 v1 v2 vK)[99]? =some (.string m.c.secret):=by kernel_rfl
theorem fH (m:Mach) (vA vI v0 v1 v2 vK:Value):(aV m vA vI v0 v1 v2 vK)[100]? =some (.string m.c.sealk):=by kernel_rfl
theorem iA (m:Mach) (vA vI v0 v1 v2 vK:Value):(aV m vA vI v0 v1 v2 vK)[102]? =some vA:=by kernel_rfl
theorem dx (m:Mach) (vA vI v0 v1 v2 vK:Value):(aV m vA vI v0 v1 v2 vK)[105]? =some vI:=by kernel_rfl
theorem oW (m:Mach) (vA vI v0 v1 v2 vK:Value):(aV m vA vI v0 v1 v2 vK)[106]? =some v0:=by kernel_rfl
theorem pe (m:Mach) (vA vI v0 v1 v2 vK:Value):(aV m vA vI v0 v1 v2 vK)[107]? =some v1:=by kernel_rfl
theorem pB (m:Mach) (vA vI v0 v1 v2 vK:Value):(aV m vA vI v0 v1 v2 vK)[108]? =some v2:=by kernel_rfl
theorem j7 (m:Mach) (vA vI v0 v1 v2 vK:Value):(aV m vA vI v0 v1 v2 vK)[110]? =some vK:=by kernel_rfl
theorem jD (m:Mach) (vA vI v0 v1 v2 vK:Value) (b:Bool):(aV m vA vI v0 v1 v2 vK).setIfInBounds 101 (BV b)=aV {m with server:=b} vA vI v0 v1 v2 vK:=by kernel_rfl
theorem jH (m:Mach) (vA vI v0 v1 v2 vK:Value) (n:Nat):(aV m vA vI v0 v1 v2 vK).setIfInBounds 103 (bb (n:Nat))=aV {m with next:=n} vA vI v0 v1 v2 vK:=by kernel_rfl
theorem j3 (m:Mach) (vA vI v0 v1 v2 vK:Value) (n:Nat):(aV m vA vI v0 v1 v2 vK).setIfInBounds 104 (bb (n:Nat))=aV {m with level:=n} vA vI v0 v1 v2 vK:=by kernel_rfl
theorem jF (m:Mach) (vA vI v0 v1 v2 vK:Value) (n:Nat):(aV m vA vI v0 v1 v2 vK).setIfInBounds 109 (bb (n:Nat))=aV {m with alert:=n} vA vI v0 v1 v2 vK:=by kernel_rfl
theorem kq (m:Mach) (vA vI v0 v1 v2 vK:Value) (s:ByteArray):(aV m vA vI v0 v1 v2 vK).setIfInBounds 120 (.string s)=aV {m with later:=s} vA vI v0 v1 v2 vK:=by kernel_rfl
theorem jE (m:Mach) (vA vI v0 v1 v2 vK:Value) (s:ByteArray):(aV m vA vI v0 v1 v2 vK).setIfInBounds 121 (.string s)=aV {m with peer:=s} vA vI v0 v1 v2 vK:=by kernel_rfl
theorem jY (m:Mach) (vA vI v0 v1 v2 vK:Value) (b:Bool):(aV m vA vI v0 v1 v2 vK).setIfInBounds 122 (BV b)=aV {m with told:=b} vA vI v0 v1 v2 vK:=by kernel_rfl
theorem jR (m:Mach) (vA vI v0 v1 v2 vK:Value) (b:Bool):(aV m vA vI v0 v1 v2 vK).setIfInBounds 123 (BV b)=aV {m with done:=b} vA vI v0 v1 v2 vK:=by kernel_rfl
theorem jP (m:Mach) (vA vI v0 v1 v2 vK:Value) (b:Bool):(aV m vA vI v0 v1 v2 vK).setIfInBounds 124 (BV b)=aV {m with resumed:=b} vA vI v0 v1 v2 vK:=by kernel_rfl
theorem jI (m:Mach) (vA vI v0 v1 v2 vK:Value) (s:ByteArray):(aV m vA vI v0 v1 v2 vK).setIfInBounds 125 (.string s)=aV {m with tick:=s} vA vI v0 v1 v2 vK:=by kernel_rfl
theorem jX (m:Mach) (vA vI v0 v1 v2 vK:Value) (b:Bool):(aV m vA vI v0 v1 v2 vK).setIfInBounds 126 (BV b)=aV {m with ticked:=b} vA vI v0 v1 v2 vK:=by kernel_rfl
theorem kg (m:Mach) (vA vI v0 v1 v2 vK:Value) (v:Value):(aV m vA vI v0 v1 v2 vK).setIfInBounds 102 v=aV m v vI v0 v1 v2 vK:=by kernel_rfl
theorem jW (m:Mach) (vA vI v0 v1 v2 vK:Value) (v:Value):(aV m vA vI v0 v1 v2 vK).setIfInBounds 105 v=aV m vA v v0 v1 v2 vK:=by kernel_rfl
theorem jJ (m:Mach) (vA vI v0 v1 v2 vK:Value) (v:Value):(aV m vA vI v0 v1 v2 vK).setIfInBounds 106 v=aV m vA vI v v1 v2 vK:=by kernel_rfl
theorem km (m:Mach) (vA vI v0 v1 v2 vK:Value) (v:Value):(aV m vA vI v0 v1 v2 vK).setIfInBounds 107 v=aV m vA vI v0 v v2 vK:=by kernel_rfl
theorem j4 (m:Mach) (vA vI v0 v1 v2 vK:Value) (v:Value):(aV m vA vI v0 v1 v2 vK).setIfInBounds 108 v=aV m vA vI v0 v1 v vK:=by kernel_rfl
theorem jK (m:Mach) (vA vI v0 v1 v2 vK:Value) (v:Value):(aV m vA vI v0 v1 v2 vK).setIfInBounds 110 v=aV m vA vI v0 v1 v2 v:=by kernel_rfl
theorem j' (m:Mach) (vA vI v0 v1 v2 vK:Value) (a b:ByteArray) (c:Bool):cR (aV m vA vI v0 v1 v2 vK) 111 #[.string a,.string b,BV c]=aV {m with sec:=dn m.sec 0 ⟨a,b,c⟩} vA vI v0 v1 v2 vK:=by kernel_rfl
theorem kt (m:Mach) (vA vI v0 v1 v2 vK:Value) (t:Two):cR (aV m vA vI v0 v1 v2 vK) 111 (pI t)=aV {m with sec:=dn m.sec 0 t} vA vI v0 v1 v2 vK:=by kernel_rfl
theorem vR (m:Mach) (vA vI v0 v1 v2 vK:Value):(aV m vA vI v0 v1 v2 vK).extract 114 (114+3)=pI (m.sec 1):=by kernel_rfl
theorem j_ (m:Mach) (vA vI v0 v1 v2 vK:Value) (a b:ByteArray) (c:Bool):cR (aV m vA vI v0 v1 v2 vK) 114 #[.string a,.string b,BV c]=aV {m with sec:=dn m.sec 1 ⟨a,b,c⟩} vA vI v0 v1 v2 vK:=by kernel_rfl
theorem kb (m:Mach) (vA vI v0 v1 v2 vK:Value) (t:Two):cR (aV m vA vI v0 v1 v2 vK) 114 (pI t)=aV {m with sec:=dn m.sec 1 t} vA vI v0 v1 v2 vK:=by kernel_rfl
theorem i7 (m:Mach) (vA vI v0 v1 v2 vK:Value):(aV m vA vI v0 v1 v2 vK)[114]? =some (.string (m.sec 1).client):=by kernel_rfl
theorem eo (m:Mach) (vA vI v0 v1 v2 vK:Value):(aV m vA vI v0 v1 v2 vK)[115]? =some (.string (m.sec 1).server):=by kernel_rfl
theorem uv (m:Mach) (vA vI v0 v1 v2 vK:Value):(aV m vA vI v0 v1 v2 vK).extract 117 (117+3)=pI (m.sec 2):=by kernel_rfl
theorem ko (m:Mach) (vA vI v0 v1 v2 vK:Value) (a b:ByteArray) (c:Bool):cR (aV m vA vI v0 v1 v2 vK) 117 #[.string a,.string b,BV c]=aV {m with sec:=dn m.sec 2 ⟨a,b,c⟩} vA vI v0 v1 v2 vK:=by kernel_rfl
theorem j5 (m:Mach) (vA vI v0 v1 v2 vK:Value) (t:Two):cR (aV m vA vI v0 v1 v2 vK) 117 (pI t)=aV {m with sec:=dn m.sec 2 t} vA vI v0 v1 v2 vK:=by kernel_rfl
theorem qz4:type_of% (And.intro @nf (And.intro @nh (And.intro @c_ (And.intro @jD (And.intro @jH (And.intro @j3 (And.intro @jF (And.intro @kq (And.intro @jE (And.intro @jY (And.intro @jR (And.intro @jP (And.intro @jI (And.intro @jX (And.intro @kg (And.intro @jW (And.intro @jJ (And.intro @km (And.intro @j4 (And.intro @jK (And.intro @kt (And.intro @kb (And.intro @j5 (And.intro @j' (And.intro @j_ (@ko)))))))))))))))))))))))))):=And.intro @nf (And.intro @nh (And.intro @c_ (And.intro @jD (And.intro @jH (And.intro @j3 (And.intro @jF (And.intro @kq (And.intro @jE (And.intro @jY (And.intro @jR (And.intro @jP (And.intro @jI (And.intro @jX (And.intro @kg (And.intro @jW (And.intro @jJ (And.intro @km (And.intro @j4 (And.intro @jK (And.intro @kt (And.intro @kb (And.intro @j5 (And.intro @j' (And.intro @j_ (@ko)))))))))))))))))))))))))
theorem vP (m:Mach) (vA vI v0 v1 v2 vK:Value):(aV m vA vI v0 v1 v2 vK).extract 2 (2+32)=a9 32 m.c.random:=by kernel_rfl
theorem xR (c:Cfg):(fZ c).extract 2 (2+32)=a9 32 c.random:=by kernel_rfl
theorem dZ (m:Mach) (vA vI v0 v1 v2 vK:Value):(aV m vA vI v0 v1 v2 vK).extract 34 (34+32)=a9 32 m.c.key:=by kernel_rfl
theorem sD (c:Cfg):(fZ c).extract 34 (34+32)=a9 32 c.key:=by kernel_rfl
theorem jv (m:Mach) (vA vI v0 v1 v2 vK:Value):(aV m vA vI v0 v1 v2 vK).extract 66 (66+32)=a9 32 m.c.ownk:=by kernel_rfl
theorem oL (c:Cfg):(fZ c)[0]? =some (.string c.proto):=by kernel_rfl
theorem rD (c:Cfg):(fZ c)[1]? =some (.string c.params):=by kernel_rfl
theorem e9 (c:Cfg):(fZ c)[98]? =some (.string c.ticket):=by kernel_rfl
theorem fU (c:Cfg):(fZ c)[99]? =some (.string c.secret):=by kernel_rfl
theorem qJ (c:Cfg):(fZ c)[100]? =some (.string c.sealk):=by kernel_rfl
end Go.Proofs.YtomjbepgbnbgmaaDoor
namespace Go.Proofs.YtomjbepgbnbgmaaDoor
open Go
open List (getD_cons_zero getD_cons_succ set_cons_zero set_cons_succ)
theorem qO (b:Nat→UInt8) (w:World):aZ Tryd.prog 36 #[.agg (a9 32 b)] w fun v w'=>v= .agg (bf 5 (o_ b))∧Chg [] w w':=by
 refine aZ.enter Tryd.func36 rfl ?_;simp only[Tryd.ntmps36,fe,Nat.reduceAdd,Nat.reduceSub];have hH:=Hp.start [] w;refine wp_seq_k fun K1 hK1=>ak [.x 0,.x 1] ?_;refine aX rfl rfl hH rfl ?_;clear hH;intro b2 w3 hH;simp only[qz0,Value.cells]at hH⊢;refine au rfl rfl hH iF ?_;clear hH;intro b4 w5 hH;simp only[qz0,Value.cells]at hH⊢;refine aa hH fun w6 hH=>hK1 _ _ (wp_seq_k fun K7 hK7=>ak [.x 0] ?_);refine au rfl rfl hH iF ?_;clear hH;intro b8 w9 hH;simp only[qz0,Value.cells]at hH⊢;refine aa hH fun w10 hH=>hK7 _ _ (wp_seq_k fun K11 hK11=>wp_seq_k fun K12 hK12=>ak [.p 0] ?_);refine pk 0 ?_;simp only[nf];refine aa hH fun w13 hH=>hK12 _ _ (wp_block ?_);obtain⟨kc14,hkc15,hN⟩:=hH.name 0 rfl;replace hH:=hN;clear hN;simp only[List.set_cons_zero,List.set_cons_succ]at hH;obtain⟨kc16,hkc17,hN⟩:=hH.name 1 rfl;replace hH:=hN;clear hN;simp only[List.set_cons_zero,List.set_cons_succ]at hH;refine bd [5] [4,6,7,8,9,10,11,12,13,14,15,16,17,18,19,20,21,22,23,24,25,26,27,28] (fun(n18:Nat) (vs:List Value) (w':World)=>∃(i:Nat),vs=[bb (i:Nat)]∧Hp [] w w' [(some b2,22,kc14),(some b4,72,kc16),(some b8,72,bf 5 (yP b i))]∧n18=255 - i∧i≤255) (255 - 0) (by kernel_rfl) ?_ ?_
 ·simp only[ga];refine⟨0,rfl,?_,rfl,?_⟩
  ·exact hH
  · omega
 clear hH;intro n18 vs19 w20 hR21 d0;obtain⟨i,rfl,hH,hn22,hf23⟩:=hR21;simp only[bG,c6,List.set_cons_zero,List.set_cons_succ,Nat.zero_add,Nat.reduceAdd];subst hkc15 hkc17;refine wp_seq_k fun K24 hK24=>ak [.p 0] ?_;refine pp rfl rfl (ac rfl rfl (by exact aJ (n:=255))) ?_;simp only[nf];refine aa hH fun w25 hH=>hK24 _ _ (wp_seq_k fun K26 hK26=>wp_cond_split rfl (fun hc27=>?_) (fun hc27=>?_))
 ·simp only[dm]at hc27;refine wp_skip (hK26 _ _ (wp_seq_k fun K28 hK28=>wp_block (wp_seq_k fun K29 hK29=>ak [.p 0,.p 1] ?_)));refine pm (pa ?_);simp only[nf];refine aa hH fun w30 hH=>hK29 _ _ (en [.p 0,.p 1,.p 2,.p 3,.p 5,.p 6,.p 7,.p 9,.p 10,.p 14,.p 15,.p 18,.q 4,.q 8,.p 11,.p 12,.p 13,.p 16,.p 17,.p 19,.e 20] ?_);refine pm ?_;simp only[nf];refine pp rfl rfl (ac rfl rfl (by first|exact gz (n:=51) (by omega) (by omega))) ?_;simp only[nf];refine pp rfl rfl (ab 0 rfl Tryd.underlying72 rfl rfl dz) ?_;simp only[nf];refine pp rfl rfl (aq rfl rfl Tryd.underlying70 bz (by omega)) ?_;simp only[nf];refine pm ?_;simp only[nf];refine pp rfl rfl (ac rfl rfl (by first|exact gz (n:=8) (by omega) (by omega))) ?_;simp only[nf];refine pp rfl rfl (aq rfl rfl Tryd.underlying22 bL (by omega)) ?_;simp only[nf];refine pm ?_;simp only[nf];refine pp rfl rfl (ac rfl rfl (by first|exact dM (n:=8) (by omega))) ?_;simp only[nf];refine pm ?_;simp only[nf];refine pp rfl rfl (ac rfl rfl (by first|exact dM (n:=51) (by omega))) ?_;simp only[nf];refine pp rfl rfl (ab 0 rfl Tryd.underlying72 rfl rfl dz) ?_;simp only[nf];refine pq rfl rfl (ah rfl Tryd.underlying35 rfl ((hH.blk 2 rfl).cell (bg (by omega)))) ?_;simp only[nf];refine pq rfl rfl (ah rfl Tryd.underlying5 rfl ((hH.blk 0 rfl).cell (bK (by omega)))) ?_;simp only[nf];refine pp rfl rfl (ac rfl rfl (me _ _ _)) ?_;simp only[nf];refine pp rfl rfl (ac rfl rfl (mg _ 1)) ?_;simp only[nf];refine pp rfl rfl (bw rfl (ki _ Tryd.underlying5 Tryd.underlying35)) ?_;simp only[nf];refine pp rfl rfl (ac rfl rfl (kK _ _ _)) ?_;simp only[nf];refine pp rfl rfl (ac rfl rfl (fL _ _)) ?_;simp only[nf];refine pp rfl rfl (aq rfl rfl Tryd.underlying70 bz (by omega)) ?_;simp only[nf];refine am 2 rfl rfl hH rfl rfl rfl rfl bz (by simp<;>omega) ?_;clear hH;intro w31 hH;simp only[qz0,Value.cells]at hH⊢;refine aa hH fun w32 hH=>hK28 _ _ (ak [.p 0,.p 1] ?_);refine pp rfl rfl (ac rfl rfl (by exact aE (n:=1) (by omega))) ?_;simp only[nf];refine pm ?_;simp only[nf];refine aa hH fun w33 hH=>?_;simp only[Exit.then,Exit.inBlock,↓reduceIte,Nat.reduceEqDiff];refine⟨255 - (i+1),?_,_,rfl,by kernel_rfl,?_⟩
  · omega
  simp only[ga];refine⟨i+1,rfl,?_,rfl,?_⟩
  ·exact hH
  · omega
 ·simp only[dm]at hc27;refine wp_exit ?_;simp only[Exit.then,Exit.inBlock,↓reduceIte,Nat.reduceEqDiff];refine hK11 _ _ (wp_seq_k fun K34 hK34=>ak [.q 0,.e 1] ?_);refine pq rfl rfl (aA rfl (hH.blk 2 rfl) Tryd.underlying72 rfl bq (by simp)) ?_;simp only[nf];refine ao 1 rfl rfl hH rfl rfl rfl az bq (by simp) (by simp) ?_;clear hH;intro w35 hH;simp only[qz0,Value.cells]at hH⊢;refine aa hH fun w36 hH=>hK34 _ _ (wp_ret ?_);refine BP.retc rfl rfl (hH.blk 1 rfl) Tryd.underlying72 rfl bq (by simp) ?_;obtain rfl:i=255:=by omega
  exact⟨rfl,hH.chg⟩
theorem fy (f:bF) (w:World):aZ Tryd.prog 61 #[.agg (bf 5 f)] w fun v w'=>v= .agg (bf 5 (eA f))∧Chg [] w w':=by
 refine aZ.enter Tryd.func61 rfl ?_;simp only[Tryd.ntmps61,fe,Nat.reduceAdd,Nat.reduceSub];have hH:=Hp.start [] w;refine wp_seq_k fun K1 hK1=>ak [.x 0,.x 1] ?_;refine aX rfl rfl hH rfl ?_;clear hH;intro b2 w3 hH;simp only[qz0,Value.cells]at hH⊢;refine au rfl rfl hH iF ?_;clear hH;intro b4 w5 hH;simp only[qz0,Value.cells]at hH⊢;refine aa hH fun w6 hH=>hK1 _ _ (wp_seq_k fun K7 hK7=>ak [.p 0] ?_);refine pa ?_;simp only[nf];refine aa hH fun w8 hH=>hK7 _ _ (wp_seq_k fun K9 hK9=>wp_seq_k fun K10 hK10=>ak [.p 0] ?_);refine pk 0 ?_;simp only[nf];refine aa hH fun w11 hH=>hK10 _ _ (wp_block ?_);obtain⟨kc12,hkc13,hN⟩:=hH.name 1 rfl;replace hH:=hN;clear hN;simp only[List.set_cons_zero,List.set_cons_succ]at hH;refine bd [3,5] [4,6,7,8,9,10,11,12,13,14,15,16,17,18,19,20,21,22,23,24,25,26,27,28] (fun(n14:Nat) (vs:List Value) (w':World)=>∃(i:Nat),vs=[db (ia f i).2,bb (i:Nat)]∧Hp [] w w' [(some b2,72,bf 5 (ia f i).1),(some b4,72,kc12)]∧n14=5 - i∧i≤5) (5 - 0) (by kernel_rfl) ?_ ?_
 ·simp only[ga];refine⟨0,rfl,?_,rfl,?_⟩
  ·exact hH
  · omega
 clear hH;intro n14 vs15 w16 hR17 d0;obtain⟨i,rfl,hH,hn18,hf19⟩:=hR17;simp only[bG,c6,List.set_cons_zero,List.set_cons_succ,Nat.zero_add,Nat.reduceAdd];subst hkc13;refine wp_seq_k fun K20 hK20=>ak [.p 0] ?_;refine pp rfl rfl (ac rfl rfl (by exact aJ (n:=5))) ?_;simp only[nf];refine aa hH fun w21 hH=>hK20 _ _ (wp_seq_k fun K22 hK22=>wp_cond_split rfl (fun hc23=>?_) (fun hc23=>?_))
 ·simp only[dm]at hc23;refine wp_skip (hK22 _ _ (wp_seq_k fun K24 hK24=>wp_block (wp_seq_k fun K25 hK25=>ak [.p 0,.p 1] ?_)));refine pm (pa ?_);simp only[nf];refine aa hH fun w26 hH=>hK25 _ _ (wp_seq_k fun K27 hK27=>ak [.p 0,.p 1,.p 2,.q 3,.p 4,.p 5,.p 6,.p 7,.e 8] ?_);refine pm ?_;simp only[nf];refine pp rfl rfl (ab 0 rfl Tryd.underlying72 rfl rfl dz) ?_;simp only[nf];refine pp rfl rfl (aq rfl rfl Tryd.underlying70 bz (by omega)) ?_;simp only[nf];refine pq rfl rfl (ah rfl Tryd.underlying35 rfl ((hH.blk 0 rfl).cell (bg (by omega)))) ?_;simp only[nf];refine pm ?_;simp only[nf];refine pp rfl rfl (ac rfl rfl (bQ _ _)) ?_;simp only[nf];refine pp rfl rfl (ab 0 rfl Tryd.underlying72 rfl rfl dz) ?_;simp only[nf];refine pp rfl rfl (aq rfl rfl Tryd.underlying70 bz (by omega)) ?_;simp only[nf];refine am 0 rfl rfl hH rfl rfl rfl rfl bz (by simp<;>omega) ?_;clear hH;intro w28 hH;simp only[qz0,Value.cells]at hH⊢;refine aa hH fun w29 hH=>hK27 _ _ (wp_seq_k fun K30 hK30=>ak [.p 0,.p 1,.p 2,.q 3,.p 4,.p 5] ?_);refine pm ?_;simp only[nf];refine pp rfl rfl (ab 0 rfl Tryd.underlying72 rfl rfl dz) ?_;simp only[nf];refine pp rfl rfl (aq rfl rfl Tryd.underlying70 bz (by omega)) ?_;simp only[nf];refine pq rfl rfl (ah rfl Tryd.underlying35 rfl ((hH.blk 0 rfl).cell (bg (by omega)))) ?_;simp only[nf];refine pp rfl rfl (ac rfl rfl (bY 51 51 (by decide) rfl _)) ?_;simp only[nf];refine pa ?_;simp only[nf];refine aa hH fun w31 hH=>hK30 _ _ (ak [.p 0,.p 1,.p 2,.q 3,.p 4,.p 5,.p 6,.e 7] ?_);refine pm ?_;simp only[nf];refine pp rfl rfl (ab 0 rfl Tryd.underlying72 rfl rfl dz) ?_;simp only[nf];refine pp rfl rfl (aq rfl rfl Tryd.underlying70 bz (by omega)) ?_;simp only[nf];refine pq rfl rfl (ah rfl Tryd.underlying35 rfl ((hH.blk 0 rfl).cell (bg (by omega)))) ?_;simp only[nf];refine pp rfl rfl (ac rfl rfl (bJ _ 2251799813685247)) ?_;simp only[nf];refine pp rfl rfl (ab 0 rfl Tryd.underlying72 rfl rfl dz) ?_;simp only[nf];refine pp rfl rfl (aq rfl rfl Tryd.underlying70 bz (by omega)) ?_;simp only[nf];refine am 0 rfl rfl hH rfl rfl rfl rfl bz (by simp<;>omega) ?_;clear hH;intro w32 hH;simp only[qz0,Value.cells]at hH⊢;refine aa hH fun w33 hH=>hK24 _ _ (ak [.p 0,.p 1] ?_);refine pp rfl rfl (ac rfl rfl (by exact aE (n:=1) (by omega))) ?_;simp only[nf];refine pm ?_;simp only[nf];refine aa hH fun w34 hH=>?_;simp only[Exit.then,Exit.inBlock,↓reduceIte,Nat.reduceEqDiff];refine⟨5 - (i+1),?_,_,rfl,by kernel_rfl,?_⟩
  · omega
  simp only[ga];refine⟨i+1,rfl,?_,rfl,?_⟩
  ·exact hH
  · omega
 ·simp only[dm]at hc23;refine wp_exit ?_;simp only[Exit.then,Exit.inBlock,↓reduceIte,Nat.reduceEqDiff];refine hK9 _ _ (wp_seq_k fun K35 hK35=>ak [.p 0,.p 1,.q 2,.p 3,.p 4,.p 5,.p 6,.p 7,.e 8] ?_);refine pp rfl rfl (ab 0 rfl Tryd.underlying72 rfl rfl dz) ?_;simp only[nf];refine pp rfl rfl (aq (i:=0) rfl rfl Tryd.underlying70 bz (by omega)) ?_;simp only[nf];refine pq rfl rfl (ah rfl Tryd.underlying35 rfl ((hH.blk 0 rfl).cell (bg (by omega)))) ?_;simp only[nf];refine pm ?_;simp only[nf];refine pp rfl rfl (ac rfl rfl (dq 19 _)) ?_;simp only[nf];refine pp rfl rfl (ac rfl rfl (bQ _ _)) ?_;simp only[nf];refine pp rfl rfl (ab 0 rfl Tryd.underlying72 rfl rfl dz) ?_;simp only[nf];refine pp rfl rfl (aq (i:=0) rfl rfl Tryd.underlying70 bz (by omega)) ?_;simp only[nf];refine am 0 rfl rfl hH rfl rfl rfl rfl bz (by simp<;>omega) ?_;clear hH;intro w36 hH;simp only[qz0,Value.cells]at hH⊢;refine aa hH fun w37 hH=>hK35 _ _ (wp_seq_k fun K38 hK38=>ak [.q 0,.e 1] ?_);refine pq rfl rfl (aA rfl (hH.blk 0 rfl) Tryd.underlying72 rfl bq (by simp)) ?_;simp only[nf];refine ao 1 rfl rfl hH rfl rfl rfl az bq (by simp) (by simp) ?_;clear hH;intro w39 hH;simp only[qz0,Value.cells]at hH⊢;refine aa hH fun w40 hH=>hK38 _ _ (wp_ret ?_);refine BP.retc rfl rfl (hH.blk 1 rfl) Tryd.underlying72 rfl bq (by simp) ?_;obtain rfl:i=5:=by omega
  exact⟨rfl,hH.chg⟩
theorem rR (f:bF) (w:World):aZ Tryd.prog 43 #[.agg (bf 5 f)] w fun v w'=>v= .agg (a9 32 (g_ f))∧Chg [] w w':=by
 refine aZ.enter Tryd.func43 rfl ?_;simp only[Tryd.ntmps43,fe,Nat.reduceAdd,Nat.reduceSub];have hH:=Hp.start [] w;refine wp_seq_k fun K1 hK1=>ak [.x 0,.x 1] ?_;refine aX rfl rfl hH rfl ?_;clear hH;intro b2 w3 hH;simp only[qz0,Value.cells]at hH⊢;refine au rfl rfl hH eF ?_;clear hH;intro b4 w5 hH;simp only[qz0,Value.cells]at hH⊢;refine aa hH fun w6 hH=>hK1 _ _ (wp_seq_k fun K7 hK7=>ak [.q 0,.q 1,.q 2,.q 3,.e 4] ?_);refine pq rfl rfl (aA rfl (hH.blk 0 rfl) Tryd.underlying72 rfl bq (by simp)) ?_;simp only[nf];refine pq rfl rfl (aj xb (fun w' hw=>fy _ w') rfl) ?_;simp only[nf];refine pq rfl rfl (aj xb (fun w' hw=>fy _ w') rfl) ?_;simp only[nf];refine pq rfl rfl (aj xb (fun w' hw=>fy _ w') rfl) ?_;simp only[nf];refine ao 0 rfl rfl hH rfl rfl rfl az bq (by simp) (by simp) ?_;clear hH;intro w8 hH;simp only[qz0,Value.cells]at hH⊢;refine aa hH fun w9 hH=>hK7 _ _ (wp_seq_k fun K10 hK10=>ak [.p 0,.p 1,.q 2,.p 3,.p 4] ?_);refine pp rfl rfl (ab 0 rfl Tryd.underlying72 rfl rfl dz) ?_;simp only[nf];refine pp rfl rfl (aq (i:=0) rfl rfl Tryd.underlying70 bz (by omega)) ?_;simp only[nf];refine pq rfl rfl (ah rfl Tryd.underlying35 rfl ((hH.blk 0 rfl).cell (bg (by omega)))) ?_;simp only[nf];refine pp rfl rfl (ac rfl rfl (bQ _ 19)) ?_;simp only[nf];refine pa ?_;simp only[nf];refine aa hH fun w11 hH=>hK10 _ _ (wp_seq_k fun K12 hK12=>wp_seq_k fun K13 hK13=>ak [.p 0] ?_);refine ci 1 ?_;simp only[nf];refine aa hH fun w14 hH=>hK13 _ _ (wp_block ?_);obtain⟨kc15,hkc16,hN⟩:=hH.name 1 rfl;replace hH:=hN;clear hN;simp only[List.set_cons_zero,List.set_cons_succ]at hH;refine bd [3,4] [16,17,18,19,20,21,22,23,24,25,26] (fun(n17:Nat) (vs:List Value) (w':World)=>∃(i:Nat),vs=[db (lU (eA (eA (eA f))) i),bb ((i+1:Nat):Int)]∧Hp [] w w' [(some b2,72,bf 5 (eA (eA (eA f)))),(some b4,22,kc15)]∧n17=4 - i∧i≤4) (4 - 0) (by kernel_rfl) ?_ ?_
 ·simp only[ga];refine⟨0,rfl,?_,rfl,?_⟩
  ·exact hH
  · omega
 clear hH;intro n17 vs18 w19 hR20 d0;obtain⟨i,rfl,hH,hn21,hf22⟩:=hR20;simp only[bG,c6,List.set_cons_zero,List.set_cons_succ,Nat.zero_add,Nat.reduceAdd];subst hkc16;refine wp_seq_k fun K23 hK23=>wp_seq_k fun K24 hK24=>ak [.p 0,.p 1] ?_;refine pm ?_;simp only[nf];refine pp rfl rfl (ac rfl rfl (by exact aJ (n:=5))) ?_;simp only[nf];refine aa hH fun w25 hH=>hK24 _ _ (wp_cond_split rfl (fun hc26=>?_) (fun hc26=>?_))
 ·simp only[dm]at hc26;refine wp_skip (hK23 _ _ (wp_seq_k fun K27 hK27=>wp_block (ak [.p 0,.p 1,.p 2,.q 3,.p 4,.p 5,.p 6,.p 7] ?_)));refine pm ?_;simp only[nf];refine pp rfl rfl (ab 0 rfl Tryd.underlying72 rfl rfl dz) ?_;simp only[nf];refine pp rfl rfl (aq rfl rfl Tryd.underlying70 bz (by omega)) ?_;simp only[nf];refine pq rfl rfl (ah rfl Tryd.underlying35 rfl ((hH.blk 0 rfl).cell (bg (by omega)))) ?_;simp only[nf];refine pm ?_;simp only[nf];refine pp rfl rfl (ac rfl rfl (bY 51 51 (by decide) rfl _)) ?_;simp only[nf];refine pp rfl rfl (ac rfl rfl (bQ _ _)) ?_;simp only[nf];refine pa ?_;simp only[nf];refine aa hH fun w28 hH=>hK27 _ _ (ak [.p 0,.p 1,.p 2] ?_);refine pm ?_;simp only[nf];refine pp rfl rfl (ac rfl rfl (by exact aE (n:=1) (by omega))) ?_;simp only[nf];refine pa ?_;simp only[nf];refine aa hH fun w29 hH=>?_;simp only[Exit.then,Exit.inBlock,↓reduceIte,Nat.reduceEqDiff];refine⟨4 - (i+1),?_,_,rfl,by kernel_rfl,?_⟩
  · omega
  simp only[ga];refine⟨i+1,rfl,?_,rfl,?_⟩
  ·exact hH
  · omega
 ·simp only[dm]at hc26;refine wp_exit ?_;simp only[Exit.then,Exit.inBlock,↓reduceIte,Nat.reduceEqDiff];refine hK12 _ _ (wp_seq_k fun K30 hK30=>ak [.p 0,.p 1,.q 2,.p 3,.p 4,.p 5,.p 6,.p 7,.p 8,.e 9] ?_);refine pp rfl rfl (ab 0 rfl Tryd.underlying72 rfl rfl dz) ?_;simp only[nf];refine pp rfl rfl (aq (i:=0) rfl rfl Tryd.underlying70 bz (by omega)) ?_;simp only[nf];refine pq rfl rfl (ah rfl Tryd.underlying35 rfl ((hH.blk 0 rfl).cell (bg (by omega)))) ?_;simp only[nf];refine pm ?_;simp only[nf];refine pp rfl rfl (ac rfl rfl (bY 51 51 (by decide) rfl _)) ?_;simp only[nf];refine pp rfl rfl (ac rfl rfl (dq 19 _)) ?_;simp only[nf];refine pp rfl rfl (ac rfl rfl (bQ _ _)) ?_;simp only[nf];refine pp rfl rfl (ab 0 rfl Tryd.underlying72 rfl rfl dz) ?_;simp only[nf];refine pp rfl rfl (aq (i:=0) rfl rfl Tryd.underlying70 bz (by omega)) ?_;simp only[nf];refine am 0 rfl rfl hH rfl rfl rfl rfl bz (by simp<;>omega) ?_;clear hH;intro w31 hH;simp only[qz0,Value.cells]at hH⊢;refine aa hH fun w32 hH=>hK30 _ _ (wp_seq_k fun K33 hK33=>wp_seq_k fun K34 hK34=>ak [.p 0] ?_);refine pk 0 ?_;simp only[nf];refine aa hH fun w35 hH=>hK34 _ _ (wp_block ?_);obtain⟨kc36,hkc37,hN⟩:=hH.name 1 rfl;replace hH:=hN;clear hN;simp only[List.set_cons_zero,List.set_cons_succ]at hH;refine bd [36] [5,37,38,39,40,41,42,43,44,45,46,47,48,49,50,51,52,53,54,55,56,57,58,59] (fun(n38:Nat) (vs:List Value) (w':World)=>∃(i:Nat),vs=[bb (i:Nat)]∧Hp [] w w' [(some b2,72,bf 5 (lT (dn (eA (eA (eA f))) 0 ((eA (eA (eA f))) 0+(19:UInt64)*(lU (eA (eA (eA f))) 4>>>51))) i)),(some b4,22,kc36)]∧n38=4 - i∧i≤4) (4 - 0) (by kernel_rfl) ?_ ?_
  ·simp only[ga];refine⟨0,rfl,?_,rfl,?_⟩
   ·obtain rfl:i=4:=by omega
    exact hH
   · omega
  clear hH;intro n38 vs39 w40 hR41 d1;obtain⟨i,rfl,hH,hn42,hf43⟩:=hR41;simp only[bG,c6,List.set_cons_zero,List.set_cons_succ,Nat.zero_add,Nat.reduceAdd];subst hkc37;refine wp_seq_k fun K44 hK44=>ak [.p 0] ?_;refine pp rfl rfl (ac rfl rfl (by exact aJ (n:=4))) ?_;simp only[nf];refine aa hH fun w45 hH=>hK44 _ _ (wp_seq_k fun K46 hK46=>wp_cond_split rfl (fun hc47=>?_) (fun hc47=>?_))
  ·simp only[dm]at hc47;refine wp_skip (hK46 _ _ (wp_seq_k fun K48 hK48=>wp_block (wp_seq_k fun K49 hK49=>ak [.p 0,.p 1] ?_)));refine pm (pa ?_);simp only[nf];refine aa hH fun w50 hH=>hK49 _ _ (wp_seq_k fun K51 hK51=>en [.p 0,.p 1,.p 2,.p 3,.p 5,.p 6,.p 7,.p 11,.q 4,.q 8,.p 9,.p 10,.p 12,.e 13] ?_);refine pm ?_;simp only[nf];refine pp rfl rfl (ac rfl rfl (by exact aE (n:=1) (by omega))) ?_;simp only[nf];refine pp rfl rfl (ab 0 rfl Tryd.underlying72 rfl rfl dz) ?_;simp only[nf];refine pp rfl rfl (aq rfl rfl Tryd.underlying70 bz (by omega)) ?_;simp only[nf];refine pm ?_;simp only[nf];refine pp rfl rfl (ab 0 rfl Tryd.underlying72 rfl rfl dz) ?_;simp only[nf];refine pp rfl rfl (aq rfl rfl Tryd.underlying70 bz (by omega)) ?_;simp only[nf];refine pp rfl rfl (ab 0 rfl Tryd.underlying72 rfl rfl dz) ?_;simp only[nf];refine pq rfl rfl (ah rfl Tryd.underlying35 rfl ((hH.blk 0 rfl).cell (bg (by omega)))) ?_;simp only[nf];refine pq rfl rfl (ah rfl Tryd.underlying35 rfl ((hH.blk 0 rfl).cell (bg (by omega)))) ?_;simp only[nf];refine pp rfl rfl (ac rfl rfl (bY 51 51 (by decide) rfl _)) ?_;simp only[nf];refine pp rfl rfl (ac rfl rfl (bQ _ _)) ?_;simp only[nf];refine pp rfl rfl (aq rfl rfl Tryd.underlying70 bz (by omega)) ?_;simp only[nf];refine am 0 rfl rfl hH rfl rfl rfl rfl bz (by simp<;>omega) ?_;clear hH;intro w52 hH;simp only[qz0,Value.cells]at hH⊢;refine aa hH fun w53 hH=>hK51 _ _ (ak [.p 0,.p 1,.p 2,.q 3,.p 4,.p 5,.p 6,.e 7] ?_);refine pm ?_;simp only[nf];refine pp rfl rfl (ab 0 rfl Tryd.underlying72 rfl rfl dz) ?_;simp only[nf];refine pp rfl rfl (aq rfl rfl Tryd.underlying70 bz (by omega)) ?_;simp only[nf];refine pq rfl rfl (ah rfl Tryd.underlying35 rfl ((hH.blk 0 rfl).cell (bg (by omega)))) ?_;simp only[nf];refine pp rfl rfl (ac rfl rfl (bJ _ 2251799813685247)) ?_;simp only[nf];refine pp rfl rfl (ab 0 rfl Tryd.underlying72 rfl rfl dz) ?_;simp only[nf];refine pp rfl rfl (aq rfl rfl Tryd.underlying70 bz (by omega)) ?_;simp only[nf];refine am 0 rfl rfl hH rfl rfl rfl rfl bz (by simp<;>omega) ?_;clear hH;intro w54 hH;simp only[qz0,Value.cells]at hH⊢;refine aa hH fun w55 hH=>hK48 _ _ (ak [.p 0,.p 1] ?_);refine pp rfl rfl (ac rfl rfl (by exact aE (n:=1) (by omega))) ?_;simp only[nf];refine pm ?_;simp only[nf];refine aa hH fun w56 hH=>?_;simp only[Exit.then,Exit.inBlock,↓reduceIte,Nat.reduceEqDiff];refine⟨4 - (i+1),?_,_,rfl,by kernel_rfl,?_⟩
   · omega
   simp only[ga];refine⟨i+1,rfl,?_,rfl,?_⟩
   ·exact hH
   · omega
  ·simp only[dm]at hc47;refine wp_exit ?_;simp only[Exit.then,Exit.inBlock,↓reduceIte,Nat.reduceEqDiff];refine hK33 _ _ (wp_seq_k fun K57 hK57=>ak [.p 0,.p 1,.q 2,.p 3,.p 4,.p 5,.e 6] ?_);refine pp rfl rfl (ab 0 rfl Tryd.underlying72 rfl rfl dz) ?_;simp only[nf];refine pp rfl rfl (aq (i:=4) rfl rfl Tryd.underlying70 bz (by omega)) ?_;simp only[nf];refine pq rfl rfl (ah rfl Tryd.underlying35 rfl ((hH.blk 0 rfl).cell (bg (by omega)))) ?_;simp only[nf];refine pp rfl rfl (ac rfl rfl (bJ _ 2251799813685247)) ?_;simp only[nf];refine pp rfl rfl (ab 0 rfl Tryd.underlying72 rfl rfl dz) ?_;simp only[nf];refine pp rfl rfl (aq (i:=4) rfl rfl Tryd.underlying70 bz (by omega)) ?_;simp only[nf];refine am 0 rfl rfl hH rfl rfl rfl rfl bz (by simp<;>omega) ?_;clear hH;intro w58 hH;simp only[qz0,Value.cells]at hH⊢;refine aa hH fun w59 hH=>hK57 _ _ (wp_seq_k fun K60 hK60=>ak [.x 0] ?_);refine au rfl rfl hH eF ?_;clear hH;intro b61 w62 hH;simp only[qz0,Value.cells]at hH⊢;refine aa hH fun w63 hH=>hK60 _ _ (wp_seq_k fun K64 hK64=>wp_seq_k fun K65 hK65=>ak [.p 0] ?_);refine pk 0 ?_;simp only[nf];refine aa hH fun w66 hH=>hK65 _ _ (wp_block ?_);obtain⟨kc67,hkc68,hN⟩:=hH.name 1 rfl;replace hH:=hN;clear hN;simp only[List.set_cons_zero,List.set_cons_succ]at hH;refine bd [66] [7,67,68,69,70,71,72,73,74,75,76,77,78,79,80,81,82,83,84,85,86,87,88] (fun(n69:Nat) (vs:List Value) (w':World)=>∃(i:Nat),vs=[bb (i:Nat)]∧Hp [] w w' [(some b2,72,bf 5 (xn (eA (eA (eA f))))),(some b4,22,kc67),(some b61,22,a9 32 (od (xn (eA (eA (eA f)))) i))]∧n69=255 - i∧i≤255) (255 - 0) (by kernel_rfl) ?_ ?_
   ·simp only[ga];refine⟨0,rfl,?_,rfl,?_⟩
    ·obtain rfl:i=4:=by omega
     exact hH
    · omega
   clear hH;intro n69 vs70 w71 hR72 d2;obtain⟨i,rfl,hH,hn73,hf74⟩:=hR72;simp only[bG,c6,List.set_cons_zero,List.set_cons_succ,Nat.zero_add,Nat.reduceAdd];subst hkc68;refine wp_seq_k fun K75 hK75=>ak [.p 0] ?_;refine pp rfl rfl (ac rfl rfl (by exact aJ (n:=255))) ?_;simp only[nf];refine aa hH fun w76 hH=>hK75 _ _ (wp_seq_k fun K77 hK77=>wp_cond_split rfl (fun hc78=>?_) (fun hc78=>?_))
   ·simp only[dm]at hc78;refine wp_skip (hK77 _ _ (wp_seq_k fun K79 hK79=>wp_block (wp_seq_k fun K80 hK80=>ak [.p 0,.p 1] ?_)));refine pm (pa ?_);simp only[nf];refine aa hH fun w81 hH=>hK80 _ _ (en [.p 0,.p 1,.p 2,.p 4,.p 5,.p 6,.p 7,.p 9,.p 10,.p 14,.p 15,.q 3,.q 8,.p 11,.p 12,.p 13,.p 16,.p 17,.p 18,.e 19] ?_);refine pm ?_;simp only[nf];refine pp rfl rfl (ac rfl rfl (by first|exact gz (n:=8) (by omega) (by omega))) ?_;simp only[nf];refine pp rfl rfl (aq rfl rfl Tryd.underlying22 bL (by omega)) ?_;simp only[nf];refine pm ?_;simp only[nf];refine pp rfl rfl (ac rfl rfl (by first|exact gz (n:=51) (by omega) (by omega))) ?_;simp only[nf];refine pp rfl rfl (ab 0 rfl Tryd.underlying72 rfl rfl dz) ?_;simp only[nf];refine pp rfl rfl (aq rfl rfl Tryd.underlying70 bz (by omega)) ?_;simp only[nf];refine pm ?_;simp only[nf];refine pp rfl rfl (ac rfl rfl (by first|exact dM (n:=51) (by omega))) ?_;simp only[nf];refine pm ?_;simp only[nf];refine pp rfl rfl (ac rfl rfl (by first|exact dM (n:=8) (by omega))) ?_;simp only[nf];refine pq rfl rfl (ah rfl Tryd.underlying5 rfl ((hH.blk 2 rfl).cell (bK (by omega)))) ?_;simp only[nf];refine pq rfl rfl (ah rfl Tryd.underlying35 rfl ((hH.blk 0 rfl).cell (bg (by omega)))) ?_;simp only[nf];refine pp rfl rfl (ac rfl rfl (d6 _ _ _)) ?_;simp only[nf];refine pp rfl rfl (ac rfl rfl (bJ _ 1)) ?_;simp only[nf];refine pp rfl rfl (bw rfl (iH _ Tryd.underlying35 Tryd.underlying5)) ?_;simp only[nf];refine pp rfl rfl (ac rfl rfl (pP _ _ _)) ?_;simp only[nf];refine pp rfl rfl (ac rfl rfl (qs _ _)) ?_;simp only[nf];refine pp rfl rfl (aq rfl rfl Tryd.underlying22 bL (by omega)) ?_;simp only[nf];refine am 2 rfl rfl hH rfl rfl rfl rfl bL (by simp<;>omega) ?_;clear hH;intro w82 hH;simp only[qz0,Value.cells]at hH⊢;refine aa hH fun w83 hH=>hK79 _ _ (ak [.p 0,.p 1] ?_);refine pp rfl rfl (ac rfl rfl (by exact aE (n:=1) (by omega))) ?_;simp only[nf];refine pm ?_;simp only[nf];refine aa hH fun w84 hH=>?_;simp only[Exit.then,Exit.inBlock,↓reduceIte,Nat.reduceEqDiff];refine⟨255 - (i+1),?_,_,rfl,by kernel_rfl,?_⟩
    · omega
    simp only[ga];refine⟨i+1,rfl,?_,rfl,?_⟩
    ·exact hH
    · omega
   ·simp only[dm]at hc78;refine wp_exit ?_;simp only[Exit.then,Exit.inBlock,↓reduceIte,Nat.reduceEqDiff];refine hK64 _ _ (wp_seq_k fun K85 hK85=>ak [.q 0,.e 1] ?_);refine pq rfl rfl (aA rfl (hH.blk 2 rfl) Tryd.underlying22 rfl bp (by simp)) ?_;simp only[nf];refine ao 1 rfl rfl hH rfl rfl rfl bj bp (by simp) (by simp) ?_;clear hH;intro w86 hH;simp only[qz0,Value.cells]at hH⊢;refine aa hH fun w87 hH=>hK85 _ _ (wp_ret ?_);refine BP.retc rfl rfl (hH.blk 1 rfl) Tryd.underlying22 rfl bp (by simp) ?_;obtain rfl:i=255:=by omega
    exact⟨rfl,hH.chg⟩
theorem jT (f g:bF) (w:World):aZ Tryd.prog 57 #[.agg (bf 5 f),.agg (bf 5 g)] w fun v w'=>v= .agg (bf 5 (tW f g))∧Chg [] w w':=by
 refine aZ.enter Tryd.func57 rfl ?_;simp only[Tryd.ntmps57,fe,Nat.reduceAdd,Nat.reduceSub];have hH:=Hp.start [] w;refine wp_seq_k fun K1 hK1=>ak [.x 0,.x 1,.x 2] ?_;refine aX rfl rfl hH rfl ?_;clear hH;intro b2 w3 hH;simp only[qz0,Value.cells]at hH⊢;refine aX rfl rfl hH rfl ?_;clear hH;intro b4 w5 hH;simp only[qz0,Value.cells]at hH⊢;refine au rfl rfl hH iF ?_;clear hH;intro b6 w7 hH;simp only[qz0,Value.cells]at hH⊢;refine aa hH fun w8 hH=>hK1 _ _ (wp_seq_k fun K9 hK9=>wp_seq_k fun K10 hK10=>ak [.p 0] ?_);refine pk 0 ?_;simp only[nf];refine aa hH fun w11 hH=>hK10 _ _ (wp_block ?_);obtain⟨kc12,hkc13,hN⟩:=hH.name 1 rfl;replace hH:=hN;clear hN;simp only[List.set_cons_zero,List.set_cons_succ]at hH;obtain⟨kc14,hkc15,hN⟩:=hH.name 2 rfl;replace hH:=hN;clear hN;simp only[List.set_cons_zero,List.set_cons_succ]at hH;refine bd [6] [5,7,8,9,10,11,12,13,14,15,16,17,18,19,20] (fun(n16:Nat) (vs:List Value) (w':World)=>∃(i:Nat),vs=[bb (i:Nat)]∧Hp [] w w' [(some b2,72,bf 5 (ow f g i)),(some b4,72,kc12),(some b6,72,kc14)]∧n16=5 - i∧i≤5) (5 - 0) (by kernel_rfl) ?_ ?_
 ·simp only[ga];refine⟨0,rfl,?_,rfl,?_⟩
  ·exact hH
  · omega
 clear hH;intro n16 vs17 w18 hR19 d0;obtain⟨i,rfl,hH,hn20,hf21⟩:=hR19;simp only[bG,c6,List.set_cons_zero,List.set_cons_succ,Nat.zero_add,Nat.reduceAdd];subst hkc13 hkc15;refine wp_seq_k fun K22 hK22=>ak [.p 0] ?_;refine pp rfl rfl (ac rfl rfl (aJ (n:=5))) ?_;simp only[nf];refine aa hH fun w23 hH=>hK22 _ _ (wp_seq_k fun K24 hK24=>wp_cond_split rfl (fun hc25=>?_) (fun hc25=>?_))
 ·simp only[dm]at hc25;refine wp_skip (hK24 _ _ (wp_seq_k fun K26 hK26=>wp_block (wp_seq_k fun K27 hK27=>ak [.p 0,.p 1] ?_)));refine pm (pa ?_);simp only[nf];refine aa hH fun w28 hH=>hK27 _ _ (en [.p 0,.p 1,.p 2,.p 4,.p 5,.p 6,.p 9,.q 3,.q 7,.p 8,.p 10,.e 11] ?_);refine pm (pp rfl rfl (ab 0 rfl Tryd.underlying72 rfl rfl dz) (pp rfl rfl (aq rfl rfl Tryd.underlying70 bz (by omega)) (pm (pp rfl rfl (ab 0 rfl Tryd.underlying72 rfl rfl dz) (pp rfl rfl (aq rfl rfl Tryd.underlying70 bz (by omega)) ?_)))));simp only[nf];refine pp rfl rfl (ab 0 rfl Tryd.underlying72 rfl rfl dz) (pq rfl rfl (ah rfl Tryd.underlying35 rfl ((hH.blk 0 rfl).cell (bg (by omega)))) (pq rfl rfl (ah rfl Tryd.underlying35 rfl ((hH.blk 1 rfl).cell (bg (by omega)))) (pp rfl rfl (ac rfl rfl (bQ _ _)) ?_)));simp only[nf];refine pp rfl rfl (aq rfl rfl Tryd.underlying70 bz (by omega)) ?_;simp only[nf];refine am 0 rfl rfl hH rfl rfl rfl rfl bz (by simp<;>omega) ?_;clear hH;intro w29 hH;simp only[qz0,Value.cells]at hH⊢;refine aa hH fun w30 hH=>hK26 _ _ (ak [.p 0,.p 1] ?_);refine pp rfl rfl (ac rfl rfl (aE (n:=1) (by omega))) (pm ?_);simp only[nf];refine aa hH fun w31 hH=>?_;simp only[Exit.then,Exit.inBlock,↓reduceIte,Nat.reduceEqDiff];refine⟨5 - (i+1),?_,_,rfl,by kernel_rfl,?_⟩
  · omega
  simp only[ga];refine⟨i+1,rfl,?_,rfl,?_⟩
  ·exact hH
  · omega
 ·simp only[dm]at hc25;refine wp_exit ?_;simp only[Exit.then,Exit.inBlock,↓reduceIte,Nat.reduceEqDiff];refine hK9 _ _ (wp_seq_k fun K32 hK32=>ak [.q 0,.q 1,.e 2] ?_);refine pq rfl rfl (aA rfl (hH.blk 0 rfl) Tryd.underlying72 rfl bq (by simp)) (pq rfl rfl (aj xb (fun w' hw=>fy _ w') rfl) ?_);simp only[nf];refine ao 2 rfl rfl hH rfl rfl rfl az bq (by simp) (by simp) ?_;clear hH;intro w33 hH;simp only[qz0,Value.cells]at hH⊢;refine aa hH fun w34 hH=>hK32 _ _ (wp_ret ?_);refine BP.retc rfl rfl (hH.blk 2 rfl) Tryd.underlying72 rfl bq (by simp) ?_;obtain rfl:i=5:=by omega
  exact⟨rfl,hH.chg⟩
theorem kh (f g:bF) (w:World):aZ Tryd.prog 58 #[.agg (bf 5 f),.agg (bf 5 g)] w fun v w'=>v= .agg (bf 5 (tt f g))∧Chg [] w w':=by
 refine aZ.enter Tryd.func58 rfl ?_;simp only[Tryd.ntmps58,fe,Nat.reduceAdd,Nat.reduceSub];have hH:=Hp.start [] w;refine wp_seq_k fun K1 hK1=>ak [.x 0,.x 1,.x 2] ?_;refine aX rfl rfl hH rfl ?_;clear hH;intro b2 w3 hH;simp only[qz0,Value.cells]at hH⊢;refine aX rfl rfl hH rfl ?_;clear hH;intro b4 w5 hH;simp only[qz0,Value.cells]at hH⊢;refine au rfl rfl hH iF ?_;clear hH;intro b6 w7 hH;simp only[qz0,Value.cells]at hH⊢;refine aa hH fun w8 hH=>hK1 _ _ (wp_seq_k fun K9 hK9=>wp_seq_k fun K10 hK10=>ak [.p 0] ?_);refine pk 0 ?_;simp only[nf];refine aa hH fun w11 hH=>hK10 _ _ (wp_block ?_);obtain⟨kc12,hkc13,hN⟩:=hH.name 1 rfl;replace hH:=hN;clear hN;simp only[List.set_cons_zero,List.set_cons_succ]at hH;obtain⟨kc14,hkc15,hN⟩:=hH.name 2 rfl;replace hH:=hN;clear hN;simp only[List.set_cons_zero,List.set_cons_succ]at hH;refine bd [7] [5,6,8,9,10,11,12,13,14,15,16,17,18,19,20,21,22,23,24,25,26,27] (fun(n16:Nat) (vs:List Value) (w':World)=>∃(i:Nat),vs=[bb (i:Nat)]∧Hp [] w w' [(some b2,72,bf 5 (kB f g i)),(some b4,72,kc12),(some b6,72,kc14)]∧n16=5 - i∧i≤5) (5 - 0) (by kernel_rfl) ?_ ?_
 ·simp only[ga];refine⟨0,rfl,?_,rfl,?_⟩
  ·exact hH
  · omega
 clear hH;intro n16 vs17 w18 hR19 d0;obtain⟨i,rfl,hH,hn20,hf21⟩:=hR19;simp only[bG,c6,List.set_cons_zero,List.set_cons_succ,Nat.zero_add,Nat.reduceAdd];subst hkc13 hkc15;refine wp_seq_k fun K22 hK22=>ak [.p 0] ?_;refine pp rfl rfl (ac rfl rfl (by exact aJ (n:=5))) ?_;simp only[nf];refine aa hH fun w23 hH=>hK22 _ _ (wp_seq_k fun K24 hK24=>wp_cond_split rfl (fun hc25=>?_) (fun hc25=>?_))
 ·simp only[dm]at hc25;refine wp_skip (hK24 _ _ (wp_seq_k fun K26 hK26=>wp_block (wp_seq_k fun K27 hK27=>ak [.p 0,.p 1] ?_)));refine pm (pa ?_);simp only[nf];refine aa hH fun w28 hH=>hK27 _ _ (wp_seq_k fun K29 hK29=>ak [.p 0] ?_);refine pa ?_;simp only[nf];refine aa hH fun w30 hH=>?_;rw[show(Value.int IntKind.u64 9007199254740988)=db 9007199254740988 from rfl];refine hK29 _ _ (wp_seq_k fun K31 hK31=>wp_seq_k fun K32 hK32=>ak [.p 0,.p 1] ?_);refine pm ?_;simp only[nf];refine pp rfl rfl (ac rfl rfl (by exact aS (n:=0))) ?_;simp only[nf];refine aa hH fun w33 hH=>hK32 _ _ (wp_cond_split rfl (fun hc34=>?_) (fun hc34=>?_))
  ·simp only[dm]at hc34;obtain rfl:i=0:=by omega
   refine ak [.p 0,.p 1,.p 2] ?_;refine pm ?_;simp only[nf];refine pp rfl rfl (ac rfl rfl (gG _ 72)) ?_;simp only[nf];refine pa ?_;simp only[nf];refine aa hH fun w35 hH=>hK31 _ _ (en [.p 0,.p 1,.p 2,.p 4,.p 5,.p 6,.p 7,.p 11,.q 3,.q 8,.p 9,.p 10,.p 12,.e 13] ?_);refine pm ?_;simp only[nf];refine pp rfl rfl (ab 0 rfl Tryd.underlying72 rfl rfl dz) ?_;simp only[nf];refine pp rfl rfl (aq rfl rfl Tryd.underlying70 bz (by omega)) ?_;simp only[nf];refine pm (pm ?_);simp only[nf];refine pp rfl rfl (ab 0 rfl Tryd.underlying72 rfl rfl dz) ?_;simp only[nf];refine pp rfl rfl (aq rfl rfl Tryd.underlying70 bz (by omega)) ?_;simp only[nf];refine pp rfl rfl (ab 0 rfl Tryd.underlying72 rfl rfl dz) ?_;simp only[nf];refine pq rfl rfl (ah rfl Tryd.underlying35 rfl ((hH.blk 0 rfl).cell (bg (by omega)))) ?_;simp only[nf];refine pq rfl rfl (ah rfl Tryd.underlying35 rfl ((hH.blk 1 rfl).cell (bg (by omega)))) ?_;simp only[nf];refine pp rfl rfl (ac rfl rfl (gG _ _)) ?_;simp only[nf];refine pp rfl rfl (ac rfl rfl (bQ _ _)) ?_;simp only[nf];refine pp rfl rfl (aq rfl rfl Tryd.underlying70 bz (by omega)) ?_;simp only[nf];refine am 0 rfl rfl hH rfl rfl rfl rfl bz (by simp<;>omega) ?_;clear hH;intro w36 hH;simp only[qz0,Value.cells]at hH⊢;refine aa hH fun w37 hH=>hK26 _ _ (ak [.p 0,.p 1] ?_);refine pp rfl rfl (ac rfl rfl (by exact aE (n:=1) (by omega))) ?_;simp only[nf];refine pm ?_;simp only[nf];refine aa hH fun w38 hH=>?_;simp only[Exit.then,Exit.inBlock,↓reduceIte,Nat.reduceEqDiff];refine⟨5 - (0+1),?_,_,rfl,by kernel_rfl,?_⟩
   · omega
   simp only[ga];refine⟨0+1,rfl,?_,rfl,?_⟩
   ·exact hH
   · omega
  ·simp only[dm]at hc34;have hm:most i=9007199254740988:=if_neg (by omega);refine wp_skip (hK31 _ _ (en [.p 0,.p 1,.p 2,.p 4,.p 5,.p 6,.p 7,.p 11,.q 3,.q 8,.p 9,.p 10,.p 12,.e 13] ?_));refine pm ?_;simp only[nf];refine pp rfl rfl (ab 0 rfl Tryd.underlying72 rfl rfl dz) ?_;simp only[nf];refine pp rfl rfl (aq rfl rfl Tryd.underlying70 bz (by omega)) ?_;simp only[nf];refine pm (pm ?_);simp only[nf];refine pp rfl rfl (ab 0 rfl Tryd.underlying72 rfl rfl dz) ?_;simp only[nf];refine pp rfl rfl (aq rfl rfl Tryd.underlying70 bz (by omega)) ?_;simp only[nf];refine pp rfl rfl (ab 0 rfl Tryd.underlying72 rfl rfl dz) ?_;simp only[nf];refine pq rfl rfl (ah rfl Tryd.underlying35 rfl ((hH.blk 0 rfl).cell (bg (by omega)))) ?_;simp only[nf];refine pq rfl rfl (ah rfl Tryd.underlying35 rfl ((hH.blk 1 rfl).cell (bg (by omega)))) ?_;simp only[nf];refine pp rfl rfl (ac rfl rfl (gG _ _)) ?_;simp only[nf];refine pp rfl rfl (ac rfl rfl (bQ _ _)) ?_;simp only[nf];refine pp rfl rfl (aq rfl rfl Tryd.underlying70 bz (by omega)) ?_;simp only[nf];refine am 0 rfl rfl hH rfl rfl rfl rfl bz (by simp<;>omega) ?_;clear hH;intro w39 hH;simp only[qz0,Value.cells]at hH⊢;refine aa hH fun w40 hH=>hK26 _ _ (ak [.p 0,.p 1] ?_);refine pp rfl rfl (ac rfl rfl (by exact aE (n:=1) (by omega))) ?_;simp only[nf];refine pm ?_;simp only[nf];refine aa hH fun w41 hH=>?_;simp only[Exit.then,Exit.inBlock,↓reduceIte,Nat.reduceEqDiff];refine⟨5 - (i+1),?_,_,rfl,by kernel_rfl,?_⟩
   · omega
   simp only[ga];refine⟨i+1,rfl,?_,rfl,?_⟩
   ·rw[show kB f g (i+1)=dn (kB f g i) i (kB f g i i+(9007199254740988 - g i))by rw[kB,hm]];exact hH
   · omega
 ·simp only[dm]at hc25;refine wp_exit ?_;simp only[Exit.then,Exit.inBlock,↓reduceIte,Nat.reduceEqDiff];refine hK9 _ _ (wp_seq_k fun K42 hK42=>ak [.q 0,.q 1,.e 2] ?_);refine pq rfl rfl (aA rfl (hH.blk 0 rfl) Tryd.underlying72 rfl bq (by simp)) ?_;simp only[nf];refine pq rfl rfl (aj xb (fun w' hw=>fy _ w') rfl) ?_;simp only[nf];refine ao 2 rfl rfl hH rfl rfl rfl az bq (by simp) (by simp) ?_;clear hH;intro w43 hH;simp only[qz0,Value.cells]at hH⊢;refine aa hH fun w44 hH=>hK42 _ _ (wp_ret ?_);refine BP.retc rfl rfl (hH.blk 2 rfl) Tryd.underlying72 rfl bq (by simp) ?_;obtain rfl:i=5:=by omega
  exact⟨rfl,hH.chg⟩
theorem nn (x y:UInt64) (w:World):(callFunc 60 #[db x,db y,.int .u64 0]).run Tryd.prog w= .ok (.value (.tuple #[db (x+y),db (qj x y)])) w:=by
  rw[run_callFunc_extern (fn:=Tryd.f60) Tryd.func60 (by kernel_rfl) (by kernel_rfl) (by kernel_rfl) (e:=add64Entry) (by kernel_rfl),run_add64 x.toNat y.toNat 0 (by omega) (by omega) (by omega) (by omega)];have hx:=x.toNat_lt;have hy:=y.toNat_lt;have e1:((x.toNat:Int)+y.toNat+0)%18446744073709551616=((x+y).toNat:Int):=by rw[UInt64.toNat_add];omega
  have e2:((x.toNat:Int)+y.toNat+0)/18446744073709551616=((qj x y).toNat:Int):=by
    unfold qj;rw[UInt64.toNat_ofNat_of_lt' (by have:UInt64.size=18446744073709551616:=rfl;omega)];omega
  rw[e1,e2];rfl
theorem n5 (x y:UInt64) (w:World):aZ Tryd.prog 59 #[db x,db y] w fun v w'=>v= .tuple #[db (xq x y),db (x*y)]∧Chg [] w w':=by
 refine aZ.enter Tryd.func59 rfl ?_;simp only[Tryd.ntmps59,fe,Nat.reduceAdd,Nat.reduceSub];have hH:=Hp.start [] w;refine wp_seq_k fun K1 hK1=>ak [.p 0,.p 1] ?_;refine pa (pa ?_);simp only[nf];refine aa hH fun w2 hH=>hK1 _ _ (wp_seq_k fun K3 hK3=>ak [.p 0,.p 1,.p 2] ?_);refine pm ?_;simp only[nf];refine pp rfl rfl (ac rfl rfl (bJ _ 4294967295)) ?_;simp only[nf];refine pa ?_;simp only[nf];refine aa hH fun w4 hH=>hK3 _ _ (wp_seq_k fun K5 hK5=>ak [.p 0,.p 1,.p 2] ?_);refine pm ?_;simp only[nf];refine pp rfl rfl (ac rfl rfl (bY 32 32 (by decide) rfl _)) ?_;simp only[nf];refine pa ?_;simp only[nf];refine aa hH fun w6 hH=>hK5 _ _ (wp_seq_k fun K7 hK7=>ak [.p 0,.p 1,.p 2] ?_);refine pm ?_;simp only[nf];refine pp rfl rfl (ac rfl rfl (bJ _ 4294967295)) ?_;simp only[nf];refine pa ?_;simp only[nf];refine aa hH fun w8 hH=>hK7 _ _ (wp_seq_k fun K9 hK9=>ak [.p 0,.p 1,.p 2] ?_);refine pm ?_;simp only[nf];refine pp rfl rfl (ac rfl rfl (bY 32 32 (by decide) rfl _)) ?_;simp only[nf];refine pa ?_;simp only[nf];refine aa hH fun w10 hH=>hK9 _ _ (wp_seq_k fun K11 hK11=>ak [.p 0,.p 1,.p 2,.p 3] ?_);refine pm (pm ?_);simp only[nf];refine pp rfl rfl (ac rfl rfl (dq _ _)) ?_;simp only[nf];refine pa ?_;simp only[nf];refine aa hH fun w12 hH=>hK11 _ _ (wp_seq_k fun K13 hK13=>ak [.p 0,.p 1,.p 2,.p 3,.p 4,.p 5,.p 6] ?_);refine pm (pm ?_);simp only[nf];refine pp rfl rfl (ac rfl rfl (dq _ _)) ?_;simp only[nf];refine pm ?_;simp only[nf];refine pp rfl rfl (ac rfl rfl (bY 32 32 (by decide) rfl _)) ?_;simp only[nf];refine pp rfl rfl (ac rfl rfl (bQ _ _)) ?_;simp only[nf];refine pa ?_;simp only[nf];refine aa hH fun w14 hH=>hK13 _ _ (wp_seq_k fun K15 hK15=>ak [.p 0,.p 1,.p 2] ?_);refine pm ?_;simp only[nf];refine pp rfl rfl (ac rfl rfl (bJ _ 4294967295)) ?_;simp only[nf];refine pa ?_;simp only[nf];refine aa hH fun w16 hH=>hK15 _ _ (wp_seq_k fun K17 hK17=>ak [.p 0,.p 1,.p 2] ?_);refine pm ?_;simp only[nf];refine pp rfl rfl (ac rfl rfl (bY 32 32 (by decide) rfl _)) ?_;simp only[nf];refine pa ?_;simp only[nf];refine aa hH fun w18 hH=>hK17 _ _ (wp_seq_k fun K19 hK19=>ak [.p 0,.p 1,.p 2,.p 3,.p 4,.p 5] ?_);refine pm (pm (pm ?_));simp only[nf];refine pp rfl rfl (ac rfl rfl (dq _ _)) ?_;simp only[nf];refine pp rfl rfl (ac rfl rfl (bQ _ _)) ?_;simp only[nf];refine pa ?_;simp only[nf];refine aa hH fun w20 hH=>hK19 _ _ (wp_seq_k fun K21 hK21=>ak [.p 0,.p 1,.p 2,.p 3,.p 4,.p 5,.p 6,.p 7,.p 8] ?_);refine pm (pm ?_);simp only[nf];refine pp rfl rfl (ac rfl rfl (dq _ _)) ?_;simp only[nf];refine pm ?_;simp only[nf];refine pp rfl rfl (ac rfl rfl (bQ _ _)) ?_;simp only[nf];refine pm ?_;simp only[nf];refine pp rfl rfl (ac rfl rfl (bY 32 32 (by decide) rfl _)) ?_;simp only[nf];refine pp rfl rfl (ac rfl rfl (bQ _ _)) ?_;simp only[nf];refine pa ?_;simp only[nf];refine aa hH fun w22 hH=>hK21 _ _ (wp_seq_k fun K23 hK23=>ak [.p 0,.p 1,.p 2,.p 3] ?_);refine pm (pm ?_);simp only[nf];refine pp rfl rfl (ac rfl rfl (dq _ _)) ?_;simp only[nf];refine pa ?_;simp only[nf];refine aa hH fun w24 hH=>hK23 _ _ (wp_ret ?_);refine BP.ret2 rfl rfl rfl ?_;rw[zM];exact⟨rfl,hH.chg⟩
theorem dg (f g:bF) (w:World):aZ Tryd.prog 41 #[.agg (bf 5 f),.agg (bf 5 g)] w fun v w'=>v= .agg (bf 5 (g9 f g))∧Chg [] w w':=by
 refine aZ.enter Tryd.func41 rfl ?_;simp only[Tryd.ntmps41,fe,Nat.reduceAdd,Nat.reduceSub];have hH:=Hp.start [] w;refine wp_seq_k fun K1 hK1=>ak [.x 0,.x 1,.x 2] ?_;refine aX rfl rfl hH rfl ?_;clear hH;intro b2 w3 hH;simp only[qz0,Value.cells]at hH⊢;refine aX rfl rfl hH rfl ?_;clear hH;intro b4 w5 hH;simp only[qz0,Value.cells]at hH⊢;refine au rfl rfl hH iF ?_;clear hH;intro b6 w7 hH;simp only[qz0,Value.cells]at hH⊢;refine aa hH fun w8 hH=>hK1 _ _ (wp_seq_k fun K9 hK9=>ak [.x 0,.x 1] ?_);refine au rfl rfl hH zc70 ?_;clear hH;intro b10 w11 hH;simp only[qz0,Value.cells]at hH⊢;refine au rfl rfl hH zc70 ?_;clear hH;intro b12 w13 hH;simp only[qz0,Value.cells]at hH⊢;refine aa hH fun w14 hH=>hK9 _ _ (wp_seq_k fun K15 hK15=>wp_seq_k fun K16 hK16=>ak [.p 0,.q 1,.p 2] ?_);refine pp rfl rfl (ab 0 rfl Tryd.underlying72 rfl rfl dz) ?_;simp only[nf];refine pq rfl rfl (aA rfl (hH.blk 0 rfl) Tryd.underlying70 rfl dz (by simp)) ?_;simp only[nf];refine pk 0 ?_;simp only[nf];refine aa hH fun w17 hH=>hK16 _ _ (wp_block ?_);obtain⟨kc18,hkc19,hN⟩:=hH.name 0 rfl;replace hH:=hN;clear hN;simp only[List.set_cons_zero,List.set_cons_succ]at hH;obtain⟨kc20,hkc21,hN⟩:=hH.name 1 rfl;replace hH:=hN;clear hN;simp only[List.set_cons_zero,List.set_cons_succ]at hH;obtain⟨kc22,hkc23,hN⟩:=hH.name 2 rfl;replace hH:=hN;clear hN;simp only[List.set_cons_zero,List.set_cons_succ]at hH;refine bd [23] [7,8,9,10,11,12,13,14,24,25,26,27,28,29,30,31,32,33,34,35,36,37,38,39,40,41,42,43,44,45,46,47,48,49,50,51,52,53,54,55,56,57,58,59,60,61,62,63,64,65,66,67] (fun(n24:Nat) (vs:List Value) (w':World)=>∃(i:Nat),vs=[bb (i:Nat)]∧Hp [] w w' [(some b2,72,kc18),(some b4,72,kc20),(some b6,72,kc22),(some b10,70,bf 5 (fW f g i).1),(some b12,70,bf 5 (fW f g i).2)]∧n24=5 - i∧i≤5) (5 - 0) (by kernel_rfl) ?_ ?_
 ·simp only[ga];refine⟨0,rfl,?_,rfl,?_⟩
  ·exact hH
  · omega
 clear hH;intro n24 vs25 w26 hR27 d0;obtain⟨i,rfl,hH,hn28,hf29⟩:=hR27;simp only[bG,c6,List.set_cons_zero,List.set_cons_succ,Nat.zero_add,Nat.reduceAdd];subst hkc19 hkc21 hkc23;refine wp_seq_k fun K30 hK30=>ak [.p 0] ?_;refine pp rfl rfl (ac rfl rfl (by exact aJ (n:=5))) ?_;simp only[nf];refine aa hH fun w31 hH=>hK30 _ _ (wp_seq_k fun K32 hK32=>wp_cond_split rfl (fun hc33=>?_) (fun hc33=>?_))
 ·simp only[dm]at hc33;refine wp_skip (hK32 _ _ (wp_seq_k fun K34 hK34=>wp_block (wp_seq_k fun K35 hK35=>ak [.p 0,.p 1,.p 2,.p 3] ?_)));refine pm ?_;simp only[nf];refine pp rfl rfl (eC rfl rfl Tryd.underlying70 bz (mh Tryd.underlying35 rfl) (by omega) (bg (by omega))) ?_;simp only[nf];refine pa (pa ?_);simp only[nf];refine aa hH fun w36 hH=>hK35 _ _ (wp_seq_k fun K37 hK37=>ak [.p 0,.q 1,.p 2] ?_);refine pp rfl rfl (ab 0 rfl Tryd.underlying72 rfl rfl dz) ?_;simp only[nf];refine pq rfl rfl (aA rfl (hH.blk 1 rfl) Tryd.underlying70 rfl dz (by simp)) ?_;simp only[nf];refine pk 0 ?_;simp only[nf];refine aa hH fun w38 hH=>hK37 _ _ (wp_block ?_);obtain⟨kc39,hkc40,hN⟩:=hH.name 0 rfl;replace hH:=hN;clear hN;simp only[List.set_cons_zero,List.set_cons_succ]at hH;obtain⟨kc41,hkc42,hN⟩:=hH.name 1 rfl;replace hH:=hN;clear hN;simp only[List.set_cons_zero,List.set_cons_succ]at hH;obtain⟨kc43,hkc44,hN⟩:=hH.name 2 rfl;replace hH:=hN;clear hN;simp only[List.set_cons_zero,List.set_cons_succ]at hH;refine bd [29] [9,10,11,12,13,14,30,31,32,33,34,35,36,37,38,39,40,41,42,43,44,45,46,47,48,49,50,51,52,53,54,55,56,57,58,59,60,61,62,63,64,65,66] (fun(n45:Nat) (vs:List Value) (w':World)=>∃(j:Nat),vs=[bb (j:Nat)]∧Hp [] w w' [(some b2,72,kc39),(some b4,72,kc41),(some b6,72,kc43),(some b10,70,bf 5 (mx i (f i) g (fW f g i) j).1),(some b12,70,bf 5 (mx i (f i) g (fW f g i) j).2)]∧n45=5 - j∧j≤5) (5 - 0) (by kernel_rfl) ?_ ?_
  ·simp only[ga];refine⟨0,rfl,?_,rfl,?_⟩
   ·exact hH
   · omega
  clear hH;intro n45 vs46 w47 hR48 d1;obtain⟨j,rfl,hH,hn49,hf50⟩:=hR48;simp only[bG,c6,List.set_cons_zero,List.set_cons_succ,Nat.zero_add,Nat.reduceAdd];subst hkc40 hkc42 hkc44;refine wp_seq_k fun K51 hK51=>ak [.p 0] ?_;refine pp rfl rfl (ac rfl rfl (by exact aJ (n:=5))) ?_;simp only[nf];refine aa hH fun w52 hH=>hK51 _ _ (wp_seq_k fun K53 hK53=>wp_cond_split rfl (fun hc54=>?_) (fun hc54=>?_))
  ·simp only[dm]at hc54;refine wp_skip (hK53 _ _ (wp_seq_k fun K55 hK55=>wp_block (wp_seq_k fun K56 hK56=>ak [.p 0,.p 1,.p 2,.p 3] ?_)));refine pm ?_;simp only[nf];refine pp rfl rfl (eC rfl rfl Tryd.underlying70 bz (mh Tryd.underlying35 rfl) (by omega) (bg (by omega))) ?_;simp only[nf];refine pa (pa ?_);simp only[nf];refine aa hH fun w57 hH=>hK56 _ _ (wp_seq_k fun K58 hK58=>ak [.p 0,.p 1,.p 2,.p 3] ?_);refine pm (pm ?_);simp only[nf];refine pp rfl rfl (ac rfl rfl (by exact aE (by omega))) ?_;simp only[nf];refine pa ?_;simp only[nf];refine aa hH fun w59 hH=>hK58 _ _ (wp_seq_k fun K60 hK60=>wp_seq_k fun K61 hK61=>ak [.p 0,.p 1] ?_);refine pm ?_;simp only[nf];refine pp rfl rfl (ac rfl rfl (by exact de (n:=5))) ?_;simp only[nf];refine aa hH fun w62 hH=>hK61 _ _ (wp_cond_split rfl (fun hc63=>?_) (fun hc63=>?_))
   ·simp only[dm]at hc63;have hk:jM i j=i+j - 5:=if_pos (by omega);have hy:lP i j (g j)=g j*19:=if_pos (by omega);refine wp_seq_k fun K64 hK64=>ak [.p 0,.p 1,.p 2] ?_;refine pm ?_;simp only[nf];refine pp rfl rfl (ac rfl rfl (by exact cj (n:=5) (by omega) (by omega))) ?_;simp only[nf];refine pa ?_;simp only[nf];refine aa hH fun w65 hH=>hK64 _ _ (ak [.p 0,.p 1,.p 2] ?_);refine pm ?_;simp only[nf];refine pp rfl rfl (ac rfl rfl (dq _ 19)) ?_;simp only[nf];refine pa ?_;simp only[nf];refine aa hH fun w66 hH=>hK60 _ _ (wp_seq_k fun K67 hK67=>ak [.p 0,.p 1,.q 2,.p 3,.p 4,.p 5,.p 6,.p 7] ?_);refine pm (pm ?_);simp only[nf];refine pq rfl rfl (aj cf59 (fun w' hw=>n5 _ _ w') rfl) ?_;simp only[nf];refine pm ?_;simp only[nf];refine pp rfl rfl (ai rfl rfl) ?_;simp only[nf];refine pp rfl rfl (ai rfl rfl) ?_;simp only[nf];refine pa (pa ?_);simp only[nf];refine aa hH fun w68 hH=>hK67 _ _ (wp_seq_k fun K69 hK69=>ak [.p 0] ?_);refine pa ?_;simp only[nf];refine aa hH fun w70 hH=>hK69 _ _ (wp_seq_k fun K71 hK71=>ak [.p 0,.p 1,.p 2,.q 3,.p 4,.q 5,.p 6,.p 7,.p 8,.p 9,.e 10,.p 11] ?_);refine pm (pm ?_);simp only[nf];refine pp rfl rfl (aq rfl rfl Tryd.underlying70 bz (by omega)) ?_;simp only[nf];refine pq rfl rfl (ah rfl Tryd.underlying35 rfl ((hH.blk 4 rfl).cell (bg (by omega)))) ?_;simp only[nf];refine pm ?_;simp only[nf];refine pq rfl rfl (uR (fun w'=>nn _ _ w') rfl) ?_;simp only[nf];refine pm ?_;simp only[nf];refine pp rfl rfl (ai rfl rfl) ?_;simp only[nf];refine pp rfl rfl (ai rfl rfl) ?_;simp only[nf];refine pp rfl rfl (aq rfl rfl Tryd.underlying70 bz (by omega)) ?_;simp only[nf];refine am 4 rfl rfl hH rfl rfl rfl rfl bz (by simp<;>omega) ?_;clear hH;intro w72 hH;simp only[qz0,Value.cells]at hH⊢;refine pa ?_;simp only[nf];refine aa hH fun w73 hH=>hK71 _ _ (ak [.p 0,.p 1,.q 2,.p 3,.p 4,.p 5,.p 6,.p 7,.e 8] ?_);refine pm ?_;simp only[nf];refine pp rfl rfl (aq rfl rfl Tryd.underlying70 bz (by omega)) ?_;simp only[nf];refine pq rfl rfl (ah rfl Tryd.underlying35 rfl ((hH.blk 3 rfl).cell (bg (by omega)))) ?_;simp only[nf];refine pm (pm ?_);simp only[nf];refine pp rfl rfl (ac rfl rfl (bQ _ _)) ?_;simp only[nf];refine pp rfl rfl (ac rfl rfl (bQ _ _)) ?_;simp only[nf];refine pp rfl rfl (aq rfl rfl Tryd.underlying70 bz (by omega)) ?_;simp only[nf];refine am 3 rfl rfl hH rfl rfl rfl rfl bz (by simp<;>omega) ?_;clear hH;intro w74 hH;simp only[qz0,Value.cells]at hH⊢;refine aa hH fun w75 hH=>hK55 _ _ (ak [.p 0,.p 1] ?_);refine pp rfl rfl (ac rfl rfl (by exact aE (n:=1) (by omega))) ?_;simp only[nf];refine pm ?_;simp only[nf];refine aa hH fun w76 hH=>?_;simp only[Exit.then,Exit.inBlock,↓reduceIte,Nat.reduceEqDiff];refine⟨5 - (j+1),?_,_,rfl,by kernel_rfl,?_⟩
    · omega
    simp only[ga];refine⟨j+1,rfl,?_,rfl,?_⟩
    ·rw[show mx i (f i) g (fW f g i) (j+1)=t_ i j (f i) (g j) (mx i (f i) g (fW f g i) j)from rfl];unfold t_;rw[hk,hy];exact hH
    · omega
   ·simp only[dm]at hc63;have hk:jM i j=i+j:=if_neg (by omega);have hy:lP i j (g j)=g j:=if_neg (by omega);refine wp_skip (hK60 _ _ (wp_seq_k fun K77 hK77=>ak [.p 0,.p 1,.q 2,.p 3,.p 4,.p 5,.p 6,.p 7] ?_));refine pm (pm ?_);simp only[nf];refine pq rfl rfl (aj cf59 (fun w' hw=>n5 _ _ w') rfl) ?_;simp only[nf];refine pm ?_;simp only[nf];refine pp rfl rfl (ai rfl rfl) ?_;simp only[nf];refine pp rfl rfl (ai rfl rfl) ?_;simp only[nf];refine pa (pa ?_);simp only[nf];refine aa hH fun w78 hH=>hK77 _ _ (wp_seq_k fun K79 hK79=>ak [.p 0] ?_);refine pa ?_;simp only[nf];refine aa hH fun w80 hH=>hK79 _ _ (wp_seq_k fun K81 hK81=>ak [.p 0,.p 1,.p 2,.q 3,.p 4,.q 5,.p 6,.p 7,.p 8,.p 9,.e 10,.p 11] ?_);refine pm (pm ?_);simp only[nf];refine pp rfl rfl (aq rfl rfl Tryd.underlying70 bz (by omega)) ?_;simp only[nf];refine pq rfl rfl (ah rfl Tryd.underlying35 rfl ((hH.blk 4 rfl).cell (bg (by omega)))) ?_;simp only[nf];refine pm ?_;simp only[nf];refine pq rfl rfl (uR (fun w'=>nn _ _ w') rfl) ?_;simp only[nf];refine pm ?_;simp only[nf];refine pp rfl rfl (ai rfl rfl) ?_;simp only[nf];refine pp rfl rfl (ai rfl rfl) ?_;simp only[nf];refine pp rfl rfl (aq rfl rfl Tryd.underlying70 bz (by omega)) ?_;simp only[nf];refine am 4 rfl rfl hH rfl rfl rfl rfl bz (by simp<;>omega) ?_;clear hH;intro w82 hH;simp only[qz0,Value.cells]at hH⊢;refine pa ?_;simp only[nf];refine aa hH fun w83 hH=>hK81 _ _ (ak [.p 0,.p 1,.q 2,.p 3,.p 4,.p 5,.p 6,.p 7,.e 8] ?_);refine pm ?_;simp only[nf];refine pp rfl rfl (aq rfl rfl Tryd.underlying70 bz (by omega)) ?_;simp only[nf];refine pq rfl rfl (ah rfl Tryd.underlying35 rfl ((hH.blk 3 rfl).cell (bg (by omega)))) ?_;simp only[nf];refine pm (pm ?_);simp only[nf];refine pp rfl rfl (ac rfl rfl (bQ _ _)) ?_;simp only[nf];refine pp rfl rfl (ac rfl rfl (bQ _ _)) ?_;simp only[nf];refine pp rfl rfl (aq rfl rfl Tryd.underlying70 bz (by omega)) ?_;simp only[nf];refine am 3 rfl rfl hH rfl rfl rfl rfl bz (by simp<;>omega) ?_;clear hH;intro w84 hH;simp only[qz0,Value.cells]at hH⊢;refine aa hH fun w85 hH=>hK55 _ _ (ak [.p 0,.p 1] ?_);refine pp rfl rfl (ac rfl rfl (by exact aE (n:=1) (by omega))) ?_;simp only[nf];refine pm ?_;simp only[nf];refine aa hH fun w86 hH=>?_;simp only[Exit.then,Exit.inBlock,↓reduceIte,Nat.reduceEqDiff];refine⟨5 - (j+1),?_,_,rfl,by kernel_rfl,?_⟩
    · omega
    simp only[ga];refine⟨j+1,rfl,?_,rfl,?_⟩
    ·rw[show mx i (f i) g (fW f g i) (j+1)=t_ i j (f i) (g j) (mx i (f i) g (fW f g i) j)from rfl];unfold t_;rw[hk,hy];exact hH
    · omega
  ·simp only[dm]at hc54;refine wp_exit ?_;simp only[Exit.then,Exit.inBlock,↓reduceIte,Nat.reduceEqDiff];refine hK34 _ _ (ak [.p 0,.p 1] ?_);refine pp rfl rfl (ac rfl rfl (by exact aE (n:=1) (by omega))) ?_;simp only[nf];refine pm ?_;simp only[nf];refine aa hH fun w87 hH=>?_;simp only[Exit.then,Exit.inBlock,↓reduceIte,Nat.reduceEqDiff];refine⟨5 - (i+1),?_,_,rfl,by kernel_rfl,?_⟩
   · omega
   simp only[ga];refine⟨i+1,rfl,?_,rfl,?_⟩
   ·obtain rfl:j=5:=by omega
    exact hH
   · omega
 ·simp only[dm]at hc33;refine wp_exit ?_;simp only[Exit.then,Exit.inBlock,↓reduceIte,Nat.reduceEqDiff];refine hK15 _ _ (wp_seq_k fun K88 hK88=>ak [.x 0] ?_);refine au rfl rfl hH iF ?_;clear hH;intro b89 w90 hH;simp only[qz0,Value.cells]at hH⊢;refine aa hH fun w91 hH=>hK88 _ _ (wp_seq_k fun K92 hK92=>ak [.p 0] ?_);refine pa ?_;simp only[nf];refine aa hH fun w93 hH=>hK92 _ _ (wp_seq_k fun K94 hK94=>wp_seq_k fun K95 hK95=>ak [.p 0] ?_);refine pk 0 ?_;simp only[nf];refine aa hH fun w96 hH=>hK95 _ _ (wp_block ?_);obtain⟨kc97,hkc98,hN⟩:=hH.name 0 rfl;replace hH:=hN;clear hN;simp only[List.set_cons_zero,List.set_cons_succ]at hH;obtain⟨kc99,hkc100,hN⟩:=hH.name 1 rfl;replace hH:=hN;clear hN;simp only[List.set_cons_zero,List.set_cons_succ]at hH;obtain⟨kc101,hkc102,hN⟩:=hH.name 2 rfl;replace hH:=hN;clear hN;simp only[List.set_cons_zero,List.set_cons_succ]at hH;refine bd [16,68] [17,18,19,20,69,70,71,72,73,74,75,76,77,78,79,80,81,82,83,84,85,86,87,88,89,90,91,92,93,94] (fun(n103:Nat) (vs:List Value) (w':World)=>∃(k:Nat),vs=[db (fB (fW f g 5) k).2,bb (k:Nat)]∧Hp [] w w' [(some b2,72,kc97),(some b4,72,kc99),(some b6,72,kc101),(some b10,70,bf 5 (fW f g 5).1),(some b12,70,bf 5 (fW f g 5).2),(some b89,72,bf 5 (fB (fW f g 5) k).1)]∧n103=5 - k∧k≤5) (5 - 0) (by kernel_rfl) ?_ ?_
  ·simp only[ga];refine⟨0,rfl,?_,rfl,?_⟩
   ·obtain rfl:i=5:=by omega
    exact hH
   · omega
  clear hH;intro n103 vs104 w105 hR106 d2;obtain⟨k,rfl,hH,hn107,hf108⟩:=hR106;simp only[bG,c6,List.set_cons_zero,List.set_cons_succ,Nat.zero_add,Nat.reduceAdd];subst hkc98 hkc100 hkc102;refine wp_seq_k fun K109 hK109=>ak [.p 0] ?_;refine pp rfl rfl (ac rfl rfl (by exact aJ (n:=5))) ?_;simp only[nf];refine aa hH fun w110 hH=>hK109 _ _ (wp_seq_k fun K111 hK111=>wp_cond_split rfl (fun hc112=>?_) (fun hc112=>?_))
  ·simp only[dm]at hc112;refine wp_skip (hK111 _ _ (wp_seq_k fun K113 hK113=>wp_block (wp_seq_k fun K114 hK114=>ak [.p 0,.p 1] ?_)));refine pm (pa ?_);simp only[nf];refine aa hH fun w115 hH=>hK114 _ _ (wp_seq_k fun K116 hK116=>ak [.p 0,.p 1,.q 2,.p 3,.q 4,.p 5,.p 6,.p 7,.p 8,.p 9] ?_);refine pm ?_;simp only[nf];refine pp rfl rfl (aq rfl rfl Tryd.underlying70 bz (by omega)) ?_;simp only[nf];refine pq rfl rfl (ah rfl Tryd.underlying35 rfl ((hH.blk 4 rfl).cell (bg (by omega)))) ?_;simp only[nf];refine pm ?_;simp only[nf];refine pq rfl rfl (uR (fun w'=>nn _ _ w') rfl) ?_;simp only[nf];refine pm ?_;simp only[nf];refine pp rfl rfl (ai rfl rfl) ?_;simp only[nf];refine pp rfl rfl (ai rfl rfl) ?_;simp only[nf];refine pa (pa ?_);simp only[nf];refine aa hH fun w117 hH=>hK116 _ _ (wp_seq_k fun K118 hK118=>ak [.p 0,.p 1,.q 2,.p 3,.p 4,.p 5] ?_);refine pm ?_;simp only[nf];refine pp rfl rfl (aq rfl rfl Tryd.underlying70 bz (by omega)) ?_;simp only[nf];refine pq rfl rfl (ah rfl Tryd.underlying35 rfl ((hH.blk 3 rfl).cell (bg (by omega)))) ?_;simp only[nf];refine pm ?_;simp only[nf];refine pp rfl rfl (ac rfl rfl (bQ _ _)) ?_;simp only[nf];refine pa ?_;simp only[nf];refine aa hH fun w119 hH=>hK118 _ _ (wp_seq_k fun K120 hK120=>ak [.p 0,.p 1,.p 2,.p 3,.p 4,.e 5] ?_);refine pm (pm ?_);simp only[nf];refine pp rfl rfl (ac rfl rfl (bJ _ 2251799813685247)) ?_;simp only[nf];refine pp rfl rfl (ab 0 rfl Tryd.underlying72 rfl rfl dz) ?_;simp only[nf];refine pp rfl rfl (aq rfl rfl Tryd.underlying70 bz (by omega)) ?_;simp only[nf];refine am 5 rfl rfl hH rfl rfl rfl rfl bz (by simp<;>omega) ?_;clear hH;intro w121 hH;simp only[qz0,Value.cells]at hH⊢;refine aa hH fun w122 hH=>hK120 _ _ (ak [.p 0,.p 1,.p 2,.p 3,.p 4,.p 5] ?_);refine pm ?_;simp only[nf];refine pp rfl rfl (ac rfl rfl (d8 13 13 (by decide) rfl _)) ?_;simp only[nf];refine pm ?_;simp only[nf];refine pp rfl rfl (ac rfl rfl (bY 51 51 (by decide) rfl _)) ?_;simp only[nf];refine pp rfl rfl (ac rfl rfl (fL _ _)) ?_;simp only[nf];refine pa ?_;simp only[nf];refine aa hH fun w123 hH=>hK113 _ _ (ak [.p 0,.p 1] ?_);refine pp rfl rfl (ac rfl rfl (by exact aE (n:=1) (by omega))) ?_;simp only[nf];refine pm ?_;simp only[nf];refine aa hH fun w124 hH=>?_;simp only[Exit.then,Exit.inBlock,↓reduceIte,Nat.reduceEqDiff];refine⟨5 - (k+1),?_,_,rfl,by kernel_rfl,?_⟩
   · omega
   simp only[ga];refine⟨k+1,rfl,?_,rfl,?_⟩
   ·exact hH
   · omega
  ·simp only[dm]at hc112;refine wp_exit ?_;simp only[Exit.then,Exit.inBlock,↓reduceIte,Nat.reduceEqDiff];refine hK94 _ _ (wp_seq_k fun K125 hK125=>ak [.p 0,.p 1,.q 2,.p 3,.p 4,.p 5,.p 6,.p 7,.p 8,.e 9] ?_);refine pp rfl rfl (ab 0 rfl Tryd.underlying72 rfl rfl dz) ?_;simp only[nf];refine pp rfl rfl (aq (i:=0) rfl rfl Tryd.underlying70 bz (by omega)) ?_;simp only[nf];refine pq rfl rfl (ah rfl Tryd.underlying35 rfl ((hH.blk 5 rfl).cell (bg (by omega)))) ?_;simp only[nf];refine pm ?_;simp only[nf];refine pp rfl rfl (ac rfl rfl (bJ _ 2251799813685247)) ?_;simp only[nf];refine pp rfl rfl (ac rfl rfl (dq 19 _)) ?_;simp only[nf];refine pp rfl rfl (ac rfl rfl (bQ _ _)) ?_;simp only[nf];refine pp rfl rfl (ab 0 rfl Tryd.underlying72 rfl rfl dz) ?_;simp only[nf];refine pp rfl rfl (aq (i:=0) rfl rfl Tryd.underlying70 bz (by omega)) ?_;simp only[nf];refine am 5 rfl rfl hH rfl rfl rfl rfl bz (by simp<;>omega) ?_;clear hH;intro w126 hH;simp only[qz0,Value.cells]at hH⊢;refine aa hH fun w127 hH=>hK125 _ _ (wp_seq_k fun K128 hK128=>ak [.p 0,.p 1,.q 2,.p 3,.p 4,.p 5,.p 6,.p 7,.p 8,.e 9] ?_);refine pp rfl rfl (ab 0 rfl Tryd.underlying72 rfl rfl dz) ?_;simp only[nf];refine pp rfl rfl (aq (i:=1) rfl rfl Tryd.underlying70 bz (by omega)) ?_;simp only[nf];refine pq rfl rfl (ah rfl Tryd.underlying35 rfl ((hH.blk 5 rfl).cell (bg (by omega)))) ?_;simp only[nf];refine pm ?_;simp only[nf];refine pp rfl rfl (ac rfl rfl (bY 51 51 (by decide) rfl _)) ?_;simp only[nf];refine pp rfl rfl (ac rfl rfl (dq 19 _)) ?_;simp only[nf];refine pp rfl rfl (ac rfl rfl (bQ _ _)) ?_;simp only[nf];refine pp rfl rfl (ab 0 rfl Tryd.underlying72 rfl rfl dz) ?_;simp only[nf];refine pp rfl rfl (aq (i:=1) rfl rfl Tryd.underlying70 bz (by omega)) ?_;simp only[nf];refine am 5 rfl rfl hH rfl rfl rfl rfl bz (by simp<;>omega) ?_;clear hH;intro w129 hH;simp only[qz0,Value.cells]at hH⊢;refine aa hH fun w130 hH=>hK128 _ _ (wp_seq_k fun K131 hK131=>ak [.q 0,.q 1,.e 2] ?_);refine pq rfl rfl (aA rfl (hH.blk 5 rfl) Tryd.underlying72 rfl bq (by simp)) ?_;simp only[nf];refine pq rfl rfl (aj xb (fun w' hw=>fy _ w') rfl) ?_;simp only[nf];refine ao 2 rfl rfl hH rfl rfl rfl az bq (by simp) (by simp) ?_;clear hH;intro w132 hH;simp only[qz0,Value.cells]at hH⊢;refine aa hH fun w133 hH=>hK131 _ _ (wp_ret ?_);refine BP.retc rfl rfl (hH.blk 2 rfl) Tryd.underlying72 rfl bq (by simp) ?_;obtain rfl:k=5:=by omega
   exact⟨rfl,hH.chg⟩
theorem vH (f:bF) (w:World):aZ Tryd.prog 42 #[.agg (bf 5 f)] w fun v w'=>v= .agg (bf 5 (An f))∧Chg [] w w':=by
 refine aZ.enter Tryd.func42 rfl ?_;simp only[Tryd.ntmps42,fe,Nat.reduceAdd,Nat.reduceSub];have hH:=Hp.start [] w;refine wp_seq_k fun K1 hK1=>ak [.x 0,.x 1] ?_;refine aX rfl rfl hH rfl ?_;clear hH;intro b2 w3 hH;simp only[qz0,Value.cells]at hH⊢;refine au rfl rfl hH iF ?_;clear hH;intro b4 w5 hH;simp only[qz0,Value.cells]at hH⊢;refine aa hH fun w6 hH=>hK1 _ _ (wp_seq_k fun K7 hK7=>ak [.p 0,.p 1,.x 2,.e 3] ?_);refine pp rfl rfl (aT (by rfl) (Cy 1)) ?_;simp only[nf];refine pp rfl rfl (aT (by rfl) (BW _)) ?_;simp only[nf];refine au rfl rfl hH iF ?_;clear hH;intro b8 w9 hH;simp only[qz0,Value.cells]at hH⊢;refine ao 2 rfl rfl hH rfl rfl rfl az bq (by simp) (by simp) ?_;clear hH;intro w10 hH;simp only[qz0,Value.cells]at hH⊢;refine aa hH fun w11 hH=>hK7 _ _ (wp_seq_k fun K12 hK12=>wp_seq_k fun K13 hK13=>ak [.p 0] ?_);refine ci 254 ?_;simp only[nf];refine aa hH fun w14 hH=>hK13 _ _ (wp_block ?_);obtain⟨kc15,hkc16,hN⟩:=hH.name 0 rfl;replace hH:=hN;clear hN;simp only[List.set_cons_zero,List.set_cons_succ]at hH;obtain⟨kc17,hkc18,hN⟩:=hH.name 1 rfl;replace hH:=hN;clear hN;simp only[List.set_cons_zero,List.set_cons_succ]at hH;refine bd [4] [7,8,9,10,11,12,13,14,15,16,17,18,19,20,21,22] (fun(n19:Nat) (vs:List Value) (w':World)=>∃(m:Nat),vs=[bb ((m:Int) - 1)]∧Hp [] w w' [(some b2,72,kc15),(some b4,72,kc17),(some b8,72,bf 5 (nS f (255 - m)))]∧n19=m∧m≤255) (255) (by kernel_rfl) ?_ ?_
 ·simp only[ga];refine⟨255,rfl,?_,rfl,?_⟩
  ·exact hH
  · omega
 clear hH;intro n19 vs20 w21 hR22 d0;obtain⟨m,rfl,hH,hn23,hf24⟩:=hR22;simp only[bG,c6,List.set_cons_zero,List.set_cons_succ,Nat.zero_add,Nat.reduceAdd];subst hkc16 hkc18;refine wp_seq_k fun K25 hK25=>wp_seq_k fun K26 hK26=>ak [.p 0,.p 1] ?_;refine pm ?_;simp only[nf];refine pp rfl rfl (ac rfl rfl (by exact ik)) ?_;simp only[nf];refine aa hH fun w27 hH=>hK26 _ _ (wp_cond_split rfl (fun hc28=>?_) (fun hc28=>?_))
 ·simp only[qz2]at hc28;obtain⟨i,rfl⟩:∃i,m=i+1:=⟨m - 1,by omega⟩;rw[show(((i+1:Nat):Int) - 1)=(i:Int)by omega];have e:255 - i=(255 - (i+1))+1:=by omega
  refine wp_skip (hK25 _ _ (wp_seq_k fun K29 hK29=>wp_block (wp_seq_k fun K30 hK30=>ak [.q 0,.q 1,.q 2,.e 3] ?_)));refine pq rfl rfl (aA rfl (hH.blk 2 rfl) Tryd.underlying72 rfl bq (by simp)) ?_;simp only[nf];refine pq rfl rfl (aA rfl (hH.blk 2 rfl) Tryd.underlying72 rfl bq (by simp)) ?_;simp only[nf];refine pq rfl rfl (aj ns (fun w' hw=>dg _ _ w') rfl) ?_;simp only[nf];refine ao 2 rfl rfl hH rfl rfl rfl az bq (by simp) (by simp) ?_;clear hH;intro w31 hH;simp only[qz0,Value.cells]at hH⊢;refine aa hH fun w32 hH=>hK30 _ _ (wp_seq_k fun K33 hK33=>ak [.p 0,.p 1,.p 2,.p 3,.p 4,.p 5] ?_);refine pm ?_;simp only[nf];refine pp rfl rfl (ac rfl rfl (by exact an (n:=2))) ?_;simp only[nf];refine pm ?_;simp only[nf];refine a8 rfl rfl rfl (fun hgd=>by have hgd':=hgd;(simp only[cE]at hgd');rw[hgd];exact aw) ?_;simp only[nf];refine a8 rfl rfl rfl (fun hgd=>by have hgd':=hgd;(simp only[cE]at hgd');rw[hgd];exact(ac rfl rfl (by exact an (n:=4)))) ?_;simp only[nf];refine pp rfl rfl (cH rfl rfl rfl) ?_;simp only[nf];refine aa hH fun w34 hH=>hK33 _ _ (wp_cond_split rfl (fun hc35=>?_) (fun hc35=>?_))
  ·simp only[qz2]at hc35;have hn:¬(255 - (i+1)=252∨255 - (i+1)=250):=by omega
   refine ak [.q 0,.q 1,.q 2,.e 3] ?_;refine pq rfl rfl (aA rfl (hH.blk 2 rfl) Tryd.underlying72 rfl bq (by simp)) ?_;simp only[nf];refine pq rfl rfl (aA rfl (hH.blk 0 rfl) Tryd.underlying72 rfl bq (by simp)) ?_;simp only[nf];refine pq rfl rfl (aj ns (fun w' hw=>dg _ _ w') rfl) ?_;simp only[nf];refine ao 2 rfl rfl hH rfl rfl rfl az bq (by simp) (by simp) ?_;clear hH;intro w36 hH;simp only[qz0,Value.cells]at hH⊢;refine aa hH fun w37 hH=>hK29 _ _ (ak [.p 0,.p 1,.p 2] ?_);refine pm ?_;simp only[nf];refine pp rfl rfl (ac rfl rfl (by exact ic (by omega) (by omega))) ?_;simp only[nf];refine pa ?_;simp only[nf];refine aa hH fun w38 hH=>?_;simp only[Exit.then,Exit.inBlock,↓reduceIte,Nat.reduceEqDiff];refine⟨i,?_,_,rfl,by kernel_rfl,?_⟩
   · omega
   simp only[ga];refine⟨i,rfl,?_,rfl,?_⟩
   ·rw[e,nS,if_neg hn];exact hH
   · omega
  ·simp only[qz2]at hc35;have hn:255 - (i+1)=252∨255 - (i+1)=250:=by omega
   refine wp_skip (hK29 _ _ (ak [.p 0,.p 1,.p 2] ?_));refine pm ?_;simp only[nf];refine pp rfl rfl (ac rfl rfl (by exact cj (n:=1) (by omega) (by omega))) ?_;simp only[nf];refine pa ?_;simp only[nf];refine aa hH fun w39 hH=>?_;simp only[Exit.then,Exit.inBlock,↓reduceIte,Nat.reduceEqDiff];rw[show(((i - 1:Nat):Int))=(i:Int) - 1 by omega];refine⟨i,?_,_,rfl,by kernel_rfl,?_⟩
   · omega
   simp only[ga];refine⟨i,rfl,?_,rfl,?_⟩
   ·rw[e,nS,if_pos hn];exact hH
   · omega
 ·simp only[qz2]at hc28;refine wp_exit ?_;simp only[Exit.then,Exit.inBlock,↓reduceIte,Nat.reduceEqDiff];refine hK12 _ _ (wp_seq_k fun K40 hK40=>ak [.q 0,.e 1] ?_);refine pq rfl rfl (aA rfl (hH.blk 2 rfl) Tryd.underlying72 rfl bq (by simp)) ?_;simp only[nf];refine ao 1 rfl rfl hH rfl rfl rfl az bq (by simp) (by simp) ?_;clear hH;intro w41 hH;simp only[qz0,Value.cells]at hH⊢;refine aa hH fun w42 hH=>hK40 _ _ (wp_ret ?_);refine BP.retc rfl rfl (hH.blk 1 rfl) Tryd.underlying72 rfl bq (by simp) ?_;obtain rfl:m=0:=by omega
  exact⟨rfl,hH.chg⟩
theorem vo (f g:bF) (w:World):aZ Tryd.prog 39 #[BV true,.agg (bf 5 f),.agg (bf 5 g)] w fun v w'=>v= .tuple #[.agg (bf 5 g),.agg (bf 5 f)]∧Chg [] w w':=by
 refine aZ.enter Tryd.func39 rfl ?_;simp only[Tryd.ntmps39,fe,Nat.reduceAdd,Nat.reduceSub];have hH:=Hp.start [] w;refine wp_seq_k fun K1 hK1=>ak [.x 0,.x 1,.x 2,.x 3] ?_;refine aX rfl rfl hH rfl ?_;clear hH;intro b2 w3 hH;simp only[qz0,Value.cells]at hH⊢;refine aX rfl rfl hH rfl ?_;clear hH;intro b4 w5 hH;simp only[qz0,Value.cells]at hH⊢;refine au rfl rfl hH iF ?_;clear hH;intro b6 w7 hH;simp only[qz0,Value.cells]at hH⊢;refine au rfl rfl hH iF ?_;clear hH;intro b8 w9 hH;simp only[qz0,Value.cells]at hH⊢;refine aa hH fun w10 hH=>hK1 _ _ (wp_seq_k fun K11 hK11=>ak [.p 0] ?_);refine pa ?_;simp only[nf];refine aa hH fun w12 hH=>?_;rw[show(Value.int IntKind.u64 0)=db 0 from rfl];refine hK11 _ _ (wp_seq_k fun K13 hK13=>wp_seq_k fun K14 hK14=>ak [.p 0] ?_);refine pm ?_;simp only[nf];refine aa hH fun w15 hH=>hK14 _ _ (wp_cond_true rfl (ak [.p 0,.p 1,.p 2] ?_));refine pm ?_;simp only[nf];refine pp rfl rfl (uA rfl) ?_;simp only[nf];refine pa ?_;simp only[nf];refine aa hH fun w16 hH=>?_;rw[show(~~~(0:UInt64))=B_ true from rfl];refine hK13 _ _ (wp_seq_k fun K17 hK17=>wp_seq_k fun K18 hK18=>ak [.p 0] ?_);refine pk 0 ?_;simp only[nf];refine aa hH fun w19 hH=>hK18 _ _ (wp_block ?_);obtain⟨kc20,hkc21,hN⟩:=hH.name 2 rfl;replace hH:=hN;clear hN;simp only[List.set_cons_zero,List.set_cons_succ]at hH;obtain⟨kc22,hkc23,hN⟩:=hH.name 3 rfl;replace hH:=hN;clear hN;simp only[List.set_cons_zero,List.set_cons_succ]at hH;refine bd [14] [9,10,15,16,17,18,19,20,21,22,23,24,25,26,27,28,29,30,31,32,33,34,35,36,37,38,39,40,41,42,43,44] (fun(n24:Nat) (vs:List Value) (w':World)=>∃(i:Nat),vs=[bb (i:Nat)]∧Hp [] w w' [(some b2,72,bf 5 (qC true f g i).1),(some b4,72,bf 5 (qC true f g i).2),(some b6,72,kc20),(some b8,72,kc22)]∧n24=5 - i∧i≤5) (5 - 0) (by kernel_rfl) ?_ ?_
 ·simp only[ga];refine⟨0,rfl,?_,rfl,?_⟩
  ·exact hH
  · omega
 clear hH;intro n24 vs25 w26 hR27 d0;obtain⟨i,rfl,hH,hn28,hf29⟩:=hR27;simp only[bG,c6,List.set_cons_zero,List.set_cons_succ,Nat.zero_add,Nat.reduceAdd];subst hkc21 hkc23;refine wp_seq_k fun K30 hK30=>ak [.p 0] ?_;refine pp rfl rfl (ac rfl rfl (by exact aJ (n:=5))) ?_;simp only[nf];refine aa hH fun w31 hH=>hK30 _ _ (wp_seq_k fun K32 hK32=>wp_cond_split rfl (fun hc33=>?_) (fun hc33=>?_))
 ·simp only[dm]at hc33;refine wp_skip (hK32 _ _ (wp_seq_k fun K34 hK34=>wp_block (wp_seq_k fun K35 hK35=>ak [.p 0,.p 1] ?_)));refine pm (pa ?_);simp only[nf];refine aa hH fun w36 hH=>hK35 _ _ (wp_seq_k fun K37 hK37=>en [.p 0,.p 1,.p 2,.p 4,.p 5,.p 6,.p 9,.q 3,.q 7,.p 8,.p 10,.p 11] ?_);refine pm ?_;simp only[nf];refine pp rfl rfl (ab 0 rfl Tryd.underlying72 rfl rfl dz) ?_;simp only[nf];refine pp rfl rfl (aq rfl rfl Tryd.underlying70 bz (by omega)) ?_;simp only[nf];refine pm ?_;simp only[nf];refine pp rfl rfl (ab 0 rfl Tryd.underlying72 rfl rfl dz) ?_;simp only[nf];refine pp rfl rfl (aq rfl rfl Tryd.underlying70 bz (by omega)) ?_;simp only[nf];refine pm ?_;simp only[nf];refine pq rfl rfl (ah rfl Tryd.underlying35 rfl ((hH.blk 0 rfl).cell (bg (by omega)))) ?_;simp only[nf];refine pq rfl rfl (ah rfl Tryd.underlying35 rfl ((hH.blk 1 rfl).cell (bg (by omega)))) ?_;simp only[nf];refine pp rfl rfl (ac rfl rfl (cd _ _)) ?_;simp only[nf];refine pp rfl rfl (ac rfl rfl (bJ _ _)) ?_;simp only[nf];refine pa ?_;simp only[nf];refine aa hH fun w38 hH=>hK37 _ _ (wp_seq_k fun K39 hK39=>ak [.p 0,.p 1,.p 2,.q 3,.p 4,.p 5,.p 6,.p 7,.e 8] ?_);refine pm ?_;simp only[nf];refine pp rfl rfl (ab 0 rfl Tryd.underlying72 rfl rfl dz) ?_;simp only[nf];refine pp rfl rfl (aq rfl rfl Tryd.underlying70 bz (by omega)) ?_;simp only[nf];refine pq rfl rfl (ah rfl Tryd.underlying35 rfl ((hH.blk 0 rfl).cell (bg (by omega)))) ?_;simp only[nf];refine pm ?_;simp only[nf];refine pp rfl rfl (ac rfl rfl (cd _ _)) ?_;simp only[nf];refine pp rfl rfl (ab 0 rfl Tryd.underlying72 rfl rfl dz) ?_;simp only[nf];refine pp rfl rfl (aq rfl rfl Tryd.underlying70 bz (by omega)) ?_;simp only[nf];refine am 0 rfl rfl hH rfl rfl rfl rfl bz (by simp<;>omega) ?_;clear hH;intro w40 hH;simp only[qz0,Value.cells]at hH⊢;refine aa hH fun w41 hH=>hK39 _ _ (ak [.p 0,.p 1,.p 2,.q 3,.p 4,.p 5,.p 6,.p 7,.e 8] ?_);refine pm ?_;simp only[nf];refine pp rfl rfl (ab 0 rfl Tryd.underlying72 rfl rfl dz) ?_;simp only[nf];refine pp rfl rfl (aq rfl rfl Tryd.underlying70 bz (by omega)) ?_;simp only[nf];refine pq rfl rfl (ah rfl Tryd.underlying35 rfl ((hH.blk 1 rfl).cell (bg (by omega)))) ?_;simp only[nf];refine pm ?_;simp only[nf];refine pp rfl rfl (ac rfl rfl (cd _ _)) ?_;simp only[nf];refine pp rfl rfl (ab 0 rfl Tryd.underlying72 rfl rfl dz) ?_;simp only[nf];refine pp rfl rfl (aq rfl rfl Tryd.underlying70 bz (by omega)) ?_;simp only[nf];refine am 1 rfl rfl hH rfl rfl rfl rfl bz (by simp<;>omega) ?_;clear hH;intro w42 hH;simp only[qz0,Value.cells]at hH⊢;refine aa hH fun w43 hH=>hK34 _ _ (ak [.p 0,.p 1] ?_);refine pp rfl rfl (ac rfl rfl (by exact aE (n:=1) (by omega))) ?_;simp only[nf];refine pm ?_;simp only[nf];refine aa hH fun w44 hH=>?_;simp only[Exit.then,Exit.inBlock,↓reduceIte,Nat.reduceEqDiff];refine⟨5 - (i+1),?_,_,rfl,by kernel_rfl,?_⟩
  · omega
  simp only[ga];refine⟨i+1,rfl,?_,rfl,?_⟩
  ·exact hH
  · omega
 ·simp only[dm]at hc33;refine wp_exit ?_;simp only[Exit.then,Exit.inBlock,↓reduceIte,Nat.reduceEqDiff];refine hK17 _ _ (wp_seq_k fun K45 hK45=>?_);refine bV [2,3] [] (Chg []) (by kernel_rfl) ?_;refine aP.plan (n:=3) Far.grown (by kernel_rfl) (fun _ _ _ _ _ h=>by exact BP.panic _ _ _ _ _ h) [.q 0] [] _ _ (by simp[aY]) (by simp[aK]) (by simp[aW]) (by kernel_rfl) ?_;refine pq rfl rfl (aA rfl (hH.blk 0 rfl) Tryd.underlying72 rfl bq (by simp)) ?_;simp only[nf];refine aa hH fun w46 hH=>?_;refine aP.fork2 Far.grown (n:=2) (.x 1) (.e 2) (by kernel_rfl) (by kernel_rfl) (by simp[aY]) (by simp[aY]) (by kernel_rfl) (by kernel_rfl) ?_ ?_
  ·refine v4 rfl rfl hH (fun w1 hH=>mZ rfl (hH.blk 1 rfl) Tryd.underlying72 rfl bq (by simp)) ?_;clear hH;intro w47 hH;simp only[nf];refine aa hH fun w48 hH=>?_;refine aP.plan (n:=0) Far.grown (by kernel_rfl) (fun _ _ _ _ _ h=>by exact BP.panic _ _ _ _ _ h) [.e 2,.e 3] [1,0] _ _ (by simp[aY]) (by simp[aK]) (by simp[aW]) (by kernel_rfl) ?_;refine ao 2 rfl rfl hH rfl rfl rfl az bq (by simp) (by simp) ?_;clear hH;intro w49 hH;simp only[qz0,Value.cells]at hH⊢;refine ao 3 rfl rfl hH rfl rfl rfl az bq (by simp) (by simp) ?_;clear hH;intro w50 hH;simp only[qz0,Value.cells]at hH⊢;refine aa hH fun w51 hH=>?_;refine aP.done (by kernel_rfl) ?_;intro w52 hw53;replace hH:=hH.call hw53;clear hw53;refine hK45 _ _ (wp_ret ?_);refine BP.retcc rfl rfl rfl (hH.blk 2 rfl) (hH.blk 3 rfl) Tryd.underlying72 Tryd.underlying72 rfl rfl bq bq (by simp) (by simp) ?_;obtain rfl:i=5:=by omega
   exact⟨by rw[tX,r8],hH.chg⟩
  ·refine ao 2 rfl rfl hH rfl rfl rfl az bq (by simp) (by simp) ?_;clear hH;intro w54 hH;simp only[qz0,Value.cells]at hH⊢;refine aa hH fun w55 hH=>?_;refine aP.plan (n:=0) Far.grown (by kernel_rfl) (fun _ _ _ _ _ h=>by exact BP.panic _ _ _ _ _ h) [.q 1,.e 3] [2,0] _ _ (by simp[aY]) (by simp[aK]) (by simp[aW]) (by kernel_rfl) ?_;refine pq rfl rfl (aA rfl (hH.blk 1 rfl) Tryd.underlying72 rfl bq (by simp)) ?_;simp only[nf];refine ao 3 rfl rfl hH rfl rfl rfl az bq (by simp) (by simp) ?_;clear hH;intro w56 hH;simp only[qz0,Value.cells]at hH⊢;refine aa hH fun w57 hH=>?_;refine aP.done (by kernel_rfl) ?_;intro w58 hw59;replace hH:=hH.call hw59;clear hw59;refine hK45 _ _ (wp_ret ?_);refine BP.retcc rfl rfl rfl (hH.blk 2 rfl) (hH.blk 3 rfl) Tryd.underlying72 Tryd.underlying72 rfl rfl bq bq (by simp) (by simp) ?_;obtain rfl:i=5:=by omega
   exact⟨by rw[tX,r8],hH.chg⟩
theorem so (f g:bF) (w:World):aZ Tryd.prog 39 #[BV false,.agg (bf 5 f),.agg (bf 5 g)] w fun v w'=>v= .tuple #[.agg (bf 5 f),.agg (bf 5 g)]∧Chg [] w w':=by
 refine aZ.enter Tryd.func39 rfl ?_;simp only[Tryd.ntmps39,fe,Nat.reduceAdd,Nat.reduceSub];have hH:=Hp.start [] w;refine wp_seq_k fun K1 hK1=>ak [.x 0,.x 1,.x 2,.x 3] ?_;refine aX rfl rfl hH rfl ?_;clear hH;intro b2 w3 hH;simp only[qz0,Value.cells]at hH⊢;refine aX rfl rfl hH rfl ?_;clear hH;intro b4 w5 hH;simp only[qz0,Value.cells]at hH⊢;refine au rfl rfl hH iF ?_;clear hH;intro b6 w7 hH;simp only[qz0,Value.cells]at hH⊢;refine au rfl rfl hH iF ?_;clear hH;intro b8 w9 hH;simp only[qz0,Value.cells]at hH⊢;refine aa hH fun w10 hH=>hK1 _ _ (wp_seq_k fun K11 hK11=>ak [.p 0] ?_);refine pa ?_;simp only[nf];refine aa hH fun w12 hH=>?_;rw[show(Value.int IntKind.u64 0)=db 0 from rfl];refine hK11 _ _ (wp_seq_k fun K13 hK13=>wp_seq_k fun K14 hK14=>ak [.p 0] ?_);refine pm ?_;simp only[nf];refine aa hH fun w15 hH=>hK14 _ _ (wp_cond_false rfl (wp_skip (hK13 _ _ (wp_seq_k fun K16 hK16=>wp_seq_k fun K17 hK17=>ak [.p 0] ?_))));refine pk 0 ?_;simp only[nf];refine aa hH fun w18 hH=>hK17 _ _ (wp_block ?_);obtain⟨kc19,hkc20,hN⟩:=hH.name 2 rfl;replace hH:=hN;clear hN;simp only[List.set_cons_zero,List.set_cons_succ]at hH;obtain⟨kc21,hkc22,hN⟩:=hH.name 3 rfl;replace hH:=hN;clear hN;simp only[List.set_cons_zero,List.set_cons_succ]at hH;refine bd [14] [9,10,15,16,17,18,19,20,21,22,23,24,25,26,27,28,29,30,31,32,33,34,35,36,37,38,39,40,41,42,43,44] (fun(n23:Nat) (vs:List Value) (w':World)=>∃(i:Nat),vs=[bb (i:Nat)]∧Hp [] w w' [(some b2,72,bf 5 (qC false f g i).1),(some b4,72,bf 5 (qC false f g i).2),(some b6,72,kc19),(some b8,72,kc21)]∧n23=5 - i∧i≤5) (5 - 0) (by kernel_rfl) ?_ ?_
 ·simp only[ga];refine⟨0,rfl,?_,rfl,?_⟩
  ·exact hH
  · omega
 clear hH;intro n23 vs24 w25 hR26 d0;obtain⟨i,rfl,hH,hn27,hf28⟩:=hR26;simp only[bG,c6,List.set_cons_zero,List.set_cons_succ,Nat.zero_add,Nat.reduceAdd];subst hkc20 hkc22;refine wp_seq_k fun K29 hK29=>ak [.p 0] ?_;refine pp rfl rfl (ac rfl rfl (by exact aJ (n:=5))) ?_;simp only[nf];refine aa hH fun w30 hH=>hK29 _ _ (wp_seq_k fun K31 hK31=>wp_cond_split rfl (fun hc32=>?_) (fun hc32=>?_))
 ·simp only[dm]at hc32;refine wp_skip (hK31 _ _ (wp_seq_k fun K33 hK33=>wp_block (wp_seq_k fun K34 hK34=>ak [.p 0,.p 1] ?_)));refine pm (pa ?_);simp only[nf];refine aa hH fun w35 hH=>hK34 _ _ (wp_seq_k fun K36 hK36=>en [.p 0,.p 1,.p 2,.p 4,.p 5,.p 6,.p 9,.q 3,.q 7,.p 8,.p 10,.p 11] ?_);refine pm ?_;simp only[nf];refine pp rfl rfl (ab 0 rfl Tryd.underlying72 rfl rfl dz) ?_;simp only[nf];refine pp rfl rfl (aq rfl rfl Tryd.underlying70 bz (by omega)) ?_;simp only[nf];refine pm ?_;simp only[nf];refine pp rfl rfl (ab 0 rfl Tryd.underlying72 rfl rfl dz) ?_;simp only[nf];refine pp rfl rfl (aq rfl rfl Tryd.underlying70 bz (by omega)) ?_;simp only[nf];refine pm ?_;simp only[nf];refine pq rfl rfl (ah rfl Tryd.underlying35 rfl ((hH.blk 0 rfl).cell (bg (by omega)))) ?_;simp only[nf];refine pq rfl rfl (ah rfl Tryd.underlying35 rfl ((hH.blk 1 rfl).cell (bg (by omega)))) ?_;simp only[nf];refine pp rfl rfl (ac rfl rfl (cd _ _)) ?_;simp only[nf];refine pp rfl rfl (ac rfl rfl (bJ _ _)) ?_;simp only[nf];refine pa ?_;simp only[nf];refine aa hH fun w37 hH=>hK36 _ _ (wp_seq_k fun K38 hK38=>ak [.p 0,.p 1,.p 2,.q 3,.p 4,.p 5,.p 6,.p 7,.e 8] ?_);refine pm ?_;simp only[nf];refine pp rfl rfl (ab 0 rfl Tryd.underlying72 rfl rfl dz) ?_;simp only[nf];refine pp rfl rfl (aq rfl rfl Tryd.underlying70 bz (by omega)) ?_;simp only[nf];refine pq rfl rfl (ah rfl Tryd.underlying35 rfl ((hH.blk 0 rfl).cell (bg (by omega)))) ?_;simp only[nf];refine pm ?_;simp only[nf];refine pp rfl rfl (ac rfl rfl (cd _ _)) ?_;simp only[nf];refine pp rfl rfl (ab 0 rfl Tryd.underlying72 rfl rfl dz) ?_;simp only[nf];refine pp rfl rfl (aq rfl rfl Tryd.underlying70 bz (by omega)) ?_;simp only[nf];refine am 0 rfl rfl hH rfl rfl rfl rfl bz (by simp<;>omega) ?_;clear hH;intro w39 hH;simp only[qz0,Value.cells]at hH⊢;refine aa hH fun w40 hH=>hK38 _ _ (ak [.p 0,.p 1,.p 2,.q 3,.p 4,.p 5,.p 6,.p 7,.e 8] ?_);refine pm ?_;simp only[nf];refine pp rfl rfl (ab 0 rfl Tryd.underlying72 rfl rfl dz) ?_;simp only[nf];refine pp rfl rfl (aq rfl rfl Tryd.underlying70 bz (by omega)) ?_;simp only[nf];refine pq rfl rfl (ah rfl Tryd.underlying35 rfl ((hH.blk 1 rfl).cell (bg (by omega)))) ?_;simp only[nf];refine pm ?_;simp only[nf];refine pp rfl rfl (ac rfl rfl (cd _ _)) ?_;simp only[nf];refine pp rfl rfl (ab 0 rfl Tryd.underlying72 rfl rfl dz) ?_;simp only[nf];refine pp rfl rfl (aq rfl rfl Tryd.underlying70 bz (by omega)) ?_;simp only[nf];refine am 1 rfl rfl hH rfl rfl rfl rfl bz (by simp<;>omega) ?_;clear hH;intro w41 hH;simp only[qz0,Value.cells]at hH⊢;refine aa hH fun w42 hH=>hK33 _ _ (ak [.p 0,.p 1] ?_);refine pp rfl rfl (ac rfl rfl (by exact aE (n:=1) (by omega))) ?_;simp only[nf];refine pm ?_;simp only[nf];refine aa hH fun w43 hH=>?_;simp only[Exit.then,Exit.inBlock,↓reduceIte,Nat.reduceEqDiff];refine⟨5 - (i+1),?_,_,rfl,by kernel_rfl,?_⟩
  · omega
  simp only[ga];refine⟨i+1,rfl,?_,rfl,?_⟩
  ·exact hH
  · omega
 ·simp only[dm]at hc32;refine wp_exit ?_;simp only[Exit.then,Exit.inBlock,↓reduceIte,Nat.reduceEqDiff];refine hK16 _ _ (wp_seq_k fun K44 hK44=>?_);refine bV [2,3] [] (Chg []) (by kernel_rfl) ?_;refine aP.plan (n:=3) Far.grown (by kernel_rfl) (fun _ _ _ _ _ h=>by exact BP.panic _ _ _ _ _ h) [.q 0] [] _ _ (by simp[aY]) (by simp[aK]) (by simp[aW]) (by kernel_rfl) ?_;refine pq rfl rfl (aA rfl (hH.blk 0 rfl) Tryd.underlying72 rfl bq (by simp)) ?_;simp only[nf];refine aa hH fun w45 hH=>?_;refine aP.fork2 Far.grown (n:=2) (.x 1) (.e 2) (by kernel_rfl) (by kernel_rfl) (by simp[aY]) (by simp[aY]) (by kernel_rfl) (by kernel_rfl) ?_ ?_
  ·refine v4 rfl rfl hH (fun w1 hH=>mZ rfl (hH.blk 1 rfl) Tryd.underlying72 rfl bq (by simp)) ?_;clear hH;intro w46 hH;simp only[nf];refine aa hH fun w47 hH=>?_;refine aP.plan (n:=0) Far.grown (by kernel_rfl) (fun _ _ _ _ _ h=>by exact BP.panic _ _ _ _ _ h) [.e 2,.e 3] [1,0] _ _ (by simp[aY]) (by simp[aK]) (by simp[aW]) (by kernel_rfl) ?_;refine ao 2 rfl rfl hH rfl rfl rfl az bq (by simp) (by simp) ?_;clear hH;intro w48 hH;simp only[qz0,Value.cells]at hH⊢;refine ao 3 rfl rfl hH rfl rfl rfl az bq (by simp) (by simp) ?_;clear hH;intro w49 hH;simp only[qz0,Value.cells]at hH⊢;refine aa hH fun w50 hH=>?_;refine aP.done (by kernel_rfl) ?_;intro w51 hw52;replace hH:=hH.call hw52;clear hw52;refine hK44 _ _ (wp_ret ?_);refine BP.retcc rfl rfl rfl (hH.blk 2 rfl) (hH.blk 3 rfl) Tryd.underlying72 Tryd.underlying72 rfl rfl bq bq (by simp) (by simp) ?_;obtain rfl:i=5:=by omega
   exact⟨by rw[qY,q6],hH.chg⟩
  ·refine ao 2 rfl rfl hH rfl rfl rfl az bq (by simp) (by simp) ?_;clear hH;intro w53 hH;simp only[qz0,Value.cells]at hH⊢;refine aa hH fun w54 hH=>?_;refine aP.plan (n:=0) Far.grown (by kernel_rfl) (fun _ _ _ _ _ h=>by exact BP.panic _ _ _ _ _ h) [.q 1,.e 3] [2,0] _ _ (by simp[aY]) (by simp[aK]) (by simp[aW]) (by kernel_rfl) ?_;refine pq rfl rfl (aA rfl (hH.blk 1 rfl) Tryd.underlying72 rfl bq (by simp)) ?_;simp only[nf];refine ao 3 rfl rfl hH rfl rfl rfl az bq (by simp) (by simp) ?_;clear hH;intro w55 hH;simp only[qz0,Value.cells]at hH⊢;refine aa hH fun w56 hH=>?_;refine aP.done (by kernel_rfl) ?_;intro w57 hw58;replace hH:=hH.call hw58;clear hw58;refine hK44 _ _ (wp_ret ?_);refine BP.retcc rfl rfl rfl (hH.blk 2 rfl) (hH.blk 3 rfl) Tryd.underlying72 Tryd.underlying72 rfl rfl bq bq (by simp) (by simp) ?_;obtain rfl:i=5:=by omega
   exact⟨by rw[qY,q6],hH.chg⟩
theorem iY (s:Bool) (f g:bF) (w:World):aZ Tryd.prog 39 #[BV s,.agg (bf 5 f),.agg (bf 5 g)] w fun v w'=>v= .tuple #[.agg (bf 5 (if s then g else f)),.agg (bf 5 (if s then f else g))]∧Chg [] w w':=by
  cases s
  · exact so f g w
  · exact vo f g w
end Go.Proofs.YtomjbepgbnbgmaaDoor
