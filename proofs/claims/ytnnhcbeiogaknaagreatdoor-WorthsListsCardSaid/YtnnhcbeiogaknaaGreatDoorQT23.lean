/- Package polys: Sub. -/
import Derived.Test.YtnnhcbeiogaknaaGreatDoorQT22
import Derived.Test.YtnnhcbeiogaknaaGreatDoorQT20
set_option linter.unusedSimpArgs false
set_option linter.unusedVariables false
set_option maxRecDepth 100000
set_option maxHeartbeats 4000000
section
namespace Go.Proofs.YtnnhcbeiogaknaaGreatDoor
open Go.RowKit
theorem yU (w:World) (B:Nat) (a:Option Addr) (n c:Nat) (l:List PT) (h:Bc w B a n c l) (hl:PW l) (K:Nat) (hK:Dd K l) (B':Nat) (a':Option Addr) (n' c':Nat) (l':List PT) (h':Bc w B' a' n' c' l') (hl':PW l') (K':Nat) (hK':Dd K' l')
  (hs:PW (U3 (-1,1) l')) (hsK:Dd K' (U3 (-1,1) l')) (hsn:(U3 (-1,1) l').length≤500000)
  (hKK:K+K'<1000000) (hn:n≤500000) (hn':n'≤400000) (hw:∀k,wtk (Gv (-1,1) l') k≤400000) :
  Calls Tryz.prog 12 #[.slice a n c,.slice a' n' c'] w (Cj w (Vm l l')):=by
 have HS:=Ae (Ay hs (Ay hsK hsn));have HW:=Ae hw;clear hs hsK hsn hw;go_enter Tryz.func12,Tryz.ntmps12;go_wp2_with fail;refine (Fp w (-1) qA qA).mono ?_;rintro e w1 ⟨g1,a1,n1,c1,g2,a2,n2,c2,rfl,hone,hf1,hf2,hap,hb1⟩;have q1:=Cp hone.top qJ;have q2:=Cp hone.low qJ;go_wp2_with fail;refine (Us w1 B' a' n' c' l' (h'.keep hb1) hl' K' hK' qA hn' g1 a1 n1 c1 g2 a2 n2 c2 (-1,1) (fun _=>hone) qA qA HW.out).mono ?_;rintro e w2 ⟨a3,n3,c3,rfl,P3,_,hb2⟩;have B2:=hb1.trans (hb2.mono hb1.size);have hn3:n3≤500000:=by have h1:=P3.len;have h2:=HS.out.2.2;omega
 go_wp2_with fail;refine (Iu w2 B a n c l (h.keep B2) hl K hK _ a3 n3 c3 _ P3 HS.out.1 K' HS.out.2.1 hKK hn hn3).mono ?_;rintro e w3 ⟨a4,n4,c4,rfl,P4,PO,hb3⟩;go_wp2_with fail;refine bodyPost_ret (v:=.slice a4 n4 c4) (by simp [results,Tryz.results12,go_sem]) rfl ?_;have e:Vm l l'=Cr l (U3 (-1,1) l'):=Xx hl HS.out.1;rw [e];exact ⟨a4,n4,c4,rfl,P4.mono B2.size,PO.mono B2.size,B2.trans (hb3.mono B2.size)⟩
theorem rF (w:World) (b:Nat) (s t:Tm) (h0:w.cell? ⟨b,0,none⟩=some (.int .u8 0)) :
  Calls Tryz.prog 301 #[s.val,t.val,.pointer (some ⟨b,0,none⟩)] w (fun e w'=>e=.returned (.int .i64 (Ht s.mono t.mono))∧Below w.heap.size w w'):=by
 have hlt:b<w.heap.size:=Aa _ _ h0;have HB:=Ac w.heap.size w;go_enter Tryz.func301,Tryz.ntmps301;exact qCw
def tm0:Tm:=⟨false,none,0,0,[],false,none,0,0,[],0,0,0,0⟩
theorem dC {s t:Tm} {w:World} (hs:Eb w s) (ht:Eb w t):Ht s.mono t.mono=Bz (Ch s.m0 s.m1 s.m2 s.m3:Nat) (Ch t.m0 t.m1 t.m2 t.m3:Nat) :=
 Nj hs.s0 hs.s1 hs.s2 hs.s3 ht.s0 ht.s1 ht.s2 ht.s3
theorem iY {x y:Int} (h:Bz x y<0):x<y:=by
 unfold Bz at h
 split at h
 ·assumption
 ·split at h<;>omega
theorem gR {w:World} {a:Option Addr} {n c:Nat} {p:Nat→Tm} (hp:RdP w a n c p) (hok:POk p n):∀i,0<i→i<n→Ch (p i).m0 (p i).m1 (p i).m2 (p i).m3<Ch (p 0).m0 (p 0).m1 (p 0).m2 (p 0).m3:=by
 intro i
 induction i with
 | zero=>intro h;omega
 | succ k ih =>
  intro _ hk;have h1:=(hok (k+1) hk).2 qA;rw [dC (hp.tm (k+1) hk) (hp.tm (k+1-1) qA)] at h1;have h2:=iY h1;rw [Nat.add_sub_cancel] at h2;rcases Aq k with h0|h0
  ·subst h0;omega
  ·have:=ih h0 qA;omega
theorem fG (wo:World) (a:Option Addr) (n c:Nat) (p:Nat→Tm) (hp:RdP wo a n c p) (hok:POk p n) (h0:0<n) (b:Nat) (hbx:wo.cell? ⟨b,0,none⟩=some (.int .u8 0)) :
  Calls Tryz.prog 300 #[.slice a n c,.func (.func 301) #[] #[.pointer (some ⟨b,0,none⟩)]] wo (fun e w'=>e=.returned (p 0).val∧Below wo.heap.size wo w'):=by
 have HB:=Ac wo.heap.size wo;have hnf:=hp.few;have HO:=Ae (gR hp hok);clear hok;obtain ⟨gb,go,rfl,hgc⟩:=hp.cell.resolve_left qA;have hgb:gb<wo.heap.size:=Aa _ _ (hgc 0 h0).e0;clear hgc;have hat:=hp.at h0;rw [Nat.zero_mul,Nat.add_zero] at hat;obtain ⟨e0,e1,e2,e3,e4,e5,e6,e7⟩:=hat;go_enter Tryz.func300,Tryz.ntmps300;go_wp2_with fail;go_loopw [6] (fun v6 wr=>∃i:Nat,1≤i∧i≤n∧v6=.int .i64 i∧Db wr wo.heap.size tm0∧Db wr (wo.heap.size+1) (p 0)∧Below wo.heap.size wo wr) (fun v6 _=>n-(intOf v6).toNat)
 case atStart =>
  refine ⟨1,by omega,by omega,rfl,?_,?_,by go_grown⟩
  ·constructor<;>simp [go_sem,tm0]
  ·constructor<;>simp [go_sem]
 case round =>
  obtain ⟨i,hi1,hi,rfl,TZ,TM,HBr⟩:=hrel;clear e0 e1 e2 e3 e4 e5 e6 e7;by_cases hlt:i<n
  ·have hat:=(hp.keep HBr).at hlt;have hx:Ht (p i).mono (p 0).mono=-1:=by
    rw [dC (hp.tm i hlt) (hp.tm 0 h0)];exact Ds (by have:=HO.out i qA hlt;omega)
   have hbr:wr.cell? ⟨b,0,none⟩=some (.int .u8 0):=Bb HBr hbx;have hw7:=TM.lt;have TM':=TM;generalize p i=t at *;generalize p 0=s at *;obtain ⟨e0,e1,e2,e3,e4,e5,e6,e7⟩:=hat;obtain ⟨m0,m1,m2,m3,m4,m5,m6,m7,-,-,-,-,-,-,-,-⟩:=TM;have HB:=Ac wr.heap.size wr;have hi0:(0:Int)≤(i:Int):=by omega
   have hin:(i:Int)<(n:Int):=by omega
   clear hp;go_wp2_with fail;go_region_held3 (fun W=>W.cell? ⟨gb,go+i*8,none⟩=some (.bool t.g1)∧W.cell? ⟨gb,go+i*8+1,none⟩=some (.slice t.a1 t.n1 t.c1)∧W.cell? ⟨gb,go+i*8+2,none⟩=some (.bool t.g2)∧W.cell? ⟨gb,go+i*8+3,none⟩=some (.slice t.a2 t.n2 t.c2)∧W.cell? ⟨gb,go+i*8+4,none⟩=some (.int .u16 t.m0)∧W.cell? ⟨gb,go+i*8+5,none⟩=some (.int .u16 t.m1)∧W.cell? ⟨gb,go+i*8+6,none⟩=some (.int .u16 t.m2)∧W.cell? ⟨gb,go+i*8+7,none⟩=some (.int .u16 t.m3)∧W.cell? ⟨wo.heap.size+1,0,none⟩=some (.bool s.g1)∧W.cell? ⟨wo.heap.size+1,1,none⟩=some (.slice s.a1 s.n1 s.c1)∧W.cell? ⟨wo.heap.size+1,2,none⟩=some (.bool s.g2)∧W.cell? ⟨wo.heap.size+1,3,none⟩=some (.slice s.a2 s.n2 s.c2)∧W.cell? ⟨wo.heap.size+1,4,none⟩=some (.int .u16 s.m0)∧W.cell? ⟨wo.heap.size+1,5,none⟩=some (.int .u16 s.m1)∧W.cell? ⟨wo.heap.size+1,6,none⟩=some (.int .u16 s.m2)∧W.cell? ⟨wo.heap.size+1,7,none⟩=some (.int .u16 s.m3)) (first|((try dsimp only);(repeat' apply Ay);all_goals (first|(with_reducible assumption)|(go_keep;done)|(simp [*,go_sem];done)))) (first
    | (go_at_call 301;(with_reducible refine (rF _ b t s (Bb qF hbr)).mono ?_);rintro e w7 ⟨rfl,hb⟩;have hb7:=zI wr hb;rw [hx];(replace e0:=Bb hb7 e0;replace e1:=Bb hb7 e1;replace e2:=Bb hb7 e2;replace e3:=Bb hb7 e3;replace e4:=Bb hb7 e4;replace e5:=Bb hb7 e5;replace e6:=Bb hb7 e6;replace e7:=Bb hb7 e7;replace m0:=Bb hb7 m0;replace m1:=Bb hb7 m1;replace m2:=Bb hb7 m2;replace m3:=Bb hb7 m3;replace m4:=Bb hb7 m4;replace m5:=Bb hb7 m5;replace m6:=Bb hb7 m6;replace m7:=Bb hb7 m7)))
   go_wp2_with fail;go_roundw
   case rel=>exact ⟨i+1,by omega,by omega,by go_num,TZ.keep hb7,TM'.keep hb7,HBr.trans (hb7.mono HBr.size)⟩
   case measure=>(first|(simp [intOf];omega)|(simp [intOf];done))
  ·obtain rfl:i=n:=by omega
   clear hp;obtain ⟨m0,m1,m2,m3,m4,m5,m6,m7,-,-,-,-,-,-,-,-⟩:=TM;obtain ⟨z0,z1,z2,z3,z4,z5,z6,z7,zf0,zf1,zf2,zf3,zf4,zf5,zf6,zf7⟩:=TZ;go_wp2_with fail;refine bodyPost_ret (v:=(p 0).val) (by simp [*,results,Tryz.results300,go_sem]) rfl ⟨rfl,by go_grown⟩
def bO (w:World) (x:PT) (e:Ending) (w':World):Prop :=
 ∃t:Tm,e=.returned (.tuple #[t.val,.bool true])∧Es t x∧Eb w' t∧Bf w.heap.size w' t.a1 t.c1∧Bf w.heap.size w' t.a2 t.c2∧Below w.heap.size w w'
theorem vE (w:World) (B:Nat) (a:Option Addr) (n c:Nat) (x:PT) (l:List PT) (h:Bc w B a n c (x::l)) (hl:PW (x::l)) (K:Nat) (hK:Dd K (x::l)) (hK1:K≤1000000) :
  Calls Tryz.prog 245 #[.int .u8 0,.slice a n c] w (bO w x):=by
 obtain ⟨p,hp,hpx⟩:=h.ts;have hok:=h.pok hl hp hpx;have hpf:=h.few hK hp hpx;have hlen:n=l.length+1:=by have:=h.len;simpa using this.symm
 have hn0:0<n:=by omega
 have P1:=Ae hok;have P3:Hid (∀k,k<n→(p k).n1≤1000000∧(p k).n2≤1000000):=Ae fun k hk=>by have:=hpf k hk;omega
 have P5:=Ae (hpx 0 x rfl).1;have P7:=Ae (hl.good x qG);have HB:=Ac w.heap.size w;clear hok hpf hpx hlen hl hK;go_enter Tryz.func245,Tryz.ntmps245;go_wp2_with fail;refine (Kl _ a n c p (hp.keep qF) P3.out true ⟨fun _=>rfl,fun _=>P1.out⟩).mono ?_;rintro e w1 ⟨rfl,hb1⟩;rw [if_pos rfl];have O1:B1 w1 w.heap.size (.int .u8 0):=B1.keep (by constructor<;>simp [go_sem]) hb1;have T1:Db w1 (w.heap.size+1) tm0:=Db.keep (by constructor<;>simp [go_sem,tm0]) hb1;have HB1:=zI w hb1;clear hb1 HB;go_wp2_with fail;refine (fG w1 a n c p (hp.keep HB1) P1.out hn0 _ O1.c0).mono ?_;rintro e w2 ⟨rfl,hb2⟩;have T2:=T1.keep hb2;have HB2:=HB1.trans (hb2.mono HB1.size);have hrd0:=hp.tm 0 hn0;have hfr0:=P5.out.frac hrd0 P7.out.1;have hq:=P3.out 0 hn0;clear hb2 T1 HB1 hp P1 P3 O1;generalize p 0=s at *;have hbl:=T2.lt;obtain ⟨z0,z1,z2,z3,z4,z5,z6,z7,zf0,zf1,zf2,zf3,zf4,zf5,zf6,zf7⟩:=T2;go_upto_region 4 with fail
 refine By ?_;intro w3 hw3;have T3:Db w3 (w.heap.size+1) s:=by rw [hw3];constructor<;>simp [*,go_sem]
 have HB3:Below w.heap.size w w3:=by rw [hw3];go_grown
 have hz3:w.heap.size+1<w3.heap.size:=T3.lt;have hfr:=hfr0.keep HB3;clear hw3 z0 z1 z2 z3 z4 z5 z6 z7 zf0 zf1 zf2 zf3 zf4 zf5 zf6 zf7 HB2 hbl;obtain ⟨t0,t1,t2,t3,t4,t5,t6,t7,tf0,tf1,tf2,tf3,tf4,tf5,tf6,tf7⟩:=T3;refine Bx (fun W=>W.cell? ⟨w.heap.size+1,0,none⟩=some (.bool s.g1)∧W.cell? ⟨w.heap.size+1,1,none⟩=some (.slice s.a1 s.n1 s.c1)∧W.cell? ⟨w.heap.size+1,2,none⟩=some (.bool s.g2)∧W.cell? ⟨w.heap.size+1,3,none⟩=some (.slice s.a2 s.n2 s.c2)∧W.cell? ⟨w.heap.size+1,4,none⟩=some (.int .u16 s.m0)∧W.cell? ⟨w.heap.size+1,5,none⟩=some (.int .u16 s.m1)∧W.cell? ⟨w.heap.size+1,6,none⟩=some (.int .u16 s.m2)∧W.cell? ⟨w.heap.size+1,7,none⟩=some (.int .u16 s.m3)) 7 qC qK (fun hHeld=>?_);(refine Bh.take 7 (i:=0) (v:=?_) rfl qC (fun _ _ _ h=>h) (Or.inl ⟨by rfl,?_⟩) qH ?_;rotate_left;(focus (intro w' hSw;(try dsimp only at hSw);go_simp;(try with_reducible rfl)));(try simp only [Act.put,Au,Av,Aw]));(refine Bh.take 7 (i:=1) (v:=?_) rfl qC (fun _ _ _ h=>h) (Or.inl ⟨by rfl,?_⟩) qH ?_;rotate_left;(focus (intro w' hSw;(try dsimp only at hSw);go_simp;(try with_reducible rfl)));(try simp only [Act.put,Au,Av,Aw]));(refine Bh.take 7 (i:=4) (v:=?_) rfl qC (fun _ _ _ h=>h) (Or.inl ⟨by rfl,?_⟩) qH ?_;rotate_left;(focus (intro w' hSw;(try dsimp only at hSw);go_simp;(try with_reducible rfl)));(try simp only [Act.put,Au,Av,Aw]));(refine Bh.take 7 (i:=5) (v:=?_) rfl qC (fun _ _ _ h=>h) (Or.inl ⟨by rfl,?_⟩) qH ?_;rotate_left;(focus (intro w' hSw;(try dsimp only at hSw);go_simp;(try with_reducible rfl)));(try simp only [Act.put,Au,Av,Aw]));(refine Bh.one (i:=2) rfl qC (fun K hK=>?_);go_simp;(go_at_call 10;(with_reducible refine (Fp _ 1 qA qA).mono ?_);rintro e w4 ⟨g7,a7,n7,c7,g8,a8,n8,c8,rfl,hone,hf7,hf8,hap7,hb⟩;have hb4:=zI w3 hb;(replace tf0:=(Ab hb4 (Aa _ _ t0)).trans tf0;replace tf1:=(Ab hb4 (Aa _ _ t1)).trans tf1;replace tf2:=(Ab hb4 (Aa _ _ t2)).trans tf2;replace tf3:=(Ab hb4 (Aa _ _ t3)).trans tf3;replace tf4:=(Ab hb4 (Aa _ _ t4)).trans tf4;replace tf5:=(Ab hb4 (Aa _ _ t5)).trans tf5;replace tf6:=(Ab hb4 (Aa _ _ t6)).trans tf6;replace tf7:=(Ab hb4 (Aa _ _ t7)).trans tf7;replace t0:=Bb hb4 t0;replace t1:=Bb hb4 t1;replace t2:=Bb hb4 t2;replace t3:=Bb hb4 t3;replace t4:=Bb hb4 t4;replace t5:=Bb hb4 t5;replace t6:=Bb hb4 t6;replace t7:=Bb hb4 t7);have hfr4:=hfr.keep hb4;have q7:=Cp hone.top qJ;have q8:=Cp hone.low qJ);(try go_wp2_with fail);refine hK.out _ _ (fun _=>qK) ?_;clear hK K;(try simp only [Act.put,Au,Av,Aw]))
 (refine Bh.one (i:=3) rfl qC (fun K hK=>?_);go_simp;(go_at_call 39;(with_reducible refine (Ie _ _ _ _ _ _ _ _ _ _ _ (hfr4.keep qF) _ _ _ _ _ _ _ _ _ _ (hone.keep qF) qA qA qA qA).mono ?_);rintro e w5 ⟨g9,a9,n9,c9,gA,aA,nA,cA,rfl,hres,hf9,hfA,hap9,hb⟩;have hb5:Below w4.heap.size w4 w5:=(by first|exact hb|exact Al qF (hb.mono qB));(replace tf0:=(Ab hb5 (Aa _ _ t0)).trans tf0;replace tf1:=(Ab hb5 (Aa _ _ t1)).trans tf1;replace tf2:=(Ab hb5 (Aa _ _ t2)).trans tf2;replace tf3:=(Ab hb5 (Aa _ _ t3)).trans tf3;replace tf4:=(Ab hb5 (Aa _ _ t4)).trans tf4;replace tf5:=(Ab hb5 (Aa _ _ t5)).trans tf5;replace tf6:=(Ab hb5 (Aa _ _ t6)).trans tf6;replace tf7:=(Ab hb5 (Aa _ _ t7)).trans tf7;replace t0:=Bb hb5 t0;replace t1:=Bb hb5 t1;replace t2:=Bb hb5 t2;replace t3:=Bb hb5 t3;replace t4:=Bb hb5 t4;replace t5:=Bb hb5 t5;replace t6:=Bb hb5 t6;replace t7:=Bb hb5 t7));(try go_wp2_with fail);refine hK.out _ _ (fun _=>qK) ?_;clear hK K;(try simp only [Act.put,Au,Av,Aw]));(refine Bh.one (i:=6) rfl qC (fun K hK=>?_);go_simp;skip;(try go_wp2_with fail);refine hK.out _ _ (fun _=>qK) ?_;clear hK K;(try simp only [Act.put,Au,Av,Aw]));(refine Bh.one (i:=7) rfl qC (fun K hK=>?_);go_simp;refine hK.out _ _ (fun h=>absurd h qJ) ?_;clear hK K;(try simp only [Act.put,Au,Av,Aw]));(refine Bh.one (i:=8) rfl qC (fun K hK=>?_);go_simp;refine hK.out _ _ (fun h=>absurd h qJ) ?_;clear hK K;(try simp only [Act.put,Au,Av,Aw]));refine Bh.done qC ?_ _;have u:w.heap.size+1<w3.heap.size:=hz3;have hz4:=hb4.size;have HB5:=HB3.trans ((hb4.trans (hb5.mono hb4.size)).mono HB3.size);have f9:Bf w3.heap.size w5 a9 c9:=hf9.mono qR;have fA:Bf w3.heap.size w5 aA cA:=hfA.mono qR;go_wp2_with fail;have e1:Fj (x.2.1*1) (x.2.2*1)=x.2.1:=congrArg Prod.fst (Ke P7.out.1);have e2:Fr (x.2.1*1) (x.2.2*1)=x.2.2:=congrArg Prod.snd (Ke P7.out.1);rw [e1,e2] at hres;refine bodyPost_ret (v:=.tuple #[(⟨g9,a9,n9,c9,dg x.2.1.natAbs,gA,aA,nA,cA,dg x.2.2.natAbs,s.m0,s.m1,s.m2,s.m3⟩:Tm).val,.bool true]) (by simp [*,results,Tryz.results245,go_sem]) rfl ?_;refine ⟨⟨g9,a9,n9,c9,dg x.2.1.natAbs,gA,aA,nA,cA,dg x.2.2.natAbs,s.m0,s.m1,s.m2,s.m3⟩,rfl,⟨hres.top.neg,rfl,hres.low.neg,rfl,P5.out.key⟩,⟨?_,?_,hrd0.s0,hrd0.s1,hrd0.s2,hrd0.s3⟩,((f9.set4 _ _ _ _ _ _ _ _ u u u u).set4 _ _ _ _ _ _ _ _ u u u u).mono HB3.size,((fA.set4 _ _ _ _ _ _ _ _ u u u u).set4 _ _ _ _ _ _ _ _ u u u u).mono HB3.size,by go_grown⟩
 ·exact Bg.rd (g:=g9) (z:=x.2.1) ((hres.top.set4 f9 _ _ _ _ _ _ _ _ u u u u).set4 (f9.set4 _ _ _ _ _ _ _ _ u u u u) _ _ _ _ _ _ _ _ u u u u)
 ·exact Bg.rd (g:=gA) (z:=x.2.2) ((hres.low.set4 fA _ _ _ _ _ _ _ _ u u u u).set4 (fA.set4 _ _ _ _ _ _ _ _ u u u u) _ _ _ _ _ _ _ _ u u u u)
theorem oI {g:Bool} {z:Int} (hg:g=decide (z<0)):sgn (!g) z.natAbs=-z:=by
 subst hg;by_cases h:z<0<;>simp [sgn,h]<;>omega
theorem yY (w:World) (g:Bool) (a:Option Addr) (n c:Nat) (z:Int) (h:Bg w g a n c z) :
  Calls Tryz.prog 204 #[.agg #[.bool g,.slice a n c]] w (E6 w (-z)):=by
 have HB:=Ac w.heap.size w;have hneg:=Ae h.neg;go_enter Tryz.func204,Tryz.ntmps204;go_wp2_with fail;refine (Hq _ _ _ _ _ z (h.keep qF)).mono ?_;rintro e w1 ⟨rfl,hb⟩;obtain ⟨hc,hf⟩:=Bl hb;have hz:=hb.size;(try simp only [Aj,Ak] at hz);replace HB:=zI w hb;obtain ⟨s0_0,s0_1⟩:=qZ hc (w.heap.size) (.bool g) (.slice a n c);obtain ⟨s1_0,s1_1⟩:=zE hc (w.heap.size+1);obtain ⟨f1_0,f1_1⟩:=zF hf (w.heap.size+1);obtain ⟨f0_0,f0_1⟩:=zF hf (w.heap.size);have hk1:w.heap.size+1<w1.heap.size:=by omega
 clear hc hf hb hz;go_wp2_with fail;refine By ?_;intro w2 hw2;have B2:Below w.heap.size w w2:=by rw [hw2];go_grown
 have A0:w2.cell? ⟨w.heap.size,0,none⟩=some (.bool g):=by rw [hw2];simp [*,go_sem]
 have A1:w2.cell? ⟨w.heap.size,1,none⟩=some (.slice a n c):=by rw [hw2];simp [*,go_sem]
 have R0:w2.cell? ⟨w.heap.size+1,0,none⟩=some (.bool false):=by rw [hw2];simp [*,go_sem]
 have R1:w2.cell? ⟨w.heap.size+1,1,none⟩=some (.slice none 0 0):=by rw [hw2];simp [*,go_sem]
 have Rf0:w2.frozen? ⟨w.heap.size+1,0,none⟩=false:=by rw [hw2];simp [*,go_sem]
 have Rf1:w2.frozen? ⟨w.heap.size+1,1,none⟩=false:=by rw [hw2];simp [*,go_sem]
 clear hw2 HB s0_0 s0_1 s1_0 s1_1 f0_0 f0_1 f1_0 f1_1;have HB:=Ac w2.heap.size w2;have hk2:w.heap.size+1<w2.heap.size:=Aa _ _ R0;go_region_held3 (fun W=>W.cell? ⟨w.heap.size,0,none⟩=some (.bool g)∧W.cell? ⟨w.heap.size,1,none⟩=some (.slice a n c)) (first|((try dsimp only);(repeat' apply Ay);all_goals (first|(with_reducible assumption)|(go_keep;done)|(simp [*,go_sem];done)))) (first
  | (go_at_call 203;(with_reducible refine (Li _ _ _ _ (dg z.natAbs) ((h.keep B2).rd.keep qQ)).mono ?_);rintro e w3 ⟨a2,c2,rfl,hr2,hf2,hb⟩;replace HB:Below w2.heap.size w2 w3:=Al qQ (hb.mono qB);have hsz:=HB.size;(replace Rf0:=(Ab HB (Aa _ _ R0)).trans Rf0;replace Rf1:=(Ab HB (Aa _ _ R1)).trans Rf1;replace A0:=Bb HB A0;replace A1:=Bb HB A1;replace R0:=Bb HB R0;replace R1:=Bb HB R1))
  | (go_at_call 97;(with_reducible refine (E0 _ (!g) a2 n c2 _ (hr2.keep qU) (Ep _)).mono ?_);rintro e w4 ⟨g3,n3,rfl,hn3,hnum3,hb⟩;have hb4:Below w3.heap.size w3 w4:=Al qU (hb.mono qB);replace HB:Below w2.heap.size w2 w4:=HB.trans (hb4.mono qB);have hsz4:=HB.size;(replace Rf0:=(Ab hb4 (Aa _ _ R0)).trans Rf0;replace Rf1:=(Ab hb4 (Aa _ _ R1)).trans Rf1;replace A0:=Bb hb4 A0;replace A1:=Bb hb4 A1;replace R0:=Bb hb4 R0;replace R1:=Bb hb4 R1)))
 have hf3:=((hf2.keep hb4).less hn3).mono (show w.heap.size+1+1≤_ by go_size);have hv:sgn (!g) (val (dg z.natAbs))=-z:=by rw [Bo];exact oI hneg.out
 rw [hv] at hnum3;have B4:=B2.trans (HB.mono B2.size);go_wp2_with fail;have u:w.heap.size+1<w.heap.size+1+1:=Ag _;refine bodyPost_ret (v:=.agg #[.bool g3,.slice a2 n3 n3]) (by simp [results,Tryz.results204,go_sem,R0,R1]) rfl ?_;exact ⟨g3,a2,n3,n3,rfl,(hnum3.setFresh hf3 _ _ u).setFresh (hf3.setNew _ _ u) _ _ u,((hf3.setNew _ _ u).setNew _ _ u).mono qA,by go_grown⟩
theorem Ni {p q:Int} (hq:q<0):0<q/(-(Int.gcd p q:Int))∧Int.gcd (p/(-(Int.gcd p q:Int))) (q/(-(Int.gcd p q:Int)))=1:=by
 have h:=Ql (p:=p) (q:=-q) qA;have e:Int.gcd p (-q)=Int.gcd p q:=Int.gcd_neg;rw [e] at h;have d1:((Int.gcd p q:Nat):Int)∣q:=Int.gcd_dvd_right ..;rw [Int.ediv_neg,Int.ediv_neg,Int.neg_gcd,Int.gcd_neg];rw [Int.neg_ediv_of_dvd d1,Int.gcd_neg] at h;exact h
theorem Hi {p q:Int} (hq:q<0):(dg (Int.gcd p q)).length≤(dg q.natAbs).length:=by
 have h:=Ja (p:=p) (q:=-q) qA;rwa [Int.gcd_neg,Int.natAbs_neg] at h
theorem lR (w:World) (g:Bool) (a:Option Addr) (n c:Nat) (z:Int) (h:Bg w g a n c z) (g':Bool) (a':Option Addr) (n' c':Nat) (z':Int) (h':Bg w g' a' n' c' z')
  (hz':z'<0) (hb1:n<35184372088829) (hb2:n'<35184372088829) :
  Calls Tryz.prog 124 #[.agg #[.bool g,.slice a n c],.agg #[.bool g',.slice a' n' c']] w (D3 w (z/(-(Int.gcd z z':Int))) (z'/(-(Int.gcd z z':Int)))):=by
 have HB:=Ac w.heap.size w;have hsg:Bz z' 0=-1:=Ds hz';have hgp:0<Int.gcd z z':=Int.gcd_pos_of_ne_zero_right _ qA;go_enter Tryz.func124,Tryz.ntmps124;go_wp2_with fail;refine Be ?_;intro w0 hw0;have HB0:Below w.heap.size w w0:=by rw [hw0];go_grown
 have A0:w0.cell? ⟨w.heap.size,0,none⟩=some (.bool g):=by rw [hw0];simp [go_sem]
 have A1:w0.cell? ⟨w.heap.size,1,none⟩=some (.slice a n c):=by rw [hw0];simp [go_sem]
 have B0:w0.cell? ⟨w.heap.size+1,0,none⟩=some (.bool g'):=by rw [hw0];simp [go_sem]
 have B1:w0.cell? ⟨w.heap.size+1,1,none⟩=some (.slice a' n' c'):=by rw [hw0];simp [go_sem]
 have R0:w0.cell? ⟨w.heap.size+1+1,0,none⟩=some (.bool false):=by rw [hw0];simp [go_sem]
 have R1:w0.cell? ⟨w.heap.size+1+1,1,none⟩=some (.slice none 0 0):=by rw [hw0];simp [go_sem]
 have R2:w0.cell? ⟨w.heap.size+1+1,2,none⟩=some (.bool false):=by rw [hw0];simp [go_sem]
 have R3:w0.cell? ⟨w.heap.size+1+1,3,none⟩=some (.slice none 0 0):=by rw [hw0];simp [go_sem]
 have Rf0:w0.frozen? ⟨w.heap.size+1+1,0,none⟩=false:=by rw [hw0];simp [go_sem]
 have Rf1:w0.frozen? ⟨w.heap.size+1+1,1,none⟩=false:=by rw [hw0];simp [go_sem]
 have Rf2:w0.frozen? ⟨w.heap.size+1+1,2,none⟩=false:=by rw [hw0];simp [go_sem]
 have Rf3:w0.frozen? ⟨w.heap.size+1+1,3,none⟩=false:=by rw [hw0];simp [go_sem]
 have hk0:w.heap.size+1+1+1≤w0.heap.size:=Aa _ _ R0;clear hw0;refine (bG _ _ _ _ _ z (h.keep HB0) _ _ _ _ z' (h'.keep HB0) hb2 hb1).mono ?_;rintro e w1 ⟨gg,ag,ng,cg,rfl,hng,hfg,hb⟩;have HB1:=HB0.trans (hb.mono HB0.size)
 (replace Rf0:=(Ab hb (Aa _ _ R0)).trans Rf0;replace Rf1:=(Ab hb (Aa _ _ R1)).trans Rf1;replace Rf2:=(Ab hb (Aa _ _ R2)).trans Rf2;replace Rf3:=(Ab hb (Aa _ _ R3)).trans Rf3;replace A0:=Bb hb A0;replace A1:=Bb hb A1;replace B0:=Bb hb B0;replace B1:=Bb hb B1;replace R0:=Bb hb R0;replace R1:=Bb hb R1;replace R2:=Bb hb R2;replace R3:=Bb hb R3)
 have hs1:=HB1.size;have hlg:ng≤n':=by have h1:=hng.rd.len;have h2:=h'.rd.len;rw [Int.natAbs_natCast] at h1;have h3:=Hi (p:=z) hz';omega
 have hkr:w.heap.size+1+1<w1.heap.size:=Aa _ _ R0;replace hfg:=hfg.mono hk0;clear hb HB0;go_upto_region 2 with fail
 (refine By ?_;intro w2 hw2;have G0':w2.cell? ⟨w1.heap.size,0,none⟩=some (.bool gg):=(by rw [hw2];first|assumption|(simp [go_sem];done)|(simp [*,go_sem];done));have Gf0':w2.frozen? ⟨w1.heap.size,0,none⟩=false:=(by rw [hw2];first|assumption|(simp [go_sem];done)|(simp [*,go_sem];done));have G1':w2.cell? ⟨w1.heap.size,1,none⟩=some (.slice ag ng cg):=(by rw [hw2];first|assumption|(simp [go_sem];done)|(simp [*,go_sem];done));have Gf1':w2.frozen? ⟨w1.heap.size,1,none⟩=false:=(by rw [hw2];first|assumption|(simp [go_sem];done)|(simp [*,go_sem];done));have G0:=G0';clear G0';have Gf0:=Gf0';clear Gf0';have G1:=G1';clear G1';have Gf1:=Gf1';clear Gf1');have hb12:Below w1.heap.size w1 w2:=by rw [hw2];go_grown
 (replace Rf0:=(Ab hb12 (Aa _ _ R0)).trans Rf0;replace Rf1:=(Ab hb12 (Aa _ _ R1)).trans Rf1;replace Rf2:=(Ab hb12 (Aa _ _ R2)).trans Rf2;replace Rf3:=(Ab hb12 (Aa _ _ R3)).trans Rf3;replace A0:=Bb hb12 A0;replace A1:=Bb hb12 A1;replace B0:=Bb hb12 B0;replace B1:=Bb hb12 B1;replace R0:=Bb hb12 R0;replace R1:=Bb hb12 R1;replace R2:=Bb hb12 R2;replace R3:=Bb hb12 R3)
 have hs2:w1.heap.size<w2.heap.size:=by rw [hw2];simp
 have HB2:=HB1.trans (hb12.mono hs1);replace hng:=hng.keep hb12;replace hfg:=hfg.keep hb12;obtain ⟨G,hG⟩:∃G,G=w1.heap.size:=⟨_,rfl⟩;rw [←hG] at G0 G1 Gf0 Gf1 ⊢;have hGr:w.heap.size+1+1<G:=by omega
 clear hw2 hb12 HB1 hG;go_wp2_with fail;refine (Kb _ _ _ _ _ z' (h'.keep HB2)).mono ?_;rintro e w3 ⟨rfl,hb⟩;have HB3:=HB2.trans (hb.mono HB2.size)
 (replace Rf0:=(Ab hb (Aa _ _ R0)).trans Rf0;replace Rf1:=(Ab hb (Aa _ _ R1)).trans Rf1;replace Rf2:=(Ab hb (Aa _ _ R2)).trans Rf2;replace Rf3:=(Ab hb (Aa _ _ R3)).trans Rf3;replace Gf0:=(Ab hb (Aa _ _ G0)).trans Gf0;replace Gf1:=(Ab hb (Aa _ _ G1)).trans Gf1;replace A0:=Bb hb A0;replace A1:=Bb hb A1;replace B0:=Bb hb B0;replace B1:=Bb hb B1;replace R0:=Bb hb R0;replace R1:=Bb hb R1;replace R2:=Bb hb R2;replace R3:=Bb hb R3;replace G0:=Bb hb G0;replace G1:=Bb hb G1)
 replace hng:=hng.keep hb;replace hfg:=hfg.keep hb;have hk3:w.heap.size+1+1<w3.heap.size:=Nat.lt_trans hGr (Aa _ _ G0);have HGL:G<w3.heap.size:=Aa _ _ G0;clear hb HB2;rw [hsg];go_wp2_with fail;refine (yY _ _ _ _ _ _ hng).mono ?_;rintro e w3n ⟨gm,am,nm,cm,rfl,hnm,hfm,hb⟩;have HB3n:=HB3.trans (hb.mono HB3.size)
 (replace Rf0:=(Ab hb (Aa _ _ R0)).trans Rf0;replace Rf1:=(Ab hb (Aa _ _ R1)).trans Rf1;replace Rf2:=(Ab hb (Aa _ _ R2)).trans Rf2;replace Rf3:=(Ab hb (Aa _ _ R3)).trans Rf3;replace Gf0:=(Ab hb (Aa _ _ G0)).trans Gf0;replace Gf1:=(Ab hb (Aa _ _ G1)).trans Gf1;replace A0:=Bb hb A0;replace A1:=Bb hb A1;replace B0:=Bb hb B0;replace B1:=Bb hb B1;replace R0:=Bb hb R0;replace R1:=Bb hb R1;replace R2:=Bb hb R2;replace R3:=Bb hb R3;replace G0:=Bb hb G0;replace G1:=Bb hb G1)
 have hk3n:w.heap.size+1+1<w3n.heap.size:=Aa _ _ R0;have hGn:¬G=w.heap.size+1+1:=by omega
 have hGn':¬w.heap.size+1+1=G:=by omega
 have hGl:G<w3.heap.size:=HGL;have hGa:¬w.heap.size=G:=by omega
 have hGb:¬w.heap.size+1=G:=by omega
 have hfm3:Bf w3.heap.size w3n am cm:=hfm;have hlm:nm≤n':=by have h1:=hnm.rd.len;rw [Int.natAbs_neg,Int.natAbs_natCast] at h1;have h2:=h'.rd.len;have h3:=Hi (p:=z) hz';omega
 have hgne:-((Int.gcd z z':Nat):Int)≠0:=by omega
 obtain ⟨D,hD⟩:∃D:Int,D=-((Int.gcd z z':Nat):Int):=⟨_,rfl⟩;rw [←hD] at hnm hgne;have HD:=Ae hD;clear hD hb HB3 hng hfg hlg hfm;go_wp2_with fail;refine Be ?_;intro w3p hw3p;have hb3p:Below w.heap.size w w3p:=by rw [hw3p];go_grown
 have A0':w3p.cell? ⟨w.heap.size,0,none⟩=some (.bool g):=by rw [hw3p];simp [*,go_sem]
 have A1':w3p.cell? ⟨w.heap.size,1,none⟩=some (.slice a n c):=by rw [hw3p];simp [*,go_sem]
 have B0':w3p.cell? ⟨w.heap.size+1,0,none⟩=some (.bool g'):=by rw [hw3p];simp [*,go_sem]
 have B1':w3p.cell? ⟨w.heap.size+1,1,none⟩=some (.slice a' n' c'):=by rw [hw3p];simp [*,go_sem]
 have R0':w3p.cell? ⟨w.heap.size+1+1,0,none⟩=some (.bool false):=by rw [hw3p];simp [*,go_sem]
 have R1':w3p.cell? ⟨w.heap.size+1+1,1,none⟩=some (.slice none 0 0):=by rw [hw3p];simp [*,go_sem]
 have R2':w3p.cell? ⟨w.heap.size+1+1,2,none⟩=some (.bool false):=by rw [hw3p];simp [*,go_sem]
 have R3':w3p.cell? ⟨w.heap.size+1+1,3,none⟩=some (.slice none 0 0):=by rw [hw3p];simp [*,go_sem]
 have Rf0':w3p.frozen? ⟨w.heap.size+1+1,0,none⟩=false:=by rw [hw3p];simp [*,go_sem]
 have Rf1':w3p.frozen? ⟨w.heap.size+1+1,1,none⟩=false:=by rw [hw3p];simp [*,go_sem]
 have Rf2':w3p.frozen? ⟨w.heap.size+1+1,2,none⟩=false:=by rw [hw3p];simp [*,go_sem]
 have Rf3':w3p.frozen? ⟨w.heap.size+1+1,3,none⟩=false:=by rw [hw3p];simp [*,go_sem]
 have G0':w3p.cell? ⟨G,0,none⟩=some (.bool gm):=by rw [hw3p];simp [*,go_sem]
 have G1':w3p.cell? ⟨G,1,none⟩=some (.slice am nm cm):=by rw [hw3p];simp [*,go_sem]
 have hng:Bg w3p gm am nm cm D:=by rw [hw3p];exact (hnm.setFresh hfm3 _ _ hGl).setFresh (hfm3.setNew _ _ hGl) _ _ hGl
 have hfg:Bf (w.heap.size+1+1+1) w3p am cm:=by rw [hw3p];exact ((hfm3.setNew _ _ hGl).setNew _ _ hGl).mono qA
 have hk3:w.heap.size+1+1<w3p.heap.size:=Aa _ _ R0';clear hw3p A0 A1 B0 B1 R0 R1 R2 R3 G0 G1 Rf0 Rf1 Rf2 Rf3 Gf0 Gf1 hnm hfm3 HB3n;have A0:=A0';have A1:=A1';have B0:=B0';have B1:=B1';have R0:=R0';have R1:=R1';have R2:=R2';have R3:=R3';have Rf0:=Rf0';have Rf1:=Rf1';have Rf2:=Rf2';have Rf3:=Rf3';have G0:=G0';have G1:=G1';have HB3:=hb3p;clear A0' A1' B0' B1' R0' R1' R2' R3' Rf0' Rf1' Rf2' Rf3' G0' G1' hb3p;have hlg:=hlm;refine (Uj _ _ _ _ _ z (h.keep HB3) _ _ _ _ D hng hgne qA qA).mono ?_;rintro e w4 ⟨gq,aq,nq,cq,gr,ar,nr,cr,rfl,hq,hr,hfq,hfr,hb⟩;have HB4:=HB3.trans (hb.mono HB3.size)
 (replace Rf0:=(Ab hb (Aa _ _ R0)).trans Rf0;replace Rf1:=(Ab hb (Aa _ _ R1)).trans Rf1;replace Rf2:=(Ab hb (Aa _ _ R2)).trans Rf2;replace Rf3:=(Ab hb (Aa _ _ R3)).trans Rf3;replace A0:=Bb hb A0;replace A1:=Bb hb A1;replace B0:=Bb hb B0;replace B1:=Bb hb B1;replace R0:=Bb hb R0;replace R1:=Bb hb R1;replace R2:=Bb hb R2;replace R3:=Bb hb R3;replace G0:=Bb hb G0;replace G1:=Bb hb G1)
 replace hng:=hng.keep hb;replace hfg:=hfg.keep hb;have hs4:=HB3.size;have hfq4:Bf (w.heap.size+1+1+1) w4 aq cq:=hfq.mono hk3;have hRl:w.heap.size+1+1<w.heap.size+1+1+1:=Ag _;have hk4:=HB4.size;clear hb HB3 hr hfr hfq;go_upto_region 5 with fail
 (refine By ?_;intro w5 hw5;have A0':w5.cell? ⟨w.heap.size,0,none⟩=some (.bool g):=(by rw [hw5];first|assumption|(simp [go_sem];done)|(simp [*,go_sem];done));have A1':w5.cell? ⟨w.heap.size,1,none⟩=some (.slice a n c):=(by rw [hw5];first|assumption|(simp [go_sem];done)|(simp [*,go_sem];done));have B0':w5.cell? ⟨w.heap.size+1,0,none⟩=some (.bool g'):=(by rw [hw5];first|assumption|(simp [go_sem];done)|(simp [*,go_sem];done));have B1':w5.cell? ⟨w.heap.size+1,1,none⟩=some (.slice a' n' c'):=(by rw [hw5];first|assumption|(simp [go_sem];done)|(simp [*,go_sem];done));have R0':w5.cell? ⟨w.heap.size+1+1,0,none⟩=some (.bool gq):=(by rw [hw5];first|assumption|(simp [go_sem];done)|(simp [*,go_sem];done));have Rf0':w5.frozen? ⟨w.heap.size+1+1,0,none⟩=false:=(by rw [hw5];first|assumption|(simp [go_sem];done)|(simp [*,go_sem];done));have R1':w5.cell? ⟨w.heap.size+1+1,1,none⟩=some (.slice aq nq cq):=(by rw [hw5];first|assumption|(simp [go_sem];done)|(simp [*,go_sem];done));have Rf1':w5.frozen? ⟨w.heap.size+1+1,1,none⟩=false:=(by rw [hw5];first|assumption|(simp [go_sem];done)|(simp [*,go_sem];done));have R2':w5.cell? ⟨w.heap.size+1+1,2,none⟩=some (.bool false):=(by rw [hw5];first|assumption|(simp [go_sem];done)|(simp [*,go_sem];done));have Rf2':w5.frozen? ⟨w.heap.size+1+1,2,none⟩=false:=(by rw [hw5];first|assumption|(simp [go_sem];done)|(simp [*,go_sem];done));have R3':w5.cell? ⟨w.heap.size+1+1,3,none⟩=some (.slice none 0 0):=(by rw [hw5];first|assumption|(simp [go_sem];done)|(simp [*,go_sem];done));have Rf3':w5.frozen? ⟨w.heap.size+1+1,3,none⟩=false:=(by rw [hw5];first|assumption|(simp [go_sem];done)|(simp [*,go_sem];done));have G0':w5.cell? ⟨G,0,none⟩=some (.bool gm):=(by rw [hw5];first|assumption|(simp [go_sem];done)|(simp [*,go_sem];done));have G1':w5.cell? ⟨G,1,none⟩=some (.slice am nm cm):=(by rw [hw5];first|assumption|(simp [go_sem];done)|(simp [*,go_sem];done));clear A0 A1 B0 B1 R0 R1 R2 R3 Rf0 Rf1 Rf2 Rf3 G0 G1;have A0:=A0';clear A0';have A1:=A1';clear A1';have B0:=B0';clear B0';have B1:=B1';clear B1';have R0:=R0';clear R0';have Rf0:=Rf0';clear Rf0';have R1:=R1';clear R1';have Rf1:=Rf1';clear Rf1';have R2:=R2';clear R2';have Rf2:=Rf2';clear Rf2';have R3:=R3';clear R3';have Rf3:=Rf3';clear Rf3';have G0:=G0';clear G0';have G1:=G1';clear G1');have HB5:Below w.heap.size w w5:=by rw [hw5];go_grown
 have hng5:Bg w5 gm am nm cm D:=by rw [hw5];exact (hng.setFresh hfg _ _ hRl).setFresh (hfg.setNew _ _ hRl) _ _ hRl
 have hfg5:Bf (w.heap.size+1+1+1) w5 am cm:=by rw [hw5];exact (hfg.setNew _ _ hRl).setNew _ _ hRl
 have hq5:Bg w5 gq aq nq cq (z/D):=by rw [hw5];exact (hq.setFresh hfq4 _ _ hRl).setFresh (hfq4.setNew _ _ hRl) _ _ hRl
 have hfq5:Bf (w.heap.size+1+1+1) w5 aq cq:=by rw [hw5];exact (hfq4.setNew _ _ hRl).setNew _ _ hRl
 have hk5:w.heap.size+1+1<w5.heap.size:=Aa _ _ R0;clear hw5 hng hfg hq hfq4 HB4;go_wp2_with fail;refine (Uj _ _ _ _ _ z' (h'.keep HB5) _ _ _ _ D hng5 hgne qA qA).mono ?_;rintro e w6 ⟨gs,a5,n5,c5,gr,ar,nr,cr,rfl,hs,hr,hfs,hfr,hb⟩;have HB6:=HB5.trans (hb.mono HB5.size)
 (replace Rf0:=(Ab hb (Aa _ _ R0)).trans Rf0;replace Rf1:=(Ab hb (Aa _ _ R1)).trans Rf1;replace Rf2:=(Ab hb (Aa _ _ R2)).trans Rf2;replace Rf3:=(Ab hb (Aa _ _ R3)).trans Rf3;replace R0:=Bb hb R0;replace R1:=Bb hb R1;replace R2:=Bb hb R2;replace R3:=Bb hb R3)
 have hq6:=hq5.keep hb;have hfq6:=hfq5.keep hb;have hfs6:Bf (w.heap.size+1+1+1) w6 a5 c5:=hfs.mono hk5;have hap:Ap2 aq cq a5 c5:=Zf hfq5 hfs;clear hb HB5 hr hfr hfs hq5 hfq5 hng5 hfg5 A0 A1 B0 B1 G0 G1;go_upto_region 6 with fail
 (refine By ?_;intro w7 hw7;have R0':w7.cell? ⟨w.heap.size+1+1,0,none⟩=some (.bool gq):=(by rw [hw7];first|assumption|(simp [go_sem];done)|(simp [*,go_sem];done));have Rf0':w7.frozen? ⟨w.heap.size+1+1,0,none⟩=false:=(by rw [hw7];first|assumption|(simp [go_sem];done)|(simp [*,go_sem];done));have R1':w7.cell? ⟨w.heap.size+1+1,1,none⟩=some (.slice aq nq cq):=(by rw [hw7];first|assumption|(simp [go_sem];done)|(simp [*,go_sem];done));have Rf1':w7.frozen? ⟨w.heap.size+1+1,1,none⟩=false:=(by rw [hw7];first|assumption|(simp [go_sem];done)|(simp [*,go_sem];done));have R2':w7.cell? ⟨w.heap.size+1+1,2,none⟩=some (.bool gs):=(by rw [hw7];first|assumption|(simp [go_sem];done)|(simp [*,go_sem];done));have Rf2':w7.frozen? ⟨w.heap.size+1+1,2,none⟩=false:=(by rw [hw7];first|assumption|(simp [go_sem];done)|(simp [*,go_sem];done));have R3':w7.cell? ⟨w.heap.size+1+1,3,none⟩=some (.slice a5 n5 c5):=(by rw [hw7];first|assumption|(simp [go_sem];done)|(simp [*,go_sem];done));have Rf3':w7.frozen? ⟨w.heap.size+1+1,3,none⟩=false:=(by rw [hw7];first|assumption|(simp [go_sem];done)|(simp [*,go_sem];done));clear R0 R1 R2 R3 Rf0 Rf1 Rf2 Rf3;have R0:=R0';clear R0';have Rf0:=Rf0';clear Rf0';have R1:=R1';clear R1';have Rf1:=Rf1';clear Rf1';have R2:=R2';clear R2';have Rf2:=Rf2';clear Rf2';have R3:=R3';clear R3';have Rf3:=Rf3';clear Rf3');have HB7:Below w.heap.size w w7:=by rw [hw7];go_grown
 have hq7:Bg w7 gq aq nq cq (z/D):=by rw [hw7];exact (hq6.setFresh hfq6 _ _ hRl).setFresh (hfq6.setNew _ _ hRl) _ _ hRl
 have hfq7:Bf (w.heap.size+1+1+1) w7 aq cq:=by rw [hw7];exact (hfq6.setNew _ _ hRl).setNew _ _ hRl
 have hs7:Bg w7 gs a5 n5 c5 (z'/D):=by rw [hw7];exact (hs.setFresh hfs6 _ _ hRl).setFresh (hfs6.setNew _ _ hRl) _ _ hRl
 have hfs7:Bf (w.heap.size+1+1+1) w7 a5 c5:=by rw [hw7];exact (hfs6.setNew _ _ hRl).setNew _ _ hRl
 clear hw7 hq6 hfq6 hs hfs6 HB6;go_wp2_with fail;refine bodyPost_ret (v:=.agg #[.bool gq,.slice aq nq cq,.bool gs,.slice a5 n5 c5]) (by simp [results,Tryz.results124,go_sem,R0,R1,R2,R3]) rfl ?_;have hfl:=Ni (p:=z) hz';exact qBg
end Go.Proofs.YtnnhcbeiogaknaaGreatDoor
end
