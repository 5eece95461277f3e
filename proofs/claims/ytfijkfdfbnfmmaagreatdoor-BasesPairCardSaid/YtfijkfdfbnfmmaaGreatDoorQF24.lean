/- Package polys: with, by any function of a term. -/
import Derived.Test.YtfijkfdfbnfmmaaGreatDoorQF23
import Derived.Test.YtfijkfdfbnfmmaaGreatDoorQF17
set_option linter.unusedSimpArgs false
set_option linter.unusedVariables false
set_option maxRecDepth 100000
set_option maxHeartbeats 4000000
section
namespace Go.Proofs.YtfijkfdfbnfmmaaGreatDoor
open Go.RowKit Proofs.Tryz
variable (w:World) (B:Nat) (a:Γ) (n c:Nat) (l:Δ) {g1 g2:Bool} {p q:Int} {n1 c1 n2 c2:Nat} {a1 a2:Γ}
def wX (w:World) (y:PT) (e:Ending) (w':World):Prop :=
 ∃t:Tm,e=.returned t.val∧Ey t y∧Dg w' t∧Bc w w' t.a1 t.c1∧Bc w w' t.a2 t.c2∧Ap2 t.a1 t.c1 t.a2 t.c2∧xp w w'
theorem yD (wo:World) (a:Γ) (n c:Nat) (p:Nat→Tm) (hp:RdP wo a n c p) (l:Δ) (AN:l.length=n) (F:Nat) (cap:Array Value) (f:PT→PT)
  (hE:∀args W,(callFunc F args).run prog W=.ok (.enter F args) W) (hdo:Hid (∀W,xp wo W→∀k x,l[k]? = some x→Θ F (#[(p k).val]++cap) W (wX W (f x))))
  (IC:∀x∈l,CW (f x).2) (uz:∀x∈l,(f x).1<18446744073709551616) (hw:∀k,wtk (l.map f) k≤400000) (hn:n≤400000) :
  Θ 173 #[.slice a n c,.func (.func F) #[] cap] wo (Fy wo (Pv (l.map f))):=by
 have HB:=Ac wo wo;have xy:=@run_makeMap prog;have LK:Ew (wo.alloc (.map #[] 0)) wo 0 (wo+1) (fun _=>none):=⟨.map [],id,World.ownsMap_made wo prog 56 RH,Gj.empty _ _ _⟩;have HX:=Ae (Ax IC uz);have HC:=Ae (show ∀t∈l.map f,CW t.2 from fun t ht=>by obtain ⟨x,hx,rfl⟩:=List.mem_map.1 ht;exact IC x hx);have HW:=Ae hw;clear IC uz hw;go_enter func173,ntmps173;go_wp2_with fail;go_loopw [11] (fun v11 wr=>∃i:Nat,i≤n∧v11=M i∧Ew wr wo i (wo+1) (D2 ((l.map f).take i))∧xp wo wr) (fun v11 _=>n-(intOf v11).toNat)
 case atStart=>exact ⟨0,qB,rfl,by simpa [D2] using LK,qD⟩
 case round =>
  obtain ⟨k,hk,rfl,hM,dm⟩:=hrel;have hzr:=dm.size;clear LK;by_cases bj:k<n
  ·obtain ⟨gb,go,rfl,_⟩:=hp.cell.resolve_left qB;have ky:k<l.length:=qB;obtain ⟨x,hx⟩:∃x,l[k]? = some x:=⟨_,Ai ky⟩;have hm:=A7 hx;have HD:=Ae fun W hW=>hdo.out W hW k x hx
   have jn:=(hp.keep dm).at bj;generalize p k=t at *;obtain ⟨e0,e1,e2,e3,e4,e5,e6,e7⟩:=jn;obtain ⟨w,rfl⟩:∃w:World,w=wr:=⟨_,rfl⟩;have QE:=Ac w w;have rq:wo.heap.size<w:=by obtain ⟨D,_,hD,_⟩:=hM.ex;exact hD.lt
   have SS:=HX.out.1 x hm;have hkx:=HX.out.2 x hm;have hyk:∀y,D2 ((l.map f).take k) (f x).1=some y→Ch 1000000000 y:=fun y hy=>by
    have h1:=Lz (fun t ht=>HC.out t (List.mem_of_mem_take ht)) hy;exact Ch.mono h1.2 (by have h2:=oB (l.map f) k (f x).1;have h3:=HW.out (f x).1;omega)
   have iq:Ch 1000000000 (f x).2:=Ch.mono (Xt _) (by
    have h0:f x∈(l.map f).filter (fun t=>t.1=(f x).1):=List.mem_filter.2 ⟨List.mem_map_of_mem hm,qH⟩;have h1:=yI h0;have h3:=HW.out (f x).1;unfold wtk at h3
    omega)
   have HN:=Ae (show D2 ((l.map f).take (k+1))=I4 (D2 ((l.map f).take k)) (f x) by
    have e:(l.map f).take (k+1)=(l.map f).take k++[f x]:=by
     rw [List.take_add_one,List.getElem?_map,hx];rfl
    rw [e,Qy])
   have HY:=Ae (Ax hyk iq);have HCX:=Ae SS;generalize f x=y at *;clear hx hyk iq SS hm;have T0:=Dt.new w t;go_wp2_with fail;refine (HD.out _ (dm.trans (Below.mono qD dm.size))).mono ?_;rintro e w5 ⟨s,rfl,hs,lj,jh,ki,gw,dx⟩;have T5:=T0.keep dx;have DD:=dx.size;simp only [Aj] at DD;obtain ⟨s0,s1,s2,s3,s4,s5,s6,s7,f0,f1,f2,f3,f4,f5,f6,f7⟩:=T5;have B5:=zP w dx;have hsc:=hs.frac lj HCX.out;have WC:=jh.mono (show w.heap.size+1≤_ from qA);have QC:=ki.mono (show w.heap.size+1≤_ from qA);have u:w.heap.size<w.heap.size+1:=qB;have VA:w.heap.size<w5:=qB;have uz:=hs.key;clear dx T0;go_wp2_with fail;refine (gU w _ wo k (wo+1) (D2 ((l.map f).take k)) hM qD (Ag _) qB qB s.g1 s.a1 s.n1 s.c1 s.g2 s.a2 s.n2 s.c2 y.2 ⟨(hsc.top.set4 WC _ _ _ _ _ _ _ _ u u u u).set4 (WC.set4 _ _ _ _ _ _ _ _ u u u u) _ _ _ _ _ _ _ _ u u u u,(hsc.low.set4 QC _ _ _ _ _ _ _ _ u u u u).set4 (QC.set4 _ _ _ _ _ _ _ _ u u u u) _ _ _ _ _ _ _ _ u u u u,hsc.pos,hsc.red⟩ (((WC.set4 _ _ _ _ _ _ _ _ u u u u).set4 _ _ _ _ _ _ _ _ u u u u).mono qB) (((QC.set4 _ _ _ _ _ _ _ _ u u u u).set4 _ _ _ _ _ _ _ _ u u u u).mono qB) gw s.m0 s.m1 s.m2 s.m3 lj.s0 lj.s1 lj.s2 lj.s3 HY.out.2 (by rw [uz];exact HY.out.1)).mono ?_;rintro e w6 ⟨rfl,hM6,um⟩;have iu:xp wo w6:=Below.grown (dm.trans (Below.mono (by go_grown:xp w _) dm.size)) um qA (fun j hj=>by cases hj;exact Ad _);rw [uz] at hM6;go_wp2_with fail;go_roundw
   case rel=>exact ⟨k+1,qB,by go_num,by rw [HN.out];exact hM6,iu⟩
   case measure=>(first|(simp [intOf];omega)|(simp [intOf];done))
  ·obtain rfl:k=n:=qB;have hM6:Ew wr wo k (wo+1) (D2 (l.map f)):=by
    have:=hM;rwa [As (by rw [List.length_map];omega)] at this
   have rq:wo.heap.size<wr:=by obtain ⟨D,_,hD,_⟩:=hM.ex;exact hD.lt
   have rm:∀j x,D2 (l.map f) j=some x→j<18446744073709551616∧Ch 1000000 x:=fun j x hx=>by
    refine ⟨?_,Ch.mono (Lz HC.out hx).2 (by have:=HW.out j;omega)⟩;obtain ⟨t,ht,e⟩:=Zx hx;obtain ⟨z,hz,rfl⟩:=List.mem_map.1 ht;rw [←e];exact HX.out.2 z hz
   go_wp2_with fail;refine (iR _ wo k (wo+1) (D2 (l.map f)) hM6 qB qB rm).mono ?_;rintro e w6 ⟨a6,n6,c6,r,rfl,hr,JO,eh,JE,ee⟩;obtain rfl:=Ml HC.out eh JE;go_wp2_with fail;refine bodyPost_ret (v:=.slice a6 n6 c6) (by simp [results,results173,go_sem]) rfl ?_;exact qEd
theorem oI (t:Tm) (x:PT) (kz:Dg w t) (ph:Ey t x) (SS:CW x.2) (b:Nat) (g1:Bool) (a1:Γ) (n1 c1:Nat) (g2:Bool) (a2:Γ) (n2 c2:Nat) (y:PC) (hy:Bo w g1 a1 n1 c1 y.1 g2 a2 n2 c2 y.2)
  (h0:Z w b 0 (.bool g1)) (h1:Z w b 1 (.slice a1 n1 c1)) (h2:Z w b 2 (.bool g2)) (h3:Z w b 3 (.slice a2 n2 c2))
  (q1:t.n1≤1000000000) (q2:t.n2≤1000000000) (q3:n1≤1000000000) (q4:n2≤1000000000) :
  Θ 174 #[t.val,.pointer (E b)] w (wX w (x.1,Ct x.2 y)):=by
 have hx:=ph.frac kz SS;have HT:=Ae ph;have OH:=Ae kz;clear ph kz;have bj:b<w.heap.size:=Aa _ _ h0;have tu:b≠w.heap.size:=qB;have adh:b≠w.heap.size+1:=qB;have HB:=Ac w w;go_enter func174,ntmps174;go_wp2_with fail;go_region_held3 (fun W=>Z W w 0 (.bool t.g1)∧Z W w 1 (.slice t.a1 t.n1 t.c1)∧Z W w 2 (.bool t.g2)∧Z W w 3 (.slice t.a2 t.n2 t.c2)∧Z W w 4 (U t.m0)∧Z W w 5 (U t.m1)∧Z W w 6 (U t.m2)∧Z W w 7 (U t.m3)∧Z W b 0 (.bool g1)∧Z W b 1 (.slice a1 n1 c1)∧Z W b 2 (.bool g2)∧Z W b 3 (.slice a2 n2 c2)) (exact qK) (first
  | (go_at_call 94;(with_reducible refine (Qx _ _ _ _ _ _ _ _ _ _ _ (hx.keep qD) _ _ _ _ _ _ _ _ _ _ (hy.keep qD) q1 q2 q3 q4).mono ?_);rintro e w4 ⟨DA,zu,DZ,zw,DB,AA,EA,AB,rfl,hmul,EB,EC,gw,hb⟩;obtain ⟨hc,hf⟩:=Bg hb;have hz:=hb.size;(try simp only [Aj,Ak,Am] at hz);replace HB:=zP w hb;obtain ⟨aw,bh,ei,ej⟩:=xe hc w t.g1 t.a1 t.n1 t.c1 t.g2 t.a2 t.n2 t.c2;have CE:=zE hc (w) 4 (U t.m0);have CF:=zE hc (w) 5 (U t.m1);have CG:=zE hc (w) 6 (U t.m2);have CH:=zE hc (w) 7 (U t.m3);obtain ⟨bn,bo,im,s1_3⟩:=xf hc (w+1);have adi:=zE hc (w+1) 4 (U 0);have adj:=zE hc (w+1) 5 (U 0);have adk:=zE hc (w+1) 6 (U 0);have adl:=zE hc (w+1) 7 (U 0);obtain ⟨dp,dt,jz,kh⟩:=xg hf (w+1);have ams:=zF hf (w+1) 4;have amt:=zF hf (w+1) 5;have amu:=zF hf (w+1) 6;have amv:=zF hf (w+1) 7;have z0:Z w4 b 0 (.bool g1):=(hc _ _ qA).trans qO;have z1:Z w4 b 1 (.slice a1 n1 c1):=(hc _ _ qA).trans qO;have z2:Z w4 b 2 (.bool g2):=(hc _ _ qA).trans qO;have z3:Z w4 b 3 (.slice a2 n2 c2):=(hc _ _ qA).trans qO))
 go_wp2_with fail;have WC:=EB.mono (show w.heap.size+1+1≤_ from qA);have QC:=EC.mono (show w.heap.size+1+1≤_ from qA);have u:w.heap.size+1<w.heap.size+1+1:=qB;have jy:w.heap.size+1<w4:=by have:=hz;omega
 refine bodyPost_ret (v:=.agg #[.bool DA,.slice zu DZ zw,.bool DB,.slice AA EA AB,U t.m0,U t.m1,U t.m2,U t.m3]) (by simp [*,results,results174,go_sem]) rfl ?_;have hF:Bo w4 DA zu DZ zw (Ct x.2 y).1 DB AA EA AB (Ct x.2 y).2:=hmul;refine ⟨⟨DA,zu,DZ,zw,dg (Ct x.2 y).1.natAbs,DB,AA,EA,AB,dg (Ct x.2 y).2.natAbs,t.m0,t.m1,t.m2,t.m3⟩,rfl,⟨hF.top.neg,rfl,hF.low.neg,rfl,HT.out.key⟩,⟨?_,?_,OH.out.s0,OH.out.s1,OH.out.s2,OH.out.s3⟩,((WC.set4 _ _ _ _ _ _ _ _ u u u u).set4 _ _ _ _ _ _ _ _ u u u u).mono qB,((QC.set4 _ _ _ _ _ _ _ _ u u u u).set4 _ _ _ _ _ _ _ _ u u u u).mono qB,gw,qD⟩
 ·exact Bh.rd (g:=DA) (z:=(Ct x.2 y).1) ((hF.top.set4 WC _ _ _ _ _ _ _ _ u u u u).set4 (WC.set4 _ _ _ _ _ _ _ _ u u u u) _ _ _ _ _ _ _ _ u u u u)
 ·exact Bh.rd (g:=DB) (z:=(Ct x.2 y).2) ((hF.low.set4 QC _ _ _ _ _ _ _ _ u u u u).set4 (QC.set4 _ _ _ _ _ _ _ _ u u u u) _ _ _ _ _ _ _ _ u u u u)
theorem Gn {P:Program} {f:FuncId} {fn:Func} {c:Code} (hf:P.funcs[f]? = some fn) (adm:(fn.name == "runtime.NumGoroutine")=false) (hb:fn.body=some c) (args:Array Value) (w:World) :
  (callFunc f args).run P w=.ok (.enter f args) w:=by
 have h1:fn.name ≠ "runtime.NumGoroutine" := by simpa using adm
 simp [callFunc,hf,h1,hb]
theorem gE (h:Be w B a n c l) (hl:PW l) (K:Nat) (hK:Cj K l) (QF:K≤1000000) (hn:n≤400000)
  (g1:Bool) (a1:Γ) (n1 c1:Nat) (g2:Bool) (a2:Γ) (n2 c2:Nat) (y:PC) (hy:l≠[]→Bo w g1 a1 n1 c1 y.1 g2 a2 n2 c2 y.2) (q3:n1≤1000000000) (q4:n2≤1000000000) (hw:∀k,wtk (Ej y l) k≤400000) :
  Θ 102 #[.slice a n c,.agg #[.bool g1,.slice a1 n1 c1,.bool g2,.slice a2 n2 c2]] w (Fy w (Ti y l)):=by
 obtain ⟨p,hp,jv⟩:=h.ts;have kx:=h.pok hl hp jv;have LJ:=h.few hK hp jv;have hyc:∀x,x∈l→CW y:=fun x hx=>⟨(hy (List.ne_nil_of_mem hx)).pos,(hy (List.ne_nil_of_mem hx)).red⟩
 have HY:=Ae hy;have HYC:=Ae hyc;have P1:=Ae kx;have P3:Hid (∀k,k<n→(p k).n1≤1000000∧(p k).n2≤1000000):=Ae fun k hk=>by have:=LJ k hk;omega
 have P5:=Ae jv;have P6:=Ae hw;have P7:=Ae hl;clear kx LJ jv hw hy hyc;go_enter func102,ntmps102;go_wp2_with fail;refine (aQ _ a n c p (hp.keep qD) P3.out true ⟨fun _=>rfl,fun _=>P1.out⟩).mono ?_;rintro e w1 ⟨rfl,br⟩;have B1:xp w w1:=Al qD (br.mono qH);have z0:Z w1 w 0 (.bool g1):=(br.cell qH).trans qJ;have z1:Z w1 w 1 (.slice a1 n1 c1):=(br.cell qH).trans qJ;have z2:Z w1 w 2 (.bool g2):=(br.cell qH).trans qJ;have z3:Z w1 w 3 (.slice a2 n2 c2):=(br.cell qH).trans qJ;go_wp2_with fail;refine (yD w1 a n c p (hp.keep B1) l h.len 174 #[.pointer (E w)] (fun t=>(t.1,Ct t.2 y)) (Gn func174 qE rfl) (Ae fun W hW k x hx=>?_) (fun x hx=>(P7.out.good x hx).1.mul (HYC.out x hx)) (fun x hx=>P7.out.key x hx) P6.out hn).mono ?_
 ·have hk:k<n:=by have:=(List.getElem?_eq_some_iff.1 hx).1;have:=h.len;omega
  have hm:=A7 hx;have hq:=P3.out k hk;exact oI W (p k) x (((hp.tm k hk).keep B1).keep hW) (P5.out k x hx).1 (P7.out.good x hm).1 w g1 a1 n1 c1 g2 a2 n2 c2 y (((HY.out (List.ne_nil_of_mem hm)).keep B1).keep hW) (Bb hW z0) (Bb hW z1) (Bb hW z2) (Bb hW z3) qB qB q3 q4
 rintro e w2 ⟨a2,n2,c2,rfl,P2,PO,bp⟩;go_wp2_with fail;refine bodyPost_ret (v:=.slice a2 n2 c2) (by simp [results,results102,go_sem]) rfl ?_;exact ⟨a2,n2,c2,rfl,P2.mono B1.size,PO.mono B1.size,(xo B1 bp)⟩
theorem Bo.setB {w:World} {B:Nat} {x:Addr} {u:Value} (k1:Nw B n1 a1) (k2:Nw B n2 a2) (hp:x.block<B) (h:Bo w g1 a1 n1 c1 p g2 a2 n2 c2 q):Bo (w.setCell x u) g1 a1 n1 c1 p g2 a2 n2 c2 q :=
 ⟨h.top.setB k1 hp,h.low.setB k2 hp,h.pos,h.red⟩
theorem Bo.allocB {w:World} {o:Obj} (h:Bo w g1 a1 n1 c1 p g2 a2 n2 c2 q):Bo (w.alloc o) g1 a1 n1 c1 p g2 a2 n2 c2 q:=⟨h.top.allocB,h.low.allocB,h.pos,h.red⟩
def aR (w wc:World) (v:Value) (y:PC):Prop:=∃b g1 a1 n1 c1 g2 a2 n2 c2,v=.pointer (E b)∧Z wc b 0 (.bool g1)∧Z wc b 1 (.slice a1 n1 c1)∧Z wc b 2 (.bool g2)∧Z wc b 3 (.slice a2 n2 c2)∧Bo wc g1 a1 n1 c1 y.1 g2 a2 n2 c2 y.2∧Nw w n1 a1∧Nw w n2 a2∧xp w wc
theorem I9 {K:Nat} {y:PC} (h:Ch K y):Ch K (Kc (1,1) y):=by
 have e:Kc (1,1) y=J4 y.2 y.1:=by rw [Pj,Int.one_mul,Int.mul_one]
 rw [e];unfold J4
 split
 ·refine ⟨?_,?_⟩
  ·show (dg (-(y.2/_)).natAbs).length≤K;rw [Int.natAbs_neg];exact Ah (Kz _ _) h.2
  ·show (dg (-(y.1/_)).natAbs).length≤K;rw [Int.natAbs_neg];exact Ah (Kz _ _) h.1
 ·exact ⟨Ah (Kz _ _) h.2,Ah (Kz _ _) h.1⟩
theorem by_c (h:Be w B a n c l) (hl:PW l) (K:Nat) (hK:Cj K l) (QF:K≤1000000) (hn:n≤400000)
  (g1:Bool) (a1:Γ) (n1 c1:Nat) (g2:Bool) (a2:Γ) (n2 c2:Nat) (y:PC) (hy:Bo w g1 a1 n1 c1 y.1 g2 a2 n2 c2 y.2) (h0:y.1≠0) (q1:n1≤1000000) (q2:n2≤1000000) (hw:∀k,wtk (Ej (Kc (1,1) y) l) k≤400000) :
  Θ 145 #[.slice a n c,.agg #[.bool g1,.slice a1 n1 c1,.bool g2,.slice a2 n2 c2]] w (Fy w (Ti (Kc (1,1) y) l)):=by
 have HW:=Ae hw;have HB:=Ac w w;clear hw;go_enter func145,ntmps145;go_wp2_with fail;have QG:Ch 1000000 (Kc (1,1) y):=I9 ⟨by have:=hy.top.rd.len;omega,by have:=hy.low.rd.len;omega⟩;have HF:=Ae QG;clear QG;go_cut [5] (fun v5 wc=>aR w wc v5 (Kc (1,1) y))
 case first =>
  go_region_held3 (fun W=>Z W w 0 (.bool g1)∧Z W w 1 (.slice a1 n1 c1)∧Z W w 2 (.bool g2)∧Z W w 3 (.slice a2 n2 c2)) (exact qK) (first
   | (go_at_call 95;(with_reducible refine (Nx _ 1 qB qB).mono ?_);rintro e w1 ⟨g3,a3,n3,c3,g4,a4,n4,c4,rfl,j7,sq,GJ,gw,hb⟩;obtain ⟨hc,hf⟩:=Bg hb;have hz:=hb.size;(try simp only [Aj,Ak,Am] at hz);replace HB:=zP w hb;obtain ⟨aw,bh,ei,ej⟩:=xe hc w g1 a1 n1 c1 g2 a2 n2 c2;have SC:=Fk j7.top qI;have hq4:=Fk j7.low qI;(try have k0:w.heap.size<w1:=qB);(try have k1:w.heap.size+1<w1:=qB);(try have k2:w.heap.size+1+1<w1:=qB))
   | (go_at_call 99;(with_reducible refine (dP _ _ _ _ _ (1,1) _ _ _ _ (j7.keep qD) _ _ _ _ y _ _ _ _ (hy.keep qD) h0 qB qB qB qB).mono ?_);rintro e w2 ⟨g5,a5,n5,c5,g6,a6,n6,c6,rfl,ew,nh,ED,hb⟩;obtain ⟨hc,hf⟩:=Bg hb;have hz:=hb.size;(try simp only [Aj,Ak,Am] at hz);replace HB:=zP w hb;obtain ⟨aw,bh,ei,ej⟩:=xe hc w g1 a1 n1 c1 g2 a2 n2 c2;(try have k0:w.heap.size<w2:=qB);(try have k1:w.heap.size+1<w2:=qB);(try have k2:w.heap.size+1+1<w2:=qB);(try have k4:w1.heap.size<w2:=qB)))
  all_goals
   exact qAs
 case rest =>
  obtain ⟨b,g5,a5,n5,c5,g6,a6,n6,c6,rfl,z0,z1,z2,z3,ew,-,-,HC⟩:=hcut;go_wp2_with fail;refine (gE wc B a n c l (h.keep HC) hl K hK QF hn _ _ _ _ _ _ _ _ (Kc (1,1) y) (fun _=>ew) (by have h5:=gJ ew.top HF.out.1;omega) (by have h5:=gJ ew.low HF.out.2;omega) HW.out).mono ?_;rintro e w3 ⟨a3,n3,c3,rfl,P3,PO,ea⟩;go_wp2_with fail;refine bodyPost_ret (v:=.slice a3 n3 c3) (by simp [results,results145,go_sem]) rfl ?_;exact ⟨a3,n3,c3,rfl,P3.mono HC.size,PO.mono HC.size,(xo HC ea)⟩
theorem vO (g:Bool) (a:Γ) (n c:Nat) (z:Int) (h:Bh w g a n c z) (g':Bool) (a':Γ) (n' c':Nat) (z':Int) (h':Bh w g' a' n' c' z') (j5:z'≠0) (br:n<35184372088829) (bp:n'<35184372088829) :
  Θ 109 #[.agg #[.bool g,.slice a n c],.agg #[.bool g',.slice a' n' c']] w (Hs w (J4 z z').1 (J4 z z').2):=by
 by_cases h0:z'<0
 ·have h1:=Aas w g a n c z h g' a' n' c' z' h' h0 br bp;have e1:(J4 z z').1=Fh (-z) (-z'):=by
   unfold J4 Fh;rw [if_pos h0,Int.neg_gcd,Int.gcd_neg,Int.neg_ediv_of_dvd (Int.gcd_dvd_left ..)]
  have e2:(J4 z z').2=E5 (-z) (-z'):=by
   unfold J4 E5;rw [if_pos h0,Int.neg_gcd,Int.gcd_neg,Int.neg_ediv_of_dvd (Int.gcd_dvd_right ..)]
  rw [e1,e2];exact h1
 ·have h1:=dV w g a n c z h g' a' n' c' z' h' qB br bp;have e1:(J4 z z').1=Fh z z':=by unfold J4 Fh;rw [if_neg h0]
  have e2:(J4 z z').2=E5 z z':=by unfold J4 E5;rw [if_neg h0]
  rw [e1,e2];exact h1
def Aan (w:World) (y:PC) (e:Ending) (w':World):Prop :=
 ∃g1 a1 n1 c1 g2 a2 n2 c2,e=.returned (.tuple #[.agg #[.bool g1,.slice a1 n1 c1,.bool g2,.slice a2 n2 c2],M 0])∧Bo w' g1 a1 n1 c1 (Fl y).1 g2 a2 n2 c2 (Fl y).2∧Bc w w' a1 c1∧Bc w w' a2 c2∧xp w w'
theorem oY (g1:Bool) (a1:Γ) (n1 c1:Nat) (g2:Bool) (a2:Γ) (n2 c2:Nat) (h:Bo w g1 a1 n1 c1 1 g2 a2 n2 c2 1) (g3:Bool) (a3:Γ) (n3 c3:Nat) (g4:Bool) (a4:Γ) (n4 c4:Nat) (y:PC) (h':Bo w g3 a3 n3 c3 y.1 g4 a4 n4 c4 y.2) (hy:y.1≠0) (b3:n3≤1000000) (b4:n4≤1000000) :
  Θ 29 #[.agg #[.bool g1,.slice a1 n1 c1,.bool g2,.slice a2 n2 c2],.agg #[.bool g3,.slice a3 n3 c3,.bool g4,.slice a4 n4 c4]] w (Aan w y):=by
 have b1:n1≤1:=Fk h.top qI;have b2:n2≤1:=Fk h.low qI;have HO:=Ae (Ax h.ok h'.ok);have HH:=Ae (Ax h h');have ig:(Bz y.1 0==0)=false:=by
  rw [beq_eq_false_iff_ne];intro e;rcases Int.lt_trichotomy y.1 0 with h|h|h
  ·rw [C6 h] at e;omega
  ·exact hy h
  ·rw [C7 h] at e;omega
 obtain ⟨z,hz⟩:∃z,z=Bz y.1 0:=⟨_,rfl⟩;rw [←hz] at ig;have HZ:=Ae hz;have HY:=Ae hy;clear h h' hy hz;go_enter func29,ntmps29;go_wp2_with fail;refine Bt ?_;intro w0 cw;have k0:xp w w0:=by rw [cw];go_grown
 have A0:Blk w0 w #[.bool g1,.slice a1 n1 c1,.bool g2,.slice a2 n2 c2] 53:=by rw [cw];exact ((C0 rfl _ _).alloc _).alloc _
 have B0:Blk w0 (w+1) #[.bool g3,.slice a3 n3 c3,.bool g4,.slice a4 n4 c4] 53:=by rw [cw];exact (C0 qH _ _).alloc _
 have R0:Blk w0 (w+1+1) #[.bool false,.slice none 0 0,.bool false,.slice none 0 0] 53:=by rw [cw];exact C0 qH _ _
 clear cw;refine (Fs w0 _ _ _ _ _ (HH.out.1.top.rd.keep k0) _ _ _ _ _ (HH.out.1.low.rd.keep k0) qB qB true ⟨fun _=>rfl,fun _=>HO.out.1⟩).mono ?_;rintro e w1 ⟨rfl,k1⟩;have A1:=A0.keep k1;have B1:=B0.keep k1;have R1:=R0.keep k1;have q1:=xo k0 k1;have s0:Z w1 w 0 (.bool g1):=A1.cell 0 _ rfl;have s1:Z w1 w 1 (.slice a1 n1 c1):=A1.cell 1 _ rfl;have s2:Z w1 w 2 (.bool g2):=A1.cell 2 _ rfl;have s3:Z w1 w 3 (.slice a2 n2 c2):=A1.cell 3 _ rfl;have t0:Z w1 (w+1) 0 (.bool g3):=B1.cell 0 _ rfl;have t1:Z w1 (w+1) 1 (.slice a3 n3 c3):=B1.cell 1 _ rfl;have t2:Z w1 (w+1) 2 (.bool g4):=B1.cell 2 _ rfl;have t3:Z w1 (w+1) 3 (.slice a4 n4 c4):=B1.cell 3 _ rfl;have r0:Z w1 (w+1+1) 0 (.bool false):=R1.cell 0 _ rfl;have r1:Z w1 (w+1+1) 1 (.slice none 0 0):=R1.cell 1 _ rfl;have r2:Z w1 (w+1+1) 2 (.bool false):=R1.cell 2 _ rfl;have r3:Z w1 (w+1+1) 3 (.slice none 0 0):=R1.cell 3 _ rfl;have JJ:Y w1 (w+1+1) 0:=R1.frozen 0;have JK:Y w1 (w+1+1) 1:=R1.frozen 1;have JL:Y w1 (w+1+1) 2:=R1.frozen 2;have JM:Y w1 (w+1+1) 3:=R1.frozen 3;have zr:w.heap.size+1+1<w1:=R1.lt;clear A0 B0 R0 k0 k1;go_wp2_with fail;refine (Fs w1 _ _ _ _ _ (HH.out.2.top.rd.keep q1) _ _ _ _ _ (HH.out.2.low.rd.keep q1) qB qB true ⟨fun _=>rfl,fun _=>HO.out.2⟩).mono ?_;rintro e w2 ⟨rfl,k2⟩;have A2:=A1.keep k2;have B2:=B1.keep k2;have R2:=R1.keep k2;have q2:=xo q1 k2;replace s0:Z w2 w 0 (.bool g1):=A2.cell 0 _ rfl;replace s1:Z w2 w 1 (.slice a1 n1 c1):=A2.cell 1 _ rfl;replace s2:Z w2 w 2 (.bool g2):=A2.cell 2 _ rfl;replace s3:Z w2 w 3 (.slice a2 n2 c2):=A2.cell 3 _ rfl;replace t0:Z w2 (w+1) 0 (.bool g3):=B2.cell 0 _ rfl;replace t1:Z w2 (w+1) 1 (.slice a3 n3 c3):=B2.cell 1 _ rfl;replace t2:Z w2 (w+1) 2 (.bool g4):=B2.cell 2 _ rfl;replace t3:Z w2 (w+1) 3 (.slice a4 n4 c4):=B2.cell 3 _ rfl;replace r0:Z w2 (w+1+1) 0 (.bool false):=R2.cell 0 _ rfl;replace r1:Z w2 (w+1+1) 1 (.slice none 0 0):=R2.cell 1 _ rfl;replace r2:Z w2 (w+1+1) 2 (.bool false):=R2.cell 2 _ rfl;replace r3:Z w2 (w+1+1) 3 (.slice none 0 0):=R2.cell 3 _ rfl;replace JJ:Y w2 (w+1+1) 0:=R2.frozen 0;replace JK:Y w2 (w+1+1) 1:=R2.frozen 1;replace JL:Y w2 (w+1+1) 2:=R2.frozen 2
 replace JM:Y w2 (w+1+1) 3:=R2.frozen 3;replace zr:w.heap.size+1+1<w2:=R2.lt;clear A1 B1 R1 k2 q1 HO;go_wp2_with fail;refine (K5 w2 _ _ _ _ y.1 (HH.out.2.top.keep q2)).mono ?_;rintro e w3 ⟨rfl,k3⟩;rw [←HZ.out];have A3:=A2.keep k3;have B3:=B2.keep k3;have R3:=R2.keep k3;have q3:=xo q2 k3;replace s0:Z w3 w 0 (.bool g1):=A3.cell 0 _ rfl;replace s1:Z w3 w 1 (.slice a1 n1 c1):=A3.cell 1 _ rfl;replace s2:Z w3 w 2 (.bool g2):=A3.cell 2 _ rfl;replace s3:Z w3 w 3 (.slice a2 n2 c2):=A3.cell 3 _ rfl;replace t0:Z w3 (w+1) 0 (.bool g3):=B3.cell 0 _ rfl;replace t1:Z w3 (w+1) 1 (.slice a3 n3 c3):=B3.cell 1 _ rfl;replace t2:Z w3 (w+1) 2 (.bool g4):=B3.cell 2 _ rfl;replace t3:Z w3 (w+1) 3 (.slice a4 n4 c4):=B3.cell 3 _ rfl;replace r0:Z w3 (w+1+1) 0 (.bool false):=R3.cell 0 _ rfl;replace r1:Z w3 (w+1+1) 1 (.slice none 0 0):=R3.cell 1 _ rfl;replace r2:Z w3 (w+1+1) 2 (.bool false):=R3.cell 2 _ rfl;replace r3:Z w3 (w+1+1) 3 (.slice none 0 0):=R3.cell 3 _ rfl;replace JJ:Y w3 (w+1+1) 0:=R3.frozen 0;replace JK:Y w3 (w+1+1) 1:=R3.frozen 1;replace JL:Y w3 (w+1+1) 2:=R3.frozen 2;replace JM:Y w3 (w+1+1) 3:=R3.frozen 3;replace zr:w.heap.size+1+1<w3:=R3.lt;clear A2 B2 R2 k3 q2 HZ;have HF:=Ae (Ax (HH.out.1.keep q3) (HH.out.2.keep q3));go_wp2_with fail;go_region_held3 (fun W=>Z W w 0 (.bool g1)∧Z W w 1 (.slice a1 n1 c1)∧Z W w 2 (.bool g2)∧Z W w 3 (.slice a2 n2 c2)∧Z W (w+1) 0 (.bool g3)∧Z W (w+1) 1 (.slice a3 n3 c3)∧Z W (w+1) 2 (.bool g4)∧Z W (w+1) 3 (.slice a4 n4 c4)) (exact qK) (first
  | (go_at_call 110;(with_reducible refine (Ob _ g1 a1 n1 c1 1 (HF.out.1.top.keep qS) g4 a4 n4 c4 y.2 (HF.out.2.low.keep qS) qB qB).mono ?_);rintro e w4 ⟨g5,a5,n5,c5,rfl,h5,-,hb⟩;have k4:xp w3 w4:=Al qS (hb.mono qV);have A4:=A3.keep k4;have B4:=B3.keep k4;have R4:=R3.keep k4;replace s0:Z w4 w 0 (.bool g1):=A4.cell 0 _ rfl;replace s1:Z w4 w 1 (.slice a1 n1 c1):=A4.cell 1 _ rfl;replace s2:Z w4 w 2 (.bool g2):=A4.cell 2 _ rfl;replace s3:Z w4 w 3 (.slice a2 n2 c2):=A4.cell 3 _ rfl;replace t0:Z w4 (w+1) 0 (.bool g3):=B4.cell 0 _ rfl;replace t1:Z w4 (w+1) 1 (.slice a3 n3 c3):=B4.cell 1 _ rfl;replace t2:Z w4 (w+1) 2 (.bool g4):=B4.cell 2 _ rfl;replace t3:Z w4 (w+1) 3 (.slice a4 n4 c4):=B4.cell 3 _ rfl;replace r0:Z w4 (w+1+1) 0 (.bool false):=R4.cell 0 _ rfl;replace r1:Z w4 (w+1+1) 1 (.slice none 0 0):=R4.cell 1 _ rfl;replace r2:Z w4 (w+1+1) 2 (.bool false):=R4.cell 2 _ rfl;replace r3:Z w4 (w+1+1) 3 (.slice none 0 0):=R4.cell 3 _ rfl;replace JJ:Y w4 (w+1+1) 0:=R4.frozen 0;replace JK:Y w4 (w+1+1) 1:=R4.frozen 1;replace JL:Y w4 (w+1+1) 2:=R4.frozen 2;replace JM:Y w4 (w+1+1) 3:=R4.frozen 3;replace zr:w.heap.size+1+1<w4:=R4.lt;have HF4:=Ae (Ax (HF.out.1.keep k4) (HF.out.2.keep k4)))
  | (go_at_call 110;(with_reducible refine (Ob _ g3 a3 n3 c3 y.1 (HF4.out.2.top.keep qS) g2 a2 n2 c2 1 (HF4.out.1.low.keep qS) qB qB).mono ?_);rintro e w5 ⟨g6,a6,n6,c6,rfl,h6,-,hb⟩;have k5:xp w4 w5:=Al qS (hb.mono qV);have A5:=A4.keep k5;have B5:=B4.keep k5;have R5:=R4.keep k5;replace s0:Z w5 w 0 (.bool g1):=A5.cell 0 _ rfl;replace s1:Z w5 w 1 (.slice a1 n1 c1):=A5.cell 1 _ rfl;replace s2:Z w5 w 2 (.bool g2):=A5.cell 2 _ rfl;replace s3:Z w5 w 3 (.slice a2 n2 c2):=A5.cell 3 _ rfl;replace t0:Z w5 (w+1) 0 (.bool g3):=B5.cell 0 _ rfl;replace t1:Z w5 (w+1) 1 (.slice a3 n3 c3):=B5.cell 1 _ rfl;replace t2:Z w5 (w+1) 2 (.bool g4):=B5.cell 2 _ rfl;replace t3:Z w5 (w+1) 3 (.slice a4 n4 c4):=B5.cell 3 _ rfl;replace r0:Z w5 (w+1+1) 0 (.bool false):=R5.cell 0 _ rfl;replace r1:Z w5 (w+1+1) 1 (.slice none 0 0):=R5.cell 1 _ rfl;replace r2:Z w5 (w+1+1) 2 (.bool false):=R5.cell 2 _ rfl;replace r3:Z w5 (w+1+1) 3 (.slice none 0 0):=R5.cell 3 _ rfl;replace JJ:Y w5 (w+1+1) 0:=R5.frozen 0;replace JK:Y w5 (w+1+1) 1:=R5.frozen 1;replace JL:Y w5 (w+1+1) 2:=R5.frozen 2;replace JM:Y w5 (w+1+1) 3:=R5.frozen 3;replace zr:w.heap.size+1+1<w5:=R5.lt;have h5':=h5.keep k5;have m5:n5<35184372088829:=(by have x1:=h5'.rd.len;have x2:=HF4.out.2.low.rd.len;rw [Int.one_mul] at x1;omega);have m6:n6<35184372088829:=(by have x1:=h6.rd.len;have x2:=HF4.out.2.top.rd.len;rw [Int.mul_one] at x1;omega))
  | (go_at_call 109;(with_reducible refine (vO _ g5 a5 n5 c5 (1*y.2) (h5'.keep qS) g6 a6 n6 c6 (y.1*1) (h6.keep qS) (by rw [Int.mul_one];exact HY.out) m5 m6).mono ?_);rintro e w6 ⟨g7,a7,n7,c7,g8,a8,n8,c8,rfl,h7,hf7,hf8,hb⟩;have k6:xp w5 w6:=Al qS (hb.mono qV);have A6:=A5.keep k6;have B6:=B5.keep k6;have R6:=R5.keep k6;replace s0:Z w6 w 0 (.bool g1):=A6.cell 0 _ rfl;replace s1:Z w6 w 1 (.slice a1 n1 c1):=A6.cell 1 _ rfl;replace s2:Z w6 w 2 (.bool g2):=A6.cell 2 _ rfl;replace s3:Z w6 w 3 (.slice a2 n2 c2):=A6.cell 3 _ rfl;replace t0:Z w6 (w+1) 0 (.bool g3):=B6.cell 0 _ rfl;replace t1:Z w6 (w+1) 1 (.slice a3 n3 c3):=B6.cell 1 _ rfl;replace t2:Z w6 (w+1) 2 (.bool g4):=B6.cell 2 _ rfl;replace t3:Z w6 (w+1) 3 (.slice a4 n4 c4):=B6.cell 3 _ rfl;replace r0:Z w6 (w+1+1) 0 (.bool false):=R6.cell 0 _ rfl;replace r1:Z w6 (w+1+1) 1 (.slice none 0 0):=R6.cell 1 _ rfl;replace r2:Z w6 (w+1+1) 2 (.bool false):=R6.cell 2 _ rfl;replace r3:Z w6 (w+1+1) 3 (.slice none 0 0):=R6.cell 3 _ rfl;replace JJ:Y w6 (w+1+1) 0:=R6.frozen 0;replace JK:Y w6 (w+1+1) 1:=R6.frozen 1;replace JL:Y w6 (w+1+1) 2:=R6.frozen 2;replace JM:Y w6 (w+1+1) 3:=R6.frozen 3;replace zr:w.heap.size+1+1<w6:=R6.lt))
 have f7:Bc (w+1+1+1) w6 a7 c7:=hf7.mono (by have:=R5.lt;first|omega|(simp;omega));have f8:Bc (w+1+1+1) w6 a8 c8:=hf8.mono (by have:=R5.lt;first|omega|(simp;omega));have q4:=xo q3 k4;have q5:=xo q4 k5;have q6:=xo q5 k6;have u2:w.heap.size+1+1<w.heap.size+1+1+1:=Ag _;go_wp2_with fail;refine bodyPost_ret (v:=.tuple #[.agg #[.bool g7,.slice a7 n7 c7,.bool g8,.slice a8 n8 c8],M 0]) (by simp [results,results29,go_sem,r0,r1,r2,r3]) rfl ?_;refine ⟨g7,a7,n7,c7,g8,a8,n8,c8,rfl,⟨?_,?_,h7.pos,h7.red⟩,(f7.set4 _ _ _ _ _ _ _ _ u2 u2 u2 u2).mono qB,(f8.set4 _ _ _ _ _ _ _ _ u2 u2 u2 u2).mono qB,qD⟩
 ·exact h7.top.set4 f7 _ _ _ _ _ _ _ _ u2 u2 u2 u2
 ·exact h7.low.set4 f8 _ _ _ _ _ _ _ _ u2 u2 u2 u2
end Go.Proofs.YtfijkfdfbnfmmaaGreatDoor
end
