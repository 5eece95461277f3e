/- Package polys: only, Letter, of the first letter. -/
import Derived.Test.YtnnhcbeiogaknaaGreatDoorQV33
import Derived.Test.YtnnhcbeiogaknaaGreatDoorQV34
set_option linter.unusedSimpArgs false
set_option linter.unusedVariables false
set_option maxRecDepth 100000
set_option maxHeartbeats 4000000
section
namespace Go.Proofs.YtnnhcbeiogaknaaGreatDoor
open Go.RowKit
theorem wU (w:World):Θ 36 #[.int .i64 0] w (fun e w'=>e=.returned (.agg #[.int .u16 1,.int .u16 0,.int .u16 0,.int .u16 0])∧Below w.heap.size w w'):=by
 go_enter Tryz.func36,Tryz.ntmps36;go_wp2_with fail;refine bodyPost_ret (v:=.agg #[.int .u16 1,.int .u16 0,.int .u16 0,.int .u16 0]) (by simp [results,Tryz.results36,go_sem]) rfl ?_;exact ⟨rfl,by go_grown⟩
theorem kT (w:World):Θ 8 #[.int .i64 0] w (F7 w [(281474976710656,1,1)]):=by
 have HB:=Ac w.heap.size w;go_enter Tryz.func8,Tryz.ntmps8;go_wp2_with fail;refine (Fh w 1 qA qA).mono ?_;rintro e w1 ⟨g1,a1,n1,c1,g2,a2,n2,c2,rfl,hfr,hf1,hf2,hap,hb1⟩;go_wp2_with fail;refine (wU w1).mono ?_;rintro e w2 ⟨rfl,hb2⟩;have z1:=hb1.size;have z2:=hb2.size;go_wp2_with fail;obtain ⟨w3,hw3⟩:∃w3,w3=w2.alloc (.cells #[.bool g1,.slice a1 n1 c1,.bool g2,.slice a2 n2 c2,.int .u16 1,.int .u16 0,.int .u16 0,.int .u16 0] 79):=⟨_,rfl⟩;rw [←hw3];have b3:Below w2.heap.size w2 w3:=by rw [hw3];go_grown
 have b13:=hb2.trans (b3.mono z2);have ht:Ll w3 w2.heap.size 0 ⟨g1,a1,n1,c1,dg (1:Int).natAbs,g2,a2,n2,c2,dg (1:Int).natAbs,1,0,0,0⟩:=by rw [hw3];constructor<;>simp [go_sem]
 have hrow:∃cur,w3.heap[w2.heap.size]? = some (.cells cur 79 (0,0))∧8≤cur.size:=⟨_,by rw [hw3];exact heap_alloc_new w2 _,by simp⟩;have hP:=Td (B:=w.heap.size) (c:=((1,1):PC)) (hfr.keep b13) (hf1.keep b13) (hf2.keep b13) hap (m0:=1) (m1:=0) (m2:=0) (m3:=0) qA qA qA qA qA hrow ht;have hb:=(hb1.trans (hb2.mono z1)).trans (b3.mono qA);clear hw3;refine bodyPost_ret (v:=.tuple #[.slice (some ⟨w2.heap.size,0,none⟩) 1 1,.int .i64 0]) (by simp [results,Tryz.results8,go_sem]) rfl ?_;exact ⟨_,_,_,rfl,hP.1,hP.2,hb⟩
def Ir (f:Nat→Int):Nat→Option (Δ)
 | 0=>some []
 | k+1=>(Ir f k).bind fun o=>if f k=0 then some o else Ps o [(k*281474976710656,f k,1)]
theorem Qc {f:Nat→Int}:∀{n:Nat} {r:Δ},Ir f n=some r→∀i,i≤n→∃o,Ir f i=some o∧Sm o
 | 0,r,h,i,hi=>by
  obtain rfl:i=0:=by omega
  exact ⟨[],rfl,Sm.nil⟩
 | n+1,r,h,i,hi=>by
  have h0:=h;unfold Ir at h;obtain ⟨o,h1,h2⟩:=Option.bind_eq_some_iff.1 h;by_cases e:i=n+1
  ·subst e;refine ⟨r,h0,?_⟩
   split at h2
   ·cases h2
    obtain ⟨o',h3,h4⟩:=Qc h1 n (Ad _);rw [h1] at h3;cases h3
    exact h4
   ·exact (Jk h2).2
  ·exact Qc h1 i qA
theorem lU (wo:World) (a:Γ) (n c:Nat) (f:Nat→Int) (h:RdZ wo a n f) (hn:n≤1001) (hf:∀k,k<n→-1099511627776≤f k∧f k≤1099511627776) (r:Δ) (hr:Ir f n=some r) :
  Θ 110 #[.agg #[.int .i64 0,.slice a n c]] wo (Cl wo r):=by
 have HB:=Ac wo.heap.size wo;have HR:=Ae hr;have HF:=Ae hf;clear hr hf;go_enter Tryz.func110,Tryz.ntmps110;go_wp2_with fail;refine Be ?_;intro w0 hw0;have b0:Below wo.heap.size wo w0:=by rw [hw0];go_grown
 have x0:w0.cell? ⟨wo.heap.size,0,none⟩=some (.int .i64 0):=by rw [hw0];simp [go_sem]
 have x1:w0.cell? ⟨wo.heap.size,1,none⟩=some (.slice a n c):=by rw [hw0];simp [go_sem]
 clear hw0;refine (kT w0).mono ?_;rintro e w1 ⟨a1,n1,c1,rfl,hP,hO,hb1⟩;obtain rfl:n1=1:=hP.len.symm
 (replace x0:=Bc hb1 x0;replace x1:=Bc hb1 x1)
 have b1:=b0.trans (hb1.mono b0.size);go_wp2_with fail;have B1':=Ac w1.heap.size w1;go_loopw [3,18] (fun v3 v18 wr=>∃i:Nat,i≤n∧v18=.int .i64 i∧(∃(a':Γ) (n' c':Nat) (o:Δ),v3=.slice a' n' c'∧Bd wr wo.heap.size a' n' c' o∧Bm wr wo.heap.size a' n' c'∧Hid (Ir f i=some o)∧Sm o)∧Below w1.heap.size w1 wr) (fun _ v18 _=>n-(intOf v18).toNat)
 case atStart=>exact ⟨0,by omega,rfl,⟨none,0,0,[],rfl,Bd.nil _ _,Bm.nil _ _,Ae rfl,Sm.nil⟩,B1'⟩
 case round =>
  clear B1';obtain ⟨i,hi,rfl,⟨a2,n2,c2,o,rfl,hPo,hOo,hK,hSo⟩,HBr⟩:=hrel;have HBo:=b1.trans (HBr.mono b1.size);by_cases hlt:i<n
  ·obtain ⟨g,rfl,hc⟩:=(h.keep HBo).ex;have hce:=hc i hlt;have hfi:=HF.out i hlt;obtain ⟨p,hp,hpx⟩:=(hP.keep HBr).ts;obtain ⟨gb,go,rfl,hgc⟩:=hp.cell.resolve_left qA;have hat:=hgc 0 qA;rw [Nat.zero_mul,Nat.add_zero] at hat;have htk:=(hpx 0 (281474976710656,1,1) rfl).1.key;have hrt:=hp.tm 0 qA;have s1:=hrt.s1;have s2:=hrt.s2;have s3:=hrt.s3;have s0:=hrt.s0;generalize p 0=s at *;obtain ⟨g1,a3,n3,c3,d1,g2,a4,n4,c4,d2,m0,m1,m2,m3⟩:=s;have hm:m0=1∧m1=0∧m2=0∧m3=0:=by
    have e:Cg m0 m1 m2 m3=281474976710656:=htk;unfold Cg at e;simp only at s0 s1 s2 s3;omega
   obtain ⟨rfl,rfl,rfl,rfl⟩:=hm;obtain ⟨e0,e1,e2,e3,e4,e5,e6,e7⟩:=hat;simp only at e0 e1 e2 e3 e4 e5 e6 e7;obtain ⟨ow,k1,k2⟩:=Qc HR.out (i+1) qA;have HK1:=Ae k1;have hx0:=Bc HBr x0;have T0:=Dh.new wr ⟨g1,a3,n3,c3,d1,g2,a4,n4,c4,d2,1,0,0,0⟩;obtain ⟨z,hz⟩:∃z,f i=z:=⟨_,rfl⟩;rw [hz] at hce hfi;have HZ:=Ae hz;clear hc hp hpx htk hrt s0 s1 s2 s3 hz k1 hgc;obtain ⟨w,rfl⟩:∃w:World,w=wr:=⟨_,rfl⟩;go_wp2_with fail;refine Be ?_;intro w2 hw2;have b2:Below w.heap.size w w2:=by rw [hw2];go_grown
   have T2:Dh w2 w.heap.size ⟨g1,a3,n3,c3,d1,g2,a4,n4,c4,d2,1,0,0,0⟩:=by rw [hw2];exact T0
   have z2:w.heap.size<w2.heap.size:=by rw [hw2];simp
   clear hw2 T0 e0 e1 e2 e3 e4 e5 e6 e7;refine (Fh w2 z qA qA).mono ?_;rintro e w3 ⟨g5,a5,n5,c5,g6,a6,n6,c6,rfl,hfr,hf1,hf2,hap,hb3⟩;have T3:=T2.keep hb3;have b3:=b2.trans (hb3.mono b2.size);have z3:=hb3.size;have x03:=Bc b3 hx0;obtain ⟨t0,t1,t2,t3,t4,t5,t6,t7,tf0,tf1,tf2,tf3,tf4,tf5,tf6,tf7⟩:=T3;simp only at t0 t1 t2 t3 t4 t5 t6 t7;have hiu:IntKind.u16.wrap (i:Int)=i:=by simp [IntKind.wrap,IntKind.bits,IntKind.signed];omega
   have hPo3:=hPo.keep b3;have hOo3:=hOo.keep b3;have ho1:wo.heap.size<w.heap.size:=Aa _ _ hx0;have q1:¬wo.heap.size=w.heap.size:=by omega
   have q2:¬w.heap.size=wo.heap.size:=by omega
   clear T2;have gA:w3.grownBy (((((w3.setCell ⟨w.heap.size,0,none⟩ (.bool g5)).setCell ⟨w.heap.size,1,none⟩ (.slice a5 n5 c5)).setCell ⟨w.heap.size,2,none⟩ (.bool g6)).setCell ⟨w.heap.size,3,none⟩ (.slice a6 n6 c6)).setCell ⟨w.heap.size,4,none⟩ (.int .u16 i)) (some w.heap.size):=Bf _ (Bf _ (Bf _ (Bf _ (Bf _ (A7 _ _)))));have hb5:Below w.heap.size w (((((w3.setCell ⟨w.heap.size,0,none⟩ (.bool g5)).setCell ⟨w.heap.size,1,none⟩ (.slice a5 n5 c5)).setCell ⟨w.heap.size,2,none⟩ (.bool g6)).setCell ⟨w.heap.size,3,none⟩ (.slice a6 n6 c6)).setCell ⟨w.heap.size,4,none⟩ (.int .u16 i)):=((((b3.setCell (p:=⟨w.heap.size,0,none⟩) (Ad _) _).setCell (p:=⟨w.heap.size,1,none⟩) (Ad _) _).setCell (p:=⟨w.heap.size,2,none⟩) (Ad _) _).setCell (p:=⟨w.heap.size,3,none⟩) (Ad _) _).setCell (p:=⟨w.heap.size,4,none⟩) (Ad _) _;by_cases hz0:z=0
   ·subst hz0;have HK2:Hid (Ir f (i+1)=some o):=Ae (by have:=HK1.out;unfold Ir;rw [hK.out];simp [HZ.out]);go_wp2_with fail;go_roundw
    case rel=>exact ⟨i+1,by omega,by go_num,⟨a2,n2,c2,o,rfl,hPo.keep hb5,hOo.keep hb5,HK2,hSo⟩,HBr.trans (hb5.mono HBr.size)⟩
    case measure=>(first|(simp [intOf];omega)|(simp [intOf];done))
   ·have hzb:(z==0)=false:=by rw [beq_eq_false_iff_ne];exact hz0
    have hadd:Ps o [(i*281474976710656,z,1)]=some ow:=by
     have:=HK1.out;unfold Ir at this;rw [hK.out] at this;simpa [HZ.out,hz0] using this
    obtain ⟨how,hsow⟩:=Jk hadd;have hsm:Sm [(i*281474976710656,z,1)]:=by
     have h4:By 100 ((1099511627776,1):PC):=By.mono (Oc _) qI;refine ⟨⟨by simp [Ct],fun t ht=>?_,fun t ht=>?_⟩,fun t ht=>?_,by simp⟩<;>(rw [Ao] at ht;subst ht)
     ·exact ⟨H6 z,hz0⟩
     ·show i*281474976710656<_;omega
     ·exact ⟨Ah (Bn (a:=z.natAbs) (b:=1099511627776) qA) h4.1,h4.2⟩
    go_wp2_with fail;generalize hW5:(((((w3.setCell ⟨w.heap.size,0,none⟩ (.bool g5)).setCell ⟨w.heap.size,1,none⟩ (.slice a5 n5 c5)).setCell ⟨w.heap.size,2,none⟩ (.bool g6)).setCell ⟨w.heap.size,3,none⟩ (.slice a6 n6 c6)).setCell ⟨w.heap.size,4,none⟩ (.int .u16 i))=w5 at *;have hs5:w5.heap.size=w3.heap.size:=by rw [←hW5];simp
    clear hW5 t0 t1 t2 t3 t4 t5 t6 t7 tf0 tf1 tf2 tf3 tf4 tf5 tf6 tf7;have hfr5:=hfr.butR (hf1.nw hfr.top.rd) (hf2.nw hfr.low.rd) gA (fun k e=>by cases e;exact z2);have f5:=hf1.butR gA (fun k e=>by cases e;exact z2);have f6:=hf2.butR gA (fun k e=>by cases e;exact z2);obtain ⟨w6,hw6⟩:∃w6,w6=w5.alloc (.cells #[.bool g5,.slice a5 n5 c5,.bool g6,.slice a6 n6 c6,.int .u16 i,.int .u16 0,.int .u16 0,.int .u16 0] 79):=⟨_,rfl⟩;rw [←hw6,←hs5];have b6:Below w5.heap.size w5 w6:=by rw [hw6];go_grown
    have ht:Ll w6 w5.heap.size 0 ⟨g5,a5,n5,c5,dg z.natAbs,g6,a6,n6,c6,dg (1:Int).natAbs,i,0,0,0⟩:=by rw [hw6];constructor<;>simp [go_sem]
    have hrow:∃cur,w6.heap[w5.heap.size]? = some (.cells cur 79 (0,0))∧8≤cur.size:=⟨_,by rw [hw6];exact heap_alloc_new w5 _,by simp⟩;have hP6:=(Td (B:=w2.heap.size) (c:=((z,1):PC)) (hfr5.keep b6) (f5.keep b6) (f6.keep b6) hap (m0:=i) (m1:=0) (m2:=0) (m3:=0) qA qA qA qA qA hrow ht).1;have hky:Cg i 0 0 0=i*281474976710656:=by unfold Cg;omega
    rw [hky] at hP6;have hb6:=hb5.trans (b6.mono hb5.size);clear hw6 ht hrow;refine (Tr (hPo.keep hb6) hSo hP6 hsm).mono ?_;rintro e w7 ⟨a7,n7,c7,rfl,hP7,hO7,hb7⟩;rw [←how] at hP7;have hb67:=hb6.trans (hb7.mono hb6.size);have zz1:=HBo.size;have zz2:=hb6.size;go_wp2_with fail;go_roundw
    case rel=>exact ⟨i+1,by omega,by go_num,⟨a7,n7,c7,ow,rfl,hP7.mono qA,hO7.mono qA,HK1,k2⟩,HBr.trans (hb67.mono HBr.size)⟩
    case measure=>(first|(simp [intOf];omega)|(simp [intOf];done))
  ·obtain rfl:i=n:=by omega
   have hr:=HR.out;rw [hK.out] at hr;cases hr
   go_wp2_with fail;refine bodyPost_ret (v:=.slice a2 n2 c2) (by simp [results,Tryz.results110,go_sem]) rfl ?_;exact ⟨a2,n2,c2,rfl,hPo,hOo,HBo⟩
theorem mX (w:World) (g1:Bool) (a1:Γ) (n1 c1:Nat) (p:Int) (g2:Bool) (a2:Γ) (n2 c2:Nat) (q:Int) (h:Bj w g1 a1 n1 c1 p g2 a2 n2 c2 q)
  (g3:Bool) (a3:Γ) (n3 c3:Nat) (p':Int) (g4:Bool) (a4:Γ) (n4 c4:Nat) (q':Int) (h':Bj w g3 a3 n3 c3 p' g4 a4 n4 c4 q') (hb1:n1≤1000000000) (hb2:n2≤1000000000) (hb3:n3≤1000000000) (hb4:n4≤1000000000) :
  Θ 18 #[.agg #[.bool g1,.slice a1 n1 c1,.bool g2,.slice a2 n2 c2],.agg #[.bool g3,.slice a3 n3 c3,.bool g4,.slice a4 n4 c4]] w (fun e w'=>e=.returned (.int .i64 (Bz (p*q') (p'*q)))∧Below w.heap.size w w'):=by
 have HB:=Ac w.heap.size w;go_enter Tryz.func18,Tryz.ntmps18;go_wp2_with fail;refine Be ?_;intro w0 hw0;have b0:Below w.heap.size w w0:=by rw [hw0];go_grown
 clear hw0;refine (Jg _ _ _ _ _ _ _ _ _ _ _ (h.keep b0) _ _ _ _ _ _ _ _ _ _ (h'.keep b0) hb1 hb2 hb3 hb4).mono ?_;rintro e w3 ⟨gx,ax,nx,cx,gy,ay,ny,cy,gq,aq,nq,cq,rfl,hX,hY,hQ,hfx,hfy,hfq,hb⟩;have b3:=b0.trans (hb.mono b0.size);go_wp2_with fail;refine Be ?_;intro w4 hw4;have b4:Below w3.heap.size w3 w4:=by rw [hw4];go_grown
 clear hw4;refine (S9 w4 _ _ _ _ _ (hX.keep b4) _ _ _ _ _ (hY.keep b4)).mono ?_;rintro e w5 ⟨rfl,hb5⟩;have b5:=(b3.trans (b4.mono b3.size)).trans (hb5.mono (by have:=b3.size;have:=b4.size;omega));go_wp2_with fail;refine bodyPost_ret (v:=.int .i64 (Bz (p*q') (p'*q))) (by simp [results,Tryz.results18,go_sem]) rfl ?_;exact ⟨rfl,b5⟩
theorem nI (w:World) (G cp:Nat) (a0:Γ) (n0 c0:Nat) (k0:Int) (a1:Γ) (n1 c1:Nat) (k1:Int) (F:Nat) (capv:Array Value)
  (h0:w.cell? ⟨G,0,none⟩=some (.slice a0 n0 c0)) (h1:w.cell? ⟨G,1,none⟩=some (.int .i64 k0)) (h2:w.cell? ⟨G,2,none⟩=some (.slice a1 n1 c1)) (h3:w.cell? ⟨G,3,none⟩=some (.int .i64 k1))
  (hE:∀args W,(callFunc F args).run Tryz.prog W=.ok (.enter F args) W)
  (z:Int) (hz0:0≤z) (hz1:z<100) (hcmp:Hid (∀W,Below w.heap.size w W→Θ F (#[.agg #[.slice a1 n1 c1,.int .i64 k1],.agg #[.slice a0 n0 c0,.int .i64 k0]]++capv) W (fun e W'=>e=.returned (.int .i64 z)∧Below W.heap.size W W'))) :
  Θ 183 #[.slice (some ⟨G,0,none⟩) 2 cp,.int .i64 0,.int .i64 2,.func (.func F) #[] capv] w (fun e w'=>e=.returned (.tuple #[])∧Below w.heap.size w w'):=by
 have HB:=Ac w.heap.size w;go_enter Tryz.func183,Tryz.ntmps183;go_wp2_with fail;refine wp_loop_rounds 2 ?_;rw [rounds_succ];go_wp2_with fail;refine wp_loop_rounds 1 ?_;rw [rounds_succ];have g0:=Cn h0;have g1:=Cn h1;have g2:=Cn h2;have g3:=Cn h3;have hcm:=fun n:Qq w=>G7 (hcmp.out n.1 n.2)
 have hz:¬z<0:=by omega
 go_wp2_with fail;refine Ci qC qC ?_;(repeat (go_big_quiet_step (first|(exact hcm _))));refine wpQuiet_nil ?_;intro _ hw0;obtain ⟨nq,hw0⟩:=hw0;subst hw0;have hb:=nq.2;go_wp2_with fail;rw [rounds_succ];go_wp2_with fail;exact bodyPost_end (v:=.tuple #[]) (by simp [results,Tryz.results183,go_sem]) rfl ⟨rfl,hb⟩
theorem Aag (w:World) (G cp:Nat) (a0:Γ) (n0 c0:Nat) (k0:Int) (a1:Γ) (n1 c1:Nat) (k1:Int) (F:Nat) (capv:Array Value) (lim:Int)
  (h0:w.cell? ⟨G,0,none⟩=some (.slice a0 n0 c0)) (h1:w.cell? ⟨G,1,none⟩=some (.int .i64 k0)) (h2:w.cell? ⟨G,2,none⟩=some (.slice a1 n1 c1)) (h3:w.cell? ⟨G,3,none⟩=some (.int .i64 k1))
  (hE:∀args W,(callFunc F args).run Tryz.prog W=.ok (.enter F args) W)
  (z:Int) (hz0:0≤z) (hz1:z<100) (hcmp:Hid (∀W,Below w.heap.size w W→Θ F (#[.agg #[.slice a1 n1 c1,.int .i64 k1],.agg #[.slice a0 n0 c0,.int .i64 k0]]++capv) W (fun e W'=>e=.returned (.int .i64 z)∧Below W.heap.size W W'))) :
  Θ 115 #[.slice (some ⟨G,0,none⟩) 2 cp,.int .i64 0,.int .i64 2,.int .i64 lim,.func (.func F) #[] capv] w (fun e w'=>e=.returned (.tuple #[])∧Below w.heap.size w w'):=by
 have HB:=Ac w.heap.size w;go_enter Tryz.func115,Tryz.ntmps115;go_wp2_with fail;refine wp_loop_rounds 1 ?_;rw [rounds_succ];go_wp2_with fail;refine (nI w G cp a0 n0 c0 k0 a1 n1 c1 k1 F capv h0 h1 h2 h3 hE z hz0 hz1 hcmp).mono ?_;rintro e w1 ⟨rfl,hb1⟩;go_wp2_with fail;refine bodyPost_ret (v:=.tuple #[]) (by simp [results,Tryz.results115,go_sem]) rfl ?_;exact ⟨rfl,hb1⟩
theorem uU (w:World) (G cp:Nat) (hc:2≤cp):Θ 54 #[.slice (some ⟨G,0,none⟩) 2 cp] w (fun e w'=>e=.returned (.slice (some ⟨G,0,none⟩) 2 2)∧Below w.heap.size w w'):=by
 have HB:=Ac w.heap.size w;go_enter Tryz.func54,Tryz.ntmps54;go_wp2_with fail;go_ret;exact ⟨rfl,HB⟩
theorem rF (w:World) (G cp:Nat) (a0:Γ) (n0 c0:Nat) (k0:Int) (a1:Γ) (n1 c1:Nat) (k1:Int) (F:Nat) (capv:Array Value)
  (h0:w.cell? ⟨G,0,none⟩=some (.slice a0 n0 c0)) (h1:w.cell? ⟨G,1,none⟩=some (.int .i64 k0)) (h2:w.cell? ⟨G,2,none⟩=some (.slice a1 n1 c1)) (h3:w.cell? ⟨G,3,none⟩=some (.int .i64 k1))
  (hE:∀args W,(callFunc F args).run Tryz.prog W=.ok (.enter F args) W)
  (z:Int) (hz0:0≤z) (hz1:z<100) (hcmp:Hid (∀W,Below w.heap.size w W→Θ F (#[.agg #[.slice a1 n1 c1,.int .i64 k1],.agg #[.slice a0 n0 c0,.int .i64 k0]]++capv) W (fun e W'=>e=.returned (.int .i64 z)∧Below W.heap.size W W'))) :
  Θ 52 #[.slice (some ⟨G,0,none⟩) 2 cp,.func (.func F) #[] capv] w (fun e w'=>e=.returned (.tuple #[])∧Below w.heap.size w w'):=by
 have HB:=Ac w.heap.size w;have hl:Θ 116 #[.int .u64 2] w fun e w'=>e=.returned (.int .i64 (Lib.bitLen 2:Nat))∧w'=w:=Tryz.bits_Len 2 w qA qA
 go_enter Tryz.func52,Tryz.ntmps52;go_wp2_with fail;refine hl.mono ?_;rintro e w1 ⟨rfl,rfl⟩;go_wp2_with fail;refine (Aag _ G cp a0 n0 c0 k0 a1 n1 c1 k1 F capv _ h0 h1 h2 h3 hE z hz0 hz1 hcmp).mono ?_;rintro e w2 ⟨rfl,hb2⟩;go_wp2_with fail;exact bodyPost_end (v:=.tuple #[]) (by simp [results,Tryz.results52,go_sem]) rfl ⟨rfl,hb2⟩
theorem lD (w:World) (B n c:Nat) (a:Γ) (x:PT) (l:Δ) (h:Bd w B a n c (x::l)) (hl:Sm (x::l)) :
  Θ 57 #[.slice a n c] w (fun e w'=>∃g1 a1 n1 c1 g2 a2 n2 c2,e=.returned (.agg #[.bool g1,.slice a1 n1 c1,.bool g2,.slice a2 n2 c2])∧Bj w' g1 a1 n1 c1 x.2.1 g2 a2 n2 c2 x.2.2∧n1≤1000∧n2≤1000∧Below w.heap.size w w'):=by
 have HB:=Ac w.heap.size w;have hn:0<n:=by rw [←h.len];simp
 have hn0:((n:Int)==0)=false:=by rw [beq_eq_false_iff_ne];omega
 obtain ⟨p,hp,hpx⟩:=h.ts;have hq:=h.few hl.few hp hpx 0 hn;obtain ⟨gb,go,rfl,hgc⟩:=hp.cell.resolve_left qA;have hat:=hgc 0 hn;rw [Nat.zero_mul,Nat.add_zero] at hat;have hti:=(hpx 0 x rfl).1;have hrt:=hp.tm 0 hn;have hfr:=hti.frac hrt (hl.pw.good x qG).1;generalize p 0=s at *;obtain ⟨e0,e1,e2,e3,e4,e5,e6,e7⟩:=hat;have hn1:(0:Int)<(n:Int):=by omega
 have hgb:gb<w.heap.size:=Aa _ _ e0;go_enter Tryz.func57,Tryz.ntmps57;go_wp2_with fail;refine bodyPost_ret (v:=.agg #[.bool s.g1,.slice s.a1 s.n1 s.c1,.bool s.g2,.slice s.a2 s.n2 s.c2]) (by simp [results,Tryz.results57,go_sem]) rfl ?_;exact ⟨_,_,_,_,_,_,_,_,rfl,hfr.keep (Below.alloc (Ac _ _) (Ad _) _),by omega,by omega,Below.alloc (Ac _ _) (Ad _) _⟩
theorem cfP:Dv pP 0=[[(0,1,1)],[(0,1,1)]]:=by decide +kernel
theorem cfM:Dv pM 0=[[(0,-1,1)],[(0,1,1)]]:=by decide +kernel
theorem smP:Sm pP:=Sm.of (by decide +kernel)
theorem smM:Sm pM:=Sm.of (by decide +kernel)
theorem dgP:Ka pP 0≤1000:=by decide +kernel
theorem dgM:Ka pM 0≤1000:=by decide +kernel
theorem zS:Bz (1*1) (1*1)=0:=by decide +kernel
theorem Abm:Bz (1*1) (-1*1)=1:=by decide +kernel
theorem fJ (k:Int) (w:World) (n c:Nat) (a:Γ) (h:Bd w 0 a n c [(0,k,1)]) (hl:Sm [(0,k,1)]) :
  Θ 57 #[.slice a n c] w (fun e w'=>∃g1 a1 n1 c1 g2 a2 n2 c2,e=.returned (.agg #[.bool g1,.slice a1 n1 c1,.bool g2,.slice a2 n2 c2])∧Bj w' g1 a1 n1 c1 k g2 a2 n2 c2 1∧n1≤1000∧n2≤1000∧Below w.heap.size w w') :=
 lD w 0 n c a (0,k,1) [] h hl
theorem yT (k z:Int) (hz:Bz (1*1) (k*1)=z) (w:World) (g1:Bool) (a1:Γ) (n1 c1:Nat) (g2:Bool) (a2:Γ) (n2 c2:Nat) (h:Bj w g1 a1 n1 c1 1 g2 a2 n2 c2 1)
  (g3:Bool) (a3:Γ) (n3 c3:Nat) (g4:Bool) (a4:Γ) (n4 c4:Nat) (h':Bj w g3 a3 n3 c3 k g4 a4 n4 c4 1) (hb1:n1≤1000) (hb2:n2≤1000) (hb3:n3≤1000) (hb4:n4≤1000) :
  Θ 18 #[.agg #[.bool g1,.slice a1 n1 c1,.bool g2,.slice a2 n2 c2],.agg #[.bool g3,.slice a3 n3 c3,.bool g4,.slice a4 n4 c4]] w (fun e w'=>e=.returned (.int .i64 z)∧Below w.heap.size w w'):=by
 have H:=mX w g1 a1 n1 c1 1 g2 a2 n2 c2 1 h g3 a3 n3 c3 k g4 a4 n4 c4 1 h' qA qA qA qA;rw [hz] at H;exact H
theorem sm1:Sm [(0,((1,1):PC))]:=I8
theorem smm:Sm [(0,((-1,1):PC))]:=Sm.of (by decide +kernel)
theorem sJ (w:World) (Lb n c n' c':Nat) (a a':Γ) (k k':Int) (hL:w.cell? ⟨Lb,0,none⟩=some (.int .i64 0)) (B B':Nat) (hp:Bd w B a n c pP) (hm:Bd w B' a' n' c' pM) :
  Θ 117 #[.agg #[.slice a n c,.int .i64 k],.agg #[.slice a' n' c',.int .i64 k'],.pointer (some ⟨Lb,0,none⟩)] w (fun e w'=>e=.returned (.int .i64 1)∧Below w.heap.size w w'):=by
 have HB:=Ac w.heap.size w;have hLs:Lb<w.heap.size:=Aa _ _ hL;go_enter Tryz.func117,Tryz.ntmps117;go_upto_region 1 with fail
 refine Cc ?_;intro wn hwn;have bn:Below w.heap.size w wn:=by rw [hwn];go_grown
 have hX:wn.cell? ⟨w.heap.size,0,none⟩=some (.slice a n c):=by rw [hwn];simp [go_sem]
 have hY:wn.cell? ⟨w.heap.size+1,0,none⟩=some (.slice a' n' c'):=by rw [hwn];simp [go_sem]
 replace hL:=Bc bn hL;have hp2:=hp.keep bn;have hm2:=hm.keep bn;clear hwn hLs;generalize w.heap.size+1=Yb at *;have zn:=bn.size;generalize hXb:w.heap.size=Xb at *;go_region_held3 (fun W=>W.cell? ⟨Lb,0,none⟩=some (.int .i64 0)∧W.cell? ⟨Xb,0,none⟩=some (.slice a n c)∧W.cell? ⟨Yb,0,none⟩=some (.slice a' n' c')) (first|((try dsimp only);(repeat' apply Ay);all_goals (first|(with_reducible assumption)|(go_keep;done)|(simp [*,go_sem];done)))) (first
  | (go_at_call 55;(with_reducible refine (Oj _ _ _ _ _ _ (hp2.keep qF) smP dgP).mono ?_);rintro e w1 ⟨a1,n1,c1,rfl,hR1,hS1,hb⟩;have hb1:Below wn.heap.size wn w1:=(by first|exact hb|exact Al qF (hb.mono qB));have z1:=hb1.size;replace hX:=Bc hb1 hX;replace hY:=Bc hb1 hY;replace hL:=Bc hb1 hL)
  | (go_at_call 55;(with_reducible refine (Oj _ _ _ _ _ _ ((hm2.keep hb1).keep qF) smM dgM).mono ?_);rintro e w2 ⟨a2,n2,c2,rfl,hR2,hS2,hb⟩;have hb2:Below w1.heap.size w1 w2:=(by first|exact hb|exact Al qF (hb.mono qB));have z2:=hb2.size;replace hX:=Bc hb2 hX;replace hY:=Bc hb2 hY;replace hL:=Bc hb2 hL))
 have b2:=(bn.trans (hb1.mono zn)).trans (hb2.mono qA);have hR1:=hR1.keep hb2;rw [cfP] at hR1;rw [cfM] at hR2;obtain rfl:n1=2:=hR1.len.symm;obtain rfl:n2=2:=hR2.len.symm;obtain ⟨g1,rfl,hc1⟩:=hR1.cell.resolve_left qA;obtain ⟨g2,rfl,hc2⟩:=hR2.cell.resolve_left qA;obtain ⟨q0,k0,l0,p0,x0⟩:=hc1 0 _ rfl;obtain ⟨q1,k1,l1,p1,x1⟩:=hc1 1 _ rfl;obtain ⟨u0,m0,v0,r0,y0⟩:=hc2 0 _ rfl;obtain ⟨u1,m1,v1,r1,y1⟩:=hc2 1 _ rfl;clear hb1 hb2 hp2 hm2 hp hm hX hY hL hS1 hS2 hc1 hc2;go_wp2_with fail;refine wp_loop_rounds 3 ?_;rw [rounds_succ];go_wp2_with fail;go_region_held3 (fun W=>W.cell? ⟨g1,1,none⟩=some (.slice q1 k1 l1)∧W.cell? ⟨g2,1,none⟩=some (.slice u1 m1 v1)) (first|((try dsimp only);(repeat' apply Ay);all_goals (first|(with_reducible assumption)|(go_keep;done)|(simp [*,go_sem];done)))) (first
  | (go_at_call 57;(with_reducible refine (fJ 1 _ _ _ _ (x1.keep qF) sm1).mono ?_);rintro e wA ⟨ga,aa,na,ca,gb,ab,nb,cb,rfl,hA,ja,jb,hb⟩;have hbA:Below w2.heap.size w2 wA:=(by first|exact hb|exact Al qF (hb.mono qB));have zA:=hbA.size;replace p1:=Bc hbA p1;replace r1:=Bc hbA r1)
  | (go_at_call 57;(with_reducible refine (fJ 1 _ _ _ _ ((y1.keep hbA).keep qF) sm1).mono ?_);rintro e wB ⟨gc,ac,nc,cc,gd,ad,nd,cd,rfl,hB,jc,jd,hb⟩;have hbB:Below wA.heap.size wA wB:=(by first|exact hb|exact Al qF (hb.mono qB));have zB:=hbB.size;replace p1:=Bc hbB p1;replace r1:=Bc hbB r1;have hA:=hA.keep hbB)
  | (go_at_call 18;(with_reducible refine (yT 1 0 zS _ _ _ _ _ _ _ _ _ (hA.keep qF) _ _ _ _ _ _ _ _ (hB.keep qF) ja jb jc jd).mono ?_);rintro e w3 ⟨rfl,hb⟩;have hb3:Below wB.heap.size wB w3:=(by first|exact hb|exact Al qF (hb.mono qB));have zC:=hb3.size;replace p1:=Bc hb3 p1;replace r1:=Bc hb3 r1))
 have b3:=((b2.trans (hbA.mono qA)).trans (hbB.mono qA)).trans (hb3.mono qA);have zb3:=b3.size;rw [hXb] at zb3;have B3:=(hbA.trans (hbB.mono qA)).trans (hb3.mono qA);replace p0:=Bc B3 p0;replace r0:=Bc B3 r0;replace x0:=x0.keep B3;replace y0:=y0.keep B3;clear hA hB hbA hbB hb3 B3 p1 r1 x1 y1 ja jb jc jd zA zB zC;go_wp2_with fail;rw [rounds_succ];go_wp2_with fail;go_region_held3 (fun W=>W.cell? ⟨g1,0,none⟩=some (.slice q0 k0 l0)∧W.cell? ⟨g2,0,none⟩=some (.slice u0 m0 v0)) (first|((try dsimp only);(repeat' apply Ay);all_goals (first|(with_reducible assumption)|(go_keep;done)|(simp [*,go_sem];done)))) (first
  | (go_at_call 57;(with_reducible refine (fJ 1 _ _ _ _ (x0.keep qF) sm1).mono ?_);rintro e wA ⟨ga,aa,na,ca,gb,ab,nb,cb,rfl,hA,ja,jb,hb⟩;have hbA:Below w3.heap.size w3 wA:=(by first|exact hb|exact Al qF (hb.mono qB));have zA:=hbA.size;replace p0:=Bc hbA p0;replace r0:=Bc hbA r0)
  | (go_at_call 57;(with_reducible refine (fJ (-1) _ _ _ _ ((y0.keep hbA).keep qF) smm).mono ?_);rintro e wB ⟨gc,ac,nc,cc,gd,ad,nd,cd,rfl,hB,jc,jd,hb⟩;have hbB:Below wA.heap.size wA wB:=(by first|exact hb|exact Al qF (hb.mono qB));have zB:=hbB.size;replace p0:=Bc hbB p0;replace r0:=Bc hbB r0;have hA:=hA.keep hbB)
  | (go_at_call 18;(with_reducible refine (yT (-1) 1 Abm _ _ _ _ _ _ _ _ _ (hA.keep qF) _ _ _ _ _ _ _ _ (hB.keep qF) ja jb jc jd).mono ?_);rintro e w4 ⟨rfl,hb⟩;have hb4:Below wB.heap.size wB w4:=(by first|exact hb|exact Al qF (hb.mono qB));have zC:=hb4.size;replace p0:=Bc hb4 p0;replace r0:=Bc hb4 r0))
 have b4:=((b3.trans (hbA.mono qA)).trans (hbB.mono qA)).trans (hb4.mono qA);go_wp2_with fail;refine bodyPost_ret (v:=.int .i64 1) (by simp [results,Tryz.results117,go_sem]) rfl ?_;exact ⟨rfl,by rw [hXb];exact b4⟩
theorem uM (w:World):Θ 53 #[.int .i64 0] w (fun e w'=>∃Lb,e=.returned (.func (.func 117) #[] #[.pointer (some ⟨Lb,0,none⟩)])∧w'.cell? ⟨Lb,0,none⟩=some (.int .i64 0)∧Below w.heap.size w w'):=by
 go_enter Tryz.func53,Tryz.ntmps53;go_wp2_with fail;refine bodyPost_ret (v:=.func (.func 117) #[] #[.pointer (some ⟨w.heap.size,0,none⟩)]) (by simp [results,Tryz.results53,go_sem]) rfl ?_;exact ⟨w.heap.size,rfl,by simp [go_sem],Below.alloc (Ac _ _) (Ad _) _⟩
theorem fT (w:World) (z:Int):Θ 180 #[.int .i64 z] w (fun e w'=>e=.returned (.func (.func 247) #[] #[.pointer (some ⟨w.heap.size,0,none⟩)])∧w'=w.alloc (.cells #[.int .i64 z] 3)):=by
 go_enter Tryz.func180,Tryz.ntmps180;go_wp2_with fail;refine bodyPost_ret (v:=.func (.func 247) #[] #[.pointer (some ⟨w.heap.size,0,none⟩)]) (by simp [results,Tryz.results180,go_sem]) rfl ?_;exact ⟨rfl,rfl⟩
def vA (Nb:Nat) (W W1:World):Prop:=Below W.heap.size (W.setCell ⟨Nb,0,none⟩ (.int .i64 1)) W1
theorem Uo (m:Nat) (hm:1≤m) (w:World) (Nb:Nat) (z:Int) (hz:z=1∨z=-1) (hc:w.cell? ⟨Nb,0,none⟩=some (.int .i64 z)) (hf:w.frozen? ⟨Nb,0,none⟩=false) :
  sX Fence.wide m Tryz.prog 247 #[.pointer (some ⟨Nb,0,none⟩)] #[.int .i64 1] (vA Nb) w:=by
 intro l J W hW hY;refine callsIn_of_wp Tryz.func247 rfl trivial ?_ rfl;simp only [Tryz.ntmps247,List.size_toArray,List.length_cons,List.length_nil,Nat.reduceAdd,Nat.reduceSub,Array.replicate_succ,Array.replicate_zero,List.push_toArray,List.append_toArray,List.nil_append,List.cons_append];have hcW:=Bc hW hc;have hfW:W.frozen? ⟨Nb,0,none⟩=false:=by
  rw [hW.frozen (Aa _ _ hc)];exact hf
 have hNW:Nb<W.heap.size:=Aa _ _ hcW
 gi_wp2
 refine ⟨trivial,(callsIn_wide.2 (Acd W z qA qA)).mono ?_⟩;rintro e w1 ⟨rfl,rfl⟩;have hmz:max z (-z)=1:=by omega
 rw [hmz]
 gi_wp2
 gi_loopg [3] 1 (fun gq v3 wr=>v3=.int .i64 1∧wr.cell? ⟨Nb,0,none⟩=some (.int .i64 1)∧vA Nb w1 wr)
 case atStart=>exact ⟨rfl,by simp [go_sem,hcW],Ac _ _⟩
 case round =>
  obtain ⟨rfl,h0,hT⟩:=hrel;obtain ⟨fn,tmps,assign,body,hy,hR⟩:=hY wr hT;have hy':(Instr.yield l #[.int .i64 1]).run Tryz.prog wr=.ok (.round l fn tmps assign body) wr:=hy;clear hy
  gi_wp2
  refine hR.mono ?_;rintro e w9 ⟨rfl,hJ9⟩
  gi_wp2
  refine bodyPost_ret (v:=.tuple #[]) (by simp [results,Tryz.results247,go_sem]) rfl ?_;exact ⟨⟨_,rfl⟩,w9,Ac _ _,hJ9⟩
def nvZ (f:Nat→Int) (n:Nat) (top low:Int):Nat→Int×Int
 | 0=>(0,1)
 | i+1=>((nvZ f n top low i).1*top+f (n-1-i)*(nvZ f n top low i).2,(nvZ f n top low i).2*low)
def cT (f:Nat→Int) (n:Nat) (top low:Int):Prop:=∀i,i<n→(-1152921504606846976<(nvZ f n top low i).1*top∧(nvZ f n top low i).1*top<1152921504606846976)∧(-1152921504606846976<f (n-1-i)*(nvZ f n top low i).2∧f (n-1-i)*(nvZ f n top low i).2<1152921504606846976)∧(-1152921504606846976<(nvZ f n top low i).2*low∧(nvZ f n top low i).2*low<1152921504606846976)
theorem Y1 (wo:World) (a:Γ) (n c:Nat) (f:Nat→Int) (h:RdZ wo a n f) (hn:n≤1001) (top low:Int) (hk:cT f n top low) :
  Θ 181 #[.agg #[.int .i64 0,.slice a n c],.int .i64 top,.int .i64 low] wo (fun e w'=>e=.returned (.bool ((nvZ f n top low n).1==0))∧Below wo.heap.size wo w'):=by
 have HB:=Ac wo.heap.size wo;have HK:=Ae hk;clear hk;go_enter Tryz.func181,Tryz.ntmps181;go_wp2_with fail;have b0:Below wo.heap.size wo (wo.alloc (.cells #[.int .i64 0,.slice a n c] 92)):=Below.alloc (Ac _ _) (Ad _) _;have x1:(wo.alloc (.cells #[.int .i64 0,.slice a n c] 92)).cell? ⟨wo.heap.size,1,none⟩=some (.slice a n c):=by simp [go_sem]
 generalize wo.alloc (.cells #[.int .i64 0,.slice a n c] 92)=wz at *;go_loopw [7,8,13] (fun v7 v8 v13 wr=>∃i:Nat,i≤n∧v7=.int .i64 (nvZ f n top low i).1∧v8=.int .i64 (nvZ f n top low i).2∧v13=.int .i64 i∧wr.cell? ⟨wo.heap.size,1,none⟩=some (.slice a n c)∧Below wo.heap.size wo wr) (fun _ _ v13 _=>n-(intOf v13).toNat)
 case atStart=>exact ⟨0,by omega,rfl,rfl,rfl,x1,b0⟩
 case round =>
  clear x1 b0;obtain ⟨i,hi,rfl,rfl,rfl,x1,HBr⟩:=hrel;by_cases hlt:i<n
  ·obtain ⟨g,rfl,hc⟩:=(h.keep HBr).ex;have hce:=hc (n-1-i) qA;obtain ⟨⟨k1,k2⟩,⟨k3,k4⟩,k5,k6⟩:=HK.out i hlt;have HS:=Ae (show nvZ f n top low (i+1)=((nvZ f n top low i).1*top+f (n-1-i)*(nvZ f n top low i).2,(nvZ f n top low i).2*low) from rfl);obtain ⟨j,hj⟩:∃j,n-1-i=j:=⟨_,rfl⟩;rw [hj] at hce k3 k4 HS;have hji:(n:Int)-1-(i:Int)=(j:Int):=by omega
   have hj0:(0:Int)≤(j:Int):=by omega
   have hjn:(j:Int)<(n:Int):=by omega
   generalize hv:(nvZ f n top low i).1=v at *;generalize hp:(nvZ f n top low i).2=pw at *;generalize f j=fj at *;generalize hm1:v*top=t1 at *;generalize hm2:fj*pw=t2 at *;generalize hm3:pw*low=t3 at *;clear hc hj hv hp;go_wp2_with fail;go_roundw
   case rel=>exact ⟨i+1,by omega,by rw [HS.out],by rw [HS.out],by go_num,x1,HBr⟩
   case measure=>(first|(simp [intOf];omega)|(simp [intOf];done))
  ·obtain rfl:i=n:=by omega
   go_wp2_with fail;refine bodyPost_ret (v:=.bool ((nvZ f i top low i).1==0)) (by simp [results,Tryz.results181,go_sem]) rfl ?_;exact ⟨rfl,HBr⟩
end Go.Proofs.YtnnhcbeiogaknaaGreatDoor
end
