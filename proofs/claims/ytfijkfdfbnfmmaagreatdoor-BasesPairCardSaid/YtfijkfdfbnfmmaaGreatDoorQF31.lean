/- Package divides: into. -/
import Derived.Test.YtfijkfdfbnfmmaaGreatDoorQF30
set_option linter.unusedSimpArgs false
set_option linter.unusedVariables false
set_option maxRecDepth 100000
set_option maxHeartbeats 4000000
section
namespace Go.Proofs.YtfijkfdfbnfmmaaGreatDoor
open Go.RowKit Proofs.Tryz
variable {b i:Nat} {f g:Nat→Int} {v o:Value}
structure Oh (w:World) (b:Nat) (t:Tm) (v o:Value):Prop where
 c0:Z w b 0 (.bool t.g1)
 c1:Z w b 1 (.slice t.a1 t.n1 t.c1)
 c2:Z w b 2 (.bool t.g2)
 c3:Z w b 3 (.slice t.a2 t.n2 t.c2)
 c4:Z w b 4 (U t.m0)
 c5:Z w b 5 (U t.m1)
 c6:Z w b 6 (U t.m2)
 c7:Z w b 7 (U t.m3)
 c8:Z w b 8 v
 c9:Z w b 9 o
 f9:Y w b 9
theorem Oh.lt {w:World} {t:Tm} (h:Oh w b t v o):b<w.heap.size:=Aa _ _ h.c0
theorem Oh.keep {w w':World} {t:Tm} (h:Oh w b t v o) (hb:xp w w'):Oh w' b t v o :=
 ⟨Bb hb h.c0,Bb hb h.c1,Bb hb h.c2,Bb hb h.c3,Bb hb h.c4,Bb hb h.c5,Bb hb h.c6,Bb hb h.c7,Bb hb h.c8,Bb hb h.c9,(hb.frozen h.lt).trans h.f9⟩
theorem Be.one {w:World} {B:Nat} {x:PT} (t:Tm) (h:Ey t x) (hr:Dg w t) (hB:B≤w.heap.size) (k1:Nw B t.n1 t.a1) (k2:Nw B t.n2 t.a2) :
  Be (w.alloc (.cells #[.bool t.g1,.slice t.a1 t.n1 t.c1,.bool t.g2,.slice t.a2 t.n2 t.c2,U t.m0,U t.m1,U t.m2,U t.m3] 58)) B (E w) 1 1 [x]:=by
 have T:=Dt.new w t;refine ⟨rfl,.inr fun y hy=>by cases hy;exact hB,fun h=>(by cases h),fun _=>t,⟨Ad _,qB,qB,fun i hi=>⟨hr.top.alloc _,hr.low.alloc _,hr.s0,hr.s1,hr.s2,hr.s3⟩,.inr ⟨_,0,rfl,fun i hi=>?_⟩⟩,fun i y hy=>?_⟩
 ·obtain rfl:i=0:=qB;exact ⟨T.c0,T.c1,T.c2,T.c3,T.c4,T.c5,T.c6,T.c7⟩
 ·match i,hy with
  | 0,hy=>simp at hy;subst hy;exact ⟨h,k1,k2⟩
  | i+1,hy=>simp at hy
def BoxM (w wc:World) (v:Value) (a0 a1 a2 a3:Nat):Prop:=∃b,v=.pointer (E b)∧Z wc b 0 (U a0)∧Z wc b 1 (U a1)∧Z wc b 2 (U a2)∧Z wc b 3 (U a3)∧xp w wc
def vJ (w:World) (x:PT) (e:Ending) (w':World):Prop:=∃a c,e=.returned (.tuple #[.slice a 1 c,.bool true])∧Be w' w a 1 c [x]∧xp w w'
theorem mR (w:World) (b:Nat) (u:Tm) (v o:Value) (hD:Oh w b u v o) (y:PT) (hu:Ey u y) (DH:Dg w u) (hcy:CW y.2) (ss:y.2.1≠0) (t:Tm) (x:PT) (ht:Ey t x) (kz:Dg w t) (SS:CW x.2)
  (q1:t.n1≤1000000) (q2:t.n2≤1000000) (q3:u.n1≤1000000) (q4:u.n2≤1000000) (j8:inM x.1 y.1=true) :
  Θ 201 #[.pointer (E b),t.val] w (vJ w (x.1-y.1,Kc x.2 y.2)):=by
 have rq:=hD.lt;have DK:=hD;obtain ⟨d0,d1,d2,d3,d4,d5,d6,d7,d8,d9,-⟩:=hD;have ex:=Dz kz.s1 kz.s2 kz.s3 kz.s0;have ey:=Dz DH.s1 DH.s2 DH.s3 DH.s0;rw [ht.key] at ex;rw [hu.key] at ey;unfold inM at j8;rw [ex.1,ex.2.1,ex.2.2.1,ex.2.2.2,ey.1,ey.2.1,ey.2.2.1,ey.2.2.2] at j8;have HI:=Ae j8;have iq:=ht.frac kz SS;have sk:=hu.frac DH hcy;have HS:=Ae (Ax kz DH);have HK:=Ae (Ax ht hu);have HB:=Ac w w;have di:¬b=w.heap.size:=qB;clear ex ey j8 ht kz hu DH;go_enter func201,ntmps201;go_wp2_with fail;refine Bx ?_;intro w1 fk;have B1:Below w w w1:=by rw [fk];go_grown
 have T1:Dt w1 w t:=by rw [fk];exact Dt.new w t
 have D1:=DK.keep B1;have ir:=Ac w1 w1;have TL:=T1.lt;have DL:=D1.lt;clear fk HB d0 d1 d2 d3 d4 d5 d6 d7 d8 d9;generalize hT:w.heap.size=T at *;have XC:=Ae hT;clear hT;have T1k:=T1;have D1k:=D1;obtain ⟨-,-,-,-,t4,t5,t6,t7,-,-,-,-,-,-,-,-⟩:=T1;obtain ⟨-,-,-,-,d4,d5,d6,d7,-,-,-⟩:=D1;have m1:¬w1.heap.size=T:=qB;have m2:¬T=w1.heap.size:=qB;have m3:¬w1.heap.size=b:=qB;have m4:¬b=w1.heap.size:=qB;go_cut [6,7] (fun v6 v7 wc=>v7=.bool true∧BoxM w1 wc v6 (t.m0-u.m0) (t.m1-u.m1) (t.m2-u.m2) (t.m3-u.m3))
 case first =>
  go_region_held3 (fun W=>Z W T 4 (U t.m0)∧Z W T 5 (U t.m1)∧Z W T 6 (U t.m2)∧Z W T 7 (U t.m3)∧Z W b 4 (U u.m0)∧Z W b 5 (U u.m1)∧Z W b 6 (U u.m2)∧Z W b 7 (U u.m3)) (exact qK) (first
   | (go_at_call 22;(with_reducible refine (Jm _ t.m0 t.m1 t.m2 t.m3 u.m0 u.m1 u.m2 u.m3 HS.out.1.s0 HS.out.1.s1 HS.out.1.s2 HS.out.1.s3 HS.out.2.s0 HS.out.2.s1 HS.out.2.s2 HS.out.2.s3 true HI.out.symm).mono ?_);rintro e w2 ⟨rfl,hb⟩;rw [if_pos rfl];obtain ⟨hc,hf⟩:=Bg hb;have bp:=zP w1 hb;have hz:=hb.size;(try simp only [Aj,Ak] at hz);(replace ⟨t4,t5,t6,t7,d4,d5,d6,d7⟩:=xl bp t4 t5 t6 t7 d4 d5 d6 d7);(try have k1:w1.heap.size<w2:=qB)))
  all_goals
   go_wp2_with fail;go_meet
   case rel =>
    refine ⟨rfl,_,rfl,?_,?_,?_,?_,?_⟩
    ·simp [*,go_sem]
    ·simp [*,go_sem]
    ·simp [*,go_sem]
    ·simp [*,go_sem]
    ·go_grown
 case rest =>
  obtain ⟨rfl,zh,rfl,k0,k1,k2,k3,HC⟩:=hcut;have TC:=T1k.keep HC;have DC:=D1k.keep HC;clear t4 t5 t6 t7 d4 d5 d6 d7 T1k D1k m1 m2 m3 m4;have HWC:=B1.trans (HC.mono (Nat.le_of_lt TL));obtain ⟨t0,t1,t2,t3,-,-,-,-,-,-,-,-,-,-,-,-⟩:=TC;obtain ⟨d0,d1,d2,d3,-,-,-,-,-,-,-⟩:=DC;go_wp2_with fail;have an2:=iq.keep (by unfold xp;rw [XC.out];exact HWC);have an3:=sk.keep (by unfold xp;rw [XC.out];exact HWC);have fg:=Ac wc wc;have hTc:T<wc.heap.size:=Aa _ _ t0;have FM:b<wc.heap.size:=Aa _ _ d0;have m1:¬wc.heap.size=T:=qB;have m2:¬T=wc.heap.size:=qB;have m3:¬wc.heap.size=b:=qB;have m4:¬b=wc.heap.size:=qB;go_cut [8] (fun v8 wd=>aR wc wd v8 (Kc x.2 y.2))
  case first =>
   go_region_held3 (fun W=>Z W T 0 (.bool t.g1)∧Z W T 1 (.slice t.a1 t.n1 t.c1)∧Z W T 2 (.bool t.g2)∧Z W T 3 (.slice t.a2 t.n2 t.c2)∧Z W b 0 (.bool u.g1)∧Z W b 1 (.slice u.a1 u.n1 u.c1)∧Z W b 2 (.bool u.g2)∧Z W b 3 (.slice u.a2 u.n2 u.c2)) (exact qK) (first
    | (go_at_call 99;(with_reducible refine (dP _ _ _ _ _ x.2 _ _ _ _ (an2.keep qD) _ _ _ _ y.2 _ _ _ _ (an3.keep qD) ss qB qB qB qB).mono ?_);rintro e w2 ⟨g5,a5,n5,c5,g6,a6,n6,c6,rfl,ew,nh,ED,hb⟩;obtain ⟨hc,hf⟩:=Bg hb;have bp:=zP wc hb;have hz:=hb.size;(try simp only [Aj,Ak] at hz);(replace ⟨t0,t1,t2,t3,d0,d1,d2,d3⟩:=xl bp t0 t1 t2 t3 d0 d1 d2 d3);(try have k9:wc.heap.size<w2:=qB)))
   all_goals
    exact qAs
  case rest =>
   obtain ⟨C,g5,a5,n5,c5,g6,a6,n6,c6,rfl,z0,z1,z2,z3,ew,iy,uk,HD⟩:=hcut;replace ⟨k0,k1,k2,k3⟩:=xj HD k0 k1 k2 k3;clear m1 m2 m3 m4 t0 t1 t2 t3 d0 d1 d2 d3;have HWD:=HWC.trans (HD.mono (Nat.le_of_lt hTc));have HTW:w.heap.size≤wc:=HWD.size;have ad7:w.heap.size≤_:=Nat.le_of_lt (XC.out.symm▸hTc);go_wp2_with fail;refine bodyPost_ret (v:=.tuple #[.slice (E wc) 1 1,.bool true]) (by simp [*,results,results201,go_sem]) rfl ?_;have hle:=HI.out;simp only [Bool.and_eq_true,decide_eq_true_eq] at hle;have e0:=HS.out.1.s0;have e1:=HS.out.1.s1;have e2:=HS.out.1.s2;have e3:=HS.out.1.s3;refine ⟨_,_,rfl,Be.one ⟨g5,a5,n5,c5,dg (Kc x.2 y.2).1.natAbs,g6,a6,n6,c6,dg (Kc x.2 y.2).2.natAbs,t.m0-u.m0,t.m1-u.m1,t.m2-u.m2,t.m3-u.m3⟩ ⟨ew.top.neg,rfl,ew.low.neg,rfl,?_⟩ ⟨ew.top.rd,ew.low.rd,by show t.m0-u.m0<65536;omega,by show t.m1-u.m1<65536;omega,by show t.m2-u.m2<65536;omega,by show t.m3-u.m3<65536;omega⟩ HTW (Nw.mono iy ad7) (Nw.mono uk ad7),(by unfold xp;rw [XC.out];exact HWD.alloc (XC.out▸HTW) _)⟩;show Bv (t.m0-u.m0) (t.m1-u.m1) (t.m2-u.m2) (t.m3-u.m3)=x.1-y.1;rw [←HK.out.1.key,←HK.out.2.key];unfold Bv;omega
theorem sS (w:World) (b:Nat) (u:Tm) (v o:Value) (hD:Oh w b u v o) (y:PT) (hu:Ey u y) (DH:Dg w u) (t:Tm) (x:PT) (ht:Ey t x) (kz:Dg w t) (j8:inM x.1 y.1=false) :
  Θ 201 #[.pointer (E b),t.val] w (fun e w'=>e=.returned (.tuple #[.slice none 0 0,.bool false])∧Below w w w'):=by
 have rq:=hD.lt;have DK:=hD;obtain ⟨d0,d1,d2,d3,d4,d5,d6,d7,d8,d9,-⟩:=hD;have ex:=Dz kz.s1 kz.s2 kz.s3 kz.s0;have ey:=Dz DH.s1 DH.s2 DH.s3 DH.s0;rw [ht.key] at ex;rw [hu.key] at ey;unfold inM at j8;rw [ex.1,ex.2.1,ex.2.2.1,ex.2.2.2,ey.1,ey.2.1,ey.2.2.1,ey.2.2.2] at j8;have HI:=Ae j8;have HS:=Ae (Ax kz DH);have HK:=Ae (Ax ht hu);have HB:=Ac w w;have di:¬b=w.heap.size:=qB;clear ex ey j8 ht kz hu DH;go_enter func201,ntmps201;go_wp2_with fail;refine Bx ?_;intro w1 fk;have B1:Below w w w1:=by rw [fk];go_grown
 have T1:Dt w1 w t:=by rw [fk];exact Dt.new w t
 have D1:=DK.keep B1;have ir:=Ac w1 w1;have TL:=T1.lt;have DL:=D1.lt;clear fk HB d0 d1 d2 d3 d4 d5 d6 d7 d8 d9;generalize hT:w.heap.size=T at *;have XC:=Ae hT;clear hT;have T1k:=T1;have D1k:=D1;obtain ⟨-,-,-,-,t4,t5,t6,t7,-,-,-,-,-,-,-,-⟩:=T1;obtain ⟨-,-,-,-,d4,d5,d6,d7,-,-,-⟩:=D1;have m1:¬w1.heap.size=T:=qB;have m2:¬T=w1.heap.size:=qB;have m3:¬w1.heap.size=b:=qB;have m4:¬b=w1.heap.size:=qB;go_cut [6,7] (fun v6 v7 wc=>v7=.bool false∧Below w1 w1 wc)
 case first =>
  go_region_held3 (fun W=>Z W T 4 (U t.m0)∧Z W T 5 (U t.m1)∧Z W T 6 (U t.m2)∧Z W T 7 (U t.m3)∧Z W b 4 (U u.m0)∧Z W b 5 (U u.m1)∧Z W b 6 (U u.m2)∧Z W b 7 (U u.m3)) (exact qK) (first
   | (go_at_call 22;(with_reducible refine (Jm _ t.m0 t.m1 t.m2 t.m3 u.m0 u.m1 u.m2 u.m3 HS.out.1.s0 HS.out.1.s1 HS.out.1.s2 HS.out.1.s3 HS.out.2.s0 HS.out.2.s1 HS.out.2.s2 HS.out.2.s3 false HI.out.symm).mono ?_);rintro e w2 ⟨rfl,hb⟩;rw [if_neg qH];obtain ⟨hc,hf⟩:=Bg hb;have bp:=zP w1 hb;have hz:=hb.size;(try simp only [Aj,Ak] at hz);(replace ⟨t4,t5,t6,t7,d4,d5,d6,d7⟩:=xl bp t4 t5 t6 t7 d4 d5 d6 d7);(try have k1:w1.heap.size<w2:=qB)))
  all_goals
   go_wp2_with fail;go_meet
   case rel =>
    exact ⟨rfl,qD⟩
 case rest =>
  obtain ⟨rfl,HC⟩:=hcut;have HWC:=B1.trans (HC.mono (Nat.le_of_lt TL));go_wp2_with fail;exact bodyPost_ret (v:=.tuple #[.slice none 0 0,.bool false]) (by simp [results,results201,go_sem]) rfl ⟨rfl,by rw [XC.out];exact HWC⟩
theorem yE:(prog.info? 244).map (fun i=>(i.zero,i.size,i.bytes))=some (some (.pointer none),1,8):=qE
section
variable {w:World} {L B n c:Nat} {a:Γ} {l:Δ}
theorem iP (h:Be w B a n c l) (hl:Sm l):Θ 90 #[.slice a n c] w fun e w'=>e=.returned (.bool true)∧xp w w':=by
 obtain ⟨p,hp,jv⟩:=h.ts;have kx:=h.pok hl.pw hp jv;exact Fz w a n c p hp (fun k hk=>by have:=h.few hl.few hp jv k hk;omega) true ⟨fun _=>rfl,fun _=>kx⟩
theorem cD (h:Be w B a n c l) (hl:Sm l):Θ 199 #[.slice a n c] w fun e w'=>e=.returned (.bool false)∧xp w w':=by
 have HB:=Ac w w;go_enter func199,ntmps199;go_wp2_with fail;refine (iP (h.keep qD) hl).mono ?_;exact qDk
end
theorem X6 (w:World) (a:Γ) (n c:Nat) (hc:n≤c) (hn:n≤35184372088832) (us:Nat→Value) (je:n=0∨∃b o,a=some ⟨b,o,none⟩∧∀i,i<n→Z w b (o+i) (us i)) (F:Nat) (rf:Array Value) (hE:∀args W,(callFunc F args).run prog W=.ok (.enter F args) W) (P:Nat→Prop)
  (IH:∀i,i<n→∀(W:World),xp w W→Θ F (#[us i]++rf) W (RetB W (P i))) :
  Θ 88 #[.slice a n c,.func (.func F) #[] rf] w (RetB w (∃i,i<n∧P i)):=by
 have HB:=Ac w w;have HI:=Ae IH;clear IH;have an4:Θ 158 #[.slice a n c,.func (.func F) #[] rf] w (fun e w'=>∃z:Int,e=.returned (M z)∧(0≤z↔∃i,i<n∧P i)∧xp w w'):=by
  have HR:=Ae je;clear je;go_enter func158,ntmps158;go_wp2_with fail;go_loopw [8] (fun v8 wr=>∃(i:Nat),i≤n∧v8=M i∧Hid (¬∃j,j<i∧P j)∧xp w wr) (fun v8 _=>n-(intOf v8).toNat)
  case atStart=>exact ⟨0,qB,rfl,Ae (by rintro ⟨j,hj,_⟩;omega),HB⟩
  case round =>
   obtain ⟨i,hi,rfl,JW,dm⟩:=hrel;clear HB;by_cases bj:i<n
   ·obtain ⟨b,o,rfl,hv⟩:=HR.out.resolve_left qB;have c0:=Bb dm (hv i bj);have HO:=Ae JW;clear hv JW;go_wp2_with fail;refine (HI.out i bj wr dm).mono ?_;rintro e w1 ⟨r,rfl,hr,br⟩;have b1:=xo dm br;have XD:=Ae hr;clear hr;cases r
    ·go_wp2_with fail;go_roundw
     case rel=>exact ⟨i+1,qB,by go_num,Ae (by
      rintro ⟨j,hj,hp⟩;rcases Nat.lt_or_ge j i with hy|hy
      ·exact HO.out.out ⟨j,hy,hp⟩
      ·obtain rfl:j=i:=qB;exact absurd (XD.out.2 hp) qI),b1⟩
     case measure=>(first|(simp [intOf];omega)|(simp [intOf];done))
    ·go_wp2_with fail;go_ret;exact ⟨_,rfl,⟨fun _=>⟨i,bj,XD.out.1 qX⟩,fun _=>qB⟩,b1⟩
   ·obtain rfl:i=n:=qB;have HO:=Ae JW;clear JW;go_wp2_with fail;go_ret;exact ⟨_,rfl,⟨fun h=>absurd h qI,fun h=>absurd h HO.out.out⟩,dm⟩
 go_enter func88,ntmps88;go_wp2_with fail;refine an4.mono ?_;rintro e w1 ⟨z,rfl,hz,br⟩;have HZ:=Ae hz;clear hz je;go_wp2_with fail;go_ret;exact ⟨decide (0≤z),qZ,by rw [decide_eq_true_eq];exact HZ.out,br⟩
def InW (x:Int):Prop:=0≤x∧x<65536
theorem mV (w:World) (x0 x1 x2 x3:Int) (h0:InW x0) (h1:InW x1) (h2:InW x2) (h3:InW x3) :
  Θ 234 #[.agg #[U x0,U x1,U x2,U x3]] w fun e w'=>e=.returned (M (x0+x1+x2+x3))∧xp w w':=by
 have HB:=Ac w w;obtain ⟨h0,k0⟩:=h0;obtain ⟨h1,k1⟩:=h1;obtain ⟨h2,k2⟩:=h2;obtain ⟨h3,k3⟩:=h3;have ix0:(Instr.index 56 (.agg #[U x0,U x1,U x2,U x3]) (M 0)).run prog=fun W=>.ok (U x0) W:=by funext W;kernel_rfl
 have ix1:(Instr.index 56 (.agg #[U x0,U x1,U x2,U x3]) (M 1)).run prog=fun W=>.ok (U x1) W:=by funext W;kernel_rfl
 have ix2:(Instr.index 56 (.agg #[U x0,U x1,U x2,U x3]) (M 2)).run prog=fun W=>.ok (U x2) W:=by funext W;kernel_rfl
 have ix3:(Instr.index 56 (.agg #[U x0,U x1,U x2,U x3]) (M 3)).run prog=fun W=>.ok (U x3) W:=by funext W;kernel_rfl
 go_enter func234,ntmps234;go_wp2_with fail;refine wp_loop_rounds 5 ?_;rw [rounds_succ];go_wp2_with fail;rw [rounds_succ];go_wp2_with fail;rw [rounds_succ];go_wp2_with fail;rw [rounds_succ];go_wp2_with fail;rw [rounds_succ];go_wp2_with fail;go_ret;exact ⟨rfl,qD⟩
theorem Z8 (w:World) (x0 x1 x2 x3 y0 y1 y2 y3:Int) (h0:InW x0) (h1:InW x1) (h2:InW x2) (h3:InW x3) (k0:InW y0) (k1:InW y1) (k2:InW y2) (k3:InW y3) :
  Θ 196 #[.agg #[U x0,U x1,U x2,U x3],.agg #[U y0,U y1,U y2,U y3]] w fun e w'=>e=.returned (M (Bz (x0+x1+x2+x3) (y0+y1+y2+y3)))∧xp w w':=by
 have HB:=Ac w w;go_enter func196,ntmps196;go_wp2_with fail;refine Bx ?_;intro w1 fk;have b1:xp w w1:=by rw [fk];go_grown
 have c0:∀n:Cw w1,Z n.1 w 0 (U x0):=Bk (by rw [fk];simp [go_sem]);have c1:∀n:Cw w1,Z n.1 w 1 (U x1):=Bk (by rw [fk];simp [go_sem]);have c2:∀n:Cw w1,Z n.1 w 2 (U x2):=Bk (by rw [fk];simp [go_sem]);have c3:∀n:Cw w1,Z n.1 w 3 (U x3):=Bk (by rw [fk];simp [go_sem]);have d0:∀n:Cw w1,Z n.1 (w+1) 0 (U y0):=Bk (by rw [fk];simp [go_sem]);have d1:∀n:Cw w1,Z n.1 (w+1) 1 (U y1):=Bk (by rw [fk];simp [go_sem]);have d2:∀n:Cw w1,Z n.1 (w+1) 2 (U y2):=Bk (by rw [fk];simp [go_sem]);have d3:∀n:Cw w1,Z n.1 (w+1) 3 (U y3):=Bk (by rw [fk];simp [go_sem]);clear fk;(refine Bi qE qE ?_;(repeat (go_big_quiet_step (first|(go_at_call 234;exact Cr (mV _ _ _ _ _ qG qG qG qG))|(go_at_call 233;exact Cr ((Lh _ _ _).mono (fun _ _ h=>⟨h.1,h.2▸Ac _ _⟩))))));refine wpQuiet_nil ?_;intro _ cw;obtain ⟨nq,cw⟩:=cw;subst cw);go_wp2_with fail;go_ret;exact ⟨rfl,(xo b1 nq.2)⟩
theorem Wf (w:World) (b:Nat) (x0 x1 x2 x3:Int) (c0:Z w b 0 (U x0)) (c1:Z w b 1 (U x1)) (c2:Z w b 2 (U x2)) (c3:Z w b 3 (U x3)) (f0:Y w b 0) (f1:Y w b 1) (f2:Y w b 2) (f3:Y w b 3) :
  Θ 235 #[.slice (E b) 4 4] w fun e w'=>e=.returned (.tuple #[])∧w'=((((w.setCell (J b 0) (U x3)).setCell (J b 3) (U x0)).setCell (J b 1) (U x2)).setCell (J b 2) (U x1)).drew.drew:=by
 have HB:=Ac w w;have hb:=Aa _ _ c0;have mixed:prog.follows .mixedOrders=true:=qE;go_enter func235,ntmps235;go_wp2_with fail;refine wp_loop_rounds 3 ?_;rw [rounds_succ];go_wp2_with fail;go_region_o;go_wp2_with fail;rw [rounds_succ];go_wp2_with fail;go_region_o;go_wp2_with fail;rw [rounds_succ];go_wp2_with fail;exact bodyPost_end (v:=.tuple #[]) (by simp [results,results235,go_sem]) rfl ⟨rfl,rfl⟩
theorem cW (w:World) (x0 x1 x2 x3 y0 y1 y2 y3:Int) (f g:Nat→Int) (f0:f 0=x3) (f1:f 1=x2) (f2:f 2=x1) (f3:f 3=x0) (g0:g 0=y3) (g1:g 1=y2) (g2:g 2=y1) (g3:g 3=y0) :
  Θ 197 #[.agg #[U x0,U x1,U x2,U x3],.agg #[U y0,U y1,U y2,U y3]] w fun e w'=>e=.returned (M (Dd g f))∧xp w w':=by
 have HB:=Ac w w;go_enter func197,ntmps197;go_wp2_with fail;refine Bt ?_;intro w1 fk;have b1:xp w w1:=by rw [fk];go_grown
 have ed:w1.heap.size=w.heap.size+2:=by rw [fk];simp
 have e0:Z w1 w 0 (U x0):=by rw [fk];simp [go_sem]
 have e1:Z w1 w 1 (U x1):=by rw [fk];simp [go_sem]
 have e2:Z w1 w 2 (U x2):=by rw [fk];simp [go_sem]
 have e3:Z w1 w 3 (U x3):=by rw [fk];simp [go_sem]
 have u0:Z w1 (w+1) 0 (U y0):=by rw [fk];simp [go_sem]
 have u1:Z w1 (w+1) 1 (U y1):=by rw [fk];simp [go_sem]
 have u2:Z w1 (w+1) 2 (U y2):=by rw [fk];simp [go_sem]
 have u3:Z w1 (w+1) 3 (U y3):=by rw [fk];simp [go_sem]
 have z0:∀i,Y w1 w i:=fun i=>by rw [fk];simp [go_sem]
 have z1:∀i,Y w1 (w+1) i:=fun i=>by rw [fk];simp [go_sem]
 clear fk;have di:¬w.heap.size+1=w.heap.size:=qB;have yo:¬w.heap.size=w.heap.size+1:=qB;have l0:w.heap.size<w1:=qB;have l1:w.heap.size+1<w1:=qB;refine (Wf w1 w x0 x1 x2 x3 e0 e1 e2 e3 (z0 0) (z0 1) (z0 2) (z0 3)).mono ?_;rintro e w2 ⟨rfl,df⟩;have b2:xp w w2:=by
  rw [df];exact Below.drew (Below.drew ((((b1.setCell (p:=⟨w,0,none⟩) (Ad _) _).setCell (p:=⟨w,3,none⟩) (Ad _) _).setCell (p:=⟨w,1,none⟩) (Ad _) _).setCell (p:=⟨w,2,none⟩) (Ad _) _))
 replace e0:Z w2 w 0 (U x3):=by rw [df];simp [*,go_sem]
 replace e1:Z w2 w 1 (U x2):=by rw [df];simp [*,go_sem]
 replace e2:Z w2 w 2 (U x1):=by rw [df];simp [*,go_sem]
 replace e3:Z w2 w 3 (U x0):=by rw [df];simp [*,go_sem]
 replace u0:Z w2 (w+1) 0 (U y0):=by rw [df];simp [*,go_sem]
 replace u1:Z w2 (w+1) 1 (U y1):=by rw [df];simp [*,go_sem]
 replace u2:Z w2 (w+1) 2 (U y2):=by rw [df];simp [*,go_sem]
 replace u3:Z w2 (w+1) 3 (U y3):=by rw [df];simp [*,go_sem]
 replace z1:∀i,Y w2 (w+1) i:=fun i=>by rw [df];simp [*,go_sem]
 replace l1:w.heap.size+1<w2:=by rw [df];simp;omega
 clear df z0 l0;go_wp2_with fail;refine (Wf w2 (w+1) y0 y1 y2 y3 u0 u1 u2 u3 (z1 0) (z1 1) (z1 2) (z1 3)).mono ?_;rintro e w3 ⟨rfl,eb⟩;have b3:xp w w3:=by
  rw [eb];exact Below.drew (Below.drew ((((b2.setCell (p:=⟨w+1,0,none⟩) (Nat.le_succ _) _).setCell (p:=⟨w+1,3,none⟩) (Nat.le_succ _) _).setCell (p:=⟨w+1,1,none⟩) (Nat.le_succ _) _).setCell (p:=⟨w+1,2,none⟩) (Nat.le_succ _) _))
 have HF:Hid (∀i,i<4→Z w3 w i (U (f i))):=Ae (fun i hi=>by
  rw [eb]
  match i,hi with
  | 0,_=>rw [f0];simp [*,go_sem]
  | 1,_=>rw [f1];simp [*,go_sem]
  | 2,_=>rw [f2];simp [*,go_sem]
  | 3,_=>rw [f3];simp [*,go_sem])
 have HG:Hid (∀i,i<4→Z w3 (w+1) i (U (g i))):=Ae (fun i hi=>by
  rw [eb]
  match i,hi with
  | 0,_=>rw [g0];simp [*,go_sem]
  | 1,_=>rw [g1];simp [*,go_sem]
  | 2,_=>rw [g2];simp [*,go_sem]
  | 3,_=>rw [g3];simp [*,go_sem])
 clear eb f0 f1 f2 f3 g0 g1 g2 g3 e0 e1 e2 e3 u0 u1 u2 u3 z1;go_wp2_with fail;go_quiet (((first|(go_at_call 198;exact Gi (Hr _ _ _ g f HG.out HF.out))|(go_at_call 198;exact Fj (Hr _ _ _ g f HG.out HF.out)))));go_wp2_with fail;go_ret;exact ⟨rfl,Bj _ b3⟩
theorem Js {w:World} {r:Nat} {o:Obj} (h:b≠r):(w.putObj r o).cell? ⟨b,i,none⟩=w.cell? (J b i):=by
 simp only [World.cell?];rw [World.putObj_heap_other h]
theorem V0 {w:World} {vs:Array Value} {t:TypeId} (hb:b=w.heap.size) (h:vs[i]? = some v):Z (w.alloc (.cells vs t)) b i v:=by
 subst hb;simp [go_sem,h]
theorem Vx (w:World) :
  Θ 143 #[] w fun e w'=>(∃B R1 R2 clock,e=.returned (.map (some B))∧w'.heap[B]? = some (.map #[{ key:=.int .u8 1,val:=.slice (E R1) 2 2,born:=0 },{ key:=.int .u8 2,val:=.slice (E R2) 2 2,born:=1 }] clock)∧Z w' R1 0 (.func (.func 196) #[] #[])∧Z w' R1 1 (.func (.func 144) #[] #[])∧Z w' R2 0 (.func (.func 196) #[] #[])∧Z w' R2 1 (.func (.func 197) #[] #[]))∧xp w w':=by
 have xy:=@run_makeMap prog;have br:((w.alloc (.map #[] 0)).alloc (.cells #[.func (.func 196) #[] #[],.func (.func 144) #[] #[]] 198)).heap[w.heap.size]? = some (.map #[] 0):=qFb;have q1:=kO _ _ _ _ 1 (.slice (E (w+1)) 2 2) br rfl;have ir:xp w ((w.alloc (.map #[] 0)).alloc (.cells #[.func (.func 196) #[] #[],.func (.func 144) #[] #[]] 198)):=qD;have ed:((w.alloc (.map #[] 0)).alloc (.cells #[.func (.func 196) #[] #[],.func (.func 144) #[] #[]] 198)).heap.size=w.heap.size+2:=qH;have bp:((((w.alloc (.map #[] 0)).alloc (.cells #[.func (.func 196) #[] #[],.func (.func 144) #[] #[]] 198)).putObj w (.map #[{ key:=.int .u8 1,val:=.slice (E (w+1)) 2 2,born:=0 }] 1)).alloc (.cells #[.func (.func 196) #[] #[],.func (.func 197) #[] #[]] 198)).heap[w.heap.size]? = some (.map #[{ key:=.int .u8 1,val:=.slice (E (w+1)) 2 2,born:=0 }] 1):=qEb;have q2:=kO _ _ _ _ 2 (.slice (E (w+2)) 2 2) bp rfl;have fg:xp w ((((w.alloc (.map #[] 0)).alloc (.cells #[.func (.func 196) #[] #[],.func (.func 144) #[] #[]] 198)).putObj w (.map #[{ key:=.int .u8 1,val:=.slice (E (w+1)) 2 2,born:=0 }] 1)).alloc (.cells #[.func (.func 196) #[] #[],.func (.func 197) #[] #[]] 198)):=Below.alloc (Ij _ ir (Ad _)) (by rw [Dw];omega) _;have en:w.heap.size<((((w.alloc (.map #[] 0)).alloc (.cells #[.func (.func 196) #[] #[],.func (.func 144) #[] #[]] 198)).putObj w (.map #[{ key:=.int .u8 1,val:=.slice (E (w+1)) 2 2,born:=0 }] 1)).alloc (.cells #[.func (.func 196) #[] #[],.func (.func 197) #[] #[]] 198)).heap.size:=by rw [Aj,Dw];omega
 go_enter func143,ntmps143;go_wp2_with fail;go_ret;refine ⟨⟨w.heap.size,w.heap.size+1,w.heap.size+2,_,rfl,World.putObj_heap_same en,?_,?_,?_,?_⟩,Ij _ fg (Ad _)⟩
 ·rw [Js qB,World.cell?_alloc_lt _ _ _ (by rw [Dw];simp),Js qB];simp [go_sem]
 ·rw [Js qB,World.cell?_alloc_lt _ _ _ (by rw [Dw];simp),Js qB];simp [go_sem]
 ·rw [Js qB];exact V0 (by rw [Dw];exact ed.symm) rfl
 ·rw [Js qB];exact V0 (by rw [Dw];exact ed.symm) rfl
theorem hJ {W:World} {B clock:Nat} {es:Array MapEntry} {key:Int} {j:Nat} (hb:W.heap[B]? = some (.map es clock)) (hf:Instr.findNow (.int .u8) (.int .u8 key) es.toList 0=some (some (j,v))) :
  (Instr.lookup 196 (.map (some B)) (.int .u8 key) false).run prog W=.ok v W:=qCb
theorem mE (h:Dd f g=0):∀i,i<4→f i=g i:=by
 intro i hi;by_cases h0:f 0=g 0
 ·by_cases h1:f 1=g 1
  ·by_cases h2:f 2=g 2
   ·by_cases h3:f 3=g 3
    ·match i,hi with
     | 0,_=>exact h0
     | 1,_=>exact h1
     | 2,_=>exact h2
     | 3,_=>exact h3
    ·exact absurd (Do.1 ((Ht (k:=3) qB (fun j hj=>by match j,hj with|0,_=>exact h0|1,_=>exact h1|2,_=>exact h2) h3).symm.trans h)) h3
   ·exact absurd (Do.1 ((Ht (k:=2) qB (fun j hj=>by match j,hj with|0,_=>exact h0|1,_=>exact h1) h2).symm.trans h)) h2
  ·exact absurd (Do.1 ((Ht (k:=1) qB (fun j hj=>by match j,hj with|0,_=>exact h0) h1).symm.trans h)) h1
 ·exact absurd (Do.1 ((Ht (k:=0) qB (fun j hj=>qB) h0).symm.trans h)) h0
theorem eC (h:Rp f g=0):Dd f g=0:=Nh fun i hi=>by
 have h1:=mE h (3-i) qB;unfold Ji at h1;rw [show 3-(3-i)=i from qB] at h1;exact h1.symm
theorem vY (w:World) (x0 x1 x2 x3 y0 y1 y2 y3:Int) (h0:InW x0) (h1:InW x1) (h2:InW x2) (h3:InW x3) (k0:InW y0) (k1:InW y1) (k2:InW y2) (k3:InW y3) :
  Θ 76 #[.int .u8 1,.agg #[U x0,U x1,U x2,U x3],.agg #[U y0,U y1,U y2,U y3]] w fun e w'=>e=.returned (M (F7 1 (Bn x0 x1 x2 x3) (Bn y0 y1 y2 y3)))∧xp w w':=by
 have HB:=Ac w w;have HI:=Ae (Ax h0 (Ax h1 (Ax h2 (Ax h3 (Ax k0 (Ax k1 (Ax k2 k3)))))));go_enter func76,ntmps76;go_wp2_with fail;refine (Vx _).mono ?_;rintro e w1 ⟨⟨B,R1,R2,clock,rfl,KY,r10,r11,r20,r21⟩,hb⟩;obtain ⟨hc,hf⟩:=Bg hb;have hz:=hb.size;(try simp only [Aj,Ak] at hz);replace HB:=zP w hb;have GP:Z w1 w 0 (U x0):=(hc _ _ qA).trans qJ;have GQ:Z w1 w 1 (U x1):=(hc _ _ qA).trans qJ;have GR:Z w1 w 2 (U x2):=(hc _ _ qA).trans qJ;have GS:Z w1 w 3 (U x3):=(hc _ _ qA).trans qJ;have GU:Z w1 (w+1) 0 (U y0):=(hc _ _ qA).trans qJ;have GV:Z w1 (w+1) 1 (U y1):=(hc _ _ qA).trans qJ;have GW:Z w1 (w+1) 2 (U y2):=(hc _ _ qA).trans qJ;have GX:Z w1 (w+1) 3 (U y3):=(hc _ _ qA).trans qJ;have q1:=hJ (key:=1) KY rfl;have t0:=r10;have t1:=r11;clear hc hf KY hb r10 r11 r20 r21 h0 h1 h2 h3 k0 k1 k2 k3;go_wp2_with fail;refine wp_loop_rounds 3 ?_;rw [rounds_succ];go_wp2_with fail;refine (Z8 w1 x0 x1 x2 x3 y0 y1 y2 y3 HI.out.1 HI.out.2.1 HI.out.2.2.1 HI.out.2.2.2.1 HI.out.2.2.2.2.1 HI.out.2.2.2.2.2.1 HI.out.2.2.2.2.2.2.1 HI.out.2.2.2.2.2.2.2).mono ?_;rintro e w2 ⟨rfl,bp⟩;have b2:=xo HB bp;by_cases hq:x0+x1+x2+x3=y0+y1+y2+y3
 ·have ig:Bz (x0+x1+x2+x3) (y0+y1+y2+y3)=0:=by rw [hq,Du]
  have HQ:=Ae hq;clear hq;rw [ig];replace ⟨t0,t1,GP,GQ,GR,GS,GU,GV⟩:=xl bp t0 t1 GP GQ GR GS GU GV;replace ⟨GW,GX⟩:=xk bp GW GX;clear ig;go_wp2_with fail;rw [rounds_succ];go_wp2_with fail;refine (Mq _ _ _ _ _ _ _ _ _ (Bn x0 x1 x2 x3) (Bn y0 y1 y2 y3) rfl rfl rfl rfl rfl rfl rfl rfl).mono ?_;rintro e w3 ⟨rfl,ea⟩;have b3:=xo b2 ea;have ew:F7 1 (Bn x0 x1 x2 x3) (Bn y0 y1 y2 y3)=Dd (Bn x0 x1 x2 x3) (Bn y0 y1 y2 y3):=by
   exact if_neg (c:=Ia (Bn x0 x1 x2 x3)≠Ia (Bn y0 y1 y2 y3)) (fun h=>h HQ.out)
  by_cases hv:Dd (Bn x0 x1 x2 x3) (Bn y0 y1 y2 y3)=0
  ·have HV:=Ae hv;rw [hv];clear hv;replace ⟨GP,GQ,GR,GS,GU,GV,GW,GX⟩:=xl ea GP GQ GR GS GU GV GW GX;have HR:=Ae ew;clear ew;go_wp2_with fail;rw [rounds_succ];go_wp2_with fail;refine (Mq _ _ _ _ _ _ _ _ _ (Bn x0 x1 x2 x3) (Bn y0 y1 y2 y3) rfl rfl rfl rfl rfl rfl rfl rfl).mono ?_;rintro e w4 ⟨rfl,ec⟩;have hlz:Dd (Bn x0 x1 x2 x3) (Bn y0 y1 y2 y3)=F7 1 (Bn x0 x1 x2 x3) (Bn y0 y1 y2 y3):=(HV.out).trans (HR.out.trans HV.out).symm;exact qEv
  ·have VY:(Dd (Bn x0 x1 x2 x3) (Bn y0 y1 y2 y3)==0)=false:=by rw [beq_eq_false_iff_ne];exact hv
   have HR:=Ae ew;clear ew hv;go_wp2_with fail;go_ret;exact ⟨by rw [HR.out];rfl,b3⟩
 ·have ig:(Bz (x0+x1+x2+x3) (y0+y1+y2+y3)==0)=false:=by rw [beq_eq_false_iff_ne];exact fun e=>hq (Do.1 e)
  have HR:Hid (F7 1 (Bn x0 x1 x2 x3) (Bn y0 y1 y2 y3)=Bz (x0+x1+x2+x3) (y0+y1+y2+y3)):=Ae (if_pos (c:=Ia (Bn x0 x1 x2 x3)≠Ia (Bn y0 y1 y2 y3)) (fun h=>hq h));clear hq;go_wp2_with fail;go_ret;exact ⟨by rw [HR.out];rfl,b2⟩
theorem tV (w:World) (x0 x1 x2 x3 y0 y1 y2 y3:Int) (h0:InW x0) (h1:InW x1) (h2:InW x2) (h3:InW x3) (k0:InW y0) (k1:InW y1) (k2:InW y2) (k3:InW y3) :
  Θ 76 #[.int .u8 2,.agg #[U x0,U x1,U x2,U x3],.agg #[U y0,U y1,U y2,U y3]] w fun e w'=>e=.returned (M (F7 2 (Bn x0 x1 x2 x3) (Bn y0 y1 y2 y3)))∧xp w w':=by
 have HB:=Ac w w;have HI:=Ae (Ax h0 (Ax h1 (Ax h2 (Ax h3 (Ax k0 (Ax k1 (Ax k2 k3)))))));go_enter func76,ntmps76;go_wp2_with fail;refine (Vx _).mono ?_;rintro e w1 ⟨⟨B,R1,R2,clock,rfl,KY,r10,r11,r20,r21⟩,hb⟩;obtain ⟨hc,hf⟩:=Bg hb;have hz:=hb.size;(try simp only [Aj,Ak] at hz);replace HB:=zP w hb;have GP:Z w1 w 0 (U x0):=(hc _ _ qA).trans qJ;have GQ:Z w1 w 1 (U x1):=(hc _ _ qA).trans qJ;have GR:Z w1 w 2 (U x2):=(hc _ _ qA).trans qJ;have GS:Z w1 w 3 (U x3):=(hc _ _ qA).trans qJ;have GU:Z w1 (w+1) 0 (U y0):=(hc _ _ qA).trans qJ;have GV:Z w1 (w+1) 1 (U y1):=(hc _ _ qA).trans qJ;have GW:Z w1 (w+1) 2 (U y2):=(hc _ _ qA).trans qJ;have GX:Z w1 (w+1) 3 (U y3):=(hc _ _ qA).trans qJ;have q1:=hJ (key:=2) KY rfl;have t0:=r20;have t1:=r21;clear hc hf KY hb r10 r11 r20 r21 h0 h1 h2 h3 k0 k1 k2 k3;go_wp2_with fail;refine wp_loop_rounds 3 ?_;rw [rounds_succ];go_wp2_with fail;refine (Z8 w1 x0 x1 x2 x3 y0 y1 y2 y3 HI.out.1 HI.out.2.1 HI.out.2.2.1 HI.out.2.2.2.1 HI.out.2.2.2.2.1 HI.out.2.2.2.2.2.1 HI.out.2.2.2.2.2.2.1 HI.out.2.2.2.2.2.2.2).mono ?_;rintro e w2 ⟨rfl,bp⟩;have b2:=xo HB bp;by_cases hq:x0+x1+x2+x3=y0+y1+y2+y3
 ·have ig:Bz (x0+x1+x2+x3) (y0+y1+y2+y3)=0:=by rw [hq,Du]
  have HQ:=Ae hq;clear hq;rw [ig];replace ⟨t0,t1,GP,GQ,GR,GS,GU,GV⟩:=xl bp t0 t1 GP GQ GR GS GU GV;replace ⟨GW,GX⟩:=xk bp GW GX;clear ig;go_wp2_with fail;rw [rounds_succ];go_wp2_with fail;refine (cW _ _ _ _ _ _ _ _ _ (Ji (Bn x0 x1 x2 x3)) (Ji (Bn y0 y1 y2 y3)) rfl rfl rfl rfl rfl rfl rfl rfl).mono ?_;rintro e w3 ⟨rfl,ea⟩;have b3:=xo b2 ea;have ew:F7 2 (Bn x0 x1 x2 x3) (Bn y0 y1 y2 y3)=Dd (Ji (Bn y0 y1 y2 y3)) (Ji (Bn x0 x1 x2 x3)):=by
   exact if_neg (c:=Ia (Bn x0 x1 x2 x3)≠Ia (Bn y0 y1 y2 y3)) (fun h=>h HQ.out)
  by_cases hv:Dd (Ji (Bn y0 y1 y2 y3)) (Ji (Bn x0 x1 x2 x3))=0
  ·have HV:=Ae hv;rw [hv];clear hv;replace ⟨GP,GQ,GR,GS,GU,GV,GW,GX⟩:=xl ea GP GQ GR GS GU GV GW GX;have HR:=Ae ew;clear ew;go_wp2_with fail;rw [rounds_succ];go_wp2_with fail;refine (Mq _ _ _ _ _ _ _ _ _ (Bn x0 x1 x2 x3) (Bn y0 y1 y2 y3) rfl rfl rfl rfl rfl rfl rfl rfl).mono ?_;rintro e w4 ⟨rfl,ec⟩;have hlz:Dd (Bn x0 x1 x2 x3) (Bn y0 y1 y2 y3)=F7 2 (Bn x0 x1 x2 x3) (Bn y0 y1 y2 y3):=(eC HV.out).trans (HR.out.trans HV.out).symm;exact qEv
  ·have VY:(Dd (Ji (Bn y0 y1 y2 y3)) (Ji (Bn x0 x1 x2 x3))==0)=false:=by rw [beq_eq_false_iff_ne];exact hv
   have HR:=Ae ew;clear ew hv;go_wp2_with fail;go_ret;exact ⟨by rw [HR.out];rfl,b3⟩
 ·have ig:(Bz (x0+x1+x2+x3) (y0+y1+y2+y3)==0)=false:=by rw [beq_eq_false_iff_ne];exact fun e=>hq (Do.1 e)
  have HR:Hid (F7 2 (Bn x0 x1 x2 x3) (Bn y0 y1 y2 y3)=Bz (x0+x1+x2+x3) (y0+y1+y2+y3)):=Ae (if_pos (c:=Ia (Bn x0 x1 x2 x3)≠Ia (Bn y0 y1 y2 y3)) (fun h=>hq h));clear hq;go_wp2_with fail;go_ret;exact ⟨by rw [HR.out];rfl,b2⟩
theorem vP (w:World) (o:Nat) (ho:o≤2) (x0 x1 x2 x3 y0 y1 y2 y3:Int) (h0:InW x0) (h1:InW x1) (h2:InW x2) (h3:InW x3) (k0:InW y0) (k1:InW y1) (k2:InW y2) (k3:InW y3) :
  Θ 76 #[.int .u8 o,.agg #[U x0,U x1,U x2,U x3],.agg #[U y0,U y1,U y2,U y3]] w fun e w'=>e=.returned (M (F7 o (Bn x0 x1 x2 x3) (Bn y0 y1 y2 y3)))∧xp w w':=by
 rcases (by omega:o=0∨o=1∨o=2) with rfl|rfl|rfl
 ·exact Yp w x0 x1 x2 x3 y0 y1 y2 y3
 ·exact vY w x0 x1 x2 x3 y0 y1 y2 y3 h0 h1 h2 h3 k0 k1 k2 k3
 ·exact tV w x0 x1 x2 x3 y0 y1 y2 y3 h0 h1 h2 h3 k0 k1 k2 k3
end Go.Proofs.YtfijkfdfbnfmmaaGreatDoor
end
