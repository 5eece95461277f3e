/- Package fracs: Mul, of, Of. -/
import Derived.Test.YtnnhcbeiogaknaaGreatDoorQV16
set_option linter.unusedSimpArgs false
set_option linter.unusedVariables false
set_option maxRecDepth 100000
set_option maxHeartbeats 4000000
section
namespace Go.Proofs.YtnnhcbeiogaknaaGreatDoor
open Go.RowKit
def yH (w0 w:World) (p q:Int) (m:Nat) (e:Ending) (w':World):Prop :=
 ∃g1 a1 n1 c1 g2 a2 n2 c2,e=.returned (.agg #[.bool g1,.slice a1 n1 c1,.bool g2,.slice a2 n2 c2])∧Bj w' g1 a1 n1 c1 p g2 a2 n2 c2 q∧n1≤m∧n2≤m∧(Bj w0 g1 a1 n1 c1 p g2 a2 n2 c2 q∨(Bg w.heap.size w' a1 c1∧Bg w.heap.size w' a2 c2))∧Below w.heap.size w w'
theorem tF (w:World) (g1:Bool) (a1:Γ) (n1 c1:Nat) (p:Int) (g2:Bool) (a2:Γ) (n2 c2:Nat) (q:Int) (h:Bj w g1 a1 n1 c1 p g2 a2 n2 c2 q)
  (g3:Bool) (a3:Γ) (n3 c3:Nat) (p':Int) (g4:Bool) (a4:Γ) (n4 c4:Nat) (q':Int) (m:Nat) (hof:∀W,Below w.heap.size w W→Θ 91 #[.agg #[.bool g3,.slice a3 n3 c3,.bool g4,.slice a4 n4 c4]] W (yH w W p' q' m)) (hb1:n1≤1000000000) (hb2:n2≤1000000000) (hm:m≤1000000000) :
  Θ 39 #[.agg #[.bool g1,.slice a1 n1 c1,.bool g2,.slice a2 n2 c2],.agg #[.bool g3,.slice a3 n3 c3,.bool g4,.slice a4 n4 c4]] w (Eg w (E6 (p*p') (q*q')) (Fi (p*p') (q*q'))):=by
 have HB:=Ac w.heap.size w;have HOF:=Ae hof;clear hof;go_enter Tryz.func39,Tryz.ntmps39;go_wp2_with fail;refine Cf (fun W=>W.cell? ⟨w.heap.size,0,none⟩=some (.bool g1)∧W.cell? ⟨w.heap.size,1,none⟩=some (.slice a1 n1 c1)∧W.cell? ⟨w.heap.size,2,none⟩=some (.bool g2)∧W.cell? ⟨w.heap.size,3,none⟩=some (.slice a2 n2 c2)∧W.cell? ⟨w.heap.size+1,0,none⟩=some (.bool g3)∧W.cell? ⟨w.heap.size+1,1,none⟩=some (.slice a3 n3 c3)∧W.cell? ⟨w.heap.size+1,2,none⟩=some (.bool g4)∧W.cell? ⟨w.heap.size+1,3,none⟩=some (.slice a4 n4 c4)) 4 qC qK (fun hHeld=>?_);(refine Bk.take 1 (i:=0) (v:=?_) rfl qC (fun _ _ _ h=>h) (Or.inl ⟨by rfl,?_⟩) qH ?_;rotate_left;(focus (intro w' hSw;(try dsimp only at hSw);go_simp;(try with_reducible rfl)));(try simp only [Act.put,Au,Av,Aw]));(refine Bk.take 3 (i:=2) (v:=?_) rfl qC (fun _ _ _ h=>h) (Or.inl ⟨by rfl,?_⟩) qH ?_;rotate_left;(focus (intro w' hSw;(try dsimp only at hSw);go_simp;(try with_reducible rfl)));(try simp only [Act.put,Au,Av,Aw]));(refine Bk.one (i:=1) rfl qC (fun K hK=>?_);go_simp;(go_at_call 91;(with_reducible refine (Tk _ _ _ _ _ _ _ _ _ _ _ (h.keep qF) qA qA).mono ?_);rintro e w1 ⟨rfl,hb⟩;obtain ⟨hc,hf⟩:=Bl hb;have hz:=hb.size;(try simp only [Aj,Ak] at hz);replace HB:=zI w hb;obtain ⟨s0_0,s0_1⟩:=qZ hc (w.heap.size) (.bool g1) (.slice a1 n1 c1);obtain ⟨s0_2,s0_3⟩:=zD hc (w.heap.size) (.bool g2) (.slice a2 n2 c2);obtain ⟨s1_0,s1_1⟩:=qZ hc (w.heap.size+1) (.bool g3) (.slice a3 n3 c3);obtain ⟨s1_2,s1_3⟩:=zD hc (w.heap.size+1) (.bool g4) (.slice a4 n4 c4);obtain ⟨s2_0,s2_1⟩:=zE hc (w.heap.size+1+1);obtain ⟨s2_2,s2_3⟩:=zD hc (w.heap.size+1+1) (.bool false) (.slice none 0 0);obtain ⟨f2_0,f2_1⟩:=zF hf (w.heap.size+1+1);obtain ⟨f2_2,f2_3⟩:=zG hf (w.heap.size+1+1);obtain ⟨f0_0,f0_1⟩:=zF hf (w.heap.size);obtain ⟨f0_2,f0_3⟩:=zG hf (w.heap.size);obtain ⟨f1_0,f1_1⟩:=zF hf (w.heap.size+1);obtain ⟨f1_2,f1_3⟩:=zG hf (w.heap.size+1));(try go_wp2_with fail);refine hK.out _ _ (fun _=>qK) ?_;clear hK K;(try simp only [Act.put,Au,Av,Aw]))
 (refine Bk.one (i:=3) rfl qC (fun K hK=>?_);go_simp;(go_at_call 91;(with_reducible refine (HOF.out _ qF).mono ?_);rintro e w2 ⟨g5,a5,n5,c5,g6,a6,n6,c6,rfl,hF,hm5,hm6,hold,hb2⟩;have hb12:Below w1.heap.size w1 w2:=Al (by first|assumption|go_grown) (hb2.mono qB);have hsz2:=hb12.size;(replace f0_0:=(Ab hb12 (Aa _ _ s0_0)).trans f0_0;replace s0_0:=Bc hb12 s0_0;replace f0_1:=(Ab hb12 (Aa _ _ s0_1)).trans f0_1;replace s0_1:=Bc hb12 s0_1;replace f0_2:=(Ab hb12 (Aa _ _ s0_2)).trans f0_2;replace s0_2:=Bc hb12 s0_2;replace f0_3:=(Ab hb12 (Aa _ _ s0_3)).trans f0_3;replace s0_3:=Bc hb12 s0_3;replace f1_0:=(Ab hb12 (Aa _ _ s1_0)).trans f1_0;replace s1_0:=Bc hb12 s1_0;replace f1_1:=(Ab hb12 (Aa _ _ s1_1)).trans f1_1;replace s1_1:=Bc hb12 s1_1;replace f1_2:=(Ab hb12 (Aa _ _ s1_2)).trans f1_2;replace s1_2:=Bc hb12 s1_2;replace f1_3:=(Ab hb12 (Aa _ _ s1_3)).trans f1_3;replace s1_3:=Bc hb12 s1_3;replace f2_0:=(Ab hb12 (Aa _ _ s2_0)).trans f2_0;replace s2_0:=Bc hb12 s2_0;replace f2_1:=(Ab hb12 (Aa _ _ s2_1)).trans f2_1;replace s2_1:=Bc hb12 s2_1;replace f2_2:=(Ab hb12 (Aa _ _ s2_2)).trans f2_2;replace s2_2:=Bc hb12 s2_2;replace f2_3:=(Ab hb12 (Aa _ _ s2_3)).trans f2_3;replace s2_3:=Bc hb12 s2_3);replace HB:=HB.trans (hb12.mono HB.size));(try go_wp2_with fail);refine hK.out _ _ (fun _=>qK) ?_;clear hK K;(try simp only [Act.put,Au,Av,Aw]));(refine Bk.one (i:=4) rfl qC (fun K hK=>?_);go_simp;refine hK.out _ _ (fun h=>absurd h qI) ?_;clear hK K;(try simp only [Act.put,Au,Av,Aw]));(refine Bk.one (i:=5) rfl qC (fun K hK=>?_);go_simp;refine hK.out _ _ (fun h=>absurd h qI) ?_;clear hK K;(try simp only [Act.put,Au,Av,Aw]));refine Bk.done qC ?_ _;have hk2:w.heap.size+1+1<w2.heap.size:=Aa _ _ s2_0;have hk1:=HB.size;go_upto_region 2 with fail
 refine Cc ?_;intro w3 hw3;have HB3:Below w.heap.size w w3:=by rw [hw3];go_grown
 have A0:w3.cell? ⟨w.heap.size,0,none⟩=some (.bool g1):=by rw [hw3];simp [*,go_sem]
 have A1:w3.cell? ⟨w.heap.size,1,none⟩=some (.slice a1 n1 c1):=by rw [hw3];simp [*,go_sem]
 have A2:w3.cell? ⟨w.heap.size,2,none⟩=some (.bool g2):=by rw [hw3];simp [*,go_sem]
 have A3:w3.cell? ⟨w.heap.size,3,none⟩=some (.slice a2 n2 c2):=by rw [hw3];simp [*,go_sem]
 have B0:w3.cell? ⟨w.heap.size+1,0,none⟩=some (.bool g5):=by rw [hw3];simp [*,go_sem]
 have B1:w3.cell? ⟨w.heap.size+1,1,none⟩=some (.slice a5 n5 c5):=by rw [hw3];simp [*,go_sem]
 have B2:w3.cell? ⟨w.heap.size+1,2,none⟩=some (.bool g6):=by rw [hw3];simp [*,go_sem]
 have B3:w3.cell? ⟨w.heap.size+1,3,none⟩=some (.slice a6 n6 c6):=by rw [hw3];simp [*,go_sem]
 have R0:w3.cell? ⟨w.heap.size+1+1,0,none⟩=some (.bool false):=by rw [hw3];simp [*,go_sem]
 have R1:w3.cell? ⟨w.heap.size+1+1,1,none⟩=some (.slice none 0 0):=by rw [hw3];simp [*,go_sem]
 have R2:w3.cell? ⟨w.heap.size+1+1,2,none⟩=some (.bool false):=by rw [hw3];simp [*,go_sem]
 have R3:w3.cell? ⟨w.heap.size+1+1,3,none⟩=some (.slice none 0 0):=by rw [hw3];simp [*,go_sem]
 have Rf0:w3.frozen? ⟨w.heap.size+1+1,0,none⟩=false:=by rw [hw3];simp [*,go_sem]
 have Rf1:w3.frozen? ⟨w.heap.size+1+1,1,none⟩=false:=by rw [hw3];simp [*,go_sem]
 have Rf2:w3.frozen? ⟨w.heap.size+1+1,2,none⟩=false:=by rw [hw3];simp [*,go_sem]
 have Rf3:w3.frozen? ⟨w.heap.size+1+1,3,none⟩=false:=by rw [hw3];simp [*,go_sem]
 have hF3:Bj w3 g5 a5 n5 c5 p' g6 a6 n6 c6 q':=by
  rcases hold with ho|⟨f5,f6⟩
  ·exact ho.keep HB3
  ·have l0:w.heap.size<w1.heap.size:=by omega
   have l1:w.heap.size+1<w1.heap.size:=by omega
   rw [hw3];exact ⟨(hF.top.set4 f5 _ _ _ _ _ _ _ _ l0 l0 l0 l0).set4 (f5.set4 _ _ _ _ _ _ _ _ l0 l0 l0 l0) _ _ _ _ _ _ _ _ l1 l1 l1 l1,(hF.low.set4 f6 _ _ _ _ _ _ _ _ l0 l0 l0 l0).set4 (f6.set4 _ _ _ _ _ _ _ _ l0 l0 l0 l0) _ _ _ _ _ _ _ _ l1 l1 l1 l1,hF.pos,hF.red⟩
 have e1:=h.top.rd.len;have e3:=hF3.top.rd.len;have i1:=Ej p p';have HD:Hid ((dg (p*p').natAbs).length<35184372088829):=Ae qA;have hk3:w.heap.size+1+1+1≤w3.heap.size:=Aa _ _ R0;clear hw3 e1 e3 i1 HB hc hf hb hz hF hold hb2 hb12 hsz2 hk2 hk1 s0_0 s0_1 s0_2 s0_3 s1_0 s1_1 s1_2 s1_3 s2_0 s2_1 s2_2 s2_3 f0_0 f0_1 f0_2 f0_3 f1_0 f1_1 f1_2 f1_3 f2_0 f2_1 f2_2 f2_3;go_wp2_with fail;refine (lM _ _ _ _ _ _ _ _ _ _ _ (h.keep HB3) _ _ _ _ _ _ _ _ _ _ hF3 hb1 hb2 qA qA _ _ (p*p') HD.out (fun W gx ax nx cx gy ay ny cy hW hx hy=>tY W w.heap.size (w.heap.size+1) gx ax nx cx gy ay ny cy _ _ _ _ p ((h.keep HB3).top.keep hW) _ _ _ _ p' (hF3.top.keep hW) qA qA (Bc hW A0) (Bc hW A1) (Bc hW B0) (Bc hW B1))).mono ?_;rintro e w4 ⟨ge,ae,ne,ce,gf,af,nf,cf,rfl,hr,hfe,hff,hap,hb⟩;have HB4:=HB3.trans (hb.mono HB3.size)
 (replace Rf0:=(Ab hb (Aa _ _ R0)).trans Rf0;replace Rf1:=(Ab hb (Aa _ _ R1)).trans Rf1;replace Rf2:=(Ab hb (Aa _ _ R2)).trans Rf2;replace Rf3:=(Ab hb (Aa _ _ R3)).trans Rf3;replace R0:=Bc hb R0;replace R1:=Bc hb R1;replace R2:=Bc hb R2;replace R3:=Bc hb R3)
 have fe:Bg (w.heap.size+1+1+1) w4 ae ce:=hfe.mono hk3;have ff:Bg (w.heap.size+1+1+1) w4 af cf:=hff.mono hk3;have u2:w.heap.size+1+1<w.heap.size+1+1+1:=Ag _;clear hb HB3 hfe hff;go_wp2_with fail;refine bodyPost_ret (v:=.agg #[.bool ge,.slice ae ne ce,.bool gf,.slice af nf cf]) (by simp [results,Tryz.results39,go_sem,R0,R1,R2,R3]) rfl ?_;exact qAt
theorem I3 (w:World) (g1:Bool) (a1:Γ) (n1 c1:Nat) (p:Int) (g2:Bool) (a2:Γ) (n2 c2:Nat) (q:Int) (h:Bj w g1 a1 n1 c1 p g2 a2 n2 c2 q)
  (g3:Bool) (a3:Γ) (n3 c3:Nat) (p':Int) (g4:Bool) (a4:Γ) (n4 c4:Nat) (q':Int) (h':Bj w g3 a3 n3 c3 p' g4 a4 n4 c4 q') (hb1:n1≤1000000000) (hb2:n2≤1000000000) (hb3:n3≤1000000000) (hb4:n4≤1000000000) :
  Θ 39 #[.agg #[.bool g1,.slice a1 n1 c1,.bool g2,.slice a2 n2 c2],.agg #[.bool g3,.slice a3 n3 c3,.bool g4,.slice a4 n4 c4]] w (Eg w (E6 (p*p') (q*q')) (Fi (p*p') (q*q'))) :=
 tF w g1 a1 n1 c1 p g2 a2 n2 c2 q h g3 a3 n3 c3 p' g4 a4 n4 c4 q' 1000000000 (fun W hW=>(Tk W _ _ _ _ _ _ _ _ _ _ (h'.keep hW) qA qA).mono (fun e w' ⟨he,hb⟩=>⟨_,_,_,_,_,_,_,_,he,(h'.keep hW).keep hb,hb3,hb4,.inl h',hb⟩)) hb1 hb2 (Ad _)
theorem Fh (w:World) (z:Int) (h0:-9223372036854775808≤z) (h1:z≤9223372036854775807):Θ 10 #[.int .i64 z] w (Eg w z 1):=by
 have HB:=Ac w.heap.size w;go_enter Tryz.func10,Tryz.ntmps10;go_wp2_with fail;refine (Qt _ z h0 h1).mono ?_;rintro e w1 ⟨g1,a1,n1,c1,rfl,hn1,hf1,hb⟩;obtain ⟨hc,hf⟩:=Bl hb;have hz:=hb.size;(try simp only [Aj,Ak] at hz);replace HB:=zI w hb;obtain ⟨s0_0,s0_1⟩:=zE hc (w.heap.size);obtain ⟨s0_2,s0_3⟩:=zD hc (w.heap.size) (.bool false) (.slice none 0 0);obtain ⟨f0_0,f0_1⟩:=zF hf (w.heap.size);obtain ⟨f0_2,f0_3⟩:=zG hf (w.heap.size);have hk1:w.heap.size<w1.heap.size:=by omega
 have f1:Bg (w.heap.size+1) w1 a1 c1:=hf1.mono qB;clear hc hf hb hz hf1;go_wp2_with fail;refine (Qt _ 1 qA qA).mono ?_;rintro e w2 ⟨g2,a2,n2,c2,rfl,hn2,hf2,hb⟩;obtain ⟨hc,hf⟩:=Bl hb;have hz:=hb.size;(try simp only [Aj,Ak] at hz);replace HB:=zI w hb;obtain ⟨s0_0,s0_1⟩:=zE hc (w.heap.size);obtain ⟨s0_2,s0_3⟩:=zD hc (w.heap.size) (.bool false) (.slice none 0 0);obtain ⟨f0_0,f0_1⟩:=zF hf (w.heap.size);obtain ⟨f0_2,f0_3⟩:=zG hf (w.heap.size);have f1':=f1.keep hb;have hn1':=hn1.keep hb;have f2:Bg (w.heap.size+1) w2 a2 c2:=hf2.mono qA;have hap:Ap2 a1 c1 a2 c2:=bU f1 (hf2.mono qB);have hk2:w.heap.size<w2.heap.size:=by omega
 have u:w.heap.size<w.heap.size+1:=Ag _;clear hc hf hb hz hf2;go_wp2_with fail;refine bodyPost_ret (v:=.agg #[.bool g1,.slice a1 n1 c1,.bool g2,.slice a2 n2 c2]) (by simp [results,Tryz.results10,go_sem,s0_0,s0_1,s0_2,s0_3]) rfl ?_;refine ⟨g1,a1,n1,c1,g2,a2,n2,c2,rfl,⟨?_,?_,by omega,by simp [Int.gcd]⟩,?_,?_,hap,by go_grown⟩
 ·exact hn1'.set4 f1' _ _ _ _ _ _ _ _ u u u u
 ·exact hn2.set4 f2 _ _ _ _ _ _ _ _ u u u u
 ·exact (f1'.set4 _ _ _ _ _ _ _ _ u u u u).mono qA
 ·exact (f2.set4 _ _ _ _ _ _ _ _ u u u u).mono qA
theorem Co {w:World} {g:Bool} {a:Γ} {n c:Nat} {z:Int} (h:Bh w g a n c z) (hz:z.natAbs<1000000000):n≤1:=by
 have h1:=h.rd.len;rcases Aq z.natAbs with h2|h2
 ·rw [h2,De] at h1;simp at h1;omega
 ·rw [Hg h2,show z.natAbs/1000000000=0 by omega,De] at h1;simp at h1;omega
theorem Xj (w:World):RdL w none 0 0 []:=⟨rfl,Ad _,by omega,by omega,fun i=>by simp [lim],.inl rfl⟩
theorem Abu (w0 w:World) (g1:Bool) (a1:Γ) (n1 c1:Nat) (d1:Ξ) (h1:RdL w a1 n1 c1 d1) (g2:Bool) (a2:Γ) (n2 c2:Nat) (d2:Ξ) (h2:RdL w a2 n2 c2 d2) (hs:n2<35184372088829) (hb1:n1<35184372088829) (hr:¬FOk g1 d1 g2 d2) :
  Θ 91 #[.agg #[.bool g1,.slice a1 n1 c1,.bool g2,.slice a2 n2 c2]] w (yH w0 w 0 1 1):=by
 have HB:=Ac w.heap.size w;have HR:=Ae hr;clear hr;go_enter Tryz.func91,Tryz.ntmps91;go_wp2_with fail;refine (Ep _ _ _ _ _ _ (h1.keep qF) _ _ _ _ _ (h2.keep qF) hs hb1 false ⟨fun h=>absurd h HR.out,fun e=>(by cases e)⟩).mono ?_;rintro e w1 ⟨rfl,hb⟩;obtain ⟨hc,hf⟩:=Bl hb;have hz:=hb.size;(try simp only [Aj,Ak] at hz);replace HB:=zI w hb;obtain ⟨s0_0,s0_1⟩:=qZ hc (w.heap.size) (.bool g1) (.slice a1 n1 c1);obtain ⟨s0_2,s0_3⟩:=zD hc (w.heap.size) (.bool g2) (.slice a2 n2 c2);obtain ⟨s1_0,s1_1⟩:=zE hc (w.heap.size+1);obtain ⟨s1_2,s1_3⟩:=zD hc (w.heap.size+1) (.bool false) (.slice none 0 0);obtain ⟨f1_0,f1_1⟩:=zF hf (w.heap.size+1);obtain ⟨f1_2,f1_3⟩:=zG hf (w.heap.size+1);have hk1:w.heap.size+1<w1.heap.size:=by omega
 clear hc hf hb hz;go_wp2_with fail;refine (Fh _ 0 qA qA).mono ?_;rintro e w2 ⟨g3,a3,n3,c3,g4,a4,n4,c4,rfl,hF,hf3,hf4,hap,hb⟩;obtain ⟨hc,hf⟩:=Bl hb;have hz:=hb.size;(try simp only [Aj,Ak] at hz);replace HB:=zI w hb;obtain ⟨s1_0,s1_1⟩:=zE hc (w.heap.size+1);obtain ⟨s1_2,s1_3⟩:=zD hc (w.heap.size+1) (.bool false) (.slice none 0 0);obtain ⟨f1_0,f1_1⟩:=zF hf (w.heap.size+1);obtain ⟨f1_2,f1_3⟩:=zG hf (w.heap.size+1);have f3:Bg (w.heap.size+1+1) w2 a3 c3:=hf3.mono qA;have f4:Bg (w.heap.size+1+1) w2 a4 c4:=hf4.mono qA;have hk2:w.heap.size+1<w2.heap.size:=by omega
 have u:w.heap.size+1<w.heap.size+1+1:=Ag _;clear hc hf hb hz hf3 hf4;go_wp2_with fail;refine bodyPost_ret (v:=.agg #[.bool g3,.slice a3 n3 c3,.bool g4,.slice a4 n4 c4]) (by simp [results,Tryz.results91,go_sem,s1_0,s1_1,s1_2,s1_3]) rfl ?_;refine ⟨g3,a3,n3,c3,g4,a4,n4,c4,rfl,⟨?_,?_,hF.pos,hF.red⟩,Co hF.top qG,Co hF.low qG,.inr ⟨?_,?_⟩,by go_grown⟩
 ·exact hF.top.set4 f3 _ _ _ _ _ _ _ _ u u u u
 ·exact hF.low.set4 f4 _ _ _ _ _ _ _ _ u u u u
 ·exact (f3.set4 _ _ _ _ _ _ _ _ u u u u).mono qA
 ·exact (f4.set4 _ _ _ _ _ _ _ _ u u u u).mono qA
theorem X6 {w:World} {b o n c:Nat} {p:Nat→Tm} (h:RdP w (some ⟨b,o,none⟩) n c p):∀j u,(Ds p n)[j]? = some u→w.cell? ((⟨b,o,none⟩:Addr).add j)=some u:=by
 intro j u hj;have hlt:j<n*8:=by
  have:=(List.getElem?_eq_some_iff.1 hj).1;rwa [Kg] at this
 have h1:=Ur p n (j/8) (j%8) qA qA;rw [show j/8*8+j%8=j by omega,hj] at h1;have hadd:(⟨b,o,none⟩:Addr).add j=⟨b,o+j,none⟩:=by unfold Addr.add;split<;>simp_all
 rw [hadd];obtain ⟨e0,e1,e2,e3,e4,e5,e6,e7⟩:=h.at (i:=j/8) qA;have hk:o+j=o+j/8*8+j%8:=by omega
 rw [hk];have h8:j%8<8:=by omega
 generalize j%8=k at *;generalize o+j/8*8=m at *
 match k,h8 with
 | 0,_=>rw [Nat.add_zero,e0];exact h1.symm
 | 1,_=>rw [e1];exact h1.symm
 | 2,_=>rw [e2];exact h1.symm
 | 3,_=>rw [e3];exact h1.symm
 | 4,_=>rw [e4];exact h1.symm
 | 5,_=>rw [e5];exact h1.symm
 | 6,_=>rw [e6];exact h1.symm
 | 7,_=>rw [e7];exact h1.symm
theorem kM (p:Nat→Tm) (n:Nat):∀u∈Ds p n,u.oneCell'=true:=by
 induction n with
 | zero=>simp [Ds]
 | succ n ih =>
  intro u hu;rw [Ds] at hu;rcases List.mem_append.1 hu with h|h
  ·exact ih u h
  ·simp [Tm.cells] at h;rcases h with rfl|rfl|rfl|rfl|rfl|rfl|rfl|rfl<;>rfl
theorem Jo {w:World} {ops:Array Oper} {rest:List Oper} {o:Oper} {a:Act} {Q:Exit→Act→World→Prop} (hgd:o.guard=none) (s x:Operand)
  (ho:o.op=.call { callee:=.builtin .append,args:=#[s,x],argTypes:=#[25,25] }) (base:Nat) (v:Value) (k:Nat) (xs:List Value) (hs:a.eval s=v) (hown:w.ownsRow base 79 8 v k xs)
  (ad:Γ) (n c:Nat) (p:Nat→Tm) (hx:a.eval x=.slice ad n c) (hp:RdP w ad n c p) (hnil:ad=none→c=0) (hk:k≤1000000) (hn:n≤1000000) (hbase:base≤w.heap.size)
  (h:∀v' w',w'.ownsRow base 79 8 v' (k+n) (xs++Ds p n)→w.grownBy w' v.ownBlock→wpList Tryz.prog ops Q rest (a.put o.dst v') w'):wpList Tryz.prog ops Q (o::rest) a w:=by
 obtain ⟨i0,hi,hz0,hz1,hz2⟩:=info_parts Ss
 cases ad with
 | none =>
  have hc:=hnil rfl;have h0:n=0:=by have:=hp.cap;omega
  subst hc h0;refine wpList_append_own_none hgd s x 25 ho base 79 i0 8 Tryz.underlying25 hi v k xs hs hown hx (h v w ?_ ⟨rfl,rfl,rfl,Ad _,fun _ _ _=>rfl⟩);simpa [Ds] using hown
 | some ad =>
  obtain ⟨b,off,sp⟩:=ad;have hsp:n=0∨sp=none:=by
   rcases hp.cell with h0|⟨b',o',e,_⟩
   ·exact .inl h0
   ·right;simp only [Option.some.injEq,Addr.mk.injEq] at e;exact e.2.2
  refine wpList_append_own _ hgd s x 25 ho base 79 i0 (.agg #[.bool false,.slice none 0 0,.bool false,.slice none 0 0,.int .u16 0,.int .u16 0,.int .u16 0,.int .u16 0]) 8 72 Tryz.underlying25 hi hz0 hz1 hz2 rfl qI v k xs hs hown ⟨b,off,sp⟩ n c (Ds p n) hx (Kg p n) ?_ (kM p n) qO qA hbase (fun v' w' h1 h2 _=>h v' w' h1 h2);rcases hsp with h0|h0
  ·subst h0;intro j u hj;simp [Ds] at hj
  ·subst h0;exact X6 hp
theorem Aa0 (w:World) (n:Nat) (hn:n≤2000000):Θ 173 #[.slice none 0 0,.int .i64 n] w fun e w'=>∃v,e=.returned v∧w'.ownsRow w.heap.size 79 8 v 0 []∧Below w.heap.size w w':=by
 obtain ⟨i0,hi,hz0,hz1,hz2⟩:=info_parts Ss;by_cases h0:n=0
 ·subst h0;have h:=Any8.slices_Grow_room Tryz.laysGrow176 none 0 0 0 w qA qA qA qA;exact (show Θ 173 _ _ _ from h).mono fun e w' ⟨he,hw⟩=>⟨_,he,⟨rfl,.inl ⟨rfl,rfl⟩⟩,by rw [hw];exact Ac _ _⟩
 ·have h:=Any8.slices_Grow_grow Tryz.laysGrow176 i0 _ hi hz0 qA none 0 0 n [] w qA qA (by rw [hz2];omega) qA qG qG qG;refine (show Θ 173 _ _ _ from h).mono ?_;rintro e w' ⟨rfl,rfl⟩;have hg:=grownCap_ge w (0+n) 0 (Tryz.laysGrow176_ren.t 25);have hm:=grownCap_le_maxLen w (0+n) 0 (Tryz.laysGrow176_ren.t 25) qO;refine ⟨_,rfl,⟨rfl,.inr ⟨w.heap.size,_,_,rfl,Ad _,by exact World.alloc_heap_new w.drew _,by omega,hm,?_,by simp⟩⟩,(Ac _ w).drew.alloc (Ad _) _⟩;generalize grownCap w (0+n) 0 (Tryz.laysGrow176_ren.t 25)=G at *;have h8:(Value.agg #[.bool false,.slice none 0 0,.bool false,.slice none 0 0,.int .u16 0,.int .u16 0,.int .u16 0,.int .u16 0]).cells.size=8:=rfl;simp only [Array.size_append,size_zeroCells,h8,List.size_toArray,List.length_nil];omega
theorem oH (w:World) (A:Nat) (a:Γ) (n c:Nat) (p:Nat→Tm) (hp:RdP w a n c p) (hnl:a=none→c=0) (a':Γ) (n' c':Nat) (q:Nat→Tm) (hq:RdP w a' n' c' q) (hnl':a'=none→c'=0)
  (hn:n≤500000) (hn':n'≤500000) (x0:w.cell? ⟨A,0,none⟩=some (.slice a n c)) (x1:w.cell? ⟨A,1,none⟩=some (.slice a' n' c')) :
  Θ 105 #[.slice (some ⟨A,0,none⟩) 2 2] w fun e w'=>∃v,e=.returned v∧w'.ownsRow w.heap.size 79 8 v (n+n') (Ds p n++Ds q n')∧Below w.heap.size w w':=by
 have HB:=Ac w.heap.size w;have hG:∀W:World,Θ 173 #[.slice none 0 0,.int .i64 ((n:Int)+(n':Int))] W fun e w'=>∃v,e=.returned v∧w'.ownsRow W.heap.size 79 8 v 0 []∧Below W.heap.size W w':=fun W=>by
  have h:=Aa0 W (n+n') qA;rwa [Int.natCast_add] at h
 go_enter Tryz.func105,Tryz.ntmps105;go_wp2_with fail;refine wp_loop_rounds 3 ?_;rw [rounds_succ];go_wp2_with fail;rw [rounds_succ];go_wp2_with fail;rw [rounds_succ];go_wp2_with (first|(go_at_call 173;refine (hG _).mono ?_;rintro e w1 ⟨v1,rfl,hown1,hb1⟩));have hz1:=hb1.size;have y0:=Bc hb1 x0;have y1:=Bc hb1 x1;refine wp_loop_rounds 3 ?_;rw [rounds_succ];go_wp2_with (first|(at_builtin;refine Jo rfl _ _ rfl w.heap.size _ 0 [] rfl hown1 a n c p rfl (hp.keep hb1) hnl qA qA hz1 ?_;intro v2 w2 hown2 hg2));have hb2:Below w.heap.size w w2:=hb1.grown hg2 hz1 (Hd hown1);have hz2:=hb2.size;have z0:=Bc hb2 x0;have z1:=Bc hb2 x1;rw [List.nil_append,Nat.zero_add] at hown2;rw [rounds_succ];go_wp2_with (first|(at_builtin;refine Jo rfl _ _ rfl w.heap.size _ n (Ds p n) rfl hown2 a' n' c' q rfl (hq.keep hb2) hnl' qA qA hz2 ?_;intro v3 w3 hown3 hg3));have hb3:Below w.heap.size w w3:=hb2.grown hg3 hz2 (Hd hown2);rw [rounds_succ];go_wp2_with fail;refine bodyPost_ret (v:=v3) (by simp [results,Tryz.results105,go_sem]) rfl ?_;exact ⟨v3,rfl,hown3,hb3⟩
end Go.Proofs.YtnnhcbeiogaknaaGreatDoor
end
