/- Package limbs: Add. -/
import Derived.Test.YtfijkfdfbnfmmaaGreatDoorQF1
set_option linter.unusedSimpArgs false
set_option linter.unusedVariables false
set_option maxRecDepth 100000
set_option maxHeartbeats 4000000
section
namespace Go.Proofs.YtfijkfdfbnfmmaaGreatDoor
open Go.RowKit Proofs.Tryz
variable (w:World) (g:Bool) {B:Nat} {d:Ξ}
theorem Bc.newA {w:World} {a:Γ} {n c:Nat} (h:Bc B w a c) (hd:RdL w a n c d):n=0∨K0 B a:=by
 rcases h with rfl|⟨b,cur,h1,h2,_⟩
 ·exact .inl (by have:=hd.cap;omega)
 ·exact .inr (fun x hx=>by rw [h1] at hx;cases hx;exact h2)
theorem RdL.setFresh {w:World} {a:Γ} {n c:Nat} (h:RdL w a n c d) (hf:Bc B w a c) (p:Addr) (u:Value) (hp:p.block<B):RdL (w.setCell p u) a n c d:=by
 rcases hf.newA h with h0|h0
 ·exact ⟨h.len,h.cap,h.few,h.top,h.small,.inl h0⟩
 ·exact h.setNew p u (h0.mono qB)
theorem Bh.setFresh {w:World} {g:Bool} {a:Γ} {n c:Nat} {z:Int} (h:Bh w g a n c z) (hf:Bc B w a c) (p:Addr) (u:Value) (hp:p.block<B):Bh (w.setCell p u) g a n c z:=⟨h.neg,h.rd.setFresh hf p u hp⟩
theorem fX (a:Γ) (n c:Nat) (z:Int) (h:Bh w g a n c z) (a':Γ) (n' c':Nat) (z':Int) (h':Bh w g a' n' c' z')
  (br:n<35184372088831) (bp:n'<35184372088831) (AP:0≤Bz (val (dg z.natAbs)) (val (dg z'.natAbs))) (hle:z'.natAbs≤z.natAbs) :
  Θ 256 #[.agg #[.bool g,.slice a n c],.agg #[.bool g,.slice a' n' c']] w (Di w (z+z')):=by
 have HB:=Ac w w;have AK:=h.rd.len;have DR:=h'.rd.len;have AN:=Bu hle;have VT:=Ae AP;clear AP;go_enter func256,ntmps256;go_wp2_with fail;go_region_held3 (fun W=>Z W w 0 (.bool g)∧Z W w 1 (.slice a n c)∧Z W (w+1) 0 (.bool g)∧Z W (w+1) 1 (.slice a' n' c')) (exact qK) (first
  | (go_at_call 219;(with_reducible refine (I1 _ g a n c z (h.keep qD)).mono ?_);rintro e w1 ⟨rfl,hb⟩;obtain ⟨hc,hf⟩:=Bg hb;have hz:=hb.size;(try simp only [Aj,Ak] at hz);replace HB:=zP w hb;obtain ⟨aw,bh⟩:=xd hc w g a n c;obtain ⟨bn,bo⟩:=xd hc (w+1) g a' n' c';obtain ⟨bw,bx⟩:=zJ hc (w+1+1);obtain ⟨bz,cc⟩:=zK hf (w+1+1);obtain ⟨dy,dz⟩:=zK hf w;obtain ⟨dp,dt⟩:=zK hf (w+1))
  | (go_at_call 219;(with_reducible refine (I1 _ g a' n' c' z' (h'.keep qD)).mono ?_);rintro e w1 ⟨rfl,hb⟩;obtain ⟨hc,hf⟩:=Bg hb;have hz:=hb.size;(try simp only [Aj,Ak] at hz);replace HB:=zP w hb;obtain ⟨aw,bh⟩:=xd hc w g a n c;obtain ⟨bn,bo⟩:=xd hc (w+1) g a' n' c';obtain ⟨bw,bx⟩:=zJ hc (w+1+1);obtain ⟨bz,cc⟩:=zK hf (w+1+1);obtain ⟨dy,dz⟩:=zK hf w;obtain ⟨dp,dt⟩:=zK hf (w+1)))
 replace HB:xp w ((((w1.setCell (J w 0) (.bool g)).setCell (J w 1) (.slice a n c)).setCell (J (w+1) 0) (.bool g)).setCell (J (w+1) 1) (.slice a' n' c')):=qD;go_wp2_with fail;refine (Fb _ _ _ _ (dg z.natAbs) _ _ _ (dg z'.natAbs) (h.rd.keep HB) (h'.rd.keep HB) (Cb _) (Cb _)).mono ?_;rintro e w2 ⟨rfl,hb⟩;obtain ⟨hc,hf⟩:=Bg hb;have hz:=hb.size;simp only [Am] at hz;replace HB:xp w w2:=Al HB (hb.mono HB.size);have qu:=HB.size;have u0:Z w2 w 0 (.bool g):=(hc _ _ qA).trans qO;have u1:Z w2 w 1 (.slice a n c):=(hc _ _ qA).trans qO;have u2:Z w2 (w+1) 0 (.bool g):=(hc _ _ qA).trans qO;have u3:Z w2 (w+1) 1 (.slice a' n' c'):=(hc _ _ qA).trans qO;have u4:Z w2 (w+1+1) 0 (.bool false):=(hc _ _ qA).trans qO;have u5:Z w2 (w+1+1) 1 (.slice none 0 0):=(hc _ _ qA).trans qO;have v0:Y w2 w 0:=(hf _ _ qA).trans qO;have v1:Y w2 w 1:=(hf _ _ qA).trans qO;have v2:Y w2 (w+1) 0:=(hf _ _ qA).trans qO;have v3:Y w2 (w+1) 1:=(hf _ _ qA).trans qO;have v4:Y w2 (w+1+1) 0:=(hf _ _ qA).trans qO;have v5:Y w2 (w+1+1) 1:=(hf _ _ qA).trans qO;have qp:w.heap.size<w2:=qB;have jy:w.heap.size+1<w2:=qB;have l9:w.heap.size+1+1<w2:=qB;have AP:=VT.out;clear hc hf hb aw bh bn bo bw bx bz cc dy dz dp dt;go_wp2_with fail;have eb:∃w3,w3=w2.alloc (.cells #[M 1] 2):=⟨_,rfl⟩;obtain ⟨w3,eb⟩:=eb;rw [←eb];have ep:xp w w3:=by rw [eb];go_grown
 have p0:Z w3 w 0 (.bool g):=by rw [eb];simp [*,go_sem]
 have p1:Z w3 w 1 (.slice a n c):=by rw [eb];simp [*,go_sem]
 have p3:Z w3 (w+1) 1 (.slice a' n' c'):=by rw [eb];simp [*,go_sem]
 have p4:Z w3 (w+1+1) 0 (.bool false):=by rw [eb];simp [*,go_sem]
 have p5:Z w3 (w+1+1) 1 (.slice none 0 0):=by rw [eb];simp [*,go_sem]
 have p6:Z w3 w2 0 (M 1):=by rw [eb];simp [go_sem]
 have p7:Y w3 (w+1+1) 0:=by rw [eb];simp [*,go_sem]
 have p8:Y w3 (w+1+1) 1:=by rw [eb];simp [*,go_sem]
 have BD:w2.heap.size+1≤w3:=by rw [eb];simp
 clear eb u0 u1 u2 u3 u4 u5 v0 v1 v2 v3 v4 v5 HB qu AP;have HB:=ep;clear ep;have LC:Hid (∀i,i<n+1→-4000000000000000000≤(fun i=>lim (dg z.natAbs) i+lim (dg z'.natAbs) i) i∧(fun i=>lim (dg z.natAbs) i+lim (dg z'.natAbs) i) i≤4000000000000000000):=Ae (by intro i _;have h1:=h.rd.small i;have h2:=h'.rd.small i;show -4000000000000000000≤lim (dg z.natAbs) i+lim (dg z'.natAbs) i∧lim (dg z.natAbs) i+lim (dg z'.natAbs) i≤4000000000000000000;omega);go_region_held3 (fun W=>Z W w 0 (.bool g)∧Z W w 1 (.slice a n c)∧Z W (w+1) 1 (.slice a' n' c')∧Z W w2 0 (M 1)) (exact qK) (first
  | (go_at_call 290;(refine (Km _ _ (n+1) (by first|omega|(rw [IntWalk.i64_in _ qB];omega)) _ _ _ (fun i=>lim (dg z.natAbs) i+lim (dg z'.natAbs) i) qB LC.out (by intro i W hi hW;exact bC W _ _ _ _ _ _ (dg z.natAbs) _ _ _ (dg z'.natAbs) i ((h.rd.keep qD).keep hW) ((h'.rd.keep qD).keep hW) (Bb hW qP) (Bb hW qP) (Bb hW qP))).mono ?_);rintro e w4 ⟨ac,rfl,hr,eh,hb⟩;obtain ⟨hc,hf⟩:=Bg hb;have hz:=hb.size;(try simp only [Aj,Ak] at hz);replace HB:=zP w hb;have q0:Z w4 w 0 (.bool g):=(hc _ _ qA).trans qP;have q1:Z w4 w 1 (.slice a n c):=(hc _ _ qA).trans qP;have q3:Z w4 (w+1) 1 (.slice a' n' c'):=(hc _ _ qA).trans qP;have q4:Z w4 (w+1+1) 0 (.bool false):=(hc _ _ qA).trans qP;have q5:Z w4 (w+1+1) 1 (.slice none 0 0):=(hc _ _ qA).trans qP;have q6:Z w4 w2 0 (M 1):=(hc _ _ qA).trans qP;have q7:Y w4 (w+1+1) 0:=(hf _ _ qA).trans qP;have q8:Y w4 (w+1+1) 1:=(hf _ _ qA).trans qP)
  | (go_at_call 220;(with_reducible refine (Ft _ g ac (n+1) (n+1) (fxI (n+1) (Dc (fun i=>lim (dg z.natAbs) i+lim (dg z'.natAbs) i) (n+1))) hr (Ql _ _)).mono ?_);rintro e w5 ⟨g3,n3,rfl,ll,yj,hb⟩;obtain ⟨hc,hf⟩:=Bg hb;have hz:=hb.size;replace HB:=zP w hb;have r0:Z w5 w 0 (.bool g):=(hc _ _ qA).trans qG;have r1:Z w5 w 1 (.slice a n c):=(hc _ _ qA).trans qG;have r3:Z w5 (w+1) 1 (.slice a' n' c'):=(hc _ _ qA).trans qG;have r4:Z w5 (w+1+1) 0 (.bool false):=(hc _ _ qA).trans qG;have r5:Z w5 (w+1+1) 1 (.slice none 0 0):=(hc _ _ qA).trans qG;have r6:Z w5 w2 0 (M 1):=(hc _ _ qA).trans qG;have r7:Y w5 (w+1+1) 0:=(hf _ _ qA).trans qG;have r8:Y w5 (w+1+1) 1:=(hf _ _ qA).trans qG))
 go_wp2_with fail;refine bodyPost_ret (v:=.agg #[.bool g3,.slice ac n3 n3]) (by simp [results,results256,go_sem,r4,r5]) rfl ?_;have np:Bc (w+1+1+1) w5 ac n3:=((eh.keep hb).less ll).mono qA;have j5:z+z'=sgn g (val (fxI (n+1) (Dc (fun i=>lim (dg z.natAbs) i+lim (dg z'.natAbs) i) (n+1)))):=by
  rw [gK _ _ _ qB qB,Qb,Bq,Bq]
  ·exact qCs
  ·exact qDf
 exact qAz
theorem eQ (a:Γ) (n c:Nat) (z:Int) (h:Bh w g a n c z) (a':Γ) (n' c':Nat) (z':Int) (h':Bh w (!g) a' n' c' z')
  (br:n<35184372088831) (bp:n'<35184372088831) (AP:0≤Bz (val (dg z.natAbs)) (val (dg z'.natAbs))) (hle:z'.natAbs≤z.natAbs) :
  Θ 256 #[.agg #[.bool g,.slice a n c],.agg #[.bool (!g),.slice a' n' c']] w (Di w (z+z')):=by
 have HB:=Ac w w;have AK:=h.rd.len;have DR:=h'.rd.len;have AN:=Bu hle;have VT:=Ae AP;clear AP;go_enter func256,ntmps256;go_wp2_with fail;go_region_held3 (fun W=>Z W w 0 (.bool g)∧Z W w 1 (.slice a n c)∧Z W (w+1) 0 (.bool (!g))∧Z W (w+1) 1 (.slice a' n' c')) (exact qK) (first
  | (go_at_call 219;(with_reducible refine (I1 _ g a n c z (h.keep qD)).mono ?_);rintro e w1 ⟨rfl,hb⟩;obtain ⟨hc,hf⟩:=Bg hb;have hz:=hb.size;(try simp only [Aj,Ak] at hz);replace HB:=zP w hb;obtain ⟨aw,bh⟩:=xd hc w g a n c;obtain ⟨bn,bo⟩:=xd hc (w+1) (!g) a' n' c';obtain ⟨bw,bx⟩:=zJ hc (w+1+1);obtain ⟨bz,cc⟩:=zK hf (w+1+1);obtain ⟨dy,dz⟩:=zK hf w;obtain ⟨dp,dt⟩:=zK hf (w+1))
  | (go_at_call 219;(with_reducible refine (I1 _ (!g) a' n' c' z' (h'.keep qD)).mono ?_);rintro e w1 ⟨rfl,hb⟩;obtain ⟨hc,hf⟩:=Bg hb;have hz:=hb.size;(try simp only [Aj,Ak] at hz);replace HB:=zP w hb;obtain ⟨aw,bh⟩:=xd hc w g a n c;obtain ⟨bn,bo⟩:=xd hc (w+1) (!g) a' n' c';obtain ⟨bw,bx⟩:=zJ hc (w+1+1);obtain ⟨bz,cc⟩:=zK hf (w+1+1);obtain ⟨dy,dz⟩:=zK hf w;obtain ⟨dp,dt⟩:=zK hf (w+1)))
 replace HB:xp w ((((w1.setCell (J w 0) (.bool g)).setCell (J w 1) (.slice a n c)).setCell (J (w+1) 0) (.bool (!g))).setCell (J (w+1) 1) (.slice a' n' c')):=qD;go_wp2_with fail;refine (Fb _ _ _ _ (dg z.natAbs) _ _ _ (dg z'.natAbs) (h.rd.keep HB) (h'.rd.keep HB) (Cb _) (Cb _)).mono ?_;rintro e w2 ⟨rfl,hb⟩;obtain ⟨hc,hf⟩:=Bg hb;have hz:=hb.size;simp only [Am] at hz;replace HB:xp w w2:=Al HB (hb.mono HB.size);have qu:=HB.size;have u0:Z w2 w 0 (.bool g):=(hc _ _ qA).trans qO;have u1:Z w2 w 1 (.slice a n c):=(hc _ _ qA).trans qO;have u2:Z w2 (w+1) 0 (.bool (!g)):=(hc _ _ qA).trans qO;have u3:Z w2 (w+1) 1 (.slice a' n' c'):=(hc _ _ qA).trans qO;have u4:Z w2 (w+1+1) 0 (.bool false):=(hc _ _ qA).trans qO;have u5:Z w2 (w+1+1) 1 (.slice none 0 0):=(hc _ _ qA).trans qO;have v0:Y w2 w 0:=(hf _ _ qA).trans qO;have v1:Y w2 w 1:=(hf _ _ qA).trans qO;have v2:Y w2 (w+1) 0:=(hf _ _ qA).trans qO;have v3:Y w2 (w+1) 1:=(hf _ _ qA).trans qO;have v4:Y w2 (w+1+1) 0:=(hf _ _ qA).trans qO;have v5:Y w2 (w+1+1) 1:=(hf _ _ qA).trans qO;have qp:w.heap.size<w2:=qB;have jy:w.heap.size+1<w2:=qB;have l9:w.heap.size+1+1<w2:=qB;have AP:=VT.out;clear hc hf hb aw bh bn bo bw bx bz cc dy dz dp dt;go_wp2_with fail;have eb:∃w3,w3=w2.alloc (.cells #[M (-1)] 2):=⟨_,rfl⟩;obtain ⟨w3,eb⟩:=eb;rw [←eb];have ep:xp w w3:=by rw [eb];go_grown
 have p0:Z w3 w 0 (.bool g):=by rw [eb];simp [*,go_sem]
 have p1:Z w3 w 1 (.slice a n c):=by rw [eb];simp [*,go_sem]
 have p3:Z w3 (w+1) 1 (.slice a' n' c'):=by rw [eb];simp [*,go_sem]
 have p4:Z w3 (w+1+1) 0 (.bool false):=by rw [eb];simp [*,go_sem]
 have p5:Z w3 (w+1+1) 1 (.slice none 0 0):=by rw [eb];simp [*,go_sem]
 have p6:Z w3 w2 0 (M (-1)):=by rw [eb];simp [go_sem]
 have p7:Y w3 (w+1+1) 0:=by rw [eb];simp [*,go_sem]
 have p8:Y w3 (w+1+1) 1:=by rw [eb];simp [*,go_sem]
 have BD:w2.heap.size+1≤w3:=by rw [eb];simp
 clear eb u0 u1 u2 u3 u4 u5 v0 v1 v2 v3 v4 v5 HB qu AP;have HB:=ep;clear ep;have LC:Hid (∀i,i<n+1→-4000000000000000000≤(fun i=>lim (dg z.natAbs) i-lim (dg z'.natAbs) i) i∧(fun i=>lim (dg z.natAbs) i-lim (dg z'.natAbs) i) i≤4000000000000000000):=Ae (by intro i _;have h1:=h.rd.small i;have h2:=h'.rd.small i;show -4000000000000000000≤lim (dg z.natAbs) i-lim (dg z'.natAbs) i∧lim (dg z.natAbs) i-lim (dg z'.natAbs) i≤4000000000000000000;omega);go_region_held3 (fun W=>Z W w 0 (.bool g)∧Z W w 1 (.slice a n c)∧Z W (w+1) 1 (.slice a' n' c')∧Z W w2 0 (M (-1))) (exact qK) (first
  | (go_at_call 290;(refine (Km _ _ (n+1) (by first|omega|(rw [IntWalk.i64_in _ qB];omega)) _ _ _ (fun i=>lim (dg z.natAbs) i-lim (dg z'.natAbs) i) qB LC.out (by intro i W hi hW;exact aS W _ _ _ _ _ _ (dg z.natAbs) _ _ _ (dg z'.natAbs) i ((h.rd.keep qD).keep hW) ((h'.rd.keep qD).keep hW) (Bb hW qP) (Bb hW qP) (Bb hW qP))).mono ?_);rintro e w4 ⟨ac,rfl,hr,eh,hb⟩;obtain ⟨hc,hf⟩:=Bg hb;have hz:=hb.size;(try simp only [Aj,Ak] at hz);replace HB:=zP w hb;have q0:Z w4 w 0 (.bool g):=(hc _ _ qA).trans qP;have q1:Z w4 w 1 (.slice a n c):=(hc _ _ qA).trans qP;have q3:Z w4 (w+1) 1 (.slice a' n' c'):=(hc _ _ qA).trans qP;have q4:Z w4 (w+1+1) 0 (.bool false):=(hc _ _ qA).trans qP;have q5:Z w4 (w+1+1) 1 (.slice none 0 0):=(hc _ _ qA).trans qP;have q6:Z w4 w2 0 (M (-1)):=(hc _ _ qA).trans qP;have q7:Y w4 (w+1+1) 0:=(hf _ _ qA).trans qP;have q8:Y w4 (w+1+1) 1:=(hf _ _ qA).trans qP)
  | (go_at_call 220;(with_reducible refine (Ft _ g ac (n+1) (n+1) (fxI (n+1) (Dc (fun i=>lim (dg z.natAbs) i-lim (dg z'.natAbs) i) (n+1))) hr (Ql _ _)).mono ?_);rintro e w5 ⟨g3,n3,rfl,ll,yj,hb⟩;obtain ⟨hc,hf⟩:=Bg hb;have hz:=hb.size;replace HB:=zP w hb;have r0:Z w5 w 0 (.bool g):=(hc _ _ qA).trans qG;have r1:Z w5 w 1 (.slice a n c):=(hc _ _ qA).trans qG;have r3:Z w5 (w+1) 1 (.slice a' n' c'):=(hc _ _ qA).trans qG;have r4:Z w5 (w+1+1) 0 (.bool false):=(hc _ _ qA).trans qG;have r5:Z w5 (w+1+1) 1 (.slice none 0 0):=(hc _ _ qA).trans qG;have r6:Z w5 w2 0 (M (-1)):=(hc _ _ qA).trans qG;have r7:Y w5 (w+1+1) 0:=(hf _ _ qA).trans qG;have r8:Y w5 (w+1+1) 1:=(hf _ _ qA).trans qG))
 go_wp2_with fail;refine bodyPost_ret (v:=.agg #[.bool g3,.slice ac n3 n3]) (by simp [results,results256,go_sem,r4,r5]) rfl ?_;have np:Bc (w+1+1+1) w5 ac n3:=((eh.keep hb).less ll).mono qA;have j5:z+z'=sgn g (val (fxI (n+1) (Dc (fun i=>lim (dg z.natAbs) i-lim (dg z'.natAbs) i) (n+1)))):=by
  rw [gY _ _ _ qB qB (by rw [Bq,Bq];exact hle),Qb,Bq,Bq]
  ·exact qCs
  ·exact qDf
 exact qAz
theorem cR (a:Γ) (n c:Nat) (z:Int) (h:Bh w g a n c z) (a':Γ) (n' c':Nat) (z':Int) (h':Bh w g a' n' c' z')
  (br:n<35184372088831) (bp:n'<35184372088831) (AP:Bz (val (dg z.natAbs)) (val (dg z'.natAbs))<0) (hle:z.natAbs≤z'.natAbs) :
  Θ 256 #[.agg #[.bool g,.slice a n c],.agg #[.bool g,.slice a' n' c']] w (Di w (z+z')):=by
 have HB:=Ac w w;have AK:=h'.rd.len;have DR:=h.rd.len;have AN:=Bu hle;have VT:=Ae AP;clear AP;go_enter func256,ntmps256;go_wp2_with fail;go_region_held3 (fun W=>Z W w 0 (.bool g)∧Z W w 1 (.slice a n c)∧Z W (w+1) 0 (.bool g)∧Z W (w+1) 1 (.slice a' n' c')) (exact qK) (first
  | (go_at_call 219;(with_reducible refine (I1 _ g a n c z (h.keep qD)).mono ?_);rintro e w1 ⟨rfl,hb⟩;obtain ⟨hc,hf⟩:=Bg hb;have hz:=hb.size;(try simp only [Aj,Ak] at hz);replace HB:=zP w hb;obtain ⟨aw,bh⟩:=xd hc w g a n c;obtain ⟨bn,bo⟩:=xd hc (w+1) g a' n' c';obtain ⟨bw,bx⟩:=zJ hc (w+1+1);obtain ⟨bz,cc⟩:=zK hf (w+1+1);obtain ⟨dy,dz⟩:=zK hf w;obtain ⟨dp,dt⟩:=zK hf (w+1))
  | (go_at_call 219;(with_reducible refine (I1 _ g a' n' c' z' (h'.keep qD)).mono ?_);rintro e w1 ⟨rfl,hb⟩;obtain ⟨hc,hf⟩:=Bg hb;have hz:=hb.size;(try simp only [Aj,Ak] at hz);replace HB:=zP w hb;obtain ⟨aw,bh⟩:=xd hc w g a n c;obtain ⟨bn,bo⟩:=xd hc (w+1) g a' n' c';obtain ⟨bw,bx⟩:=zJ hc (w+1+1);obtain ⟨bz,cc⟩:=zK hf (w+1+1);obtain ⟨dy,dz⟩:=zK hf w;obtain ⟨dp,dt⟩:=zK hf (w+1)))
 replace HB:xp w ((((w1.setCell (J w 0) (.bool g)).setCell (J w 1) (.slice a n c)).setCell (J (w+1) 0) (.bool g)).setCell (J (w+1) 1) (.slice a' n' c')):=qD;go_wp2_with fail;refine (Fb _ _ _ _ (dg z.natAbs) _ _ _ (dg z'.natAbs) (h.rd.keep HB) (h'.rd.keep HB) (Cb _) (Cb _)).mono ?_;rintro e w2 ⟨rfl,hb⟩;obtain ⟨hc,hf⟩:=Bg hb;have hz:=hb.size;simp only [Am] at hz;replace HB:xp w w2:=Al HB (hb.mono HB.size);have qu:=HB.size;have u0:Z w2 w 0 (.bool g):=(hc _ _ qA).trans qO;have u1:Z w2 w 1 (.slice a n c):=(hc _ _ qA).trans qO;have u2:Z w2 (w+1) 0 (.bool g):=(hc _ _ qA).trans qO;have u3:Z w2 (w+1) 1 (.slice a' n' c'):=(hc _ _ qA).trans qO;have u4:Z w2 (w+1+1) 0 (.bool false):=(hc _ _ qA).trans qO;have u5:Z w2 (w+1+1) 1 (.slice none 0 0):=(hc _ _ qA).trans qO;have v0:Y w2 w 0:=(hf _ _ qA).trans qO;have v1:Y w2 w 1:=(hf _ _ qA).trans qO;have v2:Y w2 (w+1) 0:=(hf _ _ qA).trans qO;have v3:Y w2 (w+1) 1:=(hf _ _ qA).trans qO;have v4:Y w2 (w+1+1) 0:=(hf _ _ qA).trans qO;have v5:Y w2 (w+1+1) 1:=(hf _ _ qA).trans qO;have qp:w.heap.size<w2:=qB;have jy:w.heap.size+1<w2:=qB;have l9:w.heap.size+1+1<w2:=qB;have AP:=VT.out;clear hc hf hb aw bh bn bo bw bx bz cc dy dz dp dt;go_wp2_with fail;have eb:∃w3,w3=((((w2.setCell (J w 0) (.bool g)).setCell (J w 1) (.slice a' n' c')).setCell (J (w+1) 0) (.bool g)).setCell (J (w+1) 1) (.slice a n c)).alloc (.cells #[M 1] 2):=⟨_,rfl⟩;obtain ⟨w3,eb⟩:=eb;rw [←eb];have ep:xp w w3:=by rw [eb];go_grown
 have p0:Z w3 w 0 (.bool g):=by rw [eb];simp [*,go_sem]
 have p1:Z w3 w 1 (.slice a' n' c'):=by rw [eb];simp [*,go_sem]
 have p3:Z w3 (w+1) 1 (.slice a n c):=by rw [eb];simp [*,go_sem]
 have p4:Z w3 (w+1+1) 0 (.bool false):=by rw [eb];simp [*,go_sem]
 have p5:Z w3 (w+1+1) 1 (.slice none 0 0):=by rw [eb];simp [*,go_sem]
 have p6:Z w3 w2 0 (M 1):=by rw [eb];simp [go_sem]
 have p7:Y w3 (w+1+1) 0:=by rw [eb];simp [*,go_sem]
 have p8:Y w3 (w+1+1) 1:=by rw [eb];simp [*,go_sem]
 have BD:w2.heap.size+1≤w3:=by rw [eb];simp
 clear eb u0 u1 u2 u3 u4 u5 v0 v1 v2 v3 v4 v5 HB qu AP;have HB:=ep;clear ep;have LC:Hid (∀i,i<n'+1→-4000000000000000000≤(fun i=>lim (dg z'.natAbs) i+lim (dg z.natAbs) i) i∧(fun i=>lim (dg z'.natAbs) i+lim (dg z.natAbs) i) i≤4000000000000000000):=Ae (by intro i _;have h1:=h'.rd.small i;have h2:=h.rd.small i;show -4000000000000000000≤lim (dg z'.natAbs) i+lim (dg z.natAbs) i∧lim (dg z'.natAbs) i+lim (dg z.natAbs) i≤4000000000000000000;omega);go_region_held3 (fun W=>Z W w 0 (.bool g)∧Z W w 1 (.slice a' n' c')∧Z W (w+1) 1 (.slice a n c)∧Z W w2 0 (M 1)) (exact qK) (first
  | (go_at_call 290;(refine (Km _ _ (n'+1) (by first|omega|(rw [IntWalk.i64_in _ qB];omega)) _ _ _ (fun i=>lim (dg z'.natAbs) i+lim (dg z.natAbs) i) qB LC.out (by intro i W hi hW;exact bC W _ _ _ _ _ _ (dg z'.natAbs) _ _ _ (dg z.natAbs) i ((h'.rd.keep qD).keep hW) ((h.rd.keep qD).keep hW) (Bb hW qP) (Bb hW qP) (Bb hW qP))).mono ?_);rintro e w4 ⟨ac,rfl,hr,eh,hb⟩;obtain ⟨hc,hf⟩:=Bg hb;have hz:=hb.size;(try simp only [Aj,Ak] at hz);replace HB:=zP w hb;have q0:Z w4 w 0 (.bool g):=(hc _ _ qA).trans qP;have q1:Z w4 w 1 (.slice a' n' c'):=(hc _ _ qA).trans qP;have q3:Z w4 (w+1) 1 (.slice a n c):=(hc _ _ qA).trans qP;have q4:Z w4 (w+1+1) 0 (.bool false):=(hc _ _ qA).trans qP;have q5:Z w4 (w+1+1) 1 (.slice none 0 0):=(hc _ _ qA).trans qP;have q6:Z w4 w2 0 (M 1):=(hc _ _ qA).trans qP;have q7:Y w4 (w+1+1) 0:=(hf _ _ qA).trans qP;have q8:Y w4 (w+1+1) 1:=(hf _ _ qA).trans qP)
  | (go_at_call 220;(with_reducible refine (Ft _ g ac (n'+1) (n'+1) (fxI (n'+1) (Dc (fun i=>lim (dg z'.natAbs) i+lim (dg z.natAbs) i) (n'+1))) hr (Ql _ _)).mono ?_);rintro e w5 ⟨g3,n3,rfl,ll,yj,hb⟩;obtain ⟨hc,hf⟩:=Bg hb;have hz:=hb.size;replace HB:=zP w hb;have r0:Z w5 w 0 (.bool g):=(hc _ _ qA).trans qG;have r1:Z w5 w 1 (.slice a' n' c'):=(hc _ _ qA).trans qG;have r3:Z w5 (w+1) 1 (.slice a n c):=(hc _ _ qA).trans qG;have r4:Z w5 (w+1+1) 0 (.bool false):=(hc _ _ qA).trans qG;have r5:Z w5 (w+1+1) 1 (.slice none 0 0):=(hc _ _ qA).trans qG;have r6:Z w5 w2 0 (M 1):=(hc _ _ qA).trans qG;have r7:Y w5 (w+1+1) 0:=(hf _ _ qA).trans qG;have r8:Y w5 (w+1+1) 1:=(hf _ _ qA).trans qG))
 go_wp2_with fail;refine bodyPost_ret (v:=.agg #[.bool g3,.slice ac n3 n3]) (by simp [results,results256,go_sem,r4,r5]) rfl ?_;have np:Bc (w+1+1+1) w5 ac n3:=((eh.keep hb).less ll).mono qA;have j5:z+z'=sgn g (val (fxI (n'+1) (Dc (fun i=>lim (dg z'.natAbs) i+lim (dg z.natAbs) i) (n'+1)))):=by
  rw [gK _ _ _ qB qB,Qb,Bq,Bq]
  ·exact qCs
  ·exact qDb
 exact qAz
theorem dS (a:Γ) (n c:Nat) (z:Int) (h:Bh w g a n c z) (a':Γ) (n' c':Nat) (z':Int) (h':Bh w (!g) a' n' c' z')
  (br:n<35184372088831) (bp:n'<35184372088831) (AP:Bz (val (dg z.natAbs)) (val (dg z'.natAbs))<0) (hle:z.natAbs≤z'.natAbs) :
  Θ 256 #[.agg #[.bool g,.slice a n c],.agg #[.bool (!g),.slice a' n' c']] w (Di w (z+z')):=by
 have HB:=Ac w w;have AK:=h'.rd.len;have DR:=h.rd.len;have AN:=Bu hle;have VT:=Ae AP;clear AP;go_enter func256,ntmps256;go_wp2_with fail;go_region_held3 (fun W=>Z W w 0 (.bool g)∧Z W w 1 (.slice a n c)∧Z W (w+1) 0 (.bool (!g))∧Z W (w+1) 1 (.slice a' n' c')) (exact qK) (first
  | (go_at_call 219;(with_reducible refine (I1 _ g a n c z (h.keep qD)).mono ?_);rintro e w1 ⟨rfl,hb⟩;obtain ⟨hc,hf⟩:=Bg hb;have hz:=hb.size;(try simp only [Aj,Ak] at hz);replace HB:=zP w hb;obtain ⟨aw,bh⟩:=xd hc w g a n c;obtain ⟨bn,bo⟩:=xd hc (w+1) (!g) a' n' c';obtain ⟨bw,bx⟩:=zJ hc (w+1+1);obtain ⟨bz,cc⟩:=zK hf (w+1+1);obtain ⟨dy,dz⟩:=zK hf w;obtain ⟨dp,dt⟩:=zK hf (w+1))
  | (go_at_call 219;(with_reducible refine (I1 _ (!g) a' n' c' z' (h'.keep qD)).mono ?_);rintro e w1 ⟨rfl,hb⟩;obtain ⟨hc,hf⟩:=Bg hb;have hz:=hb.size;(try simp only [Aj,Ak] at hz);replace HB:=zP w hb;obtain ⟨aw,bh⟩:=xd hc w g a n c;obtain ⟨bn,bo⟩:=xd hc (w+1) (!g) a' n' c';obtain ⟨bw,bx⟩:=zJ hc (w+1+1);obtain ⟨bz,cc⟩:=zK hf (w+1+1);obtain ⟨dy,dz⟩:=zK hf w;obtain ⟨dp,dt⟩:=zK hf (w+1)))
 replace HB:xp w ((((w1.setCell (J w 0) (.bool g)).setCell (J w 1) (.slice a n c)).setCell (J (w+1) 0) (.bool (!g))).setCell (J (w+1) 1) (.slice a' n' c')):=qD;go_wp2_with fail;refine (Fb _ _ _ _ (dg z.natAbs) _ _ _ (dg z'.natAbs) (h.rd.keep HB) (h'.rd.keep HB) (Cb _) (Cb _)).mono ?_;rintro e w2 ⟨rfl,hb⟩;obtain ⟨hc,hf⟩:=Bg hb;have hz:=hb.size;simp only [Am] at hz;replace HB:xp w w2:=Al HB (hb.mono HB.size);have qu:=HB.size;have u0:Z w2 w 0 (.bool g):=(hc _ _ qA).trans qO;have u1:Z w2 w 1 (.slice a n c):=(hc _ _ qA).trans qO;have u2:Z w2 (w+1) 0 (.bool (!g)):=(hc _ _ qA).trans qO;have u3:Z w2 (w+1) 1 (.slice a' n' c'):=(hc _ _ qA).trans qO;have u4:Z w2 (w+1+1) 0 (.bool false):=(hc _ _ qA).trans qO;have u5:Z w2 (w+1+1) 1 (.slice none 0 0):=(hc _ _ qA).trans qO;have v0:Y w2 w 0:=(hf _ _ qA).trans qO;have v1:Y w2 w 1:=(hf _ _ qA).trans qO;have v2:Y w2 (w+1) 0:=(hf _ _ qA).trans qO;have v3:Y w2 (w+1) 1:=(hf _ _ qA).trans qO;have v4:Y w2 (w+1+1) 0:=(hf _ _ qA).trans qO;have v5:Y w2 (w+1+1) 1:=(hf _ _ qA).trans qO;have qp:w.heap.size<w2:=qB;have jy:w.heap.size+1<w2:=qB;have l9:w.heap.size+1+1<w2:=qB;have AP:=VT.out;clear hc hf hb aw bh bn bo bw bx bz cc dy dz dp dt;go_wp2_with fail;have eb:∃w3,w3=((((w2.setCell (J w 0) (.bool (!g))).setCell (J w 1) (.slice a' n' c')).setCell (J (w+1) 0) (.bool g)).setCell (J (w+1) 1) (.slice a n c)).alloc (.cells #[M (-1)] 2):=⟨_,rfl⟩;obtain ⟨w3,eb⟩:=eb;rw [←eb];have ep:xp w w3:=by rw [eb];go_grown
 have p0:Z w3 w 0 (.bool (!g)):=by rw [eb];simp [*,go_sem]
 have p1:Z w3 w 1 (.slice a' n' c'):=by rw [eb];simp [*,go_sem]
 have p3:Z w3 (w+1) 1 (.slice a n c):=by rw [eb];simp [*,go_sem]
 have p4:Z w3 (w+1+1) 0 (.bool false):=by rw [eb];simp [*,go_sem]
 have p5:Z w3 (w+1+1) 1 (.slice none 0 0):=by rw [eb];simp [*,go_sem]
 have p6:Z w3 w2 0 (M (-1)):=by rw [eb];simp [go_sem]
 have p7:Y w3 (w+1+1) 0:=by rw [eb];simp [*,go_sem]
 have p8:Y w3 (w+1+1) 1:=by rw [eb];simp [*,go_sem]
 have BD:w2.heap.size+1≤w3:=by rw [eb];simp
 clear eb u0 u1 u2 u3 u4 u5 v0 v1 v2 v3 v4 v5 HB qu AP;have HB:=ep;clear ep;have LC:Hid (∀i,i<n'+1→-4000000000000000000≤(fun i=>lim (dg z'.natAbs) i-lim (dg z.natAbs) i) i∧(fun i=>lim (dg z'.natAbs) i-lim (dg z.natAbs) i) i≤4000000000000000000):=Ae (by intro i _;have h1:=h'.rd.small i;have h2:=h.rd.small i;show -4000000000000000000≤lim (dg z'.natAbs) i-lim (dg z.natAbs) i∧lim (dg z'.natAbs) i-lim (dg z.natAbs) i≤4000000000000000000;omega);go_region_held3 (fun W=>Z W w 0 (.bool (!g))∧Z W w 1 (.slice a' n' c')∧Z W (w+1) 1 (.slice a n c)∧Z W w2 0 (M (-1))) (exact qK) (first
  | (go_at_call 290;(refine (Km _ _ (n'+1) (by first|omega|(rw [IntWalk.i64_in _ qB];omega)) _ _ _ (fun i=>lim (dg z'.natAbs) i-lim (dg z.natAbs) i) qB LC.out (by intro i W hi hW;exact aS W _ _ _ _ _ _ (dg z'.natAbs) _ _ _ (dg z.natAbs) i ((h'.rd.keep qD).keep hW) ((h.rd.keep qD).keep hW) (Bb hW qP) (Bb hW qP) (Bb hW qP))).mono ?_);rintro e w4 ⟨ac,rfl,hr,eh,hb⟩;obtain ⟨hc,hf⟩:=Bg hb;have hz:=hb.size;(try simp only [Aj,Ak] at hz);replace HB:=zP w hb;have q0:Z w4 w 0 (.bool (!g)):=(hc _ _ qA).trans qP;have q1:Z w4 w 1 (.slice a' n' c'):=(hc _ _ qA).trans qP;have q3:Z w4 (w+1) 1 (.slice a n c):=(hc _ _ qA).trans qP;have q4:Z w4 (w+1+1) 0 (.bool false):=(hc _ _ qA).trans qP;have q5:Z w4 (w+1+1) 1 (.slice none 0 0):=(hc _ _ qA).trans qP;have q6:Z w4 w2 0 (M (-1)):=(hc _ _ qA).trans qP;have q7:Y w4 (w+1+1) 0:=(hf _ _ qA).trans qP;have q8:Y w4 (w+1+1) 1:=(hf _ _ qA).trans qP)
  | (go_at_call 220;(with_reducible refine (Ft _ (!g) ac (n'+1) (n'+1) (fxI (n'+1) (Dc (fun i=>lim (dg z'.natAbs) i-lim (dg z.natAbs) i) (n'+1))) hr (Ql _ _)).mono ?_);rintro e w5 ⟨g3,n3,rfl,ll,yj,hb⟩;obtain ⟨hc,hf⟩:=Bg hb;have hz:=hb.size;replace HB:=zP w hb;have r0:Z w5 w 0 (.bool (!g)):=(hc _ _ qA).trans qG;have r1:Z w5 w 1 (.slice a' n' c'):=(hc _ _ qA).trans qG;have r3:Z w5 (w+1) 1 (.slice a n c):=(hc _ _ qA).trans qG;have r4:Z w5 (w+1+1) 0 (.bool false):=(hc _ _ qA).trans qG;have r5:Z w5 (w+1+1) 1 (.slice none 0 0):=(hc _ _ qA).trans qG;have r6:Z w5 w2 0 (M (-1)):=(hc _ _ qA).trans qG;have r7:Y w5 (w+1+1) 0:=(hf _ _ qA).trans qG;have r8:Y w5 (w+1+1) 1:=(hf _ _ qA).trans qG))
 go_wp2_with fail;refine bodyPost_ret (v:=.agg #[.bool g3,.slice ac n3 n3]) (by simp [results,results256,go_sem,r4,r5]) rfl ?_;have np:Bc (w+1+1+1) w5 ac n3:=((eh.keep hb).less ll).mono qA;have j5:z+z'=sgn (!g) (val (fxI (n'+1) (Dc (fun i=>lim (dg z'.natAbs) i-lim (dg z.natAbs) i) (n'+1)))):=by
  rw [gY _ _ _ qB qB (by rw [Bq,Bq];exact hle),Qb,Bq,Bq]
  ·exact qCs
  ·exact qDb
 exact qAz
theorem aG (a:Γ) (n c:Nat) (z:Int) (h:Bh w g a n c z) (g':Bool) (a':Γ) (n' c':Nat) (z':Int) (h':Bh w g' a' n' c' z')
  (br:n<35184372088831) (bp:n'<35184372088831) :
  Θ 256 #[.agg #[.bool g,.slice a n c],.agg #[.bool g',.slice a' n' c']] w (Di w (z+z')):=by
 have key:(Bz (val (dg z.natAbs)) (val (dg z'.natAbs))<0∧z.natAbs≤z'.natAbs)∨(0≤Bz (val (dg z.natAbs)) (val (dg z'.natAbs))∧z'.natAbs≤z.natAbs):=by
  rw [Bq,Bq];unfold Bz;rcases Int.lt_trichotomy (z.natAbs:Int) (z'.natAbs:Int) with bj|heq|UO
  ·left;rw [if_pos bj];omega
  ·right;rw [if_neg qB,if_pos heq];omega
  ·right;rw [if_neg qB,if_neg qB];omega
 rcases key with ⟨k1,k2⟩|⟨k1,k2⟩
 ·by_cases hg:g'=g
  ·subst hg;exact cR w g' a n c z h a' n' c' z' h' br bp k1 k2
  ·have js:g'=!g:=by cases g<;>cases g'<;>simp_all
   subst js;exact dS w g a n c z h a' n' c' z' h' br bp k1 k2
 ·by_cases hg:g'=g
  ·subst hg;exact fX w g' a n c z h a' n' c' z' h' br bp k1 k2
  ·have js:g'=!g:=by cases g<;>cases g'<;>simp_all
   subst js;exact eQ w g a n c z h a' n' c' z' h' br bp k1 k2
end Go.Proofs.YtfijkfdfbnfmmaaGreatDoor
end
