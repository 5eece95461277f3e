/- The document's answer, layer 1: Add, Sub. -/
import Derived.Test.YtfijkfdfbnfmmaaGreatDoorQF12
set_option linter.unusedSimpArgs false
set_option linter.unusedVariables false
set_option maxRecDepth 100000
set_option maxHeartbeats 4000000
section
namespace Go.Proofs.YtfijkfdfbnfmmaaGreatDoor
open Go.RowKit Proofs.Tryz
variable (x:Nat) (w:World) (a:Γ) (n c:Nat) (d:Ξ) (a':Γ) {z':Int}
theorem Vo {x y:Int}:Bz x y<0↔x<y:=by
 unfold Bz
 split
 ·simp_all
 ·split<;>simp_all
theorem oK {g:Bool} {z:Int} (h:g=decide (z<0)) (h':g=decide (z'<0)):z+z'=sgn g (val (dg z.natAbs)+val (dg z'.natAbs)):=by
 rw [Bq,Bq];cases g
 ·have h1:¬z<0:=by simpa using h.symm
  have h2:¬z'<0:=by simpa using h'.symm
  simp [sgn];omega
 ·have h1:z<0:=by simpa using h.symm
  have h2:z'<0:=by simpa using h'.symm
  simp [sgn];omega
theorem Aar {g:Bool} {z:Int} (h:g=decide (z<0)) (h':(!g)=decide (z'<0)) (hv:z'.natAbs≤z.natAbs):z+z'=sgn g (val (dg z.natAbs)-val (dg z'.natAbs)):=qCo
theorem yS {g:Bool} {z:Int} (h:g=decide (z<0)) (h':(!g)=decide (z'<0)) (hv:z.natAbs<z'.natAbs):z+z'=sgn (!g) (val (dg z'.natAbs)-val (dg z.natAbs)):=qCo
theorem lO (g:Bool) (a:Γ) (n c:Nat) (z:Int) (h:Bh w g a n c z) (a':Γ) (n' c':Nat) (z':Int) (h':Bh w g a' n' c' z') (br:n<35184372088830) (bp:n'<35184372088830) :
  Θ 227 #[.agg #[.bool g,.slice a n c],.agg #[.bool g,.slice a' n' c']] w (Di w (z+z')):=by
 have HB:=Ac w w;have HR:=Ae (oK h.neg h'.neg);go_enter func227,ntmps227;go_wp2_with fail;refine (Gw _ _ _ _ _ _ (h.keep qD)).mono ?_;rintro e w1 ⟨rfl,hb⟩;obtain ⟨hc,hf⟩:=Bg hb;have hz:=hb.size;(try simp only [Aj,Ak] at hz);replace HB:=zP w hb;obtain ⟨aw,bh⟩:=xd hc w g a n c;obtain ⟨bn,bo⟩:=xd hc (w+1) g a' n' c';obtain ⟨bw,bx⟩:=zJ hc (w+1+1);obtain ⟨bz,cc⟩:=zK hf (w+1+1);obtain ⟨dy,dz⟩:=zK hf w;obtain ⟨dp,dt⟩:=zK hf (w+1);have jy:w.heap.size+1+1<w1:=qB;clear hc hf hb hz;go_wp2_with fail;refine (Gw _ _ _ _ _ _ (h'.keep qD)).mono ?_;rintro e w2 ⟨rfl,hb⟩;obtain ⟨hc,hf⟩:=Bg hb;have hz:=hb.size;(try simp only [Aj,Ak] at hz);replace HB:=zP w hb;obtain ⟨aw,bh⟩:=xd hc w g a n c;obtain ⟨bn,bo⟩:=xd hc (w+1) g a' n' c';obtain ⟨bw,bx⟩:=zJ hc (w+1+1);obtain ⟨bz,cc⟩:=zK hf (w+1+1);obtain ⟨dy,dz⟩:=zK hf w;obtain ⟨dp,dt⟩:=zK hf (w+1);have l9:w.heap.size+1+1<w2:=by simp at hz;omega
 clear hc hf hb hz;go_upto_region 4 with fail
 have ep:xp w ((w2.setCell (J (w+1) 0) (.bool g)).setCell (J (w+1) 1) (.slice a' n' c')):=qD;have nw:w.heap.size+1+1<((w2.setCell (J (w+1) 0) (.bool g)).setCell (J (w+1) 1) (.slice a' n' c')).heap.size:=qL;have PA:Z ((w2.setCell (J (w+1) 0) (.bool g)).setCell (J (w+1) 1) (.slice a' n' c')) w 0 (.bool g):=qO;have PD:Z ((w2.setCell (J (w+1) 0) (.bool g)).setCell (J (w+1) 1) (.slice a' n' c')) w 1 (.slice a n c):=qO;have PE:Z ((w2.setCell (J (w+1) 0) (.bool g)).setCell (J (w+1) 1) (.slice a' n' c')) (w+1) 0 (.bool g):=qO;have PF:Z ((w2.setCell (J (w+1) 0) (.bool g)).setCell (J (w+1) 1) (.slice a' n' c')) (w+1) 1 (.slice a' n' c'):=qO;have US:Z ((w2.setCell (J (w+1) 0) (.bool g)).setCell (J (w+1) 1) (.slice a' n' c')) (w+1+1) 0 (.bool false):=qO;have UT:Y ((w2.setCell (J (w+1) 0) (.bool g)).setCell (J (w+1) 1) (.slice a' n' c')) (w+1+1) 0:=qO;have UU:Z ((w2.setCell (J (w+1) 0) (.bool g)).setCell (J (w+1) 1) (.slice a' n' c')) (w+1+1) 1 (.slice none 0 0):=qO;have UW:Y ((w2.setCell (J (w+1) 0) (.bool g)).setCell (J (w+1) 1) (.slice a' n' c')) (w+1+1) 1:=qO;generalize ((w2.setCell (J (w+1) 0) (.bool g)).setCell (J (w+1) 1) (.slice a' n' c'))=w3 at *;clear aw bh bn bo bw bx bz cc dy dz dp dt HB;have HB:=ep;go_region_held3 (fun W=>Z W w 0 (.bool g)∧Z W w 1 (.slice a n c)∧Z W (w+1) 0 (.bool g)∧Z W (w+1) 1 (.slice a' n' c')) (exact qK) (first
  | (go_at_call 263;(with_reducible refine (yM _ _ _ _ _ _ _ _ _ (h.rd.keep qD) (h'.rd.keep qD) (D0 _) (D0 _) qB qB).mono ?_);rintro e w4 ⟨a1,k1,c1,q1,rfl,lg,od,ju,rm,lh,hb⟩;obtain ⟨hc,hf⟩:=Bg hb;have hz:=hb.size;(try simp only [Aj,Ak,Am] at hz);replace HB:=zP w hb;obtain ⟨aw,bh⟩:=xd hc w g a n c;obtain ⟨bn,bo⟩:=xd hc (w+1) g a' n' c';obtain ⟨bw,bx⟩:=zJ hc (w+1+1);obtain ⟨bz,cc⟩:=zK hf (w+1+1);have UX:=Ae od;have yu:=Ae ju;clear od ju)
  | (go_at_call 185;(with_reducible refine (Hb _ g a1 k1 c1 q1 (lg.keep qD) yu.out).mono ?_);rintro e w5 ⟨g3,n3,rfl,ll,ic,hb⟩;obtain ⟨hc,hf⟩:=Bg hb;have hz:=hb.size;(try simp only [Aj,Ak,Am] at hz);replace HB:=zP w hb;obtain ⟨aw,bh⟩:=xd hc w g a n c;obtain ⟨bn,bo⟩:=xd hc (w+1) g a' n' c';obtain ⟨bw,bx⟩:=zJ hc (w+1+1);obtain ⟨bz,cc⟩:=zK hf (w+1+1);have j6:Bc (w+1+1+1) w5 a1 c1:=(lh.keep (Al qD (hb.mono qA))).mono qU))
 exact qBe
theorem wQ (g:Bool) (a:Γ) (n c:Nat) (z:Int) (h:Bh w g a n c z) (a':Γ) (n' c':Nat) (z':Int) (h':Bh w (!g) a' n' c' z') (br:n<35184372088830) (bp:n'<35184372088830) (hv:z'.natAbs≤z.natAbs) :
  Θ 227 #[.agg #[.bool g,.slice a n c],.agg #[.bool (!g),.slice a' n' c']] w (Di w (z+z')):=by
 have HB:=Ac w w;have HR:=Ae (Aar h.neg h'.neg hv);have qd:(decide (Bz (val (dg z.natAbs)) (val (dg z'.natAbs))<0))=false:=by rw [Bq,Bq,decide_eq_false_iff_not];exact fun e=>absurd (Vo.1 e) qB
 have hle:=Bu hv;have HCM:=Ae qd;have KK:n'≤n:=by have:=h.rd.len;have:=h'.rd.len;omega
 clear qd hle;have hgg:(g==!g)=false:=by cases g<;>rfl
 go_enter func227,ntmps227;go_wp2_with fail;refine (Gw _ _ _ _ _ _ (h.keep qD)).mono ?_;rintro e w1 ⟨rfl,hb⟩;obtain ⟨hc,hf⟩:=Bg hb;have hz:=hb.size;(try simp only [Aj,Ak] at hz);replace HB:=zP w hb;obtain ⟨aw,bh⟩:=xd hc w g a n c;obtain ⟨bn,bo⟩:=xd hc (w+1) (!g) a' n' c';obtain ⟨bw,bx⟩:=zJ hc (w+1+1);obtain ⟨bz,cc⟩:=zK hf (w+1+1);obtain ⟨dy,dz⟩:=zK hf w;obtain ⟨dp,dt⟩:=zK hf (w+1);have jy:w.heap.size+1+1<w1:=qB;clear hc hf hb hz;go_wp2_with fail;refine (Gw _ _ _ _ _ _ (h'.keep qD)).mono ?_;rintro e w2 ⟨rfl,hb⟩;obtain ⟨hc,hf⟩:=Bg hb;have hz:=hb.size;(try simp only [Aj,Ak] at hz);replace HB:=zP w hb;obtain ⟨aw,bh⟩:=xd hc w g a n c;obtain ⟨bn,bo⟩:=xd hc (w+1) (!g) a' n' c';obtain ⟨bw,bx⟩:=zJ hc (w+1+1);obtain ⟨bz,cc⟩:=zK hf (w+1+1);obtain ⟨dy,dz⟩:=zK hf w;obtain ⟨dp,dt⟩:=zK hf (w+1);have l9:w.heap.size+1+1<w2:=by simp at hz;omega
 clear hc hf hb hz;go_upto_region 5 with fail
 have ep:xp w ((w2.setCell (J (w+1) 0) (.bool (!g))).setCell (J (w+1) 1) (.slice a' n' c')):=qD;have nw:w.heap.size+1+1<((w2.setCell (J (w+1) 0) (.bool (!g))).setCell (J (w+1) 1) (.slice a' n' c')).heap.size:=qL;have PA:Z ((w2.setCell (J (w+1) 0) (.bool (!g))).setCell (J (w+1) 1) (.slice a' n' c')) w 0 (.bool g):=qO;have PD:Z ((w2.setCell (J (w+1) 0) (.bool (!g))).setCell (J (w+1) 1) (.slice a' n' c')) w 1 (.slice a n c):=qO;have PE:Z ((w2.setCell (J (w+1) 0) (.bool (!g))).setCell (J (w+1) 1) (.slice a' n' c')) (w+1) 0 (.bool (!g)):=qO;have PF:Z ((w2.setCell (J (w+1) 0) (.bool (!g))).setCell (J (w+1) 1) (.slice a' n' c')) (w+1) 1 (.slice a' n' c'):=qO;have US:Z ((w2.setCell (J (w+1) 0) (.bool (!g))).setCell (J (w+1) 1) (.slice a' n' c')) (w+1+1) 0 (.bool false):=qO;have UT:Y ((w2.setCell (J (w+1) 0) (.bool (!g))).setCell (J (w+1) 1) (.slice a' n' c')) (w+1+1) 0:=qO;have UU:Z ((w2.setCell (J (w+1) 0) (.bool (!g))).setCell (J (w+1) 1) (.slice a' n' c')) (w+1+1) 1 (.slice none 0 0):=qO;have UW:Y ((w2.setCell (J (w+1) 0) (.bool (!g))).setCell (J (w+1) 1) (.slice a' n' c')) (w+1+1) 1:=qO;generalize ((w2.setCell (J (w+1) 0) (.bool (!g))).setCell (J (w+1) 1) (.slice a' n' c'))=w3 at *;clear aw bh bn bo bw bx bz cc dy dz dp dt HB;have HB:=ep;go_wp2_with fail;refine (U9 _ _ _ _ _ _ _ _ _ (h.rd.keep qD) (h'.rd.keep qD) (Cb _) (Cb _)).mono ?_;rintro e w3 ⟨rfl,hb⟩;obtain ⟨hc,hf⟩:=Bg hb;have hz:=hb.size;(try simp only [Aj,Ak] at hz);replace HB:=zP w hb;obtain ⟨aw,bh⟩:=xd hc w g a n c;obtain ⟨bn,bo⟩:=xd hc (w+1) (!g) a' n' c';obtain ⟨bw,bx⟩:=zJ hc (w+1+1);obtain ⟨bz,cc⟩:=zK hf (w+1+1);have nw:w.heap.size+1+1<w3:=qB;have qd:=HCM.out;clear hc hf hb hz;go_upto_region 7 with fail
 clear qd;go_region_held3 (fun W=>Z W w 0 (.bool g)∧Z W w 1 (.slice a n c)∧Z W (w+1) 0 (.bool (!g))∧Z W (w+1) 1 (.slice a' n' c')) (exact qK) (first
  | (go_at_call 264;(with_reducible refine (rM _ _ _ _ _ _ _ _ _ (h.rd.keep qD) (h'.rd.keep qD) (D0 _) (D0 _) KK (by rw [Bq,Bq];exact hv)).mono ?_);rintro e w4 ⟨a1,k1,c1,q1,rfl,lg,od,ju,rm,lh,hb⟩;obtain ⟨hc,hf⟩:=Bg hb;have hz:=hb.size;(try simp only [Aj,Ak,Am] at hz);replace HB:=zP w hb;obtain ⟨aw,bh⟩:=xd hc w g a n c;obtain ⟨bn,bo⟩:=xd hc (w+1) (!g) a' n' c';obtain ⟨bw,bx⟩:=zJ hc (w+1+1);obtain ⟨bz,cc⟩:=zK hf (w+1+1);have UX:=Ae od;have yu:=Ae ju;clear od ju)
  | (go_at_call 185;(with_reducible refine (Hb _ g a1 k1 c1 q1 (lg.keep qD) yu.out).mono ?_);rintro e w5 ⟨g3,n3,rfl,ll,ic,hb⟩;obtain ⟨hc,hf⟩:=Bg hb;have hz:=hb.size;(try simp only [Aj,Ak,Am] at hz);replace HB:=zP w hb;obtain ⟨aw,bh⟩:=xd hc w g a n c;obtain ⟨bn,bo⟩:=xd hc (w+1) (!g) a' n' c';obtain ⟨bw,bx⟩:=zJ hc (w+1+1);obtain ⟨bz,cc⟩:=zK hf (w+1+1);have j6:Bc (w+1+1+1) w5 a1 c1:=(lh.keep (Al qD (hb.mono qA))).mono qU))
 exact qBe
theorem sI (g:Bool) (a:Γ) (n c:Nat) (z:Int) (h:Bh w g a n c z) (a':Γ) (n' c':Nat) (z':Int) (h':Bh w (!g) a' n' c' z') (br:n<35184372088830) (bp:n'<35184372088830) (hv:z.natAbs<z'.natAbs) :
  Θ 227 #[.agg #[.bool g,.slice a n c],.agg #[.bool (!g),.slice a' n' c']] w (Di w (z+z')):=by
 have HB:=Ac w w;have HR:=Ae (yS h.neg h'.neg hv);have qd:(decide (Bz (val (dg z.natAbs)) (val (dg z'.natAbs))<0))=true:=by rw [Bq,Bq,decide_eq_true_iff];exact Vo.2 qB
 have hle:=Bu (Nat.le_of_lt hv);have HCM:=Ae qd;have KK:n≤n':=by have:=h.rd.len;have:=h'.rd.len;omega
 clear qd hle;have hgg:(g==!g)=false:=by cases g<;>rfl
 go_enter func227,ntmps227;go_wp2_with fail;refine (Gw _ _ _ _ _ _ (h.keep qD)).mono ?_;rintro e w1 ⟨rfl,hb⟩;obtain ⟨hc,hf⟩:=Bg hb;have hz:=hb.size;(try simp only [Aj,Ak] at hz);replace HB:=zP w hb;obtain ⟨aw,bh⟩:=xd hc w g a n c;obtain ⟨bn,bo⟩:=xd hc (w+1) (!g) a' n' c';obtain ⟨bw,bx⟩:=zJ hc (w+1+1);obtain ⟨bz,cc⟩:=zK hf (w+1+1);obtain ⟨dy,dz⟩:=zK hf w;obtain ⟨dp,dt⟩:=zK hf (w+1);have jy:w.heap.size+1+1<w1:=qB;clear hc hf hb hz;go_wp2_with fail;refine (Gw _ _ _ _ _ _ (h'.keep qD)).mono ?_;rintro e w2 ⟨rfl,hb⟩;obtain ⟨hc,hf⟩:=Bg hb;have hz:=hb.size;(try simp only [Aj,Ak] at hz);replace HB:=zP w hb;obtain ⟨aw,bh⟩:=xd hc w g a n c;obtain ⟨bn,bo⟩:=xd hc (w+1) (!g) a' n' c';obtain ⟨bw,bx⟩:=zJ hc (w+1+1);obtain ⟨bz,cc⟩:=zK hf (w+1+1);obtain ⟨dy,dz⟩:=zK hf w;obtain ⟨dp,dt⟩:=zK hf (w+1);have l9:w.heap.size+1+1<w2:=by simp at hz;omega
 clear hc hf hb hz;go_upto_region 5 with fail
 have ep:xp w ((w2.setCell (J (w+1) 0) (.bool (!g))).setCell (J (w+1) 1) (.slice a' n' c')):=qD;have nw:w.heap.size+1+1<((w2.setCell (J (w+1) 0) (.bool (!g))).setCell (J (w+1) 1) (.slice a' n' c')).heap.size:=qL;have PA:Z ((w2.setCell (J (w+1) 0) (.bool (!g))).setCell (J (w+1) 1) (.slice a' n' c')) w 0 (.bool g):=qO;have PD:Z ((w2.setCell (J (w+1) 0) (.bool (!g))).setCell (J (w+1) 1) (.slice a' n' c')) w 1 (.slice a n c):=qO;have PE:Z ((w2.setCell (J (w+1) 0) (.bool (!g))).setCell (J (w+1) 1) (.slice a' n' c')) (w+1) 0 (.bool (!g)):=qO;have PF:Z ((w2.setCell (J (w+1) 0) (.bool (!g))).setCell (J (w+1) 1) (.slice a' n' c')) (w+1) 1 (.slice a' n' c'):=qO;have US:Z ((w2.setCell (J (w+1) 0) (.bool (!g))).setCell (J (w+1) 1) (.slice a' n' c')) (w+1+1) 0 (.bool false):=qO;have UT:Y ((w2.setCell (J (w+1) 0) (.bool (!g))).setCell (J (w+1) 1) (.slice a' n' c')) (w+1+1) 0:=qO;have UU:Z ((w2.setCell (J (w+1) 0) (.bool (!g))).setCell (J (w+1) 1) (.slice a' n' c')) (w+1+1) 1 (.slice none 0 0):=qO;have UW:Y ((w2.setCell (J (w+1) 0) (.bool (!g))).setCell (J (w+1) 1) (.slice a' n' c')) (w+1+1) 1:=qO;generalize ((w2.setCell (J (w+1) 0) (.bool (!g))).setCell (J (w+1) 1) (.slice a' n' c'))=w3 at *;clear aw bh bn bo bw bx bz cc dy dz dp dt HB;have HB:=ep;go_wp2_with fail;refine (U9 _ _ _ _ _ _ _ _ _ (h.rd.keep qD) (h'.rd.keep qD) (Cb _) (Cb _)).mono ?_;rintro e w3 ⟨rfl,hb⟩;obtain ⟨hc,hf⟩:=Bg hb;have hz:=hb.size;(try simp only [Aj,Ak] at hz);replace HB:=zP w hb;obtain ⟨aw,bh⟩:=xd hc w g a n c;obtain ⟨bn,bo⟩:=xd hc (w+1) (!g) a' n' c';obtain ⟨bw,bx⟩:=zJ hc (w+1+1);obtain ⟨bz,cc⟩:=zK hf (w+1+1);have nw:w.heap.size+1+1<w3:=qB;have qd:=HCM.out;clear hc hf hb hz;go_upto_region 6 with fail
 clear qd;go_region_held3 (fun W=>Z W w 0 (.bool g)∧Z W w 1 (.slice a n c)∧Z W (w+1) 0 (.bool (!g))∧Z W (w+1) 1 (.slice a' n' c')) (exact qK) (first
  | (go_at_call 264;(with_reducible refine (rM _ _ _ _ _ _ _ _ _ (h'.rd.keep qD) (h.rd.keep qD) (D0 _) (D0 _) KK (by rw [Bq,Bq];exact Nat.le_of_lt hv)).mono ?_);rintro e w4 ⟨a1,k1,c1,q1,rfl,lg,od,ju,rm,lh,hb⟩;obtain ⟨hc,hf⟩:=Bg hb;have hz:=hb.size;(try simp only [Aj,Ak,Am] at hz);replace HB:=zP w hb;obtain ⟨aw,bh⟩:=xd hc w g a n c;obtain ⟨bn,bo⟩:=xd hc (w+1) (!g) a' n' c';obtain ⟨bw,bx⟩:=zJ hc (w+1+1);obtain ⟨bz,cc⟩:=zK hf (w+1+1);have UX:=Ae od;have yu:=Ae ju;clear od ju)
  | (go_at_call 185;(with_reducible refine (Hb _ (!g) a1 k1 c1 q1 (lg.keep qD) yu.out).mono ?_);rintro e w5 ⟨g3,n3,rfl,ll,ic,hb⟩;obtain ⟨hc,hf⟩:=Bg hb;have hz:=hb.size;(try simp only [Aj,Ak,Am] at hz);replace HB:=zP w hb;obtain ⟨aw,bh⟩:=xd hc w g a n c;obtain ⟨bn,bo⟩:=xd hc (w+1) (!g) a' n' c';obtain ⟨bw,bx⟩:=zJ hc (w+1+1);obtain ⟨bz,cc⟩:=zK hf (w+1+1);have j6:Bc (w+1+1+1) w5 a1 c1:=(lh.keep (Al qD (hb.mono qA))).mono qU))
 exact qBe
theorem fG (g:Bool) (a:Γ) (n c:Nat) (z:Int) (h:Bh w g a n c z) (g':Bool) (a':Γ) (n' c':Nat) (z':Int) (h':Bh w g' a' n' c' z') (br:n<35184372088830) (bp:n'<35184372088830) :
  Θ 227 #[.agg #[.bool g,.slice a n c],.agg #[.bool g',.slice a' n' c']] w (Di w (z+z')):=by
 by_cases hg:g=g'
 ·subst hg;exact lO w g a n c z h a' n' c' z' h' br bp
 ·obtain rfl:g'=!g:=by cases g<;>cases g'<;>simp_all
  rcases Nat.lt_or_ge z.natAbs z'.natAbs with hv|hv
  ·exact sI w g a n c z h a' n' c' z' h' br bp hv
  ·exact wQ w g a n c z h a' n' c' z' h' br bp hv
theorem Aab (g:Bool) (a:Γ) (n c:Nat) (z:Int) (h:Bh w g a n c z) (g':Bool) (a':Γ) (n' c':Nat) (z':Int) (h':Bh w g' a' n' c' z') (br:n<35184372088830) (bp:n'<35184372088830) :
  Θ 228 #[.agg #[.bool g,.slice a n c],.agg #[.bool g',.slice a' n' c']] w (Di w (z-z')):=by
 have HB:=Ac w w;go_enter func228,ntmps228;go_wp2_with fail;go_region_held3 (fun W=>Z W w 0 (.bool g)∧Z W w 1 (.slice a n c)∧Z W (w+1) 0 (.bool g')∧Z W (w+1) 1 (.slice a' n' c')) (exact qK) (first
  | (go_at_call 182;(with_reducible refine (Yg _ g' a' n' c' z' (h'.keep qD)).mono ?_);rintro e w1 ⟨g1,a1,n1,c1,rfl,qv,lh,hb⟩;obtain ⟨hc,hf⟩:=Bg hb;have hz:=hb.size;(try simp only [Aj,Ak,Am] at hz);replace HB:=zP w hb;obtain ⟨aw,bh⟩:=xd hc w g a n c;obtain ⟨bn,bo⟩:=xd hc (w+1) g' a' n' c';obtain ⟨bw,bx⟩:=zJ hc (w+1+1);obtain ⟨bz,cc⟩:=zK hf (w+1+1))
  | (go_at_call 227;(with_reducible refine (fG _ g a n c z (h.keep qD) g1 a1 n1 c1 (-z') (qv.keep qD) qB (by have:=qv.rd.len;rw [Int.natAbs_neg,h'.rd.len] at this;omega)).mono ?_);rintro e w2 ⟨g3,a3,n3,c3,rfl,ll,mi,hb⟩;obtain ⟨hc,hf⟩:=Bg hb;have hz:=hb.size;(try simp only [Aj,Ak,Am] at hz);replace HB:=zP w hb;obtain ⟨aw,bh⟩:=xd hc w g a n c;obtain ⟨bn,bo⟩:=xd hc (w+1) g' a' n' c';obtain ⟨bw,bx⟩:=zJ hc (w+1+1);obtain ⟨bz,cc⟩:=zK hf (w+1+1);have uu:=mi.mono (show w.heap.size+1+1+1≤_ from qU)))
 go_wp2_with fail;refine bodyPost_ret (v:=.agg #[.bool g3,.slice a3 n3 c3]) (by simp [results,results228,go_sem,bw,bx]) rfl ?_;rw [←Int.sub_eq_add_neg] at ll;have q3:w.heap.size+1+1<w.heap.size+1+1+1:=Ag _;refine ⟨g3,a3,n3,c3,rfl,?_,((uu.setNew _ _ q3).setNew _ _ q3).mono qB,qD⟩;exact (ll.setFresh uu _ _ q3).setFresh (uu.setNew _ _ q3) _ _ q3
theorem sU (fo:Nat) (hd:RdL w a n c d) (bj:∀x∈d,x<1000000000) (lz:0<fo) (br:fo<4294967296) :
  Θ 259 #[.slice a n c,.int .u32 fo] w (aT w n fo d):=by
 obtain ⟨i0,hi,dw,ed,en⟩:=info_parts Dl;have hlen:=hd.len;have hn:=hd.few;have sr:=Ae bj;clear bj;go_enter func259,ntmps259;go_wp2_with (refine wpList_make_full _ rfl _ _ 49 rfl w 129 i0 (.int .u32 0) 1 underlying49 hi dw ed .i64 .i64 _ _ n rfl rfl rfl rfl (by rw [en];omega) qN (Ad _) ?_;intro w1 du dn);have HB:xp w w1:=(Ac _ _).grown dn (Ad _) (fun k h=>by cases h);rw [Nat.mul_one,show Value.cells (.int .u32 0)=#[.int .u32 0] from rfl,toList_madeCells_one] at du;clear dn;go_loopw [7,8] (fun v6 v7 wr=>∃(k r:Nat) (q:Ξ),k≤n∧v7=M ((k:Int)-1)∧v6=.int .u64 r∧r<fo∧Hid (r=val (d.drop k)%fo)∧Hid (val q=val (d.drop k)/fo)∧Hid (q.length=n-k)∧Hid (∀x∈q,x<1000000000) ∧
   wr.ownsRow w 129 1 (.slice (E w) n n) n (List.replicate k (.int .u32 0)++Cg q)∧xp w wr) (fun _ v7 _=>(intOf v7+1).toNat)
 case atStart=>exact ⟨n,0,[],Ad _,rfl,rfl,lz,Ae (by rw [List.drop_of_length_le qB];simp [val]),Ae (by rw [List.drop_of_length_le qB];simp [val]),Ae qH,Ae (fun x hx=>(by cases hx)),by simpa [Cg] using du,HB⟩
 case round =>
  obtain ⟨k,r,q,hk,rfl,rfl,hrb,hr,hq,uo,ju,ah,HB⟩:=hrel;have qu:=HB.size;have tu:=(ah.lt w rfl).2;clear du
  match k with
  | 0 =>
   exact qBt
  | j+1 =>
   rw [show ((j+1:Nat):Int)-1=(j:Int) from qB];obtain ⟨b,o,rfl,c1⟩:=(hd.keep HB).at' (i:=j) qB;have hs:=hd.small j;have ha:d.getD j 0<1000000000:=by
    rw [List.getD,Ai qB];exact sr.out _ (List.getElem_mem qB)
   have qw:lim d j=((d.getD j 0:Nat):Int):=rfl;have iv:=S8 (d.getD j 0) (val (d.drop (j+1))) fo lz
   rw [←F5 d j qB,←hr.out,←hq.out] at iv;have qe:=Ae iv;have PG:=Rx (d.getD j 0) r fo lz hrb ha
   have tz:=Nat.mod_lt (r*1000000000+d.getD j 0) lz;have t1:(1000000000*(r:Int)+lim d j)/(fo:Int)=(((r*1000000000+d.getD j 0)/fo:Nat):Int):=by rw [qw];simp [Int.mul_comm]
   have t2:(1000000000*(r:Int)+lim d j)%(fo:Int)=(((r*1000000000+d.getD j 0)%fo:Nat):Int):=by rw [qw];simp [Int.mul_comm]
   have q1:0≤(1000000000*(r:Int)+lim d j)/(fo:Int):=by rw [t1];revert PG;generalize (r*1000000000+d.getD j 0)/fo=X;intro h;omega
   have q2:(1000000000*(r:Int)+lim d j)/(fo:Int)≤999999999:=by rw [t1];revert PG;generalize (r*1000000000+d.getD j 0)/fo=X;intro h;omega
   have q3:0≤(1000000000*(r:Int)+lim d j)%(fo:Int):=by rw [t2];revert tz;generalize (r*1000000000+d.getD j 0)%fo=X;intro h;omega
   have q4:(1000000000*(r:Int)+lim d j)%(fo:Int)<fo:=by rw [t2];revert tz;generalize (r*1000000000+d.getD j 0)%fo=X;intro h;omega
   have T1:=Ae t1;have T2:=Ae t2;have HM:=Ae tz;have HDG:=Ae PG;have gz:=ah.cellAt j qB;rw [Ay qH,List.getElem?_replicate,if_pos qB] at gz;have eh:=ah.frozenAt j;have KM:(fo:Int)<4294967296:=qB;have ak1:(1:Int)≤fo:=qB
   clear t1 t2 iv qw ha tz PG;go_wp2_with fail;go_roundw
   case rel =>
    refine ⟨j,(r*1000000000+d.getD j 0)%fo,(r*1000000000+d.getD j 0)/fo::q,qB,rfl,by rw [T2.out],HM.out,Ae qe.out.2.symm,Ae ?_,Ae ?_,Ae ?_,?_,qD⟩
    ·rw [val];exact qe.out.1.symm
    ·have:=uo.out;simp;omega
    ·intro x hx;rcases List.mem_cons.1 hx with rfl|hx
     ·exact HDG.out
     ·exact ju.out x hx
    ·have:=(ah.stored j (.int .u32 ((1000000000*(r:Int)+lim d j)/(fo:Int)))).1;exact qCr
   case measure=>(first|(simp [intOf];omega)|(simp [intOf];done))
def Gx (w:World) (x y:Nat) (mq mr:Nat) (e:Ending) (w':World):Prop :=
 ∃a k c q a' k' c' r,e=.returned (.tuple #[.slice a k c,.slice a' k' c'])∧RdL w' a k c q∧RdL w' a' k' c' r∧val q=x/y∧val r=x%y∧(∀x∈q,x<1000000000)∧(∀x∈r,x<1000000000)∧k≤mq∧k'≤mr∧Bc w w' a c∧Bc w w' a' c'∧xp w w'
theorem uK {w:World} (hx:x<4294967296) (w':World) (hw:w'=w.alloc (.cells #[.int .u32 x] 129)):RdL w' (E w) 1 1 [x]:=by
 subst hw;refine ⟨rfl,Ad _,qB,qB,fun i=>By (d:=[x]) (fun y hy=>by rw [Ao] at hy;omega) i,.inr ⟨_,_,rfl,fun i hi=>?_⟩⟩;obtain rfl:i=0:=qB;simp [go_sem,lim]
theorem nV (c':Nat) (x:Nat) (hd:RdL w a n c d) (ik:RdL w a' 1 c' [x]) (bj:∀x∈d,x<1000000000) (tr:0<x) (hx:x<1000000000) :
  Θ 226 #[.slice a n c,.slice a' 1 c'] w (Gx w (val d) x n 1):=by
 have hn:=hd.few;have HB:=Ac w w;obtain ⟨b',o',rfl,c2⟩:=ik.at' (i:=0) qB;rw [show lim [x] 0=(x:Int) from rfl,Nat.add_zero] at c2;go_enter func226,ntmps226;go_wp2_with fail;refine (sU w a n c d x hd bj tr qB).mono ?_;rintro e w1 ⟨a1,q,rfl,lg,hq,ju,lh,hb⟩;have tz:=Nat.mod_lt (val d) tr;have HQ:=Ae hq;have yu:=Ae ju;clear hq ju;generalize hr:val d%x=r at *;have HR:=Ae hr;clear hr;have fb:=hb.size;go_wp2_with fail;refine bodyPost_ret (v:=.tuple #[.slice a1 n n,.slice (E w1) 1 1]) (by simp [results,results226,go_sem]) rfl ?_;refine ⟨a1,n,n,q,_,1,1,[r],rfl,lg.alloc _,uK r qB _ rfl,HQ.out,by simp [val,HR.out],yu.out,fun y hy=>by rw [Ao] at hy;omega,Ad _,Ad _,lh.keep qD,.inr ⟨_,_,rfl,fb,heap_alloc_new _ _,qH⟩,qD⟩
end Go.Proofs.YtfijkfdfbnfmmaaGreatDoor
end
