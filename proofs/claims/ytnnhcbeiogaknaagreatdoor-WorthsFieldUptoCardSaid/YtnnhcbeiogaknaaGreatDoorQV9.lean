/- Package fracs: unit, Check, of, Sign, Of, Text. -/
import Derived.Test.YtnnhcbeiogaknaaGreatDoorQV7
import Derived.Test.YtnnhcbeiogaknaaGreatDoorQV8
set_option linter.unusedSimpArgs false
set_option linter.unusedVariables false
set_option maxRecDepth 100000
set_option maxHeartbeats 4000000
section
namespace Go.Proofs.YtnnhcbeiogaknaaGreatDoor
open Go.RowKit
@[go_sem ↓] theorem Ab2 (w:World) (g1:Bool) (a1:Γ) (n1 c1:Nat) (g2:Bool) (a2:Γ) (n2 c2:Nat) :
  (Instr.field 34 (.agg #[.bool g1,.slice a1 n1 c1,.bool g2,.slice a2 n2 c2]) 0).run Tryz.prog w=.ok (.agg #[.bool g1,.slice a1 n1 c1]) w:=by kernel_rfl
@[go_sem ↓] theorem Ab3 (w:World) (g1:Bool) (a1:Γ) (n1 c1:Nat) (g2:Bool) (a2:Γ) (n2 c2:Nat) :
  (Instr.field 34 (.agg #[.bool g1,.slice a1 n1 c1,.bool g2,.slice a2 n2 c2]) 1).run Tryz.prog w=.ok (.agg #[.bool g2,.slice a2 n2 c2]) w:=by kernel_rfl
theorem Ht {x y:Int}:Bz x y=0↔x=y:=by
 unfold Bz
 split
 ·constructor<;>intro h<;>omega
 ·split
  ·simp [*]
  ·constructor<;>intro h<;>omega
theorem rG {x y:Int}:0<Bz x y↔y<x:=by
 unfold Bz
 split
 ·constructor<;>intro h<;>omega
 ·split
  ·constructor<;>intro h<;>omega
  ·constructor<;>intro h<;>omega
theorem bN (w:World) (g:Bool) (a:Γ) (n c:Nat) (z:Int) (h:Bh w g a n c z) :
  Θ 93 #[.agg #[.bool g,.slice a n c]] w fun e w'=>e=.returned (.bool (decide (z=1)))∧Below w.heap.size w w':=by
 have HB:=Ac w.heap.size w;go_enter Tryz.func93,Tryz.ntmps93;go_wp2_with fail;go_region_held3 (fun W=>W.cell? ⟨w.heap.size,0,none⟩=some (.bool g)∧W.cell? ⟨w.heap.size,1,none⟩=some (.slice a n c)) (first|((try dsimp only);(repeat' apply Ay);all_goals (first|(with_reducible assumption)|(go_keep;done)|(simp [*,go_sem];done)))) (first
  | (go_at_call 40;(with_reducible refine (Qt _ 1 qA qA).mono ?_);rintro e w2 ⟨g2,a2,n2,c2,rfl,hm,_,hb⟩;obtain ⟨hc,hf⟩:=Bl hb;have hz:=hb.size;(try simp only [Aj,Ak] at hz);replace HB:=zI w hb;obtain ⟨s0,s1⟩:=qZ hc (w.heap.size) (.bool g) (.slice a n c);clear hc hf)
  | (go_at_call 63;(with_reducible refine (S9 _ _ _ _ _ _ (h.keep qF) _ _ _ _ 1 (hm.keep qF)).mono ?_);rintro e w3 ⟨rfl,hb3⟩;have hz3:=hb3.size;replace HB:=zI w hb3;have s0':=Bc (hb3) (by first|assumption|(simp [*,go_sem];done):World.cell? _ ⟨w.heap.size,0,none⟩=some (.bool g));have s1':=Bc hb3 (by first|assumption|(simp [*,go_sem];done):World.cell? _ ⟨w.heap.size,1,none⟩=some (.slice a n c))))
 all_goals
  go_wp2_with fail;go_ret;refine ⟨?_,by go_grown⟩;by_cases h1:z=1
  ·rw [h1,Ev];rfl
  ·have h2:(Bz z 1==0)=false:=by rw [beq_eq_false_iff_ne];exact fun e=>h1 (Ht.1 e)
   have h3:decide (z=1)=false:=by simp [h1]
   rw [h3];first
    | (show Ending.returned (.bool (Bz z 1==0))=_;rw [h2])
    | (simp [h2];done)
def FOk (g1:Bool) (d1:Ξ) (g2:Bool) (d2:Ξ):Prop:=Qz g1 d1∧Qz g2 d2∧g2=false∧d2≠[]∧Nat.gcd (val d1) (val d2)=1
theorem tC {g:Bool} {d:Ξ} (h:Qz g d):0<(if g then -(val d:Int) else (val d:Int))↔g=false∧d≠[]:=by
 cases g
 ·simp only [Bool.false_eq_true,if_false,true_and];constructor
  ·intro h1 e;rw [e,val] at h1;omega
  ·intro h1;have:=Cv h.1 h1;omega
 ·simp only [if_true,Bool.true_eq_false,false_and,iff_false];omega
theorem FOk.gcd {g1:Bool} {d1:Ξ} {g2:Bool} {d2:Ξ}:Int.gcd (if g1 then -(val d1:Int) else (val d1:Int)) (if g2 then -(val d2:Int) else (val d2:Int))=Nat.gcd (val d1) (val d2):=by
 cases g1<;>cases g2<;>simp [Int.gcd]
theorem Ep (w:World) (g1:Bool) (a1:Γ) (n1 c1:Nat) (d1:Ξ) (h1:RdL w a1 n1 c1 d1) (g2:Bool) (a2:Γ) (n2 c2:Nat) (d2:Ξ) (h2:RdL w a2 n2 c2 d2) (hs:n2<35184372088829) (hb1:n1<35184372088829) (r:Bool) (hr:FOk g1 d1 g2 d2↔r=true) :
  Θ 60 #[.agg #[.bool g1,.slice a1 n1 c1,.bool g2,.slice a2 n2 c2]] w fun e w'=>e=.returned (.bool r)∧Below w.heap.size w w':=by
 have HB:=Ac w.heap.size w;by_cases o1:Qz g1 d1
 ·by_cases o2:Qz g2 d2
  ·have N1:=Gz h1 o1;have N2:=Gz h2 o2;have hlow:=tC o2;have hgcd:=@FOk.gcd g1 d1 g2 d2;generalize (if g1 then -(val d1:Int) else (val d1:Int))=z1 at *;generalize (if g2 then -(val d2:Int) else (val d2:Int))=z2 at *;have O1:=Ae o1;have O2:=Ae o2;clear o1 o2;by_cases hp:0<z2
   ·have hsg:Bz z2 0=1:=Ee hp;have HP:=Ae (hlow.1 hp);clear hlow;have HR:=Ae hr;have HG:=Ae hgcd;clear hr hgcd;go_enter Tryz.func60,Tryz.ntmps60;go_wp2_with fail;refine (Cy _ _ _ _ _ d1 (h1.keep qF) true ⟨fun _=>rfl,fun _=>O1.out⟩).mono ?_;rintro e w1 ⟨rfl,hb⟩;obtain ⟨hc,hf⟩:=Bl hb;have hz:=hb.size;(try simp only [Aj,Ak] at hz);replace HB:=zI w hb;obtain ⟨s0_0,s0_1⟩:=qZ hc (w.heap.size) (.bool g1) (.slice a1 n1 c1);obtain ⟨s0_2,s0_3⟩:=zD hc (w.heap.size) (.bool g2) (.slice a2 n2 c2);clear hc hf hb;go_wp2_with fail;refine (Cy _ _ _ _ _ d2 (h2.keep qF) true ⟨fun _=>rfl,fun _=>O2.out⟩).mono ?_;rintro e w2 ⟨rfl,hb⟩;obtain ⟨hc,hf⟩:=Bl hb;have hz:=hb.size;(try simp only [Aj,Ak] at hz);replace HB:=zI w hb;obtain ⟨s0_0,s0_1⟩:=qZ hc (w.heap.size) (.bool g1) (.slice a1 n1 c1);obtain ⟨s0_2,s0_3⟩:=zD hc (w.heap.size) (.bool g2) (.slice a2 n2 c2);clear hc hf hb;go_wp2_with fail;refine (La _ _ _ _ _ z2 (N2.keep qF)).mono ?_;rintro e w3 ⟨rfl,hb⟩;obtain ⟨hc,hf⟩:=Bl hb;have hz:=hb.size;(try simp only [Aj,Ak] at hz);replace HB:=zI w hb;obtain ⟨s0_0,s0_1⟩:=qZ hc (w.heap.size) (.bool g1) (.slice a1 n1 c1);obtain ⟨s0_2,s0_3⟩:=zD hc (w.heap.size) (.bool g2) (.slice a2 n2 c2);clear hc hf hb;rw [hsg];go_wp2_with fail;refine (yO _ _ _ _ _ z1 (N1.keep qF) _ _ _ _ z2 (N2.keep qF) hp hs hb1).mono ?_;rintro e w4 ⟨g3,a3,n3,c3,rfl,hn3,_,hb⟩;obtain ⟨hc,hf⟩:=Bl hb;have hz:=hb.size;(try simp only [Aj,Ak] at hz);replace HB:=zI w hb;obtain ⟨s0_0,s0_1⟩:=qZ hc (w.heap.size) (.bool g1) (.slice a1 n1 c1);obtain ⟨s0_2,s0_3⟩:=zD hc (w.heap.size) (.bool g2) (.slice a2 n2 c2);clear hc hf hb;go_wp2_with fail;refine (bN _ _ _ _ _ _ hn3).mono ?_;rintro e w5 ⟨rfl,hb⟩;obtain ⟨hc,hf⟩:=Bl hb;have hz:=hb.size;(try simp only [Aj,Ak] at hz);replace HB:=zI w hb;obtain ⟨s0_0,s0_1⟩:=qZ hc (w.heap.size) (.bool g1) (.slice a1 n1 c1);obtain ⟨s0_2,s0_3⟩:=zD hc (w.heap.size) (.bool g2) (.slice a2 n2 c2);clear hc hf hb;go_wp2_with fail;go_ret;refine ⟨?_,HB⟩;have hr:=HR.out;have e1:FOk g1 d1 g2 d2↔((z1.gcd z2:Nat):Int)=1:=by
     rw [HG.out];constructor
     ·intro h;have:=h.2.2.2.2;omega
     ·intro h;exact ⟨O1.out,O2.out,HP.out.1,HP.out.2,by omega⟩
    by_cases h3:((z1.gcd z2:Nat):Int)=1
    ·have:=hr.1 (e1.2 h3);rw [this];show Ending.returned (.bool (decide (((z1.gcd z2:Nat):Int)=1)))=_;rw [decide_eq_true h3]
    ·have h4:r=false:=by
      cases r
      ·rfl
      ·exact absurd (e1.1 (hr.2 rfl)) h3
     rw [h4];show Ending.returned (.bool (decide (((z1.gcd z2:Nat):Int)=1)))=_;rw [decide_eq_false h3]
   ·have hsg:decide (0<Bz z2 0)=false:=by rw [decide_eq_false_iff_not,rG];exact hp
    have hr0:r=false:=by
     cases r
     ·rfl
     ·have:=hr.2 rfl;exact absurd (hlow.2 ⟨this.2.2.1,this.2.2.2.1⟩) hp
    subst hr0;clear hr hlow hgcd hp;go_enter Tryz.func60,Tryz.ntmps60;go_wp2_with fail;refine (Cy _ _ _ _ _ d1 (h1.keep qF) true ⟨fun _=>rfl,fun _=>O1.out⟩).mono ?_;rintro e w1 ⟨rfl,hb⟩;obtain ⟨hc,hf⟩:=Bl hb;have hz:=hb.size;(try simp only [Aj,Ak] at hz);replace HB:=zI w hb;obtain ⟨s0_0,s0_1⟩:=qZ hc (w.heap.size) (.bool g1) (.slice a1 n1 c1);obtain ⟨s0_2,s0_3⟩:=zD hc (w.heap.size) (.bool g2) (.slice a2 n2 c2);clear hc hf hb;go_wp2_with fail;refine (Cy _ _ _ _ _ d2 (h2.keep qF) true ⟨fun _=>rfl,fun _=>O2.out⟩).mono ?_;rintro e w2 ⟨rfl,hb⟩;obtain ⟨hc,hf⟩:=Bl hb;have hz:=hb.size;(try simp only [Aj,Ak] at hz);replace HB:=zI w hb;obtain ⟨s0_0,s0_1⟩:=qZ hc (w.heap.size) (.bool g1) (.slice a1 n1 c1);obtain ⟨s0_2,s0_3⟩:=zD hc (w.heap.size) (.bool g2) (.slice a2 n2 c2);clear hc hf hb;go_wp2_with fail;refine (La _ _ _ _ _ z2 (N2.keep qF)).mono ?_;rintro e w3 ⟨rfl,hb⟩;exact qAw
  ·have hr0:r=false:=by
    cases r
    ·rfl
    ·exact absurd (hr.2 rfl).2.1 o2
   subst hr0;have O1:=Ae o1;have O2:=Ae o2;clear hr o1 o2;go_enter Tryz.func60,Tryz.ntmps60;go_wp2_with fail;refine (Cy _ _ _ _ _ d1 (h1.keep qF) true ⟨fun _=>rfl,fun _=>O1.out⟩).mono ?_;rintro e w1 ⟨rfl,hb⟩;obtain ⟨hc,hf⟩:=Bl hb;have hz:=hb.size;(try simp only [Aj,Ak] at hz);replace HB:=zI w hb;obtain ⟨s0_0,s0_1⟩:=qZ hc (w.heap.size) (.bool g1) (.slice a1 n1 c1);obtain ⟨s0_2,s0_3⟩:=zD hc (w.heap.size) (.bool g2) (.slice a2 n2 c2);clear hc hf hb;go_wp2_with fail;refine (Cy _ _ _ _ _ d2 (h2.keep qF) false ⟨fun e=>absurd e O2.out,fun e=>(by cases e)⟩).mono ?_;rintro e w2 ⟨rfl,hb⟩;exact qAw
 ·have hr0:r=false:=by
   cases r
   ·rfl
   ·exact absurd (hr.2 rfl).1 o1
  subst hr0;have O1:=Ae o1;clear hr o1;go_enter Tryz.func60,Tryz.ntmps60;go_wp2_with fail;refine (Cy _ _ _ _ _ d1 (h1.keep qF) false ⟨fun e=>absurd e O1.out,fun e=>(by cases e)⟩).mono ?_;rintro e w1 ⟨rfl,hb⟩;exact qAw
structure Bj (w:World) (g1:Bool) (a1:Γ) (n1 c1:Nat) (p:Int) (g2:Bool) (a2:Γ) (n2 c2:Nat) (q:Int):Prop where
 top:Bh w g1 a1 n1 c1 p
 low:Bh w g2 a2 n2 c2 q
 pos:0<q
 red:Int.gcd p q=1
theorem Bj.keep {w w':World} {g1:Bool} {a1:Γ} {n1 c1:Nat} {p:Int} {g2:Bool} {a2:Γ} {n2 c2:Nat} {q:Int} (h:Bj w g1 a1 n1 c1 p g2 a2 n2 c2 q) (hb:Below w.heap.size w w'):Bj w' g1 a1 n1 c1 p g2 a2 n2 c2 q :=
 ⟨h.top.keep hb,h.low.keep hb,h.pos,h.red⟩
theorem Bj.ok {w:World} {g1:Bool} {a1:Γ} {n1 c1:Nat} {p:Int} {g2:Bool} {a2:Γ} {n2 c2:Nat} {q:Int} (h:Bj w g1 a1 n1 c1 p g2 a2 n2 c2 q):FOk g1 (dg p.natAbs) g2 (dg q.natAbs):=by
 refine ⟨h.top.okay,h.low.okay,?_,?_,?_⟩
 ·rw [h.low.neg];have:=h.pos;simp;omega
 ·intro e;have h1:=Bq q.natAbs;have:=h.pos;rw [e,val] at h1;omega
 ·rw [Bq,Bq];exact h.red
theorem Tk (w:World) (g1:Bool) (a1:Γ) (n1 c1:Nat) (p:Int) (g2:Bool) (a2:Γ) (n2 c2:Nat) (q:Int) (h:Bj w g1 a1 n1 c1 p g2 a2 n2 c2 q) (hs:n2<35184372088829) (hb1:n1<35184372088829) :
  Θ 91 #[.agg #[.bool g1,.slice a1 n1 c1,.bool g2,.slice a2 n2 c2]] w fun e w'=>e=.returned (.agg #[.bool g1,.slice a1 n1 c1,.bool g2,.slice a2 n2 c2])∧Below w.heap.size w w':=by
 have HB:=Ac w.heap.size w;have HO:=Ae h.ok;go_enter Tryz.func91,Tryz.ntmps91;go_wp2_with fail;refine (Ep _ _ _ _ _ _ (h.top.rd.keep qF) _ _ _ _ _ (h.low.rd.keep qF) hs hb1 true ⟨fun _=>rfl,fun _=>HO.out⟩).mono ?_;rintro e w1 ⟨rfl,hb⟩;obtain ⟨hc,hf⟩:=Bl hb;have hz:=hb.size;(try simp only [Aj,Ak] at hz);replace HB:=zI w hb;obtain ⟨s0_0,s0_1⟩:=qZ hc (w.heap.size) (.bool g1) (.slice a1 n1 c1);obtain ⟨s0_2,s0_3⟩:=zD hc (w.heap.size) (.bool g2) (.slice a2 n2 c2);obtain ⟨s1_0,s1_1⟩:=zE hc (w.heap.size+1);obtain ⟨s1_2,s1_3⟩:=zD hc (w.heap.size+1) (.bool false) (.slice none 0 0);obtain ⟨s1_0,s1_1⟩:=zE hc (w.heap.size+1);obtain ⟨s1_2,s1_3⟩:=zD hc (w.heap.size+1) (.bool false) (.slice none 0 0);obtain ⟨f1_0,f1_1⟩:=zF hf (w.heap.size+1);obtain ⟨f1_2,f1_3⟩:=zG hf (w.heap.size+1);have hk0:w.heap.size<w1.heap.size:=by omega
 have hk1:w.heap.size+1<w1.heap.size:=by omega
 clear hc hf hb;go_wp2_with fail;refine bodyPost_ret (v:=.agg #[.bool g1,.slice a1 n1 c1,.bool g2,.slice a2 n2 c2]) (by simp [results,Tryz.results91,go_sem,s1_0,s1_1,s1_2,s1_3]) rfl ?_;exact ⟨rfl,by go_grown⟩
theorem Gd (w:World) (g1:Bool) (a1:Γ) (n1 c1:Nat) (p:Int) (g2:Bool) (a2:Γ) (n2 c2:Nat) (q:Int) (h:Bj w g1 a1 n1 c1 p g2 a2 n2 c2 q) (hs:n2<35184372088829) (hb1:n1<35184372088829) :
  Θ 98 #[.agg #[.bool g1,.slice a1 n1 c1,.bool g2,.slice a2 n2 c2]] w fun e w'=>e=.returned (.int .i64 (Bz p 0))∧Below w.heap.size w w':=by
 have HB:=Ac w.heap.size w;go_enter Tryz.func98,Tryz.ntmps98;go_wp2_with fail;refine (Tk _ _ _ _ _ _ _ _ _ _ _ (h.keep qF) hs hb1).mono ?_;rintro e w1 ⟨rfl,hb⟩;obtain ⟨hc,hf⟩:=Bl hb;have hz:=hb.size;(try simp only [Aj,Ak] at hz);replace HB:=zI w hb
 
 clear hc hf hb;go_wp2_with fail;refine (La _ _ _ _ _ _ (h.top.keep qF)).mono ?_;rintro e w2 ⟨rfl,hb⟩;obtain ⟨hc,hf⟩:=Bl hb;have hz:=hb.size;(try simp only [Aj,Ak] at hz);replace HB:=zI w hb
 
 clear hc hf hb;go_wp2_with fail;go_ret;exact ⟨rfl,HB⟩
def Eo (p q:Int):List UInt8:=Lib.itoa p++(if q=1 then [] else 47::Lib.itoa q)
theorem Nu {w:World} {g:Bool} {a:Γ} {n c:Nat} {z:Int} (h:Bh w g a n c z):(Lib.itoa z).length≤9*n+2:=by
 have h1:=Ez (dg z.natAbs) (Ew _);rw [Bq,h.rd.len,show (1000000000:Nat)=10 ^ 9 from rfl,←Nat.pow_mul] at h1;have h2:z.natAbs<10 ^ (9*n+1):=Nat.lt_of_lt_of_le h1 (Nat.pow_le_pow_right qA qA);have h3:=(Rf (9*n) z.natAbs h2).2;rw [Lib.itoa]
 split
 ·simp only [List.length_cons];omega
 ·rw [show z.toNat=z.natAbs by omega];omega
theorem xT (w:World) (g1:Bool) (a1:Γ) (n1 c1:Nat) (p:Int) (g2:Bool) (a2:Γ) (n2 c2:Nat) (q:Int) (h:Bj w g1 a1 n1 c1 p g2 a2 n2 c2 q) (hs:n2≤1000000) (hb1:n1≤1000000) (hT:Tab w) :
  Θ 35 #[.agg #[.bool g1,.slice a1 n1 c1,.bool g2,.slice a2 n2 c2]] w (Fo w (Eo p q)):=by
 have HB:=Ac w.heap.size w;have hl1:=Nu h.top;have hl2:=Nu h.low;go_enter Tryz.func35,Tryz.ntmps35;go_wp2_with fail;refine (Tk _ _ _ _ _ _ _ _ _ _ _ (h.keep qF) qA qA).mono ?_;rintro e w1 ⟨rfl,hb⟩;obtain ⟨hc,hf⟩:=Bl hb;have hz:=hb.size;(try simp only [Aj,Ak] at hz);replace HB:=zI w hb;obtain ⟨s0_0,s0_1⟩:=qZ hc (w.heap.size) (.bool g1) (.slice a1 n1 c1);obtain ⟨s0_2,s0_3⟩:=zD hc (w.heap.size) (.bool g2) (.slice a2 n2 c2);have f0_0:w1.frozen? ⟨w.heap.size,0,none⟩=false:=(hf _ _ qB).trans qL;have f0_1:w1.frozen? ⟨w.heap.size,1,none⟩=false:=(hf _ _ qB).trans qL;have f0_2:w1.frozen? ⟨w.heap.size,2,none⟩=false:=(hf _ _ qB).trans qL;have f0_3:w1.frozen? ⟨w.heap.size,3,none⟩=false:=(hf _ _ qB).trans qL;clear hc hf hb;have hk:w.heap.size<w1.heap.size:=hz;go_wp2_with fail;have HB2:Below w.heap.size w ((((w1.setCell ⟨w.heap.size,0,none⟩ (.bool g1)).setCell ⟨w.heap.size,1,none⟩ (.slice a1 n1 c1)).setCell ⟨w.heap.size,2,none⟩ (.bool g2)).setCell ⟨w.heap.size,3,none⟩ (.slice a2 n2 c2)):=by go_grown
 have e2:((((w1.setCell ⟨w.heap.size,0,none⟩ (.bool g1)).setCell ⟨w.heap.size,1,none⟩ (.slice a1 n1 c1)).setCell ⟨w.heap.size,2,none⟩ (.bool g2)).setCell ⟨w.heap.size,3,none⟩ (.slice a2 n2 c2)).cell? ⟨w.heap.size,2,none⟩=some (.bool g2):=by simp [*,go_sem]
 have e3:((((w1.setCell ⟨w.heap.size,0,none⟩ (.bool g1)).setCell ⟨w.heap.size,1,none⟩ (.slice a1 n1 c1)).setCell ⟨w.heap.size,2,none⟩ (.bool g2)).setCell ⟨w.heap.size,3,none⟩ (.slice a2 n2 c2)).cell? ⟨w.heap.size,3,none⟩=some (.slice a2 n2 c2):=by simp [*,go_sem]
 generalize ((((w1.setCell ⟨w.heap.size,0,none⟩ (.bool g1)).setCell ⟨w.heap.size,1,none⟩ (.slice a1 n1 c1)).setCell ⟨w.heap.size,2,none⟩ (.bool g2)).setCell ⟨w.heap.size,3,none⟩ (.slice a2 n2 c2))=w2 at *;clear s0_0 s0_1 s0_2 s0_3 f0_0 f0_1 f0_2 f0_3 HB;refine (lR _ _ _ _ _ _ (h.top.keep HB2) (hT.keep HB2) hb1).mono ?_;rintro e w3 ⟨rfl,hb3⟩;have e2:=Bc hb3 e2;have e3:=Bc hb3 e3;have HB3:=HB2.trans (hb3.mono HB2.size);go_wp2_with fail;refine (bN _ _ _ _ _ _ (h.low.keep HB3)).mono ?_;rintro e w4 ⟨rfl,hb4⟩;have e2:=Bc hb4 e2;have e3:=Bc hb4 e3;have HB4:=HB3.trans (hb4.mono HB3.size);by_cases hq:q=1
 ·have HQ:=Ae hq;rw [decide_eq_true hq];clear hq;go_wp2_with fail;go_ret;exact ⟨by rw [Eo,if_pos HQ.out,List.append_nil];rfl,HB4⟩
 ·have HQ:=Ae hq;rw [decide_eq_false hq];clear hq;go_wp2_with fail;refine (lR _ _ _ _ _ _ (h.low.keep HB4) (hT.keep HB4) qA).mono ?_;rintro e w5 ⟨rfl,hb5⟩;have HB5:=HB4.trans (hb5.mono HB4.size);have hcat1:(⟨#[47]⟩:ByteArray).size+(⟨(Lib.itoa q).toArray⟩:ByteArray).size≤9223372036854775807:=by show 1+(Lib.itoa q).length≤_;omega
  have happ1:((⟨#[47]⟩:ByteArray)++(⟨(Lib.itoa q).toArray⟩:ByteArray))=⟨(47::Lib.itoa q).toArray⟩:=Hc [47] _;have hcat2:(⟨(Lib.itoa p).toArray⟩:ByteArray).size+(⟨(47::Lib.itoa q).toArray⟩:ByteArray).size≤9223372036854775807:=by rw [Jz,Jz,List.length_cons];omega
  have happ2:((⟨(Lib.itoa p).toArray⟩:ByteArray)++(⟨(47::Lib.itoa q).toArray⟩:ByteArray))=⟨(Lib.itoa p++47::Lib.itoa q).toArray⟩:=Hc _ _;go_wp2_with fail;go_ret;exact ⟨by rw [Eo,if_neg HQ.out];rfl,HB5⟩
def Iq (f g:Nat→Int):Int:=if f 0≠g 0 then Bz (f 0) (g 0) else if f 1≠g 1 then Bz (f 1) (g 1) else if f 2≠g 2 then Bz (f 2) (g 2) else if f 3≠g 3 then Bz (f 3) (g 3) else 0
theorem tZ {f g:Nat→Int} {k:Nat} (hk:k<4) (h:∀j,j<k→f j=g j) (hne:f k≠g k):Iq f g=Bz (f k) (g k):=by
 unfold Iq
 match k,hk with
 | 0,_=>rw [if_pos hne]
 | 1,_=>rw [if_neg (by simp [h 0 qA]),if_pos hne]
 | 2,_=>rw [if_neg (by simp [h 0 qA]),if_neg (by simp [h 1 qA]),if_pos hne]
 | 3,_=>rw [if_neg (by simp [h 0 qA]),if_neg (by simp [h 1 qA]),if_neg (by simp [h 2 qA]),if_pos hne]
theorem wN {f g:Nat→Int} (h:∀j,j<4→f j=g j):Iq f g=0:=by
 unfold Iq;rw [if_neg (by simp [h 0 qA]),if_neg (by simp [h 1 qA]),if_neg (by simp [h 2 qA]),if_neg (by simp [h 3 qA])]
theorem Kj (w:World) (b b':Nat) (f g:Nat→Int) (hf:∀i,i<4→w.cell? ⟨b,i,none⟩=some (.int .u16 (f i))) (hg:∀i,i<4→w.cell? ⟨b',i,none⟩=some (.int .u16 (g i))) :
  Θ 295 #[.slice (some ⟨b,0,none⟩) 4 4,.slice (some ⟨b',0,none⟩) 4 4] w fun e w'=>e=.returned (.int .i64 (Iq f g))∧w=w':=by
 go_enter Tryz.func295,Tryz.ntmps295;have HF:=Ae hf;have HG:=Ae hg;clear hf hg;go_wp2;go_loopw [11] (fun v wr=>∃k:Nat,k≤4∧v=.int .i64 k∧w=wr∧Hid (∀j,j<k→f j=g j)) (fun v _=>4-(intOf v).toNat)
 case atStart=>exact ⟨0,by omega,rfl,rfl,Ae (fun j hj=>by omega)⟩
 case round =>
  obtain ⟨k,hk,rfl,rfl,he⟩:=hrel;by_cases hlt:k<4
  ·have c1:=HF.out k hlt;have c2:=HG.out k hlt;by_cases hq:f k=g k
   ·have hc0:Bz (f k) (g k)=0:=by rw [hq,Ev]
    have HQ:=Ae hq;clear hq;go_wp2_with (go_at_call 344;refine (Qp _ _ _).mono ?_;rintro e w1 ⟨rfl,rfl⟩;rw [hc0]);go_roundw
    case rel=>exact ⟨k+1,by omega,by simp,by first|rfl|trivial,Ae (fun j hj=>by
     rcases Nat.lt_or_ge j k with h|h
     ·exact he.out j h
     ·obtain rfl:j=k:=by omega
      exact HQ.out)⟩
    case measure=>(first|(simp [intOf];omega)|(simp [intOf];done))
   ·have hc0:(Bz (f k) (g k)==0)=false:=by rw [beq_eq_false_iff_ne];exact fun e=>hq (Ht.1 e)
    have HQ:=Ae hq;clear hq;go_wp2_with (go_at_call 344;refine (Qp _ _ _).mono ?_;rintro e w1 ⟨rfl,rfl⟩);go_ret;exact ⟨by rw [tZ hlt he.out HQ.out];rfl,rfl⟩
  ·obtain rfl:k=4:=by omega
   go_wp2;go_ret;exact ⟨by rw [wN he.out];rfl,rfl⟩
theorem vY (W:World) (B clock:Nat) (es:Array MapEntry) (key:Int) (v:Value) (hb:W.heap[B]? = some (.map es clock)) (hf:Instr.findNow (.int .u8) (.int .u8 key) es.toList 0=some none) :
  (Instr.mapUpdate 271 (.map (some B)) (.int .u8 key) v).run Tryz.prog W=.ok () (W.putObj B (.map (es.push { key:=.int .u8 key,val:=v,born:=clock }) (clock+1))):=by
 have hc:(Instr.checkKey false 10000 214 (.int .u8 key)).run Tryz.prog W=.ok () W:=MapKept.run_checkKey (k:=.int .u8 key) Tryz.underlying214 (by simp [MapKept.IsKey]) false 9999;simp [Instr.mapUpdate,run_underlying Tryz.underlying271,MapKept.run_getObj_map hb,hc,MapKept.run_findKey Tryz.underlying214 hf,MapKept.run_setObj_map _ hb,Result.andThen,World.putObj]
theorem yC (W:World) (B clock:Nat) (es:Array MapEntry) (key:Int) (hb:W.heap[B]? = some (.map es clock)) (hf:Instr.findNow (.int .u8) (.int .u8 key) es.toList 0=some none) :
  (Instr.lookup 271 (.map (some B)) (.int .u8 key) false).run Tryz.prog W=.ok (.slice none 0 0) W:=by
 have hc:(Instr.checkKey es.isEmpty 10000 214 (.int .u8 key)).run Tryz.prog W=.ok () W:=MapKept.run_checkKey (k:=.int .u8 key) Tryz.underlying214 (by simp [MapKept.IsKey]) _ 9999;simp [Instr.lookup,run_underlying Tryz.underlying271,MapKept.run_getObj_map hb,hc,MapKept.run_findKey Tryz.underlying214 hf,Result.andThen,Tryz.zeroValue270]
theorem Lq {B:Nat} {w w':World} {r:Nat} (o:Obj) (h:Below B w w') (hr:B≤r):Below B w (w'.putObj r o) :=
 ⟨h.os,h.tape,h.output,by show w.heap.size≤(w'.heap.setIfInBounds r o).size;rw [Array.size_setIfInBounds];exact h.size,fun k hk=>by rw [World.putObj_heap_other qA];exact h.block k hk⟩
theorem Fu (w:World) (r:Nat) (o:Obj):(w.putObj r o).heap.size=w.heap.size:=by simp [World.putObj]
theorem lV (w:World) :
  Θ 228 #[] w fun e w'=>(∃B es clock,e=.returned (.map (some B))∧w'.heap[B]? = some (.map es clock)∧Instr.findNow (.int .u8) (.int .u8 0) es.toList 0=some none)∧Below w.heap.size w w':=by
 have hmm:=@run_makeMap Tryz.prog;have hb1:((w.alloc (.map #[] 0)).alloc (.cells #[.func (.func 293) #[] #[],.func (.func 229) #[] #[]] 150)).heap[w.heap.size]? = some (.map #[] 0):=by
  rw [Below.heap_alloc _ _ _ qG];exact World.alloc_heap_new w _
 have q1:=vY _ _ _ _ 1 (.slice (some ⟨w.heap.size+1,0,none⟩) 2 2) hb1 rfl;have HB1:Below w.heap.size w ((w.alloc (.map #[] 0)).alloc (.cells #[.func (.func 293) #[] #[],.func (.func 229) #[] #[]] 150)):=by go_grown
 have hz1:((w.alloc (.map #[] 0)).alloc (.cells #[.func (.func 293) #[] #[],.func (.func 229) #[] #[]] 150)).heap.size=w.heap.size+2:=by simp
 have hb2:((((w.alloc (.map #[] 0)).alloc (.cells #[.func (.func 293) #[] #[],.func (.func 229) #[] #[]] 150)).putObj w.heap.size (.map #[{ key:=.int .u8 1,val:=.slice (some ⟨w.heap.size+1,0,none⟩) 2 2,born:=0 }] 1)).alloc (.cells #[.func (.func 293) #[] #[],.func (.func 294) #[] #[]] 150)).heap[w.heap.size]? = some (.map #[{ key:=.int .u8 1,val:=.slice (some ⟨w.heap.size+1,0,none⟩) 2 2,born:=0 }] 1):=by
  rw [Below.heap_alloc _ _ _ (by rw [Fu];omega),Bb qA]
 have q2:=vY _ _ _ _ 2 (.slice (some ⟨w.heap.size+2,0,none⟩) 2 2) hb2 rfl;have HB2:Below w.heap.size w ((((w.alloc (.map #[] 0)).alloc (.cells #[.func (.func 293) #[] #[],.func (.func 229) #[] #[]] 150)).putObj w.heap.size (.map #[{ key:=.int .u8 1,val:=.slice (some ⟨w.heap.size+1,0,none⟩) 2 2,born:=0 }] 1)).alloc (.cells #[.func (.func 293) #[] #[],.func (.func 294) #[] #[]] 150)):=Below.alloc (Lq _ HB1 (Ad _)) (by rw [Fu];omega) _;have hz2:w.heap.size<((((w.alloc (.map #[] 0)).alloc (.cells #[.func (.func 293) #[] #[],.func (.func 229) #[] #[]] 150)).putObj w.heap.size (.map #[{ key:=.int .u8 1,val:=.slice (some ⟨w.heap.size+1,0,none⟩) 2 2,born:=0 }] 1)).alloc (.cells #[.func (.func 293) #[] #[],.func (.func 294) #[] #[]] 150)).heap.size:=by rw [Aj,Fu];omega
 go_enter Tryz.func228,Tryz.ntmps228;go_wp2_with fail;go_ret;exact ⟨⟨w.heap.size,_,_,rfl,Bb hz2,rfl⟩,Lq _ HB2 (Ad _)⟩
theorem iJ (w:World) (x0 x1 x2 x3 y0 y1 y2 y3:Int) (f g:Nat→Int) (f0:f 0=x0) (f1:f 1=x1) (f2:f 2=x2) (f3:f 3=x3) (g0:g 0=y0) (g1:g 1=y1) (g2:g 2=y2) (g3:g 3=y3) :
  Θ 229 #[.agg #[.int .u16 x0,.int .u16 x1,.int .u16 x2,.int .u16 x3],.agg #[.int .u16 y0,.int .u16 y1,.int .u16 y2,.int .u16 y3]] w fun e w'=>e=.returned (.int .i64 (Iq f g))∧Below w.heap.size w w':=by
 have HB:=Ac w.heap.size w;go_enter Tryz.func229,Tryz.ntmps229;go_wp2_with fail;have HF:Hid (∀i,i<4→((w.alloc (.cells #[.int .u16 x0,.int .u16 x1,.int .u16 x2,.int .u16 x3] 76)).alloc (.cells #[.int .u16 y0,.int .u16 y1,.int .u16 y2,.int .u16 y3] 76)).cell? ⟨w.heap.size,i,none⟩=some (.int .u16 (f i))):=Ae (fun i hi=>by
  match i,hi with
  | 0,_=>rw [f0];simp [go_sem]
  | 1,_=>rw [f1];simp [go_sem]
  | 2,_=>rw [f2];simp [go_sem]
  | 3,_=>rw [f3];simp [go_sem])
 have HG:Hid (∀i,i<4→((w.alloc (.cells #[.int .u16 x0,.int .u16 x1,.int .u16 x2,.int .u16 x3] 76)).alloc (.cells #[.int .u16 y0,.int .u16 y1,.int .u16 y2,.int .u16 y3] 76)).cell? ⟨w.heap.size+1,i,none⟩=some (.int .u16 (g i))):=Ae (fun i hi=>by
  match i,hi with
  | 0,_=>rw [g0];simp [go_sem]
  | 1,_=>rw [g1];simp [go_sem]
  | 2,_=>rw [g2];simp [go_sem]
  | 3,_=>rw [g3];simp [go_sem])
 have HB2:Below w.heap.size w ((w.alloc (.cells #[.int .u16 x0,.int .u16 x1,.int .u16 x2,.int .u16 x3] 76)).alloc (.cells #[.int .u16 y0,.int .u16 y1,.int .u16 y2,.int .u16 y3] 76)):=by go_grown
 clear f0 f1 f2 f3 g0 g1 g2 g3;generalize ((w.alloc (.cells #[.int .u16 x0,.int .u16 x1,.int .u16 x2,.int .u16 x3] 76)).alloc (.cells #[.int .u16 y0,.int .u16 y1,.int .u16 y2,.int .u16 y3] 76))=w1 at *;go_quiet (((first|(go_at_call 295;exact Ga (Kj _ _ _ f g HF.out HG.out))|(go_at_call 295;exact E8 (Kj _ _ _ f g HF.out HG.out)))));go_wp2_with fail;go_ret;exact ⟨rfl,Bu _ HB2⟩
def Dt (x0 x1 x2 x3:Int):Nat→Int
 | 0=>x0
 | 1=>x1
 | 2=>x2
 | _=>x3
theorem Abq (w:World) (x0 x1 x2 x3 y0 y1 y2 y3:Int) :
  Θ 169 #[.int .u8 0,.agg #[.int .u16 x0,.int .u16 x1,.int .u16 x2,.int .u16 x3],.agg #[.int .u16 y0,.int .u16 y1,.int .u16 y2,.int .u16 y3]] w fun e w'=>e=.returned (.int .i64 (Iq (Dt x0 x1 x2 x3) (Dt y0 y1 y2 y3)))∧Below w.heap.size w w':=by
 have HB:=Ac w.heap.size w;go_enter Tryz.func169,Tryz.ntmps169;go_wp2_with fail;refine (lV _).mono ?_;rintro e w1 ⟨⟨B,es,clock,rfl,hes,hfn⟩,hb⟩;obtain ⟨hc,hf⟩:=Bl hb;have hz:=hb.size;(try simp only [Aj,Ak] at hz);replace HB:=zI w hb;have s0:∀i,i<4→w1.cell? ⟨w.heap.size,i,none⟩=some (.int .u16 (Dt x0 x1 x2 x3 i)):=fun i hi=>(hc _ _ qB).trans (by
  match i,hi with
  | 0,_=>simp [go_sem,Dt]
  | 1,_=>simp [go_sem,Dt]
  | 2,_=>simp [go_sem,Dt]
  | 3,_=>simp [go_sem,Dt])
 have s1:∀i,i<4→w1.cell? ⟨w.heap.size+1,i,none⟩=some (.int .u16 (Dt y0 y1 y2 y3 i)):=fun i hi=>(hc _ _ qB).trans (by
  match i,hi with
  | 0,_=>simp [go_sem,Dt]
  | 1,_=>simp [go_sem,Dt]
  | 2,_=>simp [go_sem,Dt]
  | 3,_=>simp [go_sem,Dt])
 have s00:=s0 0 qA;have s01:=s0 1 qA;have s02:=s0 2 qA;have s03:=s0 3 qA;have s10:=s1 0 qA;have s11:=s1 1 qA;have s12:=s1 2 qA;have s13:=s1 3 qA;simp only [Dt] at s00 s01 s02 s03 s10 s11 s12 s13;have q1:=yC w1 B clock es 0 hes hfn;clear s0 s1 hc hf hes hfn;go_wp2_with fail;go_loop [14] (fun v=>v=.int .i64 0) (fun _=>0)
 case atStart=>rfl
 case round =>
  subst hrel;go_wp2_with fail;refine (iJ _ _ _ _ _ _ _ _ _ (Dt x0 x1 x2 x3) (Dt y0 y1 y2 y3) rfl rfl rfl rfl rfl rfl rfl rfl).mono ?_;rintro e w2 ⟨rfl,hb2⟩;go_wp2_with fail;go_ret;exact ⟨rfl,HB.trans (hb2.mono HB.size)⟩
theorem W6 (w:World) (x0 x1 x2 x3 y0 y1 y2 y3:Int) :
  Θ 99 #[.agg #[.int .u16 x0,.int .u16 x1,.int .u16 x2,.int .u16 x3],.agg #[.int .u16 y0,.int .u16 y1,.int .u16 y2,.int .u16 y3]] w fun e w'=>e=.returned (.int .i64 (Iq (Dt y0 y1 y2 y3) (Dt x0 x1 x2 x3)))∧Below w.heap.size w w':=by
 have HB:=Ac w.heap.size w;go_enter Tryz.func99,Tryz.ntmps99;exact qCz
def Tm.mono (t:Tm):Nat→Int:=Dt t.m0 t.m1 t.m2 t.m3
def TOk (t:Tm):Prop:=FOk t.g1 t.d1 t.g2 t.d2∧t.d1≠[]
def okAt (p:Nat→Tm) (j:Nat):Prop:=TOk (p j)∧(0<j→Iq (p j).mono (p (j-1)).mono<0)
def POk (p:Nat→Tm) (n:Nat):Prop:=∀j,j<n→okAt p j
theorem Mi {w:World} {g1:Bool} {a1:Γ} {n1 c1:Nat} {d1:Ξ} {g2:Bool} {a2:Γ} {n2 c2:Nat} {d2:Ξ} (h1:RdL w a1 n1 c1 d1) (h2:RdL w a2 n2 c2 d2) (h:FOk g1 d1 g2 d2) :
  Bj w g1 a1 n1 c1 (if g1 then -(val d1:Int) else val d1) g2 a2 n2 c2 (val d2):=by
 obtain ⟨o1,o2,e2,hne,hg⟩:=h;have N2:=Gz h2 o2;rw [e2] at N2;simp only [Bool.false_eq_true,if_false] at N2;refine ⟨Gz h1 o1,by rw [e2];exact N2,?_,?_⟩
 ·have:=Cv o2.1 hne;omega
 ·rw [←hg]
  cases g1<;>simp [Int.gcd]
theorem X3 {g:Bool} {d:Ξ} (h:Qz g d):(if g then -(val d:Int) else (val d:Int))=0↔d=[]:=by
 constructor
 ·intro h1;apply Decidable.byContradiction;intro hne;have:=Cv h.1 hne
  cases g<;>simp at h1<;>omega
 ·rintro rfl
  cases g<;>simp [val]
theorem Y5 (w:World) (a:Γ) (n c:Nat) (p:Nat→Tm) (hp:RdP w a n c p) (hsm:∀k,k<n→(p k).n1≤35184372087808∧(p k).n2≤35184372087808) (r:Bool) (hr:POk p n↔r=true) :
  Θ 41 #[.slice a n c] w fun e w'=>e=.returned (.bool r)∧Below w.heap.size w w':=by
 have HB:=Ac w.heap.size w;have hn:=hp.few;have HR:=Ae hr;have HS:=Ae hsm;clear hr hsm;go_enter Tryz.func41,Tryz.ntmps41;go_wp2_with fail;go_loopw [7] (fun v wr=>∃k:Nat,k≤n∧v=.int .i64 k∧Below w.heap.size w wr∧Hid (POk p k)) (fun v _=>n-(intOf v).toNat)
 case atStart=>exact ⟨0,Ba _,rfl,HB,Ae (fun j hj=>absurd hj (Nat.not_lt_zero _))⟩
 case round =>
  obtain ⟨k,hk,rfl,HBr,he⟩:=hrel;clear HB;by_cases hlt:k<n
  ·obtain ⟨b,o,rfl,hcl⟩:=hp.cell.resolve_left qA;have hpr:=hp.keep HBr;have HT:=hpr.tm k hlt;obtain ⟨e0,e1,e2,e3,e4,e5,e6,e7⟩:=hpr.at hlt;have hs:=HS.out k hlt;have HCL:=Ae hcl;clear hcl
   cases k with
   | zero =>
    obtain ⟨t,ht⟩:∃t,t=p 0:=⟨_,rfl⟩;rw [←ht] at HT e0 e1 e2 e3 e4 e5 e6 e7 hs;have HTK:=Ae ht;clear ht;simp only [Nat.zero_mul,Nat.add_zero] at e0 e1 e2 e3 e4 e5 e6 e7;have hszw:=HBr.size;go_upto_region 4 with fail
    have HB1:Below w.heap.size w (wr.alloc (.cells #[.bool t.g1,.slice t.a1 t.n1 t.c1,.bool t.g2,.slice t.a2 t.n2 t.c2,.int .u16 t.m0,.int .u16 t.m1,.int .u16 t.m2,.int .u16 t.m3] 79)):=by go_grown
    have c0:(wr.alloc (.cells #[.bool t.g1,.slice t.a1 t.n1 t.c1,.bool t.g2,.slice t.a2 t.n2 t.c2,.int .u16 t.m0,.int .u16 t.m1,.int .u16 t.m2,.int .u16 t.m3] 79)).cell? ⟨wr.heap.size,0,none⟩=some (.bool t.g1):=by simp [go_sem]
    have c1:(wr.alloc (.cells #[.bool t.g1,.slice t.a1 t.n1 t.c1,.bool t.g2,.slice t.a2 t.n2 t.c2,.int .u16 t.m0,.int .u16 t.m1,.int .u16 t.m2,.int .u16 t.m3] 79)).cell? ⟨wr.heap.size,1,none⟩=some (.slice t.a1 t.n1 t.c1):=by simp [go_sem]
    have c2:(wr.alloc (.cells #[.bool t.g1,.slice t.a1 t.n1 t.c1,.bool t.g2,.slice t.a2 t.n2 t.c2,.int .u16 t.m0,.int .u16 t.m1,.int .u16 t.m2,.int .u16 t.m3] 79)).cell? ⟨wr.heap.size,2,none⟩=some (.bool t.g2):=by simp [go_sem]
    have c3:(wr.alloc (.cells #[.bool t.g1,.slice t.a1 t.n1 t.c1,.bool t.g2,.slice t.a2 t.n2 t.c2,.int .u16 t.m0,.int .u16 t.m1,.int .u16 t.m2,.int .u16 t.m3] 79)).cell? ⟨wr.heap.size,3,none⟩=some (.slice t.a2 t.n2 t.c2):=by simp [go_sem]
    have c4:(wr.alloc (.cells #[.bool t.g1,.slice t.a1 t.n1 t.c1,.bool t.g2,.slice t.a2 t.n2 t.c2,.int .u16 t.m0,.int .u16 t.m1,.int .u16 t.m2,.int .u16 t.m3] 79)).cell? ⟨wr.heap.size,4,none⟩=some (.int .u16 t.m0):=by simp [go_sem]
    have c5:(wr.alloc (.cells #[.bool t.g1,.slice t.a1 t.n1 t.c1,.bool t.g2,.slice t.a2 t.n2 t.c2,.int .u16 t.m0,.int .u16 t.m1,.int .u16 t.m2,.int .u16 t.m3] 79)).cell? ⟨wr.heap.size,5,none⟩=some (.int .u16 t.m1):=by simp [go_sem]
    have c6:(wr.alloc (.cells #[.bool t.g1,.slice t.a1 t.n1 t.c1,.bool t.g2,.slice t.a2 t.n2 t.c2,.int .u16 t.m0,.int .u16 t.m1,.int .u16 t.m2,.int .u16 t.m3] 79)).cell? ⟨wr.heap.size,6,none⟩=some (.int .u16 t.m2):=by simp [go_sem]
    have c7:(wr.alloc (.cells #[.bool t.g1,.slice t.a1 t.n1 t.c1,.bool t.g2,.slice t.a2 t.n2 t.c2,.int .u16 t.m0,.int .u16 t.m1,.int .u16 t.m2,.int .u16 t.m3] 79)).cell? ⟨wr.heap.size,7,none⟩=some (.int .u16 t.m3):=by simp [go_sem]
    have hb1:Below wr.heap.size wr (wr.alloc (.cells #[.bool t.g1,.slice t.a1 t.n1 t.c1,.bool t.g2,.slice t.a2 t.n2 t.c2,.int .u16 t.m0,.int .u16 t.m1,.int .u16 t.m2,.int .u16 t.m3] 79)):=by go_grown
    replace HT:=HT.keep hb1;generalize (wr.alloc (.cells #[.bool t.g1,.slice t.a1 t.n1 t.c1,.bool t.g2,.slice t.a2 t.n2 t.c2,.int .u16 t.m0,.int .u16 t.m1,.int .u16 t.m2,.int .u16 t.m3] 79))=w1 at *;generalize wr.heap.size=B at *;have hs1:t.n1<35184372088829:=by omega
    have hs2:t.n2<35184372088829:=by omega
    replace c0:=Cn c0;replace c1:=Cn c1;replace c2:=Cn c2;replace c3:=Cn c3;replace c4:=Cn c4;replace c5:=Cn c5;replace c6:=Cn c6;replace c7:=Cn c7;clear hb1 hpr HBr;by_cases hF0:FOk t.g1 t.d1 t.g2 t.d2
    ·have hF:=Ae hF0;have HA:=Mi HT.top HT.low hF0;have hsz:=X3 hF0.1;generalize (if t.g1 then -(val t.d1:Int) else (val t.d1:Int))=z at *;clear hF0;by_cases hz0:z=0
     ·have hd0:=Ae (hsz.1 hz0);have hz:Bz z 0=0:=by rw [hz0];exact Ev 0
      have hr0:r=false:=by
       exact qDp
      subst hr0;clear hz0 hsz;(refine Ci qC qC ?_;(repeat (go_big_quiet_step (first|(go_at_call 60;exact G7 (Ep _ t.g1 t.a1 t.n1 t.c1 t.d1 (HT.top.keep (Subtype.property _)) t.g2 t.a2 t.n2 t.c2 t.d2 (HT.low.keep (Subtype.property _)) hs2 hs1 true ⟨fun _=>rfl,fun _=>hF.out⟩))|(go_at_call 98;exact G7 (Gd _ _ _ _ _ _ _ _ _ _ _ (HA.keep (Subtype.property _)) hs2 hs1)))));refine wpQuiet_nil ?_;intro _ hw0;obtain ⟨nq,hw0⟩:=hw0;subst hw0);exact qCb
     ·have hd0:=Ae (fun e=>hz0 (hsz.2 e));have hz:(Bz z 0==0)=false:=by rw [beq_eq_false_iff_ne];exact fun e=>hz0 (Ht.1 e)
      clear hz0 hsz;(refine Ci qC qC ?_;(repeat (go_big_quiet_step (first|(go_at_call 60;exact G7 (Ep _ t.g1 t.a1 t.n1 t.c1 t.d1 (HT.top.keep (Subtype.property _)) t.g2 t.a2 t.n2 t.c2 t.d2 (HT.low.keep (Subtype.property _)) hs2 hs1 true ⟨fun _=>rfl,fun _=>hF.out⟩))|(go_at_call 98;exact G7 (Gd _ _ _ _ _ _ _ _ _ _ _ (HA.keep (Subtype.property _)) hs2 hs1)))));refine wpQuiet_nil ?_;intro _ hw0;obtain ⟨nq,hw0⟩:=hw0;subst hw0);go_wp2_with fail;go_roundw
      case rel=>exact ⟨1,by omega,rfl,HB1.trans (nq.2.mono HB1.size),Ae (fun i hi=>by have h0:i=0:=qA;subst h0;exact ⟨by rw [←HTK.out];exact ⟨hF.out,hd0.out⟩,fun h=>absurd h qA⟩)⟩
      case measure=>simp [intOf];omega
    ·exact qAy
   | succ j =>
    obtain ⟨t,ht⟩:∃t,t=p (j+1):=⟨_,rfl⟩;rw [←ht] at HT e0 e1 e2 e3 e4 e5 e6 e7 hs;have HTK:=Ae ht;clear ht;have hszw:=HBr.size;have hjn:j<n:=by omega
    go_upto_region 4 with fail
    clear e0 e1 e2 e3 e4 e5 e6 e7;obtain ⟨_,_,_,_,e4,e5,e6,e7⟩:=hpr.at (show j<n by omega);obtain ⟨u,hu⟩:∃u,u=p j:=⟨_,rfl⟩;rw [←hu] at e4 e5 e6 e7;have HUK:=Ae hu;clear hu;have HB1:Below w.heap.size w (wr.alloc (.cells #[.bool t.g1,.slice t.a1 t.n1 t.c1,.bool t.g2,.slice t.a2 t.n2 t.c2,.int .u16 t.m0,.int .u16 t.m1,.int .u16 t.m2,.int .u16 t.m3] 79)):=by go_grown
    have c0:(wr.alloc (.cells #[.bool t.g1,.slice t.a1 t.n1 t.c1,.bool t.g2,.slice t.a2 t.n2 t.c2,.int .u16 t.m0,.int .u16 t.m1,.int .u16 t.m2,.int .u16 t.m3] 79)).cell? ⟨wr.heap.size,0,none⟩=some (.bool t.g1):=by simp [go_sem]
    have c1:(wr.alloc (.cells #[.bool t.g1,.slice t.a1 t.n1 t.c1,.bool t.g2,.slice t.a2 t.n2 t.c2,.int .u16 t.m0,.int .u16 t.m1,.int .u16 t.m2,.int .u16 t.m3] 79)).cell? ⟨wr.heap.size,1,none⟩=some (.slice t.a1 t.n1 t.c1):=by simp [go_sem]
    have c2:(wr.alloc (.cells #[.bool t.g1,.slice t.a1 t.n1 t.c1,.bool t.g2,.slice t.a2 t.n2 t.c2,.int .u16 t.m0,.int .u16 t.m1,.int .u16 t.m2,.int .u16 t.m3] 79)).cell? ⟨wr.heap.size,2,none⟩=some (.bool t.g2):=by simp [go_sem]
    have c3:(wr.alloc (.cells #[.bool t.g1,.slice t.a1 t.n1 t.c1,.bool t.g2,.slice t.a2 t.n2 t.c2,.int .u16 t.m0,.int .u16 t.m1,.int .u16 t.m2,.int .u16 t.m3] 79)).cell? ⟨wr.heap.size,3,none⟩=some (.slice t.a2 t.n2 t.c2):=by simp [go_sem]
    have c4:(wr.alloc (.cells #[.bool t.g1,.slice t.a1 t.n1 t.c1,.bool t.g2,.slice t.a2 t.n2 t.c2,.int .u16 t.m0,.int .u16 t.m1,.int .u16 t.m2,.int .u16 t.m3] 79)).cell? ⟨wr.heap.size,4,none⟩=some (.int .u16 t.m0):=by simp [go_sem]
    have c5:(wr.alloc (.cells #[.bool t.g1,.slice t.a1 t.n1 t.c1,.bool t.g2,.slice t.a2 t.n2 t.c2,.int .u16 t.m0,.int .u16 t.m1,.int .u16 t.m2,.int .u16 t.m3] 79)).cell? ⟨wr.heap.size,5,none⟩=some (.int .u16 t.m1):=by simp [go_sem]
    have c6:(wr.alloc (.cells #[.bool t.g1,.slice t.a1 t.n1 t.c1,.bool t.g2,.slice t.a2 t.n2 t.c2,.int .u16 t.m0,.int .u16 t.m1,.int .u16 t.m2,.int .u16 t.m3] 79)).cell? ⟨wr.heap.size,6,none⟩=some (.int .u16 t.m2):=by simp [go_sem]
    have c7:(wr.alloc (.cells #[.bool t.g1,.slice t.a1 t.n1 t.c1,.bool t.g2,.slice t.a2 t.n2 t.c2,.int .u16 t.m0,.int .u16 t.m1,.int .u16 t.m2,.int .u16 t.m3] 79)).cell? ⟨wr.heap.size,7,none⟩=some (.int .u16 t.m3):=by simp [go_sem]
    have hb1:Below wr.heap.size wr (wr.alloc (.cells #[.bool t.g1,.slice t.a1 t.n1 t.c1,.bool t.g2,.slice t.a2 t.n2 t.c2,.int .u16 t.m0,.int .u16 t.m1,.int .u16 t.m2,.int .u16 t.m3] 79)):=by go_grown
    have e4:=Bc hb1 e4;have e5:=Bc hb1 e5;have e6:=Bc hb1 e6;have e7:=Bc hb1 e7;replace HT:=HT.keep hb1;generalize (wr.alloc (.cells #[.bool t.g1,.slice t.a1 t.n1 t.c1,.bool t.g2,.slice t.a2 t.n2 t.c2,.int .u16 t.m0,.int .u16 t.m1,.int .u16 t.m2,.int .u16 t.m3] 79))=w1 at *;generalize wr.heap.size=B at *;have hs1:t.n1<35184372088829:=by omega
    have hs2:t.n2<35184372088829:=by omega
    replace c0:=Cn c0;replace c1:=Cn c1;replace c2:=Cn c2;replace c3:=Cn c3;replace c4:=Cn c4;replace c5:=Cn c5;replace c6:=Cn c6;replace c7:=Cn c7;replace e4:=Cn e4;replace e5:=Cn e5;replace e6:=Cn e6;replace e7:=Cn e7;clear hb1 hpr HBr;by_cases hF0:FOk t.g1 t.d1 t.g2 t.d2
    ·have hF:=Ae hF0;have HA:=Mi HT.top HT.low hF0;have hsz:=X3 hF0.1;generalize (if t.g1 then -(val t.d1:Int) else (val t.d1:Int))=z at *;clear hF0;by_cases hz0:z=0
     ·have hd0:=Ae (hsz.1 hz0);have hz:Bz z 0=0:=by rw [hz0];exact Ev 0
      have hr0:r=false:=by
       exact qDp
      subst hr0;clear hz0 hsz;(refine Ci qC qC ?_;(repeat (go_big_quiet_step (first|(go_at_call 60;exact G7 (Ep _ t.g1 t.a1 t.n1 t.c1 t.d1 (HT.top.keep (Subtype.property _)) t.g2 t.a2 t.n2 t.c2 t.d2 (HT.low.keep (Subtype.property _)) hs2 hs1 true ⟨fun _=>rfl,fun _=>hF.out⟩))|(go_at_call 98;exact G7 (Gd _ _ _ _ _ _ _ _ _ _ _ (HA.keep (Subtype.property _)) hs2 hs1))|(go_at_call 99;exact G7 (W6 _ _ _ _ _ _ _ _ _)))));refine wpQuiet_nil ?_;intro _ hw0;obtain ⟨nq,hw0⟩:=hw0;subst hw0);exact qCb
     ·have hd0:=Ae (fun e=>hz0 (hsz.2 e));have hz:(Bz z 0==0)=false:=by rw [beq_eq_false_iff_ne];exact fun e=>hz0 (Ht.1 e)
      clear hz0 hsz;by_cases hl0:Iq (Dt t.m0 t.m1 t.m2 t.m3) (Dt u.m0 u.m1 u.m2 u.m3)<0
      ·have hl:=Ae hl0;have hl1:decide (0≤Iq (Dt t.m0 t.m1 t.m2 t.m3) (Dt u.m0 u.m1 u.m2 u.m3))=false:=by rw [decide_eq_false_iff_not];omega
       clear hl0;(refine Ci qC qC ?_;(repeat (go_big_quiet_step (first|(go_at_call 60;exact G7 (Ep _ t.g1 t.a1 t.n1 t.c1 t.d1 (HT.top.keep (Subtype.property _)) t.g2 t.a2 t.n2 t.c2 t.d2 (HT.low.keep (Subtype.property _)) hs2 hs1 true ⟨fun _=>rfl,fun _=>hF.out⟩))|(go_at_call 98;exact G7 (Gd _ _ _ _ _ _ _ _ _ _ _ (HA.keep (Subtype.property _)) hs2 hs1))|(go_at_call 99;exact G7 (W6 _ _ _ _ _ _ _ _ _)))));refine wpQuiet_nil ?_;intro _ hw0;obtain ⟨nq,hw0⟩:=hw0;subst hw0);go_wp2_with fail;go_roundw
       case rel=>exact ⟨j+1+1,by omega,by simp,HB1.trans (nq.2.mono HB1.size),Ae (fun i hi=>by
       rcases Nat.lt_or_ge i (j+1) with h|h
       ·exact he.out i h
       ·obtain rfl:i=j+1:=by omega
        exact ⟨by rw [←HTK.out];exact ⟨hF.out,hd0.out⟩,fun _=>by rw [←HTK.out,Nat.add_sub_cancel,←HUK.out];exact hl.out⟩)⟩
       case measure=>simp [intOf];omega
      ·have hl1:decide (0≤Iq (Dt t.m0 t.m1 t.m2 t.m3) (Dt u.m0 u.m1 u.m2 u.m3))=true:=by rw [decide_eq_true_iff];omega
       have hr0:r=false:=by
        cases r
        ·rfl
        ·refine absurd ((HR.out.2 rfl _ hlt).2 qA) ?_;rw [←HTK.out,Nat.add_sub_cancel,←HUK.out];exact hl0
       subst hr0;clear hl0;(refine Ci qC qC ?_;(repeat (go_big_quiet_step (first|(go_at_call 60;exact G7 (Ep _ t.g1 t.a1 t.n1 t.c1 t.d1 (HT.top.keep (Subtype.property _)) t.g2 t.a2 t.n2 t.c2 t.d2 (HT.low.keep (Subtype.property _)) hs2 hs1 true ⟨fun _=>rfl,fun _=>hF.out⟩))|(go_at_call 98;exact G7 (Gd _ _ _ _ _ _ _ _ _ _ _ (HA.keep (Subtype.property _)) hs2 hs1))|(go_at_call 99;exact G7 (W6 _ _ _ _ _ _ _ _ _)))));refine wpQuiet_nil ?_;intro _ hw0;obtain ⟨nq,hw0⟩:=hw0;subst hw0);exact qCb
    ·exact qAy
  ·obtain rfl:k=n:=by omega
   have hr:=HR.out.1 he.out;subst hr;go_wp2_with fail;go_ret;exact ⟨rfl,HBr⟩
theorem E4 (w:World) (a:Γ) (n c:Nat) (p:Nat→Tm) (hp:RdP w a n c p) (hsm:∀k,k<n→(p k).n1≤1000000∧(p k).n2≤1000000) (r:Bool) (hr:POk p n↔r=true) :
  Θ 41 #[.slice a n c] w fun e w'=>e=.returned (.bool r)∧Below w.heap.size w w' :=
 Y5 w a n c p hp (fun k hk=>⟨Ah (hsm k hk).1 qA,Ah (hsm k hk).2 qA⟩) r hr
end Go.Proofs.YtnnhcbeiogaknaaGreatDoor
end
