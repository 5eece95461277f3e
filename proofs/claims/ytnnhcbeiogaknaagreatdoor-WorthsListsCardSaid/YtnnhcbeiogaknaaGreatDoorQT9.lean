/- Package fracs: unit, Check, of, Sign, Of, Text. -/
import Derived.Test.YtnnhcbeiogaknaaGreatDoorQT7
import Derived.Test.YtnnhcbeiogaknaaGreatDoorQT8
set_option linter.unusedSimpArgs false
set_option linter.unusedVariables false
set_option maxRecDepth 100000
set_option maxHeartbeats 4000000
section
namespace Go.Proofs.YtnnhcbeiogaknaaGreatDoor
open Go.RowKit
@[go_sem ↓] theorem xB (w:World) (g1:Bool) (a1:Option Addr) (n1 c1:Nat) (g2:Bool) (a2:Option Addr) (n2 c2:Nat) :
  (Instr.field 34 (.agg #[.bool g1,.slice a1 n1 c1,.bool g2,.slice a2 n2 c2]) 0).run Tryz.prog w=.ok (.agg #[.bool g1,.slice a1 n1 c1]) w:=by kernel_rfl
@[go_sem ↓] theorem xC (w:World) (g1:Bool) (a1:Option Addr) (n1 c1:Nat) (g2:Bool) (a2:Option Addr) (n2 c2:Nat) :
  (Instr.field 34 (.agg #[.bool g1,.slice a1 n1 c1,.bool g2,.slice a2 n2 c2]) 1).run Tryz.prog w=.ok (.agg #[.bool g2,.slice a2 n2 c2]) w:=by kernel_rfl
theorem G3 {x y:Int}:Bz x y=0↔x=y:=by
 unfold Bz
 split
 ·constructor<;>intro h<;>omega
 ·split
  ·simp [*]
  ·constructor<;>intro h<;>omega
theorem lW {x y:Int}:0<Bz x y↔y<x:=by
 unfold Bz
 split
 ·constructor<;>intro h<;>omega
 ·split
  ·constructor<;>intro h<;>omega
  ·constructor<;>intro h<;>omega
theorem Za (w:World) (g:Bool) (a:Option Addr) (n c:Nat) (z:Int) (h:Bg w g a n c z) :
  Calls Tryz.prog 93 #[.agg #[.bool g,.slice a n c]] w fun e w'=>e=.returned (.bool (decide (z=1)))∧Below w.heap.size w w':=by
 have HB:=Ac w.heap.size w;go_enter Tryz.func93,Tryz.ntmps93;go_wp2_with fail;go_region_held3 (fun W=>W.cell? ⟨w.heap.size,0,none⟩=some (.bool g)∧W.cell? ⟨w.heap.size,1,none⟩=some (.slice a n c)) (first|((try dsimp only);(repeat' apply Ay);all_goals (first|(with_reducible assumption)|(go_keep;done)|(simp [*,go_sem];done)))) (first
  | (go_at_call 40;(with_reducible refine (Pr _ 1 qA qA).mono ?_);rintro e w2 ⟨g2,a2,n2,c2,rfl,hm,_,hb⟩;obtain ⟨hc,hf⟩:=Bl hb;have hz:=hb.size;(try simp only [Aj,Ak] at hz);replace HB:=zI w hb;obtain ⟨s0,s1⟩:=qZ hc (w.heap.size) (.bool g) (.slice a n c);clear hc hf)
  | (go_at_call 63;(with_reducible refine (Rt _ _ _ _ _ _ (h.keep qF) _ _ _ _ 1 (hm.keep qF)).mono ?_);rintro e w3 ⟨rfl,hb3⟩;have hz3:=hb3.size;replace HB:=zI w hb3;have s0':=Bb (hb3) (by first|assumption|(simp [*,go_sem];done):World.cell? _ ⟨w.heap.size,0,none⟩=some (.bool g));have s1':=Bb hb3 (by first|assumption|(simp [*,go_sem];done):World.cell? _ ⟨w.heap.size,1,none⟩=some (.slice a n c))))
 all_goals
  go_wp2_with fail;go_ret;refine ⟨?_,by go_grown⟩;by_cases h1:z=1
  ·rw [h1,Eo];rfl
  ·have h2:(Bz z 1==0)=false:=by rw [beq_eq_false_iff_ne];exact fun e=>h1 (G3.1 e)
   have h3:decide (z=1)=false:=by simp [h1]
   rw [h3];first
    | (show Ending.returned (.bool (Bz z 1==0))=_;rw [h2])
    | (simp [h2];done)
def FOk (g1:Bool) (d1:List Nat) (g2:Bool) (d2:List Nat):Prop:=Py g1 d1∧Py g2 d2∧g2=false∧d2≠[]∧Nat.gcd (val d1) (val d2)=1
theorem nI {g:Bool} {d:List Nat} (h:Py g d):0<(if g then -(val d:Int) else (val d:Int))↔g=false∧d≠[]:=by
 cases g
 ·simp only [Bool.false_eq_true,if_false,true_and];constructor
  ·intro h1 e;rw [e,val] at h1;omega
  ·intro h1;have:=Cs h.1 h1;omega
 ·simp only [if_true,Bool.true_eq_false,false_and,iff_false];omega
theorem FOk.gcd {g1:Bool} {d1:List Nat} {g2:Bool} {d2:List Nat}:Int.gcd (if g1 then -(val d1:Int) else (val d1:Int)) (if g2 then -(val d2:Int) else (val d2:Int))=Nat.gcd (val d1) (val d2):=by
 cases g1<;>cases g2<;>simp [Int.gcd]
theorem Eh (w:World) (g1:Bool) (a1:Option Addr) (n1 c1:Nat) (d1:List Nat) (h1:RdL w a1 n1 c1 d1) (g2:Bool) (a2:Option Addr) (n2 c2:Nat) (d2:List Nat) (h2:RdL w a2 n2 c2 d2) (hs:n2<35184372088829) (hb1:n1<35184372088829) (r:Bool) (hr:FOk g1 d1 g2 d2↔r=true) :
  Calls Tryz.prog 60 #[.agg #[.bool g1,.slice a1 n1 c1,.bool g2,.slice a2 n2 c2]] w fun e w'=>e=.returned (.bool r)∧Below w.heap.size w w':=by
 have HB:=Ac w.heap.size w;by_cases o1:Py g1 d1
 ·by_cases o2:Py g2 d2
  ·have N1:=Gj h1 o1;have N2:=Gj h2 o2;have hlow:=nI o2;have hgcd:=@FOk.gcd g1 d1 g2 d2;generalize (if g1 then -(val d1:Int) else (val d1:Int))=z1 at *;generalize (if g2 then -(val d2:Int) else (val d2:Int))=z2 at *;have O1:=Ae o1;have O2:=Ae o2;clear o1 o2;by_cases hp:0<z2
   ·have hsg:Bz z2 0=1:=Dy hp;have HP:=Ae (hlow.1 hp);clear hlow;have HR:=Ae hr;have HG:=Ae hgcd;clear hr hgcd;go_enter Tryz.func60,Tryz.ntmps60;go_wp2_with fail;refine (Cv _ _ _ _ _ d1 (h1.keep qF) true ⟨fun _=>rfl,fun _=>O1.out⟩).mono ?_;rintro e w1 ⟨rfl,hb⟩;obtain ⟨hc,hf⟩:=Bl hb;have hz:=hb.size;(try simp only [Aj,Ak] at hz);replace HB:=zI w hb;obtain ⟨s0_0,s0_1⟩:=qZ hc (w.heap.size) (.bool g1) (.slice a1 n1 c1);obtain ⟨s0_2,s0_3⟩:=zD hc (w.heap.size) (.bool g2) (.slice a2 n2 c2);clear hc hf hb;go_wp2_with fail;refine (Cv _ _ _ _ _ d2 (h2.keep qF) true ⟨fun _=>rfl,fun _=>O2.out⟩).mono ?_;rintro e w2 ⟨rfl,hb⟩;obtain ⟨hc,hf⟩:=Bl hb;have hz:=hb.size;(try simp only [Aj,Ak] at hz);replace HB:=zI w hb;obtain ⟨s0_0,s0_1⟩:=qZ hc (w.heap.size) (.bool g1) (.slice a1 n1 c1);obtain ⟨s0_2,s0_3⟩:=zD hc (w.heap.size) (.bool g2) (.slice a2 n2 c2);clear hc hf hb;go_wp2_with fail;refine (Kb _ _ _ _ _ z2 (N2.keep qF)).mono ?_;rintro e w3 ⟨rfl,hb⟩;obtain ⟨hc,hf⟩:=Bl hb;have hz:=hb.size;(try simp only [Aj,Ak] at hz);replace HB:=zI w hb;obtain ⟨s0_0,s0_1⟩:=qZ hc (w.heap.size) (.bool g1) (.slice a1 n1 c1);obtain ⟨s0_2,s0_3⟩:=zD hc (w.heap.size) (.bool g2) (.slice a2 n2 c2);clear hc hf hb;rw [hsg];go_wp2_with fail;refine (tQ _ _ _ _ _ z1 (N1.keep qF) _ _ _ _ z2 (N2.keep qF) hp hs hb1).mono ?_;rintro e w4 ⟨g3,a3,n3,c3,rfl,hn3,_,hb⟩;obtain ⟨hc,hf⟩:=Bl hb;have hz:=hb.size;(try simp only [Aj,Ak] at hz);replace HB:=zI w hb;obtain ⟨s0_0,s0_1⟩:=qZ hc (w.heap.size) (.bool g1) (.slice a1 n1 c1);obtain ⟨s0_2,s0_3⟩:=zD hc (w.heap.size) (.bool g2) (.slice a2 n2 c2);clear hc hf hb;go_wp2_with fail;refine (Za _ _ _ _ _ _ hn3).mono ?_;rintro e w5 ⟨rfl,hb⟩;obtain ⟨hc,hf⟩:=Bl hb;have hz:=hb.size;(try simp only [Aj,Ak] at hz);replace HB:=zI w hb;obtain ⟨s0_0,s0_1⟩:=qZ hc (w.heap.size) (.bool g1) (.slice a1 n1 c1);obtain ⟨s0_2,s0_3⟩:=zD hc (w.heap.size) (.bool g2) (.slice a2 n2 c2);clear hc hf hb;go_wp2_with fail;go_ret;refine ⟨?_,HB⟩;have hr:=HR.out;have e1:FOk g1 d1 g2 d2↔((z1.gcd z2:Nat):Int)=1:=by
     rw [HG.out];constructor
     ·intro h;have:=h.2.2.2.2;omega
     ·intro h;exact ⟨O1.out,O2.out,HP.out.1,HP.out.2,by omega⟩
    by_cases h3:((z1.gcd z2:Nat):Int)=1
    ·have:=hr.1 (e1.2 h3);rw [this];show Ending.returned (.bool (decide (((z1.gcd z2:Nat):Int)=1)))=_;rw [decide_eq_true h3]
    ·have h4:r=false:=by
      cases r
      ·rfl
      ·exact absurd (e1.1 (hr.2 rfl)) h3
     rw [h4];show Ending.returned (.bool (decide (((z1.gcd z2:Nat):Int)=1)))=_;rw [decide_eq_false h3]
   ·have hsg:decide (0<Bz z2 0)=false:=by rw [decide_eq_false_iff_not,lW];exact hp
    have hr0:r=false:=by
     cases r
     ·rfl
     ·have:=hr.2 rfl;exact absurd (hlow.2 ⟨this.2.2.1,this.2.2.2.1⟩) hp
    subst hr0;clear hr hlow hgcd hp;go_enter Tryz.func60,Tryz.ntmps60;go_wp2_with fail;refine (Cv _ _ _ _ _ d1 (h1.keep qF) true ⟨fun _=>rfl,fun _=>O1.out⟩).mono ?_;rintro e w1 ⟨rfl,hb⟩;obtain ⟨hc,hf⟩:=Bl hb;have hz:=hb.size;(try simp only [Aj,Ak] at hz);replace HB:=zI w hb;obtain ⟨s0_0,s0_1⟩:=qZ hc (w.heap.size) (.bool g1) (.slice a1 n1 c1);obtain ⟨s0_2,s0_3⟩:=zD hc (w.heap.size) (.bool g2) (.slice a2 n2 c2);clear hc hf hb;go_wp2_with fail;refine (Cv _ _ _ _ _ d2 (h2.keep qF) true ⟨fun _=>rfl,fun _=>O2.out⟩).mono ?_;rintro e w2 ⟨rfl,hb⟩;obtain ⟨hc,hf⟩:=Bl hb;have hz:=hb.size;(try simp only [Aj,Ak] at hz);replace HB:=zI w hb;obtain ⟨s0_0,s0_1⟩:=qZ hc (w.heap.size) (.bool g1) (.slice a1 n1 c1);obtain ⟨s0_2,s0_3⟩:=zD hc (w.heap.size) (.bool g2) (.slice a2 n2 c2);clear hc hf hb;go_wp2_with fail;refine (Kb _ _ _ _ _ z2 (N2.keep qF)).mono ?_;rintro e w3 ⟨rfl,hb⟩;exact qAu
  ·have hr0:r=false:=by
    cases r
    ·rfl
    ·exact absurd (hr.2 rfl).2.1 o2
   subst hr0;have O1:=Ae o1;have O2:=Ae o2;clear hr o1 o2;go_enter Tryz.func60,Tryz.ntmps60;go_wp2_with fail;refine (Cv _ _ _ _ _ d1 (h1.keep qF) true ⟨fun _=>rfl,fun _=>O1.out⟩).mono ?_;rintro e w1 ⟨rfl,hb⟩;obtain ⟨hc,hf⟩:=Bl hb;have hz:=hb.size;(try simp only [Aj,Ak] at hz);replace HB:=zI w hb;obtain ⟨s0_0,s0_1⟩:=qZ hc (w.heap.size) (.bool g1) (.slice a1 n1 c1);obtain ⟨s0_2,s0_3⟩:=zD hc (w.heap.size) (.bool g2) (.slice a2 n2 c2);clear hc hf hb;go_wp2_with fail;refine (Cv _ _ _ _ _ d2 (h2.keep qF) false ⟨fun e=>absurd e O2.out,fun e=>(by cases e)⟩).mono ?_;rintro e w2 ⟨rfl,hb⟩;exact qAu
 ·have hr0:r=false:=by
   cases r
   ·rfl
   ·exact absurd (hr.2 rfl).1 o1
  subst hr0;have O1:=Ae o1;clear hr o1;go_enter Tryz.func60,Tryz.ntmps60;go_wp2_with fail;refine (Cv _ _ _ _ _ d1 (h1.keep qF) false ⟨fun e=>absurd e O1.out,fun e=>(by cases e)⟩).mono ?_;rintro e w1 ⟨rfl,hb⟩;exact qAu
structure Bi (w:World) (g1:Bool) (a1:Option Addr) (n1 c1:Nat) (p:Int) (g2:Bool) (a2:Option Addr) (n2 c2:Nat) (q:Int):Prop where
 top:Bg w g1 a1 n1 c1 p
 low:Bg w g2 a2 n2 c2 q
 pos:0<q
 red:Int.gcd p q=1
theorem Bi.keep {w w':World} {g1:Bool} {a1:Option Addr} {n1 c1:Nat} {p:Int} {g2:Bool} {a2:Option Addr} {n2 c2:Nat} {q:Int} (h:Bi w g1 a1 n1 c1 p g2 a2 n2 c2 q) (hb:Below w.heap.size w w'):Bi w' g1 a1 n1 c1 p g2 a2 n2 c2 q :=
 ⟨h.top.keep hb,h.low.keep hb,h.pos,h.red⟩
theorem Bi.ok {w:World} {g1:Bool} {a1:Option Addr} {n1 c1:Nat} {p:Int} {g2:Bool} {a2:Option Addr} {n2 c2:Nat} {q:Int} (h:Bi w g1 a1 n1 c1 p g2 a2 n2 c2 q):FOk g1 (dg p.natAbs) g2 (dg q.natAbs):=by
 refine ⟨h.top.okay,h.low.okay,?_,?_,?_⟩
 ·rw [h.low.neg];have:=h.pos;simp;omega
 ·intro e;have h1:=Bo q.natAbs;have:=h.pos;rw [e,val] at h1;omega
 ·rw [Bo,Bo];exact h.red
theorem Se (w:World) (g1:Bool) (a1:Option Addr) (n1 c1:Nat) (p:Int) (g2:Bool) (a2:Option Addr) (n2 c2:Nat) (q:Int) (h:Bi w g1 a1 n1 c1 p g2 a2 n2 c2 q) (hs:n2<35184372088829) (hb1:n1<35184372088829) :
  Calls Tryz.prog 91 #[.agg #[.bool g1,.slice a1 n1 c1,.bool g2,.slice a2 n2 c2]] w fun e w'=>e=.returned (.agg #[.bool g1,.slice a1 n1 c1,.bool g2,.slice a2 n2 c2])∧Below w.heap.size w w':=by
 have HB:=Ac w.heap.size w;have HO:=Ae h.ok;go_enter Tryz.func91,Tryz.ntmps91;go_wp2_with fail;refine (Eh _ _ _ _ _ _ (h.top.rd.keep qF) _ _ _ _ _ (h.low.rd.keep qF) hs hb1 true ⟨fun _=>rfl,fun _=>HO.out⟩).mono ?_;rintro e w1 ⟨rfl,hb⟩;obtain ⟨hc,hf⟩:=Bl hb;have hz:=hb.size;(try simp only [Aj,Ak] at hz);replace HB:=zI w hb;obtain ⟨s0_0,s0_1⟩:=qZ hc (w.heap.size) (.bool g1) (.slice a1 n1 c1);obtain ⟨s0_2,s0_3⟩:=zD hc (w.heap.size) (.bool g2) (.slice a2 n2 c2);obtain ⟨s1_0,s1_1⟩:=zE hc (w.heap.size+1);obtain ⟨s1_2,s1_3⟩:=zD hc (w.heap.size+1) (.bool false) (.slice none 0 0);obtain ⟨s1_0,s1_1⟩:=zE hc (w.heap.size+1);obtain ⟨s1_2,s1_3⟩:=zD hc (w.heap.size+1) (.bool false) (.slice none 0 0);obtain ⟨f1_0,f1_1⟩:=zF hf (w.heap.size+1);obtain ⟨f1_2,f1_3⟩:=zG hf (w.heap.size+1);have hk0:w.heap.size<w1.heap.size:=by omega
 have hk1:w.heap.size+1<w1.heap.size:=by omega
 clear hc hf hb;go_wp2_with fail;refine bodyPost_ret (v:=.agg #[.bool g1,.slice a1 n1 c1,.bool g2,.slice a2 n2 c2]) (by simp [results,Tryz.results91,go_sem,s1_0,s1_1,s1_2,s1_3]) rfl ?_;exact ⟨rfl,by go_grown⟩
theorem Fx (w:World) (g1:Bool) (a1:Option Addr) (n1 c1:Nat) (p:Int) (g2:Bool) (a2:Option Addr) (n2 c2:Nat) (q:Int) (h:Bi w g1 a1 n1 c1 p g2 a2 n2 c2 q) (hs:n2<35184372088829) (hb1:n1<35184372088829) :
  Calls Tryz.prog 98 #[.agg #[.bool g1,.slice a1 n1 c1,.bool g2,.slice a2 n2 c2]] w fun e w'=>e=.returned (.int .i64 (Bz p 0))∧Below w.heap.size w w':=by
 have HB:=Ac w.heap.size w;go_enter Tryz.func98,Tryz.ntmps98;go_wp2_with fail;refine (Se _ _ _ _ _ _ _ _ _ _ _ (h.keep qF) hs hb1).mono ?_;rintro e w1 ⟨rfl,hb⟩;obtain ⟨hc,hf⟩:=Bl hb;have hz:=hb.size;(try simp only [Aj,Ak] at hz);replace HB:=zI w hb
 
 clear hc hf hb;go_wp2_with fail;refine (Kb _ _ _ _ _ _ (h.top.keep qF)).mono ?_;rintro e w2 ⟨rfl,hb⟩;obtain ⟨hc,hf⟩:=Bl hb;have hz:=hb.size;(try simp only [Aj,Ak] at hz);replace HB:=zI w hb
 
 clear hc hf hb;go_wp2_with fail;go_ret;exact ⟨rfl,HB⟩
def Eg (p q:Int):List UInt8:=Lib.itoa p++(if q=1 then [] else 47::Lib.itoa q)
theorem Mx {w:World} {g:Bool} {a:Option Addr} {n c:Nat} {z:Int} (h:Bg w g a n c z):(Lib.itoa z).length≤9*n+2:=by
 have h1:=Et (dg z.natAbs) (Ep _);rw [Bo,h.rd.len,show (1000000000:Nat)=10 ^ 9 from rfl,←Nat.pow_mul] at h1;have h2:z.natAbs<10 ^ (9*n+1):=Nat.lt_of_lt_of_le h1 (Nat.pow_le_pow_right qA qA);have h3:=(Qd (9*n) z.natAbs h2).2;rw [Lib.itoa]
 split
 ·simp only [List.length_cons];omega
 ·rw [show z.toNat=z.natAbs by omega];omega
theorem sW (w:World) (g1:Bool) (a1:Option Addr) (n1 c1:Nat) (p:Int) (g2:Bool) (a2:Option Addr) (n2 c2:Nat) (q:Int) (h:Bi w g1 a1 n1 c1 p g2 a2 n2 c2 q) (hs:n2≤1000000) (hb1:n1≤1000000) (hT:Tab w) :
  Calls Tryz.prog 35 #[.agg #[.bool g1,.slice a1 n1 c1,.bool g2,.slice a2 n2 c2]] w (Fe w (Eg p q)):=by
 have HB:=Ac w.heap.size w;have hl1:=Mx h.top;have hl2:=Mx h.low;go_enter Tryz.func35,Tryz.ntmps35;go_wp2_with fail;refine (Se _ _ _ _ _ _ _ _ _ _ _ (h.keep qF) qA qA).mono ?_;rintro e w1 ⟨rfl,hb⟩;obtain ⟨hc,hf⟩:=Bl hb;have hz:=hb.size;(try simp only [Aj,Ak] at hz);replace HB:=zI w hb;obtain ⟨s0_0,s0_1⟩:=qZ hc (w.heap.size) (.bool g1) (.slice a1 n1 c1);obtain ⟨s0_2,s0_3⟩:=zD hc (w.heap.size) (.bool g2) (.slice a2 n2 c2);have f0_0:w1.frozen? ⟨w.heap.size,0,none⟩=false:=(hf _ _ qB).trans qL;have f0_1:w1.frozen? ⟨w.heap.size,1,none⟩=false:=(hf _ _ qB).trans qL;have f0_2:w1.frozen? ⟨w.heap.size,2,none⟩=false:=(hf _ _ qB).trans qL;have f0_3:w1.frozen? ⟨w.heap.size,3,none⟩=false:=(hf _ _ qB).trans qL;clear hc hf hb;have hk:w.heap.size<w1.heap.size:=hz;go_wp2_with fail;have HB2:Below w.heap.size w ((((w1.setCell ⟨w.heap.size,0,none⟩ (.bool g1)).setCell ⟨w.heap.size,1,none⟩ (.slice a1 n1 c1)).setCell ⟨w.heap.size,2,none⟩ (.bool g2)).setCell ⟨w.heap.size,3,none⟩ (.slice a2 n2 c2)):=by go_grown
 have e2:((((w1.setCell ⟨w.heap.size,0,none⟩ (.bool g1)).setCell ⟨w.heap.size,1,none⟩ (.slice a1 n1 c1)).setCell ⟨w.heap.size,2,none⟩ (.bool g2)).setCell ⟨w.heap.size,3,none⟩ (.slice a2 n2 c2)).cell? ⟨w.heap.size,2,none⟩=some (.bool g2):=by simp [*,go_sem]
 have e3:((((w1.setCell ⟨w.heap.size,0,none⟩ (.bool g1)).setCell ⟨w.heap.size,1,none⟩ (.slice a1 n1 c1)).setCell ⟨w.heap.size,2,none⟩ (.bool g2)).setCell ⟨w.heap.size,3,none⟩ (.slice a2 n2 c2)).cell? ⟨w.heap.size,3,none⟩=some (.slice a2 n2 c2):=by simp [*,go_sem]
 generalize ((((w1.setCell ⟨w.heap.size,0,none⟩ (.bool g1)).setCell ⟨w.heap.size,1,none⟩ (.slice a1 n1 c1)).setCell ⟨w.heap.size,2,none⟩ (.bool g2)).setCell ⟨w.heap.size,3,none⟩ (.slice a2 n2 c2))=w2 at *;clear s0_0 s0_1 s0_2 s0_3 f0_0 f0_1 f0_2 f0_3 HB;refine (iB _ _ _ _ _ _ (h.top.keep HB2) (hT.keep HB2) hb1).mono ?_;rintro e w3 ⟨rfl,hb3⟩;have e2:=Bb hb3 e2;have e3:=Bb hb3 e3;have HB3:=HB2.trans (hb3.mono HB2.size);go_wp2_with fail;refine (Za _ _ _ _ _ _ (h.low.keep HB3)).mono ?_;rintro e w4 ⟨rfl,hb4⟩;have e2:=Bb hb4 e2;have e3:=Bb hb4 e3;have HB4:=HB3.trans (hb4.mono HB3.size);by_cases hq:q=1
 ·have HQ:=Ae hq;rw [decide_eq_true hq];clear hq;go_wp2_with fail;go_ret;exact ⟨by rw [Eg,if_pos HQ.out,List.append_nil];rfl,HB4⟩
 ·have HQ:=Ae hq;rw [decide_eq_false hq];clear hq;go_wp2_with fail;refine (iB _ _ _ _ _ _ (h.low.keep HB4) (hT.keep HB4) qA).mono ?_;rintro e w5 ⟨rfl,hb5⟩;have HB5:=HB4.trans (hb5.mono HB4.size);have hcat1:(⟨#[47]⟩:ByteArray).size+(⟨(Lib.itoa q).toArray⟩:ByteArray).size≤9223372036854775807:=by show 1+(Lib.itoa q).length≤_;omega
  have happ1:((⟨#[47]⟩:ByteArray)++(⟨(Lib.itoa q).toArray⟩:ByteArray))=⟨(47::Lib.itoa q).toArray⟩:=Gp [47] _;have hcat2:(⟨(Lib.itoa p).toArray⟩:ByteArray).size+(⟨(47::Lib.itoa q).toArray⟩:ByteArray).size≤9223372036854775807:=by rw [I8,I8,List.length_cons];omega
  have happ2:((⟨(Lib.itoa p).toArray⟩:ByteArray)++(⟨(47::Lib.itoa q).toArray⟩:ByteArray))=⟨(Lib.itoa p++47::Lib.itoa q).toArray⟩:=Gp _ _;go_wp2_with fail;go_ret;exact ⟨by rw [Eg,if_neg HQ.out];rfl,HB5⟩
end Go.Proofs.YtnnhcbeiogaknaaGreatDoor
end
