/- Package fracs: unit, Check, of, Sign, Of, Text. -/
import Derived.Test.YtfijkfdfbnfmmaaGreatDoorQF7
import Derived.Test.YtfijkfdfbnfmmaaGreatDoorQF8
set_option linter.unusedSimpArgs false
set_option linter.unusedVariables false
set_option maxRecDepth 100000
set_option maxHeartbeats 4000000
section
namespace Go.Proofs.YtfijkfdfbnfmmaaGreatDoor
open Go.RowKit Proofs.Tryz
variable {g:Bool} {x y z:Int} {n c B:Nat} {w w':World} {a:Γ} {d:Ξ}
@[go_sem ↓] theorem Aa5 (w:World) (g1:Bool) (a1:Γ) (n1 c1:Nat) (g2:Bool) (a2:Γ) (n2 c2:Nat) :
  (Instr.field 53 (.agg #[.bool g1,.slice a1 n1 c1,.bool g2,.slice a2 n2 c2]) 0).run prog w=.ok (.agg #[.bool g1,.slice a1 n1 c1]) w:=qE
theorem Do:Bz x y=0↔x=y:=by
 unfold Bz
 split
 ·constructor<;>intro h<;>omega
 ·split
  ·simp [*]
  ·constructor<;>intro h<;>omega
theorem aN:0<Bz x y↔y<x:=by
 unfold Bz
 split
 ·constructor<;>intro h<;>omega
 ·split
  ·constructor<;>intro h<;>omega
  ·constructor<;>intro h<;>omega
theorem oQ (w:World) (g:Bool) (a:Γ) (n c:Nat) (z:Int) (h:Bh w g a n c z) :
  Θ 216 #[.agg #[.bool g,.slice a n c]] w fun e w'=>e=.returned (.bool (decide (z=1)))∧xp w w':=by
 have HB:=Ac w w;go_enter func216,ntmps216;go_wp2_with fail;go_region_held3 (fun W=>Z W w 0 (.bool g)∧Z W w 1 (.slice a n c)) (exact qK) (first
  | (go_at_call 166;(with_reducible refine (Yx _ 1 qB qB).mono ?_);rintro e w2 ⟨g2,a2,n2,c2,rfl,hm,_,hb⟩;obtain ⟨hc,hf⟩:=Bg hb;have hz:=hb.size;(try simp only [Aj,Ak] at hz);replace HB:=zP w hb;obtain ⟨s0,s1⟩:=xd hc w g a n c;clear hc hf)
  | (go_at_call 249;(with_reducible refine (iD _ _ _ _ _ _ (h.keep qD) _ _ _ _ 1 (hm.keep qD)).mono ?_);rintro e w3 ⟨rfl,ea⟩;have BD:=ea.size;replace HB:=zP w ea;have s0':=Bb (ea) (by first|assumption|(simp [*,go_sem];done):World.cell? _ ⟨w,0,none⟩=some (.bool g));have s1':=Bb ea (by first|assumption|(simp [*,go_sem];done):World.cell? _ ⟨w,1,none⟩=some (.slice a n c))))
 all_goals
  go_wp2_with fail;go_ret;refine ⟨?_,qD⟩;by_cases h1:z=1
  ·rw [h1,Du];rfl
  ·have h2:(Bz z 1==0)=false:=by rw [beq_eq_false_iff_ne];exact fun e=>h1 (Do.1 e)
   have h3:decide (z=1)=false:=by simp [h1]
   rw [h3];first
    | (show Ending.returned (.bool (Bz z 1==0))=_;rw [h2])
    | (simp [h2];done)
def FOk (g1:Bool) (d1:Ξ) (g2:Bool) (d2:Ξ):Prop:=Lf g1 d1∧Lf g2 d2∧g2=false∧d2≠[]∧Nat.gcd (val d1) (val d2)=1
theorem bN (h:Lf g d):0<(if g then -(val d:Int) else (val d:Int))↔g=false∧d≠[]:=by
 cases g
 ·simp only [Bool.false_eq_true,if_false,true_and];constructor
  ·intro h1 e;rw [e,val] at h1;omega
  ·intro h1;have:=Cz h.1 h1;omega
 ·simp only [if_true,Bool.true_eq_false,false_and,iff_false];omega
theorem FOk.gcd {g1:Bool} {d1:Ξ} {g2:Bool} {d2:Ξ}:Int.gcd (if g1 then -(val d1:Int) else (val d1:Int)) (if g2 then -(val d2:Int) else (val d2:Int))=Nat.gcd (val d1) (val d2):=by
 cases g1<;>cases g2<;>simp [Int.gcd]
theorem F4 (w:World) (g1:Bool) (a1:Γ) (n1 c1:Nat) (d1:Ξ) (h1:RdL w a1 n1 c1 d1) (g2:Bool) (a2:Γ) (n2 c2:Nat) (d2:Ξ) (h2:RdL w a2 n2 c2 d2) (hs:n2<35184372088829) (br:n1<35184372088829) (r:Bool) (hr:FOk g1 d1 g2 d2↔r=true) :
  Θ 159 #[.agg #[.bool g1,.slice a1 n1 c1,.bool g2,.slice a2 n2 c2]] w fun e w'=>e=.returned (.bool r)∧xp w w':=by
 have HB:=Ac w w;by_cases o1:Lf g1 d1
 ·by_cases o2:Lf g2 d2
  ·have N1:=Fa h1 o1;have N2:=Fa h2 o2;have qy:=bN o2;have uw:=@FOk.gcd g1 d1 g2 d2;generalize (if g1 then -(val d1:Int) else (val d1:Int))=z1 at *;generalize (if g2 then -(val d2:Int) else (val d2:Int))=z2 at *;have O1:=Ae o1;have O2:=Ae o2;clear o1 o2;by_cases hp:0<z2
   ·have xx:Bz z2 0=1:=C7 hp;have HP:=Ae (qy.1 hp);clear qy;have HR:=Ae hr;have HG:=Ae uw;clear hr uw;go_enter func159,ntmps159;go_wp2_with fail;refine (De _ _ _ _ _ d1 (h1.keep qD) true ⟨fun _=>rfl,fun _=>O1.out⟩).mono ?_;rintro e w1 ⟨rfl,hb⟩;obtain ⟨hc,hf⟩:=Bg hb;have hz:=hb.size;(try simp only [Aj,Ak] at hz);replace HB:=zP w hb;obtain ⟨aw,bh,ei,ej⟩:=xe hc w g1 a1 n1 c1 g2 a2 n2 c2;clear hc hf hb;go_wp2_with fail;refine (De _ _ _ _ _ d2 (h2.keep qD) true ⟨fun _=>rfl,fun _=>O2.out⟩).mono ?_;rintro e w2 ⟨rfl,hb⟩;obtain ⟨hc,hf⟩:=Bg hb;have hz:=hb.size;(try simp only [Aj,Ak] at hz);replace HB:=zP w hb;obtain ⟨aw,bh,ei,ej⟩:=xe hc w g1 a1 n1 c1 g2 a2 n2 c2;clear hc hf hb;go_wp2_with fail;refine (Lv _ _ _ _ _ z2 (N2.keep qD)).mono ?_;rintro e w3 ⟨rfl,hb⟩;obtain ⟨hc,hf⟩:=Bg hb;have hz:=hb.size;(try simp only [Aj,Ak] at hz);replace HB:=zP w hb;obtain ⟨aw,bh,ei,ej⟩:=xe hc w g1 a1 n1 c1 g2 a2 n2 c2;clear hc hf hb;rw [xx];go_wp2_with fail;refine (xG _ _ _ _ _ z1 (N1.keep qD) _ _ _ _ z2 (N2.keep qD) hp hs br).mono ?_;rintro e w4 ⟨g3,a3,n3,c3,rfl,ll,_,hb⟩;obtain ⟨hc,hf⟩:=Bg hb;have hz:=hb.size;(try simp only [Aj,Ak] at hz);replace HB:=zP w hb;obtain ⟨aw,bh,ei,ej⟩:=xe hc w g1 a1 n1 c1 g2 a2 n2 c2;clear hc hf hb;go_wp2_with fail;refine (oQ _ _ _ _ _ _ ll).mono ?_;exact qBc
   ·have xx:decide (0<Bz z2 0)=false:=by rw [decide_eq_false_iff_not,aN];exact hp
    have mf:r=false:=by
     cases r
     ·rfl
     ·have:=hr.2 rfl;exact absurd (qy.2 ⟨this.2.2.1,this.2.2.2.1⟩) hp
    subst mf;clear hr qy uw hp;go_enter func159,ntmps159;go_wp2_with fail;refine (De _ _ _ _ _ d1 (h1.keep qD) true ⟨fun _=>rfl,fun _=>O1.out⟩).mono ?_;rintro e w1 ⟨rfl,hb⟩;obtain ⟨hc,hf⟩:=Bg hb;have hz:=hb.size;(try simp only [Aj,Ak] at hz);replace HB:=zP w hb;obtain ⟨aw,bh,ei,ej⟩:=xe hc w g1 a1 n1 c1 g2 a2 n2 c2;clear hc hf hb;go_wp2_with fail;refine (De _ _ _ _ _ d2 (h2.keep qD) true ⟨fun _=>rfl,fun _=>O2.out⟩).mono ?_;rintro e w2 ⟨rfl,hb⟩;obtain ⟨hc,hf⟩:=Bg hb;have hz:=hb.size;(try simp only [Aj,Ak] at hz);replace HB:=zP w hb;obtain ⟨aw,bh,ei,ej⟩:=xe hc w g1 a1 n1 c1 g2 a2 n2 c2;clear hc hf hb;go_wp2_with fail;refine (Lv _ _ _ _ _ z2 (N2.keep qD)).mono ?_;rintro e w3 ⟨rfl,hb⟩;exact qAo
  ·have mf:r=false:=by
    cases r
    ·rfl
    ·exact absurd (hr.2 rfl).2.1 o2
   subst mf;have O1:=Ae o1;have O2:=Ae o2;clear hr o1 o2;go_enter func159,ntmps159;go_wp2_with fail;refine (De _ _ _ _ _ d1 (h1.keep qD) true ⟨fun _=>rfl,fun _=>O1.out⟩).mono ?_;rintro e w1 ⟨rfl,hb⟩;obtain ⟨hc,hf⟩:=Bg hb;have hz:=hb.size;(try simp only [Aj,Ak] at hz);replace HB:=zP w hb;obtain ⟨aw,bh,ei,ej⟩:=xe hc w g1 a1 n1 c1 g2 a2 n2 c2;clear hc hf hb;go_wp2_with fail;refine (De _ _ _ _ _ d2 (h2.keep qD) false ⟨fun e=>absurd e O2.out,fun e=>(by cases e)⟩).mono ?_;rintro e w2 ⟨rfl,hb⟩;exact qAo
 ·have mf:r=false:=by
   cases r
   ·rfl
   ·exact absurd (hr.2 rfl).1 o1
  subst mf;have O1:=Ae o1;clear hr o1;go_enter func159,ntmps159;go_wp2_with fail;refine (De _ _ _ _ _ d1 (h1.keep qD) false ⟨fun e=>absurd e O1.out,fun e=>(by cases e)⟩).mono ?_;rintro e w1 ⟨rfl,hb⟩;exact qAo
structure Bo (w:World) (g1:Bool) (a1:Γ) (n1 c1:Nat) (p:Int) (g2:Bool) (a2:Γ) (n2 c2:Nat) (q:Int):Prop where
 top:Bh w g1 a1 n1 c1 p
 low:Bh w g2 a2 n2 c2 q
 pos:0<q
 red:Int.gcd p q=1
theorem Bo.keep {g1:Bool} {a1:Γ} {n1 c1:Nat} {p:Int} {g2:Bool} {a2:Γ} {n2 c2:Nat} {q:Int} (h:Bo w g1 a1 n1 c1 p g2 a2 n2 c2 q) (hb:xp w w'):Bo w' g1 a1 n1 c1 p g2 a2 n2 c2 q :=
 ⟨h.top.keep hb,h.low.keep hb,h.pos,h.red⟩
theorem Bo.ok {g1:Bool} {a1:Γ} {n1 c1:Nat} {p:Int} {g2:Bool} {a2:Γ} {n2 c2:Nat} {q:Int} (h:Bo w g1 a1 n1 c1 p g2 a2 n2 c2 q):FOk g1 (dg p.natAbs) g2 (dg q.natAbs):=by
 refine ⟨h.top.okay,h.low.okay,?_,?_,?_⟩
 ·rw [h.low.neg];have:=h.pos;simp;omega
 ·intro e;have h1:=Bq q.natAbs;have:=h.pos;rw [e,val] at h1;omega
 ·rw [Bq,Bq];exact h.red
theorem Wl (w:World) (g1:Bool) (a1:Γ) (n1 c1:Nat) (p:Int) (g2:Bool) (a2:Γ) (n2 c2:Nat) (q:Int) (h:Bo w g1 a1 n1 c1 p g2 a2 n2 c2 q) (hs:n2<35184372088829) (br:n1<35184372088829) :
  Θ 162 #[.agg #[.bool g1,.slice a1 n1 c1,.bool g2,.slice a2 n2 c2]] w fun e w'=>e=.returned (.agg #[.bool g1,.slice a1 n1 c1,.bool g2,.slice a2 n2 c2])∧xp w w':=by
 have HB:=Ac w w;have HO:=Ae h.ok;go_enter func162,ntmps162;go_wp2_with fail;refine (F4 _ _ _ _ _ _ (h.top.rd.keep qD) _ _ _ _ _ (h.low.rd.keep qD) hs br true ⟨fun _=>rfl,fun _=>HO.out⟩).mono ?_;rintro e w1 ⟨rfl,hb⟩;obtain ⟨hc,hf⟩:=Bg hb;have hz:=hb.size;(try simp only [Aj,Ak] at hz);replace HB:=zP w hb;obtain ⟨aw,bh,ei,ej⟩:=xe hc w g1 a1 n1 c1 g2 a2 n2 c2;obtain ⟨bn,bo,im,s1_3⟩:=xf hc (w+1);obtain ⟨bn,bo,im,s1_3⟩:=xf hc (w+1);obtain ⟨dp,dt,jz,kh⟩:=xg hf (w+1);have qp:w.heap.size<w1:=qB;have jy:w.heap.size+1<w1:=qB;clear hc hf hb;go_wp2_with fail;refine bodyPost_ret (v:=.agg #[.bool g1,.slice a1 n1 c1,.bool g2,.slice a2 n2 c2]) (by simp [results,results162,go_sem,bn,bo,im,s1_3]) rfl ?_;exact ⟨rfl,qD⟩
theorem Ie (w:World) (g1:Bool) (a1:Γ) (n1 c1:Nat) (p:Int) (g2:Bool) (a2:Γ) (n2 c2:Nat) (q:Int) (h:Bo w g1 a1 n1 c1 p g2 a2 n2 c2 q) (hs:n2<35184372088829) (br:n1<35184372088829) :
  Θ 160 #[.agg #[.bool g1,.slice a1 n1 c1,.bool g2,.slice a2 n2 c2]] w fun e w'=>e=.returned (M (Bz p 0))∧xp w w':=by
 have HB:=Ac w w;go_enter func160,ntmps160;go_wp2_with fail;refine (Wl _ _ _ _ _ _ _ _ _ _ _ (h.keep qD) hs br).mono ?_;rintro e w1 ⟨rfl,hb⟩;obtain ⟨hc,hf⟩:=Bg hb;have hz:=hb.size;(try simp only [Aj,Ak] at hz);replace HB:=zP w hb
 
 clear hc hf hb;go_wp2_with fail;refine (Lv _ _ _ _ _ _ (h.top.keep qD)).mono ?_;exact qCv
def E6 (p q:Int):List UInt8:=Lib.itoa p++(if q=1 then [] else 47::Lib.itoa q)
theorem Oz (h:Bh w g a n c z):(Lib.itoa z).length≤9*n+2:=by
 have h1:=Ep (dg z.natAbs) (D0 _);rw [Bq,h.rd.len,show (1000000000:Nat)=10 ^ 9 from rfl,←Nat.pow_mul] at h1;have h2:z.natAbs<10 ^ (9*n+1):=Nat.lt_of_lt_of_le h1 (Nat.pow_le_pow_right qB qB);have h3:=(Si (9*n) z.natAbs h2).2;rw [Lib.itoa]
 split
 ·simp only [List.length_cons];omega
 ·rw [show z.toNat=z.natAbs from qB];omega
theorem wH (w:World) (g1:Bool) (a1:Γ) (n1 c1:Nat) (p:Int) (g2:Bool) (a2:Γ) (n2 c2:Nat) (q:Int) (h:Bo w g1 a1 n1 c1 p g2 a2 n2 c2 q) (hs:n2≤1000000) (br:n1≤1000000) (hT:Tab w) :
  Θ 209 #[.agg #[.bool g1,.slice a1 n1 c1,.bool g2,.slice a2 n2 c2]] w (Gs w (E6 p q)):=by
 have HB:=Ac w w;have BF:=Oz h.top;have JI:=Oz h.low;go_enter func209,ntmps209;go_wp2_with fail;refine (Wl _ _ _ _ _ _ _ _ _ _ _ (h.keep qD) qB qB).mono ?_;rintro e w1 ⟨rfl,hb⟩;obtain ⟨hc,hf⟩:=Bg hb;have hz:=hb.size;(try simp only [Aj,Ak] at hz);replace HB:=zP w hb;obtain ⟨aw,bh,ei,ej⟩:=xe hc w g1 a1 n1 c1 g2 a2 n2 c2;have dy:Y w1 w 0:=(hf _ _ qA).trans qJ;have dz:Y w1 w 1:=(hf _ _ qA).trans qJ;have mj:Y w1 w 2:=(hf _ _ qA).trans qJ;have ml:Y w1 w 3:=(hf _ _ qA).trans qJ;clear hc hf hb;have hk:w.heap.size<w1:=hz;go_wp2_with fail;have fg:xp w ((((w1.setCell (J w 0) (.bool g1)).setCell (J w 1) (.slice a1 n1 c1)).setCell (J w 2) (.bool g2)).setCell (J w 3) (.slice a2 n2 c2)):=qD;have e2:Z ((((w1.setCell (J w 0) (.bool g1)).setCell (J w 1) (.slice a1 n1 c1)).setCell (J w 2) (.bool g2)).setCell (J w 3) (.slice a2 n2 c2)) w 2 (.bool g2):=qO;have e3:Z ((((w1.setCell (J w 0) (.bool g1)).setCell (J w 1) (.slice a1 n1 c1)).setCell (J w 2) (.bool g2)).setCell (J w 3) (.slice a2 n2 c2)) w 3 (.slice a2 n2 c2):=qO;generalize ((((w1.setCell (J w 0) (.bool g1)).setCell (J w 1) (.slice a1 n1 c1)).setCell (J w 2) (.bool g2)).setCell (J w 3) (.slice a2 n2 c2))=w2 at *;clear aw bh ei ej dy dz mj ml HB;refine (mJ _ _ _ _ _ _ (h.top.keep fg) (hT.keep fg) br).mono ?_;rintro e w3 ⟨rfl,ea⟩;have e2:=Bb ea e2;have e3:=Bb ea e3;have ep:=xo fg ea;go_wp2_with fail;refine (oQ _ _ _ _ _ _ (h.low.keep ep)).mono ?_;rintro e w4 ⟨rfl,ec⟩;have e2:=Bb ec e2;have e3:=Bb ec e3;have o8:=xo ep ec;by_cases hq:q=1
 ·have HQ:=Ae hq;rw [decide_eq_true hq];clear hq;go_wp2_with fail;go_ret;exact ⟨by rw [E6,if_pos HQ.out,List.append_nil];rfl,o8⟩
 ·have HQ:=Ae hq;rw [decide_eq_false hq];clear hq;go_wp2_with fail;refine (mJ _ _ _ _ _ _ (h.low.keep o8) (hT.keep o8) qB).mono ?_;rintro e w5 ⟨rfl,dx⟩;have oq:=xo o8 dx;have FY:(⟨#[47]⟩:ByteArray).size+(⟨(Lib.itoa q).toArray⟩:ByteArray).size≤9223372036854775807:=by show 1+(Lib.itoa q).length≤_;omega
  have FZ:((⟨#[47]⟩:ByteArray)++(⟨(Lib.itoa q).toArray⟩:ByteArray))=⟨(47::Lib.itoa q).toArray⟩:=H7 [47] _;have GA:(⟨(Lib.itoa p).toArray⟩:ByteArray).size+(⟨(47::Lib.itoa q).toArray⟩:ByteArray).size≤9223372036854775807:=by rw [Mx,Mx,List.length_cons];omega
  have GC:((⟨(Lib.itoa p).toArray⟩:ByteArray)++(⟨(47::Lib.itoa q).toArray⟩:ByteArray))=⟨(Lib.itoa p++47::Lib.itoa q).toArray⟩:=H7 _ _;go_wp2_with fail;go_ret;exact ⟨by rw [E6,if_neg HQ.out];rfl,oq⟩
theorem Bx {P:Program} {c:Code} {Q:Exit→Act→World→Prop} {a:Act} (h:∀W,W=w→Code.wp P c Q a W):Code.wp P c Q a w:=h w rfl
theorem Bt {P:Program} {f:FuncId} {args:Array Value} {R:Ending→World→Prop} (h:∀W,W=w→Calls P f args W R):Calls P f args w R:=h w rfl
def Ap2 (a1:Γ) (c1:Nat) (a2:Γ) (c2:Nat):Prop:=c1=0∨c2=0∨a1≠a2
def G5 (w:World) (p q:Int) (e:Ending) (w':World):Prop :=
 ∃g1 a1 n1 c1 g2 a2 n2 c2,e=.returned (.agg #[.bool g1,.slice a1 n1 c1,.bool g2,.slice a2 n2 c2])∧Bo w' g1 a1 n1 c1 p g2 a2 n2 c2 q∧Bc w w' a1 c1∧Bc w w' a2 c2∧Ap2 a1 c1 a2 c2∧xp w w'
theorem Xp {a':Γ} {c':Nat} (h:Bc B w a c) (h':Bc w w' a' c'):Ap2 a c a' c':=by
 rcases h with h|⟨b,cur,h1,_,h3,_⟩
 ·exact .inl h
 ·rcases h' with h'|⟨b',_,FD,KJ,_⟩
  ·exact .inr (.inl h')
  ·refine .inr (.inr fun e=>?_);rw [h1,FD] at e;simp only [Option.some.injEq,Addr.mk.injEq,and_true] at e;have:=(Ar.1 h3).1;omega
theorem Lg {p q:Int} (hq:0<q):0<q/(Int.gcd p q:Int)∧Int.gcd (p/(Int.gcd p q:Int)) (q/(Int.gcd p q:Int))=1:=by
 have hg:0<Int.gcd p q:=Int.gcd_pos_of_ne_zero_right _ qB;refine ⟨?_,Int.gcd_ediv_gcd_ediv_gcd hg⟩;have h1:((Int.gcd p q:Nat):Int)≤q:=Int.le_of_dvd hq (Int.gcd_dvd_right ..);exact Int.ediv_pos_of_pos_of_dvd hq qB (Int.gcd_dvd_right ..)
theorem Kk {p q:Int} (hq:0<q):(dg (Int.gcd p q)).length≤(dg q.natAbs).length:=by
 refine Bu ?_;have h1:((Int.gcd p q:Nat):Int)≤q:=Int.le_of_dvd hq (Int.gcd_dvd_right ..);omega
theorem Ua (w:World) (g:Bool) (a:Γ) (n c:Nat) (z:Int) (h:Bh w g a n c z) (g':Bool) (a':Γ) (n' c':Nat) (z':Int) (h':Bh w g' a' n' c' z')
  (j5:0<z') (br:n<35184372088829) (bp:n'<35184372088829) :
  Θ 218 #[.agg #[.bool g,.slice a n c],.agg #[.bool g',.slice a' n' c']] w (G5 w (z/(Int.gcd z z':Int)) (z'/(Int.gcd z z':Int))):=by
 have HB:=Ac w w;have xx:Bz z' 0=1:=C7 j5;have hgp:0<Int.gcd z z':=Int.gcd_pos_of_ne_zero_right _ qB;go_enter func218,ntmps218;go_wp2_with fail;refine Bt ?_;intro w0 cw;have vg:xp w w0:=by rw [cw];go_grown
 have A0:Z w0 w 0 (.bool g):=by rw [cw];simp [go_sem]
 have A1:Z w0 w 1 (.slice a n c):=by rw [cw];simp [go_sem]
 have B0:Z w0 (w+1) 0 (.bool g'):=by rw [cw];simp [go_sem]
 have B1:Z w0 (w+1) 1 (.slice a' n' c'):=by rw [cw];simp [go_sem]
 have R0:Z w0 (w+1+1) 0 (.bool false):=by rw [cw];simp [go_sem]
 have R1:Z w0 (w+1+1) 1 (.slice none 0 0):=by rw [cw];simp [go_sem]
 have R2:Z w0 (w+1+1) 2 (.bool false):=by rw [cw];simp [go_sem]
 have R3:Z w0 (w+1+1) 3 (.slice none 0 0):=by rw [cw];simp [go_sem]
 have fp:Y w0 (w+1+1) 0:=by rw [cw];simp [go_sem]
 have fq:Y w0 (w+1+1) 1:=by rw [cw];simp [go_sem]
 have fv:Y w0 (w+1+1) 2:=by rw [cw];simp [go_sem]
 have fw:Y w0 (w+1+1) 3:=by rw [cw];simp [go_sem]
 have qp:w.heap.size+1+1+1≤w0:=Aa _ _ R0;clear cw;refine (xG _ _ _ _ _ z (h.keep vg) _ _ _ _ z' (h'.keep vg) j5 bp br).mono ?_;rintro e w1 ⟨gg,ag,ng,cg,rfl,qj,r9,hb⟩;have ir:=xo vg hb
 (replace ⟨R0,fp,R1,fq,R2,fv,R3,fw⟩:=xi hb R0 fp R1 fq R2 fv R3 fw;replace ⟨A0,A1,B0,B1⟩:=xj hb A0 A1 B0 B1)
 have jh:=ir.size;have VI:ng≤n':=by have h1:=qj.rd.len;have h2:=h'.rd.len;rw [Int.natAbs_natCast] at h1;have h3:=Kk (p:=z) j5;omega
 have hkr:w.heap.size+1+1<w1:=Aa _ _ R0;replace r9:=r9.mono qp;clear hb vg;go_upto_region 2 with fail
 (refine Bx ?_;intro w2 df;have BR:Z w2 w1 0 (.bool gg):=(by rw [df];first|assumption|(simp [go_sem];done)|(simp [*,go_sem];done));have BS:Z w2 w1 1 (.slice ag ng cg):=(by rw [df];first|assumption|(simp [go_sem];done)|(simp [*,go_sem];done));have G0:=BR;clear BR;have G1:=BS;clear BS);have ia:xp w1 w2:=by rw [df];go_grown
 (replace ⟨R0,fp,R1,fq,R2,fv,R3,fw⟩:=xi ia R0 fp R1 fq R2 fv R3 fw;replace ⟨A0,A1,B0,B1⟩:=xj ia A0 A1 B0 B1)
 have ki:w1.heap.size<w2:=by rw [df];simp
 have fg:=ir.trans (ia.mono jh);replace qj:=qj.keep ia;replace r9:=r9.keep ia;obtain ⟨G,hG⟩:∃G,G=w1.heap.size:=⟨_,rfl⟩;rw [←hG] at G0 G1 ⊢;have OA:w.heap.size+1+1<G:=qB;clear df ia ir hG;go_wp2_with fail;refine (Lv _ _ _ _ _ z' (h'.keep fg)).mono ?_;rintro e w3 ⟨rfl,hb⟩;have ep:=xo fg hb
 (replace ⟨R0,fp,R1,fq,R2,fv,R3,fw⟩:=xi hb R0 fp R1 fq R2 fv R3 fw;replace ⟨A0,A1,B0,B1⟩:=xj hb A0 A1 B0 B1;replace ⟨G0,G1⟩:=xk hb G0 G1)
 replace qj:=qj.keep hb;replace r9:=r9.keep hb;have nw:w.heap.size+1+1<w3:=Nat.lt_trans OA (Aa _ _ G0);clear hb fg;rw [xx];have DU:((Int.gcd z z':Nat):Int)≠0:=qB;obtain ⟨D,hD⟩:∃D:Int,D=((Int.gcd z z':Nat):Int):=⟨_,rfl⟩;rw [←hD] at qj DU;have HD:=Ae hD;clear hD;go_wp2_with fail;refine (aY _ _ _ _ _ z (h.keep ep) _ _ _ _ D qj DU qB qB).mono ?_;rintro e w4 ⟨gq,aq,nq,cq,gr,ar,nr,cr,rfl,hq,hr,rj,eh,hb⟩;have o8:=xo ep hb
 (replace ⟨R0,fp,R1,fq,R2,fv,R3,fw⟩:=xi hb R0 fp R1 fq R2 fv R3 fw;replace ⟨A0,A1,B0,B1⟩:=xj hb A0 A1 B0 B1;replace ⟨G0,G1⟩:=xk hb G0 G1)
 replace qj:=qj.keep hb;replace r9:=r9.keep hb;have hs4:=ep.size;have u9:Bc (w+1+1+1) w4 aq cq:=rj.mono nw;have hGn:¬G=w.heap.size+1+1:=qB;have amg:¬w.heap.size+1+1=G:=qB;have j4:w.heap.size+1+1<w.heap.size+1+1+1:=Ag _;have NS:=o8.size;clear hb ep hr eh rj;go_upto_region 5 with fail
 (refine Bx ?_;intro w5 iy;have FH:Z w5 w 0 (.bool g):=(by rw [iy];first|assumption|(simp [go_sem];done)|(simp [*,go_sem];done));have FI:Z w5 w 1 (.slice a n c):=(by rw [iy];first|assumption|(simp [go_sem];done)|(simp [*,go_sem];done));have CX:Z w5 (w+1) 0 (.bool g'):=(by rw [iy];first|assumption|(simp [go_sem];done)|(simp [*,go_sem];done));have FJ:Z w5 (w+1) 1 (.slice a' n' c'):=(by rw [iy];first|assumption|(simp [go_sem];done)|(simp [*,go_sem];done));have yh:Z w5 (w+1+1) 0 (.bool gq):=(by rw [iy];first|assumption|(simp [go_sem];done)|(simp [*,go_sem];done));have mm:Y w5 (w+1+1) 0:=(by rw [iy];first|assumption|(simp [go_sem];done)|(simp [*,go_sem];done));have yx:Z w5 (w+1+1) 1 (.slice aq nq cq):=(by rw [iy];first|assumption|(simp [go_sem];done)|(simp [*,go_sem];done));have mo:Y w5 (w+1+1) 1:=(by rw [iy];first|assumption|(simp [go_sem];done)|(simp [*,go_sem];done));have yy:Z w5 (w+1+1) 2 (.bool false):=(by rw [iy];first|assumption|(simp [go_sem];done)|(simp [*,go_sem];done));have mv:Y w5 (w+1+1) 2:=(by rw [iy];first|assumption|(simp [go_sem];done)|(simp [*,go_sem];done));have yz:Z w5 (w+1+1) 3 (.slice none 0 0):=(by rw [iy];first|assumption|(simp [go_sem];done)|(simp [*,go_sem];done));have my:Y w5 (w+1+1) 3:=(by rw [iy];first|assumption|(simp [go_sem];done)|(simp [*,go_sem];done));have BR:Z w5 G 0 (.bool gg):=(by rw [iy];first|assumption|(simp [go_sem];done)|(simp [*,go_sem];done));have BS:Z w5 G 1 (.slice ag ng cg):=(by rw [iy];first|assumption|(simp [go_sem];done)|(simp [*,go_sem];done));clear A0 A1 B0 B1 R0 R1 R2 R3 fp fq fv fw G0 G1;have A0:=FH;clear FH;have A1:=FI;clear FI;have B0:=CX;clear CX;have B1:=FJ;clear FJ;have R0:=yh;clear yh;have fp:=mm;clear mm;have R1:=yx;clear yx;have fq:=mo;clear mo;have R2:=yy;clear yy;have fv:=mv;clear mv;have R3:=yz;clear yz;have fw:=my;clear my;have G0:=BR;clear BR;have G1:=BS;clear BS);have oq:xp w w5:=by rw [iy];go_grown
 have BT:Bh w5 gg ag ng cg D:=by rw [iy];exact (qj.setFresh r9 _ _ j4).setFresh (r9.setNew _ _ j4) _ _ j4
 have VU:Bc (w+1+1+1) w5 ag cg:=by rw [iy];exact (r9.setNew _ _ j4).setNew _ _ j4
 have hq5:Bh w5 gq aq nq cq (z/D):=by rw [iy];exact (hq.setFresh u9 _ _ j4).setFresh (u9.setNew _ _ j4) _ _ j4
 have qh:Bc (w+1+1+1) w5 aq cq:=by rw [iy];exact (u9.setNew _ _ j4).setNew _ _ j4
 have VA:w.heap.size+1+1<w5:=Aa _ _ R0;clear iy qj r9 hq u9 o8;go_wp2_with fail;refine (aY _ _ _ _ _ z' (h'.keep oq) _ _ _ _ D BT DU qB qB).mono ?_;rintro e w6 ⟨gs,a5,n5,c5,gr,ar,nr,cr,rfl,hs,hr,LF,eh,hb⟩;have iu:=xo oq hb
 (replace ⟨R0,fp,R1,fq,R2,fv,R3,fw⟩:=xi hb R0 fp R1 fq R2 fv R3 fw)
 have SJ:=hq5.keep hb;have ux:=qh.keep hb;have AQ:Bc (w+1+1+1) w6 a5 c5:=LF.mono VA;have gw:Ap2 aq cq a5 c5:=Xp qh LF;clear hb oq hr eh LF hq5 qh BT VU A0 A1 B0 B1 G0 G1;go_upto_region 6 with fail
 (refine Bx ?_;intro w7 mb;have yh:Z w7 (w+1+1) 0 (.bool gq):=(by rw [mb];first|assumption|(simp [go_sem];done)|(simp [*,go_sem];done));have mm:Y w7 (w+1+1) 0:=(by rw [mb];first|assumption|(simp [go_sem];done)|(simp [*,go_sem];done));have yx:Z w7 (w+1+1) 1 (.slice aq nq cq):=(by rw [mb];first|assumption|(simp [go_sem];done)|(simp [*,go_sem];done));have mo:Y w7 (w+1+1) 1:=(by rw [mb];first|assumption|(simp [go_sem];done)|(simp [*,go_sem];done));have yy:Z w7 (w+1+1) 2 (.bool gs):=(by rw [mb];first|assumption|(simp [go_sem];done)|(simp [*,go_sem];done));have mv:Y w7 (w+1+1) 2:=(by rw [mb];first|assumption|(simp [go_sem];done)|(simp [*,go_sem];done));have yz:Z w7 (w+1+1) 3 (.slice a5 n5 c5):=(by rw [mb];first|assumption|(simp [go_sem];done)|(simp [*,go_sem];done));have my:Y w7 (w+1+1) 3:=(by rw [mb];first|assumption|(simp [go_sem];done)|(simp [*,go_sem];done));clear R0 R1 R2 R3 fp fq fv fw;have R0:=yh;clear yh;have fp:=mm;clear mm;have R1:=yx;clear yx;have fq:=mo;clear mo;have R2:=yy;clear yy;have fv:=mv;clear mv;have R3:=yz;clear yz;have fw:=my;clear my);have wh:xp w w7:=by rw [mb];go_grown
 have hq7:Bh w7 gq aq nq cq (z/D):=by rw [mb];exact (SJ.setFresh ux _ _ j4).setFresh (ux.setNew _ _ j4) _ _ j4
 have GO:Bc (w+1+1+1) w7 aq cq:=by rw [mb];exact (ux.setNew _ _ j4).setNew _ _ j4
 have hs7:Bh w7 gs a5 n5 c5 (z'/D):=by rw [mb];exact (hs.setFresh AQ _ _ j4).setFresh (AQ.setNew _ _ j4) _ _ j4
 have VV:Bc (w+1+1+1) w7 a5 c5:=by rw [mb];exact (AQ.setNew _ _ j4).setNew _ _ j4
 clear mb SJ ux hs AQ iu;go_wp2_with fail;refine bodyPost_ret (v:=.agg #[.bool gq,.slice aq nq cq,.bool gs,.slice a5 n5 c5]) (by simp [results,results218,go_sem,R0,R1,R2,R3]) rfl ?_;have vk:=Lg (p:=z) j5;exact qBw
def eL (w:World) (x y q:Int) (e:Ending) (w':World):Prop :=
 ∃g1 a1 n1 c1 g2 a2 n2 c2 g3 a3 n3 c3,e=.returned (.tuple #[.agg #[.bool g1,.slice a1 n1 c1,.bool g2,.slice a2 n2 c2],.agg #[.bool g3,.slice a3 n3 c3]])∧Bh w' g1 a1 n1 c1 x∧Bh w' g2 a2 n2 c2 y∧Bh w' g3 a3 n3 c3 q ∧
  Bc w w' a1 c1∧Bc w w' a2 c2∧Bc w w' a3 c3∧xp w w'
theorem Bh.set6 (h:Bh w g a n c z) (hf:Bc B w a c) (p1 p2 p3 p4 p5 p6:Addr) (u1 u2 u3 u4 u5 u6:Value) (h1:p1.block<B) (h2:p2.block<B) (h3:p3.block<B) (h4:p4.block<B) (h5:p5.block<B) (h6:p6.block<B) :
  Bh ((((((w.setCell p1 u1).setCell p2 u2).setCell p3 u3).setCell p4 u4).setCell p5 u5).setCell p6 u6) g a n c z :=
 ((h.set4 hf p1 p2 p3 p4 u1 u2 u3 u4 h1 h2 h3 h4).setFresh (hf.set4 p1 p2 p3 p4 u1 u2 u3 u4 h1 h2 h3 h4) p5 u5 h5).setFresh ((hf.set4 p1 p2 p3 p4 u1 u2 u3 u4 h1 h2 h3 h4).setNew p5 u5 h5) p6 u6 h6
theorem Bc.set6 (hf:Bc B w a c) (p1 p2 p3 p4 p5 p6:Addr) (u1 u2 u3 u4 u5 u6:Value) (h1:p1.block<B) (h2:p2.block<B) (h3:p3.block<B) (h4:p4.block<B) (h5:p5.block<B) (h6:p6.block<B) :
  Bc B ((((((w.setCell p1 u1).setCell p2 u2).setCell p3 u3).setCell p4 u4).setCell p5 u5).setCell p6 u6) a c :=
 ((hf.set4 p1 p2 p3 p4 u1 u2 u3 u4 h1 h2 h3 h4).setNew p5 u5 h5).setNew p6 u6 h6
theorem Rd (w:World) (g1:Bool) (a1:Γ) (n1 c1:Nat) (p:Int) (g2:Bool) (a2:Γ) (n2 c2:Nat) (q:Int) (h:Bo w g1 a1 n1 c1 p g2 a2 n2 c2 q)
  (g3:Bool) (a3:Γ) (n3 c3:Nat) (p':Int) (g4:Bool) (a4:Γ) (n4 c4:Nat) (q':Int) (h':Bo w g3 a3 n3 c3 p' g4 a4 n4 c4 q') (br:n1≤1000000000) (bp:n2≤1000000000) (ea:n3≤1000000000) (ec:n4≤1000000000) :
  Θ 167 #[.agg #[.bool g1,.slice a1 n1 c1,.bool g2,.slice a2 n2 c2],.agg #[.bool g3,.slice a3 n3 c3,.bool g4,.slice a4 n4 c4]] w (eL w (p*q') (p'*q) (q*q')):=by
 have HB:=Ac w w;go_enter func167,ntmps167;go_wp2_with fail;go_region_held3 (fun W=>Z W w 0 (.bool g1)∧Z W w 1 (.slice a1 n1 c1)∧Z W w 2 (.bool g2)∧Z W w 3 (.slice a2 n2 c2)∧Z W (w+1) 0 (.bool g3)∧Z W (w+1) 1 (.slice a3 n3 c3)∧Z W (w+1) 2 (.bool g4)∧Z W (w+1) 3 (.slice a4 n4 c4)) (exact qK) (first
  | (go_at_call 162;(with_reducible refine (Wl _ _ _ _ _ _ _ _ _ _ _ (h.keep qD) qB qB).mono ?_);rintro e w1 ⟨rfl,hb⟩;obtain ⟨hc,hf⟩:=Bg hb;have hz:=hb.size;(try simp only [Aj,Ak] at hz);replace HB:=zP w hb;obtain ⟨aw,bh,ei,ej⟩:=xe hc w g1 a1 n1 c1 g2 a2 n2 c2;obtain ⟨bn,bo,im,s1_3⟩:=xe hc (w+1) g3 a3 n3 c3 g4 a4 n4 c4;obtain ⟨bw,bx,fi,fj⟩:=xf hc (w+1+1);obtain ⟨ja,jb⟩:=zJ hc (w+1+1+1);obtain ⟨bz,cc,gh,gp⟩:=xg hf (w+1+1);obtain ⟨jc,jd⟩:=zK hf (w+1+1+1);obtain ⟨dy,dz,mj,ml⟩:=xg hf w;obtain ⟨dp,dt,jz,kh⟩:=xg hf (w+1))
  | (go_at_call 162;(with_reducible refine (Wl _ _ _ _ _ _ _ _ _ _ _ (h'.keep qD) qB qB).mono ?_);rintro e w1 ⟨rfl,hb⟩;obtain ⟨hc,hf⟩:=Bg hb;have hz:=hb.size;(try simp only [Aj,Ak] at hz);replace HB:=zP w hb;obtain ⟨aw,bh,ei,ej⟩:=xe hc w g1 a1 n1 c1 g2 a2 n2 c2;obtain ⟨bn,bo,im,s1_3⟩:=xe hc (w+1) g3 a3 n3 c3 g4 a4 n4 c4;obtain ⟨bw,bx,fi,fj⟩:=xf hc (w+1+1);obtain ⟨ja,jb⟩:=zJ hc (w+1+1+1);obtain ⟨bz,cc,gh,gp⟩:=xg hf (w+1+1);obtain ⟨jc,jd⟩:=zK hf (w+1+1+1);obtain ⟨dy,dz,mj,ml⟩:=xg hf w;obtain ⟨dp,dt,jz,kh⟩:=xg hf (w+1)))
 have jy:w.heap.size+1+1+1<w1:=qB;go_upto_region 2 with fail
 refine Bx ?_;intro w2 df;have fg:xp w w2:=by rw [df];go_grown
 have A0:Z w2 w 0 (.bool g1):=by rw [df];simp [*,go_sem]
 have A1:Z w2 w 1 (.slice a1 n1 c1):=by rw [df];simp [*,go_sem]
 have A2:Z w2 w 2 (.bool g2):=by rw [df];simp [*,go_sem]
 have A3:Z w2 w 3 (.slice a2 n2 c2):=by rw [df];simp [*,go_sem]
 have B0:Z w2 (w+1) 0 (.bool g3):=by rw [df];simp [*,go_sem]
 have B1:Z w2 (w+1) 1 (.slice a3 n3 c3):=by rw [df];simp [*,go_sem]
 have B2:Z w2 (w+1) 2 (.bool g4):=by rw [df];simp [*,go_sem]
 have B3:Z w2 (w+1) 3 (.slice a4 n4 c4):=by rw [df];simp [*,go_sem]
 have R0:Z w2 (w+1+1) 0 (.bool false):=by rw [df];simp [*,go_sem]
 have R1:Z w2 (w+1+1) 1 (.slice none 0 0):=by rw [df];simp [*,go_sem]
 have R2:Z w2 (w+1+1) 2 (.bool false):=by rw [df];simp [*,go_sem]
 have R3:Z w2 (w+1+1) 3 (.slice none 0 0):=by rw [df];simp [*,go_sem]
 have S0:Z w2 (w+1+1+1) 0 (.bool false):=by rw [df];simp [*,go_sem]
 have S1:Z w2 (w+1+1+1) 1 (.slice none 0 0):=by rw [df];simp [*,go_sem]
 have fp:Y w2 (w+1+1) 0:=by rw [df];simp [*,go_sem]
 have fq:Y w2 (w+1+1) 1:=by rw [df];simp [*,go_sem]
 have fv:Y w2 (w+1+1) 2:=by rw [df];simp [*,go_sem]
 have fw:Y w2 (w+1+1) 3:=by rw [df];simp [*,go_sem]
 have Sf0:Y w2 (w+1+1+1) 0:=by rw [df];simp [*,go_sem]
 have Sf1:Y w2 (w+1+1+1) 1:=by rw [df];simp [*,go_sem]
 clear df HB hc hf hb hz aw bh ei ej bn bo im s1_3 bw bx fi fj ja jb dy dz mj ml dp dt jz kh bz cc gh gp jc jd jy;have h2:=h.keep fg;have KJ:=h'.keep fg;have HB:=Ac w2 w2;have l9:w.heap.size+1+1+1<w2:=Aa _ _ S0;go_region_held3 (fun W=>Z W w 0 (.bool g1)∧Z W w 1 (.slice a1 n1 c1)∧Z W w 2 (.bool g2)∧Z W w 3 (.slice a2 n2 c2)∧Z W (w+1) 0 (.bool g3)∧Z W (w+1) 1 (.slice a3 n3 c3)∧Z W (w+1) 2 (.bool g4)∧Z W (w+1) 3 (.slice a4 n4 c4)) (exact qK) (first
  | (go_at_call 165;(with_reducible refine (iN _ _ _ _ _ _ (h2.top.keep qR) _ _ _ _ _ (KJ.low.keep qR) qB qB).mono ?_);rintro e w3 ⟨gx,ax,nx,cx,rfl,hx,iq,hb⟩;replace HB:xp w2 w3:=Al qR (hb.mono qA);have fb:=HB.size;(replace ⟨R0,fp,R1,fq,R2,fv,R3,fw⟩:=xi HB R0 fp R1 fq R2 fv R3 fw;replace ⟨S0,Sf0,S1,Sf1⟩:=xm HB S0 Sf0 S1 Sf1;replace ⟨A0,A1,A2,A3,B0,B1,B2,B3⟩:=xl HB A0 A1 A2 A3 B0 B1 B2 B3))
  | (go_at_call 165;(with_reducible refine (iN _ _ _ _ _ _ (KJ.top.keep qR) _ _ _ _ _ (h2.low.keep qR) qB qB).mono ?_);rintro e w4 ⟨gy,ay,ny,cy,rfl,hy,sk,ec⟩;have il:xp w3 w4:=Al qR (ec.mono qA);replace HB:xp w2 w4:=Al HB (il.mono qA);have OW:=HB.size;(replace ⟨R0,fp,R1,fq,R2,fv,R3,fw⟩:=xi il R0 fp R1 fq R2 fv R3 fw;replace ⟨S0,Sf0,S1,Sf1⟩:=xm il S0 Sf0 S1 Sf1;replace ⟨A0,A1,A2,A3,B0,B1,B2,B3⟩:=xl il A0 A1 A2 A3 B0 B1 B2 B3))
  | (go_at_call 165;(with_reducible refine (iN _ _ _ _ _ _ (h2.low.keep qR) _ _ _ _ _ (KJ.low.keep qR) qB qB).mono ?_);rintro e w5 ⟨gq,aq,nq,cq,rfl,hq,rj,dx⟩;have CU:xp w4 w5:=Al qR (dx.mono qA);replace HB:xp w2 w5:=Al HB (CU.mono qA);have aco:=HB.size;(replace ⟨R0,fp,R1,fq,R2,fv,R3,fw⟩:=xi CU R0 fp R1 fq R2 fv R3 fw;replace ⟨S0,Sf0,S1,Sf1⟩:=xm CU S0 Sf0 S1 Sf1;replace ⟨A0,A1,A2,A3,B0,B1,B2,B3⟩:=xl CU A0 A1 A2 A3 B0 B1 B2 B3)))
 all_goals
  have hx5:=(hx.keep il).keep CU;have hy5:=hy.keep CU;have fx5:Bc (w+1+1+1+1) w5 ax cx:=((iq.mono qA).keep il).keep CU;have fy5:Bc (w+1+1+1+1) w5 ay cy:=(sk.mono qA).keep CU;have fq5:Bc (w+1+1+1+1) w5 aq cq:=rj.mono qA;have u2:w.heap.size+1+1<w.heap.size+1+1+1+1:=qB;have u3:w.heap.size+1+1+1<w.heap.size+1+1+1+1:=qB;have HW:=xo fg HB;go_wp2_with fail;refine bodyPost_ret (v:=.tuple #[.agg #[.bool gx,.slice ax nx cx,.bool gy,.slice ay ny cy],.agg #[.bool gq,.slice aq nq cq]]) (by simp [results,results167,go_sem,R0,R1,R2,R3,S0,S1]) rfl ?_;refine ⟨gx,ax,nx,cx,gy,ay,ny,cy,gq,aq,nq,cq,rfl,?_,?_,?_,?_,?_,?_,qD⟩
  ·exact hx5.set6 fx5 _ _ _ _ _ _ _ _ _ _ _ _ u2 u2 u2 u2 u3 u3
  ·exact hy5.set6 fy5 _ _ _ _ _ _ _ _ _ _ _ _ u2 u2 u2 u2 u3 u3
  ·exact hq.set6 fq5 _ _ _ _ _ _ _ _ _ _ _ _ u2 u2 u2 u2 u3 u3
  ·exact (fx5.set6 _ _ _ _ _ _ _ _ _ _ _ _ u2 u2 u2 u2 u3 u3).mono qB
  ·exact (fy5.set6 _ _ _ _ _ _ _ _ _ _ _ _ u2 u2 u2 u2 u3 u3).mono qB
  ·exact (fq5.set6 _ _ _ _ _ _ _ _ _ _ _ _ u2 u2 u2 u2 u3 u3).mono qB
end Go.Proofs.YtfijkfdfbnfmmaaGreatDoor
end
