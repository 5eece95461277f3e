/- Package limbs: of, Cmp, Sign, of numbers that may be. -/
import Derived.Test.YtfijkfdfbnfmmaaGreatDoorQF0
set_option linter.unusedSimpArgs false
set_option linter.unusedVariables false
set_option maxRecDepth 100000
set_option maxHeartbeats 4000000
section
namespace Go.Proofs.YtfijkfdfbnfmmaaGreatDoor
open Go.RowKit Proofs.Tryz
variable (g:Bool) {z:Int} {n c B:Nat} {w w':World} {a:Γ} {d:Ξ}
structure Bh (w:World) (g:Bool) (a:Γ) (n c:Nat) (z:Int):Prop where
 neg:g=decide (z<0)
 rd:RdL w a n c (dg z.natAbs)
theorem Bh.keep {g:Bool} (h:Bh w g a n c z) (hb:xp w w'):Bh w' g a n c z:=⟨h.neg,h.rd.keep hb⟩
theorem Bh.okay {g:Bool} (h:Bh w g a n c z):Lf g (dg z.natAbs):=by
 refine ⟨Cb _,fun e=>?_⟩;have hv:=Bq z.natAbs;rw [e,val] at hv;rw [h.neg];simp;omega
theorem Bh.bound {g:Bool} (h:Bh w g a n c z):n≤35184372088832:=h.rd.few
theorem Fa {g:Bool} (h:RdL w a n c d) (ho:Lf g d):Bh w g a n c (if g then -(val d:Int) else val d):=by
 have hd:=Gl ho.1;cases g
 ·refine ⟨qH,?_⟩;simp only [Bool.false_eq_true,if_false,Int.natAbs_natCast];rw [hd];exact h
 ·have di:d≠[]:=fun e=>by have:=ho.2 e;simp at this
  have:=Cz ho.1 di;refine ⟨qL,?_⟩;simp only [if_true,Int.natAbs_neg,Int.natAbs_natCast];rw [hd];exact h
def gS (w:World) (g:Bool) (a:Γ) (n c:Nat) (e:Ending) (w':World):Prop:=e=.returned (.agg #[.bool g,.slice a n c])∧xp w w'
theorem I1 (w:World) (g:Bool) (a:Γ) (n c:Nat) (z:Int) (h:Bh w g a n c z) :
  Θ 219 #[.agg #[.bool g,.slice a n c]] w (gS w g a n c):=by
 have HB:=Ac w w;have ho:=Ae h.okay;go_enter func219,ntmps219;go_wp2_with fail;refine (De _ _ _ _ _ (dg z.natAbs) (h.rd.keep qD) true ⟨fun _=>rfl,fun _=>ho.out⟩).mono ?_;rintro e w1 ⟨rfl,hb⟩;obtain ⟨hc,hf⟩:=Bg hb;have hz:=hb.size;(try simp only [Aj,Ak] at hz);replace HB:=zP w hb;obtain ⟨aw,bh⟩:=xd hc w g a n c;obtain ⟨bn,bo⟩:=zJ hc (w+1);obtain ⟨dp,dt⟩:=zK hf (w+1);go_wp2_with fail;refine bodyPost_ret (v:=.agg #[.bool g,.slice a n c]) (by simp [results,results219,go_sem,bn,bo]) rfl ?_;exact ⟨rfl,qD⟩
theorem Ze {z':Int}:Bz (val (dg z.natAbs)) (val (dg z'.natAbs))=Bz z.natAbs z'.natAbs:=by rw [Bq,Bq]
theorem Ul {x y t:Int} (h1:x<y↔z<t) (h2:x=y↔z=t):Bz x y=Bz z t:=by
 unfold Bz;simp only [h1,h2]
theorem iD (w:World) (g:Bool) (a:Γ) (n c:Nat) (z:Int) (h:Bh w g a n c z) (g':Bool) (a':Γ) (n' c':Nat) (z':Int) (h':Bh w g' a' n' c' z') :
  Θ 249 #[.agg #[.bool g,.slice a n c],.agg #[.bool g',.slice a' n' c']] w fun e w'=>e=.returned (M (Bz z z'))∧xp w w':=by
 have HB:=Ac w w;have hg:=h.neg;have tq:=h'.neg;rcases Bool.eq_false_or_eq_true g with UO|UO<;>rcases Bool.eq_false_or_eq_true g' with abk|abk<;>subst UO<;>subst abk
 ·have hz:z<0:=by simpa using hg.symm
  have j5:z'<0:=by simpa using tq.symm
  have HR:=Ae (show Bz z z'=Bz (val (dg z'.natAbs)) (val (dg z.natAbs)) by rw [Ze];exact Ul qB qB);clear hg tq hz j5;go_enter func249,ntmps249;go_wp2_with fail;go_region_held3 (fun W=>Z W w 0 (.bool true)∧Z W w 1 (.slice a n c)∧Z W (w+1) 0 (.bool true)∧Z W (w+1) 1 (.slice a' n' c')) (exact qK) (first
   | (go_at_call 219;(with_reducible refine (I1 _ true a n c z (h.keep qD)).mono ?_);rintro e w1 ⟨rfl,hb⟩;obtain ⟨hc,hf⟩:=Bg hb;have hz:=hb.size;(try simp only [Aj,Ak] at hz);replace HB:=zP w hb;obtain ⟨aw,bh⟩:=xd hc w true a n c;obtain ⟨bn,bo⟩:=xd hc (w+1) true a' n' c';obtain ⟨dy,dz⟩:=zK hf w;obtain ⟨dp,dt⟩:=zK hf (w+1))
   | (go_at_call 219;(with_reducible refine (I1 _ true a' n' c' z' (h'.keep qD)).mono ?_);rintro e w1 ⟨rfl,hb⟩;obtain ⟨hc,hf⟩:=Bg hb;have hz:=hb.size;(try simp only [Aj,Ak] at hz);replace HB:=zP w hb;obtain ⟨aw,bh⟩:=xd hc w true a n c;obtain ⟨bn,bo⟩:=xd hc (w+1) true a' n' c';obtain ⟨dy,dz⟩:=zK hf w;obtain ⟨dp,dt⟩:=zK hf (w+1)))
  replace HB:xp w ((((w1.setCell (J w 0) (.bool true)).setCell (J w 1) (.slice a n c)).setCell (J (w+1) 0) (.bool true)).setCell (J (w+1) 1) (.slice a' n' c')):=qD;go_wp2_with fail;refine (Fb _ _ _ _ (dg z'.natAbs) _ _ _ (dg z.natAbs) (h'.rd.keep HB) (h.rd.keep HB) (Cb _) (Cb _)).mono ?_;exact qEo
 ·have hz:z<0:=by simpa using hg.symm
  have j5:¬z'<0:=by simpa using tq.symm
  have HR:=Ae (show Bz z z'=-1 from C6 qB);clear hg tq hz j5;go_enter func249,ntmps249;go_wp2_with fail;go_region_held3 (fun W=>Z W w 0 (.bool true)∧Z W w 1 (.slice a n c)∧Z W (w+1) 0 (.bool false)∧Z W (w+1) 1 (.slice a' n' c')) (exact qK) (first
   | (go_at_call 219;(with_reducible refine (I1 _ true a n c z (h.keep qD)).mono ?_);rintro e w1 ⟨rfl,hb⟩;obtain ⟨hc,hf⟩:=Bg hb;have hz:=hb.size;(try simp only [Aj,Ak] at hz);replace HB:=zP w hb;obtain ⟨aw,bh⟩:=xd hc w true a n c;obtain ⟨bn,bo⟩:=xd hc (w+1) false a' n' c';obtain ⟨dy,dz⟩:=zK hf w;obtain ⟨dp,dt⟩:=zK hf (w+1))
   | (go_at_call 219;(with_reducible refine (I1 _ false a' n' c' z' (h'.keep qD)).mono ?_);rintro e w1 ⟨rfl,hb⟩;obtain ⟨hc,hf⟩:=Bg hb;have hz:=hb.size;(try simp only [Aj,Ak] at hz);replace HB:=zP w hb;obtain ⟨aw,bh⟩:=xd hc w true a n c;obtain ⟨bn,bo⟩:=xd hc (w+1) false a' n' c';obtain ⟨dy,dz⟩:=zK hf w;obtain ⟨dp,dt⟩:=zK hf (w+1)))
  replace HB:xp w ((((w1.setCell (J w 0) (.bool true)).setCell (J w 1) (.slice a n c)).setCell (J (w+1) 0) (.bool false)).setCell (J (w+1) 1) (.slice a' n' c')):=qD;go_wp2_with fail;go_ret;exact ⟨by rw [HR.out];rfl,HB⟩
 ·have hz:¬z<0:=by simpa using hg.symm
  have j5:z'<0:=by simpa using tq.symm
  have HR:=Ae (show Bz z z'=1 from C7 qB);clear hg tq hz j5;go_enter func249,ntmps249;go_wp2_with fail;go_region_held3 (fun W=>Z W w 0 (.bool false)∧Z W w 1 (.slice a n c)∧Z W (w+1) 0 (.bool true)∧Z W (w+1) 1 (.slice a' n' c')) (exact qK) (first
   | (go_at_call 219;(with_reducible refine (I1 _ false a n c z (h.keep qD)).mono ?_);rintro e w1 ⟨rfl,hb⟩;obtain ⟨hc,hf⟩:=Bg hb;have hz:=hb.size;(try simp only [Aj,Ak] at hz);replace HB:=zP w hb;obtain ⟨aw,bh⟩:=xd hc w false a n c;obtain ⟨bn,bo⟩:=xd hc (w+1) true a' n' c';obtain ⟨dy,dz⟩:=zK hf w;obtain ⟨dp,dt⟩:=zK hf (w+1))
   | (go_at_call 219;(with_reducible refine (I1 _ true a' n' c' z' (h'.keep qD)).mono ?_);rintro e w1 ⟨rfl,hb⟩;obtain ⟨hc,hf⟩:=Bg hb;have hz:=hb.size;(try simp only [Aj,Ak] at hz);replace HB:=zP w hb;obtain ⟨aw,bh⟩:=xd hc w false a n c;obtain ⟨bn,bo⟩:=xd hc (w+1) true a' n' c';obtain ⟨dy,dz⟩:=zK hf w;obtain ⟨dp,dt⟩:=zK hf (w+1)))
  replace HB:xp w ((((w1.setCell (J w 0) (.bool false)).setCell (J w 1) (.slice a n c)).setCell (J (w+1) 0) (.bool true)).setCell (J (w+1) 1) (.slice a' n' c')):=qD;go_wp2_with fail;go_ret;exact ⟨by rw [HR.out];rfl,HB⟩
 ·have hz:¬z<0:=by simpa using hg.symm
  have j5:¬z'<0:=by simpa using tq.symm
  have HR:=Ae (show Bz z z'=Bz (val (dg z.natAbs)) (val (dg z'.natAbs)) by rw [Ze];exact Ul qB qB);clear hg tq hz j5;go_enter func249,ntmps249;go_wp2_with fail;go_region_held3 (fun W=>Z W w 0 (.bool false)∧Z W w 1 (.slice a n c)∧Z W (w+1) 0 (.bool false)∧Z W (w+1) 1 (.slice a' n' c')) (exact qK) (first
   | (go_at_call 219;(with_reducible refine (I1 _ false a n c z (h.keep qD)).mono ?_);rintro e w1 ⟨rfl,hb⟩;obtain ⟨hc,hf⟩:=Bg hb;have hz:=hb.size;(try simp only [Aj,Ak] at hz);replace HB:=zP w hb;obtain ⟨aw,bh⟩:=xd hc w false a n c;obtain ⟨bn,bo⟩:=xd hc (w+1) false a' n' c';obtain ⟨dy,dz⟩:=zK hf w;obtain ⟨dp,dt⟩:=zK hf (w+1))
   | (go_at_call 219;(with_reducible refine (I1 _ false a' n' c' z' (h'.keep qD)).mono ?_);rintro e w1 ⟨rfl,hb⟩;obtain ⟨hc,hf⟩:=Bg hb;have hz:=hb.size;(try simp only [Aj,Ak] at hz);replace HB:=zP w hb;obtain ⟨aw,bh⟩:=xd hc w false a n c;obtain ⟨bn,bo⟩:=xd hc (w+1) false a' n' c';obtain ⟨dy,dz⟩:=zK hf w;obtain ⟨dp,dt⟩:=zK hf (w+1)))
  replace HB:xp w ((((w1.setCell (J w 0) (.bool false)).setCell (J w 1) (.slice a n c)).setCell (J (w+1) 0) (.bool false)).setCell (J (w+1) 1) (.slice a' n' c')):=qD;go_wp2_with fail;refine (Fb _ _ _ _ (dg z.natAbs) _ _ _ (dg z'.natAbs) (h.rd.keep HB) (h'.rd.keep HB) (Cb _) (Cb _)).mono ?_;exact qEo
theorem Vy (w:World):Bh w false none 0 0 0:=by
 refine ⟨rfl,?_⟩;rw [show (0:Int).natAbs=0 from rfl,Dv];exact ⟨rfl,Ad _,qB,qB,fun i=>by simp [lim],.inl rfl⟩
theorem Lv (w:World) (g:Bool) (a:Γ) (n c:Nat) (z:Int) (h:Bh w g a n c z) :
  Θ 215 #[.agg #[.bool g,.slice a n c]] w fun e w'=>e=.returned (M (Bz z 0))∧xp w w':=by
 have HB:=Ac w w;go_enter func215,ntmps215;go_wp2_with (go_at_call 249;refine (iD _ _ _ _ _ z (h.keep qD) _ _ _ _ 0 (Vy _)).mono ?_;rintro e w' ⟨rfl,hb⟩;obtain ⟨hc,hf⟩:=Bg hb;have hz:=hb.size;replace HB:=zP w hb;have qu:=HB.size);go_ret;exact ⟨rfl,HB⟩
def Bc (B:Nat) (w:World) (a:Γ) (c:Nat):Prop :=
 c=0∨∃b cur,a=some ⟨b,0,none⟩∧B≤b∧w.heap[b]? = some (.cells cur 129 (0,0))∧c≤cur.size
theorem Bc.mono {B':Nat} (h:Bc B w a c) (hB:B'≤B):Bc B' w a c :=
 h.imp id fun⟨b,cur,h1,h2,h3⟩=>⟨b,cur,h1,Ah hB h2,h3⟩
theorem Bc.less {c':Nat} (h:Bc B w a c) (hc:c'≤c):Bc B w a c':=by
 rcases h with rfl|⟨b,cur,h1,h2,h3,h4⟩
 ·exact .inl qB
 ·exact .inr ⟨b,cur,h1,h2,h3,qB⟩
theorem Bc.keep (h:Bc B w a c) (hb:xp w w'):Bc B w' a c :=
 h.imp id fun⟨b,cur,h1,h2,h3,h4⟩=>⟨b,cur,h1,h2,by rw [hb.block b (Ar.1 h3).1];exact h3,h4⟩
theorem Bc.setNew (h:Bc B w a c) (p:Addr) (u:Value) (hp:p.block<B):Bc B (w.setCell p u) a c :=
 h.imp id fun⟨b,cur,h1,h2,h3,h4⟩=>⟨b,cur,h1,h2,by rw [Below.heap_setCell _ _ _ _ qB];exact h3,h4⟩
theorem Bc.nil (B:Nat) (w:World) (a:Γ):Bc B w a 0:=.inl rfl
theorem Bc.of_owns {g:Nat} {xs:List Value} (h:w.ownsRow B 129 1 (.slice (E g) n c) n xs):Bc B w (E g) c:=by
 rcases h.2 with ⟨h',_⟩|⟨g',KE,cur,h',hb,hg,ri,qd,sj,_⟩
 ·simp at h'
 ·simp only [Value.slice.injEq,Option.some.injEq,Addr.mk.injEq,and_true,true_and] at h';obtain ⟨rfl,rfl⟩:=h';exact .inr ⟨g,cur,rfl,hb,hg,qB⟩
def Di (w:World) (z:Int) (e:Ending) (w':World):Prop :=
 ∃g a n c,e=.returned (.agg #[.bool g,.slice a n c])∧Bh w' g a n c z∧Bc w w' a c∧xp w w'
theorem cU (w:World) (a:Γ) (n c:Nat) (hc:n≤c) (_hn:n≤35184372088832) :
  Θ 254 #[.slice a n c] w fun e w'=>e=.returned (.slice a n n)∧w=w':=by
 go_enter func254,ntmps254;go_wp2;go_ret;exact ⟨rfl,rfl⟩
def sgn (g:Bool) (v:Nat):Int:=if g then -(v:Int) else v
theorem Ha (v:Nat):(sgn g v).natAbs=v:=by cases g<;>simp [sgn]
def xW (w:World) (g:Bool) (a:Γ) (c:Nat) (d:Ξ) (e:Ending) (w':World):Prop :=
 ∃g' n',e=.returned (.agg #[.bool g',.slice a n' n'])∧n'≤c∧Bh w' g' a n' n' (sgn g (val d))∧xp w w'
theorem nF {i:Nat} (h:lim d i=0):d.getD i 0=0:=by rw [Em] at h;omega
theorem Sr {g g':Bool} {k:Nat} (hd:RdL w a n c d) (bj:∀x∈d,x<1000000000) (hk:k≤n) (hz:∀i,k≤i→lim d i=0) (hl:k=0∨lim d (k-1)≠0) (hb:xp w w') (hg:g'=(g&&decide (0<k))) :
  Bh w' g' a k k (sgn g (val d)):=by
 subst hg;have he:=dY d k (by rw [hd.len];exact hk) bj (fun i hi=>nF (hz i hi)) (hl.imp id fun h h2=>h (by rw [Em,h2];rfl));have hlen:(d.take k).length=k:=by rw [List.length_take,hd.len];omega
 refine ⟨?_,?_⟩
 ·have hv:0<k↔0<val d:=by
   constructor
   ·intro h;rcases Aq (val d) with h0|h0
    ·rw [h0,Dv] at he;rw [he] at hlen;simp at hlen;omega
    ·exact h0
   ·intro h;rcases Aq k with rfl|h0
    ·rw [Hq h] at he;simp at he
    ·exact h0
  cases g
  ·simp [sgn]
  ·simp [sgn,hv]
 ·rw [Ha,←he];have ik:=hd.keep hb;refine ⟨hlen,Ad _,Ah hk hd.few,Ah (Ah hk hd.few) qB,fun i=>?_,?_⟩
  ·have:=hd.small i;by_cases hi:i<k
   ·have e:lim (d.take k) i=lim d i:=by simp [lim,List.getD,hi]
    rw [e];exact this
   ·have e:lim (d.take k) i=0:=by simp only [lim,List.getD];rw [List.getElem?_eq_none (by rw [hlen];omega)];rfl
    rw [e];omega
  ·rcases Aq k with h0|h0
   ·exact .inl h0
   ·obtain ⟨b,o,ha,gz⟩:=ik.cell.resolve_left qB;refine .inr ⟨b,o,ha,fun i hi=>?_⟩;have e:lim (d.take k) i=lim d i:=by simp [lim,List.getD,hi]
    rw [e];exact gz i qB
theorem Ft (w:World) (g:Bool) (a:Γ) (n c:Nat) (d:Ξ) (hd:RdL w a n c d) (bj:∀x∈d,x<1000000000) :
  Θ 220 #[.bool g,.slice a n c] w (xW w g a c d):=by
 have hlen:=hd.len;have oz:=hd.cap;have hn:=hd.few;have HB:=Ac w w;have HL:=Ae bj;clear bj;go_enter func220,ntmps220;go_wp2;go_loop [5] (fun v5=>∃k:Nat,k≤n∧v5=M k∧(∀i,k≤i→lim d i=0)) (fun v5=>(intOf v5).toNat)
 case atStart=>exact ⟨n,Ad _,rfl,fun i hi=>by simp [lim,List.getElem?_eq_none (show d.length≤i from qB)]⟩
 case round =>
  obtain ⟨k,hk,rfl,hz⟩:=hrel;have HZ:=Ae hz;clear hz
  match k with
  | 0 =>
   cases g
   all_goals
    go_wp2_with (go_at_call 254;refine (cU _ _ _ _ qB qB).mono ?_;rintro e w' ⟨rfl,rfl⟩);refine bodyPost_ret (v:=.agg #[.bool false,.slice a 0 0]) (by simp [results,results220,go_sem]) rfl ?_;exact ⟨_,0,rfl,qB,Sr hd HL.out hk HZ.out (.inl rfl) qD qH,qD⟩
  | j+1 =>
   rw [show ((j+1:Nat):Int)=(j:Int)+1 from qB];obtain ⟨b,o,rfl,c1⟩:=hd.at' (i:=j) qB;have rq:b<w.heap.size:=Aa w _ c1;by_cases h0:lim d j=0
   ·have h0':(lim d j==0)=true:=by simp [h0]
    have H0:=Ae h0;clear h0;go_wp2_with fail;go_round
    case rel =>
     refine ⟨j,qB,rfl,fun i hi=>?_⟩;exact qFj
    case measure=>(first|(simp [intOf];omega)|(simp [intOf];done))
   ·have h0':(lim d j==0)=false:=by simp [h0]
    have H0:=Ae h0;clear h0;cases g
    ·go_wp2_with (go_at_call 254;refine (cU _ _ _ _ qB qB).mono ?_;rintro e w' ⟨rfl,rfl⟩);refine bodyPost_ret (v:=.agg #[.bool false,.slice (some ⟨b,o,none⟩) (j+1) (j+1)]) (by simp [results,results220,go_sem]) rfl ?_;exact ⟨_,j+1,rfl,qB,Sr hd HL.out hk HZ.out (.inr H0.out) qD qH,qD⟩
    ·go_wp2_with (go_at_call 254;refine (cU _ _ _ _ qB qB).mono ?_;rintro e w' ⟨rfl,rfl⟩);refine bodyPost_ret (v:=.agg #[.bool true,.slice (some ⟨b,o,none⟩) (j+1) (j+1)]) (by simp [results,results220,go_sem]) rfl ?_;exact ⟨_,j+1,rfl,qB,Sr hd HL.out hk HZ.out (.inr H0.out) qD qH,qD⟩
end Go.Proofs.YtfijkfdfbnfmmaaGreatDoor
end
section
namespace Go.Proofs.YtfijkfdfbnfmmaaGreatDoor
open Proofs.Tryz
variable (D:Nat→Int) (m:Nat) (S:Int) (d:Ξ)
def fxI:Nat→Int→Ξ
 | 0,_=>[]
 | m+1,S=>(S%1000000000).toNat::fxI m (S/1000000000)
theorem Oe:(fxI m S).length=m:=by
 induction m generalizing S with
 | zero=>rfl
 | succ m ih=>simp [fxI,ih]
theorem Ql:∀x∈fxI m S,x<1000000000:=by
 induction m generalizing S with
 | zero=>intro x hx;cases hx
 | succ m ih =>
  intro x hx;rcases List.mem_cons.1 hx with rfl|hx
  ·omega
  ·exact ih _ x hx
theorem gZ (N:Nat):fxI m (N:Int)=fx m N:=by
 induction m generalizing N with
 | zero=>rfl
 | succ m ih =>
  rw [fxI,fx];have h1:((N:Int)%1000000000).toNat=N%1000000000:=qB;have h2:(N:Int)/1000000000=((N/1000000000:Nat):Int):=qB;rw [h1,h2,ih]
theorem rZ:fxI (m+1) S=fxI m S++[((S/1000000000 ^ m)%1000000000).toNat]:=by
 induction m generalizing S with
 | zero=>simp [fxI]
 | succ m ih =>
  rw [fxI,ih,fxI];simp only [List.cons_append,List.cons.injEq,true_and];rw [Int.ediv_ediv_of_nonneg qB,Int.pow_succ,Int.mul_comm (1000000000 ^ m)]
theorem tP (D:Int):fxI m (S+D*1000000000 ^ m)=fxI m S:=by
 induction m generalizing S D with
 | zero=>rfl
 | succ m ih =>
  rw [fxI,fxI];have e:D*1000000000 ^ (m+1)=D*1000000000 ^ m*1000000000:=by rw [Int.pow_succ,Int.mul_assoc]
  rw [e,Int.add_mul_emod_self_right,Int.add_mul_ediv_right _ _ qB,ih]
def Dc (D:Nat→Int):Nat→Int
 | 0=>0
 | m+1=>Dc D m+D m*1000000000 ^ m
theorem Te:(0:Int)<1000000000 ^ m:=Int.pow_pos qB
theorem pU:Dc D (m+1)/1000000000 ^ (m+1)=(D m+Dc D m/1000000000 ^ m)/1000000000:=by
 rw [Dc,Int.pow_succ,←Int.ediv_ediv_of_nonneg (Int.le_of_lt (Te m)),Int.add_mul_ediv_right _ _ (by have:=Te m;omega),Int.add_comm]
theorem fU:fxI (m+1) (Dc D (m+1))=fxI m (Dc D m)++[((D m+Dc D m/1000000000 ^ m)%1000000000).toNat]:=by
 rw [rZ,Dc,tP,Int.add_mul_ediv_right _ _ (by have:=Te m;omega),Int.add_comm]
theorem Oo {D D':Nat→Int} {m:Nat} (h:∀i,i<m→D i=D' i):Dc D m=Dc D' m:=by
 induction m with
 | zero=>rfl
 | succ m ih=>rw [Dc,Dc,ih (fun i hi=>h i qB),h m qB]
theorem Tp (D':Nat→Int) (m:Nat):Dc (fun i=>D i+D' i) m=Dc D m+Dc D' m:=by
 induction m with
 | zero=>rfl
 | succ m ih=>simp only [Dc,ih,Int.add_mul];omega
theorem St (k:Int) (m:Nat):Dc (fun i=>k*D i) m=k*Dc D m:=by
 induction m with
 | zero=>simp [Dc]
 | succ m ih=>simp only [Dc,ih,Int.mul_add,Int.mul_assoc]
theorem Hg (m:Nat) (hm:d.length≤m):Dc (fun i=>((d.getD i 0:Nat):Int)) m=val d:=by
 have key:∀k,k≤d.length→Dc (fun i=>((d.getD i 0:Nat):Int)) k=val (d.take k):=by
  intro k
  induction k with
  | zero=>intro _;simp [Dc,val]
  | succ k ih =>
   intro hk;rw [Dc,ih qB,Hu d k qB];rw [Int.natCast_add,Int.natCast_mul,Int.natCast_pow,Int.mul_comm];rfl
 have tail:∀k,Dc (fun i=>((d.getD i 0:Nat):Int)) (d.length+k)=val d:=by
  intro k
  induction k with
  | zero=>rw [Nat.add_zero,key _ (Ad _),List.take_length]
  | succ k ih =>
   rw [←Nat.add_assoc,Dc,ih];simp
 have:=tail (m-d.length);rwa [Nat.add_sub_cancel' hm] at this
theorem rS (t:Int) (h:t<0):t.tdiv 1000000000=-((-t)/1000000000)∧t.tmod 1000000000=-((-t)%1000000000):=by
 have h1:t=-(-t):=qB;constructor
 ·conv=>lhs;rw [h1,Int.neg_tdiv,Int.tdiv_eq_ediv_of_nonneg qB]
 ·conv=>lhs;rw [h1,Int.neg_tmod,Int.tmod_eq_emod_of_nonneg qB]
end Go.Proofs.YtfijkfdfbnfmmaaGreatDoor
end
section
namespace Go.Proofs.YtfijkfdfbnfmmaaGreatDoor
open Go.RowKit Proofs.Tryz
variable (d:Ξ) (w:World) (m:Nat) (c1 c2 c3:Value) (D:Nat→Int) (a:Γ) (n c:Nat) (d':Ξ)
def Jr (w:World) (m:Nat) (D:Nat→Int) (e:Ending) (w':World):Prop :=
 ∃a,e=.returned (.slice a m m)∧RdL w' a m m (fxI m (Dc D m))∧Bc w w' a m∧xp w w'
theorem kD (hm:m≤35184372088832)
  (hD:∀i,i<m→-4000000000000000000≤D i∧D i≤4000000000000000000)
  (ko:∀(i:Nat) (W:World),i<m→xp w W→Θ 291 #[M i,c1,c2,c3] W fun e W'=>e=.returned (M (D i))∧xp W W') :
  Θ 290 #[M m,.func (.func 291) #[] #[c1,c2,c3]] w (Jr w m D):=qAc
theorem kR (hm:m≤35184372088832)
  (hD:∀i,i<m→-4000000000000000000≤D i∧D i≤4000000000000000000)
  (ko:∀(i:Nat) (W:World),i<m→xp w W→Θ 347 #[M i,c1,c2] W fun e W'=>e=.returned (M (D i))∧xp W W') :
  Θ 290 #[M m,.func (.func 347) #[] #[c1,c2]] w (Jr w m D):=qAc
theorem jU (hm:m≤35184372088832)
  (hD:∀i,i<m→-4000000000000000000≤D i∧D i≤4000000000000000000)
  (ko:∀(i:Nat) (W:World),i<m→xp w W→Θ 320 #[M i,c1,c2,c3] W fun e W'=>e=.returned (M (D i))∧xp W W') :
  Θ 290 #[M m,.func (.func 320) #[] #[c1,c2,c3]] w (Jr w m D):=qAc
theorem Mm {d:Ξ} {i:Nat} (h:d.length≤i):lim d i=0:=by simp [lim,List.getElem?_eq_none h]
theorem H8 (d:Ξ) (i:Nat) (hd:RdL w a n c d) :
  Θ 292 #[.slice a n c,M i] w fun e w'=>e=.returned (M (lim d i))∧w=w':=by
 by_cases h:i<n
 ·obtain ⟨b,o,rfl,c1⟩:=hd.at' h;have hn:=hd.few;have hs:=hd.small i;go_enter func292,ntmps292;go_wp2;go_ret;exact ⟨rfl,rfl⟩
 ·have e:lim d i=0:=Mm (by rw [hd.len];omega);rw [e];have h':n≤i:=qB;go_enter func292,ntmps292;go_wp2;go_ret;exact ⟨rfl,rfl⟩
theorem bC (A S C:Nat) (a:Γ) (n c:Nat) (d:Ξ) (a':Γ) (n' c':Nat) (d':Ξ) (i:Nat) (hd:RdL w a n c d) (ik:RdL w a' n' c' d')
  (h1:Z w A 1 (.slice a n c)) (h2:Z w S 0 (M 1)) (h3:Z w C 1 (.slice a' n' c')) :
  Θ 291 #[M i,.pointer (E A),.pointer (E S),.pointer (E C)] w fun e w'=>e=.returned (M (lim d i+lim d' i))∧xp w w':=by
 have hs:=hd.small i;have xw:=ik.small i;go_enter func291,ntmps291;go_wp2;go_quiet ((first|(go_at_call 292;first|exact Gi (H8 _ _ _ _ d i (hd.keep (Bj _ (Ac _ _))))|exact Gi (H8 _ _ _ _ d' i (ik.keep (Bj _ (Ac _ _))))|exact Fj (H8 _ _ _ _ d i (hd.keep (Bj _ (Ac _ _))))|exact Fj (H8 _ _ _ _ d' i (ik.keep (Bj _ (Ac _ _)))))));exact qFe
theorem aS (A S C:Nat) (a:Γ) (n c:Nat) (d:Ξ) (a':Γ) (n' c':Nat) (d':Ξ) (i:Nat) (hd:RdL w a n c d) (ik:RdL w a' n' c' d')
  (h1:Z w A 1 (.slice a n c)) (h2:Z w S 0 (M (-1))) (h3:Z w C 1 (.slice a' n' c')) :
  Θ 291 #[M i,.pointer (E A),.pointer (E S),.pointer (E C)] w fun e w'=>e=.returned (M (lim d i-lim d' i))∧xp w w':=by
 have hs:=hd.small i;have xw:=ik.small i;go_enter func291,ntmps291;go_wp2;go_quiet ((first|(go_at_call 292;first|exact Gi (H8 _ _ _ _ d i (hd.keep (Bj _ (Ac _ _))))|exact Gi (H8 _ _ _ _ d' i (ik.keep (Bj _ (Ac _ _))))|exact Fj (H8 _ _ _ _ d i (hd.keep (Bj _ (Ac _ _))))|exact Fj (H8 _ _ _ _ d' i (ik.keep (Bj _ (Ac _ _)))))));go_wp2;go_ret;exact ⟨by simp [Int.sub_eq_add_neg],Bj _ (Ac _ _)⟩
theorem gK (m:Nat) (h:d.length<m) (h':d'.length<m):Dc (fun i=>lim d i+lim d' i) m=((val d+val d':Nat):Int):=by
 rw [Tp (fun i=>lim d i) (fun i=>lim d' i),show Dc (fun i=>lim d i) m=val d from Hg d m qB,show Dc (fun i=>lim d' i) m=val d' from Hg d' m qB];omega
theorem gY (m:Nat) (h:d.length<m) (h':d'.length<m) (hv:val d'≤val d):Dc (fun i=>lim d i-lim d' i) m=((val d-val d':Nat):Int):=by
 have e:Dc (fun i=>lim d i-lim d' i) m=Dc (fun i=>lim d i+(fun i=>(-1)*lim d' i) i) m:=Oo (fun i _=>by show lim d i-lim d' i=lim d i+(-1)*lim d' i;omega);rw [e,Tp (fun i=>lim d i) (fun i=>(-1)*lim d' i),St (fun i=>lim d' i),show Dc (fun i=>lim d i) m=val d from Hg d m qB,show Dc (fun i=>lim d' i) m=val d' from Hg d' m qB];omega
theorem Qb (N:Nat) (h:N<1000000000 ^ m):val (fxI m (N:Int))=N:=by rw [gZ,Qw m N h]
theorem Km (zh:Int) (m:Nat) (hM:zh=m) (c1 c2 c3:Value) (D:Nat→Int) (hm:m≤35184372088832)
  (hD:∀i,i<m→-4000000000000000000≤D i∧D i≤4000000000000000000)
  (ko:∀(i:Nat) (W:World),i<m→xp w W→Θ 291 #[M i,c1,c2,c3] W fun e W'=>e=.returned (M (D i))∧xp W W') :
  Θ 290 #[M zh,.func (.func 291) #[] #[c1,c2,c3]] w (Jr w m D):=by
 subst hM;exact kD w m c1 c2 c3 D hm hD ko
end Go.Proofs.YtfijkfdfbnfmmaaGreatDoor
end
