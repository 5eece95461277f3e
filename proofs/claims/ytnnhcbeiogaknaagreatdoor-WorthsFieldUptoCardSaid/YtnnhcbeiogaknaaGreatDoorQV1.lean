/- Package limbs: of, Cmp, Sign, of numbers that may be. -/
import Derived.Test.YtnnhcbeiogaknaaGreatDoorQV0
set_option linter.unusedSimpArgs false
set_option linter.unusedVariables false
set_option maxRecDepth 100000
set_option maxHeartbeats 4000000
section
namespace Go.Proofs.YtnnhcbeiogaknaaGreatDoor
open Go.RowKit
structure Bh (w:World) (g:Bool) (a:Γ) (n c:Nat) (z:Int):Prop where
 neg:g=decide (z<0)
 rd:RdL w a n c (dg z.natAbs)
theorem Bh.keep {w w':World} {g:Bool} {a:Γ} {n c:Nat} {z:Int} (h:Bh w g a n c z) (hb:Below w.heap.size w w'):Bh w' g a n c z:=⟨h.neg,h.rd.keep hb⟩
theorem Bh.okay {w:World} {g:Bool} {a:Γ} {n c:Nat} {z:Int} (h:Bh w g a n c z):Qz g (dg z.natAbs):=by
 refine ⟨Ch _,fun e=>?_⟩;have hv:=Bq z.natAbs;rw [e,val] at hv;rw [h.neg];simp
 omega
theorem Gz {w:World} {g:Bool} {a:Γ} {n c:Nat} {d:Ξ} (h:RdL w a n c d) (ho:Qz g d):Bh w g a n c (if g then -(val d:Int) else val d):=by
 have hd:=Fw ho.1;cases g
 ·refine ⟨by simp,?_⟩;simp only [Bool.false_eq_true,if_false,Int.natAbs_natCast];rw [hd];exact h
 ·have hne:d≠[]:=fun e=>by have:=ho.2 e;simp at this
  have:=Cv ho.1 hne;refine ⟨by simp;omega,?_⟩;simp only [if_true,Int.natAbs_neg,Int.natAbs_natCast];rw [hd];exact h
def vO (w:World) (g:Bool) (a:Γ) (n c:Nat) (e:Ending) (w':World):Prop:=e=.returned (.agg #[.bool g,.slice a n c])∧Below w.heap.size w w'
theorem In (w:World) (g:Bool) (a:Γ) (n c:Nat) (z:Int) (h:Bh w g a n c z) :
  Θ 125 #[.agg #[.bool g,.slice a n c]] w (vO w g a n c):=by
 have HB:=Ac w.heap.size w;have ho:=Ae h.okay;go_enter Tryz.func125,Tryz.ntmps125;go_wp2_with fail;refine (Cy _ _ _ _ _ (dg z.natAbs) (h.rd.keep qF) true ⟨fun _=>rfl,fun _=>ho.out⟩).mono ?_;rintro e w1 ⟨rfl,hb⟩;obtain ⟨hc,hf⟩:=Bl hb;have hz:=hb.size;(try simp only [Aj,Ak] at hz);replace HB:=zI w hb;obtain ⟨s0_0,s0_1⟩:=qZ hc (w.heap.size) (.bool g) (.slice a n c);obtain ⟨s1_0,s1_1⟩:=zE hc (w.heap.size+1);obtain ⟨f1_0,f1_1⟩:=zF hf (w.heap.size+1);go_wp2_with fail;refine bodyPost_ret (v:=.agg #[.bool g,.slice a n c]) (by simp [results,Tryz.results125,go_sem,s1_0,s1_1]) rfl ?_;exact ⟨rfl,by go_grown⟩
theorem Xz {z z':Int}:Bz (val (dg z.natAbs)) (val (dg z'.natAbs))=Bz z.natAbs z'.natAbs:=by rw [Bq,Bq]
theorem Tg {x y z t:Int} (h1:x<y↔z<t) (h2:x=y↔z=t):Bz x y=Bz z t:=by
 unfold Bz;simp only [h1,h2]
theorem S9 (w:World) (g:Bool) (a:Γ) (n c:Nat) (z:Int) (h:Bh w g a n c z) (g':Bool) (a':Γ) (n' c':Nat) (z':Int) (h':Bh w g' a' n' c' z') :
  Θ 63 #[.agg #[.bool g,.slice a n c],.agg #[.bool g',.slice a' n' c']] w fun e w'=>e=.returned (.int .i64 (Bz z z'))∧Below w.heap.size w w':=by
 have HB:=Ac w.heap.size w;have hg:=h.neg;have hg':=h'.neg;rcases Bool.eq_false_or_eq_true g with hgt|hgt<;>rcases Bool.eq_false_or_eq_true g' with hgt'|hgt'<;>subst hgt<;>subst hgt'
 ·have hz:z<0:=by simpa using hg.symm
  have hz':z'<0:=by simpa using hg'.symm
  have HR:=Ae (show Bz z z'=Bz (val (dg z'.natAbs)) (val (dg z.natAbs)) by rw [Xz];exact Tg qA qA);clear hg hg' hz hz';go_enter Tryz.func63,Tryz.ntmps63;go_wp2_with fail;go_region_held3 (fun W=>W.cell? ⟨w.heap.size,0,none⟩=some (.bool true)∧W.cell? ⟨w.heap.size,1,none⟩=some (.slice a n c)∧W.cell? ⟨w.heap.size+1,0,none⟩=some (.bool true)∧W.cell? ⟨w.heap.size+1,1,none⟩=some (.slice a' n' c')) (first|((try dsimp only);(repeat' apply Ay);all_goals (first|(with_reducible assumption)|(go_keep;done)|(simp [*,go_sem];done)))) (first
   | (go_at_call 125;(with_reducible refine (In _ true a n c z (h.keep qF)).mono ?_);rintro e w1 ⟨rfl,hb⟩;obtain ⟨hc,hf⟩:=Bl hb;have hz:=hb.size;(try simp only [Aj,Ak] at hz);replace HB:=zI w hb;obtain ⟨s0_0,s0_1⟩:=qZ hc (w.heap.size) (.bool true) (.slice a n c);obtain ⟨s1_0,s1_1⟩:=qZ hc (w.heap.size+1) (.bool true) (.slice a' n' c');obtain ⟨f0_0,f0_1⟩:=zF hf (w.heap.size);obtain ⟨f1_0,f1_1⟩:=zF hf (w.heap.size+1))
   | (go_at_call 125;(with_reducible refine (In _ true a' n' c' z' (h'.keep qF)).mono ?_);rintro e w1 ⟨rfl,hb⟩;obtain ⟨hc,hf⟩:=Bl hb;have hz:=hb.size;(try simp only [Aj,Ak] at hz);replace HB:=zI w hb;obtain ⟨s0_0,s0_1⟩:=qZ hc (w.heap.size) (.bool true) (.slice a n c);obtain ⟨s1_0,s1_1⟩:=qZ hc (w.heap.size+1) (.bool true) (.slice a' n' c');obtain ⟨f0_0,f0_1⟩:=zF hf (w.heap.size);obtain ⟨f1_0,f1_1⟩:=zF hf (w.heap.size+1)))
  replace HB:Below w.heap.size w ((((w1.setCell ⟨w.heap.size,0,none⟩ (.bool true)).setCell ⟨w.heap.size,1,none⟩ (.slice a n c)).setCell ⟨w.heap.size+1,0,none⟩ (.bool true)).setCell ⟨w.heap.size+1,1,none⟩ (.slice a' n' c')):=by go_grown
  go_wp2_with fail;refine (Es _ _ _ _ (dg z'.natAbs) _ _ _ (dg z.natAbs) (h'.rd.keep HB) (h.rd.keep HB) (Ch _) (Ch _)).mono ?_;exact qDe
 ·have hz:z<0:=by simpa using hg.symm
  have hz':¬z'<0:=by simpa using hg'.symm
  have HR:=Ae (show Bz z z'=-1 from Dx qA);clear hg hg' hz hz';go_enter Tryz.func63,Tryz.ntmps63;go_wp2_with fail;go_region_held3 (fun W=>W.cell? ⟨w.heap.size,0,none⟩=some (.bool true)∧W.cell? ⟨w.heap.size,1,none⟩=some (.slice a n c)∧W.cell? ⟨w.heap.size+1,0,none⟩=some (.bool false)∧W.cell? ⟨w.heap.size+1,1,none⟩=some (.slice a' n' c')) (first|((try dsimp only);(repeat' apply Ay);all_goals (first|(with_reducible assumption)|(go_keep;done)|(simp [*,go_sem];done)))) (first
   | (go_at_call 125;(with_reducible refine (In _ true a n c z (h.keep qF)).mono ?_);rintro e w1 ⟨rfl,hb⟩;obtain ⟨hc,hf⟩:=Bl hb;have hz:=hb.size;(try simp only [Aj,Ak] at hz);replace HB:=zI w hb;obtain ⟨s0_0,s0_1⟩:=qZ hc (w.heap.size) (.bool true) (.slice a n c);obtain ⟨s1_0,s1_1⟩:=qZ hc (w.heap.size+1) (.bool false) (.slice a' n' c');obtain ⟨f0_0,f0_1⟩:=zF hf (w.heap.size);obtain ⟨f1_0,f1_1⟩:=zF hf (w.heap.size+1))
   | (go_at_call 125;(with_reducible refine (In _ false a' n' c' z' (h'.keep qF)).mono ?_);rintro e w1 ⟨rfl,hb⟩;obtain ⟨hc,hf⟩:=Bl hb;have hz:=hb.size;(try simp only [Aj,Ak] at hz);replace HB:=zI w hb;obtain ⟨s0_0,s0_1⟩:=qZ hc (w.heap.size) (.bool true) (.slice a n c);obtain ⟨s1_0,s1_1⟩:=qZ hc (w.heap.size+1) (.bool false) (.slice a' n' c');obtain ⟨f0_0,f0_1⟩:=zF hf (w.heap.size);obtain ⟨f1_0,f1_1⟩:=zF hf (w.heap.size+1)))
  replace HB:Below w.heap.size w ((((w1.setCell ⟨w.heap.size,0,none⟩ (.bool true)).setCell ⟨w.heap.size,1,none⟩ (.slice a n c)).setCell ⟨w.heap.size+1,0,none⟩ (.bool false)).setCell ⟨w.heap.size+1,1,none⟩ (.slice a' n' c')):=by go_grown
  go_wp2_with fail;go_ret;exact ⟨by rw [HR.out];rfl,HB⟩
 ·have hz:¬z<0:=by simpa using hg.symm
  have hz':z'<0:=by simpa using hg'.symm
  have HR:=Ae (show Bz z z'=1 from Ee qA);clear hg hg' hz hz';go_enter Tryz.func63,Tryz.ntmps63;go_wp2_with fail;go_region_held3 (fun W=>W.cell? ⟨w.heap.size,0,none⟩=some (.bool false)∧W.cell? ⟨w.heap.size,1,none⟩=some (.slice a n c)∧W.cell? ⟨w.heap.size+1,0,none⟩=some (.bool true)∧W.cell? ⟨w.heap.size+1,1,none⟩=some (.slice a' n' c')) (first|((try dsimp only);(repeat' apply Ay);all_goals (first|(with_reducible assumption)|(go_keep;done)|(simp [*,go_sem];done)))) (first
   | (go_at_call 125;(with_reducible refine (In _ false a n c z (h.keep qF)).mono ?_);rintro e w1 ⟨rfl,hb⟩;obtain ⟨hc,hf⟩:=Bl hb;have hz:=hb.size;(try simp only [Aj,Ak] at hz);replace HB:=zI w hb;obtain ⟨s0_0,s0_1⟩:=qZ hc (w.heap.size) (.bool false) (.slice a n c);obtain ⟨s1_0,s1_1⟩:=qZ hc (w.heap.size+1) (.bool true) (.slice a' n' c');obtain ⟨f0_0,f0_1⟩:=zF hf (w.heap.size);obtain ⟨f1_0,f1_1⟩:=zF hf (w.heap.size+1))
   | (go_at_call 125;(with_reducible refine (In _ true a' n' c' z' (h'.keep qF)).mono ?_);rintro e w1 ⟨rfl,hb⟩;obtain ⟨hc,hf⟩:=Bl hb;have hz:=hb.size;(try simp only [Aj,Ak] at hz);replace HB:=zI w hb;obtain ⟨s0_0,s0_1⟩:=qZ hc (w.heap.size) (.bool false) (.slice a n c);obtain ⟨s1_0,s1_1⟩:=qZ hc (w.heap.size+1) (.bool true) (.slice a' n' c');obtain ⟨f0_0,f0_1⟩:=zF hf (w.heap.size);obtain ⟨f1_0,f1_1⟩:=zF hf (w.heap.size+1)))
  replace HB:Below w.heap.size w ((((w1.setCell ⟨w.heap.size,0,none⟩ (.bool false)).setCell ⟨w.heap.size,1,none⟩ (.slice a n c)).setCell ⟨w.heap.size+1,0,none⟩ (.bool true)).setCell ⟨w.heap.size+1,1,none⟩ (.slice a' n' c')):=by go_grown
  go_wp2_with fail;go_ret;exact ⟨by rw [HR.out];rfl,HB⟩
 ·have hz:¬z<0:=by simpa using hg.symm
  have hz':¬z'<0:=by simpa using hg'.symm
  have HR:=Ae (show Bz z z'=Bz (val (dg z.natAbs)) (val (dg z'.natAbs)) by rw [Xz];exact Tg qA qA);clear hg hg' hz hz';go_enter Tryz.func63,Tryz.ntmps63;go_wp2_with fail;go_region_held3 (fun W=>W.cell? ⟨w.heap.size,0,none⟩=some (.bool false)∧W.cell? ⟨w.heap.size,1,none⟩=some (.slice a n c)∧W.cell? ⟨w.heap.size+1,0,none⟩=some (.bool false)∧W.cell? ⟨w.heap.size+1,1,none⟩=some (.slice a' n' c')) (first|((try dsimp only);(repeat' apply Ay);all_goals (first|(with_reducible assumption)|(go_keep;done)|(simp [*,go_sem];done)))) (first
   | (go_at_call 125;(with_reducible refine (In _ false a n c z (h.keep qF)).mono ?_);rintro e w1 ⟨rfl,hb⟩;obtain ⟨hc,hf⟩:=Bl hb;have hz:=hb.size;(try simp only [Aj,Ak] at hz);replace HB:=zI w hb;obtain ⟨s0_0,s0_1⟩:=qZ hc (w.heap.size) (.bool false) (.slice a n c);obtain ⟨s1_0,s1_1⟩:=qZ hc (w.heap.size+1) (.bool false) (.slice a' n' c');obtain ⟨f0_0,f0_1⟩:=zF hf (w.heap.size);obtain ⟨f1_0,f1_1⟩:=zF hf (w.heap.size+1))
   | (go_at_call 125;(with_reducible refine (In _ false a' n' c' z' (h'.keep qF)).mono ?_);rintro e w1 ⟨rfl,hb⟩;obtain ⟨hc,hf⟩:=Bl hb;have hz:=hb.size;(try simp only [Aj,Ak] at hz);replace HB:=zI w hb;obtain ⟨s0_0,s0_1⟩:=qZ hc (w.heap.size) (.bool false) (.slice a n c);obtain ⟨s1_0,s1_1⟩:=qZ hc (w.heap.size+1) (.bool false) (.slice a' n' c');obtain ⟨f0_0,f0_1⟩:=zF hf (w.heap.size);obtain ⟨f1_0,f1_1⟩:=zF hf (w.heap.size+1)))
  replace HB:Below w.heap.size w ((((w1.setCell ⟨w.heap.size,0,none⟩ (.bool false)).setCell ⟨w.heap.size,1,none⟩ (.slice a n c)).setCell ⟨w.heap.size+1,0,none⟩ (.bool false)).setCell ⟨w.heap.size+1,1,none⟩ (.slice a' n' c')):=by go_grown
  go_wp2_with fail;refine (Es _ _ _ _ (dg z.natAbs) _ _ _ (dg z'.natAbs) (h.rd.keep HB) (h'.rd.keep HB) (Ch _) (Ch _)).mono ?_;exact qDe
theorem Uy (w:World):Bh w false none 0 0 0:=by
 refine ⟨rfl,?_⟩;rw [show (0:Int).natAbs=0 from rfl,De];exact ⟨rfl,Ad _,by omega,by omega,fun i=>by simp [lim],.inl rfl⟩
theorem La (w:World) (g:Bool) (a:Γ) (n c:Nat) (z:Int) (h:Bh w g a n c z) :
  Θ 122 #[.agg #[.bool g,.slice a n c]] w fun e w'=>e=.returned (.int .i64 (Bz z 0))∧Below w.heap.size w w':=by
 have HB:=Ac w.heap.size w;go_enter Tryz.func122,Tryz.ntmps122;go_wp2_with (go_at_call 63;refine (S9 _ _ _ _ _ z (h.keep qF) _ _ _ _ 0 (Uy _)).mono ?_;rintro e w' ⟨rfl,hb⟩;obtain ⟨hc,hf⟩:=Bl hb;have hz:=hb.size;replace HB:=zI w hb;have HBz:=HB.size);go_ret;exact ⟨rfl,HB⟩
def Bg (B:Nat) (w:World) (a:Γ) (c:Nat):Prop :=
 c=0∨∃b cur,a=some ⟨b,0,none⟩∧B≤b∧w.heap[b]? = some (.cells cur 147 (0,0))∧c≤cur.size
theorem Bg.mono {B B':Nat} {w:World} {a:Γ} {c:Nat} (h:Bg B w a c) (hB:B'≤B):Bg B' w a c :=
 h.imp id fun⟨b,cur,h1,h2,h3⟩=>⟨b,cur,h1,Ah hB h2,h3⟩
theorem Bg.less {B:Nat} {w:World} {a:Γ} {c c':Nat} (h:Bg B w a c) (hc:c'≤c):Bg B w a c':=by
 rcases h with rfl|⟨b,cur,h1,h2,h3,h4⟩
 ·exact .inl qA
 ·exact .inr ⟨b,cur,h1,h2,h3,by omega⟩
theorem Bg.keep {B:Nat} {w w':World} {a:Γ} {c:Nat} (h:Bg B w a c) (hb:Below w.heap.size w w'):Bg B w' a c :=
 h.imp id fun⟨b,cur,h1,h2,h3,h4⟩=>⟨b,cur,h1,h2,by rw [hb.block b (Ar.1 h3).1];exact h3,h4⟩
theorem Bg.setNew {B:Nat} {w:World} {a:Γ} {c:Nat} (h:Bg B w a c) (p:Addr) (u:Value) (hp:p.block<B):Bg B (w.setCell p u) a c :=
 h.imp id fun⟨b,cur,h1,h2,h3,h4⟩=>⟨b,cur,h1,h2,by rw [Below.heap_setCell _ _ _ _ qA];exact h3,h4⟩
theorem Bg.of_owns {w:World} {B g n c:Nat} {xs:List Value} (h:w.ownsRow B 147 1 (.slice (some ⟨g,0,none⟩) n c) n xs):Bg B w (some ⟨g,0,none⟩) c:=by
 rcases h.2 with ⟨h',_⟩|⟨g',cap',cur,h',hb,hg,hnc,hcm,hcs,_⟩
 ·simp at h'
 ·simp only [Value.slice.injEq,Option.some.injEq,Addr.mk.injEq,and_true,true_and] at h';obtain ⟨rfl,rfl⟩:=h';exact .inr ⟨g,cur,rfl,hb,hg,by omega⟩
def Fc (w:World) (z:Int) (e:Ending) (w':World):Prop :=
 ∃g a n c,e=.returned (.agg #[.bool g,.slice a n c])∧Bh w' g a n c z∧Bg w.heap.size w' a c∧Below w.heap.size w w'
theorem aO (w:World) (a:Γ) (n c:Nat) (hc:n≤c) (_hn:n≤35184372088832) :
  Θ 168 #[.slice a n c] w fun e w'=>e=.returned (.slice a n n)∧w=w':=by
 go_enter Tryz.func168,Tryz.ntmps168;go_wp2;go_ret;exact ⟨rfl,rfl⟩
def sgn (g:Bool) (v:Nat):Int:=if g then -(v:Int) else v
theorem Hs (g:Bool) (v:Nat):(sgn g v).natAbs=v:=by cases g<;>simp [sgn]
def zO (w:World) (g:Bool) (a:Γ) (c:Nat) (d:Ξ) (e:Ending) (w':World):Prop :=
 ∃g' n',e=.returned (.agg #[.bool g',.slice a n' n'])∧n'≤c∧Bh w' g' a n' n' (sgn g (val d))∧Below w.heap.size w w'
theorem mP {d:Ξ} {i:Nat} (h:lim d i=0):d.getD i 0=0:=by rw [Fr] at h;omega
theorem Xc {w w':World} {g g':Bool} {a:Γ} {n c k:Nat} {d:Ξ} (hd:RdL w a n c d) (hlt:∀x∈d,x<1000000000) (hk:k≤n) (hz:∀i,k≤i→lim d i=0) (hl:k=0∨lim d (k-1)≠0) (hb:Below w.heap.size w w') (hg:g'=(g&&decide (0<k))) :
  Bh w' g' a k k (sgn g (val d)):=by
 subst hg;have he:=cD d k (by rw [hd.len];exact hk) hlt (fun i hi=>mP (hz i hi)) (hl.imp id fun h h2=>h (by rw [Fr,h2];rfl));have hlen:(d.take k).length=k:=by rw [List.length_take,hd.len];omega
 refine ⟨?_,?_⟩
 ·have hv:0<k↔0<val d:=by
   constructor
   ·intro h;rcases Aq (val d) with h0|h0
    ·rw [h0,De] at he;rw [he] at hlen;simp at hlen;omega
    ·exact h0
   ·intro h;rcases Aq k with rfl|h0
    ·rw [Hg h] at he;simp at he
    ·exact h0
  cases g
  ·simp [sgn]
  ·simp [sgn,hv]
 ·rw [Hs,←he];have hd':=hd.keep hb;refine ⟨hlen,Ad _,Ah hk hd.few,Ah (Ah hk hd.few) qA,fun i=>?_,?_⟩
  ·have:=hd.small i;by_cases hi:i<k
   ·have e:lim (d.take k) i=lim d i:=by simp [lim,List.getD,hi]
    rw [e];exact this
   ·have e:lim (d.take k) i=0:=by simp only [lim,List.getD];rw [List.getElem?_eq_none (by rw [hlen];omega)];rfl
    rw [e];omega
  ·rcases Aq k with h0|h0
   ·exact .inl h0
   ·obtain ⟨b,o,ha,hcell⟩:=hd'.cell.resolve_left qA;refine .inr ⟨b,o,ha,fun i hi=>?_⟩;have e:lim (d.take k) i=lim d i:=by simp [lim,List.getD,hi]
    rw [e];exact hcell i qA
theorem E9 (w:World) (g:Bool) (a:Γ) (n c:Nat) (d:Ξ) (hd:RdL w a n c d) (hlt:∀x∈d,x<1000000000) :
  Θ 97 #[.bool g,.slice a n c] w (zO w g a c d):=by
 have hlen:=hd.len;have hcap:=hd.cap;have hn:=hd.few;have HB:=Ac w.heap.size w;have HL:=Ae hlt;clear hlt;go_enter Tryz.func97,Tryz.ntmps97;go_wp2;go_loop [5] (fun v5=>∃k:Nat,k≤n∧v5=.int .i64 k∧(∀i,k≤i→lim d i=0)) (fun v5=>(intOf v5).toNat)
 case atStart=>exact ⟨n,Ad _,rfl,fun i hi=>by simp [lim,List.getElem?_eq_none (show d.length≤i by omega)]⟩
 case round =>
  obtain ⟨k,hk,rfl,hz⟩:=hrel;have HZ:=Ae hz;clear hz
  match k with
  | 0 =>
   cases g
   all_goals
    go_wp2_with (go_at_call 168;refine (aO _ _ _ _ qA qA).mono ?_;rintro e w' ⟨rfl,rfl⟩);refine bodyPost_ret (v:=.agg #[.bool false,.slice a 0 0]) (by simp [results,Tryz.results97,go_sem]) rfl ?_;exact ⟨_,0,rfl,by omega,Xc hd HL.out hk HZ.out (.inl rfl) qF qG,by go_grown⟩
  | j+1 =>
   rw [show ((j+1:Nat):Int)=(j:Int)+1 from by omega];obtain ⟨b,o,rfl,c1⟩:=hd.at' (i:=j) qA;have hbl:b<w.heap.size:=Aa w _ c1;by_cases h0:lim d j=0
   ·have h0':(lim d j==0)=true:=by simp [h0]
    have H0:=Ae h0;clear h0;go_wp2_with fail;go_round
    case rel =>
     refine ⟨j,by omega,rfl,fun i hi=>?_⟩;rcases Nat.lt_or_ge j i with h|h
     ·exact HZ.out i h
     ·obtain rfl:i=j:=by omega
      exact H0.out
    case measure=>(first|(simp [intOf];omega)|(simp [intOf];done))
   ·have h0':(lim d j==0)=false:=by simp [h0]
    have H0:=Ae h0;clear h0;cases g
    ·go_wp2_with (go_at_call 168;refine (aO _ _ _ _ qA qA).mono ?_;rintro e w' ⟨rfl,rfl⟩);refine bodyPost_ret (v:=.agg #[.bool false,.slice (some ⟨b,o,none⟩) (j+1) (j+1)]) (by simp [results,Tryz.results97,go_sem]) rfl ?_;exact ⟨_,j+1,rfl,by omega,Xc hd HL.out hk HZ.out (.inr H0.out) qF qG,by go_grown⟩
    ·go_wp2_with (go_at_call 168;refine (aO _ _ _ _ qA qA).mono ?_;rintro e w' ⟨rfl,rfl⟩);refine bodyPost_ret (v:=.agg #[.bool true,.slice (some ⟨b,o,none⟩) (j+1) (j+1)]) (by simp [results,Tryz.results97,go_sem]) rfl ?_;exact ⟨_,j+1,rfl,by omega,Xc hd HL.out hk HZ.out (.inr H0.out) qF qG,by go_grown⟩
end Go.Proofs.YtnnhcbeiogaknaaGreatDoor
end
section
namespace Go.Proofs.YtnnhcbeiogaknaaGreatDoor
def fxI:Nat→Int→Ξ
 | 0,_=>[]
 | m+1,S=>(S%1000000000).toNat::fxI m (S/1000000000)
theorem Mz (m:Nat) (S:Int):(fxI m S).length=m:=by
 induction m generalizing S with
 | zero=>rfl
 | succ m ih=>simp [fxI,ih]
theorem Pj (m:Nat) (S:Int):∀x∈fxI m S,x<1000000000:=by
 induction m generalizing S with
 | zero=>intro x hx;cases hx
 | succ m ih =>
  intro x hx;rcases List.mem_cons.1 hx with rfl|hx
  ·omega
  ·exact ih _ x hx
theorem fG (m N:Nat):fxI m (N:Int)=fx m N:=by
 induction m generalizing N with
 | zero=>rfl
 | succ m ih =>
  rw [fxI,fx];have h1:((N:Int)%1000000000).toNat=N%1000000000:=by omega
  have h2:(N:Int)/1000000000=((N/1000000000:Nat):Int):=by omega
  rw [h1,h2,ih]
theorem sZ (m:Nat) (S:Int):fxI (m+1) S=fxI m S++[((S/1000000000 ^ m)%1000000000).toNat]:=by
 induction m generalizing S with
 | zero=>simp [fxI]
 | succ m ih =>
  rw [fxI,ih,fxI];simp only [List.cons_append,List.cons.injEq,true_and];rw [Int.ediv_ediv_of_nonneg qA,Int.pow_succ,Int.mul_comm (1000000000 ^ m)]
theorem uP (m:Nat) (S D:Int):fxI m (S+D*1000000000 ^ m)=fxI m S:=by
 induction m generalizing S D with
 | zero=>rfl
 | succ m ih =>
  rw [fxI,fxI];have e:D*1000000000 ^ (m+1)=D*1000000000 ^ m*1000000000:=by rw [Int.pow_succ,Int.mul_assoc]
  rw [e,Int.add_mul_emod_self_right,Int.add_mul_ediv_right _ _ qA,ih]
def Cz (D:Nat→Int):Nat→Int
 | 0=>0
 | m+1=>Cz D m+D m*1000000000 ^ m
theorem Ry (m:Nat):(0:Int)<1000000000 ^ m:=Int.pow_pos qA
theorem rC (D:Nat→Int) (m:Nat):Cz D (m+1)/1000000000 ^ (m+1)=(D m+Cz D m/1000000000 ^ m)/1000000000:=by
 rw [Cz,Int.pow_succ,←Int.ediv_ediv_of_nonneg (Int.le_of_lt (Ry m)),Int.add_mul_ediv_right _ _ (by have:=Ry m;omega),Int.add_comm]
theorem dY (D:Nat→Int) (m:Nat):fxI (m+1) (Cz D (m+1))=fxI m (Cz D m)++[((D m+Cz D m/1000000000 ^ m)%1000000000).toNat]:=by
 rw [sZ,Cz,uP,Int.add_mul_ediv_right _ _ (by have:=Ry m;omega),Int.add_comm]
theorem Nk {D D':Nat→Int} {m:Nat} (h:∀i,i<m→D i=D' i):Cz D m=Cz D' m:=by
 induction m with
 | zero=>rfl
 | succ m ih=>rw [Cz,Cz,ih (fun i hi=>h i qA),h m qA]
theorem Si (D D':Nat→Int) (m:Nat):Cz (fun i=>D i+D' i) m=Cz D m+Cz D' m:=by
 induction m with
 | zero=>rfl
 | succ m ih=>simp only [Cz,ih,Int.add_mul];omega
theorem Rn (D:Nat→Int) (k:Int) (m:Nat):Cz (fun i=>k*D i) m=k*Cz D m:=by
 induction m with
 | zero=>simp [Cz]
 | succ m ih=>simp only [Cz,ih,Int.mul_add,Int.mul_assoc]
theorem Gm (d:Ξ) (m:Nat) (hm:d.length≤m):Cz (fun i=>((d.getD i 0:Nat):Int)) m=val d:=by
 have key:∀k,k≤d.length→Cz (fun i=>((d.getD i 0:Nat):Int)) k=val (d.take k):=by
  intro k
  induction k with
  | zero=>intro _;simp [Cz,val]
  | succ k ih =>
   intro hk;rw [Cz,ih qA,G2 d k qA];rw [Int.natCast_add,Int.natCast_mul,Int.natCast_pow,Int.mul_comm];rfl
 have tail:∀k,Cz (fun i=>((d.getD i 0:Nat):Int)) (d.length+k)=val d:=by
  intro k
  induction k with
  | zero=>rw [Nat.add_zero,key _ (Ad _),List.take_length]
  | succ k ih =>
   rw [←Nat.add_assoc,Cz,ih];simp
 have:=tail (m-d.length);rwa [Nat.add_sub_cancel' hm] at this
theorem sP (t:Int) (h:t<0):t.tdiv 1000000000=-((-t)/1000000000)∧t.tmod 1000000000=-((-t)%1000000000):=by
 have h1:t=-(-t):=by omega
 constructor
 ·conv=>lhs;rw [h1,Int.neg_tdiv,Int.tdiv_eq_ediv_of_nonneg qA]
 ·conv=>lhs;rw [h1,Int.neg_tmod,Int.tmod_eq_emod_of_nonneg qA]
end Go.Proofs.YtnnhcbeiogaknaaGreatDoor
end
section
namespace Go.Proofs.YtnnhcbeiogaknaaGreatDoor
open Go.RowKit
def Je (w:World) (m:Nat) (D:Nat→Int) (e:Ending) (w':World):Prop :=
 ∃a,e=.returned (.slice a m m)∧RdL w' a m m (fxI m (Cz D m))∧Bg w.heap.size w' a m∧Below w.heap.size w w'
theorem jG (w:World) (m:Nat) (c1 c2 c3:Value) (D:Nat→Int) (hm:m≤35184372088832)
  (hD:∀i,i<m→-4000000000000000000≤D i∧D i≤4000000000000000000)
  (hcall:∀(i:Nat) (W:World),i<m→Below w.heap.size w W→Θ 231 #[.int .i64 i,c1,c2,c3] W fun e W'=>e=.returned (.int .i64 (D i))∧Below W.heap.size W W') :
  Θ 230 #[.int .i64 m,.func (.func 231) #[] #[c1,c2,c3]] w (Je w m D):=by
 exact qAc
theorem jS (w:World) (m:Nat) (c1 c2:Value) (D:Nat→Int) (hm:m≤35184372088832)
  (hD:∀i,i<m→-4000000000000000000≤D i∧D i≤4000000000000000000)
  (hcall:∀(i:Nat) (W:World),i<m→Below w.heap.size w W→Θ 306 #[.int .i64 i,c1,c2] W fun e W'=>e=.returned (.int .i64 (D i))∧Below W.heap.size W W') :
  Θ 230 #[.int .i64 m,.func (.func 306) #[] #[c1,c2]] w (Je w m D):=by
 exact qAc
theorem iT (w:World) (m:Nat) (c1 c2 c3:Value) (D:Nat→Int) (hm:m≤35184372088832)
  (hD:∀i,i<m→-4000000000000000000≤D i∧D i≤4000000000000000000)
  (hcall:∀(i:Nat) (W:World),i<m→Below w.heap.size w W→Θ 262 #[.int .i64 i,c1,c2,c3] W fun e W'=>e=.returned (.int .i64 (D i))∧Below W.heap.size W W') :
  Θ 230 #[.int .i64 m,.func (.func 262) #[] #[c1,c2,c3]] w (Je w m D):=by
 exact qAc
theorem eF {d:Ξ} {i:Nat} (h:d.length≤i):lim d i=0:=by simp [lim,List.getElem?_eq_none h]
theorem He (w:World) (a:Γ) (n c:Nat) (d:Ξ) (i:Nat) (hd:RdL w a n c d) :
  Θ 232 #[.slice a n c,.int .i64 i] w fun e w'=>e=.returned (.int .i64 (lim d i))∧w=w':=by
 by_cases h:i<n
 ·obtain ⟨b,o,rfl,c1⟩:=hd.at' h;have hn:=hd.few;have hs:=hd.small i;go_enter Tryz.func232,Tryz.ntmps232;go_wp2;go_ret;exact ⟨rfl,rfl⟩
 ·have e:lim d i=0:=eF (by rw [hd.len];omega);rw [e];have h':n≤i:=by omega
  go_enter Tryz.func232,Tryz.ntmps232;go_wp2;go_ret;exact ⟨rfl,rfl⟩
theorem Zn (w:World) (A S C:Nat) (a:Γ) (n c:Nat) (d:Ξ) (a':Γ) (n' c':Nat) (d':Ξ) (i:Nat) (hd:RdL w a n c d) (hd':RdL w a' n' c' d')
  (h1:w.cell? ⟨A,1,none⟩=some (.slice a n c)) (h2:w.cell? ⟨S,0,none⟩=some (.int .i64 1)) (h3:w.cell? ⟨C,1,none⟩=some (.slice a' n' c')) :
  Θ 231 #[.int .i64 i,.pointer (some ⟨A,0,none⟩),.pointer (some ⟨S,0,none⟩),.pointer (some ⟨C,0,none⟩)] w fun e w'=>e=.returned (.int .i64 (lim d i+lim d' i))∧Below w.heap.size w w':=by
 have hs:=hd.small i;have hs':=hd'.small i;go_enter Tryz.func231,Tryz.ntmps231;go_wp2;go_quiet ((first|(go_at_call 232;first|exact Ga (He _ _ _ _ d i (hd.keep (Bu _ (Ac _ _))))|exact Ga (He _ _ _ _ d' i (hd'.keep (Bu _ (Ac _ _))))|exact E8 (He _ _ _ _ d i (hd.keep (Bu _ (Ac _ _))))|exact E8 (He _ _ _ _ d' i (hd'.keep (Bu _ (Ac _ _)))))));exact qDm
theorem Ze (w:World) (A S C:Nat) (a:Γ) (n c:Nat) (d:Ξ) (a':Γ) (n' c':Nat) (d':Ξ) (i:Nat) (hd:RdL w a n c d) (hd':RdL w a' n' c' d')
  (h1:w.cell? ⟨A,1,none⟩=some (.slice a n c)) (h2:w.cell? ⟨S,0,none⟩=some (.int .i64 (-1))) (h3:w.cell? ⟨C,1,none⟩=some (.slice a' n' c')) :
  Θ 231 #[.int .i64 i,.pointer (some ⟨A,0,none⟩),.pointer (some ⟨S,0,none⟩),.pointer (some ⟨C,0,none⟩)] w fun e w'=>e=.returned (.int .i64 (lim d i-lim d' i))∧Below w.heap.size w w':=by
 have hs:=hd.small i;have hs':=hd'.small i;go_enter Tryz.func231,Tryz.ntmps231;go_wp2;go_quiet ((first|(go_at_call 232;first|exact Ga (He _ _ _ _ d i (hd.keep (Bu _ (Ac _ _))))|exact Ga (He _ _ _ _ d' i (hd'.keep (Bu _ (Ac _ _))))|exact E8 (He _ _ _ _ d i (hd.keep (Bu _ (Ac _ _))))|exact E8 (He _ _ _ _ d' i (hd'.keep (Bu _ (Ac _ _)))))));go_wp2;go_ret;exact ⟨by simp [Int.sub_eq_add_neg],Bu _ (Ac _ _)⟩
theorem eU (d d':Ξ) (m:Nat) (h:d.length<m) (h':d'.length<m):Cz (fun i=>lim d i+lim d' i) m=((val d+val d':Nat):Int):=by
 rw [Si (fun i=>lim d i) (fun i=>lim d' i),show Cz (fun i=>lim d i) m=val d from Gm d m qA,show Cz (fun i=>lim d' i) m=val d' from Gm d' m qA];omega
theorem fF (d d':Ξ) (m:Nat) (h:d.length<m) (h':d'.length<m) (hv:val d'≤val d):Cz (fun i=>lim d i-lim d' i) m=((val d-val d':Nat):Int):=by
 have e:Cz (fun i=>lim d i-lim d' i) m=Cz (fun i=>lim d i+(fun i=>(-1)*lim d' i) i) m:=Nk (fun i _=>by show lim d i-lim d' i=lim d i+(-1)*lim d' i;omega);rw [e,Si (fun i=>lim d i) (fun i=>(-1)*lim d' i),Rn (fun i=>lim d' i),show Cz (fun i=>lim d i) m=val d from Gm d m qA,show Cz (fun i=>lim d' i) m=val d' from Gm d' m qA];omega
theorem Ox (m N:Nat) (h:N<1000000000 ^ m):val (fxI m (N:Int))=N:=by rw [fG,Pq m N h]
theorem J2 (w:World) (M:Int) (m:Nat) (hM:M=m) (c1 c2 c3:Value) (D:Nat→Int) (hm:m≤35184372088832)
  (hD:∀i,i<m→-4000000000000000000≤D i∧D i≤4000000000000000000)
  (hcall:∀(i:Nat) (W:World),i<m→Below w.heap.size w W→Θ 231 #[.int .i64 i,c1,c2,c3] W fun e W'=>e=.returned (.int .i64 (D i))∧Below W.heap.size W W') :
  Θ 230 #[.int .i64 M,.func (.func 231) #[] #[c1,c2,c3]] w (Je w m D):=by
 subst hM;exact jG w m c1 c2 c3 D hm hD hcall
end Go.Proofs.YtnnhcbeiogaknaaGreatDoor
end
