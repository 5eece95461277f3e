/- Package limbs: Gcd. -/
import Derived.Test.YtnnhcbeiogaknaaGreatDoorQV6
set_option linter.unusedSimpArgs false
set_option linter.unusedVariables false
set_option maxRecDepth 100000
set_option maxHeartbeats 4000000
section
namespace Go.Proofs.YtnnhcbeiogaknaaGreatDoor
open Go.RowKit
def Off (lo hi:Nat) (n:Nat) (a:Γ):Prop:=n=0∨∀x,a=some x→x.block<lo∨hi≤x.block
theorem RdL.setOff {w:World} {a:Γ} {n c:Nat} {d:Ξ} {lo hi:Nat} (h:RdL w a n c d) (ho:Off lo hi n a) (p:Addr) (u:Value) (h1:lo≤p.block) (h2:p.block<hi):RdL (w.setCell p u) a n c d:=by
 refine ⟨h.len,h.cap,h.few,h.top,h.small,?_⟩;rcases ho with ho|ho
 ·exact .inl ho
 ·rcases h.cell with h0|⟨b,o,ha,hc⟩
  ·exact .inl h0
  ·refine .inr ⟨b,o,ha,fun i hi'=>?_⟩;have:=ho _ ha;rw [A6 _ _ _ _ (by show p.block≠b;intro e;have e2:(⟨b,o,none⟩:Addr).block=b:=rfl;omega)];exact hc i hi'
theorem Bh.setOff {w:World} {g:Bool} {a:Γ} {n c:Nat} {z:Int} {lo hi:Nat} (h:Bh w g a n c z) (ho:Off lo hi n a) (p:Addr) (u:Value) (h1:lo≤p.block) (h2:p.block<hi):Bh (w.setCell p u) g a n c z:=⟨h.neg,h.rd.setOff ho p u h1 h2⟩
theorem RdL.off {w:World} {a:Γ} {n c:Nat} {d:Ξ} (h:RdL w a n c d) {lo:Nat} (hlo:w.heap.size≤lo) (hi:Nat):Off lo hi n a:=by
 rcases h.cell with h0|⟨b,o,ha,hc⟩
 ·exact .inl h0
 ·rcases Aq n with h5|h5
  ·exact .inl h5
  ·refine .inr fun x hx=>.inl ?_
   rw [ha] at hx;cases hx
   have:b<w.heap.size:=Aa w ⟨b,o+0,none⟩ (hc 0 h5);show b<lo;omega
theorem Bg.off {B:Nat} {w:World} {a:Γ} {n c:Nat} {d:Ξ} (h:Bg B w a c) (hd:RdL w a n c d) (lo:Nat) {hi:Nat} (hh:hi≤B):Off lo hi n a:=by
 rcases h.newA hd with h0|h0
 ·exact .inl h0
 ·exact .inr fun x hx=>.inr (by have:=h0 x hx;omega)
structure Ky (w wr:World) (ga:Bool) (aa:Γ) (na ca:Nat) (x:Int) (gb:Bool) (ab:Γ) (nb cb:Nat) (y:Int):Prop where
 b00:wr.cell? ⟨w.heap.size,0,none⟩=some (.bool ga)
 b01:wr.cell? ⟨w.heap.size,1,none⟩=some (.slice aa na ca)
 b10:wr.cell? ⟨w.heap.size+1,0,none⟩=some (.bool gb)
 b11:wr.cell? ⟨w.heap.size+1,1,none⟩=some (.slice ab nb cb)
 z20:wr.cell? ⟨w.heap.size+1+1,0,none⟩=some (.bool false)
 z21:wr.cell? ⟨w.heap.size+1+1,1,none⟩=some (.slice none 0 0)
 f00:wr.frozen? ⟨w.heap.size,0,none⟩=false
 f01:wr.frozen? ⟨w.heap.size,1,none⟩=false
 f10:wr.frozen? ⟨w.heap.size+1,0,none⟩=false
 f11:wr.frozen? ⟨w.heap.size+1,1,none⟩=false
 f20:wr.frozen? ⟨w.heap.size+1+1,0,none⟩=false
 f21:wr.frozen? ⟨w.heap.size+1+1,1,none⟩=false
 numa:Bh wr ga aa na ca x
 numb:Bh wr gb ab nb cb y
 offa:Off w.heap.size (w.heap.size+1+1+1) na aa
 offb:Off w.heap.size (w.heap.size+1+1+1) nb ab
 sz:w.heap.size+1+1<wr.heap.size
 hb:Below w.heap.size w wr
theorem Ky.keep {w wr ws:World} {ga:Bool} {aa:Γ} {na ca:Nat} {x:Int} {gb:Bool} {ab:Γ} {nb cb:Nat} {y:Int} (h:Ky w wr ga aa na ca x gb ab nb cb y) (hb:Below wr.heap.size wr ws):Ky w ws ga aa na ca x gb ab nb cb y:=by
 have s:=h.sz;have hz:=hb.size;exact ⟨Bc hb h.b00,Bc hb h.b01,Bc hb h.b10,Bc hb h.b11,Bc hb h.z20,Bc hb h.z21,
  (hb.frozen (by show w.heap.size<_;omega)).trans h.f00,(hb.frozen (by show w.heap.size<_;omega)).trans h.f01,(hb.frozen (by show w.heap.size+1<_;omega)).trans h.f10,(hb.frozen (by show w.heap.size+1<_;omega)).trans h.f11,(hb.frozen (by show w.heap.size+1+1<_;omega)).trans h.f20,(hb.frozen (by show w.heap.size+1+1<_;omega)).trans h.f21,
  h.numa.keep hb,h.numb.keep hb,h.offa,h.offb,by omega,h.hb.trans (hb.mono h.hb.size)⟩
theorem Ky.set {w wr:World} {ga:Bool} {aa:Γ} {na ca:Nat} {x:Int} {gb:Bool} {ab:Γ} {nb cb:Nat} {y:Int} (h:Ky w wr ga aa na ca x gb ab nb cb y)
  {gx:Bool} {ax:Γ} {nx cx:Nat} {x':Int} {gy:Bool} {ay:Γ} {ny cy:Nat} {y':Int} (hx:Bh wr gx ax nx cx x') (hy:Bh wr gy ay ny cy y') (ox:Off w.heap.size (w.heap.size+1+1+1) nx ax) (oy:Off w.heap.size (w.heap.size+1+1+1) ny ay) :
  Ky w ((((wr.setCell ⟨w.heap.size,0,none⟩ (.bool gx)).setCell ⟨w.heap.size,1,none⟩ (.slice ax nx cx)).setCell ⟨w.heap.size+1,0,none⟩ (.bool gy)).setCell ⟨w.heap.size+1,1,none⟩ (.slice ay ny cy)) gx ax nx cx x' gy ay ny cy y':=by
 obtain ⟨k0,k1,k2,k3,k4,k5⟩:=Nc (.bool gx) (.slice ax nx cx) (.bool gy) (.slice ay ny cy) h.b00 h.b01 h.b10 h.b11;have s:=h.sz;have HB:=h.hb;have q1:w.heap.size≤(⟨w.heap.size,0,none⟩:Addr).block:=Ad _;have far:∀(W:World) (p q:Addr) (u:Value),p.block≠q.block→(W.setCell p u).cell? q=W.cell? q:=fun W p q u e=>A6 W p q u e
 have z2:∀i,((((wr.setCell ⟨w.heap.size,0,none⟩ (.bool gx)).setCell ⟨w.heap.size,1,none⟩ (.slice ax nx cx)).setCell ⟨w.heap.size+1,0,none⟩ (.bool gy)).setCell ⟨w.heap.size+1,1,none⟩ (.slice ay ny cy)).cell? ⟨w.heap.size+1+1,i,none⟩=wr.cell? ⟨w.heap.size+1+1,i,none⟩:=by
  intro i;rw [far _ _ _ _ (by show w.heap.size+1≠w.heap.size+1+1;omega),far _ _ _ _ (by show w.heap.size+1≠w.heap.size+1+1;omega),far _ _ _ _ (by show w.heap.size≠w.heap.size+1+1;omega),far _ _ _ _ (by show w.heap.size≠w.heap.size+1+1;omega)]
 have r0:w.heap.size≤w.heap.size∧w.heap.size<w.heap.size+1+1+1:=by omega
 have r1:w.heap.size≤w.heap.size+1∧w.heap.size+1<w.heap.size+1+1+1:=by omega
 exact ⟨k0,k1,k2,k3,(z2 0).trans h.z20,(z2 1).trans h.z21,(k5 _).trans h.f00,(k5 _).trans h.f01,(k5 _).trans h.f10,(k5 _).trans h.f11,(k5 _).trans h.f20,(k5 _).trans h.f21,
  (((hx.setOff ox _ _ r0.1 r0.2).setOff ox _ _ r0.1 r0.2).setOff ox _ _ r1.1 r1.2).setOff ox _ _ r1.1 r1.2,(((hy.setOff oy _ _ r0.1 r0.2).setOff oy _ _ r0.1 r0.2).setOff oy _ _ r1.1 r1.2).setOff oy _ _ r1.1 r1.2,ox,oy,by simp only [Am];omega,by go_grown⟩
def lenAt (w:World) (b:Nat):Nat:=match w.cell? ⟨b,1,none⟩ with
 | some (.slice _ n _)=>n
 | _=>0
def mL (w:World) (b:Nat):Nat:=match w.cell? ⟨b,1,none⟩ with
 | some (.slice (some ⟨p,o,none⟩) n _)=>val ((List.range n).map fun i=>match w.cell? ⟨p,o+i,none⟩ with|some (.int _ v)=>v.toNat|_=>0)
 | _=>0
theorem Zo {w:World} {b:Nat} {a:Γ} {n c:Nat} {d:Ξ} (h:w.cell? ⟨b,1,none⟩=some (.slice a n c)) (hd:RdL w a n c d):mL w b=val d:=by
 unfold mL;rw [h];rcases hd.cell with h0|⟨p,o,rfl,hc⟩
 ·subst h0;have:d=[]:=List.eq_nil_of_length_eq_zero hd.len;subst this;rcases a with _|⟨p,o,_|i⟩<;>rfl
 ·show val _=val d
  congr 1
  apply List.ext_getElem
  ·simp [hd.len]
  ·intro i h1 h2;simp only [List.length_map,List.length_range] at h1;rw [List.getElem_map,List.getElem_range,hc i h1];show (lim d i).toNat=d[i];simp [lim,List.getD,Ai h2]
theorem Yk (x y:Int):Int.gcd y (x%y)=Int.gcd x y:=by
 have e:x%y+y*(x/y)=x:=Int.emod_add_mul_ediv x y;apply Nat.dvd_antisymm
 ·have h1:((Int.gcd y (x%y):Nat):Int)∣y:=Int.gcd_dvd_left ..;have h2:((Int.gcd y (x%y):Nat):Int)∣x%y:=Int.gcd_dvd_right ..;have h4:=Int.dvd_add h2 (Int.dvd_mul_of_dvd_left (c:=x/y) h1);have h3:((Int.gcd y (x%y):Nat):Int)∣x:=by rwa [e] at h4
  exact Int.natCast_dvd_natCast.1 (Int.dvd_coe_gcd h3 h1)
 ·have h1:((Int.gcd x y:Nat):Int)∣x:=Int.gcd_dvd_left ..;have h2:((Int.gcd x y:Nat):Int)∣y:=Int.gcd_dvd_right ..;have h3:((Int.gcd x y:Nat):Int)∣x%y:=by rw [Int.emod_def];exact Int.dvd_sub h1 (Int.dvd_mul_of_dvd_left h2)
  exact Int.natCast_dvd_natCast.1 (Int.dvd_coe_gcd h2 h3)
theorem eJ (w:World) (g:Bool) (a:Γ) (n c:Nat) (z:Int) (h:Bh w g a n c z) (g':Bool) (a':Γ) (n' c':Nat) (z':Int) (h':Bh w g' a' n' c' z')
  (hn1:n'<35184372088829) (hb1:n<35184372088829) :
  Θ 123 #[.agg #[.bool g,.slice a n c],.agg #[.bool g',.slice a' n' c']] w (Fc w (Int.gcd z z':Nat)):=by
 have HB:=Ac w.heap.size w;go_enter Tryz.func123,Tryz.ntmps123;go_wp2_with fail;go_region_held3 (fun W=>W.cell? ⟨w.heap.size,0,none⟩=some (.bool g)∧W.cell? ⟨w.heap.size,1,none⟩=some (.slice a n c)∧W.cell? ⟨w.heap.size+1,0,none⟩=some (.bool g')∧W.cell? ⟨w.heap.size+1,1,none⟩=some (.slice a' n' c')) (first|((try dsimp only);(repeat' apply Ay);all_goals (first|(with_reducible assumption)|(go_keep;done)|(simp [*,go_sem];done)))) (first
  | (go_at_call 125;(with_reducible refine (In _ g a n c z (h.keep qF)).mono ?_);rintro e w1 ⟨rfl,hb⟩;obtain ⟨hc,hf⟩:=Bl hb;have hz:=hb.size;(try simp only [Aj,Ak] at hz);replace HB:=zI w hb;obtain ⟨s0_0,s0_1⟩:=qZ hc (w.heap.size) (.bool g) (.slice a n c);obtain ⟨s1_0,s1_1⟩:=qZ hc (w.heap.size+1) (.bool g') (.slice a' n' c');obtain ⟨s2_0,s2_1⟩:=zE hc (w.heap.size+1+1);obtain ⟨f2_0,f2_1⟩:=zF hf (w.heap.size+1+1);obtain ⟨f0_0,f0_1⟩:=zF hf (w.heap.size);obtain ⟨f1_0,f1_1⟩:=zF hf (w.heap.size+1))
  | (go_at_call 125;(with_reducible refine (In _ g' a' n' c' z' (h'.keep qF)).mono ?_);rintro e w1 ⟨rfl,hb⟩;obtain ⟨hc,hf⟩:=Bl hb;have hz:=hb.size;(try simp only [Aj,Ak] at hz);replace HB:=zI w hb;obtain ⟨s0_0,s0_1⟩:=qZ hc (w.heap.size) (.bool g) (.slice a n c);obtain ⟨s1_0,s1_1⟩:=qZ hc (w.heap.size+1) (.bool g') (.slice a' n' c');obtain ⟨s2_0,s2_1⟩:=zE hc (w.heap.size+1+1);obtain ⟨f2_0,f2_1⟩:=zF hf (w.heap.size+1+1);obtain ⟨f0_0,f0_1⟩:=zF hf (w.heap.size);obtain ⟨f1_0,f1_1⟩:=zF hf (w.heap.size+1)))
 have hbox1:Ky w w1 g a n c z g' a' n' c' z':=⟨s0_0,s0_1,s1_0,s1_1,s2_0,s2_1,f0_0,f0_1,f1_0,f1_1,f2_0,f2_1,h.keep HB,h'.keep HB,h.rd.off (Ad _) _,h'.rd.off (Ad _) _,by omega,HB⟩;have hbox2:=hbox1.set hbox1.numa hbox1.numb hbox1.offa hbox1.offb;clear hbox1 hc hf hb HB s0_0 s0_1 s1_0 s1_1 s2_0 s2_1 f0_0 f0_1 f1_0 f1_1 f2_0 f2_1;go_wp2_with fail;go_loopw [] (fun wr=>∃ga aa na ca x gb ab nb cb y,Ky w wr ga aa na ca x gb ab nb cb y∧nb<35184372088829∧na<35184372088829∧Int.gcd x y=Int.gcd z z')
  (fun wr=>mL wr (w.heap.size+1))
 case atStart=>exact ⟨g,a,n,c,z,g',a',n',c',z',hbox2,hn1,hb1,rfl⟩
 case round =>
  obtain ⟨ga,aa,na,ca,x,gb,ab,nb,cb,y,HG,hnb,hna,hgcd⟩:=hrel;clear hbox2;have b00:=HG.b00;have b01:=HG.b01;have b10:=HG.b10;have b11:=HG.b11;have z20:=HG.z20;have z21:=HG.z21;have f00:=HG.f00;have f01:=HG.f01;have f10:=HG.f10;have f11:=HG.f11;have f20:=HG.f20;have f21:=HG.f21;have HB:=HG.hb;have hsz:=HG.sz;have hsz0:=HG.sz;have HV0:=Ae ((Zo b11 HG.numb.rd).trans (Bq _));by_cases hy0:nb=0
  ·have hyz:y=0:=Decidable.byContradiction fun e=>HG.numb.ne.2 e hy0
   subst hy0;have HGC:=Ae hgcd;clear hgcd;go_wp2_with fail;refine (Ml _ _ _ _ (dg x.natAbs) HG.numa.rd).mono ?_;rintro e w2 ⟨a2,c2,rfl,hr2,hf2,hb2⟩;clear b00 b01 b10 b11 z20 z21 f00 f01 f10 f11 f20 f21 HB hsz;replace HG:=HG.keep hb2;have b00:=HG.b00;have b01:=HG.b01;have b10:=HG.b10;have b11:=HG.b11;have z20:=HG.z20;have z21:=HG.z21;have f00:=HG.f00;have f01:=HG.f01;have f10:=HG.f10;have f11:=HG.f11;have f20:=HG.f20;have f21:=HG.f21;have HB:=HG.hb;have hsz:=HG.sz;go_wp2_with fail;refine (E9 _ false a2 na c2 _ hr2 (Ew _)).mono ?_;rintro e w3 ⟨g3,n3,rfl,hn3,hnum3,hb3⟩;clear b00 b01 b10 b11 z20 z21 f00 f01 f10 f11 f20 f21 HB hsz;replace HG:=HG.keep hb3;have b00:=HG.b00;have b01:=HG.b01;have b10:=HG.b10;have b11:=HG.b11;have z20:=HG.z20;have z21:=HG.z21;have f00:=HG.f00;have f01:=HG.f01;have f10:=HG.f10;have f11:=HG.f11;have f20:=HG.f20;have f21:=HG.f21;have HB:=HG.hb;have hsz:=HG.sz;have hf3:=((hf2.keep hb3).less hn3).mono (show w.heap.size+1+1+1≤_ by omega);go_wp2_with fail;refine bodyPost_ret (v:=.agg #[.bool g3,.slice a2 n3 n3]) (by simp [results,Tryz.results123,go_sem,z20,z21]) rfl ?_;have hval:sgn false (val (dg x.natAbs))=((Int.gcd z z':Nat):Int):=by rw [←HGC.out,hyz,Bq];simp [sgn]
   rw [hval] at hnum3;refine ⟨g3,a2,n3,n3,rfl,?_,?_,by go_grown⟩
   ·exact qCn
   ·exact qBl
  ·have hyp:y≠0:=HG.numb.ne.1 hy0;have hnb1:0<nb:=by omega
   have HGC:=Ae hgcd;clear hgcd;by_cases hna2:na≤2∧nb≤2
   ·obtain ⟨hna2,hnb2⟩:=hna2;go_wp2_with fail;refine (Ml _ _ _ _ (dg x.natAbs) HG.numa.rd).mono ?_;rintro e w2 ⟨a2,c2,rfl,hr2,hf2,hb2⟩;clear b00 b01 b10 b11 z20 z21 f00 f01 f10 f11 f20 f21 HB hsz;replace HG:=HG.keep hb2;have b00:=HG.b00;have b01:=HG.b01;have b10:=HG.b10;have b11:=HG.b11;have z20:=HG.z20;have z21:=HG.z21;have f00:=HG.f00;have f01:=HG.f01;have f10:=HG.f10;have f11:=HG.f11;have f20:=HG.f20;have f21:=HG.f21;have HB:=HG.hb;have hsz:=HG.sz;go_wp2_with fail;refine (E9 _ false a2 na c2 _ hr2 (Ew _)).mono ?_;rintro e w3 ⟨g3,n3,rfl,hn3,hnum3,hb3⟩;clear b00 b01 b10 b11 z20 z21 f00 f01 f10 f11 f20 f21 HB hsz;replace HG:=HG.keep hb3;have b00:=HG.b00;have b01:=HG.b01;have b10:=HG.b10;have b11:=HG.b11;have z20:=HG.z20;have z21:=HG.z21;have f00:=HG.f00;have f01:=HG.f01;have f10:=HG.f10;have f11:=HG.f11;have f20:=HG.f20;have f21:=HG.f21;have HB:=HG.hb;have hsz:=HG.sz;have hn3':n3≤2:=by have h1:=hnum3.rd.len;have h2:=hr2.len;rw [Hs,Bq] at h1;omega
    have hv3:sgn false (val (dg x.natAbs))=((x.natAbs:Nat):Int):=by rw [Bq];simp [sgn]
    rw [hv3] at hnum3;have hxb:((x.natAbs:Nat):Int)<1000000000000000000:=by
     have h3:=Ez (dg x.natAbs) (Ew _);have h4:=HG.numa.rd.len;have h5:=Nat.pow_le_pow_right (show 0<1000000000 by omega) (show (dg x.natAbs).length≤2 by omega);rw [Bq] at h3;omega
    go_wp2_with fail;refine (Wa _ _ _ _ _ _ hnum3 qA hn3').mono ?_;rintro e w4 ⟨rfl,hb4⟩;clear b00 b01 b10 b11 z20 z21 f00 f01 f10 f11 f20 f21 HB hsz;replace HG:=HG.keep hb4;have b00:=HG.b00;have b01:=HG.b01;have b10:=HG.b10;have b11:=HG.b11;have z20:=HG.z20;have z21:=HG.z21;have f00:=HG.f00;have f01:=HG.f01;have f10:=HG.f10;have f11:=HG.f11;have f20:=HG.f20;have f21:=HG.f21;have HB:=HG.hb;have hsz:=HG.sz;go_wp2_with fail;refine (Ml _ _ _ _ (dg y.natAbs) HG.numb.rd).mono ?_;rintro e w5 ⟨a5,c5,rfl,hr5,hf5,hb5⟩;clear b00 b01 b10 b11 z20 z21 f00 f01 f10 f11 f20 f21 HB hsz;replace HG:=HG.keep hb5;have b00:=HG.b00;have b01:=HG.b01;have b10:=HG.b10;have b11:=HG.b11;have z20:=HG.z20;have z21:=HG.z21;have f00:=HG.f00;have f01:=HG.f01;have f10:=HG.f10;have f11:=HG.f11;have f20:=HG.f20;have f21:=HG.f21;have HB:=HG.hb;have hsz:=HG.sz;go_wp2_with fail;refine (E9 _ false a5 nb c5 _ hr5 (Ew _)).mono ?_;rintro e w6 ⟨g6,n6,rfl,hn6,hnum6,hb6⟩;clear b00 b01 b10 b11 z20 z21 f00 f01 f10 f11 f20 f21 HB hsz;replace HG:=HG.keep hb6;have b00:=HG.b00;have b01:=HG.b01;have b10:=HG.b10;have b11:=HG.b11;have z20:=HG.z20;have z21:=HG.z21;have f00:=HG.f00;have f01:=HG.f01;have f10:=HG.f10;have f11:=HG.f11;have f20:=HG.f20;have f21:=HG.f21;have HB:=HG.hb;have hsz:=HG.sz;have hn6':n6≤2:=by have h1:=hnum6.rd.len;have h2:=hr5.len;rw [Hs,Bq] at h1;omega
    have hv6:sgn false (val (dg y.natAbs))=((y.natAbs:Nat):Int):=by rw [Bq];simp [sgn]
    rw [hv6] at hnum6;have hyb:((y.natAbs:Nat):Int)<1000000000000000000:=by
     have h3:=Ez (dg y.natAbs) (Ew _);have h4:=HG.numb.rd.len;have h5:=Nat.pow_le_pow_right (show 0<1000000000 by omega) (show (dg y.natAbs).length≤2 by omega);rw [Bq] at h3;omega
    go_wp2_with fail;refine (Wa _ _ _ _ _ _ hnum6 qA hn6').mono ?_;rintro e w7 ⟨rfl,hb7⟩;clear b00 b01 b10 b11 z20 z21 f00 f01 f10 f11 f20 f21 HB hsz;replace HG:=HG.keep hb7;have b00:=HG.b00;have b01:=HG.b01;have b10:=HG.b10;have b11:=HG.b11;have z20:=HG.z20;have z21:=HG.z21;have f00:=HG.f00;have f01:=HG.f01;have f10:=HG.f10;have f11:=HG.f11;have f20:=HG.f20;have f21:=HG.f21;have HB:=HG.hb;have hsz:=HG.sz;clear hr2 hf2 hb2 hnum3 hb3 hb4 hr5 hf5 hb5 hnum6 hb6 hb7 hv3 hv6 hn3 hn6 hn3' hn6';go_wp2_with fail;go_loopw [5,7] (fun v5 v7 wi=>∃m k:Int,v5=.int .i64 m∧v7=.int .i64 k∧0≤m∧m<1000000000000000000∧0≤k∧k<1000000000000000000∧Int.gcd m k=Int.gcd z z'∧Below w7.heap.size w7 wi)
     (fun _ v7 _=>(intOf v7).toNat)
    case atStart =>
     refine ⟨_,_,rfl,rfl,by omega,hxb,by omega,hyb,?_,Ac _ _⟩;rw [←HGC.out];simp [Int.gcd]
    case round =>
     obtain ⟨m,k,rfl,rfl,hm0,hm1,hk0,hk1,hg,hbi⟩:=hrel;clear b00 b01 b10 b11 z20 z21 f00 f01 f10 f11 f20 f21 HB hsz;replace HG:=HG.keep hbi;have b00:=HG.b00;have b01:=HG.b01;have b10:=HG.b10;have b11:=HG.b11;have z20:=HG.z20;have z21:=HG.z21;have f00:=HG.f00;have f01:=HG.f01;have f10:=HG.f10;have f11:=HG.f11;have f20:=HG.f20;have f21:=HG.f21;have HB:=HG.hb;have hsz:=HG.sz;have HGM:=Ae hg;clear hg;by_cases hk:0<k
     ·have hkn:((k:Int)==0)=false:=by rw [beq_eq_false_iff_ne];omega
      have hmod:=Int.tmod_eq_emod_of_nonneg (b:=k) hm0;have hm2:=Int.emod_nonneg m (show k≠0 by omega);have hm3:=Int.emod_lt_of_pos m hk;go_wp2_with fail;go_quiet (fail);go_wp2_with fail;refine ⟨⟨k,m%k,rfl,rfl,by omega,by omega,by omega,by omega,by rw [Yk];exact HGM.out,Bu _ hbi⟩,?_⟩;simp [intOf];omega
     ·obtain rfl:k=0:=by omega
      go_wp2_with fail;have hsz1:=HG.sz;refine (Qt _ m qA qA).mono ?_;rintro e w8 ⟨g3,a8,n3,c8,rfl,hnum3,hf8,hb8⟩;clear b00 b01 b10 b11 z20 z21 f00 f01 f10 f11 f20 f21 HB hsz;replace HG:=HG.keep hb8;have b00:=HG.b00;have b01:=HG.b01;have b10:=HG.b10;have b11:=HG.b11;have z20:=HG.z20;have z21:=HG.z21;have f00:=HG.f00;have f01:=HG.f01;have f10:=HG.f10;have f11:=HG.f11;have f20:=HG.f20;have f21:=HG.f21;have HB:=HG.hb;have hsz:=HG.sz;have hf3:=hf8.mono (show w.heap.size+1+1+1≤_ by omega);go_wp2_with fail;refine bodyPost_ret (v:=.agg #[.bool g3,.slice a8 n3 c8]) (by simp [results,Tryz.results123,go_sem,z20,z21]) rfl ?_;have hval:m=((Int.gcd z z':Nat):Int):=by rw [←HGM.out];simp;omega
      rw [hval] at hnum3;refine ⟨g3,a8,n3,c8,rfl,?_,?_,by go_grown⟩
      ·exact qCn
      ·exact qBl
   ·by_cases hna4:na≤2
    ·have hnb3:decide ((nb:Int)≤2)=false:=by simp;omega
     have hna5:(na:Int)≤2:=by omega
     clear hna2;exact qAk
    ·have hna3:decide ((na:Int)≤2)=false:=by simp;omega
     clear hna2 hna4;exact qAk
theorem yO (w:World) (g:Bool) (a:Γ) (n c:Nat) (z:Int) (h:Bh w g a n c z) (g':Bool) (a':Γ) (n' c':Nat) (z':Int) (h':Bh w g' a' n' c' z')
  (hz':0<z') (hn1:n'<35184372088829) (hb1:n<35184372088829) :
  Θ 123 #[.agg #[.bool g,.slice a n c],.agg #[.bool g',.slice a' n' c']] w (Fc w (Int.gcd z z':Nat)):=eJ w g a n c z h g' a' n' c' z' h' hn1 hb1
end Go.Proofs.YtnnhcbeiogaknaaGreatDoor
end
