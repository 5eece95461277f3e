/- Package limbs: Gcd. -/
import Derived.Test.YtfijkfdfbnfmmaaGreatDoorQF6
set_option linter.unusedSimpArgs false
set_option linter.unusedVariables false
set_option maxRecDepth 100000
set_option maxHeartbeats 4000000
section
namespace Go.Proofs.YtfijkfdfbnfmmaaGreatDoor
open Go.RowKit Proofs.Tryz
variable {ga gb:Bool} {x y:Int} {n c lo hi na ca cb:Nat} {w wr:World} {a aa ab ax ay:Γ} {d:Ξ}
def Off (lo hi:Nat) (n:Nat) (a:Γ):Prop:=n=0∨∀x,a=some x→x.block<lo∨hi≤x.block
theorem RdL.setOff (h:RdL w a n c d) (ho:Off lo hi n a) (p:Addr) (u:Value) (h1:lo≤p.block) (h2:p.block<hi):RdL (w.setCell p u) a n c d:=by
 refine ⟨h.len,h.cap,h.few,h.top,h.small,?_⟩;rcases ho with ho|ho
 ·exact .inl ho
 ·rcases h.cell with h0|⟨b,o,ha,hc⟩
  ·exact .inl h0
  ·refine .inr ⟨b,o,ha,fun i DX=>?_⟩;have:=ho _ ha;rw [World.cell?_setCell_far _ _ _ _ (by show p.block≠b;intro e;have e2:(J b o:Addr).block=b:=rfl;omega)];exact hc i DX
theorem Bh.setOff {g:Bool} {z:Int} (h:Bh w g a n c z) (ho:Off lo hi n a) (p:Addr) (u:Value) (h1:lo≤p.block) (h2:p.block<hi):Bh (w.setCell p u) g a n c z:=⟨h.neg,h.rd.setOff ho p u h1 h2⟩
theorem RdL.off (h:RdL w a n c d) (hlo:w.heap.size≤lo) (hi:Nat):Off lo hi n a:=by
 rcases h.cell with h0|⟨b,o,ha,hc⟩
 ·exact .inl h0
 ·rcases Aq n with h5|h5
  ·exact .inl h5
  ·refine .inr fun x hx=>.inl ?_
   rw [ha] at hx;cases hx;have:b<w.heap.size:=Aa w (J b (o+0)) (hc 0 h5);show b<lo;omega
theorem Bc.off {B:Nat} (h:Bc B w a c) (hd:RdL w a n c d) (lo:Nat) (hh:hi≤B):Off lo hi n a:=by
 rcases h.newA hd with h0|h0
 ·exact .inl h0
 ·exact .inr fun x hx=>.inr (by have:=h0 x hx;omega)
structure Es (w wr:World) (ga:Bool) (aa:Γ) (na ca:Nat) (x:Int) (gb:Bool) (ab:Γ) (nb cb:Nat) (y:Int):Prop where
 b00:Z wr w 0 (.bool ga)
 b01:Z wr w 1 (.slice aa na ca)
 b10:Z wr (w+1) 0 (.bool gb)
 b11:Z wr (w+1) 1 (.slice ab nb cb)
 z20:Z wr (w+1+1) 0 (.bool false)
 z21:Z wr (w+1+1) 1 (.slice none 0 0)
 f00:Y wr w 0
 f01:Y wr w 1
 f10:Y wr (w+1) 0
 f11:Y wr (w+1) 1
 f20:Y wr (w+1+1) 0
 f21:Y wr (w+1+1) 1
 numa:Bh wr ga aa na ca x
 numb:Bh wr gb ab nb cb y
 offa:Off w (w+1+1+1) na aa
 offb:Off w (w+1+1+1) nb ab
 sz:w.heap.size+1+1<wr
 hb:xp w wr
theorem Es.keep {ws:World} {nb:Nat} (h:Es w wr ga aa na ca x gb ab nb cb y) (hb:xp wr ws):Es w ws ga aa na ca x gb ab nb cb y:=by
 have s:=h.sz;have hz:=hb.size;exact ⟨Bb hb h.b00,Bb hb h.b01,Bb hb h.b10,Bb hb h.b11,Bb hb h.z20,Bb hb h.z21,
  (hb.frozen (by show w.heap.size<_;omega)).trans h.f00,(hb.frozen (by show w.heap.size<_;omega)).trans h.f01,(hb.frozen (by show w.heap.size+1<_;omega)).trans h.f10,(hb.frozen (by show w.heap.size+1<_;omega)).trans h.f11,(hb.frozen (by show w.heap.size+1+1<_;omega)).trans h.f20,(hb.frozen (by show w.heap.size+1+1<_;omega)).trans h.f21,
  h.numa.keep hb,h.numb.keep hb,h.offa,h.offb,qB,(xo h.hb hb)⟩
theorem Es.set {nb:Nat} (h:Es w wr ga aa na ca x gb ab nb cb y)
  {gx:Bool} {nx cx:Nat} {x':Int} {gy:Bool} {ny cy:Nat} {y':Int} (hx:Bh wr gx ax nx cx x') (hy:Bh wr gy ay ny cy y') (ox:Off w (w+1+1+1) nx ax) (oy:Off w (w+1+1+1) ny ay) :
  Es w ((((wr.setCell (J w 0) (.bool gx)).setCell (J w 1) (.slice ax nx cx)).setCell (J (w+1) 0) (.bool gy)).setCell (J (w+1) 1) (.slice ay ny cy)) gx ax nx cx x' gy ay ny cy y':=by
 obtain ⟨k0,k1,k2,k3,k4,k5⟩:=Og (.bool gx) (.slice ax nx cx) (.bool gy) (.slice ay ny cy) h.b00 h.b01 h.b10 h.b11;have s:=h.sz;have HB:=h.hb;have q1:w.heap.size≤(J w 0:Addr).block:=Ad _;have far:∀(W:World) (p q:Addr) (u:Value),p.block≠q.block→(W.setCell p u).cell? q=W.cell? q:=fun W p q u e=>World.cell?_setCell_far W p q u e
 have z2:∀i,((((wr.setCell (J w 0) (.bool gx)).setCell (J w 1) (.slice ax nx cx)).setCell (J (w+1) 0) (.bool gy)).setCell (J (w+1) 1) (.slice ay ny cy)).cell? ⟨w+1+1,i,none⟩=wr.cell? (J (w+1+1) i):=by
  intro i;rw [far _ _ _ _ (by show w.heap.size+1≠w.heap.size+1+1;omega),far _ _ _ _ (by show w.heap.size+1≠w.heap.size+1+1;omega),far _ _ _ _ (by show w.heap.size≠w.heap.size+1+1;omega),far _ _ _ _ (by show w.heap.size≠w.heap.size+1+1;omega)]
 have r0:w.heap.size≤w∧w.heap.size<w.heap.size+1+1+1:=qB;have r1:w.heap.size≤w.heap.size+1∧w.heap.size+1<w.heap.size+1+1+1:=qB;exact ⟨k0,k1,k2,k3,(z2 0).trans h.z20,(z2 1).trans h.z21,(k5 _).trans h.f00,(k5 _).trans h.f01,(k5 _).trans h.f10,(k5 _).trans h.f11,(k5 _).trans h.f20,(k5 _).trans h.f21,
  (((hx.setOff ox _ _ r0.1 r0.2).setOff ox _ _ r0.1 r0.2).setOff ox _ _ r1.1 r1.2).setOff ox _ _ r1.1 r1.2,(((hy.setOff oy _ _ r0.1 r0.2).setOff oy _ _ r0.1 r0.2).setOff oy _ _ r1.1 r1.2).setOff oy _ _ r1.1 r1.2,ox,oy,by simp only [Am];omega,qD⟩
def lenAt (w:World) (b:Nat):Nat:=match w.cell? (J b 1) with
 | some (.slice _ n _)=>n
 | _=>0
def gF (w:World) (b:Nat):Nat:=match w.cell? (J b 1) with
 | some (.slice (some ⟨p,o,none⟩) n _)=>val ((List.range n).map fun i=>match w.cell? (J p (o+i)) with|some (.int _ v)=>v.toNat|_=>0)
 | _=>0
theorem Qc {b:Nat} (h:Z w b 1 (.slice a n c)) (hd:RdL w a n c d):gF w b=val d:=by
 unfold gF;rw [h];rcases hd.cell with h0|⟨p,o,rfl,hc⟩
 ·subst h0;have:d=[]:=List.eq_nil_of_length_eq_zero hd.len;subst this;rcases a with _|⟨p,o,_|i⟩<;>rfl
 ·show val _=val d
  congr 1
  apply List.ext_getElem
  ·simp [hd.len]
  ·intro i h1 h2;simp only [List.length_map,List.length_range] at h1;rw [List.getElem_map,List.getElem_range,hc i h1];show (lim d i).toNat=d[i];simp [lim,List.getD,Ai h2]
theorem Tu (x y:Int):Int.gcd y (x%y)=Int.gcd x y:=by
 have e:x%y+y*(x/y)=x:=Int.emod_add_mul_ediv x y;apply Nat.dvd_antisymm
 ·have h1:((Int.gcd y (x%y):Nat):Int)∣y:=Int.gcd_dvd_left ..;have h2:((Int.gcd y (x%y):Nat):Int)∣x%y:=Int.gcd_dvd_right ..;have h4:=Int.dvd_add h2 (Int.dvd_mul_of_dvd_left (c:=x/y) h1);have h3:((Int.gcd y (x%y):Nat):Int)∣x:=by rwa [e] at h4
  exact Int.natCast_dvd_natCast.1 (Int.dvd_coe_gcd h3 h1)
 ·have h1:((Int.gcd x y:Nat):Int)∣x:=Int.gcd_dvd_left ..;have h2:((Int.gcd x y:Nat):Int)∣y:=Int.gcd_dvd_right ..;have h3:((Int.gcd x y:Nat):Int)∣x%y:=by rw [Int.emod_def];exact Int.dvd_sub h1 (Int.dvd_mul_of_dvd_left h2)
  exact Int.natCast_dvd_natCast.1 (Int.dvd_coe_gcd h2 h3)
theorem wT (w:World) (g:Bool) (a:Γ) (n c:Nat) (z:Int) (h:Bh w g a n c z) (g':Bool) (a':Γ) (n' c':Nat) (z':Int) (h':Bh w g' a' n' c' z')
  (qv:n'<35184372088829) (br:n<35184372088829) :
  Θ 217 #[.agg #[.bool g,.slice a n c],.agg #[.bool g',.slice a' n' c']] w (Di w (Int.gcd z z':Nat)):=by
 have HB:=Ac w w;go_enter func217,ntmps217;go_wp2_with fail;go_region_held3 (fun W=>Z W w 0 (.bool g)∧Z W w 1 (.slice a n c)∧Z W (w+1) 0 (.bool g')∧Z W (w+1) 1 (.slice a' n' c')) (exact qK) (first
  | (go_at_call 219;(with_reducible refine (I1 _ g a n c z (h.keep qD)).mono ?_);rintro e w1 ⟨rfl,hb⟩;obtain ⟨hc,hf⟩:=Bg hb;have hz:=hb.size;(try simp only [Aj,Ak] at hz);replace HB:=zP w hb;obtain ⟨aw,bh⟩:=xd hc w g a n c;obtain ⟨bn,bo⟩:=xd hc (w+1) g' a' n' c';obtain ⟨bw,bx⟩:=zJ hc (w+1+1);obtain ⟨bz,cc⟩:=zK hf (w+1+1);obtain ⟨dy,dz⟩:=zK hf w;obtain ⟨dp,dt⟩:=zK hf (w+1))
  | (go_at_call 219;(with_reducible refine (I1 _ g' a' n' c' z' (h'.keep qD)).mono ?_);rintro e w1 ⟨rfl,hb⟩;obtain ⟨hc,hf⟩:=Bg hb;have hz:=hb.size;(try simp only [Aj,Ak] at hz);replace HB:=zP w hb;obtain ⟨aw,bh⟩:=xd hc w g a n c;obtain ⟨bn,bo⟩:=xd hc (w+1) g' a' n' c';obtain ⟨bw,bx⟩:=zJ hc (w+1+1);obtain ⟨bz,cc⟩:=zK hf (w+1+1);obtain ⟨dy,dz⟩:=zK hf w;obtain ⟨dp,dt⟩:=zK hf (w+1)))
 have AH:Es w w1 g a n c z g' a' n' c' z':=⟨aw,bh,bn,bo,bw,bx,dy,dz,dp,dt,bz,cc,h.keep HB,h'.keep HB,h.rd.off (Ad _) _,h'.rd.off (Ad _) _,qB,HB⟩;have UJ:=AH.set AH.numa AH.numb AH.offa AH.offb;clear AH hc hf hb HB aw bh bn bo bw bx dy dz dp dt bz cc;go_wp2_with fail;go_loopw [] (fun wr=>∃ga aa na ca x gb ab nb cb y,Es w wr ga aa na ca x gb ab nb cb y∧nb<35184372088829∧na<35184372088829∧Int.gcd x y=Int.gcd z z')
  (fun wr=>gF wr (w+1))
 case atStart=>exact ⟨g,a,n,c,z,g',a',n',c',z',UJ,qv,br,rfl⟩
 case round =>
  obtain ⟨ga,aa,na,ca,x,gb,ab,nb,cb,y,HG,uh,hna,uw⟩:=hrel;clear UJ;have b00:=HG.b00;have b01:=HG.b01;have b10:=HG.b10;have b11:=HG.b11;have z20:=HG.z20;have z21:=HG.z21;have f00:=HG.f00;have f01:=HG.f01;have f10:=HG.f10;have f11:=HG.f11;have f20:=HG.f20;have f21:=HG.f21;have HB:=HG.hb;have fb:=HG.sz;have qi:=HG.sz;have HV0:=Ae ((Qc b11 HG.numb.rd).trans (Bq _));by_cases ss:nb=0
  ·have hyz:y=0:=Decidable.byContradiction fun e=>HG.numb.ne.2 e ss
   subst ss;have VH:=Ae uw;clear uw;go_wp2_with fail;refine (Nm _ _ _ _ (dg x.natAbs) HG.numa.rd).mono ?_;rintro e w2 ⟨a2,c2,rfl,lf,nk,bp⟩;clear b00 b01 b10 b11 z20 z21 f00 f01 f10 f11 f20 f21 HB fb;replace HG:=HG.keep bp;have b00:=HG.b00;have b01:=HG.b01;have b10:=HG.b10;have b11:=HG.b11;have z20:=HG.z20;have z21:=HG.z21;have f00:=HG.f00;have f01:=HG.f01;have f10:=HG.f10;have f11:=HG.f11;have f20:=HG.f20;have f21:=HG.f21;have HB:=HG.hb;have fb:=HG.sz;go_wp2_with fail;refine (Ft _ false a2 na c2 _ lf (D0 _)).mono ?_;rintro e w3 ⟨g3,n3,rfl,ll,ic,ea⟩;clear b00 b01 b10 b11 z20 z21 f00 f01 f10 f11 f20 f21 HB fb;replace HG:=HG.keep ea;have b00:=HG.b00;have b01:=HG.b01;have b10:=HG.b10;have b11:=HG.b11;have z20:=HG.z20;have z21:=HG.z21;have f00:=HG.f00;have f01:=HG.f01;have f10:=HG.f10;have f11:=HG.f11;have f20:=HG.f20;have f21:=HG.f21;have HB:=HG.hb;have fb:=HG.sz;have sq:=((nk.keep ea).less ll).mono (show w.heap.size+1+1+1≤_ from qB);go_wp2_with fail;refine bodyPost_ret (v:=.agg #[.bool g3,.slice a2 n3 n3]) (by simp [results,results217,go_sem,z20,z21]) rfl ?_;have hval:sgn false (val (dg x.natAbs))=((Int.gcd z z':Nat):Int):=by rw [←VH.out,hyz,Bq];simp [sgn]
   rw [hval] at ic;refine ⟨g3,a2,n3,n3,rfl,?_,?_,qD⟩
   ·exact qBz
   ·exact qBp
  ·have hyp:y≠0:=HG.numb.ne.1 ss;have al0:0<nb:=qB;have VH:=Ae uw;clear uw;by_cases yt:na≤2∧nb≤2
   ·obtain ⟨yt,a7a⟩:=yt;go_wp2_with fail;refine (Nm _ _ _ _ (dg x.natAbs) HG.numa.rd).mono ?_;rintro e w2 ⟨a2,c2,rfl,lf,nk,bp⟩;clear b00 b01 b10 b11 z20 z21 f00 f01 f10 f11 f20 f21 HB fb;replace HG:=HG.keep bp;have b00:=HG.b00;have b01:=HG.b01;have b10:=HG.b10;have b11:=HG.b11;have z20:=HG.z20;have z21:=HG.z21;have f00:=HG.f00;have f01:=HG.f01;have f10:=HG.f10;have f11:=HG.f11;have f20:=HG.f20;have f21:=HG.f21;have HB:=HG.hb;have fb:=HG.sz;go_wp2_with fail;refine (Ft _ false a2 na c2 _ lf (D0 _)).mono ?_;rintro e w3 ⟨g3,n3,rfl,ll,ic,ea⟩;clear b00 b01 b10 b11 z20 z21 f00 f01 f10 f11 f20 f21 HB fb;replace HG:=HG.keep ea;have b00:=HG.b00;have b01:=HG.b01;have b10:=HG.b10;have b11:=HG.b11;have z20:=HG.z20;have z21:=HG.z21;have f00:=HG.f00;have f01:=HG.f01;have f10:=HG.f10;have f11:=HG.f11;have f20:=HG.f20;have f21:=HG.f21;have HB:=HG.hb;have fb:=HG.sz;have GN:n3≤2:=by have h1:=ic.rd.len;have h2:=lf.len;rw [Ha,Bq] at h1;omega
    have JV:sgn false (val (dg x.natAbs))=((x.natAbs:Nat):Int):=by rw [Bq];simp [sgn]
    rw [JV] at ic;have hxb:((x.natAbs:Nat):Int)<1000000000000000000:=by
     have h3:=Ep (dg x.natAbs) (D0 _);have h4:=HG.numa.rd.len;have h5:=Nat.pow_le_pow_right (show 0<1000000000 from qB) (show (dg x.natAbs).length≤2 from qB);rw [Bq] at h3;omega
    go_wp2_with fail;refine (mM _ _ _ _ _ _ ic qB GN).mono ?_;rintro e w4 ⟨rfl,ec⟩;clear b00 b01 b10 b11 z20 z21 f00 f01 f10 f11 f20 f21 HB fb;replace HG:=HG.keep ec;have b00:=HG.b00;have b01:=HG.b01;have b10:=HG.b10;have b11:=HG.b11;have z20:=HG.z20;have z21:=HG.z21;have f00:=HG.f00;have f01:=HG.f01;have f10:=HG.f10;have f11:=HG.f11;have f20:=HG.f20;have f21:=HG.f21;have HB:=HG.hb;have fb:=HG.sz;go_wp2_with fail;refine (Nm _ _ _ _ (dg y.natAbs) HG.numb.rd).mono ?_;rintro e w5 ⟨a5,c5,rfl,yb,nh,dx⟩;clear b00 b01 b10 b11 z20 z21 f00 f01 f10 f11 f20 f21 HB fb;replace HG:=HG.keep dx;have b00:=HG.b00;have b01:=HG.b01;have b10:=HG.b10;have b11:=HG.b11;have z20:=HG.z20;have z21:=HG.z21;have f00:=HG.f00;have f01:=HG.f01;have f10:=HG.f10;have f11:=HG.f11;have f20:=HG.f20;have f21:=HG.f21;have HB:=HG.hb;have fb:=HG.sz;go_wp2_with fail;refine (Ft _ false a5 nb c5 _ yb (D0 _)).mono ?_;rintro e w6 ⟨g6,n6,rfl,JG,vz,ee⟩;clear b00 b01 b10 b11 z20 z21 f00 f01 f10 f11 f20 f21 HB fb;replace HG:=HG.keep ee;have b00:=HG.b00;have b01:=HG.b01;have b10:=HG.b10;have b11:=HG.b11;have z20:=HG.z20;have z21:=HG.z21;have f00:=HG.f00;have f01:=HG.f01;have f10:=HG.f10;have f11:=HG.f11;have f20:=HG.f20;have f21:=HG.f21;have HB:=HG.hb;have fb:=HG.sz;have ahm:n6≤2:=by have h1:=vz.rd.len;have h2:=yb.len;rw [Ha,Bq] at h1;omega
    have hv6:sgn false (val (dg y.natAbs))=((y.natAbs:Nat):Int):=by rw [Bq];simp [sgn]
    rw [hv6] at vz;have hyb:((y.natAbs:Nat):Int)<1000000000000000000:=by
     have h3:=Ep (dg y.natAbs) (D0 _);have h4:=HG.numb.rd.len;have h5:=Nat.pow_le_pow_right (show 0<1000000000 from qB) (show (dg y.natAbs).length≤2 from qB);rw [Bq] at h3;omega
    go_wp2_with fail;refine (mM _ _ _ _ _ _ vz qB ahm).mono ?_;rintro e w7 ⟨rfl,iw⟩;clear b00 b01 b10 b11 z20 z21 f00 f01 f10 f11 f20 f21 HB fb;replace HG:=HG.keep iw;have b00:=HG.b00;have b01:=HG.b01;have b10:=HG.b10;have b11:=HG.b11;have z20:=HG.z20;have z21:=HG.z21;have f00:=HG.f00;have f01:=HG.f01;have f10:=HG.f10;have f11:=HG.f11;have f20:=HG.f20;have f21:=HG.f21;have HB:=HG.hb;have fb:=HG.sz;clear lf nk bp ic ea ec yb nh dx vz ee iw JV hv6 ll JG GN ahm;go_wp2_with fail;go_loopw [5,7] (fun v5 v7 wi=>∃m k:Int,v5=M m∧v7=M k∧0≤m∧m<1000000000000000000∧0≤k∧k<1000000000000000000∧Int.gcd m k=Int.gcd z z'∧xp w7 wi)
     (fun _ v7 _=>(intOf v7).toNat)
    case atStart =>
     refine ⟨_,_,rfl,rfl,qB,hxb,qB,hyb,?_,Ac _ _⟩;rw [←VH.out];simp [Int.gcd]
    case round =>
     obtain ⟨m,k,rfl,rfl,AL,yf,qp,jy,hg,BN⟩:=hrel;clear b00 b01 b10 b11 z20 z21 f00 f01 f10 f11 f20 f21 HB fb;replace HG:=HG.keep BN;have b00:=HG.b00;have b01:=HG.b01;have b10:=HG.b10;have b11:=HG.b11;have z20:=HG.z20;have z21:=HG.z21;have f00:=HG.f00;have f01:=HG.f01;have f10:=HG.f10;have f11:=HG.f11;have f20:=HG.f20;have f21:=HG.f21;have HB:=HG.hb;have fb:=HG.sz;have HGM:=Ae hg;clear hg;by_cases hk:0<k
     ·have vv:((k:Int)==0)=false:=by rw [beq_eq_false_iff_ne];omega
      have tz:=Int.tmod_eq_emod_of_nonneg (b:=k) AL;have OZ:=Int.emod_nonneg m (show k≠0 from qB);have hm3:=Int.emod_lt_of_pos m hk;go_wp2_with fail;go_quiet (fail);go_wp2_with fail;refine ⟨⟨k,m%k,rfl,rfl,qB,qB,qB,qB,by rw [Tu];exact HGM.out,Bj _ BN⟩,?_⟩;simp [intOf];omega
     ·obtain rfl:k=0:=qB;go_wp2_with fail;have qx:=HG.sz;refine (Yx _ m qB qB).mono ?_;rintro e w8 ⟨g3,a8,n3,c8,rfl,ic,hf8,jt⟩;clear b00 b01 b10 b11 z20 z21 f00 f01 f10 f11 f20 f21 HB fb;replace HG:=HG.keep jt;have b00:=HG.b00;have b01:=HG.b01;have b10:=HG.b10;have b11:=HG.b11;have z20:=HG.z20;have z21:=HG.z21;have f00:=HG.f00;have f01:=HG.f01;have f10:=HG.f10;have f11:=HG.f11;have f20:=HG.f20;have f21:=HG.f21;have HB:=HG.hb;have fb:=HG.sz;have sq:=hf8.mono (show w.heap.size+1+1+1≤_ from qB);go_wp2_with fail;refine bodyPost_ret (v:=.agg #[.bool g3,.slice a8 n3 c8]) (by simp [results,results217,go_sem,z20,z21]) rfl ?_;have hval:m=((Int.gcd z z':Nat):Int):=by rw [←HGM.out];simp;omega
      rw [hval] at ic;refine ⟨g3,a8,n3,c8,rfl,?_,?_,qD⟩
      ·exact qBz
      ·exact qBp
   ·by_cases arx:na≤2
    ·have a7d:decide ((nb:Int)≤2)=false:=qL;have a7e:(na:Int)≤2:=qB;clear yt;exact qAk
    ·have a7f:decide ((na:Int)≤2)=false:=qL;clear yt arx;exact qAk
theorem xG (w:World) (g:Bool) (a:Γ) (n c:Nat) (z:Int) (h:Bh w g a n c z) (g':Bool) (a':Γ) (n' c':Nat) (z':Int) (h':Bh w g' a' n' c' z')
  (j5:0<z') (qv:n'<35184372088829) (br:n<35184372088829) :
  Θ 217 #[.agg #[.bool g,.slice a n c],.agg #[.bool g',.slice a' n' c']] w (Di w (Int.gcd z z':Nat)):=wT w g a n c z h g' a' n' c' z' h' qv br
end Go.Proofs.YtfijkfdfbnfmmaaGreatDoor
end
