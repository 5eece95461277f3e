/- Package limbs: Div, No further condition. -/
import Derived.Test.YtfijkfdfbnfmmaaGreatDoorQF5
set_option linter.unusedSimpArgs false
set_option linter.unusedVariables false
set_option maxRecDepth 100000
set_option maxHeartbeats 4000000
section
namespace Go.Proofs.YtfijkfdfbnfmmaaGreatDoor
open Go.RowKit Proofs.Tryz
variable {g g' gq gr:Bool} {z z' q r:Int} {n c n' c' B nq cq nr cr:Nat} {w wd:World} {a a' a7 a8 ax ay:Γ}
theorem Bh.ne (h:Bh w g a n c z):n≠0↔z≠0:=by
 have hl:=h.rd.len;have hv:=Bq z.natAbs;constructor
 ·intro hn hz;rw [hz,show (0:Int).natAbs=0 from rfl,Dv] at hl;simp at hl;omega
 ·intro hz hn;rw [hn] at hl;rw [List.eq_nil_of_length_eq_zero hl,val] at hv;omega
structure Iv (w wc:World) (g:Bool) (a:Γ) (n c:Nat) (g':Bool) (a':Γ) (n' c':Nat):Prop where
 b00:Z wc w 0 (.bool g)
 b01:Z wc w 1 (.slice a n c)
 b10:Z wc (w+1) 0 (.bool g')
 b11:Z wc (w+1) 1 (.slice a' n' c')
 z20:Z wc (w+1+1) 0 (.bool false)
 z21:Z wc (w+1+1) 1 (.slice none 0 0)
 z30:Z wc (w+1+1+1) 0 (.bool false)
 z31:Z wc (w+1+1+1) 1 (.slice none 0 0)
 f20:Y wc (w+1+1) 0
 f21:Y wc (w+1+1) 1
 f30:Y wc (w+1+1+1) 0
 f31:Y wc (w+1+1+1) 1
 sz:w.heap.size+1+1+1<wc
 hb:xp w wc
theorem Iv.keep {wc:World} (h:Iv w wc g a n c g' a' n' c') (hb:xp wc wd):Iv w wd g a n c g' a' n' c':=by
 have s:=h.sz;have hz:=hb.size;exact ⟨Bb hb h.b00,Bb hb h.b01,Bb hb h.b10,Bb hb h.b11,Bb hb h.z20,Bb hb h.z21,Bb hb h.z30,Bb hb h.z31,
  (hb.frozen (by show w.heap.size+1+1<_;omega)).trans h.f20,(hb.frozen (by show w.heap.size+1+1<_;omega)).trans h.f21,(hb.frozen (by show w.heap.size+1+1+1<_;omega)).trans h.f30,(hb.frozen (by show w.heap.size+1+1+1<_;omega)).trans h.f31,
  qB,(xo h.hb hb)⟩
def Ip (w wc:World) (v:Value) (q:Nat):Prop:=∃a n c d,v=.slice a n c∧RdL wc a n c d∧(∀x∈d,x<1000000000)∧val d=q∧Bc (w+1+1+1+1) wc a c
theorem Ip.nil (w wc:World):Ip w wc (.slice none 0 0) 0 :=
 ⟨none,0,0,[],rfl,⟨rfl,Ad _,qB,qB,fun i=>by simp [lim],.inl rfl⟩,fun x hx=>(by cases hx),rfl,.inl rfl⟩
theorem pK (hl:(dg z.natAbs).length=n) (h1:n=1):lim (dg z.natAbs) 0=z.natAbs∧z.natAbs<1000000000:=by
 have hv:=Bq z.natAbs;have bj:=D0 z.natAbs
 match hd:dg z.natAbs with
 | []=>rw [hd] at hl;simp at hl;omega
 | [x] =>
  rw [hd] at hv bj;simp only [val,Nat.mul_zero,Nat.add_zero] at hv;refine ⟨by simp [lim];omega,?_⟩;rw [←hv];exact bj x qH
 | x::y::l=>rw [hd] at hl;simp at hl;omega
theorem gN (h:0≤z):z/z'=sgn (decide (z'<0)) (z.natAbs/z'.natAbs)∧z%z'=sgn false (z.natAbs%z'.natAbs):=by
 obtain ⟨A,rfl⟩:=Int.eq_ofNat_of_zero_le h;rcases Int.lt_or_le z' 0 with h'|h'
 ·obtain ⟨B,hB⟩:=Int.eq_ofNat_of_zero_le (show 0≤-z' from qB);obtain rfl:z'=-(B:Int):=qB;rw [Int.ediv_neg,Int.emod_neg,Int.natAbs_neg];simp [sgn];omega
 ·obtain ⟨B,rfl⟩:=Int.eq_ofNat_of_zero_le h';have h3:¬((B:Int)<0):=qB;simp [sgn,h3]
theorem Zy (A B:Nat) (hB:0<B):(-(A:Int))/(B:Int)=-((A/B:Nat):Int)-(if A%B=0 then 0 else 1)∧(-(A:Int))%(B:Int)=(if A%B=0 then 0 else (B:Int)-((A%B:Nat):Int)):=by
 have hA:=Nat.div_add_mod A B;have hm:=Nat.mod_lt A hB;rw [Int.ediv_emod_unique qB];generalize A/B=q at *;generalize A%B=r at *;subst hA
 split
 ·rename_i hr;subst hr;refine ⟨?_,qB,qB⟩;simp [Int.mul_neg]
 ·refine ⟨?_,qB,qB⟩;rw [Int.mul_sub,Int.mul_neg];simp;omega
theorem Xv (h:z<0) (h':z'≠0):z/z'=sgn (!decide (z'<0)) (z.natAbs/z'.natAbs)+(if z.natAbs%z'.natAbs=0 then 0 else if z'<0 then 1 else -1)∧z%z'=sgn true (z.natAbs%z'.natAbs)+(if z.natAbs%z'.natAbs=0 then 0 else (z'.natAbs:Int)):=by
 obtain ⟨A,hA⟩:=Int.eq_ofNat_of_zero_le (show 0≤-z from qB);obtain rfl:z=-(A:Int):=qB;rcases Int.lt_or_le z' 0 with h2|h2
 ·obtain ⟨B,hB⟩:=Int.eq_ofNat_of_zero_le (show 0≤-z' from qB);obtain rfl:z'=-(B:Int):=qB;have:=Zy A B qB;rw [Int.ediv_neg,Int.emod_neg,this.1,this.2,Int.natAbs_neg,Int.natAbs_neg,Int.natAbs_natCast,Int.natAbs_natCast];generalize A/B=q;generalize A%B=r;simp only [h2,sgn];constructor<;>split<;>simp<;>omega
 ·obtain ⟨B,rfl⟩:=Int.eq_ofNat_of_zero_le h2;have:=Zy A B qB;rw [this.1,this.2,Int.natAbs_neg,Int.natAbs_natCast,Int.natAbs_natCast];generalize A/B=q;generalize A%B=r;have h3:¬((B:Int)<0):=qB;simp only [h3,sgn];constructor<;>split<;>simp<;>omega
theorem Bh.set4 (h:Bh w g a n c z) (hf:Bc B w a c) (p1 p2 p3 p4:Addr) (u1 u2 u3 u4:Value) (h1:p1.block<B) (h2:p2.block<B) (h3:p3.block<B) (h4:p4.block<B):Bh ((((w.setCell p1 u1).setCell p2 u2).setCell p3 u3).setCell p4 u4) g a n c z :=
 (((h.setFresh hf p1 u1 h1).setFresh (hf.setNew p1 u1 h1) p2 u2 h2).setFresh ((hf.setNew p1 u1 h1).setNew p2 u2 h2) p3 u3 h3).setFresh (((hf.setNew p1 u1 h1).setNew p2 u2 h2).setNew p3 u3 h3) p4 u4 h4
theorem Bc.set4 (hf:Bc B w a c) (p1 p2 p3 p4:Addr) (u1 u2 u3 u4:Value) (h1:p1.block<B) (h2:p2.block<B) (h3:p3.block<B) (h4:p4.block<B):Bc B ((((w.setCell p1 u1).setCell p2 u2).setCell p3 u3).setCell p4 u4) a c :=
 (((hf.setNew p1 u1 h1).setNew p2 u2 h2).setNew p3 u3 h3).setNew p4 u4 h4
theorem Og {b:Nat} {x0 x1 x2 x3:Value} (u0 u1 u2 u3:Value) (h0:Z w b 0 x0) (h1:Z w b 1 x1) (h2:Z w (b+1) 0 x2) (h3:Z w (b+1) 1 x3) :
  Z ((((w.setCell (J b 0) u0).setCell (J b 1) u1).setCell (J (b+1) 0) u2).setCell (J (b+1) 1) u3) b 0 u0 ∧
  Z ((((w.setCell (J b 0) u0).setCell (J b 1) u1).setCell (J (b+1) 0) u2).setCell (J (b+1) 1) u3) b 1 u1 ∧
  Z ((((w.setCell (J b 0) u0).setCell (J b 1) u1).setCell (J (b+1) 0) u2).setCell (J (b+1) 1) u3) (b+1) 0 u2 ∧
  Z ((((w.setCell (J b 0) u0).setCell (J b 1) u1).setCell (J (b+1) 0) u2).setCell (J (b+1) 1) u3) (b+1) 1 u3 ∧
  (∀p:Addr,p.block<b→((((w.setCell (J b 0) u0).setCell (J b 1) u1).setCell (J (b+1) 0) u2).setCell (J (b+1) 1) u3).cell? p=w.cell? p) ∧
  (∀p:Addr,((((w.setCell (J b 0) u0).setCell (J b 1) u1).setCell (J (b+1) 0) u2).setCell (J (b+1) 1) u3).frozen? p=w.frozen? p):=by
 refine ⟨by simp [h0,h1,h2,h3,go_sem],by simp [h0,h1,h2,h3,go_sem],by simp [h0,h1,h2,h3,go_sem],by simp [h0,h1,h2,h3,go_sem],fun p hp=>?_,fun p=>qJ⟩;rw [World.cell?_setCell_far _ _ _ _ (by show b+1≠_;omega),World.cell?_setCell_far _ _ _ _ (by show b+1≠_;omega),World.cell?_setCell_far _ _ _ _ (by show b≠_;omega),World.cell?_setCell_far _ _ _ _ (by show b≠_;omega)]
theorem Bh.turn (h:Bh w false a n c z) (hz:0<z):Bh w true a n c (-z) :=
 ⟨qL,by rw [Int.natAbs_neg];exact h.rd⟩
theorem Bh.abs (h:Bh w g a n c z):Bh w false a n c ((z.natAbs:Nat):Int) :=
 ⟨qH,by rw [Int.natAbs_natCast];exact h.rd⟩
def Kx (w:World) (q r:Int) (e:Ending) (w':World):Prop :=
 ∃gq aq nq cq gr ar nr cr,e=.returned (.tuple #[.agg #[.bool gq,.slice aq nq cq],.agg #[.bool gr,.slice ar nr cr],M 0])∧Bh w' gq aq nq cq q∧Bh w' gr ar nr cr r∧Bc w w' aq cq∧Bc w w' ar cr∧xp w w'
structure G4 (w wd:World) (g':Bool) (a':Γ) (n' c':Nat) (gq:Bool) (a7:Γ) (nq cq:Nat) (q:Int) (gr:Bool) (a8:Γ) (nr cr:Nat) (r:Int):Prop where
 b10:Z wd (w+1) 0 (.bool g')
 b11:Z wd (w+1) 1 (.slice a' n' c')
 z20:Z wd (w+1+1) 0 (.bool gq)
 z21:Z wd (w+1+1) 1 (.slice a7 nq cq)
 z30:Z wd (w+1+1+1) 0 (.bool gr)
 z31:Z wd (w+1+1+1) 1 (.slice a8 nr cr)
 f20:Y wd (w+1+1) 0
 f21:Y wd (w+1+1) 1
 f30:Y wd (w+1+1+1) 0
 f31:Y wd (w+1+1+1) 1
 numq:Bh wd gq a7 nq cq q
 numr:Bh wd gr a8 nr cr r
 frq:Bc (w+1+1+1+1) wd a7 cq
 frr:Bc (w+1+1+1+1) wd a8 cr
 sz:w.heap.size+1+1+1<wd
 hb:xp w wd
theorem G4.keep {we:World} (h:G4 w wd g' a' n' c' gq a7 nq cq q gr a8 nr cr r) (hb:xp wd we):G4 w we g' a' n' c' gq a7 nq cq q gr a8 nr cr r:=by
 have s:=h.sz;have hz:=hb.size;exact ⟨Bb hb h.b10,Bb hb h.b11,Bb hb h.z20,Bb hb h.z21,Bb hb h.z30,Bb hb h.z31,
  (hb.frozen (by show w.heap.size+1+1<_;omega)).trans h.f20,(hb.frozen (by show w.heap.size+1+1<_;omega)).trans h.f21,(hb.frozen (by show w.heap.size+1+1+1<_;omega)).trans h.f30,(hb.frozen (by show w.heap.size+1+1+1<_;omega)).trans h.f31,
  h.numq.keep hb,h.numr.keep hb,h.frq.keep hb,h.frr.keep hb,qB,(xo h.hb hb)⟩
theorem G4.set (h:G4 w wd g' a' n' c' gq a7 nq cq q gr a8 nr cr r)
  {gx:Bool} {nx cx:Nat} {x:Int} {gy:Bool} {ny cy:Nat} {y:Int} (hx:Bh wd gx ax nx cx x) (hy:Bh wd gy ay ny cy y) (fx:Bc (w+1+1+1+1) wd ax cx) (fy:Bc (w+1+1+1+1) wd ay cy) :
  G4 w ((((wd.setCell (J (w+1+1) 0) (.bool gx)).setCell (J (w+1+1) 1) (.slice ax nx cx)).setCell (J (w+1+1+1) 0) (.bool gy)).setCell (J (w+1+1+1) 1) (.slice ay ny cy)) g' a' n' c' gx ax nx cx x gy ay ny cy y:=by
 obtain ⟨k0,k1,k2,k3,k4,k5⟩:=Og (.bool gx) (.slice ax nx cx) (.bool gy) (.slice ay ny cy) h.z20 h.z21 h.z30 h.z31;have s:=h.sz;have HB:=h.hb;exact ⟨(k4 _ (by show w.heap.size+1<w.heap.size+1+1;omega)).trans h.b10,(k4 _ (by show w.heap.size+1<w.heap.size+1+1;omega)).trans h.b11,k0,k1,k2,k3,(k5 _).trans h.f20,(k5 _).trans h.f21,(k5 _).trans h.f30,(k5 _).trans h.f31,
  hx.set4 fx _ _ _ _ _ _ _ _ (by show w.heap.size+1+1<_;omega) (by show w.heap.size+1+1<_;omega) (by show w.heap.size+1+1+1<_;omega) (by show w.heap.size+1+1+1<_;omega),hy.set4 fy _ _ _ _ _ _ _ _ (by show w.heap.size+1+1<_;omega) (by show w.heap.size+1+1<_;omega) (by show w.heap.size+1+1+1<_;omega) (by show w.heap.size+1+1+1<_;omega),fx.set4 _ _ _ _ _ _ _ _ (by show w.heap.size+1+1<_;omega) (by show w.heap.size+1+1<_;omega) (by show w.heap.size+1+1+1<_;omega) (by show w.heap.size+1+1+1<_;omega),fy.set4 _ _ _ _ _ _ _ _ (by show w.heap.size+1+1<_;omega) (by show w.heap.size+1+1<_;omega) (by show w.heap.size+1+1+1<_;omega) (by show w.heap.size+1+1+1<_;omega),by simp only [Am];omega,qD⟩
theorem yH (w:World) (a:Γ) (n c:Nat) (z:Int) (h:Bh w false a n c z) (a':Γ) (n' c':Nat) (z':Int) (h':Bh w false a' n' c' z')
  (j5:z'≠0) (br:n<35184372088830) (bp:n'<35184372088830) :
  Θ 252 #[.agg #[.bool false,.slice a n c],.agg #[.bool false,.slice a' n' c']] w (Kx w (z/z') (z%z')):=by
 have HB:=Ac w w;have FR:=h'.ne.2 j5;have qv:0<n':=qB;have iz:((n':Int)==0)=false:=by rw [beq_eq_false_iff_ne];omega
 have ho:=Ae h.okay;have DT:=Ae h'.okay;go_enter func252,ntmps252;go_wp2_with fail;refine (De _ _ _ _ _ (dg z.natAbs) (h.rd.keep qD) true ⟨fun _=>rfl,fun _=>ho.out⟩).mono ?_;rintro e w1 ⟨rfl,hb⟩;obtain ⟨hc,hf⟩:=Bg hb;have hz:=hb.size;(try simp only [Aj,Ak] at hz);replace HB:=zP w hb;obtain ⟨aw,bh⟩:=xd hc w false a n c;obtain ⟨bn,bo⟩:=xd hc (w+1) false a' n' c';obtain ⟨bw,bx⟩:=zJ hc (w+1+1);obtain ⟨ja,jb⟩:=zJ hc (w+1+1+1);obtain ⟨bz,cc⟩:=zK hf (w+1+1);obtain ⟨jc,jd⟩:=zK hf (w+1+1+1);go_wp2_with fail;refine (De _ _ _ _ _ (dg z'.natAbs) (h'.rd.keep qD) true ⟨fun _=>rfl,fun _=>DT.out⟩).mono ?_;rintro e w2 ⟨rfl,hb⟩;obtain ⟨hc,hf⟩:=Bg hb;have hz:=hb.size;(try simp only [Aj,Ak] at hz);replace HB:=zP w hb;obtain ⟨aw,bh⟩:=xd hc w false a n c;obtain ⟨bn,bo⟩:=xd hc (w+1) false a' n' c';obtain ⟨bw,bx⟩:=zJ hc (w+1+1);obtain ⟨ja,jb⟩:=zJ hc (w+1+1+1);obtain ⟨bz,cc⟩:=zK hf (w+1+1);obtain ⟨jc,jd⟩:=zK hf (w+1+1+1);have xu:Iv w w2 false a n c false a' n' c':=⟨aw,bh,bn,bo,bw,bx,ja,jb,bz,cc,jc,jd,qB,HB⟩;go_upto_block 1 with fail
 go_cut [7,8] (fun v7 v8 wc=>Ip w wc v7 (z.natAbs/z'.natAbs)∧Ip w wc v8 (z.natAbs%z'.natAbs)∧Iv w wc false a n c false a' n' c')
 case first =>
  exact qAb
 case rest =>
  obtain ⟨⟨a7,n7,c7,d7,rfl,r7,l7,v7,f7⟩,⟨a8,n8,c8,d8,rfl,r8,l8,v8,f8⟩,ef⟩:=hcut;have V7:=Ae v7;have V8:=Ae v8;clear v7 v8 aw bh bn bo bw bx ja jb bz cc jc jd HB xu;go_upto_region 12 with fail
  go_cut [] (fun wd=>∃gq nq gr nr,G4 w wd false a' n' c' gq a7 nq nq (sgn false (z.natAbs/z'.natAbs)) gr a8 nr nr (sgn false (z.natAbs%z'.natAbs)))
  case first =>
   have s0:=ef.b00;have s1:=ef.b10;have szc:=ef.sz;go_region_held3 (fun W=>Z W w 0 (.bool false)∧Z W (w+1) 0 (.bool false)) (exact qK) (first
    | (go_at_call 220;(with_reducible refine (Ft _ false a7 n7 c7 d7 (r7.keep qD) l7).mono ?_);rintro e w5 ⟨gq,nq,rfl,PJ,hq,dx⟩;replace ef:=(ef.keep qD).keep dx;have f7':=((f7.keep qD).keep dx).less PJ;have s0:=ef.b00;have s1:=ef.b10;have DD:=dx.size;have t0:=ef.z20;have t1:=ef.z21;have t2:=ef.z30;have t3:=ef.z31;have u0:=ef.f20;have u1:=ef.f21;have u2:=ef.f30;have u3:=ef.f31)
    | (go_at_call 220;(with_reducible refine (Ft _ false a8 n8 c8 d8 ((r8.keep (Below.drew (Ac _ _))).keep dx) l8).mono ?_);rintro e w6 ⟨gr,nr,rfl,NT,hr,ee⟩;replace ef:=ef.keep ee;have s0:=ef.b00;have s1:=ef.b10;have DF:=ee.size;have t0:=ef.z20;have t1:=ef.z21;have t2:=ef.z30;have t3:=ef.z31;have u0:=ef.f20;have u1:=ef.f21;have u2:=ef.f30;have u3:=ef.f31))
   exact qAh
  case rest =>
   clear ef r7 l7 f7 r8 l8 f8 V7 V8;obtain ⟨gq,nq,gr,nr,HD⟩:=hcut;have d0:=HD.b10;have d1:=HD.b11;have d2:=HD.z20;have d3:=HD.z21;have d4:=HD.z30;have d5:=HD.z31;have d6:=HD.f20;have d7:=HD.f21;have d8:=HD.f30;have d9:=HD.f31;have ZM:=HD.sz;have HB:=HD.hb;go_upto_if 79 with (fail)
   go_cut [] (fun we=>∃gq aq nq cq gr ar nr cr,G4 w we false a' n' c' gq aq nq cq (z/z') gr ar nr cr (z%z'))
   case first =>
    exact qFu
   case rest =>
    exact qAf
theorem Aal (w:World) (a:Γ) (n c:Nat) (z:Int) (h:Bh w false a n c z) (a':Γ) (n' c':Nat) (z':Int) (h':Bh w true a' n' c' z')
  (j5:z'≠0) (br:n<35184372088830) (bp:n'<35184372088830) :
  Θ 252 #[.agg #[.bool false,.slice a n c],.agg #[.bool true,.slice a' n' c']] w (Kx w (z/z') (z%z')):=by
 have HB:=Ac w w;have FR:=h'.ne.2 j5;have qv:0<n':=qB;have iz:((n':Int)==0)=false:=by rw [beq_eq_false_iff_ne];omega
 have ho:=Ae h.okay;have DT:=Ae h'.okay;go_enter func252,ntmps252;go_wp2_with fail;refine (De _ _ _ _ _ (dg z.natAbs) (h.rd.keep qD) true ⟨fun _=>rfl,fun _=>ho.out⟩).mono ?_;rintro e w1 ⟨rfl,hb⟩;obtain ⟨hc,hf⟩:=Bg hb;have hz:=hb.size;(try simp only [Aj,Ak] at hz);replace HB:=zP w hb;obtain ⟨aw,bh⟩:=xd hc w false a n c;obtain ⟨bn,bo⟩:=xd hc (w+1) true a' n' c';obtain ⟨bw,bx⟩:=zJ hc (w+1+1);obtain ⟨ja,jb⟩:=zJ hc (w+1+1+1);obtain ⟨bz,cc⟩:=zK hf (w+1+1);obtain ⟨jc,jd⟩:=zK hf (w+1+1+1);go_wp2_with fail;refine (De _ _ _ _ _ (dg z'.natAbs) (h'.rd.keep qD) true ⟨fun _=>rfl,fun _=>DT.out⟩).mono ?_;rintro e w2 ⟨rfl,hb⟩;obtain ⟨hc,hf⟩:=Bg hb;have hz:=hb.size;(try simp only [Aj,Ak] at hz);replace HB:=zP w hb;obtain ⟨aw,bh⟩:=xd hc w false a n c;obtain ⟨bn,bo⟩:=xd hc (w+1) true a' n' c';obtain ⟨bw,bx⟩:=zJ hc (w+1+1);obtain ⟨ja,jb⟩:=zJ hc (w+1+1+1);obtain ⟨bz,cc⟩:=zK hf (w+1+1);obtain ⟨jc,jd⟩:=zK hf (w+1+1+1);have xu:Iv w w2 false a n c true a' n' c':=⟨aw,bh,bn,bo,bw,bx,ja,jb,bz,cc,jc,jd,qB,HB⟩;go_upto_block 1 with fail
 go_cut [7,8] (fun v7 v8 wc=>Ip w wc v7 (z.natAbs/z'.natAbs)∧Ip w wc v8 (z.natAbs%z'.natAbs)∧Iv w wc false a n c true a' n' c')
 case first =>
  exact qAb
 case rest =>
  obtain ⟨⟨a7,n7,c7,d7,rfl,r7,l7,v7,f7⟩,⟨a8,n8,c8,d8,rfl,r8,l8,v8,f8⟩,ef⟩:=hcut;have V7:=Ae v7;have V8:=Ae v8;clear v7 v8 aw bh bn bo bw bx ja jb bz cc jc jd HB xu;go_upto_region 12 with fail
  go_cut [] (fun wd=>∃gq nq gr nr,G4 w wd true a' n' c' gq a7 nq nq (sgn true (z.natAbs/z'.natAbs)) gr a8 nr nr (sgn false (z.natAbs%z'.natAbs)))
  case first =>
   have s0:=ef.b00;have s1:=ef.b10;have szc:=ef.sz;go_region_held3 (fun W=>Z W w 0 (.bool false)∧Z W (w+1) 0 (.bool true)) (exact qK) (first
    | (go_at_call 220;(with_reducible refine (Ft _ true a7 n7 c7 d7 (r7.keep qD) l7).mono ?_);rintro e w5 ⟨gq,nq,rfl,PJ,hq,dx⟩;replace ef:=(ef.keep qD).keep dx;have f7':=((f7.keep qD).keep dx).less PJ;have s0:=ef.b00;have s1:=ef.b10;have DD:=dx.size;have t0:=ef.z20;have t1:=ef.z21;have t2:=ef.z30;have t3:=ef.z31;have u0:=ef.f20;have u1:=ef.f21;have u2:=ef.f30;have u3:=ef.f31)
    | (go_at_call 220;(with_reducible refine (Ft _ false a8 n8 c8 d8 ((r8.keep (Below.drew (Ac _ _))).keep dx) l8).mono ?_);rintro e w6 ⟨gr,nr,rfl,NT,hr,ee⟩;replace ef:=ef.keep ee;have s0:=ef.b00;have s1:=ef.b10;have DF:=ee.size;have t0:=ef.z20;have t1:=ef.z21;have t2:=ef.z30;have t3:=ef.z31;have u0:=ef.f20;have u1:=ef.f21;have u2:=ef.f30;have u3:=ef.f31))
   exact qAh
  case rest =>
   clear ef r7 l7 f7 r8 l8 f8 V7 V8;obtain ⟨gq,nq,gr,nr,HD⟩:=hcut;have d0:=HD.b10;have d1:=HD.b11;have d2:=HD.z20;have d3:=HD.z21;have d4:=HD.z30;have d5:=HD.z31;have d6:=HD.f20;have d7:=HD.f21;have d8:=HD.f30;have d9:=HD.f31;have ZM:=HD.sz;have HB:=HD.hb;go_upto_if 79 with (fail)
   go_cut [] (fun we=>∃gq aq nq cq gr ar nr cr,G4 w we true a' n' c' gq aq nq cq (z/z') gr ar nr cr (z%z'))
   case first =>
    exact qFu
   case rest =>
    exact qAf
theorem xK (w:World) (a:Γ) (n c:Nat) (z:Int) (h:Bh w true a n c z) (a':Γ) (n' c':Nat) (z':Int) (h':Bh w false a' n' c' z')
  (j5:z'≠0) (br:n<35184372088830) (bp:n'<35184372088830) :
  Θ 252 #[.agg #[.bool true,.slice a n c],.agg #[.bool false,.slice a' n' c']] w (Kx w (z/z') (z%z')):=by
 have HB:=Ac w w;have FR:=h'.ne.2 j5;have qv:0<n':=qB;have iz:((n':Int)==0)=false:=by rw [beq_eq_false_iff_ne];omega
 have ho:=Ae h.okay;have DT:=Ae h'.okay;go_enter func252,ntmps252;go_wp2_with fail;refine (De _ _ _ _ _ (dg z.natAbs) (h.rd.keep qD) true ⟨fun _=>rfl,fun _=>ho.out⟩).mono ?_;rintro e w1 ⟨rfl,hb⟩;obtain ⟨hc,hf⟩:=Bg hb;have hz:=hb.size;(try simp only [Aj,Ak] at hz);replace HB:=zP w hb;obtain ⟨aw,bh⟩:=xd hc w true a n c;obtain ⟨bn,bo⟩:=xd hc (w+1) false a' n' c';obtain ⟨bw,bx⟩:=zJ hc (w+1+1);obtain ⟨ja,jb⟩:=zJ hc (w+1+1+1);obtain ⟨bz,cc⟩:=zK hf (w+1+1);obtain ⟨jc,jd⟩:=zK hf (w+1+1+1);go_wp2_with fail;refine (De _ _ _ _ _ (dg z'.natAbs) (h'.rd.keep qD) true ⟨fun _=>rfl,fun _=>DT.out⟩).mono ?_;rintro e w2 ⟨rfl,hb⟩;obtain ⟨hc,hf⟩:=Bg hb;have hz:=hb.size;(try simp only [Aj,Ak] at hz);replace HB:=zP w hb;obtain ⟨aw,bh⟩:=xd hc w true a n c;obtain ⟨bn,bo⟩:=xd hc (w+1) false a' n' c';obtain ⟨bw,bx⟩:=zJ hc (w+1+1);obtain ⟨ja,jb⟩:=zJ hc (w+1+1+1);obtain ⟨bz,cc⟩:=zK hf (w+1+1);obtain ⟨jc,jd⟩:=zK hf (w+1+1+1);have xu:Iv w w2 true a n c false a' n' c':=⟨aw,bh,bn,bo,bw,bx,ja,jb,bz,cc,jc,jd,qB,HB⟩;go_upto_block 1 with fail
 go_cut [7,8] (fun v7 v8 wc=>Ip w wc v7 (z.natAbs/z'.natAbs)∧Ip w wc v8 (z.natAbs%z'.natAbs)∧Iv w wc true a n c false a' n' c')
 case first =>
  exact qAb
 case rest =>
  obtain ⟨⟨a7,n7,c7,d7,rfl,r7,l7,v7,f7⟩,⟨a8,n8,c8,d8,rfl,r8,l8,v8,f8⟩,ef⟩:=hcut;have V7:=Ae v7;have V8:=Ae v8;clear v7 v8 aw bh bn bo bw bx ja jb bz cc jc jd HB xu;go_upto_region 12 with fail
  go_cut [] (fun wd=>∃gq nq gr nr,G4 w wd false a' n' c' gq a7 nq nq (sgn true (z.natAbs/z'.natAbs)) gr a8 nr nr (sgn true (z.natAbs%z'.natAbs)))
  case first =>
   have s0:=ef.b00;have s1:=ef.b10;have szc:=ef.sz;go_region_held3 (fun W=>Z W w 0 (.bool true)∧Z W (w+1) 0 (.bool false)) (exact qK) (first
    | (go_at_call 220;(with_reducible refine (Ft _ true a7 n7 c7 d7 (r7.keep qD) l7).mono ?_);rintro e w5 ⟨gq,nq,rfl,PJ,hq,dx⟩;replace ef:=(ef.keep qD).keep dx;have f7':=((f7.keep qD).keep dx).less PJ;have s0:=ef.b00;have s1:=ef.b10;have DD:=dx.size;have t0:=ef.z20;have t1:=ef.z21;have t2:=ef.z30;have t3:=ef.z31;have u0:=ef.f20;have u1:=ef.f21;have u2:=ef.f30;have u3:=ef.f31)
    | (go_at_call 220;(with_reducible refine (Ft _ true a8 n8 c8 d8 ((r8.keep (Below.drew (Ac _ _))).keep dx) l8).mono ?_);rintro e w6 ⟨gr,nr,rfl,NT,hr,ee⟩;replace ef:=ef.keep ee;have s0:=ef.b00;have s1:=ef.b10;have DF:=ee.size;have t0:=ef.z20;have t1:=ef.z21;have t2:=ef.z30;have t3:=ef.z31;have u0:=ef.f20;have u1:=ef.f21;have u2:=ef.f30;have u3:=ef.f31))
   exact qAh
  case rest =>
   clear ef r7 l7 f7 r8 l8 f8 V7 V8;obtain ⟨gq,nq,gr,nr,HD⟩:=hcut;have d0:=HD.b10;have d1:=HD.b11;have d2:=HD.z20;have d3:=HD.z21;have d4:=HD.z30;have d5:=HD.z31;have d6:=HD.f20;have d7:=HD.f21;have d8:=HD.f30;have d9:=HD.f31;have ZM:=HD.sz;have HB:=HD.hb;go_upto_if 79 with (fail)
   go_cut [] (fun we=>∃gq aq nq cq gr ar nr cr,G4 w we false a' n' c' gq aq nq cq (z/z') gr ar nr cr (z%z'))
   case first =>
    have dw:z<0:=by simpa using h.neg.symm
    have heq:=Xv dw j5;have hH:decide (z'<0)=false:=h'.neg.symm;rw [hH] at heq;by_cases AZ:z.natAbs%z'.natAbs=0
    ·exact qFx
    ·rw [if_neg AZ,if_neg AZ] at heq;have YZ:(if z'<0 then (1:Int) else -1)=-1:=by first|(rw [if_pos (by simpa using hH)])|(rw [if_neg (by simpa using hH)])
     rw [YZ] at heq;have RT:=Ae heq;obtain rfl:gr=true:=by rw [HD.numr.neg];simp [sgn];omega
     clear heq hH YZ dw;go_wp2_with fail;refine (Yx _ 1 qB qB).mono ?_;rintro e w5 ⟨g1,a1,n1,c1,rfl,qg,ln,dx⟩;obtain rfl:g1=false:=by rw [qg.neg];simp
     replace HD:=HD.keep dx;have d0:=HD.b10;have d1:=HD.b11;have d2:=HD.z20;have d3:=HD.z21;have d4:=HD.z30;have d5:=HD.z31;have d6:=HD.f20;have d7:=HD.f21;have d8:=HD.f30;have d9:=HD.f31;have ZM:=HD.sz;replace HB:=HD.hb;have jy:w.heap.size+1<w5:=qB;have l9:w.heap.size+1+1<w5:=qB;go_wp2_with fail;have ui:Bh w5 true a1 n1 c1 (-1):=qg.turn qB;have ee:Below w5 w5 ((w5.alloc (.cells #[.bool true,.slice a1 n1 c1] 51)).alloc (.cells #[.bool false,.slice a' n' c'] 51)):=qD;have p1:Z ((w5.alloc (.cells #[.bool true,.slice a1 n1 c1] 51)).alloc (.cells #[.bool false,.slice a' n' c'] 51)) w5 0 (.bool true):=qJ;have p2:Z ((w5.alloc (.cells #[.bool true,.slice a1 n1 c1] 51)).alloc (.cells #[.bool false,.slice a' n' c'] 51)) w5 1 (.slice a1 n1 c1):=qJ;have p3:Z ((w5.alloc (.cells #[.bool true,.slice a1 n1 c1] 51)).alloc (.cells #[.bool false,.slice a' n' c'] 51)) (w5+1) 0 (.bool false):=qJ;have p4:Z ((w5.alloc (.cells #[.bool true,.slice a1 n1 c1] 51)).alloc (.cells #[.bool false,.slice a' n' c'] 51)) (w5+1) 1 (.slice a' n' c'):=qJ;have DF:w5.heap.size+1<((w5.alloc (.cells #[.bool true,.slice a1 n1 c1] 51)).alloc (.cells #[.bool false,.slice a' n' c'] 51)).heap.size:=qH;generalize ((w5.alloc (.cells #[.bool true,.slice a1 n1 c1] 51)).alloc (.cells #[.bool false,.slice a' n' c'] 51))=w6 at *;replace HD:=HD.keep ee;have EY:=ui.keep ee;have xv:=(h'.abs).keep HD.hb;have ED:=(ln.mono (by omega:w.heap.size+1+1+1+1≤_)).keep ee;have hlq:nq≤n:=by have h1:=HD.numq.rd.len;have h2:=h.rd.len;rw [Ha] at h1;have h3:=Bu (Nat.div_le_self z.natAbs z'.natAbs);omega
     have pb:nr≤n':=by have h1:=HD.numr.rd.len;have h2:=h'.rd.len;rw [Ha] at h1;have h3:=Bu (Nat.le_of_lt (Nat.mod_lt z.natAbs (show 0<z'.natAbs from qB)));omega
     have BF:n1≤n':=by have h1:=qg.rd.len;have h2:=h'.rd.len;have h3:=Bu (show (1:Int).natAbs≤z'.natAbs by have:(1:Int).natAbs=1:=rfl;omega);omega
     have d0:=HD.b10;have d1:=HD.b11;have d2:=HD.z20;have d3:=HD.z21;have d4:=HD.z30;have d5:=HD.z31;have d6:=HD.f20;have d7:=HD.f21;have d8:=HD.f30;have d9:=HD.f31;replace HB:=HD.hb;generalize w5.heap.size=P at *;clear ui ee qg ln dx;refine Bw (fun W=>Z W P 0 (.bool true)∧Z W P 1 (.slice a1 n1 c1)∧Z W (P+1) 0 (.bool false)∧Z W (P+1) 1 (.slice a' n' c')∧Z W (w+1+1) 0 (.bool gq)∧Z W (w+1+1) 1 (.slice a7 nq nq)∧Z W (w+1+1+1) 0 (.bool true)∧Z W (w+1+1+1) 1 (.slice a8 nr nr)) 6 qE qK (fun ib=>?_);(refine xc 6 0 ?_;(try simp only [xb]));(refine xc 6 1 ?_;(try simp only [xb]));(refine xc 5 3 ?_;(try simp only [xb]));(refine xc 5 4 ?_;(try simp only [xb]));(refine Bd.one (i:=2) rfl qE (fun K hK=>?_);go_simp;(go_at_call 256;(with_reducible refine (aG _ _ _ _ _ _ (HD.numq.keep qD) _ _ _ _ _ (EY.keep qD) qB qB).mono ?_);rintro e w7 ⟨gx,ax,nx,cx,rfl,hx,fx,iw⟩;have rh:=Al (by go_grown:Below w6 w6 _) (iw.mono qA);replace HD:=HD.keep rh;have d0:=HD.b10;have d1:=HD.b11;have d2:=HD.z20;have d3:=HD.z21;have d4:=HD.z30;have d5:=HD.z31;have d6:=HD.f20;have d7:=HD.f21;have d8:=HD.f30;have d9:=HD.f31;have p1:=Bb rh p1;have p2:=Bb rh p2;have p3:=Bb rh p3;have p4:=Bb rh p4;replace xv:=xv.keep rh;replace HB:=HD.hb;have arv:=rh.size);(try go_wp2_with fail);refine hK.out _ _ (fun _=>qK) ?_;clear hK K;(try simp only [xb]));(refine Bd.one (i:=5) rfl qE (fun K hK=>?_);go_simp;(go_at_call 256;(with_reducible refine (aG _ _ _ _ _ _ (HD.numr.keep qD) _ _ _ _ _ (xv.keep qD) qB qB).mono ?_);rintro e w8 ⟨gy,ay,ny,cy,rfl,hy,fy,jt⟩;have qb:=Al (by go_grown:Below w7 w7 _) (jt.mono qA);replace HD:=HD.keep qb;have d0:=HD.b10;have d1:=HD.b11;have d2:=HD.z20;have d3:=HD.z21;have d4:=HD.z30;have d5:=HD.z31;have d6:=HD.f20;have d7:=HD.f21;have d8:=HD.f30;have d9:=HD.f31;have p1:=Bb qb p1;have p2:=Bb qb p2;have p3:=Bb qb p3;have p4:=Bb qb p4;replace hx:=hx.keep qb;replace fx:=fx.keep qb;replace HB:=HD.hb;have arw:=qb.size);(try go_wp2_with fail);refine hK.out _ _ (fun _=>qK) ?_;clear hK K;(try simp only [xb]));(refine Bd.one (i:=6) rfl qE (fun K hK=>?_);go_simp;refine hK.out _ _ (fun h=>absurd h qI) ?_;clear hK K;(try simp only [xb]));(refine Bd.one (i:=7) rfl qE (fun K hK=>?_);go_simp;refine hK.out _ _ (fun h=>absurd h qI) ?_;clear hK K;(try simp only [xb]));exact qCy
   case rest =>
    exact qAf
theorem yK (w:World) (a:Γ) (n c:Nat) (z:Int) (h:Bh w true a n c z) (a':Γ) (n' c':Nat) (z':Int) (h':Bh w true a' n' c' z')
  (j5:z'≠0) (br:n<35184372088830) (bp:n'<35184372088830) :
  Θ 252 #[.agg #[.bool true,.slice a n c],.agg #[.bool true,.slice a' n' c']] w (Kx w (z/z') (z%z')):=by
 have HB:=Ac w w;have FR:=h'.ne.2 j5;have qv:0<n':=qB;have iz:((n':Int)==0)=false:=by rw [beq_eq_false_iff_ne];omega
 have ho:=Ae h.okay;have DT:=Ae h'.okay;go_enter func252,ntmps252;go_wp2_with fail;refine (De _ _ _ _ _ (dg z.natAbs) (h.rd.keep qD) true ⟨fun _=>rfl,fun _=>ho.out⟩).mono ?_;rintro e w1 ⟨rfl,hb⟩;obtain ⟨hc,hf⟩:=Bg hb;have hz:=hb.size;(try simp only [Aj,Ak] at hz);replace HB:=zP w hb;obtain ⟨aw,bh⟩:=xd hc w true a n c;obtain ⟨bn,bo⟩:=xd hc (w+1) true a' n' c';obtain ⟨bw,bx⟩:=zJ hc (w+1+1);obtain ⟨ja,jb⟩:=zJ hc (w+1+1+1);obtain ⟨bz,cc⟩:=zK hf (w+1+1);obtain ⟨jc,jd⟩:=zK hf (w+1+1+1);go_wp2_with fail;refine (De _ _ _ _ _ (dg z'.natAbs) (h'.rd.keep qD) true ⟨fun _=>rfl,fun _=>DT.out⟩).mono ?_;rintro e w2 ⟨rfl,hb⟩;obtain ⟨hc,hf⟩:=Bg hb;have hz:=hb.size;(try simp only [Aj,Ak] at hz);replace HB:=zP w hb;obtain ⟨aw,bh⟩:=xd hc w true a n c;obtain ⟨bn,bo⟩:=xd hc (w+1) true a' n' c';obtain ⟨bw,bx⟩:=zJ hc (w+1+1);obtain ⟨ja,jb⟩:=zJ hc (w+1+1+1);obtain ⟨bz,cc⟩:=zK hf (w+1+1);obtain ⟨jc,jd⟩:=zK hf (w+1+1+1);have xu:Iv w w2 true a n c true a' n' c':=⟨aw,bh,bn,bo,bw,bx,ja,jb,bz,cc,jc,jd,qB,HB⟩;go_upto_block 1 with fail
 go_cut [7,8] (fun v7 v8 wc=>Ip w wc v7 (z.natAbs/z'.natAbs)∧Ip w wc v8 (z.natAbs%z'.natAbs)∧Iv w wc true a n c true a' n' c')
 case first =>
  exact qAb
 case rest =>
  obtain ⟨⟨a7,n7,c7,d7,rfl,r7,l7,v7,f7⟩,⟨a8,n8,c8,d8,rfl,r8,l8,v8,f8⟩,ef⟩:=hcut;have V7:=Ae v7;have V8:=Ae v8;clear v7 v8 aw bh bn bo bw bx ja jb bz cc jc jd HB xu;go_upto_region 12 with fail
  go_cut [] (fun wd=>∃gq nq gr nr,G4 w wd true a' n' c' gq a7 nq nq (sgn false (z.natAbs/z'.natAbs)) gr a8 nr nr (sgn true (z.natAbs%z'.natAbs)))
  case first =>
   have s0:=ef.b00;have s1:=ef.b10;have szc:=ef.sz;go_region_held3 (fun W=>Z W w 0 (.bool true)∧Z W (w+1) 0 (.bool true)) (exact qK) (first
    | (go_at_call 220;(with_reducible refine (Ft _ false a7 n7 c7 d7 (r7.keep qD) l7).mono ?_);rintro e w5 ⟨gq,nq,rfl,PJ,hq,dx⟩;replace ef:=(ef.keep qD).keep dx;have f7':=((f7.keep qD).keep dx).less PJ;have s0:=ef.b00;have s1:=ef.b10;have DD:=dx.size;have t0:=ef.z20;have t1:=ef.z21;have t2:=ef.z30;have t3:=ef.z31;have u0:=ef.f20;have u1:=ef.f21;have u2:=ef.f30;have u3:=ef.f31)
    | (go_at_call 220;(with_reducible refine (Ft _ true a8 n8 c8 d8 ((r8.keep (Below.drew (Ac _ _))).keep dx) l8).mono ?_);rintro e w6 ⟨gr,nr,rfl,NT,hr,ee⟩;replace ef:=ef.keep ee;have s0:=ef.b00;have s1:=ef.b10;have DF:=ee.size;have t0:=ef.z20;have t1:=ef.z21;have t2:=ef.z30;have t3:=ef.z31;have u0:=ef.f20;have u1:=ef.f21;have u2:=ef.f30;have u3:=ef.f31))
   exact qAh
  case rest =>
   clear ef r7 l7 f7 r8 l8 f8 V7 V8;obtain ⟨gq,nq,gr,nr,HD⟩:=hcut;have d0:=HD.b10;have d1:=HD.b11;have d2:=HD.z20;have d3:=HD.z21;have d4:=HD.z30;have d5:=HD.z31;have d6:=HD.f20;have d7:=HD.f21;have d8:=HD.f30;have d9:=HD.f31;have ZM:=HD.sz;have HB:=HD.hb;go_upto_if 79 with (fail)
   go_cut [] (fun we=>∃gq aq nq cq gr ar nr cr,G4 w we true a' n' c' gq aq nq cq (z/z') gr ar nr cr (z%z'))
   case first =>
    have dw:z<0:=by simpa using h.neg.symm
    have heq:=Xv dw j5;have hH:decide (z'<0)=true:=h'.neg.symm;rw [hH] at heq;by_cases AZ:z.natAbs%z'.natAbs=0
    ·exact qFx
    ·rw [if_neg AZ,if_neg AZ] at heq;have YZ:(if z'<0 then (1:Int) else -1)=1:=by first|(rw [if_pos (by simpa using hH)])|(rw [if_neg (by simpa using hH)])
     rw [YZ] at heq;have RT:=Ae heq;obtain rfl:gr=true:=by rw [HD.numr.neg];simp [sgn];omega
     clear heq hH YZ dw;go_wp2_with fail;refine (Yx _ 1 qB qB).mono ?_;rintro e w5 ⟨g1,a1,n1,c1,rfl,qg,ln,dx⟩;obtain rfl:g1=false:=by rw [qg.neg];simp
     replace HD:=HD.keep dx;have d0:=HD.b10;have d1:=HD.b11;have d2:=HD.z20;have d3:=HD.z21;have d4:=HD.z30;have d5:=HD.z31;have d6:=HD.f20;have d7:=HD.f21;have d8:=HD.f30;have d9:=HD.f31;have ZM:=HD.sz;replace HB:=HD.hb;have jy:w.heap.size+1<w5:=qB;have l9:w.heap.size+1+1<w5:=qB;go_wp2_with fail;have ui:Bh w5 false a1 n1 c1 (1):=qg;have ee:Below w5 w5 ((w5.alloc (.cells #[.bool false,.slice a1 n1 c1] 51)).alloc (.cells #[.bool false,.slice a' n' c'] 51)):=qD;have p1:Z ((w5.alloc (.cells #[.bool false,.slice a1 n1 c1] 51)).alloc (.cells #[.bool false,.slice a' n' c'] 51)) w5 0 (.bool false):=qJ;have p2:Z ((w5.alloc (.cells #[.bool false,.slice a1 n1 c1] 51)).alloc (.cells #[.bool false,.slice a' n' c'] 51)) w5 1 (.slice a1 n1 c1):=qJ;have p3:Z ((w5.alloc (.cells #[.bool false,.slice a1 n1 c1] 51)).alloc (.cells #[.bool false,.slice a' n' c'] 51)) (w5+1) 0 (.bool false):=qJ;have p4:Z ((w5.alloc (.cells #[.bool false,.slice a1 n1 c1] 51)).alloc (.cells #[.bool false,.slice a' n' c'] 51)) (w5+1) 1 (.slice a' n' c'):=qJ;have DF:w5.heap.size+1<((w5.alloc (.cells #[.bool false,.slice a1 n1 c1] 51)).alloc (.cells #[.bool false,.slice a' n' c'] 51)).heap.size:=qH;generalize ((w5.alloc (.cells #[.bool false,.slice a1 n1 c1] 51)).alloc (.cells #[.bool false,.slice a' n' c'] 51))=w6 at *;replace HD:=HD.keep ee;have EY:=ui.keep ee;have xv:=(h'.abs).keep HD.hb;have ED:=(ln.mono (by omega:w.heap.size+1+1+1+1≤_)).keep ee;have hlq:nq≤n:=by have h1:=HD.numq.rd.len;have h2:=h.rd.len;rw [Ha] at h1;have h3:=Bu (Nat.div_le_self z.natAbs z'.natAbs);omega
     have pb:nr≤n':=by have h1:=HD.numr.rd.len;have h2:=h'.rd.len;rw [Ha] at h1;have h3:=Bu (Nat.le_of_lt (Nat.mod_lt z.natAbs (show 0<z'.natAbs from qB)));omega
     have BF:n1≤n':=by have h1:=qg.rd.len;have h2:=h'.rd.len;have h3:=Bu (show (1:Int).natAbs≤z'.natAbs by have:(1:Int).natAbs=1:=rfl;omega);omega
     have d0:=HD.b10;have d1:=HD.b11;have d2:=HD.z20;have d3:=HD.z21;have d4:=HD.z30;have d5:=HD.z31;have d6:=HD.f20;have d7:=HD.f21;have d8:=HD.f30;have d9:=HD.f31;replace HB:=HD.hb;generalize w5.heap.size=P at *;clear ui ee qg ln dx;refine Bw (fun W=>Z W P 0 (.bool false)∧Z W P 1 (.slice a1 n1 c1)∧Z W (P+1) 0 (.bool false)∧Z W (P+1) 1 (.slice a' n' c')∧Z W (w+1+1) 0 (.bool gq)∧Z W (w+1+1) 1 (.slice a7 nq nq)∧Z W (w+1+1+1) 0 (.bool true)∧Z W (w+1+1+1) 1 (.slice a8 nr nr)) 6 qE qK (fun ib=>?_);(refine xc 6 0 ?_;(try simp only [xb]));(refine xc 6 1 ?_;(try simp only [xb]));(refine xc 5 3 ?_;(try simp only [xb]));(refine xc 5 4 ?_;(try simp only [xb]));(refine Bd.one (i:=2) rfl qE (fun K hK=>?_);go_simp;(go_at_call 256;(with_reducible refine (aG _ _ _ _ _ _ (HD.numq.keep qD) _ _ _ _ _ (EY.keep qD) qB qB).mono ?_);rintro e w7 ⟨gx,ax,nx,cx,rfl,hx,fx,iw⟩;have rh:=Al (by go_grown:Below w6 w6 _) (iw.mono qA);replace HD:=HD.keep rh;have d0:=HD.b10;have d1:=HD.b11;have d2:=HD.z20;have d3:=HD.z21;have d4:=HD.z30;have d5:=HD.z31;have d6:=HD.f20;have d7:=HD.f21;have d8:=HD.f30;have d9:=HD.f31;have p1:=Bb rh p1;have p2:=Bb rh p2;have p3:=Bb rh p3;have p4:=Bb rh p4;replace xv:=xv.keep rh;replace HB:=HD.hb;have arv:=rh.size);(try go_wp2_with fail);refine hK.out _ _ (fun _=>qK) ?_;clear hK K;(try simp only [xb]));(refine Bd.one (i:=5) rfl qE (fun K hK=>?_);go_simp;(go_at_call 256;(with_reducible refine (aG _ _ _ _ _ _ (HD.numr.keep qD) _ _ _ _ _ (xv.keep qD) qB qB).mono ?_);rintro e w8 ⟨gy,ay,ny,cy,rfl,hy,fy,jt⟩;have qb:=Al (by go_grown:Below w7 w7 _) (jt.mono qA);replace HD:=HD.keep qb;have d0:=HD.b10;have d1:=HD.b11;have d2:=HD.z20;have d3:=HD.z21;have d4:=HD.z30;have d5:=HD.z31;have d6:=HD.f20;have d7:=HD.f21;have d8:=HD.f30;have d9:=HD.f31;have p1:=Bb qb p1;have p2:=Bb qb p2;have p3:=Bb qb p3;have p4:=Bb qb p4;replace hx:=hx.keep qb;replace fx:=fx.keep qb;replace HB:=HD.hb;have arw:=qb.size);(try go_wp2_with fail);refine hK.out _ _ (fun _=>qK) ?_;clear hK K;(try simp only [xb]));(refine Bd.one (i:=6) rfl qE (fun K hK=>?_);go_simp;refine hK.out _ _ (fun h=>absurd h qI) ?_;clear hK K;(try simp only [xb]));(refine Bd.one (i:=7) rfl qE (fun K hK=>?_);go_simp;refine hK.out _ _ (fun h=>absurd h qI) ?_;clear hK K;(try simp only [xb]));exact qCy
   case rest =>
    exact qAf
theorem aY (w:World) (g:Bool) (a:Γ) (n c:Nat) (z:Int) (h:Bh w g a n c z) (g':Bool) (a':Γ) (n' c':Nat) (z':Int) (h':Bh w g' a' n' c' z')
  (j5:z'≠0) (br:n<35184372088830) (bp:n'<35184372088830) :
  Θ 252 #[.agg #[.bool g,.slice a n c],.agg #[.bool g',.slice a' n' c']] w (Kx w (z/z') (z%z')):=by
 cases g<;>cases g'
 ·exact yH w a n c z h a' n' c' z' h' j5 br bp
 ·exact Aal w a n c z h a' n' c' z' h' j5 br bp
 ·exact xK w a n c z h a' n' c' z' h' j5 br bp
 ·exact yK w a n c z h a' n' c' z' h' j5 br bp
end Go.Proofs.YtfijkfdfbnfmmaaGreatDoor
end
