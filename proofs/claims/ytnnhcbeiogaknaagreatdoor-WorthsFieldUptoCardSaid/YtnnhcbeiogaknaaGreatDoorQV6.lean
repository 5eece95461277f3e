/- Package limbs: Div, No further condition. -/
import Derived.Test.YtnnhcbeiogaknaaGreatDoorQV5
set_option linter.unusedSimpArgs false
set_option linter.unusedVariables false
set_option maxRecDepth 100000
set_option maxHeartbeats 4000000
section
namespace Go.Proofs.YtnnhcbeiogaknaaGreatDoor
open Go.RowKit
theorem Bh.ne {w:World} {g:Bool} {a:Γ} {n c:Nat} {z:Int} (h:Bh w g a n c z):n≠0↔z≠0:=by
 have hl:=h.rd.len;have hv:=Bq z.natAbs;constructor
 ·intro hn hz;rw [hz,show (0:Int).natAbs=0 from rfl,De] at hl;simp at hl;omega
 ·intro hz hn;rw [hn] at hl;rw [List.eq_nil_of_length_eq_zero hl,val] at hv;omega
structure Ia (w wc:World) (g:Bool) (a:Γ) (n c:Nat) (g':Bool) (a':Γ) (n' c':Nat):Prop where
 b00:wc.cell? ⟨w.heap.size,0,none⟩=some (.bool g)
 b01:wc.cell? ⟨w.heap.size,1,none⟩=some (.slice a n c)
 b10:wc.cell? ⟨w.heap.size+1,0,none⟩=some (.bool g')
 b11:wc.cell? ⟨w.heap.size+1,1,none⟩=some (.slice a' n' c')
 z20:wc.cell? ⟨w.heap.size+1+1,0,none⟩=some (.bool false)
 z21:wc.cell? ⟨w.heap.size+1+1,1,none⟩=some (.slice none 0 0)
 z30:wc.cell? ⟨w.heap.size+1+1+1,0,none⟩=some (.bool false)
 z31:wc.cell? ⟨w.heap.size+1+1+1,1,none⟩=some (.slice none 0 0)
 f20:wc.frozen? ⟨w.heap.size+1+1,0,none⟩=false
 f21:wc.frozen? ⟨w.heap.size+1+1,1,none⟩=false
 f30:wc.frozen? ⟨w.heap.size+1+1+1,0,none⟩=false
 f31:wc.frozen? ⟨w.heap.size+1+1+1,1,none⟩=false
 sz:w.heap.size+1+1+1<wc.heap.size
 hb:Below w.heap.size w wc
theorem Ia.keep {w wc wd:World} {g:Bool} {a:Γ} {n c:Nat} {g':Bool} {a':Γ} {n' c':Nat} (h:Ia w wc g a n c g' a' n' c') (hb:Below wc.heap.size wc wd):Ia w wd g a n c g' a' n' c':=by
 have s:=h.sz;have hz:=hb.size;exact ⟨Bc hb h.b00,Bc hb h.b01,Bc hb h.b10,Bc hb h.b11,Bc hb h.z20,Bc hb h.z21,Bc hb h.z30,Bc hb h.z31,
  (hb.frozen (by show w.heap.size+1+1<_;omega)).trans h.f20,(hb.frozen (by show w.heap.size+1+1<_;omega)).trans h.f21,(hb.frozen (by show w.heap.size+1+1+1<_;omega)).trans h.f30,(hb.frozen (by show w.heap.size+1+1+1<_;omega)).trans h.f31,
  by omega,h.hb.trans (hb.mono h.hb.size)⟩
def Hw (w wc:World) (v:Value) (q:Nat):Prop:=∃a n c d,v=.slice a n c∧RdL wc a n c d∧(∀x∈d,x<1000000000)∧val d=q∧Bg (w.heap.size+1+1+1+1) wc a c
theorem Hw.nil (w wc:World):Hw w wc (.slice none 0 0) 0 :=
 ⟨none,0,0,[],rfl,⟨rfl,Ad _,by omega,by omega,fun i=>by simp [lim],.inl rfl⟩,fun x hx=>(by cases hx),rfl,.inl rfl⟩
theorem pU {z:Int} {n:Nat} (hl:(dg z.natAbs).length=n) (h1:n=1):lim (dg z.natAbs) 0=z.natAbs∧z.natAbs<1000000000:=by
 have hv:=Bq z.natAbs;have hlt:=Ew z.natAbs
 match hd:dg z.natAbs with
 | []=>rw [hd] at hl;simp at hl;omega
 | [x] =>
  rw [hd] at hv hlt;simp only [val,Nat.mul_zero,Nat.add_zero] at hv;refine ⟨by simp [lim];omega,?_⟩;rw [←hv];exact hlt x qG
 | x::y::l=>rw [hd] at hl;simp at hl;omega
theorem vE {z z':Int} (h:0≤z):z/z'=sgn (decide (z'<0)) (z.natAbs/z'.natAbs)∧z%z'=sgn false (z.natAbs%z'.natAbs):=by
 obtain ⟨A,rfl⟩:=Int.eq_ofNat_of_zero_le h;rcases Int.lt_or_le z' 0 with h'|h'
 ·obtain ⟨B,hB⟩:=Int.eq_ofNat_of_zero_le (show 0≤-z' by omega);obtain rfl:z'=-(B:Int):=by omega
  rw [Int.ediv_neg,Int.emod_neg,Int.natAbs_neg];simp [sgn];omega
 ·obtain ⟨B,rfl⟩:=Int.eq_ofNat_of_zero_le h';have h3:¬((B:Int)<0):=by omega
  simp [sgn,h3]
theorem Yl (A B:Nat) (hB:0<B):(-(A:Int))/(B:Int)=-((A/B:Nat):Int)-(if A%B=0 then 0 else 1)∧(-(A:Int))%(B:Int)=(if A%B=0 then 0 else (B:Int)-((A%B:Nat):Int)):=by
 have hA:=Nat.div_add_mod A B;have hm:=Nat.mod_lt A hB;rw [Int.ediv_emod_unique qA];generalize A/B=q at *;generalize A%B=r at *;subst hA
 split
 ·rename_i hr;subst hr;refine ⟨?_,by omega,by omega⟩;simp [Int.mul_neg]
 ·refine ⟨?_,by omega,by omega⟩;rw [Int.mul_sub,Int.mul_neg];simp
  omega
theorem fL {z z':Int} (h:z<0) (h':z'≠0):z/z'=sgn (!decide (z'<0)) (z.natAbs/z'.natAbs)+(if z.natAbs%z'.natAbs=0 then 0 else if z'<0 then 1 else -1)∧z%z'=sgn true (z.natAbs%z'.natAbs)+(if z.natAbs%z'.natAbs=0 then 0 else (z'.natAbs:Int)):=by
 obtain ⟨A,hA⟩:=Int.eq_ofNat_of_zero_le (show 0≤-z by omega);obtain rfl:z=-(A:Int):=by omega
 rcases Int.lt_or_le z' 0 with h2|h2
 ·obtain ⟨B,hB⟩:=Int.eq_ofNat_of_zero_le (show 0≤-z' by omega);obtain rfl:z'=-(B:Int):=by omega
  have:=Yl A B qA;rw [Int.ediv_neg,Int.emod_neg,this.1,this.2,Int.natAbs_neg,Int.natAbs_neg,Int.natAbs_natCast,Int.natAbs_natCast];generalize A/B=q;generalize A%B=r;simp only [h2,sgn];constructor<;>split<;>simp<;>omega
 ·obtain ⟨B,rfl⟩:=Int.eq_ofNat_of_zero_le h2;have:=Yl A B qA;rw [this.1,this.2,Int.natAbs_neg,Int.natAbs_natCast,Int.natAbs_natCast];generalize A/B=q;generalize A%B=r;have h3:¬((B:Int)<0):=by omega
  simp only [h3,sgn];constructor<;>split<;>simp<;>omega
theorem Bh.set4 {w:World} {g:Bool} {a:Γ} {n c:Nat} {z:Int} {B:Nat} (h:Bh w g a n c z) (hf:Bg B w a c) (p1 p2 p3 p4:Addr) (u1 u2 u3 u4:Value) (h1:p1.block<B) (h2:p2.block<B) (h3:p3.block<B) (h4:p4.block<B):Bh ((((w.setCell p1 u1).setCell p2 u2).setCell p3 u3).setCell p4 u4) g a n c z :=
 (((h.setFresh hf p1 u1 h1).setFresh (hf.setNew p1 u1 h1) p2 u2 h2).setFresh ((hf.setNew p1 u1 h1).setNew p2 u2 h2) p3 u3 h3).setFresh (((hf.setNew p1 u1 h1).setNew p2 u2 h2).setNew p3 u3 h3) p4 u4 h4
theorem Bg.set4 {w:World} {a:Γ} {c:Nat} {B:Nat} (hf:Bg B w a c) (p1 p2 p3 p4:Addr) (u1 u2 u3 u4:Value) (h1:p1.block<B) (h2:p2.block<B) (h3:p3.block<B) (h4:p4.block<B):Bg B ((((w.setCell p1 u1).setCell p2 u2).setCell p3 u3).setCell p4 u4) a c :=
 (((hf.setNew p1 u1 h1).setNew p2 u2 h2).setNew p3 u3 h3).setNew p4 u4 h4
theorem Nc {w:World} {b:Nat} {x0 x1 x2 x3:Value} (u0 u1 u2 u3:Value) (h0:w.cell? ⟨b,0,none⟩=some x0) (h1:w.cell? ⟨b,1,none⟩=some x1) (h2:w.cell? ⟨b+1,0,none⟩=some x2) (h3:w.cell? ⟨b+1,1,none⟩=some x3) :
  ((((w.setCell ⟨b,0,none⟩ u0).setCell ⟨b,1,none⟩ u1).setCell ⟨b+1,0,none⟩ u2).setCell ⟨b+1,1,none⟩ u3).cell? ⟨b,0,none⟩=some u0 ∧
  ((((w.setCell ⟨b,0,none⟩ u0).setCell ⟨b,1,none⟩ u1).setCell ⟨b+1,0,none⟩ u2).setCell ⟨b+1,1,none⟩ u3).cell? ⟨b,1,none⟩=some u1 ∧
  ((((w.setCell ⟨b,0,none⟩ u0).setCell ⟨b,1,none⟩ u1).setCell ⟨b+1,0,none⟩ u2).setCell ⟨b+1,1,none⟩ u3).cell? ⟨b+1,0,none⟩=some u2 ∧
  ((((w.setCell ⟨b,0,none⟩ u0).setCell ⟨b,1,none⟩ u1).setCell ⟨b+1,0,none⟩ u2).setCell ⟨b+1,1,none⟩ u3).cell? ⟨b+1,1,none⟩=some u3 ∧
  (∀p:Addr,p.block<b→((((w.setCell ⟨b,0,none⟩ u0).setCell ⟨b,1,none⟩ u1).setCell ⟨b+1,0,none⟩ u2).setCell ⟨b+1,1,none⟩ u3).cell? p=w.cell? p) ∧
  (∀p:Addr,((((w.setCell ⟨b,0,none⟩ u0).setCell ⟨b,1,none⟩ u1).setCell ⟨b+1,0,none⟩ u2).setCell ⟨b+1,1,none⟩ u3).frozen? p=w.frozen? p):=by
 refine ⟨by simp [h0,h1,h2,h3,go_sem],by simp [h0,h1,h2,h3,go_sem],by simp [h0,h1,h2,h3,go_sem],by simp [h0,h1,h2,h3,go_sem],fun p hp=>?_,fun p=>by simp [go_sem]⟩;rw [A6 _ _ _ _ (by show b+1≠_;omega),A6 _ _ _ _ (by show b+1≠_;omega),A6 _ _ _ _ (by show b≠_;omega),A6 _ _ _ _ (by show b≠_;omega)]
theorem Bh.turn {w:World} {a:Γ} {n c:Nat} {z:Int} (h:Bh w false a n c z) (hz:0<z):Bh w true a n c (-z) :=
 ⟨by simp;omega,by rw [Int.natAbs_neg];exact h.rd⟩
theorem Bh.abs {w:World} {g:Bool} {a:Γ} {n c:Nat} {z:Int} (h:Bh w g a n c z):Bh w false a n c ((z.natAbs:Nat):Int) :=
 ⟨by simp,by rw [Int.natAbs_natCast];exact h.rd⟩
def Tt (w:World) (q r:Int) (e:Ending) (w':World):Prop :=
 ∃gq aq nq cq gr ar nr cr,e=.returned (.tuple #[.agg #[.bool gq,.slice aq nq cq],.agg #[.bool gr,.slice ar nr cr],.int .i64 0])∧Bh w' gq aq nq cq q∧Bh w' gr ar nr cr r∧Bg w.heap.size w' aq cq∧Bg w.heap.size w' ar cr∧Below w.heap.size w w'
structure Ge (w wd:World) (g':Bool) (a':Γ) (n' c':Nat) (gq:Bool) (a7:Γ) (nq cq:Nat) (q:Int) (gr:Bool) (a8:Γ) (nr cr:Nat) (r:Int):Prop where
 b10:wd.cell? ⟨w.heap.size+1,0,none⟩=some (.bool g')
 b11:wd.cell? ⟨w.heap.size+1,1,none⟩=some (.slice a' n' c')
 z20:wd.cell? ⟨w.heap.size+1+1,0,none⟩=some (.bool gq)
 z21:wd.cell? ⟨w.heap.size+1+1,1,none⟩=some (.slice a7 nq cq)
 z30:wd.cell? ⟨w.heap.size+1+1+1,0,none⟩=some (.bool gr)
 z31:wd.cell? ⟨w.heap.size+1+1+1,1,none⟩=some (.slice a8 nr cr)
 f20:wd.frozen? ⟨w.heap.size+1+1,0,none⟩=false
 f21:wd.frozen? ⟨w.heap.size+1+1,1,none⟩=false
 f30:wd.frozen? ⟨w.heap.size+1+1+1,0,none⟩=false
 f31:wd.frozen? ⟨w.heap.size+1+1+1,1,none⟩=false
 numq:Bh wd gq a7 nq cq q
 numr:Bh wd gr a8 nr cr r
 frq:Bg (w.heap.size+1+1+1+1) wd a7 cq
 frr:Bg (w.heap.size+1+1+1+1) wd a8 cr
 sz:w.heap.size+1+1+1<wd.heap.size
 hb:Below w.heap.size w wd
theorem Ge.keep {w wd we:World} {g':Bool} {a':Γ} {n' c':Nat} {gq:Bool} {a7:Γ} {nq cq:Nat} {q:Int} {gr:Bool} {a8:Γ} {nr cr:Nat} {r:Int} (h:Ge w wd g' a' n' c' gq a7 nq cq q gr a8 nr cr r) (hb:Below wd.heap.size wd we):Ge w we g' a' n' c' gq a7 nq cq q gr a8 nr cr r:=by
 have s:=h.sz;have hz:=hb.size;exact ⟨Bc hb h.b10,Bc hb h.b11,Bc hb h.z20,Bc hb h.z21,Bc hb h.z30,Bc hb h.z31,
  (hb.frozen (by show w.heap.size+1+1<_;omega)).trans h.f20,(hb.frozen (by show w.heap.size+1+1<_;omega)).trans h.f21,(hb.frozen (by show w.heap.size+1+1+1<_;omega)).trans h.f30,(hb.frozen (by show w.heap.size+1+1+1<_;omega)).trans h.f31,
  h.numq.keep hb,h.numr.keep hb,h.frq.keep hb,h.frr.keep hb,by omega,h.hb.trans (hb.mono h.hb.size)⟩
theorem Ge.set {w wd:World} {g':Bool} {a':Γ} {n' c':Nat} {gq:Bool} {a7:Γ} {nq cq:Nat} {q:Int} {gr:Bool} {a8:Γ} {nr cr:Nat} {r:Int} (h:Ge w wd g' a' n' c' gq a7 nq cq q gr a8 nr cr r)
  {gx:Bool} {ax:Γ} {nx cx:Nat} {x:Int} {gy:Bool} {ay:Γ} {ny cy:Nat} {y:Int} (hx:Bh wd gx ax nx cx x) (hy:Bh wd gy ay ny cy y) (fx:Bg (w.heap.size+1+1+1+1) wd ax cx) (fy:Bg (w.heap.size+1+1+1+1) wd ay cy) :
  Ge w ((((wd.setCell ⟨w.heap.size+1+1,0,none⟩ (.bool gx)).setCell ⟨w.heap.size+1+1,1,none⟩ (.slice ax nx cx)).setCell ⟨w.heap.size+1+1+1,0,none⟩ (.bool gy)).setCell ⟨w.heap.size+1+1+1,1,none⟩ (.slice ay ny cy)) g' a' n' c' gx ax nx cx x gy ay ny cy y:=by
 obtain ⟨k0,k1,k2,k3,k4,k5⟩:=Nc (.bool gx) (.slice ax nx cx) (.bool gy) (.slice ay ny cy) h.z20 h.z21 h.z30 h.z31;have s:=h.sz;have HB:=h.hb;exact ⟨(k4 _ (by show w.heap.size+1<w.heap.size+1+1;omega)).trans h.b10,(k4 _ (by show w.heap.size+1<w.heap.size+1+1;omega)).trans h.b11,k0,k1,k2,k3,(k5 _).trans h.f20,(k5 _).trans h.f21,(k5 _).trans h.f30,(k5 _).trans h.f31,
  hx.set4 fx _ _ _ _ _ _ _ _ (by show w.heap.size+1+1<_;omega) (by show w.heap.size+1+1<_;omega) (by show w.heap.size+1+1+1<_;omega) (by show w.heap.size+1+1+1<_;omega),hy.set4 fy _ _ _ _ _ _ _ _ (by show w.heap.size+1+1<_;omega) (by show w.heap.size+1+1<_;omega) (by show w.heap.size+1+1+1<_;omega) (by show w.heap.size+1+1+1<_;omega),fx.set4 _ _ _ _ _ _ _ _ (by show w.heap.size+1+1<_;omega) (by show w.heap.size+1+1<_;omega) (by show w.heap.size+1+1+1<_;omega) (by show w.heap.size+1+1+1<_;omega),fy.set4 _ _ _ _ _ _ _ _ (by show w.heap.size+1+1<_;omega) (by show w.heap.size+1+1<_;omega) (by show w.heap.size+1+1+1<_;omega) (by show w.heap.size+1+1+1<_;omega),by simp only [Am];omega,by go_grown⟩
theorem zW (w:World) (a:Γ) (n c:Nat) (z:Int) (h:Bh w false a n c z) (a':Γ) (n' c':Nat) (z':Int) (h':Bh w false a' n' c' z')
  (hz':z'≠0) (hb1:n<35184372088830) (hb2:n'<35184372088830) :
  Θ 130 #[.agg #[.bool false,.slice a n c],.agg #[.bool false,.slice a' n' c']] w (Tt w (z/z') (z%z')):=by
 have HB:=Ac w.heap.size w;have hn0:=h'.ne.2 hz';have hn1:0<n':=by omega
 have hd0:((n':Int)==0)=false:=by rw [beq_eq_false_iff_ne];omega
 have ho:=Ae h.okay;have ho':=Ae h'.okay;go_enter Tryz.func130,Tryz.ntmps130;go_wp2_with fail;refine (Cy _ _ _ _ _ (dg z.natAbs) (h.rd.keep qF) true ⟨fun _=>rfl,fun _=>ho.out⟩).mono ?_;rintro e w1 ⟨rfl,hb⟩;obtain ⟨hc,hf⟩:=Bl hb;have hz:=hb.size;(try simp only [Aj,Ak] at hz);replace HB:=zI w hb;obtain ⟨s0_0,s0_1⟩:=qZ hc (w.heap.size) (.bool false) (.slice a n c);obtain ⟨s1_0,s1_1⟩:=qZ hc (w.heap.size+1) (.bool false) (.slice a' n' c');obtain ⟨s2_0,s2_1⟩:=zE hc (w.heap.size+1+1);obtain ⟨s3_0,s3_1⟩:=zE hc (w.heap.size+1+1+1);obtain ⟨f2_0,f2_1⟩:=zF hf (w.heap.size+1+1);obtain ⟨f3_0,f3_1⟩:=zF hf (w.heap.size+1+1+1);go_wp2_with fail;refine (Cy _ _ _ _ _ (dg z'.natAbs) (h'.rd.keep qF) true ⟨fun _=>rfl,fun _=>ho'.out⟩).mono ?_;rintro e w2 ⟨rfl,hb⟩;obtain ⟨hc,hf⟩:=Bl hb;have hz:=hb.size;(try simp only [Aj,Ak] at hz);replace HB:=zI w hb;obtain ⟨s0_0,s0_1⟩:=qZ hc (w.heap.size) (.bool false) (.slice a n c);obtain ⟨s1_0,s1_1⟩:=qZ hc (w.heap.size+1) (.bool false) (.slice a' n' c');obtain ⟨s2_0,s2_1⟩:=zE hc (w.heap.size+1+1);obtain ⟨s3_0,s3_1⟩:=zE hc (w.heap.size+1+1+1);obtain ⟨f2_0,f2_1⟩:=zF hf (w.heap.size+1+1);obtain ⟨f3_0,f3_1⟩:=zF hf (w.heap.size+1+1+1);have hbox:Ia w w2 false a n c false a' n' c':=⟨s0_0,s0_1,s1_0,s1_1,s2_0,s2_1,s3_0,s3_1,f2_0,f2_1,f3_0,f3_1,by omega,HB⟩;go_upto_block 1 with fail
 go_cut [7,8] (fun v7 v8 wc=>Hw w wc v7 (z.natAbs/z'.natAbs)∧Hw w wc v8 (z.natAbs%z'.natAbs)∧Ia w wc false a n c false a' n' c')
 case first =>
  exact qAb
 case rest =>
  obtain ⟨⟨a7,n7,c7,d7,rfl,r7,l7,v7,f7⟩,⟨a8,n8,c8,d8,rfl,r8,l8,v8,f8⟩,HBX⟩:=hcut;have V7:=Ae v7;have V8:=Ae v8;clear v7 v8 s0_0 s0_1 s1_0 s1_1 s2_0 s2_1 s3_0 s3_1 f2_0 f2_1 f3_0 f3_1 HB hbox;go_upto_region 12 with fail
  go_cut [] (fun wd=>∃gq nq gr nr,Ge w wd false a' n' c' gq a7 nq nq (sgn false (z.natAbs/z'.natAbs)) gr a8 nr nr (sgn false (z.natAbs%z'.natAbs)))
  case first =>
   have s0:=HBX.b00;have s1:=HBX.b10;have szc:=HBX.sz;go_region_held3 (fun W=>W.cell? ⟨w.heap.size,0,none⟩=some (.bool false)∧W.cell? ⟨w.heap.size+1,0,none⟩=some (.bool false)) (first|((try dsimp only);(repeat' apply Ay);all_goals (first|(with_reducible assumption)|(go_keep;done)|(simp [*,go_sem];done)))) (first
    | (go_at_call 97;(with_reducible refine (E9 _ false a7 n7 c7 d7 (r7.keep qF) l7).mono ?_);rintro e w5 ⟨gq,nq,rfl,hnq,hq,hb5⟩;replace HBX:=(HBX.keep qF).keep hb5;have f7':=((f7.keep qF).keep hb5).less hnq;have s0:=HBX.b00;have s1:=HBX.b10;have hz5:=hb5.size;have t0:=HBX.z20;have t1:=HBX.z21;have t2:=HBX.z30;have t3:=HBX.z31;have u0:=HBX.f20;have u1:=HBX.f21;have u2:=HBX.f30;have u3:=HBX.f31)
    | (go_at_call 97;(with_reducible refine (E9 _ false a8 n8 c8 d8 ((r8.keep (Below.drew (Ac _ _))).keep hb5) l8).mono ?_);rintro e w6 ⟨gr,nr,rfl,hnr,hr,hb6⟩;replace HBX:=HBX.keep hb6;have s0:=HBX.b00;have s1:=HBX.b10;have hz6:=hb6.size;have t0:=HBX.z20;have t1:=HBX.z21;have t2:=HBX.z30;have t3:=HBX.z31;have u0:=HBX.f20;have u1:=HBX.f21;have u2:=HBX.f30;have u3:=HBX.f31))
   exact qAi
  case rest =>
   clear HBX r7 l7 f7 r8 l8 f8 V7 V8;obtain ⟨gq,nq,gr,nr,HD⟩:=hcut;have d0:=HD.b10;have d1:=HD.b11;have d2:=HD.z20;have d3:=HD.z21;have d4:=HD.z30;have d5:=HD.z31;have d6:=HD.f20;have d7:=HD.f21;have d8:=HD.f30;have d9:=HD.f31;have dsz:=HD.sz;have HB:=HD.hb;go_upto_if 79 with (fail)
   go_cut [] (fun we=>∃gq aq nq cq gr ar nr cr,Ge w we false a' n' c' gq aq nq cq (z/z') gr ar nr cr (z%z'))
   case first =>
    exact qDz
   case rest =>
    exact qAg
theorem Abi (w:World) (a:Γ) (n c:Nat) (z:Int) (h:Bh w false a n c z) (a':Γ) (n' c':Nat) (z':Int) (h':Bh w true a' n' c' z')
  (hz':z'≠0) (hb1:n<35184372088830) (hb2:n'<35184372088830) :
  Θ 130 #[.agg #[.bool false,.slice a n c],.agg #[.bool true,.slice a' n' c']] w (Tt w (z/z') (z%z')):=by
 have HB:=Ac w.heap.size w;have hn0:=h'.ne.2 hz';have hn1:0<n':=by omega
 have hd0:((n':Int)==0)=false:=by rw [beq_eq_false_iff_ne];omega
 have ho:=Ae h.okay;have ho':=Ae h'.okay;go_enter Tryz.func130,Tryz.ntmps130;go_wp2_with fail;refine (Cy _ _ _ _ _ (dg z.natAbs) (h.rd.keep qF) true ⟨fun _=>rfl,fun _=>ho.out⟩).mono ?_;rintro e w1 ⟨rfl,hb⟩;obtain ⟨hc,hf⟩:=Bl hb;have hz:=hb.size;(try simp only [Aj,Ak] at hz);replace HB:=zI w hb;obtain ⟨s0_0,s0_1⟩:=qZ hc (w.heap.size) (.bool false) (.slice a n c);obtain ⟨s1_0,s1_1⟩:=qZ hc (w.heap.size+1) (.bool true) (.slice a' n' c');obtain ⟨s2_0,s2_1⟩:=zE hc (w.heap.size+1+1);obtain ⟨s3_0,s3_1⟩:=zE hc (w.heap.size+1+1+1);obtain ⟨f2_0,f2_1⟩:=zF hf (w.heap.size+1+1);obtain ⟨f3_0,f3_1⟩:=zF hf (w.heap.size+1+1+1);go_wp2_with fail;refine (Cy _ _ _ _ _ (dg z'.natAbs) (h'.rd.keep qF) true ⟨fun _=>rfl,fun _=>ho'.out⟩).mono ?_;rintro e w2 ⟨rfl,hb⟩;obtain ⟨hc,hf⟩:=Bl hb;have hz:=hb.size;(try simp only [Aj,Ak] at hz);replace HB:=zI w hb;obtain ⟨s0_0,s0_1⟩:=qZ hc (w.heap.size) (.bool false) (.slice a n c);obtain ⟨s1_0,s1_1⟩:=qZ hc (w.heap.size+1) (.bool true) (.slice a' n' c');obtain ⟨s2_0,s2_1⟩:=zE hc (w.heap.size+1+1);obtain ⟨s3_0,s3_1⟩:=zE hc (w.heap.size+1+1+1);obtain ⟨f2_0,f2_1⟩:=zF hf (w.heap.size+1+1);obtain ⟨f3_0,f3_1⟩:=zF hf (w.heap.size+1+1+1);have hbox:Ia w w2 false a n c true a' n' c':=⟨s0_0,s0_1,s1_0,s1_1,s2_0,s2_1,s3_0,s3_1,f2_0,f2_1,f3_0,f3_1,by omega,HB⟩;go_upto_block 1 with fail
 go_cut [7,8] (fun v7 v8 wc=>Hw w wc v7 (z.natAbs/z'.natAbs)∧Hw w wc v8 (z.natAbs%z'.natAbs)∧Ia w wc false a n c true a' n' c')
 case first =>
  exact qAb
 case rest =>
  obtain ⟨⟨a7,n7,c7,d7,rfl,r7,l7,v7,f7⟩,⟨a8,n8,c8,d8,rfl,r8,l8,v8,f8⟩,HBX⟩:=hcut;have V7:=Ae v7;have V8:=Ae v8;clear v7 v8 s0_0 s0_1 s1_0 s1_1 s2_0 s2_1 s3_0 s3_1 f2_0 f2_1 f3_0 f3_1 HB hbox;go_upto_region 12 with fail
  go_cut [] (fun wd=>∃gq nq gr nr,Ge w wd true a' n' c' gq a7 nq nq (sgn true (z.natAbs/z'.natAbs)) gr a8 nr nr (sgn false (z.natAbs%z'.natAbs)))
  case first =>
   have s0:=HBX.b00;have s1:=HBX.b10;have szc:=HBX.sz;go_region_held3 (fun W=>W.cell? ⟨w.heap.size,0,none⟩=some (.bool false)∧W.cell? ⟨w.heap.size+1,0,none⟩=some (.bool true)) (first|((try dsimp only);(repeat' apply Ay);all_goals (first|(with_reducible assumption)|(go_keep;done)|(simp [*,go_sem];done)))) (first
    | (go_at_call 97;(with_reducible refine (E9 _ true a7 n7 c7 d7 (r7.keep qF) l7).mono ?_);rintro e w5 ⟨gq,nq,rfl,hnq,hq,hb5⟩;replace HBX:=(HBX.keep qF).keep hb5;have f7':=((f7.keep qF).keep hb5).less hnq;have s0:=HBX.b00;have s1:=HBX.b10;have hz5:=hb5.size;have t0:=HBX.z20;have t1:=HBX.z21;have t2:=HBX.z30;have t3:=HBX.z31;have u0:=HBX.f20;have u1:=HBX.f21;have u2:=HBX.f30;have u3:=HBX.f31)
    | (go_at_call 97;(with_reducible refine (E9 _ false a8 n8 c8 d8 ((r8.keep (Below.drew (Ac _ _))).keep hb5) l8).mono ?_);rintro e w6 ⟨gr,nr,rfl,hnr,hr,hb6⟩;replace HBX:=HBX.keep hb6;have s0:=HBX.b00;have s1:=HBX.b10;have hz6:=hb6.size;have t0:=HBX.z20;have t1:=HBX.z21;have t2:=HBX.z30;have t3:=HBX.z31;have u0:=HBX.f20;have u1:=HBX.f21;have u2:=HBX.f30;have u3:=HBX.f31))
   exact qAi
  case rest =>
   clear HBX r7 l7 f7 r8 l8 f8 V7 V8;obtain ⟨gq,nq,gr,nr,HD⟩:=hcut;have d0:=HD.b10;have d1:=HD.b11;have d2:=HD.z20;have d3:=HD.z21;have d4:=HD.z30;have d5:=HD.z31;have d6:=HD.f20;have d7:=HD.f21;have d8:=HD.f30;have d9:=HD.f31;have dsz:=HD.sz;have HB:=HD.hb;go_upto_if 79 with (fail)
   go_cut [] (fun we=>∃gq aq nq cq gr ar nr cr,Ge w we true a' n' c' gq aq nq cq (z/z') gr ar nr cr (z%z'))
   case first =>
    exact qDz
   case rest =>
    exact qAg
theorem yW (w:World) (a:Γ) (n c:Nat) (z:Int) (h:Bh w true a n c z) (a':Γ) (n' c':Nat) (z':Int) (h':Bh w false a' n' c' z')
  (hz':z'≠0) (hb1:n<35184372088830) (hb2:n'<35184372088830) :
  Θ 130 #[.agg #[.bool true,.slice a n c],.agg #[.bool false,.slice a' n' c']] w (Tt w (z/z') (z%z')):=by
 have HB:=Ac w.heap.size w;have hn0:=h'.ne.2 hz';have hn1:0<n':=by omega
 have hd0:((n':Int)==0)=false:=by rw [beq_eq_false_iff_ne];omega
 have ho:=Ae h.okay;have ho':=Ae h'.okay;go_enter Tryz.func130,Tryz.ntmps130;go_wp2_with fail;refine (Cy _ _ _ _ _ (dg z.natAbs) (h.rd.keep qF) true ⟨fun _=>rfl,fun _=>ho.out⟩).mono ?_;rintro e w1 ⟨rfl,hb⟩;obtain ⟨hc,hf⟩:=Bl hb;have hz:=hb.size;(try simp only [Aj,Ak] at hz);replace HB:=zI w hb;obtain ⟨s0_0,s0_1⟩:=qZ hc (w.heap.size) (.bool true) (.slice a n c);obtain ⟨s1_0,s1_1⟩:=qZ hc (w.heap.size+1) (.bool false) (.slice a' n' c');obtain ⟨s2_0,s2_1⟩:=zE hc (w.heap.size+1+1);obtain ⟨s3_0,s3_1⟩:=zE hc (w.heap.size+1+1+1);obtain ⟨f2_0,f2_1⟩:=zF hf (w.heap.size+1+1);obtain ⟨f3_0,f3_1⟩:=zF hf (w.heap.size+1+1+1);go_wp2_with fail;refine (Cy _ _ _ _ _ (dg z'.natAbs) (h'.rd.keep qF) true ⟨fun _=>rfl,fun _=>ho'.out⟩).mono ?_;rintro e w2 ⟨rfl,hb⟩;obtain ⟨hc,hf⟩:=Bl hb;have hz:=hb.size;(try simp only [Aj,Ak] at hz);replace HB:=zI w hb;obtain ⟨s0_0,s0_1⟩:=qZ hc (w.heap.size) (.bool true) (.slice a n c);obtain ⟨s1_0,s1_1⟩:=qZ hc (w.heap.size+1) (.bool false) (.slice a' n' c');obtain ⟨s2_0,s2_1⟩:=zE hc (w.heap.size+1+1);obtain ⟨s3_0,s3_1⟩:=zE hc (w.heap.size+1+1+1);obtain ⟨f2_0,f2_1⟩:=zF hf (w.heap.size+1+1);obtain ⟨f3_0,f3_1⟩:=zF hf (w.heap.size+1+1+1);have hbox:Ia w w2 true a n c false a' n' c':=⟨s0_0,s0_1,s1_0,s1_1,s2_0,s2_1,s3_0,s3_1,f2_0,f2_1,f3_0,f3_1,by omega,HB⟩;go_upto_block 1 with fail
 go_cut [7,8] (fun v7 v8 wc=>Hw w wc v7 (z.natAbs/z'.natAbs)∧Hw w wc v8 (z.natAbs%z'.natAbs)∧Ia w wc true a n c false a' n' c')
 case first =>
  exact qAb
 case rest =>
  obtain ⟨⟨a7,n7,c7,d7,rfl,r7,l7,v7,f7⟩,⟨a8,n8,c8,d8,rfl,r8,l8,v8,f8⟩,HBX⟩:=hcut;have V7:=Ae v7;have V8:=Ae v8;clear v7 v8 s0_0 s0_1 s1_0 s1_1 s2_0 s2_1 s3_0 s3_1 f2_0 f2_1 f3_0 f3_1 HB hbox;go_upto_region 12 with fail
  go_cut [] (fun wd=>∃gq nq gr nr,Ge w wd false a' n' c' gq a7 nq nq (sgn true (z.natAbs/z'.natAbs)) gr a8 nr nr (sgn true (z.natAbs%z'.natAbs)))
  case first =>
   have s0:=HBX.b00;have s1:=HBX.b10;have szc:=HBX.sz;go_region_held3 (fun W=>W.cell? ⟨w.heap.size,0,none⟩=some (.bool true)∧W.cell? ⟨w.heap.size+1,0,none⟩=some (.bool false)) (first|((try dsimp only);(repeat' apply Ay);all_goals (first|(with_reducible assumption)|(go_keep;done)|(simp [*,go_sem];done)))) (first
    | (go_at_call 97;(with_reducible refine (E9 _ true a7 n7 c7 d7 (r7.keep qF) l7).mono ?_);rintro e w5 ⟨gq,nq,rfl,hnq,hq,hb5⟩;replace HBX:=(HBX.keep qF).keep hb5;have f7':=((f7.keep qF).keep hb5).less hnq;have s0:=HBX.b00;have s1:=HBX.b10;have hz5:=hb5.size;have t0:=HBX.z20;have t1:=HBX.z21;have t2:=HBX.z30;have t3:=HBX.z31;have u0:=HBX.f20;have u1:=HBX.f21;have u2:=HBX.f30;have u3:=HBX.f31)
    | (go_at_call 97;(with_reducible refine (E9 _ true a8 n8 c8 d8 ((r8.keep (Below.drew (Ac _ _))).keep hb5) l8).mono ?_);rintro e w6 ⟨gr,nr,rfl,hnr,hr,hb6⟩;replace HBX:=HBX.keep hb6;have s0:=HBX.b00;have s1:=HBX.b10;have hz6:=hb6.size;have t0:=HBX.z20;have t1:=HBX.z21;have t2:=HBX.z30;have t3:=HBX.z31;have u0:=HBX.f20;have u1:=HBX.f21;have u2:=HBX.f30;have u3:=HBX.f31))
   exact qAi
  case rest =>
   clear HBX r7 l7 f7 r8 l8 f8 V7 V8;obtain ⟨gq,nq,gr,nr,HD⟩:=hcut;have d0:=HD.b10;have d1:=HD.b11;have d2:=HD.z20;have d3:=HD.z21;have d4:=HD.z30;have d5:=HD.z31;have d6:=HD.f20;have d7:=HD.f21;have d8:=HD.f30;have d9:=HD.f31;have dsz:=HD.sz;have HB:=HD.hb;go_upto_if 79 with (fail)
   go_cut [] (fun we=>∃gq aq nq cq gr ar nr cr,Ge w we false a' n' c' gq aq nq cq (z/z') gr ar nr cr (z%z'))
   case first =>
    have hz0:z<0:=by simpa using h.neg.symm
    have heq:=fL hz0 hz';have hH:decide (z'<0)=false:=h'.neg.symm;rw [hH] at heq;by_cases hrem:z.natAbs%z'.natAbs=0
    ·exact qEa
    ·rw [if_neg hrem,if_neg hrem] at heq;have hzz:(if z'<0 then (1:Int) else -1)=-1:=by first|(rw [if_pos (by simpa using hH)])|(rw [if_neg (by simpa using hH)])
     rw [hzz] at heq;have HEQ:=Ae heq;obtain rfl:gr=true:=by rw [HD.numr.neg];simp [sgn];omega
     clear heq hH hzz hz0;go_wp2_with fail;refine (Qt _ 1 qA qA).mono ?_;rintro e w5 ⟨g1,a1,n1,c1,rfl,hn1',hf1,hb5⟩;obtain rfl:g1=false:=by rw [hn1'.neg];simp
     replace HD:=HD.keep hb5;have d0:=HD.b10;have d1:=HD.b11;have d2:=HD.z20;have d3:=HD.z21;have d4:=HD.z30;have d5:=HD.z31;have d6:=HD.f20;have d7:=HD.f21;have d8:=HD.f30;have d9:=HD.f31;have dsz:=HD.sz;replace HB:=HD.hb;have hk1:w.heap.size+1<w5.heap.size:=by omega
     have hk2:w.heap.size+1+1<w5.heap.size:=by omega
     go_wp2_with fail;have hstep:Bh w5 true a1 n1 c1 (-1):=hn1'.turn qA;have hb6:Below w5.heap.size w5 ((w5.alloc (.cells #[.bool true,.slice a1 n1 c1] 32)).alloc (.cells #[.bool false,.slice a' n' c'] 32)):=by go_grown
     have p1:((w5.alloc (.cells #[.bool true,.slice a1 n1 c1] 32)).alloc (.cells #[.bool false,.slice a' n' c'] 32)).cell? ⟨w5.heap.size,0,none⟩=some (.bool true):=by simp [go_sem]
     have p2:((w5.alloc (.cells #[.bool true,.slice a1 n1 c1] 32)).alloc (.cells #[.bool false,.slice a' n' c'] 32)).cell? ⟨w5.heap.size,1,none⟩=some (.slice a1 n1 c1):=by simp [go_sem]
     have p3:((w5.alloc (.cells #[.bool true,.slice a1 n1 c1] 32)).alloc (.cells #[.bool false,.slice a' n' c'] 32)).cell? ⟨w5.heap.size+1,0,none⟩=some (.bool false):=by simp [go_sem]
     have p4:((w5.alloc (.cells #[.bool true,.slice a1 n1 c1] 32)).alloc (.cells #[.bool false,.slice a' n' c'] 32)).cell? ⟨w5.heap.size+1,1,none⟩=some (.slice a' n' c'):=by simp [go_sem]
     have hz6:w5.heap.size+1<((w5.alloc (.cells #[.bool true,.slice a1 n1 c1] 32)).alloc (.cells #[.bool false,.slice a' n' c'] 32)).heap.size:=by simp
     generalize ((w5.alloc (.cells #[.bool true,.slice a1 n1 c1] 32)).alloc (.cells #[.bool false,.slice a' n' c'] 32))=w6 at *;replace HD:=HD.keep hb6;have hstep6:=hstep.keep hb6;have hamt6:=(h'.abs).keep HD.hb;have hf6:=(hf1.mono (by omega:w.heap.size+1+1+1+1≤_)).keep hb6;have hlq:nq≤n:=by have h1:=HD.numq.rd.len;have h2:=h.rd.len;rw [Hs] at h1;have h3:=Bn (Nat.div_le_self z.natAbs z'.natAbs);omega
     have hlr:nr≤n':=by have h1:=HD.numr.rd.len;have h2:=h'.rd.len;rw [Hs] at h1;have h3:=Bn (Nat.le_of_lt (Nat.mod_lt z.natAbs (show 0<z'.natAbs by omega)));omega
     have hl1:n1≤n':=by have h1:=hn1'.rd.len;have h2:=h'.rd.len;have h3:=Bn (show (1:Int).natAbs≤z'.natAbs by have:(1:Int).natAbs=1:=rfl;omega);omega
     have d0:=HD.b10;have d1:=HD.b11;have d2:=HD.z20;have d3:=HD.z21;have d4:=HD.z30;have d5:=HD.z31;have d6:=HD.f20;have d7:=HD.f21;have d8:=HD.f30;have d9:=HD.f31;replace HB:=HD.hb;generalize w5.heap.size=P at *;clear hstep hb6 hn1' hf1 hb5;refine Cf (fun W=>W.cell? ⟨P,0,none⟩=some (.bool true)∧W.cell? ⟨P,1,none⟩=some (.slice a1 n1 c1)∧W.cell? ⟨P+1,0,none⟩=some (.bool false)∧W.cell? ⟨P+1,1,none⟩=some (.slice a' n' c')∧W.cell? ⟨w.heap.size+1+1,0,none⟩=some (.bool gq)∧W.cell? ⟨w.heap.size+1+1,1,none⟩=some (.slice a7 nq nq)∧W.cell? ⟨w.heap.size+1+1+1,0,none⟩=some (.bool true)∧W.cell? ⟨w.heap.size+1+1+1,1,none⟩=some (.slice a8 nr nr)) 6 qC qK (fun hHeld=>?_);(refine Bk.take 6 (i:=0) (v:=?_) rfl qC (fun _ _ _ h=>h) (Or.inl ⟨by rfl,?_⟩) qH ?_;rotate_left;(focus (intro w' hSw;(try dsimp only at hSw);go_simp;(try with_reducible rfl)));(try simp only [Act.put,Au,Av,Aw]));(refine Bk.take 6 (i:=1) (v:=?_) rfl qC (fun _ _ _ h=>h) (Or.inl ⟨by rfl,?_⟩) qH ?_;rotate_left;(focus (intro w' hSw;(try dsimp only at hSw);go_simp;(try with_reducible rfl)));(try simp only [Act.put,Au,Av,Aw]));(refine Bk.take 5 (i:=3) (v:=?_) rfl qC (fun _ _ _ h=>h) (Or.inl ⟨by rfl,?_⟩) qH ?_;rotate_left;(focus (intro w' hSw;(try dsimp only at hSw);go_simp;(try with_reducible rfl)));(try simp only [Act.put,Au,Av,Aw]));(refine Bk.take 5 (i:=4) (v:=?_) rfl qC (fun _ _ _ h=>h) (Or.inl ⟨by rfl,?_⟩) qH ?_;rotate_left;(focus (intro w' hSw;(try dsimp only at hSw);go_simp;(try with_reducible rfl)));(try simp only [Act.put,Au,Av,Aw]));(refine Bk.one (i:=2) rfl qC (fun K hK=>?_);go_simp;(go_at_call 171;(with_reducible refine (Y3 _ _ _ _ _ _ (HD.numq.keep qF) _ _ _ _ _ (hstep6.keep qF) qA qA).mono ?_);rintro e w7 ⟨gx,ax,nx,cx,rfl,hx,fx,hb7⟩;have hB67:=Al (by go_grown:Below w6.heap.size w6 _) (hb7.mono qB);replace HD:=HD.keep hB67;have d0:=HD.b10;have d1:=HD.b11;have d2:=HD.z20;have d3:=HD.z21;have d4:=HD.z30;have d5:=HD.z31;have d6:=HD.f20;have d7:=HD.f21;have d8:=HD.f30;have d9:=HD.f31;have p1:=Bc hB67 p1;have p2:=Bc hB67 p2;have p3:=Bc hB67 p3;have p4:=Bc hB67 p4;replace hamt6:=hamt6.keep hB67;replace HB:=HD.hb;have hz67:=hB67.size);(try go_wp2_with fail);refine hK.out _ _ (fun _=>qK) ?_;clear hK K;(try simp only [Act.put,Au,Av,Aw]));(refine Bk.one (i:=5) rfl qC (fun K hK=>?_);go_simp;(go_at_call 171;(with_reducible refine (Y3 _ _ _ _ _ _ (HD.numr.keep qF) _ _ _ _ _ (hamt6.keep qF) qA qA).mono ?_);rintro e w8 ⟨gy,ay,ny,cy,rfl,hy,fy,hb8⟩;have hB78:=Al (by go_grown:Below w7.heap.size w7 _) (hb8.mono qB);replace HD:=HD.keep hB78;have d0:=HD.b10;have d1:=HD.b11;have d2:=HD.z20;have d3:=HD.z21;have d4:=HD.z30;have d5:=HD.z31;have d6:=HD.f20;have d7:=HD.f21;have d8:=HD.f30;have d9:=HD.f31;have p1:=Bc hB78 p1;have p2:=Bc hB78 p2;have p3:=Bc hB78 p3;have p4:=Bc hB78 p4;replace hx:=hx.keep hB78;replace fx:=fx.keep hB78;replace HB:=HD.hb;have hz78:=hB78.size);(try go_wp2_with fail);refine hK.out _ _ (fun _=>qK) ?_;clear hK K;(try simp only [Act.put,Au,Av,Aw]))
     (refine Bk.one (i:=6) rfl qC (fun K hK=>?_);go_simp;refine hK.out _ _ (fun h=>absurd h qI) ?_;clear hK K;(try simp only [Act.put,Au,Av,Aw]));(refine Bk.one (i:=7) rfl qC (fun K hK=>?_);go_simp;refine hK.out _ _ (fun h=>absurd h qI) ?_;clear hK K;(try simp only [Act.put,Au,Av,Aw]));exact qCf
   case rest =>
    exact qAg
theorem Aac (w:World) (a:Γ) (n c:Nat) (z:Int) (h:Bh w true a n c z) (a':Γ) (n' c':Nat) (z':Int) (h':Bh w true a' n' c' z')
  (hz':z'≠0) (hb1:n<35184372088830) (hb2:n'<35184372088830) :
  Θ 130 #[.agg #[.bool true,.slice a n c],.agg #[.bool true,.slice a' n' c']] w (Tt w (z/z') (z%z')):=by
 have HB:=Ac w.heap.size w;have hn0:=h'.ne.2 hz';have hn1:0<n':=by omega
 have hd0:((n':Int)==0)=false:=by rw [beq_eq_false_iff_ne];omega
 have ho:=Ae h.okay;have ho':=Ae h'.okay;go_enter Tryz.func130,Tryz.ntmps130;go_wp2_with fail;refine (Cy _ _ _ _ _ (dg z.natAbs) (h.rd.keep qF) true ⟨fun _=>rfl,fun _=>ho.out⟩).mono ?_;rintro e w1 ⟨rfl,hb⟩;obtain ⟨hc,hf⟩:=Bl hb;have hz:=hb.size;(try simp only [Aj,Ak] at hz);replace HB:=zI w hb;obtain ⟨s0_0,s0_1⟩:=qZ hc (w.heap.size) (.bool true) (.slice a n c);obtain ⟨s1_0,s1_1⟩:=qZ hc (w.heap.size+1) (.bool true) (.slice a' n' c');obtain ⟨s2_0,s2_1⟩:=zE hc (w.heap.size+1+1);obtain ⟨s3_0,s3_1⟩:=zE hc (w.heap.size+1+1+1);obtain ⟨f2_0,f2_1⟩:=zF hf (w.heap.size+1+1);obtain ⟨f3_0,f3_1⟩:=zF hf (w.heap.size+1+1+1);go_wp2_with fail;refine (Cy _ _ _ _ _ (dg z'.natAbs) (h'.rd.keep qF) true ⟨fun _=>rfl,fun _=>ho'.out⟩).mono ?_;rintro e w2 ⟨rfl,hb⟩;obtain ⟨hc,hf⟩:=Bl hb;have hz:=hb.size;(try simp only [Aj,Ak] at hz);replace HB:=zI w hb;obtain ⟨s0_0,s0_1⟩:=qZ hc (w.heap.size) (.bool true) (.slice a n c);obtain ⟨s1_0,s1_1⟩:=qZ hc (w.heap.size+1) (.bool true) (.slice a' n' c');obtain ⟨s2_0,s2_1⟩:=zE hc (w.heap.size+1+1);obtain ⟨s3_0,s3_1⟩:=zE hc (w.heap.size+1+1+1);obtain ⟨f2_0,f2_1⟩:=zF hf (w.heap.size+1+1);obtain ⟨f3_0,f3_1⟩:=zF hf (w.heap.size+1+1+1);have hbox:Ia w w2 true a n c true a' n' c':=⟨s0_0,s0_1,s1_0,s1_1,s2_0,s2_1,s3_0,s3_1,f2_0,f2_1,f3_0,f3_1,by omega,HB⟩;go_upto_block 1 with fail
 go_cut [7,8] (fun v7 v8 wc=>Hw w wc v7 (z.natAbs/z'.natAbs)∧Hw w wc v8 (z.natAbs%z'.natAbs)∧Ia w wc true a n c true a' n' c')
 case first =>
  exact qAb
 case rest =>
  obtain ⟨⟨a7,n7,c7,d7,rfl,r7,l7,v7,f7⟩,⟨a8,n8,c8,d8,rfl,r8,l8,v8,f8⟩,HBX⟩:=hcut;have V7:=Ae v7;have V8:=Ae v8;clear v7 v8 s0_0 s0_1 s1_0 s1_1 s2_0 s2_1 s3_0 s3_1 f2_0 f2_1 f3_0 f3_1 HB hbox;go_upto_region 12 with fail
  go_cut [] (fun wd=>∃gq nq gr nr,Ge w wd true a' n' c' gq a7 nq nq (sgn false (z.natAbs/z'.natAbs)) gr a8 nr nr (sgn true (z.natAbs%z'.natAbs)))
  case first =>
   have s0:=HBX.b00;have s1:=HBX.b10;have szc:=HBX.sz;go_region_held3 (fun W=>W.cell? ⟨w.heap.size,0,none⟩=some (.bool true)∧W.cell? ⟨w.heap.size+1,0,none⟩=some (.bool true)) (first|((try dsimp only);(repeat' apply Ay);all_goals (first|(with_reducible assumption)|(go_keep;done)|(simp [*,go_sem];done)))) (first
    | (go_at_call 97;(with_reducible refine (E9 _ false a7 n7 c7 d7 (r7.keep qF) l7).mono ?_);rintro e w5 ⟨gq,nq,rfl,hnq,hq,hb5⟩;replace HBX:=(HBX.keep qF).keep hb5;have f7':=((f7.keep qF).keep hb5).less hnq;have s0:=HBX.b00;have s1:=HBX.b10;have hz5:=hb5.size;have t0:=HBX.z20;have t1:=HBX.z21;have t2:=HBX.z30;have t3:=HBX.z31;have u0:=HBX.f20;have u1:=HBX.f21;have u2:=HBX.f30;have u3:=HBX.f31)
    | (go_at_call 97;(with_reducible refine (E9 _ true a8 n8 c8 d8 ((r8.keep (Below.drew (Ac _ _))).keep hb5) l8).mono ?_);rintro e w6 ⟨gr,nr,rfl,hnr,hr,hb6⟩;replace HBX:=HBX.keep hb6;have s0:=HBX.b00;have s1:=HBX.b10;have hz6:=hb6.size;have t0:=HBX.z20;have t1:=HBX.z21;have t2:=HBX.z30;have t3:=HBX.z31;have u0:=HBX.f20;have u1:=HBX.f21;have u2:=HBX.f30;have u3:=HBX.f31))
   exact qAi
  case rest =>
   clear HBX r7 l7 f7 r8 l8 f8 V7 V8;obtain ⟨gq,nq,gr,nr,HD⟩:=hcut;have d0:=HD.b10;have d1:=HD.b11;have d2:=HD.z20;have d3:=HD.z21;have d4:=HD.z30;have d5:=HD.z31;have d6:=HD.f20;have d7:=HD.f21;have d8:=HD.f30;have d9:=HD.f31;have dsz:=HD.sz;have HB:=HD.hb;go_upto_if 79 with (fail)
   go_cut [] (fun we=>∃gq aq nq cq gr ar nr cr,Ge w we true a' n' c' gq aq nq cq (z/z') gr ar nr cr (z%z'))
   case first =>
    have hz0:z<0:=by simpa using h.neg.symm
    have heq:=fL hz0 hz';have hH:decide (z'<0)=true:=h'.neg.symm;rw [hH] at heq;by_cases hrem:z.natAbs%z'.natAbs=0
    ·exact qEa
    ·rw [if_neg hrem,if_neg hrem] at heq;have hzz:(if z'<0 then (1:Int) else -1)=1:=by first|(rw [if_pos (by simpa using hH)])|(rw [if_neg (by simpa using hH)])
     rw [hzz] at heq;have HEQ:=Ae heq;obtain rfl:gr=true:=by rw [HD.numr.neg];simp [sgn];omega
     clear heq hH hzz hz0;go_wp2_with fail;refine (Qt _ 1 qA qA).mono ?_;rintro e w5 ⟨g1,a1,n1,c1,rfl,hn1',hf1,hb5⟩;obtain rfl:g1=false:=by rw [hn1'.neg];simp
     replace HD:=HD.keep hb5;have d0:=HD.b10;have d1:=HD.b11;have d2:=HD.z20;have d3:=HD.z21;have d4:=HD.z30;have d5:=HD.z31;have d6:=HD.f20;have d7:=HD.f21;have d8:=HD.f30;have d9:=HD.f31;have dsz:=HD.sz;replace HB:=HD.hb;have hk1:w.heap.size+1<w5.heap.size:=by omega
     have hk2:w.heap.size+1+1<w5.heap.size:=by omega
     go_wp2_with fail;have hstep:Bh w5 false a1 n1 c1 (1):=hn1';have hb6:Below w5.heap.size w5 ((w5.alloc (.cells #[.bool false,.slice a1 n1 c1] 32)).alloc (.cells #[.bool false,.slice a' n' c'] 32)):=by go_grown
     have p1:((w5.alloc (.cells #[.bool false,.slice a1 n1 c1] 32)).alloc (.cells #[.bool false,.slice a' n' c'] 32)).cell? ⟨w5.heap.size,0,none⟩=some (.bool false):=by simp [go_sem]
     have p2:((w5.alloc (.cells #[.bool false,.slice a1 n1 c1] 32)).alloc (.cells #[.bool false,.slice a' n' c'] 32)).cell? ⟨w5.heap.size,1,none⟩=some (.slice a1 n1 c1):=by simp [go_sem]
     have p3:((w5.alloc (.cells #[.bool false,.slice a1 n1 c1] 32)).alloc (.cells #[.bool false,.slice a' n' c'] 32)).cell? ⟨w5.heap.size+1,0,none⟩=some (.bool false):=by simp [go_sem]
     have p4:((w5.alloc (.cells #[.bool false,.slice a1 n1 c1] 32)).alloc (.cells #[.bool false,.slice a' n' c'] 32)).cell? ⟨w5.heap.size+1,1,none⟩=some (.slice a' n' c'):=by simp [go_sem]
     have hz6:w5.heap.size+1<((w5.alloc (.cells #[.bool false,.slice a1 n1 c1] 32)).alloc (.cells #[.bool false,.slice a' n' c'] 32)).heap.size:=by simp
     generalize ((w5.alloc (.cells #[.bool false,.slice a1 n1 c1] 32)).alloc (.cells #[.bool false,.slice a' n' c'] 32))=w6 at *;replace HD:=HD.keep hb6;have hstep6:=hstep.keep hb6;have hamt6:=(h'.abs).keep HD.hb;have hf6:=(hf1.mono (by omega:w.heap.size+1+1+1+1≤_)).keep hb6;have hlq:nq≤n:=by have h1:=HD.numq.rd.len;have h2:=h.rd.len;rw [Hs] at h1;have h3:=Bn (Nat.div_le_self z.natAbs z'.natAbs);omega
     have hlr:nr≤n':=by have h1:=HD.numr.rd.len;have h2:=h'.rd.len;rw [Hs] at h1;have h3:=Bn (Nat.le_of_lt (Nat.mod_lt z.natAbs (show 0<z'.natAbs by omega)));omega
     have hl1:n1≤n':=by have h1:=hn1'.rd.len;have h2:=h'.rd.len;have h3:=Bn (show (1:Int).natAbs≤z'.natAbs by have:(1:Int).natAbs=1:=rfl;omega);omega
     have d0:=HD.b10;have d1:=HD.b11;have d2:=HD.z20;have d3:=HD.z21;have d4:=HD.z30;have d5:=HD.z31;have d6:=HD.f20;have d7:=HD.f21;have d8:=HD.f30;have d9:=HD.f31;replace HB:=HD.hb;generalize w5.heap.size=P at *;clear hstep hb6 hn1' hf1 hb5;refine Cf (fun W=>W.cell? ⟨P,0,none⟩=some (.bool false)∧W.cell? ⟨P,1,none⟩=some (.slice a1 n1 c1)∧W.cell? ⟨P+1,0,none⟩=some (.bool false)∧W.cell? ⟨P+1,1,none⟩=some (.slice a' n' c')∧W.cell? ⟨w.heap.size+1+1,0,none⟩=some (.bool gq)∧W.cell? ⟨w.heap.size+1+1,1,none⟩=some (.slice a7 nq nq)∧W.cell? ⟨w.heap.size+1+1+1,0,none⟩=some (.bool true)∧W.cell? ⟨w.heap.size+1+1+1,1,none⟩=some (.slice a8 nr nr)) 6 qC qK (fun hHeld=>?_);(refine Bk.take 6 (i:=0) (v:=?_) rfl qC (fun _ _ _ h=>h) (Or.inl ⟨by rfl,?_⟩) qH ?_;rotate_left;(focus (intro w' hSw;(try dsimp only at hSw);go_simp;(try with_reducible rfl)));(try simp only [Act.put,Au,Av,Aw]));(refine Bk.take 6 (i:=1) (v:=?_) rfl qC (fun _ _ _ h=>h) (Or.inl ⟨by rfl,?_⟩) qH ?_;rotate_left;(focus (intro w' hSw;(try dsimp only at hSw);go_simp;(try with_reducible rfl)));(try simp only [Act.put,Au,Av,Aw]));(refine Bk.take 5 (i:=3) (v:=?_) rfl qC (fun _ _ _ h=>h) (Or.inl ⟨by rfl,?_⟩) qH ?_;rotate_left;(focus (intro w' hSw;(try dsimp only at hSw);go_simp;(try with_reducible rfl)));(try simp only [Act.put,Au,Av,Aw]));(refine Bk.take 5 (i:=4) (v:=?_) rfl qC (fun _ _ _ h=>h) (Or.inl ⟨by rfl,?_⟩) qH ?_;rotate_left;(focus (intro w' hSw;(try dsimp only at hSw);go_simp;(try with_reducible rfl)));(try simp only [Act.put,Au,Av,Aw]));(refine Bk.one (i:=2) rfl qC (fun K hK=>?_);go_simp;(go_at_call 171;(with_reducible refine (Y3 _ _ _ _ _ _ (HD.numq.keep qF) _ _ _ _ _ (hstep6.keep qF) qA qA).mono ?_);rintro e w7 ⟨gx,ax,nx,cx,rfl,hx,fx,hb7⟩;have hB67:=Al (by go_grown:Below w6.heap.size w6 _) (hb7.mono qB);replace HD:=HD.keep hB67;have d0:=HD.b10;have d1:=HD.b11;have d2:=HD.z20;have d3:=HD.z21;have d4:=HD.z30;have d5:=HD.z31;have d6:=HD.f20;have d7:=HD.f21;have d8:=HD.f30;have d9:=HD.f31;have p1:=Bc hB67 p1;have p2:=Bc hB67 p2;have p3:=Bc hB67 p3;have p4:=Bc hB67 p4;replace hamt6:=hamt6.keep hB67;replace HB:=HD.hb;have hz67:=hB67.size);(try go_wp2_with fail);refine hK.out _ _ (fun _=>qK) ?_;clear hK K;(try simp only [Act.put,Au,Av,Aw]));(refine Bk.one (i:=5) rfl qC (fun K hK=>?_);go_simp;(go_at_call 171;(with_reducible refine (Y3 _ _ _ _ _ _ (HD.numr.keep qF) _ _ _ _ _ (hamt6.keep qF) qA qA).mono ?_);rintro e w8 ⟨gy,ay,ny,cy,rfl,hy,fy,hb8⟩;have hB78:=Al (by go_grown:Below w7.heap.size w7 _) (hb8.mono qB);replace HD:=HD.keep hB78;have d0:=HD.b10;have d1:=HD.b11;have d2:=HD.z20;have d3:=HD.z21;have d4:=HD.z30;have d5:=HD.z31;have d6:=HD.f20;have d7:=HD.f21;have d8:=HD.f30;have d9:=HD.f31;have p1:=Bc hB78 p1;have p2:=Bc hB78 p2;have p3:=Bc hB78 p3;have p4:=Bc hB78 p4;replace hx:=hx.keep hB78;replace fx:=fx.keep hB78;replace HB:=HD.hb;have hz78:=hB78.size);(try go_wp2_with fail);refine hK.out _ _ (fun _=>qK) ?_;clear hK K;(try simp only [Act.put,Au,Av,Aw]))
     (refine Bk.one (i:=6) rfl qC (fun K hK=>?_);go_simp;refine hK.out _ _ (fun h=>absurd h qI) ?_;clear hK K;(try simp only [Act.put,Au,Av,Aw]));(refine Bk.one (i:=7) rfl qC (fun K hK=>?_);go_simp;refine hK.out _ _ (fun h=>absurd h qI) ?_;clear hK K;(try simp only [Act.put,Au,Av,Aw]));exact qCf
   case rest =>
    exact qAg
theorem Vt (w:World) (g:Bool) (a:Γ) (n c:Nat) (z:Int) (h:Bh w g a n c z) (g':Bool) (a':Γ) (n' c':Nat) (z':Int) (h':Bh w g' a' n' c' z')
  (hz':z'≠0) (hb1:n<35184372088830) (hb2:n'<35184372088830) :
  Θ 130 #[.agg #[.bool g,.slice a n c],.agg #[.bool g',.slice a' n' c']] w (Tt w (z/z') (z%z')):=by
 cases g<;>cases g'
 ·exact zW w a n c z h a' n' c' z' h' hz' hb1 hb2
 ·exact Abi w a n c z h a' n' c' z' h' hz' hb1 hb2
 ·exact yW w a n c z h a' n' c' z' h' hz' hb1 hb2
 ·exact Aac w a n c z h a' n' c' z' h' hz' hb1 hb2
end Go.Proofs.YtnnhcbeiogaknaaGreatDoor
end
