/- Package parts: both, and Content's closure. -/
import Derived.Test.YtnnhcbeiogaknaaGreatDoorQV24
set_option linter.unusedSimpArgs false
set_option linter.unusedVariables false
set_option maxRecDepth 100000
set_option maxHeartbeats 4000000
section
namespace Go.Proofs.YtnnhcbeiogaknaaGreatDoor
open Go.RowKit
theorem Eu {W:World} {g:Bool} {a:Γ} {n c:Nat} {z:Int} {K:Nat} (h:Bh W g a n c z) (hk:(dg z.natAbs).length≤K):n≤K:=h.rd.len▸hk
theorem Gw (q:Int) (m:Nat):(dg (q/(m:Int)).natAbs).length≤(dg q.natAbs).length:=by
 refine Bn ?_;rcases Aq m with h|h
 ·subst h;simp
 ·have:=Int.natAbs_ediv_le_natAbs q m;omega
theorem Bh.setB {w:World} {g:Bool} {a:Γ} {n c B:Nat} {z:Int} {p:Addr} {u:Value} (hn:Nw B n a) (hp:p.block<B) (h:Bh w g a n c z):Bh (w.setCell p u) g a n c z:=⟨h.neg,by
 rcases hn with h0|hn
 ·exact ⟨h.rd.len,h.rd.cap,h.rd.few,h.rd.top,h.rd.small,.inl h0⟩
 ·exact h.rd.setNew p u (hn.mono hp)⟩
theorem Bh.allocB {w:World} {g:Bool} {a:Γ} {n c:Nat} {z:Int} {o:Obj} (h:Bh w g a n c z):Bh (w.alloc o) g a n c z:=⟨h.neg,h.rd.alloc o⟩
def Adb (w wc:World) (g1:Bool) (a1:Γ) (n1 c1:Nat) (g2:Bool) (a2:Γ) (n2 c2:Nat) (g3:Bool) (a3:Γ) (n3 c3:Nat) (g4:Bool) (a4:Γ) (n4 c4:Nat) (r:Int) (v:Value):Prop :=
 ∃b g a n c,v=.pointer (some ⟨b,0,none⟩)∧w.heap.size+1+1<b∧wc.cell? ⟨b,0,none⟩=some (.bool g)∧wc.cell? ⟨b,1,none⟩=some (.slice a n c)∧Bh wc g a n c r ∧
  wc.cell? ⟨w.heap.size,0,none⟩=some (.bool g1)∧wc.cell? ⟨w.heap.size,1,none⟩=some (.slice a1 n1 c1)∧wc.cell? ⟨w.heap.size,2,none⟩=some (.bool g2)∧wc.cell? ⟨w.heap.size,3,none⟩=some (.slice a2 n2 c2) ∧
  wc.cell? ⟨w.heap.size+1,0,none⟩=some (.bool g3)∧wc.cell? ⟨w.heap.size+1,1,none⟩=some (.slice a3 n3 c3)∧wc.cell? ⟨w.heap.size+1,2,none⟩=some (.bool g4)∧wc.cell? ⟨w.heap.size+1,3,none⟩=some (.slice a4 n4 c4) ∧
  wc.cell? ⟨w.heap.size+1+1,0,none⟩=some (.bool false)∧wc.cell? ⟨w.heap.size+1+1,1,none⟩=some (.slice none 0 0)∧wc.cell? ⟨w.heap.size+1+1,2,none⟩=some (.bool false)∧wc.cell? ⟨w.heap.size+1+1,3,none⟩=some (.slice none 0 0) ∧
  (∀i,i<4→wc.frozen? ⟨w.heap.size+1+1,i,none⟩=false)∧Below w.heap.size w wc
def zN (w:World) (x y:Int) (e:Ending) (w':World):Prop :=
 ∃g1 a1 n1 c1 g2 a2 n2 c2,e=.returned (.agg #[.bool g1,.slice a1 n1 c1,.bool g2,.slice a2 n2 c2])∧Bh w' g1 a1 n1 c1 x∧Bh w' g2 a2 n2 c2 y∧Bg w.heap.size w' a1 c1∧Bg w.heap.size w' a2 c2∧Below w.heap.size w w'
theorem dN (w:World) (g1:Bool) (a1:Γ) (n1 c1:Nat) (x:Int) (h1:Bh w g1 a1 n1 c1 x) (g2:Bool) (a2:Γ) (n2 c2:Nat) (y:Int) (h2:Bh w g2 a2 n2 c2 y)
  (g3:Bool) (a3:Γ) (n3 c3:Nat) (p:Int) (h3:Bh w g3 a3 n3 c3 p) (g4:Bool) (a4:Γ) (n4 c4:Nat) (q:Int) (h4:Bh w g4 a4 n4 c4 q) (hy:0<y) (hq:0<q)
  (q1:n1≤1000000000) (q2:n2≤1000000000) (q3:n3≤1000000000) (q4:n4≤1000000000) :
  Θ 129 #[.agg #[.bool g1,.slice a1 n1 c1,.bool g2,.slice a2 n2 c2],.agg #[.bool g3,.slice a3 n3 c3,.bool g4,.slice a4 n4 c4]] w (zN w (Int.gcd x p:Nat) (y*(q/(Int.gcd y q:Int)))):=by
 have HB:=Ac w.heap.size w;have hg0:((Int.gcd y q:Nat):Int)≠0:=by have:=Int.gcd_pos_of_ne_zero_left (a:=y) q qA;omega
 have HL:=Ae (Ay h1.rd.len (Ay h2.rd.len (Ay h3.rd.len h4.rd.len)));have HG:=Ae hg0;have hgl:=J0 (p:=y) hq;have HGL:=Ae (show (dg ((Int.gcd y q:Nat):Int).natAbs).length≤n4 by rw [Int.natAbs_natCast];exact h4.rd.len▸hgl);clear hgl;have hs0:w.heap.size<w.heap.size+1+1+1:=by omega
 clear hs0;go_enter Tryz.func129,Tryz.ntmps129;go_wp2_with fail;go_cut [5] (fun v5 wc=>Adb w wc g1 a1 n1 c1 g2 a2 n2 c2 g3 a3 n3 c3 g4 a4 n4 c4 (q/(Int.gcd y q:Int)) v5)
 case first =>
  go_region_held3 (fun W=>W.cell? ⟨w.heap.size,0,none⟩=some (.bool g1)∧W.cell? ⟨w.heap.size,1,none⟩=some (.slice a1 n1 c1)∧W.cell? ⟨w.heap.size,2,none⟩=some (.bool g2)∧W.cell? ⟨w.heap.size,3,none⟩=some (.slice a2 n2 c2)∧W.cell? ⟨w.heap.size+1,0,none⟩=some (.bool g3)∧W.cell? ⟨w.heap.size+1,1,none⟩=some (.slice a3 n3 c3)∧W.cell? ⟨w.heap.size+1,2,none⟩=some (.bool g4)∧W.cell? ⟨w.heap.size+1,3,none⟩=some (.slice a4 n4 c4)) (first|((try dsimp only);(repeat' apply Ay);all_goals (first|(with_reducible assumption)|(go_keep;done)|(simp [*,go_sem];done)))) (first
   | (go_at_call 123;(with_reducible refine (eJ _ _ _ _ _ y (h2.keep qF) _ _ _ _ q (h4.keep qF) qA qA).mono ?_);rintro e w1 ⟨gg,ag,ng,cg,rfl,hg,hfg,hb⟩;obtain ⟨hc,hf⟩:=Bl hb;have hz:=hb.size;(try simp only [Aj,Ak,Am] at hz);replace HB:=zI w hb;obtain ⟨s0_0,s0_1⟩:=qZ hc (w.heap.size) (.bool g1) (.slice a1 n1 c1);obtain ⟨s0_2,s0_3⟩:=zD hc (w.heap.size) (.bool g2) (.slice a2 n2 c2);obtain ⟨s1_0,s1_1⟩:=qZ hc (w.heap.size+1) (.bool g3) (.slice a3 n3 c3);obtain ⟨s1_2,s1_3⟩:=zD hc (w.heap.size+1) (.bool g4) (.slice a4 n4 c4);have hng:=Eu hg HGL.out;(try have k0:w.heap.size<w1.heap.size:=by omega);(try have k1:w.heap.size+1<w1.heap.size:=by omega);(try have k2:w.heap.size+1+1<w1.heap.size:=by omega);(try have k3:w.heap.size+1+1+1<w1.heap.size:=by omega);(try have k6:w.heap.size+1+1+1+1<w1.heap.size:=by omega);(try have d1:¬w1.heap.size=w.heap.size+1+1+1:=by omega);(try have d1':¬w.heap.size+1+1+1=w1.heap.size:=by omega))
   | (go_at_call 130;(with_reducible refine (Vt _ _ _ _ _ q (h4.keep qF) _ _ _ _ _ (hg.keep qF) HG.out qA qA).mono ?_);rintro e w2 ⟨gq,aq,nq,cq,gr,ar,nr,cr,rfl,hq',hr,hfq,hfr,hb⟩;obtain ⟨hc,hf⟩:=Bl hb;have hz:=hb.size;(try simp only [Aj,Ak,Am] at hz);replace HB:=zI w hb;obtain ⟨s0_0,s0_1⟩:=qZ hc (w.heap.size) (.bool g1) (.slice a1 n1 c1);obtain ⟨s0_2,s0_3⟩:=zD hc (w.heap.size) (.bool g2) (.slice a2 n2 c2);obtain ⟨s1_0,s1_1⟩:=qZ hc (w.heap.size+1) (.bool g3) (.slice a3 n3 c3);obtain ⟨s1_2,s1_3⟩:=zD hc (w.heap.size+1) (.bool g4) (.slice a4 n4 c4);(try have k0:w.heap.size<w2.heap.size:=by omega);(try have k1:w.heap.size+1<w2.heap.size:=by omega);(try have k2:w.heap.size+1+1<w2.heap.size:=by omega);(try have k3:w.heap.size+1+1+1<w2.heap.size:=by omega);(try have k6:w.heap.size+1+1+1+1<w2.heap.size:=by omega);(try have k4:w1.heap.size<w2.heap.size:=by omega);(try have k5:w1.heap.size+1<w2.heap.size:=by omega);(try have d2:¬w2.heap.size=w.heap.size+1+1+1:=by omega);(try have d2':¬w.heap.size+1+1+1=w2.heap.size:=by omega);(try have d3:¬w2.heap.size=w1.heap.size:=by omega);(try have d3':¬w1.heap.size=w2.heap.size:=by omega)))
  all_goals
   go_wp2_with fail;go_meet
   case rel =>
    have hNw:=hfq.newA hq'.rd;refine ⟨_,gq,aq,nq,cq,rfl,?_,?_,?_,?_,?_,?_,?_,?_,?_,?_,?_,?_,?_,?_,?_,?_,?_,?_⟩
    ·first|omega|(simp;omega)
    ·first|(simp [*,go_sem];done)|(have ez:=hc w1.heap.size 0 (by simp<;>omega);simp [go_sem,ez])
    ·first|(simp [*,go_sem];done)|(have ez:=hc w1.heap.size 1 (by simp<;>omega);simp [go_sem,ez])
    ·(repeat (first|exact hq'|refine Bh.allocB ?_|refine Bh.setB hNw qT ?_))
    all_goals first|(simp [*,go_sem];done)|go_grown|(intro i hi;rcases (by omega:i=0∨i=1∨i=2∨i=3) with rfl|rfl|rfl|rfl<;>(simp [*,go_sem];done))
 case rest =>
  obtain ⟨b,g,a,n,c,rfl,hbk,z0,z1,hr,s0_0,s0_1,s0_2,s0_3,s1_0,s1_1,s1_2,s1_3,R0,R1,R2,R3,hfr,HB⟩:=hcut;have Rf0:=hfr 0 qA;have Rf1:=hfr 1 qA;have Rf2:=hfr 2 qA;have Rf3:=hfr 3 qA;have h1c:=h1.keep HB;have h2c:=h2.keep HB;have h3c:=h3.keep HB;clear hfr;have HC:=Ac wc.heap.size wc;go_wp2_with fail;have hk:w.heap.size+1+1<wc.heap.size:=Aa _ _ R0;have hrl:n≤1000000000:=by have h5:=Eu hr (K:=n4) (by rw [←h4.rd.len];exact Gw q _);omega
  go_region_held3 (fun W=>W.cell? ⟨w.heap.size,0,none⟩=some (.bool g1)∧W.cell? ⟨w.heap.size,1,none⟩=some (.slice a1 n1 c1)∧W.cell? ⟨w.heap.size,2,none⟩=some (.bool g2)∧W.cell? ⟨w.heap.size,3,none⟩=some (.slice a2 n2 c2)∧W.cell? ⟨w.heap.size+1,0,none⟩=some (.bool g3)∧W.cell? ⟨w.heap.size+1,1,none⟩=some (.slice a3 n3 c3)∧W.cell? ⟨w.heap.size+1,2,none⟩=some (.bool g4)∧W.cell? ⟨w.heap.size+1,3,none⟩=some (.slice a4 n4 c4)∧W.cell? ⟨b,0,none⟩=some (.bool g)∧W.cell? ⟨b,1,none⟩=some (.slice a n c)) (first|((try dsimp only);(repeat' apply Ay);all_goals (first|(with_reducible assumption)|(go_keep;done)|(simp [*,go_sem];done)))) (first
   | (go_at_call 123;(with_reducible refine (eJ _ _ _ _ _ x (h1c.keep qF) _ _ _ _ p (h3c.keep qF) qA qA).mono ?_);rintro e w3 ⟨gx,ax,nx,cx,rfl,hx,hfx,hb⟩;have hb3:=zI wc hb;have hz3:=hb3.size;(replace Rf0:=(Ab hb3 (Aa _ _ R0)).trans Rf0;replace Rf1:=(Ab hb3 (Aa _ _ R1)).trans Rf1;replace Rf2:=(Ab hb3 (Aa _ _ R2)).trans Rf2;replace Rf3:=(Ab hb3 (Aa _ _ R3)).trans Rf3;replace s0_0:=Bc hb3 s0_0;replace s0_1:=Bc hb3 s0_1;replace s0_2:=Bc hb3 s0_2;replace s0_3:=Bc hb3 s0_3;replace s1_0:=Bc hb3 s1_0;replace s1_1:=Bc hb3 s1_1;replace s1_2:=Bc hb3 s1_2;replace s1_3:=Bc hb3 s1_3;replace R0:=Bc hb3 R0;replace R1:=Bc hb3 R1;replace R2:=Bc hb3 R2;replace R3:=Bc hb3 R3;replace z0:=Bc hb3 z0;replace z1:=Bc hb3 z1))
   | (go_at_call 96;(with_reducible refine (Za _ _ _ _ _ y ((h2c.keep hb3).keep qF) _ _ _ _ _ ((hr.keep hb3).keep qF) qA qA).mono ?_);rintro e w4 ⟨gy,ay,ny,cy,rfl,hy4,hfy,hb⟩;have hb4:=zI w3 hb;have hz4:=hb4.size;(replace Rf0:=(Ab hb4 (Aa _ _ R0)).trans Rf0;replace Rf1:=(Ab hb4 (Aa _ _ R1)).trans Rf1;replace Rf2:=(Ab hb4 (Aa _ _ R2)).trans Rf2;replace Rf3:=(Ab hb4 (Aa _ _ R3)).trans Rf3;replace s0_0:=Bc hb4 s0_0;replace s0_1:=Bc hb4 s0_1;replace s0_2:=Bc hb4 s0_2;replace s0_3:=Bc hb4 s0_3;replace s1_0:=Bc hb4 s1_0;replace s1_1:=Bc hb4 s1_1;replace s1_2:=Bc hb4 s1_2;replace s1_3:=Bc hb4 s1_3;replace R0:=Bc hb4 R0;replace R1:=Bc hb4 R1;replace R2:=Bc hb4 R2;replace R3:=Bc hb4 R3;replace z0:=Bc hb4 z0;replace z1:=Bc hb4 z1)))
  have hx4:=hx.keep hb4;have fx:Bg (w.heap.size+1+1+1) w4 ax cx:=(hfx.keep hb4).mono qV;have fy:Bg (w.heap.size+1+1+1) w4 ay cy:=hfy.mono qV;have u2:w.heap.size+1+1<w.heap.size+1+1+1:=Ag _;have HW:=HB.trans ((hb3.trans (hb4.mono hb3.size)).mono HB.size);go_wp2_with fail;refine bodyPost_ret (v:=.agg #[.bool gx,.slice ax nx cx,.bool gy,.slice ay ny cy]) (by simp [results,Tryz.results129,go_sem,R0,R1,R2,R3]) rfl ?_;refine ⟨gx,ax,nx,cx,gy,ay,ny,cy,rfl,hx4.set4 fx _ _ _ _ _ _ _ _ u2 u2 u2 u2,hy4.set4 fy _ _ _ _ _ _ _ _ u2 u2 u2 u2,(fx.set4 _ _ _ _ _ _ _ _ u2 u2 u2 u2).mono qA,(fy.set4 _ _ _ _ _ _ _ _ u2 u2 u2 u2).mono qA,by go_grown⟩
def Fa (x:Int×Int) (t:PT):Int×Int:=((Int.gcd x.1 t.2.1:Int),x.2*(t.2.2/(Int.gcd x.2 t.2.2:Int)))
theorem rO (l:Δ):Iw l=Ca (E6 (l.foldl Fa (0,1)).1 (l.foldl Fa (0,1)).2,Fi (l.foldl Fa (0,1)).1 (l.foldl Fa (0,1)).2) (match l with|[]=>(1,1)|t::_=>if t.2.1<0 then (-1,1) else (1,1)):=rfl
structure CoF (K:Nat) (x:Int×Int):Prop where
 pos:0<x.2
 k1:(dg x.1.natAbs).length≤K
 k2:(dg x.2.natAbs).length≤K
theorem Wo {p q:Int} (hq:q≠0):(dg (Int.gcd p q)).length≤(dg q.natAbs).length:=by
 rcases Int.lt_or_gt_of_ne hq with h|h
 ·exact Id h
 ·exact J0 h
theorem CoF.next {K k:Nat} {x:Int×Int} (h:CoF K x) {t:PT} (hc:CW t.2) (h0:t.2.1≠0) (hf:By k t.2):CoF (K+k) (Fa x t):=by
 have hg:0<Int.gcd x.2 t.2.2:=Int.gcd_pos_of_ne_zero_right _ (Int.ne_of_gt hc.pos);refine ⟨?_,?_,?_⟩
 ·have h1:((Int.gcd x.2 t.2.2:Nat):Int)≤t.2.2:=Int.le_of_dvd hc.pos (Int.gcd_dvd_right ..);exact Int.mul_pos h.pos (Int.ediv_pos_of_pos_of_dvd hc.pos qA (Int.gcd_dvd_right ..))
 ·show (dg ((Int.gcd x.1 t.2.1:Nat):Int).natAbs).length≤_;rw [Int.natAbs_natCast];have:=Wo (p:=x.1) h0;have:=hf.1;omega
 ·show (dg (x.2*(t.2.2/((Int.gcd x.2 t.2.2:Nat):Int))).natAbs).length≤_;rw [Int.natAbs_mul];have h1:=Ft x.2.natAbs (t.2.2/((Int.gcd x.2 t.2.2:Nat):Int)).natAbs;have h2:=Gw t.2.2 (Int.gcd x.2 t.2.2);have h3:=h.k2;have h4:=hf.2;omega
def xP (w:World) (x:Int×Int) (e:Ending) (w':World):Prop :=
 ∃g1 a1 n1 c1 g2 a2 n2 c2,e=.returned (.agg #[.bool g1,.slice a1 n1 c1,.bool g2,.slice a2 n2 c2])∧Bh w' g1 a1 n1 c1 x.1∧Bh w' g2 a2 n2 c2 x.2∧Below w.heap.size w w'
theorem zK (wo:World) (a:Γ) (n c:Nat) (p:Nat→Tm) (hp:RdP wo a n c p) (l:Δ) (hll:l.length=n) (hpx:∀i x,l[i]? = some x→Ey (p i) x) (hl:I6 l) (k:Nat) (hk:Cj k l) (hn:k*n+1≤100000000)
  (g1:Bool) (a1:Γ) (n1 c1:Nat) (h1:Bh wo g1 a1 n1 c1 0) (g2:Bool) (a2:Γ) (n2 c2:Nat) (h2:Bh wo g2 a2 n2 c2 1) :
  Θ 128 #[.slice a n c,.agg #[.bool g1,.slice a1 n1 c1,.bool g2,.slice a2 n2 c2],.func (.func 129) #[] #[]] wo (xP wo (l.foldl Fa (0,1))):=by
 have HB:=Ac wo.heap.size wo;have hnf:=hp.few;have HX:=Ae hpx;have HG:=Ae hl;have HK:=Ae hk;have HN:=Ae hn;have HL:=Ae hll;clear hpx hl hk hn hll;go_enter Tryz.func128,Tryz.ntmps128;go_wp2_with fail;go_loopw [11] (fun v11 wr=>∃i:Nat,i≤n∧v11=.int .i64 i∧∃g1 a1 n1 c1 g2 a2 n2 c2,B4 wr wo.heap.size (.bool g1) (.slice a1 n1 c1) (.bool g2) (.slice a2 n2 c2)∧B4 wr (wo.heap.size+1) (.bool false) (.slice none 0 0) (.bool false) (.slice none 0 0)∧Bh wr g1 a1 n1 c1 ((l.take i).foldl Fa (0,1)).1∧Bh wr g2 a2 n2 c2 ((l.take i).foldl Fa (0,1)).2∧CoF (k*i+1) ((l.take i).foldl Fa (0,1))∧Off wo.heap.size (wo.heap.size+1+1) n1 a1∧Off wo.heap.size (wo.heap.size+1+1) n2 a2∧Below wo.heap.size wo wr) (fun v11 _=>n-(intOf v11).toNat)
 case atStart =>
  refine ⟨0,by omega,rfl,g1,a1,n1,c1,g2,a2,n2,c2,?_,?_,h1.keep qF,h2.keep qF,⟨(by decide:(0:Int)<1),by show (dg 0).length≤_;rw [De];simp,by show (dg 1).length≤_;rw [Dg];omega⟩,h1.rd.off (Ad _) _,h2.rd.off (Ad _) _,by go_grown⟩
  ·constructor<;>simp [go_sem]
  ·constructor<;>simp [go_sem]
 case round =>
  obtain ⟨i,hi,rfl,g1,a1,n1,c1,g2,a2,n2,c2,BB,BR,N1,N2,hC,O1,O2,HBr⟩:=hrel;by_cases hlt:i<n
  ·obtain ⟨gb,go,rfl,_⟩:=hp.cell.resolve_left qA;have hil:i<l.length:=by rw [HL.out];exact hlt
   have hx:=Ai hil;have hat:=(hp.keep HBr).at hlt;have ht:=hp.tm i hlt;have hti:=HX.out i _ hx;have hgx:=HG.out l[i] (List.getElem_mem hil);have hfx:=HK.out l[i] (List.getElem_mem hil);have HS:=Ae (show (l.take (i+1)).foldl Fa (0,1)=Fa ((l.take i).foldl Fa (0,1)) l[i] by rw [List.take_add_one,hx,List.foldl_append];rfl);have hC':=hC.next hgx.1 hgx.2 hfx;have hq0:=hC.k1;have hq1:=hC.k2;have hpos:=hC.pos;have hle:k*i+1+k≤100000000:=by
    have h5:k*(i+1)≤k*n:=At k hlt;have:=HN.out;rw [Nat.mul_add,Nat.mul_one] at h5;omega
   have HX1:=Ae hgx;generalize (l.take i).foldl Fa (0,1)=X at *;generalize l[i]=y at *;generalize p i=t at *;have hfr:=(hti.frac ht hgx.1).keep HBr;clear hC hil hx hgx;obtain ⟨e0,e1,e2,e3,e4,e5,e6,e7⟩:=hat;obtain ⟨w,rfl⟩:∃w:World,w=wr:=⟨_,rfl⟩;have hbl:=BR.lt;go_upto_region 4 with fail
   refine Cc ?_;intro w1 hw1;have B1:Below w.heap.size w w1:=by rw [hw1];go_grown
   have T1:Dh w1 w.heap.size t:=by rw [hw1];exact Dh.new w t
   have BB1:=BB.keep B1;have BR1:=BR.keep B1;have hB1:=HBr.trans (B1.mono HBr.size);obtain ⟨z0,z1,z2,z3,zf0,zf1,zf2,zf3⟩:=BB1;obtain ⟨t0,t1,t2,t3,-,-,-,-,-,-,-,-,-,-,-,-⟩:=T1;have M1:=N1.keep B1;have M2:=N2.keep B1;have hfr1:=hfr.keep B1;have l1:n1≤1000000000:=by have h5:=Eu N1 hq0;omega
   have l2:n2≤1000000000:=by have h5:=Eu N2 hq1;omega
   have l3:t.n1≤1000000000:=by have h5:=Eu hfr.top hfx.1;omega
   have l4:t.n2≤1000000000:=by have h5:=Eu hfr.low hfx.2;omega
   have hB1':=B1;have hbl2:¬w.heap.size=wo.heap.size:=by omega
   have hbl3:¬wo.heap.size=w.heap.size:=by omega
   clear hw1 BB BR e0 e1 e2 e3 e4 e5 e6 e7 N1 N2 hfr hp hq0 hq1 hti ht hfx B1;go_wp2_with fail;refine (dN _ _ _ _ _ _ M1 _ _ _ _ _ M2 _ _ _ _ _ hfr1.top _ _ _ _ _ hfr1.low hpos HX1.out.1.pos l1 l2 l3 l4).mono ?_;rintro e w2 ⟨gx,ax,nx,cx,gy,ay,ny,cy,rfl,hX,hY,hfx,hfy,hb⟩;have BB2:B4 w2 wo.heap.size (.bool g1) (.slice a1 n1 c1) (.bool g2) (.slice a2 n2 c2):=(B4.mk z0 z1 z2 z3 zf0 zf1 zf2 zf3).keep hb;have BR2:=BR1.keep hb;have hB2:=hB1.trans (hb.mono hB1.size);have hz1:=hB1'.size;have hz2:=hb.size;clear z0 z1 z2 z3 zf0 zf1 zf2 zf3 t0 t1 t2 t3 M1 M2 hfr1 BR1;obtain ⟨z0,z1,z2,z3,zf0,zf1,zf2,zf3⟩:=BB2;go_wp2_with fail;have hfx2:Bg (wo.heap.size+1+1) w2 ax cx:=hfx.mono qA;have hfy2:Bg (wo.heap.size+1+1) w2 ay cy:=hfy.mono qA;have u:wo.heap.size<wo.heap.size+1+1:=by omega
   go_roundw
   case rel =>
    refine ⟨i+1,by omega,by go_num,gx,ax,nx,cx,gy,ay,ny,cy,B4.set ⟨z0,z1,z2,z3,zf0,zf1,zf2,zf3⟩ _ _ _ _,?_,?_,?_,?_,hfx2.off hX.rd _ (Ad _),hfy2.off hY.rd _ (Ad _),Gu hB2 (Ad _) _ _ _ _⟩
    ·exact (((BR2.far _ _ (by show wo.heap.size≠wo.heap.size+1;omega)).far _ _ (by show wo.heap.size≠wo.heap.size+1;omega)).far _ _ (by show wo.heap.size≠wo.heap.size+1;omega)).far _ _ (by show wo.heap.size≠wo.heap.size+1;omega)
    ·rw [HS.out];exact hX.set4 hfx2 _ _ _ _ _ _ _ _ u u u u
    ·rw [HS.out];exact hY.set4 hfy2 _ _ _ _ _ _ _ _ u u u u
    ·rw [HS.out,Nat.mul_add,Nat.mul_one];exact ⟨hC'.pos,Ah hC'.k1 qA,Ah hC'.k2 qA⟩
   case measure=>(first|(simp [intOf];omega)|(simp [intOf];done))
  ·obtain rfl:i=n:=by omega
   rw [As (by rw [HL.out];exact Ad _)] at N1 N2;obtain ⟨k0,k1,k2,k3,q0,q1,q2,q3⟩:=BB;obtain ⟨r0,r1,r2,r3,p0,p1,p2,p3⟩:=BR;clear hC;go_wp2_with fail;refine bodyPost_ret (v:=.agg #[.bool g1,.slice a1 n1 c1,.bool g2,.slice a2 n2 c2]) (by simp [results,Tryz.results128,go_sem,r0,r1,r2,r3]) rfl ?_;have u1:wo.heap.size≤wo.heap.size+1:=by omega
   have u2:wo.heap.size+1<wo.heap.size+1+1:=by omega
   exact ⟨g1,a1,n1,c1,g2,a2,n2,c2,rfl,(((N1.setOff O1 _ _ u1 u2).setOff O1 _ _ u1 u2).setOff O1 _ _ u1 u2).setOff O1 _ _ u1 u2,(((N2.setOff O2 _ _ u1 u2).setOff O2 _ _ u1 u2).setOff O2 _ _ u1 u2).setOff O2 _ _ u1 u2,by go_grown⟩
theorem T6 {t:PT} {l:Δ} (h:t.2.1≠0):Iw (t::l)=Ca (E6 ((t::l).foldl Fa (0,1)).1 ((t::l).foldl Fa (0,1)).2,Fi ((t::l).foldl Fa (0,1)).1 ((t::l).foldl Fa (0,1)).2) (Bz t.2.1 0,1):=by
 rw [rO]
 congr 1
 show (if t.2.1<0 then ((-1:Int),(1:Int)) else (1,1))=_;by_cases h5:t.2.1<0
 ·rw [if_pos h5,Dx h5]
 ·rw [if_neg h5,Ee qA]
theorem Sq {K:Nat}:∀{l:Δ} {k:Nat} {x:Int×Int},I6 l→Cj K l→CoF k x→CoF (K*l.length+k) (l.foldl Fa x)
 | [],k,x,_,_,h=>by simpa using h
 | t::l,k,x,hg,hf,h=>by
  have h1:=h.next (hg t qG).1 (hg t qG).2 (hf t qG);have h2:=Sq (l:=l) (fun y hy=>hg y (by simp [hy])) (fun y hy=>hf y (by simp [hy])) h1;rw [List.foldl_cons,List.length_cons,Nat.mul_add,Nat.mul_one];have e:K*l.length+K+k=K*l.length+(k+K):=by omega
  rw [e];exact h2
theorem Uu:CoF 1 (0,1):=⟨(by decide:(0:Int)<1),by show (dg 0).length≤_;rw [De];simp,by show (dg 1).length≤_;rw [Dg];omega⟩
theorem Vu (w:World) (B:Nat) (a:Γ) (n c:Nat) (t0:PT) (l:Δ) (h:Bd w B a n c (t0::l)) (hl:PW (t0::l)) (K:Nat) (hK:Cj K (t0::l)) (hn:K*n+1≤1000000) :
  Θ 68 #[.slice a n c] w (Eg w (Iw (t0::l)).1 (Iw (t0::l)).2):=by
 obtain ⟨p,hp,hpx⟩:=h.ts;have hok:=h.pok hl hp hpx;have hpf:=h.few hK hp hpx;have hlen:n=l.length+1:=by have:=h.len;simpa using this.symm
 have hK1:K≤1000000:=by
  have h5:K*1≤K*n:=At K qA;omega
 have P1:=Ae hok;have P3:Hid (∀k,k<n→(p k).n1≤1000000∧(p k).n2≤1000000):=Ae fun k hk=>by have:=hpf k hk;omega
 have P5:=Ae hpx;have P7:=Ae hl;have P8:=Ae hK;have P9:=Ae h.len;have HN:=Ae hn;have hn1:0<n:=by omega
 have hnf:=hp.few;obtain ⟨gb,go,rfl,hgc⟩:=hp.cell.resolve_left qA;have hgb:gb<w.heap.size:=Aa _ _ (hgc 0 hn1).e0;clear hgc;have HB:=Ac w.heap.size w;have hco:=Sq hl.good hK Uu;rw [h.len] at hco;have hc0:0<((t0::l).foldl Fa (0,1)).2:=hco.pos;have HC:=Ae hco;have E:=Ae (T6 (l:=l) (hl.good t0 qG).2);clear hok hpf hpx hlen hl hK hn hco;go_enter Tryz.func68,Tryz.ntmps68;go_wp2_with fail;refine (E4 _ _ n c p (hp.keep qF) P3.out true ⟨fun _=>rfl,fun _=>P1.out⟩).mono ?_;rintro e w1 ⟨rfl,hb1⟩;have R1:B4 w1 w.heap.size (.bool false) (.slice none 0 0) (.bool false) (.slice none 0 0):=B4.keep (w:=w.alloc (.cells #[.bool false,.slice none 0 0,.bool false,.slice none 0 0] 34)) (by constructor<;>simp [go_sem]) hb1;have HB1:Below w.heap.size w w1:=Al qF (hb1.mono qG);clear HB hb1;go_wp2_with fail;refine (Qt w1 0 qA qA).mono ?_;rintro e w2 ⟨g1,a1,n1,c1,rfl,hz,hfz,hb2⟩;have R2:=R1.keep hb2;have HB2:=HB1.trans (hb2.mono HB1.size);go_wp2_with fail;refine (Qt w2 1 qA qA).mono ?_;rintro e w3 ⟨g2,a2,n2,c2,rfl,ho,hfo,hb3⟩;have R3:=R2.keep hb3;have HB3:=HB2.trans (hb3.mono HB2.size);go_wp2_with fail;refine (zK w3 _ n c p (hp.keep HB3) (t0::l) P9.out (fun i x hx=>(P5.out i x hx).1) P7.out.good K P8.out (by have:=HN.out;omega) _ _ _ _ (hz.keep hb3) _ _ _ _ ho).mono ?_;rintro e w4 ⟨g3,a3,n3,c3,g4,a4,n4,c4,rfl,hx,hy,hb4⟩;have R4:=R3.keep hb4;have HB4:=HB3.trans (hb4.mono HB3.size);clear R1 R2 R3 HB1 HB2 HB3 hb2 hb3 hz ho hfz hfo;have l3:n3<35184372088829:=by have h5:=Eu hx HC.out.k1;have:=HN.out;omega
 have l4:n4<35184372088829:=by have h5:=Eu hy HC.out.k2;have:=HN.out;omega
 have h0:=hp.tm 0 hn1;have hi:=P5.out 0 t0 rfl;have hg0:=P7.out.good t0 qG;have hq:=P3.out 0 hn1;generalize (t0::l).foldl Fa (0,1)=X at *;go_wp2_with fail;refine (Tx _ _ _ _ _ X.1 (hx.keep qF) _ _ _ _ X.2 (hy.keep qF) hc0 l3 l4).mono ?_;rintro e w5 ⟨g5,a5,n5,c5,g6,a6,n6,c6,rfl,hm,hf5,hf6,hb5⟩;have hb45:=zI w4 hb5;have R5:=R4.keep hb45;have HB5:=HB4.trans (hb45.mono HB4.size);clear R4 hb4 hb5 hx hy;have hat:=(hp.keep HB5).at hn1;rw [Nat.zero_mul,Nat.add_zero] at hat;generalize p 0=t at *;obtain ⟨e0,e1,e2,e3,-,-,-,-⟩:=hat;go_wp2_with fail;refine Cc ?_;intro w6 hw6;have b56:Below w5.heap.size w5 w6:=by rw [hw6];go_grown
 have hM:B4 w6 w5.heap.size (.bool g5) (.slice a5 n5 c5) (.bool g6) (.slice a6 n6 c6):=by rw [hw6];constructor<;>simp [go_sem]
 have R6:=R5.keep b56;have HB6:=HB5.trans (b56.mono HB5.size);replace e0:=Bc b56 e0;replace e1:=Bc b56 e1;replace e2:=Bc b56 e2;replace e3:=Bc b56 e3;have hm6:=hm.keep b56;have hMw:=R5.lt;have hT:=(hi.1.frac h0 hg0.1).keep HB6;generalize w5.heap.size=M at *;clear hw6 R5 hm b56 HB5 hb45;obtain ⟨k0,k1,k2,k3,-,-,-,-⟩:=hM;obtain ⟨r0,r1,r2,r3,rf0,rf1,rf2,rf3⟩:=R6;have l5:n5≤1000000000:=by have h5:=Eu hm6.top (Ah (Ni X.1 X.2 hc0).1 HC.out.k1);have:=HN.out;omega
 have l6:n6≤1000000000:=by have h5:=Eu hm6.low (Ah (Ni X.1 X.2 hc0).2 HC.out.k2);have:=HN.out;omega
 have hsb:-1≤Bz t0.2.1 0∧Bz t0.2.1 0≤1:=by unfold Bz;split<;>(try split)<;>omega
 have BRw6:=B4.mk r0 r1 r2 r3 rf0 rf1 rf2 rf3;clear r0 r1 r2 r3 rf0 rf1 rf2 rf3;have hkw6:=BRw6.lt;have n1':¬M=w.heap.size:=by omega
 have n2':¬w.heap.size=M:=by omega
 have n3':¬gb=w.heap.size:=by omega
 have n4':¬w.heap.size=gb:=by omega
 have hws:IntKind.i64.wrap (Bz t0.2.1 0)=Bz t0.2.1 0:=IntWalk.i64_in _ qA;go_region_held3 (fun W=>W.cell? ⟨M,0,none⟩=some (.bool g5)∧W.cell? ⟨M,1,none⟩=some (.slice a5 n5 c5)∧W.cell? ⟨M,2,none⟩=some (.bool g6)∧W.cell? ⟨M,3,none⟩=some (.slice a6 n6 c6)∧W.cell? ⟨gb,go,none⟩=some (.bool t.g1)∧W.cell? ⟨gb,go+1,none⟩=some (.slice t.a1 t.n1 t.c1)∧W.cell? ⟨gb,go+2,none⟩=some (.bool t.g2)∧W.cell? ⟨gb,go+3,none⟩=some (.slice t.a2 t.n2 t.c2)) (first|((try dsimp only);(repeat' apply Ay);all_goals (first|(with_reducible assumption)|(go_keep;done)|(simp [*,go_sem];done)))) (first
  | (go_at_call 98;(with_reducible refine (Gd _ _ _ _ _ _ _ _ _ _ _ (hT.keep qF) qA qA).mono ?_);rintro e w7 ⟨rfl,hb⟩;have hbw7:Below w6.heap.size w6 w7:=(by first|exact hb|exact Al qF (hb.mono qB));have hzw7:=hbw7.size;(replace k0:=Bc hbw7 k0;replace k1:=Bc hbw7 k1;replace k2:=Bc hbw7 k2;replace k3:=Bc hbw7 k3;replace e0:=Bc hbw7 e0;replace e1:=Bc hbw7 e1;replace e2:=Bc hbw7 e2;replace e3:=Bc hbw7 e3);have BRw7:=BRw6.keep hbw7)
  | (go_at_call 10;(with_reducible refine (Fh _ (Bz t0.2.1 0) qA qA).mono ?_);rintro e w8 ⟨g7,a7,n7,c7,g8,a8,n8,c8,rfl,hone,hf7,hf8,hap7,hb⟩;have hbw8:Below w7.heap.size w7 w8:=(by first|exact hb|exact Al qF (hb.mono qB));have hzw8:=hbw8.size;(replace k0:=Bc hbw8 k0;replace k1:=Bc hbw8 k1;replace k2:=Bc hbw8 k2;replace k3:=Bc hbw8 k3;replace e0:=Bc hbw8 e0;replace e1:=Bc hbw8 e1;replace e2:=Bc hbw8 e2;replace e3:=Bc hbw8 e3);have BRw8:=BRw7.keep hbw8)
  | (go_at_call 39;(with_reducible refine (I3 _ _ _ _ _ _ _ _ _ _ _ ((hm6.keep (hbw7.trans (hbw8.mono hbw7.size))).keep qF) _ _ _ _ _ _ _ _ _ _ (hone.keep qF) l5 l6 (by have:=Co hone.top qA;omega) (by have:=Co hone.low qI;omega)).mono ?_);rintro e w9 ⟨g9,a9,n9,c9,gA,aA,nA,cA,rfl,hres,hf9,hfA,hap9,hb⟩;have hbw9:Below w8.heap.size w8 w9:=(by first|exact hb|exact Al qF (hb.mono qB));have hzw9:=hbw9.size;(replace k0:=Bc hbw9 k0;replace k1:=Bc hbw9 k1;replace k2:=Bc hbw9 k2;replace k3:=Bc hbw9 k3;replace e0:=Bc hbw9 e0;replace e1:=Bc hbw9 e1;replace e2:=Bc hbw9 e2;replace e3:=Bc hbw9 e3);have BRw9:=BRw8.keep hbw9;obtain ⟨r0,r1,r2,r3,rf0,rf1,rf2,rf3⟩:=BRw9))
 have fe:Bg (w.heap.size+1) w9 a9 c9:=hf9.mono qS;have ff:Bg (w.heap.size+1) w9 aA cA:=hfA.mono qS;have u:w.heap.size<w.heap.size+1:=Ag _;have HB9:=HB6.trans (((hbw7.trans (hbw8.mono hbw7.size)).trans (hbw9.mono (Ah hbw7.size hbw8.size))).mono HB6.size);go_wp2_with fail;refine bodyPost_ret (v:=.agg #[.bool g9,.slice a9 n9 c9,.bool gA,.slice aA nA cA]) (by simp [results,Tryz.results68,go_sem,r0,r1,r2,r3]) rfl ?_;rw [E.out];exact qBq
end Go.Proofs.YtnnhcbeiogaknaaGreatDoor
end
