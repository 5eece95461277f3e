/- A goal's world by a name of its own. -/
import Derived.Test.YtnnhcbeiogaknaaGreatDoorQT9
set_option linter.unusedSimpArgs false
set_option linter.unusedVariables false
set_option maxRecDepth 100000
set_option maxHeartbeats 4000000
section
namespace Go.Proofs.YtnnhcbeiogaknaaGreatDoor
open Go.RowKit
theorem By {P:Program} {c:Code} {Q:Exit→Act→World→Prop} {a:Act} {w:World} (h:∀W,W=w→Code.wp P c Q a W):Code.wp P c Q a w:=h w rfl
theorem Be {P:Program} {f:FuncId} {args:Array Value} {w:World} {R:Ending→World→Prop} (h:∀W,W=w→Calls P f args W R):Calls P f args w R:=h w rfl
def Ap2 (a1:Option Addr) (c1:Nat) (a2:Option Addr) (c2:Nat):Prop:=c1=0∨c2=0∨a1≠a2
def D3 (w:World) (p q:Int) (e:Ending) (w':World):Prop :=
 ∃g1 a1 n1 c1 g2 a2 n2 c2,e=.returned (.agg #[.bool g1,.slice a1 n1 c1,.bool g2,.slice a2 n2 c2])∧Bi w' g1 a1 n1 c1 p g2 a2 n2 c2 q∧Bf w.heap.size w' a1 c1∧Bf w.heap.size w' a2 c2∧Ap2 a1 c1 a2 c2∧Below w.heap.size w w'
theorem Zf {B:Nat} {w w':World} {a a':Option Addr} {c c':Nat} (h:Bf B w a c) (h':Bf w.heap.size w' a' c'):Ap2 a c a' c':=by
 rcases h with h|⟨b,cur,h1,_,h3,_⟩
 ·exact .inl h
 ·rcases h' with h'|⟨b',_,h1',h2',_⟩
  ·exact .inr (.inl h')
  ·refine .inr (.inr fun e=>?_);rw [h1,h1'] at e;simp only [Option.some.injEq,Addr.mk.injEq,and_true] at e;have:=(Ar.1 h3).1;omega
theorem Ql {p q:Int} (hq:0<q):0<q/(Int.gcd p q:Int)∧Int.gcd (p/(Int.gcd p q:Int)) (q/(Int.gcd p q:Int))=1:=by
 have hg:0<Int.gcd p q:=Int.gcd_pos_of_ne_zero_right _ qA;refine ⟨?_,Int.gcd_ediv_gcd_ediv_gcd hg⟩;have h1:((Int.gcd p q:Nat):Int)≤q:=Int.le_of_dvd hq (Int.gcd_dvd_right ..);exact Int.ediv_pos_of_pos_of_dvd hq qA (Int.gcd_dvd_right ..)
theorem Ja {p q:Int} (hq:0<q):(dg (Int.gcd p q)).length≤(dg q.natAbs).length:=by
 refine Bn ?_;have h1:((Int.gcd p q:Nat):Int)≤q:=Int.le_of_dvd hq (Int.gcd_dvd_right ..);omega
theorem Rn (w:World) (g:Bool) (a:Option Addr) (n c:Nat) (z:Int) (h:Bg w g a n c z) (g':Bool) (a':Option Addr) (n' c':Nat) (z':Int) (h':Bg w g' a' n' c' z')
  (hz':0<z') (hb1:n<35184372088829) (hb2:n'<35184372088829) :
  Calls Tryz.prog 124 #[.agg #[.bool g,.slice a n c],.agg #[.bool g',.slice a' n' c']] w (D3 w (z/(Int.gcd z z':Int)) (z'/(Int.gcd z z':Int))):=by
 have HB:=Ac w.heap.size w;have hsg:Bz z' 0=1:=Dy hz';have hgp:0<Int.gcd z z':=Int.gcd_pos_of_ne_zero_right _ qA;go_enter Tryz.func124,Tryz.ntmps124;go_wp2_with fail;refine Be ?_;intro w0 hw0;have HB0:Below w.heap.size w w0:=by rw [hw0];go_grown
 have A0:w0.cell? ⟨w.heap.size,0,none⟩=some (.bool g):=by rw [hw0];simp [go_sem]
 have A1:w0.cell? ⟨w.heap.size,1,none⟩=some (.slice a n c):=by rw [hw0];simp [go_sem]
 have B0:w0.cell? ⟨w.heap.size+1,0,none⟩=some (.bool g'):=by rw [hw0];simp [go_sem]
 have B1:w0.cell? ⟨w.heap.size+1,1,none⟩=some (.slice a' n' c'):=by rw [hw0];simp [go_sem]
 have R0:w0.cell? ⟨w.heap.size+1+1,0,none⟩=some (.bool false):=by rw [hw0];simp [go_sem]
 have R1:w0.cell? ⟨w.heap.size+1+1,1,none⟩=some (.slice none 0 0):=by rw [hw0];simp [go_sem]
 have R2:w0.cell? ⟨w.heap.size+1+1,2,none⟩=some (.bool false):=by rw [hw0];simp [go_sem]
 have R3:w0.cell? ⟨w.heap.size+1+1,3,none⟩=some (.slice none 0 0):=by rw [hw0];simp [go_sem]
 have Rf0:w0.frozen? ⟨w.heap.size+1+1,0,none⟩=false:=by rw [hw0];simp [go_sem]
 have Rf1:w0.frozen? ⟨w.heap.size+1+1,1,none⟩=false:=by rw [hw0];simp [go_sem]
 have Rf2:w0.frozen? ⟨w.heap.size+1+1,2,none⟩=false:=by rw [hw0];simp [go_sem]
 have Rf3:w0.frozen? ⟨w.heap.size+1+1,3,none⟩=false:=by rw [hw0];simp [go_sem]
 have hk0:w.heap.size+1+1+1≤w0.heap.size:=Aa _ _ R0;clear hw0;refine (tQ _ _ _ _ _ z (h.keep HB0) _ _ _ _ z' (h'.keep HB0) hz' hb2 hb1).mono ?_;rintro e w1 ⟨gg,ag,ng,cg,rfl,hng,hfg,hb⟩;have HB1:=HB0.trans (hb.mono HB0.size)
 (replace Rf0:=(Ab hb (Aa _ _ R0)).trans Rf0;replace Rf1:=(Ab hb (Aa _ _ R1)).trans Rf1;replace Rf2:=(Ab hb (Aa _ _ R2)).trans Rf2;replace Rf3:=(Ab hb (Aa _ _ R3)).trans Rf3;replace A0:=Bb hb A0;replace A1:=Bb hb A1;replace B0:=Bb hb B0;replace B1:=Bb hb B1;replace R0:=Bb hb R0;replace R1:=Bb hb R1;replace R2:=Bb hb R2;replace R3:=Bb hb R3)
 have hs1:=HB1.size;have hlg:ng≤n':=by have h1:=hng.rd.len;have h2:=h'.rd.len;rw [Int.natAbs_natCast] at h1;have h3:=Ja (p:=z) hz';omega
 have hkr:w.heap.size+1+1<w1.heap.size:=Aa _ _ R0;replace hfg:=hfg.mono hk0;clear hb HB0;go_upto_region 2 with fail
 (refine By ?_;intro w2 hw2;have G0':w2.cell? ⟨w1.heap.size,0,none⟩=some (.bool gg):=(by rw [hw2];first|assumption|(simp [go_sem];done)|(simp [*,go_sem];done));have G1':w2.cell? ⟨w1.heap.size,1,none⟩=some (.slice ag ng cg):=(by rw [hw2];first|assumption|(simp [go_sem];done)|(simp [*,go_sem];done));have G0:=G0';clear G0';have G1:=G1';clear G1');have hb12:Below w1.heap.size w1 w2:=by rw [hw2];go_grown
 (replace Rf0:=(Ab hb12 (Aa _ _ R0)).trans Rf0;replace Rf1:=(Ab hb12 (Aa _ _ R1)).trans Rf1;replace Rf2:=(Ab hb12 (Aa _ _ R2)).trans Rf2;replace Rf3:=(Ab hb12 (Aa _ _ R3)).trans Rf3;replace A0:=Bb hb12 A0;replace A1:=Bb hb12 A1;replace B0:=Bb hb12 B0;replace B1:=Bb hb12 B1;replace R0:=Bb hb12 R0;replace R1:=Bb hb12 R1;replace R2:=Bb hb12 R2;replace R3:=Bb hb12 R3)
 have hs2:w1.heap.size<w2.heap.size:=by rw [hw2];simp
 have HB2:=HB1.trans (hb12.mono hs1);replace hng:=hng.keep hb12;replace hfg:=hfg.keep hb12;obtain ⟨G,hG⟩:∃G,G=w1.heap.size:=⟨_,rfl⟩;rw [←hG] at G0 G1 ⊢;have hGr:w.heap.size+1+1<G:=by omega
 clear hw2 hb12 HB1 hG;go_wp2_with fail;refine (Kb _ _ _ _ _ z' (h'.keep HB2)).mono ?_;rintro e w3 ⟨rfl,hb⟩;have HB3:=HB2.trans (hb.mono HB2.size)
 (replace Rf0:=(Ab hb (Aa _ _ R0)).trans Rf0;replace Rf1:=(Ab hb (Aa _ _ R1)).trans Rf1;replace Rf2:=(Ab hb (Aa _ _ R2)).trans Rf2;replace Rf3:=(Ab hb (Aa _ _ R3)).trans Rf3;replace A0:=Bb hb A0;replace A1:=Bb hb A1;replace B0:=Bb hb B0;replace B1:=Bb hb B1;replace R0:=Bb hb R0;replace R1:=Bb hb R1;replace R2:=Bb hb R2;replace R3:=Bb hb R3;replace G0:=Bb hb G0;replace G1:=Bb hb G1)
 replace hng:=hng.keep hb;replace hfg:=hfg.keep hb;have hk3:w.heap.size+1+1<w3.heap.size:=Nat.lt_trans hGr (Aa _ _ G0);clear hb HB2;rw [hsg];have hgne:((Int.gcd z z':Nat):Int)≠0:=by omega
 obtain ⟨D,hD⟩:∃D:Int,D=((Int.gcd z z':Nat):Int):=⟨_,rfl⟩;rw [←hD] at hng hgne;have HD:=Ae hD;clear hD;go_wp2_with fail;refine (Uj _ _ _ _ _ z (h.keep HB3) _ _ _ _ D hng hgne qA qA).mono ?_;rintro e w4 ⟨gq,aq,nq,cq,gr,ar,nr,cr,rfl,hq,hr,hfq,hfr,hb⟩;have HB4:=HB3.trans (hb.mono HB3.size)
 (replace Rf0:=(Ab hb (Aa _ _ R0)).trans Rf0;replace Rf1:=(Ab hb (Aa _ _ R1)).trans Rf1;replace Rf2:=(Ab hb (Aa _ _ R2)).trans Rf2;replace Rf3:=(Ab hb (Aa _ _ R3)).trans Rf3;replace A0:=Bb hb A0;replace A1:=Bb hb A1;replace B0:=Bb hb B0;replace B1:=Bb hb B1;replace R0:=Bb hb R0;replace R1:=Bb hb R1;replace R2:=Bb hb R2;replace R3:=Bb hb R3;replace G0:=Bb hb G0;replace G1:=Bb hb G1)
 replace hng:=hng.keep hb;replace hfg:=hfg.keep hb;have hs4:=HB3.size;have hfq4:Bf (w.heap.size+1+1+1) w4 aq cq:=hfq.mono hk3;have hGn:¬G=w.heap.size+1+1:=by omega
 have hGn':¬w.heap.size+1+1=G:=by omega
 have hRl:w.heap.size+1+1<w.heap.size+1+1+1:=Ag _;have hk4:=HB4.size;clear hb HB3 hr hfr hfq;go_upto_region 5 with fail
 (refine By ?_;intro w5 hw5;have A0':w5.cell? ⟨w.heap.size,0,none⟩=some (.bool g):=(by rw [hw5];first|assumption|(simp [go_sem];done)|(simp [*,go_sem];done));have A1':w5.cell? ⟨w.heap.size,1,none⟩=some (.slice a n c):=(by rw [hw5];first|assumption|(simp [go_sem];done)|(simp [*,go_sem];done));have B0':w5.cell? ⟨w.heap.size+1,0,none⟩=some (.bool g'):=(by rw [hw5];first|assumption|(simp [go_sem];done)|(simp [*,go_sem];done));have B1':w5.cell? ⟨w.heap.size+1,1,none⟩=some (.slice a' n' c'):=(by rw [hw5];first|assumption|(simp [go_sem];done)|(simp [*,go_sem];done));have R0':w5.cell? ⟨w.heap.size+1+1,0,none⟩=some (.bool gq):=(by rw [hw5];first|assumption|(simp [go_sem];done)|(simp [*,go_sem];done));have Rf0':w5.frozen? ⟨w.heap.size+1+1,0,none⟩=false:=(by rw [hw5];first|assumption|(simp [go_sem];done)|(simp [*,go_sem];done));have R1':w5.cell? ⟨w.heap.size+1+1,1,none⟩=some (.slice aq nq cq):=(by rw [hw5];first|assumption|(simp [go_sem];done)|(simp [*,go_sem];done));have Rf1':w5.frozen? ⟨w.heap.size+1+1,1,none⟩=false:=(by rw [hw5];first|assumption|(simp [go_sem];done)|(simp [*,go_sem];done));have R2':w5.cell? ⟨w.heap.size+1+1,2,none⟩=some (.bool false):=(by rw [hw5];first|assumption|(simp [go_sem];done)|(simp [*,go_sem];done));have Rf2':w5.frozen? ⟨w.heap.size+1+1,2,none⟩=false:=(by rw [hw5];first|assumption|(simp [go_sem];done)|(simp [*,go_sem];done));have R3':w5.cell? ⟨w.heap.size+1+1,3,none⟩=some (.slice none 0 0):=(by rw [hw5];first|assumption|(simp [go_sem];done)|(simp [*,go_sem];done));have Rf3':w5.frozen? ⟨w.heap.size+1+1,3,none⟩=false:=(by rw [hw5];first|assumption|(simp [go_sem];done)|(simp [*,go_sem];done));have G0':w5.cell? ⟨G,0,none⟩=some (.bool gg):=(by rw [hw5];first|assumption|(simp [go_sem];done)|(simp [*,go_sem];done));have G1':w5.cell? ⟨G,1,none⟩=some (.slice ag ng cg):=(by rw [hw5];first|assumption|(simp [go_sem];done)|(simp [*,go_sem];done));clear A0 A1 B0 B1 R0 R1 R2 R3 Rf0 Rf1 Rf2 Rf3 G0 G1;have A0:=A0';clear A0';have A1:=A1';clear A1';have B0:=B0';clear B0';have B1:=B1';clear B1';have R0:=R0';clear R0';have Rf0:=Rf0';clear Rf0';have R1:=R1';clear R1';have Rf1:=Rf1';clear Rf1';have R2:=R2';clear R2';have Rf2:=Rf2';clear Rf2';have R3:=R3';clear R3';have Rf3:=Rf3';clear Rf3';have G0:=G0';clear G0';have G1:=G1';clear G1');have HB5:Below w.heap.size w w5:=by rw [hw5];go_grown
 have hng5:Bg w5 gg ag ng cg D:=by rw [hw5];exact (hng.setFresh hfg _ _ hRl).setFresh (hfg.setNew _ _ hRl) _ _ hRl
 have hfg5:Bf (w.heap.size+1+1+1) w5 ag cg:=by rw [hw5];exact (hfg.setNew _ _ hRl).setNew _ _ hRl
 have hq5:Bg w5 gq aq nq cq (z/D):=by rw [hw5];exact (hq.setFresh hfq4 _ _ hRl).setFresh (hfq4.setNew _ _ hRl) _ _ hRl
 have hfq5:Bf (w.heap.size+1+1+1) w5 aq cq:=by rw [hw5];exact (hfq4.setNew _ _ hRl).setNew _ _ hRl
 have hk5:w.heap.size+1+1<w5.heap.size:=Aa _ _ R0;clear hw5 hng hfg hq hfq4 HB4;go_wp2_with fail;refine (Uj _ _ _ _ _ z' (h'.keep HB5) _ _ _ _ D hng5 hgne qA qA).mono ?_;rintro e w6 ⟨gs,a5,n5,c5,gr,ar,nr,cr,rfl,hs,hr,hfs,hfr,hb⟩;have HB6:=HB5.trans (hb.mono HB5.size)
 (replace Rf0:=(Ab hb (Aa _ _ R0)).trans Rf0;replace Rf1:=(Ab hb (Aa _ _ R1)).trans Rf1;replace Rf2:=(Ab hb (Aa _ _ R2)).trans Rf2;replace Rf3:=(Ab hb (Aa _ _ R3)).trans Rf3;replace R0:=Bb hb R0;replace R1:=Bb hb R1;replace R2:=Bb hb R2;replace R3:=Bb hb R3)
 have hq6:=hq5.keep hb;have hfq6:=hfq5.keep hb;have hfs6:Bf (w.heap.size+1+1+1) w6 a5 c5:=hfs.mono hk5;have hap:Ap2 aq cq a5 c5:=Zf hfq5 hfs;clear hb HB5 hr hfr hfs hq5 hfq5 hng5 hfg5 A0 A1 B0 B1 G0 G1;go_upto_region 6 with fail
 (refine By ?_;intro w7 hw7;have R0':w7.cell? ⟨w.heap.size+1+1,0,none⟩=some (.bool gq):=(by rw [hw7];first|assumption|(simp [go_sem];done)|(simp [*,go_sem];done));have Rf0':w7.frozen? ⟨w.heap.size+1+1,0,none⟩=false:=(by rw [hw7];first|assumption|(simp [go_sem];done)|(simp [*,go_sem];done));have R1':w7.cell? ⟨w.heap.size+1+1,1,none⟩=some (.slice aq nq cq):=(by rw [hw7];first|assumption|(simp [go_sem];done)|(simp [*,go_sem];done));have Rf1':w7.frozen? ⟨w.heap.size+1+1,1,none⟩=false:=(by rw [hw7];first|assumption|(simp [go_sem];done)|(simp [*,go_sem];done));have R2':w7.cell? ⟨w.heap.size+1+1,2,none⟩=some (.bool gs):=(by rw [hw7];first|assumption|(simp [go_sem];done)|(simp [*,go_sem];done));have Rf2':w7.frozen? ⟨w.heap.size+1+1,2,none⟩=false:=(by rw [hw7];first|assumption|(simp [go_sem];done)|(simp [*,go_sem];done));have R3':w7.cell? ⟨w.heap.size+1+1,3,none⟩=some (.slice a5 n5 c5):=(by rw [hw7];first|assumption|(simp [go_sem];done)|(simp [*,go_sem];done));have Rf3':w7.frozen? ⟨w.heap.size+1+1,3,none⟩=false:=(by rw [hw7];first|assumption|(simp [go_sem];done)|(simp [*,go_sem];done));clear R0 R1 R2 R3 Rf0 Rf1 Rf2 Rf3;have R0:=R0';clear R0';have Rf0:=Rf0';clear Rf0';have R1:=R1';clear R1';have Rf1:=Rf1';clear Rf1';have R2:=R2';clear R2';have Rf2:=Rf2';clear Rf2';have R3:=R3';clear R3';have Rf3:=Rf3';clear Rf3');have HB7:Below w.heap.size w w7:=by rw [hw7];go_grown
 have hq7:Bg w7 gq aq nq cq (z/D):=by rw [hw7];exact (hq6.setFresh hfq6 _ _ hRl).setFresh (hfq6.setNew _ _ hRl) _ _ hRl
 have hfq7:Bf (w.heap.size+1+1+1) w7 aq cq:=by rw [hw7];exact (hfq6.setNew _ _ hRl).setNew _ _ hRl
 have hs7:Bg w7 gs a5 n5 c5 (z'/D):=by rw [hw7];exact (hs.setFresh hfs6 _ _ hRl).setFresh (hfs6.setNew _ _ hRl) _ _ hRl
 have hfs7:Bf (w.heap.size+1+1+1) w7 a5 c5:=by rw [hw7];exact (hfs6.setNew _ _ hRl).setNew _ _ hRl
 clear hw7 hq6 hfq6 hs hfs6 HB6;go_wp2_with fail;refine bodyPost_ret (v:=.agg #[.bool gq,.slice aq nq cq,.bool gs,.slice a5 n5 c5]) (by simp [results,Tryz.results124,go_sem,R0,R1,R2,R3]) rfl ?_;have hfl:=Ql (p:=z) hz';exact qBg
def Zm (w:World) (x y q:Int) (e:Ending) (w':World):Prop :=
 ∃g1 a1 n1 c1 g2 a2 n2 c2 g3 a3 n3 c3,e=.returned (.tuple #[.agg #[.bool g1,.slice a1 n1 c1,.bool g2,.slice a2 n2 c2],.agg #[.bool g3,.slice a3 n3 c3]])∧Bg w' g1 a1 n1 c1 x∧Bg w' g2 a2 n2 c2 y∧Bg w' g3 a3 n3 c3 q ∧
  Bf w.heap.size w' a1 c1∧Bf w.heap.size w' a2 c2∧Bf w.heap.size w' a3 c3∧Below w.heap.size w w'
theorem Bg.set6 {w:World} {g:Bool} {a:Option Addr} {n c:Nat} {z:Int} {B:Nat} (h:Bg w g a n c z) (hf:Bf B w a c) (p1 p2 p3 p4 p5 p6:Addr) (u1 u2 u3 u4 u5 u6:Value) (h1:p1.block<B) (h2:p2.block<B) (h3:p3.block<B) (h4:p4.block<B) (h5:p5.block<B) (h6:p6.block<B) :
  Bg ((((((w.setCell p1 u1).setCell p2 u2).setCell p3 u3).setCell p4 u4).setCell p5 u5).setCell p6 u6) g a n c z :=
 ((h.set4 hf p1 p2 p3 p4 u1 u2 u3 u4 h1 h2 h3 h4).setFresh (hf.set4 p1 p2 p3 p4 u1 u2 u3 u4 h1 h2 h3 h4) p5 u5 h5).setFresh ((hf.set4 p1 p2 p3 p4 u1 u2 u3 u4 h1 h2 h3 h4).setNew p5 u5 h5) p6 u6 h6
theorem Bf.set6 {w:World} {a:Option Addr} {c:Nat} {B:Nat} (hf:Bf B w a c) (p1 p2 p3 p4 p5 p6:Addr) (u1 u2 u3 u4 u5 u6:Value) (h1:p1.block<B) (h2:p2.block<B) (h3:p3.block<B) (h4:p4.block<B) (h5:p5.block<B) (h6:p6.block<B) :
  Bf B ((((((w.setCell p1 u1).setCell p2 u2).setCell p3 u3).setCell p4 u4).setCell p5 u5).setCell p6 u6) a c :=
 ((hf.set4 p1 p2 p3 p4 u1 u2 u3 u4 h1 h2 h3 h4).setNew p5 u5 h5).setNew p6 u6 h6
theorem Iq (w:World) (g1:Bool) (a1:Option Addr) (n1 c1:Nat) (p:Int) (g2:Bool) (a2:Option Addr) (n2 c2:Nat) (q:Int) (h:Bi w g1 a1 n1 c1 p g2 a2 n2 c2 q)
  (g3:Bool) (a3:Option Addr) (n3 c3:Nat) (p':Int) (g4:Bool) (a4:Option Addr) (n4 c4:Nat) (q':Int) (h':Bi w g3 a3 n3 c3 p' g4 a4 n4 c4 q') (hb1:n1≤1000000000) (hb2:n2≤1000000000) (hb3:n3≤1000000000) (hb4:n4≤1000000000) :
  Calls Tryz.prog 61 #[.agg #[.bool g1,.slice a1 n1 c1,.bool g2,.slice a2 n2 c2],.agg #[.bool g3,.slice a3 n3 c3,.bool g4,.slice a4 n4 c4]] w (Zm w (p*q') (p'*q) (q*q')):=by
 have HB:=Ac w.heap.size w;go_enter Tryz.func61,Tryz.ntmps61;go_wp2_with fail;go_region_held3 (fun W=>W.cell? ⟨w.heap.size,0,none⟩=some (.bool g1)∧W.cell? ⟨w.heap.size,1,none⟩=some (.slice a1 n1 c1)∧W.cell? ⟨w.heap.size,2,none⟩=some (.bool g2)∧W.cell? ⟨w.heap.size,3,none⟩=some (.slice a2 n2 c2)∧W.cell? ⟨w.heap.size+1,0,none⟩=some (.bool g3)∧W.cell? ⟨w.heap.size+1,1,none⟩=some (.slice a3 n3 c3)∧W.cell? ⟨w.heap.size+1,2,none⟩=some (.bool g4)∧W.cell? ⟨w.heap.size+1,3,none⟩=some (.slice a4 n4 c4)) (first|((try dsimp only);(repeat' apply Ay);all_goals (first|(with_reducible assumption)|(go_keep;done)|(simp [*,go_sem];done)))) (first
  | (go_at_call 91;(with_reducible refine (Se _ _ _ _ _ _ _ _ _ _ _ (h.keep qF) qA qA).mono ?_);rintro e w1 ⟨rfl,hb⟩;obtain ⟨hc,hf⟩:=Bl hb;have hz:=hb.size;(try simp only [Aj,Ak] at hz);replace HB:=zI w hb;obtain ⟨s0_0,s0_1⟩:=qZ hc (w.heap.size) (.bool g1) (.slice a1 n1 c1);obtain ⟨s0_2,s0_3⟩:=zD hc (w.heap.size) (.bool g2) (.slice a2 n2 c2);obtain ⟨s1_0,s1_1⟩:=qZ hc (w.heap.size+1) (.bool g3) (.slice a3 n3 c3);obtain ⟨s1_2,s1_3⟩:=zD hc (w.heap.size+1) (.bool g4) (.slice a4 n4 c4);obtain ⟨s2_0,s2_1⟩:=zE hc (w.heap.size+1+1);obtain ⟨s2_2,s2_3⟩:=zD hc (w.heap.size+1+1) (.bool false) (.slice none 0 0);obtain ⟨s3_0,s3_1⟩:=zE hc (w.heap.size+1+1+1);obtain ⟨f2_0,f2_1⟩:=zF hf (w.heap.size+1+1);obtain ⟨f2_2,f2_3⟩:=zG hf (w.heap.size+1+1);obtain ⟨f3_0,f3_1⟩:=zF hf (w.heap.size+1+1+1);obtain ⟨f0_0,f0_1⟩:=zF hf (w.heap.size);obtain ⟨f0_2,f0_3⟩:=zG hf (w.heap.size);obtain ⟨f1_0,f1_1⟩:=zF hf (w.heap.size+1);obtain ⟨f1_2,f1_3⟩:=zG hf (w.heap.size+1))
  | (go_at_call 91;(with_reducible refine (Se _ _ _ _ _ _ _ _ _ _ _ (h'.keep qF) qA qA).mono ?_);rintro e w1 ⟨rfl,hb⟩;obtain ⟨hc,hf⟩:=Bl hb;have hz:=hb.size;(try simp only [Aj,Ak] at hz);replace HB:=zI w hb;obtain ⟨s0_0,s0_1⟩:=qZ hc (w.heap.size) (.bool g1) (.slice a1 n1 c1);obtain ⟨s0_2,s0_3⟩:=zD hc (w.heap.size) (.bool g2) (.slice a2 n2 c2);obtain ⟨s1_0,s1_1⟩:=qZ hc (w.heap.size+1) (.bool g3) (.slice a3 n3 c3);obtain ⟨s1_2,s1_3⟩:=zD hc (w.heap.size+1) (.bool g4) (.slice a4 n4 c4);obtain ⟨s2_0,s2_1⟩:=zE hc (w.heap.size+1+1);obtain ⟨s2_2,s2_3⟩:=zD hc (w.heap.size+1+1) (.bool false) (.slice none 0 0);obtain ⟨s3_0,s3_1⟩:=zE hc (w.heap.size+1+1+1);obtain ⟨f2_0,f2_1⟩:=zF hf (w.heap.size+1+1);obtain ⟨f2_2,f2_3⟩:=zG hf (w.heap.size+1+1);obtain ⟨f3_0,f3_1⟩:=zF hf (w.heap.size+1+1+1);obtain ⟨f0_0,f0_1⟩:=zF hf (w.heap.size);obtain ⟨f0_2,f0_3⟩:=zG hf (w.heap.size);obtain ⟨f1_0,f1_1⟩:=zF hf (w.heap.size+1);obtain ⟨f1_2,f1_3⟩:=zG hf (w.heap.size+1)))
 have hk1:w.heap.size+1+1+1<w1.heap.size:=by omega
 go_upto_region 2 with fail
 refine By ?_;intro w2 hw2;have HB2:Below w.heap.size w w2:=by rw [hw2];go_grown
 have A0:w2.cell? ⟨w.heap.size,0,none⟩=some (.bool g1):=by rw [hw2];simp [*,go_sem]
 have A1:w2.cell? ⟨w.heap.size,1,none⟩=some (.slice a1 n1 c1):=by rw [hw2];simp [*,go_sem]
 have A2:w2.cell? ⟨w.heap.size,2,none⟩=some (.bool g2):=by rw [hw2];simp [*,go_sem]
 have A3:w2.cell? ⟨w.heap.size,3,none⟩=some (.slice a2 n2 c2):=by rw [hw2];simp [*,go_sem]
 have B0:w2.cell? ⟨w.heap.size+1,0,none⟩=some (.bool g3):=by rw [hw2];simp [*,go_sem]
 have B1:w2.cell? ⟨w.heap.size+1,1,none⟩=some (.slice a3 n3 c3):=by rw [hw2];simp [*,go_sem]
 have B2:w2.cell? ⟨w.heap.size+1,2,none⟩=some (.bool g4):=by rw [hw2];simp [*,go_sem]
 have B3:w2.cell? ⟨w.heap.size+1,3,none⟩=some (.slice a4 n4 c4):=by rw [hw2];simp [*,go_sem]
 have R0:w2.cell? ⟨w.heap.size+1+1,0,none⟩=some (.bool false):=by rw [hw2];simp [*,go_sem]
 have R1:w2.cell? ⟨w.heap.size+1+1,1,none⟩=some (.slice none 0 0):=by rw [hw2];simp [*,go_sem]
 have R2:w2.cell? ⟨w.heap.size+1+1,2,none⟩=some (.bool false):=by rw [hw2];simp [*,go_sem]
 have R3:w2.cell? ⟨w.heap.size+1+1,3,none⟩=some (.slice none 0 0):=by rw [hw2];simp [*,go_sem]
 have S0:w2.cell? ⟨w.heap.size+1+1+1,0,none⟩=some (.bool false):=by rw [hw2];simp [*,go_sem]
 have S1:w2.cell? ⟨w.heap.size+1+1+1,1,none⟩=some (.slice none 0 0):=by rw [hw2];simp [*,go_sem]
 have Rf0:w2.frozen? ⟨w.heap.size+1+1,0,none⟩=false:=by rw [hw2];simp [*,go_sem]
 have Rf1:w2.frozen? ⟨w.heap.size+1+1,1,none⟩=false:=by rw [hw2];simp [*,go_sem]
 have Rf2:w2.frozen? ⟨w.heap.size+1+1,2,none⟩=false:=by rw [hw2];simp [*,go_sem]
 have Rf3:w2.frozen? ⟨w.heap.size+1+1,3,none⟩=false:=by rw [hw2];simp [*,go_sem]
 have Sf0:w2.frozen? ⟨w.heap.size+1+1+1,0,none⟩=false:=by rw [hw2];simp [*,go_sem]
 have Sf1:w2.frozen? ⟨w.heap.size+1+1+1,1,none⟩=false:=by rw [hw2];simp [*,go_sem]
 clear hw2 HB hc hf hb hz s0_0 s0_1 s0_2 s0_3 s1_0 s1_1 s1_2 s1_3 s2_0 s2_1 s2_2 s2_3 s3_0 s3_1 f0_0 f0_1 f0_2 f0_3 f1_0 f1_1 f1_2 f1_3 f2_0 f2_1 f2_2 f2_3 f3_0 f3_1 hk1;have h2:=h.keep HB2;have h2':=h'.keep HB2;have HB:=Ac w2.heap.size w2;have hk2:w.heap.size+1+1+1<w2.heap.size:=Aa _ _ S0;go_region_held3 (fun W=>W.cell? ⟨w.heap.size,0,none⟩=some (.bool g1)∧W.cell? ⟨w.heap.size,1,none⟩=some (.slice a1 n1 c1)∧W.cell? ⟨w.heap.size,2,none⟩=some (.bool g2)∧W.cell? ⟨w.heap.size,3,none⟩=some (.slice a2 n2 c2)∧W.cell? ⟨w.heap.size+1,0,none⟩=some (.bool g3)∧W.cell? ⟨w.heap.size+1,1,none⟩=some (.slice a3 n3 c3)∧W.cell? ⟨w.heap.size+1,2,none⟩=some (.bool g4)∧W.cell? ⟨w.heap.size+1,3,none⟩=some (.slice a4 n4 c4)) (first|((try dsimp only);(repeat' apply Ay);all_goals (first|(with_reducible assumption)|(go_keep;done)|(simp [*,go_sem];done)))) (first
  | (go_at_call 96;(with_reducible refine (Xq _ _ _ _ _ _ (h2.top.keep qQ) _ _ _ _ _ (h2'.low.keep qQ) qA qA).mono ?_);rintro e w3 ⟨gx,ax,nx,cx,rfl,hx,hfx,hb⟩;replace HB:Below w2.heap.size w2 w3:=Al qQ (hb.mono qB);have hsz:=HB.size;(replace Rf0:=(Ab HB (Aa _ _ R0)).trans Rf0;replace Rf1:=(Ab HB (Aa _ _ R1)).trans Rf1;replace Rf2:=(Ab HB (Aa _ _ R2)).trans Rf2;replace Rf3:=(Ab HB (Aa _ _ R3)).trans Rf3;replace Sf0:=(Ab HB (Aa _ _ S0)).trans Sf0;replace Sf1:=(Ab HB (Aa _ _ S1)).trans Sf1;replace A0:=Bb HB A0;replace A1:=Bb HB A1;replace A2:=Bb HB A2;replace A3:=Bb HB A3;replace B0:=Bb HB B0;replace B1:=Bb HB B1;replace B2:=Bb HB B2;replace B3:=Bb HB B3;replace R0:=Bb HB R0;replace R1:=Bb HB R1;replace R2:=Bb HB R2;replace R3:=Bb HB R3;replace S0:=Bb HB S0;replace S1:=Bb HB S1))
  | (go_at_call 96;(with_reducible refine (Xq _ _ _ _ _ _ (h2'.top.keep qQ) _ _ _ _ _ (h2.low.keep qQ) qA qA).mono ?_);rintro e w4 ⟨gy,ay,ny,cy,rfl,hy,hfy,hb4⟩;have hb34:Below w3.heap.size w3 w4:=Al qQ (hb4.mono qB);replace HB:Below w2.heap.size w2 w4:=Al HB (hb34.mono qB);have hsz4:=HB.size;(replace Rf0:=(Ab hb34 (Aa _ _ R0)).trans Rf0;replace Rf1:=(Ab hb34 (Aa _ _ R1)).trans Rf1;replace Rf2:=(Ab hb34 (Aa _ _ R2)).trans Rf2;replace Rf3:=(Ab hb34 (Aa _ _ R3)).trans Rf3;replace Sf0:=(Ab hb34 (Aa _ _ S0)).trans Sf0;replace Sf1:=(Ab hb34 (Aa _ _ S1)).trans Sf1;replace A0:=Bb hb34 A0;replace A1:=Bb hb34 A1;replace A2:=Bb hb34 A2;replace A3:=Bb hb34 A3;replace B0:=Bb hb34 B0;replace B1:=Bb hb34 B1;replace B2:=Bb hb34 B2;replace B3:=Bb hb34 B3;replace R0:=Bb hb34 R0;replace R1:=Bb hb34 R1;replace R2:=Bb hb34 R2;replace R3:=Bb hb34 R3;replace S0:=Bb hb34 S0;replace S1:=Bb hb34 S1))
  | (go_at_call 96;(with_reducible refine (Xq _ _ _ _ _ _ (h2.low.keep qQ) _ _ _ _ _ (h2'.low.keep qQ) qA qA).mono ?_);rintro e w5 ⟨gq,aq,nq,cq,rfl,hq,hfq,hb5⟩;have hb45:Below w4.heap.size w4 w5:=Al qQ (hb5.mono qB);replace HB:Below w2.heap.size w2 w5:=Al HB (hb45.mono qB);have hsz5:=HB.size;(replace Rf0:=(Ab hb45 (Aa _ _ R0)).trans Rf0;replace Rf1:=(Ab hb45 (Aa _ _ R1)).trans Rf1;replace Rf2:=(Ab hb45 (Aa _ _ R2)).trans Rf2;replace Rf3:=(Ab hb45 (Aa _ _ R3)).trans Rf3;replace Sf0:=(Ab hb45 (Aa _ _ S0)).trans Sf0;replace Sf1:=(Ab hb45 (Aa _ _ S1)).trans Sf1;replace A0:=Bb hb45 A0;replace A1:=Bb hb45 A1;replace A2:=Bb hb45 A2;replace A3:=Bb hb45 A3;replace B0:=Bb hb45 B0;replace B1:=Bb hb45 B1;replace B2:=Bb hb45 B2;replace B3:=Bb hb45 B3;replace R0:=Bb hb45 R0;replace R1:=Bb hb45 R1;replace R2:=Bb hb45 R2;replace R3:=Bb hb45 R3;replace S0:=Bb hb45 S0;replace S1:=Bb hb45 S1)))
 all_goals
  have hx5:=(hx.keep hb34).keep hb45;have hy5:=hy.keep hb45;have fx5:Bf (w.heap.size+1+1+1+1) w5 ax cx:=((hfx.mono qB).keep hb34).keep hb45;have fy5:Bf (w.heap.size+1+1+1+1) w5 ay cy:=(hfy.mono qB).keep hb45;have fq5:Bf (w.heap.size+1+1+1+1) w5 aq cq:=hfq.mono qB;have u2:w.heap.size+1+1<w.heap.size+1+1+1+1:=by omega
  have u3:w.heap.size+1+1+1<w.heap.size+1+1+1+1:=by omega
  have HW:=HB2.trans (HB.mono HB2.size);go_wp2_with fail;refine bodyPost_ret (v:=.tuple #[.agg #[.bool gx,.slice ax nx cx,.bool gy,.slice ay ny cy],.agg #[.bool gq,.slice aq nq cq]]) (by simp [results,Tryz.results61,go_sem,R0,R1,R2,R3,S0,S1]) rfl ?_;refine ⟨gx,ax,nx,cx,gy,ay,ny,cy,gq,aq,nq,cq,rfl,?_,?_,?_,?_,?_,?_,by go_grown⟩
  ·exact hx5.set6 fx5 _ _ _ _ _ _ _ _ _ _ _ _ u2 u2 u2 u2 u3 u3
  ·exact hy5.set6 fy5 _ _ _ _ _ _ _ _ _ _ _ _ u2 u2 u2 u2 u3 u3
  ·exact hq.set6 fq5 _ _ _ _ _ _ _ _ _ _ _ _ u2 u2 u2 u2 u3 u3
  ·exact (fx5.set6 _ _ _ _ _ _ _ _ _ _ _ _ u2 u2 u2 u2 u3 u3).mono qA
  ·exact (fy5.set6 _ _ _ _ _ _ _ _ _ _ _ _ u2 u2 u2 u2 u3 u3).mono qA
  ·exact (fq5.set6 _ _ _ _ _ _ _ _ _ _ _ _ u2 u2 u2 u2 u3 u3).mono qA
end Go.Proofs.YtnnhcbeiogaknaaGreatDoor
end
