/- The reader of the shipped package: term. -/
import Derived.Test.YtnnhcbeiogaknaaGreatDoorQV21
set_option linter.unusedSimpArgs false
set_option linter.unusedVariables false
set_option maxRecDepth 100000
set_option maxHeartbeats 4000000
section
namespace Go.Proofs.YtnnhcbeiogaknaaGreatDoor
open Go.RowKit
def Lg (w:World) (R:Nat) (x:Option (Δ×List UInt8×Bool)) (e:Ending) (w':World):Prop :=
 w.grownBy w' (some R)∧match x with|none=>e=.panicked Ko|some (l,r,m)=>∃a n c,e=.returned (.slice a n c)∧Bd w' w.heap.size a n c l∧Bm w' w.heap.size a n c∧Cm w' R r m
theorem Lg.no {w w':World} {R:Nat} (h:w.grownBy w' (some R)):Lg w R none (.panicked Ko) w':=⟨h,rfl⟩
theorem rQ (w:World) (g1:Bool) (a1:Γ) (n1 c1:Nat) (g2:Bool) (a2:Γ) (n2 c2:Nat) (x:PC) (h:Bj w g1 a1 n1 c1 x.1 g2 a2 n2 c2 x.2) (B:Nat) (v:Value) (y:PC) (hv:yR w B v y) (hb1:n1≤1000000000) (hb2:n2≤1000000000) (hy:By 1000000000 y) :
  Θ 39 #[frV g1 a1 n1 c1 g2 a2 n2 c2,v] w (Eg w (Ca x y).1 (Ca x y).2):=by
 rcases hv with ⟨g3,a3,n3,c3,g4,a4,n4,c4,rfl,hf,_,_⟩|⟨rfl,rfl⟩
 ·have e3:=hf.top.rd.len;have e4:=hf.low.rd.len;obtain ⟨i1,i2⟩:=hy;exact I3 w _ _ _ _ _ _ _ _ _ _ h _ _ _ _ _ _ _ _ _ _ hf hb1 hb2 qA qA
 ·exact tF w _ _ _ _ _ _ _ _ _ _ h _ _ _ _ 0 _ _ _ _ 1 1 (fun W hW=>Abu w W false _ _ _ [] (Xj _) false _ _ _ [] (Xj _) qA qA (fun h=>h.2.2.2.1 rfl)) hb1 hb2 qA
def Mw (again:Bool) (st:TS):Option TS:=if again || Fk st.L then Cr st else some st
theorem Ny (b:UInt8):Lib.indexByte [120,121,122,116] b=(match Ii b with|some i=>(i:Int)|none=>-1):=by
 have h:∀n:Fin 256,Lib.indexByte [120,121,122,116] (UInt8.ofNat n)=(match Ii (UInt8.ofNat n) with|some i=>(i:Int)|none=>-1):=by decide
 have:=h ⟨b.toNat,b.toNat_lt⟩;simpa only [UInt8.ofNat_toNat] using this
theorem Vo {b:UInt8} {i:Nat} (h:Ii b=some i):i<4:=by
 unfold Ii at h
 split at h
 ·cases h;omega
 ·split at h
  ·cases h;omega
  ·split at h
   ·cases h;omega
   ·split at h
    ·cases h;omega
    ·cases h
theorem nS (W:World) (a b c d:Int) :
  (Instr.index 326 (.agg #[.int .i64 a,.int .i64 b,.int .i64 c,.int .i64 d]) (.int .i64 0)).run Tryz.prog W=.ok (.int .i64 a) W ∧
  (Instr.index 326 (.agg #[.int .i64 a,.int .i64 b,.int .i64 c,.int .i64 d]) (.int .i64 1)).run Tryz.prog W=.ok (.int .i64 b) W ∧
  (Instr.index 326 (.agg #[.int .i64 a,.int .i64 b,.int .i64 c,.int .i64 d]) (.int .i64 2)).run Tryz.prog W=.ok (.int .i64 c) W ∧
  (Instr.index 326 (.agg #[.int .i64 a,.int .i64 b,.int .i64 c,.int .i64 d]) (.int .i64 3)).run Tryz.prog W=.ok (.int .i64 d) W :=
 ⟨by kernel_rfl,by kernel_rfl,by kernel_rfl,by kernel_rfl⟩
def Mr (o:Nat→Nat):Nat→Bool
 | 0=>false
 | k+1=>Mr o k || decide (65535<o k)
theorem cF (o:Nat→Nat):Mr o 4=I5 o:=by simp [Mr,I5]
def tv (o:Nat→Nat) (i k:Nat):Nat:=if k<i then Jc (o k) else 0
theorem fW (o:Nat→Nat) (i k:Nat):tv o i k<65536:=by unfold tv Jc;split<;>omega
theorem Aae (o:Nat→Nat):Cg (tv o 4 0) (tv o 4 1) (tv o 4 2) (tv o 4 3)=Qy o:=by simp [tv,Qy]
theorem kI (W:World) (o:Nat→Nat) (i:Nat) (hi:i<4):(Instr.index 326 (.agg #[.int .i64 (o 0:Nat),.int .i64 (o 1:Nat),.int .i64 (o 2:Nat),.int .i64 (o 3:Nat)]) (.int .i64 (i:Nat))).run Tryz.prog W=.ok (.int .i64 (o i:Nat)) W:=by
 obtain ⟨h0,h1,h2,h3⟩:=nS W (o 0:Nat) (o 1:Nat) (o 2:Nat) (o 3:Nat)
 match i,hi with
 | 0,_=>exact h0
 | 1,_=>exact h1
 | 2,_=>exact h2
 | 3,_=>exact h3
structure Qn (w:World) (TB:Nat) (g5:Bool) (a5:Γ) (n5 c5:Nat) (g6:Bool) (a6:Γ) (n6 c6:Nat) (o:Nat→Nat) (i:Nat):Prop where
 e0:w.cell? ⟨TB,0,none⟩=some (.bool g5)
 e1:w.cell? ⟨TB,1,none⟩=some (.slice a5 n5 c5)
 e2:w.cell? ⟨TB,2,none⟩=some (.bool g6)
 e3:w.cell? ⟨TB,3,none⟩=some (.slice a6 n6 c6)
 m:∀k,k<4→w.cell? ⟨TB,4+k,none⟩=some (.int .u16 (tv o i k:Nat))
 f:∀k,w.frozen? ⟨TB,k,none⟩=false
theorem Qn.butR {w w':World} {TB:Nat} {g5:Bool} {a5:Γ} {n5 c5:Nat} {g6:Bool} {a6:Γ} {n6 c6:Nat} {o:Nat→Nat} {i R:Nat} (h:Qn w TB g5 a5 n5 c5 g6 a6 n6 c6 o i) (hg:w.grownBy w' (some R)) (hne:TB≠R):Qn w' TB g5 a5 n5 c5 g6 a6 n6 c6 o i:=by
 have hn:∀k,some (⟨TB,k,none⟩:Addr).block≠some R:=fun k=>by simpa using hne
 have hlt:TB<w.heap.size:=Aa _ _ h.e0;exact ⟨hg.cell h.e0 (hn 0),hg.cell h.e1 (hn 1),hg.cell h.e2 (hn 2),hg.cell h.e3 (hn 3),fun k hk=>hg.cell (h.m k hk) (hn _),fun k=>(Bv hg hlt (by simpa using hne)).trans (h.f k)⟩
theorem Qn.next {w:World} {TB:Nat} {g5:Bool} {a5:Γ} {n5 c5:Nat} {g6:Bool} {a6:Γ} {n6 c6:Nat} {o:Nat→Nat} {i:Nat} (h:Qn w TB g5 a5 n5 c5 g6 a6 n6 c6 o i) (hi:i<4):Qn (w.setCell ⟨TB,4+i,none⟩ (.int .u16 (Jc (o i):Nat))) TB g5 a5 n5 c5 g6 a6 n6 c6 o (i+1):=by
 have ho:∀j v,j≠4+i→w.cell? ⟨TB,j,none⟩=some v→(w.setCell ⟨TB,4+i,none⟩ (.int .u16 (Jc (o i):Nat))).cell? ⟨TB,j,none⟩=some v:=fun j v hj hv=>by
  rw [←hv];exact World.cell?_setCell_other (w:=w) (a:=⟨TB,4+i,none⟩) (b:=⟨TB,j,none⟩) _ (by intro e;injection e with e1 e2;exact hj e2.symm)
 refine ⟨ho 0 _ qA h.e0,ho 1 _ qA h.e1,ho 2 _ qA h.e2,ho 3 _ qA h.e3,fun k hk=>?_,fun k=>by rw [←h.f k];simp [go_sem]⟩;by_cases e:k=i
 ·subst e;have:=h.m k hk;have hx:tv o (k+1) k=Jc (o k):=by simp [tv]
  rw [hx];simp [*,go_sem]
 ·have hx:tv o (i+1) k=tv o i k:=by
   unfold tv;by_cases h1:k<i
   ·rw [if_pos qA,if_pos h1]
   ·rw [if_neg qA,if_neg h1]
  rw [hx];exact ho _ _ qA (h.m k hk)
theorem jK (w:World) (C:Array Value) (e:TypeId):(w.alloc (.cells C e)).heap[w.heap.size]? = some (.cells C e (0,0)):=by
 show (w.heap.push _)[w.heap.size]? = _;simp
theorem Td {w:World} {B b:Nat} {g1:Bool} {a1:Γ} {n1 c1:Nat} {g2:Bool} {a2:Γ} {n2 c2:Nat} {c:PC} (h:Bj w g1 a1 n1 c1 c.1 g2 a2 n2 c2 c.2) (k1:Bg B w a1 c1) (k2:Bg B w a2 c2) (hap:Ap2 a1 c1 a2 c2) {m0 m1 m2 m3:Nat} (h0:m0<65536) (h1:m1<65536) (h2:m2<65536) (h3:m3<65536)
  (hb:B≤b) (hrow:∃cur,w.heap[b]? = some (.cells cur 79 (0,0))∧8≤cur.size) (ht:Ll w b 0 ⟨g1,a1,n1,c1,dg c.1.natAbs,g2,a2,n2,c2,dg c.2.natAbs,m0,m1,m2,m3⟩):Bd w B (some ⟨b,0,none⟩) 1 1 [(Cg m0 m1 m2 m3,c)]∧Bm w B (some ⟨b,0,none⟩) 1 1:=by
 have hcl:∀i,i<1→Ll w b (0+i*8) ⟨g1,a1,n1,c1,dg c.1.natAbs,g2,a2,n2,c2,dg c.2.natAbs,m0,m1,m2,m3⟩:=fun i hi=>by
  obtain rfl:i=0:=by omega
  exact ht
 have hR:RdP w (some ⟨b,0,none⟩) 1 1 (fun _=>⟨g1,a1,n1,c1,dg c.1.natAbs,g2,a2,n2,c2,dg c.2.natAbs,m0,m1,m2,m3⟩):=⟨Ad _,by omega,by omega,fun i hi=>⟨h.top.rd,h.low.rd,h0,h1,h2,h3⟩,.inr ⟨b,0,rfl,hcl⟩⟩;obtain ⟨cur,hc,hs⟩:=hrow;refine ⟨⟨rfl,.inr (fun x hx=>by cases hx;exact hb),fun h=>(by cases h),_,hR,fun i x hx=>?_⟩,.inr ⟨b,cur,rfl,hb,hc,by omega⟩,_,fun _=>0,fun _=>0,hR,fun i j _ _ _=>by omega,fun i _=>⟨k1,k2,hap,.inr fun _ _=>rfl,.inr fun _ _=>rfl⟩⟩
 cases i with
 | zero =>
  simp only [List.getElem?_cons_zero,Option.some.injEq] at hx;subst hx;exact ⟨⟨h.top.neg,rfl,h.low.neg,rfl,rfl⟩,k1.newA h.top.rd,k2.newA h.low.rd⟩
 | succ i=>simp at hx
theorem pN {L:List UInt8} {st u:TS} (hQ:CW st.c∧By (1+(L.length-st.L.length)) st.c∧st.L.length≤L.length∧∀i,st.o i≤1000*(L.length-st.L.length)) (hF:Cq st=some u) (L':List UInt8) (hL':L'.length≤u.L.length) :
  CW u.c∧By (1+(L.length-L'.length)) u.c∧L'.length≤L.length∧∀i,u.o i≤1000*(L.length-L'.length):=by
 obtain ⟨h1,h2,h3,h4⟩:=hQ;obtain ⟨g1,g2⟩:=Mq hF h1 h2;have g3:=dU hF h4;have g4:=Dk hF;exact ⟨g1,g2.mono qA,by omega,fun i=>by have:=g3 i;omega⟩
def Tp (w:World) (R:Nat):Nat:=Ww ((w.cell? ⟨R,0,none⟩).getD undef)
theorem Et {w:World} {R:Nat} {L:List UInt8} {m:Bool} (h:Cm w R L m):Tp w R=L.length:=by
 unfold Tp;rw [h.c0];exact Ku L
theorem Cw {w w':World} {b i:Nat} (hb:Below w.heap.size w w') (hlt:b<w.heap.size):w'.frozen? ⟨b,i,none⟩=w.frozen? ⟨b,i,none⟩:=(Bl hb).2 b i hlt
theorem vR {wo w:World} {CB:Nat} {v0 v1 v2 v3:Value} (e0:w.cell? ⟨CB,0,none⟩=some v0) (e1:w.cell? ⟨CB,1,none⟩=some v1) (e2:w.cell? ⟨CB,2,none⟩=some v2) (e3:w.cell? ⟨CB,3,none⟩=some v3)
  {g1:Bool} {a1:Γ} {n1 c1:Nat} {g2:Bool} {a2:Γ} {n2 c2:Nat} {c:PC} (hf:Bj w g1 a1 n1 c1 c.1 g2 a2 n2 c2 c.2) (k1:Bg (CB+1) w a1 c1) (k2:Bg (CB+1) w a2 c2) (hap:Ap2 a1 c1 a2 c2) (hw:wo.heap.size≤CB) :
  Qs wo ((((w.setCell ⟨CB,0,none⟩ (.bool g1)).setCell ⟨CB,1,none⟩ (.slice a1 n1 c1)).setCell ⟨CB,2,none⟩ (.bool g2)).setCell ⟨CB,3,none⟩ (.slice a2 n2 c2)) CB w.heap.size c:=by
 have hg:w.grownBy ((((w.setCell ⟨CB,0,none⟩ (.bool g1)).setCell ⟨CB,1,none⟩ (.slice a1 n1 c1)).setCell ⟨CB,2,none⟩ (.bool g2)).setCell ⟨CB,3,none⟩ (.slice a2 n2 c2)) (some CB):=Bf _ (Bf _ (Bf _ (Bf _ (Cp _ _))));exact ⟨g1,a1,n1,c1,g2,a2,n2,c2,by simp [*,go_sem],by simp [*,go_sem],by simp [*,go_sem],by simp [*,go_sem],hf.ap ((k1.apk qA).few hf.top.rd.cap) ((k2.apk qA).few hf.low.rd.cap) hg,(k1.off_ap (k1.apk qA) hg).mono qA,(k2.off_ap (k2.apk qA) hg).mono qA,k1.apk qA,k2.apk qA,k1.ap_of (Ad _),k2.ap_of (Ad _),hap⟩
theorem Qd (wo:World) (R:Nat) (L:List UInt8) (many neg:Bool) (h:Cm wo R L many) (hL:L.length<1000000) (hV:If wo) (hR:7<R) :
  Θ 220 #[.pointer (some ⟨R,0,none⟩),.bool neg] wo (Lg wo R (Fl L many neg)):=by
 have hRlt:=h.lt;have hne7:some 7≠some R:=by simp;omega
 cases neg
 ·go_enter Tryz.func220,Tryz.ntmps220;go_wp2_with fail;refine (Fh _ 1 qA qA).mono ?_;rintro e w1 ⟨g1,a1,n1,c1,g2,a2,n2,c2,rfl,hf1,hfr1,hfr2,hap,hb1⟩;have hz1:=hb1.size;have hr1:=h.keep hb1;have hB1:Below w1.heap.size w1 ((w1.alloc (.cells #[.bool g1,.slice a1 n1 c1,.bool g2,.slice a2 n2 c2] 34)).alloc (.cells #[.int .i64 0,.int .i64 0,.int .i64 0,.int .i64 0] 326)):=by go_grown
  have hT0:Db wo ((w1.alloc (.cells #[.bool g1,.slice a1 n1 c1,.bool g2,.slice a2 n2 c2] 34)).alloc (.cells #[.int .i64 0,.int .i64 0,.int .i64 0,.int .i64 0] 326)) R w1.heap.size (w1.heap.size+1) ⟨(1,1),fun _=>0,L,many⟩:=by
   refine ⟨hr1.keep hB1,⟨g1,a1,n1,c1,g2,a2,n2,c2,by simp [go_sem],by simp [go_sem],by simp [go_sem],by simp [go_sem],hf1.keep hB1,hfr1.keep hB1,hfr2.keep hB1,hfr1.ap_of (Ad _),hfr2.ap_of (Ad _),hfr1.ap_of qA,hfr2.ap_of qA,hap⟩,fun i hi=>by simp [go_sem],fun i hi=>?_,fun i hi=>by simp [go_sem],(Bx hb1 _).trans (Bx hB1 _),hRlt,hz1,by omega,by simp⟩
   match i,hi with
   | 0,_=>simp [go_sem]
   | 1,_=>simp [go_sem]
   | 2,_=>simp [go_sem]
   | 3,_=>simp [go_sem]
  go_wp2_with (first|(go_at_call 219;refine (Qh _ R L many hT0.rdr qA).mono ?_;rintro e w2 ⟨rfl,hr2,hg2⟩));have hT2:=hT0.rd hg2 hr2;have hX:=Ae (show Cr ⟨(1,1),fun _=>0,skp L,many⟩=Mw true ⟨(1,1),fun _=>0,skp L,many⟩ from rfl);have hcw:=dS false;have hfew:=Wr false;have hsl:=Fe L;obtain ⟨s0,hs0⟩:∃s0:TS,s0=⟨(1,1),fun _=>0,skp L,many⟩:=⟨_,rfl⟩;rw [←hs0] at hX hT2;have hq0:CW s0.c∧By (1+(L.length-s0.L.length)) s0.c∧s0.L.length≤L.length∧∀i,s0.o i≤1000*(L.length-s0.L.length):=by
   rw [hs0];exact ⟨hcw,hfew.mono qA,hsl,fun i=>Ba _⟩
  have hTR:Hid (Fl L many false=match Cr s0 with|none=>none|some t=>some (Pw (Qy t.o) t.c,t.L,t.many || I5 t.o)):=Ae (by rw [hs0];rfl);clear hs0 hcw hfew hsl hT0 hB1 hr1 hr2 hg2 hf1 hfr1 hfr2 hb1;go_loopw [7] (fun v7 wr=>∃(again:Bool) (st:TS),v7=.bool again∧Hid (Cr s0=Mw again st)∧Hid (Db wo wr R w1.heap.size (w1.heap.size+1) st)∧Hid (CW st.c∧By (1+(L.length-st.L.length)) st.c∧st.L.length≤L.length∧∀i,st.o i≤1000*(L.length-st.L.length))) (fun _ wr=>Tp wr R)
  case atStart=>exact ⟨true,s0,rfl,hX,Ae hT2,Ae hq0⟩
  case round =>
   clear hX hT2 hq0;obtain ⟨again,st,rfl,hX,hT,hQ⟩:=hrel;have hlen:st.L.length<1000000000:=by have:=hQ.out.2.2.1;omega
   cases hs:Fk st.L
   ·exact qAf
   ·obtain ⟨b,r,hLst⟩:∃b r,st.L=b::r:=by
     cases hl:st.L with
     | nil=>rw [hl] at hs;cases hs
     | cons b r=>exact ⟨b,r,rfl⟩
    have hX1:Hid (Cr s0=Cr st):=Ae (by rw [hX.out];unfold Mw;rw [hs];cases again<;>rfl);clear hX;have hbeg:=fun (W:World) (hr:Cm W R st.L st.many)=>N7 W R st.L st.many hr hlen
    simp only [hs] at hbeg;have hy:(⟨(b::r).toArray⟩:ByteArray)[0]'(by simp [ByteArray.size])=b:=by simp [ByteArray.getElem_eq_getElem_data]
    have hxt:=Ju b r;have hI:∀W:World,Θ 281 #[.string ⟨#[120,121,122,116]⟩,.int .u8 (b.toNat:Int)] W fun e w'=>e=.returned (.int .i64 (Lib.indexByte [120,121,122,116] b))∧w'=W:=fun W=>by
     exact qCt
    have hix:=Ny b;have hrl:r.length<1000000000:=by rw [hLst] at hlen;simp at hlen;omega
    have HS:=Ae hs;have HLN:=Ae hlen;clear hs hlen
    cases hlet:Ii b with
    | some i =>
     rw [hlet] at hix;simp only [hix] at hI;have hi4:=Vo hlet;cases again
     ·go_wp2_with (first|(go_at_call 280;refine (hbeg _ hT.out.rdr).mono ?_;rintro e w3 ⟨rfl,hb3⟩;have hT3:=hT.out.keep hb3;have r0:=hT3.rdr.c0;rw [hLst] at r0;have f0:=hT3.rdr.f0)|(go_at_call 280;refine (hbeg _ hT3.rdr).mono ?_;rintro e w4 ⟨rfl,hb4⟩;have hT4:=hT3.keep hb4;replace r0:=Bc hb4 r0;replace f0:=hT4.rdr.f0)|(go_at_call 222;refine (Dr _).mono ?_;rintro e wm ⟨rfl,rfl⟩)|(go_at_call 281;refine (hI _).mono ?_;rintro e wi ⟨rfl,rfl⟩));have hTr:=hT4.rd (Bf (o:=0) (.string ⟨r.toArray⟩) (Cp _ _)) (hT4.rdr.set0 r);exact qDs
     ·go_wp2_with (first|(go_at_call 280;refine (hbeg _ hT.out.rdr).mono ?_;rintro e w3 ⟨rfl,hb3⟩;have hT3:=hT.out.keep hb3;have r0:=hT3.rdr.c0;rw [hLst] at r0;have f0:=hT3.rdr.f0)|(go_at_call 222;refine (Dr _).mono ?_;rintro e wm ⟨rfl,rfl⟩)|(go_at_call 281;refine (hI _).mono ?_;rintro e wi ⟨rfl,rfl⟩));have hTr:=hT3.rd (Bf (o:=0) (.string ⟨r.toArray⟩) (Cp _ _)) (hT3.rdr.set0 r);exact qDs
    | none =>
     rw [hlet] at hix;simp only [hix] at hI;cases again
     ·go_wp2_with (first|(go_at_call 280;refine (hbeg _ hT.out.rdr).mono ?_;rintro e w3 ⟨rfl,hb3⟩;have hT3:=hT.out.keep hb3;have r0:=hT3.rdr.c0;rw [hLst] at r0;have f0:=hT3.rdr.f0)|(go_at_call 280;refine (hbeg _ hT3.rdr).mono ?_;rintro e w4 ⟨rfl,hb4⟩;have hT4:=hT3.keep hb4;replace r0:=Bc hb4 r0;replace f0:=hT4.rdr.f0)|(go_at_call 222;refine (Dr _).mono ?_;rintro e wm ⟨rfl,rfl⟩)|(go_at_call 281;refine (hI _).mono ?_;rintro e wi ⟨rfl,rfl⟩));have hTd:Db wo wi.drew R w1.heap.size (w1.heap.size+1) st:=hT4.keep ((Ac _ _).drew);obtain ⟨g5,a5,n5,c5,g6,a6,n6,c6,e0,e1,e2,e3,hf5,q1,q2,q3,q4,q5,q6,q7⟩:=hT4.fr;have hf5d:Bj wi.drew g5 a5 n5 c5 st.c.1 g6 a6 n6 c6 st.c.2:=hf5.keep ((Ac _ _).drew);have hm0:=Ae (Et hT.out.rdr);have hneC:some w1.heap.size≠some R:=by simp;omega
      have hrd:Cm wi.drew R (b::r) st.many:=hLst▸hTd.rdr;have hbl:(b::r).length<1000000000:=by rw [←hLst];exact HLN.out
      have e51:=hf5.top.rd.len;have e52:=hf5.low.rd.len;obtain ⟨i1,i2⟩:=hQ.out.2.1;have s1:n5≤1000000000:=by omega
      have s2:n6≤1000000000:=by omega
      have hLL:=hQ.out.2.2.1;clear r0 f0 hT3 hbeg hT e51 e52 i1 i2 hT4;exact qDq
     ·go_wp2_with (first|(go_at_call 280;refine (hbeg _ hT.out.rdr).mono ?_;rintro e w3 ⟨rfl,hb3⟩;have hT3:=hT.out.keep hb3;have r0:=hT3.rdr.c0;rw [hLst] at r0;have f0:=hT3.rdr.f0)|(go_at_call 222;refine (Dr _).mono ?_;rintro e wm ⟨rfl,rfl⟩)|(go_at_call 281;refine (hI _).mono ?_;rintro e wi ⟨rfl,rfl⟩));have hTd:Db wo wi.drew R w1.heap.size (w1.heap.size+1) st:=hT3.keep ((Ac _ _).drew);obtain ⟨g5,a5,n5,c5,g6,a6,n6,c6,e0,e1,e2,e3,hf5,q1,q2,q3,q4,q5,q6,q7⟩:=hT3.fr;have hf5d:Bj wi.drew g5 a5 n5 c5 st.c.1 g6 a6 n6 c6 st.c.2:=hf5.keep ((Ac _ _).drew);have hm0:=Ae (Et hT.out.rdr);have hneC:some w1.heap.size≠some R:=by simp;omega
      have hrd:Cm wi.drew R (b::r) st.many:=hLst▸hTd.rdr;have hbl:(b::r).length<1000000000:=by rw [←hLst];exact HLN.out
      have e51:=hf5.top.rd.len;have e52:=hf5.low.rd.len;obtain ⟨i1,i2⟩:=hQ.out.2.1;have s1:n5≤1000000000:=by omega
      have s2:n6≤1000000000:=by omega
      have hLL:=hQ.out.2.2.1;clear r0 f0 hT3 hbeg hT e51 e52 i1 i2;exact qDq
 ·go_enter Tryz.func220,Tryz.ntmps220;go_wp2_with fail;refine (Fh _ 1 qA qA).mono ?_;rintro e w1 ⟨g1,a1,n1,c1,g2,a2,n2,c2,rfl,hf1,hfr1,hfr2,hap,hb1⟩;have hz1:=hb1.size;have hr1:=h.keep hb1;have hb0:Below w1.heap.size w1 (w1.alloc (.cells #[.bool g1,.slice a1 n1 c1,.bool g2,.slice a2 n2 c2] 34)):=by go_grown
  go_wp2_with (first|(go_at_call 10;refine (Fh _ (-1) qA qA).mono ?_;rintro e wy ⟨gy1,ay1,ny1,cy1,gy2,ay2,ny2,cy2,rfl,hfy,hfry1,hfry2,hap,hby⟩;have c0:wy.cell? ⟨w1.heap.size,0,none⟩=some (.bool g1):=Bc hby qL;have c1':wy.cell? ⟨w1.heap.size,1,none⟩=some (.slice a1 n1 c1):=Bc hby qL;have c2':wy.cell? ⟨w1.heap.size,2,none⟩=some (.bool g2):=Bc hby qL;have c3:wy.cell? ⟨w1.heap.size,3,none⟩=some (.slice a2 n2 c2):=Bc hby qL;have hzy:=hby.size;simp only [go_sem] at hzy;have z0:wy.frozen? ⟨w1.heap.size,0,none⟩=false:=by rw [Cw hby qL];simp [go_sem];have z1:wy.frozen? ⟨w1.heap.size,1,none⟩=false:=by rw [Cw hby qL];simp [go_sem];have z2:wy.frozen? ⟨w1.heap.size,2,none⟩=false:=by rw [Cw hby qL];simp [go_sem];have z3:wy.frozen? ⟨w1.heap.size,3,none⟩=false:=by rw [Cw hby qL];simp [go_sem]));go_wp2_with fail;refine (Fh _ (-1) qA qA).mono ?_;rintro e wy ⟨gy1,ay1,ny1,cy1,gy2,ay2,ny2,cy2,rfl,hfy,hfry1,hfry2,hap,hby⟩;have hr2:Cm wy R L many:=(hr1.keep hb0).keep hby;have hgy:wo.grownBy wy (some R):=((Bx hb1 _).trans (Bx hb0 _)).trans (Bx hby _);have c0:wy.cell? ⟨w1.heap.size,0,none⟩=some (.bool g1):=Bc hby qL;have c1':wy.cell? ⟨w1.heap.size,1,none⟩=some (.slice a1 n1 c1):=Bc hby qL;have c2':wy.cell? ⟨w1.heap.size,2,none⟩=some (.bool g2):=Bc hby qL;have c3:wy.cell? ⟨w1.heap.size,3,none⟩=some (.slice a2 n2 c2):=Bc hby qL;have hzy:w1.heap.size+1≤wy.heap.size:=by have:=hby.size;simpa using this
  have z0:wy.frozen? ⟨w1.heap.size,0,none⟩=false:=by rw [Cw hby qL];simp [go_sem]
  have z1:wy.frozen? ⟨w1.heap.size,1,none⟩=false:=by rw [Cw hby qL];simp [go_sem]
  have z2:wy.frozen? ⟨w1.heap.size,2,none⟩=false:=by rw [Cw hby qL];simp [go_sem]
  have z3:wy.frozen? ⟨w1.heap.size,3,none⟩=false:=by rw [Cw hby qL];simp [go_sem]
  have ky1:Bg (w1.heap.size+1) wy ay1 cy1:=hfry1.mono qL;have ky2:Bg (w1.heap.size+1) wy ay2 cy2:=hfry2.mono qL;have hX0:=vR (wo:=wo) (c:=(-1,1)) c0 c1' c2' c3 hfy ky1 ky2 hap hz1;have hRne:w1.heap.size≠R:=by omega
  have hB1:Below ((((wy.setCell ⟨w1.heap.size,0,none⟩ (.bool gy1)).setCell ⟨w1.heap.size,1,none⟩ (.slice ay1 ny1 cy1)).setCell ⟨w1.heap.size,2,none⟩ (.bool gy2)).setCell ⟨w1.heap.size,3,none⟩ (.slice ay2 ny2 cy2)).heap.size ((((wy.setCell ⟨w1.heap.size,0,none⟩ (.bool gy1)).setCell ⟨w1.heap.size,1,none⟩ (.slice ay1 ny1 cy1)).setCell ⟨w1.heap.size,2,none⟩ (.bool gy2)).setCell ⟨w1.heap.size,3,none⟩ (.slice ay2 ny2 cy2)) (((((wy.setCell ⟨w1.heap.size,0,none⟩ (.bool gy1)).setCell ⟨w1.heap.size,1,none⟩ (.slice ay1 ny1 cy1)).setCell ⟨w1.heap.size,2,none⟩ (.bool gy2)).setCell ⟨w1.heap.size,3,none⟩ (.slice ay2 ny2 cy2)).alloc (.cells #[.int .i64 0,.int .i64 0,.int .i64 0,.int .i64 0] 326)):=by go_grown
  have hr3:=(((hr2.setOther (.bool gy1) (p:=⟨w1.heap.size,0,none⟩) hRne).setOther (.slice ay1 ny1 cy1) (p:=⟨w1.heap.size,1,none⟩) hRne).setOther (.bool gy2) (p:=⟨w1.heap.size,2,none⟩) hRne).setOther (.slice ay2 ny2 cy2) (p:=⟨w1.heap.size,3,none⟩) hRne;have hT0:Db wo (((((wy.setCell ⟨w1.heap.size,0,none⟩ (.bool gy1)).setCell ⟨w1.heap.size,1,none⟩ (.slice ay1 ny1 cy1)).setCell ⟨w1.heap.size,2,none⟩ (.bool gy2)).setCell ⟨w1.heap.size,3,none⟩ (.slice ay2 ny2 cy2)).alloc (.cells #[.int .i64 0,.int .i64 0,.int .i64 0,.int .i64 0] 326)) R w1.heap.size wy.heap.size ⟨(-1,1),fun _=>0,L,many⟩:=by
   refine ⟨hr3.keep hB1,hX0.keep hB1,fun i hi=>?_,fun i hi=>?_,fun i hi=>by simp [go_sem],?_,hRlt,hz1,by omega,by simp⟩
   ·match i,hi with
    | 0,_=>exact (Cw hB1 qJ).trans (by rw [←z0];simp [go_sem])
    | 1,_=>exact (Cw hB1 qJ).trans (by rw [←z1];simp [go_sem])
    | 2,_=>exact (Cw hB1 qJ).trans (by rw [←z2];simp [go_sem])
    | 3,_=>exact (Cw hB1 qJ).trans (by rw [←z3];simp [go_sem])
   ·match i,hi with
    | 0,_=>simp [go_sem]
    | 1,_=>simp [go_sem]
    | 2,_=>simp [go_sem]
    | 3,_=>simp [go_sem]
   ·exact (Ce _ (Ce _ (Ce _ (Ce _ hgy hz1) hz1) hz1) hz1).trans (Bx hB1 _)
  go_wp2_with (first|(go_at_call 219;refine (Qh _ R L many hT0.rdr qA).mono ?_;rintro e w2 ⟨rfl,hr2,hg2⟩));have hT2:=hT0.rd hg2 hr2;have hX:=Ae (show Cr ⟨(-1,1),fun _=>0,skp L,many⟩=Mw true ⟨(-1,1),fun _=>0,skp L,many⟩ from rfl);have hcw:=dS true;have hfew:=Wr true;have hsl:=Fe L;obtain ⟨s0,hs0⟩:∃s0:TS,s0=⟨(-1,1),fun _=>0,skp L,many⟩:=⟨_,rfl⟩;rw [←hs0] at hX hT2;have hq0:CW s0.c∧By (1+(L.length-s0.L.length)) s0.c∧s0.L.length≤L.length∧∀i,s0.o i≤1000*(L.length-s0.L.length):=by
   rw [hs0];exact ⟨hcw,hfew.mono qA,hsl,fun i=>Ba _⟩
  have hTR:Hid (Fl L many true=match Cr s0 with|none=>none|some t=>some (Pw (Qy t.o) t.c,t.L,t.many || I5 t.o)):=Ae (by rw [hs0];rfl);clear hs0 hcw hfew hsl hT0 hB1 hr1 hr2 hg2 hf1 hfr1 hfr2 hb1 hfy hfry1 hfry2 hby hX0 hb0 hr3 hgy c0 c1' c2' c3 z0 z1 z2 z3;go_loopw [7] (fun v7 wr=>∃(again:Bool) (st:TS),v7=.bool again∧Hid (Cr s0=Mw again st)∧Hid (Db wo wr R w1.heap.size wy.heap.size st)∧Hid (CW st.c∧By (1+(L.length-st.L.length)) st.c∧st.L.length≤L.length∧∀i,st.o i≤1000*(L.length-st.L.length))) (fun _ wr=>Tp wr R)
  case atStart=>exact ⟨true,s0,rfl,hX,Ae hT2,Ae hq0⟩
  case round =>
   clear hX hT2 hq0;obtain ⟨again,st,rfl,hX,hT,hQ⟩:=hrel;have hlen:st.L.length<1000000000:=by have:=hQ.out.2.2.1;omega
   cases hs:Fk st.L
   ·exact qAf
   ·obtain ⟨b,r,hLst⟩:∃b r,st.L=b::r:=by
     cases hl:st.L with
     | nil=>rw [hl] at hs;cases hs
     | cons b r=>exact ⟨b,r,rfl⟩
    have hX1:Hid (Cr s0=Cr st):=Ae (by rw [hX.out];unfold Mw;rw [hs];cases again<;>rfl);clear hX;have hbeg:=fun (W:World) (hr:Cm W R st.L st.many)=>N7 W R st.L st.many hr hlen
    simp only [hs] at hbeg;have hy:(⟨(b::r).toArray⟩:ByteArray)[0]'(by simp [ByteArray.size])=b:=by simp [ByteArray.getElem_eq_getElem_data]
    have hxt:=Ju b r;have hI:∀W:World,Θ 281 #[.string ⟨#[120,121,122,116]⟩,.int .u8 (b.toNat:Int)] W fun e w'=>e=.returned (.int .i64 (Lib.indexByte [120,121,122,116] b))∧w'=W:=fun W=>by
     exact qCt
    have hix:=Ny b;have hrl:r.length<1000000000:=by rw [hLst] at hlen;simp at hlen;omega
    have HS:=Ae hs;have HLN:=Ae hlen;clear hs hlen
    cases hlet:Ii b with
    | some i =>
     rw [hlet] at hix;simp only [hix] at hI;have hi4:=Vo hlet;cases again
     ·go_wp2_with (first|(go_at_call 280;refine (hbeg _ hT.out.rdr).mono ?_;rintro e w3 ⟨rfl,hb3⟩;have hT3:=hT.out.keep hb3;have r0:=hT3.rdr.c0;rw [hLst] at r0;have f0:=hT3.rdr.f0)|(go_at_call 280;refine (hbeg _ hT3.rdr).mono ?_;rintro e w4 ⟨rfl,hb4⟩;have hT4:=hT3.keep hb4;replace r0:=Bc hb4 r0;replace f0:=hT4.rdr.f0)|(go_at_call 222;refine (Dr _).mono ?_;rintro e wm ⟨rfl,rfl⟩)|(go_at_call 281;refine (hI _).mono ?_;rintro e wi ⟨rfl,rfl⟩));have hTr:=hT4.rd (Bf (o:=0) (.string ⟨r.toArray⟩) (Cp _ _)) (hT4.rdr.set0 r);exact qDt
     ·go_wp2_with (first|(go_at_call 280;refine (hbeg _ hT.out.rdr).mono ?_;rintro e w3 ⟨rfl,hb3⟩;have hT3:=hT.out.keep hb3;have r0:=hT3.rdr.c0;rw [hLst] at r0;have f0:=hT3.rdr.f0)|(go_at_call 222;refine (Dr _).mono ?_;rintro e wm ⟨rfl,rfl⟩)|(go_at_call 281;refine (hI _).mono ?_;rintro e wi ⟨rfl,rfl⟩));have hTr:=hT3.rd (Bf (o:=0) (.string ⟨r.toArray⟩) (Cp _ _)) (hT3.rdr.set0 r);exact qDt
    | none =>
     rw [hlet] at hix;simp only [hix] at hI;cases again
     ·go_wp2_with (first|(go_at_call 280;refine (hbeg _ hT.out.rdr).mono ?_;rintro e w3 ⟨rfl,hb3⟩;have hT3:=hT.out.keep hb3;have r0:=hT3.rdr.c0;rw [hLst] at r0;have f0:=hT3.rdr.f0)|(go_at_call 280;refine (hbeg _ hT3.rdr).mono ?_;rintro e w4 ⟨rfl,hb4⟩;have hT4:=hT3.keep hb4;replace r0:=Bc hb4 r0;replace f0:=hT4.rdr.f0)|(go_at_call 222;refine (Dr _).mono ?_;rintro e wm ⟨rfl,rfl⟩)|(go_at_call 281;refine (hI _).mono ?_;rintro e wi ⟨rfl,rfl⟩));have hTd:Db wo wi.drew R w1.heap.size wy.heap.size st:=hT4.keep ((Ac _ _).drew);obtain ⟨g5,a5,n5,c5,g6,a6,n6,c6,e0,e1,e2,e3,hf5,q1,q2,q3,q4,q5,q6,q7⟩:=hT4.fr;have hf5d:Bj wi.drew g5 a5 n5 c5 st.c.1 g6 a6 n6 c6 st.c.2:=hf5.keep ((Ac _ _).drew);have hm0:=Ae (Et hT.out.rdr);have hneC:some w1.heap.size≠some R:=by simp;omega
      have hrd:Cm wi.drew R (b::r) st.many:=hLst▸hTd.rdr;have hbl:(b::r).length<1000000000:=by rw [←hLst];exact HLN.out
      have e51:=hf5.top.rd.len;have e52:=hf5.low.rd.len;obtain ⟨i1,i2⟩:=hQ.out.2.1;have s1:n5≤1000000000:=by omega
      have s2:n6≤1000000000:=by omega
      have hLL:=hQ.out.2.2.1;clear r0 f0 hT3 hbeg hT e51 e52 i1 i2 hT4;exact qDr
     ·go_wp2_with (first|(go_at_call 280;refine (hbeg _ hT.out.rdr).mono ?_;rintro e w3 ⟨rfl,hb3⟩;have hT3:=hT.out.keep hb3;have r0:=hT3.rdr.c0;rw [hLst] at r0;have f0:=hT3.rdr.f0)|(go_at_call 222;refine (Dr _).mono ?_;rintro e wm ⟨rfl,rfl⟩)|(go_at_call 281;refine (hI _).mono ?_;rintro e wi ⟨rfl,rfl⟩));have hTd:Db wo wi.drew R w1.heap.size wy.heap.size st:=hT3.keep ((Ac _ _).drew);obtain ⟨g5,a5,n5,c5,g6,a6,n6,c6,e0,e1,e2,e3,hf5,q1,q2,q3,q4,q5,q6,q7⟩:=hT3.fr;have hf5d:Bj wi.drew g5 a5 n5 c5 st.c.1 g6 a6 n6 c6 st.c.2:=hf5.keep ((Ac _ _).drew);have hm0:=Ae (Et hT.out.rdr);have hneC:some w1.heap.size≠some R:=by simp;omega
      have hrd:Cm wi.drew R (b::r) st.many:=hLst▸hTd.rdr;have hbl:(b::r).length<1000000000:=by rw [←hLst];exact HLN.out
      have e51:=hf5.top.rd.len;have e52:=hf5.low.rd.len;obtain ⟨i1,i2⟩:=hQ.out.2.1;have s1:n5≤1000000000:=by omega
      have s2:n6≤1000000000:=by omega
      have hLL:=hQ.out.2.2.1;clear r0 f0 hT3 hbeg hT e51 e52 i1 i2;exact qDr
end Go.Proofs.YtnnhcbeiogaknaaGreatDoor
end
