/- The reader of the shipped package: term. -/
import Derived.Test.YtfijkfdfbnfmmaaGreatDoorQF26
set_option linter.unusedSimpArgs false
set_option linter.unusedVariables false
set_option maxRecDepth 100000
set_option maxHeartbeats 4000000
section
namespace Go.Proofs.YtfijkfdfbnfmmaaGreatDoor
open Go.RowKit Proofs.Tryz
variable (o:Nat→Nat) (W:World) {g5 g6 g1 g2:Bool} {L:List UInt8} {R i TB n5 c5 n6 c6 n1 c1 n2 c2:Nat} {w w':World} {a5 a6 a1 a2:Γ}
def Ma (w:World) (R:Nat) (x:Option (Δ×List UInt8×Bool)) (e:Ending) (w':World):Prop :=
 w.grownBy w' (some R)∧match x with|none=>e=.panicked Lb|some (l,r,m)=>∃a n c,e=.returned (.slice a n c)∧Be w' w a n c l∧Ca w' w a n c∧Cl w' R r m
theorem Ma.no (h:w.grownBy w' (some R)):Ma w R none (.panicked Lb) w':=⟨h,rfl⟩
theorem pZ (w:World) (g1:Bool) (a1:Γ) (n1 c1:Nat) (g2:Bool) (a2:Γ) (n2 c2:Nat) (x:PC) (h:Bo w g1 a1 n1 c1 x.1 g2 a2 n2 c2 x.2) (B:Nat) (v:Value) (y:PC) (hv:xH w B v y) (br:n1≤1000000000) (bp:n2≤1000000000) (hy:Ch 1000000000 y) :
  Θ 94 #[frV g1 a1 n1 c1 g2 a2 n2 c2,v] w (G5 w (Ct x y).1 (Ct x y).2):=by
 rcases hv with ⟨g3,a3,n3,c3,g4,a4,n4,c4,rfl,hf,_,_⟩|⟨rfl,rfl⟩
 ·have e3:=hf.top.rd.len;have e4:=hf.low.rd.len;obtain ⟨i1,i2⟩:=hy;exact Qx w _ _ _ _ _ _ _ _ _ _ h _ _ _ _ _ _ _ _ _ _ hf br bp qB qB
 ·exact sD w _ _ _ _ _ _ _ _ _ _ h _ _ _ _ 0 _ _ _ _ 1 1 (fun W hW=>Aax w W false _ _ _ [] (Yv _) false _ _ _ [] (Yv _) qB qB (fun h=>h.2.2.2.1 rfl)) br bp qB
def N9 (again:Bool) (st:TS):Option TS:=if again || Gb st.L then Cp st else some st
theorem O8 (b:UInt8):Lib.indexByte [120,121,122,116] b=(match Iy b with|some i=>(i:Int)|none=>-1):=by
 have h:∀n:Fin 256,Lib.indexByte [120,121,122,116] (UInt8.ofNat n)=(match Iy (UInt8.ofNat n) with|some i=>(i:Int)|none=>-1):=qI;have:=h ⟨b.toNat,b.toNat_lt⟩;simpa only [UInt8.ofNat_toNat] using this
theorem Wi {b:UInt8} (h:Iy b=some i):i<4:=by
 unfold Iy at h
 split at h
 ·cases h;omega
 ·split at h
  ·cases h;omega
  ·split at h
   ·cases h;omega
   ·split at h
    ·cases h;omega
    ·cases h
theorem oG (a b c d:Int) :
  (Instr.index 278 (.agg #[M a,M b,M c,M d]) (M 0)).run prog W=.ok (M a) W ∧
  (Instr.index 278 (.agg #[M a,M b,M c,M d]) (M 1)).run prog W=.ok (M b) W ∧
  (Instr.index 278 (.agg #[M a,M b,M c,M d]) (M 2)).run prog W=.ok (M c) W ∧
  (Instr.index 278 (.agg #[M a,M b,M c,M d]) (M 3)).run prog W=.ok (M d) W :=
 ⟨qE,qE,qE,qE⟩
def Nv (o:Nat→Nat):Nat→Bool
 | 0=>false
 | k+1=>Nv o k || decide (65535<o k)
theorem eA:Nv o 4=J0 o:=by simp [Nv,J0]
def tv (o:Nat→Nat) (i k:Nat):Nat:=if k<i then Jp (o k) else 0
theorem iO (i k:Nat):tv o i k<65536:=by unfold tv Jp;split<;>omega
theorem yL:Bv (tv o 4 0) (tv o 4 1) (tv o 4 2) (tv o 4 3)=Sc o:=by simp [tv,Sc]
theorem lH (o:Nat→Nat) (i:Nat) (hi:i<4):(Instr.index 278 (.agg #[M (o 0:Nat),M (o 1:Nat),M (o 2:Nat),M (o 3:Nat)]) (M (i:Nat))).run prog W=.ok (M (o i:Nat)) W:=by
 obtain ⟨h0,h1,h2,h3⟩:=oG W (o 0:Nat) (o 1:Nat) (o 2:Nat) (o 3:Nat)
 match i,hi with
 | 0,_=>exact h0
 | 1,_=>exact h1
 | 2,_=>exact h2
 | 3,_=>exact h3
structure Rs (w:World) (TB:Nat) (g5:Bool) (a5:Γ) (n5 c5:Nat) (g6:Bool) (a6:Γ) (n6 c6:Nat) (o:Nat→Nat) (i:Nat):Prop where
 e0:Z w TB 0 (.bool g5)
 e1:Z w TB 1 (.slice a5 n5 c5)
 e2:Z w TB 2 (.bool g6)
 e3:Z w TB 3 (.slice a6 n6 c6)
 m:∀k,k<4→Z w TB (4+k) (U (tv o i k:Nat))
 f:∀k,Y w TB k
theorem Rs.butR {o:Nat→Nat} (h:Rs w TB g5 a5 n5 c5 g6 a6 n6 c6 o i) (hg:w.grownBy w' (some R)) (di:TB≠R):Rs w' TB g5 a5 n5 c5 g6 a6 n6 c6 o i:=by
 have hn:∀k,some (J TB k:Addr).block≠some R:=fun k=>by simpa using di
 have bj:TB<w.heap.size:=Aa _ _ h.e0;exact ⟨hg.cell h.e0 (hn 0),hg.cell h.e1 (hn 1),hg.cell h.e2 (hn 2),hg.cell h.e3 (hn 3),fun k hk=>hg.cell (h.m k hk) (hn _),fun k=>(B7 hg bj (by simpa using di)).trans (h.f k)⟩
theorem Rs.next {o:Nat→Nat} (h:Rs w TB g5 a5 n5 c5 g6 a6 n6 c6 o i) (hi:i<4):Rs (w.setCell (J TB (4+i)) (U (Jp (o i):Nat))) TB g5 a5 n5 c5 g6 a6 n6 c6 o (i+1):=by
 have ho:∀j v,j≠4+i→Z w TB j v→Z (w.setCell (J TB (4+i)) (U (Jp (o i):Nat))) TB j v:=fun j v hj hv=>by
  rw [←hv];exact World.cell?_setCell_other (w:=w) (a:=⟨TB,4+i,none⟩) (b:=⟨TB,j,none⟩) _ (by intro e;injection e with e1 e2;exact hj e2.symm)
 refine ⟨ho 0 _ qB h.e0,ho 1 _ qB h.e1,ho 2 _ qB h.e2,ho 3 _ qB h.e3,fun k hk=>?_,fun k=>by rw [←h.f k];simp [go_sem]⟩;by_cases e:k=i
 ·subst e;have:=h.m k hk;have hx:tv o (k+1) k=Jp (o k):=by simp [tv]
  rw [hx];simp [*,go_sem]
 ·have hx:tv o (i+1) k=tv o i k:=by
   unfold tv;by_cases h1:k<i
   ·rw [if_pos qB,if_pos h1]
   ·rw [if_neg qB,if_neg h1]
  rw [hx];exact ho _ _ qB (h.m k hk)
theorem kG (w:World) (C:Array Value) (e:TypeId):(w.alloc (.cells C e)).heap[w.heap.size]? = some (.cells C e (0,0)):=by
 show (w.heap.push _)[w.heap.size]? = _;simp
theorem pR {B b:Nat} {c:PC} (h:Bo w g1 a1 n1 c1 c.1 g2 a2 n2 c2 c.2) (k1:Bc B w a1 c1) (k2:Bc B w a2 c2) (gw:Ap2 a1 c1 a2 c2) {m0 m1 m2 m3:Nat} (h0:m0<65536) (h1:m1<65536) (h2:m2<65536) (h3:m3<65536)
  (hb:B≤b) (je:∃cur,w.heap[b]? = some (.cells cur 58 (0,0))∧8≤cur.size) (ht:Nr w b 0 ⟨g1,a1,n1,c1,dg c.1.natAbs,g2,a2,n2,c2,dg c.2.natAbs,m0,m1,m2,m3⟩):Be w B (E b) 1 1 [(Bv m0 m1 m2 m3,c)]∧Ca w B (E b) 1 1:=by
 have ij:∀i,i<1→Nr w b (0+i*8) ⟨g1,a1,n1,c1,dg c.1.natAbs,g2,a2,n2,c2,dg c.2.natAbs,m0,m1,m2,m3⟩:=fun i hi=>by
  obtain rfl:i=0:=qB;exact ht
 have hR:RdP w (E b) 1 1 (fun _=>⟨g1,a1,n1,c1,dg c.1.natAbs,g2,a2,n2,c2,dg c.2.natAbs,m0,m1,m2,m3⟩):=⟨Ad _,qB,qB,fun i hi=>⟨h.top.rd,h.low.rd,h0,h1,h2,h3⟩,.inr ⟨b,0,rfl,ij⟩⟩;obtain ⟨cur,hc,hs⟩:=je;refine ⟨⟨rfl,.inr (fun x hx=>by cases hx;exact hb),fun h=>(by cases h),_,hR,fun i x hx=>?_⟩,.inr ⟨b,cur,rfl,hb,hc,qB⟩,_,fun _=>0,fun _=>0,hR,fun i j _ _ _=>qB,fun i _=>⟨k1,k2,gw,.inr fun _ _=>rfl,.inr fun _ _=>rfl⟩⟩
 cases i with
 | zero =>
  simp only [List.getElem?_cons_zero,Option.some.injEq] at hx;subst hx;exact ⟨⟨h.top.neg,rfl,h.low.neg,rfl,rfl⟩,k1.newA h.top.rd,k2.newA h.low.rd⟩
 | succ i=>simp at hx
theorem pG {st u:TS} (hQ:CW st.c∧Ch (1+(L.length-st.L.length)) st.c∧st.L.length≤L.length∧∀i,st.o i≤1000*(L.length-st.L.length)) (hF:Co st=some u) (L':List UInt8) (hL':L'.length≤u.L.length) :
  CW u.c∧Ch (1+(L.length-L'.length)) u.c∧L'.length≤L.length∧∀i,u.o i≤1000*(L.length-L'.length):=by
 obtain ⟨h1,h2,h3,h4⟩:=hQ;obtain ⟨g1,g2⟩:=Nu hF h1 h2;have g3:=fP hF h4;have g4:=D4 hF;exact ⟨g1,g2.mono qB,qB,fun i=>by have:=g3 i;omega⟩
def Ux (w:World) (R:Nat):Nat:=Xu ((w.cell? (J R 0)).getD undef)
theorem Ff {m:Bool} (h:Cl w R L m):Ux w R=L.length:=by
 unfold Ux;rw [h.c0];exact Lj L
theorem C8 {b:Nat} (hb:xp w w') (bj:b<w.heap.size):w'.frozen? ⟨b,i,none⟩=w.frozen? (J b i):=(Bg hb).2 b i bj
theorem uL {wo:World} {CB:Nat} {v0 v1 v2 v3:Value} (e0:Z w CB 0 v0) (e1:Z w CB 1 v1) (e2:Z w CB 2 v2) (e3:Z w CB 3 v3) {c:PC} (hf:Bo w g1 a1 n1 c1 c.1 g2 a2 n2 c2 c.2) (k1:Bc (CB+1) w a1 c1) (k2:Bc (CB+1) w a2 c2) (gw:Ap2 a1 c1 a2 c2) (hw:wo.heap.size≤CB) :
  Rz wo ((((w.setCell (J CB 0) (.bool g1)).setCell (J CB 1) (.slice a1 n1 c1)).setCell (J CB 2) (.bool g2)).setCell (J CB 3) (.slice a2 n2 c2)) CB w c:=by
 have hg:w.grownBy ((((w.setCell (J CB 0) (.bool g1)).setCell (J CB 1) (.slice a1 n1 c1)).setCell (J CB 2) (.bool g2)).setCell (J CB 3) (.slice a2 n2 c2)) (some CB):=Bm _ (Bm _ (Bm _ (Bm _ (Cn _ _))));exact ⟨g1,a1,n1,c1,g2,a2,n2,c2,qO,qO,qO,qO,hf.ap ((k1.apk qB).few hf.top.rd.cap) ((k2.apk qB).few hf.low.rd.cap) hg,(k1.off_ap (k1.apk qB) hg).mono qB,(k2.off_ap (k2.apk qB) hg).mono qB,k1.apk qB,k2.apk qB,k1.ap_of (Ad _),k2.ap_of (Ad _),gw⟩
theorem Ri (wo:World) (R:Nat) (L:List UInt8) (many neg:Bool) (h:Cl wo R L many) (hL:L.length<1000000) (hV:I3 wo) (hR:5<R) :
  Θ 205 #[.pointer (E R),.bool neg] wo (Ma wo R (Gc L many neg)):=by
 have x8:=h.lt;have ez:some 5≠some R:=qL;cases neg
 ·go_enter func205,ntmps205;go_wp2_with fail;refine (Nx _ 1 qB qB).mono ?_;rintro e w1 ⟨g1,a1,n1,c1,g2,a2,n2,c2,rfl,ln,lh,j6,gw,br⟩;have ed:=br.size;have lg:=h.keep br;have AF:xp w1 ((w1.alloc (.cells #[.bool g1,.slice a1 n1 c1,.bool g2,.slice a2 n2 c2] 53)).alloc (.cells #[M 0,M 0,M 0,M 0] 278)):=qD;have YT:Dx wo ((w1.alloc (.cells #[.bool g1,.slice a1 n1 c1,.bool g2,.slice a2 n2 c2] 53)).alloc (.cells #[M 0,M 0,M 0,M 0] 278)) R w1 (w1+1) ⟨(1,1),fun _=>0,L,many⟩:=by
   refine ⟨lg.keep AF,⟨g1,a1,n1,c1,g2,a2,n2,c2,qJ,qJ,qJ,qJ,ln.keep AF,lh.keep AF,j6.keep AF,lh.ap_of (Ad _),j6.ap_of (Ad _),lh.ap_of qB,j6.ap_of qB,gw⟩,fun i hi=>qJ,fun i hi=>?_,fun i hi=>qJ,(Bl br _).trans (Bl AF _),x8,ed,qB,qH⟩
   match i,hi with
   | 0,_=>simp [go_sem]
   | 1,_=>simp [go_sem]
   | 2,_=>simp [go_sem]
   | 3,_=>simp [go_sem]
  go_wp2_with (first|(go_at_call 204;refine (Rm _ R L many YT.rdr qB).mono ?_;rintro e w2 ⟨rfl,lf,js⟩));have YU:=YT.rd js lf;have hX:=Ae (show Cp ⟨(1,1),fun _=>0,skp L,many⟩=N9 true ⟨(1,1),fun _=>0,skp L,many⟩ from rfl);have IC:=fM false;have pg:=Xn false;have MA:=Fw L;obtain ⟨s0,BG⟩:∃s0:TS,s0=⟨(1,1),fun _=>0,skp L,many⟩:=⟨_,rfl⟩;rw [←BG] at hX YU;have VG:CW s0.c∧Ch (1+(L.length-s0.L.length)) s0.c∧s0.L.length≤L.length∧∀i,s0.o i≤1000*(L.length-s0.L.length):=by
   rw [BG];exact ⟨IC,pg.mono qB,MA,fun i=>Ba _⟩
  have RV:Hid (Gc L many false=match Cp s0 with|none=>none|some t=>some (Re (Sc t.o) t.c,t.L,t.many || J0 t.o)):=Ae (by rw [BG];rfl);clear BG IC pg MA YT AF lg lf js ln lh j6 br;go_loopw [7] (fun v7 wr=>∃(again:Bool) (st:TS),v7=.bool again∧Hid (Cp s0=N9 again st)∧Hid (Dx wo wr R w1 (w1+1) st)∧Hid (CW st.c∧Ch (1+(L.length-st.L.length)) st.c∧st.L.length≤L.length∧∀i,st.o i≤1000*(L.length-st.L.length))) (fun _ wr=>Ux wr R)
  case atStart=>exact ⟨true,s0,rfl,hX,Ae YU,Ae VG⟩
  case round =>
   clear hX YU VG;obtain ⟨again,st,rfl,hX,hT,hQ⟩:=hrel;have hlen:st.L.length<1000000000:=by have:=hQ.out.2.2.1;omega
   cases hs:Gb st.L
   ·exact qAd
   ·obtain ⟨b,r,jo⟩:∃b r,st.L=b::r:=by
     cases hl:st.L with
     | nil=>rw [hl] at hs;cases hs
     | cons b r=>exact ⟨b,r,rfl⟩
    have DP:Hid (Cp s0=Cp st):=Ae (by rw [hX.out];unfold N9;rw [hs];cases again<;>rfl);clear hX;have jq:=fun (W:World) (hr:Cl W R st.L st.many)=>Ph W R st.L st.many hr hlen
    simp only [hs] at jq;have hy:(⟨(b::r).toArray⟩:ByteArray)[0]'(by simp [ByteArray.size])=b:=by simp [ByteArray.getElem_eq_getElem_data]
    have hxt:=J9 b r;have hI:∀W:World,Θ 241 #[.string ⟨#[120,121,122,116]⟩,.int .u8 (b.toNat:Int)] W fun e w'=>e=.returned (M (Lib.indexByte [120,121,122,116] b))∧w'=W:=fun W=>qEa
    have IZ:=O8 b;have rp:r.length<1000000000:=by rw [jo] at hlen;simp at hlen;omega
    have HS:=Ae hs;have HLN:=Ae hlen;clear hs hlen
    cases si:Iy b with
    | some i =>
     rw [si] at IZ;simp only [IZ] at hI;have UE:=Wi si;cases again
     ·go_wp2_with (first|(go_at_call 240;refine (jq _ hT.out.rdr).mono ?_;rintro e w3 ⟨rfl,ea⟩;have jm:=hT.out.keep ea;have r0:=jm.rdr.c0;rw [jo] at r0;have f0:=jm.rdr.f0)|(go_at_call 240;refine (jq _ jm.rdr).mono ?_;rintro e w4 ⟨rfl,ec⟩;have CS:=jm.keep ec;replace r0:=Bb ec r0;replace f0:=CS.rdr.f0)|(go_at_call 207;refine (Eg _).mono ?_;rintro e wm ⟨rfl,rfl⟩)|(go_at_call 241;refine (hI _).mono ?_;rintro e wi ⟨rfl,rfl⟩));have IN:=CS.rd (Bm (o:=0) (.string ⟨r.toArray⟩) (Cn _ _)) (CS.rdr.set0 r);exact qFn
     ·go_wp2_with (first|(go_at_call 240;refine (jq _ hT.out.rdr).mono ?_;rintro e w3 ⟨rfl,ea⟩;have jm:=hT.out.keep ea;have r0:=jm.rdr.c0;rw [jo] at r0;have f0:=jm.rdr.f0)|(go_at_call 207;refine (Eg _).mono ?_;rintro e wm ⟨rfl,rfl⟩)|(go_at_call 241;refine (hI _).mono ?_;rintro e wi ⟨rfl,rfl⟩));have IN:=jm.rd (Bm (o:=0) (.string ⟨r.toArray⟩) (Cn _ _)) (jm.rdr.set0 r);exact qFn
    | none =>
     rw [si] at IZ;simp only [IZ] at hI;cases again
     ·go_wp2_with (first|(go_at_call 240;refine (jq _ hT.out.rdr).mono ?_;rintro e w3 ⟨rfl,ea⟩;have jm:=hT.out.keep ea;have r0:=jm.rdr.c0;rw [jo] at r0;have f0:=jm.rdr.f0)|(go_at_call 240;refine (jq _ jm.rdr).mono ?_;rintro e w4 ⟨rfl,ec⟩;have CS:=jm.keep ec;replace r0:=Bb ec r0;replace f0:=CS.rdr.f0)|(go_at_call 207;refine (Eg _).mono ?_;rintro e wm ⟨rfl,rfl⟩)|(go_at_call 241;refine (hI _).mono ?_;rintro e wi ⟨rfl,rfl⟩));have AG:Dx wo wi.drew R w1 (w1+1) st:=CS.keep ((Ac _ _).drew);obtain ⟨g5,a5,n5,c5,g6,a6,n6,c6,e0,e1,e2,e3,nh,q1,q2,q3,q4,q5,q6,q7⟩:=CS.fr;have JA:Bo wi.drew g5 a5 n5 c5 st.c.1 g6 a6 n6 c6 st.c.2:=nh.keep ((Ac _ _).drew);have AL:=Ae (Ff hT.out.rdr);have qo:some w1.heap.size≠some R:=qL;have jx:Cl wi.drew R (b::r) st.many:=jo▸AG.rdr;have rq:(b::r).length<1000000000:=by rw [←jo];exact HLN.out
      have RW:=nh.top.rd.len;have RX:=nh.low.rd.len;obtain ⟨i1,i2⟩:=hQ.out.2.1;have s1:n5≤1000000000:=qB;have s2:n6≤1000000000:=qB;have hLL:=hQ.out.2.2.1;clear r0 f0 jm jq hT RW RX i1 i2 CS;exact qFl
     ·go_wp2_with (first|(go_at_call 240;refine (jq _ hT.out.rdr).mono ?_;rintro e w3 ⟨rfl,ea⟩;have jm:=hT.out.keep ea;have r0:=jm.rdr.c0;rw [jo] at r0;have f0:=jm.rdr.f0)|(go_at_call 207;refine (Eg _).mono ?_;rintro e wm ⟨rfl,rfl⟩)|(go_at_call 241;refine (hI _).mono ?_;rintro e wi ⟨rfl,rfl⟩));have AG:Dx wo wi.drew R w1 (w1+1) st:=jm.keep ((Ac _ _).drew);obtain ⟨g5,a5,n5,c5,g6,a6,n6,c6,e0,e1,e2,e3,nh,q1,q2,q3,q4,q5,q6,q7⟩:=jm.fr;have JA:Bo wi.drew g5 a5 n5 c5 st.c.1 g6 a6 n6 c6 st.c.2:=nh.keep ((Ac _ _).drew);have AL:=Ae (Ff hT.out.rdr);have qo:some w1.heap.size≠some R:=qL;have jx:Cl wi.drew R (b::r) st.many:=jo▸AG.rdr;have rq:(b::r).length<1000000000:=by rw [←jo];exact HLN.out
      have RW:=nh.top.rd.len;have RX:=nh.low.rd.len;obtain ⟨i1,i2⟩:=hQ.out.2.1;have s1:n5≤1000000000:=qB;have s2:n6≤1000000000:=qB;have hLL:=hQ.out.2.2.1;clear r0 f0 jm jq hT RW RX i1 i2;exact qFl
 ·go_enter func205,ntmps205;go_wp2_with fail;refine (Nx _ 1 qB qB).mono ?_;rintro e w1 ⟨g1,a1,n1,c1,g2,a2,n2,c2,rfl,ln,lh,j6,gw,br⟩;have ed:=br.size;have lg:=h.keep br;have lz:xp w1 (w1.alloc (.cells #[.bool g1,.slice a1 n1 c1,.bool g2,.slice a2 n2 c2] 53)):=qD;go_wp2_with (first|(go_at_call 95;refine (Nx _ (-1) qB qB).mono ?_;rintro e wy ⟨gy1,YV,ny1,YW,gy2,YX,ny2,YY,rfl,sk,NC,ND,gw,ye⟩;have c0:Z wy w1 0 (.bool g1):=Bb ye qJ;have OX:Z wy w1 1 (.slice a1 n1 c1):=Bb ye qJ;have RP:Z wy w1 2 (.bool g2):=Bb ye qJ;have c3:Z wy w1 3 (.slice a2 n2 c2):=Bb ye qJ;have hzy:=ye.size;simp only [go_sem] at hzy;have z0:Y wy w1 0:=by rw [C8 ye qJ];simp [go_sem];have z1:Y wy w1 1:=by rw [C8 ye qJ];simp [go_sem];have z2:Y wy w1 2:=by rw [C8 ye qJ];simp [go_sem];have z3:Y wy w1 3:=by rw [C8 ye qJ];simp [go_sem]));go_wp2_with fail;refine (Nx _ (-1) qB qB).mono ?_;rintro e wy ⟨gy1,YV,ny1,YW,gy2,YX,ny2,YY,rfl,sk,NC,ND,gw,ye⟩;have lf:Cl wy R L many:=(lg.keep lz).keep ye;have CK:wo.grownBy wy (some R):=((Bl br _).trans (Bl lz _)).trans (Bl ye _);have c0:Z wy w1 0 (.bool g1):=Bb ye qJ;have OX:Z wy w1 1 (.slice a1 n1 c1):=Bb ye qJ;have RP:Z wy w1 2 (.bool g2):=Bb ye qJ;have c3:Z wy w1 3 (.slice a2 n2 c2):=Bb ye qJ;have hzy:w1.heap.size+1≤wy:=by have:=ye.size;simpa using this
  have z0:Y wy w1 0:=by rw [C8 ye qJ];simp [go_sem]
  have z1:Y wy w1 1:=by rw [C8 ye qJ];simp [go_sem]
  have z2:Y wy w1 2:=by rw [C8 ye qJ];simp [go_sem]
  have z3:Y wy w1 3:=by rw [C8 ye qJ];simp [go_sem]
  have ky1:Bc (w1+1) wy YV YW:=NC.mono qJ;have ky2:Bc (w1+1) wy YX YY:=ND.mono qJ;have YB:=uL (wo:=wo) (c:=(-1,1)) c0 OX RP c3 sk ky1 ky2 gw ed;have NF:w1.heap.size≠R:=qB;have AF:Below ((((wy.setCell (J w1 0) (.bool gy1)).setCell (J w1 1) (.slice YV ny1 YW)).setCell (J w1 2) (.bool gy2)).setCell (J w1 3) (.slice YX ny2 YY)).heap.size ((((wy.setCell (J w1 0) (.bool gy1)).setCell (J w1 1) (.slice YV ny1 YW)).setCell (J w1 2) (.bool gy2)).setCell (J w1 3) (.slice YX ny2 YY)) (((((wy.setCell (J w1 0) (.bool gy1)).setCell (J w1 1) (.slice YV ny1 YW)).setCell (J w1 2) (.bool gy2)).setCell (J w1 3) (.slice YX ny2 YY)).alloc (.cells #[M 0,M 0,M 0,M 0] 278)):=qD;have nc:=(((lf.setOther (.bool gy1) (p:=⟨w1,0,none⟩) NF).setOther (.slice YV ny1 YW) (p:=⟨w1,1,none⟩) NF).setOther (.bool gy2) (p:=⟨w1,2,none⟩) NF).setOther (.slice YX ny2 YY) (p:=⟨w1,3,none⟩) NF;have YT:Dx wo (((((wy.setCell (J w1 0) (.bool gy1)).setCell (J w1 1) (.slice YV ny1 YW)).setCell (J w1 2) (.bool gy2)).setCell (J w1 3) (.slice YX ny2 YY)).alloc (.cells #[M 0,M 0,M 0,M 0] 278)) R w1 wy ⟨(-1,1),fun _=>0,L,many⟩:=by
   refine ⟨nc.keep AF,YB.keep AF,fun i hi=>?_,fun i hi=>?_,fun i hi=>qJ,?_,x8,ed,qB,qH⟩
   ·match i,hi with
    | 0,_=>exact (C8 AF qL).trans (by rw [←z0];simp [go_sem])
    | 1,_=>exact (C8 AF qL).trans (by rw [←z1];simp [go_sem])
    | 2,_=>exact (C8 AF qL).trans (by rw [←z2];simp [go_sem])
    | 3,_=>exact (C8 AF qL).trans (by rw [←z3];simp [go_sem])
   ·match i,hi with
    | 0,_=>simp [go_sem]
    | 1,_=>simp [go_sem]
    | 2,_=>simp [go_sem]
    | 3,_=>simp [go_sem]
   ·exact (Ce _ (Ce _ (Ce _ (Ce _ CK ed) ed) ed) ed).trans (Bl AF _)
  go_wp2_with (first|(go_at_call 204;refine (Rm _ R L many YT.rdr qB).mono ?_;rintro e w2 ⟨rfl,lf,js⟩));have YU:=YT.rd js lf;have hX:=Ae (show Cp ⟨(-1,1),fun _=>0,skp L,many⟩=N9 true ⟨(-1,1),fun _=>0,skp L,many⟩ from rfl);have IC:=fM true;have pg:=Xn true;have MA:=Fw L;obtain ⟨s0,BG⟩:∃s0:TS,s0=⟨(-1,1),fun _=>0,skp L,many⟩:=⟨_,rfl⟩;rw [←BG] at hX YU;have VG:CW s0.c∧Ch (1+(L.length-s0.L.length)) s0.c∧s0.L.length≤L.length∧∀i,s0.o i≤1000*(L.length-s0.L.length):=by
   rw [BG];exact ⟨IC,pg.mono qB,MA,fun i=>Ba _⟩
  have RV:Hid (Gc L many true=match Cp s0 with|none=>none|some t=>some (Re (Sc t.o) t.c,t.L,t.many || J0 t.o)):=Ae (by rw [BG];rfl);clear BG IC pg MA YT AF lg lf js ln lh j6 br sk NC ND ye YB lz nc CK c0 OX RP c3 z0 z1 z2 z3;go_loopw [7] (fun v7 wr=>∃(again:Bool) (st:TS),v7=.bool again∧Hid (Cp s0=N9 again st)∧Hid (Dx wo wr R w1 wy st)∧Hid (CW st.c∧Ch (1+(L.length-st.L.length)) st.c∧st.L.length≤L.length∧∀i,st.o i≤1000*(L.length-st.L.length))) (fun _ wr=>Ux wr R)
  case atStart=>exact ⟨true,s0,rfl,hX,Ae YU,Ae VG⟩
  case round =>
   clear hX YU VG;obtain ⟨again,st,rfl,hX,hT,hQ⟩:=hrel;have hlen:st.L.length<1000000000:=by have:=hQ.out.2.2.1;omega
   cases hs:Gb st.L
   ·exact qAd
   ·obtain ⟨b,r,jo⟩:∃b r,st.L=b::r:=by
     cases hl:st.L with
     | nil=>rw [hl] at hs;cases hs
     | cons b r=>exact ⟨b,r,rfl⟩
    have DP:Hid (Cp s0=Cp st):=Ae (by rw [hX.out];unfold N9;rw [hs];cases again<;>rfl);clear hX;have jq:=fun (W:World) (hr:Cl W R st.L st.many)=>Ph W R st.L st.many hr hlen
    simp only [hs] at jq;have hy:(⟨(b::r).toArray⟩:ByteArray)[0]'(by simp [ByteArray.size])=b:=by simp [ByteArray.getElem_eq_getElem_data]
    have hxt:=J9 b r;have hI:∀W:World,Θ 241 #[.string ⟨#[120,121,122,116]⟩,.int .u8 (b.toNat:Int)] W fun e w'=>e=.returned (M (Lib.indexByte [120,121,122,116] b))∧w'=W:=fun W=>qEa
    have IZ:=O8 b;have rp:r.length<1000000000:=by rw [jo] at hlen;simp at hlen;omega
    have HS:=Ae hs;have HLN:=Ae hlen;clear hs hlen
    cases si:Iy b with
    | some i =>
     rw [si] at IZ;simp only [IZ] at hI;have UE:=Wi si;cases again
     ·go_wp2_with (first|(go_at_call 240;refine (jq _ hT.out.rdr).mono ?_;rintro e w3 ⟨rfl,ea⟩;have jm:=hT.out.keep ea;have r0:=jm.rdr.c0;rw [jo] at r0;have f0:=jm.rdr.f0)|(go_at_call 240;refine (jq _ jm.rdr).mono ?_;rintro e w4 ⟨rfl,ec⟩;have CS:=jm.keep ec;replace r0:=Bb ec r0;replace f0:=CS.rdr.f0)|(go_at_call 207;refine (Eg _).mono ?_;rintro e wm ⟨rfl,rfl⟩)|(go_at_call 241;refine (hI _).mono ?_;rintro e wi ⟨rfl,rfl⟩));have IN:=CS.rd (Bm (o:=0) (.string ⟨r.toArray⟩) (Cn _ _)) (CS.rdr.set0 r);exact qFo
     ·go_wp2_with (first|(go_at_call 240;refine (jq _ hT.out.rdr).mono ?_;rintro e w3 ⟨rfl,ea⟩;have jm:=hT.out.keep ea;have r0:=jm.rdr.c0;rw [jo] at r0;have f0:=jm.rdr.f0)|(go_at_call 207;refine (Eg _).mono ?_;rintro e wm ⟨rfl,rfl⟩)|(go_at_call 241;refine (hI _).mono ?_;rintro e wi ⟨rfl,rfl⟩));have IN:=jm.rd (Bm (o:=0) (.string ⟨r.toArray⟩) (Cn _ _)) (jm.rdr.set0 r);exact qFo
    | none =>
     rw [si] at IZ;simp only [IZ] at hI;cases again
     ·go_wp2_with (first|(go_at_call 240;refine (jq _ hT.out.rdr).mono ?_;rintro e w3 ⟨rfl,ea⟩;have jm:=hT.out.keep ea;have r0:=jm.rdr.c0;rw [jo] at r0;have f0:=jm.rdr.f0)|(go_at_call 240;refine (jq _ jm.rdr).mono ?_;rintro e w4 ⟨rfl,ec⟩;have CS:=jm.keep ec;replace r0:=Bb ec r0;replace f0:=CS.rdr.f0)|(go_at_call 207;refine (Eg _).mono ?_;rintro e wm ⟨rfl,rfl⟩)|(go_at_call 241;refine (hI _).mono ?_;rintro e wi ⟨rfl,rfl⟩));have AG:Dx wo wi.drew R w1 wy st:=CS.keep ((Ac _ _).drew);obtain ⟨g5,a5,n5,c5,g6,a6,n6,c6,e0,e1,e2,e3,nh,q1,q2,q3,q4,q5,q6,q7⟩:=CS.fr;have JA:Bo wi.drew g5 a5 n5 c5 st.c.1 g6 a6 n6 c6 st.c.2:=nh.keep ((Ac _ _).drew);have AL:=Ae (Ff hT.out.rdr);have qo:some w1.heap.size≠some R:=qL;have jx:Cl wi.drew R (b::r) st.many:=jo▸AG.rdr;have rq:(b::r).length<1000000000:=by rw [←jo];exact HLN.out
      have RW:=nh.top.rd.len;have RX:=nh.low.rd.len;obtain ⟨i1,i2⟩:=hQ.out.2.1;have s1:n5≤1000000000:=qB;have s2:n6≤1000000000:=qB;have hLL:=hQ.out.2.2.1;clear r0 f0 jm jq hT RW RX i1 i2 CS;exact qFm
     ·go_wp2_with (first|(go_at_call 240;refine (jq _ hT.out.rdr).mono ?_;rintro e w3 ⟨rfl,ea⟩;have jm:=hT.out.keep ea;have r0:=jm.rdr.c0;rw [jo] at r0;have f0:=jm.rdr.f0)|(go_at_call 207;refine (Eg _).mono ?_;rintro e wm ⟨rfl,rfl⟩)|(go_at_call 241;refine (hI _).mono ?_;rintro e wi ⟨rfl,rfl⟩));have AG:Dx wo wi.drew R w1 wy st:=jm.keep ((Ac _ _).drew);obtain ⟨g5,a5,n5,c5,g6,a6,n6,c6,e0,e1,e2,e3,nh,q1,q2,q3,q4,q5,q6,q7⟩:=jm.fr;have JA:Bo wi.drew g5 a5 n5 c5 st.c.1 g6 a6 n6 c6 st.c.2:=nh.keep ((Ac _ _).drew);have AL:=Ae (Ff hT.out.rdr);have qo:some w1.heap.size≠some R:=qL;have jx:Cl wi.drew R (b::r) st.many:=jo▸AG.rdr;have rq:(b::r).length<1000000000:=by rw [←jo];exact HLN.out
      have RW:=nh.top.rd.len;have RX:=nh.low.rd.len;obtain ⟨i1,i2⟩:=hQ.out.2.1;have s1:n5≤1000000000:=qB;have s2:n6≤1000000000:=qB;have hLL:=hQ.out.2.2.1;clear r0 f0 jm jq hT RW RX i1 i2;exact qFm
end Go.Proofs.YtfijkfdfbnfmmaaGreatDoor
end
