/- The reader of the shipped package: begins, power, fraction. -/
import Derived.Test.YtfijkfdfbnfmmaaGreatDoorQF25
import Derived.Test.YtfijkfdfbnfmmaaGreatDoorQF16
set_option linter.unusedSimpArgs false
set_option linter.unusedVariables false
set_option maxRecDepth 100000
set_option maxHeartbeats 4000000
section
namespace Go.Proofs.YtfijkfdfbnfmmaaGreatDoor
open Go.RowKit Proofs.Tryz
variable (f:Nat→Int) {p:Addr} {m g1 g2:Bool} {R n c k n1 c1 n2 c2 B CB OB:Nat} {v:Value} {w w' w0:World} {a a1 a2:Γ} {out l:Δ} {d:Ξ}
theorem Yn (b:UInt8):decide (0≤Lib.indexByte [120,121,122,116,48,49,50,51,52,53,54,55,56,57] b)=Xs b:=by
 have h:∀n:Fin 256,decide (0≤Lib.indexByte [120,121,122,116,48,49,50,51,52,53,54,55,56,57] (UInt8.ofNat n))=Xs (UInt8.ofNat n):=qI;have:=h ⟨b.toNat,b.toNat_lt⟩;simpa only [UInt8.ofNat_toNat] using this
theorem Ph (w:World) (R:Nat) (L:List UInt8) (many:Bool) (h:Cl w R L many) (hL:L.length<1000000000) :
  Θ 240 #[.pointer (E R)] w fun e w'=>e=.returned (.bool (Gb L))∧xp w w':=by
 have h0:=h.c0
 cases L with
 | nil =>
  go_enter func240,ntmps240;go_wp2_with fail;exact bodyPost_ret (v:=.bool false) (by simp [results,results240,go_sem]) rfl ⟨rfl,Ac _ _⟩
 | cons b r =>
  have hy:(⟨(b::r).toArray⟩:ByteArray)[0]'(by simp [ByteArray.size])=b:=by simp [ByteArray.getElem_eq_getElem_data]
  have hI:∀W:World,Θ 241 #[.string ⟨#[120,121,122,116,48,49,50,51,52,53,54,55,56,57]⟩,.int .u8 (b.toNat:Int)] W fun e w'=>e=.returned (M (Lib.indexByte [120,121,122,116,48,49,50,51,52,53,54,55,56,57] b))∧w'=W:=fun W=>by
   have:=Tryz.strings_IndexByte ⟨#[120,121,122,116,48,49,50,51,52,53,54,55,56,57]⟩ (b.toNat:Int) W;have e:((b.toNat:Int).toNat.toUInt8)=b:=qH;rw [e] at this;exact this
  have hs:=Yn b;generalize Lib.indexByte [120,121,122,116,48,49,50,51,52,53,54,55,56,57] b=ix at *;have HS:=Ae hs;clear hs;go_enter func240,ntmps240;go_wp2_with (first|(go_at_call 241;refine (hI _).mono ?_;rintro e w1 ⟨rfl,rfl⟩));refine bodyPost_ret (v:=.bool (decide (0≤ix))) (by simp [results,results240,go_sem]) rfl ⟨?_,Ac _ _⟩;rw [HS.out];rfl
theorem Eb (w:World) (R:Nat) (L:List UInt8) (many:Bool) (c:Int) (h:Cl w R L many) (h1:0≤c) (h2:c<256) (hL:L.length<1000000000) :
  Θ 206 #[.pointer (E R),.int .u8 c] w fun e w'=>e=.returned (.bool (Cq L c))∧Cl w' R (if Cq L c then L.tail else L) many∧w.grownBy w' (some R):=by
 refine (jI w R L c h.c0 h.f0 h1 h2 hL).mono ?_;rintro e w' ⟨rfl,rfl⟩;refine ⟨rfl,?_,?_⟩
 ·split
  ·exact h.set0 _
  ·exact h
 ·split
  ·exact Bm _ (Cn _ _)
  ·exact Cn _ _
def I3 (w:World):Prop:=∃ev,Z w 5 0 ev∧(ev=.nilIface∨∃te pe,ev=.iface te pe)
theorem I3.grown {row:Option Nat} (h:I3 w) (hg:w.grownBy w' row) (hr:some 5≠row):I3 w':=by
 obtain ⟨ev,h1,h2⟩:=h;exact ⟨ev,hg.cell h1 hr,h2⟩
def Qf (w:World) (R:Nat) (x:Option (Nat×List UInt8×Bool)) (e:Ending) (w':World):Prop :=
 w.grownBy w' (some R)∧match x with|none=>e=.panicked Lb|some (n,r,m)=>e=.returned (M (n:Nat))∧Cl w' R r m
theorem Qf.no (h:w.grownBy w' (some R)):Qf w R none (.panicked Lb) w':=⟨h,rfl⟩
theorem Qf.yes {r:List UInt8} (h:w.grownBy w' (some R)) (hr:Cl w' R r m):Qf w R (some (n,r,m)) (.returned (M (n:Nat))) w':=⟨h,rfl,hr⟩
theorem V3 (h:w'=w∨∃t,w'=Lib.bytesWorld w 5 t):xp w w':=by
 rcases h with rfl|⟨t,rfl⟩
 ·exact Ac _ _
 ·exact Lib.bytesWorld_below _ _ _
theorem Xd (w:World) (R:Nat) (L:List UInt8) (many:Bool) (h:Cl w R L many) (hL:L.length<1000000000) (hV:I3 w) (hR:5<R) :
  Θ 242 #[.pointer (E R)] w (Qf w R (Ja L many)):=by
 have di:some 5≠some R:=qL;go_enter func242,ntmps242;go_wp2_with fail;refine (Eb _ R L many 94 h qB qB hL).mono ?_;rintro e w1 ⟨rfl,lg,oh⟩
 cases h94:Cq L 94
 ·rw [h94] at lg;have HX:=Ae (show Ja L many=some (1,L,many) by unfold Ja;rw [h94];rfl);go_wp2_with fail;refine bodyPost_ret (v:=M 1) (by simp [results,results242,go_sem]) rfl ?_;rw [HX.out];exact .yes oh lg
 ·rw [h94] at lg;simp only [if_true] at lg;have hV1:=hV.grown oh di;go_wp2_with fail;refine (U3 _ R L.tail many lg qL).mono ?_;rintro e w2 ⟨js,hp⟩;have ym:=oh.trans js
  cases hx:Ix L.tail many with
  | none =>
   rw [hx] at hp;subst hp;refine ⟨rfl,?_⟩;rw [show Ja L many=none by unfold Ja;rw [h94,hx];rfl];exact .no ym
  | some x =>
   obtain ⟨d,r,m⟩:=x;rw [hx] at hp;obtain ⟨rfl,hr⟩:=hp;have AT:=Gy (Qj hx).1;have CV:=J2 hx;have jn:=Z6 AT;have hV2:=hV1.grown js di;have atv:d.length<1000000000:=by simp at CV;omega
   have HX:=Ae (show Ja L many=if 1000<Ee d then some (0,r,true) else some (Ee d,r,m) by unfold Ja;rw [h94,hx];rfl);clear hx AT CV h94 hV hV1 hL;by_cases h63:Ee d<9223372036854775808
   ·rw [if_pos h63] at jn;have hA:=fun W=>Tryz.strconv_Atoi_ok ⟨d.toArray⟩ (by simp [ByteArray.size];omega) _ jn W
    clear jn;by_cases hm:1000<Ee d
    ·rw [if_pos hm] at HX;go_wp2_with (first|(go_at_call 275;refine (hA _).mono ?_;rintro e w3 ⟨rfl,eb⟩;replace eb:=V3 eb;have nc:=hr.keep eb;have k0:=nc.c0;have k1:=nc.c1;have l0:=nc.f0;have l1:=nc.f1));exact qDp
    ·rw [if_neg hm] at HX;go_wp2_with (first|(go_at_call 275;refine (hA _).mono ?_;rintro e w3 ⟨rfl,eb⟩;replace eb:=V3 eb;have nc:=hr.keep eb;have k0:=nc.c0;have k1:=nc.c1;have l0:=nc.f0;have l1:=nc.f1));refine bodyPost_ret (v:=M (Ee d:Nat)) (by simp [results,results242,go_sem]) rfl ?_;rw [HX.out];exact .yes (ym.trans (Bl eb _)) nc
   ·rw [if_neg h63] at jn;obtain ⟨ev,QI,WD⟩:=hV2;have hA:=Tryz.strconv_Atoi_range ⟨d.toArray⟩ (by simp [ByteArray.size];omega) jn ev w2 QI WD;rw [if_pos qB] at HX;clear jn;go_wp2_with (first|(go_at_call 275;refine hA.mono ?_;rintro e w3 ⟨N,rfl,hN,ea,eb⟩;clear ea hN;have nc:=hr.keep eb;have k0:=nc.c0;have k1:=nc.c1;have l0:=nc.f0;have l1:=nc.f1));exact qDp
def xH (w:World) (B:Nat) (v:Value) (c:PC):Prop:=Zf w B v c∨(v=frV false none 0 0 false none 0 0∧c=(0,1))
def Ub (w:World) (R:Nat) (x:Option (PC×List UInt8×Bool)) (e:Ending) (w':World):Prop :=
 w.grownBy w' (some R)∧match x with|none=>e=.panicked Lb|some (c,r,m)=>∃v,e=.returned v∧xH w' w v c∧Cl w' R r m
theorem Ub.no (h:w.grownBy w' (some R)):Ub w R none (.panicked Lb) w':=⟨h,rfl⟩
theorem B7 {row:Option Nat} {b i:Nat} (hg:w.grownBy w' row) (bj:b<w.heap.size) (di:some b≠row):w'.frozen? ⟨b,i,none⟩=w.frozen? (J b i) :=
 World.frozen?_of_block (a:=⟨b,i,none⟩) (hg.block b bj di)
theorem Ce {row:Option Nat} (v:Value) (h:w.grownBy w' row) (hp:w.heap.size≤p.block):w.grownBy (w'.setCell p v) row:=by
 have hb:Below p.block w' (w'.setCell p v):=(Ac p.block w').setCell (p:=p) (Ad _) v;exact ⟨hb.os.trans h.os,hb.tape.trans h.tape,hb.output.trans h.output,Ah h.size hb.size,fun k hk di=>(hb.block k qB).trans (h.block k hk di)⟩
theorem Kn {row:Option Nat} (o:Obj) (h:w.grownBy w' row):w.grownBy (w'.alloc o) row:=h.trans (World.grownBy_alloc w' o row)
theorem Cl.setOther {L:List UInt8} {many:Bool} (h:Cl w R L many) (v:Value) (hp:p.block≠R):Cl (w.setCell p v) R L many:=by
 have hh:∀i,(w.setCell p v).heap[(J R i:Addr).block]? = w.heap[(J R i:Addr).block]?:=fun i=>Below.heap_setCell w p v R (fun e=>hp e.symm)
 exact ⟨(Af (hh 0)).trans h.c0,(Af (hh 1)).trans h.c1,(World.frozen?_of_block (hh 0)).trans h.f0,(World.frozen?_of_block (hh 1)).trans h.f1⟩
theorem Cl.allocR {L:List UInt8} {many:Bool} (h:Cl w R L many) (o:Obj):Cl (w.alloc o) R L many:=h.keep ((Ac _ _).alloc (Ad _) o)
theorem Yw:Gd [49]=1:=qI
theorem Ol (w:World) (R:Nat) (L:List UInt8) (many:Bool) (h:Cl w R L many) (hL:L.length<1000000000) :
  Θ 243 #[.pointer (E R)] w (Ub w R (Fu L many)):=by
 have x8:=h.lt;have di:some w.heap.size≠some R:=qL;have W0:=World.grownBy_alloc w (.cells #[.bool false,.slice none 0 0,.bool false,.slice none 0 0] 53) (some R);have lz:xp w (w.alloc (.cells #[.bool false,.slice none 0 0,.bool false,.slice none 0 0] 53)):=qD;have d0:Z (w.alloc (.cells #[.bool false,.slice none 0 0,.bool false,.slice none 0 0] 53)) w 0 (.bool false):=qJ;have g0:Y (w.alloc (.cells #[.bool false,.slice none 0 0,.bool false,.slice none 0 0] 53)) w 0:=qJ;have d1:Z (w.alloc (.cells #[.bool false,.slice none 0 0,.bool false,.slice none 0 0] 53)) w 1 (.slice none 0 0):=qJ;have g1:Y (w.alloc (.cells #[.bool false,.slice none 0 0,.bool false,.slice none 0 0] 53)) w 1:=qJ;have d2:Z (w.alloc (.cells #[.bool false,.slice none 0 0,.bool false,.slice none 0 0] 53)) w 2 (.bool false):=qJ;have g2:Y (w.alloc (.cells #[.bool false,.slice none 0 0,.bool false,.slice none 0 0] 53)) w 2:=qJ;have d3:Z (w.alloc (.cells #[.bool false,.slice none 0 0,.bool false,.slice none 0 0] 53)) w 3 (.slice none 0 0):=qJ;have g3:Y (w.alloc (.cells #[.bool false,.slice none 0 0,.bool false,.slice none 0 0] 53)) w 3:=qJ;go_enter func243,ntmps243;go_wp2_with fail;refine (aH _ R L many (h.keep lz) hL).mono ?_;rintro e w1 ⟨oh,hp⟩;replace g0:=(B7 oh (Aa _ _ d0) di).trans g0;replace d0:=An oh d0 di;replace g1:=(B7 oh (Aa _ _ d1) di).trans g1;replace d1:=An oh d1 di;replace g2:=(B7 oh (Aa _ _ d2) di).trans g2;replace d2:=An oh d2 di;replace g3:=(B7 oh (Aa _ _ d3) di).trans g3;replace d3:=An oh d3 di;have AD:=W0.trans oh
 cases hx:K8 L many with
 | none =>
  rw [hx] at hp;subst hp;refine ⟨rfl,?_⟩;rw [show Fu L many=none by unfold Fu;rw [hx]];exact .no AD
 | some x =>
  obtain ⟨t,r,m⟩:=x;rw [hx] at hp;obtain ⟨rfl,lg⟩:=hp;have hdt:=Gy hx;have bj:=Ms hx;have NV:t.length<1000000000:=qB;have rp:r.length<1000000000:=qB;clear W0 lz oh;go_wp2_with fail;refine (Eb _ R r m 47 lg qB qB rp).mono ?_;rintro e w2 ⟨rfl,lf,js⟩;replace g0:=(B7 js (Aa _ _ d0) di).trans g0;replace d0:=An js d0 di;replace g1:=(B7 js (Aa _ _ d1) di).trans g1;replace d1:=An js d1 di;replace g2:=(B7 js (Aa _ _ d2) di).trans g2;replace d2:=An js d2 di;replace g3:=(B7 js (Aa _ _ d3) di).trans g3;replace d3:=An js d3 di;replace AD:=AD.trans js;clear lg js
  cases WE:Cq r 47
  ·rw [WE] at lf;simp only [Bool.false_eq_true,if_false] at lf;have HX:=Ae (show Fu L many=some (Ps (Gd t) (Gd [49]),r,m) by rw [Yw];unfold Fu;rw [hx];simp only;rw [WE];rfl);have JH:E3 [49]=true:=qI;have BF:([49]:List UInt8).length<1000000000:=qI;clear hx WE bj hL;have j5:=Jo JH;have hzt:=Jo hdt;go_wp2_with (first
    | (go_at_call 278;(with_reducible refine (Ic _ t hdt NV).mono ?_);rintro e w4 ⟨gt,at',nt,ct,kt,rfl,WG,ec⟩;replace ⟨d0,g0,d1,g1,d2,g2,d3,g3⟩:=xi ec d0 g0 d1 g1 d2 g2 d3 g3)
    | (go_at_call 278;(with_reducible refine (Ic _ [49] JH BF).mono ?_);rintro e w5 ⟨gl,al,nl,cl,kl,rfl,yg,dx⟩;have nb0:=Bb dx (by simp [go_sem]:World.cell? _ ⟨w4,0,none⟩=some (.bool gt));have nb1:=Bb dx (by simp [go_sem]:World.cell? _ ⟨w4,1,none⟩=some (.slice at' nt ct));have x9:=zP w4 dx;have amw:w4.heap.size<w5:=(by have:=dx.size;simp only [Aj] at this;omega);replace ⟨d0,g0,d1,g1,d2,g2,d3,g3⟩:=xi x9 d0 g0 d1 g1 d2 g2 d3 g3))
   have et:=WG.rd.len;have el:=yg.rd.len;simp only [Int.natAbs_natCast] at et el;have WH:=WG.keep x9;have yb:=(lf.keep ec).keep x9;have LN:=(AD.trans (Bl ec _)).trans (Bl x9 _);have DD:=LN.size;clear ec dx WG AD lf x9;by_cases h0:Gd [49]=0
   ·exact absurd h0 (by rw [Yw];decide)
   ·have WI:=Ae (show Ps (Gd t) (Gd [49])=(Fh (Gd t:Nat) (Gd [49]:Nat),E5 (Gd t:Nat) (Gd [49]:Nat)) by unfold Ps;rw [if_neg h0]);exact qAn
  ·rw [WE] at lf;simp only [if_true] at lf;go_wp2_with fail;refine (U3 _ R r.tail m lf qL).mono ?_;rintro e w3 ⟨vd,hp⟩;replace g0:=(B7 vd (Aa _ _ d0) di).trans g0;replace d0:=An vd d0 di;replace g1:=(B7 vd (Aa _ _ d1) di).trans g1;replace d1:=An vd d1 di;replace g2:=(B7 vd (Aa _ _ d2) di).trans g2;replace d2:=An vd d2 di;replace g3:=(B7 vd (Aa _ _ d3) di).trans g3;replace d3:=An vd d3 di;replace AD:=AD.trans vd
   cases hy:Ix r.tail m with
   | none =>
    rw [hy] at hp;subst hp;refine ⟨rfl,?_⟩;rw [show Fu L many=none by unfold Fu;rw [hx];simp only;rw [WE,hy];rfl];exact .no AD
   | some y =>
    obtain ⟨l,r',m'⟩:=y;rw [hy] at hp;obtain ⟨rfl,nc⟩:=hp;have CV:=Gy (Qj hy).1;have AN:=J2 hy;have WB:l.length<1000000000:=by simp at AN;omega
    have HX:=Ae (show Fu L many=some (Ps (Gd t) (Gd l),r',m') by unfold Fu;rw [hx];simp only;rw [WE,hy];rfl);clear hx hy WE bj hL lf vd AN;have j5:=Jo CV;have hzt:=Jo hdt;go_wp2_with (first
     | (go_at_call 278;(with_reducible refine (Ic _ t hdt NV).mono ?_);rintro e w4 ⟨gt,at',nt,ct,kt,rfl,WG,ec⟩;replace ⟨d0,g0,d1,g1,d2,g2,d3,g3⟩:=xi ec d0 g0 d1 g1 d2 g2 d3 g3)
     | (go_at_call 278;(with_reducible refine (Ic _ l CV WB).mono ?_);rintro e w5 ⟨gl,al,nl,cl,kl,rfl,yg,dx⟩;have nb0:=Bb dx (by simp [go_sem]:World.cell? _ ⟨w4,0,none⟩=some (.bool gt));have nb1:=Bb dx (by simp [go_sem]:World.cell? _ ⟨w4,1,none⟩=some (.slice at' nt ct));have x9:=zP w4 dx;have amw:w4.heap.size<w5:=(by have:=dx.size;simp only [Aj] at this;omega);replace ⟨d0,g0,d1,g1,d2,g2,d3,g3⟩:=xi x9 d0 g0 d1 g1 d2 g2 d3 g3))
    have et:=WG.rd.len;have el:=yg.rd.len;simp only [Int.natAbs_natCast] at et el;have WH:=WG.keep x9;have yb:=(nc.keep ec).keep x9;have LN:=(AD.trans (Bl ec _)).trans (Bl x9 _);have DD:=LN.size;clear ec dx WG AD nc x9;by_cases h0:Gd l=0
    ·have WI:=Ae (show Ps (Gd t) (Gd l)=(0,1) by unfold Ps;rw [if_pos h0]);rw [h0] at yg;go_wp2_with (first|(go_at_call 168;(with_reducible refine (jO _ _ _ _ _ _ (WH.keep qD) _ _ _ _ (yg.keep qD)).mono ?_);rintro e w6 ⟨rfl,ee⟩;have EF:=zP w5 ee;have amx:w5.heap.size<w6:=(by have:=ee.size;simp only [Aj] at this;omega);replace ⟨d0,g0,d1,g1,d2,g2,d3,g3⟩:=xi EF d0 g0 d1 g1 d2 g2 d3 g3;have hk6:w.heap.size<w6:=Aa _ _ d0));refine bodyPost_ret (v:=frV false none 0 0 false none 0 0) (by simp [*,results,results243,go_sem]) rfl ?_;rw [HX.out,WI.out];have um:=LN.trans (Bl EF _);have yo:w.heap.size≠R:=qB;have JP:=yb.keep EF;exact ⟨Kn _ (Ce _ (Ce _ (Ce _ (Ce _ um (Ad _)) (Ad _)) (Ad _)) (Ad _)),_,rfl,.inr ⟨rfl,rfl⟩,((((JP.setOther _ yo).setOther _ yo).setOther _ yo).setOther _ yo).allocR _⟩
    ·have WI:=Ae (show Ps (Gd t) (Gd l)=(Fh (Gd t:Nat) (Gd l:Nat),E5 (Gd t:Nat) (Gd l:Nat)) by unfold Ps;rw [if_neg h0]);exact qAn
def Ap (k n:Nat) (a:Γ):Prop:=n=0∨∀x,a=some x→x.block≠k
theorem RdL.ap (h:RdL w a n c d) (ha:Ap k n a) (hg:w.grownBy w' (some k)):RdL w' a n c d:=by
 refine ⟨h.len,h.cap,h.few,h.top,h.small,?_⟩;rcases h.cell with h0|⟨b,o,hb,hc⟩
 ·exact .inl h0
 ·rcases ha with h0|ha
  ·exact .inl h0
  ·exact .inr ⟨b,o,hb,fun i hi=>hg.cell (hc i hi) fun e=>ha _ hb (by simpa using e)⟩
theorem Bo.ap {p:Int} {q:Int} (h:Bo w g1 a1 n1 c1 p g2 a2 n2 c2 q) (h1:Ap k n1 a1) (h2:Ap k n2 a2) (hg:w.grownBy w' (some k)):Bo w' g1 a1 n1 c1 p g2 a2 n2 c2 q :=
 ⟨⟨h.top.neg,h.top.rd.ap h1 hg⟩,⟨h.low.neg,h.low.rd.ap h2 hg⟩,h.pos,h.red⟩
theorem Nw.ap (h:Nw B n a) (hk:k<B):Ap k n a:=h.imp id fun h x hx e=>by have:=h x hx;omega
theorem RdL.ap_of (h:RdL w a n c d) (hk:w.heap.size≤k):Ap k n a:=by
 rcases h.cell with h0|⟨b,o,hb,hc⟩
 ·exact .inl h0
 ·by_cases h0:n=0
  ·exact .inl h0
  ·right;intro x hx e;rw [hb] at hx;cases hx;have:=Aa _ _ (hc 0 qB);simp at this e;omega
theorem Ap.few (h:Ap k c a) (hn:n≤c):Ap k n a:=h.imp (fun h=>qB) id
theorem Bc.apk (h:Bc B w a c) (hk:k<B):Ap k c a:=by
 rcases h with h|⟨b,cur,h1,h2,_⟩
 ·exact .inl h
 ·exact .inr fun x hx e=>by rw [h1] at hx;cases hx;simp at e;omega
theorem Bc.ap_of (h:Bc B w a c) (hk:w.heap.size≤k):Ap k c a:=by
 rcases h with h|⟨b,cur,h1,h2,h3,_⟩
 ·exact .inl h
 ·exact .inr fun x hx e=>by rw [h1] at hx;cases hx;have:=(Ar.1 h3).1;simp at e;omega
theorem Bc.off_ap (h:Bc B w a c) (ha:Ap k c a) (hg:w.grownBy w' (some k)):Bc B w' a c:=by
 rcases h with h|⟨b,cur,h1,h2,h3,h4⟩
 ·exact .inl h
 ·rcases ha with ha|ha
  ·exact .inl ha
  ·exact .inr ⟨b,cur,h1,h2,by rw [hg.block b (Ar.1 h3).1 (fun e=>ha _ h1 (by simpa using e))];exact h3,h4⟩
def Rz (w0 w:World) (CB OB:Nat) (c:PC):Prop :=
 ∃g1 a1 n1 c1 g2 a2 n2 c2,Z w CB 0 (.bool g1)∧Z w CB 1 (.slice a1 n1 c1)∧Z w CB 2 (.bool g2)∧Z w CB 3 (.slice a2 n2 c2) ∧
  Bo w g1 a1 n1 c1 c.1 g2 a2 n2 c2 c.2∧Bc w0 w a1 c1∧Bc w0 w a2 c2∧Ap CB c1 a1∧Ap CB c2 a2∧Ap OB c1 a1∧Ap OB c2 a2∧Ap2 a1 c1 a2 c2
structure Dx (w0 w:World) (R CB OB:Nat) (st:TS):Prop where
 rdr:Cl w R st.L st.many
 fr:Rz w0 w CB OB st.c
 cf:∀i,i<4→Y w CB i
 oc:∀i,i<4→Z w OB i (M (st.o i:Nat))
 of:∀i,i<4→Y w OB i
 grown:w0.grownBy w (some R)
 h1:R<w0.heap.size
 h2:w0.heap.size≤CB
 h3:CB<OB
 h4:OB<w.heap.size
theorem Rz.grown {c:PC} (h:Rz w0 w CB OB c) (hg:w.grownBy w' (some R)) (hR:R<w0.heap.size) (hC:CB≠R):Rz w0 w' CB OB c:=by
 obtain ⟨g1,a1,n1,c1,g2,a2,n2,c2,e0,e1,e2,e3,hf,k1,k2,k3,k4,k5,k6,k7⟩:=h;have di:∀i,some (J CB i:Addr).block≠some R:=fun i=>by simpa using hC
 exact ⟨g1,a1,n1,c1,g2,a2,n2,c2,hg.cell e0 (di 0),hg.cell e1 (di 1),hg.cell e2 (di 2),hg.cell e3 (di 3),hf.butR (k1.newA hf.top.rd) (k2.newA hf.low.rd) hg (fun k hk=>by cases hk;exact hR),k1.butR hg (fun k hk=>by cases hk;exact hR),k2.butR hg (fun k hk=>by cases hk;exact hR),k3,k4,k5,k6,k7⟩
theorem Rz.keep {c:PC} (h:Rz w0 w CB OB c) (hb:xp w w'):Rz w0 w' CB OB c:=by
 obtain ⟨g1,a1,n1,c1,g2,a2,n2,c2,e0,e1,e2,e3,hf,k1,k2,k3,k4,k5,k6,k7⟩:=h;exact ⟨g1,a1,n1,c1,g2,a2,n2,c2,Bb hb e0,Bb hb e1,Bb hb e2,Bb hb e3,hf.keep hb,k1.keep hb,k2.keep hb,k3,k4,k5,k6,k7⟩
theorem Dx.rd {st:TS} (h:Dx w0 w R CB OB st) (hg:w.grownBy w' (some R)) {L:List UInt8} (hr:Cl w' R L m):Dx w0 w' R CB OB ⟨st.c,st.o,L,m⟩:=by
 have k1:=h.h1;have k2:=h.h2;have k3:=h.h3;have k4:=h.h4;have fb:=hg.size;refine ⟨hr,h.fr.grown hg h.h1 qB,fun i hi=>?_,fun i hi=>hg.cell (h.oc i hi) qL,fun i hi=>?_,h.grown.trans hg,h.h1,h.h2,h.h3,qB⟩
 ·exact (B7 hg qB qL).trans (h.cf i hi)
 ·exact (B7 hg qB qL).trans (h.of i hi)
theorem Dx.keep {st:TS} (h:Dx w0 w R CB OB st) (hb:xp w w'):Dx w0 w' R CB OB st:=by
 have k3:=h.h3;have k4:=h.h4;have fb:=hb.size;exact ⟨h.rdr.keep hb,h.fr.keep hb,fun i hi=>(Ab hb (by show CB<_;omega)).trans (h.cf i hi),fun i hi=>Bb hb (h.oc i hi),fun i hi=>(Ab hb (by show OB<_;omega)).trans (h.of i hi),h.grown.trans (Bl hb _),h.h1,h.h2,h.h3,qB⟩
theorem Dx.setO {st:TS} (h:Dx w0 w R CB OB st) (i:Nat) (hi:i<4) (n:Nat):Dx w0 (w.setCell (J OB i) (M (st.o i+n:Nat))) R CB OB ⟨st.c,Vf st.o i n,st.L,st.many⟩:=by
 have k1:=h.h1;have k2:=h.h2;have k3:=h.h3;have k4:=h.h4;have hg:w.grownBy (w.setCell (J OB i) (M (st.o i+n:Nat))) (some OB):=Bm _ (Cn _ _);obtain ⟨g1,a1,n1,c1,g2,a2,n2,c2,e0,e1,e2,e3,hf,q1,q2,q3,q4,q5,q6,q7⟩:=h.fr;have di:∀j,some (J CB j:Addr).block≠some OB:=fun j=>qL
 refine ⟨h.rdr.setOther _ (by show OB≠R;omega),⟨g1,a1,n1,c1,g2,a2,n2,c2,hg.cell e0 (di 0),hg.cell e1 (di 1),hg.cell e2 (di 2),hg.cell e3 (di 3),hf.ap (q5.few hf.top.rd.cap) (q6.few hf.low.rd.cap) hg,q1.off_ap q5 hg,q2.off_ap q6 hg,q3,q4,q5,q6,q7⟩,fun j hj=>?_,fun j hj=>?_,fun j hj=>?_,Ce _ h.grown (by show w0.heap.size≤OB;omega),h.h1,h.h2,h.h3,by simpa using h.h4⟩
 ·exact (B7 hg qB qL).trans (h.cf j hj)
 ·show World.cell? _ _=some (Value.int .i64 (Vf st.o i n j:Nat));unfold Vf;by_cases e:j=i
  ·subst e;rw [if_pos rfl];have:=h.oc j hi;simp [*,go_sem]
  ·rw [if_neg e,←h.oc j hj];exact World.cell?_setCell_other (w:=w) (a:=⟨OB,i,none⟩) (b:=⟨OB,j,none⟩) _ (by intro e';injection e' with e1' e2';exact e e2'.symm)
 ·rw [←h.of j hj];simp [go_sem]
theorem Dx.setC {st:TS} (h:Dx w0 w R CB OB st) {c:PC} (hf:Bo w g1 a1 n1 c1 c.1 g2 a2 n2 c2 c.2) (k1:Bc (OB+1) w a1 c1) (k2:Bc (OB+1) w a2 c2) (gw:Ap2 a1 c1 a2 c2) :
  Dx w0 ((((w.setCell (J CB 0) (.bool g1)).setCell (J CB 1) (.slice a1 n1 c1)).setCell (J CB 2) (.bool g2)).setCell (J CB 3) (.slice a2 n2 c2)) R CB OB ⟨c,st.o,st.L,st.many⟩:=by
 have q1:=h.h1;have q2:=h.h2;have q3:=h.h3;have q4:=h.h4;have hg:w.grownBy ((((w.setCell (J CB 0) (.bool g1)).setCell (J CB 1) (.slice a1 n1 c1)).setCell (J CB 2) (.bool g2)).setCell (J CB 3) (.slice a2 n2 c2)) (some CB):=Bm _ (Bm _ (Bm _ (Bm _ (Cn _ _))));obtain ⟨_,_,_,_,_,_,_,_,e0,e1,e2,e3,_⟩:=h.fr;have hCR:CB≠R:=qB;have cz:∀i,i<4→Y w CB i:=h.cf;refine ⟨(((h.rdr.setOther _ hCR).setOther _ hCR).setOther _ hCR).setOther _ hCR,⟨g1,a1,n1,c1,g2,a2,n2,c2,qO,qO,qO,qO,hf.ap ((k1.apk qB).few hf.top.rd.cap) ((k2.apk qB).few hf.low.rd.cap) hg,(k1.off_ap (k1.apk qB) hg).mono qB,(k2.off_ap (k2.apk qB) hg).mono qB,k1.apk qB,k2.apk qB,k1.apk qB,k2.apk qB,gw⟩,fun j hj=>?_,fun j hj=>hg.cell (h.oc j hj) qL,fun j hj=>(B7 hg qB qL).trans (h.of j hj),Ce _ (Ce _ (Ce _ (Ce _ h.grown h.h2) h.h2) h.h2) h.h2,h.h1,h.h2,h.h3,by simpa using h.h4⟩;rw [←h.cf j hj];simp [go_sem]
def ApT (k:Nat) (t:Tm):Prop:=Ap k t.n1 t.a1∧Ap k t.n2 t.a2
def NwT (B:Nat) (t:Tm):Prop:=Nw B t.n1 t.a1∧Nw B t.n2 t.a2
structure Et (w:World) (B:Nat) (v:Value) (s:Nat→Tm) (out:Δ):Prop where
 own:w.ownsRow B 58 8 v out.length (Cs s out.length)
 ts:∀i x,out[i]? = some x→Ey (s i) x∧Dg w (s i)∧NwT B (s i)∧∀gb,v.ownBlock=some gb→ApT gb (s i)
theorem Et.nil (w:World) (B:Nat) (s:Nat→Tm):Et w B (.slice none 0 0) s [] :=
 ⟨⟨rfl,.inl ⟨rfl,rfl⟩⟩,fun i x hx=>by simp at hx⟩
theorem Et.keep {s:Nat→Tm} (h:Et w B v s out) (hb:xp w w'):Et w' B v s out :=
 ⟨Bf h.own hb,fun i x hx=>by obtain ⟨a,b,c,d⟩:=h.ts i x hx;exact ⟨a,b.keep hb,c,d⟩⟩
theorem Dg.apT {t:Tm} {row:Option Nat} (h:Dg w t) (hg:w.grownBy w' row) (ha:∀gb,row=some gb→ApT gb t):Dg w' t:=by
 cases row with
 | none=>exact h.keep ⟨hg.os,hg.tape,hg.output,hg.size,fun k hk=>hg.block k hk qH⟩
 | some gb =>
  obtain ⟨a1,a2⟩:=ha gb rfl;exact ⟨h.top.ap a1 hg,h.low.ap a2 hg,h.s0,h.s1,h.s2,h.s3⟩
theorem Et.add {v':Value} {s:Nat→Tm} (h:Et w B v s out) {t:Tm} {x:PT} (hx:Ey t x) (hr:Dg w t) (hn:NwT B t) (ha:∀gb,v.ownBlock=some gb→ApT gb t)
  (hg:w.grownBy w' v.ownBlock) (ah:w'.ownsRow B 58 8 v' (out.length+1) (Cs s out.length++t.cells)) (jn:v'.ownBlock=v.ownBlock∨v'.ownBlock=some w.heap.size) :
  Et w' B v' (fun j=>if j=out.length then t else s j) (out++[x]):=by
 have key:∀t:Tm,Dg w t→(∀gb,v.ownBlock=some gb→ApT gb t)→∀gb,v'.ownBlock=some gb→ApT gb t:=fun t hr ha gb qq=>by
  rcases jn with e|e
  ·exact ha gb (e▸qq)
  ·rw [e] at qq;cases qq;exact ⟨hr.top.ap_of (Ad _),hr.low.ap_of (Ad _)⟩
 refine ⟨?_,fun i y hy=>?_⟩
 ·rw [A8,List.length_singleton,Cs,if_pos rfl,Lp (s':=s) (fun j hj=>if_neg qB)];exact ah
 ·show Ey (if i=out.length then t else s i) y∧Dg w' (if i=out.length then t else s i)∧NwT B (if i=out.length then t else s i)∧_;by_cases hi:i=out.length
  ·subst hi;rw [Az (Ad _)] at hy;simp only [Nat.sub_self,List.getElem?_cons_zero,Option.some.injEq] at hy;subst hy;rw [if_pos rfl];exact ⟨hx,hr.apT hg ha,hn,key t hr ha⟩
  ·have bj:i<out.length:=by
    have:=(List.getElem?_eq_some_iff.1 hy).1;simp at this;omega
   rw [Ay bj] at hy;obtain ⟨a,b,c,d⟩:=h.ts i y hy;rw [if_neg hi];exact ⟨a,b.apT hg d,c,key _ b d⟩
theorem Et.poly {s:Nat→Tm} (h:Et w B v s out) (hl:out.length≤35184372088832):∃a c,v=.slice a out.length c∧Be w B a out.length c out:=by
 rcases h.own.2 with ⟨rfl,h0⟩|⟨g,cap,cur,rfl,hg,qq,ri,qd,fb,sx⟩
 ·obtain rfl:out=[]:=List.length_eq_zero_iff.1 h0;exact ⟨none,0,rfl,Be.nil _ _⟩
 ·refine ⟨some ⟨g,0,none⟩,cap,rfl,rfl,.inr (fun y hy=>by cases hy;exact hg),fun e=>(by cases e),s,⟨ri,hl,qd,fun i hi=>?_,.inr ⟨g,0,rfl,fun i hi=>Ig h.own hi⟩⟩,fun i x hx=>?_⟩
  ·obtain ⟨x,hx⟩:∃x,out[i]? = some x:=⟨_,Ai hi⟩;exact (h.ts i x hx).2.1
  ·obtain ⟨a,_,c,_⟩:=h.ts i x hx;exact ⟨a,c.1,c.2⟩
def tlA (g o c:Nat):Addr:=⟨g,if c=1 then o else o+8,none⟩
theorem J3 (W:World) (g o n c:Nat) (hn:n+1≤c):(Instr.sliceAt 24 (.slice (some ⟨g,o,none⟩) ((n+1:Nat)) c) (some (M 1)) none none).run prog W=.ok (.slice (some (tlA g o c)) n (c-1)) W:=by
 have h0:(1:Int)≤(n:Int)+1:=qB;unfold tlA;by_cases hc:c=1
 ·subst hc;simp [Instr.sliceAt,Instr.slice,Instr.sliceBounds,Instr.sliceBound,go_sem,h0]
 ·have jf:¬c=1:=hc;simp [Instr.sliceAt,Instr.slice,Instr.sliceBounds,Instr.sliceBound,go_sem,h0,jf]
theorem Be.tail {g o:Nat} {x:PT} (h:Be w B (some ⟨g,o,none⟩) (n+1) c (x::l)):Be w B (some (tlA g o c)) n (c-1) l:=by
 obtain ⟨p,hp,hx⟩:=h.ts;have hlen:=h.len;simp only [List.length_cons] at hlen;have SU:=hp.cap;have y9:=hp.few;have htp:=hp.top;have hb:K0 B (some ⟨g,o,none⟩):=h.base.resolve_left qB;refine ⟨qB,.inr (fun y hy=>?_),fun e=>(by cases e),fun i=>p (i+1),⟨qB,qB,qB,fun i hi=>hp.tm _ qB,?_⟩,fun i y hy=>hx (i+1) y (by simpa using hy)⟩
 ·cases hy
  exact hb (J g o) rfl
 ·by_cases hn:n=0
  ·exact .inl hn
  ·refine .inr ⟨g,o+8,by unfold tlA;rw [if_neg qB],fun i hi=>?_⟩;have:=hp.at (i:=i+1) qB;rw [show o+8+i*8=o+(i+1)*8 from qB];exact this
theorem Be.head {x:PT} (h:Be w B a n c (x::l)):∃g o t,a=some ⟨g,o,none⟩∧n=l.length+1∧l.length+1≤c∧Nr w g o t∧Dg w t∧Ey t x:=by
 obtain ⟨p,hp,hx⟩:=h.ts;have hlen:=h.len;simp only [List.length_cons] at hlen;obtain ⟨g,o,rfl,hc⟩:=hp.cell.resolve_left qB;have h0:=hc 0 qB;simp only [Nat.zero_mul,Nat.add_zero] at h0;exact ⟨g,o,p 0,rfl,hlen.symm,by have:=hp.cap;omega,h0,hp.tm 0 qB,(hx 0 x rfl).1⟩
def Cc (x:Int):Prop:=0≤x∧x<65536
theorem Na {x0 x1 x2 x3:Int} (h0:Cc x0) (h1:Cc x1) (h2:Cc x2) (h3:Cc x3) (k:Nat):0≤Bn x0 x1 x2 x3 k∧Bn x0 x1 x2 x3 k<65536:=by
 match k with
 | 0=>exact h0
 | 1=>exact h1
 | 2=>exact h2
 | n+3=>exact h3
theorem Uj (w:World) (x0 x1 x2 x3 y0 y1 y2 y3:Int) (h0:Cc x0) (h1:Cc x1) (h2:Cc x2) (h3:Cc x3) (k0:Cc y0) (k1:Cc y1) (k2:Cc y2) (k3:Cc y3) :
  Θ 105 #[.int .u8 0,.agg #[U x0,U x1,U x2,U x3],.agg #[U y0,U y1,U y2,U y3]] w fun e w'=>e=.returned (M (Dd (Bn x0 x1 x2 x3) (Bn y0 y1 y2 y3)))∧xp w w':=by
 have HX:=Ae (Na h0 h1 h2 h3);have HY:=Ae (Na k0 k1 k2 k3);clear h0 h1 h2 h3 k0 k1 k2 k3;go_enter func105,ntmps105;go_wp2_with fail;have HF:Hid (∀i,i<4→Z ((w.alloc (.cells #[U x0,U x1,U x2,U x3] 56)).alloc (.cells #[U y0,U y1,U y2,U y3] 56)) w i (U (Bn x0 x1 x2 x3 i))):=Ae (fun i hi=>by
  match i,hi with
  | 0,_=>simp [go_sem,Bn]
  | 1,_=>simp [go_sem,Bn]
  | 2,_=>simp [go_sem,Bn]
  | 3,_=>simp [go_sem,Bn])
 have HG:Hid (∀i,i<4→Z ((w.alloc (.cells #[U x0,U x1,U x2,U x3] 56)).alloc (.cells #[U y0,U y1,U y2,U y3] 56)) (w+1) i (U (Bn y0 y1 y2 y3 i))):=Ae (fun i hi=>by
  match i,hi with
  | 0,_=>simp [go_sem,Bn]
  | 1,_=>simp [go_sem,Bn]
  | 2,_=>simp [go_sem,Bn]
  | 3,_=>simp [go_sem,Bn])
 have HB:xp w ((w.alloc (.cells #[U x0,U x1,U x2,U x3] 56)).alloc (.cells #[U y0,U y1,U y2,U y3] 56)):=qD;generalize ((w.alloc (.cells #[U x0,U x1,U x2,U x3] 56)).alloc (.cells #[U y0,U y1,U y2,U y3] 56))=w1 at *;go_loopw [9] (fun v wr=>∃k:Nat,k≤4∧v=M k∧Hid (∀j,j<k→Bn x0 x1 x2 x3 j=Bn y0 y1 y2 y3 j)∧xp w1 wr) (fun v _=>4-(intOf v).toNat)
 case atStart=>exact ⟨0,qB,rfl,Ae (fun j hj=>qB),Ac _ _⟩
 case round =>
  obtain ⟨k,hk,rfl,he,jr⟩:=hrel;have dm:xp w wr:=xo HB jr;by_cases bj:k<4
  ·have c1:=Bb jr (HF.out k bj);have c2:=Bb jr (HG.out k bj);have hx:=HX.out k;have hy:=HY.out k;have HL:=Ae (fun h=>Ht (f:=Bn x0 x1 x2 x3) (g:=Bn y0 y1 y2 y3) bj he.out h);have HE:=Ae (show Bn x0 x1 x2 x3 k=Bn y0 y1 y2 y3 k→∀j,j<k+1→Bn x0 x1 x2 x3 j=Bn y0 y1 y2 y3 j from fun h j hj=>by
     rcases Nat.lt_or_ge j k with h'|h'
     ·exact he.out j h'
     ·obtain rfl:j=k:=qB;exact h)
   generalize Bn x0 x1 x2 x3 k=x at *;generalize Bn y0 y1 y2 y3 k=y at *;have w1x:IntKind.i64.wrap x=x:=IntWalk.i64_in _ qB;have w1y:IntKind.i64.wrap y=y:=IntWalk.i64_in _ qB;have w1d:IntKind.i64.wrap (x-y)=x-y:=IntWalk.i64_in _ qB;rcases Int.lt_trichotomy x y with h|h|h
   ·have HR:=Ae ((HL.out qB).trans (C6 h));have hq:(x==y)=false:=by rw [beq_eq_false_iff_ne];omega
    have uq:(x != y)=true:=by rw [bne_iff_ne];omega
    go_wp2_with fail;go_quiet (fail);go_wp2_with fail;go_quiet (fail);go_wp2_with fail;go_ret;exact ⟨by rw [HR.out];show Ending.returned (M (min 1 (max (-1) (x-y))))=_;rw [show min 1 (max (-1) (x-y))=-1 from qB],Bj _ (Bj _ dm)⟩
   ·exact qCm
   ·have HR:=Ae ((HL.out qB).trans (C7 h));have hq:(x==y)=false:=by rw [beq_eq_false_iff_ne];omega
    have uq:(x != y)=true:=by rw [bne_iff_ne];omega
    go_wp2_with fail;go_quiet (fail);go_wp2_with fail;go_quiet (fail);go_wp2_with fail;go_ret;exact ⟨by rw [HR.out];show Ending.returned (M (min 1 (max (-1) (x-y))))=_;rw [show min 1 (max (-1) (x-y))=1 from qB],Bj _ (Bj _ dm)⟩
  ·exact qEr
theorem lD (x y:Int):Bz y x=-Bz x y:=by
 rcases Int.lt_trichotomy x y with h|h|h
 ·rw [C6 h,C7 h];rfl
 ·rw [h,Du];rfl
 ·rw [C7 h,C6 h]
theorem Id (g:Nat→Int) (k:Nat) (hk:k<4) (h:∀j,j<k→f j=g j) (di:f k≠g k):Dd g f=-Dd f g:=by
 rw [Ht hk (fun j hj=>(h j hj).symm) (fun e=>di e.symm),Ht hk h di,lD]
theorem jW (g:Nat→Int):Dd g f=-Dd f g:=by
 by_cases h0:f 0=g 0
 ·by_cases h1:f 1=g 1
  ·by_cases h2:f 2=g 2
   ·have H:∀j,j<3→f j=g j:=fun j hj=>by
     match j,hj with
     | 0,_=>exact h0
     | 1,_=>exact h1
     | 2,_=>exact h2
    by_cases h3:f 3=g 3
    ·have H4:∀j,j<4→f j=g j:=fun j hj=>by
      rcases Nat.lt_or_ge j 3 with h|h
      ·exact H j h
      ·obtain rfl:j=3:=qB;exact h3
     rw [Nh (fun j hj=>(H4 j hj).symm),Nh H4];rfl
    ·exact Id f g 3 qB H h3
   ·refine Id f g 2 qB (fun j hj=>?_) h2
    match j,hj with
    | 0,_=>exact h0
    | 1,_=>exact h1
  ·refine Id f g 1 qB (fun j hj=>?_) h1
   match j,hj with
   | 0,_=>exact h0
 ·exact Id f g 0 qB (fun j hj=>absurd hj (Nat.not_lt_zero _)) h0
theorem Rf (w:World) (a:Γ) (n c:Nat) (p:Nat→Tm) (hp:RdP w a n c p) (mh:∀k,k<n→(p k).n1≤1000000∧(p k).n2≤1000000) (r:Bool) (hr:POk p n↔r=true) :
  Θ 103 #[.slice a n c] w fun e w'=>e=.returned (.bool r)∧xp w w':=by
 have HB:=Ac w w;have hn:=hp.few;have HR:=Ae hr;have HS:=Ae mh;clear hr mh;go_enter func103,ntmps103;go_wp2_with fail;go_loopw [3] (fun v wr=>∃k:Nat,k≤n∧v=M k∧xp w wr∧Hid (POk p k)) (fun v _=>n-(intOf v).toNat)
 case atStart=>exact ⟨0,Ba _,rfl,HB,Ae (fun j hj=>absurd hj (Nat.not_lt_zero _))⟩
 case round =>
  obtain ⟨k,hk,rfl,dm,he⟩:=hrel;clear HB;by_cases bj:k<n
  ·obtain ⟨b,o,rfl,ij⟩:=hp.cell.resolve_left qB;have uy:=hp.keep dm;have HT:=uy.tm k bj;obtain ⟨e0,e1,e2,e3,e4,e5,e6,e7⟩:=uy.at bj;have hs:=HS.out k bj;have ZS:=Ae ij;clear ij
   cases k with
   | zero =>
    obtain ⟨t,ht⟩:∃t,t=p 0:=⟨_,rfl⟩;rw [←ht] at HT e0 e1 e2 e3 e4 e5 e6 e7 hs;have GY:=Ae ht;clear ht;simp only [Nat.zero_mul,Nat.add_zero] at e0 e1 e2 e3 e4 e5 e6 e7;have KZ:=dm.size;go_wp2_with fail;have jh:t.n1<35184372088829:=qB;have ki:t.n2<35184372088829:=qB;replace e0:=Bk e0;replace e1:=Bk e1;replace e2:=Bk e2;replace e3:=Bk e3;replace e4:=Bk e4;replace e5:=Bk e5;replace e6:=Bk e6;replace e7:=Bk e7;clear uy;by_cases rb:FOk t.g1 t.d1 t.g2 t.d2
    ·have hF:=Ae rb;have HA:=In HT.top HT.low rb;have fb:=Ox rb.1;generalize (if t.g1 then -(val t.d1:Int) else (val t.d1:Int))=z at *;clear rb;by_cases dw:z=0
     ·have iz:=Ae (fb.1 dw);have hz:Bz z 0=0:=by rw [dw];exact Du 0
      have mf:r=false:=qCk;subst mf;clear dw fb;(refine Bi qE qE ?_;(repeat (go_big_quiet_step (first|(go_at_call 107;exact Cr (Fs _ t.g1 t.a1 t.n1 t.c1 t.d1 (HT.top.keep (Subtype.property _)) t.g2 t.a2 t.n2 t.c2 t.d2 (HT.low.keep (Subtype.property _)) ki jh true ⟨fun _=>rfl,fun _=>hF.out⟩))|(go_at_call 175;exact Cr (Hy _ _ _ _ _ _ _ _ _ _ _ (HA.keep (Subtype.property _)) ki jh)))));refine wpQuiet_nil ?_;intro _ cw;obtain ⟨nq,cw⟩:=cw;subst cw);exact qCp
     ·have iz:=Ae (fun e=>dw (fb.2 e));have hz:(Bz z 0==0)=false:=by rw [beq_eq_false_iff_ne];exact fun e=>dw (Do.1 e)
      clear dw fb;(refine Bi qE qE ?_;(repeat (go_big_quiet_step (first|(go_at_call 107;exact Cr (Fs _ t.g1 t.a1 t.n1 t.c1 t.d1 (HT.top.keep (Subtype.property _)) t.g2 t.a2 t.n2 t.c2 t.d2 (HT.low.keep (Subtype.property _)) ki jh true ⟨fun _=>rfl,fun _=>hF.out⟩))|(go_at_call 175;exact Cr (Hy _ _ _ _ _ _ _ _ _ _ _ (HA.keep (Subtype.property _)) ki jh)))));refine wpQuiet_nil ?_;intro _ cw;obtain ⟨nq,cw⟩:=cw;subst cw);go_wp2_with fail;go_roundw
      case rel=>exact ⟨1,qB,rfl,(xo dm nq.2),Ae (fun i hi=>by have h0:i=0:=qB;subst h0;exact ⟨by rw [←GY.out];exact ⟨hF.out,iz.out⟩,fun h=>absurd h qB⟩)⟩
      case measure=>simp [intOf];omega
    ·exact qBi
   | succ j =>
    obtain ⟨t,ht⟩:∃t,t=p (j+1):=⟨_,rfl⟩;rw [←ht] at HT e0 e1 e2 e3 e4 e5 e6 e7 hs;have GY:=Ae ht;clear ht;have KZ:=dm.size;have hjn:j<n:=qB;obtain ⟨_,_,_,_,q4,q5,q6,q7⟩:=uy.at (show j<n from qB);have HU:=uy.tm j hjn;obtain ⟨u,hu⟩:∃u,u=p j:=⟨_,rfl⟩;rw [←hu] at q4 q5 q6 q7 HU;have HUK:=Ae hu;clear hu;go_wp2_with fail;have jh:t.n1<35184372088829:=qB;have ki:t.n2<35184372088829:=qB;have HT0:Cc t.m0:=⟨qB,by have:=HT.s0;omega⟩;have ID:Cc t.m1:=⟨qB,by have:=HT.s1;omega⟩;have DE:Cc t.m2:=⟨qB,by have:=HT.s2;omega⟩;have HT3:Cc t.m3:=⟨qB,by have:=HT.s3;omega⟩;have HU0:Cc u.m0:=⟨qB,by have:=HU.s0;omega⟩;have HU1:Cc u.m1:=⟨qB,by have:=HU.s1;omega⟩;have HU2:Cc u.m2:=⟨qB,by have:=HU.s2;omega⟩;have HU3:Cc u.m3:=⟨qB,by have:=HU.s3;omega⟩;replace e0:=Bk e0;replace e1:=Bk e1;replace e2:=Bk e2;replace e3:=Bk e3;replace e4:=Bk e4;replace e5:=Bk e5;replace e6:=Bk e6;replace e7:=Bk e7;replace q4:=Bk q4;replace q5:=Bk q5;replace q6:=Bk q6;replace q7:=Bk q7;clear uy;by_cases rb:FOk t.g1 t.d1 t.g2 t.d2
    ·have hF:=Ae rb;have HA:=In HT.top HT.low rb;have fb:=Ox rb.1;generalize (if t.g1 then -(val t.d1:Int) else (val t.d1:Int))=z at *;clear rb;by_cases dw:z=0
     ·have iz:=Ae (fb.1 dw);have hz:Bz z 0=0:=by rw [dw];exact Du 0
      have mf:r=false:=qCk;subst mf;clear dw fb;(refine Bi qE qE ?_;(repeat (go_big_quiet_step (first|(go_at_call 107;exact Cr (Fs _ t.g1 t.a1 t.n1 t.c1 t.d1 (HT.top.keep (Subtype.property _)) t.g2 t.a2 t.n2 t.c2 t.d2 (HT.low.keep (Subtype.property _)) ki jh true ⟨fun _=>rfl,fun _=>hF.out⟩))|(go_at_call 175;exact Cr (Hy _ _ _ _ _ _ _ _ _ _ _ (HA.keep (Subtype.property _)) ki jh))|(go_at_call 105;exact Cr (Uj _ _ _ _ _ _ _ _ _ HU0 HU1 HU2 HU3 HT0 ID DE HT3)))));refine wpQuiet_nil ?_;intro _ cw;obtain ⟨nq,cw⟩:=cw;subst cw);exact qCp
     ·have iz:=Ae (fun e=>dw (fb.2 e));have hz:(Bz z 0==0)=false:=by rw [beq_eq_false_iff_ne];exact fun e=>dw (Do.1 e)
      clear dw fb;have tj:=jW (Bn u.m0 u.m1 u.m2 u.m3) (Bn t.m0 t.m1 t.m2 t.m3);by_cases sw:Dd (Bn t.m0 t.m1 t.m2 t.m3) (Bn u.m0 u.m1 u.m2 u.m3)<0
      ·have hl:=Ae sw;have BF:decide (Dd (Bn u.m0 u.m1 u.m2 u.m3) (Bn t.m0 t.m1 t.m2 t.m3)≤0)=false:=by rw [decide_eq_false_iff_not];omega
       clear sw tj;(refine Bi qE qE ?_;(repeat (go_big_quiet_step (first|(go_at_call 107;exact Cr (Fs _ t.g1 t.a1 t.n1 t.c1 t.d1 (HT.top.keep (Subtype.property _)) t.g2 t.a2 t.n2 t.c2 t.d2 (HT.low.keep (Subtype.property _)) ki jh true ⟨fun _=>rfl,fun _=>hF.out⟩))|(go_at_call 175;exact Cr (Hy _ _ _ _ _ _ _ _ _ _ _ (HA.keep (Subtype.property _)) ki jh))|(go_at_call 105;exact Cr (Uj _ _ _ _ _ _ _ _ _ HU0 HU1 HU2 HU3 HT0 ID DE HT3)))));refine wpQuiet_nil ?_;intro _ cw;obtain ⟨nq,cw⟩:=cw;subst cw);go_wp2_with fail;go_roundw
       case rel=>exact ⟨j+1+1,qB,qH,(xo dm nq.2),Ae (fun i hi=>by
       rcases Nat.lt_or_ge i (j+1) with h|h
       ·exact he.out i h
       ·obtain rfl:i=j+1:=qB;exact ⟨by rw [←GY.out];exact ⟨hF.out,iz.out⟩,fun _=>by rw [←GY.out,Nat.add_sub_cancel,←HUK.out];exact hl.out⟩)⟩
       case measure=>simp [intOf];omega
      ·have BF:decide (Dd (Bn u.m0 u.m1 u.m2 u.m3) (Bn t.m0 t.m1 t.m2 t.m3)≤0)=true:=by rw [decide_eq_true_iff];omega
       have mf:r=false:=qEt;subst mf;clear sw tj;(refine Bi qE qE ?_;(repeat (go_big_quiet_step (first|(go_at_call 107;exact Cr (Fs _ t.g1 t.a1 t.n1 t.c1 t.d1 (HT.top.keep (Subtype.property _)) t.g2 t.a2 t.n2 t.c2 t.d2 (HT.low.keep (Subtype.property _)) ki jh true ⟨fun _=>rfl,fun _=>hF.out⟩))|(go_at_call 175;exact Cr (Hy _ _ _ _ _ _ _ _ _ _ _ (HA.keep (Subtype.property _)) ki jh))|(go_at_call 105;exact Cr (Uj _ _ _ _ _ _ _ _ _ HU0 HU1 HU2 HU3 HT0 ID DE HT3)))));refine wpQuiet_nil ?_;intro _ cw;obtain ⟨nq,cw⟩:=cw;subst cw);exact qCp
    ·exact qBi
  ·exact qFd
theorem lU (w:World) (a:Γ) (n c:Nat) (p:Nat→Tm) (hp:RdP w a n c p) (mh:∀k,k<n→(p k).n1≤1000000∧(p k).n2≤1000000) (hr:POk p n) :
  Θ 104 #[.slice a n c] w fun e w'=>e=.returned (.slice a n c)∧xp w w':=by
 have HR:=Ae hr;clear hr;go_enter func104,ntmps104;go_wp2_with fail;refine (Rf _ _ _ _ p hp mh true ⟨fun _=>rfl,fun _=>HR.out⟩).mono ?_;rintro e w1 ⟨rfl,hb⟩;go_wp2_with fail;go_ret;exact ⟨rfl,hb⟩
end Go.Proofs.YtfijkfdfbnfmmaaGreatDoor
end
