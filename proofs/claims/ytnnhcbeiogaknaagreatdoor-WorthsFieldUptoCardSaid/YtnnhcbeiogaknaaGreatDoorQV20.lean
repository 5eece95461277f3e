/- Package fracs: Make, of a number from 0 on below. -/
import Derived.Test.YtnnhcbeiogaknaaGreatDoorQV19
set_option linter.unusedSimpArgs false
set_option linter.unusedVariables false
set_option maxRecDepth 100000
set_option maxHeartbeats 4000000
section
namespace Go.Proofs.YtnnhcbeiogaknaaGreatDoor
open Go.RowKit
def Ri (w:World) (p q:Int) (e:Ending) (w':World):Prop :=
 ∃g1 a1 n1 c1 g2 a2 n2 c2,e=.returned (.tuple #[.agg #[.bool g1,.slice a1 n1 c1,.bool g2,.slice a2 n2 c2],.int .i64 0])∧Bj w' g1 a1 n1 c1 p g2 a2 n2 c2 q∧Bg w.heap.size w' a1 c1∧Bg w.heap.size w' a2 c2∧Below w.heap.size w w'
theorem Tx (w:World) (g:Bool) (a:Γ) (n c:Nat) (z:Int) (h:Bh w g a n c z) (g':Bool) (a':Γ) (n' c':Nat) (z':Int) (h':Bh w g' a' n' c' z')
  (hz':0<z') (hb1:n<35184372088829) (hb2:n'<35184372088829) :
  Θ 62 #[.agg #[.bool g,.slice a n c],.agg #[.bool g',.slice a' n' c']] w (Ri w (E6 z z') (Fi z z')):=by
 have HB:=Ac w.heap.size w;have HO1:=Ae h.okay;have HO2:=Ae h'.okay;have hsg:Bz z' 0=1:=Ee hz';go_enter Tryz.func62,Tryz.ntmps62;go_wp2_with fail;refine (Cy _ _ _ _ _ _ (h.rd.keep qF) true ⟨fun _=>rfl,fun _=>HO1.out⟩).mono ?_;rintro e w1 ⟨rfl,hb⟩;obtain ⟨hc,hf⟩:=Bl hb;have hz:=hb.size;(try simp only [Aj,Ak] at hz);replace HB:=zI w hb;obtain ⟨s0_0,s0_1⟩:=qZ hc (w.heap.size) (.bool g) (.slice a n c);obtain ⟨s1_0,s1_1⟩:=qZ hc (w.heap.size+1) (.bool g') (.slice a' n' c');obtain ⟨s2_0,s2_1⟩:=zE hc (w.heap.size+1+1);obtain ⟨s2_2,s2_3⟩:=zD hc (w.heap.size+1+1) (.bool false) (.slice none 0 0);obtain ⟨f2_0,f2_1⟩:=zF hf (w.heap.size+1+1);obtain ⟨f2_2,f2_3⟩:=zG hf (w.heap.size+1+1);have hk1:w.heap.size+1+1<w1.heap.size:=by omega
 clear hc hf hb hz;go_wp2_with fail;refine (Cy _ _ _ _ _ _ (h'.rd.keep qF) true ⟨fun _=>rfl,fun _=>HO2.out⟩).mono ?_;rintro e w2 ⟨rfl,hb⟩;obtain ⟨hc,hf⟩:=Bl hb;have hz:=hb.size;(try simp only [Aj,Ak] at hz);replace HB:=zI w hb;obtain ⟨s0_0,s0_1⟩:=qZ hc (w.heap.size) (.bool g) (.slice a n c);obtain ⟨s1_0,s1_1⟩:=qZ hc (w.heap.size+1) (.bool g') (.slice a' n' c');obtain ⟨s2_0,s2_1⟩:=zE hc (w.heap.size+1+1);obtain ⟨s2_2,s2_3⟩:=zD hc (w.heap.size+1+1) (.bool false) (.slice none 0 0);obtain ⟨f2_0,f2_1⟩:=zF hf (w.heap.size+1+1);obtain ⟨f2_2,f2_3⟩:=zG hf (w.heap.size+1+1);have hk2:w.heap.size+1+1<w2.heap.size:=by omega
 clear hc hf hb hz;go_wp2_with fail;refine (La _ _ _ _ _ z' (h'.keep qF)).mono ?_;rintro e w3 ⟨rfl,hb⟩;obtain ⟨hc,hf⟩:=Bl hb;have hz:=hb.size;(try simp only [Aj,Ak] at hz);replace HB:=zI w hb;obtain ⟨s0_0,s0_1⟩:=qZ hc (w.heap.size) (.bool g) (.slice a n c);obtain ⟨s1_0,s1_1⟩:=qZ hc (w.heap.size+1) (.bool g') (.slice a' n' c');obtain ⟨s2_0,s2_1⟩:=zE hc (w.heap.size+1+1);obtain ⟨s2_2,s2_3⟩:=zD hc (w.heap.size+1+1) (.bool false) (.slice none 0 0);obtain ⟨f2_0,f2_1⟩:=zF hf (w.heap.size+1+1);obtain ⟨f2_2,f2_3⟩:=zG hf (w.heap.size+1+1);have hk3:w.heap.size+1+1<w3.heap.size:=by omega
 clear hc hf hb hz;rw [hsg];go_wp2_with fail;refine (Sx _ _ _ _ _ z (h.keep qF) _ _ _ _ z' (h'.keep qF) hz' hb1 hb2).mono ?_;exact qAp
theorem Ut (w:World) (g:Bool) (a:Γ) (n c:Nat) (z:Int) (h:Bh w g a n c z) (g':Bool) (a':Γ) (n' c':Nat) (h':Bh w g' a' n' c' 0) :
  Θ 62 #[.agg #[.bool g,.slice a n c],.agg #[.bool g',.slice a' n' c']] w fun e w'=>e=.returned (.tuple #[.agg #[.bool false,.slice none 0 0,.bool false,.slice none 0 0],.int .i64 6])∧Below w.heap.size w w':=by
 have HB:=Ac w.heap.size w;have HO1:=Ae h.okay;have HO2:=Ae h'.okay;have hsg:Bz 0 0=0:=Ev 0;go_enter Tryz.func62,Tryz.ntmps62;go_wp2_with fail;refine (Cy _ _ _ _ _ _ (h.rd.keep qF) true ⟨fun _=>rfl,fun _=>HO1.out⟩).mono ?_;rintro e w1 ⟨rfl,hb⟩;obtain ⟨hc,hf⟩:=Bl hb;have hz:=hb.size;(try simp only [Aj,Ak] at hz);replace HB:=zI w hb;obtain ⟨s0_0,s0_1⟩:=qZ hc (w.heap.size) (.bool g) (.slice a n c);obtain ⟨s1_0,s1_1⟩:=qZ hc (w.heap.size+1) (.bool g') (.slice a' n' c');obtain ⟨s2_0,s2_1⟩:=zE hc (w.heap.size+1+1);obtain ⟨s2_2,s2_3⟩:=zD hc (w.heap.size+1+1) (.bool false) (.slice none 0 0);obtain ⟨f2_0,f2_1⟩:=zF hf (w.heap.size+1+1);obtain ⟨f2_2,f2_3⟩:=zG hf (w.heap.size+1+1);have hk1:w.heap.size+1+1<w1.heap.size:=by omega
 clear hc hf hb hz;go_wp2_with fail;refine (Cy _ _ _ _ _ _ (h'.rd.keep qF) true ⟨fun _=>rfl,fun _=>HO2.out⟩).mono ?_;rintro e w2 ⟨rfl,hb⟩;obtain ⟨hc,hf⟩:=Bl hb;have hz:=hb.size;(try simp only [Aj,Ak] at hz);replace HB:=zI w hb;obtain ⟨s0_0,s0_1⟩:=qZ hc (w.heap.size) (.bool g) (.slice a n c);obtain ⟨s1_0,s1_1⟩:=qZ hc (w.heap.size+1) (.bool g') (.slice a' n' c');obtain ⟨s2_0,s2_1⟩:=zE hc (w.heap.size+1+1);obtain ⟨s2_2,s2_3⟩:=zD hc (w.heap.size+1+1) (.bool false) (.slice none 0 0);obtain ⟨f2_0,f2_1⟩:=zF hf (w.heap.size+1+1);obtain ⟨f2_2,f2_3⟩:=zG hf (w.heap.size+1+1);have hk2:w.heap.size+1+1<w2.heap.size:=by omega
 clear hc hf hb hz;go_wp2_with fail;refine (La _ _ _ _ _ 0 (h'.keep qF)).mono ?_;rintro e w3 ⟨rfl,hb⟩;obtain ⟨hc,hf⟩:=Bl hb;have hz:=hb.size;(try simp only [Aj,Ak] at hz);replace HB:=zI w hb;obtain ⟨s0_0,s0_1⟩:=qZ hc (w.heap.size) (.bool g) (.slice a n c);obtain ⟨s1_0,s1_1⟩:=qZ hc (w.heap.size+1) (.bool g') (.slice a' n' c');obtain ⟨s2_0,s2_1⟩:=zE hc (w.heap.size+1+1);obtain ⟨s2_2,s2_3⟩:=zD hc (w.heap.size+1+1) (.bool false) (.slice none 0 0);obtain ⟨f2_0,f2_1⟩:=zF hf (w.heap.size+1+1);obtain ⟨f2_2,f2_3⟩:=zG hf (w.heap.size+1+1);have hk3:w.heap.size+1+1<w3.heap.size:=by omega
 clear hc hf hb hz;rw [hsg];go_wp2_with fail;refine bodyPost_ret (v:=.tuple #[.agg #[.bool false,.slice none 0 0,.bool false,.slice none 0 0],.int .i64 6]) (by simp [results,Tryz.results62,go_sem,s2_0,s2_1,s2_2,s2_3]) rfl ?_;exact ⟨rfl,by go_grown⟩
theorem Xh (b:UInt8):decide (0≤Lib.indexByte [120,121,122,116,48,49,50,51,52,53,54,55,56,57] b)=Wu b:=by
 have h:∀n:Fin 256,decide (0≤Lib.indexByte [120,121,122,116,48,49,50,51,52,53,54,55,56,57] (UInt8.ofNat n))=Wu (UInt8.ofNat n):=by decide
 have:=h ⟨b.toNat,b.toNat_lt⟩;simpa only [UInt8.ofNat_toNat] using this
theorem N7 (w:World) (R:Nat) (L:List UInt8) (many:Bool) (h:Cm w R L many) (hL:L.length<1000000000) :
  Θ 280 #[.pointer (some ⟨R,0,none⟩)] w fun e w'=>e=.returned (.bool (Fk L))∧Below w.heap.size w w':=by
 have h0:=h.c0
 cases L with
 | nil =>
  go_enter Tryz.func280,Tryz.ntmps280;go_wp2_with fail;exact bodyPost_ret (v:=.bool false) (by simp [results,Tryz.results280,go_sem]) rfl ⟨rfl,Ac _ _⟩
 | cons b r =>
  have hy:(⟨(b::r).toArray⟩:ByteArray)[0]'(by simp [ByteArray.size])=b:=by simp [ByteArray.getElem_eq_getElem_data]
  have hI:∀W:World,Θ 281 #[.string ⟨#[120,121,122,116,48,49,50,51,52,53,54,55,56,57]⟩,.int .u8 (b.toNat:Int)] W fun e w'=>e=.returned (.int .i64 (Lib.indexByte [120,121,122,116,48,49,50,51,52,53,54,55,56,57] b))∧w'=W:=fun W=>by
   have:=Tryz.strings_IndexByte ⟨#[120,121,122,116,48,49,50,51,52,53,54,55,56,57]⟩ (b.toNat:Int) W;have e:((b.toNat:Int).toNat.toUInt8)=b:=by simp
   rw [e] at this;exact this
  have hs:=Xh b;generalize Lib.indexByte [120,121,122,116,48,49,50,51,52,53,54,55,56,57] b=ix at *;have HS:=Ae hs;clear hs;go_enter Tryz.func280,Tryz.ntmps280;go_wp2_with (first|(go_at_call 281;refine (hI _).mono ?_;rintro e w1 ⟨rfl,rfl⟩));refine bodyPost_ret (v:=.bool (decide (0≤ix))) (by simp [results,Tryz.results280,go_sem]) rfl ⟨?_,Ac _ _⟩;rw [HS.out];rfl
theorem Do (w:World) (R:Nat) (L:List UInt8) (many:Bool) (c:Int) (h:Cm w R L many) (h1:0≤c) (h2:c<256) (hL:L.length<1000000000) :
  Θ 221 #[.pointer (some ⟨R,0,none⟩),.int .u8 c] w fun e w'=>e=.returned (.bool (Cs L c))∧Cm w' R (if Cs L c then L.tail else L) many∧w.grownBy w' (some R):=by
 refine (gW w R L c h.c0 h.f0 h1 h2 hL).mono ?_;rintro e w' ⟨rfl,rfl⟩;refine ⟨rfl,?_,?_⟩
 ·split
  ·exact h.set0 _
  ·exact h
 ·split
  ·exact Bf _ (Cp _ _)
  ·exact Cp _ _
def If (w:World):Prop:=∃ev,w.cell? ⟨7,0,none⟩=some ev∧(ev=.nilIface∨∃te pe,ev=.iface te pe)
theorem If.grown {w w':World} {row:Option Nat} (h:If w) (hg:w.grownBy w' row) (hr:some 7≠row):If w':=by
 obtain ⟨ev,h1,h2⟩:=h;exact ⟨ev,hg.cell h1 hr,h2⟩
def Pa (w:World) (R:Nat) (x:Option (Nat×List UInt8×Bool)) (e:Ending) (w':World):Prop :=
 w.grownBy w' (some R)∧match x with|none=>e=.panicked Ko|some (n,r,m)=>e=.returned (.int .i64 (n:Nat))∧Cm w' R r m
theorem Pa.no {w w':World} {R:Nat} (h:w.grownBy w' (some R)):Pa w R none (.panicked Ko) w':=⟨h,rfl⟩
theorem Pa.yes {w w':World} {R n:Nat} {r:List UInt8} {m:Bool} (h:w.grownBy w' (some R)) (hr:Cm w' R r m):Pa w R (some (n,r,m)) (.returned (.int .i64 (n:Nat))) w':=⟨h,rfl,hr⟩
theorem U5 {w w':World} (h:w'=w∨∃t,w'=Lib.bytesWorld w 5 t):Below w.heap.size w w':=by
 rcases h with rfl|⟨t,rfl⟩
 ·exact Ac _ _
 ·exact Lib.bytesWorld_below _ _ _
theorem Wk (w:World) (R:Nat) (L:List UInt8) (many:Bool) (h:Cm w R L many) (hL:L.length<1000000000) (hV:If w) (hR:7<R) :
  Θ 282 #[.pointer (some ⟨R,0,none⟩)] w (Pa w R (Iy L many)):=by
 have hne:some 7≠some R:=by simp;omega
 go_enter Tryz.func282,Tryz.ntmps282;go_wp2_with fail;refine (Do _ R L many 94 h qA qA hL).mono ?_;rintro e w1 ⟨rfl,hr1,hg1⟩
 cases h94:Cs L 94
 ·rw [h94] at hr1;have HX:=Ae (show Iy L many=some (1,L,many) by unfold Iy;rw [h94];rfl);go_wp2_with fail;refine bodyPost_ret (v:=.int .i64 1) (by simp [results,Tryz.results282,go_sem]) rfl ?_;rw [HX.out];exact .yes hg1 hr1
 ·rw [h94] at hr1;simp only [if_true] at hr1;have hV1:=hV.grown hg1 hne;go_wp2_with fail;refine (Tu _ R L.tail many hr1 qJ).mono ?_;rintro e w2 ⟨hg2,hp⟩;have hg12:=hg1.trans hg2
  cases hx:Ig L.tail many with
  | none =>
   rw [hx] at hp;subst hp;refine ⟨rfl,?_⟩;rw [show Iy L many=none by unfold Iy;rw [h94,hx];rfl];exact .no hg12
  | some x =>
   obtain ⟨d,r,m⟩:=x;rw [hx] at hp;obtain ⟨rfl,hr⟩:=hp;have hdig:=Gb (Pe hx).1;have hdl:=Jl hx;have hat:=Yo hdig;have hV2:=hV1.grown hg2 hne;have hdlen:d.length<1000000000:=by simp at hdl;omega
   have HX:=Ae (show Iy L many=if 1000<Dp d then some (0,r,true) else some (Dp d,r,m) by unfold Iy;rw [h94,hx];rfl);clear hx hdig hdl h94 hV hV1 hL;by_cases h63:Dp d<9223372036854775808
   ·rw [if_pos h63] at hat;have hA:=fun W=>Tryz.strconv_Atoi_ok ⟨d.toArray⟩ (by simp [ByteArray.size];omega) _ hat W
    clear hat;by_cases hm:1000<Dp d
    ·rw [if_pos hm] at HX;go_wp2_with (first|(go_at_call 332;refine (hA _).mono ?_;rintro e w3 ⟨rfl,hw3⟩;replace hw3:=U5 hw3;have hr3:=hr.keep hw3;have k0:=hr3.c0;have k1:=hr3.c1;have l0:=hr3.f0;have l1:=hr3.f1));exact qCo
    ·rw [if_neg hm] at HX;go_wp2_with (first|(go_at_call 332;refine (hA _).mono ?_;rintro e w3 ⟨rfl,hw3⟩;replace hw3:=U5 hw3;have hr3:=hr.keep hw3;have k0:=hr3.c0;have k1:=hr3.c1;have l0:=hr3.f0;have l1:=hr3.f1));refine bodyPost_ret (v:=.int .i64 (Dp d:Nat)) (by simp [results,Tryz.results282,go_sem]) rfl ?_;rw [HX.out];exact .yes (hg12.trans (Bx hw3 _)) hr3
   ·rw [if_neg h63] at hat;obtain ⟨ev,hv1,hv2⟩:=hV2;have hA:=Tryz.strconv_Atoi_range ⟨d.toArray⟩ (by simp [ByteArray.size];omega) hat ev w2 hv1 hv2;rw [if_pos qA] at HX;clear hat;go_wp2_with (first|(go_at_call 332;refine hA.mono ?_;rintro e w3 ⟨N,rfl,hN,hb3,hw3⟩;clear hb3 hN;have hr3:=hr.keep hw3;have k0:=hr3.c0;have k1:=hr3.c1;have l0:=hr3.f0;have l1:=hr3.f1));exact qCo
def yR (w:World) (B:Nat) (v:Value) (c:PC):Prop:=X5 w B v c∨(v=frV false none 0 0 false none 0 0∧c=(0,1))
def Sy (w:World) (R:Nat) (x:Option (PC×List UInt8×Bool)) (e:Ending) (w':World):Prop :=
 w.grownBy w' (some R)∧match x with|none=>e=.panicked Ko|some (c,r,m)=>∃v,e=.returned v∧yR w' w.heap.size v c∧Cm w' R r m
theorem Sy.no {w w':World} {R:Nat} (h:w.grownBy w' (some R)):Sy w R none (.panicked Ko) w':=⟨h,rfl⟩
theorem Bv {w w':World} {row:Option Nat} {b i:Nat} (hg:w.grownBy w' row) (hlt:b<w.heap.size) (hne:some b≠row):w'.frozen? ⟨b,i,none⟩=w.frozen? ⟨b,i,none⟩ :=
 World.frozen?_of_block (a:=⟨b,i,none⟩) (hg.block b hlt hne)
theorem Ce {w w':World} {row:Option Nat} {p:Addr} (v:Value) (h:w.grownBy w' row) (hp:w.heap.size≤p.block):w.grownBy (w'.setCell p v) row:=by
 have hb:Below p.block w' (w'.setCell p v):=(Ac p.block w').setCell (p:=p) (Ad _) v;exact ⟨hb.os.trans h.os,hb.tape.trans h.tape,hb.output.trans h.output,Ah h.size hb.size,fun k hk hne=>(hb.block k qA).trans (h.block k hk hne)⟩
theorem J5 {w w':World} {row:Option Nat} (o:Obj) (h:w.grownBy w' row):w.grownBy (w'.alloc o) row:=h.trans (World.grownBy_alloc w' o row)
theorem Cm.setOther {w:World} {R:Nat} {L:List UInt8} {many:Bool} (h:Cm w R L many) {p:Addr} (v:Value) (hp:p.block≠R):Cm (w.setCell p v) R L many:=by
 have hh:∀i,(w.setCell p v).heap[(⟨R,i,none⟩:Addr).block]? = w.heap[(⟨R,i,none⟩:Addr).block]?:=fun i=>Below.heap_setCell w p v R (fun e=>hp e.symm)
 exact ⟨(Af (hh 0)).trans h.c0,(Af (hh 1)).trans h.c1,(World.frozen?_of_block (hh 0)).trans h.f0,(World.frozen?_of_block (hh 1)).trans h.f1⟩
theorem Cm.allocR {w:World} {R:Nat} {L:List UInt8} {many:Bool} (h:Cm w R L many) (o:Obj):Cm (w.alloc o) R L many:=h.keep ((Ac _ _).alloc (Ad _) o)
theorem Xl:Fm [49]=1:=by decide
theorem Nh (w:World) (R:Nat) (L:List UInt8) (many:Bool) (h:Cm w R L many) (hL:L.length<1000000000) :
  Θ 283 #[.pointer (some ⟨R,0,none⟩)] w (Sy w R (Fb L many)):=by
 have hRlt:=h.lt;have hne:some w.heap.size≠some R:=by simp;omega
 have W0:=World.grownBy_alloc w (.cells #[.bool false,.slice none 0 0,.bool false,.slice none 0 0] 34) (some R);have hb0:Below w.heap.size w (w.alloc (.cells #[.bool false,.slice none 0 0,.bool false,.slice none 0 0] 34)):=by go_grown
 have d0:(w.alloc (.cells #[.bool false,.slice none 0 0,.bool false,.slice none 0 0] 34)).cell? ⟨w.heap.size,0,none⟩=some (.bool false):=by simp [go_sem]
 have g0:(w.alloc (.cells #[.bool false,.slice none 0 0,.bool false,.slice none 0 0] 34)).frozen? ⟨w.heap.size,0,none⟩=false:=by simp [go_sem]
 have d1:(w.alloc (.cells #[.bool false,.slice none 0 0,.bool false,.slice none 0 0] 34)).cell? ⟨w.heap.size,1,none⟩=some (.slice none 0 0):=by simp [go_sem]
 have g1:(w.alloc (.cells #[.bool false,.slice none 0 0,.bool false,.slice none 0 0] 34)).frozen? ⟨w.heap.size,1,none⟩=false:=by simp [go_sem]
 have d2:(w.alloc (.cells #[.bool false,.slice none 0 0,.bool false,.slice none 0 0] 34)).cell? ⟨w.heap.size,2,none⟩=some (.bool false):=by simp [go_sem]
 have g2:(w.alloc (.cells #[.bool false,.slice none 0 0,.bool false,.slice none 0 0] 34)).frozen? ⟨w.heap.size,2,none⟩=false:=by simp [go_sem]
 have d3:(w.alloc (.cells #[.bool false,.slice none 0 0,.bool false,.slice none 0 0] 34)).cell? ⟨w.heap.size,3,none⟩=some (.slice none 0 0):=by simp [go_sem]
 have g3:(w.alloc (.cells #[.bool false,.slice none 0 0,.bool false,.slice none 0 0] 34)).frozen? ⟨w.heap.size,3,none⟩=false:=by simp [go_sem]
 go_enter Tryz.func283,Tryz.ntmps283;go_wp2_with fail;refine (Y4 _ R L many (h.keep hb0) hL).mono ?_;rintro e w1 ⟨hg1,hp⟩;replace g0:=(Bv hg1 (Aa _ _ d0) hne).trans g0;replace d0:=An hg1 d0 hne;replace g1:=(Bv hg1 (Aa _ _ d1) hne).trans g1;replace d1:=An hg1 d1 hne;replace g2:=(Bv hg1 (Aa _ _ d2) hne).trans g2;replace d2:=An hg1 d2 hne;replace g3:=(Bv hg1 (Aa _ _ d3) hne).trans g3;replace d3:=An hg1 d3 hne;have hgw:=W0.trans hg1
 cases hx:Km L many with
 | none =>
  rw [hx] at hp;subst hp;refine ⟨rfl,?_⟩;rw [show Fb L many=none by unfold Fb;rw [hx]];exact .no hgw
 | some x =>
  obtain ⟨t,r,m⟩:=x;rw [hx] at hp;obtain ⟨rfl,hr1⟩:=hp;have hdt:=Gb hx;have hlt:=Ly hx;have htl:t.length<1000000000:=by omega
  have hrl:r.length<1000000000:=by omega
  clear W0 hb0 hg1;go_wp2_with fail;refine (Do _ R r m 47 hr1 qA qA hrl).mono ?_;rintro e w2 ⟨rfl,hr2,hg2⟩;replace g0:=(Bv hg2 (Aa _ _ d0) hne).trans g0;replace d0:=An hg2 d0 hne;replace g1:=(Bv hg2 (Aa _ _ d1) hne).trans g1;replace d1:=An hg2 d1 hne;replace g2:=(Bv hg2 (Aa _ _ d2) hne).trans g2;replace d2:=An hg2 d2 hne;replace g3:=(Bv hg2 (Aa _ _ d3) hne).trans g3;replace d3:=An hg2 d3 hne;replace hgw:=hgw.trans hg2;clear hr1 hg2
  cases h47:Cs r 47
  ·rw [h47] at hr2;simp only [Bool.false_eq_true,if_false] at hr2;have HX:=Ae (show Fb L many=some (Om (Fm t) (Fm [49]),r,m) by rw [Xl];unfold Fb;rw [hx];simp only;rw [h47];rfl);have hd1:El [49]=true:=by decide
   have hl1:([49]:List UInt8).length<1000000000:=by decide
   clear hx h47 hlt hL;have hz':=Ja hd1;have hzt:=Ja hdt;go_wp2_with (first
    | (go_at_call 335;(with_reducible refine (Hl _ t hdt htl).mono ?_);rintro e w4 ⟨gt,at',nt,ct,kt,rfl,hnt,hb4⟩;replace g0:=(Ab hb4 (Aa _ _ d0)).trans g0;replace d0:=Bc hb4 d0;replace g1:=(Ab hb4 (Aa _ _ d1)).trans g1;replace d1:=Bc hb4 d1;replace g2:=(Ab hb4 (Aa _ _ d2)).trans g2;replace d2:=Bc hb4 d2;replace g3:=(Ab hb4 (Aa _ _ d3)).trans g3;replace d3:=Bc hb4 d3)
    | (go_at_call 335;(with_reducible refine (Hl _ [49] hd1 hl1).mono ?_);rintro e w5 ⟨gl,al,nl,cl,kl,rfl,hnl,hb5⟩;have nb0:=Bc hb5 (by simp [go_sem]:World.cell? _ ⟨w4.heap.size,0,none⟩=some (.bool gt));have nb1:=Bc hb5 (by simp [go_sem]:World.cell? _ ⟨w4.heap.size,1,none⟩=some (.slice at' nt ct));have HB45:=zI w4 hb5;have hz45:w4.heap.size<w5.heap.size:=(by have:=hb5.size;simp only [Aj] at this;omega);replace g0:=(Ab HB45 (Aa _ _ d0)).trans g0;replace d0:=Bc HB45 d0;replace g1:=(Ab HB45 (Aa _ _ d1)).trans g1;replace d1:=Bc HB45 d1;replace g2:=(Ab HB45 (Aa _ _ d2)).trans g2;replace d2:=Bc HB45 d2;replace g3:=(Ab HB45 (Aa _ _ d3)).trans g3;replace d3:=Bc HB45 d3))
   have et:=hnt.rd.len;have el:=hnl.rd.len;simp only [Int.natAbs_natCast] at et el;have hnt5:=hnt.keep HB45;have hr5:=(hr2.keep hb4).keep HB45;have hgw5:=(hgw.trans (Bx hb4 _)).trans (Bx HB45 _);have hz5:=hgw5.size;clear hb4 hb5 hnt hgw hr2 HB45;by_cases h0:Fm [49]=0
   ·exact absurd h0 (by rw [Xl];decide)
   ·have HX2:=Ae (show Om (Fm t) (Fm [49])=(E6 (Fm t:Nat) (Fm [49]:Nat),Fi (Fm t:Nat) (Fm [49]:Nat)) by unfold Om;rw [if_neg h0]);exact qAm
  ·rw [h47] at hr2;simp only [if_true] at hr2;go_wp2_with fail;refine (Tu _ R r.tail m hr2 qJ).mono ?_;rintro e w3 ⟨hg3,hp⟩;replace g0:=(Bv hg3 (Aa _ _ d0) hne).trans g0;replace d0:=An hg3 d0 hne;replace g1:=(Bv hg3 (Aa _ _ d1) hne).trans g1;replace d1:=An hg3 d1 hne;replace g2:=(Bv hg3 (Aa _ _ d2) hne).trans g2;replace d2:=An hg3 d2 hne;replace g3:=(Bv hg3 (Aa _ _ d3) hne).trans g3;replace d3:=An hg3 d3 hne;replace hgw:=hgw.trans hg3
   cases hy:Ig r.tail m with
   | none =>
    rw [hy] at hp;subst hp;refine ⟨rfl,?_⟩;rw [show Fb L many=none by unfold Fb;rw [hx];simp only;rw [h47,hy];rfl];exact .no hgw
   | some y =>
    obtain ⟨l,r',m'⟩:=y;rw [hy] at hp;obtain ⟨rfl,hr3⟩:=hp;have hdl:=Gb (Pe hy).1;have hll:=Jl hy;have hll':l.length<1000000000:=by simp at hll;omega
    have HX:=Ae (show Fb L many=some (Om (Fm t) (Fm l),r',m') by unfold Fb;rw [hx];simp only;rw [h47,hy];rfl);clear hx hy h47 hlt hL hr2 hg3 hll;have hz':=Ja hdl;have hzt:=Ja hdt;go_wp2_with (first
     | (go_at_call 335;(with_reducible refine (Hl _ t hdt htl).mono ?_);rintro e w4 ⟨gt,at',nt,ct,kt,rfl,hnt,hb4⟩;replace g0:=(Ab hb4 (Aa _ _ d0)).trans g0;replace d0:=Bc hb4 d0;replace g1:=(Ab hb4 (Aa _ _ d1)).trans g1;replace d1:=Bc hb4 d1;replace g2:=(Ab hb4 (Aa _ _ d2)).trans g2;replace d2:=Bc hb4 d2;replace g3:=(Ab hb4 (Aa _ _ d3)).trans g3;replace d3:=Bc hb4 d3)
     | (go_at_call 335;(with_reducible refine (Hl _ l hdl hll').mono ?_);rintro e w5 ⟨gl,al,nl,cl,kl,rfl,hnl,hb5⟩;have nb0:=Bc hb5 (by simp [go_sem]:World.cell? _ ⟨w4.heap.size,0,none⟩=some (.bool gt));have nb1:=Bc hb5 (by simp [go_sem]:World.cell? _ ⟨w4.heap.size,1,none⟩=some (.slice at' nt ct));have HB45:=zI w4 hb5;have hz45:w4.heap.size<w5.heap.size:=(by have:=hb5.size;simp only [Aj] at this;omega);replace g0:=(Ab HB45 (Aa _ _ d0)).trans g0;replace d0:=Bc HB45 d0;replace g1:=(Ab HB45 (Aa _ _ d1)).trans g1;replace d1:=Bc HB45 d1;replace g2:=(Ab HB45 (Aa _ _ d2)).trans g2;replace d2:=Bc HB45 d2;replace g3:=(Ab HB45 (Aa _ _ d3)).trans g3;replace d3:=Bc HB45 d3))
    have et:=hnt.rd.len;have el:=hnl.rd.len;simp only [Int.natAbs_natCast] at et el;have hnt5:=hnt.keep HB45;have hr5:=(hr3.keep hb4).keep HB45;have hgw5:=(hgw.trans (Bx hb4 _)).trans (Bx HB45 _);have hz5:=hgw5.size;clear hb4 hb5 hnt hgw hr3 HB45;by_cases h0:Fm l=0
    ·have HX2:=Ae (show Om (Fm t) (Fm l)=(0,1) by unfold Om;rw [if_pos h0]);rw [h0] at hnl;go_wp2_with (first|(go_at_call 62;(with_reducible refine (Ut _ _ _ _ _ _ (hnt5.keep qF) _ _ _ _ (hnl.keep qF)).mono ?_);rintro e w6 ⟨rfl,hb6⟩;have HB56:=zI w5 hb6;have hz56:w5.heap.size<w6.heap.size:=(by have:=hb6.size;simp only [Aj] at this;omega);replace g0:=(Ab HB56 (Aa _ _ d0)).trans g0;replace d0:=Bc HB56 d0;replace g1:=(Ab HB56 (Aa _ _ d1)).trans g1;replace d1:=Bc HB56 d1;replace g2:=(Ab HB56 (Aa _ _ d2)).trans g2;replace d2:=Bc HB56 d2;replace g3:=(Ab HB56 (Aa _ _ d3)).trans g3;replace d3:=Bc HB56 d3;have hk6:w.heap.size<w6.heap.size:=Aa _ _ d0));refine bodyPost_ret (v:=frV false none 0 0 false none 0 0) (by simp [*,results,Tryz.results283,go_sem]) rfl ?_;rw [HX.out,HX2.out];have hg6:=hgw5.trans (Bx HB56 _);have hne':w.heap.size≠R:=by omega
     have hr6:=hr5.keep HB56;exact ⟨J5 _ (Ce _ (Ce _ (Ce _ (Ce _ hg6 (Ad _)) (Ad _)) (Ad _)) (Ad _)),_,rfl,.inr ⟨rfl,rfl⟩,((((hr6.setOther _ hne').setOther _ hne').setOther _ hne').setOther _ hne').allocR _⟩
    ·have HX2:=Ae (show Om (Fm t) (Fm l)=(E6 (Fm t:Nat) (Fm l:Nat),Fi (Fm t:Nat) (Fm l:Nat)) by unfold Om;rw [if_neg h0]);exact qAm
end Go.Proofs.YtnnhcbeiogaknaaGreatDoor
end
