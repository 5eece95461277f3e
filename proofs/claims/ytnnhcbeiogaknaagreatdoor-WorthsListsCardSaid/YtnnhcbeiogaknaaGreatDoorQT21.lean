/- The reader of the shipped package: begins, power, fraction. -/
import Derived.Test.YtnnhcbeiogaknaaGreatDoorQT20
set_option linter.unusedSimpArgs false
set_option linter.unusedVariables false
set_option maxRecDepth 100000
set_option maxHeartbeats 4000000
section
namespace Go.Proofs.YtnnhcbeiogaknaaGreatDoor
open Go.RowKit
theorem Vx (b:UInt8):decide (0≤Lib.indexByte [120,121,122,116,48,49,50,51,52,53,54,55,56,57] b)=Ve b:=by
 have h:∀n:Fin 256,decide (0≤Lib.indexByte [120,121,122,116,48,49,50,51,52,53,54,55,56,57] (UInt8.ofNat n))=Ve (UInt8.ofNat n):=by decide
 have:=h ⟨b.toNat,b.toNat_lt⟩;simpa only [UInt8.ofNat_toNat] using this
theorem Nk (w:World) (R:Nat) (L:List UInt8) (many:Bool) (h:Ck w R L many) (hL:L.length<1000000000) :
  Calls Tryz.prog 280 #[.pointer (some ⟨R,0,none⟩)] w fun e w'=>e=.returned (.bool (Fb L))∧Below w.heap.size w w':=by
 have h0:=h.c0
 cases L with
 | nil =>
  go_enter Tryz.func280,Tryz.ntmps280;go_wp2_with fail;exact bodyPost_ret (v:=.bool false) (by simp [results,Tryz.results280,go_sem]) rfl ⟨rfl,Ac _ _⟩
 | cons b r =>
  have hy:(⟨(b::r).toArray⟩:ByteArray)[0]'(by simp [ByteArray.size])=b:=by simp [ByteArray.getElem_eq_getElem_data]
  have hI:∀W:World,Calls Tryz.prog 281 #[.string ⟨#[120,121,122,116,48,49,50,51,52,53,54,55,56,57]⟩,.int .u8 (b.toNat:Int)] W fun e w'=>e=.returned (.int .i64 (Lib.indexByte [120,121,122,116,48,49,50,51,52,53,54,55,56,57] b))∧w'=W:=fun W=>by
   have:=Tryz.strings_IndexByte ⟨#[120,121,122,116,48,49,50,51,52,53,54,55,56,57]⟩ (b.toNat:Int) W;have e:((b.toNat:Int).toNat.toUInt8)=b:=by simp
   rw [e] at this;exact this
  have hs:=Vx b;generalize Lib.indexByte [120,121,122,116,48,49,50,51,52,53,54,55,56,57] b=ix at *;have HS:=Ae hs;clear hs;go_enter Tryz.func280,Tryz.ntmps280;go_wp2_with (first|(go_at_call 281;refine (hI _).mono ?_;rintro e w1 ⟨rfl,rfl⟩));refine bodyPost_ret (v:=.bool (decide (0≤ix))) (by simp [results,Tryz.results280,go_sem]) rfl ⟨?_,Ac _ _⟩;rw [HS.out];rfl
theorem Dh (w:World) (R:Nat) (L:List UInt8) (many:Bool) (c:Int) (h:Ck w R L many) (h1:0≤c) (h2:c<256) (hL:L.length<1000000000) :
  Calls Tryz.prog 221 #[.pointer (some ⟨R,0,none⟩),.int .u8 c] w fun e w'=>e=.returned (.bool (Co L c))∧Ck w' R (if Co L c then L.tail else L) many∧w.grownBy w' (some R):=by
 refine (dQ w R L c h.c0 h.f0 h1 h2 hL).mono ?_;rintro e w' ⟨rfl,rfl⟩;refine ⟨rfl,?_,?_⟩
 ·split
  ·exact h.set0 _
  ·exact h
 ·split
  ·exact Bd _ (Cq _ _)
  ·exact Cq _ _
def Hu (w:World):Prop:=∃ev,w.cell? ⟨7,0,none⟩=some ev∧(ev=.nilIface∨∃te pe,ev=.iface te pe)
theorem Hu.grown {w w':World} {row:Option Nat} (h:Hu w) (hg:w.grownBy w' row) (hr:some 7≠row):Hu w':=by
 obtain ⟨ev,h1,h2⟩:=h;exact ⟨ev,hg.cell h1 hr,h2⟩
def N8 (w:World) (R:Nat) (x:Option (Nat×List UInt8×Bool)) (e:Ending) (w':World):Prop :=
 w.grownBy w' (some R)∧match x with|none=>e=.panicked Jt|some (n,r,m)=>e=.returned (.int .i64 (n:Nat))∧Ck w' R r m
theorem N8.no {w w':World} {R:Nat} (h:w.grownBy w' (some R)):N8 w R none (.panicked Jt) w':=⟨h,rfl⟩
theorem N8.yes {w w':World} {R n:Nat} {r:List UInt8} {m:Bool} (h:w.grownBy w' (some R)) (hr:Ck w' R r m):N8 w R (some (n,r,m)) (.returned (.int .i64 (n:Nat))) w':=⟨h,rfl,hr⟩
theorem Tu {w w':World} (h:w'=w∨∃t,w'=Lib.bytesWorld w 5 t):Below w.heap.size w w':=by
 rcases h with rfl|⟨t,rfl⟩
 ·exact Ac _ _
 ·exact Lib.bytesWorld_below _ _ _
theorem U2 (w:World) (R:Nat) (L:List UInt8) (many:Bool) (h:Ck w R L many) (hL:L.length<1000000000) (hV:Hu w) (hR:7<R) :
  Calls Tryz.prog 282 #[.pointer (some ⟨R,0,none⟩)] w (N8 w R (H6 L many)):=by
 have hne:some 7≠some R:=by simp;omega
 go_enter Tryz.func282,Tryz.ntmps282;go_wp2_with fail;refine (Dh _ R L many 94 h qA qA hL).mono ?_;rintro e w1 ⟨rfl,hr1,hg1⟩
 cases h94:Co L 94
 ·rw [h94] at hr1;have HX:=Ae (show H6 L many=some (1,L,many) by unfold H6;rw [h94];rfl);go_wp2_with fail;refine bodyPost_ret (v:=.int .i64 1) (by simp [results,Tryz.results282,go_sem]) rfl ?_;rw [HX.out];exact .yes hg1 hr1
 ·rw [h94] at hr1;simp only [if_true] at hr1;have hV1:=hV.grown hg1 hne;go_wp2_with fail;refine (Sk _ R L.tail many hr1 qI).mono ?_;rintro e w2 ⟨hg2,hp⟩;have hg12:=hg1.trans hg2
  cases hx:Hj L.tail many with
  | none =>
   rw [hx] at hp;subst hp;refine ⟨rfl,?_⟩;rw [show H6 L many=none by unfold H6;rw [h94,hx];rfl];exact .no hg12
  | some x =>
   obtain ⟨d,r,m⟩:=x;rw [hx] at hp;obtain ⟨rfl,hr⟩:=hp;have hdig:=Fv (Oc hx).1;have hdl:=Iy hx;have hat:=W7 hdig;have hV2:=hV1.grown hg2 hne;have hdlen:d.length<1000000000:=by simp at hdl;omega
   have HX:=Ae (show H6 L many=if 1000<Di d then some (0,r,true) else some (Di d,r,m) by unfold H6;rw [h94,hx];rfl);clear hx hdig hdl h94 hV hV1 hL;by_cases h63:Di d<9223372036854775808
   ·rw [if_pos h63] at hat;have hA:=fun W=>Tryz.strconv_Atoi_ok ⟨d.toArray⟩ (by simp [ByteArray.size];omega) _ hat W
    clear hat;by_cases hm:1000<Di d
    ·rw [if_pos hm] at HX;go_wp2_with (first|(go_at_call 332;refine (hA _).mono ?_;rintro e w3 ⟨rfl,hw3⟩;replace hw3:=Tu hw3;have hr3:=hr.keep hw3;have k0:=hr3.c0;have k1:=hr3.c1;have l0:=hr3.f0;have l1:=hr3.f1));exact qCl
    ·rw [if_neg hm] at HX;go_wp2_with (first|(go_at_call 332;refine (hA _).mono ?_;rintro e w3 ⟨rfl,hw3⟩;replace hw3:=Tu hw3;have hr3:=hr.keep hw3;have k0:=hr3.c0;have k1:=hr3.c1;have l0:=hr3.f0;have l1:=hr3.f1));refine bodyPost_ret (v:=.int .i64 (Di d:Nat)) (by simp [results,Tryz.results282,go_sem]) rfl ?_;rw [HX.out];exact .yes (hg12.trans (Bw hw3 _)) hr3
   ·rw [if_neg h63] at hat;obtain ⟨ev,hv1,hv2⟩:=hV2;have hA:=Tryz.strconv_Atoi_range ⟨d.toArray⟩ (by simp [ByteArray.size];omega) hat ev w2 hv1 hv2;rw [if_pos qA] at HX;clear hat;go_wp2_with (first|(go_at_call 332;refine hA.mono ?_;rintro e w3 ⟨N,rfl,hN,hb3,hw3⟩;clear hb3 hN;have hr3:=hr.keep hw3;have k0:=hr3.c0;have k1:=hr3.c1;have l0:=hr3.f0;have l1:=hr3.f1));exact qCl
def tS (w:World) (B:Nat) (v:Value) (c:PC):Prop:=Wn w B v c∨(v=frV false none 0 0 false none 0 0∧c=(0,1))
def Ro (w:World) (R:Nat) (x:Option (PC×List UInt8×Bool)) (e:Ending) (w':World):Prop :=
 w.grownBy w' (some R)∧match x with|none=>e=.panicked Jt|some (c,r,m)=>∃v,e=.returned v∧tS w' w.heap.size v c∧Ck w' R r m
theorem Ro.no {w w':World} {R:Nat} (h:w.grownBy w' (some R)):Ro w R none (.panicked Jt) w':=⟨h,rfl⟩
theorem Bv {w w':World} {row:Option Nat} {b i:Nat} (hg:w.grownBy w' row) (hlt:b<w.heap.size) (hne:some b≠row):w'.frozen? ⟨b,i,none⟩=w.frozen? ⟨b,i,none⟩ :=
 World.frozen?_of_block (a:=⟨b,i,none⟩) (hg.block b hlt hne)
theorem Cc {w w':World} {row:Option Nat} {p:Addr} (v:Value) (h:w.grownBy w' row) (hp:w.heap.size≤p.block):w.grownBy (w'.setCell p v) row:=by
 have hb:Below p.block w' (w'.setCell p v):=(Ac p.block w').setCell (p:=p) (Ad _) v;exact ⟨hb.os.trans h.os,hb.tape.trans h.tape,hb.output.trans h.output,Ah h.size hb.size,fun k hk hne=>(hb.block k qA).trans (h.block k hk hne)⟩
theorem Jd {w w':World} {row:Option Nat} (o:Obj) (h:w.grownBy w' row):w.grownBy (w'.alloc o) row:=h.trans (World.grownBy_alloc w' o row)
theorem Ck.setOther {w:World} {R:Nat} {L:List UInt8} {many:Bool} (h:Ck w R L many) {p:Addr} (v:Value) (hp:p.block≠R):Ck (w.setCell p v) R L many:=by
 have hh:∀i,(w.setCell p v).heap[(⟨R,i,none⟩:Addr).block]? = w.heap[(⟨R,i,none⟩:Addr).block]?:=fun i=>Below.heap_setCell w p v R (fun e=>hp e.symm)
 exact ⟨(Af (hh 0)).trans h.c0,(Af (hh 1)).trans h.c1,(World.frozen?_of_block (hh 0)).trans h.f0,(World.frozen?_of_block (hh 1)).trans h.f1⟩
theorem Ck.allocR {w:World} {R:Nat} {L:List UInt8} {many:Bool} (h:Ck w R L many) (o:Obj):Ck (w.alloc o) R L many:=h.keep ((Ac _ _).alloc (Ad _) o)
theorem Wc:Fd [49]=1:=by decide
theorem Mi (w:World) (R:Nat) (L:List UInt8) (many:Bool) (h:Ck w R L many) (hL:L.length<1000000000) :
  Calls Tryz.prog 283 #[.pointer (some ⟨R,0,none⟩)] w (Ro w R (E5 L many)):=by
 have hRlt:=h.lt;have hne:some w.heap.size≠some R:=by simp;omega
 have W0:=World.grownBy_alloc w (.cells #[.bool false,.slice none 0 0,.bool false,.slice none 0 0] 34) (some R);have hb0:Below w.heap.size w (w.alloc (.cells #[.bool false,.slice none 0 0,.bool false,.slice none 0 0] 34)):=by go_grown
 have d0:(w.alloc (.cells #[.bool false,.slice none 0 0,.bool false,.slice none 0 0] 34)).cell? ⟨w.heap.size,0,none⟩=some (.bool false):=by simp [go_sem]
 have g0:(w.alloc (.cells #[.bool false,.slice none 0 0,.bool false,.slice none 0 0] 34)).frozen? ⟨w.heap.size,0,none⟩=false:=by simp [go_sem]
 have d1:(w.alloc (.cells #[.bool false,.slice none 0 0,.bool false,.slice none 0 0] 34)).cell? ⟨w.heap.size,1,none⟩=some (.slice none 0 0):=by simp [go_sem]
 have g1:(w.alloc (.cells #[.bool false,.slice none 0 0,.bool false,.slice none 0 0] 34)).frozen? ⟨w.heap.size,1,none⟩=false:=by simp [go_sem]
 have d2:(w.alloc (.cells #[.bool false,.slice none 0 0,.bool false,.slice none 0 0] 34)).cell? ⟨w.heap.size,2,none⟩=some (.bool false):=by simp [go_sem]
 have g2:(w.alloc (.cells #[.bool false,.slice none 0 0,.bool false,.slice none 0 0] 34)).frozen? ⟨w.heap.size,2,none⟩=false:=by simp [go_sem]
 have d3:(w.alloc (.cells #[.bool false,.slice none 0 0,.bool false,.slice none 0 0] 34)).cell? ⟨w.heap.size,3,none⟩=some (.slice none 0 0):=by simp [go_sem]
 have g3:(w.alloc (.cells #[.bool false,.slice none 0 0,.bool false,.slice none 0 0] 34)).frozen? ⟨w.heap.size,3,none⟩=false:=by simp [go_sem]
 go_enter Tryz.func283,Tryz.ntmps283;go_wp2_with fail;refine (Xl _ R L many (h.keep hb0) hL).mono ?_;rintro e w1 ⟨hg1,hp⟩;replace g0:=(Bv hg1 (Aa _ _ d0) hne).trans g0;replace d0:=An hg1 d0 hne;replace g1:=(Bv hg1 (Aa _ _ d1) hne).trans g1;replace d1:=An hg1 d1 hne;replace g2:=(Bv hg1 (Aa _ _ d2) hne).trans g2;replace d2:=An hg1 d2 hne;replace g3:=(Bv hg1 (Aa _ _ d3) hne).trans g3;replace d3:=An hg1 d3 hne;have hgw:=W0.trans hg1
 cases hx:Jr L many with
 | none =>
  rw [hx] at hp;subst hp;refine ⟨rfl,?_⟩;rw [show E5 L many=none by unfold E5;rw [hx]];exact .no hgw
 | some x =>
  obtain ⟨t,r,m⟩:=x;rw [hx] at hp;obtain ⟨rfl,hr1⟩:=hp;have hdt:=Fv hx;have hlt:=K4 hx;have htl:t.length<1000000000:=by omega
  have hrl:r.length<1000000000:=by omega
  clear W0 hb0 hg1;go_wp2_with fail;refine (Dh _ R r m 47 hr1 qA qA hrl).mono ?_;rintro e w2 ⟨rfl,hr2,hg2⟩;replace g0:=(Bv hg2 (Aa _ _ d0) hne).trans g0;replace d0:=An hg2 d0 hne;replace g1:=(Bv hg2 (Aa _ _ d1) hne).trans g1;replace d1:=An hg2 d1 hne;replace g2:=(Bv hg2 (Aa _ _ d2) hne).trans g2;replace d2:=An hg2 d2 hne;replace g3:=(Bv hg2 (Aa _ _ d3) hne).trans g3;replace d3:=An hg2 d3 hne;replace hgw:=hgw.trans hg2;clear hr1 hg2
  cases h47:Co r 47
  ·rw [h47] at hr2;simp only [Bool.false_eq_true,if_false] at hr2;have HX:=Ae (show E5 L many=some (Nu (Fd t) (Fd [49]),r,m) by rw [Wc];unfold E5;rw [hx];simp only;rw [h47];rfl);have hd1:Ee [49]=true:=by decide
   have hl1:([49]:List UInt8).length<1000000000:=by decide
   clear hx h47 hlt hL;have hz':=Il hd1;have hzt:=Il hdt;go_wp2_with (first
    | (go_at_call 335;(with_reducible refine (Gu _ t hdt htl).mono ?_);rintro e w4 ⟨gt,at',nt,ct,kt,rfl,hnt,hb4⟩;replace g0:=(Ab hb4 (Aa _ _ d0)).trans g0;replace d0:=Bb hb4 d0;replace g1:=(Ab hb4 (Aa _ _ d1)).trans g1;replace d1:=Bb hb4 d1;replace g2:=(Ab hb4 (Aa _ _ d2)).trans g2;replace d2:=Bb hb4 d2;replace g3:=(Ab hb4 (Aa _ _ d3)).trans g3;replace d3:=Bb hb4 d3)
    | (go_at_call 335;(with_reducible refine (Gu _ [49] hd1 hl1).mono ?_);rintro e w5 ⟨gl,al,nl,cl,kl,rfl,hnl,hb5⟩;have nb0:=Bb hb5 (by simp [go_sem]:World.cell? _ ⟨w4.heap.size,0,none⟩=some (.bool gt));have nb1:=Bb hb5 (by simp [go_sem]:World.cell? _ ⟨w4.heap.size,1,none⟩=some (.slice at' nt ct));have HB45:=zI w4 hb5;have hz45:w4.heap.size<w5.heap.size:=(by have:=hb5.size;simp only [Aj] at this;omega);replace g0:=(Ab HB45 (Aa _ _ d0)).trans g0;replace d0:=Bb HB45 d0;replace g1:=(Ab HB45 (Aa _ _ d1)).trans g1;replace d1:=Bb HB45 d1;replace g2:=(Ab HB45 (Aa _ _ d2)).trans g2;replace d2:=Bb HB45 d2;replace g3:=(Ab HB45 (Aa _ _ d3)).trans g3;replace d3:=Bb HB45 d3))
   have et:=hnt.rd.len;have el:=hnl.rd.len;simp only [Int.natAbs_natCast] at et el;have hnt5:=hnt.keep HB45;have hr5:=(hr2.keep hb4).keep HB45;have hgw5:=(hgw.trans (Bw hb4 _)).trans (Bw HB45 _);have hz5:=hgw5.size;clear hb4 hb5 hnt hgw hr2 HB45;by_cases h0:Fd [49]=0
   ·exact absurd h0 (by rw [Wc];decide)
   ·have HX2:=Ae (show Nu (Fd t) (Fd [49])=(Fj (Fd t:Nat) (Fd [49]:Nat),Fr (Fd t:Nat) (Fd [49]:Nat)) by unfold Nu;rw [if_neg h0]);exact qAk
  ·rw [h47] at hr2;simp only [if_true] at hr2;go_wp2_with fail;refine (Sk _ R r.tail m hr2 qI).mono ?_;rintro e w3 ⟨hg3,hp⟩;replace g0:=(Bv hg3 (Aa _ _ d0) hne).trans g0;replace d0:=An hg3 d0 hne;replace g1:=(Bv hg3 (Aa _ _ d1) hne).trans g1;replace d1:=An hg3 d1 hne;replace g2:=(Bv hg3 (Aa _ _ d2) hne).trans g2;replace d2:=An hg3 d2 hne;replace g3:=(Bv hg3 (Aa _ _ d3) hne).trans g3;replace d3:=An hg3 d3 hne;replace hgw:=hgw.trans hg3
   cases hy:Hj r.tail m with
   | none =>
    rw [hy] at hp;subst hp;refine ⟨rfl,?_⟩;rw [show E5 L many=none by unfold E5;rw [hx];simp only;rw [h47,hy];rfl];exact .no hgw
   | some y =>
    obtain ⟨l,r',m'⟩:=y;rw [hy] at hp;obtain ⟨rfl,hr3⟩:=hp;have hdl:=Fv (Oc hy).1;have hll:=Iy hy;have hll':l.length<1000000000:=by simp at hll;omega
    have HX:=Ae (show E5 L many=some (Nu (Fd t) (Fd l),r',m') by unfold E5;rw [hx];simp only;rw [h47,hy];rfl);clear hx hy h47 hlt hL hr2 hg3 hll;have hz':=Il hdl;have hzt:=Il hdt;go_wp2_with (first
     | (go_at_call 335;(with_reducible refine (Gu _ t hdt htl).mono ?_);rintro e w4 ⟨gt,at',nt,ct,kt,rfl,hnt,hb4⟩;replace g0:=(Ab hb4 (Aa _ _ d0)).trans g0;replace d0:=Bb hb4 d0;replace g1:=(Ab hb4 (Aa _ _ d1)).trans g1;replace d1:=Bb hb4 d1;replace g2:=(Ab hb4 (Aa _ _ d2)).trans g2;replace d2:=Bb hb4 d2;replace g3:=(Ab hb4 (Aa _ _ d3)).trans g3;replace d3:=Bb hb4 d3)
     | (go_at_call 335;(with_reducible refine (Gu _ l hdl hll').mono ?_);rintro e w5 ⟨gl,al,nl,cl,kl,rfl,hnl,hb5⟩;have nb0:=Bb hb5 (by simp [go_sem]:World.cell? _ ⟨w4.heap.size,0,none⟩=some (.bool gt));have nb1:=Bb hb5 (by simp [go_sem]:World.cell? _ ⟨w4.heap.size,1,none⟩=some (.slice at' nt ct));have HB45:=zI w4 hb5;have hz45:w4.heap.size<w5.heap.size:=(by have:=hb5.size;simp only [Aj] at this;omega);replace g0:=(Ab HB45 (Aa _ _ d0)).trans g0;replace d0:=Bb HB45 d0;replace g1:=(Ab HB45 (Aa _ _ d1)).trans g1;replace d1:=Bb HB45 d1;replace g2:=(Ab HB45 (Aa _ _ d2)).trans g2;replace d2:=Bb HB45 d2;replace g3:=(Ab HB45 (Aa _ _ d3)).trans g3;replace d3:=Bb HB45 d3))
    have et:=hnt.rd.len;have el:=hnl.rd.len;simp only [Int.natAbs_natCast] at et el;have hnt5:=hnt.keep HB45;have hr5:=(hr3.keep hb4).keep HB45;have hgw5:=(hgw.trans (Bw hb4 _)).trans (Bw HB45 _);have hz5:=hgw5.size;clear hb4 hb5 hnt hgw hr3 HB45;by_cases h0:Fd l=0
    ·have HX2:=Ae (show Nu (Fd t) (Fd l)=(0,1) by unfold Nu;rw [if_pos h0]);rw [h0] at hnl;go_wp2_with (first|(go_at_call 62;(with_reducible refine (Tj _ _ _ _ _ _ (hnt5.keep qF) _ _ _ _ (hnl.keep qF)).mono ?_);rintro e w6 ⟨rfl,hb6⟩;have HB56:=zI w5 hb6;have hz56:w5.heap.size<w6.heap.size:=(by have:=hb6.size;simp only [Aj] at this;omega);replace g0:=(Ab HB56 (Aa _ _ d0)).trans g0;replace d0:=Bb HB56 d0;replace g1:=(Ab HB56 (Aa _ _ d1)).trans g1;replace d1:=Bb HB56 d1;replace g2:=(Ab HB56 (Aa _ _ d2)).trans g2;replace d2:=Bb HB56 d2;replace g3:=(Ab HB56 (Aa _ _ d3)).trans g3;replace d3:=Bb HB56 d3;have hk6:w.heap.size<w6.heap.size:=Aa _ _ d0));refine bodyPost_ret (v:=frV false none 0 0 false none 0 0) (by simp [*,results,Tryz.results283,go_sem]) rfl ?_;rw [HX.out,HX2.out];have hg6:=hgw5.trans (Bw HB56 _);have hne':w.heap.size≠R:=by omega
     have hr6:=hr5.keep HB56;exact ⟨Jd _ (Cc _ (Cc _ (Cc _ (Cc _ hg6 (Ad _)) (Ad _)) (Ad _)) (Ad _)),_,rfl,.inr ⟨rfl,rfl⟩,((((hr6.setOther _ hne').setOther _ hne').setOther _ hne').setOther _ hne').allocR _⟩
    ·have HX2:=Ae (show Nu (Fd t) (Fd l)=(Fj (Fd t:Nat) (Fd l:Nat),Fr (Fd t:Nat) (Fd l:Nat)) by unfold Nu;rw [if_neg h0]);exact qAk
def Ap (k n:Nat) (a:Option Addr):Prop:=n=0∨∀x,a=some x→x.block≠k
theorem RdL.ap {w w':World} {a:Option Addr} {n c k:Nat} {d:List Nat} (h:RdL w a n c d) (ha:Ap k n a) (hg:w.grownBy w' (some k)):RdL w' a n c d:=by
 refine ⟨h.len,h.cap,h.few,h.top,h.small,?_⟩;rcases h.cell with h0|⟨b,o,hb,hc⟩
 ·exact .inl h0
 ·rcases ha with h0|ha
  ·exact .inl h0
  ·exact .inr ⟨b,o,hb,fun i hi=>hg.cell (hc i hi) fun e=>ha _ hb (by simpa using e)⟩
theorem Bi.ap {w w':World} {g1:Bool} {a1:Option Addr} {n1 c1:Nat} {p:Int} {g2:Bool} {a2:Option Addr} {n2 c2 k:Nat} {q:Int} (h:Bi w g1 a1 n1 c1 p g2 a2 n2 c2 q) (h1:Ap k n1 a1) (h2:Ap k n2 a2) (hg:w.grownBy w' (some k)):Bi w' g1 a1 n1 c1 p g2 a2 n2 c2 q :=
 ⟨⟨h.top.neg,h.top.rd.ap h1 hg⟩,⟨h.low.neg,h.low.rd.ap h2 hg⟩,h.pos,h.red⟩
theorem RdL.ap_of {w:World} {a:Option Addr} {n c k:Nat} {d:List Nat} (h:RdL w a n c d) (hk:w.heap.size≤k):Ap k n a:=by
 rcases h.cell with h0|⟨b,o,hb,hc⟩
 ·exact .inl h0
 ·by_cases h0:n=0
  ·exact .inl h0
  ·right;intro x hx e;rw [hb] at hx;cases hx
   have:=Aa _ _ (hc 0 qA);simp at this e;omega
theorem Ap.few {k n c:Nat} {a:Option Addr} (h:Ap k c a) (hn:n≤c):Ap k n a:=h.imp (fun h=>by omega) id
theorem Bf.apk {B k c:Nat} {w:World} {a:Option Addr} (h:Bf B w a c) (hk:k<B):Ap k c a:=by
 rcases h with h|⟨b,cur,h1,h2,_⟩
 ·exact .inl h
 ·exact .inr fun x hx e=>by rw [h1] at hx;cases hx;simp at e;omega
theorem Bf.ap_of {B k c:Nat} {w:World} {a:Option Addr} (h:Bf B w a c) (hk:w.heap.size≤k):Ap k c a:=by
 rcases h with h|⟨b,cur,h1,h2,h3,_⟩
 ·exact .inl h
 ·exact .inr fun x hx e=>by rw [h1] at hx;cases hx;have:=(Ar.1 h3).1;simp at e;omega
theorem Bf.off_ap {B k c:Nat} {w w':World} {a:Option Addr} (h:Bf B w a c) (ha:Ap k c a) (hg:w.grownBy w' (some k)):Bf B w' a c:=by
 rcases h with h|⟨b,cur,h1,h2,h3,h4⟩
 ·exact .inl h
 ·rcases ha with ha|ha
  ·exact .inl ha
  ·exact .inr ⟨b,cur,h1,h2,by rw [hg.block b (Ar.1 h3).1 (fun e=>ha _ h1 (by simpa using e))];exact h3,h4⟩
def Pq (w0 w:World) (CB OB:Nat) (c:PC):Prop :=
 ∃g1 a1 n1 c1 g2 a2 n2 c2,w.cell? ⟨CB,0,none⟩=some (.bool g1)∧w.cell? ⟨CB,1,none⟩=some (.slice a1 n1 c1)∧w.cell? ⟨CB,2,none⟩=some (.bool g2)∧w.cell? ⟨CB,3,none⟩=some (.slice a2 n2 c2) ∧
  Bi w g1 a1 n1 c1 c.1 g2 a2 n2 c2 c.2∧Bf w0.heap.size w a1 c1∧Bf w0.heap.size w a2 c2∧Ap CB c1 a1∧Ap CB c2 a2∧Ap OB c1 a1∧Ap OB c2 a2∧Ap2 a1 c1 a2 c2
structure C7 (w0 w:World) (R CB OB:Nat) (st:TS):Prop where
 rdr:Ck w R st.L st.many
 fr:Pq w0 w CB OB st.c
 cf:∀i,i<4→w.frozen? ⟨CB,i,none⟩=false
 oc:∀i,i<4→w.cell? ⟨OB,i,none⟩=some (.int .i64 (st.o i:Nat))
 of:∀i,i<4→w.frozen? ⟨OB,i,none⟩=false
 grown:w0.grownBy w (some R)
 h1:R<w0.heap.size
 h2:w0.heap.size≤CB
 h3:CB<OB
 h4:OB<w.heap.size
theorem Pq.grown {w0 w w':World} {R CB OB:Nat} {c:PC} (h:Pq w0 w CB OB c) (hg:w.grownBy w' (some R)) (hR:R<w0.heap.size) (hC:CB≠R):Pq w0 w' CB OB c:=by
 obtain ⟨g1,a1,n1,c1,g2,a2,n2,c2,e0,e1,e2,e3,hf,k1,k2,k3,k4,k5,k6,k7⟩:=h;have hne:∀i,some (⟨CB,i,none⟩:Addr).block≠some R:=fun i=>by simpa using hC
 exact ⟨g1,a1,n1,c1,g2,a2,n2,c2,hg.cell e0 (hne 0),hg.cell e1 (hne 1),hg.cell e2 (hne 2),hg.cell e3 (hne 3),hf.butR (k1.newA hf.top.rd) (k2.newA hf.low.rd) hg (fun k hk=>by cases hk;exact hR),k1.butR hg (fun k hk=>by cases hk;exact hR),k2.butR hg (fun k hk=>by cases hk;exact hR),k3,k4,k5,k6,k7⟩
theorem Pq.keep {w0 w w':World} {CB OB:Nat} {c:PC} (h:Pq w0 w CB OB c) (hb:Below w.heap.size w w'):Pq w0 w' CB OB c:=by
 obtain ⟨g1,a1,n1,c1,g2,a2,n2,c2,e0,e1,e2,e3,hf,k1,k2,k3,k4,k5,k6,k7⟩:=h;exact ⟨g1,a1,n1,c1,g2,a2,n2,c2,Bb hb e0,Bb hb e1,Bb hb e2,Bb hb e3,hf.keep hb,k1.keep hb,k2.keep hb,k3,k4,k5,k6,k7⟩
theorem C7.rd {w0 w w':World} {R CB OB:Nat} {st:TS} (h:C7 w0 w R CB OB st) (hg:w.grownBy w' (some R)) {L:List UInt8} {m:Bool} (hr:Ck w' R L m):C7 w0 w' R CB OB ⟨st.c,st.o,L,m⟩:=by
 have k1:=h.h1;have k2:=h.h2;have k3:=h.h3;have k4:=h.h4;have hsz:=hg.size;refine ⟨hr,h.fr.grown hg h.h1 qA,fun i hi=>?_,fun i hi=>hg.cell (h.oc i hi) qI,fun i hi=>?_,h.grown.trans hg,h.h1,h.h2,h.h3,by omega⟩
 ·exact (Bv hg qA qI).trans (h.cf i hi)
 ·exact (Bv hg qA qI).trans (h.of i hi)
theorem C7.keep {w0 w w':World} {R CB OB:Nat} {st:TS} (h:C7 w0 w R CB OB st) (hb:Below w.heap.size w w'):C7 w0 w' R CB OB st:=by
 have k3:=h.h3;have k4:=h.h4;have hsz:=hb.size;exact ⟨h.rdr.keep hb,h.fr.keep hb,fun i hi=>(Ab hb (by show CB<_;omega)).trans (h.cf i hi),fun i hi=>Bb hb (h.oc i hi),fun i hi=>(Ab hb (by show OB<_;omega)).trans (h.of i hi),h.grown.trans (Bw hb _),h.h1,h.h2,h.h3,by omega⟩
theorem C7.setO {w0 w:World} {R CB OB:Nat} {st:TS} (h:C7 w0 w R CB OB st) (i:Nat) (hi:i<4) (n:Nat):C7 w0 (w.setCell ⟨OB,i,none⟩ (.int .i64 (st.o i+n:Nat))) R CB OB ⟨st.c,Sw st.o i n,st.L,st.many⟩:=by
 have k1:=h.h1;have k2:=h.h2;have k3:=h.h3;have k4:=h.h4;have hg:w.grownBy (w.setCell ⟨OB,i,none⟩ (.int .i64 (st.o i+n:Nat))) (some OB):=Bd _ (Cq _ _);obtain ⟨g1,a1,n1,c1,g2,a2,n2,c2,e0,e1,e2,e3,hf,q1,q2,q3,q4,q5,q6,q7⟩:=h.fr;have hne:∀j,some (⟨CB,j,none⟩:Addr).block≠some OB:=fun j=>by simp;omega
 refine ⟨h.rdr.setOther _ (by show OB≠R;omega),⟨g1,a1,n1,c1,g2,a2,n2,c2,hg.cell e0 (hne 0),hg.cell e1 (hne 1),hg.cell e2 (hne 2),hg.cell e3 (hne 3),hf.ap (q5.few hf.top.rd.cap) (q6.few hf.low.rd.cap) hg,q1.off_ap q5 hg,q2.off_ap q6 hg,q3,q4,q5,q6,q7⟩,fun j hj=>?_,fun j hj=>?_,fun j hj=>?_,Cc _ h.grown (by show w0.heap.size≤OB;omega),h.h1,h.h2,h.h3,by simpa using h.h4⟩
 ·exact (Bv hg qA qI).trans (h.cf j hj)
 ·show World.cell? _ _=some (Value.int .i64 (Sw st.o i n j:Nat));unfold Sw;by_cases e:j=i
  ·subst e;rw [if_pos rfl];have:=h.oc j hi;simp [*,go_sem]
  ·rw [if_neg e,←h.oc j hj];exact World.cell?_setCell_other (w:=w) (a:=⟨OB,i,none⟩) (b:=⟨OB,j,none⟩) _ (by intro e';injection e' with e1' e2';exact e e2'.symm)
 ·rw [←h.of j hj];simp [go_sem]
theorem C7.setC {w0 w:World} {R CB OB:Nat} {st:TS} (h:C7 w0 w R CB OB st) {g1:Bool} {a1:Option Addr} {n1 c1:Nat} {g2:Bool} {a2:Option Addr} {n2 c2:Nat} {c:PC} (hf:Bi w g1 a1 n1 c1 c.1 g2 a2 n2 c2 c.2) (k1:Bf (OB+1) w a1 c1) (k2:Bf (OB+1) w a2 c2) (hap:Ap2 a1 c1 a2 c2) :
  C7 w0 ((((w.setCell ⟨CB,0,none⟩ (.bool g1)).setCell ⟨CB,1,none⟩ (.slice a1 n1 c1)).setCell ⟨CB,2,none⟩ (.bool g2)).setCell ⟨CB,3,none⟩ (.slice a2 n2 c2)) R CB OB ⟨c,st.o,st.L,st.many⟩:=by
 have q1:=h.h1;have q2:=h.h2;have q3:=h.h3;have q4:=h.h4;have hg:w.grownBy ((((w.setCell ⟨CB,0,none⟩ (.bool g1)).setCell ⟨CB,1,none⟩ (.slice a1 n1 c1)).setCell ⟨CB,2,none⟩ (.bool g2)).setCell ⟨CB,3,none⟩ (.slice a2 n2 c2)) (some CB):=Bd _ (Bd _ (Bd _ (Bd _ (Cq _ _))));obtain ⟨_,_,_,_,_,_,_,_,e0,e1,e2,e3,_⟩:=h.fr;have hCR:CB≠R:=by omega
 have cz:∀i,i<4→w.frozen? ⟨CB,i,none⟩=false:=h.cf;refine ⟨(((h.rdr.setOther _ hCR).setOther _ hCR).setOther _ hCR).setOther _ hCR,⟨g1,a1,n1,c1,g2,a2,n2,c2,by simp [*,go_sem],by simp [*,go_sem],by simp [*,go_sem],by simp [*,go_sem],hf.ap ((k1.apk qA).few hf.top.rd.cap) ((k2.apk qA).few hf.low.rd.cap) hg,(k1.off_ap (k1.apk qA) hg).mono qA,(k2.off_ap (k2.apk qA) hg).mono qA,k1.apk qA,k2.apk qA,k1.apk qA,k2.apk qA,hap⟩,fun j hj=>?_,fun j hj=>hg.cell (h.oc j hj) qI,fun j hj=>(Bv hg qA qI).trans (h.of j hj),Cc _ (Cc _ (Cc _ (Cc _ h.grown h.h2) h.h2) h.h2) h.h2,h.h1,h.h2,h.h3,by simpa using h.h4⟩;rw [←h.cf j hj];simp [go_sem]
def Ft (w:World) (k:Nat):Prop:=∀cur,w.heap[k]?≠some (.cells cur 147 (0,0))
def yN (w:World) (k:Nat):Prop:=∀cur,w.heap[k]?≠some (.cells cur 79 (0,0))
theorem Bf.ap_not {B k c:Nat} {w:World} {a:Option Addr} (h:Bf B w a c) (hm:Ft w k):Ap k c a:=by
 rcases h with h|⟨b,cur,h1,h2,h3,_⟩
 ·exact .inl h
 ·refine .inr fun x hx e=>?_
  rw [h1] at hx;cases hx
  have e:b=k:=e;subst e;exact hm cur h3
theorem Wp {w w':World} {B n c k:Nat} {a:Option Addr} {l:List PT} (h:Bc w B a n c l) (ho:Bk w B a n c) (hd:Ft w k) (ht:yN w k) (hg:w.grownBy w' (some k)):Bc w' B a n c l∧Bk w' B a n c:=by
 obtain ⟨p,hp,hx⟩:=h.ts;obtain ⟨p',o,t,h1,h2,h3⟩:=ho.ts;have hrow:n=0∨∀b o',a=some ⟨b,o',none⟩→b≠k:=by
  rcases ho.row with h0|⟨b,cur,e1,e2,e3,e4⟩
  ·exact .inl (by have:=hp.cap;omega)
  ·refine .inr fun b' o' e=>?_
   rw [e1] at e;cases e
   intro e;subst e;exact ht cur e3
 have hcell:∀q,RdP w a n c q→n=0∨∃b o,a=some ⟨b,o,none⟩∧∀i,i<n→Km w' b (o+i*8) (q i):=by
  intro q hq;rcases hq.cell with h0|⟨b,o,ha,hc⟩
  ·exact .inl h0
  ·rcases hrow with h0|hr
   ·exact .inl h0
   ·exact .inr ⟨b,o,ha,fun i hi=>(hc i hi).butR hg (fun e=>hr b o ha (by simpa using e))⟩
 have hsame:∀i,i<n→(p i).a1=(p' i).a1∧(p i).c1=(p' i).c1∧(p i).a2=(p' i).a2∧(p i).c2=(p' i).c2:=by
  exact qBh
 have hap:∀i,i<n→Ap k (p' i).c1 (p' i).a1∧Ap k (p' i).c2 (p' i).a2:=fun i hi=>⟨(h3 i hi).top.ap_not hd,(h3 i hi).low.ap_not hd⟩
 have htm:∀q,RdP w a n c q→(∀i,i<n→Ap k (q i).c1 (q i).a1∧Ap k (q i).c2 (q i).a2)→RdP w' a n c q:=fun q hq hA=>⟨hq.cap,hq.few,hq.top,fun i hi=>by
  have hr:=hq.tm i hi;obtain ⟨k1,k2⟩:=hA i hi;exact ⟨hr.top.ap (k1.few hr.top.cap) hg,hr.low.ap (k2.few hr.low.cap) hg,hr.s0,hr.s1,hr.s2,hr.s3⟩,hcell q hq⟩
 refine ⟨⟨h.len,h.base,h.nl,p,htm p hp (fun i hi=>?_),hx⟩,⟨?_,p',o,t,htm p' h1 hap,h2,fun i hi=>?_⟩⟩
 ·obtain ⟨s1,s2,s3,s4⟩:=hsame i hi;rw [s1,s2,s3,s4];exact hap i hi
 ·refine ho.row.imp id fun⟨b,cur,e1,e2,e3,e4⟩=>⟨b,cur,e1,e2,?_,e4⟩
  rw [hg.block b (Ar.1 e3).1 (fun e=>by
   have e:b=k:=by simpa using e
   subst e;exact ht cur e3)]
  exact e3
 ·obtain ⟨k1,k2⟩:=hap i hi;exact ⟨(h3 i hi).top.off_ap k1 hg,(h3 i hi).low.off_ap k2 hg,(h3 i hi).ap,(h3 i hi).m1,(h3 i hi).m2⟩
theorem Ny {w:World} {base base':Nat} {e:TypeId} {size:Nat} {v:Value} {n:Nat} {xs:List Value} (h:w.ownsRow base e size v n xs) (hb:base'≤base):w.ownsRow base' e size v n xs:=by
 exact qCx
structure F5 (w:World) (B B':Nat) (v:Value) (L:List (List PT)):Prop where
 ex:∃xs:List Value,w.ownsRow B 25 1 v L.length xs∧∀(i:Nat) (l:List PT),L[i]? = some l→∃a n c,xs[i]? = some (Value.slice a n c)∧Bc w B' a n c l∧Bk w B' a n c
theorem F5.nil (w:World) (B B':Nat):F5 w B B' (.slice none 0 0) []:=⟨[],World.ownsRow_nil _ _ _ _,fun i l hl=>by simp at hl⟩
theorem F5.keep {w w':World} {B B':Nat} {v:Value} {L:List (List PT)} (h:F5 w B B' v L) (hb:Below w.heap.size w w'):F5 w' B B' v L:=by
 obtain ⟨xs,h1,h2⟩:=h.ex;refine ⟨xs,Bm h1 hb,fun i l hl=>?_⟩;obtain ⟨a,n,c,e,hp,ho⟩:=h2 i l hl;exact ⟨a,n,c,e,hp.keep hb,ho.keep hb⟩
theorem F5.next {w w':World} {B B' n c:Nat} {v v':Value} {xs:List Value} {L:List (List PT)} {a:Option Addr} {l:List PT} (hown:w.ownsRow B 25 1 v L.length xs) (hxs:∀(i:Nat) (l:List PT),L[i]? = some l→∃a n c,xs[i]? = some (Value.slice a n c)∧Bc w B' a n c l∧Bk w B' a n c)
  (hp:Bc w B' a n c l) (ho:Bk w B' a n c) (hown':w'.ownsRow B 25 1 v' (L.length+1) (xs++[Value.slice a n c])) (hg:w.grownBy w' v.ownBlock):F5 w' B B' v' (L++[l]):=by
 have hlx:xs.length=L.length:=by simpa using hown.1
 have hk:∀a n c l,Bc w B' a n c l→Bk w B' a n c→Bc w' B' a n c l∧Bk w' B' a n c:=by
  intro a n c l hp ho;rcases hown.2 with ⟨rfl,_⟩|⟨g,cap,cur,rfl,_,hcur,_⟩
  ·exact ⟨hp.butR hg (fun k e=>by cases e),ho.butR hg (fun k e=>by cases e)⟩
  ·exact Wp hp ho (fun cur' e=>by rw [hcur] at e;simp at e) (fun cur' e=>by rw [hcur] at e;simp at e) hg
 refine ⟨xs++[.slice a n c],by simpa using hown',fun i l' hl=>?_⟩;by_cases hi:i<L.length
 ·rw [Az hi] at hl;obtain ⟨a',n',c',e,hp',ho'⟩:=hxs i l' hl;exact ⟨a',n',c',by rw [Az qA];exact e,hk _ _ _ _ hp' ho'⟩
 ·obtain ⟨hlt,-⟩:=List.getElem?_eq_some_iff.1 hl;have:i=L.length:=by simp at hlt;omega
  subst this;rw [A4 (Ad _)] at hl;simp at hl;subst hl;exact ⟨a,n,c,by rw [A4 qA];simp [hlx],hk _ _ _ _ hp ho⟩
def aR (w:World) (B':Nat) (L:List (List PT)) (e:Ending) (w':World):Prop:=∃v,e=.returned v∧F5 w' w.heap.size B' v L∧Below w.heap.size w w'
def Sl (w:World) (k:Nat):Prop:=(∃cur,w.heap[k]? = some (.cells cur 79 (0,0)))∨∃cur,w.heap[k]? = some (.cells cur 147 (0,0))
structure KpT (w w':World):Prop where
 os:w'.os=w.os
 tape:w'.tape=w.tape
 output:w'.output=w.output
 size:w.heap.size≤w'.heap.size
 block:∀k,Sl w k→w'.heap[k]? = w.heap[k]?
theorem KpT.trans {a b c:World} (h:KpT a b) (h':KpT b c):KpT a c :=
 ⟨h'.os.trans h.os,h'.tape.trans h.tape,h'.output.trans h.output,Ah h.size h'.size,fun k hk=>by
  have e:=h.block k hk;exact (h'.block k (hk.imp (fun⟨cur,x⟩=>⟨cur,e.trans x⟩) (fun⟨cur,x⟩=>⟨cur,e.trans x⟩))).trans e⟩
theorem Sl.lt {w:World} {k:Nat} (h:Sl w k):k<w.heap.size:=by
 rcases h with ⟨cur,h⟩|⟨cur,h⟩<;>exact (Ar.1 h).1
theorem KpT.of_grown {w w':World} {row:Option Nat} (h:w.grownBy w' row) (hr:∀k,row=some k→¬Sl w k):KpT w w' :=
 ⟨h.os,h.tape,h.output,h.size,fun k hk=>h.block k hk.lt (fun e=>hr k e.symm hk)⟩
theorem KpT.of_below {w w':World} (h:Below w.heap.size w w'):KpT w w':=.of_grown (Bq h) (fun k e=>by cases e)
theorem KpT.putObj {w:World} {l:Nat} {o o':Obj} (h:w.heap[l]? = some o) (hc:o.isCells=false):KpT w (w.putObj l o') :=
 .of_grown (grownBy_putObj' w l o') (fun k e hk=>by
  cases e
  rcases hk with ⟨cur,hk⟩|⟨cur,hk⟩<;>(rw [h] at hk;cases hk;simp [Obj.isCells] at hc))
theorem RdL.kp {w w':World} {B n c:Nat} {a:Option Addr} {d:List Nat} (h:RdL w a n c d) (hf:Bf B w a c) (hk:KpT w w'):RdL w' a n c d:=by
 refine ⟨h.len,h.cap,h.few,h.top,h.small,?_⟩;rcases h.cell with h0|⟨b,o,rfl,hc⟩
 ·exact .inl h0
 ·rcases hf with rfl|⟨b',cur,e,_,hh,_⟩
  ·exact .inl (by have:=h.cap;omega)
  ·cases e
   exact .inr ⟨b,0,rfl,fun i hi=>(Af (hk.block b (.inr ⟨cur,hh⟩))).trans (hc i hi)⟩
theorem Bf.kp {w w':World} {B c:Nat} {a:Option Addr} (h:Bf B w a c) (hk:KpT w w'):Bf B w' a c :=
 h.imp id fun⟨b,cur,h1,h2,h3,h4⟩=>⟨b,cur,h1,h2,(hk.block b (.inr ⟨cur,h3⟩)).trans h3,h4⟩
theorem Du {w w':World} {B n c:Nat} {a:Option Addr} {l:List PT} (h:Bc w B a n c l) (ho:Bk w B a n c) (hk:KpT w w'):Bc w' B a n c l∧Bk w' B a n c:=by
 obtain ⟨p,hp,hx⟩:=h.ts;obtain ⟨p',o,t,h1,h2,h3⟩:=ho.ts;have hblk:n=0∨∀b o',a=some ⟨b,o',none⟩→w'.heap[b]? = w.heap[b]?:=by
  rcases ho.row with h0|⟨b,cur,e1,e2,e3,e4⟩
  ·exact .inl (by have:=hp.cap;omega)
  ·refine .inr fun b' o' e=>?_
   rw [e1] at e;cases e
   exact hk.block b (.inl ⟨cur,e3⟩)
 have hcell:∀q,RdP w a n c q→n=0∨∃b o,a=some ⟨b,o,none⟩∧∀i,i<n→Km w' b (o+i*8) (q i):=by
  intro q hq;rcases hq.cell with h0|⟨b,o,ha,hc⟩
  ·exact .inl h0
  ·rcases hblk with h0|hr
   ·exact .inl h0
   ·refine .inr ⟨b,o,ha,fun i hi=>?_⟩;have f:∀j v,w.cell? ⟨b,j,none⟩=some v→w'.cell? ⟨b,j,none⟩=some v:=fun j v e=>(Af (hr b o ha)).trans e
    obtain ⟨c0,c1,c2,c3,c4,c5,c6,c7⟩:=hc i hi;exact ⟨f _ _ c0,f _ _ c1,f _ _ c2,f _ _ c3,f _ _ c4,f _ _ c5,f _ _ c6,f _ _ c7⟩
 have hsame:∀i,i<n→(p i).a1=(p' i).a1∧(p i).c1=(p' i).c1∧(p i).a2=(p' i).a2∧(p i).c2=(p' i).c2:=by
  exact qBh
 have htm:∀q,RdP w a n c q→(∀i,i<n→Bf B w (q i).a1 (q i).c1∧Bf B w (q i).a2 (q i).c2)→RdP w' a n c q:=fun q hq hA=>⟨hq.cap,hq.few,hq.top,fun i hi=>by
  have hr:=hq.tm i hi;obtain ⟨k1,k2⟩:=hA i hi;exact ⟨hr.top.kp k1 hk,hr.low.kp k2 hk,hr.s0,hr.s1,hr.s2,hr.s3⟩,hcell q hq⟩
 refine ⟨⟨h.len,h.base,h.nl,p,htm p hp (fun i hi=>?_),hx⟩,⟨?_,p',o,t,htm p' h1 (fun i hi=>⟨(h3 i hi).top,(h3 i hi).low⟩),h2,fun i hi=>⟨(h3 i hi).top.kp hk,(h3 i hi).low.kp hk,(h3 i hi).ap,(h3 i hi).m1,(h3 i hi).m2⟩⟩⟩
 ·obtain ⟨s1,s2,s3,s4⟩:=hsame i hi;rw [s1,s2,s3,s4];exact ⟨(h3 i hi).top,(h3 i hi).low⟩
 ·exact ho.row.imp id fun⟨b,cur,e1,e2,e3,e4⟩=>⟨b,cur,e1,e2,(hk.block b (.inl ⟨cur,e3⟩)).trans e3,e4⟩
end Go.Proofs.YtnnhcbeiogaknaaGreatDoor
end
