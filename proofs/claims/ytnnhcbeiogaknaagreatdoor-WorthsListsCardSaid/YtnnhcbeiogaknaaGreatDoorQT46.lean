/- Package reckonerlaw19: WorthsLists. -/
import Derived.Test.YtnnhcbeiogaknaaGreatDoorQT45
set_option linter.unusedSimpArgs false
set_option linter.unusedVariables false
set_option maxRecDepth 100000
set_option maxHeartbeats 4000000
section
namespace Go.Proofs.YtnnhcbeiogaknaaGreatDoor
open Go.RowKit
mutual
theorem VT.Ok.down {d d':Nat} (h:d'≤d):∀{t:VT},VT.Ok d t→VT.Ok d' t
 | .node g l xs,hk=>by
  rw [VT.Ok] at hk ⊢;rcases hk with hk|⟨h1,h2,h3,h4,h5⟩
  ·exact .inl hk
  ·exact .inr ⟨h1,h2,h3,by omega,VT.OkL.down (d:=d+1) qA h5⟩
theorem VT.OkL.down {d d':Nat} (h:d'≤d):∀{xs:List VT},VT.OkL d xs→VT.OkL d' xs
 | [],_=>by rw [VT.OkL];trivial
 | x::xs,hk=>by
  rw [VT.OkL] at hk ⊢;exact ⟨VT.Ok.down h hk.1,VT.OkL.down h hk.2⟩
end
theorem Blk.drewI {W:World} {b:Nat} {vs:Array Value} {t:TypeId} (h:Blk W b vs t):Blk W.drew b vs t:=h.keep (Below.drew (Ac _ _))
def bD (w wc:World) (t:VT) (er:Int) (v7 v8:Value):Prop:=v8=.int .i64 er∧∃b f a n c a' n' c',v7=.pointer (some ⟨b,0,none⟩)∧wc.cell? ⟨b,0,none⟩=some (.bool f)∧wc.cell? ⟨b,1,none⟩=some (.slice a n c)∧wc.cell? ⟨b,2,none⟩=some (.slice a' n' c')∧Bt wc w.heap.size (some wc.heap.size) (.bool f) (.slice a n c) (.slice a' n' c') t∧Below w.heap.size w wc
theorem gM (w:World) (a:Option Addr) (n c:Nat) (ts:List RT) (hn:ts.length=n) (hc:n≤c) (hc2:c≤4398046511104) (hrow:ts=[]∨∃b p,a=some ⟨b,p,none⟩∧Fg w b p ts) (hT:Tab w) (hV:Hu w) (h7:7<w.heap.size) :
  Calls Tryz.prog 6 #[.slice a n c] w (fun e w'=>e=.returned (.bool true)∧Below w.heap.size w w'):=by
 have HB:=Ac w.heap.size w;have HH:=Ae (Ay hT (Ay hV (Ay hn hrow)));clear hT hV hn hrow;go_enter Tryz.func6,Tryz.ntmps6;go_wp2_with fail;go_loopw [3,4] (fun v3 v4 wr=>∃(i:Nat) (z:Int),i≤n∧v4=.int .i64 i∧v3=.int .i64 z∧-9223372036854775808≤z∧z≤9223372036854775807∧(∀x∈ts.take i,RT.Chk 1 x∧x.dep≤60)∧(n≤30→0≤z∧z≤(i:Int)*74309393851613184∧(z≤3000→∀x∈ts.take i,RT.Sml 3000 x))∧Below w.heap.size w wr) (fun _ v4 _=>n-(intOf v4).toNat)
 case atStart=>exact ⟨0,0,by omega,rfl,rfl,by omega,by omega,fun x hx=>by simp at hx,fun _=>⟨by omega,by omega,fun _ x hx=>by simp at hx⟩,HB⟩
 case round =>
  obtain ⟨i,z,hi2,rfl,rfl,hz1,hz2,hck,hsz,HBr⟩:=hrel;have HC:=Ae (Ay hck hsz);clear hck hsz;by_cases hlt:i<n
  ·obtain ⟨b,p,rfl,hv⟩:=HH.out.2.2.2.resolve_left (by intro e;have:=HH.out.2.2.1;rw [e] at this;simp at this;omega);obtain ⟨x,hx⟩:∃x,ts[i]? = some x:=⟨_,Ai (by rw [HH.out.2.2.1];exact hlt)⟩;obtain ⟨u0,u1,u2,c0,c1,c2,hva⟩:=hv.at hx;have HX:=Ae (Ay hx (VAt.keep HBr hva));replace c0:=Bb HBr c0;replace c1:=Bb HBr c1;replace c2:=Bb HBr c2;clear hx hv hva;go_wp2_with fail;refine (Xz wr _ _ _ x HX.out.2).mono ?_;rintro e w1 ⟨y,rfl,hy,hb1⟩;have HS:=Ae hy;have b1:=HBr.trans (hb1.mono HBr.size);clear hy
   (replace c0:=Bb hb1 c0;replace c1:=Bb hb1 c1;replace c2:=Bb hb1 c2)
   go_wp2_with fail;refine (Sg w1 _ _ _ x (VAt.keep hb1 HX.out.2)).mono ?_;rintro e w2 ⟨r,rfl,hr,hb2⟩;have HR:=Ae hr;have b2:=b1.trans (hb2.mono b1.size);clear hr
   (replace c0:=Bb hb2 c0;replace c1:=Bb hb2 c1;replace c2:=Bb hb2 c2)
   cases r
   ·go_wp2_with fail;refine (Ky w2 (HH.out.1.keep b2) (HH.out.2.1.keep b2) (by have:=b2.size;omega)).mono ?_;rintro e w3 ⟨rfl,hb3⟩;go_wp2_with fail;refine bodyPost_ret (v:=.bool true) (by simp [results,Tryz.results6,go_sem]) rfl ?_;exact ⟨rfl,b2.trans (hb3.mono b2.size)⟩
   ·have hck:=HR.out.1 rfl;have hdp:=rS x.dep x (Ad _) 1 qA hck;have HK:=Ae hck;clear hck;go_wp2_with fail;refine (sE 100 qA x qA w2 _ _ _ (VAt.keep (hb1.trans (hb2.mono hb1.size)) HX.out.2)).mono ?_;rintro e w3 ⟨rfl,hb3⟩;have b3:=b2.trans (hb3.mono b2.size);by_cases h60:x.dep≤60
    ·go_wp2_with fail;go_roundw
     case rel =>
      have htk:ts.take (i+1)=ts.take i++[x]:=by rw [List.take_add_one,HX.out.1];rfl
      refine ⟨i+1,wrap64 (z+y),by omega,by go_num,rfl,(Iz _).1,(Iz _).2,fun q hq=>?_,fun h30=>?_,b3⟩
      ·rw [htk] at hq;rcases List.mem_append.1 hq with hq|hq
       ·exact HC.out.1 q hq
       ·rw [Ao.1 hq];exact ⟨HK.out,h60⟩
      ·obtain ⟨j1,j2,j3⟩:=HC.out.2 h30;obtain ⟨m1,m2,m3⟩:=HS.out.2.2 qA;rw [IntWalk.wrap64_in _ qA];refine ⟨by omega,by omega,fun hle q hq=>?_⟩;rw [htk] at hq;rcases List.mem_append.1 hq with hq|hq
       ·exact j3 qA q hq
       ·rw [Ao.1 hq];exact RT.Sml.mono qA (m3 qA)
     case measure=>(first|(simp [intOf];omega)|(simp [intOf];done))
    ·go_wp2_with fail;refine (Ky w3 (HH.out.1.keep b3) (HH.out.2.1.keep b3) (by have:=b3.size;omega)).mono ?_;rintro e w4 ⟨rfl,hb4⟩;go_wp2_with fail;refine bodyPost_ret (v:=.bool true) (by simp [results,Tryz.results6,go_sem]) rfl ?_;exact ⟨rfl,b3.trans (hb4.mono b3.size)⟩
  ·obtain rfl:i=n:=by omega
   by_cases h3:z≤3000
   ·by_cases h30:i≤30
    ·go_wp2_with fail;refine By ?_;intro w0 hw0;have k0:Below wr.heap.size wr w0:=by rw [hw0];go_grown
     have V0:Blk w0 wr.heap.size #[.bool true,.slice none 0 0,.slice none 0 0] 60:=by rw [hw0];exact Bj rfl _ _
     clear hw0;have b0:=HBr.trans (k0.mono HBr.size);have hall:ts.take i=ts:=As (by rw [HH.out.2.2.1];exact Ad _);have HCL:∀x∈ts,∀W v0 v1 v2,VAt W v0 v1 v2 x→Bt W 0 none v0 v1 v2 x.clean∧VT.Ok 2 x.clean:=fun x hx W v0 v1 v2 hv=>by
      have h1:=HC.out.1 x (by rw [hall];exact hx);exact rN x.dep x (Ad _) W 2 v0 v1 v2 hv (gS x.dep x (Ad _) 1 2 h1.1 qA) (RT.Sml.mono qA ((HC.out.2 h30).2.2 h3 x (by rw [hall];exact hx)))
     have HCC:=Ae HCL;clear HCL hall;have HROW:∀(k:Nat) (x:RT),ts[k]? = some x→∃u0 u1 u2,(∃b p,a=some ⟨b,p,none⟩∧w.cell? ⟨b,p+k*3,none⟩=some u0∧w.cell? ⟨b,p+k*3+1,none⟩=some u1∧w.cell? ⟨b,p+k*3+2,none⟩=some u2)∧VAt w u0 u1 u2 x:=fun k x hk=>by
      obtain ⟨b,p,e,hv⟩:=HH.out.2.2.2.resolve_left (by rintro e;rw [e] at hk;simp at hk);obtain ⟨u0,u1,u2,c0,c1,c2,hva⟩:=hv.at hk;exact ⟨u0,u1,u2,⟨b,p,e,c0,c1,c2⟩,hva⟩
     obtain ⟨xs,hxs⟩:∃xs,xs=ts.map RT.clean:=⟨_,rfl⟩;have hxl:xs.length=i:=by rw [hxs,List.length_map];exact HH.out.2.2.1
     have HOK:∀y∈xs,VT.Ok 1 y∧VT.Ok 2 y:=fun y hy=>by
      rw [hxs] at hy;obtain ⟨x,hx,rfl⟩:=List.mem_map.1 hy;obtain ⟨k,hk⟩:=List.getElem?_of_mem hx;obtain ⟨u0,u1,u2,_,hva⟩:=HROW k x hk;have h1:=HCC.out x hx w _ _ _ hva;exact ⟨VT.Ok.down (d:=2) qA h1.2,h1.2⟩
     have HPRE:∀k,VT.Ok 1 (.node true [] (xs.take k)):=fun k=>by
      rw [VT.Ok];exact .inr ⟨rfl,rfl,by rw [List.length_take];omega,by omega,VT.OkL_iff.2 fun y hy=>(HOK y (List.mem_of_mem_take hy)).2⟩
     have HEL:∀(k:Nat),k<i→∃x,ts[k]? = some x∧xs[k]? = some x.clean∧xs.take (k+1)=xs.take k++[x.clean]:=fun k hk=>by
      have h1:ts[k]? = some (ts[k]'(by rw [HH.out.2.2.1];exact hk)):=Ai _;have h2:xs[k]? = some (ts[k]'(by rw [HH.out.2.2.1];exact hk)).clean:=by rw [hxs,List.getElem?_map,h1];rfl
      exact ⟨_,h1,h2,by rw [List.take_add_one,h2];rfl⟩
     have HP:=Ae (Ay HOK (Ay HPRE (Ay HEL HROW)));have HXL:=Ae hxl;clear HOK HPRE HEL HROW hxs hxl HC;obtain ⟨wp,rfl⟩:∃wp,wp=wr:=⟨_,rfl⟩;go_loopw [6] (fun v6 wz=>∃(j:Nat) (g:Bool) (a1:Option Addr) (n1 c1:Nat) (a2:Option Addr) (n2 c2:Nat),j≤i∧v6=.int .i64 j∧Hid (Blk wz wp.heap.size #[.bool g,.slice a1 n1 c1,.slice a2 n2 c2] 60∧Bt wz 0 none (.bool g) (.slice a1 n1 c1) (.slice a2 n2 c2) (.node true [] (xs.take j)))∧Below w.heap.size w wz) (fun v6 _=>i-(intOf v6).toNat)
     case atStart=>exact ⟨0,true,none,0,0,none,0,0,by omega,rfl,Ae ⟨V0,by rw [Bt];exact ⟨rfl,⟨_,_,_,rfl,Bc.nil _ 0,fun _ h=>by simp at h⟩,_,_,rfl,by simp,by omega,by simp,.inl rfl⟩⟩,b0⟩
     case round =>
      obtain ⟨wz,rfl⟩:∃wz,wz=wr:=⟨_,rfl⟩;obtain ⟨j,g,a1,n1,c1,a2,n2,c2,hji,rfl,HB2,bz⟩:=hrel;clear V0 k0 b0;have z0:=HB2.out.1.cell 0 _ rfl;have z1:=HB2.out.1.cell 1 _ rfl;have z2:=HB2.out.1.cell 2 _ rfl;have zl:=HB2.out.1.lt;by_cases hlt:j<i
      ·obtain ⟨x,hx,hxx,htk⟩:=HP.out.2.2.1 j hlt;obtain ⟨u0,u1,u2,⟨b,p,rfl,d0,d1,d2⟩,hva⟩:=HP.out.2.2.2 j x hx;have hV2:=(HCC.out x (A7 hx) wz _ _ _ (VAt.keep bz hva)).1;replace d0:=Bb bz d0;replace d1:=Bb bz d1;replace d2:=Bb bz d2;obtain ⟨f3,a3,n3,c3,a4,n4,c4,rfl,rfl,rfl⟩:=hV2.form;have HX:=Ae (Ay hxx (Ay hV2 htk));clear hva hx hV2 hxx htk;have hcall:∀(K:Nat) (W:World),Below wz.heap.size wz W→(W.cell? ⟨K,0,none⟩=some (.bool g)∧W.cell? ⟨K,1,none⟩=some (.slice a1 n1 c1)∧W.cell? ⟨K,2,none⟩=some (.slice a2 n2 c2)∧W.cell? ⟨K,3,none⟩=some (.bool f3)∧W.cell? ⟨K,4,none⟩=some (.slice a3 n3 c3)∧W.cell? ⟨K,5,none⟩=some (.slice a4 n4 c4)) →
         Calls Tryz.prog 31 #[.string ⟨#[97,100,100]⟩,.slice (some ⟨K,0,none⟩) 2 2] W (E9 W (.node true [] (xs.take (j+1))) 0):=fun K W hK hc=>by
        rw [HX.out.2.2];exact gG W K 0 (xs.take j) (by rw [List.length_take];omega) x.clean (HP.out.2.1 j) (HP.out.1 _ (A7 HX.out.1)).1 (by rw [←HX.out.2.2];exact HP.out.2.1 (j+1)) (by
         rw [Cd,Cd,Cd];exact ⟨⟨_,_,_,hc.1,hc.2.1,hc.2.2.1,HB2.out.2.keep hK⟩,⟨_,_,_,hc.2.2.2.1,hc.2.2.2.2.1,hc.2.2.2.2.2,HX.out.2.1.keep hK⟩,trivial⟩)
       have bl:b<wz.heap.size:=Aa _ _ d0;have n1':¬wp.heap.size=wz.heap.size:=by omega
       have n2':¬wp.heap.size=wz.heap.size+1:=by omega
       have n3':¬b=wz.heap.size:=by omega
       have n4':¬b=wz.heap.size+1:=by omega
       have n5':¬wz.heap.size=wp.heap.size:=by omega
       have n6':¬wz.heap.size+1=wp.heap.size:=by omega
       have n7':¬wz.heap.size=b:=by omega
       have n8':¬wz.heap.size+1=b:=by omega
       go_upto_region 14 with fail
       go_cut [7,8] (fun v7 v8 wc=>bD wz wc (.node true [] (xs.take (j+1))) 0 v7 v8)
       case first =>
        go_region_held3 (fun W=>W.cell? ⟨wp.heap.size,0,none⟩=some (.bool g)∧W.cell? ⟨wp.heap.size,1,none⟩=some (.slice a1 n1 c1)∧W.cell? ⟨wp.heap.size,2,none⟩=some (.slice a2 n2 c2)∧W.cell? ⟨b,p+j*3,none⟩=some (.bool f3)∧W.cell? ⟨b,p+j*3+1,none⟩=some (.slice a3 n3 c3)∧W.cell? ⟨b,p+j*3+2,none⟩=some (.slice a4 n4 c4)) (first|((try dsimp only);(repeat' apply Ay);all_goals (first|(with_reducible assumption)|(go_keep;done)|(simp [*,go_sem];done)))) (first
         | (go_at_call 31;(with_reducible refine (hcall _ _ qF (by refine ⟨?_,?_,?_,?_,?_,?_⟩<;>(simp [go_sem];done))).mono ?_);rintro e w2 ⟨q0,q1,q2,rfl,hv2,hb2⟩;obtain ⟨f5,a5,n5,c5,a6,n6,c6,rfl,rfl,rfl⟩:=hv2.form;have k2:=zI wz hb2;have HV2:=Ae hv2;clear hv2;have s2':=k2.size;have m1':¬wp.heap.size=w2.heap.size:=qA;have m2':¬b=w2.heap.size:=qA;have m3':¬w2.heap.size=wp.heap.size:=qA;have m4':¬w2.heap.size=b:=qA;replace z0:=Bb k2 z0;replace z1:=Bb k2 z1;replace z2:=Bb k2 z2;replace d0:=Bb k2 d0;replace d1:=Bb k2 d1;replace d2:=Bb k2 d2;(try (have ZA:Blk w2 (wz.heap.size) #[.bool false,.slice none 0 0,.slice none 0 0] 60:=Blk.keep (by exact Blk.drewI ((Bj rfl _ _).alloc _)) hb2;have ya0:=ZA.cell 0 _ rfl;have ya1:=ZA.cell 1 _ rfl;have ya2:=ZA.cell 2 _ rfl;have yf0:=ZA.frozen 0;have yf1:=ZA.frozen 1;have yf2:=ZA.frozen 2;have yl:=ZA.lt));(try (have ZA:Blk w2 (wz.heap.size+1) #[.bool false,.slice none 0 0,.slice none 0 0] 60:=Blk.keep (by exact Blk.drewI (Bj qG _ _)) hb2;have ya0:=ZA.cell 0 _ rfl;have ya1:=ZA.cell 1 _ rfl;have ya2:=ZA.cell 2 _ rfl;have yf0:=ZA.frozen 0;have yf1:=ZA.frozen 1;have yf2:=ZA.frozen 2;have yl:=ZA.lt))))
        all_goals
         go_wp2_with fail;go_meet
         case rel =>
          first
          | exact ⟨rfl,_,f5,a5,n5,c5,a6,n6,c6,rfl,by simp [go_sem],by simp [go_sem],by simp [go_sem],((HV2.out.keep qF).other (.inl (Ad _))).down (by simp<;>omega),by go_grown⟩
          | exact ⟨rfl,_,f5,a5,n5,c5,a6,n6,c6,rfl,by simp [*,go_sem],by simp [*,go_sem],by simp [*,go_sem],((Ez HV2.out (by simp<;>omega) ZA _ _ _).other (.inl qG)).down (by simp<;>omega),Cf k2 qA _ _ _⟩
       case rest =>
        obtain ⟨rfl,bx,f5,a5,n5,c5,a6,n6,c6,rfl,e0,e1,e2,hv2,hb2⟩:=hcut;have b2:=bz.trans (hb2.mono bz.size);have R2:=HB2.out.1.keep hb2;have r0:=R2.cell 0 _ rfl;have r1:=R2.cell 1 _ rfl;have r2:=R2.cell 2 _ rfl;have f0:=R2.frozen 0;have f1:=R2.frozen 1;have f2:=R2.frozen 2;have rl:=R2.lt;have HV2:=Ae hv2;have HR2:=Ae R2;have HWL:=Ae b2;clear hv2 R2 hb2 d0 d1 d2 z0 z1 z2 hcall;go_wp2_with fail;go_roundw
        case rel =>
         have h1:=(Ez HV2.out zl HR2.out (.bool f5) (.slice a5 n5 c5) (.slice a6 n6 c6)).read;exact ⟨j+1,f5,a5,n5,c5,a6,n6,c6,by omega,by go_num,Ae ⟨kJ HR2.out _ _ _,h1⟩,Cf HWL.out (HBr.size) _ _ _⟩
        case measure=>(first|(simp [intOf];omega)|(simp [intOf];done))
      ·obtain rfl:j=i:=by omega
       have HB3:=HB2.out;rw [As (by rw [HXL.out];exact Ad _)] at HB3;have hokX:=HP.out.2.1 j;rw [As (by rw [HXL.out];exact Ad _)] at hokX;have HBX:=Ae (Ay HB3 hokX);clear HB3 hokX;have hl40:xs.length≤40:=by rw [HXL.out];omega
       have HL40:=Ae hl40;clear hl40;go_wp2_with fail;refine Be ?_;intro w1 hw1;have k1:Below wz.heap.size wz w1:=by rw [hw1];go_grown
       have N1:Blk w1 wz.heap.size #[.bool g,.slice a1 n1 c1,.slice a2 n2 c2] 60:=by rw [hw1];exact Bj rfl _ _
       clear hw1;refine (eA w1 wz.heap.size 0 1 qA xs HL40.out HBX.out.2 (by
        rw [Cd,Cd];exact ⟨⟨_,_,_,N1.cell 0 _ rfl,N1.cell 1 _ rfl,N1.cell 2 _ rfl,HBX.out.1.2.keep k1⟩,trivial⟩)).mono ?_
       rintro e w2 ⟨q0,q1,q2,rfl,hv2,hb2⟩;rw [HXL.out,Hk,Bt] at hv2;obtain ⟨rfl,⟨a5,n5,c5,rfl,hp5,_⟩,a6,c6,rfl,_⟩:=hv2;have b1:=bz.trans (k1.mono bz.size);have b2:=b1.trans (hb2.mono b1.size);have R2:=(HBX.out.1.1.keep k1).keep hb2;have X2:=(HBX.out.1.2.keep k1).keep hb2;have H2:=Ae (Ay R2 (Ay X2 hp5));clear R2 X2 hp5 N1 k1 hb2 z0 z1 z2 b1;go_wp2_with fail;refine By ?_;intro w3 hw3;have k3:Below w2.heap.size w2 w3:=by rw [hw3];go_grown
       have M3:Blk w3 w2.heap.size #[.bool false,.slice a5 n5 c5,.slice a6 0 c6] 60:=by rw [hw3];exact Bj rfl _ _
       clear hw3;have b3:=b2.trans (k3.mono b2.size);have H3:=Ae (Ay (H2.out.1.keep k3) (Ay (H2.out.2.1.keep k3) (H2.out.2.2.keep k3)));have m0:=M3.cell 0 _ rfl;have m1:=M3.cell 1 _ rfl;have m2:=M3.cell 2 _ rfl;have ml:=M3.lt;clear H2 k3 b2 M3;go_region_held3 (fun W=>W.cell? ⟨w2.heap.size,0,none⟩=some (.bool false)∧W.cell? ⟨w2.heap.size,1,none⟩=some (.slice a5 n5 c5)∧W.cell? ⟨w2.heap.size,2,none⟩=some (.slice a6 0 c6)) (first|((try dsimp only);(repeat' apply Ay);all_goals (first|(with_reducible assumption)|(go_keep;done)|(simp [*,go_sem];done)))) (first
        | (go_at_call 28;refine (St w3.drew j qA (HH.out.2.1.keep (b3.trans (Below.drew (Ac _ _)))) (by have:=b3.size;simp only [Ak];omega)).mono ?_;rintro e w5 ⟨s0,s1,s2,rfl,hv5,hb5⟩;rw [Hk,Bt] at hv5;obtain ⟨rfl,⟨a7,n7,c7,rfl,hp7,_⟩,a8,c8,rfl,_⟩:=hv5;have k5:Below w3.heap.size w3 w5:=(Below.drew (Ac _ _)).trans (by rw [Ak] at hb5;exact hb5);have HP7:=Ae hp7;clear hp7;replace m0:=Bb k5 m0;replace m1:=Bb k5 m1;replace m2:=Bb k5 m2)
        | (go_at_call 27;refine (gK w5 _ _ _ _ _ (H3.out.2.2.keep k5) _ _ _ _ HP7.out _ _ _ _).mono ?_;rintro e w6 ⟨rfl,hb6⟩;have k6:=k5.trans (hb6.mono k5.size);replace m0:=Bb hb6 m0;replace m1:=Bb hb6 m1;replace m2:=Bb hb6 m2))
       have b4:=b3.trans (k6.mono b3.size);have H4:=Ae (Ay (H3.out.1.keep k6) (H3.out.2.1.keep k6));clear H3 k5 k6 hb5 hb6 HP7 m0 m1 m2 ml b3;obtain ⟨w4,rfl⟩:∃w4,w4=w6:=⟨_,rfl⟩;go_wp2_with fail;go_loopw [11] (fun v11 wy=>∃k:Nat,k≤j∧v11=.int .i64 k∧Below w.heap.size w wy∧Hid (Below w4.heap.size w4 wy)) (fun v11 _=>j-(intOf v11).toNat)
       case atStart=>exact ⟨0,by omega,rfl,b4,Ae (Ac _ _)⟩
       case round =>
        obtain ⟨wy,rfl⟩:∃wy,wy=wr:=⟨_,rfl⟩;obtain ⟨k,hkj,rfl,by0,hby⟩:=hrel;have H5:=Ae (Ay (H4.out.1.keep hby.out) (H4.out.2.keep hby.out));have w0:=H5.out.1.cell 0 _ rfl;have y1:=H5.out.1.cell 1 _ rfl;have y2:=H5.out.1.cell 2 _ rfl;have yl:=H5.out.1.lt;by_cases hlt2:k<j
        ·obtain ⟨x,hx,hxx,htk⟩:=HP.out.2.2.1 k hlt2;obtain ⟨u0,u1,u2,⟨b,p,rfl,d0,d1,d2⟩,hva⟩:=HP.out.2.2.2 k x hx;have hV2:=(HCC.out x (A7 hx) wy _ _ _ (VAt.keep by0 hva)).1;replace d0:=Bb by0 d0;replace d1:=Bb by0 d1;replace d2:=Bb by0 d2;obtain ⟨f3,a3,n3,c3,a4,n4,c4,rfl,rfl,rfl⟩:=hV2.form;have HX:=Ae (Ay hxx hV2);clear hva hx hV2 hxx htk;have HK2:=HP.out.1 _ (A7 HX.out.1);have hcall:∀(K:Nat) (W:World) (f5:Bool) (a5:Option Addr) (n5 c5:Nat) (a6:Option Addr) (n6 c6:Nat),Below wy.heap.size wy W→Bt W 0 none (.bool f5) (.slice a5 n5 c5) (.slice a6 n6 c6) (Hk k)→(W.cell? ⟨K,0,none⟩=some (.bool g)∧W.cell? ⟨K,1,none⟩=some (.slice a1 n1 c1)∧W.cell? ⟨K,2,none⟩=some (.slice a2 n2 c2)∧W.cell? ⟨K,3,none⟩=some (.bool f5)∧W.cell? ⟨K,4,none⟩=some (.slice a5 n5 c5)∧W.cell? ⟨K,5,none⟩=some (.slice a6 n6 c6)) →
           Calls Tryz.prog 31 #[.string ⟨#[97,116]⟩,.slice (some ⟨K,0,none⟩) 2 2] W (E9 W x.clean 0):=fun K W f5 a5 n5 c5 a6 n6 c6 hK hv hc=>by
          have hrow:Cd W 0 none K 0 [.node true [] xs,Hk k]:=by
           exact qCp
          exact W6 W K 0 xs k qA x.clean 0 HBX.out.2 hrow (fun w' hb'=>nN w' K 0 2 qA xs HL40.out k x.clean HX.out.1 HK2.2 (Hk k) (hrow.keep0 hb'))
         have n1':¬wp.heap.size=wy.heap.size:=by omega
         have n5':¬wy.heap.size=wp.heap.size:=by omega
         go_upto_region 24 with fail
         go_cut [12,13] (fun v12 v13 wc=>bD wy wc x.clean 0 v12 v13)
         case first =>
          exact qAj
         case rest =>
          obtain ⟨rfl,bx,f7,a7,n7,c7,a8,n8,c8,rfl,e0,e1,e2,hv7,hb7⟩:=hcut;replace d0:=Bb hb7 d0;replace d1:=Bb hb7 d1;replace d2:=Bb hb7 d2;have b7:=by0.trans (hb7.mono by0.size);have HV7:=Ae (Ay hv7.read (HX.out.2.keep hb7));have HBY:=Ae (hby.out.trans (hb7.mono hby.out.size));clear hv7 hcall w0 y1 y2 yl;obtain ⟨wx,rfl⟩:∃wx,wx=wc:=⟨_,rfl⟩;have hcall:∀(W:World),Below wx.heap.size wx W→Calls Tryz.prog 26 #[.string ⟨#[61,61]⟩,.agg #[.bool f7,.slice a7 n7 c7,.slice a8 n8 c8],.agg #[.bool f3,.slice a3 n3 c3,.slice a4 n4 c4]] W (E9 W (Hk 1) 0):=fun W hW=>pN (d1:=0) (HV7.out.1.keep hW) (HV7.out.2.keep hW) HK2.1 HK2.1
          have bl:b<wx.heap.size:=Aa _ _ d0;have bxl:bx<wx.heap.size:=Aa _ _ e0;have o1':¬b=wx.heap.size:=by omega
          have o2':¬wx.heap.size=b:=by omega
          have o3':¬bx=wx.heap.size:=by omega
          have o4':¬wx.heap.size=bx:=by omega
          go_upto_region 25 with fail
          go_cut [14,15] (fun v14 v15 wc=>bD wx wc (Hk 1) 0 v14 v15)
          case first =>
           go_region_held3 (fun W=>W.cell? ⟨bx,0,none⟩=some (.bool f7)∧W.cell? ⟨bx,1,none⟩=some (.slice a7 n7 c7)∧W.cell? ⟨bx,2,none⟩=some (.slice a8 n8 c8)∧W.cell? ⟨b,p+k*3,none⟩=some (.bool f3)∧W.cell? ⟨b,p+k*3+1,none⟩=some (.slice a3 n3 c3)∧W.cell? ⟨b,p+k*3+2,none⟩=some (.slice a4 n4 c4)) (first|((try dsimp only);(repeat' apply Ay);all_goals (first|(with_reducible assumption)|(go_keep;done)|(simp [*,go_sem];done)))) (first
            | (go_at_call 26;(with_reducible refine (hcall _ qF).mono ?_);rintro e w8 ⟨q0,q1,q2,rfl,hv8,hb8⟩;obtain ⟨f9,a9,n9,c9,aa,na,ca,rfl,rfl,rfl⟩:=hv8.form;have k8:=zI wx hb8;have HV8:=Ae hv8;clear hv8;have s8':=k8.size;have m1':¬b=w8.heap.size:=qA;have m2':¬w8.heap.size=b:=qA;have m3':¬bx=w8.heap.size:=qA;have m4':¬w8.heap.size=bx:=qA;replace e0:=Bb k8 e0;replace e1:=Bb k8 e1;replace e2:=Bb k8 e2;replace d0:=Bb k8 d0;replace d1:=Bb k8 d1;replace d2:=Bb k8 d2;(try (have ZA:Blk w8 (wx.heap.size) #[.bool false,.slice none 0 0,.slice none 0 0] 60:=Blk.keep (by exact Blk.drewI (Bj rfl _ _)) hb8;have ya0:=ZA.cell 0 _ rfl;have ya1:=ZA.cell 1 _ rfl;have ya2:=ZA.cell 2 _ rfl;have yf0:=ZA.frozen 0;have yf1:=ZA.frozen 1;have yf2:=ZA.frozen 2;have yl:=ZA.lt))))
           all_goals
            go_wp2_with fail;go_meet
            case rel =>
             first
             | exact ⟨rfl,_,f9,a9,n9,c9,aa,na,ca,rfl,by simp [go_sem],by simp [go_sem],by simp [go_sem],((HV8.out.keep qF).other (.inl (Ad _))).down (by simp<;>omega),k8.trans (Below.mono (show Below w8.heap.size w8 _ by go_grown) k8.size)⟩
             | exact ⟨rfl,_,f9,a9,n9,c9,aa,na,ca,rfl,by simp [*,go_sem],by simp [*,go_sem],by simp [*,go_sem],((Ez HV8.out (by simp<;>omega) ZA _ _ _).other (.inl qG)).down (by simp<;>omega),Cf k8 qA _ _ _⟩
          case rest =>
           obtain ⟨rfl,by8,f9,a9,n9,c9,aa,na,ca,rfl,g0,g1,g2,hv8,hb8⟩:=hcut;have b8:=b7.trans (hb8.mono b7.size);have HV8:=Ae hv8.read;have HBZ:=Ae (HBY.out.trans (hb8.mono HBY.out.size));obtain ⟨w8,rfl⟩:∃w8,w8=wc:=⟨_,rfl⟩;clear hv8 hcall d0 d1 d2 e0 e1 e2 HBY;go_wp2_with fail;refine (cD w8 0 none _ _ _ _ _ _ HV8.out (mN 1 qA) true (by decide +kernel)).mono ?_;rintro e w9 ⟨rfl,hb9⟩;have b9:=b8.trans (hb9.mono b8.size);go_wp2_with fail;go_roundw
           case rel=>exact ⟨k+1,by omega,by go_num,b9,Ae (HBZ.out.trans (hb9.mono HBZ.out.size))⟩
           case measure=>(first|(simp [intOf];omega)|(simp [intOf];done))
        ·obtain rfl:k=j:=by omega
         have hcall:∀(K:Nat) (W:World) (f5:Bool) (a5:Option Addr) (n5 c5:Nat) (a6:Option Addr) (n6 c6:Nat),Below wy.heap.size wy W→Bt W 0 none (.bool f5) (.slice a5 n5 c5) (.slice a6 n6 c6) (Hk k)→(W.cell? ⟨K,0,none⟩=some (.bool g)∧W.cell? ⟨K,1,none⟩=some (.slice a1 n1 c1)∧W.cell? ⟨K,2,none⟩=some (.slice a2 n2 c2)∧W.cell? ⟨K,3,none⟩=some (.bool f5)∧W.cell? ⟨K,4,none⟩=some (.slice a5 n5 c5)∧W.cell? ⟨K,5,none⟩=some (.slice a6 n6 c6)) →
           Calls Tryz.prog 31 #[.string ⟨#[97,116]⟩,.slice (some ⟨K,0,none⟩) 2 2] W (E9 W Pn 12):=fun K W f5 a5 n5 c5 a6 n6 c6 hK hv hc=>by
          have hrow:Cd W 0 none K 0 [.node true [] xs,Hk k]:=by
           exact qCp
          exact W6 W K 0 xs k qA Pn 12 HBX.out.2 hrow (fun w' hb'=>by have h9:=We w' K 0 2 qA xs HL40.out (Hk k) (hrow.keep0 hb');rwa [HXL.out] at h9)
         have n1':¬wp.heap.size=wy.heap.size:=by omega
         have n5':¬wy.heap.size=wp.heap.size:=by omega
         go_upto_region 28 with fail
         go_cut [16,17] (fun v12 v13 wc=>bD wy wc Pn 12 v12 v13)
         case first =>
          exact qAj
         case rest =>
          obtain ⟨rfl,bx,f7,a7,n7,c7,a8,n8,c8,rfl,e0,e1,e2,hv7,hb7⟩:=hcut;have b7:=by0.trans (hb7.mono by0.size);have R7:=H5.out.1.keep hb7;have HX7:=Ae (H5.out.2.keep hb7);clear hv7 hcall w0 y1 y2;have w0:=R7.cell 0 _ rfl;have y1:=R7.cell 1 _ rfl;have y2:=R7.cell 2 _ rfl;obtain ⟨w7,rfl⟩:∃w7,w7=wc:=⟨_,rfl⟩;go_wp2_with fail;refine (cD w7 0 none _ _ _ _ _ _ HX7.out HBX.out.2 (decide (0<k)) (by rw [HXL.out];simp)).mono ?_;rintro e w8 ⟨rfl,hb8⟩;have b8:=b7.trans (hb8.mono b7.size);have hdk:(decide (0<k)==decide ((0:Int)<(k:Int)))=true:=by simp
          go_wp2_with fail;refine (Ky w8 (HH.out.1.keep b8) (HH.out.2.1.keep b8) (by have:=b8.size;omega)).mono ?_;rintro e w9 ⟨rfl,hb9⟩;go_wp2_with fail;refine bodyPost_ret (v:=.bool true) (by simp [results,Tryz.results6,go_sem]) rfl ?_;exact ⟨rfl,b8.trans (hb9.mono b8.size)⟩
    ·go_wp2_with fail;exact qBt
   ·go_wp2_with fail;all_goals
     exact qBt
end Go.Proofs.YtnnhcbeiogaknaaGreatDoor
end
