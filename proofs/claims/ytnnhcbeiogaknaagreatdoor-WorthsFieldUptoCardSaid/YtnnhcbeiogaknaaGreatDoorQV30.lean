/- Package gcds: content and bare, the closures of gcd. -/
import Derived.Test.YtnnhcbeiogaknaaGreatDoorQV29
set_option linter.unusedSimpArgs false
set_option linter.unusedVariables false
set_option maxRecDepth 100000
set_option maxHeartbeats 4000000
section
namespace Go.Proofs.YtnnhcbeiogaknaaGreatDoor
open Go.RowKit
def iX (s:List (Δ)):Prop:=(∀l∈s,Sm l∧C9 l=true∧(l≠[]→Ck l=Na))∧∃l∈s,l≠[]
theorem I8:Sm Na:=Sm.of qI
theorem gJ {w:World} {B n c:Nat} {a:Γ} (h:Bd w B a n c Na):Θ 311 #[.slice a n c] w (fun e w'=>e=.returned (.bool true)∧Below w.heap.size w w'):=sU w B n c a Na h
theorem Le (wo:World) (n c:Nat) (a:Γ) (s:List (Δ)) (h:Gi wo a n c s) (hs:iX s) :
  Θ 310 #[.slice a n c] wo (Cl wo Na):=by
 have HB:=Ac wo.heap.size wo;have hlen:=h.len;have hfew:=h.few;go_enter Tryz.func310,Tryz.ntmps310;go_wp2_with fail;go_loopw [2,7] (fun v2 v7 wr=>∃i:Nat,i≤n∧v7=.int .i64 i∧(∃(a':Γ) (c':Nat),v2=.slice a' 0 c')∧Hid (∀j,j<i→s.getD j []=[])∧Below wo.heap.size wo wr) (fun _ v7 _=>n-(intOf v7).toNat)
 case atStart=>exact ⟨0,by omega,rfl,⟨none,0,rfl⟩,Ae (fun j hj=>by omega),HB⟩
 case round =>
  obtain ⟨i,hi,rfl,⟨a1,c1,rfl⟩,hZ,HBr⟩:=hrel;by_cases hlt:i<n
  ·obtain ⟨g,rfl,_⟩:=h.cell.resolve_left qA;obtain ⟨a2,n2,c2,hce,hPe⟩:=(h.keep HBr).get hlt;have hse:Sm (s.getD i [])∧C9 (s.getD i [])=true∧(s.getD i []≠[]→Ck (s.getD i [])=Na):=by
    rw [List.getD_eq_getElem?_getD,Ai (show i<s.length by omega)];exact hs.1 _ (List.getElem_mem _)
   by_cases hl0:s.getD i []=[]
   ·have HZ2:=Ae (show ∀j,j<i+1→s.getD j []=[] from fun j hj=>by
     by_cases e:j=i
     ·subst e;exact hl0
     ·exact hZ.out j qA)
    rw [hl0] at hPe;clear hl0 hse hs;go_wp2_with (first
     | (go_at_call 266;(with_reducible refine (Sp _ _ _ _ _ _ _ _ hPe Sm.nil).mono ?_);rintro e w2 ⟨a3,n3,c3,rfl,hP3,hO3,hb2⟩;obtain rfl:n3=0:=hP3.len.symm))
    go_roundw
    case rel=>exact ⟨i+1,by omega,by go_num,⟨a3,c3,rfl⟩,HZ2,HBr.trans (hb2.mono HBr.size)⟩
    case measure=>(first|(simp [intOf];omega)|(simp [intOf];done))
   ·have hp1:=hse.2.2 hl0;have hsl:=hse.1;generalize s.getD i []=l at *;clear hs hse hZ hl0;go_wp2_with (first
     | (go_at_call 266;(with_reducible refine (Sp _ _ _ _ _ _ _ l hPe hsl).mono ?_);rintro e w2 ⟨a3,n3,c3,rfl,hP3,hO3,hb2⟩;rw [hp1] at hP3;obtain rfl:n3=1:=hP3.len.symm)
     | (go_at_call 311;(with_reducible refine (gJ hP3).mono ?_);rintro e w3 ⟨rfl,hb3⟩))
    have z2:=hb2.size;have b3:=hb2.trans (hb3.mono z2);refine bodyPost_ret (v:=.slice a3 1 c3) (by simp [*,results,Tryz.results310,go_sem]) rfl ?_;exact ⟨a3,1,c3,rfl,(hP3.keep hb3).mono HBr.size,(hO3.keep hb3).mono HBr.size,HBr.trans (b3.mono HBr.size)⟩
  ·obtain ⟨l,hl,hl0⟩:=hs.2;obtain ⟨j,hj⟩:=List.getElem?_of_mem hl;have hjl:=(List.getElem?_eq_some_iff.1 hj).1;have:=hZ.out j qA;rw [List.getD_eq_getElem?_getD,hj] at this;exact absurd this hl0
def Rk (w:World) (r:List (Δ)) (e:Ending) (w':World):Prop:=∃a n c,e=.returned (.slice a n c)∧Gi w' a n c r∧(∀l∈r,Sm l)∧Below w.heap.size w w'
theorem Abw (wo:World) (na ca nb cb:Nat) (aa ab:Γ) (A b:List (Δ)) (hA:Gi wo aa na ca A) (hb:Gi wo ab nb cb b) (sA:∀l∈A,Sm l) (sb:∀l∈b,Sm l) (hb0:0<nb) (f:Nat) (r:List (Δ)) (hr:Nq b f A=some r) :
  Θ 314 #[.slice aa na ca,.slice ab nb cb] wo (Rk wo r):=by
 have HB:=Ac wo.heap.size wo;obtain ⟨kb,rfl⟩:∃kb,nb=kb+1:=⟨nb-1,by omega⟩;obtain ⟨gb,rfl,_⟩:=hb.cell.resolve_left qA;have hbf:=hb.few;have haf:=hA.few;obtain ⟨al,nl,cl,hlc,hlp⟩:=hb.get (i:=kb) qA;have HLD:=Ae (Ns hb.len);have sl:=Mh sb kb;rw [←HLD.out] at hlp sl;generalize hLE:b.getLastD []=lead at *;have HLE:=Ae hLE;clear hLE HLD;have hkb:((kb+1:Nat):Int)-1=(kb:Int):=by omega
 have HR:=Ae hr;have hkb0:(0:Int)≤(kb:Int):=by omega
 have hkb1:(kb:Int)<((kb+1:Nat):Int):=by omega
 clear hr;go_enter Tryz.func314,Tryz.ntmps314;go_wp2_with (first|(go_at_call 315;refine (Pv _ _ _ _ qA).mono ?_;rintro e w1 ⟨rfl,rfl⟩));go_loopw [0] (fun v0 wr=>∃(a':Γ) (n' c':Nat) (A':List (Δ)) (f':Nat),v0=.slice a' n' c'∧Gi wr a' n' c' A'∧Hid (Nq b f' A'=some r)∧Hid (∀l∈A',Sm l)∧Below wo.heap.size wo wr) (fun v0 _=>match v0 with|.slice _ m _=>m|_=>0)
 case atStart=>exact ⟨aa,na,ca,A,f,rfl,hA,HR,Ae sA,HB⟩
 case round =>
  obtain ⟨a',n',c',A',f',rfl,hA',HR',sA',HBr⟩:=hrel;have hbr:=hb.keep HBr;clear hA HR sA HB;have hf':=hA'.few;have hl':=hA'.len;by_cases hlt:n'<kb+1
  ·have hr:r=A':=by
    have h1:=HR'.out;have hll:A'.length<b.length:=by rw [hl',hb.len];exact hlt
    cases f' with
    | zero=>unfold Nq at h1;rw [if_pos hll] at h1;cases h1;rfl
    | succ f'=>unfold Nq at h1;rw [if_pos hll] at h1;cases h1;rfl
   subst hr;go_wp2_with fail;refine bodyPost_ret (v:=.slice a' n' c') (by simp [*,results,Tryz.results314,go_sem]) rfl ?_;exact ⟨a',n',c',rfl,hA',sA'.out,HBr⟩
  ·obtain ⟨m,rfl⟩:∃m,n'=m+1:=⟨n'-1,by omega⟩;obtain ⟨ga,rfl,_⟩:=hA'.cell.resolve_left qA;obtain ⟨at',nt,ct,htc,htp⟩:=hA'.get (i:=m) qA;have HTD:=Ae (Ns hl');have st:=Mh sA'.out m;rw [←HTD.out] at htp st;have hst:∃L f'',I7 A' b m=some L∧Nq b f'' (Ex L)=some r:=by
    have h1:=HR'.out;have hll:¬A'.length<b.length:=by rw [hl',hb.len];exact hlt
    cases f' with
    | zero=>unfold Nq at h1;rw [if_neg hll] at h1;cases h1
    | succ f' =>
     unfold Nq at h1;rw [if_neg hll,hl',Nat.add_sub_cancel] at h1;obtain ⟨L,h2,h3⟩:=Option.bind_eq_some_iff.1 h1;exact ⟨L,f',h2,h3⟩
   obtain ⟨L,f'',hL,hL2⟩:=hst;have HL:=Ae hL;have HL2:=Ae hL2;clear hL hL2 HR';have hm1:((m+1:Nat):Int)-1=(m:Int):=by omega
   have hm0:(0:Int)≤(m:Int):=by omega
   have hm2:(m:Int)<((m+1:Nat):Int):=by omega
   have hge:((kb+1:Nat):Int)≤((m+1:Nat):Int):=by omega
   have hmk:=fun W=>Qa 352 25 (.slice none 0 0) Tryz.underlying352 Jb qI rfl m qA W
   have hlpr:=hlp.keep HBr;generalize hTE:A'.getLastD []=top at *;have HTE:=Ae hTE;clear hTE HTD;obtain ⟨wp,rfl⟩:∃wp:World,wp=wr:=⟨_,rfl⟩;go_wp2_with (first|(go_at_call 315;refine (Pv _ _ _ _ qA).mono ?_;rintro e w1 ⟨rfl,rfl⟩));have hN0:=Ff.make wp m 25;have hB0:Below wp.heap.size wp (wp.alloc (.cells (Array.replicate m (Value.slice none 0 0)) 25)):=Below.alloc (Ac _ _) (Ad _) _;clear htc hlc;have hgal:ga<wp.heap.size:=by obtain ⟨_,_,_,h1,_⟩:=hA'.get (i:=m) qA;exact Aa _ _ h1
   have hgbl:gb<wp.heap.size:=by obtain ⟨_,_,_,h1,_⟩:=hbr.get (i:=kb) qA;exact Aa _ _ h1
   have hnga:¬ga=wp.heap.size:=by omega
   have hngb:¬gb=wp.heap.size:=by omega
   have hnga':¬wp.heap.size=ga:=by omega
   have hngb':¬wp.heap.size=gb:=by omega
   go_loopw [30] (fun v30 wi=>∃i:Nat,i≤m∧v30=.int .i64 i∧Ff wi wp.heap.size m (L.take i)∧Below wp.heap.size wp wi) (fun v30 _=>m-(intOf v30).toNat)
   case atStart=>exact ⟨0,by omega,rfl,hN0,hB0⟩
   case round =>
    obtain ⟨i,hi,rfl,hN,hBi⟩:=hrel;clear hN0 hB0;obtain ⟨wi,rfl⟩:∃wi:World,wi=wr:=⟨_,rfl⟩;by_cases hil:i<m
    ·obtain ⟨a1,n1,c1,hac,hap⟩:=(hA'.keep hBi).get (i:=i) qA;obtain ⟨x,hx,hLx⟩:=My HL.out i hil;unfold Tw at hx;obtain ⟨t,ht,hx⟩:=Option.bind_eq_some_iff.1 hx;rw [HLE.out] at ht;rw [HTE.out] at hx;obtain ⟨hok,rfl,hst⟩:=Lu ht;have sa:=Mh sA'.out i;have hLl:=Ih HL.out;have hTk:L.take (i+1)=L.take i++[x]:=by rw [List.take_add_one,hLx];rfl
     have HTk:=Ae hTk;have hti:(L.take i).length=i:=by rw [List.length_take];omega
     have hci:=hN.more i qA hil;have hfi:=hN.froz i hil;have hlpi:=hlpr.keep hBi;generalize A'.getD i []=l1 at *;have him:(i:Int)<(m:Int):=by omega
     have hi0:(0:Int)≤(i:Int):=by omega
     have hi2:(i:Int)<(m:Int)+1:=by omega
     clear hTk hLx ht;by_cases hkk:m≤i+kb
     ·have hc1:A'.length-b.length≤i:=by rw [hl',hb.len];omega
      rw [if_pos hc1] at hx;obtain ⟨u,hu,hx⟩:=Option.bind_eq_some_iff.1 hx;obtain ⟨k,hk⟩:∃k,i-(A'.length-b.length)=k:=⟨_,rfl⟩;rw [hk] at hu;rw [hl',hb.len] at hk;have hki:(i:Int)-((m:Int)+1-((kb:Int)+1))=(k:Int):=by omega
      have hk1:(k:Int)<(kb:Int)+1:=by omega
      have hk0:(0:Int)≤(k:Int):=by omega
      obtain ⟨a5,n5,c5,hbc0,hbp⟩:=hbr.get (i:=k) qA;have hbc:=Bc hBi hbc0;have sbk:=Mh sb k;generalize b.getD k []=l2 at *;obtain ⟨hok2,rfl,hsu⟩:=Lu hu;obtain ⟨rfl,hsx⟩:=Vl hx;have htpi:=htp.keep hBi;clear hk hkk hc1 hu hx;go_wp2_with fail;refine (Rh hap sa hlpi sl hok).mono ?_;rintro e w2 ⟨a3,n3,c3,rfl,hP3,hO3,hb2⟩;replace hci:=Bc hb2 hci;replace hfi:=(hb2.frozen hN.lt).trans hfi;replace hbc:=Bc hb2 hbc;have HW2:Below wp.heap.size wp w2:=hBi.trans (hb2.mono hBi.size);have hN2:=hN.keep hb2;go_upto_region 11 with fail
      refine Cc ?_;intro w3 hw3;have hG3:w2.grownBy w3 (some wp.heap.size):=by rw [hw3];exact Bf _ (A7 _ _)
      have hB3:Below wp.heap.size wp w3:=by rw [hw3];exact HW2.setCell (p:=⟨wp.heap.size,i,none⟩) (Ad _) _
      have hN3:Ff w3 wp.heap.size m (L.take i++[En l1 lead]):=by
       have h1:=Ff.set (D:=L.take i) (X:=[]) (by rw [List.append_nil];exact hN2) qG (by rw [hti];exact hil) (by rw [hti];exact ⟨_,hci⟩) (hP3.mono (show wp.heap.size+1≤wi.heap.size from hN.lt));rw [hti] at h1;rw [hw3];exact h1
      have hc3:w3.cell? ⟨wp.heap.size,i,none⟩=some (.slice a3 n3 c3):=by rw [hw3];exact World.cell?_setCell_same' _ _ _ (by rw [hci];rfl)
      have hf3:=hN3.froz i hil;have hb3:w3.cell? ⟨gb,k,none⟩=some (.slice a5 n5 c5):=hG3.cell hbc qJ;have hP3':=hP3.butR hG3 (fun k e=>by cases e;exact hN.lt);have hbp3:=hbp.keep hB3;have htp3:=htp.keep hB3;have hlt3:=hN3.lt;clear hw3 hci hfi hbc hbc0 hN hN2 hP3 hBi HW2 hG3 hbp htpi hap;refine Cf (fun W=>W.cell? ⟨wp.heap.size,i,none⟩=some (.slice a3 n3 c3)∧W.cell? ⟨gb,k,none⟩=some (.slice a5 n5 c5)) 14 qC qK (fun hHeld=>?_);(refine Bk.take 14 (i:=0) (v:=?_) rfl qC (fun _ _ _ h=>h) (Or.inl ⟨by rfl,?_⟩) qH ?_;rotate_left;(focus (intro w' hSw;(try dsimp only at hSw);go_simp;(try with_reducible rfl)));(try simp only [Act.put,Au,Av,Aw]));(refine Bk.take 14 (i:=1) (v:=?_) rfl qC (fun _ _ _ h=>h) (Or.inl ⟨by rfl,?_⟩) qH ?_;rotate_left;(focus (intro w' hSw;(try dsimp only at hSw);go_simp;(try with_reducible rfl)));(try simp only [Act.put,Au,Av,Aw]));(refine Bk.take 14 (i:=2) (v:=?_) rfl qC (fun _ _ _ h=>h) (Or.inl ⟨by rfl,?_⟩) qH ?_;rotate_left;(focus (intro w' hSw;(try dsimp only at hSw);go_simp;(try with_reducible rfl)));(try simp only [Act.put,Au,Av,Aw]));(refine Bk.take 14 (i:=3) (v:=?_) rfl qC (fun _ _ _ h=>h) (Or.inl ⟨by rfl,?_⟩) qH ?_;rotate_left;(focus (intro w' hSw;(try dsimp only at hSw);go_simp;(try with_reducible rfl)));(try simp only [Act.put,Au,Av,Aw]));(refine Bk.take 14 (i:=4) (v:=?_) rfl qC (fun _ _ _ h=>h) (Or.inl ⟨by rfl,?_⟩) qH ?_;rotate_left;(focus (intro w' hSw;(try dsimp only at hSw);go_simp;(try with_reducible rfl)));(try simp only [Act.put,Au,Av,Aw]));(refine Bk.take 14 (i:=5) (v:=?_) rfl qC (fun _ _ _ h=>h) (Or.inl ⟨by rfl,?_⟩) qH ?_;rotate_left;(focus (intro w' hSw;(try dsimp only at hSw);go_simp;(try with_reducible rfl)));(try simp only [Act.put,Au,Av,Aw]));(refine Bk.take 14 (i:=6) (v:=?_) rfl qC (fun _ _ _ h=>h) (Or.inl ⟨by rfl,?_⟩) qH ?_;rotate_left;(focus (intro w' hSw;(try dsimp only at hSw);go_simp;(try with_reducible rfl)));(try simp only [Act.put,Au,Av,Aw]));(refine Bk.take 14 (i:=7) (v:=?_) rfl qC (fun _ _ _ h=>h) (Or.inl ⟨by rfl,?_⟩) qH ?_;rotate_left;(focus (intro w' hSw;(try dsimp only at hSw);go_simp;(try with_reducible rfl)));(try simp only [Act.put,Au,Av,Aw]));(refine Bk.take 14 (i:=8) (v:=?_) rfl qC (fun _ _ _ h=>h) (Or.inl ⟨by rfl,?_⟩) qH ?_;rotate_left;(focus (intro w' hSw;(try dsimp only at hSw);go_simp;(try with_reducible rfl)));(try simp only [Act.put,Au,Av,Aw]));(refine Bk.take 14 (i:=9) (v:=?_) rfl qC (fun _ _ _ h=>h) (Or.inl ⟨by rfl,?_⟩) qH ?_;rotate_left;(focus (intro w' hSw;(try dsimp only at hSw);go_simp;(try with_reducible rfl)));(try simp only [Act.put,Au,Av,Aw]));(refine Bk.take 14 (i:=10) (v:=?_) rfl qC (fun _ _ _ h=>h) (Or.inl ⟨by rfl,?_⟩) qH ?_;rotate_left;(focus (intro w' hSw;(try dsimp only at hSw);go_simp;(try with_reducible rfl)));(try simp only [Act.put,Au,Av,Aw]))
      (refine Bk.one (i:=11) rfl qC (fun K hK=>?_);go_simp;(go_at_call 316;(with_reducible refine (Rh (hbp3.keep qF) sbk (htp3.keep qF) st hok2).mono ?_);rintro e w4 ⟨a6,n6,c6,rfl,hP6,hO6,hb⟩;have hb4:Below w3.heap.size w3 w4:=(by first|exact hb|exact Al qF (hb.mono qB));replace hc3:=Bc hb4 hc3;replace hf3:=(hb4.frozen hlt3).trans hf3;replace hb3:=Bc hb4 hb3);(try go_wp2_with fail);refine hK.out _ _ (fun _=>qK) ?_;clear hK K;(try simp only [Act.put,Au,Av,Aw]));(refine Bk.one (i:=12) rfl qC (fun K hK=>?_);go_simp;(go_at_call 12;(with_reducible refine (fK (hP3'.keep hb4) hst hP6 hsu).mono ?_);rintro e w5 ⟨a7,n7,c7,rfl,hP7,hO7,hb5⟩;replace hc3:=Bc hb5 hc3;replace hf3:=(hb5.frozen (Nat.lt_of_lt_of_le hlt3 hb4.size)).trans hf3;replace hb3:=Bc hb5 hb3);(try go_wp2_with fail);refine hK.out _ _ (fun _=>qK) ?_;clear hK K;(try simp only [Act.put,Au,Av,Aw]));(refine Bk.one (i:=13) rfl qC (fun K hK=>?_);go_simp;skip;(try go_wp2_with fail);refine hK.out _ _ (fun _=>qK) ?_;clear hK K;(try simp only [Act.put,Au,Av,Aw]));(refine Bk.one (i:=14) rfl qC (fun K hK=>?_);go_simp;refine hK.out _ _ (fun h=>absurd h qI) ?_;clear hK K;(try simp only [Act.put,Au,Av,Aw]));refine Bk.done qC ?_ _;have b5:=hb4.trans (hb5.mono hb4.size);have hN5:=hN3.keep b5;have h5:=Ff.set (D:=L.take i) (X:=[En l1 lead]) hN5 qG (by rw [hti];exact hil) (by rw [hti];exact ⟨_,hc3⟩) (hP7.mono (show wp.heap.size+1≤w4.heap.size from Nat.lt_of_lt_of_le hlt3 hb4.size));rw [hti,←HTk.out] at h5;have hB5:=(hB3.trans (b5.mono hB3.size)).setCell (p:=⟨wp.heap.size,i,none⟩) (Ad _) (.slice a7 n7 c7);generalize hw6:w5.setCell ⟨wp.heap.size,i,none⟩ (.slice a7 n7 c7)=w6 at *;clear hw6 hN5 b5 hc3 hf3 hb3 hP7 hP3' hN3;go_wp2_with fail;go_roundw
      case rel=>exact ⟨i+1,by omega,by go_num,h5,hB5⟩
      case measure=>(first|(simp [intOf];omega)|(simp [intOf];done))
     ·have hc1:¬A'.length-b.length≤i:=by rw [hl',hb.len];omega
      rw [if_neg hc1] at hx;obtain rfl:En l1 lead=x:=by simpa using hx
      have hki:(i:Int)-((m:Int)+1-((kb:Int)+1))<0:=by omega
      clear hkk hc1 hx;go_wp2_with fail;refine (Rh hap sa hlpi sl hok).mono ?_;rintro e w2 ⟨a3,n3,c3,rfl,hP3,hO3,hb2⟩;replace hci:=Bc hb2 hci;replace hfi:=(hb2.frozen hN.lt).trans hfi;have HW2:Below wp.heap.size wp w2:=hBi.trans (hb2.mono hBi.size);have hN2:=hN.keep hb2;have h3:=Ff.set (D:=L.take i) (X:=[]) (by rw [List.append_nil];exact hN2) qG (by rw [hti];exact hil) (by rw [hti];exact ⟨_,hci⟩) (hP3.mono (show wp.heap.size+1≤wi.heap.size from hN.lt));rw [hti,←HTk.out] at h3;have hB3:=HW2.setCell (p:=⟨wp.heap.size,i,none⟩) (Ad _) (.slice a3 n3 c3);go_wp2_with fail;go_roundw
      case rel=>exact ⟨i+1,by omega,by go_num,h3,hB3⟩
      case measure=>(first|(simp [intOf];omega)|(simp [intOf];done))
    ·obtain rfl:i=m:=by omega
     have hLl:=Ih HL.out;rw [As qA] at hN;have hRow:=hN.row hLl qA;have hBo:=HBr.trans (hBi.mono HBr.size);have hsL:=kZ HL.out;have htl:=Wj L;go_wp2_with fail;refine (kF _ _ _ _ _ hRow).mono ?_;rintro e w7 ⟨rfl,hb7⟩;have hR7:=(hRow.keep hb7);have hRT:Gi w7 (some ⟨wp.heap.size,0,none⟩) (Ex L).length i (Ex L):=by
      have h1:=hR7.take (m:=(Ex L).length) qA;rwa [←aI] at h1
     go_wp2_with fail;go_roundw
     case rel=>exact ⟨_,_,_,_,f'',rfl,hRT,HL2,Ae (fun l hl=>hsL l (iS l hl)),hBo.trans (hb7.mono hBo.size)⟩
     case measure=>simp;omega
theorem Po (l:Δ) (x:Nat) (hne:l≠[]):C6 l x=(Ka l x:Int):=by
 have h:∀(l:Δ) (a:Nat),l.foldl (fun n t=>max n (exN t.1 x:Int)) (a:Int)=((l.foldl (fun n t=>max n (exN t.1 x)) a:Nat):Int):=by
  intro l
  induction l with
  | nil=>intro a;rfl
  | cons t l ih =>
   intro a;have e:max (a:Int) (exN t.1 x:Int)=((max a (exN t.1 x):Nat):Int):=by omega
   show List.foldl _ (max (a:Int) _) l=_;rw [e,ih];rfl
 cases l with
 | nil=>exact absurd rfl hne
 | cons t l =>
  show List.foldl _ (max (-1:Int) (exN t.1 x:Int)) l=((List.foldl _ (max 0 (exN t.1 x)) l:Nat):Int);have e:max (-1:Int) (exN t.1 x:Int)=((max 0 (exN t.1 x):Nat):Int):=by omega
  rw [e,h]
theorem jV {l:Δ} (hl:Sm l) (k:Nat):Sm (Du l 0 k):=by
 refine ⟨Pi hl.pw k,fun t ht=>?_,?_⟩
 ·obtain ⟨x,hx,rfl⟩:=List.mem_map.1 ht;exact hl.few x (List.mem_filter.1 hx).1
 ·unfold Du;rw [List.length_map];exact Ah (List.length_filter_le _ _) hl.len
theorem iG (w:World) (B c:Nat) (a:Γ) (h:Bd w B a 0 c []) :
  Θ 55 #[.slice a 0 c,.int .i64 0] w (Rk w []):=by
 go_enter Tryz.func55,Tryz.ntmps55;go_wp2_with fail;refine (Il w B a 0 c [] h Sm.nil.pw (Sm.nil.few.mono qA) qA 0 qA).mono ?_;rintro e w1 ⟨rfl,hb1⟩;have hd:C6 [] 0=-1:=rfl;rw [hd];go_wp2_with fail;refine bodyPost_ret (v:=.slice none 0 0) (by simp [results,Tryz.results55,go_sem]) rfl ?_;exact ⟨none,0,0,rfl,⟨rfl,Ad _,by omega,.inl rfl⟩,fun l hl=>by simp at hl,hb1⟩
theorem Oj (w:World) (B n c:Nat) (a:Γ) (l:Δ) (h:Bd w B a n c l) (hl:Sm l) (hd:Ka l 0≤1000) :
  Θ 55 #[.slice a n c,.int .i64 0] w (Rk w (Dv l 0)):=by
 by_cases hne:l=[]
 ·subst hne;obtain rfl:n=0:=h.len.symm;exact iG w B c a h
 ·refine (xH w B n c a l h hl hne (Ka l 0) (Po l 0 hne) hd).mono ?_;rintro e w' ⟨v,rfl,hP,hb⟩;have e:(List.range (Ka l 0+1)).map (Du l 0)=Dv l 0:=by unfold Dv;rw [if_neg hne]
  rw [e] at hP;have hll:(Dv l 0).length=Ka l 0+1:=by rw [←e];simp
  obtain ⟨a1,c1,rfl,hR⟩:=hP.toR qA;refine ⟨a1,_,c1,rfl,hR,fun x hx=>?_,hb⟩;rw [←e] at hx;obtain ⟨k,_,rfl⟩:=List.mem_map.1 hx;exact jV hl k
theorem bH (w:World) (Cb Xb n c:Nat) (a:Γ) (s:List (Δ)) (hC:w.cell? ⟨Cb,0,none⟩=some (.func (.func 310) #[] #[])) (hX:w.cell? ⟨Xb,0,none⟩=some (.int .i64 0)) (h:Gi w a n c s) (hs:iX s) (hn:n≤1000)
  (p:Δ) (hp:Ph 0 s s.length=some p) (hsp:Sm p) (hq:Sm (Ck p)) (hd:Ka (Ck p) 0≤1000) :
  Θ 312 #[.slice a n c,.pointer (some ⟨Cb,0,none⟩),.pointer (some ⟨Xb,0,none⟩)] w (Rk w (Dv (Ck p) 0)):=by
 have HB:=Ac w.heap.size w;have HQ:=Ae (Ay hq hd);go_enter Tryz.func312,Tryz.ntmps312;go_wp2_with fail;refine (Le w n c a s h hs).mono ?_;rintro e w1 ⟨a1,n1,c1,rfl,hP1,hO1,hb1⟩;obtain rfl:n1=1:=hP1.len.symm;replace hC:=Bc hb1 hC;replace hX:=Bc hb1 hX;go_wp2_with fail;refine (gJ hP1).mono ?_;rintro e w2 ⟨rfl,hb2⟩;replace hC:=Bc hb2 hC;replace hX:=Bc hb2 hX;have z1:=hb1.size;have b2:=hb1.trans (hb2.mono z1);have z2:=hb2.size;have h2:=h.keep b2;have hgs:=Ae (fun W hW=>nY W n c a s (h2.keep hW) (fun l hl=>⟨(hs.1 l hl).1,(hs.1 l hl).2.1⟩) qA p hp);go_upto_region 3 with fail
 go_region_held3 (fun W=>W.cell? ⟨Xb,0,none⟩=some (.int .i64 0)) (first|((try dsimp only);(repeat' apply Ay);all_goals (first|(with_reducible assumption)|(go_keep;done)|(simp [*,go_sem];done)))) (first
  | (go_at_call 313;(with_reducible refine (hgs.out _ qF).mono ?_);rintro e w3 ⟨a3,n3,c3,rfl,hP3,hO3,hb⟩;have hb3:Below w2.heap.size w2 w3:=(by first|exact hb|exact Al qF (hb.mono qB));have z3:=hb3.size;replace hX:=Bc hb3 hX)
  | (go_at_call 22;(with_reducible refine (Kb (hP3.keep qF) hsp).mono ?_);rintro e w4 ⟨a4,n4,c4,rfl,hP4,hO4,hb⟩;have hb4:Below w3.heap.size w3 w4:=(by first|exact hb|exact Al qF (hb.mono qB));have z4:=hb4.size;replace hX:=Bc hb4 hX)
  | (go_at_call 55;(with_reducible refine (Oj _ _ _ _ _ _ (hP4.keep qF) hq hd).mono ?_);rintro e w5 ⟨a5,n5,c5,rfl,hR5,hS5,hb⟩;have hb5:Below w4.heap.size w4 w5:=(by first|exact hb|exact Al qF (hb.mono qB));have z5:=hb5.size;replace hX:=Bc hb5 hX))
 have b3:=b2.trans (hb3.mono b2.size);have b4:=b3.trans (hb4.mono b3.size);have b5:=b4.trans (hb5.mono b4.size);go_wp2_with fail;refine bodyPost_ret (v:=.slice a5 n5 c5) (by simp [*,results,Tryz.results312,go_sem]) rfl ?_;exact ⟨a5,n5,c5,rfl,hR5,hS5,b5⟩
def Aa1 (s:List (Δ)):Bool:=s.all (fun l=>smB l&&C9 l&&(decide (l=[]) || decide (Ck l=Na)))&&s.any (fun l=>decide (l≠[]))&&decide (s.length≤1000)
theorem iX.of {s:List (Δ)} (h:Aa1 s=true):iX s∧s.length≤1000:=by
 unfold Aa1 at h;simp only [Bool.and_eq_true,List.all_eq_true,List.any_eq_true,Bool.or_eq_true,decide_eq_true_eq] at h;obtain ⟨⟨h1,h2⟩,h3⟩:=h;exact ⟨⟨fun l hl=>⟨Sm.of (h1 l hl).1.1,(h1 l hl).1.2,fun h0=>((h1 l hl).2).resolve_left h0⟩,h2⟩,h3⟩
def Qr (s:List (Δ)):Option (List (Δ)) :=
 if Aa1 s then (Ph 0 s s.length).bind fun p=>(ck (Ck p)).bind fun q=>if Ka q 0≤1000∧q≠[] then some (Dv q 0) else none
 else none
theorem Jt {s r:List (Δ)} (h:Qr s=some r):iX s∧s.length≤1000∧∃p,Ph 0 s s.length=some p∧Sm p∧Sm (Ck p)∧Ka (Ck p) 0≤1000∧Ck p≠[]∧r=Dv (Ck p) 0:=by
 unfold Qr at h
 split at h
 ·next h1 =>
  obtain ⟨k1,k2⟩:=iX.of h1;obtain ⟨p,h2,h⟩:=Option.bind_eq_some_iff.1 h;obtain ⟨q,h3,h⟩:=Option.bind_eq_some_iff.1 h;obtain ⟨rfl,h4⟩:=Dy h3
  split at h
  ·next h5 =>
   cases h
   refine ⟨k1,k2,p,h2,?_,h4,h5.1,h5.2,rfl⟩;have hpos:0<s.length:=by
    obtain ⟨l,hl,_⟩:=k1.2;exact List.length_pos_of_mem hl
   obtain ⟨o,o',_,e1,e2⟩:=Oe h2 (s.length-1) qA;rw [show s.length-1+1=s.length by omega,h2] at e2;cases e2
   exact (Jk e1).2
  ·cases h
 ·cases h
theorem gZ {s r:List (Δ)} (h:Qr s=some r):0<r.length:=by
 obtain ⟨_,_,p,_,_,_,_,h0,rfl⟩:=Jt h;unfold Dv;rw [if_neg h0];simp
def K6:Nat→List (Δ)→List (Δ)→Option (Option (List (Δ)))
 | 0,_,_=>none
 | n+1,a,b=>(Nq b a.length a).bind fun r=>if r=[] then some (if b.length=1 then none else some b) else if r.length=1 then some none else (Qr r).bind fun c=>K6 n b c
def yQ (s:List (Δ)):Bool:=s.all (fun l=>smB l&&C9 l)
def mB:Option (List (Δ))→Option (Δ)
 | none=>some Na
 | some s=>if yQ s&&decide (s.length≤1000) then (Ph 0 s s.length).bind fun t=>(Qu t Na).bind fun u=>ck (Ck u) else none
def nH (p q:Δ):Option (Δ) :=
 if p=[] then ck (Ck q) else if q=[] then ck (Ck p) else
 if C9 p&&C9 q then ck (Ck p) else
 if (decide (0<Ka p 0) || decide (0<Ka q 0))&&decide (Ka p 0≤1000)&&decide (Ka q 0≤1000) then
  (Qr (Dv p 0)).bind fun a=>(Qr (Dv q 0)).bind fun b =>
   (if a.length<b.length then K6 50 b a else K6 50 a b).bind mB
 else none
def Ng:List (Δ)→Δ→Option (Δ)
 | [],g=>some g
 | p::l,g=>(nH g p).bind fun g'=>Ng l g'
def GEnd (wo w:World) (R:Option (List (Δ))) (v:Value):Prop :=
 Below wo.heap.size wo w∧∃(a:Γ) (n c:Nat),v=.slice a n c∧match R with
  | none=>n=1
  | some s=>n≠1∧Gi w a n c s
theorem Acr (wo:World) (B n c B' n' c':Nat) (a a':Γ) (p q:Δ) (h:Bd wo B a n c p) (hl:Sm p) (h':Bd wo B' a' n' c' q) (hl':Sm q) (hp0:p≠[]) (hq0:q≠[]) (hdx:0<Ka p 0∨0<Ka q 0) (hdp:Ka p 0≤1000) (hdq:Ka q 0≤1000)
  (A A':List (Δ)) (hA:Qr (Dv p 0)=some A) (hA':Qr (Dv q 0)=some A') (R:Option (List (Δ))) (hR:(if A.length<A'.length then K6 50 A' A else K6 50 A A')=some R)
  (r:Δ) (hr:mB R=some r) :
  Θ 266 #[.slice a n c,.slice a' n' c'] wo (Cl wo r):=by
 have HB:=Ac wo.heap.size wo;have hn:=h.len;have hn':=h'.len;have hn0:((n:Int)==0)=false:=by
  rw [beq_eq_false_iff_ne];have:=List.length_pos_iff.2 hp0;omega
 have hn0':((n':Int)==0)=false:=by
  rw [beq_eq_false_iff_ne];have:=List.length_pos_iff.2 hq0;omega
 have HRR:=Ae hr;have HR:=Ae hR;clear hr hR;go_enter Tryz.func266,Tryz.ntmps266;go_wp2_with fail;go_step3;go_wp2_with fail;refine (Vf wo B n c B' n' c' a a' p q h hl h' hl').mono ?_;rintro e w1 ⟨k,f,rfl,hb1,ht,hf⟩;have e1:=Po p 0 hp0;have e2:=Po q 0 hq0;have hff:f=true∧k=0:=by
  cases f with
  | false =>
   obtain ⟨_,h2⟩:=hf rfl;have:=h2 0 qA;rw [e1,e2] at this;omega
  | true =>
   obtain ⟨_,_,h2⟩:=ht rfl;refine ⟨rfl,?_⟩;by_cases hk:k=0
   ·exact hk
   ·have:=h2 0 qA;rw [e1,e2] at this;omega
 obtain ⟨rfl,rfl⟩:=hff;clear ht hf e1 e2 hn hn' hdx;go_wp2_with fail;refine Cc ?_;intro w2 hw2;have b2:Below w1.heap.size w1 w2:=by rw [hw2];go_grown
 have hX:w2.cell? ⟨w1.heap.size,0,none⟩=some (.int .i64 0):=by rw [hw2];simp [go_sem]
 have hC:w2.cell? ⟨w1.heap.size+1,0,none⟩=some (.func (.func 310) #[] #[]):=by rw [hw2];simp [go_sem]
 have HB2:=hb1.trans (b2.mono hb1.size);have hp2:=h.keep HB2;have hq2:=h'.keep HB2;clear hw2 b2 hb1;generalize w1.heap.size+1=Cb at *;generalize w1.heap.size=Xb at *;go_region_held3 (fun W=>W.cell? ⟨Xb,0,none⟩=some (.int .i64 0)∧W.cell? ⟨Cb,0,none⟩=some (.func (.func 310) #[] #[])) (first|((try dsimp only);(repeat' apply Ay);all_goals (first|(with_reducible assumption)|(go_keep;done)|(simp [*,go_sem];done)))) (first
  | (go_at_call 55;(with_reducible refine (Oj _ B n c a p (hp2.keep qF) hl hdp).mono ?_);rintro e w3 ⟨a3,n3,c3,rfl,hR3,hS3,hb⟩;have hb3:Below w2.heap.size w2 w3:=(by first|exact hb|exact Al qF (hb.mono qB));have z3:=hb3.size;replace hX:=Bc hb3 hX;replace hC:=Bc hb3 hC)
  | (go_at_call 55;(with_reducible refine (Oj _ B' n' c' a' q ((hq2.keep hb3).keep qF) hl' hdq).mono ?_);rintro e w4 ⟨a4,n4,c4,rfl,hR4,hS4,hb⟩;have hb4:Below w3.heap.size w3 w4:=(by first|exact hb|exact Al qF (hb.mono qB));have z4:=hb4.size;replace hX:=Bc hb4 hX;replace hC:=Bc hb4 hC))
 have HB4:=(HB2.trans (hb3.mono HB2.size)).trans (hb4.mono (by have:=HB2.size;omega));have hR3':=hR3.keep hb4;obtain ⟨N1,L1,s1,hs1,hss1,hps1,hds1,hne1,rfl⟩:=Jt hA;obtain ⟨N2,L2,s2,hs2,hss2,hps2,hds2,hne2,rfl⟩:=Jt hA';have l3:=hR3.len;have l4:=hR4.len;clear hR3 hb3 hb4 hp2 hq2;generalize Dv p 0=ca at *;generalize Dv q 0=cb at *;go_wp2_with fail;have hone:Ck [(0,(1,1))]=Na:=by decide +kernel
 have sm1:Sm [(0,((1,1):PC))]:=I8;go_region_held3 (fun W=>W.cell? ⟨Xb,0,none⟩=some (.int .i64 0)∧W.cell? ⟨Cb,0,none⟩=some (.func (.func 310) #[] #[])) (first|((try dsimp only);(repeat' apply Ay);all_goals (first|(with_reducible assumption)|(go_keep;done)|(simp [*,go_sem];done)))) (first
  | (go_at_call 310;(with_reducible refine (Le _ n3 c3 a3 ca (hR3'.keep qF) N1).mono ?_);rintro e w5 ⟨a5,n5,c5,rfl,hP5q,hO5,hb⟩;have hP5:Bd w5 _ a5 n5 c5 [(0,((1,1):PC))]:=hP5q;have hb5:Below w4.heap.size w4 w5:=(by first|exact hb|exact Al qF (hb.mono qB));have z5:=hb5.size;replace hX:=Bc hb5 hX;replace hC:=Bc hb5 hC)
  | (go_at_call 310;(with_reducible refine (Le _ n4 c4 a4 cb ((hR4.keep hb5).keep qF) N2).mono ?_);rintro e w6 ⟨a6,n6,c6,rfl,hP6q,hO6,hb⟩;have hP6:Bd w6 _ a6 n6 c6 [(0,((1,1):PC))]:=hP6q;have hb6:Below w5.heap.size w5 w6:=(by first|exact hb|exact Al qF (hb.mono qB));have z6:=hb6.size;replace hX:=Bc hb6 hX;replace hC:=Bc hb6 hC)
  | (go_at_call 266;(with_reducible refine (Yt _ _ n5 c5 _ n6 c6 a5 a6 (1,1) (1,1) ((hP5.keep hb6).keep qF) sm1 (hP6.keep qF) sm1).mono ?_);rintro e w7 ⟨a7,n7,c7,rfl,hP7,hO7,hb⟩;have hb7:Below w6.heap.size w6 w7:=(by first|exact hb|exact Al qF (hb.mono qB));have z7:=hb7.size;replace hX:=Bc hb7 hX;replace hC:=Bc hb7 hC;rw [hone] at hP7))
 have z4w:=HB4.size;have z6w:wo.heap.size≤w6.heap.size:=by omega
 have b7:=(hb5.trans (hb6.mono z5)).trans (hb7.mono qA);have HB7:=HB4.trans (b7.mono HB4.size);have hR7:=hR3'.keep b7;have hR7':=hR4.keep b7;clear hR3' hR4 hP5 hP6 hP5q hP6q hO5 hO6 hb5 hb6 hb7 b7 HB4;go_wp2_with fail;refine (bH w7 Cb Xb n3 c3 a3 ca hC hX hR7 N1 qA s1 hs1 hss1 hps1 hds1).mono ?_;rintro e w8 ⟨a8,n8,c8,rfl,hR8,hS8,hb8⟩;replace hC:=Bc hb8 hC;replace hX:=Bc hb8 hX;have z8:=hb8.size;go_wp2_with fail;refine (bH w8 Cb Xb n4 c4 a4 cb hC hX (hR7'.keep hb8) N2 qA s2 hs2 hss2 hps2 hds2).mono ?_;rintro e w9 ⟨a9,n9,c9,rfl,hR9,hS9,hb9⟩;replace hC:=Bc hb9 hC;replace hX:=Bc hb9 hX;have z9:=hb9.size;have HB9:=(HB7.trans (hb8.mono HB7.size)).trans (hb9.mono (by have:=HB7.size;omega));replace hR8:=hR8.keep hb9;have hP9:=(hP7.keep hb8).keep hb9;have hO9:=(hO7.keep hb8).keep hb9;have lA:=hR8.len;have lB:=hR9.len;have hlA:0<(Dv (Ck s1) 0).length:=by unfold Dv;rw [if_neg hne1];simp
 have hlB:0<(Dv (Ck s2) 0).length:=by unfold Dv;rw [if_neg hne2];simp
 have hPB:Bd w9 wo.heap.size a7 n7 c7 Na:=hP9.mono qA;have hOB:Bm w9 wo.heap.size a7 n7 c7:=hO9.mono qA;clear hR7 hR7' hP7 hO7 hP9 hO9 N1 N2 hs1 hss1 hps1 hds1 hne1 hs2 hss2 hps2 hds2 hne2 hA hA' hb8 hb9 HB7 HB2 HB l3 l4 L1 L2;generalize Dv (Ck s1) 0=A at *;generalize Dv (Ck s2) 0=A' at *;go_upto_if 59 with fail
 go_cut [9,10] (fun v9 v10 wc=>∃(aP aQ:Γ) (nP cP nQ cQ:Nat) (P Q:List (Δ)),v9=.slice aP nP cP∧v10=.slice aQ nQ cQ∧Gi w9 aP nP cP P∧Gi w9 aQ nQ cQ Q∧(∀l∈P,Sm l)∧(∀l∈Q,Sm l)∧0<P.length∧0<Q.length∧Hid (K6 50 P Q=some R)∧w9=wc)
 case first =>
  by_cases hlt:n8<n9
  ·have HG:=Ae (show K6 50 A' A=some R by have:=HR.out;rw [if_pos qA] at this;exact this);clear HR;go_wp2_with fail;go_meet
   case rel=>exact ⟨_,_,_,_,_,_,A',A,rfl,rfl,hR9,hR8,hS9,hS8,hlB,hlA,HG,rfl⟩
  ·have HG:=Ae (show K6 50 A A'=some R by have:=HR.out;rw [if_neg qA] at this;exact this);clear HR;go_wp2_with fail;go_meet
   case rel=>exact ⟨_,_,_,_,_,_,A,A',rfl,rfl,hR8,hR9,hS8,hS9,hlA,hlB,HG,rfl⟩
 case rest =>
  obtain ⟨aP,aQ,nP,cP,nQ,cQ,P,Q,rfl,rfl,hRP,hRQ,hSP,hSQ,hlP,hlQ,HG,rfl⟩:=hcut;clear HR hR8 hR9 hS8 hS9 hlA hlB lA lB;go_wp2_with fail;go_step3;go_upto_block 1 with fail
  go_cut [10] (fun v10 wc=>GEnd w9 wc R v10)
  case first =>
   have B9:=Ac w9.heap.size w9;go_wp2_with fail;go_loopg [9,10] 50 (fun gq v9 v10 wr=>∃(gk:Nat) (aP aQ:Γ) (nP cP nQ cQ:Nat) (P Q:List (Δ)),gk=gq∧v9=.slice aP nP cP∧v10=.slice aQ nQ cQ∧Gi wr aP nP cP P∧Gi wr aQ nQ cQ Q∧Hid (∀l∈P,Sm l)∧Hid (∀l∈Q,Sm l)∧0<Q.length∧Hid (K6 gk P Q=some R)∧Below w9.heap.size w9 wr)
   case atStart=>exact ⟨50,_,_,_,_,_,_,P,Q,rfl,rfl,rfl,hRP,hRQ,Ae hSP,Ae hSQ,hlQ,HG,B9⟩
   case round =>
    clear hRP hRQ hSP hSQ hlP hlQ HG B9 P Q aP aQ nP cP nQ cQ;obtain ⟨gq,aP,aQ,nP,cP,nQ,cQ,P,Q,hgq,rfl,rfl,hRP,hRQ,hSP,hSQ,hlQ,HG,HBr⟩:=hrel;have HGQ:=Ae hgq;clear hgq;have hXr:=Bc HBr hX;have hCr:=Bc HBr hC;have hQl:=hRQ.len;have hQf:=hRQ.few
    cases gq with
    | zero=>exact absurd HG.out (by simp [K6])
    | succ k =>
     have h1:=HG.out;unfold K6 at h1;obtain ⟨rr,h2,h3⟩:=Option.bind_eq_some_iff.1 h1;have hlf:=Abw _ nP cP nQ cQ aP aQ P Q hRP hRQ hSP.out hSQ.out qA P.length rr h2;clear h1 h2 HG;by_cases hr0:rr=[]
     ·subst hr0;rw [if_pos rfl] at h3;have hGE:=Ae (show ∀W,Below w9.heap.size w9 W→Gi W aQ nQ cQ Q→GEnd w9 W R (.slice aQ nQ cQ) from fun W hW hRW=>by
       refine ⟨hW,aQ,nQ,cQ,rfl,?_⟩;by_cases e:Q.length=1
       ·rw [if_pos e] at h3;cases h3
        show nQ=1;omega
       ·rw [if_neg e] at h3;cases h3
        exact ⟨by omega,hRW⟩)
      clear h3;go_wp2_with fail;refine hlf.mono ?_;rintro e w10 ⟨a10,n10,c10,rfl,hR10,hS10,hb10⟩;obtain rfl:n10=0:=hR10.len.symm;go_wp2_with fail;go_meet
      case rel=>exact hGE.out _ (HBr.trans (hb10.mono HBr.size)) (hRQ.keep hb10)
     ·rw [if_neg hr0] at h3;by_cases hr1:rr.length=1
      ·rw [if_pos hr1] at h3;cases h3
       obtain ⟨x,pl,rfl⟩:=List.exists_cons_of_ne_nil hp0;go_wp2_with fail;refine hlf.mono ?_;rintro e w10 ⟨a10,n10,c10,rfl,hR10,hS10,hb10⟩;obtain rfl:n10=1:=by rw [←hR10.len];exact hr1
       have HB10:=HB9.trans ((HBr.trans (hb10.mono HBr.size)).mono HB9.size);have hp10:=h.keep HB10;go_wp2_with (first|(go_at_call 315;(refine (Pv _ _ _ _ qA).mono ?_);rintro e w11 ⟨rfl,rfl⟩));refine (yE _ B n c a x pl hp10 hl).mono ?_;rintro e w12 ⟨a12,n12,c12,rfl,hP12,hO12,hb12⟩;have z10:=hb10.size;have zr:=HBr.size;have HB12:=(HBr.trans (hb10.mono HBr.size)).trans (hb12.mono qA);go_wp2_with fail;go_meet
       case rel=>exact ⟨HB12.trans ((by go_grown:Below w12.heap.size w12 _).mono HB12.size),_,1,_,rfl,rfl⟩
      ·rw [if_neg hr1] at h3;obtain ⟨cc,h4,h5⟩:=Option.bind_eq_some_iff.1 h3;have hcp:=gZ h4;obtain ⟨N3,L3,s3,hs3,hss3,hps3,hds3,hne3,rfl⟩:=Jt h4;have H5:=Ae h5;clear h3 h4 h5;go_wp2_with fail;refine hlf.mono ?_;rintro e w10 ⟨a10,n10,c10,rfl,hR10,hS10,hb10⟩;have l10:=hR10.len;have f10:=hR10.few;have hn10:n10≠0:=by
        have:=List.length_pos_iff.2 hr0;omega
       have hn100:((n10:Int)==0)=false:=by rw [beq_eq_false_iff_ne];omega
       have hn101:((n10:Int)-1==0)=false:=by rw [beq_eq_false_iff_ne];omega
       go_wp2_with (first|(go_at_call 315;(refine (Pv _ _ _ _ qA).mono ?_);rintro e w11 ⟨rfl,rfl⟩));refine (bH w10 Cb Xb n10 c10 a10 rr (Bc hb10 hCr) (Bc hb10 hXr) hR10 N3 qA s3 hs3 hss3 hps3 hds3).mono ?_;rintro e w12 ⟨a12,n12,c12,rfl,hR12,hS12,hb12⟩;have z10:=hb10.size;have zr:=HBr.size;have HB12:=(HBr.trans (hb10.mono HBr.size)).trans (hb12.mono qA);go_wp2_with fail;go_roundg k
       case rel=>exact ⟨k,_,_,_,_,_,_,Q,_,rfl,rfl,rfl,(hRQ.keep hb10).keep hb12,hR12,hSQ,Ae hS12,hcp,H5,HB12⟩
       case measure=>have:=HGQ.out;omega
  case rest =>
   obtain ⟨HBc,a10,n10,c10,rfl,hE⟩:=hcut;have hXc:=Bc HBc hX;have hPc:=hPB.keep HBc;have hOc:=hOB.keep HBc;have HBo:=HB9.trans (HBc.mono HB9.size);clear hRP hRQ hSP hSQ hlP hlQ HG hPB hOB
   cases R with
   | none =>
    obtain rfl:n10=1:=hE;obtain rfl:Na=r:=by have:=HRR.out;simpa [mB] using this
    go_wp2_with (first|(go_at_call 315;(refine (Pv _ _ _ _ qA).mono ?_);rintro e w11 ⟨rfl,rfl⟩));refine bodyPost_ret (v:=.slice a7 n7 c7) (by simp [results,Tryz.results266,go_sem]) rfl ?_;exact ⟨a7,n7,c7,rfl,hPc,hOc,HBo⟩
   | some s =>
    obtain ⟨hn1,hRs⟩:=hE;have h1:=HRR.out;simp only [mB] at h1
    split at h1
    ·next h2 =>
     simp only [Bool.and_eq_true,decide_eq_true_eq,yQ,List.all_eq_true] at h2;obtain ⟨t,h3,h4⟩:=Option.bind_eq_some_iff.1 h1;obtain ⟨u,h5,h6⟩:=Option.bind_eq_some_iff.1 h4;obtain ⟨rfl,hsr⟩:=Dy h6;obtain ⟨hok,rfl,hsu⟩:=Lu h5;have hls:=hRs.len;have hst:Sm t:=by
      cases hsl:s.length with
      | zero=>rw [hsl] at h3;simp [Ph] at h3;subst h3;exact Sm.nil
      | succ m =>
       obtain ⟨o,o',_,e1,e2⟩:=Oe h3 m qA;rw [←hsl,h3] at e2;cases e2
       exact (Jk e1).2
     have hgs:=Ae (fun W hW=>nY W n10 c10 a10 s (hRs.keep hW) (fun l hl=>⟨Sm.of (h2.1 l hl).1,(h2.1 l hl).2⟩) qA t h3);have hn101:((n10:Int)-1==0)=false:=by rw [beq_eq_false_iff_ne];omega
     have hfs:=hRs.few;clear h1 h2 h3 h4 h5 h6 HRR;go_wp2_with (first|(go_at_call 315;(refine (Pv _ _ _ _ qA).mono ?_);rintro e w11 ⟨rfl,rfl⟩));refine (hgs.out wc (Ac _ _)).mono ?_;rintro e w3 ⟨a3,n3,c3,rfl,hP3,hO3,hb3⟩;have z3:=hb3.size;go_wp2_with fail;refine (Rh hP3 hst (hPc.keep hb3) I8 hok).mono ?_;rintro e w4 ⟨a4,n4,c4,rfl,hP4,hO4,hb4⟩;have z4:=hb4.size;go_wp2_with fail;refine (Kb hP4 hsu).mono ?_;rintro e w5 ⟨a5,n5,c5,rfl,hP5,hO5,hb5⟩;have z5:=hb5.size;have zo:=HBo.size;have b5:=((HBo.trans (hb3.mono zo)).trans (hb4.mono qA)).trans (hb5.mono qA);go_wp2_with fail;refine bodyPost_ret (v:=.slice a5 n5 c5) (by simp [*,results,Tryz.results266,go_sem]) rfl ?_;exact ⟨a5,n5,c5,rfl,hP5.mono qS,hO5.mono qS,b5⟩
    ·cases h1
end Go.Proofs.YtnnhcbeiogaknaaGreatDoor
end
