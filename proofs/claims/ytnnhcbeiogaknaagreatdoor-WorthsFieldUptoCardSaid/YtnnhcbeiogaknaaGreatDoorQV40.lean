/- Package worths: list, split at the factors of x^2 - 1, Truth. -/
import Derived.Test.YtnnhcbeiogaknaaGreatDoorQV39
set_option linter.unusedSimpArgs false
set_option linter.unusedVariables false
set_option maxRecDepth 100000
set_option maxHeartbeats 4000000
section
namespace Go.Proofs.YtnnhcbeiogaknaaGreatDoor
open Go.RowKit
theorem zZ {w:World} {B:Nat} {o:Option Nat} {xs:List VT} {a:Γ} {n c:Nat} (h:Bw w B o (.bool true) (.slice none 0 0) (.slice a n c) (.node true [] xs)) (hok:VT.Ok 1 (.node true [] xs)) :
  Θ 158 #[.slice a n c] w (fun e w'=>e=.returned (.tuple #[.agg #[.bool true,.slice none 0 0,.slice a n c],.int .i64 0])∧Below w.heap.size w w'):=by
 have HB:=Ac w.heap.size w;have HV:=Ae h.read;clear h;go_enter Tryz.func158,Tryz.ntmps158;go_wp2_with fail;refine Be ?_;intro w1 hw1;have b1:Below w.heap.size w w1:=by rw [hw1];go_grown
 have R1:Blk w1 w.heap.size #[.bool false,.slice none 0 0,.slice none 0 0] 60:=by rw [hw1];exact (Bi rfl _ _).alloc _
 have A1:Blk w1 (w.heap.size+1) #[.bool true,.slice none 0 0,.slice a n c] 60:=by rw [hw1];exact Bi qG _ _
 clear hw1;refine (Dc (HV.out.keep b1) hok).mono ?_;rintro e w2 ⟨rfl,hb2⟩;have b2:=b1.trans (hb2.mono b1.size);have R2:=R1.keep hb2;have A2:=A1.keep hb2;have x0:=A2.cell 0 _ rfl;have x1:=A2.cell 1 _ rfl;have x2:=A2.cell 2 _ rfl;have r0:=R2.cell 0 _ rfl;have r1:=R2.cell 1 _ rfl;have r2:=R2.cell 2 _ rfl;have f0:=R2.frozen 0;have f1:=R2.frozen 1;have f2:=R2.frozen 2;have rl:=R2.lt;have al:=A2.lt;go_wp2_with fail;refine bodyPost_ret (v:=.tuple #[.agg #[.bool true,.slice none 0 0,.slice a n c],.int .i64 0]) (by simp [results,Tryz.results158,go_sem,rl,al,r0,r1,r2]) rfl ?_;exact ⟨rfl,Cd b2 (Ad _) _ _ _⟩
theorem aD (w:World):Θ 137 #[.int .i64 1] w (jC w (Qf 1)):=Qi w 1 qA
def Ip (l:Δ):VT:=.node true [] [.node false l [],Qf 1]
def O6:VT:=.node true [] [.node false (Im (1,1)) [],Ip pM,Ip pP]
theorem num1:Im (1,1)=[(0,1,1)]:=xW 1 qA
theorem few5 {l:Δ} (h:Sm l):Cj 5000 l:=fun t ht=>by have:=h.few t ht;omega
theorem Hf {l:Δ} (h:Sm l) (d:Nat):VT.Ok d (.node false l []):=by rw [VT.Ok];exact .inl ⟨rfl,rfl,by have:=h.len;omega,h.pw,few5 h⟩
theorem oK {l:Δ} (h:Sm l) (d:Nat) (hd:d≤64):VT.Ok d (Ip l):=by
 rw [Ip,VT.Ok];refine .inr ⟨rfl,rfl,by simp,hd,VT.OkL_iff.2 fun x hx=>?_⟩;simp only [List.mem_cons,List.not_mem_nil,or_false] at hx;rcases hx with rfl|rfl
 ·exact Hf h _
 ·exact Hf (by show Sm (Im (1,1));rw [num1];exact I8) _
theorem fM:VT.Ok 1 O6:=by
 rw [O6,VT.Ok];refine .inr ⟨rfl,rfl,by simp,by omega,VT.OkL_iff.2 fun x hx=>?_⟩;simp only [List.mem_cons,List.not_mem_nil,or_false] at hx;rcases hx with rfl|rfl|rfl
 ·exact Hf (by rw [num1];exact I8) _
 ·exact oK smM _ qA
 ·exact oK smP _ qA
theorem pB (w:World) (g1:Bool) (a1:Γ) (n1 c1:Nat) (g2:Bool) (a2:Γ) (n2 c2:Nat) (G:Nat) (aM:Γ) (nM cM:Nat) (aP:Γ) (nP cP:Nat) (hF:Bj w g1 a1 n1 c1 1 g2 a2 n2 c2 1)
  (l0:w.cell? ⟨G,0,none⟩=some (.slice aM nM cM)) (l1:w.cell? ⟨G,1,none⟩=some (.int .i64 1)) (l2:w.cell? ⟨G,2,none⟩=some (.slice aP nP cP)) (l3:w.cell? ⟨G,3,none⟩=some (.int .i64 1))
  (hM:Bd w 0 aM nM cM pM) (oM:Bm w 0 aM nM cM) (hP:Bd w 0 aP nP cP pP) (oP:Bm w 0 aP nP cP) :
  Θ 147 #[.agg #[.bool g1,.slice a1 n1 c1,.bool g2,.slice a2 n2 c2],.slice (some ⟨G,0,none⟩) 2 2,.int .i64 0] w (N8 w O6 0):=by
 have HB:=Ac w.heap.size w;have q1:=Co hF.top qI;have q2:=Co hF.low qI;go_enter Tryz.func147,Tryz.ntmps147;go_wp2_with fail;refine Be ?_;intro w1 hw1;have b1:Below w.heap.size w w1:=by rw [hw1];go_grown
 have R1:Blk w1 (w.heap.size+1) #[.bool false,.slice none 0 0,.slice none 0 0] 60:=by rw [hw1];exact Bi qG _ _
 clear hw1;refine (Rt w1 g1 a1 n1 c1 g2 a2 n2 c2 (1,1) (hF.keep b1) qA qA (fun k=>Ah (Kf _ _) (Vz 1 qA))).mono ?_;rintro e w2 ⟨a3,n3,c3,rfl,P3,O3,hb2⟩;have b2:=b1.trans (hb2.mono b1.size);have R2:=R1.keep hb2;go_wp2_with fail;refine Cc ?_;intro w3 hw3;have k3:Below w2.heap.size w2 w3:=by rw [hw3];go_grown
 have V3:Blk w3 w2.heap.size #[.bool false,.slice a3 n3 c3,.slice none 0 0] 60:=by rw [hw3];exact Bi rfl _ _
 clear hw3;have b3:=b2.trans (k3.mono b2.size);have RV:Wl w3 w2.heap.size w2.heap.size (.slice (some ⟨w2.heap.size,0,none⟩) 1 1) [.node false (Im (1,1)) []]:=by
  refine ⟨[.bool false,.slice a3 n3 c3,.slice none 0 0],⟨rfl,.inr ⟨w2.heap.size,1,_,rfl,Ad _,V3,Ad _,by unfold maxLen;omega,rfl,rfl⟩⟩,fun i t ht=>?_⟩;rcases i with _|i
  ·simp only [List.getElem?_cons_zero,Option.some.injEq] at ht;subst ht;exact ⟨_,_,_,_,rfl,rfl,rfl,rfl,Py (P3.keep k3) (O3.keep k3)⟩
  ·simp at ht
 obtain ⟨i0,hi,hy0,hy1,hy2⟩:=info_parts vQ;have HTS:∀i,i<2→∃aX nX cX lX,w.cell? ⟨G,i*2,none⟩=some (.slice aX nX cX)∧w.cell? ⟨G,i*2+1,none⟩=some (.int .i64 1)∧Bd w 0 aX nX cX lX∧Bm w 0 aX nX cX∧[VT.node false (Im (1,1)) [],Ip pM,Ip pP][i+1]? = some (Ip lX):=fun i hi=>by
  rcases i with _|_|i
  ·exact ⟨_,_,_,_,l0,l1,hM,oM,rfl⟩
  ·exact ⟨_,_,_,_,l2,l3,hP,oP,rfl⟩
  ·omega
 have HT:=Ae HTS;have hz2:=b2.size;have hz23:=k3.size;have hz1:=R1.lt;have hz12:=hb2.size;clear HTS l0 l1 l2 l3 hM oM hP oP P3 O3 V3;go_loopw [8,21] (fun v8 v21 wr=>∃(i:Nat),i≤2∧v21=.int .i64 i∧Wl wr w2.heap.size w2.heap.size v8 ([VT.node false (Im (1,1)) [],Ip pM,Ip pP].take (i+1))∧Blk wr (w.heap.size+1) #[.bool false,.slice none 0 0,.slice none 0 0] 60∧Below w.heap.size w wr∧w2.heap.size≤wr.heap.size) (fun _ v21 _=>2-(intOf v21).toNat)
 case atStart=>exact ⟨0,by omega,rfl,RV,R2.keep k3,b3,hz23⟩
 case round =>
  clear RV;obtain ⟨i,hi2,rfl,hrow,Rr,HBr,h0r⟩:=hrel;by_cases hlt:i<2
  ·obtain ⟨aX,nX,cX,lX,c0,c1,hX,oX,hts⟩:=HT.out i hlt
   (replace c0:=Bc HBr c0;replace c1:=Bc HBr c1)
   have hgl:=Aa _ _ c0;have HXX:=Ae (Ay (hX.keep HBr) (Ay (oX.keep HBr) hts));obtain ⟨ys,hown,hys⟩:=hrow;have hil:([VT.node false (Im (1,1)) [],Ip pM,Ip pP].take (i+1)).length=i+1:=by rw [List.length_take];simp;omega
   have HY:=Ae (Ay hown hys);clear hX oX hts hown hys;go_upto_region 7 with fail
   refine Cc ?_;intro w4 hw4;have k4:Below wr.heap.size wr w4:=by rw [hw4];go_grown
   have X4:Blk w4 wr.heap.size #[.slice aX nX cX,.int .i64 1] 47:=by rw [hw4];exact Bi rfl _ _
   clear hw4;have t0:=X4.cell 0 _ rfl;have t1:=X4.cell 1 _ rfl;have kd:Below w4.heap.size w4 w4.drew:=Below.drew (Ac _ _);have hs4:=k4.size;refine Cf (fun W=>W.cell? ⟨wr.heap.size,0,none⟩=some (.slice aX nX cX)∧W.cell? ⟨wr.heap.size,1,none⟩=some (.int .i64 1)) 11 qC qK (fun hHeld=>?_);(refine Bk.take 11 (i:=0) (v:=?_) rfl qC (fun _ _ _ h=>h) (Or.inl ⟨by rfl,?_⟩) qH ?_;rotate_left;(focus (intro w' hSw;(try dsimp only at hSw);go_simp;(try with_reducible rfl)));(try simp only [Act.put,Au,Av,Aw]));(refine Bk.take 11 (i:=1) (v:=?_) rfl qC (fun _ _ _ h=>h) (Or.inl ⟨by rfl,?_⟩) qH ?_;rotate_left;(focus (intro w' hSw;(try dsimp only at hSw);go_simp;(try with_reducible rfl)));(try simp only [Act.put,Au,Av,Aw]));(refine Bk.take 11 (i:=2) (v:=?_) rfl qC (fun _ _ _ h=>h) (Or.inl ⟨by rfl,?_⟩) qH ?_;rotate_left;(focus (intro w' hSw;(try dsimp only at hSw);go_simp;(try with_reducible rfl)));(try simp only [Act.put,Au,Av,Aw]));(refine Bk.take 11 (i:=3) (v:=?_) rfl qC (fun _ _ _ h=>h) (Or.inl ⟨by rfl,?_⟩) qH ?_;rotate_left;(focus (intro w' hSw;(try dsimp only at hSw);go_simp;(try with_reducible rfl)));(try simp only [Act.put,Au,Av,Aw]));(refine Bk.take 11 (i:=4) (v:=?_) rfl qC (fun _ _ _ h=>h) (Or.inl ⟨by rfl,?_⟩) qH ?_;rotate_left;(focus (intro w' hSw;(try dsimp only at hSw);go_simp;(try with_reducible rfl)));(try simp only [Act.put,Au,Av,Aw]));(refine Bk.take 11 (i:=5) (v:=?_) rfl qC (fun _ _ _ h=>h) (Or.inl ⟨by rfl,?_⟩) qH ?_;rotate_left;(focus (intro w' hSw;(try dsimp only at hSw);go_simp;(try with_reducible rfl)));(try simp only [Act.put,Au,Av,Aw]));(refine Bk.one (i:=6) rfl qC (fun K hK=>?_);go_simp;(go_at_call 137;(with_reducible refine (aD w4.drew).mono ?_);rintro e w5 ⟨p0,p1,p2,rfl,hq,hb5⟩;obtain ⟨gx,bx,mx,ex,bY,mY,eY,rfl,rfl,rfl⟩:=hq.form;have HQ:=Ae hq;clear hq;have hs5:=hb5.size;rw [Ak] at hs5;replace hb5:Below w4.heap.size w4 w5:=kd.trans (by rw [Ak] at hb5;exact hb5);replace t0:=Bc hb5 t0;replace t1:=Bc hb5 t1);(try go_wp2_with fail);refine hK.out _ _ (fun _=>qK) ?_;clear hK K;(try simp only [Act.put,Au,Av,Aw]));(refine Bk.one (i:=7) rfl qC (fun K hK=>?_);go_simp;skip;(try go_wp2_with fail);refine hK.out _ _ (fun _=>qK) ?_;clear hK K;(try simp only [Act.put,Au,Av,Aw]));(refine Bk.one (i:=8) rfl qC (fun K hK=>?_);go_simp;skip;(try go_wp2_with fail);refine hK.out _ _ (fun _=>qK) ?_;clear hK K;(try simp only [Act.put,Au,Av,Aw]));(refine Bk.one (i:=9) rfl qC (fun K hK=>?_);go_simp;skip;(try go_wp2_with fail);refine hK.out _ _ (fun _=>qK) ?_;clear hK K;(try simp only [Act.put,Au,Av,Aw]));have k6:Below w5.heap.size w5 (w5.alloc (.cells #[.bool false,.slice aX nX cX,.slice none 0 0,.bool gx,.slice bx mx ex,.slice bY mY eY] 60)):=Below.alloc (Ac _ _) (Ad _) _
   have k7:Below (w5.alloc (.cells #[.bool false,.slice aX nX cX,.slice none 0 0,.bool gx,.slice bx mx ex,.slice bY mY eY] 60)).heap.size (w5.alloc (.cells #[.bool false,.slice aX nX cX,.slice none 0 0,.bool gx,.slice bx mx ex,.slice bY mY eY] 60)) ((w5.alloc (.cells #[.bool false,.slice aX nX cX,.slice none 0 0,.bool gx,.slice bx mx ex,.slice bY mY eY] 60)).alloc (.cells #[.bool true,.slice none 0 0,.slice (some ⟨w5.heap.size,0,none⟩) 2 2] 60)):=Below.alloc (Ac _ _) (Ad _) _;have k57:Below w5.heap.size w5 ((w5.alloc (.cells #[.bool false,.slice aX nX cX,.slice none 0 0,.bool gx,.slice bx mx ex,.slice bY mY eY] 60)).alloc (.cells #[.bool true,.slice none 0 0,.slice (some ⟨w5.heap.size,0,none⟩) 2 2] 60)):=k6.trans (k7.mono qG);have hz7:(World.heap ((w5.alloc (.cells #[.bool false,.slice aX nX cX,.slice none 0 0,.bool gx,.slice bx mx ex,.slice bY mY eY] 60)).alloc (.cells #[.bool true,.slice none 0 0,.slice (some ⟨w5.heap.size,0,none⟩) 2 2] 60))).size=w5.heap.size+1+1:=by simp
   have B5:Blk ((w5.alloc (.cells #[.bool false,.slice aX nX cX,.slice none 0 0,.bool gx,.slice bx mx ex,.slice bY mY eY] 60)).alloc (.cells #[.bool true,.slice none 0 0,.slice (some ⟨w5.heap.size,0,none⟩) 2 2] 60)) w5.heap.size #[.bool false,.slice aX nX cX,.slice none 0 0,.bool gx,.slice bx mx ex,.slice bY mY eY] 60:=(Bi rfl _ _).alloc _;have kw7:Below wr.heap.size wr ((w5.alloc (.cells #[.bool false,.slice aX nX cX,.slice none 0 0,.bool gx,.slice bx mx ex,.slice bY mY eY] 60)).alloc (.cells #[.bool true,.slice none 0 0,.slice (some ⟨w5.heap.size,0,none⟩) 2 2] 60)):=(k4.trans (hb5.mono hs4)).trans (k57.mono qA);have hown':World.ownsRow ((w5.alloc (.cells #[.bool false,.slice aX nX cX,.slice none 0 0,.bool gx,.slice bx mx ex,.slice bY mY eY] 60)).alloc (.cells #[.bool true,.slice none 0 0,.slice (some ⟨w5.heap.size,0,none⟩) 2 2] 60)) w2.heap.size 60 3 u8 (i+1) ys:=by
    have h:=HY.out.1;rw [hil] at h;exact Bo h kw7
   have hge:=Hd hown';have hltv:∀k,u8.ownBlock=some k→k<wr.heap.size:=fun k e=>by obtain ⟨cur,h⟩:=Pg HY.out.1 e;exact (Ar.1 h).1
   have KEY:∀g,(g=w5.heap.size+1+1∨g<wr.heap.size)→Bw ((w5.alloc (.cells #[.bool false,.slice aX nX cX,.slice none 0 0,.bool gx,.slice bx mx ex,.slice bY mY eY] 60)).alloc (.cells #[.bool true,.slice none 0 0,.slice (some ⟨w5.heap.size,0,none⟩) 2 2] 60)) w2.heap.size (some g) (.bool true) (.slice none 0 0) (.slice (some ⟨w5.heap.size,0,none⟩) 2 2) (Ip lX):=fun g hg=>by
    rw [Ip,Bw];refine ⟨rfl,⟨none,0,0,rfl,Bd.nil _ _,fun _ _=>Bm.nil _ _⟩,some ⟨w5.heap.size,0,none⟩,2,rfl,Ad _,by omega,fun h=>(by cases h),.inr ⟨_,_,rfl,fun g' e=>⟨by omega,by cases e;omega⟩,Di.of fun j x hx=>?_⟩⟩;rcases j with _|_|j
    ·simp only [List.getElem?_cons_zero,Option.some.injEq] at hx;subst hx;exact ⟨_,_,_,B5.cell 0 _ rfl,B5.cell 1 _ rfl,B5.cell 2 _ rfl,Py (HXX.out.1.keep kw7) (HXX.out.2.1.keep kw7)⟩
    ·simp only [List.getElem?_cons_succ,List.getElem?_cons_zero,Option.some.injEq] at hx;subst hx;exact ⟨_,_,_,B5.cell 3 _ rfl,B5.cell 4 _ rfl,B5.cell 5 _ rfl,((HQ.out.keep k57).other (by rw [Ak,hz7];omega)).down (by rw [Ak];omega)⟩
    ·simp at hx
   (refine Bk.one (i:=10) rfl qC (fun K hK=>?_);refine step_append_lies _ qQ _ _ _ qQ w2.heap.size 60 i0 _ 3 56 Tryz.underlying58 hi hy0 hy1 hy2 rfl qI u8 (i+1) ys qQ hown' ⟨w5.heap.size+1,0,none⟩ 1 1 [.bool true,.slice none 0 0,.slice (some ⟨w5.heap.size,0,none⟩) 2 2] qL qQ (fun j u h=>by have:=Lt (w5.alloc (.cells #[.bool false,.slice aX nX cX,.slice none 0 0,.bool gx,.slice bx mx ex,.slice bY mY eY] 60)) _ 60 j u h;simpa using this) (by simp [Value.oneCell']) qI qO qA qJ _ rfl ?_;intro g cap w8 hown8 hgrow8 hat8 hlt8;have hne:some wr.heap.size≠u8.ownBlock:=(fun e=>by have:=hltv _ e.symm;omega);have X8:=((X4.keep hb5).keep k57).row hgrow8 hne;have t08:=X8.cell 0 _ rfl;have t18:=X8.cell 1 _ rfl;refine hK.out _ _ (fun _=>qK) ?_;clear hK K;(try simp only [Act.put,Au,Av,Aw]));(refine Bk.one (i:=11) rfl qC (fun K hK=>?_);go_simp;refine hK.out _ _ (fun h=>absurd h qI) ?_;clear hK K;(try simp only [Act.put,Au,Av,Aw]));refine Bk.done qC ?_ _;have htk:[VT.node false (Im (1,1)) [],Ip pM,Ip pP].take (i+1+1)=[VT.node false (Im (1,1)) [],Ip pM,Ip pP].take (i+1)++[Ip lX]:=by rw [List.take_add_one,HXX.out.2.2];rfl
   have HRV:=Ae (show Wl w8 w2.heap.size w2.heap.size (.slice (some ⟨g,0,none⟩) (i+1+1) cap) ([VT.node false (Im (1,1)) [],Ip pM,Ip pP].take (i+1+1)) from by
    rw [htk];refine Wl.next (cap:=cap) (by rw [hil];exact hown') (fun j t hj=>?_) (KEY _ (.inl hz7)) (fun g' e=>KEY g' (.inr (hltv g' e))) (by rw [hil]) (by rw [hil];exact hown8) hgrow8 (hat8.imp id fun e=>by rw [e]);obtain ⟨a0,a1,a2,g',e0,e1,e2,e3,e4⟩:=HY.out.2 j t hj;exact ⟨a0,a1,a2,g',e0,e1,e2,e3,e4.keep kw7⟩)
   have hz8:=hgrow8.size;rw [hz7] at hz8;have kB:Below w.heap.size w w8:=(HBr.trans (kw7.mono HBr.size)).grown hgrow8 (by have:=HBr.size;rw [hz7];omega) (fun k hk=>by have:=hge k hk;omega);have R8:=(Rr.keep kw7).row hgrow8 (fun e=>by have:=hge _ e.symm;omega);clear hown8 hgrow8 hat8 hown';go_wp2_with fail;go_roundw
   case rel=>exact ⟨i+1,by omega,by go_num,HRV.out,R8,kB,by omega⟩
   case measure=>(first|(simp [intOf];omega)|(simp [intOf];done))
  ·obtain rfl:i=2:=by omega
   obtain ⟨ys,hown,hys⟩:=hrow;obtain ⟨g,cap,hcap,hcap2,rfl⟩:∃g cap,3≤cap∧cap≤maxLen∧u8=.slice (some ⟨g,0,none⟩) 3 cap:=by
    rcases hown.2 with ⟨_,e⟩|⟨g,cap,cur,e,_,_,h,h',_⟩
    ·cases e
    ·exact ⟨g,cap,h,h',e⟩
   have hvr:=Wl.vrow (n:=3) (cap:=cap) ⟨ys,hown,hys⟩;have HE:∀i x,[VT.node false (Im (1,1)) [],Ip pM,Ip pP][i]? = some x→∃z0 z1 z2,wr.cell? ⟨g,i*3,none⟩=some z0∧wr.cell? ⟨g,i*3+1,none⟩=some z1∧wr.cell? ⟨g,i*3+2,none⟩=some z2∧Bw wr w2.heap.size (some g) z0 z1 z2 x:=fun i x hx=>by
    obtain ⟨z0,z1,z2,d0,d1,d2,hv⟩:=hvr.at hx;rw [Nat.zero_add] at d0 d1 d2;exact ⟨z0,z1,z2,d0,d1,d2,hv⟩
   have HEE:=Ae HE;have hgg:=Hd hown g rfl;clear HE;have HV:Bw wr 0 none (.bool true) (.slice none 0 0) (.slice (some ⟨g,0,none⟩) 3 cap) O6:=by
    rw [O6,Bw];refine ⟨rfl,⟨none,0,0,rfl,Bd.nil _ _,fun _ _=>Bm.nil _ _⟩,some ⟨g,0,none⟩,cap,rfl,hcap,by unfold maxLen at hcap2;omega,fun h=>(by cases h),.inr ⟨_,_,rfl,fun g' e=>(by cases e),Di.of fun j x hx=>?_⟩⟩;obtain ⟨z0,z1,z2,d0,d1,d2,hv⟩:=hvr.at hx;exact ⟨z0,z1,z2,d0,d1,d2,hv.read⟩
   have HVV:=Ae HV;clear HV hvr hown hys;go_wp2_with fail;refine (zZ HVV.out fM).mono ?_;rintro e w5 ⟨rfl,hb5⟩;have b5:=HBr.trans (hb5.mono HBr.size);have R5:=Rr.keep hb5;have r0:=R5.cell 0 _ rfl;have r1:=R5.cell 1 _ rfl;have r2:=R5.cell 2 _ rfl;have f0:=R5.frozen 0;have f1:=R5.frozen 1;have f2:=R5.frozen 2;have rl:=R5.lt;go_wp2_with fail;refine bodyPost_ret (v:=.tuple #[.agg #[.bool true,.slice none 0 0,.slice (some ⟨g,0,none⟩) 3 cap],.int .i64 0]) (by simp [results,Tryz.results147,go_sem,rl,r0,r1,r2]) rfl ?_;refine ⟨_,_,_,rfl,?_,Cd b5 qA _ _ _⟩;have hgl:g<wr.heap.size:=by obtain ⟨z0,z1,z2,d0,_⟩:=HEE.out 0 _ rfl;exact Aa _ _ d0
   have hz5:=hb5.size;rw [O6,Bw];refine ⟨rfl,⟨none,0,0,rfl,Bd.nil _ _,fun _ _=>Bm.nil _ _⟩,some ⟨g,0,none⟩,cap,rfl,hcap,by unfold maxLen at hcap2;omega,fun h=>(by cases h),.inr ⟨_,_,rfl,fun g' e=>⟨by omega,by cases e;rw [Am,Am,Am];omega⟩,Di.of fun j x hx=>?_⟩⟩;obtain ⟨z0,z1,z2,d0,d1,d2,hv⟩:=HEE.out j x hx;have g6:=Nl w5 (w.heap.size+1) (.bool true) (.slice none 0 0) (.slice (some ⟨g,0,none⟩) 3 cap);have hgl5:=Aa _ _ (Bc hb5 d0);have hgn:some g≠some (w.heap.size+1):=by simp;omega
   rw [Nat.zero_add];exact ⟨z0,z1,z2,g6.cell (Bc hb5 d0) hgn,g6.cell (Bc hb5 d1) hgn,g6.cell (Bc hb5 d2) hgn,((Kc (hv.keep hb5) qA R5 _ _ _).other (.inl (Ad _))).down qA⟩
def Mj:Δ→Option PC
 | []=>some (0,1)
 | [t]=>if t.1=0 then some t.2 else none
 | _=>none
def oW (w:World) (x:Option PC) (e:Ending) (w':World):Prop:=∃g1 a1 n1 c1 g2 a2 n2 c2,e=.returned (.tuple #[.agg #[.bool g1,.slice a1 n1 c1,.bool g2,.slice a2 n2 c2],.bool x.isSome])∧(∀y,x=some y→Bj w' g1 a1 n1 c1 y.1 g2 a2 n2 c2 y.2)∧Below w.heap.size w w'
theorem vN {w:World} {R:Nat} {g1:Bool} {a1:Γ} {n1 c1:Nat} {g2:Bool} {a2:Γ} {n2 c2:Nat} {t:TypeId} (h:Blk w R #[.bool g1,.slice a1 n1 c1,.bool g2,.slice a2 n2 c2] t):∀i z,w.cell? ⟨R,i,none⟩≠some (.int .u32 z):=fun i z e=>by
 have hC:w.heap[R]? = _:=h;exact qDc
theorem Wc (w:World) (B n c:Nat) (a:Γ) (l:Δ) (h:Bd w B a n c l) (hcw:∀t∈l,CW t.2) (a':Γ) (n' c':Nat) :
    Θ 79 #[.agg #[.bool false,.slice a n c,.slice a' n' c']] w (oW w (Mj l)):=by
  have hl:=h.len;obtain ⟨p,hp,hpx⟩:=h.ts;have hnf:=hp.few;have HB:=Ac w.heap.size w
  match l,hl,hpx,hcw with
  | [],hl,_,_ =>
    obtain rfl:n=0:=by simpa using hl.symm
    clear hpx h hp hcw;go_enter Tryz.func79,Tryz.ntmps79;go_wp2_with fail;refine Be ?_;intro w0 hw0;have b0:Below w.heap.size w w0:=by rw [hw0];go_grown
    have R0:Blk w0 (w.heap.size+1) #[.bool false,.slice none 0 0,.bool false,.slice none 0 0] 34:=by rw [hw0];exact Bi qG _ _
    clear hw0;refine (Fh w0 0 qA qA).mono ?_;rintro e w1 ⟨g1,a1,n1,c1,g2,a2,n2,c2,rfl,hF,hf1,hf2,hap,hb1⟩;have b1:=b0.trans (hb1.mono b0.size);have R1:=R0.keep hb1;have r0:=R1.cell 0 _ rfl;have r1:=R1.cell 1 _ rfl;have r2:=R1.cell 2 _ rfl;have r3:=R1.cell 3 _ rfl;have f0:=R1.frozen 0;have f1:=R1.frozen 1;have f2:=R1.frozen 2;have f3:=R1.frozen 3;have rl:=R1.lt;go_wp2_with fail;have g4:w1.grownBy ((((w1.setCell ⟨w.heap.size+1,0,none⟩ (.bool g1)).setCell ⟨w.heap.size+1,1,none⟩ (.slice a1 n1 c1)).setCell ⟨w.heap.size+1,2,none⟩ (.bool g2)).setCell ⟨w.heap.size+1,3,none⟩ (.slice a2 n2 c2)) (some (w.heap.size+1)):=Bf _ (Bf _ (Bf _ (Bf _ (A7 _ _))));refine bodyPost_ret (v:=.tuple #[.agg #[.bool g1,.slice a1 n1 c1,.bool g2,.slice a2 n2 c2],.bool true]) (by simp [results,Tryz.results79,go_sem,rl,r0,r1,r2,r3]) rfl ?_;exact ⟨g1,a1,n1,c1,g2,a2,n2,c2,rfl,fun y hy=>by cases hy;exact Sr hF (vN R1) g4,Gu b1 qA _ _ _ _⟩
  | [t],hl,hpx,hcw =>
    obtain rfl:n=1:=by simpa using hl.symm
    obtain ⟨gb,go,rfl,hgc⟩:=hp.cell.resolve_left qA;have hat:=hgc 0 qA;rw [Nat.zero_mul,Nat.add_zero] at hat;have ht:=(hpx 0 t rfl).1;have hr:=hp.tm 0 qA;have hF:=ht.frac hr (hcw t (Ao.2 rfl));clear hgc h hp hpx;generalize p 0=s at *;have hat':=hat;obtain ⟨e0,e1,e2,e3,e4,e5,e6,e7⟩:=hat;have HK:=Ae ht.key;have hgl:gb<w.heap.size:=Aa _ _ e0;go_enter Tryz.func79,Tryz.ntmps79;go_wp2_with fail;refine Cc ?_;intro w0 hw0;have b0:Below w.heap.size w w0:=by rw [hw0];go_grown
    have V0:w0.cell? ⟨w.heap.size,1,none⟩=some (.slice (some ⟨gb,go,none⟩) 1 c):=by rw [hw0];simp [go_sem]
    have R0:Blk w0 (w.heap.size+1) #[.bool false,.slice none 0 0,.bool false,.slice none 0 0] 34:=by rw [hw0];exact Bi qG _ _
    clear hw0
    (replace e0:=Bc b0 e0;replace e1:=Bc b0 e1;replace e2:=Bc b0 e2;replace e3:=Bc b0 e3;replace e4:=Bc b0 e4;replace e5:=Bc b0 e5;replace e6:=Bc b0 e6;replace e7:=Bc b0 e7)
    have r0:=R0.cell 0 _ rfl;have r1:=R0.cell 1 _ rfl;have r2:=R0.cell 2 _ rfl;have r3:=R0.cell 3 _ rfl;have f0:=R0.frozen 0;have f1:=R0.frozen 1;have f2:=R0.frozen 2;have f3:=R0.frozen 3;have rl:=R0.lt;have hne:¬gb=w.heap.size+1:=by omega
    have hne':¬w.heap.size+1=gb:=by omega
    go_region_held3 (fun W=>W.cell? ⟨w.heap.size,1,none⟩=some (.slice (some ⟨gb,go,none⟩) 1 c)∧W.cell? ⟨gb,go,none⟩=some (.bool s.g1)∧W.cell? ⟨gb,go+1,none⟩=some (.slice s.a1 s.n1 s.c1)∧W.cell? ⟨gb,go+2,none⟩=some (.bool s.g2)∧W.cell? ⟨gb,go+3,none⟩=some (.slice s.a2 s.n2 s.c2)∧W.cell? ⟨gb,go+4,none⟩=some (.int .u16 s.m0)∧W.cell? ⟨gb,go+5,none⟩=some (.int .u16 s.m1)∧W.cell? ⟨gb,go+6,none⟩=some (.int .u16 s.m2)∧W.cell? ⟨gb,go+7,none⟩=some (.int .u16 s.m3)) (first|((try dsimp only);(repeat' apply Ay);all_goals (first|(with_reducible assumption)|(go_keep;done)|(simp [*,go_sem];done)))) (first|fail);go_wp2_with fail;refine bodyPost_ret (v:=.tuple #[.agg #[.bool s.g1,.slice s.a1 s.n1 s.c1,.bool s.g2,.slice s.a2 s.n2 s.c2],.bool ((s.m0:Int)==0&&((s.m1:Int)==0&&((s.m2:Int)==0&&(s.m3:Int)==0)))]) (by simp [results,Tryz.results79,go_sem,rl,r0,r1,r2,r3]) rfl ?_;have hb4:Below w.heap.size w (((((w0.setCell ⟨w.heap.size+1,0,none⟩ (.bool s.g1)).setCell ⟨w.heap.size+1,1,none⟩ (.slice s.a1 s.n1 s.c1)).setCell ⟨w.heap.size+1,2,none⟩ (.bool s.g2)).setCell ⟨w.heap.size+1,3,none⟩ (.slice s.a2 s.n2 s.c2)).drew):=(Gu b0 qA _ _ _ _).drew;have e:((s.m0:Int)==0&&((s.m1:Int)==0&&((s.m2:Int)==0&&(s.m3:Int)==0)))=(Mj [t]).isSome:=by
      show _=(if t.1=0 then some t.2 else none).isSome;rw [Bool.eq_iff_iff];simp only [Bool.and_eq_true,beq_iff_eq];have hk:=HK.out;unfold Cg at hk;by_cases h0:t.1=0
      · rw [if_pos h0];simp;omega
      · rw [if_neg h0];simp;omega
    refine ⟨_,_,_,_,_,_,_,_,by rw [e],fun y hy=>?_,hb4⟩;have hy':(if t.1=0 then some t.2 else none)=some y:=hy
    split at hy'
    · cases hy';exact hF.keep hb4
    · cases hy'
  | t::u::l,hl,hpx,hcw =>
    have hn2 : 2 ≤ n := by have:l.length+1+1=n:=by simpa using hl
                           omega
    have hn1:(1:Int)<(n:Int):=by omega
    clear h hp hpx hl hcw;go_enter Tryz.func79,Tryz.ntmps79;go_wp2_with fail;refine bodyPost_ret (v:=.tuple #[.agg #[.bool false,.slice none 0 0,.bool false,.slice none 0 0],.bool false]) (by simp [results,Tryz.results79,go_sem]) rfl ?_;exact ⟨_,_,_,_,_,_,_,_,rfl,fun y hy=>(by cases hy),by go_grown⟩
theorem pG (w:World) (g1:Bool) (a1:Γ) (n1 c1:Nat) (p:Int) (g2:Bool) (a2:Γ) (n2 c2:Nat) (q:Int) (h:Bj w g1 a1 n1 c1 p g2 a2 n2 c2 q) (hs:n2<35184372088829) (hb1:n1<35184372088829) :
  Θ 139 #[.agg #[.bool g1,.slice a1 n1 c1,.bool g2,.slice a2 n2 c2]] w (fun e w'=>e=.returned (.bool (decide (q=1)))∧Below w.heap.size w w'):=by
 have HB:=Ac w.heap.size w;go_enter Tryz.func139,Tryz.ntmps139;go_wp2_with fail;refine Be ?_;intro w0 hw0;have b0:Below w.heap.size w w0:=by rw [hw0];go_grown
 clear hw0;refine (Tk w0 g1 a1 n1 c1 p g2 a2 n2 c2 q (h.keep b0) hs hb1).mono ?_;rintro e w1 ⟨rfl,hb1'⟩;have b1:=b0.trans (hb1'.mono b0.size);go_wp2_with fail;refine Be ?_;intro w2 hw2;have b2:Below w1.heap.size w1 w2:=by rw [hw2];go_grown
 clear hw2;have b3:=b1.trans (b2.mono b1.size);refine (bN w2 g2 a2 n2 c2 q (h.keep b3).low).mono ?_;rintro e w4 ⟨rfl,hb4⟩;go_wp2_with fail;go_ret;exact ⟨rfl,b3.trans (hb4.mono b3.size)⟩
theorem eH (w:World) (B n c:Nat) (a:Γ) (l:Δ) (h:Bd w B a n c l) (hcw:∀t∈l,CW t.2) (a':Γ) (n' c':Nat) (z:Int) (hz:Mj l=some (z,1)) (h0:0≤z) (h9:z<1000000000) (bd:Nat) (hbd:bd≤1000000) :
  Θ 80 #[.agg #[.bool false,.slice a n c,.slice a' n' c'],.int .i64 bd] w (fun e w'=>e=.returned (.tuple #[.int .i64 (if z≤bd then z else bd+1),.bool true])∧Below w.heap.size w w'):=by
 have HB:=Ac w.heap.size w;go_enter Tryz.func80,Tryz.ntmps80;go_wp2_with fail;refine Be ?_;intro w0 hw0;have b0:Below w.heap.size w w0:=by rw [hw0];go_grown
 clear hw0;refine (Wc w0 B n c a l (h.keep b0) hcw a' n' c').mono ?_;rintro e w1 ⟨g1,a1,n1,c1,g2,a2,n2,c2,rfl,hf,hb1⟩;have b1:=b0.trans (hb1.mono b0.size);rw [hz];have hF:=hf (z,1) hz;have q1:=Co hF.top (by show z.natAbs<_;omega);have q2:=Co hF.low (by show (1:Int).natAbs<_;decide);replace hF:Bj w1 g1 a1 n1 c1 z g2 a2 n2 c2 1:=hF;clear hf;go_wp2_with fail;refine Be ?_;intro w2 hw2;have k2:Below w1.heap.size w1 w2:=by rw [hw2];go_grown
 have C2:Blk w2 w1.heap.size #[.bool g1,.slice a1 n1 c1,.bool g2,.slice a2 n2 c2] 34:=by rw [hw2];exact Bi rfl _ _
 clear hw2;have b2:=b1.trans (k2.mono b1.size);refine (pG w2 g1 a1 n1 c1 z g2 a2 n2 c2 1 (hF.keep k2) qA qA).mono ?_;rintro e w3 ⟨rfl,hb3⟩;have C3:=C2.keep hb3;have x0:=C3.cell 0 _ rfl;have x1:=C3.cell 1 _ rfl;have x2:=C3.cell 2 _ rfl;have x3:=C3.cell 3 _ rfl;have b3:=b2.trans (hb3.mono b2.size);have hF3:=(hF.keep k2).keep hb3;have hneg:¬Bz z 0<0:=by
  rcases Int.lt_or_eq_of_le h0 with h|h
  ·rw [Ee h];decide
  ·rw [←h,Ev];decide
 go_wp2_with fail;refine (Gd w3 g1 a1 n1 c1 z g2 a2 n2 c2 1 hF3 qA qA).mono ?_;rintro e w4 ⟨rfl,hb4⟩;replace x0:=Bc hb4 x0;replace x1:=Bc hb4 x1;have b4:=b3.trans (hb4.mono b3.size);have hF4:=hF3.keep hb4;go_wp2_with fail;refine (Wa w4 g1 a1 n1 c1 z hF4.top h0 qA).mono ?_;rintro e w5 ⟨rfl,hb5⟩;have b5:=b4.trans (hb5.mono b4.size);by_cases hle:z≤bd
 ·go_wp2_with fail;exact bodyPost_ret (v:=.tuple #[.int .i64 z,.bool true]) (by simp [results,Tryz.results80,go_sem]) rfl ⟨rfl,b5⟩
 ·go_wp2_with fail;exact bodyPost_ret (v:=.tuple #[.int .i64 (bd+1),.bool true]) (by simp [results,Tryz.results80,go_sem]) rfl ⟨by first|rfl|(rw [if_neg qA]),b5⟩
theorem Zh (w:World) (a:Γ) (n c:Nat) (d:Ξ) (hd:RdL w a n c d) (a':Γ) (c':Nat) (hd':RdL w a' n c' d) :
  Θ 307 #[.slice a n c,.slice a' n c'] w fun e w'=>e=.returned (.bool true)∧Below w.heap.size w w':=by
 have HB:=Ac w.heap.size w;have hfew:=hd.few;go_enter Tryz.func307,Tryz.ntmps307;go_wp2_with fail;go_loopw [5] (fun v wr=>∃k:Nat,k≤n∧v=.int .i64 k∧Below w.heap.size w wr) (fun v _=>n-(intOf v).toNat)
 case atStart=>exact ⟨0,by omega,rfl,HB⟩
 case round =>
  obtain ⟨k,hk,rfl,HB⟩:=hrel;by_cases hlt:k<n
  ·obtain ⟨b,o,rfl,hc⟩:=(hd.keep HB).at' hlt;obtain ⟨b',o',rfl,hc'⟩:=(hd'.keep HB).at' hlt;generalize lim d k=x at *;go_wp2_with fail;go_quiet (fail);go_wp2_with fail;go_roundw
   case rel=>exact ⟨k+1,by omega,by go_num,Bu _ HB⟩
   case measure=>(first|(simp [intOf];omega)|(simp [intOf];done))
  ·exact qDo
theorem Uv (w:World) (g:Bool) (a:Γ) (n c:Nat) (d:Ξ) (hd:RdL w a n c d) (a':Γ) (c':Nat) (hd':RdL w a' n c' d) :
  Θ 265 #[.agg #[.bool g,.slice a n c],.agg #[.bool g,.slice a' n c']] w fun e w'=>e=.returned (.bool true)∧Below w.heap.size w w':=by
 have HB:=Ac w.heap.size w;go_enter Tryz.func265,Tryz.ntmps265;go_wp2_with (first|(go_at_call 307;refine (Zh _ a n c d (hd.keep qF) a' c' (hd'.keep qF)).mono ?_;rintro e w1 ⟨rfl,hb⟩;have HB1:=zI w hb));go_ret;exact ⟨rfl,by first|assumption|go_grown⟩
theorem cJ (w:World) (g1:Bool) (a1:Γ) (n1 c1:Nat) (d1:Ξ) (h1:RdL w a1 n1 c1 d1) (g2:Bool) (a2:Γ) (n2 c2:Nat) (d2:Ξ) (h2:RdL w a2 n2 c2 d2) (a3:Γ) (c3:Nat) (h3:RdL w a3 n1 c3 d1) (a4:Γ) (c4:Nat) (h4:RdL w a4 n2 c4 d2) :
  Θ 212 #[.agg #[.bool g1,.slice a1 n1 c1,.bool g2,.slice a2 n2 c2],.agg #[.bool g1,.slice a3 n1 c3,.bool g2,.slice a4 n2 c4]] w fun e w'=>e=.returned (.bool true)∧Below w.heap.size w w':=by
 go_enter Tryz.func212,Tryz.ntmps212;go_wp2_with fail;refine Be ?_;intro W0 hW0;have hb0:Below w.heap.size w W0:=by rw [hW0];go_grown
 have s2:W0.cell? ⟨w.heap.size,2,none⟩=some (.bool g2):=by rw [hW0];simp [go_sem]
 have s3:W0.cell? ⟨w.heap.size,3,none⟩=some (.slice a2 n2 c2):=by rw [hW0];simp [go_sem]
 have s6:W0.cell? ⟨w.heap.size+1,2,none⟩=some (.bool g2):=by rw [hW0];simp [go_sem]
 have s7:W0.cell? ⟨w.heap.size+1,3,none⟩=some (.slice a4 n2 c4):=by rw [hW0];simp [go_sem]
 clear hW0;refine (Uv W0 g1 a1 n1 c1 d1 (h1.keep hb0) a3 c3 (h3.keep hb0)).mono ?_;rintro e w1 ⟨rfl,hb1⟩;replace s2:=Bc hb1 s2;replace s3:=Bc hb1 s3;replace s6:=Bc hb1 s6;replace s7:=Bc hb1 s7;have hb01:=hb0.trans (hb1.mono hb0.size);go_wp2_with fail;refine (Uv w1 g2 a2 n2 c2 d2 (h2.keep hb01) a4 c4 (h4.keep hb01)).mono ?_;rintro e w2 ⟨rfl,hb2⟩;go_wp2_with fail;go_ret;exact ⟨rfl,hb01.trans (hb2.mono hb01.size)⟩
theorem aF (w:World) (s t:Tm) (hs:Ei w s) (ht:Ei w t) (e1:s.g1=t.g1) (e2:s.d1=t.d1) (e3:s.g2=t.g2) (e4:s.d2=t.d2) (q0:s.m0=t.m0) (q1:s.m1=t.m1) (q2:s.m2=t.m2) (q3:s.m3=t.m3) :
  Θ 141 #[s.val,t.val] w fun e w'=>e=.returned (.bool true)∧Below w.heap.size w w':=by
 obtain ⟨g1,a1,n1,c1,d1,g2,a2,n2,c2,d2,m0,m1,m2,m3⟩:=s;obtain ⟨g1',a1',n1',c1',d1',g2',a2',n2',c2',d2',m0',m1',m2',m3'⟩:=t;simp only at e1 e2 e3 e4 q0 q1 q2 q3;subst e1 e2 e3 e4 q0 q1 q2 q3;have h1:=hs.top;have h2:=hs.low;have h3:=ht.top;have h4:=ht.low;simp only at h1 h2 h3 h4;obtain rfl:n1=n1':=h1.len.symm.trans h3.len;obtain rfl:n2=n2':=h2.len.symm.trans h4.len;show Θ 141 #[.agg #[.bool g1,.slice a1 n1 c1,.bool g2,.slice a2 n2 c2,.int .u16 m0,.int .u16 m1,.int .u16 m2,.int .u16 m3],.agg #[.bool g1,.slice a1' n1 c1',.bool g2,.slice a2' n2 c2',.int .u16 m0,.int .u16 m1,.int .u16 m2,.int .u16 m3]] w _;clear hs ht;go_enter Tryz.func141,Tryz.ntmps141;go_wp2_with fail;refine Be ?_;intro W0 hW0;have hb0:Below w.heap.size w W0:=by rw [hW0];go_grown
 have s0:W0.cell? ⟨w.heap.size,4,none⟩=some (.int .u16 m0):=by rw [hW0];simp [go_sem]
 have t0:W0.cell? ⟨w.heap.size+1,4,none⟩=some (.int .u16 m0):=by rw [hW0];simp [go_sem]
 have s1:W0.cell? ⟨w.heap.size,5,none⟩=some (.int .u16 m1):=by rw [hW0];simp [go_sem]
 have t1:W0.cell? ⟨w.heap.size+1,5,none⟩=some (.int .u16 m1):=by rw [hW0];simp [go_sem]
 have s2:W0.cell? ⟨w.heap.size,6,none⟩=some (.int .u16 m2):=by rw [hW0];simp [go_sem]
 have t2:W0.cell? ⟨w.heap.size+1,6,none⟩=some (.int .u16 m2):=by rw [hW0];simp [go_sem]
 have s3:W0.cell? ⟨w.heap.size,7,none⟩=some (.int .u16 m3):=by rw [hW0];simp [go_sem]
 have t3:W0.cell? ⟨w.heap.size+1,7,none⟩=some (.int .u16 m3):=by rw [hW0];simp [go_sem]
 clear hW0;refine (cJ W0 g1 a1 n1 c1 d1 (h1.keep hb0) g2 a2 n2 c2 d2 (h2.keep hb0) a1' c1' (h3.keep hb0) a2' c2' (h4.keep hb0)).mono ?_;rintro e w1 ⟨rfl,hb1⟩;replace s0:=Bc hb1 s0;replace t0:=Bc hb1 t0;replace s1:=Bc hb1 s1;replace t1:=Bc hb1 t1;replace s2:=Bc hb1 s2;replace t2:=Bc hb1 t2;replace s3:=Bc hb1 s3;replace t3:=Bc hb1 t3;have hb01:=hb0.trans (hb1.mono hb0.size);go_wp2_with fail;go_ret;exact ⟨by simp,hb01⟩
theorem U9 {s t:Tm} {x:PT} {w:World} (hs:Ey s x) (ht:Ey t x) (rs:Ei w s) (rt:Ei w t):s.g1=t.g1∧s.d1=t.d1∧s.g2=t.g2∧s.d2=t.d2∧s.m0=t.m0∧s.m1=t.m1∧s.m2=t.m2∧s.m3=t.m3 :=
 ⟨hs.g1.trans ht.g1.symm,hs.d1.trans ht.d1.symm,hs.g2.trans ht.g2.symm,hs.d2.trans ht.d2.symm,Yp rs.s0 rs.s1 rs.s2 rs.s3 rt.s0 rt.s1 rt.s2 rt.s3 (hs.key.trans ht.key.symm)⟩
theorem bT (w:World) (B:Nat) (a:Γ) (n c:Nat) (l:Δ) (h:Bd w B a n c l) (B':Nat) (a':Γ) (n' c':Nat) (h':Bd w B' a' n' c' l) :
  Θ 83 #[.slice a n c,.slice a' n' c'] w fun e w'=>e=.returned (.bool true)∧Below w.heap.size w w':=by
 have HB:=Ac w.heap.size w;obtain rfl:n=n':=h.len.symm.trans h'.len;obtain ⟨p,hp,hpx⟩:=h.ts;obtain ⟨q,hq,hqx⟩:=h'.ts;have hl:=h.len;have hfew:=hp.few;have HS:Hid (∀k,k<n→(p k).g1=(q k).g1∧(p k).d1=(q k).d1∧(p k).g2=(q k).g2∧(p k).d2=(q k).d2∧(p k).m0=(q k).m0∧(p k).m1=(q k).m1∧(p k).m2=(q k).m2∧(p k).m3=(q k).m3):=Ae fun k hk=>by
  obtain ⟨x,hx⟩:∃x,l[k]? = some x:=⟨_,Ai qA⟩;exact U9 (hpx k x hx).1 (hqx k x hx).1 (hp.tm k hk) (hq.tm k hk)
 clear hpx hqx h h' hl;go_enter Tryz.func83,Tryz.ntmps83;go_wp2_with fail;go_loopw [5] (fun v wr=>∃k:Nat,k≤n∧v=.int .i64 k∧Below w.heap.size w wr) (fun v _=>n-(intOf v).toNat)
 case atStart=>exact ⟨0,by omega,rfl,HB⟩
 case round =>
  obtain ⟨k,hk,rfl,HB⟩:=hrel;by_cases hlt:k<n
  ·obtain ⟨b,o,rfl,_⟩:=hp.cell.resolve_left qA;obtain ⟨b',o',rfl,_⟩:=hq.cell.resolve_left qA;obtain ⟨e0,e1,e2,e3,e4,e5,e6,e7⟩:=(hp.keep HB).at hlt;obtain ⟨i0,i1,i2,i3,i4,i5,i6,i7⟩:=(hq.keep HB).at hlt;have hC:=fun W (hW:Below w.heap.size w W)=>aF W (p k) (q k) ((hp.tm k hlt).keep hW) ((hq.tm k hlt).keep hW) (HS.out k hlt).1 (HS.out k hlt).2.1 (HS.out k hlt).2.2.1 (HS.out k hlt).2.2.2.1 (HS.out k hlt).2.2.2.2.1 (HS.out k hlt).2.2.2.2.2.1 (HS.out k hlt).2.2.2.2.2.2.1 (HS.out k hlt).2.2.2.2.2.2.2
   have HC:=Ae hC;clear hC;go_wp2_with fail;replace e0:=Cn e0;replace i0:=Cn i0;replace e1:=Cn e1;replace i1:=Cn i1;replace e2:=Cn e2;replace i2:=Cn i2;replace e3:=Cn e3;replace i3:=Cn i3;replace e4:=Cn e4;replace i4:=Cn i4;replace e5:=Cn e5;replace i5:=Cn i5;replace e6:=Cn e6;replace i6:=Cn i6;replace e7:=Cn e7;replace i7:=Cn i7;(refine Ci qC qC ?_;(repeat (go_big_quiet_step (first|(go_at_call 141;exact G7 (HC.out _ (HB.trans (Below.mono (Subtype.property _) HB.size)))))));refine wpQuiet_nil ?_;intro _ hw0;obtain ⟨nq,hw0⟩:=hw0;subst hw0);obtain ⟨w3,hb3⟩:=nq;try dsimp only
   go_wp2_with fail;go_roundw
   case rel=>exact ⟨k+1,by omega,by go_num,HB.trans (hb3.mono HB.size)⟩
   case measure=>(first|(simp [intOf];omega)|(simp [intOf];done))
  ·exact qDo
end Go.Proofs.YtnnhcbeiogaknaaGreatDoor
end
