/- Package polys: Same, of two that are one list. -/
import Derived.Test.YtnnhcbeiogaknaaGreatDoorQV40
set_option linter.unusedSimpArgs false
set_option linter.unusedVariables false
set_option maxRecDepth 100000
set_option maxHeartbeats 4000000
section
namespace Go.Proofs.YtnnhcbeiogaknaaGreatDoor
open Go.RowKit
theorem xJ (w:World) (s t:Tm) (hs:Ei w s) (ht:Ei w t) (x:PT) (is:Ey s x) (it:Ey t x) (hcx:CW x.2) (q1:s.n1≤1000000) (q2:s.n2≤1000000) (q3:t.n1≤1000000) (q4:t.n2≤1000000) :
  Θ 66 #[s.val,t.val] w (fun e w'=>e=.returned (.bool true)∧Below w.heap.size w w'):=by
 obtain ⟨k1,_,k2,_,e0,e1,e2,e3⟩:=U9 is it hs ht;have hF:=is.frac hs hcx;rw [k1,k2] at hF;have hG:=it.frac ht hcx;have HB:=Ac w.heap.size w;clear is it hs ht;go_enter Tryz.func66,Tryz.ntmps66;go_wp2_with fail;refine Be ?_;intro w0 hw0;have b0:Below w.heap.size w w0:=by rw [hw0];go_grown
 clear hw0;refine (mX w0 _ _ _ _ _ _ _ _ _ _ (hF.keep b0) _ _ _ _ _ _ _ _ _ _ (hG.keep b0) qA qA qA qA).mono ?_;rintro e w1 ⟨rfl,hb1⟩;have hz:Bz (x.2.1*x.2.2) (x.2.1*x.2.2)=0:=Ev _;rw [hz];go_wp2_with fail;go_ret;exact ⟨rfl,b0.trans (hb1.mono b0.size)⟩
theorem oT (w:World) (a:Γ) (n c:Nat) (p:Nat→Tm) (hp:RdP w a n c p) (a':Γ) (c':Nat) (q:Nat→Tm) (hq:RdP w a' n c' q)
  (hh:∀i,i<n→∃x:PT,Ey (p i) x∧Ey (q i) x∧CW x.2) (h1:∀k,k<n→(p k).n1≤1000000∧(p k).n2≤1000000) (h2:∀k,k<n→(q k).n1≤1000000∧(q k).n2≤1000000) :
  Θ 65 #[.slice a n c,.slice a' n c',.func (.func 66) #[] #[]] w (fun e w'=>e=.returned (.bool true)∧Below w.heap.size w w'):=by
 have HB:=Ac w.heap.size w;have hn:=hp.few;have HH:=Ae (Ay hh (Ay h1 h2));clear hh h1 h2;go_enter Tryz.func65,Tryz.ntmps65;go_wp2_with fail;go_loopw [17] (fun v17 wr=>∃(i:Nat),i≤n∧v17=.int .i64 i∧Below w.heap.size w wr) (fun v17 _=>n-(intOf v17).toNat)
 case atStart=>exact ⟨0,by omega,rfl,HB⟩
 case round =>
  obtain ⟨i,hi,rfl,HBr⟩:=hrel;clear HB;by_cases hlt:i<n
  ·have hpr:=hp.keep HBr;have hqr:=hq.keep HBr;have HT:=hpr.tm i hlt;have HU:=hqr.tm i hlt;obtain ⟨b,o,rfl,_⟩:=hp.cell.resolve_left qA;obtain ⟨b',o',rfl,_⟩:=hq.cell.resolve_left qA;obtain ⟨e0,e1,e2,e3,e4,e5,e6,e7⟩:=hpr.at hlt;obtain ⟨d0,d1,d2,d3,d4,d5,d6,d7⟩:=hqr.at hlt;have k1:=HH.out.2.1 i hlt;have k2:=HH.out.2.2 i hlt;have l1:=Aa _ _ e0;have l2:=Aa _ _ d0;obtain ⟨x,ix,iy,hcx⟩:=HH.out.1 i hlt;have HIX:=Ae (Ay ix (Ay iy hcx));have HQP:=Ae (Ay hp hq);clear ix iy hcx hp hq hpr hqr;go_wp2_with fail;refine Be ?_;intro w0 hw0;have b0:Below wr.heap.size wr w0:=by rw [hw0];go_grown
   clear hw0;refine (xJ w0 (p i) (q i) (HT.keep b0) (HU.keep b0) x HIX.out.1 HIX.out.2.1 HIX.out.2.2 k1.1 k1.2 k2.1 k2.2).mono ?_;exact qCc
  ·obtain rfl:i=n:=by omega
   go_wp2_with fail;go_ret;exact ⟨rfl,HBr⟩
theorem tR (w:World) (B n c:Nat) (a:Γ) (l:Δ) (h:Bd w B a n c l) (B' n' c':Nat) (a':Γ) (h':Bd w B' a' n' c' l) (hl:PW l) (K:Nat) (hK:Cj K l) (hK1:K≤1000000) :
  Θ 21 #[.slice a n c,.slice a' n' c'] w (fun e w'=>e=.returned (.bool true)∧Below w.heap.size w w'):=by
 have hnn:n'=n:=by rw [←h.len,←h'.len]
 subst hnn;obtain ⟨p,hp,hpx⟩:=h.ts;obtain ⟨q,hq,hqx⟩:=h'.ts;have f1:=h.few hK hp hpx;have f2:=h'.few hK hq hqx;have o1:=h.pok hl hp hpx;have o2:=h'.pok hl hq hqx;have hlen:=h.len;have HX:=Ae (Ay (show ∀i,i<n'→∃x:PT,Ey (p i) x∧Ey (q i) x∧CW x.2 from fun i hi=>by
  have hx:l[i]? = some l[i]:=Ai qA;exact ⟨_,(hpx i _ hx).1,(hqx i _ hx).1,(hl.good _ (List.getElem_mem _)).1⟩) (Ay (show ∀k,k<n'→(p k).n1≤1000000∧(p k).n2≤1000000 from fun k hk=>by have:=f1 k hk;omega) (show ∀k,k<n'→(q k).n1≤1000000∧(q k).n2≤1000000 from fun k hk=>by have:=f2 k hk;omega)))
 have HO:=Ae (Ay o1 o2);have HB:=Ac w.heap.size w;clear h h' hpx hqx f1 f2 o1 o2;go_enter Tryz.func21,Tryz.ntmps21;go_wp2_with fail;refine (Lk w a n' c p hp HX.out.2.1 true ⟨fun _=>rfl,fun _=>HO.out.1⟩).mono ?_;rintro e w1 ⟨rfl,hb1⟩;go_wp2_with fail;refine (Lk w1 a' n' c' q (hq.keep hb1) HX.out.2.2 true ⟨fun _=>rfl,fun _=>HO.out.2⟩).mono ?_;rintro e w2 ⟨rfl,hb2⟩;have b2:=hb1.trans (hb2.mono hb1.size);go_wp2_with fail;refine (oT w2 a n' c p (hp.keep b2) a' c' q (hq.keep b2) HX.out.1 HX.out.2.1 HX.out.2.2).mono ?_;rintro e w3 ⟨rfl,hb3⟩;go_wp2_with fail;go_ret;exact ⟨rfl,b2.trans (hb3.mono b2.size)⟩
theorem Di.keep0 {w w':World} {b p:Nat} {xs:List VT} (h:Di w 0 none b p xs) (hb:Below w.heap.size w w'):Di w' 0 none b p xs:=Di.of fun i x hx=>by
 obtain ⟨v0,v1,v2,c0,c1,c2,hv⟩:=h.at hx;exact ⟨v0,v1,v2,Bc hb c0,Bc hb c1,Bc hb c2,hv.keep hb⟩
abbrev nF (w:World) (e:Ending) (w':World):Prop:=e=.returned (.bool true)∧Below w.heap.size w w'
theorem lJ (w:World) (xs:List VT) (a:Γ) (c:Nat) (a':Γ) (c':Nat) (hn:xs.length≤2000) (h:xs=[]∨∃b p,a=some ⟨b,p,none⟩∧Di w 0 none b p xs) (h':xs=[]∨∃b p,a'=some ⟨b,p,none⟩∧Di w 0 none b p xs)
  (IH:∀x∈xs,∀(W:World) (v0 v1 v2 u0 u1 u2:Value),Bw W 0 none v0 v1 v2 x→Bw W 0 none u0 u1 u2 x→Θ 78 #[.agg #[v0,v1,v2],.agg #[u0,u1,u2]] W (nF W)) :
  Θ 138 #[.slice a xs.length c,.slice a' xs.length c',.func (.func 78) #[] #[]] w (nF w):=by
 have HB:=Ac w.heap.size w;obtain ⟨n,hnx⟩:∃n,n=xs.length:=⟨_,rfl⟩;rw [←hnx] at hn ⊢;have HN:=Ae hnx;have HR:=Ae (Ay h h');have HI:=Ae IH;clear hnx h h' IH;go_enter Tryz.func138,Tryz.ntmps138;go_wp2_with fail;go_loopw [17] (fun v17 wr=>∃(i:Nat),i≤n∧v17=.int .i64 i∧Below w.heap.size w wr) (fun v17 _=>n-(intOf v17).toNat)
 case atStart=>exact ⟨0,by omega,rfl,HB⟩
 case round =>
  obtain ⟨i,hi,rfl,HBr⟩:=hrel;clear HB;by_cases hlt:i<n
  ·have hx0:xs≠[]:=by intro e;have:=HN.out;rw [e] at this;simp at this;omega
   obtain ⟨b,p,rfl,hv⟩:=HR.out.1.resolve_left hx0;obtain ⟨b',p',rfl,hv'⟩:=HR.out.2.resolve_left hx0;obtain ⟨x,hx⟩:∃x,xs[i]? = some x:=⟨_,Ai (by rw [←HN.out];exact hlt)⟩;obtain ⟨v0,v1,v2,c0,c1,c2,hva⟩:=hv.at hx;obtain ⟨u0,u1,u2,d0,d1,d2,hua⟩:=hv'.at hx;obtain ⟨f,ax,nx,cx,ay,ny,cy,rfl,rfl,rfl⟩:=hva.form;obtain ⟨f',ax',nx',cx',ay',ny',cy',rfl,rfl,rfl⟩:=hua.form;have HX:=Ae (Ay hx (Ay (hva.keep HBr) (hua.keep HBr)))
   (replace c0:=Bc HBr c0;replace c1:=Bc HBr c1;replace c2:=Bc HBr c2;replace d0:=Bc HBr d0;replace d1:=Bc HBr d1;replace d2:=Bc HBr d2)
   have l1:=Aa _ _ c0;have l2:=Aa _ _ d0;clear hx hva hua hv hv';go_wp2_with fail;refine Be ?_;intro w0 hw0;have b0:Below wr.heap.size wr w0:=by rw [hw0];go_grown
   clear hw0;refine (HI.out x (A8 HX.out.1) w0 _ _ _ _ _ _ (HX.out.2.1.keep b0) (HX.out.2.2.keep b0)).mono ?_;exact qCc
  ·obtain rfl:i=n:=by omega
   go_wp2_with fail;go_ret;exact ⟨rfl,HBr⟩
theorem Abv:∀(k:Nat) (t:VT),t.dep≤k→∀(d:Nat) (w:World) (v0 v1 v2 u0 u1 u2:Value),Bw w 0 none v0 v1 v2 t→Bw w 0 none u0 u1 u2 t→VT.Ok d t→Θ 78 #[.agg #[v0,v1,v2],.agg #[u0,u1,u2]] w (nF w):=by
 intro k
 induction k with
 | zero=>intro t ht;cases t;rw [VT.dep] at ht;omega
 | succ k ih =>
  intro t ht d w v0 v1 v2 u0 u1 u2 h h' hok;obtain ⟨f,l,xs⟩:=t;rw [VT.dep] at ht;rw [Bw] at h h';rw [VT.Ok] at hok;obtain ⟨rfl,⟨a,n,c,rfl,hp,_⟩,a',c',rfl,k2,k3,k4,hrow⟩:=h;obtain ⟨rfl,⟨b,n',e,rfl,hp',_⟩,b',e',rfl,j2,j3,j4,hrow'⟩:=h';have hpw:PW l:=by
   exact qCy
  have hfw:Cj 5000 l:=by
   rcases hok with ⟨_,_,_,_,h⟩|⟨_,rfl,_⟩
   ·exact h
   ·exact fun t ht=>(by cases ht)
  have hxl:xs.length≤2000:=by
   rcases hok with ⟨_,rfl,_⟩|⟨_,_,h,_⟩
   ·simp
   ·exact h
  have hxo:∃d',∀x∈xs,VT.Ok d' x:=by
   rcases hok with ⟨_,rfl,_⟩|⟨_,_,_,_,h⟩
   ·exact ⟨0,fun x hx=>(by cases hx)⟩
   ·exact ⟨d+1,VT.OkL_iff.1 h⟩
  obtain ⟨d',hd'⟩:=hxo;have HI:=Ae (fun (x:VT) (hx:x∈xs) (W:World) (v0 v1 v2 u0 u1 u2:Value) (hv:Bw W 0 none v0 v1 v2 x) (hu:Bw W 0 none u0 u1 u2 x)=>ih x (by have:=VT.depL_mem (xs:=xs) hx;omega) d' W v0 v1 v2 u0 u1 u2 hv hu (hd' x hx));have HR:=Ae (Ay hrow hrow');have HB:=Ac w.heap.size w;clear ih hok hrow hrow' hd';go_enter Tryz.func78,Tryz.ntmps78;go_wp2_with fail;refine Be ?_;intro w0 hw0;have b0:Below w.heap.size w w0:=by rw [hw0];go_grown
  have A0:Blk w0 w.heap.size #[.bool f,.slice a n c,.slice a' xs.length c'] 60:=by rw [hw0];exact (Bi rfl _ _).alloc _
  have B0:Blk w0 (w.heap.size+1) #[.bool f,.slice b n' e,.slice b' xs.length e'] 60:=by rw [hw0];exact Bi qG _ _
  clear hw0;refine (tR w0 0 n c a l (hp.keep b0) 0 n' e b (hp'.keep b0) hpw 5000 hfw qA).mono ?_;rintro e1 w1 ⟨rfl,hb1⟩;have b1:=b0.trans (hb1.mono b0.size);have x2:=(A0.keep hb1).cell 2 _ rfl;have y2:=(B0.keep hb1).cell 2 _ rfl;go_wp2_with fail;refine (lJ w1 xs a' c' b' e' hxl (HR.out.1.imp id fun⟨b,p,e,_,h⟩=>⟨b,p,e,Di.keep0 h b1⟩) (HR.out.2.imp id fun⟨b,p,e,_,h⟩=>⟨b,p,e,Di.keep0 h b1⟩) HI.out).mono ?_;rintro e1 w2 ⟨rfl,hb2⟩;go_wp2_with fail;go_ret;exact ⟨rfl,b1.trans (hb2.mono b1.size)⟩
theorem Aa9 {w:World} {B B' d:Nat} {o o':Option Nat} {v0 v1 v2 u0 u1 u2:Value} {t:VT} (h:Bw w B o v0 v1 v2 t) (h':Bw w B' o' u0 u1 u2 t) (hok:VT.Ok d t):Θ 78 #[.agg #[v0,v1,v2],.agg #[u0,u1,u2]] w (nF w):=Abv t.dep t (Ad _) d w _ _ _ _ _ _ h.read h'.read hok
theorem Qe (w:World) (B n c:Nat) (a:Γ) (l:Δ) (h:Bd w B a n c l) (B' n' c':Nat) (a':Γ) (h':Bd w B' a' n' c' l) (b:Γ) (e:Nat) (b':Γ) (e':Nat) :
  Θ 27 #[.agg #[.bool false,.slice a n c,.slice b 0 e],.agg #[.bool false,.slice a' n' c',.slice b' 0 e']] w (nF w):=by
 have HB:=Ac w.heap.size w;have hvs:∀W,Θ 84 #[.slice b 0 e,.slice b' 0 e'] W (fun x w'=>x=.returned (.bool true)∧w'=W):=fun W=>by
  go_enter Tryz.func84,Tryz.ntmps84;go_wp2_with fail;refine wp_loop_rounds 1 ?_;rw [rounds_succ];go_wp2_with fail;go_ret;exact ⟨rfl,rfl⟩
 go_enter Tryz.func27,Tryz.ntmps27;go_wp2_with fail;refine Be ?_;intro w0 hw0;have b0:Below w.heap.size w w0:=by rw [hw0];go_grown
 have A0:Blk w0 w.heap.size #[.bool false,.slice a n c,.slice b 0 e] 60:=by rw [hw0];exact (Bi rfl _ _).alloc _
 have B0:Blk w0 (w.heap.size+1) #[.bool false,.slice a' n' c',.slice b' 0 e'] 60:=by rw [hw0];exact Bi qG _ _
 clear hw0;refine (bT w0 B a n c l (h.keep b0) B' a' n' c' (h'.keep b0)).mono ?_;rintro e1 w1 ⟨rfl,hb1⟩;have b1:=b0.trans (hb1.mono b0.size);have x2:=(A0.keep hb1).cell 2 _ rfl;have y2:=(B0.keep hb1).cell 2 _ rfl;go_wp2_with fail;refine (hvs _).mono ?_;rintro e1 w2 ⟨rfl,rfl⟩;go_wp2_with fail;go_ret;exact ⟨rfl,b1⟩
theorem Adh {w:World} {B B' d1:Nat} {o o':Option Nat} {v0 v1 v2 u0 u1 u2:Value} {t:VT} (h:Bw w B o v0 v1 v2 t) (h':Bw w B' o' u0 u1 u2 t) (hok:VT.Ok 1 t) (hok':VT.Ok 1 t) :
  Θ 26 #[.string ⟨#[61,61]⟩,.agg #[v0,v1,v2],.agg #[u0,u1,u2]] w (N8 w (Qf 1) 0):=by
 have HB:=Ac w.heap.size w;obtain ⟨f,a,n,c,a',n',c',rfl,rfl,rfl⟩:=h.form;obtain ⟨f2,e,m,d,e',m',d',rfl,rfl,rfl⟩:=h'.form;have HV:=Ae (Ay h.read h'.read);clear h h';go_enter Tryz.func26,Tryz.ntmps26;go_wp2_with fail;refine Be ?_;intro w1 hw1;have b1:Below w.heap.size w w1:=by rw [hw1];go_grown
 have A1:Blk w1 w.heap.size #[.bool f,.slice a n c,.slice a' n' c'] 60:=by rw [hw1];exact ((Bi rfl _ _).alloc _).alloc _
 have E1:Blk w1 (w.heap.size+1) #[.bool f2,.slice e m d,.slice e' m' d'] 60:=by rw [hw1];exact (Bi qG _ _).alloc _
 have R1:Blk w1 (w.heap.size+1+1) #[.bool false,.slice none 0 0,.slice none 0 0] 60:=by rw [hw1];exact Bi qG _ _
 clear hw1;refine (Dc (HV.out.1.keep b1) hok).mono ?_;rintro x w2 ⟨rfl,hb2⟩;have b2:=b1.trans (hb2.mono b1.size);have x0:=(E1.keep hb2).cell 0 _ rfl;have x1:=(E1.keep hb2).cell 1 _ rfl;have x2:=(E1.keep hb2).cell 2 _ rfl;go_wp2_with fail;refine (Dc (HV.out.2.keep b2) hok').mono ?_;rintro x w3 ⟨rfl,hb3⟩;have b3:=b2.trans (hb3.mono b2.size);have A3:=(A1.keep hb2).keep hb3;have E3:=(E1.keep hb2).keep hb3;have R3:=(R1.keep hb2).keep hb3;replace x0:=E3.cell 0 _ rfl;replace x1:=E3.cell 1 _ rfl;replace x2:=E3.cell 2 _ rfl;have y0:=A3.cell 0 _ rfl;have y1:=A3.cell 1 _ rfl;have y2:=A3.cell 2 _ rfl;go_wp2_with fail;refine (Aa9 (HV.out.1.keep b3) (HV.out.2.keep b3) hok).mono ?_;rintro x w4 ⟨rfl,hb4⟩;have b4:=b3.trans (hb4.mono b3.size);have R4:=R3.keep hb4;go_wp2_with fail;refine (Ab6 w4 true).mono ?_;rintro x w5 ⟨p0,p1,p2,rfl,hv,hb5⟩;obtain ⟨f5,ax,nx,cx,ay,ny,cy,rfl,rfl,rfl⟩:=hv.form;have b5:=Al b4 (hb5.mono (Below.size b4));have R5:=Blk.keep R4 hb5;have r0:=R5.cell 0 _ rfl;have r1:=R5.cell 1 _ rfl;have r2:=R5.cell 2 _ rfl;have f0:=R5.frozen 0;have f1:=R5.frozen 1;have f2':=R5.frozen 2;have rl:=R5.lt;have rl4:=Blk.lt R4;have HV5:=Ae hv;clear hv;go_wp2_with fail;refine bodyPost_ret (v:=.tuple #[.agg #[.bool f5,.slice ax nx cx,.slice ay ny cy],.int .i64 0]) (by simp [results,Tryz.results26,go_sem,rl,r0,r1,r2]) rfl ?_;exact ⟨_,_,_,rfl,((Kc HV5.out rl4 R5 _ _ _).other (.inl qG)).down (Below.size b4),Cd b5 qA _ _ _⟩
theorem lS {w:World} {B B':Nat} {o o':Option Nat} {v0 v1 v2 u0 u1 u2:Value} {l:Δ} (h:Bw w B o v0 v1 v2 (.node false l [])) (h':Bw w B' o' u0 u1 u2 (.node false [(0,65,1)] [])) (hok:VT.Ok 1 (.node false l [])) (hok':VT.Ok 1 (.node false [(0,65,1)] [])) :
  Θ 26 #[.string ⟨#[94]⟩,.agg #[v0,v1,v2],.agg #[u0,u1,u2]] w (N8 w fO 3):=by
 have HB:=Ac w.heap.size w;obtain ⟨f,a,n,c,a',n',c',rfl,rfl,rfl⟩:=h.form;obtain ⟨f2,e,m,d,e',m',d',rfl,rfl,rfl⟩:=h'.form;have HV:=Ae (Ay h.read h'.read);clear h h';go_enter Tryz.func26,Tryz.ntmps26;go_wp2_with fail;refine Be ?_;intro w1 hw1;have b1:Below w.heap.size w w1:=by rw [hw1];go_grown
 have A1:Blk w1 w.heap.size #[.bool f,.slice a n c,.slice a' n' c'] 60:=by rw [hw1];exact ((Bi rfl _ _).alloc _).alloc _
 have E1:Blk w1 (w.heap.size+1) #[.bool f2,.slice e m d,.slice e' m' d'] 60:=by rw [hw1];exact (Bi qG _ _).alloc _
 have R1:Blk w1 (w.heap.size+1+1) #[.bool false,.slice none 0 0,.slice none 0 0] 60:=by rw [hw1];exact Bi qG _ _
 clear hw1;refine (Dc (HV.out.1.keep b1) hok).mono ?_;rintro x w2 ⟨rfl,hb2⟩;have b2:=b1.trans (hb2.mono b1.size);have x0:=(E1.keep hb2).cell 0 _ rfl;have x1:=(E1.keep hb2).cell 1 _ rfl;have x2:=(E1.keep hb2).cell 2 _ rfl;go_wp2_with fail;refine (Dc (HV.out.2.keep b2) hok').mono ?_;rintro x w3 ⟨rfl,hb3⟩;have b3:=b2.trans (hb3.mono b2.size);have A3:=(A1.keep hb2).keep hb3;have E3:=(E1.keep hb2).keep hb3;have R3:=(R1.keep hb2).keep hb3;replace x0:=E3.cell 0 _ rfl;replace x1:=E3.cell 1 _ rfl;replace x2:=E3.cell 2 _ rfl;have y0:=A3.cell 0 _ rfl;have y1:=A3.cell 1 _ rfl;have y2:=A3.cell 2 _ rfl;have hx:=HV.out.1;have hx':=HV.out.2;rw [Bw] at hx hx';obtain ⟨hf,⟨_,_,_,e9,hp,_⟩,_⟩:=hx;obtain ⟨hf',⟨_,_,_,e9',hp',_⟩,_⟩:=hx';cases hf
 cases hf'
 cases e9
 cases e9'
 go_wp2_with fail;refine (eH w3 0 m d e [(0,65,1)] (hp'.keep b3) (fun t ht=>by rw [Ao.1 ht];exact ⟨by decide,by decide⟩) e' m' d' 65 rfl qA qA 64 qA).mono ?_;rintro x w4 ⟨rfl,hb4⟩;have b4:=b3.trans (hb4.mono b3.size);have R4:=R3.keep hb4;have y0:=(A3.keep hb4).cell 0 _ rfl;rw [if_neg qI];have R5:=R4;have r0:=R5.cell 0 _ rfl;have r1:=R5.cell 1 _ rfl;have r2:=R5.cell 2 _ rfl;have f0:=R5.frozen 0;have f1:=R5.frozen 1;have f2':=R5.frozen 2;have rl:=R5.lt;go_wp2_with fail;refine bodyPost_ret (v:=.tuple #[.agg #[.bool false,.slice none 0 0,.slice none 0 0],.int .i64 3]) (by simp [results,Tryz.results26,go_sem,rl,r0,r1,r2]) rfl ?_;exact ⟨_,_,_,rfl,Py (Bd.nil _ 0) (Bm.nil _ 0),(by first|exact Cd b4 qA _ _ _|exact Below.alloc (Cd b4 qA _ _ _) (by have:=Below.size b4;simp;omega) _)⟩
theorem jB {w:World} {B B':Nat} {o o':Option Nat} {v0 v1 v2 u0 u1 u2:Value} {l l':Δ} (h:Bw w B o v0 v1 v2 (.node false l [])) (h':Bw w B' o' u0 u1 u2 (.node false l' [])) (hok:VT.Ok 1 (.node false l [])) (hok':VT.Ok 1 (.node false l' [])) (hl:Mj l=none) (hw1:PW l) (hw2:PW l') :
  Θ 26 #[.string ⟨#[60]⟩,.agg #[v0,v1,v2],.agg #[u0,u1,u2]] w (N8 w fO 8):=by
 have HB:=Ac w.heap.size w;obtain ⟨f,a,n,c,a',n',c',rfl,rfl,rfl⟩:=h.form;obtain ⟨f2,e,m,d,e',m',d',rfl,rfl,rfl⟩:=h'.form;have HV:=Ae (Ay h.read h'.read);clear h h';go_enter Tryz.func26,Tryz.ntmps26;go_wp2_with fail;refine Be ?_;intro w1 hw1;have b1:Below w.heap.size w w1:=by rw [hw1];go_grown
 have A1:Blk w1 w.heap.size #[.bool f,.slice a n c,.slice a' n' c'] 60:=by rw [hw1];exact ((Bi rfl _ _).alloc _).alloc _
 have E1:Blk w1 (w.heap.size+1) #[.bool f2,.slice e m d,.slice e' m' d'] 60:=by rw [hw1];exact (Bi qG _ _).alloc _
 have R1:Blk w1 (w.heap.size+1+1) #[.bool false,.slice none 0 0,.slice none 0 0] 60:=by rw [hw1];exact Bi qG _ _
 clear hw1;refine (Dc (HV.out.1.keep b1) hok).mono ?_;rintro x w2 ⟨rfl,hb2⟩;have b2:=b1.trans (hb2.mono b1.size);have x0:=(E1.keep hb2).cell 0 _ rfl;have x1:=(E1.keep hb2).cell 1 _ rfl;have x2:=(E1.keep hb2).cell 2 _ rfl;go_wp2_with fail;refine (Dc (HV.out.2.keep b2) hok').mono ?_;rintro x w3 ⟨rfl,hb3⟩;have b3:=b2.trans (hb3.mono b2.size);have A3:=(A1.keep hb2).keep hb3;have E3:=(E1.keep hb2).keep hb3;have R3:=(R1.keep hb2).keep hb3;replace x0:=E3.cell 0 _ rfl;replace x1:=E3.cell 1 _ rfl;replace x2:=E3.cell 2 _ rfl;have y0:=A3.cell 0 _ rfl;have y1:=A3.cell 1 _ rfl;have y2:=A3.cell 2 _ rfl;have hx:=HV.out.1;have hx':=HV.out.2;rw [Bw] at hx hx';obtain ⟨hf,⟨_,_,_,e9,hp,_⟩,_⟩:=hx;obtain ⟨hf',⟨_,_,_,e9',hp',_⟩,_⟩:=hx';cases hf
 cases hf'
 cases e9
 cases e9'
 go_wp2_with fail;refine (Wc w3 0 n c a l (hp.keep b3) (fun t ht=>(hw1.good t ht).1) a' n' c').mono ?_;rintro x w4 ⟨g1,a1,n1,c1,g2,a2,n2,c2,rfl,_,hb4⟩;rw [hl];have b4:=b3.trans (hb4.mono b3.size);have R4:=R3.keep hb4;replace x0:=Bc hb4 x0;replace x1:=Bc hb4 x1;replace x2:=Bc hb4 x2;have el:=Aa _ _ x0;go_wp2_with fail;refine Be ?_;intro w5 hw5;have k5:Below w4.heap.size w4 w5:=by rw [hw5];go_grown
 clear hw5;have b5:=b4.trans (k5.mono b4.size);have R5':=R4.keep k5;refine (Wc w5 0 m d e l' (hp'.keep b5) (fun t ht=>(hw2.good t ht).1) e' m' d').mono ?_;rintro x w6 ⟨g1,a1,n1,c1,g2,a2,n2,c2,rfl,_,hb6⟩;have b6:=b5.trans (hb6.mono b5.size);have R6:=R5'.keep hb6
 cases Mj l' with
 | none =>
   exact qBa
 | some y =>
   exact qBa
theorem nB {w:World} {B B':Nat} {o o':Option Nat} {v0 v1 v2 u0 u1 u2:Value} {l l':Δ} (h:Bw w B o v0 v1 v2 (.node false l [])) (h':Bw w B' o' u0 u1 u2 (.node false l' [])) (hok:VT.Ok 1 (.node false l [])) (hok':VT.Ok 1 (.node false l' [])) (hl:Sm l) (hl':Sm l') (h0:l'≠[]) (hx:Fd l l'=some none) :
  Θ 26 #[.string ⟨#[47]⟩,.agg #[v0,v1,v2],.agg #[u0,u1,u2]] w (N8 w fO 12):=by
 have HB:=Ac w.heap.size w;obtain ⟨f,a,n,c,a',n',c',rfl,rfl,rfl⟩:=h.form;obtain ⟨f2,e,m,d,e',m',d',rfl,rfl,rfl⟩:=h'.form;have HV:=Ae (Ay h.read h'.read);clear h h';go_enter Tryz.func26,Tryz.ntmps26;go_wp2_with fail;refine Be ?_;intro w1 hw1;have b1:Below w.heap.size w w1:=by rw [hw1];go_grown
 have A1:Blk w1 w.heap.size #[.bool f,.slice a n c,.slice a' n' c'] 60:=by rw [hw1];exact ((Bi rfl _ _).alloc _).alloc _
 have E1:Blk w1 (w.heap.size+1) #[.bool f2,.slice e m d,.slice e' m' d'] 60:=by rw [hw1];exact (Bi qG _ _).alloc _
 have R1:Blk w1 (w.heap.size+1+1) #[.bool false,.slice none 0 0,.slice none 0 0] 60:=by rw [hw1];exact Bi qG _ _
 clear hw1;refine (Dc (HV.out.1.keep b1) hok).mono ?_;rintro x w2 ⟨rfl,hb2⟩;have b2:=b1.trans (hb2.mono b1.size);have x0:=(E1.keep hb2).cell 0 _ rfl;have x1:=(E1.keep hb2).cell 1 _ rfl;have x2:=(E1.keep hb2).cell 2 _ rfl;go_wp2_with fail;refine (Dc (HV.out.2.keep b2) hok').mono ?_;rintro x w3 ⟨rfl,hb3⟩;have b3:=b2.trans (hb3.mono b2.size);have A3:=(A1.keep hb2).keep hb3;have E3:=(E1.keep hb2).keep hb3;have R3:=(R1.keep hb2).keep hb3;replace x0:=E3.cell 0 _ rfl;replace x1:=E3.cell 1 _ rfl;replace x2:=E3.cell 2 _ rfl;have y0:=A3.cell 0 _ rfl;have y1:=A3.cell 1 _ rfl;have y2:=A3.cell 2 _ rfl;have hx:=HV.out.1;have hx':=HV.out.2;rw [Bw] at hx hx';obtain ⟨hf,⟨_,_,_,e9,hp,_⟩,_⟩:=hx;obtain ⟨hf',⟨_,_,_,e9',hp',_⟩,_⟩:=hx';cases hf
 cases hf'
 cases e9
 cases e9'
 have hr:∀w9,Below w3.heap.size w3 w9→Θ 82 #[.int .u8 47,.slice a n c,.slice e m d] w9 (N8 w9 fO 12):=fun w9 hb9=>by
  have hlm:=hp'.len;have hm:((m:Int)==0)=false:=by
   rw [beq_eq_false_iff_ne];rcases l' with _|⟨t,l'⟩
   ·exact absurd rfl h0
   ·simp at hlm;omega
  have HB3:=Ac w9.heap.size w9;go_enter Tryz.func82,Tryz.ntmps82;go_wp2_with fail;refine Be ?_;intro w4 hw4;have b4:Below w9.heap.size w9 w4:=by rw [hw4];go_grown
  have R4:Blk w4 w9.heap.size #[.bool false,.slice none 0 0,.slice none 0 0] 60:=by rw [hw4];exact Bi rfl _ _
  clear hw4;refine (Mc w4 0 n c 0 m d a e l l' (((hp.keep b3).keep hb9).keep b4) hl (((hp'.keep b3).keep hb9).keep b4) hl' none hx).mono ?_;rintro x w5 ⟨hb5,rfl⟩;have b5:=b4.trans (hb5.mono b4.size);have R5:=R4.keep hb5;have r0:=R5.cell 0 _ rfl;have r1:=R5.cell 1 _ rfl;have r2:=R5.cell 2 _ rfl;have f0:=R5.frozen 0;have f1:=R5.frozen 1;have f2':=R5.frozen 2;have rl:=R5.lt;go_wp2_with fail;refine bodyPost_ret (v:=.tuple #[.agg #[.bool false,.slice none 0 0,.slice none 0 0],.int .i64 12]) (by simp [results,Tryz.results82,go_sem,rl,r0,r1,r2]) rfl ?_;exact ⟨_,_,_,rfl,Py (Bd.nil _ 0) (Bm.nil _ 0),Cd b5 (Ad _) _ _ _⟩
 go_wp2_with fail;go_region_held3 (fun W=>W.cell? ⟨w.heap.size,1,none⟩=some (.slice a n c)∧W.cell? ⟨w.heap.size+1,1,none⟩=some (.slice e m d)) (first|((try dsimp only);(repeat' apply Ay);all_goals (first|(with_reducible assumption)|(go_keep;done)|(simp [*,go_sem];done)))) (first
  | (go_at_call 82;(refine (hr w3.drew (Below.drew (Ac _ _))).mono ?_);rintro x w5 ⟨p0,p1,p2,rfl,hv,hb5⟩;obtain ⟨f5,ax,nx,cx,ay,ny,cy,rfl,rfl,rfl⟩:=hv.form;have k5:Below w3.heap.size w3 w5:=(Below.drew (Ac _ _)).trans (by rw [Ak] at hb5;exact hb5);have b5:=b3.trans (k5.mono b3.size);have R5:=R3.keep k5;have r0:=R5.cell 0 _ rfl;have r1:=R5.cell 1 _ rfl;have r2:=R5.cell 2 _ rfl;have f0:=R5.frozen 0;have f1:=R5.frozen 1;have f2':=R5.frozen 2;have rl:=R5.lt;have rl4:=R3.lt;have HV5:=Ae hv;clear hv;replace y1:=Bc k5 y1;replace x1:=Bc k5 x1))
 go_wp2_with fail;refine bodyPost_ret (v:=.tuple #[.agg #[.bool f5,.slice ax nx cx,.slice ay ny cy],.int .i64 12]) (by simp [results,Tryz.results26,go_sem,rl,r0,r1,r2]) rfl ?_;exact ⟨_,_,_,rfl,((Kc HV5.out (by rw [Ak];exact rl4) R5 _ _ _).other (.inl qG)).down (by rw [Ak];exact b3.size),Cd b5 qA _ _ _⟩
end Go.Proofs.YtnnhcbeiogaknaaGreatDoor
end
