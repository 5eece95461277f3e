/- Package worths: Call, of add. -/
import Derived.Test.YtnnhcbeiogaknaaGreatDoorQT41
set_option linter.unusedSimpArgs false
set_option linter.unusedVariables false
set_option maxRecDepth 100000
set_option maxHeartbeats 4000000
section
namespace Go.Proofs.YtnnhcbeiogaknaaGreatDoor
open Go.RowKit
theorem Og {w:World} {ops:Array Oper} {o:Oper} {a:Act} {K:Act→World→Prop} {Q:Exit→Act→World→Prop} {E:Prop} (hgd:o.guard=none) (s x:Operand) (t:TypeId)
  (ho:o.op=.call { callee:=.builtin .append,args:=#[s,x],argTypes:=#[t,t] })
  (e:TypeId) (i:TypeInfo) (z:Value) (size bytes:Nat) (ht:Tryz.prog.underlying t=some (.slice e)) (hi:Tryz.prog.info? e=some i) (hz:i.zero=some z)
  (hsize:i.size=size) (hby:i.bytes=bytes) (hzs:z.cells.size=size) (hsz:0<size)
  (a0:Option Addr) (n:Nat) (olds:List Value) (hs:a.eval s=.slice a0 n n) (hf:(a0=none∧n=0∧olds=[])∨∃b,a0=some b∧olds.length=n*size∧∀j u,olds[j]? = some u→w.cell? (Addr.add b j)=some u)
  (ad:Addr) (m c:Nat) (news:List Value) (hx:a.eval x=.slice (some ad) m c) (hl:news.length=m*size) (hnews:∀j u,news[j]? = some u→w.cell? (ad.add j)=some u) (h1:∀u∈news,u.oneCell'=true)
  (hm:0<m) (h63:n+m≤maxLen) (hbytes:(n+m)*bytes≤140737488355328)
  (h:∀g cap w',w'.ownsRow w.heap.size e size (.slice (some ⟨g,0,none⟩) (n+m) cap) (n+m) (olds++news)→w.grownBy w' none→w.heap.size≤g→g<w'.heap.size→K (a.put o.dst (.slice (some ⟨g,0,none⟩) (n+m) cap)) w') :
  if Region.wanted o (yielded ops a.tmps)=true then Oper.wp Tryz.prog o a w K Q else E:=by
 have hw:Region.wanted o (yielded ops a.tmps)=true:=by simp [Region.wanted,hgd]
 rw [if_pos hw];have key:∃g cap w',(Builtin.append_ #[t,t] o.type #[.slice a0 n n,.slice (some ad) m c]).run Tryz.prog w=.ok (.slice (some ⟨g,0,none⟩) (n+m) cap) w'∧w'.ownsRow w.heap.size e size (.slice (some ⟨g,0,none⟩) (n+m) cap) (n+m) (olds++news)∧w.grownBy w' none∧w.heap.size≤g∧g<w'.heap.size:=by
  rcases hf with ⟨rfl,rfl,rfl⟩|⟨b,rfl,ho1,ho2⟩
  ·obtain ⟨g,cap,w',hr,h2,h3,h4,h5⟩:=run_append_lies (P:=Tryz.prog) w t o.type w.heap.size e i z size bytes ht hi hz hsize hby hzs hsz (.slice none 0 0) 0 [] (World.ownsRow_nil _ _ _ _) ad m c news hl hnews h1 hm h63 hbytes (Ad _) _ rfl;exact ⟨g,cap,w',hr,h2,h3,Ge h2 g rfl,h5⟩
  ·obtain ⟨v',w',hr,h2,h3⟩:=run_append_arg_grows (P:=Tryz.prog) w t o.type e i z size bytes ht hi hz hsize hby hzs hsz b n n olds ho1 ho2 ad m c news hl hnews qA h63 hbytes;obtain ⟨g,cap,rfl,h4,h5⟩:=h2.form qA;exact ⟨g,cap,w',hr,h2,h3,h4,h5⟩
 obtain ⟨g,cap,w',hr,h2,h3,h4,h5⟩:=key;unfold Oper.wp execOp;simp only [ho,resolve,invoke,builtin,Sem.run_bind,Sem.run_pure,Result.andThen_ok,List.map_toArray,List.map_cons,List.map_nil,hs,hx,hr];exact h g cap w' h2 h3 h4 h5
theorem Cd.olds {w:World} {B:Nat} {o:Option Nat} {b:Nat}:∀{xs:List VT} {p:Nat},Cd w B o b p xs→∃ys:List Value,ys.length=xs.length*3∧(∀j u,ys[j]? = some u→w.cell? ⟨b,p+j,none⟩=some u)∧∀(i:Nat) (x:VT),xs[i]? = some x→∃u0 u1 u2,ys[i*3]? = some u0∧ys[i*3+1]? = some u1∧ys[i*3+2]? = some u2∧Bt w B o u0 u1 u2 x:=by
 intro xs
 induction xs with
 | nil=>intro p _;exact ⟨[],rfl,fun j u h=>by simp at h,fun i x h=>by simp at h⟩
 | cons x xs ih =>
  intro p h;rw [Cd] at h;obtain ⟨⟨v0,v1,v2,c0,c1,c2,hv⟩,hr⟩:=h;obtain ⟨ys,e1,e2,e3⟩:=ih hr;refine ⟨v0::v1::v2::ys,by simp [e1];omega,fun j u hj=>?_,fun i y hi=>?_⟩
  ·match j,hj with
   | 0,hj=>simp at hj;rw [←hj];exact c0
   | 1,hj=>simp at hj;rw [←hj];exact c1
   | 2,hj=>simp at hj;rw [←hj];exact c2
   | j+3,hj=>simp at hj;have:=e2 j u hj;rw [show p+(j+3)=p+3+j by omega];exact this
  ·match i,hi with
   | 0,hi=>simp at hi;subst hi;exact ⟨v0,v1,v2,rfl,rfl,rfl,hv⟩
   | i+1,hi =>
    obtain ⟨u0,u1,u2,k0,k1,k2,k3⟩:=e3 i y (by simpa using hi);exact ⟨u0,u1,u2,by rw [show (i+1)*3=i*3+3 by omega];simpa using k0,by rw [show (i+1)*3+1=i*3+1+3 by omega];simpa using k1,by rw [show (i+1)*3+2=i*3+2+3 by omega];simpa using k2,k3⟩
theorem fV (w:World) (b p:Nat) (xs:List VT) (hl:xs.length≤40) (y:VT) (hok:VT.Ok 1 (.node true [] (xs++[y]))) (h:Cd w 0 none b p [.node true [] xs,y]) :
  Calls Tryz.prog 157 #[.slice (some ⟨b,p,none⟩) 2 2,.int .i64 0] w (E9 w (.node true [] (xs++[y])) 0):=by
 have HB:=Ac w.heap.size w;obtain ⟨v0,v1,v2,d0,d1,d2,hv⟩:=h.at (i:=0) rfl;obtain ⟨q0,q1,q2,g0,g1,g2,hq⟩:=h.at (i:=1) rfl;rw [Nat.zero_mul,Nat.add_zero] at d0 d1 d2;rw [Nat.one_mul] at g0 g1 g2;obtain ⟨fv,av,nv,cv,av',nv',cv',rfl,rfl,rfl⟩:=hv.form;obtain ⟨fq,aq,nq,cq,aq',nq',cq',rfl,rfl,rfl⟩:=hq.form;have hbl:=Aa _ _ d0;have HX:=Ae (Ay hv hq);have HO:=Ae (show VT.Ok 1 (.node true [] xs)∧VT.Ok 2 y from by
  rw [VT.Ok] at hok ⊢;rcases hok with ⟨h,_⟩|⟨_,_,h3,h4,h5⟩
  ·cases h
  ·exact ⟨.inr ⟨rfl,rfl,by omega,h4,VT.OkL_iff.2 fun x hx=>VT.OkL_iff.1 h5 x (List.mem_append_left _ hx)⟩,VT.OkL_iff.1 h5 y qG⟩)
 have HOK:=Ae hok;clear h hv hq hok;go_enter Tryz.func157,Tryz.ntmps157;go_wp2_with fail;refine By ?_;intro w1 hw1;have b1:Below w.heap.size w w1:=by rw [hw1];go_grown
 have R1:Blk w1 w.heap.size #[.bool false,.slice none 0 0,.slice none 0 0] 60:=by rw [hw1];exact Bj rfl _ _
 clear hw1
 (replace d0:=Bb b1 d0;replace d1:=Bb b1 d1;replace d2:=Bb b1 d2;replace g0:=Bb b1 g0;replace g1:=Bb b1 g1;replace g2:=Bb b1 g2)
 have kd:Below w1.heap.size w1 w1.drew:=Below.drew (Ac _ _);have hs1:=b1.size;refine Bx (fun W=>W.cell? ⟨b,p,none⟩=some (.bool fv)∧W.cell? ⟨b,p+1,none⟩=some (.slice av nv cv)∧W.cell? ⟨b,p+2,none⟩=some (.slice av' nv' cv')∧W.cell? ⟨b,p+3,none⟩=some (.bool fq)∧W.cell? ⟨b,p+3+1,none⟩=some (.slice aq nq cq)∧W.cell? ⟨b,p+3+2,none⟩=some (.slice aq' nq' cq')) 14 qC qK (fun hHeld=>?_);(refine Bh.take 14 (i:=0) (v:=?_) rfl qC (fun _ _ _ h=>h) (Or.inl ⟨by rfl,?_⟩) qH ?_;rotate_left;(focus (intro w' hSw;(try dsimp only at hSw);go_simp;(try with_reducible rfl)));(try simp only [Act.put,Au,Av,Aw]));(refine Bh.take 14 (i:=1) (v:=?_) rfl qC (fun _ _ _ h=>h) (Or.inl ⟨by rfl,?_⟩) qH ?_;rotate_left;(focus (intro w' hSw;(try dsimp only at hSw);go_simp;(try with_reducible rfl)));(try simp only [Act.put,Au,Av,Aw]));(refine Bh.take 14 (i:=2) (v:=?_) rfl qC (fun _ _ _ h=>h) (Or.inl ⟨by rfl,?_⟩) qH ?_;rotate_left;(focus (intro w' hSw;(try dsimp only at hSw);go_simp;(try with_reducible rfl)));(try simp only [Act.put,Au,Av,Aw]));(refine Bh.take 14 (i:=5) (v:=?_) rfl qC (fun _ _ _ h=>h) (Or.inl ⟨by rfl,?_⟩) qH ?_;rotate_left;(focus (intro w' hSw;(try dsimp only at hSw);go_simp;(try with_reducible rfl)));(try simp only [Act.put,Au,Av,Aw]));(refine Bh.take 14 (i:=6) (v:=?_) rfl qC (fun _ _ _ h=>h) (Or.inl ⟨by rfl,?_⟩) qH ?_;rotate_left;(focus (intro w' hSw;(try dsimp only at hSw);go_simp;(try with_reducible rfl)));(try simp only [Act.put,Au,Av,Aw]));(refine Bh.take 14 (i:=7) (v:=?_) rfl qC (fun _ _ _ h=>h) (Or.inl ⟨by rfl,?_⟩) qH ?_;rotate_left;(focus (intro w' hSw;(try dsimp only at hSw);go_simp;(try with_reducible rfl)));(try simp only [Act.put,Au,Av,Aw]));(refine Bh.one (i:=3) rfl qC (fun K hK=>?_);go_simp;(go_at_call 156;(with_reducible refine (U4 (HX.out.1.keep (b1.trans (kd.mono hs1))) HO.out.1).mono ?_);rintro e w5 ⟨p0,p1,p2,rfl,hq,hb5,hcp⟩;obtain ⟨gx,bx,mx,ex,bY,mY,eY,rfl,rfl,rfl⟩:=hq.form;have HQ:=Ae (Ay hq (hcp _ _ _ rfl));clear hq hcp;have hs5:=hb5.size;rw [Ak] at hs5;replace hb5:Below w1.heap.size w1 w5:=kd.trans (by rw [Ak] at hb5;exact hb5);replace d0:=Bb hb5 d0;replace d1:=Bb hb5 d1;replace d2:=Bb hb5 d2;replace g0:=Bb hb5 g0;replace g1:=Bb hb5 g1;replace g2:=Bb hb5 g2);(try go_wp2_with fail);refine hK.out _ _ (fun _=>qK) ?_;clear hK K;(try simp only [Act.put,Au,Av,Aw]));have hH5:=Ay d0 (Ay d1 (Ay d2 (Ay g0 (Ay g1 g2))));refine Bh.take 14 (i:=4) (v:=.slice bY mY eY) rfl qC (fun _ _ _ h=>h) (Or.inl ⟨by rfl,?_⟩) qH ?_
 ·intro w' hSw;go_simp;simp [Instr.field,run_underlying Tryz.underlying60,Result.andThen,asAgg,part,go_sem]
 (try simp only [Act.put,Au,Av,Aw]);clear hH5;have b5:=b1.trans (hb5.mono hs1);(refine Bh.one (i:=8) rfl qC (fun K hK=>?_);go_simp;(go_at_call 156;(with_reducible refine (U4 (HX.out.2.keep b5) HO.out.2).mono ?_);rintro e w6 ⟨p0,p1,p2,rfl,hq,hb6,_⟩;obtain ⟨tx,ax,nx,cx,aY,nY,cY,rfl,rfl,rfl⟩:=hq.form;have HY:=Ae hq;clear hq;have hs6:=hb6.size;replace d0:=Bb hb6 d0;replace d1:=Bb hb6 d1;replace d2:=Bb hb6 d2;replace g0:=Bb hb6 g0;replace g1:=Bb hb6 g1;replace g2:=Bb hb6 g2);(try go_wp2_with fail);refine hK.out _ _ (fun _=>qK) ?_;clear hK K;(try simp only [Act.put,Au,Av,Aw]));have b6:=b5.trans (hb6.mono b5.size);(refine Bh.one (i:=9) rfl qC (fun K hK=>?_);go_simp;skip;(try go_wp2_with fail);refine hK.out _ _ (fun _=>qK) ?_;clear hK K;(try simp only [Act.put,Au,Av,Aw]));have hq5:=HQ.out.1;rw [Bt] at hq5;obtain ⟨eg,-,a9,c9,e9,k9,k9',k9'',hr9⟩:=hq5;cases eg
 cases e9
 obtain rfl:eY=xs.length:=HQ.out.2;obtain ⟨W,hW⟩:∃W,W=w6.alloc (.cells #[.bool tx,.slice ax nx cx,.slice aY nY cY] 60):=⟨_,rfl⟩;have k6:Below w6.heap.size w6 W:=by rw [hW];exact Below.alloc (Ac _ _) (Ad _) _
 have k56:Below w5.heap.size w5 W:=hb6.trans (k6.mono hb6.size);have b7:=b6.trans (k6.mono b6.size);have hnw:∀j u,[Value.bool tx,.slice ax nx cx,.slice aY nY cY][j]? = some u→W.cell? ((⟨w6.heap.size,0,none⟩:Addr).add j)=some u:=fun j u h=>by rw [hW];have:=G5 w6 _ 60 j u h;simpa using this
 have hadd:∀(g q j:Nat),(⟨g,q,none⟩:Addr).add j=⟨g,q+j,none⟩:=fun g q j=>by unfold Addr.add;split<;>simp_all
 obtain ⟨olds,hf,hro⟩:∃olds:List Value,((bY=none∧xs.length=0∧olds=[])∨∃b0,bY=some b0∧olds.length=xs.length*3∧∀j u,olds[j]? = some u→W.cell? (Addr.add b0 j)=some u)∧∀(i:Nat) (x:VT),xs[i]? = some x→∃u0 u1 u2,olds[i*3]? = some u0∧olds[i*3+1]? = some u1∧olds[i*3+2]? = some u2∧Bt w5 w1.drew.heap.size (some w5.heap.size) u0 u1 u2 x:=by
  rcases hr9 with rfl|⟨gb,gp,rfl,_,hr⟩
  ·refine ⟨[],?_,fun i x h=>by simp at h⟩
   cases bY with
   | none=>exact .inl ⟨rfl,rfl,rfl⟩
   | some b0=>exact .inr ⟨b0,rfl,rfl,fun j u h=>by simp at h⟩
  ·obtain ⟨ys,e1,e2,e3⟩:=hr.olds;exact ⟨ys,.inr ⟨_,rfl,e1,fun j u h=>by rw [hadd];exact Bb k56 (e2 j u h)⟩,e3⟩
 have hol:olds.length=xs.length*3:=by
  rcases hf with ⟨_,h1,rfl⟩|⟨_,_,h1,_⟩
  ·simp [h1]
  ·exact h1
 have HRO:=Ae hro;clear hr9 hro;obtain ⟨i0,hi,hz0,hz1,hz2⟩:=info_parts Vd;(refine Bh.one (i:=10) rfl qC (fun K hK=>?_);rw [←hW];refine Og qP _ _ _ qP _ i0 _ 3 56 Tryz.underlying58 hi hz0 hz1 hz2 rfl qJ bY xs.length olds qP hf ⟨w6.heap.size,0,none⟩ 1 1 [.bool tx,.slice ax nx cx,.slice aY nY cY] qP qP hnw (by simp [Value.oneCell']) qJ qO qA ?_;intro g cap w8 hown8 hgrow8 hg8 hl8;have k8:Below W.heap.size W w8:=⟨hgrow8.os,hgrow8.tape,hgrow8.output,hgrow8.size,fun k hk=>hgrow8.block k hk qG⟩;replace d0:=Bb k8 (Bb k6 d0);replace d1:=Bb k8 (Bb k6 d1);replace d2:=Bb k8 (Bb k6 d2);replace g0:=Bb k8 (Bb k6 g0);replace g1:=Bb k8 (Bb k6 g1);replace g2:=Bb k8 (Bb k6 g2);refine hK.out _ _ (fun _=>qK) ?_;clear hK K;(try simp only [Act.put,Au,Av,Aw]));have hsd:w1.drew.heap.size=w1.heap.size:=Ak _;have hcg:=fun j u h=>World.ownsRow.cells hown8 (g:=g) rfl j u h
 have HV8:Bt w8 w1.heap.size (some w8.heap.size) (.bool true) (.slice none 0 0) (.slice (some ⟨g,0,none⟩) (xs.length+1) cap) (.node true [] (xs++[y])):=by
  have hcap:xs.length+1≤cap∧cap≤maxLen:=by
   rcases hown8.2 with ⟨e,_⟩|⟨g',cap',cur,e,_,_,h,h',_⟩
   ·cases e
   ·cases e;exact ⟨h,h'⟩
  have hz1:=k56.size;have hz2:=k6.size;have hz3:=b5.size;rw [Bt];refine ⟨rfl,⟨none,0,0,rfl,Bc.nil _ _,fun _ _=>Bk.nil _ _⟩,some ⟨g,0,none⟩,cap,by simp,by simp;exact hcap.1,by have:=hcap.2;unfold maxLen at this;omega,fun h=>(by cases h),.inr ⟨g,0,rfl,fun g' e=>⟨by have:=hb5.size;omega,by cases e;omega⟩,Cd.of fun i x hx=>?_⟩⟩;rw [Nat.zero_add];by_cases hlt:i<xs.length
  ·rw [Az hlt] at hx;obtain ⟨u0,u1,u2,k0,k1,k2,k3⟩:=HRO.out i x hx;have c0:=hcg (i*3) u0 (by rw [Az qA];exact k0);have c1:=hcg (i*3+1) u1 (by rw [Az qA];exact k1);have c2:=hcg (i*3+2) u2 (by rw [Az qA];exact k2);rw [hadd,Nat.zero_add] at c0 c1 c2;exact ⟨u0,u1,u2,c0,c1,c2,(((k3.keep k56).keep k8).other (.inl (Ad _))).down qA⟩
  ·have:i=xs.length:=by have:=(List.getElem?_eq_some_iff.1 hx).1;simp at this;omega
   subst this;rw [A4 (Ad _)] at hx;simp at hx;subst hx;have c0:=hcg (xs.length*3) (.bool tx) (by rw [A4 qA];simp [hol]);have c1:=hcg (xs.length*3+1) (.slice ax nx cx) (by rw [A4 qA];simp [hol]);have c2:=hcg (xs.length*3+2) (.slice aY nY cY) (by rw [A4 qA];simp [hol]);rw [hadd,Nat.zero_add] at c0 c1 c2;exact ⟨_,_,_,c0,c1,c2,(((HY.out.keep k6).keep k8).other (.inl (Ad _))).down (by have:=hb5.size;omega)⟩
 have HV:=Ae HV8;clear hcg HV8;have b8:=b7.trans (k8.mono b7.size);have R8:=(((R1.keep hb5).keep hb6).keep k6).keep k8;(refine Bh.one (i:=11) rfl qC (fun K hK=>?_);go_simp;(go_at_call 158;(with_reducible refine (jQ HV.out HOK.out).mono ?_);rintro e w9 ⟨rfl,hb9⟩;replace d0:=Bb hb9 d0;replace d1:=Bb hb9 d1;replace d2:=Bb hb9 d2;replace g0:=Bb hb9 g0;replace g1:=Bb hb9 g1;replace g2:=Bb hb9 g2);(try go_wp2_with fail);refine hK.out _ _ (fun _=>qK) ?_;clear hK K;(try simp only [Act.put,Au,Av,Aw]));have R9:=R8.keep hb9;have r0:=R9.cell 0 _ rfl;have r1:=R9.cell 1 _ rfl;have r2:=R9.cell 2 _ rfl;have f0:=R9.frozen 0;have f1:=R9.frozen 1;have f2:=R9.frozen 2;have rl:=R9.lt;have hH9:=Ay d0 (Ay d1 (Ay d2 (Ay g0 (Ay g1 g2))));(refine Bh.take 14 (i:=12) (v:=?_) rfl qC (fun _ _ _ h=>h) (Or.inl ⟨by rfl,?_⟩) qH ?_;rotate_left;(focus (intro w' hSw;(try dsimp only at hSw);go_simp;(try with_reducible rfl)));(try simp only [Act.put,Au,Av,Aw]));(refine Bh.take 14 (i:=13) (v:=?_) rfl qC (fun _ _ _ h=>h) (Or.inl ⟨by rfl,?_⟩) qH ?_;rotate_left;(focus (intro w' hSw;(try dsimp only at hSw);go_simp;(try with_reducible rfl)));(try simp only [Act.put,Au,Av,Aw]));clear hH9;(refine Bh.one (i:=14) rfl qC (fun K hK=>?_);go_simp;refine hK.out _ _ (fun h=>absurd h qJ) ?_;clear hK K;(try simp only [Act.put,Au,Av,Aw]));(refine Bh.one (i:=15) rfl qC (fun K hK=>?_);go_simp;refine hK.out _ _ (fun h=>absurd h qJ) ?_;clear hK K;(try simp only [Act.put,Au,Av,Aw]));refine Bh.done qC ?_ _;go_wp2_with fail;have b9:=b8.trans (hb9.mono b8.size);have hll:(xs.length:Int)+1=((xs.length+1:Nat):Int):=by omega
 refine bodyPost_ret (v:=.tuple #[.agg #[.bool true,.slice none 0 0,.slice (some ⟨g,0,none⟩) (xs.length+1) cap],.int .i64 0]) (by simp [results,Tryz.results157,go_sem,rl,r0,r1,r2]) rfl ?_;exact ⟨_,_,_,rfl,((Ez (HV.out.keep hb9) R1.lt R9 _ _ _).other (.inl qG)).down b1.size,Cf b9 (Ad _) _ _ _⟩
theorem gG (w:World) (b p:Nat) (xs:List VT) (hl:xs.length≤40) (y:VT) (hok1:VT.Ok 1 (.node true [] xs)) (hok2:VT.Ok 1 y) (hok:VT.Ok 1 (.node true [] (xs++[y]))) (h:Cd w 0 none b p [.node true [] xs,y]) :
  Calls Tryz.prog 31 #[.string ⟨#[97,100,100]⟩,.slice (some ⟨b,p,none⟩) 2 2] w (E9 w (.node true [] (xs++[y])) 0):=by
 have HB:=Ac w.heap.size w;obtain ⟨v0,v1,v2,d0,d1,d2,hv⟩:=h.at (i:=0) rfl;rw [Nat.zero_mul,Nat.add_zero] at d0 d1 d2;have HVR:=Ae h;rw [Bt] at hv;obtain ⟨rfl,⟨a,n,ca,rfl,hp,_⟩,a',c',rfl,_⟩:=hv;clear h;go_enter Tryz.func31,Tryz.ntmps31;go_wp2_with fail;refine Be ?_;intro w1 hw1;have b1:Below w.heap.size w w1:=by rw [hw1];go_grown
 have R1:Blk w1 w.heap.size #[.bool false,.slice none 0 0,.slice none 0 0] 60:=by rw [hw1];exact Bj rfl _ _
 clear hw1;refine (Qg w1).mono ?_;rintro e w2 ⟨rfl,M2,hb2⟩;have b2:=b1.trans (hb2.mono b1.size);have R2:=R1.keep hb2;have q:=cU w2 w1.heap.size 10 (rE w1.heap.size 10) _ _ _ M2.m (jR _);go_wp2_with fail;refine Be ?_;intro w3 hw3;have k3:Below w2.heap.size w2 w3:=by rw [hw3];go_grown
 have C3:Blk w3 w2.heap.size #[.slice (some ⟨w1.heap.size+10,0,none⟩) 2 2,.func (.func 157) #[] #[]] 134:=by rw [hw3];exact Bj rfl _ _
 clear hw3 q;have b3:=b2.trans (k3.mono b2.size);refine (Kt w3 b p 2 [.node true [] xs,y] qG qG qG (HVR.out.keep0 b3) (fun x hx=>by simp only [List.mem_cons,List.not_mem_nil,or_false] at hx;rcases hx with rfl|rfl;exact hok1;exact hok2)).mono ?_;rintro e w4 ⟨rfl,hb4⟩;have b4:=b3.trans (hb4.mono b3.size);have k4:=(M2.keep k3).k10.keep hb4;have C4:=C3.keep hb4;have R4:=(R2.keep k3).keep hb4;have y0:=C4.cell 0 _ rfl;have y1:=C4.cell 1 _ rfl;have yk:=k4.cell 0 _ rfl;have yk2:=k4.cell 1 _ rfl
 (replace d0:=Bb b4 d0;replace d1:=Bb b4 d1;replace d2:=Bb b4 d2)
 go_wp2_with fail;refine wp_loop_rounds 3 ?_;rw [rounds_succ];go_wp2_with fail;rw [rounds_succ];go_wp2_with fail;rw [rounds_succ];go_wp2_with fail;refine (fV w4 b p xs hl y hok (HVR.out.keep0 b4)).mono ?_;exact qAo
theorem gE (w:World) (b p c:Nat) (hc:1≤c) (xs:List VT) (hx:xs.length≤40) (h:Cd w 0 none b p [.node true [] xs]) :
  Calls Tryz.prog 154 #[.slice (some ⟨b,p,none⟩) 1 c,.int .i64 0] w (E9 w (Hk xs.length) 0):=by
 have HB:=Ac w.heap.size w;obtain ⟨v0,v1,v2,d0,d1,d2,hv⟩:=h.at (i:=0) rfl;rw [Nat.zero_mul,Nat.add_zero] at d0 d1 d2;rw [Bt] at hv;obtain ⟨rfl,⟨a,n,ca,rfl,hp,_⟩,a',c',rfl,_⟩:=hv;have hbl:=Aa _ _ d0;clear h;go_enter Tryz.func154,Tryz.ntmps154;go_wp2_with fail;refine Be ?_;intro w1 hw1;have b1:Below w.heap.size w w1:=by rw [hw1];go_grown
 have R1:Blk w1 w.heap.size #[.bool false,.slice none 0 0,.slice none 0 0] 60:=by rw [hw1];exact Bj rfl _ _
 clear hw1;refine (Lj w1 xs.length hx).mono ?_;rintro e w3 ⟨u0,u1,u2,rfl,hv,hb3⟩;obtain ⟨f,ax,nx,cx,ay,ny,cy,rfl,rfl,rfl⟩:=hv.form;have b3:=b1.trans (hb3.mono b1.size);have R3:=R1.keep hb3;have r0:=R3.cell 0 _ rfl;have r1:=R3.cell 1 _ rfl;have r2:=R3.cell 2 _ rfl;have f0:=R3.frozen 0;have f1:=R3.frozen 1;have f2:=R3.frozen 2;have rl:=R3.lt;have rl2:=R1.lt;have HV:=Ae hv;clear hv;go_wp2_with fail;refine bodyPost_ret (v:=.tuple #[.agg #[.bool f,.slice ax nx cx,.slice ay ny cy],.int .i64 0]) (by simp [results,Tryz.results154,go_sem,rl,r0,r1,r2]) rfl ?_;exact qBz
theorem eA (w:World) (b p c:Nat) (hc:1≤c) (xs:List VT) (hx:xs.length≤40) (hok:VT.Ok 1 (.node true [] xs)) (h:Cd w 0 none b p [.node true [] xs]) :
  Calls Tryz.prog 31 #[.string ⟨#[108,101,110]⟩,.slice (some ⟨b,p,none⟩) 1 c] w (E9 w (Hk xs.length) 0):=by
 have HB:=Ac w.heap.size w;obtain ⟨v0,v1,v2,d0,d1,d2,hv⟩:=h.at (i:=0) rfl;rw [Nat.zero_mul,Nat.add_zero] at d0 d1 d2;have HVR:=Ae h;rw [Bt] at hv;obtain ⟨rfl,⟨a,n,ca,rfl,hp,_⟩,a',c',rfl,_⟩:=hv;clear h;go_enter Tryz.func31,Tryz.ntmps31;go_wp2_with fail;refine Be ?_;intro w1 hw1;have b1:Below w.heap.size w w1:=by rw [hw1];go_grown
 have R1:Blk w1 w.heap.size #[.bool false,.slice none 0 0,.slice none 0 0] 60:=by rw [hw1];exact Bj rfl _ _
 clear hw1;refine (Qg w1).mono ?_;rintro e w2 ⟨rfl,M2,hb2⟩;have b2:=b1.trans (hb2.mono b1.size);have R2:=R1.keep hb2;have q:=cU w2 w1.heap.size 10 (rE w1.heap.size 10) _ _ _ M2.m (iN _);go_wp2_with fail;refine Be ?_;intro w3 hw3;have k3:Below w2.heap.size w2 w3:=by rw [hw3];go_grown
 have C3:Blk w3 w2.heap.size #[.slice (some ⟨w1.heap.size+8,0,none⟩) 1 1,.func (.func 154) #[] #[]] 134:=by rw [hw3];exact Bj rfl _ _
 clear hw3 q;have b3:=b2.trans (k3.mono b2.size);refine (Kt w3 b p c [.node true [] xs] qG (by simpa using hc) qG (HVR.out.keep0 b3) (fun x hx=>by rw [Ao.1 hx];exact hok)).mono ?_;rintro e w4 ⟨rfl,hb4⟩;have b4:=b3.trans (hb4.mono b3.size);have k4:=(M2.keep k3).k8.keep hb4;have C4:=C3.keep hb4;have R4:=(R2.keep k3).keep hb4;have y0:=C4.cell 0 _ rfl;have y1:=C4.cell 1 _ rfl;have yk:=k4.cell 0 _ rfl
 (replace d0:=Bb b4 d0;replace d1:=Bb b4 d1;replace d2:=Bb b4 d2)
 go_wp2_with fail;refine wp_loop_rounds 2 ?_;rw [rounds_succ];go_wp2_with fail;rw [rounds_succ];go_wp2_with fail;refine (gE w4 b p c hc xs hx (HVR.out.keep0 b4)).mono ?_;exact qAo
theorem cD (w:World) (B:Nat) (o:Option Nat) (v0 v1 v2:Value) (f:Bool) (l:List PT) (xs:List VT) (h:Bt w B o v0 v1 v2 (.node f l xs)) (hok:VT.Ok 1 (.node f l xs)) (r:Bool) (hr:decide (0<l.length+xs.length)=r) :
  Calls Tryz.prog 32 #[.agg #[v0,v1,v2]] w (fun e w'=>e=.returned (.bool r)∧Below w.heap.size w w'):=by
 have HB:=Ac w.heap.size w;have hx:=h;rw [Bt] at hx;obtain ⟨rfl,⟨a,n,ca,rfl,hp,_⟩,a',c',rfl,_⟩:=hx;obtain ⟨m,hm⟩:∃m,m=xs.length:=⟨_,rfl⟩;have hn:=hp.len;have hmm:l.length≤2000∧xs.length≤2000:=by
  have:=hok;rw [VT.Ok] at this;rcases this with ⟨_,h1,h2,_⟩|⟨_,h1,h2,_⟩
  ·subst h1;exact ⟨h2,by simp⟩
  ·subst h1;exact ⟨by simp,h2⟩
 rw [hn,←hm] at hmm;rw [hn,←hm] at hr;rw [←hm];have HV:=Ae (Ay (show Bt w B o (.bool f) (.slice a n ca) (.slice a' m c') (.node f l xs) from by rw [hm];exact h) hok);clear h hok hp hm hn;go_enter Tryz.func32,Tryz.ntmps32;go_wp2_with fail
 ·refine Be ?_;intro w1 hw1;have b1:Below w.heap.size w w1:=by rw [hw1];go_grown
  clear hw1;refine (Ei (HV.out.1.keep b1) HV.out.2).mono ?_;rintro e w2 ⟨rfl,hb2⟩;go_wp2_with fail;refine bodyPost_ret (v:=.bool true) (by simp [results,Tryz.results32,go_sem]) rfl ?_;exact ⟨by rw [←hr,decide_eq_true qA],b1.trans (hb2.mono b1.size)⟩
 ·refine bodyPost_ret (v:=.bool false) (by simp [results,Tryz.results32,go_sem]) rfl ?_;exact ⟨by rw [←hr,decide_eq_false qA],by go_grown⟩
def I2 (w:World) (R:Nat) (x:Option (List PT×Bool)) (e:Ending) (w':World):Prop :=
 w.grownBy w' (some R)∧match x with|none=>e=.panicked Jt|some (l,m)=>∃a n c,e=.returned (.slice a n c)∧Bc w' w.heap.size a n c l∧Bk w' w.heap.size a n c∧Ck w' R [] m
theorem I2.no {w w':World} {R:Nat} (h:w.grownBy w' (some R)):I2 w R none (.panicked Jt) w':=⟨h,rfl⟩
theorem gV (wo:World) (R:Nat) (L:List UInt8) (h:Ck wo R L false) (hL:L.length<65537) (hV:Hu wo) (hR:7<R) :
  Calls Tryz.prog 160 #[.pointer (some ⟨R,0,none⟩)] wo (I2 wo R (Hc L)):=by
 have hRlt:=h.lt;have hne7:some 7≠some R:=by simp;omega
 have hsk:=E7 L;go_enter Tryz.func160,Tryz.ntmps160;go_wp2_with (first|(go_at_call 219;refine (Pe _ R L false h qA).mono ?_;rintro e w1 ⟨rfl,hr1,hg1⟩));refine (Dh w1 R (skp L) false 45 hr1 qA qA qA).mono ?_;rintro e w2 ⟨rfl,hr2,hg2⟩;obtain ⟨L1,hL1⟩:∃L1,L1=(if Co (skp L) 45 then (skp L).tail else skp L):=⟨_,rfl⟩;have hl1:L1.length≤L.length:=by
  rw [hL1];split
  ·simp;omega
  ·exact hsk
 obtain ⟨ng,hng⟩:∃ng,ng=Co (skp L) 45:=⟨_,rfl⟩;have hTR:Hid (Hc L=match Fc L1 false ng with|none=>none|some (l,r,m)=>Gg l r m):=Ae (by rw [hL1,hng];rfl);rw [←hL1] at hr2;rw [←hng];clear hL1 hng hr1;have hg12:=hg1.trans hg2;have hV2:Hu w2:=hV.grown hg12 hne7;clear hg1 hg2
 cases hx:Fc L1 false ng with
 | none =>
  go_wp2_with fail;refine (Pc w2 R L1 false ng hr2 qA hV2 hR).mono ?_;rintro e w3 ⟨hg3,hp3⟩;rw [hx] at hp3;subst hp3;have hz:Hc L=none:=by rw [hTR.out,hx]
  refine ⟨rfl,?_⟩;rw [hz];exact I2.no (hg12.trans hg3)
 | some x =>
  obtain ⟨l,r,m⟩:=x;go_wp2_with (first|(go_at_call 220;refine (Pc w2 R L1 false ng hr2 qA hV2 hR).mono ?_;rintro e w3 ⟨hg3,hp3⟩;rw [hx] at hp3;obtain ⟨a1,n1,c1,rfl,hP3,hO3,hr3⟩:=hp3));obtain ⟨g1,g2,g3⟩:=Kq hx;have g4:=Jb hx;have hX0:=Ae (show Hc L=Gg l r m by rw [hTR.out,hx]);have hP0:=Ae (Ay (hP3.mono hg12.size) (hO3.mono hg12.size));have hr0:=Ae hr3;have hg0:=Ae (hg12.trans hg3);have hQ0:=Ae (show PW l∧Dd (1+(L1.length-r.length)) l∧(1+(L1.length-r.length))+3*r.length≤300000∧l.length+r.length≤100000 from ⟨g1,g2,by omega,by omega⟩);clear hP3 hr3 hg3 hg12 hTR hx hr2 hV2 g1 g2 g3;go_loopw [2] (fun v2 wr=>∃(a:Option Addr) (n c:Nat) (p:List PT) (L2:List UInt8) (m:Bool) (K:Nat),v2=.slice a n c∧Hid (Hc L=Gg p L2 m)∧Hid (Bc wr wo.heap.size a n c p∧Bk wr wo.heap.size a n c)∧Hid (PW p∧Dd K p∧K+3*L2.length≤300000∧p.length+L2.length≤100000)∧Hid (Ck wr R L2 m)∧Hid (wo.grownBy wr (some R))) (fun _ wr=>Sh wr R)
  case atStart=>exact ⟨a1,n1,c1,l,r,m,_,rfl,hX0,hP0,hQ0,hr0,hg0⟩
  case round =>
   clear hX0 hP0 hQ0 hr0 hg0;obtain ⟨a,n,c,p,L2,m,K,rfl,hX,hP,hQ,hr,hg⟩:=hrel;have hVr:Hu wr:=hV.grown hg.out hne7;have t0:=hr.out.c0
   cases L2 with
   | nil =>
    go_wp2_with fail;have hz:Hc L=some (p,m):=by rw [hX.out,Gg]
    rw [hz];go_ret;exact ⟨hg.out,a,n,c,rfl,hP.out.1,hP.out.2,hr.out⟩
   | cons b r2 =>
    have hlc:(b::r2).length≤100000:=by have:=hQ.out;omega
    have hl2:r2.length<100000:=by have:=hlc;simp only [List.length_cons] at this;omega
    have hm0:=Ae (El hr.out);by_cases h45:b=45
    ·subst h45;have hX1:Hid (Hc L=match Fc r2 m true with|none=>none|some (l',r',m')=>Gg (Cr p l') r' m'):=Ae (by rw [hX.out,Gg];simp;split<;>simp_all);clear hX
     cases hy:Fc r2 m true with
     | none =>
      have hz:Hc L=none:=by rw [hX1.out,hy]
      go_wp2_with fail;refine (Dh wr R (45::r2) m 45 hr.out qA qA qA).mono ?_;rintro e w4 ⟨rfl,hr4,hg4⟩;rw [show Co (45::r2) 45=true by simp [Co]] at hr4 ⊢;simp only [if_true,List.tail_cons] at hr4;have hg45:=hg.out.trans hg4;have hr5:=hr4;go_wp2_with (first|(go_at_call 222;refine (Dm _).mono ?_;rintro e w6 ⟨rfl,rfl⟩)|(go_at_call 220;refine (Pc _ R r2 m true hr5 qA (hV.grown hg45 hne7) hR).mono ?_;rintro e w7 ⟨hg7,hp7⟩;rw [hy] at hp7;subst hp7));refine ⟨rfl,?_⟩;rw [hz];exact I2.no (hg45.trans hg7)
     | some x =>
      obtain ⟨l',r',m'⟩:=x;have hX2:=Ae (show Hc L=Gg (Cr p l') r' m' by rw [hX1.out,hy]);obtain ⟨g1,g2,g3⟩:=Kq hy;have g4:=Jb hy;obtain ⟨q1,q2,q3,q4⟩:=hQ.out;have q5:=Pi p l';simp only [List.length_cons] at q3 q4;have hQ2:=Ae (show PW (Cr p l')∧Dd (K+(1+(r2.length-r'.length))+1) (Cr p l')∧(K+(1+(r2.length-r'.length))+1)+3*r'.length≤300000∧(Cr p l').length+r'.length≤100000 from ⟨q1.add g1,Dd.add p l' q1.good g1.good q2 g2,by omega,by omega⟩);clear hX1;go_wp2_with fail;refine (Dh wr R (45::r2) m 45 hr.out qA qA qA).mono ?_;rintro e w4 ⟨rfl,hr4,hg4⟩;rw [show Co (45::r2) 45=true by simp [Co]] at hr4 ⊢;simp only [if_true,List.tail_cons] at hr4;have hg45:=hg.out.trans hg4;have hr5:=hr4;go_wp2_with (first|(go_at_call 222;refine (Dm _).mono ?_;rintro e w6 ⟨rfl,rfl⟩)|(go_at_call 220;refine (Pc _ R r2 m true hr5 qA (hV.grown hg45 hne7) hR).mono ?_;rintro e w7 ⟨hg7,hp7⟩;rw [hy] at hp7;obtain ⟨a7,n7,c7,rfl,hP7,_,hr7⟩:=hp7;have hP8:=hP.out.1.butR (hg4.trans hg7) (fun k hk=>by cases hk;exact hRlt);have e7:=hP7.len;have e8:=hP8.len)|(go_at_call 45;refine (Iu _ _ a n c p hP8 q1 K q2 _ a7 n7 c7 l' hP7 g1 (1+(r2.length-r'.length)) g2 qA qA qA).mono ?_;rintro e w9 ⟨a9,n9,c9,rfl,hP9,hO9,hb9⟩));exact qBk
    ·by_cases h43:b=43
     ·subst h43;have hX1:Hid (Hc L=match Fc r2 m false with|none=>none|some (l',r',m')=>Gg (Cr p l') r' m'):=Ae (by rw [hX.out,Gg];simp;split<;>simp_all);clear hX
      cases hy:Fc r2 m false with
      | none =>
       have hz:Hc L=none:=by rw [hX1.out,hy]
       go_wp2_with fail;refine (Dh wr R (43::r2) m 45 hr.out qA qA qA).mono ?_;rintro e w4 ⟨rfl,hr4,hg4⟩;rw [show Co (43::r2) 45=false by simp [Co]] at hr4 ⊢;simp only [Bool.false_eq_true,if_false] at hr4;go_wp2_with (first|(go_at_call 221;refine (Dh w4 R (43::r2) m 43 hr4 qA qA qA).mono ?_;rintro e w5 ⟨rfl,hr5,hg5⟩;rw [show Co (43::r2) 43=true by simp [Co]] at hr5 ⊢;simp only [if_true,List.tail_cons] at hr5;have hg45:=(hg.out.trans hg4).trans hg5)|(go_at_call 222;refine (Dm _).mono ?_;rintro e w6 ⟨rfl,rfl⟩)|(go_at_call 220;refine (Pc _ R r2 m false hr5 qA (hV.grown hg45 hne7) hR).mono ?_;rintro e w7 ⟨hg7,hp7⟩;rw [hy] at hp7;subst hp7));refine ⟨rfl,?_⟩;rw [hz];exact I2.no (hg45.trans hg7)
      | some x =>
       obtain ⟨l',r',m'⟩:=x;have hX2:=Ae (show Hc L=Gg (Cr p l') r' m' by rw [hX1.out,hy]);obtain ⟨g1,g2,g3⟩:=Kq hy;have g4:=Jb hy;obtain ⟨q1,q2,q3,q4⟩:=hQ.out;have q5:=Pi p l';simp only [List.length_cons] at q3 q4;have hQ2:=Ae (show PW (Cr p l')∧Dd (K+(1+(r2.length-r'.length))+1) (Cr p l')∧(K+(1+(r2.length-r'.length))+1)+3*r'.length≤300000∧(Cr p l').length+r'.length≤100000 from ⟨q1.add g1,Dd.add p l' q1.good g1.good q2 g2,by omega,by omega⟩);clear hX1;go_wp2_with fail;refine (Dh wr R (43::r2) m 45 hr.out qA qA qA).mono ?_;rintro e w4 ⟨rfl,hr4,hg4⟩;rw [show Co (43::r2) 45=false by simp [Co]] at hr4 ⊢;simp only [Bool.false_eq_true,if_false] at hr4;go_wp2_with (first|(go_at_call 221;refine (Dh w4 R (43::r2) m 43 hr4 qA qA qA).mono ?_;rintro e w5 ⟨rfl,hr5,hg5⟩;rw [show Co (43::r2) 43=true by simp [Co]] at hr5 ⊢;simp only [if_true,List.tail_cons] at hr5;have hg45:=(hg.out.trans hg4).trans hg5)|(go_at_call 222;refine (Dm _).mono ?_;rintro e w6 ⟨rfl,rfl⟩)|(go_at_call 220;refine (Pc _ R r2 m false hr5 qA (hV.grown hg45 hne7) hR).mono ?_;rintro e w7 ⟨hg7,hp7⟩;rw [hy] at hp7;obtain ⟨a7,n7,c7,rfl,hP7,_,hr7⟩:=hp7;have hP8:=hP.out.1.butR ((hg4.trans hg5).trans hg7) (fun k hk=>by cases hk;exact hRlt);have e7:=hP7.len;have e8:=hP8.len)|(go_at_call 45;refine (Iu _ _ a n c p hP8 q1 K q2 _ a7 n7 c7 l' hP7 g1 (1+(r2.length-r'.length)) g2 qA qA qA).mono ?_;rintro e w9 ⟨a9,n9,c9,rfl,hP9,hO9,hb9⟩));exact qBk
     ·have h1:Co (b::r2) 45=false:=by simpa [Co] using fun e:(b.toNat:Int)=45=>h45 (UInt8.toNat_inj.1 (by show b.toNat=45;omega))
      have h2:Co (b::r2) 43=false:=by simpa [Co] using fun e:(b.toNat:Int)=43=>h43 (UInt8.toNat_inj.1 (by show b.toNat=43;omega))
      have hz:Hc L=none:=by rw [hX.out,Gg];simp [h45,h43]
      go_wp2_with fail;refine (Dh wr R (b::r2) m 45 hr.out qA qA qA).mono ?_;rintro e w4 ⟨rfl,hr4,hg4⟩;rw [h1] at hr4 ⊢;simp only [Bool.false_eq_true,if_false] at hr4;go_wp2_with (first|(go_at_call 221;refine (Dh w4 R (b::r2) m 43 hr4 qA qA qA).mono ?_;rintro e w5 ⟨rfl,hr5,hg5⟩;rw [h2])|(go_at_call 222;refine (Mt _).mono ?_;rintro e w6 ⟨rfl,rfl⟩));refine ⟨rfl,?_⟩;rw [hz];exact I2.no ((hg.out.trans hg4).trans hg5)
end Go.Proofs.YtnnhcbeiogaknaaGreatDoor
end
