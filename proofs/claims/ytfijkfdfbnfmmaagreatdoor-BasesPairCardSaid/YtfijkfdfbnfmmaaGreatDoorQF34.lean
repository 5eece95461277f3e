/- Package divides: Divide by a row of sums, by OrLex: what is left. -/
import Derived.Test.YtfijkfdfbnfmmaaGreatDoorQF33
set_option linter.unusedSimpArgs false
set_option linter.unusedVariables false
set_option maxRecDepth 100000
set_option maxHeartbeats 4000000
section
namespace Go.Proofs.YtfijkfdfbnfmmaaGreatDoor
open Go.RowKit Proofs.Tryz
variable (wo:World) {a:Act} {os:List (Δ)} {i n k f:Nat} {fz:Nat×Nat} {Ds:Nat→Nat} {v:Value} {w0 w:World} {q r fin:Δ} {ks:Ξ}
structure Xi (w0 w:World) (L o X:Nat) (ls:List (PT×Δ)) (Ds:Nat→Nat) (os:List (Δ)):Prop where
 len:os.length=ls.length
 el:∀(i:Nat) (x:PT) (l:Δ),ls[i]? = some (x,l)→∃t u a n c q,Z w0 L (o+i) u∧Vd w w0 (Ds i) t x u (.slice a n c)∧Ds i<X∧os[i]? = some q∧Be w X a n c q∧Sm q
 inj:∀i j,i<j→j<ls.length→Ds i≠Ds j
theorem Xi.keep {w':World} {L o X:Nat} {ls:List (PT×Δ)} (h:Xi w0 w L o X ls Ds os) (hb:xp w w'):Xi w0 w' L o X ls Ds os :=
 ⟨h.len,fun i x l hi=>by
  obtain ⟨t,u,a,n,c,q,h1,h2,h3,h4,h5,h6⟩:=h.el i x l hi;exact ⟨t,u,a,n,c,q,h1,h2.keep hb,h3,h4,h5.keep hb,h6⟩,h.inj⟩
theorem Xi.set {L o X:Nat} {ls:List (PT×Δ)} (h:Xi w0 w L o X ls Ds os) {c:Nat} {a:Γ} (hi:i<ls.length) (hq:Be w X a n c q) (hs:Sm q) :
  Xi w0 (w.setCell (J (Ds i) 9) (.slice a n c)) L o X ls Ds (os.set i q):=by
 have hg:w.grownBy (w.setCell (J (Ds i) 9) (.slice a n c)) (some (Ds i)):=Bm _ (World.grownBy.refl _ _);obtain ⟨⟨x0,l0⟩,e0⟩:∃y,ls[i]? = some y:=⟨_,Ai hi⟩;obtain ⟨t0,u0,a0,n0,c0,q0,k1,k2,k3,k4,k5,k6⟩:=h.el i x0 l0 e0;obtain ⟨cur,kb⟩:=k2.ty;have bj:∀k:Nat,some (Ds i)=some k→k<X:=fun k hk=>by cases hk;exact k3
 refine ⟨by rw [List.length_set];exact h.len,fun j x l hj=>?_,h.inj⟩;obtain ⟨t,u,a1,n1,c1,q1,h1,h2,h3,h4,h5,h6⟩:=h.el j x l hj;have yi:j<ls.length:=(List.getElem?_eq_some_iff.1 hj).1;by_cases BK:j=i
 ·subst BK;have e1:(os.set j q)[j]? = some q:=by rw [List.getElem?_set_self (by rw [h.len];exact yi)]
  refine ⟨t,u,a,n,c,q,h1,⟨h2.at_.set9 _,h2.is,⟨h2.rd.top.ap (Pp h2.rd.top h2.f1 kb qI) hg,h2.rd.low.ap (Pp h2.rd.low h2.f2 kb qI) hg,h2.rd.s0,h2.rd.s1,h2.rd.s2,h2.rd.s3⟩,h2.lo,Jd h2.f1 hg kb qI,Jd h2.f2 hg kb qI,⟨_,kb.set 9 _⟩⟩,h3,e1,hq.butR hg bj,hs⟩
 ·have di:Ds i≠Ds j:=by
   rcases Nat.lt_or_ge i j with h9|h9
   ·exact h.inj i j h9 yi
   ·exact fun e=>h.inj j i qB hi e.symm
  have e1:(os.set i q)[j]? = some q1:=by rw [List.getElem?_set_ne (fun e=>BK e.symm)];exact h4
  exact ⟨t,u,a1,n1,c1,q1,h1,h2.grown hg (fun gb e=>by cases e;exact ⟨di,cur,_,_,kb,qI⟩),h3,e1,h5.butR hg bj,h6⟩
theorem We {k:Nat}:∀(ls:List (PT×Δ)) (i s:Nat) (y:PT) (d:Δ),ls[i]? = some (y,d)→inM k y.1=true→(∀(j:Nat) (z:PT×Δ),j<i→ls[j]? = some z→inM k z.1.1=false)→Oc k ls s=some (s+i,y,d)
 | [],i,s,y,d,h,_,_=>by simp at h
 | (h0,d0)::ls,0,s,y,d,h,j8,_=>by
  simp only [List.getElem?_cons_zero,Option.some.injEq,Prod.mk.injEq] at h;obtain ⟨rfl,rfl⟩:=h;unfold Oc;rw [if_pos j8];rfl
 | (h0,d0)::ls,i+1,s,y,d,h,j8,hn=>by
  have h0n:=hn 0 (h0,d0) qB rfl;have:=We ls i (s+1) y d (by simpa using h) j8 (fun j z hj hz=>hn (j+1) z qB (by simpa using hz));unfold Oc;simp only at h0n;rw [if_neg (by rw [h0n];simp),this];rw [show s+1+i=s+(i+1) from qB]
theorem Rw {k:Nat}:∀(ls:List (PT×Δ)) (s:Nat),(∀(j:Nat) (z:PT×Δ),j<ls.length→ls[j]? = some z→inM k z.1.1=false)→Oc k ls s=none
 | [],s,_=>rfl
 | (h0,d0)::ls,s,hn=>by
  have h0n:=hn 0 (h0,d0) qH rfl;unfold Oc;simp only at h0n;rw [if_neg (by rw [h0n];simp)];exact Rw ls (s+1) (fun j z hj hz=>hn (j+1) z qL (by simpa using hz))
theorem sE {ls:List (PT×Δ)} {d p:Δ} {u:PT} (h:((ck [u]).bind fun u=>(sZ d u).bind fun f=>(uO (os.getD i []) u).bind fun o'=>(vT p f).bind fun p'=>Ii ls k p' (os.set i o') r)=some fin) :
  Sm [u]∧Cm d [u]=true∧Sm (Jk d [u])∧Sm (Va (os.getD i []) [u])∧Sm (Sd p (Jk d [u]))∧Ii ls k (Sd p (Jk d [u])) (os.set i (Va (os.getD i []) [u])) r=some fin:=by
 obtain ⟨u',h1,h⟩:=Option.bind_eq_some_iff.1 h;obtain ⟨rfl,s1⟩:=Mv h1;obtain ⟨f,h2,h⟩:=Option.bind_eq_some_iff.1 h;obtain ⟨s2,rfl,s3⟩:=eD h2;obtain ⟨o',h3,h⟩:=Option.bind_eq_some_iff.1 h;obtain ⟨rfl,s4⟩:=Mv h3;obtain ⟨p',h4,h⟩:=Option.bind_eq_some_iff.1 h;obtain ⟨rfl,s5⟩:=Mv h4;exact ⟨s1,s2,s3,s4,s5,h⟩
theorem tW {ls:List (PT×Δ)} {p:Δ} {t:PT} (h:((uO r [t]).bind fun r'=>(vT p [t]).bind fun p'=>Ii ls k p' os r')=some fin) :
  Sm (Va r [t])∧Sm (Sd p [t])∧Ii ls k (Sd p [t]) os (Va r [t])=some fin:=by
 obtain ⟨r',h3,h⟩:=Option.bind_eq_some_iff.1 h;obtain ⟨rfl,s4⟩:=Mv h3;obtain ⟨p',h4,h⟩:=Option.bind_eq_some_iff.1 h;obtain ⟨rfl,s5⟩:=Mv h4;exact ⟨s4,s5,h⟩
theorem Sp {B:Nat} {e:TypeId} {s:Nat} {xs:List Value} (h:w.ownsRow B e s v n xs) {g:Nat} {cur:Array Value} {ty:TypeId} (hg:w.heap[g]? = some (.cells cur ty fz)) (di:e≠ty):v.ownBlock=none∨v.ownBlock≠some g:=by
 cases h9:v.ownBlock with
 | none=>exact .inl rfl
 | some k =>
  refine .inr fun e1=>?_
  obtain ⟨cu,e2⟩:=Ik h h9;cases e1;rw [e2] at hg;simp only [Option.some.injEq,Obj.cells.injEq] at hg;exact di hg.2.1
theorem Sh (G i:Nat):(J G 0:Addr).add i=⟨G,i,none⟩:=by unfold Addr.add;split<;>simp_all
def wF (w:World) (r:Δ) (e:Ending) (w':World):Prop:=∃q a n c,e=.returned (.tuple #[q,.slice a n c,M 0])∧Be w' w a n c r∧xp w w'
def Aaq (wo wd wr:World) (B L o X m:Nat) (ls:List (PT×Δ)) (Ds:Nat→Nat) (dv:Value) (fin:Δ) (fu:Nat) (v1 v7:Value):Prop :=
 ∃a n c lp a2 n2 c2 lr os,v1=.slice a n c∧v7=.slice a2 n2 c2∧(Be wo B a n c lp∨Be wr X a n c lp)∧Sm lp∧Be wr X a2 n2 c2 lr∧Sm lr∧Xi wd wr L o X ls Ds os∧Ii ls fu lp os lr=some fin∧(∃xs,wr.ownsRow wd 244 1 dv m xs∧∀i,i<m→xs[i]? = some (.pointer (E (Ds i))))∧xp wo wr∧X≤wr.heap.size
theorem yC (B n c:Nat) (a:Γ) (p:Δ) (L o:Nat) (al:Γ) (cl:Nat) (ls:List (PT×Δ)) (m:Nat) (hm:ls.length=m) (hm4:m≤40) (ij:m≤cl) (py:m=0∨al=some ⟨L,o,none⟩) (j8:DIn wo L o ls) (h:Be wo B a n c p) (hp:Sm p) (f:Nat) (r:Δ) (hr:Ii ls f p (ls.map fun _=>[]) []=some r) :
  Θ 146 #[.int .u8 0,.slice a n c,.slice al m cl] wo (wF wo r):=by
 obtain ⟨i0,sy,dw,ed,en⟩:=info_parts Iq;have HB:=Ac wo wo;have HR:=Ae hr;have HI:=Ae j8;have HM:=Ae hm;clear hr j8 hm;have TO:∀W,Below wo wo W→Θ 88 #[.slice al m cl,.func (.func 199) #[] #[]] W (fun e w'=>e=.returned (.bool false)∧Below W W w'):=fun W hW=>by
  obtain ⟨us,DM⟩:∃us:Nat→Value,∀i,i<m→us i=(W.cell? (J L (o+i))).getD (.bool false):=⟨fun i=>(W.cell? (J L (o+i))).getD (.bool false),fun i _=>rfl⟩;have key:∀i,i<m→∃a n c l,Z W L (o+i) (.slice a n c)∧us i=.slice a n c∧Be W 0 a n c l∧Sm l:=fun i hi=>by
   obtain ⟨⟨x,l⟩,hx⟩:∃y,ls[i]? = some y:=⟨_,Ai (by rw [HM.out];exact hi)⟩;obtain ⟨a,n,c,h1,h2,h3⟩:=HI.out.el i x l hx;have h4:=Bb hW h1;exact ⟨a,n,c,_,h4,by rw [DM i hi,h4];rfl,h2.keep hW,h3⟩
  refine (X6 W al m cl ij qB us (py.imp id fun e=>⟨L,o,e,fun i hi=>by obtain ⟨a,n,c,l,h1,h2,_⟩:=key i hi;rw [h1,h2]⟩) 199 #[] (Gn func199 qE rfl) (fun _=>False) (fun i hi V hV=>by
   obtain ⟨a,n,c,l,h1,h2,h3,h4⟩:=key i hi;rw [h2];exact (cD (h3.keep hV) h4).mono fun e w' ⟨he,hb⟩=>⟨false,he,qH,hb⟩)).mono ?_
  rintro e w' ⟨b,rfl,hb,SP⟩;have:b=false:=by
   cases b
   ·rfl
   ·exact absurd (hb.1 rfl) (by rintro ⟨_,_,h⟩;exact h)
  exact ⟨by rw [this],SP⟩
 have HC:=Ae TO;clear TO;go_enter func146,ntmps146;go_wp2_with fail;go_step3;go_wp2_with fail;refine (iP (h.keep qD) hp).mono ?_;rintro e w1 ⟨rfl,br⟩;have ir:=zP wo br;clear br HB;go_wp2_with fail;refine (HC.out _ ir).mono ?_;rintro e w2 ⟨rfl,bp⟩;have fg:=xo ir bp;clear bp ir;go_wp2_with fail;have hI2:DIn w2 L o ls:=⟨fun i x l hx=>by obtain ⟨a,n,c,h1,h2,h3⟩:=HI.out.el i x l hx;exact ⟨a,n,c,Bb fg h1,h2.keep fg,h3⟩⟩;refine (Zk w2 L o al cl ls m HM.out hm4 ij py hI2).mono ?_;rintro e w3 ⟨dv,Ds,rfl,je,ea⟩;have ep:=xo fg ea;have ki:=fg.size;obtain ⟨⟨xs,ah,yd⟩,xq⟩:=je;rw [HM.out] at ah yd;obtain ⟨da,dc,rfl⟩:=Fr ah;have fh:Xi w2 w3 L o w3 ls Ds (ls.map fun _=>[]):=⟨by rw [List.length_map],fun i x l hi=>by
  obtain ⟨t,u,h1,h2,h3⟩:=xq i x l hi;exact ⟨t,u,none,0,0,[],h1,h2,h2.at_.lt,by rw [List.getElem?_map,hi];rfl,Be.nil _ _,Sm.nil⟩,fun i j BC hj=>by
  obtain ⟨⟨x,l⟩,hx⟩:∃y,ls[j]? = some y:=⟨_,Ai hj⟩;obtain ⟨t,u,h1,h2,h3⟩:=xq j x l hx;have:=h3 i BC
  omega⟩
 clear hI2 ea;go_wp2_with fail;go_step3;go_wp2_with fail;have hX:wo.heap.size≤w3:=ep.size;generalize hXX:w3.heap.size=X at *;go_loopg [1,6,7,8] f (fun fu v1 v6 v7 v8 wr=>v6=.slice none 0 0∧v8=M 0∧Aaq wo w2 wr B L o X m ls Ds (.slice da m dc) r fu v1 v7)
 case atStart=>exact ⟨rfl,rfl,a,n,c,p,none,0,0,[],_,rfl,rfl,.inl h,hp,Be.nil _ _,Sm.nil,fh,HR.out,⟨xs,ah,yd⟩,ep,qB⟩
 case round =>
  obtain ⟨rfl,rfl,a,n,c,lp,a2,n2,c2,lr,os,rfl,rfl,hP,CD,hRr,XS,fh,AJ,⟨xs,ah,yd⟩,dm,hXr⟩:=hrel;have hn:lp.length=n:=by rcases hP with h9|h9<;>exact h9.len
  cases lp with
  | nil =>
   obtain rfl:n=0:=by simpa using hn.symm
   have aon:lr=r:=by
    have h9:some lr=some r:=by unfold Ii at AJ;exact AJ
    cases h9;rfl
   subst aon;have RD:=Ae fh;have OM:=Ae ah;have RE:=Ae yd;have XD:=Ae hRr;clear hP CD XS AJ hRr fh ah yd HR;go_wp2_with fail;obtain ⟨wp,rfl⟩:∃wp,wp=wr:=⟨_,rfl⟩;go_loopw [6,98] (fun v6 v98 ww=>∃i:Nat,i≤m∧v98=M i∧(∃ys,ww.ownsRow wp 24 1 v6 i ys)∧Below wp wp ww) (fun _ v98 _=>m-(intOf v98).toNat)
   case atStart=>exact ⟨0,qB,rfl,⟨[],World.ownsRow_nil _ _ _ _⟩,Ac _ _⟩
   case round =>
    obtain ⟨i,hi,rfl,⟨ys,hq⟩,QE⟩:=hrel;obtain ⟨ww,rfl⟩:∃ww,ww=wr:=⟨_,rfl⟩;by_cases bj:i<m
    ·obtain ⟨⟨x,l⟩,hx⟩:∃y,ls[i]? = some y:=⟨_,Ai (by rw [HM.out];exact bj)⟩;obtain ⟨t,u,a9,n9,c9,q9,-,k2,-,-,-,-⟩:=RD.out.el i x l hx;obtain ⟨-,-,-,-,-,-,-,-,-,kc,-⟩:=(k2.keep QE).at_;have hrc:∃G,da=some ⟨G,0,none⟩∧Z ww G i (.pointer (E (Ds i))):=by
      rcases OM.out.2 with ⟨e,h0⟩|⟨G,cap,cur,e,_⟩
      ·omega
      ·cases e
       have h9:=World.ownsRow.cells OM.out rfl i _ (RE.out i bj);rw [Sh] at h9;exact ⟨G,rfl,Bb QE h9⟩
     obtain ⟨G,rfl,rc⟩:=hrc;have OC:=Dj hq;have hzw:=QE.size;clear hx k2;go_wp2_with (at_builtin;refine wpList_append_own _ rfl _ _ 59 rfl wp 24 i0 (.slice none 0 0) 1 24 underlying59 sy dw ed en rfl qI _ i ys rfl (Bf hq qD) (J ww 0) 1 1 [.slice a9 n9 c9] rfl rfl (cell_one_new _ _ _) (by simp [Value.oneCell']) qN qB zD ?_;intro v7 w7 ie ak _);have wh:Below wp wp w7:=(QE.alloc hzw _).grown ak qL (fun k hk=>by have:=OC k hk;omega);go_roundw
     case rel=>exact ⟨i+1,qB,by go_num,⟨_,ie⟩,wh⟩
     case measure=>(first|(simp [intOf];omega)|(simp [intOf];done))
    ·obtain rfl:i=m:=qB;go_wp2_with fail;(try rw [Exit.noGoto_ret]);refine bodyPost_ret (v:=.tuple #[u6,.slice a2 n2 c2,M 0]) (by simp [results,results146,go_sem]) rfl ?_;exact ⟨_,_,_,_,rfl,(XD.out.keep QE).mono hX,(xo dm QE)⟩
  | cons x lp =>
   have qv:0<n:=by rw [←hn];simp
   obtain ⟨Bp,hPw⟩:∃Bp,Be wr Bp a n c (x::lp):=by
    rcases hP with h9|h9
    ·exact ⟨_,h9.keep dm⟩
    ·exact ⟨_,h9⟩
   have HP:=Ae hP;have XT:=Ae AJ;have hnf:n≤40:=by have:=CD.len;omega
   have RD:=Ae fh;have OM:=Ae ah;have RE:=Ae yd;have XD:=Ae hRr;clear hP AJ HR fh ah yd hRr;go_wp2_with fail;refine (Xg hPw CD).mono ?_;rintro e w4 ⟨s,rfl,hs,lj,ln,nk,ec⟩;have A4:=Ae (RD.out.keep ec);have R4:=Ae (XD.out.keep ec);have P4:=Ae (hPw.keep ec);have o8:=xo dm ec;have z4:=ec.size;have OW4:=Ae (Bf OM.out ec);have HP4:=Ae (show Be wo B _ _ _ (x::lp)∨Be w4 X _ _ _ (x::lp) from HP.out.imp id fun h=>h.keep ec);clear RD XD hPw dm ec HP OM
   cases hgk:gk with
   | zero=>have h9:=XT.out;rw [hgk] at h9;simp [Ii] at h9
   | succ k =>
   have h9:=XT.out;rw [hgk] at h9;clear XT;unfold Ii at h9;have H9:=Ae h9;have HGK:=Ae hgk;clear hgk h9;have tr:=CD.pw.good x qH;have xz:=CD.few x qH;go_wp2_with fail;refine Bx ?_;intro w5 iy;have b5:Below w4 w4 w5:=by rw [iy];go_grown
   have QX:Dt w5 w4 s:=by rw [iy];exact Dt.new w4 s
   have z5:=b5.size;clear iy;obtain ⟨gg,rfl⟩:∃g,g=gk:=⟨_,rfl⟩;obtain ⟨wp,rfl⟩:∃w':World,w'=wr:=⟨_,rfl⟩;have HX:=Ae (Ax tr (Ax xz (Ax hs (Ax lj (Ax ln nk)))));clear tr xz hs lj ln nk;go_loopg [1,6,7,8,51] m (fun g v1 v6 v7 v8 v51 ww=>v1=.slice a n c∧v6=.slice none 0 0∧v7=.slice a2 n2 c2∧v8=M 0∧∃i:Nat,i+g=m∧v51=M i∧Hid (∀(j:Nat) (z:PT×Δ),j<i→ls[j]? = some z→inM x.1 z.1.1=false)∧Below w5 w5 ww)
   case atStart=>exact ⟨rfl,rfl,rfl,rfl,0,qB,rfl,Ae (fun j z hj=>qB),Ac _ _⟩
   case round =>
    obtain ⟨rfl,rfl,rfl,rfl,i,hi,rfl,DI,FN⟩:=hrel;obtain ⟨ww,rfl⟩:∃ww:World,ww=wr:=⟨_,rfl⟩;obtain ⟨gi,rfl⟩:∃g,g=gk:=⟨_,rfl⟩;have ON:=b5.trans (FN.mono z5);have XU:=QX.keep FN;have XV:=ON.size;have a2j:w4.heap.size<ww:=XU.lt;clear QX;by_cases bj:i<m
    ·obtain ⟨⟨y,d⟩,hx⟩:∃y,ls[i]? = some y:=⟨_,Ai (by rw [HM.out];exact bj)⟩;obtain ⟨t,u,a9,n9,c9,q9,k1,k2,k3,k4,k5,k6⟩:=A4.out.el i y d hx;obtain ⟨ad,nd,cd,e1,e2,e3⟩:=HI.out.el i y d hx;obtain rfl:u=.slice ad nd cd:=by
      have h9:=(Bb fg e1).symm.trans k1
      cases h9;rfl
     have D5:=k2.keep ON;have hrc:∃G,da=some ⟨G,0,none⟩∧Z ww G i (.pointer (E (Ds i))):=by
      rcases OW4.out.2 with ⟨e,h0⟩|⟨G,cap,cur,e,_⟩
      ·omega
      ·cases e
       have h9:=World.ownsRow.cells OW4.out rfl i _ (RE.out i bj);rw [Sh] at h9;exact ⟨G,rfl,Bb ON h9⟩
     obtain ⟨G,rfl,rc⟩:=hrc;have ss:=e3.pw.good y qH;have hqy:=e3.few y qH;have hPd:=Ae (e2.keep o8);have HK:=Ae (Ax hx (Ax k4 (Ax k5 (Ax k6 (Ax k3 e3)))));have DLO:=Ae k2.lo;clear hx k1 k2 k3 k4 k5 k6 e1 e2 e3
     cases j8:inM x.1 y.1 with
     | true =>
      have h9:=H9.out;simp only [We ls i 0 y d HK.out.1 j8 DI.out,Nat.zero_add] at h9;obtain ⟨s1,s2,s3,s4,s5,h9⟩:=sE h9;have hq9:os.getD i []=q9:=by rw [List.getD_eq_getElem?_getD,HK.out.2.1];rfl
      rw [hq9] at s4 h9;have H10:=Ae h9;have S2:=Ae s2;have OO:=Ae j8;clear h9 s2 j8;have TTk:=Ae XU;obtain ⟨x0,x1,x2,x3,x4,x5,x6,x7,-,-,-,-,-,-,-,-⟩:=XU;go_wp2_with fail;have oq:=xo o8 ON;refine (mR ww (Ds i) t _ _ D5.at_ y D5.is D5.rd ss.1 ss.2 s x HX.out.2.2.1 (HX.out.2.2.2.1.keep ON) HX.out.1.1 (by have h8:=HX.out.2.2.2.1.top.len;rw [HX.out.2.2.1.d1] at h8;have:=HX.out.2.1.1;omega) (by have h8:=HX.out.2.2.2.1.low.len;rw [HX.out.2.2.1.d2] at h8;have:=HX.out.2.1.2;omega) (by have h8:=D5.rd.top.len;rw [D5.is.d1] at h8;have:=hqy.1;omega) (by have h8:=D5.rd.low.len;rw [D5.is.d2] at h8;have:=hqy.2;omega) OO.out).mono ?_;rintro e w6 ⟨ua,uc,rfl,hU,ee⟩;clear x0 x1 x2 x3 x4 x5 x6 x7 rc;have D6:=D5.keep ee;have b6:=ON.trans (ee.mono XV);have z6:=ee.size;have D6k:=D6;obtain ⟨-,-,-,-,-,-,-,-,d8,d9,-⟩:=D6.at_;clear D5 ee ON;go_wp2_with fail;refine (Abi (hPd.out.keep b6) HK.out.2.2.2.2.2 hU s1 S2.out).mono ?_;rintro e w7 ⟨fa,fn,fc,rfl,hF,-,iw⟩;have b7:=xo b6 iw;have U7:=hU.keep iw;have D7:=D6k.keep iw;have z7:=iw.size;clear d8 d9 D6k iw b6 hU;have D7k:=D7;obtain ⟨-,-,-,-,-,-,-,-,d8,d9,f9⟩:=D7.at_;go_wp2_with fail;refine (xF (HK.out.2.2.1.keep b7) HK.out.2.2.2.1 U7 s1).mono ?_;rintro e w8 ⟨oa,on,oc,rfl,hO8,-,jt⟩;have b8:=xo b7 jt;have F8:=hF.keep jt;have D8:=D7k.keep jt;have z8:=jt.size;have afa:=hO8.mono (show X≤w7.heap.size from qB);clear d8 d9 f9 D7k b7 hF hO8 D7 D6;have D8k:=D8;obtain ⟨-,-,-,-,-,-,-,-,d8,d9,f9⟩:=D8.at_;go_wp2_with fail;refine Bt ?_;intro w9 yw;have mg:w8.grownBy w9 (some (Ds i)):=by rw [yw];exact Bm _ (World.grownBy.refl _ _)
      have VJ:=xo o8 b8;have A9:Xi w2 w9 L o X ls Ds (os.set i (Va q9 [(x.1-y.1,Kc x.2 y.2)])):=by rw [yw];exact (A4.out.keep b8).set (by rw [HM.out];exact bj) afa s4
      have WX:Below wo wo w9:=by rw [yw];exact VJ.setCell (p:=⟨Ds i,9,none⟩) (by show wo.heap.size≤Ds i;have:=DLO.out;omega) _
      have lt1:∀k:Nat,some (Ds i)=some k→k<X:=fun k hk=>by cases hk;exact HK.out.2.2.2.2.1
      have F9:=(F8.mono (show X≤w6.heap.size from qB)).butR mg lt1;have R9:=(R4.out.keep b8).butR mg lt1;have OW8:=Bf OW4.out b8;obtain ⟨cuD,etD⟩:=D8k.ty;have OW9:=OW8.kept mg (Sp OW8 etD qI);have P9:∃B,Be w9 B a n c (x::lp):=by
       rcases HP4.out with h8|h8
       ·exact ⟨_,h8.keep WX⟩
       ·exact ⟨_,(h8.keep b8).butR mg lt1⟩
      obtain ⟨B9,P9⟩:=P9;have z9:=mg.size;clear yw mg d8 d9 f9 D8k D8 b8 VJ afa F8 OW8 etD;refine (wZ P9 CD F9 s3).mono ?_;rintro e AE ⟨pa,pn,pc,rfl,ML,-,kk⟩;have XW:=xo WX kk;have P10:=ML.mono (show X≤w9.heap.size from qB);have z10:=kk.size;have A10:=A9.keep kk;have R10:=R9.keep kk;have XX:=Bf OW9 kk;clear A9 R9 OW9 WX kk P9 F9 ML;go_wp2_with fail;go_roundg k
      case rel=>exact ⟨rfl,rfl,pa,pn,pc,_,a2,n2,c2,lr,_,rfl,rfl,.inr P10,s5,R10,XS,A10,H10.out,⟨xs,XX,RE.out⟩,XW,qB⟩
      case measure=>have:=HGK.out;omega
     | false =>
      have OO:=Ae j8;clear j8;have TTk:=Ae XU;obtain ⟨x0,x1,x2,x3,x4,x5,x6,x7,-,-,-,-,-,-,-,-⟩:=XU;go_wp2_with fail;refine (sS ww (Ds i) t _ _ D5.at_ y D5.is D5.rd s x HX.out.2.2.1 (HX.out.2.2.2.1.keep ON) OO.out).mono ?_;rintro e w6 ⟨rfl,ee⟩;have iu:=xo FN ee;clear x0 x1 x2 x3 x4 x5 x6 x7 rc D5 ee;go_wp2_with fail;go_roundg (gi-1)
      case rel=>exact ⟨rfl,rfl,rfl,rfl,i+1,qB,by go_num,Ae (fun j z hj hz=>by
       rcases Nat.lt_or_ge j i with h8|h8
       ·exact DI.out j z h8 hz
       ·obtain rfl:j=i:=qB;have h7:=HK.out.1.symm.trans hz;cases h7;exact OO.out),iu⟩
      case measure=>omega
    ·obtain rfl:i=m:=qB;have h9:=H9.out;simp only [Rw ls 0 (fun j z hj hz=>DI.out j z (by rw [←HM.out];exact hj) hz)] at h9;obtain ⟨s4,s5,h9⟩:=tW h9;have H10:=Ae h9;clear h9;have s1:=wO CD;have TTk:=XU;obtain ⟨x0,x1,x2,x3,x4,x5,x6,x7,-,-,-,-,-,-,-,-⟩:=XU;go_wp2_with fail;have afb:=HX.out.2.2.2.1.keep ON;have XY:=Be.one (w:=ww) (B:=0) s HX.out.2.2.1 afb (Ba _) (.inr fun _ _=>Ba _) (.inr fun _ _=>Ba _);refine Bt ?_;intro w7 mb;rw [←mb] at XY;have DJ:Below ww ww w7:=by rw [mb];go_grown
     have b7:=ON.trans (DJ.mono XV);have TT7:=TTk.keep DJ;have z7:=DJ.size;clear mb x0 x1 x2 x3 x4 x5 x6 x7 TTk DJ afb;refine (xF (R4.out.keep b7) XS XY s1).mono ?_;rintro e w8 ⟨ra,rn,rc,rfl,hR8,-,jt⟩;have b8:=xo b7 jt;have TT8:=TT7.keep jt;have z8:=jt.size;have R8:=hR8.mono (show X≤w7.heap.size from qB);clear TT7 jt b7 XY hR8;have aow:=TT8;obtain ⟨x0,x1,x2,x3,x4,x5,x6,x7,-,-,-,-,-,-,-,-⟩:=TT8;go_wp2_with fail;have afc:=HX.out.2.2.2.1.keep b8;have XZ:=Be.one (w:=w8) (B:=0) s HX.out.2.2.1 afc (Ba _) (.inr fun _ _=>Ba _) (.inr fun _ _=>Ba _);refine Bt ?_;intro w9 yw;rw [←yw] at XZ;have DN:Below w8 w8 w9:=by rw [yw];go_grown
     have b9:=xo b8 DN;have R9:=R8.keep DN;have z9:=DN.size;clear yw x0 x1 x2 x3 x4 x5 x6 x7 aow DN b8 afc R8;refine (wZ (P4.out.keep b9) CD XZ s1).mono ?_;rintro e AE ⟨pa,pn,pc,rfl,ML,-,kk⟩;have b10:=xo b9 kk;have R10:=R9.keep kk;have A10:=A4.out.keep b10;have XX:=Bf OW4.out b10;have XW:=xo o8 b10;have P10:=ML.mono (show X≤w9.heap.size from qB);have z10:=kk.size;clear R9 kk b9 XZ ML b10;go_wp2_with fail;go_roundg k
     case rel=>exact ⟨rfl,rfl,pa,pn,pc,_,ra,rn,rc,_,os,rfl,rfl,.inr P10,s5,R10,s4,A10,H10.out,⟨xs,XX,RE.out⟩,XW,qB⟩
     case measure=>have:=HGK.out;omega
theorem W8 (B n c:Nat) (a:Γ) (p:Δ) (L o:Nat) (al:Γ) (cl:Nat) (ls:List (PT×Δ)) (m:Nat) (hm:ls.length=m) (hm4:m≤40) (ij:m≤cl) (py:m=0∨al=some ⟨L,o,none⟩) (j8:DIn wo L o ls) (h:Be wo B a n c p) (hp:Sm p) (f:Nat) (r:Δ) (hr:Ii ls f p (ls.map fun _=>[]) []=some r) :
  Θ 82 #[.int .u8 0,.slice a n c,.slice al m cl] wo (fun e w'=>∃a n c,e=.returned (.tuple #[.slice a n c,M 0])∧Be w' wo a n c r∧xp wo w'):=by
 have HB:=Ac wo wo;have HC:=Ae (yC wo B n c a p L o al cl ls m hm hm4 ij py j8 h hp f r hr);clear hm j8 hr;go_enter func82,ntmps82;go_wp2_with fail;refine HC.out.mono ?_;rintro e w1 ⟨q,a1,n1,c1,rfl,hP,hb⟩;go_wp2_with fail;refine bodyPost_ret (v:=.tuple #[.slice a1 n1 c1,M 0]) (by simp [results,results82,go_sem]) rfl ?_;exact ⟨_,_,_,rfl,hP,hb⟩
section
variable {P:Program} {ops:Array Oper} {Q:Exit→Act→World→Prop} {md:Region.Mode} {C:World→Prop} {s:Nat}
def Tx (md:Region.Mode) (ops:Array Oper):Nat→Ξ→Bool
 | _,[]=>true
 | i,k::ks=>Gv md ops k i&&Tx md ops k ks
theorem V9 {l:Array Bool}:∀(ks:Ξ) (i:Nat),Tx md ops i ks=true→l.getD i true=false→(∀k∈ks,l.getD k true=false)→∀k∈ks,k∉Region.ready md ops l
 | [],_,_,_,_,k,hk=>by cases hk
 | k1::ks,i,hc,h0,fh,k,hk=>by
  rw [Tx,Bool.and_eq_true] at hc;rcases List.mem_cons.1 hk with rfl|hk
  ·exact Ng hc.1 h0
  ·exact V9 ks k1 hc.2 (fh k1 (List.mem_cons_self ..)) (fun x hx=>fh x (List.mem_cons_of_mem _ hx)) k hk
theorem Bd.firstL {oi:Oper} (hi:ops[i]? = some oi) (MN:∀(j:Nat) (o:Oper) cs b,ops[j]? = some o→o.op≠.select cs b)
  (hQ:∀c a w,Q (.panic c) (a.put oi.dst v) w→Q (.panic c) a w) (hch:Tx md ops i ks=true) (hs:s∈ks) (VD:i∉ks) :
  ∀(f:Nat) (l:Array Bool) (a:Act) (w:World),
   (∀j oj,ops[j]? = some oj→j≠i→l.getD j true=false→(∀e∈oj.after,Region.binds md e=true→e.on≠i)→oi.apart ops oj=true) →
   i∈Region.ready md ops l→(∀k∈ks,l.getD k true=false)→YieldsIf P ops C oi v a→C w →
   Bd P md ops Q C s f (l.setIfInBounds i true) (a.put oi.dst v) w→Bd P md ops Q C s (f+1) l a w:=by
 have his:i≠s:=fun e=>VD (e▸hs)
 intro f
 induction f with
 | zero =>
  intro l a w _ hr _ hy hC H;exact qCx
 | succ f ih =>
  intro l a w FU hr hk hy hC H;refine ⟨fun h=>(by rw [h] at hr;cases hr),fun j hj=>?_⟩;rcases Decidable.em (j=i) with rfl|BK
  ·exact hy.wpOp hi hC ⟨fun _=>hC,H⟩
  ·have sy:=(mem_ready.1 hr).1;have MO:∀k∈ks,j≠k:=fun k hk9 h=>V9 ks i hch sy hk k hk9 (h▸hj)
   have hjs:j≠s:=MO s hs;obtain ⟨RF,oj,TP,fh⟩:=mem_ready.1 hj;have YA:∀e∈oj.after,Region.binds md e=true→e.on≠i:=fun e he hb heq=>qDj
   have h2:=wpOp_putIf TP (FU j oj TP BK RF YA) (fun cs b=>MN i oi cs b hi) (fun cs b=>MN j oj cs b TP) hQ hy (H.2 j (ready_mono hj BK));have vn:∀k∈ks,(l.setIfInBounds j true).getD k true=false:=fun k hk9=>by rw [getD_set_ne true (MO k hk9)];exact hk k hk9
   have hsi:((l.setIfInBounds i true).setIfInBounds j true).getD s true=false:=by rw [getD_set_ne true hjs,getD_set_ne true his];exact hk s hs
   have ES:∀k ok,ops[k]? = some ok→k≠i→(l.setIfInBounds j true).getD k true=false →
     (∀e∈ok.after,Region.binds md e=true→e.on≠i)→oi.apart ops ok=true:=fun m om hm hmi hun JW=>qEl
   refine wpOp_mono (fun a' w' h3=>⟨fun _=>h3.2.1 hsi,ih (l.setIfInBounds j true) a' w' ES (ready_mono hr (Ne.symm BK)) vn h3.1 (h3.2.1 hsi) ?_⟩) h2;rw [Array.setIfInBounds_comm _ _ BK];exact h3.2.2
theorem Bd.takeL (ks:Ξ) {oi:Oper} {l:Array Bool} (hi:ops[i]? = some oi)
  (hk:(Region.noSelect ops&&Region.free md ops l i&&(Region.ready md ops l).contains i&&Tx md ops i ks&&ks.contains s&&!(ks.contains i)&&ks.all fun k=>!(l.getD k true))=true)
  (hQ:∀c a w,Q (.panic c) (a.put oi.dst v) w→Q (.panic c) a w) (hy:YieldsIf P ops C oi v a) (hC:C w)
  (h:Bd P md ops Q C s f (l.setIfInBounds i true) (a.put oi.dst v) w):Bd P md ops Q C s (f+1) l a w:=by
 simp only [Bool.and_eq_true,Bool.not_eq_true',List.all_eq_true] at hk;obtain ⟨⟨⟨⟨⟨⟨h1,h2⟩,h3⟩,h4⟩,h5⟩,h6⟩,h7⟩:=hk;exact Bd.firstL hi (Region.noSelect_spec h1) hQ h4 (by simpa using h5) (by simpa using h6) f l a w (Region.free_spec hi h2) (by simpa using h3) h7 hy hC h
theorem Bd.two {j:Nat} {o o':Oper} {l:Array Bool} (ho:ops[i]? = some o) (DT:ops[j]? = some o') (hr:Region.ready md ops l=[i,j])
  (h:∀K':Act→World→Prop,Shut (∀a w,((l.setIfInBounds i true).getD s true=false→C w)→Bd P md ops Q C s f (l.setIfInBounds i true) a w→K' a w)→if Region.wanted o (yielded ops a.tmps)=true then Oper.wp P o a w K' Q else K' (a.put o.dst undef) w)
  (h':∀K':Act→World→Prop,Shut (∀a w,((l.setIfInBounds j true).getD s true=false→C w)→Bd P md ops Q C s f (l.setIfInBounds j true) a w→K' a w)→if Region.wanted o' (yielded ops a.tmps)=true then Oper.wp P o' a w K' Q else K' (a.put o'.dst undef) w) :
  Bd P md ops Q C s (f+1) l a w:=by
 refine ⟨fun h0=>(by rw [hr] at h0;cases h0),?_⟩;rw [hr];intro k hk;rcases List.mem_cons.1 hk with rfl|hk
 ·exact wpOp_step ho (fun K' hK=>h K' (fun a w h1 h2=>hK a w ⟨h1,h2⟩))
 ·rw [Ao] at hk;subst hk;exact wpOp_step DT (fun K' hK=>h' K' (fun a w h1 h2=>hK a w ⟨h1,h2⟩))
end
end Go.Proofs.YtfijkfdfbnfmmaaGreatDoor
end
