/- The document's answer, layer 1: times, Mul. -/
import Derived.Test.YtfijkfdfbnfmmaaGreatDoorQF13
set_option linter.unusedSimpArgs false
set_option linter.unusedVariables false
set_option maxRecDepth 100000
set_option maxHeartbeats 4000000
section
namespace Go.Proofs.YtfijkfdfbnfmmaaGreatDoor
open Go.RowKit Proofs.Tryz
variable (w:World) (a:Γ) (n c:Nat) (d:Ξ) (k:Nat) (a':Γ) (n' c':Nat) (d':Ξ) (B:Nat) {K:Act→World→Prop} {g:Nat} {zf:Prop} {w':World} {l q:Ξ}
def oE (w:World) (m N:Nat) (e:Ending) (w':World):Prop :=
 ∃a l,e=.returned (.slice a m m)∧RdL w' a m m l∧val l=N∧(∀x∈l,x<1000000000)∧Bc w w' a m∧xp w w'
theorem wN (hd:RdL w a n c d) (ik:RdL w a' n' c' d') (bj:∀x∈d,x<1000000000) (rz:∀x∈d',x<1000000000)
  (br:n≤17592186044416) (bp:n'≤17592186044416) :
  Θ 186 #[.slice a n c,.slice a' n' c'] w (oE w (n+n') (val d*val d')):=by
 obtain ⟨i0,hi,dw,ed,en⟩:=info_parts Dl;have AK:=Ae hd.len;have DR:=Ae ik.len;have sr:=Ae bj;have ur:=Ae rz;clear bj rz;go_enter func186,ntmps186;go_wp2_with (refine wpList_make_full _ rfl _ _ 49 rfl w 129 i0 (.int .u32 0) 1 underlying49 hi dw ed .i64 .i64 _ _ (n+n') rfl rfl rfl qZ (by rw [en];omega) qN (Ad _) ?_;intro w3 dh er);have ep:xp w w3:=(Ac _ _).grown er (Ad _) (fun k h=>by cases h);rw [Nat.mul_one,show Value.cells (.int .u32 0)=#[.int .u32 0] from rfl,toList_madeCells_one] at dh;clear er;go_loopw [6] (fun v6 wr=>∃(i:Nat) (l:Ξ),i≤n∧v6=M i∧Hid (Hd d d' i 0 0 l) ∧
   wr.ownsRow w 129 1 (.slice (E w) (n+n') (n+n')) (n+n') (Cg l)∧xp w wr) (fun v6 _=>n-(intOf v6).toNat)
 case atStart =>
  refine ⟨0,List.replicate (n+n') 0,Ba _,rfl,Ae ?_,?_,ep⟩
  ·have:=Hd.start d d';rw [AK.out,DR.out] at this;exact this
  ·rw [Fo];exact dh
 case round =>
  obtain ⟨i,l,VD,rfl,HM,ah,jr⟩:=hrel;by_cases bj:i<n
  ·obtain ⟨b,o,rfl,c1⟩:=(hd.keep jr).at' bj;obtain ⟨x,hx⟩:∃x:Nat,x=d.getD i 0:=⟨_,rfl⟩;have AI:x<1000000000:=by rw [hx];exact Cx sr.out i
   have HX:=Ae hx;clear hx;go_wp2_with fail;go_loopw [7,8] (fun v7 v8 wr=>∃(k on:Nat) (l:Ξ),k≤n'∧v8=M k∧v7=.int .u64 on∧on<1000000000∧Hid (Hd d d' i k on l) ∧
     wr.ownsRow w 129 1 (.slice (E w) (n+n') (n+n')) (n+n') (Cg l)∧xp w wr) (fun _ v8 _=>n'-(intOf v8).toNat)
   case atStart=>exact ⟨0,0,l,Ba _,rfl,rfl,qB,HM,ah,jr⟩
   case round =>
    clear ah jr c1;obtain ⟨k,on,l1,rm,rfl,rfl,NU,FF,ah,jr⟩:=hrel;have qu:=jr.size;have tu:=(ah.lt w rfl).2;by_cases PR:k<n'
    ·have c1:=(hd.keep jr).at bj;rw [Em,←HX.out] at c1;obtain ⟨b',o',rfl,c2⟩:=(ik.keep jr).at' PR;obtain ⟨y,hy⟩:∃y:Nat,y=d'.getD k 0:=⟨_,rfl⟩;rw [Em,←hy] at c2;have SF:y<1000000000:=by rw [hy];exact Cx ur.out k
     have hlen:=FF.out.len;rw [AK.out,DR.out] at hlen;have gz:=ah.cellAt (i+k) qB;rw [Ih qB] at gz;have eh:=ah.frozenAt (i+k);obtain ⟨u,hu⟩:∃u:Nat,u=l1.getD (i+k) 0:=⟨_,rfl⟩;have KQ:u<1000000000:=by rw [hu];exact Cx FF.out.lt _
     rw [←hu] at gz;obtain ⟨t,ht⟩:∃t:Nat,t=on+x*y+u:=⟨_,rfl⟩;have iv:=Ae (FF.out.step sr.out ur.out (by rw [AK.out];exact bj) (by rw [DR.out];exact PR) (show t=on+d.getD i 0*d'.getD k 0+l1.getD (i+k) 0 by rw [ht,HX.out,hy,hu]));have NV:=Qs AI SF KQ NU;rw [←ht] at NV;have hq:(((on:Int)+(x:Int)*(y:Int))+(u:Int))=(t:Int):=by rw [ht];simp
     have ald:(0:Int)≤(x:Int)*(y:Int):=Int.mul_nonneg qB qB;have BC:((i:Int)+(k:Int)).toNat=i+k:=qB;have HQ:=Ae hq;have ale:(x:Int)*(y:Int)+(u:Int)+(on:Int)<1000000000000000000:=qB;have AL:0≤(((on:Int)+(x:Int)*(y:Int))+(u:Int))%1000000000:=qB;have yf:(((on:Int)+(x:Int)*(y:Int))+(u:Int))%1000000000<1000000000:=qB;have iz:0≤(((on:Int)+(x:Int)*(y:Int))+(u:Int))/1000000000:=qB;have JH:(((on:Int)+(x:Int)*(y:Int))+(u:Int))/1000000000<1000000000:=qB;clear hu hy ht hq hlen NV;go_wp2_with fail;go_quiet (fail);have hbq:xp wr (wr.drewN nq):=Bj _ (Ac _ _);have hBq:xp w (wr.drewN nq):=xo jr hbq;have qe:=Ae ((Bf ah hbq).stored (i+k) (.int .u32 ((((on:Int)+(x:Int)*(y:Int))+(u:Int))%1000000000))).1;exact qBy
    ·obtain rfl:k=n':=qB;have hlen:=FF.out.len;rw [AK.out,DR.out] at hlen;have gz:=ah.cellAt (i+k) qB;rw [Ih qB] at gz;have eh:=ah.frozenAt (i+k);have iv:Hid (Hd d d' (i+1) 0 0 (l1.set (i+k) on)):=by
      have h1:=FF.out;have h2:=DR.out;subst h2;exact Ae (h1.next (by rw [AK.out];exact bj))
     exact qBv
  ·obtain rfl:i=n:=qB;have iv:=HM.out;have h2:=AK.out;have hval:val l=val d*val d':=by subst h2;exact iv.done
   have HV:=Ae hval;clear hval h2;go_wp2_with fail;go_ret;refine ⟨_,l,rfl,Da ah qB (fun j=>By (fun x hx=>by have:=iv.lt x hx;omega) j),HV.out,iv.lt,.of_owns ah,jr⟩
theorem Ob (g:Bool) (a:Γ) (n c:Nat) (z:Int) (h:Bh w g a n c z) (g':Bool) (a':Γ) (n' c':Nat) (z':Int) (h':Bh w g' a' n' c' z') (br:n≤17592186044416) (bp:n'≤17592186044416) :
  Θ 110 #[.agg #[.bool g,.slice a n c],.agg #[.bool g',.slice a' n' c']] w (Di w (z*z')):=by
 have HB:=Ac w w;have HR:=Ae (gW h.neg h'.neg);go_enter func110,ntmps110;go_wp2_with fail;refine (Gw _ _ _ _ _ _ (h.keep qD)).mono ?_;rintro e w1 ⟨rfl,hb⟩;obtain ⟨hc,hf⟩:=Bg hb;have hz:=hb.size;(try simp only [Aj,Ak] at hz);replace HB:=zP w hb;obtain ⟨aw,bh⟩:=xd hc w g a n c;obtain ⟨bn,bo⟩:=xd hc (w+1) g' a' n' c';obtain ⟨bw,bx⟩:=zJ hc (w+1+1);obtain ⟨bz,cc⟩:=zK hf (w+1+1);obtain ⟨dy,dz⟩:=zK hf w;obtain ⟨dp,dt⟩:=zK hf (w+1);have jy:w.heap.size+1+1<w1:=qB;clear hc hf hb hz;go_wp2_with fail;refine (Gw _ _ _ _ _ _ (h'.keep qD)).mono ?_;rintro e w2 ⟨rfl,hb⟩;obtain ⟨hc,hf⟩:=Bg hb;have hz:=hb.size;(try simp only [Aj,Ak] at hz);replace HB:=zP w hb;obtain ⟨aw,bh⟩:=xd hc w g a n c;obtain ⟨bn,bo⟩:=xd hc (w+1) g' a' n' c';obtain ⟨bw,bx⟩:=zJ hc (w+1+1);obtain ⟨bz,cc⟩:=zK hf (w+1+1);obtain ⟨dy,dz⟩:=zK hf w;obtain ⟨dp,dt⟩:=zK hf (w+1);have l9:w.heap.size+1+1<w2:=by simp at hz;omega
 clear hc hf hb hz;go_upto_region 4 with fail
 have ep:xp w ((w2.setCell (J (w+1) 0) (.bool g')).setCell (J (w+1) 1) (.slice a' n' c')):=qD;have nw:w.heap.size+1+1<((w2.setCell (J (w+1) 0) (.bool g')).setCell (J (w+1) 1) (.slice a' n' c')).heap.size:=qL;have PA:Z ((w2.setCell (J (w+1) 0) (.bool g')).setCell (J (w+1) 1) (.slice a' n' c')) w 0 (.bool g):=qO;have PD:Z ((w2.setCell (J (w+1) 0) (.bool g')).setCell (J (w+1) 1) (.slice a' n' c')) w 1 (.slice a n c):=qO;have PE:Z ((w2.setCell (J (w+1) 0) (.bool g')).setCell (J (w+1) 1) (.slice a' n' c')) (w+1) 0 (.bool g'):=qO;have PF:Z ((w2.setCell (J (w+1) 0) (.bool g')).setCell (J (w+1) 1) (.slice a' n' c')) (w+1) 1 (.slice a' n' c'):=qO;have US:Z ((w2.setCell (J (w+1) 0) (.bool g')).setCell (J (w+1) 1) (.slice a' n' c')) (w+1+1) 0 (.bool false):=qO;have UT:Y ((w2.setCell (J (w+1) 0) (.bool g')).setCell (J (w+1) 1) (.slice a' n' c')) (w+1+1) 0:=qO;have UU:Z ((w2.setCell (J (w+1) 0) (.bool g')).setCell (J (w+1) 1) (.slice a' n' c')) (w+1+1) 1 (.slice none 0 0):=qO;have UW:Y ((w2.setCell (J (w+1) 0) (.bool g')).setCell (J (w+1) 1) (.slice a' n' c')) (w+1+1) 1:=qO;generalize ((w2.setCell (J (w+1) 0) (.bool g')).setCell (J (w+1) 1) (.slice a' n' c'))=w3 at *;clear aw bh bn bo bw bx bz cc dy dz dp dt HB;have HB:=ep;go_region_held3 (fun W=>Z W w 0 (.bool g)∧Z W w 1 (.slice a n c)∧Z W (w+1) 0 (.bool g')∧Z W (w+1) 1 (.slice a' n' c')) (exact qK) (first
  | (go_at_call 186;(with_reducible refine (wN _ _ _ _ _ _ _ _ _ (h.rd.keep qD) (h'.rd.keep qD) (D0 _) (D0 _) qB qB).mono ?_);rintro e w4 ⟨a1,q1,rfl,lg,od,ju,lh,hb⟩;obtain ⟨hc,hf⟩:=Bg hb;have hz:=hb.size;(try simp only [Aj,Ak,Am] at hz);replace HB:=zP w hb;obtain ⟨aw,bh⟩:=xd hc w g a n c;obtain ⟨bn,bo⟩:=xd hc (w+1) g' a' n' c';obtain ⟨bw,bx⟩:=zJ hc (w+1+1);obtain ⟨bz,cc⟩:=zK hf (w+1+1);have UX:=Ae od;have yu:=Ae ju;clear od ju)
  | (go_at_call 185;(with_reducible refine (Hb _ _ a1 _ _ q1 (lg.keep qD) yu.out).mono ?_);rintro e w5 ⟨g3,n3,rfl,ll,ic,hb⟩;obtain ⟨hc,hf⟩:=Bg hb;have hz:=hb.size;(try simp only [Aj,Ak,Am] at hz);replace HB:=zP w hb;obtain ⟨aw,bh⟩:=xd hc w g a n c;obtain ⟨bn,bo⟩:=xd hc (w+1) g' a' n' c';obtain ⟨bw,bx⟩:=zJ hc (w+1+1);obtain ⟨bz,cc⟩:=zK hf (w+1+1);have j6:Bc (w+1+1+1) w5 a1 (n+n'):=(lh.keep (Al qD (hb.mono qA))).mono qU))
 go_wp2_with fail;refine bodyPost_ret (v:=.agg #[.bool g3,.slice a1 n3 (n+n')]) (by simp [results,results110,go_sem,bw,bx]) rfl ?_;rw [UX.out] at ic;have BD:Bh w5 g3 a1 n3 (n+n') (z*z'):=by rw [←HR.out];exact ic
 refine ⟨g3,a1,n3,n+n',rfl,?_,?_,qD⟩
 ·exact (BD.setFresh j6 _ _ (by show w.heap.size+1+1<_;omega)).setFresh (j6.setNew _ _ (by show w.heap.size+1+1<_;omega)) _ _ (by show w.heap.size+1+1<_;omega)
 ·exact ((j6.setNew _ _ (by show w.heap.size+1+1<_;omega)).setNew _ _ (by show w.heap.size+1+1<_;omega)).mono qB
theorem Abm (hd:RdL w a n c d) (bj:∀x∈d,x<1000000000) (p:Nat) (h1:1≤p) (hp:p<35184372088832) :
  Θ 260 #[.slice a n c,M p] w fun e w'=>e=.returned (.int .u64 (1000000000*lim d p+lim d (p-1)))∧w=w':=by
 have hn:=hd.few;have hl:=hd.len;have s0:=Hi bj p;have s1:=Hi bj (p-1);have s0':=(hd.small p).1;have s1':=(hd.small (p-1)).1;have qv:((p:Int)-1).toNat=p-1:=qB;clear bj;by_cases hA:p<n
 ·obtain ⟨b,o,rfl,c1⟩:=hd.at' hA;have c2:=hd.at (i:=p-1) qB;have hB:(p:Int)-1<n:=qB;have h0:0≤(p:Int)-1:=qB;clear hd hl;go_enter func260,ntmps260;go_wp2;go_ret;exact ⟨rfl,rfl⟩
 ·by_cases hB:p-1<n
  ·obtain ⟨b,o,rfl,c2⟩:=hd.at' hB;have hB':(p:Int)-1<n:=qB;have h0:0≤(p:Int)-1:=qB;have hz:lim d p=0:=Mm qB;have HZ:=Ae hz;clear hd hl hz s0 s0';go_enter func260,ntmps260;go_wp2;go_ret;exact ⟨by rw [HZ.out];simp,rfl⟩
  ·have hB':¬(p:Int)-1<n:=qB;have hz:lim d p=0:=Mm qB;have j5:lim d (p-1)=0:=Mm qB;have HZ:=Ae hz;have HZ':=Ae j5;clear hd hl hz j5 s0 s0' s1 s1';go_enter func260,ntmps260;go_wp2;go_ret;exact ⟨by rw [HZ.out,HZ'.out];simp,rfl⟩
def mO (w:World) (B g n c:Nat) (N:Nat) (e:Ending) (w':World):Prop :=
 e=.returned (.tuple #[])∧∃l,l.length=n∧(∀x∈l,x<1000000000)∧val l=N∧w'.ownsRow B 129 1 (.slice (E g) n c) n (Cg l)∧w.grownBy w' (some g)
theorem RdL.other {w:World} {a:Γ} {n c:Nat} {d:Ξ} (h:RdL w a n c d) (hg:w.grownBy w' (some g)) (di:n=0∨∀x,a=some x→x.block≠g):RdL w' a n c d:=by
 refine ⟨h.len,h.cap,h.few,h.top,h.small,?_⟩;rcases di with h0|di
 ·exact .inl h0
 ·rcases h.cell with h0|⟨b,o,ha,hc⟩
  ·exact .inl h0
  ·refine .inr ⟨b,o,ha,fun i hi=>hg.cell (hc i hi) ?_⟩;have:=di _ ha;simpa using this
theorem vD (g n c:Nat) (l:Ξ) (ah:w.ownsRow B 129 1 (.slice (E g) n c) n (Cg l)) (bj:∀x∈l,x<1000000000) (a':Γ) (n' c':Nat) (d':Ξ) (ik:RdL w a' n' c' d') (rz:∀x∈d',x<1000000000)
  (di:n'=0∨∀x,a'=some x→x.block≠g) (p often:Nat) (ho:often<1000000000) (hp:p+n'≤n) (hle:often*(1000000000 ^ p*val d')≤val l) (hn:n≤35184372088832) :
  Θ 262 #[.slice (E g) n c,.slice a' n' c',M p,.int .u64 often] w (mO w B g n c (val l-often*(1000000000 ^ p*val d'))):=by
 have hl:l.length=n:=by have:=ah.1;rw [C5] at this;omega
 have HLE:=Ae hle;have sr:=Ae bj;have ur:=Ae rz;have HNE:=Ae di;have HL:=Ae hl;have SB:=Ae ik.len;clear hle bj rz di hl;go_enter func262,ntmps262;go_wp2_with fail;go_loopw [8,9] (fun v8 v9 wr=>∃(i j9:Nat) (l1:Ξ),p+i≤n∧v9=M i∧v8=.int .u64 j9∧Hid (N4 (val l) d' p often n i j9 l1)∧wr.ownsRow B 129 1 (.slice (E g) n c) n (Cg l1)∧w.grownBy wr (some g)) (fun _ v9 _=>n-(intOf v9).toNat)
 case atStart =>
  refine ⟨0,0,l,qB,rfl,rfl,Ae ?_,ah,⟨rfl,rfl,rfl,Ad _,fun _ _ _=>rfl⟩⟩;have:=N4.start (b:=d') (p:=p) (often:=often) sr.out;rw [HL.out] at this;exact this
 case round =>
  clear ah;obtain ⟨i,j9,l1,hi,rfl,rfl,HT,ah,sv⟩:=hrel;by_cases PS:p+i<n
  ·have hj:p+i<l1.length:=by rw [HT.out.len];exact PS
   have gz:=ah.cellAt (p+i) qB;rw [Ih hj] at gz;have eh:=ah.frozenAt (p+i);obtain ⟨x,hx⟩:∃x:Nat,x=l1.getD (p+i) 0:=⟨_,rfl⟩;have AI:x<1000000000:=by rw [hx];exact Cx HT.out.lt _
   rw [←hx] at gz;have BC:((p:Int)+(i:Int)).toNat=p+i:=qB;have mh:=HT.out.small;obtain ⟨y,hy⟩:∃y:Nat,y=d'.getD i 0:=⟨_,rfl⟩;have SF:y<1000000000:=by rw [hy];exact Cx ur.out i
   obtain ⟨t,ht⟩:∃t:Nat,t=j9+often*y:=⟨_,rfl⟩;have ui:=HT.out.step ur.out PS (show t=j9+often*d'.getD i 0 by rw [ht,hy]) hx;have SG:=Ae ui;have HX:=Ae hx;have hpl:often*y≤999999999*999999999:=Nat.mul_le_mul qB qB;have NV:t<1000000000000000000:=by rw [ht];omega
   have hlI:(p:Int)+(i:Int)<(n:Int):=qB;clear ui hx hj PS;by_cases j8:i<n'
   ·obtain ⟨b',o',rfl,c2⟩:=(ik.other sv HNE.out).at' j8;rw [Em,←hy] at c2;have hq:(j9:Int)+(often:Int)*(y:Int)=(t:Int):=by rw [ht];simp
    have hp0:(0:Int)≤(often:Int)*(y:Int):=Int.mul_nonneg qB qB;have BE:(j9:Int)+(often:Int)*(y:Int)<1000000000000000000:=qB;have HQ:=Ae hq;clear hq ht hy hpl;by_cases hc:x<t%1000000000
    ·have hcI:(x:Int)<((j9:Int)+(often:Int)*(y:Int))%1000000000:=by have:=HQ.out;omega
     have AL:0≤((j9:Int)+(often:Int)*(y:Int))%1000000000:=qB;have yf:((j9:Int)+(often:Int)*(y:Int))%1000000000<1000000000:=qB;have HC:=Ae hc;clear hc;have h1:=ah.stored (p+i) (.int .u32 ((x:Int)+1000000000));have h2:=h1.1.stored (p+i) (.int .u32 ((x:Int)+1000000000-((j9:Int)+(often:Int)*(y:Int))%1000000000));have HS:=Ae h2.1;have HG:=Ae (sv.andThen (h1.2.andThen h2.2 (fun j hj=>.inr hj)) (fun j hj=>.inr hj));clear h1 h2;go_wp2_with fail;go_roundw
     case rel =>
      refine ⟨i+1,t/1000000000+1,l1.set (p+i) (x+1000000000-t%1000000000),qB,by go_num,by rw [HQ.out];simp,Ae (SG.out.1 HC.out),?_,HG.out⟩;have e:((x+1000000000-t%1000000000:Nat):Int)=((x:Int)+1000000000-((j9:Int)+(often:Int)*(y:Int))%1000000000):=by have:=HQ.out;have:=HC.out;omega
      exact qCn
     case measure=>(first|(simp [intOf];omega)|(simp [intOf];done))
    ·have hcI:¬(x:Int)<((j9:Int)+(often:Int)*(y:Int))%1000000000:=by have:=HQ.out;omega
     have AL:0≤((j9:Int)+(often:Int)*(y:Int))%1000000000:=qB;have yf:((j9:Int)+(often:Int)*(y:Int))%1000000000<1000000000:=qB;have HC:=Ae hc;clear hc;have h1:=ah.stored (p+i) (.int .u32 ((x:Int)-((j9:Int)+(often:Int)*(y:Int))%1000000000));have HS:=Ae h1.1;have HG:=Ae (sv.andThen h1.2 (fun j hj=>.inr hj));clear h1;go_wp2_with fail;go_roundw
     case rel =>
      refine ⟨i+1,t/1000000000,l1.set (p+i) (x-t%1000000000),qB,by go_num,by rw [HQ.out];simp,Ae (SG.out.2 HC.out),?_,HG.out⟩;have e:((x-t%1000000000:Nat):Int)=((x:Int)-((j9:Int)+(often:Int)*(y:Int))%1000000000):=by have:=HQ.out;have:=HC.out;omega
      exact qCn
     case measure=>(first|(simp [intOf];omega)|(simp [intOf];done))
   ·have hdz:y=0:=by rw [hy];simp [List.getD,List.getElem?_eq_none (show d'.length≤i by rw [SB.out];omega)]
    obtain rfl:t=j9:=by rw [ht,hdz,Nat.mul_zero,Nat.add_zero]
    clear ht hy hdz hpl SF y;by_cases hc:x<t%1000000000
    ·have hcI:(x:Int)<(t:Int)%1000000000:=qB;have AL:0≤(t:Int)%1000000000:=qB;have yf:(t:Int)%1000000000<1000000000:=qB;have HC:=Ae hc;clear hc;have h1:=ah.stored (p+i) (.int .u32 ((x:Int)+1000000000));have h2:=h1.1.stored (p+i) (.int .u32 ((x:Int)+1000000000-(t:Int)%1000000000));have HS:=Ae h2.1;have HG:=Ae (sv.andThen (h1.2.andThen h2.2 (fun j hj=>.inr hj)) (fun j hj=>.inr hj));clear h1 h2;go_wp2_with fail;go_roundw
     case rel =>
      refine ⟨i+1,t/1000000000+1,l1.set (p+i) (x+1000000000-t%1000000000),qB,by go_num,qH,Ae (SG.out.1 HC.out),?_,HG.out⟩;have e:((x+1000000000-t%1000000000:Nat):Int)=((x:Int)+1000000000-(t:Int)%1000000000):=by have:=HC.out;omega
      exact qCn
     case measure=>(first|(simp [intOf];omega)|(simp [intOf];done))
    ·have hcI:¬(x:Int)<(t:Int)%1000000000:=qB;have AL:0≤(t:Int)%1000000000:=qB;have yf:(t:Int)%1000000000<1000000000:=qB;have HC:=Ae hc;clear hc;have h1:=ah.stored (p+i) (.int .u32 ((x:Int)-(t:Int)%1000000000));have HS:=Ae h1.1;have HG:=Ae (sv.andThen h1.2 (fun j hj=>.inr hj));clear h1;go_wp2_with fail;go_roundw
     case rel =>
      refine ⟨i+1,t/1000000000,l1.set (p+i) (x-t%1000000000),qB,by go_num,qH,Ae (SG.out.2 HC.out),?_,HG.out⟩;have e:((x-t%1000000000:Nat):Int)=((x:Int)-(t:Int)%1000000000):=by have:=HC.out;omega
      exact qCn
     case measure=>(first|(simp [intOf];omega)|(simp [intOf];done))
  ·have yg:¬(p:Int)+(i:Int)<(n:Int):=qB;have hpe:p+i=n:=qB;have HPE:=Ae hpe;have hbd:(p:Int)+(i:Int)≤35184372088832:=qB;clear hpe PS hi;go_wp2_with fail;go_end0;exact ⟨rfl,l1,HT.out.len,HT.out.lt,HT.out.done HPE.out (by rw [SB.out];have:=HPE.out;omega) HLE.out,ah,sv⟩
theorem Is {w:World} {ops:Array Oper} {rest:List Oper} {o:Oper} {a:Act} {Q:Exit→Act→World→Prop} (vx:o.guard=none) (s x:Operand)
  (ho:o.op=.call { callee:=.builtin .append,args:=#[s,x],argTypes:=#[49,49] }) (hs:a.eval s=.slice none 0 0)
  (ad:Γ) (n c:Nat) (d:Ξ) (hx:a.eval x=.slice ad n c) (hd:RdL w ad n c d)
  (h:∀a1 c1 w1,RdL w1 a1 n c1 d→w1.ownsRow w 129 1 (.slice a1 n c1) n (Cg d)→xp w w1→wpList prog ops Q rest (a.put o.dst (.slice a1 n c1)) w1) :
  wpList prog ops Q (o::rest) a w:=by
 obtain ⟨i0,hi,dw,ed,en⟩:=info_parts Dl;have hn:=hd.few;rcases Aq n with h0|h0
 ·subst h0;have DQ:d=[]:=List.eq_nil_of_length_eq_zero hd.len;subst DQ;refine wpList_plain vx fun K hK=>?_
  have AJ:=Io (P:=prog) (w:=w) w 49 o.type 129 i0 1 underlying49 hi (.slice none 0 0) 0 [] (World.ownsRow_nil _ _ _ _) ad c;unfold Oper.wp;simp [execOp,ho,resolve,invoke,builtin,hs,hx,AJ,Result.andThen];exact hK _ _ (h none 0 w ⟨rfl,Ad _,qB,qB,fun i=>by simp [lim],.inl rfl⟩ (World.ownsRow_nil _ _ _ _) (Ac _ _))
 ·obtain ⟨b,o',rfl,ij⟩:=hd.cell.resolve_left qB;refine wpList_append_own _ vx s x 49 ho w 129 i0 (.int .u32 0) 1 4 underlying49 hi dw ed en rfl qI _ _ _ hs (World.ownsRow_nil _ _ _ _) (J b o') n c (Cg d) hx (by rw [C5,hd.len];omega) (Jy hd) (Mf d) qN qB (Ad _) ?_;intro v' w' ah vy nu;rw [Nat.zero_add,List.nil_append] at ah;obtain ⟨a',c',rfl,hr,eh⟩:=Er ah hn hd.small;exact h a' c' w' hr ah ((Ac _ _).grown vy (Ad _) (fun k hk=>(by cases hk)))
theorem Pd {w:World} {ops:Array Oper} {rest:List Oper} {o:Oper} {a:Act} {Q:Exit→Act→World→Prop} (vx:o.guard=none) (s x:Operand)
  (ho:o.op=.call { callee:=.builtin .append,args:=#[s,x],argTypes:=#[49,49] }) (hs:a.eval s=.slice none 0 0)
  (ad:Γ) (n c:Nat) (d:Ξ) (hx:a.eval x=.slice ad n c) (hd:RdL w ad n c d) (hn:0<n)
  (h:∀L c1 w1,RdL w1 (E L) n c1 d→w1.ownsRow w 129 1 (.slice (E L) n c1) n (Cg d)→xp w w1→wpList prog ops Q rest (a.put o.dst (.slice (E L) n c1)) w1) :
  wpList prog ops Q (o::rest) a w:=by
 refine Is vx s x ho hs ad n c d hx hd ?_;intro a1 c1 w1 h1 h2 h3;rcases h2.2 with ⟨h4,h5⟩|⟨g,cap,cur,h4,_⟩
 ·omega
 ·cases h4
  exact h g c1 w1 h1 h2 h3
theorem Fe {w:World} {base n c:Nat} {xs:List Value} (h:w.ownsRow base 129 1 (.slice (E g) n c) n xs) (e:w'.heap[g]? = w.heap[g]?):w'.ownsRow base 129 1 (.slice (E g) n c) n xs:=qCl
theorem fB (hk:k≤35184372088832) (W:World):(Instr.makeSlice 49 (M (k:Int)) (M (k:Int))).run prog W=.ok (.slice (E W) k k) (W.alloc (.cells (Cg (List.replicate k 0)).toArray 129)):=by
 obtain ⟨i0,hi,dw,ed,en⟩:=info_parts Dl;have BP:(i0.bytes:Int)*(k:Int)≤281474976710656:=by rw [en];omega
 have hr:=run_make (P:=prog) W 49 129 i0 (.int .u32 0) underlying49 hi dw .i64 .i64 k k qB (Int.le_refl _) BP qB;simp only [Int.toNat_natCast] at hr;have e:madeCells (Value.cells (.int .u32 0)) (k*i0.size)=(Cg (List.replicate k 0)).toArray:=by
  apply Array.ext';rw [ed,Nat.mul_one,show Value.cells (.int .u32 0)=#[.int .u32 0] from rfl,toList_madeCells_one];simp [Cg]
 rw [e] at hr;exact hr
theorem Tl (W:World) (k:Nat) (hB:B≤W.heap.size) (hk:k≤35184372088832):(W.alloc (.cells (Cg (List.replicate k 0)).toArray 129)).ownsRow B 129 1 (.slice (E W) k k) k (Cg (List.replicate k 0)) :=
 World.ownsRow_lit (base:=B) (e:=129) (size:=1) W (Cg (List.replicate k 0)).toArray k hB qN (by simp [Cg])
theorem rR {w:World} {b o n c:Nat} {d:Ξ} (h:RdL w (some ⟨b,o,none⟩) n c d) (e:w'.heap[b]? = w.heap[b]?):RdL w' (some ⟨b,o,none⟩) n c d:=qDe
theorem Uz (x y:Nat):decide (Bz (x:Int) (y:Int)<0)=decide (x<y):=qDv
theorem Q0 {w:World} {ops:Array Oper} {o:Oper} {a:Act} {Q:Exit→Act→World→Prop} (s x:Operand)
  (ho:o.op=.call { callee:=.builtin .append,args:=#[s,x],argTypes:=#[49,49] }) (hw:Region.wanted o (yielded ops a.tmps)=true)
  (B:Nat) (v:Value) (n:Nat) (l:Ξ) (hs:a.eval s=v) (ah:w.ownsRow B 129 1 v n (Cg l)) (hl:∀x∈l,x<1000000000) (hB:B≤w.heap.size)
  (ad:Γ) (m c:Nat) (d:Ξ) (hx:a.eval x=.slice ad m c) (hd:RdL w ad m c d) (CV:∀x∈d,x<1000000000) (hm:0<m) (KR:n+m≤35184372088832)
  (h:∀a1 c1 w1,RdL w1 a1 (n+m) c1 (l++d)→Below B w w1→K (a.put o.dst (.slice a1 (n+m) c1)) w1) :
  if Region.wanted o (yielded ops a.tmps)=true then Oper.wp prog o a w K Q else zf:=by
 rw [if_pos hw];obtain ⟨i0,hi,dw,ed,en⟩:=info_parts Dl;obtain ⟨b,o',rfl,ij⟩:=hd.cell.resolve_left qB;refine wp_append_own w s x 49 ho B 129 i0 (.int .u32 0) 1 4 underlying49 hi dw ed en rfl qI v n (Cg l) hs ah (J b o') m c (Cg d) hx (by rw [C5,hd.len];omega) (Jy hd) (Mf d) qN qB hB ?_;intro v' w' ji vy nu;rw [←Cv] at ji;have mh:=By (d:=l++d) (fun x hx=>by rcases List.mem_append.1 hx with h|h;have:=hl x h;omega;have:=CV x h;omega);obtain ⟨a',c',rfl,hr,eh⟩:=Er ji KR mh;exact h a' c' w' hr ((Ac _ _).grown vy hB (fun k hk=>(ah.lt k hk).1))
theorem S7 {w:World} {ops:Array Oper} {o:Oper} {a:Act} {Q:Exit→Act→World→Prop} (s x:Operand)
  (ho:o.op=.call { callee:=.builtin .append,args:=#[s,x],argTypes:=#[49,49] }) (hw:Region.wanted o (yielded ops a.tmps)=true)
  (B:Nat) (n:Nat) (l:Ξ) (ah:w.ownsRow B 129 1 (a.eval s) n (Cg l)) (hl:∀x∈l,x<1000000000) (hB:B≤w.heap.size)
  (ad:Γ) (m c:Nat) (d:Ξ) (hx:a.eval x=.slice ad m c) (hd:RdL w ad m c d) (CV:∀x∈d,x<1000000000) (hm:0<m) (KR:n+m≤35184372088832)
  (h:∀a1 c1 w1,RdL w1 a1 (n+m) c1 (l++d)→Below B w w1→K (a.put o.dst (.slice a1 (n+m) c1)) w1) :
  if Region.wanted o (yielded ops a.tmps)=true then Oper.wp prog o a w K Q else zf :=
 Q0 s x ho hw B _ n l rfl ah hl hB ad m c d hx hd CV hm KR h
theorem xZ (hd:RdL w a n c d) (bj:∀x∈d,x<1000000000) (zh:Int) (p:Nat) (hM:zh=p) (h1:1≤p) (hp:p<35184372088832) (T:Nat) (hT:T=1000000000*d.getD p 0+d.getD (p-1) 0) :
  Θ 260 #[.slice a n c,M zh] w fun e w'=>e=.returned (.int .u64 (T:Int))∧w=w':=by
 subst hM;refine (Abm w a n c d hd bj p h1 hp).mono ?_;rintro e w' ⟨rfl,rfl⟩;refine ⟨?_,rfl⟩;rw [hT,Em,Em];simp
def Tz (A V n g:Nat) (l q:Ξ):Prop:=l.length=n∧(∀x∈l,x<1000000000)∧q.length=n+1∧(∀x∈q,x<1000000000) ∧
 match g with
 | 0=>val q=A/V∧val l=A%V
 | k+1=>Lc A V n k l q
theorem Tz.of {A V n k:Nat} (h:Lc A V n k l q):Tz A V n (k+1) l q:=⟨h.llen,h.lt,h.qlen,h.qlt,h⟩
theorem Tz.next {A V n k:Nat} (h:Lc A V n k l q) (hV:0<V) (hb:val l<1000000000 ^ k*V):Tz A V n k l q:=by
 refine ⟨h.llen,h.lt,h.qlen,h.qlt,?_⟩
 cases k with
 | zero=>rw [Nat.pow_zero,Nat.one_mul] at hb;exact h.done hV hb
 | succ k=>exact h.next hb
theorem sM (o:Nat):(if (1:Int)<(o:Int) then (o:Int) else 1)=((max 1 o:Nat):Int):=by
 split<;>omega
theorem uI (hd:RdL w a n c d) (ik:RdL w a' n' c' d') (hc:Dy d) (jf:Dy d')
  (h2:2≤n') (hle:n'≤n) (hn:n<35184372088830) :
  Θ 226 #[.slice a n c,.slice a' n' c'] w (Gx w (val d) (val d') (n+1) n):=by
 obtain ⟨i0,hi,dw,ed,en⟩:=info_parts Dl;have HB:=Ac w w;obtain ⟨t,ht⟩:∃t:Nat,t=d'.getD (n'-1) 0:=⟨_,rfl⟩;have ht2:t<1000000000:=by rw [ht];exact Cx jf.lt _
 obtain ⟨b',o',rfl,c1⟩:=ik.at' (i:=n'-1) qB;have ali:b'<w.heap.size:=Aa _ _ c1;rw [Em,←ht] at c1;have qv:((n':Int)-1).toNat=n'-1:=qB;have alj:0≤(n':Int)-1:=qB;have alk:1≤(n':Int):=qB;have alm:(n':Int)-1<(n':Int):=qB;have VE:((n':Int)==1)=false:=by rw [beq_eq_false_iff_ne];omega
 obtain ⟨V,hV⟩:∃V,V=val d':=⟨_,rfl⟩;have ab5:V<1000000000 ^ (n'-1)*(t+1):=by rw [hV,ht];exact yR jf.lt ik.len qB
 have VF:1000000000 ^ (n'-1)≤V:=by rw [hV];exact dO jf ik.len qB
 have KS:0<V:=Nat.lt_of_lt_of_le (Nat.pow_pos qB) VF;have KT:val d<1000000000 ^ (n-n'+1)*V:=by
  have h3:=Ep d hc.lt;rw [hd.len,show n=n-n'+1+(n'-1) from qB,Nat.pow_add] at h3;have h4:1000000000 ^ (n-n'+1)*1000000000 ^ (n'-1)≤1000000000 ^ (n-n'+1)*V:=At _ VF;omega
 have HS:=Ae (Ax ab5 KT);have HV:=Ae hV;have HC:=Ae hc;have ZV:=Ae jf;have NW:=Ae hd.len;have HLY:=Ae ik.len;clear hV ab5 VF KT ht hc jf;go_enter func226,ntmps226;go_wp2_with (first
  | (refine Pd rfl (.tmp 26) (.tmp 27) rfl rfl a n c d rfl (hd.keep qD) qB ?_;intro L cL w1 lg du br)
  | (refine wpList_make_full _ rfl _ _ 49 rfl w1 129 i0 (.int .u32 0) 1 underlying49 hi dw ed .i64 .i64 _ _ (n+1) rfl rfl rfl qZ (by rw [en];omega) qN (Ad _) ?_;intro w3 dh er))
 have ep:xp w1 w3:=(Ac _ _).grown er (Ad _) (fun k h=>by cases h);rw [Nat.mul_one,show Value.cells (.int .u32 0)=#[.int .u32 0] from rfl,toList_madeCells_one,←Fo] at dh;have PU:=du.lt L rfl;obtain ⟨Q,hQ⟩:∃Q,Q=w1.heap.size:=⟨_,rfl⟩;have hLQ:L<Q:=by rw [hQ];exact PU.2
 have KU:=Fe du (ep.block L PU.2);have PV:xp w w3:=xo br ep;rw [←hQ] at dh;simp only [←hQ];have hwL:w.heap.size≤L:=PU.1;have HQ:=Ae hQ;have hsI:∃j:Nat,j=n-n'+1:=⟨_,rfl⟩;clear er ep br du lg PU hQ HB hsI;go_loopg [10] (n-n'+1) (fun g v10 wr=>∃l q,v10=M ((g:Int)-1)∧g≤n-n'+1∧Hid (Tz (val d) V n g l q)∧wr.ownsRow w 129 1 (.slice (E L) n cL) n (Cg l)∧wr.ownsRow Q 129 1 (.slice (E Q) (n+1) (n+1)) (n+1) (Cg q)∧xp w wr)
 case atStart =>
  exact ⟨d,List.replicate (n+1) 0,congrArg (Value.int .i64) qB,Ad _,Ae (Tz.of (Lc.start NW.out HC.out.lt qB HS.out.2)),KU,dh,PV⟩
 case round =>
  clear KU dh PV;obtain ⟨l,q,AM,hgm,HG,hL,hQ,HB⟩:=hrel
  cases gk with
  | zero =>
   rw [show ((0:Nat):Int)-1=-1 from rfl] at AM;subst AM;go_wp2_with fail;go_ret2;obtain ⟨AN,bj,uo,ju,od,uq⟩:=HG.out;exact ⟨_,n+1,n+1,q,_,n,cL,l,rfl,Da hQ qB (By (fun x hx=>by have:=ju x hx;omega)),Da hL qB (By (fun x hx=>by have:=bj x hx;omega)),by rw [od,HV.out],by rw [uq,HV.out],ju,bj,Ad _,Ad _,(Bc.of_owns hQ).mono qB,Bc.of_owns hL,HB⟩
  | succ k =>
   rw [show ((k+1:Nat):Int)-1=(k:Int) from qB] at AM;subst AM;have hG0:Lc (val d) V n k l q:=HG.out.2.2.2.2;have HG0:=Ae hG0;clear hG0 HG;have hkI:(k:Int)+(n':Int)<35184372088832:=qB;have qp:(0:Int)≤(k:Int):=qB;have vv:(k:Int)<(n:Int)+1:=qB;go_wp2_with fail;go_loopg [] (val l) (fun gg wi=>∃l q,gg=val l∧Hid (Lc (val d) V n k l q)∧wi.ownsRow w 129 1 (.slice (E L) n cL) n (Cg l)∧wi.ownsRow Q 129 1 (.slice (E Q) (n+1) (n+1)) (n+1) (Cg q)∧xp w wi)
   case atStart=>exact ⟨l,q,rfl,HG0,hL,hQ,HB⟩
   case round =>
    clear HG0 hL hQ HB;obtain ⟨l,q,hgg,HG,hL,hQ,HB⟩:=hrel;obtain ⟨T,hT⟩:∃T,T=1000000000*l.getD (k+n') 0+l.getD (k+n'-1) 0:=⟨_,rfl⟩;obtain ⟨o,ho⟩:∃o:Nat,o=T/(t+1):=⟨_,rfl⟩;have NP:=HG.out.often h2 HS.out.1 KS;rw [←hT,←ho] at NP;have hTl:T<1000000000000000000:=by
     have e1:=Cx HG.out.lt (k+n');have e2:=Cx HG.out.lt (k+n'-1);omega
    have hoI:(T:Int)/((t:Int)+1)=(o:Int):=by rw [ho];simp
    have HOF:=Ae NP;have HT:=Ae hT;have HO:=Ae hoI;have ho1:=NP.2;have jx:=Da hL qB (By (fun x hx=>by have:=HG.out.lt x hx;omega));have VG:0≤(T:Int)/((t:Int)+1):=by rw [hoI];omega
    have od:(T:Int)/((t:Int)+1)<1000000000:=by rw [hoI];omega
    have k1:=Bk (Bb HB c1);clear NP hT hoI ho;go_upto_region 10 with fail
    (refine Bi qE qE ?_;(repeat (go_big_quiet_step ((go_at_call 260;exact Abx (xZ _ _ _ _ l (jx.keep (Subtype.property _)) HG.out.lt _ (k+n') qB qB qB T HT.out)))));refine wpQuiet_nil ?_;intro _ cw;obtain ⟨nq,cw⟩:=cw;subst cw);rw [HO.out];clear k1 VG od jx;have uh:=nq.2;replace hL:=Fe hL (uh.block L (hL.lt L rfl).2);replace hQ:=Fe hQ (uh.block Q (hQ.lt Q rfl).2);replace HB:=xo HB uh;generalize nq.val=wy at *;clear nq uh;go_upto_region 11 with fail
    go_cut [71] (fun v71 wx=>v71=.bool (decide (o=0∧val l<1000000000 ^ k*V))∧wx.ownsRow w 129 1 (.slice (E L) n cL) n (Cg l)∧wx.ownsRow Q 129 1 (.slice (E Q) (n+1) (n+1)) (n+1) (Cg q)∧xp w wx)
    case first =>
     by_cases ho0:o=0
     ·subst ho0;have hmk:=fun (W:World)=>fB k qB W
      have KV:=Ac wy wy;have hLy:L<wy.heap.size:=(hL.lt L rfl).2;have hwy:=HB.size;have rp:=Da hL qB (By (fun x hx=>by have:=HG.out.lt x hx;omega));obtain ⟨X,hX⟩:∃X,X=1000000000 ^ k*V:=⟨_,rfl⟩;have hva:val (List.replicate k 0++d')=X:=by rw [hX,Fq,Hv,Nat.zero_add,List.length_replicate,HV.out]
      have HX:=Ae hX;have hQy:Q<wy.heap.size:=(hQ.lt Q rfl).2;clear hX;have HVA:=Ae hva;have hval:∀x∈List.replicate k 0++d',x<1000000000:=fun x hx=>by
       rcases List.mem_append.1 hx with h|h
       ·rw [(List.mem_replicate.1 h).2];omega
       ·exact ZV.out.lt x h
      have PX:=Ae hval;have ab8:∀x∈List.replicate k 0,x<1000000000:=fun x hx=>by rw [(List.mem_replicate.1 hx).2];omega
      have HZL:=Ae ab8;have KW:k+n'≤35184372088832:=qB;clear hva hval ab8;go_region_law (first
       | (go_simp;go_at_call 185;((with_reducible refine (Hb _ false _ _ _ l (rp.keep qR) HG.out.lt).mono ?_);rintro e w1' ⟨g2,n2,rfl,vh,FG,bp⟩;replace KV:xp wy w1':=Al qR (bp.mono qA);have hsy:=KV.size;have ab9:=rR FG.rd (KV.block L hLy).symm;rw [Ha] at ab9;(try replace hrA:=hrA.keep bp)))
       | (go_simp;go_at_call 185;((with_reducible refine (Hb _ false _ _ _ (List.replicate k 0++d') hrA PX.out).mono ?_);rintro e w6 ⟨g3,n3,rfl,ll,ic,ea⟩;replace KV:xp wy w6:=Al qR (ea.mono qA);have hsy:=KV.size;have nc:=ic.rd;rw [Ha,HVA.out] at nc))
       | (go_simp;go_at_call 261;((with_reducible refine (U9 _ _ _ _ (dg (val l)) _ _ _ (dg X) (ab9.keep qR) nc (Cb _) (Cb _)).mono ?_);rintro e w7 ⟨rfl,iw⟩;replace KV:xp wy w7:=Al qR (iw.mono qA);rw [Bq,Bq]))
       | ((with_reducible refine S7 (.tmp 64) (.tmp 65) ?_ ?_ wy k (List.replicate k 0) ?_ ?_ ?_ (some ⟨b',o',none⟩) n' c' d' ?_ ?_ ?_ ?_ ?_ ?_);(focus rfl);(focus rfl);(focus (first|(refine Tl _ _ _ ?_ ?_;(focus (first|exact hsy|go_size|omega|(simp;omega)));(focus omega))|(refine Fe (Tl _ _ _ ?_ ?_) (bp.block _ ?_);(focus (first|go_size|omega|(simp;omega)));(focus omega);(focus (first|go_size|omega|(simp;omega))))));(focus exact HZL.out);(focus (first|go_size|omega|(simp;omega)));(focus rfl);(focus exact ik.keep (Al HB ((by first|assumption|go_grown:xp wy _).mono hwy)));(focus exact ZV.out.lt);(focus omega);(focus exact KW);intro aA cA w4 hrA hbA;replace KV:xp wy w4:=Al qR hbA;have hsy:=KV.size))
      all_goals
       go_wp2_with fail;go_meet
       case rel=>exact ⟨congrArg Value.bool (by rw [←HX.out];first|(rw [Uz];simp;done)|(simp [Uz];done)),Fe hL (KV.block L hLy),Fe hQ (KV.block Q hQy),HB.trans (KV.mono hwy)⟩
     ·have hoB:((o:Int)==0)=false:=by rw [beq_eq_false_iff_ne];omega
      have hoD:decide (o=0∧val l<1000000000 ^ k*V)=false:=decide_eq_false (fun h=>ho0 h.1);have HOD:=Ae hoD;clear ho0 hoD;(refine Bi qE qE ?_;(repeat (go_big_quiet_step (fail)));refine wpQuiet_nil ?_;intro _ cw;obtain ⟨nq,cw⟩:=cw;subst cw);have uh:=nq.2;replace hL:=Fe hL (uh.block L (hL.lt L rfl).2);replace hQ:=Fe hQ (uh.block Q (hQ.lt Q rfl).2);replace HB:=xo HB uh;go_wp2_with fail;go_meet
      case rel=>exact ⟨by rw [HOD.out],hL,hQ,HB⟩
    case rest =>
    obtain ⟨wx,rfl⟩:∃x:World,x=wc:=⟨_,rfl⟩;clear hL hQ HB;obtain ⟨rfl,hL,hQ,HB⟩:=hcut;by_cases uj:o=0∧val l<1000000000 ^ k*V
    ·rw [decide_eq_true uj];have sv:=Ae (Tz.next HG.out KS uj.2);clear uj;go_wp2_with fail;go_roundg k
     case measure=>omega
     case rel=>exact ⟨l,q,rfl,Nat.le_of_succ_le hgm,sv,hL,hQ,HB⟩
    ·rw [decide_eq_false uj];have hmx:=sM o;obtain ⟨om,hom⟩:∃om,om=max 1 o:=⟨_,rfl⟩;rw [←hom] at hmx;have alr:om<1000000000:=qB;have als:0<om:=qB;have hole:om*(1000000000 ^ k*V)≤val l:=by
      rcases Aq o with h0|h0
      ·have:om=1:=qB;rw [this,Nat.one_mul];exact Nat.le_of_not_lt (fun h=>uj ⟨h0,h⟩)
      ·have:om=o:=qB;rw [this];exact HOF.out.1
     have HMX:=Ae hmx;have HLE:=Ae hole;have hlq:k<q.length:=by rw [HG.out.qlen];omega
     have HVO:Hid (om*(1000000000 ^ k*val d')≤val l):=Ae (by rw [←HV.out];exact hole);clear uj hmx hom hole;go_upto_region 13 with fail
     have aca:max (1:Int) (o:Int)=(om:Int):=by rw [←HMX.out];split<;>omega
     first|rw [HMX.out]|rw [aca]
     clear aca;have DS:n'=0∨∀x,(some ⟨b',o',none⟩:Γ)=some x→x.block≠L:=.inr (fun x hx=>by cases hx;exact Nat.ne_of_lt (Nat.lt_of_lt_of_le ali hwL));go_wp2_with fail;refine (vD _ w L n cL l hL HG.out.lt _ n' c' d' (ik.keep HB) ZV.out.lt DS k om alr qB HVO.out qB).mono ?_;rintro e wz ⟨rfl,l2,BF,JI,UR,hL2,js⟩;rw [←HV.out] at UR;have iv:=HG.out.step KS HLE.out BF JI UR;have ZW:=Fe hQ (js.block Q (hQ.lt Q rfl).2 qL);have uv:xp w wz:=HB.grown js HB.size (fun j hj=>(by cases hj;exact hwL));obtain ⟨qk,hqk⟩:∃qk,qk=q.getD k 0:=⟨_,rfl⟩;rw [←hqk] at iv;have hcQ:=ZW.cellAt k qB;rw [Ih hlq,←hqk] at hcQ;have hfQ:=ZW.frozenAt k;have SC:=iv.1;have hq4:(qk:Int)+(om:Int)<1000000000:=qB;have SG:=Ae iv.2;have acb:val l2<val l:=by
      have:0<om*(1000000000 ^ k*V):=Nat.mul_pos als (Nat.mul_pos (Nat.pow_pos qB) KS);have:=HLE.out;omega
     have HME:=Ae acb;have HSQ:=Ae (ZW.stored k (.int .u32 ((qk:Int)+(om:Int)))).1;clear BF JI UR iv hqk acb hQ hL HB;go_wp2_with fail;go_roundg (val l2)
     case measure=>rw [hgg];exact HME.out
     case rel =>
      refine ⟨l2,q.set k (qk+om),rfl,SG,Fe hL2 (Below.heap_setCell _ _ _ _ (Nat.ne_of_lt hLQ)),?_,?_⟩
      ·rw [Lo,Int.natCast_add];exact HSQ.out
      ·exact uv.trans ⟨rfl,rfl,rfl,qH,fun j hj=>Below.heap_setCell _ _ _ _ (by show j≠Q;omega)⟩
end Go.Proofs.YtfijkfdfbnfmmaaGreatDoor
end
