/- The document's answer, layer 1: goes, by any number above 0. No further condition. -/
import Derived.Test.YtfijkfdfbnfmmaaGreatDoorQF15
import Derived.Test.YtfijkfdfbnfmmaaGreatDoorQF14
set_option linter.unusedSimpArgs false
set_option linter.unusedVariables false
set_option maxRecDepth 100000
set_option maxHeartbeats 4000000
section
namespace Go.Proofs.YtfijkfdfbnfmmaaGreatDoor
open Go.RowKit Proofs.Tryz
variable (w:World) (a:Γ) (n c:Nat) (d:Ξ) (a':Γ) (n' c':Nat) (d':Ξ) (g g1:Bool) (a1:Γ) (n1 c1:Nat) (d1:Ξ) (p:Int) (g2:Bool) (a2:Γ) (n2 c2:Nat) (q:Int) {ga gb gx:Bool} {x y x':Int} {na ca cb nx cx:Nat} {wr:World} {aa ab ax:Γ}
theorem vF (hd:RdL w a n c d) (ik:RdL w a' n' c' d') (hc:Dy d) (jf:Dy d')
  (h2:2≤n') (bj:n<n') (hn:n<35184372088830) :
  Θ 226 #[.slice a n c,.slice a' n' c'] w (Gx w (val d) (val d') (n+1) n):=by
 obtain ⟨i0,hi,dw,ed,en⟩:=info_parts Dl;have HB:=Ac w w;have VE:((n':Int)==1)=false:=by rw [beq_eq_false_iff_ne];omega
 have hv:val d<val d':=Pe hc jf (by rw [hd.len,ik.len];exact bj);have HV:=Ae hv;have HC:=Ae hc;have tj:¬(0:Int)≤(n:Int)-(n':Int):=qB;have as4:¬(n':Int)≤(n:Int):=qB;have vh:=ik.few;have alx:wrap64 ((n:Int)-(n':Int))=(n:Int)-(n':Int):=by simp only [wrap64];omega
 clear hv hc jf;go_enter func226,ntmps226;go_wp2_with (first
  | (refine Is rfl (.tmp 26) (.tmp 27) rfl rfl a n c d rfl (hd.keep qD) ?_;intro a1 c1 w1 lg du br)
  | (refine wpList_make_full _ rfl _ _ 49 rfl w1 129 i0 (.int .u32 0) 1 underlying49 hi dw ed .i64 .i64 _ _ (n+1) rfl rfl rfl qZ (by rw [en];omega) qN (Ad _) ?_;intro w3 dh er))
 have ep:xp w1 w3:=(Ac _ _).grown er (Ad _) (fun k h=>by cases h);rw [Nat.mul_one,show Value.cells (.int .u32 0)=#[.int .u32 0] from rfl,toList_madeCells_one,←Fo] at dh;have PV:xp w w3:=xo br ep;have rp:=lg.keep ep;have fb:=br.size;have vk:Bc w w3 a1 c1:=by
  obtain ⟨a2,c2,he,_,hf⟩:=Er du qB lg.small;cases he;exact hf.keep ep
 clear er ep br du lg;go_loopg [10] 0 (fun g v10 wr=>v10=M ((n:Int)-(n':Int))∧w3=wr)
 case atStart=>exact ⟨by first|rfl|(rw [alx]),rfl⟩
 case round =>
  obtain ⟨rfl,rfl⟩:=hrel;go_wp2_with fail;go_ret2;have hz:∀x∈List.replicate (n+1) 0,x<1000000000:=fun x hx=>by rw [(List.mem_replicate.1 hx).2];omega
  exact ⟨_,n+1,n+1,_,a1,n,c1,d,rfl,Da dh qB (By (fun x hx=>by have:=hz x hx;omega)),rp,by rw [Hv,Nat.div_eq_of_lt HV.out],(Nat.mod_eq_of_lt HV.out).symm,hz,HC.out.lt,Ad _,Ad _,(Bc.of_owns dh).mono fb,vk,PV⟩
theorem Gx.wide {w w':World} {e:Ending} {x y mq mr mq' mr':Nat} (h:Gx w x y mq mr e w') (h1:mq≤mq') (h2:mr≤mr'):Gx w x y mq' mr' e w':=by
 obtain ⟨a,k,c,q,a',k',c',r,g1,g2,g3,g4,g5,g6,g7,g8,g9,g10⟩:=h;exact ⟨a,k,c,q,a',k',c',r,g1,g2,g3,g4,g5,g6,g7,Ah g8 h1,Ah g9 h2,g10⟩
theorem pO (hd:RdL w a n c d) (ik:RdL w a' n' c' d') (hc:Dy d) (jf:Dy d')
  (h1:1≤n') (hn:n<35184372088830) :
  Θ 226 #[.slice a n c,.slice a' n' c'] w (Gx w (val d) (val d') (n+1) (n+1)):=by
 rcases Nat.lt_or_ge n' 2 with h2|h2
 ·obtain rfl:n'=1:=qB;have hl:=ik.len;have hp:=Yk jf hl qB;obtain ⟨x,rfl⟩:∃x,d'=[x]:=by
   match d',hl with
   | [x],_=>exact ⟨x,rfl⟩
  have hx:x<1000000000:=jf.lt x qH;have tr:0<x:=by simpa using hp
  refine (nV w a n c d a' c' x hd ik hc.lt tr hx).mono (fun e w' h=>?_);have:=h.wide (mq':=n+1) (mr':=n+1) qB qB;simpa [val] using this
 ·rcases Nat.lt_or_ge n n' with h3|h3
  ·exact (vF w a n c d a' n' c' d' hd ik hc jf h2 h3 hn).mono (fun e w' h=>h.wide (Ad _) qB)
  ·exact (uI w a n c d a' n' c' d' hd ik hc jf h2 h3 hn).mono (fun e w' h=>h.wide (Ad _) qB)
theorem Zl (x:Nat) (a':Γ) (n' c':Nat) (y:Nat) (hd:RdL w a n c (dg x)) (ik:RdL w a' n' c' (dg y)) (hy:0<y) (hn:n<35184372088830) :
  Θ 226 #[.slice a n c,.slice a' n' c'] w (Gx w x y (n+1) (n+1)):=by
 have h1:1≤n':=by
  rcases Aq n' with h|h
  ·have hl:=ik.len;have hv:=Bq y;rw [h] at hl;rw [List.eq_nil_of_length_eq_zero hl,val] at hv;omega
  ·exact h
 have:=pO w a n c (dg x) a' n' c' (dg y) hd ik (Cb x) (Cb y) h1 hn;rwa [Bq,Bq] at this
theorem Es.sz0 {w:World} {nb:Nat} (h:Es w wr ga aa na ca x gb ab nb cb y):w.heap.size<wr:=by have:=h.sz;omega
theorem Es.sz1 {w:World} {nb:Nat} (h:Es w wr ga aa na ca x gb ab nb cb y):w.heap.size+1<wr:=by have:=h.sz;omega
theorem Es.setA {w:World} {nb:Nat} (h:Es w wr ga aa na ca x gb ab nb cb y) (hx:Bh wr gx ax nx cx x') (ox:Off w (w+1+1+1) nx ax) :
  Es w ((wr.setCell (J w 0) (.bool gx)).setCell (J w 1) (.slice ax nx cx)) gx ax nx cx x' gb ab nb cb y:=by
 have s:=h.sz;have HB:=h.hb;have r0:w.heap.size≤w∧w.heap.size<w.heap.size+1+1+1:=qB;obtain ⟨b00,b01,b10,b11,z20,z21,f00,f01,f10,f11,f20,f21,na,nb,oa,ob,_,_⟩:=h;exact ⟨qO,qO,qO,qO,qO,qO,qO,qO,qO,qO,qO,qO,
  (hx.setOff ox _ _ r0.1 r0.2).setOff ox _ _ r0.1 r0.2,(nb.setOff ob _ _ r0.1 r0.2).setOff ob _ _ r0.1 r0.2,ox,ob,by simp only [Am];omega,qD⟩
theorem Es.setB {w:World} {nb:Nat} (h:Es w wr ga aa na ca x gb ab nb cb y) (hx:Bh wr gx ax nx cx x') (ox:Off w (w+1+1+1) nx ax) :
  Es w ((wr.setCell (J (w+1) 0) (.bool gx)).setCell (J (w+1) 1) (.slice ax nx cx)) ga aa na ca x gx ax nx cx x':=by
 have s:=h.sz;have HB:=h.hb;have r0:w.heap.size≤w.heap.size+1∧w.heap.size+1<w.heap.size+1+1+1:=qB;obtain ⟨b00,b01,b10,b11,z20,z21,f00,f01,f10,f11,f20,f21,na,nb,oa,ob,_,_⟩:=h;exact ⟨qO,qO,qO,qO,qO,qO,qO,qO,qO,qO,qO,qO,
  (na.setOff oa _ _ r0.1 r0.2).setOff oa _ _ r0.1 r0.2,(hx.setOff ox _ _ r0.1 r0.2).setOff ox _ _ r0.1 r0.2,oa,ox,by simp only [Am];omega,qD⟩
theorem dL (a:Γ) (n c:Nat) (z:Int) (h:Bh w g a n c z) (g':Bool) (a':Γ) (n' c':Nat) (z':Int) (h':Bh w g' a' n' c' z')
  (j5:0<z') (qv:n'<35184372088829) (br:n<35184372088829) :
  Θ 180 #[.agg #[.bool g,.slice a n c],.agg #[.bool g',.slice a' n' c']] w (Di w (Int.gcd z z':Nat)):=by
 have HB:=Ac w w;have DT:=h'.rd.off (Ad _) (w+1+1+1);have ho:=h.rd.off (Ad _) (w+1+1+1);go_enter func180,ntmps180;go_wp2_with fail;refine (Gw _ _ _ _ _ _ (h.keep qD)).mono ?_;rintro e w1 ⟨rfl,hb⟩;obtain ⟨hc,hf⟩:=Bg hb;have hz:=hb.size;(try simp only [Aj,Ak] at hz);replace HB:=zP w hb;obtain ⟨aw,bh⟩:=xd hc w g a n c;obtain ⟨bn,bo⟩:=xd hc (w+1) g' a' n' c';obtain ⟨bw,bx⟩:=zJ hc (w+1+1);obtain ⟨bz,cc⟩:=zK hf (w+1+1);obtain ⟨dy,dz⟩:=zK hf w;obtain ⟨dp,dt⟩:=zK hf (w+1);have HG:Es w w1 g a n c z g' a' n' c' z':=⟨aw,bh,bn,bo,bw,bx,dy,dz,dp,dt,bz,cc,h.keep HB,h'.keep HB,ho,DT,qB,HB⟩;clear hc hf hb hz HB aw bh bn bo bw bx dy dz dp dt bz cc;have b00:=HG.b00;have b01:=HG.b01;have b10:=HG.b10;have b11:=HG.b11;have z20:=HG.z20;have z21:=HG.z21;have f00:=HG.f00;have f01:=HG.f01;have f10:=HG.f10;have f11:=HG.f11;have f20:=HG.f20;have f21:=HG.f21;have HB:=HG.hb;have fb:=HG.sz;have qi:=HG.sz0;have qx:=HG.sz1;go_wp2_with fail;refine (Jb _ _ _ _ _ z HG.numa).mono ?_;rintro e w2 ⟨g2,a2,n2,c2,rfl,vh,j6,bp⟩;have jh:=HG.sz;clear b00 b01 b10 b11 z20 z21 f00 f01 f10 f11 f20 f21 HB fb qi qx;replace HG:=HG.keep bp;have b00:=HG.b00;have b01:=HG.b01;have b10:=HG.b10;have b11:=HG.b11;have z20:=HG.z20;have z21:=HG.z21;have f00:=HG.f00;have f01:=HG.f01;have f10:=HG.f10;have f11:=HG.f11;have f20:=HG.f20;have f21:=HG.f21;have HB:=HG.hb;have fb:=HG.sz;have qi:=HG.sz0;have qx:=HG.sz1;go_wp2_with fail;clear b00 b01 b10 b11 z20 z21 f00 f01 f10 f11 f20 f21 HB fb qi qx;replace HG:=HG.setA vh (j6.off vh.rd _ qB);have hfa:Bc (w+1+1+1) ((w2.setCell (J w 0) (.bool g2)).setCell (J w 1) (.slice a2 n2 c2)) a2 c2:=((j6.mono qB).setNew _ _ (by show w.heap.size<_;omega)).setNew _ _ (by show w.heap.size<_;omega);generalize ((w2.setCell (J w 0) (.bool g2)).setCell (J w 1) (.slice a2 n2 c2))=w3 at *;have b00:=HG.b00;have b01:=HG.b01;have b10:=HG.b10;have b11:=HG.b11;have z20:=HG.z20;have z21:=HG.z21;have f00:=HG.f00;have f01:=HG.f01;have f10:=HG.f10;have f11:=HG.f11;have f20:=HG.f20;have f21:=HG.f21;have HB:=HG.hb;have fb:=HG.sz;have qi:=HG.sz0;have qx:=HG.sz1;refine (Gw _ _ _ _ _ _ HG.numb).mono ?_;rintro e w4 ⟨rfl,ec⟩;clear b00 b01 b10 b11 z20 z21 f00 f01 f10 f11 f20 f21 HB fb qi qx;replace HG:=HG.keep ec;have b00:=HG.b00;have b01:=HG.b01;have b10:=HG.b10;have b11:=HG.b11;have z20:=HG.z20;have z21:=HG.z21;have f00:=HG.f00;have f01:=HG.f01;have f10:=HG.f10;have f11:=HG.f11;have f20:=HG.f20;have f21:=HG.f21;have HB:=HG.hb;have fb:=HG.sz;have qi:=HG.sz0;have qx:=HG.sz1;go_wp2_with fail;refine (Jb _ _ _ _ _ z' HG.numb).mono ?_;rintro e w5 ⟨g5,a5,n5,c5,rfl,FE,np,dx⟩;have hs4:=HG.sz
 clear b00 b01 b10 b11 z20 z21 f00 f01 f10 f11 f20 f21 HB fb qi qx;replace HG:=HG.keep dx;have b00:=HG.b00;have b01:=HG.b01;have b10:=HG.b10;have b11:=HG.b11;have z20:=HG.z20;have z21:=HG.z21;have f00:=HG.f00;have f01:=HG.f01;have f10:=HG.f10;have f11:=HG.f11;have f20:=HG.f20;have f21:=HG.f21;have HB:=HG.hb;have fb:=HG.sz;have qi:=HG.sz0;have qx:=HG.sz1;go_wp2_with fail;clear b00 b01 b10 b11 z20 z21 f00 f01 f10 f11 f20 f21 HB fb qi qx;replace HG:=HG.setB FE (np.off FE.rd _ qB);have JI:n2<35184372088829:=by have h1:=vh.rd.len;have h2:=h.rd.len;omega
 have hl5:n5<35184372088829:=by have h1:=FE.rd.len;have h2:=h'.rd.len;omega
 have hfb:Bc (w+1+1+1) ((w5.setCell (J (w+1) 0) (.bool g5)).setCell (J (w+1) 1) (.slice a5 n5 c5)) a5 c5:=((np.mono qB).setNew _ _ (by show w.heap.size+1<_;omega)).setNew _ _ (by show w.heap.size+1<_;omega);have acf:Bc (w+1+1+1) ((w5.setCell (J (w+1) 0) (.bool g5)).setCell (J (w+1) 1) (.slice a5 n5 c5)) a2 c2:=((((hfa.keep ec).keep dx)).setNew _ _ (by show w.heap.size+1<_;omega)).setNew _ _ (by show w.heap.size+1<_;omega);generalize ((w5.setCell (J (w+1) 0) (.bool g5)).setCell (J (w+1) 1) (.slice a5 n5 c5))=w6 at *;have HG6:=HG;clear HG vh bp ec FE dx;go_loopw [] (fun wr=>∃ga aa na ca x gb ab nb cb y,Es w wr ga aa na ca x gb ab nb cb y∧0≤y∧nb<35184372088829∧na<35184372088829∧Hid (Int.gcd x y=Int.gcd z z')∧Bc (w+1+1+1) wr aa ca∧Bc (w+1+1+1) wr ab cb)
  (fun wr=>gF wr (w+1))
 case atStart=>exact ⟨g2,a2,n2,c2,z,g5,a5,n5,c5,z',HG6,qB,hl5,JI,Ae rfl,acf,hfb⟩
 case round =>
  obtain ⟨ga,aa,na,ca,x,gb,ab,nb,cb,y,HG,hy,uh,hna,VH,hFa,hFb⟩:=hrel;clear HG6 acf hfb hfa j6 np;have b00:=HG.b00;have b01:=HG.b01;have b10:=HG.b10;have b11:=HG.b11;have z20:=HG.z20;have z21:=HG.z21;have f00:=HG.f00;have f01:=HG.f01;have f10:=HG.f10;have f11:=HG.f11;have f20:=HG.f20;have f21:=HG.f21;have HB:=HG.hb;have fb:=HG.sz;have qi:=HG.sz0;have qx:=HG.sz1;have ach:=Ae ((Qc b11 HG.numb.rd).trans (Bq _));by_cases ss:nb=0
  ·have hyz:y=0:=Decidable.byContradiction fun e=>HG.numb.ne.2 e ss
   subst ss;have HYZ:=Ae hyz;clear hyz;go_wp2_with fail;refine (Hb _ false aa na ca (dg x.natAbs) HG.numa.rd (D0 _)).mono ?_;rintro e w7 ⟨g3,n3,rfl,ll,ic,iw⟩;clear b00 b01 b10 b11 z20 z21 f00 f01 f10 f11 f20 f21 HB fb qi qx;replace HG:=HG.keep iw;have b00:=HG.b00;have b01:=HG.b01;have b10:=HG.b10;have b11:=HG.b11;have z20:=HG.z20;have z21:=HG.z21;have f00:=HG.f00;have f01:=HG.f01;have f10:=HG.f10;have f11:=HG.f11;have f20:=HG.f20;have f21:=HG.f21;have HB:=HG.hb;have fb:=HG.sz;have qi:=HG.sz0;have qx:=HG.sz1;go_wp2_with fail;refine bodyPost_ret (v:=.agg #[.bool g3,.slice aa n3 ca]) (by simp [results,results180,go_sem,z20,z21]) rfl ?_;have hval:sgn false (val (dg x.natAbs))=((Int.gcd z z':Nat):Int):=by rw [←VH.out,HYZ.out,Bq];simp [sgn]
   rw [hval] at ic;have sq:=hFa.keep iw;refine ⟨g3,aa,n3,ca,rfl,?_,?_,qD⟩
   ·exact qBz
   ·exact qBp
  ·have hyp:0<y:=by have:=HG.numb.ne.1 ss;omega
   have al0:0<nb:=qB;go_wp2_with fail;refine (oU wr ga aa na ca x HG.numa gb ab nb cb y HG.numb hyp (na+1) (na+1) qB qB qB (fun W hW=>Zl W aa na ca x.natAbs ab nb cb y.natAbs (HG.numa.rd.keep hW) (HG.numb.rd.keep hW) qB qB)).mono ?_;rintro e w7 ⟨gq,aq,nq,cq,gr,ar,nr,cr,rfl,hq,hr,rj,eh,iw⟩;have BG:=HG.sz;clear b00 b01 b10 b11 z20 z21 f00 f01 f10 f11 f20 f21 HB fb qi qx;replace HG:=HG.keep iw;have b00:=HG.b00;have b01:=HG.b01;have b10:=HG.b10;have b11:=HG.b11;have z20:=HG.z20;have z21:=HG.z21;have f00:=HG.f00;have f01:=HG.f01;have f10:=HG.f10;have f11:=HG.f11;have f20:=HG.f20;have f21:=HG.f21;have HB:=HG.hb;have fb:=HG.sz;have qi:=HG.sz0;have qx:=HG.sz1;have azm:=hFa.keep iw;have al1:=hFb.keep iw;have PL:Bc (w+1+1+1) w7 ar cr:=eh.mono qB;have NT:nr<35184372088829:=by
    have h1:=hr.rd.len;have h2:=HG.numb.rd.len;have h3:=Int.emod_lt_of_pos x hyp;have h4:=Int.emod_nonneg x (show y≠0 from qB);have h5:=Bu (a:=(x%y).natAbs) (b:=y.natAbs) qB;omega
   have AL:=Int.emod_nonneg x (show y≠0 from qB);have yf:=Int.emod_lt_of_pos x hyp;have SH:=Ae ((Tu x y).trans VH.out);clear hq rj;go_wp2_with fail;have GM:=PL.off hr.rd w (Ad _);have HG8:=(HG.setA HG.numb HG.offb).setB ((hr.setOff GM (J w 0) (.bool gb) (Ad _) (by show w.heap.size<_;omega)).setOff GM (J w 1) (.slice ab nb cb) (Ad _) (by show w.heap.size<_;omega)) GM;have p0:w.heap.size<w.heap.size+1+1+1:=qB;have p1:w.heap.size+1<w.heap.size+1+1+1:=qB;have al2:=al1.set4 (J w 0) (J w 1) (J (w+1) 0) (J (w+1) 1) (.bool gb) (.slice ab nb cb) (.bool gr) (.slice ar nr cr) p0 p0 p1 p1;have al3:=PL.set4 (J w 0) (J w 1) (J (w+1) 0) (J (w+1) 1) (.bool gb) (.slice ab nb cb) (.bool gr) (.slice ar nr cr) p0 p0 p1 p1;generalize ((((w7.setCell (J w 0) (.bool gb)).setCell (J w 1) (.slice ab nb cb)).setCell (J (w+1) 0) (.bool gr)).setCell (J (w+1) 1) (.slice ar nr cr))=w8 at *;have hbe:xp w8 ((w8.alloc (.cells #[.bool gq,.slice aq nq cq] 51)).alloc (.cells #[.bool gr,.slice ar nr cr] 51)):=((Ac _ _).alloc (Ad _) _).alloc qH _;have HG9:=HG8.keep hbe;have al4:=al2.keep hbe;have al5:=al3.keep hbe;clear HG HG8 b00 b01 b10 b11 z20 z21 f00 f01 f10 f11 f20 f21 GM;go_roundw
   case rel =>
    refine ⟨gb,ab,nb,cb,y,gr,ar,nr,cr,x%y,HG9,AL,NT,qB,SH,al4,al5⟩
   case measure =>
    rw [Qc HG9.b11 HG9.numb.rd,Bq,ach.out];omega
theorem xQ:dg 1=[1]:=by rw [Hq qB,show 1/1000000000=0 from rfl,Dv]
theorem Um (a:Γ) (n c:Nat) (z:Int) (h:Bh w g a n c z) :
  Θ 179 #[.agg #[.bool g,.slice a n c]] w fun e w'=>e=.returned (.bool (decide (z=1)))∧xp w w':=by
 have hl:=h.rd.len;have hg:=h.neg;cases g
 ·have hz:¬z<0:=by simpa using hg.symm
  by_cases hn:n=1
  ·subst hn;obtain ⟨b,o,rfl,c1⟩:=h.rd.at' (i:=0) qB;obtain ⟨x,hx⟩:∃x,dg z.natAbs=[x]:=List.length_eq_one_iff.1 hl;have hv:=Bq z.natAbs;rw [hx] at c1 hv;rw [show lim [x] 0=(x:Int) from rfl,Nat.add_zero] at c1;have hxz:(x:Int)=z:=by simp [val] at hv;omega
   have AI:=D0 z.natAbs x (by rw [hx];simp);by_cases ed:z=1
   ·have HR:=Ae (show decide (z=1)=true from decide_eq_true ed);obtain rfl:x=1:=qB;exact qFv
   ·have HR:=Ae (show decide (z=1)=false from decide_eq_false ed);have SD:((x:Int)==1)=false:=by rw [beq_eq_false_iff_ne];omega
    exact qFv
  ·have ed:z≠1:=by
    intro e;rw [e,show (1:Int).natAbs=1 from rfl,xQ] at hl;exact hn hl.symm
   have HR:=Ae (show decide (z=1)=false from decide_eq_false ed);have qv:((n:Int)==1)=false:=by rw [beq_eq_false_iff_ne];omega
   clear ed hg hl hn;go_enter func179,ntmps179;exact qCa
 ·have hz:z<0:=by simpa using hg.symm
  have HR:=Ae (show decide (z=1)=false from decide_eq_false qB);clear hg hl;go_enter func179,ntmps179;exact qCa
theorem Fs (h1:RdL w a1 n1 c1 d1) (g2:Bool) (a2:Γ) (n2 c2:Nat) (d2:Ξ) (h2:RdL w a2 n2 c2 d2) (hs:n2<35184372088829) (br:n1<35184372088829) (r:Bool) (hr:FOk g1 d1 g2 d2↔r=true) :
  Θ 107 #[.agg #[.bool g1,.slice a1 n1 c1,.bool g2,.slice a2 n2 c2]] w fun e w'=>e=.returned (.bool r)∧xp w w':=by
 have HB:=Ac w w;by_cases o1:Lf g1 d1
 ·by_cases o2:Lf g2 d2
  ·have N1:=Fa h1 o1;have N2:=Fa h2 o2;have qy:=bN o2;have uw:=@FOk.gcd g1 d1 g2 d2;generalize (if g1 then -(val d1:Int) else (val d1:Int))=z1 at *;generalize (if g2 then -(val d2:Int) else (val d2:Int))=z2 at *;have O1:=Ae o1;have O2:=Ae o2;clear o1 o2;by_cases hp:0<z2
   ·have xx:Bz z2 0=1:=C7 hp;have HP:=Ae (qy.1 hp);clear qy;have HR:=Ae hr;have HG:=Ae uw;clear hr uw;go_enter func107,ntmps107;go_wp2_with fail;refine (E8 _ _ _ _ _ d1 (h1.keep qD) true ⟨fun _=>rfl,fun _=>O1.out⟩).mono ?_;rintro e w1 ⟨rfl,hb⟩;obtain ⟨hc,hf⟩:=Bg hb;have hz:=hb.size;(try simp only [Aj,Ak] at hz);replace HB:=zP w hb;obtain ⟨aw,bh,ei,ej⟩:=xe hc w g1 a1 n1 c1 g2 a2 n2 c2;clear hc hf hb;go_wp2_with fail;refine (E8 _ _ _ _ _ d2 (h2.keep qD) true ⟨fun _=>rfl,fun _=>O2.out⟩).mono ?_;rintro e w2 ⟨rfl,hb⟩;obtain ⟨hc,hf⟩:=Bg hb;have hz:=hb.size;(try simp only [Aj,Ak] at hz);replace HB:=zP w hb;obtain ⟨aw,bh,ei,ej⟩:=xe hc w g1 a1 n1 c1 g2 a2 n2 c2;clear hc hf hb;go_wp2_with fail;refine (K5 _ _ _ _ _ z2 (N2.keep qD)).mono ?_;rintro e w3 ⟨rfl,hb⟩;obtain ⟨hc,hf⟩:=Bg hb;have hz:=hb.size;(try simp only [Aj,Ak] at hz);replace HB:=zP w hb;obtain ⟨aw,bh,ei,ej⟩:=xe hc w g1 a1 n1 c1 g2 a2 n2 c2;clear hc hf hb;rw [xx];go_wp2_with fail;refine (Um _ _ _ _ _ z2 (N2.keep qD)).mono ?_;rintro e w3 ⟨rfl,hb⟩;obtain ⟨hc,hf⟩:=Bg hb;have hz:=hb.size;(try simp only [Aj,Ak] at hz);replace HB:=zP w hb;obtain ⟨aw,bh,ei,ej⟩:=xe hc w g1 a1 n1 c1 g2 a2 n2 c2;clear hc hf hb;by_cases h20:z2=1
    ·have H21:=Ae h20;rw [decide_eq_true h20];clear h20;go_wp2_with fail;go_ret;refine ⟨?_,HB⟩;have hr:=HR.out;have e1:FOk g1 d1 g2 d2↔((z1.gcd z2:Nat):Int)=1:=qGc;have:=hr.1 (e1.2 (by rw [H21.out,Int.gcd_one];rfl));rw [this];rfl
    rw [decide_eq_false h20];clear h20;go_wp2_with fail;refine (dL _ _ _ _ _ z1 (N1.keep qD) _ _ _ _ z2 (N2.keep qD) hp hs br).mono ?_;rintro e w4 ⟨g3,a3,n3,c3,rfl,ll,_,hb⟩;obtain ⟨hc,hf⟩:=Bg hb;have hz:=hb.size;(try simp only [Aj,Ak] at hz);replace HB:=zP w hb;obtain ⟨aw,bh,ei,ej⟩:=xe hc w g1 a1 n1 c1 g2 a2 n2 c2;clear hc hf hb;go_wp2_with fail;refine (Um _ _ _ _ _ _ ll).mono ?_;exact qBc
   ·have xx:decide (0<Bz z2 0)=false:=by rw [decide_eq_false_iff_not,aN];exact hp
    have mf:r=false:=by
     cases r
     ·rfl
     ·have:=hr.2 rfl;exact absurd (qy.2 ⟨this.2.2.1,this.2.2.2.1⟩) hp
    subst mf;clear hr qy uw hp;go_enter func107,ntmps107;go_wp2_with fail;refine (E8 _ _ _ _ _ d1 (h1.keep qD) true ⟨fun _=>rfl,fun _=>O1.out⟩).mono ?_;rintro e w1 ⟨rfl,hb⟩;obtain ⟨hc,hf⟩:=Bg hb;have hz:=hb.size;(try simp only [Aj,Ak] at hz);replace HB:=zP w hb;obtain ⟨aw,bh,ei,ej⟩:=xe hc w g1 a1 n1 c1 g2 a2 n2 c2;clear hc hf hb;go_wp2_with fail;refine (E8 _ _ _ _ _ d2 (h2.keep qD) true ⟨fun _=>rfl,fun _=>O2.out⟩).mono ?_;rintro e w2 ⟨rfl,hb⟩;obtain ⟨hc,hf⟩:=Bg hb;have hz:=hb.size;(try simp only [Aj,Ak] at hz);replace HB:=zP w hb;obtain ⟨aw,bh,ei,ej⟩:=xe hc w g1 a1 n1 c1 g2 a2 n2 c2;clear hc hf hb;go_wp2_with fail;refine (K5 _ _ _ _ _ z2 (N2.keep qD)).mono ?_;rintro e w3 ⟨rfl,hb⟩;exact qAo
  ·have mf:r=false:=by
    cases r
    ·rfl
    ·exact absurd (hr.2 rfl).2.1 o2
   subst mf;have O1:=Ae o1;have O2:=Ae o2;clear hr o1 o2;go_enter func107,ntmps107;go_wp2_with fail;refine (E8 _ _ _ _ _ d1 (h1.keep qD) true ⟨fun _=>rfl,fun _=>O1.out⟩).mono ?_;rintro e w1 ⟨rfl,hb⟩;obtain ⟨hc,hf⟩:=Bg hb;have hz:=hb.size;(try simp only [Aj,Ak] at hz);replace HB:=zP w hb;obtain ⟨aw,bh,ei,ej⟩:=xe hc w g1 a1 n1 c1 g2 a2 n2 c2;clear hc hf hb;go_wp2_with fail;refine (E8 _ _ _ _ _ d2 (h2.keep qD) false ⟨fun e=>absurd e O2.out,fun e=>(by cases e)⟩).mono ?_;rintro e w2 ⟨rfl,hb⟩;exact qAo
 ·have mf:r=false:=by
   cases r
   ·rfl
   ·exact absurd (hr.2 rfl).1 o1
  subst mf;have O1:=Ae o1;clear hr o1;go_enter func107,ntmps107;go_wp2_with fail;refine (E8 _ _ _ _ _ d1 (h1.keep qD) false ⟨fun e=>absurd e O1.out,fun e=>(by cases e)⟩).mono ?_;rintro e w1 ⟨rfl,hb⟩;exact qAo
theorem Kt (h:Bo w g1 a1 n1 c1 p g2 a2 n2 c2 q) (hs:n2<35184372088829) (br:n1<35184372088829) :
  Θ 190 #[.agg #[.bool g1,.slice a1 n1 c1,.bool g2,.slice a2 n2 c2]] w fun e w'=>e=.returned (.agg #[.bool g1,.slice a1 n1 c1,.bool g2,.slice a2 n2 c2])∧xp w w':=by
 have HB:=Ac w w;have HO:=Ae h.ok;go_enter func190,ntmps190;go_wp2_with fail;refine (Fs _ _ _ _ _ _ (h.top.rd.keep qD) _ _ _ _ _ (h.low.rd.keep qD) hs br true ⟨fun _=>rfl,fun _=>HO.out⟩).mono ?_;rintro e w1 ⟨rfl,hb⟩;obtain ⟨hc,hf⟩:=Bg hb;have hz:=hb.size;(try simp only [Aj,Ak] at hz);replace HB:=zP w hb;obtain ⟨aw,bh,ei,ej⟩:=xe hc w g1 a1 n1 c1 g2 a2 n2 c2;obtain ⟨bn,bo,im,s1_3⟩:=xf hc (w+1);obtain ⟨bn,bo,im,s1_3⟩:=xf hc (w+1);obtain ⟨dp,dt,jz,kh⟩:=xg hf (w+1);have qp:w.heap.size<w1:=qB;have jy:w.heap.size+1<w1:=qB;clear hc hf hb;go_wp2_with fail;refine bodyPost_ret (v:=.agg #[.bool g1,.slice a1 n1 c1,.bool g2,.slice a2 n2 c2]) (by simp [results,results190,go_sem,bn,bo,im,s1_3]) rfl ?_;exact ⟨rfl,qD⟩
theorem Hy (h:Bo w g1 a1 n1 c1 p g2 a2 n2 c2 q) (hs:n2<35184372088829) (br:n1<35184372088829) :
  Θ 175 #[.agg #[.bool g1,.slice a1 n1 c1,.bool g2,.slice a2 n2 c2]] w fun e w'=>e=.returned (M (Bz p 0))∧xp w w':=by
 have HB:=Ac w w;go_enter func175,ntmps175;go_wp2_with fail;refine (Kt _ _ _ _ _ _ _ _ _ _ _ (h.keep qD) hs br).mono ?_;rintro e w1 ⟨rfl,hb⟩;obtain ⟨hc,hf⟩:=Bg hb;have hz:=hb.size;(try simp only [Aj,Ak] at hz);replace HB:=zP w hb
 
 clear hc hf hb;go_wp2_with fail;refine (K5 _ _ _ _ _ _ (h.top.keep qD)).mono ?_;exact qCv
def Hs (w:World) (p q:Int) (e:Ending) (w':World):Prop :=
 ∃g1 a1 n1 c1 g2 a2 n2 c2,e=.returned (.agg #[.bool g1,.slice a1 n1 c1,.bool g2,.slice a2 n2 c2])∧Bo w' g1 a1 n1 c1 p g2 a2 n2 c2 q∧Bc w w' a1 c1∧Bc w w' a2 c2∧xp w w'
theorem iB (h:Bo w g1 a1 n1 c1 p g2 a2 n2 c2 q) (hs:n2<35184372088829) (br:n1<35184372088829) :
  Θ 177 #[.agg #[.bool g1,.slice a1 n1 c1,.bool g2,.slice a2 n2 c2]] w (Hs w (-p) q):=by
 have HB:=Ac w w;go_enter func177,ntmps177;go_wp2_with fail;refine (Kt _ _ _ _ _ _ _ _ _ _ _ (h.keep qD) hs br).mono ?_;rintro e w1 ⟨rfl,hb⟩;obtain ⟨hc,hf⟩:=Bg hb;have hz:=hb.size;(try simp only [Aj,Ak] at hz);replace HB:=zP w hb;obtain ⟨aw,bh,ei,ej⟩:=xe hc w g1 a1 n1 c1 g2 a2 n2 c2;obtain ⟨bn,bo,im,s1_3⟩:=xf hc (w+1);obtain ⟨dp,dt,jz,kh⟩:=xg hf (w+1);obtain ⟨dy,dz,mj,ml⟩:=xg hf w;have jy:w.heap.size+1<w1:=qB;have qp:w.heap.size<w1:=qB;clear hc hf hb hz;go_upto_region 2 with fail
 have fg:xp w ((((w1.setCell (J w 0) (.bool g1)).setCell (J w 1) (.slice a1 n1 c1)).setCell (J w 2) (.bool g2)).setCell (J w 3) (.slice a2 n2 c2)):=qD;have l9:w.heap.size+1<((((w1.setCell (J w 0) (.bool g1)).setCell (J w 1) (.slice a1 n1 c1)).setCell (J w 2) (.bool g2)).setCell (J w 3) (.slice a2 n2 c2)).heap.size:=qL;have PA:Z ((((w1.setCell (J w 0) (.bool g1)).setCell (J w 1) (.slice a1 n1 c1)).setCell (J w 2) (.bool g2)).setCell (J w 3) (.slice a2 n2 c2)) w 0 (.bool g1):=qO;have PD:Z ((((w1.setCell (J w 0) (.bool g1)).setCell (J w 1) (.slice a1 n1 c1)).setCell (J w 2) (.bool g2)).setCell (J w 3) (.slice a2 n2 c2)) w 1 (.slice a1 n1 c1):=qO;have azp:Z ((((w1.setCell (J w 0) (.bool g1)).setCell (J w 1) (.slice a1 n1 c1)).setCell (J w 2) (.bool g2)).setCell (J w 3) (.slice a2 n2 c2)) w 2 (.bool g2):=qO;have azq:Z ((((w1.setCell (J w 0) (.bool g1)).setCell (J w 1) (.slice a1 n1 c1)).setCell (J w 2) (.bool g2)).setCell (J w 3) (.slice a2 n2 c2)) w 3 (.slice a2 n2 c2):=qO;have PE:Z ((((w1.setCell (J w 0) (.bool g1)).setCell (J w 1) (.slice a1 n1 c1)).setCell (J w 2) (.bool g2)).setCell (J w 3) (.slice a2 n2 c2)) (w+1) 0 (.bool false):=qO;have azr:Y ((((w1.setCell (J w 0) (.bool g1)).setCell (J w 1) (.slice a1 n1 c1)).setCell (J w 2) (.bool g2)).setCell (J w 3) (.slice a2 n2 c2)) (w+1) 0:=qO;have PF:Z ((((w1.setCell (J w 0) (.bool g1)).setCell (J w 1) (.slice a1 n1 c1)).setCell (J w 2) (.bool g2)).setCell (J w 3) (.slice a2 n2 c2)) (w+1) 1 (.slice none 0 0):=qO;have azs:Y ((((w1.setCell (J w 0) (.bool g1)).setCell (J w 1) (.slice a1 n1 c1)).setCell (J w 2) (.bool g2)).setCell (J w 3) (.slice a2 n2 c2)) (w+1) 1:=qO;have azt:Z ((((w1.setCell (J w 0) (.bool g1)).setCell (J w 1) (.slice a1 n1 c1)).setCell (J w 2) (.bool g2)).setCell (J w 3) (.slice a2 n2 c2)) (w+1) 2 (.bool false):=qO;have azu:Y ((((w1.setCell (J w 0) (.bool g1)).setCell (J w 1) (.slice a1 n1 c1)).setCell (J w 2) (.bool g2)).setCell (J w 3) (.slice a2 n2 c2)) (w+1) 2:=qO
 have azv:Z ((((w1.setCell (J w 0) (.bool g1)).setCell (J w 1) (.slice a1 n1 c1)).setCell (J w 2) (.bool g2)).setCell (J w 3) (.slice a2 n2 c2)) (w+1) 3 (.slice none 0 0):=qO;have azw:Y ((((w1.setCell (J w 0) (.bool g1)).setCell (J w 1) (.slice a1 n1 c1)).setCell (J w 2) (.bool g2)).setCell (J w 3) (.slice a2 n2 c2)) (w+1) 3:=qO;generalize ((((w1.setCell (J w 0) (.bool g1)).setCell (J w 1) (.slice a1 n1 c1)).setCell (J w 2) (.bool g2)).setCell (J w 3) (.slice a2 n2 c2))=w2 at *;clear aw bh ei ej bn bo im s1_3 dp dt jz kh dy dz mj ml HB;have HB:=fg;have h2:=h.keep fg;go_region_held3 (fun W=>Z W w 0 (.bool g1)∧Z W w 1 (.slice a1 n1 c1)∧Z W w 2 (.bool g2)∧Z W w 3 (.slice a2 n2 c2)) (exact qK) (first
  | (go_at_call 182;(with_reducible refine (Yg _ _ _ _ _ p (h2.top.keep qD)).mono ?_);rintro e w3 ⟨g3,a3,n3,c3,rfl,ll,mi,hb⟩;obtain ⟨hc,hf⟩:=Bg hb;have hz:=hb.size;(try simp only [Aj,Ak,Am] at hz);replace HB:=zP w hb;obtain ⟨aw,bh,ei,ej⟩:=xe hc w g1 a1 n1 c1 g2 a2 n2 c2;obtain ⟨bn,bo,im,s1_3⟩:=xf hc (w+1);obtain ⟨dp,dt,jz,kh⟩:=xg hf (w+1))
  | (go_at_call 183;(with_reducible refine (Jb _ _ _ _ _ q (h.low.keep HB)).mono ?_);rintro e w4 ⟨g4,a4,n4,c4,rfl,JF,uu,hb⟩;obtain ⟨hc,hf⟩:=Bg hb;have hz:=hb.size;(try simp only [Aj,Ak,Am] at hz);replace HB:=zP w hb;obtain ⟨aw,bh,ei,ej⟩:=xe hc w g1 a1 n1 c1 g2 a2 n2 c2;obtain ⟨bn,bo,im,s1_3⟩:=xf hc (w+1);obtain ⟨dp,dt,jz,kh⟩:=xg hf (w+1);have il:xp w3 w4:=Al qD (hb.mono qU);have GN:=ll.keep il;have ack:=mi.keep il;have NX:=ack.mono (B':=w.heap.size+1+1) qU;have hu4:=uu.mono (B':=w.heap.size+1+1) qU))
 all_goals go_wp2_with fail
 refine bodyPost_ret (v:=.agg #[.bool g3,.slice a3 n3 c3,.bool g4,.slice a4 n4 c4]) (by simp [results,results177,go_sem,bn,bo,im,s1_3]) rfl ?_;have u:w.heap.size+1<w.heap.size+1+1:=Ag _;refine ⟨g3,a3,n3,c3,g4,a4,n4,c4,rfl,⟨?_,?_,h.pos,?_⟩,?_,?_,qD⟩
 ·exact GN.set4 NX (J (w+1) 0) (J (w+1) 1) (J (w+1) 2) (J (w+1) 3) _ _ _ _ u u u u
 ·exact JF.set4 hu4 (J (w+1) 0) (J (w+1) 1) (J (w+1) 2) (J (w+1) 3) _ _ _ _ u u u u
 ·have:=h.red;simpa [Int.gcd] using this
 ·exact (NX.set4 (J (w+1) 0) (J (w+1) 1) (J (w+1) 2) (J (w+1) 3) _ _ _ _ u u u u).mono qB
 ·exact (hu4.set4 (J (w+1) 0) (J (w+1) 1) (J (w+1) 2) (J (w+1) 3) _ _ _ _ u u u u).mono qB
end Go.Proofs.YtfijkfdfbnfmmaaGreatDoor
end
