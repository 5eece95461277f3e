/- The document's answer, layer 1: Of, Twin, Neg, order. -/
import Derived.Test.YtfijkfdfbnfmmaaGreatDoorQF11
set_option linter.unusedSimpArgs false
set_option linter.unusedVariables false
set_option maxRecDepth 100000
set_option maxHeartbeats 4000000
section
namespace Go.Proofs.YtfijkfdfbnfmmaaGreatDoor
open Go.RowKit Proofs.Tryz
variable (w:World) (A:Nat) (g:Bool) (a:Γ) (n c:Nat) (d:Ξ) (a':Γ)
theorem tG (hA:A≤9223372036854775807):Θ 111 #[M (A:Int)] w (Di w (A:Int)):=by
 obtain ⟨i0,hi,dw,ed,en⟩:=info_parts Dl;have HB:=Ac w w;go_enter func111,ntmps111;go_wp2_with fail;go_loopw [4,5] (fun v3 v4 wr=>∃(l:Ξ) (v:Nat),v3=.int .u64 v∧Hid (val l+1000000000 ^ l.length*v=A)∧l.length≤3∧v≤9223372036854775808∧(∀x∈l,x<1000000000)∧wr.ownsRow (w+1) 129 1 v4 l.length (Cg l)∧w.heap.size<wr∧Z wr w 0 (.bool false)∧Z wr w 1 (.slice none 0 0)∧Y wr w 0∧Y wr w 1∧xp w wr) (fun v3 _ _=>(intOf v3).toNat)
 case atStart=>exact ⟨[],A,(by first|rfl|exact congrArg (Value.int .u64) (Pn A hA OY)),Ae (by simp [val]),qH,qB,fun x hx=>(by cases hx),World.ownsRow_nil _ _ _ _,qH,qJ,qJ,qJ,qJ,qD⟩
 case round =>
  obtain ⟨l,v,rfl,hv,UR,hvb,bj,ah,pb,k0,k1,f0,f1,HB⟩:=hrel;have qu:=HB.size;have sr:=Ae bj;clear bj;by_cases hp:0<v
  ·exact qAj
  ·obtain rfl:v=0:=qB;have NQ:=Ae (show val l=A by have:=hv.out;simpa using this);obtain ⟨a',c',rfl,hr,eh⟩:=Er ah qB (fun i=>By (fun x hx=>by have:=sr.out x hx;omega) i);go_wp2_with fail;refine (Hb _ false a' l.length c' l hr sr.out).mono ?_;exact qBb
theorem tX (hA:A≤9223372036854775808) (OY:0<A):Θ 111 #[M (-(A:Int))] w (Di w (-(A:Int))):=by
 obtain ⟨i0,hi,dw,ed,en⟩:=info_parts Dl;have HB:=Ac w w;have tj:-(A:Int)<0:=qB;have abu:-9223372036854775808≤-(A:Int):=qB;go_enter func111,ntmps111;go_wp2_with fail;go_loopw [4,5] (fun v3 v4 wr=>∃(l:Ξ) (v:Nat),v3=.int .u64 v∧Hid (val l+1000000000 ^ l.length*v=A)∧l.length≤3∧v≤9223372036854775808∧(∀x∈l,x<1000000000)∧wr.ownsRow (w+1) 129 1 v4 l.length (Cg l)∧w.heap.size<wr∧Z wr w 0 (.bool false)∧Z wr w 1 (.slice none 0 0)∧Y wr w 0∧Y wr w 1∧xp w wr) (fun v3 _ _=>(intOf v3).toNat)
 case atStart=>exact ⟨[],A,(by first|rfl|exact congrArg (Value.int .u64) (Pn A hA OY)),Ae (by simp [val]),qH,qB,fun x hx=>(by cases hx),World.ownsRow_nil _ _ _ _,qH,qJ,qJ,qJ,qJ,qD⟩
 case round =>
  obtain ⟨l,v,rfl,hv,UR,hvb,bj,ah,pb,k0,k1,f0,f1,HB⟩:=hrel;have qu:=HB.size;have sr:=Ae bj;clear bj;by_cases hp:0<v
  ·exact qAj
  ·obtain rfl:v=0:=qB;have NQ:=Ae (show val l=A by have:=hv.out;simpa using this);obtain ⟨a',c',rfl,hr,eh⟩:=Er ah qB (fun i=>By (fun x hx=>by have:=sr.out x hx;omega) i);go_wp2_with fail;refine (Hb _ true a' l.length c' l hr sr.out).mono ?_;exact qBb
theorem rU (z:Int) (h0:-9223372036854775808≤z) (h1:z≤9223372036854775807):Θ 111 #[M z] w (Di w z):=by
 rcases Int.lt_or_le z 0 with h|h
 ·obtain ⟨A,rfl⟩:∃A:Nat,z=-(A:Int):=⟨z.natAbs,qB⟩;exact tX w A qB qB
 ·obtain ⟨A,rfl⟩:=Int.eq_ofNat_of_zero_le h;exact tG w A qB
theorem Jb (z:Int) (h:Bh w g a n c z) :
  Θ 183 #[.agg #[.bool g,.slice a n c]] w (Di w z):=by
 obtain ⟨i0,hi,dw,ed,en⟩:=info_parts Dl;have HB:=Ac w w;have hn:=h.bound;have hd:=h.rd;have hlen:=hd.len;have oz:=hd.cap;have HG:=Ae h.neg;rcases Aq n with rfl|hp
 ·have HD:=Ae (List.eq_nil_of_length_eq_zero hlen);clear hlen hd;go_enter func183,ntmps183;go_wp2_with fail;go_region_held3 (fun W=>Z W w 0 (.bool g)∧Z W w 1 (.slice a 0 c)) (exact qK) ((refine Np rfl _ _ _ rfl (w+1) 129 i0 1 underlying49 hi (.slice none 0 0) 0 [] qM (World.ownsRow_nil _ _ _ _) a c qM ?_));go_wp2_with fail;refine bodyPost_ret (v:=.agg #[.bool g,.slice none 0 0]) (by simp [results,results183,go_sem]) rfl ?_;refine ⟨g,none,0,0,rfl,⟨HG.out,?_⟩,.nil _ _ _,qD⟩;rw [HD.out];exact ⟨rfl,Ad _,qB,qB,fun i=>by simp [lim],.inl rfl⟩
 ·obtain ⟨b,o,rfl,_⟩:=hd.cell.resolve_left qB;have sj:=Ae (fun (W:World) (hW:xp w W)=>Jy (hd.keep hW));go_enter func183,ntmps183;go_wp2_with fail;go_region_held3 (fun W=>Z W w 0 (.bool g)∧Z W w 1 (.slice (some ⟨b,o,none⟩) n c)) (exact qK) ((refine step_append_lies _ qM _ _ _ qM (w+1+1) 129 i0 (.int .u32 0) 1 4 underlying49 hi dw ed en rfl qB (.slice none 0 0) 0 [] qM (World.ownsRow_nil _ _ _ _) (J b o) n c (Cg (dg z.natAbs)) qM (by rw [C5,hlen];omega) (sj.out _ qD) (Mf _) hp qN qB qA _ rfl ?_;intro gg cap w1 du vy jn bj;have hb:=(Ac _ _).grown vy (Ad _) (fun k h=>by cases h);obtain ⟨hc,hf⟩:=Bg hb;have hz:=hb.size;(try simp only [Aj,Ak] at hz);replace HB:=zP w hb;obtain ⟨aw,bh⟩:=xd hc w g (some ⟨b,o,none⟩) n c;obtain ⟨bn,bo⟩:=zJ hc (w+1);obtain ⟨dp,dt⟩:=zK hf (w+1)));rw [Nat.zero_add,List.nil_append] at du;obtain ⟨a',c',he,hr,eh⟩:=Er du hn hd.small;obtain ⟨rfl,_,rfl⟩:=Value.slice.inj he;go_wp2_with fail;refine bodyPost_ret (v:=.agg #[.bool g,.slice (E gg) n cap]) (by simp [results,results183,go_sem,bn,bo]) rfl ?_;refine ⟨g,_,n,cap,rfl,?_,((eh.setNew _ _ (by show w.heap.size+1<_;omega)).setNew _ _ (by show w.heap.size+1<_;omega)).mono qB,qD⟩;exact ((show Bh w1 g _ n cap z from ⟨HG.out,hr⟩).setFresh eh _ _ (by show w.heap.size+1<_;omega)).setFresh (eh.setNew _ _ (by show w.heap.size+1<_;omega)) _ _ (by show w.heap.size+1<_;omega)
theorem U9 (n' c':Nat) (d':Ξ) (hd:RdL w a n c d) (ik:RdL w a' n' c' d') (hc:Dy d) (jf:Dy d') :
  Θ 261 #[.slice a n c,.slice a' n' c'] w (W9 w (val d) (val d')):=by
 have hl:=hd.len;have hl':=ik.len;have hn:=hd.few;have rk:=ik.few;have HB:=Ac w w;rcases Nat.lt_trichotomy n n' with h|h|h
 ·have HR:=Ae (show Bz (val d:Int) (val d')=-1 from C6 (by have:=Pe hc jf qB;omega));go_enter func261,ntmps261;go_wp2_with fail;go_ret;exact ⟨by rw [HR.out];rfl,HB⟩
 ·subst h;go_enter func261,ntmps261;go_wp2_with fail;go_loopw [5] (fun v5 wr=>∃k:Nat,k≤n∧v5=M ((k:Int)-1)∧Hid (d.drop k=d'.drop k)∧xp w wr) (fun v5 _=>(intOf v5+1).toNat)
  case atStart=>exact ⟨n,Ad _,by first|rfl|(rw [IntWalk.i64_in _ qB]),Ae (by rw [List.drop_of_length_le qB,List.drop_of_length_le qB]),HB⟩
  case round =>
   obtain ⟨k,hk,rfl,HD,dm⟩:=hrel
   match k with
   | 0 =>
    rw [show ((0:Nat):Int)-1=-1 from rfl];have HR:=Ae (show Bz (val d:Int) (val d')=0 by have:=HD.out;rw [List.drop_zero,List.drop_zero] at this;rw [this];exact Du _);go_wp2_with fail;go_ret;exact ⟨by rw [HR.out];rfl,dm⟩
   | j+1 =>
    rw [show ((j+1:Nat):Int)-1=(j:Int) from qB];obtain ⟨b,o,rfl,c1⟩:=(hd.keep dm).at' (i:=j) qB;obtain ⟨b',o',rfl,c2⟩:=(ik.keep dm).at' (i:=j) qB;rcases Int.lt_trichotomy (lim d j) (lim d' j) with h1|h1|h1
    ·have HR:=Ae (show Bz (val d:Int) (val d')=-1 by rw [←Tw qB qB hc.1 jf.1 HD.out qB];exact C6 h1);exact qDt
    ·have JD:=Ae (Us qB qB HD.out h1);have e1:decide (lim d j<lim d' j)=false:=by rw [decide_eq_false_iff_not];omega
     have e2:decide (lim d' j<lim d j)=false:=by rw [decide_eq_false_iff_not];omega
     clear h1;go_wp2_with fail;go_quiet (fail);go_wp2_with fail;go_quiet (fail);go_wp2_with fail;go_roundw
     case rel=>exact ⟨j,qB,by first|rfl|(rw [IntWalk.i64_in _ qB]),JD,Bj _ dm⟩
     case measure=>(first|(simp [intOf];omega)|(simp [intOf];done))
    ·have HR:=Ae (show Bz (val d:Int) (val d')=1 by rw [←Tw qB qB hc.1 jf.1 HD.out qB];exact C7 h1);have e1:decide (lim d j<lim d' j)=false:=by rw [decide_eq_false_iff_not];omega
     go_wp2_with fail;go_quiet (fail);exact qDt
 ·have HR:=Ae (show Bz (val d:Int) (val d')=1 from C7 (by have:=Pe jf hc qB;omega));go_enter func261,ntmps261;go_wp2_with fail;go_ret;exact ⟨by rw [HR.out];rfl,HB⟩
theorem yZ {z:Int} (h:g=decide (z<0)):sgn (!g) (val (dg z.natAbs))=-z:=by
 rw [Bq,h];by_cases hz:z<0
 ·simp [sgn,hz];omega
 ·simp [sgn,hz];omega
theorem Yg (z:Int) (h:Bh w g a n c z) :
  Θ 182 #[.agg #[.bool g,.slice a n c]] w (Di w (-z)):=by
 have HB:=Ac w w;go_enter func182,ntmps182;go_wp2_with fail;refine (Gw _ _ _ _ _ _ (h.keep qD)).mono ?_;rintro e w1 ⟨rfl,hb⟩;obtain ⟨hc,hf⟩:=Bg hb;have hz:=hb.size;(try simp only [Aj,Ak] at hz);replace HB:=zP w hb;obtain ⟨aw,bh⟩:=xd hc w g a n c;obtain ⟨bn,bo⟩:=zJ hc (w+1);obtain ⟨dp,dt⟩:=zK hf (w+1);obtain ⟨dy,dz⟩:=zK hf w;have jy:w.heap.size+1<w1:=qB;clear hc hf hb hz;go_wp2_with fail;refine (Jb _ _ _ _ _ z (h.keep qD)).mono ?_;rintro e w2 ⟨g2,a2,n2,c2,rfl,vh,j6,hb⟩;obtain ⟨hc,hf⟩:=Bg hb;have hz:=hb.size;(try simp only [Aj,Ak] at hz);replace HB:=zP w hb;obtain ⟨aw,bh⟩:=xd hc w g a n c;obtain ⟨bn,bo⟩:=zJ hc (w+1);obtain ⟨dp,dt⟩:=zK hf (w+1);obtain ⟨dy,dz⟩:=zK hf w;have l9:w.heap.size+1<w2:=qB;clear hc hf hb;go_wp2_with fail;have HG:=Ae vh.neg;refine (Hb _ _ _ _ _ (dg z.natAbs) (((vh.rd.setFresh j6 _ _ (by show w.heap.size<_;omega)).setFresh (j6.setNew _ _ (by show w.heap.size<_;omega)) _ _ (by show w.heap.size<_;omega))) (D0 _)).mono ?_;rintro e w3 ⟨g3,n3,rfl,ll,ic,hb⟩;obtain ⟨hc,hf⟩:=Bg hb;have hz:=hb.size;(try simp only [Aj,Ak] at hz);replace HB:=zP w hb;obtain ⟨bn,bo⟩:=zJ hc (w+1);obtain ⟨dp,dt⟩:=zK hf (w+1);rw [yZ g2 HG.out] at ic;have mi:Bc (w+1+1) w3 a2 c2:=((((j6.setNew _ _ (by show w.heap.size<_;omega)).setNew _ _ (by show w.heap.size<_;omega)).keep hb).mono qB);have nw:w.heap.size+1<w3:=by simp at hz;omega
 clear hc hf hb;go_wp2_with fail;refine bodyPost_ret (v:=.agg #[.bool g3,.slice a2 n3 c2]) (by simp [results,results182,go_sem,bn,bo]) rfl ?_;refine ⟨g3,a2,n3,c2,rfl,?_,((mi.setNew _ _ (by show w.heap.size+1<_;omega)).setNew _ _ (by show w.heap.size+1<_;omega)).mono qB,qD⟩;exact (ic.setFresh mi _ _ (by show w.heap.size+1<_;omega)).setFresh (mi.setNew _ _ (by show w.heap.size+1<_;omega)) _ _ (by show w.heap.size+1<_;omega)
end Go.Proofs.YtfijkfdfbnfmmaaGreatDoor
end
section
namespace Go.Proofs.YtfijkfdfbnfmmaaGreatDoor
open Proofs.Tryz
variable {k v:Nat} {l d d':Ξ}
theorem kQ (hl:l.length=k) (h:val l+1000000000 ^ k*v=val (d.take k)+val (d'.take k)) (t:Nat) (ht:t=v+d.getD k 0+d'.getD k 0) :
  val (l++[t%1000000000])+1000000000 ^ (k+1)*(t/1000000000)=val (d.take (k+1))+val (d'.take (k+1)):=by
 rw [S6,hl,En,En,Nat.pow_succ,Nat.mul_assoc,Nat.add_assoc,←Nat.mul_add];have e:t%1000000000+1000000000*(t/1000000000)=t:=qB;rw [e,ht,Nat.mul_add,Nat.mul_add];omega
theorem lB {v' x:Nat} (hl:l.length=k) (h:val l+val (d'.take k)=val (d.take k)+1000000000 ^ k*v) (hx:x+v+d'.getD k 0=d.getD k 0+1000000000*v') :
  val (l++[x])+val (d'.take (k+1))=val (d.take (k+1))+1000000000 ^ (k+1)*v':=by
 rw [S6,hl,En,En,Nat.pow_succ,Nat.mul_assoc];have e:=congrArg (1000000000 ^ k * ·) hx;simp only [Nat.mul_add] at e;omega
theorem rV (hl:l.length=k) (bj:∀x∈l,x<1000000000) (h:val l+val d'=val d+1000000000 ^ k*v) (hv:val d'≤val d):val l=val d-val d':=by
 have h1:=Ep l bj;rw [hl] at h1;rcases Aq v with rfl|hp
 ·omega
 ·have:=At (1000000000 ^ k) hp;omega
end Go.Proofs.YtfijkfdfbnfmmaaGreatDoor
end
section
namespace Go.Proofs.YtfijkfdfbnfmmaaGreatDoor
open Go.RowKit Proofs.Tryz
variable (w:World) (a:Γ) (n c:Nat) (d:Ξ) (a':Γ) (n' c':Nat) (d':Ξ)
def pN (w:World) (v m:Nat) (e:Ending) (w':World):Prop :=
 ∃a k c q,e=.returned (.slice a k c)∧RdL w' a k c q∧val q=v∧(∀x∈q,x<1000000000)∧k≤m∧Bc w w' a c∧xp w w'
theorem yM (hd:RdL w a n c d) (ik:RdL w a' n' c' d') (bj:∀x∈d,x<1000000000) (rz:∀x∈d',x<1000000000) (hn:n<35184372088832) (rk:n'<35184372088832) :
  Θ 263 #[.slice a n c,.slice a' n' c'] w (pN w (val d+val d') (max n n'+1)):=by
 obtain ⟨i0,hi,dw,ed,en⟩:=info_parts Dl;have hl:=Ae hd.len;have hl':=Ae ik.len;have HB:=Ac w w;have sr:=Ae bj;have ur:=Ae rz;clear bj rz;obtain ⟨m,hm⟩:∃m,m=max n n':=⟨_,rfl⟩;have yf:n≤m:=qB;have OZ:n'≤m:=qB;have hm3:m<35184372088832:=qB;have HM:=Ae hm;clear hm;go_enter func263,ntmps263;go_wp2_with fail;go_loopw [5,6,7] (fun v5 v6 v7 wr=>∃(k v:Nat) (l:Ξ),k≤m+1∧v7=M k∧v6=.int .u32 v∧v≤1∧(m<k→v=0)∧Hid (l.length=k)∧Hid (val l+1000000000 ^ k*v=val (d.take k)+val (d'.take k))∧Hid (∀x∈l,x<1000000000)∧wr.ownsRow w 129 1 v5 k (Cg l)∧xp w wr) (fun _ _ v7 _=>m+1-(intOf v7).toNat)
 case atStart=>exact ⟨0,0,[],qB,rfl,rfl,qB,fun _=>rfl,Ae rfl,Ae (by simp [val]),Ae (fun x hx=>(by cases hx)),World.ownsRow_nil _ _ _ _,HB⟩
 case round =>
  obtain ⟨k,v,l,hk,rfl,rfl,hv,hvz,BB,HS,HQ,ah,dm⟩:=hrel;have qu:=dm.size;have HVZ:=Ae hvz;clear hvz HB;have tr:=Cx sr.out k;have ss:=Cx ur.out k;have SD:lim d k=((d.getD k 0:Nat):Int):=rfl;have GK:lim d' k=((d'.getD k 0:Nat):Int):=rfl;have hxo:n≤k→d.getD k 0=0:=fun h=>Qa (by have:=hl.out;omega)
  have hyo:n'≤k→d'.getD k 0=0:=fun h=>Qa (by have:=hl'.out;omega)
  have qe:=Ae (fun t ht=>kQ BB.out HS.out (d:=d) (d':=d') t ht);generalize d.getD k 0=x at *;generalize d'.getD k 0=y at *;have HXO:=Ae hxo;have HYO:=Ae hyo;clear hxo hyo;have ZT:=Ae SD;have NR:=Ae GK;clear SD GK;by_cases h1:k<n
  ·obtain ⟨b,o,rfl,c1⟩:=(hd.keep dm).at' h1;rw [ZT.out] at c1;by_cases h2:k<n'
   ·obtain ⟨b',o',rfl,c2⟩:=(ik.keep dm).at' h2;rw [NR.out] at c2;go_wp2_with (at_builtin;refine wpList_append_own _ rfl _ _ 49 rfl w 129 i0 (.int .u32 0) 1 4 underlying49 hi dw ed en rfl qI _ _ _ rfl (ah.alloc _) (J wr 0) 1 1 [.int .u32 (((v:Int)+x+y)%1000000000)] rfl rfl (cell_one_new _ _ _) (by simp [Value.oneCell']) qN qB qA ?_;intro v' w2 cv gu _);have bp:Below w wr w2:=((Ac w wr).alloc qB _).grown gu qA (fun k hk=>(ah.lt k hk).1);go_roundw
    case rel =>
     have hs:=qe.out (v+x+y) qB;refine ⟨k+1,(v+x+y)/1000000000,l++[(v+x+y)%1000000000],qB,by go_num,qH,qB,fun h=>qB,Ae (by simp [BB.out]),Ae hs,Ae (fun z hz=>?_),?_,dm.trans bp⟩
     ·exact qBq
     ·rw [Cv];exact cv
    case measure=>simp [intOf];omega
   ·have KJ:n'≤k:=qB;obtain rfl:=HYO.out qB;go_wp2_with (at_builtin;refine wpList_append_own _ rfl _ _ 49 rfl w 129 i0 (.int .u32 0) 1 4 underlying49 hi dw ed en rfl qI _ _ _ rfl (ah.alloc _) (J wr 0) 1 1 [.int .u32 (((v:Int)+x)%1000000000)] rfl rfl (cell_one_new _ _ _) (by simp [Value.oneCell']) qN qB qA ?_;intro v' w2 cv gu _);have bp:Below w wr w2:=((Ac w wr).alloc qB _).grown gu qA (fun k hk=>(ah.lt k hk).1);go_roundw
    case rel =>
     have hs:=qe.out (v+x) qB;refine ⟨k+1,(v+x)/1000000000,l++[(v+x)%1000000000],qB,by go_num,qH,qB,fun h=>qB,Ae (by simp [BB.out]),Ae hs,Ae (fun z hz=>?_),?_,dm.trans bp⟩
     ·exact qBq
     ·rw [Cv];exact cv
    case measure=>simp [intOf];omega
  ·have FD:n≤k:=qB;by_cases h2:k<n'
   ·obtain ⟨b',o',rfl,c2⟩:=(ik.keep dm).at' h2;rw [NR.out] at c2;obtain rfl:=HXO.out qB;go_wp2_with (at_builtin;refine wpList_append_own _ rfl _ _ 49 rfl w 129 i0 (.int .u32 0) 1 4 underlying49 hi dw ed en rfl qI _ _ _ rfl (ah.alloc _) (J wr 0) 1 1 [.int .u32 (((v:Int)+y)%1000000000)] rfl rfl (cell_one_new _ _ _) (by simp [Value.oneCell']) qN qB qA ?_;intro v' w2 cv gu _);have bp:Below w wr w2:=((Ac w wr).alloc qB _).grown gu qA (fun k hk=>(ah.lt k hk).1);go_roundw
    case rel =>
     have hs:=qe.out (v+y) qB;refine ⟨k+1,(v+y)/1000000000,l++[(v+y)%1000000000],qB,by go_num,qH,qB,fun h=>qB,Ae (by simp [BB.out]),Ae hs,Ae (fun z hz=>?_),?_,dm.trans bp⟩
     ·exact qBq
     ·rw [Cv];exact cv
    case measure=>simp [intOf];omega
   ·have KJ:n'≤k:=qB;by_cases h3:0<v
    ·have h4:k≤m:=by
      rcases Nat.lt_or_ge m k with h|h
      ·have:=HVZ.out h;omega
      ·exact h
     obtain rfl:=HXO.out qB;obtain rfl:=HYO.out qB;go_wp2_with (at_builtin;refine wpList_append_own _ rfl _ _ 49 rfl w 129 i0 (.int .u32 0) 1 4 underlying49 hi dw ed en rfl qI _ _ _ rfl (ah.alloc _) (J wr 0) 1 1 [.int .u32 (((v:Int))%1000000000)] rfl rfl (cell_one_new _ _ _) (by simp [Value.oneCell']) qN qB qA ?_;intro v' w2 cv gu _);have bp:Below w wr w2:=((Ac w wr).alloc qB _).grown gu qA (fun k hk=>(ah.lt k hk).1);go_roundw
     case rel =>
      have hs:=qe.out (v) qB;refine ⟨k+1,(v)/1000000000,l++[(v)%1000000000],qB,by go_num,qH,qB,fun h=>qB,Ae (by simp [BB.out]),Ae hs,Ae (fun z hz=>?_),?_,dm.trans bp⟩
      ·exact qBq
      ·rw [Cv];exact cv
     case measure=>simp [intOf];omega
    ·obtain rfl:v=0:=qB;obtain ⟨a2,c2,rfl,hr,eh⟩:=Er ah qB (fun i=>By (fun x hx=>by have:=HQ.out x hx;omega) i);go_wp2_with fail;go_ret;refine ⟨a2,k,c2,l,rfl,hr,?_,HQ.out,by rw [←HM.out];exact hk,eh,dm⟩;have:=HS.out;rw [As (by have:=hl.out;omega),As (by have:=hl'.out;omega),Nat.mul_zero,Nat.add_zero] at this;exact this
theorem rM (hd:RdL w a n c d) (ik:RdL w a' n' c' d') (bj:∀x∈d,x<1000000000) (rz:∀x∈d',x<1000000000) (hle:n'≤n) (hv:val d'≤val d) :
  Θ 264 #[.slice a n c,.slice a' n' c'] w (pN w (val d-val d') n):=by
 obtain ⟨i0,hi,dw,ed,en⟩:=info_parts Dl;have hl:=Ae hd.len;have hl':=Ae ik.len;have hn:=hd.few;have HB:=Ac w w;have sr:=Ae bj;have ur:=Ae rz;have HV:=Ae hv;clear bj rz hv;go_enter func264,ntmps264;go_wp2_with fail;go_loopw [5,6,7] (fun v5 v6 v7 wr=>∃(k v:Nat) (l:Ξ),k≤n∧v7=M k∧v6=.int .u32 v∧v≤1∧Hid (l.length=k)∧Hid (val l+val (d'.take k)=val (d.take k)+1000000000 ^ k*v)∧Hid (∀x∈l,x<1000000000)∧wr.ownsRow w 129 1 v5 k (Cg l)∧xp w wr) (fun _ _ v7 _=>n-(intOf v7).toNat)
 case atStart=>exact ⟨0,0,[],qB,rfl,rfl,qB,Ae rfl,Ae (by simp [val]),Ae (fun x hx=>(by cases hx)),World.ownsRow_nil _ _ _ _,HB⟩
 case round =>
  obtain ⟨k,v,l,hk,rfl,rfl,hv,BB,HS,HQ,ah,dm⟩:=hrel;have qu:=dm.size;clear HB;have tr:=Cx sr.out k;have ss:=Cx ur.out k;have ZT:=Ae (show lim d k=((d.getD k 0:Nat):Int) from rfl);have NR:=Ae (show lim d' k=((d'.getD k 0:Nat):Int) from rfl);have HYO:=Ae (show n'≤k→d'.getD k 0=0 from fun h=>Qa (by have:=hl'.out;omega));have qe:=Ae (fun X V hX=>lB (x:=X) (v':=V) BB.out HS.out (d:=d) (d':=d') hX);generalize d.getD k 0=x at *;generalize d'.getD k 0=y at *;by_cases h1:k<n
  ·obtain ⟨b,o,rfl,c1⟩:=(hd.keep dm).at' h1;rw [ZT.out] at c1;by_cases h2:k<n'
   ·obtain ⟨b',o',rfl,c2⟩:=(ik.keep dm).at' h2;rw [NR.out] at c2;obtain ⟨t,ht⟩:∃t:Nat,(t:Int)=(x:Int)+1000000000-v-y:=⟨((x:Int)+1000000000-v-y).toNat,qB⟩;have et:((x:Int)+1000000000-v-y)%1000000000=((t%1000000000:Nat):Int):=qB;have eo:1-((x:Int)+1000000000-v-y)/1000000000=((1-t/1000000000:Nat):Int):=qB;have ET:=Ae et;have EO:=Ae eo;have HT:=Ae ht;clear et eo ht;go_wp2_with (at_builtin;refine wpList_append_own _ rfl _ _ 49 rfl w 129 i0 (.int .u32 0) 1 4 underlying49 hi dw ed en rfl qI _ _ _ rfl (ah.alloc _) (J wr 0) 1 1 [.int .u32 (((x:Int)+1000000000-v-y)%1000000000)] rfl rfl (cell_one_new _ _ _) (by simp [Value.oneCell']) qN qB qA ?_;intro v' w2 cv gu _);exact qBh
   ·have KJ:n'≤k:=qB;obtain rfl:=HYO.out qB;obtain ⟨t,ht⟩:∃t:Nat,(t:Int)=(x:Int)+1000000000-v:=⟨((x:Int)+1000000000-v).toNat,qB⟩;have et:((x:Int)+1000000000-v)%1000000000=((t%1000000000:Nat):Int):=qB;have eo:1-((x:Int)+1000000000-v)/1000000000=((1-t/1000000000:Nat):Int):=qB;have ET:=Ae et;have EO:=Ae eo;have HT:=Ae ht;clear et eo ht;go_wp2_with (at_builtin;refine wpList_append_own _ rfl _ _ 49 rfl w 129 i0 (.int .u32 0) 1 4 underlying49 hi dw ed en rfl qI _ _ _ rfl (ah.alloc _) (J wr 0) 1 1 [.int .u32 (((x:Int)+1000000000-v)%1000000000)] rfl rfl (cell_one_new _ _ _) (by simp [Value.oneCell']) qN qB qA ?_;intro v' w2 cv gu _);exact qBh
  ·obtain rfl:k=n:=qB;obtain ⟨a2,c2,rfl,hr,eh⟩:=Er ah qB (fun i=>By (fun x hx=>by have:=HQ.out x hx;omega) i);go_wp2_with fail;go_ret;refine ⟨a2,k,c2,l,rfl,hr,?_,HQ.out,Ad _,eh,dm⟩;have:=HS.out;rw [As (show d'.length≤k by have:=hl'.out;omega),As (show d.length≤k by have:=hl.out;omega)] at this;exact rV BB.out HQ.out this HV.out
end Go.Proofs.YtfijkfdfbnfmmaaGreatDoor
end
