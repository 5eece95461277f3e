/- The document's answer, layer 2: lowest. -/
import Derived.Test.YtfijkfdfbnfmmaaGreatDoorQF16
set_option linter.unusedSimpArgs false
set_option linter.unusedVariables false
set_option maxRecDepth 100000
set_option maxHeartbeats 4000000
section
namespace Go.Proofs.YtfijkfdfbnfmmaaGreatDoor
open Go.RowKit Proofs.Tryz
variable (w:World) (g:Bool) (a:Γ) {xs:List Value} {b s B:Nat} {t e:TypeId} {v:Value} {W W':World}
theorem gH (n c:Nat) (z:Int) (h:Bh w g a n c z) (g':Bool) (a':Γ) (n' c':Nat) (z':Int) (h':Bh w g' a' n' c' z') (j5:0<z') (br:n<35184372088829) (bp:n'<35184372088829) :
  Θ 184 #[.agg #[.bool g,.slice a n c],.agg #[.bool g',.slice a' n' c']] w (Kx w (z/z') (z%z')) :=
 oU w g a n c z h g' a' n' c' z' h' j5 (n+1) (n+1) qB qB qB (fun W hW=>Zl W a n c z.natAbs a' n' c' z'.natAbs (h.rd.keep hW) (h'.rd.keep hW) qB qB)
theorem pV (n c:Nat) (z:Int) (h:Bh w g a n c z) (g':Bool) (a':Γ) (n' c':Nat) (h':Bh w g' a' n' c' 1) (br:n<35184372088829) (bp:n'<35184372088829) :
  Θ 109 #[.agg #[.bool g,.slice a n c],.agg #[.bool g',.slice a' n' c']] w (Hs w z 1):=by
 have HB:=Ac w w;have xx:Bz 1 0=1:=C7 qB;go_enter func109,ntmps109;go_wp2_with fail;refine (K5 _ _ _ _ _ 1 (h'.keep qD)).mono ?_;rintro e w1 ⟨rfl,hb⟩;obtain ⟨hc,hf⟩:=Bg hb;have hz:=hb.size;(try simp only [Aj,Ak] at hz);replace HB:=zP w hb;obtain ⟨aw,bh⟩:=xd hc w g a n c;obtain ⟨bn,bo⟩:=xd hc (w+1) g' a' n' c';obtain ⟨bw,bx,fi,fj⟩:=xf hc (w+1+1);obtain ⟨bz,cc,gh,gp⟩:=xg hf (w+1+1);have jy:w.heap.size+1+1<w1:=qB;clear hc hf hb hz;rw [xx];go_wp2_with fail;refine (Um _ _ _ _ _ 1 (h'.keep qD)).mono ?_;rintro e w2 ⟨rfl,hb⟩;obtain ⟨hc,hf⟩:=Bg hb;have hz:=hb.size;(try simp only [Aj,Ak] at hz);replace HB:=zP w hb;obtain ⟨aw,bh⟩:=xd hc w g a n c;obtain ⟨bn,bo⟩:=xd hc (w+1) g' a' n' c';obtain ⟨bw,bx,fi,fj⟩:=xf hc (w+1+1);obtain ⟨bz,cc,gh,gp⟩:=xg hf (w+1+1);have l9:w.heap.size+1+1<w2:=qB;clear hc hf hb hz;go_wp2_with fail;have fg:=HB;have h2:=h.keep fg;have KJ:=h'.keep fg;go_region_held3 (fun W=>Z W w 0 (.bool g)∧Z W w 1 (.slice a n c)∧Z W (w+1) 0 (.bool g')∧Z W (w+1) 1 (.slice a' n' c')) (exact qK) (first
  | (go_at_call 183;(with_reducible refine (Jb _ _ _ _ _ z (h.keep qD)).mono ?_);rintro e w3 ⟨ge,ae,ne,ce,rfl,ll,sq,ea⟩;have PY:xp w2 w3:=Al qQ (ea.mono qA);have al6:=PY.size;(replace ⟨bw,bz,bx,cc,fi,gh,fj,gp⟩:=xi PY bw bz bx cc fi gh fj gp);replace ⟨aw,bh,bn,bo⟩:=xj PY aw bh bn bo;replace HB:=xo HB PY)
  | (go_at_call 183;(with_reducible refine (Jb _ _ _ _ _ 1 (h'.keep qD)).mono ?_);rintro e w4 ⟨gf,af,nf,cf,rfl,JF,GJ,ec⟩;have il:xp w3 w4:=Al qQ (ec.mono qA);have OW:=il.size;(replace ⟨bw,bz,bx,cc,fi,gh,fj,gp⟩:=xi il bw bz bx cc fi gh fj gp);replace ⟨aw,bh,bn,bo⟩:=xj il aw bh bn bo;replace HB:=xo HB il))
 all_goals
  have GN:=ll.keep il;have fe:Bc (w+1+1+1) w4 ae ce:=(sq.mono qA).keep il;have ff:Bc (w+1+1+1) w4 af cf:=GJ.mono qA;have NS:w.heap.size+1+1<w4:=Aa _ _ bw;have u2:w.heap.size+1+1<w.heap.size+1+1+1:=Ag _;go_wp2_with fail;refine bodyPost_ret (v:=.agg #[.bool ge,.slice ae ne ce,.bool gf,.slice af nf cf]) (by simp [results,results109,go_sem,bw,bx,fi,fj]) rfl ?_;refine ⟨ge,ae,ne,ce,gf,af,nf,cf,rfl,⟨?_,?_,qB,by simp [Int.gcd]⟩,?_,?_,qD⟩
  ·exact GN.set4 fe _ _ _ _ _ _ _ _ u2 u2 u2 u2
  ·exact JF.set4 ff _ _ _ _ _ _ _ _ u2 u2 u2 u2
  ·exact (fe.set4 _ _ _ _ _ _ _ _ u2 u2 u2 u2).mono qB
  ·exact (ff.set4 _ _ _ _ _ _ _ _ u2 u2 u2 u2).mono qB
theorem pB (n c:Nat) (z:Int) (h:Bh w g a n c z) (g':Bool) (a':Γ) (n' c':Nat) (z':Int) (h':Bh w g' a' n' c' z') (j5:1<z') (br:n<35184372088829) (bp:n'<35184372088829) :
  Θ 109 #[.agg #[.bool g,.slice a n c],.agg #[.bool g',.slice a' n' c']] w (Hs w (Fh z z') (E5 z z')):=by
 have HB:=Ac w w;have xx:Bz z' 0=1:=C7 qB;have di:decide (z'=1)=false:=decide_eq_false qB;have dw:0<z':=qB;have hgp:0<Int.gcd z z':=Int.gcd_pos_of_ne_zero_right _ qB;obtain ⟨D,hD⟩:∃D:Int,D=((Int.gcd z z':Nat):Int):=⟨_,rfl⟩;have hDp:0<D:=qB;have HD:=Ae hD;have hlD:(dg D.natAbs).length≤n':=by
  have h1:=h'.rd.len;have h3:=Kk (p:=z) dw;rw [hD,Int.natAbs_natCast];omega
 have HLD:=Ae hlD;clear hD hlD hgp;go_enter func109,ntmps109;go_wp2_with fail;refine (K5 _ _ _ _ _ z' (h'.keep qD)).mono ?_;rintro e w1 ⟨rfl,hb⟩;obtain ⟨hc,hf⟩:=Bg hb;have hz:=hb.size;(try simp only [Aj,Ak] at hz);replace HB:=zP w hb;obtain ⟨aw,bh⟩:=xd hc w g a n c;obtain ⟨bn,bo⟩:=xd hc (w+1) g' a' n' c';obtain ⟨bw,bx,fi,fj⟩:=xf hc (w+1+1);obtain ⟨bz,cc,gh,gp⟩:=xg hf (w+1+1);have jy:w.heap.size+1+1<w1:=qB;clear hc hf hb hz;rw [xx];go_wp2_with fail;refine (Um _ _ _ _ _ z' (h'.keep qD)).mono ?_;rintro e w2 ⟨rfl,hb⟩;obtain ⟨hc,hf⟩:=Bg hb;have hz:=hb.size;(try simp only [Aj,Ak] at hz);replace HB:=zP w hb;obtain ⟨aw,bh⟩:=xd hc w g a n c;obtain ⟨bn,bo⟩:=xd hc (w+1) g' a' n' c';obtain ⟨bw,bx,fi,fj⟩:=xf hc (w+1+1);obtain ⟨bz,cc,gh,gp⟩:=xg hf (w+1+1);have l9:w.heap.size+1+1<w2:=qB;clear hc hf hb hz;rw [di];go_wp2_with fail;refine (dL _ _ _ _ _ z (h.keep qD) _ _ _ _ z' (h'.keep qD) dw bp br).mono ?_;rintro e w3 ⟨gg,ag,ng,cg,rfl,qj,r9,hb⟩;obtain ⟨hc,hf⟩:=Bg hb;have hz:=hb.size;(try simp only [Aj,Ak] at hz);replace HB:=zP w hb;obtain ⟨aw,bh⟩:=xd hc w g a n c;obtain ⟨bn,bo⟩:=xd hc (w+1) g' a' n' c';obtain ⟨bw,bx,fi,fj⟩:=xf hc (w+1+1);obtain ⟨bz,cc,gh,gp⟩:=xg hf (w+1+1);have nw:w.heap.size+1+1<w3:=qB;rw [←HD.out] at qj;have hbx:w.heap.size+1+1+1≤w3:=nw;clear hc hf hb hz r9;go_upto_region 7 with fail
 (refine Bx ?_;intro w4 jg;have BR:Z w4 w3 0 (.bool gg):=(by rw [jg];first|assumption|(simp [go_sem];done)|(simp [*,go_sem];done));have BS:Z w4 w3 1 (.slice ag ng cg):=(by rw [jg];first|assumption|(simp [go_sem];done)|(simp [*,go_sem];done));have G0:=BR;clear BR;have G1:=BS;clear BS);have il:xp w3 w4:=by rw [jg];go_grown
 have o8:=xo HB il;have azy:w3.heap.size<w4:=by rw [jg];simp
 (replace ⟨bw,bz,bx,cc,fi,gh,fj,gp⟩:=xi il bw bz bx cc fi gh fj gp)
 replace ⟨aw,bh,bn,bo⟩:=xj il aw bh bn bo;have PZ:=qj.keep il;obtain ⟨G,hG⟩:∃G,G=w3.heap.size:=⟨_,rfl⟩;rw [←hG] at G0 G1 ⊢;have SI:w.heap.size+1+1<G:=qB;have VI:ng≤n':=by have h1:=PZ.rd.len;have:=HLD.out;omega
 clear jg il hG qj HB;go_wp2_with fail;refine (gH _ _ _ _ _ z (h.keep o8) _ _ _ _ D PZ hDp br qB).mono ?_;rintro e w5 ⟨gq,aq,nq,cq,gr,ar,nr,cr,rfl,hq,hr,rj,eh,hb⟩;have oq:=xo o8 hb
 (replace ⟨bw,bz,bx,cc,fi,gh,fj,gp⟩:=xi hb bw bz bx cc fi gh fj gp)
 replace ⟨aw,bh,bn,bo⟩:=xj hb aw bh bn bo;replace ⟨G0,G1⟩:=xk hb G0 G1;have BT:=PZ.keep hb;have qh:Bc (w+1+1+1) w5 aq cq:=rj.mono qB;have VA:w.heap.size+1+1<w5:=Aa _ _ bw;have aco:=hb.size;clear hb hr eh rj PZ;go_upto_region 8 with fail
 (refine Bx ?_;intro w6 uk;have N0':Z w6 w5 0 (.bool gq):=(by rw [uk];first|assumption|(simp [go_sem];done)|(simp [*,go_sem];done));have N1':Z w6 w5 1 (.slice aq nq cq):=(by rw [uk];first|assumption|(simp [go_sem];done)|(simp [*,go_sem];done));have N0:=N0';clear N0';have N1:=N1';clear N1');have oe:xp w5 w6:=by rw [uk];go_grown
 have iu:=xo oq oe;have azz:w5.heap.size<w6:=by rw [uk];simp;omega
 (replace ⟨bw,bz,bx,cc,fi,gh,fj,gp⟩:=xi oe bw bz bx cc fi gh fj gp)
 replace ⟨aw,bh,bn,bo⟩:=xj oe aw bh bn bo;replace ⟨G0,G1⟩:=xk oe G0 G1;have acp:=BT.keep oe;have SJ:=hq.keep oe;have ux:=qh.keep oe;obtain ⟨N,hN⟩:∃N,N=w5.heap.size:=⟨_,rfl⟩;rw [←hN] at N0 N1 ⊢;clear uk oe hN BT hq qh oq o8;go_wp2_with fail;refine (gH _ _ _ _ _ z' (h'.keep iu) _ _ _ _ D acp hDp bp qB).mono ?_;rintro e w7 ⟨ge,ae,ne,ce,gr,ar,nr,cr,rfl,he,hr,ry,eh,hb⟩;have wh:=xo iu hb
 (replace ⟨bw,bz,bx,cc,fi,gh,fj,gp⟩:=xi hb bw bz bx cc fi gh fj gp)
 replace ⟨N0,N1⟩:=xk hb N0 N1;have hq7:=SJ.keep hb;have GO:=ux.keep hb;have acr:Bc (w+1+1+1) w7 ae ce:=ry.mono qB;have hk7:w.heap.size+1+1<w7:=Aa _ _ bw;clear hb hr eh ry acp SJ ux;go_upto_region 9 with fail
 (refine Bx ?_;intro w8 hw8;have E0':Z w8 w7 0 (.bool ge):=(by rw [hw8];first|assumption|(simp [go_sem];done)|(simp [*,go_sem];done));have E1':Z w8 w7 1 (.slice ae ne ce):=(by rw [hw8];first|assumption|(simp [go_sem];done)|(simp [*,go_sem];done));have E0:=E0';clear E0';have E1:=E1';clear E1');have BU:xp w7 w8:=by rw [hw8];go_grown
 have VJ:=xo wh BU
 (replace ⟨bw,bz,bx,cc,fi,gh,fj,gp⟩:=xi BU bw bz bx cc fi gh fj gp)
 replace ⟨N0,N1⟩:=xk BU N0 N1;have hq8:=hq7.keep BU;have acs:=GO.keep BU;have he8:=he.keep BU;have acu:=acr.keep BU;have hk8:w.heap.size+1+1<w8:=Aa _ _ bw;have u2:w.heap.size+1+1<w.heap.size+1+1+1:=Ag _;clear hw8 BU hq7 GO he acr wh iu G0 G1 aw bh bn bo;go_wp2_with fail;refine bodyPost_ret (v:=.agg #[.bool gq,.slice aq nq cq,.bool ge,.slice ae ne ce]) (by simp [results,results109,go_sem,bw,bx,fi,fj]) rfl ?_;have vk:=Lg (p:=z) dw;rw [←HD.out] at vk;rw [Fh,E5,←HD.out];refine ⟨gq,aq,nq,cq,ge,ae,ne,ce,rfl,⟨?_,?_,vk.1,vk.2⟩,?_,?_,qD⟩
 ·exact hq8.set4 acs _ _ _ _ _ _ _ _ u2 u2 u2 u2
 ·exact he8.set4 acu _ _ _ _ _ _ _ _ u2 u2 u2 u2
 ·exact (acs.set4 _ _ _ _ _ _ _ _ u2 u2 u2 u2).mono qB
 ·exact (acu.set4 _ _ _ _ _ _ _ _ u2 u2 u2 u2).mono qB
theorem dV (n c:Nat) (z:Int) (h:Bh w g a n c z) (g':Bool) (a':Γ) (n' c':Nat) (z':Int) (h':Bh w g' a' n' c' z') (j5:0<z') (br:n<35184372088829) (bp:n'<35184372088829) :
  Θ 109 #[.agg #[.bool g,.slice a n c],.agg #[.bool g',.slice a' n' c']] w (Hs w (Fh z z') (E5 z z')):=by
 by_cases h1:z'=1
 ·subst h1;have:=pV w g a n c z h g' a' n' c' h' br bp;have e1:Int.gcd z 1=1:=by simp [Int.gcd]
  rw [Fh,E5,e1];simpa using this
 ·exact pB w g a n c z h g' a' n' c' z' h' qB br bp
def Blk (W:World) (b:Nat) (vs:Array Value) (t:TypeId):Prop:=W.heap[b]? = some (.cells vs t (0,0))
theorem Blk.keep {vs:Array Value} (h:Blk W b vs t) (hb:xp W W'):Blk W' b vs t:=(hb.block b (Ar.1 h).1).trans h
theorem Blk.cell {vs:Array Value} (h:Blk W b vs t) (i:Nat) (v:Value) (hv:vs[i]? = some v):Z W b i v:=by simp [World.cell?,show W.heap[b]? = _ from h,hv]
theorem Blk.frozen {vs:Array Value} (h:Blk W b vs t) (i:Nat):Y W b i:=by simp [World.frozen?,show W.heap[b]? = _ from h]
theorem Blk.set {vs:Array Value} (h:Blk W b vs t) (i:Nat) (u:Value):Blk (W.setCell (J b i) u) b (vs.setIfInBounds i u) t:=by
 obtain ⟨bj,hk⟩:=Ar.1 h;show (W.heap.modify b _)[b]? = _;rw [Array.getElem?_eq_getElem (by rw [Array.size_modify];exact bj),Array.getElem_modify_self,hk];rfl
theorem C0 {w:World} (h:w.heap.size=b) (vs:Array Value) (t:TypeId):Blk (w.alloc (.cells vs t)) b vs t:=by subst h;exact World.alloc_heap_new _ _
theorem Blk.lt {vs:Array Value} (h:Blk W b vs t):b<W.heap.size:=(Ar.1 h).1
theorem Blk.alloc {vs:Array Value} (h:Blk W b vs t) (o:Obj):Blk (W.alloc o) b vs t:=h.keep (Below.alloc (Ac _ _) (Ad _) _)
theorem Blk.far {vs:Array Value} (h:Blk W b vs t) (p:Addr) (u:Value) (hp:b≠p.block):Blk (W.setCell p u) b vs t:=(Below.heap_setCell _ _ _ _ hp).trans h
theorem Blk.row {vs:Array Value} {row:Option Nat} (h:Blk W b vs t) (hg:W.grownBy W' row) (hr:some b≠row):Blk W' b vs t:=(hg.block b h.lt hr).trans h
theorem Lx {w:World} {Br R o n:Nat} {u:Value} (h:w.ownsRow Br e s v n xs) (hR:R<Br):(w.setCell (J R o) u).ownsRow Br e s v n xs:=by
 refine ⟨h.1,h.2.imp id fun⟨g,cap,cur,h1,h2,h3,h4⟩=>⟨g,cap,cur,h1,h2,?_,h4⟩⟩;rw [Below.heap_setCell w _ u g (by show g≠R;omega)];exact h3
theorem Fr {w:World} {n:Nat} (h:w.ownsRow B e s v n xs):∃a c,v=.slice a n c:=by
 rcases h.2 with ⟨rfl,rfl⟩|⟨g,cap,cur,rfl,_⟩
 ·exact ⟨_,_,rfl⟩
 ·exact ⟨_,_,rfl⟩
theorem Ik {w:World} {n:Nat} (h:w.ownsRow B e s v n xs) {g:Nat} (hg:v.ownBlock=some g):∃cur,w.heap[g]? = some (.cells cur e (0,0)):=by
 rcases h.2 with ⟨rfl,_⟩|⟨g',cap,cur,rfl,_,h3,_⟩
 ·cases hg
 ·simp only [Value.ownBlock,Option.some.injEq] at hg;subst hg;exact ⟨cur,h3⟩
abbrev RetB (w:World) (P:Prop) (e:Ending) (w':World):Prop:=∃r:Bool,e=.returned (.bool r)∧(r=true↔P)∧xp w w'
theorem Aas (n c:Nat) (z:Int) (h:Bh w g a n c z) (g':Bool) (a':Γ) (n' c':Nat) (z':Int) (h':Bh w g' a' n' c' z') (j5:z'<0) (br:n<35184372088829) (bp:n'<35184372088829) :
  Θ 109 #[.agg #[.bool g,.slice a n c],.agg #[.bool g',.slice a' n' c']] w (Hs w (Fh (-z) (-z')) (E5 (-z) (-z'))):=by
 have xx:Bz z' 0=-1:=C6 qB;have q1:=h.rd.len;have q2:=h'.rd.len;go_enter func109,ntmps109;go_wp2_with fail;refine Bt ?_;intro w1 fk;have b1:xp w w1:=by rw [fk];go_grown
 have T1:Blk w1 w #[.bool g,.slice a n c] 51:=by rw [fk];exact ((C0 rfl _ _).alloc _).alloc _
 have L1:Blk w1 (w+1) #[.bool g',.slice a' n' c'] 51:=by rw [fk];exact (C0 qH _ _).alloc _
 have R1:Blk w1 (w+1+1) #[.bool false,.slice none 0 0,.bool false,.slice none 0 0] 53:=by rw [fk];exact C0 qH _ _
 clear fk;refine (K5 w1 _ _ _ _ z' (h'.keep b1)).mono ?_;rintro e w2 ⟨rfl,k2⟩;rw [xx];have b2:=xo b1 k2;have T2:=T1.keep k2;have L2:=L1.keep k2;have R2:=R1.keep k2;have t0:=T2.cell 0 _ rfl;have t1:=T2.cell 1 _ rfl;clear T1 L1 R1 k2 b1 xx;go_wp2_with fail;refine (Yg w2 _ _ _ _ z (h.keep b2)).mono ?_;rintro e w3 ⟨g3,a3,n3,c3,rfl,ll,sq,k3⟩;have b3:=xo b2 k3;have T3:=T2.keep k3;have L3:=L2.keep k3;have R3:=R2.keep k3;replace t0:=T3.cell 0 _ rfl;replace t1:=T3.cell 1 _ rfl;have ZX:=T3.frozen 0;have ZY:=T3.frozen 1;have l0:=L3.cell 0 _ rfl;have l1:=L3.cell 1 _ rfl;have z3:w.heap.size+1+1<w3:=R3.lt;have z3a:w.heap.size<w3:=qB;have z3b:w.heap.size+1<w3:=qB;have zz2:w.heap.size+1+1<w2:=R2.lt;clear T2 L2 R2 k3 b2;go_wp2_with fail;refine Bt ?_;intro w4 jg;have b4:xp w w4:=by rw [jg];go_grown
 have T4:Blk w4 w #[.bool g3,.slice a3 n3 c3] 51:=by rw [jg];exact (T3.set 0 _).set 1 _
 have L4:Blk w4 (w+1) #[.bool g',.slice a' n' c'] 51:=by rw [jg];exact (L3.far _ _ qH).far _ _ qH
 have R4:Blk w4 (w+1+1) #[.bool false,.slice none 0 0,.bool false,.slice none 0 0] 53:=by rw [jg];exact (R3.far _ _ qL).far _ _ qL
 have JF:Bh w4 g3 a3 n3 c3 (-z):=by rw [jg];exact (ll.setFresh (sq.mono (Ad _)) _ _ qL).setFresh (sq.setNew _ _ qL) _ _ qL
 have GJ:Bc w2 w4 a3 c3:=by rw [jg];exact (sq.setNew _ _ qL).setNew _ _ qL
 have hs4:w3.heap.size≤w4:=by rw [jg];simp
 clear jg T3 L3 R3 ll sq t0 t1 ZX ZY l0 l1 b3;refine (Yg w4 _ _ _ _ z' (h'.keep b4)).mono ?_;rintro e w5 ⟨g5,a5,n5,c5,rfl,FE,nh,k5⟩;have b5:=xo b4 k5;have T5:=T4.keep k5;have L5:=L4.keep k5;have R5:=R4.keep k5;have acv:=JF.keep k5;have VK:=GJ.keep k5;have l0:=L5.cell 0 _ rfl;have l1:=L5.cell 1 _ rfl;have lf0:=L5.frozen 0;have lf1:=L5.frozen 1;have z5b:w.heap.size+1<w5:=L5.lt;clear T4 L4 R4 JF GJ k5 b4;go_wp2_with fail;refine Bt ?_;intro w6 uk;have b6:xp w w6:=by rw [uk];go_grown
 have T6:Blk w6 w #[.bool g3,.slice a3 n3 c3] 51:=by rw [uk];exact (T5.far _ _ qH).far _ _ qH
 have L6:Blk w6 (w+1) #[.bool g5,.slice a5 n5 c5] 51:=by rw [uk];exact (L5.set 0 _).set 1 _
 have R6:Blk w6 (w+1+1) #[.bool false,.slice none 0 0,.bool false,.slice none 0 0] 53:=by rw [uk];exact (R5.far _ _ qH).far _ _ qH
 have JG:Bh w6 g3 a3 n3 c3 (-z):=by rw [uk];exact (acv.setFresh VK _ _ qL).setFresh (VK.setNew _ _ qL) _ _ qL
 have hl6:Bh w6 g5 a5 n5 c5 (-z'):=by rw [uk];exact (FE.setFresh (nh.mono (Ad _)) _ _ qL).setFresh (nh.setNew _ _ qL) _ _ qL
 clear uk T5 L5 R5 FE nh acv VK l0 l1 lf0 lf1 b5;have m3:n3<35184372088829:=by have:=JG.rd.len;rw [Int.natAbs_neg] at this;omega
 have m5:n5<35184372088829:=by have:=hl6.rd.len;rw [Int.natAbs_neg] at this;omega
 obtain ⟨y,hy⟩:∃y,y=-z:=⟨_,rfl⟩;obtain ⟨x,hx⟩:∃x,x=-z':=⟨_,rfl⟩;have tr:0<x:=qB;rw [←hy] at JG ⊢;rw [←hx] at hl6 ⊢;have HY:=Ae (Ax hy hx);clear hy hx j5 h h' q1 q2;refine (Um w6 _ _ _ _ x hl6).mono ?_;rintro e w7 ⟨rfl,k7⟩;have b7:=xo b6 k7;have T7:=T6.keep k7;have L7:=L6.keep k7;have R7:=R6.keep k7;have hn7:=JG.keep k7;have ZZ:=hl6.keep k7;clear T6 L6 R6 JG hl6 k7 b6;have t0:=T7.cell 0 _ rfl;have t1:=T7.cell 1 _ rfl;have l0:=L7.cell 0 _ rfl;have l1:=L7.cell 1 _ rfl;by_cases h1:x=1
 ·subst h1;rw [show decide ((1:Int)=1)=true from rfl];have r0:=R7.cell 0 _ rfl;have r1:=R7.cell 1 _ rfl;have r2:=R7.cell 2 _ rfl;have r3:=R7.cell 3 _ rfl;have JJ:=R7.frozen 0;have JK:=R7.frozen 1;have JL:=R7.frozen 2;have JM:=R7.frozen 3;have zr:=R7.lt;go_wp2_with fail;go_region_held3 (fun W=>Z W w 0 (.bool g3)∧Z W w 1 (.slice a3 n3 c3)∧Z W (w+1) 0 (.bool g5)∧Z W (w+1) 1 (.slice a5 n5 c5)) (exact qK) (first
   | (go_at_call 183;(with_reducible refine (Jb _ _ _ _ _ y (hn7.keep qS)).mono ?_);rintro e w8 ⟨ge,ae,ne,ce,rfl,hn8,hf8,hb⟩;have k8:xp w7 w8:=Al qS (hb.mono qV);have R8:=R7.keep k8;replace ⟨t0,t1,l0,l1⟩:=xj k8 t0 t1 l0 l1;replace r0:=R8.cell 0 _ rfl;replace r1:=R8.cell 1 _ rfl;replace r2:=R8.cell 2 _ rfl;replace r3:=R8.cell 3 _ rfl;replace JJ:=R8.frozen 0;replace JK:=R8.frozen 1;replace JL:=R8.frozen 2;replace JM:=R8.frozen 3;replace zr:=R8.lt;have hl8:=ZZ.keep k8)
   | (go_at_call 183;(with_reducible refine (Jb _ _ _ _ _ 1 (hl8.keep qS)).mono ?_);rintro e w9 ⟨gf,af,nf,cf,rfl,hn9,NY,hb⟩;have k9:xp w8 w9:=Al qS (hb.mono qV);have R9:=R8.keep k9;replace ⟨t0,t1,l0,l1⟩:=xj k9 t0 t1 l0 l1;replace r0:=R9.cell 0 _ rfl;replace r1:=R9.cell 1 _ rfl;replace r2:=R9.cell 2 _ rfl;replace r3:=R9.cell 3 _ rfl;replace JJ:=R9.frozen 0;replace JK:=R9.frozen 1;replace JL:=R9.frozen 2;replace JM:=R9.frozen 3;replace zr:=R9.lt))
  all_goals
   have fe:Bc (w+1+1+1) w9 ae ce:=(hf8.mono (by have:=R7.lt;first|omega|(simp;omega))).keep k9;have ff:Bc (w+1+1+1) w9 af cf:=NY.mono (by have:=R8.lt;first|omega|(simp;omega));have al8:=hn8.keep k9;have b9:xp w w9:=(xo b7 k8).trans (k9.mono (xo b7 k8).size);have u2:w.heap.size+1+1<w.heap.size+1+1+1:=Ag _;go_wp2_with fail;refine bodyPost_ret (v:=.agg #[.bool ge,.slice ae ne ce,.bool gf,.slice af nf cf]) (by simp [results,results109,go_sem,r0,r1,r2,r3]) rfl ?_;have e1:Int.gcd y 1=1:=by simp [Int.gcd]
   rw [←HY.out.1,←HY.out.2,Fh,E5,e1];simp only [Int.natCast_one,Int.ediv_one];refine ⟨ge,ae,ne,ce,gf,af,nf,cf,rfl,⟨?_,?_,qB,by simp [Int.gcd]⟩,?_,?_,qD⟩
   ·exact al8.set4 fe _ _ _ _ _ _ _ _ u2 u2 u2 u2
   ·exact hn9.set4 ff _ _ _ _ _ _ _ _ u2 u2 u2 u2
   ·exact (fe.set4 _ _ _ _ _ _ _ _ u2 u2 u2 u2).mono qB
   ·exact (ff.set4 _ _ _ _ _ _ _ _ u2 u2 u2 u2).mono qB
 ·rw [decide_eq_false h1];obtain ⟨D,hD⟩:∃D:Int,D=((Int.gcd y x:Nat):Int):=⟨_,rfl⟩;have hDp:0<D:=by have:=Int.gcd_pos_of_ne_zero_right y (show x≠0 from qB);omega
  have hlD:(dg D.natAbs).length≤n5:=by
   have k1:=ZZ.rd.len;have k3:=Kk (p:=y) tr;rw [hD,Int.natAbs_natCast];omega
  have HD:=Ae (Ax hD hlD);clear hD hlD;go_wp2_with fail;refine (dL w7 _ _ _ _ y hn7 _ _ _ _ x ZZ tr m5 m3).mono ?_;rintro e w8 ⟨gg,ag,ng,cg,rfl,QA,r9,k8⟩;rw [←HD.out.1] at QA;have b8:=xo b7 k8;have T8:=T7.keep k8;have L8:=L7.keep k8;have R8:=R7.keep k8;have hn8:=hn7.keep k8;have hl8:=ZZ.keep k8;replace t0:=T8.cell 0 _ rfl;replace t1:=T8.cell 1 _ rfl;have zT:w.heap.size<w8:=T8.lt;have VI:ng<35184372088829:=by have h1:=QA.rd.len;have:=HD.out.2;omega
  clear T7 L7 R7 hn7 ZZ k8 b7 r9 l0 l1;go_wp2_with fail;refine Bt ?_;intro w9 yw;have k9:xp w8 w9:=by rw [yw];go_grown
  have G9:Blk w9 w8 #[.bool gg,.slice ag ng cg] 51:=by rw [yw];exact C0 rfl _ _
  clear yw;have b9:=xo b8 k9;have T9:=T8.keep k9;have L9:=L8.keep k9;have R9:=R8.keep k9;obtain ⟨GB,hGB⟩:∃GB,GB=w8.heap.size:=⟨_,rfl⟩;rw [←hGB] at G9 ⊢;have zR:w.heap.size+1+1<GB:=by rw [hGB];exact R8.lt
  clear hGB;refine (gH w9 _ _ _ _ y (hn8.keep k9) _ _ _ _ D (QA.keep k9) hDp m3 VI).mono ?_;rintro e wa ⟨gq,aq,nq,cq,gr,ar,nr,cr,rfl,hq,-,rj,-,ka⟩;have ba:=xo b9 ka;have La:=L9.keep ka;have Ra:=R9.keep ka;have Ga:=G9.keep ka;have KX:=(QA.keep k9).keep ka;have hla:=(hl8.keep k9).keep ka;have acx:Bc (w+1+1+1) wa aq cq:=rj.mono R9.lt;have l0:=La.cell 0 _ rfl;have l1:=La.cell 1 _ rfl;have g0:=Ga.cell 0 _ rfl;have g1:=Ga.cell 1 _ rfl;have zG:GB<wa.heap.size:=Ga.lt;have zRa:w.heap.size+1+1<wa:=Ra.lt;have zLa:w.heap.size+1<wa:=La.lt;have e01:¬w.heap.size=wa.heap.size:=qB;have e02:¬wa.heap.size=w.heap.size:=qB;have e03:¬w.heap.size+1=wa.heap.size:=qB;have e04:¬wa.heap.size=w.heap.size+1:=qB;have e05:¬GB=wa.heap.size:=qB;have e06:¬wa.heap.size=GB:=qB;have e07:¬GB=wa.heap.size+1:=qB;have e08:¬wa.heap.size+1=GB:=qB;have e09:w.heap.size<wa:=qB;clear T8 L8 R8 T9 L9 R9 G9 k9 ka b8 b9 rj hn8 QA hl8 t0 t1;go_wp2_with fail;refine Bt ?_;intro wb hwb;have kb:xp wa wb:=by rw [hwb];go_grown
  have Nb:Blk wb wa #[.bool gq,.slice aq nq cq] 51:=by rw [hwb];exact (C0 rfl _ _).alloc _
  clear hwb;have bb:=xo ba kb;obtain ⟨NB,hNB⟩:∃NB,NB=wa.heap.size:=⟨_,rfl⟩;rw [←hNB] at Nb ⊢;have zN:w.heap.size+1+1<NB:=by rw [hNB];omega
  clear hNB;refine (gH wb _ _ _ _ x (hla.keep kb) _ _ _ _ D (KX.keep kb) hDp m5 VI).mono ?_;rintro e wc ⟨ge,ae,ne,ce,gr',ar',nr',cr',rfl,he,-,ry,-,kc⟩;have bc:=xo bb kc;have Rb:=Ra.keep kb;have Rc:=Rb.keep kc;have Nc:=Nb.keep kc;have hqc:=(hq.keep kb).keep kc;have acy:=(acx.keep kb).keep kc;have acz:Bc (w+1+1+1) wc ae ce:=ry.mono Rb.lt;have n0:Z wc NB 0 (.bool gq):=Nc.cell 0 _ rfl;have n1:Z wc NB 1 (.slice aq nq cq):=Nc.cell 1 _ rfl;have zr2:w.heap.size+1<wc:=by have:=Rc.lt;omega
  have zNc:NB<wc.heap.size:=Nc.lt;have e11:¬NB=wc.heap.size:=qB;have SK:¬wc.heap.size=NB:=qB;have e13:¬NB=wc.heap.size+1:=qB;have e14:¬wc.heap.size+1=NB:=qB;have e15:¬wc.heap.size=w.heap.size+1+1:=qB;have e16:¬w.heap.size+1+1=wc.heap.size:=qB;have e17:¬wc.heap.size=w.heap.size+1:=qB;have e18:¬w.heap.size+1=wc.heap.size:=qB;have JJ:=Rc.frozen 0;have JK:=Rc.frozen 1;have JL:=Rc.frozen 2;have JM:=Rc.frozen 3;have r0:Z wc (w+1+1) 0 (.bool false):=Rc.cell 0 _ rfl;have r1:Z wc (w+1+1) 1 (.slice none 0 0):=Rc.cell 1 _ rfl;have r2:Z wc (w+1+1) 2 (.bool false):=Rc.cell 2 _ rfl;have r3:Z wc (w+1+1) 3 (.slice none 0 0):=Rc.cell 3 _ rfl;have zr:w.heap.size+1+1<wc:=Rc.lt;clear e01 e02 e03 e04 e05 e06 e07 e08 e09 zLa zRa zG;have zrr:=Rc.lt;clear La Ra Rb Ga Nb KX hla acx hq ry l0 l1 g0 g1 kb kc ba bb;go_wp2_with fail;refine bodyPost_ret (v:=.agg #[.bool gq,.slice aq nq cq,.bool ge,.slice ae ne ce]) (by simp [results,results109,go_sem,r0,r1,r2,r3,zr,zr2,e15,e16,e17,e18]) rfl ?_;have vk:=Lg (p:=y) tr;rw [←HD.out.1] at vk;rw [←HY.out.1,←HY.out.2,Fh,E5,←HD.out.1];have u2:w.heap.size+1+1<w.heap.size+1+1+1:=Ag _;refine ⟨gq,aq,nq,cq,ge,ae,ne,ce,rfl,⟨?_,?_,vk.1,vk.2⟩,?_,?_,?_⟩
  ·exact (hqc.set4 acy _ _ _ _ _ _ _ _ u2 u2 u2 u2).keep (((Ac _ _).alloc (Ad _) _).alloc qH _)
  ·exact (he.set4 acz _ _ _ _ _ _ _ _ u2 u2 u2 u2).keep (((Ac _ _).alloc (Ad _) _).alloc qH _)
  ·exact ((acy.set4 _ _ _ _ _ _ _ _ u2 u2 u2 u2).keep (((Ac _ _).alloc (Ad _) _).alloc qH _)).mono qB
  ·exact ((acz.set4 _ _ _ _ _ _ _ _ u2 u2 u2 u2).keep (((Ac _ _).alloc (Ad _) _).alloc qH _)).mono qB
  ·go_grown
theorem jA (g1:Bool) (a1:Γ) (n1 c1:Nat) (p:Int) (g2:Bool) (a2:Γ) (n2 c2:Nat) (q:Int) (h:Bo w g1 a1 n1 c1 p g2 a2 n2 c2 q)
  (g3:Bool) (a3:Γ) (n3 c3:Nat) (p':Int) (g4:Bool) (a4:Γ) (n4 c4:Nat) (q':Int) (h':Bo w g3 a3 n3 c3 p' g4 a4 n4 c4 q') (br:n1≤1000000000) (bp:n2≤1000000000) (ea:n3≤1000000000) (ec:n4≤1000000000) :
  Θ 188 #[.agg #[.bool g1,.slice a1 n1 c1,.bool g2,.slice a2 n2 c2],.agg #[.bool g3,.slice a3 n3 c3,.bool g4,.slice a4 n4 c4]] w (Hs w (Fh (p*p') (q*q')) (E5 (p*p') (q*q'))):=by
 have e1:=h.top.rd.len;have e2:=h.low.rd.len;have e3:=h'.top.rd.len;have e4:=h'.low.rd.len;have i1:=C9 p p';have i2:=C9 q q';have HD:Hid ((dg (p*p').natAbs).length<35184372088829∧(dg (q*q').natAbs).length<35184372088829):=Ae qB;have HQ:Hid (0<q*q'):=Ae (Int.mul_pos h.pos h'.pos);clear e1 e2 e3 e4 i1 i2;have HB:=Ac w w;go_enter func188,ntmps188;go_wp2_with fail;refine (Kt _ _ _ _ _ _ _ _ _ _ _ (h.keep qD) qB qB).mono ?_;rintro e w1 ⟨rfl,hb⟩;obtain ⟨hc,hf⟩:=Bg hb;have hz:=hb.size;(try simp only [Aj,Ak] at hz);replace HB:=zP w hb;obtain ⟨aw,bh,ei,ej⟩:=xe hc w g1 a1 n1 c1 g2 a2 n2 c2;obtain ⟨bn,bo,im,s1_3⟩:=xe hc (w+1) g3 a3 n3 c3 g4 a4 n4 c4;obtain ⟨bw,bx,fi,fj⟩:=xf hc (w+1+1);obtain ⟨bz,cc,gh,gp⟩:=xg hf (w+1+1);obtain ⟨dy,dz,mj,ml⟩:=xg hf w;obtain ⟨dp,dt,jz,kh⟩:=xg hf (w+1);have jy:w.heap.size+1+1<w1:=qB;have VL:w.heap.size<w1:=qB;have VM:w.heap.size+1<w1:=qB;clear hc hf hb hz;go_upto_region 2 with fail
 refine Bx ?_;intro w2 df;have fg:xp w w2:=by rw [df];go_grown
 have A0:Z w2 w 0 (.bool g1):=by rw [df];simp [*,go_sem]
 have A1:Z w2 w 1 (.slice a1 n1 c1):=by rw [df];simp [*,go_sem]
 have A2:Z w2 w 2 (.bool g2):=by rw [df];simp [*,go_sem]
 have A3:Z w2 w 3 (.slice a2 n2 c2):=by rw [df];simp [*,go_sem]
 have B0:Z w2 (w+1) 0 (.bool g3):=by rw [df];simp [*,go_sem]
 have VN:Y w2 (w+1) 0:=by rw [df];simp [*,go_sem]
 have B1:Z w2 (w+1) 1 (.slice a3 n3 c3):=by rw [df];simp [*,go_sem]
 have VO:Y w2 (w+1) 1:=by rw [df];simp [*,go_sem]
 have B2:Z w2 (w+1) 2 (.bool g4):=by rw [df];simp [*,go_sem]
 have VP:Y w2 (w+1) 2:=by rw [df];simp [*,go_sem]
 have B3:Z w2 (w+1) 3 (.slice a4 n4 c4):=by rw [df];simp [*,go_sem]
 have VQ:Y w2 (w+1) 3:=by rw [df];simp [*,go_sem]
 have R0:Z w2 (w+1+1) 0 (.bool false):=by rw [df];simp [*,go_sem]
 have fp:Y w2 (w+1+1) 0:=by rw [df];simp [*,go_sem]
 have R1:Z w2 (w+1+1) 1 (.slice none 0 0):=by rw [df];simp [*,go_sem]
 have fq:Y w2 (w+1+1) 1:=by rw [df];simp [*,go_sem]
 have R2:Z w2 (w+1+1) 2 (.bool false):=by rw [df];simp [*,go_sem]
 have fv:Y w2 (w+1+1) 2:=by rw [df];simp [*,go_sem]
 have R3:Z w2 (w+1+1) 3 (.slice none 0 0):=by rw [df];simp [*,go_sem]
 have fw:Y w2 (w+1+1) 3:=by rw [df];simp [*,go_sem]
 clear df HB aw bh ei ej bn bo im s1_3 bw bx fi fj dy dz mj ml dp dt jz kh bz cc gh gp jy VL VM;go_wp2_with fail;refine (Kt _ _ _ _ _ _ _ _ _ _ _ (h'.keep fg) qB qB).mono ?_;rintro e w3 ⟨rfl,hb⟩;have ep:=xo fg hb
 (replace ⟨B0,VN,B1,VO,B2,VP,B3,VQ⟩:=xi hb B0 VN B1 VO B2 VP B3 VQ;replace ⟨R0,fp,R1,fq,R2,fv,R3,fw⟩:=xi hb R0 fp R1 fq R2 fv R3 fw;replace ⟨A0,A1,A2,A3⟩:=xj hb A0 A1 A2 A3)
 have nw:w.heap.size+1+1<w3:=Aa _ _ R0;clear hb fg;go_upto_region 3 with fail
 refine Bx ?_;intro w4 jg;have o8:xp w w4:=by rw [jg];go_grown
 have FH:Z w4 w 0 (.bool g1):=by rw [jg];simp [*,go_sem]
 have FI:Z w4 w 1 (.slice a1 n1 c1):=by rw [jg];simp [*,go_sem]
 have A2':Z w4 w 2 (.bool g2):=by rw [jg];simp [*,go_sem]
 have A3':Z w4 w 3 (.slice a2 n2 c2):=by rw [jg];simp [*,go_sem]
 have CX:Z w4 (w+1) 0 (.bool g3):=by rw [jg];simp [*,go_sem]
 have FJ:Z w4 (w+1) 1 (.slice a3 n3 c3):=by rw [jg];simp [*,go_sem]
 have B2':Z w4 (w+1) 2 (.bool g4):=by rw [jg];simp [*,go_sem]
 have B3':Z w4 (w+1) 3 (.slice a4 n4 c4):=by rw [jg];simp [*,go_sem]
 have yh:Z w4 (w+1+1) 0 (.bool false):=by rw [jg];simp [*,go_sem]
 have mm:Y w4 (w+1+1) 0:=by rw [jg];simp [*,go_sem]
 have yx:Z w4 (w+1+1) 1 (.slice none 0 0):=by rw [jg];simp [*,go_sem]
 have mo:Y w4 (w+1+1) 1:=by rw [jg];simp [*,go_sem]
 have yy:Z w4 (w+1+1) 2 (.bool false):=by rw [jg];simp [*,go_sem]
 have mv:Y w4 (w+1+1) 2:=by rw [jg];simp [*,go_sem]
 have yz:Z w4 (w+1+1) 3 (.slice none 0 0):=by rw [jg];simp [*,go_sem]
 have my:Y w4 (w+1+1) 3:=by rw [jg];simp [*,go_sem]
 clear jg ep nw A0 A1 A2 A3 B0 B1 B2 B3 R0 R1 R2 R3 VN VO VP VQ fp fq fv fw;have A0:=FH;have A1:=FI;have A2:=A2';have A3:=A3';have B0:=CX;have B1:=FJ;have B2:=B2';have B3:=B3';have R0:=yh;have fp:=mm;have R1:=yx;have fq:=mo;have R2:=yy;have fv:=mv;have R3:=yz;have fw:=my;clear FH FI A2' A3' CX FJ B2' B3' yh yx yy yz mm mo mv my;have h4:=h.keep o8;have SL:=h'.keep o8;have NS:w.heap.size+1+1<w4:=Aa _ _ R0;have HB:=Ac w4 w4;go_region_held3 (fun W=>Z W w 0 (.bool g1)∧Z W w 1 (.slice a1 n1 c1)∧Z W w 2 (.bool g2)∧Z W w 3 (.slice a2 n2 c2)∧Z W (w+1) 0 (.bool g3)∧Z W (w+1) 1 (.slice a3 n3 c3)∧Z W (w+1) 2 (.bool g4)∧Z W (w+1) 3 (.slice a4 n4 c4)) (exact qK) (first
  | (go_at_call 110;(with_reducible refine (Ob _ _ _ _ _ _ (h4.top.keep qQ) _ _ _ _ _ (SL.top.keep qQ) qB qB).mono ?_);rintro e w5 ⟨gx,ax,nx,cx,rfl,hx,iq,hb⟩;replace HB:xp w4 w5:=Al qQ (hb.mono qA);have fb:=HB.size;(replace ⟨R0,fp,R1,fq,R2,fv,R3,fw⟩:=xi HB R0 fp R1 fq R2 fv R3 fw;replace ⟨A0,A1,A2,A3,B0,B1,B2,B3⟩:=xl HB A0 A1 A2 A3 B0 B1 B2 B3))
  | (go_at_call 110;(with_reducible refine (Ob _ _ _ _ _ _ (h4.low.keep qQ) _ _ _ _ _ (SL.low.keep qQ) qB qB).mono ?_);rintro e w6 ⟨gy,ay,ny,cy,rfl,hy,sk,ee⟩;have oe:xp w5 w6:=Al qQ (ee.mono qA);replace HB:xp w4 w6:=Al HB (oe.mono qA);have ac4:=HB.size;(replace ⟨R0,fp,R1,fq,R2,fv,R3,fw⟩:=xi oe R0 fp R1 fq R2 fv R3 fw;replace ⟨A0,A1,A2,A3,B0,B1,B2,B3⟩:=xl oe A0 A1 A2 A3 B0 B1 B2 B3);have hx6:=hx.keep oe;have AO:nx<35184372088829:=(by have h1:=hx.rd.len;have:=HD.out.1;omega);have VR:ny<35184372088829:=(by have h1:=hy.rd.len;have:=HD.out.2;omega))
  | (go_at_call 109;(with_reducible refine (dV _ _ _ _ _ (p*p') (hx6.keep qQ) _ _ _ _ (q*q') (hy.keep qQ) HQ.out AO VR).mono ?_);rintro e w7 ⟨ge,ae,ne,ce,gf,af,nf,cf,rfl,hr,ry,vw,iw⟩;have s9:xp w6 w7:=Al qQ (iw.mono qA);replace HB:xp w4 w7:=Al HB (s9.mono qA);have ac5:=HB.size;(replace ⟨R0,fp,R1,fq,R2,fv,R3,fw⟩:=xi s9 R0 fp R1 fq R2 fv R3 fw;replace ⟨A0,A1,A2,A3,B0,B1,B2,B3⟩:=xl s9 A0 A1 A2 A3 B0 B1 B2 B3)))
 all_goals
  have fe:Bc (w+1+1+1) w7 ae ce:=ry.mono qA;have ff:Bc (w+1+1+1) w7 af cf:=vw.mono qA;have u2:w.heap.size+1+1<w.heap.size+1+1+1:=Ag _;have HW:=xo o8 HB;go_wp2_with fail;refine bodyPost_ret (v:=.agg #[.bool ge,.slice ae ne ce,.bool gf,.slice af nf cf]) (by simp [results,results188,go_sem,R0,R1,R2,R3]) rfl ?_;exact qAy
end Go.Proofs.YtfijkfdfbnfmmaaGreatDoor
end
