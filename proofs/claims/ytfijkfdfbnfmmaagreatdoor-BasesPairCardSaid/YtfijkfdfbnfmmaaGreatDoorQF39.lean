/- A book: a list is kept. Condition: it lies in a block of its own, ahead of the book. -/
import Derived.Test.YtfijkfdfbnfmmaaGreatDoorQF38
set_option linter.unusedSimpArgs false
set_option linter.unusedVariables false
set_option maxRecDepth 100000
set_option maxHeartbeats 4000000
section
namespace Go.Proofs.YtfijkfdfbnfmmaaGreatDoor
open Go.RowKit Proofs.Tryz
variable (w:World) (B0:Nat) (a:Γ) {xs:List Value} {B o s n b b' m base i:Nat} {fz:Nat×Nat} {mk:Nat→List Value} {S:Nat→Prop} {e:TypeId} {v u v':Value} {w1 w':World}
theorem uT:(prog.info? 128).map (fun i=>(i.zero,i.size,i.bytes))=some (some (.agg #[.slice none 0 0,.slice none 0 0,M 0]),3,56):=qE
theorem tC:(prog.info? 122).map (fun i=>(i.zero,i.size,i.bytes))=some (some (.agg #[.slice none 0 0,.slice none 0 0,M 0]),3,56):=qE
theorem H3 {w:World} (h:w.ownsRow (B+1) e s v n xs):(w.setCell (J B o) u).ownsRow (B+1) e s v n xs:=by
 refine ⟨h.1,h.2.imp id fun⟨g,cap,cur,h1,h2,h3,h4⟩=>⟨g,cap,cur,h1,h2,?_,h4⟩⟩;rw [Below.heap_setCell w _ u g (by show g≠B;omega)];exact h3
theorem Mh {w:World} (h:w.ownsRow (B+1) e s v n xs):∀k,v.ownBlock=some k→B<k:=qDz
theorem Mn {w:World} {e':TypeId} {s':Nat} {n':Nat} {xs':List Value} (h:w.ownsRow b e s v n xs) (h':w.ownsRow b' e' s' v' n' xs') (di:e≠e'):v.ownBlock=none∨v.ownBlock≠v'.ownBlock:=by
 rcases h.2 with ⟨rfl,_⟩|⟨g,cap,cur,rfl,_,h3,_⟩
 ·exact .inl rfl
 ·refine .inr fun e1=>?_
  rcases h'.2 with ⟨rfl,_⟩|⟨g',KE,kj,rfl,_,h3',_⟩
  ·cases e1
  ·simp only [Value.ownBlock,Option.some.injEq] at e1;subst e1;rw [h3'] at h3;simp only [Option.some.injEq,Obj.cells.injEq] at h3;exact di h3.2.1.symm
theorem Pz {w:World} (h:w.ownsRow B e s v n xs) (he:e=128∨e=122):∀k,v.ownBlock=some k→∃cur e fz,w.heap[k]? = some (.cells cur e fz)∧(e=128∨e=122):=by
 rcases h.2 with ⟨rfl,_⟩|⟨g,cap,cur,rfl,hg,h3,_⟩
 ·intro k hk;cases hk
 ·intro k hk;simp only [Value.ownBlock,Option.some.injEq] at hk;subst hk;exact ⟨cur,e,(0,0),h3,he⟩
theorem eM (p q:Addr) (u:Value):(w.setCell p u).frozen? q=w.frozen? q:=qH
theorem Nl {w:World} {j:Nat} {x0:Value} {o:Obj} {row:Option Nat} (h0:Z w B 0 x0) (h2:Z w B j v) (hg:(((w.setCell (J B 0) u).alloc o).drew).grownBy w1 row) (di:∀k,row=some k→B<k) (FO:∀k,row=some k→∃cur e fz,w.heap[k]? = some (.cells cur e fz)∧(e=128∨e=122)) (hj:j≠0) :
  Eo B w (w1.setCell (J B j) v')∧(∀i,i≠j→i≠0→(w1.setCell (J B j) v').cell? ⟨B,i,none⟩=w.cell? (J B i))∧Z (w1.setCell (J B j) v') B 0 u∧Z (w1.setCell (J B j) v') B j v'∧∀i,(w1.setCell (J B j) v').frozen? ⟨B,i,none⟩=w.frozen? (J B i):=by
 have hB:B<w.heap.size:=Aa _ _ h0;have hBl:B<(World.heap (((w.setCell (J B 0) u).alloc o).drew)).size:=qL;have hb:=hg.block B hBl (fun e=>by have:=di _ e.symm;omega);have hc:∀i,w1.cell? ⟨B,i,none⟩=(w.setCell (J B 0) u).cell? (J B i):=fun i=>(Af (a:=⟨B,i,none⟩) hb).trans (by simp [go_sem,hB])
 have hf:∀i,w1.frozen? ⟨B,i,none⟩=w.frozen? (J B i):=fun i=>(World.frozen?_of_block (a:=⟨B,i,none⟩) hb).trans (by simp [go_sem,hB])
 have ig:Z w1 B 0 u:=(hc 0).trans qO;have hcj:Z w1 B j v:=(hc j).trans (by rw [←h2];exact World.cell?_setCell_other (w:=w) (a:=⟨B,0,none⟩) (b:=⟨B,j,none⟩) _ (by intro e;injection e with e1 e2;exact hj e2.symm));have rm:∀k,k<w.heap.size→k≠B→some k≠row→(w1.setCell (J B j) v').heap[k]? = w.heap[k]?:=fun k hk hkB hkr=>by
  rw [Below.heap_setCell _ _ _ _ hkB,hg.block k qL hkr];show ((w.setCell (J B 0) u).alloc o).heap[k]? = _;rw [Below.heap_alloc _ _ _ qL,Below.heap_setCell _ _ _ _ hkB]
 refine ⟨⟨⟨hg.os,hg.tape,hg.output,?_,fun k hk=>rm k qB qB (fun e=>by have:=di _ e.symm;omega)⟩,fun k hk hkB ht=>rm k hk hkB fun e=>?_⟩,fun i hi sy=>?_,?_,?_,fun i=>?_⟩
 ·have:=hg.size;simp at this ⊢;omega
 ·obtain ⟨cur,e',fz,h1,h2⟩:=FO k e.symm;exact h2.elim (ht _ _ _ h1).1 (ht _ _ _ h1).2
 ·rw [World.cell?_setCell_other (w:=w1) (a:=⟨B,j,none⟩) (b:=⟨B,i,none⟩) _ (by intro e;injection e with e1 e2;exact hi e2.symm),hc i,World.cell?_setCell_other (w:=w) (a:=⟨B,0,none⟩) (b:=⟨B,i,none⟩) _ (by intro e;injection e with e1 e2;exact sy e2.symm)]
 ·rw [World.cell?_setCell_other (w:=w1) (a:=⟨B,j,none⟩) (b:=⟨B,0,none⟩) _ (by intro e;injection e with e1 e2;exact hj e2)];exact ig
 ·simp [*,go_sem]
 ·rw [eM];exact hf i
theorem Ou {w:World} {B0:Nat} {R:List (Hl×Value)} (hR:∀p∈R,Dn w e s B0 B p.1) (hb:Below B w w'):∀p∈R,Dn w' e s B0 B p.1:=fun p hp=>(hR p hp).kept fun h0=>hb.block _ ((hR p hp).lt h0)
theorem iG {R:List (Hl×Value)} {q:Hl×Value} (h:R.Pairwise Dq) (hq:∀p∈R,Dq p q):(R++[q]).Pairwise Dq :=
 List.pairwise_append.2 ⟨h,qH,fun p hp u hu=>by simp only [Ao] at hu;subst hu;exact hq p hp⟩
theorem eO (B N:Nat) (Rl Rt:List (Hl×Value)) (h:Ck w B0 B N Rl Rt) (q:Hl) (hq:Dn w 129 1 B0 B q) (gw:∀p∈Rl,Dq p (q,.slice none 0 0)) (hm:q.m=N+1) (hN:N<1000000000) (hk:Rl.length<1000000000) :
  Θ 265 #[.pointer (E B),.slice q.a q.n q.c] w fun e w'=>e=.returned (.tuple #[])∧Ck w' B0 B (N+1) (Rl++[(q,.slice none 0 0)]) Rt∧Eo B w w':=by
 obtain ⟨i0,hi,dw,ed,en⟩:=info_parts uT;obtain ⟨vl,h2,ah⟩:=h.l;have HB:=Ae h;have h0:=h.c0;have f0:=h.fz 0;have f2:=h.fz 2;obtain ⟨a,bq,n,c,m⟩:=q;obtain rfl:m=N+1:=hm;clear h;go_enter func265,ntmps265;go_wp2_with fail;have q0:Z (w.setCell (J B 0) (M ((N:Int)+1))) B 0 (M ((N:Int)+1)):=qO;have q2:Z (w.setCell (J B 0) (M ((N:Int)+1))) B 2 vl:=qO;have hKw:B<w.heap.size:=Aa _ _ h0;have di:=Mh ah;have ji:World.ownsRow ((w.setCell (J B 0) (M ((N:Int)+1))).alloc (.cells #[.slice a n c,.slice none 0 0,M ((N:Int)+1)] 128)).drew (B+1) 128 3 vl (Rl).length (Dm Rl):=Bf (H3 ah) qD;have p0:World.cell? ((w.setCell (J B 0) (M ((N:Int)+1))).alloc (.cells #[.slice a n c,.slice none 0 0,M ((N:Int)+1)] 128)).drew ⟨B,0,none⟩=some (M ((N:Int)+1)):=qO;have p2:World.cell? ((w.setCell (J B 0) (M ((N:Int)+1))).alloc (.cells #[.slice a n c,.slice none 0 0,M ((N:Int)+1)] 128)).drew ⟨B,2,none⟩=some vl:=qO;have g2:World.frozen? ((w.setCell (J B 0) (M ((N:Int)+1))).alloc (.cells #[.slice a n c,.slice none 0 0,M ((N:Int)+1)] 128)).drew ⟨B,2,none⟩=false:=qO;have hBl:B<(World.heap ((w.setCell (J B 0) (M ((N:Int)+1))).alloc (.cells #[.slice a n c,.slice none 0 0,M ((N:Int)+1)] 128)).drew).size:=qL;refine Bw (fun W=>Z W B 2 vl∧Z W B 0 (M ((N:Int)+1))) 15 qE qK (fun ib=>?_);(refine xc 15 0 ?_;(try simp only [xb]));(refine xc 15 1 ?_;(try simp only [xb]));(refine xc 15 2 ?_;(try simp only [xb]));(refine xc 15 3 ?_;(try simp only [xb]));(refine xc 15 4 ?_;(try simp only [xb]));(refine xc 15 5 ?_;(try simp only [xb]));(refine xc 15 6 ?_;(try simp only [xb]));(refine xc 15 7 ?_;(try simp only [xb]));(refine xc 15 8 ?_;(try simp only [xb]));(refine xc 15 9 ?_;(try simp only [xb]));(refine xc 15 10 ?_;(try simp only [xb]));(refine Bd.one (i:=11) rfl qE (fun K hK=>?_);go_simp;skip;(try go_wp2_with fail);refine hK.out _ _ (fun _=>qK) ?_;clear hK K;(try simp only [xb]))
 (refine Bd.one (i:=12) rfl qE (fun K hK=>?_);refine step_append_lies _ qM _ _ _ qM (B+1) 128 i0 _ 3 56 underlying33 hi dw ed en rfl qI vl (Rl).length (Dm Rl) qM ji (J w 0) 1 1 [.slice a n c,.slice none 0 0,M ((N:Int)+1)] qJ qM (fun j u h=>by have:=Dp (w.setCell (J B 0) (M ((N:Int)+1))) _ 128 j u h;simpa using this) (by simp [Value.oneCell']) qI qN qB qL _ rfl ?_;intro g cap w1 du dn XO tu;have r0:=dn.cell p0 (fun e=>by have:=di _ e.symm;simp at this);have r2:=dn.cell p2 (fun e=>by have:=di _ e.symm;simp at this);have fz:Y w1 B 2:=(World.frozen?_of_block (a:=⟨B,2,none⟩) (dn.block B hBl (fun e=>by have:=di _ e.symm;simp at this))).trans g2;refine hK.out _ _ (fun _=>qK) ?_;clear hK K;(try simp only [xb]));(refine Bd.one (i:=13) rfl qE (fun K hK=>?_);go_simp;skip;(try go_wp2_with fail);refine hK.out _ _ (fun _=>qK) ?_;clear hK K;(try simp only [xb]));(refine Bd.one (i:=14) rfl qE (fun K hK=>?_);go_simp;skip;(try go_wp2_with fail);refine hK.out _ _ (fun _=>qK) ?_;clear hK K;(try simp only [xb]));(refine Bd.one (i:=15) rfl qE (fun K hK=>?_);go_simp;refine hK.out _ _ (fun h=>absurd h qI) ?_;clear hK K;(try simp only [xb]));refine Bd.done qE ?_ _;refine bodyPost_end (v:=.tuple #[]) (by simp [results,results265,go_sem]) rfl ⟨rfl,?_,?_⟩
 ·obtain ⟨hb,TX,FK,hjj,QG⟩:=Nl (v':=.slice (E g) (Rl.length+1) cap) h0 h2 dn di (Pz ah qI) qI;have HL:=Ou HB.out.hl hb.b;have HT:=Ou HB.out.ht hb.b;refine ⟨FK,fun i hi=>(TX i qB qB).trans (HB.out.nl i hi),fun i=>(QG i).trans (HB.out.fz i),⟨_,hjj,?_⟩,?_,?_,HT,iG HB.out.al gw,HB.out.at'⟩
  ·rw [Nj,A8];exact H3 du
  ·obtain ⟨vt,t1,t2⟩:=HB.out.t;exact ⟨vt,(TX 6 qI qI).trans t1,H3 ((Bf (H3 t2) qD).kept dn (Mn t2 ah qI))⟩
  ·intro p hp;rcases List.mem_append.1 hp with hp|hp
   ·exact HL p hp
   ·simp only [Ao] at hp;subst hp;exact hq.kept fun ig=>hb.b.block _ (hq.lt ig)
 ·exact (Nl h0 h2 dn di (Pz ah qI) qI).1
theorem dD (B N:Nat) (Rl Rt:List (Hl×Value)) (h:Ck w B0 B N Rl Rt) (q:Hl) (hq:Dn w 58 8 B0 B q) (gw:∀p∈Rt,Dq p (q,.slice none 0 0)) (hm:q.m=N+1) (hN:N<1000000000) (hk:Rt.length<1000000000) :
  Θ 37 #[.pointer (E B),.slice q.a q.n q.c] w fun e w'=>e=.returned (.tuple #[])∧Ck w' B0 B (N+1) Rl (Rt++[(q,.slice none 0 0)])∧Eo B w w':=by
 obtain ⟨i0,hi,dw,ed,en⟩:=info_parts tC;obtain ⟨vl,h2,ah⟩:=h.t;have HB:=Ae h;have h0:=h.c0;have f0:=h.fz 0;have f2:=h.fz 6;obtain ⟨a,bq,n,c,m⟩:=q;obtain rfl:m=N+1:=hm;clear h;go_enter func37,ntmps37;go_wp2_with fail;have q0:Z (w.setCell (J B 0) (M ((N:Int)+1))) B 0 (M ((N:Int)+1)):=qO;have q2:Z (w.setCell (J B 0) (M ((N:Int)+1))) B 6 vl:=qO;have hKw:B<w.heap.size:=Aa _ _ h0;have di:=Mh ah;have ji:World.ownsRow ((w.setCell (J B 0) (M ((N:Int)+1))).alloc (.cells #[.slice a n c,.slice none 0 0,M ((N:Int)+1)] 122)).drew (B+1) 122 3 vl (Rt).length (Dm Rt):=Bf (H3 ah) qD;have p0:World.cell? ((w.setCell (J B 0) (M ((N:Int)+1))).alloc (.cells #[.slice a n c,.slice none 0 0,M ((N:Int)+1)] 122)).drew ⟨B,0,none⟩=some (M ((N:Int)+1)):=qO;have p2:World.cell? ((w.setCell (J B 0) (M ((N:Int)+1))).alloc (.cells #[.slice a n c,.slice none 0 0,M ((N:Int)+1)] 122)).drew ⟨B,6,none⟩=some vl:=qO;have g2:World.frozen? ((w.setCell (J B 0) (M ((N:Int)+1))).alloc (.cells #[.slice a n c,.slice none 0 0,M ((N:Int)+1)] 122)).drew ⟨B,6,none⟩=false:=qO;have hBl:B<(World.heap ((w.setCell (J B 0) (M ((N:Int)+1))).alloc (.cells #[.slice a n c,.slice none 0 0,M ((N:Int)+1)] 122)).drew).size:=qL;refine Bw (fun W=>Z W B 6 vl∧Z W B 0 (M ((N:Int)+1))) 15 qE qK (fun ib=>?_);(refine xc 15 0 ?_;(try simp only [xb]));(refine xc 15 1 ?_;(try simp only [xb]));(refine xc 15 2 ?_;(try simp only [xb]));(refine xc 15 3 ?_;(try simp only [xb]));(refine xc 15 4 ?_;(try simp only [xb]));(refine xc 15 5 ?_;(try simp only [xb]));(refine xc 15 6 ?_;(try simp only [xb]));(refine xc 15 7 ?_;(try simp only [xb]));(refine xc 15 8 ?_;(try simp only [xb]));(refine xc 15 9 ?_;(try simp only [xb]));(refine xc 15 10 ?_;(try simp only [xb]));(refine Bd.one (i:=11) rfl qE (fun K hK=>?_);go_simp;skip;(try go_wp2_with fail);refine hK.out _ _ (fun _=>qK) ?_;clear hK K;(try simp only [xb]))
 (refine Bd.one (i:=12) rfl qE (fun K hK=>?_);refine step_append_lies _ qM _ _ _ qM (B+1) 122 i0 _ 3 56 underlying37 hi dw ed en rfl qI vl (Rt).length (Dm Rt) qM ji (J w 0) 1 1 [.slice a n c,.slice none 0 0,M ((N:Int)+1)] qJ qM (fun j u h=>by have:=Dp (w.setCell (J B 0) (M ((N:Int)+1))) _ 122 j u h;simpa using this) (by simp [Value.oneCell']) qI qN qB qL _ rfl ?_;intro g cap w1 du dn XO tu;have r0:=dn.cell p0 (fun e=>by have:=di _ e.symm;simp at this);have r2:=dn.cell p2 (fun e=>by have:=di _ e.symm;simp at this);have fz:Y w1 B 6:=(World.frozen?_of_block (a:=⟨B,6,none⟩) (dn.block B hBl (fun e=>by have:=di _ e.symm;simp at this))).trans g2;refine hK.out _ _ (fun _=>qK) ?_;clear hK K;(try simp only [xb]));(refine Bd.one (i:=13) rfl qE (fun K hK=>?_);go_simp;skip;(try go_wp2_with fail);refine hK.out _ _ (fun _=>qK) ?_;clear hK K;(try simp only [xb]));(refine Bd.one (i:=14) rfl qE (fun K hK=>?_);go_simp;skip;(try go_wp2_with fail);refine hK.out _ _ (fun _=>qK) ?_;clear hK K;(try simp only [xb]));(refine Bd.one (i:=15) rfl qE (fun K hK=>?_);go_simp;refine hK.out _ _ (fun h=>absurd h qI) ?_;clear hK K;(try simp only [xb]));refine Bd.done qE ?_ _;refine bodyPost_end (v:=.tuple #[]) (by simp [results,results37,go_sem]) rfl ⟨rfl,?_,?_⟩
 ·obtain ⟨hb,TX,FK,hjj,QG⟩:=Nl (v':=.slice (E g) (Rt.length+1) cap) h0 h2 dn di (Pz ah qI) qI;have HL:=Ou HB.out.hl hb.b;have HT:=Ou HB.out.ht hb.b;refine ⟨FK,fun i hi=>(TX i qB qB).trans (HB.out.nl i hi),fun i=>(QG i).trans (HB.out.fz i),?_,⟨_,hjj,?_⟩,HL,?_,HB.out.al,iG HB.out.at' gw⟩
  ·obtain ⟨vt,t1,t2⟩:=HB.out.l;exact ⟨vt,(TX 2 qI qI).trans t1,H3 ((Bf (H3 t2) qD).kept dn (Mn t2 ah qI))⟩
  ·rw [Nj,A8];exact H3 du
  ·intro p hp;rcases List.mem_append.1 hp with hp|hp
   ·exact HT p hp
   ·simp only [Ao] at hp;subst hp;exact hq.kept fun ig=>hb.b.block _ (hq.lt ig)
 ·exact (Nl h0 h2 dn di (Pz ah qI) qI).1
def Pq (w:World) (e:Ending) (w':World):Prop:=e=.returned (.bool true)∧xp w w'
theorem bK (n c:Nat) (a':Γ) (c':Nat) (d:Ξ) (ht:RdL w a (n+1) c (d++[77])) (hd:RdL w a' n c' d) :
  Θ 230 #[.slice a n c,.slice a' n c'] w (Pq w):=by
 have oz:=ht.cap;have KI:=ht.top;have hlen:=hd.len;obtain ⟨b,o,rfl,_⟩:=ht.cell.resolve_left qB;go_enter func230,ntmps230;go_wp2;go_loopw [5] (fun v5 wr=>∃k:Nat,k≤n∧v5=M k∧xp w wr) (fun v5 _=>n-(intOf v5).toNat)
 case atStart=>exact ⟨0,Ba _,rfl,Ac _ _⟩
 case round =>
  obtain ⟨k,hk,rfl,HB⟩:=hrel;by_cases bj:k<n
  ·have c1:=(ht.keep HB).at (i:=k) qB;rw [Hw _ _ _ qB] at c1;obtain ⟨b',o',rfl,_⟩:=hd.cell.resolve_left qB;have c2:=(hd.keep HB).at bj;clear ht hd;go_wp2_with fail;go_quiet (fail);go_wp2_with fail;go_roundw
   case rel=>exact ⟨k+1,qB,by go_num,Bj _ HB⟩
   case measure=>simp [intOf];omega
  ·obtain rfl:k=n:=qB;have c1:=(ht.keep HB).at (i:=k) qB;have hl:=Vh d 77;rw [hlen] at hl;rw [hl] at c1;clear ht hd hl;go_wp2_with fail;go_ret;exact ⟨rfl,HB⟩
theorem Wr (g:Bool) (a:Γ) (n c:Nat) (a':Γ) (c':Nat) (d:Ξ) (ht:RdL w a (n+1) c (d++[77])) (hd:RdL w a' n c' d) :
  Θ 192 #[.agg #[.bool g,.slice a n c],.agg #[.bool g,.slice a' n c']] w (Pq w):=by
 have HB:=Ac w w;go_enter func192,ntmps192;go_wp2_with (go_at_call 230;refine (bK _ _ _ _ _ _ d (ht.keep qD) (hd.keep qD)).mono ?_;rintro e w' ⟨rfl,hb⟩;obtain ⟨hc,hf⟩:=Bg hb;have hz:=hb.size;replace HB:=zP w hb;have qu:=HB.size);go_ret;exact ⟨rfl,HB⟩
theorem dM (s t:Tm) (h:Gh w 0 t s) (ht:Dg w t) :
  Θ 116 #[.agg #[.bool s.g1,.slice s.a1 s.n1 s.c1,.bool s.g2,.slice s.a2 s.n2 s.c2],.agg #[.bool t.g1,.slice t.a1 t.n1 t.c1,.bool t.g2,.slice t.a2 t.n2 t.c2]] w (Pq w):=by
 have HB:=Ac w w;obtain ⟨g1,n1,d1,g2,n2,d2,m0,m1,m2,m3⟩:=h.alike;have h1:=h.top;have h2:=h.low;have k1:=ht.top;have k2:=ht.low;rw [g1,g2,n1,n2];rw [n1,d1] at h1;rw [n2,d2] at h2;clear g1 g2 n1 n2 d1 d2 m0 m1 m2 m3 h ht;go_enter func116,ntmps116;go_wp2_with fail;refine (Wr _ _ _ _ _ _ _ t.d1 (h1.keep qD) (k1.keep qD)).mono ?_;rintro e w1 ⟨rfl,hb⟩;obtain ⟨hc,hf⟩:=Bg hb;have hz:=hb.size;replace HB:=zP w hb;go_wp2_with fail;refine (Wr _ _ _ _ _ _ _ t.d2 (h2.keep qD) (k2.keep qD)).mono ?_;rintro e w2 ⟨rfl,bp⟩;replace HB:xp w w2:=Al HB (bp.mono HB.size);go_wp2_with fail;go_ret;exact ⟨rfl,HB⟩
theorem dN (s t:Tm) (h:Gh w 0 t s) (ht:Dg w t) :
  Θ 35 #[s.val,t.val] w (Pq w):=by
 have HB:=Ac w w;have m0:=h.alike.m0;have m1:=h.alike.m1;have m2:=h.alike.m2;have m3:=h.alike.m3;unfold Tm.val;rw [m0,m1,m2,m3];clear m0 m1 m2 m3;go_enter func35,ntmps35;go_wp2_with fail;refine (dM _ s t (h.keep qD) (ht.keep qD)).mono ?_;rintro e w1 ⟨rfl,hb⟩;obtain ⟨hc,hf⟩:=Bg hb;have hz:=hb.size;replace HB:=zP w hb;go_wp2_with fail;go_ret;exact ⟨rfl,HB⟩
theorem Uv (n c:Nat) (a':Γ) (c':Nat) (p s:Nat→Tm) (ht:Jt w 0 a n c p s) (hp:RdP w a' n c' p) (hn:n≤1000000) :
  Θ 10 #[.slice a n c,.slice a' n c'] w (Pq w):=by
 obtain ⟨b,rfl,_,oz,KI,IQ,hm⟩:=ht;have hdc:decide (c≤n)=false:=qL;go_enter func10,ntmps10;go_wp2;go_loopw [5] (fun v5 wr=>∃k:Nat,k≤n∧v5=M k∧xp w wr) (fun v5 _=>n-(intOf v5).toNat)
 case atStart=>exact ⟨0,Ba _,rfl,Ac _ _⟩
 case round =>
  obtain ⟨k,hk,rfl,HB⟩:=hrel;by_cases bj:k<n
  ·obtain ⟨b',o',rfl,_⟩:=hp.cell.resolve_left qB;obtain ⟨e0,e1,e2,e3,e4,e5,e6,e7⟩:=(hp.keep HB).at bj;have sx:=(hp.keep HB).tm k bj;obtain ⟨f0,f1,f2,f3,f4,f5,f6,f7⟩:=((IQ k bj).1).keep HB;have af8:=((IQ k bj).2).keep HB;simp only [Nat.zero_add] at f0 f1 f2 f3 f4 f5 f6 f7;clear hm;have HT:=Ae IQ;clear IQ;go_wp2_with fail;go_still_tail 8,qE;have fg:xp w wr.drew:=HB.drew;have apm:=sx.keep (Below.drew (Ac _ _));have apn:=af8.keep (Below.drew (Ac _ _));clear HB sx af8 e0 e1 e2 e3 e4 e5 e6 e7 f0 f1 f2 f3 f4 f5 f6 f7
   change wpList _ _ _ _ _ wr.drew
   generalize wr.drew=w2 at *;go_wp2_with fail;refine (dN _ (s k) (p k) apn apm).mono ?_;rintro e w3 ⟨rfl,hb⟩;replace fg:xp w w3:=Al fg (hb.mono fg.size);go_wp2_with fail;go_roundw
   case rel=>exact ⟨k+1,qB,by go_num,fg⟩
   case measure=>simp [intOf];omega
  ·obtain rfl:k=n:=qB;obtain ⟨f0,f1,f2,f3,f4,f5,f6,f7⟩:=hm.keep HB;simp only [Nat.zero_add,Yb] at f0 f1 f2 f3 f4 f5 f6 f7;clear hm IQ;have hz:=HB.size;go_wp2_with fail;go_ret;exact ⟨rfl,qD⟩
theorem sB (C:Array Value) (e:TypeId):(w.alloc (.cells C e)).heap[w.heap.size]? = some (.cells C e (0,0)):=by
 show (w.heap.push _)[w.heap.size]? = _;simp
abbrev hv (q:Hl):Hl×Value:=(q,.slice none 0 0)
theorem sV (B N:Nat) (Rl Rt:List (Hl×Value)) (h:Ck w B0 B N Rl Rt) (q:Hl) (hq:Dn w 129 1 B0 B q) (gw:∀p∈Rl,Dq p (hv q)) (hm:q.m=N+1) (hN:N<1000000000) (hk:Rl.length<1000000000) :
  Θ 231 #[.pointer (E B),.slice q.a q.n q.c] w fun e w'=>e=.returned (.tuple #[])∧Ck w' B0 B (N+1) (Rl++[hv q]) Rt∧Eo B w w':=by
 go_enter func231,ntmps231;go_wp2_with (first|(go_at_call 265;refine (eO w B0 B N Rl Rt h q hq gw hm hN hk).mono ?_;rintro e w1 ⟨rfl,h1,br⟩));exact bodyPost_end (v:=.tuple #[]) (by simp [results,results231,go_sem]) rfl ⟨rfl,h1,br⟩
theorem rT (B N:Nat) (Rl Rt:List (Hl×Value)) (h:Ck w B0 B N Rl Rt) (g:Bool) (q:Hl) (hq:Dn w 129 1 B0 B q) (gw:∀p∈Rl,Dq p (hv q)) (hm:q.m=N+1) (hN:N<1000000000) (hk:Rl.length<1000000000) :
  Θ 193 #[.pointer (E B),.agg #[.bool g,.slice q.a q.n q.c]] w fun e w'=>e=.returned (.tuple #[])∧Ck w' B0 B (N+1) (Rl++[hv q]) Rt∧Eo B w w':=by
 have pd:B≤w.heap.size:=Nat.le_of_lt (Aa _ _ h.c0);go_enter func193,ntmps193;go_wp2_with (first|(go_at_call 231;refine (sV _ B0 B N Rl Rt (h.keep qD) q (hq.keep qD) gw hm hN hk).mono ?_;rintro e w1 ⟨rfl,h1,lz⟩;have br:Eo B w w1:=(Eo.of (by go_grown:xp w _) pd).trans lz));exact bodyPost_end (v:=.tuple #[]) (by simp [results,results193,go_sem]) rfl ⟨rfl,h1,br⟩
theorem wB (B N:Nat) (Rl Rt:List (Hl×Value)) (h:Ck w B0 B N Rl Rt) (g g':Bool) (q q':Hl) (hq:Dn w 129 1 B0 B q) (SZ:Dn w 129 1 B0 B q') (gw:∀p∈Rl,Dq p (hv q)) (YI:∀p∈Rl++[hv q],Dq p (hv q')) (hm:q.m=N+1) (JY:q'.m=N+2) (hN:N<500000000) (hk:Rl.length<500000000) :
  Θ 117 #[.pointer (E B),.agg #[.bool g,.slice q.a q.n q.c,.bool g',.slice q'.a q'.n q'.c]] w fun e w'=>e=.returned (.tuple #[])∧Ck w' B0 B (N+2) (Rl++[hv q,hv q']) Rt∧Eo B w w':=by
 have HM':=Ae JY;clear JY;have pd:B≤w.heap.size:=Nat.le_of_lt (Aa _ _ h.c0);go_enter func117,ntmps117;go_wp2_with fail;refine (rT _ B0 B N Rl Rt (h.keep qD) g q (hq.keep qD) gw hm qB qB).mono ?_;rintro e w1 ⟨rfl,h1,lz⟩;have br:Eo B w w1:=(Eo.of (by go_grown:xp w _) pd).trans lz;have hx:=lz.box (g:=w.heap.size) (cur:=#[.bool g,.slice q.a q.n q.c,.bool g',.slice q'.a q'.n q'.c]) (e:=53) (fz:=(0,0)) (sB _ _ _) (Nat.ne_of_gt (Aa _ _ h.c0)) qI qI;have x2:Z w1 w 2 (.bool g'):=by simp [World.cell?,hx]
 have x3:Z w1 w 3 (.slice q'.a q'.n q'.c):=by simp [World.cell?,hx]
 go_wp2_with fail;refine (rT w1 B0 B (N+1) (Rl++[hv q]) Rt h1 g' q' (SZ.kept fun h0=>br.b.block _ (SZ.lt h0)) YI HM'.out qB qL).mono ?_;rintro e w2 ⟨rfl,h2,bp⟩;go_wp2_with fail;rw [List.append_assoc] at h2;exact bodyPost_end (v:=.tuple #[]) (by simp [results,results117,go_sem]) rfl ⟨rfl,h2,br.trans bp⟩
theorem vZ (B N:Nat) (Rl Rt:List (Hl×Value)) (h:Ck w B0 B N Rl Rt) (g g':Bool) (q q':Hl) (m0 m1 m2 m3:Int) (hq:Dn w 129 1 B0 B q) (SZ:Dn w 129 1 B0 B q') (gw:∀p∈Rl,Dq p (hv q)) (YI:∀p∈Rl++[hv q],Dq p (hv q')) (hm:q.m=N+1) (JY:q'.m=N+2) (hN:N<500000000) (hk:Rl.length<500000000) :
  Θ 36 #[.pointer (E B),.agg #[.bool g,.slice q.a q.n q.c,.bool g',.slice q'.a q'.n q'.c,U m0,U m1,U m2,U m3]] w fun e w'=>e=.returned (.tuple #[])∧Ck w' B0 B (N+2) (Rl++[hv q,hv q']) Rt∧Eo B w w':=by
 have pd:B≤w.heap.size:=Nat.le_of_lt (Aa _ _ h.c0);go_enter func36,ntmps36;go_wp2_with (first|(go_at_call 117;refine (wB _ B0 B N Rl Rt (h.keep qD) g g' q q' (hq.keep qD) (SZ.keep qD) gw YI hm JY hN hk).mono ?_;rintro e w1 ⟨rfl,h1,lz⟩;have br:Eo B w w1:=(Eo.of (by go_grown:xp w _) pd).trans lz));exact bodyPost_end (v:=.tuple #[]) (by simp [results,results36,go_sem]) rfl ⟨rfl,h1,br⟩
def Fi (a:Γ) (n c m:Nat):Hl:=⟨a,(match a with|some x=>x.block|none=>0),n,c,m⟩
def Cu (p:Nat→Tm) (N:Nat):Nat→List (Hl×Value)
 | 0=>[]
 | k+1=>Cu p N k++[hv (Fi (p k).a1 (p k).n1 (p k).c1 (N+2*k+1)),hv (Fi (p k).a2 (p k).n2 (p k).c2 (N+2*k+2))]
theorem Ex (p:Nat→Tm) (N k:Nat):(Cu p N k).length=2*k:=by
 induction k with
 | zero=>rfl
 | succ k ih=>rw [Cu,A8,ih];simp;omega
theorem X9 (B N:Nat) (Rl Rt:List (Hl×Value)) (h:Ck w B0 B N Rl Rt) (a:Γ) (n c:Nat) (p:Nat→Tm) (hp:RdP w a n c p)
  (hH:∀i,i<n→Dn w 129 1 B0 B (Fi (p i).a1 (p i).n1 (p i).c1 (N+2*i+1))∧Dn w 129 1 B0 B (Fi (p i).a2 (p i).n2 (p i).c2 (N+2*i+2))) (hA:∀k,k≤n→(Rl++Cu p N k).Pairwise Dq)
  (hR:Dn w 58 8 B0 B (Fi a n c (N+2*n+1))) (hRA:∀q∈Rt,Dq q (hv (Fi a n c (N+2*n+1)))) (hN:N<100000000) (hk:Rl.length<100000000) (vn:Rt.length<100000000) :
  Θ 11 #[.pointer (E B),.slice a n c] w fun e w'=>e=.returned (.tuple #[])∧Ck w' B0 B (N+2*n+1) (Rl++Cu p N n) (Rt++[hv (Fi a n c (N+2*n+1))])∧Eo B w w':=by
 have pd:B≤w.heap.size:=Nat.le_of_lt (Aa _ _ h.c0);have JG:=hR.few;have hn:n≤1000000:=JG;have HA:=Ae hA;have HH:=Ae hH;have HRA:=Ae hRA;clear hA hH hRA JG;go_enter func11,ntmps11;go_wp2_with fail;go_loopw [4] (fun v4 wr=>∃i:Nat,i≤n∧v4=M i∧Ck wr B0 B (N+2*i) (Rl++Cu p N i) Rt∧Eo B w wr) (fun v4 _=>n-(intOf v4).toNat)
 case atStart=>exact ⟨0,qB,rfl,by simpa [Cu] using h,Eo.of qD pd⟩
 case round =>
  obtain ⟨i,hi,rfl,uf,YJ⟩:=hrel;by_cases bj:i<n
  ·have jx:=hp.tm i bj;rcases hp.cell with h0|⟨b,o,rfl,ij⟩
   ·omega
   ·have BI:b<B:=by
     rcases hR.lies with h0|⟨_,_,h3,_⟩
     ·have:=hp.cap;have:c=0:=h0;omega
     ·exact h3
    obtain ⟨e0,e1,e2,e3,e4,e5,e6,e7⟩:=ij i bj;have RO:∀j v,Z w b j v→Z wr b j v:=fun j v hv=>(Af (a:=⟨b,j,none⟩) (YJ.b.block b BI)).trans hv
    replace e0:=RO _ _ e0;replace e1:=RO _ _ e1;replace e2:=RO _ _ e2;replace e3:=RO _ _ e3;replace e4:=RO _ _ e4;replace e5:=RO _ _ e5;replace e6:=RO _ _ e6;replace e7:=RO _ _ e7;have od:=(HH.out i bj).1.keepB YJ.b;have uq:=(HH.out i bj).2.keepB YJ.b;have hA1:=HA.out (i+1) bj;rw [Cu,←List.append_assoc] at hA1;have hA2:=List.pairwise_append.1 hA1;have HT:=Ae (show Cu p N (i+1)=Cu p N i++[hv (Fi (p i).a1 (p i).n1 (p i).c1 (N+2*i+1)),hv (Fi (p i).a2 (p i).n2 (p i).c2 (N+2*i+2))] from rfl);have apq:∀q∈Rl++Cu p N i,Dq q (hv (Fi (p i).a1 (p i).n1 (p i).c1 (N+2*i+1))):=fun q hq=>hA2.2.2 q hq _ qH
    have IA:∀q∈Rl++Cu p N i++[hv (Fi (p i).a1 (p i).n1 (p i).c1 (N+2*i+1))],Dq q (hv (Fi (p i).a2 (p i).n2 (p i).c2 (N+2*i+2))):=fun q hq=>by
     rcases List.mem_append.1 hq with hq|hq
     ·exact hA2.2.2 q hq _ qH
     ·simp only [Ao] at hq;subst hq;exact (List.pairwise_cons.1 hA2.2.1).1 _ qH
    have HL:=Ex p N i;clear hA1 hA2 RO ij;generalize p i=t at *;go_wp2_with fail;refine (vZ _ B0 B (N+2*i) (Rl++Cu p N i) Rt (uf.keep qD) t.g1 t.g2 (Fi t.a1 t.n1 t.c1 (N+2*i+1)) (Fi t.a2 t.n2 t.c2 (N+2*i+2)) (t.m0:Nat) (t.m1:Nat) (t.m2:Nat) (t.m3:Nat) (od.keep qD) (uq.keep qD) apq IA rfl rfl qB (by rw [A8];omega)).mono ?_;rintro e w5 ⟨rfl,h5,dx⟩;go_wp2_with fail;go_roundw
    case rel=>exact ⟨i+1,qB,by go_num,by rw [HT.out,←List.append_assoc];exact h5,YJ.trans ((Eo.of (by go_grown:xp wr _) (Ah pd YJ.b.size)).trans dx)⟩
    case measure=>(first|(simp [intOf];omega)|(simp [intOf];done))
  ·obtain rfl:i=n:=qB;have HL:=Ex p N i;have LL:=hR.keepB YJ.b;have HRO:=HRA.out;go_wp2_with (first|(go_at_call 37;refine (dD wr B0 B (N+2*i) (Rl++Cu p N i) Rt uf (Fi a i c (N+2*i+1)) LL HRO rfl qB qB).mono ?_;rintro e w5 ⟨rfl,h5,dx⟩));exact bodyPost_end (v:=.tuple #[]) (by simp [results,results11,go_sem]) rfl ⟨rfl,h5,YJ.trans dx⟩
def mkL (m:Nat):List Value:=[.int .u32 ((1000+m:Nat):Int)]
theorem Vg (b o:Nat) (v:Value) {cur:Array Value} (h:w.heap[b]? = some (.cells cur e fz)):(w.setCell (J b o) v).heap[b]? = some (.cells (cur.setIfInBounds o v) e fz):=by
 rw [Go.Sort.setCell_eq];unfold Go.Sort.mapBlock;show (Array.modify w.heap b _)[b]? = _;rw [Array.getElem?_modify,if_pos rfl,h];rfl
theorem Dn.set {w:World} {B0:Nat} {h:Hl} (hh:Dn w e s B0 B h) (b o:Nat) (v:Value):Dn (w.setCell (J b o) v) e s B0 B h:=by
 refine ⟨hh.le,hh.few,hh.top,hh.lies.imp id fun⟨h1,h2,h3,cur,h4,h5⟩=>⟨h1,h2,h3,?_⟩⟩;by_cases e1:h.b=b
 ·subst e1;exact ⟨_,Vg w h.b o v h4,by simpa using h5⟩
 ·exact ⟨cur,by rw [Below.heap_setCell _ _ _ _ (by show h.b≠b;omega)];exact h4,h5⟩
theorem Ed {w:World} (h:Ec S w w') (b o:Nat) (v:Value) (hb:S b):Ec S w (w'.setCell (J b o) v) :=
 ⟨h.os,h.output,by simpa using h.size,fun g hg hs=>by
  have:g≠b:=fun e=>hs (e▸hb)
  rw [Below.heap_setCell _ _ _ _ (by show g≠b;omega)];exact h.block g hg hs⟩
theorem Hm (S:Nat→Prop) (w:World):Ec S w w:=⟨rfl,rfl,Ad _,fun _ _ _=>rfl⟩
theorem Ec.trans {w w2:World} (h:Ec S w w1) (h':Ec S w1 w2):Ec S w w2 :=
 ⟨h'.os.trans h.os,h'.output.trans h.output,Ah h.size h'.size,fun g hg hs=>(h'.block g (Nat.lt_of_lt_of_le hg h.size) hs).trans (h.block g hg hs)⟩
theorem Dr.congr {w:World} (h:Dr w s mk b n m) (hb:n=0∨w'.heap[b]? = w.heap[b]?):Dr w' s mk b n m:=fun k hk j hj=>by
 rcases hb with hb|hb
 ·omega
 ·rw [Af (a:=⟨b,k*s+j,none⟩) hb];exact h k hk j hj
theorem Dn.there {w:World} {B0:Nat} {h:Hl} (hh:Dn w e s B0 B h) (ho:o<h.c*s):(∃v,Z w h.b o v)∧Y w h.b o:=by
 rcases hh.lies with h0|⟨h1,h2,h3,cur,h4,h5⟩
 ·rw [h0,Nat.zero_mul] at ho;omega
 ·refine ⟨⟨cur[o]'qB,?_⟩,?_⟩
  ·have:o<cur.size:=qB;simp [World.cell?,h4,this]
  ·simp [World.frozen?,h4]
theorem Il {w:World} (h:w.ownsRow base e s v n xs):∃ao co,v=.slice ao n co:=by
 rcases h.2 with ⟨rfl,h0⟩|⟨g,cap,cur,rfl,_⟩
 ·subst h0;exact ⟨none,0,rfl⟩
 ·exact ⟨_,_,rfl⟩
theorem Hf {w:World} {R:List (Hl×Value)} (h:w.ownsRow base e 3 v R.length (Dm R)) (hR:R≠[]):∃g cap,v=.slice (E g) R.length cap∧base≤g∧∀i p,R[i]? = some p→Z w g (i*3) (.slice p.1.a p.1.n p.1.c)∧Z w g (i*3+1) p.2∧Z w g (i*3+2) (M p.1.m):=by
 rcases h.2 with ⟨_,h0⟩|⟨g,cap,cur,hv,hg,hb,ri,hm,fb,sx⟩
 ·exact absurd (List.length_eq_zero_iff.1 h0) hR
 ·refine ⟨g,cap,hv,hg,fun i p hp=>?_⟩;obtain ⟨h1,h2,h3⟩:=lI R i p hp;have hi:=(List.getElem?_eq_some_iff.1 hp).1;have key:∀j u,j<R.length*3→(Dm R)[j]? = some u→Z w g j u:=fun j u hj hu=>by
   rw [←sx,List.getElem?_take,if_pos hj] at hu;simpa [World.cell?,hb] using hu
  exact ⟨key _ _ qB h1,key _ _ qB h2,key _ _ qB h3⟩
theorem Ck.setL {w:World} {B0 N:Nat} {Rl Rt:List (Hl×Value)} (h:Ck w B0 B N Rl Rt) (o:Nat) (v:Value) (hb:inR Rl b∨inR Rt b):Ck (w.setCell (J b o) v) B0 B N Rl Rt :=
 h.keepS (Ed (Hm (fun g=>inR Rl g∨inR Rt g) w) b o v hb) (fun g hg=>fun e=>e.elim (Kh h.hl g hg) (Kh h.ht g hg)) (fun p hp=>(h.hl p hp).set b o v) (fun p hp=>(h.ht p hp).set b o v)
theorem Fc {w GI:World} (h:Ec S w w') (hb:xp w' GI):Ec S w GI:=h.trans (Fp hb S)
theorem Dr.keep {w:World} (h:Dr w s mk b n m) (hb:xp w w') (hz:(mk m)[0]?≠none) (hs:0<s):Dr w' s mk b n m:=by
 rcases Aq n with h0|h0
 ·exact h.congr (.inl h0)
 ·have h1:=h 0 h0 0 hs
  cases hx:(mk m)[0]? with
  | none=>exact absurd hx hz
  | some v =>
   rw [hx] at h1;exact h.congr (.inr (hb.block b (Aa _ _ h1)))
theorem Dr.next {w:World} {k:Nat} (h:Dr w 1 mkL b k m) (hc:Z w b k u):Dr (w.setCell (J b k) (.int .u32 ((1000+m:Nat):Int))) 1 mkL b (k+1) m:=fun i hi j hj=>by
 obtain rfl:j=0:=qB;rw [Nat.mul_one,Nat.add_zero];by_cases e:i=k
 ·subst e;simp [*,go_sem,mkL]
 ·have:=h i qB 0 qB;rw [Nat.mul_one,Nat.add_zero] at this;rw [←this];exact World.cell?_setCell_other (w:=w) (a:=⟨b,k,none⟩) (b:=⟨b,i,none⟩) _ (by intro e';injection e' with e1 e2;exact e e2.symm)
theorem Dr.other {w:World} (h:Dr w s mk b n m) (v:Value) (di:n=0∨b≠b'):Dr (w.setCell (J b' o) v) s mk b n m :=
 h.congr (di.imp id fun e=>Below.heap_setCell _ _ _ _ (by show b≠b';exact e))
theorem Im {α:Type} {R:List α} {q:α} (h:R[i]? = some q):R.take (i+1)=R.take i++[q]:=by rw [List.take_add_one,h];rfl
theorem Sn {R:List (Hl×Value)} (h:R.Pairwise Dq) {q:Hl×Value} (hq:R[i]? = some q):∀p∈R.take i,Dq p q:=by
 have h1:(R.take (i+1)).Pairwise Dq:=h.sublist (List.take_sublist _ _);rw [Im hq] at h1;exact fun p hp=>(List.pairwise_append.1 h1).2.2 p hp q qH
theorem Tg (m:Nat) (hm:m<1000000000):Θ 119 #[M (m:Nat)] w fun e w'=>e=.returned (.int .u32 ((1000+m:Nat):Int))∧w'=w:=by
 go_enter func119,ntmps119;go_wp2_with fail;go_ret;exact ⟨qH,rfl⟩
theorem dC (B N:Nat) (Rl Rt:List (Hl×Value)) (h:Ck w B0 B N Rl Rt) (hz:∀p∈Rl,p.2=.slice none 0 0) (hm:∀p∈Rl,p.1.m<1000000000) (hk:Rl.length<1000000000) :
  Θ 39 #[.pointer (E B)] w fun e w'=>e=.returned (.tuple #[])∧Ck w' B0 B N Rl Rt∧(∀p∈Rl,Dr w' 1 mkL p.1.b p.1.n p.1.m)∧Ec (inR Rl) w w':=by
 have HZ:=Ae hz;have HM:=Ae hm;clear hz hm;have pd:B<w.heap.size:=Aa _ _ h.c0;go_enter func39,ntmps39;go_wp2_with fail;go_loopw [2] (fun v2 wr=>∃i:Nat,i≤Rl.length∧v2=M i∧Ck wr B0 B N Rl Rt∧Hid (∀p∈Rl.take i,Dr wr 1 mkL p.1.b p.1.n p.1.m)∧Ec (inR Rl) w wr) (fun v2 _=>Rl.length-(intOf v2).toNat)
 case atStart=>exact ⟨0,qB,rfl,h,Ae qH,Hm _ _⟩
 case round =>
  obtain ⟨i,hi,rfl,uf,hF,hS⟩:=hrel;obtain ⟨vl,c2,ah⟩:=uf.l;by_cases bj:i<Rl.length
  ·obtain ⟨⟨⟨a,b,n,c,m⟩,v⟩,hq⟩:∃q,Rl[i]? = some q:=⟨_,Ai bj⟩;have td:=A7 hq;obtain rfl:v=.slice none 0 0:=HZ.out _ td;have xy:m<1000000000:=HM.out _ td;obtain ⟨g,cap,rfl,hg,ij⟩:=Hf ah (by intro e;rw [e] at bj;simp at bj);obtain ⟨e0,e1,e2⟩:=ij i _ hq;have JN:=Ae (Sn uf.al hq);have HNX:=Ae (Im hq);have OO:c≠0→inR Rl b:=fun h0=>⟨_,td,h0,rfl⟩
   have YK:=Ae OO;have hHs:=hS.size;clear ij ah OO;simp only at e0 e1 e2;go_wp2_with fail;refine Bx ?_;intro w2 df;have bp:Below wr wr w2:=by rw [df];go_grown
   have b0:Z w2 wr 0 (.slice a n c):=by rw [df];simp [*,go_sem]
   have b2:Z w2 wr 2 (M (m:Nat)):=by rw [df];simp [*,go_sem]
   clear df e0 e1 e2;have MT:=uf.keep bp;have BL:=Ae (fun p hp=>(hF.out p hp).keep bp (by simp [mkL]) qB);have TY:=Fc hS bp;clear uf hF hS bp c2;generalize wr.heap.size=H at *;go_loopw [4] (fun v4 wi=>∃k:Nat,k≤n∧v4=M k∧Ck wi B0 B N Rl Rt∧Hid (∀p∈Rl.take i,Dr wi 1 mkL p.1.b p.1.n p.1.m)∧Hid (Dr wi 1 mkL b k m)∧Ec (inR Rl) w wi∧Z wi H 0 (.slice a n c)∧Z wi H 2 (M (m:Nat))) (fun v4 _=>n-(intOf v4).toNat)
   case atStart=>exact ⟨0,qB,rfl,MT,BL,Ae (fun k hk=>qB),TY,b0,b2⟩
   case round =>
    clear MT BL TY b0 b2;obtain ⟨k,vv,rfl,uf,hF,hF1,hS,b0,b2⟩:=hrel;by_cases ky:k<n
    ·have hh:=uf.hl _ td;have hle:n≤c:=hh.le;have y9:n≤1000000:=hh.few;have ig:c≠0:=qB;rcases hh.lies with h0|⟨h1,h2,h3,_⟩
     ·exact absurd h0 ig
     ·obtain rfl:a=some ⟨b,0,none⟩:=h1;obtain ⟨⟨u,hu⟩,hfz⟩:=hh.there (o:=k) (by show k<c*1;omega);have hbH:b≠H:=by have:b<B:=h3;omega
      simp only at hu hfz;clear hh h3 h2;go_wp2_with fail;go_region_held3 (fun W=>Z W H 0 (.slice (E b) n c)∧Z W H 2 (M (m:Nat))) (exact qK) ((go_at_call 119;(with_reducible refine (Tg _ m xy).mono ?_);rintro e w' ⟨rfl,rfl⟩));go_wp2_with fail;have j8:=YK.out ig;have hd:Below (wr.setCell (J b k) (.int .u32 (1000+(m:Int)))).heap.size (wr.setCell (J b k) (.int .u32 (1000+(m:Int)))) (wr.setCell (J b k) (.int .u32 (1000+(m:Int)))).drew:=(Ac _ _).drew;have IU:Hid (∀p∈Rl.take i,Dr (wr.setCell (J b k) (.int .u32 (1000+(m:Int)))).drew 1 mkL p.1.b p.1.n p.1.m):=Ae fun p hp=>by
       refine Dr.keep (s:=1) (mk:=mkL) ((hF.out p hp).other _ ?_) hd (by simp [mkL]) qB;by_cases hp0:p.1.c=0
       ·have:=(uf.hl p (List.mem_of_mem_take hp)).le;exact .inl qB
       ·exact .inr (JN.out p hp hp0 ig)
      have af9:Hid (Dr (wr.setCell (J b k) (.int .u32 (1000+(m:Int)))).drew 1 mkL b (k+1) m):=Ae (Dr.keep (s:=1) (mk:=mkL) (hF1.out.next hu) hd (by simp [mkL]) qB);have WJ:(wr.setCell (J b k) (.int .u32 (1000+(m:Int)))).drew.cell? ⟨H,0,none⟩=some (.slice (E b) n c):=Bb hd ((It _ b0 (by show H≠b;omega)));have RP:(wr.setCell (J b k) (.int .u32 (1000+(m:Int)))).drew.cell? ⟨H,2,none⟩=some (M (m:Nat)):=Bb hd ((It _ b2 (by show H≠b;omega)));have RN:=Fc (Ed hS b k (.int .u32 (1000+(m:Int))) j8) hd;have aga:=(uf.setL k (.int .u32 (1000+(m:Int))) (.inl j8)).keep hd;exact qDw
    ·obtain rfl:k=n:=qB;have IU:=Ae (show ∀p∈Rl.take (i+1),Dr wr 1 mkL p.1.b p.1.n p.1.m from fun p hp=>by
      rw [HNX.out] at hp;rcases List.mem_append.1 hp with hp|hp
      ·exact hF.out p hp
      ·simp only [Ao] at hp;subst hp;exact hF1.out)
     exact qDq
  ·obtain rfl:i=Rl.length:=qB;obtain ⟨ao,co,rfl⟩:=Il ah;have IU:=hF.out;rw [As (Ad _)] at IU;clear hF;have HF:=Ae IU;clear IU;go_wp2_with fail;exact bodyPost_end (v:=.tuple #[]) (by simp [results,results39,go_sem]) rfl ⟨rfl,uf,HF.out,hS⟩
end Go.Proofs.YtfijkfdfbnfmmaaGreatDoor
end
