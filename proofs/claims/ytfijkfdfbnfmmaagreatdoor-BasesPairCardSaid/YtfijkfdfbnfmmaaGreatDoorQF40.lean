/- A book: its lists of terms are filled with their marks. -/
import Derived.Test.YtfijkfdfbnfmmaaGreatDoorQF39
set_option linter.unusedSimpArgs false
set_option linter.unusedVariables false
set_option maxRecDepth 100000
set_option maxHeartbeats 4000000
section
namespace Go.Proofs.YtfijkfdfbnfmmaaGreatDoor
open Go.RowKit Proofs.Tryz
variable {olds ks:List Value} {B0 b s g H len cap r i:Nat} {mk:Nat→List Value} {S:Nat→Prop} {e:TypeId} {v:Value} {w w' W:World} {ao:Γ}
def mkT (m:Nat):List Value:=[.bool false,.slice none 0 0,.bool false,.slice none 0 0,U ((1+m%60000:Nat):Int),U ((m/60000:Nat):Int),U 0,U 0]
abbrev Sv (w:World) (b o m:Nat):World:=(((((((w.setCell (J b o) (.bool false)).setCell (J b (o+1)) (.slice none 0 0)).setCell (J b (o+2)) (.bool false)).setCell (J b (o+3)) (.slice none 0 0)).setCell (J b (o+4)) (U (1+(m:Int)%60000))).setCell (J b (o+5)) (U ((m:Int)/60000))).setCell (J b (o+6)) (U 0)).setCell (J b (o+7)) (U 0)
theorem Ck.putT {B N:Nat} {Rl Rt:List (Hl×Value)} (h:Ck w B0 B N Rl Rt) (o m:Nat) (hb:inR Rl b∨inR Rt b):Ck (Sv w b o m) B0 B N Rl Rt :=
 (((((((h.setL _ _ hb).setL _ _ hb).setL _ _ hb).setL _ _ hb).setL _ _ hb).setL _ _ hb).setL _ _ hb).setL _ _ hb
theorem kP (h:Ec S w w') (b o m:Nat) (hb:S b):Ec S w (Sv w' b o m) :=
 Ed (Ed (Ed (Ed (Ed (Ed (Ed (Ed h _ _ _ hb) _ _ _ hb) _ _ _ hb) _ _ _ hb) _ _ _ hb) _ _ _ hb) _ _ _ hb) _ _ _ hb
theorem Qi (w:World) (b o m g:Nat) (hg:g≠b):(Sv w b o m).heap[g]? = w.heap[g]?:=by
 unfold Go.Proofs.YtfijkfdfbnfmmaaGreatDoor.Sv
 repeat rw [Below.heap_setCell _ _ _ _ (by show g≠b;exact hg)]
theorem Dr.nextT {k m:Nat} (h:Dr w 8 mkT b k m) (hc:∀j,j<8→∃u,Z w b (k*8+j) u):Dr (Sv w b (k*8) m) 8 mkT b (k+1) m:=fun i hi j hj=>by
 by_cases e:i=k
 ·subst e;obtain ⟨u0,h0⟩:=hc 0 qB;obtain ⟨u1,h1⟩:=hc 1 qB;obtain ⟨u2,h2⟩:=hc 2 qB;obtain ⟨u3,h3⟩:=hc 3 qB;obtain ⟨u4,h4⟩:=hc 4 qB;obtain ⟨u5,h5⟩:=hc 5 qB;obtain ⟨u6,h6⟩:=hc 6 qB;obtain ⟨u7,h7⟩:=hc 7 qB;rw [Nat.add_zero] at h0
  match j,hj with
  | 0,_=>simp [*,go_sem,mkT]
  | 1,_=>simp [*,go_sem,mkT]
  | 2,_=>simp [*,go_sem,mkT]
  | 3,_=>simp [*,go_sem,mkT]
  | 4,_=>simp [*,go_sem,mkT]
  | 5,_=>simp [*,go_sem,mkT]
  | 6,_=>simp [*,go_sem,mkT]
  | 7,_=>simp [*,go_sem,mkT]
 ·have h1:=h i qB j hj;rw [←h1];have ho:∀(W:World) (x:Nat) (v:Value),k*8≤x→(W.setCell (J b x) v).cell? ⟨b,i*8+j,none⟩=W.cell? (J b (i*8+j)):=fun W x v hx=>World.cell?_setCell_other (w:=W) (a:=⟨b,x,none⟩) (b:=⟨b,i*8+j,none⟩) _ (by intro e';injection e' with e1 e2;omega)
  unfold Go.Proofs.YtfijkfdfbnfmmaaGreatDoor.Sv;rw [ho _ _ _ qB,ho _ _ _ qB,ho _ _ _ qB,ho _ _ _ qB,ho _ _ _ qB,ho _ _ _ qB,ho _ _ _ qB,ho _ _ _ qB]
theorem Uf (w:World) (m:Nat) (hm:m<1000000000):Θ 123 #[M (m:Nat)] w fun e w'=>e=.returned (.agg #[.bool false,.slice none 0 0,.bool false,.slice none 0 0,U ((1+m%60000:Nat):Int),U ((m/60000:Nat):Int),U 0,U 0])∧xp w w':=by
 go_enter func123,ntmps123;go_wp2_with fail;refine bodyPost_ret (v:=.agg #[.bool false,.slice none 0 0,.bool false,.slice none 0 0,U ((1+m%60000:Nat):Int),U ((m/60000:Nat):Int),U 0,U 0]) (by simp [results,results123,go_sem]) rfl ⟨rfl,qD⟩
theorem eS (w:World) (B0 B N:Nat) (Rl Rt:List (Hl×Value)) (h:Ck w B0 B N Rl Rt) (hz:∀p∈Rt,p.2=.slice none 0 0) (hm:∀p∈Rt,p.1.m<1000000000) (hk:Rt.length<1000000000) :
  Θ 43 #[.pointer (E B)] w fun e w'=>e=.returned (.tuple #[])∧Ck w' B0 B N Rl Rt∧(∀p∈Rt,Dr w' 8 mkT p.1.b p.1.n p.1.m)∧Ec (inR Rt) w w':=by
 have HZ:=Ae hz;have HM:=Ae hm;clear hz hm;have pd:B<w.heap.size:=Aa _ _ h.c0;go_enter func43,ntmps43;go_wp2_with fail;go_loopw [2] (fun v2 wr=>∃i:Nat,i≤Rt.length∧v2=M i∧Ck wr B0 B N Rl Rt∧Hid (∀p∈Rt.take i,Dr wr 8 mkT p.1.b p.1.n p.1.m)∧Ec (inR Rt) w wr) (fun v2 _=>Rt.length-(intOf v2).toNat)
 case atStart=>exact ⟨0,qB,rfl,h,Ae qH,Hm _ _⟩
 case round =>
  obtain ⟨i,hi,rfl,uf,hF,hS⟩:=hrel;obtain ⟨vl,c2,ah⟩:=uf.t;by_cases bj:i<Rt.length
  ·obtain ⟨⟨⟨a,b,n,c,m⟩,v⟩,hq⟩:∃q,Rt[i]? = some q:=⟨_,Ai bj⟩;have td:=A7 hq;obtain rfl:v=.slice none 0 0:=HZ.out _ td;have xy:m<1000000000:=HM.out _ td;obtain ⟨g,cap,rfl,hg,ij⟩:=Hf ah (by intro e;rw [e] at bj;simp at bj);obtain ⟨e0,e1,e2⟩:=ij i _ hq;have JN:=Ae (Sn uf.at' hq);have HNX:=Ae (Im hq);have OO:c≠0→inR Rt b:=fun h0=>⟨_,td,h0,rfl⟩
   have YK:=Ae OO;have hHs:=hS.size;clear ij ah OO;simp only at e0 e1 e2;go_wp2_with fail;refine Bx ?_;intro w2 df;have bp:Below wr wr w2:=by rw [df];go_grown
   have b0:Z w2 wr 0 (.slice a n c):=by rw [df];simp [*,go_sem]
   have b2:Z w2 wr 2 (M (m:Nat)):=by rw [df];simp [*,go_sem]
   clear df e0 e1 e2;have MT:=uf.keep bp;have BL:=Ae (fun p hp=>(hF.out p hp).keep bp (by simp [mkT]) qB);have TY:=Fc hS bp;clear uf hF hS bp c2;generalize wr.heap.size=H at *;go_loopw [4] (fun v4 wi=>∃k:Nat,k≤n∧v4=M k∧Ck wi B0 B N Rl Rt∧Hid (∀p∈Rt.take i,Dr wi 8 mkT p.1.b p.1.n p.1.m)∧Hid (Dr wi 8 mkT b k m)∧Ec (inR Rt) w wi∧Z wi H 0 (.slice a n c)∧Z wi H 2 (M (m:Nat))) (fun v4 _=>n-(intOf v4).toNat)
   case atStart=>exact ⟨0,qB,rfl,MT,BL,Ae (fun k hk=>qB),TY,b0,b2⟩
   case round =>
    clear MT BL TY b0 b2;obtain ⟨k,vv,rfl,uf,hF,hF1,hS,b0,b2⟩:=hrel;by_cases ky:k<n
    ·have hh:=uf.ht _ td;have hle:n≤c:=hh.le;have y9:n≤1000000:=hh.few;have ig:c≠0:=qB;rcases hh.lies with h0|⟨h1,h2,h3,_⟩
     ·exact absurd h0 ig
     ·obtain rfl:a=some ⟨b,0,none⟩:=h1;have rq:b<wr.heap.size:=by have:b<B:=h3;have:=Aa _ _ uf.c0;simp at this;omega
      obtain ⟨⟨u0,hu0⟩,apr⟩:=hh.there (o:=k*8) (by show k*8<c*8;omega);obtain ⟨⟨u1,LX⟩,aps⟩:=hh.there (o:=k*8+1) (by show k*8+1<c*8;omega);obtain ⟨⟨u2,TE⟩,apt⟩:=hh.there (o:=k*8+2) (by show k*8+2<c*8;omega);obtain ⟨⟨u3,NX⟩,apu⟩:=hh.there (o:=k*8+3) (by show k*8+3<c*8;omega);obtain ⟨⟨u4,hu4⟩,apv⟩:=hh.there (o:=k*8+4) (by show k*8+4<c*8;omega);obtain ⟨⟨u5,hu5⟩,apw⟩:=hh.there (o:=k*8+5) (by show k*8+5<c*8;omega);obtain ⟨⟨u6,hu6⟩,apx⟩:=hh.there (o:=k*8+6) (by show k*8+6<c*8;omega);obtain ⟨⟨u7,hu7⟩,apy⟩:=hh.there (o:=k*8+7) (by show k*8+7<c*8;omega);have hbH:b≠H:=by have:b<B:=h3;omega
      simp only at hu0 apr LX aps TE apt NX apu hu4 apv hu5 apw hu6 apx hu7 apy;clear hh h3 h2;go_wp2_with fail;go_region_held3 (fun W=>Z W H 0 (.slice (E b) n c)∧Z W H 2 (M (m:Nat))) (exact qK) ((go_at_call 123;(with_reducible refine (Uf _ m xy).mono ?_);rintro e w5 ⟨rfl,dx⟩;have SP:=zP wr dx;have DD:=dx.size;have b0':Z w5 H 0 (.slice (E b) n c):=Bb dx qP;have b2':Z w5 H 2 (M (m:Nat)):=Bb dx qP;have v0:Z w5 b (k*8) u0:=Bb dx qP;have z0:Y w5 b (k*8):=(Ab dx qL).trans qP;have v1:Z w5 b (k*8+1) u1:=Bb dx qP;have z1:Y w5 b (k*8+1):=(Ab dx qL).trans qP;have v2:Z w5 b (k*8+2) u2:=Bb dx qP;have z2:Y w5 b (k*8+2):=(Ab dx qL).trans qP;have v3:Z w5 b (k*8+3) u3:=Bb dx qP;have z3:Y w5 b (k*8+3):=(Ab dx qL).trans qP;have v4:Z w5 b (k*8+4) u4:=Bb dx qP;have z4:Y w5 b (k*8+4):=(Ab dx qL).trans qP;have v5:Z w5 b (k*8+5) u5:=Bb dx qP;have z5:Y w5 b (k*8+5):=(Ab dx qL).trans qP;have v6:Z w5 b (k*8+6) u6:=Bb dx qP;have z6:Y w5 b (k*8+6):=(Ab dx qL).trans qP;have v7:Z w5 b (k*8+7) u7:=Bb dx qP;have z7:Y w5 b (k*8+7):=(Ab dx qL).trans qP));go_wp2_with fail;have j8:=YK.out ig;have hd:Below (Sv w5 b (k*8) m).heap.size (Sv w5 b (k*8) m) (Sv w5 b (k*8) m):=Ac _ _;have IU:Hid (∀p∈Rt.take i,Dr (Sv w5 b (k*8) m) 8 mkT p.1.b p.1.n p.1.m):=Ae fun p hp=>by
       refine Dr.keep (s:=8) (mk:=mkT) (((hF.out p hp).keep SP (by simp [mkT]) qB).congr ?_) hd (by simp [mkT]) qB;by_cases hp0:p.1.c=0
       ·have:=(uf.ht p (List.mem_of_mem_take hp)).le;exact .inl qB
       ·exact .inr (Qi _ _ _ _ _ (JN.out p hp hp0 ig))
      have af9:Hid (Dr (Sv w5 b (k*8) m) 8 mkT b (k+1) m):=Ae (Dr.keep (s:=8) (mk:=mkT) ((hF1.out.keep SP (by simp [mkT]) qB).nextT fun j hj=>by
       match j,hj with
       | 0,_=>exact ⟨_,v0⟩
       | 1,_=>exact ⟨_,v1⟩
       | 2,_=>exact ⟨_,v2⟩
       | 3,_=>exact ⟨_,v3⟩
       | 4,_=>exact ⟨_,v4⟩
       | 5,_=>exact ⟨_,v5⟩
       | 6,_=>exact ⟨_,v6⟩
       | 7,_=>exact ⟨_,v7⟩) hd (by simp [mkT]) qB)
      have agd:H≠b:=fun e=>hbH e.symm
      have WJ:Z (Sv w5 b (k*8) m) H 0 (.slice (E b) n c):=Bb hd ((Af (a:=⟨H,0,none⟩) (Qi w5 b (k*8) m H agd)).trans b0');have RP:Z (Sv w5 b (k*8) m) H 2 (M (m:Nat)):=Bb hd ((Af (a:=⟨H,2,none⟩) (Qi w5 b (k*8) m H agd)).trans b2');have RN:=Fc (kP (Fc hS SP) b (k*8) m j8) hd;have aga:=((uf.keep SP).putT (k*8) m (.inr j8)).keep hd;exact qDw
    ·obtain rfl:k=n:=qB;have IU:=Ae (show ∀p∈Rt.take (i+1),Dr wr 8 mkT p.1.b p.1.n p.1.m from fun p hp=>by
      rw [HNX.out] at hp;rcases List.mem_append.1 hp with hp|hp
      ·exact hF.out p hp
      ·simp only [Ao] at hp;subst hp;exact hF1.out)
     exact qDq
  ·obtain rfl:i=Rt.length:=qB;obtain ⟨ao,co,rfl⟩:=Il ah;have IU:=hF.out;rw [As (Ad _)] at IU;clear hF;have HF:=Ae IU;clear IU;go_wp2_with fail;exact bodyPost_end (v:=.tuple #[]) (by simp [results,results43,go_sem]) rfl ⟨rfl,uf,HF.out,hS⟩
def Db (mk:Nat→List Value) (m n:Nat):List Value:=(List.replicate n (mk m)).flatten
theorem Ny (mk:Nat→List Value) (m n s:Nat) (h:(mk m).length=s):(Db mk m n).length=n*s:=by
 unfold Db;simp [h]
theorem Kg (mk:Nat→List Value) (m n k:Nat):Db mk m (n+k)=Db mk m n++Db mk m k:=by
 unfold Db;rw [←List.replicate_append_replicate,List.flatten_append]
theorem Su (mk:Nat→List Value) (m s:Nat) (h:(mk m).length=s) (n k j:Nat) (hk:k<n) (hj:j<s):(Db mk m n)[k*s+j]? = (mk m)[j]?:=by
 induction n generalizing k with
 | zero=>omega
 | succ n ih =>
  have e:Db mk m (n+1)=mk m++Db mk m n:=by unfold Db;rw [List.replicate_succ,List.flatten_cons]
  rw [e]
  cases k with
  | zero=>rw [Nat.zero_mul,Nat.zero_add,Ay qB]
  | succ k =>
   rw [Az (by rw [h,Nat.succ_mul];omega),h,Nat.succ_mul,show k*s+s+j-s=k*s+j from qB];exact ih k qB
theorem O9 {n m:Nat} (hs:(mk m).length=s) (h:∀j,j<n*s→w.cell? ⟨g,j,none⟩=(Db mk m n)[j]?):Dr w s mk g n m:=fun k hk j hj=>by
 rw [h _ (by have:(k+1)*s≤n*s:=Nat.mul_le_mul_right _ hk;rw [Nat.succ_mul] at this;omega)];exact Su mk m s hs n k j hk hj
theorem Dr.cells {n m:Nat} (hs:(mk m).length=s) (h0:0<s) (h:Dr w s mk g n m):∀j u,(Db mk m n)[j]? = some u→Z w g (0+j) u:=fun j u hu=>by
 have hj:j<n*s:=by rw [←Ny mk m n s hs];exact (List.getElem?_eq_some_iff.1 hu).1
 have e:j=j/s*s+j%s:=by rw [Nat.mul_comm];exact (Nat.div_add_mod j s).symm
 have hk:j/s<n:=by rw [Nat.div_lt_iff_lt_mul h0];exact hj
 have hm:=Nat.mod_lt j h0;rw [Nat.zero_add,e,h _ hk _ hm,←Su mk m s hs n _ _ hk hm,←e];exact hu
theorem Dn.came {B:Nat} {h:Hl} (hh:Dn w e s B0 B h) (hs:(mk h.m).length=s) (h0:0<s) (hF:Dr w s mk h.b h.n h.m):Came w s h.a h.b 0 h.n h.c (Db mk h.m h.n):=by
 have hl:0<h.c→h.a=some ⟨h.b,0,none⟩∧∃cur,w.heap[h.b]? = some (.cells cur e (0,0)):=fun hc=>by
  rcases hh.lies with h1|⟨h1,_,_,cur,h4,_⟩
  ·omega
  ·exact ⟨h1,cur,h4⟩
 refine ⟨hh.le,fun hc=>(hl hc).1,fun hc=>?_,Ny _ _ _ _ hs,hF.cells hs h0,fun j hj=>?_⟩
 ·obtain ⟨_,cur,h4⟩:=hl hc;exact (Ar.1 h4).1
 ·have bj:h.n*s+j<h.c*s:=by
   have:=Nat.sub_mul h.c h.n s;have:=Nat.mul_le_mul_right s hh.le;omega
  obtain ⟨⟨v,hv⟩,hf⟩:=hh.there bj;rw [Nat.zero_add];exact ⟨by rw [hv];rfl,hf⟩
def F6 (w:World) (s:Nat) (mk:Nat→List Value) (H:Nat) (h:Hl) (v:Value):Prop :=
 Dr w s mk h.b h.n h.m∧∃g c,v=.slice (E g) (h.n+40) c∧h.n+40≤c∧Dr w s mk g (h.n+40) h.m∧((h.c≠0∧g=h.b)∨H≤g)∧g<w.heap.size
theorem F6.keepS {h:Hl} (hg:F6 w s mk H h v) (hb:Ec S w w') (h1:h.n=0∨(h.b<w.heap.size∧¬S h.b)) (h2:h.c≠0→¬S h.b) (h3:∀g,H≤g→g<w.heap.size→¬S g):F6 w' s mk H h v:=by
 obtain ⟨hF,g,c,hv,hc,BL,hor,bj⟩:=hg;refine ⟨hF.congr (h1.imp id fun h=>hb.block _ h.1 h.2),g,c,hv,hc,BL.congr (.inr (hb.block _ bj ?_)),hor,Nat.lt_of_lt_of_le bj hb.size⟩;rcases hor with ⟨h5,rfl⟩|h5
 ·exact h2 h5
 ·exact h3 g h5 bj
theorem Vw {size:Nat} {off:Nat} {m:Nat} (h:Upon W e size ao b off len cap olds w v m ks r) (hc:Came W size ao b off len cap olds) (hb:xp w w'):Upon W e size ao b off len cap olds w' v m ks r :=
 h.carry hc hb.os hb.output (fun i hi=>hb.block i (Nat.lt_of_lt_of_le hi h.kept.size)) (fun g _ hg=>hb.block g hg)
theorem N8 {h:Hl} (hs:(mk h.m).length=s) (h0:0<s) (hc:Came W s h.a h.b 0 h.n h.c (Db mk h.m h.n)) (hF:Dr W s mk h.b h.n h.m) (hU:Upon W e s h.a h.b 0 h.n h.c (Db mk h.m h.n) w v 40 (Db mk h.m 40) r) (hH:H≤W.heap.size) (hW:0<h.n→0<h.c) :
  F6 w s mk H h v:=by
 have hFb:Dr w s mk h.b h.n h.m:=fun k hk j hj=>by
  rw [hU.old (hc.lt (hW qB)) (fun j' _ ⟨_,e'⟩=>by
   have h1:(k+1)*s≤h.n*s:=Nat.mul_le_mul_right _ hk;rw [Nat.succ_mul] at h1
   omega)]
  exact hF k hk j hj
 refine ⟨hFb,?_⟩;rcases hU.val with ⟨hle,rfl,hr⟩|⟨_,g,c',rfl,ho⟩
 ·have SU:0<h.c:=qB;refine ⟨h.b,h.c,by rw [hc.addr SU],hle,?_,.inl ⟨qB,rfl⟩,?_⟩
  ·refine O9 hs fun j hj=>?_
   have:=hU.inArray hc SU hr j hj;rw [Nat.zero_add] at this;rw [this,Kg]
  ·exact Nat.lt_of_lt_of_le (hc.lt SU) hU.kept.size
 ·have BL:Dr w s mk g (h.n+40) h.m:=O9 hs fun j hj=>by rw [ho.holds j hj,Kg]
  refine ⟨g,c',rfl,ho.le,BL,.inr (Ah hH ho.new),?_⟩;have h1:0<c'*s:=Nat.mul_pos (by have:=ho.le;omega) h0;obtain ⟨u,hu⟩:=Option.isSome_iff_exists.1 (ho.there 0 h1).1;exact Aa _ _ hu
theorem Wu {off:Nat} {m:Nat} (h:Upon W e s ao b off len cap olds w v m ks r):Ec (fun g=>cap≠0∧g=b) W w :=
 ⟨h.kept.1,h.kept.2.1,h.kept.size,fun g hg hs=>h.kept.block hg fun p ⟨j,hj,e'⟩ he=>hs ⟨by have:=h.capPos hj;omega,by rw [←he,e'];rfl⟩⟩
theorem Md {off:Nat} {m:Nat} (h:Upon W e s ao b off len cap olds w v m ks r) {x o:Nat} {u:Value} (hx:Z W x o u) (di:cap≠0→x≠b):Z w x o u:=by
 rw [h.old (Aa _ _ hx) (fun j hj ⟨e1,_⟩=>di (by have:=h.capPos hj;omega) e1)];exact hx
theorem Ec.wide {T:Nat→Prop} (h:Ec S w w') (SG:∀g,S g→T g):Ec T w w':=⟨h.os,h.output,h.size,fun g hg hs=>h.block g hg fun e=>hs (SG g e)⟩
theorem V5 (R S:List (Hl×Value)) (q:Hl) (u v:Value):(Dm (R++(q,u)::S)).set (R.length*3+1) v=Dm (R++(q,v)::S):=by
 rw [Nj,Nj,List.set_append_right _ _ (by rw [Pt];omega),Pt]
 congr 1
 rw [show R.length*3+1-R.length*3=1 from qB];rfl
theorem Ni {α:Type} {R:List α} {q:α} (h:R[i]? = some q):R.drop i=q::R.drop (i+1):=by
 obtain ⟨bj,e⟩:=List.getElem?_eq_some_iff.1 h;rw [List.drop_eq_getElem_cons bj,e]
theorem Y8 {R R':List (Hl×Value)} {q:Hl×Value} (h:R'.map (·.1)=(R.take i).map (·.1)) (hq:R[i]? = some q) (v:Value):(R'++[(q.1,v)]).map (·.1)=(R.take (i+1)).map (·.1):=by
 rw [Im hq,List.map_append,List.map_append,h];rfl
theorem Ww {R R':List (Hl×Value)} (h:R'.map (·.1)=(R.take i).map (·.1)) {p:Hl×Value} (hp:p∈R'):∃q∈R.take i,q.1=p.1:=by
 have:p.1∈R'.map (·.1):=List.mem_map.2 ⟨p,hp,rfl⟩;rw [h,List.mem_map] at this;exact this
theorem Pb {R R':List (Hl×Value)} (h:R'.map (·.1)=(R.take i).map (·.1)) (hi:i≤R.length):R'.length=i:=by
 have:=congrArg List.length h;simp at this;omega
theorem Wk {B:Nat} {R R':List (Hl×Value)} (hR:∀p∈R,Dn w e s B0 B p.1) (h:R'.map (·.1)=(R.take i).map (·.1)) {p:Hl×Value} (hp:p∈R'):Dn w e s B0 B p.1:=by
 obtain ⟨q,hq,e1⟩:=Ww h hp;rw [←e1];exact hR q (List.mem_of_mem_take hq)
theorem Dn.nb {B:Nat} {h:Hl} (hh:Dn w e s B0 B h):h.n=0∨(h.c≠0∧h.b<B):=by
 have:=hh.le;by_cases h0:h.c=0
 ·exact .inl qB
 ·exact .inr ⟨h0,hh.lt h0⟩
theorem F6.stay {B:Nat} {h:Hl} {c:Nat} (hg:F6 w s mk H h v) (hb:Ec (fun x=>(c≠0∧x=b)∨x=g) w w') (hn:h.n=0∨(h.c≠0∧h.b<B)) (gw:h.c≠0→c≠0→h.b≠b) (BI:c≠0→b<B) (SV:B<g) (hgH:g<H) (hlB:h.c≠0→h.b<B) (pd:B<w.heap.size):F6 w' s mk H h v:=by
 refine hg.keepS hb (hn.imp id fun h1=>⟨by have:=h1.2;omega,fun e=>?_⟩) (fun h0 e=>?_) (fun x hx NO e=>?_)
 ·rcases e with ⟨e1,e2⟩|e
  ·exact gw h1.1 e1 e2
  ·have:=h1.2;omega
 ·have:=hlB h0;rcases e with ⟨e1,e2⟩|e
  ·exact gw h0 e1 e2
  ·omega
 ·rcases e with ⟨e1,e2⟩|e
  ·have:=BI e1;omega
  ·omega
theorem cS (w:World) (B0 B:Nat) (Rl:List (Hl×Value)) (hhl:∀p∈Rl,Dn w 129 1 B0 B p.1) (py:Rl.Pairwise Dq) (hF:∀p∈Rl,Dr w 1 mkL p.1.b p.1.n p.1.m) (hz:∀p∈Rl,p.2=.slice none 0 0) (hm:∀p∈Rl,p.1.m<1000000000) (hk:Rl.length<1000000000)
  (vl:Value) (FP:Z w B 2 vl) (ah:w.ownsRow (B+1) 128 3 vl Rl.length (Dm Rl)) :
  Θ 51 #[.pointer (E B)] w fun e w'=>e=.returned (.tuple #[])∧∃R':List (Hl×Value),R'.map (·.1)=Rl.map (·.1)∧w'.ownsRow (B+1) 128 3 vl Rl.length (Dm R')∧(∀p∈R',F6 w' 1 mkL w p.1 p.2)∧Ec (fun g=>inR Rl g∨vl.ownBlock=some g) w w':=by
 have HZ:=Ae hz;have HM:=Ae hm;have HFF:=Ae hF;have MU:=Ae hhl;have QT:=Ae py;have pd:B<w.heap.size:=Aa _ _ FP;have UO:=Mh ah;obtain ⟨ao,co,rfl⟩:=Il ah;obtain ⟨i0,DX,dw,ed,en⟩:=info_parts Dl;clear hz hm hF hhl py;go_enter func51,ntmps51;go_wp2_with fail;go_loopw [2] (fun v2 wr=>∃(i:Nat) (R':List (Hl×Value)),i≤Rl.length∧v2=M i∧Hid (R'.map (·.1)=(Rl.take i).map (·.1))∧wr.ownsRow (B+1) 128 3 (.slice ao Rl.length co) Rl.length (Dm (R'++Rl.drop i))∧Hid (∀p∈R',F6 wr 1 mkL w p.1 p.2)∧Ec (fun g=>inR (Rl.take i) g∨(Value.slice ao Rl.length co).ownBlock=some g) w wr) (fun v2 _=>Rl.length-(intOf v2).toNat)
 case atStart=>exact ⟨0,[],qB,rfl,Ae qH,by simpa using ah,Ae qH,Fp qD _⟩
 case round =>
  obtain ⟨i,R',hi,rfl,JZ,pz,OA,hS⟩:=hrel;have c2:Z wr B 2 (.slice ao Rl.length co):=(Af (a:=⟨B,2,none⟩) (hS.block B pd (fun e=>e.elim (fun⟨p,hp,hpc,he⟩=>by have:=(MU.out p (List.mem_of_mem_take hp)).lt hpc;omega) (fun e=>by have:=UO _ e;omega)))).trans FP;by_cases bj:i<Rl.length
  ·obtain ⟨⟨⟨a,b,n,c,m⟩,v⟩,hq⟩:∃q,Rl[i]? = some q:=⟨_,Ai bj⟩;have td:=A7 hq;obtain rfl:v=.slice none 0 0:=HZ.out _ td;have xy:m<1000000000:=HM.out _ td;have j4:=Pb JZ.out hi;have sg:(R'++Rl.drop i).length=Rl.length:=by rw [A8,List.length_drop];omega
   obtain ⟨g,cap,hv,hg,ij⟩:=Hf (R:=R'++Rl.drop i) (by rw [sg];exact pz) (by intro e;rw [e] at sg;simp at sg;omega);simp only [Value.slice.injEq] at hv;obtain ⟨rfl,-,rfl⟩:=hv;obtain ⟨e0,e1,e2⟩:=ij i (⟨a,b,n,c,m⟩,.slice none 0 0) (by rw [Az qB,j4,Nat.sub_self,Ni hq];rfl);have RQ:c≠0→¬(inR (Rl.take i) b∨(Value.slice (E g) Rl.length co).ownBlock=some b):=fun ig e=>qDc
   have EV:c≠0→b<w.heap.size:=fun ig=>by have:b<B:=(MU.out _ td).lt ig;omega
   have MV:=(MU.out _ td).kept fun ig=>hS.block b (EV ig) (RQ ig)
   have hle:n≤c:=MV.le;have y9:n≤1000000:=MV.few;have rb:Dr wr 1 mkL b n m:=(HFF.out _ td).congr (by
    by_cases ig:c=0
    ·exact .inl (show n=0 from qB)
    ·exact .inr (hS.block b (EV ig) (RQ ig)))
   have HH:=Ae MV;have HF0:=Ae rb;have HNS:=Ae RQ;have BI:c≠0→b<B:=fun ig=>MV.lt ig
   have MW:=Ae BI;have RB:=hS.size;have HRl:=Ae j4;clear ij MV rb RQ EV BI sg j4;simp only at e0 e1 e2;go_wp2_with fail;refine Bx ?_;intro w2 df;have bp:Below wr wr w2:=by rw [df];go_grown
   have b0:Z w2 wr 0 (.slice a n c):=by rw [df];simp [*,go_sem]
   have b2:Z w2 wr 2 (M (m:Nat)):=by rw [df];simp [*,go_sem]
   clear df;have TY:=Fc hS bp;have cv:=Bf pz bp;have BL:Dr w2 1 mkL b n m:=HF0.out.keep bp (by simp [mkL]) qB;have hh2:=HH.out.keep bp;have qt:=hh2.came (mk:=mkL) rfl qB BL;have c22:=Bb bp c2;have fz2:=cv.frozenAt (i*3+1);have SK:=Bb bp e1;have YL:Hid (∀p∈R',F6 w2 1 mkL w p.1 p.2):=Ae fun p hp=>qDi
   have AD:g<w.heap.size:=qCt;have ap3:wr.heap.size<w2:=Aa _ _ b0;have hW2:=bp.size;have HHb:=Ae (show c≠0→wr.heap.size≠b from fun ig=>by have:=MW.out ig;omega);clear OA pz hS c2 e0 e1 e2 bp hh2;generalize wr.heap.size=H at *;go_loopw [4,5] (fun v4 v5 wi=>∃(k r:Nat),k≤40∧v5=M k∧(∃a' c',v4=.slice a' (n+k) c')∧Upon w2 129 1 a b 0 n c (Db mkL m n) wi v4 k (Db mkL m k) r∧Z wi H 2 (M (m:Nat))) (fun _ v5 _=>40-(intOf v5).toNat)
   case atStart=>exact ⟨0,0,qB,rfl,⟨_,_,rfl⟩,by simpa [Db] using Upon.start qt,b2⟩
   case round =>
    obtain ⟨k,r,KO,rfl,⟨a',c',rfl⟩,hU,d2⟩:=hrel;by_cases ky:k<40
    ·go_wp2_with (first|(go_at_call 119;refine (Tg _ m xy).mono ?_;rintro e w5 ⟨rfl,rfl⟩)|(at_builtin;refine wpList_append_upon _ rfl _ _ 49 49 rfl qt i0 (.int .u32 0) 4 underlying49 DX dw ed en rfl rfl (Vw hU qt qD) (.slice (E w5) 1 1) 1 [.int .u32 (1000+(m:Int))] rfl (Src.ofSlice _ underlying49 (J w5 0) 1 1 [.int .u32 (1000+(m:Int))] rfl (Dp w5 [.int .u32 (1000+(m:Int))] 129) (by simp [Value.oneCell'])) qN qB ?_;intro v6 w6 hU6));have hU7:Upon w2 129 1 a b 0 n c (Db mkL m n) w6 v6 (k+1) (Db mkL m (k+1)) (Upon.next n c 1 k r 1):=by rw [Kg,show Db mkL m 1=[.int .u32 (1000+(m:Int))] by simp [Db,mkL]];exact hU6
     exact qCu
    ·obtain rfl:k=40:=qB;have c23:=Md hU c22 (fun ig=>by have:=MW.out ig;omega);have e13:=Md hU SK (fun ig=>by have:=MW.out ig;omega);have fz3:Y wr g (i*3+1):=(hU.frozen (J g (i*3+1)) (by show g<_;omega)).trans fz2;have YM:=Wu hU;have dh:wr.ownsRow (B+1) 128 3 (.slice (E g) Rl.length co) Rl.length (Dm (R'++Rl.drop i)):=M6 cv YM (fun x hx e=>by have:=MW.out e.1;have:=e.2;omega);have hGn:=Ae (N8 (W:=w2) (s:=1) (h:=⟨a,b,n,c,m⟩) (H:=w.heap.size) rfl qB qt BL hU qB (fun h0=>by show 0<c;have:0<n:=h0;omega));have iv:=Ae (dh.stored (i*3+1) (.slice a' (n+40) c'));clear hU d2 dh;go_wp2_with fail;have hS4:Ec (fun x=>(c≠0∧x=b)∨x=g) w2 (wr.setCell (J g (i*3+1)) (.slice a' (n+40) c')):=Ed (YM.wide fun x hx=>.inl hx) g _ _ (.inr rfl);have hS5:Ec (fun x=>(c≠0∧x=b)∨x=g) wr (wr.setCell (J g (i*3+1)) (.slice a' (n+40) c')):=Ed (Hm _ _) g _ _ (.inr rfl);have agi:=Ae (Y8 JZ.out hq (.slice a' (n+40) c'));have agj:Hid (∀p∈R'++[((⟨a,b,n,c,m⟩:Hl),Value.slice a' (n+40) c')],F6 (wr.setCell (J g (i*3+1)) (.slice a' (n+40) c')) 1 mkL w p.1 p.2):=Ae fun p hp=>qBf
     have jk:(wr.setCell (J g (i*3+1)) (.slice a' (n+40) c')).ownsRow (B+1) 128 3 (.slice (E g) Rl.length co) Rl.length (Dm ((R'++[((⟨a,b,n,c,m⟩:Hl),Value.slice a' (n+40) c')])++Rl.drop (i+1))):=by
      have h1:=iv.out.1;have h2:=V5 R' (Rl.drop (i+1)) ⟨a,b,n,c,m⟩ (.slice none 0 0) (.slice a' (n+40) c');rw [HRl.out] at h2;rw [Ni hq,h2] at h1;rw [List.append_assoc];exact h1
     have hS6:Ec (fun x=>inR (Rl.take (i+1)) x∨(Value.slice (E g) Rl.length co).ownBlock=some x) w (wr.setCell (J g (i*3+1)) (.slice a' (n+40) c')):=qCe;exact qDg
  ·obtain rfl:i=Rl.length:=qB;have EW:=JZ.out;rw [As (Ad _)] at EW hS;rw [List.drop_of_length_le (Ad _),List.append_nil] at pz;have HM2:=Ae EW;clear EW JZ;go_wp2_with fail;exact bodyPost_end (v:=.tuple #[]) (by simp [results,results51,go_sem]) rfl ⟨rfl,R',HM2.out,pz,(fun a b h=>OA.out (a,b) h),hS⟩
theorem dQ (w:World) (B0 B:Nat) (Rt:List (Hl×Value)) (hhl:∀p∈Rt,Dn w 58 8 B0 B p.1) (py:Rt.Pairwise Dq) (hF:∀p∈Rt,Dr w 8 mkT p.1.b p.1.n p.1.m) (hz:∀p∈Rt,p.2=.slice none 0 0) (hm:∀p∈Rt,p.1.m<1000000000) (hk:Rt.length<1000000000)
  (vl:Value) (FP:Z w B 6 vl) (ah:w.ownsRow (B+1) 122 3 vl Rt.length (Dm Rt)) :
  Θ 55 #[.pointer (E B)] w fun e w'=>e=.returned (.tuple #[])∧∃R':List (Hl×Value),R'.map (·.1)=Rt.map (·.1)∧w'.ownsRow (B+1) 122 3 vl Rt.length (Dm R')∧(∀p∈R',F6 w' 8 mkT w p.1 p.2)∧Ec (fun g=>inR Rt g∨vl.ownBlock=some g) w w':=by
 have HZ:=Ae hz;have HM:=Ae hm;have HFF:=Ae hF;have MU:=Ae hhl;have QT:=Ae py;have pd:B<w.heap.size:=Aa _ _ FP;have UO:=Mh ah;obtain ⟨ao,co,rfl⟩:=Il ah;obtain ⟨i0,DX,dw,ed,en⟩:=info_parts Ls;clear hz hm hF hhl py;go_enter func55,ntmps55;go_wp2_with fail;go_loopw [2] (fun v2 wr=>∃(i:Nat) (R':List (Hl×Value)),i≤Rt.length∧v2=M i∧Hid (R'.map (·.1)=(Rt.take i).map (·.1))∧wr.ownsRow (B+1) 122 3 (.slice ao Rt.length co) Rt.length (Dm (R'++Rt.drop i))∧Hid (∀p∈R',F6 wr 8 mkT w p.1 p.2)∧Ec (fun g=>inR (Rt.take i) g∨(Value.slice ao Rt.length co).ownBlock=some g) w wr) (fun v2 _=>Rt.length-(intOf v2).toNat)
 case atStart=>exact ⟨0,[],qB,rfl,Ae qH,by simpa using ah,Ae qH,Fp qD _⟩
 case round =>
  obtain ⟨i,R',hi,rfl,JZ,pz,OA,hS⟩:=hrel;have c2:Z wr B 6 (.slice ao Rt.length co):=(Af (a:=⟨B,6,none⟩) (hS.block B pd (fun e=>e.elim (fun⟨p,hp,hpc,he⟩=>by have:=(MU.out p (List.mem_of_mem_take hp)).lt hpc;omega) (fun e=>by have:=UO _ e;omega)))).trans FP;by_cases bj:i<Rt.length
  ·obtain ⟨⟨⟨a,b,n,c,m⟩,v⟩,hq⟩:∃q,Rt[i]? = some q:=⟨_,Ai bj⟩;have td:=A7 hq;obtain rfl:v=.slice none 0 0:=HZ.out _ td;have xy:m<1000000000:=HM.out _ td;have j4:=Pb JZ.out hi;have sg:(R'++Rt.drop i).length=Rt.length:=by rw [A8,List.length_drop];omega
   obtain ⟨g,cap,hv,hg,ij⟩:=Hf (R:=R'++Rt.drop i) (by rw [sg];exact pz) (by intro e;rw [e] at sg;simp at sg;omega);simp only [Value.slice.injEq] at hv;obtain ⟨rfl,-,rfl⟩:=hv;obtain ⟨e0,e1,e2⟩:=ij i (⟨a,b,n,c,m⟩,.slice none 0 0) (by rw [Az qB,j4,Nat.sub_self,Ni hq];rfl);have RQ:c≠0→¬(inR (Rt.take i) b∨(Value.slice (E g) Rt.length co).ownBlock=some b):=fun ig e=>qDc
   have EV:c≠0→b<w.heap.size:=fun ig=>by have:b<B:=(MU.out _ td).lt ig;omega
   have MV:=(MU.out _ td).kept fun ig=>hS.block b (EV ig) (RQ ig)
   have hle:n≤c:=MV.le;have y9:n≤1000000:=MV.few;have rb:Dr wr 8 mkT b n m:=(HFF.out _ td).congr (by
    by_cases ig:c=0
    ·exact .inl (show n=0 from qB)
    ·exact .inr (hS.block b (EV ig) (RQ ig)))
   have HH:=Ae MV;have HF0:=Ae rb;have HNS:=Ae RQ;have BI:c≠0→b<B:=fun ig=>MV.lt ig
   have MW:=Ae BI;have RB:=hS.size;have HRl:=Ae j4;clear ij MV rb RQ EV BI sg j4;simp only at e0 e1 e2;go_wp2_with fail;refine Bx ?_;intro w2 df;have bp:Below wr wr w2:=by rw [df];go_grown
   have b0:Z w2 wr 0 (.slice a n c):=by rw [df];simp [*,go_sem]
   have b2:Z w2 wr 2 (M (m:Nat)):=by rw [df];simp [*,go_sem]
   clear df;have TY:=Fc hS bp;have cv:=Bf pz bp;have BL:Dr w2 8 mkT b n m:=HF0.out.keep bp (by simp [mkT]) qB;have hh2:=HH.out.keep bp;have qt:=hh2.came (mk:=mkT) rfl qB BL;have c22:=Bb bp c2;have fz2:=cv.frozenAt (i*3+1);have SK:=Bb bp e1;have YL:Hid (∀p∈R',F6 w2 8 mkT w p.1 p.2):=Ae fun p hp=>qDi
   have AD:g<w.heap.size:=qCt;have ap3:wr.heap.size<w2:=Aa _ _ b0;have hW2:=bp.size;have HHb:=Ae (show c≠0→wr.heap.size≠b from fun ig=>by have:=MW.out ig;omega);clear OA pz hS c2 e0 e1 e2 bp hh2;generalize wr.heap.size=H at *;go_loopw [4,5] (fun v4 v5 wi=>∃(k r:Nat),k≤40∧v5=M k∧(∃a' c',v4=.slice a' (n+k) c')∧Upon w2 58 8 a b 0 n c (Db mkT m n) wi v4 k (Db mkT m k) r∧Z wi H 2 (M (m:Nat))) (fun _ v5 _=>40-(intOf v5).toNat)
   case atStart=>exact ⟨0,0,qB,rfl,⟨_,_,rfl⟩,by simpa [Db] using Upon.start qt,b2⟩
   case round =>
    obtain ⟨k,r,KO,rfl,⟨a',c',rfl⟩,hU,d2⟩:=hrel;by_cases ky:k<40
    ·go_wp2_with (first|(go_at_call 123;refine (Uf _ m xy).mono ?_;rintro e w5 ⟨rfl,dx⟩;have oq:=zP wr dx)|(at_builtin;refine wpList_append_upon _ rfl _ _ 23 23 rfl qt i0 (.agg #[.bool false,.slice none 0 0,.bool false,.slice none 0 0,U 0,U 0,U 0,U 0]) 72 underlying23 DX dw ed en rfl rfl (Vw hU qt (oq.alloc oq.size _)) (.slice (E w5) 1 1) 1 [.bool false,.slice none 0 0,.bool false,.slice none 0 0,U (1+(m:Int)%60000),U ((m:Int)/60000),U 0,U 0] rfl (Src.ofSlice _ underlying23 (J w5 0) 1 1 [.bool false,.slice none 0 0,.bool false,.slice none 0 0,U (1+(m:Int)%60000),U ((m:Int)/60000),U 0,U 0] rfl (Dp w5 [.bool false,.slice none 0 0,.bool false,.slice none 0 0,U (1+(m:Int)%60000),U ((m:Int)/60000),U 0,U 0] 58) (by simp [Value.oneCell'])) qN qB ?_;intro v6 w6 hU6));have hU7:Upon w2 58 8 a b 0 n c (Db mkT m n) w6 v6 (k+1) (Db mkT m (k+1)) (Upon.next n c 8 k r 1):=by rw [Kg,show Db mkT m 1=[.bool false,.slice none 0 0,.bool false,.slice none 0 0,U (1+(m:Int)%60000),U ((m:Int)/60000),U 0,U 0] by simp [Db,mkT]];exact hU6
     exact qCu
    ·obtain rfl:k=40:=qB;have c23:=Md hU c22 (fun ig=>by have:=MW.out ig;omega);have e13:=Md hU SK (fun ig=>by have:=MW.out ig;omega);have fz3:Y wr g (i*3+1):=(hU.frozen (J g (i*3+1)) (by show g<_;omega)).trans fz2;have YM:=Wu hU;have dh:wr.ownsRow (B+1) 122 3 (.slice (E g) Rt.length co) Rt.length (Dm (R'++Rt.drop i)):=M6 cv YM (fun x hx e=>by have:=MW.out e.1;have:=e.2;omega);have hGn:=Ae (N8 (W:=w2) (s:=8) (h:=⟨a,b,n,c,m⟩) (H:=w.heap.size) rfl qB qt BL hU qB (fun h0=>by show 0<c;have:0<n:=h0;omega));have iv:=Ae (dh.stored (i*3+1) (.slice a' (n+40) c'));clear hU d2 dh;go_wp2_with fail;have hS4:Ec (fun x=>(c≠0∧x=b)∨x=g) w2 (wr.setCell (J g (i*3+1)) (.slice a' (n+40) c')):=Ed (YM.wide fun x hx=>.inl hx) g _ _ (.inr rfl);have hS5:Ec (fun x=>(c≠0∧x=b)∨x=g) wr (wr.setCell (J g (i*3+1)) (.slice a' (n+40) c')):=Ed (Hm _ _) g _ _ (.inr rfl);have agi:=Ae (Y8 JZ.out hq (.slice a' (n+40) c'));have agj:Hid (∀p∈R'++[((⟨a,b,n,c,m⟩:Hl),Value.slice a' (n+40) c')],F6 (wr.setCell (J g (i*3+1)) (.slice a' (n+40) c')) 8 mkT w p.1 p.2):=Ae fun p hp=>qBf
     have jk:(wr.setCell (J g (i*3+1)) (.slice a' (n+40) c')).ownsRow (B+1) 122 3 (.slice (E g) Rt.length co) Rt.length (Dm ((R'++[((⟨a,b,n,c,m⟩:Hl),Value.slice a' (n+40) c')])++Rt.drop (i+1))):=by
      have h1:=iv.out.1;have h2:=V5 R' (Rt.drop (i+1)) ⟨a,b,n,c,m⟩ (.slice none 0 0) (.slice a' (n+40) c');rw [HRl.out] at h2;rw [Ni hq,h2] at h1;rw [List.append_assoc];exact h1
     have hS6:Ec (fun x=>inR (Rt.take (i+1)) x∨(Value.slice (E g) Rt.length co).ownBlock=some x) w (wr.setCell (J g (i*3+1)) (.slice a' (n+40) c')):=qCe;exact qDg
  ·obtain rfl:i=Rt.length:=qB;have EW:=JZ.out;rw [As (Ad _)] at EW hS;rw [List.drop_of_length_le (Ad _),List.append_nil] at pz;have HM2:=Ae EW;clear EW JZ;go_wp2_with fail;exact bodyPost_end (v:=.tuple #[]) (by simp [results,results55,go_sem]) rfl ⟨rfl,R',HM2.out,pz,(fun a b h=>OA.out (a,b) h),hS⟩
theorem nX (w:World) (m:Nat) (hm:m<1000000000):Θ 131 #[.int .u32 (1000+(m:Int)),M (m:Nat)] w fun e w'=>e=.returned (.bool true)∧xp w w':=by
 go_enter func131,ntmps131;go_wp2_with fail;go_ret;exact ⟨qH,Ac _ _⟩
structure bY (w:World) (s:Nat) (mk:Nat→List Value) (h:Hl) (g c:Nat):Prop where
 few:h.n≤1000000
 a:h.n=0∨h.a=some ⟨h.b,0,none⟩
 m:h.m<1000000000
 short:Dr w s mk h.b h.n h.m
 long:Dr w s mk g (h.n+40) h.m
theorem cZ (w:World) (B k:Nat) (vl:Value) (R:List (Hl×Value)) (FP:Z w B 2 vl) (ah:w.ownsRow (B+1) 128 3 vl R.length (Dm R)) (hk:R.length<1000000000)
  (hR:∀p∈R,∃g c,p.2=.slice (E g) (p.1.n+40) c∧bY w 1 mkL p.1 g c) :
  Θ 63 #[.pointer (E B)] w fun e w'=>e=.returned (.bool true)∧Below w w w':=by
 have HR:=Ae hR;obtain ⟨ao,co,rfl⟩:=Il ah;clear hR;go_enter func63,ntmps63;go_wp2_with fail;go_loopw [3] (fun v3 wr=>∃i:Nat,i≤R.length∧v3=M i∧Below w w wr) (fun v3 _=>R.length-(intOf v3).toNat)
 case atStart=>exact ⟨0,qB,rfl,qD⟩
 case round =>
  obtain ⟨i,hi,rfl,HB⟩:=hrel;have c2:=Bb HB FP;by_cases bj:i<R.length
  ·obtain ⟨⟨⟨a,b,n,c,m⟩,v⟩,hq⟩:∃q,R[i]? = some q:=⟨_,Ai bj⟩;obtain ⟨gl,cl,hv,hL⟩:=HR.out _ (A7 hq);obtain rfl:v=.slice (E gl) (n+40) cl:=hv;obtain ⟨g,cap,hv,hg,ij⟩:=Hf ah (by intro e;rw [e] at bj;simp at bj);simp only [Value.slice.injEq,true_and] at hv;obtain ⟨rfl,rfl⟩:=hv;obtain ⟨e0,e1,e2⟩:=ij i _ hq;replace ⟨e0,e1,e2⟩:=xn HB e0 e1 e2;have JG:n≤1000000:=hL.few;have xy:m<1000000000:=hL.m;have HL:=Ae hL;have HZ:=HB.size;clear ij hL;simp only at e0 e1 e2;go_wp2_with fail;refine Bx ?_;intro w2 df;have bp:Below w w w2:=by rw [df];go_grown
   have b0:Z w2 wr 0 (.slice a n c):=by rw [df];simp [*,go_sem]
   have b1:Z w2 wr 1 (.slice (E gl) (n+40) cl):=by rw [df];simp [*,go_sem]
   have b2:Z w2 wr 2 (M (m:Nat)):=by rw [df];simp [*,go_sem]
   clear df HB c2 e0 e1 e2;generalize wr.heap.size=H at *;go_loopw [5] (fun v5 wi=>∃k:Nat,k≤n+40∧v5=M k∧Below w w wi∧Z wi H 0 (.slice a n c)∧Z wi H 1 (.slice (E gl) (n+40) cl)∧Z wi H 2 (M (m:Nat))) (fun v5 _=>n+40-(intOf v5).toNat)
   case atStart=>exact ⟨0,qB,rfl,bp,b0,b1,b2⟩
   case round =>
    clear bp b0 b1 b2;obtain ⟨k,KO,rfl,HB,b0,b1,b2⟩:=hrel;by_cases ky:k<n+40
    ·have x1:Z wr gl k (.int .u32 (1000+(m:Int))):=by
      have:=HL.out.long k ky 0 qB;rw [Nat.mul_one,Nat.add_zero] at this;refine Bb HB (this.trans ?_);simp [mkL]
     have k0:=Bk b0;have k1:=Bk b1;have k2:=Bk b2;have k3:=Bk x1;have hI:=fun W=>nX W m xy
     by_cases vv:k<n
     ·obtain rfl:a=some ⟨b,0,none⟩:=HL.out.a.resolve_left (by show ¬n=0;omega);have x2:Z wr b k (.int .u32 (1000+(m:Int))):=by
       have:=HL.out.short k vv 0 qB;rw [Nat.mul_one,Nat.add_zero] at this;refine Bb HB (this.trans ?_);simp [mkL]
      have k4:=Bk x2;have KW:(k:Int)<(n:Int):=qB;go_wp2_with fail;(refine Bi qE qE ?_;(repeat (go_big_quiet_step (first|(go_at_call 131;exact Cr (hI _)))));refine wpQuiet_nil ?_;intro _ cw;obtain ⟨nq,cw⟩:=cw;subst cw);clear k4 x2;exact qFw
     ·have KW:¬(k:Int)<(n:Int):=qB;go_wp2_with fail;(refine Bi qE qE ?_;(repeat (go_big_quiet_step (first|(go_at_call 131;exact Cr (hI _)))));refine wpQuiet_nil ?_;intro _ cw;obtain ⟨nq,cw⟩:=cw;subst cw);exact qFw
    ·exact qDl
  ·obtain rfl:i=R.length:=qB;clear bj;go_wp2_with fail;go_ret;exact ⟨rfl,HB⟩
theorem nJ (w:World) (m:Nat) (hm:m<1000000000):Θ 135 #[.agg #[.bool false,.slice none 0 0,.bool false,.slice none 0 0,U (1+(m:Int)%60000),U ((m:Int)/60000),U 0,U 0],M (m:Nat)] w fun e w'=>e=.returned (.bool true)∧xp w w':=by
 go_enter func135,ntmps135;go_wp2_with fail;go_ret;exact ⟨qH,qD⟩
theorem fW (w:World) (B k:Nat) (vl:Value) (R:List (Hl×Value)) (FP:Z w B 6 vl) (ah:w.ownsRow (B+1) 122 3 vl R.length (Dm R)) (hk:R.length<1000000000)
  (hR:∀p∈R,∃g c,p.2=.slice (E g) (p.1.n+40) c∧bY w 8 mkT p.1 g c) :
  Θ 67 #[.pointer (E B)] w fun e w'=>e=.returned (.bool true)∧Below w w w':=by
 have HR:=Ae hR;obtain ⟨ao,co,rfl⟩:=Il ah;clear hR;go_enter func67,ntmps67;go_wp2_with fail;go_loopw [3] (fun v3 wr=>∃i:Nat,i≤R.length∧v3=M i∧Below w w wr) (fun v3 _=>R.length-(intOf v3).toNat)
 case atStart=>exact ⟨0,qB,rfl,qD⟩
 case round =>
  obtain ⟨i,hi,rfl,HB⟩:=hrel;have c2:=Bb HB FP;by_cases bj:i<R.length
  ·obtain ⟨⟨⟨a,b,n,c,m⟩,v⟩,hq⟩:∃q,R[i]? = some q:=⟨_,Ai bj⟩;obtain ⟨gl,cl,hv,hL⟩:=HR.out _ (A7 hq);obtain rfl:v=.slice (E gl) (n+40) cl:=hv;obtain ⟨g,cap,hv,hg,ij⟩:=Hf ah (by intro e;rw [e] at bj;simp at bj);simp only [Value.slice.injEq,true_and] at hv;obtain ⟨rfl,rfl⟩:=hv;obtain ⟨e0,e1,e2⟩:=ij i _ hq;replace ⟨e0,e1,e2⟩:=xn HB e0 e1 e2;have JG:n≤1000000:=hL.few;have xy:m<1000000000:=hL.m;have HL:=Ae hL;have HZ:=HB.size;clear ij hL;simp only at e0 e1 e2;go_wp2_with fail;refine Bx ?_;intro w2 df;have bp:Below w w w2:=by rw [df];go_grown
   have b0:Z w2 wr 0 (.slice a n c):=by rw [df];simp [*,go_sem]
   have b1:Z w2 wr 1 (.slice (E gl) (n+40) cl):=by rw [df];simp [*,go_sem]
   have b2:Z w2 wr 2 (M (m:Nat)):=by rw [df];simp [*,go_sem]
   clear df HB c2 e0 e1 e2;generalize wr.heap.size=H at *;go_loopw [5] (fun v5 wi=>∃k:Nat,k≤n+40∧v5=M k∧Below w w wi∧Z wi H 0 (.slice a n c)∧Z wi H 1 (.slice (E gl) (n+40) cl)∧Z wi H 2 (M (m:Nat))) (fun v5 _=>n+40-(intOf v5).toNat)
   case atStart=>exact ⟨0,qB,rfl,bp,b0,b1,b2⟩
   case round =>
    clear bp b0 b1 b2;obtain ⟨k,KO,rfl,HB,b0,b1,b2⟩:=hrel;by_cases ky:k<n+40
    ·have x0:Z wr gl (k*8) (.bool false):=Bb HB ((HL.out.long k ky 0 qB).trans (by simp [mkT]));have x1:Z wr gl (k*8+1) (.slice none 0 0):=Bb HB ((HL.out.long k ky 1 qB).trans (by simp [mkT]));have x2:Z wr gl (k*8+2) (.bool false):=Bb HB ((HL.out.long k ky 2 qB).trans (by simp [mkT]));have x3:Z wr gl (k*8+3) (.slice none 0 0):=Bb HB ((HL.out.long k ky 3 qB).trans (by simp [mkT]));have x4:Z wr gl (k*8+4) (U (1+(m:Int)%60000)):=Bb HB ((HL.out.long k ky 4 qB).trans (by simp [mkT]));have x5:Z wr gl (k*8+5) (U ((m:Int)/60000)):=Bb HB ((HL.out.long k ky 5 qB).trans (by simp [mkT]));have x6:Z wr gl (k*8+6) (U 0):=Bb HB ((HL.out.long k ky 6 qB).trans (by simp [mkT]));have x7:Z wr gl (k*8+7) (U 0):=Bb HB ((HL.out.long k ky 7 qB).trans (by simp [mkT]));have k0:=Bk b0;have k1:=Bk b1;have k2:=Bk b2;have kx0:=Bk x0;have kx1:=Bk x1;have kx2:=Bk x2;have kx3:=Bk x3;have kx4:=Bk x4;have kx5:=Bk x5;have kx6:=Bk x6;have kx7:=Bk x7;have hI:=fun W=>nJ W m xy
     by_cases vv:k<n
     ·obtain rfl:a=some ⟨b,0,none⟩:=HL.out.a.resolve_left (by show ¬n=0;omega);have y0:Z wr b (k*8) (.bool false):=Bb HB ((HL.out.short k vv 0 qB).trans (by simp [mkT]));have y1:Z wr b (k*8+1) (.slice none 0 0):=Bb HB ((HL.out.short k vv 1 qB).trans (by simp [mkT]));have y2:Z wr b (k*8+2) (.bool false):=Bb HB ((HL.out.short k vv 2 qB).trans (by simp [mkT]));have y3:Z wr b (k*8+3) (.slice none 0 0):=Bb HB ((HL.out.short k vv 3 qB).trans (by simp [mkT]));have y4:Z wr b (k*8+4) (U (1+(m:Int)%60000)):=Bb HB ((HL.out.short k vv 4 qB).trans (by simp [mkT]));have y5:Z wr b (k*8+5) (U ((m:Int)/60000)):=Bb HB ((HL.out.short k vv 5 qB).trans (by simp [mkT]));have y6:Z wr b (k*8+6) (U 0):=Bb HB ((HL.out.short k vv 6 qB).trans (by simp [mkT]));have y7:Z wr b (k*8+7) (U 0):=Bb HB ((HL.out.short k vv 7 qB).trans (by simp [mkT]));have ky0:=Bk y0;have ky1:=Bk y1;have ky2:=Bk y2;have ky3:=Bk y3;have ky4:=Bk y4;have ky5:=Bk y5;have ky6:=Bk y6;have ky7:=Bk y7;have KW:(k:Int)<(n:Int):=qB;go_wp2_with fail;(refine Bi qE qE ?_;(repeat (go_big_quiet_step (first|(go_at_call 135;exact Cr (hI _)))));refine wpQuiet_nil ?_;intro _ cw;obtain ⟨nq,cw⟩:=cw;subst cw);clear ky0 y0 ky1 y1 ky2 y2 ky3 y3 ky4 y4 ky5 y5 ky6 y6 ky7 y7;exact qFt
     ·have KW:¬(k:Int)<(n:Int):=qB;go_wp2_with fail;(refine Bi qE qE ?_;(repeat (go_big_quiet_step (first|(go_at_call 135;exact Cr (hI _)))));refine wpQuiet_nil ?_;intro _ cw;obtain ⟨nq,cw⟩:=cw;subst cw);exact qFt
    ·exact qDl
  ·obtain rfl:i=R.length:=qB;clear bj;go_wp2_with fail;go_ret;exact ⟨rfl,HB⟩
end Go.Proofs.YtfijkfdfbnfmmaaGreatDoor
end
