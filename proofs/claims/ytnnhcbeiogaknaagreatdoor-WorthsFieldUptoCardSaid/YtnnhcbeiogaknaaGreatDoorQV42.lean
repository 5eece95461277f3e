/- Package worths: Bin with the signs + - * /, of two sums. -/
import Derived.Test.YtnnhcbeiogaknaaGreatDoorQV41
set_option linter.unusedSimpArgs false
set_option linter.unusedVariables false
set_option maxRecDepth 100000
set_option maxHeartbeats 4000000
section
namespace Go.Proofs.YtnnhcbeiogaknaaGreatDoor
open Go.RowKit
def Hh (w:World) (l:Δ) (e:Ending) (w':World):Prop:=∃a n c,e=.returned (.tuple #[.agg #[.bool false,.slice a n c,.slice none 0 0],.int .i64 0])∧Bd w' w.heap.size a n c l∧Below w.heap.size w w'
theorem Gs {w:World} {B R n c:Nat} {a:Γ} {l:Δ} (h:Bd w B a n c l) (hR:R<B) (u0 u1 u2:Value):Bd (((w.setCell ⟨R,0,none⟩ u0).setCell ⟨R,1,none⟩ u1).setCell ⟨R,2,none⟩ u2) B a n c l :=
 h.butR (Bf _ (Bf _ (Bf _ (Cp _ _)))) (fun k e=>by cases e;exact hR)
theorem sL (w:World) (a:Γ) (n c:Nat) (hn:n≤2000) :
  Θ 140 #[.slice a n c,.int .i64 0] w (fun e w'=>e=.returned (.tuple #[.agg #[.bool false,.slice a n c,.slice none 0 0],.int .i64 0])∧Below w.heap.size w w'):=by
 have HB:=Ac w.heap.size w;go_enter Tryz.func140,Tryz.ntmps140;go_wp2_with fail;have b1:Below w.heap.size w (w.alloc (.cells #[.bool false,.slice a n c,.slice none 0 0] 60)):=by go_grown
 refine bodyPost_ret (v:=.tuple #[.agg #[.bool false,.slice a n c,.slice none 0 0],.int .i64 0]) (by simp [results,Tryz.results140,go_sem]) rfl ?_;exact ⟨rfl,b1⟩
section
variable {w:World} {n c n' c':Nat} {a a':Γ} {l l':Δ}
theorem jH (h:Bd w 0 a n c l) (hl:Sm l) (h':Bd w 0 a' n' c' l') (hl':Sm l') :
  Θ 82 #[.int .u8 43,.slice a n c,.slice a' n' c'] w (Hh w (Hx l l')):=by
 have HB:=Ac w.heap.size w;have HH:=Ae (Ay h h');clear h h';go_enter Tryz.func82,Tryz.ntmps82;go_wp2_with fail;refine Be ?_;intro w1 hw1;have b1:Below w.heap.size w w1:=by rw [hw1];go_grown
 have R1:Blk w1 w.heap.size #[.bool false,.slice none 0 0,.slice none 0 0] 60:=by rw [hw1];exact Bi rfl _ _
 clear hw1;refine (Tr (HH.out.1.keep b1) hl (HH.out.2.keep b1) hl').mono ?_;rintro e w2 ⟨a3,n3,c3,rfl,hP,_,hb2⟩;have hlen:(Hx l l').length≤2000:=Ah (Ha _) (by have:=hl.len;have:=hl'.len;simp;omega);exact qAl
theorem lF (h:Bd w 0 a n c l) (hl:Sm l) (h':Bd w 0 a' n' c' l') (hl':Sm l') :
  Θ 82 #[.int .u8 45,.slice a n c,.slice a' n' c'] w (Hh w (Lj l l')):=by
 have HB:=Ac w.heap.size w;have HH:=Ae (Ay h h');clear h h';go_enter Tryz.func82,Tryz.ntmps82;go_wp2_with fail;refine Be ?_;intro w1 hw1;have b1:Below w.heap.size w w1:=by rw [hw1];go_grown
 have R1:Blk w1 w.heap.size #[.bool false,.slice none 0 0,.slice none 0 0] 60:=by rw [hw1];exact Bi rfl _ _
 clear hw1;refine (fK (HH.out.1.keep b1) hl (HH.out.2.keep b1) hl').mono ?_;rintro e w2 ⟨a3,n3,c3,rfl,hP,_,hb2⟩;have hlen:(Lj l l').length≤2000:=Ah (Ha _) (by have h1:=hl.len;have h2:=hl'.len;have h3:(Nz (-1,1) l').length≤l'.length:=Ah (Ha _) (by simp [Gh]);simp;omega);exact qAl
theorem Vr (hm:∀W,Below w.heap.size w W→Θ 11 #[.slice a n c,.slice a' n' c'] W (F7 W (En l l'))) (hlen:(En l l').length≤2000) :
  Θ 82 #[.int .u8 42,.slice a n c,.slice a' n' c'] w (Hh w (En l l')):=by
 have h:=trivial;have h':=trivial;have HB:=Ac w.heap.size w;have HH:=Ae (Ay h h');clear h h';go_enter Tryz.func82,Tryz.ntmps82;go_wp2_with fail;refine Be ?_;intro w1 hw1;have b1:Below w.heap.size w w1:=by rw [hw1];go_grown
 have R1:Blk w1 w.heap.size #[.bool false,.slice none 0 0,.slice none 0 0] 60:=by rw [hw1];exact Bi rfl _ _
 clear hw1;refine (hm w1 b1).mono ?_;rintro e w2 ⟨a3,n3,c3,rfl,hP,_,hb2⟩;exact qAl
theorem iZ (h:Bd w 0 a n c l) (hl:Sm l) (h':Bd w 0 a' n' c' l') (hl':Sm l') (hne:l'≠[]) {q:Δ} (hx:Fd l l'=some (some q)) (hlen:q.length≤2000) :
  Θ 82 #[.int .u8 47,.slice a n c,.slice a' n' c'] w (Hh w q):=by
 have hm:((n':Int)==0)=false:=by
  rw [beq_eq_false_iff_ne];have:=h'.len;rcases l' with _|⟨t,l'⟩
  ·exact absurd rfl hne
  ·simp at this;omega
 have HB:=Ac w.heap.size w;have HH:=Ae (Ay h h');clear h h';go_enter Tryz.func82,Tryz.ntmps82;go_wp2_with fail;refine Be ?_;intro w1 hw1;have b1:Below w.heap.size w w1:=by rw [hw1];go_grown
 have R1:Blk w1 w.heap.size #[.bool false,.slice none 0 0,.slice none 0 0] 60:=by rw [hw1];exact Bi rfl _ _
 clear hw1;refine (Mc w1 0 n c 0 n' c' a a' l l' (HH.out.1.keep b1) hl (HH.out.2.keep b1) hl' (some q) hx).mono ?_;rintro e w2 ⟨hb2,a3,n3,c3,rfl,hP⟩;exact qAl
end
section
variable {w:World} {B B':Nat} {o o':Option Nat} {v0 v1 v2 u0 u1 u2:Value} {l l' r:Δ}
theorem nG (h:Bw w B o v0 v1 v2 (.node false l [])) (h':Bw w B' o' u0 u1 u2 (.node false l' [])) (hok:VT.Ok 1 (.node false l [])) (hok':VT.Ok 1 (.node false l' []))
  (hr:∀(W:World) (a:Γ) (n c:Nat) (a':Γ) (n' c':Nat),Bd W 0 a n c l→Bd W 0 a' n' c' l'→Θ 82 #[.int .u8 43,.slice a n c,.slice a' n' c'] W (Hh W r)) :
  Θ 26 #[.string ⟨#[43]⟩,.agg #[v0,v1,v2],.agg #[u0,u1,u2]] w (Hh w r):=by
 exact qAe
theorem nO (h:Bw w B o v0 v1 v2 (.node false l [])) (h':Bw w B' o' u0 u1 u2 (.node false l' [])) (hok:VT.Ok 1 (.node false l [])) (hok':VT.Ok 1 (.node false l' []))
  (hr:∀(W:World) (a:Γ) (n c:Nat) (a':Γ) (n' c':Nat),Bd W 0 a n c l→Bd W 0 a' n' c' l'→Θ 82 #[.int .u8 45,.slice a n c,.slice a' n' c'] W (Hh W r)) :
  Θ 26 #[.string ⟨#[45]⟩,.agg #[v0,v1,v2],.agg #[u0,u1,u2]] w (Hh w r):=by
 exact qAe
theorem Y7 (h:Bw w B o v0 v1 v2 (.node false l [])) (h':Bw w B' o' u0 u1 u2 (.node false l' [])) (hok:VT.Ok 1 (.node false l [])) (hok':VT.Ok 1 (.node false l' []))
  (hr:∀(W:World) (a:Γ) (n c:Nat) (a':Γ) (n' c':Nat),Bd W 0 a n c l→Bd W 0 a' n' c' l'→Θ 82 #[.int .u8 42,.slice a n c,.slice a' n' c'] W (Hh W r)) :
  Θ 26 #[.string ⟨#[42]⟩,.agg #[v0,v1,v2],.agg #[u0,u1,u2]] w (Hh w r):=by
 exact qAe
theorem rJ (h:Bw w B o v0 v1 v2 (.node false l [])) (h':Bw w B' o' u0 u1 u2 (.node false l' [])) (hok:VT.Ok 1 (.node false l [])) (hok':VT.Ok 1 (.node false l' []))
  (hr:∀(W:World) (a:Γ) (n c:Nat) (a':Γ) (n' c':Nat),Bd W 0 a n c l→Bd W 0 a' n' c' l'→Θ 82 #[.int .u8 47,.slice a n c,.slice a' n' c'] W (Hh W r)) :
  Θ 26 #[.string ⟨#[47]⟩,.agg #[v0,v1,v2],.agg #[u0,u1,u2]] w (Hh w r):=by
 exact qAe
end
def Jr (w:World) (R:Nat) (x:Option (Δ×Bool)) (e:Ending) (w':World):Prop :=
 w.grownBy w' (some R)∧match x with|none=>e=.panicked Ko|some (l,m)=>∃a n c,e=.returned (.slice a n c)∧Bd w' w.heap.size a n c l∧Bm w' w.heap.size a n c∧Cm w' R [] m
theorem Jr.no {w w':World} {R:Nat} (h:w.grownBy w' (some R)):Jr w R none (.panicked Ko) w':=⟨h,rfl⟩
theorem lL (wo:World) (R:Nat) (L:List UInt8) (h:Cm wo R L false) (hL:L.length<65537) (hV:If wo) (hR:7<R) :
  Θ 160 #[.pointer (some ⟨R,0,none⟩)] wo (Jr wo R (Hy L)):=by
 have hRlt:=h.lt;have hne7:some 7≠some R:=by simp;omega
 have hsk:=Fe L;go_enter Tryz.func160,Tryz.ntmps160;go_wp2_with (first|(go_at_call 219;refine (Qh _ R L false h qA).mono ?_;rintro e w1 ⟨rfl,hr1,hg1⟩));refine (Do w1 R (skp L) false 45 hr1 qA qA qA).mono ?_;rintro e w2 ⟨rfl,hr2,hg2⟩;obtain ⟨L1,hL1⟩:∃L1,L1=(if Cs (skp L) 45 then (skp L).tail else skp L):=⟨_,rfl⟩;have hl1:L1.length≤L.length:=by
  rw [hL1];split
  ·simp;omega
  ·exact hsk
 obtain ⟨ng,hng⟩:∃ng,ng=Cs (skp L) 45:=⟨_,rfl⟩;have hTR:Hid (Hy L=match Fl L1 false ng with|none=>none|some (l,r,m)=>Gt l r m):=Ae (by rw [hL1,hng];rfl);rw [←hL1] at hr2;rw [←hng];clear hL1 hng hr1;have hg12:=hg1.trans hg2;have hV2:If w2:=hV.grown hg12 hne7;clear hg1 hg2
 cases hx:Fl L1 false ng with
 | none =>
  go_wp2_with fail;refine (Qd w2 R L1 false ng hr2 qA hV2 hR).mono ?_;rintro e w3 ⟨hg3,hp3⟩;rw [hx] at hp3;subst hp3;have hz:Hy L=none:=by rw [hTR.out,hx]
  refine ⟨rfl,?_⟩;rw [hz];exact Jr.no (hg12.trans hg3)
 | some x =>
  obtain ⟨l,r,m⟩:=x;go_wp2_with (first|(go_at_call 220;refine (Qd w2 R L1 false ng hr2 qA hV2 hR).mono ?_;rintro e w3 ⟨hg3,hp3⟩;rw [hx] at hp3;obtain ⟨a1,n1,c1,rfl,hP3,hO3,hr3⟩:=hp3));obtain ⟨g1,g2,g3⟩:=Lo hx;have g4:=J1 hx;have hX0:=Ae (show Hy L=Gt l r m by rw [hTR.out,hx]);have hP0:=Ae (Ay (hP3.mono hg12.size) (hO3.mono hg12.size));have hr0:=Ae hr3;have hg0:=Ae (hg12.trans hg3);have hQ0:=Ae (show PW l∧Cj (1+(L1.length-r.length)) l∧(1+(L1.length-r.length))+3*r.length≤300000∧l.length+r.length≤100000 from ⟨g1,g2,by omega,by omega⟩);clear hP3 hr3 hg3 hg12 hTR hx hr2 hV2 g1 g2 g3;go_loopw [2] (fun v2 wr=>∃(a:Γ) (n c:Nat) (p:Δ) (L2:List UInt8) (m:Bool) (K:Nat),v2=.slice a n c∧Hid (Hy L=Gt p L2 m)∧Hid (Bd wr wo.heap.size a n c p∧Bm wr wo.heap.size a n c)∧Hid (PW p∧Cj K p∧K+3*L2.length≤300000∧p.length+L2.length≤100000)∧Hid (Cm wr R L2 m)∧Hid (wo.grownBy wr (some R))) (fun _ wr=>Tp wr R)
  case atStart=>exact ⟨a1,n1,c1,l,r,m,_,rfl,hX0,hP0,hQ0,hr0,hg0⟩
  case round =>
   clear hX0 hP0 hQ0 hr0 hg0;obtain ⟨a,n,c,p,L2,m,K,rfl,hX,hP,hQ,hr,hg⟩:=hrel;have hVr:If wr:=hV.grown hg.out hne7;have t0:=hr.out.c0
   cases L2 with
   | nil =>
    go_wp2_with fail;have hz:Hy L=some (p,m):=by rw [hX.out,Gt]
    rw [hz];go_ret;exact ⟨hg.out,a,n,c,rfl,hP.out.1,hP.out.2,hr.out⟩
   | cons b r2 =>
    have hlc:(b::r2).length≤100000:=by have:=hQ.out;omega
    have hl2:r2.length<100000:=by have:=hlc;simp only [List.length_cons] at this;omega
    have hm0:=Ae (Et hr.out);by_cases h45:b=45
    ·subst h45;have hX1:Hid (Hy L=match Fl r2 m true with|none=>none|some (l',r',m')=>Gt (Cu p l') r' m'):=Ae (by rw [hX.out,Gt];simp;split<;>simp_all);clear hX
     cases hy:Fl r2 m true with
     | none =>
      have hz:Hy L=none:=by rw [hX1.out,hy]
      go_wp2_with fail;refine (Do wr R (45::r2) m 45 hr.out qA qA qA).mono ?_;rintro e w4 ⟨rfl,hr4,hg4⟩;rw [show Cs (45::r2) 45=true by simp [Cs]] at hr4 ⊢;simp only [if_true,List.tail_cons] at hr4;have hg45:=hg.out.trans hg4;have hr5:=hr4;go_wp2_with (first|(go_at_call 222;refine (Dr _).mono ?_;rintro e w6 ⟨rfl,rfl⟩)|(go_at_call 220;refine (Qd _ R r2 m true hr5 qA (hV.grown hg45 hne7) hR).mono ?_;rintro e w7 ⟨hg7,hp7⟩;rw [hy] at hp7;subst hp7));refine ⟨rfl,?_⟩;rw [hz];exact Jr.no (hg45.trans hg7)
     | some x =>
      obtain ⟨l',r',m'⟩:=x;have hX2:=Ae (show Hy L=Gt (Cu p l') r' m' by rw [hX1.out,hy]);obtain ⟨g1,g2,g3⟩:=Lo hy;have g4:=J1 hy;obtain ⟨q1,q2,q3,q4⟩:=hQ.out;have q5:=Qm p l';simp only [List.length_cons] at q3 q4;have hQ2:=Ae (show PW (Cu p l')∧Cj (K+(1+(r2.length-r'.length))+1) (Cu p l')∧(K+(1+(r2.length-r'.length))+1)+3*r'.length≤300000∧(Cu p l').length+r'.length≤100000 from ⟨q1.add g1,Cj.add p l' q1.good g1.good q2 g2,by omega,by omega⟩);clear hX1;go_wp2_with fail;refine (Do wr R (45::r2) m 45 hr.out qA qA qA).mono ?_;rintro e w4 ⟨rfl,hr4,hg4⟩;rw [show Cs (45::r2) 45=true by simp [Cs]] at hr4 ⊢;simp only [if_true,List.tail_cons] at hr4;have hg45:=hg.out.trans hg4;have hr5:=hr4;go_wp2_with (first|(go_at_call 222;refine (Dr _).mono ?_;rintro e w6 ⟨rfl,rfl⟩)|(go_at_call 220;refine (Qd _ R r2 m true hr5 qA (hV.grown hg45 hne7) hR).mono ?_;rintro e w7 ⟨hg7,hp7⟩;rw [hy] at hp7;obtain ⟨a7,n7,c7,rfl,hP7,_,hr7⟩:=hp7;have hP8:=hP.out.1.butR (hg4.trans hg7) (fun k hk=>by cases hk;exact hRlt);have e7:=hP7.len;have e8:=hP8.len)|(go_at_call 45;refine (Me _ _ a n c p hP8 q1 K q2 _ a7 n7 c7 l' hP7 g1 (1+(r2.length-r'.length)) g2 qA qA qA).mono ?_;rintro e w9 ⟨a9,n9,c9,rfl,hP9,hO9,hb9⟩));exact qBm
    ·by_cases h43:b=43
     ·subst h43;have hX1:Hid (Hy L=match Fl r2 m false with|none=>none|some (l',r',m')=>Gt (Cu p l') r' m'):=Ae (by rw [hX.out,Gt];simp;split<;>simp_all);clear hX
      cases hy:Fl r2 m false with
      | none =>
       have hz:Hy L=none:=by rw [hX1.out,hy]
       go_wp2_with fail;refine (Do wr R (43::r2) m 45 hr.out qA qA qA).mono ?_;rintro e w4 ⟨rfl,hr4,hg4⟩;rw [show Cs (43::r2) 45=false by simp [Cs]] at hr4 ⊢;simp only [Bool.false_eq_true,if_false] at hr4;go_wp2_with (first|(go_at_call 221;refine (Do w4 R (43::r2) m 43 hr4 qA qA qA).mono ?_;rintro e w5 ⟨rfl,hr5,hg5⟩;rw [show Cs (43::r2) 43=true by simp [Cs]] at hr5 ⊢;simp only [if_true,List.tail_cons] at hr5;have hg45:=(hg.out.trans hg4).trans hg5)|(go_at_call 222;refine (Dr _).mono ?_;rintro e w6 ⟨rfl,rfl⟩)|(go_at_call 220;refine (Qd _ R r2 m false hr5 qA (hV.grown hg45 hne7) hR).mono ?_;rintro e w7 ⟨hg7,hp7⟩;rw [hy] at hp7;subst hp7));refine ⟨rfl,?_⟩;rw [hz];exact Jr.no (hg45.trans hg7)
      | some x =>
       obtain ⟨l',r',m'⟩:=x;have hX2:=Ae (show Hy L=Gt (Cu p l') r' m' by rw [hX1.out,hy]);obtain ⟨g1,g2,g3⟩:=Lo hy;have g4:=J1 hy;obtain ⟨q1,q2,q3,q4⟩:=hQ.out;have q5:=Qm p l';simp only [List.length_cons] at q3 q4;have hQ2:=Ae (show PW (Cu p l')∧Cj (K+(1+(r2.length-r'.length))+1) (Cu p l')∧(K+(1+(r2.length-r'.length))+1)+3*r'.length≤300000∧(Cu p l').length+r'.length≤100000 from ⟨q1.add g1,Cj.add p l' q1.good g1.good q2 g2,by omega,by omega⟩);clear hX1;go_wp2_with fail;refine (Do wr R (43::r2) m 45 hr.out qA qA qA).mono ?_;rintro e w4 ⟨rfl,hr4,hg4⟩;rw [show Cs (43::r2) 45=false by simp [Cs]] at hr4 ⊢;simp only [Bool.false_eq_true,if_false] at hr4;go_wp2_with (first|(go_at_call 221;refine (Do w4 R (43::r2) m 43 hr4 qA qA qA).mono ?_;rintro e w5 ⟨rfl,hr5,hg5⟩;rw [show Cs (43::r2) 43=true by simp [Cs]] at hr5 ⊢;simp only [if_true,List.tail_cons] at hr5;have hg45:=(hg.out.trans hg4).trans hg5)|(go_at_call 222;refine (Dr _).mono ?_;rintro e w6 ⟨rfl,rfl⟩)|(go_at_call 220;refine (Qd _ R r2 m false hr5 qA (hV.grown hg45 hne7) hR).mono ?_;rintro e w7 ⟨hg7,hp7⟩;rw [hy] at hp7;obtain ⟨a7,n7,c7,rfl,hP7,_,hr7⟩:=hp7;have hP8:=hP.out.1.butR ((hg4.trans hg5).trans hg7) (fun k hk=>by cases hk;exact hRlt);have e7:=hP7.len;have e8:=hP8.len)|(go_at_call 45;refine (Me _ _ a n c p hP8 q1 K q2 _ a7 n7 c7 l' hP7 g1 (1+(r2.length-r'.length)) g2 qA qA qA).mono ?_;rintro e w9 ⟨a9,n9,c9,rfl,hP9,hO9,hb9⟩));exact qBm
     ·have h1:Cs (b::r2) 45=false:=by simpa [Cs] using fun e:(b.toNat:Int)=45=>h45 (UInt8.toNat_inj.1 (by show b.toNat=45;omega))
      have h2:Cs (b::r2) 43=false:=by simpa [Cs] using fun e:(b.toNat:Int)=43=>h43 (UInt8.toNat_inj.1 (by show b.toNat=43;omega))
      have hz:Hy L=none:=by rw [hX.out,Gt];simp [h45,h43]
      go_wp2_with fail;refine (Do wr R (b::r2) m 45 hr.out qA qA qA).mono ?_;rintro e w4 ⟨rfl,hr4,hg4⟩;rw [h1] at hr4 ⊢;simp only [Bool.false_eq_true,if_false] at hr4;go_wp2_with (first|(go_at_call 221;refine (Do w4 R (b::r2) m 43 hr4 qA qA qA).mono ?_;rintro e w5 ⟨rfl,hr5,hg5⟩;rw [h2])|(go_at_call 222;refine (Nr _).mono ?_;rintro e w6 ⟨rfl,rfl⟩));refine ⟨rfl,?_⟩;rw [hz];exact Jr.no ((hg.out.trans hg4).trans hg5)
theorem Ty (p q:Addr) (w:World) :
  CallsD Tryz.prog 159 #[.pointer (some p),.pointer (some q)] .returning w fun e u' w'=>e=.returned (.tuple #[])∧u'=.returning∧w'=w:=by
 have hnil:∀w:World,(binOp BinOp.neq 20 .nilIface .nilIface).run Tryz.prog w=.ok (.bool false) w:=fun _=>by kernel_rfl
 refine callsD_of_wpS Tryz.func159 rfl fun c₀ cs hu=>?_
 simp only [Tryz.ntmps159,List.size_toArray,List.length_cons,List.length_nil,Nat.reduceAdd,Nat.reduceSub,Array.replicate_succ,Array.replicate_zero,List.push_toArray,List.append_toArray,List.nil_append,List.cons_append];apply wpS_seq;apply wpS_region;simp [wpOpsS,go_sem,recoverD,hu,Exit.thenS];apply wpS_seq;apply wpS_region;simp [wpOpsS,go_sem,Exit.thenS,hnil];refine wpS_cond (t:=false) (by simp [Act.eval,Array.replicate]) ?_;exact qDn
theorem C1 {w w':World} {B R:Nat} (h:w.grownBy w' (some R)) (hR:B≤R) (hB:B≤w.heap.size):Below B w w':=⟨h.os,h.tape,h.output,h.size,fun k hk=>h.block k qA qJ⟩
theorem Zd (b c:Nat) (w:World) (v1 v2:Value) (h1:w.cell? ⟨b,0,none⟩=some v1) (h2:w.cell? ⟨c,0,none⟩=some v2) (f1:w.frozen? ⟨b,0,none⟩=false) (f2:w.frozen? ⟨c,0,none⟩=false) (hne:b≠c) :
  CallsD Tryz.prog 159 #[.pointer (some ⟨b,0,none⟩),.pointer (some ⟨c,0,none⟩)] (.panicking Ko) w fun e u' w'=>e=.returned (.tuple #[])∧u'=.panicking [{ v:=.iface 201 (.agg #[]),recovered:=true }]∧w'=(w.setCell ⟨b,0,none⟩ (.slice none 0 0)).setCell ⟨c,0,none⟩ (.int .i64 4):=by
 have hta:∀w:World,(Instr.typeAssert (.iface 201 (.agg #[])) 20 201 false).run Tryz.prog w=.ok (.agg #[]) w:=fun _=>by kernel_rfl
 have hnil:∀w:World,(binOp BinOp.neq 20 (.iface 201 (.agg #[])) .nilIface).run Tryz.prog w=.ok (.bool true) w:=fun _=>by kernel_rfl
 refine callsD_of_wpS Tryz.func159 rfl fun c₀ cs hu=>?_
 simp only [Tryz.ntmps159,List.size_toArray,List.length_cons,List.length_nil,Nat.reduceAdd,Nat.reduceSub,Array.replicate_succ,Array.replicate_zero,List.push_toArray,List.append_toArray,List.nil_append,List.cons_append];apply wpS_seq;apply wpS_region;simp [wpOpsS,go_sem,recoverD,hu,Exit.thenS];apply wpS_seq;apply wpS_region;simp [wpOpsS,go_sem,Exit.thenS,hnil];refine wpS_cond (t:=true) (by simp [Act.eval,Array.replicate]) ?_;exact qDn
theorem tQ (w:World) (L:List UInt8) (hL:L.length<1000000000) (hV:If w) (h7:7<w.heap.size) :
  Θ 89 #[.string ⟨L.toArray⟩] w fun e w'=>∃a n c,e=.returned (.tuple #[.slice a n c,.int .i64 (Ek L).2])∧Bd w' w.heap.size a n c (Ek L).1∧Bm w' w.heap.size a n c∧Below w.heap.size w w':=by
 go_enter_defers Tryz.func89,Tryz.ntmps89;by_cases h65:65536<L.length
 ·have h65':¬((L.length:Int)≤65536):=by omega
  have hz:Ek L=([],3):=by unfold Ek;rw [if_pos h65]
  rw [hz];go_wp2_with fail;simp [bodyPostD,Leaves,settle,results,Tryz.results89,go_sem];exact ⟨none,0,0,⟨rfl,rfl,rfl⟩,Bd.nil _ _,Bm.nil _ _,by go_grown⟩
 ·have h65':(L.length:Int)≤65536:=by omega
  obtain ⟨W0,hW0⟩:∃W0,W0=(((w.alloc (Obj.cells #[Value.slice none 0 0] 25)).alloc (Obj.cells #[Value.int IntKind.i64 0] 26)).alloc (Obj.cells #[Value.string { data:=L.toArray },Value.bool false] 204)):=⟨_,rfl⟩;have hr0:Cm W0 (w.heap.size+1+1) L false:=by rw [hW0];exact ⟨by simp [go_sem],by simp [go_sem],by simp [go_sem],by simp [go_sem]⟩
  have hb0:Below w.heap.size w W0:=by rw [hW0];go_grown
  have hV0:If W0:=hV.grown (Bx hb0 none) qG;have p0:W0.cell? ⟨w.heap.size,0,none⟩=some (.slice none 0 0):=by rw [hW0];simp [go_sem]
  have p1:W0.cell? ⟨w.heap.size+1,0,none⟩=some (.int .i64 0):=by rw [hW0];simp [go_sem]
  have q0:W0.frozen? ⟨w.heap.size,0,none⟩=false:=by rw [hW0];simp [go_sem]
  have q1:W0.frozen? ⟨w.heap.size+1,0,none⟩=false:=by rw [hW0];simp [go_sem]
  have hz0:w.heap.size+3≤W0.heap.size:=by rw [hW0];simp
  have hrs:=lL W0 (w.heap.size+1+1) L hr0 qA hV0 qA
  cases hx:Hy L with
  | none =>
   have hz:Ek L=([],4):=by unfold Ek;rw [if_neg h65,hx]
   rw [hz];go_wp2_with fail;rw [←hW0];refine hrs.mono ?_;rintro e w1 ⟨hg,hp⟩;rw [hx] at hp;subst hp;have c0:=hg.cell p0 qJ;have c1:=hg.cell p1 qG;have d0:w1.frozen? ⟨w.heap.size,0,none⟩=false:=(Bv hg qA qJ).trans q0;have d1:w1.frozen? ⟨w.heap.size+1,0,none⟩=false:=(Bv hg qA qG).trans q1;refine leaves_cons (f:=159) (args:=#[.pointer (some ⟨w.heap.size,0,none⟩),.pointer (some ⟨w.heap.size+1,0,none⟩)]) qG qL ?_;refine (Zd _ _ w1 _ _ c0 c1 d0 d1 qA).mono ?_;rintro e u' w2 ⟨rfl,rfl,rfl⟩;simp [c0,c1,Leaves,settle,results,Tryz.results89,go_sem];exact ⟨none,0,0,⟨rfl,rfl,rfl⟩,Bd.nil _ _,Bm.nil _ _,((hb0.trans (C1 hg qA qA)).trans (C1 (Bf _ (Cp _ _)) (Ad _) (by have:=hg.size;omega))).trans (C1 (R:=w.heap.size+1) (Bf _ (Cp _ _)) qA (by have:=hg.size;simp;omega))⟩
  | some x =>
   obtain ⟨l,m⟩:=x;cases m
   ·have hz:Ek L=(l,0):=by unfold Ek;rw [if_neg h65,hx];rfl
    rw [hz];go_wp2_with fail;rw [←hW0];refine hrs.mono ?_;rintro e w1 ⟨hg,hp⟩;rw [hx] at hp;obtain ⟨a,n,c,rfl,hP,hO,hr⟩:=hp;have c0:=hg.cell p0 qJ;have c1:=hg.cell p1 qG;have d0:w1.frozen? ⟨w.heap.size,0,none⟩=false:=(Bv hg qA qJ).trans q0;have d1:w1.frozen? ⟨w.heap.size+1,0,none⟩=false:=(Bv hg qA qG).trans q1;have t1:=hr.c1;go_wp2_with fail;refine leaves_cons (f:=159) (args:=#[.pointer (some ⟨w.heap.size,0,none⟩),.pointer (some ⟨w.heap.size+1,0,none⟩)]) qG qL ?_;refine (Ty _ _ _).mono ?_;rintro e u' w2 ⟨rfl,rfl,rfl⟩;simp [c0,c1,Leaves,settle,results,Tryz.results89,go_sem];have hzz:=hg.size;have gA:=Bf (R:=w.heap.size) (o:=0) (.slice a n c) (Bf (R:=w.heap.size) (o:=0) (.slice a n c) (Cp w1 (some w.heap.size)));have gB:=Bf (R:=w.heap.size+1) (o:=0) (.int .i64 0) (Cp ((w1.setCell ⟨w.heap.size,0,none⟩ (.slice a n c)).setCell ⟨w.heap.size,0,none⟩ (.slice a n c)) (some (w.heap.size+1)));exact ⟨a,n,c,⟨rfl,rfl,rfl⟩,((hP.butR gA (fun k hk=>by cases hk;omega)).butR gB (fun k hk=>by cases hk;omega)).mono hb0.size,((hO.butR gA (fun k hk=>by cases hk;omega)).butR gB (fun k hk=>by cases hk;omega)).mono hb0.size,((hb0.trans (C1 hg qA qA)).trans (C1 gA (Ad _) qA)).trans (C1 (R:=w.heap.size+1) gB qA qJ)⟩
   ·have hz:Ek L=([],3):=by unfold Ek;rw [if_neg h65,hx];rfl
    rw [hz];go_wp2_with fail;rw [←hW0];refine hrs.mono ?_;rintro e w1 ⟨hg,hp⟩;rw [hx] at hp;obtain ⟨a,n,c,rfl,hP,hO,hr⟩:=hp;have c0:=hg.cell p0 qJ;have c1:=hg.cell p1 qG;have d0:w1.frozen? ⟨w.heap.size,0,none⟩=false:=(Bv hg qA qJ).trans q0;have d1:w1.frozen? ⟨w.heap.size+1,0,none⟩=false:=(Bv hg qA qG).trans q1;have t1:=hr.c1;go_wp2_with fail;refine leaves_cons (f:=159) (args:=#[.pointer (some ⟨w.heap.size,0,none⟩),.pointer (some ⟨w.heap.size+1,0,none⟩)]) qG qL ?_;refine (Ty _ _ _).mono ?_;rintro e u' w2 ⟨rfl,rfl,rfl⟩;simp [c0,c1,Leaves,settle,results,Tryz.results89,go_sem];have hzz:=hg.size;have gA:=Bf (R:=w.heap.size) (o:=0) (.slice none 0 0) (Bf (R:=w.heap.size) (o:=0) (.slice a n c) (Cp w1 (some w.heap.size)));have gB:=Bf (R:=w.heap.size+1) (o:=0) (.int .i64 3) (Cp ((w1.setCell ⟨w.heap.size,0,none⟩ (.slice a n c)).setCell ⟨w.heap.size,0,none⟩ (.slice none 0 0)) (some (w.heap.size+1)));exact ⟨none,0,0,⟨rfl,rfl,rfl⟩,Bd.nil _ _,Bm.nil _ _,((hb0.trans (C1 hg qA qA)).trans (C1 gA (Ad _) qA)).trans (C1 (R:=w.heap.size+1) gB qA qJ)⟩
end Go.Proofs.YtnnhcbeiogaknaaGreatDoor
end
