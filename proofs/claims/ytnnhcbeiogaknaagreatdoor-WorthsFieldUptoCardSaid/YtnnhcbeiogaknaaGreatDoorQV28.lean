/- Package polys: Degree. -/
import Derived.Test.YtnnhcbeiogaknaaGreatDoorQV26
import Derived.Test.YtnnhcbeiogaknaaGreatDoorQV21
set_option linter.unusedSimpArgs false
set_option linter.unusedVariables false
set_option maxRecDepth 100000
set_option maxHeartbeats 4000000
section
namespace Go.Proofs.YtnnhcbeiogaknaaGreatDoor
open Go.RowKit
def C6 (l:Δ) (x:Nat):Int:=l.foldl (fun n t=>max n (exN t.1 x:Int)) (-1)
theorem Lw (l:Δ) (t:PT) (x:Nat):C6 (l++[t]) x=max (C6 l x) (exN t.1 x:Int):=by unfold C6;simp
theorem Rc (l:Δ) (x:Nat):-1≤C6 l x∧C6 l x<65536:=by
 have h:∀(l:Δ) (a:Int),-1≤a→a<65536→-1≤l.foldl (fun n t=>max n (exN t.1 x:Int)) a∧l.foldl (fun n t=>max n (exN t.1 x:Int)) a<65536:=by
  intro l
  induction l with
  | nil=>intro a h1 h2;exact ⟨h1,h2⟩
  | cons t l ih=>intro a h1 h2;have:=mF t.1 x;exact ih _ (by show -1≤max a (exN t.1 x:Int);omega) (by show max a (exN t.1 x:Int)<65536;omega)
 exact h l (-1) qA qA
theorem Il (w:World) (B:Nat) (a:Γ) (n c:Nat) (l:Δ) (h:Bd w B a n c l) (hl:PW l) (hf:Cj 1000000 l) (hn:n≤1000000000) (x:Nat) (hx4:x<4) :
  Θ 16 #[.slice a n c,.int .i64 x] w (fun e w'=>e=.returned (.int .i64 (C6 l x))∧Below w.heap.size w w'):=by
 obtain ⟨p,hp,hx⟩:=h.ts;have hok:=h.pok hl hp hx;have HB:=Ac w.heap.size w;have HF:=Ae (h.few hf hp hx);have HO:=Ae hok;have HX:=Ae hx;have HL:=Ae h.len;clear hl hf hok hx h;rcases (by omega:x=0∨x=1∨x=2∨x=3) with rfl|rfl|rfl|rfl
 ·go_enter Tryz.func16,Tryz.ntmps16;go_wp2_with fail;refine (Lk w a n c p hp HF.out true ⟨fun _=>rfl,fun _=>HO.out⟩).mono ?_;rintro e w1 ⟨rfl,hb1⟩;go_wp2_with fail;go_loopw [5,18] (fun v5 v18 wr=>∃i:Nat,i≤n∧v18=.int .i64 i∧v5=.int .i64 (C6 (l.take i) 0)∧Below w.heap.size w wr) (fun _ v18 _=>n-(intOf v18).toNat)
  case atStart=>exact ⟨0,by omega,rfl,rfl,hb1⟩
  case round =>
   obtain ⟨i,hi,rfl,rfl,HBr⟩:=hrel;by_cases hlt:i<n
   ·have hsz:=HBr.size;obtain ⟨b,o,rfl,hcl⟩:=hp.cell.resolve_left qA;obtain ⟨e0,e1,e2,e3,e4,e5,e6,e7⟩:=(hp.keep HBr).at hlt;have hil:i<l.length:=by rw [HL.out];exact hlt
    have hgx:=Ai hil;have hr:=hp.tm i hlt;have hk:=(Ec hr.s1 hr.s2 hr.s3 hr.s0).1;rw [(HX.out i _ hgx).1.key] at hk;have HS:=Ae (show C6 (l.take (i+1)) 0=max (C6 (l.take i) 0) (exN l[i].1 0:Int) by rw [←Lw,List.take_add_one,hgx];rfl);rw [hk] at HS;have hbd:=Rc (l.take i) 0;generalize C6 (l.take i) 0=D at *;generalize p i=t at *;have hm0:=hr.s0;have hw0:IntKind.i64.wrap (t.m0:Int)=t.m0:=IntWalk.i64_in _ qA;exact qAz
   ·exact qBe
 ·go_enter Tryz.func16,Tryz.ntmps16;go_wp2_with fail;refine (Lk w a n c p hp HF.out true ⟨fun _=>rfl,fun _=>HO.out⟩).mono ?_;rintro e w1 ⟨rfl,hb1⟩;go_wp2_with fail;go_loopw [5,18] (fun v5 v18 wr=>∃i:Nat,i≤n∧v18=.int .i64 i∧v5=.int .i64 (C6 (l.take i) 1)∧Below w.heap.size w wr) (fun _ v18 _=>n-(intOf v18).toNat)
  case atStart=>exact ⟨0,by omega,rfl,rfl,hb1⟩
  case round =>
   obtain ⟨i,hi,rfl,rfl,HBr⟩:=hrel;by_cases hlt:i<n
   ·have hsz:=HBr.size;obtain ⟨b,o,rfl,hcl⟩:=hp.cell.resolve_left qA;obtain ⟨e0,e1,e2,e3,e4,e5,e6,e7⟩:=(hp.keep HBr).at hlt;have hil:i<l.length:=by rw [HL.out];exact hlt
    have hgx:=Ai hil;have hr:=hp.tm i hlt;have hk:=(Ec hr.s1 hr.s2 hr.s3 hr.s0).2.1;rw [(HX.out i _ hgx).1.key] at hk;have HS:=Ae (show C6 (l.take (i+1)) 1=max (C6 (l.take i) 1) (exN l[i].1 1:Int) by rw [←Lw,List.take_add_one,hgx];rfl);rw [hk] at HS;have hbd:=Rc (l.take i) 1;generalize C6 (l.take i) 1=D at *;generalize p i=t at *;have hm0:=hr.s1;have hw0:IntKind.i64.wrap (t.m1:Int)=t.m1:=IntWalk.i64_in _ qA;exact qAz
   ·exact qBe
 ·go_enter Tryz.func16,Tryz.ntmps16;go_wp2_with fail;refine (Lk w a n c p hp HF.out true ⟨fun _=>rfl,fun _=>HO.out⟩).mono ?_;rintro e w1 ⟨rfl,hb1⟩;go_wp2_with fail;go_loopw [5,18] (fun v5 v18 wr=>∃i:Nat,i≤n∧v18=.int .i64 i∧v5=.int .i64 (C6 (l.take i) 2)∧Below w.heap.size w wr) (fun _ v18 _=>n-(intOf v18).toNat)
  case atStart=>exact ⟨0,by omega,rfl,rfl,hb1⟩
  case round =>
   obtain ⟨i,hi,rfl,rfl,HBr⟩:=hrel;by_cases hlt:i<n
   ·have hsz:=HBr.size;obtain ⟨b,o,rfl,hcl⟩:=hp.cell.resolve_left qA;obtain ⟨e0,e1,e2,e3,e4,e5,e6,e7⟩:=(hp.keep HBr).at hlt;have hil:i<l.length:=by rw [HL.out];exact hlt
    have hgx:=Ai hil;have hr:=hp.tm i hlt;have hk:=(Ec hr.s1 hr.s2 hr.s3 hr.s0).2.2.1;rw [(HX.out i _ hgx).1.key] at hk;have HS:=Ae (show C6 (l.take (i+1)) 2=max (C6 (l.take i) 2) (exN l[i].1 2:Int) by rw [←Lw,List.take_add_one,hgx];rfl);rw [hk] at HS;have hbd:=Rc (l.take i) 2;generalize C6 (l.take i) 2=D at *;generalize p i=t at *;have hm0:=hr.s2;have hw0:IntKind.i64.wrap (t.m2:Int)=t.m2:=IntWalk.i64_in _ qA;exact qAz
   ·exact qBe
 ·go_enter Tryz.func16,Tryz.ntmps16;go_wp2_with fail;refine (Lk w a n c p hp HF.out true ⟨fun _=>rfl,fun _=>HO.out⟩).mono ?_;rintro e w1 ⟨rfl,hb1⟩;go_wp2_with fail;go_loopw [5,18] (fun v5 v18 wr=>∃i:Nat,i≤n∧v18=.int .i64 i∧v5=.int .i64 (C6 (l.take i) 3)∧Below w.heap.size w wr) (fun _ v18 _=>n-(intOf v18).toNat)
  case atStart=>exact ⟨0,by omega,rfl,rfl,hb1⟩
  case round =>
   obtain ⟨i,hi,rfl,rfl,HBr⟩:=hrel;by_cases hlt:i<n
   ·have hsz:=HBr.size;obtain ⟨b,o,rfl,hcl⟩:=hp.cell.resolve_left qA;obtain ⟨e0,e1,e2,e3,e4,e5,e6,e7⟩:=(hp.keep HBr).at hlt;have hil:i<l.length:=by rw [HL.out];exact hlt
    have hgx:=Ai hil;have hr:=hp.tm i hlt;have hk:=(Ec hr.s1 hr.s2 hr.s3 hr.s0).2.2.2;rw [(HX.out i _ hgx).1.key] at hk;have HS:=Ae (show C6 (l.take (i+1)) 3=max (C6 (l.take i) 3) (exN l[i].1 3:Int) by rw [←Lw,List.take_add_one,hgx];rfl);rw [hk] at HS;have hbd:=Rc (l.take i) 3;generalize C6 (l.take i) 3=D at *;generalize p i=t at *;have hm0:=hr.s3;have hw0:IntKind.i64.wrap (t.m3:Int)=t.m3:=IntWalk.i64_in _ qA;exact qAz
   ·exact qBe
def tP (w:World) (l l':Δ) (e:Ending) (w':World):Prop :=
 ∃(x:Nat) (f:Bool),e=.returned (.tuple #[.int .i64 x,.bool f])∧Below w.heap.size w w'∧(f=true→x<4∧(0<C6 l x∨0<C6 l' x)∧∀j,j<x→C6 l j≤0∧C6 l' j≤0)∧(f=false→x=0∧∀j,j<4→C6 l j≤0∧C6 l' j≤0)
theorem Vf (wo:World) (B n c B' n' c':Nat) (a a':Γ) (l l':Δ) (h:Bd wo B a n c l) (hl:Sm l) (h':Bd wo B' a' n' c' l') (hl':Sm l') :
  Θ 308 #[.slice a n c,.slice a' n' c'] wo (tP wo l l'):=by
 have HB:=Ac wo.heap.size wo;go_enter Tryz.func308,Tryz.ntmps308;go_wp2_with fail;go_loopw [7] (fun v7 wr=>∃i:Nat,i≤4∧v7=.int .i64 i∧Hid (∀j,j<i→C6 l j≤0∧C6 l' j≤0)∧Below wo.heap.size wo wr) (fun v7 _=>4-(intOf v7).toNat)
 case atStart=>exact ⟨0,by omega,rfl,Ae (fun j hj=>by omega),HB⟩
 case round =>
  obtain ⟨i,hi,rfl,hS,HBr⟩:=hrel;have hn1:=h.len;have hn2:=h'.len;have q1:=hl.len;have q2:=hl'.len;by_cases hlt:i<4
  ·have D1:=fun W hW=>Il W B a n c l (h.keep hW) hl.pw (hl.few.mono qA) qA i hlt
   have D2:=fun W hW=>Il W B' a' n' c' l' (h'.keep hW) hl'.pw (hl'.few.mono qA) qA i hlt
   have hlti:(i:Int)<4:=by omega
   by_cases c1:0<C6 l i
   ·have HSF:=Ae (show ∀W,Below wo.heap.size wo W→tP wo l l' (.returned (.tuple #[.int .i64 i,.bool true])) W from fun W hW=>⟨i,true,rfl,hW,fun _=>⟨hlt,.inl c1,hS.out⟩,(fun e=>by cases e)⟩);generalize C6 l i=d1 at *;clear D2;go_wp2_with (first|(go_at_call 16;refine (D1 _ HBr).mono ?_;rintro e w2 ⟨rfl,hb2⟩));refine bodyPost_ret (v:=.tuple #[.int .i64 i,.bool true]) (by simp [*,results,Tryz.results308,go_sem]) rfl ?_;exact HSF.out _ (HBr.trans (hb2.mono HBr.size))
   ·by_cases c2:0<C6 l' i
    ·have HSF:=Ae (show ∀W,Below wo.heap.size wo W→tP wo l l' (.returned (.tuple #[.int .i64 i,.bool true])) W from fun W hW=>⟨i,true,rfl,hW,fun _=>⟨hlt,.inr c2,hS.out⟩,(fun e=>by cases e)⟩);generalize C6 l i=d1 at *;generalize C6 l' i=d2 at *;go_wp2_with (first|(go_at_call 16;first|(with_reducible refine (D1 _ HBr).mono ?_;rintro e w2 ⟨rfl,hb2⟩;have HB2:=HBr.trans (hb2.mono HBr.size))|(with_reducible refine (D2 _ HB2).mono ?_;rintro e w3 ⟨rfl,hb3⟩)));refine bodyPost_ret (v:=.tuple #[.int .i64 i,.bool true]) (by simp [*,results,Tryz.results308,go_sem]) rfl ?_;exact HSF.out _ (HB2.trans (hb3.mono HB2.size))
    ·have HS2:=Ae (show ∀j,j<i+1→C6 l j≤0∧C6 l' j≤0 from fun j hj=>by
      by_cases e:j=i
      ·subst e;omega
      ·exact hS.out j qA)
     generalize C6 l i=d1 at *;generalize C6 l' i=d2 at *;go_wp2_with (first|(go_at_call 16;first|(with_reducible refine (D1 _ HBr).mono ?_;rintro e w2 ⟨rfl,hb2⟩;have HB2:=HBr.trans (hb2.mono HBr.size))|(with_reducible refine (D2 _ HB2).mono ?_;rintro e w3 ⟨rfl,hb3⟩)));go_roundw
     case rel=>exact ⟨i+1,by omega,by go_num,HS2,HB2.trans (hb3.mono HB2.size)⟩
     case measure=>simp [intOf];omega
  ·obtain rfl:i=4:=by omega
   have HSF:=Ae (show tP wo l l' (.returned (.tuple #[.int .i64 0,.bool false])) wr from ⟨0,false,rfl,HBr,(fun e=>by cases e),fun _=>⟨rfl,hS.out⟩⟩);go_wp2_with fail;refine bodyPost_ret (v:=.tuple #[.int .i64 0,.bool false]) (by simp [*,results,Tryz.results308,go_sem]) rfl ?_;exact HSF.out
structure Gi (w:World) (a:Γ) (n c:Nat) (L:List (Δ)):Prop where
 len:L.length=n
 cap:n≤c
 few:n≤100000
 cell:n=0∨∃g,a=some ⟨g,0,none⟩∧∀i l,L[i]? = some l→∃a' n' c',w.cell? ⟨g,i,none⟩=some (.slice a' n' c')∧Bd w 0 a' n' c' l
theorem Gi.keep {w w':World} {a:Γ} {n c:Nat} {L:List (Δ)} (h:Gi w a n c L) (hb:Below w.heap.size w w'):Gi w' a n c L :=
 ⟨h.len,h.cap,h.few,h.cell.imp id fun⟨g,e,hc⟩=>⟨g,e,fun i l hl=>by
  obtain ⟨a',n',c',h1,h2⟩:=hc i l hl;exact ⟨a',n',c',Bc hb h1,h2.keep hb⟩⟩⟩
theorem Gi.take {w:World} {a:Γ} {n c:Nat} {L:List (Δ)} (h:Gi w a n c L) {m:Nat} (hm:m≤n):Gi w a m c (L.take m):=by
 have h1:=h.len;have h2:=h.cap;have h3:=h.few;refine ⟨by rw [List.length_take];omega,by omega,by omega,?_⟩;rcases h.cell with h0|⟨g,e,hc⟩
 ·exact .inl qA
 ·refine .inr ⟨g,e,fun i l hl=>hc i l ?_⟩;rw [List.getElem?_take] at hl
  split at hl
  ·exact hl
  ·cases hl
theorem Gg.toR {w:World} {B B':Nat} {v:Value} {L:List (Δ)} (h:Gg w B B' v L) (hL:L.length≤100000):∃a c,v=.slice a L.length c∧Gi w a L.length c L:=by
 obtain ⟨xs,hown,hxs⟩:=h.ex;obtain ⟨hlen,hr⟩:=hown;rcases hr with ⟨rfl,h0⟩|⟨g,cap,cur,rfl,_,hg,hnc,_,hs,ht⟩
 ·exact ⟨none,0,by rw [h0],rfl,by omega,hL,.inl h0⟩
 ·refine ⟨_,cap,rfl,rfl,hnc,hL,.inr ⟨g,rfl,fun i l hl=>?_⟩⟩;obtain ⟨a,n,c,e,hp,ho⟩:=hxs i l hl;refine ⟨a,n,c,?_,hp.mono (Ba _)⟩;have hi:i<L.length:=(List.getElem?_eq_some_iff.1 hl).1;rw [←ht,List.getElem?_take_of_lt qA,Array.getElem?_toList] at e;simp [World.cell?,hg,e]
theorem So (s:List (Δ)):Ex (s++[[]])=Ex s:=by
 unfold Ex;rw [List.reverse_append];rfl
theorem dF (s:List (Δ)) (x:PT) (l:Δ):Ex (s++[x::l])=s++[x::l]:=by
 unfold Ex;rw [List.reverse_append];simp
theorem iS {s:List (Δ)}:∀l∈Ex s,l∈s:=fun l hl=>by
 unfold Ex at hl;rw [List.mem_reverse] at hl;exact List.mem_reverse.1 ((List.dropWhile_sublist _).mem hl)
theorem Wj (s:List (Δ)):(Ex s).length≤s.length:=by
 unfold Ex;have h:=(List.dropWhile_sublist (fun c:Δ=>c.isEmpty) (l:=s.reverse)).length_le;rw [List.length_reverse] at h ⊢;exact h
theorem aI (s:List (Δ)):Ex s=s.take (Ex s).length:=by
 unfold Ex;rw [List.length_reverse];have h:s.reverse=s.reverse.takeWhile (fun c=>c.isEmpty)++s.reverse.dropWhile (fun c=>c.isEmpty):=(List.takeWhile_append_dropWhile ..).symm;have h2:s=(s.reverse.dropWhile (fun c=>c.isEmpty)).reverse++(s.reverse.takeWhile (fun c=>c.isEmpty)).reverse:=by rw [←List.reverse_append,←h,List.reverse_reverse]
 generalize s.reverse.dropWhile (fun c=>c.isEmpty)=x at *;generalize s.reverse.takeWhile (fun c=>c.isEmpty)=y at *;rw [h2,←List.length_reverse,List.take_left'];rfl
theorem nL (T:TypeId) (hT:T=352) (W:World) (a:Γ) (n c k:Nat) (hk:k≤c) (ha:c≠0):∀g o,a=some ⟨g,o,none⟩→(Instr.sliceAt T (.slice a n c) none (some (.int .i64 (k:Int))) none).run Tryz.prog W=.ok (.slice a k c) W:=by
 rintro g o rfl;subst hT;exact qBg
theorem kF (wo:World) (a:Γ) (n c:Nat) (L:List (Δ)) (h:Gi wo a n c L) :
    Θ 348 #[.slice a n c] wo (fun e w'=>e=.returned (.slice a (Ex L).length c)∧Below wo.heap.size wo w'):=by
  have HB:=Ac wo.heap.size wo;have hfew:=h.few;have hcap:=h.cap;go_enter Tryz.func348,Tryz.ntmps348;go_wp2_with fail;go_loopw [0] (fun v0 wr=>∃m:Nat,m≤n∧v0=.slice a m c∧Hid (Ex (L.take m)=Ex L)∧wr=wo) (fun v0 _=>match v0 with|.slice _ m _=>m|_=>0)
  case atStart=>exact ⟨n,by omega,rfl,Ae (by rw [As (by rw [h.len];exact Ad _)]),rfl⟩
  case round =>
    obtain ⟨m,hm,rfl,hT,rfl⟩:=hrel
    match m,hm,hT with
    | 0,hm,hT =>
      have e:Ex L=[]:=by rw [←hT.out];rfl
      have HE:=Ae e;clear e hT;go_wp2_with fail;go_ret;exact ⟨by rw [HE.out];rfl,HB⟩
    | k+1,hm,hT =>
      obtain ⟨g,rfl,hc⟩:=h.cell.resolve_left qA;have hk:k<L.length:=by rw [h.len];omega
      obtain ⟨x,hx⟩:∃x,L[k]? = some x:=⟨_,Ai hk⟩;obtain ⟨a',n',c',h1,h2⟩:=hc k x hx;have hlen:=h2.len;have e:L.take (k+1)=L.take k++[x]:=by rw [List.take_add_one,hx];rfl
      have hlt:(0:Int)<((k+1:Nat):Int):=by omega
      have hkk:((k+1:Nat):Int)-1=(k:Int):=by omega
      have hci:(0:Int)≤(k:Int):=by omega
      have hki:(k:Int)<((k+1:Nat):Int):=by omega
      have hkc:k≤c:=by omega
      have hc0:c≠0:=by omega
      have hs:=nL _ rfl wr (some ⟨g,0,none⟩) (k+1) c k hkc hc0 g 0 rfl
      cases x with
      | nil =>
        obtain rfl:n'=0:=by simpa using hlen.symm
        have HT:=Ae (show Ex (L.take k)=Ex L by rw [←hT.out,e,So]);clear hT e h2 hc hx;go_wp2_with fail;go_roundw
        case rel=>exact ⟨k,by omega,rfl,HT,trivial⟩
        case measure=>simp
      | cons y l =>
        have hn' : ((n' : Int) == 0) = false := by rw [beq_eq_false_iff_ne];have:l.length+1=n':=by simpa using hlen
                                                   omega
        have HT:=Ae (show (Ex L).length=k+1 by rw [←hT.out,e,dF,←e,List.length_take];omega);clear hT e h2 hc hx;go_wp2_with fail;go_ret;exact ⟨by rw [HT.out];rfl,HB⟩
theorem sU (w:World) (B n c:Nat) (a:Γ) (l:Δ) (h:Bd w B a n c l) :
    Θ 311 #[.slice a n c] w (fun e w'=>e=.returned (.bool (C9 l))∧Below w.heap.size w w'):=by
  have hl:=h.len;obtain ⟨p,hp,hpx⟩:=h.ts;have hnf:=hp.few;have HB:=Ac w.heap.size w
  match l,hl,hpx with
  | [],hl,_ =>
    obtain rfl:n=0:=by simpa using hl.symm
    clear hpx h hp;go_enter Tryz.func311,Tryz.ntmps311;go_wp2_with fail;go_ret;exact ⟨rfl,HB⟩
  | [t],hl,hpx =>
    obtain rfl:n=1:=by simpa using hl.symm
    obtain ⟨gb,go,rfl,hgc⟩:=hp.cell.resolve_left qA;have hat:=hgc 0 qA;rw [Nat.zero_mul,Nat.add_zero] at hat;have ht:=(hpx 0 t rfl).1;have hr:=hp.tm 0 qA;clear hgc h hp hpx;generalize p 0=s at *;obtain ⟨-,-,-,-,e4,e5,e6,e7⟩:=hat;have HK:=Ae ht.key;go_enter Tryz.func311,Tryz.ntmps311;exact qBv
  | t::u::l,hl,hpx =>
    have hn2 : 2 ≤ n := by have:l.length+1+1=n:=by simpa using hl
                           omega
    have hn1:((n:Int)==1)=false:=by rw [beq_eq_false_iff_ne];omega
    have hn0:((n:Int)==0)=false:=by rw [beq_eq_false_iff_ne];omega
    clear h hp hpx hl;go_enter Tryz.func311,Tryz.ntmps311;go_wp2_with fail;go_ret;exact ⟨rfl,HB⟩
theorem sB (w:World) (B n c:Nat) (a:Γ) (l:Δ) (h:Bd w B a n c l) :
    Θ 177 #[.slice a n c] w (fun e w'=>e=.returned (.bool (C9 l))∧Below w.heap.size w w'):=by
  have hl:=h.len;obtain ⟨p,hp,hpx⟩:=h.ts;have hnf:=hp.few;have HB:=Ac w.heap.size w
  match l,hl,hpx with
  | [],hl,_ =>
    obtain rfl:n=0:=by simpa using hl.symm
    clear hpx h hp;go_enter Tryz.func177,Tryz.ntmps177;go_wp2_with fail;go_ret;exact ⟨rfl,HB⟩
  | [t],hl,hpx =>
    obtain rfl:n=1:=by simpa using hl.symm
    obtain ⟨gb,go,rfl,hgc⟩:=hp.cell.resolve_left qA;have hat:=hgc 0 qA;rw [Nat.zero_mul,Nat.add_zero] at hat;have ht:=(hpx 0 t rfl).1;have hr:=hp.tm 0 qA;clear hgc h hp hpx;generalize p 0=s at *;obtain ⟨-,-,-,-,e4,e5,e6,e7⟩:=hat;have HK:=Ae ht.key;go_enter Tryz.func177,Tryz.ntmps177;exact qBv
  | t::u::l,hl,hpx =>
    have hn2 : 2 ≤ n := by have:l.length+1+1=n:=by simpa using hl
                           omega
    have hn1:((n:Int)==1)=false:=by rw [beq_eq_false_iff_ne];omega
    have hn0:((n:Int)==0)=false:=by rw [beq_eq_false_iff_ne];omega
    clear h hp hpx hl;go_enter Tryz.func177,Tryz.ntmps177;go_wp2_with fail;go_ret;exact ⟨rfl,HB⟩
theorem Rh {w:World} {B B' n n' c c':Nat} {a a':Γ} {l l':Δ} (h:Bd w B a n c l) (hl:Sm l) (h':Bd w B' a' n' c' l') (hl':Sm l') (hok:C8 l l'=true) :
  Θ 316 #[.slice a n c,.slice a' n' c'] w (Cl w (En l l')):=by
 have HB:=Ac w.heap.size w;go_enter Tryz.func316,Tryz.ntmps316;go_wp2_with fail;refine (oO h hl h' hl' hok).mono ?_;rintro e w1 ⟨a1,n1,c1,rfl,hP,hO,hb1⟩;go_wp2_with fail;refine bodyPost_ret (v:=.slice a1 n1 c1) (by simp [results,Tryz.results316,go_sem]) rfl ?_;exact ⟨a1,n1,c1,rfl,hP,hO,hb1⟩
theorem Pv (w:World) (a:Γ) (n c:Nat) (hn:n≤1000000):Θ 315 #[.slice a n c] w (fun e w'=>e=.returned (.int .i64 ((n:Int)-1))∧w=w'):=by
 go_enter Tryz.func315,Tryz.ntmps315;go_wp2_with fail;go_ret;exact ⟨rfl,rfl⟩
theorem Qa {b:Nat} (T E:TypeId) (z:Value) (hT:Tryz.prog.underlying T=some (.slice E)) (hI:(Tryz.prog.info? E).map (fun i=>(i.zero,i.size,i.bytes))=some (some z,1,b)) (hb:b≤100) (hz:Value.cells z=#[z]) (k:Nat) (hk:k≤100000) (W:World) :
  (Instr.makeSlice T (.int .i64 (k:Int)) (.int .i64 (k:Int))).run Tryz.prog W=.ok (.slice (some ⟨W.heap.size,0,none⟩) k k) (W.alloc (.cells (List.replicate k z).toArray E)):=by
 obtain ⟨i0,hi,hz0,hz1,hz2⟩:=info_parts hI;have hb':(i0.bytes:Int)*(k:Int)≤281474976710656:=by
  rw [hz2];have h1:b*k≤100*100000:=Nat.mul_le_mul hb hk;have h2:((b*k:Nat):Int)≤10000000:=by omega
  rw [Int.natCast_mul] at h2;omega
 have hr:=run_make (P:=Tryz.prog) W T E i0 z hT hi hz0 .i64 .i64 k k qA (Int.le_refl _) hb' qA;simp only [Int.toNat_natCast] at hr;have e:madeCells (Value.cells z) (k*i0.size)=(List.replicate k z).toArray:=by
  apply Array.ext';rw [hz1,Nat.mul_one,hz,toList_madeCells_one]
 rw [e] at hr;exact hr
theorem iF:(Tryz.prog.info? 85).map (fun i=>(i.zero,i.size,i.bytes))=some (some (.map none),1,8):=by kernel_rfl
theorem Jb:(Tryz.prog.info? 25).map (fun i=>(i.zero,i.size,i.bytes))=some (some (.slice none 0 0),1,24):=by kernel_rfl
theorem kR (W:World):(Instr.makeSlice 25 (.int .i64 1) (.int .i64 1)).run Tryz.prog W=.ok (.slice (some ⟨W.heap.size,0,none⟩) 1 1) (W.alloc (.cells #[.bool false,.slice none 0 0,.bool false,.slice none 0 0,.int .u16 0,.int .u16 0,.int .u16 0,.int .u16 0] 79)):=by
 obtain ⟨i0,hi,hz0,hz1,hz2⟩:=info_parts Ss;have hr:=run_make (P:=Tryz.prog) W 25 79 i0 _ Tryz.underlying25 hi hz0 .i64 .i64 1 1 qA (Int.le_refl _) (by rw [hz2];decide) qA;have e:madeCells (Value.cells (.agg #[.bool false,.slice none 0 0,.bool false,.slice none 0 0,.int .u16 0,.int .u16 0,.int .u16 0,.int .u16 0]:Value)) (Int.toNat 1*8)=(#[.bool false,.slice none 0 0,.bool false,.slice none 0 0,.int .u16 0,.int .u16 0,.int .u16 0,.int .u16 0]:Array Value):=by kernel_rfl
 rw [hz1,e] at hr;exact hr
theorem cS (W:World):(Instr.makeSlice 25 (.int .i64 0) (.int .i64 0)).run Tryz.prog W=.ok (.slice (some ⟨W.heap.size,0,none⟩) 0 0) (W.alloc (.cells #[] 79)):=by
 obtain ⟨i0,hi,hz0,hz1,hz2⟩:=info_parts Ss;have hr:=run_make (P:=Tryz.prog) W 25 79 i0 _ Tryz.underlying25 hi hz0 .i64 .i64 0 0 qA (Int.le_refl _) (by rw [hz2];decide) qA;have e:madeCells (Value.cells (.agg #[.bool false,.slice none 0 0,.bool false,.slice none 0 0,.int .u16 0,.int .u16 0,.int .u16 0,.int .u16 0]:Value)) (Int.toNat 0*8)=(#[]:Array Value):=by kernel_rfl
 rw [hz1,e] at hr;exact hr
theorem Bd.none0 (w:World) (B G:Nat):Bd w B (some ⟨G,0,none⟩) 0 0 [] :=
 ⟨rfl,.inl rfl,fun _=>rfl,fun _=>⟨false,none,0,0,[],false,none,0,0,[],0,0,0,0⟩,⟨Ad _,by omega,by omega,fun i hi=>by omega,.inl rfl⟩,fun i x hi=>by simp at hi⟩
theorem pK {l:Δ} (hl:Sm l):Hx l []=l:=by
 unfold Hx;rw [List.append_nil];exact Fx hl.pw
theorem aB (w:World) (a:Γ) (c k:Nat) :
  Θ 347 #[.slice a 0 c,.int .i64 0,.int .i64 k] w (Cl w []):=by
 have hmk:=cS;go_enter Tryz.func347,Tryz.ntmps347;go_wp2_with fail;refine wp_loop_rounds 1 ?_;rw [rounds_succ];go_wp2_with fail;have HB:Below w.heap.size w (w.alloc (.cells #[] 79)):=Below.alloc (Ac _ _) (Ad _) _;refine (Tr (Bd.none0 _ 0 w.heap.size) Sm.nil (Bd.nil _ 0) Sm.nil).mono ?_;rintro e w1 ⟨a1,n1,c1,rfl,hP,hO,hb1⟩;go_wp2_with fail;refine bodyPost_ret (v:=.slice a1 n1 c1) (by simp [results,Tryz.results347,go_sem]) rfl ?_;exact ⟨a1,n1,c1,rfl,hP.mono HB.size,hO.mono HB.size,HB.trans (hb1.mono HB.size)⟩
theorem dX (w:World) (B c:Nat) (a:Γ) (x:PC) (h:Bd w B a 1 c [(0,x)]) (hl:Sm [(0,x)]) (k:Nat) (hk:k<65536) :
  Θ 347 #[.slice a 1 c,.int .i64 0,.int .i64 k] w (Cl w [(k*unN 0,x)]):=by
 have hmk:=kR;have HS:Sm [(k*unN 0,x)]:=by
  have hu:unN 0=281474976710656:=by decide
  refine ⟨⟨by simp [Ct],fun t ht=>?_,fun t ht=>?_⟩,fun t ht=>?_,by simp⟩
  ·rw [Ao] at ht;subst ht;exact hl.pw.good (0,x) qG
  ·rw [Ao] at ht;subst ht;show k*unN 0<_;rw [hu];omega
  ·rw [Ao] at ht;subst ht;exact hl.few (0,x) qG
 obtain ⟨p,hp,hpx⟩:=h.ts;obtain ⟨gb,go,rfl,hgc⟩:=hp.cell.resolve_left qA;have hat:=hgc 0 qA;rw [Nat.zero_mul,Nat.add_zero] at hat;have ht:=(hpx 0 (0,x) rfl).1;have hr:=hp.tm 0 qA;clear hgc h hp hpx;generalize p 0=s at *;have hk0:=ht.key;have hm:s.m0=0∧s.m1=0∧s.m2=0∧s.m3=0:=by unfold Cg at hk0;simp only at hk0;omega
 have hgb:gb<w.heap.size:=Aa _ _ hat.e0;obtain ⟨e0,e1,e2,e3,e4,e5,e6,e7⟩:=hat;obtain ⟨g1,a1,n1,c1,d1,g2,a2,n2,c2,d2,m0,m1,m2,m3⟩:=s;obtain ⟨rfl,rfl,rfl,rfl⟩:=hm;simp only at e0 e1 e2 e3 e4 e5 e6 e7;have HT:=Ae ht;have HR:=Ae hr;clear ht hr hk0;have hki:IntKind.u16.wrap (k:Int)=k:=by simp [IntKind.wrap,IntKind.bits,IntKind.signed];omega
 go_enter Tryz.func347,Tryz.ntmps347;go_wp2_with fail;refine wp_loop_rounds 2 ?_;rw [rounds_succ];go_wp2_with fail;rw [rounds_succ];go_wp2_with fail;refine Be ?_;intro w2 hw2;have HB:Below w.heap.size w w2:=by rw [hw2];go_grown
 have hT:Ll w2 w.heap.size 0 ⟨g1,a1,n1,c1,d1,g2,a2,n2,c2,d2,k,0,0,0⟩:=by rw [hw2];constructor<;>simp [go_sem,Array.getElem?_append]
 clear hw2;have hr2:=HR.out.keep HB;have hti:=HT.out;have hP:Bd w2 0 (some ⟨w.heap.size,0,none⟩) 1 1 [(k*unN 0,x)]:=by
  refine ⟨rfl,.inr ?_,(fun e=>by cases e),fun _=>⟨g1,a1,n1,c1,d1,g2,a2,n2,c2,d2,k,0,0,0⟩,⟨Ad _,by omega,by omega,fun i hi=>⟨hr2.top,hr2.low,hk,hr2.s1,hr2.s2,hr2.s3⟩,.inr ⟨w.heap.size,0,rfl,fun i hi=>?_⟩⟩,fun i y hi=>?_⟩
  ·intro y hy;exact Ba _
  ·obtain rfl:i=0:=by omega
   simpa using hT
  ·match i,hi with
   | 0,hi =>
    simp only [List.getElem?_cons_zero,Option.some.injEq] at hi;subst hi;refine ⟨⟨hti.g1,hti.d1,hti.g2,hti.d2,?_⟩,.inr (fun y hy=>Ba _),.inr (fun y hy=>Ba _)⟩;have hu:unN 0=281474976710656:=by decide
    show Cg k 0 0 0=k*unN 0;rw [hu];unfold Cg;omega
   | i+1,hi=>simp at hi
 refine (Tr hP HS (Bd.nil _ 0) Sm.nil).mono ?_;rintro e w1 ⟨a3,n3,c3,rfl,hP,hO,hb1⟩;rw [pK HS] at hP;go_wp2_with fail;refine bodyPost_ret (v:=.slice a3 n3 c3) (by simp [results,Tryz.results347,go_sem]) rfl ?_;exact ⟨a3,n3,c3,rfl,hP.mono HB.size,hO.mono HB.size,HB.trans (hb1.mono HB.size)⟩
structure Ff (w:World) (G m:Nat) (D:List (Δ)):Prop where
 len:D.length≤m
 lt:G<w.heap.size
 here:∀i l,D[i]? = some l→∃a n c,w.cell? ⟨G,i,none⟩=some (.slice a n c)∧Bd w (G+1) a n c l
 more:∀i,D.length≤i→i<m→w.cell? ⟨G,i,none⟩=some (.slice none 0 0)
 froz:∀i,i<m→w.frozen? ⟨G,i,none⟩=false
theorem Ff.keep {w w':World} {G m:Nat} {D:List (Δ)} (h:Ff w G m D) (hb:Below w.heap.size w w'):Ff w' G m D :=
 ⟨h.len,Nat.lt_of_lt_of_le h.lt hb.size,fun i l hl=>by
  obtain ⟨a,n,c,h1,h2⟩:=h.here i l hl;exact ⟨a,n,c,Bc hb h1,h2.keep hb⟩,fun i h1 h2=>Bc hb (h.more i h1 h2),fun i hi=>(hb.frozen h.lt).trans (h.froz i hi)⟩
theorem Ff.set {w:World} {G m:Nat} {D:List (Δ)} {X:List (Δ)} {a:Γ} {n c:Nat} {l:Δ} (h:Ff w G m (D++X)) (hX:X.length≤1) (hm:D.length<m) (hc:∃v,w.cell? ⟨G,D.length,none⟩=some v) (hp:Bd w (G+1) a n c l):Ff (w.setCell ⟨G,D.length,none⟩ (.slice a n c)) G m (D++[l]):=by
 have hg:w.grownBy (w.setCell ⟨G,D.length,none⟩ (.slice a n c)) (some G):=Bf _ (A7 _ _);have hk:∀a n c l,Bd w (G+1) a n c l→Bd (w.setCell ⟨G,D.length,none⟩ (.slice a n c)) (G+1) a n c l:=fun _ _ _ _ h=>h.butR (Bf _ (A7 _ _)) (fun k e=>by cases e;omega)
 obtain ⟨v,hv⟩:=hc;refine ⟨by simp;omega,by simpa using h.lt,fun i x hx=>?_,fun i h1 h2=>?_,fun i hi=>by rw [World.frozen?_setCell];exact h.froz i hi⟩
 ·by_cases e:i=D.length
  ·subst e;rw [A5 (Ad _)] at hx;simp at hx;subst hx;exact ⟨a,n,c,World.cell?_setCell_same' _ _ _ (by rw [hv];rfl),hp.butR hg (fun k e=>by cases e;omega)⟩
  ·have hi:i<D.length:=by have:=(List.getElem?_eq_some_iff.1 hx).1;simp at this;omega
   rw [Az hi] at hx;obtain ⟨a',n',c',k1,k2⟩:=h.here i x (by rw [Az hi];exact hx);exact ⟨a',n',c',(World.cell?_setCell_other w ⟨G,D.length,none⟩ ⟨G,i,none⟩ _ qT).trans k1,k2.butR hg (fun k e=>by cases e;omega)⟩
 ·have hne:i≠D.length:=by simp at h1;omega
  refine (World.cell?_setCell_other w ⟨G,D.length,none⟩ ⟨G,i,none⟩ _ qT).trans ?_;exact h.more i (by simp at h1 ⊢;omega) h2
theorem Ff.row {w:World} {G m:Nat} {D:List (Δ)} (h:Ff w G m D) (hm:D.length=m) (hf:m≤100000):Gi w (some ⟨G,0,none⟩) m m D :=
 ⟨hm,Ad _,hf,.inr ⟨G,rfl,fun i l hl=>by
  obtain ⟨a,n,c,h1,h2⟩:=h.here i l hl;exact ⟨a,n,c,h1,h2.mono (Ba _)⟩⟩⟩
theorem Ff.make (w:World) (m:Nat) (T:TypeId):Ff (w.alloc (.cells (Array.replicate m (Value.slice none 0 0)) T)) w.heap.size m [] :=
 ⟨Ba _,by simp,fun i l hl=>by simp at hl,fun i _ h2=>by simp [go_sem,h2],fun i hi=>by simp [go_sem,hi]⟩
theorem Ih {a b:List (Δ)}:∀{n:Nat} {l:List (Δ)},I7 a b n=some l→l.length=n
 | 0,l,h=>by cases h;rfl
 | n+1,l,h=>by
  unfold I7 at h
  cases h1:I7 a b n with
  | none=>simp [h1] at h
  | some l1 =>
   cases h2:Tw a b n with
   | none=>simp [h1,h2] at h
   | some x=>simp only [h1,h2,Option.bind_some,Option.map_some,Option.some.injEq] at h;rw [←h,A9,Ih h1];rfl
theorem My {a b:List (Δ)}:∀{n:Nat} {l:List (Δ)},I7 a b n=some l→∀i,i<n→∃x,Tw a b i=some x∧l[i]? = some x
 | 0,l,h,i,hi=>by omega
 | n+1,l,h,i,hi=>by
  unfold I7 at h
  cases h1:I7 a b n with
  | none=>simp [h1] at h
  | some l1 =>
   cases h2:Tw a b n with
   | none=>simp [h1,h2] at h
   | some x =>
    simp only [h1,h2,Option.bind_some,Option.map_some,Option.some.injEq] at h;subst h;have hl:=Ih h1;by_cases e:i=n
    ·subst e;exact ⟨x,h2,by rw [A5 qA];simp [hl]⟩
    ·obtain ⟨y,k1,k2⟩:=My h1 i qA;exact ⟨y,k1,by rw [Az qA];exact k2⟩
theorem Lu {p q r:Δ} (h:Qu p q=some r):C8 p q=true∧r=En p q∧Sm r:=by
 unfold Qu at h
 split at h
 ·next h1=>obtain ⟨rfl,h2⟩:=Dy h;exact ⟨h1,rfl,h2⟩
 ·cases h
theorem Vl {p q r:Δ} (h:Ui p q=some r):r=Lj p q∧Sm r:=by
 unfold Ui at h;obtain ⟨rfl,h2⟩:=Dy h;exact ⟨rfl,h2⟩
theorem Jk {p q r:Δ} (h:Ps p q=some r):r=Hx p q∧Sm r:=by
 unfold Ps at h;obtain ⟨rfl,h2⟩:=Dy h;exact ⟨rfl,h2⟩
theorem rZ {a b:List (Δ)} {i:Nat} {x:Δ} (h:Tw a b i=some x):Sm x:=by
 unfold Tw at h;obtain ⟨t,h1,h⟩:=Option.bind_eq_some_iff.1 h
 split at h
 ·obtain ⟨u,h2,h⟩:=Option.bind_eq_some_iff.1 h;exact (Vl h).2
 ·cases h;exact (Lu h1).2.2
theorem kZ {a b:List (Δ)} {n:Nat} {l:List (Δ)} (h:I7 a b n=some l):∀x∈l,Sm x:=fun x hx=>by
 obtain ⟨i,hi⟩:=List.getElem?_of_mem hx;have hl:=Ih h;have h1:=(List.getElem?_eq_some_iff.1 hi).1;obtain ⟨y,h2,h3⟩:=My h i qA;rw [hi] at h3;cases h3
 exact rZ h2
theorem Gi.get {w:World} {g n c:Nat} {L:List (Δ)} (h:Gi w (some ⟨g,0,none⟩) n c L) {i:Nat} (hi:i<n):∃a' n' c',w.cell? ⟨g,i,none⟩=some (.slice a' n' c')∧Bd w 0 a' n' c' (L.getD i []):=by
 obtain ⟨g',e,hc⟩:=h.cell.resolve_left qA;cases e
 have hl:i<L.length:=by rw [h.len];exact hi
 exact hc i _ (by rw [List.getD_eq_getElem?_getD,Ai hl];rfl)
theorem Mh {L:List (Δ)} (h:∀l∈L,Sm l) (i:Nat):Sm (L.getD i []):=by
 rw [List.getD_eq_getElem?_getD]
 cases e:L[i]? with
 | none=>exact Sm.nil
 | some l=>exact h l (A8 e)
theorem Ns {L:List (Δ)} {k:Nat} (h:L.length=k+1):L.getLastD []=L.getD k []:=by
 rw [List.getLastD_eq_getLast?,List.getLast?_eq_getElem?,List.getD_eq_getElem?_getD,h];rfl
theorem nU (w:World) (B n c:Nat) (a:Γ) (l:Δ) (h:Bd w B a n c l) (hl:Sm l) (hc:C9 l=true) (k:Nat) (hk:k<65536) :
  Θ 347 #[.slice a n c,.int .i64 0,.int .i64 k] w (Cl w (I2 l 0 k)):=by
 have hn:=h.len
 match l,hn,hc with
 | [],hn,_ =>
  obtain rfl:n=0:=by simpa using hn.symm
  exact aB w a c k
 | [t],hn,hc =>
  obtain rfl:n=1:=by simpa using hn.symm
  obtain ⟨t0,x⟩:=t;have h0:t0=0:=by simpa [C9] using hc
  subst h0;have:=dX w B c a x h hl k hk;simpa [I2] using this
 | t::u::l,hn,hc=>simp [C9] at hc
theorem pE {l:Δ} (hl:Sm l) (hc:C9 l=true) {k:Nat} (hk:k<65536):Sm (I2 l 0 k):=by
 match l,hc with
 | [],_=>exact Sm.nil
 | [t],hc =>
  obtain ⟨t0,x⟩:=t;have h0:t0=0:=by simpa [C9] using hc
  subst h0;have hu:unN 0=281474976710656:=by decide
  refine ⟨⟨by simp [Ct,I2],fun t ht=>?_,fun t ht=>?_⟩,fun t ht=>?_,by simp [I2]⟩
  ·simp only [I2,List.map_cons,List.map_nil,Ao] at ht;subst ht;exact hl.pw.good (0,x) qG
  ·simp only [I2,List.map_cons,List.map_nil,Ao] at ht;subst ht;show 0+k*unN 0<_;rw [hu];omega
  ·simp only [I2,List.map_cons,List.map_nil,Ao] at ht;subst ht;exact hl.few (0,x) qG
 | t::u::l,hc=>simp [C9] at hc
theorem Oe {x:Nat} {s:List (Δ)}:∀{n:Nat} {r:Δ},Ph x s n=some r→∀i,i<n→∃o o',Ph x s i=some o∧Ps o (I2 (s.getD i []) x i)=some o'∧Ph x s (i+1)=some o'
 | 0,r,h,i,hi=>by omega
 | n+1,r,h,i,hi=>by
  have h0:=h;unfold Ph at h
  cases h1:Ph x s n with
  | none=>simp [h1] at h
  | some o =>
   simp only [h1,Option.bind_some] at h;by_cases e:i=n
   ·subst e;exact ⟨o,r,h1,h,h0⟩
   ·exact Oe h1 i qA
theorem nY (wo:World) (n c:Nat) (a:Γ) (s:List (Δ)) (h:Gi wo a n c s) (hs:∀l∈s,Sm l∧C9 l=true) (hn:n≤65536) (r:Δ) (hr:Ph 0 s s.length=some r) :
  Θ 313 #[.slice a n c,.int .i64 0] wo (Cl wo r):=by
 have HB:=Ac wo.heap.size wo;have hlen:=h.len;go_enter Tryz.func313,Tryz.ntmps313;go_wp2_with fail;go_loopw [4,9] (fun v4 v9 wr=>∃i:Nat,i≤n∧v9=.int .i64 i∧(∃(a':Γ) (n' c':Nat) (o:Δ),v4=.slice a' n' c'∧Bd wr wo.heap.size a' n' c' o∧Bm wr wo.heap.size a' n' c'∧Hid (Ph 0 s i=some o)∧Sm o)∧Below wo.heap.size wo wr) (fun _ v9 _=>n-(intOf v9).toNat)
 case atStart=>exact ⟨0,by omega,rfl,⟨none,0,0,[],rfl,Bd.nil _ _,Bm.nil _ _,Ae rfl,Sm.nil⟩,HB⟩
 case round =>
  obtain ⟨i,hi,rfl,⟨a1,n1,c1,o,rfl,hP,hO,hK,hSo⟩,HBr⟩:=hrel;by_cases hlt:i<n
  ·obtain ⟨g,rfl,_⟩:=h.cell.resolve_left qA;obtain ⟨o1,o2,k1,k2,k3⟩:=Oe hr i qA;rw [hK.out] at k1;cases k1
   obtain ⟨a2,n2,c2,hce,hPe⟩:=(h.keep HBr).get hlt;have hse:Sm (s.getD i [])∧C9 (s.getD i [])=true:=by
    rw [List.getD_eq_getElem?_getD,Ai (show i<s.length by omega)];exact hs _ (List.getElem_mem _)
   have hra:=pE hse.1 hse.2 (k:=i) qA;obtain ⟨rfl,k5⟩:=Jk k2;have K3:=Ae k3;clear k3 k2 hr;generalize s.getD i []=l at *;go_wp2_with (first
    | (go_at_call 347;refine (nU _ _ _ _ _ l hPe hse.1 hse.2 i qA).mono ?_;rintro e w2 ⟨a3,n3,c3,rfl,hP3,hO3,hb2⟩;have z2:=hb2.size)
    | (go_at_call 45;refine (Tr (hP.keep hb2) hSo hP3 hra).mono ?_;rintro e w3 ⟨a4,n4,c4,rfl,hP4,hO4,hb3⟩))
   have b3:=hb2.trans (hb3.mono z2);have hwo:=HBr.size;go_roundw
   case rel=>exact ⟨i+1,by omega,by go_num,⟨a4,n4,c4,_,rfl,hP4.mono qA,hO4.mono qA,K3,k5⟩,HBr.trans (b3.mono HBr.size)⟩
   case measure=>(first|(simp [intOf];omega)|(simp [intOf];done))
  ·obtain rfl:i=n:=by omega
   rw [hlen] at hr;rw [hr] at hK;obtain rfl:r=o:=by have:=hK.out;simpa using this
   go_wp2_with fail;refine bodyPost_ret (v:=.slice a1 n1 c1) (by simp [*,results,Tryz.results313,go_sem]) rfl ?_;exact ⟨a1,n1,c1,rfl,hP,hO,HBr⟩
theorem kG (W:World) (g o n c:Nat) (h:1≤c):(Instr.sliceAt 25 (.slice (some ⟨g,o,none⟩) n c) none (some (.int .i64 1)) (some (.int .i64 1))).run Tryz.prog W=.ok (.slice (some ⟨g,o,none⟩) 1 1) W:=by
 have h0:(1:Int)≤(c:Int):=by omega
 simp [Instr.sliceAt,Instr.slice,Instr.sliceBounds,Instr.sliceBound,go_sem,h0,h]
theorem Bd.first {w:World} {B n c:Nat} {a:Γ} {x:PT} {l:Δ} (h:Bd w B a n c (x::l)):Bd w B a 1 1 [x]:=by
 have hl:=h.len;obtain ⟨p,hp,hpx⟩:=h.ts;have hn:1≤n:=by rw [←hl];simp
 refine ⟨rfl,?_,fun e=>?_,p,⟨Ad _,by omega,by omega,fun i hi=>hp.tm i qA,?_⟩,fun i y hi=>?_⟩
 ·rcases h.base with h0|h0
  ·omega
  ·exact .inr h0
 ·have h1:=h.nl e;have:=hp.cap;omega
 ·rcases hp.cell with h0|⟨b,o,ha,hc⟩
  ·omega
  ·exact .inr ⟨b,o,ha,fun i hi=>hc i qA⟩
 ·match i,hi with
  | 0,hi=>exact hpx 0 y (by simpa using hi)
  | i+1,hi=>simp at hi
theorem yE (w:World) (B n c:Nat) (a:Γ) (x:PT) (l:Δ) (h:Bd w B a n c (x::l)) (hl:Sm (x::l)) :
  Θ 309 #[.slice a n c] w (Cl w (Ck [x])):=by
 have hl':=h.len;obtain ⟨p,hp,hpx⟩:=h.ts;have hn:1≤n:=by rw [←hl'];simp
 have hcap:=hp.cap;obtain ⟨gb,go,rfl,_⟩:=hp.cell.resolve_left qA;have hs:=fun W=>kG W gb go n c qA
 have h1:=h.first;go_enter Tryz.func309,Tryz.ntmps309;go_wp2_with fail;refine (Kb h1 (gR hl)).mono ?_;rintro e w1 ⟨a1,n1,c1,rfl,hP,hO,hb1⟩;go_wp2_with fail;refine bodyPost_ret (v:=.slice a1 n1 c1) (by simp [results,Tryz.results309,go_sem]) rfl ?_;exact ⟨a1,n1,c1,rfl,hP,hO,hb1⟩
theorem Sp (w:World) (B n c c':Nat) (a a':Γ) (l:Δ) (h:Bd w B a n c l) (hl:Sm l) :
  Θ 266 #[.slice a' 0 c',.slice a n c] w (Cl w (Ck l)):=by
 have HB:=Ac w.heap.size w;exact qBr
theorem mD (w:World) (B n c c':Nat) (a a':Γ) (l:Δ) (h:Bd w B a n c l) (hl:Sm l) (hn:0<n) :
  Θ 266 #[.slice a n c,.slice a' 0 c'] w (Cl w (Ck l)):=by
 have HB:=Ac w.heap.size w;have hn0:((n:Int)==0)=false:=by rw [beq_eq_false_iff_ne];omega
 exact qBr
theorem Sl {x:PC} (j:Nat):C6 [(0,x)] j≤0:=by
 show max (-1:Int) (exN 0 j:Int)≤0;have:exN 0 j=0:=by unfold exN;simp
 rw [this];decide
theorem Yt (w:World) (B n c B' n' c':Nat) (a a':Γ) (x y:PC) (h:Bd w B a n c [(0,x)]) (hl:Sm [(0,x)]) (h':Bd w B' a' n' c' [(0,y)]) (hl':Sm [(0,y)]) :
  Θ 266 #[.slice a n c,.slice a' n' c'] w (Cl w (Ck [(0,x)])):=by
 have HB:=Ac w.heap.size w;have hn:=h.len;have hn':=h'.len;have hn0:((n:Int)==0)=false:=by rw [beq_eq_false_iff_ne];simp at hn;omega
 have hn0':((n':Int)==0)=false:=by rw [beq_eq_false_iff_ne];simp at hn';omega
 have hx:∀j,C6 [(0,x)] j≤0:=Sl;have hy:∀j,C6 [(0,y)] j≤0:=Sl;have HX:=Ae hx;have HY:=Ae hy;clear hx hy hn hn';go_enter Tryz.func266,Tryz.ntmps266;go_wp2_with fail;go_step3;go_wp2_with fail;refine (Vf w B n c B' n' c' a a' _ _ h hl h' hl').mono ?_;rintro e w1 ⟨k,f,rfl,hb1,ht,hf⟩;have hff:f=false:=by
  cases f with
  | false=>rfl
  | true =>
   obtain ⟨_,h1,_⟩:=ht rfl;have:=HX.out k;have:=HY.out k;omega
 subst hff;obtain ⟨rfl,_⟩:=hf rfl;clear ht hf;go_wp2_with fail;refine (yE _ B n c a (0,x) [] (h.keep (hb1.trans ((by go_grown:Below w1.heap.size w1 _).mono hb1.size))) hl).mono ?_;rintro e w2 ⟨a1,n1,c1,rfl,hP,hO,hb2⟩;have hb12:Below w.heap.size w w2:=Al (hb1.trans ((by go_grown:Below w1.heap.size w1 _).mono hb1.size)) (hb2.mono (by have:=hb1.size;first|omega|(simp;omega)));have z1:=hb1.size;go_wp2_with fail;refine bodyPost_ret (v:=.slice a1 n1 c1) (by simp [results,Tryz.results266,go_sem]) rfl ?_;exact ⟨a1,n1,c1,rfl,hP.mono qS,hO.mono qS,hb12⟩
def bK (w:World) (k:Nat):Prop:=∃es n,w.heap[k]? = some (.map es n)
theorem Dd.isMap {w:World} {b n B:Nat} {f:Nat→Option PC} (h:Dd w b n B f):bK w b:=by
 obtain ⟨D,o,h1,_⟩:=h.ex;obtain ⟨es,clock,h1,_⟩:=h1;exact ⟨es,clock,h1⟩
end Go.Proofs.YtnnhcbeiogaknaaGreatDoor
end
