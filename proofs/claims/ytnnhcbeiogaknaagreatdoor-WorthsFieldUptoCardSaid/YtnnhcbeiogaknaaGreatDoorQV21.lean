/- The reader's term under way: what lies in memory. -/
import Derived.Test.YtnnhcbeiogaknaaGreatDoorQV20
set_option linter.unusedSimpArgs false
set_option linter.unusedVariables false
set_option maxRecDepth 100000
set_option maxHeartbeats 4000000
section
namespace Go.Proofs.YtnnhcbeiogaknaaGreatDoor
open Go.RowKit
def Ap (k n:Nat) (a:Γ):Prop:=n=0∨∀x,a=some x→x.block≠k
theorem RdL.ap {w w':World} {a:Γ} {n c k:Nat} {d:Ξ} (h:RdL w a n c d) (ha:Ap k n a) (hg:w.grownBy w' (some k)):RdL w' a n c d:=by
 refine ⟨h.len,h.cap,h.few,h.top,h.small,?_⟩;rcases h.cell with h0|⟨b,o,hb,hc⟩
 ·exact .inl h0
 ·rcases ha with h0|ha
  ·exact .inl h0
  ·exact .inr ⟨b,o,hb,fun i hi=>hg.cell (hc i hi) fun e=>ha _ hb (by simpa using e)⟩
theorem Bj.ap {w w':World} {g1:Bool} {a1:Γ} {n1 c1:Nat} {p:Int} {g2:Bool} {a2:Γ} {n2 c2 k:Nat} {q:Int} (h:Bj w g1 a1 n1 c1 p g2 a2 n2 c2 q) (h1:Ap k n1 a1) (h2:Ap k n2 a2) (hg:w.grownBy w' (some k)):Bj w' g1 a1 n1 c1 p g2 a2 n2 c2 q :=
 ⟨⟨h.top.neg,h.top.rd.ap h1 hg⟩,⟨h.low.neg,h.low.rd.ap h2 hg⟩,h.pos,h.red⟩
theorem RdL.ap_of {w:World} {a:Γ} {n c k:Nat} {d:Ξ} (h:RdL w a n c d) (hk:w.heap.size≤k):Ap k n a:=by
 rcases h.cell with h0|⟨b,o,hb,hc⟩
 ·exact .inl h0
 ·by_cases h0:n=0
  ·exact .inl h0
  ·right;intro x hx e;rw [hb] at hx;cases hx
   have:=Aa _ _ (hc 0 qA);simp at this e;omega
theorem Ap.few {k n c:Nat} {a:Γ} (h:Ap k c a) (hn:n≤c):Ap k n a:=h.imp (fun h=>by omega) id
theorem Bg.apk {B k c:Nat} {w:World} {a:Γ} (h:Bg B w a c) (hk:k<B):Ap k c a:=by
 rcases h with h|⟨b,cur,h1,h2,_⟩
 ·exact .inl h
 ·exact .inr fun x hx e=>by rw [h1] at hx;cases hx;simp at e;omega
theorem Bg.ap_of {B k c:Nat} {w:World} {a:Γ} (h:Bg B w a c) (hk:w.heap.size≤k):Ap k c a:=by
 rcases h with h|⟨b,cur,h1,h2,h3,_⟩
 ·exact .inl h
 ·exact .inr fun x hx e=>by rw [h1] at hx;cases hx;have:=(Ar.1 h3).1;simp at e;omega
theorem Bg.off_ap {B k c:Nat} {w w':World} {a:Γ} (h:Bg B w a c) (ha:Ap k c a) (hg:w.grownBy w' (some k)):Bg B w' a c:=by
 rcases h with h|⟨b,cur,h1,h2,h3,h4⟩
 ·exact .inl h
 ·rcases ha with ha|ha
  ·exact .inl ha
  ·exact .inr ⟨b,cur,h1,h2,by rw [hg.block b (Ar.1 h3).1 (fun e=>ha _ h1 (by simpa using e))];exact h3,h4⟩
def Qs (w0 w:World) (CB OB:Nat) (c:PC):Prop :=
 ∃g1 a1 n1 c1 g2 a2 n2 c2,w.cell? ⟨CB,0,none⟩=some (.bool g1)∧w.cell? ⟨CB,1,none⟩=some (.slice a1 n1 c1)∧w.cell? ⟨CB,2,none⟩=some (.bool g2)∧w.cell? ⟨CB,3,none⟩=some (.slice a2 n2 c2) ∧
  Bj w g1 a1 n1 c1 c.1 g2 a2 n2 c2 c.2∧Bg w0.heap.size w a1 c1∧Bg w0.heap.size w a2 c2∧Ap CB c1 a1∧Ap CB c2 a2∧Ap OB c1 a1∧Ap OB c2 a2∧Ap2 a1 c1 a2 c2
structure Db (w0 w:World) (R CB OB:Nat) (st:TS):Prop where
 rdr:Cm w R st.L st.many
 fr:Qs w0 w CB OB st.c
 cf:∀i,i<4→w.frozen? ⟨CB,i,none⟩=false
 oc:∀i,i<4→w.cell? ⟨OB,i,none⟩=some (.int .i64 (st.o i:Nat))
 of:∀i,i<4→w.frozen? ⟨OB,i,none⟩=false
 grown:w0.grownBy w (some R)
 h1:R<w0.heap.size
 h2:w0.heap.size≤CB
 h3:CB<OB
 h4:OB<w.heap.size
theorem Qs.grown {w0 w w':World} {R CB OB:Nat} {c:PC} (h:Qs w0 w CB OB c) (hg:w.grownBy w' (some R)) (hR:R<w0.heap.size) (hC:CB≠R):Qs w0 w' CB OB c:=by
 obtain ⟨g1,a1,n1,c1,g2,a2,n2,c2,e0,e1,e2,e3,hf,k1,k2,k3,k4,k5,k6,k7⟩:=h;have hne:∀i,some (⟨CB,i,none⟩:Addr).block≠some R:=fun i=>by simpa using hC
 exact ⟨g1,a1,n1,c1,g2,a2,n2,c2,hg.cell e0 (hne 0),hg.cell e1 (hne 1),hg.cell e2 (hne 2),hg.cell e3 (hne 3),hf.butR (k1.newA hf.top.rd) (k2.newA hf.low.rd) hg (fun k hk=>by cases hk;exact hR),k1.butR hg (fun k hk=>by cases hk;exact hR),k2.butR hg (fun k hk=>by cases hk;exact hR),k3,k4,k5,k6,k7⟩
theorem Qs.keep {w0 w w':World} {CB OB:Nat} {c:PC} (h:Qs w0 w CB OB c) (hb:Below w.heap.size w w'):Qs w0 w' CB OB c:=by
 obtain ⟨g1,a1,n1,c1,g2,a2,n2,c2,e0,e1,e2,e3,hf,k1,k2,k3,k4,k5,k6,k7⟩:=h;exact ⟨g1,a1,n1,c1,g2,a2,n2,c2,Bc hb e0,Bc hb e1,Bc hb e2,Bc hb e3,hf.keep hb,k1.keep hb,k2.keep hb,k3,k4,k5,k6,k7⟩
theorem Db.rd {w0 w w':World} {R CB OB:Nat} {st:TS} (h:Db w0 w R CB OB st) (hg:w.grownBy w' (some R)) {L:List UInt8} {m:Bool} (hr:Cm w' R L m):Db w0 w' R CB OB ⟨st.c,st.o,L,m⟩:=by
 have k1:=h.h1;have k2:=h.h2;have k3:=h.h3;have k4:=h.h4;have hsz:=hg.size;refine ⟨hr,h.fr.grown hg h.h1 qA,fun i hi=>?_,fun i hi=>hg.cell (h.oc i hi) qJ,fun i hi=>?_,h.grown.trans hg,h.h1,h.h2,h.h3,by omega⟩
 ·exact (Bv hg qA qJ).trans (h.cf i hi)
 ·exact (Bv hg qA qJ).trans (h.of i hi)
theorem Db.keep {w0 w w':World} {R CB OB:Nat} {st:TS} (h:Db w0 w R CB OB st) (hb:Below w.heap.size w w'):Db w0 w' R CB OB st:=by
 have k3:=h.h3;have k4:=h.h4;have hsz:=hb.size;exact ⟨h.rdr.keep hb,h.fr.keep hb,fun i hi=>(Ab hb (by show CB<_;omega)).trans (h.cf i hi),fun i hi=>Bc hb (h.oc i hi),fun i hi=>(Ab hb (by show OB<_;omega)).trans (h.of i hi),h.grown.trans (Bx hb _),h.h1,h.h2,h.h3,by omega⟩
theorem Db.setO {w0 w:World} {R CB OB:Nat} {st:TS} (h:Db w0 w R CB OB st) (i:Nat) (hi:i<4) (n:Nat):Db w0 (w.setCell ⟨OB,i,none⟩ (.int .i64 (st.o i+n:Nat))) R CB OB ⟨st.c,Ub st.o i n,st.L,st.many⟩:=by
 have k1:=h.h1;have k2:=h.h2;have k3:=h.h3;have k4:=h.h4;have hg:w.grownBy (w.setCell ⟨OB,i,none⟩ (.int .i64 (st.o i+n:Nat))) (some OB):=Bf _ (Cp _ _);obtain ⟨g1,a1,n1,c1,g2,a2,n2,c2,e0,e1,e2,e3,hf,q1,q2,q3,q4,q5,q6,q7⟩:=h.fr;have hne:∀j,some (⟨CB,j,none⟩:Addr).block≠some OB:=fun j=>by simp;omega
 refine ⟨h.rdr.setOther _ (by show OB≠R;omega),⟨g1,a1,n1,c1,g2,a2,n2,c2,hg.cell e0 (hne 0),hg.cell e1 (hne 1),hg.cell e2 (hne 2),hg.cell e3 (hne 3),hf.ap (q5.few hf.top.rd.cap) (q6.few hf.low.rd.cap) hg,q1.off_ap q5 hg,q2.off_ap q6 hg,q3,q4,q5,q6,q7⟩,fun j hj=>?_,fun j hj=>?_,fun j hj=>?_,Ce _ h.grown (by show w0.heap.size≤OB;omega),h.h1,h.h2,h.h3,by simpa using h.h4⟩
 ·exact (Bv hg qA qJ).trans (h.cf j hj)
 ·show World.cell? _ _=some (Value.int .i64 (Ub st.o i n j:Nat));unfold Ub;by_cases e:j=i
  ·subst e;rw [if_pos rfl];have:=h.oc j hi;simp [*,go_sem]
  ·rw [if_neg e,←h.oc j hj];exact World.cell?_setCell_other (w:=w) (a:=⟨OB,i,none⟩) (b:=⟨OB,j,none⟩) _ (by intro e';injection e' with e1' e2';exact e e2'.symm)
 ·rw [←h.of j hj];simp [go_sem]
theorem Db.setC {w0 w:World} {R CB OB:Nat} {st:TS} (h:Db w0 w R CB OB st) {g1:Bool} {a1:Γ} {n1 c1:Nat} {g2:Bool} {a2:Γ} {n2 c2:Nat} {c:PC} (hf:Bj w g1 a1 n1 c1 c.1 g2 a2 n2 c2 c.2) (k1:Bg (OB+1) w a1 c1) (k2:Bg (OB+1) w a2 c2) (hap:Ap2 a1 c1 a2 c2) :
  Db w0 ((((w.setCell ⟨CB,0,none⟩ (.bool g1)).setCell ⟨CB,1,none⟩ (.slice a1 n1 c1)).setCell ⟨CB,2,none⟩ (.bool g2)).setCell ⟨CB,3,none⟩ (.slice a2 n2 c2)) R CB OB ⟨c,st.o,st.L,st.many⟩:=by
 have q1:=h.h1;have q2:=h.h2;have q3:=h.h3;have q4:=h.h4;have hg:w.grownBy ((((w.setCell ⟨CB,0,none⟩ (.bool g1)).setCell ⟨CB,1,none⟩ (.slice a1 n1 c1)).setCell ⟨CB,2,none⟩ (.bool g2)).setCell ⟨CB,3,none⟩ (.slice a2 n2 c2)) (some CB):=Bf _ (Bf _ (Bf _ (Bf _ (Cp _ _))));obtain ⟨_,_,_,_,_,_,_,_,e0,e1,e2,e3,_⟩:=h.fr;have hCR:CB≠R:=by omega
 have cz:∀i,i<4→w.frozen? ⟨CB,i,none⟩=false:=h.cf;refine ⟨(((h.rdr.setOther _ hCR).setOther _ hCR).setOther _ hCR).setOther _ hCR,⟨g1,a1,n1,c1,g2,a2,n2,c2,by simp [*,go_sem],by simp [*,go_sem],by simp [*,go_sem],by simp [*,go_sem],hf.ap ((k1.apk qA).few hf.top.rd.cap) ((k2.apk qA).few hf.low.rd.cap) hg,(k1.off_ap (k1.apk qA) hg).mono qA,(k2.off_ap (k2.apk qA) hg).mono qA,k1.apk qA,k2.apk qA,k1.apk qA,k2.apk qA,hap⟩,fun j hj=>?_,fun j hj=>hg.cell (h.oc j hj) qJ,fun j hj=>(Bv hg qA qJ).trans (h.of j hj),Ce _ (Ce _ (Ce _ (Ce _ h.grown h.h2) h.h2) h.h2) h.h2,h.h1,h.h2,h.h3,by simpa using h.h4⟩;rw [←h.cf j hj];simp [go_sem]
def F5 (w:World) (k:Nat):Prop:=∀cur,w.heap[k]?≠some (.cells cur 147 (0,0))
def Acw (w:World) (k:Nat):Prop:=∀cur,w.heap[k]?≠some (.cells cur 79 (0,0))
theorem Bg.ap_not {B k c:Nat} {w:World} {a:Γ} (h:Bg B w a c) (hm:F5 w k):Ap k c a:=by
 rcases h with h|⟨b,cur,h1,h2,h3,_⟩
 ·exact .inl h
 ·refine .inr fun x hx e=>?_
  rw [h1] at hx;cases hx
  have e:b=k:=e;subst e;exact hm cur h3
theorem X7 {w w':World} {B n c k:Nat} {a:Γ} {l:Δ} (h:Bd w B a n c l) (ho:Bm w B a n c) (hd:F5 w k) (ht:Acw w k) (hg:w.grownBy w' (some k)):Bd w' B a n c l∧Bm w' B a n c:=by
 obtain ⟨p,hp,hx⟩:=h.ts;obtain ⟨p',o,t,h1,h2,h3⟩:=ho.ts;have hrow:n=0∨∀b o',a=some ⟨b,o',none⟩→b≠k:=by
  rcases ho.row with h0|⟨b,cur,e1,e2,e3,e4⟩
  ·exact .inl (by have:=hp.cap;omega)
  ·refine .inr fun b' o' e=>?_
   rw [e1] at e;cases e
   intro e;subst e;exact ht cur e3
 have hcell:∀q,RdP w a n c q→n=0∨∃b o,a=some ⟨b,o,none⟩∧∀i,i<n→Ll w' b (o+i*8) (q i):=by
  intro q hq;rcases hq.cell with h0|⟨b,o,ha,hc⟩
  ·exact .inl h0
  ·rcases hrow with h0|hr
   ·exact .inl h0
   ·exact .inr ⟨b,o,ha,fun i hi=>(hc i hi).butR hg (fun e=>hr b o ha (by simpa using e))⟩
 have hsame:∀i,i<n→(p i).a1=(p' i).a1∧(p i).c1=(p' i).c1∧(p i).a2=(p' i).a2∧(p i).c2=(p' i).c2:=by
  exact qBj
 have hap:∀i,i<n→Ap k (p' i).c1 (p' i).a1∧Ap k (p' i).c2 (p' i).a2:=fun i hi=>⟨(h3 i hi).top.ap_not hd,(h3 i hi).low.ap_not hd⟩
 have htm:∀q,RdP w a n c q→(∀i,i<n→Ap k (q i).c1 (q i).a1∧Ap k (q i).c2 (q i).a2)→RdP w' a n c q:=fun q hq hA=>⟨hq.cap,hq.few,hq.top,fun i hi=>by
  have hr:=hq.tm i hi;obtain ⟨k1,k2⟩:=hA i hi;exact ⟨hr.top.ap (k1.few hr.top.cap) hg,hr.low.ap (k2.few hr.low.cap) hg,hr.s0,hr.s1,hr.s2,hr.s3⟩,hcell q hq⟩
 refine ⟨⟨h.len,h.base,h.nl,p,htm p hp (fun i hi=>?_),hx⟩,⟨?_,p',o,t,htm p' h1 hap,h2,fun i hi=>?_⟩⟩
 ·obtain ⟨s1,s2,s3,s4⟩:=hsame i hi;rw [s1,s2,s3,s4];exact hap i hi
 ·refine ho.row.imp id fun⟨b,cur,e1,e2,e3,e4⟩=>⟨b,cur,e1,e2,?_,e4⟩
  rw [hg.block b (Ar.1 e3).1 (fun e=>by
   have e:b=k:=by simpa using e
   subst e;exact ht cur e3)]
  exact e3
 ·obtain ⟨k1,k2⟩:=hap i hi;exact ⟨(h3 i hi).top.off_ap k1 hg,(h3 i hi).low.off_ap k2 hg,(h3 i hi).ap,(h3 i hi).m1,(h3 i hi).m2⟩
theorem Kd {w:World} {base base':Nat} {e:TypeId} {size:Nat} {v:Value} {n:Nat} {xs:List Value} (h:w.ownsRow base e size v n xs) (hb:base'≤base):w.ownsRow base' e size v n xs:=by
 exact qDa
structure Gg (w:World) (B B':Nat) (v:Value) (L:List (Δ)):Prop where
 ex:∃xs:List Value,w.ownsRow B 25 1 v L.length xs∧∀(i:Nat) (l:Δ),L[i]? = some l→∃a n c,xs[i]? = some (Value.slice a n c)∧Bd w B' a n c l∧Bm w B' a n c
theorem Gg.nil (w:World) (B B':Nat):Gg w B B' (.slice none 0 0) []:=⟨[],World.ownsRow_nil _ _ _ _,fun i l hl=>by simp at hl⟩
theorem Gg.keep {w w':World} {B B':Nat} {v:Value} {L:List (Δ)} (h:Gg w B B' v L) (hb:Below w.heap.size w w'):Gg w' B B' v L:=by
 obtain ⟨xs,h1,h2⟩:=h.ex;refine ⟨xs,Bo h1 hb,fun i l hl=>?_⟩;obtain ⟨a,n,c,e,hp,ho⟩:=h2 i l hl;exact ⟨a,n,c,e,hp.keep hb,ho.keep hb⟩
theorem Gg.next {w w':World} {B B' n c:Nat} {v v':Value} {xs:List Value} {L:List (Δ)} {a:Γ} {l:Δ} (hown:w.ownsRow B 25 1 v L.length xs) (hxs:∀(i:Nat) (l:Δ),L[i]? = some l→∃a n c,xs[i]? = some (Value.slice a n c)∧Bd w B' a n c l∧Bm w B' a n c)
  (hp:Bd w B' a n c l) (ho:Bm w B' a n c) (hown':w'.ownsRow B 25 1 v' (L.length+1) (xs++[Value.slice a n c])) (hg:w.grownBy w' v.ownBlock):Gg w' B B' v' (L++[l]):=by
 have hlx:xs.length=L.length:=by simpa using hown.1
 have hk:∀a n c l,Bd w B' a n c l→Bm w B' a n c→Bd w' B' a n c l∧Bm w' B' a n c:=by
  intro a n c l hp ho;rcases hown.2 with ⟨rfl,_⟩|⟨g,cap,cur,rfl,_,hcur,_⟩
  ·exact ⟨hp.butR hg (fun k e=>by cases e),ho.butR hg (fun k e=>by cases e)⟩
  ·exact X7 hp ho (fun cur' e=>by rw [hcur] at e;simp at e) (fun cur' e=>by rw [hcur] at e;simp at e) hg
 refine ⟨xs++[.slice a n c],by simpa using hown',fun i l' hl=>?_⟩;by_cases hi:i<L.length
 ·rw [Az hi] at hl;obtain ⟨a',n',c',e,hp',ho'⟩:=hxs i l' hl;exact ⟨a',n',c',by rw [Az qA];exact e,hk _ _ _ _ hp' ho'⟩
 ·obtain ⟨hlt,-⟩:=List.getElem?_eq_some_iff.1 hl;have:i=L.length:=by simp at hlt;omega
  subst this;rw [A5 (Ad _)] at hl;simp at hl;subst hl;exact ⟨a,n,c,by rw [A5 qA];simp [hlx],hk _ _ _ _ hp ho⟩
def dW (w:World) (B':Nat) (L:List (Δ)) (e:Ending) (w':World):Prop:=∃v,e=.returned v∧Gg w' w.heap.size B' v L∧Below w.heap.size w w'
section
variable {α:Type} {F:Fence} {n:Nat} {P:Program}
def SeqW (F:Fence) (n:Nat) (P:Program) (g:Nat) (lb:Array Value) (encs:α→Array Value) (Ok:List α→α→World→Prop) (Kp:World→World→Prop) (S:List α→World→Prop) (w:World):Prop :=
 ∀(l:Nat) (J:List α→World→Prop) (W:World),Below w.heap.size w W→AbidesFrom W.heap.size J →
  (∀pre x W1,J pre W1→Ok pre x W1→YieldAt F (n-1) P l (encs x) W1 fun e W'=>e=.returned (.bool true)∧J (pre++[x]) W'∧Kp W1 W') →
  J [] W→CallsIn F n P g (#[.func (.yield l) #[] #[]]++lb) W fun e W'=>(∃v,e=.returned v)∧∃xs,S xs W'∧J xs W'
def nV (B:Nat) (Kp:World→World→Prop) (I:List α→World→Prop) (xs:List α) (W:World) (e:Exit) (_:Act) (W':World):Prop:=e=.normal∧KeepsFrom B W W'∧Kp W W'∧I xs W'
theorem Qg {g:Operand} {ps:Array Tmp} {assign body:Code} {Q:Exit→Act→World→Prop} {a:Act} {w:World} (hro:F.round=none) (h1:1≤n) {gf:Nat} {lb:Array Value} (hg:a.eval g=.func (.func gf) #[] lb) (hFg:F.fn gf) (eg:∀args w,(callFunc gf args).run P w=.ok (.enter gf args) w)
  {encs:α→Array Value} {Ok:List α→α→World→Prop} {Kp:World→World→Prop} {S:List α→World→Prop} (hseq:SeqW F (n-1) P gf lb encs Ok Kp S w) (hps:∀x,(encs x).size=ps.size)
  (hKt:∀{A B C:World},Kp A B→Kp B C→Kp A C) (hKb:∀(W:World) (l:Nat) (o o':Obj),w.heap.size≤l→W.heap[l]? = some o→o.isCells=false→o.isWalk=false→Kp W (W.putObj l o'))
  (hOk:∀pre x (W:World) (l:Nat) (o o':Obj),w.heap.size≤l→W.heap[l]? = some o→o.isCells=false→Ok pre x W→Ok pre x (W.putObj l o')) (hS:∀xs (W:World) (l:Nat) (o o':Obj),w.heap.size≤l→W.heap[l]? = some o→o.isCells=false→S xs W→S xs (W.putObj l o'))
  (I:List α→World→Prop) (hI:OwnFrom w.heap.size I) (h0:I [] w) (a₁:α→Act)
  (hassign:∀(l:Nat) (x:α) (W:World) (K:Act→World→Prop),K (a₁ x) W→assign.wpIn (F.inRound l) (n-1-1) P (Exit.then K (fun _ _ _=>False)) { tmps:=(ps.zip (encs x)).foldl (fun t (p,v)=>t.setIfInBounds p v) a.tmps,defers:=[] } W)
  (hbody:∀(l:Nat) (pre:List α) (x:α) (W:World),I pre W→Ok pre x W→body.wpIn (F.inRound l) (n-1-1) P (nV w.heap.size Kp I (pre++[x]) W) (a₁ x) W)
  (hdone:∀(D:Nat) (xs:List α) (W:World),w.heap.size≤D→S xs W→I xs W→W.heap[D]? = some (.deferred (some []))→Q .normal { a with defers:={ target:=.collected D,args:=#[] }::a.defers } W) :
  (Code.rangeFunc g ps assign body).wpIn F n P Q a w:=by
 refine wpIn_rangeFunc ?_;intro fn hfn;rw [hro]
 -- the loop's own record, in the state it is in, and the two blocks that are laid for it
 let D:=w.heap.size
 let L:=w.heap.size+1
 let rec':LoopState→Option Code→Loop:=fun st pe=>{ state:=st,pending:=pe,fn,tmps:=a.tmps,params:=ps,assign,body,defers:=D }
 let V:=(w.alloc (.deferred (some []))).alloc (.loop (rec' .ready none))
 have vL:V.heap[L]? = some (.loop (rec' .ready none)):=by
  exact qDi
 have vD:V.heap[D]? = some (.deferred (some [])):=(Below.heap_alloc _ _ _ (by simp [D])).trans (World.alloc_heap_new w _);have vB:Below w.heap.size w V:=((Ac _ w).alloc (Ad _) _).alloc qG _;refine ⟨L,[{ target:=.collected D,args:=#[] }],V,{ target:=.fn (.func gf) lb,args:=#[.func (.yield L) #[] #[]] },V,gf,#[.func (.yield L) #[] #[]]++lb,V,run_enterLoop_outer _ _ _ _ _,?_,?_,?_,fun _=>h1,?_⟩
 ·simp only [resolve,hg];simp [go_sem]
 ·intro f' hf';simp [Target.leads] at hf';subst hf';exact hFg
 ·simp [invoke,go_sem,eg]
 refine (hseq L (fun pre W=>I pre W∧W.heap[L]? = some (.loop (rec' .ready none))∧W.heap[D]? = some (.deferred (some []))) V vB ?_ ?_ ⟨hI.alloc _ (hI.alloc _ h0),vL,vD⟩).mono ?_
 · -- the three facts abide what the iterator does
  intro s A B row hs hgr hr;have hc:∀r,row=some r→∃o:Obj,A.heap[r]? = some o∧o.isCells=false:=fun r e=>by
   obtain ⟨_,o,ho,hw⟩:=hr r e;exact ⟨o,ho,Obj.not_cells_of_walk hw⟩
  have hw:∀r,row=some r→∃o:Obj,A.heap[r]? = some o∧o.isWalk=true:=fun r e=>(hr r e).2
  exact ⟨hI s A B row hs.1 hgr (fun r e=>⟨by have:=(hr r e).1;have:=vB.size;omega,hc r e⟩),(grownBy_keeps hgr hw hs.2.1 rfl).trans hs.2.1,(grownBy_keeps hgr hw hs.2.2 rfl).trans hs.2.2⟩
 · -- a round
  rintro pre x W ⟨hi,hl,hd⟩ hok;have hlt:L<W.heap.size:=(Ar.1 hl).1;refine ⟨fn,_,assign,body,run_yield (P:=P) (args:=encs x) hl (hps x),roundIn_of_wpIn hfn (hassign _ x W _ ⟨_,run_beginRound hl rfl,?_⟩)⟩;generalize hX:W.putObj L (.loop { rec' .ready none with state:=.busy })=X;have xL:X.heap[L]? = some (.loop { rec' .ready none with state:=.busy }):=by rw [←hX];exact Bb hlt
  have xD:X.heap[D]? = some (.deferred (some [])):=by rw [←hX];exact (World.putObj_heap_other (by show D≠L;simp [L,D])).trans hd
  have xK:Kp W X:=by rw [←hX];exact hKb _ _ _ _ (by simp [L]) hl rfl rfl
  have xI:I pre X:=by rw [←hX];exact hI.putObj _ hi (by simp [L]) hl rfl
  have xO:Ok pre x X:=by rw [←hX];exact hOk _ _ _ _ _ _ (by simp [L]) hl rfl hok
  clear hX;refine wpIn_mono (hbody _ pre x X xI xO) ?_;rintro e b Y ⟨rfl,hkf,hkp,hi'⟩;have yL:=hkf.same _ _ (by simp [L]) xL rfl;have yD:=hkf.same _ _ (Ad _) xD rfl;have hr:=run_endRound (P:=P) none yL;exact ⟨_,_,hr,rfl,⟨hI.putObj _ hi' (by simp [L]) yL rfl,Bb (Ar.1 yL).1,(World.putObj_heap_other (by show D≠L;simp [L,D])).trans yD⟩,hKt (hKt xK hkp) (hKb _ _ _ _ (by simp [L]) yL rfl rfl)⟩
 · -- behind the iterator
  rintro e Y ⟨⟨v,rfl⟩,xs,hs,hi,hl,hd⟩;exact ⟨none,_,run_endLoop (P:=P) hl (by simp [rec']),hdone _ xs _ (Ad _) (hS _ _ _ _ _ (by simp [L]) hl rfl hs) (hI.putObj _ hi (by simp [L]) hl rfl) ((World.putObj_heap_other (by show D≠L;simp [L,D])).trans hd)⟩
end
section
variable {F:Fence} {n:Nat} {P:Program}
def sX (F:Fence) (n:Nat) (P:Program) (g:Nat) (lb:Array Value) (enc:Array Value) (T:World→World→Prop) (w:World):Prop :=
 ∀(l:Nat) (J:World→Prop) (W:World),Below w.heap.size w W →
  (∀W1,T W W1→YieldAt F (n-1) P l enc W1 fun e W'=>e=.returned (.bool false)∧J W') →
  CallsIn F n P g (#[.func (.yield l) #[] #[]]++lb) W fun e W'=>(∃v,e=.returned v)∧∃W0,Below W0.heap.size W0 W'∧J W0
def fI (B:Nat) (Ix:World→Prop) (W:World) (e:Exit) (_:Act) (W':World):Prop:=e=.ret∧KeepsFrom B W W'∧Ix W'
theorem Mm {g:Operand} {ps:Array Tmp} {assign body:Code} {Q:Exit→Act→World→Prop} {a:Act} {w:World} (hro:F.round=none) (h1:1≤n) {gf:Nat} {lb:Array Value} (hg:a.eval g=.func (.func gf) #[] lb) (hFg:F.fn gf) (eg:∀args w,(callFunc gf args).run P w=.ok (.enter gf args) w)
  {enc:Array Value} {T:World→World→Prop} (hseq:sX F (n-1) P gf lb enc T w) (hps:enc.size=ps.size) (hT:∀W W1,T W W1→KeepsFrom w.heap.size W W1)
  (Ax:Act→World→Prop) (Ix:World→Prop) (hAx:∀a',OwnFrom w.heap.size (fun (_:Unit) W=>Ax a' W)) (hIx:OwnFrom w.heap.size (fun (_:Unit) W=>Ix W)) (hIb:∀A B:World,Below A.heap.size A B→Ix A→Ix B)
  (hassign:∀(l:Nat) (W W1:World) (K:Act→World→Prop),Below w.heap.size w W→T W W1→(∀a' W2,KeepsFrom w.heap.size W1 W2→Ax a' W2→K a' W2) →
   assign.wpIn (F.inRound l) (n-1-1) P (Exit.then K (fun _ _ _=>False)) { tmps:=(ps.zip enc).foldl (fun t (p,v)=>t.setIfInBounds p v) a.tmps,defers:=[] } W1)
  (hbody:∀(l:Nat) (a':Act) (W:World),w.heap.size≤l→(∃r,W.heap[l]? = some (.loop r))→Ax a' W→body.wpIn (F.inRound l) (n-1-1) P (fI w.heap.size Ix W) a' W)
  (hstop:∀(D:Nat) (W:World),w.heap.size≤D→Ix W→W.heap[D]? = some (.deferred (some []))→Code.ret.wpIn F n P Q { a with defers:={ target:=.collected D,args:=#[] }::a.defers } W) :
  (Code.rangeFunc g ps assign body).wpIn F n P Q a w:=by
 refine wpIn_rangeFunc ?_;intro fn hfn;rw [hro]
 let D:=w.heap.size
 let L:=w.heap.size+1
 let rec':LoopState→Option Code→Loop:=fun st pe=>{ state:=st,pending:=pe,fn,tmps:=a.tmps,params:=ps,assign,body,defers:=D }
 let V:=(w.alloc (.deferred (some []))).alloc (.loop (rec' .ready none))
 have vL:V.heap[L]? = some (.loop (rec' .ready none)):=by
  exact qDi
 have vD:V.heap[D]? = some (.deferred (some [])):=(Below.heap_alloc _ _ _ (by simp [D])).trans (World.alloc_heap_new w _);have vB:Below w.heap.size w V:=((Ac _ w).alloc (Ad _) _).alloc qG _;refine ⟨L,[{ target:=.collected D,args:=#[] }],V,{ target:=.fn (.func gf) lb,args:=#[.func (.yield L) #[] #[]] },V,gf,#[.func (.yield L) #[] #[]]++lb,V,run_enterLoop_outer _ _ _ _ _,?_,?_,?_,fun _=>h1,?_⟩
 ·simp only [resolve,hg];simp [go_sem]
 ·intro f' hf';simp [Target.leads] at hf';subst hf';exact hFg
 ·simp [invoke,go_sem,eg]
 refine (hseq L (fun W=>Ix W∧W.heap[L]? = some (.loop (rec' .done (some .ret)))∧W.heap[D]? = some (.deferred (some []))) V vB ?_).mono ?_
 · -- the round
  intro W hTW;have hkT:=hT _ _ hTW;have hl:=hkT.same _ _ (by simp [L]) vL rfl;have hd:=hkT.same _ _ (Ad _) vD rfl;refine ⟨fn,_,assign,body,run_yield (P:=P) (args:=enc) hl hps,roundIn_of_wpIn hfn (hassign _ V W _ vB hTW ?_)⟩;intro a' W2 hk2 hax;have hl2:=hk2.same _ _ (by simp [L]) hl rfl;have hd2:=hk2.same _ _ (Ad _) hd rfl;have hlt:L<W2.heap.size:=(Ar.1 hl2).1;refine ⟨_,run_beginRound hl2 rfl,?_⟩;generalize hX:W2.putObj L (.loop { rec' .ready none with state:=.busy })=X;have xL:X.heap[L]? = some (.loop { rec' .ready none with state:=.busy }):=by rw [←hX];exact Bb hlt
  have xD:X.heap[D]? = some (.deferred (some [])):=by rw [←hX];exact (World.putObj_heap_other (by show D≠L;simp [L,D])).trans hd2
  have xA:Ax a' X:=by rw [←hX];exact (hAx a').putObj (s:=()) _ hax (by simp [L]) hl2 rfl
  clear hX;refine wpIn_mono (hbody _ a' X (by simp [L]) ⟨_,xL⟩ xA) ?_;rintro e b Y ⟨rfl,hkf,hi'⟩;have yL:=hkf.same _ _ (by simp [L]) xL rfl;have yD:=hkf.same _ _ (Ad _) xD rfl;have hr:=run_endRound (P:=P) (some .ret) yL;exact ⟨_,_,hr,rfl,hIx.putObj (s:=()) _ hi' (by simp [L]) yL rfl,Bb (Ar.1 yL).1,(World.putObj_heap_other (by show D≠L;simp [L,D])).trans yD⟩
 ·rintro e Y ⟨⟨v,rfl⟩,W0,hb,hi,hl,hd⟩;have hl':Y.heap[L]? = some (.loop (rec' .done (some .ret))):=(hb.block L (Ar.1 hl).1).trans hl;have hd':Y.heap[D]? = some (.deferred (some [])):=(hb.block D (Ar.1 hd).1).trans hd;exact ⟨some .ret,_,run_endLoop (P:=P) hl' (by simp [rec']),hstop D _ (Ad _) (hIx.putObj (s:=()) _ (hIb _ _ hb hi) (by simp [L]) hl' rfl) ((World.putObj_heap_other (by show D≠L;simp [L,D])).trans hd')⟩
theorem Lc {g:Operand} {ps:Array Tmp} {assign body:Code} {Q:Exit→Act→World→Prop} {a:Act} {w:World} {l₀:Nat} {r₀:Loop} (hro:F.round=some l₀) (hl₀:w.heap[l₀]? = some (.loop r₀)) (h1:1≤n) {gf:Nat} {lb:Array Value} (hg:a.eval g=.func (.func gf) #[] lb) (hFg:F.fn gf) (eg:∀args w,(callFunc gf args).run P w=.ok (.enter gf args) w)
  {enc:Array Value} {T:World→World→Prop} (hseq:sX F (n-1) P gf lb enc T w) (hps:enc.size=ps.size) (hT:∀W W1,T W W1→KeepsFrom w.heap.size W W1)
  (Ax:Act→World→Prop) (Ix:World→Prop) (hAx:∀a',OwnFrom w.heap.size (fun (_:Unit) W=>Ax a' W)) (hIx:OwnFrom w.heap.size (fun (_:Unit) W=>Ix W)) (hIb:∀A B:World,Below A.heap.size A B→Ix A→Ix B)
  (hassign:∀(l:Nat) (W W1:World) (K:Act→World→Prop),Below w.heap.size w W→T W W1→(∀a' W2,KeepsFrom w.heap.size W1 W2→Ax a' W2→K a' W2) →
   assign.wpIn (F.inRound l) (n-1-1) P (Exit.then K (fun _ _ _=>False)) { tmps:=(ps.zip enc).foldl (fun t (p,v)=>t.setIfInBounds p v) a.tmps,defers:=[] } W1)
  (hbody:∀(l:Nat) (a':Act) (W:World),w.heap.size≤l→(∃r,W.heap[l]? = some (.loop r))→Ax a' W→body.wpIn (F.inRound l) (n-1-1) P (fI w.heap.size Ix W) a' W)
  (hstop:∀(W:World),Ix W→Code.ret.wpIn F n P Q a W) :
  (Code.rangeFunc g ps assign body).wpIn F n P Q a w:=by
 refine wpIn_rangeFunc ?_;intro fn hfn;rw [hro]
 let L:=w.heap.size
 let rec':LoopState→Option Code→Loop:=fun st pe=>{ state:=st,pending:=pe,fn,tmps:=a.tmps,params:=ps,assign,body,defers:=r₀.defers }
 let V:=w.alloc (.loop (rec' .ready none))
 have vL:V.heap[L]? = some (.loop (rec' .ready none)):=World.alloc_heap_new w _;have vB:Below w.heap.size w V:=(Ac _ w).alloc (Ad _) _;refine ⟨L,[],V,{ target:=.fn (.func gf) lb,args:=#[.func (.yield L) #[] #[]] },V,gf,#[.func (.yield L) #[] #[]]++lb,V,run_enterLoop_inner hl₀ _ _ _ _ _,?_,?_,?_,fun _=>h1,?_⟩
 ·simp only [resolve,hg];simp [go_sem]
 ·intro f' hf';simp [Target.leads] at hf';subst hf';exact hFg
 ·simp [invoke,go_sem,eg]
 refine (hseq L (fun W=>Ix W∧W.heap[L]? = some (.loop (rec' .done (some .ret)))) V vB ?_).mono ?_
 · -- the round
  intro W hTW;have hkT:=hT _ _ hTW;have hl:=hkT.same _ _ (Ad _) vL rfl;refine ⟨fn,_,assign,body,run_yield (P:=P) (args:=enc) hl hps,roundIn_of_wpIn hfn (hassign _ V W _ vB hTW ?_)⟩;intro a' W2 hk2 hax;have hl2:=hk2.same _ _ (Ad _) hl rfl;have hlt:L<W2.heap.size:=(Ar.1 hl2).1;refine ⟨_,run_beginRound hl2 rfl,?_⟩;generalize hX:W2.putObj L (.loop { rec' .ready none with state:=.busy })=X;have xL:X.heap[L]? = some (.loop { rec' .ready none with state:=.busy }):=by rw [←hX];exact Bb hlt
  have xA:Ax a' X:=by rw [←hX];exact (hAx a').putObj (s:=()) _ hax (Ad _) hl2 rfl
  clear hX;refine wpIn_mono (hbody _ a' X (Ad _) ⟨_,xL⟩ xA) ?_;rintro e b Y ⟨rfl,hkf,hi'⟩;have yL:=hkf.same _ _ (Ad _) xL rfl;have hr:=run_endRound (P:=P) (some .ret) yL;exact ⟨_,_,hr,rfl,hIx.putObj (s:=()) _ hi' (Ad _) yL rfl,Bb (Ar.1 yL).1⟩
 ·rintro e Y ⟨⟨v,rfl⟩,W0,hb,hi,hl⟩;have hl':Y.heap[L]? = some (.loop (rec' .done (some .ret))):=(hb.block L (Ar.1 hl).1).trans hl;exact ⟨some .ret,_,run_endLoop (P:=P) hl' (by simp [rec']),hstop _ (hIx.putObj (s:=()) _ (hIb _ _ hb hi) (Ad _) hl' rfl)⟩
end
end Go.Proofs.YtnnhcbeiogaknaaGreatDoor
end
section
namespace Go.Proofs.YtnnhcbeiogaknaaGreatDoor
open Go.RowKit Go.Shelf
attribute [local go_sem] Oper.semAt_some
theorem oZ (w:World) (g:Bool) (a:Γ) (n c:Nat) (z:Int) (h:Bh w g a n c z) (h0:z<0) (h2:n≤2) :
  Θ 108 #[.agg #[.bool g,.slice a n c]] w (W9 w z):=by
 have HB:=Ac w.heap.size w;have ho:=Ae h.okay;refine (callsIn_wide (n:=3)).1 ?_;refine callsIn_of_wp_marks Tryz.func108 rfl trivial ?_ rfl;refine wpIn_wide.2 ?_;simp only [Tryz.ntmps108,List.size_toArray,List.length_cons,List.length_nil,Nat.reduceAdd,Nat.reduceSub,Array.replicate_succ,Array.replicate_zero,List.push_toArray,List.append_toArray,List.nil_append,List.cons_append];have hzb:-1000000000000000000<z:=by
  exact qCk
 have hg:g=true:=by rw [h.neg];simp;omega
 subst hg;have hcm1:Bz z (-9223372036854775808)=1:=Ee qA;have hcm2:Bz z 9223372036854775807=-1:=Dx qA;go_wp2_with fail;refine (Cy _ _ _ _ _ (dg z.natAbs) (h.rd.keep qF) true ⟨fun _=>rfl,fun _=>ho.out⟩).mono ?_;rintro e w1 ⟨rfl,hb⟩;obtain ⟨hc,hf⟩:=Bl hb;have hz:=hb.size;(try simp only [Aj,Ak] at hz);replace HB:=zI w hb;obtain ⟨s0_0,s0_1⟩:=qZ hc (w.heap.size) (.bool true) (.slice a n c);clear hc hf hb;go_wp2_with fail;go_region_held3 (fun W=>W.cell? ⟨w.heap.size,0,none⟩=some (.bool true)∧W.cell? ⟨w.heap.size,1,none⟩=some (.slice a n c)) (first|((try dsimp only);(repeat' apply Ay);all_goals (first|(with_reducible assumption)|(go_keep;done)|(simp [*,go_sem];done)))) (first
  | (go_at_call 40;(with_reducible refine (Qt _ (-9223372036854775808) qA qA).mono ?_);rintro e w2 ⟨g2,a2,n2,c2,rfl,hm,_,hb⟩;have hB2:=Al (by go_grown:Below w1.heap.size w1 _) (hb.mono qB);have s0_0:=Bc hB2 s0_0;have s0_1:=Bc hB2 s0_1;replace HB:=Al HB (hB2.mono HB.size);have hz2:=hB2.size)
  | (go_at_call 40;(with_reducible refine (Qt _ 9223372036854775807 qA qA).mono ?_);rintro e w2 ⟨g2,a2,n2,c2,rfl,hm2,_,hb⟩;have hB2:=Al (by go_grown:Below w3.heap.size w3 _) (hb.mono qB);have s0_0:=Bc hB2 s0_0;have s0_1:=Bc hB2 s0_1;replace HB:=Al HB (hB2.mono HB.size);have hz2:=hB2.size)
  | (go_at_call 63;(with_reducible refine (S9 _ _ _ _ _ _ (h.keep qF) _ _ _ _ (-9223372036854775808) (hm.keep qF)).mono ?_);rintro e w3 ⟨rfl,hb⟩;clear hm;rw [hcm1];have hB2:=Al (by go_grown:Below w2.heap.size w2 _) (hb.mono qB);have s0_0:=Bc hB2 s0_0;have s0_1:=Bc hB2 s0_1;replace HB:=Al HB (hB2.mono HB.size);have hz3:=hB2.size)
  | (go_at_call 63;(with_reducible refine (S9 _ _ _ _ _ _ (h.keep qF) _ _ _ _ 9223372036854775807 (hm2.keep qF)).mono ?_);rintro e w4 ⟨rfl,hb⟩;rw [hcm2];have hB2:=Al (by go_grown:Below w2.heap.size w2 _) (hb.mono qB);have s0_0:=Bc hB2 s0_0;have s0_1:=Bc hB2 s0_1;replace HB:=Al HB (hB2.mono HB.size);have hz3:=hB2.size))
 have hk0:w.heap.size<w4.heap.size:=by omega
 go_wp2_with fail;refine (Tv _ _ _ _).mono ?_;rintro e w5 ⟨rfl,rfl⟩;go_wp2_with fail;have hlow:n=0∨∃b o,a=some ⟨b,o,none⟩∧b<w4.heap.size:=by
  exact qBx
 have bP:=Boxed.new w4 2 (.int .i64 0);have bS:=Boxed.new (w4.alloc (.cells #[.int .i64 0] 2)) 30 (.slice a n c);rw [Aj] at bS;have hB0:Below w4.heap.size w4 ((w4.alloc (.cells #[.int .i64 0] 2)).alloc (.cells #[.slice a n c] 30)):=((Ac _ w4).alloc (Ad _) _).alloc qG _;have hrd:=h.rd.keep (HB.trans (hB0.mono HB.size));have bPc:((w4.alloc (.cells #[.int .i64 0] 2)).alloc (.cells #[.slice a n c] 30)).cell? ⟨w4.heap.size,0,none⟩=some (.int .i64 0):=(bP.alloc _).cell;have bPf:((w4.alloc (.cells #[.int .i64 0] 2)).alloc (.cells #[.slice a n c] 30)).frozen? ⟨w4.heap.size,0,none⟩=false:=(bP.alloc _).frozen;have bSc:=bS.cell;have hsz0:((w4.alloc (.cells #[.int .i64 0] 2)).alloc (.cells #[.slice a n c] 30)).heap.size=w4.heap.size+2:=by simp
 generalize ((w4.alloc (.cells #[.int .i64 0] 2)).alloc (.cells #[.slice a n c] 30))=w5 at *;clear bP bS;refine (wpIn_wide (n:=3)).1 ?_;refine wpIn_rangeFunc_ownG (F:=Fence.wide) rfl qA (gf:=241) (lb:=#[.pointer (some ⟨w4.heap.size+1,0,none⟩)]) rfl trivial (enters_of Tryz.func241 qC rfl)
  (Ln Fence.wide 2 trivial rfl qA (w4.heap.size+1) w4.heap.size a n c (dg z.natAbs) w5 qA qA bSc hrd hlow)
  (fun h1 h2=>KpB.trans h1 h2)
  (fun W l o o' hl ho hc1 hc2=>⟨belowK_b qA W l o o' hl ho hc1 hc2,Af (World.putObj_heap_other (fun e=>by have e:w4.heap.size+1=l:=e;omega))⟩)
  (Ac _ _) (fun _=>rfl)
  (fun pre W=>(W.cell? ⟨w4.heap.size,0,none⟩=some (.int .i64 (bk pre))∧W.frozen? ⟨w4.heap.size,0,none⟩=false)∧Below w4.heap.size w4 W)
  (fun _ _ _=>False)
  (OwnFrom.and (Own.from (fun s A B row hs hg hr=>⟨cell_kept hs.1 hg hr,(frozen_kept hs.1 hg hr).trans hs.2⟩) _) (ownFrom_below qA qA))
  (fun _ _ _ _ _ hs _ _=>hs)
  ⟨⟨bPc,bPf⟩,hB0⟩ ?a1 ?assign ?body ?done ?stop
 case assign =>
  intro l x W K hK
  gi_wp2
  exact hK
 case body =>
  exact qBd
 case done =>
  rintro D ys W hD rfl ⟨⟨hc,hf⟩,hB⟩ hK;rw [tG _ (Ew _) h.rd.len h2,Bq] at hc;have hneg:-((z.natAbs:Nat):Int)=z:=by omega
  rw [hneg] at hc;have hnw:IntKind.i64.wrap z=z:=IntWalk.i64_in _ qA;have s0:=Bc hB s0_0;go_wp2_with fail;refine ⟨by simp,.inl ⟨_,_,rfl,run_takeDeferred hK,?_⟩⟩;refine ⟨.tuple #[.int .i64 z,.int .i64 0],?_,rfl,?_⟩
  ·simp [results,Tryz.results108,go_sem]
  ·exact (HB.trans (hB.mono HB.size)).trans (belowK_b (w:=w) (Ad _) _ D _ _ qA hK rfl rfl)
 case stop =>
  rintro D c pre W _ _ h _;exact h.elim
end Go.Proofs.YtnnhcbeiogaknaaGreatDoor
end
section
namespace Go.Proofs.YtnnhcbeiogaknaaGreatDoor
open Go.RowKit
def Uj (w:World) (k:Nat):Prop:=(∃cur,w.heap[k]? = some (.cells cur 79 (0,0)))∨∃cur,w.heap[k]? = some (.cells cur 147 (0,0))
structure KpT (w w':World):Prop where
 os:w'.os=w.os
 tape:w'.tape=w.tape
 output:w'.output=w.output
 size:w.heap.size≤w'.heap.size
 block:∀k,Uj w k→w'.heap[k]? = w.heap[k]?
theorem KpT.trans {a b c:World} (h:KpT a b) (h':KpT b c):KpT a c :=
 ⟨h'.os.trans h.os,h'.tape.trans h.tape,h'.output.trans h.output,Ah h.size h'.size,fun k hk=>by
  have e:=h.block k hk;exact (h'.block k (hk.imp (fun⟨cur,x⟩=>⟨cur,e.trans x⟩) (fun⟨cur,x⟩=>⟨cur,e.trans x⟩))).trans e⟩
theorem Uj.lt {w:World} {k:Nat} (h:Uj w k):k<w.heap.size:=by
 rcases h with ⟨cur,h⟩|⟨cur,h⟩<;>exact (Ar.1 h).1
theorem KpT.of_grown {w w':World} {row:Option Nat} (h:w.grownBy w' row) (hr:∀k,row=some k→¬Uj w k):KpT w w' :=
 ⟨h.os,h.tape,h.output,h.size,fun k hk=>h.block k hk.lt (fun e=>hr k e.symm hk)⟩
theorem KpT.of_below {w w':World} (h:Below w.heap.size w w'):KpT w w':=.of_grown (Bt h) (fun k e=>by cases e)
theorem KpT.putObj {w:World} {l:Nat} {o o':Obj} (h:w.heap[l]? = some o) (hc:o.isCells=false):KpT w (w.putObj l o') :=
 .of_grown (grownBy_putObj' w l o') (fun k e hk=>by
  cases e
  rcases hk with ⟨cur,hk⟩|⟨cur,hk⟩<;>(rw [h] at hk;cases hk;simp [Obj.isCells] at hc))
theorem RdL.kp {w w':World} {B n c:Nat} {a:Γ} {d:Ξ} (h:RdL w a n c d) (hf:Bg B w a c) (hk:KpT w w'):RdL w' a n c d:=by
 refine ⟨h.len,h.cap,h.few,h.top,h.small,?_⟩;rcases h.cell with h0|⟨b,o,rfl,hc⟩
 ·exact .inl h0
 ·rcases hf with rfl|⟨b',cur,e,_,hh,_⟩
  ·exact .inl (by have:=h.cap;omega)
  ·cases e
   exact .inr ⟨b,0,rfl,fun i hi=>(Af (hk.block b (.inr ⟨cur,hh⟩))).trans (hc i hi)⟩
theorem Bg.kp {w w':World} {B c:Nat} {a:Γ} (h:Bg B w a c) (hk:KpT w w'):Bg B w' a c :=
 h.imp id fun⟨b,cur,h1,h2,h3,h4⟩=>⟨b,cur,h1,h2,(hk.block b (.inr ⟨cur,h3⟩)).trans h3,h4⟩
theorem Dz {w w':World} {B n c:Nat} {a:Γ} {l:Δ} (h:Bd w B a n c l) (ho:Bm w B a n c) (hk:KpT w w'):Bd w' B a n c l∧Bm w' B a n c:=by
 obtain ⟨p,hp,hx⟩:=h.ts;obtain ⟨p',o,t,h1,h2,h3⟩:=ho.ts;have hblk:n=0∨∀b o',a=some ⟨b,o',none⟩→w'.heap[b]? = w.heap[b]?:=by
  rcases ho.row with h0|⟨b,cur,e1,e2,e3,e4⟩
  ·exact .inl (by have:=hp.cap;omega)
  ·refine .inr fun b' o' e=>?_
   rw [e1] at e;cases e
   exact hk.block b (.inl ⟨cur,e3⟩)
 have hcell:∀q,RdP w a n c q→n=0∨∃b o,a=some ⟨b,o,none⟩∧∀i,i<n→Ll w' b (o+i*8) (q i):=by
  intro q hq;rcases hq.cell with h0|⟨b,o,ha,hc⟩
  ·exact .inl h0
  ·rcases hblk with h0|hr
   ·exact .inl h0
   ·refine .inr ⟨b,o,ha,fun i hi=>?_⟩;have f:∀j v,w.cell? ⟨b,j,none⟩=some v→w'.cell? ⟨b,j,none⟩=some v:=fun j v e=>(Af (hr b o ha)).trans e
    obtain ⟨c0,c1,c2,c3,c4,c5,c6,c7⟩:=hc i hi;exact ⟨f _ _ c0,f _ _ c1,f _ _ c2,f _ _ c3,f _ _ c4,f _ _ c5,f _ _ c6,f _ _ c7⟩
 have hsame:∀i,i<n→(p i).a1=(p' i).a1∧(p i).c1=(p' i).c1∧(p i).a2=(p' i).a2∧(p i).c2=(p' i).c2:=by
  exact qBj
 have htm:∀q,RdP w a n c q→(∀i,i<n→Bg B w (q i).a1 (q i).c1∧Bg B w (q i).a2 (q i).c2)→RdP w' a n c q:=fun q hq hA=>⟨hq.cap,hq.few,hq.top,fun i hi=>by
  have hr:=hq.tm i hi;obtain ⟨k1,k2⟩:=hA i hi;exact ⟨hr.top.kp k1 hk,hr.low.kp k2 hk,hr.s0,hr.s1,hr.s2,hr.s3⟩,hcell q hq⟩
 refine ⟨⟨h.len,h.base,h.nl,p,htm p hp (fun i hi=>?_),hx⟩,⟨?_,p',o,t,htm p' h1 (fun i hi=>⟨(h3 i hi).top,(h3 i hi).low⟩),h2,fun i hi=>⟨(h3 i hi).top.kp hk,(h3 i hi).low.kp hk,(h3 i hi).ap,(h3 i hi).m1,(h3 i hi).m2⟩⟩⟩
 ·obtain ⟨s1,s2,s3,s4⟩:=hsame i hi;rw [s1,s2,s3,s4];exact ⟨(h3 i hi).top,(h3 i hi).low⟩
 ·exact ho.row.imp id fun⟨b,cur,e1,e2,e3,e4⟩=>⟨b,cur,e1,e2,(hk.block b (.inl ⟨cur,e3⟩)).trans e3,e4⟩
end Go.Proofs.YtnnhcbeiogaknaaGreatDoor
end
