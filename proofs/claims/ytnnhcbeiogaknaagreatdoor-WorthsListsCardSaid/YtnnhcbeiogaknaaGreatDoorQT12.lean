/- Package monos: Compare of slices, lexical, orders, Cmp by OrLex; package polys: falls, Check. -/
import Derived.Test.YtnnhcbeiogaknaaGreatDoorQT9
set_option linter.unusedSimpArgs false
set_option linter.unusedVariables false
set_option maxRecDepth 100000
set_option maxHeartbeats 4000000
section
namespace Go.Proofs.YtnnhcbeiogaknaaGreatDoor
open Go.RowKit
def Ht (f g:Nat→Int):Int:=if f 0≠g 0 then Bz (f 0) (g 0) else if f 1≠g 1 then Bz (f 1) (g 1) else if f 2≠g 2 then Bz (f 2) (g 2) else if f 3≠g 3 then Bz (f 3) (g 3) else 0
theorem oF {f g:Nat→Int} {k:Nat} (hk:k<4) (h:∀j,j<k→f j=g j) (hne:f k≠g k):Ht f g=Bz (f k) (g k):=by
 unfold Ht
 match k,hk with
 | 0,_=>rw [if_pos hne]
 | 1,_=>rw [if_neg (by simp [h 0 qA]),if_pos hne]
 | 2,_=>rw [if_neg (by simp [h 0 qA]),if_neg (by simp [h 1 qA]),if_pos hne]
 | 3,_=>rw [if_neg (by simp [h 0 qA]),if_neg (by simp [h 1 qA]),if_neg (by simp [h 2 qA]),if_pos hne]
theorem rT {f g:Nat→Int} (h:∀j,j<4→f j=g j):Ht f g=0:=by
 unfold Ht;rw [if_neg (by simp [h 0 qA]),if_neg (by simp [h 1 qA]),if_neg (by simp [h 2 qA]),if_neg (by simp [h 3 qA])]
theorem Jp (w:World) (b b':Nat) (f g:Nat→Int) (hf:∀i,i<4→w.cell? ⟨b,i,none⟩=some (.int .u16 (f i))) (hg:∀i,i<4→w.cell? ⟨b',i,none⟩=some (.int .u16 (g i))) :
  Calls Tryz.prog 295 #[.slice (some ⟨b,0,none⟩) 4 4,.slice (some ⟨b',0,none⟩) 4 4] w fun e w'=>e=.returned (.int .i64 (Ht f g))∧w=w':=by
 go_enter Tryz.func295,Tryz.ntmps295;have HF:=Ae hf;have HG:=Ae hg;clear hf hg;go_wp2;go_loopw [11] (fun v wr=>∃k:Nat,k≤4∧v=.int .i64 k∧w=wr∧Hid (∀j,j<k→f j=g j)) (fun v _=>4-(intOf v).toNat)
 case atStart=>exact ⟨0,by omega,rfl,rfl,Ae (fun j hj=>by omega)⟩
 case round =>
  obtain ⟨k,hk,rfl,rfl,he⟩:=hrel;by_cases hlt:k<4
  ·have c1:=HF.out k hlt;have c2:=HG.out k hlt;by_cases hq:f k=g k
   ·have hc0:Bz (f k) (g k)=0:=by rw [hq,Eo]
    have HQ:=Ae hq;clear hq;go_wp2_with (go_at_call 344;refine (Pm _ _ _).mono ?_;rintro e w1 ⟨rfl,rfl⟩;rw [hc0]);go_roundw
    case rel=>exact ⟨k+1,by omega,by simp,by first|rfl|trivial,Ae (fun j hj=>by
     rcases Nat.lt_or_ge j k with h|h
     ·exact he.out j h
     ·obtain rfl:j=k:=by omega
      exact HQ.out)⟩
    case measure=>(first|(simp [intOf];omega)|(simp [intOf];done))
   ·have hc0:(Bz (f k) (g k)==0)=false:=by rw [beq_eq_false_iff_ne];exact fun e=>hq (G3.1 e)
    have HQ:=Ae hq;clear hq;go_wp2_with (go_at_call 344;refine (Pm _ _ _).mono ?_;rintro e w1 ⟨rfl,rfl⟩);go_ret;exact ⟨by rw [oF hlt he.out HQ.out];rfl,rfl⟩
  ·obtain rfl:k=4:=by omega
   go_wp2;go_ret;exact ⟨by rw [rT he.out];rfl,rfl⟩
theorem rD (W:World) (B clock:Nat) (es:Array MapEntry) (key:Int) (v:Value) (hb:W.heap[B]? = some (.map es clock)) (hf:Instr.findNow (.int .u8) (.int .u8 key) es.toList 0=some none) :
  (Instr.mapUpdate 271 (.map (some B)) (.int .u8 key) v).run Tryz.prog W=.ok () (W.putObj B (.map (es.push { key:=.int .u8 key,val:=v,born:=clock }) (clock+1))):=by
 have hc:(Instr.checkKey false 10000 214 (.int .u8 key)).run Tryz.prog W=.ok () W:=MapKept.run_checkKey (k:=.int .u8 key) Tryz.underlying214 (by simp [MapKept.IsKey]) false 9999;simp [Instr.mapUpdate,run_underlying Tryz.underlying271,MapKept.run_getObj_map hb,hc,MapKept.run_findKey Tryz.underlying214 hf,MapKept.run_setObj_map _ hb,Result.andThen,World.putObj]
theorem tE (W:World) (B clock:Nat) (es:Array MapEntry) (key:Int) (hb:W.heap[B]? = some (.map es clock)) (hf:Instr.findNow (.int .u8) (.int .u8 key) es.toList 0=some none) :
  (Instr.lookup 271 (.map (some B)) (.int .u8 key) false).run Tryz.prog W=.ok (.slice none 0 0) W:=by
 have hc:(Instr.checkKey es.isEmpty 10000 214 (.int .u8 key)).run Tryz.prog W=.ok () W:=MapKept.run_checkKey (k:=.int .u8 key) Tryz.underlying214 (by simp [MapKept.IsKey]) _ 9999;simp [Instr.lookup,run_underlying Tryz.underlying271,MapKept.run_getObj_map hb,hc,MapKept.run_findKey Tryz.underlying214 hf,Result.andThen,Tryz.zeroValue270]
theorem Ku {B:Nat} {w w':World} {r:Nat} (o:Obj) (h:Below B w w') (hr:B≤r):Below B w (w'.putObj r o) :=
 ⟨h.os,h.tape,h.output,by show w.heap.size≤(w'.heap.setIfInBounds r o).size;rw [Array.size_setIfInBounds];exact h.size,fun k hk=>by rw [World.putObj_heap_other qA];exact h.block k hk⟩
theorem Fl (w:World) (r:Nat) (o:Obj):(w.putObj r o).heap.size=w.heap.size:=by simp [World.putObj]
theorem iH (w:World) :
  Calls Tryz.prog 228 #[] w fun e w'=>(∃B es clock,e=.returned (.map (some B))∧w'.heap[B]? = some (.map es clock)∧Instr.findNow (.int .u8) (.int .u8 0) es.toList 0=some none)∧Below w.heap.size w w':=by
 have hmm:=@run_makeMap Tryz.prog;have hb1:((w.alloc (.map #[] 0)).alloc (.cells #[.func (.func 293) #[] #[],.func (.func 229) #[] #[]] 150)).heap[w.heap.size]? = some (.map #[] 0):=by
  rw [Below.heap_alloc _ _ _ qG];exact World.alloc_heap_new w _
 have q1:=rD _ _ _ _ 1 (.slice (some ⟨w.heap.size+1,0,none⟩) 2 2) hb1 rfl;have HB1:Below w.heap.size w ((w.alloc (.map #[] 0)).alloc (.cells #[.func (.func 293) #[] #[],.func (.func 229) #[] #[]] 150)):=by go_grown
 have hz1:((w.alloc (.map #[] 0)).alloc (.cells #[.func (.func 293) #[] #[],.func (.func 229) #[] #[]] 150)).heap.size=w.heap.size+2:=by simp
 have hb2:((((w.alloc (.map #[] 0)).alloc (.cells #[.func (.func 293) #[] #[],.func (.func 229) #[] #[]] 150)).putObj w.heap.size (.map #[{ key:=.int .u8 1,val:=.slice (some ⟨w.heap.size+1,0,none⟩) 2 2,born:=0 }] 1)).alloc (.cells #[.func (.func 293) #[] #[],.func (.func 294) #[] #[]] 150)).heap[w.heap.size]? = some (.map #[{ key:=.int .u8 1,val:=.slice (some ⟨w.heap.size+1,0,none⟩) 2 2,born:=0 }] 1):=by
  rw [Below.heap_alloc _ _ _ (by rw [Fl];omega),Ba qA]
 have q2:=rD _ _ _ _ 2 (.slice (some ⟨w.heap.size+2,0,none⟩) 2 2) hb2 rfl;have HB2:Below w.heap.size w ((((w.alloc (.map #[] 0)).alloc (.cells #[.func (.func 293) #[] #[],.func (.func 229) #[] #[]] 150)).putObj w.heap.size (.map #[{ key:=.int .u8 1,val:=.slice (some ⟨w.heap.size+1,0,none⟩) 2 2,born:=0 }] 1)).alloc (.cells #[.func (.func 293) #[] #[],.func (.func 294) #[] #[]] 150)):=Below.alloc (Ku _ HB1 (Ad _)) (by rw [Fl];omega) _;have hz2:w.heap.size<((((w.alloc (.map #[] 0)).alloc (.cells #[.func (.func 293) #[] #[],.func (.func 229) #[] #[]] 150)).putObj w.heap.size (.map #[{ key:=.int .u8 1,val:=.slice (some ⟨w.heap.size+1,0,none⟩) 2 2,born:=0 }] 1)).alloc (.cells #[.func (.func 293) #[] #[],.func (.func 294) #[] #[]] 150)).heap.size:=by rw [Aj,Fl];omega
 go_enter Tryz.func228,Tryz.ntmps228;go_wp2_with fail;go_ret;exact ⟨⟨w.heap.size,_,_,rfl,Ba hz2,rfl⟩,Ku _ HB2 (Ad _)⟩
theorem eC (w:World) (x0 x1 x2 x3 y0 y1 y2 y3:Int) (f g:Nat→Int) (f0:f 0=x0) (f1:f 1=x1) (f2:f 2=x2) (f3:f 3=x3) (g0:g 0=y0) (g1:g 1=y1) (g2:g 2=y2) (g3:g 3=y3) :
  Calls Tryz.prog 229 #[.agg #[.int .u16 x0,.int .u16 x1,.int .u16 x2,.int .u16 x3],.agg #[.int .u16 y0,.int .u16 y1,.int .u16 y2,.int .u16 y3]] w fun e w'=>e=.returned (.int .i64 (Ht f g))∧Below w.heap.size w w':=by
 have HB:=Ac w.heap.size w;go_enter Tryz.func229,Tryz.ntmps229;go_wp2_with fail;have HF:Hid (∀i,i<4→((w.alloc (.cells #[.int .u16 x0,.int .u16 x1,.int .u16 x2,.int .u16 x3] 76)).alloc (.cells #[.int .u16 y0,.int .u16 y1,.int .u16 y2,.int .u16 y3] 76)).cell? ⟨w.heap.size,i,none⟩=some (.int .u16 (f i))):=Ae (fun i hi=>by
  match i,hi with
  | 0,_=>rw [f0];simp [go_sem]
  | 1,_=>rw [f1];simp [go_sem]
  | 2,_=>rw [f2];simp [go_sem]
  | 3,_=>rw [f3];simp [go_sem])
 have HG:Hid (∀i,i<4→((w.alloc (.cells #[.int .u16 x0,.int .u16 x1,.int .u16 x2,.int .u16 x3] 76)).alloc (.cells #[.int .u16 y0,.int .u16 y1,.int .u16 y2,.int .u16 y3] 76)).cell? ⟨w.heap.size+1,i,none⟩=some (.int .u16 (g i))):=Ae (fun i hi=>by
  match i,hi with
  | 0,_=>rw [g0];simp [go_sem]
  | 1,_=>rw [g1];simp [go_sem]
  | 2,_=>rw [g2];simp [go_sem]
  | 3,_=>rw [g3];simp [go_sem])
 have HB2:Below w.heap.size w ((w.alloc (.cells #[.int .u16 x0,.int .u16 x1,.int .u16 x2,.int .u16 x3] 76)).alloc (.cells #[.int .u16 y0,.int .u16 y1,.int .u16 y2,.int .u16 y3] 76)):=by go_grown
 clear f0 f1 f2 f3 g0 g1 g2 g3;generalize ((w.alloc (.cells #[.int .u16 x0,.int .u16 x1,.int .u16 x2,.int .u16 x3] 76)).alloc (.cells #[.int .u16 y0,.int .u16 y1,.int .u16 y2,.int .u16 y3] 76))=w1 at *;go_quiet (((first|(go_at_call 295;exact Fu (Jp _ _ _ f g HF.out HG.out))|(go_at_call 295;exact Ey (Jp _ _ _ f g HF.out HG.out)))));go_wp2_with fail;go_ret;exact ⟨rfl,Bu _ HB2⟩
def Do (x0 x1 x2 x3:Int):Nat→Int
 | 0=>x0
 | 1=>x1
 | 2=>x2
 | _=>x3
theorem wO (w:World) (x0 x1 x2 x3 y0 y1 y2 y3:Int) :
  Calls Tryz.prog 169 #[.int .u8 0,.agg #[.int .u16 x0,.int .u16 x1,.int .u16 x2,.int .u16 x3],.agg #[.int .u16 y0,.int .u16 y1,.int .u16 y2,.int .u16 y3]] w fun e w'=>e=.returned (.int .i64 (Ht (Do x0 x1 x2 x3) (Do y0 y1 y2 y3)))∧Below w.heap.size w w':=by
 have HB:=Ac w.heap.size w;go_enter Tryz.func169,Tryz.ntmps169;go_wp2_with fail;refine (iH _).mono ?_;rintro e w1 ⟨⟨B,es,clock,rfl,hes,hfn⟩,hb⟩;obtain ⟨hc,hf⟩:=Bl hb;have hz:=hb.size;(try simp only [Aj,Ak] at hz);replace HB:=zI w hb;have s0:∀i,i<4→w1.cell? ⟨w.heap.size,i,none⟩=some (.int .u16 (Do x0 x1 x2 x3 i)):=fun i hi=>(hc _ _ qB).trans (by
  match i,hi with
  | 0,_=>simp [go_sem,Do]
  | 1,_=>simp [go_sem,Do]
  | 2,_=>simp [go_sem,Do]
  | 3,_=>simp [go_sem,Do])
 have s1:∀i,i<4→w1.cell? ⟨w.heap.size+1,i,none⟩=some (.int .u16 (Do y0 y1 y2 y3 i)):=fun i hi=>(hc _ _ qB).trans (by
  match i,hi with
  | 0,_=>simp [go_sem,Do]
  | 1,_=>simp [go_sem,Do]
  | 2,_=>simp [go_sem,Do]
  | 3,_=>simp [go_sem,Do])
 have s00:=s0 0 qA;have s01:=s0 1 qA;have s02:=s0 2 qA;have s03:=s0 3 qA;have s10:=s1 0 qA;have s11:=s1 1 qA;have s12:=s1 2 qA;have s13:=s1 3 qA;simp only [Do] at s00 s01 s02 s03 s10 s11 s12 s13;have q1:=tE w1 B clock es 0 hes hfn;clear s0 s1 hc hf hes hfn;go_wp2_with fail;go_loop [14] (fun v=>v=.int .i64 0) (fun _=>0)
 case atStart=>rfl
 case round =>
  subst hrel;go_wp2_with fail;refine (eC _ _ _ _ _ _ _ _ _ (Do x0 x1 x2 x3) (Do y0 y1 y2 y3) rfl rfl rfl rfl rfl rfl rfl rfl).mono ?_;rintro e w2 ⟨rfl,hb2⟩;go_wp2_with fail;go_ret;exact ⟨rfl,HB.trans (hb2.mono HB.size)⟩
theorem Vl (w:World) (x0 x1 x2 x3 y0 y1 y2 y3:Int) :
  Calls Tryz.prog 99 #[.agg #[.int .u16 x0,.int .u16 x1,.int .u16 x2,.int .u16 x3],.agg #[.int .u16 y0,.int .u16 y1,.int .u16 y2,.int .u16 y3]] w fun e w'=>e=.returned (.int .i64 (Ht (Do y0 y1 y2 y3) (Do x0 x1 x2 x3)))∧Below w.heap.size w w':=by
 have HB:=Ac w.heap.size w;go_enter Tryz.func99,Tryz.ntmps99;exact qCw
def Tm.mono (t:Tm):Nat→Int:=Do t.m0 t.m1 t.m2 t.m3
def TOk (t:Tm):Prop:=FOk t.g1 t.d1 t.g2 t.d2∧t.d1≠[]
def zY (p:Nat→Tm) (j:Nat):Prop:=TOk (p j)∧(0<j→Ht (p j).mono (p (j-1)).mono<0)
def POk (p:Nat→Tm) (n:Nat):Prop:=∀j,j<n→zY p j
theorem Lg {w:World} {g1:Bool} {a1:Option Addr} {n1 c1:Nat} {d1:List Nat} {g2:Bool} {a2:Option Addr} {n2 c2:Nat} {d2:List Nat} (h1:RdL w a1 n1 c1 d1) (h2:RdL w a2 n2 c2 d2) (h:FOk g1 d1 g2 d2) :
  Bi w g1 a1 n1 c1 (if g1 then -(val d1:Int) else val d1) g2 a2 n2 c2 (val d2):=by
 obtain ⟨o1,o2,e2,hne,hg⟩:=h;have N2:=Gj h2 o2;rw [e2] at N2;simp only [Bool.false_eq_true,if_false] at N2;refine ⟨Gj h1 o1,by rw [e2];exact N2,?_,?_⟩
 ·have:=Cs o2.1 hne;omega
 ·rw [←hg]
  cases g1<;>simp [Int.gcd]
theorem Wm {g:Bool} {d:List Nat} (h:Py g d):(if g then -(val d:Int) else (val d:Int))=0↔d=[]:=by
 constructor
 ·intro h1;apply Decidable.byContradiction;intro hne;have:=Cs h.1 hne
  cases g<;>simp at h1<;>omega
 ·rintro rfl
  cases g<;>simp [val]
theorem Xm (w:World) (a:Option Addr) (n c:Nat) (p:Nat→Tm) (hp:RdP w a n c p) (hsm:∀k,k<n→(p k).n1≤35184372087808∧(p k).n2≤35184372087808) (r:Bool) (hr:POk p n↔r=true) :
  Calls Tryz.prog 41 #[.slice a n c] w fun e w'=>e=.returned (.bool r)∧Below w.heap.size w w':=by
 have HB:=Ac w.heap.size w;have hn:=hp.few;have HR:=Ae hr;have HS:=Ae hsm;clear hr hsm;go_enter Tryz.func41,Tryz.ntmps41;go_wp2_with fail;go_loopw [7] (fun v wr=>∃k:Nat,k≤n∧v=.int .i64 k∧Below w.heap.size w wr∧Hid (POk p k)) (fun v _=>n-(intOf v).toNat)
 case atStart=>exact ⟨0,A9 _,rfl,HB,Ae (fun j hj=>absurd hj (Nat.not_lt_zero _))⟩
 case round =>
  obtain ⟨k,hk,rfl,HBr,he⟩:=hrel;clear HB;by_cases hlt:k<n
  ·obtain ⟨b,o,rfl,hcl⟩:=hp.cell.resolve_left qA;have hpr:=hp.keep HBr;have HT:=hpr.tm k hlt;obtain ⟨e0,e1,e2,e3,e4,e5,e6,e7⟩:=hpr.at hlt;have hs:=HS.out k hlt;have HCL:=Ae hcl;clear hcl
   cases k with
   | zero =>
    obtain ⟨t,ht⟩:∃t,t=p 0:=⟨_,rfl⟩;rw [←ht] at HT e0 e1 e2 e3 e4 e5 e6 e7 hs;have HTK:=Ae ht;clear ht;simp only [Nat.zero_mul,Nat.add_zero] at e0 e1 e2 e3 e4 e5 e6 e7;have hszw:=HBr.size;go_upto_region 4 with fail
    have HB1:Below w.heap.size w (wr.alloc (.cells #[.bool t.g1,.slice t.a1 t.n1 t.c1,.bool t.g2,.slice t.a2 t.n2 t.c2,.int .u16 t.m0,.int .u16 t.m1,.int .u16 t.m2,.int .u16 t.m3] 79)):=by go_grown
    have c0:(wr.alloc (.cells #[.bool t.g1,.slice t.a1 t.n1 t.c1,.bool t.g2,.slice t.a2 t.n2 t.c2,.int .u16 t.m0,.int .u16 t.m1,.int .u16 t.m2,.int .u16 t.m3] 79)).cell? ⟨wr.heap.size,0,none⟩=some (.bool t.g1):=by simp [go_sem]
    have c1:(wr.alloc (.cells #[.bool t.g1,.slice t.a1 t.n1 t.c1,.bool t.g2,.slice t.a2 t.n2 t.c2,.int .u16 t.m0,.int .u16 t.m1,.int .u16 t.m2,.int .u16 t.m3] 79)).cell? ⟨wr.heap.size,1,none⟩=some (.slice t.a1 t.n1 t.c1):=by simp [go_sem]
    have c2:(wr.alloc (.cells #[.bool t.g1,.slice t.a1 t.n1 t.c1,.bool t.g2,.slice t.a2 t.n2 t.c2,.int .u16 t.m0,.int .u16 t.m1,.int .u16 t.m2,.int .u16 t.m3] 79)).cell? ⟨wr.heap.size,2,none⟩=some (.bool t.g2):=by simp [go_sem]
    have c3:(wr.alloc (.cells #[.bool t.g1,.slice t.a1 t.n1 t.c1,.bool t.g2,.slice t.a2 t.n2 t.c2,.int .u16 t.m0,.int .u16 t.m1,.int .u16 t.m2,.int .u16 t.m3] 79)).cell? ⟨wr.heap.size,3,none⟩=some (.slice t.a2 t.n2 t.c2):=by simp [go_sem]
    have c4:(wr.alloc (.cells #[.bool t.g1,.slice t.a1 t.n1 t.c1,.bool t.g2,.slice t.a2 t.n2 t.c2,.int .u16 t.m0,.int .u16 t.m1,.int .u16 t.m2,.int .u16 t.m3] 79)).cell? ⟨wr.heap.size,4,none⟩=some (.int .u16 t.m0):=by simp [go_sem]
    have c5:(wr.alloc (.cells #[.bool t.g1,.slice t.a1 t.n1 t.c1,.bool t.g2,.slice t.a2 t.n2 t.c2,.int .u16 t.m0,.int .u16 t.m1,.int .u16 t.m2,.int .u16 t.m3] 79)).cell? ⟨wr.heap.size,5,none⟩=some (.int .u16 t.m1):=by simp [go_sem]
    have c6:(wr.alloc (.cells #[.bool t.g1,.slice t.a1 t.n1 t.c1,.bool t.g2,.slice t.a2 t.n2 t.c2,.int .u16 t.m0,.int .u16 t.m1,.int .u16 t.m2,.int .u16 t.m3] 79)).cell? ⟨wr.heap.size,6,none⟩=some (.int .u16 t.m2):=by simp [go_sem]
    have c7:(wr.alloc (.cells #[.bool t.g1,.slice t.a1 t.n1 t.c1,.bool t.g2,.slice t.a2 t.n2 t.c2,.int .u16 t.m0,.int .u16 t.m1,.int .u16 t.m2,.int .u16 t.m3] 79)).cell? ⟨wr.heap.size,7,none⟩=some (.int .u16 t.m3):=by simp [go_sem]
    have hb1:Below wr.heap.size wr (wr.alloc (.cells #[.bool t.g1,.slice t.a1 t.n1 t.c1,.bool t.g2,.slice t.a2 t.n2 t.c2,.int .u16 t.m0,.int .u16 t.m1,.int .u16 t.m2,.int .u16 t.m3] 79)):=by go_grown
    replace HT:=HT.keep hb1;generalize (wr.alloc (.cells #[.bool t.g1,.slice t.a1 t.n1 t.c1,.bool t.g2,.slice t.a2 t.n2 t.c2,.int .u16 t.m0,.int .u16 t.m1,.int .u16 t.m2,.int .u16 t.m3] 79))=w1 at *;generalize wr.heap.size=B at *;have hs1:t.n1<35184372088829:=by omega
    have hs2:t.n2<35184372088829:=by omega
    replace c0:=Cl c0;replace c1:=Cl c1;replace c2:=Cl c2;replace c3:=Cl c3;replace c4:=Cl c4;replace c5:=Cl c5;replace c6:=Cl c6;replace c7:=Cl c7;clear hb1 hpr HBr;by_cases hF0:FOk t.g1 t.d1 t.g2 t.d2
    ·have hF:=Ae hF0;have HA:=Lg HT.top HT.low hF0;have hsz:=Wm hF0.1;generalize (if t.g1 then -(val t.d1:Int) else (val t.d1:Int))=z at *;clear hF0;by_cases hz0:z=0
     ·have hd0:=Ae (hsz.1 hz0);have hz:Bz z 0=0:=by rw [hz0];exact Eo 0
      have hr0:r=false:=by
       exact qDm
      subst hr0;clear hz0 hsz;(refine Cg qC qC ?_;(repeat (go_big_quiet_step (first|(go_at_call 60;exact Gn (Eh _ t.g1 t.a1 t.n1 t.c1 t.d1 (HT.top.keep (Subtype.property _)) t.g2 t.a2 t.n2 t.c2 t.d2 (HT.low.keep (Subtype.property _)) hs2 hs1 true ⟨fun _=>rfl,fun _=>hF.out⟩))|(go_at_call 98;exact Gn (Fx _ _ _ _ _ _ _ _ _ _ _ (HA.keep (Subtype.property _)) hs2 hs1)))));refine wpQuiet_nil ?_;intro _ hw0;obtain ⟨nq,hw0⟩:=hw0;subst hw0);exact qBx
     ·have hd0:=Ae (fun e=>hz0 (hsz.2 e));have hz:(Bz z 0==0)=false:=by rw [beq_eq_false_iff_ne];exact fun e=>hz0 (G3.1 e)
      clear hz0 hsz;(refine Cg qC qC ?_;(repeat (go_big_quiet_step (first|(go_at_call 60;exact Gn (Eh _ t.g1 t.a1 t.n1 t.c1 t.d1 (HT.top.keep (Subtype.property _)) t.g2 t.a2 t.n2 t.c2 t.d2 (HT.low.keep (Subtype.property _)) hs2 hs1 true ⟨fun _=>rfl,fun _=>hF.out⟩))|(go_at_call 98;exact Gn (Fx _ _ _ _ _ _ _ _ _ _ _ (HA.keep (Subtype.property _)) hs2 hs1)))));refine wpQuiet_nil ?_;intro _ hw0;obtain ⟨nq,hw0⟩:=hw0;subst hw0);go_wp2_with fail;go_roundw
      case rel=>exact ⟨1,by omega,rfl,HB1.trans (nq.2.mono HB1.size),Ae (fun i hi=>by have h0:i=0:=qA;subst h0;exact ⟨by rw [←HTK.out];exact ⟨hF.out,hd0.out⟩,fun h=>absurd h qA⟩)⟩
      case measure=>simp [intOf];omega
    ·exact qAw
   | succ j =>
    obtain ⟨t,ht⟩:∃t,t=p (j+1):=⟨_,rfl⟩;rw [←ht] at HT e0 e1 e2 e3 e4 e5 e6 e7 hs;have HTK:=Ae ht;clear ht;have hszw:=HBr.size;have hjn:j<n:=by omega
    go_upto_region 4 with fail
    clear e0 e1 e2 e3 e4 e5 e6 e7;obtain ⟨_,_,_,_,e4,e5,e6,e7⟩:=hpr.at (show j<n by omega);obtain ⟨u,hu⟩:∃u,u=p j:=⟨_,rfl⟩;rw [←hu] at e4 e5 e6 e7;have HUK:=Ae hu;clear hu;have HB1:Below w.heap.size w (wr.alloc (.cells #[.bool t.g1,.slice t.a1 t.n1 t.c1,.bool t.g2,.slice t.a2 t.n2 t.c2,.int .u16 t.m0,.int .u16 t.m1,.int .u16 t.m2,.int .u16 t.m3] 79)):=by go_grown
    have c0:(wr.alloc (.cells #[.bool t.g1,.slice t.a1 t.n1 t.c1,.bool t.g2,.slice t.a2 t.n2 t.c2,.int .u16 t.m0,.int .u16 t.m1,.int .u16 t.m2,.int .u16 t.m3] 79)).cell? ⟨wr.heap.size,0,none⟩=some (.bool t.g1):=by simp [go_sem]
    have c1:(wr.alloc (.cells #[.bool t.g1,.slice t.a1 t.n1 t.c1,.bool t.g2,.slice t.a2 t.n2 t.c2,.int .u16 t.m0,.int .u16 t.m1,.int .u16 t.m2,.int .u16 t.m3] 79)).cell? ⟨wr.heap.size,1,none⟩=some (.slice t.a1 t.n1 t.c1):=by simp [go_sem]
    have c2:(wr.alloc (.cells #[.bool t.g1,.slice t.a1 t.n1 t.c1,.bool t.g2,.slice t.a2 t.n2 t.c2,.int .u16 t.m0,.int .u16 t.m1,.int .u16 t.m2,.int .u16 t.m3] 79)).cell? ⟨wr.heap.size,2,none⟩=some (.bool t.g2):=by simp [go_sem]
    have c3:(wr.alloc (.cells #[.bool t.g1,.slice t.a1 t.n1 t.c1,.bool t.g2,.slice t.a2 t.n2 t.c2,.int .u16 t.m0,.int .u16 t.m1,.int .u16 t.m2,.int .u16 t.m3] 79)).cell? ⟨wr.heap.size,3,none⟩=some (.slice t.a2 t.n2 t.c2):=by simp [go_sem]
    have c4:(wr.alloc (.cells #[.bool t.g1,.slice t.a1 t.n1 t.c1,.bool t.g2,.slice t.a2 t.n2 t.c2,.int .u16 t.m0,.int .u16 t.m1,.int .u16 t.m2,.int .u16 t.m3] 79)).cell? ⟨wr.heap.size,4,none⟩=some (.int .u16 t.m0):=by simp [go_sem]
    have c5:(wr.alloc (.cells #[.bool t.g1,.slice t.a1 t.n1 t.c1,.bool t.g2,.slice t.a2 t.n2 t.c2,.int .u16 t.m0,.int .u16 t.m1,.int .u16 t.m2,.int .u16 t.m3] 79)).cell? ⟨wr.heap.size,5,none⟩=some (.int .u16 t.m1):=by simp [go_sem]
    have c6:(wr.alloc (.cells #[.bool t.g1,.slice t.a1 t.n1 t.c1,.bool t.g2,.slice t.a2 t.n2 t.c2,.int .u16 t.m0,.int .u16 t.m1,.int .u16 t.m2,.int .u16 t.m3] 79)).cell? ⟨wr.heap.size,6,none⟩=some (.int .u16 t.m2):=by simp [go_sem]
    have c7:(wr.alloc (.cells #[.bool t.g1,.slice t.a1 t.n1 t.c1,.bool t.g2,.slice t.a2 t.n2 t.c2,.int .u16 t.m0,.int .u16 t.m1,.int .u16 t.m2,.int .u16 t.m3] 79)).cell? ⟨wr.heap.size,7,none⟩=some (.int .u16 t.m3):=by simp [go_sem]
    have hb1:Below wr.heap.size wr (wr.alloc (.cells #[.bool t.g1,.slice t.a1 t.n1 t.c1,.bool t.g2,.slice t.a2 t.n2 t.c2,.int .u16 t.m0,.int .u16 t.m1,.int .u16 t.m2,.int .u16 t.m3] 79)):=by go_grown
    have e4:=Bb hb1 e4;have e5:=Bb hb1 e5;have e6:=Bb hb1 e6;have e7:=Bb hb1 e7;replace HT:=HT.keep hb1;generalize (wr.alloc (.cells #[.bool t.g1,.slice t.a1 t.n1 t.c1,.bool t.g2,.slice t.a2 t.n2 t.c2,.int .u16 t.m0,.int .u16 t.m1,.int .u16 t.m2,.int .u16 t.m3] 79))=w1 at *;generalize wr.heap.size=B at *;have hs1:t.n1<35184372088829:=by omega
    have hs2:t.n2<35184372088829:=by omega
    replace c0:=Cl c0;replace c1:=Cl c1;replace c2:=Cl c2;replace c3:=Cl c3;replace c4:=Cl c4;replace c5:=Cl c5;replace c6:=Cl c6;replace c7:=Cl c7;replace e4:=Cl e4;replace e5:=Cl e5;replace e6:=Cl e6;replace e7:=Cl e7;clear hb1 hpr HBr;by_cases hF0:FOk t.g1 t.d1 t.g2 t.d2
    ·have hF:=Ae hF0;have HA:=Lg HT.top HT.low hF0;have hsz:=Wm hF0.1;generalize (if t.g1 then -(val t.d1:Int) else (val t.d1:Int))=z at *;clear hF0;by_cases hz0:z=0
     ·have hd0:=Ae (hsz.1 hz0);have hz:Bz z 0=0:=by rw [hz0];exact Eo 0
      have hr0:r=false:=by
       exact qDm
      subst hr0;clear hz0 hsz;(refine Cg qC qC ?_;(repeat (go_big_quiet_step (first|(go_at_call 60;exact Gn (Eh _ t.g1 t.a1 t.n1 t.c1 t.d1 (HT.top.keep (Subtype.property _)) t.g2 t.a2 t.n2 t.c2 t.d2 (HT.low.keep (Subtype.property _)) hs2 hs1 true ⟨fun _=>rfl,fun _=>hF.out⟩))|(go_at_call 98;exact Gn (Fx _ _ _ _ _ _ _ _ _ _ _ (HA.keep (Subtype.property _)) hs2 hs1))|(go_at_call 99;exact Gn (Vl _ _ _ _ _ _ _ _ _)))));refine wpQuiet_nil ?_;intro _ hw0;obtain ⟨nq,hw0⟩:=hw0;subst hw0);exact qBx
     ·have hd0:=Ae (fun e=>hz0 (hsz.2 e));have hz:(Bz z 0==0)=false:=by rw [beq_eq_false_iff_ne];exact fun e=>hz0 (G3.1 e)
      clear hz0 hsz;by_cases hl0:Ht (Do t.m0 t.m1 t.m2 t.m3) (Do u.m0 u.m1 u.m2 u.m3)<0
      ·have hl:=Ae hl0;have hl1:decide (0≤Ht (Do t.m0 t.m1 t.m2 t.m3) (Do u.m0 u.m1 u.m2 u.m3))=false:=by rw [decide_eq_false_iff_not];omega
       clear hl0;(refine Cg qC qC ?_;(repeat (go_big_quiet_step (first|(go_at_call 60;exact Gn (Eh _ t.g1 t.a1 t.n1 t.c1 t.d1 (HT.top.keep (Subtype.property _)) t.g2 t.a2 t.n2 t.c2 t.d2 (HT.low.keep (Subtype.property _)) hs2 hs1 true ⟨fun _=>rfl,fun _=>hF.out⟩))|(go_at_call 98;exact Gn (Fx _ _ _ _ _ _ _ _ _ _ _ (HA.keep (Subtype.property _)) hs2 hs1))|(go_at_call 99;exact Gn (Vl _ _ _ _ _ _ _ _ _)))));refine wpQuiet_nil ?_;intro _ hw0;obtain ⟨nq,hw0⟩:=hw0;subst hw0);go_wp2_with fail;go_roundw
       case rel=>exact ⟨j+1+1,by omega,by simp,HB1.trans (nq.2.mono HB1.size),Ae (fun i hi=>by
       rcases Nat.lt_or_ge i (j+1) with h|h
       ·exact he.out i h
       ·obtain rfl:i=j+1:=by omega
        exact ⟨by rw [←HTK.out];exact ⟨hF.out,hd0.out⟩,fun _=>by rw [←HTK.out,Nat.add_sub_cancel,←HUK.out];exact hl.out⟩)⟩
       case measure=>simp [intOf];omega
      ·have hl1:decide (0≤Ht (Do t.m0 t.m1 t.m2 t.m3) (Do u.m0 u.m1 u.m2 u.m3))=true:=by rw [decide_eq_true_iff];omega
       have hr0:r=false:=by
        cases r
        ·rfl
        ·refine absurd ((HR.out.2 rfl _ hlt).2 qA) ?_;rw [←HTK.out,Nat.add_sub_cancel,←HUK.out];exact hl0
       subst hr0;clear hl0;(refine Cg qC qC ?_;(repeat (go_big_quiet_step (first|(go_at_call 60;exact Gn (Eh _ t.g1 t.a1 t.n1 t.c1 t.d1 (HT.top.keep (Subtype.property _)) t.g2 t.a2 t.n2 t.c2 t.d2 (HT.low.keep (Subtype.property _)) hs2 hs1 true ⟨fun _=>rfl,fun _=>hF.out⟩))|(go_at_call 98;exact Gn (Fx _ _ _ _ _ _ _ _ _ _ _ (HA.keep (Subtype.property _)) hs2 hs1))|(go_at_call 99;exact Gn (Vl _ _ _ _ _ _ _ _ _)))));refine wpQuiet_nil ?_;intro _ hw0;obtain ⟨nq,hw0⟩:=hw0;subst hw0);exact qBx
    ·exact qAw
  ·obtain rfl:k=n:=by omega
   have hr:=HR.out.1 he.out;subst hr;go_wp2_with fail;go_ret;exact ⟨rfl,HBr⟩
theorem Ev (w:World) (a:Option Addr) (n c:Nat) (p:Nat→Tm) (hp:RdP w a n c p) (hsm:∀k,k<n→(p k).n1≤1000000∧(p k).n2≤1000000) (r:Bool) (hr:POk p n↔r=true) :
  Calls Tryz.prog 41 #[.slice a n c] w fun e w'=>e=.returned (.bool r)∧Below w.heap.size w w' :=
 Xm w a n c p hp (fun k hk=>⟨Ah (hsm k hk).1 qA,Ah (hsm k hk).2 qA⟩) r hr
end Go.Proofs.YtnnhcbeiogaknaaGreatDoor
end
