/- Package worths: constant, whole. -/
import Derived.Test.YtnnhcbeiogaknaaGreatDoorQT40
set_option linter.unusedSimpArgs false
set_option linter.unusedVariables false
set_option maxRecDepth 100000
set_option maxHeartbeats 4000000
section
namespace Go.Proofs.YtnnhcbeiogaknaaGreatDoor
open Go.RowKit
def Lh:List PT→Option PC
 | []=>some (0,1)
 | [t]=>if t.1=0 then some t.2 else none
 | _=>none
def kR (w:World) (x:Option PC) (e:Ending) (w':World):Prop:=∃g1 a1 n1 c1 g2 a2 n2 c2,e=.returned (.tuple #[.agg #[.bool g1,.slice a1 n1 c1,.bool g2,.slice a2 n2 c2],.bool x.isSome])∧(∀y,x=some y→Bi w' g1 a1 n1 c1 y.1 g2 a2 n2 c2 y.2)∧Below w.heap.size w w'
theorem pU {w:World} {R:Nat} {g1:Bool} {a1:Option Addr} {n1 c1:Nat} {g2:Bool} {a2:Option Addr} {n2 c2:Nat} {t:TypeId} (h:Blk w R #[.bool g1,.slice a1 n1 c1,.bool g2,.slice a2 n2 c2] t):∀i z,w.cell? ⟨R,i,none⟩≠some (.int .u32 z):=fun i z e=>by
 have hC:w.heap[R]? = _:=h;exact qCz
theorem Ut (w:World) (B n c:Nat) (a:Option Addr) (l:List PT) (h:Bc w B a n c l) (hcw:∀t∈l,CW t.2) (a':Option Addr) (n' c':Nat) :
    Calls Tryz.prog 79 #[.agg #[.bool false,.slice a n c,.slice a' n' c']] w (kR w (Lh l)):=by
  have hl:=h.len;obtain ⟨p,hp,hpx⟩:=h.ts;have hnf:=hp.few;have HB:=Ac w.heap.size w
  match l,hl,hpx,hcw with
  | [],hl,_,_ =>
    obtain rfl:n=0:=by simpa using hl.symm
    clear hpx h hp hcw;go_enter Tryz.func79,Tryz.ntmps79;go_wp2_with fail;refine Be ?_;intro w0 hw0;have b0:Below w.heap.size w w0:=by rw [hw0];go_grown
    have R0:Blk w0 (w.heap.size+1) #[.bool false,.slice none 0 0,.bool false,.slice none 0 0] 34:=by rw [hw0];exact Bj qG _ _
    clear hw0;refine (Fp w0 0 qA qA).mono ?_;rintro e w1 ⟨g1,a1,n1,c1,g2,a2,n2,c2,rfl,hF,hf1,hf2,hap,hb1⟩;have b1:=b0.trans (hb1.mono b0.size);have R1:=R0.keep hb1;have r0:=R1.cell 0 _ rfl;have r1:=R1.cell 1 _ rfl;have r2:=R1.cell 2 _ rfl;have r3:=R1.cell 3 _ rfl;have f0:=R1.frozen 0;have f1:=R1.frozen 1;have f2:=R1.frozen 2;have f3:=R1.frozen 3;have rl:=R1.lt;go_wp2_with fail;have g4:w1.grownBy ((((w1.setCell ⟨w.heap.size+1,0,none⟩ (.bool g1)).setCell ⟨w.heap.size+1,1,none⟩ (.slice a1 n1 c1)).setCell ⟨w.heap.size+1,2,none⟩ (.bool g2)).setCell ⟨w.heap.size+1,3,none⟩ (.slice a2 n2 c2)) (some (w.heap.size+1)):=Bd _ (Bd _ (Bd _ (Bd _ (A6 _ _))));refine bodyPost_ret (v:=.tuple #[.agg #[.bool g1,.slice a1 n1 c1,.bool g2,.slice a2 n2 c2],.bool true]) (by simp [results,Tryz.results79,go_sem,rl,r0,r1,r2,r3]) rfl ?_;exact ⟨g1,a1,n1,c1,g2,a2,n2,c2,rfl,fun y hy=>by cases hy;exact Rh hF (pU R1) g4,Gh b1 qA _ _ _ _⟩
  | [t],hl,hpx,hcw =>
    obtain rfl:n=1:=by simpa using hl.symm
    obtain ⟨gb,go,rfl,hgc⟩:=hp.cell.resolve_left qA;have hat:=hgc 0 qA;rw [Nat.zero_mul,Nat.add_zero] at hat;have ht:=(hpx 0 t rfl).1;have hr:=hp.tm 0 qA;have hF:=ht.frac hr (hcw t (Ao.2 rfl));clear hgc h hp hpx;generalize p 0=s at *;have hat':=hat;obtain ⟨e0,e1,e2,e3,e4,e5,e6,e7⟩:=hat;have HK:=Ae ht.key;have hgl:gb<w.heap.size:=Aa _ _ e0;go_enter Tryz.func79,Tryz.ntmps79;go_wp2_with fail;refine By ?_;intro w0 hw0;have b0:Below w.heap.size w w0:=by rw [hw0];go_grown
    have V0:w0.cell? ⟨w.heap.size,1,none⟩=some (.slice (some ⟨gb,go,none⟩) 1 c):=by rw [hw0];simp [go_sem]
    have R0:Blk w0 (w.heap.size+1) #[.bool false,.slice none 0 0,.bool false,.slice none 0 0] 34:=by rw [hw0];exact Bj qG _ _
    clear hw0
    (replace e0:=Bb b0 e0;replace e1:=Bb b0 e1;replace e2:=Bb b0 e2;replace e3:=Bb b0 e3;replace e4:=Bb b0 e4;replace e5:=Bb b0 e5;replace e6:=Bb b0 e6;replace e7:=Bb b0 e7)
    have r0:=R0.cell 0 _ rfl;have r1:=R0.cell 1 _ rfl;have r2:=R0.cell 2 _ rfl;have r3:=R0.cell 3 _ rfl;have f0:=R0.frozen 0;have f1:=R0.frozen 1;have f2:=R0.frozen 2;have f3:=R0.frozen 3;have rl:=R0.lt;have hne:¬gb=w.heap.size+1:=by omega
    have hne':¬w.heap.size+1=gb:=by omega
    go_region_held3 (fun W=>W.cell? ⟨w.heap.size,1,none⟩=some (.slice (some ⟨gb,go,none⟩) 1 c)∧W.cell? ⟨gb,go,none⟩=some (.bool s.g1)∧W.cell? ⟨gb,go+1,none⟩=some (.slice s.a1 s.n1 s.c1)∧W.cell? ⟨gb,go+2,none⟩=some (.bool s.g2)∧W.cell? ⟨gb,go+3,none⟩=some (.slice s.a2 s.n2 s.c2)∧W.cell? ⟨gb,go+4,none⟩=some (.int .u16 s.m0)∧W.cell? ⟨gb,go+5,none⟩=some (.int .u16 s.m1)∧W.cell? ⟨gb,go+6,none⟩=some (.int .u16 s.m2)∧W.cell? ⟨gb,go+7,none⟩=some (.int .u16 s.m3)) (first|((try dsimp only);(repeat' apply Ay);all_goals (first|(with_reducible assumption)|(go_keep;done)|(simp [*,go_sem];done)))) (first|fail);go_wp2_with fail;refine bodyPost_ret (v:=.tuple #[.agg #[.bool s.g1,.slice s.a1 s.n1 s.c1,.bool s.g2,.slice s.a2 s.n2 s.c2],.bool ((s.m0:Int)==0&&((s.m1:Int)==0&&((s.m2:Int)==0&&(s.m3:Int)==0)))]) (by simp [results,Tryz.results79,go_sem,rl,r0,r1,r2,r3]) rfl ?_;have hb4:Below w.heap.size w (((((w0.setCell ⟨w.heap.size+1,0,none⟩ (.bool s.g1)).setCell ⟨w.heap.size+1,1,none⟩ (.slice s.a1 s.n1 s.c1)).setCell ⟨w.heap.size+1,2,none⟩ (.bool s.g2)).setCell ⟨w.heap.size+1,3,none⟩ (.slice s.a2 s.n2 s.c2)).drew):=(Gh b0 qA _ _ _ _).drew;have e:((s.m0:Int)==0&&((s.m1:Int)==0&&((s.m2:Int)==0&&(s.m3:Int)==0)))=(Lh [t]).isSome:=by
      show _=(if t.1=0 then some t.2 else none).isSome;rw [Bool.eq_iff_iff];simp only [Bool.and_eq_true,beq_iff_eq];have hk:=HK.out;unfold Ch at hk;by_cases h0:t.1=0
      · rw [if_pos h0];simp;omega
      · rw [if_neg h0];simp;omega
    refine ⟨_,_,_,_,_,_,_,_,by rw [e],fun y hy=>?_,hb4⟩;have hy':(if t.1=0 then some t.2 else none)=some y:=hy
    split at hy'
    · cases hy';exact hF.keep hb4
    · cases hy'
  | t::u::l,hl,hpx,hcw =>
    have hn2 : 2 ≤ n := by have:l.length+1+1=n:=by simpa using hl
                           omega
    have hn1:(1:Int)<(n:Int):=by omega
    clear h hp hpx hl hcw;go_enter Tryz.func79,Tryz.ntmps79;go_wp2_with fail;refine bodyPost_ret (v:=.tuple #[.agg #[.bool false,.slice none 0 0,.bool false,.slice none 0 0],.bool false]) (by simp [results,Tryz.results79,go_sem]) rfl ?_;exact ⟨_,_,_,_,_,_,_,_,rfl,fun y hy=>(by cases hy),by go_grown⟩
theorem lD (w:World) (g1:Bool) (a1:Option Addr) (n1 c1:Nat) (p:Int) (g2:Bool) (a2:Option Addr) (n2 c2:Nat) (q:Int) (h:Bi w g1 a1 n1 c1 p g2 a2 n2 c2 q) (hs:n2<35184372088829) (hb1:n1<35184372088829) :
  Calls Tryz.prog 139 #[.agg #[.bool g1,.slice a1 n1 c1,.bool g2,.slice a2 n2 c2]] w (fun e w'=>e=.returned (.bool (decide (q=1)))∧Below w.heap.size w w'):=by
 have HB:=Ac w.heap.size w;go_enter Tryz.func139,Tryz.ntmps139;go_wp2_with fail;refine Be ?_;intro w0 hw0;have b0:Below w.heap.size w w0:=by rw [hw0];go_grown
 clear hw0;refine (Se w0 g1 a1 n1 c1 p g2 a2 n2 c2 q (h.keep b0) hs hb1).mono ?_;rintro e w1 ⟨rfl,hb1'⟩;have b1:=b0.trans (hb1'.mono b0.size);go_wp2_with fail;refine Be ?_;intro w2 hw2;have b2:Below w1.heap.size w1 w2:=by rw [hw2];go_grown
 clear hw2;have b3:=b1.trans (b2.mono b1.size);refine (Za w2 g2 a2 n2 c2 q (h.keep b3).low).mono ?_;rintro e w4 ⟨rfl,hb4⟩;go_wp2_with fail;go_ret;exact ⟨rfl,b3.trans (hb4.mono b3.size)⟩
theorem bE (w:World) (B n c:Nat) (a:Option Addr) (l:List PT) (h:Bc w B a n c l) (hcw:∀t∈l,CW t.2) (a':Option Addr) (n' c':Nat) (z:Int) (hz:Lh l=some (z,1)) (h0:0≤z) (h9:z<1000000000) (bd:Nat) (hbd:bd≤1000000) :
  Calls Tryz.prog 80 #[.agg #[.bool false,.slice a n c,.slice a' n' c'],.int .i64 bd] w (fun e w'=>e=.returned (.tuple #[.int .i64 (if z≤bd then z else bd+1),.bool true])∧Below w.heap.size w w'):=by
 have HB:=Ac w.heap.size w;go_enter Tryz.func80,Tryz.ntmps80;go_wp2_with fail;refine Be ?_;intro w0 hw0;have b0:Below w.heap.size w w0:=by rw [hw0];go_grown
 clear hw0;refine (Ut w0 B n c a l (h.keep b0) hcw a' n' c').mono ?_;rintro e w1 ⟨g1,a1,n1,c1,g2,a2,n2,c2,rfl,hf,hb1⟩;have b1:=b0.trans (hb1.mono b0.size);rw [hz];have hF:=hf (z,1) hz;have q1:=Cp hF.top (by show z.natAbs<_;omega);have q2:=Cp hF.low (by show (1:Int).natAbs<_;decide);replace hF:Bi w1 g1 a1 n1 c1 z g2 a2 n2 c2 1:=hF;clear hf;go_wp2_with fail;refine Be ?_;intro w2 hw2;have k2:Below w1.heap.size w1 w2:=by rw [hw2];go_grown
 have C2:Blk w2 w1.heap.size #[.bool g1,.slice a1 n1 c1,.bool g2,.slice a2 n2 c2] 34:=by rw [hw2];exact Bj rfl _ _
 clear hw2;have b2:=b1.trans (k2.mono b1.size);refine (lD w2 g1 a1 n1 c1 z g2 a2 n2 c2 1 (hF.keep k2) qA qA).mono ?_;rintro e w3 ⟨rfl,hb3⟩;have C3:=C2.keep hb3;have x0:=C3.cell 0 _ rfl;have x1:=C3.cell 1 _ rfl;have x2:=C3.cell 2 _ rfl;have x3:=C3.cell 3 _ rfl;have b3:=b2.trans (hb3.mono b2.size);have hF3:=(hF.keep k2).keep hb3;have hneg:¬Bz z 0<0:=by
  rcases Int.lt_or_eq_of_le h0 with h|h
  ·rw [Dy h];decide
  ·rw [←h,Eo];decide
 go_wp2_with fail;refine (Fx w3 g1 a1 n1 c1 z g2 a2 n2 c2 1 hF3 qA qA).mono ?_;rintro e w4 ⟨rfl,hb4⟩;replace x0:=Bb hb4 x0;replace x1:=Bb hb4 x1;have b4:=b3.trans (hb4.mono b3.size);have hF4:=hF3.keep hb4;go_wp2_with fail;refine (Ur w4 g1 a1 n1 c1 z hF4.top h0 qA).mono ?_;rintro e w5 ⟨rfl,hb5⟩;have b5:=b4.trans (hb5.mono b4.size);by_cases hle:z≤bd
 ·go_wp2_with fail;exact bodyPost_ret (v:=.tuple #[.int .i64 z,.bool true]) (by simp [results,Tryz.results80,go_sem]) rfl ⟨rfl,b5⟩
 ·go_wp2_with fail;exact bodyPost_ret (v:=.tuple #[.int .i64 (bd+1),.bool true]) (by simp [results,Tryz.results80,go_sem]) rfl ⟨by first|rfl|(rw [if_neg qA]),b5⟩
theorem Xw (w:World) (a:Option Addr) (n c:Nat) (d:List Nat) (hd:RdL w a n c d) (a':Option Addr) (c':Nat) (hd':RdL w a' n c' d) :
  Calls Tryz.prog 307 #[.slice a n c,.slice a' n c'] w fun e w'=>e=.returned (.bool true)∧Below w.heap.size w w':=by
 have HB:=Ac w.heap.size w;have hfew:=hd.few;go_enter Tryz.func307,Tryz.ntmps307;go_wp2_with fail;go_loopw [5] (fun v wr=>∃k:Nat,k≤n∧v=.int .i64 k∧Below w.heap.size w wr) (fun v _=>n-(intOf v).toNat)
 case atStart=>exact ⟨0,by omega,rfl,HB⟩
 case round =>
  obtain ⟨k,hk,rfl,HB⟩:=hrel;by_cases hlt:k<n
  ·obtain ⟨b,o,rfl,hc⟩:=(hd.keep HB).at' hlt;obtain ⟨b',o',rfl,hc'⟩:=(hd'.keep HB).at' hlt;generalize lim d k=x at *;go_wp2_with fail;go_quiet (fail);go_wp2_with fail;go_roundw
   case rel=>exact ⟨k+1,by omega,by go_num,Bu _ HB⟩
   case measure=>(first|(simp [intOf];omega)|(simp [intOf];done))
  ·exact qDl
theorem Tl (w:World) (g:Bool) (a:Option Addr) (n c:Nat) (d:List Nat) (hd:RdL w a n c d) (a':Option Addr) (c':Nat) (hd':RdL w a' n c' d) :
  Calls Tryz.prog 265 #[.agg #[.bool g,.slice a n c],.agg #[.bool g,.slice a' n c']] w fun e w'=>e=.returned (.bool true)∧Below w.heap.size w w':=by
 have HB:=Ac w.heap.size w;go_enter Tryz.func265,Tryz.ntmps265;go_wp2_with (first|(go_at_call 307;refine (Xw _ a n c d (hd.keep qF) a' c' (hd'.keep qF)).mono ?_;rintro e w1 ⟨rfl,hb⟩;have HB1:=zI w hb));go_ret;exact ⟨rfl,by first|assumption|go_grown⟩
theorem Zk (w:World) (g1:Bool) (a1:Option Addr) (n1 c1:Nat) (d1:List Nat) (h1:RdL w a1 n1 c1 d1) (g2:Bool) (a2:Option Addr) (n2 c2:Nat) (d2:List Nat) (h2:RdL w a2 n2 c2 d2) (a3:Option Addr) (c3:Nat) (h3:RdL w a3 n1 c3 d1) (a4:Option Addr) (c4:Nat) (h4:RdL w a4 n2 c4 d2) :
  Calls Tryz.prog 212 #[.agg #[.bool g1,.slice a1 n1 c1,.bool g2,.slice a2 n2 c2],.agg #[.bool g1,.slice a3 n1 c3,.bool g2,.slice a4 n2 c4]] w fun e w'=>e=.returned (.bool true)∧Below w.heap.size w w':=by
 go_enter Tryz.func212,Tryz.ntmps212;go_wp2_with fail;refine Be ?_;intro W0 hW0;have hb0:Below w.heap.size w W0:=by rw [hW0];go_grown
 have s2:W0.cell? ⟨w.heap.size,2,none⟩=some (.bool g2):=by rw [hW0];simp [go_sem]
 have s3:W0.cell? ⟨w.heap.size,3,none⟩=some (.slice a2 n2 c2):=by rw [hW0];simp [go_sem]
 have s6:W0.cell? ⟨w.heap.size+1,2,none⟩=some (.bool g2):=by rw [hW0];simp [go_sem]
 have s7:W0.cell? ⟨w.heap.size+1,3,none⟩=some (.slice a4 n2 c4):=by rw [hW0];simp [go_sem]
 clear hW0;refine (Tl W0 g1 a1 n1 c1 d1 (h1.keep hb0) a3 c3 (h3.keep hb0)).mono ?_;rintro e w1 ⟨rfl,hb1⟩;replace s2:=Bb hb1 s2;replace s3:=Bb hb1 s3;replace s6:=Bb hb1 s6;replace s7:=Bb hb1 s7;have hb01:=hb0.trans (hb1.mono hb0.size);go_wp2_with fail;refine (Tl w1 g2 a2 n2 c2 d2 (h2.keep hb01) a4 c4 (h4.keep hb01)).mono ?_;rintro e w2 ⟨rfl,hb2⟩;go_wp2_with fail;go_ret;exact ⟨rfl,hb01.trans (hb2.mono hb01.size)⟩
theorem Yo (w:World) (s t:Tm) (hs:Eb w s) (ht:Eb w t) (e1:s.g1=t.g1) (e2:s.d1=t.d1) (e3:s.g2=t.g2) (e4:s.d2=t.d2) (q0:s.m0=t.m0) (q1:s.m1=t.m1) (q2:s.m2=t.m2) (q3:s.m3=t.m3) :
  Calls Tryz.prog 141 #[s.val,t.val] w fun e w'=>e=.returned (.bool true)∧Below w.heap.size w w':=by
 obtain ⟨g1,a1,n1,c1,d1,g2,a2,n2,c2,d2,m0,m1,m2,m3⟩:=s;obtain ⟨g1',a1',n1',c1',d1',g2',a2',n2',c2',d2',m0',m1',m2',m3'⟩:=t;simp only at e1 e2 e3 e4 q0 q1 q2 q3;subst e1 e2 e3 e4 q0 q1 q2 q3;have h1:=hs.top;have h2:=hs.low;have h3:=ht.top;have h4:=ht.low;simp only at h1 h2 h3 h4;obtain rfl:n1=n1':=h1.len.symm.trans h3.len;obtain rfl:n2=n2':=h2.len.symm.trans h4.len;show Calls Tryz.prog 141 #[.agg #[.bool g1,.slice a1 n1 c1,.bool g2,.slice a2 n2 c2,.int .u16 m0,.int .u16 m1,.int .u16 m2,.int .u16 m3],.agg #[.bool g1,.slice a1' n1 c1',.bool g2,.slice a2' n2 c2',.int .u16 m0,.int .u16 m1,.int .u16 m2,.int .u16 m3]] w _;clear hs ht;go_enter Tryz.func141,Tryz.ntmps141;go_wp2_with fail;refine Be ?_;intro W0 hW0;have hb0:Below w.heap.size w W0:=by rw [hW0];go_grown
 have s0:W0.cell? ⟨w.heap.size,4,none⟩=some (.int .u16 m0):=by rw [hW0];simp [go_sem]
 have t0:W0.cell? ⟨w.heap.size+1,4,none⟩=some (.int .u16 m0):=by rw [hW0];simp [go_sem]
 have s1:W0.cell? ⟨w.heap.size,5,none⟩=some (.int .u16 m1):=by rw [hW0];simp [go_sem]
 have t1:W0.cell? ⟨w.heap.size+1,5,none⟩=some (.int .u16 m1):=by rw [hW0];simp [go_sem]
 have s2:W0.cell? ⟨w.heap.size,6,none⟩=some (.int .u16 m2):=by rw [hW0];simp [go_sem]
 have t2:W0.cell? ⟨w.heap.size+1,6,none⟩=some (.int .u16 m2):=by rw [hW0];simp [go_sem]
 have s3:W0.cell? ⟨w.heap.size,7,none⟩=some (.int .u16 m3):=by rw [hW0];simp [go_sem]
 have t3:W0.cell? ⟨w.heap.size+1,7,none⟩=some (.int .u16 m3):=by rw [hW0];simp [go_sem]
 clear hW0;refine (Zk W0 g1 a1 n1 c1 d1 (h1.keep hb0) g2 a2 n2 c2 d2 (h2.keep hb0) a1' c1' (h3.keep hb0) a2' c2' (h4.keep hb0)).mono ?_;rintro e w1 ⟨rfl,hb1⟩;replace s0:=Bb hb1 s0;replace t0:=Bb hb1 t0;replace s1:=Bb hb1 s1;replace t1:=Bb hb1 t1;replace s2:=Bb hb1 s2;replace t2:=Bb hb1 t2;replace s3:=Bb hb1 s3;replace t3:=Bb hb1 t3;have hb01:=hb0.trans (hb1.mono hb0.size);go_wp2_with fail;go_ret;exact ⟨by simp,hb01⟩
theorem Tx {s t:Tm} {x:PT} {w:World} (hs:Es s x) (ht:Es t x) (rs:Eb w s) (rt:Eb w t):s.g1=t.g1∧s.d1=t.d1∧s.g2=t.g2∧s.d2=t.d2∧s.m0=t.m0∧s.m1=t.m1∧s.m2=t.m2∧s.m3=t.m3 :=
 ⟨hs.g1.trans ht.g1.symm,hs.d1.trans ht.d1.symm,hs.g2.trans ht.g2.symm,hs.d2.trans ht.d2.symm,W8 rs.s0 rs.s1 rs.s2 rs.s3 rt.s0 rt.s1 rt.s2 rt.s3 (hs.key.trans ht.key.symm)⟩
theorem Ze (w:World) (B:Nat) (a:Option Addr) (n c:Nat) (l:List PT) (h:Bc w B a n c l) (B':Nat) (a':Option Addr) (n' c':Nat) (h':Bc w B' a' n' c' l) :
  Calls Tryz.prog 83 #[.slice a n c,.slice a' n' c'] w fun e w'=>e=.returned (.bool true)∧Below w.heap.size w w':=by
 have HB:=Ac w.heap.size w;obtain rfl:n=n':=h.len.symm.trans h'.len;obtain ⟨p,hp,hpx⟩:=h.ts;obtain ⟨q,hq,hqx⟩:=h'.ts;have hl:=h.len;have hfew:=hp.few;have HS:Hid (∀k,k<n→(p k).g1=(q k).g1∧(p k).d1=(q k).d1∧(p k).g2=(q k).g2∧(p k).d2=(q k).d2∧(p k).m0=(q k).m0∧(p k).m1=(q k).m1∧(p k).m2=(q k).m2∧(p k).m3=(q k).m3):=Ae fun k hk=>by
  obtain ⟨x,hx⟩:∃x,l[k]? = some x:=⟨_,Ai qA⟩;exact Tx (hpx k x hx).1 (hqx k x hx).1 (hp.tm k hk) (hq.tm k hk)
 clear hpx hqx h h' hl;go_enter Tryz.func83,Tryz.ntmps83;go_wp2_with fail;go_loopw [5] (fun v wr=>∃k:Nat,k≤n∧v=.int .i64 k∧Below w.heap.size w wr) (fun v _=>n-(intOf v).toNat)
 case atStart=>exact ⟨0,by omega,rfl,HB⟩
 case round =>
  obtain ⟨k,hk,rfl,HB⟩:=hrel;by_cases hlt:k<n
  ·obtain ⟨b,o,rfl,_⟩:=hp.cell.resolve_left qA;obtain ⟨b',o',rfl,_⟩:=hq.cell.resolve_left qA;obtain ⟨e0,e1,e2,e3,e4,e5,e6,e7⟩:=(hp.keep HB).at hlt;obtain ⟨i0,i1,i2,i3,i4,i5,i6,i7⟩:=(hq.keep HB).at hlt;have hC:=fun W (hW:Below w.heap.size w W)=>Yo W (p k) (q k) ((hp.tm k hlt).keep hW) ((hq.tm k hlt).keep hW) (HS.out k hlt).1 (HS.out k hlt).2.1 (HS.out k hlt).2.2.1 (HS.out k hlt).2.2.2.1 (HS.out k hlt).2.2.2.2.1 (HS.out k hlt).2.2.2.2.2.1 (HS.out k hlt).2.2.2.2.2.2.1 (HS.out k hlt).2.2.2.2.2.2.2
   have HC:=Ae hC;clear hC;go_wp2_with fail;replace e0:=Cl e0;replace i0:=Cl i0;replace e1:=Cl e1;replace i1:=Cl i1;replace e2:=Cl e2;replace i2:=Cl i2;replace e3:=Cl e3;replace i3:=Cl i3;replace e4:=Cl e4;replace i4:=Cl i4;replace e5:=Cl e5;replace i5:=Cl i5;replace e6:=Cl e6;replace i6:=Cl i6;replace e7:=Cl e7;replace i7:=Cl i7;(refine Cg qC qC ?_;(repeat (go_big_quiet_step (first|(go_at_call 141;exact Gn (HC.out _ (HB.trans (Below.mono (Subtype.property _) HB.size)))))));refine wpQuiet_nil ?_;intro _ hw0;obtain ⟨nq,hw0⟩:=hw0;subst hw0);obtain ⟨w3,hb3⟩:=nq;try dsimp only
   go_wp2_with fail;go_roundw
   case rel=>exact ⟨k+1,by omega,by go_num,HB.trans (hb3.mono HB.size)⟩
   case measure=>(first|(simp [intOf];omega)|(simp [intOf];done))
  ·exact qDl
theorem sP (w:World) (s t:Tm) (hs:Eb w s) (ht:Eb w t) (x:PT) (is:Es s x) (it:Es t x) (hcx:CW x.2) (q1:s.n1≤1000000) (q2:s.n2≤1000000) (q3:t.n1≤1000000) (q4:t.n2≤1000000) :
  Calls Tryz.prog 66 #[s.val,t.val] w (fun e w'=>e=.returned (.bool true)∧Below w.heap.size w w'):=by
 obtain ⟨k1,_,k2,_,e0,e1,e2,e3⟩:=Tx is it hs ht;have hF:=is.frac hs hcx;rw [k1,k2] at hF;have hG:=it.frac ht hcx;have HB:=Ac w.heap.size w;clear is it hs ht;go_enter Tryz.func66,Tryz.ntmps66;go_wp2_with fail;refine Be ?_;intro w0 hw0;have b0:Below w.heap.size w w0:=by rw [hw0];go_grown
 clear hw0;refine (jC w0 _ _ _ _ _ _ _ _ _ _ (hF.keep b0) _ _ _ _ _ _ _ _ _ _ (hG.keep b0) qA qA qA qA).mono ?_;rintro e w1 ⟨rfl,hb1⟩;have hz:Bz (x.2.1*x.2.2) (x.2.1*x.2.2)=0:=Eo _;rw [hz];go_wp2_with fail;go_ret;exact ⟨rfl,b0.trans (hb1.mono b0.size)⟩
theorem kO (w:World) (a:Option Addr) (n c:Nat) (p:Nat→Tm) (hp:RdP w a n c p) (a':Option Addr) (c':Nat) (q:Nat→Tm) (hq:RdP w a' n c' q)
  (hh:∀i,i<n→∃x:PT,Es (p i) x∧Es (q i) x∧CW x.2) (h1:∀k,k<n→(p k).n1≤1000000∧(p k).n2≤1000000) (h2:∀k,k<n→(q k).n1≤1000000∧(q k).n2≤1000000) :
  Calls Tryz.prog 65 #[.slice a n c,.slice a' n c',.func (.func 66) #[] #[]] w (fun e w'=>e=.returned (.bool true)∧Below w.heap.size w w'):=by
 have HB:=Ac w.heap.size w;have hn:=hp.few;have HH:=Ae (Ay hh (Ay h1 h2));clear hh h1 h2;go_enter Tryz.func65,Tryz.ntmps65;go_wp2_with fail;go_loopw [17] (fun v17 wr=>∃(i:Nat),i≤n∧v17=.int .i64 i∧Below w.heap.size w wr) (fun v17 _=>n-(intOf v17).toNat)
 case atStart=>exact ⟨0,by omega,rfl,HB⟩
 case round =>
  obtain ⟨i,hi,rfl,HBr⟩:=hrel;clear HB;by_cases hlt:i<n
  ·have hpr:=hp.keep HBr;have hqr:=hq.keep HBr;have HT:=hpr.tm i hlt;have HU:=hqr.tm i hlt;obtain ⟨b,o,rfl,_⟩:=hp.cell.resolve_left qA;obtain ⟨b',o',rfl,_⟩:=hq.cell.resolve_left qA;obtain ⟨e0,e1,e2,e3,e4,e5,e6,e7⟩:=hpr.at hlt;obtain ⟨d0,d1,d2,d3,d4,d5,d6,d7⟩:=hqr.at hlt;have k1:=HH.out.2.1 i hlt;have k2:=HH.out.2.2 i hlt;have l1:=Aa _ _ e0;have l2:=Aa _ _ d0;obtain ⟨x,ix,iy,hcx⟩:=HH.out.1 i hlt;have HIX:=Ae (Ay ix (Ay iy hcx));have HQP:=Ae (Ay hp hq);clear ix iy hcx hp hq hpr hqr;go_wp2_with fail;refine Be ?_;intro w0 hw0;have b0:Below wr.heap.size wr w0:=by rw [hw0];go_grown
   clear hw0;refine (sP w0 (p i) (q i) (HT.keep b0) (HU.keep b0) x HIX.out.1 HIX.out.2.1 HIX.out.2.2 k1.1 k1.2 k2.1 k2.2).mono ?_;exact qBy
  ·obtain rfl:i=n:=by omega
   go_wp2_with fail;go_ret;exact ⟨rfl,HBr⟩
theorem oA (w:World) (B n c:Nat) (a:Option Addr) (l:List PT) (h:Bc w B a n c l) (B' n' c':Nat) (a':Option Addr) (h':Bc w B' a' n' c' l) (hl:PW l) (K:Nat) (hK:Dd K l) (hK1:K≤1000000) :
  Calls Tryz.prog 21 #[.slice a n c,.slice a' n' c'] w (fun e w'=>e=.returned (.bool true)∧Below w.heap.size w w'):=by
 have hnn:n'=n:=by rw [←h.len,←h'.len]
 subst hnn;obtain ⟨p,hp,hpx⟩:=h.ts;obtain ⟨q,hq,hqx⟩:=h'.ts;have f1:=h.few hK hp hpx;have f2:=h'.few hK hq hqx;have o1:=h.pok hl hp hpx;have o2:=h'.pok hl hq hqx;have hlen:=h.len;have HX:=Ae (Ay (show ∀i,i<n'→∃x:PT,Es (p i) x∧Es (q i) x∧CW x.2 from fun i hi=>by
  have hx:l[i]? = some l[i]:=Ai qA;exact ⟨_,(hpx i _ hx).1,(hqx i _ hx).1,(hl.good _ (List.getElem_mem _)).1⟩) (Ay (show ∀k,k<n'→(p k).n1≤1000000∧(p k).n2≤1000000 from fun k hk=>by have:=f1 k hk;omega) (show ∀k,k<n'→(q k).n1≤1000000∧(q k).n2≤1000000 from fun k hk=>by have:=f2 k hk;omega)))
 have HO:=Ae (Ay o1 o2);have HB:=Ac w.heap.size w;clear h h' hpx hqx f1 f2 o1 o2;go_enter Tryz.func21,Tryz.ntmps21;go_wp2_with fail;refine (Kl w a n' c p hp HX.out.2.1 true ⟨fun _=>rfl,fun _=>HO.out.1⟩).mono ?_;rintro e w1 ⟨rfl,hb1⟩;go_wp2_with fail;refine (Kl w1 a' n' c' q (hq.keep hb1) HX.out.2.2 true ⟨fun _=>rfl,fun _=>HO.out.2⟩).mono ?_;rintro e w2 ⟨rfl,hb2⟩;have b2:=hb1.trans (hb2.mono hb1.size);go_wp2_with fail;refine (kO w2 a n' c p (hp.keep b2) a' c' q (hq.keep b2) HX.out.1 HX.out.2.1 HX.out.2.2).mono ?_;rintro e w3 ⟨rfl,hb3⟩;go_wp2_with fail;go_ret;exact ⟨rfl,b2.trans (hb3.mono b2.size)⟩
theorem Cd.keep0 {w w':World} {b p:Nat} {xs:List VT} (h:Cd w 0 none b p xs) (hb:Below w.heap.size w w'):Cd w' 0 none b p xs:=Cd.of fun i x hx=>by
 obtain ⟨v0,v1,v2,c0,c1,c2,hv⟩:=h.at hx;exact ⟨v0,v1,v2,Bb hb c0,Bb hb c1,Bb hb c2,hv.keep hb⟩
abbrev jG (w:World) (e:Ending) (w':World):Prop:=e=.returned (.bool true)∧Below w.heap.size w w'
theorem gU (w:World) (xs:List VT) (a:Option Addr) (c:Nat) (a':Option Addr) (c':Nat) (hn:xs.length≤2000) (h:xs=[]∨∃b p,a=some ⟨b,p,none⟩∧Cd w 0 none b p xs) (h':xs=[]∨∃b p,a'=some ⟨b,p,none⟩∧Cd w 0 none b p xs)
  (IH:∀x∈xs,∀(W:World) (v0 v1 v2 u0 u1 u2:Value),Bt W 0 none v0 v1 v2 x→Bt W 0 none u0 u1 u2 x→Calls Tryz.prog 78 #[.agg #[v0,v1,v2],.agg #[u0,u1,u2]] W (jG W)) :
  Calls Tryz.prog 138 #[.slice a xs.length c,.slice a' xs.length c',.func (.func 78) #[] #[]] w (jG w):=by
 have HB:=Ac w.heap.size w;obtain ⟨n,hnx⟩:∃n,n=xs.length:=⟨_,rfl⟩;rw [←hnx] at hn ⊢;have HN:=Ae hnx;have HR:=Ae (Ay h h');have HI:=Ae IH;clear hnx h h' IH;go_enter Tryz.func138,Tryz.ntmps138;go_wp2_with fail;go_loopw [17] (fun v17 wr=>∃(i:Nat),i≤n∧v17=.int .i64 i∧Below w.heap.size w wr) (fun v17 _=>n-(intOf v17).toNat)
 case atStart=>exact ⟨0,by omega,rfl,HB⟩
 case round =>
  obtain ⟨i,hi,rfl,HBr⟩:=hrel;clear HB;by_cases hlt:i<n
  ·have hx0:xs≠[]:=by intro e;have:=HN.out;rw [e] at this;simp at this;omega
   obtain ⟨b,p,rfl,hv⟩:=HR.out.1.resolve_left hx0;obtain ⟨b',p',rfl,hv'⟩:=HR.out.2.resolve_left hx0;obtain ⟨x,hx⟩:∃x,xs[i]? = some x:=⟨_,Ai (by rw [←HN.out];exact hlt)⟩;obtain ⟨v0,v1,v2,c0,c1,c2,hva⟩:=hv.at hx;obtain ⟨u0,u1,u2,d0,d1,d2,hua⟩:=hv'.at hx;obtain ⟨f,ax,nx,cx,ay,ny,cy,rfl,rfl,rfl⟩:=hva.form;obtain ⟨f',ax',nx',cx',ay',ny',cy',rfl,rfl,rfl⟩:=hua.form;have HX:=Ae (Ay hx (Ay (hva.keep HBr) (hua.keep HBr)))
   (replace c0:=Bb HBr c0;replace c1:=Bb HBr c1;replace c2:=Bb HBr c2;replace d0:=Bb HBr d0;replace d1:=Bb HBr d1;replace d2:=Bb HBr d2)
   have l1:=Aa _ _ c0;have l2:=Aa _ _ d0;clear hx hva hua hv hv';go_wp2_with fail;refine Be ?_;intro w0 hw0;have b0:Below wr.heap.size wr w0:=by rw [hw0];go_grown
   clear hw0;refine (HI.out x (A7 HX.out.1) w0 _ _ _ _ _ _ (HX.out.2.1.keep b0) (HX.out.2.2.keep b0)).mono ?_;exact qBy
  ·obtain rfl:i=n:=by omega
   go_wp2_with fail;go_ret;exact ⟨rfl,HBr⟩
theorem wT:∀(k:Nat) (t:VT),t.dep≤k→∀(d:Nat) (w:World) (v0 v1 v2 u0 u1 u2:Value),Bt w 0 none v0 v1 v2 t→Bt w 0 none u0 u1 u2 t→VT.Ok d t→Calls Tryz.prog 78 #[.agg #[v0,v1,v2],.agg #[u0,u1,u2]] w (jG w):=by
 intro k
 induction k with
 | zero=>intro t ht;cases t;rw [VT.dep] at ht;omega
 | succ k ih =>
  intro t ht d w v0 v1 v2 u0 u1 u2 h h' hok;obtain ⟨f,l,xs⟩:=t;rw [VT.dep] at ht;rw [Bt] at h h';rw [VT.Ok] at hok;obtain ⟨rfl,⟨a,n,c,rfl,hp,_⟩,a',c',rfl,k2,k3,k4,hrow⟩:=h;obtain ⟨rfl,⟨b,n',e,rfl,hp',_⟩,b',e',rfl,j2,j3,j4,hrow'⟩:=h';have hpw:PW l:=by
   exact qCv
  have hfw:Dd 5000 l:=by
   rcases hok with ⟨_,_,_,_,h⟩|⟨_,rfl,_⟩
   ·exact h
   ·exact fun t ht=>(by cases ht)
  have hxl:xs.length≤2000:=by
   rcases hok with ⟨_,rfl,_⟩|⟨_,_,h,_⟩
   ·simp
   ·exact h
  have hxo:∃d',∀x∈xs,VT.Ok d' x:=by
   rcases hok with ⟨_,rfl,_⟩|⟨_,_,_,_,h⟩
   ·exact ⟨0,fun x hx=>(by cases hx)⟩
   ·exact ⟨d+1,VT.OkL_iff.1 h⟩
  obtain ⟨d',hd'⟩:=hxo;have HI:=Ae (fun (x:VT) (hx:x∈xs) (W:World) (v0 v1 v2 u0 u1 u2:Value) (hv:Bt W 0 none v0 v1 v2 x) (hu:Bt W 0 none u0 u1 u2 x)=>ih x (by have:=VT.depL_mem (xs:=xs) hx;omega) d' W v0 v1 v2 u0 u1 u2 hv hu (hd' x hx));have HR:=Ae (Ay hrow hrow');have HB:=Ac w.heap.size w;clear ih hok hrow hrow' hd';go_enter Tryz.func78,Tryz.ntmps78;go_wp2_with fail;refine Be ?_;intro w0 hw0;have b0:Below w.heap.size w w0:=by rw [hw0];go_grown
  have A0:Blk w0 w.heap.size #[.bool f,.slice a n c,.slice a' xs.length c'] 60:=by rw [hw0];exact (Bj rfl _ _).alloc _
  have B0:Blk w0 (w.heap.size+1) #[.bool f,.slice b n' e,.slice b' xs.length e'] 60:=by rw [hw0];exact Bj qG _ _
  clear hw0;refine (oA w0 0 n c a l (hp.keep b0) 0 n' e b (hp'.keep b0) hpw 5000 hfw qA).mono ?_;rintro e1 w1 ⟨rfl,hb1⟩;have b1:=b0.trans (hb1.mono b0.size);have x2:=(A0.keep hb1).cell 2 _ rfl;have y2:=(B0.keep hb1).cell 2 _ rfl;go_wp2_with fail;refine (gU w1 xs a' c' b' e' hxl (HR.out.1.imp id fun⟨b,p,e,_,h⟩=>⟨b,p,e,Cd.keep0 h b1⟩) (HR.out.2.imp id fun⟨b,p,e,_,h⟩=>⟨b,p,e,Cd.keep0 h b1⟩) HI.out).mono ?_;rintro e1 w2 ⟨rfl,hb2⟩;go_wp2_with fail;go_ret;exact ⟨rfl,b1.trans (hb2.mono b1.size)⟩
theorem vX {w:World} {B B' d:Nat} {o o':Option Nat} {v0 v1 v2 u0 u1 u2:Value} {t:VT} (h:Bt w B o v0 v1 v2 t) (h':Bt w B' o' u0 u1 u2 t) (hok:VT.Ok d t):Calls Tryz.prog 78 #[.agg #[v0,v1,v2],.agg #[u0,u1,u2]] w (jG w):=wT t.dep t (Ad _) d w _ _ _ _ _ _ h.read h'.read hok
theorem gK (w:World) (B n c:Nat) (a:Option Addr) (l:List PT) (h:Bc w B a n c l) (B' n' c':Nat) (a':Option Addr) (h':Bc w B' a' n' c' l) (b:Option Addr) (e:Nat) (b':Option Addr) (e':Nat) :
  Calls Tryz.prog 27 #[.agg #[.bool false,.slice a n c,.slice b 0 e],.agg #[.bool false,.slice a' n' c',.slice b' 0 e']] w (jG w):=by
 have HB:=Ac w.heap.size w;have hvs:∀W,Calls Tryz.prog 84 #[.slice b 0 e,.slice b' 0 e'] W (fun x w'=>x=.returned (.bool true)∧w'=W):=fun W=>by
  go_enter Tryz.func84,Tryz.ntmps84;go_wp2_with fail;refine wp_loop_rounds 1 ?_;rw [rounds_succ];go_wp2_with fail;go_ret;exact ⟨rfl,rfl⟩
 go_enter Tryz.func27,Tryz.ntmps27;go_wp2_with fail;refine Be ?_;intro w0 hw0;have b0:Below w.heap.size w w0:=by rw [hw0];go_grown
 have A0:Blk w0 w.heap.size #[.bool false,.slice a n c,.slice b 0 e] 60:=by rw [hw0];exact (Bj rfl _ _).alloc _
 have B0:Blk w0 (w.heap.size+1) #[.bool false,.slice a' n' c',.slice b' 0 e'] 60:=by rw [hw0];exact Bj qG _ _
 clear hw0;refine (Ze w0 B a n c l (h.keep b0) B' a' n' c' (h'.keep b0)).mono ?_;rintro e1 w1 ⟨rfl,hb1⟩;have b1:=b0.trans (hb1.mono b0.size);have x2:=(A0.keep hb1).cell 2 _ rfl;have y2:=(B0.keep hb1).cell 2 _ rfl;go_wp2_with fail;refine (hvs _).mono ?_;rintro e1 w2 ⟨rfl,rfl⟩;go_wp2_with fail;go_ret;exact ⟨rfl,b1⟩
theorem Kt (w:World) (b p c:Nat) (xs:List VT) (h0:xs≠[]) (hc:xs.length≤c) (hn:xs.length≤10) (h:Cd w 0 none b p xs) (hok:∀x∈xs,VT.Ok 1 x) :
  Calls Tryz.prog 72 #[.slice (some ⟨b,p,none⟩) xs.length c,.func (.func 87) #[] #[]] w (fun e w'=>e=.returned (.bool false)∧Below w.heap.size w w'):=by
 obtain ⟨rs,e1,e2,e3⟩:=dE 1 h fun x hx v0 v1 v2 hv=>tI w x.dep x (Ad _) 1 v0 v1 v2 hv (hok x hx)
 have H:=dF w (some ⟨b,p,none⟩) c rs qA qA (.inr ⟨b,p,rfl,e2⟩) 87 #[] (enters_of Tryz.func87 qC rfl) (fun x=>¬RT.Chk 1 x) (fun x hx W v0 v1 v2 hW hv=>by
  have HB:=Ac W.heap.size W;have HV:=Ae hv;clear hv;go_enter Tryz.func87,Tryz.ntmps87;go_wp2_with fail;refine Be ?_;intro w1 hw1;have b1:Below W.heap.size W w1:=by rw [hw1];go_grown
  clear hw1;refine (Sg w1 v0 v1 v2 x (VAt.keep b1 HV.out)).mono ?_;rintro e w2 ⟨r,rfl,hr,hb2⟩;have HRR:=Ae hr;clear hr;go_wp2_with fail;go_ret;exact ⟨_,rfl,by rw [←HRR.out];cases r<;>simp,b1.trans (hb2.mono b1.size)⟩)
 rw [e1] at H;refine H.mono ?_;rintro e w' ⟨r,rfl,hr,hb⟩;refine ⟨?_,hb⟩;cases r
 ·rfl
 ·obtain ⟨x,hx,hn⟩:=hr.1 rfl;exact absurd (RT.ChkL_iff.1 e3 x hx) hn
theorem gH (w:World) (b p c:Nat) (hc:1≤c) (h:Cd w 0 none b p [.node false pA []]) :
  Calls Tryz.prog 148 #[.slice (some ⟨b,p,none⟩) 1 c,.int .i64 0] w (E9 w N7 0):=by
 have HB:=Ac w.heap.size w;obtain ⟨v0,v1,v2,d0,d1,d2,hv⟩:=h.at (i:=0) rfl;rw [Nat.zero_mul,Nat.add_zero] at d0 d1 d2;rw [Bt] at hv;obtain ⟨rfl,⟨a,n,ca,rfl,hp,_⟩,a',c',rfl,_⟩:=hv;have hbl:=Aa _ _ d0;clear h;go_enter Tryz.func148,Tryz.ntmps148;go_wp2_with fail;refine Be ?_;intro w1 hw1;have b1:Below w.heap.size w w1:=by rw [hw1];go_grown
 have R1:Blk w1 w.heap.size #[.bool false,.slice none 0 0,.slice none 0 0] 60:=by rw [hw1];exact Bj rfl _ _
 clear hw1;refine (oN w1 0 n ca a (hp.keep b1)).mono ?_;rintro e w2 ⟨g1,a1,n1,c1,g2,a2,n2,c2,G,aM,nM,cM,aP,nP,cP,rfl,hF,l0,l1,l2,l3,hM,oM,hP,oP,hb2⟩;have b2:=b1.trans (hb2.mono b1.size);have R2:=R1.keep hb2;go_wp2_with fail;refine (kU w2 g1 a1 n1 c1 g2 a2 n2 c2 G aM nM cM aP nP cP hF l0 l1 l2 l3 hM oM hP oP).mono ?_;rintro e w3 ⟨u0,u1,u2,rfl,hv,hb3⟩;obtain ⟨f,ax,nx,cx,ay,ny,cy,rfl,rfl,rfl⟩:=hv.form;have b3:=b2.trans (hb3.mono b2.size);have R3:=R2.keep hb3;have r0:=R3.cell 0 _ rfl;have r1:=R3.cell 1 _ rfl;have r2:=R3.cell 2 _ rfl;have f0:=R3.frozen 0;have f1:=R3.frozen 1;have f2:=R3.frozen 2;have rl:=R3.lt;have rl2:=R2.lt;have HV:=Ae hv;clear hv;go_wp2_with fail;refine bodyPost_ret (v:=.tuple #[.agg #[.bool f,.slice ax nx cx,.slice ay ny cy],.int .i64 0]) (by simp [results,Tryz.results148,go_sem,rl,r0,r1,r2]) rfl ?_;exact ⟨_,_,_,rfl,((Ez HV.out rl2 R3 _ _ _).other (.inl qG)).down b2.size,Cf b3 (Ad _) _ _ _⟩
theorem eD (w:World) (b p c:Nat) (hc:1≤c) (h:Cd w 0 none b p [.node false pA []]) :
  Calls Tryz.prog 31 #[.string ⟨#[102,97,99]⟩,.slice (some ⟨b,p,none⟩) 1 c] w (E9 w N7 0):=by
 have HB:=Ac w.heap.size w;obtain ⟨v0,v1,v2,d0,d1,d2,hv⟩:=h.at (i:=0) rfl;rw [Nat.zero_mul,Nat.add_zero] at d0 d1 d2;have HVR:=Ae h;rw [Bt] at hv;obtain ⟨rfl,⟨a,n,ca,rfl,hp,_⟩,a',c',rfl,_⟩:=hv;clear h;go_enter Tryz.func31,Tryz.ntmps31;go_wp2_with fail;refine Be ?_;intro w1 hw1;have b1:Below w.heap.size w w1:=by rw [hw1];go_grown
 have R1:Blk w1 w.heap.size #[.bool false,.slice none 0 0,.slice none 0 0] 60:=by rw [hw1];exact Bj rfl _ _
 clear hw1;refine (Qg w1).mono ?_;rintro e w2 ⟨rfl,M2,hb2⟩;have b2:=b1.trans (hb2.mono b1.size);have R2:=R1.keep hb2;have q:=cU w2 w1.heap.size 10 (rE w1.heap.size 10) _ _ _ M2.m (iQ _);go_wp2_with fail;refine Be ?_;intro w3 hw3;have k3:Below w2.heap.size w2 w3:=by rw [hw3];go_grown
 have C3:Blk w3 w2.heap.size #[.slice (some ⟨w1.heap.size+4,0,none⟩) 1 1,.func (.func 148) #[] #[]] 134:=by rw [hw3];exact Bj rfl _ _
 clear hw3 q;have b3:=b2.trans (k3.mono b2.size);refine (Kt w3 b p c [.node false pA []] qG (by simpa using hc) qG (HVR.out.keep0 b3) (fun x hx=>by rw [Ao.1 hx];exact Gr smA 1)).mono ?_;rintro e w4 ⟨rfl,hb4⟩;have b4:=b3.trans (hb4.mono b3.size);have k4:=(M2.keep k3).k4.keep hb4;have C4:=C3.keep hb4;have R4:=(R2.keep k3).keep hb4;have y0:=C4.cell 0 _ rfl;have y1:=C4.cell 1 _ rfl;have yk:=k4.cell 0 _ rfl
 (replace d0:=Bb b4 d0;replace d1:=Bb b4 d1;replace d2:=Bb b4 d2)
 go_wp2_with fail;refine wp_loop_rounds 2 ?_;rw [rounds_succ];go_wp2_with fail;rw [rounds_succ];go_wp2_with fail;refine (gH w4 b p c hc (HVR.out.keep0 b4)).mono ?_;exact qAo
theorem nN (w:World) (b p c:Nat) (hc:1≤c) (xs:List VT) (hl:xs.length≤40) (i:Nat) (x:VT) (hx:xs[i]? = some x) (hok:VT.Ok 2 x) (y:VT) (h:Cd w 0 none b p [.node true [] xs,y]) :
  Calls Tryz.prog 155 #[.slice (some ⟨b,p,none⟩) 2 2,.int .i64 i] w (E9 w x 0):=by
 have HB:=Ac w.heap.size w;obtain ⟨v0,v1,v2,d0,d1,d2,hv⟩:=h.at (i:=0) rfl;rw [Nat.zero_mul,Nat.add_zero] at d0 d1 d2;rw [Bt] at hv;have hil:i<xs.length:=(List.getElem?_eq_some_iff.1 hx).1;obtain ⟨rfl,⟨a,n,ca,rfl,hp,_⟩,a',c',rfl,h2,h3,_,hr⟩:=hv;obtain ⟨b',p',rfl,_,hr⟩:=hr.resolve_left (by rintro rfl;simp at hil);obtain ⟨q0,q1,q2,g0,g1,g2,hq⟩:=hr.at hx;obtain ⟨fq,aq,nq,cq,aq',nq',cq',rfl,rfl,rfl⟩:=hq.form;have hbl:=Aa _ _ d0;have hbg:=Aa _ _ g0;have HX:=Ae hq;clear h hr hq;go_enter Tryz.func155,Tryz.ntmps155;go_wp2_with fail;refine Be ?_;intro w1 hw1;have b1:Below w.heap.size w w1:=by rw [hw1];go_grown
 have R1:Blk w1 w.heap.size #[.bool false,.slice none 0 0,.slice none 0 0] 60:=by rw [hw1];exact Bj rfl _ _
 clear hw1;refine (vG (HX.out.keep b1) hok).mono ?_;rintro e w3 ⟨u0,u1,u2,rfl,hv,hb3⟩;obtain ⟨f,ax,nx,cx,ay,ny,cy,rfl,rfl,rfl⟩:=hv.form;have b3:=b1.trans (hb3.mono b1.size);have R3:=R1.keep hb3;have r0:=R3.cell 0 _ rfl;have r1:=R3.cell 1 _ rfl;have r2:=R3.cell 2 _ rfl;have f0:=R3.frozen 0;have f1:=R3.frozen 1;have f2:=R3.frozen 2;have rl:=R3.lt;have rl2:=R1.lt;have HV:=Ae hv;clear hv;go_wp2_with fail;refine bodyPost_ret (v:=.tuple #[.agg #[.bool f,.slice ax nx cx,.slice ay ny cy],.int .i64 0]) (by simp [results,Tryz.results155,go_sem,rl,r0,r1,r2]) rfl ?_;exact qBz
theorem We (w:World) (b p c:Nat) (hc:1≤c) (xs:List VT) (hl:xs.length≤40) (y:VT) (h:Cd w 0 none b p [.node true [] xs,y]) :
  Calls Tryz.prog 155 #[.slice (some ⟨b,p,none⟩) 2 2,.int .i64 xs.length] w (E9 w Pn 12):=by
 have HB:=Ac w.heap.size w;obtain ⟨v0,v1,v2,d0,d1,d2,hv⟩:=h.at (i:=0) rfl;rw [Nat.zero_mul,Nat.add_zero] at d0 d1 d2;rw [Bt] at hv;obtain ⟨rfl,⟨a,n,ca,rfl,hp,_⟩,a',c',rfl,h2,h3,_,hr⟩:=hv;have hbl:=Aa _ _ d0;clear h hr;go_enter Tryz.func155,Tryz.ntmps155;go_wp2_with fail;have R1:Blk (w.alloc (.cells #[.bool false,.slice none 0 0,.slice none 0 0] 60)) w.heap.size #[.bool false,.slice none 0 0,.slice none 0 0] 60:=Bj rfl _ _;have r0:=R1.cell 0 _ rfl;have r1:=R1.cell 1 _ rfl;have r2:=R1.cell 2 _ rfl;have rl:=R1.lt;refine bodyPost_ret (v:=.tuple #[.agg #[.bool false,.slice none 0 0,.slice none 0 0],.int .i64 12]) (by simp [results,Tryz.results155,go_sem,rl,r0,r1,r2]) rfl ?_;exact ⟨_,_,_,rfl,Mm (Bc.nil _ 0) (Bk.nil _ 0),by go_grown⟩
theorem Y4:∀n:Nat,n≤40→Lh (Ju ((n:Int),1))=some ((n:Int),1):=by decide +kernel
theorem jM:∀n:Nat,n≤40→smB (Ju ((n:Int),1))=true:=by decide +kernel
theorem cZ (n:Nat) (h:n≤40):Sm (Ju ((n:Int),1)):=Sm.of (jM n h)
theorem mN (i:Nat) (hi:i≤40):VT.Ok 1 (Hk i):=Gr (cZ i hi) 1
theorem W6 (w:World) (b p:Nat) (xs:List VT) (i:Nat) (hi:i≤40) (t:VT) (er:Int) (hok:VT.Ok 1 (.node true [] xs)) (h:Cd w 0 none b p [.node true [] xs,Hk i]) (hd:∀w',Below w.heap.size w w'→Calls Tryz.prog 155 #[.slice (some ⟨b,p,none⟩) 2 2,.int .i64 i] w' (E9 w' t er)) :
  Calls Tryz.prog 31 #[.string ⟨#[97,116]⟩,.slice (some ⟨b,p,none⟩) 2 2] w (E9 w t er):=by
 have HB:=Ac w.heap.size w;obtain ⟨v0,v1,v2,d0,d1,d2,hv⟩:=h.at (i:=0) rfl;rw [Nat.zero_mul,Nat.add_zero] at d0 d1 d2;have HVR:=Ae h;obtain ⟨q0,q1,q2,g0,g1,g2,hn⟩:=h.at (i:=1) rfl;rw [Nat.one_mul] at g0 g1 g2;rw [Hk,Bt] at hn;rw [Bt] at hv;obtain ⟨rfl,⟨a,n,ca,rfl,hp,_⟩,a',c',rfl,_⟩:=hv;obtain ⟨rfl,⟨am,nm,cm,rfl,hpm,_⟩,am',cm',rfl,_⟩:=hn;have HD:=Ae hd;clear h hd;go_enter Tryz.func31,Tryz.ntmps31;go_wp2_with fail;refine Be ?_;intro w1 hw1;have b1:Below w.heap.size w w1:=by rw [hw1];go_grown
 have R1:Blk w1 w.heap.size #[.bool false,.slice none 0 0,.slice none 0 0] 60:=by rw [hw1];exact Bj rfl _ _
 clear hw1;refine (Qg w1).mono ?_;rintro e w2 ⟨rfl,M2,hb2⟩;have b2:=b1.trans (hb2.mono b1.size);have R2:=R1.keep hb2;have q:=cU w2 w1.heap.size 10 (rE w1.heap.size 10) _ _ _ M2.m (rO _);go_wp2_with fail;refine Be ?_;intro w3 hw3;have k3:Below w2.heap.size w2 w3:=by rw [hw3];go_grown
 have C3:Blk w3 w2.heap.size #[.slice (some ⟨w1.heap.size+9,0,none⟩) 2 2,.func (.func 155) #[] #[]] 134:=by rw [hw3];exact Bj rfl _ _
 clear hw3 q;have b3:=b2.trans (k3.mono b2.size);refine (Kt w3 b p 2 [.node true [] xs,Hk i] qG qG qG (HVR.out.keep0 b3) (fun x hx=>by simp only [List.mem_cons,List.not_mem_nil,or_false] at hx;rcases hx with rfl|rfl;exact hok;exact mN i hi)).mono ?_;rintro e w4 ⟨rfl,hb4⟩;have b4:=b3.trans (hb4.mono b3.size);have k4:=(M2.keep k3).k9.keep hb4;have C4:=C3.keep hb4;have R4:=(R2.keep k3).keep hb4;have y0:=C4.cell 0 _ rfl;have y1:=C4.cell 1 _ rfl;have yk:=k4.cell 0 _ rfl;have yk2:=k4.cell 1 _ rfl
 (replace d0:=Bb b4 d0;replace d1:=Bb b4 d1;replace d2:=Bb b4 d2;replace g0:=Bb b4 g0;replace g1:=Bb b4 g1;replace g2:=Bb b4 g2)
 go_wp2_with fail;refine wp_loop_rounds 3 ?_;rw [rounds_succ];go_wp2_with fail;rw [rounds_succ];go_wp2_with fail;refine (bE w4 0 nm cm am _ (hpm.keep b4) (fun t ht=>((cZ i hi).pw.good t ht).1) am' _ cm' i (Y4 i hi) qA qA 2000 qA).mono ?_;rintro e w5 ⟨rfl,hb5⟩;rw [if_pos qA];have b5:=b4.trans (hb5.mono b4.size);have R5:=R4.keep hb5;replace C4:=C4.keep hb5;replace k4:=k4.keep hb5;replace y0:=C4.cell 0 _ rfl;replace y1:=C4.cell 1 _ rfl;replace yk:=k4.cell 0 _ rfl;replace yk2:=k4.cell 1 _ rfl;go_wp2_with fail;rw [rounds_succ];go_wp2_with fail;refine (HD.out w5 b5).mono ?_;rintro e w6 ⟨u0,u1,u2,rfl,hv,hb6⟩;obtain ⟨f,ax,nx,cx,ay,ny,cy,rfl,rfl,rfl⟩:=hv.form;have b6:=b5.trans (hb6.mono b5.size);have R6:=R5.keep hb6;have r0:=R6.cell 0 _ rfl;have r1:=R6.cell 1 _ rfl;have r2:=R6.cell 2 _ rfl;have f0:=R6.frozen 0;have f1:=R6.frozen 1;have f2:=R6.frozen 2;have rl:=R6.lt;have rl4:=R5.lt;have HV:=Ae hv;clear hv;go_wp2_with fail;refine bodyPost_ret (v:=.tuple #[.agg #[.bool f,.slice ax nx cx,.slice ay ny cy],.int .i64 er]) (by simp [results,Tryz.results31,go_sem,rl,r0,r1,r2]) rfl ?_;exact ⟨_,_,_,rfl,((Ez HV.out rl4 R6 _ _ _).other (.inl qG)).down b5.size,Cf b6 (Ad _) _ _ _⟩
end Go.Proofs.YtnnhcbeiogaknaaGreatDoor
end
