/- Package parts: by, Prim. -/
import Derived.Test.YtnnhcbeiogaknaaGreatDoorQV25
set_option linter.unusedSimpArgs false
set_option linter.unusedVariables false
set_option maxRecDepth 100000
set_option maxHeartbeats 4000000
section
namespace Go.Proofs.YtnnhcbeiogaknaaGreatDoor
open Go.RowKit
theorem Bj.setB {w:World} {g1:Bool} {a1:Γ} {n1 c1:Nat} {p:Int} {g2:Bool} {a2:Γ} {n2 c2:Nat} {q:Int} {B:Nat} {x:Addr} {u:Value} (k1:Nw B n1 a1) (k2:Nw B n2 a2) (hp:x.block<B) (h:Bj w g1 a1 n1 c1 p g2 a2 n2 c2 q):Bj (w.setCell x u) g1 a1 n1 c1 p g2 a2 n2 c2 q :=
 ⟨h.top.setB k1 hp,h.low.setB k2 hp,h.pos,h.red⟩
theorem Bj.allocB {w:World} {g1:Bool} {a1:Γ} {n1 c1:Nat} {p:Int} {g2:Bool} {a2:Γ} {n2 c2:Nat} {q:Int} {o:Obj} (h:Bj w g1 a1 n1 c1 p g2 a2 n2 c2 q):Bj (w.alloc o) g1 a1 n1 c1 p g2 a2 n2 c2 q:=⟨h.top.allocB,h.low.allocB,h.pos,h.red⟩
def yK (w wc:World) (v:Value) (y:PC):Prop:=∃b g1 a1 n1 c1 g2 a2 n2 c2,v=.pointer (some ⟨b,0,none⟩)∧wc.cell? ⟨b,0,none⟩=some (.bool g1)∧wc.cell? ⟨b,1,none⟩=some (.slice a1 n1 c1)∧wc.cell? ⟨b,2,none⟩=some (.bool g2)∧wc.cell? ⟨b,3,none⟩=some (.slice a2 n2 c2)∧Bj wc g1 a1 n1 c1 y.1 g2 a2 n2 c2 y.2∧Nw w.heap.size n1 a1∧Nw w.heap.size n2 a2∧Below w.heap.size w wc
theorem eT {K:Nat} {y:PC} (h:By K y):By K (Hi (1,1) y):=by
 have e:Hi (1,1) y=Zl y.2 y.1:=by rw [Sw,Int.one_mul,Int.mul_one]
 rw [e];unfold Zl
 split
 ·refine ⟨?_,?_⟩
  ·show (dg (-(y.2/_)).natAbs).length≤K;rw [Int.natAbs_neg];exact Ah (Gw _ _) h.2
  ·show (dg (-(y.1/_)).natAbs).length≤K;rw [Int.natAbs_neg];exact Ah (Gw _ _) h.1
 ·exact ⟨Ah (Gw _ _) h.2,Ah (Gw _ _) h.1⟩
theorem by_c (w:World) (B:Nat) (a:Γ) (n c:Nat) (l:Δ) (h:Bd w B a n c l) (hl:PW l) (K:Nat) (hK:Cj K l) (hK1:K≤1000000) (hn:n≤400000)
  (g1:Bool) (a1:Γ) (n1 c1:Nat) (g2:Bool) (a2:Γ) (n2 c2:Nat) (y:PC) (hy:Bj w g1 a1 n1 c1 y.1 g2 a2 n2 c2 y.2) (h0:y.1≠0) (q1:n1≤1000000) (q2:n2≤1000000) (hw:∀k,wtk (Gh (Hi (1,1) y) l) k≤400000) :
  Θ 67 #[.slice a n c,.agg #[.bool g1,.slice a1 n1 c1,.bool g2,.slice a2 n2 c2]] w (Cl w (Nz (Hi (1,1) y) l)):=by
 have HW:=Ae hw;have HB:=Ac w.heap.size w;clear hw;go_enter Tryz.func67,Tryz.ntmps67;go_wp2_with fail;have hfi:By 1000000 (Hi (1,1) y):=eT ⟨by have:=hy.top.rd.len;omega,by have:=hy.low.rd.len;omega⟩;have HF:=Ae hfi;clear hfi;go_cut [5] (fun v5 wc=>yK w wc v5 (Hi (1,1) y))
 case first =>
  go_region_held3 (fun W=>W.cell? ⟨w.heap.size,0,none⟩=some (.bool g1)∧W.cell? ⟨w.heap.size,1,none⟩=some (.slice a1 n1 c1)∧W.cell? ⟨w.heap.size,2,none⟩=some (.bool g2)∧W.cell? ⟨w.heap.size,3,none⟩=some (.slice a2 n2 c2)) (first|((try dsimp only);(repeat' apply Ay);all_goals (first|(with_reducible assumption)|(go_keep;done)|(simp [*,go_sem];done)))) (first
   | (go_at_call 10;(with_reducible refine (Fh _ 1 qA qA).mono ?_);rintro e w1 ⟨g3,a3,n3,c3,g4,a4,n4,c4,rfl,hone,hf3,hf4,hap,hb⟩;obtain ⟨hc,hf⟩:=Bl hb;have hz:=hb.size;(try simp only [Aj,Ak,Am] at hz);replace HB:=zI w hb;obtain ⟨s0_0,s0_1⟩:=qZ hc (w.heap.size) (.bool g1) (.slice a1 n1 c1);obtain ⟨s0_2,s0_3⟩:=zD hc (w.heap.size) (.bool g2) (.slice a2 n2 c2);have hq3:=Co hone.top qI;have hq4:=Co hone.low qI;(try have k0:w.heap.size<w1.heap.size:=by omega);(try have k1:w.heap.size+1<w1.heap.size:=by omega);(try have k2:w.heap.size+1+1<w1.heap.size:=by omega))
   | (go_at_call 17;(with_reducible refine (oD _ _ _ _ _ (1,1) _ _ _ _ (hone.keep qF) _ _ _ _ y _ _ _ _ (hy.keep qF) h0 qA qA qA qA).mono ?_);rintro e w2 ⟨g5,a5,n5,c5,g6,a6,n6,c6,rfl,hres,hf5,hf6,hb⟩;obtain ⟨hc,hf⟩:=Bl hb;have hz:=hb.size;(try simp only [Aj,Ak,Am] at hz);replace HB:=zI w hb;obtain ⟨s0_0,s0_1⟩:=qZ hc (w.heap.size) (.bool g1) (.slice a1 n1 c1);obtain ⟨s0_2,s0_3⟩:=zD hc (w.heap.size) (.bool g2) (.slice a2 n2 c2);(try have k0:w.heap.size<w2.heap.size:=by omega);(try have k1:w.heap.size+1<w2.heap.size:=by omega);(try have k2:w.heap.size+1+1<w2.heap.size:=by omega);(try have k4:w1.heap.size<w2.heap.size:=by omega)))
  all_goals
   exact qBf
 case rest =>
  obtain ⟨b,g5,a5,n5,c5,g6,a6,n6,c6,rfl,z0,z1,z2,z3,hres,-,-,HC⟩:=hcut;go_wp2_with fail;refine (Wb wc B a n c l (h.keep HC) hl K hK hK1 hn _ _ _ _ _ _ _ _ (Hi (1,1) y) (fun _=>hres) (by have h5:=Eu hres.top HF.out.1;omega) (by have h5:=Eu hres.low HF.out.2;omega) HW.out).mono ?_;exact qCa
def BoxZ (w wc:World) (v:Value):Prop:=∃b,v=.pointer (some ⟨b,0,none⟩)∧wc.cell? ⟨b,0,none⟩=some (.bool false)∧wc.cell? ⟨b,1,none⟩=some (.slice none 0 0)∧wc.cell? ⟨b,2,none⟩=some (.bool false)∧wc.cell? ⟨b,3,none⟩=some (.slice none 0 0)∧Below w.heap.size w wc
theorem Aba (w:World) (B:Nat) (a:Γ) (c:Nat) (h:Bd w B a 0 c [])
  (g1:Bool) (a1:Γ) (n1 c1:Nat) (g2:Bool) (a2:Γ) (n2 c2:Nat) (y:PC) (hy:Bj w g1 a1 n1 c1 y.1 g2 a2 n2 c2 y.2) (h0:y.1=0) (q1:n1≤1000000) (q2:n2≤1000000) :
  Θ 67 #[.slice a 0 c,.agg #[.bool g1,.slice a1 n1 c1,.bool g2,.slice a2 n2 c2]] w (Cl w []):=by
 have HB:=Ac w.heap.size w;go_enter Tryz.func67,Tryz.ntmps67;go_wp2_with fail;go_cut [5] (fun v5 wc=>BoxZ w wc v5)
 case first =>
  go_region_held3 (fun W=>W.cell? ⟨w.heap.size,0,none⟩=some (.bool g1)∧W.cell? ⟨w.heap.size,1,none⟩=some (.slice a1 n1 c1)∧W.cell? ⟨w.heap.size,2,none⟩=some (.bool g2)∧W.cell? ⟨w.heap.size,3,none⟩=some (.slice a2 n2 c2)) (first|((try dsimp only);(repeat' apply Ay);all_goals (first|(with_reducible assumption)|(go_keep;done)|(simp [*,go_sem];done)))) (first
   | (go_at_call 10;(with_reducible refine (Fh _ 1 qA qA).mono ?_);rintro e w1 ⟨g3,a3,n3,c3,g4,a4,n4,c4,rfl,hone,hf3,hf4,hap,hb⟩;obtain ⟨hc,hf⟩:=Bl hb;have hz:=hb.size;(try simp only [Aj,Ak,Am] at hz);replace HB:=zI w hb;obtain ⟨s0_0,s0_1⟩:=qZ hc (w.heap.size) (.bool g1) (.slice a1 n1 c1);obtain ⟨s0_2,s0_3⟩:=zD hc (w.heap.size) (.bool g2) (.slice a2 n2 c2);have hq3:=Co hone.top qI;have hq4:=Co hone.low qI;(try have k0:w.heap.size<w1.heap.size:=by omega);(try have k1:w.heap.size+1<w1.heap.size:=by omega);(try have k2:w.heap.size+1+1<w1.heap.size:=by omega))
   | (go_at_call 17;(with_reducible refine (iC _ _ _ _ _ (1,1) _ _ _ _ (hone.keep qF) _ _ _ _ y _ _ _ _ (hy.keep qF) h0 qA qA qA qA).mono ?_);rintro e w2 ⟨rfl,hb⟩;obtain ⟨hc,hf⟩:=Bl hb;have hz:=hb.size;(try simp only [Aj,Ak,Am] at hz);replace HB:=zI w hb;obtain ⟨s0_0,s0_1⟩:=qZ hc (w.heap.size) (.bool g1) (.slice a1 n1 c1);obtain ⟨s0_2,s0_3⟩:=zD hc (w.heap.size) (.bool g2) (.slice a2 n2 c2);(try have k0:w.heap.size<w2.heap.size:=by omega);(try have k1:w.heap.size+1<w2.heap.size:=by omega);(try have k2:w.heap.size+1+1<w2.heap.size:=by omega);(try have k4:w1.heap.size<w2.heap.size:=by omega)))
  all_goals
   go_wp2_with fail;go_meet
   case rel =>
    refine ⟨_,rfl,?_,?_,?_,?_,?_⟩
    ·simp [*,go_sem]
    ·simp [*,go_sem]
    ·simp [*,go_sem]
    ·simp [*,go_sem]
    ·go_grown
 case rest =>
  obtain ⟨b,rfl,z0,z1,z2,z3,HC⟩:=hcut;go_wp2_with fail;refine (Wb wc B a 0 c [] (h.keep HC) ⟨by simp [Ct],fun t ht=>by simp at ht,fun t ht=>by simp at ht⟩ 0 (fun t ht=>by simp at ht) qA qA _ _ _ _ _ _ _ _ (0,1) (fun h=>absurd rfl h) qA qA (fun k=>by simp [Gh,wtk,wt])).mono ?_;exact qCa
theorem Ms:∀{l:Δ} {x:Int×Int},(l≠[]∨x.1≠0)→I6 l→(l.foldl Fa x).1≠0
 | [],x,h,_=>h.resolve_left (fun h=>h rfl)
 | t::l,x,_,hg=>by
  refine Ms (l:=l) (.inr ?_) (fun y hy=>hg y (by simp [hy]));have:0<Int.gcd x.1 t.2.1:=Int.gcd_pos_of_ne_zero_right _ (hg t qG).2;show ((Int.gcd x.1 t.2.1:Nat):Int)≠0;omega
theorem eR {a b:Int} (ha:a≠0) (hb:0<b):E6 a b≠0:=by
 unfold E6;intro h;have hd:((Int.gcd a b:Nat):Int)∣a:=Int.gcd_dvd_left ..;have:=Int.mul_ediv_cancel' hd;rw [h,Int.mul_zero] at this;exact ha this.symm
theorem vC {t l:Int} (h:l≠0):CW (Zl t l):=by
 unfold Zl
 split
 ·rename_i h0;have h1:=N5 (p:=t) h0;rw [Int.ediv_neg,Int.ediv_neg] at h1;exact ⟨h1.1,h1.2⟩
 ·have h1:=Ro (p:=t) (q:=l) qA;exact ⟨h1.1,h1.2⟩
theorem Abe {y:PC} (h:y.1≠0):CW (Hi (1,1) y):=by
 rw [Sw];exact vC (by rw [Int.mul_one];exact h)
theorem Xm (w:World) (B:Nat) (a:Γ) (c:Nat) (h:Bd w B a 0 c []) :
  Θ 68 #[.slice a 0 c] w (Eg w 0 1):=by
 obtain ⟨p,hp,hpx⟩:=h.ts;have hok:=h.pok ⟨by simp [Ct],fun t ht=>by simp at ht,fun t ht=>by simp at ht⟩ hp hpx;have P1:=Ae hok;have HB:=Ac w.heap.size w;clear hok hpx;go_enter Tryz.func68,Tryz.ntmps68;go_wp2_with fail;refine (E4 _ a 0 c p (hp.keep qF) (fun k hk=>by omega) true ⟨fun _=>rfl,fun _=>P1.out⟩).mono ?_;rintro e w1 ⟨rfl,hb1⟩;have R1:B4 w1 w.heap.size (.bool false) (.slice none 0 0) (.bool false) (.slice none 0 0):=B4.keep (w:=w.alloc (.cells #[.bool false,.slice none 0 0,.bool false,.slice none 0 0] 34)) (by constructor<;>simp [go_sem]) hb1;have HB1:Below w.heap.size w w1:=Al qF (hb1.mono qG);clear HB hb1;go_wp2_with fail;refine (Fh w1 0 qA qA).mono ?_;rintro e w2 ⟨g9,a9,n9,c9,gA,aA,nA,cA,rfl,hres,hf9,hfA,hap9,hb2⟩;have R2:=R1.keep hb2;have HB2:=HB1.trans (hb2.mono HB1.size);have hl:=R1.lt;have fe:Bg (w.heap.size+1) w2 a9 c9:=hf9.mono qA;have ff:Bg (w.heap.size+1) w2 aA cA:=hfA.mono qA;have u:w.heap.size<w.heap.size+1:=Ag _;obtain ⟨r0,r1,r2,r3,rf0,rf1,rf2,rf3⟩:=R2;go_wp2_with fail;refine bodyPost_ret (v:=.agg #[.bool g9,.slice a9 n9 c9,.bool gA,.slice aA nA cA]) (by simp [results,Tryz.results68,go_sem,r0,r1,r2,r3]) rfl ?_;exact qBq
theorem nR {t:PT} {l:Δ} (hg:I6 (t::l)) {K:Nat} (hK:Cj K (t::l)):CW (Iw (t::l))∧(Iw (t::l)).1≠0∧By (K*(l.length+1)+2) (Iw (t::l)):=by
 have h0:=(hg t qG).2;have hco:=Sq hg hK Uu;have hne:=Ms (x:=(0,1)) (.inl qG) hg;rw [T6 h0];generalize (t::l).foldl Fa (0,1)=X at *;have hc1:CW (E6 X.1 X.2,Fi X.1 X.2):=CW.low hco.pos;have hs:Bz t.2.1 0=1∨Bz t.2.1 0=-1:=by
  rcases Int.lt_or_gt_of_ne h0 with h|h
  ·exact .inr (Dx h)
  ·exact .inl (Ee h)
 have hf1:By (K*(l.length+1)+1) (E6 X.1 X.2,Fi X.1 X.2):=⟨Ah (Ni X.1 X.2 hco.pos).1 hco.k1,Ah (Ni X.1 X.2 hco.pos).2 hco.k2⟩;have hf2:By 1 (Bz t.2.1 0,(1:Int)):=by
  refine ⟨?_,by show (dg 1).length≤1;rw [Dg];omega⟩;show (dg (Bz t.2.1 0).natAbs).length≤1;rcases hs with h|h<;>rw [h]<;>(show (dg 1).length≤1;rw [Dg];omega)
 refine ⟨hc1.mul (H6 _),?_,?_⟩
 ·show E6 (E6 X.1 X.2*Bz t.2.1 0) (Fi X.1 X.2*1)≠0;refine eR (Int.mul_ne_zero (eR hne hco.pos) (by rcases hs with h|h<;>rw [h]<;>decide)) ?_;rw [Int.mul_one];exact hc1.pos
 ·have h9:=By.mul hc1 (H6 (Bz t.2.1 0)) hf1 hf2;exact h9
theorem Abs (w:World) (B:Nat) (a:Γ) (n c:Nat) (l:Δ) (h:Bd w B a n c l) (hl:PW l) (K:Nat) (hK:Cj K l) (hn:n*(K*n+K+4)≤400000) (hK1:K≤100000) :
  Θ 22 #[.slice a n c] w (Cl w (Ck l)):=by
 have hnl:=h.len
 match l,h,hl,hK with
 | [],h,hl,hK =>
  obtain rfl:n=0:=by simpa using hnl.symm
  go_enter Tryz.func22,Tryz.ntmps22;go_wp2_with fail;refine (Xm w B a c h).mono ?_;rintro e w1 ⟨g1,a1,n1,c1,g2,a2,n2,c2,rfl,hfr,hf1,hf2,hap,hb1⟩;have q1:=Co hfr.top qI;have q2:=Co hfr.low qI;go_wp2_with fail;refine (Aba w1 B a c (h.keep hb1) _ _ _ _ _ _ _ _ (0,1) hfr rfl qA qA).mono ?_;exact qBy
 | t::l,h,hl,hK =>
  have hcw:=nR hl.good hK;have hlen:l.length+1=n:=by simpa using hnl
  rw [hlen] at hcw;have hn0:1≤n:=by omega
  have e1:n*(K*n+K+4)=n*(K*n)+n*K+n*4:=by rw [Nat.mul_add,Nat.mul_add]
  have e2:1*(K*n)≤n*(K*n):=Nat.mul_le_mul_right _ hn0;have HW:Hid (∀k,wtk (Gh (Hi (1,1) (Iw (t::l))) (t::l)) k≤400000):=Ae fun k=>by
   refine Ah (Kf _ k) ?_;have h2:wt (Gh (Hi (1,1) (Iw (t::l))) (t::l))≤(Gh (Hi (1,1) (Iw (t::l))) (t::l)).length*(K+(K*n+2)+1):=Xv fun x hx=>by
    obtain ⟨y,hy,rfl⟩:=List.mem_map.1 hx;refine By.mul (hl.good y hy).1 ?_ (hK y hy) (eT hcw.2.2);exact Abe hcw.2.1
   have h3:(Gh (Hi (1,1) (Iw (t::l))) (t::l)).length=n:=by simp [Gh];omega
   rw [h3] at h2;refine Ah h2 (Ah (At n ?_) hn);omega
  go_enter Tryz.func22,Tryz.ntmps22;go_wp2_with fail;refine (Vu w B a n c t l h hl K hK qA).mono ?_;rintro e w1 ⟨g1,a1,n1,c1,g2,a2,n2,c2,rfl,hfr,hf1,hf2,hap,hb1⟩;have q1:=Eu hfr.top hcw.2.2.1;have q2:=Eu hfr.low hcw.2.2.2;have HE:=Ae hcw;clear hcw hlen hnl;go_wp2_with fail;refine (by_c w1 B a n c (t::l) (h.keep hb1) hl K hK qA qA _ _ _ _ _ _ _ _ (Iw (t::l)) hfr HE.out.2.1 qA qA HW.out).mono ?_;exact qBy
def Ps (p q:Δ):Option (Δ):=ck (Hx p q)
def Ui (p q:Δ):Option (Δ):=ck (Lj p q)
def Qu (p q:Δ):Option (Δ):=if C8 p q then ck (En p q) else none
def Na:Δ:=[(0,1,1)]
def C9 (l:Δ):Bool:=match l with|[]=>true|[t]=>t.1==0|_=>false
def inM (a b:Nat):Bool:=exN b 0≤exN a 0&&exN b 1≤exN a 1&&exN b 2≤exN a 2&&exN b 3≤exN a 3
def Kw (d:Δ) (h:PT):Nat→Δ→Δ→Δ→Option (Δ×Δ)
 | _,[],o,r=>some (o,r)
 | 0,_,_,_=>none
 | n+1,t::p,o,r =>
  if inM t.1 h.1 then
   (ck [(t.1-h.1,Hi t.2 h.2)]).bind fun u=>(Qu d u).bind fun f=>(Ps o u).bind fun o'=>(Ui (t::p) f).bind fun p'=>Kw d h n p' o' r
  else (Ps r [t]).bind fun r'=>(Ui (t::p) [t]).bind fun p'=>Kw d h n p' o r'
def Fd (p d:Δ):Option (Option (Δ)) :=
 match d with
 | []=>none
 | h::_=>(Kw d h 100 p [] []).map fun x=>if x.2=[] then some x.1 else none
def I2 (c:Δ) (x n:Nat):Δ:=c.map fun t=>(t.1+n*unN x,t.2)
def Ph (x:Nat) (s:List (Δ)):Nat→Option (Δ)
 | 0=>some []
 | n+1=>(Ph x s n).bind fun o=>Ps o (I2 (s.getD n []) x n)
def Ex (s:List (Δ)):List (Δ):=(s.reverse.dropWhile (fun c=>c.isEmpty)).reverse
def Tw (a b:List (Δ)) (i:Nat):Option (Δ) :=
 (Qu (a.getD i []) (b.getLastD [])).bind fun t =>
  if a.length-b.length≤i then (Qu (b.getD (i-(a.length-b.length)) []) (a.getLastD [])).bind fun u=>Ui t u else some t
def I7 (a b:List (Δ)):Nat→Option (List (Δ))
 | 0=>some []
 | n+1=>(I7 a b n).bind fun l=>(Tw a b n).map fun x=>l++[x]
def Nq (b:List (Δ)):Nat→List (Δ)→Option (List (Δ))
 | 0,a=>if a.length<b.length then some a else none
 | n+1,a=>if a.length<b.length then some a else (I7 a b (a.length-1)).bind fun l=>Nq b n (Ex l)
def Jv (p:Δ) (x:Nat):Δ:=Hp (p.map fun t=>(if exN t.1 x=0 then t.1 else t.1-unN x,Ca t.2 (exN t.1 x,1)))
theorem Kn {l:Δ} (hl:PW l):Gh (-1,1) l=l.map fun t=>(t.1,(-t.2.1,t.2.2)):=by
 unfold Gh;refine List.map_congr_left fun t ht=>?_
 rw [Iu (hl.good t ht).1]
theorem oI {l:Δ} (hl:PW l):PW (Gh (-1,1) l):=by
 rw [Kn hl];refine ⟨?_,fun t ht=>?_,fun t ht=>?_⟩
 ·exact List.pairwise_map.2 hl.falls
 ·obtain ⟨x,hx,rfl⟩:=List.mem_map.1 ht;have h:=hl.good x hx;exact ⟨⟨h.1.pos,by show Int.gcd (-x.2.1) x.2.2=1;rw [Int.neg_gcd];exact h.1.red⟩,by show -x.2.1≠0;have:=h.2;omega⟩
 ·obtain ⟨x,hx,rfl⟩:=List.mem_map.1 ht;exact hl.key x hx
theorem wI {l:Δ} (hl:PW l) {K:Nat} (hK:Cj K l):Cj K (Gh (-1,1) l):=by
 rw [Kn hl];intro t ht;obtain ⟨x,hx,rfl⟩:=List.mem_map.1 ht;have h:=hK x hx;exact ⟨by show (dg (-x.2.1).natAbs).length≤K;rw [Int.natAbs_neg];exact h.1,h.2⟩
theorem tI:By 1 ((-1,1):PC):=⟨by show (dg 1).length≤1;rw [Dg];omega,by show (dg 1).length≤1;rw [Dg];omega⟩
theorem Dy {l r:Δ} (h:ck l=some r):r=l∧Sm l:=by
 unfold ck at h
 split at h
 ·rename_i h1;exact ⟨by cases h;rfl,Sm.of h1⟩
 ·cases h
section
variable {w:World} {B B' n n' c c':Nat} {a a':Γ} {l l':Δ}
theorem Tr (h:Bd w B a n c l) (hl:Sm l) (h':Bd w B' a' n' c' l') (hl':Sm l') :
  Θ 45 #[.slice a n c,.slice a' n' c'] w (Cl w (Hx l l')):=by
 have e:Hx l l'=Cu l l':=Tn hl.pw hl'.pw;rw [e];have:=h.len;have:=h'.len;have:=hl.len;have:=hl'.len;exact Me w B a n c l h hl.pw 100 hl.few B' a' n' c' l' h' hl'.pw 100 hl'.few qA qA qA
theorem fK (h:Bd w B a n c l) (hl:Sm l) (h':Bd w B' a' n' c' l') (hl':Sm l') :
  Θ 12 #[.slice a n c,.slice a' n' c'] w (Cl w (Lj l l')):=by
 have e:Nz (-1,1) l'=Gh (-1,1) l':=Fx (oI hl'.pw);have:=h.len;have:=h'.len;have:=hl.len;have:=hl'.len;refine Ac3 w B a n c l h hl.pw 100 hl.few B' a' n' c' l' h' hl'.pw 100 hl'.few (by rw [e];exact oI hl'.pw) (by rw [e];exact wI hl'.pw hl'.few) (by rw [e];simp [Gh];omega) qA qA qA (fun k=>gQ hl' (H6 (-1)) (By.mono tI qA) k)
theorem oO (h:Bd w B a n c l) (hl:Sm l) (h':Bd w B' a' n' c' l') (hl':Sm l') (hok:C8 l l'=true) :
  Θ 11 #[.slice a n c,.slice a' n' c'] w (F7 w (En l l')):=by
 have h1:=h.len;have h2:=h'.len;have h3:=hl.len;have h4:=hl'.len;exact yA w B a n c l h hl.pw 100 hl.few B' a' n' c' l' h' hl'.pw 100 hl'.few qA qA (by have:=Nat.mul_le_mul (show n≤40 by omega) (show n'≤40 by omega);omega) hok (iQ hl hl')
theorem Kb (h:Bd w B a n c l) (hl:Sm l):Θ 22 #[.slice a n c] w (Cl w (Ck l)):=by
 have h1:=h.len;have h2:=hl.len;refine Abs w B a n c l h hl.pw 100 hl.few ?_ qA;have:=Nat.mul_le_mul (show n≤40 by omega) (show 100*n+100+4≤4104 by omega);omega
end
theorem oF {w:World} {B n c:Nat} {a:Γ} {x:PT} {l:Δ} (h:Bd w B a n c (x::l)) (hl:Sm (x::l)) :
  Θ 245 #[.int .u8 0,.slice a n c] w (eX w x):=Aan w B a n c x l h hl.pw 100 hl.few qA
theorem gR {x:PT} {l:Δ} (hl:Sm (x::l)):Sm [x] :=
 ⟨⟨by simp [Ct],fun t ht=>hl.pw.good t (by simp only [Ao] at ht;simp [ht]),fun t ht=>hl.pw.key t (by simp only [Ao] at ht;simp [ht])⟩,fun t ht=>hl.few t (by simp only [Ao] at ht;simp [ht]),by simp⟩
end Go.Proofs.YtnnhcbeiogaknaaGreatDoor
end
