/- Package polys: Add. -/
import Derived.Test.YtnnhcbeiogaknaaGreatDoorQV18
import Derived.Test.YtnnhcbeiogaknaaGreatDoorQV17
set_option linter.unusedSimpArgs false
set_option linter.unusedVariables false
set_option maxRecDepth 100000
set_option maxHeartbeats 4000000
section
namespace Go.Proofs.YtnnhcbeiogaknaaGreatDoor
open Go.RowKit
theorem Yu {a b:Δ} (ha:PW a) (hb:PW b) {K K':Nat} (hK:Cj K a) (hK':Cj K' b) (i k:Nat) (y:PC) (h:Dj ((a++b).take i) k=some y):By (K+K'+1) y∧k<18446744073709551616:=by
 have hf:Ct (a.take i):=ha.falls.sublist (List.take_sublist _ _);have hf':Ct (b.take (i-a.length)):=hb.falls.sublist (List.take_sublist _ _);rw [List.take_append,Zi _ _ hf hf'] at h;have m1:∀c,lk (a.take i) k=some c→(k,c)∈a:=fun c hc=>List.mem_of_mem_take (Hb hc)
 have m2:∀c,lk (b.take (i-a.length)) k=some c→(k,c)∈b:=fun c hc=>List.mem_of_mem_take (Hb hc)
 cases h1:lk (a.take i) k with
 | none =>
  cases h2:lk (b.take (i-a.length)) k with
  | none=>rw [h1,h2] at h;cases h
  | some d =>
   rw [h1,h2] at h;cases h
   exact ⟨By.mono (hK' _ (m2 _ h2)) qA,hb.key _ (m2 _ h2)⟩
 | some c =>
  cases h2:lk (b.take (i-a.length)) k with
  | none =>
   rw [h1,h2] at h;cases h
   exact ⟨By.mono (hK _ (m1 _ h1)) qA,ha.key _ (m1 _ h1)⟩
  | some d =>
   rw [h1,h2] at h;cases h
   exact ⟨By.add (ha.good _ (m1 _ h1)).1 (hb.good _ (m2 _ h2)).1 (hK _ (m1 _ h1)) (hK' _ (m2 _ h2)),ha.key _ (m1 _ h1)⟩
def Kq (n:Nat) (p q:Nat→Tm):Nat→Tm:=fun i=>if i<n then p i else q (i-n)
theorem Zy (n:Nat) (p q:Nat→Tm) (k:Nat):Ds (Kq n p q) (n+k)=Ds p n++Ds q k:=by
 induction k with
 | zero =>
  rw [Nat.add_zero];have:Ds (Kq n p q) n=Ds p n:=Yi fun j hj=>by simp [Kq,hj]
  simp [this,Ds]
 | succ k ih =>
  rw [←Nat.add_assoc,Ds,ih,Ds,List.append_assoc];have:Kq n p q (n+k)=q k:=by unfold Kq;rw [if_neg qA];congr 1;omega
  rw [this]
def Cl (w:World) (l:Δ) (e:Ending) (w':World):Prop:=∃a n c,e=.returned (.slice a n c)∧Bd w' w.heap.size a n c l∧Bm w' w.heap.size a n c∧Below w.heap.size w w'
theorem nK {w:World} {base base':Nat} {e:TypeId} {size:Nat} {v:Value} {n:Nat} {xs:List Value} (h:w.ownsRow base e size v n xs) (hb:base'≤base):w.ownsRow base' e size v n xs :=
 ⟨h.1,h.2.imp id fun⟨g,cap,cur,h1,h2,h3⟩=>⟨g,cap,cur,h1,Ah hb h2,h3⟩⟩
theorem U2 {w:World} {base:Nat} {e:TypeId} {size:Nat} {v:Value} {n:Nat} {xs:List Value} (h:w.ownsRow base e size v n xs):∃ao co,v=.slice ao n co∧(n=0∨∃g,ao=some ⟨g,0,none⟩):=by
 rcases h.2 with ⟨rfl,h0⟩|⟨g,cap,cur,rfl,_⟩
 ·subst h0;exact ⟨none,0,rfl,.inl rfl⟩
 ·exact ⟨_,_,rfl,.inr ⟨g,rfl⟩⟩
theorem Me (wo:World) (B:Nat) (a:Γ) (n c:Nat) (l:Δ) (h:Bd wo B a n c l) (hl:PW l) (K:Nat) (hK:Cj K l) (B':Nat) (a':Γ) (n' c':Nat) (l':Δ) (h':Bd wo B' a' n' c' l') (hl':PW l') (K':Nat) (hK':Cj K' l')
  (hKK:K+K'<1000000) (hn:n≤500000) (hn':n'≤500000) :
  Θ 45 #[.slice a n c,.slice a' n' c'] wo (Cl wo (Cu l l')):=by
 have HB:=Ac wo.heap.size wo;obtain ⟨p,hp,hpx⟩:=h.ts;obtain ⟨q,hq,hqx⟩:=h'.ts;have hpok:=h.pok hl hp hpx;have hqok:=h'.pok hl' hq hqx;have hpf:=h.few hK hp hpx;have hqf:=h'.few hK' hq hqx;have P1:=Ae hpok;have P2:=Ae hqok;have P3:Hid (∀k,k<n→(p k).n1≤1000000∧(p k).n2≤1000000):=Ae fun k hk=>by have:=hpf k hk;omega
 have P4:Hid (∀k,k<n'→(q k).n1≤1000000∧(q k).n2≤1000000):=Ae fun k hk=>by have:=hqf k hk;omega
 have P5:=Ae hpx;have P6:=Ae hqx;clear hpok hqok hpf hqf hpx hqx;have hmm:=@run_makeMap Tryz.prog;go_enter Tryz.func45,Tryz.ntmps45;have HM0:Dd (wo.alloc (.map #[] 0)) wo.heap.size 0 (wo.heap.size+1) (fun _=>none):=⟨.map [],id,World.ownsMap_made wo Tryz.prog 76 RH,Fs.empty _ _ _⟩;go_wp2_with (first
  | (go_at_call 46;(first|(refine (Lk _ a n c p (hp.keep qF) P3.out true ⟨fun _=>rfl,fun _=>P1.out⟩).mono ?_;rintro e w1 ⟨rfl,hb1⟩;have HM1:=HM0.keep hb1;have HB1:=zI wo hb1;have hz1:=hb1.size;(try simp only [Aj] at hz1))|(refine (Lk _ a' n' c' q (hq.keep qF) P4.out true ⟨fun _=>rfl,fun _=>P2.out⟩).mono ?_;rintro e w2 ⟨rfl,hb2⟩;have HM2:=HM1.keep hb2;have HB2:=zI wo hb2;have hz2:=hb2.size)))
  | (go_at_call 105;refine (oH _ _ a n c p (hp.keep qF) h.nl a' n' c' q (hq.keep qF) h'.nl hn hn' qL qL).mono ?_;rintro e w3 ⟨v3,rfl,hown3,hb3⟩;have HM3:=(HM2.keep ((Ac _ _).alloc (Ad _) _)).keep hb3;have HB3:=zI wo hb3;have hz3:=hb3.size;(try simp only [Aj] at hz3);obtain ⟨ao,co,rfl,hao⟩:=U2 hown3))
 have hownB:w3.ownsRow (wo.heap.size+1) 79 8 (.slice ao (n+n') co) (n+n') (Ds (Kq n p q) (n+n')):=by
  rw [Zy];exact nK hown3 qJ
 have hin:Hid (∀i x,(l++l')[i]? = some x→Ey (Kq n p q i) x∧Ei wo (Kq n p q i)∧CW x.2∧By (K+K'+1) x.2):=Ae fun i x hx=>by
  have hll:=h.len;have hll':=h'.len;by_cases hlt:i<n
  ·rw [Az qA] at hx;have hb:Kq n p q i=p i:=by simp [Kq,hlt]
   have hm:=A8 hx;rw [hb];exact ⟨(P5.out i x hx).1,hp.tm i hlt,(hl.good x hm).1,By.mono (hK x hm) qA⟩
  ·rw [A5 qA,hll] at hx;have hb:Kq n p q i=q (i-n):=by simp [Kq,hlt]
   have hm:=A8 hx;have hi:i-n<n':=by rw [←hll'];exact (List.getElem?_eq_some_iff.1 hx).1
   rw [hb];exact ⟨(P6.out _ x hx).1,hq.tm _ hi,(hl'.good x hm).1,By.mono (hK' x hm) qA⟩
 have hlen:(l++l').length=n+n':=by rw [A9,h.len,h'.len]
 have HL:=Ae hlen;have HLL:=Ae (Ay hl hl');have HKL:=Ae (Ay hK hK');clear hown3 hb3 hb1 hb2 HM0 HM1 HM2 hlen;go_loopw [16] (fun v16 wr=>∃i:Nat,i≤n+n'∧v16=.int .i64 i∧Dd wr wo.heap.size i (wo.heap.size+1) (Dj ((l++l').take i))∧wr.ownsRow (wo.heap.size+1) 79 8 (.slice ao (n+n') co) (n+n') (Ds (Kq n p q) (n+n'))∧Below wo.heap.size wo wr) (fun v16 _=>n+n'-(intOf v16).toNat)
 case atStart=>exact ⟨0,by omega,rfl,by simpa [Dj] using HM3,hownB,HB3⟩
 case round =>
  obtain ⟨k,hk,rfl,hM,hown,HBr⟩:=hrel;have hzr:=HBr.size;clear HM3 hownB HB3 hz1 hz2 hz3;by_cases hlt:k<n+n'
  ·obtain ⟨g,rfl⟩:=hao.resolve_left qA;have hkl:k<(l++l').length:=by rw [HL.out];exact hlt
   obtain ⟨x,hx⟩:∃x,(l++l')[k]? = some x:=⟨_,Ai hkl⟩;obtain ⟨hti,hrt,hcw,hfw⟩:=hin.out k x hx;have hat:=Xf hown hlt;generalize Kq n p q k=t at *;obtain ⟨e0,e1,e2,e3,e4,e5,e6,e7⟩:=hat;simp only [Nat.zero_add] at e0 e1 e2 e3 e4 e5 e6 e7;obtain ⟨w,rfl⟩:∃w:World,w=wr:=⟨_,rfl⟩;have HB:=Ac w.heap.size w;have hfr:=(hti.frac hrt hcw).keep HBr;have hgl:g<w.heap.size:=Aa _ _ e0;have hbl:wo.heap.size<w.heap.size:=by obtain ⟨D,_,hD,_⟩:=hM.ex;exact hD.lt
   have e8:(dg (1:Int).natAbs).length=1:=Dg;have e9:=hfr.top.rd.len;have e10:=hfr.low.rd.len;obtain ⟨i1,i2⟩:=hfw;have q1:t.n1≤1000000000:=by omega
   have q2:t.n2≤1000000000:=by omega
   have E1:E6 (x.2.1*1) (x.2.2*1)=x.2.1:=congrArg Prod.fst (Jh hcw);have E2:Fi (x.2.1*1) (x.2.2*1)=x.2.2:=congrArg Prod.snd (Jh hcw);have hf9:By 1000000000 x.2:=⟨by omega,by omega⟩;have hyk:∀y,Dj ((l++l').take k) (Cg t.m0 t.m1 t.m2 t.m3)=some y→By 1000000000 y:=fun y hy=>By.mono (Yu HLL.out.1 HLL.out.2 HKL.out.1 HKL.out.2 k _ y hy).1 qA
   have HN:=Ae (show Dj ((l++l').take (k+1))=Gx (Dj ((l++l').take k)) (Cg t.m0 t.m1 t.m2 t.m3,x.2) by
    have e:(l++l').take (k+1)=(l++l').take k++[x]:=by
     rw [List.take_add_one,hx];rfl
    rw [e,Lz,hti.key])
   have HT:=Ae hti;clear hti hx i1 i2 e9 e10;go_wp2_with fail;go_region_held3 (fun W=>W.cell? ⟨w.heap.size,0,none⟩=some (.bool t.g1)∧W.cell? ⟨w.heap.size,1,none⟩=some (.slice t.a1 t.n1 t.c1)∧W.cell? ⟨w.heap.size,2,none⟩=some (.bool t.g2)∧W.cell? ⟨w.heap.size,3,none⟩=some (.slice t.a2 t.n2 t.c2)∧W.cell? ⟨w.heap.size,4,none⟩=some (.int .u16 t.m0)∧W.cell? ⟨w.heap.size,5,none⟩=some (.int .u16 t.m1)∧W.cell? ⟨w.heap.size,6,none⟩=some (.int .u16 t.m2)∧W.cell? ⟨w.heap.size,7,none⟩=some (.int .u16 t.m3)) (first|((try dsimp only);(repeat' apply Ay);all_goals (first|(with_reducible assumption)|(go_keep;done)|(simp [*,go_sem];done)))) (first
    | (go_at_call 10;(with_reducible refine (Fh _ 1 qA qA).mono ?_);rintro e w1 ⟨go1,ao1,no1,co1,go2,ao2,no2,co2,rfl,hone,hfo1,hfo2,_,hb⟩;obtain ⟨hc,hf⟩:=Bl hb;have hz:=hb.size;(try simp only [Aj,Ak,Am] at hz);replace HB:=zI w hb;obtain ⟨s0_0,s0_1⟩:=qZ hc (w.heap.size) (.bool t.g1) (.slice t.a1 t.n1 t.c1);obtain ⟨s0_2,s0_3⟩:=zD hc (w.heap.size) (.bool t.g2) (.slice t.a2 t.n2 t.c2);have s0_4:=qX hc (w.heap.size) 4 (.int .u16 t.m0);have s0_5:=qX hc (w.heap.size) 5 (.int .u16 t.m1);have s0_6:=qX hc (w.heap.size) 6 (.int .u16 t.m2);have s0_7:=qX hc (w.heap.size) 7 (.int .u16 t.m3);have e11:=hone.top.rd.len;have e12:=hone.low.rd.len)
    | (go_at_call 39;(with_reducible refine (I3 _ _ _ _ _ _ _ _ _ _ _ (hfr.keep qF) _ _ _ _ _ _ _ _ _ _ (hone.keep qF) q1 q2 qA qA).mono ?_);rintro e w4 ⟨gm1,am1,nm1,cm1,gm2,am2,nm2,cm2,rfl,hmul,hfm1,hfm2,hap,hb⟩;obtain ⟨hc,hf⟩:=Bl hb;have hz:=hb.size;(try simp only [Aj,Ak,Am] at hz);replace HB:=zI w hb;obtain ⟨s0_0,s0_1⟩:=qZ hc (w.heap.size) (.bool t.g1) (.slice t.a1 t.n1 t.c1);obtain ⟨s0_2,s0_3⟩:=zD hc (w.heap.size) (.bool t.g2) (.slice t.a2 t.n2 t.c2);have s0_4:=qX hc (w.heap.size) 4 (.int .u16 t.m0);have s0_5:=qX hc (w.heap.size) 5 (.int .u16 t.m1);have s0_6:=qX hc (w.heap.size) 6 (.int .u16 t.m2);have s0_7:=qX hc (w.heap.size) 7 (.int .u16 t.m3);rw [E1,E2] at hmul;have km1:Bg w.heap.size w4 am1 cm1:=hfm1.mono qB;have km2:Bg w.heap.size w4 am2 cm2:=hfm2.mono qB)
    | (go_at_call 43;(with_reducible refine (fD w _ wo.heap.size k (wo.heap.size+1) (Dj ((l++l').take k)) hM qF (Ag _) qA qA _ _ _ _ _ _ _ _ x.2 (hmul.keep qF) (km1.keep qF) (km2.keep qF) hap t.m0 t.m1 t.m2 t.m3 hrt.s0 hrt.s1 hrt.s2 hrt.s3 hf9 hyk).mono ?_);rintro e w5 ⟨rfl,hM5,hg5⟩;have s0_0:w5.cell? ⟨w.heap.size,0,none⟩=some (.bool t.g1):=hg5.cell qE qJ;have s0_1:w5.cell? ⟨w.heap.size,1,none⟩=some (.slice t.a1 t.n1 t.c1):=hg5.cell qE qJ;have s0_2:w5.cell? ⟨w.heap.size,2,none⟩=some (.bool t.g2):=hg5.cell qE qJ;have s0_3:w5.cell? ⟨w.heap.size,3,none⟩=some (.slice t.a2 t.n2 t.c2):=hg5.cell qE qJ;have s0_4:w5.cell? ⟨w.heap.size,4,none⟩=some (.int .u16 t.m0):=hg5.cell qE qJ;have s0_5:w5.cell? ⟨w.heap.size,5,none⟩=some (.int .u16 t.m1):=hg5.cell qE qJ;have s0_6:w5.cell? ⟨w.heap.size,6,none⟩=some (.int .u16 t.m2):=hg5.cell qE qJ;have s0_7:w5.cell? ⟨w.heap.size,7,none⟩=some (.int .u16 t.m3):=hg5.cell qE qJ;have hown5:=(Bo hown (by go_grown:Below w.heap.size w _)).kept hg5 (pO hown);have HB5:Below wo.heap.size wo w5:=Below.grown (HBr.trans (Below.mono (by go_grown:Below w.heap.size w _) HBr.size)) hg5 qB (fun j hj=>by cases hj;exact Ad _)))
   go_wp2_with fail;go_roundw
   case rel=>exact ⟨k+1,by omega,by go_num,by rw [HN.out];exact hM5,hown5,HB5⟩
   case measure=>(first|(simp [intOf];omega)|(simp [intOf];done))
  ·obtain rfl:k=n+n':=by omega
   have hM6:Dd wr wo.heap.size (n+n') (wo.heap.size+1) (Dj (l++l')):=by
    have:=hM;rwa [As (by rw [HL.out];exact Ad _)] at this
   have hbl:wo.heap.size<wr.heap.size:=by obtain ⟨D,_,hD,_⟩:=hM.ex;exact hD.lt
   have hkk:∀k x,Dj (l++l') k=some x→k<18446744073709551616∧By 1000000 x:=fun k x hx=>by
    have:=Yu HLL.out.1 HLL.out.2 HKL.out.1 HKL.out.2 (l++l').length k x (by rw [As (Ad _)];exact hx);exact ⟨this.2,By.mono this.1 qA⟩
   clear hM hown;go_wp2_with (first|(go_at_call 44;refine (fX _ wo.heap.size (n+n') (wo.heap.size+1) (Dj (l++l')) hM6 qA qA hkk).mono ?_;rintro e w6 ⟨a6,n6,c6,r,rfl,hr,hro,hfr,hmr,hb6⟩));refine bodyPost_ret (v:=.slice a6 n6 c6) (by simp [results,Tryz.results45,go_sem]) rfl ?_;have:=Rp HLL.out.1 HLL.out.2 hfr hmr;subst this;exact qCw
def xC (w:World) (z:Int) (e:Ending) (w':World):Prop:=∃g a n c,∃k:Int,e=.returned (.tuple #[.agg #[.bool g,.slice a n c],.int .i64 k])∧Bh w' g a n c z∧Below w.heap.size w w'
theorem mM {w w':World} {s:ByteArray} (h:w'=w∨w'=Lib.bytesWorld w 5 s):Below w.heap.size w w':=by
 rcases h with rfl|rfl
 ·exact Ac _ _
 ·exact Lib.bytesWorld_below _ _ _
theorem sE {d:Ξ} (h:∀x∈d,x<1000000000) (i:Nat):0≤lim d i∧lim d i<4294967296:=by
 unfold lim;rw [List.getD_eq_getElem?_getD]
 cases hi:d[i]? with
 | none=>simp
 | some x =>
  have:=h x (A8 hi);simp
  omega
theorem uN {w:World} {base:Nat} {ao:Γ} {n co:Nat} {d:Ξ} (h:w.ownsRow base 147 1 (.slice ao n co) n (C7 d)) (hn:n=d.length) (hs:∀i,0≤lim d i∧lim d i<4294967296) (hf:n≤35184372088832):RdL w ao n co d:=by
 rcases h.2 with ⟨h1,h2⟩|⟨g,cap,cur,h1,h2⟩
 ·simp only [Value.slice.injEq] at h1;obtain ⟨rfl,rfl,rfl⟩:=h1;have:d=[]:=List.length_eq_zero_iff.1 hn.symm;subst this;exact Xj _
 ·simp only [Value.slice.injEq,true_and] at h1;obtain ⟨rfl,rfl⟩:=h1;exact Fz h hf hs
def Ww:Value→Nat
 | .string x=>x.size
 | _=>0
theorem Ku (l:List UInt8):Ww (.string ⟨l.toArray⟩)=l.length:=by simp [Ww,ByteArray.size]
theorem mC (p:UInt8→Bool) (l:List UInt8) (h:l.all p=true):l.dropWhile p=[]:=by
 induction l with
 | nil=>rfl
 | cons b r ih =>
  simp only [List.all_cons,Bool.and_eq_true] at h;rw [List.dropWhile_cons,h.1];exact ih h.2
theorem kH {d:List UInt8} (h:d.all Dn=true):Lib.trimS d [48,49,50,51,52,53,54,55,56,57]=[]:=by
 have e:(fun b=>([48,49,50,51,52,53,54,55,56,57]:List UInt8).contains b)=Dn:=funext N9;unfold Lib.trimS Lib.trimLeftS Lib.trimRightS;rw [e,mC Dn d.reverse (by rw [List.all_reverse];exact h)];rfl
theorem Ud {b:UInt8} {t:List UInt8} (h:(b::t).all Dn=true):Lib.hasPrefix (b::t) [45]=false∧Lib.trimPrefix (b::t) [45]=b::t:=by
 obtain ⟨h1,h2⟩:=Lx (b:=b) (by simp only [List.all_cons,Bool.and_eq_true] at h;exact h.1);have hb:¬45=b:=fun e=>by subst e;revert h1;decide
 have hb':((45:UInt8)==b)=false:=by simpa using hb
 have h3:Lib.hasPrefix (b::t) [45]=false:=by
  simp [Lib.hasPrefix,List.isPrefixOf,hb']
 refine ⟨h3,?_⟩;simp [Lib.trimPrefix,h3]
theorem Hl (w:World) (d:List UInt8) (hd:El d=true) (hlen:d.length<1000000000) :
  Θ 335 #[.string ⟨d.toArray⟩] w (xC w (Fm d)):=by
 have HB:=Ac w.heap.size w;obtain ⟨i0,hi,hi0,hi1,hi2⟩:=info_parts I1;have HD:=Ae hd;obtain ⟨hall,h0⟩:=Kt hd;have HA:=Ae hall
 cases d with
 | nil=>simp at h0
 | cons b t =>
  obtain ⟨hp1,hp2⟩:=Ud hall;have htr:=kH hall;have hC:=fun W=>Tryz.strings_CutPrefix ⟨(b::t).toArray⟩ ⟨#[45]⟩ W
  simp only [hp1,hp2] at hC;have hT:=fun W=>Tryz.Trim_set ⟨(b::t).toArray⟩ ⟨#[48,49,50,51,52,53,54,55,56,57]⟩ W (by simp [ByteArray.size];simp at hlen;omega) (by simp [ByteArray.size]) (Go.Proofs.ascii_of_all qI)
  simp only [htr] at hT;clear hd hall hp1 hp2 htr h0;go_enter Tryz.func335,Tryz.ntmps335;have hy:(⟨(b::t).toArray⟩:ByteArray)[0]'(by simp [ByteArray.size])=b:=by simp [ByteArray.getElem_eq_getElem_data]
  have hcase:((b.toNat:Int)=48∧(!b==48 || !t.isEmpty)=false)∨¬(b.toNat:Int)=48:=by
   have:=HD.out;simp only [El,HA.out,Bool.true_and,Bool.or_eq_true,decide_eq_true_eq] at this;rcases this with h|h
   ·by_cases hb:b=48
    ·subst hb;exact .inl ⟨rfl,by simp [h]⟩
    ·exact .inr fun e=>hb (UInt8.toNat_inj.1 (by show b.toNat=48;omega))
   ·exact .inr h
  by_cases hl:(200:Int)<(t.length:Int)+1
  ·have hz:Fm (b::t)=0:=by unfold Fm;rw [if_pos qJ]
   rw [hz];clear hz;rcases hcase with ⟨hb48,hb2⟩|hb48 <;>
   go_wp2_with (first|(go_at_call 357;refine (hC _).mono ?_;rintro e w1 ⟨rfl,rfl⟩)|(go_at_call 358;(with_reducible refine (hT _).mono ?_);rintro e w1 ⟨rfl,hb⟩;obtain ⟨hc,hf⟩:=Bl hb;have hz:=hb.size;(try simp only [Aj,Ak,Am] at hz);replace HB:=zI w hb;obtain ⟨s0_0,s0_1⟩:=zE hc (w.heap.size);obtain ⟨f0_0,f0_1⟩:=zF hf (w.heap.size)));all_goals
    refine bodyPost_ret (v:=.tuple #[.agg #[.bool false,.slice none 0 0],.int .i64 3]) (by simp [*,results,Tryz.results335,go_sem]) rfl ?_;exact ⟨false,none,0,0,3,rfl,Uy _,by go_grown⟩
  ·have hz:Fm (b::t)=Dp (b::t):=by unfold Fm;rw [if_neg qJ]
   rw [hz];clear hz;rcases hcase with ⟨hb48,hb2⟩|hb48
   ·exact qAh
   ·exact qAh
end Go.Proofs.YtnnhcbeiogaknaaGreatDoor
end
