/- Package fracs and the document's twin: Of; of, at a fraction without numbers; Make. -/
import Derived.Test.YtnnhcbeiogaknaaGreatDoorQT15
set_option linter.unusedSimpArgs false
set_option linter.unusedVariables false
set_option maxRecDepth 100000
set_option maxHeartbeats 4000000
section
namespace Go.Proofs.YtnnhcbeiogaknaaGreatDoor
open Go.RowKit
theorem Fp (w:World) (z:Int) (h0:-9223372036854775808≤z) (h1:z≤9223372036854775807):Calls Tryz.prog 10 #[.int .i64 z] w (D3 w z 1):=by
 have HB:=Ac w.heap.size w;go_enter Tryz.func10,Tryz.ntmps10;go_wp2_with fail;refine (Pr _ z h0 h1).mono ?_;rintro e w1 ⟨g1,a1,n1,c1,rfl,hn1,hf1,hb⟩;obtain ⟨hc,hf⟩:=Bl hb;have hz:=hb.size;(try simp only [Aj,Ak] at hz);replace HB:=zI w hb;obtain ⟨s0_0,s0_1⟩:=zE hc (w.heap.size);obtain ⟨s0_2,s0_3⟩:=zD hc (w.heap.size) (.bool false) (.slice none 0 0);obtain ⟨f0_0,f0_1⟩:=zF hf (w.heap.size);obtain ⟨f0_2,f0_3⟩:=zG hf (w.heap.size);have hk1:w.heap.size<w1.heap.size:=by omega
 have f1:Bf (w.heap.size+1) w1 a1 c1:=hf1.mono qB;clear hc hf hb hz hf1;go_wp2_with fail;refine (Pr _ 1 qA qA).mono ?_;rintro e w2 ⟨g2,a2,n2,c2,rfl,hn2,hf2,hb⟩;obtain ⟨hc,hf⟩:=Bl hb;have hz:=hb.size;(try simp only [Aj,Ak] at hz);replace HB:=zI w hb;obtain ⟨s0_0,s0_1⟩:=zE hc (w.heap.size);obtain ⟨s0_2,s0_3⟩:=zD hc (w.heap.size) (.bool false) (.slice none 0 0);obtain ⟨f0_0,f0_1⟩:=zF hf (w.heap.size);obtain ⟨f0_2,f0_3⟩:=zG hf (w.heap.size);have f1':=f1.keep hb;have hn1':=hn1.keep hb;have f2:Bf (w.heap.size+1) w2 a2 c2:=hf2.mono qA;have hap:Ap2 a1 c1 a2 c2:=Zf f1 (hf2.mono qB);have hk2:w.heap.size<w2.heap.size:=by omega
 have u:w.heap.size<w.heap.size+1:=Ag _;clear hc hf hb hz hf2;go_wp2_with fail;refine bodyPost_ret (v:=.agg #[.bool g1,.slice a1 n1 c1,.bool g2,.slice a2 n2 c2]) (by simp [results,Tryz.results10,go_sem,s0_0,s0_1,s0_2,s0_3]) rfl ?_;refine ⟨g1,a1,n1,c1,g2,a2,n2,c2,rfl,⟨?_,?_,by omega,by simp [Int.gcd]⟩,?_,?_,hap,by go_grown⟩
 ·exact hn1'.set4 f1' _ _ _ _ _ _ _ _ u u u u
 ·exact hn2.set4 f2 _ _ _ _ _ _ _ _ u u u u
 ·exact (f1'.set4 _ _ _ _ _ _ _ _ u u u u).mono qA
 ·exact (f2.set4 _ _ _ _ _ _ _ _ u u u u).mono qA
theorem Cp {w:World} {g:Bool} {a:Option Addr} {n c:Nat} {z:Int} (h:Bg w g a n c z) (hz:z.natAbs<1000000000):n≤1:=by
 have h1:=h.rd.len;rcases Aq z.natAbs with h2|h2
 ·rw [h2,C9] at h1;simp at h1;omega
 ·rw [Ij h2,show z.natAbs/1000000000=0 by omega,C9] at h1;simp at h1;omega
theorem Wa (w:World):RdL w none 0 0 []:=⟨rfl,Ad _,by omega,by omega,fun i=>by simp [lim],.inl rfl⟩
theorem wR (w0 w:World) (g1:Bool) (a1:Option Addr) (n1 c1:Nat) (d1:List Nat) (h1:RdL w a1 n1 c1 d1) (g2:Bool) (a2:Option Addr) (n2 c2:Nat) (d2:List Nat) (h2:RdL w a2 n2 c2 d2) (hs:n2<35184372088829) (hb1:n1<35184372088829) (hr:¬FOk g1 d1 g2 d2) :
  Calls Tryz.prog 91 #[.agg #[.bool g1,.slice a1 n1 c1,.bool g2,.slice a2 n2 c2]] w (tK w0 w 0 1 1):=by
 have HB:=Ac w.heap.size w;have HR:=Ae hr;clear hr;go_enter Tryz.func91,Tryz.ntmps91;go_wp2_with fail;refine (Eh _ _ _ _ _ _ (h1.keep qF) _ _ _ _ _ (h2.keep qF) hs hb1 false ⟨fun h=>absurd h HR.out,fun e=>(by cases e)⟩).mono ?_;rintro e w1 ⟨rfl,hb⟩;obtain ⟨hc,hf⟩:=Bl hb;have hz:=hb.size;(try simp only [Aj,Ak] at hz);replace HB:=zI w hb;obtain ⟨s0_0,s0_1⟩:=qZ hc (w.heap.size) (.bool g1) (.slice a1 n1 c1);obtain ⟨s0_2,s0_3⟩:=zD hc (w.heap.size) (.bool g2) (.slice a2 n2 c2);obtain ⟨s1_0,s1_1⟩:=zE hc (w.heap.size+1);obtain ⟨s1_2,s1_3⟩:=zD hc (w.heap.size+1) (.bool false) (.slice none 0 0);obtain ⟨f1_0,f1_1⟩:=zF hf (w.heap.size+1);obtain ⟨f1_2,f1_3⟩:=zG hf (w.heap.size+1);have hk1:w.heap.size+1<w1.heap.size:=by omega
 clear hc hf hb hz;go_wp2_with fail;refine (Fp _ 0 qA qA).mono ?_;rintro e w2 ⟨g3,a3,n3,c3,g4,a4,n4,c4,rfl,hF,hf3,hf4,hap,hb⟩;obtain ⟨hc,hf⟩:=Bl hb;have hz:=hb.size;(try simp only [Aj,Ak] at hz);replace HB:=zI w hb;obtain ⟨s1_0,s1_1⟩:=zE hc (w.heap.size+1);obtain ⟨s1_2,s1_3⟩:=zD hc (w.heap.size+1) (.bool false) (.slice none 0 0);obtain ⟨f1_0,f1_1⟩:=zF hf (w.heap.size+1);obtain ⟨f1_2,f1_3⟩:=zG hf (w.heap.size+1);have f3:Bf (w.heap.size+1+1) w2 a3 c3:=hf3.mono qA;have f4:Bf (w.heap.size+1+1) w2 a4 c4:=hf4.mono qA;have hk2:w.heap.size+1<w2.heap.size:=by omega
 have u:w.heap.size+1<w.heap.size+1+1:=Ag _;clear hc hf hb hz hf3 hf4;go_wp2_with fail;refine bodyPost_ret (v:=.agg #[.bool g3,.slice a3 n3 c3,.bool g4,.slice a4 n4 c4]) (by simp [results,Tryz.results91,go_sem,s1_0,s1_1,s1_2,s1_3]) rfl ?_;refine ⟨g3,a3,n3,c3,g4,a4,n4,c4,rfl,⟨?_,?_,hF.pos,hF.red⟩,Cp hF.top qG,Cp hF.low qG,.inr ⟨?_,?_⟩,by go_grown⟩
 ·exact hF.top.set4 f3 _ _ _ _ _ _ _ _ u u u u
 ·exact hF.low.set4 f4 _ _ _ _ _ _ _ _ u u u u
 ·exact (f3.set4 _ _ _ _ _ _ _ _ u u u u).mono qA
 ·exact (f4.set4 _ _ _ _ _ _ _ _ u u u u).mono qA
theorem Xe {a b:List PT} (ha:PW a) (hb:PW b) {K K':Nat} (hK:Dd K a) (hK':Dd K' b) (i k:Nat) (y:PC) (h:Dl ((a++b).take i) k=some y):Ca (K+K'+1) y∧k<18446744073709551616:=by
 have hf:Cx (a.take i):=ha.falls.sublist (List.take_sublist _ _);have hf':Cx (b.take (i-a.length)):=hb.falls.sublist (List.take_sublist _ _);rw [List.take_append,Xy _ _ hf hf'] at h;have m1:∀c,lk (a.take i) k=some c→(k,c)∈a:=fun c hc=>List.mem_of_mem_take (Id hc)
 have m2:∀c,lk (b.take (i-a.length)) k=some c→(k,c)∈b:=fun c hc=>List.mem_of_mem_take (Id hc)
 cases h1:lk (a.take i) k with
 | none =>
  cases h2:lk (b.take (i-a.length)) k with
  | none=>rw [h1,h2] at h;cases h
  | some d =>
   rw [h1,h2] at h;cases h
   exact ⟨Ca.mono (hK' _ (m2 _ h2)) qA,hb.key _ (m2 _ h2)⟩
 | some c =>
  cases h2:lk (b.take (i-a.length)) k with
  | none =>
   rw [h1,h2] at h;cases h
   exact ⟨Ca.mono (hK _ (m1 _ h1)) qA,ha.key _ (m1 _ h1)⟩
  | some d =>
   rw [h1,h2] at h;cases h
   exact ⟨Ca.add (ha.good _ (m1 _ h1)).1 (hb.good _ (m2 _ h2)).1 (hK _ (m1 _ h1)) (hK' _ (m2 _ h2)),ha.key _ (m1 _ h1)⟩
def Lk (n:Nat) (p q:Nat→Tm):Nat→Tm:=fun i=>if i<n then p i else q (i-n)
theorem Yi (n:Nat) (p q:Nat→Tm) (k:Nat):Dn (Lk n p q) (n+k)=Dn p n++Dn q k:=by
 induction k with
 | zero =>
  rw [Nat.add_zero];have:Dn (Lk n p q) n=Dn p n:=Ww fun j hj=>by simp [Lk,hj]
  simp [this,Dn]
 | succ k ih =>
  rw [←Nat.add_assoc,Dn,ih,Dn,List.append_assoc];have:Lk n p q (n+k)=q k:=by unfold Lk;rw [if_neg qA];congr 1;omega
  rw [this]
def Cj (w:World) (l:List PT) (e:Ending) (w':World):Prop:=∃a n c,e=.returned (.slice a n c)∧Bc w' w.heap.size a n c l∧Bk w' w.heap.size a n c∧Below w.heap.size w w'
theorem jK {w:World} {base base':Nat} {e:TypeId} {size:Nat} {v:Value} {n:Nat} {xs:List Value} (h:w.ownsRow base e size v n xs) (hb:base'≤base):w.ownsRow base' e size v n xs :=
 ⟨h.1,h.2.imp id fun⟨g,cap,cur,h1,h2,h3⟩=>⟨g,cap,cur,h1,Ah hb h2,h3⟩⟩
theorem Tr {w:World} {base:Nat} {e:TypeId} {size:Nat} {v:Value} {n:Nat} {xs:List Value} (h:w.ownsRow base e size v n xs):∃ao co,v=.slice ao n co∧(n=0∨∃g,ao=some ⟨g,0,none⟩):=by
 rcases h.2 with ⟨rfl,h0⟩|⟨g,cap,cur,rfl,_⟩
 ·subst h0;exact ⟨none,0,rfl,.inl rfl⟩
 ·exact ⟨_,_,rfl,.inr ⟨g,rfl⟩⟩
theorem Iu (wo:World) (B:Nat) (a:Option Addr) (n c:Nat) (l:List PT) (h:Bc wo B a n c l) (hl:PW l) (K:Nat) (hK:Dd K l) (B':Nat) (a':Option Addr) (n' c':Nat) (l':List PT) (h':Bc wo B' a' n' c' l') (hl':PW l') (K':Nat) (hK':Dd K' l')
  (hKK:K+K'<1000000) (hn:n≤500000) (hn':n'≤500000) :
  Calls Tryz.prog 45 #[.slice a n c,.slice a' n' c'] wo (Cj wo (Cr l l')):=by
 have HB:=Ac wo.heap.size wo;obtain ⟨p,hp,hpx⟩:=h.ts;obtain ⟨q,hq,hqx⟩:=h'.ts;have hpok:=h.pok hl hp hpx;have hqok:=h'.pok hl' hq hqx;have hpf:=h.few hK hp hpx;have hqf:=h'.few hK' hq hqx;have P1:=Ae hpok;have P2:=Ae hqok;have P3:Hid (∀k,k<n→(p k).n1≤1000000∧(p k).n2≤1000000):=Ae fun k hk=>by have:=hpf k hk;omega
 have P4:Hid (∀k,k<n'→(q k).n1≤1000000∧(q k).n2≤1000000):=Ae fun k hk=>by have:=hqf k hk;omega
 have P5:=Ae hpx;have P6:=Ae hqx;clear hpok hqok hpf hqf hpx hqx;have hmm:=@run_makeMap Tryz.prog;go_enter Tryz.func45,Tryz.ntmps45;have HM0:C8 (wo.alloc (.map #[] 0)) wo.heap.size 0 (wo.heap.size+1) (fun _=>none):=⟨.map [],id,World.ownsMap_made wo Tryz.prog 76 RH,Fi.empty _ _ _⟩;go_wp2_with (first
  | (go_at_call 46;(first|(refine (Kl _ a n c p (hp.keep qF) P3.out true ⟨fun _=>rfl,fun _=>P1.out⟩).mono ?_;rintro e w1 ⟨rfl,hb1⟩;have HM1:=HM0.keep hb1;have HB1:=zI wo hb1;have hz1:=hb1.size;(try simp only [Aj] at hz1))|(refine (Kl _ a' n' c' q (hq.keep qF) P4.out true ⟨fun _=>rfl,fun _=>P2.out⟩).mono ?_;rintro e w2 ⟨rfl,hb2⟩;have HM2:=HM1.keep hb2;have HB2:=zI wo hb2;have hz2:=hb2.size)))
  | (go_at_call 105;refine (kF _ _ a n c p (hp.keep qF) h.nl a' n' c' q (hq.keep qF) h'.nl hn hn' qL qL).mono ?_;rintro e w3 ⟨v3,rfl,hown3,hb3⟩;have HM3:=(HM2.keep ((Ac _ _).alloc (Ad _) _)).keep hb3;have HB3:=zI wo hb3;have hz3:=hb3.size;(try simp only [Aj] at hz3);obtain ⟨ao,co,rfl,hao⟩:=Tr hown3))
 have hownB:w3.ownsRow (wo.heap.size+1) 79 8 (.slice ao (n+n') co) (n+n') (Dn (Lk n p q) (n+n')):=by
  rw [Yi];exact jK hown3 qI
 have hin:Hid (∀i x,(l++l')[i]? = some x→Es (Lk n p q i) x∧Eb wo (Lk n p q i)∧CW x.2∧Ca (K+K'+1) x.2):=Ae fun i x hx=>by
  have hll:=h.len;have hll':=h'.len;by_cases hlt:i<n
  ·rw [Az qA] at hx;have hb:Lk n p q i=p i:=by simp [Lk,hlt]
   have hm:=A7 hx;rw [hb];exact ⟨(P5.out i x hx).1,hp.tm i hlt,(hl.good x hm).1,Ca.mono (hK x hm) qA⟩
  ·rw [A4 qA,hll] at hx;have hb:Lk n p q i=q (i-n):=by simp [Lk,hlt]
   have hm:=A7 hx;have hi:i-n<n':=by rw [←hll'];exact (List.getElem?_eq_some_iff.1 hx).1
   rw [hb];exact ⟨(P6.out _ x hx).1,hq.tm _ hi,(hl'.good x hm).1,Ca.mono (hK' x hm) qA⟩
 have hlen:(l++l').length=n+n':=by rw [A8,h.len,h'.len]
 have HL:=Ae hlen;have HLL:=Ae (Ay hl hl');have HKL:=Ae (Ay hK hK');clear hown3 hb3 hb1 hb2 HM0 HM1 HM2 hlen;go_loopw [16] (fun v16 wr=>∃i:Nat,i≤n+n'∧v16=.int .i64 i∧C8 wr wo.heap.size i (wo.heap.size+1) (Dl ((l++l').take i))∧wr.ownsRow (wo.heap.size+1) 79 8 (.slice ao (n+n') co) (n+n') (Dn (Lk n p q) (n+n'))∧Below wo.heap.size wo wr) (fun v16 _=>n+n'-(intOf v16).toNat)
 case atStart=>exact ⟨0,by omega,rfl,by simpa [Dl] using HM3,hownB,HB3⟩
 case round =>
  obtain ⟨k,hk,rfl,hM,hown,HBr⟩:=hrel;have hzr:=HBr.size;clear HM3 hownB HB3 hz1 hz2 hz3;by_cases hlt:k<n+n'
  ·obtain ⟨g,rfl⟩:=hao.resolve_left qA;have hkl:k<(l++l').length:=by rw [HL.out];exact hlt
   obtain ⟨x,hx⟩:∃x,(l++l')[k]? = some x:=⟨_,Ai hkl⟩;obtain ⟨hti,hrt,hcw,hfw⟩:=hin.out k x hx;have hat:=Vu hown hlt;generalize Lk n p q k=t at *;obtain ⟨e0,e1,e2,e3,e4,e5,e6,e7⟩:=hat;simp only [Nat.zero_add] at e0 e1 e2 e3 e4 e5 e6 e7;obtain ⟨w,rfl⟩:∃w:World,w=wr:=⟨_,rfl⟩;have HB:=Ac w.heap.size w;have hfr:=(hti.frac hrt hcw).keep HBr;have hgl:g<w.heap.size:=Aa _ _ e0;have hbl:wo.heap.size<w.heap.size:=by obtain ⟨D,_,hD,_⟩:=hM.ex;exact hD.lt
   have e8:(dg (1:Int).natAbs).length=1:=Dj;have e9:=hfr.top.rd.len;have e10:=hfr.low.rd.len;obtain ⟨i1,i2⟩:=hfw;have q1:t.n1≤1000000000:=by omega
   have q2:t.n2≤1000000000:=by omega
   have E1:Fj (x.2.1*1) (x.2.2*1)=x.2.1:=congrArg Prod.fst (Ke hcw);have E2:Fr (x.2.1*1) (x.2.2*1)=x.2.2:=congrArg Prod.snd (Ke hcw);have hf9:Ca 1000000000 x.2:=⟨by omega,by omega⟩;have hyk:∀y,Dl ((l++l').take k) (Ch t.m0 t.m1 t.m2 t.m3)=some y→Ca 1000000000 y:=fun y hy=>Ca.mono (Xe HLL.out.1 HLL.out.2 HKL.out.1 HKL.out.2 k _ y hy).1 qA
   have HN:=Ae (show Dl ((l++l').take (k+1))=Gy (Dl ((l++l').take k)) (Ch t.m0 t.m1 t.m2 t.m3,x.2) by
    have e:(l++l').take (k+1)=(l++l').take k++[x]:=by
     rw [List.take_add_one,hx];rfl
    rw [e,K6,hti.key])
   have HT:=Ae hti;clear hti hx i1 i2 e9 e10;go_wp2_with fail;go_region_held3 (fun W=>W.cell? ⟨w.heap.size,0,none⟩=some (.bool t.g1)∧W.cell? ⟨w.heap.size,1,none⟩=some (.slice t.a1 t.n1 t.c1)∧W.cell? ⟨w.heap.size,2,none⟩=some (.bool t.g2)∧W.cell? ⟨w.heap.size,3,none⟩=some (.slice t.a2 t.n2 t.c2)∧W.cell? ⟨w.heap.size,4,none⟩=some (.int .u16 t.m0)∧W.cell? ⟨w.heap.size,5,none⟩=some (.int .u16 t.m1)∧W.cell? ⟨w.heap.size,6,none⟩=some (.int .u16 t.m2)∧W.cell? ⟨w.heap.size,7,none⟩=some (.int .u16 t.m3)) (first|((try dsimp only);(repeat' apply Ay);all_goals (first|(with_reducible assumption)|(go_keep;done)|(simp [*,go_sem];done)))) (first
    | (go_at_call 10;(with_reducible refine (Fp _ 1 qA qA).mono ?_);rintro e w1 ⟨go1,ao1,no1,co1,go2,ao2,no2,co2,rfl,hone,hfo1,hfo2,_,hb⟩;obtain ⟨hc,hf⟩:=Bl hb;have hz:=hb.size;(try simp only [Aj,Ak,Am] at hz);replace HB:=zI w hb;obtain ⟨s0_0,s0_1⟩:=qZ hc (w.heap.size) (.bool t.g1) (.slice t.a1 t.n1 t.c1);obtain ⟨s0_2,s0_3⟩:=zD hc (w.heap.size) (.bool t.g2) (.slice t.a2 t.n2 t.c2);have s0_4:=qX hc (w.heap.size) 4 (.int .u16 t.m0);have s0_5:=qX hc (w.heap.size) 5 (.int .u16 t.m1);have s0_6:=qX hc (w.heap.size) 6 (.int .u16 t.m2);have s0_7:=qX hc (w.heap.size) 7 (.int .u16 t.m3);have e11:=hone.top.rd.len;have e12:=hone.low.rd.len)
    | (go_at_call 39;(with_reducible refine (Ie _ _ _ _ _ _ _ _ _ _ _ (hfr.keep qF) _ _ _ _ _ _ _ _ _ _ (hone.keep qF) q1 q2 qA qA).mono ?_);rintro e w4 ⟨gm1,am1,nm1,cm1,gm2,am2,nm2,cm2,rfl,hmul,hfm1,hfm2,hap,hb⟩;obtain ⟨hc,hf⟩:=Bl hb;have hz:=hb.size;(try simp only [Aj,Ak,Am] at hz);replace HB:=zI w hb;obtain ⟨s0_0,s0_1⟩:=qZ hc (w.heap.size) (.bool t.g1) (.slice t.a1 t.n1 t.c1);obtain ⟨s0_2,s0_3⟩:=zD hc (w.heap.size) (.bool t.g2) (.slice t.a2 t.n2 t.c2);have s0_4:=qX hc (w.heap.size) 4 (.int .u16 t.m0);have s0_5:=qX hc (w.heap.size) 5 (.int .u16 t.m1);have s0_6:=qX hc (w.heap.size) 6 (.int .u16 t.m2);have s0_7:=qX hc (w.heap.size) 7 (.int .u16 t.m3);rw [E1,E2] at hmul;have km1:Bf w.heap.size w4 am1 cm1:=hfm1.mono qB;have km2:Bf w.heap.size w4 am2 cm2:=hfm2.mono qB)
    | (go_at_call 43;(with_reducible refine (bR w _ wo.heap.size k (wo.heap.size+1) (Dl ((l++l').take k)) hM qF (Ag _) qA qA _ _ _ _ _ _ _ _ x.2 (hmul.keep qF) (km1.keep qF) (km2.keep qF) hap t.m0 t.m1 t.m2 t.m3 hrt.s0 hrt.s1 hrt.s2 hrt.s3 hf9 hyk).mono ?_);rintro e w5 ⟨rfl,hM5,hg5⟩;have s0_0:w5.cell? ⟨w.heap.size,0,none⟩=some (.bool t.g1):=hg5.cell qE qI;have s0_1:w5.cell? ⟨w.heap.size,1,none⟩=some (.slice t.a1 t.n1 t.c1):=hg5.cell qE qI;have s0_2:w5.cell? ⟨w.heap.size,2,none⟩=some (.bool t.g2):=hg5.cell qE qI;have s0_3:w5.cell? ⟨w.heap.size,3,none⟩=some (.slice t.a2 t.n2 t.c2):=hg5.cell qE qI;have s0_4:w5.cell? ⟨w.heap.size,4,none⟩=some (.int .u16 t.m0):=hg5.cell qE qI;have s0_5:w5.cell? ⟨w.heap.size,5,none⟩=some (.int .u16 t.m1):=hg5.cell qE qI;have s0_6:w5.cell? ⟨w.heap.size,6,none⟩=some (.int .u16 t.m2):=hg5.cell qE qI;have s0_7:w5.cell? ⟨w.heap.size,7,none⟩=some (.int .u16 t.m3):=hg5.cell qE qI;have hown5:=(Bm hown (by go_grown:Below w.heap.size w _)).kept hg5 (lL hown);have HB5:Below wo.heap.size wo w5:=Below.grown (HBr.trans (Below.mono (by go_grown:Below w.heap.size w _) HBr.size)) hg5 qB (fun j hj=>by cases hj;exact Ad _)))
   go_wp2_with fail;go_roundw
   case rel=>exact ⟨k+1,by omega,by go_num,by rw [HN.out];exact hM5,hown5,HB5⟩
   case measure=>(first|(simp [intOf];omega)|(simp [intOf];done))
  ·obtain rfl:k=n+n':=by omega
   have hM6:C8 wr wo.heap.size (n+n') (wo.heap.size+1) (Dl (l++l')):=by
    have:=hM;rwa [As (by rw [HL.out];exact Ad _)] at this
   have hbl:wo.heap.size<wr.heap.size:=by obtain ⟨D,_,hD,_⟩:=hM.ex;exact hD.lt
   have hkk:∀k x,Dl (l++l') k=some x→k<18446744073709551616∧Ca 1000000 x:=fun k x hx=>by
    have:=Xe HLL.out.1 HLL.out.2 HKL.out.1 HKL.out.2 (l++l').length k x (by rw [As (Ad _)];exact hx);exact ⟨this.2,Ca.mono this.1 qA⟩
   clear hM hown;go_wp2_with (first|(go_at_call 44;refine (dB _ wo.heap.size (n+n') (wo.heap.size+1) (Dl (l++l')) hM6 qA qA hkk).mono ?_;rintro e w6 ⟨a6,n6,c6,r,rfl,hr,hro,hfr,hmr,hb6⟩));refine bodyPost_ret (v:=.slice a6 n6 c6) (by simp [results,Tryz.results45,go_sem]) rfl ?_;have:=Qm HLL.out.1 HLL.out.2 hfr hmr;subst this;exact qCt
end Go.Proofs.YtnnhcbeiogaknaaGreatDoor
end
