/- Package polys: Mul, of any two sums. -/
import Derived.Test.YtnnhcbeiogaknaaGreatDoorQV22
import Derived.Test.YtnnhcbeiogaknaaGreatDoorQV20
set_option linter.unusedSimpArgs false
set_option linter.unusedVariables false
set_option maxRecDepth 100000
set_option maxHeartbeats 4000000
section
namespace Go.Proofs.YtnnhcbeiogaknaaGreatDoor
open Go.RowKit
def F7 (w:World) (l:Δ) (e:Ending) (w':World):Prop:=∃a n c,e=.returned (.tuple #[.slice a n c,.int .i64 0])∧Bd w' w.heap.size a n c l∧Bm w' w.heap.size a n c∧Below w.heap.size w w'
theorem yA (wo:World) (B:Nat) (a:Γ) (n c:Nat) (l:Δ) (h:Bd wo B a n c l) (hl:PW l) (K:Nat) (hK:Cj K l) (B':Nat) (a':Γ) (n' c':Nat) (l':Δ) (h':Bd wo B' a' n' c' l') (hl':PW l') (K':Nat) (hK':Cj K' l')
  (hKK:K+K'≤100000) (hn:n≤400000) (hnn:n*n'≤400000) (hok:C8 l l'=true) (hw:∀k,wtk (C5 l l') k≤400000) :
  Θ 11 #[.slice a n c,.slice a' n' c'] wo (F7 wo (En l l')):=by
 obtain ⟨p,hp,hpx⟩:=h.ts;obtain ⟨q,hq,hqx⟩:=h'.ts;have P1:=Ae (h.pok hl hp hpx);have Q1:=Ae (h'.pok hl' hq hqx);have P3:Hid (∀k,k<n→(p k).n1≤1000000∧(p k).n2≤1000000):=Ae fun k hk=>by have:=h.few hK hp hpx k hk;omega
 have Q3:Hid (∀k,k<n'→(q k).n1≤1000000∧(q k).n2≤1000000):=Ae fun k hk=>by have:=h'.few hK' hq hqx k hk;omega
 have P5:=Ae hpx;have Q5:=Ae hqx;have P6:=Ae h.len;have Q6:=Ae h'.len;have P7:=Ae hl;have Q7:=Ae hl';have P8:=Ae hK;have Q8:=Ae hK';have HO:=Ae hok;have HW:=Ae hw;have HNN:=Ae hnn;have HB:=Ac wo.heap.size wo;have hnf:=hp.few;have hnf':=hq.few;have hmm:=@run_makeMap Tryz.prog;clear hpx hqx hl hl' hK hK' hok hw hnn;go_enter Tryz.func11,Tryz.ntmps11;go_wp2_with fail;refine (E4 _ a n c p (hp.keep qF) P3.out true ⟨fun _=>rfl,fun _=>P1.out⟩).mono ?_;rintro e w1 ⟨rfl,hb1⟩;go_wp2_with fail;refine (E4 _ a' n' c' q ((hq.keep hb1).keep qF) Q3.out true ⟨fun _=>rfl,fun _=>Q1.out⟩).mono ?_;rintro e w2 ⟨rfl,hb2⟩;have HB2:Below wo.heap.size wo w2:=hb1.trans (hb2.mono hb1.size);clear hb1 hb2 HB;go_wp2_with fail;have HM0:Dd (w2.alloc (.map #[] 0)) w2.heap.size 0 (w2.heap.size+1) (fun _=>none):=⟨.map [],id,World.ownsMap_made w2 Tryz.prog 76 RH,Fs.empty _ _ _⟩;have HB3:Below wo.heap.size wo (w2.alloc (.map #[] 0)):=HB2.trans ((by go_grown:Below w2.heap.size w2 _).mono HB2.size);have hMo:wo.heap.size≤w2.heap.size:=HB2.size;generalize w2.heap.size=MB at *;clear HB2;go_loopw [24] (fun v24 wr=>∃k:Nat,k≤n∧v24=.int .i64 k∧Dd wr MB (k*n') (MB+1) (Dj (C5 (l.take k) l'))∧Below wo.heap.size wo wr) (fun v24 _=>n-(intOf v24).toNat)
 case atStart=>exact ⟨0,by omega,rfl,by rw [Nat.zero_mul];simpa [Dj,C5] using HM0,by go_grown⟩
 case round =>
  obtain ⟨k,hk,rfl,hM,HBr⟩:=hrel;clear HM0 HB3;by_cases hlt:k<n
  ·obtain ⟨gb,go,rfl,_⟩:=hp.cell.resolve_left qA;have hkl:k<l.length:=by rw [P6.out];exact hlt
   obtain ⟨x,hx⟩:∃x,l[k]? = some x:=⟨_,Ai hkl⟩;have hmx:=A8 hx;have hat:=(hp.keep HBr).at hlt;have hrx:=hp.tm k hlt;have htx:=(P5.out k x hx).1;have hqx:=P3.out k hlt;have hgx:=P7.out.good x hmx;have hkx:=P8.out x hmx;have hox:=Ae (show ∀y∈l',Gj x.1 y.1=true from fun y hy=>by have h9:=HO.out;unfold C8 at h9;rw [List.all_eq_true] at h9;have h8:=h9 x hmx;rw [List.all_eq_true] at h8;exact h8 y hy);have HPR:=Ae (show ∀j,C5 l l'=(C5 (l.take k) l'++(l'.take j).map fun t=>(Eb x.1 t.1,Ca x.2 t.2))++((l'.drop j).map (fun t=>(Eb x.1 t.1,Ca x.2 t.2))++C5 (l.drop (k+1)) l') from fun j=>by
    have e1:l=l.take k++x::l.drop (k+1):=by
     have e2:=List.getElem?_eq_some_iff.1 hx;rw [←e2.2,←List.drop_eq_getElem_cons e2.1,List.take_append_drop]
    rw [List.append_assoc,←List.append_assoc (List.map _ _),←List.map_append,List.take_append_drop,←Fp,←Nx,←e1])
   have HT:=Ae (show l.take (k+1)=l.take k++[x] by rw [List.take_add_one,hx];rfl);generalize hs:p k=s at *;obtain ⟨e0,e1,e2,e3,e4,e5,e6,e7⟩:=hat;obtain ⟨w,rfl⟩:∃w:World,w=wr:=⟨_,rfl⟩;have hkn:k*n'+n'≤400000:=by
    have h5:(k+1)*n'≤n*n':=Nat.mul_le_mul_right n' hlt;have:=HNN.out;rw [Nat.add_mul,Nat.one_mul] at h5;omega
   have hfx:=htx.frac hrx hgx.1;have HGX:=Ae hgx;have HTX:=Ae (Ay htx hrx);have hMw:MB<w.heap.size:=by obtain ⟨D,_,hD,_⟩:=hM.ex;exact hD.lt
   have T0:=Dh.new w s;have hMA:Dd (w.alloc (.cells #[.bool s.g1,.slice s.a1 s.n1 s.c1,.bool s.g2,.slice s.a2 s.n2 s.c2,.int .u16 s.m0,.int .u16 s.m1,.int .u16 s.m2,.int .u16 s.m3] 79)) MB (k*n') (MB+1) (Dj (C5 (l.take k) l')):=hM.keep qF;have HBA:=HBr.trans ((by go_grown:Below w.heap.size w (w.alloc (.cells #[.bool s.g1,.slice s.a1 s.n1 s.c1,.bool s.g2,.slice s.a2 s.n2 s.c2,.int .u16 s.m0,.int .u16 s.m1,.int .u16 s.m2,.int .u16 s.m3] 79))).mono HBr.size);clear hx hkl hgx htx hrx hs;go_wp2_with fail;go_loopw [30] (fun v30 wi=>∃j:Nat,j≤n'∧v30=.int .i64 j∧Dh wi w.heap.size s∧Dd wi MB (k*n'+j) (MB+1) (Dj (C5 (l.take k) l'++(l'.take j).map fun t=>(Eb x.1 t.1,Ca x.2 t.2)))∧Below wo.heap.size wo wi) (fun v30 _=>n'-(intOf v30).toNat)
   case atStart=>exact ⟨0,by omega,rfl,T0,by simpa using hMA,HBA⟩
   case round =>
    obtain ⟨j,hj,rfl,TS,hMi,HBi⟩:=hrel;clear hM hMA HBA T0 HBr e0 e1 e2 e3 e4 e5 e6 e7;by_cases hjt:j<n'
    ·obtain ⟨gc,go',rfl,_⟩:=hq.cell.resolve_left qA;have hjl:j<l'.length:=by rw [Q6.out];exact hjt
     obtain ⟨y,hy⟩:∃y,l'[j]? = some y:=⟨_,Ai hjl⟩;have hmy:=A8 hy;obtain ⟨e0,e1,e2,e3,e4,e5,e6,e7⟩:=(hq.keep HBi).at hjt;have hry:=hq.tm j hjt;have hty:=(Q5.out j y hy).1;have hqy:=Q3.out j hjt;have hgy:=Q7.out.good y hmy;have hky:=Q8.out y hmy;have hkk:=hox.out y hmy;have HT':=Ae (show l'.take (j+1)=l'.take j++[y] by rw [List.take_add_one,hy];rfl);have HSUB:=Ae (show ∀z∈C5 (l.take k) l'++(l'.take j).map (fun t=>(Eb x.1 t.1,Ca x.2 t.2))++[(Eb x.1 y.1,Ca x.2 y.2)],CW z.2 from fun z hz=>by
      rcases List.mem_append.1 hz with hz|hz
      ·rcases List.mem_append.1 hz with hz|hz
       ·obtain ⟨x1,h1,y1,h2,rfl⟩:=Fy hz;exact (P7.out.good x1 (List.mem_of_mem_take h1)).1.mul (Q7.out.good y1 h2).1
       ·obtain ⟨y1,h2,rfl⟩:=List.mem_map.1 hz;exact HGX.out.1.mul (Q7.out.good y1 (List.mem_of_mem_take h2)).1
      ·rw [Ao] at hz;subst hz;exact HGX.out.1.mul hgy.1)
     generalize hs':q j=t at *;obtain ⟨wi,rfl⟩:∃w':World,w'=wr:=⟨_,rfl⟩;have hfy:=hty.frac hry hgy.1;have hss:=HTX.out.2;have ex:=Ec hss.s1 hss.s2 hss.s3 hss.s0;have ey:=Ec hry.s1 hry.s2 hry.s3 hry.s0;rw [HTX.out.1.key] at ex;rw [hty.key] at ey;have hko:=hkk;unfold Gj at hko;rw [ex.1,ex.2.1,ex.2.2.1,ex.2.2.2,ey.1,ey.2.1,ey.2.2.1,ey.2.2.2] at hko;simp only [Bool.and_eq_true,decide_eq_true_eq] at hko;obtain ⟨⟨⟨u0,u1⟩,u2⟩,u3⟩:=hko;have HKY:=Ae (show Cg (s.m0+t.m0) (s.m1+t.m1) (s.m2+t.m2) (s.m3+t.m3)=Eb x.1 y.1 by unfold Eb;rw [ex.1,ex.2.1,ex.2.2.1,ex.2.2.2,ey.1,ey.2.1,ey.2.2.1,ey.2.2.2]);clear ex ey hkk hjl hy hs' hry hty;have TSk:=TS;have hSw:=TS.lt;obtain ⟨t0,t1,t2,t3,t4,t5,t6,t7,-,-,-,-,-,-,-,-⟩:=TS;have TT0:=Dh.new wi t;go_wp2_with fail;refine Be ?_;intro w3 hw3;have b3:Below wi.heap.size wi w3:=by rw [hw3];go_grown
     have TT3:Dh w3 wi.heap.size t:=by rw [hw3];exact TT0
     have TS3:=TSk.keep b3;clear hw3 TT0 TSk t0 t1 t2 t3 t4 t5 t6 t7;generalize hv0:s.m0+t.m0=v0 at *;generalize hv1:s.m1+t.m1=v1 at *;generalize hv2:s.m2+t.m2=v2 at *;generalize hv3:s.m3+t.m3=v3 at *;refine (lI w3 s.m0 s.m1 s.m2 s.m3 t.m0 t.m1 t.m2 t.m3 v0 v1 v2 v3 hv0.symm hv1.symm hv2.symm hv3.symm u0 u1 u2 u3).mono ?_;clear hv0 hv1 hv2 hv3;rintro e w4 ⟨rfl,hb4⟩;have TS4:=TS3.keep hb4;have TT4:=TT3.keep hb4;have b4:=b3.trans (hb4.mono b3.size);clear TS3 TT3 hb4 b3;go_wp2_with fail;refine Cc ?_;intro w5 hw5;have b45:Below w4.heap.size w4 w5:=by rw [hw5];go_grown
     have MBx:B4 w5 w4.heap.size (.int .u16 v0) (.int .u16 v1) (.int .u16 v2) (.int .u16 v3):=by rw [hw5];constructor<;>simp [go_sem]
     have TS5:=TS4.keep b45;have TT5:=TT4.keep b45;have b5:=b4.trans (b45.mono b4.size);have TSk:=TS5;clear hw5 TS4 TT4 b45;have z4:=b4.size;generalize w4.heap.size=MM at *;obtain ⟨k0,k1,k2,k3,-,-,-,-⟩:=MBx;obtain ⟨t0,t1,t2,t3,-,-,-,-,-,-,-,-,-,-,-,-⟩:=TS5;obtain ⟨r0,r1,r2,r3,-,-,-,-,-,-,-,-,-,-,-,-⟩:=TT5;have HB5:=HBi.trans (b5.mono HBi.size);have hfx5:=hfx.keep HB5;have hfy5:=hfy.keep HB5;have z5:=b5.size;have hMw2:MB<wi.heap.size:=by obtain ⟨D,_,hD,_⟩:=hMi.ex;exact hD.lt
     have HFM:=Ae (Ay (HGX.out.1.mul hgy.1) (By.mono (By.mul HGX.out.1 hgy.1 hkx hky) (show K+K'≤1000000000 by omega)));have HYK:=Ae (show ∀z,Dj (C5 (l.take k) l'++(l'.take j).map fun t=>(Eb x.1 t.1,Ca x.2 t.2)) (Eb x.1 y.1)=some z→By 1000000000 z from fun z hz=>by
      have h1:=(Ie (fun u hu=>HSUB.out u (List.mem_append.2 (.inl hu))) hz).2;refine By.mono h1 ?_;have h3:=congrArg (fun L=>wtk L (Eb x.1 y.1)) (HPR.out j);simp only [Jy] at h3;rw [Jy];have h4:=HW.out (Eb x.1 y.1)
      omega)
     go_region_held3 (fun W=>W.cell? ⟨w.heap.size,0,none⟩=some (.bool s.g1)∧W.cell? ⟨w.heap.size,1,none⟩=some (.slice s.a1 s.n1 s.c1)∧W.cell? ⟨w.heap.size,2,none⟩=some (.bool s.g2)∧W.cell? ⟨w.heap.size,3,none⟩=some (.slice s.a2 s.n2 s.c2)∧W.cell? ⟨wi.heap.size,0,none⟩=some (.bool t.g1)∧W.cell? ⟨wi.heap.size,1,none⟩=some (.slice t.a1 t.n1 t.c1)∧W.cell? ⟨wi.heap.size,2,none⟩=some (.bool t.g2)∧W.cell? ⟨wi.heap.size,3,none⟩=some (.slice t.a2 t.n2 t.c2)∧W.cell? ⟨MM,0,none⟩=some (.int .u16 v0)∧W.cell? ⟨MM,1,none⟩=some (.int .u16 v1)∧W.cell? ⟨MM,2,none⟩=some (.int .u16 v2)∧W.cell? ⟨MM,3,none⟩=some (.int .u16 v3)) (first|((try dsimp only);(repeat' apply Ay);all_goals (first|(with_reducible assumption)|(go_keep;done)|(simp [*,go_sem];done)))) (first
      | (go_at_call 39;(with_reducible refine (I3 _ _ _ _ _ _ _ _ _ _ _ (hfx5.keep qF) _ _ _ _ _ _ _ _ _ _ (hfy5.keep qF) qA qA qA qA).mono ?_);rintro e w8 ⟨gm1,am1,nm1,cm1,gm2,am2,nm2,cm2,rfl,hmul0,hfm1,hfm2,hap,hb⟩;have hmul:Bj w8 gm1 am1 nm1 cm1 (Ca x.2 y.2).1 gm2 am2 nm2 cm2 (Ca x.2 y.2).2:=hmul0;have hb8:=zI w5 hb;have z8:=hb8.size;have km1:Bg wi.heap.size w8 am1 cm1:=hfm1.mono qV;have km2:Bg wi.heap.size w8 am2 cm2:=hfm2.mono qV;(replace k0:=Bc hb8 k0;replace k1:=Bc hb8 k1;replace k2:=Bc hb8 k2;replace k3:=Bc hb8 k3;replace t0:=Bc hb8 t0;replace t1:=Bc hb8 t1;replace t2:=Bc hb8 t2;replace t3:=Bc hb8 t3;replace r0:=Bc hb8 r0;replace r1:=Bc hb8 r1;replace r2:=Bc hb8 r2;replace r3:=Bc hb8 r3))
      | (go_at_call 43;(with_reducible refine (fD wi w8 MB (k*n'+j) (MB+1) _ hMi (b5.trans (hb8.mono b5.size)) (Ag _) qA qA gm1 am1 nm1 cm1 gm2 am2 nm2 cm2 (Ca x.2 y.2) hmul km1 km2 hap v0 v1 v2 v3 u0 u1 u2 u3 HFM.out.2 (by rw [HKY.out];exact HYK.out)).mono ?_);rintro e w9 ⟨rfl,hM9,hg9⟩;have rr:∀i v,i≠MB→w8.cell? ⟨i,v,none⟩=w8.cell? ⟨i,v,none⟩:=(fun _ _ _=>rfl);clear rr;replace k0:=hg9.cell k0 qJ;replace k1:=hg9.cell k1 qJ;replace k2:=hg9.cell k2 qJ;replace k3:=hg9.cell k3 qJ;replace t0:=hg9.cell t0 qJ;replace t1:=hg9.cell t1 qJ;replace t2:=hg9.cell t2 qJ;replace t3:=hg9.cell t3 qJ;replace r0:=hg9.cell r0 qJ;replace r1:=hg9.cell r1 qJ;replace r2:=hg9.cell r2 qJ;replace r3:=hg9.cell r3 qJ))
     have HB9:Below wo.heap.size wo w9:=Below.grown (HB5.trans (hb8.mono HB5.size)) hg9 (by have:=HB5.size;omega) (fun j hj=>by cases hj;exact hMo);have TS9:=(TSk.keep hb8).row hg9 qJ;rw [HKY.out] at hM9;go_wp2_with fail;go_roundw
     case rel =>
      refine ⟨j+1,by omega,by go_num,TS9,?_,HB9⟩;rw [HT'.out,List.map_append,←List.append_assoc,←Nat.add_assoc];rw [show List.map (fun t=>(Eb x.1 t.1,Ca x.2 t.2)) [y]=[(Eb x.1 y.1,Ca x.2 y.2)] from rfl,Lz];exact hM9
     case measure=>(first|(simp [intOf];omega)|(simp [intOf];done))
    ·obtain rfl:j=n':=by omega
     go_wp2_with fail;go_roundw
     case rel =>
      refine ⟨k+1,by omega,by go_num,?_,HBi⟩;rw [HT.out,Nx,Fp,Nat.add_mul,Nat.one_mul,show C5 [] l'=[] from rfl,List.append_nil];rw [As (l:=l') (by rw [Q6.out];exact Ad _)] at hMi;exact hMi
     case measure=>(first|(simp [intOf];omega)|(simp [intOf];done))
  ·obtain rfl:k=n:=by omega
   rw [As (by rw [P6.out];exact Ad _)] at hM;have hMw:MB<wr.heap.size:=by obtain ⟨D,_,hD,_⟩:=hM.ex;exact hD.lt
   have HSUB:∀z∈C5 l l',CW z.2:=fun z hz=>by
    obtain ⟨x1,h1,y1,h2,rfl⟩:=Fy hz;exact (P7.out.good x1 h1).1.mul (Q7.out.good y1 h2).1
   have hkk:∀j x,Dj (C5 l l') j=some x→j<18446744073709551616∧By 1000000 x:=fun j x hx=>by
    refine ⟨?_,By.mono (Ie HSUB hx).2 (Ah (HW.out j) qA)⟩;obtain ⟨t,ht,e⟩:=Sn hx;obtain ⟨x1,h1,y1,h2,rfl⟩:=Fy ht;rw [←e];have h9:=HO.out;unfold C8 at h9;rw [List.all_eq_true] at h9;have h8:=h9 x1 h1;rw [List.all_eq_true] at h8;have h7:=h8 y1 h2;unfold Gj at h7;simp only [Bool.and_eq_true,decide_eq_true_eq] at h7;exact Re h7.1.1.1 h7.1.1.2 h7.1.2 h7.2
   have hkn:=HNN.out;have HS:=Ae HSUB;clear HSUB;go_wp2_with fail;refine (fX _ MB _ (MB+1) _ hM qA qA hkk).mono ?_;rintro e w6 ⟨a6,n6,c6,r,rfl,hr,hro,hfr,hmr,hb6⟩;obtain rfl:=Lp HS.out hfr hmr;go_wp2_with fail;refine bodyPost_ret (v:=.tuple #[.slice a6 n6 c6,.int .i64 0]) (by simp [results,Tryz.results11,go_sem]) rfl ?_;exact qCw
theorem Ac3 (w:World) (B:Nat) (a:Γ) (n c:Nat) (l:Δ) (h:Bd w B a n c l) (hl:PW l) (K:Nat) (hK:Cj K l) (B':Nat) (a':Γ) (n' c':Nat) (l':Δ) (h':Bd w B' a' n' c' l') (hl':PW l') (K':Nat) (hK':Cj K' l')
  (hs:PW (Nz (-1,1) l')) (hsK:Cj K' (Nz (-1,1) l')) (hsn:(Nz (-1,1) l').length≤500000)
  (hKK:K+K'<1000000) (hn:n≤500000) (hn':n'≤400000) (hw:∀k,wtk (Gh (-1,1) l') k≤400000) :
  Θ 12 #[.slice a n c,.slice a' n' c'] w (Cl w (Lj l l')):=by
 have HS:=Ae (Ay hs (Ay hsK hsn));have HW:=Ae hw;clear hs hsK hsn hw;go_enter Tryz.func12,Tryz.ntmps12;go_wp2_with fail;refine (Fh w (-1) qA qA).mono ?_;rintro e w1 ⟨g1,a1,n1,c1,g2,a2,n2,c2,rfl,hone,hf1,hf2,hap,hb1⟩;have q1:=Co hone.top qI;have q2:=Co hone.low qI;go_wp2_with fail;refine (Wb w1 B' a' n' c' l' (h'.keep hb1) hl' K' hK' qA hn' g1 a1 n1 c1 g2 a2 n2 c2 (-1,1) (fun _=>hone) qA qA HW.out).mono ?_;rintro e w2 ⟨a3,n3,c3,rfl,P3,_,hb2⟩;have B2:=hb1.trans (hb2.mono hb1.size);have hn3:n3≤500000:=by have h1:=P3.len;have h2:=HS.out.2.2;omega
 go_wp2_with fail;refine (Me w2 B a n c l (h.keep B2) hl K hK _ a3 n3 c3 _ P3 HS.out.1 K' HS.out.2.1 hKK hn hn3).mono ?_;rintro e w3 ⟨a4,n4,c4,rfl,P4,PO,hb3⟩;go_wp2_with fail;refine bodyPost_ret (v:=.slice a4 n4 c4) (by simp [results,Tryz.results12,go_sem]) rfl ?_;have e:Lj l l'=Cu l (Nz (-1,1) l'):=Tn hl HS.out.1;rw [e];exact ⟨a4,n4,c4,rfl,P4.mono B2.size,PO.mono B2.size,B2.trans (hb3.mono B2.size)⟩
theorem vZ (w:World) (b:Nat) (s t:Tm) (h0:w.cell? ⟨b,0,none⟩=some (.int .u8 0)) :
  Θ 301 #[s.val,t.val,.pointer (some ⟨b,0,none⟩)] w (fun e w'=>e=.returned (.int .i64 (Iq s.mono t.mono))∧Below w.heap.size w w'):=by
 have hlt:b<w.heap.size:=Aa _ _ h0;have HB:=Ac w.heap.size w;go_enter Tryz.func301,Tryz.ntmps301;exact qCz
def tm0:Tm:=⟨false,none,0,0,[],false,none,0,0,[],0,0,0,0⟩
theorem fY {s t:Tm} {w:World} (hs:Ei w s) (ht:Ei w t):Iq s.mono t.mono=Bz (Cg s.m0 s.m1 s.m2 s.m3:Nat) (Cg t.m0 t.m1 t.m2 t.m3:Nat) :=
 N6 hs.s0 hs.s1 hs.s2 hs.s3 ht.s0 ht.s1 ht.s2 ht.s3
theorem mR {x y:Int} (h:Bz x y<0):x<y:=by
 unfold Bz at h
 split at h
 ·assumption
 ·split at h<;>omega
theorem lH {w:World} {a:Γ} {n c:Nat} {p:Nat→Tm} (hp:RdP w a n c p) (hok:POk p n):∀i,0<i→i<n→Cg (p i).m0 (p i).m1 (p i).m2 (p i).m3<Cg (p 0).m0 (p 0).m1 (p 0).m2 (p 0).m3:=by
 intro i
 induction i with
 | zero=>intro h;omega
 | succ k ih =>
  intro _ hk;have h1:=(hok (k+1) hk).2 qA;rw [fY (hp.tm (k+1) hk) (hp.tm (k+1-1) qA)] at h1;have h2:=mR h1;rw [Nat.add_sub_cancel] at h2;rcases Aq k with h0|h0
  ·subst h0;omega
  ·have:=ih h0 qA;omega
theorem jP (wo:World) (a:Γ) (n c:Nat) (p:Nat→Tm) (hp:RdP wo a n c p) (hok:POk p n) (h0:0<n) (b:Nat) (hbx:wo.cell? ⟨b,0,none⟩=some (.int .u8 0)) :
  Θ 300 #[.slice a n c,.func (.func 301) #[] #[.pointer (some ⟨b,0,none⟩)]] wo (fun e w'=>e=.returned (p 0).val∧Below wo.heap.size wo w'):=by
 have HB:=Ac wo.heap.size wo;have hnf:=hp.few;have HO:=Ae (lH hp hok);clear hok;obtain ⟨gb,go,rfl,hgc⟩:=hp.cell.resolve_left qA;have hgb:gb<wo.heap.size:=Aa _ _ (hgc 0 h0).e0;clear hgc;have hat:=hp.at h0;rw [Nat.zero_mul,Nat.add_zero] at hat;obtain ⟨e0,e1,e2,e3,e4,e5,e6,e7⟩:=hat;go_enter Tryz.func300,Tryz.ntmps300;go_wp2_with fail;go_loopw [6] (fun v6 wr=>∃i:Nat,1≤i∧i≤n∧v6=.int .i64 i∧Dh wr wo.heap.size tm0∧Dh wr (wo.heap.size+1) (p 0)∧Below wo.heap.size wo wr) (fun v6 _=>n-(intOf v6).toNat)
 case atStart =>
  refine ⟨1,by omega,by omega,rfl,?_,?_,by go_grown⟩
  ·constructor<;>simp [go_sem,tm0]
  ·constructor<;>simp [go_sem]
 case round =>
  obtain ⟨i,hi1,hi,rfl,TZ,TM,HBr⟩:=hrel;clear e0 e1 e2 e3 e4 e5 e6 e7;by_cases hlt:i<n
  ·have hat:=(hp.keep HBr).at hlt;have hx:Iq (p i).mono (p 0).mono=-1:=by
    rw [fY (hp.tm i hlt) (hp.tm 0 h0)];exact Dx (by have:=HO.out i qA hlt;omega)
   have hbr:wr.cell? ⟨b,0,none⟩=some (.int .u8 0):=Bc HBr hbx;have hw7:=TM.lt;have TM':=TM;generalize p i=t at *;generalize p 0=s at *;obtain ⟨e0,e1,e2,e3,e4,e5,e6,e7⟩:=hat;obtain ⟨m0,m1,m2,m3,m4,m5,m6,m7,-,-,-,-,-,-,-,-⟩:=TM;have HB:=Ac wr.heap.size wr;have hi0:(0:Int)≤(i:Int):=by omega
   have hin:(i:Int)<(n:Int):=by omega
   clear hp;go_wp2_with fail;go_region_held3 (fun W=>W.cell? ⟨gb,go+i*8,none⟩=some (.bool t.g1)∧W.cell? ⟨gb,go+i*8+1,none⟩=some (.slice t.a1 t.n1 t.c1)∧W.cell? ⟨gb,go+i*8+2,none⟩=some (.bool t.g2)∧W.cell? ⟨gb,go+i*8+3,none⟩=some (.slice t.a2 t.n2 t.c2)∧W.cell? ⟨gb,go+i*8+4,none⟩=some (.int .u16 t.m0)∧W.cell? ⟨gb,go+i*8+5,none⟩=some (.int .u16 t.m1)∧W.cell? ⟨gb,go+i*8+6,none⟩=some (.int .u16 t.m2)∧W.cell? ⟨gb,go+i*8+7,none⟩=some (.int .u16 t.m3)∧W.cell? ⟨wo.heap.size+1,0,none⟩=some (.bool s.g1)∧W.cell? ⟨wo.heap.size+1,1,none⟩=some (.slice s.a1 s.n1 s.c1)∧W.cell? ⟨wo.heap.size+1,2,none⟩=some (.bool s.g2)∧W.cell? ⟨wo.heap.size+1,3,none⟩=some (.slice s.a2 s.n2 s.c2)∧W.cell? ⟨wo.heap.size+1,4,none⟩=some (.int .u16 s.m0)∧W.cell? ⟨wo.heap.size+1,5,none⟩=some (.int .u16 s.m1)∧W.cell? ⟨wo.heap.size+1,6,none⟩=some (.int .u16 s.m2)∧W.cell? ⟨wo.heap.size+1,7,none⟩=some (.int .u16 s.m3)) (first|((try dsimp only);(repeat' apply Ay);all_goals (first|(with_reducible assumption)|(go_keep;done)|(simp [*,go_sem];done)))) (first
    | (go_at_call 301;(with_reducible refine (vZ _ b t s (Bc qF hbr)).mono ?_);rintro e w7 ⟨rfl,hb⟩;have hb7:=zI wr hb;rw [hx];(replace e0:=Bc hb7 e0;replace e1:=Bc hb7 e1;replace e2:=Bc hb7 e2;replace e3:=Bc hb7 e3;replace e4:=Bc hb7 e4;replace e5:=Bc hb7 e5;replace e6:=Bc hb7 e6;replace e7:=Bc hb7 e7;replace m0:=Bc hb7 m0;replace m1:=Bc hb7 m1;replace m2:=Bc hb7 m2;replace m3:=Bc hb7 m3;replace m4:=Bc hb7 m4;replace m5:=Bc hb7 m5;replace m6:=Bc hb7 m6;replace m7:=Bc hb7 m7)))
   go_wp2_with fail;go_roundw
   case rel=>exact ⟨i+1,by omega,by omega,by go_num,TZ.keep hb7,TM'.keep hb7,HBr.trans (hb7.mono HBr.size)⟩
   case measure=>(first|(simp [intOf];omega)|(simp [intOf];done))
  ·obtain rfl:i=n:=by omega
   clear hp;obtain ⟨m0,m1,m2,m3,m4,m5,m6,m7,-,-,-,-,-,-,-,-⟩:=TM;obtain ⟨z0,z1,z2,z3,z4,z5,z6,z7,zf0,zf1,zf2,zf3,zf4,zf5,zf6,zf7⟩:=TZ;go_wp2_with fail;refine bodyPost_ret (v:=(p 0).val) (by simp [*,results,Tryz.results300,go_sem]) rfl ⟨rfl,by go_grown⟩
def eX (w:World) (x:PT) (e:Ending) (w':World):Prop :=
 ∃t:Tm,e=.returned (.tuple #[t.val,.bool true])∧Ey t x∧Ei w' t∧Bg w.heap.size w' t.a1 t.c1∧Bg w.heap.size w' t.a2 t.c2∧Below w.heap.size w w'
theorem Aan (w:World) (B:Nat) (a:Γ) (n c:Nat) (x:PT) (l:Δ) (h:Bd w B a n c (x::l)) (hl:PW (x::l)) (K:Nat) (hK:Cj K (x::l)) (hK1:K≤1000000) :
  Θ 245 #[.int .u8 0,.slice a n c] w (eX w x):=by
 obtain ⟨p,hp,hpx⟩:=h.ts;have hok:=h.pok hl hp hpx;have hpf:=h.few hK hp hpx;have hlen:n=l.length+1:=by have:=h.len;simpa using this.symm
 have hn0:0<n:=by omega
 have P1:=Ae hok;have P3:Hid (∀k,k<n→(p k).n1≤1000000∧(p k).n2≤1000000):=Ae fun k hk=>by have:=hpf k hk;omega
 have P5:=Ae (hpx 0 x rfl).1;have P7:=Ae (hl.good x qG);have HB:=Ac w.heap.size w;clear hok hpf hpx hlen hl hK;go_enter Tryz.func245,Tryz.ntmps245;go_wp2_with fail;refine (Lk _ a n c p (hp.keep qF) P3.out true ⟨fun _=>rfl,fun _=>P1.out⟩).mono ?_;rintro e w1 ⟨rfl,hb1⟩;rw [if_pos rfl];have O1:B1 w1 w.heap.size (.int .u8 0):=B1.keep (by constructor<;>simp [go_sem]) hb1;have T1:Dh w1 (w.heap.size+1) tm0:=Dh.keep (by constructor<;>simp [go_sem,tm0]) hb1;have HB1:=zI w hb1;clear hb1 HB;go_wp2_with fail;refine (jP w1 a n c p (hp.keep HB1) P1.out hn0 _ O1.c0).mono ?_;rintro e w2 ⟨rfl,hb2⟩;have T2:=T1.keep hb2;have HB2:=HB1.trans (hb2.mono HB1.size);have hrd0:=hp.tm 0 hn0;have hfr0:=P5.out.frac hrd0 P7.out.1;have hq:=P3.out 0 hn0;clear hb2 T1 HB1 hp P1 P3 O1;generalize p 0=s at *;have hbl:=T2.lt;obtain ⟨z0,z1,z2,z3,z4,z5,z6,z7,zf0,zf1,zf2,zf3,zf4,zf5,zf6,zf7⟩:=T2;go_upto_region 4 with fail
 refine Cc ?_;intro w3 hw3;have T3:Dh w3 (w.heap.size+1) s:=by rw [hw3];constructor<;>simp [*,go_sem]
 have HB3:Below w.heap.size w w3:=by rw [hw3];go_grown
 have hz3:w.heap.size+1<w3.heap.size:=T3.lt;have hfr:=hfr0.keep HB3;clear hw3 z0 z1 z2 z3 z4 z5 z6 z7 zf0 zf1 zf2 zf3 zf4 zf5 zf6 zf7 HB2 hbl;obtain ⟨t0,t1,t2,t3,t4,t5,t6,t7,tf0,tf1,tf2,tf3,tf4,tf5,tf6,tf7⟩:=T3;refine Cf (fun W=>W.cell? ⟨w.heap.size+1,0,none⟩=some (.bool s.g1)∧W.cell? ⟨w.heap.size+1,1,none⟩=some (.slice s.a1 s.n1 s.c1)∧W.cell? ⟨w.heap.size+1,2,none⟩=some (.bool s.g2)∧W.cell? ⟨w.heap.size+1,3,none⟩=some (.slice s.a2 s.n2 s.c2)∧W.cell? ⟨w.heap.size+1,4,none⟩=some (.int .u16 s.m0)∧W.cell? ⟨w.heap.size+1,5,none⟩=some (.int .u16 s.m1)∧W.cell? ⟨w.heap.size+1,6,none⟩=some (.int .u16 s.m2)∧W.cell? ⟨w.heap.size+1,7,none⟩=some (.int .u16 s.m3)) 7 qC qK (fun hHeld=>?_);(refine Bk.take 7 (i:=0) (v:=?_) rfl qC (fun _ _ _ h=>h) (Or.inl ⟨by rfl,?_⟩) qH ?_;rotate_left;(focus (intro w' hSw;(try dsimp only at hSw);go_simp;(try with_reducible rfl)));(try simp only [Act.put,Au,Av,Aw]));(refine Bk.take 7 (i:=1) (v:=?_) rfl qC (fun _ _ _ h=>h) (Or.inl ⟨by rfl,?_⟩) qH ?_;rotate_left;(focus (intro w' hSw;(try dsimp only at hSw);go_simp;(try with_reducible rfl)));(try simp only [Act.put,Au,Av,Aw]));(refine Bk.take 7 (i:=4) (v:=?_) rfl qC (fun _ _ _ h=>h) (Or.inl ⟨by rfl,?_⟩) qH ?_;rotate_left;(focus (intro w' hSw;(try dsimp only at hSw);go_simp;(try with_reducible rfl)));(try simp only [Act.put,Au,Av,Aw]));(refine Bk.take 7 (i:=5) (v:=?_) rfl qC (fun _ _ _ h=>h) (Or.inl ⟨by rfl,?_⟩) qH ?_;rotate_left;(focus (intro w' hSw;(try dsimp only at hSw);go_simp;(try with_reducible rfl)));(try simp only [Act.put,Au,Av,Aw]));(refine Bk.one (i:=2) rfl qC (fun K hK=>?_);go_simp;(go_at_call 10;(with_reducible refine (Fh _ 1 qA qA).mono ?_);rintro e w4 ⟨g7,a7,n7,c7,g8,a8,n8,c8,rfl,hone,hf7,hf8,hap7,hb⟩;have hb4:=zI w3 hb;(replace tf0:=(Ab hb4 (Aa _ _ t0)).trans tf0;replace tf1:=(Ab hb4 (Aa _ _ t1)).trans tf1;replace tf2:=(Ab hb4 (Aa _ _ t2)).trans tf2;replace tf3:=(Ab hb4 (Aa _ _ t3)).trans tf3;replace tf4:=(Ab hb4 (Aa _ _ t4)).trans tf4;replace tf5:=(Ab hb4 (Aa _ _ t5)).trans tf5;replace tf6:=(Ab hb4 (Aa _ _ t6)).trans tf6;replace tf7:=(Ab hb4 (Aa _ _ t7)).trans tf7;replace t0:=Bc hb4 t0;replace t1:=Bc hb4 t1;replace t2:=Bc hb4 t2;replace t3:=Bc hb4 t3;replace t4:=Bc hb4 t4;replace t5:=Bc hb4 t5;replace t6:=Bc hb4 t6;replace t7:=Bc hb4 t7);have hfr4:=hfr.keep hb4;have q7:=Co hone.top qI;have q8:=Co hone.low qI);(try go_wp2_with fail);refine hK.out _ _ (fun _=>qK) ?_;clear hK K;(try simp only [Act.put,Au,Av,Aw]))
 (refine Bk.one (i:=3) rfl qC (fun K hK=>?_);go_simp;(go_at_call 39;(with_reducible refine (I3 _ _ _ _ _ _ _ _ _ _ _ (hfr4.keep qF) _ _ _ _ _ _ _ _ _ _ (hone.keep qF) qA qA qA qA).mono ?_);rintro e w5 ⟨g9,a9,n9,c9,gA,aA,nA,cA,rfl,hres,hf9,hfA,hap9,hb⟩;have hb5:Below w4.heap.size w4 w5:=(by first|exact hb|exact Al qF (hb.mono qB));(replace tf0:=(Ab hb5 (Aa _ _ t0)).trans tf0;replace tf1:=(Ab hb5 (Aa _ _ t1)).trans tf1;replace tf2:=(Ab hb5 (Aa _ _ t2)).trans tf2;replace tf3:=(Ab hb5 (Aa _ _ t3)).trans tf3;replace tf4:=(Ab hb5 (Aa _ _ t4)).trans tf4;replace tf5:=(Ab hb5 (Aa _ _ t5)).trans tf5;replace tf6:=(Ab hb5 (Aa _ _ t6)).trans tf6;replace tf7:=(Ab hb5 (Aa _ _ t7)).trans tf7;replace t0:=Bc hb5 t0;replace t1:=Bc hb5 t1;replace t2:=Bc hb5 t2;replace t3:=Bc hb5 t3;replace t4:=Bc hb5 t4;replace t5:=Bc hb5 t5;replace t6:=Bc hb5 t6;replace t7:=Bc hb5 t7));(try go_wp2_with fail);refine hK.out _ _ (fun _=>qK) ?_;clear hK K;(try simp only [Act.put,Au,Av,Aw]));(refine Bk.one (i:=6) rfl qC (fun K hK=>?_);go_simp;skip;(try go_wp2_with fail);refine hK.out _ _ (fun _=>qK) ?_;clear hK K;(try simp only [Act.put,Au,Av,Aw]));(refine Bk.one (i:=7) rfl qC (fun K hK=>?_);go_simp;refine hK.out _ _ (fun h=>absurd h qI) ?_;clear hK K;(try simp only [Act.put,Au,Av,Aw]));(refine Bk.one (i:=8) rfl qC (fun K hK=>?_);go_simp;refine hK.out _ _ (fun h=>absurd h qI) ?_;clear hK K;(try simp only [Act.put,Au,Av,Aw]));refine Bk.done qC ?_ _;have u:w.heap.size+1<w3.heap.size:=hz3;have hz4:=hb4.size;have HB5:=HB3.trans ((hb4.trans (hb5.mono hb4.size)).mono HB3.size);have f9:Bg w3.heap.size w5 a9 c9:=hf9.mono qS;have fA:Bg w3.heap.size w5 aA cA:=hfA.mono qS;go_wp2_with fail;have e1:E6 (x.2.1*1) (x.2.2*1)=x.2.1:=congrArg Prod.fst (Jh P7.out.1);have e2:Fi (x.2.1*1) (x.2.2*1)=x.2.2:=congrArg Prod.snd (Jh P7.out.1);rw [e1,e2] at hres;refine bodyPost_ret (v:=.tuple #[(⟨g9,a9,n9,c9,dg x.2.1.natAbs,gA,aA,nA,cA,dg x.2.2.natAbs,s.m0,s.m1,s.m2,s.m3⟩:Tm).val,.bool true]) (by simp [*,results,Tryz.results245,go_sem]) rfl ?_;refine ⟨⟨g9,a9,n9,c9,dg x.2.1.natAbs,gA,aA,nA,cA,dg x.2.2.natAbs,s.m0,s.m1,s.m2,s.m3⟩,rfl,⟨hres.top.neg,rfl,hres.low.neg,rfl,P5.out.key⟩,⟨?_,?_,hrd0.s0,hrd0.s1,hrd0.s2,hrd0.s3⟩,((f9.set4 _ _ _ _ _ _ _ _ u u u u).set4 _ _ _ _ _ _ _ _ u u u u).mono HB3.size,((fA.set4 _ _ _ _ _ _ _ _ u u u u).set4 _ _ _ _ _ _ _ _ u u u u).mono HB3.size,by go_grown⟩
 ·exact Bh.rd (g:=g9) (z:=x.2.1) ((hres.top.set4 f9 _ _ _ _ _ _ _ _ u u u u).set4 (f9.set4 _ _ _ _ _ _ _ _ u u u u) _ _ _ _ _ _ _ _ u u u u)
 ·exact Bh.rd (g:=gA) (z:=x.2.2) ((hres.low.set4 fA _ _ _ _ _ _ _ _ u u u u).set4 (fA.set4 _ _ _ _ _ _ _ _ u u u u) _ _ _ _ _ _ _ _ u u u u)
theorem uC {g:Bool} {z:Int} (hg:g=decide (z<0)):sgn (!g) z.natAbs=-z:=by
 subst hg;by_cases h:z<0<;>simp [sgn,h]<;>omega
theorem Ac7 (w:World) (g:Bool) (a:Γ) (n c:Nat) (z:Int) (h:Bh w g a n c z) :
  Θ 204 #[.agg #[.bool g,.slice a n c]] w (Fc w (-z)):=by
 have HB:=Ac w.heap.size w;have hneg:=Ae h.neg;go_enter Tryz.func204,Tryz.ntmps204;go_wp2_with fail;refine (In _ _ _ _ _ z (h.keep qF)).mono ?_;rintro e w1 ⟨rfl,hb⟩;obtain ⟨hc,hf⟩:=Bl hb;have hz:=hb.size;(try simp only [Aj,Ak] at hz);replace HB:=zI w hb;obtain ⟨s0_0,s0_1⟩:=qZ hc (w.heap.size) (.bool g) (.slice a n c);obtain ⟨s1_0,s1_1⟩:=zE hc (w.heap.size+1);obtain ⟨f1_0,f1_1⟩:=zF hf (w.heap.size+1);obtain ⟨f0_0,f0_1⟩:=zF hf (w.heap.size);have hk1:w.heap.size+1<w1.heap.size:=by omega
 clear hc hf hb hz;go_wp2_with fail;refine Cc ?_;intro w2 hw2;have B2:Below w.heap.size w w2:=by rw [hw2];go_grown
 have A0:w2.cell? ⟨w.heap.size,0,none⟩=some (.bool g):=by rw [hw2];simp [*,go_sem]
 have A1:w2.cell? ⟨w.heap.size,1,none⟩=some (.slice a n c):=by rw [hw2];simp [*,go_sem]
 have R0:w2.cell? ⟨w.heap.size+1,0,none⟩=some (.bool false):=by rw [hw2];simp [*,go_sem]
 have R1:w2.cell? ⟨w.heap.size+1,1,none⟩=some (.slice none 0 0):=by rw [hw2];simp [*,go_sem]
 have Rf0:w2.frozen? ⟨w.heap.size+1,0,none⟩=false:=by rw [hw2];simp [*,go_sem]
 have Rf1:w2.frozen? ⟨w.heap.size+1,1,none⟩=false:=by rw [hw2];simp [*,go_sem]
 clear hw2 HB s0_0 s0_1 s1_0 s1_1 f0_0 f0_1 f1_0 f1_1;have HB:=Ac w2.heap.size w2;have hk2:w.heap.size+1<w2.heap.size:=Aa _ _ R0;go_region_held3 (fun W=>W.cell? ⟨w.heap.size,0,none⟩=some (.bool g)∧W.cell? ⟨w.heap.size,1,none⟩=some (.slice a n c)) (first|((try dsimp only);(repeat' apply Ay);all_goals (first|(with_reducible assumption)|(go_keep;done)|(simp [*,go_sem];done)))) (first
  | (go_at_call 203;(with_reducible refine (Ml _ _ _ _ (dg z.natAbs) ((h.keep B2).rd.keep qP)).mono ?_);rintro e w3 ⟨a2,c2,rfl,hr2,hf2,hb⟩;replace HB:Below w2.heap.size w2 w3:=Al qP (hb.mono qB);have hsz:=HB.size;(replace Rf0:=(Ab HB (Aa _ _ R0)).trans Rf0;replace Rf1:=(Ab HB (Aa _ _ R1)).trans Rf1;replace A0:=Bc HB A0;replace A1:=Bc HB A1;replace R0:=Bc HB R0;replace R1:=Bc HB R1))
  | (go_at_call 97;(with_reducible refine (E9 _ (!g) a2 n c2 _ (hr2.keep qU) (Ew _)).mono ?_);rintro e w4 ⟨g3,n3,rfl,hn3,hnum3,hb⟩;have hb4:Below w3.heap.size w3 w4:=Al qU (hb.mono qB);replace HB:Below w2.heap.size w2 w4:=HB.trans (hb4.mono qB);have hsz4:=HB.size;(replace Rf0:=(Ab hb4 (Aa _ _ R0)).trans Rf0;replace Rf1:=(Ab hb4 (Aa _ _ R1)).trans Rf1;replace A0:=Bc hb4 A0;replace A1:=Bc hb4 A1;replace R0:=Bc hb4 R0;replace R1:=Bc hb4 R1)))
 have hf3:=((hf2.keep hb4).less hn3).mono (show w.heap.size+1+1≤_ by go_size);have hv:sgn (!g) (val (dg z.natAbs))=-z:=by rw [Bq];exact uC hneg.out
 rw [hv] at hnum3;have B4:=B2.trans (HB.mono B2.size);go_wp2_with fail;have u:w.heap.size+1<w.heap.size+1+1:=Ag _;refine bodyPost_ret (v:=.agg #[.bool g3,.slice a2 n3 n3]) (by simp [results,Tryz.results204,go_sem,R0,R1]) rfl ?_;exact ⟨g3,a2,n3,n3,rfl,(hnum3.setFresh hf3 _ _ u).setFresh (hf3.setNew _ _ u) _ _ u,((hf3.setNew _ _ u).setNew _ _ u).mono qA,by go_grown⟩
theorem N5 {p q:Int} (hq:q<0):0<q/(-(Int.gcd p q:Int))∧Int.gcd (p/(-(Int.gcd p q:Int))) (q/(-(Int.gcd p q:Int)))=1:=by
 have h:=Ro (p:=p) (q:=-q) qA;have e:Int.gcd p (-q)=Int.gcd p q:=Int.gcd_neg;rw [e] at h;have d1:((Int.gcd p q:Nat):Int)∣q:=Int.gcd_dvd_right ..;rw [Int.ediv_neg,Int.ediv_neg,Int.neg_gcd,Int.gcd_neg];rw [Int.neg_ediv_of_dvd d1,Int.gcd_neg] at h;exact h
theorem Id {p q:Int} (hq:q<0):(dg (Int.gcd p q)).length≤(dg q.natAbs).length:=by
 have h:=J0 (p:=p) (q:=-q) qA;rwa [Int.gcd_neg,Int.natAbs_neg] at h
theorem pZ (w:World) (g:Bool) (a:Γ) (n c:Nat) (z:Int) (h:Bh w g a n c z) (g':Bool) (a':Γ) (n' c':Nat) (z':Int) (h':Bh w g' a' n' c' z')
  (hz':z'<0) (hb1:n<35184372088829) (hb2:n'<35184372088829) :
  Θ 124 #[.agg #[.bool g,.slice a n c],.agg #[.bool g',.slice a' n' c']] w (Eg w (z/(-(Int.gcd z z':Int))) (z'/(-(Int.gcd z z':Int)))):=by
 have HB:=Ac w.heap.size w;have hsg:Bz z' 0=-1:=Dx hz';have hgp:0<Int.gcd z z':=Int.gcd_pos_of_ne_zero_right _ qA;go_enter Tryz.func124,Tryz.ntmps124;go_wp2_with fail;refine Be ?_;intro w0 hw0;have HB0:Below w.heap.size w w0:=by rw [hw0];go_grown
 have A0:w0.cell? ⟨w.heap.size,0,none⟩=some (.bool g):=by rw [hw0];simp [go_sem]
 have A1:w0.cell? ⟨w.heap.size,1,none⟩=some (.slice a n c):=by rw [hw0];simp [go_sem]
 have B0:w0.cell? ⟨w.heap.size+1,0,none⟩=some (.bool g'):=by rw [hw0];simp [go_sem]
 have B1:w0.cell? ⟨w.heap.size+1,1,none⟩=some (.slice a' n' c'):=by rw [hw0];simp [go_sem]
 have R0:w0.cell? ⟨w.heap.size+1+1,0,none⟩=some (.bool false):=by rw [hw0];simp [go_sem]
 have R1:w0.cell? ⟨w.heap.size+1+1,1,none⟩=some (.slice none 0 0):=by rw [hw0];simp [go_sem]
 have R2:w0.cell? ⟨w.heap.size+1+1,2,none⟩=some (.bool false):=by rw [hw0];simp [go_sem]
 have R3:w0.cell? ⟨w.heap.size+1+1,3,none⟩=some (.slice none 0 0):=by rw [hw0];simp [go_sem]
 have Rf0:w0.frozen? ⟨w.heap.size+1+1,0,none⟩=false:=by rw [hw0];simp [go_sem]
 have Rf1:w0.frozen? ⟨w.heap.size+1+1,1,none⟩=false:=by rw [hw0];simp [go_sem]
 have Rf2:w0.frozen? ⟨w.heap.size+1+1,2,none⟩=false:=by rw [hw0];simp [go_sem]
 have Rf3:w0.frozen? ⟨w.heap.size+1+1,3,none⟩=false:=by rw [hw0];simp [go_sem]
 have hk0:w.heap.size+1+1+1≤w0.heap.size:=Aa _ _ R0;clear hw0;refine (eJ _ _ _ _ _ z (h.keep HB0) _ _ _ _ z' (h'.keep HB0) hb2 hb1).mono ?_;rintro e w1 ⟨gg,ag,ng,cg,rfl,hng,hfg,hb⟩;have HB1:=HB0.trans (hb.mono HB0.size)
 (replace Rf0:=(Ab hb (Aa _ _ R0)).trans Rf0;replace Rf1:=(Ab hb (Aa _ _ R1)).trans Rf1;replace Rf2:=(Ab hb (Aa _ _ R2)).trans Rf2;replace Rf3:=(Ab hb (Aa _ _ R3)).trans Rf3;replace A0:=Bc hb A0;replace A1:=Bc hb A1;replace B0:=Bc hb B0;replace B1:=Bc hb B1;replace R0:=Bc hb R0;replace R1:=Bc hb R1;replace R2:=Bc hb R2;replace R3:=Bc hb R3)
 have hs1:=HB1.size;have hlg:ng≤n':=by have h1:=hng.rd.len;have h2:=h'.rd.len;rw [Int.natAbs_natCast] at h1;have h3:=Id (p:=z) hz';omega
 have hkr:w.heap.size+1+1<w1.heap.size:=Aa _ _ R0;replace hfg:=hfg.mono hk0;clear hb HB0;go_upto_region 2 with fail
 (refine Cc ?_;intro w2 hw2;have G0':w2.cell? ⟨w1.heap.size,0,none⟩=some (.bool gg):=(by rw [hw2];first|assumption|(simp [go_sem];done)|(simp [*,go_sem];done));have Gf0':w2.frozen? ⟨w1.heap.size,0,none⟩=false:=(by rw [hw2];first|assumption|(simp [go_sem];done)|(simp [*,go_sem];done));have G1':w2.cell? ⟨w1.heap.size,1,none⟩=some (.slice ag ng cg):=(by rw [hw2];first|assumption|(simp [go_sem];done)|(simp [*,go_sem];done));have Gf1':w2.frozen? ⟨w1.heap.size,1,none⟩=false:=(by rw [hw2];first|assumption|(simp [go_sem];done)|(simp [*,go_sem];done));have G0:=G0';clear G0';have Gf0:=Gf0';clear Gf0';have G1:=G1';clear G1';have Gf1:=Gf1';clear Gf1');have hb12:Below w1.heap.size w1 w2:=by rw [hw2];go_grown
 (replace Rf0:=(Ab hb12 (Aa _ _ R0)).trans Rf0;replace Rf1:=(Ab hb12 (Aa _ _ R1)).trans Rf1;replace Rf2:=(Ab hb12 (Aa _ _ R2)).trans Rf2;replace Rf3:=(Ab hb12 (Aa _ _ R3)).trans Rf3;replace A0:=Bc hb12 A0;replace A1:=Bc hb12 A1;replace B0:=Bc hb12 B0;replace B1:=Bc hb12 B1;replace R0:=Bc hb12 R0;replace R1:=Bc hb12 R1;replace R2:=Bc hb12 R2;replace R3:=Bc hb12 R3)
 have hs2:w1.heap.size<w2.heap.size:=by rw [hw2];simp
 have HB2:=HB1.trans (hb12.mono hs1);replace hng:=hng.keep hb12;replace hfg:=hfg.keep hb12;obtain ⟨G,hG⟩:∃G,G=w1.heap.size:=⟨_,rfl⟩;rw [←hG] at G0 G1 Gf0 Gf1 ⊢;have hGr:w.heap.size+1+1<G:=by omega
 clear hw2 hb12 HB1 hG;go_wp2_with fail;refine (La _ _ _ _ _ z' (h'.keep HB2)).mono ?_;rintro e w3 ⟨rfl,hb⟩;have HB3:=HB2.trans (hb.mono HB2.size)
 (replace Rf0:=(Ab hb (Aa _ _ R0)).trans Rf0;replace Rf1:=(Ab hb (Aa _ _ R1)).trans Rf1;replace Rf2:=(Ab hb (Aa _ _ R2)).trans Rf2;replace Rf3:=(Ab hb (Aa _ _ R3)).trans Rf3;replace Gf0:=(Ab hb (Aa _ _ G0)).trans Gf0;replace Gf1:=(Ab hb (Aa _ _ G1)).trans Gf1;replace A0:=Bc hb A0;replace A1:=Bc hb A1;replace B0:=Bc hb B0;replace B1:=Bc hb B1;replace R0:=Bc hb R0;replace R1:=Bc hb R1;replace R2:=Bc hb R2;replace R3:=Bc hb R3;replace G0:=Bc hb G0;replace G1:=Bc hb G1)
 replace hng:=hng.keep hb;replace hfg:=hfg.keep hb;have hk3:w.heap.size+1+1<w3.heap.size:=Nat.lt_trans hGr (Aa _ _ G0);have HGL:G<w3.heap.size:=Aa _ _ G0;clear hb HB2;rw [hsg];go_wp2_with fail;refine (Ac7 _ _ _ _ _ _ hng).mono ?_;rintro e w3n ⟨gm,am,nm,cm,rfl,hnm,hfm,hb⟩;have HB3n:=HB3.trans (hb.mono HB3.size)
 (replace Rf0:=(Ab hb (Aa _ _ R0)).trans Rf0;replace Rf1:=(Ab hb (Aa _ _ R1)).trans Rf1;replace Rf2:=(Ab hb (Aa _ _ R2)).trans Rf2;replace Rf3:=(Ab hb (Aa _ _ R3)).trans Rf3;replace Gf0:=(Ab hb (Aa _ _ G0)).trans Gf0;replace Gf1:=(Ab hb (Aa _ _ G1)).trans Gf1;replace A0:=Bc hb A0;replace A1:=Bc hb A1;replace B0:=Bc hb B0;replace B1:=Bc hb B1;replace R0:=Bc hb R0;replace R1:=Bc hb R1;replace R2:=Bc hb R2;replace R3:=Bc hb R3;replace G0:=Bc hb G0;replace G1:=Bc hb G1)
 have hk3n:w.heap.size+1+1<w3n.heap.size:=Aa _ _ R0;have hGn:¬G=w.heap.size+1+1:=by omega
 have hGn':¬w.heap.size+1+1=G:=by omega
 have hGl:G<w3.heap.size:=HGL;have hGa:¬w.heap.size=G:=by omega
 have hGb:¬w.heap.size+1=G:=by omega
 have hfm3:Bg w3.heap.size w3n am cm:=hfm;have hlm:nm≤n':=by have h1:=hnm.rd.len;rw [Int.natAbs_neg,Int.natAbs_natCast] at h1;have h2:=h'.rd.len;have h3:=Id (p:=z) hz';omega
 have hgne:-((Int.gcd z z':Nat):Int)≠0:=by omega
 obtain ⟨D,hD⟩:∃D:Int,D=-((Int.gcd z z':Nat):Int):=⟨_,rfl⟩;rw [←hD] at hnm hgne;have HD:=Ae hD;clear hD hb HB3 hng hfg hlg hfm;go_wp2_with fail;refine Be ?_;intro w3p hw3p;have hb3p:Below w.heap.size w w3p:=by rw [hw3p];go_grown
 have A0':w3p.cell? ⟨w.heap.size,0,none⟩=some (.bool g):=by rw [hw3p];simp [*,go_sem]
 have A1':w3p.cell? ⟨w.heap.size,1,none⟩=some (.slice a n c):=by rw [hw3p];simp [*,go_sem]
 have B0':w3p.cell? ⟨w.heap.size+1,0,none⟩=some (.bool g'):=by rw [hw3p];simp [*,go_sem]
 have B1':w3p.cell? ⟨w.heap.size+1,1,none⟩=some (.slice a' n' c'):=by rw [hw3p];simp [*,go_sem]
 have R0':w3p.cell? ⟨w.heap.size+1+1,0,none⟩=some (.bool false):=by rw [hw3p];simp [*,go_sem]
 have R1':w3p.cell? ⟨w.heap.size+1+1,1,none⟩=some (.slice none 0 0):=by rw [hw3p];simp [*,go_sem]
 have R2':w3p.cell? ⟨w.heap.size+1+1,2,none⟩=some (.bool false):=by rw [hw3p];simp [*,go_sem]
 have R3':w3p.cell? ⟨w.heap.size+1+1,3,none⟩=some (.slice none 0 0):=by rw [hw3p];simp [*,go_sem]
 have Rf0':w3p.frozen? ⟨w.heap.size+1+1,0,none⟩=false:=by rw [hw3p];simp [*,go_sem]
 have Rf1':w3p.frozen? ⟨w.heap.size+1+1,1,none⟩=false:=by rw [hw3p];simp [*,go_sem]
 have Rf2':w3p.frozen? ⟨w.heap.size+1+1,2,none⟩=false:=by rw [hw3p];simp [*,go_sem]
 have Rf3':w3p.frozen? ⟨w.heap.size+1+1,3,none⟩=false:=by rw [hw3p];simp [*,go_sem]
 have G0':w3p.cell? ⟨G,0,none⟩=some (.bool gm):=by rw [hw3p];simp [*,go_sem]
 have G1':w3p.cell? ⟨G,1,none⟩=some (.slice am nm cm):=by rw [hw3p];simp [*,go_sem]
 have hng:Bh w3p gm am nm cm D:=by rw [hw3p];exact (hnm.setFresh hfm3 _ _ hGl).setFresh (hfm3.setNew _ _ hGl) _ _ hGl
 have hfg:Bg (w.heap.size+1+1+1) w3p am cm:=by rw [hw3p];exact ((hfm3.setNew _ _ hGl).setNew _ _ hGl).mono qA
 have hk3:w.heap.size+1+1<w3p.heap.size:=Aa _ _ R0';clear hw3p A0 A1 B0 B1 R0 R1 R2 R3 G0 G1 Rf0 Rf1 Rf2 Rf3 Gf0 Gf1 hnm hfm3 HB3n;have A0:=A0';have A1:=A1';have B0:=B0';have B1:=B1';have R0:=R0';have R1:=R1';have R2:=R2';have R3:=R3';have Rf0:=Rf0';have Rf1:=Rf1';have Rf2:=Rf2';have Rf3:=Rf3';have G0:=G0';have G1:=G1';have HB3:=hb3p;clear A0' A1' B0' B1' R0' R1' R2' R3' Rf0' Rf1' Rf2' Rf3' G0' G1' hb3p;have hlg:=hlm;refine (Vt _ _ _ _ _ z (h.keep HB3) _ _ _ _ D hng hgne qA qA).mono ?_;rintro e w4 ⟨gq,aq,nq,cq,gr,ar,nr,cr,rfl,hq,hr,hfq,hfr,hb⟩;have HB4:=HB3.trans (hb.mono HB3.size)
 (replace Rf0:=(Ab hb (Aa _ _ R0)).trans Rf0;replace Rf1:=(Ab hb (Aa _ _ R1)).trans Rf1;replace Rf2:=(Ab hb (Aa _ _ R2)).trans Rf2;replace Rf3:=(Ab hb (Aa _ _ R3)).trans Rf3;replace A0:=Bc hb A0;replace A1:=Bc hb A1;replace B0:=Bc hb B0;replace B1:=Bc hb B1;replace R0:=Bc hb R0;replace R1:=Bc hb R1;replace R2:=Bc hb R2;replace R3:=Bc hb R3;replace G0:=Bc hb G0;replace G1:=Bc hb G1)
 replace hng:=hng.keep hb;replace hfg:=hfg.keep hb;have hs4:=HB3.size;have hfq4:Bg (w.heap.size+1+1+1) w4 aq cq:=hfq.mono hk3;have hRl:w.heap.size+1+1<w.heap.size+1+1+1:=Ag _;have hk4:=HB4.size;clear hb HB3 hr hfr hfq;go_upto_region 5 with fail
 (refine Cc ?_;intro w5 hw5;have A0':w5.cell? ⟨w.heap.size,0,none⟩=some (.bool g):=(by rw [hw5];first|assumption|(simp [go_sem];done)|(simp [*,go_sem];done));have A1':w5.cell? ⟨w.heap.size,1,none⟩=some (.slice a n c):=(by rw [hw5];first|assumption|(simp [go_sem];done)|(simp [*,go_sem];done));have B0':w5.cell? ⟨w.heap.size+1,0,none⟩=some (.bool g'):=(by rw [hw5];first|assumption|(simp [go_sem];done)|(simp [*,go_sem];done));have B1':w5.cell? ⟨w.heap.size+1,1,none⟩=some (.slice a' n' c'):=(by rw [hw5];first|assumption|(simp [go_sem];done)|(simp [*,go_sem];done));have R0':w5.cell? ⟨w.heap.size+1+1,0,none⟩=some (.bool gq):=(by rw [hw5];first|assumption|(simp [go_sem];done)|(simp [*,go_sem];done));have Rf0':w5.frozen? ⟨w.heap.size+1+1,0,none⟩=false:=(by rw [hw5];first|assumption|(simp [go_sem];done)|(simp [*,go_sem];done));have R1':w5.cell? ⟨w.heap.size+1+1,1,none⟩=some (.slice aq nq cq):=(by rw [hw5];first|assumption|(simp [go_sem];done)|(simp [*,go_sem];done));have Rf1':w5.frozen? ⟨w.heap.size+1+1,1,none⟩=false:=(by rw [hw5];first|assumption|(simp [go_sem];done)|(simp [*,go_sem];done));have R2':w5.cell? ⟨w.heap.size+1+1,2,none⟩=some (.bool false):=(by rw [hw5];first|assumption|(simp [go_sem];done)|(simp [*,go_sem];done));have Rf2':w5.frozen? ⟨w.heap.size+1+1,2,none⟩=false:=(by rw [hw5];first|assumption|(simp [go_sem];done)|(simp [*,go_sem];done));have R3':w5.cell? ⟨w.heap.size+1+1,3,none⟩=some (.slice none 0 0):=(by rw [hw5];first|assumption|(simp [go_sem];done)|(simp [*,go_sem];done));have Rf3':w5.frozen? ⟨w.heap.size+1+1,3,none⟩=false:=(by rw [hw5];first|assumption|(simp [go_sem];done)|(simp [*,go_sem];done));have G0':w5.cell? ⟨G,0,none⟩=some (.bool gm):=(by rw [hw5];first|assumption|(simp [go_sem];done)|(simp [*,go_sem];done));have G1':w5.cell? ⟨G,1,none⟩=some (.slice am nm cm):=(by rw [hw5];first|assumption|(simp [go_sem];done)|(simp [*,go_sem];done));clear A0 A1 B0 B1 R0 R1 R2 R3 Rf0 Rf1 Rf2 Rf3 G0 G1;have A0:=A0';clear A0';have A1:=A1';clear A1';have B0:=B0';clear B0';have B1:=B1';clear B1';have R0:=R0';clear R0';have Rf0:=Rf0';clear Rf0';have R1:=R1';clear R1';have Rf1:=Rf1';clear Rf1';have R2:=R2';clear R2';have Rf2:=Rf2';clear Rf2';have R3:=R3';clear R3';have Rf3:=Rf3';clear Rf3';have G0:=G0';clear G0';have G1:=G1';clear G1');have HB5:Below w.heap.size w w5:=by rw [hw5];go_grown
 have hng5:Bh w5 gm am nm cm D:=by rw [hw5];exact (hng.setFresh hfg _ _ hRl).setFresh (hfg.setNew _ _ hRl) _ _ hRl
 have hfg5:Bg (w.heap.size+1+1+1) w5 am cm:=by rw [hw5];exact (hfg.setNew _ _ hRl).setNew _ _ hRl
 have hq5:Bh w5 gq aq nq cq (z/D):=by rw [hw5];exact (hq.setFresh hfq4 _ _ hRl).setFresh (hfq4.setNew _ _ hRl) _ _ hRl
 have hfq5:Bg (w.heap.size+1+1+1) w5 aq cq:=by rw [hw5];exact (hfq4.setNew _ _ hRl).setNew _ _ hRl
 have hk5:w.heap.size+1+1<w5.heap.size:=Aa _ _ R0;clear hw5 hng hfg hq hfq4 HB4;go_wp2_with fail;refine (Vt _ _ _ _ _ z' (h'.keep HB5) _ _ _ _ D hng5 hgne qA qA).mono ?_;rintro e w6 ⟨gs,a5,n5,c5,gr,ar,nr,cr,rfl,hs,hr,hfs,hfr,hb⟩;have HB6:=HB5.trans (hb.mono HB5.size)
 (replace Rf0:=(Ab hb (Aa _ _ R0)).trans Rf0;replace Rf1:=(Ab hb (Aa _ _ R1)).trans Rf1;replace Rf2:=(Ab hb (Aa _ _ R2)).trans Rf2;replace Rf3:=(Ab hb (Aa _ _ R3)).trans Rf3;replace R0:=Bc hb R0;replace R1:=Bc hb R1;replace R2:=Bc hb R2;replace R3:=Bc hb R3)
 have hq6:=hq5.keep hb;have hfq6:=hfq5.keep hb;have hfs6:Bg (w.heap.size+1+1+1) w6 a5 c5:=hfs.mono hk5;have hap:Ap2 aq cq a5 c5:=bU hfq5 hfs;clear hb HB5 hr hfr hfs hq5 hfq5 hng5 hfg5 A0 A1 B0 B1 G0 G1;go_upto_region 6 with fail
 (refine Cc ?_;intro w7 hw7;have R0':w7.cell? ⟨w.heap.size+1+1,0,none⟩=some (.bool gq):=(by rw [hw7];first|assumption|(simp [go_sem];done)|(simp [*,go_sem];done));have Rf0':w7.frozen? ⟨w.heap.size+1+1,0,none⟩=false:=(by rw [hw7];first|assumption|(simp [go_sem];done)|(simp [*,go_sem];done));have R1':w7.cell? ⟨w.heap.size+1+1,1,none⟩=some (.slice aq nq cq):=(by rw [hw7];first|assumption|(simp [go_sem];done)|(simp [*,go_sem];done));have Rf1':w7.frozen? ⟨w.heap.size+1+1,1,none⟩=false:=(by rw [hw7];first|assumption|(simp [go_sem];done)|(simp [*,go_sem];done));have R2':w7.cell? ⟨w.heap.size+1+1,2,none⟩=some (.bool gs):=(by rw [hw7];first|assumption|(simp [go_sem];done)|(simp [*,go_sem];done));have Rf2':w7.frozen? ⟨w.heap.size+1+1,2,none⟩=false:=(by rw [hw7];first|assumption|(simp [go_sem];done)|(simp [*,go_sem];done));have R3':w7.cell? ⟨w.heap.size+1+1,3,none⟩=some (.slice a5 n5 c5):=(by rw [hw7];first|assumption|(simp [go_sem];done)|(simp [*,go_sem];done));have Rf3':w7.frozen? ⟨w.heap.size+1+1,3,none⟩=false:=(by rw [hw7];first|assumption|(simp [go_sem];done)|(simp [*,go_sem];done));clear R0 R1 R2 R3 Rf0 Rf1 Rf2 Rf3;have R0:=R0';clear R0';have Rf0:=Rf0';clear Rf0';have R1:=R1';clear R1';have Rf1:=Rf1';clear Rf1';have R2:=R2';clear R2';have Rf2:=Rf2';clear Rf2';have R3:=R3';clear R3';have Rf3:=Rf3';clear Rf3');have HB7:Below w.heap.size w w7:=by rw [hw7];go_grown
 have hq7:Bh w7 gq aq nq cq (z/D):=by rw [hw7];exact (hq6.setFresh hfq6 _ _ hRl).setFresh (hfq6.setNew _ _ hRl) _ _ hRl
 have hfq7:Bg (w.heap.size+1+1+1) w7 aq cq:=by rw [hw7];exact (hfq6.setNew _ _ hRl).setNew _ _ hRl
 have hs7:Bh w7 gs a5 n5 c5 (z'/D):=by rw [hw7];exact (hs.setFresh hfs6 _ _ hRl).setFresh (hfs6.setNew _ _ hRl) _ _ hRl
 have hfs7:Bg (w.heap.size+1+1+1) w7 a5 c5:=by rw [hw7];exact (hfs6.setNew _ _ hRl).setNew _ _ hRl
 clear hw7 hq6 hfq6 hs hfs6 HB6;go_wp2_with fail;refine bodyPost_ret (v:=.agg #[.bool gq,.slice aq nq cq,.bool gs,.slice a5 n5 c5]) (by simp [results,Tryz.results124,go_sem,R0,R1,R2,R3]) rfl ?_;have hfl:=N5 (p:=z) hz';exact qBi
end Go.Proofs.YtnnhcbeiogaknaaGreatDoor
end
