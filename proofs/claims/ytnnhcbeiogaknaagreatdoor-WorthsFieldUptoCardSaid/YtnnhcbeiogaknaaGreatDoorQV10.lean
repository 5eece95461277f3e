/- Values as trees, raw (RT: the sums as their terms in memory) and clean (VT: the sums as lists); how they lie i. -/
import Derived.Test.YtnnhcbeiogaknaaGreatDoorQV9
set_option linter.unusedSimpArgs false
set_option linter.unusedVariables false
set_option maxRecDepth 100000
set_option maxHeartbeats 4000000
section
namespace Go.Proofs.YtnnhcbeiogaknaaGreatDoor
open Go.RowKit
inductive RT where
 | node (g:Bool) (n:Nat) (p:Nat→Tm) (xs:List RT)
mutual
def RT.dep:RT→Nat
 | .node _ _ _ xs=>RT.depL xs+1
def RT.depL:List RT→Nat
 | []=>0
 | x::xs=>max x.dep (RT.depL xs)
end
theorem RT.depL_mem {xs:List RT} {x:RT} (h:x∈xs):x.dep≤RT.depL xs:=by
 induction xs with
 | nil=>cases h
 | cons y xs ih =>
  rw [RT.depL];exact qDh
theorem RT.depL_snoc (xs:List RT) (x:RT):RT.depL (xs++[x])=max (RT.depL xs) x.dep:=by
 induction xs with
 | nil=>simp only [List.nil_append,RT.depL];omega
 | cons y xs ih=>simp only [List.cons_append,RT.depL,ih];omega
mutual
def RT.Chk:Nat→RT→Prop
 | d,.node g n p xs=>(g=false∧xs=[]∧n≤2000∧POk p n)∨(g=true∧n=0∧xs.length≤2000∧d≤64∧RT.ChkL (d+1) xs)
def RT.ChkL:Nat→List RT→Prop
 | _,[]=>True
 | d,x::xs=>RT.Chk d x∧RT.ChkL d xs
end
theorem RT.ChkL_iff {d:Nat} {xs:List RT}:RT.ChkL d xs↔∀x∈xs,RT.Chk d x:=by
 induction xs with
 | nil=>simp [RT.ChkL]
 | cons y xs ih=>simp [RT.ChkL,ih]
mutual
def RT.Sml (K:Nat):RT→Prop
 | .node _ n p xs=>n≤K∧(∀k,k<n→(p k).n1≤K∧(p k).n2≤K)∧RT.SmlL K xs
def RT.SmlL (K:Nat):List RT→Prop
 | []=>True
 | x::xs=>RT.Sml K x∧RT.SmlL K xs
end
theorem RT.SmlL_iff {K:Nat} {xs:List RT}:RT.SmlL K xs↔∀x∈xs,RT.Sml K x:=by
 induction xs with
 | nil=>simp [RT.SmlL]
 | cons y xs ih=>simp [RT.SmlL,ih]
mutual
theorem RT.Sml.mono {K K':Nat} (hK:K≤K'):∀{t:RT},RT.Sml K t→RT.Sml K' t
 | .node _ n p xs,h=>by
  rw [RT.Sml] at h ⊢;exact ⟨by omega,fun k hk=>⟨by have:=h.2.1 k hk;omega,by have:=h.2.1 k hk;omega⟩,RT.SmlL.mono hK h.2.2⟩
theorem RT.SmlL.mono {K K':Nat} (hK:K≤K'):∀{xs:List RT},RT.SmlL K xs→RT.SmlL K' xs
 | [],_=>by rw [RT.SmlL];trivial
 | x::xs,h=>by
  rw [RT.SmlL] at h ⊢;exact ⟨RT.Sml.mono hK h.1,RT.SmlL.mono hK h.2⟩
end
mutual
def VAt (w:World):Value→Value→Value→RT→Prop
 | v0,v1,v2,.node g n p xs=>v0=.bool g∧(∃a c,v1=.slice a n c∧RdP w a n c p∧(a=none→c=0)∧∀k,k<n→(p k).n1≤35184372087808∧(p k).n2≤35184372087808) ∧
  ∃a c,v2=.slice a xs.length c∧xs.length≤c∧xs.length≤35184372088832∧c≤9223372036854775807∧(a=none→c=0)∧(xs=[]∨∃b o,a=some ⟨b,o,none⟩∧Fg w b o xs)
def Fg (w:World) (b:Nat):Nat→List RT→Prop
 | _,[]=>True
 | o,x::xs=>(∃v0 v1 v2,w.cell? ⟨b,o,none⟩=some v0∧w.cell? ⟨b,o+1,none⟩=some v1∧w.cell? ⟨b,o+2,none⟩=some v2∧VAt w v0 v1 v2 x)∧Fg w b (o+3) xs
end
mutual
theorem VAt.keep {w w':World} (hb:Below w.heap.size w w'):∀{t:RT} {v0 v1 v2:Value},VAt w v0 v1 v2 t→VAt w' v0 v1 v2 t
 | .node g n p xs,v0,v1,v2,h=>by
  rw [VAt] at h ⊢;obtain ⟨h0,⟨a,c,h1,h2,h3,h4⟩,a',c',k1,k2,k3,k4,k5,k6⟩:=h;exact ⟨h0,⟨a,c,h1,h2.keep hb,h3,h4⟩,a',c',k1,k2,k3,k4,k5,k6.imp id fun⟨b,o,e,hr⟩=>⟨b,o,e,Fg.keep hb hr⟩⟩
theorem Fg.keep {w w':World} (hb:Below w.heap.size w w'):∀{xs:List RT} {b o:Nat},Fg w b o xs→Fg w' b o xs
 | [],_,_,_=>by rw [Fg];trivial
 | x::xs,b,o,h=>by
  rw [Fg] at h ⊢;obtain ⟨⟨v0,v1,v2,c0,c1,c2,hv⟩,hr⟩:=h;exact ⟨⟨v0,v1,v2,Bc hb c0,Bc hb c1,Bc hb c2,VAt.keep hb hv⟩,Fg.keep hb hr⟩
end
theorem Fg.at {w:World} {b:Nat}:∀{xs:List RT} {o i:Nat} {x:RT},Fg w b o xs→xs[i]? = some x→∃v0 v1 v2,w.cell? ⟨b,o+i*3,none⟩=some v0∧w.cell? ⟨b,o+i*3+1,none⟩=some v1∧w.cell? ⟨b,o+i*3+2,none⟩=some v2∧VAt w v0 v1 v2 x:=by
 intro xs
 induction xs with
 | nil=>intro o i x _ h;simp at h
 | cons y xs ih =>
  intro o i x h hx;rw [Fg] at h
  cases i with
  | zero=>simp only [List.getElem?_cons_zero,Option.some.injEq] at hx;subst hx;simpa using h.1
  | succ i =>
   simp only [List.getElem?_cons_succ] at hx;have:=ih h.2 hx;rwa [show o+3+i*3=o+(i+1)*3 by omega] at this
theorem Cc {P:Program} {c:Code} {Q:Exit→Act→World→Prop} {a:Act} {w:World} (h:∀W,W=w→Code.wp P c Q a W):Code.wp P c Q a w:=h w rfl
theorem Be {P:Program} {f:FuncId} {args:Array Value} {w:World} {R:Ending→World→Prop} (h:∀W,W=w→Calls P f args W R):Calls P f args w R:=h w rfl
theorem Jm (x:Int):-9223372036854775808≤wrap64 x∧wrap64 x≤9223372036854775807:=by unfold wrap64;omega
theorem Vv (w:World) (g:Bool) (a:Γ) (n c:Nat) (hn:n≤35184372087808) :
  Θ 260 #[.agg #[.bool g,.slice a n c]] w (fun e w'=>e=.returned (.int .i64 (1+(n:Int)))∧Below w.heap.size w w'):=by
 have HB:=Ac w.heap.size w;have hl:∀W,Θ 305 #[.slice a n c] W (fun e w'=>e=.returned (.int .i64 (n:Int))∧w'=W):=fun W=>by
  go_enter Tryz.func305,Tryz.ntmps305;go_wp2_with fail;go_ret;exact ⟨rfl,rfl⟩
 go_enter Tryz.func260,Tryz.ntmps260;go_wp2_with fail;refine (hl _).mono ?_;rintro e w1 ⟨rfl,rfl⟩;go_wp2_with fail;go_ret;exact ⟨rfl,by go_grown⟩
theorem aR (w:World) (g1:Bool) (a1:Γ) (n1 c1:Nat) (g2:Bool) (a2:Γ) (n2 c2:Nat) (h1:n1≤35184372087808) (h2:n2≤35184372087808) :
  Θ 207 #[.agg #[.bool g1,.slice a1 n1 c1,.bool g2,.slice a2 n2 c2]] w (fun e w'=>∃z:Int,e=.returned (.int .i64 z)∧0≤z∧z≤140737488351232∧(z≤1048576→(n1:Int)≤z∧(n2:Int)≤z)∧Below w.heap.size w w'):=by
 have HB:=Ac w.heap.size w;go_enter Tryz.func207,Tryz.ntmps207;go_wp2_with fail;refine Be ?_;intro w0 hw0;have b0:Below w.heap.size w w0:=by rw [hw0];go_grown
 have x2:w0.cell? ⟨w.heap.size,2,none⟩=some (.bool g2):=by rw [hw0];simp [go_sem]
 have x3:w0.cell? ⟨w.heap.size,3,none⟩=some (.slice a2 n2 c2):=by rw [hw0];simp [go_sem]
 clear hw0;refine (Vv _ g1 a1 n1 c1 h1).mono ?_;rintro e w1 ⟨rfl,hb1⟩
 (replace x2:=Bc hb1 x2;replace x3:=Bc hb1 x3)
 have b1:=b0.trans (hb1.mono b0.size);by_cases hs:(1:Int)+(1+(n1:Int))≤1048576
 ·go_wp2_with fail;refine (Vv _ g2 a2 n2 c2 h2).mono ?_;rintro e w2 ⟨rfl,hb2⟩;go_wp2_with fail;go_ret;exact ⟨_,rfl,by omega,by omega,fun _=>⟨by omega,by omega⟩,b1.trans (hb2.mono b1.size)⟩
 ·go_wp2_with fail;go_ret;exact ⟨_,rfl,by omega,by omega,fun _=>⟨by omega,by omega⟩,b1⟩
theorem aE (w:World) (t:Tm) (h1:t.n1≤35184372087808) (h2:t.n2≤35184372087808) :
  Θ 127 #[.agg #[.bool t.g1,.slice t.a1 t.n1 t.c1,.bool t.g2,.slice t.a2 t.n2 t.c2,.int .u16 t.m0,.int .u16 t.m1,.int .u16 t.m2,.int .u16 t.m3]] w (fun e w'=>∃z:Int,e=.returned (.int .i64 z)∧0≤z∧z≤140737488351300∧(z≤1048576→(t.n1:Int)≤z∧(t.n2:Int)≤z)∧Below w.heap.size w w'):=by
 have HB:=Ac w.heap.size w;go_enter Tryz.func127,Tryz.ntmps127;go_wp2_with fail;refine Be ?_;intro w0 hw0;have b0:Below w.heap.size w w0:=by rw [hw0];go_grown
 clear hw0;refine (aR _ t.g1 t.a1 t.n1 t.c1 t.g2 t.a2 t.n2 t.c2 h1 h2).mono ?_;rintro e w1 ⟨z,rfl,z0,z1,z2,hb1⟩;have b1:=b0.trans (hb1.mono b0.size);have HZ:=Ae z2;clear z2;go_wp2_with fail;go_ret;exact ⟨_,rfl,by omega,by omega,fun hz=>by have:=HZ.out qA;omega,b1⟩
theorem Sg (w:World) (a:Γ) (n c:Nat) (p:Nat→Tm) (hp:RdP w a n c p) (hsm:∀k,k<n→(p k).n1≤35184372087808∧(p k).n2≤35184372087808) :
  Θ 64 #[.slice a n c] w (fun e w'=>∃z:Int,e=.returned (.int .i64 z)∧(n:Int)≤z∧z≤281474976710656∧(z≤1048576→∀k,k<n→((p k).n1:Int)≤z∧((p k).n2:Int)≤z)∧Below w.heap.size w w'):=by
 have HB:=Ac w.heap.size w;have hn:=hp.few;have HS:=Ae hsm;clear hsm;go_enter Tryz.func64,Tryz.ntmps64;go_wp2_with fail;go_loopw [3,4] (fun v3 v4 wr=>∃(i:Nat) (z:Int),i≤n∧v4=.int .i64 i∧v3=.int .i64 z∧(n:Int)≤z∧z≤281474976710656∧Hid (z≤1048576→∀k,k<i→((p k).n1:Int)≤z∧((p k).n2:Int)≤z)∧Below w.heap.size w wr) (fun _ v4 _=>n-(intOf v4).toNat)
 case atStart=>exact ⟨0,n,by omega,rfl,rfl,by omega,by omega,Ae (fun _ k hk=>absurd hk qA),HB⟩
 case round =>
  obtain ⟨i,z,hi,rfl,rfl,hz0,hz1,hz2,HBr⟩:=hrel;by_cases hm:z≤1048576
  ·by_cases hlt:i<n
   ·obtain ⟨b,o,rfl,hcl⟩:=hp.cell.resolve_left qA;have hpr:=hp.keep HBr;obtain ⟨e0,e1,e2,e3,e4,e5,e6,e7⟩:=hpr.at hlt;have hs:=HS.out i hlt;have H2:=Ae hz2;have HP:=Ae hp;clear hcl hz2 hpr hp HB;go_wp2_with fail;refine (aE _ (p i) hs.1 hs.2).mono ?_;rintro e w1 ⟨y,rfl,y0,y1,y2,hb1⟩;have HY:=Ae y2;clear y2;have b1:=HBr.trans (hb1.mono HBr.size);go_wp2_with fail;go_roundw
    case rel =>
     refine ⟨i+1,z+y,by omega,by go_num,rfl,by omega,by omega,Ae fun hle k hk=>?_,b1⟩;rcases Nat.lt_or_ge k i with h|h
     ·have:=H2.out.out hm k h;omega
     ·obtain rfl:k=i:=by omega
      have:=HY.out qA;omega
    case measure=>(first|(simp [intOf];omega)|(simp [intOf];done))
   ·obtain rfl:i=n:=by omega
    have H2:=Ae hz2;clear hz2 HB;go_wp2_with fail;go_ret;exact ⟨z,rfl,hz0,hz1,H2.out.out,HBr⟩
  ·have H2:=Ae hz2;clear hz2 HB;by_cases hlt:i<n
   ·go_wp2_with fail;go_ret;exact ⟨z,rfl,hz0,hz1,fun h=>absurd h qA,HBr⟩
   ·obtain rfl:i=n:=by omega
    go_wp2_with fail;go_ret;exact ⟨z,rfl,hz0,hz1,fun h=>absurd h qA,HBr⟩
def wT (t:RT) (z:Int):Prop:=-9223372036854775808≤z∧z≤9223372036854775807∧(t.dep≤100→0≤z∧z≤(t.dep:Int)*1125899906842624∧(z≤1048576→RT.Sml z.toNat t))
def Zg (m:Int) (D:Nat) (xs:List RT) (z:Int):Prop:=-9223372036854775808≤z∧z≤9223372036854775807∧(D≤100→m≤z∧z≤70368744177664+(D:Int)*1125899906842624∧(z≤1048576→RT.SmlL z.toNat xs))
theorem oS {m:Int} {xs:List RT} {x:RT} {D i:Nat} {z y:Int} (hm:0≤m) (h:Zg m D (xs.take i) z) (hx:xs[i]? = some x) (hD:x.dep≤D) (hy:wT x y) (hz:z≤1048576):Zg m D (xs.take (i+1)) (wrap64 (z+y)):=by
 have hr:=Jm (z+y);refine ⟨hr.1,hr.2,fun hd=>?_⟩;obtain ⟨k1,k2,k3⟩:=h.2.2 hd;obtain ⟨j1,j2,j3⟩:=hy.2.2 qA;have hdd:(x.dep:Int)*1125899906842624≤(D:Int)*1125899906842624:=Int.mul_le_mul_of_nonneg_right qA qA;have h100:(D:Int)*1125899906842624≤112589990684262400:=by omega
 rw [IntWalk.wrap64_in (z+y) qA];refine ⟨by omega,by omega,fun hle=>?_⟩;rw [List.take_add_one,hx];rw [RT.SmlL_iff];intro t ht;rcases List.mem_append.1 ht with ht|ht
 ·exact RT.Sml.mono qA (RT.SmlL_iff.1 (k3 hz) t ht)
 ·simp only [Option.toList_some,Ao] at ht;subst ht;exact RT.Sml.mono qA (j3 qA)
abbrev fR (w:World) (P:Int→Prop) (e:Ending) (w':World):Prop:=∃z:Int,e=.returned (.int .i64 z)∧P z∧Below w.heap.size w w'
theorem Ul (w:World) (a:Γ) (c:Nat) (xs:List RT) (hn:xs.length≤35184372088832) (hrow:xs=[]∨∃b o,a=some ⟨b,o,none⟩∧Fg w b o xs) (D:Nat) (hD:RT.depL xs≤D)
  (IH:∀x∈xs,∀(W:World) (v0 v1 v2:Value),VAt W v0 v1 v2 x→Θ 29 #[.agg #[v0,v1,v2]] W (fR W (wT x))) :
  Θ 85 #[.slice a xs.length c] w (fR w (Zg xs.length D xs)):=by
 have HB:=Ac w.heap.size w;have HI:=Ae IH;clear IH;obtain ⟨n,hnx⟩:∃n,n=xs.length:=⟨_,rfl⟩;rw [←hnx] at hn ⊢;have HN:=Ae hnx;have HR:=Ae hrow;clear hnx hrow;go_enter Tryz.func85,Tryz.ntmps85;go_wp2_with fail;go_loopw [3,4] (fun v3 v4 wr=>∃(i:Nat) (z:Int),i≤n∧v4=.int .i64 i∧v3=.int .i64 z∧Hid (Zg n D (xs.take i) z)∧Below w.heap.size w wr) (fun _ v4 _=>n-(intOf v4).toNat)
 case atStart=>exact ⟨0,n,by omega,rfl,rfl,Ae ⟨by omega,by omega,fun _=>⟨by omega,by omega,fun _=>by rw [List.take_zero,RT.SmlL];trivial⟩⟩,HB⟩
 case round =>
  obtain ⟨i,z,hi,rfl,rfl,hz,HBr⟩:=hrel;have HZ:=Ae hz;clear hz HB;by_cases hm:z≤1048576
  ·by_cases hlt:i<n
   ·obtain ⟨b,o,rfl,hv⟩:=HR.out.resolve_left (by intro e;have:=HN.out;rw [e] at this;simp at this;omega);obtain ⟨x,hx⟩:∃x,xs[i]? = some x:=⟨_,Ai (by rw [←HN.out];exact hlt)⟩;obtain ⟨v0,v1,v2,c0,c1,c2,hva⟩:=(Fg.keep HBr hv).at hx;have HX:=Ae (Ay hx hva);clear hx hva hv;go_wp2_with fail;refine (HI.out x (A8 HX.out.1) wr v0 v1 v2 HX.out.2).mono ?_;rintro e w1 ⟨y,rfl,hy,hb1⟩;have HY:=Ae hy;clear hy;have b1:=HBr.trans (hb1.mono HBr.size);go_wp2_with fail;go_roundw
    case rel=>exact ⟨i+1,_,by omega,by go_num,rfl,Ae (oS qA HZ.out.out HX.out.1 (Ah (RT.depL_mem (A8 HX.out.1)) hD) HY.out hm),b1⟩
    case measure=>(first|(simp [intOf];omega)|(simp [intOf];done))
   ·obtain rfl:i=n:=by omega
    go_wp2_with fail;go_ret;exact ⟨z,rfl,by have:=HZ.out.out;rwa [As (by have:=HN.out;omega)] at this,HBr⟩
  ·have HF:Hid (Zg n D xs z):=Ae ⟨HZ.out.out.1,HZ.out.out.2.1,fun hd=>⟨(HZ.out.out.2.2 hd).1,(HZ.out.out.2.2 hd).2.1,fun h=>absurd h qA⟩⟩;by_cases hlt:i<n
   ·go_wp2_with fail;go_ret;exact ⟨z,rfl,HF.out,HBr⟩
   ·obtain rfl:i=n:=by omega
    go_wp2_with fail;go_ret;exact ⟨z,rfl,HF.out,HBr⟩
theorem Yr:∀(d:Nat) (t:RT),t.dep≤d→∀(w:World) (v0 v1 v2:Value),VAt w v0 v1 v2 t→Θ 29 #[.agg #[v0,v1,v2]] w (fR w (wT t)):=by
 intro d
 induction d with
 | zero=>intro t ht;cases t;rw [RT.dep] at ht;omega
 | succ d ih =>
  intro t ht w v0 v1 v2 h;obtain ⟨g,n,p,xs⟩:=t;rw [RT.dep] at ht;rw [VAt] at h;obtain ⟨rfl,⟨a,c,rfl,hp,hnl,hsm⟩,a',c',rfl,k1,k2,k3,k4,hrow⟩:=h;have HB:=Ac w.heap.size w;have IH:=fun (x:RT) (hx:x∈xs)=>ih x (by have:=RT.depL_mem (xs:=xs) hx;omega)
  have HI:=Ae IH;have HR:=Ae hrow;clear ih IH hrow;go_enter Tryz.func29,Tryz.ntmps29;go_wp2_with fail;refine Be ?_;intro w0 hw0;have b0:Below w.heap.size w w0:=by rw [hw0];go_grown
  have x2:w0.cell? ⟨w.heap.size,2,none⟩=some (.slice a' xs.length c'):=by rw [hw0];simp [go_sem]
  clear hw0;refine (Sg _ a n c p (hp.keep b0) hsm).mono ?_;rintro e w1 ⟨z,rfl,z0,z1,z2,hb1⟩
  (replace x2:=Bc hb1 x2)
  have b1:=b0.trans (hb1.mono b0.size);have HZ:=Ae z2;clear z2;by_cases hm:1+z≤1048576
  ·go_wp2_with fail;refine (Ul _ a' c' xs k2 (HR.out.imp id fun⟨b,o,e,h⟩=>⟨b,o,e,Fg.keep b1 h⟩) _ (Ad _) HI.out).mono ?_;rintro e w2 ⟨y,rfl,hy,hb2⟩;have b2:=b1.trans (hb2.mono b1.size);have HY:=Ae hy;clear hy;go_wp2_with fail;go_ret;refine ⟨_,rfl,⟨(Jm _).1,(Jm _).2,fun hd=>?_⟩,b2⟩;rw [RT.dep] at hd ⊢;obtain ⟨j1,j2,j3⟩:=HY.out.2.2 qA;rw [IntWalk.wrap64_in _ qA];refine ⟨by omega,by omega,fun hle=>?_⟩;rw [RT.Sml];exact ⟨by omega,fun k hk=>by have:=HZ.out qA k hk;omega,RT.SmlL.mono qA (j3 qA)⟩
  ·go_wp2_with fail;go_ret;refine ⟨_,rfl,⟨by omega,by omega,fun hd=>⟨by omega,by rw [RT.dep];omega,fun hle=>absurd hle qA⟩⟩,b1⟩
theorem Zj (w:World) (v0 v1 v2:Value) (t:RT) (h:VAt w v0 v1 v2 t):Θ 29 #[.agg #[v0,v1,v2]] w (fR w (wT t)):=Yr t.dep t (Ad _) w v0 v1 v2 h
structure Raw where
 a:Γ
 n:Nat
 c:Nat
 p:Nat→Tm
structure U8 (w:World) (r:Raw):Prop where
 rd:RdP w r.a r.n r.c r.p
 nl:r.a=none→r.c=0
 few:∀k,k<r.n→(r.p k).n1≤35184372087808∧(r.p k).n2≤35184372087808
theorem U8.keep {w w':World} {r:Raw} (h:U8 w r) (hb:Below w.heap.size w w'):U8 w' r:=⟨h.rd.keep hb,h.nl,h.few⟩
def cN (w:World) (b o:Nat) (rs:List Raw):Prop:=∀(i:Nat) (r:Raw),rs[i]? = some r→w.cell? ⟨b,o+i,none⟩=some (.slice r.a r.n r.c)∧U8 w r
theorem cN.keep {w w':World} {b o:Nat} {rs:List Raw} (h:cN w b o rs) (hb:Below w.heap.size w w'):cN w' b o rs:=fun i r hr=>⟨Bc hb (h i r hr).1,(h i r hr).2.keep hb⟩
theorem Zs (w:World) (a:Γ) (m c:Nat) (rs:List Raw) (hm:rs.length=m) (hmc:m≤1048576) (hrow:rs=[]∨∃b o,a=some ⟨b,o,none⟩∧cN w b o rs) :
  Θ 210 #[.slice a m c] w (fun e w'=>∃z:Int,e=.returned (.int .i64 z)∧-9223372036854775808≤z∧z≤9223372036854775807∧Below w.heap.size w w'):=by
 have HB:=Ac w.heap.size w;have HH:=Ae (Ay hm hrow);clear hm hrow;go_enter Tryz.func210,Tryz.ntmps210;go_wp2_with fail;go_loopw [3,4] (fun v3 v4 wr=>∃(i:Nat) (z:Int),i≤m∧v4=.int .i64 i∧v3=.int .i64 z∧-9223372036854775808≤z∧z≤9223372036854775807∧Below w.heap.size w wr) (fun _ v4 _=>m-(intOf v4).toNat)
 case atStart=>exact ⟨0,m,by omega,rfl,rfl,by omega,by omega,HB⟩
 case round =>
  obtain ⟨i,z,hi,rfl,rfl,hz1,hz2,HBr⟩:=hrel;by_cases hlt:i<m
  ·by_cases hz:z≤1048576
   ·obtain ⟨b,o,rfl,hp⟩:=HH.out.2.resolve_left (by intro e;have:=HH.out.1;rw [e] at this;simp at this;omega);obtain ⟨r,hr⟩:∃r,rs[i]? = some r:=⟨_,Ai (by rw [HH.out.1];exact hlt)⟩;obtain ⟨c0,hro⟩:=hp i r hr;have HR:=Ae (hro.keep HBr);replace c0:=Bc HBr c0;clear hp hr hro;go_wp2_with fail;refine (Sg wr _ _ _ _ HR.out.rd HR.out.few).mono ?_;rintro e w1 ⟨y,rfl,hy1,hy2,_,hb1⟩;have b1:=HBr.trans (hb1.mono HBr.size);go_wp2_with fail;go_roundw
    case rel=>exact ⟨i+1,z+y,by omega,by go_num,rfl,by omega,by omega,b1⟩
    case measure=>(first|(simp [intOf];omega)|(simp [intOf];done))
   ·exact qCv
  ·obtain rfl:i=m:=by omega
   exact qCv
def zY (w:World) (P:Prop) (e:Ending) (w':World):Prop:=∃r:Bool,e=.returned (.bool r)∧(r=false→P)∧Below w.heap.size w w'
def Xq (t:Tm):Prop:=t.m0+t.m1+t.m2+t.m3≤6∧t.n1≤2∧t.n2≤2
theorem gT (w:World) (a:Γ) (m c:Nat) (rs:List Raw) (hm:rs.length=m) (hmc:m≤1048576) (hrow:rs=[]∨∃b o,a=some ⟨b,o,none⟩∧cN w b o rs) :
  Θ 131 #[.slice a m c] w (zY w (∀x∈rs,∀k,k<x.n→Xq (x.p k))):=by
 have HB:=Ac w.heap.size w;have HH:=Ae (Ay hm hrow);clear hm hrow;go_enter Tryz.func131,Tryz.ntmps131;go_wp2_with fail;refine (Zs w a m c rs HH.out.1 hmc HH.out.2).mono ?_;rintro e w1 ⟨z,rfl,hz1,hz2,hb1⟩;by_cases hz:z≤150
 ·go_wp2_with fail;go_loopw [3] (fun v3 wr=>∃i:Nat,i≤m∧v3=.int .i64 i∧Hid (∀x∈rs.take i,∀k,k<x.n→Xq (x.p k))∧Below w.heap.size w wr) (fun v3 _=>m-(intOf v3).toNat)
  case atStart=>exact ⟨0,by omega,rfl,Ae (fun x hx=>by simp at hx),hb1⟩
  case round =>
   obtain ⟨i,hi,rfl,HT,HBr⟩:=hrel;by_cases hlt:i<m
   ·obtain ⟨b,o,rfl,hp⟩:=HH.out.2.resolve_left (by intro e;have:=HH.out.1;rw [e] at this;simp at this;omega);obtain ⟨r,hr⟩:∃r,rs[i]? = some r:=⟨_,Ai (by rw [HH.out.1];exact hlt)⟩;obtain ⟨c0,hro⟩:=hp i r hr;have HR:=Ae (Ay hro hr);have C0:=Ae c0;have hrn:=hro.rd.few;clear hp hr hro c0;obtain ⟨wp,rfl⟩:∃wp,wp=wr:=⟨_,rfl⟩;go_wp2_with fail;go_loopw [4] (fun v4 wr=>∃k:Nat,k≤r.n∧v4=.int .i64 k∧Hid (∀j,j<k→Xq (r.p j))∧Below w.heap.size w wr) (fun v4 _=>r.n-(intOf v4).toNat)
    case atStart=>exact ⟨0,by omega,rfl,Ae (fun j hj=>by omega),HBr⟩
    case round =>
     obtain ⟨k,hk,rfl,HK,HBk⟩:=hrel;have c0:=Bc HBk C0.out;by_cases hkl:k<r.n
     ·obtain ⟨b',o',ha,hc⟩:=HR.out.1.rd.cell.resolve_left qA;rw [ha] at c0;obtain ⟨e0,e1,e2,e3,e4,e5,e6,e7⟩:=hc k hkl;have hs:=HR.out.1.rd.tm k hkl;have s0:=hs.s0;have s1:=hs.s1;have s2:=hs.s2;have s3:=hs.s3;have q1:=(HR.out.1.few k hkl).1;have q2:=(HR.out.1.few k hkl).2;replace e0:=Bc HBk e0;replace e1:=Bc HBk e1;replace e2:=Bc HBk e2;replace e3:=Bc HBk e3;replace e4:=Bc HBk e4;replace e5:=Bc HBk e5;replace e6:=Bc HBk e6;replace e7:=Bc HBk e7;clear hs hc;generalize htk:r.p k=tk at *;have bl:b<wr.heap.size:=Aa _ _ c0;have bl':b'<wr.heap.size:=Aa _ _ e0;by_cases h6:((tk.m0:Int)+tk.m1+tk.m2+tk.m3)≤6
      ·by_cases h1:tk.n1≤2
       ·by_cases h2:tk.n2≤2
        ·go_wp2_with fail;go_roundw
         case rel=>exact ⟨k+1,by omega,by go_num,Ae (fun j hj=>by
          rcases Nat.lt_or_ge j k with h|h
          ·exact HK.out j h
          ·obtain rfl:j=k:=by omega
           rw [htk];exact ⟨by omega,h1,h2⟩),HBk.alloc HBk.size _⟩
         case measure=>(first|(simp [intOf];omega)|(simp [intOf];done))
        ·exact qBo
       ·exact qBo
      ·exact qBo
     ·obtain rfl:k=r.n:=by omega
      go_wp2_with fail;go_roundw
      case rel=>exact ⟨i+1,by omega,by go_num,Ae (fun x hx=>by
       rw [List.take_add_one,HR.out.2,Option.toList_some] at hx;rcases List.mem_append.1 hx with hx|hx
       ·exact HT.out x hx
       ·rw [Ao.1 hx];exact HK.out),HBk⟩
      case measure=>(first|(simp [intOf];omega)|(simp [intOf];done))
   ·obtain rfl:i=m:=by omega
    go_wp2_with fail;refine bodyPost_ret (v:=.bool false) (by simp [results,Tryz.results131,go_sem]) rfl ?_;exact ⟨false,rfl,fun _=>by have h:=HT.out;rwa [As (by rw [HH.out.1];exact Ad _)] at h,HBr⟩
 ·go_wp2_with fail;all_goals
   refine bodyPost_ret (v:=.bool true) (by simp [results,Tryz.results131,go_sem]) rfl ?_;exact ⟨true,rfl,fun h=>absurd h qI,hb1⟩
def Gn (rs:List Raw):Nat:=(rs.map fun r=>r.n).sum
theorem jD (rs:List Raw) (i:Nat) {r:Raw} (h:rs[i]? = some r):Gn (rs.take (i+1))=Gn (rs.take i)+r.n:=by
 unfold Gn;rw [List.take_add_one,h,Option.toList_some,List.map_append,List.sum_append];simp
theorem eW (rs:List Raw) (i:Nat):Gn (rs.take i)≤Gn rs:=by
 have h:Gn rs=Gn (rs.take i)+Gn (rs.drop i):=by
  unfold Gn;rw [←List.sum_append,←List.map_append,List.take_append_drop]
 omega
theorem tE (w:World) (a:Γ) (m c:Nat) (rs:List Raw) (hm:rs.length=m) (hmc:m≤1048576) (hcn:Gn rs≤1048576) (hrow:rs=[]∨∃b o,a=some ⟨b,o,none⟩∧cN w b o rs) :
  Θ 70 #[.slice a m c] w (zY w (Gn rs≤14∧∀x∈rs,∀k,k<x.n→Xq (x.p k))):=by
 have HB:=Ac w.heap.size w;have HH:=Ae (Ay hm hrow);clear hm hrow;go_enter Tryz.func70,Tryz.ntmps70;go_wp2_with fail;go_loopw [3,4] (fun v3 v4 wr=>∃i:Nat,i≤m∧v4=.int .i64 i∧v3=.int .i64 (Gn (rs.take i):Nat)∧Below w.heap.size w wr) (fun _ v4 _=>m-(intOf v4).toNat)
 case atStart=>exact ⟨0,by omega,rfl,rfl,HB⟩
 case round =>
  obtain ⟨i,hi,rfl,rfl,HBr⟩:=hrel;have hle:=eW rs i;by_cases hlt:i<m
  ·obtain ⟨b,o,rfl,hp⟩:=HH.out.2.resolve_left (by intro e;have:=HH.out.1;rw [e] at this;simp at this;omega);obtain ⟨r,hr⟩:∃r,rs[i]? = some r:=⟨_,Ai (by rw [HH.out.1];exact hlt)⟩;obtain ⟨c0,hro⟩:=hp i r hr;have hrn:=hro.rd.few;have HS:=Ae (jD rs i hr);have hle2:=eW rs (i+1);rw [HS.out] at hle2;replace c0:=Bc HBr c0;clear hp hr hro;generalize Gn (rs.take i)=z at *;go_wp2_with fail;go_roundw
   case rel=>exact ⟨i+1,by omega,by go_num,by rw [HS.out,Int.natCast_add],HBr⟩
   case measure=>(first|(simp [intOf];omega)|(simp [intOf];done))
  ·obtain rfl:i=m:=by omega
   have HZ:=Ae (show rs.take i=rs from As (by rw [HH.out.1];exact Ad _));rw [HZ.out];generalize hz:Gn rs=z at *;go_wp2_with fail;refine (gT wr a i c rs HH.out.1 hmc (HH.out.2.imp id fun⟨b,o,e,h⟩=>⟨b,o,e,h.keep HBr⟩)).mono ?_;rintro e w1 ⟨r,rfl,hr,hb1⟩;have HR:=Ae hr;have b1:=HBr.trans (hb1.mono HBr.size);clear hr;cases r
   ·go_wp2_with fail;refine bodyPost_ret (v:=.bool (decide (14<(z:Int)))) (by simp [results,Tryz.results70,go_sem]) rfl ?_;exact ⟨_,rfl,fun h=>⟨by have:=of_decide_eq_false h;omega,HR.out trivial⟩,b1⟩
   ·go_wp2_with fail;refine bodyPost_ret (v:=.bool true) (by simp [results,Tryz.results70,go_sem]) rfl ?_;exact ⟨true,rfl,fun h=>absurd h qI,b1⟩
def Blk (W:World) (b:Nat) (vs:Array Value) (t:TypeId):Prop:=W.heap[b]? = some (.cells vs t (0,0))
theorem Blk.keep {W W':World} {b:Nat} {vs:Array Value} {t:TypeId} (h:Blk W b vs t) (hb:Below W.heap.size W W'):Blk W' b vs t:=(hb.block b (Ar.1 h).1).trans h
theorem Blk.cell {W:World} {b:Nat} {vs:Array Value} {t:TypeId} (h:Blk W b vs t) (i:Nat) (v:Value) (hv:vs[i]? = some v):W.cell? ⟨b,i,none⟩=some v:=by simp [World.cell?,show W.heap[b]? = _ from h,hv]
theorem Blk.frozen {W:World} {b:Nat} {vs:Array Value} {t:TypeId} (h:Blk W b vs t) (i:Nat):W.frozen? ⟨b,i,none⟩=false:=by simp [World.frozen?,show W.heap[b]? = _ from h]
theorem Blk.set {W:World} {b:Nat} {vs:Array Value} {t:TypeId} (h:Blk W b vs t) (i:Nat) (u:Value):Blk (W.setCell ⟨b,i,none⟩ u) b (vs.setIfInBounds i u) t:=by
 obtain ⟨hlt,hk⟩:=Ar.1 h;show (W.heap.modify b _)[b]? = _;rw [Array.getElem?_eq_getElem (by rw [Array.size_modify];exact hlt),Array.getElem_modify_self,hk];rfl
theorem Bi {w:World} {b:Nat} (h:w.heap.size=b) (vs:Array Value) (t:TypeId):Blk (w.alloc (.cells vs t)) b vs t:=by subst h;exact World.alloc_heap_new _ _
theorem Blk.lt {W:World} {b:Nat} {vs:Array Value} {t:TypeId} (h:Blk W b vs t):b<W.heap.size:=(Ar.1 h).1
theorem Blk.alloc {W:World} {b:Nat} {vs:Array Value} {t:TypeId} (h:Blk W b vs t) (o:Obj):Blk (W.alloc o) b vs t:=h.keep (Below.alloc (Ac _ _) (Ad _) _)
theorem Blk.far {W:World} {b:Nat} {vs:Array Value} {t:TypeId} (h:Blk W b vs t) (p:Addr) (u:Value) (hp:b≠p.block):Blk (W.setCell p u) b vs t:=(Below.heap_setCell _ _ _ _ hp).trans h
theorem Blk.row {W W':World} {b:Nat} {vs:Array Value} {t:TypeId} {row:Option Nat} (h:Blk W b vs t) (hg:W.grownBy W' row) (hr:some b≠row):Blk W' b vs t:=(hg.block b h.lt hr).trans h
theorem Oa {w:World} {Br R o n s:Nat} {e:TypeId} {v u:Value} {xs:List Value} (h:w.ownsRow Br e s v n xs) (hR:R<Br):(w.setCell ⟨R,o,none⟩ u).ownsRow Br e s v n xs:=by
 refine ⟨h.1,h.2.imp id fun⟨g,cap,cur,h1,h2,h3,h4⟩=>⟨g,cap,cur,h1,h2,?_,h4⟩⟩;rw [Below.heap_setCell w _ u g (by show g≠R;omega)];exact h3
theorem K7 {w:World} {B:Nat} {e:TypeId} {s:Nat} {v:Value} {n:Nat} {xs:List Value} (h:w.ownsRow B e s v n xs):∃a c,v=.slice a n c:=by
 rcases h.2 with ⟨rfl,rfl⟩|⟨g,cap,cur,rfl,_⟩
 ·exact ⟨_,_,rfl⟩
 ·exact ⟨_,_,rfl⟩
theorem Pg {w:World} {B:Nat} {e:TypeId} {s:Nat} {v:Value} {n:Nat} {xs:List Value} (h:w.ownsRow B e s v n xs) {g:Nat} (hg:v.ownBlock=some g):∃cur,w.heap[g]? = some (.cells cur e (0,0)):=by
 rcases h.2 with ⟨rfl,_⟩|⟨g',cap,cur,rfl,_,h3,_⟩
 ·cases hg
 ·simp only [Value.ownBlock,Option.some.injEq] at hg;subst hg;exact ⟨cur,h3⟩
abbrev xX (w:World) (P:Prop) (e:Ending) (w':World):Prop:=∃r:Bool,e=.returned (.bool r)∧(r=true↔P)∧Below w.heap.size w w'
end Go.Proofs.YtnnhcbeiogaknaaGreatDoor
end
