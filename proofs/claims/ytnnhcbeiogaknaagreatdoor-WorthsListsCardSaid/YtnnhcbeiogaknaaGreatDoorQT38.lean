/- Values as trees, raw (RT: the sums as their terms in memory) and clean (VT: the sums as lists); how they lie i. -/
import Derived.Test.YtnnhcbeiogaknaaGreatDoorQT12
import Derived.Test.YtnnhcbeiogaknaaGreatDoorQT10
set_option linter.unusedSimpArgs false
set_option linter.unusedVariables false
set_option maxRecDepth 100000
set_option maxHeartbeats 4000000
section
namespace Go.Proofs.YtnnhcbeiogaknaaGreatDoor
open Go.RowKit
inductive RT where
 | node (g:Bool) (n:Nat) (p:Nat→Tm) (xs:List RT)
mutual
def RT.dep:RT→Nat
 | .node _ _ _ xs=>RT.depL xs+1
def RT.depL:List RT→Nat
 | []=>0
 | x::xs=>max x.dep (RT.depL xs)
end
theorem RT.depL_mem {xs:List RT} {x:RT} (h:x∈xs):x.dep≤RT.depL xs:=by
 induction xs with
 | nil=>cases h
 | cons y xs ih =>
  rw [RT.depL];exact qDe
theorem RT.depL_snoc (xs:List RT) (x:RT):RT.depL (xs++[x])=max (RT.depL xs) x.dep:=by
 induction xs with
 | nil=>simp only [List.nil_append,RT.depL];omega
 | cons y xs ih=>simp only [List.cons_append,RT.depL,ih];omega
mutual
def RT.Chk:Nat→RT→Prop
 | d,.node g n p xs=>(g=false∧xs=[]∧n≤2000∧POk p n)∨(g=true∧n=0∧xs.length≤2000∧d≤64∧RT.ChkL (d+1) xs)
def RT.ChkL:Nat→List RT→Prop
 | _,[]=>True
 | d,x::xs=>RT.Chk d x∧RT.ChkL d xs
end
theorem RT.ChkL_iff {d:Nat} {xs:List RT}:RT.ChkL d xs↔∀x∈xs,RT.Chk d x:=by
 induction xs with
 | nil=>simp [RT.ChkL]
 | cons y xs ih=>simp [RT.ChkL,ih]
mutual
def RT.Sml (K:Nat):RT→Prop
 | .node _ n p xs=>n≤K∧(∀k,k<n→(p k).n1≤K∧(p k).n2≤K)∧RT.SmlL K xs
def RT.SmlL (K:Nat):List RT→Prop
 | []=>True
 | x::xs=>RT.Sml K x∧RT.SmlL K xs
end
theorem RT.SmlL_iff {K:Nat} {xs:List RT}:RT.SmlL K xs↔∀x∈xs,RT.Sml K x:=by
 induction xs with
 | nil=>simp [RT.SmlL]
 | cons y xs ih=>simp [RT.SmlL,ih]
mutual
theorem RT.Sml.mono {K K':Nat} (hK:K≤K'):∀{t:RT},RT.Sml K t→RT.Sml K' t
 | .node _ n p xs,h=>by
  rw [RT.Sml] at h ⊢;exact ⟨by omega,fun k hk=>⟨by have:=h.2.1 k hk;omega,by have:=h.2.1 k hk;omega⟩,RT.SmlL.mono hK h.2.2⟩
theorem RT.SmlL.mono {K K':Nat} (hK:K≤K'):∀{xs:List RT},RT.SmlL K xs→RT.SmlL K' xs
 | [],_=>by rw [RT.SmlL];trivial
 | x::xs,h=>by
  rw [RT.SmlL] at h ⊢;exact ⟨RT.Sml.mono hK h.1,RT.SmlL.mono hK h.2⟩
end
mutual
def VAt (w:World):Value→Value→Value→RT→Prop
 | v0,v1,v2,.node g n p xs=>v0=.bool g∧(∃a c,v1=.slice a n c∧RdP w a n c p∧(a=none→c=0)∧∀k,k<n→(p k).n1≤35184372087808∧(p k).n2≤35184372087808) ∧
  ∃a c,v2=.slice a xs.length c∧xs.length≤c∧xs.length≤35184372088832∧c≤9223372036854775807∧(a=none→c=0)∧(xs=[]∨∃b o,a=some ⟨b,o,none⟩∧Fg w b o xs)
def Fg (w:World) (b:Nat):Nat→List RT→Prop
 | _,[]=>True
 | o,x::xs=>(∃v0 v1 v2,w.cell? ⟨b,o,none⟩=some v0∧w.cell? ⟨b,o+1,none⟩=some v1∧w.cell? ⟨b,o+2,none⟩=some v2∧VAt w v0 v1 v2 x)∧Fg w b (o+3) xs
end
mutual
theorem VAt.keep {w w':World} (hb:Below w.heap.size w w'):∀{t:RT} {v0 v1 v2:Value},VAt w v0 v1 v2 t→VAt w' v0 v1 v2 t
 | .node g n p xs,v0,v1,v2,h=>by
  rw [VAt] at h ⊢;obtain ⟨h0,⟨a,c,h1,h2,h3,h4⟩,a',c',k1,k2,k3,k4,k5,k6⟩:=h;exact ⟨h0,⟨a,c,h1,h2.keep hb,h3,h4⟩,a',c',k1,k2,k3,k4,k5,k6.imp id fun⟨b,o,e,hr⟩=>⟨b,o,e,Fg.keep hb hr⟩⟩
theorem Fg.keep {w w':World} (hb:Below w.heap.size w w'):∀{xs:List RT} {b o:Nat},Fg w b o xs→Fg w' b o xs
 | [],_,_,_=>by rw [Fg];trivial
 | x::xs,b,o,h=>by
  rw [Fg] at h ⊢;obtain ⟨⟨v0,v1,v2,c0,c1,c2,hv⟩,hr⟩:=h;exact ⟨⟨v0,v1,v2,Bb hb c0,Bb hb c1,Bb hb c2,VAt.keep hb hv⟩,Fg.keep hb hr⟩
end
theorem Fg.at {w:World} {b:Nat}:∀{xs:List RT} {o i:Nat} {x:RT},Fg w b o xs→xs[i]? = some x→∃v0 v1 v2,w.cell? ⟨b,o+i*3,none⟩=some v0∧w.cell? ⟨b,o+i*3+1,none⟩=some v1∧w.cell? ⟨b,o+i*3+2,none⟩=some v2∧VAt w v0 v1 v2 x:=by
 intro xs
 induction xs with
 | nil=>intro o i x _ h;simp at h
 | cons y xs ih =>
  intro o i x h hx;rw [Fg] at h
  cases i with
  | zero=>simp only [List.getElem?_cons_zero,Option.some.injEq] at hx;subst hx;simpa using h.1
  | succ i =>
   simp only [List.getElem?_cons_succ] at hx;have:=ih h.2 hx;rwa [show o+3+i*3=o+(i+1)*3 by omega] at this
theorem Iz (x:Int):-9223372036854775808≤wrap64 x∧wrap64 x≤9223372036854775807:=by unfold wrap64;omega
theorem Um (w:World) (g:Bool) (a:Option Addr) (n c:Nat) (hn:n≤35184372087808) :
  Calls Tryz.prog 260 #[.agg #[.bool g,.slice a n c]] w (fun e w'=>e=.returned (.int .i64 (1+(n:Int)))∧Below w.heap.size w w'):=by
 have HB:=Ac w.heap.size w;have hl:∀W,Calls Tryz.prog 305 #[.slice a n c] W (fun e w'=>e=.returned (.int .i64 (n:Int))∧w'=W):=fun W=>by
  go_enter Tryz.func305,Tryz.ntmps305;go_wp2_with fail;go_ret;exact ⟨rfl,rfl⟩
 go_enter Tryz.func260,Tryz.ntmps260;go_wp2_with fail;refine (hl _).mono ?_;rintro e w1 ⟨rfl,rfl⟩;go_wp2_with fail;go_ret;exact ⟨rfl,by go_grown⟩
theorem Yv (w:World) (g1:Bool) (a1:Option Addr) (n1 c1:Nat) (g2:Bool) (a2:Option Addr) (n2 c2:Nat) (h1:n1≤35184372087808) (h2:n2≤35184372087808) :
  Calls Tryz.prog 207 #[.agg #[.bool g1,.slice a1 n1 c1,.bool g2,.slice a2 n2 c2]] w (fun e w'=>∃z:Int,e=.returned (.int .i64 z)∧0≤z∧z≤140737488351232∧(z≤1048576→(n1:Int)≤z∧(n2:Int)≤z)∧Below w.heap.size w w'):=by
 have HB:=Ac w.heap.size w;go_enter Tryz.func207,Tryz.ntmps207;go_wp2_with fail;refine Be ?_;intro w0 hw0;have b0:Below w.heap.size w w0:=by rw [hw0];go_grown
 have x2:w0.cell? ⟨w.heap.size,2,none⟩=some (.bool g2):=by rw [hw0];simp [go_sem]
 have x3:w0.cell? ⟨w.heap.size,3,none⟩=some (.slice a2 n2 c2):=by rw [hw0];simp [go_sem]
 clear hw0;refine (Um _ g1 a1 n1 c1 h1).mono ?_;rintro e w1 ⟨rfl,hb1⟩
 (replace x2:=Bb hb1 x2;replace x3:=Bb hb1 x3)
 have b1:=b0.trans (hb1.mono b0.size);by_cases hs:(1:Int)+(1+(n1:Int))≤1048576
 ·go_wp2_with fail;refine (Um _ g2 a2 n2 c2 h2).mono ?_;rintro e w2 ⟨rfl,hb2⟩;go_wp2_with fail;go_ret;exact ⟨_,rfl,by omega,by omega,fun _=>⟨by omega,by omega⟩,b1.trans (hb2.mono b1.size)⟩
 ·go_wp2_with fail;go_ret;exact ⟨_,rfl,by omega,by omega,fun _=>⟨by omega,by omega⟩,b1⟩
theorem Yn (w:World) (t:Tm) (h1:t.n1≤35184372087808) (h2:t.n2≤35184372087808) :
  Calls Tryz.prog 127 #[.agg #[.bool t.g1,.slice t.a1 t.n1 t.c1,.bool t.g2,.slice t.a2 t.n2 t.c2,.int .u16 t.m0,.int .u16 t.m1,.int .u16 t.m2,.int .u16 t.m3]] w (fun e w'=>∃z:Int,e=.returned (.int .i64 z)∧0≤z∧z≤140737488351300∧(z≤1048576→(t.n1:Int)≤z∧(t.n2:Int)≤z)∧Below w.heap.size w w'):=by
 have HB:=Ac w.heap.size w;go_enter Tryz.func127,Tryz.ntmps127;go_wp2_with fail;refine Be ?_;intro w0 hw0;have b0:Below w.heap.size w w0:=by rw [hw0];go_grown
 clear hw0;refine (Yv _ t.g1 t.a1 t.n1 t.c1 t.g2 t.a2 t.n2 t.c2 h1 h2).mono ?_;rintro e w1 ⟨z,rfl,z0,z1,z2,hb1⟩;have b1:=b0.trans (hb1.mono b0.size);have HZ:=Ae z2;clear z2;go_wp2_with fail;go_ret;exact ⟨_,rfl,by omega,by omega,fun hz=>by have:=HZ.out qA;omega,b1⟩
theorem Y7 (w:World) (a:Option Addr) (n c:Nat) (p:Nat→Tm) (hp:RdP w a n c p) (hsm:∀k,k<n→(p k).n1≤35184372087808∧(p k).n2≤35184372087808) :
  Calls Tryz.prog 64 #[.slice a n c] w (fun e w'=>∃z:Int,e=.returned (.int .i64 z)∧(n:Int)≤z∧z≤281474976710656∧(z≤1048576→∀k,k<n→((p k).n1:Int)≤z∧((p k).n2:Int)≤z)∧Below w.heap.size w w'):=by
 have HB:=Ac w.heap.size w;have hn:=hp.few;have HS:=Ae hsm;clear hsm;go_enter Tryz.func64,Tryz.ntmps64;go_wp2_with fail;go_loopw [3,4] (fun v3 v4 wr=>∃(i:Nat) (z:Int),i≤n∧v4=.int .i64 i∧v3=.int .i64 z∧(n:Int)≤z∧z≤281474976710656∧Hid (z≤1048576→∀k,k<i→((p k).n1:Int)≤z∧((p k).n2:Int)≤z)∧Below w.heap.size w wr) (fun _ v4 _=>n-(intOf v4).toNat)
 case atStart=>exact ⟨0,n,by omega,rfl,rfl,by omega,by omega,Ae (fun _ k hk=>absurd hk qA),HB⟩
 case round =>
  obtain ⟨i,z,hi,rfl,rfl,hz0,hz1,hz2,HBr⟩:=hrel;by_cases hm:z≤1048576
  ·by_cases hlt:i<n
   ·obtain ⟨b,o,rfl,hcl⟩:=hp.cell.resolve_left qA;have hpr:=hp.keep HBr;obtain ⟨e0,e1,e2,e3,e4,e5,e6,e7⟩:=hpr.at hlt;have hs:=HS.out i hlt;have H2:=Ae hz2;have HP:=Ae hp;clear hcl hz2 hpr hp HB;go_wp2_with fail;refine (Yn _ (p i) hs.1 hs.2).mono ?_;rintro e w1 ⟨y,rfl,y0,y1,y2,hb1⟩;have HY:=Ae y2;clear y2;have b1:=HBr.trans (hb1.mono HBr.size);go_wp2_with fail;go_roundw
    case rel =>
     refine ⟨i+1,z+y,by omega,by go_num,rfl,by omega,by omega,Ae fun hle k hk=>?_,b1⟩;rcases Nat.lt_or_ge k i with h|h
     ·have:=H2.out.out hm k h;omega
     ·obtain rfl:k=i:=by omega
      have:=HY.out qA;omega
    case measure=>(first|(simp [intOf];omega)|(simp [intOf];done))
   ·obtain rfl:i=n:=by omega
    have H2:=Ae hz2;clear hz2 HB;go_wp2_with fail;go_ret;exact ⟨z,rfl,hz0,hz1,H2.out.out,HBr⟩
  ·have H2:=Ae hz2;clear hz2 HB;by_cases hlt:i<n
   ·go_wp2_with fail;go_ret;exact ⟨z,rfl,hz0,hz1,fun h=>absurd h qA,HBr⟩
   ·obtain rfl:i=n:=by omega
    go_wp2_with fail;go_ret;exact ⟨z,rfl,hz0,hz1,fun h=>absurd h qA,HBr⟩
def rW (t:RT) (z:Int):Prop:=-9223372036854775808≤z∧z≤9223372036854775807∧(t.dep≤100→0≤z∧z≤(t.dep:Int)*1125899906842624∧(z≤1048576→RT.Sml z.toNat t))
def Xv (m:Int) (D:Nat) (xs:List RT) (z:Int):Prop:=-9223372036854775808≤z∧z≤9223372036854775807∧(D≤100→m≤z∧z≤70368744177664+(D:Int)*1125899906842624∧(z≤1048576→RT.SmlL z.toNat xs))
theorem kN {m:Int} {xs:List RT} {x:RT} {D i:Nat} {z y:Int} (hm:0≤m) (h:Xv m D (xs.take i) z) (hx:xs[i]? = some x) (hD:x.dep≤D) (hy:rW x y) (hz:z≤1048576):Xv m D (xs.take (i+1)) (wrap64 (z+y)):=by
 have hr:=Iz (z+y);refine ⟨hr.1,hr.2,fun hd=>?_⟩;obtain ⟨k1,k2,k3⟩:=h.2.2 hd;obtain ⟨j1,j2,j3⟩:=hy.2.2 qA;have hdd:(x.dep:Int)*1125899906842624≤(D:Int)*1125899906842624:=Int.mul_le_mul_of_nonneg_right qA qA;have h100:(D:Int)*1125899906842624≤112589990684262400:=by omega
 rw [IntWalk.wrap64_in (z+y) qA];refine ⟨by omega,by omega,fun hle=>?_⟩;rw [List.take_add_one,hx];rw [RT.SmlL_iff];intro t ht;rcases List.mem_append.1 ht with ht|ht
 ·exact RT.Sml.mono qA (RT.SmlL_iff.1 (k3 hz) t ht)
 ·simp only [Option.toList_some,Ao] at ht;subst ht;exact RT.Sml.mono qA (j3 qA)
abbrev cS (w:World) (P:Int→Prop) (e:Ending) (w':World):Prop:=∃z:Int,e=.returned (.int .i64 z)∧P z∧Below w.heap.size w w'
theorem Tc (w:World) (a:Option Addr) (c:Nat) (xs:List RT) (hn:xs.length≤35184372088832) (hrow:xs=[]∨∃b o,a=some ⟨b,o,none⟩∧Fg w b o xs) (D:Nat) (hD:RT.depL xs≤D)
  (IH:∀x∈xs,∀(W:World) (v0 v1 v2:Value),VAt W v0 v1 v2 x→Calls Tryz.prog 29 #[.agg #[v0,v1,v2]] W (cS W (rW x))) :
  Calls Tryz.prog 85 #[.slice a xs.length c] w (cS w (Xv xs.length D xs)):=by
 have HB:=Ac w.heap.size w;have HI:=Ae IH;clear IH;obtain ⟨n,hnx⟩:∃n,n=xs.length:=⟨_,rfl⟩;rw [←hnx] at hn ⊢;have HN:=Ae hnx;have HR:=Ae hrow;clear hnx hrow;go_enter Tryz.func85,Tryz.ntmps85;go_wp2_with fail;go_loopw [3,4] (fun v3 v4 wr=>∃(i:Nat) (z:Int),i≤n∧v4=.int .i64 i∧v3=.int .i64 z∧Hid (Xv n D (xs.take i) z)∧Below w.heap.size w wr) (fun _ v4 _=>n-(intOf v4).toNat)
 case atStart=>exact ⟨0,n,by omega,rfl,rfl,Ae ⟨by omega,by omega,fun _=>⟨by omega,by omega,fun _=>by rw [List.take_zero,RT.SmlL];trivial⟩⟩,HB⟩
 case round =>
  obtain ⟨i,z,hi,rfl,rfl,hz,HBr⟩:=hrel;have HZ:=Ae hz;clear hz HB;by_cases hm:z≤1048576
  ·by_cases hlt:i<n
   ·obtain ⟨b,o,rfl,hv⟩:=HR.out.resolve_left (by intro e;have:=HN.out;rw [e] at this;simp at this;omega);obtain ⟨x,hx⟩:∃x,xs[i]? = some x:=⟨_,Ai (by rw [←HN.out];exact hlt)⟩;obtain ⟨v0,v1,v2,c0,c1,c2,hva⟩:=(Fg.keep HBr hv).at hx;have HX:=Ae (Ay hx hva);clear hx hva hv;go_wp2_with fail;refine (HI.out x (A7 HX.out.1) wr v0 v1 v2 HX.out.2).mono ?_;rintro e w1 ⟨y,rfl,hy,hb1⟩;have HY:=Ae hy;clear hy;have b1:=HBr.trans (hb1.mono HBr.size);go_wp2_with fail;go_roundw
    case rel=>exact ⟨i+1,_,by omega,by go_num,rfl,Ae (kN qA HZ.out.out HX.out.1 (Ah (RT.depL_mem (A7 HX.out.1)) hD) HY.out hm),b1⟩
    case measure=>(first|(simp [intOf];omega)|(simp [intOf];done))
   ·obtain rfl:i=n:=by omega
    go_wp2_with fail;go_ret;exact ⟨z,rfl,by have:=HZ.out.out;rwa [As (by have:=HN.out;omega)] at this,HBr⟩
  ·have HF:Hid (Xv n D xs z):=Ae ⟨HZ.out.out.1,HZ.out.out.2.1,fun hd=>⟨(HZ.out.out.2.2 hd).1,(HZ.out.out.2.2 hd).2.1,fun h=>absurd h qA⟩⟩;by_cases hlt:i<n
   ·go_wp2_with fail;go_ret;exact ⟨z,rfl,HF.out,HBr⟩
   ·obtain rfl:i=n:=by omega
    go_wp2_with fail;go_ret;exact ⟨z,rfl,HF.out,HBr⟩
theorem Xa:∀(d:Nat) (t:RT),t.dep≤d→∀(w:World) (v0 v1 v2:Value),VAt w v0 v1 v2 t→Calls Tryz.prog 29 #[.agg #[v0,v1,v2]] w (cS w (rW t)):=by
 intro d
 induction d with
 | zero=>intro t ht;cases t;rw [RT.dep] at ht;omega
 | succ d ih =>
  intro t ht w v0 v1 v2 h;obtain ⟨g,n,p,xs⟩:=t;rw [RT.dep] at ht;rw [VAt] at h;obtain ⟨rfl,⟨a,c,rfl,hp,hnl,hsm⟩,a',c',rfl,k1,k2,k3,k4,hrow⟩:=h;have HB:=Ac w.heap.size w;have IH:=fun (x:RT) (hx:x∈xs)=>ih x (by have:=RT.depL_mem (xs:=xs) hx;omega)
  have HI:=Ae IH;have HR:=Ae hrow;clear ih IH hrow;go_enter Tryz.func29,Tryz.ntmps29;go_wp2_with fail;refine Be ?_;intro w0 hw0;have b0:Below w.heap.size w w0:=by rw [hw0];go_grown
  have x2:w0.cell? ⟨w.heap.size,2,none⟩=some (.slice a' xs.length c'):=by rw [hw0];simp [go_sem]
  clear hw0;refine (Y7 _ a n c p (hp.keep b0) hsm).mono ?_;rintro e w1 ⟨z,rfl,z0,z1,z2,hb1⟩
  (replace x2:=Bb hb1 x2)
  have b1:=b0.trans (hb1.mono b0.size);have HZ:=Ae z2;clear z2;by_cases hm:1+z≤1048576
  ·go_wp2_with fail;refine (Tc _ a' c' xs k2 (HR.out.imp id fun⟨b,o,e,h⟩=>⟨b,o,e,Fg.keep b1 h⟩) _ (Ad _) HI.out).mono ?_;rintro e w2 ⟨y,rfl,hy,hb2⟩;have b2:=b1.trans (hb2.mono b1.size);have HY:=Ae hy;clear hy;go_wp2_with fail;go_ret;refine ⟨_,rfl,⟨(Iz _).1,(Iz _).2,fun hd=>?_⟩,b2⟩;rw [RT.dep] at hd ⊢;obtain ⟨j1,j2,j3⟩:=HY.out.2.2 qA;rw [IntWalk.wrap64_in _ qA];refine ⟨by omega,by omega,fun hle=>?_⟩;rw [RT.Sml];exact ⟨by omega,fun k hk=>by have:=HZ.out qA k hk;omega,RT.SmlL.mono qA (j3 qA)⟩
  ·go_wp2_with fail;go_ret;refine ⟨_,rfl,⟨by omega,by omega,fun hd=>⟨by omega,by rw [RT.dep];omega,fun hle=>absurd hle qA⟩⟩,b1⟩
theorem Xz (w:World) (v0 v1 v2:Value) (t:RT) (h:VAt w v0 v1 v2 t):Calls Tryz.prog 29 #[.agg #[v0,v1,v2]] w (cS w (rW t)):=Xa t.dep t (Ad _) w v0 v1 v2 h
theorem sE:∀(d:Nat),d≤100→∀(t:RT),t.dep≤d→∀(w:World) (v0 v1 v2:Value),VAt w v0 v1 v2 t→Calls Tryz.prog 30 #[.agg #[v0,v1,v2]] w (fun e w'=>e=.returned (.int .i64 t.dep)∧Below w.heap.size w w'):=by
 intro d
 induction d with
 | zero=>intro _ t ht;cases t;rw [RT.dep] at ht;omega
 | succ d ih =>
  intro hd t ht w v0 v1 v2 h;obtain ⟨g,n,p,xs⟩:=t;rw [RT.dep] at ht ⊢;rw [VAt] at h;obtain ⟨rfl,⟨a,c,rfl,hp,hnl,hsm⟩,a',c',rfl,k1,k2,k3,k4,hrow⟩:=h;have HB:=Ac w.heap.size w;have IH:=fun (x:RT) (hx:x∈xs)=>ih qA x (by have:=RT.depL_mem (xs:=xs) hx;omega)
  have HI:=Ae IH;have HR:=Ae hrow;clear ih IH hrow hp;obtain ⟨m,hm⟩:∃m,m=xs.length:=⟨_,rfl⟩;rw [←hm] at k1 k2;have HD:∀i,RT.depL (xs.take i)≤d:=fun i=>by
   have:∀(l:List RT) (i:Nat),RT.depL (l.take i)≤RT.depL l:=fun l=>by
    induction l with
    | nil=>intro i;simp
    | cons y l ih=>intro i;cases i with
     | zero=>simp [RT.depL]
     | succ i=>simp only [List.take_succ_cons,RT.depL];have:=ih i;omega
   have:=this xs i;omega
  have HDD:=Ae HD;clear HD;rw [show RT.depL xs=RT.depL (xs.take m) by rw [As qA],←hm];have HM:=Ae hm;clear hm;go_enter Tryz.func30,Tryz.ntmps30;go_wp2_with fail;have b0:Below w.heap.size w (w.alloc (.cells #[.bool g,.slice a n c,.slice a' m c'] 60)):=Below.alloc (Ac _ _) (Ad _) _;have x2:(w.alloc (.cells #[.bool g,.slice a n c,.slice a' m c'] 60)).cell? ⟨w.heap.size,2,none⟩=some (.slice a' m c'):=by simp [go_sem]
  generalize w.alloc (.cells #[.bool g,.slice a n c,.slice a' m c'] 60)=w1 at *;clear HB;go_loopw [3,4] (fun v3 v4 wr=>∃(i:Nat),i≤m∧v4=.int .i64 i∧v3=.int .i64 (RT.depL (xs.take i))∧wr.cell? ⟨w.heap.size,2,none⟩=some (.slice a' m c')∧Below w.heap.size w wr) (fun _ v4 _=>m-(intOf v4).toNat)
  case atStart=>exact ⟨0,by omega,rfl,by rw [List.take_zero,RT.depL];rfl,x2,b0⟩
  case round =>
   clear x2 b0;obtain ⟨i,hi,rfl,rfl,x2,HBr⟩:=hrel;have hdi:=HDD.out i;by_cases hlt:i<m
   ·obtain ⟨b,o,rfl,hv⟩:=HR.out.resolve_left (by intro e;have:=HM.out;rw [e] at this;simp at this;omega);obtain ⟨x,hx⟩:∃x,xs[i]? = some x:=⟨_,Ai (by rw [←HM.out];exact hlt)⟩;obtain ⟨v0,v1,v2,c0,c1,c2,hva⟩:=(Fg.keep HBr hv).at hx;have hdx:RT.depL (xs.take (i+1))=max (RT.depL (xs.take i)) x.dep:=by
     rw [List.take_add_one,hx];exact RT.depL_snoc _ _
    have hd1:=HDD.out (i+1);have HX:=Ae (Ay hx hva);clear hx hva hv;go_wp2_with fail;refine (HI.out x (A7 HX.out.1) wr v0 v1 v2 HX.out.2).mono ?_;rintro e w1 ⟨rfl,hb1⟩;have b1:=HBr.trans (hb1.mono HBr.size)
    (replace x2:=Bb hb1 x2)
    rw [hdx] at hd1;have hmx:max ((RT.depL (xs.take i):Nat):Int) (x.dep:Int)=((RT.depL (xs.take (i+1)):Nat):Int):=by rw [hdx];omega
    have HMX:=Ae hmx;clear hmx;go_wp2_with fail;go_roundw
    case rel=>exact ⟨i+1,by omega,by go_num,by first|(rw [←HMX.out];done)|(rw [←HMX.out];go_num),x2,b1⟩
    case measure=>(first|(simp [intOf];omega)|(simp [intOf];done))
   ·obtain rfl:i=m:=by omega
    go_wp2_with fail;go_ret;exact ⟨by go_num,HBr⟩
theorem rS:∀(k:Nat) (t:RT),t.dep≤k→∀d,d≤65→RT.Chk d t→t.dep+d≤66:=by
 intro k
 induction k with
 | zero=>intro t ht;cases t;rw [RT.dep] at ht;omega
 | succ k ih =>
  intro t ht d hd h;obtain ⟨g,n,p,xs⟩:=t;rw [RT.dep] at ht ⊢;rw [RT.Chk] at h;rcases h with ⟨_,rfl,_⟩|⟨_,_,_,h4,h5⟩
  ·rw [RT.depL];omega
  ·rw [RT.ChkL_iff] at h5;have:∀l:List RT,(∀x∈l,x.dep+(d+1)≤66)→RT.depL l+(d+1)≤66:=fun l=>by
    induction l with
    | nil=>intro _;rw [RT.depL];omega
    | cons y l ihl =>
     intro hl;have h1:=hl y (List.mem_cons_self ..);have h2:=ihl (fun x hx=>hl x (List.mem_cons_of_mem _ hx));rw [RT.depL];omega
   have:=this xs fun x hx=>ih x (by have:=RT.depL_mem hx;omega) (d+1) qA (h5 x hx)
   omega
abbrev sZ (w:World) (P:Prop) (e:Ending) (w':World):Prop:=∃r:Bool,e=.returned (.bool r)∧(r=true↔P)∧Below w.heap.size w w'
theorem dF (w:World) (a:Option Addr) (c:Nat) (xs:List RT) (hc:xs.length≤c) (hn:xs.length≤35184372088832) (hrow:xs=[]∨∃b o,a=some ⟨b,o,none⟩∧Fg w b o xs) (F:Nat) (capv:Array Value) (hE:∀args W,(callFunc F args).run Tryz.prog W=.ok (.enter F args) W) (P:RT→Prop)
  (IH:∀x∈xs,∀(W:World) (v0 v1 v2:Value),Below w.heap.size w W→VAt W v0 v1 v2 x→Calls Tryz.prog F (#[.agg #[v0,v1,v2]]++capv) W (sZ W (P x))) :
  Calls Tryz.prog 72 #[.slice a xs.length c,.func (.func F) #[] capv] w (sZ w (∃x∈xs,P x)):=by
 have HB:=Ac w.heap.size w;have HI:=Ae IH;clear IH;have hidx:Calls Tryz.prog 132 #[.slice a xs.length c,.func (.func F) #[] capv] w (fun e w'=>∃z:Int,e=.returned (.int .i64 z)∧(0≤z↔∃x∈xs,P x)∧Below w.heap.size w w'):=by
  obtain ⟨n,hnx⟩:∃n,n=xs.length:=⟨_,rfl⟩;rw [←hnx] at hn hc ⊢;have HN:=Ae hnx;have HR:=Ae hrow;clear hnx hrow;go_enter Tryz.func132,Tryz.ntmps132;go_wp2_with fail;go_loopw [8] (fun v8 wr=>∃(i:Nat),i≤n∧v8=.int .i64 i∧Hid (¬∃x∈xs.take i,P x)∧Below w.heap.size w wr) (fun v8 _=>n-(intOf v8).toNat)
  case atStart=>exact ⟨0,by omega,rfl,Ae qG,HB⟩
  case round =>
   obtain ⟨i,hi,rfl,hno,HBr⟩:=hrel;clear HB;by_cases hlt:i<n
   ·obtain ⟨b,o,rfl,hv⟩:=HR.out.resolve_left (by intro e;have:=HN.out;rw [e] at this;simp at this;omega);obtain ⟨x,hx⟩:∃x,xs[i]? = some x:=⟨_,Ai (by rw [←HN.out];exact hlt)⟩;obtain ⟨v0,v1,v2,c0,c1,c2,hva⟩:=(Fg.keep HBr hv).at hx;have HX:=Ae (Ay hx hva);have HO:=Ae hno;clear hx hva hv hno;go_wp2_with fail;refine (HI.out x (A7 HX.out.1) wr v0 v1 v2 HBr HX.out.2).mono ?_;rintro e w1 ⟨r,rfl,hr,hb1⟩;have b1:=HBr.trans (hb1.mono HBr.size);have HRR:=Ae hr;clear hr;cases r
    ·go_wp2_with fail;go_roundw
     case rel=>exact ⟨i+1,by omega,by go_num,Ae (by
      rintro ⟨y,hy,hp⟩;rw [List.take_add_one,HX.out.1] at hy;rcases List.mem_append.1 hy with hy|hy
      ·exact HO.out.out ⟨y,hy,hp⟩
      ·simp only [Option.toList_some,Ao] at hy;subst hy;exact absurd (HRR.out.2 hp) qJ),b1⟩
     case measure=>(first|(simp [intOf];omega)|(simp [intOf];done))
    ·go_wp2_with fail;go_ret;exact ⟨_,rfl,⟨fun _=>⟨x,A7 HX.out.1,HRR.out.1 (by trivial)⟩,fun _=>by omega⟩,b1⟩
   ·obtain rfl:i=n:=by omega
    have HO:=Ae hno;clear hno;go_wp2_with fail;go_ret;refine ⟨_,rfl,⟨fun h=>absurd h qJ,fun h=>absurd h ?_⟩,HBr⟩;have:=HO.out.out;rwa [As (by have:=HN.out;omega)] at this
 go_enter Tryz.func72,Tryz.ntmps72;go_wp2_with fail;refine hidx.mono ?_;rintro e w1 ⟨z,rfl,hz,hb1⟩;have HZ:=Ae hz;clear hz hrow;go_wp2_with fail;go_ret;exact ⟨decide (0≤z),by first|rfl|simp,by rw [decide_eq_true_eq];exact HZ.out,hb1⟩
def bI (w:World) (mb:Nat):Prop:=w.cell? ⟨mb,0,none⟩=some (.func (.func 71) #[] #[.pointer (some ⟨mb,0,none⟩)])
theorem xY:∀(k:Nat) (t:RT),t.dep≤k→∀(w:World) (v0 v1 v2:Value) (mb d:Nat),VAt w v0 v1 v2 t→d≤1000→bI w mb →
  Calls Tryz.prog 71 #[.agg #[v0,v1,v2],.int .i64 d,.pointer (some ⟨mb,0,none⟩)] w (sZ w (RT.Chk d t)):=by
 intro k
 induction k with
 | zero=>intro t ht;cases t;rw [RT.dep] at ht;omega
 | succ k ih =>
  intro t ht w v0 v1 v2 mb d h hd hmb;obtain ⟨g,n,p,xs⟩:=t;rw [RT.dep] at ht;rw [VAt] at h;rw [RT.Chk];obtain ⟨rfl,⟨a,c,rfl,hp,hnl,hsm⟩,a',c',rfl,k1,k2,k3,k4,hrow⟩:=h;have HB:=Ac w.heap.size w;have hpn:=hp.few;have IH:=fun (x:RT) (hx:x∈xs)=>ih x (by have:=RT.depL_mem (xs:=xs) hx;omega)
  have HI:=Ae IH;have HR:=Ae hrow;unfold bI at hmb;have hmbl:mb<w.heap.size:=Aa _ _ hmb;clear ih IH hrow;obtain ⟨m,hm⟩:∃m,m=xs.length:=⟨_,rfl⟩;rw [←hm] at k1 k2;have HM:=Ae hm;have HX0:Hid (xs=[]↔m=0):=Ae (by rw [hm];simp);rw [←hm];clear hm;obtain ⟨pk,hpk⟩:∃r:Bool,POk p n↔r=true:=by
   by_cases h:POk p n
   ·exact ⟨true,by simp [h]⟩
   ·exact ⟨false,by simp [h]⟩
  have HPK:=Ae hpk;clear hpk;go_enter Tryz.func71,Tryz.ntmps71;cases g
  ·by_cases hx:m=0
   ·by_cases hn:n≤2000
    ·go_wp2_with fail;refine Be ?_;intro w0 hw0;have b0:Below w.heap.size w w0:=by rw [hw0];go_grown
     clear hw0;refine (Xm w0 a n c p (hp.keep b0) hsm pk HPK.out).mono ?_;rintro e w1 ⟨rfl,hb1⟩;have b1:=b0.trans (hb1.mono b0.size);go_wp2_with fail;go_ret;exact ⟨_,rfl,by rw [←HPK.out];simp [HX0.out.2 hx,hn],b1⟩
    ·go_wp2_with fail;go_ret;exact ⟨_,rfl,by simp [hn],by go_grown⟩
   ·go_wp2_with fail;go_ret;exact ⟨_,rfl,by simp [HX0.out,hx],by go_grown⟩
  ·by_cases hn:n=0
   ·by_cases hx:m≤2000
    ·by_cases hd6:d≤64
     ·go_wp2_with fail;refine Be ?_;intro w0 hw0;have b0:Below w.heap.size w w0:=by rw [hw0];go_grown
      have hdc:w0.cell? ⟨w.heap.size+1,0,none⟩=some (.int .i64 d):=by rw [hw0];simp [go_sem]
      have hm0:=Bb b0 hmb;clear hw0;have HA:=dF w0 a' c' xs (by have:=HM.out;omega) (by have:=HM.out;omega) (HR.out.imp id fun⟨b,o,e,h⟩=>⟨b,o,e,Fg.keep b0 h⟩) 73 #[.pointer (some ⟨mb,0,none⟩),.pointer (some ⟨w.heap.size+1,0,none⟩)] (enters_of Tryz.func73 qC rfl) (fun x=>¬RT.Chk (d+1) x) (fun x hx W v0 v1 v2 hW hv=>by
       have hdw:=Bb hW hdc;have hmw:=Bb hW hm0;have hII:=Ae (HI.out x hx);have HV:=Ae hv;have hmwl:mb<W.heap.size:=Aa _ _ hmw;have hdwl:w.heap.size+1<W.heap.size:=Aa _ _ hdw;have HBW:=Ac W.heap.size W;clear hv hW hdc hm0;go_enter Tryz.func73,Tryz.ntmps73;go_wp2_with fail;refine (hII.out _ v0 v1 v2 mb (d+1) (VAt.keep qF HV.out) qA (Bb qF hmw)).mono ?_;rintro e w1 ⟨r,rfl,hr,hb1⟩;have HRR:=Ae hr;clear hr;go_wp2_with fail;go_ret;exact ⟨_,rfl,by rw [←HRR.out];cases r<;>simp,Al qF (hb1.mono qB)⟩)
      rw [←HM.out] at HA;refine HA.mono ?_;rintro e w1 ⟨r,rfl,hr,hb1⟩;have b1:=b0.trans (hb1.mono b0.size);have HRR:=Ae hr;clear hr;cases r
      ·go_wp2_with fail;go_ret;refine ⟨_,rfl,?_,b1⟩;have hall:RT.ChkL (d+1) xs:=RT.ChkL_iff.2 fun x hx=>Classical.byContradiction fun hn=>absurd (HRR.out.2 ⟨x,hx,hn⟩) qJ
       simp [hall,hx,hd6,hn]
      ·go_wp2_with fail;go_ret;refine ⟨_,rfl,?_,b1⟩;obtain ⟨x,hx',hn'⟩:=HRR.out.1 (by trivial);have hall:¬RT.ChkL (d+1) xs:=fun h=>hn' (RT.ChkL_iff.1 h x hx')
       simp [hall]
     ·go_wp2_with fail;go_ret;exact ⟨_,rfl,by simp [hd6],by go_grown⟩
    ·go_wp2_with fail;go_ret;exact ⟨_,rfl,by simp [hx],by go_grown⟩
   ·go_wp2_with fail;go_ret;exact ⟨_,rfl,by simp [hn],by go_grown⟩
theorem Sg (w:World) (v0 v1 v2:Value) (t:RT) (h:VAt w v0 v1 v2 t):Calls Tryz.prog 24 #[.agg #[v0,v1,v2]] w (sZ w (RT.Chk 1 t)):=by
 have HB:=Ac w.heap.size w;have HV:=Ae h;clear h;go_enter Tryz.func24,Tryz.ntmps24;go_wp2_with fail;refine Be ?_;intro w0 hw0;have b0:Below w.heap.size w w0:=by rw [hw0];go_grown
 have hm:bI w0 (w.heap.size+1):=by unfold bI;rw [hw0];simp [go_sem]
 clear hw0;refine (xY t.dep t (Ad _) w0 v0 v1 v2 (w.heap.size+1) 1 (VAt.keep b0 HV.out) qA hm).mono ?_;rintro e w1 ⟨r,rfl,hr,hb1⟩;go_wp2_with fail;go_ret;exact ⟨_,rfl,hr,b0.trans (hb1.mono b0.size)⟩
end Go.Proofs.YtnnhcbeiogaknaaGreatDoor
end
