/- Package worths: Call, of fac at x^2 - 1. Package worths: Call, of at. -/
import Derived.Test.YtnnhcbeiogaknaaGreatDoorQV43
set_option linter.unusedSimpArgs false
set_option linter.unusedVariables false
set_option maxRecDepth 100000
set_option maxHeartbeats 4000000
section
namespace Go.Proofs.YtnnhcbeiogaknaaGreatDoor
open Go.RowKit
theorem gU (w:World) (b p c:Nat) (xs:List VT) (h0:xs≠[]) (hc:xs.length≤c) (hn:xs.length≤10) (h:Di w 0 none b p xs) (hok:∀x∈xs,VT.Ok 1 x) :
  Θ 72 #[.slice (some ⟨b,p,none⟩) xs.length c,.func (.func 87) #[] #[]] w (fun e w'=>e=.returned (.bool false)∧Below w.heap.size w w'):=by
 obtain ⟨rs,e1,e2,e3⟩:=gC 1 h fun x hx v0 v1 v2 hv=>yG w x.dep x (Ad _) 1 v0 v1 v2 hv (hok x hx)
 have H:=gD w (some ⟨b,p,none⟩) c rs qA qA (.inr ⟨b,p,rfl,e2⟩) 87 #[] (enters_of Tryz.func87 qC rfl) (fun x=>¬RT.Chk 1 x) (fun x hx W v0 v1 v2 hW hv=>by
  have HB:=Ac W.heap.size W;have HV:=Ae hv;clear hv;go_enter Tryz.func87,Tryz.ntmps87;go_wp2_with fail;refine Be ?_;intro w1 hw1;have b1:Below W.heap.size W w1:=by rw [hw1];go_grown
  clear hw1;refine (Ov w1 v0 v1 v2 x (VAt.keep b1 HV.out)).mono ?_;rintro e w2 ⟨r,rfl,hr,hb2⟩;have HRR:=Ae hr;clear hr;go_wp2_with fail;go_ret;exact ⟨_,rfl,by rw [←HRR.out];cases r<;>simp,b1.trans (hb2.mono b1.size)⟩)
 rw [e1] at H;refine H.mono ?_;rintro e w' ⟨r,rfl,hr,hb⟩;refine ⟨?_,hb⟩;cases r
 ·rfl
 ·obtain ⟨x,hx,hn⟩:=hr.1 rfl;exact absurd (RT.ChkL_iff.1 e3 x hx) hn
theorem kS (w:World) (b p c:Nat) (hc:1≤c) (h:Di w 0 none b p [.node false pA []]) :
  Θ 148 #[.slice (some ⟨b,p,none⟩) 1 c,.int .i64 0] w (N8 w O6 0):=by
 have HB:=Ac w.heap.size w;obtain ⟨v0,v1,v2,d0,d1,d2,hv⟩:=h.at (i:=0) rfl;rw [Nat.zero_mul,Nat.add_zero] at d0 d1 d2;rw [Bw] at hv;obtain ⟨rfl,⟨a,n,ca,rfl,hp,_⟩,a',c',rfl,_⟩:=hv;have hbl:=Aa _ _ d0;clear h;go_enter Tryz.func148,Tryz.ntmps148;go_wp2_with fail;refine Be ?_;intro w1 hw1;have b1:Below w.heap.size w w1:=by rw [hw1];go_grown
 have R1:Blk w1 w.heap.size #[.bool false,.slice none 0 0,.slice none 0 0] 60:=by rw [hw1];exact Bi rfl _ _
 clear hw1;refine (uH w1 0 n ca a (hp.keep b1)).mono ?_;rintro e w2 ⟨g1,a1,n1,c1,g2,a2,n2,c2,G,aM,nM,cM,aP,nP,cP,rfl,hF,l0,l1,l2,l3,hM,oM,hP,oP,hb2⟩;have b2:=b1.trans (hb2.mono b1.size);have R2:=R1.keep hb2;go_wp2_with fail;refine (pB w2 g1 a1 n1 c1 g2 a2 n2 c2 G aM nM cM aP nP cP hF l0 l1 l2 l3 hM oM hP oP).mono ?_;rintro e w3 ⟨u0,u1,u2,rfl,hv,hb3⟩;obtain ⟨f,ax,nx,cx,ay,ny,cy,rfl,rfl,rfl⟩:=hv.form;have b3:=b2.trans (hb3.mono b2.size);have R3:=R2.keep hb3;have r0:=R3.cell 0 _ rfl;have r1:=R3.cell 1 _ rfl;have r2:=R3.cell 2 _ rfl;have f0:=R3.frozen 0;have f1:=R3.frozen 1;have f2:=R3.frozen 2;have rl:=R3.lt;have rl2:=R2.lt;have HV:=Ae hv;clear hv;go_wp2_with fail;refine bodyPost_ret (v:=.tuple #[.agg #[.bool f,.slice ax nx cx,.slice ay ny cy],.int .i64 0]) (by simp [results,Tryz.results148,go_sem,rl,r0,r1,r2]) rfl ?_;exact ⟨_,_,_,rfl,((Kc HV.out rl2 R3 _ _ _).other (.inl qG)).down b2.size,Cd b3 (Ad _) _ _ _⟩
theorem iK (w:World) (b p c:Nat) (hc:1≤c) (h:Di w 0 none b p [.node false pA []]) :
  Θ 31 #[.string ⟨#[102,97,99]⟩,.slice (some ⟨b,p,none⟩) 1 c] w (N8 w O6 0):=by
 have HB:=Ac w.heap.size w;obtain ⟨v0,v1,v2,d0,d1,d2,hv⟩:=h.at (i:=0) rfl;rw [Nat.zero_mul,Nat.add_zero] at d0 d1 d2;have HVR:=Ae h;rw [Bw] at hv;obtain ⟨rfl,⟨a,n,ca,rfl,hp,_⟩,a',c',rfl,_⟩:=hv;clear h;go_enter Tryz.func31,Tryz.ntmps31;go_wp2_with fail;refine Be ?_;intro w1 hw1;have b1:Below w.heap.size w w1:=by rw [hw1];go_grown
 have R1:Blk w1 w.heap.size #[.bool false,.slice none 0 0,.slice none 0 0] 60:=by rw [hw1];exact Bi rfl _ _
 clear hw1;refine (wJ w1).mono ?_;rintro e w2 ⟨rfl,M2,hb2⟩;have b2:=b1.trans (hb2.mono b1.size);have R2:=R1.keep hb2;have q:=Ac4 w2 w1.heap.size 10 (rE w1.heap.size 10) _ _ _ M2.m (mH _);go_wp2_with fail;refine Be ?_;intro w3 hw3;have k3:Below w2.heap.size w2 w3:=by rw [hw3];go_grown
 have C3:Blk w3 w2.heap.size #[.slice (some ⟨w1.heap.size+4,0,none⟩) 1 1,.func (.func 148) #[] #[]] 134:=by rw [hw3];exact Bi rfl _ _
 clear hw3 q;have b3:=b2.trans (k3.mono b2.size);refine (gU w3 b p c [.node false pA []] qG (by simpa using hc) qG (HVR.out.keep0 b3) (fun x hx=>by rw [Ao.1 hx];exact Hf smA 1)).mono ?_;rintro e w4 ⟨rfl,hb4⟩;have b4:=b3.trans (hb4.mono b3.size);have k4:=(M2.keep k3).k4.keep hb4;have C4:=C3.keep hb4;have R4:=(R2.keep k3).keep hb4;have y0:=C4.cell 0 _ rfl;have y1:=C4.cell 1 _ rfl;have yk:=k4.cell 0 _ rfl
 (replace d0:=Bc b4 d0;replace d1:=Bc b4 d1;replace d2:=Bc b4 d2)
 go_wp2_with fail;refine wp_loop_rounds 2 ?_;rw [rounds_succ];go_wp2_with fail;rw [rounds_succ];go_wp2_with fail;refine (kS w4 b p c hc (HVR.out.keep0 b4)).mono ?_;rintro e w5 ⟨u0,u1,u2,rfl,hv,hb5⟩;obtain ⟨f,ax,nx,cx,ay,ny,cy,rfl,rfl,rfl⟩:=hv.form;have b5:=b4.trans (hb5.mono b4.size);have R5:=R4.keep hb5;have r0:=R5.cell 0 _ rfl;have r1:=R5.cell 1 _ rfl;have r2:=R5.cell 2 _ rfl;have f0:=R5.frozen 0;have f1:=R5.frozen 1;have f2:=R5.frozen 2;have rl:=R5.lt;have rl4:=R4.lt;have HV:=Ae hv;clear hv;go_wp2_with fail;refine bodyPost_ret (v:=.tuple #[.agg #[.bool f,.slice ax nx cx,.slice ay ny cy],.int .i64 0]) (by simp [results,Tryz.results31,go_sem,rl,r0,r1,r2]) rfl ?_;exact ⟨_,_,_,rfl,((Kc HV.out rl4 R5 _ _ _).other (.inl qG)).down b4.size,Cd b5 (Ad _) _ _ _⟩
theorem bF:∀n:Nat,n≤40→Mj (Im ((n:Int),1))=some ((n:Int),1):=by decide +kernel
theorem nN:∀n:Nat,n≤40→smB (Im ((n:Int),1))=true:=by decide +kernel
theorem fV (n:Nat) (h:n≤40):Sm (Im ((n:Int),1)):=Sm.of (nN n h)
theorem Abg (i:Nat) (hi:i≤40):VT.Ok 1 (Qf i):=Hf (fV i hi) 1
theorem Zc {w:World} {B B':Nat} {o o':Option Nat} {v0 v1 v2 u0 u1 u2:Value} {l:Δ} {k:Nat} (h:Bw w B o v0 v1 v2 (.node false l [])) (h':Bw w B' o' u0 u1 u2 (Qf k)) (hok:VT.Ok 1 (.node false l [])) (hl:PW l) (hd:Lf 6 l) (h8:l.length≤8) (hf:Cj 2 l) (hk:k≤4) :
  Θ 26 #[.string ⟨#[94]⟩,.agg #[v0,v1,v2],.agg #[u0,u1,u2]] w (Hh w (Gy l k)):=by
 have hok':=Abg k qA;have hcst:=bF k qA;have hwn:=(fV k qA).pw.cw;rw [Qf] at h' hok';have HC:=Ae (Ay hl (Ay hd (Ay h8 (Ay hf (Ay hcst hwn)))));clear hl hd h8 hf hcst hwn;have HB:=Ac w.heap.size w;obtain ⟨f,a,n,c,a',n',c',rfl,rfl,rfl⟩:=h.form;obtain ⟨f2,e,m,d,e',m',d',rfl,rfl,rfl⟩:=h'.form;have HV:=Ae (Ay h.read h'.read);clear h h';have hx:=HV.out.1;have hx':=HV.out.2;rw [Bw] at hx hx';obtain ⟨hf,⟨_,_,_,e9,hp,_⟩,_⟩:=hx;obtain ⟨hf',⟨_,_,_,e9',hp',_⟩,_⟩:=hx';cases hf
 cases hf'
 cases e9
 cases e9'
 have HP:=Ae (Ay hp hp');clear hp hp';go_enter Tryz.func26,Tryz.ntmps26;go_wp2_with fail;refine Be ?_;intro w1 hw1;have b1:Below w.heap.size w w1:=by rw [hw1];go_grown
 have A1:Blk w1 w.heap.size #[.bool false,.slice a n c,.slice a' n' c'] 60:=by rw [hw1];exact ((Bi rfl _ _).alloc _).alloc _
 have E1:Blk w1 (w.heap.size+1) #[.bool false,.slice e m d,.slice e' m' d'] 60:=by rw [hw1];exact (Bi qG _ _).alloc _
 have R1:Blk w1 (w.heap.size+1+1) #[.bool false,.slice none 0 0,.slice none 0 0] 60:=by rw [hw1];exact Bi qG _ _
 clear hw1;refine (Dc (HV.out.1.keep b1) hok).mono ?_;rintro x w2 ⟨rfl,hb2⟩;have b2:=b1.trans (hb2.mono b1.size);have x0:=(E1.keep hb2).cell 0 _ rfl;have x1:=(E1.keep hb2).cell 1 _ rfl;have x2:=(E1.keep hb2).cell 2 _ rfl;go_wp2_with fail;refine (Dc (HV.out.2.keep b2) hok').mono ?_;rintro x w3 ⟨rfl,hb3⟩;have b3:=b2.trans (hb3.mono b2.size);have A3:=(A1.keep hb2).keep hb3;have E3:=(E1.keep hb2).keep hb3;have R3:=(R1.keep hb2).keep hb3;replace x0:=E3.cell 0 _ rfl;replace x1:=E3.cell 1 _ rfl;replace x2:=E3.cell 2 _ rfl;have y0:=A3.cell 0 _ rfl;have y1:=A3.cell 1 _ rfl;have y2:=A3.cell 2 _ rfl;go_wp2_with fail;refine (eH w3 0 m d e (Im ((k:Int),1)) (HP.out.2.keep b3) HC.out.2.2.2.2.2 e' m' d' k HC.out.2.2.2.2.1 qA qA 64 qA).mono ?_;rintro x w4 ⟨rfl,hb4⟩;have b4:=b3.trans (hb4.mono b3.size);have R4:=R3.keep hb4;have A4:=A3.keep hb4;replace y0:=A4.cell 0 _ rfl;replace y1:=A4.cell 1 _ rfl;replace y2:=A4.cell 2 _ rfl;rw [if_pos qA];go_wp2_with fail;refine (xQ w4 a n c l ((HP.out.1.keep b4)) HC.out.1 HC.out.2.1 HC.out.2.2.1 HC.out.2.2.2.1 k hk).mono ?_;rintro x w5 ⟨ax,nx,cx,rfl,hP,hb5⟩;have b5:=b4.trans (hb5.mono b4.size);have R5:=R4.keep hb5;have r0:=R5.cell 0 _ rfl;have r1:=R5.cell 1 _ rfl;have r2:=R5.cell 2 _ rfl;have f0:=R5.frozen 0;have f1:=R5.frozen 1;have f2':=R5.frozen 2;have rl:=R5.lt;have rl4:=R4.lt;have HV5:=Ae hP;clear hP;go_wp2_with fail;refine bodyPost_ret (v:=.tuple #[.agg #[.bool false,.slice ax nx cx,.slice none 0 0],.int .i64 0]) (by simp [results,Tryz.results26,go_sem,rl,r0,r1,r2]) rfl ?_;exact ⟨ax,nx,cx,rfl,(Gs HV5.out rl4 _ _ _).mono b4.size,Cd b5 qA _ _ _⟩
theorem dZ (w:World) (a:Γ) (n c:Nat) (a':Γ) (c':Nat) :
  Θ 82 #[.int .u8 47,.slice a n c,.slice a' 0 c'] w (fun e w'=>e=.returned (.tuple #[.agg #[.bool false,.slice none 0 0,.slice none 0 0],.int .i64 6])∧Below w.heap.size w w'):=by
 have HB:=Ac w.heap.size w;go_enter Tryz.func82,Tryz.ntmps82;go_wp2_with fail;refine bodyPost_ret (v:=.tuple #[.agg #[.bool false,.slice none 0 0,.slice none 0 0],.int .i64 6]) (by simp [results,Tryz.results82,go_sem]) rfl ?_;exact ⟨rfl,by go_grown⟩
theorem kP {w:World} {B B':Nat} {o o':Option Nat} {v0 v1 v2 u0 u1 u2:Value} {l:Δ} (h:Bw w B o v0 v1 v2 (.node false l [])) (h':Bw w B' o' u0 u1 u2 (.node false [] [])) (hok:VT.Ok 1 (.node false l [])) (hok':VT.Ok 1 (.node false [] [])) :
  Θ 26 #[.string ⟨#[47]⟩,.agg #[v0,v1,v2],.agg #[u0,u1,u2]] w (fun e w'=>e=.returned (.tuple #[.agg #[.bool false,.slice none 0 0,.slice none 0 0],.int .i64 6])∧Below w.heap.size w w'):=by
 have HB:=Ac w.heap.size w;obtain ⟨f,a,n,c,a',n',c',rfl,rfl,rfl⟩:=h.form;obtain ⟨f2,e,m,d,e',m',d',rfl,rfl,rfl⟩:=h'.form;have HV:=Ae (Ay h.read h'.read);clear h h';have hx:=HV.out.1;have hx':=HV.out.2;rw [Bw] at hx hx';obtain ⟨hf,⟨_,_,_,e9,hp,_⟩,_⟩:=hx;obtain ⟨hf',⟨_,_,_,e9',hp',_⟩,_⟩:=hx';cases hf
 cases hf'
 cases e9
 cases e9'
 have HP:=Ae (Ay hp hp');clear hp hp';go_enter Tryz.func26,Tryz.ntmps26;go_wp2_with fail;refine Be ?_;intro w1 hw1;have b1:Below w.heap.size w w1:=by rw [hw1];go_grown
 have A1:Blk w1 w.heap.size #[.bool false,.slice a n c,.slice a' n' c'] 60:=by rw [hw1];exact ((Bi rfl _ _).alloc _).alloc _
 have E1:Blk w1 (w.heap.size+1) #[.bool false,.slice e m d,.slice e' m' d'] 60:=by rw [hw1];exact (Bi qG _ _).alloc _
 have R1:Blk w1 (w.heap.size+1+1) #[.bool false,.slice none 0 0,.slice none 0 0] 60:=by rw [hw1];exact Bi qG _ _
 clear hw1;refine (Dc (HV.out.1.keep b1) hok).mono ?_;rintro x w2 ⟨rfl,hb2⟩;have b2:=b1.trans (hb2.mono b1.size);have x0:=(E1.keep hb2).cell 0 _ rfl;have x1:=(E1.keep hb2).cell 1 _ rfl;have x2:=(E1.keep hb2).cell 2 _ rfl;go_wp2_with fail;refine (Dc (HV.out.2.keep b2) hok').mono ?_;rintro x w3 ⟨rfl,hb3⟩;have b3:=b2.trans (hb3.mono b2.size);have A3:=(A1.keep hb2).keep hb3;have E3:=(E1.keep hb2).keep hb3;have R3:=(R1.keep hb2).keep hb3;replace x0:=E3.cell 0 _ rfl;replace x1:=E3.cell 1 _ rfl;replace x2:=E3.cell 2 _ rfl;have y0:=A3.cell 0 _ rfl;have y1:=A3.cell 1 _ rfl;have y2:=A3.cell 2 _ rfl;obtain rfl:m=0:=HP.out.2.len.symm;go_wp2_with fail;go_region_held3 (fun W=>W.cell? ⟨w.heap.size,1,none⟩=some (.slice a n c)∧W.cell? ⟨w.heap.size+1,1,none⟩=some (.slice e 0 d)) (first|((try dsimp only);(repeat' apply Ay);all_goals (first|(with_reducible assumption)|(go_keep;done)|(simp [*,go_sem];done)))) (first
  | (go_at_call 82;(refine (dZ w3.drew _ _ _ _ _).mono ?_);rintro x w5 ⟨rfl,hb5⟩;have k5:Below w3.heap.size w3 w5:=(Below.drew (Ac _ _)).trans (by rw [Ak] at hb5;exact hb5);have b5:=b3.trans (k5.mono b3.size);have R5:=R3.keep k5;have r0:=R5.cell 0 _ rfl;have r1:=R5.cell 1 _ rfl;have r2:=R5.cell 2 _ rfl;have f0:=R5.frozen 0;have f1:=R5.frozen 1;have f2':=R5.frozen 2;have rl:=R5.lt;have rl4:=R3.lt;replace y1:=Bc k5 y1;replace x1:=Bc k5 x1))
 go_wp2_with fail;refine bodyPost_ret (v:=.tuple #[.agg #[.bool false,.slice none 0 0,.slice none 0 0],.int .i64 6]) (by simp [results,Tryz.results26,go_sem,rl,r0,r1,r2]) rfl ?_;exact ⟨rfl,Cd b5 qA _ _ _⟩
theorem Abp (n:Int) (h0:-9223372036854775808≤n) (h1:n≤9223372036854775807) (w:World) (hT:Tab w) :
  Θ 284 #[.int .i64 n] w (Fo w (Lib.itoa n)) :=
 (Tryz.strconv_Itoa n h0 h1 w hT).mono fun _ _ ⟨h,k,os,hw⟩=>⟨h,by rw [hw];exact S4 _ _ _ (Ad _)⟩
def xyzt:Nat→UInt8
 | 0=>120
 | 1=>121
 | 2=>122
 | _=>116
def D0 (i n:Nat):List UInt8:=xyzt i::(if 1<n then 94::Lib.itoa (n:Int) else [])
theorem Gq (n:Nat) (h:n<65536):(Lib.itoa (n:Int)).length≤5:=by
 rw [Lib.itoa,if_neg qA,Int.toNat_natCast];exact (Rf 4 n qA).2
theorem rS (w:World) (n:Nat) (hn:n<65536) (hT:Tab w) :
  Θ 223 #[.int .i64 0,.int .u16 n] w (Fo w (D0 0 n)):=by
 have hl:=Gq n hn;have hcat1:(⟨#[94]⟩:ByteArray).size+(⟨(Lib.itoa (n:Int)).toArray⟩:ByteArray).size≤9223372036854775807:=by show 1+(Lib.itoa (n:Int)).length≤_;omega
 have happ1:((⟨#[94]⟩:ByteArray)++(⟨(Lib.itoa (n:Int)).toArray⟩:ByteArray))=⟨(94::Lib.itoa (n:Int)).toArray⟩:=Hc [94] _;have hnw:IntKind.i64.wrap (n:Int)=n:=IntWalk.i64_in _ qA;have hex:(⟨#[120,121,122,116]⟩:ByteArray).extract 0 1=⟨#[120]⟩:=by rfl
 by_cases h1:1<n
 ·have hcat2:(⟨#[120]⟩:ByteArray).size+(⟨(94::Lib.itoa (n:Int)).toArray⟩:ByteArray).size≤9223372036854775807:=by show 1+(94::Lib.itoa (n:Int)).length≤_;simp only [List.length_cons];omega
  have happ2:((⟨#[120]⟩:ByteArray)++(⟨(94::Lib.itoa (n:Int)).toArray⟩:ByteArray))=⟨(120::94::Lib.itoa (n:Int)).toArray⟩:=Hc [120] _;exact qBb
 ·exact qBn
theorem nD (w:World) (n:Nat) (hn:n<65536) (hT:Tab w) :
  Θ 223 #[.int .i64 1,.int .u16 n] w (Fo w (D0 1 n)):=by
 have hl:=Gq n hn;have hcat1:(⟨#[94]⟩:ByteArray).size+(⟨(Lib.itoa (n:Int)).toArray⟩:ByteArray).size≤9223372036854775807:=by show 1+(Lib.itoa (n:Int)).length≤_;omega
 have happ1:((⟨#[94]⟩:ByteArray)++(⟨(Lib.itoa (n:Int)).toArray⟩:ByteArray))=⟨(94::Lib.itoa (n:Int)).toArray⟩:=Hc [94] _;have hnw:IntKind.i64.wrap (n:Int)=n:=IntWalk.i64_in _ qA;have hex:(⟨#[120,121,122,116]⟩:ByteArray).extract 1 2=⟨#[121]⟩:=by rfl
 by_cases h1:1<n
 ·have hcat2:(⟨#[121]⟩:ByteArray).size+(⟨(94::Lib.itoa (n:Int)).toArray⟩:ByteArray).size≤9223372036854775807:=by show 1+(94::Lib.itoa (n:Int)).length≤_;simp only [List.length_cons];omega
  have happ2:((⟨#[121]⟩:ByteArray)++(⟨(94::Lib.itoa (n:Int)).toArray⟩:ByteArray))=⟨(121::94::Lib.itoa (n:Int)).toArray⟩:=Hc [121] _;exact qBb
 ·exact qBn
theorem rY (w:World) (n:Nat) (hn:n<65536) (hT:Tab w) :
  Θ 223 #[.int .i64 2,.int .u16 n] w (Fo w (D0 2 n)):=by
 have hl:=Gq n hn;have hcat1:(⟨#[94]⟩:ByteArray).size+(⟨(Lib.itoa (n:Int)).toArray⟩:ByteArray).size≤9223372036854775807:=by show 1+(Lib.itoa (n:Int)).length≤_;omega
 have happ1:((⟨#[94]⟩:ByteArray)++(⟨(Lib.itoa (n:Int)).toArray⟩:ByteArray))=⟨(94::Lib.itoa (n:Int)).toArray⟩:=Hc [94] _;have hnw:IntKind.i64.wrap (n:Int)=n:=IntWalk.i64_in _ qA;have hex:(⟨#[120,121,122,116]⟩:ByteArray).extract 2 3=⟨#[122]⟩:=by rfl
 by_cases h1:1<n
 ·have hcat2:(⟨#[122]⟩:ByteArray).size+(⟨(94::Lib.itoa (n:Int)).toArray⟩:ByteArray).size≤9223372036854775807:=by show 1+(94::Lib.itoa (n:Int)).length≤_;simp only [List.length_cons];omega
  have happ2:((⟨#[122]⟩:ByteArray)++(⟨(94::Lib.itoa (n:Int)).toArray⟩:ByteArray))=⟨(122::94::Lib.itoa (n:Int)).toArray⟩:=Hc [122] _;exact qBb
 ·exact qBn
theorem pH (w:World) (n:Nat) (hn:n<65536) (hT:Tab w) :
  Θ 223 #[.int .i64 3,.int .u16 n] w (Fo w (D0 3 n)):=by
 have hl:=Gq n hn;have hcat1:(⟨#[94]⟩:ByteArray).size+(⟨(Lib.itoa (n:Int)).toArray⟩:ByteArray).size≤9223372036854775807:=by show 1+(Lib.itoa (n:Int)).length≤_;omega
 have happ1:((⟨#[94]⟩:ByteArray)++(⟨(Lib.itoa (n:Int)).toArray⟩:ByteArray))=⟨(94::Lib.itoa (n:Int)).toArray⟩:=Hc [94] _;have hnw:IntKind.i64.wrap (n:Int)=n:=IntWalk.i64_in _ qA;have hex:(⟨#[120,121,122,116]⟩:ByteArray).extract 3 4=⟨#[116]⟩:=by rfl
 by_cases h1:1<n
 ·have hcat2:(⟨#[116]⟩:ByteArray).size+(⟨(94::Lib.itoa (n:Int)).toArray⟩:ByteArray).size≤9223372036854775807:=by show 1+(94::Lib.itoa (n:Int)).length≤_;simp only [List.length_cons];omega
  have happ2:((⟨#[116]⟩:ByteArray)++(⟨(94::Lib.itoa (n:Int)).toArray⟩:ByteArray))=⟨(116::94::Lib.itoa (n:Int)).toArray⟩:=Hc [116] _;exact qBb
 ·exact qBn
theorem pX (w:World) (i n:Nat) (hi:i<4) (hn:n<65536) (hT:Tab w) :
  Θ 223 #[.int .i64 i,.int .u16 n] w (Fo w (D0 i n)):=by
 match i,hi with
 | 0,_=>exact rS w n hn hT
 | 1,_=>exact nD w n hn hT
 | 2,_=>exact rY w n hn hT
 | 3,_=>exact pH w n hn hT
theorem Yj (w:World) (g1:Bool) (a1:Γ) (n1 c1:Nat) (g2:Bool) (a2:Γ) (n2 c2:Nat) :
  Θ 161 #[.agg #[.bool g1,.slice a1 n1 c1,.bool g2,.slice a2 n2 c2]] w fun e w'=>e=.returned (.tuple #[.agg #[.bool false,.slice a1 n1 c1,.bool g2,.slice a2 n2 c2],.bool g1])∧Below w.heap.size w w':=by
 have HB:=Ac w.heap.size w;go_enter Tryz.func161,Tryz.ntmps161;go_wp2_with fail;refine bodyPost_ret (v:=.tuple #[.agg #[.bool false,.slice a1 n1 c1,.bool g2,.slice a2 n2 c2],.bool g1]) (by simp [results,Tryz.results161,go_sem]) rfl ?_;exact ⟨rfl,by go_grown⟩
theorem yM:(Tryz.prog.info? 9).map (fun i=>(i.zero,i.size,i.bytes))=some (some (.string ⟨#[]⟩),1,16):=by kernel_rfl
def Fv (l:List (List UInt8)):List Value:=l.map fun t=>Value.string ⟨t.toArray⟩
theorem Gf (l:List (List UInt8)):(Fv l).length=l.length:=by simp [Fv]
theorem Ke (l m:List (List UInt8)):Fv (l++m)=Fv l++Fv m:=by simp [Fv]
theorem Mf (l:List (List UInt8)):∀u∈Fv l,u.oneCell'=true:=by
 intro u hu;simp only [Fv,List.mem_map] at hu;obtain ⟨z,_,rfl⟩:=hu;rfl
def Eh (m:Nat→Nat):Nat→List (List UInt8)
 | 0=>[]
 | k+1=>Eh m k++(if 0<m k then [D0 k (m k)] else [])
theorem Sk (m:Nat→Nat) (k:Nat):(Eh m k).length≤k:=by
 induction k with
 | zero=>simp [Eh]
 | succ k ih=>rw [Eh,A9];split<;>simp<;>omega
def Dq (t:List UInt8) (m:Nat→Nat):List (List UInt8):=if t≠[49]∨Eh m 4=[] then t::Eh m 4 else Eh m 4
def sV (w:World) (l:List (List UInt8)) (e:Ending) (w':World):Prop :=
 ∃v,e=.returned v∧w'.ownsRow w.heap.size 9 1 v l.length (Fv l)∧Below w.heap.size w w'
def Dl (m0 m1 m2 m3:Nat):Nat→Nat
 | 0=>m0
 | 1=>m1
 | 2=>m2
 | _=>m3
theorem J7 {w:World} {base base':Nat} {e:TypeId} {size:Nat} {v:Value} {n:Nat} {xs:List Value} (h:w.ownsRow base e size v n xs) (hb:base'≤base):w.ownsRow base' e size v n xs:=by
 exact qDa
theorem J6 {w:World} {base g n c:Nat} {e:TypeId} {xs:List Value} (h:w.ownsRow base e 1 (.slice (some ⟨g,0,none⟩) n c) n xs):∀j u,xs[j]? = some u→w.cell? ((⟨g,0,none⟩:Addr).add j)=some u:=by
 intro j u hj;have hadd:(⟨g,0,none⟩:Addr).add j=⟨g,j,none⟩:=by unfold Addr.add;split<;>simp_all
 have hl:=h.1;have hjl:j<xs.length:=by
  rcases Nat.lt_or_ge j xs.length with h1|h1
  ·exact h1
  ·rw [List.getElem?_eq_none h1] at hj;cases hj
 rw [hadd,h.cellAt j qA];exact hj
theorem eI (w:World) (g1:Bool) (a1:Γ) (n1 c1:Nat) (p:Int) (g2:Bool) (a2:Γ) (n2 c2:Nat) (q:Int) (h:Bj w g1 a1 n1 c1 p g2 a2 n2 c2 q) (hs:n2≤1000000) (hb1:n1≤1000000) (hT:Tab w)
  (m0 m1 m2 m3:Nat) (h0:m0<65536) (h1:m1<65536) (h2:m2<65536) (h3:m3<65536) :
  Θ 162 #[.agg #[.bool g1,.slice a1 n1 c1,.bool g2,.slice a2 n2 c2],.agg #[.int .u16 m0,.int .u16 m1,.int .u16 m2,.int .u16 m3]] w (sV w (Dq (Eo p q) (Dl m0 m1 m2 m3))):=by
 obtain ⟨i0,hi,hz0,hz1,hz2⟩:=info_parts yM;have HB:=Ac w.heap.size w;go_enter Tryz.func162,Tryz.ntmps162;go_wp2_with fail;go_loopw [4,9] (fun v4 v9 wr=>∃k:Nat,k≤4∧v9=.int .i64 k∧wr.ownsRow (w.heap.size+1+1) 9 1 v4 (Eh (Dl m0 m1 m2 m3) k).length (Fv (Eh (Dl m0 m1 m2 m3) k))∧w.heap.size+1<wr.heap.size∧wr.cell? ⟨w.heap.size,0,none⟩=some (.bool g1)∧wr.cell? ⟨w.heap.size,1,none⟩=some (.slice a1 n1 c1)∧wr.cell? ⟨w.heap.size,2,none⟩=some (.bool g2)∧wr.cell? ⟨w.heap.size,3,none⟩=some (.slice a2 n2 c2)∧Below w.heap.size w wr∧(Eh (Dl m0 m1 m2 m3) k=[]→v4=.slice none 0 0)) (fun _ v9 _=>4-(intOf v9).toNat)
 case atStart=>exact ⟨0,by omega,rfl,World.ownsRow_nil _ _ _ _,by simp,by simp [go_sem],by simp [go_sem],by simp [go_sem],by simp [go_sem],by go_grown,fun _=>rfl⟩
 case round =>
  obtain ⟨k,hk,rfl,hown,hlr,k0,k1,k2,k3,HBr,hnil⟩:=hrel;have HN:=Ae hnil;clear hnil;clear HB;by_cases hlt:k<4
  ·obtain ⟨x,hx⟩:∃x,x=Dl m0 m1 m2 m3 k:=⟨_,rfl⟩;have hxl:x<65536:=by
    rw [hx]
    match k,hlt with
    | 0,_=>exact h0
    | 1,_=>exact h1
    | 2,_=>exact h2
    | 3,_=>exact h3
   have hix:∀W:World,(Instr.index 76 (.agg #[.int .u16 m0,.int .u16 m1,.int .u16 m2,.int .u16 m3]) (.int .i64 k)).run Tryz.prog W=.ok (.int .u16 x) W:=by
    rw [hx]
    match k,hlt with
    | 0,_=>intro W;kernel_rfl
    | 1,_=>intro W;kernel_rfl
    | 2,_=>intro W;kernel_rfl
    | 3,_=>intro W;kernel_rfl
   have HX:=Ae hx;clear hx;by_cases hp:0<x
   ·go_wp2_with fail;refine (pX wr k x hlt hxl (hT.keep HBr)).mono ?_;rintro e w2 ⟨rfl,hb2⟩;have hown2:=Bo hown hb2;have hsz2:=hb2.size;have HB2:=HBr.trans (hb2.mono HBr.size);have k0':=Bc hb2 k0;have k1':=Bc hb2 k1;have k2':=Bc hb2 k2;have k3':=Bc hb2 k3;have hll:=Sk (Dl m0 m1 m2 m3) k;clear hown k0 k1 k2 k3;go_wp2_with (at_builtin;refine wpList_append_own _ rfl _ _ 205 rfl (w.heap.size+1+1) 9 i0 (.string ⟨#[]⟩) 1 16 Tryz.underlying205 hi hz0 hz1 hz2 rfl qI _ _ _ rfl (hown2.alloc _) ⟨w2.heap.size,0,none⟩ 1 1 [.string ⟨(D0 k x).toArray⟩] rfl rfl (cell_one_new _ _ _) (by simp [Value.oneCell']) qO qA qB ?_;intro v' w3 hown3 hgrow3 _);have hb3:Below (w.heap.size+1+1) w2 w3:=((Ac (w.heap.size+1+1) w2).alloc qA _).grown hgrow3 qB (fun k hk=>(hown2.lt k hk).1);have hsz3:=hb3.size;go_roundw
    case rel =>
     have e:Eh (Dl m0 m1 m2 m3) (k+1)=Eh (Dl m0 m1 m2 m3) k++[D0 k x]:=by rw [Eh,←HX.out,if_pos hp]
     refine ⟨k+1,by omega,by simp,?_,by omega,(hb3.cell (by show w.heap.size<_;omega)).trans k0',(hb3.cell (by show w.heap.size<_;omega)).trans k1',(hb3.cell (by show w.heap.size<_;omega)).trans k2',(hb3.cell (by show w.heap.size<_;omega)).trans k3',HB2.trans (hb3.mono qA),fun h=>by rw [e] at h;simp at h⟩;rw [e,A9,List.length_singleton,Ke];exact hown3
    case measure=>simp [intOf];omega
   ·obtain rfl:x=0:=by omega
    go_wp2_with fail;go_roundw
    case rel =>
     have e:Eh (Dl m0 m1 m2 m3) (k+1)=Eh (Dl m0 m1 m2 m3) k:=by rw [Eh,if_neg (by rw [←HX.out];omega),List.append_nil]
     refine ⟨k+1,by omega,by simp,by rw [e];exact hown,hlr,k0,k1,k2,k3,HBr,fun h=>HN.out (by rw [←e];exact h)⟩
    case measure=>simp [intOf];omega
  ·obtain rfl:k=4:=by omega
   go_wp2_with fail;refine (xT _ _ _ _ _ _ _ _ _ _ _ (h.keep HBr) hs hb1 (hT.keep HBr)).mono ?_;rintro e w2 ⟨rfl,hb2⟩;have hown2:=Bo hown hb2;have hsz2:=hb2.size;have HB2:=HBr.trans (hb2.mono HBr.size);have hll:=Sk (Dl m0 m1 m2 m3) 4;clear hown k0 k1 k2 k3;by_cases hl0:Eh (Dl m0 m1 m2 m3) 4=[]
   ·obtain rfl:=HN.out hl0;have HL:=Ae hl0;have hszw:=HB2.size;have hlit:=World.ownsRow_lit (base:=w.heap.size) (e:=9) (size:=1) w2 #[.string ⟨(Eo p q).toArray⟩] 1 qA qO rfl;have e:Dq (Eo p q) (Dl m0 m1 m2 m3)=[Eo p q]:=by rw [Dq,if_pos (.inr hl0),hl0]
    have HLIT:=Ae hlit;have HE:=Ae e;clear hlit e hl0;generalize Eo p q=T at *;go_wp2_with fail;all_goals
     go_ret;refine ⟨.slice (some ⟨w2.heap.size,0,none⟩) 1 1,rfl,?_,by go_grown⟩;have h9:=HLIT.out;have h8:=HE.out;first
      | (rw [h8];exact h9)
      | (rename_i hT9 _;subst hT9;rw [h8];exact h9)
      | (simp only [*] at h8 h9 ⊢;rw [h8];exact h9)
   ·have HL0:=Ae hl0;have hlp:0<(Eh (Dl m0 m1 m2 m3) 4).length:=by
     rcases Aq (Eh (Dl m0 m1 m2 m3) 4).length with h|h
     ·exact absurd (List.eq_nil_of_length_eq_zero h) hl0
     ·exact h
    have hlz:(((Eh (Dl m0 m1 m2 m3) 4).length:Int)==0)=false:=by rw [beq_eq_false_iff_ne];omega
    obtain ⟨g,cap,rfl,hgb,hgc⟩:=hown2.form hlp;have HW1:=Ae (show Eo p q=[49]→Dq (Eo p q) (Dl m0 m1 m2 m3)=Eh (Dl m0 m1 m2 m3) 4 from fun h=>by rw [Dq,if_neg (by simp [h,hl0])]);have HW2:=Ae (show Eo p q≠[49]→Dq (Eo p q) (Dl m0 m1 m2 m3)=Eo p q::Eh (Dl m0 m1 m2 m3) 4 from fun h=>by rw [Dq,if_pos (.inl h)]);clear hl0;have hszw:=HB2.size;generalize Eo p q=T at *;by_cases hT:T=[49]
    ·have HWE:=Ae (HW1.out hT);have HT:=Ae hT;subst hT;go_wp2_with fail;go_ret;refine ⟨_,rfl,?_,HB2⟩;rw [HWE.out];exact J7 hown2 qA
    ·have HWE:=Ae (HW2.out hT);have hT1:(T==[49])=false:=by rw [beq_eq_false_iff_ne];exact hT
     clear hT;have hlit:=World.ownsRow_lit (base:=w.heap.size) (e:=9) (size:=1) w2 #[.string ⟨T.toArray⟩] 1 qA qO rfl;have HLIT:=Ae hlit;have HCS:=Ae (J6 (hown2.alloc (.cells #[.string ⟨T.toArray⟩] 9)));clear hlit;go_wp2_with (at_builtin;refine wpList_append_own _ rfl _ _ 205 rfl w.heap.size 9 i0 (.string ⟨#[]⟩) 1 16 Tryz.underlying205 hi hz0 hz1 hz2 rfl qI _ _ _ rfl HLIT.out ⟨g,0,none⟩ (Eh (Dl m0 m1 m2 m3) 4).length cap (Fv (Eh (Dl m0 m1 m2 m3) 4)) rfl (by rw [Gf];omega) HCS.out (Mf _) qO qA qB ?_;intro v' w3 hown3 hgrow3 _);go_ret;refine ⟨_,rfl,?_,HB2.trans (((Ac w2.heap.size w2).alloc (Ad _) _).grown hgrow3 qG (fun k hk=>by cases hk;exact Ad _) |>.mono qA)⟩;rw [HWE.out];have e:(T::Eh (Dl m0 m1 m2 m3) 4).length=1+(Eh (Dl m0 m1 m2 m3) 4).length:=by simp;omega
     rw [e];exact hown3
end Go.Proofs.YtnnhcbeiogaknaaGreatDoor
end
section
namespace Go.Proofs.YtnnhcbeiogaknaaGreatDoor
theorem Qv (sep:List UInt8) (l m:List (List UInt8)):Lib.joinTail sep (l++m)=Lib.joinTail sep l++Lib.joinTail sep m:=by
 simp [Lib.joinTail]
theorem It {l m:List (List UInt8)} (hl:l≠[]) (hm:m≠[]):Lib.join (l++m) [32]=Lib.join l [32]++32::Lib.join m [32]:=by
 obtain ⟨x,l,rfl⟩:=List.exists_cons_of_ne_nil hl;obtain ⟨y,m,rfl⟩:=List.exists_cons_of_ne_nil hm;rw [List.cons_append,Lib.join_cons,Qv,Lib.join_cons,Lib.join_cons,List.append_assoc];simp [Lib.joinTail]
def Vj (t l:List UInt8):List UInt8:=if l=[] then t else if t=[49] then l else t++32::l
theorem dJ (i n:Nat):D0 i n≠[]:=by simp [D0]
theorem fZ {m:Nat→Nat} (k:Nat):∀x∈Eh m k,x≠[]:=by
 induction k with
 | zero=>intro x hx;cases hx
 | succ k ih =>
  intro x hx;rw [Eh,List.mem_append] at hx;rcases hx with hx|hx
  ·exact ih x hx
  ·split at hx
   ·rw [Ao] at hx;rw [hx];exact dJ _ _
   ·cases hx
theorem Pc {l:List (List UInt8)} (h:∀x∈l,x≠[]):Lib.join l [32]=[]↔l=[]:=by
 constructor
 ·intro e
  cases l with
  | nil=>rfl
  | cons x l =>
   rw [Lib.join_cons] at e;exact absurd (List.append_eq_nil_iff.1 e).1 (h x (List.mem_cons_self ..))
 ·rintro rfl;rfl
theorem Rv (t:List UInt8) (m:Nat→Nat):Lib.join (Dq t m) [32]=Vj t (Lib.join (Eh m 4) [32]):=by
 unfold Dq Vj;by_cases hl:Eh m 4=[]
 ·rw [if_pos (.inr hl),hl];simp [Lib.join_one,Lib.join_nil]
 ·have hj:¬Lib.join (Eh m 4) [32]=[]:=fun e=>hl ((Pc (fZ 4)).1 e)
  rw [if_neg hj];by_cases ht:t=[49]
  ·rw [if_neg (by simp [ht,hl]),if_pos ht]
  ·rw [if_pos (.inl ht),if_neg ht,show t::Eh m 4=[t]++Eh m 4 from rfl,It qG hl,Lib.join_one]
theorem Ib (t:List UInt8) (m:Nat→Nat):∃x l,Dq t m=x::l:=by
 unfold Dq
 split
 ·exact ⟨_,_,rfl⟩
 ·rename_i h;simp only [not_or] at h;exact List.exists_cons_of_ne_nil h.2
def J9 (neg:Bool):List (List UInt8)→List (List UInt8)
 | []=>[]
 | x::l=>(if neg then 45::x else x)::l
theorem Yx (neg:Bool) {l:List (List UInt8)} (h:l≠[]):Lib.join (J9 neg l) [32]=(if neg then [45] else [])++Lib.join l [32]:=by
 obtain ⟨x,l,rfl⟩:=List.exists_cons_of_ne_nil h
 cases neg<;>simp [J9,Lib.join_cons]
def Jj (neg:Nat→Bool) (t:Nat→List UInt8) (m:Nat→Nat→Nat):Nat→List (List UInt8)
 | 0=>[]
 | k+1=>if k=0 then J9 (neg 0) (Dq (t 0) (m 0)) else Jj neg t m k++[if neg k then [45] else [43]]++Dq (t k) (m k)
def Q0 (neg:Nat→Bool) (t:Nat→List UInt8) (m:Nat→Nat→Nat):Nat→List UInt8
 | 0=>[]
 | k+1=>Q0 neg t m k++(if k=0 then (if neg k then [45] else []) else (if neg k then [32,45,32] else [32,43,32]))++Vj (t k) (Lib.join (Eh (m k) 4) [32])
theorem eV (neg:Nat→Bool) (t:Nat→List UInt8) (m:Nat→Nat→Nat) {k:Nat} (hk:0<k):Jj neg t m k≠[]:=by
 match k,hk with
 | k+1,_ =>
  rw [Jj];obtain ⟨x,l,e⟩:=Ib (t 0) (m 0)
  split
  ·rw [e];simp [J9]
  ·simp
theorem sD (neg:Nat→Bool) (t:Nat→List UInt8) (m:Nat→Nat→Nat) (k:Nat):Lib.join (Jj neg t m k) [32]=Q0 neg t m k:=by
 induction k with
 | zero=>rfl
 | succ k ih =>
  rw [Jj,Q0];by_cases hk:k=0
  ·subst hk;obtain ⟨x,l,e⟩:=Ib (t 0) (m 0);rw [if_pos rfl,if_pos rfl,Yx _ (by rw [e];simp),Rv];rfl
  ·obtain ⟨x,l,e⟩:=Ib (t k) (m k);rw [if_neg hk,if_neg hk,List.append_assoc,It (eV neg t m qA) qG,It qG (by rw [e];simp),Lib.join_one,ih,Rv]
   cases neg k<;>simp
end Go.Proofs.YtnnhcbeiogaknaaGreatDoor
end
