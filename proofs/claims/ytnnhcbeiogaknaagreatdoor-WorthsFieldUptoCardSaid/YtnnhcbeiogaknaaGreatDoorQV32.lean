/- Package divides: Divide by one sum. -/
import Derived.Test.YtnnhcbeiogaknaaGreatDoorQV31
import Derived.Test.YtnnhcbeiogaknaaGreatDoorQV30
import Derived.Test.YtnnhcbeiogaknaaGreatDoorQV27
set_option linter.unusedSimpArgs false
set_option linter.unusedVariables false
set_option maxRecDepth 100000
set_option maxHeartbeats 4000000
section
namespace Go.Proofs.YtnnhcbeiogaknaaGreatDoor
open Go.RowKit
def zT (w:World) (o r:Δ) (e:Ending) (w':World):Prop :=
 ∃g cap a n c a' n' c',e=.returned (.tuple #[.slice (some ⟨g,0,none⟩) 1 cap,.slice a' n' c',.int .i64 0])∧w'.cell? ⟨g,0,none⟩=some (.slice a n c)∧Bd w' w.heap.size a n c o∧Bd w' w.heap.size a' n' c' r∧Below w.heap.size w w'
theorem cI {p q r:Δ} (h:Qu p q=some r):C8 p q=true∧r=En p q∧Sm r:=by
 unfold Qu at h
 split at h
 ·rename_i h0;obtain ⟨h1,h2⟩:=Dy h;exact ⟨h0,h1,h1▸h2⟩
 ·cases h
theorem pR {d p o r:Δ} {y u:PT} {k:Nat} {fin:Δ×Δ} (h:((ck [u]).bind fun u=>(Qu d u).bind fun f=>(Ps o u).bind fun o'=>(Ui p f).bind fun p'=>Kw d y k p' o' r)=some fin) :
  Sm [u]∧C8 d [u]=true∧Sm (En d [u])∧Sm (Hx o [u])∧Sm (Lj p (En d [u]))∧Kw d y k (Lj p (En d [u])) (Hx o [u]) r=some fin:=by
 obtain ⟨u',h1,h⟩:=Option.bind_eq_some_iff.1 h;obtain ⟨rfl,s1⟩:=Dy h1;obtain ⟨f,h2,h⟩:=Option.bind_eq_some_iff.1 h;obtain ⟨s2,rfl,s3⟩:=cI h2;obtain ⟨o',h3,h⟩:=Option.bind_eq_some_iff.1 h;obtain ⟨rfl,s4⟩:=Dy h3;obtain ⟨p',h4,h⟩:=Option.bind_eq_some_iff.1 h;obtain ⟨rfl,s5⟩:=Dy h4;exact ⟨s1,s2,s3,s4,s5,h⟩
theorem wM {d p o r:Δ} {y t:PT} {k:Nat} {fin:Δ×Δ} (h:((Ps r [t]).bind fun r'=>(Ui p [t]).bind fun p'=>Kw d y k p' o r')=some fin) :
  Sm (Hx r [t])∧Sm (Lj p [t])∧Kw d y k (Lj p [t]) o (Hx r [t])=some fin:=by
 obtain ⟨r',h3,h⟩:=Option.bind_eq_some_iff.1 h;obtain ⟨rfl,s4⟩:=Dy h3;obtain ⟨p',h4,h⟩:=Option.bind_eq_some_iff.1 h;obtain ⟨rfl,s5⟩:=Dy h4;exact ⟨s4,s5,h⟩
theorem N4.set9 {w:World} {b:Nat} {t:Tm} {v o:Value} (h:N4 w b t v o) (o':Value):N4 (w.setCell ⟨b,9,none⟩ o') b t v o':=by
 obtain ⟨c0,c1,c2,c3,c4,c5,c6,c7,c8,c9,f9⟩:=h;constructor<;>simp [*,go_sem]
def Ab9 (wo wr:World) (B D g:Nat) (t:Tm) (dv:Value) (fin:Δ×Δ) (d:Δ) (y:PT) (fu:Nat) (v1 v7:Value):Prop :=
 ∃a n c lp a2 n2 c2 lr a3 n3 c3 lo,v1=.slice a n c∧v7=.slice a2 n2 c2∧(Bd wo B a n c lp∨Bd wr (D+1) a n c lp)∧Sm lp∧Bd wr (D+1) a2 n2 c2 lr∧Sm lr∧N4 wr D t dv (.slice a3 n3 c3)∧Ei wr t∧Bd wr (D+1) a3 n3 c3 lo∧Sm lo∧Kw d y fu lp lo lr=some fin∧wr.cell? ⟨g,0,none⟩=some (.pointer (some ⟨D,0,none⟩))∧Below wo.heap.size wo wr
theorem Acj (wo:World) (L B n c B' n' c':Nat) (a a':Γ) (p d:Δ) (y:PT) (hL:wo.cell? ⟨L,0,none⟩=some (.slice a' n' c')) (h:Bd wo B a n c p) (hp:Sm p) (h':Bd wo B' a' n' c' (y::d)) (hd:Sm (y::d))
  (f:Nat) (o r:Δ) (hr:Kw (y::d) y f p [] []=some (o,r)) :
  Θ 179 #[.int .u8 0,.slice a n c,.slice (some ⟨L,0,none⟩) 1 1] wo (zT wo o r):=by
 have HB:=Ac wo.heap.size wo;have HR:=Ae hr;clear hr;go_enter Tryz.func179,Tryz.ntmps179;go_wp2_with fail;go_step3;go_wp2_with fail;refine (On (h.keep qF) hp).mono ?_;rintro e w1 ⟨rfl,hb1⟩;have HB1:=zI wo hb1;clear hb1 HB;go_wp2_with fail;refine (Zv (Bc HB1 hL) (h'.keep HB1) hd).mono ?_;rintro e w2 ⟨rfl,hb2⟩;have HB2:=HB1.trans (hb2.mono HB1.size);clear hb2 HB1;go_wp2_with fail;refine (dP w2 L B' n' c' a' y d (Bc HB2 hL) (h'.keep HB2) hd).mono ?_;rintro e w3 ⟨G,cap,D,t,rfl,hg,hD,ht,hrt,hA1,hA2,hD0,hg0,hDg,hb3⟩;have HB3:=HB2.trans (hb3.mono HB2.size);have hs2:=HB2.size;clear hb3;go_wp2_with fail;go_step3;go_wp2_with fail;go_loopg [1,6,7,8] f (fun fu v1 v6 v7 v8 wr=>v6=.slice none 0 0∧v8=.int .i64 0∧Ab9 wo wr B D G t (.slice a' n' c') (o,r) (y::d) y fu v1 v7)
 case atStart=>exact ⟨rfl,rfl,a,n,c,p,none,0,0,[],none,0,0,[],rfl,rfl,.inl h,hp,Bd.nil _ _,Sm.nil,hD,hrt,Bd.nil _ _,Sm.nil,HR.out,hg,HB3⟩
 case round =>
  obtain ⟨rfl,rfl,a,n,c,lp,a2,n2,c2,lr,a3,n3,c3,lo,rfl,rfl,hP,hsp,hRr,hsr,hDv,hrt,hO,hso,hrun,hgc,HBr⟩:=hrel;have hn:lp.length=n:=by rcases hP with h9|h9<;>exact h9.len
  cases lp with
  | nil =>
   obtain rfl:n=0:=by simpa using hn.symm
   have hfin:lo=o∧lr=r:=by
    have h9:some (lo,lr)=some (o,r):=by unfold Kw at hrun;exact hrun
    cases h9;exact ⟨rfl,rfl⟩
   obtain ⟨rfl,rfl⟩:=hfin;have hgb:G<wr.heap.size:=Aa _ _ hgc;have hDb:=hDv.lt;obtain ⟨-,-,-,-,-,-,-,-,-,k9,-⟩:=hDv;clear hP hsp hsr hso hrun HR;go_wp2_with fail;refine wp_loop_rounds 2 ?_;rw [rounds_succ];go_wp2_with fail;refine Cc ?_;intro w2 hw2;have hb2:Below wr.heap.size wr w2:=by rw [hw2];go_grown
   have hcell:w2.cell? ⟨wr.heap.size+1,0,none⟩=some (.slice a3 n3 c3):=by rw [hw2];simp [go_sem,Array.getElem?_append]
   have HBw:=HBr.trans (hb2.mono HBr.size);have hO2:=hO.keep hb2;have hR2:=hRr.keep hb2;generalize (Question.appendCap 1 0 25).cut (wr.tape wr.drawn (Question.appendCap 1 0 25))=cp;clear hw2 hb2 k9;(try rw [rounds_succ]);go_wp2_with fail;(try rw [Exit.noGoto_ret]);refine bodyPost_ret (v:=.tuple #[.slice (some ⟨wr.heap.size+1,0,none⟩) 1 cp,.slice a2 n2 c2,.int .i64 0]) (by simp [results,Tryz.results179,go_sem]) rfl ?_;exact ⟨_,_,_,_,_,_,_,_,rfl,hcell,hO2.mono qA,hR2.mono qA,HBw⟩
  | cons x lp =>
   have hn1:0<n:=by rw [←hn];simp
   obtain ⟨Bp,hPw⟩:∃Bp,Bd wr Bp a n c (x::lp):=by
    rcases hP with h9|h9
    ·exact ⟨_,h9.keep HBr⟩
    ·exact ⟨_,h9⟩
   have HP:=Ae hP;have HRUN:=Ae hrun;have hDb:=hDv.lt;have hgb:G<wr.heap.size:=Aa _ _ hgc;have hnf:n≤40:=by have:=hsp.len;omega
   clear hP hrun HR;go_wp2_with fail;refine (oF hPw hsp).mono ?_;rintro e w4 ⟨s,rfl,hs,hrs,hf1,hf2,hb4⟩;have D4:=hDv.keep hb4;have O4:=hO.keep hb4;have T4:=hrt.keep hb4;have R4:=hRr.keep hb4;have P4:=hPw.keep hb4;have HB4:=HBr.trans (hb4.mono HBr.size);have q4:=Bc hb4 hgc;have hz4:=hb4.size;have hG4:G<w4.heap.size:=by omega
   have hD4:D<w4.heap.size:=by omega
   have hPd:=h'.keep HB4;have HP4:=Ae (show Bd wo B _ _ _ (x::lp)∨Bd w4 (D+1) _ _ _ (x::lp) from HP.out.imp id fun h=>h.keep hb4);clear hDv hO hRr hPw HBr hgc hb4 HP
   cases hgk:gk with
   | zero=>have h9:=HRUN.out;rw [hgk] at h9;simp [Kw] at h9
   | succ k =>
   have h9:=HRUN.out;rw [hgk] at h9;clear HRUN;unfold Kw at h9;have HGK:=Ae hgk;clear hgk;have hx0:=hsp.pw.good x qG;have hy0:=hd.pw.good y qG;have hqx:=hsp.few x qG;have hqy:=hd.few y qG
   cases hin:inM x.1 y.1 with
   | true =>
    rw [hin,if_pos rfl] at h9;obtain ⟨s1,s2,s3,s4,s5,h9⟩:=pR h9;have H9:=Ae h9;have S2:=Ae s2;clear h9 s2;go_wp2_with fail;refine wp_loop_rounds 2 ?_;rw [rounds_succ];go_wp2_with fail;refine Be ?_;intro w5 hw5;have b5:Below w4.heap.size w4 w5:=by rw [hw5];go_grown
    have D5:=D4.keep b5;have z5:=b5.size;clear hw5;refine (lZ w5 D t _ _ D5 y ht (T4.keep b5) hy0.1 hy0.2 s x hs (hrs.keep b5) hx0.1 (by have h8:=hrs.top.len;rw [hs.d1] at h8;have:=hqx.1;omega) (by have h8:=hrs.low.len;rw [hs.d2] at h8;have:=hqx.2;omega) (by have h8:=T4.top.len;rw [ht.d1] at h8;have:=hqy.1;omega) (by have h8:=T4.low.len;rw [ht.d2] at h8;have:=hqy.2;omega) hin).mono ?_;rintro e w6 ⟨ua,uc,rfl,hU,hb6⟩;have b6:=b5.trans (hb6.mono b5.size);have D6:=D5.keep hb6;have z6:=b6.size;clear D5 hb6 b5 D4;have D6k:=D6;obtain ⟨-,-,-,-,-,-,-,-,d8,d9,-⟩:=D6;go_wp2_with fail;refine (oO (hPd.keep b6) hd hU s1 S2.out).mono ?_;rintro e w7 ⟨fa,fn,fc,rfl,hF,-,hb7⟩;have b7:=b6.trans (hb7.mono b6.size);have U7:=hU.keep hb7;have D7:=D6k.keep hb7;have z7:=b7.size;clear d8 d9 D6k hb7 b6 hU;have D7k:=D7;obtain ⟨-,-,-,-,-,-,-,-,d8,d9,f9⟩:=D7;go_wp2_with fail;refine (Tr (O4.keep b7) hso U7 s1).mono ?_;rintro e w8 ⟨oa,on,oc,rfl,hO8,-,hb8⟩;have b8:=b7.trans (hb8.mono b7.size);have F8:=hF.keep hb8;have D8:=D7k.keep hb8;have z8:=b8.size;have hO8':=hO8.mono (show D+1≤w7.heap.size by omega);clear d8 d9 f9 D7k b7 hF hO8;have D8k:=D8;obtain ⟨-,-,-,-,-,-,-,-,d8,d9,f9⟩:=D8;go_wp2_with fail;refine Be ?_;intro w9 hw9;have hg9:w8.grownBy w9 (some D):=by rw [hw9];exact Bf _ (A7 _ _)
    have D9:N4 w9 D t (.slice a' n' c') (.slice oa on oc):=by rw [hw9];exact D8k.set9 _
    have HB8:=HB4.trans (b8.mono HB4.size);have HB9:Below wo.heap.size wo w9:=by rw [hw9];exact HB8.setCell (p:=⟨D,9,none⟩) (by show wo.heap.size≤D;omega) _
    have lt1:∀k:Nat,some D=some k→k<D+1:=fun k hk=>by cases hk;omega
    have O9:=hO8'.butR hg9 lt1;have F9:=(F8.mono (show D+1≤w6.heap.size by omega)).butR hg9 lt1;have R9:=(R4.keep b8).butR hg9 lt1;have T8:=T4.keep b8;have T9:Ei w9 t:=⟨T8.top.ap hA1 hg9,T8.low.ap hA2 hg9,T8.s0,T8.s1,T8.s2,T8.s3⟩;have G9:=hg9.cell (Bc b8 q4) qJ;have P9:∃B,Bd w9 B a n c (x::lp):=by
     rcases HP4.out with h8|h8
     ·exact ⟨_,h8.keep HB9⟩
     ·exact ⟨_,(h8.keep b8).butR hg9 lt1⟩
    obtain ⟨B9,P9⟩:=P9;have z9:=hg9.size;clear hw9 hg9 d8 d9 f9 D8k b8 HB8 hO8' F8 T8 T4 R4 O4 P4 q4 HP4;refine (fK P9 hsp F9 s3).mono ?_;rintro e w10 ⟨pa,pn,pc,rfl,hP10,-,hb10⟩;have D10:=D9.keep hb10;have O10:=O9.keep hb10;have R10:=R9.keep hb10;have T10:=T9.keep hb10;have G10:=Bc hb10 G9;have HB10:=HB9.trans (hb10.mono HB9.size);have P10:=hP10.mono (show D+1≤w9.heap.size by omega);clear D9 O9 R9 T9 G9 HB9 hb10 P9 F9 hP10;go_wp2_with fail;go_roundg k
    case rel=>exact ⟨rfl,rfl,pa,pn,pc,_,a2,n2,c2,lr,oa,on,oc,_,rfl,rfl,.inr P10,s5,R10,hsr,D10,T10,O10,s4,H9.out,G10,HB10⟩
    case measure=>have:=HGK.out;omega
   | false =>
    rw [hin,if_neg qG] at h9;obtain ⟨s4,s5,h9⟩:=wM h9;have H9:=Ae h9;clear h9;have s1:=gR hsp;have TT0:=Dh.new w4 s;go_wp2_with fail;refine wp_loop_rounds 2 ?_;rw [rounds_succ];go_wp2_with fail;refine Be ?_;intro w5 hw5;have b5:Below w4.heap.size w4 w5:=by rw [hw5];go_grown
    have TT5:Dh w5 w4.heap.size s:=by rw [hw5];exact TT0
    have D5:=D4.keep b5;have z5:=b5.size;clear hw5 TT0;refine (tS w5 D t _ _ D5 y ht (T4.keep b5) s x hs (hrs.keep b5) hin).mono ?_;rintro e w6 ⟨rfl,hb6⟩;have b6:=b5.trans (hb6.mono b5.size);have TT6:=TT5.keep hb6;have z6:=b6.size;clear D5 TT5 hb6 b5;have TT6k:=TT6;obtain ⟨x0,x1,x2,x3,x4,x5,x6,x7,-,-,-,-,-,-,-,-⟩:=TT6;go_wp2_with fail;rw [rounds_succ];go_wp2_with fail;have hrs6:=hrs.keep b6;have one6:=Bd.one (w:=w6) (B:=0) s hs hrs6 (Ba _) (.inr fun _ _=>Ba _) (.inr fun _ _=>Ba _);refine Be ?_;intro w7 hw7;rw [←hw7] at one6;have b67:Below w6.heap.size w6 w7:=by rw [hw7];go_grown
    have b7:=b6.trans (b67.mono b6.size);have TT7:=TT6k.keep b67;have z7:=b67.size;clear hw7 x0 x1 x2 x3 x4 x5 x6 x7 TT6k b67 b6 hrs6;refine (Tr (R4.keep b7) hsr one6 s1).mono ?_;rintro e w8 ⟨ra,rn,rc,rfl,hR8,-,hb8⟩;have b8:=b7.trans (hb8.mono b7.size);have TT8:=TT7.keep hb8;have z8:=b8.size;have R8:=hR8.mono (show D+1≤w7.heap.size by omega);clear TT7 hb8 b7 one6 hR8;have TT8k:=TT8;obtain ⟨x0,x1,x2,x3,x4,x5,x6,x7,-,-,-,-,-,-,-,-⟩:=TT8;go_wp2_with fail;have hrs8:=hrs.keep b8;have one8:=Bd.one (w:=w8) (B:=0) s hs hrs8 (Ba _) (.inr fun _ _=>Ba _) (.inr fun _ _=>Ba _);refine Be ?_;intro w9 hw9;rw [←hw9] at one8;have b89:Below w8.heap.size w8 w9:=by rw [hw9];go_grown
    have b9:=b8.trans (b89.mono b8.size);have R9:=R8.keep b89;have z9:=b89.size;clear hw9 x0 x1 x2 x3 x4 x5 x6 x7 TT8k b89 b8 hrs8 R8;refine (fK (P4.keep b9) hsp one8 s1).mono ?_;rintro e w10 ⟨pa,pn,pc,rfl,hP10,-,hb10⟩;have b10:=b9.trans (hb10.mono b9.size);have R10:=R9.keep hb10;have D10:=D4.keep b10;have O10:=O4.keep b10;have T10:=T4.keep b10;have G10:=Bc b10 q4;have HB10:=HB4.trans (b10.mono HB4.size);have P10:=hP10.mono (show D+1≤w9.heap.size by omega);clear R9 hb10 b9 one8 hP10 b10;go_wp2_with fail;go_roundg k
    case rel=>exact ⟨rfl,rfl,pa,pn,pc,_,ra,rn,rc,_,a3,n3,c3,lo,rfl,rfl,.inr P10,s5,R10,s4,D10,T10,O10,hso,H9.out,G10,HB10⟩
    case measure=>have:=HGK.out;omega
def Tb (w:World) (x:Option (Δ)) (e:Ending) (w':World):Prop :=
 Below w.heap.size w w'∧match x with
 | some o=>∃a n c,e=.returned (.tuple #[.slice a n c,.bool true])∧Bd w' w.heap.size a n c o
 | none=>e=.returned (.tuple #[.slice none 0 0,.bool false])
theorem Mc (w:World) (B n c B' n' c':Nat) (a a':Γ) (p d:Δ) (h:Bd w B a n c p) (hp:Sm p) (h':Bd w B' a' n' c' d) (hd:Sm d) (x:Option (Δ)) (hr:Fd p d=some x) :
  Θ 111 #[.slice a n c,.slice a' n' c'] w (Tb w x):=by
 cases d with
 | nil=>simp [Fd] at hr
 | cons y d =>
  have hr2:∃o r,Kw (y::d) y 100 p [] []=some (o,r)∧x=if r=[] then some o else none:=by
   unfold Fd at hr
   cases hk:Kw (y::d) y 100 p [] [] with
   | none=>simp [hk] at hr
   | some z=>simp only [hk,Option.map_some,Option.some.injEq] at hr;exact ⟨z.1,z.2,rfl,hr.symm⟩
  obtain ⟨o,r,h1,hx⟩:=hr2;have H1:=Ae h1;have HX:=Ae hx;clear hr h1 hx;have HB:=Ac w.heap.size w;go_enter Tryz.func111,Tryz.ntmps111;go_wp2_with fail;refine Be ?_;intro w1 hw1;have b1:Below w.heap.size w w1:=by rw [hw1];go_grown
  have c1:w1.cell? ⟨w.heap.size,0,none⟩=some (.slice a' n' c'):=by rw [hw1];simp [go_sem]
  clear hw1 HB;refine (Acj w1 w.heap.size B n c B' n' c' a a' p d y c1 (h.keep b1) hp (h'.keep b1) hd 100 o r H1.out).mono ?_;rintro e w2 ⟨g,cap,a2,n2,c2,a3,n3,c3,rfl,hg,hO,hR,hb2⟩;have b2:=b1.trans (hb2.mono b1.size);have hl:=hR.len
  cases r with
  | nil =>
   obtain rfl:n3=0:=by simpa using hl.symm
   go_wp2_with fail;refine bodyPost_ret (v:=.tuple #[.slice a2 n2 c2,.bool true]) (by simp [results,Tryz.results111,go_sem]) rfl ?_;rw [HX.out];show Tb w (some o) _ _;exact ⟨b2,a2,n2,c2,rfl,hO.mono b1.size⟩
  | cons z r =>
   have hn3:0<n3:=by rw [←hl];simp
   go_wp2_with fail;refine bodyPost_ret (v:=.tuple #[.slice none 0 0,.bool false]) (by simp [results,Tryz.results111,go_sem]) rfl ?_;rw [HX.out];show Tb w none _ _;exact ⟨b2,rfl⟩
theorem Su {l:Δ} (h:C9 l=true) (h0:l≠[]):∃x,l=[(0,x)]:=by
 match l,h,h0 with
 | [t],h,_ =>
  obtain ⟨k,x⟩:=t;have:k=0:=by simpa [C9] using h
  exact ⟨x,by rw [this]⟩
 | t::u::l,h,_=>simp [C9] at h
theorem Ac2 {w:World} {B n c B' n' c':Nat} {a a':Γ} {p q r:Δ} (h:Bd w B a n c p) (hl:Sm p) (h':Bd w B' a' n' c' q) (hl':Sm q) (hr:nH p q=some r) :
  Θ 266 #[.slice a n c,.slice a' n' c'] w (Cl w r)∧Sm r:=by
 unfold nH at hr
 split at hr
 ·next hp =>
  subst hp;obtain rfl:n=0:=h.len.symm;obtain ⟨rfl,hs⟩:=Dy hr;exact ⟨Sp w B' n' c' c a' a q h' hl',hs⟩
 ·next hp =>
  split at hr
  ·next hq =>
   subst hq;obtain rfl:n'=0:=h'.len.symm;obtain ⟨rfl,hs⟩:=Dy hr;have hn:0<n:=by rw [←h.len];exact List.length_pos_iff.2 hp
   exact ⟨mD w B n c c' a a' p h hl hn,hs⟩
  ·next hq =>
   split at hr
   ·next hc =>
    simp only [Bool.and_eq_true] at hc;obtain ⟨x,rfl⟩:=Su hc.1 hp;obtain ⟨y,rfl⟩:=Su hc.2 hq;obtain ⟨rfl,hs⟩:=Dy hr;exact ⟨Yt w B n c B' n' c' a a' x y h hl h' hl',hs⟩
   ·split at hr
    ·next hd =>
     simp only [Bool.and_eq_true,Bool.or_eq_true,decide_eq_true_eq] at hd;obtain ⟨A,h1,hr⟩:=Option.bind_eq_some_iff.1 hr;obtain ⟨A',h2,hr⟩:=Option.bind_eq_some_iff.1 hr;obtain ⟨R,h3,hr⟩:=Option.bind_eq_some_iff.1 hr;refine ⟨Acr w B n c B' n' c' a a' p q h hl h' hl' hp hq hd.1.1 hd.1.2 hd.2 A A' h1 h2 R h3 r hr,?_⟩
     cases R with
     | none=>cases hr;exact I8
     | some s =>
      simp only [mB] at hr
      split at hr
      ·obtain ⟨t,h4,hr⟩:=Option.bind_eq_some_iff.1 hr;obtain ⟨u,h5,hr⟩:=Option.bind_eq_some_iff.1 hr;exact (Dy hr).1▸(Dy hr).2
      ·cases hr
    ·cases hr
theorem rN {l:List (Δ)}:∀{g r:Δ},Ng l g=some r→∀i,i<l.length→∃o o',Ng (l.take i) g=some o∧nH o (l.getD i [])=some o'∧Ng (l.take (i+1)) g=some o':=by
 induction l with
 | nil=>intro g r h i hi;simp at hi
 | cons p l ih =>
  intro g r h i hi;unfold Ng at h;obtain ⟨g',h1,h2⟩:=Option.bind_eq_some_iff.1 h
  cases i with
  | zero=>exact ⟨g,g',rfl,h1,by simp [Ng,h1]⟩
  | succ i =>
   obtain ⟨o,o',k1,k2,k3⟩:=ih h2 i (by simpa using hi);exact ⟨o,o',by simp [Ng,h1,k1],k2,by rw [List.take_succ_cons];unfold Ng;rw [h1];exact k3⟩
theorem Abj (wo:World) (n c:Nat) (a:Γ) (l:List (Δ)) (h:Gi wo a n c l) (hs:∀x∈l,Sm x) (r:Δ) (hr:Ng l []=some r) :
  Θ 213 #[.slice a n c] wo (fun e w'=>∃a1 n1 c1,e=.returned (.tuple #[.slice a1 n1 c1,.int .i64 0])∧Bd w' wo.heap.size a1 n1 c1 r∧Bm w' wo.heap.size a1 n1 c1∧Below wo.heap.size wo w'):=by
 have HB:=Ac wo.heap.size wo;have hlen:=h.len;have hfew:=h.few;have HR:=Ae hr;clear hr;go_enter Tryz.func213,Tryz.ntmps213;go_wp2_with fail;go_loopw [2,3,10] (fun v2 v3 v10 wr=>∃i:Nat,i≤n∧v2=.slice none 0 0∧v3=.int .i64 0∧v10=.int .i64 i∧Below wo.heap.size wo wr) (fun _ _ v10 _=>n-(intOf v10).toNat)
 case atStart=>exact ⟨0,by omega,rfl,rfl,rfl,HB⟩
 case round =>
  obtain ⟨i,hi,rfl,rfl,rfl,HBr⟩:=hrel;by_cases hlt:i<n
  ·obtain ⟨g,rfl,_⟩:=h.cell.resolve_left qA;obtain ⟨a2,n2,c2,hce,hPe⟩:=(h.keep HBr).get hlt;have hse:=Mh hs i;generalize l.getD i []=x at *;go_wp2_with fail;refine (On hPe hse).mono ?_;rintro e w2 ⟨rfl,hb2⟩;go_wp2_with fail;go_roundw
   case rel=>exact ⟨i+1,by omega,rfl,rfl,by go_num,HBr.trans (hb2.mono HBr.size)⟩
   case measure=>(first|(simp [intOf];omega)|(simp [intOf];done))
  ·obtain rfl:i=n:=by omega
   go_wp2_with fail;obtain ⟨wq,rfl⟩:∃wq:World,wq=wr:=⟨_,rfl⟩;go_loopw [2,20] (fun v2 v20 wr=>∃j:Nat,j≤i∧v20=.int .i64 j∧(∃(a':Γ) (n' c':Nat) (o:Δ),v2=.slice a' n' c'∧Bd wr wo.heap.size a' n' c' o∧Bm wr wo.heap.size a' n' c'∧Hid (Ng (l.take j) []=some o)∧Sm o)∧Below wo.heap.size wo wr) (fun _ v20 _=>i-(intOf v20).toNat)
   case atStart=>exact ⟨0,by omega,rfl,⟨none,0,0,[],rfl,Bd.nil _ _,Bm.nil _ _,Ae rfl,Sm.nil⟩,HBr⟩
   case round =>
    clear HBr;obtain ⟨j,hj,rfl,⟨a1,n1,c1,o,rfl,hP,hO,hK,hSo⟩,HBr⟩:=hrel;by_cases hlt:j<i
    ·obtain ⟨g,rfl,_⟩:=h.cell.resolve_left qA;obtain ⟨o1,o2,k1,k2,k3⟩:=rN HR.out j qA;rw [hK.out] at k1;cases k1
     obtain ⟨a2,n2,c2,hce,hPe⟩:=(h.keep HBr).get hlt;have hse:=Mh hs j;have K3:=Ae k3;clear k3;generalize l.getD j []=x at *;obtain ⟨hcall,hso2⟩:=Ac2 hP hSo hPe hse k2;go_wp2_with fail;refine hcall.mono ?_;rintro e w3 ⟨a4,n4,c4,rfl,hP4,hO4,hb3⟩;have hwo:=HBr.size;go_wp2_with fail;go_roundw
     case rel=>exact ⟨j+1,by omega,by go_num,⟨a4,n4,c4,_,rfl,hP4.mono hwo,hO4.mono hwo,K3,hso2⟩,HBr.trans (hb3.mono HBr.size)⟩
     case measure=>(first|(simp [intOf];omega)|(simp [intOf];done))
    ·obtain rfl:j=i:=by omega
     rw [As qA,HR.out] at hK;obtain rfl:r=o:=by have:=hK.out;simpa using this
     go_wp2_with fail;refine bodyPost_ret (v:=.tuple #[.slice a1 n1 c1,.int .i64 0]) (by simp [*,results,Tryz.results213,go_sem]) rfl ?_;exact ⟨a1,n1,c1,rfl,hP,hO,HBr⟩
theorem Zf (w:World) (n c:Nat) (a:Γ) (l:List (Δ)) (h:Gi w a n c l) (hs:∀x∈l,Sm x) (r:Δ) (hr:Ng l []=some r) :
  Θ 175 #[.slice a n c] w (Cl w r):=by
 go_enter Tryz.func175,Tryz.ntmps175;go_wp2_with fail;refine (Abj w n c a l h hs r hr).mono ?_;rintro e w1 ⟨a1,n1,c1,rfl,hP,hO,hb1⟩;go_wp2_with fail;refine bodyPost_ret (v:=.slice a1 n1 c1) (by simp [results,Tryz.results175,go_sem]) rfl ?_;exact ⟨a1,n1,c1,rfl,hP,hO,hb1⟩
theorem iI {w:World} {B:Nat} {a:Γ} {n c:Nat} {l:Δ} (h:Bd w B a n c l) (hs:Sm l) (hx:Mt l) (y:Nat) (hy:y<4):Θ 153 #[.slice a n c,.int .i64 y] w (F7 w (Jv l y)):=by
 by_cases e:y=0
 ·subst e;exact tT h hs
 ·exact xM w B a n c l h hs hx y qA
def Ed (p:Δ) (i:Nat):List (Δ):=p::(List.range i).map (Jv p)
theorem oN (wo:World) (B n c:Nat) (a:Γ) (p:Δ) (h:Bd wo B a n c p) (hO:Bm wo B a n c) (hB:B≤wo.heap.size) (hs:Sm p) (hx:Mt p) :
  Θ 176 #[.slice a n c] wo (dW wo B (Ed p 4)):=by
 have HB:=Ac wo.heap.size wo;go_enter Tryz.func176,Tryz.ntmps176;obtain ⟨i0,hi0,hz0,hz1',hz2'⟩:=info_parts Jb;go_wp2_with fail;have hbA:Below wo.heap.size wo (wo.alloc (.cells #[.slice a n c] 25)):=Below.alloc (Ac _ _) (Ad _) _;have hR0:Gg (wo.alloc (.cells #[.slice a n c] 25)) wo.heap.size B (.slice (some ⟨wo.heap.size,0,none⟩) 1 1) (Ed p 0):=by
  refine ⟨[.slice a n c],⟨rfl,.inr ⟨wo.heap.size,1,#[.slice a n c],rfl,Ad _,heap_alloc_new wo _,Ad _,by decide,rfl,rfl⟩⟩,fun i l hl=>?_⟩
  match i,hl with
  | 0,hl =>
   simp only [Ed,List.getElem?_cons_zero,Option.some.injEq] at hl;subst hl;exact ⟨a,n,c,rfl,h.keep hbA,hO.keep hbA⟩
  | i+1,hl=>simp [Ed] at hl
 go_loopw [3,9] (fun v3 v9 wr=>∃i:Nat,i≤4∧v9=.int .i64 i∧Gg wr wo.heap.size B v3 (Ed p i)∧Below wo.heap.size wo wr) (fun _ v9 _=>4-(intOf v9).toNat)
 case atStart=>exact ⟨0,by omega,rfl,hR0,hbA⟩
 case round =>
  obtain ⟨i,hi,rfl,hrow,HBr⟩:=hrel;clear hR0 hbA;by_cases hlt:i<4
  ·have hS:=iI (h.keep HBr) hs hx i hlt;have HT:=Ae (show Ed p (i+1)=Ed p i++[Jv p i] by unfold Ed;rw [List.range_succ,List.map_append];rfl);obtain ⟨xs,hown,hxs⟩:=hrow.ex;have hjl:(Ed p i).length=i+1:=by simp [Ed]
   rw [hjl] at hown;have HXS:=Ae hxs;have HOW:=Ae hown;clear hxs hrow hown;have hi4:(i:Int)<4:=by omega
   have hszq:=HBr.size;go_wp2_with (first|(go_at_call 153;refine hS.mono ?_;rintro e w6 ⟨a6,n6,c6,rfl,hp6,ho6,hb6⟩;have hz6:=hb6.size)|(at_builtin;refine wpList_append_own _ rfl _ _ 97 rfl wo.heap.size 25 i0 (.slice none 0 0) 1 24 Tryz.underlying97 hi0 hz0 hz1' hz2' rfl qI _ (i+1) xs rfl (Bo (Bo HOW.out hb6) qF) ⟨w6.heap.size,0,none⟩ 1 1 [.slice a6 n6 c6] rfl rfl (cell_one_new _ _ _) (by simp [Value.oneCell']) qO qA (by first|(simp;omega)|go_size) ?_;intro v7 w7 hown7 hgrow7 _));have hge:=Hd HOW.out;have HB6:Below wo.heap.size wo w6:=HBr.trans (hb6.mono hszq);have HB7:Below wo.heap.size wo w7:=(HB6.alloc HB6.size _).grown hgrow7 qJ (fun k hk=>by have:=hge k hk;omega);have HAl:Below w6.heap.size w6 (w6.alloc (.cells #[.slice a6 n6 c6] 25)):=Below.alloc (Ac _ _) (Ad _) _;have HRow:=Gg.next (v:=u3) (v':=v7) (l:=Jv p i) (L:=Ed p i) (by rw [hjl];exact Bo (Bo HOW.out hb6) HAl) (fun i' l' hl'=>by
    obtain ⟨a9,n9,c9,e9,hp9,ho9⟩:=HXS.out i' l' hl';exact ⟨a9,n9,c9,e9,(hp9.keep hb6).keep HAl,(ho9.keep hb6).keep HAl⟩) ((hp6.keep HAl).mono qA) ((ho6.keep HAl).mono qA) (by rw [hjl];exact hown7) hgrow7
   rw [←HT.out] at HRow;clear hown7 hgrow7 hp6 ho6;go_roundw
   case rel=>exact ⟨i+1,by omega,by go_num,HRow,HB7⟩
   case measure=>(first|(simp [intOf];omega)|(simp [intOf];done))
  ·obtain rfl:i=4:=by omega
   go_wp2_with fail;refine bodyPost_ret (v:=u3) (by simp [*,results,Tryz.results176,go_sem]) rfl ?_;exact ⟨u3,rfl,hrow,HBr⟩
attribute [local go_sem] Oper.semAt_some
abbrev PX:=Nat×Γ×Nat×Nat
def encX (x:PX):Array Value:=#[.int .i64 x.1,.slice x.2.1 x.2.2.1 x.2.2.2]
def mE (B:Nat) (L:List (Δ×Nat)) (pre:List PX) (x:PX) (W:World):Prop :=
 ∃r,L[pre.length]? = some (r,x.1)∧Bd W B x.2.1 x.2.2.1 x.2.2.2 r∧Bm W B x.2.1 x.2.2.1 x.2.2.2
def Hr (B:Nat) (L:List (Δ×Nat)) (xs:List PX) (W:World):Prop :=
 xs.length≤L.length∧∀(i:Nat) (x:PX),xs[i]? = some x→∃r,L[i]? = some (r,x.1)∧Bd W B x.2.1 x.2.2.1 x.2.2.2 r∧Bm W B x.2.1 x.2.2.1 x.2.2.2
def Sv (B:Nat) (L:List (Δ×Nat)) (xs:List PX) (W:World):Prop:=xs.length=L.length∧Hr B L xs W
theorem Hr.kp {B:Nat} {L:List (Δ×Nat)} {xs:List PX} {W W':World} (h:Hr B L xs W) (hk:KpT W W'):Hr B L xs W' :=
 ⟨h.1,fun i x hx=>by obtain ⟨r,h1,h2,h3⟩:=h.2 i x hx;exact ⟨r,h1,Dz h2 h3 hk⟩⟩
theorem Hr.snoc {B:Nat} {L:List (Δ×Nat)} {xs:List PX} {x:PX} {W W':World} (h:Hr B L xs W) (hx:mE B L xs x W) (hk:KpT W W'):Hr B L (xs++[x]) W':=by
 obtain ⟨r,h1,h2,h3⟩:=hx;have hl:=(List.getElem?_eq_some_iff.1 h1).1;refine ⟨by simp;omega,fun i y hy=>?_⟩;by_cases e:i<xs.length
 ·rw [Az e] at hy;exact (h.kp hk).2 i y hy
 ·have hi:=(List.getElem?_eq_some_iff.1 hy).1;have:i=xs.length:=by simp at hi;omega
  subst this;rw [A5 (Ad _)] at hy;simp at hy;subst hy;exact ⟨r,h1,Dz h2 h3 hk⟩
theorem Rw {m:Nat} {w:World} {B n c:Nat} {a:Γ} {l:Δ} (h:Bd w B a n c l) {b:Bool} (hb:C9 l=b):CallsIn Fence.wide m Tryz.prog 177 #[.slice a n c] w (fun e w'=>e=.returned (.bool b)∧Below w.heap.size w w'):=by
 subst hb;exact callsIn_wide.2 (sB w B n c a l h)
theorem tN {w:World} {B n c B' n' c':Nat} {a a':Γ} {l l':Δ} (h:Bd w B a n c l) (h':Bd w B' a' n' c' l'):Gi (w.alloc (.cells #[.slice a n c,.slice a' n' c'] 25)) (some ⟨w.heap.size,0,none⟩) 2 2 [l,l']:=by
 have hb:Below w.heap.size w (w.alloc (.cells #[.slice a n c,.slice a' n' c'] 25)):=Below.alloc (Ac _ _) (Ad _) _;refine ⟨rfl,Ad _,by omega,.inr ⟨w.heap.size,rfl,fun i x hx=>?_⟩⟩
 match i,hx with
 | 0,hx=>simp only [List.getElem?_cons_zero,Option.some.injEq] at hx;subst hx;exact ⟨a,n,c,by simp [go_sem],(h.keep hb).mono (Ba _)⟩
 | 1,hx=>simp only [List.getElem?_cons_succ,List.getElem?_cons_zero,Option.some.injEq] at hx;subst hx;exact ⟨a',n',c',by simp [go_sem],(h'.keep hb).mono (Ba _)⟩
 | i+2,hx=>simp at hx
theorem aV (m:Nat) (hm:1≤m) (w:World) (pb:Nat) (B n c:Nat) (a:Γ) (p more once next q r m2:Δ) (hpb:w.cell? ⟨pb,0,none⟩=some (.slice a n c)) (h:Bd w B a n c p) (hO:Bm w B a n c) (hB:B≤w.heap.size) (hs:Sm p) (hx:Mt p)
  (h1:Ng (Ed p 4) []=some more) (h2:Fd p more=some (some once)) (h3:C9 once=false) (h4:Ng [once,more] []=some next) (h5:Fd once next=some (some q)) (h6:C9 q=false) (h7:ck (Ck q)=some r) (h8:Fd more next=some (some m2)) (h9:C9 next=true)
  (sS:∀x∈Ed p 4,Sm x) (sM:Sm more) (sC:Sm once) (sN:Sm next) (sQ:Sm q) :
  SeqW Fence.wide m Tryz.prog 174 #[.pointer (some ⟨pb,0,none⟩)] encX (mE w.heap.size [(r,1)]) KpT (Sv w.heap.size [(r,1)]) w:=by
 intro l J W hW hJ hY h0;refine callsIn_of_wp Tryz.func174 rfl trivial ?_ rfl;simp only [Tryz.ntmps174,List.size_toArray,List.length_cons,List.length_nil,Nat.reduceAdd,Nat.reduceSub,Array.replicate_succ,Array.replicate_zero,List.push_toArray,List.append_toArray,List.nil_append,List.cons_append];have hpW:=Bc hW hpb;have hpP:=h.keep hW;have hpO:=hO.keep hW;have hWw:=hW.size
 gi_wp2
 refine ⟨trivial,(callsIn_wide.2 (oN W B n c a p hpP hpO qA hs hx)).mono ?_⟩;rintro e w1 ⟨v1,rfl,hR1,hb1⟩;obtain ⟨a1,c1,rfl,hR1'⟩:=hR1.toR (by simp [Ed]);clear hR1
 gi_wp2
 refine ⟨trivial,(callsIn_wide.2 (Zf w1 _ c1 a1 _ hR1' sS more h1)).mono ?_⟩;rintro e w2 ⟨a2,n2,c2,rfl,hP2,hO2,hb2⟩;have z1:=hb1.size;have b2:=hb1.trans (hb2.mono z1);have hp2:=Bc b2 hpW
 gi_wp2
 refine ⟨trivial,(callsIn_wide.2 (Mc w2 B n c _ n2 c2 a a2 p more (hpP.keep b2) hs hP2 sM _ h2)).mono ?_⟩;rintro e w3 ⟨hb3,a3,n3,c3,rfl,hP3⟩;have z2:=hb2.size;have b3:=b2.trans (hb3.mono qA);have J3:=hJ _ _ _ none h0 (Bt b3) (fun r e=>by cases e);have hP2':=hP2.keep hb3;have hO2':=hO2.keep hb3;have z3:=b3.size
 gi_wp2
 gi_loopg [3,4,6] 1 (fun gq v3 v4 v6 wr=>∃(pre:List PX) (a':Γ) (n' c':Nat),v4=.slice a' n' c'∧((gq=1∧pre=[]∧v3=.slice a2 n2 c2∧v6=.int .i64 1∧Bd wr 0 a2 n2 c2 more∧Bm wr w1.heap.size a2 n2 c2∧Bd wr 0 a' n' c' once∧J pre wr∧W.heap.size≤wr.heap.size)∨(gq=0∧Bd wr 0 a' n' c' next∧Sv w.heap.size [(r,1)] pre wr∧J pre wr)))
 case atStart=>exact ⟨[],a3,n3,c3,rfl,.inl ⟨rfl,rfl,rfl,rfl,hP2'.mono (Ba _),hO2',hP3.mono (Ba _),J3,z3⟩⟩
 case round =>
  clear hP2 hO2 hP2' hO2' hP3 J3 hR1' h0;obtain ⟨pre,a',n',c',rfl,(⟨hgq,rfl,rfl,rfl,hPm,hOm,hPo,hJr,hzr⟩|⟨hgq,hPn,hDn,hJr⟩)⟩:=hrel
  ·have HGQ:=Ae hgq;clear hgq;have SA:=Ae h4;have SB:=Ae h5;have SD:=Ae h8;obtain ⟨hr7,hsr⟩:=Dy h7
   gi_wp2
   refine ⟨trivial,(Rw hPo h3).mono ?_⟩;rintro e w4 ⟨rfl,hb4⟩;have hPo4:=hPo.keep hb4;have hPm4:=hPm.keep hb4;have hRT:=tN hPo4 hPm4
   gi_wp2
   refine ⟨trivial,(callsIn_wide.2 (Zf _ 2 2 _ [once,more] hRT (by simp [sC,sM]) next SA.out)).mono ?_⟩;rintro e w5 ⟨a5,n5,c5,rfl,hP5,hO5,hb5⟩;have z4:=hb4.size;have b5:=zI w4 hb5;have z5:=b5.size;have hPo5:=hPo4.keep b5;have hPm5:=hPm4.keep b5;have hOm5:=(hOm.keep hb4).keep b5
   gi_wp2
   refine ⟨trivial,(callsIn_wide.2 (Mc w5 _ n' c' _ n5 c5 a' a5 once next hPo5 sC hP5 sN _ SB.out)).mono ?_⟩;rintro e w6 ⟨hb6,a6,n6,c6,rfl,hP6⟩
   gi_wp2
   refine ⟨trivial,(Rw hP6 h6).mono ?_⟩;rintro e w7 ⟨rfl,hb7⟩;have hP7:=hP6.keep hb7;have z6:=hb6.size;have z7:=hb7.size;subst hr7
   gi_wp2
   refine ⟨trivial,(callsIn_wide.2 (Kb hP7 sQ)).mono ?_⟩;rintro e w8 ⟨a8,n8,c8,rfl,hP8,hO8,hb8⟩;have z8:=hb8.size;have b58:=(hb6.trans (hb7.mono z6)).trans (hb8.mono qA);have b08:=(hb4.trans (b5.mono z4)).trans (b58.mono qA);have J8:=hJ _ _ _ none hJr (Bt b08) (fun r e=>by cases e);obtain ⟨fn,tmps,assign,body,hy,hR⟩:=hY [] (1,a8,n8,c8) w8 J8 ⟨Ck q,rfl,hP8.mono qA,hO8.mono qA⟩;have hy':(Instr.yield l #[.int .i64 1,.slice a8 n8 c8]).run Tryz.prog w8=.ok (.round l fn tmps assign body) w8:=hy;clear hy
   gi_wp2
   refine hR.mono ?_;rintro e w9 ⟨rfl,hJ9,hk9⟩;have hN9:=Dz (hP5.keep b58) (hO5.keep b58) hk9;have hM9:=Dz (hPm5.keep b58) ((hOm5.keep b58).mono (Ba _)) hk9;have hD9:Hr w.heap.size [(Ck q,1)] [(1,a8,n8,c8)] w9:=Hr.snoc (xs:=[]) ⟨Ba _,fun i x hx=>by simp at hx⟩ ⟨Ck q,rfl,hP8.mono qA,hO8.mono qA⟩ hk9
   gi_wp2
   refine ⟨trivial,(callsIn_wide.2 (Mc w9 _ n2 c2 _ n5 c5 a2 a5 more next hM9.1 sM hN9.1 sN _ SD.out)).mono ?_⟩;rintro e w10 ⟨hb10,a10,n10,c10,rfl,hP10⟩;have J10:=hJ _ _ _ none hJ9 (Bt hb10) (fun r e=>by cases e)
   gi_wp2
   gi_roundg 0
   case rel=>exact ⟨[(1,a8,n8,c8)],a5,n5,c5,rfl,.inr ⟨rfl,(hN9.1.keep hb10).mono (Ba _),⟨rfl,hD9.kp (KpT.of_below hb10)⟩,J10⟩⟩
   case measure=>have:=HGQ.out;omega
  ·gi_wp2
   refine ⟨trivial,(Rw hPn h9).mono ?_⟩;rintro e w4 ⟨rfl,hb4⟩;have J4:=hJ _ _ _ none hJr (Bt hb4) (fun r e=>by cases e);have D4:Sv w.heap.size [(r,1)] pre w4:=⟨hDn.1,hDn.2.kp (KpT.of_below hb4)⟩
   gi_wp2
   go_end0;exact ⟨⟨_,rfl⟩,pre,D4,J4⟩
end Go.Proofs.YtnnhcbeiogaknaaGreatDoor
end
