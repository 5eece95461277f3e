/- Package reckonerlaw19: WorthsField. -/
import Derived.Test.YtnnhcbeiogaknaaGreatDoorQV45
set_option linter.unusedSimpArgs false
set_option linter.unusedVariables false
set_option maxRecDepth 100000
set_option maxHeartbeats 4000000
section
namespace Go.Proofs.YtnnhcbeiogaknaaGreatDoor
open Go.RowKit
def yP (w wc:World) (l:Δ) (v7 v8:Value):Prop:=v8=.int .i64 0∧∃b a n c,v7=.pointer (some ⟨b,0,none⟩)∧wc.cell? ⟨b,0,none⟩=some (.bool false)∧wc.cell? ⟨b,1,none⟩=some (.slice a n c)∧wc.cell? ⟨b,2,none⟩=some (.slice none 0 0)∧Bd wc 0 a n c l∧Below w.heap.size w wc
theorem Blk.drewI {W:World} {b:Nat} {vs:Array Value} {t:TypeId} (h:Blk W b vs t):Blk W.drew b vs t:=h.keep (Below.drew (Ac _ _))
theorem Tq (w:World) (z:Int) (n:Nat) (hz:z=n) (hn:n≤30) (hV:If w) (h7:7<w.heap.size) :
  Θ 28 #[.int .i64 z] w (jC w (Qf n)):=by
 subst hz;exact eE w n hn hV h7
theorem kQ (w:World) (f1:Bool) (a1:Γ) (n1 c1:Nat) (d1:Γ) (m1 e1:Nat) (f2:Bool) (a2:Γ) (n2 c2:Nat) (d2:Γ) (m2 e2:Nat) (x1 x2:RT) (h1:VAt w (.bool f1) (.slice a1 n1 c1) (.slice d1 m1 e1) x1) (h2:VAt w (.bool f2) (.slice a2 n2 c2) (.slice d2 m2 e2) x2) (hc:RT.cntL [x1,x2]≤1048576) (ht:RT.trmL [x1,x2]≤1048576) (N:Nat) (hN:N<256) (hT:Tab w) (hV:If w) (h7:7<w.heap.size) :
  Θ 5 #[.agg #[.bool f1,.slice a1 n1 c1,.slice d1 m1 e1],.agg #[.bool f2,.slice a2 n2 c2,.slice d2 m2 e2],.int .u8 N] w (fun e w'=>e=.returned (.bool true)∧Below w.heap.size w w'):=by
 have HB:=Ac w.heap.size w;have q1:=rA h1;have q2:=rA h2;have HH:=Ae (Ay hT (Ay hV (Ay h1 (Ay h2 (Ay hc ht)))));clear hT hV h1 h2 hc ht;go_enter Tryz.func5,Tryz.ntmps5;go_wp2_with fail;refine Be ?_;intro w1 hw1;have b1:Below w.heap.size w w1:=by rw [hw1];go_grown
 have A1:Blk w1 w.heap.size #[.bool f1,.slice a1 n1 c1,.slice d1 m1 e1] 60:=by rw [hw1];exact ((Bi rfl _ _).alloc _).alloc _
 have E1:Blk w1 (w.heap.size+1) #[.bool f2,.slice a2 n2 c2,.slice d2 m2 e2] 60:=by rw [hw1];exact (Bi qG _ _).alloc _
 have N1:Blk w1 (w.heap.size+1+1) #[.bool f1,.slice a1 n1 c1,.slice d1 m1 e1,.bool f2,.slice a2 n2 c2,.slice d2 m2 e2] 60:=by rw [hw1];exact Bi qG _ _
 clear hw1;refine (kJ w1 (some ⟨w.heap.size+1+1,0,none⟩) 2 2 [x1,x2] rfl qA HH.out.2.2.2.2.1 HH.out.2.2.2.2.2 (.inr ⟨_,_,rfl,by
  rw [Fg,Fg,Fg];exact ⟨⟨_,_,_,N1.cell 0 _ rfl,N1.cell 1 _ rfl,N1.cell 2 _ rfl,VAt.keep b1 HH.out.2.2.1⟩,⟨_,_,_,N1.cell 3 _ rfl,N1.cell 4 _ rfl,N1.cell 5 _ rfl,VAt.keep b1 HH.out.2.2.2.1⟩,trivial⟩⟩)).mono ?_
 rintro e w2 ⟨r,rfl,hr,hb2⟩;have b2:=b1.trans (hb2.mono b1.size);have A2:=A1.keep hb2;have E2:=E1.keep hb2;have HG:=Ae hr;clear hr N1 A1 E1;have y0:=A2.cell 0 _ rfl;have y1:=A2.cell 1 _ rfl;have y2:=A2.cell 2 _ rfl;have z0:=E2.cell 0 _ rfl;have z1:=E2.cell 1 _ rfl;have z2:=E2.cell 2 _ rfl;cases r
 ·go_wp2_with fail;refine (Ov w2 _ _ _ x1 (VAt.keep b2 HH.out.2.2.1)).mono ?_;rintro e w3 ⟨r,rfl,hr,hb3⟩;have HR1:=Ae hr;have b3:=b2.trans (hb3.mono b2.size);clear hr
  (replace y0:=Bc hb3 y0;replace y1:=Bc hb3 y1;replace y2:=Bc hb3 y2;replace z0:=Bc hb3 z0;replace z1:=Bc hb3 z1;replace z2:=Bc hb3 z2)
  cases r
  ·go_wp2_with fail;refine (Lv w3 (HH.out.1.keep b3) (HH.out.2.1.keep b3) (by have:=Below.size b3;omega)).mono ?_;rintro e wl ⟨rfl,hbl⟩;go_wp2_with fail;refine bodyPost_ret (v:=.bool true) (by simp [results,Tryz.results5,go_sem]) rfl ?_;exact ⟨rfl,Al b3 (hbl.mono (Below.size b3))⟩
  ·go_wp2_with fail;refine (Ov w3 _ _ _ x2 (VAt.keep b3 HH.out.2.2.2.1)).mono ?_;rintro e w4 ⟨r,rfl,hr,hb4⟩;have HR2:=Ae hr;have b4:=b3.trans (hb4.mono b3.size);clear hr
   (replace y0:=Bc hb4 y0;replace y1:=Bc hb4 y1;replace y2:=Bc hb4 y2;replace z0:=Bc hb4 z0;replace z1:=Bc hb4 z1;replace z2:=Bc hb4 z2)
   cases r
   ·exact qAu
   ·cases f1
    ·cases f2
     ·by_cases h8:n1+n2≤8
      ·have hgr:=HG.out trivial;obtain ⟨la,sa,hla,va⟩:=nC HH.out.2.2.1 (HR1.out.1 trivial) (hgr x1 qG) qA;obtain ⟨lb,sb,hlb,vb⟩:=nC HH.out.2.2.2.1 (HR2.out.1 rfl) (hgr x2 qG) qA;have hll:la.length+lb.length≤8:=by omega
       have HS:=Ae (Ay sa (Ay sb (Ay hll (Ay va (Ay vb (Ay hla hlb))))));clear sa sb hll va vb hla hlb hgr HG HR1 HR2;go_wp2_with fail;refine (nG (r:=Hx la lb) (HS.out.2.2.2.1.keep b4) (HS.out.2.2.2.2.1.keep b4) (HS.out.1.ok 1) (HS.out.2.1.ok 1) (fun W a n c a' n' c' p q=>jH p HS.out.1.sm q HS.out.2.1.sm)).mono ?_;rintro e w5 ⟨a5,n5,c5,rfl,hP,hb5⟩;have b5:=b4.trans (hb5.mono b4.size);have HP5:=Ae hP;clear hP
       (replace y0:=Bc hb5 y0;replace y1:=Bc hb5 y1;replace y2:=Bc hb5 y2;replace z0:=Bc hb5 z0;replace z1:=Bc hb5 z1;replace z2:=Bc hb5 z2)
       have yl:=Aa _ _ y0;have zl:=Aa _ _ z0;go_wp2_with fail;refine Be ?_;intro w6 hw6;have k6:Below w5.heap.size w5 w6:=by rw [hw6];go_grown
       have S6:Blk w6 w5.heap.size #[.bool false,.slice a5 n5 c5,.slice none 0 0] 60:=by rw [hw6];exact Bi rfl _ _
       clear hw6;have b6:=b5.trans (k6.mono b5.size)
       (replace y0:=Bc k6 y0;replace y1:=Bc k6 y1;replace y2:=Bc k6 y2;replace z0:=Bc k6 z0;replace z1:=Bc k6 z1;replace z2:=Bc k6 z2)
       have VS:Bw w6 0 none (.bool false) (.slice a5 n5 c5) (.slice none 0 0) (.node false (Hx la lb) []):=by
        rw [Bw];exact ⟨rfl,⟨_,_,_,rfl,(HP5.out.mono (Ba _)).keep k6,fun g e=>by cases e⟩,_,_,rfl,by simp,by omega,fun _=>rfl,.inl rfl⟩
       refine (nO (r:=la) VS (HS.out.2.2.2.2.1.keep b6) (sR (rI HS.out.1 HS.out.2.1 HS.out.2.2.1) 1) (HS.out.2.1.ok 1) (fun W a n c a' n' c' p q=>by
        have h1:=lF p (rI HS.out.1 HS.out.2.1 HS.out.2.2.1) q HS.out.2.1.sm;rwa [tV HS.out.1.pw HS.out.2.1.pw] at h1)).mono ?_
       rintro e w7 ⟨a7,n7,c7,rfl,hP,hb7⟩;have b7:=b6.trans (hb7.mono b6.size);have HP7:=Ae hP;clear hP VS
       (replace y0:=Bc hb7 y0;replace y1:=Bc hb7 y1;replace y2:=Bc hb7 y2;replace z0:=Bc hb7 z0;replace z1:=Bc hb7 z1;replace z2:=Bc hb7 z2)
       replace yl:=Aa _ _ y0;replace zl:=Aa _ _ z0;have S7:=S6.keep hb7;have s0:=S7.cell 0 _ rfl;have s1:=S7.cell 1 _ rfl;have s2:=S7.cell 2 _ rfl;have sl:=S7.lt;go_wp2_with fail;refine Be ?_;intro w8 hw8;have k8:Below w7.heap.size w7 w8:=by rw [hw8];go_grown
       clear hw8;have b8:=b7.trans (k8.mono b7.size)
       (replace y0:=Bc k8 y0;replace y1:=Bc k8 y1;replace y2:=Bc k8 y2;replace z0:=Bc k8 z0;replace z1:=Bc k8 z1;replace z2:=Bc k8 z2;replace s0:=Bc k8 s0;replace s1:=Bc k8 s1;replace s2:=Bc k8 s2)
       have hva:=HS.out.2.2.2.1.keep b8;rw [Bw] at hva;obtain ⟨-,⟨_,_,_,eA,hpa,_⟩,_,_,eL,_⟩:=hva;cases eA
       cases eL
       refine (Qe w8 _ _ _ _ _ (HP7.out.keep k8) _ _ _ _ hpa _ _ _ _).mono ?_;rintro e w9 ⟨rfl,hb9⟩;have b9:=b8.trans (hb9.mono b8.size);clear hpa
       (replace y0:=Bc hb9 y0;replace y1:=Bc hb9 y1;replace y2:=Bc hb9 y2;replace z0:=Bc hb9 z0;replace z1:=Bc hb9 z1;replace z2:=Bc hb9 z2)
       replace yl:=Aa _ _ y0;replace zl:=Aa _ _ z0;clear s0 s1 s2 S6 S7 sl k6 k8 HP5 HP7;have hok:=HS.out.1.prod HS.out.2.1;have HOK:=Ae hok;clear hok;go_wp2_with fail;refine (Y7 (r:=En la lb) (HS.out.2.2.2.1.keep b9) (HS.out.2.2.2.2.1.keep b9) (HS.out.1.ok 1) (HS.out.2.1.ok 1) (fun W a n c a' n' c' p q=>Vr (fun W' hW=>oO (p.keep hW) HS.out.1.sm (q.keep hW) HS.out.2.1.sm HOK.out) (by have:=(We HS.out.1 HS.out.2.1 HS.out.2.2.1).len;omega))).mono ?_;rintro e wa ⟨aa,na,ca,rfl,hP,hba⟩;have ba:=b9.trans (hba.mono b9.size);have HPa:=Ae hP;clear hP
       (replace y0:=Bc hba y0;replace y1:=Bc hba y1;replace y2:=Bc hba y2;replace z0:=Bc hba z0;replace z1:=Bc hba z1;replace z2:=Bc hba z2)
       replace yl:=Aa _ _ y0;replace zl:=Aa _ _ z0;go_wp2_with fail;refine Be ?_;intro wb hwb;have kb:Below wa.heap.size wa wb:=by rw [hwb];go_grown
       have M1:Blk wb wa.heap.size #[.bool false,.slice aa na ca,.slice none 0 0] 60:=by rw [hwb];exact Bi rfl _ _
       clear hwb;have bb:=ba.trans (kb.mono ba.size)
       (replace y0:=Bc kb y0;replace y1:=Bc kb y1;replace y2:=Bc kb y2;replace z0:=Bc kb z0;replace z1:=Bc kb z1;replace z2:=Bc kb z2)
       have VM:Bw wb 0 none (.bool false) (.slice aa na ca) (.slice none 0 0) (.node false (En la lb) []):=by
        rw [Bw];exact ⟨rfl,⟨_,_,_,rfl,(HPa.out.mono (Ba _)).keep kb,fun g e=>by cases e⟩,_,_,rfl,by simp,by omega,fun _=>rfl,.inl rfl⟩
       by_cases hne:lb=[]
       ·subst hne;obtain rfl:n2=0:=HS.out.2.2.2.2.2.2.symm;refine (kP VM (HS.out.2.2.2.2.1.keep bb) (sR (We HS.out.1 HS.out.2.1 HS.out.2.2.1) 1) (HS.out.2.1.ok 1)).mono ?_;rintro e wc ⟨rfl,hbc⟩;have bc:=bb.trans (hbc.mono bb.size);clear VM
        (replace y0:=Bc hbc y0;replace y1:=Bc hbc y1;replace y2:=Bc hbc y2;replace z0:=Bc hbc z0;replace z1:=Bc hbc z1;replace z2:=Bc hbc z2)
        replace yl:=Aa _ _ y0;replace zl:=Aa _ _ z0;obtain ⟨k,hk⟩:∃k:Nat,(N:Int)%4=k∧k≤3:=⟨N%4,by omega,by omega⟩;have HK:=Ae hk;clear hk;go_upto_region 12 with fail
        refine Cc ?_;intro wq hwq;have kq:Below wc.heap.size wc wq:=by rw [hwq];go_grown
        clear hwq;have bq:=bc.trans (kq.mono bc.size)
        (replace y0:=Bc kq y0;replace y1:=Bc kq y1;replace y2:=Bc kq y2)
        clear kq z0 z1 z2 zl yl bc;exact qAd
       ·have hn2:(0:Int)<(n2:Int):=by
         have h1:=HS.out.2.2.2.2.2.2;have h2:=List.length_pos_iff.2 hne;omega
        have HNE:=Ae hne;clear hne;refine (rJ (r:=la) VM (HS.out.2.2.2.2.1.keep bb) (sR (We HS.out.1 HS.out.2.1 HS.out.2.2.1) 1) (HS.out.2.1.ok 1) (fun W a n c a' n' c' p q=>iZ p (We HS.out.1 HS.out.2.1 HS.out.2.2.1) q HS.out.2.1.sm HNE.out (iR HS.out.1.pw HS.out.2.1.pw HS.out.1.few HS.out.2.1.few HS.out.2.2.1 HOK.out HNE.out) (by have:=HS.out.1.len;omega))).mono ?_;rintro e wc ⟨ac,nc,cc,rfl,hP,hbc⟩;have bc:=bb.trans (hbc.mono bb.size);have HPc:=Ae hP;clear hP VM
        (replace y0:=Bc hbc y0;replace y1:=Bc hbc y1;replace y2:=Bc hbc y2;replace z0:=Bc hbc z0;replace z1:=Bc hbc z1;replace z2:=Bc hbc z2)
        replace yl:=Aa _ _ y0;replace zl:=Aa _ _ z0;go_wp2_with fail;refine Be ?_;intro wx hwx;have kx:Below wc.heap.size wc wx:=by rw [hwx];go_grown
        clear hwx;have bx:=bc.trans (kx.mono bc.size);have hva:=HS.out.2.2.2.1.keep bx;rw [Bw] at hva;obtain ⟨-,⟨_,_,_,eA,hpa,_⟩,_⟩:=hva;cases eA
        refine (Qe wx _ _ _ _ _ (HPc.out.keep kx) _ _ _ _ hpa _ _ _ _).mono ?_;rintro e wy ⟨rfl,hby⟩;have bw:=bx.trans (hby.mono bx.size);clear hpa
        (replace y0:=Bc kx y0;replace y1:=Bc kx y1;replace y2:=Bc kx y2;replace z0:=Bc kx z0;replace z1:=Bc kx z1;replace z2:=Bc kx z2)
        (replace y0:=Bc hby y0;replace y1:=Bc hby y1;replace y2:=Bc hby y2;replace z0:=Bc hby z0;replace z1:=Bc hby z1;replace z2:=Bc hby z2)
        clear kx hby bx HPc;obtain ⟨k,hk⟩:∃k:Nat,(N:Int)%4=k∧k≤3:=⟨N%4,by omega,by omega⟩;have HK:=Ae hk;clear hk;go_upto_region 12 with fail
        refine Cc ?_;intro wq hwq;have kq:Below wy.heap.size wy wq:=by rw [hwq];go_grown
        clear hwq;have bq:=bw.trans (kq.mono bw.size)
        (replace y0:=Bc kq y0;replace y1:=Bc kq y1;replace y2:=Bc kq y2)
        clear kq z0 z1 z2 zl yl bw;exact qAd
      ·have h8i:(8:Int)<(n1:Int)+(n2:Int):=by omega
       clear h8;exact qAu
     ·exact qAu
    ·exact qAu
 ·go_wp2_with fail;refine (Lv w2 (HH.out.1.keep b2) (HH.out.2.1.keep b2) (by have:=Below.size b2;omega)).mono ?_;rintro e wl ⟨rfl,hbl⟩;go_wp2_with fail;refine bodyPost_ret (v:=.bool true) (by simp [results,Tryz.results5,go_sem]) rfl ?_;exact ⟨rfl,Al b2 (hbl.mono (Below.size b2))⟩
end Go.Proofs.YtnnhcbeiogaknaaGreatDoor
end
