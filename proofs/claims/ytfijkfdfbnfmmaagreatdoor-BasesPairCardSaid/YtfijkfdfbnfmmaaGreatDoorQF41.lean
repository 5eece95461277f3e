/- A book's lists of kinds of which it holds none: filled, grown, looked at. -/
import Derived.Test.YtfijkfdfbnfmmaaGreatDoorQF40
set_option linter.unusedSimpArgs false
set_option linter.unusedVariables false
set_option maxRecDepth 100000
set_option maxHeartbeats 4000000
section
namespace Go.Proofs.YtfijkfdfbnfmmaaGreatDoor
open Go.RowKit Proofs.Tryz
variable (w:World) (K:Nat) {l t:Bool} {B0 B N s H n c m:Nat} {mk:Nat→List Value} {o:Nat→Nat} {S:Nat→Prop} {e:TypeId} {vl vt:Value} {w0 w':World} {a a':Γ} {d:Ξ}
theorem gC (h:Z w K 1 (.slice none 0 0)):Θ 38 #[.pointer (E K)] w fun e w'=>e=.returned (.tuple #[])∧xp w w':=by
 go_enter func38,ntmps38;go_wp2_with fail;go_loopw [2] (fun v wr=>v=M 0∧xp w wr∧Z wr K 1 (.slice none 0 0)) (fun _ _=>0)
 case atStart=>exact ⟨rfl,qD,qG⟩
 case round =>
  obtain ⟨rfl,HB,hc⟩:=hrel;go_wp2_with fail;exact bodyPost_end (v:=.tuple #[]) (by simp [results,results38,go_sem]) rfl ⟨rfl,HB⟩
theorem dJ (h:Z w K 1 (.slice none 0 0)):Θ 50 #[.pointer (E K)] w fun e w'=>e=.returned (.tuple #[])∧xp w w':=by
 go_enter func50,ntmps50;go_wp2_with fail;go_loopw [2] (fun v wr=>v=M 0∧xp w wr∧Z wr K 1 (.slice none 0 0)) (fun _ _=>0)
 case atStart=>exact ⟨rfl,qD,qG⟩
 case round =>
  obtain ⟨rfl,HB,hc⟩:=hrel;go_wp2_with fail;exact bodyPost_end (v:=.tuple #[]) (by simp [results,results50,go_sem]) rfl ⟨rfl,HB⟩
theorem dK (h:Z w K 1 (.slice none 0 0)):Θ 62 #[.pointer (E K)] w fun e w'=>e=.returned (.bool true)∧xp w w':=by
 go_enter func62,ntmps62;go_wp2_with fail;go_loopw [3] (fun v wr=>v=M 0∧xp w wr∧Z wr K 1 (.slice none 0 0)) (fun _ _=>0)
 case atStart=>exact ⟨rfl,qD,qG⟩
 case round =>
  exact qBk
theorem fK (h:Z w K 3 (.slice none 0 0)):Θ 40 #[.pointer (E K)] w fun e w'=>e=.returned (.tuple #[])∧xp w w':=by
 go_enter func40,ntmps40;go_wp2_with fail;go_loopw [2] (fun v wr=>v=M 0∧xp w wr∧Z wr K 3 (.slice none 0 0)) (fun _ _=>0)
 case atStart=>exact ⟨rfl,qD,qG⟩
 case round =>
  obtain ⟨rfl,HB,hc⟩:=hrel;go_wp2_with fail;exact bodyPost_end (v:=.tuple #[]) (by simp [results,results40,go_sem]) rfl ⟨rfl,HB⟩
theorem eK (h:Z w K 3 (.slice none 0 0)):Θ 52 #[.pointer (E K)] w fun e w'=>e=.returned (.tuple #[])∧xp w w':=by
 go_enter func52,ntmps52;go_wp2_with fail;go_loopw [2] (fun v wr=>v=M 0∧xp w wr∧Z wr K 3 (.slice none 0 0)) (fun _ _=>0)
 case atStart=>exact ⟨rfl,qD,qG⟩
 case round =>
  obtain ⟨rfl,HB,hc⟩:=hrel;go_wp2_with fail;exact bodyPost_end (v:=.tuple #[]) (by simp [results,results52,go_sem]) rfl ⟨rfl,HB⟩
theorem eY (h:Z w K 3 (.slice none 0 0)):Θ 64 #[.pointer (E K)] w fun e w'=>e=.returned (.bool true)∧xp w w':=by
 go_enter func64,ntmps64;go_wp2_with fail;go_loopw [3] (fun v wr=>v=M 0∧xp w wr∧Z wr K 3 (.slice none 0 0)) (fun _ _=>0)
 case atStart=>exact ⟨rfl,qD,qG⟩
 case round =>
  exact qBk
theorem Z4 (h:Z w K 4 (.slice none 0 0)):Θ 41 #[.pointer (E K)] w fun e w'=>e=.returned (.tuple #[])∧xp w w':=by
 go_enter func41,ntmps41;go_wp2_with fail;go_loopw [2] (fun v wr=>v=M 0∧xp w wr∧Z wr K 4 (.slice none 0 0)) (fun _ _=>0)
 case atStart=>exact ⟨rfl,qD,qG⟩
 case round =>
  obtain ⟨rfl,HB,hc⟩:=hrel;go_wp2_with fail;exact bodyPost_end (v:=.tuple #[]) (by simp [results,results41,go_sem]) rfl ⟨rfl,HB⟩
theorem aK (h:Z w K 4 (.slice none 0 0)):Θ 53 #[.pointer (E K)] w fun e w'=>e=.returned (.tuple #[])∧xp w w':=by
 go_enter func53,ntmps53;go_wp2_with fail;go_loopw [2] (fun v wr=>v=M 0∧xp w wr∧Z wr K 4 (.slice none 0 0)) (fun _ _=>0)
 case atStart=>exact ⟨rfl,qD,qG⟩
 case round =>
  obtain ⟨rfl,HB,hc⟩:=hrel;go_wp2_with fail;exact bodyPost_end (v:=.tuple #[]) (by simp [results,results53,go_sem]) rfl ⟨rfl,HB⟩
theorem Y9 (h:Z w K 4 (.slice none 0 0)):Θ 65 #[.pointer (E K)] w fun e w'=>e=.returned (.bool true)∧xp w w':=by
 go_enter func65,ntmps65;go_wp2_with fail;go_loopw [3] (fun v wr=>v=M 0∧xp w wr∧Z wr K 4 (.slice none 0 0)) (fun _ _=>0)
 case atStart=>exact ⟨rfl,qD,qG⟩
 case round =>
  exact qBk
theorem kT (h:Z w K 5 (.slice none 0 0)):Θ 42 #[.pointer (E K)] w fun e w'=>e=.returned (.tuple #[])∧xp w w':=by
 go_enter func42,ntmps42;go_wp2_with fail;go_loopw [2] (fun v wr=>v=M 0∧xp w wr∧Z wr K 5 (.slice none 0 0)) (fun _ _=>0)
 case atStart=>exact ⟨rfl,qD,qG⟩
 case round =>
  obtain ⟨rfl,HB,hc⟩:=hrel;go_wp2_with fail;exact bodyPost_end (v:=.tuple #[]) (by simp [results,results42,go_sem]) rfl ⟨rfl,HB⟩
theorem mC (h:Z w K 5 (.slice none 0 0)):Θ 54 #[.pointer (E K)] w fun e w'=>e=.returned (.tuple #[])∧xp w w':=by
 go_enter func54,ntmps54;go_wp2_with fail;go_loopw [2] (fun v wr=>v=M 0∧xp w wr∧Z wr K 5 (.slice none 0 0)) (fun _ _=>0)
 case atStart=>exact ⟨rfl,qD,qG⟩
 case round =>
  obtain ⟨rfl,HB,hc⟩:=hrel;go_wp2_with fail;exact bodyPost_end (v:=.tuple #[]) (by simp [results,results54,go_sem]) rfl ⟨rfl,HB⟩
theorem lZ (h:Z w K 5 (.slice none 0 0)):Θ 66 #[.pointer (E K)] w fun e w'=>e=.returned (.bool true)∧xp w w':=by
 go_enter func66,ntmps66;go_wp2_with fail;go_loopw [3] (fun v wr=>v=M 0∧xp w wr∧Z wr K 5 (.slice none 0 0)) (fun _ _=>0)
 case atStart=>exact ⟨rfl,qD,qG⟩
 case round =>
  exact qBk
theorem Xk (h:Z w K 7 (.slice none 0 0)):Θ 44 #[.pointer (E K)] w fun e w'=>e=.returned (.tuple #[])∧xp w w':=by
 go_enter func44,ntmps44;go_wp2_with fail;go_loopw [2] (fun v wr=>v=M 0∧xp w wr∧Z wr K 7 (.slice none 0 0)) (fun _ _=>0)
 case atStart=>exact ⟨rfl,qD,qG⟩
 case round =>
  obtain ⟨rfl,HB,hc⟩:=hrel;go_wp2_with fail;exact bodyPost_end (v:=.tuple #[]) (by simp [results,results44,go_sem]) rfl ⟨rfl,HB⟩
theorem Xx (h:Z w K 7 (.slice none 0 0)):Θ 56 #[.pointer (E K)] w fun e w'=>e=.returned (.tuple #[])∧xp w w':=by
 go_enter func56,ntmps56;go_wp2_with fail;go_loopw [2] (fun v wr=>v=M 0∧xp w wr∧Z wr K 7 (.slice none 0 0)) (fun _ _=>0)
 case atStart=>exact ⟨rfl,qD,qG⟩
 case round =>
  obtain ⟨rfl,HB,hc⟩:=hrel;go_wp2_with fail;exact bodyPost_end (v:=.tuple #[]) (by simp [results,results56,go_sem]) rfl ⟨rfl,HB⟩
theorem Xf (h:Z w K 7 (.slice none 0 0)):Θ 68 #[.pointer (E K)] w fun e w'=>e=.returned (.bool true)∧xp w w':=by
 go_enter func68,ntmps68;go_wp2_with fail;go_loopw [3] (fun v wr=>v=M 0∧xp w wr∧Z wr K 7 (.slice none 0 0)) (fun _ _=>0)
 case atStart=>exact ⟨rfl,qD,qG⟩
 case round =>
  exact qBk
theorem bZ (h:Z w K 8 (.slice none 0 0)):Θ 45 #[.pointer (E K)] w fun e w'=>e=.returned (.tuple #[])∧xp w w':=by
 go_enter func45,ntmps45;go_wp2_with fail;go_loopw [2] (fun v wr=>v=M 0∧xp w wr∧Z wr K 8 (.slice none 0 0)) (fun _ _=>0)
 case atStart=>exact ⟨rfl,qD,qG⟩
 case round =>
  obtain ⟨rfl,HB,hc⟩:=hrel;go_wp2_with fail;exact bodyPost_end (v:=.tuple #[]) (by simp [results,results45,go_sem]) rfl ⟨rfl,HB⟩
theorem dF (h:Z w K 8 (.slice none 0 0)):Θ 57 #[.pointer (E K)] w fun e w'=>e=.returned (.tuple #[])∧xp w w':=by
 go_enter func57,ntmps57;go_wp2_with fail;go_loopw [2] (fun v wr=>v=M 0∧xp w wr∧Z wr K 8 (.slice none 0 0)) (fun _ _=>0)
 case atStart=>exact ⟨rfl,qD,qG⟩
 case round =>
  obtain ⟨rfl,HB,hc⟩:=hrel;go_wp2_with fail;exact bodyPost_end (v:=.tuple #[]) (by simp [results,results57,go_sem]) rfl ⟨rfl,HB⟩
theorem eN (h:Z w K 8 (.slice none 0 0)):Θ 69 #[.pointer (E K)] w fun e w'=>e=.returned (.bool true)∧xp w w':=by
 go_enter func69,ntmps69;go_wp2_with fail;go_loopw [3] (fun v wr=>v=M 0∧xp w wr∧Z wr K 8 (.slice none 0 0)) (fun _ _=>0)
 case atStart=>exact ⟨rfl,qD,qG⟩
 case round =>
  exact qBk
theorem cF (h:Z w K 9 (.slice none 0 0)):Θ 46 #[.pointer (E K)] w fun e w'=>e=.returned (.tuple #[])∧xp w w':=by
 go_enter func46,ntmps46;go_wp2_with fail;go_loopw [2] (fun v wr=>v=M 0∧xp w wr∧Z wr K 9 (.slice none 0 0)) (fun _ _=>0)
 case atStart=>exact ⟨rfl,qD,qG⟩
 case round =>
  obtain ⟨rfl,HB,hc⟩:=hrel;go_wp2_with fail;exact bodyPost_end (v:=.tuple #[]) (by simp [results,results46,go_sem]) rfl ⟨rfl,HB⟩
theorem cK (h:Z w K 9 (.slice none 0 0)):Θ 58 #[.pointer (E K)] w fun e w'=>e=.returned (.tuple #[])∧xp w w':=by
 go_enter func58,ntmps58;go_wp2_with fail;go_loopw [2] (fun v wr=>v=M 0∧xp w wr∧Z wr K 9 (.slice none 0 0)) (fun _ _=>0)
 case atStart=>exact ⟨rfl,qD,qG⟩
 case round =>
  obtain ⟨rfl,HB,hc⟩:=hrel;go_wp2_with fail;exact bodyPost_end (v:=.tuple #[]) (by simp [results,results58,go_sem]) rfl ⟨rfl,HB⟩
theorem dH (h:Z w K 9 (.slice none 0 0)):Θ 70 #[.pointer (E K)] w fun e w'=>e=.returned (.bool true)∧xp w w':=by
 go_enter func70,ntmps70;go_wp2_with fail;go_loopw [3] (fun v wr=>v=M 0∧xp w wr∧Z wr K 9 (.slice none 0 0)) (fun _ _=>0)
 case atStart=>exact ⟨rfl,qD,qG⟩
 case round =>
  exact qBk
theorem bJ (h:Z w K 10 (.slice none 0 0)):Θ 47 #[.pointer (E K)] w fun e w'=>e=.returned (.tuple #[])∧xp w w':=by
 go_enter func47,ntmps47;go_wp2_with fail;go_loopw [2] (fun v wr=>v=M 0∧xp w wr∧Z wr K 10 (.slice none 0 0)) (fun _ _=>0)
 case atStart=>exact ⟨rfl,qD,qG⟩
 case round =>
  obtain ⟨rfl,HB,hc⟩:=hrel;go_wp2_with fail;exact bodyPost_end (v:=.tuple #[]) (by simp [results,results47,go_sem]) rfl ⟨rfl,HB⟩
theorem Zw (h:Z w K 10 (.slice none 0 0)):Θ 59 #[.pointer (E K)] w fun e w'=>e=.returned (.tuple #[])∧xp w w':=by
 go_enter func59,ntmps59;go_wp2_with fail;go_loopw [2] (fun v wr=>v=M 0∧xp w wr∧Z wr K 10 (.slice none 0 0)) (fun _ _=>0)
 case atStart=>exact ⟨rfl,qD,qG⟩
 case round =>
  obtain ⟨rfl,HB,hc⟩:=hrel;go_wp2_with fail;exact bodyPost_end (v:=.tuple #[]) (by simp [results,results59,go_sem]) rfl ⟨rfl,HB⟩
theorem aJ (h:Z w K 10 (.slice none 0 0)):Θ 71 #[.pointer (E K)] w fun e w'=>e=.returned (.bool true)∧xp w w':=by
 go_enter func71,ntmps71;go_wp2_with fail;go_loopw [3] (fun v wr=>v=M 0∧xp w wr∧Z wr K 10 (.slice none 0 0)) (fun _ _=>0)
 case atStart=>exact ⟨rfl,qD,qG⟩
 case round =>
  exact qBk
theorem Zn (h:Z w K 11 (.slice none 0 0)):Θ 48 #[.pointer (E K)] w fun e w'=>e=.returned (.tuple #[])∧xp w w':=by
 go_enter func48,ntmps48;go_wp2_with fail;go_loopw [2] (fun v wr=>v=M 0∧xp w wr∧Z wr K 11 (.slice none 0 0)) (fun _ _=>0)
 case atStart=>exact ⟨rfl,qD,qG⟩
 case round =>
  obtain ⟨rfl,HB,hc⟩:=hrel;go_wp2_with fail;exact bodyPost_end (v:=.tuple #[]) (by simp [results,results48,go_sem]) rfl ⟨rfl,HB⟩
theorem bU (h:Z w K 11 (.slice none 0 0)):Θ 60 #[.pointer (E K)] w fun e w'=>e=.returned (.tuple #[])∧xp w w':=by
 go_enter func60,ntmps60;go_wp2_with fail;go_loopw [2] (fun v wr=>v=M 0∧xp w wr∧Z wr K 11 (.slice none 0 0)) (fun _ _=>0)
 case atStart=>exact ⟨rfl,qD,qG⟩
 case round =>
  obtain ⟨rfl,HB,hc⟩:=hrel;go_wp2_with fail;exact bodyPost_end (v:=.tuple #[]) (by simp [results,results60,go_sem]) rfl ⟨rfl,HB⟩
theorem Zh (h:Z w K 11 (.slice none 0 0)):Θ 72 #[.pointer (E K)] w fun e w'=>e=.returned (.bool true)∧xp w w':=by
 go_enter func72,ntmps72;go_wp2_with fail;go_loopw [3] (fun v wr=>v=M 0∧xp w wr∧Z wr K 11 (.slice none 0 0)) (fun _ _=>0)
 case atStart=>exact ⟨rfl,qD,qG⟩
 case round =>
  exact qBk
theorem Zs (h:Z w K 12 (.slice none 0 0)):Θ 49 #[.pointer (E K)] w fun e w'=>e=.returned (.tuple #[])∧xp w w':=by
 go_enter func49,ntmps49;go_wp2_with fail;go_loopw [2] (fun v wr=>v=M 0∧xp w wr∧Z wr K 12 (.slice none 0 0)) (fun _ _=>0)
 case atStart=>exact ⟨rfl,qD,qG⟩
 case round =>
  obtain ⟨rfl,HB,hc⟩:=hrel;go_wp2_with fail;exact bodyPost_end (v:=.tuple #[]) (by simp [results,results49,go_sem]) rfl ⟨rfl,HB⟩
theorem aW (h:Z w K 12 (.slice none 0 0)):Θ 61 #[.pointer (E K)] w fun e w'=>e=.returned (.tuple #[])∧xp w w':=by
 go_enter func61,ntmps61;go_wp2_with fail;go_loopw [2] (fun v wr=>v=M 0∧xp w wr∧Z wr K 12 (.slice none 0 0)) (fun _ _=>0)
 case atStart=>exact ⟨rfl,qD,qG⟩
 case round =>
  obtain ⟨rfl,HB,hc⟩:=hrel;go_wp2_with fail;exact bodyPost_end (v:=.tuple #[]) (by simp [results,results61,go_sem]) rfl ⟨rfl,HB⟩
theorem bT (h:Z w K 12 (.slice none 0 0)):Θ 73 #[.pointer (E K)] w fun e w'=>e=.returned (.bool true)∧xp w w':=by
 go_enter func73,ntmps73;go_wp2_with fail;go_loopw [3] (fun v wr=>v=M 0∧xp w wr∧Z wr K 12 (.slice none 0 0)) (fun _ _=>0)
 case atStart=>exact ⟨rfl,qD,qG⟩
 case round =>
  exact qBk
structure BkF (w0 w:World) (B0 B N:Nat) (Rl Rt:List (Hl×Value)) (l t:Bool):Prop where
 bk:Ck w B0 B N Rl Rt
 bs:Ec (fun g=>B0≤g) w0 w
 fl:l=true→∀p∈Rl,Dr w 1 mkL p.1.b p.1.n p.1.m
 ft:t=true→∀p∈Rt,Dr w 8 mkT p.1.b p.1.n p.1.m
theorem BkF.keep {w:World} {Rl Rt:List (Hl×Value)} (h:BkF w0 w B0 B N Rl Rt l t) (hb:xp w w'):BkF w0 w' B0 B N Rl Rt l t :=
 ⟨h.bk.keep hb,Fc h.bs hb,fun e p hp=>(h.fl e p hp).keep hb (by simp [mkL]) qB,fun e p hp=>(h.ft e p hp).keep hb (by simp [mkT]) qB⟩
theorem Ys {w:World} {R:List (Hl×Value)} (hR:∀p∈R,Dn w e s B0 B p.1) (g:Nat) (h:inR R g):B0≤g:=by
 obtain ⟨p,hp,hc,rfl⟩:=h;rcases (hR p hp).lies with h0|⟨_,h2,_⟩
 ·exact absurd h0 hc
 ·exact h2
theorem BkF.limbs {w:World} {Rl Rt:List (Hl×Value)} (h:BkF w0 w B0 B N Rl Rt false t) (hB:Ck w' B0 B N Rl Rt) (hF:∀p∈Rl,Dr w' 1 mkL p.1.b p.1.n p.1.m) (hS:Ec (inR Rl) w w'):BkF w0 w' B0 B N Rl Rt true t :=
 ⟨hB,h.bs.trans (hS.wide (Ys h.bk.hl)),fun _=>hF,fun e p hp=>(h.ft e p hp).congr ((h.bk.ht p hp).nb.imp id fun h1=>hS.block _ (by have h2:B<w.heap.size:=Aa _ _ h.bk.c0;have:=h1.2;omega) ((h.bk.ht p hp).other h.bk.hl qI h1.1))⟩
theorem BkF.terms {w:World} {Rl Rt:List (Hl×Value)} (h:BkF w0 w B0 B N Rl Rt l false) (hB:Ck w' B0 B N Rl Rt) (hF:∀p∈Rt,Dr w' 8 mkT p.1.b p.1.n p.1.m) (hS:Ec (inR Rt) w w'):BkF w0 w' B0 B N Rl Rt l true :=
 ⟨hB,h.bs.trans (hS.wide (Ys h.bk.ht)),fun e p hp=>(h.fl e p hp).congr ((h.bk.hl p hp).nb.imp id fun h1=>hS.block _ (by have h2:B<w.heap.size:=Aa _ _ h.bk.c0;have:=h1.2;omega) ((h.bk.hl p hp).other h.bk.ht qI h1.1)),fun _=>hF⟩
structure BkB (w0 w:World) (H B0 B:Nat) (vl vt:Value) (R' Rt:List (Hl×Value)):Prop where
 nl:∀j,j=1∨(3≤j∧j≤5)∨(7≤j∧j≤12)→Z w B j (.slice none 0 0)
 c2:Z w B 2 vl
 ol:w.ownsRow (B+1) 128 3 vl R'.length (Dm R')
 gl:∀p∈R',F6 w 1 mkL H p.1 p.2
 c6:Z w B 6 vt
 ot:w.ownsRow (B+1) 122 3 vt Rt.length (Dm Rt)
 ht:∀p∈Rt,Dn w 58 8 B0 B p.1
 ft:∀p∈Rt,Dr w 8 mkT p.1.b p.1.n p.1.m
 bs:Ec (fun g=>B0≤g) w0 w
 hH:B<H∧H≤w.heap.size
 vH:∀k,vt.ownBlock=some k→k<H
 nb:∀p∈R',p.1.n=0∨(p.1.c≠0∧p.1.b<B)
 lb:∀p∈R',p.1.c≠0→p.1.b<B
 ap:∀p∈R',p.1.c≠0→¬inR Rt p.1.b
theorem BkB.keep {w:World} {R' Rt:List (Hl×Value)} (h:BkB w0 w H B0 B vl vt R' Rt) (hb:xp w w'):BkB w0 w' H B0 B vl vt R' Rt :=
 ⟨fun j hj=>Bb hb (h.nl j hj),Bb hb h.c2,Bf h.ol hb,fun p hp=>(h.gl p hp).keepS (Fp hb (fun _=>False)) ((h.nb p hp).imp id fun h1=>⟨by have:=h.hH;have:=h1.2;omega,id⟩) (fun _=>id) (fun _ _ _=>id),Bb hb h.c6,Bf h.ot hb,fun p hp=>(h.ht p hp).keep hb,fun p hp=>(h.ft p hp).keep hb (by simp [mkT]) qB,Fc h.bs hb,⟨h.hH.1,Ah h.hH.2 hb.size⟩,h.vH,h.nb,h.lb,h.ap⟩
structure BkC (w0 w:World) (H H' B0 B:Nat) (vl vt:Value) (R' KA:List (Hl×Value)):Prop where
 nl:∀j,j=1∨(3≤j∧j≤5)∨(7≤j∧j≤12)→Z w B j (.slice none 0 0)
 c2:Z w B 2 vl
 ol:w.ownsRow (B+1) 128 3 vl R'.length (Dm R')
 gl:∀p∈R',F6 w 1 mkL H p.1 p.2
 c6:Z w B 6 vt
 ot:w.ownsRow (B+1) 122 3 vt KA.length (Dm KA)
 gt:∀p∈KA,F6 w 8 mkT H' p.1 p.2
 bs:Ec (fun g=>B0≤g) w0 w
 hB:B<w.heap.size
 nb:∀p∈R',p.1.n=0∨(p.1.c≠0∧p.1.b<B)
 nb':∀p∈KA,p.1.n=0∨(p.1.c≠0∧p.1.b<B)
theorem Tc {w:World} {R:List (Hl×Value)} (h:∀p∈R,F6 w s mk H p.1 p.2) (hb:xp w w') (hB:B<w.heap.size) (nb:∀p∈R,p.1.n=0∨(p.1.c≠0∧p.1.b<B)):∀p∈R,F6 w' s mk H p.1 p.2:=fun p hp =>
 (h p hp).keepS (Fp hb (fun _=>False)) ((nb p hp).imp id fun h1=>⟨by have:=h1.2;omega,id⟩) (fun _=>id) (fun _ _ _=>id)
theorem BkC.keep {w:World} {H':Nat} {R' KA:List (Hl×Value)} (h:BkC w0 w H H' B0 B vl vt R' KA) (hb:xp w w'):BkC w0 w' H H' B0 B vl vt R' KA :=
 ⟨fun j hj=>Bb hb (h.nl j hj),Bb hb h.c2,Bf h.ol hb,Tc h.gl hb h.hB h.nb,Bb hb h.c6,Bf h.ot hb,Tc h.gt hb h.hB h.nb',Fc h.bs hb,Nat.lt_of_lt_of_le h.hB hb.size,h.nb,h.nb'⟩
theorem V4 {w:World} {base:Nat} {v:Value} {xs:List Value} (h:w.ownsRow base e s v n xs) (hb:Ec S w w') (hS:∀g,v.ownBlock=some g→¬S g):w'.ownsRow base e s v n xs:=by
 refine ⟨h.1,h.2.imp id fun⟨g,cap,cur,h1,h2,h3,h4⟩=>⟨g,cap,cur,h1,h2,?_,h4⟩⟩;rw [hb.block g (Ar.1 h3).1 (hS g (by rw [h1];rfl))];exact h3
theorem Jg {w:World} {R R0:List (Hl×Value)} (hm:R.map (·.1)=R0.map (·.1)) (hg:∀p∈R,F6 w s mk H p.1 p.2) (h0:∀p∈R0,p.1.n≤1000000∧(p.1.n=0∨p.1.a=some ⟨p.1.b,0,none⟩)∧p.1.m<1000000000) :
  ∀p∈R,∃g c,p.2=.slice (E g) (p.1.n+40) c∧bY w s mk p.1 g c:=fun p hp=>by
 obtain ⟨hF,g,c,hv,_,BL,_⟩:=hg p hp;have hx:p.1∈R0.map (·.1):=by rw [←hm];exact List.mem_map.2 ⟨p,hp,rfl⟩
 obtain ⟨q,hq,e⟩:=List.mem_map.1 hx;have:=h0 q hq;rw [e] at this;exact ⟨g,c,hv,this.1,this.2.1,this.2.2,hF,BL⟩
theorem Dn.addr {w:World} {h:Hl} (hh:Dn w e s B0 B h):h.n=0∨h.a=some ⟨h.b,0,none⟩:=by
 rcases hh.lies with h0|⟨h1,_⟩
 ·have:=hh.le;exact .inl qB
 ·exact .inr h1
theorem Sq {R R0:List (Hl×Value)} (hm:R.map (·.1)=R0.map (·.1)) {P:Hl→Prop} (h:∀p∈R0,P p.1):∀p∈R,P p.1:=fun p hp=>by
 have hx:p.1∈R0.map (·.1):=by rw [←hm];exact List.mem_map.2 ⟨p,hp,rfl⟩
 obtain ⟨q,hq,e⟩:=List.mem_map.1 hx;rw [←e];exact h q hq
theorem uV (B0 B N:Nat) (Rl Rt:List (Hl×Value)) (h:Ck w B0 B N Rl Rt) (hzl:∀p∈Rl,p.2=.slice none 0 0) (hzt:∀p∈Rt,p.2=.slice none 0 0) (AY:∀p∈Rl,p.1.m<1000000000) (hmt:∀p∈Rt,p.1.m<1000000000) (ky:Rl.length<1000000000) (PR:Rt.length<1000000000) (hB0:B0≤B) :
  Θ 12 #[.pointer (E B)] w fun e w'=>e=.returned (.bool true)∧Ec (fun g=>B0≤g) w w':=by
 have hA:Hid (BkF w w B0 B N Rl Rt false false):=Ae ⟨h,Hm _ _,fun e=>(by cases e),fun e=>(by cases e)⟩;have HZL:=Ae hzl;have HZT:=Ae hzt;have HML:=Ae AY;have HMT:=Ae hmt;clear h hzl hzt AY hmt;go_enter func12,ntmps12;go_wp2_with (first
  | (go_at_call 38;refine (gC _ B (hA.out.bk.nl 1 qB)).mono ?_;rintro e w1 ⟨rfl,hb⟩;replace hA:=Ae (hA.out.keep hb))
  | (go_at_call 39;refine (dC _ B0 B N Rl Rt hA.out.bk HZL.out HML.out ky).mono ?_;rintro e w1 ⟨rfl,br,bp,ea⟩;replace hA:=Ae (hA.out.limbs br bp ea);clear br bp ea)
  | (go_at_call 40;refine (fK _ B (hA.out.bk.nl 3 qB)).mono ?_;rintro e w1 ⟨rfl,hb⟩;replace hA:=Ae (hA.out.keep hb))
  | (go_at_call 41;refine (Z4 _ B (hA.out.bk.nl 4 qB)).mono ?_;rintro e w1 ⟨rfl,hb⟩;replace hA:=Ae (hA.out.keep hb))
  | (go_at_call 42;refine (kT _ B (hA.out.bk.nl 5 qB)).mono ?_;rintro e w1 ⟨rfl,hb⟩;replace hA:=Ae (hA.out.keep hb))
  | (go_at_call 43;refine (eS _ B0 B N Rl Rt hA.out.bk HZT.out HMT.out PR).mono ?_;rintro e w1 ⟨rfl,br,bp,ea⟩;replace hA:=Ae (hA.out.terms br bp ea);clear br bp ea)
  | (go_at_call 44;refine (Xk _ B (hA.out.bk.nl 7 qB)).mono ?_;rintro e w1 ⟨rfl,hb⟩;replace hA:=Ae (hA.out.keep hb))
  | (go_at_call 45;refine (bZ _ B (hA.out.bk.nl 8 qB)).mono ?_;rintro e w1 ⟨rfl,hb⟩;replace hA:=Ae (hA.out.keep hb))
  | (go_at_call 46;refine (cF _ B (hA.out.bk.nl 9 qB)).mono ?_;rintro e w1 ⟨rfl,hb⟩;replace hA:=Ae (hA.out.keep hb))
  | (go_at_call 47;refine (bJ _ B (hA.out.bk.nl 10 qB)).mono ?_;rintro e w1 ⟨rfl,hb⟩;replace hA:=Ae (hA.out.keep hb))
  | (go_at_call 48;refine (Zn _ B (hA.out.bk.nl 11 qB)).mono ?_;rintro e w1 ⟨rfl,hb⟩;replace hA:=Ae (hA.out.keep hb))
  | (go_at_call 49;refine (Zs _ B (hA.out.bk.nl 12 qB)).mono ?_;rintro e w1 ⟨rfl,hb⟩;replace hA:=Ae (hA.out.keep hb))
  | (go_at_call 50;refine (dJ _ B (hA.out.bk.nl 1 qB)).mono ?_;rintro e w1 ⟨rfl,hb⟩;replace hA:=Ae (hA.out.keep hb)))
 obtain ⟨vl,c2,ol⟩:=hA.out.bk.l;obtain ⟨vt,c6,ot⟩:=hA.out.bk.t;have pd:B<w1.heap.size:=Aa _ _ c2;have HAT:=Ae hA.out.bk.at';have HA:=hA.out.bk;refine (cS w1 B0 B Rl HA.hl HA.al (hA.out.fl rfl) HZL.out HML.out ky vl c2 ol).mono ?_;rintro e w2 ⟨rfl,R',JY,ol',gl',xw⟩;have ap8:R'.length=Rl.length:=by have:=congrArg List.length JY;simpa using this
 have hB:Hid (BkB w w2 w1 B0 B vl vt R' Rt):=Ae (by
  have gv:=Mh ol;have nB:¬(inR Rl B∨vl.ownBlock=some B):=fun e=>e.elim (Kh HA.hl B (Ad _)) (fun e=>by have:=gv _ e;omega)
  have hc:∀j,w2.cell? ⟨B,j,none⟩=w1.cell? (J B j):=fun j=>Af (a:=⟨B,j,none⟩) (xw.block B pd nB)
  have nt:∀p∈Rt,p.1.c≠0→¬(inR Rl p.1.b∨vl.ownBlock=some p.1.b):=fun p hp h0 e=>e.elim ((HA.ht p hp).other HA.hl qI h0) (fun e=>by have:=gv _ e;have:=(HA.ht p hp).lt h0;omega)
  refine ⟨fun j hj=>(hc j).trans (HA.nl j hj),(hc 2).trans c2,by rw [ap8];exact ol',gl',(hc 6).trans c6,V4 ot xw (fun g hg e=>e.elim (Kh HA.hl g (Nat.le_of_lt (Mh ot g hg))) (fun e=>?_)),fun p hp=>(HA.ht p hp).kept fun h0=>xw.block _ (by have:=(HA.ht p hp).lt h0;omega) (nt p hp h0),fun p hp=>(hA.out.ft rfl p hp).congr ((HA.ht p hp).nb.imp id fun h1=>xw.block _ (by have:=h1.2;omega) (nt p hp h1.1)),hA.out.bs.trans (xw.wide fun g e=>e.elim (Ys HA.hl g) (fun e=>by have:=gv _ e;omega)),⟨pd,xw.size⟩,fun k hk=>(ot.lt k hk).2,Sq JY (P:=fun q=>q.n=0∨(q.c≠0∧q.b<B)) (fun p hp=>(HA.hl p hp).nb),Sq JY (P:=fun q=>q.c≠0→q.b<B) (fun p hp h0=>(HA.hl p hp).lt h0),Sq JY (P:=fun q=>q.c≠0→¬inR Rt q.b) (fun p hp h0=>(HA.hl p hp).other HA.ht qI h0)⟩;rcases Mn ot ol qI with h1|h1
  ·rw [hg] at h1;cases h1
  ·rw [hg] at h1;exact h1 e.symm)
 have HL0:=Ae (Jg (R:=R') (R0:=Rl) (w:=w2) JY gl' (fun p hp=>⟨(HA.hl p hp).few,(HA.hl p hp).addr,HML.out p hp⟩));have HM':=Ae JY;have HN':=Ae (fun p hp=>(⟨(HA.hl p hp).few,(HA.hl p hp).addr,HML.out p hp⟩:p.1.n≤1000000∧(p.1.n=0∨p.1.a=some ⟨p.1.b,0,none⟩)∧p.1.m<1000000000):∀p∈Rl,_);clear ol' gl' xw JY c2 ol c6 ot HA hA HL0;go_wp2_with (first
  | (go_at_call 52;refine (eK _ B (hB.out.nl 3 qB)).mono ?_;rintro e w3 ⟨rfl,hb⟩;replace hB:=Ae (hB.out.keep hb))
  | (go_at_call 53;refine (aK _ B (hB.out.nl 4 qB)).mono ?_;rintro e w3 ⟨rfl,hb⟩;replace hB:=Ae (hB.out.keep hb))
  | (go_at_call 54;refine (mC _ B (hB.out.nl 5 qB)).mono ?_;rintro e w3 ⟨rfl,hb⟩;replace hB:=Ae (hB.out.keep hb)))
 have agk:B<w3.heap.size:=Aa _ _ hB.out.c6;have HT0:=Ae (fun p hp=>(⟨(hB.out.ht p hp).few,(hB.out.ht p hp).addr,HMT.out p hp⟩:p.1.n≤1000000∧(p.1.n=0∨p.1.a=some ⟨p.1.b,0,none⟩)∧p.1.m<1000000000):∀p∈Rt,_);refine (dQ w3 B0 B Rt hB.out.ht HAT.out hB.out.ft HZT.out HMT.out PR vt hB.out.c6 hB.out.ot).mono ?_;rintro e w4 ⟨rfl,KA,RR,agl,agm,IX⟩;have ap9:KA.length=Rt.length:=by have:=congrArg List.length RR;simpa using this
 have hC:Hid (BkC w w4 w1 w3 B0 B vl vt R' KA):=Ae (by
  have hb:=hB.out;have gv:=Mh hb.ot;have nB:¬(inR Rt B∨vt.ownBlock=some B):=fun e=>e.elim (Kh hb.ht B (Ad _)) (fun e=>by have:=gv _ e;omega)
  have hc:∀j,w4.cell? ⟨B,j,none⟩=w3.cell? (J B j):=fun j=>Af (a:=⟨B,j,none⟩) (IX.block B agk nB)
  have nl:∀p∈R',p.1.c≠0→¬(inR Rt p.1.b∨vt.ownBlock=some p.1.b):=fun p hp h0 e=>e.elim (hb.ap p hp h0) (fun e=>by have:=gv _ e;have:=hb.lb p hp h0;omega)
  refine ⟨fun j hj=>(hc j).trans (hb.nl j hj),(hc 2).trans hb.c2,V4 hb.ol IX (fun g hg e=>e.elim (Kh hb.ht g (Nat.le_of_lt (Mh hb.ol g hg))) (fun e=>?_)),fun p hp=>(hb.gl p hp).keepS IX ((hb.nb p hp).imp id fun h1=>⟨by have:=h1.2;omega,nl p hp h1.1⟩) (nl p hp) (fun g hg _ e=>e.elim (fun e=>by have h9:=Kh hb.ht g;have:=hb.hH.1;exact h9 qB e) (fun e=>by have:=hb.vH g e;omega)),(hc 6).trans hb.c6,by rw [ap9];exact agl,agm,hb.bs.trans (IX.wide fun g e=>e.elim (Ys hb.ht g) (fun e=>by have:=gv _ e;omega)),Nat.lt_of_lt_of_le agk IX.size,hb.nb,Sq RR (P:=fun q=>q.n=0∨(q.c≠0∧q.b<B)) (fun p hp=>(hb.ht p hp).nb)⟩;rcases Mn hb.ol hb.ot qI with h1|h1
  ·rw [hg] at h1;cases h1
  ·rw [hg] at h1;exact h1 e.symm)
 have aqa:=Ae RR;clear agl agm IX RR hB;go_wp2_with (first
  | (go_at_call 56;refine (Xx _ B (hC.out.nl 7 qB)).mono ?_;rintro e w5 ⟨rfl,hb⟩;replace hC:=Ae (hC.out.keep hb))
  | (go_at_call 57;refine (dF _ B (hC.out.nl 8 qB)).mono ?_;rintro e w5 ⟨rfl,hb⟩;replace hC:=Ae (hC.out.keep hb))
  | (go_at_call 58;refine (cK _ B (hC.out.nl 9 qB)).mono ?_;rintro e w5 ⟨rfl,hb⟩;replace hC:=Ae (hC.out.keep hb))
  | (go_at_call 59;refine (Zw _ B (hC.out.nl 10 qB)).mono ?_;rintro e w5 ⟨rfl,hb⟩;replace hC:=Ae (hC.out.keep hb))
  | (go_at_call 60;refine (bU _ B (hC.out.nl 11 qB)).mono ?_;rintro e w5 ⟨rfl,hb⟩;replace hC:=Ae (hC.out.keep hb))
  | (go_at_call 61;refine (aW _ B (hC.out.nl 12 qB)).mono ?_;rintro e w5 ⟨rfl,hb⟩;replace hC:=Ae (hC.out.keep hb)))
 have BF:R'.length<1000000000:=by have:=congrArg List.length HM'.out;simp at this;omega
 have JI:KA.length<1000000000:=qB;go_wp2_with (first
  | (go_at_call 62;refine (dK _ B (hC.out.nl 1 qB)).mono ?_;rintro e w5 ⟨rfl,hb⟩;replace hC:=Ae (hC.out.keep hb))
  | (go_at_call 63;refine (cZ _ B 0 vl R' hC.out.c2 hC.out.ol BF (Jg HM'.out hC.out.gl HN'.out)).mono ?_;rintro e w5 ⟨rfl,hb⟩;replace hC:=Ae (hC.out.keep hb))
  | (go_at_call 64;refine (eY _ B (hC.out.nl 3 qB)).mono ?_;rintro e w5 ⟨rfl,hb⟩;replace hC:=Ae (hC.out.keep hb))
  | (go_at_call 65;refine (Y9 _ B (hC.out.nl 4 qB)).mono ?_;rintro e w5 ⟨rfl,hb⟩;replace hC:=Ae (hC.out.keep hb))
  | (go_at_call 66;refine (lZ _ B (hC.out.nl 5 qB)).mono ?_;rintro e w5 ⟨rfl,hb⟩;replace hC:=Ae (hC.out.keep hb))
  | (go_at_call 67;refine (fW _ B 0 vt KA hC.out.c6 hC.out.ot JI (Jg aqa.out hC.out.gt HT0.out)).mono ?_;rintro e w5 ⟨rfl,hb⟩;replace hC:=Ae (hC.out.keep hb))
  | (go_at_call 68;refine (Xf _ B (hC.out.nl 7 qB)).mono ?_;rintro e w5 ⟨rfl,hb⟩;replace hC:=Ae (hC.out.keep hb))
  | (go_at_call 69;refine (eN _ B (hC.out.nl 8 qB)).mono ?_;rintro e w5 ⟨rfl,hb⟩;replace hC:=Ae (hC.out.keep hb))
  | (go_at_call 70;refine (dH _ B (hC.out.nl 9 qB)).mono ?_;rintro e w5 ⟨rfl,hb⟩;replace hC:=Ae (hC.out.keep hb))
  | (go_at_call 71;refine (aJ _ B (hC.out.nl 10 qB)).mono ?_;rintro e w5 ⟨rfl,hb⟩;replace hC:=Ae (hC.out.keep hb))
  | (go_at_call 72;refine (Zh _ B (hC.out.nl 11 qB)).mono ?_;rintro e w5 ⟨rfl,hb⟩;replace hC:=Ae (hC.out.keep hb))
  | (go_at_call 73;refine (bT _ B (hC.out.nl 12 qB)).mono ?_;rintro e w5 ⟨rfl,hb⟩;replace hC:=Ae (hC.out.keep hb)))
 go_ret;exact ⟨rfl,hC.out.bs⟩
theorem mT {w:World} {p q:Nat→Tm} (hp:RdP w a n c p) (hq:RdP w a n c q) {i:Nat} (hi:i<n):(p i).n1=(q i).n1∧(p i).n2=(q i).n2:=by
 rcases hp.cell with h0|⟨b,o,ha,hc⟩
 ·omega
 ·rcases hq.cell with h0|⟨b',o',GZ,jf⟩
  ·omega
  ·rw [ha] at GZ;simp only [Option.some.injEq,Addr.mk.injEq,and_true] at GZ;obtain ⟨rfl,rfl⟩:=GZ;have h1:=(hc i hi).e1;have h3:=(hc i hi).e3;rw [(jf i hi).e1] at h1;rw [(jf i hi).e3] at h3;simp only [Option.some.injEq,Value.slice.injEq] at h1 h3;exact ⟨h1.2.1.symm,h3.2.1.symm⟩
theorem Ku {w:World} (h:RdL w a n c d) (hf:Bc B0 w a c) (hn:n≤1000000) (hb:xp w w') (hB:w.heap.size≤B):Dn w' 129 1 B0 B (Fi a n c m):=by
 refine ⟨h.cap,hn,by have:=h.top;unfold maxLen;show c≤_;omega,?_⟩;rcases hf with h0|⟨b,cur,rfl,h2,h3,h4⟩
 ·exact .inl h0
 ·have bj:=(Ar.1 h3).1;exact .inr ⟨rfl,h2,by show b<B;omega,cur,(hb.block b bj).trans h3,by show c*1≤_;omega⟩
theorem vX {w:World} {n' c' m':Nat} (hf:Bc B0 w a c) (wk:Bc B0 w a' c') (h:Ap2 a c a' c'):Dq (hv (Fi a n c m)) (hv (Fi a' n' c' m')):=fun h1 h2 e=>by
 rcases hf with h0|⟨b,_,rfl,_⟩
 ·exact h1 h0
 ·rcases wk with h0|⟨b',_,rfl,_⟩
  ·exact h2 h0
  ·rcases h with h|h|h
   ·exact h1 h
   ·exact h2 h
   ·exact h (by rw [show b=b' from e])
theorem W7 {w:World} {n' c' m' t t':Nat} (hf:Bc B0 w a c) (wk:Bc B0 w a' c') (h:Mk o a c t) (h':Mk o a' c' t') (di:t≠t'):Dq (hv (Fi a n c m)) (hv (Fi a' n' c' m')):=fun h1 h2 e=>by
 rcases hf with h0|⟨b,_,rfl,_⟩
 ·exact h1 h0
 ·rcases wk with h0|⟨b',_,rfl,_⟩
  ·exact h2 h0
  ·have e1:=h.resolve_left h1 _ rfl;have e2:=h'.resolve_left h2 _ rfl;have e3:b=b':=e;subst e3;exact di (e1.symm.trans e2)
theorem Hz {p:Nat→Tm} {k:Nat} {q:Hl×Value} (h:q∈Cu p N k):∃i,i<k∧(q=hv (Fi (p i).a1 (p i).n1 (p i).c1 (N+2*i+1))∨q=hv (Fi (p i).a2 (p i).n2 (p i).c2 (N+2*i+2))):=by
 induction k with
 | zero=>simp [Cu] at h
 | succ k ih =>
  rw [Cu] at h;rcases List.mem_append.1 h with h|h
  ·obtain ⟨i,hi,hq⟩:=ih h;exact ⟨i,qB,hq⟩
  ·simp only [List.mem_cons,List.not_mem_nil,or_false] at h;exact ⟨k,qB,h⟩
structure Mg (w':World) (B0 B B1:Nat) (a:Γ) (n c:Nat) (p:Nat→Tm):Prop where
 rd:RdP w' a n c p
 hl:∀i m,i<n→Dn w' 129 1 B0 B (Fi (p i).a1 (p i).n1 (p i).c1 m)∧Dn w' 129 1 B0 B (Fi (p i).a2 (p i).n2 (p i).c2 m)
 ap:∀N k,k≤n→(Cu p N k).Pairwise Dq
 row:∀m,Dn w' 58 8 B0 B (Fi a n c m)
 lo:∀N k q,q∈Cu p N k→k≤n→q.1.c≠0→B0≤q.1.b∧q.1.b<B1
 rlo:c≠0→B0≤(Fi a n c 0).b∧(Fi a n c 0).b<B1
theorem kE {w:World} {CX K:Nat} {l:Δ} (hP:Be w CX a n c l) (hO:Ca w B0 a n c) (hK:Cj K l) (hK6:K≤1000000) (hl:l.length≤1000000) (hb:xp w w') (hB:w.heap.size≤B):∃p,Mg w' B0 B w a n c p:=by
 obtain ⟨p',BX,hx⟩:=hP.ts;obtain ⟨p,o,t,hp,aqb,hL⟩:=hO.ts;have hn:n≤1000000:=by have:=hP.len;omega
 have pg:∀i,i<n→(p i).n1≤1000000∧(p i).n2≤1000000:=fun i hi=>by
  have h1:=mT hp BX hi;have h2:=hP.few hK BX hx i hi;omega
 have gw:∀N k,k≤n→(Cu p N k).Pairwise Dq:=fun N k=>by
  induction k with
  | zero=>intro _;simp [Cu]
  | succ k ih =>
   intro hk;rw [Cu];have KB:=hL k qB;refine List.pairwise_append.2 ⟨ih qB,?_,fun q hq u hu=>?_⟩
   ·exact qDo
   ·obtain ⟨i,hi,hq⟩:=Hz hq;have RS:=hL i qB;have di:t i≠t k:=fun e=>by have:=aqb i k qB qB e;omega
    exact qCf
 have vk:∀{a:Γ} {n c m:Nat},Bc B0 w a c→c≠0→B0≤(Fi a n c m).b∧(Fi a n c m).b<w.heap.size:=fun hf h0=>qEs
 refine ⟨p,hp.keep hb,fun i m hi=>⟨Ku (hp.tm i hi).top (hL i hi).top (pg i hi).1 hb hB,Ku (hp.tm i hi).low (hL i hi).low (pg i hi).2 hb hB⟩,gw,fun m=>?_,fun N k q hq hk h0=>?_,fun h0=>?_⟩
 ·refine ⟨hp.cap,hn,by have:=hp.top;unfold maxLen;show c≤_;omega,?_⟩;rcases hO.row with h0|⟨b,cur,rfl,h2,h3,h4⟩
  ·exact .inl h0
  ·exact qEn
 ·obtain ⟨i,hi,hq⟩:=Hz hq;rcases hq with rfl|rfl
  ·exact vk (hL i qB).top h0
  ·exact vk (hL i qB).low h0
 ·rcases hO.row with h1|⟨b,cur,rfl,h2,h3,h4⟩
  ·exact absurd h1 h0
  ·exact ⟨h2,(Ar.1 h3).1⟩
end Go.Proofs.YtfijkfdfbnfmmaaGreatDoor
end
