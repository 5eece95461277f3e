/- Package limbs: Parse, at digits. -/
import Derived.Test.YtnnhcbeiogaknaaGreatDoorQT19
import Derived.Test.YtnnhcbeiogaknaaGreatDoorQT16
set_option linter.unusedSimpArgs false
set_option linter.unusedVariables false
set_option maxRecDepth 100000
set_option maxHeartbeats 4000000
section
namespace Go.Proofs.YtnnhcbeiogaknaaGreatDoor
open Go.RowKit
def sH (w:World) (z:Int) (e:Ending) (w':World):Prop:=∃g a n c,∃k:Int,e=.returned (.tuple #[.agg #[.bool g,.slice a n c],.int .i64 k])∧Bg w' g a n c z∧Below w.heap.size w w'
theorem iV {w w':World} {s:ByteArray} (h:w'=w∨w'=Lib.bytesWorld w 5 s):Below w.heap.size w w':=by
 rcases h with rfl|rfl
 ·exact Ac _ _
 ·exact Lib.bytesWorld_below _ _ _
theorem mP {d:List Nat} (h:∀x∈d,x<1000000000) (i:Nat):0≤lim d i∧lim d i<4294967296:=by
 unfold lim;rw [List.getD_eq_getElem?_getD]
 cases hi:d[i]? with
 | none=>simp
 | some x =>
  have:=h x (A7 hi);simp
  omega
theorem oU {w:World} {base:Nat} {ao:Option Addr} {n co:Nat} {d:List Nat} (h:w.ownsRow base 147 1 (.slice ao n co) n (C1 d)) (hn:n=d.length) (hs:∀i,0≤lim d i∧lim d i<4294967296) (hf:n≤35184372088832):RdL w ao n co d:=by
 rcases h.2 with ⟨h1,h2⟩|⟨g,cap,cur,h1,h2⟩
 ·simp only [Value.slice.injEq] at h1;obtain ⟨rfl,rfl,rfl⟩:=h1;have:d=[]:=List.length_eq_zero_iff.1 hn.symm;subst this;exact Wa _
 ·simp only [Value.slice.injEq,true_and] at h1;obtain ⟨rfl,rfl⟩:=h1;exact Fq h hf hs
def Vg:Value→Nat
 | .string x=>x.size
 | _=>0
theorem Jz (l:List UInt8):Vg (.string ⟨l.toArray⟩)=l.length:=by simp [Vg,ByteArray.size]
theorem iL (p:UInt8→Bool) (l:List UInt8) (h:l.all p=true):l.dropWhile p=[]:=by
 induction l with
 | nil=>rfl
 | cons b r ih =>
  simp only [List.all_cons,Bool.and_eq_true] at h;rw [List.dropWhile_cons,h.1];exact ih h.2
theorem fU {d:List UInt8} (h:d.all Dg=true):Lib.trimS d [48,49,50,51,52,53,54,55,56,57]=[]:=by
 have e:(fun b=>([48,49,50,51,52,53,54,55,56,57]:List UInt8).contains b)=Dg:=funext Nl;unfold Lib.trimS Lib.trimLeftS Lib.trimRightS;rw [e,iL Dg d.reverse (by rw [List.all_reverse];exact h)];rfl
theorem Sy {b:UInt8} {t:List UInt8} (h:(b::t).all Dg=true):Lib.hasPrefix (b::t) [45]=false∧Lib.trimPrefix (b::t) [45]=b::t:=by
 obtain ⟨h1,h2⟩:=K0 (b:=b) (by simp only [List.all_cons,Bool.and_eq_true] at h;exact h.1);have hb:¬45=b:=fun e=>by subst e;revert h1;decide
 have hb':((45:UInt8)==b)=false:=by simpa using hb
 have h3:Lib.hasPrefix (b::t) [45]=false:=by
  simp [Lib.hasPrefix,List.isPrefixOf,hb']
 refine ⟨h3,?_⟩;simp [Lib.trimPrefix,h3]
theorem Gu (w:World) (d:List UInt8) (hd:Ee d=true) (hlen:d.length<1000000000) :
  Calls Tryz.prog 335 #[.string ⟨d.toArray⟩] w (sH w (Fd d)):=by
 have HB:=Ac w.heap.size w;obtain ⟨i0,hi,hi0,hi1,hi2⟩:=info_parts Ia;have HD:=Ae hd;obtain ⟨hall,h0⟩:=Jy hd;have HA:=Ae hall
 cases d with
 | nil=>simp at h0
 | cons b t =>
  obtain ⟨hp1,hp2⟩:=Sy hall;have htr:=fU hall;have hC:=fun W=>Tryz.strings_CutPrefix ⟨(b::t).toArray⟩ ⟨#[45]⟩ W
  simp only [hp1,hp2] at hC;have hT:=fun W=>Tryz.Trim_set ⟨(b::t).toArray⟩ ⟨#[48,49,50,51,52,53,54,55,56,57]⟩ W (by simp [ByteArray.size];simp at hlen;omega) (by simp [ByteArray.size]) (Go.Proofs.ascii_of_all qJ)
  simp only [htr] at hT;clear hd hall hp1 hp2 htr h0;go_enter Tryz.func335,Tryz.ntmps335;have hy:(⟨(b::t).toArray⟩:ByteArray)[0]'(by simp [ByteArray.size])=b:=by simp [ByteArray.getElem_eq_getElem_data]
  have hcase:((b.toNat:Int)=48∧(!b==48 || !t.isEmpty)=false)∨¬(b.toNat:Int)=48:=by
   have:=HD.out;simp only [Ee,HA.out,Bool.true_and,Bool.or_eq_true,decide_eq_true_eq] at this;rcases this with h|h
   ·by_cases hb:b=48
    ·subst hb;exact .inl ⟨rfl,by simp [h]⟩
    ·exact .inr fun e=>hb (UInt8.toNat_inj.1 (by show b.toNat=48;omega))
   ·exact .inr h
  by_cases hl:(200:Int)<(t.length:Int)+1
  ·have hz:Fd (b::t)=0:=by unfold Fd;rw [if_pos qI]
   rw [hz];clear hz;rcases hcase with ⟨hb48,hb2⟩|hb48 <;>
   go_wp2_with (first|(go_at_call 357;refine (hC _).mono ?_;rintro e w1 ⟨rfl,rfl⟩)|(go_at_call 358;(with_reducible refine (hT _).mono ?_);rintro e w1 ⟨rfl,hb⟩;obtain ⟨hc,hf⟩:=Bl hb;have hz:=hb.size;(try simp only [Aj,Ak,Am] at hz);replace HB:=zI w hb;obtain ⟨s0_0,s0_1⟩:=zE hc (w.heap.size);obtain ⟨f0_0,f0_1⟩:=zF hf (w.heap.size)));all_goals
    refine bodyPost_ret (v:=.tuple #[.agg #[.bool false,.slice none 0 0],.int .i64 3]) (by simp [*,results,Tryz.results335,go_sem]) rfl ?_;exact ⟨false,none,0,0,3,rfl,To _,by go_grown⟩
  ·have hz:Fd (b::t)=Di (b::t):=by unfold Fd;rw [if_neg qI]
   rw [hz];clear hz;rcases hcase with ⟨hb48,hb2⟩|hb48
   ·exact qAf
   ·exact qAf
def Qh (w:World) (p q:Int) (e:Ending) (w':World):Prop :=
 ∃g1 a1 n1 c1 g2 a2 n2 c2,e=.returned (.tuple #[.agg #[.bool g1,.slice a1 n1 c1,.bool g2,.slice a2 n2 c2],.int .i64 0])∧Bi w' g1 a1 n1 c1 p g2 a2 n2 c2 q∧Bf w.heap.size w' a1 c1∧Bf w.heap.size w' a2 c2∧Below w.heap.size w w'
theorem Sp (w:World) (g:Bool) (a:Option Addr) (n c:Nat) (z:Int) (h:Bg w g a n c z) (g':Bool) (a':Option Addr) (n' c':Nat) (z':Int) (h':Bg w g' a' n' c' z')
  (hz':0<z') (hb1:n<35184372088829) (hb2:n'<35184372088829) :
  Calls Tryz.prog 62 #[.agg #[.bool g,.slice a n c],.agg #[.bool g',.slice a' n' c']] w (Qh w (Fj z z') (Fr z z')):=by
 have HB:=Ac w.heap.size w;have HO1:=Ae h.okay;have HO2:=Ae h'.okay;have hsg:Bz z' 0=1:=Dy hz';go_enter Tryz.func62,Tryz.ntmps62;go_wp2_with fail;refine (Cv _ _ _ _ _ _ (h.rd.keep qF) true ⟨fun _=>rfl,fun _=>HO1.out⟩).mono ?_;rintro e w1 ⟨rfl,hb⟩;obtain ⟨hc,hf⟩:=Bl hb;have hz:=hb.size;(try simp only [Aj,Ak] at hz);replace HB:=zI w hb;obtain ⟨s0_0,s0_1⟩:=qZ hc (w.heap.size) (.bool g) (.slice a n c);obtain ⟨s1_0,s1_1⟩:=qZ hc (w.heap.size+1) (.bool g') (.slice a' n' c');obtain ⟨s2_0,s2_1⟩:=zE hc (w.heap.size+1+1);obtain ⟨s2_2,s2_3⟩:=zD hc (w.heap.size+1+1) (.bool false) (.slice none 0 0);obtain ⟨f2_0,f2_1⟩:=zF hf (w.heap.size+1+1);obtain ⟨f2_2,f2_3⟩:=zG hf (w.heap.size+1+1);have hk1:w.heap.size+1+1<w1.heap.size:=by omega
 clear hc hf hb hz;go_wp2_with fail;refine (Cv _ _ _ _ _ _ (h'.rd.keep qF) true ⟨fun _=>rfl,fun _=>HO2.out⟩).mono ?_;rintro e w2 ⟨rfl,hb⟩;obtain ⟨hc,hf⟩:=Bl hb;have hz:=hb.size;(try simp only [Aj,Ak] at hz);replace HB:=zI w hb;obtain ⟨s0_0,s0_1⟩:=qZ hc (w.heap.size) (.bool g) (.slice a n c);obtain ⟨s1_0,s1_1⟩:=qZ hc (w.heap.size+1) (.bool g') (.slice a' n' c');obtain ⟨s2_0,s2_1⟩:=zE hc (w.heap.size+1+1);obtain ⟨s2_2,s2_3⟩:=zD hc (w.heap.size+1+1) (.bool false) (.slice none 0 0);obtain ⟨f2_0,f2_1⟩:=zF hf (w.heap.size+1+1);obtain ⟨f2_2,f2_3⟩:=zG hf (w.heap.size+1+1);have hk2:w.heap.size+1+1<w2.heap.size:=by omega
 clear hc hf hb hz;go_wp2_with fail;refine (Kb _ _ _ _ _ z' (h'.keep qF)).mono ?_;rintro e w3 ⟨rfl,hb⟩;obtain ⟨hc,hf⟩:=Bl hb;have hz:=hb.size;(try simp only [Aj,Ak] at hz);replace HB:=zI w hb;obtain ⟨s0_0,s0_1⟩:=qZ hc (w.heap.size) (.bool g) (.slice a n c);obtain ⟨s1_0,s1_1⟩:=qZ hc (w.heap.size+1) (.bool g') (.slice a' n' c');obtain ⟨s2_0,s2_1⟩:=zE hc (w.heap.size+1+1);obtain ⟨s2_2,s2_3⟩:=zD hc (w.heap.size+1+1) (.bool false) (.slice none 0 0);obtain ⟨f2_0,f2_1⟩:=zF hf (w.heap.size+1+1);obtain ⟨f2_2,f2_3⟩:=zG hf (w.heap.size+1+1);have hk3:w.heap.size+1+1<w3.heap.size:=by omega
 clear hc hf hb hz;rw [hsg];go_wp2_with fail;refine (Rn _ _ _ _ _ z (h.keep qF) _ _ _ _ z' (h'.keep qF) hz' hb1 hb2).mono ?_;exact qAn
theorem Tj (w:World) (g:Bool) (a:Option Addr) (n c:Nat) (z:Int) (h:Bg w g a n c z) (g':Bool) (a':Option Addr) (n' c':Nat) (h':Bg w g' a' n' c' 0) :
  Calls Tryz.prog 62 #[.agg #[.bool g,.slice a n c],.agg #[.bool g',.slice a' n' c']] w fun e w'=>e=.returned (.tuple #[.agg #[.bool false,.slice none 0 0,.bool false,.slice none 0 0],.int .i64 6])∧Below w.heap.size w w':=by
 have HB:=Ac w.heap.size w;have HO1:=Ae h.okay;have HO2:=Ae h'.okay;have hsg:Bz 0 0=0:=Eo 0;go_enter Tryz.func62,Tryz.ntmps62;go_wp2_with fail;refine (Cv _ _ _ _ _ _ (h.rd.keep qF) true ⟨fun _=>rfl,fun _=>HO1.out⟩).mono ?_;rintro e w1 ⟨rfl,hb⟩;obtain ⟨hc,hf⟩:=Bl hb;have hz:=hb.size;(try simp only [Aj,Ak] at hz);replace HB:=zI w hb;obtain ⟨s0_0,s0_1⟩:=qZ hc (w.heap.size) (.bool g) (.slice a n c);obtain ⟨s1_0,s1_1⟩:=qZ hc (w.heap.size+1) (.bool g') (.slice a' n' c');obtain ⟨s2_0,s2_1⟩:=zE hc (w.heap.size+1+1);obtain ⟨s2_2,s2_3⟩:=zD hc (w.heap.size+1+1) (.bool false) (.slice none 0 0);obtain ⟨f2_0,f2_1⟩:=zF hf (w.heap.size+1+1);obtain ⟨f2_2,f2_3⟩:=zG hf (w.heap.size+1+1);have hk1:w.heap.size+1+1<w1.heap.size:=by omega
 clear hc hf hb hz;go_wp2_with fail;refine (Cv _ _ _ _ _ _ (h'.rd.keep qF) true ⟨fun _=>rfl,fun _=>HO2.out⟩).mono ?_;rintro e w2 ⟨rfl,hb⟩;obtain ⟨hc,hf⟩:=Bl hb;have hz:=hb.size;(try simp only [Aj,Ak] at hz);replace HB:=zI w hb;obtain ⟨s0_0,s0_1⟩:=qZ hc (w.heap.size) (.bool g) (.slice a n c);obtain ⟨s1_0,s1_1⟩:=qZ hc (w.heap.size+1) (.bool g') (.slice a' n' c');obtain ⟨s2_0,s2_1⟩:=zE hc (w.heap.size+1+1);obtain ⟨s2_2,s2_3⟩:=zD hc (w.heap.size+1+1) (.bool false) (.slice none 0 0);obtain ⟨f2_0,f2_1⟩:=zF hf (w.heap.size+1+1);obtain ⟨f2_2,f2_3⟩:=zG hf (w.heap.size+1+1);have hk2:w.heap.size+1+1<w2.heap.size:=by omega
 clear hc hf hb hz;go_wp2_with fail;refine (Kb _ _ _ _ _ 0 (h'.keep qF)).mono ?_;rintro e w3 ⟨rfl,hb⟩;obtain ⟨hc,hf⟩:=Bl hb;have hz:=hb.size;(try simp only [Aj,Ak] at hz);replace HB:=zI w hb;obtain ⟨s0_0,s0_1⟩:=qZ hc (w.heap.size) (.bool g) (.slice a n c);obtain ⟨s1_0,s1_1⟩:=qZ hc (w.heap.size+1) (.bool g') (.slice a' n' c');obtain ⟨s2_0,s2_1⟩:=zE hc (w.heap.size+1+1);obtain ⟨s2_2,s2_3⟩:=zD hc (w.heap.size+1+1) (.bool false) (.slice none 0 0);obtain ⟨f2_0,f2_1⟩:=zF hf (w.heap.size+1+1);obtain ⟨f2_2,f2_3⟩:=zG hf (w.heap.size+1+1);have hk3:w.heap.size+1+1<w3.heap.size:=by omega
 clear hc hf hb hz;rw [hsg];go_wp2_with fail;refine bodyPost_ret (v:=.tuple #[.agg #[.bool false,.slice none 0 0,.bool false,.slice none 0 0],.int .i64 6]) (by simp [results,Tryz.results62,go_sem,s2_0,s2_1,s2_2,s2_3]) rfl ?_;exact ⟨rfl,by go_grown⟩
end Go.Proofs.YtnnhcbeiogaknaaGreatDoor
end
