/- The text of a sum, as its list. -/
import Derived.Test.YtnnhcbeiogaknaaGreatDoorQT44
import Derived.Test.YtnnhcbeiogaknaaGreatDoorQT43
set_option linter.unusedSimpArgs false
set_option linter.unusedVariables false
set_option maxRecDepth 100000
set_option maxHeartbeats 4000000
section
namespace Go.Proofs.YtnnhcbeiogaknaaGreatDoor
open Go.RowKit
def tmK (l:List PT) (k:Nat):PT:=l.getD k (0,0,1)
def txL (l:List PT):List UInt8:=if l=[] then [48] else Pz (fun k=>decide ((tmK l k).2.1<0)) (fun k=>Eg ((tmK l k).2.1.natAbs:Int) ((tmK l k).2.2.natAbs:Int)) (fun k=>De (exN (tmK l k).1 0) (exN (tmK l k).1 1) (exN (tmK l k).1 2) (exN (tmK l k).1 3)) l.length
theorem Zq {neg neg':Nat→Bool} {t t':Nat→List UInt8} {m m':Nat→Nat→Nat}:∀{k:Nat},(∀j,j<k→neg j=neg' j∧t j=t' j∧m j=m' j)→Pz neg t m k=Pz neg' t' m' k:=by
 intro k
 induction k with
 | zero=>intro _;rfl
 | succ k ih =>
  intro h;obtain ⟨h1,h2,h3⟩:=h k (Ag k);rw [Pz,Pz,ih fun j hj=>h j qA,h1,h2,h3]
theorem lS {w:World} {B:Nat} {a:Option Addr} {n c:Nat} {l:List PT} (h:Bc w B a n c l) {p:Nat→Tm} (hp:RdP w a n c p) (hx:∀i x,l[i]? = some x→Es (p i) x∧Nw B (p i).n1 (p i).a1∧Nw B (p i).n2 (p i).a2):Rw p n=txL l:=by
 have hn:=h.len;unfold Rw txL;by_cases h0:l=[]
 ·rw [if_pos h0,if_pos (by rw [←hn,h0];rfl)]
 ·rw [if_neg h0,if_neg (by rw [←hn];exact fun e=>h0 (List.length_eq_zero_iff.1 e)),hn];refine Zq fun j hj=>?_
  have hl:l[j]? = some l[j]:=Ai qA;have ht:=(hx j _ hl).1;have hr:=hp.tm j hj;have e:tmK l j=l[j]:=by unfold tmK;rw [List.getD_eq_getElem?_getD,hl];rfl
  rw [e];refine ⟨ht.g1,?_,?_⟩
  ·unfold Jv;rw [ht.d1,ht.d2,Bo,Bo]
  ·unfold Jw;obtain ⟨k0,k1,k2,k3⟩:=Em hr.s1 hr.s2 hr.s3 hr.s0;rw [ht.key] at k0 k1 k2 k3;rw [k0,k1,k2,k3]
theorem pF (w:World) (B:Nat) (a:Option Addr) (n c:Nat) (l:List PT) (h:Bc w B a n c l) (hl:PW l) (hf:Dd 10000 l) (hn:n≤1000000) (hT:Tab w) :
  Calls Tryz.prog 90 #[.slice a n c] w (Fe w (txL l)):=by
 obtain ⟨p,hp,hx⟩:=h.ts;have hok:=h.pok hl hp hx;have hs:Lz p n:=fun k hk=>h.few hf hp hx k hk
 have:=rK w a n c p hp hs hn hT;unfold Sr at this;rw [if_pos hok,lS h hp hx] at this;exact this
theorem Sx (B b:Nat) (bs:List Value) (s:ByteArray) (w:World) (h:Lib.IsBuilderF 186 5 B b bs w) (hlen:bs.length+s.size≤140737488355328) (hBw:B≤w.heap.size) :
  Calls Tryz.prog 134 #[.pointer (some ⟨b,0,none⟩),.string s] w fun e w'=>e=.returned (.tuple #[.int .i64 s.size,.nilIface])∧(Lib.BuilderAtF 186 5 B b (.pointer (some ⟨b,0,none⟩)) (bs++Lib.strCells s) w'∧Below B w w'∧Lib.OthersKept 5 (some b) w w') :=
 Any.Builder_WriteString_k cE Sd B b bs s w h hlen hBw
mutual
def txV:VT→List UInt8
 | .node f l xs=>if f then 91::(J7 true xs++[93]) else txL l
def J7:Bool→List VT→List UInt8
 | _,[]=>[]
 | b,x::xs=>(if b then [] else [44,32])++(txV x++J7 false xs)
end
theorem gD (x:VT):∀(xs:List VT) (b:Bool),J7 b (xs++[x])=J7 b xs++((if b&&xs.isEmpty then [] else [44,32])++txV x):=by
 intro xs
 induction xs with
 | nil=>intro b;simp [J7]
 | cons y xs ih =>
  intro b;rw [List.cons_append,J7,ih,J7];simp
theorem fO:∀(xs:List VT) (b:Bool) (i:Nat),(J7 b (xs.take i)).length≤(J7 b xs).length:=by
 intro xs
 induction xs with
 | nil=>intro b i;simp [J7]
 | cons y xs ih =>
  intro b i
  cases i with
  | zero=>simp [J7]
  | succ i=>rw [List.take_succ_cons,J7,J7];simp only [A8];have:=ih false i;omega
theorem OthersKept.of_below {e:TypeId} {b:Option Nat} {w w':World} (hb:Below w.heap.size w w'):Lib.OthersKept e b w w':=fun k o hk _ _=>(hb.block k (Ar.1 hk).1).trans hk
theorem Blk.others {W W':World} {b P:Nat} {vs:Array Value} {t:TypeId} (h:Blk W b vs t) (hk:Lib.OthersKept 5 (some P) W W') (hb:b≠P) (ht:t≠5):Blk W' b vs t:=hk b _ h (by simp;exact hb) (fun c fz e=>by cases e;exact ht rfl)
structure Txt (P pb:Nat) (bs:List UInt8) (w:World):Prop where
 b:Lib.IsBuilderF 186 5 P P (Lib.byteCells bs) w
 p:Blk w pb #[.func (.func 133) #[] #[.pointer (some ⟨P,0,none⟩),.pointer (some ⟨pb,0,none⟩)]] 187
 n:P≤w.heap.size
def vA (P pb:Nat) (bs:List UInt8) (w:World) (e:Ending) (w':World):Prop:=e=.returned (.tuple #[])∧Txt P pb bs w'∧Below P w w'∧Lib.OthersKept 5 (some P) w w'
theorem Txt.keep {P pb:Nat} {bs:List UInt8} {w w':World} (h:Txt P pb bs w) (hb:Below w.heap.size w w'):Txt P pb bs w':=by
 have key:∀p,Lib.BuilderAtF 186 5 P P p (Lib.byteCells bs) w→Lib.BuilderAtF 186 5 P P p (Lib.byteCells bs) w':=by
  rintro p ⟨h1,v,h2,⟨k1,k2⟩,h4⟩;refine ⟨h1,v,(hb.block P (Ar.1 h2).1).trans h2,⟨k1,k2.imp id ?_⟩,h4⟩;rintro ⟨g,cap,cur,fz,e1,e2,e3,e4⟩;exact ⟨g,cap,cur,fz,e1,e2,(hb.block g (Ar.1 e3).1).trans e3,e4⟩
 exact ⟨h.b.imp (key _) (key _),h.p.keep hb,Ah h.n hb.size⟩
theorem Qe (P pb:Nat) (bs s:List UInt8) (w:World) (h:Txt P pb bs w) (hpb:pb≠P) (hlen:bs.length+s.length≤10000000) :
  Calls Tryz.prog 134 #[.pointer (some ⟨P,0,none⟩),.string ⟨s.toArray⟩] w (fun e w'=>(∃v,e=.returned v)∧Txt P pb (bs++s) w'∧Below P w w'∧Lib.OthersKept 5 (some P) w w'):=by
 refine (Sx P P (Lib.byteCells bs) ⟨s.toArray⟩ w h.b (by rw [Gl,I8];omega) h.n).mono ?_;rintro e w' ⟨rfl,hb,hB,hO⟩;refine ⟨⟨_,rfl⟩,⟨.inr ?_,h.p.others hO hpb qJ,Ah h.n hB.size⟩,hB,hO⟩;rw [If] at hb;exact hb
theorem yW (w0:World) (hT:Tab w0):∀(k:Nat) (t:VT),t.dep≤k→∀(d:Nat) (v0 v1 v2:Value) (P pb:Nat) (bs:List UInt8) (W:World),Bt w0 0 none v0 v1 v2 t→VT.Ok d t→Below w0.heap.size w0 W→w0.heap.size≤P→P<pb→Txt P pb bs W→bs.length+(txV t).length≤1000000 →
    Calls Tryz.prog 133 #[.agg #[v0,v1,v2],.pointer (some ⟨P,0,none⟩),.pointer (some ⟨pb,0,none⟩)] W (vA P pb (bs++txV t) W):=by
  intro k
  induction k with
  | zero=>intro t ht;cases t;rw [VT.dep] at ht;omega
  | succ k ih =>
    intro t ht d v0 v1 v2 P pb bs W h hok hW hP hpb hX hlen;obtain ⟨f,l,xs⟩:=t;rw [VT.dep] at ht;rw [Bt] at h;rw [VT.Ok] at hok;rw [txV] at hlen ⊢;obtain ⟨rfl,⟨a,n,c,rfl,hp,_⟩,a',c',rfl,k2,k3,k4,hrow⟩:=h;have HB:=Ac W.heap.size W;have hpl:pb<W.heap.size:=hX.p.lt;have hPl:P<W.heap.size:=by omega
    go_enter Tryz.func133,Tryz.ntmps133;cases f
    · obtain ⟨hxs,hl2,hpw,hfw⟩:xs=[]∧l.length≤2000∧PW l∧Dd 5000 l:=by
        rcases hok with ⟨_,h1,h2,h3,h4⟩|⟨h,_⟩
        · exact ⟨h1,h2,h3,h4⟩
        · cases h
      have hln:=hp.len;rw [if_neg qJ] at hlen ⊢;clear ih hok hrow ht;go_wp2_with fail;refine Be ?_;intro w1 hw1;have b1:Below W.heap.size W w1:=by rw [hw1];go_grown
      clear hw1;have hW1:=hW.trans (b1.mono hW.size);refine (pF w1 0 a n c l (hp.keep hW1) hpw (fun t ht=>by have:=hfw t ht;omega) qA (hT.keep hW1)).mono ?_;rintro e w2 ⟨rfl,hb2⟩;have b2:=b1.trans (hb2.mono b1.size);go_wp2_with fail;refine (Qe P pb bs (txL l) w2 (hX.keep b2) qA qA).mono ?_;rintro e w3 ⟨⟨v,rfl⟩,hX3,hB3,hO3⟩;go_wp2_with fail;refine bodyPost_ret (v:=.tuple #[]) (by simp [results,Tryz.results133,go_sem]) rfl ⟨rfl,hX3,(b2.mono qA).trans hB3,(OthersKept.of_below b2).trans hO3⟩
    · obtain ⟨rfl,hl2,hd,hxo⟩:l=[]∧xs.length≤2000∧d≤64∧VT.OkL (d+1) xs:=by
        rcases hok with ⟨h,_⟩|⟨_,h1,h2,h3,h4⟩
        · cases h
        · exact ⟨h1,h2,h3,h4⟩
      rw [if_pos rfl] at hlen ⊢;have HI:=Ae (fun (x:VT) (hx:x∈xs) (v0 v1 v2:Value) (bs:List UInt8) (W:World) (hv:Bt w0 0 none v0 v1 v2 x) (h1:Below w0.heap.size w0 W) (h2:Txt P pb bs W) (h3:bs.length+(txV x).length≤1000000)=>ih x (by have:=VT.depL_mem (xs:=xs) hx;omega) (d+1) v0 v1 v2 P pb bs W hv (VT.OkL_iff.1 hxo x hx) h1 hP hpb h2 h3);have HR:=Ae hrow;obtain ⟨m,hm⟩:∃m,m=xs.length:=⟨_,rfl⟩;rw [←hm] at k2 hl2 ⊢;have HM:=Ae hm;have HL:=Ae hlen;clear ih hok hrow ht hm hp hlen;go_wp2_with fail;refine Be ?_;intro w1 hw1;have b1:Below W.heap.size W w1:=by rw [hw1];go_grown
      have A1:Blk w1 W.heap.size #[.bool true,.slice a n c,.slice a' m c'] 60:=by rw [hw1];exact Bj rfl _ _
      clear hw1;refine (Qe P pb bs [91] w1 (hX.keep b1) qA (by have:=HL.out;simp at this;simp;omega)).mono ?_;rintro e w2 ⟨⟨v,rfl⟩,hX2,hB2,hO2⟩;have A2:=A1.others hO2 qA qJ;have x2:=A2.cell 2 _ rfl;have hBP:Below P W w2:=(b1.mono qA).trans hB2;have hOP:Lib.OthersKept 5 (some P) W w2:=(OthersKept.of_below b1).trans hO2;go_wp2_with fail;go_loopw [17] (fun v17 wr=>∃(i:Nat),i≤m∧v17=.int .i64 i∧Txt P pb (bs++91::J7 true (xs.take i)) wr∧Below P W wr∧Lib.OthersKept 5 (some P) W wr) (fun v17 _=>m-(intOf v17).toNat)
      case atStart=>exact ⟨0,by omega,rfl,hX2,hBP,hOP⟩
      case round =>
        obtain ⟨i,hi,rfl,hXr,HBr,HOr⟩:=hrel;clear hX2 hBP hOP hB2 hO2 b1 HB;have hzr:=HBr.size;by_cases hlt:i<m
        · obtain ⟨b,p,rfl,_,hv⟩:=HR.out.resolve_left (by intro e;have:=HM.out;rw [e] at this;simp at this;omega);obtain ⟨x,hx⟩:∃x,xs[i]? = some x:=⟨_,Ai (by rw [←HM.out];exact hlt)⟩;obtain ⟨u0,u1,u2,c0,c1,c2,hva⟩:=hv.at hx;obtain ⟨fx,ax,nx,cx,ay,ny,cy,rfl,rfl,rfl⟩:=hva.form;have hWr:=hW.trans (HBr.mono hP)
          (replace c0:=Bb hWr c0;replace c1:=Bb hWr c1;replace c2:=Bb hWr c2)
          have hsn:=gD x (xs.take i) true;have htk:xs.take (i+1)=xs.take i++[x]:=by rw [List.take_add_one,hx];rfl
          rw [←htk] at hsn;have hln:=fO xs true (i+1);have hlen:=HL.out;simp only [List.length_cons,A8,List.length_nil] at hlen;have hln2:=hln;rw [hsn] at hln2;simp only [A8] at hln2;have hil:(xs.take i).length=i:=by rw [List.length_take];have:=HM.out;omega
          have HX:=Ae (Ay hx (Ay hva hsn));have hbl:=Aa _ _ c0;have hprl:=hXr.p.lt;clear hx hva hv hsn;go_upto_if 23 with fail
          refine By ?_;intro w1 hw1;have k1:Below wr.heap.size wr w1:=by rw [hw1];go_grown
          have X1:Blk w1 wr.heap.size #[.bool fx,.slice ax nx cx,.slice ay ny cy] 60:=by rw [hw1];exact Bj rfl _ _
          clear hw1;have hX1:=hXr.keep k1;have hB1:=HBr.trans (k1.mono (show P≤wr.heap.size by omega));have hO1:=HOr.trans (OthersKept.of_below k1);clear hXr HBr HOr;go_cut [] (fun wc=>Txt P pb ((bs++91::J7 true (xs.take i))++(if true&&(xs.take i).isEmpty then [] else [44,32])) wc∧Below P W wc∧Lib.OthersKept 5 (some P) W wc∧Blk wc wr.heap.size #[.bool fx,.slice ax nx cx,.slice ay ny cy] 60)
          case first =>
            by_cases h0:i=0
            · subst h0;go_wp2_with fail;go_meet
              case rel=>exact ⟨by simpa using hX1,hB1,hO1,X1⟩
            · have hne : (xs.take i).isEmpty = false := by rw [List.isEmpty_eq_false_iff_exists_mem];rcases hq:xs.take i with _|⟨y,ys⟩;· rw [hq] at hil;simp at hil;omega
                                                           · exact ⟨y,List.mem_cons_self ..⟩
              rw [hne] at hln2;go_wp2_with fail;refine (Qe P pb _ [44,32] w1 hX1 qA (by simp at hln2 ⊢;omega)).mono ?_;rintro e w2 ⟨⟨v',rfl⟩,hX2,hB2,hO2⟩;go_wp2_with fail;go_meet
              case rel=>exact ⟨by rw [hne];exact hX2,hB1.trans hB2,hO1.trans hO2,X1.others hO2 qA qJ⟩
          case rest =>
            obtain ⟨hXc,hBc,hOc,XC⟩:=hcut;have hWc:=hW.trans (hBc.mono hP);have hpc:=hXc.p.cell 0 _ rfl;have y0:=XC.cell 0 _ rfl;have y1:=XC.cell 1 _ rfl;have y2:=XC.cell 2 _ rfl;have hnl:((bs++91::J7 true (xs.take i))++(if true&&(xs.take i).isEmpty then [] else [44,32])).length+(txV x).length≤1000000:=by
              simp only [A8,List.length_cons];omega
            go_wp2_with fail;refine (HI.out x (A7 HX.out.1) _ _ _ _ wc HX.out.2.1 hWc hXc hnl).mono ?_;rintro e w3 ⟨rfl,hX3,hB3,hO3⟩;have hX4:Txt P pb (bs++91::J7 true (xs.take (i+1))) w3:=by
              rw [HX.out.2.2];simpa [List.append_assoc] using hX3
            go_wp2_with fail;go_roundw
            case rel=>exact ⟨i+1,by omega,by go_num,hX4,hBc.trans hB3,hOc.trans hO3⟩
            case measure=>(first|(simp [intOf];omega)|(simp [intOf];done))
        · obtain rfl:i=m:=by omega
          rw [As (by have:=HM.out;omega)] at hXr;go_wp2_with fail;refine (Qe P pb _ [93] wr hXr qA (by have:=HL.out;simp at this ⊢;omega)).mono ?_;rintro e w3 ⟨⟨v',rfl⟩,hX3,hB3,hO3⟩;go_wp2_with fail;refine bodyPost_end (v:=.tuple #[]) (by simp [results,Tryz.results133,go_sem]) rfl ⟨rfl,?_,HBr.trans hB3,HOr.trans hO3⟩;simpa [List.append_assoc] using hX3
theorem rB (w:World) (B:Nat) (o:Option Nat) (v0 v1 v2:Value) (t:VT) (h:Bt w B o v0 v1 v2 t) (hok:VT.Ok 1 t) (hT:Tab w) (hl:(txV t).length≤1000000) :
  Calls Tryz.prog 75 #[.agg #[v0,v1,v2]] w (Fe w (txV t)):=by
 have HB:=Ac w.heap.size w;obtain ⟨f,a,n,c,a',n',c',rfl,rfl,rfl⟩:=h.form;have HV:=Ae h.read;clear h;go_enter Tryz.func75,Tryz.ntmps75;go_wp2_with fail;refine Be ?_;intro w1 hw1;have b1:Below w.heap.size w w1:=by rw [hw1];go_grown
 have A1:Blk w1 w.heap.size #[.bool f,.slice a n c,.slice a' n' c'] 60:=by rw [hw1];exact Bj rfl _ _
 clear hw1;refine (Ei (HV.out.keep b1) hok).mono ?_;rintro e w2 ⟨rfl,hb2⟩;have b2:=b1.trans (hb2.mono b1.size);have x0:=(A1.keep hb2).cell 0 _ rfl;have x1:=(A1.keep hb2).cell 1 _ rfl;have x2:=(A1.keep hb2).cell 2 _ rfl;have xl:=(A1.keep hb2).lt;go_wp2_with fail;refine Be ?_;intro w3 hw3;have k3:Below w2.heap.size w2 w3:=by rw [hw3];go_grown
 have P3:Blk w3 w2.heap.size #[.pointer none,.slice none 0 0] 186:=by rw [hw3];exact (Bj rfl _ _).alloc _
 have Q3:Blk w3 (w2.heap.size+1) #[.func (.func 133) #[] #[.pointer (some ⟨w2.heap.size,0,none⟩),.pointer (some ⟨w2.heap.size+1,0,none⟩)]] 187:=by rw [hw3];exact Bj qG _ _
 clear hw3;have hX:Txt w2.heap.size (w2.heap.size+1) [] w3:=⟨.inl ⟨Ad _,.slice none 0 0,P3,⟨rfl,.inl ⟨rfl,rfl⟩⟩,by simp [Value.ownBlock]⟩,Q3,k3.size⟩;have b3:=b2.trans (k3.mono b2.size);refine (yW w2 (hT.keep b2) t.dep t (Ad _) 1 _ _ _ w2.heap.size (w2.heap.size+1) [] w3 (HV.out.keep b2) hok k3 (Ad _) qA hX (by simpa using hl)).mono ?_;rintro e w4 ⟨rfl,hX4,hB4,hO4⟩;rw [List.nil_append] at hX4;have b4:=b2.trans ((k3.trans hB4).mono b2.size);go_wp2_with fail;refine (Any.Builder_String_any_k Tryz.lays169 Tryz.Builder_Extra_169 w2.heap.size w2.heap.size (txV t) w4 hX4.b hX4.n).mono ?_;rintro e w5 ⟨rfl,hF5,hB5,hO5⟩;go_wp2_with fail;go_ret;exact ⟨rfl,b4.trans (hB5.mono b2.size)⟩
mutual
def szT:VT→Nat
 | .node _ l xs=>max 1 l.length+Gx xs
def Gx:List VT→Nat
 | []=>0
 | x::xs=>szT x+Gx xs
end
theorem eN (x:VT):∀xs:List VT,Gx (xs++[x])=Gx xs+szT x:=by
 intro xs
 induction xs with
 | nil=>simp [Gx]
 | cons y xs ih=>rw [List.cons_append,Gx,ih,Gx];omega
theorem eO:∀(xs:List VT) (i:Nat),Gx (xs.take i)≤Gx xs:=by
 intro xs
 induction xs with
 | nil=>intro i;simp [Gx]
 | cons y xs ih =>
  intro i
  cases i with
  | zero=>simp [Gx]
  | succ i=>rw [List.take_succ_cons,Gx,Gx];have:=ih i;omega
theorem uH:∀(k:Nat) (t:VT),t.dep≤k→∀(w:World) (v0 v1 v2:Value) (sb:Nat),Bt w 0 none v0 v1 v2 t→szT t≤1000000→Blk w sb #[.func (.func 136) #[] #[.pointer (some ⟨sb,0,none⟩)]] 68 →
  Calls Tryz.prog 136 #[.agg #[v0,v1,v2],.pointer (some ⟨sb,0,none⟩)] w (fun e w'=>e=.returned (.int .i64 (szT t))∧Below w.heap.size w w'):=by
 intro k
 induction k with
 | zero=>intro t ht;cases t;rw [VT.dep] at ht;omega
 | succ k ih =>
  intro t ht w v0 v1 v2 sb h hsz hS;obtain ⟨f,l,xs⟩:=t;rw [VT.dep] at ht;rw [Bt] at h;rw [szT] at hsz ⊢;obtain ⟨rfl,⟨a,n,c,rfl,hp,_⟩,a',c',rfl,k2,k3,k4,hrow⟩:=h;have HB:=Ac w.heap.size w;have hln:=hp.len;have HI:=Ae (fun (x:VT) (hx:x∈xs)=>ih x (by have:=VT.depL_mem (xs:=xs) hx;omega));have HR:=Ae hrow;obtain ⟨m,hm⟩:∃m,m=xs.length:=⟨_,rfl⟩;rw [←hm] at k2 ⊢;have hmm:m≤1000000:=by
   have:∀l:List VT,l.length≤Gx l:=fun l=>by
    induction l with
    | nil=>simp
    | cons y l ih=>obtain ⟨_,l',_⟩:=y;rw [Gx,szT,List.length_cons];omega
   have:=this xs;omega
  rw [show Gx xs=Gx (xs.take m) by rw [As qA]] at hsz ⊢;have HM:=Ae hm;have hsl:=hS.lt;clear ih hrow ht hm hp;rw [hln] at hsz ⊢;obtain ⟨q,hq⟩:∃q,q=max 1 n:=⟨_,rfl⟩;rw [←hq] at hsz ⊢;have hmx:max (1:Int) (n:Int)=(q:Int):=by omega
  go_enter Tryz.func136,Tryz.ntmps136;go_wp2_with fail;refine By ?_;intro w0 hw0;have b0:Below w.heap.size w w0:=by rw [hw0];go_grown
  clear hw0;go_loopw [4,14] (fun v4 v14 wr=>∃(i:Nat),i≤m∧v14=.int .i64 i∧v4=.int .i64 ((q+Gx (xs.take i):Nat):Int)∧Below w.heap.size w wr) (fun _ v14 _=>m-(intOf v14).toNat)
  case atStart=>exact ⟨0,by omega,rfl,by rw [List.take_zero,Gx,Nat.add_zero,hq],b0⟩
  case round =>
   obtain ⟨i,hi,rfl,rfl,HBr⟩:=hrel;clear b0 HB;by_cases hlt:i<m
   ·obtain ⟨b,p,rfl,_,hv⟩:=HR.out.resolve_left (by intro e;have:=HM.out;rw [e] at this;simp at this;omega);obtain ⟨x,hx⟩:∃x,xs[i]? = some x:=⟨_,Ai (by rw [←HM.out];exact hlt)⟩;obtain ⟨u0,u1,u2,c0,c1,c2,hva⟩:=hv.at hx;obtain ⟨fx,ax,nx,cx,ay,ny,cy,rfl,rfl,rfl⟩:=hva.form
    (replace c0:=Bb HBr c0;replace c1:=Bb HBr c1;replace c2:=Bb HBr c2)
    have htk:Gx (xs.take (i+1))=Gx (xs.take i)+szT x:=by rw [List.take_add_one,hx];exact eN x _
    have hle:Gx (xs.take (i+1))≤Gx (xs.take m):=by
     have:=eO (xs.take m) (i+1);rwa [List.take_take,Nat.min_eq_left qA] at this
    have HX:=Ae (Ay hx (Ay (hva.keep HBr) htk));have hbl:=Aa _ _ c0;have hSr:=hS.keep HBr;have hsc:=hSr.cell 0 _ rfl;have hsl2:=hSr.lt;have hsx:szT x≤1000000:=by omega
    have hzs:Gx (xs.take i)+szT x≤1000000:=by omega
    clear hx hva hv htk;go_wp2_with fail;refine Be ?_;intro w1 hw1;have k1:Below wr.heap.size wr w1:=by rw [hw1];go_grown
    clear hw1;refine (HI.out x (A7 HX.out.1) w1 _ _ _ sb (HX.out.2.1.keep k1) hsx (hSr.keep k1)).mono ?_;rintro e w2 ⟨rfl,hb2⟩;have b2:=HBr.trans ((k1.trans (hb2.mono k1.size)).mono HBr.size);go_wp2_with fail;go_roundw
    case rel=>exact ⟨i+1,by omega,by go_num,by rw [HX.out.2.2];go_num,b2⟩
    case measure=>(first|(simp [intOf];omega)|(simp [intOf];done))
   ·obtain rfl:i=m:=by omega
    go_wp2_with fail;go_ret;exact ⟨by go_num,HBr⟩
theorem rV (w:World) (B:Nat) (o:Option Nat) (v0 v1 v2:Value) (t:VT) (h:Bt w B o v0 v1 v2 t) (hok:VT.Ok 1 t) (hl:szT t≤1000000) :
  Calls Tryz.prog 76 #[.agg #[v0,v1,v2]] w (fun e w'=>e=.returned (.int .i64 (szT t))∧Below w.heap.size w w'):=by
 have HB:=Ac w.heap.size w;obtain ⟨f,a,n,c,a',n',c',rfl,rfl,rfl⟩:=h.form;have HV:=Ae h.read;clear h;go_enter Tryz.func76,Tryz.ntmps76;go_wp2_with fail;refine Be ?_;intro w1 hw1;have b1:Below w.heap.size w w1:=by rw [hw1];go_grown
 have A1:Blk w1 w.heap.size #[.bool f,.slice a n c,.slice a' n' c'] 60:=by rw [hw1];exact Bj rfl _ _
 clear hw1;refine (Ei (HV.out.keep b1) hok).mono ?_;rintro e w2 ⟨rfl,hb2⟩;have b2:=b1.trans (hb2.mono b1.size);have x0:=(A1.keep hb2).cell 0 _ rfl;have x1:=(A1.keep hb2).cell 1 _ rfl;have x2:=(A1.keep hb2).cell 2 _ rfl;have xl:=(A1.keep hb2).lt;go_wp2_with fail;refine Be ?_;intro w3 hw3;have k3:Below w2.heap.size w2 w3:=by rw [hw3];go_grown
 have Q3:Blk w3 w2.heap.size #[.func (.func 136) #[] #[.pointer (some ⟨w2.heap.size,0,none⟩)]] 68:=by rw [hw3];exact Bj rfl _ _
 clear hw3;have b3:=b2.trans (k3.mono b2.size);refine (uH t.dep t (Ad _) w3 _ _ _ w2.heap.size (HV.out.keep b3) hl Q3).mono ?_;rintro e w4 ⟨rfl,hb4⟩;go_wp2_with fail;go_ret;exact ⟨rfl,b3.trans (hb4.mono b3.size)⟩
theorem dH:txV N7=[91,49,44,32,91,120,32,45,32,49,44,32,49,93,44,32,91,120,32,43,32,49,44,32,49,93,93]:=by decide +kernel
theorem xX:Fs [(562949953421312,1,1)] pP=some none:=by decide +kernel
theorem tL:Sm [(562949953421312,((1,1):PC))]:=Sm.of (by decide +kernel)
theorem vC:Sm [(281474976710656,((1,1):PC))]:=Sm.of (by decide +kernel)
theorem yA:Sm [(0,((1,1):PC))]:=Sm.of (by decide +kernel)
theorem xM:Sm [(0,((65,1):PC))]:=Sm.of (by decide +kernel)
def szA:VT:=.node true [] [.node false pP [],.node true [] []]
theorem vJ:VT.Ok 1 szA:=by
 rw [szA,VT.Ok];refine .inr ⟨rfl,rfl,by simp,by omega,VT.OkL_iff.2 fun x hx=>?_⟩;simp only [List.mem_cons,List.not_mem_nil,or_false] at hx;rcases hx with rfl|rfl
 ·exact Gr smP _
 ·rw [VT.Ok];exact .inr ⟨rfl,rfl,by simp,by omega,VT.OkL_iff.2 fun x hx=>by simp at hx⟩
theorem Ky (w:World) (hT:Tab w) (hV:Hu w) (h7:7<w.heap.size) :
  Calls Tryz.prog 25 #[] w (fun e w'=>e=.returned (.bool true)∧Below w.heap.size w w'):=by
 have HB:=Ac w.heap.size w;have HH:=Ae (Ay hT hV);clear hT hV;go_enter Tryz.func25,Tryz.ntmps25;go_wp2_with fail;refine (Gs w _ _ rd1 qG HH.out.2 h7).mono ?_;rintro e w1 ⟨u0,u1,u2,rfl,hv,hb1⟩;obtain ⟨f,a,n,c,a',n',c',rfl,rfl,rfl⟩:=hv.form;have HVV:=Ae hv;clear hv;go_wp2_with fail;refine Be ?_;intro w2 hw2;have k2:Below w1.heap.size w1 w2:=by rw [hw2];go_grown
 have N2:Blk w2 w1.heap.size #[.bool f,.slice a n c,.slice a' n' c'] 60:=by rw [hw2];exact Bj rfl _ _
 clear hw2;have b2:=hb1.trans (k2.mono hb1.size);have V2:=HVV.out.read.keep k2;refine (eD w2 w1.heap.size 0 1 qA (by rw [Cd,Cd];exact ⟨⟨_,_,_,N2.cell 0 _ rfl,N2.cell 1 _ rfl,N2.cell 2 _ rfl,V2⟩,trivial⟩)).mono ?_;rintro e w3 ⟨p0,p1,p2,rfl,hv,hb3⟩;obtain ⟨vf,va,vn,vc,va',vn',vc',rfl,rfl,rfl⟩:=hv.form;have HF:=Ae hv;clear hv HVV V2 N2;have b3:=b2.trans (hb3.mono b2.size);go_wp2_with fail;refine Be ?_;intro w4 hw4;have k4:Below w3.heap.size w3 w4:=by rw [hw4];go_grown
 have F4:Blk w4 w3.heap.size #[.bool vf,.slice va vn vc,.slice va' vn' vc'] 60:=by rw [hw4];exact Bj rfl _ _
 clear hw4;have b4:=b3.trans (k4.mono b3.size);refine (Gs w4 _ _ rd2 qG (HH.out.2.keep b4) (by have:=Below.size b4;omega)).mono ?_;rintro e wx ⟨u0,u1,u2,rfl,hv,hbx⟩;obtain ⟨fx,ax,nx,cx,ax',nx',cx',rfl,rfl,rfl⟩:=hv.form;have bx:=Al b4 (hbx.mono (Below.size b4));have X:=Ae hv.read;clear hv;go_wp2_with fail;refine (Gs wx _ _ rd3 qG (HH.out.2.keep bx) (by have:=bx.size;omega)).mono ?_;rintro e w5 ⟨u0,u1,u2,rfl,hv,hby⟩;obtain ⟨fy,ay,ny,cy,ay',ny',cy',rfl,rfl,rfl⟩:=hv.form;have b5:=bx.trans (hby.mono bx.size);have XY:=Ae (Ay (X.out.keep hby) hv.read);have ky:=hbx.trans (hby.mono hbx.size);clear hv X bx hbx hby;go_wp2_with fail;refine (jE XY.out.1 XY.out.2 (Gr tL 1) (Gr smP 1) tL smP qJ xX).mono ?_;rintro e wz ⟨u0,u1,u2,rfl,hv,hbz⟩;have bz:=Al b5 (hbz.mono (Below.size b5));have kz:=Al ky (hbz.mono (Below.size ky));obtain ⟨fz,az,nz,cz,az',nz',cz',rfl,rfl,rfl⟩:=hv.form;clear hv hbz XY ky;go_wp2_with fail;refine Be ?_;intro w6 hw;have kn:Below wz.heap.size wz w6:=by rw [hw];go_grown
 clear hw;have b6:=bz.trans (kn.mono bz.size);have k6:=kz.trans (kn.mono kz.size);have F6:=Blk.keep F4 k6;clear kn kz bz;refine (Gs w6 _ _ rd4 qG (HH.out.2.keep b6) (by have:=Below.size b6;omega)).mono ?_;rintro e wx ⟨u0,u1,u2,rfl,hv,hbx⟩;obtain ⟨fx,ax,nx,cx,ax',nx',cx',rfl,rfl,rfl⟩:=hv.form;have bx:=Al b6 (hbx.mono (Below.size b6));have X:=Ae hv.read;clear hv;go_wp2_with fail;refine (Gs wx _ _ rd5 qG (HH.out.2.keep bx) (by have:=bx.size;omega)).mono ?_;rintro e w7 ⟨u0,u1,u2,rfl,hv,hby⟩;obtain ⟨fy,ay,ny,cy,ay',ny',cy',rfl,rfl,rfl⟩:=hv.form;have b7:=bx.trans (hby.mono bx.size);have XY:=Ae (Ay (X.out.keep hby) hv.read);have ky:=hbx.trans (hby.mono hbx.size);clear hv X bx hbx hby;go_wp2_with fail;refine (eT XY.out.1 XY.out.2 (Gr vC 1) (Gr yA 1) (by decide +kernel) vC.pw yA.pw).mono ?_;rintro e wz ⟨u0,u1,u2,rfl,hv,hbz⟩;have bz:=Al b7 (hbz.mono (Below.size b7));have kz:=Al ky (hbz.mono (Below.size ky));obtain ⟨fz,az,nz,cz,az',nz',cz',rfl,rfl,rfl⟩:=hv.form;clear hv hbz XY ky;go_wp2_with fail;refine Be ?_;intro w8 hw;have kn:Below wz.heap.size wz w8:=by rw [hw];go_grown
 clear hw;have b8:=bz.trans (kn.mono bz.size);have k8:=kz.trans (kn.mono kz.size);have F8:=Blk.keep F6 k8;clear kn kz bz;refine (Gs w8 _ _ rd4 qG (HH.out.2.keep b8) (by have:=Below.size b8;omega)).mono ?_;rintro e wx ⟨u0,u1,u2,rfl,hv,hbx⟩;obtain ⟨fx,ax,nx,cx,ax',nx',cx',rfl,rfl,rfl⟩:=hv.form;have bx:=Al b8 (hbx.mono (Below.size b8));have X:=Ae hv.read;clear hv;go_wp2_with fail;refine (Gs wx _ _ rd6 qG (HH.out.2.keep bx) (by have:=bx.size;omega)).mono ?_;rintro e w9 ⟨u0,u1,u2,rfl,hv,hby⟩;obtain ⟨fy,ay,ny,cy,ay',ny',cy',rfl,rfl,rfl⟩:=hv.form;have b9:=bx.trans (hby.mono bx.size);have XY:=Ae (Ay (X.out.keep hby) hv.read);have ky:=hbx.trans (hby.mono hbx.size);clear hv X bx hbx hby;go_wp2_with fail;refine (iD XY.out.1 XY.out.2 (Gr vC 1) (Gr xM 1)).mono ?_;rintro e wz ⟨u0,u1,u2,rfl,hv,hbz⟩;have bz:=b9.trans (hbz.mono b9.size);have kz:=ky.trans (hbz.mono ky.size);obtain ⟨fz,az,nz,cz,az',nz',cz',rfl,rfl,rfl⟩:=hv.form;clear hv hbz XY ky;have F9:=F8.keep kz;have z0:=F9.cell 0 _ rfl;have z1:=F9.cell 1 _ rfl;have z2:=F9.cell 2 _ rfl;have zl:=F9.lt;go_wp2_with fail;refine Be ?_;intro wa hwa;have kn:Below wz.heap.size wz wa:=by rw [hwa];go_grown
 clear hwa;have ba:=bz.trans (kn.mono bz.size);have ka:=kz.trans (kn.mono kz.size);have VF:=HF.out.keep (((k4.trans (k6.mono k4.size)).trans (k8.mono (k4.trans (k6.mono k4.size)).size)).trans (ka.mono ((k4.trans (k6.mono k4.size)).trans (k8.mono (k4.trans (k6.mono k4.size)).size)).size));refine (rB wa _ _ _ _ _ _ VF cJ (HH.out.1.keep ba) (by rw [dH];simp)).mono ?_;rintro e wb ⟨rfl,hbb⟩;have bb:=ba.trans (hbb.mono ba.size);rw [dH];clear hbb VF HF F4 F6 F8 F9 z0 z1 z2 zl k4 k6 k8 ka kz kn bz;go_wp2_with fail;refine (Gs wb _ _ rd3 qG (HH.out.2.keep bb) (by have:=bb.size;omega)).mono ?_;rintro e wx ⟨u0,u1,u2,rfl,hv,hbx⟩;obtain ⟨fx,ax,nx,cx,ax',nx',cx',rfl,rfl,rfl⟩:=hv.form;have bx:=bb.trans (hbx.mono bb.size);have X:=Ae hv.read;clear hv;go_wp2_with fail;refine Be ?_;intro wc hwc;have kc:Below wx.heap.size wx wc:=by rw [hwc];go_grown
 have N:Blk wc wx.heap.size #[.bool fx,.slice ax nx cx,.slice ax' nx' cx',.bool true,.slice none 0 0,.slice none 0 0] 60:=by rw [hwc];exact Bj rfl _ _
 clear hwc;have bc:=bx.trans (kc.mono bx.size);refine (rV wc 0 none _ _ _ szA (by
  rw [szA,Bt];refine ⟨rfl,⟨_,_,_,rfl,Bc.nil _ 0,fun _ h=>by simp at h⟩,_,_,rfl,by simp,by omega,by simp,.inr ⟨_,_,rfl,fun _ h=>by simp at h,?_⟩⟩;rw [Cd,Cd,Cd];refine ⟨⟨_,_,_,N.cell 0 _ rfl,N.cell 1 _ rfl,N.cell 2 _ rfl,X.out.keep kc⟩,⟨_,_,_,N.cell 3 _ rfl,N.cell 4 _ rfl,N.cell 5 _ rfl,?_⟩,trivial⟩;rw [Bt];exact ⟨rfl,⟨_,_,_,rfl,Bc.nil _ 0,fun _ h=>by simp at h⟩,_,_,rfl,by simp,by omega,by simp,.inl rfl⟩) vJ qJ).mono ?_
 rintro e wd ⟨rfl,hbd⟩;have bd:=bc.trans (hbd.mono bc.size);rw [show szT szA=4 by decide];clear N X HH;go_wp2_with fail;exact bodyPost_ret (v:=.bool true) (by simp [results,Tryz.results25,go_sem]) rfl ⟨rfl,bd⟩
theorem gS:∀(k:Nat) (t:RT),t.dep≤k→∀d e,RT.Chk d t→t.dep+e≤65→RT.Chk e t:=by
 intro k
 induction k with
 | zero=>intro t ht;cases t;rw [RT.dep] at ht;omega
 | succ k ih =>
  intro t ht d e h he;obtain ⟨g,n,p,xs⟩:=t;rw [RT.dep] at ht he;rw [RT.Chk] at h ⊢;rcases h with h|⟨h1,h2,h3,h4,h5⟩
  ·exact .inl h
  ·refine .inr ⟨h1,h2,h3,by omega,RT.ChkL_iff.2 fun x hx=>?_⟩;have:=RT.depL_mem (xs:=xs) hx;exact ih x qA _ _ (RT.ChkL_iff.1 h5 x hx) qA
end Go.Proofs.YtnnhcbeiogaknaaGreatDoor
end
