/- Required packs cannot be removed: of drawn roots, RootOut refuses a pack that others need, with the code that says so, and otherwise the root without it is ok and has its tree without that pack's own files. (part 5 of 6: JnQPuP, JnQF149, JnQF308, JnQF305, JnQF288, JnQF309, JnQF306, JnQF289, JnQF260, JnQF290, JnQF261, JnQF225, JnQF226v0, JnQPuQ, JnQF188v0, JnQF185v0, JnQF186v0, JnQF187v0, JnQF264v0, JnQF227v0, JnQF189v) Conditions: none beyond the statement. -/
import Derived.Test.YthllakklnccioaaGreatDoorZFnRootOut3
import Derived.Tactics
import Derived.Deep.RegionLaw
import Derived.Shelf.Abstract
import Derived.Test.YthllakklnccioaaGreatDoorProg
import Derived.KernelRfl
import Derived.Shelf.Sort.Plain
import Derived.Shelf.Slices.In.SortNone
set_option linter.unusedSectionVars false
set_option maxRecDepth 100000
set_option linter.unusedVariables false
set_option linter.unusedSimpArgs false
namespace Go.Proofs
open Go.Jk
theorem im(a)(m:Nat)(h:c8 a.2.1.1 a.2.1.2.1 m)(hm:1<=m):ad (gZ a) (fun r=>c8 r.2.1.1 r.2.1.2.1 (m-1)/\(0:Int)<=r.1.2.1/\((1:Int)<=a.1.2.1->(r.1.2.1:Int)<a.1.2.1)):=by
 obtain⟨⟨u1,(n:Int),u2⟩,⟨⟨(b:List Int),(p:Int),x7⟩,aqV⟩⟩:=a;have h:c8 b p m:=h;obtain⟨h1,h2,ab,aF⟩:=h;have e1:IntKind.i64.wrap (p+1)=p+1:=ed (by omega) (by omega)
 have e2:IntKind.i64.wrap (p+1-1)=p:=by rw[show p+1-1=p by omega];exact ed (by omega) (by omega)
 have R:c8 b (p+1) (m-1):=⟨h1,h2,by omega,by omega⟩
 unfold gZ;simp only[e1];have hg:y2 (((),(n,())),((b,(p+1,())),()))=some ((((),(n,((decide (n<1)||(b.length:Int)==0),()))),((b,(p+1,())),()))):=by
  unfold y2;cases decide (n<1)<;>rfl
 refine ad.eq hg ?_
 refine ad.ite (fun hc=>ad.ret ⟨R,Int.le_refl _,fun hn=>hn⟩) fun hc=>?_
 have hc:(decide (n<1)||(b.length:Int)==0)=false:=hc;simp only[Bool.or_eq_false_iff,decide_eq_false_iff_not,beq_eq_false_iff_ne,ne_eq] at hc;have hn:1<=n:=by omega
 have hb:0<b.length:=by omega
 simp only[e2];refine ad.ite (fun Z=>?_) fun Z=>?_
 ·have Z:p<(b.length:Int):=of_decide_eq_true Z;obtain⟨x,ax,an⟩:=nN (xs:=b) ab Z;obtain⟨bG,ci⟩:=h2 x an;refine ad.eq ax ?_
  have b0:IntKind.i64.wrap x=x:=ed (by omega) (by omega)
  refine ad.eq (x:=x%n) (by show l9 (IntKind.i64.wrap x) n=_;rw[b0];exact tw bG (by omega)) ?_
  exact ad.ret ⟨R,Int.emod_nonneg _ (by omega),fun _=>Int.emod_lt_of_pos _ (by omega)⟩
 ·have hl:0<(b.length:Int):=by omega
  have sG:IntKind.i64.wrap (IntKind.i64.wrap (p*7)+3)=p*7+3:=by rw[ed (n:=p*7) (by omega) (by omega)];exact ed (by omega) (by omega)
  obtain⟨x,ax,an⟩:=nN (xs:=b) (Int.emod_nonneg p (b:=(b.length:Int)) (by omega)) (Int.emod_lt_of_pos p hl)
  obtain⟨bG,ci⟩:=h2 x an;obtain⟨y,cx,ea⟩:=nN (xs:=b) (Int.emod_nonneg (p*7+3) (b:=(b.length:Int)) (by omega)) (Int.emod_lt_of_pos (p*7+3) hl)
  obtain⟨X5,atp⟩:=h2 y ea;have q0:0<=p/(b.length:Int):=Int.ediv_nonneg ab (by omega)
  have q1:p/(b.length:Int)<=p:=Int.ediv_le_self _ ab;refine ad.eq (x:=p%(b.length:Int)) (tw ab hl) ?_
  refine ad.eq ax ?_
  refine ad.eq (x:=(p*7+3)%(b.length:Int)) (by show l9 (IntKind.i64.wrap (IntKind.i64.wrap (p*7)+3)) (b.length:Int)=_;rw[sG];exact tw (by omega) hl) ?_
  refine ad.eq cx ?_
  refine ad.eq (x:=p/(b.length:Int)) (A5 rfl ab (by omega) hl) ?_
  have b_:IntKind.i64.wrap x=x:=ed (by omega) (by omega)
  have w2:IntKind.i64.wrap y=y:=ed (by omega) (by omega)
  have hU:IntKind.i64.wrap (x*131)=x*131:=ed (by omega) (by omega)
  have sB:IntKind.i64.wrap (y*1117)=y*1117:=ed (by omega) (by omega)
  have sA:IntKind.i64.wrap (x*131+y*1117)=x*131+y*1117:=ed (by omega) (by omega)
  have pD:IntKind.i64.wrap (p*29)=p*29:=ed (by omega) (by omega)
  have jJ:IntKind.i64.wrap (x*131+y*1117+p*29)=x*131+y*1117+p*29:=ed (by omega) (by omega)
  have pC:IntKind.i64.wrap (p/(b.length:Int)*53)=p/(b.length:Int)*53:=ed (by omega) (by omega)
  have ie:IntKind.i64.wrap (x*131+y*1117+p*29+p/(b.length:Int)*53)=x*131+y*1117+p*29+p/(b.length:Int)*53:=ed (by omega) (by omega)
  simp only[b_,w2,hU,sB,sA,pD,jJ,pC,ie];have n0:0<=x*131+y*1117+p*29+p/(b.length:Int)*53:=by omega
  have n1:x*131+y*1117+p*29+p/(b.length:Int)*53<4611686018427387904:=by omega
  generalize x*131+y*1117+p*29+p/(b.length:Int)*53=X at n0 n1;refine ad.eq (x:=X/64) (A5 rfl n0 (by omega) (by decide)) ?_
  have hx:=age n0 n1 (Int.ediv_nonneg n0 (by decide:(0:Int)<=64)) (Int.lt_of_le_of_lt (Int.ediv_le_self 64 n0) n1)
  refine ad.eq (x:=nS .i64 X (X/64)%n) (tw hx (by omega)) ?_
  exact ad.ret ⟨R,Int.emod_nonneg _ (by omega),fun _=>Int.emod_lt_of_pos _ (by omega)⟩
theorem ld(a)(m:Nat)(h:c8 a.2.1.1 a.2.1.2.1 m)(hm:1<=m)(hl:(1:Int)<=(a.1.2.1:List J).length):ad (ju a) (fun r=>c8 r.2.1.1 r.2.1.2.1 (m-1)/\r.1.2.1∈(a.1.2.1:List J)):=by
 unfold ju;refine ad.bind (im _ m h hm) fun r hr=>?_
 obtain⟨x,ax,an⟩:=nN (xs:=(a.1.2.1:List J)) hr.2.1 (hr.2.2 hl);exact ad.eq ax (ad.ret ⟨hr.1,an⟩)
theorem R7(a)(m:Nat)(h:c8 a.2.1.1 a.2.1.2.1 m)(hm:1<=m)(hl:(1:Int)<=(a.1.2.1:List Int).length):ad (wc a) (fun r=>c8 r.2.1.1 r.2.1.2.1 (m-1)/\r.1.2.1∈(a.1.2.1:List Int)):=by
 unfold wc;refine ad.bind (im _ m h hm) fun r hr=>?_
 obtain⟨x,ax,an⟩:=nN (xs:=(a.1.2.1:List Int)) hr.2.1 (hr.2.2 hl);exact ad.eq ax (ad.ret ⟨hr.1,an⟩)
abbrev dw(s:J):Prop:=s.length<=200
theorem ri{ay:List J}(h:ay.all (fun s=>decide (s.length<=200))=true){s:J}(M:s∈ay):dw s:=of_decide_eq_true (List.all_eq_true.1 h s M)
theorem Dw(a)(m:Nat)(h:c8 a.2.1.1 a.2.1.2.1 m)(hm:1<=m):ad (tJ a) (fun r=>c8 r.2.1.1 r.2.1.2.1 (m-1)/\dw r.1.2.1):=by
 unfold tJ;refine ad.bind (ld _ m h hm (by simp)) fun r hr=>ad.ret ⟨hr.1,ri (by rfl) hr.2⟩
theorem D3(a)(m:Nat)(h:c8 a.2.1.1 a.2.1.2.1 m)(hm:1<=m):ad (tD a) (fun r=>c8 r.2.1.1 r.2.1.2.1 (m-1)/\dw r.1.2.1):=by
 unfold tD;refine ad.bind (ld _ m h hm (by simp)) fun r hr=>ad.ret ⟨hr.1,ri (by rfl) hr.2⟩
theorem N5(a)(M:(a.1.1:J).length<=1)(h0:(0:Int)<=a.1.2.1)(h1:(a.1.2.1:Int)<=127):ad (f266 a) (fun r=>dw r.1.1):=by
 obtain⟨⟨(s:J),(n:Int),u⟩,bv⟩:=a;unfold f266;have key:ad (Gd ((s,(n,(([]:J),()))),())) (fun r=>dw r.1.1):=by
  refine ad.loop (fun(k:Nat) y=>(0:Int)<=y.1.2.1/\(y.1.2.1:Int).toNat=k/\(y.1.2.1:Int).toNat*(y.1.1:J).length+(y.1.2.2.1:J).length<=127/\(y.1.1:J).length<=256/\(y.1.2.1:Int)<=127) (fun k y al=>?_) n.toNat _ ⟨h0,rfl,?_,by show s.length<=256;have:s.length<=1:=M;omega,h1⟩
  ·obtain⟨⟨(s:J),(n:Int),(out:J),u⟩,bv⟩:=y;obtain⟨dB,db,ek,iX,fh⟩:=al;have fh:n<=127:=fh;have dB:0<=n:=dB;have ek:n.toNat*s.length+out.length<=127:=ek;have iX:s.length<=256:=iX;unfold PW;refine ad.ite (fun hc=>?_) fun hc=>?_
   ·have hc:n>0:=of_decide_eq_true hc;have fi:1<=n.toNat:=by omega
    have fB:s.length<=127:=by have:=Nat.mul_le_mul_right s.length fi;omega
    have piece:ad (zm ((s,(n,(out,()))),())) (fun r=>r.1.1=s/\r.1.2.1=n/\(n%2=1/\(r.1.2.2.1:J).length=out.length+s.length\/n%2=0/\(r.1.2.2.1:J).length=out.length)):=by
     unfold zm;refine ad.eq (x:=n%2) (tw dB (by decide)) ?_
     refine ad.ite (fun Z=>?_) fun Z=>?_
     ·have Z:n%2=1:=by simpa using Z
      exact ad.eq (By (s:=out) (t:=s) (by omega)) (ad.ret ⟨rfl,rfl,.inl ⟨Z,by simp⟩⟩)
     ·have Z:¬n%2=1:=by simpa using Z
      exact ad.ret ⟨rfl,rfl,.inr ⟨by omega,rfl⟩⟩
    refine ad.bind piece fun r hr=>?_
    obtain⟨⟨(ar:J),(fF:Int),(Ih:J),v⟩,v'⟩:=r;obtain⟨r1,r2,c9⟩:=hr;have r1:ar=s:=r1;have r2:fF=n:=r2;subst r1 r2;refine ad.eq (By (s:=ar) (t:=ar) (by omega)) ?_
    refine ad.eq (x:=fF/2) (A5 (x:=fF) rfl dB (by omega) (by decide)) ?_
    refine ad.ret ⟨(fF/2).toNat,?_,?_⟩
    ·show(fF/2).toNat<k;have:fF.toNat=k:=db;omega
    ·refine⟨by show 0<=fF/2;omega,rfl,?_,by show(ar++ar).length<=256;simp;omega,by show fF/2<=127;omega⟩
     show(fF/2).toNat*(ar++ar).length+Ih.length<=127;have c9:fF%2=1/\Ih.length=out.length+ar.length\/fF%2=0/\Ih.length=out.length:=c9;obtain⟨q,ao⟩:∃q:Nat,(fF/2).toNat=q:=⟨_,rfl⟩;rw[ao,List.length_append];rcases c9 with⟨c9,fV⟩|⟨c9,fV⟩
     ·have e:fF.toNat=2*q+1:=by omega
      rw[e] at ek;rw[fV];have:(2*q+1)*ar.length=q*(ar.length+ar.length)+ar.length:=by rw[Nat.add_mul,Nat.one_mul,Nat.mul_assoc,Nat.mul_add];omega
      omega
     ·have e:fF.toNat=2*q:=by omega
      rw[e] at ek;rw[fV];have:2*q*ar.length=q*(ar.length+ar.length):=by rw[Nat.mul_add,Nat.mul_assoc];omega
      omega
   ·exact ad.ret (show out.length<=200 by omega)
  ·show n.toNat*s.length+0<=127;have M:s.length<=1:=M;have h1:n<=127:=h1;have:n.toNat*s.length<=n.toNat*1:=Nat.mul_le_mul_left _ M;omega
 exact ad.bind key fun r hr=>ad.ret hr
theorem aaT(a)(m:Nat)(h:c8 a.2.1.1 a.2.1.2.1 m)(hm:1<=m):ad (Bm a) (fun r=>c8 r.2.1.1 r.2.1.2.1 (m-1)/\dw r.1.2.1):=by
 unfold Bm;refine ad.bind (N5 _ (by simp) (by show(0:Int)<=80;decide) (by show(80:Int)<=127;decide)) fun q ao=>?_
 refine ad.bind (ld _ m h hm (by simp)) fun r hr=>ad.ret ⟨hr.1,?_⟩
 have:=hr.2;simp only[List.mem_cons,List.not_mem_nil,or_false] at this;rcases this with e|e|e|e|e|e
 ·show(r.1.2.1:J).length<=200;rw[e];decide
 ·show(r.1.2.1:J).length<=200;rw[e];decide
 ·show(r.1.2.1:J).length<=200;rw[e];decide
 ·show(r.1.2.1:J).length<=200;rw[e];decide
 ·show(r.1.2.1:J).length<=200;rw[e];decide
 ·show(r.1.2.1:J).length<=200;rw[e];exact ao
abbrev ms(e:aR):Prop:=dw e.path/\dw e.text
theorem Mo(a)(m:Nat)(h:c8 a.2.1.1 a.2.1.2.1 m)(hm:4<=m):ad (we a) (fun r=>c8 r.2.1.1 r.2.1.2.1 (m-4)/\ms ⟨r.2.2.1.1,r.2.2.1.2.1,r.2.2.1.2.2.1,r.2.2.1.2.2.2.1⟩):=by
 unfold we;refine ad.bind (D3 _ m h (by omega)) fun r1 h1=>?_
 refine ad.bind (R7 _ (m-1) h1.1 (by omega) (by simp)) fun r2 h2=>?_
 refine ad.bind (im _ (m-1-1) h2.1 (by omega)) fun c9 ab=>?_
 refine ad.ite (fun _=>?_) fun _=>ad.ite (fun _=>?_) fun _=>?_
 ·exact ad.bind (aaT _ _ ab.1 (by omega)) fun fV aF=>ad.ret ⟨aF.1.less (by omega),h1.2,aF.2⟩
 ·exact ad.bind (D3 _ _ ab.1 (by omega)) fun fV aF=>ad.ret ⟨aF.1.less (by omega),h1.2,aF.2⟩
 ·exact ad.ret ⟨ab.1.less (by omega),h1.2,show(0:Nat)<=200 by decide⟩
theorem EJ(a)(h:cq a.1.1.length):f156 a=some (((),()),(a.1.1,())):=by
 obtain⟨⟨t,u⟩,bv⟩:=a;have h:t.length<=2097152:=h;simp only[f156,eZ (show(48:Nat)<=100 by decide) (show aM (([]:List aR).length+t.length) by unfold aM;simp;omega),List.nil_append,Option.bind_some]
abbrev jk(t:List aR):Prop:=t.length<=16/\∀e,e∈t->ms e
theorem Ph{t:List aR}{k:Nat}{e:aR}(h:∀e,e∈t->ms e)(he:ms e):∀x,x∈t.set k e->ms x:=by
 intro x hx;rcases List.mem_or_eq_of_mem_set hx with hx|hx
 ·exact h x hx
 ·rw[hx];exact he
theorem Fs(a)(aA:jk a.1.1)(he:ms ⟨a.1.2.1.1,a.1.2.1.2.1,a.1.2.1.2.2.1,a.1.2.1.2.2.2.1⟩):ad (f262 a) (fun r=>jk r.2.1):=by
 obtain⟨⟨t,⟨path,kind,mode,text,ig⟩,u⟩,bv⟩:=a;obtain⟨h1,h2⟩:=aA;have h1:t.length<=16:=h1;have he:ms ⟨path,kind,mode,text⟩:=he;have hb:cq t.length:=by unfold cq;omega
 unfold f262;refine ad.eq (GZ ((t,(path,())),()) hb) ?_
 refine ad.eq (EJ ((t,()),()) hb) ?_
 have ag:=ra t path;have e1:=MX (((path,(kind,(mode,(text,())))),()),()) (Nat.le_trans he.1 (by decide)) (Nat.le_trans he.2 (by decide))
 have e2:=Qf ((path,()),()) (Nat.le_trans he.1 (by decide))
 have b0:=O6 ((t,(iy path,())),()) hb;obtain⟨c,hc⟩:∃c:Bool,zo ((t,((),((),(false,((bU t path:Int),(gq t path,((),()))))))),((path,(kind,(mode,(text,())))),(([]:List aR),(t,()))))=
   some ((t,((),((),(false,((bU t path:Int),(gq t path,((),(c,())))))))),((path,(kind,(mode,(text,())))),(([]:List aR),(t,())))):=by
  unfold zo;simp only[e1,Option.bind_some,Bool.not_not];cases mN ⟨path,kind,mode,text⟩ with
  |false=>exact⟨true,rfl⟩
  |true=>simp only[cond_true,e2,Option.bind_some,b0];exact⟨_,rfl⟩
 refine ad.eq hc ?_
 refine ad.ite (fun _=>ad.ret ⟨h1,h2⟩) fun _=>?_
 obtain⟨d,Z⟩:∃d:Bool,zn ((t,((),((),(false,((bU t path:Int),(gq t path,((),()))))))),((path,(kind,(mode,(text,())))),(([]:List aR),(t,()))))=
   some ((t,((),((),(false,((bU t path:Int),(gq t path,((),(d,())))))))),((path,(kind,(mode,(text,())))),(([]:List aR),(t,())))):=by
  unfold zn;cases bW:gq t path with
  |false=>exact⟨false,rfl⟩
  |true=>
   unfold gq at bW;cases ao:t[bU t path]? with
   |none=>rw[ao] at bW;cases bW
   |some e=>simp only[cond_true,cc,ao,Option.bind_some];exact⟨_,rfl⟩
 refine ad.eq Z ?_
 refine ad.ite (fun _=>ad.ret ⟨h1,h2⟩) fun _=>?_
 refine ad.ite (fun bW=>?_) fun _=>ad.ite (fun _=>ad.ret ⟨h1,h2⟩) fun hl=>?_
 ·have bW:gq t path=true:=bW;unfold gq at bW;cases ao:t[bU t path]? with
  |none=>rw[ao] at bW;cases bW
  |some e=>
   refine ad.eq (oU (ct ao)) ?_
   refine ad.eq (x:=aR.mk path kind mode text) (by show(t[bU t path]?).bind _=_;rw[ao];rfl) ?_
   exact ad.ret ⟨by show(t.set _ _).length<=16;rw[List.length_set];exact h1,Ph h2 he⟩
 ·have hl:¬((t.length:Int)>=16):=of_decide_eq_false hl;refine ad.eq (oO ag) ?_
  refine ad.eq (eZ (by decide) (by unfold aM;simp;omega)) ?_
  refine ad.eq (eZ (by decide) (by unfold aM;simp;omega)) ?_
  refine ad.eq (pT ag) ?_
  refine ad.eq (eZ (by decide) (by unfold aM;simp;omega)) ?_
  refine ad.ret ⟨?_,fun x hx=>?_⟩
  ·show(([]++t.take (bU t path)++[aR.mk path kind mode text])++t.drop (bU t path)).length<=16;simp;omega
  ·have hx:x∈([]++t.take (bU t path)++[aR.mk path kind mode text])++t.drop (bU t path):=hx;simp only[List.nil_append,List.mem_append,List.mem_singleton] at hx;rcases hx with(hx|hx)|hx
   ·exact h2 x (List.mem_of_mem_take hx)
   ·rw[hx];exact he
   ·exact h2 x (List.mem_of_mem_drop hx)
abbrev i149:Shape:=⟨[aq 0],[],28⟩
abbrev nW:Shape:=⟨[a8 2],[],28⟩
noncomputable def H1(aL:i149.L->Option nW.L):bb:=bf az Tryz.f149 i149 nW [] aL
noncomputable abbrev alO(aL:i149.L->Option nW.L):bD:=[(149,(H1 aL))]
theorem amn(aL:i149.L->Option nW.L)(eb:a_ ae 149 (H1 aL)):bg ae (bu az (alO aL)):=bB ⟨eb,⟨⟩⟩
noncomputable def rA(aL:i149.L->Option nW.L)(a:i149.L):Option nW.L:=
 bif(decide (a.1.1<((-9223372036854775807):Int))) then
 some ((([45,57,50,50,51,51,55,50,48,51,54,56,53,52,55,55,53,56,48,56]:J),()),())
else
 bif(decide (a.1.1<(0:Int))) then
(aL (((IntKind.i64.wrap (0-a.1.1)),()),())).bind fun b=>
(mr ([45]:J) b.1.1).bind fun c=>
 some ((c,()),())
else
 bif(decide (a.1.1<(10:Int))) then
 some (((strOf ([(IntKind.u8.wrap (IntKind.i64.wrap ((48:Int)+a.1.1)))]:List Int)),()),())
else
(qj .i64 a.1.1 (10:Int)).bind fun d=>
(aL ((d,()),())).bind fun e=>
(l9 a.1.1 (10:Int)).bind fun f=>
(mr e.1.1 (strOf ([(IntKind.u8.wrap (IntKind.i64.wrap ((48:Int)+f)))]:List Int))).bind fun g=>
 some ((g,()),())
theorem ahX(aL:i149.L->Option nW.L)(eb:a_ ae 149 (H1 aL)):a_ ae 149 (bf az Tryz.f149 i149 nW [] (rA aL)):=bh (amn aL eb) Tryz.func149 (by kernel_rfl) aB (fun y=>by kernel_rfl) fun a=>by kernel_rfl
noncomputable def f149:i149.L->Option nW.L:=k8 rA l7
noncomputable def Vm:bb:=bf az Tryz.f149 i149 nW [] f149
theorem ajz:a_ ae 149 Vm:=G8 (ff:=rA) ahX l7
noncomputable abbrev alf:bD:=[(304,Co)]
theorem w8:bg ae (bu az alf):=bB ⟨H4,⟨⟩⟩
abbrev Pk:Shape:=⟨[a8 0,aq 3],[],43⟩
abbrev O':List bk:=[(.norm,⟨[a8 0,aq 3,aQ 12],[],43⟩)]
noncomputable def PS(y:Pk.L):Option (aY O'):=
 bif(decide ((y.1.1.length:Int)>(1:Int))) then
(bd y.1.1 (1:Int)).bind fun a=>
 some ((y.1.1,y.1.2.1,((a.toNat:Int)==(33:Int)),()),())
else
 some ((y.1.1,y.1.2.1,false,()),())
theorem aez:bq ae (aH (aH (codeOf Tryz.f308) 1 14) 14 28) (bE Pk O' PS):=dI w8 (by kernel_rfl) aB fun y=>by kernel_rfl
abbrev Pl:Shape:=⟨[a8 0,aq 3],[],43⟩
abbrev Pa:List bk:=[(.norm,⟨[a8 0,aq 3],[],43⟩)]
noncomputable def PT(y:Pl.L):Option (aY Pa):=
(PS ((y.1.1,y.1.2.1,()),())).bind fun a=>
 bif a.1.2.2.1 then
 some ((a.1.1,(2:Int),()),())
else
 some ((a.1.1,a.1.2.1,()),())
theorem aeA:bq ae (aH (codeOf Tryz.f308) 1 14) (bE Pl Pa PT):=dI w8 (by kernel_rfl) (bN aez aB) fun y=>by kernel_rfl
abbrev zb:Shape:=⟨[a8 0,aq 3,aq 4],[],43⟩
abbrev EQ:List bk:=[(.exit 0,⟨[a8 0,aq 3,aq 4],[],43⟩)]
noncomputable def adQ(y:zb.L):cy zb EQ:=
 bif(decide (y.1.2.1<(y.1.1.length:Int))) then
(bd y.1.1 y.1.2.1).bind fun a=>
(f304 (((a.toNat:Int),()),())).bind fun b=>
 bif b.1.1 then
 some (.inl ((y.1.1,(IntKind.i64.wrap (y.1.2.1+(1:Int))),y.1.2.2.1,()),()))
else
 some (.inr ((y.1.1,y.1.2.1,y.1.2.2.1,()),()))
else
 some (.inr ((y.1.1,y.1.2.1,y.1.2.2.1,()),()))
noncomputable def OR:zb.L->Option (aY EQ):=b7 adQ
theorem ade:bq ae (aH (codeOf Tryz.f308) 1 124) (bE zb EQ OR):=cE w8 (by kernel_rfl) aB fun y=>by kernel_rfl
abbrev Oy:Shape:=⟨[a8 0,aq 3,aq 4],[],43⟩
abbrev Oe:List bk:=[(.norm,⟨[aq 3,aQ 40],[],43⟩)]
noncomputable def OV(y:Oy.L):Option (aY Oe):=
 bif(!(y.1.2.1==y.1.2.2.1)) then
 bif(!(y.1.2.1==(y.1.1.length:Int))) then
(bd y.1.1 y.1.2.1).bind fun a=>
 some ((y.1.2.1,((a.toNat:Int) !=(93:Int)),()),())
else
 some ((y.1.2.1,true,()),())
else
 some ((y.1.2.1,true,()),())
theorem adb:bq ae (aH (codeOf Tryz.f308) 1 252) (bE Oy Oe OV):=dI w8 (by kernel_rfl) aB fun y=>by kernel_rfl
abbrev i308:Shape:=⟨[a8 0],[],43⟩
abbrev S6:Shape:=⟨[aq 2],[],43⟩
noncomputable def f308(a:i308.L):Option S6.L:=
(PT ((a.1.1,(1:Int),()),())).bind fun b=>
(OR ((b.1.1,b.1.2.1,b.1.2.1,()),())).bind fun c=>
(OV ((c.1.1,c.1.2.1,c.1.2.2.1,()),())).bind fun d=>
 bif d.1.2.1 then
 some (((0:Int),()),())
else
 some (((IntKind.i64.wrap (d.1.1+(1:Int))),()),())
noncomputable def I0:bb:=bf az Tryz.f308 i308 S6 [] f308
theorem SN:a_ ae 308 I0:=bh w8 Tryz.func308 (by kernel_rfl) (bN aeA (bN ade (bN adb aB))) (fun y=>by kernel_rfl) fun a=>by kernel_rfl
noncomputable abbrev alh:bD:=[(304,Co),(308,I0)]
theorem Jg:bg ae (bu az alh):=bB ⟨H4,SN,⟨⟩⟩
abbrev Nj:Shape:=⟨[a8 0,aq 3],[],45⟩
abbrev M7:List bk:=[(.norm,⟨[a8 0,aq 3,aQ 26],[],45⟩)]
noncomputable def yW(y:Nj.L):Option (aY M7):=
(bd y.1.1 y.1.2.1).bind fun a=>
 bif(!((a.toNat:Int)==(42:Int))) then
(bd y.1.1 y.1.2.1).bind fun b=>
 some ((y.1.1,y.1.2.1,((b.toNat:Int)==(63:Int)),()),())
else
 some ((y.1.1,y.1.2.1,true,()),())
theorem abu:bq ae (aH (dn (aH (codeOf Tryz.f305) 1 26)) 52 6726) (bE Nj M7 yW):=dI Jg (by kernel_rfl) aB fun y=>by kernel_rfl
abbrev zC:Shape:=⟨[a8 0,aq 3],[],45⟩
abbrev Fw:List bk:=[(.ret,⟨[aQ 2],[],45⟩),(.exit 0,⟨[a8 0],[],45⟩)]
noncomputable def PU(y:zC.L):cy zC Fw:=
 bif(decide (y.1.2.1<(y.1.1.length:Int))) then
(bd y.1.1 y.1.2.1).bind fun a=>
 bif((a.toNat:Int)==(91:Int)) then
(cA y.1.1 y.1.2.1 (y.1.1.length:Int)).bind fun b=>
(f308 ((b,()),())).bind fun c=>
 bif(c.1.1==(0:Int)) then
 some (.inr (.inl ((false,()),())))
else
 some (.inl ((y.1.1,(IntKind.i64.wrap ((IntKind.i64.wrap ((IntKind.i64.wrap (y.1.2.1+c.1.1))-(1:Int)))+(1:Int))),()),()))
else
(yW ((y.1.1,y.1.2.1,()),())).bind fun d=>
 bif d.1.2.2.1 then
 some (.inl ((d.1.1,(IntKind.i64.wrap (d.1.2.1+(1:Int))),()),()))
else
(bd d.1.1 d.1.2.1).bind fun e=>
(f304 (((e.toNat:Int),()),())).bind fun f=>
 bif(!f.1.1) then
 some (.inr (.inl ((false,()),())))
else
 some (.inl ((d.1.1,(IntKind.i64.wrap (d.1.2.1+(1:Int))),()),()))
else
 some (.inr (.inr ((y.1.1,()),())))
noncomputable def PM:zC.L->Option (aY Fw):=b7 PU
theorem aeB:bq ae (aH (codeOf Tryz.f305) 1 26) (bE zC Fw PM):=cE Jg (by kernel_rfl) (bN abu aB) fun y=>by kernel_rfl
abbrev i305:Shape:=⟨[a8 0],[],45⟩
abbrev S7:Shape:=⟨[aQ 2],[],45⟩
noncomputable def f305(a:i305.L):Option S7.L:=
(PM ((a.1.1,(0:Int),()),())).bind fun b=>
(match b with
|.inl c=>
 some ((c.1.1,()),())
|.inr d=>
 some (((!(d.1.1==([]:J))),()),()))
noncomputable def UO:bb:=bf az Tryz.f305 i305 S7 [] f305
theorem ai5:a_ ae 305 UO:=bh Jg Tryz.func305 (by kernel_rfl) (bN aeB aB) (fun y=>by kernel_rfl) fun a=>by kernel_rfl
noncomputable abbrev alj:bD:=[(89,x1),(305,UO)]
theorem VE:bg ae (bu az alj):=bB ⟨Cx,ai5,⟨⟩⟩
abbrev zD:Shape:=⟨[a8 0,bS 3 3000192,aq 4],[b8 3000192 .str 3 0],30⟩
abbrev Fx:List bk:=[(.ret,⟨[aQ 2],[],30⟩),(.exit 0,⟨[a8 0,bS 3 3000192],[b8 3000192 .str 3 0],30⟩)]
noncomputable def PV(y:zD.L):cy zD Fx:=
 bif(decide (y.1.2.2.1<(y.2.1.length:Int))) then
(iz y.2.1.length y.1.2.2.1).bind fun a=>
(y.2.1[a]?).bind fun b=>
(f305 ((b,()),())).bind fun c=>
 bif(!c.1.1) then
 some (.inr (.inl ((false,()),())))
else
 some (.inl ((y.1.1,(),(IntKind.i64.wrap (y.1.2.2.1+(1:Int))),()),y.2.1,()))
else
 some (.inr (.inr ((y.1.1,(),()),y.2.1,())))
noncomputable def PN:zD.L->Option (aY Fx):=b7 PV
theorem aeC:bq ae (aH (codeOf Tryz.f288) 1 58) (bE zD Fx PN):=cE VE (by kernel_rfl) aB fun y=>by kernel_rfl
abbrev i288:Shape:=⟨[a8 0],[],30⟩
abbrev S':Shape:=⟨[aQ 2],[],30⟩
noncomputable def f288(a:i288.L):Option S'.L:=
(f89 ((a.1.1,(47:Int),(IntKind.i64.wrap ((a.1.1.length:Int)+(1:Int))),()),())).bind fun b=>
(PN ((a.1.1,(),(0:Int),()),b.2.1,())).bind fun c=>
(match c with
|.inl d=>
 some ((d.1.1,()),())
|.inr e=>
 bif(decide ((e.2.1.length:Int)<=(5:Int))) then
 some (((decide ((e.1.1.length:Int)<=(40:Int))),()),())
else
 some ((false,()),()))
noncomputable def US:bb:=bf az Tryz.f288 i288 S' [] f288
theorem ai9:a_ ae 288 US:=bh VE Tryz.func288 (by kernel_rfl) (bN aeC aB) (fun y=>by kernel_rfl) fun a=>by kernel_rfl
abbrev Ni:Shape:=⟨[a8 0,(1,.am (.d (.int .u8))),aQ 5,aq 6],[],33⟩
abbrev M6:List bk:=[(.norm,⟨[a8 0,(1,.am (.d (.int .u8))),aQ 5,aq 6,aQ 29],[],33⟩)]
noncomputable def NM(y:Ni.L):Option (aY M6):=
(bd y.1.1 y.1.2.2.2.1).bind fun a=>
 bif((a.toNat:Int)==y.1.2.1) then
 bif(!(decide (y.1.2.2.2.1>(1:Int)))) then
 some ((y.1.1,y.1.2.1,y.1.2.2.1,y.1.2.2.2.1,(!y.1.2.2.1),()),())
else
 some ((y.1.1,y.1.2.1,y.1.2.2.1,y.1.2.2.2.1,true,()),())
else
 some ((y.1.1,y.1.2.1,y.1.2.2.1,y.1.2.2.2.1,false,()),())
theorem abt:bq ae (aH (dn (aH (codeOf Tryz.f309) 1 58)) 116 1864) (bE Ni M6 NM):=dI g0 (by kernel_rfl) aB fun y=>by kernel_rfl
abbrev zB:Shape:=⟨[a8 0,(1,.am (.d (.int .u8))),aQ 5,aq 6],[],33⟩
abbrev Fv:List bk:=[(.ret,⟨[aQ 4],[],33⟩),(.exit 0,⟨[aQ 5],[],33⟩)]
noncomputable def afA(y:zB.L):cy zB Fv:=
 bif(decide (y.1.2.2.2.1<(IntKind.i64.wrap ((y.1.1.length:Int)-(1:Int))))) then
(NM ((y.1.1,y.1.2.1,y.1.2.2.1,y.1.2.2.2.1,()),())).bind fun a=>
 bif a.1.2.2.2.2.1 then
 some (.inr (.inl (((!a.1.2.2.1),()),())))
else
 some (.inl ((a.1.1,a.1.2.1,a.1.2.2.1,(IntKind.i64.wrap (a.1.2.2.2.1+(1:Int))),()),()))
else
 some (.inr (.inr ((y.1.2.2.1,()),())))
noncomputable def PL:zB.L->Option (aY Fv):=b7 afA
theorem aey:bq ae (aH (codeOf Tryz.f309) 1 58) (bE zB Fv PL):=cE g0 (by kernel_rfl) (bN abt aB) fun y=>by kernel_rfl
abbrev i309:Shape:=⟨[a8 0,(1,.am (.d (.int .u8)))],[],33⟩
abbrev S5:Shape:=⟨[aQ 4],[],33⟩
noncomputable def f309(a:i309.L):Option S5.L:=
(bd a.1.1 (1:Int)).bind fun b=>
(PL ((a.1.1,a.1.2.1,((b.toNat:Int)==(33:Int)),(1:Int),()),())).bind fun c=>
(match c with
|.inl d=>
 some ((d.1.1,()),())
|.inr e=>
 some ((e.1.1,()),()))
noncomputable def UM:bb:=bf az Tryz.f309 i309 S5 [] f309
theorem ai3:a_ ae 309 UM:=bh g0 Tryz.func309 (by kernel_rfl) (bN aey aB) (fun y=>by kernel_rfl) fun a=>by kernel_rfl
abbrev i306:Shape:=⟨[a8 0,a8 1],[],68⟩
abbrev nU:Shape:=⟨[aQ 4],[],68⟩
noncomputable def HZ(aL:i306.L->Option nU.L):bb:=bf az Tryz.f306 i306 nU [] aL
noncomputable abbrev alg(aL:i306.L->Option nU.L):bD:=[(306,(HZ aL)),(308,I0),(309,UM)]
theorem al8(aL:i306.L->Option nU.L)(eb:a_ ae 306 (HZ aL)):bg ae (bu az (alg aL)):=bB ⟨eb,SN,ai3,⟨⟩⟩
noncomputable def qh(aL:i306.L->Option nU.L)(a:i306.L):Option nU.L:=
 bif(a.1.1==([]:J)) then
 some (((a.1.2.1==([]:J)),()),())
else
(bd a.1.1 (0:Int)).bind fun b=>
 bif((b.toNat:Int)==(42:Int)) then
(cA a.1.1 (1:Int) (a.1.1.length:Int)).bind fun c=>
(aL ((c,a.1.2.1,()),())).bind fun d=>
 bif(!d.1.1) then
 bif(!(a.1.2.1==([]:J))) then
(cA a.1.2.1 (1:Int) (a.1.2.1.length:Int)).bind fun e=>
(aL ((a.1.1,e,()),())).bind fun f=>
 some ((f.1.1,()),())
else
 some ((false,()),())
else
 some ((true,()),())
else
 bif(a.1.2.1==([]:J)) then
 some ((false,()),())
else
(bd a.1.1 (0:Int)).bind fun g=>
 bif((g.toNat:Int)==(63:Int)) then
(cA a.1.1 (1:Int) (a.1.1.length:Int)).bind fun h=>
(cA a.1.2.1 (1:Int) (a.1.2.1.length:Int)).bind fun i=>
(aL ((h,i,()),())).bind fun j=>
 some ((j.1.1,()),())
else
 bif((g.toNat:Int)==(91:Int)) then
(f308 ((a.1.1,()),())).bind fun k=>
(cA a.1.1 (0:Int) k.1.1).bind fun l=>
(bd a.1.2.1 (0:Int)).bind fun m=>
(f309 ((l,(m.toNat:Int),()),())).bind fun n=>
 bif n.1.1 then
(cA a.1.1 k.1.1 (a.1.1.length:Int)).bind fun D=>
(cA a.1.2.1 (1:Int) (a.1.2.1.length:Int)).bind fun p=>
(aL ((D,p,()),())).bind fun q=>
 some ((q.1.1,()),())
else
 some ((false,()),())
else
(bd a.1.1 (0:Int)).bind fun r=>
(bd a.1.2.1 (0:Int)).bind fun s=>
 bif((r.toNat:Int)==(s.toNat:Int)) then
(cA a.1.1 (1:Int) (a.1.1.length:Int)).bind fun t=>
(cA a.1.2.1 (1:Int) (a.1.2.1.length:Int)).bind fun u=>
(aL ((t,u,()),())).bind fun v=>
 some ((v.1.1,()),())
else
 some ((false,()),())
theorem ahV(aL:i306.L->Option nU.L)(eb:a_ ae 306 (HZ aL)):a_ ae 306 (bf az Tryz.f306 i306 nU [] (qh aL)):=bh (al8 aL eb) Tryz.func306 (by kernel_rfl) aB (fun y=>by kernel_rfl) fun a=>by kernel_rfl
noncomputable def f306:i306.L->Option nU.L:=k8 qh l7
noncomputable def UN:bb:=bf az Tryz.f306 i306 nU [] f306
theorem ai4:a_ ae 306 UN:=G8 (ff:=qh) ahV l7
abbrev i289:Shape:=⟨[a7 0 .str,a7 1 .str],[],49⟩
abbrev nV:Shape:=⟨[aQ 4],[],49⟩
noncomputable def H0(aL:i289.L->Option nV.L):bb:=bf az Tryz.f289 i289 nV [] aL
noncomputable abbrev ali(aL:i289.L->Option nV.L):bD:=[(289,(H0 aL)),(306,UN)]
theorem al9(aL:i289.L->Option nV.L)(eb:a_ ae 289 (H0 aL)):bg ae (bu az (ali aL)):=bB ⟨eb,ai4,⟨⟩⟩
noncomputable def rz(aL:i289.L->Option nV.L)(a:i289.L):Option nV.L:=
 bif((a.1.1.length:Int)==(0:Int)) then
 some ((((a.1.2.1.length:Int)==(0:Int)),()),())
else
(bd a.1.1 (0:Int)).bind fun b=>
 bif(b==([42,42]:J)) then
(cA a.1.1 (1:Int) (a.1.1.length:Int)).bind fun c=>
(aL ((c,a.1.2.1,()),())).bind fun d=>
 bif(!d.1.1) then
 bif(decide ((a.1.2.1.length:Int)>(0:Int))) then
(cA a.1.2.1 (1:Int) (a.1.2.1.length:Int)).bind fun e=>
(aL ((a.1.1,e,()),())).bind fun f=>
 some ((f.1.1,()),())
else
 some ((false,()),())
else
 some ((true,()),())
else
 bif(decide ((a.1.2.1.length:Int)>(0:Int))) then
(bd a.1.1 (0:Int)).bind fun g=>
(bd a.1.2.1 (0:Int)).bind fun h=>
(f306 ((g,h,()),())).bind fun i=>
 bif i.1.1 then
(cA a.1.1 (1:Int) (a.1.1.length:Int)).bind fun j=>
(cA a.1.2.1 (1:Int) (a.1.2.1.length:Int)).bind fun k=>
(aL ((j,k,()),())).bind fun l=>
 some ((l.1.1,()),())
else
 some ((false,()),())
else
 some ((false,()),())
theorem ahW(aL:i289.L->Option nV.L)(eb:a_ ae 289 (H0 aL)):a_ ae 289 (bf az Tryz.f289 i289 nV [] (rz aL)):=bh (al9 aL eb) Tryz.func289 (by kernel_rfl) aB (fun y=>by kernel_rfl) fun a=>by kernel_rfl
noncomputable def f289:i289.L->Option nV.L:=k8 rz l7
noncomputable def UR:bb:=bf az Tryz.f289 i289 nV [] f289
theorem ai8:a_ ae 289 UR:=G8 (ff:=rz) ahW l7
noncomputable abbrev alq:bD:=[(89,x1),(252,I3),(288,US),(289,UR)]
theorem amb:bg ae (bu az alq):=bB ⟨Cx,SQ,ai9,ai8,⟨⟩⟩
abbrev i260:Shape:=⟨[a8 0,a8 1],[],24⟩
abbrev Th:Shape:=⟨[aQ 4],[],24⟩
noncomputable def f260(a:i260.L):Option Th.L:=
(f288 ((a.1.1,()),())).bind fun b=>
 bif b.1.1 then
(f252 ((a.1.2.1,()),())).bind fun c=>
 bif c.1.1 then
(f89 ((a.1.1,(47:Int),(IntKind.i64.wrap ((a.1.1.length:Int)+(1:Int))),()),())).bind fun d=>
(f89 ((a.1.2.1,(47:Int),(IntKind.i64.wrap ((a.1.2.1.length:Int)+(1:Int))),()),())).bind fun e=>
(f289 ((d.2.1,e.2.1,()),())).bind fun f=>
 some ((f.1.1,()),())
else
 some ((false,()),())
else
 some ((false,()),())
noncomputable def I2:bb:=bf az Tryz.f260 i260 Th [] f260
theorem SP:a_ ae 260 I2:=bh amb Tryz.func260 (by kernel_rfl) aB (fun y=>by kernel_rfl) fun a=>by kernel_rfl
abbrev i290:Shape:=⟨[a8 0,a8 1],[],30⟩
abbrev S_:Shape:=⟨[aQ 4],[],30⟩
noncomputable def f290(a:i290.L):Option S_.L:=
 bif(!(a.1.2.1==a.1.1)) then
 bif(decide ((a.1.2.1.length:Int)>(a.1.1.length:Int))) then
(cA a.1.2.1 (0:Int) (a.1.1.length:Int)).bind fun b=>
 bif(b==a.1.1) then
(bd a.1.2.1 (a.1.1.length:Int)).bind fun c=>
 some ((((c.toNat:Int)==(47:Int)),()),())
else
 some ((false,()),())
else
 some ((false,()),())
else
 some ((true,()),())
noncomputable def UQ:bb:=bf az Tryz.f290 i290 S_ [] f290
theorem ai7:a_ ae 290 UQ:=bh g0 Tryz.func290 (by kernel_rfl) aB (fun y=>by kernel_rfl) fun a=>by kernel_rfl
noncomputable abbrev alp:bD:=[(260,I2),(290,UQ)]
theorem Ji:bg ae (bu az alp):=bB ⟨SP,ai7,⟨⟩⟩
abbrev OC:Shape:=⟨[a7 0 .entry,a8 1,a8 2,aq 7],[],30⟩
abbrev Oi:List bk:=[(.norm,⟨[a7 0 .entry,a8 1,a8 2,aq 7,aQ 29],[],30⟩)]
noncomputable def zp(y:OC.L):Option (aY Oi):=
(bd y.1.1 y.1.2.2.2.1).bind fun a=>
(f290 ((y.1.2.2.1,a.path,()),())).bind fun b=>
 bif b.1.1 then
(bd y.1.1 y.1.2.2.2.1).bind fun c=>
(f260 ((y.1.2.1,c.path,()),())).bind fun d=>
 some ((y.1.1,y.1.2.1,y.1.2.2.1,y.1.2.2.2.1,d.1.1,()),())
else
 some ((y.1.1,y.1.2.1,y.1.2.2.1,y.1.2.2.2.1,false,()),())
theorem adi:bq ae (aH (dn (aH (codeOf Tryz.f261) 1 26)) 52 840) (bE OC Oi zp):=dI Ji (by kernel_rfl) aB fun y=>by kernel_rfl
abbrev zI:Shape:=⟨[a7 0 .entry,a8 1,a8 2,aq 7],[],30⟩
abbrev FC:List bk:=[(.ret,⟨[aQ 6],[],30⟩),(.exit 0,⟨[],[],30⟩)]
noncomputable def PX(y:zI.L):cy zI FC:=
 bif(decide (y.1.2.2.2.1<(y.1.1.length:Int))) then
(zp ((y.1.1,y.1.2.1,y.1.2.2.1,y.1.2.2.2.1,()),())).bind fun a=>
 bif a.1.2.2.2.2.1 then
 some (.inr (.inl ((true,()),())))
else
 some (.inl ((a.1.1,a.1.2.1,a.1.2.2.1,(IntKind.i64.wrap (a.1.2.2.2.1+(1:Int))),()),()))
else
 some (.inr (.inr ((),())))
noncomputable def PO:zI.L->Option (aY FC):=b7 PX
theorem aeH:bq ae (aH (codeOf Tryz.f261) 1 26) (bE zI FC PO):=cE Ji (by kernel_rfl) (bN adi aB) fun y=>by kernel_rfl
abbrev i261:Shape:=⟨[a7 0 .entry,a8 1,a8 2],[],30⟩
abbrev Tg:Shape:=⟨[aQ 6],[],30⟩
noncomputable def f261(a:i261.L):Option Tg.L:=
(PO ((a.1.1,a.1.2.1,a.1.2.2.1,(0:Int),()),())).bind fun b=>
(match b with
|.inl c=>
 some ((c.1.1,()),())
|.inr d=>
 some ((false,()),()))
noncomputable def UY:bb:=bf az Tryz.f261 i261 Tg [] f261
theorem ajf:a_ ae 261 UY:=bh Ji Tryz.func261 (by kernel_rfl) (bN aeH aB) (fun y=>by kernel_rfl) fun a=>by kernel_rfl
noncomputable abbrev aly:bD:=[(158,Cp),(260,I2),(261,UY)]
theorem Jl:bg ae (bu az aly):=bB ⟨H5,SP,ajf,⟨⟩⟩
abbrev Nk:Shape:=⟨[a7 0 .entry,a8 1,bS 5 3000320,aq 6],[b8 3000320 .entry 5 0],51⟩
abbrev M8:List bk:=[(.norm,⟨[a7 0 .entry,a8 1,bS 5 3000320,aq 6,aQ 42],[b8 3000320 .entry 5 0],51⟩)]
noncomputable def yY(y:Nk.L):Option (aY M8):=
(bd y.1.1 y.1.2.2.2.1).bind fun a=>
(f260 ((y.1.2.1,a.path,()),())).bind fun b=>
 bif(!b.1.1) then
(bd y.1.1 y.1.2.2.2.1).bind fun c=>
 bif(c.kind==(1:Int)) then
(bd y.1.1 y.1.2.2.2.1).bind fun d=>
(f261 ((y.1.1,y.1.2.1,d.path,()),())).bind fun e=>
 some ((y.1.1,y.1.2.1,(),y.1.2.2.2.1,e.1.1,()),y.2.1,())
else
 some ((y.1.1,y.1.2.1,(),y.1.2.2.2.1,false,()),y.2.1,())
else
 some ((y.1.1,y.1.2.1,(),y.1.2.2.2.1,true,()),y.2.1,())
theorem abx:bq ae (aH (dn (aH (codeOf Tryz.f225) 1 58)) 116 1864) (bE Nk M8 yY):=dI Jl (by kernel_rfl) aB fun y=>by kernel_rfl
abbrev zM:Shape:=⟨[a7 0 .entry,a8 1,bS 5 3000320,aq 6],[b8 3000320 .entry 5 0],51⟩
abbrev FG:List bk:=[(.exit 0,⟨[bS 5 3000320],[b8 3000320 .entry 5 0],51⟩)]
noncomputable def PY(y:zM.L):cy zM FG:=
 bif(decide (y.1.2.2.2.1<(y.1.1.length:Int))) then
(f158 ((y.1.1,()),())).bind fun a=>
 bif a.1.1 then
(yY ((y.1.1,y.1.2.1,(),y.1.2.2.2.1,()),y.2.1,())).bind fun b=>
 bif b.1.2.2.2.2.1 then
(bd b.1.1 b.1.2.2.2.1).bind fun c=>
(cR 48 b.2.1 ([c]:List aR)).bind fun d=>
 some (.inl ((b.1.1,b.1.2.1,(),(IntKind.i64.wrap (b.1.2.2.2.1+(1:Int))),()),d,()))
else
 some (.inl ((b.1.1,b.1.2.1,(),(IntKind.i64.wrap (b.1.2.2.2.1+(1:Int))),()),b.2.1,()))
else
 some (.inr (((),()),y.2.1,()))
else
 some (.inr (((),()),y.2.1,()))
noncomputable def PP:zM.L->Option (aY FG):=b7 PY
theorem aeM:bq ae (aH (codeOf Tryz.f225) 1 58) (bE zM FG PP):=cE Jl (by kernel_rfl) (bN abx aB) fun y=>by kernel_rfl
abbrev i225:Shape:=⟨[a7 0 .entry,a8 1],[],51⟩
abbrev Tr:Shape:=⟨[bS 4 3000256],[b8 3000256 .entry 4 0],51⟩
noncomputable def f225(a:i225.L):Option Tr.L:=
(PP ((a.1.1,a.1.2.1,(),(0:Int),()),([]:List aR),())).bind fun b=>
 some (((),()),b.2.1,())
noncomputable def U7:bb:=bf az Tryz.f225 i225 Tr [] f225
theorem ajl:a_ ae 225 U7:=bh Jl Tryz.func225 (by kernel_rfl) (bN aeM aB) (fun y=>by kernel_rfl) fun a=>by kernel_rfl
noncomputable abbrev ahl:bD:=[(129,jU),(149,Vm),(262,UX),(263,Hz)]
theorem BG:bg ae (bu az ahl):=bB ⟨ko,ajz,aje,P',⟨⟩⟩
abbrev yu:Shape:=⟨[bj 0 500000 0,bS 3 3000192,bS 4 3000256,aq 5],[bi 500000 [bJ .u8,bM],b8 3000192 .entry 3 0,b8 3000256 .str 4 0],59⟩
abbrev DQ:List bk:=[(.exit 0,⟨[bj 0 500000 0,bS 3 3000192],[bi 500000 [bJ .u8,bM],b8 3000192 .entry 3 0],59⟩)]
noncomputable def MJ(y:yu.L):cy yu DQ:=
 bif(decide (y.1.2.2.2.1<(y.2.2.2.1.length:Int))) then
(gZ (((),(2:Int),()),(y.2.1.1,y.2.1.2.1,()),())).bind fun a=>
 bif(a.1.2.1==(0:Int)) then
(iz y.2.2.2.1.length y.1.2.2.2.1).bind fun b=>
(y.2.2.2.1[b]?).bind fun c=>
(f262 ((y.2.2.1,(c,(1:Int),(7:Int),([]:J),()),()),())).bind fun d=>
 some (.inl (((),(),(),(IntKind.i64.wrap (y.1.2.2.2.1+(1:Int))),()),(a.2.1.1,a.2.1.2.1,()),d.2.1,y.2.2.2.1,()))
else
 some (.inl (((),(),(),(IntKind.i64.wrap (y.1.2.2.2.1+(1:Int))),()),(a.2.1.1,a.2.1.2.1,()),y.2.2.1,y.2.2.2.1,()))
else
 some (.inr (((),(),()),(y.2.1.1,y.2.1.2.1,()),y.2.2.1,()))
noncomputable def MD:yu.L->Option (aY DQ):=b7 MJ
theorem _1:bq ae (aH (codeOf Tryz.f226) 1 122) (bE yu DQ MD):=cE BG (by kernel_rfl) aB fun y=>by kernel_rfl
abbrev yt:Shape:=⟨[bj 0 500000 0,bS 3 3000192,aq 6],[bi 500000 [bJ .u8,bM],b8 3000192 .entry 3 0],59⟩
abbrev DP:List bk:=[(.exit 2,⟨[bj 0 500000 0,bS 3 3000192],[bi 500000 [bJ .u8,bM],b8 3000192 .entry 3 0],59⟩)]
noncomputable def MI(y:yt.L):cy yt DP:=
 bif(decide (y.1.2.2.1>(0:Int))) then
(we (((),()),(y.2.1.1,y.2.1.2.1,()),())).bind fun a=>
(f262 ((y.2.2.1,(a.2.2.1.1,a.2.2.1.2.1,a.2.2.1.2.2.1,a.2.2.1.2.2.2.1,()),()),())).bind fun b=>
 some (.inl (((),(),(IntKind.i64.wrap (y.1.2.2.1-(1:Int))),()),(a.2.1.1,a.2.1.2.1,()),b.2.1,()))
else
 some (.inr (((),(),()),(y.2.1.1,y.2.1.2.1,()),y.2.2.1,()))
noncomputable def MC:yt.L->Option (aY DP):=b7 MI
theorem _0:bq ae (aH (codeOf Tryz.f226) 1 250) (bE yt DP MC):=cE BG (by kernel_rfl) aB fun y=>by kernel_rfl
abbrev yo:Shape:=⟨[bj 0 500000 0,bS 3 3000192,aq 7],[bi 500000 [bJ .u8,bM],b8 3000192 .entry 3 0],59⟩
abbrev DC:List bk:=[(.exit 4,⟨[bj 0 500000 0,bS 3 3000192],[bi 500000 [bJ .u8,bM],b8 3000192 .entry 3 0],59⟩)]
noncomputable def Mb(y:yo.L):cy yo DC:=
 bif(decide (y.1.2.2.1<(16:Int))) then
(f149 ((y.1.2.2.1,()),())).bind fun a=>
(mr ([102]:J) a.1.1).bind fun b=>
(f262 ((y.2.2.1,(b,(2:Int),(0:Int),([]:J),()),()),())).bind fun c=>
 some (.inl (((),(),(IntKind.i64.wrap (y.1.2.2.1+(1:Int))),()),(y.2.1.1,y.2.1.2.1,()),c.2.1,()))
else
 some (.inr (((),(),()),(y.2.1.1,y.2.1.2.1,()),y.2.2.1,()))
noncomputable def L7:yo.L->Option (aY DC):=b7 Mb
theorem Z6:bq ae (aH (codeOf Tryz.f226) 1 2026) (bE yo DC L7):=cE BG (by kernel_rfl) aB fun y=>by kernel_rfl
abbrev Ra:Shape:=⟨[bj 0 500000 0],[bi 500000 [bJ .u8,bM]],59⟩
abbrev QE:Shape:=⟨[bj 0 500000 0,bS 2 3000128],[bi 500000 [bJ .u8,bM],b8 3000128 .entry 2 0],59⟩
noncomputable def wh(a:Ra.L):Option QE.L:=
(MD (((),(),(),(0:Int),()),(a.2.1.1,a.2.1.2.1,()),([]:List aR),([([97]:J),([108,105,98]:J),([98,105,110]:J),([100,111,99]:J),([97,47,98]:J)]:List J),())).bind fun b=>
(gZ (((),(7:Int),()),(b.2.1.1,b.2.1.2.1,()),())).bind fun c=>
(MC (((),(),c.1.2.1,()),(c.2.1.1,c.2.1.2.1,()),b.2.2.1,())).bind fun d=>
(gZ (((),(30:Int),()),(d.2.1.1,d.2.1.2.1,()),())).bind fun e=>
 bif(e.1.2.1==(0:Int)) then
(L7 (((),(),(0:Int),()),(e.2.1.1,e.2.1.2.1,()),d.2.2.1,())).bind fun f=>
 some (((),(),()),(f.2.1.1,f.2.1.2.1,()),f.2.2.1,())
else
 some (((),(),()),(e.2.1.1,e.2.1.2.1,()),d.2.2.1,())
noncomputable def HA:bb:=bf az Tryz.f226 Ra QE [0] wh
theorem Qa:a_ ae 226 HA:=bh BG Tryz.func226 (by kernel_rfl) (bN _1 (bN _0 (bN Z6 aB))) (fun y=>by kernel_rfl) fun a=>by kernel_rfl
abbrev li(g:J):Prop:=∀b,b∈g->b.toNat≠91
theorem A_{s:J}{i:Int}(h0:0<=i)(h1:i<(s.length:Int)):∃x,bd s i=some x/\x∈s:=nN h0 h1
theorem ZL(a)(M:cq a.1.1.length)(hn:li a.1.1):ad (f305 a) (fun _=>True):=by
 obtain⟨⟨(s:J),u⟩,bv⟩:=a;have M:s.length<=2097152:=M;unfold f305;refine ad.bind (P:=fun _=>True) ?_ fun r _=>?_
 ·refine ad.loop (fun(k:Nat) y=>y.1.1=s/\(0:Int)<=y.1.2.1/\(y.1.2.1:Int)+k=s.length) (fun k y al=>?_) s.length _ ⟨rfl,Int.le_refl _,by show(0:Int)+s.length=s.length;omega⟩
  obtain⟨⟨(s1:J),(i:Int),u⟩,bv⟩:=y;obtain⟨dB,db,ek⟩:=al;have dB:s1=s:=dB;subst dB;have db:0<=i:=db;have ek:i+k=s1.length:=ek;unfold PU;refine ad.ite (fun hc=>?_) fun _=>ad.ret trivial
  have hc:i<(s1.length:Int):=of_decide_eq_true hc;obtain⟨x,ax,an⟩:=A_ db hc;have hx:((x.toNat:Int)==91)=false:=by
   have:=hn x an;simp only[beq_eq_false_iff_ne,ne_eq];omega
  have hw:IntKind.i64.wrap (i+1)=i+1:=ed (by omega) (by omega)
  refine ad.eq ax ?_
  refine ad.ite (fun Z=>by rw[hx] at Z;cases Z) fun _=>?_
  have piece:ad (yW ((s1,(i,())),())) (fun r=>r.1.1=s1/\r.1.2.1=i):=by
   unfold yW;refine ad.eq ax ?_
   exact ad.ite (fun _=>ad.eq ax (ad.ret ⟨rfl,rfl⟩)) fun _=>ad.ret ⟨rfl,rfl⟩
  refine ad.bind piece fun r hr=>?_
  obtain⟨⟨(s2:J),(i2:Int),(c:Bool),v⟩,v'⟩:=r;obtain⟨r1,r2⟩:=hr;have r1:s2=s1:=r1;have r2:i2=i:=r2;subst r1 r2;refine ad.ite (fun _=>?_) fun _=>?_
  ·refine ad.ret ⟨k-1,by omega,rfl,?_,?_⟩
   ·show 0<=IntKind.i64.wrap (i2+1);rw[hw];omega
   ·show IntKind.i64.wrap (i2+1)+((k-1:Nat):Int)=_;rw[hw];omega
  ·refine ad.eq ax ?_
   refine ad.eq (MY (((x.toNat:Int),()),())) ?_
   refine ad.ite (fun _=>ad.ret trivial) fun _=>?_
   refine ad.ret ⟨k-1,by omega,rfl,?_,?_⟩
   ·show 0<=IntKind.i64.wrap (i2+1);rw[hw];omega
   ·show IntKind.i64.wrap (i2+1)+((k-1:Nat):Int)=_;rw[hw];omega
 ·cases r with
  |inl r=>exact ad.ret trivial
  |inr r=>exact ad.ret trivial
theorem LW{g:J}(h:li g):∀x,x∈cr 47 g->li x:=by
 induction g with
 |nil=>
  intro x hx b hb;simp[cr] at hx;subst hx;cases hb
 |cons c g ih=>
  have ih:=ih fun b hb=>h b (List.mem_cons_of_mem _ hb)
  intro x hx b hb;simp only[cr] at hx;cases hc:(c==47) with
  |true=>
   simp only[hc,cond_true,List.mem_cons] at hx;rcases hx with rfl|hx
   ·cases hb
   ·exact ih x hx b hb
  |false=>
   simp only[hc,cond_false] at hx;cases dd:cr 47 g with
   |nil=>exact absurd dd (vy 47 g)
   |cons y ay=>
    rw[dd] at hx ih;simp only[List.mem_cons] at hx;rcases hx with rfl|hx
    ·rcases List.mem_cons.1 hb with rfl|hb
     ·exact h _ List.mem_cons_self
     ·exact ih y List.mem_cons_self b hb
    ·exact ih x (List.mem_cons_of_mem _ hx) b hb
theorem acM(a)(M:a.1.1.length<=200)(hn:li a.1.1):ad (f288 a) (fun _=>True):=by
 obtain⟨⟨(g:J),u⟩,bv⟩:=a;have M:g.length<=200:=M;unfold f288;have hw:IntKind.i64.wrap ((g.length:Int)+1)=((g.length+1:Nat):Int):=cl (by unfold aM;omega)
 refine ad.eq (vJ 47 ((g,((47:Int),(IntKind.i64.wrap ((g.length:Int)+1),()))),()) (by show g.length<=2097152;omega) rfl hw) ?_
 have dd:(cr 47 g).length<=201:=by have:=qY 47 g;omega
 refine ad.bind (P:=fun _=>True) ?_ fun r _=>?_
 ·refine ad.loop (fun(k:Nat) y=>y.2.1=cr 47 g/\(0:Int)<=y.1.2.2.1/\(y.1.2.2.1:Int)+k=(cr 47 g).length) (fun k y al=>?_) (cr 47 g).length _ ⟨rfl,Int.le_refl _,by show(0:Int)+_=_;omega⟩
  obtain⟨⟨(g1:J),u1,(i:Int),u⟩,(ay:List J),bv⟩:=y;obtain⟨dB,db,ek⟩:=al;have dB:ay=cr 47 g:=dB;have db:0<=i:=db;have ek:i+k=(cr 47 g).length:=ek;subst dB;unfold PV;refine ad.ite (fun hc=>?_) fun _=>ad.ret trivial
  have hc:i<((cr 47 g).length:Int):=of_decide_eq_true hc;obtain⟨j,rfl⟩:=Int.eq_ofNat_of_zero_le db;have hj:j<(cr 47 g).length:=by omega
  have hw:IntKind.i64.wrap ((j:Int)+1)=(j:Int)+1:=ed (by omega) (by omega)
  refine ad.eq (oU hj) ?_
  refine ad.eq (List.getElem?_eq_getElem hj) ?_
  have hm:=List.getElem_mem hj;refine ad.bind (ZL (((cr 47 g)[j],()),()) (by have:=qX 47 g _ hm;show((cr 47 g)[j]).length<=2097152;omega) (LW hn _ hm)) fun r _=>?_
  refine ad.ite (fun _=>ad.ret trivial) fun _=>?_
  refine ad.ret ⟨k-1,by omega,rfl,?_,?_⟩
  ·show 0<=IntKind.i64.wrap ((j:Int)+1);rw[hw];omega
  ·show IntKind.i64.wrap ((j:Int)+1)+((k-1:Nat):Int)=_;rw[hw];omega
 ·cases r with
  |inl r=>exact ad.ret trivial
  |inr r=>exact ad.ite (fun _=>ad.ret trivial) fun _=>ad.ret trivial
theorem tP{s:J}(h:s≠[]):cA s (1:Int) (s.length:Int)=some (s.drop 1):=pT (a:=1) (by have:=List.length_pos_iff.2 h;omega)
theorem AT{s:List J}(h:0<s.length):cA s (1:Int) (s.length:Int)=some (s.drop 1):=pT (a:=1) h
theorem Ny{s:J}(h:(s==([]:J))=false):s≠[]:=by simpa using h
theorem afC:∀(n:Nat) (g s:J),li g->g.length+s.length<n->ad (k8 qh n ((g,(s,())),())) (fun _=>True):=by
 intro n;induction n with
 |zero=>intro g s _ h;omega
 |succ n ih=>
  intro g s hn hl;show ad (qh (k8 qh n) _) _;unfold qh;refine ad.ite (fun _=>ad.ret trivial) fun hg=>?_
  have hg:g≠[]:=Ny hg;have Kb:=List.length_pos_iff.2 hg;obtain⟨x,ax,an⟩:=A_ (s:=g) (i:=0) (by omega) (by omega)
  refine ad.eq ax ?_
  have gz:li (g.drop 1):=fun b hb=>hn b (List.mem_of_mem_drop hb)
  have hdl:(g.drop 1).length+1=g.length:=by rw[List.length_drop];omega
  refine ad.ite (fun _=>?_) fun _=>?_
  ·refine ad.eq (tP hg) ?_
   refine ad.bind (ih (g.drop 1) s gz (by omega)) fun r _=>?_
   refine ad.ite (fun _=>?_) fun _=>ad.ret trivial
   refine ad.ite (fun M=>?_) fun _=>ad.ret trivial
   have M:s≠[]:=by
    have M:(!(s==([]:J)))=true:=M;intro e;subst e;cases M
   have lo:=List.length_pos_iff.2 M;refine ad.eq (tP M) ?_
   exact ad.bind (ih g (s.drop 1) hn (by rw[List.length_drop];omega)) fun r _=>ad.ret trivial
  ·refine ad.ite (fun _=>ad.ret trivial) fun M=>?_
   have M:s≠[]:=Ny M;have lo:=List.length_pos_iff.2 M;have step:ad (k8 qh n ((g.drop 1,(s.drop 1,())),())) (fun _=>True):=ih _ _ gz (by rw[List.length_drop];rw[List.length_drop];omega)
   refine ad.eq ax ?_
   refine ad.ite (fun _=>?_) fun _=>?_
   ·refine ad.eq (tP hg) ?_
    refine ad.eq (tP M) ?_
    exact ad.bind step fun r _=>ad.ret trivial
   ·have hx:((x.toNat:Int)==91)=false:=by
     have:=hn x an;simp only[beq_eq_false_iff_ne,ne_eq];omega
    refine ad.ite (fun Z=>by rw[hx] at Z;cases Z) fun _=>?_
    refine ad.eq ax ?_
    obtain⟨y,cx,ea⟩:=A_ (s:=s) (i:=0) (by omega) (by omega)
    refine ad.eq cx ?_
    refine ad.ite (fun _=>?_) fun _=>ad.ret trivial
    refine ad.eq (tP hg) ?_
    refine ad.eq (tP M) ?_
    exact ad.bind step fun r _=>ad.ret trivial
theorem acG(a)(h1:cq a.1.1.length)(h2:cq a.1.2.1.length)(hn:li a.1.1):ad (f306 a) (fun _=>True):=by
 obtain⟨⟨(g:J),(s:J),u⟩,bv⟩:=a;have h1:g.length<=2097152:=h1;have h2:s.length<=2097152:=h2;exact afC l7 g s hn (by unfold l7;omega)
theorem adE:∀(n:Nat) (g s:List J),(∀x,x∈g->li x/\cq x.length)->(∀x,x∈s->cq x.length)->g.length+s.length<n->ad (k8 rz n ((g,(s,())),())) (fun _=>True):=by
 intro n;induction n with
 |zero=>intro g s _ _ h;omega
 |succ n ih=>
  intro g s hn M hl;show ad (rz (k8 rz n) _) _;unfold rz;refine ad.ite (fun _=>ad.ret trivial) fun hg=>?_
  have Kb:0<g.length:=by
   have hg:((g.length:Int)==0)=false:=hg;simp only[beq_eq_false_iff_ne,ne_eq] at hg;omega
  obtain⟨x,ax,an⟩:=nN (xs:=g) (i:=0) (by omega) (by omega)
  refine ad.eq ax ?_
  have gz:∀x,x∈g.drop 1->li x/\cq x.length:=fun b hb=>hn b (List.mem_of_mem_drop hb)
  have lp:∀x,x∈s.drop 1->cq x.length:=fun b hb=>M b (List.mem_of_mem_drop hb)
  have hdl:(g.drop 1).length+1=g.length:=by rw[List.length_drop];omega
  refine ad.ite (fun _=>?_) fun _=>?_
  ·refine ad.eq (AT Kb) ?_
   refine ad.bind (ih (g.drop 1) s gz M (by omega)) fun r _=>?_
   refine ad.ite (fun _=>?_) fun _=>ad.ret trivial
   refine ad.ite (fun hc=>?_) fun _=>ad.ret trivial
   have hc:(s.length:Int)>0:=of_decide_eq_true hc;refine ad.eq (AT (s:=s) (by omega)) ?_
   exact ad.bind (ih g (s.drop 1) hn lp (by rw[List.length_drop];omega)) fun r _=>ad.ret trivial
  ·refine ad.ite (fun hc=>?_) fun _=>ad.ret trivial
   have hc:(s.length:Int)>0:=of_decide_eq_true hc;refine ad.eq ax ?_
   obtain⟨y,cx,ea⟩:=nN (xs:=s) (i:=0) (by omega) (by omega)
   refine ad.eq cx ?_
   refine ad.bind (acG ((x,(y,())),()) (hn x an).2 (M y ea) (hn x an).1) fun r _=>?_
   refine ad.ite (fun _=>?_) fun _=>ad.ret trivial
   refine ad.eq (AT Kb) ?_
   refine ad.eq (AT (s:=s) (by omega)) ?_
   exact ad.bind (ih (g.drop 1) (s.drop 1) gz lp (by rw[List.length_drop];rw[List.length_drop];omega)) fun r _=>ad.ret trivial
theorem M3(a)(h1:a.1.1.length<=200)(h2:a.1.2.1.length<=1048576)(hn:li a.1.1):ad (f260 a) (fun _=>True):=by
 obtain⟨⟨(g:J),(s:J),u⟩,bv⟩:=a;have h1:g.length<=200:=h1;have h2:s.length<=1048576:=h2;unfold f260;refine ad.bind (acM ((g,()),()) h1 hn) fun r _=>?_
 refine ad.ite (fun _=>?_) fun _=>ad.ret trivial
 refine ad.eq (EK ((s,()),()) (by show s.length<=2097152;omega)) ?_
 refine ad.ite (fun _=>?_) fun _=>ad.ret trivial
 refine ad.eq (vJ 47 ((g,((47:Int),(IntKind.i64.wrap ((g.length:Int)+1),()))),()) (by show g.length<=2097152;omega) rfl (cl (by unfold aM;omega))) ?_
 refine ad.eq (vJ 47 ((s,((47:Int),(IntKind.i64.wrap ((s.length:Int)+1),()))),()) (by show s.length<=2097152;omega) rfl (cl (by unfold aM;omega))) ?_
 have g1:=qY 47 g;have s1:=qY 47 s;refine ad.bind (P:=fun _=>True) ?_ fun r _=>ad.ret trivial
 exact adE l7 (cr 47 g) (cr 47 s) (fun x hx=>⟨LW hn x hx,by have:=qX 47 g x hx;unfold cq;omega⟩) (fun x hx=>by have:=qX 47 s x hx;unfold cq;omega) (by unfold l7;omega)
theorem aaS(a)(h1:cq a.1.1.length):ad (f290 a) (fun _=>True):=by
 obtain⟨⟨(g:J),(s:J),u⟩,bv⟩:=a;unfold f290;refine ad.ite (fun _=>?_) fun _=>ad.ret trivial
 refine ad.ite (fun hc=>?_) fun _=>ad.ret trivial
 have hc:(s.length:Int)>(g.length:Int):=of_decide_eq_true hc;refine ad.eq (oO (xs:=s) (b:=g.length) (by omega)) ?_
 refine ad.ite (fun _=>?_) fun _=>ad.ret trivial
 obtain⟨x,ax,_⟩:=A_ (s:=s) (i:=(g.length:Int)) (by omega) (by omega)
 exact ad.eq ax (ad.ret trivial)
theorem _x(a)(aA:jk a.1.1)(hg:a.1.2.1.length<=200)(hn:li a.1.2.1)(Z:dw a.1.2.2.1):ad (f261 a) (fun _=>True):=by
 obtain⟨⟨(t:List aR),(g:J),(d:J),u⟩,bv⟩:=a;obtain⟨n_,kL⟩:=aA;have n_:t.length<=16:=n_;have Z:d.length<=200:=Z;unfold f261;refine ad.bind (P:=fun _=>True) ?_ fun r _=>?_
 ·refine ad.loop (fun(k:Nat) y=>y.1.1=t/\y.1.2.1=g/\y.1.2.2.1=d/\(0:Int)<=y.1.2.2.2.1/\(y.1.2.2.2.1:Int)+k=t.length) (fun k y al=>?_) t.length _ ⟨rfl,rfl,rfl,Int.le_refl _,by show(0:Int)+_=_;omega⟩
  obtain⟨⟨(t1:List aR),(g1:J),(d1:J),(i:Int),u⟩,bv⟩:=y;obtain⟨dB,db,ek,iX,fh⟩:=al;have dB:t1=t:=dB;have db:g1=g:=db;have ek:d1=d:=ek;subst dB db ek;have iX:0<=i:=iX;have fh:i+k=t1.length:=fh;unfold PX;refine ad.ite (fun hc=>?_) fun _=>ad.ret trivial
  have hc:i<(t1.length:Int):=of_decide_eq_true hc;have hw:IntKind.i64.wrap (i+1)=i+1:=ed (by omega) (by omega)
  obtain⟨x,ax,an⟩:=nN (xs:=t1) iX hc;have piece:ad (zp ((t1,(g1,(d1,(i,())))),())) (fun r=>r.1.1=t1/\r.1.2.1=g1/\r.1.2.2.1=d1/\r.1.2.2.2.1=i):=by
   unfold zp;refine ad.eq ax ?_
   refine ad.bind (aaS ((d1,(x.path,())),()) (by show d1.length<=2097152;omega)) fun r _=>?_
   refine ad.ite (fun _=>?_) fun _=>ad.ret ⟨rfl,rfl,rfl,rfl⟩
   refine ad.eq ax ?_
   exact ad.bind (M3 ((g1,(x.path,())),()) hg (Nat.le_trans (kL x an).1 (by decide)) hn) fun r _=>ad.ret ⟨rfl,rfl,rfl,rfl⟩
  refine ad.bind piece fun r hr=>?_
  obtain⟨⟨(Jy:List aR),(g2:J),(d2:J),(i2:Int),(c:Bool),v⟩,v'⟩:=r;obtain⟨r1,r2,c9,fV⟩:=hr;have r1:Jy=t1:=r1;have r2:g2=g1:=r2;have c9:d2=d1:=c9;have fV:i2=i:=fV;subst r1 r2 c9 fV;refine ad.ite (fun _=>ad.ret trivial) fun _=>?_
  refine ad.ret ⟨k-1,by omega,rfl,rfl,rfl,?_,?_⟩
  ·show 0<=IntKind.i64.wrap (i2+1);rw[hw];omega
  ·show IntKind.i64.wrap (i2+1)+((k-1:Nat):Int)=_;rw[hw];omega
 ·cases r with
  |inl r=>exact ad.ret trivial
  |inr r=>exact ad.ret trivial
theorem _C(a)(aA:jk a.1.1)(hg:a.1.2.1.length<=200)(hn:li a.1.2.1):ad (f225 a) (fun r=>jk r.2.1):=by
 obtain⟨⟨(t:List aR),(g:J),u⟩,bv⟩:=a;obtain⟨n_,kL⟩:=aA;have n_:t.length<=16:=n_;have hg:g.length<=200:=hg;have aoQ:jD t:=⟨by show t.length<=2097152;omega,fun e he=>⟨Nat.le_trans (kL e he).1 (by decide),Nat.le_trans (kL e he).2 (by decide)⟩⟩
 unfold f225;refine ad.bind (P:=fun r=>jk r.2.1) ?_ fun r hr=>ad.ret hr
 refine ad.loop (fun(k:Nat) y=>y.1.1=t/\y.1.2.1=g/\(0:Int)<=y.1.2.2.2.1/\(y.1.2.2.2.1:Int)+k=t.length/\((y.2.1:List aR).length:Int)<=y.1.2.2.2.1/\∀e,e∈(y.2.1:List aR)->ms e) (fun k y al=>?_) t.length _
  ⟨rfl,rfl,Int.le_refl _,by show(0:Int)+_=_;omega,by show(0:Int)<=0;omega,fun e he=>by cases he⟩
 obtain⟨⟨(t1:List aR),(g1:J),u1,(i:Int),u⟩,(out:List aR),bv⟩:=y;obtain⟨dB,db,ek,iX,fh,fo⟩:=al;have dB:t1=t:=dB;have db:g1=g:=db;subst dB db;have ek:0<=i:=ek;have iX:i+k=t1.length:=iX;have fh:(out.length:Int)<=i:=fh;unfold PY;refine ad.ite (fun hc=>?_) fun _=>ad.ret ⟨by show out.length<=16;omega,fo⟩
 have hc:i<(t1.length:Int):=of_decide_eq_true hc;have hw:IntKind.i64.wrap (i+1)=i+1:=ed (by omega) (by omega)
 obtain⟨x,ax,an⟩:=nN (xs:=t1) ek hc;refine ad.eq (EM ((t1,()),()) aoQ) ?_
 refine ad.ite (fun _=>?_) fun _=>ad.ret ⟨by show out.length<=16;omega,fo⟩
 have piece:ad (yY ((t1,(g1,((),(i,())))),(out,()))) (fun r=>r.1.1=t1/\r.1.2.1=g1/\r.1.2.2.2.1=i/\r.2.1=out):=by
  unfold yY;refine ad.eq ax ?_
  refine ad.bind (M3 ((g1,(x.path,())),()) hg (Nat.le_trans (kL x an).1 (by decide)) hn) fun r _=>?_
  refine ad.ite (fun _=>?_) fun _=>ad.ret ⟨rfl,rfl,rfl,rfl⟩
  refine ad.eq ax ?_
  refine ad.ite (fun _=>?_) fun _=>ad.ret ⟨rfl,rfl,rfl,rfl⟩
  refine ad.eq ax ?_
  exact ad.bind (_x ((t1,(g1,(x.path,()))),()) ⟨n_,kL⟩ hg hn (kL x an).1) fun r _=>ad.ret ⟨rfl,rfl,rfl,rfl⟩
 refine ad.bind piece fun r hr=>?_
 obtain⟨⟨(Jy:List aR),(g2:J),b_,(i2:Int),(c:Bool),v⟩,(B6:List aR),v'⟩:=r;obtain⟨r1,r2,c9,fV⟩:=hr;have r1:Jy=t1:=r1;have r2:g2=g1:=r2;have c9:i2=i:=c9;have fV:B6=out:=fV;subst r1 r2 c9 fV;refine ad.ite (fun _=>?_) fun _=>?_
 ·refine ad.eq ax ?_
  refine ad.eq (eZ (by decide) (by unfold aM;simp;omega)) ?_
  refine ad.ret ⟨k-1,by omega,rfl,rfl,?_,?_,?_,fun e he=>?_⟩
  ·show 0<=IntKind.i64.wrap (i2+1);rw[hw];omega
  ·show IntKind.i64.wrap (i2+1)+((k-1:Nat):Int)=_;rw[hw];omega
  ·show((B6++[x]).length:Int)<=IntKind.i64.wrap (i2+1);rw[hw];simp;omega
  ·have he:e∈B6++[x]:=he;rcases List.mem_append.1 he with he|he
   ·exact fo e he
   ·rw[List.mem_singleton.1 he];exact kL x an
 ·refine ad.ret ⟨k-1,by omega,rfl,rfl,?_,?_,?_,fo⟩
  ·show 0<=IntKind.i64.wrap (i2+1);rw[hw];omega
  ·show IntKind.i64.wrap (i2+1)+((k-1:Nat):Int)=_;rw[hw];omega
  ·show(B6.length:Int)<=IntKind.i64.wrap (i2+1);rw[hw];omega
theorem ag7:∀(n:Nat) (x:Int),0<=x->x<=100000->x<n->ad (k8 rA n ((x,()),())) (fun r=>((r.1.1:J).length:Int)<=x+1):=by
 intro n;induction n with
 |zero=>intro x h0 _ h;omega
 |succ n ih=>
  intro x h0 h1 hl;show ad (rA (k8 rA n) _) _;unfold rA;refine ad.ite (fun hc=>?_) fun _=>?_
  ·have hc:x< -9223372036854775807:=of_decide_eq_true hc;omega
  refine ad.ite (fun hc=>?_) fun _=>?_
  ·have hc:x<0:=of_decide_eq_true hc;omega
  refine ad.ite (fun hc=>?_) fun hc=>?_
  ·exact ad.ret (by show((strOf [_]).length:Int)<=x+1;simp[strOf];omega)
  ·have hc:¬x<10:=of_decide_eq_false hc;refine ad.eq (A5 (x:=x) rfl h0 (by omega) (by decide)) ?_
   refine ad.bind (ih (x/10) (by omega) (by omega) (by omega)) fun r hr=>?_
   refine ad.eq (tw (x:=x) h0 (by decide)) ?_
   have hr:((r.1.1:J).length:Int)<=x/10+1:=hr;refine ad.eq (By (s:=r.1.1) (by simp[strOf];omega)) ?_
   exact ad.ret (by show(((r.1.1:J)++strOf [_]).length:Int)<=x+1;rw[List.length_append];simp[strOf];omega)
theorem acH(a)(h0:(0:Int)<=a.1.1)(h1:(a.1.1:Int)<=100):ad (f149 a) (fun r=>(r.1.1:J).length<=101):=by
 obtain⟨⟨(x:Int),u⟩,bv⟩:=a;have h0:0<=x:=h0;have h1:x<=100:=h1;exact(ag7 l7 x h0 (by omega) (by unfold l7;omega)).mono fun r hr=>by have hr:((r.1.1:J).length:Int)<=x+1:=hr;omega
theorem MZ(a)(m:Nat)(h:c8 a.2.1.1 a.2.1.2.1 m)(hm:40<=m):ad (wh a) (fun r=>c8 r.2.1.1 r.2.1.2.1 (m-40)/\jk r.2.2.1):=by
 obtain⟨⟨u1,u2⟩,⟨⟨(b:List Int),(p:Int),x7⟩,aqV⟩⟩:=a;have h:c8 b p m:=h;unfold wh;refine ad.bind (P:=fun r=>c8 r.2.1.1 r.2.1.2.1 (m-5)/\jk r.2.2.1) ?_ fun r1 h1=>?_
 ·refine ad.loop (fun(k:Nat) y=>k<=5/\(0:Int)<=y.1.2.2.2.1/\(y.1.2.2.2.1:Int)+k=5/\(y.2.2.2.1:List J)=[[97],[108,105,98],[98,105,110],[100,111,99],[97,47,98]]/\c8 y.2.1.1 y.2.1.2.1 (m-(5-k))/\jk y.2.2.1) (fun k y al=>?_) 5 _
   ⟨Nat.le_refl _,Int.le_refl _,by show(0:Int)+(5:Nat)=5;rfl,rfl,h,by show(0:Nat)<=16;decide,fun e he=>by cases he⟩
  obtain⟨⟨b_,w2,hU,(i:Int),sB⟩,⟨⟨(be:List Int),(kT:Int),sA⟩,(t:List aR),(ay:List J),pD⟩⟩:=y;obtain⟨dB,db,ek,iX,fh,fo⟩:=al;have db:0<=i:=db;have ek:i+k=5:=ek;have iX:ay=_:=iX;have dd:ay.length=5:=by rw[iX];rfl
  have aoY:∀s,s∈ay->dw s:=by rw[iX];exact fun s M=>ri (by rfl) M
  have fh:c8 be kT (m-(5-k)):=fh;have fo:jk t:=fo;unfold MJ;refine ad.ite (fun hc=>?_) fun hc=>?_
  ·have hc:i<(ay.length:Int):=of_decide_eq_true hc;have hw:IntKind.i64.wrap (i+1)=i+1:=ed (by omega) (by omega)
   obtain⟨j,rfl⟩:=Int.eq_ofNat_of_zero_le db;have hj:j<ay.length:=by omega
   refine ad.bind (im _ _ fh (by omega)) fun r hr=>?_
   have dC:c8 r.2.1.1 r.2.1.2.1 (m-(5-(k-1))):=hr.1.less (by omega)
   refine ad.ite (fun _=>?_) fun _=>?_
   ·refine ad.eq (oU hj) ?_
    refine ad.eq (List.getElem?_eq_getElem hj) ?_
    have r_:dw ay[j]:=aoY _ (List.getElem_mem hj);refine ad.bind (Fs ((t,((ay[j],((1:Int),((7:Int),(([]:J),())))),())),()) fo ⟨r_,by show(0:Nat)<=200;decide⟩) fun r2 h2=>?_
    refine ad.ret ⟨k-1,by omega,by omega,?_,?_,iX,dC,h2⟩
    ·show 0<=IntKind.i64.wrap ((j:Int)+1);rw[hw];omega
    ·show IntKind.i64.wrap ((j:Int)+1)+((k-1:Nat):Int)=5;rw[hw];omega
   ·refine ad.ret ⟨k-1,by omega,by omega,?_,?_,iX,dC,fo⟩
    ·show 0<=IntKind.i64.wrap ((j:Int)+1);rw[hw];omega
    ·show IntKind.i64.wrap ((j:Int)+1)+((k-1:Nat):Int)=5;rw[hw];omega
  ·exact ad.ret ⟨fh.less (by omega),fo⟩
 refine ad.bind (im _ _ h1.1 (by omega)) fun r2 h2=>?_
 obtain⟨⟨v1,(q:Int),v2⟩,⟨⟨(bc:List Int),(nr:Int),v3⟩,v4⟩⟩:=r2;have as3:q<7:=h2.2.2 (by show(1:Int)<=7;decide)
 have as4:0<=q:=h2.2.1;refine ad.bind (P:=fun r=>c8 r.2.1.1 r.2.1.2.1 (m-34)/\jk r.2.2.1) ?_ fun c9 ab=>?_
 ·refine ad.loop (fun(k:Nat) y=>k<=6/\(y.1.2.2.1:Int)=k/\c8 y.2.1.1 y.2.1.2.1 (m-34+4*k)/\jk y.2.2.1) (fun k y al=>?_) q.toNat _
   ⟨by omega,by show q=_;omega,(by refine h2.1.less ?_;omega),h1.2⟩
  obtain⟨⟨b_,w2,(i:Int),sB⟩,⟨⟨(be:List Int),(kT:Int),sA⟩,(t:List aR),pD⟩⟩:=y;obtain⟨dB,ek,fh,fo⟩:=al;have ek:i=k:=ek;subst ek;have fh:c8 be kT (m-34+4*k):=fh;have fo:jk t:=fo;unfold MI;refine ad.ite (fun hc=>?_) fun hc=>?_
  ·have hc:(k:Int)>0:=of_decide_eq_true hc;have hw:IntKind.i64.wrap ((k:Int)-1)=((k-1:Nat):Int):=by rw[ed (by omega) (by omega)];omega
   refine ad.bind (Mo _ _ fh (by omega)) fun r hr=>?_
   refine ad.bind (Fs ((t,((r.2.2.1.1,(r.2.2.1.2.1,(r.2.2.1.2.2.1,(r.2.2.1.2.2.2.1,())))),())),()) fo hr.2) fun r2 h2=>?_
   exact ad.ret ⟨k-1,by omega,by omega,hw,hr.1.less (by omega),h2⟩
  ·exact ad.ret ⟨fh.less (by omega),fo⟩
 refine ad.bind (im _ _ ab.1 (by omega)) fun fV aF=>?_
 refine ad.ite (fun _=>?_) fun _=>ad.ret ⟨aF.1.less (by omega),ab.2⟩
 refine ad.bind (P:=fun r=>c8 r.2.1.1 r.2.1.2.1 (m-34-1)/\jk r.2.2.1) ?_ fun r5 bo=>ad.ret ⟨bo.1.less (by omega),bo.2⟩
 refine ad.loop (fun(k:Nat) y=>(0:Int)<=y.1.2.2.1/\(y.1.2.2.1:Int)+k=16/\c8 y.2.1.1 y.2.1.2.1 (m-34-1)/\jk y.2.2.1) (fun k y al=>?_) 16 _ ⟨Int.le_refl _,by show(0:Int)+(16:Nat)=16;rfl,aF.1,ab.2⟩
 obtain⟨⟨b_,w2,(i:Int),sB⟩,⟨⟨(be:List Int),(kT:Int),sA⟩,(t:List aR),pD⟩⟩:=y;obtain⟨dB,ek,fh,fo⟩:=al;have dB:0<=i:=dB;have ek:i+k=16:=ek;have fo:jk t:=fo;unfold Mb;refine ad.ite (fun hc=>?_) fun hc=>ad.ret ⟨fh,fo⟩
 have hc:i<16:=of_decide_eq_true hc;have hw:IntKind.i64.wrap (i+1)=i+1:=ed (by omega) (by omega)
 refine ad.bind (acH ((i,()),()) dB (by show i<=100;omega)) fun r hr=>?_
 have hr:(r.1.1:J).length<=101:=hr;refine ad.eq (By (s:=[102]) (t:=r.1.1) (by show 1+_<=_;omega)) ?_
 refine ad.bind (Fs ((t,(((([102]:J)++r.1.1,((2:Int),((0:Int),(([]:J),()))))),())),()) fo ⟨by show((([102]:J)++r.1.1).length)<=200;simp;omega,by show(0:Nat)<=200;decide⟩) fun r2 h2=>?_
 refine ad.ret ⟨k-1,by omega,?_,?_,fh,h2⟩
 ·show 0<=IntKind.i64.wrap (i+1);rw[hw];omega
 ·show IntKind.i64.wrap (i+1)+((k-1:Nat):Int)=16;rw[hw];omega
noncomputable abbrev ahp:bD:=[(81,la),(129,jU),(130,BE)]
theorem ahN:bg ae (bu az ahp):=bB ⟨l2,ko,GY,⟨⟩⟩
abbrev Rf:Shape:=⟨[bj 0 500000 0],[bi 500000 [bJ .u8,bM]],17⟩
abbrev QI:Shape:=⟨[bj 0 500000 0,bj 2 2 0],[bi 500000 [bJ .u8,bM],bi 2 [bC,bM,bC]],17⟩
noncomputable def tE(a:Rf.L):Option QI.L:=
(ju (((),([([111,110,101]:J),([116,119,111]:J),([116,104,114,101,101]:J),([122,105,112]:J)]:List J),()),(a.2.1.1,a.2.1.2.1,()),())).bind fun b=>
(gZ (((),(4:Int),()),(b.2.1.1,b.2.1.2.1,()),())).bind fun c=>
 bif(c.1.2.1 !=(0:Int)) then
(tJ (((),()),(c.2.1.1,c.2.1.2.1,()),())).bind fun d=>
 some (((),(),()),(d.2.1.1,d.2.1.2.1,()),(b.1.2.1,c.1.2.1,d.1.2.1,()),())
else
 some (((),(),()),(c.2.1.1,c.2.1.2.1,()),(b.1.2.1,c.1.2.1,([]:J),()),())
noncomputable def BD:bb:=bf az Tryz.f188 Rf QI [0] tE
theorem GX:a_ ae 188 BD:=bh ahN Tryz.func188 (by kernel_rfl) aB (fun y=>by kernel_rfl) fun a=>by kernel_rfl
noncomputable abbrev ahs:bD:=[(81,la),(129,jU),(130,BE),(188,BD),(225,U7),(226,HA)]
theorem ahQ:bg ae (bu az ahs):=bB ⟨l2,ko,GY,GX,ajl,Qa,⟨⟩⟩
abbrev Ri:Shape:=⟨[bj 0 500000 0,a8 1],[bi 500000 [bJ .u8,bM]],27⟩
abbrev QL:Shape:=⟨[bj 0 500000 0,bj 4 4 0],[bi 500000 [bJ .u8,bM],gg 5000258 .need 4 2,gg 5000259 .entry 4 3,bi 4 [bC,bC,.own 5000258,.own 5000259]],27⟩
noncomputable def wj(a:Ri.L):Option QL.L:=
(tJ (((),()),(a.2.1.1,a.2.1.2.1,()),())).bind fun b=>
(wh (((),()),(b.2.1.1,b.2.1.2.1,()),())).bind fun c=>
(ju (((),([([42,42]:J),([97,47,42,42]:J),([108,105,98,47,42,42]:J),([100,111,99,47,42,42]:J),([98,42]:J)]:List J),()),(c.2.1.1,c.2.1.2.1,()),())).bind fun d=>
(f225 ((c.2.2.1,d.1.2.1,()),())).bind fun e=>
(gZ (((),(3:Int),()),(d.2.1.1,d.2.1.2.1,()),())).bind fun f=>
 bif(f.1.2.1==(0:Int)) then
(tE (((),()),(f.2.1.1,f.2.1.2.1,()),())).bind fun g=>
(cR 40 ([]:List dq) ([(dq.mk g.2.2.1.1 g.2.2.1.2.1 g.2.2.1.2.2.1)]:List dq)).bind fun h=>
 some (((),(),()),(g.2.1.1,g.2.1.2.1,()),h,e.2.1,(a.1.2.1,b.1.2.1,(),(),()),())
else
 some (((),(),()),(f.2.1.1,f.2.1.2.1,()),([]:List dq),e.2.1,(a.1.2.1,b.1.2.1,(),(),()),())
noncomputable def HC:bb:=bf az Tryz.f185 Ri QL [0] wj
theorem Qc:a_ ae 185 HC:=bh ahQ Tryz.func185 (by kernel_rfl) aB (fun y=>by kernel_rfl) fun a=>by kernel_rfl
noncomputable abbrev ahr:bD:=[(81,la),(129,jU),(130,BE)]
theorem ahP:bg ae (bu az ahr):=bB ⟨l2,ko,GY,⟨⟩⟩
abbrev Rh:Shape:=⟨[bj 0 500000 0],[bi 500000 [bJ .u8,bM]],11⟩
abbrev QK:Shape:=⟨[bj 0 500000 0,a8 2],[bi 500000 [bJ .u8,bM]],11⟩
noncomputable def wi(a:Rh.L):Option QK.L:=
(gZ (((),(6:Int),()),(a.2.1.1,a.2.1.2.1,()),())).bind fun b=>
 bif(b.1.2.1==(0:Int)) then
(ju (((),([([]:J),([46]:J),([49,46]:J),([48,49]:J),([49,48,48,48]:J),([49,46,50,46,51,46,52,46,53]:J),([97]:J),([49,46,45,49]:J)]:List J),()),(b.2.1.1,b.2.1.2.1,()),())).bind fun c=>
 some (((),c.1.2.1,()),(c.2.1.1,c.2.1.2.1,()),())
else
(tJ (((),()),(b.2.1.1,b.2.1.2.1,()),())).bind fun d=>
 some (((),d.1.2.1,()),(d.2.1.1,d.2.1.2.1,()),())
noncomputable def HB:bb:=bf az Tryz.f186 Rh QK [0] wi
theorem Qb:a_ ae 186 HB:=bh ahP Tryz.func186 (by kernel_rfl) aB (fun y=>by kernel_rfl) fun a=>by kernel_rfl
noncomputable abbrev ahq:bD:=[(81,la),(129,jU),(186,HB),(188,BD)]
theorem ahO:bg ae (bu az ahq):=bB ⟨l2,ko,Qb,GX,⟨⟩⟩
abbrev Rg:Shape:=⟨[bj 0 500000 0],[bi 500000 [bJ .u8,bM]],26⟩
abbrev QJ:Shape:=⟨[bj 0 500000 0,bj 2 2 0],[bi 500000 [bJ .u8,bM],bi 2 [bC,bM,bC]],26⟩
noncomputable def Br(a:Rg.L):Option QJ.L:=
(tE (((),()),(a.2.1.1,a.2.1.2.1,()),())).bind fun b=>
(gZ (((),(14:Int),()),(b.2.1.1,b.2.1.2.1,()),())).bind fun c=>
 bif(c.1.2.1==(0:Int)) then
(ju (((),([([]:J),([57]:J),([79,110,101]:J),([101,108,101,118,101,110,108,101,116,116,101]:J)]:List J),()),(c.2.1.1,c.2.1.2.1,()),())).bind fun d=>
 some (((),(),()),(d.2.1.1,d.2.1.2.1,()),(d.1.2.1,b.2.2.1.2.1,b.2.2.1.2.2.1,()),())
else
 bif(c.1.2.1==(1:Int)) then
(gZ (((),(6:Int),()),(c.2.1.1,c.2.1.2.1,()),())).bind fun e=>
 some (((),(),()),(e.2.1.1,e.2.1.2.1,()),(b.2.2.1.1,(IntKind.i64.wrap (e.1.2.1-(1:Int))),b.2.2.1.2.2.1,()),())
else
 bif(c.1.2.1==(2:Int)) then
(wi (((),()),(c.2.1.1,c.2.1.2.1,()),())).bind fun f=>
 some (((),(),()),(f.2.1.1,f.2.1.2.1,()),(b.2.2.1.1,b.2.2.1.2.1,f.1.2.1,()),())
else
 some (((),(),()),(c.2.1.1,c.2.1.2.1,()),(b.2.2.1.1,b.2.2.1.2.1,b.2.2.1.2.2.1,()),())
noncomputable def RM:bb:=bf az Tryz.f187 Rg QJ [0] Br
theorem af3:a_ ae 187 RM:=bh ahO Tryz.func187 (by kernel_rfl) aB (fun y=>by kernel_rfl) fun a=>by kernel_rfl
noncomputable abbrev ahh:bD:=[(81,la),(129,jU),(291,Hx)]
theorem ahH:bg ae (bu az ahh):=bB ⟨l2,ko,P9,⟨⟩⟩
abbrev Q8:Shape:=⟨[bj 0 500000 0],[bi 500000 [bJ .u8,bM]],11⟩
abbrev QB:Shape:=⟨[bj 0 500000 0,a8 2],[bi 500000 [bJ .u8,bM]],11⟩
noncomputable def Bn(a:Q8.L):Option QB.L:=
(gZ (((),(6:Int),()),(a.2.1.1,a.2.1.2.1,()),())).bind fun b=>
 bif(b.1.2.1==(0:Int)) then
(ju (((),([([]:J),([47]:J),([97,47]:J),([47,97]:J),([46]:J),([46,46]:J),([97,47,47,98]:J),([65]:J),([97,47,98,47,99,47,100,47,101,47,102]:J),([101,108,101,118,101,110,108,101,116,116,101]:J),([97,32,98]:J),([120,47,46,46,47,121]:J)]:List J),()),(b.2.1.1,b.2.1.2.1,()),())).bind fun c=>
 some (((),c.1.2.1,()),(c.2.1.1,c.2.1.2.1,()),())
else
(tD (((),()),(b.2.1.1,b.2.1.2.1,()),())).bind fun d=>
 some (((),d.1.2.1,()),(d.2.1.1,d.2.1.2.1,()),())
noncomputable def RG:bb:=bf az Tryz.f264 Q8 QB [0] Bn
theorem afX:a_ ae 264 RG:=bh ahH Tryz.func264 (by kernel_rfl) aB (fun y=>by kernel_rfl) fun a=>by kernel_rfl
noncomputable abbrev ahk:bD:=[(81,la),(129,jU),(263,Hz),(264,RG),(265,Hy),(266,I1)]
theorem ahJ:bg ae (bu az ahk):=bB ⟨l2,ko,P',afX,P_,SO,⟨⟩⟩
abbrev Q':Shape:=⟨[bj 0 500000 0],[bi 500000 [bJ .u8,bM]],32⟩
abbrev QD:Shape:=⟨[bj 0 500000 0,bj 2 2 0],[bi 500000 [bJ .u8,bM],bi 2 [bC,bM,bM,bC]],32⟩
noncomputable def wg(a:Q'.L):Option QD.L:=
(we (((),()),(a.2.1.1,a.2.1.2.1,()),())).bind fun b=>
(gZ (((),(14:Int),()),(b.2.1.1,b.2.1.2.1,()),())).bind fun c=>
 bif(c.1.2.1==(0:Int)) then
(Bn (((),()),(c.2.1.1,c.2.1.2.1,()),())).bind fun d=>
 some (((),(),()),(d.2.1.1,d.2.1.2.1,()),(d.1.2.1,b.2.2.1.2.1,b.2.2.1.2.2.1,b.2.2.1.2.2.2.1,()),())
else
 bif(c.1.2.1==(1:Int)) then
(gZ (((),(5:Int),()),(c.2.1.1,c.2.1.2.1,()),())).bind fun e=>
 some (((),(),()),(e.2.1.1,e.2.1.2.1,()),(b.2.2.1.1,e.1.2.1,b.2.2.1.2.2.1,b.2.2.1.2.2.2.1,()),())
else
 bif(c.1.2.1==(2:Int)) then
(wc (((),([((-1):Int),(8:Int),(0:Int)]:List Int),()),(c.2.1.1,c.2.1.2.1,()),())).bind fun f=>
 some (((),(),()),(f.2.1.1,f.2.1.2.1,()),(b.2.2.1.1,b.2.2.1.2.1,f.1.2.1,b.2.2.1.2.2.2.1,()),())
else
 bif(c.1.2.1==(3:Int)) then
(f266 ((([117]:J),(81:Int),()),())).bind fun g=>
(ju (((),([([1]:J),g.1.1,([120]:J),([]:J)]:List J),()),(c.2.1.1,c.2.1.2.1,()),())).bind fun h=>
 some (((),(),()),(h.2.1.1,h.2.1.2.1,()),(b.2.2.1.1,b.2.2.1.2.1,b.2.2.1.2.2.1,h.1.2.1,()),())
else
 some (((),(),()),(c.2.1.1,c.2.1.2.1,()),(b.2.2.1.1,b.2.2.1.2.1,b.2.2.1.2.2.1,b.2.2.1.2.2.2.1,()),())
noncomputable def RI:bb:=bf az Tryz.f227 Q' QD [0] wg
theorem afZ:a_ ae 227 RI:=bh ahJ Tryz.func227 (by kernel_rfl) aB (fun y=>by kernel_rfl) fun a=>by kernel_rfl
noncomputable abbrev aho:bD:=[(129,jU),(156,w6),(226,HA),(227,RI)]
theorem ahM:bg ae (bu az aho):=bB ⟨ko,z156,Qa,afZ,⟨⟩⟩
abbrev Re:Shape:=⟨[bj 0 500000 0],[bi 500000 [bJ .u8,bM]],30⟩
abbrev QH:Shape:=⟨[bj 0 500000 0,bS 2 3000128],[bi 500000 [bJ .u8,bM],b8 3000128 .entry 2 0],30⟩
noncomputable def Bq(a:Re.L):Option QH.L:=
(wh (((),()),(a.2.1.1,a.2.1.2.1,()),())).bind fun b=>
(f156 ((b.2.2.1,()),())).bind fun c=>
(gZ (((),(14:Int),()),(b.2.1.1,b.2.1.2.1,()),())).bind fun d=>
 bif(d.1.2.1==(0:Int)) then
(wg (((),()),(d.2.1.1,d.2.1.2.1,()),())).bind fun e=>
(cR 48 c.2.1 ([(aR.mk e.2.2.1.1 e.2.2.1.2.1 e.2.2.1.2.2.1 e.2.2.1.2.2.2.1)]:List aR)).bind fun f=>
 some (((),(),()),(e.2.1.1,e.2.1.2.1,()),f,())
else
 bif(d.1.2.1==(1:Int)) then
 bif(decide ((c.2.1.length:Int)>(0:Int))) then
(gZ (((),(c.2.1.length:Int),()),(d.2.1.1,d.2.1.2.1,()),())).bind fun g=>
(wg (((),()),(g.2.1.1,g.2.1.2.1,()),())).bind fun h=>
(iz c.2.1.length g.1.2.1).bind fun i=>
((c.2.1[i]?).bind fun q=>some (aR.mk h.2.2.1.1 h.2.2.1.2.1 h.2.2.1.2.2.1 h.2.2.1.2.2.2.1)).bind fun j=>
 some (((),(),()),(h.2.1.1,h.2.1.2.1,()),(c.2.1.set i j),())
else
 some (((),(),()),(d.2.1.1,d.2.1.2.1,()),c.2.1,())
else
 some (((),(),()),(d.2.1.1,d.2.1.2.1,()),c.2.1,())
noncomputable def RL:bb:=bf az Tryz.f189 Re QH [0] Bq
theorem af2:a_ ae 189 RL:=bh ahM Tryz.func189 (by kernel_rfl) aB (fun y=>by kernel_rfl) fun a=>by kernel_rfl
noncomputable abbrev ahy:bD:=[(81,la),(129,jU),(185,HC),(186,HB),(187,RM),(188,BD),(189,RL)]
theorem ahT:bg ae (bu az ahy):=bB ⟨l2,ko,Qc,Qb,af3,GX,af2,⟨⟩⟩
abbrev Rp:Shape:=⟨[bj 0 500000 0],[bi 500000 [bJ .u8,bM]],39⟩
abbrev QS:Shape:=⟨[bj 0 500000 0,bj 2 2 0],[bi 500000 [bJ .u8,bM],gg 5000130 .need 2 2,gg 5000131 .entry 2 3,bi 2 [bC,bC,.own 5000130,.own 5000131]],39⟩
noncomputable def Bu(a:Rp.L):Option QS.L:=
(ju (((),([([111,110,101]:J),([116,119,111]:J),([116,104,114,101,101]:J),([122,105,112]:J)]:List J),()),(a.2.1.1,a.2.1.2.1,()),())).bind fun b=>
(wj (((),b.1.2.1,()),(b.2.1.1,b.2.1.2.1,()),())).bind fun c=>
(gZ (((),(14:Int),()),(c.2.1.1,c.2.1.2.1,()),())).bind fun d=>
 bif(d.1.2.1==(0:Int)) then
(ju (((),([([]:J),([79,110,101]:J)]:List J),()),(d.2.1.1,d.2.1.2.1,()),())).bind fun e=>
 some (((),(),()),(e.2.1.1,e.2.1.2.1,()),c.2.2.1,c.2.2.2.1,(e.1.2.1,c.2.2.2.2.1.2.1,(),(),()),())
else
 bif(d.1.2.1==(1:Int)) then
(wi (((),()),(d.2.1.1,d.2.1.2.1,()),())).bind fun f=>
 some (((),(),()),(f.2.1.1,f.2.1.2.1,()),c.2.2.1,c.2.2.2.1,(c.2.2.2.2.1.1,f.1.2.1,(),(),()),())
else
 bif(d.1.2.1==(2:Int)) then
(Br (((),()),(d.2.1.1,d.2.1.2.1,()),())).bind fun g=>
(tE (((),()),(g.2.1.1,g.2.1.2.1,()),())).bind fun h=>
(cR 40 c.2.2.1 ([(dq.mk g.2.2.1.1 g.2.2.1.2.1 g.2.2.1.2.2.1),(dq.mk h.2.2.1.1 h.2.2.1.2.1 h.2.2.1.2.2.1)]:List dq)).bind fun i=>
 some (((),(),()),(h.2.1.1,h.2.1.2.1,()),i,c.2.2.2.1,(c.2.2.2.2.1.1,c.2.2.2.2.1.2.1,(),(),()),())
else
 bif(d.1.2.1==(3:Int)) then
(Bq (((),()),(d.2.1.1,d.2.1.2.1,()),())).bind fun j=>
 some (((),(),()),(j.2.1.1,j.2.1.2.1,()),c.2.2.1,j.2.2.1,(c.2.2.2.2.1.1,c.2.2.2.2.1.2.1,(),(),()),())
else
 some (((),(),()),(d.2.1.1,d.2.1.2.1,()),c.2.2.1,c.2.2.2.1,(c.2.2.2.2.1.1,c.2.2.2.2.1.2.1,(),(),()),())
noncomputable def RT:bb:=bf az Tryz.f131 Rp QS [0] Bu
theorem aga:a_ ae 131 RT:=bh ahT Tryz.func131 (by kernel_rfl) aB (fun y=>by kernel_rfl) fun a=>by kernel_rfl
abbrev x2(p:aI):Prop:=sy p/\p.b4.length<=2097151/\∀n,n∈p.bI->n.b4.length<=2097151
abbrev jI(k:Nat)(F:List aI):Prop:=F.length<=k/\∀p,p∈F->x2 p
theorem jI.mz{k:Nat}{F:List aI}(h:jI k F)(af:k<=2097152):fb F:=⟨Nat.le_trans h.1 af,fun p ag=>(h.2 p ag).1⟩
theorem jI.vs{k:Nat}{F:List aI}(h:jI k F):mA F:=fun p ag=>(h.2 p ag).2
abbrev Ky(n:dq):Prop:=dw n.name/\dw n.b4
def Sh(s:J):Bool:=!(s==[102,114,101,115,104])&&!(s==[110,111,98,111,100,121,115])
abbrev KJ(s:J):Prop:=dw s/\Sh s=true
theorem G'{ay:List J}(h:ay.all (fun s=>decide (s.length<=200)&&Sh s)=true){s:J}(M:s∈ay):KJ s:=by
 have:=List.all_eq_true.1 h s M;simp only[Bool.and_eq_true,decide_eq_true_eq] at this;exact this
abbrev sv(p:aI):Prop:=KJ p.name/\dw p.b4/\(p.bI.length<=3/\∀n,n∈p.bI->Ky n)/\(p.bY.length<=17/\∀e,e∈p.bY->ms e)
theorem sv.ok{p:aI}(h:sv p):x2 p:=by
 obtain⟨a,b,⟨c1,c2⟩,d1,d2⟩:=h;have up:∀{s:J},dw s->cq s.length:=fun h=>Nat.le_trans h (by decide)
 exact⟨⟨up a.1,up b,⟨Nat.le_trans c1 (by decide),fun n hn=>⟨up (c2 n hn).1,up (c2 n hn).2⟩⟩,Nat.le_trans d1 (by decide),fun e he=>⟨up (d2 e he).1,up (d2 e he).2⟩⟩,Nat.le_trans b (by decide),fun n hn=>Nat.le_trans (c2 n hn).2 (by decide)⟩
theorem D4(a)(m:Nat)(h:c8 a.2.1.1 a.2.1.2.1 m)(hm:3<=m):ad (tE a) (fun r=>c8 r.2.1.1 r.2.1.2.1 (m-3)/\Ky ⟨r.2.2.1.1,r.2.2.1.2.1,r.2.2.1.2.2.1⟩):=by
 unfold tE;refine ad.bind (ld _ m h (by omega) (by simp)) fun r1 h1=>?_
 have s1:dw r1.1.2.1:=ri (by rfl) h1.2
 refine ad.bind (im _ _ h1.1 (by omega)) fun r2 h2=>?_
 refine ad.ite (fun _=>?_) fun _=>ad.ret ⟨h2.1.less (by omega),s1,by show(0:Nat)<=200;decide⟩
 exact ad.bind (Dw _ _ h2.1 (by omega)) fun c9 ab=>ad.ret ⟨ab.1.less (by omega),s1,ab.2⟩
theorem M0(a)(m:Nat)(h:c8 a.2.1.1 a.2.1.2.1 m)(hm:50<=m)(hn:KJ a.1.2.1):ad (wj a) (fun r=>c8 r.2.1.1 r.2.1.2.1 (m-50)/\sv ⟨r.2.2.2.2.1.1,r.2.2.2.2.1.2.1,r.2.2.1,r.2.2.2.1⟩/\(r.2.2.1:List dq).length<=1):=by
 unfold wj;refine ad.bind (Dw _ m h (by omega)) fun r1 h1=>?_
 refine ad.bind (MZ _ _ h1.1 (by omega)) fun r2 h2=>?_
 refine ad.bind (ld _ _ h2.1 (by omega) (by simp)) fun c9 ab=>?_
 have hg:(c9.1.2.1:J).length<=200/\li c9.1.2.1:=by
  have:=ab.2;simp only[List.mem_cons,List.not_mem_nil,or_false] at this;rcases this with e|e|e|e|e
  all_goals(rw[e];exact⟨by decide,by decide⟩)
 refine ad.bind (_C ((r2.2.2.1,(c9.1.2.1,())),()) h2.2 hg.1 hg.2) fun fV aF=>?_
 refine ad.bind (im _ _ ab.1 (by omega)) fun r5 bo=>?_
 have aA:(fV.2.1:List aR).length<=17/\∀e,e∈(fV.2.1:List aR)->ms e:=⟨Nat.le_succ_of_le aF.1,aF.2⟩;refine ad.ite (fun _=>?_) fun _=>ad.ret ⟨bo.1.less (by omega),⟨hn,h1.2,⟨by show(0:Nat)<=3;decide,fun n hn=>by cases hn⟩,aA⟩,by show(0:Nat)<=1;decide⟩
 refine ad.bind (D4 _ _ bo.1 (by omega)) fun pI dk=>?_
 refine ad.eq (eZ (by decide) (by unfold aM;simp)) ?_
 refine ad.ret ⟨dk.1.less (by omega),⟨hn,h1.2,⟨by show(1:Nat)<=3;decide,fun n hn=>?_⟩,aA⟩,by show(1:Nat)<=1;decide⟩
 have hn:n∈([]:List dq)++[_]:=hn;rw[List.nil_append,List.mem_singleton] at hn;rw[hn];exact dk.2
theorem Lp(a)(m:Nat)(h:c8 a.2.1.1 a.2.1.2.1 m)(hm:2<=m):ad (wi a) (fun r=>c8 r.2.1.1 r.2.1.2.1 (m-2)/\dw r.1.2.1):=by
 unfold wi;refine ad.bind (im _ m h (by omega)) fun r1 h1=>?_
 refine ad.ite (fun _=>?_) fun _=>?_
 ·exact ad.bind (ld _ _ h1.1 (by omega) (by simp)) fun r hr=>ad.ret ⟨hr.1.less (by omega),ri (by rfl) hr.2⟩
 ·exact ad.bind (Dw _ _ h1.1 (by omega)) fun r hr=>ad.ret ⟨hr.1.less (by omega),hr.2⟩
theorem Za(a)(m:Nat)(h:c8 a.2.1.1 a.2.1.2.1 m)(hm:2<=m):ad (Bn a) (fun r=>c8 r.2.1.1 r.2.1.2.1 (m-2)/\dw r.1.2.1):=by
 unfold Bn;refine ad.bind (im _ m h (by omega)) fun r1 h1=>?_
 refine ad.ite (fun _=>?_) fun _=>?_
 ·exact ad.bind (ld _ _ h1.1 (by omega) (by simp)) fun r hr=>ad.ret ⟨hr.1.less (by omega),ri (by rfl) hr.2⟩
 ·exact ad.bind (D3 _ _ h1.1 (by omega)) fun r hr=>ad.ret ⟨hr.1.less (by omega),hr.2⟩
theorem Zc(a)(m:Nat)(h:c8 a.2.1.1 a.2.1.2.1 m)(hm:7<=m):ad (Br a) (fun r=>c8 r.2.1.1 r.2.1.2.1 (m-7)/\Ky ⟨r.2.2.1.1,r.2.2.1.2.1,r.2.2.1.2.2.1⟩):=by
 unfold Br;refine ad.bind (D4 _ m h (by omega)) fun r1 h1=>?_
 refine ad.bind (im _ _ h1.1 (by omega)) fun r2 h2=>?_
 refine ad.ite (fun _=>?_) fun _=>ad.ite (fun _=>?_) fun _=>ad.ite (fun _=>?_) fun _=>?_
 ·exact ad.bind (ld _ _ h2.1 (by omega) (by simp)) fun r hr=>ad.ret ⟨hr.1.less (by omega),ri (by rfl) hr.2,h1.2.2⟩
 ·exact ad.bind (im _ _ h2.1 (by omega)) fun r hr=>ad.ret ⟨hr.1.less (by omega),h1.2⟩
 ·exact ad.bind (Lp _ _ h2.1 (by omega)) fun r hr=>ad.ret ⟨hr.1.less (by omega),h1.2.1,hr.2⟩
 ·exact ad.ret ⟨h2.1.less (by omega),h1.2⟩
theorem Lx(a)(m:Nat)(h:c8 a.2.1.1 a.2.1.2.1 m)(hm:8<=m):ad (wg a) (fun r=>c8 r.2.1.1 r.2.1.2.1 (m-8)/\ms ⟨r.2.2.1.1,r.2.2.1.2.1,r.2.2.1.2.2.1,r.2.2.1.2.2.2.1⟩):=by
 unfold wg;refine ad.bind (Mo _ m h (by omega)) fun r1 h1=>?_
 refine ad.bind (im _ _ h1.1 (by omega)) fun r2 h2=>?_
 refine ad.ite (fun _=>?_) fun _=>ad.ite (fun _=>?_) fun _=>ad.ite (fun _=>?_) fun _=>ad.ite (fun _=>?_) fun _=>?_
 ·exact ad.bind (Za _ _ h2.1 (by omega)) fun r hr=>ad.ret ⟨hr.1.less (by omega),hr.2,h1.2.2⟩
 ·exact ad.bind (im _ _ h2.1 (by omega)) fun r hr=>ad.ret ⟨hr.1.less (by omega),h1.2⟩
 ·exact ad.bind (R7 _ _ h2.1 (by omega) (by simp)) fun r hr=>ad.ret ⟨hr.1.less (by omega),h1.2⟩
 ·refine ad.bind (N5 _ (by simp) (by show(0:Int)<=81;decide) (by show(81:Int)<=127;decide)) fun q ao=>?_
  refine ad.bind (ld _ _ h2.1 (by omega) (by simp)) fun r hr=>ad.ret ⟨hr.1.less (by omega),h1.2.1,?_⟩
  have:=hr.2;simp only[List.mem_cons,List.not_mem_nil,or_false] at this;rcases this with e|e|e|e
  ·show(r.1.2.1:J).length<=200;rw[e];decide
  ·show(r.1.2.1:J).length<=200;rw[e];exact ao
  ·show(r.1.2.1:J).length<=200;rw[e];decide
  ·show(r.1.2.1:J).length<=200;rw[e];decide
 ·exact ad.ret ⟨h2.1.less (by omega),h1.2⟩
abbrev UJ(t:List aR):Prop:=t.length<=17/\∀e,e∈t->ms e
theorem Y_(a)(m:Nat)(h:c8 a.2.1.1 a.2.1.2.1 m)(hm:50<=m):ad (Bq a) (fun r=>c8 r.2.1.1 r.2.1.2.1 (m-50)/\UJ r.2.2.1):=by
 unfold Bq;refine ad.bind (MZ _ m h (by omega)) fun r1 h1=>?_
 obtain⟨ig,⟨u1,(t:List aR),u2⟩⟩:=r1;have aA:jk t:=h1.2;have aod:=aA.1;refine ad.eq (EJ ((t,()),()) (by show t.length<=2097152;omega)) ?_
 refine ad.bind (im _ _ h1.1 (by omega)) fun r2 h2=>?_
 have qv:UJ t:=⟨Nat.le_succ_of_le aA.1,aA.2⟩;refine ad.ite (fun _=>?_) fun _=>ad.ite (fun _=>?_) fun _=>ad.ret ⟨h2.1.less (by omega),qv⟩
 ·refine ad.bind (Lx _ _ h2.1 (by omega)) fun c9 ab=>?_
  refine ad.eq (eZ (xs:=t) (by decide) (by unfold aM;simp;omega)) ?_
  refine ad.ret ⟨ab.1.less (by omega),by show(t++[_]).length<=17;simp;omega,fun e he=>?_⟩
  have he:e∈t++[_]:=he;rcases List.mem_append.1 he with he|he
  ·exact aA.2 e he
  ·rw[List.mem_singleton.1 he];exact ab.2
 ·refine ad.ite (fun hc=>?_) fun _=>ad.ret ⟨h2.1.less (by omega),qv⟩
  have hc:(t.length:Int)>0:=of_decide_eq_true hc;refine ad.bind (im _ _ h2.1 (by omega)) fun c9 ab=>?_
  obtain⟨⟨v1,(q:Int),v2⟩,v3⟩:=c9;have pq:0<=q:=ab.2.1;have WR:q<(t.length:Int):=ab.2.2 (by show(1:Int)<=(t.length:Int);omega)
  obtain⟨j,rfl⟩:=Int.eq_ofNat_of_zero_le pq;have hj:j<t.length:=by omega
  refine ad.bind (Lx _ _ ab.1 (by omega)) fun fV aF=>?_
  refine ad.eq (oU (n:=t.length) (i:=j) hj) ?_
  refine ad.eq (x:=aR.mk fV.2.2.1.1 fV.2.2.1.2.1 fV.2.2.1.2.2.1 fV.2.2.1.2.2.2.1) (by show(t[j]?).bind _=_;rw[List.getElem?_eq_getElem hj];rfl) ?_
  exact ad.ret ⟨aF.1.less (by omega),by show(t.set _ _).length<=17;rw[List.length_set];omega,Ph aA.2 aF.2⟩
theorem Zb(a)(m:Nat)(h:c8 a.2.1.1 a.2.1.2.1 m)(hm:110<=m):ad (Bu a) (fun r=>c8 r.2.1.1 r.2.1.2.1 (m-110)/\sv ⟨r.2.2.2.2.1.1,r.2.2.2.2.1.2.1,r.2.2.1,r.2.2.2.1⟩):=by
 unfold Bu;refine ad.bind (ld _ m h (by omega) (by simp)) fun r1 h1=>?_
 refine ad.bind (M0 _ _ h1.1 (by omega) (G' (by rfl) h1.2)) fun r2 h2=>?_
 obtain⟨ob,uP,xA,pr⟩:=h2.2.1;refine ad.bind (im _ _ h2.1 (by omega)) fun c9 ab=>?_
 refine ad.ite (fun _=>?_) fun _=>ad.ite (fun _=>?_) fun _=>ad.ite (fun _=>?_) fun _=>ad.ite (fun _=>?_) fun _=>?_
 ·exact ad.bind (ld _ _ ab.1 (by omega) (by simp)) fun r hr=>ad.ret ⟨hr.1.less (by omega),G' (by rfl) hr.2,uP,xA,pr⟩
 ·exact ad.bind (Lp _ _ ab.1 (by omega)) fun r hr=>ad.ret ⟨hr.1.less (by omega),ob,hr.2,xA,pr⟩
 ·refine ad.bind (Zc _ _ ab.1 (by omega)) fun fV aF=>?_
  refine ad.bind (D4 _ _ aF.1 (by omega)) fun r5 bo=>?_
  have hl:=h2.2.2;refine ad.eq (eZ (xs:=(r2.2.2.1:List dq)) (by decide) (by unfold aM;simp;omega)) ?_
  refine ad.ret ⟨bo.1.less (by omega),ob,uP,⟨by show((r2.2.2.1:List dq)++[_,_]).length<=3;simp;omega,fun n hn=>?_⟩,pr⟩
  have hn:n∈(r2.2.2.1:List dq)++[_,_]:=hn;rcases List.mem_append.1 hn with hn|hn
  ·exact xA.2 n hn
  ·simp only[List.mem_cons,List.not_mem_nil,or_false] at hn;rcases hn with rfl|rfl
   ·exact aF.2
   ·exact bo.2
 ·exact ad.bind (Y_ _ _ ab.1 (by omega)) fun r hr=>ad.ret ⟨hr.1.less (by omega),ob,uP,xA,hr.2⟩
 ·exact ad.ret ⟨ab.1.less (by omega),ob,uP,xA,pr⟩
def k4(F:List aI):Int:=bif F.all dV then(bif ha [] (F.map (·.name)) then 2 else 0) else 1
def SG(rec:J->List J->Sum (List J) Int)(F:List aI):List dq->List J->Sum (List J) Int
 |[],out=>.inl out
 |n::r,out=>match F.find? (fun q=>q.name==n.name) with
  |none=>.inr 3
  |some q=>bif nP n q.b4 then(match rec n.name out with
   |.inl D=>SG rec F r D
   |.inr c=>.inr c) else .inr 3
def clo(F:List aI):Nat->List J->J->List J->Sum (List J) Int
 |0,_,_,_=>.inr 4
 |m+1,op,name,out=>bif out.contains name then .inl out else match F.find? (fun q=>q.name==name) with
  |none=>.inr 3
  |some p=>bif op.contains name then .inr 4 else match SG (clo F m (op++[name])) F p.bI out with
   |.inl D=>.inl (D++[name])
   |.inr c=>.inr c
def sx(F:List aI)(l:List J):Prop:=l.Nodup/\∀s,s∈l->∃q,F.find? (fun q=>q.name==s)=some q
theorem vG:∀(l ay:List J),l.Nodup->(∀x,x∈l->x∈ay)->l.length<=ay.length:=by
 intro l;induction l with
 |nil=>intro ay _ _;exact Nat.zero_le _
 |cons x l ih=>
  intro ay hn h;obtain⟨h1,h2⟩:=List.nodup_cons.1 hn;have hx:=h x List.mem_cons_self;have:=ih (ay.erase x) h2 (fun y al=>(List.mem_erase_of_ne (fun e=>by subst e;exact h1 al)).2 (h y (List.mem_cons_of_mem _ al)))
  rw[List.length_erase_of_mem hx] at this;have:=List.length_pos_of_mem hx;simp only[List.length_cons];omega
theorem sx.len{F:List aI}{l:List J}(h:sx F l):l.length<=F.length:=by
 have:=vG l (F.map (·.name)) h.1 (fun s M=>by
  obtain⟨q,ao⟩:=h.2 s M;have h1:=List.mem_of_find?_eq_some ao;have h2:q.name=s:=by have:=List.find?_some ao;simpa using this
  exact List.mem_map.2 ⟨q,h1,h2⟩)
 simpa using this
theorem sx.add{F:List aI}{l:List J}{s:J}{q:aI}(h:sx F l)(M:l.contains s=false)(ao:F.find? (fun q=>q.name==s)=some q):sx F (l++[s]):=by
 have hn:s∉l:=by simpa using M
 refine⟨?_,fun x hx=>?_⟩
 ·rw[List.nodup_append];refine⟨h.1,by simp,fun a aT b hb=>?_⟩
  rw[List.mem_singleton.1 hb];exact fun e=>hn (e▸aT)
 ·rcases List.mem_append.1 hx with hx|hx
  ·exact h.2 x hx
  ·rw[List.mem_singleton.1 hx];exact⟨q,ao⟩
theorem sx.nil(F:List aI):sx F []:=⟨List.nodup_nil,fun s h=>by cases h⟩
noncomputable abbrev ap9:bD:=[(101,HD)]
theorem XP:bg ae (bu az ap9):=bB ⟨Qd,⟨⟩⟩
abbrev zA:Shape:=⟨[a7 0 .pack,bS 4 3000256,a7 13 .pack,aq 14,aq 15],[(3000256,.map .i64,.slot 4 0)],31⟩
abbrev Fu:List bk:=[(.exit 0,⟨[a7 0 .pack,bS 4 3000256],[(3000256,.map .i64,.slot 4 0)],31⟩)]
noncomputable def GB(y:zA.L):cy zA Fu:=
 bif(decide (y.1.2.2.2.2.1<y.1.2.2.2.1)) then
(bd y.1.2.2.1 y.1.2.2.2.2.1).bind fun a=>
 some (.inl ((y.1.1,(),y.1.2.2.1,y.1.2.2.2.1,(IntKind.i64.wrap (y.1.2.2.2.2.1+(1:Int))),()),(c4 y.2.1 a.name y.1.2.2.2.2.1),()))
else
 some (.inr ((y.1.1,(),()),y.2.1,()))
noncomputable def Ae:zA.L->Option (aY Fu):=b7 GB
theorem aex:bq ae (aH (codeOf Tryz.f58) 1 122) (bE zA Fu Ae):=cE XP (by kernel_rfl) aB fun y=>by kernel_rfl
abbrev i58:Shape:=⟨[a7 0 .pack],[],31⟩
abbrev Ws:Shape:=⟨[(2,.am (.d (.map .i64))),aq 3],[],31⟩
noncomputable def f58(a:i58.L):Option Ws.L:=
(wk ((a.1.1,(),()),())).bind fun b=>
 bif(!b.1.1) then
 some ((([]:List (J×Int)),(1:Int),()),())
else
(Ae ((a.1.1,(),a.1.1,(a.1.1.length:Int),(0:Int),()),([]:List (J×Int)),())).bind fun c=>
 bif((c.2.1.length:Int) !=(c.1.1.length:Int)) then
 some ((([]:List (J×Int)),(2:Int),()),())
else
 some ((c.2.1,(0:Int),()),())
noncomputable def Xz:bb:=bf az Tryz.f58 i58 Ws [] f58
theorem amN:a_ ae 58 Xz:=bh XP Tryz.func58 (by kernel_rfl) (bN aex aB) (fun y=>by kernel_rfl) fun a=>by kernel_rfl
def iI(es:List (J×Int)):List J:=es.map (·.1)
def nn(es:List (J×Int))(i:Nat):List aI->List (J×Int)
 |[]=>es
 |p::r=>nn (c4 es p.name (i:Int)) (i+1) r
def rF(i:Nat):List aI->List (J×Int)
 |[]=>[]
 |p::r=>(p.name,(i:Int))::rF (i+1) r
theorem DS(n:J)(v:Int):∀es:List (J×Int),(iI es).contains n=false->c4 es n v=es++[(n,v)]:=by
 intro es;induction es with
 |nil=>intro _;rfl
 |cons p es ih=>
  intro h;simp only[iI,List.map_cons,List.contains_cons,Bool.or_eq_false_iff] at h;have h1:(p.1==n)=false:=by
   cases he:(p.1==n) with
   |false=>rfl
   |true=>rw[eq_of_beq he] at h;simp at h
  simp only[c4,h1,cond_false,ih h.2,List.cons_append]
theorem aad(n:J)(v:Int):∀es:List (J×Int),(iI es).contains n=true->(c4 es n v).length=es.length:=by
 intro es;induction es with
 |nil=>intro h;cases h
 |cons p es ih=>
  intro h;simp only[c4];cases h1:(p.1==n) with
  |true=>rfl
  |false=>
   have h2:(n==p.1)=false:=by
    cases he:(n==p.1) with
    |false=>rfl
    |true=>rw[eq_of_beq he] at h1;simp at h1
   simp only[iI,List.map_cons,List.contains_cons,h2,Bool.false_or] at h;simp only[cond_false,List.length_cons,ih h]
theorem ag9:∀(r:List aI) (es:List (J×Int)) (i:Nat),ha (iI es) (r.map (·.name))=false->nn es i r=es++rF i r:=by
 intro r;induction r with
 |nil=>intro es i _;simp[nn,rF]
 |cons p r ih=>
  intro es i h;simp only[List.map_cons,ha,Bool.or_eq_false_iff] at h;have h1:=DS p.name (i:Int) es h.1;simp only[nn,rF];rw[h1,ih _ _ (by simp only[iI,List.map_append,List.map_cons,List.map_nil];exact h.2)]
  simp
theorem afK:∀(r:List aI) (es:List (J×Int)) (i:Nat),(nn es i r).length<=es.length+r.length/\(ha (iI es) (r.map (·.name))=true->(nn es i r).length<es.length+r.length):=by
 intro r;induction r with
 |nil=>intro es i;exact⟨Nat.le_refl _,fun h=>by cases h⟩
 |cons p r ih=>
  intro es i;simp only[nn,List.map_cons,ha];obtain⟨h1,h2⟩:=ih (c4 es p.name (i:Int)) (i+1);cases hc:(iI es).contains p.name with
  |true=>
   rw[aad _ _ _ hc] at h1 h2;exact⟨by simp only[List.length_cons];omega,fun _=>by simp only[List.length_cons];omega⟩
  |false=>
   have hn:=DS p.name (i:Int) es hc;have hl:(c4 es p.name (i:Int)).length=es.length+1:=by rw[hn];simp
   have af:iI (c4 es p.name (i:Int))=iI es++[p.name]:=by rw[hn];simp[iI]
   rw[af] at h2;rw[hl] at h1 h2;exact⟨by simp only[List.length_cons];omega,fun h=>by have:=h2 (by simpa using h);simp only[List.length_cons];omega⟩
theorem ZJ(a)(hb:fb a.1.1):f58 a=some (((bif k4 a.1.1==0 then rF 0 a.1.1 else []),(k4 a.1.1,())),()):=by
 obtain⟨⟨F,u⟩,bv⟩:=a;have hl:F.length<=2097152:=hb.1;have key:∀(r:List aI) (k:Nat) (es:List (J×Int)),F.drop k=r->k<=F.length->
   Ae ((F,((),(F,((F.length:Int),((k:Int),()))))),(es,()))=some ((F,((),())),(nn es k r,())):=by
  intro r;induction r with
  |nil=>
   intro k es hr af;have:=drop_nil hr;have d1:decide ((k:Int)<(F.length:Int))=false:=by simp only[decide_eq_false_iff_not];omega
   refine eL ?_
   simp only[GB,d1,cond_false,nn]
  |cons q r ih=>
   intro k es hr af;obtain⟨c1,c2,c3⟩:=drop_cons hr;have hw:aM k:=by unfold aM;omega
   refine(gE ?_).trans (ih (k+1) (c4 es q.name (k:Int)) c2 c3);simp only[GB,cF c3,cond_true,cc,c1,Option.bind_some,cl hw]
 have key:=key F 0 [] rfl (Nat.zero_le _);have key:Ae ((F,((),(F,((F.length:Int),((0:Int),()))))),(([]:List (J×Int)),()))=_:=key;have e1:=M2 ((F,((),())),()) hb;simp only[f58,e1,Option.bind_some,k4,key];cases F.all dV with
 |false=>rfl
 |true=>
  simp only[Bool.not_true,cond_false,cond_true];cases Z:ha [] (F.map (·.name)) with
  |true=>
   have:=(afK F [] 0).2 Z;have hne:(((nn [] 0 F).length:Int) !=(F.length:Int))=true:=by simp at this ⊢;omega
   rw[hne];rfl
  |false=>
   have gA:=ag9 F [] 0 Z;rw[List.nil_append] at gA;have hz:∀(r:List aI) (i:Nat),(rF i r).length=r.length:=by
    intro r;induction r with
    |nil=>intro i;rfl
    |cons p r ih=>intro i;simp only[rF,List.length_cons,ih]
   have hne:(((nn [] 0 F).length:Int) !=(F.length:Int))=false:=by rw[gA,hz];simp
   rw[hne,gA];rfl
noncomputable abbrev al6:bD:=[(85,KC)]
theorem amx:bg ae (bu az al6):=bB ⟨z85,⟨⟩⟩
abbrev i105:Shape:=⟨[dS 0 [bJ .pack],a7 1 .pack],[],15⟩
abbrev T8:Shape:=⟨[bj 4 4 0,aq 5],[bi 4 [bJ .pack]],15⟩
noncomputable def f105(a:i105.L):Option T8.L:=
(f85 ((a.1.2.1,()),())).bind fun b=>
 bif(b.1.1 !=(0:Int)) then
 some (((),b.1.1,()),(a.1.1.1,()),())
else
 some (((),(0:Int),()),(a.1.2.1,()),())
noncomputable def Jf:bb:=bf az Tryz.f105 i105 T8 [] f105
theorem z105:a_ ae 105 Jf:=bh amx Tryz.func105 (by kernel_rfl) aB (fun y=>by kernel_rfl) fun a=>by kernel_rfl
noncomputable abbrev al5:bD:=[(156,w6)]
theorem amw:bg ae (bu az al5):=bB ⟨z156,⟨⟩⟩
abbrev i107:Shape:=⟨[dS 0 [bC,bC,bJ .need,bJ .entry]],[],13⟩
abbrev T6:Shape:=⟨[bj 2 2 0],[gg 5000130 .need 2 2,gg 5000131 .entry 2 3,bi 2 [bC,bC,.own 5000130,.own 5000131]],13⟩
noncomputable def f107(a:i107.L):Option T6.L:=
(cR 40 ([]:List dq) a.1.1.2.2.1).bind fun b=>
(f156 ((a.1.1.2.2.2.1,()),())).bind fun c=>
 some (((),()),b,c.2.1,(a.1.1.1,a.1.1.2.1,(),(),()),())
noncomputable def Je:bb:=bf az Tryz.f107 i107 T6 [] f107
theorem z107:a_ ae 107 Je:=bh amw Tryz.func107 (by kernel_rfl) aB (fun y=>by kernel_rfl) fun a=>by kernel_rfl
noncomputable abbrev al1:bD:=[(107,Je)]
theorem VR:bg ae (bu az al1):=bB ⟨z107,⟨⟩⟩
abbrev Aa:Shape:=⟨[a7 0 .pack,bj 3 3 0,bS 4 3000256,aq 5],[bi 3 [bC,bC,bJ .need,bJ .entry],b8 3000256 .pack 4 0],35⟩
abbrev FX:List bk:=[(.exit 0,⟨[a7 0 .pack,bj 3 3 0,bS 4 3000256,aq 5],[bi 3 [bC,bC,bJ .need,bJ .entry],b8 3000256 .pack 4 0],35⟩)]
noncomputable def vW(y:Aa.L):cy Aa FX:=
 bif(decide (y.1.2.2.2.1<(y.1.1.length:Int))) then
(bd y.1.1 y.1.2.2.2.1).bind fun a=>
 bif(Op.bytesLess a.name y.2.1.1) then
 some (.inl ((y.1.1,(),(),(IntKind.i64.wrap (y.1.2.2.2.1+(1:Int))),()),(y.2.1.1,y.2.1.2.1,y.2.1.2.2.1,y.2.1.2.2.2.1,()),y.2.2.1,()))
else
 some (.inr ((y.1.1,(),(),y.1.2.2.2.1,()),(y.2.1.1,y.2.1.2.1,y.2.1.2.2.1,y.2.1.2.2.2.1,()),y.2.2.1,()))
else
 some (.inr ((y.1.1,(),(),y.1.2.2.2.1,()),(y.2.1.1,y.2.1.2.1,y.2.1.2.2.1,y.2.1.2.2.2.1,()),y.2.2.1,()))
noncomputable def Ag:Aa.L->Option (aY FX):=b7 vW
theorem afb:bq ae (aH (codeOf Tryz.f115) 1 28) (bE Aa FX Ag):=cE VR (by kernel_rfl) aB fun y=>by kernel_rfl
abbrev i115:Shape:=⟨[a7 0 .pack,dS 1 [bC,bC,bJ .need,bJ .entry]],[],35⟩
abbrev T2:Shape:=⟨[bS 4 3000256],[b8 3000256 .pack 4 0],35⟩
noncomputable def f115(a:i115.L):Option T2.L:=
(Ag ((a.1.1,(),(),(0:Int),()),(a.1.2.1.1,a.1.2.1.2.1,a.1.2.1.2.2.1,a.1.2.1.2.2.2.1,()),([]:List aI),())).bind fun b=>
(cA b.1.1 (0:Int) b.1.2.2.2.1).bind fun c=>
(cR 80 ([]:List aI) c).bind fun d=>
(f107 (((b.2.1.1,b.2.1.2.1,b.2.1.2.2.1,b.2.1.2.2.2.1,()),()),())).bind fun e=>
(cR 80 d ([(aI.mk e.2.2.2.1.1 e.2.2.2.1.2.1 e.2.1 e.2.2.1)]:List aI)).bind fun f=>
(cA b.1.1 b.1.2.2.2.1 (b.1.1.length:Int)).bind fun g=>
(cR 80 f g).bind fun h=>
 some (((),()),h,())
noncomputable def Vy:bb:=bf az Tryz.f115 i115 T2 [] f115
theorem ajJ:a_ ae 115 Vy:=bh VR Tryz.func115 (by kernel_rfl) (bN afb aB) (fun y=>by kernel_rfl) fun a=>by kernel_rfl
noncomputable abbrev ap3:bD:=[(98,KA),(104,Cs),(105,Jf),(115,Vy)]
theorem aqo:bg ae (bu az ap3):=bB ⟨VU,H6,z105,ajJ,⟨⟩⟩
abbrev i71:Shape:=⟨[dS 0 [bJ .pack],dS 1 [bC,bC,bJ .need,bJ .entry]],[],27⟩
abbrev Wm:Shape:=⟨[bj 4 4 0,aq 5],[bi 4 [bJ .pack]],27⟩
noncomputable def f71(a:i71.L):Option Wm.L:=
(f98 (((a.1.2.1.1,a.1.2.1.2.1,a.1.2.1.2.2.1,a.1.2.1.2.2.2.1,()),()),())).bind fun b=>
 bif(!b.1.1) then
 some (((),(1:Int),()),(a.1.1.1,()),())
else
(f104 ((a.1.1.1,a.1.2.1.1,()),())).bind fun c=>
 bif(decide (c.1.1>=(0:Int))) then
 some (((),(2:Int),()),(a.1.1.1,()),())
else
(f115 ((a.1.1.1,(a.1.2.1.1,a.1.2.1.2.1,a.1.2.1.2.2.1,a.1.2.1.2.2.2.1,()),()),())).bind fun d=>
(f105 (((a.1.1.1,()),d.2.1,()),())).bind fun e=>
 some (((),e.1.2.1,()),(e.2.1.1,()),())
noncomputable def Xw:bb:=bf az Tryz.f71 i71 Wm [] f71
theorem amK:a_ ae 71 Xw:=bh aqo Tryz.func71 (by kernel_rfl) aB (fun y=>by kernel_rfl) fun a=>by kernel_rfl
noncomputable abbrev ahx:bD:=[(71,Xw),(81,la),(129,jU),(185,HC)]
theorem R0:bg ae (bu az ahx):=bB ⟨amK,l2,ko,Qc,⟨⟩⟩
abbrev yM:Shape:=⟨[bj 0 500000 0,bj 2 2 0,bj 3 3 0,aq 4],[bi 500000 [bJ .u8,bM],gg 5000128 .pack 2 0,bi 2 [.own 5000128],bi 3 [bJ .pack]],23⟩
abbrev Ea:List bk:=[(.exit 0,⟨[bj 0 500000 0,bj 2 2 0,bj 3 3 0],[bi 500000 [bJ .u8,bM],gg 5000128 .pack 2 0,bi 2 [.own 5000128],bi 3 [bJ .pack]],23⟩)]
noncomputable def NN(y:yM.L):cy yM Ea:=
 bif(decide (y.1.2.2.2.1>(0:Int))) then
(ju (((),([([111,110,101]:J),([116,119,111]:J),([116,104,114,101,101]:J),([122,105,112]:J)]:List J),()),(y.2.1.1,y.2.1.2.1,()),())).bind fun a=>
(wj (((),a.1.2.1,()),(a.2.1.1,a.2.1.2.1,()),())).bind fun b=>
(f71 (((y.2.2.2.2.1.1,()),(b.2.2.2.2.1.1,b.2.2.2.2.1.2.1,b.2.2.1,b.2.2.2.1,()),()),())).bind fun c=>
 some (.inl (((),(),(),(IntKind.i64.wrap (y.1.2.2.2.1-(1:Int))),()),(b.2.1.1,b.2.1.2.1,()),y.2.2.1,((),()),(c.2.1.1,()),()))
else
 some (.inr (((),(),(),()),(y.2.1.1,y.2.1.2.1,()),y.2.2.1,((),()),(y.2.2.2.2.1.1,()),()))
noncomputable def NE:yM.L->Option (aY Ea):=b7 NN
theorem abG:bq ae (aH (codeOf Tryz.f133) 1 58) (bE yM Ea NE):=cE R0 (by kernel_rfl) aB fun y=>by kernel_rfl
abbrev Ro:Shape:=⟨[bj 0 500000 0],[bi 500000 [bJ .u8,bM]],23⟩
abbrev QR:Shape:=⟨[bj 0 500000 0,bj 2 2 0],[bi 500000 [bJ .u8,bM],bi 2 [bJ .pack]],23⟩
noncomputable def Bt(a:Ro.L):Option QR.L:=
(gZ (((),(5:Int),()),(a.2.1.1,a.2.1.2.1,()),())).bind fun b=>
(NE (((),(),(),b.1.2.1,()),(b.2.1.1,b.2.1.2.1,()),([]:List aI),((),()),(([]:List aI),()),())).bind fun c=>
 some (((),(),()),(c.2.1.1,c.2.1.2.1,()),(c.2.2.2.2.1.1,()),())
noncomputable def RS:bb:=bf az Tryz.f133 Ro QR [0] Bt
theorem af9:a_ ae 133 RS:=bh R0 Tryz.func133 (by kernel_rfl) (bN abG aB) (fun y=>by kernel_rfl) fun a=>by kernel_rfl
noncomputable abbrev ap7:bD:=[(107,Je)]
theorem XO:bg ae (bu az ap7):=bB ⟨z107,⟨⟩⟩
abbrev A0:Shape:=⟨[bj 1 1 0,bj 2 2 0,bj 3 3 0,aq 4],[bi 1 [bJ .pack],gg 5000128 .pack 2 0,bi 2 [.own 5000128],gg 5000192 .pack 3 0,bi 3 [.own 5000192]],25⟩
abbrev G5:List bk:=[(.exit 0,⟨[bj 2 2 0,bj 3 3 0],[gg 5000128 .pack 2 0,bi 2 [.own 5000128],gg 5000192 .pack 3 0,bi 3 [.own 5000192]],25⟩)]
noncomputable def Bi(y:A0.L):cy A0 G5:=
 bif(decide (y.1.2.2.2.1<(y.2.1.1.length:Int))) then
(bd y.2.1.1 y.1.2.2.2.1).bind fun a=>
(f107 (((a.name,a.b4,a.bI,a.bY,()),()),())).bind fun b=>
(cR 80 y.2.2.2.2.1 ([(aI.mk b.2.2.2.1.1 b.2.2.2.1.2.1 b.2.1 b.2.2.1)]:List aI)).bind fun c=>
 some (.inl (((),(),(),(IntKind.i64.wrap (y.1.2.2.2.1+(1:Int))),()),(y.2.1.1,()),y.2.2.1,((),()),c,((),()),()))
else
 some (.inr (((),(),()),y.2.2.1,((),()),y.2.2.2.2.1,((),()),()))
noncomputable def Hi:A0.L->Option (aY G5):=b7 Bi
theorem agB:bq ae (aH (codeOf Tryz.f62) 1 58) (bE A0 G5 Hi):=cE XO (by kernel_rfl) aB fun y=>by kernel_rfl
abbrev i62:Shape:=⟨[dS 0 [bJ .pack]],[],25⟩
abbrev Wq:Shape:=⟨[bj 2 2 0],[gg 5000128 .pack 2 0,bi 2 [.own 5000128]],25⟩
noncomputable def f62(a:i62.L):Option Wq.L:=
(Hi (((),(),(),(0:Int),()),(a.1.1.1,()),([]:List aI),((),()),([]:List aI),((),()),())).bind fun b=>
 some (((),()),b.2.2.2.1,((),()),())
noncomputable def KE:bb:=bf az Tryz.f62 i62 Wq [] f62
theorem VY:a_ ae 62 KE:=bh XO Tryz.func62 (by kernel_rfl) (bN agB aB) (fun y=>by kernel_rfl) fun a=>by kernel_rfl
noncomputable abbrev aiR:bD:=[(62,KE),(129,jU),(131,RT),(133,RS)]
theorem aiU:bg ae (bu az aiR):=bB ⟨VY,ko,aga,af9,⟨⟩⟩
abbrev Sq:Shape:=⟨[bj 0 500000 0],[bi 500000 [bJ .u8,bM]],29⟩
abbrev Sd:Shape:=⟨[bj 0 500000 0,bj 2 2 0],[bi 500000 [bJ .u8,bM],bi 2 [bJ .pack]],29⟩
noncomputable def BT(a:Sq.L):Option Sd.L:=
(Bt (((),()),(a.2.1.1,a.2.1.2.1,()),())).bind fun b=>
(f62 (((b.2.2.1.1,()),()),())).bind fun c=>
(gZ (((),(12:Int),()),(b.2.1.1,b.2.1.2.1,()),())).bind fun d=>
 bif(d.1.2.1==(0:Int)) then
(Bu (((),()),(d.2.1.1,d.2.1.2.1,()),())).bind fun e=>
(cR 80 c.2.1 ([(aI.mk e.2.2.2.2.1.1 e.2.2.2.2.1.2.1 e.2.2.1 e.2.2.2.1)]:List aI)).bind fun f=>
 some (((),(),()),(e.2.1.1,e.2.1.2.1,()),(f,()),())
else
 bif(d.1.2.1==(1:Int)) then
 bif(decide ((c.2.1.length:Int)>(0:Int))) then
(cA c.2.1 (1:Int) (c.2.1.length:Int)).bind fun g=>
 some (((),(),()),(d.2.1.1,d.2.1.2.1,()),(g,()),())
else
 some (((),(),()),(d.2.1.1,d.2.1.2.1,()),(c.2.1,()),())
else
 some (((),(),()),(d.2.1.1,d.2.1.2.1,()),(c.2.1,()),())
noncomputable def SL:bb:=bf az Tryz.f83 Sq Sd [0] BT
theorem ah0:a_ ae 83 SL:=bh aiU Tryz.func83 (by kernel_rfl) aB (fun y=>by kernel_rfl) fun a=>by kernel_rfl
theorem aaN(a)(hb:fb a.1.1)(hv:mA a.1.1):f85 a=some ((fA a.1.1,()),()):=by
 obtain⟨⟨F,u⟩,bv⟩:=a;have hl:F.length<=2097152:=hb.1;have key:A9 ((F,((0:Int),())),())=some (bif allI (uG F) 0 F then .inr ((F,()),()) else .inl (((1:Int),()),())):=by
  refine gm rk F (fun i=>((F,((i:Int),())),())) _ _ _ (fun i x hx=>?_) ?_
  ·have hi:=ct hx;have hw:aM i:=by unfold aM;omega
   have oh:=hb.2 x (List.mem_of_getElem? hx);simp only[rk,cF hi,cond_true,Am,cc,hx,Option.bind_some];rw[EO _ oh];simp only[Option.bind_some,uG,Cl];cases dV x with
   |false=>rfl
   |true=>
    simp only[Bool.not_true,cond_false,Bool.true_and,mL];cases i with
    |zero=>simp only[beq_self_eq_true,Bool.not_true,cond_false,Option.bind_some,Bool.true_or,cond_true,cl hw]
    |succ i=>
     have h0:(i+1==0)=false:=rfl;have iU:i<F.length:=by omega
     obtain⟨q,ao⟩:∃q,F[i]? =some q:=⟨F[i],List.getElem?_eq_getElem iU⟩;simp only[h0,Bool.not_false,cond_true,vu (i:=i) (by unfold aM;omega),cc,ao,hx,Option.bind_some,Bool.false_or,Nat.add_sub_cancel]
     cases Op.bytesLess q.name x.name with
     |false=>rfl
     |true=>simp only[Bool.not_true,cond_false,cond_true,cl hw]
  ·simp only[rk,dQ,cond_false]
 rw[PA] at key;have bo:decide ((F.length:Int)>5)=!decide (F.length<=5):=by by_cases h:F.length<=5<;>simp only[h,decide_true,decide_false,Bool.not_true,Bool.not_false,decide_eq_true_eq,decide_eq_false_iff_not]<;>omega
 simp only[f85,key,Option.bind_some,fA];cases hA:(F.all dV&&j6 F) with
 |false=>rfl
 |true=>
  have af:F.all dV=true:=by simp only[Bool.and_eq_true] at hA;exact hA.1
  obtain⟨out,aA⟩:=N1 ((F,()),()) hb af;have hn:=MW ((F,()),()) hb hv;simp only[cond_true,Option.bind_some,aA,bo];cases decide (F.length<=5) with
  |false=>rfl
  |true=>
   simp only[Bool.not_true,cond_false,hn,Option.bind_some];cases F.all (fun p=>p.bI.all (f_ F))<;>cases (eM [] F).isSome<;>rfl
theorem N2(a)(h:sy ⟨a.1.1.1,a.1.1.2.1,a.1.1.2.2.1,a.1.1.2.2.2.1⟩):f107 a=some (((),()),(a.1.1.2.2.1,(a.1.1.2.2.2.1,((a.1.1.1,(a.1.1.2.1,((),((),())))),())))):=by
 obtain⟨⟨⟨name,b4,bI,bY,u⟩,bv⟩,mc⟩:=a;have h1:bI.length<=2097152:=h.2.2.1.1;have h2:=EJ ((bY,()),()) h.2.2.2.1;simp only[f107,eZ (show(40:Nat)<=100 by decide) (show aM (([]:List dq).length+bI.length) by unfold aM;simp;omega),List.nil_append,Option.bind_some,h2]
def dW(F:List aI)(n:J):Nat:=(F.takeWhile fun p=>Op.bytesLess p.name n).length
theorem F4(F:List aI)(n:J):dW F n<=F.length:=(List.takeWhile_prefix _).length_le
def kw(F:List aI)(p:aI):List aI:=F.take (dW F p.name)++[p]++F.drop (dW F p.name)
theorem MV(F:List aI)(p:aI):(kw F p).length=F.length+1:=by
 have:=F4 F p.name;unfold kw;simp only[List.length_append,List.length_take,List.length_drop,List.length_cons,List.length_nil];omega
theorem MU{F:List aI}{p x:aI}(h:x∈kw F p):x=p\/x∈F:=by
 unfold kw at h;simp only[List.mem_append,List.mem_singleton] at h;rcases h with(h|h)|h
 ·exact .inr (List.mem_of_mem_take h)
 ·exact .inl h
 ·exact .inr (List.mem_of_mem_drop h)
theorem acv{k:Nat}{F:List aI}{p:aI}(h:jI k F)(ag:x2 p):jI (k+1) (kw F p):=
 ⟨by rw[MV];exact Nat.succ_le_succ h.1,fun x hx=>by
  rcases MU hx with rfl|hx
  ·exact ag
  ·exact h.2 x hx⟩
theorem acB(a)(h1:a.1.1.length<=2097151)(ag:sy ⟨a.1.2.1.1,a.1.2.1.2.1,a.1.2.1.2.2.1,a.1.2.1.2.2.2.1⟩):f115 a=some (((),()),(kw a.1.1 ⟨a.1.2.1.1,a.1.2.1.2.1,a.1.2.1.2.2.1,a.1.2.1.2.2.2.1⟩,())):=by
 obtain⟨⟨F,⟨name,b4,bI,bY,ig⟩,u⟩,bv⟩:=a;have h1:F.length<=2097151:=h1;have key:∀(r:List aI) (k:Nat),F.drop k=r->k<=F.length->Ag ((F,((),((),((k:Int),())))),((name,(b4,(bI,(bY,())))),(([]:List aI),())))=
   some ((F,((),((),(((k+(r.takeWhile fun p=>Op.bytesLess p.name name).length:Nat):Int),())))),((name,(b4,(bI,(bY,())))),(([]:List aI),()))):=by
  intro r;induction r with
  |nil=>
   intro k hr af;have:=drop_nil hr;obtain rfl:k=F.length:=by omega
   refine eL ?_
   simp only[vW,dQ,cond_false,List.takeWhile_nil,List.length_nil,Nat.add_zero]
  |cons q r ih=>
   intro k hr af;obtain⟨c1,c2,c3⟩:=drop_cons hr;have hw:aM k:=by unfold aM;omega
   rw[List.takeWhile_cons];cases ao:Op.bytesLess q.name name with
   |false=>
    refine eL ?_
    simp only[vW,cF c3,cond_true,cc,c1,Option.bind_some,ao,cond_false];rfl
   |true=>
    have step:vW ((F,((),((),((k:Int),())))),((name,(b4,(bI,(bY,())))),(([]:List aI),())))=some (.inl ((F,((),((),(((k+1:Nat):Int),())))),((name,(b4,(bI,(bY,())))),(([]:List aI),())))):=by
     simp only[vW,cF c3,cond_true,cc,c1,Option.bind_some,ao,cl hw]
    refine Eq.trans (gE step) (Eq.trans (ih (k+1) c2 c3) ?_);simp only[if_true,List.length_cons];have e:k+1+(r.takeWhile fun p=>Op.bytesLess p.name name).length=k+((r.takeWhile fun p=>Op.bytesLess p.name name).length+1):=by omega
    rw[e]
 have key:=key F 0 rfl (Nat.zero_le _);rw[Nat.zero_add] at key;have af:(F.takeWhile fun p=>Op.bytesLess p.name name).length=dW F name:=rfl
 rw[af] at key;have key:Ag ((F,((),((),((0:Int),())))),((name,(b4,(bI,(bY,())))),(([]:List aI),())))=_:=key;have c7:=F4 F name;have e2:=N2 (((name,(b4,(bI,(bY,())))),()),()) ag;simp only[f115,key,Option.bind_some,oO c7,pT c7,e2];rw[eZ (show(80:Nat)<=100 by decide) (by unfold aM;simp;omega)]
 simp only[List.nil_append,Option.bind_some];rw[eZ (show(80:Nat)<=100 by decide) (by unfold aM;simp;omega)]
 simp only[Option.bind_some];rw[eZ (show(80:Nat)<=100 by decide) (by unfold aM;simp;omega)]
 rfl
theorem O5(a)(hb:fb a.1.2.1)(hv:mA a.1.2.1):f105 a=some (((),(fA a.1.2.1,())),(((bif fA a.1.2.1==0 then a.1.2.1 else a.1.1.1),()),())):=by
 obtain⟨⟨⟨r,ig⟩,list,u⟩,bv⟩:=a;have e:=aaN ((list,()),()) hb hv;simp only[f105,e,Option.bind_some];have z:(fA list !=0)=!(fA list==0):=rfl;rw[z];cases hc:(fA list==0) with
 |false=>rfl
 |true=>
  have hc:fA list=0:=by simpa using hc
  simp only[Bool.not_true,cond_false,cond_true];rw[hc]
def rU(F:List aI)(p:aI):List aI×Int:=bif dV p then(match F.find? (fun q=>q.name==p.name) with
 |some _=>(F,2)
 |none=>(bif fA (kw F p)==0 then kw F p else F,fA (kw F p))) else(F,1)
theorem agk(a)(k:Nat)(af:k<=2000000)(h:jI k a.1.1.1)(ag:x2 ⟨a.1.2.1.1,a.1.2.1.2.1,a.1.2.1.2.2.1,a.1.2.1.2.2.2.1⟩):f71 a=some (((),((rU a.1.1.1 ⟨a.1.2.1.1,a.1.2.1.2.1,a.1.2.1.2.2.1,a.1.2.1.2.2.2.1⟩).2,())),(((rU a.1.1.1 ⟨a.1.2.1.1,a.1.2.1.2.1,a.1.2.1.2.2.1,a.1.2.1.2.2.2.1⟩).1,()),())):=by
 obtain⟨⟨⟨F,ig⟩,⟨name,b4,bI,bY,u1⟩,u⟩,bv⟩:=a;have h:jI k F:=h;have ag:x2 ⟨name,b4,bI,bY⟩:=ag;have hl:F.length<=2000000:=Nat.le_trans h.1 af;have e1:=EO (((name,(b4,(bI,(bY,())))),()),()) ag.1;simp only[f71,e1,Option.bind_some,rU];cases dV ⟨name,b4,bI,bY⟩ with
 |false=>rfl
 |true=>
  simp only[Bool.not_true,cond_false,cond_true];rcases EI ((F,(name,())),()) (show F.length<=2097152 by omega) with⟨j,q,g1,g2,g3⟩|⟨g1,g2⟩
  ·have g3:F.find? (fun p=>p.name==name)=some q:=g3
   have hj:decide ((j:Int)>=0)=true:=by simp
   simp only[g1,Option.bind_some,hj,cond_true,g3]
  ·have g2:F.find? (fun p=>p.name==name)=none:=g2
   have hj:decide ((-1:Int)>=0)=false:=rfl;have hw:=acv h ag;have e2:=acB ((F,((name,(b4,(bI,(bY,())))),())),()) (show F.length<=2097151 by omega) ag.1
   have b0:=O5 (((F,()),(kw F ⟨name,b4,bI,bY⟩,())),()) (hw.mz (by omega)) hw.vs
   simp only[g1,Option.bind_some,hj,cond_false,g2,e2,b0]
theorem N3(a)(h:fb a.1.1.1):f62 a=some (((),()),(a.1.1.1,(((),()),()))):=by
 obtain⟨⟨⟨F,ig⟩,u⟩,bv⟩:=a;have hl:F.length<=2097152:=h.1;have key:=yS (S:=List aI) Bi F (fun i bV=>(((),((),((),((i:Int),())))),((F,()),(([]:List aI),(((),()),(bV,(((),()),()))))))) (fun x bV=>bV++[x]) (fun bV=>(((),((),())),(([]:List aI),(((),()),(bV,(((),()),())))))) (fun i bV=>bV.length=i) [] rfl (fun i x bV hx dj=>?_) (fun bV dj=>?_)
 ·have key:Hi (((),((),((),((0:Int),())))),((F,()),(([]:List aI),(((),()),(([]:List aI),(((),()),()))))))=_:=key;have e:∀(l bV:List aI),l.foldl (fun s x=>s++[x]) bV=bV++l:=by
   intro l;induction l with
   |nil=>intro bV;simp
   |cons x l ih=>intro bV;simp only[List.foldl_cons];rw[ih];simp
  simp only[f62,key,Option.bind_some];rw[e];rfl
 ·have hi:=ct hx;have hw:aM i:=by unfold aM;omega
  have e2:=N2 (((x.name,(x.b4,(x.bI,(x.bY,())))),()),()) (h.2 x (List.mem_of_getElem? hx));have aT:cR 80 bV [x]=some (bV++[x]):=eZ (by decide) (by unfold aM;simp;omega)
  simp only[Bi,cF hi,cond_true,cc,hx,Option.bind_some,e2,aT,cl hw];exact⟨trivial,by simp[dj]⟩
 ·simp only[Bi,dQ,cond_false]
abbrev kQ(k:Nat)(F:List aI):Prop:=F.length<=k/\∀p,p∈F->sv p
theorem kQ.ok{k:Nat}{F:List aI}(h:kQ k F):jI k F:=⟨h.1,fun p ag=>(h.2 p ag).ok⟩
theorem agP{k:Nat}{F:List aI}{p:aI}(h:kQ k F)(ag:sv p):kQ (k+1) (rU F p).1:=by
 have ah:kQ (k+1) F:=⟨Nat.le_succ_of_le h.1,h.2⟩;unfold rU;cases dV p with
 |false=>exact ah
 |true=>
  simp only[cond_true];cases F.find? (fun q=>q.name==p.name) with
  |some q=>exact ah
  |none=>
   simp only;cases fA (kw F p)==0 with
   |false=>exact ah
   |true=>
    refine⟨by show(kw F p).length<=k+1;rw[MV];exact Nat.succ_le_succ h.1,fun x hx=>?_⟩
    rcases MU hx with rfl|hx
    ·exact ag
    ·exact h.2 x hx
theorem aaU(a)(m:Nat)(h:c8 a.2.1.1 a.2.1.2.1 m)(hm:300<=m):ad (Bt a) (fun r=>c8 r.2.1.1 r.2.1.2.1 (m-300)/\kQ 4 r.2.2.1.1):=by
 unfold Bt;refine ad.bind (im _ m h (by omega)) fun r1 h1=>?_
 obtain⟨⟨v1,(q:Int),v2⟩,⟨⟨(bc:List Int),(nr:Int),v3⟩,v4⟩⟩:=r1;have hn:q<5:=h1.2.2 (by show(1:Int)<=5;decide)
 have h0:0<=q:=h1.2.1;refine ad.bind (P:=fun r=>c8 r.2.1.1 r.2.1.2.1 (m-300)/\kQ 4 r.2.2.2.2.1.1) ?_ fun r hr=>ad.ret hr
 refine ad.loop (fun(k:Nat) y=>k<=4/\(y.1.2.2.2.1:Int)=k/\c8 y.2.1.1 y.2.1.2.1 (m-300+55*k)/\kQ (4-k) y.2.2.2.2.1.1) (fun k y al=>?_) q.toNat _ ⟨by omega,by show q=_;omega,h1.1.less (by omega),by show(0:Nat)<=_;omega,fun p ag=>by cases ag⟩
 obtain⟨⟨b_,w2,hU,(i:Int),sB⟩,⟨⟨(be:List Int),(kT:Int),sA⟩,pD,jJ,⟨(F:List aI),pC⟩,ie⟩⟩:=y;obtain⟨dB,ek,fh,fo⟩:=al;have ek:i=k:=ek;subst ek;have fh:c8 be kT (m-300+55*k):=fh;have fo:kQ (4-k) F:=fo;unfold NN;refine ad.ite (fun hc=>?_) fun hc=>ad.ret ⟨fh.less (by omega),Nat.le_trans fo.1 (by omega),fo.2⟩
 have hc:(k:Int)>0:=of_decide_eq_true hc;have hw:IntKind.i64.wrap ((k:Int)-1)=((k-1:Nat):Int):=by rw[ed (by omega) (by omega)];omega
 refine ad.bind (ld _ _ fh (by omega) (by simp)) fun r2 h2=>?_
 refine ad.bind (M0 _ _ h2.1 (by omega) (G' (by rfl) h2.2)) fun c9 ab=>?_
 refine ad.eq (agk (((F,()),((c9.2.2.2.2.1.1,(c9.2.2.2.2.1.2.1,(c9.2.2.1,(c9.2.2.2.1,())))),())),()) (4-k) (by omega) fo.ok ab.2.1.ok) ?_
 refine ad.ret ⟨k-1,by omega,by omega,hw,ab.1.less (by omega),?_⟩
 have:=agP fo ab.2.1;exact⟨Nat.le_trans this.1 (by omega),this.2⟩
theorem Y'(a)(m:Nat)(h:c8 a.2.1.1 a.2.1.2.1 m)(hm:500<=m):ad (BT a) (fun r=>c8 r.2.1.1 r.2.1.2.1 (m-500)/\kQ 5 r.2.2.1.1):=by
 unfold BT;refine ad.bind (aaU _ m h (by omega)) fun r1 h1=>?_
 obtain⟨ig,⟨u1,⟨(F:List aI),u2⟩,x7⟩⟩:=r1;have hr:kQ 4 F:=h1.2;have J2:=hr.1;refine ad.eq (N3 (((F,()),()),()) (hr.ok.mz (by decide))) ?_
 refine ad.bind (im _ _ h1.1 (by omega)) fun r2 h2=>?_
 have cn:kQ 5 F:=⟨Nat.le_succ_of_le hr.1,hr.2⟩;refine ad.ite (fun _=>?_) fun _=>ad.ite (fun _=>?_) fun _=>ad.ret ⟨h2.1.less (by omega),cn⟩
 ·refine ad.bind (Zb _ _ h2.1 (by omega)) fun c9 ab=>?_
  refine ad.eq (eZ (xs:=F) (by decide) (by unfold aM;simp;omega)) ?_
  refine ad.ret ⟨ab.1.less (by omega),by show(F++[_]).length<=5;simp;omega,fun e he=>?_⟩
  have he:e∈F++[_]:=he;rcases List.mem_append.1 he with he|he
  ·exact hr.2 e he
  ·rw[List.mem_singleton.1 he];exact ab.2
 ·refine ad.ite (fun hc=>?_) fun _=>ad.ret ⟨h2.1.less (by omega),cn⟩
  have hc:(F.length:Int)>0:=of_decide_eq_true hc;refine ad.eq (pT (xs:=F) (a:=1) (by omega)) ?_
  exact ad.ret ⟨h2.1.less (by omega),by show(F.drop 1).length<=5;rw[List.length_drop];omega,fun e he=>hr.2 e (List.mem_of_mem_drop he)⟩
noncomputable abbrev aqd:bD:=[(86,Da),(87,C')]
theorem aqt:bg ae (bu az aqd):=bB ⟨Jr,z87,⟨⟩⟩
abbrev i47:Shape:=⟨[a7 0 .entry,a8 1],[],25⟩
abbrev Wx:Shape:=⟨[bj 4 4 0,aQ 5],[bi 4 [bC,bM,bM,bC]],25⟩
noncomputable def f47(a:i47.L):Option Wx.L:=
(f86 ((a.1.1,()),())).bind fun b=>
 bif(!b.1.1) then
 some (((),false,()),(([]:J),(0:Int),(0:Int),([]:J),()),())
else
(f87 ((a.1.1,a.1.2.1,()),())).bind fun c=>
 bif(!c.1.2.1) then
 some (((),false,()),(([]:J),(0:Int),(0:Int),([]:J),()),())
else
(bd a.1.1 c.1.1).bind fun d=>
 some (((),true,()),(d.path,d.kind,d.mode,d.text,()),())
noncomputable def XB:bb:=bf az Tryz.f47 i47 Wx [] f47
theorem amO:a_ ae 47 XB:=bh aqt Tryz.func47 (by kernel_rfl) aB (fun y=>by kernel_rfl) fun a=>by kernel_rfl
def fu(t:List aR)(p:J):Option aR:=match t[bU t p]? with
 |some e=>bif e.path==p then some e else none
 |none=>none
theorem ab8(t:List aR)(p:J):gq t p=(fu t p).isSome:=by
 unfold gq fu;cases t[bU t p]? with
 |none=>rfl
 |some e=>cases h:(e.path==p)<;>simp[h]
theorem Gz{t:List aR}{p:J}{e:aR}(h:fu t p=some e):t[bU t p]? =some e/\e.path=p:=by
 unfold fu at h;cases aA:t[bU t p]? with
 |none=>rw[aA] at h;cases h
 |some x=>
  rw[aA] at h;cases hx:(x.path==p) with
  |false=>simp[hx] at h
  |true=>simp only[hx,cond_true,Option.some.injEq] at h;subst h;exact⟨rfl,eq_of_beq hx⟩
theorem aaZ(a)(hb:jD a.1.1):f47 a=some (((),(dR a.1.1&&(fu a.1.1 a.1.2.1).isSome,())),
  ((match(bif dR a.1.1 then fu a.1.1 a.1.2.1 else none) with|some e=>(e.path,(e.kind,(e.mode,(e.text,()))))|none=>(([]:J),((0:Int),((0:Int),(([]:J),()))))),())):=by
 obtain⟨⟨t,p,u⟩,bv⟩:=a;have hb:jD t:=hb;have e1:=vw ((t,()),()) hb;simp only[f47,e1,Option.bind_some];cases aA:dR t with
 |false=>rfl
 |true=>
  have e2:=DA ((t,(p,())),()) hb.1 (jN aA);simp only[Bool.not_true,cond_false,cond_true,e2,Option.bind_some,ab8,Bool.true_and];cases hg:fu t p with
  |none=>rfl
  |some e=>
   simp only[Option.isSome_some,Bool.not_true,cond_false,cc,(Gz hg).1,Option.bind_some]
noncomputable abbrev aqk:bD:=[(48,Db),(52,KF)]
theorem aqz:bg ae (bu az aqk):=bB ⟨Js,VZ,⟨⟩⟩
abbrev i14:Shape:=⟨[dS 0 [bJ .pack]],[],15⟩
abbrev CG:Shape:=⟨[bS 2 3000128],[b8 3000128 .entry 2 0],15⟩
noncomputable def f14(a:i14.L):Option CG.L:=
(f48 (((a.1.1.1,()),()),())).bind fun b=>
 bif(!b.1.1) then
 some (((),()),([]:List aR),())
else
(f52 ((a.1.1.1,()),())).bind fun c=>
 some (((),()),c.2.1,())
noncomputable def Dc:bb:=bf az Tryz.f14 i14 CG [] f14
theorem amU:a_ ae 14 Dc:=bh aqz Tryz.func14 (by kernel_rfl) aB (fun y=>by kernel_rfl) fun a=>by kernel_rfl
theorem agF{t:List aR}(aT:ep t){k:Nat}{e:aR}(h:t[k]? =some e):bU t e.path=k:=by
 have h1:=kl (p:=e.path) aT k e h;have h2:Op.bytesLess e.path e.path=false:=ku _;rw[h1] at h2;have h2:¬k<bU t e.path:=of_decide_eq_false h2;rcases Nat.lt_or_ge (bU t e.path) k with ab|ab
 ·exfalso
  have aF:bU t e.path<t.length:=Nat.lt_trans ab (ct h);have bo:=List.getElem?_eq_getElem aF;have dk:=kl (p:=e.path) aT (bU t e.path) t[bU t e.path] bo;have hZ:Op.bytesLess (t[bU t e.path]).path e.path=true:=by
   have ag:=List.pairwise_iff_getElem.1 aT (bU t e.path) k aF (ct h) ab;have:t[k]'(ct h)=e:=by
    have:=List.getElem?_eq_getElem (ct h);rw[h] at this;exact(Option.some.inj this).symm
   rw[this] at ag;exact ag
  rw[hZ] at dk;have:=of_decide_eq_true dk.symm;omega
 ·omega
theorem jO{t:List aR}(aT:ep t){p:J}{e:aR}:fu t p=some e <-> e∈t/\e.path=p:=by
 constructor
 ·intro h;obtain⟨h1,h2⟩:=Gz h;exact⟨List.mem_of_getElem? h1,h2⟩
 ·rintro⟨h1,rfl⟩;obtain⟨k,af⟩:=List.mem_iff_getElem?.1 h1;have:=agF aT af;unfold fu;rw[this,af];simp
theorem ag3{a b:aR}(h:jG a b=true):a=b:=by
 unfold jG at h;simp only[Bool.and_eq_true,beq_iff_eq] at h;obtain⟨h1,h2,ab,aF⟩:=h;cases a;cases b;simp only at h1 h2 ab aF;subst h1 h2 ab aF;rfl
theorem adW(a:aR):jG a a=true:=by unfold jG;simp
theorem OS{t:List aR}{k:Nat}{e x:aR}:x∈jW t k e <-> x=e\/x∈t:=by
 constructor
 ·exact Eu
 ·unfold jW;intro h;rcases h with rfl|h
  ·simp
  ·have:x∈t.take k++t.drop k:=by rw[List.take_append_drop];exact h
   simp only[List.mem_append,List.mem_singleton] at this ⊢;rcases this with h|h
   ·exact .inl (.inl h)
   ·exact .inr h
theorem EU{out D:List aR}{e:aR}(h:gH out e=some D)(x:aR):x∈D <-> x=e\/x∈out:=by
 unfold gH at h;split at h
 ·rename_i q ao;cases ag:(q.path==e.path) with
  |true=>
   rw[ag] at h;cases hc:j4 e q with
   |true=>rw[hc] at h;cases h
   |false=>
    rw[hc] at h;cases h;have:jG e q=true:=by
     unfold j4 at hc;simp only[Bool.or_eq_false_iff,Bool.not_eq_false'] at hc;exact hc.2
    have:=ag3 this;subst this;constructor
    ·exact .inr
    ·rintro(rfl|h)
     ·exact List.mem_of_getElem? ao
     ·exact h
  |false=>rw[ag] at h;cases h;exact OS
 ·cases h;exact OS
theorem zj:∀{es out D:List aR},fL out es=some D->∀x,x∈D <-> x∈out\/x∈es:=by
 intro es;induction es with
 |nil=>intro out D h x;simp only[fL,Option.some.injEq] at h;subst h;simp
 |cons e r ih=>
  intro out D h x;rw[pS] at h;obtain⟨o1,h1,h2⟩:=Option.bind_eq_some_iff.1 h;rw[ih h2,EU h1,List.mem_cons];constructor
  ·rintro((h|h)|h)
   ·exact .inr (.inl h)
   ·exact .inl h
   ·exact .inr (.inr h)
  ·rintro(h|h|h)
   ·exact .inl (.inr h)
   ·exact .inl (.inl h)
   ·exact .inr h
theorem ab0:∀{es out D:List aR},ep out->fL out es=some D->∀x,x∈es->∀y,y∈out->y.path=x.path->x.kind=1:=by
 intro es;induction es with
 |nil=>intro out D _ _ x hx;cases hx
 |cons e r ih=>
  intro out D aT h x hx y al ag;rw[pS] at h;obtain⟨o1,h1,h2⟩:=Option.bind_eq_some_iff.1 h;rcases List.mem_cons.1 hx with rfl|hx
  ·have hg:fu out x.path=some y:=(jO aT).2 ⟨al,ag⟩;have ao:=(Gz hg).1;unfold gH at h1;rw[ao] at h1;simp only[ag,beq_self_eq_true,cond_true] at h1;cases hc:j4 x y with
   |true=>rw[hc] at h1;cases h1
   |false=>
    unfold j4 at hc;simp only[Bool.or_eq_false_iff,bne_eq_false_iff_eq] at hc;exact hc.1
  ·exact ih (yD aT h1) h2 x hx y ((EU h1 y).2 (.inr al)) ag
theorem ab2:∀{es out D:List aR},ep out->fL out es=some D->ep D:=by
 intro es;induction es with
 |nil=>intro out D aT h;simp only[fL,Option.some.injEq] at h;subst h;exact aT
 |cons e r ih=>
  intro out D aT h;rw[pS] at h;obtain⟨o1,h1,h2⟩:=Option.bind_eq_some_iff.1 h;exact ih (yD aT h1) h2
theorem vx:∀{F:List aI} {out t:List aR},eM out F=some t->∀x,x∈t <-> x∈out\/∃p,p∈F/\x∈p.bY:=by
 intro F;induction F with
 |nil=>intro out t h x;simp only[eM,Option.some.injEq] at h;subst h;simp
 |cons p r ih=>
  intro out t h x;rw[sQ] at h;obtain⟨D,h1,h2⟩:=Option.bind_eq_some_iff.1 h;rw[ih h2,zj (vD h1).2];constructor
  ·rintro((h|h)|⟨q,h,ah⟩)
   ·exact .inl h
   ·exact .inr ⟨p,List.mem_cons_self,h⟩
   ·exact .inr ⟨q,List.mem_cons_of_mem _ h,ah⟩
  ·rintro(h|⟨q,h,ah⟩)
   ·exact .inl (.inl h)
   ·rcases List.mem_cons.1 h with rfl|h
    ·exact .inl (.inr ah)
    ·exact .inr ⟨q,h,ah⟩
theorem M4:∀{F:List aI} {out t:List aR},dR out=true->eM out F=some t->dR t=true:=by
 intro F;induction F with
 |nil=>intro out t ap h;simp only[eM,Option.some.injEq] at h;subst h;exact ap
 |cons p r ih=>
  intro out t ap h;rw[sQ] at h;obtain⟨D,h1,h2⟩:=Option.bind_eq_some_iff.1 h;exact ih (vD h1).1 h2
def nZ(path:J)(F:List aI):Nat:=(F.filter fun p=>(fu p.bY path).isSome).length
theorem acj(path:J)(p:aI)(F:List aI):nZ path (p::F)=(if(fu p.bY path).isSome then 1 else 0)+nZ path F:=by
 unfold nZ;rw[List.filter_cons];by_cases h:(fu p.bY path).isSome=true
 ·simp[h];omega
 ·simp[h]
theorem _G:∀{F:List aI} {out t:List aR} {path:J} {e:aR},(∀p,p∈F->ep p.bY)->dR out=true->eM out F=some t->fu t path=some e->
  ((∃y,y∈out/\y.path=path)->1<=nZ path F->e.kind=1)/\(2<=nZ path F->e.kind=1):=by
 intro F;induction F with
 |nil=>intro out t path e _ _ _ _;exact⟨fun _ h=>by simp[nZ] at h,fun h=>by simp[nZ] at h⟩
 |cons p r ih=>
  intro out t path e hA ap h he;have ah:=h;rw[sQ] at h;obtain⟨D,h1,h2⟩:=Option.bind_eq_some_iff.1 h;obtain⟨g1,g2⟩:=vD h1;have ao9:=jN (M4 ap ah);obtain⟨i1,i2⟩:=ih (fun q ao=>hA q (List.mem_cons_of_mem _ ao)) g1 h2 he
  rw[acj];have same:∀x,fu p.bY path=some x->x=e/\x∈p.bY/\x.path=path:=fun x hx=>by
   obtain⟨ax,an⟩:=(jO (hA p List.mem_cons_self)).1 hx;have:fu t path=some x:=(jO ao9).2 ⟨(vx ah x).2 (.inr ⟨p,List.mem_cons_self,ax⟩),an⟩;rw[he] at this;exact⟨(Option.some.inj this).symm,ax,an⟩
  cases hg:fu p.bY path with
  |none=>
   simp only[Option.isSome_none,Bool.false_eq_true,if_false,Nat.zero_add];exact⟨fun⟨y,al,mg⟩ hc=>i1 ⟨y,(zj g2 y).2 (.inl al),mg⟩ hc,i2⟩
  |some x=>
   obtain⟨rfl,ax,an⟩:=same x hg;simp only[Option.isSome_some,if_true];exact⟨fun⟨y,al,mg⟩ _=>ab0 (jN ap) g2 x ax y al (mg.trans an.symm),fun hc=>i1 ⟨x,(zj g2 x).2 (.inr ax),an⟩ (by omega)⟩
structure oy(F:List aI)(t:List aR):Prop where
 bY:eM [] F=some t
 Sb:F.all dV=true
 np:F.Pairwise fun p q=>Op.bytesLess p.name q.name=true
theorem wx{F:List aI}(h:fp F=true):∃t,oy F t:=by
 unfold fp at h;simp only[Bool.and_eq_true] at h;obtain⟨⟨⟨⟨h1,h2⟩,ab⟩,aF⟩,bo⟩:=h;obtain⟨t,aA⟩:=Option.isSome_iff_exists.1 bo;exact⟨t,aA,h1,P5 h2⟩
section
variable {F:List aI}{t:List aR}(R:oy F t)
include R
theorem oy.ok:dR t=true:=M4 (by rfl) R.bY
theorem oy.Dh{p:aI}(h:p∈F):l0 p.name=true/\dR p.bY=true:=by
 have:=List.all_eq_true.1 R.Sb p h;unfold dV at this;simp only[Bool.and_eq_true] at this;exact⟨this.1.1.1,this.2⟩
theorem oy.sD{p:aI}(h:p∈F):ep p.bY:=jN (R.Dh h).2
theorem oy.up{p:aI}(h:p∈F){path:J}{e:aR}(he:fu p.bY path=some e):fu t path=some e:=by
 obtain⟨ax,an⟩:=(jO (R.sD h)).1 he;exact(jO (jN R.ok)).2 ⟨(vx R.bY e).2 (.inr ⟨p,h,ax⟩),an⟩
theorem oy.down{path:J}{e:aR}(he:fu t path=some e):∃p,p∈F/\fu p.bY path=some e:=by
 obtain⟨ax,an⟩:=(jO (jN R.ok)).1 he;rcases(vx R.bY e).1 ax with h|⟨p,ag,h⟩
 ·cases h
 ·exact⟨p,ag,(jO (R.sD ag)).2 ⟨h,an⟩⟩
theorem oy.dir{path:J}{e:aR}(he:fu t path=some e)(hc:2<=nZ path F):e.kind=1:=(_G (fun p ag=>R.sD ag) (by rfl) R.bY he).2 hc
end
theorem ZN(a)(hb:fb a.1.1.1)(hv:mA a.1.1.1):f14 a=some (((),()),((bif fp a.1.1.1 then(eM [] a.1.1.1).getD [] else []),())):=by
 obtain⟨⟨⟨F,u⟩,bv⟩,mc⟩:=a;have e1:=D5 (((F,()),()),()) hb hv;simp only[f14,e1,Option.bind_some];cases hr:fp F with
 |false=>rfl
 |true=>
  obtain⟨t,R⟩:=wx hr;have e2:=LD ((F,()),()) hb R.Sb;simp only[Bool.not_true,cond_false,cond_true,e2,Option.bind_some]
theorem aen{F:List aI}{t:List aR}(hb:fb F)(R:oy F t):jD t:=by
 have:=qV R.ok;refine⟨by unfold cq;omega,fun e he=>?_⟩
 rcases(vx R.bY e).1 he with h|⟨p,ag,h⟩
 ·cases h
 ·exact(hb.2 p ag).2.2.2.2 e h
abbrev zS:Shape:=⟨[a7 0 .entry,a7 1 .entry,aq 5],[],26⟩
abbrev FL:List bk:=[(.ret,⟨[aQ 4],[],26⟩),(.exit 0,⟨[],[],26⟩)]
noncomputable def Av(y:zS.L):cy zS FL:=
 bif(decide (y.1.2.2.1<(y.1.1.length:Int))) then
(bd y.1.1 y.1.2.2.1).bind fun a=>
(bd y.1.2.1 y.1.2.2.1).bind fun b=>
 bif(!((a.path==b.path)&&((a.kind==b.kind)&&((a.mode==b.mode)&&(a.text==b.text))))) then
 some (.inr (.inl ((false,()),())))
else
 some (.inl ((y.1.1,y.1.2.1,(IntKind.i64.wrap (y.1.2.2.1+(1:Int))),()),()))
else
 some (.inr (.inr ((),())))
noncomputable def Gk:zS.L->Option (aY FL):=b7 Av
theorem aeS:bq ae (aH (codeOf Tryz.f191) 1 58) (bE zS FL Gk):=cE g0 (by kernel_rfl) aB fun y=>by kernel_rfl
abbrev i191:Shape:=⟨[a7 0 .entry,a7 1 .entry],[],26⟩
abbrev TB:Shape:=⟨[aQ 4],[],26⟩
noncomputable def f191(a:i191.L):Option TB.L:=
 bif((a.1.1.length:Int) !=(a.1.2.1.length:Int)) then
 some ((false,()),())
else
(Gk ((a.1.1,a.1.2.1,(0:Int),()),())).bind fun b=>
(match b with
|.inl c=>
 some ((c.1.1,()),())
|.inr d=>
 some ((true,()),()))
noncomputable def Vc:bb:=bf az Tryz.f191 i191 TB [] f191
theorem ajr:a_ ae 191 Vc:=bh g0 Tryz.func191 (by kernel_rfl) (bN aeS aB) (fun y=>by kernel_rfl) fun a=>by kernel_rfl
theorem ah6{t:aJ}{xs:List (den t)}(h:lA (.sl t xs)):xs.length<=maxLen/\∀x,x∈xs->∀d,d∈enc t x->lA d:=by cases h;exact⟨by assumption,by assumption⟩
theorem acw{xs:List Int}(h:lA (.sl .u8 xs)):∀x,x∈xs->0<=x/\x<=255:=by
 intro x hx;have:=(ah6 h).2 x hx (.int .u8 x) (by simp[enc])
 cases this with
 |int k n hw=>
  simp only[Lit.wf,Bool.and_eq_true,decide_eq_true_eq] at hw;have h1:(0:Int)<=x:=hw.1;have h2:x<=(255:Int):=hw.2;exact⟨h1,h2⟩
theorem aes{code:List Int}(h:∀x,x∈code->0<=x/\x<=255):c8 (code.take 2000) 0 1000000:=
 ⟨by rw[List.length_take];omega,fun x hx=>h x (List.mem_of_mem_take hx),Int.le_refl _,by decide⟩
theorem vt{aK:Type}:∀(xs:List aK) (i:Nat),allI (fun _ _=>true) i xs=true:=by
 intro xs;induction xs with
 |nil=>intro i;rfl
 |cons x r ih=>intro i;simp only[allI,ih,Bool.and_self]
theorem acI(a)(h:a.1.1=a.1.2.1)(hl:cq a.1.1.length):f191 a=some ((true,()),()):=by
 obtain⟨⟨xs,ys,u⟩,bv⟩:=a;have h:xs=ys:=h;subst h;have M:xs.length<=2097152:=hl;have key:Gk ((xs,(xs,((0:Int),()))),())=some (bif allI (fun _ _=>true) 0 xs then .inr ((),()) else .inl ((false,()),())):=by
  refine gm Av xs (fun i=>((xs,(xs,((i:Int),()))),())) _ _ _ (fun i x hx=>?_) ?_
  ·have hi:=ct hx;have hw:aM i:=by unfold aM;omega
   simp only[Av,cF hi,cond_true,cc,hx,Option.bind_some,beq_self_eq_true,Bool.and_self,Bool.not_true,cond_false,cl hw]
  ·simp only[Av,dQ,cond_false]
 rw[vt] at key;have hb:((xs.length:Int) !=(xs.length:Int))=false:=by simp
 simp only[f191,hb,cond_false,key,cond_true,Option.bind_some]
noncomputable abbrev al4:bD:=[(110,Jd)]
theorem amv:bg ae (bu az al4):=bB ⟨SX,⟨⟩⟩
abbrev i109:Shape:=⟨[dS 0 [bC,bC,bJ .need,bJ .entry],a8 1],[],9⟩
abbrev T5:Shape:=⟨[aq 4],[],9⟩
noncomputable def f109(a:i109.L):Option T5.L:=
(f110 ((a.1.1.1,a.1.2.1,()),())).bind fun b=>
 some ((b.1.1,()),())
noncomputable def VA:bb:=bf az Tryz.f109 i109 T5 [] f109
theorem z109:a_ ae 109 VA:=bh amv Tryz.func109 (by kernel_rfl) aB (fun y=>by kernel_rfl) fun a=>by kernel_rfl
noncomputable abbrev ahC:bD:=[(109,VA)]
theorem R4:bg ae (bu az ahC):=bB ⟨z109,⟨⟩⟩
abbrev yP:Shape:=⟨[a7 0 .pack,a8 1,(2,.am (.fn 109 [])),aq 8,aq 9,aq 10],[],49⟩
abbrev Ec:List bk:=[(.exit 0,⟨[a7 0 .pack,a8 1,(2,.am (.fn 109 [])),aq 8,aq 9],[],49⟩)]
noncomputable def y5(y:yP.L):cy yP Ec:=
 bif(decide (y.1.2.2.2.2.1<y.1.2.2.2.2.2.1)) then
(o_ .u64 (IntKind.u64.wrap (IntKind.i64.wrap (y.1.2.2.2.2.1+y.1.2.2.2.2.2.1))) (1:Int)).bind fun a=>
(bd y.1.1 (IntKind.i64.wrap a)).bind fun b=>
(f109 (((b.name,b.b4,b.bI,b.bY,()),y.1.2.1,()),())).bind fun c=>
 bif(decide (c.1.1<(0:Int))) then
 some (.inl ((y.1.1,y.1.2.1,(),y.1.2.2.2.1,(IntKind.i64.wrap ((IntKind.i64.wrap a)+(1:Int))),y.1.2.2.2.2.2.1,()),()))
else
 some (.inl ((y.1.1,y.1.2.1,(),y.1.2.2.2.1,y.1.2.2.2.2.1,(IntKind.i64.wrap a),()),()))
else
 some (.inr ((y.1.1,y.1.2.1,(),y.1.2.2.2.1,y.1.2.2.2.2.1,()),()))
noncomputable def yV:yP.L->Option (aY Ec):=b7 y5
theorem abM:bq ae (aH (codeOf Tryz.f108) 1 60) (bE yP Ec yV):=cE R4 (by kernel_rfl) aB fun y=>by kernel_rfl
abbrev Ru:Shape:=⟨[a7 0 .pack,a8 1,(2,.am (.fn 109 []))],[],49⟩
abbrev QX:Shape:=⟨[aq 6,aQ 7],[],49⟩
noncomputable def Bx(a:Ru.L):Option QX.L:=
(yV ((a.1.1,a.1.2.1,(),(a.1.1.length:Int),(0:Int),(a.1.1.length:Int),()),())).bind fun b=>
 bif(decide (b.1.2.2.2.2.1<b.1.2.2.2.1)) then
(bd b.1.1 b.1.2.2.2.2.1).bind fun c=>
(f109 (((c.name,c.b4,c.bI,c.bY,()),b.1.2.1,()),())).bind fun d=>
 some ((b.1.2.2.2.2.1,(d.1.1==(0:Int)),()),())
else
 some ((b.1.2.2.2.2.1,false,()),())
noncomputable def RW:bb:=bf az Tryz.f108 Ru QX [] Bx
theorem agd:a_ ae 108 RW:=bh R4 Tryz.func108 (by kernel_rfl) (bN abM aB) (fun y=>by kernel_rfl) fun a=>by kernel_rfl
abbrev i176:Shape:=⟨[a7 0 .need],[],8⟩
abbrev Im:Shape:=⟨[bS 2 3000128],[b8 3000128 .need 2 0],8⟩
noncomputable def f176(a:i176.L):Option Im.L:=
 oK (t:=.need) a.1.1 (some (((),()),([]:List dq),())) ((cR 40 ([]:List dq) a.1.1).bind fun b=>
 some (((),()),b,()))
noncomputable def Vi:bb:=bf az Tryz.f176 i176 Im [] f176
theorem ajw:a_ ae 176 Vi:=bh g0 Tryz.func176 (by kernel_rfl) aB (fun y=>by kernel_rfl) fun a=>by kernel_rfl
noncomputable abbrev al2:bD:=[(159,I'),(176,Vi)]
theorem amt:bg ae (bu az al2):=bB ⟨z159,ajw,⟨⟩⟩
abbrev i111:Shape:=⟨[dS 0 [bC,bC,bJ .need,bJ .entry]],[],12⟩
abbrev T3:Shape:=⟨[bj 2 2 0],[gg 5000130 .need 2 2,gg 5000131 .entry 2 3,bi 2 [bC,bC,.own 5000130,.own 5000131]],12⟩
noncomputable def f111(a:i111.L):Option T3.L:=
(f176 ((a.1.1.2.2.1,()),())).bind fun b=>
(f159 ((a.1.1.2.2.2.1,()),())).bind fun c=>
 some (((),()),b.2.1,c.2.1,(a.1.1.1,a.1.1.2.1,(),(),()),())
noncomputable def Vz:bb:=bf az Tryz.f111 i111 T3 [] f111
theorem ajK:a_ ae 111 Vz:=bh amt Tryz.func111 (by kernel_rfl) aB (fun y=>by kernel_rfl) fun a=>by kernel_rfl
abbrev zT:Shape:=⟨[a7 0 .need,a7 1 .need,aq 5],[],26⟩
abbrev FM:List bk:=[(.ret,⟨[aQ 4],[],26⟩),(.exit 0,⟨[],[],26⟩)]
noncomputable def Aw(y:zT.L):cy zT FM:=
 bif(decide (y.1.2.2.1<(y.1.1.length:Int))) then
(bd y.1.1 y.1.2.2.1).bind fun a=>
(bd y.1.2.1 y.1.2.2.1).bind fun b=>
 bif(!((a.name==b.name)&&((a.kind==b.kind)&&(a.b4==b.b4)))) then
 some (.inr (.inl ((false,()),())))
else
 some (.inl ((y.1.1,y.1.2.1,(IntKind.i64.wrap (y.1.2.2.1+(1:Int))),()),()))
else
 some (.inr (.inr ((),())))
noncomputable def Gl:zT.L->Option (aY FM):=b7 Aw
theorem aeT:bq ae (aH (codeOf Tryz.f190) 1 58) (bE zT FM Gl):=cE g0 (by kernel_rfl) aB fun y=>by kernel_rfl
abbrev i190:Shape:=⟨[a7 0 .need,a7 1 .need],[],26⟩
abbrev TC:Shape:=⟨[aQ 4],[],26⟩
noncomputable def f190(a:i190.L):Option TC.L:=
 bif((a.1.1.length:Int) !=(a.1.2.1.length:Int)) then
 some ((false,()),())
else
(Gl ((a.1.1,a.1.2.1,(0:Int),()),())).bind fun b=>
(match b with
|.inl c=>
 some ((c.1.1,()),())
|.inr d=>
 some ((true,()),()))
noncomputable def Vd:bb:=bf az Tryz.f190 i190 TC [] f190
theorem ajs:a_ ae 190 Vd:=bh g0 Tryz.func190 (by kernel_rfl) (bN aeT aB) (fun y=>by kernel_rfl) fun a=>by kernel_rfl
noncomputable abbrev alU:bD:=[(190,Vd),(191,Vc)]
theorem amq:bg ae (bu az alU):=bB ⟨ajs,ajr,⟨⟩⟩
abbrev i134:Shape:=⟨[dS 0 [bC,bC,bJ .need,bJ .entry],dS 1 [bC,bC,bJ .need,bJ .entry]],[],31⟩
abbrev TT:Shape:=⟨[aQ 4],[],31⟩
noncomputable def f134(a:i134.L):Option TT.L:=
 bif(a.1.1.1==a.1.2.1.1) then
 bif(a.1.1.2.1==a.1.2.1.2.1) then
(f190 ((a.1.1.2.2.1,a.1.2.1.2.2.1,()),())).bind fun b=>
 bif b.1.1 then
(f191 ((a.1.1.2.2.2.1,a.1.2.1.2.2.2.1,()),())).bind fun c=>
 some ((c.1.1,()),())
else
 some ((false,()),())
else
 some ((false,()),())
else
 some ((false,()),())
noncomputable def Vt:bb:=bf az Tryz.f134 i134 TT [] f134
theorem ajE:a_ ae 134 Vt:=bh amq Tryz.func134 (by kernel_rfl) aB (fun y=>by kernel_rfl) fun a=>by kernel_rfl
noncomputable abbrev ap0:bD:=[(134,Vt)]
theorem XK:bg ae (bu az ap0):=bB ⟨ajE,⟨⟩⟩
abbrev AY:Shape:=⟨[a7 0 .pack,a7 1 .pack,aq 5],[],27⟩
abbrev G3:List bk:=[(.ret,⟨[aQ 4],[],27⟩),(.exit 0,⟨[],[],27⟩)]
noncomputable def Bg(y:AY.L):cy AY G3:=
 bif(decide (y.1.2.2.1<(y.1.1.length:Int))) then
(bd y.1.1 y.1.2.2.1).bind fun a=>
(bd y.1.2.1 y.1.2.2.1).bind fun b=>
(f134 (((a.name,a.b4,a.bI,a.bY,()),(b.name,b.b4,b.bI,b.bY,()),()),())).bind fun c=>
 bif(!c.1.1) then
 some (.inr (.inl ((false,()),())))
else
 some (.inl ((y.1.1,y.1.2.1,(IntKind.i64.wrap (y.1.2.2.1+(1:Int))),()),()))
else
 some (.inr (.inr ((),())))
noncomputable def Hg:AY.L->Option (aY G3):=b7 Bg
theorem agx:bq ae (aH (codeOf Tryz.f84) 1 58) (bE AY G3 Hg):=cE XK (by kernel_rfl) aB fun y=>by kernel_rfl
abbrev i84:Shape:=⟨[a7 0 .pack,a7 1 .pack],[],27⟩
abbrev Wj:Shape:=⟨[aQ 4],[],27⟩
noncomputable def f84(a:i84.L):Option Wj.L:=
 bif((a.1.1.length:Int) !=(a.1.2.1.length:Int)) then
 some ((false,()),())
else
(Hg ((a.1.1,a.1.2.1,(0:Int),()),())).bind fun b=>
(match b with
|.inl c=>
 some ((c.1.1,()),())
|.inr d=>
 some ((true,()),()))
noncomputable def Xt:bb:=bf az Tryz.f84 i84 Wj [] f84
theorem amH:a_ ae 84 Xt:=bh XK Tryz.func84 (by kernel_rfl) (bN agx aB) (fun y=>by kernel_rfl) fun a=>by kernel_rfl
noncomputable abbrev aqf:bD:=[(84,Xt)]
theorem aqv:bg ae (bu az aqf):=bB ⟨amH,⟨⟩⟩
abbrev i45:Shape:=⟨[dS 0 [bJ .pack],dS 1 [bJ .pack]],[],10⟩
abbrev Wz:Shape:=⟨[aQ 4],[],10⟩
noncomputable def f45(a:i45.L):Option Wz.L:=
(f84 ((a.1.1.1,a.1.2.1.1,()),())).bind fun b=>
 some ((b.1.1,()),())
noncomputable def XC:bb:=bf az Tryz.f45 i45 Wz [] f45
theorem amP:a_ ae 45 XC:=bh aqv Tryz.func45 (by kernel_rfl) aB (fun y=>by kernel_rfl) fun a=>by kernel_rfl
noncomputable abbrev ap6:bD:=[(108,RW)]
theorem aqq:bg ae (bu az ap6):=bB ⟨agd,⟨⟩⟩
abbrev i63:Shape:=⟨[a7 0 .pack,a8 1],[],11⟩
abbrev Wp:Shape:=⟨[aq 4,aQ 5],[],11⟩
noncomputable def f63(a:i63.L):Option Wp.L:=
(Bx ((a.1.1,a.1.2.1,(),()),())).bind fun b=>
 some ((b.1.1,b.1.2.1,()),())
noncomputable def Xx:bb:=bf az Tryz.f63 i63 Wp [] f63
theorem amL:a_ ae 63 Xx:=bh aqq Tryz.func63 (by kernel_rfl) aB (fun y=>by kernel_rfl) fun a=>by kernel_rfl
noncomputable abbrev ap4:bD:=[(111,Vz)]
theorem XN:bg ae (bu oz ap4):=Dl ⟨ajK,⟨⟩⟩
abbrev AZ:Shape:=⟨[bS 3 3000192,a7 6 .pack,aq 7,aq 8],[(3000192,.deep .pack,.slot 3 0)],19⟩
abbrev G4:List bk:=[(.exit 0,⟨[bS 3 3000192],[(3000192,.deep .pack,.slot 3 0)],19⟩)]
noncomputable def Bh(y:AZ.L):cy AZ G4:=
 bif(decide (y.1.2.2.2.1<y.1.2.2.1)) then
(bd y.1.2.1 y.1.2.2.2.1).bind fun a=>
(f111 (((a.name,a.b4,a.bI,a.bY,()),()),())).bind fun b=>
(cR 80 y.2.1 ([(aI.mk b.2.2.2.1.1 b.2.2.2.1.2.1 b.2.1 b.2.2.1)]:List aI)).bind fun c=>
 some (.inl (((),y.1.2.1,y.1.2.2.1,(IntKind.i64.wrap (y.1.2.2.2.1+(1:Int))),()),c,()))
else
 some (.inr (((),()),y.2.1,()))
noncomputable def Hh:AZ.L->Option (aY G4):=b7 Bh
theorem agA:bq ae (aH (codeOf Tryz.f65) 1 58) (bE AZ G4 Hh):=cE XN (by kernel_rfl) aB fun y=>by kernel_rfl
abbrev i65:Shape:=⟨[a7 0 .pack],[],19⟩
abbrev Wn:Shape:=⟨[bS 2 3000128],[(3000128,.deep .pack,.slot 2 0)],19⟩
noncomputable def f65(a:i65.L):Option Wn.L:=
(Hh (((),a.1.1,(a.1.1.length:Int),(0:Int),()),([]:List aI),())).bind fun b=>
 some (((),()),b.2.1,())
noncomputable def KD:bb:=bf oz Tryz.f65 i65 Wn [] f65
theorem VW:a_ ae 65 KD:=bh XN Tryz.func65 (by kernel_rfl) (bN agA aB) (fun y=>by kernel_rfl) fun a=>by kernel_rfl
noncomputable abbrev ap5:bD:=[(65,KD)]
theorem aqp:bg ae (bu oz ap5):=Dl ⟨VW,⟨⟩⟩
abbrev i64:Shape:=⟨[dS 0 [bJ .pack]],[],7⟩
abbrev Wo:Shape:=⟨[bj 2 2 0],[(5000128,.deep .pack,.cell 2 0),bi 2 [.own 5000128]],7⟩
noncomputable def f64(a:i64.L):Option Wo.L:=
(f65 ((a.1.1.1,()),())).bind fun b=>
 some (((),()),b.2.1,((),()),())
noncomputable def S64:bb:=bf oz Tryz.f64 i64 Wo [] f64
theorem VX:a_ ae 64 S64:=bh aqp Tryz.func64 (by kernel_rfl) aB (fun y=>by kernel_rfl) fun a=>by kernel_rfl
noncomputable abbrev aiT:bD:=[(64,S64),(88,KB)]
theorem aiW:bg ae (bu oz aiT):=Dl ⟨VX,VV,⟨⟩⟩
abbrev Ss:Shape:=⟨[bS 0 600000,dS 1 [bJ .pack]],[(600000,.deep .pack,.same)],16⟩
abbrev Sf:Shape:=⟨[bj 4 4 0,aq 5],[(5000256,.deep .pack,.cell 4 0),bi 4 [.own 5000256]],16⟩
noncomputable def BU(a:Ss.L):Option Sf.L:=
(f88 ((a.2.1,()),())).bind fun b=>
 bif(b.1.1 !=(0:Int)) then
(f64 (((a.1.2.1.1,()),()),())).bind fun c=>
 some (((),b.1.1,()),c.2.1,((),()),())
else
 some (((),(0:Int),()),a.2.1,((),()),())
noncomputable def SM:bb:=bf oz Tryz.f66 Ss Sf [] BU
theorem ah1:a_ ae 66 SM:=bh aiW Tryz.func66 (by kernel_rfl) aB (fun y=>by kernel_rfl) fun a=>by kernel_rfl
theorem acO(a)(M:cq a.1.1.length):f176 a=some (((),()),(a.1.1,())):=by
 obtain⟨⟨xs,u⟩,bv⟩:=a;have M:xs.length<=2097152:=M;have h2:(cR 40 ([]:List dq) xs).bind (fun x=>some (((),()),(x,())))=(some (((),()),(xs,())):Option Im.L):=by
  rw[eZ (by decide) (by unfold aM;simp only[List.length_nil];omega)];rfl
 simp only[f176];rw[h2];unfold oK;split
 ·rfl
 ·rename_i h;exact absurd (fun he:xs=[]=>by subst he;rfl) h
theorem ZO(a)(h:sy ⟨a.1.1.1,a.1.1.2.1,a.1.1.2.2.1,a.1.1.2.2.2.1⟩):f111 a=some (((),()),(a.1.1.2.2.1,(a.1.1.2.2.2.1,((a.1.1.1,(a.1.1.2.1,((),((),())))),())))):=by
 obtain⟨⟨⟨name,b4,bI,bY,u⟩,bv⟩,mc⟩:=a;have e1:=acO ((bI,()),()) h.2.2.1.1;have e2:=N8 ((bY,()),()) h.2.2.2.1;simp only[f111,e1,e2,Option.bind_some]
theorem LF(a)(h:fb a.1.1):f65 a=some (((),()),(a.1.1,())):=by
 obtain⟨⟨F,u⟩,bv⟩:=a;have hl:F.length<=2097152:=h.1;have key:=yS (S:=List aI) Bh F (fun i bV=>(((),(F,((F.length:Int),((i:Int),())))),(bV,()))) (fun x bV=>bV++[x]) (fun bV=>(((),()),(bV,()))) (fun i bV=>bV.length=i) [] rfl (fun i x bV hx dj=>?_) (fun bV dj=>?_)
 ·have key:Hh (((),(F,((F.length:Int),((0:Int),())))),(([]:List aI),()))=_:=key;have e:∀(l bV:List aI),l.foldl (fun s x=>s++[x]) bV=bV++l:=by
   intro l;induction l with
   |nil=>intro bV;simp
   |cons x l ih=>intro bV;simp only[List.foldl_cons];rw[ih];simp
  simp only[f65,key,Option.bind_some];rw[e];rfl
 ·have hi:=ct hx;have hw:aM i:=by unfold aM;omega
  have e2:=ZO (((x.name,(x.b4,(x.bI,(x.bY,())))),()),()) (h.2 x (List.mem_of_getElem? hx));have aT:cR 80 bV [x]=some (bV++[x]):=eZ (by decide) (by unfold aM;simp;omega)
  simp only[Bh,cF hi,cond_true,cc,hx,Option.bind_some,e2,aT,cl hw];exact⟨trivial,by simp[dj]⟩
 ·simp only[Bh,dQ,cond_false]
theorem LP(a)(h:fb a.1.1.1):f64 a=some (((),()),(a.1.1.1,(((),()),()))):=by
 obtain⟨⟨⟨F,ig⟩,u⟩,bv⟩:=a;have e:=LF ((F,()),()) h;simp only[f64,e,Option.bind_some]
abbrev mb(F:List aI):Prop:=F.Pairwise fun p q=>Op.bytesLess p.name q.name=true
def Kv(p:aI):aR:=⟨p.name,0,0,[]⟩
theorem agG(F:List aI)(n:J):bU (F.map Kv) n=dW F n:=by
 unfold bU dW;rw[List.takeWhile_map,List.length_map];rfl
theorem ak9{F:List aI}(h:mb F):ep (F.map Kv):=by
 unfold ep;rw[List.pairwise_map];exact h
theorem Eh{F:List aI}{n:J}(aT:mb F)(h:Nat)(p:aI)(ag:F[h]? =some p):Op.bytesLess p.name n=decide (h<dW F n):=by
 have:=kl (p:=n) (ak9 aT) h (Kv p) (by rw[List.getElem?_map,ag];rfl)
 rw[agG] at this;exact this
def mY(F:List aI)(n:J):Bool:=match F[dW F n]? with
 |some q=>q.name==n
 |none=>false
theorem _A(a)(M:cq a.1.1.length)(aT:mb a.1.1):f63 a=some (((dW a.1.1 a.1.2.1:Int),(mY a.1.1 a.1.2.1,())),()):=by
 obtain⟨⟨t,p,u⟩,bv⟩:=a;have M:t.length<=2097152:=M;have K1:=F4 t p;have hc:∀x:aI,f109 (((x.name,(x.b4,(x.bI,(x.bY,())))),(p,())),())=some ((qs x.name p,()),()):=by
  intro x;have h1:(x.name==x.name)=true:=by simp
  have h2:(p==p)=true:=by simp
  simp only[f109,f110,f175,Option.bind_some,h1,h2,Bool.not_true,cond_false,qs];cases Op.bytesLess x.name p<;>cases (x.name==p)<;>rfl
 have key:∀d i j:Nat,j-i=d->i<=dW t p->dW t p<=j->j<=t.length->
   yV ((t,(p,((),((t.length:Int),((i:Int),((j:Int),())))))),())=
    some (((t,(p,((),((t.length:Int),((dW t p:Int),()))))),())):=by
  intro d;induction d using Nat.strongRecOn with
  |_ d ih=>
   intro i j Z hi hj hl;by_cases hij:i<j
   ·have bW:(i+j)/2<t.length:=by omega
    obtain⟨e,he⟩:∃e,t[(i+j)/2]? =some e:=⟨t[(i+j)/2],List.getElem?_eq_getElem bW⟩;have r_:o_ .u64 (IntKind.u64.wrap (IntKind.i64.wrap ((i:Int)+(j:Int)))) 1=some ((((i+j)/2:Nat)):Int):=by
     rw[<-S1 (n:=i+j) (by omega)];rw[Int.natCast_add]
    have xu:IntKind.i64.wrap (((i+j)/2:Nat):Int)=(((i+j)/2:Nat):Int):=ed (by omega) (by omega)
    have lr:=Eh (n:=p) aT ((i+j)/2) e he;cases hb:Op.bytesLess e.name p with
    |true=>
     rw[hb] at lr;have a':(i+j)/2<dW t p:=by simpa using lr.symm
     refine(gE ?_).trans (ih (j-((i+j)/2+1)) (by omega) ((i+j)/2+1) j rfl (by omega) hj hl)
     simp only[y5,cF hij,cond_true,r_,xu,cc,he,Option.bind_some,hc,zu,hb,cl (i:=(i+j)/2) (by unfold aM;omega)]
    |false=>
     rw[hb] at lr;have uX:¬(i+j)/2<dW t p:=by simpa using lr.symm
     refine(gE ?_).trans (ih ((i+j)/2-i) (by omega) i ((i+j)/2) rfl hi (by omega) (by omega))
     simp only[y5,cF hij,cond_true,r_,xu,cc,he,Option.bind_some,hc,zu,hb,cond_false]
   ·have iU:i=dW t p:=by omega
    have a':decide ((i:Int)<(j:Int))=false:=by simp only[decide_eq_false_iff_not];omega
    refine eL ?_
    simp only[y5,a',cond_false];rw[iU]
 have mx:yV ((t,(p,((),((t.length:Int),((0:Int),((t.length:Int),())))))),())=_:=key t.length 0 t.length (Nat.sub_zero _) (Nat.zero_le _) K1 (Nat.le_refl _);have O:Bx ((t,(p,((),()))),())=some (((dW t p:Int),(mY t p,())),()):=by
  simp only[Bx,mx,Option.bind_some,mY,cc,hc,NT];cases aA:t[dW t p]? with
  |none=>
   have:=List.getElem?_eq_none_iff.1 aA;have:decide ((dW t p:Int)<(t.length:Int))=false:=by simp only[decide_eq_false_iff_not];omega
   rw[this];rfl
  |some e=>rw[cF (ct aA)];rfl
 simp only[f63,O,Option.bind_some]
theorem OX{F:List aI}(aT:mb F)(n:J):F.find? (fun q=>q.name==n)=bif mY F n then F[dW F n]? else none:=by
 have hu:∀(k:Nat) (q:aI),F[k]? =some q->q.name=n->k=dW F n:=by
  intro k q af ao;have h1:=Eh (n:=n) aT k q af;have h2:Op.bytesLess q.name n=false:=by rw[ao];exact ku _
  rw[h1] at h2;have h2:¬k<dW F n:=of_decide_eq_false h2;rcases Nat.lt_or_ge (dW F n) k with ab|ab
  ·have aF:dW F n<F.length:=Nat.lt_trans ab (ct af);have bo:=List.getElem?_eq_getElem aF;have dk:=Eh (n:=n) aT (dW F n) F[dW F n] bo;have hZ:=List.pairwise_iff_getElem.1 aT (dW F n) k aF (ct af) ab;have ov:F[k]'(ct af)=q:=by
    have:=List.getElem?_eq_getElem (ct af);rw[af] at this;exact(Option.some.inj this).symm
   rw[ov,ao] at hZ;rw[hZ] at dk;have:=of_decide_eq_true dk.symm;omega
  ·omega
 cases hf:F.find? (fun q=>q.name==n) with
 |none=>
  have h0:=List.find?_eq_none.1 hf;unfold mY;cases ao:F[dW F n]? with
  |none=>rfl
  |some q=>
   have:=h0 q (List.mem_of_getElem? ao);simp only[Bool.not_eq_true] at this;simp only[this,cond_false]
 |some q=>
  have h1:q.name=n:=by have:=List.find?_some hf;simpa using this
  obtain⟨k,af⟩:=List.mem_iff_getElem?.1 (List.mem_of_find?_eq_some hf);have:=hu k q af h1;subst this;unfold mY;simp only[af,h1,beq_self_eq_true,cond_true]
theorem acx(a:(List aI×(List aI×Unit)×Unit)×Unit)(hb:fb a.1.1)(hv:mA a.1.1)(hr:fb a.1.2.1.1):BU (((),((a.1.2.1.1,()),())),(a.1.1,()))=some (((),(fA a.1.1,())),((bif fA a.1.1==0 then a.1.1 else a.1.2.1.1),(((),()),()))):=by
 obtain⟨⟨list,⟨r,ig⟩,u⟩,bv⟩:=a;have e:=Mn ((list,()),()) hb hv;have e2:=LP (((r,()),()),()) hr;simp only[BU,e,Option.bind_some];have z:(fA list !=0)=!(fA list==0):=rfl;rw[z];cases hc:(fA list==0) with
 |false=>simp only[Bool.not_false,cond_true,cond_false,e2,Option.bind_some]
 |true=>
  have hc:fA list=0:=by simpa using hc
  simp only[Bool.not_true,cond_false,cond_true];rw[hc]
def WK(F:List aI)(p:aI):List aI×Int:=bif fp F then rU F p else([],1)
theorem qZ{F:List aI}(h:fp F=true):mb F:=by
 obtain⟨t,R⟩:=wx h;exact R.np
theorem Mw{F:List aI}(h:fp F=true):F.length<=5:=by
 unfold fp at h;simp only[Bool.and_eq_true,decide_eq_true_eq] at h;exact h.1.1.2
theorem aaV(a)(h:a.1.1=a.1.2.1)(hl:cq a.1.1.length):f190 a=some ((true,()),()):=by
 obtain⟨⟨xs,ys,u⟩,bv⟩:=a;have h:xs=ys:=h;subst h;have M:xs.length<=2097152:=hl;have key:Gl ((xs,(xs,((0:Int),()))),())=some (bif allI (fun _ _=>true) 0 xs then .inr ((),()) else .inl ((false,()),())):=by
  refine gm Aw xs (fun i=>((xs,(xs,((i:Int),()))),())) _ _ _ (fun i x hx=>?_) ?_
  ·have hi:=ct hx;have hw:aM i:=by unfold aM;omega
   simp only[Aw,cF hi,cond_true,cc,hx,Option.bind_some,beq_self_eq_true,Bool.and_self,Bool.not_true,cond_false,cl hw]
  ·simp only[Aw,dQ,cond_false]
 rw[vt] at key;have hb:((xs.length:Int) !=(xs.length:Int))=false:=by simp
 simp only[f190,hb,cond_false,key,cond_true,Option.bind_some]
theorem N6(a)(h:a.1.1.1=a.1.2.1.1)(hl:fb a.1.1.1):f45 a=some ((true,()),()):=by
 obtain⟨⟨⟨xs,ig⟩,⟨ys,u1⟩,u⟩,bv⟩:=a;have h:xs=ys:=h;subst h;have M:xs.length<=2097152:=hl.1;have key:Hg ((xs,(xs,((0:Int),()))),())=some (bif allI (fun _ _=>true) 0 xs then .inr ((),()) else .inl ((false,()),())):=by
  refine gm Bg xs (fun i=>((xs,(xs,((i:Int),()))),())) _ _ _ (fun i x hx=>?_) ?_
  ·have hi:=ct hx;have hw:aM i:=by unfold aM;omega
   have oh:=hl.2 x (List.mem_of_getElem? hx);have e1:=aaV ((x.bI,(x.bI,())),()) rfl oh.2.2.1.1;have e2:=acI ((x.bY,(x.bY,())),()) rfl oh.2.2.2.1;simp only[Bg,cF hi,cond_true,cc,hx,Option.bind_some,f134,beq_self_eq_true,e1,e2,Bool.not_true,cond_false,cl hw]
  ·simp only[Bg,dQ,cond_false]
 rw[vt] at key;have hb:((xs.length:Int) !=(xs.length:Int))=false:=by simp
 simp only[f45,f84,hb,cond_false,key,cond_true,Option.bind_some]
theorem GR{aK:Type}{key:aK->J}:∀{b a:List aK},a.Pairwise (fun x y=>Op.bytesLess (key x) (key y)=true)->b.Pairwise (fun x y=>Op.bytesLess (key x) (key y)=true)->(∀x,x∈a->x∈b)->a.Sublist b:=by
 intro b;induction b with
 |nil=>
  intro a _ _ h;cases a with
  |nil=>exact List.Sublist.refl _
  |cons x r=>exact absurd (h x List.mem_cons_self) (by simp)
 |cons y b ih=>
  intro a aT hb h;cases a with
  |nil=>exact List.nil_sublist _
  |cons x a=>
   obtain⟨a1,a2⟩:=List.pairwise_cons.1 aT;obtain⟨bc,aO⟩:=List.pairwise_cons.1 hb;have later:∀z,Op.bytesLess (key y) (key z)=true->z∈y::b->z∈b:=by
    intro z hz hm;rcases List.mem_cons.1 hm with rfl|hm
    ·rw[ku] at hz;cases hz
    ·exact hm
   rcases List.mem_cons.1 (h x List.mem_cons_self) with rfl|hx
   ·exact List.Sublist.cons_cons _ (ih a2 aO fun z hz=>later z (a1 z hz) (h z (List.mem_cons_of_mem _ hz)))
   ·refine List.Sublist.cons _ (ih aT aO fun z hz=>?_)
    rcases List.mem_cons.1 hz with rfl|kH
    ·exact hx
    ·exact later z (q8 _ _ _ (bc x hx) (a1 z kH)) (h z hz)
theorem aha{aK:Type}{key:aK->J}{a b:List aK}(aT:a.Pairwise fun x y=>Op.bytesLess (key x) (key y)=true)(hb:b.Pairwise fun x y=>Op.bytesLess (key x) (key y)=true)(h:∀x,x∈a <-> x∈b):a=b:=
 (GR aT hb fun x hx=>(h x).1 hx).eq_of_length_le (GR hb aT fun x hx=>(h x).2 hx).length_le
theorem GN{F:List aI}(aT:mb F){n:J}{q:aI}:F.find? (fun q=>q.name==n)=some q <-> q∈F/\q.name=n:=by
 constructor
 ·intro h;exact⟨List.mem_of_find?_eq_some h,by have:=List.find?_some h;simpa using this⟩
 ·rintro⟨h,rfl⟩;cases hf:F.find? (fun x=>x.name==q.name) with
  |none=>have:=List.find?_eq_none.1 hf q h;simp at this
  |some x=>
   have h1:=List.mem_of_find?_eq_some hf;have h2:x.name=q.name:=by have:=List.find?_some hf;simpa using this
   obtain⟨i,hi⟩:=List.mem_iff_getElem?.1 h1;obtain⟨j,hj⟩:=List.mem_iff_getElem?.1 h;have e1:=List.getElem?_eq_some_iff.1 hi;have e2:=List.getElem?_eq_some_iff.1 hj;obtain⟨i1,i2⟩:=e1;obtain⟨X9,X8⟩:=e2;rcases Nat.lt_trichotomy i j with ab|ab|ab
   ·have:=List.pairwise_iff_getElem.1 aT i j i1 X9 ab;rw[i2,X8,h2,ku] at this;cases this
   ·subst ab;rw[hi] at hj;exact hj
   ·have:=List.pairwise_iff_getElem.1 aT j i X9 i1 ab;rw[i2,X8,h2,ku] at this;cases this
theorem afD{F:List aI}{n:J}:F.find? (fun q=>q.name==n)=none <-> ∀q,q∈F->q.name≠n:=by
 rw[List.find?_eq_none];constructor
 ·intro h q ao he;exact h q ao (by simpa using he)
 ·intro h q ao he;exact h q ao (by simpa using he)
structure VC(F:List aI)(p:aI):Prop where
 ok:fp F=true
 Dh:dV p=true
 new:∀q,q∈F->q.name≠p.name
 code:fA (kw F p)=0
theorem VC.out{F:List aI}{p:aI}(h:VC F p):WK F p=(kw F p,0):=by
 unfold WK rU;rw[h.ok,h.Dh,afD.2 h.new,h.code];rfl
abbrev rR(l:List J):Prop:=l.Pairwise fun x y=>Op.bytesLess x y=true
def w1(l:List J)(s:J):List J:=match l.dropWhile fun x=>Op.bytesLess x s with
 |[]=>(l.takeWhile fun x=>Op.bytesLess x s)++[s]
 |y::r=>bif y==s then l else(l.takeWhile fun x=>Op.bytesLess x s)++s::y::r
theorem PI{L bR:Type}{g:L->Option (Sum L bR)}(st:Nat->L)(n:Nat){b:bR}(h:∀i,i<n->g (st i)=some (.inl (st (i+1))))(he:g (st n)=some (.inr b)):∀k i,i+k=n->b7 g (st i)=some b:=by
 intro k;induction k with
 |zero=>
  intro i hi;obtain rfl:i=n:=by omega
  exact eL he
 |succ k ih=>
  intro i hi;rw[gE (h i (by omega))]
  exact ih (i+1) (by omega)
theorem ah8(p:J->Bool):∀(l:List J),∃T R,l.takeWhile p=T/\l.dropWhile p=R/\l=T++R/\(∀x,x∈T->p x=true)/\(R=[]\/∃y r,R=y::r/\p y=false):=by
 intro l;induction l with
 |nil=>exact⟨[],[],rfl,rfl,rfl,fun x h=>(by cases h),.inl rfl⟩
 |cons x l ih=>
  obtain⟨T,R,h1,h2,ab,aF,bo⟩:=ih;cases hx:p x with
  |false=>exact⟨[],x::l,by simp[List.takeWhile_cons,hx],by simp[List.dropWhile_cons,hx],rfl,fun x h=>(by cases h),.inr ⟨x,l,rfl,hx⟩⟩
  |true=>
   refine⟨x::T,R,by simp[List.takeWhile_cons,hx,h1],by simp[List.dropWhile_cons,hx,h2],by rw[ab];rfl,fun y al=>?_,bo⟩
   rcases List.mem_cons.1 al with rfl|al
   ·exact hx
   ·exact aF y al
theorem vZ{l:List J}(aT:rR l)(s:J):rR (w1 l s)/\∀x,x∈w1 l s <-> x∈l\/x=s:=by
 obtain⟨T,R,h1,h2,hl,Sy,bo⟩:=ah8 (fun x=>Op.bytesLess x s) l
 simp only[w1,h1,h2];rcases bo with rfl|⟨y,r,rfl,ag⟩
 ·rw[List.append_nil] at hl;subst hl;refine⟨List.pairwise_append.2 ⟨aT,List.pairwise_singleton _ _,fun x hx z hz=>?_⟩,fun x=>by simp⟩
  rw[List.mem_singleton.1 hz];exact Sy x hx
 ·simp only;cases he:y==s with
  |true=>
   have:=eq_of_beq he;subst this;simp only[cond_true];refine⟨aT,fun x=>⟨.inl,fun h=>h.elim id fun h=>?_⟩⟩
   show x∈l;rw[h,hl];simp
  |false=>
   have WO:=Hv y s ag he;rw[hl] at aT;obtain⟨nr,ot,p3⟩:=List.pairwise_append.1 aT;simp only[cond_false];refine⟨List.pairwise_append.2 ⟨nr,List.pairwise_cons.2 ⟨fun z hz=>?_,ot⟩,fun x hx z hz=>?_⟩,fun x=>?_⟩
   ·rcases List.mem_cons.1 hz with rfl|hz
    ·exact WO
    ·exact q8 _ _ _ WO ((List.pairwise_cons.1 ot).1 z hz)
   ·rcases List.mem_cons.1 hz with rfl|hz
    ·exact Sy x hx
    ·exact p3 x hx z hz
   ·rw[hl];simp only[List.mem_append,List.mem_cons];constructor
    ·rintro(h|h|h|h)
     ·exact .inl (.inl h)
     ·exact .inr h
     ·exact .inl (.inr (.inl h))
     ·exact .inl (.inr (.inr h))
    ·rintro((h|h|h)|h)
     ·exact .inl h
     ·exact .inr (.inr (.inl h))
     ·exact .inr (.inr (.inr h))
     ·exact .inr (.inl h)
theorem rR.nodup{l:List J}(h:rR l):l.Nodup:=by
 refine List.Pairwise.imp ?_ h;intro a b xR e;subst e;rw[ku] at xR;cases xR
def p0(p:aI)(l:List J):Bool:=p.bI.any fun d=>l.contains d.name
def kq(n:J):List J->List aI->List J
 |D,[]=>D
 |D,p::r=>kq n (bif !(p.name==n)&&p0 p (n::D) then w1 D p.name else D) r
def oP(F:List aI)(n:J):Nat->List J->List J
 |0,D=>D
 |k+1,D=>oP F n k (kq n D F)
structure iQ(F:List aI)(D:List J):Prop where
 np:rR D
 of:∀s,s∈D->s∈F.map (·.name)
theorem iQ.len{F:List aI}{D:List J}(h:iQ F D):D.length<=F.length:=by
 have:=vG D _ h.np.nodup h.of;simpa using this
theorem iQ.add{F:List aI}{D:List J}(h:iQ F D){p:aI}(ag:p∈F):iQ F (w1 D p.name):=by
 obtain⟨h1,h2⟩:=vZ h.np p.name;exact⟨h1,fun s M=>((h2 s).1 M).elim (h.of s) fun e=>by rw[e];exact List.mem_map.2 ⟨p,ag,rfl⟩⟩
theorem iQ.round{F:List aI}{n:J}:∀{r:List aI} {D:List J},iQ F D->(∀p,p∈r->p∈F)->iQ F (kq n D r):=by
 intro r;induction r with
 |nil=>intro D h _;exact h
 |cons p r ih=>
  intro D h hr;refine ih ?_ fun q ao=>hr q (List.mem_cons_of_mem _ ao)
  cases !(p.name==n)&&p0 p (n::D) with
  |true=>exact h.add (hr p List.mem_cons_self)
  |false=>exact h
theorem iQ.rounds{F:List aI}{n:J}:∀{k:Nat} {D:List J},iQ F D->iQ F (oP F n k D):=by
 intro k;induction k with
 |zero=>intro D h;exact h
 |succ k ih=>intro D h;exact ih (h.round fun p ag=>ag)
def kA(F:List aI)(n:J):List J:=bif k4 F==0 then oP F n F.length [] else []
inductive jo(F:List aI)(n:J):J->Prop where
 |mk (p:aI) (ag:p∈F) (hn:p.name≠n) (d:dq) (Z:d∈p.bI) (h:d.name=n):jo F n p.name
 |xY (p:aI) (ag:p∈F) (hn:p.name≠n) (d:dq) (Z:d∈p.bI) (h:jo F n d.name):jo F n p.name
theorem L5{p:aI}{l:List J}:p0 p l=true <-> ∃d,d∈p.bI/\d.name∈l:=by
 simp only[p0,List.any_eq_true,List.contains_iff_mem]
def x4(F:List aI)(n:J)(D:List J):Prop:=∀p,p∈F->p.name≠n->∀d,d∈p.bI->d.name=n\/d.name∈D->p.name∈D
theorem Hb{F:List aI}{n:J}{D:List J}(h1:∀s,s∈D->jo F n s)(h2:x4 F n D)(s:J):s∈D <-> jo F n s:=by
 refine⟨h1 s,fun h=>?_⟩
 induction h with
 |mk p ag hn d Z h=>exact h2 p ag hn d Z (.inl h)
 |xY p ag hn d Z _ ih=>exact h2 p ag hn d Z (.inr ih)
theorem EZ{F:List aI}{n:J}:∀{r:List aI} {D:List J},iQ F D->(∀p,p∈r->p∈F)->(∀s,s∈D->jo F n s)->∀s,s∈kq n D r->jo F n s:=by
 intro r;induction r with
 |nil=>intro D _ _ h;exact h
 |cons p r ih=>
  intro D ap hr h;have ag:=hr p List.mem_cons_self;simp only[kq];cases hc:!(p.name==n)&&p0 p (n::D) with
  |false=>exact ih ap (fun q ao=>hr q (List.mem_cons_of_mem _ ao)) h
  |true=>
   simp only[Bool.and_eq_true,Bool.not_eq_true',beq_eq_false_iff_ne,L5] at hc;obtain⟨hn,d,Z,ka⟩:=hc;refine ih (ap.add ag) (fun q ao=>hr q (List.mem_cons_of_mem _ ao)) fun s M=>?_
   rcases((vZ ap.np p.name).2 s).1 M with M|rfl
   ·exact h s M
   ·rcases List.mem_cons.1 ka with e|e
    ·exact .mk p ag hn d Z e
    ·exact .xY p ag hn d Z (h _ e)
theorem Eg{F:List aI}{n:J}:∀{r:List aI} {D:List J},iQ F D->(∀p,p∈r->p∈F)->∀s,s∈D->s∈kq n D r:=by
 intro r;induction r with
 |nil=>intro D _ _ s h;exact h
 |cons p r ih=>
  intro D ap hr s M;simp only[kq];cases !(p.name==n)&&p0 p (n::D) with
  |false=>exact ih ap (fun q ao=>hr q (List.mem_cons_of_mem _ ao)) s M
  |true=>exact ih (ap.add (hr p List.mem_cons_self)) (fun q ao=>hr q (List.mem_cons_of_mem _ ao)) s (((vZ ap.np p.name).2 s).2 (.inl M))
theorem ac4{F:List aI}{n:J}:∀{r:List aI} {D:List J},iQ F D->(∀p,p∈r->p∈F)->∀p,p∈r->p.name≠n->∀d,d∈p.bI->d.name=n\/d.name∈D->p.name∈kq n D r:=by
 intro r;induction r with
 |nil=>intro D _ _ p h;cases h
 |cons q r ih=>
  intro D ap hr p ag hn d Z ka;have cn:∀p,p∈r->p∈F:=fun q ao=>hr q (List.mem_cons_of_mem _ ao)
  simp only[kq];rcases List.mem_cons.1 ag with rfl|ag
  ·have hc:(!(p.name==n)&&p0 p (n::D))=true:=by
    simp only[Bool.and_eq_true,Bool.not_eq_true',beq_eq_false_iff_ne,L5];exact⟨hn,d,Z,List.mem_cons.2 ka⟩
   rw[hc];exact Eg (ap.add (hr p List.mem_cons_self)) cn _ (((vZ ap.np p.name).2 _).2 (.inr rfl))
  ·cases !(q.name==n)&&p0 q (n::D) with
   |false=>exact ih ap cn p ag hn d Z ka
   |true=>exact ih (ap.add (hr q List.mem_cons_self)) cn p ag hn d Z (ka.imp id fun h=>((vZ ap.np q.name).2 _).2 (.inl h))
theorem abo{F:List aI}{n:J}:∀(k:Nat) (D:List J),iQ F D->(∀s,s∈D->jo F n s)->(∀s,s∈oP F n k D->jo F n s)/\(x4 F n (oP F n k D)\/D.length+k<=(oP F n k D).length):=by
 intro k;induction k with
 |zero=>intro D _ h;exact⟨h,.inr (Nat.le_refl _)⟩
 |succ k ih=>
  intro D ap h;have uQ:=ap.round (n:=n) (r:=F) fun p ag=>ag
  obtain⟨h1,h2⟩:=ih (kq n D F) uQ (EZ ap (fun p ag=>ag) h)
  refine⟨h1,?_⟩;rcases h2 with h2|h2
  ·exact .inl h2
  ·by_cases hc:x4 F n (kq n D F)
   ·-- then K0 stays aqX
    refine .inl ?_
    have stay:∀(k:Nat) (D:List J),iQ F D->x4 F n D->(∀s,s∈D->jo F n s)->x4 F n (oP F n k D):=by
     intro k;induction k with
     |zero=>intro D _ h _;exact h
     |succ k xm=>
      intro D ap hc M;have uQ:=ap.round (n:=n) (r:=F) fun p ag=>ag
      have eU:=EZ (n:=n) ap (fun p ag=>ag) M
      refine xm _ uQ (fun p ag hn d Z ka=>?_) eU
      have:p.name∈D:=(Hb M hc _).2 (by
       rcases ka with e|e
       ·exact .mk p ag hn d Z e
       ·exact .xY p ag hn d Z (eU _ e))
      exact Eg ap (fun p ag=>ag) _ this
    exact stay k _ uQ hc (EZ ap (fun p ag=>ag) h)
   ·-- arR asG
    refine .inr ?_
    have:D.length+1<=(kq n D F).length:=by
     by_cases jz:∀s,s∈kq n D F->s∈D
     ·exfalso
      refine hc fun p ag hn d Z ka=>?_
      exact ac4 ap (fun p ag=>ag) p ag hn d Z (ka.imp id fun h=>jz _ h)
     ·obtain⟨s,M⟩:=Classical.not_forall.1 jz;obtain⟨lp,po⟩:=Classical.not_imp.1 M;have:=vG (s::D) (kq n D F) (List.nodup_cons.2 ⟨po,ap.np.nodup⟩) (fun x hx=>by
       rcases List.mem_cons.1 hx with rfl|hx
       ·exact lp
       ·exact Eg ap (fun p ag=>ag) x hx)
      simpa using this
    show D.length+(k+1)<=_;exact Nat.le_trans (by omega) h2
theorem E0{F:List aI}{n:J}(hc:k4 F=0)(s:J):s∈kA F n <-> jo F n s:=by
 have h0:iQ F []:=⟨List.Pairwise.nil,fun s M=>by cases M⟩
 have he:kA F n=oP F n F.length []:=by unfold kA;rw[hc];rfl
 obtain⟨h1,h2⟩:=abo (n:=n) F.length [] h0 (fun s M=>by cases M)
 have ap:=h0.rounds (n:=n) (k:=F.length);rw[he];refine Hb h1 ?_ s;rcases h2 with h2|h2
 ·exact h2
 ·intro p ag _ d _ _;refine Classical.byContradiction fun wQ=>?_
  have:=vG (p.name::oP F n F.length []) (F.map (·.name)) (List.nodup_cons.2 ⟨wQ,ap.np.nodup⟩) (fun x hx=>by
   rcases List.mem_cons.1 hx with rfl|hx
   ·exact List.mem_map.2 ⟨p,ag,rfl⟩
   ·exact ap.of x hx)
  simp only[List.length_cons,List.length_map,List.length_nil] at this h2;omega
theorem ady(F:List aI)(n:J):rR (kA F n):=by
 have h0:iQ F []:=⟨List.Pairwise.nil,fun s M=>by cases M⟩
 unfold kA;cases k4 F==0 with
 |true=>exact(h0.rounds (n:=n) (k:=F.length)).np
 |false=>exact List.Pairwise.nil
end Go.Proofs
namespace Go.Proofs
open Go.Shelf
def Tryz._i:Go.Shelf.Ren:=⟨fun|190=>59|125=>103|258=>102|128=>173|129=>174|302=>164|303=>165|304=>166|305=>167|306=>168|307=>169|308=>170|309=>171|310=>172|333=>216|329=>217|330=>218|334=>219|335=>220|336=>175|344=>255|n=>n,fun|31=>38|9=>9|3=>3|46=>131|0=>0|51=>189|53=>191|4=>4|183=>182|182=>181|131=>92|5=>5|218=>216|222=>220|228=>245|229=>246|n=>n,fun|n=>n⟩
theorem Tryz.PK:Go.Proofs.Lays.n190 ae Tryz._i:={
 mixed:=by kernel_rfl
 f125:=Tryz.func103.trans (congrArg some (by kernel_rfl))
 f128:=Tryz.func173.trans (congrArg some (by kernel_rfl))
 f129:=Tryz.func174.trans (congrArg some (by kernel_rfl))
 f190:=Tryz.func59.trans (congrArg some (by kernel_rfl))
 f258:=Tryz.func102.trans (congrArg some (by kernel_rfl))
 f302:=Tryz.func164.trans (congrArg some (by kernel_rfl))
 f303:=Tryz.func165.trans (congrArg some (by kernel_rfl))
 f304:=Tryz.func166.trans (congrArg some (by kernel_rfl))
 f305:=Tryz.func167.trans (congrArg some (by kernel_rfl))
 f306:=Tryz.func168.trans (congrArg some (by kernel_rfl))
 f307:=Tryz.func169.trans (congrArg some (by kernel_rfl))
 f308:=Tryz.func170.trans (congrArg some (by kernel_rfl))
 f309:=Tryz.func171.trans (congrArg some (by kernel_rfl))
 f310:=Tryz.func172.trans (congrArg some (by kernel_rfl))
 f329:=Tryz.func217.trans (congrArg some (by kernel_rfl))
 f330:=Tryz.func218.trans (congrArg some (by kernel_rfl))
 f333:=Tryz.func216.trans (congrArg some (by kernel_rfl))
 f334:=Tryz.func219.trans (congrArg some (by kernel_rfl))
 f335:=Tryz.func220.trans (congrArg some (by kernel_rfl))
 f336:=Tryz.func175.trans (congrArg some (by kernel_rfl))
 f344:=Tryz.func255.trans (congrArg some (by kernel_rfl))
 t0:=Tryz.underlying0
 a0:=Tryz.isAgg0
 z0:=Tryz.sizeOf0
 v0:=Tryz.zeroValue0
 t3:=Tryz.underlying3
 a3:=Tryz.isAgg3
 z3:=Tryz.sizeOf3
 v3:=Tryz.zeroValue3
 t4:=Tryz.underlying4
 a4:=Tryz.isAgg4
 z4:=Tryz.sizeOf4
 v4:=Tryz.zeroValue4
 t5:=Tryz.underlying5
 a5:=Tryz.isAgg5
 z5:=Tryz.sizeOf5
 v5:=Tryz.zeroValue5
 t9:=Tryz.underlying9
 a9:=Tryz.isAgg9
 z9:=Tryz.sizeOf9
 v9:=Tryz.zeroValue9
 t31:=Tryz.underlying38
 a31:=Tryz.isAgg38
 z31:=Tryz.sizeOf38
 v31:=Tryz.zeroValue38
 t46:=Tryz.underlying131
 a46:=Tryz.isAgg131
 z46:=Tryz.sizeOf131
 v46:=Tryz.zeroValue131
 t51:=Tryz.underlying189
 a51:=Tryz.isAgg189
 z51:=Tryz.sizeOf189
 v51:=Tryz.zeroValue189
 t53:=Tryz.underlying191
 a53:=Tryz.isAgg191
 z53:=Tryz.sizeOf191
 v53:=Tryz.zeroValue191
 t131:=Tryz.underlying92
 a131:=Tryz.isAgg92
 z131:=Tryz.sizeOf92
 v131:=Tryz.zeroValue92
 t182:=Tryz.underlying181
 a182:=Tryz.isAgg181
 z182:=Tryz.sizeOf181
 v182:=Tryz.zeroValue181
 t183:=Tryz.underlying182
 a183:=Tryz.isAgg182
 z183:=Tryz.sizeOf182
 v183:=Tryz.zeroValue182
 t218:=Tryz.underlying216
 a218:=Tryz.isAgg216
 z218:=Tryz.sizeOf216
 v218:=Tryz.zeroValue216
 t222:=Tryz.underlying220
 a222:=Tryz.isAgg220
 z222:=Tryz.sizeOf220
 v222:=Tryz.zeroValue220
 t228:=Tryz.underlying245
 a228:=Tryz.isAgg245
 z228:=Tryz.sizeOf245
 v228:=Tryz.zeroValue245
 t229:=Tryz.underlying246
 a229:=Tryz.isAgg246
 z229:=Tryz.sizeOf246
 v229:=Tryz.zeroValue246}
open Go.Sort Go.RowKit in
theorem Tryz.slices_Sort_string(aW off cap:Nat)(aV:List (List UInt8))(w:World)(vd:Holds encStr w aW off aV.toArray)(fP:aW<w.heap.size)(hsz:aV.length<4611686018427387904):
  Calls ae 59 #[.slice (some ⟨aW,off,none⟩) aV.length cap] w fun e w'=>
   e=.returned (.tuple #[])/\∃n os,w'=grow (putRow encStr (Sort.ahead w n) aW off (aV.mergeSort fun x y=>decide (x<=y)).toArray) os:=Any.slices_Sort_string Tryz.PK aW off cap aV w vd fP hsz
open Go.RowKit Go.Sort in
theorem Tryz.slices_Sort_string_none(p:Option Addr)(cap:Nat)(w:World):
  Calls ae 59 #[.slice p 0 cap] w fun e w'=>e=.returned (.tuple #[])/\w'=w:=Any.slices_Sort_string_none Tryz.PK p cap w
end Go.Proofs
namespace Go.Proofs
open Go.Jk
noncomputable def UL:bb:=EV
theorem ai2:a_ ae 59 UL:=aeq (fun _ _=>enters_of Tryz.func59 (by kernel_rfl) rfl _ _) (fun b D c aV w h1 h2 ab=>Tryz.slices_Sort_string b D c aV w h1 h2 ab) (fun p c w=>Tryz.slices_Sort_string_none p c w)
noncomputable abbrev aqj:bD:=[(58,Xz),(59,UL)]
theorem x3:bg ae (bu az aqj):=bB ⟨amN,ai2,⟨⟩⟩
abbrev yH:Shape:=⟨[a8 1,bS 7 3000448,bj 9 9 0,a7 28 .pack,aq 29,aq 30,a7 35 .need,aq 36,aq 37],[(3000448,.eB,.slot 7 0),bi 9 [bC,bC,bJ .need,bJ .entry]],99⟩
abbrev D7:List bk:=[(.exit 2,⟨[a8 1,bS 7 3000448,a7 28 .pack,aq 29,aq 30],[(3000448,.eB,.slot 7 0)],99⟩)]
noncomputable def Ex(y:yH.L):cy yH D7:=
 bif(decide (y.1.2.2.2.2.2.2.2.2.1<y.1.2.2.2.2.2.2.2.1)) then
(bd y.1.2.2.2.2.2.2.1 y.1.2.2.2.2.2.2.2.2.1).bind fun a=>
(q_ y.2.1 a.name).bind fun b=>
(cR 16 b.2 ([y.2.2.1.1]:List J)).bind fun c=>
 some (.inl ((y.1.1,(),(),y.1.2.2.2.1,y.1.2.2.2.2.1,y.1.2.2.2.2.2.1,y.1.2.2.2.2.2.2.1,y.1.2.2.2.2.2.2.2.1,(IntKind.i64.wrap (y.1.2.2.2.2.2.2.2.2.1+(1:Int))),()),(c4 b.1 a.name (some c)),(y.2.2.1.1,y.2.2.1.2.1,y.2.2.1.2.2.1,y.2.2.1.2.2.2.1,()),()))
else
 some (.inr ((y.1.1,(),y.1.2.2.2.1,y.1.2.2.2.2.1,y.1.2.2.2.2.2.1,()),y.2.1,()))
noncomputable def yT:yH.L->Option (aY D7):=b7 Ex
theorem abv:bq ae (aH (dn (aH (codeOf Tryz.f23) 1 122)) 244 31334) (bE yH D7 yT):=cE x3 (by kernel_rfl) aB fun y=>by kernel_rfl
abbrev zL:Shape:=⟨[a8 1,bS 7 3000448,a7 28 .pack,aq 29,aq 30],[(3000448,.eB,.slot 7 0)],99⟩
abbrev FF:List bk:=[(.exit 0,⟨[a8 1,bS 7 3000448],[(3000448,.eB,.slot 7 0)],99⟩)]
noncomputable def GD(y:zL.L):cy zL FF:=
 bif(decide (y.1.2.2.2.2.1<y.1.2.2.2.1)) then
(bd y.1.2.2.1 y.1.2.2.2.2.1).bind fun a=>
(yT ((y.1.1,(),(),y.1.2.2.1,y.1.2.2.2.1,y.1.2.2.2.2.1,a.bI,(a.bI.length:Int),(0:Int),()),y.2.1,(a.name,a.b4,a.bI,a.bY,()),())).bind fun b=>
 some (.inl ((b.1.1,(),b.1.2.2.1,b.1.2.2.2.1,(IntKind.i64.wrap (b.1.2.2.2.2.1+(1:Int))),()),b.2.1,()))
else
 some (.inr ((y.1.1,(),()),y.2.1,()))
noncomputable def Af:zL.L->Option (aY FF):=b7 GD
theorem aeK:bq ae (aH (codeOf Tryz.f23) 1 122) (bE zL FF Af):=cE x3 (by kernel_rfl) (bN abv aB) fun y=>by kernel_rfl
abbrev yr:Shape:=⟨[(7,.am (.d (.map .strs))),bS 12 3000768,bS 13 3000832,bS 14 3000896,a7 69 .str,aq 70,aq 71],[(3000768,.map .i64,.slot 12 0),(3000832,.tail .str,.slot 13 0),b8 3000896 .str 14 0],99⟩
abbrev DO:List bk:=[(.exit 6,⟨[(7,.am (.d (.map .strs))),bS 12 3000768,bS 13 3000832,bS 14 3000896],[(3000768,.map .i64,.slot 12 0),(3000832,.tail .str,.slot 13 0),b8 3000896 .str 14 0],99⟩)]
noncomputable def yz(y:yr.L):cy yr DO:=
 bif(decide (y.1.2.2.2.2.2.2.1<y.1.2.2.2.2.2.1)) then
(bd y.1.2.2.2.2.1 y.1.2.2.2.2.2.2.1).bind fun a=>
 bif(!((dy y.2.1 a).isSome)) then
(cR 16 y.2.2.1 ([a]:List J)).bind fun b=>
(cR 16 y.2.2.2.1 ([a]:List J)).bind fun c=>
 some (.inl ((y.1.1,(),(),(),y.1.2.2.2.2.1,y.1.2.2.2.2.2.1,(IntKind.i64.wrap (y.1.2.2.2.2.2.2.1+(1:Int))),()),(c4 y.2.1 a (y.2.1.length:Int)),b,c,()))
else
 some (.inl ((y.1.1,(),(),(),y.1.2.2.2.2.1,y.1.2.2.2.2.2.1,(IntKind.i64.wrap (y.1.2.2.2.2.2.2.1+(1:Int))),()),y.2.1,y.2.2.1,y.2.2.2.1,()))
else
 some (.inr ((y.1.1,(),(),(),()),y.2.1,y.2.2.1,y.2.2.2.1,()))
noncomputable def yx:yr.L->Option (aY DO):=b7 yz
theorem _Z:bq ae (aH (dn (aH (codeOf Tryz.f23) 1 1020)) 2040 130606) (bE yr DO yx):=cE x3 (by kernel_rfl) aB fun y=>by kernel_rfl
abbrev zc:Shape:=⟨[(7,.am (.d (.map .strs))),bS 12 3000768,bS 13 3000832,bS 14 3000896],[(3000768,.map .i64,.slot 12 0),(3000832,.tail .str,.slot 13 0),b8 3000896 .str 14 0],99⟩
abbrev ER:List bk:=[(.exit 4,⟨[bS 14 3000896],[b8 3000896 .str 14 0],99⟩)]
noncomputable def Fb(y:zc.L):cy zc ER:=
 bif(decide ((y.2.2.1.length:Int)>(0:Int))) then
(iz y.2.2.1.length (0:Int)).bind fun a=>
(y.2.2.1[a]?).bind fun b=>
(cA y.2.2.1 (1:Int) (y.2.2.1.length:Int)).bind fun c=>
(yx ((y.1.1,(),(),(),((dy y.1.1 b).getD ([]:List J)),(((dy y.1.1 b).getD ([]:List J)).length:Int),(0:Int),()),y.2.1,c,y.2.2.2.1,())).bind fun d=>
 some (.inl ((d.1.1,(),(),(),()),d.2.1,d.2.2.1,d.2.2.2.1,()))
else
 some (.inr (((),()),y.2.2.2.1,()))
noncomputable def vI:zc.L->Option (aY ER):=b7 Fb
theorem adk:bq ae (aH (codeOf Tryz.f23) 1 1020) (bE zc ER vI):=cE x3 (by kernel_rfl) (bN _Z aB) fun y=>by kernel_rfl
abbrev i23:Shape:=⟨[a7 0 .pack,a8 1],[],99⟩
abbrev WD:Shape:=⟨[bS 4 3000256],[b8 3000256 .str 4 0],99⟩
noncomputable def f23(a:i23.L):Option WD.L:=
(f58 ((a.1.1,()),())).bind fun b=>
 bif(b.1.2.1 !=(0:Int)) then
 some (((),()),([]:List J),())
else
(Af ((a.1.2.1,(),a.1.1,(a.1.1.length:Int),(0:Int),()),([]:List (J×Option (List J))),())).bind fun c=>
((((o7 c.2.1).bind fun q=>some (q,(),(),(),())).bind fun z=>some (z,(c4 ([]:List (J×Int)) c.1.1 (0:Int)),([c.1.1]:List J),([]:List J),())).bind vI).bind fun d=>
(tp d.2.1).bind fun e=>
 some (((),()),(hI d.2.1),())
noncomputable def XG:bb:=bf az Tryz.f23 i23 WD [] f23
theorem amT:a_ ae 23 XG:=bh x3 Tryz.func23 (by kernel_rfl) (bN aeK (bN adk aB)) (fun y=>by kernel_rfl) fun a=>by kernel_rfl
def kc(m:List (J×List J)):List (J×Option (List J)):=m.map fun p=>(p.1,some p.2)
def gn(m:List (J×List J))(k:J):List J:=(dy m k).getD []
def w3(m:List (J×List J))(k s:J):List (J×List J):=c4 m k (gn m k++[s])
theorem afy{aK:Type}(m:List (J×aK))(k:J)(v:aK)(k':J):dy (c4 m k v) k'=bif k==k' then some v else dy m k':=by
 induction m with
 |nil=>rfl
 |cons p m ih=>
  obtain⟨a,w⟩:=p;simp only[c4];cases h:a==k with
  |true=>
   have:=eq_of_beq h;subst this;simp only[cond_true,dy];cases a==k'<;>rfl
  |false=>
   simp only[cond_false,dy,ih];cases h1:a==k' with
   |false=>rfl
   |true=>
    have:=eq_of_beq h1;subst this;have:(k==a)=false:=by
     cases h2:k==a with
     |false=>rfl
     |true=>rw[eq_of_beq h2] at h;simp at h
    simp[this]
theorem afz(m:List (J×List J))(k:J):dy (kc m) k=(dy m k).map some:=by
 induction m with
 |nil=>rfl
 |cons p m ih=>
  simp only[kc,List.map_cons,dy];cases p.1==k with
  |true=>rfl
  |false=>exact ih
theorem afe{aK:Type}(m:List (J×aK))(k:J)(v w:aK):c4 (c4 m k v) k w=c4 m k w:=by
 induction m with
 |nil=>simp[c4]
 |cons p m ih=>
  simp only[c4];cases h:p.1==k with
  |true=>simp only[cond_true,c4,h]
  |false=>simp only[cond_false,c4,h,ih]
theorem Pu(m:List (J×List J))(k:J)(v:List J):c4 (kc m) k (some v)=kc (c4 m k v):=Mz some k v m
theorem acR(m:List (J×List J))(k:J):∃e,q_ (kc m) k=some (e,gn m k)/\∀v,c4 e k (some v)=kc (c4 m k v):=by
 unfold q_ gn;rw[afz];cases dy m k with
 |none=>exact⟨kc m,rfl,Pu m k⟩
 |some xs=>exact⟨c4 (kc m) k none,rfl,fun v=>by rw[afe,Pu]⟩
theorem acq(m:List (J×List J)):o7 (kc m)=some m:=by
 induction m with
 |nil=>rfl
 |cons p m ih=>
  have ih:o7 (m.map fun p=>(p.1,some p.2))=some m:=ih
  simp only[kc,List.map_cons,o7,ih]
def ma(s:J):List (J×List J)->List dq->List (J×List J)
 |m,[]=>m
 |m,d::r=>ma s (w3 m d.name s) r
def n3:List (J×List J)->List aI->List (J×List J)
 |m,[]=>m
 |m,p::r=>n3 (ma p.name m p.bI) r
def m7(m:List (J×List J))(T:Nat):Prop:=∀k,(gn m k).length<=T
theorem N0(m:List (J×List J))(k s k':J):gn (w3 m k s) k'=bif k==k' then gn m k++[s] else gn m k':=by
 unfold w3;show(dy (c4 m k _) k').getD []=_;rw[afy];cases k==k'<;>rfl
theorem m7.add{m:List (J×List J)}{T:Nat}(h:m7 m T)(k s:J):m7 (w3 m k s) (T+1):=by
 intro k';rw[N0];have h1:=h k;have h2:=h k';cases k==k' with
 |true=>simp only[cond_true,List.length_append,List.length_singleton];omega
 |false=>simp only[cond_false];omega
theorem m7.ma{s:J}:∀{r:List dq} {m:List (J×List J)} {T:Nat},m7 m T->m7 (ma s m r) (T+r.length):=by
 intro r;induction r with
 |nil=>intro m T h;exact h
 |cons d r ih=>
  intro m T h;have:=ih (h.add d.name s);simp only[List.length_cons];rw[show T+(r.length+1)=T+1+r.length from by omega]
  exact this
theorem adD{s:J}:∀{r:List dq} {m:List (J×List J)} (k x:J),x∈gn (ma s m r) k <-> x∈gn m k\/(x=s/\∃d,d∈r/\d.name=k):=by
 intro r;induction r with
 |nil=>intro m k x;simp[Go.Proofs.ma]
 |cons d r ih=>
  intro m k x;simp only[Go.Proofs.ma];rw[ih,N0];cases h:d.name==k with
  |true=>
   have:=eq_of_beq h;subst this;simp only[cond_true,List.mem_append,List.mem_singleton];constructor
   ·rintro((h|h)|⟨h1,vh,h2,ab⟩)
    ·exact .inl h
    ·exact .inr ⟨h,d,List.mem_cons_self,rfl⟩
    ·exact .inr ⟨h1,vh,List.mem_cons_of_mem _ h2,ab⟩
   ·rintro(h|⟨h1,_⟩)
    ·exact .inl (.inl h)
    ·exact .inl (.inr h1)
  |false=>
   simp only[cond_false];refine or_congr Iff.rfl (and_congr Iff.rfl ⟨fun⟨vh,h1,h2⟩=>⟨vh,List.mem_cons_of_mem _ h1,h2⟩,fun⟨vh,h1,h2⟩=>?_⟩)
   rcases List.mem_cons.1 h1 with rfl|h1
   ·rw[h2] at h;simp at h
   ·exact⟨vh,h1,h2⟩
theorem adC:∀{r:List aI} {m:List (J×List J)} (k x:J),x∈gn (n3 m r) k <-> x∈gn m k\/∃p,p∈r/\x=p.name/\∃d,d∈p.bI/\d.name=k:=by
 intro r;induction r with
 |nil=>intro m k x;simp[n3]
 |cons p r ih=>
  intro m k x;simp only[n3];rw[ih,adD,or_assoc];refine or_congr Iff.rfl ⟨?_,?_⟩
  ·rintro(⟨h1,h2⟩|⟨q,h1,h2⟩)
   ·exact⟨p,List.mem_cons_self,h1,h2⟩
   ·exact⟨q,List.mem_cons_of_mem _ h1,h2⟩
  ·rintro⟨q,h1,h2⟩;rcases List.mem_cons.1 h1 with rfl|h1
   ·exact .inl h2
   ·exact .inr ⟨q,h1,h2⟩
theorem afS{aK:Type}{xs ys:List aK}(h:xs.length+ys.length<=8796093022208):cR 16 xs ys=some (xs++ys):=by
 unfold cR;rw[if_pos ⟨by unfold room;omega,by unfold maxLen;omega⟩]
theorem NZ{i:Nat}(h:i<=8796093022208):IntKind.i64.wrap ((i:Int)+1)=((i+1:Nat):Int):=by
 rw[ed (by omega) (by omega)];omega
theorem agm(F:List aI)(n:J)(p:aI)(c:Nat)(hn:p.bI.length<=2097152):∀(r:List dq) (i:Nat) (m:List (J×List J)) (T:Nat),p.bI.drop i=r->i<=p.bI.length->m7 m T->T+r.length<=8796093022207->
  yT ((n,((),((),(F,((F.length:Int),((c:Int),(p.bI,((p.bI.length:Int),((i:Int),()))))))))),(kc m,((p.name,(p.b4,(p.bI,(p.bY,())))),())))=
   some ((n,((),(F,((F.length:Int),((c:Int),()))))),(kc (ma p.name m r),())):=by
 intro r;induction r with
 |nil=>
  intro i m T hr hi dd aZ;have:=drop_nil hr;have d1:decide ((i:Int)<(p.bI.length:Int))=false:=by simp only[decide_eq_false_iff_not];omega
  refine eL ?_
  simp only[Ex,d1,cond_false,ma]
 |cons d r ih=>
  intro i m T hr hi dd aZ;obtain⟨c1,c2,c3⟩:=drop_cons hr;have hw:aM i:=by unfold aM;omega
  simp only[List.length_cons] at aZ;obtain⟨e,h1,h2⟩:=acR m d.name;have ab:cR 16 (gn m d.name) [p.name]=some (gn m d.name++[p.name]):=afS (by have:=dd d.name;simp only[List.length_singleton];omega)
  refine(gE ?_).trans (ih (i+1) (w3 m d.name p.name) (T+1) c2 c3 (dd.add _ _) (by omega))
  simp only[Ex,cF c3,cond_true,cc,c1,Option.bind_some,h1,ab,h2,cl hw];rfl
theorem agl(F:List aI)(n:J)(hb:fb F)(hl:F.length<=2000000):∀(r:List aI) (i:Nat) (m:List (J×List J)),F.drop i=r->i<=F.length->m7 m (i*2097152)->
  Af ((n,((),(F,((F.length:Int),((i:Int),()))))),(kc m,()))=some ((n,((),())),(kc (n3 m r),()))/\m7 (n3 m r) (F.length*2097152):=by
 intro r;induction r with
 |nil=>
  intro i m hr hi dd;have:=drop_nil hr;have d1:decide ((i:Int)<(F.length:Int))=false:=by simp only[decide_eq_false_iff_not];omega
  have mm:i=F.length:=by omega
  refine⟨eL ?_,by rw[<-mm];exact dd⟩
  simp only[GD,d1,cond_false,n3]
 |cons p r ih=>
  intro i m hr hi dd;obtain⟨c1,c2,c3⟩:=drop_cons hr;have hw:aM i:=by unfold aM;omega
  have sf:p.bI.length<=2097152:=(hb.2 p (List.mem_of_getElem? c1)).2.2.1.1;have mm:i<2000000:=by omega
  have e1:=agm F n p i sf p.bI 0 m (i*2097152) rfl (Nat.zero_le _) dd (by omega)
  have e1:yT ((n,((),((),(F,((F.length:Int),((i:Int),(p.bI,((p.bI.length:Int),((0:Int),()))))))))),(kc m,((p.name,(p.b4,(p.bI,(p.bY,())))),())))=_:=e1;have C5:m7 (ma p.name m p.bI) ((i+1)*2097152):=fun k=>Nat.le_trans (dd.ma (r:=p.bI) k) (by omega)
  obtain⟨ax,an⟩:=ih (i+1) (ma p.name m p.bI) c2 c3 C5;refine⟨(gE ?_).trans ax,an⟩;simp only[GD,cF c3,cond_true,cc,c1,Option.bind_some,e1,cl hw]
theorem adP(es:List (J×Int))(x:J):(dy es x).isSome=(iI es).contains x:=by
 induction es with
 |nil=>rfl
 |cons p es ih=>
  simp only[dy,iI,List.map_cons,List.contains_cons];have hc:(x==p.1)=(p.1==x):=by
   rw[Bool.eq_iff_iff,beq_iff_eq,beq_iff_eq];exact eq_comm
  rw[hc];cases p.1==x with
  |true=>rfl
  |false=>simp only[cond_false,Bool.false_or];exact ih
def k9(n:J):List J->List J->List J
 |N,[]=>N
 |N,x::r=>k9 n (bif(n::N).contains x then N else N++[x]) r
structure oj(F:List aI)(n:J)(N:List J):Prop where
 JC:(n::N).Nodup
 of:∀s,s∈N->s∈F.map (·.name)
 sF:∀s,s∈N->jo F n s
theorem oj.len{F:List aI}{n:J}{N:List J}(h:oj F n N):N.length<=F.length:=by
 have:=vG N _ (List.nodup_cons.1 h.JC).2 h.of;simpa using this
theorem oj.add{F:List aI}{n:J}{N:List J}(h:oj F n N){x:J}(hx:x≠n->jo F n x/\x∈F.map (·.name)):oj F n (bif(n::N).contains x then N else N++[x]):=by
 cases hc:(n::N).contains x with
 |true=>exact h
 |false=>
  have m_:x∉n::N:=by simpa using hc
  have WM:x≠n:=fun e=>m_ (by rw[e];exact List.mem_cons_self)
  have JQ:x∉N:=fun e=>m_ (List.mem_cons_of_mem _ e)
  obtain⟨h1,h2⟩:=hx WM;obtain⟨n1,n2⟩:=List.nodup_cons.1 h.JC;refine⟨List.nodup_cons.2 ⟨fun hm=>?_,?_⟩,fun s M=>?_,fun s M=>?_⟩
  ·rcases List.mem_append.1 hm with hm|hm
   ·exact n1 hm
   ·exact WM (List.mem_singleton.1 hm).symm
  ·refine List.nodup_append.2 ⟨n2,by simp,fun a aT b hb e=>?_⟩
   rw[List.mem_singleton.1 hb] at e;exact JQ (e▸aT)
  ·rcases List.mem_append.1 M with M|M
   ·exact h.of s M
   ·rw[List.mem_singleton.1 M];exact h2
  ·rcases List.mem_append.1 M with M|M
   ·exact h.sF s M
   ·rw[List.mem_singleton.1 M];exact h1
theorem adO(n:J):∀(r N:List J),(∃t,k9 n N r=N++t)/\∀x,x∈r->x∈n::k9 n N r:=by
 intro r;induction r with
 |nil=>intro N;exact⟨⟨[],by simp[k9]⟩,fun x h=>by cases h⟩
 |cons y r ih=>
  intro N;simp only[k9];cases hc:(n::N).contains y with
  |true=>
   obtain⟨⟨t,h1⟩,h2⟩:=ih N;refine⟨⟨t,h1⟩,fun x hx=>?_⟩
   rcases List.mem_cons.1 hx with rfl|hx
   ·have:x∈n::N:=by simpa using hc
    simp only[cond_true,h1];rcases List.mem_cons.1 this with rfl|h
    ·exact List.mem_cons_self
    ·exact List.mem_cons_of_mem _ (List.mem_append.2 (.inl h))
   ·exact h2 x hx
  |false=>
   obtain⟨⟨t,h1⟩,h2⟩:=ih (N++[y]);simp only[cond_false];refine⟨⟨y::t,by rw[h1];simp⟩,fun x hx=>?_⟩
   rcases List.mem_cons.1 hx with rfl|hx
   ·rw[h1];simp
   ·exact h2 x hx
theorem aej(F:List aI)(n:J)(hl:F.length<=2000000)(m:List (J×List J))(xs:List J)(rX:xs.length<=8796093022207)(fi:∀x,x∈xs->x≠n->jo F n x/\x∈F.map (·.name))(k:Nat):∀(r:List J) (i:Nat) (es:List (J×Int)) (N:List J),
  xs.drop i=r->i<=xs.length->oj F n N->iI es=n::N->k<=N.length+1->
  ∃hQ,iI hQ=n::k9 n N r/\oj F n (k9 n N r)/\yx ((m,((),((),((),(xs,((xs.length:Int),((i:Int),()))))))),(es,((n::N).drop k,(N,()))))=
   some ((m,((),((),((),())))),(hQ,((n::k9 n N r).drop k,(k9 n N r,())))):=by
 intro r;induction r with
 |nil=>
  intro i es N hr hi et af gR;have:=drop_nil hr;have d1:decide ((i:Int)<(xs.length:Int))=false:=by simp only[decide_eq_false_iff_not];omega
  refine⟨es,af,et,eL ?_⟩;simp only[yz,d1,cond_false,k9]
 |cons x r ih=>
  intro i es N hr hi et af gR;obtain⟨c1,c2,c3⟩:=drop_cons hr;have JO:=List.mem_of_getElem? c1;have Km:=et.add (fi x JO);have hlen:=et.len;have kB:=adP es x;rw[af] at kB;simp only[k9];cases hc:(n::N).contains x with
  |true=>
   rw[hc] at kB;simp only[cond_true];obtain⟨hQ,q1,q2,dG⟩:=ih (i+1) es N c2 c3 et af gR;refine⟨hQ,q1,q2,(gE ?_).trans dG⟩;simp only[yz,cF c3,cond_true,cc,c1,Option.bind_some,kB,Bool.not_true,cond_false,NZ (show i<=8796093022208 by omega)]
  |false=>
   rw[hc] at kB Km;simp only[cond_false] at Km ⊢;have IB:iI (c4 es x (es.length:Int))=n::(N++[x]):=by
    rw[DS x _ es (by rw[af];exact hc)]
    simp only[iI,List.map_append,List.map_cons,List.map_nil];have:es.map (·.1)=n::N:=af;rw[this];rfl
   obtain⟨hQ,q1,q2,dG⟩:=ih (i+1) (c4 es x (es.length:Int)) (N++[x]) c2 c3 Km IB (by simp only[List.length_append,List.length_singleton];omega)
   have yb:(n::(N++[x])).drop k=(n::N).drop k++[x]:=by
    rw[show n::(N++[x])=(n::N)++[x] from rfl,List.drop_append_of_le_length (by simp only[List.length_cons];omega)]
   rw[yb] at dG;have a1:cR 16 ((n::N).drop k) [x]=some ((n::N).drop k++[x]):=eZ (by decide) (by unfold aM;simp only[List.length_drop,List.length_cons,List.length_nil];omega)
   have a2:cR 16 N [x]=some (N++[x]):=eZ (by decide) (by unfold aM;simp only[List.length_singleton];omega)
   refine⟨hQ,q1,q2,(gE ?_).trans dG⟩;simp only[yz,cF c3,cond_true,cc,c1,Option.bind_some,kB,Bool.not_false,a1,a2,NZ (show i<=8796093022208 by omega)]
theorem ah7(F:List aI)(n:J)(hl:F.length<=2000000)(m:List (J×List J))(hm:∀k s,s∈gn m k <-> ∃p,p∈F/\s=p.name/\∃d,d∈p.bI/\d.name=k)(dd:m7 m (F.length*2097152)):∀(w k:Nat) (es:List (J×Int)) (N:List J),
  k+w=F.length+1->oj F n N->iI es=n::N->k<=N.length+1->(∀x,x∈(n::N).take k->∀s,s∈gn m x->s∈n::N)->
  ∃vj,oj F n vj/\(∀x,x∈n::vj->∀s,s∈gn m x->s∈n::vj)/\vI ((m,((),((),((),())))),(es,((n::N).drop k,(N,()))))=some (((),()),(vj,())):=by
 have stop:∀(es:List (J×Int)) (N:List J),vI ((m,((),((),((),())))),(es,(([]:List J),(N,()))))=some (((),()),(N,())):=by
  intro es N;refine eL ?_
  have:decide ((([]:List J).length:Int)>(0:Int))=false:=by simp
  simp only[Fb,this,cond_false]
 intro w;induction w with
 |zero=>
  intro k es N aov et af gR ub;have:=et.len;have e:(n::N).drop k=[]:=List.drop_eq_nil_of_le (by simp only[List.length_cons];omega)
  have e2:(n::N).take k=n::N:=List.take_of_length_le (by simp only[List.length_cons];omega)
  rw[e2] at ub;rw[e];exact⟨N,et,ub,stop es N⟩
 |succ w ih=>
  intro k es N aov et af gR ub;cases Z:(n::N).drop k with
  |nil=>
   have c7:(n::N).length<=k:=List.drop_eq_nil_iff.1 Z;rw[List.take_of_length_le c7] at ub;exact⟨N,et,ub,stop es N⟩
  |cons x rest=>
   have hx:(n::N)[k]? =some x:=by
    have:=congrArg List.head? Z;rw[List.head?_drop] at this;exact this
   have l4:(n::N).drop (k+1)=rest:=by
    rw[<-List.drop_drop,Z];rfl
   have akE:k<(n::N).length:=ct hx;simp only[List.length_cons] at akE;have JO:x∈n::N:=List.mem_of_getElem? hx;have hvN:∀s,s∈gn m x->s≠n->jo F n s/\s∈F.map (·.name):=by
    intro s M WP;obtain⟨p,ag,rfl,d,gz,og⟩:=(hm x s).1 M;refine⟨?_,List.mem_map.2 ⟨p,ag,rfl⟩⟩;rcases List.mem_cons.1 JO with rfl|JQ
    ·exact .mk p ag WP d gz og
    ·exact .xY p ag WP d gz (by rw[og];exact et.sF x JQ)
   have j9:(gn m x).length<=8796093022207:=Nat.le_trans (dd x) (by omega)
   obtain⟨hQ,q1,q2,dG⟩:=aej F n hl m (gn m x) j9 hvN (k+1) (gn m x) 0 es N rfl (Nat.zero_le _) et af (by omega)
   obtain⟨⟨t,aA⟩,hin⟩:=adO n (gn m x) N;obtain⟨vj,r1,r2,c9⟩:=ih (k+1) hQ (k9 n N (gn m x)) (by omega) q2 q1 (by rw[aA];simp only[List.length_append];omega) (fun y al s M=>by
    have apn:(n::k9 n N (gn m x)).take (k+1)=(n::N).take k++[x]:=by
     rw[aA,show n::(N++t)=(n::N)++t from rfl,List.take_append_of_le_length (by simp only[List.length_cons];omega),List.take_add_one,hx]
     rfl
    rw[apn] at al;rcases List.mem_append.1 al with al|al
    ·have:=ub y al s M;rw[aA];rcases List.mem_cons.1 this with rfl|h
     ·exact List.mem_cons_self
     ·exact List.mem_cons_of_mem _ (List.mem_append.2 (.inl h))
    ·rw[List.mem_singleton.1 al] at M;exact hin s M)
   refine⟨vj,r1,r2,(gE ?_).trans c9⟩;rw[l4] at dG;have dG:yx ((m,((),((),((),((dy m x).getD ([]:List J),((((dy m x).getD ([]:List J)).length:Int),((0:Int),()))))))),(es,(rest,(N,()))))=_:=dG;have d0:decide ((((x::rest).length:Nat):Int)>(0:Int))=true:=by simp only[List.length_cons,decide_eq_true_eq];omega
   have d1:iz (x::rest).length (0:Int)=some 0:=oU (i:=0) (by simp)
   have d2:cA (x::rest) (1:Int) ((x::rest).length:Int)=some rest:=by
    have:=pT (xs:=x::rest) (a:=1) (by simp)
    exact this
   simp only[Fb,d0,cond_true,d1,Option.bind_some,List.getElem?_cons_zero,d2,dG]
theorem aiQ:∀a b:J,Op.bytesLess a b=true <-> a<b:=by
 intro a;induction a with
 |nil=>
  intro b;cases b with
  |nil=>simp[Op.bytesLess]
  |cons y b=>simp[Op.bytesLess]
 |cons x a ih=>
  intro b;cases b with
  |nil=>simp[Op.bytesLess]
  |cons y b=>
   simp only[Op.bytesLess,Bool.or_eq_true,decide_eq_true_eq,Bool.and_eq_true,beq_iff_eq,List.cons_lt_cons_iff,ih]
theorem abd{l:List J}(h:l.Nodup):rR (hI l)/\∀x,x∈hI l <-> x∈l:=by
 have ag:(hI l).Perm l:=List.mergeSort_perm l _;have M:(hI l).Pairwise fun x y=>decide (x<=y)=true:=List.pairwise_mergeSort (le:=fun x y:J=>decide (x<=y))
  (fun a b c h1 h2=>by simp only[decide_eq_true_eq] at*;exact List.le_trans h1 h2) (fun a b=>by simp only[Bool.or_eq_true,decide_eq_true_eq];exact List.le_total a b) l
 refine⟨?_,fun x=>ag.mem_iff⟩
 have hn:(hI l).Pairwise fun x y=>x≠y:=ag.nodup_iff.2 h
 refine(M.and hn).imp ?_
 rintro a b ⟨h1,h2⟩;simp only[decide_eq_true_eq] at h1;refine Hv b a ?_ (by simpa using fun e:b=a=>h2 e.symm)
 cases hb:Op.bytesLess b a with
 |false=>rfl
 |true=>exact absurd ((aiQ b a).1 hb) (List.not_lt.2 h1)
theorem _z(a)(hb:fb a.1.1)(hl:a.1.1.length<=2000000):f23 a=some (((),()),((kA a.1.1 a.1.2.1,()))):=by
 obtain⟨⟨F,n,u⟩,bv⟩:=a;have hl:F.length<=2000000:=hl;have gi:=ZJ ((F,()),()) hb;obtain⟨e1,dd⟩:=agl F n hb hl F 0 [] rfl (Nat.zero_le _) (fun k=>Nat.zero_le _)
 have e1:Af ((n,((),(F,((F.length:Int),((0:Int),()))))),(([]:List (J×Option (List J))),()))=_:=e1;have hm:∀k s,s∈gn (n3 [] F) k <-> ∃p,p∈F/\s=p.name/\∃d,d∈p.bI/\d.name=k:=fun k s=>by
  rw[adC];exact⟨fun h=>h.elim (fun h=>by cases h) id,.inr⟩
 have ao8:oj F n []:=⟨by simp,(fun s M=>by cases M),(fun s M=>by cases M)⟩
 obtain⟨N,q1,q2,dG⟩:=ah7 F n hl (n3 [] F) hm dd (F.length+1) 0 (c4 ([]:List (J×Int)) n (0:Int)) [] (by omega) ao8 rfl (Nat.zero_le _) (fun x hx=>by simp at hx)
 have dG:vI ((n3 [] F,((),((),((),())))),(c4 ([]:List (J×Int)) n (0:Int),([n],(([]:List J),()))))=_:=dG;have M:tp N=some ():=by
  unfold tp;rw[if_pos];have:=q1.len;omega
 simp only[f23,gi,Option.bind_some,e1,acq,dG,M];show(bif k4 F !=0 then _ else _)=some (((),()),(kA F n,()))
 rcases hc:k4 F==0 with _|_
 ·have:(k4 F !=0)=true:=by simp only[bne,hc,Bool.not_false]
  rw[this];simp only[cond_true,kA,hc,cond_false]
 ·have:(k4 F !=0)=false:=by simp only[bne,hc,Bool.not_true]
  rw[this];simp only[cond_false];have qC:k4 F=0:=eq_of_beq hc;obtain⟨n1,n2⟩:=List.nodup_cons.1 q1.JC;obtain⟨s1,s2⟩:=abd n2;have:hI N=kA F n:=aha (key:=fun x=>x) s1 (ady F n) fun x=>by
   rw[s2,E0 qC];refine Hb q1.sF (fun p ag sf d Z ka=>?_) x
   have hin:p.name∈n::N:=q2 d.name (List.mem_cons.2 ka) p.name ((hm _ _).2 ⟨p,ag,rfl,d,Z,rfl⟩);exact(List.mem_cons.1 hin).resolve_left sf
  rw[this]
abbrev C9(k:Nat)(F:List aI):Prop:=F.length<=k/\∀p,p∈F->sv p
theorem C9.mz{k:Nat}{F:List aI}(h:C9 k F)(af:k<=1000):fb F:=⟨Nat.le_trans h.1 (Nat.le_trans af (by decide)),fun p ag=>(h.2 p ag).ok.1⟩
theorem C9.vs{k:Nat}{F:List aI}(h:C9 k F):mA F:=fun p ag=>(h.2 p ag).ok.2
def Fit(F:List aI)(D:List J)(n:dq):Prop:=n.name∈D/\∃q,F.find? (fun q=>q.name==n.name)=some q/\nP n q.b4=true
def Good(F:List aI)(D:List J):Prop:=∀(i:Nat) (s:J),D[i]? =some s->∃p,F.find? (fun q=>q.name==s)=some p/\∀n,n∈p.bI->Fit F (D.take i) n
theorem Good.cM{F:List aI}{D:List J}{s:J}{p:aI}(h:Good F D)(ag:F.find? (fun q=>q.name==s)=some p)(hn:∀n,n∈p.bI->Fit F D n):Good F (D++[s]):=by
 intro i x hx;by_cases hi:i<D.length
 ·rw[List.getElem?_append_left hi] at hx;rw[List.take_append_of_le_length (Nat.le_of_lt hi)];exact h i x hx
 ·have a':=ct hx;simp only[List.length_append,List.length_cons,List.length_nil] at a';have:i=D.length:=by omega
  subst this;rw[List.getElem?_append_right (Nat.le_refl _)] at hx;simp only[Nat.sub_self,List.getElem?_cons_zero,Option.some.injEq] at hx;subst hx;refine⟨p,ag,?_⟩;rw[List.take_left' rfl];exact hn
theorem Fit.mono{F:List aI}{D cX:List J}{n:dq}(h:Fit F D n)(ag:D<+:cX):Fit F cX n:=⟨ag.subset h.1,h.2⟩
theorem ad2(w:World):Calls ae 67 #[.slice none 0 0,.int .i64 0,.int .i64 0] w fun e w'=>e=.returned (.slice none 0 0)/\w'=w:=by
 go_enter Tryz.func67,Tryz.ntmps67
 go_wp2
 all_goals(go_ret;exact⟨rfl,rfl⟩)
theorem ad1(g n c i:Nat)(w:World)(hi:i<=n)(hnc:n<=c)(hc63:c<=9223372036854775807):Calls ae 67 #[.slice (some ⟨g,0,none⟩) n c,.int .i64 i,.int .i64 i] w fun e w'=>e=.returned (.slice (some ⟨g,0,none⟩) n c)/\w'=w:=by
 go_enter Tryz.func67,Tryz.ntmps67
 go_wp2
 all_goals(go_ret;exact⟨rfl,rfl⟩)
theorem afF(g n c i j:Nat)(cur:Array Value)(te:TypeId)(w:World)(hij:i<j)(hj:j<=n)(hnc:n<=c)(hc63:c<=9223372036854775807)(hg:w.heap[g]? =some (.cells cur te (0,0)))(hcs:cur.size=c*4)
  (h1c:∀v∈cur.toList.take (n*4),v.oneCell'=true):∃ROW:Array Value,ROW.size=c*4/\ROW.toList.take ((i+(n-j))*4)=cur.toList.take (i*4)++(cur.toList.take (n*4)).drop (j*4)/\
  Calls ae 67 #[.slice (some ⟨g,0,none⟩) n c,.int .i64 i,.int .i64 j] w fun e w'=>e=.returned (.slice (some ⟨g,0,none⟩) (i+(n-j)) c)/\w'.os=w.os/\w'.tape=w.tape/\w'.output=w.output/\w'.heap=(w.setRow g ROW).heap:=by
 have tT:ae.underlying 28=some (.slice 57):=by kernel_rfl
 have hinfo:(ae.info? 57).map (fun i=>(i.zero.map (fun z=>(z.cells.size,z.cells.toList.all fun v=>v.oneCell')),i.size))=some (some (4,true),4):=by kernel_rfl
 obtain⟨i0,hi0,hzz⟩:=Option.map_eq_some_iff.1 hinfo;simp only[Prod.mk.injEq] at hzz;obtain⟨hz0,hzs⟩:=hzz;obtain⟨z,hz,hzc⟩:=Option.map_eq_some_iff.1 hz0;simp only[Prod.mk.injEq] at hzc;obtain⟨hzc,hz1⟩:=hzc;have hz1:∀v∈z.cells,v.oneCell'=true:=fun v hv=>List.all_eq_true.1 hz1 v (by simpa using hv)
 have hzv:∀w,(zeroValue 57).run ae w=.ok z w:=fun w=>by simp[zeroValue,typeInfo,hi0,hz]
 obtain⟨news,hnews⟩:∃news,news=(cur.toList.take (n*4)).drop (j*4):=⟨_,rfl⟩;have hlen:news.length=(n-j)*4:=by rw[hnews];simp only[List.length_drop,List.length_take,Array.length_toList,hcs];rw[Nat.min_eq_left (by omega),Nat.sub_mul]
 have hone:∀v∈news,v.oneCell'=true:=fun v hv=>h1c v (by rw[hnews] at hv;exact List.mem_of_mem_drop hv)
 obtain⟨A,hA,hsrc⟩:∃A:Addr,(if c=j then some (⟨g,0,none⟩:Addr) else some ⟨g,j*4,none⟩)=some A/\∀t u,news[t]? =some u->w.drew.cell? (A.add t)=some u:=by
  by_cases h:c=j
  ·refine⟨⟨g,0,none⟩,by simp[h],fun t u hu=>?_⟩
   have h0:news.length=0:=by rw[hlen];omega
   rw[List.length_eq_zero_iff.1 h0] at hu;simp at hu
  ·refine⟨⟨g,j*4,none⟩,by simp[h],fun t u hu=>?_⟩
   rw[hnews,List.getElem?_drop,List.getElem?_take] at hu;split at hu
   ·rw[Addr.add_lit];show w.cell? _=_;simpa[World.cell?,hg] using hu
   ·cases hu
 obtain⟨cur1,hcur1⟩:∃cur1,cur1=(bw cur.toList (i*4) news).toArray:=⟨_,rfl⟩;have hc1s:cur1.size=c*4:=by rw[hcur1];simp only[bw,List.size_toArray,List.length_append,List.length_drop,List.length_take,Array.length_toList,hcs,hlen];omega
 have hap:∀ty,(Builtin.append_ #[28,28] ty #[.slice (some ⟨g,0,none⟩) i c,.slice (some A) (n-j) (c-j)]).run ae w.drew=.ok (.slice (some ⟨g,0,none⟩) (i+(n-j)) c) (w.drew.setRow g cur1):=fun ty=>by
  rw[hcur1];exact Zo w.drew 28 57 ty 4 i0 tT hi0 hzs g i c A (n-j) (c-j) cur te news hg hsrc hlen (by omega) (by rw[hlen];omega) hone
 obtain⟨ROW,hROW⟩:∃ROW,ROW=(bw cur1.toList ((i+(n-j))*4) (Builtin.zeroCells z.cells (n-(i+(n-j)))).toList).toArray:=⟨_,rfl⟩;have hcl:∀ty,(Builtin.clear_ #[28] ty #[.slice (some ⟨g,(i+(n-j))*4,none⟩) (n-(i+(n-j))) (c-(i+(n-j)))]).run ae (w.drew.setRow g cur1)=.ok (.tuple #[]) ((w.drew.setRow g cur1).setRow g ROW):=fun ty=>by
  rw[hROW];exact Z2 _ 28 57 ty z tT hzv g ((i+(n-j))*4) (n-(i+(n-j))) _ (by omega) cur1 te (setRow_heap w.drew g cur cur1 te (0,0) hg) (by rw[hzc,hc1s];omega) hz1
 have hzl:∀m,(Builtin.zeroCells z.cells m).size=4*m:=fun m=>by have:=Lv z.cells m;rw[Array.length_toList,hzc] at this;exact this
 have hRs:ROW.size=c*4:=by rw[hROW];simp only[bw,List.size_toArray,List.length_append,List.length_drop,List.length_take,Array.length_toList,hc1s,hzl];omega
 refine⟨ROW,hRs,?_,?_⟩
 ·rw[hROW,hcur1];have hl1:(bw cur.toList (i*4) news).length=c*4:=by have:=hc1s;rw[hcur1] at this;simpa using this
  simp only[bw] at hl1 ⊢;have hcl':cur.toList.length=c*4:=by rw[Array.length_toList,hcs]
  rw[<-hnews];apply List.ext_getElem?;intro q;simp only[List.getElem?_take,List.getElem?_append,List.getElem?_drop,List.length_append,List.length_take,List.length_drop,hlen,hcl'];repeat' split
  all_goals first|rfl|omega|(congr 1;omega)|(symm;apply List.getElem?_eq_none;omega)|(apply List.getElem?_eq_none;omega)
 ·have hE:(w.drew.setRow g cur1).setRow g ROW=w.drew.setRow g ROW:=by rw[setRow_setRow]
  have hb2:¬((i:Int)=(j:Int)):=by omega
  have hin:i<=c:=by omega
  have hjc:j<=c:=by omega
  have hlc:i+(n-j)<=n:=by omega
  have hlc2:n<=c:=hnc;have hne:¬(c=i+(n-j)):=by omega
  obtain⟨W1,hW1⟩:∃W1,W1=w.drew.setRow g cur1:=⟨_,rfl⟩;rw[<-hW1] at hap hcl hE;clear hW1 hROW hcur1 hnews;go_enter Tryz.func67,Tryz.ntmps67
  go_wp2_with fail
  go_region_law (refine YT rfl _ _ 28 28 rfl (.slice (some ⟨g,0,none⟩) i c) (.slice (some A) (n-j) (c-j)) (by simp[Act.eval,Act.put]) (by simp[Act.eval,Act.put,hA]) (hap _) ?_)
  go_wp2_with (at_builtin;refine YG _ rfl _ 28 rfl _ rfl (hcl _) ?_)
  go_ret
  exact⟨rfl,rfl,rfl,rfl,rfl⟩
noncomputable def UK:bb:=Fj .pack
theorem ai1:a_ ae 67 UK:=aax rfl ⟨ad2,ad1,afF⟩ (fun vs w=>enters_of Tryz.func67 (by kernel_rfl) rfl _ _)
noncomputable abbrev aqh:bD:=[(48,Db),(63,Xx),(64,S64),(65,KD),(66,SM),(67,UK)]
theorem aqx:bg ae (bu oz aqh):=Dl ⟨Js,amL,VX,VW,ah1,ai1,⟨⟩⟩
abbrev i30:Shape:=⟨[dS 0 [bJ .pack],a8 1],[],36⟩
abbrev WB:Shape:=⟨[bj 4 4 0,aq 5],[(5000256,.deep .pack,.cell 4 0),bi 4 [.own 5000256]],36⟩
noncomputable def f30(a:i30.L):Option WB.L:=
(f48 (((a.1.1.1,()),()),())).bind fun b=>
 bif(!b.1.1) then
 some (((),(1:Int),()),([]:List aI),((),()),())
else
(f63 ((a.1.1.1,a.1.2.1,()),())).bind fun c=>
 bif(!c.1.2.1) then
(f64 (((a.1.1.1,()),()),())).bind fun d=>
 some (((),(3:Int),()),d.2.1,((),()),())
else
(f65 ((a.1.1.1,()),())).bind fun e=>
(uy e.2.1 c.1.1 (IntKind.i64.wrap (c.1.1+(1:Int)))).bind fun f=>
(BU (((),(a.1.1.1,()),()),f,())).bind fun g=>
 some (((),g.1.2.1,()),g.2.1,((),()),())
noncomputable def XE:bb:=bf oz Tryz.f30 i30 WB [] f30
theorem amR:a_ ae 30 XE:=bh aqx Tryz.func30 (by kernel_rfl) aB (fun y=>by kernel_rfl) fun a=>by kernel_rfl
def dZ(F:List aI)(n:J):List aI:=F.filter fun p=>!(p.name==n)
theorem lY{F:List aI}{n:J}{x:aI}:x∈dZ F n <-> x∈F/\x.name≠n:=by
 unfold dZ;rw[List.mem_filter];simp
theorem Fp{F:List aI}(n:J)(h:mb F):mb (dZ F n):=List.Pairwise.sublist List.filter_sublist h
theorem O4{F:List aI}{n:J}(aT:mb F)(h:mY F n=true):F.take (dW F n)++F.drop (dW F n+1)=dZ F n:=by
 unfold mY at h;cases ao:F[dW F n]? with
 |none=>rw[ao] at h;cases h
 |some q=>
  rw[ao] at h;have J4:q.name=n:=by simpa using h
  have qb:F=F.take (dW F n)++(q::F.drop (dW F n+1)):=by
   have h1:=List.drop_eq_getElem_cons (ct ao);have h2:F[dW F n]'(ct ao)=q:=(List.getElem?_eq_some_iff.1 ao).2;rw[h2] at h1;rw[<-h1,List.take_append_drop]
  have pw:=aT;rw[qb] at pw;obtain⟨a1,a2,a3⟩:=List.pairwise_append.1 pw;obtain⟨a4,a5⟩:=List.pairwise_cons.1 a2;generalize F.take (dW F n)=A at*;generalize F.drop (dW F n+1)=bR at*;have hA:A.filter (fun p=>!(p.name==n))=A:=by
   rw[List.filter_eq_self];intro x hx;have:=SH (a3 x hx q List.mem_cons_self);rw[J4] at this;rw[this];rfl
  have et:bR.filter (fun p=>!(p.name==n))=bR:=by
   rw[List.filter_eq_self];intro x hx;have:=a4 x hx;rw[J4] at this;cases hc:(x.name==n) with
   |false=>rfl
   |true=>rw[eq_of_beq hc,ku] at this;cases this
  have pq:(!(q.name==n))=false:=by rw[J4];simp
  have:dZ F n=A++bR:=by
   unfold dZ;rw[qb,List.filter_append,List.filter_cons,pq,hA,et];rfl
  exact this.symm
theorem AQ{k:Nat}{F:List aI}(n:J)(h:jI k F):jI k (dZ F n):=
 ⟨Nat.le_trans List.filter_sublist.length_le h.1,fun x hx=>h.2 x (lY.1 hx).1⟩
def jv(F:List aI)(n:J):List aI×Int:=bif fp F then(match F.find? (fun q=>q.name==n) with
 |some _=>(bif fA (dZ F n)==0 then dZ F n else F,fA (dZ F n))
 |none=>(F,3)) else([],1)
theorem _y(a)(k:Nat)(af:k<=1999999)(h:jI k a.1.1.1):f30 a=some (((),((jv a.1.1.1 a.1.2.1).2,())),((jv a.1.1.1 a.1.2.1).1,(((),()),()))):=by
 obtain⟨⟨⟨F,ig⟩,name,u⟩,bv⟩:=a;have h:jI k F:=h;have hb:fb F:=h.mz (by omega)
 have gi:=D5 (((F,()),()),()) hb h.vs;simp only[f30,gi,Option.bind_some,jv];cases hr:fp F with
 |false=>rfl
 |true=>
  have aT:=qZ hr;have hl:=Mw hr;have e2:=LP (((F,()),()),()) hb;have b0:=_A ((F,(name,())),()) hb.1 aT;have eu:=LF ((F,()),()) hb;simp only[Bool.not_true,cond_false,cond_true,b0,Option.bind_some,OX aT];cases bW:mY F name with
  |false=>simp only[Bool.not_false,cond_true,cond_false,e2,Option.bind_some]
  |true=>
   have hw:=AQ name h;have Z:=O4 aT bW;have Ka:=bW;unfold mY at Ka;cases ao:F[dW F name]? with
   |none=>rw[ao] at Ka;cases Ka
   |some q=>
    have a':=ct ao;have fI:=acx ((dZ F name,((F,()),())),()) (hw.mz (by omega)) hw.vs hb
    have lG:uy F (dW F name:Int) (((dW F name+1:Nat)):Int)=some (dZ F name):=by
     unfold uy;rw[if_pos ⟨by omega,by omega,by omega⟩,Int.toNat_natCast,Int.toNat_natCast,Z]
    have kJ:IntKind.i64.wrap ((dW F name:Int)+1)=(((dW F name+1:Nat)):Int):=cl (by unfold aM;omega)
    simp only[Bool.not_true,cond_false,cond_true,eu,kJ,lG,fI,Option.bind_some]
theorem afQ{F:List aI}(h:mb F):j6 F=true:=by
 unfold j6;refine(DM (lm:=fun _ _=>true) F.tail 0 (fun i x hx=>?_)).trans (vt _ _)
 rw[List.getElem?_tail] at hx;have a':=ct hx;have hi:i<F.length:=by omega
 rw[Nat.zero_add];unfold mL;rw[List.getElem?_eq_getElem hi];have:=List.pairwise_iff_getElem.1 h i (i+1) hi a' (by omega)
 rw[(List.getElem?_eq_some_iff.1 hx).2] at this;exact this
theorem DR{F:List aI}(h:fp F=true):F.all dV=true/\F.all (fun p=>p.bI.all (f_ F))=true/\(eM [] F).isSome=true:=by
 unfold fp at h;simp only[Bool.and_eq_true] at h;exact⟨h.1.1.1.1,h.1.2,h.2⟩
theorem ON{F:List aI}{n:dq}(h:f_ F n=true):∃q,F.find? (fun q=>q.name==n.name)=some q/\nP n q.b4=true:=by
 unfold f_ at h;split at h
 ·rename_i q ao;exact⟨q,ao,h⟩
 ·cases h
theorem adx{F:List aI}{n:dq}{q:aI}(h:F.find? (fun q=>q.name==n.name)=some q):f_ F n=nP n q.b4:=by
 unfold f_;rw[h]
theorem EG{t:List aR}(aT:ep t){p:J}:iO t p=true <-> p=[]\/∃d,d∈t/\d.path=p/\d.kind=1:=by
 have e:iO t p=(p==[]||match fu t p with|some e=>e.kind==1|none=>false):=by
  unfold iO fu;cases t[bU t p]? with
  |none=>rfl
  |some e=>cases h:(e.path==p)<;>simp[h]
 rw[e,Bool.or_eq_true];constructor
 ·rintro(h|h)
  ·exact .inl (eq_of_beq h)
  ·cases hg:fu t p with
   |none=>rw[hg] at h;cases h
   |some d=>
    rw[hg] at h;obtain⟨h1,h2⟩:=(jO aT).1 hg;exact .inr ⟨d,h1,h2,eq_of_beq h⟩
 ·rintro(h|⟨d,h1,h2,ab⟩)
  ·exact .inl (by rw[h];rfl)
  ·refine .inr ?_
   rw[(jO aT).2 ⟨h1,h2⟩];simp[ab]
theorem M5{t:List aR}(h:dR t=true):(∀e,e∈t->mN e=true)/\∀e,e∈t->iO t (iy e.path)=true:=by
 unfold dR at h;simp only[Bool.and_eq_true] at h;obtain⟨⟨h1,h2⟩,_⟩:=h;refine⟨fun e he=>?_,fun e he=>List.all_eq_true.1 h2 e he⟩
 obtain⟨i,hi⟩:=List.mem_iff_getElem?.1 he;have:=zv t 0 h1 i e hi;unfold iP at this;simp only[Bool.and_eq_true] at this;exact this.1
theorem aa4{t:List aR}(aT:ep t)(h1:∀e,e∈t->mN e=true)(h2:∀e,e∈t->iO t (iy e.path)=true)(ab:t.length<=16):dR t=true:=by
 unfold dR;simp only[Bool.and_eq_true,decide_eq_true_eq];refine⟨⟨?_,List.all_eq_true.2 h2⟩,ab⟩;refine(DM (lm:=fun _ _=>true) t 0 (fun i x hx=>?_)).trans (vt _ _)
 rw[Nat.zero_add];unfold iP tA;rw[h1 x (List.mem_of_getElem? hx),Bool.true_and];cases i with
 |zero=>rfl
 |succ i=>
  have a':=ct hx;have hi:i<t.length:=by omega
  have:=List.pairwise_iff_getElem.1 aT i (i+1) hi a' (by omega)
  rw[(List.getElem?_eq_some_iff.1 hx).2] at this;simp only[Nat.add_sub_cancel,List.getElem?_eq_getElem hi,this,Bool.or_true]
def KN(a b:List aR):Prop:=∀e,e∈b->∀y,y∈a->y.path=e.path->y=e/\e.kind=1
theorem ab1:∀(es out:List aR),ep out->ep es->KN out es->∃D,fL out es=some D:=by
 intro es;induction es with
 |nil=>intro out _ _ _;exact⟨out,rfl⟩
 |cons e r ih=>
  intro out aT he hc;obtain⟨aoJ,aoI⟩:=List.pairwise_cons.1 he;have step:∃D,gH out e=some D:=by
   unfold gH;cases ao:out[bU out e.path]? with
   |none=>exact⟨_,rfl⟩
   |some q=>
    simp only;cases ag:(q.path==e.path) with
    |false=>exact⟨_,rfl⟩
    |true=>
     obtain⟨rfl,h2⟩:=hc e List.mem_cons_self q (List.mem_of_getElem? ao) (eq_of_beq ag);have:j4 q q=false:=by unfold j4;rw[h2,adW];rfl
     rw[this];exact⟨_,rfl⟩
  obtain⟨D,ap⟩:=step;rw[pS,ap];refine ih D (yD aT ap) aoI fun bK kO y al ag=>?_
  rcases(EU ap y).1 al with rfl|al
  ·have:=aoJ bK kO;rw[ag,ku] at this;cases this
  ·exact hc bK (List.mem_cons_of_mem _ kO) y al ag
theorem aa3:∀(F:List aI) (out T:List aR),dR out=true->(∀p,p∈F->dR p.bY=true)->F.Pairwise (fun p q=>KN p.bY q.bY)->(∀p,p∈F->KN out p.bY)->
  ep T->T.length<=16->(∀e,e∈out->e∈T)->(∀p,p∈F->∀e,e∈p.bY->e∈T)->(eM out F).isSome=true:=by
 intro F;induction F with
 |nil=>intro out T _ _ _ _ _ _ _ _;rfl
 |cons p r ih=>
  intro out T ap ag CQ hc aZ hl aoq WS;obtain⟨b_,w2⟩:=List.pairwise_cons.1 CQ;have J5:=ag p List.mem_cons_self;obtain⟨D,hj⟩:=ab1 p.bY out (jN ap) (jN J5) (hc p List.mem_cons_self);have hin:=zj hj;have Ke:=ab2 (jN ap) hj;have Up:∀e,e∈D->e∈T:=fun e he=>by
   rcases(hin e).1 he with h|h
   ·exact aoq e h
   ·exact WS p List.mem_cons_self e h
  have eE:dR D=true:=by
   obtain⟨ax,an⟩:=M5 ap;obtain⟨bG,ci⟩:=M5 J5;refine aa4 Ke (fun e he=>?_) (fun e he=>?_) (Nat.le_trans (GR (key:=fun e:aR=>e.path) Ke aZ Up).length_le hl)
   ·rcases(hin e).1 he with h|h
    ·exact ax e h
    ·exact bG e h
   ·rw[EG Ke];rcases(hin e).1 he with h|h
    ·rcases(EG (jN ap)).1 (an e h) with h|⟨d,d1,d2⟩
     ·exact .inl h
     ·exact .inr ⟨d,(hin d).2 (.inl d1),d2⟩
    ·rcases(EG (jN J5)).1 (ci e h) with h|⟨d,d1,d2⟩
     ·exact .inl h
     ·exact .inr ⟨d,(hin d).2 (.inr d1),d2⟩
  rw[sQ];have:stepT out p=some D:=by unfold stepT;rw[hj];simp only[eE,cond_true]
  rw[this,Option.bind_some];refine ih D T eE (fun q ao=>ag q (List.mem_cons_of_mem _ ao)) w2 (fun q ao e he y al mg=>?_) aZ hl Up (fun q ao=>WS q (List.mem_cons_of_mem _ ao))
  rcases(hin y).1 al with h|h
  ·exact hc q (List.mem_cons_of_mem _ ao) e he y h mg
  ·exact b_ q ao e he y h mg
theorem ago{aK:Type}{l:List aK}{a b:aK}(aT:a∈l)(hb:b∈l)(hne:a≠b):2<=l.length:=by
 match l,aT,hb with
 |[x],aT,hb=>
  rw[List.mem_singleton] at aT hb;exact absurd (aT.trans hb.symm) hne
 |_::_::_,_,_=>simp
theorem P4{F:List aI}{p q:aI}{path:J}(ag:p∈F)(ao:q∈F)(hne:p.name≠q.name)(h1:(fu p.bY path).isSome=true)(h2:(fu q.bY path).isSome=true):2<=nZ path F:=by
 unfold nZ;exact ago (a:=p) (b:=q) (List.mem_filter.2 ⟨ag,h1⟩) (List.mem_filter.2 ⟨ao,h2⟩) fun h=>hne (by rw[h])
abbrev apj:J:=[102,114,101,115,104]
section
variable {F:List aI}(hr:fp F=true)(hl:F.length<5)(hn:∀q,q∈F->q.name≠apj){x:aI}(hx:x∈F)
include hr hl hn hx
end
theorem ag5:∀(r bV:List J),(bV++r).Nodup->ha bV r=false:=by
 intro r;induction r with
 |nil=>intro bV _;rfl
 |cons x r ih=>
  intro bV h;have hx:x∉bV:=fun hm=>(List.nodup_append.1 h).2.2 x hm x List.mem_cons_self rfl
  have hc:bV.contains x=false:=by simpa using hx
  simp only[ha,hc,Bool.false_or];exact ih (bV++[x]) (by simpa using h)
theorem _b{F:List aI}(aT:mb F):(F.map (·.name)).Nodup:=by
 unfold List.Nodup;rw[List.pairwise_map];refine aT.imp fun {p q} h e=>?_
 rw[e,ku] at h;cases h
section
variable {F:List aI}(hr:fp F=true)
include hr
theorem L2:k4 F=0:=by
 unfold k4;have:=ag5 (F.map (·.name)) [] (by simpa using _b (qZ hr))
 rw[(DR hr).1,this];rfl
def jZ(F:List aI)(D:List J):List aI:=F.filter fun p=>D.contains p.name
end
abbrev i125:Shape:=⟨[dS 0 [bC,bM,bC],dS 1 [bC,bM,bC]],[],20⟩
abbrev akg:Shape:=⟨[aQ 4],[],20⟩
noncomputable def f125(a:i125.L):Option akg.L:=
 bif(!(a.1.1.1==a.1.2.1.1)) then
 some ((false,()),())
else
 bif(a.1.1.2.1 !=a.1.2.1.2.1) then
 some ((false,()),())
else
 bif(!(a.1.1.2.2.1==a.1.2.1.2.2.1)) then
 some ((false,()),())
else
 some ((true,()),())
abbrev i53:Shape:=⟨[dS 0 [bC,bM,bM,bC],dS 1 [bC,bM,bM,bC]],[],25⟩
abbrev Wt:Shape:=⟨[aQ 4],[],25⟩
noncomputable def f53(a:i53.L):Option Wt.L:=
 bif(!(a.1.1.1==a.1.2.1.1)) then
 some ((false,()),())
else
 bif(a.1.1.2.1 !=a.1.2.1.2.1) then
 some ((false,()),())
else
 bif(a.1.1.2.2.1 !=a.1.2.1.2.2.1) then
 some ((false,()),())
else
 bif(!(a.1.1.2.2.2.1==a.1.2.1.2.2.2.1)) then
 some ((false,()),())
else
 some ((true,()),())
noncomputable def apO:bb:=bf az Tryz.f53 i53 Wt [] f53
theorem z53:a_ ae 53 apO:=bh g0 Tryz.func53 (by kernel_rfl) aB (fun y=>by kernel_rfl) fun a=>by kernel_rfl
abbrev G6:Shape:=⟨[a7 0 .entry,a7 1 .entry,aq 5],[],27⟩
abbrev Qm:List bk:=[(.ret,⟨[aQ 4],[],27⟩),(.exit 0,⟨[],[],27⟩)]
noncomputable def agY(y:G6.L):cy G6 Qm:=
 bif(decide (y.1.2.2.1<(y.1.1.length:Int))) then
(bd y.1.1 y.1.2.2.1).bind fun a=>
(bd y.1.2.1 y.1.2.2.1).bind fun b=>
(f53 (((a.path,a.kind,a.mode,a.text,()),(b.path,b.kind,b.mode,b.text,()),()),())).bind fun c=>
 bif(!c.1.1) then
 some (.inr (.inl ((false,()),())))
else
 some (.inl ((y.1.1,y.1.2.1,(IntKind.i64.wrap (y.1.2.2.1+(1:Int))),()),()))
else
 some (.inr (.inr ((),())))
noncomputable def agO:G6.L->Option (aY Qm):=b7 agY
abbrev i15:Shape:=⟨[a7 0 .entry,a7 1 .entry],[],27⟩
abbrev WE:Shape:=⟨[aQ 4],[],27⟩
noncomputable def f15(a:i15.L):Option WE.L:=
 bif((a.1.1.length:Int) !=(a.1.2.1.length:Int)) then
 some ((false,()),())
else
(agO ((a.1.1,a.1.2.1,(0:Int),()),())).bind fun b=>
(match b with
|.inl c=>
 some ((c.1.1,()),())
|.inr d=>
 some ((true,()),()))
noncomputable def KH:bb:=bf az Tryz.f15 i15 WE [] f15
abbrev i32:Shape:=⟨[dS 0 [bC,bC,bJ .need,bJ .entry],aq 1],[],32⟩
abbrev kh(n:Nat):Prop:=n<=1048576
abbrev apH(n:dq):Prop:=kh n.name.length/\kh n.b4.length
abbrev apI(e:aR):Prop:=kh e.path.length/\kh e.text.length
abbrev alb(l:List dq):Prop:=kh l.length/\∀n,n∈l->apH n
abbrev alc(l:List aR):Prop:=kh l.length/\∀n,n∈l->apI n
abbrev apG(p:aI):Prop:=kh p.name.length/\kh p.b4.length/\alb p.bI/\alc p.bY
abbrev UI(l:List aI):Prop:=kh l.length/\∀n,n∈l->apG n
theorem UI.mz{F:List aI}(h:UI F):fb F/\mA F:=by
 obtain⟨h1,h2⟩:=h;have up:∀{n:Nat},kh n->cq n:=fun h=>Nat.le_trans h (by decide)
 have V3:∀{n:Nat},kh n->n<=2097151:=fun h=>Nat.le_trans h (by decide)
 refine⟨⟨up h1,fun p ag=>?_⟩,fun p ag=>?_⟩
 ·obtain⟨a,b,c,d⟩:=h2 p ag;exact⟨up a,up b,⟨up c.1,fun n hn=>⟨up (c.2 n hn).1,up (c.2 n hn).2⟩⟩,up d.1,fun n hn=>⟨up (d.2 n hn).1,up (d.2 n hn).2⟩⟩
 ·obtain⟨a,b,c,d⟩:=h2 p ag;exact⟨V3 b,fun n hn=>V3 (c.2 n hn).2⟩
abbrev Ab:Shape:=⟨[a7 0 .pack,a8 1,bS 5 3000320,aq 6],[b8 3000320 .pack 5 0],29⟩
abbrev FY:List bk:=[(.exit 0,⟨[bS 5 3000320],[b8 3000320 .pack 5 0],29⟩)]
noncomputable def AG(y:Ab.L):cy Ab FY:=
 bif(decide (y.1.2.2.2.1<(y.1.1.length:Int))) then
(bd y.1.1 y.1.2.2.2.1).bind fun a=>
 bif(!(a.name==y.1.2.1)) then
(bd y.1.1 y.1.2.2.2.1).bind fun b=>
(cR 80 y.2.1 ([b]:List aI)).bind fun c=>
 some (.inl ((y.1.1,y.1.2.1,(),(IntKind.i64.wrap (y.1.2.2.2.1+(1:Int))),()),c,()))
else
 some (.inl ((y.1.1,y.1.2.1,(),(IntKind.i64.wrap (y.1.2.2.2.1+(1:Int))),()),y.2.1,()))
else
 some (.inr (((),()),y.2.1,()))
noncomputable def Gw:Ab.L->Option (aY FY):=b7 AG
theorem afc:bq ae (aH (codeOf Tryz.f106) 1 58) (bE Ab FY Gw):=cE g0 (by kernel_rfl) aB fun y=>by kernel_rfl
abbrev i106:Shape:=⟨[a7 0 .pack,a8 1],[],29⟩
abbrev T7:Shape:=⟨[bS 4 3000256],[b8 3000256 .pack 4 0],29⟩
noncomputable def f106(a:i106.L):Option T7.L:=
(Gw ((a.1.1,a.1.2.1,(),(0:Int),()),([]:List aI),())).bind fun b=>
 some (((),()),b.2.1,())
noncomputable def VB:bb:=bf az Tryz.f106 i106 T7 [] f106
theorem ajL:a_ ae 106 VB:=bh g0 Tryz.func106 (by kernel_rfl) (bN afc aB) (fun y=>by kernel_rfl) fun a=>by kernel_rfl
theorem ZK(a)(hl:a.1.1.length<=2097152):f106 a=some (((),()),(dZ a.1.1 a.1.2.1,())):=by
 obtain⟨⟨F,n,u⟩,bv⟩:=a;have hl:F.length<=2097152:=hl;have key:=yS (S:=List aI) AG F (fun i bV=>((F,(n,((),((i:Int),())))),(bV,()))) (fun x bV=>bif !(x.name==n) then bV++[x] else bV) (fun bV=>(((),()),(bV,()))) (fun i bV=>bV.length<=i) [] (Nat.le_refl _) (fun i x bV hx dj=>?_) (fun bV dj=>?_)
 ·have key:Gw ((F,(n,((),((0:Int),())))),(([]:List aI),()))=_:=key;have e:∀(l bV:List aI),l.foldl (fun s x=>bif !(x.name==n) then s++[x] else s) bV=bV++l.filter (fun p=>!(p.name==n)):=by
   intro l;induction l with
   |nil=>intro bV;simp
   |cons x l ih=>
    intro bV;rw[List.foldl_cons,ih,List.filter_cons];cases (x.name==n)<;>simp
  simp only[f106,key,Option.bind_some];rw[e];rfl
 ·have hi:=ct hx;have hw:aM i:=by unfold aM;omega
  have aT:cR 80 bV [x]=some (bV++[x]):=eZ (by decide) (by unfold aM;simp;omega)
  simp only[AG,cF hi,cond_true,cc,hx,Option.bind_some,aT,cl hw];cases (x.name==n)
  ·exact⟨rfl,by simp;omega⟩
  ·exact⟨rfl,by simp;omega⟩
 ·simp only[AG,dQ,cond_false]
noncomputable abbrev ap8:bD:=[(104,Cs),(105,Jf),(106,VB)]
theorem aqr:bg ae (bu az ap8):=bB ⟨H6,z105,ajL,⟨⟩⟩
abbrev i61:Shape:=⟨[dS 0 [bJ .pack],a8 1],[],20⟩
abbrev Wr:Shape:=⟨[bj 4 4 0,aq 5],[bi 4 [bJ .pack]],20⟩
noncomputable def f61(a:i61.L):Option Wr.L:=
(f104 ((a.1.1.1,a.1.2.1,()),())).bind fun b=>
 bif(decide (b.1.1<(0:Int))) then
 some (((),(3:Int),()),(a.1.1.1,()),())
else
(f106 ((a.1.1.1,a.1.2.1,()),())).bind fun c=>
(f105 (((a.1.1.1,()),c.2.1,()),())).bind fun d=>
 some (((),d.1.2.1,()),(d.2.1.1,()),())
noncomputable def Xy:bb:=bf az Tryz.f61 i61 Wr [] f61
theorem amM:a_ ae 61 Xy:=bh aqr Tryz.func61 (by kernel_rfl) aB (fun y=>by kernel_rfl) fun a=>by kernel_rfl
noncomputable abbrev aqi:bD:=[(46,KG),(61,Xy),(62,KE)]
theorem aqy:bg ae (bu az aqi):=bB ⟨z46,amM,VY,⟨⟩⟩
abbrev i29:Shape:=⟨[dS 0 [bJ .pack],a8 1],[],16⟩
abbrev WC:Shape:=⟨[bj 4 4 0,aq 5],[bi 4 [bJ .pack]],16⟩
noncomputable def f29(a:i29.L):Option WC.L:=
(f46 (((a.1.1.1,()),()),())).bind fun b=>
 bif(!b.1.1) then
 some (((),(1:Int),()),(([]:List aI),()),())
else
(f62 (((a.1.1.1,()),()),())).bind fun c=>
(f61 (((c.2.1,()),a.1.2.1,()),())).bind fun d=>
 some (((),d.1.2.1,()),(d.2.1.1,()),())
noncomputable def XF:bb:=bf az Tryz.f29 i29 WC [] f29
theorem amS:a_ ae 29 XF:=bh aqy Tryz.func29 (by kernel_rfl) aB (fun y=>by kernel_rfl) fun a=>by kernel_rfl
theorem aa0(a)(k:Nat)(af:k<=1999999)(h:jI k a.1.1.1):f29 a=some (((),((jv a.1.1.1 a.1.2.1).2,())),(((jv a.1.1.1 a.1.2.1).1,()),())):=by
 obtain⟨⟨⟨F,ig⟩,name,u⟩,bv⟩:=a;have h:jI k F:=h;have hb:fb F:=h.mz (by omega)
 have hl:F.length<=1999999:=Nat.le_trans h.1 af;have gi:=N7 (((F,()),()),()) hb h.vs;have e1:=N3 (((F,()),()),()) hb;simp only[f29,gi,Option.bind_some,jv];cases hr:fp F with
 |false=>rfl
 |true=>
  simp only[Bool.not_true,cond_false,cond_true,e1,Option.bind_some,f61];rcases EI ((F,(name,())),()) (show F.length<=2097152 by omega) with⟨j,q,g1,g2,g3⟩|⟨g1,g2⟩
  ·have g3:F.find? (fun p=>p.name==name)=some q:=g3
   have hj:decide ((j:Int)<0)=false:=by simp only[decide_eq_false_iff_not];omega
   have hw:=AQ name h;have eu:=ZK ((F,(name,())),()) (show F.length<=2097152 by omega)
   have lG:=O5 (((F,()),(dZ F name,())),()) (hw.mz (by omega)) hw.vs
   simp only[g1,Option.bind_some,hj,cond_false,g3,eu,lG]
  ·have g2:F.find? (fun p=>p.name==name)=none:=g2
   have hj:decide ((-1:Int)<0)=true:=rfl;simp only[g1,Option.bind_some,hj,cond_true,g2]
theorem afi{k:Nat}{F:List aI}{n:J}(h:jI k F)(af:k<=2097152):fb (jv F n).1:=by
 have h0:=h.mz af;have h1:=(AQ n h).mz af;unfold jv;cases fp F with
 |false=>exact⟨Nat.zero_le _,fun p ag=>by cases ag⟩
 |true=>
  simp only[cond_true];cases F.find? (fun q=>q.name==n) with
  |none=>exact h0
  |some q=>
   simp only;cases fA (dZ F n)==0 with
   |false=>exact h0
   |true=>exact h1
noncomputable abbrev aqg:bD:=[(81,la),(83,SL)]
theorem aqw:bg ae (bu az aqg):=bB ⟨l2,ah0,⟨⟩⟩
abbrev i44:Shape:=⟨[a7 0 .u8],[],12⟩
abbrev WA:Shape:=⟨[bj 2 2 0,a8 3],[bi 2 [bJ .pack]],12⟩
noncomputable def f44(a:i44.L):Option WA.L:=
(BT (((),()),((a.1.1.take 2000),(0:Int),()),())).bind fun b=>
(ju (((),([([111,110,101]:J),([116,119,111]:J),([116,104,114,101,101]:J),([122,105,112]:J),([110,111,110,101]:J)]:List J),()),(b.2.1.1,b.2.1.2.1,()),())).bind fun c=>
 some (((),c.1.2.1,()),(b.2.2.1.1,()),())
noncomputable def XD:bb:=bf az Tryz.f44 i44 WA [] f44
theorem amQ:a_ ae 44 XD:=bh aqw Tryz.func44 (by kernel_rfl) aB (fun y=>by kernel_rfl) fun a=>by kernel_rfl
noncomputable abbrev aru:bD:=[(14,Dc),(23,XG),(29,XF),(30,XE),(44,XD),(45,XC),(46,KG),(47,XB),(48,Db)]
theorem sM:bg ae (bu az aru):=bB ⟨amU,amT,amS,amR,amQ,amP,z46,amO,Js,⟨⟩⟩
abbrev Qn:Shape:=⟨[bj 3 3 0,a8 4,bj 5 5 0,aq 6,bj 7 7 0,aq 8],[bi 3 [bJ .pack],(5000320,.deep .pack,.cell 5 0),bi 5 [.own 5000320],bi 7 [bJ .pack]],181⟩
abbrev Qh:List bk:=[(.norm,⟨[bj 3 3 0,a8 4,bj 5 5 0,aq 6,bj 7 7 0,aq 8,aQ 48],[bi 3 [bJ .pack],(5000320,.deep .pack,.cell 5 0),bi 5 [.own 5000320],bi 7 [bJ .pack]],181⟩)]
noncomputable def Bb(y:Qn.L):Option (aY Qh):=
 bif(!(y.1.2.2.2.1 !=y.1.2.2.2.2.2.1)) then
(f45 (((y.2.2.1,()),(y.2.2.2.2.1.1,()),()),())).bind fun a=>
 bif(!(!a.1.1)) then
(f46 (((y.2.1.1,()),()),())).bind fun b=>
 some (((),y.1.2.1,(),y.1.2.2.2.1,(),y.1.2.2.2.2.2.1,(!b.1.1),()),(y.2.1.1,()),y.2.2.1,((),()),(y.2.2.2.2.1.1,()),())
else
 some (((),y.1.2.1,(),y.1.2.2.2.1,(),y.1.2.2.2.2.2.1,true,()),(y.2.1.1,()),y.2.2.1,((),()),(y.2.2.2.2.1.1,()),())
else
 some (((),y.1.2.1,(),y.1.2.2.2.1,(),y.1.2.2.2.2.2.1,true,()),(y.2.1.1,()),y.2.2.1,((),()),(y.2.2.2.2.1.1,()),())
theorem agp:bq ae (aH (codeOf Tryz.f9) 1 252) (bE Qn Qh Bb):=dI sM (by kernel_rfl) aB fun y=>by kernel_rfl
abbrev LX:Shape:=⟨[bj 3 3 0,a8 4,bj 5 5 0,aQ 9,bS 10 3000640,aq 11,aq 12,bj 13 13 0,aQ 14],[bi 3 [bJ .pack],(5000320,.deep .pack,.cell 5 0),bi 5 [.own 5000320],b8 3000640 .entry 10 0,bi 13 [bC,bM,bM,bC]],181⟩
abbrev LR:List bk:=[(.norm,⟨[bj 3 3 0,a8 4,bj 5 5 0,aQ 9,bS 10 3000640,aq 11,aq 12,aQ 164],[bi 3 [bJ .pack],(5000320,.deep .pack,.cell 5 0),bi 5 [.own 5000320],b8 3000640 .entry 10 0],181⟩)]
noncomputable def DJ(y:LX.L):Option (aY LR):=
(bd y.2.1.1 y.1.2.2.2.2.2.1).bind fun a=>
 bif(!(a.name==y.1.2.1)) then
 bif(!y.1.2.2.2.2.2.2.2.2.1) then
 some (((),y.1.2.1,(),y.1.2.2.2.1,(),y.1.2.2.2.2.2.1,y.1.2.2.2.2.2.2.1,true,()),(y.2.1.1,()),y.2.2.1,((),()),y.2.2.2.2.1,())
else
(bd y.2.1.1 y.1.2.2.2.2.2.1).bind fun b=>
(bd b.bY y.1.2.2.2.2.2.2.1).bind fun c=>
 bif(!((y.2.2.2.2.2.1.1==c.path)&&((y.2.2.2.2.2.1.2.1==c.kind)&&((y.2.2.2.2.2.1.2.2.1==c.mode)&&(y.2.2.2.2.2.1.2.2.2.1==c.text))))) then
 some (((),y.1.2.1,(),y.1.2.2.2.1,(),y.1.2.2.2.2.2.1,y.1.2.2.2.2.2.2.1,true,()),(y.2.1.1,()),y.2.2.1,((),()),y.2.2.2.2.1,())
else
(bd y.2.1.1 y.1.2.2.2.2.2.1).bind fun d=>
 bif(d.name==y.1.2.1) then
 bif y.1.2.2.2.2.2.2.2.2.1 then
(bd y.2.1.1 y.1.2.2.2.2.2.1).bind fun e=>
(bd e.bY y.1.2.2.2.2.2.2.1).bind fun f=>
 some (((),y.1.2.1,(),y.1.2.2.2.1,(),y.1.2.2.2.2.2.1,y.1.2.2.2.2.2.2.1,(f.kind !=(1:Int)),()),(y.2.1.1,()),y.2.2.1,((),()),y.2.2.2.2.1,())
else
 some (((),y.1.2.1,(),y.1.2.2.2.1,(),y.1.2.2.2.2.2.1,y.1.2.2.2.2.2.2.1,false,()),(y.2.1.1,()),y.2.2.1,((),()),y.2.2.2.2.1,())
else
 some (((),y.1.2.1,(),y.1.2.2.2.1,(),y.1.2.2.2.2.2.1,y.1.2.2.2.2.2.2.1,false,()),(y.2.1.1,()),y.2.2.1,((),()),y.2.2.2.2.1,())
else
(bd y.2.1.1 y.1.2.2.2.2.2.1).bind fun g=>
 bif(g.name==y.1.2.1) then
 bif y.1.2.2.2.2.2.2.2.2.1 then
(bd y.2.1.1 y.1.2.2.2.2.2.1).bind fun h=>
(bd h.bY y.1.2.2.2.2.2.2.1).bind fun i=>
 some (((),y.1.2.1,(),y.1.2.2.2.1,(),y.1.2.2.2.2.2.1,y.1.2.2.2.2.2.2.1,(i.kind !=(1:Int)),()),(y.2.1.1,()),y.2.2.1,((),()),y.2.2.2.2.1,())
else
 some (((),y.1.2.1,(),y.1.2.2.2.1,(),y.1.2.2.2.2.2.1,y.1.2.2.2.2.2.2.1,false,()),(y.2.1.1,()),y.2.2.1,((),()),y.2.2.2.2.1,())
else
 some (((),y.1.2.1,(),y.1.2.2.2.1,(),y.1.2.2.2.2.2.1,y.1.2.2.2.2.2.2.1,false,()),(y.2.1.1,()),y.2.2.1,((),()),y.2.2.2.2.1,())
theorem Z5:bq ae (aH (dn (aH (dn (aH (codeOf Tryz.f9) 1 8186)) 16372 523922)) 1047844 33531026) (bE LX LR DJ):=dI sM (by kernel_rfl) aB fun y=>by kernel_rfl
abbrev yG:Shape:=⟨[bj 3 3 0,a8 4,bj 5 5 0,aQ 9,bS 10 3000640,aq 11,aq 12],[bi 3 [bJ .pack],(5000320,.deep .pack,.cell 5 0),bi 5 [.own 5000320],b8 3000640 .entry 10 0],181⟩
abbrev D6:List bk:=[(.ret,⟨[aQ 2],[],181⟩),(.exit 2,⟨[bj 3 3 0,a8 4,bj 5 5 0,aQ 9,bS 10 3000640,aq 11],[bi 3 [bJ .pack],(5000320,.deep .pack,.cell 5 0),bi 5 [.own 5000320],b8 3000640 .entry 10 0],181⟩)]
noncomputable def Ew(y:yG.L):cy yG D6:=
(bd y.2.1.1 y.1.2.2.2.2.2.1).bind fun a=>
 bif(decide (y.1.2.2.2.2.2.2.1<(a.bY.length:Int))) then
(bd y.2.1.1 y.1.2.2.2.2.2.1).bind fun b=>
(bd b.bY y.1.2.2.2.2.2.2.1).bind fun c=>
(f47 ((y.2.2.2.2.1,c.path,()),())).bind fun d=>
(DJ (((),y.1.2.1,(),y.1.2.2.2.1,(),y.1.2.2.2.2.2.1,y.1.2.2.2.2.2.2.1,(),d.1.2.1,()),(y.2.1.1,()),y.2.2.1,((),()),y.2.2.2.2.1,(d.2.1.1,d.2.1.2.1,d.2.1.2.2.1,d.2.1.2.2.2.1,()),())).bind fun e=>
 bif e.1.2.2.2.2.2.2.2.1 then
 some (.inr (.inl ((false,()),())))
else
 some (.inl (((),e.1.2.1,(),e.1.2.2.2.1,(),e.1.2.2.2.2.2.1,(IntKind.i64.wrap (e.1.2.2.2.2.2.2.1+(1:Int))),()),(e.2.1.1,()),e.2.2.1,((),()),e.2.2.2.2.1,()))
else
 some (.inr (.inr (((),y.1.2.1,(),y.1.2.2.2.1,(),y.1.2.2.2.2.2.1,()),(y.2.1.1,()),y.2.2.1,((),()),y.2.2.2.2.1,())))
noncomputable def Em:yG.L->Option (aY D6):=b7 Ew
theorem abr:bq ae (aH (dn (aH (codeOf Tryz.f9) 1 8186)) 16372 523922) (bE yG D6 Em):=cE sM (by kernel_rfl) (bN Z5 aB) fun y=>by kernel_rfl
abbrev zx:Shape:=⟨[bj 3 3 0,a8 4,bj 5 5 0,aQ 9,bS 10 3000640,aq 11],[bi 3 [bJ .pack],(5000320,.deep .pack,.cell 5 0),bi 5 [.own 5000320],b8 3000640 .entry 10 0],181⟩
abbrev Ft:List bk:=[(.ret,⟨[aQ 2],[],181⟩),(.exit 0,⟨[bj 3 3 0,bj 5 5 0,aQ 9],[bi 3 [bJ .pack],(5000320,.deep .pack,.cell 5 0),bi 5 [.own 5000320]],181⟩)]
noncomputable def GA(y:zx.L):cy zx Ft:=
 bif(decide (y.1.2.2.2.2.2.1<(y.2.1.1.length:Int))) then
(Em (((),y.1.2.1,(),y.1.2.2.2.1,(),y.1.2.2.2.2.2.1,(0:Int),()),(y.2.1.1,()),y.2.2.1,((),()),y.2.2.2.2.1,())).bind fun a=>
(match a with
|.inl b=>
 some (.inr (.inl ((b.1.1,()),())))
|.inr c=>
 some (.inl (((),c.1.2.1,(),c.1.2.2.2.1,(),(IntKind.i64.wrap (c.1.2.2.2.2.2.1+(1:Int))),()),(c.2.1.1,()),c.2.2.1,((),()),c.2.2.2.2.1,())))
else
 some (.inr (.inr (((),(),y.1.2.2.2.1,()),(y.2.1.1,()),y.2.2.1,((),()),())))
noncomputable def F9:zx.L->Option (aY Ft):=b7 GA
theorem aet:bq ae (aH (codeOf Tryz.f9) 1 8186) (bE zx Ft F9):=cE sM (by kernel_rfl) (bN abr aB) fun y=>by kernel_rfl
abbrev i9:Shape:=⟨[a7 0 .u8],[],181⟩
abbrev X2:Shape:=⟨[aQ 2],[],181⟩
noncomputable def f9(a:i9.L):Option X2.L:=
 bif(decide ((a.1.1.length:Int)>(1048576:Int))) then
 some ((true,()),())
else
(f44 ((a.1.1,()),())).bind fun b=>
(f30 (((b.2.1.1,()),b.1.2.1,()),())).bind fun c=>
(f29 (((b.2.1.1,()),b.1.2.1,()),())).bind fun d=>
(Bb (((),b.1.2.1,(),c.1.2.1,(),d.1.2.1,()),(b.2.1.1,()),c.2.1,((),()),(d.2.1.1,()),())).bind fun e=>
 bif e.1.2.2.2.2.2.2.1 then
 bif(e.1.2.2.2.1==e.1.2.2.2.2.2.1) then
(f45 (((e.2.2.1,()),(e.2.2.2.2.1.1,()),()),())).bind fun f=>
 some ((f.1.1,()),())
else
 some ((false,()),())
else
(f23 ((e.2.1.1,e.1.2.1,()),())).bind fun g=>
 bif(e.1.2.2.2.1 !=(0:Int)) then
(f45 (((e.2.2.1,()),(e.2.1.1,()),()),())).bind fun h=>
 bif h.1.1 then
 bif(!(e.1.2.2.2.1==(3:Int))) then
 bif(e.1.2.2.2.1==(4:Int)) then
 some (((decide ((g.2.1.length:Int)>(0:Int))),()),())
else
 some ((false,()),())
else
 some ((true,()),())
else
 some ((false,()),())
else
(f14 (((e.2.2.1,()),()),())).bind fun i=>
(F9 (((),e.1.2.1,(),(decide ((g.2.1.length:Int)>(0:Int))),(),(0:Int),()),(e.2.1.1,()),e.2.2.1,((),()),i.2.1,())).bind fun j=>
(match j with
|.inl k=>
 some ((k.1.1,()),())
|.inr l=>
(f48 (((l.2.2.1,()),()),())).bind fun m=>
 bif m.1.1 then
 bif(!l.1.2.2.1) then
 some ((((IntKind.i64.wrap ((l.2.2.1.length:Int)+(1:Int)))==(l.2.1.1.length:Int)),()),())
else
 some ((false,()),())
else
 some ((false,()),()))
noncomputable def qP:bb:=bf az Tryz.f9 i9 X2 [] f9
theorem z9:a_ ae 9 qP:=bh sM Tryz.func9 (by kernel_rfl) (bN agp (bN aet aB)) (fun y=>by kernel_rfl) fun a=>by kernel_rfl
theorem afl{F:List aI}{n s:J}(h:jo F n s):∃p,p∈F/\p.name≠n/\∃d,d∈p.bI/\d.name=n:=by
 induction h with
 |mk p ag hn d Z h=>exact⟨p,ag,hn,d,Z,h⟩
 |xY p ag hn d Z _ ih=>exact ih
theorem acs{F:List aI}(hr:fp F=true)(n:J):(eM [] (dZ F n)).isSome=true:=by
 have aT:=Fp n (qZ hr);obtain⟨t,R⟩:=wx hr;have JJ:∀q,q∈dZ F n->∀e,e∈q.bY->e∈t:=fun q ao e he=>(vx R.bY e).2 (.inr ⟨q,(lY.1 ao).1,he⟩)
 refine aa3 _ [] t (by rfl) (fun q ao=>(R.Dh (lY.1 ao).1).2) ?_ (fun q _ e _ y al=>by cases al) (jN R.ok) (qV R.ok) (fun e he=>by cases he) JJ
 refine List.Pairwise.imp_of_mem ?_ aT;intro p q ag ao a' e he y al mg;have mh:y=e:=by
  have g1:=(jO (jN R.ok)).2 ⟨JJ p ag y al,mg⟩;have g2:=(jO (jN R.ok)).2 ⟨JJ q ao e he,rfl⟩;rw[g1] at g2;exact Option.some.inj g2
 have hne:p.name≠q.name:=fun h=>by rw[h,ku] at a';cases a'
 have mj:=(lY.1 ag).1;have lq:=(lY.1 ao).1;have g1:=(jO (R.sD mj)).2 ⟨al,mg⟩;have g2:=(jO (R.sD lq)).2 ⟨he,rfl⟩;exact⟨mh,R.dir (R.up lq g2) (P4 mj lq hne (by rw[g1];rfl) (by rw[g2];rfl))⟩
theorem acu{F:List aI}(hr:fp F=true)(n:J):(dZ F n).all (fun p=>p.bI.all (f_ (dZ F n)))=true <-> ∀s,¬jo F n s:=by
 have aT:=Fp n (qZ hr);obtain⟨h1,h2,ab⟩:=DR hr;constructor
 ·intro h s M;obtain⟨p,ag,sf,d,Z,ka⟩:=afl M;obtain⟨q,q1,_⟩:=ON (List.all_eq_true.1 (List.all_eq_true.1 h p (lY.2 ⟨ag,sf⟩)) d Z);obtain⟨q2,dG⟩:=(GN aT).1 q1;exact(lY.1 q2).2 (dG.trans ka)
 ·intro h;rw[List.all_eq_true];intro p ag;obtain⟨ob,uP⟩:=lY.1 ag;rw[List.all_eq_true];intro d Z;obtain⟨q,q1,q2⟩:=ON (List.all_eq_true.1 (List.all_eq_true.1 h2 p ob) d Z);obtain⟨dG,mw⟩:=(GN (qZ hr)).1 q1;have ka:d.name≠n:=fun e=>h _ (.mk p ob uP d Z e)
  rw[adx ((GN aT).2 ⟨lY.2 ⟨dG,fun e=>ka (mw.symm.trans e)⟩,mw⟩)]
  exact q2
theorem aeg{F:List aI}(hr:fp F=true)(n:J):fA (dZ F n)=bif decide (((kA F n).length:Int)>0) then 4 else 0:=by
 obtain⟨h1,h2,ab⟩:=DR hr;have g1:(dZ F n).all dV=true:=by
  rw[List.all_eq_true];exact fun q ao=>List.all_eq_true.1 h1 q (lY.1 ao).1
 have g2:decide ((dZ F n).length<=5)=true:=by
  have:(dZ F n).length<=F.length:=List.filter_sublist.length_le;have:=Mw hr;simp;omega
 have g3:(dZ F n).all (fun p=>p.bI.all (f_ (dZ F n)))=!decide (((kA F n).length:Int)>0):=by
  rw[Bool.eq_iff_iff,acu hr n];simp only[Bool.not_eq_true',decide_eq_false_iff_not];constructor
  ·intro h hl;have:0<(kA F n).length:=by omega
   obtain⟨s,M⟩:=List.exists_mem_of_length_pos this;exact h s ((E0 (L2 hr) s).1 M)
  ·intro h s M;have:=List.length_pos_of_mem ((E0 (L2 hr) s).2 M);omega
 unfold fA;rw[g1,afQ (Fp n (qZ hr)),g2,g3,acs hr n];cases decide (((kA F n).length:Int)>0)<;>rfl
theorem agj{F:List aI}(aT:mb F){n:J}{q:aI}(ao:F.find? (fun q=>q.name==n)=some q):(dZ F n).length+1=F.length:=by
 have hf:=OX aT n;cases bW:mY F n with
 |false=>rw[bW,ao] at hf;cases hf
 |true=>
  rw[bW,ao,cond_true] at hf;have a':=ct hf.symm;rw[<-O4 aT bW,List.length_append,List.length_take,List.length_drop];omega
theorem YO(a)(h:c8 (a.1.1.take 2000) 0 1000000):ad (f44 a) (fun r=>kQ 5 r.2.1.1):=by
 unfold f44;refine ad.bind (Y' _ 1000000 h (by decide)) fun r1 h1=>?_
 refine ad.bind (ld _ _ h1.1 (by decide) (by simp)) fun r2 h2=>?_
 exact ad.ret h1.2
theorem acy{F:List aI}(hb:fb F)(hr:fp F=true)(n:J)(b:Bool){t:List aR}(qR:oy (dZ F n) t)(pv:jD t):F9 (((),(n,((),(b,((),((0:Int),())))))),((F,()),(dZ F n,(((),()),(t,())))))=
  some (.inr (((),((),(b,()))),((F,()),(dZ F n,(((),()),()))))):=by
 have hl:F.length<=2097152:=hb.1;obtain⟨T,R⟩:=wx hr;have inner:∀(i:Nat) (p:aI),F[i]? =some p->Em (((),(n,((),(b,((),((i:Int),((0:Int),()))))))),((F,()),(dZ F n,(((),()),(t,())))))=
   some (.inr (((),(n,((),(b,((),((i:Int),())))))),((F,()),(dZ F n,(((),()),(t,())))))):=by
  intro i p hi;have ag:=List.mem_of_getElem? hi;have aod:p.bY.length<=2097152:=(hb.2 p ag).2.2.2.1;refine PI (fun j=>(((),(n,((),(b,((),((i:Int),(((j:Nat):Int),()))))))),((F,()),(dZ F n,(((),()),(t,())))))) p.bY.length (fun j hj=>?_) ?_ _ 0 (Nat.zero_add _)
  ·have he:p.bY[j]? =some p.bY[j]:=List.getElem?_eq_getElem hj;generalize p.bY[j]=e at he;have W3:=List.mem_of_getElem? he;have hw:aM j:=by unfold aM;omega
   have Yh:=aaZ ((t,(e.path,())),()) pv;simp only[qR.ok,Bool.true_and,cond_true] at Yh;simp only[Ew,cc,hi,Option.bind_some,cF hj,cond_true,he,Yh,DJ];cases hn:(p.name==n) with
   |false=>
    have hne:p.name≠n:=by simpa using hn
    have CQ:=lY.2 ⟨ag,hne⟩;have hg:=qR.up CQ ((jO (qR.sD CQ)).2 ⟨W3,rfl⟩);simp only[hg,Option.isSome_some,Bool.not_false,Bool.not_true,cond_true,cond_false,beq_self_eq_true,Bool.and_self,Option.bind_some,cl hw]
   |true=>
    have sf:p.name=n:=eq_of_beq hn;cases hg:fu t e.path with
    |none=>simp only[Option.isSome_none,Bool.not_true,cond_true,cond_false,Option.bind_some,cl hw]
    |some bK=>
     obtain⟨q,ao,aoj⟩:=qR.down hg;obtain⟨WR,aok⟩:=lY.1 ao;have g1:=(jO (R.sD ag)).2 ⟨W3,rfl⟩;have af:e.kind=1:=R.dir (R.up ag g1) (P4 ag WR (by rw[sf];exact fun e=>aok e.symm) (by rw[g1];rfl) (by rw[aoj];rfl))
     simp only[Option.isSome_some,Bool.not_true,cond_true,cond_false,Option.bind_some,af,bne_self_eq_false,cl hw]
  ·simp only[Ew,cc,hi,Option.bind_some,dQ,cond_false]
 refine PI (fun i=>(((),(n,((),(b,((),(((i:Nat):Int),())))))),((F,()),(dZ F n,(((),()),(t,())))))) F.length (fun i hi=>?_) ?_ _ 0 (Nat.zero_add _)
 ·have hx:F[i]? =some F[i]:=List.getElem?_eq_getElem hi;have hw:aM i:=by unfold aM;omega
  simp only[GA,cF hi,cond_true,inner i _ hx,Option.bind_some,cl hw]
 ·simp only[GA,dQ,cond_false]
theorem ZQ(a)(h:∀x,x∈(a.1.1:List Int)->0<=x/\x<=255):ad (f9 a) (fun r=>r.1.1=true):=by
 unfold f9;refine ad.ite (fun _=>ad.ret rfl) fun _=>?_
 refine ad.bind (YO _ (aes h)) fun r hr=>?_
 obtain⟨⟨ig,(n:J),u1⟩,⟨⟨(F:List aI),u2⟩,x7⟩⟩:=r;have hr:kQ 5 F:=hr;have hb:=hr.ok.mz (by decide)
 have hv:=hr.ok.vs;have hl:F.length<=5:=hr.1;have e1:=_y (((F,()),(n,())),()) 5 (by decide) hr.ok
 have e2:=aa0 (((F,()),(n,())),()) 5 (by decide) hr.ok
 have b0:=N7 (((F,()),()),()) hb hv;have oh:=afi (n:=n) hr.ok (by decide)
 have Yg:=N6 ((((jv F n).1,()),(((jv F n).1,()),())),()) rfl oh;refine ad.eq e1 (ad.eq e2 ?_);cases af:fp F with
 |false=>
  simp only[af] at b0;simp only[Bb,bne_self_eq_false,Bool.not_false,cond_true,Yg,Option.bind_some,Bool.not_true,b0,beq_self_eq_true];exact ad.ret rfl
 |true=>
  simp only[af] at b0;have fI:=_z ((F,(n,())),()) hb (show F.length<=2000000 by omega)
  simp only[Bb,bne_self_eq_false,Bool.not_false,cond_true,Yg,Option.bind_some,Bool.not_true,b0,cond_false,fI];have Yf:=N6 (((F,()),((F,()),())),()) rfl hb;cases hf:F.find? (fun q=>q.name==n) with
  |none=>
   have ap:jv F n=(F,3):=by unfold jv;rw[af,hf];rfl
   simp only[ap,Yf,Option.bind_some,show((3:Int) !=0)=true from rfl,cond_true,beq_self_eq_true,Bool.not_true,cond_false]
   exact ad.ret rfl
  |some q=>
   have hc:=aeg af n;cases hn:decide (((kA F n).length:Int)>0) with
   |true=>
    rw[hn,cond_true] at hc;have ap:jv F n=(F,4):=by unfold jv;rw[af,hf,hc];rfl
    simp only[ap,Yf,Option.bind_some,show((4:Int) !=0)=true from rfl,cond_true,show((4:Int)==3)=false from rfl,Bool.not_false,beq_self_eq_true,hn]
    exact ad.ret rfl
   |false=>
    rw[hn,cond_false] at hc;have ap:jv F n=(dZ F n,0):=by unfold jv;rw[af,hf,hc];rfl
    have sj:fp (dZ F n)=true:=by rw[L3,hc];rfl
    obtain⟨t,qR⟩:=wx sj;have hw:=AQ n hr.ok;have Kd:=hw.mz (by decide)
    have pv:=aen Kd qR;have aZ:(eM [] (dZ F n)).getD []=t:=by rw[qR.bY];rfl
    have lG:=ZN (((dZ F n,()),()),()) Kd hw.vs;simp only[sj,cond_true,aZ] at lG;have vf:=D5 (((dZ F n,()),()),()) Kd hw.vs;simp only[sj] at vf;have hlen:=agj (qZ af) hf;have xr:aM (dZ F n).length:=by unfold aM;omega
    simp only[ap,show((0:Int) !=0)=false from rfl,cond_false,lG,Option.bind_some,hn,acy hb af n false qR pv,vf,cond_true,Bool.not_false,cl xr,hlen,beq_self_eq_true]
    exact ad.ret rfl
theorem pure_FnRootOut:LawOk qP [(false,[.sl .u8])]:=by
 rintro⟨⟨code,u⟩,bv⟩ ⟨h,_⟩;obtain⟨r,hr,ao⟩:=ZQ ((code,()),()) (acw (h (.sl .u8 code) (by simp[fO,dO.mk])))
 obtain⟨⟨b,v⟩,v'⟩:=r;have ao:b=true:=ao;subst ao;exact⟨((true,()),()),hr,rfl⟩
end Go.Proofs
