/- Needers is the inverse of Closure: of drawn packs, and a name, who needs it has it in its closure, nobody else does, and the two Needers agree. (part 5 of 6: JnQPuCa, JnQF82v0, JnQPuCb, JnQF58, JnQF42, JnQPuCc, JnQF105, JnQF107, JnQF115, JnQF71, JnQF133v0, JnQF62, JnQF83v0, JnQPuR, JnQF47, JnQPuN, JnQF14, JnQPuS, JnQF191, JnQPuT, JnQF109, JnQF108v0, JnQF17) Conditions: none beyond the statement. -/
import Derived.Test.YthllakklnccioaaGreatDoorZFnNeeders3
import Derived.Tactics
import Derived.Deep.RegionLaw
import Derived.Shelf.Abstract
import Derived.Test.YthllakklnccioaaGreatDoorProg
import Derived.KernelRfl
import Derived.Shelf.Sort.Plain
import Derived.Shelf.Slices.In.SortNone
set_option maxRecDepth 100000
set_option linter.unusedVariables false
set_option linter.unusedSimpArgs false
namespace Go.Proofs
open Go.Jk
theorem Zc(a)(H:a.1.1.length<=2097152):f100 a=some ((a.1.1.contains a.1.2.1,()),()):=by
 obtain⟨⟨xs,s,u⟩,bS⟩:=a;have H:xs.length<=2097152:=H;have key:Dl ((xs,(s,((0:Int),()))),())=some (bif allI (fun _ x=>!(x==s)) 0 xs then .inr ((),()) else .inl ((true,()),())):=by
  refine ig yj xs (fun i=>((xs,(s,((i:Int),()))),())) _ _ _ (fun i x hx=>?_) ?_
  ·have am:=dh hx;have hw:aW i:=by unfold aW;omega
   simp only[yj,c_ am,cond_true,cF,hx,Option.bind_some,c2 hw];cases (x==s)<;>rfl
  ·simp only[yj,eT,cond_false]
 rw[ij,DD] at key;simp only[f100,key,Option.bind_some];cases xs.contains s<;>rfl
def eV(ps:List a6):Int:=bif ps.all fz then(bif e9 [] (ps.map (·.name)) then 2 else 0) else 1
theorem V9(a)(hb:kO a.1.1):f55 a=some ((eV a.1.1,()),()):=by
 obtain⟨⟨ps,u⟩,bS⟩:=a;have hl:ps.length<=2097152:=hb.1;have key:∀(r:List a6) (k:Nat) (cH:List E),ps.drop k=r->k<=ps.length->cH.length=k->
   yQ ((ps,((),((k:Int),()))),(cH,()))=some (bif r.all fz then .inr (((),()),(cH++r.map (·.name),())) else .inl (((1:Int),()),())):=by
  intro r;induction r with
  |nil=>
   intro k cH hr ak bm;have:=drop_nil hr;have d1:decide ((k:Int)<(ps.length:Int))=false:=by simp only[decide_eq_false_iff_not];omega
   refine eU ?_
   simp only[yZ,d1,cond_false,List.all_nil,cond_true,List.map_nil,List.append_nil]
  |cons q r ih=>
   intro k cH hr ak bm;obtain⟨bD,bM,cv⟩:=drop_cons hr;have hw:aW k:=by unfold aW;omega
   have ai:=XJ (((q.name,(q.cK,(q.b_,(q.ei,())))),()),()) (hb.2 q (List.mem_of_getElem? bD));have adX:cT 16 cH [q.name]=some (cH++[q.name]):=fT (by decide) (by unfold aW;simp;omega)
   have step:yZ ((ps,((),((k:Int),()))),(cH,()))=some (bif fz q then .inl ((ps,((),(((k+1:Nat):Int),()))),(cH++[q.name],())) else .inr (.inl (((1:Int),()),()))):=by
    simp only[yZ,c_ cv,cond_true,cF,bD,Option.bind_some,ai,adX,c2 hw];cases fz q<;>rfl
   rw[List.all_cons];cases aA:fz q with
   |false=>
    rw[aA,cond_false] at step;refine(eU step).trans ?_
    simp only[Bool.false_and,cond_false]
   |true=>
    rw[aA,cond_true] at step;refine(hj step).trans ((ih (k+1) (cH++[q.name]) bM cv (by simp[bm])).trans ?_)
    simp only[Bool.true_and,List.map_cons,List.append_assoc,List.singleton_append]
 have key:=key ps 0 [] rfl (Nat.zero_le _) rfl;have key:yQ ((ps,((),((0:Int),()))),(([]:List E),()))=_:=key;have aC:=IE ((ps.map (·.name),()),()) (by show(ps.map (·.name)).length<=2097152;rw[List.length_map];exact hl)
 simp only[f55,key,Option.bind_some,eV,List.nil_append];cases ps.all fz with
 |false=>rfl
 |true=>
  simp only[cond_true,aC,Option.bind_some];cases e9 [] (ps.map (·.name))<;>rfl
def iU(rec:E->List E->Sum (List E) Int)(ps:List a6):List dq->List E->Sum (List E) Int
 |[],out=>.inl out
 |n::r,out=>match ps.find? (fun q=>q.name==n.name) with
  |none=>.inr 3
  |some q=>bif l4 n q.cK then(match rec n.name out with
   |.inl D=>iU rec ps r D
   |.inr c=>.inr c) else .inr 3
def clo(ps:List a6):Nat->List E->E->List E->Sum (List E) Int
 |0,_,_,_=>.inr 4
 |m+1,op,name,out=>bif out.contains name then .inl out else match ps.find? (fun q=>q.name==name) with
  |none=>.inr 3
  |some p=>bif op.contains name then .inr 4 else match iU (clo ps m (op++[name])) ps p.b_ out with
   |.inl D=>.inl (D++[name])
   |.inr c=>.inr c
def gZ(ps:List a6)(l:List E):Prop:=l.Nodup/\∀s,s∈l->∃q,ps.find? (fun q=>q.name==s)=some q
theorem tH:∀(l L:List E),l.Nodup->(∀x,x∈l->x∈L)->l.length<=L.length:=by
 intro l;induction l with
 |nil=>intro L _ _;exact Nat.zero_le _
 |cons x l ih=>
  intro L hn h;obtain⟨h1,h2⟩:=List.nodup_cons.1 hn;have hx:=h x List.mem_cons_self;have:=ih (L.erase x) h2 (fun y an=>(List.mem_erase_of_ne (fun e=>by subst e;exact h1 an)).2 (h y (List.mem_cons_of_mem _ an)))
  rw[List.length_erase_of_mem hx] at this;have:=List.length_pos_of_mem hx;simp only[List.length_cons];omega
theorem gZ.len{ps:List a6}{l:List E}(h:gZ ps l):l.length<=ps.length:=by
 have:=tH l (ps.map (·.name)) h.1 (fun s H=>by
  obtain⟨q,aA⟩:=h.2 s H;have h1:=List.mem_of_find?_eq_some aA;have h2:q.name=s:=by have:=List.find?_some aA;simpa using this
  exact List.mem_map.2 ⟨q,h1,h2⟩)
 simpa using this
theorem gZ.add{ps:List a6}{l:List E}{s:E}{q:a6}(h:gZ ps l)(H:l.contains s=false)(aA:ps.find? (fun q=>q.name==s)=some q):gZ ps (l++[s]):=by
 have hn:s∉l:=by simpa using H
 refine⟨?_,fun x hx=>?_⟩
 ·rw[List.nodup_append];refine⟨h.1,by simp,fun a bm b hb=>?_⟩
  rw[List.mem_singleton.1 hb];exact fun e=>hn (e▸bm)
 ·rcases List.mem_append.1 hx with hx|hx
  ·exact h.2 x hx
  ·rw[List.mem_singleton.1 hx];exact⟨q,aA⟩
theorem gZ.nil(ps:List a6):gZ ps []:=⟨List.nodup_nil,fun s h=>by cases h⟩
def nl(op out:List E):Prop:=∀s,s∈op->s∉out
theorem YP{n:Nat}(h:n<=1000001):n<=iR:=by unfold iR;omega
def j4(ps:List a6)(m:Nat):List E->List E->Sum (List E) Int
 |[],out=>.inl out
 |n::r,out=>match clo ps m [] n out with
  |.inl D=>j4 ps m r D
  |.inr c=>.inr c
def kB(ps:List a6)(names:List E):List E×Int:=bif eV ps==0 then(match j4 ps (ps.length+1) names [] with
 |.inl D=>(D,0)
 |.inr c=>([],c)) else([],eV ps)
abbrev iP:Shape:=⟨[bx 0 500000 0,aQ 1],[ep 37000002 .i64 500000 2,ep 37000003 .str 500000 3,bI 500000 [cm .pack,.d (.map .i64),.own 37000002,.own 37000003]],104⟩
abbrev iO:Shape:=⟨[bx 0 500000 0,ar 4],[ep 37000002 .i64 500000 2,ep 37000003 .str 500000 3,bI 500000 [cm .pack,.d (.map .i64),.own 37000002,.own 37000003]],104⟩
noncomputable def uq(aB:iP.G->Option iO.G):bg:=bq aH Tryz.f82 iP iO [0] aB
noncomputable abbrev acg(aB:iP.G->Option iO.G):bZ:=[(82,(uq aB)),(132,Qn)]
theorem EF(aB:iP.G->Option iO.G)(dm:bc ah 82 (uq aB)):bz ah (bX aH (acg aB)):=bV ⟨dm,acU,⟨⟩⟩
abbrev Ht:Shape:=⟨[bx 0 500000 0,aQ 1,ar 5,bx 8 8 0,ar 9,aV 10,aX 47 .need,ar 48,ar 49,bx 54 500000 0,bx 55 500000 0,bx 56 500000 1,(57,.aq (.d (.map .i64))),bx 58 8 0,aQ 59,ar 61,aV 62],[ep 37000002 .i64 500000 2,ep 37000003 .str 500000 3,bI 500000 [cm .pack,.d (.map .i64),.own 37000002,.own 37000003],bI 8 [bW,bQ,bW]],104⟩
abbrev Hs:List bh:=[(.norm,⟨[bx 0 500000 0,aQ 1,ar 5,bx 8 8 0,ar 9,aV 10,aX 47 .need,ar 48,ar 49,bx 54 500000 0,bx 55 500000 0,bx 56 500000 1,(57,.aq (.d (.map .i64))),bx 58 8 0,aQ 59,ar 61,aV 62,aV 63,aV 64,aV 65,aV 79],[ep 37000002 .i64 500000 2,ep 37000003 .str 500000 3,bI 500000 [cm .pack,.d (.map .i64),.own 37000002,.own 37000003],bI 8 [bW,bQ,bW]],104⟩)]
noncomputable def q9(aB:iP.G->Option iO.G)(y:Ht.G):Option (a_ Hs):=
 bif(!y.1.2.2.2.2.2.1) then
 some (((),y.1.2.1,y.1.2.2.1,(),y.1.2.2.2.2.1,y.1.2.2.2.2.2.1,y.1.2.2.2.2.2.2.1,y.1.2.2.2.2.2.2.2.1,y.1.2.2.2.2.2.2.2.2.1,(),(),(),y.1.2.2.2.2.2.2.2.2.2.2.2.2.1,(),y.1.2.2.2.2.2.2.2.2.2.2.2.2.2.2.1,y.1.2.2.2.2.2.2.2.2.2.2.2.2.2.2.2.1,y.1.2.2.2.2.2.2.2.2.2.2.2.2.2.2.2.2.1,y.1.2.2.2.2.2.1,(!y.1.2.2.2.2.2.1),true,true,()),y.2.1,y.2.2.1,(y.2.2.2.1.1,y.2.2.2.1.2.1,(),(),()),(y.2.2.2.2.1.1,y.2.2.2.2.1.2.1,y.2.2.2.2.1.2.2.1,()),())
else
(bd y.2.2.2.1.1 y.1.2.2.2.2.1).bind fun a=>
(f132 (((y.2.2.2.2.1.1,y.2.2.2.2.1.2.1,y.2.2.2.2.1.2.2.1,()),y.2.2.2.2.1.1,a.cK,()),())).bind fun b=>
 some (((),y.1.2.1,y.1.2.2.1,(),y.1.2.2.2.2.1,y.1.2.2.2.2.2.1,y.1.2.2.2.2.2.2.1,y.1.2.2.2.2.2.2.2.1,y.1.2.2.2.2.2.2.2.2.1,(),(),(),y.1.2.2.2.2.2.2.2.2.2.2.2.2.1,(),y.1.2.2.2.2.2.2.2.2.2.2.2.2.2.2.1,y.1.2.2.2.2.2.2.2.2.2.2.2.2.2.2.2.1,y.1.2.2.2.2.2.2.2.2.2.2.2.2.2.2.2.2.1,y.1.2.2.2.2.2.1,(!y.1.2.2.2.2.2.1),false,(!b.1.1),()),y.2.1,y.2.2.1,(y.2.2.2.1.1,y.2.2.2.1.2.1,(),(),()),(y.2.2.2.2.1.1,y.2.2.2.2.1.2.1,y.2.2.2.2.1.2.2.1,()),())
theorem TT(aB:iP.G->Option iO.G)(dm:bc ah 82 (uq aB)):bo ah (aO (dT (aO (codeOf Tryz.f82) 1 506)) 1012 259276) (bE Ht Hs (q9 aB)):=dD (EF aB dm) (by kernel_rfl) aE fun y=>by kernel_rfl
abbrev wK:Shape:=⟨[bx 0 500000 0,aQ 1,ar 5,aX 47 .need,ar 48,ar 49],[ep 37000002 .i64 500000 2,ep 37000003 .str 500000 3,bI 500000 [cm .pack,.d (.map .i64),.own 37000002,.own 37000003]],104⟩
abbrev Bu:List bh:=[(.ret,⟨[bx 0 500000 0,ar 4],[ep 37000002 .i64 500000 2,ep 37000003 .str 500000 3,bI 500000 [cm .pack,.d (.map .i64),.own 37000002,.own 37000003]],104⟩),(.exit 1,⟨[bx 0 500000 0,aQ 1,ar 5],[ep 37000002 .i64 500000 2,ep 37000003 .str 500000 3,bI 500000 [cm .pack,.d (.map .i64),.own 37000002,.own 37000003]],104⟩)]
noncomputable def pM(aB:iP.G->Option iO.G)(y:wK.G):cJ wK Bu:=
 bif(decide (y.1.2.2.2.2.2.1<y.1.2.2.2.2.1)) then
(bd y.1.2.2.2.1 y.1.2.2.2.2.2.1).bind fun a=>
((q9 aB) (((),y.1.2.1,y.1.2.2.1,(),((cU y.2.2.2.1.2.1 a.name).getD (0:Int)),(cU y.2.2.2.1.2.1 a.name).isSome,y.1.2.2.2.1,y.1.2.2.2.2.1,y.1.2.2.2.2.2.1,(),(),(),y.2.2.2.1.2.1,(),a.name,((cU y.2.2.2.1.2.1 a.name).getD (0:Int)),(cU y.2.2.2.1.2.1 a.name).isSome,()),y.2.1,y.2.2.1,(y.2.2.2.1.1,y.2.2.2.1.2.1,(),(),()),(a.name,a.kind,a.cK,()),())).bind fun b=>
 bif b.1.2.2.2.2.2.2.2.2.2.2.2.2.2.2.2.2.2.2.2.2.1 then
 some (.inr (.inl (((),(3:Int),()),b.2.1,b.2.2.1,(b.2.2.2.1.1,b.2.2.2.1.2.1,(),(),()),())))
else
(aB (((),b.2.2.2.2.1.1,()),b.2.1,b.2.2.1,(b.2.2.2.1.1,b.2.2.2.1.2.1,(),(),()),())).bind fun c=>
 bif(c.1.2.1 !=(0:Int)) then
 some (.inr (.inl (((),c.1.2.1,()),c.2.1,c.2.2.1,(c.2.2.2.1.1,c.2.2.2.1.2.1,(),(),()),())))
else
 some (.inl (((),b.1.2.1,b.1.2.2.1,b.1.2.2.2.2.2.2.1,b.1.2.2.2.2.2.2.2.1,(IntKind.i64.wrap (b.1.2.2.2.2.2.2.2.2.1+(1:Int))),()),c.2.1,c.2.2.1,(c.2.2.2.1.1,c.2.2.2.1.2.1,(),(),()),()))
else
 some (.inr (.inr (((),y.1.2.1,y.1.2.2.1,()),y.2.1,y.2.2.1,(y.2.2.2.1.1,y.2.2.2.1.2.1,(),(),()),())))
noncomputable def pL(aB:iP.G->Option iO.G):wK.G->Option (a_ Bu):=b8 (pM aB)
theorem WL(aB:iP.G->Option iO.G)(dm:bc ah 82 (uq aB)):bo ah (aO (codeOf Tryz.f82) 1 506) (bE wK Bu (pL aB)):=cQ (EF aB dm) (by kernel_rfl) (bJ (TT aB dm) aE) fun y=>by kernel_rfl
noncomputable def j2(aB:iP.G->Option iO.G)(a:iP.G):Option iO.G:=
 bif(!((cU a.2.2.2.1.2.1 a.1.2.1).isSome)) then
 some (((),(3:Int),()),a.2.1,a.2.2.1,(a.2.2.2.1.1,a.2.2.2.1.2.1,(),(),()),())
else
(hy a.2.1.length ((cU a.2.2.2.1.2.1 a.1.2.1).getD (0:Int))).bind fun b=>
(a.2.1[b]?).bind fun c=>
 bif(c==(2:Int)) then
 some (((),(0:Int),()),a.2.1,a.2.2.1,(a.2.2.2.1.1,a.2.2.2.1.2.1,(),(),()),())
else
 bif(c==(1:Int)) then
 some (((),(4:Int),()),a.2.1,a.2.2.1,(a.2.2.2.1.1,a.2.2.2.1.2.1,(),(),()),())
else
(hy a.2.1.length ((cU a.2.2.2.1.2.1 a.1.2.1).getD (0:Int))).bind fun d=>
((a.2.1[d]?).bind fun q=>some (1:Int)).bind fun e=>
(bd a.2.2.2.1.1 ((cU a.2.2.2.1.2.1 a.1.2.1).getD (0:Int))).bind fun f=>
((pL aB) (((),a.1.2.1,((cU a.2.2.2.1.2.1 a.1.2.1).getD (0:Int)),f.b_,(f.b_.length:Int),(0:Int),()),(a.2.1.set d e),a.2.2.1,(a.2.2.2.1.1,a.2.2.2.1.2.1,(),(),()),())).bind fun g=>
(match g with
|.inl h=>
 some (((),h.1.2.1,()),h.2.1,h.2.2.1,(h.2.2.2.1.1,h.2.2.2.1.2.1,(),(),()),())
|.inr i=>
(hy i.2.1.length i.1.2.2.1).bind fun j=>
((i.2.1[j]?).bind fun q=>some (2:Int)).bind fun k=>
(cT 16 i.2.2.1 ([i.1.2.1]:List E)).bind fun l=>
 some (((),(0:Int),()),(i.2.1.set j k),l,(i.2.2.2.1.1,i.2.2.2.1.2.1,(),(),()),()))
theorem _O(aB:iP.G->Option iO.G)(dm:bc ah 82 (uq aB)):bc ah 82 (bq aH Tryz.f82 iP iO [0] (j2 aB)):=bB (EF aB dm) Tryz.func82 (by kernel_rfl) (bJ (WL aB dm) aE) (fun y=>by kernel_rfl) fun a=>by kernel_rfl
noncomputable def zx:iP.G->Option iO.G:=hZ j2 iR
noncomputable def NV:bg:=bq aH Tryz.f82 iP iO [0] zx
theorem abr:bc ah 82 NV:=yJ (ff:=j2) _O iR
structure vY(ps:List a6)(es:List (E×Int)):Prop where
 hit:∀n q,ps.find? (fun q=>q.name==n)=some q->∃k:Nat,ps[k]? =some q/\q.name=n/\cU es n=some (k:Int)
 Pe:∀n,ps.find? (fun q=>q.name==n)=none->cU es n=none
 qp:∀(i j:Nat) (p q:a6),ps[i]? =some p->ps[j]? =some q->p.name=q.name->i=j
def dz(ps:List a6)(out op:List E):List Int:=ps.map fun q=>bif out.contains q.name then 2 else bif op.contains q.name then 1 else 0
theorem w7(ps:List a6)(out op:List E):(dz ps out op).length=ps.length:=by simp[dz]
theorem oK{ps:List a6}{k:Nat}{q:a6}(h:ps[k]? =some q)(out op:List E):(dz ps out op)[k]? =some (bif out.contains q.name then 2 else bif op.contains q.name then 1 else 0):=by
 simp[dz,h]
theorem t_(l:List E)(x y:E):(l++[x]).contains y=(l.contains y||y==x):=by
 rw[Bool.eq_iff_iff];simp only[List.contains_iff_mem,List.mem_append,List.mem_singleton,Bool.or_eq_true,beq_iff_eq]
theorem Zn{ps:List a6}{es:List (E×Int)}(I:vY ps es){k:Nat}{q:a6}(h:ps[k]? =some q){out op:List E}(al:out.contains q.name=false):(dz ps out op).set k 1=dz ps out (op++[q.name]):=by
 apply List.ext_getElem?;intro i;rw[List.getElem?_set];by_cases qG:k=i
 ·subst qG;have bb:k<(dz ps out op).length:=by rw[w7];exact dh h
  rw[if_pos rfl,if_pos bb,oK h,al,t_];simp
 ·rw[if_neg qG];cases am:ps[i]? with
  |none=>simp[dz,am]
  |some p=>
   rw[oK am,oK am,t_];have:(p.name==q.name)=false:=by
    cases he:(p.name==q.name) with
    |false=>rfl
    |true=>exact absurd (I.qp i k p q am h (eq_of_beq he)).symm qG
   rw[this,Bool.or_false]
theorem Zo{ps:List a6}{es:List (E×Int)}(I:vY ps es){k:Nat}{q:a6}(h:ps[k]? =some q){out op:List E}:(dz ps out (op++[q.name])).set k 2=dz ps (out++[q.name]) op:=by
 apply List.ext_getElem?;intro i;rw[List.getElem?_set];by_cases qG:k=i
 ·subst qG;have bb:k<(dz ps out (op++[q.name])).length:=by rw[w7];exact dh h
  rw[if_pos rfl,if_pos bb,oK h,t_];simp
 ·rw[if_neg qG];cases am:ps[i]? with
  |none=>simp[dz,am]
  |some p=>
   rw[oK am,oK am,t_,t_];have:(p.name==q.name)=false:=by
    cases he:(p.name==q.name) with
    |false=>rfl
    |true=>exact absurd (I.qp i k p q am h (eq_of_beq he)).symm qG
   rw[this,Bool.or_false,Bool.or_false]
abbrev gk(ps:List a6)(es:List (E×Int))(st:List Int)(out:List E):pZ iP.sites:=(st,(out,((ps,(es,((),((),())))),())))
def FM(ps:List a6)(es:List (E×Int))(op:List E)(r:Sum (List E) Int)(x:Option iO.G):Prop:=
 (∃D,r=.inl D/\(gZ ps D/\nl op D)/\x=some (((),((0:Int),())),gk ps es (dz ps D op) D))\/(∃c st D,r=.inr c/\c≠0/\x=some (((),(c,())),gk ps es st D))
theorem Zg(ps:List a6)(es:List (E×Int))(I:vY ps es)(hb:kO ps)(ab:q5 ps)(dR:ps.all fz=true)(name:E)(tg:Int)(p:a6)(ai:p∈ps)(kP:List E)(rec:E->List E->Sum (List E) Int)(aB:iP.G->Option iO.G)
  (dm:∀qV out,gZ ps out/\nl kP out->FM ps es kP (rec qV out) (aB (((),(qV,())),gk ps es (dz ps out kP) out))):∀(r:List dq) (i:Nat) (out:List E),p.b_.drop i=r->i<=p.b_.length->gZ ps out/\nl kP out->
  (∃D,iU rec ps r out=.inl D/\(gZ ps D/\nl kP D)/\pL aB (((),(name,(tg,(p.b_,((p.b_.length:Int),((i:Int),())))))),gk ps es (dz ps out kP) out)=some (.inr (((),(name,(tg,()))),gk ps es (dz ps D kP) D)))\/
  (∃c st D,iU rec ps r out=.inr c/\c≠0/\pL aB (((),(name,(tg,(p.b_,((p.b_.length:Int),((i:Int),())))))),gk ps es (dz ps out kP) out)=some (.inl (((),(c,())),gk ps es st D))):=by
 intro r;induction r with
 |nil=>
  intro i out hr am al;have:=drop_nil hr;have d1:decide ((i:Int)<(p.b_.length:Int))=false:=by simp only[decide_eq_false_iff_not];omega
  refine .inl ⟨out,rfl,al,eU ?_⟩;simp only[pM,d1,cond_false]
 |cons n r ih=>
  intro i out hr am al;obtain⟨bD,bM,cv⟩:=drop_cons hr;have i_:=List.mem_of_getElem? bD;have hlen:p.b_.length<=2097152:=(hb.2 p ai).2.2.1.1;have hw:aW i:=by unfold aW;omega
  cases hf:ps.find? (fun q=>q.name==n.name) with
  |none=>
   have hm:=I.Pe _ hf;simp only[iU,hf];refine .inr ⟨3,dz ps out kP,out,rfl,by decide,eU ?_⟩
   simp only[pM,c_ cv,cond_true,cF,bD,Option.bind_some,hm,Option.isSome_none,q9,Bool.not_false]
  |some q=>
   obtain⟨k,ak,akd,hm⟩:=I.hit _ _ hf;have Rw:=List.mem_of_getElem? ak;have aA:=ab q Rw;have E3:=List.all_eq_true.1 dR q Rw;have E6:=List.all_eq_true.1 dR p ai;unfold fz ru at E3 E6;simp only[Bool.and_eq_true] at E3 E6;have lC:hV n=true:=List.all_eq_true.1 E6.1.2.1.1 n i_;have qE:=(hb.2 p ai).2.2.1.2 n i_;have sZ:=UY (((n.name,(n.kind,(n.cK,()))),(n.name,(q.cK,()))),()) qE.1 ((ab p ai).2 n i_) aA.1;have agV:zw ⟨n.name,n.kind,n.cK⟩ n.name q.cK=l4 n q.cK:=by
    unfold zw;have e1:hV ⟨n.name,n.kind,n.cK⟩=true:=lC;rw[e1,E3.1.1.2];simp
   simp only[agV] at sZ;simp only[iU,hf];cases ls:l4 n q.cK with
   |false=>
    rw[ls] at sZ;refine .inr ⟨3,dz ps out kP,out,rfl,by decide,eU ?_⟩
    simp only[pM,c_ cv,cond_true,cF,bD,Option.bind_some,hm,Option.isSome_some,Option.getD_some,q9,Bool.not_true,Bool.not_false,cond_false,ak,sZ]
   |true=>
    rw[ls] at sZ;simp only[cond_true];rcases dm n.name out al with⟨D,g1,g2,g3⟩|⟨c,st,D,g1,g2,g3⟩
    ·rw[g1];have step:pM aB (((),(name,(tg,(p.b_,((p.b_.length:Int),((i:Int),())))))),gk ps es (dz ps out kP) out)=some (.inl (((),(name,(tg,(p.b_,((p.b_.length:Int),(((i+1:Nat):Int),())))))),gk ps es (dz ps D kP) D)):=by
      simp only[pM,c_ cv,cond_true,cF,bD,Option.bind_some,hm,Option.isSome_some,Option.getD_some,q9,Bool.not_true,cond_false,ak,sZ,g3,bne_self_eq_false,c2 hw]
     have e:pL aB (((),(name,(tg,(p.b_,((p.b_.length:Int),((i:Int),())))))),gk ps es (dz ps out kP) out)=_:=hj step;rw[e];exact ih (i+1) D bM cv g2
    ·rw[g1];have hc:(c !=0)=true:=by simpa using g2
     refine .inr ⟨c,st,D,rfl,g2,eU ?_⟩;simp only[pM,c_ cv,cond_true,cF,bD,Option.bind_some,hm,Option.isSome_some,Option.getD_some,q9,Bool.not_true,cond_false,ak,sZ,g3,hc]
theorem abv(ps:List a6)(es:List (E×Int))(I:vY ps es)(hb:kO ps)(ab:q5 ps)(dR:ps.all fz=true)(hl:ps.length<=1000000):∀(m:Nat) (op:List E),gZ ps op->ps.length<m+op.length->∀(f:Nat),m<=f->∀name out,gZ ps out/\nl op out->
  FM ps es op (clo ps m op name out) (hZ j2 f (((),(name,())),gk ps es (dz ps out op) out)):=by
 intro m;induction m with
 |zero=>intro op al hm;have:=al.len;omega
 |succ m ih=>
  intro op al hm f hf name out l9;obtain⟨f,rfl⟩:∃aiH,f=aiH+1:=⟨f-1,by omega⟩
  have oi:=al.len;have ajx:=l9.1.len;show FM ps es op _ (j2 (hZ j2 f) (((),(name,())),gk ps es (dz ps out op) out));simp only[clo];cases vH:ps.find? (fun q=>q.name==name) with
  |none=>
   have ady:=I.Pe _ vH;have bD:out.contains name=false:=by
    cases hc:out.contains name with
    |false=>rfl
    |true=>
     obtain⟨q,aA⟩:=l9.1.2 name (by simpa using hc)
     rw[vH] at aA;cases aA
   rw[bD];refine .inr ⟨3,dz ps out op,out,rfl,by decide,?_⟩
   simp only[j2,ady,Option.isSome_none,Bool.not_false,cond_true]
  |some p=>
   obtain⟨k,ak,pj,Aw⟩:=I.hit _ _ vH;have gI:k<(dz ps out op).length:=by rw[w7];exact dh ak
   have h_:=oK ak out op;rw[pj] at h_;cases bD:out.contains name with
   |true=>
    rw[bD] at h_;refine .inl ⟨out,rfl,l9,?_⟩;simp only[j2,Aw,Option.isSome_some,Bool.not_true,cond_false,cond_true,Option.getD_some,lc gI,Option.bind_some,h_,beq_self_eq_true]
   |false=>
    rw[bD] at h_;simp only[cond_false];cases bM:op.contains name with
    |true=>
     rw[bM] at h_;have t1:((1:Int)==2)=false:=rfl;refine .inr ⟨4,dz ps out op,out,rfl,by decide,?_⟩
     simp only[j2,Aw,Option.isSome_some,Bool.not_true,cond_false,cond_true,Option.getD_some,lc gI,Option.bind_some,h_,beq_self_eq_true,t1]
    |false=>
     rw[bM] at h_;have t1:((0:Int)==2)=false:=rfl;have t2:((0:Int)==1)=false:=rfl;have adt:out.contains p.name=false:=by rw[pj];exact bD
     have pk:=al.add bM vH;have o_:=Zn I ak (op:=op) adt;rw[pj] at o_;have uZ:gZ ps out/\nl (op++[name]) out:=⟨l9.1,fun s H=>by
      rcases List.mem_append.1 H with H|H
      ·exact l9.2 s H
      ·rw[List.mem_singleton.1 H];simpa using bD⟩
     have loop:=Zg ps es I hb ab dR name (k:Int) p (List.mem_of_getElem? ak) (op++[name]) (clo ps m (op++[name])) (hZ j2 f)
      (fun qV uL af=>ih (op++[name]) pk (by simp;omega) f (by omega) qV uL af) p.b_ 0 out rfl (Nat.zero_le _) uZ
     simp only[cond_false];rcases loop with⟨D,g1,g2,g3⟩|⟨c,st,D,g1,g2,g3⟩
     ·have g3:pL (hZ j2 f) (((),(name,((k:Int),(p.b_,((p.b_.length:Int),((0:Int),())))))),gk ps es (dz ps out (op++[name])) out)=_:=g3;have akf:=g2.1.len;have adJ:k<(dz ps D (op++[name])).length:=by rw[w7];exact dh ak
      have adW:=oK ak D (op++[name]);have NK:=Zo I ak (out:=D) (op:=op);rw[pj] at NK;have a4:cT 16 D [name]=some (D++[name]):=fT (by decide) (by unfold aW;simp;omega)
      have lC:D.contains name=false:=by
       have:=g2.2 name (by simp)
       simpa using this
      rw[g1];refine .inl ⟨D++[name],rfl,⟨g2.1.add lC vH,fun s H ed=>?_⟩,?_⟩
      ·rcases List.mem_append.1 ed with ed|ed
       ·exact g2.2 s (List.mem_append.2 (.inl H)) ed
       ·rw[List.mem_singleton.1 ed] at H;have:name∉op:=by simpa using bM
        exact this H
      ·simp only[j2,Aw,Option.isSome_some,Bool.not_true,cond_false,cond_true,Option.getD_some,lc gI,Option.bind_some,h_,t1,t2,cF,ak,o_,g3,lc adJ,adW,a4,NK]
     ·have g3:pL (hZ j2 f) (((),(name,((k:Int),(p.b_,((p.b_.length:Int),((0:Int),())))))),gk ps es (dz ps out (op++[name])) out)=_:=g3;rw[g1];refine .inr ⟨c,st,D,rfl,g2,?_⟩;simp only[j2,Aw,Option.isSome_some,Bool.not_true,cond_false,cond_true,Option.getD_some,lc gI,Option.bind_some,h_,t1,t2,cF,ak,o_,g3]
noncomputable abbrev ahY:bZ:=[(101,Nf)]
theorem Sq:bz ah (bX aH ahY):=bV ⟨_Z,⟨⟩⟩
abbrev xv:Shape:=⟨[aX 0 .pack,bU 4 3000256,aX 13 .pack,ar 14,ar 15],[(3000256,.map .i64,.slot 4 0)],31⟩
abbrev Cv:List bh:=[(.exit 0,⟨[aX 0 .pack,bU 4 3000256],[(3000256,.map .i64,.slot 4 0)],31⟩)]
noncomputable def Dn(y:xv.G):cJ xv Cv:=
 bif(decide (y.1.2.2.2.2.1<y.1.2.2.2.1)) then
(bd y.1.2.2.1 y.1.2.2.2.2.1).bind fun a=>
 some (.inl ((y.1.1,(),y.1.2.2.1,y.1.2.2.2.1,(IntKind.i64.wrap (y.1.2.2.2.2.1+(1:Int))),()),(c3 y.2.1 a.name y.1.2.2.2.2.1),()))
else
 some (.inr ((y.1.1,(),()),y.2.1,()))
noncomputable def x2:xv.G->Option (a_ Cv):=b8 Dn
theorem Zt:bo ah (aO (codeOf Tryz.f58) 1 122) (bE xv Cv x2):=cQ Sq (by kernel_rfl) aE fun y=>by kernel_rfl
abbrev i58:Shape:=⟨[aX 0 .pack],[],31⟩
abbrev Q6:Shape:=⟨[(2,.aq (.d (.map .i64))),ar 3],[],31⟩
noncomputable def f58(a:i58.G):Option Q6.G:=
(zb ((a.1.1,(),()),())).bind fun b=>
 bif(!b.1.1) then
 some ((([]:List (E×Int)),(1:Int),()),())
else
(x2 ((a.1.1,(),a.1.1,(a.1.1.length:Int),(0:Int),()),([]:List (E×Int)),())).bind fun c=>
 bif((c.2.1.length:Int) !=(c.1.1.length:Int)) then
 some ((([]:List (E×Int)),(2:Int),()),())
else
 some ((c.2.1,(0:Int),()),())
noncomputable def GC:bg:=bq aH Tryz.f58 i58 Q6 [] f58
theorem QM:bc ah 58 GC:=bB Sq Tryz.func58 (by kernel_rfl) (bJ Zt aE) (fun y=>by kernel_rfl) fun a=>by kernel_rfl
noncomputable abbrev ah3:bZ:=[(58,GC),(82,NV)]
theorem Su:bz ah (bX aH ah3):=bV ⟨QM,abr,⟨⟩⟩
abbrev xw:Shape:=⟨[bx 8 8 0,aX 26 .str,ar 27,ar 28],[ep 5000514 .i64 8 2,ep 5000515 .str 8 3,bI 8 [cm .pack,.d (.map .i64),.own 5000514,.own 5000515]],40⟩
abbrev Cw:List bh:=[(.ret,⟨[bU 4 3000256,ar 5],[b3 3000256 .str 4 0],40⟩),(.exit 0,⟨[bx 8 8 0],[ep 5000514 .i64 8 2,ep 5000515 .str 8 3,bI 8 [cm .pack,.d (.map .i64),.own 5000514,.own 5000515]],40⟩)]
noncomputable def tX(y:xw.G):cJ xw Cw:=
 bif(decide (y.1.2.2.2.1<y.1.2.2.1)) then
(bd y.1.2.1 y.1.2.2.2.1).bind fun a=>
(zx (((),a,()),y.2.1,y.2.2.1,(y.2.2.2.1.1,y.2.2.2.1.2.1,(),(),()),())).bind fun b=>
 bif(b.1.2.1 !=(0:Int)) then
 some (.inr (.inl (((),b.1.2.1,()),([]:List E),())))
else
 some (.inl (((),y.1.2.1,y.1.2.2.1,(IntKind.i64.wrap (y.1.2.2.2.1+(1:Int))),()),b.2.1,b.2.2.1,(b.2.2.2.1.1,b.2.2.2.1.2.1,(),(),()),()))
else
 some (.inr (.inr (((),()),y.2.1,y.2.2.1,(y.2.2.2.1.1,y.2.2.2.1.2.1,(),(),()),())))
noncomputable def pV:xw.G->Option (a_ Cw):=b8 tX
theorem Zu:bo ah (aO (codeOf Tryz.f42) 1 250) (bE xw Cw pV):=cQ Su (by kernel_rfl) aE fun y=>by kernel_rfl
abbrev i42:Shape:=⟨[aX 0 .pack,aX 1 .str],[],40⟩
abbrev Ra:Shape:=⟨[bU 4 3000256,ar 5],[b3 3000256 .str 4 0],40⟩
noncomputable def f42(a:i42.G):Option Ra.G:=
(f58 ((a.1.1,()),())).bind fun b=>
 bif(b.1.2.1 !=(0:Int)) then
 some (((),b.1.2.1,()),([]:List E),())
else
(oa 8 (a.1.1.length:Int) (a.1.1.length:Int) (0:Int)).bind fun c=>
(pV (((),a.1.2.1,(a.1.2.1.length:Int),(0:Int),()),c,([]:List E),(a.1.1,b.1.1,(),(),()),())).bind fun d=>
(match d with
|.inl e=>
 some (((),e.1.2.1,()),e.2.1,())
|.inr f=>
 some (((),(0:Int),()),f.2.2.1,()))
noncomputable def Sg:bg:=bq aH Tryz.f42 i42 Ra [] f42
theorem aft:bc ah 42 Sg:=bB Su Tryz.func42 (by kernel_rfl) (bJ Zu aE) (fun y=>by kernel_rfl) fun a=>by kernel_rfl
def io(es:List (E×Int)):List E:=es.map (·.1)
def mA(es:List (E×Int))(i:Nat):List a6->List (E×Int)
 |[]=>es
 |p::r=>mA (c3 es p.name (i:Int)) (i+1) r
def gT(i:Nat):List a6->List (E×Int)
 |[]=>[]
 |p::r=>(p.name,(i:Int))::gT (i+1) r
theorem Bi(n:E)(v:Int):∀es:List (E×Int),(io es).contains n=false->c3 es n v=es++[(n,v)]:=by
 intro es;induction es with
 |nil=>intro _;rfl
 |cons p es ih=>
  intro h;simp only[io,List.map_cons,List.contains_cons,Bool.or_eq_false_iff] at h;have h1:(p.1==n)=false:=by
   cases he:(p.1==n) with
   |false=>rfl
   |true=>rw[eq_of_beq he] at h;simp at h
  simp only[c3,h1,cond_false,ih h.2,List.cons_append]
theorem Vv(n:E)(v:Int):∀es:List (E×Int),(io es).contains n=true->(c3 es n v).length=es.length:=by
 intro es;induction es with
 |nil=>intro h;cases h
 |cons p es ih=>
  intro h;simp only[c3];cases h1:(p.1==n) with
  |true=>rfl
  |false=>
   have h2:(n==p.1)=false:=by
    cases he:(n==p.1) with
    |false=>rfl
    |true=>rw[eq_of_beq he] at h1;simp at h1
   simp only[io,List.map_cons,List.contains_cons,h2,Bool.false_or] at h;simp only[cond_false,List.length_cons,ih h]
theorem aaN:∀(r:List a6) (es:List (E×Int)) (i:Nat),e9 (io es) (r.map (·.name))=false->mA es i r=es++gT i r:=by
 intro r;induction r with
 |nil=>intro es i _;simp[mA,gT]
 |cons p r ih=>
  intro es i h;simp only[List.map_cons,e9,Bool.or_eq_false_iff] at h;have h1:=Bi p.name (i:Int) es h.1;simp only[mA,gT];rw[h1,ih _ _ (by simp only[io,List.map_append,List.map_cons,List.map_nil];exact h.2)]
  simp
theorem _G:∀(r:List a6) (es:List (E×Int)) (i:Nat),(mA es i r).length<=es.length+r.length/\(e9 (io es) (r.map (·.name))=true->(mA es i r).length<es.length+r.length):=by
 intro r;induction r with
 |nil=>intro es i;exact⟨Nat.le_refl _,fun h=>by cases h⟩
 |cons p r ih=>
  intro es i;simp only[mA,List.map_cons,e9];obtain⟨h1,h2⟩:=ih (c3 es p.name (i:Int)) (i+1);cases hc:(io es).contains p.name with
  |true=>
   rw[Vv _ _ _ hc] at h1 h2;exact⟨by simp only[List.length_cons];omega,fun _=>by simp only[List.length_cons];omega⟩
  |false=>
   have hn:=Bi p.name (i:Int) es hc;have hl:(c3 es p.name (i:Int)).length=es.length+1:=by rw[hn];simp
   have ak:io (c3 es p.name (i:Int))=io es++[p.name]:=by rw[hn];simp[io]
   rw[ak] at h2;rw[hl] at h1 h2;exact⟨by simp only[List.length_cons];omega,fun h=>by have:=h2 (by simpa using h);simp only[List.length_cons];omega⟩
theorem KF(n:E):∀(r:List a6) (i:Nat),(r.find? (fun q=>q.name==n)=none->cU (gT i r) n=none)/\
  ∀q,r.find? (fun q=>q.name==n)=some q->∃k:Nat,r[k]? =some q/\q.name=n/\cU (gT i r) n=some ((i+k:Nat):Int):=by
 intro r;induction r with
 |nil=>intro i;exact⟨fun _=>rfl,fun q h=>by cases h⟩
 |cons p r ih=>
  intro i;obtain⟨h1,h2⟩:=ih (i+1);simp only[List.find?_cons,gT,cU];cases ai:(p.name==n) with
  |true=>exact⟨fun h=>(by cases h),fun q h=>(by cases h;exact⟨0,rfl,eq_of_beq ai,rfl⟩)⟩
  |false=>
   refine⟨h1,fun q h=>?_⟩
   obtain⟨k,aw,aj,bA⟩:=h2 q h;exact⟨k+1,by simpa using aw,aj,by rw[cond_false,bA];congr 2;omega⟩
theorem VN:∀(r cH:List E),e9 cH r=false->cH.Nodup->(cH++r).Nodup:=by
 intro r;induction r with
 |nil=>intro cH _ h;simpa using h
 |cons x r ih=>
  intro cH h hn;simp only[e9,Bool.or_eq_false_iff] at h;have hx:x∉cH:=by simpa using h.1
  have:=ih (cH++[x]) h.2 (by
   rw[List.nodup_append];exact⟨hn,by simp,fun a bm b hb=>by rw[List.mem_singleton.1 hb];exact fun e=>hx (e▸bm)⟩)
  simpa using this
theorem Lu{ps:List a6}(h:e9 [] (ps.map (·.name))=false):vY ps (gT 0 ps):=by
 have hn:(ps.map (·.name)).Nodup:=by have:=VN _ _ h List.nodup_nil;simpa using this
 refine⟨fun n q aA=>?_,fun n aA=>(KF n ps 0).1 aA,fun i j p q am bv he=>?_⟩
 ·obtain⟨k,aw,aj,bA⟩:=(KF n ps 0).2 q aA;exact⟨k,aw,aj,by rw[Nat.zero_add] at bA;exact bA⟩
 ·have Rx:=List.pairwise_iff_getElem.1 hn;have RF:i<(ps.map (·.name)).length:=by rw[List.length_map];exact dh am
  have RE:j<(ps.map (·.name)).length:=by rw[List.length_map];exact dh bv
  have SS:(ps.map (·.name))[i]=p.name:=by rw[List.getElem_map,(List.getElem?_eq_some_iff.1 am).2]
  have AT:(ps.map (·.name))[j]=q.name:=by rw[List.getElem_map,(List.getElem?_eq_some_iff.1 bv).2]
  rcases Nat.lt_trichotomy i j with bb|kX|bb
  ·exact absurd (by rw[SS,AT];exact he) (Rx i j RF RE bb)
  ·exact kX
  ·exact absurd (by rw[SS,AT];exact he.symm) (Rx j i RE RF bb)
theorem HD(a)(hb:kO a.1.1):f58 a=some (((bif eV a.1.1==0 then gT 0 a.1.1 else []),(eV a.1.1,())),()):=by
 obtain⟨⟨ps,u⟩,bS⟩:=a;have hl:ps.length<=2097152:=hb.1;have key:∀(r:List a6) (k:Nat) (es:List (E×Int)),ps.drop k=r->k<=ps.length->
   x2 ((ps,((),(ps,((ps.length:Int),((k:Int),()))))),(es,()))=some ((ps,((),())),(mA es k r,())):=by
  intro r;induction r with
  |nil=>
   intro k es hr ak;have:=drop_nil hr;have d1:decide ((k:Int)<(ps.length:Int))=false:=by simp only[decide_eq_false_iff_not];omega
   refine eU ?_
   simp only[Dn,d1,cond_false,mA]
  |cons q r ih=>
   intro k es hr ak;obtain⟨bD,bM,cv⟩:=drop_cons hr;have hw:aW k:=by unfold aW;omega
   refine(hj ?_).trans (ih (k+1) (c3 es q.name (k:Int)) bM cv);simp only[Dn,c_ cv,cond_true,cF,bD,Option.bind_some,c2 hw]
 have key:=key ps 0 [] rfl (Nat.zero_le _);have key:x2 ((ps,((),(ps,((ps.length:Int),((0:Int),()))))),(([]:List (E×Int)),()))=_:=key;have e1:=Wj ((ps,((),())),()) hb;simp only[f58,e1,Option.bind_some,eV,key];cases ps.all fz with
 |false=>rfl
 |true=>
  simp only[Bool.not_true,cond_false,cond_true];cases Y:e9 [] (ps.map (·.name)) with
  |true=>
   have:=(_G ps [] 0).2 Y;have cE:(((mA [] 0 ps).length:Int) !=(ps.length:Int))=true:=by simp at this ⊢;omega
   rw[cE];rfl
  |false=>
   have gY:=aaN ps [] 0 Y;rw[List.nil_append] at gY;have aK:∀(r:List a6) (i:Nat),(gT i r).length=r.length:=by
    intro r;induction r with
    |nil=>intro i;rfl
    |cons p r ih=>intro i;simp only[gT,List.length_cons,ih]
   have cE:(((mA [] 0 ps).length:Int) !=(ps.length:Int))=false:=by rw[gY,aK];simp
   rw[cE,gY];rfl
theorem Zm(ps:List a6):dz ps [] []=List.replicate ps.length 0:=by
 induction ps with
 |nil=>rfl
 |cons p ps ih=>
  have:dz (p::ps) [] []=0::dz ps [] []:=rfl;rw[this,ih];rfl
theorem UV(a)(hb:kO a.1.1)(ab:q5 a.1.1)(hl:a.1.1.length<=1000000)(hn:a.1.2.1.length<=1000000):f42 a=some (((),((kB a.1.1 a.1.2.1).2,())),((kB a.1.1 a.1.2.1).1,())):=by
 obtain⟨⟨ps,names,u⟩,bS⟩:=a;have hl:ps.length<=1000000:=hl;have hn:names.length<=1000000:=hn;have gP:=HD ((ps,()),()) hb;have aig:(eV ps !=0)=!(eV ps==0):=rfl;simp only[f42,gP,Option.bind_some,aig,kB];cases aK:(eV ps==0) with
 |false=>rfl
 |true=>
  have dR:ps.all fz=true/\e9 [] (ps.map (·.name))=false:=by
   unfold eV at aK;cases h1:ps.all fz with
   |false=>rw[h1] at aK;cases aK
   |true=>
    rw[h1] at aK;cases h2:e9 [] (ps.map (·.name)) with
    |true=>rw[h2] at aK;cases aK
    |false=>exact⟨rfl,rfl⟩
  have I:=Lu dR.2;have agF:oa 8 (ps.length:Int) (ps.length:Int) (0:Int)=some (dz ps [] []):=by
   unfold oa;rw[if_pos ⟨by omega,by omega,by unfold room;omega,by unfold maxLen;omega⟩,Int.toNat_natCast,Zm]
  have key:∀(r:List E) (i:Nat) (out:List E),names.drop i=r->i<=names.length->gZ ps out/\nl [] out->
    (∃D,j4 ps (ps.length+1) r out=.inl D/\pV (((),(names,((names.length:Int),((i:Int),())))),gk ps (gT 0 ps) (dz ps out []) out)=some (.inr (((),()),gk ps (gT 0 ps) (dz ps D []) D)))\/
    (∃c,j4 ps (ps.length+1) r out=.inr c/\c≠0/\pV (((),(names,((names.length:Int),((i:Int),())))),gk ps (gT 0 ps) (dz ps out []) out)=some (.inl (((),(c,())),(([]:List E),())))):=by
   intro r;induction r with
   |nil=>
    intro i out hr am al;have:=drop_nil hr;have d1:decide ((i:Int)<(names.length:Int))=false:=by simp only[decide_eq_false_iff_not];omega
    refine .inl ⟨out,rfl,eU ?_⟩;simp only[tX,d1,cond_false]
   |cons n r ih=>
    intro i out hr am al;obtain⟨bD,bM,cv⟩:=drop_cons hr;have hw:aW i:=by unfold aW;omega
    simp only[j4];rcases abv ps (gT 0 ps) I hb ab dR.1 hl (ps.length+1) [] (gZ.nil ps) (by simp) iR (YP (by omega)) n out al with⟨D,g1,g2,g3⟩|⟨c,st,D,g1,g2,g3⟩
    ·have g3:zx (((),(n,())),gk ps (gT 0 ps) (dz ps out []) out)=_:=g3;rw[g1];have step:tX (((),(names,((names.length:Int),((i:Int),())))),gk ps (gT 0 ps) (dz ps out []) out)=some (.inl (((),(names,((names.length:Int),(((i+1:Nat):Int),())))),gk ps (gT 0 ps) (dz ps D []) D)):=by
      simp only[tX,c_ cv,cond_true,cF,bD,Option.bind_some,g3,bne_self_eq_false,cond_false,c2 hw]
     have e:pV (((),(names,((names.length:Int),((i:Int),())))),gk ps (gT 0 ps) (dz ps out []) out)=_:=hj step;rw[e];exact ih (i+1) D bM cv g2
    ·have g3:zx (((),(n,())),gk ps (gT 0 ps) (dz ps out []) out)=_:=g3;rw[g1];have hc:(c !=0)=true:=by simpa using g2
     refine .inr ⟨c,rfl,g2,eU ?_⟩;simp only[tX,c_ cv,cond_true,cF,bD,Option.bind_some,g3,hc]
  simp only[Bool.not_true,cond_false,cond_true,agF,Option.bind_some];rcases key names 0 [] rfl (Nat.zero_le _) ⟨gZ.nil ps,fun s H=>by cases H⟩ with⟨D,g1,g2⟩|⟨c,g1,g2,g3⟩
  ·have g2:pV (((),(names,((names.length:Int),((0:Int),())))),gk ps (gT 0 ps) (dz ps [] []) [])=_:=g2;simp only[g1,g2,Option.bind_some]
  ·have g3:pV (((),(names,((names.length:Int),((0:Int),())))),gk ps (gT 0 ps) (dz ps [] []) [])=_:=g3;simp only[g1,g3,Option.bind_some]
def N_(ps:List a6)(n:E):Nat:=(ps.takeWhile fun p=>Op.bytesLess p.name n).length
def uv(ps:List a6)(p:a6):List a6:=ps.take (N_ ps p.name)++[p]++ps.drop (N_ ps p.name)
def Rk(ps:List a6)(p:a6):List a6×Int:=bif fz p then(match ps.find? (fun q=>q.name==p.name) with
 |some _=>(ps,2)
 |none=>(bif Ey (uv ps p)==0 then uv ps p else ps,Ey (uv ps p))) else(ps,1)
abbrev R4(k:Nat)(ps:List a6):Prop:=ps.length<=k/\∀p,p∈ps->qN p
theorem R4.ok{k:Nat}{ps:List a6}(h:R4 k ps):vX k ps:=⟨h.1,fun p ai=>(h.2 p ai).ok⟩
def sB(t:List bu)(p:E):Option bu:=match t[cb t p]? with
 |some e=>bif e.path==p then some e else none
 |none=>none
theorem _r{t:List bu}{p:E}{e:bu}(h:sB t p=some e):t[cb t p]? =some e/\e.path=p:=by
 unfold sB at h;cases aC:t[cb t p]? with
 |none=>rw[aC] at h;cases h
 |some x=>
  rw[aC] at h;cases hx:(x.path==p) with
  |false=>simp[hx] at h
  |true=>simp only[hx,cond_true,Option.some.injEq] at h;subst h;exact⟨rfl,eq_of_beq hx⟩
theorem aam{t:List bu}(bm:ia t){k:Nat}{e:bu}(h:t[k]? =some e):cb t e.path=k:=by
 have h1:=mL (p:=e.path) bm k e h;have h2:Op.bytesLess e.path e.path=false:=rX _;rw[h1] at h2;have h2:¬k<cb t e.path:=of_decide_eq_false h2;rcases Nat.lt_or_ge (cb t e.path) k with aa|aa
 ·exfalso
  have aN:cb t e.path<t.length:=Nat.lt_trans aa (dh h);have bn:=List.getElem?_eq_getElem aN;have dY:=mL (p:=e.path) bm (cb t e.path) t[cb t e.path] bn;have lP:Op.bytesLess (t[cb t e.path]).path e.path=true:=by
   have ai:=List.pairwise_iff_getElem.1 bm (cb t e.path) k aN (dh h) aa;have:t[k]'(dh h)=e:=by
    have:=List.getElem?_eq_getElem (dh h);rw[h] at this;exact(Option.some.inj this).symm
   rw[this] at ai;exact ai
  rw[lP] at dY;have:=of_decide_eq_true dY.symm;omega
 ·omega
theorem Ks{t:List bu}(bm:ia t){p:E}{e:bu}:sB t p=some e <-> e∈t/\e.path=p:=by
 constructor
 ·intro h;obtain⟨h1,h2⟩:=_r h;exact⟨List.mem_of_getElem? h1,h2⟩
 ·rintro⟨h1,rfl⟩;obtain⟨k,ak⟩:=List.mem_iff_getElem?.1 h1;have:=aam bm ak;unfold sB;rw[this,ak];simp
theorem aaH{a b:bu}(h:AI a b=true):a=b:=by
 unfold AI at h;simp only[Bool.and_eq_true,beq_iff_eq] at h;obtain⟨h1,h2,aa,aN⟩:=h;cases a;cases b;simp only at h1 h2 aa aN;subst h1 h2 aa aN;rfl
theorem Kp{t:List bu}{k:Nat}{e x:bu}:x∈oZ t k e <-> x=e\/x∈t:=by
 constructor
 ·exact Xe
 ·unfold oZ;intro h;rcases h with rfl|h
  ·simp
  ·have:x∈t.take k++t.drop k:=by rw[List.take_append_drop];exact h
   simp only[List.mem_append,List.mem_singleton] at this ⊢;rcases this with h|h
   ·exact .inl (.inl h)
   ·exact .inr h
theorem XV{out D:List bu}{e:bu}(h:zk out e=some D)(x:bu):x∈D <-> x=e\/x∈out:=by
 unfold zk at h;split at h
 ·rename_i q aA;cases ai:(q.path==e.path) with
  |true=>
   rw[ai] at h;cases hc:u6 e q with
   |true=>rw[hc] at h;cases h
   |false=>
    rw[hc] at h;cases h;have:AI e q=true:=by
     unfold u6 at hc;simp only[Bool.or_eq_false_iff,Bool.not_eq_false'] at hc;exact hc.2
    have:=aaH this;subst this;constructor
    ·exact .inr
    ·rintro(rfl|h)
     ·exact List.mem_of_getElem? aA
     ·exact h
  |false=>rw[ai] at h;cases h;exact Kp
 ·cases h;exact Kp
theorem YK:∀{es out D:List bu},lm out es=some D->∀x,x∈D <-> x∈out\/x∈es:=by
 intro es;induction es with
 |nil=>intro out D h x;simp only[lm,Option.some.injEq] at h;subst h;simp
 |cons e r ih=>
  intro out D h x;rw[Vz] at h;obtain⟨o1,h1,h2⟩:=Option.bind_eq_some_iff.1 h;rw[ih h2,XV h1,List.mem_cons];constructor
  ·rintro((h|h)|h)
   ·exact .inr (.inl h)
   ·exact .inl h
   ·exact .inr (.inr h)
  ·rintro(h|h|h)
   ·exact .inl (.inr h)
   ·exact .inl (.inl h)
   ·exact .inr h
theorem Wp:∀{ps:List a6} {out t:List bu},lX out ps=some t->∀x,x∈t <-> x∈out\/∃p,p∈ps/\x∈p.ei:=by
 intro ps;induction ps with
 |nil=>intro out t h x;simp only[lX,Option.some.injEq] at h;subst h;simp
 |cons p r ih=>
  intro out t h x;rw[HF] at h;obtain⟨D,h1,h2⟩:=Option.bind_eq_some_iff.1 h;rw[ih h2,YK (J2 h1).2];constructor
  ·rintro((h|h)|⟨q,h,af⟩)
   ·exact .inl h
   ·exact .inr ⟨p,List.mem_cons_self,h⟩
   ·exact .inr ⟨q,List.mem_cons_of_mem _ h,af⟩
  ·rintro(h|⟨q,h,af⟩)
   ·exact .inl (.inl h)
   ·rcases List.mem_cons.1 h with rfl|h
    ·exact .inl (.inr af)
    ·exact .inr ⟨q,h,af⟩
theorem Wo:∀{ps:List a6} {out t:List bu},iL out=true->lX out ps=some t->iL t=true:=by
 intro ps;induction ps with
 |nil=>intro out t al h;simp only[lX,Option.some.injEq] at h;subst h;exact al
 |cons p r ih=>
  intro out t al h;rw[HF] at h;obtain⟨D,h1,h2⟩:=Option.bind_eq_some_iff.1 h;exact ih (J2 h1).1 h2
structure wl(ps:List a6)(t:List bu):Prop where
 ei:lX [] ps=some t
 abF:ps.all fz=true
 nj:ps.Pairwise fun p q=>Op.bytesLess p.name q.name=true
section
variable {ps:List a6}{t:List bu}(R:wl ps t)
include R
theorem wl.ok:iL t=true:=Wo (by rfl) R.ei
theorem wl.GR{p:a6}(h:p∈ps):lg p.name=true/\iL p.ei=true:=by
 have:=List.all_eq_true.1 R.abF p h;unfold fz at this;simp only[Bool.and_eq_true] at this;exact⟨this.1.1.1,this.2⟩
theorem wl.aio{p:a6}(h:p∈ps):ia p.ei:=H_ (R.GR h).2
theorem wl.up{p:a6}(h:p∈ps){path:E}{e:bu}(he:sB p.ei path=some e):sB t path=some e:=by
 obtain⟨aw,aj⟩:=(Ks (R.aio h)).1 he;exact(Ks (H_ R.ok)).2 ⟨(Wp R.ei e).2 (.inr ⟨p,h,aw⟩),aj⟩
end
abbrev CZ:Shape:=⟨[aX 0 .need,aX 1 .need,ar 5],[],26⟩
abbrev KO:List bh:=[(.ret,⟨[aV 4],[],26⟩),(.exit 0,⟨[],[],26⟩)]
noncomputable def _t(y:CZ.G):cJ CZ KO:=
 bif(decide (y.1.2.2.1<(y.1.1.length:Int))) then
(bd y.1.1 y.1.2.2.1).bind fun a=>
(bd y.1.2.1 y.1.2.2.1).bind fun b=>
 bif(!((a.name==b.name)&&((a.kind==b.kind)&&(a.cK==b.cK)))) then
 some (.inr (.inl ((false,()),())))
else
 some (.inl ((y.1.1,y.1.2.1,(IntKind.i64.wrap (y.1.2.2.1+(1:Int))),()),()))
else
 some (.inr (.inr ((),())))
noncomputable def _i:CZ.G->Option (a_ KO):=b8 _t
abbrev i190:Shape:=⟨[aX 0 .need,aX 1 .need],[],26⟩
abbrev adj:Shape:=⟨[aV 4],[],26⟩
noncomputable def f190(a:i190.G):Option adj.G:=
 bif((a.1.1.length:Int) !=(a.1.2.1.length:Int)) then
 some ((false,()),())
else
(_i ((a.1.1,a.1.2.1,(0:Int),()),())).bind fun b=>
(match b with
|.inl c=>
 some ((c.1.1,()),())
|.inr d=>
 some ((true,()),()))
abbrev i64:Shape:=⟨[hE 0 [cm .pack]],[],7⟩
def Rj(ps:List a6)(p:a6):List a6×Int:=bif L5 ps then Rk ps p else([],1)
theorem LJ{aJ:Type}{key:aJ->E}:∀{b a:List aJ},a.Pairwise (fun x y=>Op.bytesLess (key x) (key y)=true)->b.Pairwise (fun x y=>Op.bytesLess (key x) (key y)=true)->(∀x,x∈a->x∈b)->a.Sublist b:=by
 intro b;induction b with
 |nil=>
  intro a _ _ h;cases a with
  |nil=>exact List.Sublist.refl _
  |cons x r=>exact absurd (h x List.mem_cons_self) (by simp)
 |cons y b ih=>
  intro a bm hb h;cases a with
  |nil=>exact List.nil_sublist _
  |cons x a=>
   obtain⟨a1,a2⟩:=List.pairwise_cons.1 bm;obtain⟨a7,aM⟩:=List.pairwise_cons.1 hb;have later:∀z,Op.bytesLess (key y) (key z)=true->z∈y::b->z∈b:=by
    intro z aK hm;rcases List.mem_cons.1 hm with rfl|hm
    ·rw[rX] at aK;cases aK
    ·exact hm
   rcases List.mem_cons.1 (h x List.mem_cons_self) with rfl|hx
   ·exact List.Sublist.cons_cons _ (ih a2 aM fun z aK=>later z (a1 z aK) (h z (List.mem_cons_of_mem _ aK)))
   ·refine List.Sublist.cons _ (ih bm aM fun z aK=>?_)
    rcases List.mem_cons.1 aK with rfl|kd
    ·exact hx
    ·exact later z (tK _ _ _ (a7 x hx) (a1 z kd)) (h z aK)
theorem aaO{aJ:Type}{key:aJ->E}{a b:List aJ}(bm:a.Pairwise fun x y=>Op.bytesLess (key x) (key y)=true)(hb:b.Pairwise fun x y=>Op.bytesLess (key x) (key y)=true)(h:∀x,x∈a <-> x∈b):a=b:=
 (LJ bm hb fun x hx=>(h x).1 hx).eq_of_length_le (LJ hb bm fun x hx=>(h x).2 hx).length_le
theorem _z{ps:List a6}{n:E}:ps.find? (fun q=>q.name==n)=none <-> ∀q,q∈ps->q.name≠n:=by
 rw[List.find?_eq_none];constructor
 ·intro h q aA he;exact h q aA (by simpa using he)
 ·intro h q aA he;exact h q aA (by simpa using he)
structure Qu(ps:List a6)(p:a6):Prop where
 ok:L5 ps=true
 GR:fz p=true
 new:∀q,q∈ps->q.name≠p.name
 code:Ey (uv ps p)=0
theorem Qu.out{ps:List a6}{p:a6}(h:Qu ps p):Rj ps p=(uv ps p,0):=by
 unfold Rj Rk;rw[h.ok,h.GR,_z.2 h.new,h.code];rfl
noncomputable abbrev ahZ:bZ:=[(100,Qt)]
theorem Sr:bz ah (bX aH ahZ):=bV ⟨ac0,⟨⟩⟩
abbrev yD:Shape:=⟨[aX 1 .str,bx 2 2 0,ar 5],[bI 2 [bW,bW,cm .need,cm .entry]],21⟩
abbrev DN:List bh:=[(.ret,⟨[aV 4],[],21⟩),(.exit 0,⟨[],[],21⟩)]
noncomputable def yY(y:yD.G):cJ yD DN:=
 bif(decide (y.1.2.2.1<(y.2.1.2.2.1.length:Int))) then
(bd y.2.1.2.2.1 y.1.2.2.1).bind fun a=>
(f100 ((y.1.1,a.name,()),())).bind fun b=>
 bif b.1.1 then
 some (.inr (.inl ((true,()),())))
else
 some (.inl ((y.1.1,(),(IntKind.i64.wrap (y.1.2.2.1+(1:Int))),()),(y.2.1.1,y.2.1.2.1,y.2.1.2.2.1,y.2.1.2.2.2.1,()),()))
else
 some (.inr (.inr ((),())))
noncomputable def D1:yD.G->Option (a_ DN):=b8 yY
theorem aag:bo ah (aO (codeOf Tryz.f56) 1 26) (bE yD DN D1):=cQ Sr (by kernel_rfl) aE fun y=>by kernel_rfl
abbrev i56:Shape:=⟨[hE 0 [bW,bW,cm .need,cm .entry],aX 1 .str],[],21⟩
abbrev Q7:Shape:=⟨[aV 4],[],21⟩
noncomputable def f56(a:i56.G):Option Q7.G:=
(D1 ((a.1.2.1,(),(0:Int),()),(a.1.1.1,a.1.1.2.1,a.1.1.2.2.1,a.1.1.2.2.2.1,()),())).bind fun b=>
(match b with
|.inl c=>
 some ((c.1.1,()),())
|.inr d=>
 some ((false,()),()))
noncomputable def Sc:bg:=bq aH Tryz.f56 i56 Q7 [] f56
theorem afq:bc ah 56 Sc:=bB Sr Tryz.func56 (by kernel_rfl) (bJ aag aE) (fun y=>by kernel_rfl) fun a=>by kernel_rfl
abbrev yC:Shape:=⟨[aX 0 .str,aQ 1,bU 4 3000256,ar 5],[b3 3000256 .str 4 0],45⟩
abbrev DM:List bh:=[(.exit 0,⟨[aX 0 .str,aQ 1,bU 4 3000256,ar 5],[b3 3000256 .str 4 0],45⟩)]
noncomputable def yX(y:yC.G):cJ yC DM:=
 bif(decide (y.1.2.2.2.1<(y.1.1.length:Int))) then
(bd y.1.1 y.1.2.2.2.1).bind fun a=>
 bif(Op.bytesLess a y.1.2.1) then
 some (.inl ((y.1.1,y.1.2.1,(),(IntKind.i64.wrap (y.1.2.2.2.1+(1:Int))),()),y.2.1,()))
else
 some (.inr ((y.1.1,y.1.2.1,(),y.1.2.2.2.1,()),y.2.1,()))
else
 some (.inr ((y.1.1,y.1.2.1,(),y.1.2.2.2.1,()),y.2.1,()))
noncomputable def yP:yC.G->Option (a_ DM):=b8 yX
theorem aaf:bo ah (aO (codeOf Tryz.f57) 1 28) (bE yC DM yP):=cQ g0 (by kernel_rfl) aE fun y=>by kernel_rfl
abbrev L4:Shape:=⟨[aX 0 .str,aQ 1,bU 4 3000256,ar 5],[b3 3000256 .str 4 0],45⟩
abbrev L0:List bh:=[(.norm,⟨[aX 0 .str,aQ 1,bU 4 3000256,ar 5,aV 31],[b3 3000256 .str 4 0],45⟩)]
noncomputable def D9(y:L4.G):Option (a_ L0):=
 bif(decide (y.1.2.2.2.1<(y.1.1.length:Int))) then
(bd y.1.1 y.1.2.2.2.1).bind fun a=>
 some ((y.1.1,y.1.2.1,(),y.1.2.2.2.1,(a==y.1.2.1),()),y.2.1,())
else
 some ((y.1.1,y.1.2.1,(),y.1.2.2.2.1,false,()),y.2.1,())
theorem aae:bo ah (aO (codeOf Tryz.f57) 1 60) (bE L4 L0 D9):=dD g0 (by kernel_rfl) aE fun y=>by kernel_rfl
abbrev i57:Shape:=⟨[aX 0 .str,aQ 1],[],45⟩
abbrev FT:Shape:=⟨[aX 4 .str],[],45⟩
noncomputable def f57(a:i57.G):Option FT.G:=
(yP ((a.1.1,a.1.2.1,(),(0:Int),()),([]:List E),())).bind fun b=>
(D9 ((b.1.1,b.1.2.1,(),b.1.2.2.2.1,()),b.2.1,())).bind fun c=>
 bif c.1.2.2.2.2.1 then
 some ((c.1.1,()),())
else
(cB c.1.1 (0:Int) c.1.2.2.2.1).bind fun d=>
(cT 16 ([]:List E) d).bind fun e=>
(cT 16 e ([c.1.2.1]:List E)).bind fun f=>
(cB c.1.1 c.1.2.2.2.1 (c.1.1.length:Int)).bind fun g=>
(cT 16 f g).bind fun h=>
 some ((h,()),())
noncomputable def Sb:bg:=bq aH Tryz.f57 i57 FT [] f57
theorem afp:bc ah 57 Sb:=bB g0 Tryz.func57 (by kernel_rfl) (bJ aaf (bJ aae aE)) (fun y=>by kernel_rfl) fun a=>by kernel_rfl
noncomputable abbrev ah6:bZ:=[(55,Sd),(56,Sc),(57,Sb)]
theorem AL:bz ah (bX aH ah6):=bV ⟨afr,afq,afp,⟨⟩⟩
abbrev If:Shape:=⟨[aX 0 .pack,aQ 1,aX 5 .str,ar 6,ar 7],[],51⟩
abbrev Ib:List bh:=[(.norm,⟨[aX 0 .pack,aQ 1,aX 5 .str,ar 6,ar 7,aX 25 .pack,ar 26,(27,.aq (.e8 [.str,.str,.sl .need,.sl .entry] 0)),(28,.aq (.e8 [.str,.str,.sl .need,.sl .entry] 0)),aQ 29,aQ 30,aV 31,aV 32,aV 42],[],51⟩)]
noncomputable def Bl(y:If.G):Option (a_ Ib):=
(bd y.1.1 y.1.2.2.2.2.1).bind fun a=>
 bif(!(a.name==y.1.2.1)) then
(bd y.1.1 y.1.2.2.2.2.1).bind fun b=>
(cT 16 ([y.1.2.1]:List E) y.1.2.2.1).bind fun c=>
(f56 (((b.name,b.cK,b.b_,b.ei,()),c,()),())).bind fun d=>
 some ((y.1.1,y.1.2.1,y.1.2.2.1,y.1.2.2.2.1,y.1.2.2.2.2.1,y.1.1,y.1.2.2.2.2.1,(a.name,a.cK,a.b_,a.ei,()),(a.name,a.cK,a.b_,a.ei,()),a.name,y.1.2.1,(!(a.name==y.1.2.1)),true,d.1.1,()),())
else
 some ((y.1.1,y.1.2.1,y.1.2.2.1,y.1.2.2.2.1,y.1.2.2.2.2.1,y.1.1,y.1.2.2.2.2.1,(a.name,a.cK,a.b_,a.ei,()),(a.name,a.cK,a.b_,a.ei,()),a.name,y.1.2.1,(!(a.name==y.1.2.1)),false,false,()),())
theorem Vh:bo ah (aO (dT (aO (dT (aO (codeOf Tryz.f21) 1 122)) 244 7826)) 15652 250440) (bE If Ib Bl):=dD AL (by kernel_rfl) aE fun y=>by kernel_rfl
abbrev xa:Shape:=⟨[aX 0 .pack,aQ 1,aX 5 .str,ar 6,ar 7],[],51⟩
abbrev BZ:List bh:=[(.exit 2,⟨[aX 0 .pack,aQ 1,aX 5 .str,ar 6],[],51⟩)]
noncomputable def xo(y:xa.G):cJ xa BZ:=
 bif(decide (y.1.2.2.2.2.1<(y.1.1.length:Int))) then
(Bl ((y.1.1,y.1.2.1,y.1.2.2.1,y.1.2.2.2.1,y.1.2.2.2.2.1,()),())).bind fun a=>
 bif a.1.2.2.2.2.2.2.2.2.2.2.2.2.2.1 then
(bd a.1.1 a.1.2.2.2.2.1).bind fun b=>
(f57 ((a.1.2.2.1,b.name,()),())).bind fun c=>
 some (.inl ((a.1.1,a.1.2.1,c.1.1,a.1.2.2.2.1,(IntKind.i64.wrap (a.1.2.2.2.2.1+(1:Int))),()),()))
else
 some (.inl ((a.1.1,a.1.2.1,a.1.2.2.1,a.1.2.2.2.1,(IntKind.i64.wrap (a.1.2.2.2.2.1+(1:Int))),()),()))
else
 some (.inr ((y.1.1,y.1.2.1,y.1.2.2.1,y.1.2.2.2.1,()),()))
noncomputable def xg:xa.G->Option (a_ BZ):=b8 xo
theorem Yj:bo ah (aO (dT (aO (codeOf Tryz.f21) 1 122)) 244 7826) (bE xa BZ xg):=cQ AL (by kernel_rfl) (bJ Vh aE) fun y=>by kernel_rfl
abbrev xK:Shape:=⟨[aX 0 .pack,aQ 1,aX 5 .str,ar 6],[],51⟩
abbrev CJ:List bh:=[(.exit 0,⟨[aX 5 .str],[],51⟩)]
noncomputable def Dr(y:xK.G):cJ xK CJ:=
 bif(decide (y.1.2.2.2.1<(y.1.1.length:Int))) then
(xg ((y.1.1,y.1.2.1,y.1.2.2.1,y.1.2.2.2.1,(0:Int),()),())).bind fun a=>
 some (.inl ((a.1.1,a.1.2.1,a.1.2.2.1,(IntKind.i64.wrap (a.1.2.2.2.1+(1:Int))),()),()))
else
 some (.inr ((y.1.2.2.1,()),()))
noncomputable def x4:xK.G->Option (a_ CJ):=b8 Dr
theorem ZL:bo ah (aO (codeOf Tryz.f21) 1 122) (bE xK CJ x4):=cQ AL (by kernel_rfl) (bJ Yj aE) fun y=>by kernel_rfl
abbrev i21:Shape:=⟨[aX 0 .pack,aQ 1],[],51⟩
abbrev Rf:Shape:=⟨[aX 4 .str],[],51⟩
noncomputable def f21(a:i21.G):Option Rf.G:=
(f55 ((a.1.1,()),())).bind fun b=>
 bif(b.1.1 !=(0:Int)) then
 some ((([]:List E),()),())
else
(x4 ((a.1.1,a.1.2.1,([]:List E),(0:Int),()),())).bind fun c=>
 some ((c.1.1,()),())
noncomputable def Sk:bg:=bq aH Tryz.f21 i21 Rf [] f21
theorem z21:bc ah 21 Sk:=bB AL Tryz.func21 (by kernel_rfl) (bJ ZL aE) (fun y=>by kernel_rfl) fun a=>by kernel_rfl
abbrev qn(l:List E):Prop:=l.Pairwise fun x y=>Op.bytesLess x y=true
def pd(l:List E)(s:E):List E:=match l.dropWhile fun x=>Op.bytesLess x s with
 |[]=>(l.takeWhile fun x=>Op.bytesLess x s)++[s]
 |y::r=>bif y==s then l else(l.takeWhile fun x=>Op.bytesLess x s)++s::y::r
theorem Lh{G cz:Type}{g:G->Option (Sum G cz)}(st:Nat->G)(n:Nat){b:cz}(h:∀i,i<n->g (st i)=some (.inl (st (i+1))))(he:g (st n)=some (.inr b)):∀k i,i+k=n->b8 g (st i)=some b:=by
 intro k;induction k with
 |zero=>
  intro i am;obtain rfl:i=n:=by omega
  exact eU he
 |succ k ih=>
  intro i am;rw[hj (h i (by omega))]
  exact ih (i+1) (by omega)
theorem Nn(p:E->Bool):∀(l:List E),∃T R,l.takeWhile p=T/\l.dropWhile p=R/\l=T++R/\(∀x,x∈T->p x=true)/\(R=[]\/∃y r,R=y::r/\p y=false):=by
 intro l;induction l with
 |nil=>exact⟨[],[],rfl,rfl,rfl,fun x h=>(by cases h),.inl rfl⟩
 |cons x l ih=>
  obtain⟨T,R,h1,h2,aa,aN,bn⟩:=ih;cases hx:p x with
  |false=>exact⟨[],x::l,by simp[List.takeWhile_cons,hx],by simp[List.dropWhile_cons,hx],rfl,fun x h=>(by cases h),.inr ⟨x,l,rfl,hx⟩⟩
  |true=>
   refine⟨x::T,R,by simp[List.takeWhile_cons,hx,h1],by simp[List.dropWhile_cons,hx,h2],by rw[aa];rfl,fun y an=>?_,bn⟩
   rcases List.mem_cons.1 an with rfl|an
   ·exact hx
   ·exact aN y an
theorem Zd(a)(H:a.1.1.length<=4194304):f57 a=some ((pd a.1.1 a.1.2.1,()),()):=by
 obtain⟨⟨l,s,u⟩,bS⟩:=a;have H:l.length<=4194304:=H;obtain⟨T,R,h1,h2,aa,aN,bn⟩:=Nn (fun x=>Op.bytesLess x s) l
 have hlen:l.length=T.length+R.length:=by rw[aa,List.length_append]
 have key:yP ((l,(s,((),(((0:Nat):Int),())))),(([]:List E),()))=some ((l,(s,((),((T.length:Int),())))),(([]:List E),())):=by
  refine Lh (fun i=>((l,(s,((),(((i:Nat):Int),())))),(([]:List E),()))) T.length (fun i am=>?_) ?_ _ 0 (Nat.zero_add _)
  ·have hx:l[i]? =some T[i]:=by rw[aa,List.getElem?_append_left am,List.getElem?_eq_getElem am]
   have ai:Op.bytesLess T[i] s=true:=aN _ (List.getElem_mem am);have hw:aW i:=by unfold aW;omega
   simp only[yX,c_ (dh hx),cond_true,cF,hx,Option.bind_some,ai,c2 hw]
  ·rcases bn with rfl|⟨y,r,rfl,ai⟩
   ·have hl:l.length=T.length:=by simpa using hlen
    simp only[yX,hl,eT,cond_false]
   ·have an:l[T.length]? =some y:=by rw[aa,List.getElem?_append_right (Nat.le_refl _),Nat.sub_self];rfl
    have ai:Op.bytesLess y s=false:=ai;simp only[yX,c_ (dh an),cond_true,cF,an,Option.bind_some,ai,cond_false]
 have key:yP ((l,(s,((),((0:Int),())))),(([]:List E),()))=_:=key;have a1:cT 16 ([]:List E) T=some T:=fT (by decide) (by unfold aW;simp only[List.length_nil];omega)
 have a2:cT 16 T [s]=some (T++[s]):=fT (by decide) (by unfold aW;simp only[List.length_singleton];omega)
 have a3:cT 16 (T++[s]) R=some (T++[s]++R):=fT (by decide) (by unfold aW;simp only[List.length_append,List.length_singleton];omega)
 have fin:(cB l (0:Int) (T.length:Int)).bind (fun ac6=>(cT 16 ([]:List E) ac6).bind fun ac5=>(cT 16 ac5 ([s]:List E)).bind fun ac4=>
   (cB l (T.length:Int) (l.length:Int)).bind fun ac3=>(cT 16 ac4 ac3).bind fun ac2=>some (((ac2,()),()):FT.G))=
   some (((T++[s]++R),()),()):=by
  rw[oJ (by omega),rf (by omega),show l.take T.length=T from by rw[aa];exact List.take_left,show l.drop T.length=R from by rw[aa];exact List.drop_left]
  simp only[Option.bind_some,a1,a2,a3]
 simp only[f57,key,Option.bind_some,D9,pd,h1,h2];rcases bn with rfl|⟨y,r,rfl,ai⟩
 ·have hl:l.length=T.length:=by simpa using hlen
  have Y:decide ((T.length:Int)<(l.length:Int))=false:=by rw[hl];exact eT
  rw[List.append_nil] at fin;simp only[Y,cond_false,Option.bind_some];exact fin
 ·have an:l[T.length]? =some y:=by rw[aa,List.getElem?_append_right (Nat.le_refl _),Nat.sub_self];rfl
  simp only[c_ (dh an),cond_true,cF,an,Option.bind_some];cases y==s with
  |true=>rfl
  |false=>simp only[cond_false];exact fin.trans (by simp)
theorem ua{l:List E}(bm:qn l)(s:E):qn (pd l s)/\∀x,x∈pd l s <-> x∈l\/x=s:=by
 obtain⟨T,R,h1,h2,hl,NM,bn⟩:=Nn (fun x=>Op.bytesLess x s) l
 simp only[pd,h1,h2];rcases bn with rfl|⟨y,r,rfl,ai⟩
 ·rw[List.append_nil] at hl;subst hl;refine⟨List.pairwise_append.2 ⟨bm,List.pairwise_singleton _ _,fun x hx z aK=>?_⟩,fun x=>by simp⟩
  rw[List.mem_singleton.1 aK];exact NM x hx
 ·simp only;cases he:y==s with
  |true=>
   have:=eq_of_beq he;subst this;simp only[cond_true];refine⟨bm,fun x=>⟨.inl,fun h=>h.elim id fun h=>?_⟩⟩
   show x∈l;rw[h,hl];simp
  |false=>
   have Rs:=M4 y s ai he;rw[hl] at bm;obtain⟨te,td,air⟩:=List.pairwise_append.1 bm;simp only[cond_false];refine⟨List.pairwise_append.2 ⟨te,List.pairwise_cons.2 ⟨fun z aK=>?_,td⟩,fun x hx z aK=>?_⟩,fun x=>?_⟩
   ·rcases List.mem_cons.1 aK with rfl|aK
    ·exact Rs
    ·exact tK _ _ _ Rs ((List.pairwise_cons.1 td).1 z aK)
   ·rcases List.mem_cons.1 aK with rfl|aK
    ·exact NM x hx
    ·exact air x hx z aK
   ·rw[hl];simp only[List.mem_append,List.mem_cons];constructor
    ·rintro(h|h|h|h)
     ·exact .inl (.inl h)
     ·exact .inr h
     ·exact .inl (.inr (.inl h))
     ·exact .inl (.inr (.inr h))
    ·rintro((h|h|h)|h)
     ·exact .inl h
     ·exact .inr (.inr (.inl h))
     ·exact .inr (.inr (.inr h))
     ·exact .inr (.inl h)
theorem qn.nodup{l:List E}(h:qn l):l.Nodup:=by
 refine List.Pairwise.imp ?_ h;intro a b vQ e;subst e;rw[rX] at vQ;cases vQ
def ku(p:a6)(l:List E):Bool:=p.b_.any fun d=>l.contains d.name
theorem V_(a)(hn:a.1.1.2.2.1.length<=2097152)(H:a.1.2.1.length<=2097152):f56 a=some ((ku ⟨a.1.1.1,a.1.1.2.1,a.1.1.2.2.1,a.1.1.2.2.2.1⟩ a.1.2.1,()),()):=by
 obtain⟨⟨⟨qV,vs,ao,es,mC⟩,l,u⟩,bS⟩:=a;have hn:ao.length<=2097152:=hn;have H:l.length<=2097152:=H;have key:D1 ((l,((),((0:Int),()))),((qV,(vs,(ao,(es,())))),()))=some (bif allI (fun _ (d:dq)=>!(l.contains d.name)) 0 ao then .inr ((),()) else .inl ((true,()),())):=by
  refine ig yY ao (fun i=>((l,((),((i:Int),()))),((qV,(vs,(ao,(es,())))),()))) _ _ _ (fun i d Y=>?_) ?_
  ·have am:=dh Y;have hw:aW i:=by unfold aW;omega
   have e:=Zc ((l,(d.name,())),()) H;simp only[yY,c_ am,cond_true,cF,Y,Option.bind_some,e,c2 hw];cases l.contains d.name<;>rfl
  ·simp only[yY,eT,cond_false]
 rw[ij] at key;have e:ao.all (fun d=>!(l.contains d.name))=!(ao.any fun d=>l.contains d.name):=by rw[List.not_any_eq_all_not]
 rw[e] at key;simp only[f56,key,Option.bind_some,ku];cases ao.any fun d=>l.contains d.name<;>rfl
def iM(n:E):List E->List a6->List E
 |D,[]=>D
 |D,p::r=>iM n (bif !(p.name==n)&&ku p (n::D) then pd D p.name else D) r
def lV(ps:List a6)(n:E):Nat->List E->List E
 |0,D=>D
 |k+1,D=>lV ps n k (iM n D ps)
structure hs(ps:List a6)(D:List E):Prop where
 nj:qn D
 of:∀s,s∈D->s∈ps.map (·.name)
theorem hs.len{ps:List a6}{D:List E}(h:hs ps D):D.length<=ps.length:=by
 have:=tH D _ h.nj.nodup h.of;simpa using this
theorem hs.add{ps:List a6}{D:List E}(h:hs ps D){p:a6}(ai:p∈ps):hs ps (pd D p.name):=by
 obtain⟨h1,h2⟩:=ua h.nj p.name;exact⟨h1,fun s H=>((h2 s).1 H).elim (h.of s) fun e=>by rw[e];exact List.mem_map.2 ⟨p,ai,rfl⟩⟩
theorem hs.round{ps:List a6}{n:E}:∀{r:List a6} {D:List E},hs ps D->(∀p,p∈r->p∈ps)->hs ps (iM n D r):=by
 intro r;induction r with
 |nil=>intro D h _;exact h
 |cons p r ih=>
  intro D h hr;refine ih ?_ fun q aA=>hr q (List.mem_cons_of_mem _ aA)
  cases !(p.name==n)&&ku p (n::D) with
  |true=>exact h.add (hr p List.mem_cons_self)
  |false=>exact h
theorem hs.rounds{ps:List a6}{n:E}:∀{k:Nat} {D:List E},hs ps D->hs ps (lV ps n k D):=by
 intro k;induction k with
 |zero=>intro D h;exact h
 |succ k ih=>intro D h;exact ih (h.round fun p ai=>ai)
def fr(ps:List a6)(n:E):List E:=bif eV ps==0 then lV ps n ps.length [] else []
theorem Wl(a)(hb:kO a.1.1)(hl:a.1.1.length<=2000000):f21 a=some ((fr a.1.1 a.1.2.1,()),()):=by
 obtain⟨⟨ps,n,u⟩,bS⟩:=a;have hl:ps.length<=2000000:=hl;have inner:∀(j:Nat) (r:List a6) (i:Nat) (D:List E),ps.drop i=r->i<=ps.length->hs ps D->
   xg ((ps,(n,(D,((j:Int),((i:Int),()))))),())=some ((ps,(n,(iM n D r,((j:Int),())))),()):=by
  intro j r;induction r with
  |nil=>
   intro i D hr am al;have:=drop_nil hr;have d1:decide ((i:Int)<(ps.length:Int))=false:=by simp only[decide_eq_false_iff_not];omega
   refine eU ?_
   simp only[xo,d1,cond_false,iM]
  |cons p r ih=>
   intro i D hr am al;obtain⟨bD,bM,cv⟩:=drop_cons hr;have Ry:=List.mem_of_getElem? bD;have hw:aW i:=by unfold aW;omega
   have oi:=al.len;have e1:cT 16 ([n]:List E) D=some (n::D):=fT (xs:=[n]) (by decide) (by unfold aW;simp only[List.length_singleton];omega)
   have e2:=V_ (((p.name,(p.cK,(p.b_,(p.ei,())))),(n::D,())),()) (hb.2 p Ry).2.2.1.1 (by simp only[List.length_cons];omega)
   have ce:=Zd ((D,(p.name,())),()) (by show D.length<=4194304;omega)
   have step:xo ((ps,(n,(D,((j:Int),((i:Int),()))))),())=some (.inl ((ps,(n,((bif !(p.name==n)&&ku p (n::D) then pd D p.name else D),((j:Int),(((i+1:Nat):Int),()))))),())):=by
    simp only[xo,Bl,c_ cv,cond_true,cF,bD,Option.bind_some];cases aA:(p.name==n) with
    |true=>simp only[Bool.not_true,cond_false,Option.bind_some,Bool.false_and,c2 hw]
    |false=>
     simp only[Bool.not_false,cond_true,e1,e2,Option.bind_some,Bool.true_and];cases ak:ku ⟨p.name,p.cK,p.b_,p.ei⟩ (n::D) with
     |true=>simp only[cond_true,cF,bD,Option.bind_some,ce,c2 hw]
     |false=>simp only[cond_false,c2 hw]
   refine(hj step).trans (ih (i+1) _ bM cv ?_);cases !(p.name==n)&&ku p (n::D) with
   |true=>exact al.add Ry
   |false=>exact al
 have outer:∀(k j:Nat) (D:List E),j+k=ps.length->hs ps D->x4 ((ps,(n,(D,((j:Int),())))),())=some ((lV ps n k D,()),()):=by
  intro k;induction k with
  |zero=>
   intro j D bv al;obtain rfl:j=ps.length:=by omega
   refine eU ?_
   simp only[Dr,eT,cond_false,lV]
  |succ k ih=>
   intro j D bv al;have hw:aW j:=by unfold aW;omega
   have e1:=inner j ps 0 D rfl (Nat.zero_le _) al;have e1:xg ((ps,(n,(D,((j:Int),((0:Int),()))))),())=_:=e1;refine(hj ?_).trans (ih (j+1) (iM n D ps) (by omega) (al.round fun p ai=>ai))
   simp only[Dr,c_ (show j<ps.length by omega),cond_true,e1,Option.bind_some,c2 hw]
 have gP:=V9 ((ps,()),()) hb;have e1:=outer ps.length 0 [] (by omega) ⟨List.Pairwise.nil,fun s H=>by cases H⟩
 have e1:x4 ((ps,(n,(([]:List E),((0:Int),())))),())=_:=e1;simp only[f21,gP,Option.bind_some,e1,fr];rcases hc:eV ps==0 with _|_
 ·have:(eV ps !=0)=true:=by simp only[bne,hc,Bool.not_false]
  rw[this];rfl
 ·have:(eV ps !=0)=false:=by simp only[bne,hc,Bool.not_true]
  rw[this];rfl
inductive iG(ps:List a6)(n:E):E->Prop where
 |mk (p:a6) (ai:p∈ps) (hn:p.name≠n) (d:dq) (Y:d∈p.b_) (h:d.name=n):iG ps n p.name
 |qM (p:a6) (ai:p∈ps) (hn:p.name≠n) (d:dq) (Y:d∈p.b_) (h:iG ps n d.name):iG ps n p.name
theorem HQ{p:a6}{l:List E}:ku p l=true <-> ∃d,d∈p.b_/\d.name∈l:=by
 simp only[ku,List.any_eq_true,List.contains_iff_mem]
def v1(ps:List a6)(n:E)(D:List E):Prop:=∀p,p∈ps->p.name≠n->∀d,d∈p.b_->d.name=n\/d.name∈D->p.name∈D
theorem DW{ps:List a6}{n:E}{D:List E}(h1:∀s,s∈D->iG ps n s)(h2:v1 ps n D)(s:E):s∈D <-> iG ps n s:=by
 refine⟨h1 s,fun h=>?_⟩
 induction h with
 |mk p ai hn d Y h=>exact h2 p ai hn d Y (.inl h)
 |qM p ai hn d Y _ ih=>exact h2 p ai hn d Y (.inr ih)
theorem B6{ps:List a6}{n:E}:∀{r:List a6} {D:List E},hs ps D->(∀p,p∈r->p∈ps)->(∀s,s∈D->iG ps n s)->∀s,s∈iM n D r->iG ps n s:=by
 intro r;induction r with
 |nil=>intro D _ _ h;exact h
 |cons p r ih=>
  intro D al hr h;have ai:=hr p List.mem_cons_self;simp only[iM];cases hc:!(p.name==n)&&ku p (n::D) with
  |false=>exact ih al (fun q aA=>hr q (List.mem_cons_of_mem _ aA)) h
  |true=>
   simp only[Bool.and_eq_true,Bool.not_eq_true',beq_eq_false_iff_ne,HQ] at hc;obtain⟨hn,d,Y,iz⟩:=hc;refine ih (al.add ai) (fun q aA=>hr q (List.mem_cons_of_mem _ aA)) fun s H=>?_
   rcases((ua al.nj p.name).2 s).1 H with H|rfl
   ·exact h s H
   ·rcases List.mem_cons.1 iz with e|e
    ·exact .mk p ai hn d Y e
    ·exact .qM p ai hn d Y (h _ e)
theorem BB{ps:List a6}{n:E}:∀{r:List a6} {D:List E},hs ps D->(∀p,p∈r->p∈ps)->∀s,s∈D->s∈iM n D r:=by
 intro r;induction r with
 |nil=>intro D _ _ s h;exact h
 |cons p r ih=>
  intro D al hr s H;simp only[iM];cases !(p.name==n)&&ku p (n::D) with
  |false=>exact ih al (fun q aA=>hr q (List.mem_cons_of_mem _ aA)) s H
  |true=>exact ih (al.add (hr p List.mem_cons_self)) (fun q aA=>hr q (List.mem_cons_of_mem _ aA)) s (((ua al.nj p.name).2 s).2 (.inl H))
theorem X3{ps:List a6}{n:E}:∀{r:List a6} {D:List E},hs ps D->(∀p,p∈r->p∈ps)->∀p,p∈r->p.name≠n->∀d,d∈p.b_->d.name=n\/d.name∈D->p.name∈iM n D r:=by
 intro r;induction r with
 |nil=>intro D _ _ p h;cases h
 |cons q r ih=>
  intro D al hr p ai hn d Y iz;have cx:∀p,p∈r->p∈ps:=fun q aA=>hr q (List.mem_cons_of_mem _ aA)
  simp only[iM];rcases List.mem_cons.1 ai with rfl|ai
  ·have hc:(!(p.name==n)&&ku p (n::D))=true:=by
    simp only[Bool.and_eq_true,Bool.not_eq_true',beq_eq_false_iff_ne,HQ];exact⟨hn,d,Y,List.mem_cons.2 iz⟩
   rw[hc];exact BB (al.add (hr p List.mem_cons_self)) cx _ (((ua al.nj p.name).2 _).2 (.inr rfl))
  ·cases !(q.name==n)&&ku q (n::D) with
   |false=>exact ih al cx p ai hn d Y iz
   |true=>exact ih (al.add (hr q List.mem_cons_self)) cx p ai hn d Y (iz.imp id fun h=>((ua al.nj q.name).2 _).2 (.inl h))
theorem WI{ps:List a6}{n:E}:∀(k:Nat) (D:List E),hs ps D->(∀s,s∈D->iG ps n s)->(∀s,s∈lV ps n k D->iG ps n s)/\(v1 ps n (lV ps n k D)\/D.length+k<=(lV ps n k D).length):=by
 intro k;induction k with
 |zero=>intro D _ h;exact⟨h,.inr (Nat.le_refl _)⟩
 |succ k ih=>
  intro D al h;have pk:=al.round (n:=n) (r:=ps) fun p ai=>ai
  obtain⟨h1,h2⟩:=ih (iM n D ps) pk (B6 al (fun p ai=>ai) h)
  refine⟨h1,?_⟩;rcases h2 with h2|h2
  ·exact .inl h2
  ·by_cases hc:v1 ps n (iM n D ps)
   ·-- then GY stays aip
    refine .inl ?_
    have stay:∀(k:Nat) (D:List E),hs ps D->v1 ps n D->(∀s,s∈D->iG ps n s)->v1 ps n (lV ps n k D):=by
     intro k;induction k with
     |zero=>intro D _ h _;exact h
     |succ k vl=>
      intro D al hc H;have pk:=al.round (n:=n) (r:=ps) fun p ai=>ai
      have ed:=B6 (n:=n) al (fun p ai=>ai) H
      refine vl _ pk (fun p ai hn d Y iz=>?_) ed
      have:p.name∈D:=(DW H hc _).2 (by
       rcases iz with e|e
       ·exact .mk p ai hn d Y e
       ·exact .qM p ai hn d Y (ed _ e))
      exact BB al (fun p ai=>ai) _ this
    exact stay k _ pk hc (B6 al (fun p ai=>ai) h)
   ·-- aji ajV
    refine .inr ?_
    have:D.length+1<=(iM n D ps).length:=by
     by_cases it:∀s,s∈iM n D ps->s∈D
     ·exfalso
      refine hc fun p ai hn d Y iz=>?_
      exact X3 al (fun p ai=>ai) p ai hn d Y (iz.imp id fun h=>it _ h)
     ·obtain⟨s,H⟩:=Classical.not_forall.1 it;obtain⟨kS,od⟩:=Classical.not_imp.1 H;have:=tH (s::D) (iM n D ps) (List.nodup_cons.2 ⟨od,al.nj.nodup⟩) (fun x hx=>by
       rcases List.mem_cons.1 hx with rfl|hx
       ·exact kS
       ·exact BB al (fun p ai=>ai) x hx)
      simpa using this
    show D.length+(k+1)<=_;exact Nat.le_trans (by omega) h2
theorem B7{ps:List a6}{n:E}(hc:eV ps=0)(s:E):s∈fr ps n <-> iG ps n s:=by
 have a8:hs ps []:=⟨List.Pairwise.nil,fun s H=>by cases H⟩
 have he:fr ps n=lV ps n ps.length []:=by unfold fr;rw[hc];rfl
 obtain⟨h1,h2⟩:=WI (n:=n) ps.length [] a8 (fun s H=>by cases H)
 have al:=a8.rounds (n:=n) (k:=ps.length);rw[he];refine DW h1 ?_ s;rcases h2 with h2|h2
 ·exact h2
 ·intro p ai _ d _ _;refine Classical.byContradiction fun uS=>?_
  have:=tH (p.name::lV ps n ps.length []) (ps.map (·.name)) (List.nodup_cons.2 ⟨uS,al.nj.nodup⟩) (fun x hx=>by
   rcases List.mem_cons.1 hx with rfl|hx
   ·exact List.mem_map.2 ⟨p,ai,rfl⟩
   ·exact al.of x hx)
  simp only[List.length_cons,List.length_map,List.length_nil] at this h2;omega
theorem Yy(ps:List a6)(n:E):qn (fr ps n):=by
 have a8:hs ps []:=⟨List.Pairwise.nil,fun s H=>by cases H⟩
 unfold fr;cases eV ps==0 with
 |true=>exact(a8.rounds (n:=n) (k:=ps.length)).nj
 |false=>exact List.Pairwise.nil
end Go.Proofs
namespace Go.Proofs
open Go.Shelf
def Tryz.UC:Go.Shelf.Ren:=⟨fun|190=>59|125=>103|258=>102|128=>173|129=>174|302=>164|303=>165|304=>166|305=>167|306=>168|307=>169|308=>170|309=>171|310=>172|333=>216|329=>217|330=>218|334=>219|335=>220|336=>175|344=>255|n=>n,fun|31=>38|9=>9|3=>3|46=>131|0=>0|51=>189|53=>191|4=>4|183=>182|182=>181|131=>92|5=>5|218=>216|222=>220|228=>245|229=>246|n=>n,fun|n=>n⟩
theorem Tryz.Lj:Go.Proofs.Lays.n190 ah Tryz.UC:={
 mixed:=by kernel_rfl
 f125:=Tryz.func103.trans (congrArg some (by kernel_rfl))
 f128:=Tryz.func173.trans (congrArg some (by kernel_rfl))
 f129:=Tryz.func174.trans (congrArg some (by kernel_rfl))
 f190:=Tryz.func59.trans (congrArg some (by kernel_rfl))
 f258:=Tryz.func102.trans (congrArg some (by kernel_rfl))
 f302:=Tryz.func164.trans (congrArg some (by kernel_rfl))
 f303:=Tryz.func165.trans (congrArg some (by kernel_rfl))
 f304:=Tryz.func166.trans (congrArg some (by kernel_rfl))
 f305:=Tryz.func167.trans (congrArg some (by kernel_rfl))
 f306:=Tryz.func168.trans (congrArg some (by kernel_rfl))
 f307:=Tryz.func169.trans (congrArg some (by kernel_rfl))
 f308:=Tryz.func170.trans (congrArg some (by kernel_rfl))
 f309:=Tryz.func171.trans (congrArg some (by kernel_rfl))
 f310:=Tryz.func172.trans (congrArg some (by kernel_rfl))
 f329:=Tryz.func217.trans (congrArg some (by kernel_rfl))
 f330:=Tryz.func218.trans (congrArg some (by kernel_rfl))
 f333:=Tryz.func216.trans (congrArg some (by kernel_rfl))
 f334:=Tryz.func219.trans (congrArg some (by kernel_rfl))
 f335:=Tryz.func220.trans (congrArg some (by kernel_rfl))
 f336:=Tryz.func175.trans (congrArg some (by kernel_rfl))
 f344:=Tryz.func255.trans (congrArg some (by kernel_rfl))
 t0:=Tryz.underlying0
 a0:=Tryz.isAgg0
 z0:=Tryz.sizeOf0
 v0:=Tryz.zeroValue0
 t3:=Tryz.underlying3
 a3:=Tryz.isAgg3
 z3:=Tryz.sizeOf3
 v3:=Tryz.zeroValue3
 t4:=Tryz.underlying4
 a4:=Tryz.isAgg4
 z4:=Tryz.sizeOf4
 v4:=Tryz.zeroValue4
 t5:=Tryz.underlying5
 a5:=Tryz.isAgg5
 z5:=Tryz.sizeOf5
 v5:=Tryz.zeroValue5
 t9:=Tryz.underlying9
 a9:=Tryz.isAgg9
 z9:=Tryz.sizeOf9
 v9:=Tryz.zeroValue9
 t31:=Tryz.underlying38
 a31:=Tryz.isAgg38
 z31:=Tryz.sizeOf38
 v31:=Tryz.zeroValue38
 t46:=Tryz.underlying131
 a46:=Tryz.isAgg131
 z46:=Tryz.sizeOf131
 v46:=Tryz.zeroValue131
 t51:=Tryz.underlying189
 a51:=Tryz.isAgg189
 z51:=Tryz.sizeOf189
 v51:=Tryz.zeroValue189
 t53:=Tryz.underlying191
 a53:=Tryz.isAgg191
 z53:=Tryz.sizeOf191
 v53:=Tryz.zeroValue191
 t131:=Tryz.underlying92
 a131:=Tryz.isAgg92
 z131:=Tryz.sizeOf92
 v131:=Tryz.zeroValue92
 t182:=Tryz.underlying181
 a182:=Tryz.isAgg181
 z182:=Tryz.sizeOf181
 v182:=Tryz.zeroValue181
 t183:=Tryz.underlying182
 a183:=Tryz.isAgg182
 z183:=Tryz.sizeOf182
 v183:=Tryz.zeroValue182
 t218:=Tryz.underlying216
 a218:=Tryz.isAgg216
 z218:=Tryz.sizeOf216
 v218:=Tryz.zeroValue216
 t222:=Tryz.underlying220
 a222:=Tryz.isAgg220
 z222:=Tryz.sizeOf220
 v222:=Tryz.zeroValue220
 t228:=Tryz.underlying245
 a228:=Tryz.isAgg245
 z228:=Tryz.sizeOf245
 v228:=Tryz.zeroValue245
 t229:=Tryz.underlying246
 a229:=Tryz.isAgg246
 z229:=Tryz.sizeOf246
 v229:=Tryz.zeroValue246}
open Go.Sort Go.RowKit in
theorem Tryz.slices_Sort_string(ba off cap:Nat)(aS:List (List UInt8))(w:World)(GZ:Holds encStr w ba off aS.toArray)(fL:ba<w.heap.size)(eX:aS.length<4611686018427387904):
  Calls ah 59 #[.slice (some ⟨ba,off,none⟩) aS.length cap] w fun e w'=>
   e=.returned (.tuple #[])/\∃n os,w'=grow (putRow encStr (Sort.ahead w n) ba off (aS.mergeSort fun x y=>decide (x<=y)).toArray) os:=Any.slices_Sort_string Tryz.Lj ba off cap aS w GZ fL eX
open Go.RowKit Go.Sort in
theorem Tryz.slices_Sort_string_none(p:Option Addr)(cap:Nat)(w:World):
  Calls ah 59 #[.slice p 0 cap] w fun e w'=>e=.returned (.tuple #[])/\w'=w:=Any.slices_Sort_string_none Tryz.Lj p cap w
end Go.Proofs
namespace Go.Proofs
open Go.Jk
noncomputable def PK:bg:=B2
theorem acl:bc ah 59 PK:=Zp (fun _ _=>enters_of Tryz.func59 (by kernel_rfl) rfl _ _) (fun b D c aS w h1 h2 aa=>Tryz.slices_Sort_string b D c aS w h1 h2 aa) (fun p c w=>Tryz.slices_Sort_string_none p c w)
noncomputable abbrev ah5:bZ:=[(58,GC),(59,PK)]
theorem vZ:bz ah (bX aH ah5):=bV ⟨QM,acl,⟨⟩⟩
abbrev wM:Shape:=⟨[aQ 1,bU 7 3000448,bx 9 9 0,aX 28 .pack,ar 29,ar 30,aX 35 .need,ar 36,ar 37],[(3000448,.ey,.slot 7 0),bI 9 [bW,bW,cm .need,cm .entry]],99⟩
abbrev Bw:List bh:=[(.exit 2,⟨[aQ 1,bU 7 3000448,aX 28 .pack,ar 29,ar 30],[(3000448,.ey,.slot 7 0)],99⟩)]
noncomputable def BK(y:wM.G):cJ wM Bw:=
 bif(decide (y.1.2.2.2.2.2.2.2.2.1<y.1.2.2.2.2.2.2.2.1)) then
(bd y.1.2.2.2.2.2.2.1 y.1.2.2.2.2.2.2.2.2.1).bind fun a=>
(pS y.2.1 a.name).bind fun b=>
(cT 16 b.2 ([y.2.2.1.1]:List E)).bind fun c=>
 some (.inl ((y.1.1,(),(),y.1.2.2.2.1,y.1.2.2.2.2.1,y.1.2.2.2.2.2.1,y.1.2.2.2.2.2.2.1,y.1.2.2.2.2.2.2.2.1,(IntKind.i64.wrap (y.1.2.2.2.2.2.2.2.2.1+(1:Int))),()),(c3 b.1 a.name (some c)),(y.2.2.1.1,y.2.2.1.2.1,y.2.2.1.2.2.1,y.2.2.1.2.2.2.1,()),()))
else
 some (.inr ((y.1.1,(),y.1.2.2.2.1,y.1.2.2.2.2.1,y.1.2.2.2.2.2.1,()),y.2.1,()))
noncomputable def wT:wM.G->Option (a_ Bw):=b8 BK
theorem WP:bo ah (aO (dT (aO (codeOf Tryz.f23) 1 122)) 244 31334) (bE wM Bw wT):=cQ vZ (by kernel_rfl) aE fun y=>by kernel_rfl
abbrev xH:Shape:=⟨[aQ 1,bU 7 3000448,aX 28 .pack,ar 29,ar 30],[(3000448,.ey,.slot 7 0)],99⟩
abbrev CH:List bh:=[(.exit 0,⟨[aQ 1,bU 7 3000448],[(3000448,.ey,.slot 7 0)],99⟩)]
noncomputable def Dp(y:xH.G):cJ xH CH:=
 bif(decide (y.1.2.2.2.2.1<y.1.2.2.2.1)) then
(bd y.1.2.2.1 y.1.2.2.2.2.1).bind fun a=>
(wT ((y.1.1,(),(),y.1.2.2.1,y.1.2.2.2.1,y.1.2.2.2.2.1,a.b_,(a.b_.length:Int),(0:Int),()),y.2.1,(a.name,a.cK,a.b_,a.ei,()),())).bind fun b=>
 some (.inl ((b.1.1,(),b.1.2.2.1,b.1.2.2.2.1,(IntKind.i64.wrap (b.1.2.2.2.2.1+(1:Int))),()),b.2.1,()))
else
 some (.inr ((y.1.1,(),()),y.2.1,()))
noncomputable def x3:xH.G->Option (a_ CH):=b8 Dp
theorem ZH:bo ah (aO (codeOf Tryz.f23) 1 122) (bE xH CH x3):=cQ vZ (by kernel_rfl) (bJ WP aE) fun y=>by kernel_rfl
abbrev wA:Shape:=⟨[(7,.aq (.d (.map .strs))),bU 12 3000768,bU 13 3000832,bU 14 3000896,aX 69 .str,ar 70,ar 71],[(3000768,.map .i64,.slot 12 0),(3000832,.tail .str,.slot 13 0),b3 3000896 .str 14 0],99⟩
abbrev Bf:List bh:=[(.exit 6,⟨[(7,.aq (.d (.map .strs))),bU 12 3000768,bU 13 3000832,bU 14 3000896],[(3000768,.map .i64,.slot 12 0),(3000832,.tail .str,.slot 13 0),b3 3000896 .str 14 0],99⟩)]
noncomputable def wG(y:wA.G):cJ wA Bf:=
 bif(decide (y.1.2.2.2.2.2.2.1<y.1.2.2.2.2.2.1)) then
(bd y.1.2.2.2.2.1 y.1.2.2.2.2.2.2.1).bind fun a=>
 bif(!((cU y.2.1 a).isSome)) then
(cT 16 y.2.2.1 ([a]:List E)).bind fun b=>
(cT 16 y.2.2.2.1 ([a]:List E)).bind fun c=>
 some (.inl ((y.1.1,(),(),(),y.1.2.2.2.2.1,y.1.2.2.2.2.2.1,(IntKind.i64.wrap (y.1.2.2.2.2.2.2.1+(1:Int))),()),(c3 y.2.1 a (y.2.1.length:Int)),b,c,()))
else
 some (.inl ((y.1.1,(),(),(),y.1.2.2.2.2.1,y.1.2.2.2.2.2.1,(IntKind.i64.wrap (y.1.2.2.2.2.2.2.1+(1:Int))),()),y.2.1,y.2.2.1,y.2.2.2.1,()))
else
 some (.inr ((y.1.1,(),(),(),()),y.2.1,y.2.2.1,y.2.2.2.1,()))
noncomputable def wE:wA.G->Option (a_ Bf):=b8 wG
theorem Ve:bo ah (aO (dT (aO (codeOf Tryz.f23) 1 1020)) 2040 130606) (bE wA Bf wE):=cQ vZ (by kernel_rfl) aE fun y=>by kernel_rfl
abbrev w_:Shape:=⟨[(7,.aq (.d (.map .strs))),bU 12 3000768,bU 13 3000832,bU 14 3000896],[(3000768,.map .i64,.slot 12 0),(3000832,.tail .str,.slot 13 0),b3 3000896 .str 14 0],99⟩
abbrev BY:List bh:=[(.exit 4,⟨[bU 14 3000896],[b3 3000896 .str 14 0],99⟩)]
noncomputable def Ci(y:w_.G):cJ w_ BY:=
 bif(decide ((y.2.2.1.length:Int)>(0:Int))) then
(hy y.2.2.1.length (0:Int)).bind fun a=>
(y.2.2.1[a]?).bind fun b=>
(cB y.2.2.1 (1:Int) (y.2.2.1.length:Int)).bind fun c=>
(wE ((y.1.1,(),(),(),((cU y.1.1 b).getD ([]:List E)),(((cU y.1.1 b).getD ([]:List E)).length:Int),(0:Int),()),y.2.1,c,y.2.2.2.1,())).bind fun d=>
 some (.inl ((d.1.1,(),(),(),()),d.2.1,d.2.2.1,d.2.2.2.1,()))
else
 some (.inr (((),()),y.2.2.2.1,()))
noncomputable def tJ:w_.G->Option (a_ BY):=b8 Ci
theorem Yi:bo ah (aO (codeOf Tryz.f23) 1 1020) (bE w_ BY tJ):=cQ vZ (by kernel_rfl) (bJ Ve aE) fun y=>by kernel_rfl
abbrev i23:Shape:=⟨[aX 0 .pack,aQ 1],[],99⟩
abbrev Re:Shape:=⟨[bU 4 3000256],[b3 3000256 .str 4 0],99⟩
noncomputable def f23(a:i23.G):Option Re.G:=
(f58 ((a.1.1,()),())).bind fun b=>
 bif(b.1.2.1 !=(0:Int)) then
 some (((),()),([]:List E),())
else
(x3 ((a.1.2.1,(),a.1.1,(a.1.1.length:Int),(0:Int),()),([]:List (E×Option (List E))),())).bind fun c=>
((((nW c.2.1).bind fun q=>some (q,(),(),(),())).bind fun z=>some (z,(c3 ([]:List (E×Int)) c.1.1 (0:Int)),([c.1.1]:List E),([]:List E),())).bind tJ).bind fun d=>
(rK d.2.1).bind fun e=>
 some (((),()),(ho d.2.1),())
noncomputable def Sj:bg:=bq aH Tryz.f23 i23 Re [] f23
theorem afv:bc ah 23 Sj:=bB vZ Tryz.func23 (by kernel_rfl) (bJ ZH (bJ Yi aE)) (fun y=>by kernel_rfl) fun a=>by kernel_rfl
def jR(m:List (E×List E)):List (E×Option (List E)):=m.map fun p=>(p.1,some p.2)
def gg(m:List (E×List E))(k:E):List E:=(cU m k).getD []
def u7(m:List (E×List E))(k s:E):List (E×List E):=c3 m k (gg m k++[s])
theorem _p{aJ:Type}(m:List (E×aJ))(k:E)(v:aJ)(k':E):cU (c3 m k v) k'=bif k==k' then some v else cU m k':=by
 induction m with
 |nil=>rfl
 |cons p m ih=>
  obtain⟨a,w⟩:=p;simp only[c3];cases h:a==k with
  |true=>
   have:=eq_of_beq h;subst this;simp only[cond_true,cU];cases a==k'<;>rfl
  |false=>
   simp only[cond_false,cU,ih];cases h1:a==k' with
   |false=>rfl
   |true=>
    have:=eq_of_beq h1;subst this;have:(k==a)=false:=by
     cases h2:k==a with
     |false=>rfl
     |true=>rw[eq_of_beq h2] at h;simp at h
    simp[this]
theorem _q(m:List (E×List E))(k:E):cU (jR m) k=(cU m k).map some:=by
 induction m with
 |nil=>rfl
 |cons p m ih=>
  simp only[jR,List.map_cons,cU];cases p.1==k with
  |true=>rfl
  |false=>exact ih
theorem Z7{aJ:Type}(m:List (E×aJ))(k:E)(v w:aJ):c3 (c3 m k v) k w=c3 m k w:=by
 induction m with
 |nil=>simp[c3]
 |cons p m ih=>
  simp only[c3];cases h:p.1==k with
  |true=>simp only[cond_true,c3,h]
  |false=>simp only[cond_false,c3,h,ih]
theorem K6(m:List (E×List E))(k:E)(v:List E):c3 (jR m) k (some v)=jR (c3 m k v):=Ij some k v m
theorem XP(m:List (E×List E))(k:E):∃e,pS (jR m) k=some (e,gg m k)/\∀v,c3 e k (some v)=jR (c3 m k v):=by
 unfold pS gg;rw[_q];cases cU m k with
 |none=>exact⟨jR m,rfl,K6 m k⟩
 |some xs=>exact⟨c3 (jR m) k none,rfl,fun v=>by rw[Z7,K6]⟩
theorem Xz(m:List (E×List E)):nW (jR m)=some m:=by
 induction m with
 |nil=>rfl
 |cons p m ih=>
  have ih:nW (m.map fun p=>(p.1,some p.2))=some m:=ih
  simp only[jR,List.map_cons,nW,ih]
def lv(s:E):List (E×List E)->List dq->List (E×List E)
 |m,[]=>m
 |m,d::r=>lv s (u7 m d.name s) r
def m5:List (E×List E)->List a6->List (E×List E)
 |m,[]=>m
 |m,p::r=>m5 (lv p.name m p.b_) r
def mh(m:List (E×List E))(T:Nat):Prop:=∀k,(gg m k).length<=T
theorem JE(m:List (E×List E))(k s k':E):gg (u7 m k s) k'=bif k==k' then gg m k++[s] else gg m k':=by
 unfold u7;show(cU (c3 m k _) k').getD []=_;rw[_p];cases k==k'<;>rfl
theorem mh.add{m:List (E×List E)}{T:Nat}(h:mh m T)(k s:E):mh (u7 m k s) (T+1):=by
 intro k';rw[JE];have h1:=h k;have h2:=h k';cases k==k' with
 |true=>simp only[cond_true,List.length_append,List.length_singleton];omega
 |false=>simp only[cond_false];omega
theorem mh.lv{s:E}:∀{r:List dq} {m:List (E×List E)} {T:Nat},mh m T->mh (lv s m r) (T+r.length):=by
 intro r;induction r with
 |nil=>intro m T h;exact h
 |cons d r ih=>
  intro m T h;have:=ih (h.add d.name s);simp only[List.length_cons];rw[show T+(r.length+1)=T+1+r.length from by omega]
  exact this
theorem YD{s:E}:∀{r:List dq} {m:List (E×List E)} (k x:E),x∈gg (lv s m r) k <-> x∈gg m k\/(x=s/\∃d,d∈r/\d.name=k):=by
 intro r;induction r with
 |nil=>intro m k x;simp[Go.Proofs.lv]
 |cons d r ih=>
  intro m k x;simp only[Go.Proofs.lv];rw[ih,JE];cases h:d.name==k with
  |true=>
   have:=eq_of_beq h;subst this;simp only[cond_true,List.mem_append,List.mem_singleton];constructor
   ·rintro((h|h)|⟨h1,tn,h2,aa⟩)
    ·exact .inl h
    ·exact .inr ⟨h,d,List.mem_cons_self,rfl⟩
    ·exact .inr ⟨h1,tn,List.mem_cons_of_mem _ h2,aa⟩
   ·rintro(h|⟨h1,_⟩)
    ·exact .inl (.inl h)
    ·exact .inl (.inr h1)
  |false=>
   simp only[cond_false];refine or_congr Iff.rfl (and_congr Iff.rfl ⟨fun⟨tn,h1,h2⟩=>⟨tn,List.mem_cons_of_mem _ h1,h2⟩,fun⟨tn,h1,h2⟩=>?_⟩)
   rcases List.mem_cons.1 h1 with rfl|h1
   ·rw[h2] at h;simp at h
   ·exact⟨tn,h1,h2⟩
theorem YC:∀{r:List a6} {m:List (E×List E)} (k x:E),x∈gg (m5 m r) k <-> x∈gg m k\/∃p,p∈r/\x=p.name/\∃d,d∈p.b_/\d.name=k:=by
 intro r;induction r with
 |nil=>intro m k x;simp[m5]
 |cons p r ih=>
  intro m k x;simp only[m5];rw[ih,YD,or_assoc];refine or_congr Iff.rfl ⟨?_,?_⟩
  ·rintro(⟨h1,h2⟩|⟨q,h1,h2⟩)
   ·exact⟨p,List.mem_cons_self,h1,h2⟩
   ·exact⟨q,List.mem_cons_of_mem _ h1,h2⟩
  ·rintro⟨q,h1,h2⟩;rcases List.mem_cons.1 h1 with rfl|h1
   ·exact .inl h2
   ·exact .inr ⟨q,h1,h2⟩
theorem _M{aJ:Type}{xs ys:List aJ}(h:xs.length+ys.length<=8796093022208):cT 16 xs ys=some (xs++ys):=by
 unfold cT;rw[if_pos ⟨by unfold room;omega,by unfold maxLen;omega⟩]
theorem JD{i:Nat}(h:i<=8796093022208):IntKind.i64.wrap ((i:Int)+1)=((i+1:Nat):Int):=by
 rw[eh (by omega) (by omega)];omega
theorem _4(ps:List a6)(n:E)(p:a6)(c:Nat)(hn:p.b_.length<=2097152):∀(r:List dq) (i:Nat) (m:List (E×List E)) (T:Nat),p.b_.drop i=r->i<=p.b_.length->mh m T->T+r.length<=8796093022207->
  wT ((n,((),((),(ps,((ps.length:Int),((c:Int),(p.b_,((p.b_.length:Int),((i:Int),()))))))))),(jR m,((p.name,(p.cK,(p.b_,(p.ei,())))),())))=
   some ((n,((),(ps,((ps.length:Int),((c:Int),()))))),(jR (lv p.name m r),())):=by
 intro r;induction r with
 |nil=>
  intro i m T hr am dd aY;have:=drop_nil hr;have d1:decide ((i:Int)<(p.b_.length:Int))=false:=by simp only[decide_eq_false_iff_not];omega
  refine eU ?_
  simp only[BK,d1,cond_false,lv]
 |cons d r ih=>
  intro i m T hr am dd aY;obtain⟨bD,bM,cv⟩:=drop_cons hr;have hw:aW i:=by unfold aW;omega
  simp only[List.length_cons] at aY;obtain⟨e,h1,h2⟩:=XP m d.name;have aa:cT 16 (gg m d.name) [p.name]=some (gg m d.name++[p.name]):=_M (by have:=dd d.name;simp only[List.length_singleton];omega)
  refine(hj ?_).trans (ih (i+1) (u7 m d.name p.name) (T+1) bM cv (dd.add _ _) (by omega))
  simp only[BK,c_ cv,cond_true,cF,bD,Option.bind_some,h1,aa,h2,c2 hw];rfl
theorem _3(ps:List a6)(n:E)(hb:kO ps)(hl:ps.length<=2000000):∀(r:List a6) (i:Nat) (m:List (E×List E)),ps.drop i=r->i<=ps.length->mh m (i*2097152)->
  x3 ((n,((),(ps,((ps.length:Int),((i:Int),()))))),(jR m,()))=some ((n,((),())),(jR (m5 m r),()))/\mh (m5 m r) (ps.length*2097152):=by
 intro r;induction r with
 |nil=>
  intro i m hr am dd;have:=drop_nil hr;have d1:decide ((i:Int)<(ps.length:Int))=false:=by simp only[decide_eq_false_iff_not];omega
  have lE:i=ps.length:=by omega
  refine⟨eU ?_,by rw[<-lE];exact dd⟩
  simp only[Dp,d1,cond_false,m5]
 |cons p r ih=>
  intro i m hr am dd;obtain⟨bD,bM,cv⟩:=drop_cons hr;have hw:aW i:=by unfold aW;omega
  have pj:p.b_.length<=2097152:=(hb.2 p (List.mem_of_getElem? bD)).2.2.1.1;have lE:i<2000000:=by omega
  have e1:=_4 ps n p i pj p.b_ 0 m (i*2097152) rfl (Nat.zero_le _) dd (by omega)
  have e1:wT ((n,((),((),(ps,((ps.length:Int),((i:Int),(p.b_,((p.b_.length:Int),((0:Int),()))))))))),(jR m,((p.name,(p.cK,(p.b_,(p.ei,())))),())))=_:=e1;have AG:mh (lv p.name m p.b_) ((i+1)*2097152):=fun k=>Nat.le_trans (dd.lv (r:=p.b_) k) (by omega)
  obtain⟨aw,aj⟩:=ih (i+1) (lv p.name m p.b_) bM cv AG;refine⟨(hj ?_).trans aw,aj⟩;simp only[Dp,c_ cv,cond_true,cF,bD,Option.bind_some,e1,c2 hw]
theorem YN(es:List (E×Int))(x:E):(cU es x).isSome=(io es).contains x:=by
 induction es with
 |nil=>rfl
 |cons p es ih=>
  simp only[cU,io,List.map_cons,List.contains_cons];have hc:(x==p.1)=(p.1==x):=by
   rw[Bool.eq_iff_iff,beq_iff_eq,beq_iff_eq];exact eq_comm
  rw[hc];cases p.1==x with
  |true=>rfl
  |false=>simp only[cond_false,Bool.false_or];exact ih
def kE(n:E):List E->List E->List E
 |N,[]=>N
 |N,x::r=>kE n (bif(n::N).contains x then N else N++[x]) r
structure nm(ps:List a6)(n:E)(N:List E):Prop where
 qp:(n::N).Nodup
 of:∀s,s∈N->s∈ps.map (·.name)
 tf:∀s,s∈N->iG ps n s
theorem nm.len{ps:List a6}{n:E}{N:List E}(h:nm ps n N):N.length<=ps.length:=by
 have:=tH N _ (List.nodup_cons.1 h.qp).2 h.of;simpa using this
theorem nm.add{ps:List a6}{n:E}{N:List E}(h:nm ps n N){x:E}(hx:x≠n->iG ps n x/\x∈ps.map (·.name)):nm ps n (bif(n::N).contains x then N else N++[x]):=by
 cases hc:(n::N).contains x with
 |true=>exact h
 |false=>
  have mo:x∉n::N:=by simpa using hc
  have Ro:x≠n:=fun e=>mo (by rw[e];exact List.mem_cons_self)
  have F1:x∉N:=fun e=>mo (List.mem_cons_of_mem _ e)
  obtain⟨h1,h2⟩:=hx Ro;obtain⟨b6,cX⟩:=List.nodup_cons.1 h.qp;refine⟨List.nodup_cons.2 ⟨fun hm=>?_,?_⟩,fun s H=>?_,fun s H=>?_⟩
  ·rcases List.mem_append.1 hm with hm|hm
   ·exact b6 hm
   ·exact Ro (List.mem_singleton.1 hm).symm
  ·refine List.nodup_append.2 ⟨cX,by simp,fun a bm b hb e=>?_⟩
   rw[List.mem_singleton.1 hb] at e;exact F1 (e▸bm)
  ·rcases List.mem_append.1 H with H|H
   ·exact h.of s H
   ·rw[List.mem_singleton.1 H];exact h2
  ·rcases List.mem_append.1 H with H|H
   ·exact h.tf s H
   ·rw[List.mem_singleton.1 H];exact h1
theorem YM(n:E):∀(r N:List E),(∃t,kE n N r=N++t)/\∀x,x∈r->x∈n::kE n N r:=by
 intro r;induction r with
 |nil=>intro N;exact⟨⟨[],by simp[kE]⟩,fun x h=>by cases h⟩
 |cons y r ih=>
  intro N;simp only[kE];cases hc:(n::N).contains y with
  |true=>
   obtain⟨⟨t,h1⟩,h2⟩:=ih N;refine⟨⟨t,h1⟩,fun x hx=>?_⟩
   rcases List.mem_cons.1 hx with rfl|hx
   ·have:x∈n::N:=by simpa using hc
    simp only[cond_true,h1];rcases List.mem_cons.1 this with rfl|h
    ·exact List.mem_cons_self
    ·exact List.mem_cons_of_mem _ (List.mem_append.2 (.inl h))
   ·exact h2 x hx
  |false=>
   obtain⟨⟨t,h1⟩,h2⟩:=ih (N++[y]);simp only[cond_false];refine⟨⟨y::t,by rw[h1];simp⟩,fun x hx=>?_⟩
   rcases List.mem_cons.1 hx with rfl|hx
   ·rw[h1];simp
   ·exact h2 x hx
theorem Zf(ps:List a6)(n:E)(hl:ps.length<=2000000)(m:List (E×List E))(xs:List E)(qu:xs.length<=8796093022207)(fb:∀x,x∈xs->x≠n->iG ps n x/\x∈ps.map (·.name))(k:Nat):∀(r:List E) (i:Nat) (es:List (E×Int)) (N:List E),
  xs.drop i=r->i<=xs.length->nm ps n N->io es=n::N->k<=N.length+1->
  ∃hB,io hB=n::kE n N r/\nm ps n (kE n N r)/\wE ((m,((),((),((),(xs,((xs.length:Int),((i:Int),()))))))),(es,((n::N).drop k,(N,()))))=
   some ((m,((),((),((),())))),(hB,((n::kE n N r).drop k,(kE n N r,())))):=by
 intro r;induction r with
 |nil=>
  intro i es N hr am fk ak gI;have:=drop_nil hr;have d1:decide ((i:Int)<(xs.length:Int))=false:=by simp only[decide_eq_false_iff_not];omega
  refine⟨es,ak,fk,eU ?_⟩;simp only[wG,d1,cond_false,kE]
 |cons x r ih=>
  intro i es N hr am fk ak gI;obtain⟨bD,bM,cv⟩:=drop_cons hr;have sM:=List.mem_of_getElem? bD;have Gr:=fk.add (fb x sM);have hlen:=fk.len;have j9:=YN es x;rw[ak] at j9;simp only[kE];cases hc:(n::N).contains x with
  |true=>
   rw[hc] at j9;simp only[cond_true];obtain⟨hB,q1,q2,eg⟩:=ih (i+1) es N bM cv fk ak gI;refine⟨hB,q1,q2,(hj ?_).trans eg⟩;simp only[wG,c_ cv,cond_true,cF,bD,Option.bind_some,j9,Bool.not_true,cond_false,JD (show i<=8796093022208 by omega)]
  |false=>
   rw[hc] at j9 Gr;simp only[cond_false] at Gr ⊢;have E4:io (c3 es x (es.length:Int))=n::(N++[x]):=by
    rw[Bi x _ es (by rw[ak];exact hc)]
    simp only[io,List.map_append,List.map_cons,List.map_nil];have:es.map (·.1)=n::N:=ak;rw[this];rfl
   obtain⟨hB,q1,q2,eg⟩:=ih (i+1) (c3 es x (es.length:Int)) (N++[x]) bM cv Gr E4 (by simp only[List.length_append,List.length_singleton];omega)
   have aiI:(n::(N++[x])).drop k=(n::N).drop k++[x]:=by
    rw[show n::(N++[x])=(n::N)++[x] from rfl,List.drop_append_of_le_length (by simp only[List.length_cons];omega)]
   rw[aiI] at eg;have a1:cT 16 ((n::N).drop k) [x]=some ((n::N).drop k++[x]):=fT (by decide) (by unfold aW;simp only[List.length_drop,List.length_cons,List.length_nil];omega)
   have a2:cT 16 N [x]=some (N++[x]):=fT (by decide) (by unfold aW;simp only[List.length_singleton];omega)
   refine⟨hB,q1,q2,(hj ?_).trans eg⟩;simp only[wG,c_ cv,cond_true,cF,bD,Option.bind_some,j9,Bool.not_false,a1,a2,JD (show i<=8796093022208 by omega)]
theorem abu(ps:List a6)(n:E)(hl:ps.length<=2000000)(m:List (E×List E))(hm:∀k s,s∈gg m k <-> ∃p,p∈ps/\s=p.name/\∃d,d∈p.b_/\d.name=k)(dd:mh m (ps.length*2097152)):∀(w k:Nat) (es:List (E×Int)) (N:List E),
  k+w=ps.length+1->nm ps n N->io es=n::N->k<=N.length+1->(∀x,x∈(n::N).take k->∀s,s∈gg m x->s∈n::N)->
  ∃to,nm ps n to/\(∀x,x∈n::to->∀s,s∈gg m x->s∈n::to)/\tJ ((m,((),((),((),())))),(es,((n::N).drop k,(N,()))))=some (((),()),(to,())):=by
 have stop:∀(es:List (E×Int)) (N:List E),tJ ((m,((),((),((),())))),(es,(([]:List E),(N,()))))=some (((),()),(N,())):=by
  intro es N;refine eU ?_
  have:decide ((([]:List E).length:Int)>(0:Int))=false:=by simp
  simp only[Ci,this,cond_false]
 intro w;induction w with
 |zero=>
  intro k es N agJ fk ak gI sd;have:=fk.len;have e:(n::N).drop k=[]:=List.drop_eq_nil_of_le (by simp only[List.length_cons];omega)
  have e2:(n::N).take k=n::N:=List.take_of_length_le (by simp only[List.length_cons];omega)
  rw[e2] at sd;rw[e];exact⟨N,fk,sd,stop es N⟩
 |succ w ih=>
  intro k es N agJ fk ak gI sd;cases Y:(n::N).drop k with
  |nil=>
   have dc:(n::N).length<=k:=List.drop_eq_nil_iff.1 Y;rw[List.take_of_length_le dc] at sd;exact⟨N,fk,sd,stop es N⟩
  |cons x rest=>
   have hx:(n::N)[k]? =some x:=by
    have:=congrArg List.head? Y;rw[List.head?_drop] at this;exact this
   have ln:(n::N).drop (k+1)=rest:=by
    rw[<-List.drop_drop,Y];rfl
   have adI:k<(n::N).length:=dh hx;simp only[List.length_cons] at adI;have sM:x∈n::N:=List.mem_of_getElem? hx;have agr:∀s,s∈gg m x->s≠n->iG ps n s/\s∈ps.map (·.name):=by
    intro s H Rt;obtain⟨p,ai,rfl,d,gq,ng⟩:=(hm x s).1 H;refine⟨?_,List.mem_map.2 ⟨p,ai,rfl⟩⟩;rcases List.mem_cons.1 sM with rfl|F1
    ·exact .mk p ai Rt d gq ng
    ·exact .qM p ai Rt d gq (by rw[ng];exact fk.tf x F1)
   have mr:(gg m x).length<=8796093022207:=Nat.le_trans (dd x) (by omega)
   obtain⟨hB,q1,q2,eg⟩:=Zf ps n hl m (gg m x) mr agr (k+1) (gg m x) 0 es N rfl (Nat.zero_le _) fk ak (by omega)
   obtain⟨⟨t,aC⟩,oj⟩:=YM n (gg m x) N;obtain⟨to,cy,b',dy⟩:=ih (k+1) hB (kE n N (gg m x)) (by omega) q2 q1 (by rw[aC];simp only[List.length_append];omega) (fun y an s H=>by
    have ahs:(n::kE n N (gg m x)).take (k+1)=(n::N).take k++[x]:=by
     rw[aC,show n::(N++t)=(n::N)++t from rfl,List.take_append_of_le_length (by simp only[List.length_cons];omega),List.take_add_one,hx]
     rfl
    rw[ahs] at an;rcases List.mem_append.1 an with an|an
    ·have:=sd y an s H;rw[aC];rcases List.mem_cons.1 this with rfl|h
     ·exact List.mem_cons_self
     ·exact List.mem_cons_of_mem _ (List.mem_append.2 (.inl h))
    ·rw[List.mem_singleton.1 an] at H;exact oj s H)
   refine⟨to,cy,b',(hj ?_).trans dy⟩;rw[ln] at eg;have eg:wE ((m,((),((),((),((cU m x).getD ([]:List E),((((cU m x).getD ([]:List E)).length:Int),((0:Int),()))))))),(es,(rest,(N,()))))=_:=eg;have d0:decide ((((x::rest).length:Nat):Int)>(0:Int))=true:=by simp only[List.length_cons,decide_eq_true_eq];omega
   have d1:hy (x::rest).length (0:Int)=some 0:=lc (i:=0) (by simp)
   have d2:cB (x::rest) (1:Int) ((x::rest).length:Int)=some rest:=by
    have:=rf (xs:=x::rest) (a:=1) (by simp)
    exact this
   simp only[Ci,d0,cond_true,d1,Option.bind_some,List.getElem?_cons_zero,d2,eg]
theorem acf:∀a b:E,Op.bytesLess a b=true <-> a<b:=by
 intro a;induction a with
 |nil=>
  intro b;cases b with
  |nil=>simp[Op.bytesLess]
  |cons y b=>simp[Op.bytesLess]
 |cons x a ih=>
  intro b;cases b with
  |nil=>simp[Op.bytesLess]
  |cons y b=>
   simp only[Op.bytesLess,Bool.or_eq_true,decide_eq_true_eq,Bool.and_eq_true,beq_iff_eq,List.cons_lt_cons_iff,ih]
theorem Wx{l:List E}(h:l.Nodup):qn (ho l)/\∀x,x∈ho l <-> x∈l:=by
 have ai:(ho l).Perm l:=List.mergeSort_perm l _;have H:(ho l).Pairwise fun x y=>decide (x<=y)=true:=List.pairwise_mergeSort (le:=fun x y:E=>decide (x<=y))
  (fun a b c h1 h2=>by simp only[decide_eq_true_eq] at*;exact List.le_trans h1 h2) (fun a b=>by simp only[Bool.or_eq_true,decide_eq_true_eq];exact List.le_total a b) l
 refine⟨?_,fun x=>ai.mem_iff⟩
 have hn:(ho l).Pairwise fun x y=>x≠y:=ai.nodup_iff.2 h
 refine(H.and hn).imp ?_
 rintro a b ⟨h1,h2⟩;simp only[decide_eq_true_eq] at h1;refine M4 b a ?_ (by simpa using fun e:b=a=>h2 e.symm)
 cases hb:Op.bytesLess b a with
 |false=>rfl
 |true=>exact absurd ((acf b a).1 hb) (List.not_lt.2 h1)
theorem UU(a)(hb:kO a.1.1)(hl:a.1.1.length<=2000000):f23 a=some (((),()),((fr a.1.1 a.1.2.1,()))):=by
 obtain⟨⟨ps,n,u⟩,bS⟩:=a;have hl:ps.length<=2000000:=hl;have gP:=HD ((ps,()),()) hb;obtain⟨e1,dd⟩:=_3 ps n hb hl ps 0 [] rfl (Nat.zero_le _) (fun k=>Nat.zero_le _)
 have e1:x3 ((n,((),(ps,((ps.length:Int),((0:Int),()))))),(([]:List (E×Option (List E))),()))=_:=e1;have hm:∀k s,s∈gg (m5 [] ps) k <-> ∃p,p∈ps/\s=p.name/\∃d,d∈p.b_/\d.name=k:=fun k s=>by
  rw[YC];exact⟨fun h=>h.elim (fun h=>by cases h) id,.inr⟩
 have ahh:nm ps n []:=⟨by simp,(fun s H=>by cases H),(fun s H=>by cases H)⟩
 obtain⟨N,q1,q2,eg⟩:=abu ps n hl (m5 [] ps) hm dd (ps.length+1) 0 (c3 ([]:List (E×Int)) n (0:Int)) [] (by omega) ahh rfl (Nat.zero_le _) (fun x hx=>by simp at hx)
 have eg:tJ ((m5 [] ps,((),((),((),())))),(c3 ([]:List (E×Int)) n (0:Int),([n],(([]:List E),()))))=_:=eg;have H:rK N=some ():=by
  unfold rK;rw[if_pos];have:=q1.len;omega
 simp only[f23,gP,Option.bind_some,e1,Xz,eg,H];show(bif eV ps !=0 then _ else _)=some (((),()),(fr ps n,()))
 rcases hc:eV ps==0 with _|_
 ·have:(eV ps !=0)=true:=by simp only[bne,hc,Bool.not_false]
  rw[this];simp only[cond_true,fr,hc,cond_false]
 ·have:(eV ps !=0)=false:=by simp only[bne,hc,Bool.not_true]
  rw[this];simp only[cond_false];have Gl:eV ps=0:=eq_of_beq hc;obtain⟨b6,cX⟩:=List.nodup_cons.1 q1.qp;obtain⟨s1,s2⟩:=Wx cX;have:ho N=fr ps n:=aaO (key:=fun x=>x) s1 (Yy ps n) fun x=>by
   rw[s2,B7 Gl];refine DW q1.tf (fun p ai pj d Y iz=>?_) x
   have oj:p.name∈n::N:=q2 d.name (List.mem_cons.2 iz) p.name ((hm _ _).2 ⟨p,ai,rfl,d,Y,rfl⟩);exact(List.mem_cons.1 oj).resolve_left pj
  rw[this]
abbrev yH:Shape:=⟨[aX 0 .str,aX 1 .str,ar 5],[],26⟩
abbrev DR:List bh:=[(.ret,⟨[aV 4],[],26⟩),(.exit 0,⟨[],[],26⟩)]
noncomputable def y1(y:yH.G):cJ yH DR:=
 bif(decide (y.1.2.2.1<(y.1.1.length:Int))) then
(bd y.1.1 y.1.2.2.1).bind fun a=>
(bd y.1.2.1 y.1.2.2.1).bind fun b=>
 bif(!(a==b)) then
 some (.inr (.inl ((false,()),())))
else
 some (.inl ((y.1.1,y.1.2.1,(IntKind.i64.wrap (y.1.2.2.1+(1:Int))),()),()))
else
 some (.inr (.inr ((),())))
noncomputable def D3:yH.G->Option (a_ DR):=b8 y1
theorem aak:bo ah (aO (codeOf Tryz.f41) 1 58) (bE yH DR D3):=cQ g0 (by kernel_rfl) aE fun y=>by kernel_rfl
abbrev i41:Shape:=⟨[aX 0 .str,aX 1 .str],[],26⟩
abbrev Rb:Shape:=⟨[aV 4],[],26⟩
noncomputable def f41(a:i41.G):Option Rb.G:=
 bif((a.1.1.length:Int) !=(a.1.2.1.length:Int)) then
 some ((false,()),())
else
(D3 ((a.1.1,a.1.2.1,(0:Int),()),())).bind fun b=>
(match b with
|.inl c=>
 some ((c.1.1,()),())
|.inr d=>
 some ((true,()),()))
noncomputable def Sh:bg:=bq aH Tryz.f41 i41 Rb [] f41
theorem afu:bc ah 41 Sh:=bB g0 Tryz.func41 (by kernel_rfl) (bJ aak aE) (fun y=>by kernel_rfl) fun a=>by kernel_rfl
noncomputable abbrev aci:bZ:=[(81,kH),(129,j5),(130,ur),(131,Nb)]
theorem EG:bz ah (bX aH aci):=bV ⟨lj,kw,yq,_W,⟨⟩⟩
abbrev HK:Shape:=⟨[bx 0 500000 0,bU 3 3000192,aX 4 .str,ar 5,bx 6 6 0,aX 18 .str,ar 19,aQ 21,bx 22 500000 0,aQ 23,hE 24 [bW,bW,.own 3001538,.own 3001539]],[bI 500000 [cm .u8,bQ],b3 3000192 .pack 3 0,ep 5000386 .need 6 2,ep 5000387 .entry 6 3,bI 6 [bW,bW,.own 5000386,.own 5000387],b3 3001538 .need 24 2,b3 3001539 .entry 24 3],47⟩
abbrev HG:List bh:=[(.norm,⟨[bx 0 500000 0,bU 3 3000192,aX 4 .str,ar 5,bx 6 6 0,aX 18 .str,ar 19,aQ 21,bx 22 500000 0,aQ 23,hE 24 [bW,bW,.own 3001538,.own 3001539]],[bI 500000 [cm .u8,bQ],b3 3000192 .pack 3 0,ep 5000386 .need 6 2,ep 5000387 .entry 6 3,bI 6 [bW,bW,.own 5000386,.own 5000387],b3 3001538 .need 24 2,b3 3001539 .entry 24 3],47⟩)]
noncomputable def Bb(y:HK.G):Option (a_ HG):=
(gx (((),(2:Int),()),(y.2.1.1,y.2.1.2.1,()),())).bind fun a=>
 bif(a.1.2.1==(0:Int)) then
(jm (((),y.1.2.2.1,()),(a.2.1.1,a.2.1.2.1,()),())).bind fun b=>
 some (((),(),y.1.2.2.1,y.1.2.2.2.1,(),y.1.2.2.2.2.2.1,y.1.2.2.2.2.2.2.1,y.1.2.2.2.2.2.2.2.1,(),y.1.2.2.2.2.2.2.2.2.2.1,(y.1.2.2.2.2.2.2.2.2.2.2.1.1,y.1.2.2.2.2.2.2.2.2.2.2.1.2.1,(),(),()),()),(b.2.1.1,b.2.1.2.1,()),y.2.2.1,([(dq.mk b.1.2.1 (0:Int) ([]:E))]:List dq),y.2.2.2.2.1,(y.2.2.2.2.2.1.1,y.2.2.2.2.2.1.2.1,(),(),()),y.2.2.2.2.2.2.1,y.2.2.2.2.2.2.2.1,())
else
 some (((),(),y.1.2.2.1,y.1.2.2.2.1,(),y.1.2.2.2.2.2.1,y.1.2.2.2.2.2.2.1,y.1.2.2.2.2.2.2.2.1,(),y.1.2.2.2.2.2.2.2.2.2.1,(y.1.2.2.2.2.2.2.2.2.2.2.1.1,y.1.2.2.2.2.2.2.2.2.2.2.1.2.1,(),(),()),()),(a.2.1.1,a.2.1.2.1,()),y.2.2.1,y.2.2.2.1,y.2.2.2.2.1,(y.2.2.2.2.2.1.1,y.2.2.2.2.2.1.2.1,(),(),()),y.2.2.2.2.2.2.1,y.2.2.2.2.2.2.2.1,())
theorem Up:bo ah (aO (dT (aO (codeOf Tryz.f80) 1 122)) 244 31306) (bE HK HG Bb):=dD EG (by kernel_rfl) aE fun y=>by kernel_rfl
abbrev wL:Shape:=⟨[bx 0 500000 0,bU 3 3000192,aX 4 .str,ar 5],[bI 500000 [cm .u8,bQ],b3 3000192 .pack 3 0],47⟩
abbrev Bv:List bh:=[(.exit 0,⟨[bx 0 500000 0,bU 3 3000192],[bI 500000 [cm .u8,bQ],b3 3000192 .pack 3 0],47⟩)]
noncomputable def Jp(y:wL.G):cJ wL Bv:=
 bif(decide (y.1.2.2.2.1<(y.1.2.2.1.length:Int))) then
(gx (((),(4:Int),()),(y.2.1.1,y.2.1.2.1,()),())).bind fun a=>
 bif(decide (a.1.2.1>(0:Int))) then
(bd y.1.2.2.1 y.1.2.2.2.1).bind fun b=>
(pY (((),()),(a.2.1.1,a.2.1.2.1,()),())).bind fun c=>
(Bb (((),(),y.1.2.2.1,y.1.2.2.2.1,(),y.1.2.2.1,y.1.2.2.2.1,b,(),c.1.2.1,(b,c.1.2.1,(),(),()),()),(c.2.1.1,c.2.1.2.1,()),y.2.2.1,([]:List dq),([]:List bu),(b,c.1.2.1,(),(),()),([]:List dq),([]:List bu),())).bind fun d=>
(cT 80 d.2.2.1 ([(a6.mk d.2.2.2.2.2.1.1 d.2.2.2.2.2.1.2.1 d.2.2.2.1 d.2.2.2.2.1)]:List a6)).bind fun e=>
 some (.inl (((),(),d.1.2.2.1,(IntKind.i64.wrap (d.1.2.2.2.1+(1:Int))),()),(d.2.1.1,d.2.1.2.1,()),e,()))
else
 some (.inl (((),(),y.1.2.2.1,(IntKind.i64.wrap (y.1.2.2.2.1+(1:Int))),()),(a.2.1.1,a.2.1.2.1,()),y.2.2.1,()))
else
 some (.inr (((),(),()),(y.2.1.1,y.2.1.2.1,()),y.2.2.1,()))
noncomputable def Jg:wL.G->Option (a_ Bv):=b8 Jp
theorem WM:bo ah (aO (codeOf Tryz.f80) 1 122) (bE wL Bv Jg):=cQ EG (by kernel_rfl) (bJ Up aE) fun y=>by kernel_rfl
abbrev NG:Shape:=⟨[bx 0 500000 0],[bI 500000 [cm .u8,bQ]],47⟩
abbrev Nv:Shape:=⟨[bx 0 500000 0,bU 2 3000128],[bI 500000 [cm .u8,bQ],b3 3000128 .pack 2 0],47⟩
noncomputable def zy(a:NG.G):Option Nv.G:=
(Jg (((),(),([([111,110,101]:E),([116,119,111]:E),([116,104,114,101,101]:E),([122,105,112]:E)]:List E),(0:Int),()),(a.2.1.1,a.2.1.2.1,()),([]:List a6),())).bind fun b=>
(gx (((),(10:Int),()),(b.2.1.1,b.2.1.2.1,()),())).bind fun c=>
 bif(c.1.2.1==(0:Int)) then
(y9 (((),()),(c.2.1.1,c.2.1.2.1,()),())).bind fun d=>
(cT 80 b.2.2.1 ([(a6.mk d.2.2.2.2.1.1 d.2.2.2.2.1.2.1 d.2.2.1 d.2.2.2.1)]:List a6)).bind fun e=>
 some (((),(),()),(d.2.1.1,d.2.1.2.1,()),e,())
else
 some (((),(),()),(c.2.1.1,c.2.1.2.1,()),b.2.2.1,())
noncomputable def NW:bg:=bq aH Tryz.f80 NG Nv [0] zy
theorem abt:bc ah 80 NW:=bB EG Tryz.func80 (by kernel_rfl) (bJ WM aE) (fun y=>by kernel_rfl) fun a=>by kernel_rfl
theorem Wf(a)(h:a.1.1=a.1.2.1)(hl:cM a.1.1.length):f41 a=some ((true,()),()):=by
 obtain⟨⟨xs,ys,u⟩,bS⟩:=a;have h:xs=ys:=h;subst h;have H:xs.length<=2097152:=hl;have it:∀(xs:List E) (i:Nat),allI (fun _ _=>true) i xs=true:=by
  intro xs;induction xs with
  |nil=>intro i;rfl
  |cons x r ih=>intro i;simp only[allI,ih,Bool.and_self]
 have key:D3 ((xs,(xs,((0:Int),()))),())=some (bif allI (fun _ _=>true) 0 xs then .inr ((),()) else .inl ((false,()),())):=by
  refine ig y1 xs (fun i=>((xs,(xs,((i:Int),()))),())) _ _ _ (fun i x hx=>?_) ?_
  ·have am:=dh hx;have hw:aW i:=by unfold aW;omega
   simp only[y1,c_ am,cond_true,cF,hx,Option.bind_some,beq_self_eq_true,Bool.not_true,cond_false,c2 hw]
  ·simp only[y1,eT,cond_false]
 rw[it] at key;have hb:((xs.length:Int) !=(xs.length:Int))=false:=by simp
 simp only[f41,hb,cond_false,key,cond_true,Option.bind_some]
abbrev nk(k:Nat)(ps:List a6):Prop:=ps.length<=k/\∀p,p∈ps->qN p
abbrev qP:List E:=[[111,110,101],[116,119,111],[116,104,114,101,101],[122,105,112]]
theorem UT(a)(m:Nat)(h:c8 a.2.1.1 a.2.1.2.1 m)(hm:400<=m):Z (zy a) (fun r=>c8 r.2.1.1 r.2.1.2.1 (m-400)/\nk 5 r.2.2.1):=by
 unfold zy;refine Z.bind (P:=fun r=>c8 r.2.1.1 r.2.1.2.1 (m-250)/\nk 4 r.2.2.1) ?_ fun r hr=>?_
 ·refine Z.loop (fun(k:Nat) y=>k<=4/\y.1.2.2.1=qP/\(y.1.2.2.2.1:Int)=((4-k:Nat):Int)/\c8 y.2.1.1 y.2.1.2.1 (m-250+60*k)/\nk (4-k) y.2.2.1) (fun k y an=>?_) 4 _ ⟨Nat.le_refl _,rfl,rfl,h.less (by omega),Nat.le_refl _,fun p ai=>by cases ai⟩
  obtain⟨⟨cf,w2,(afY:List E),(i:Int),qS⟩,⟨⟨(a':List Int),(jV:Int),qR⟩,(cH:List a6),hS⟩⟩:=y;obtain⟨dG,c7,er,hD,fa⟩:=an;have c7:afY=qP:=c7;have er:i=((4-k:Nat):Int):=er;subst c7 er;have hD:c8 a' jV (m-250+60*k):=hD;have fa:nk (4-k) cH:=fa;have ajZ:=fa.1;unfold Jp;refine Z.ite (fun hc=>?_) fun hc=>Z.ret ⟨hD.less (by omega),Nat.le_trans fa.1 (by omega),fa.2⟩
  have hc:((4-k:Nat):Int)<(4:Int):=of_decide_eq_true hc;have hw:IntKind.i64.wrap (((4-k:Nat):Int)+1)=((4-(k-1):Nat):Int):=by rw[eh (by omega) (by omega)];omega
  refine Z.bind (hI _ _ hD (by omega)) fun b' h2=>?_
  refine Z.ite (fun _=>?_) fun _=>Z.ret ⟨k-1,by omega,by omega,rfl,hw,h2.1.less (by omega),Nat.le_trans fa.1 (by omega),fa.2⟩
  obtain⟨x,hx,sM⟩:=l3 (xs:=qP) (i:=((4-k:Nat):Int)) (by omega) (by show((4-k:Nat):Int)<(4:Int);exact hc)
  refine Z.eq hx ?_
  refine Z.bind (ww _ _ h2.1 (by omega)) fun dy aa=>?_
  refine Z.bind (P:=fun r=>c8 r.2.1.1 r.2.1.2.1 (m-250+60*k-30)/\r.1.2.2.1=qP/\(r.1.2.2.2.1:Int)=((4-k:Nat):Int)/\r.2.2.1=cH/\qN ⟨r.2.2.2.2.2.1.1,r.2.2.2.2.2.1.2.1,r.2.2.2.1,r.2.2.2.2.1⟩) ?_ fun eZ aN=>?_
  ·unfold Bb;refine Z.bind (hI _ _ aa.1 (by omega)) fun r5 bn=>?_
   refine Z.ite (fun _=>?_) fun _=>Z.ret ⟨bn.1.less (by omega),rfl,rfl,rfl,yL (L:=qP) (by rfl) sM,aa.2,⟨by show(0:Nat)<=3;decide,fun n hn=>by cases hn⟩,by show(0:Nat)<=17;decide,fun e he=>by cases he⟩
   refine Z.bind (kJ _ _ bn.1 (by omega) (by show(1:Int)<=((4:Nat):Int);decide)) fun ns dY=>Z.ret ⟨dY.1.less (by omega),rfl,rfl,rfl,yL (L:=qP) (by rfl) sM,aa.2,⟨by show(1:Nat)<=3;decide,fun n hn=>?_⟩,by show(0:Nat)<=17;decide,fun e he=>by cases he⟩
   have hn:n∈[_]:=hn;rw[List.mem_singleton.1 hn];exact⟨oR (L:=qP) (by rfl) dY.2,by show(0:Nat)<=200;decide⟩
  ·obtain⟨lM,z2,z3,z4,z5⟩:=aN;refine Z.eq (fT (xs:=(eZ.2.2.1:List a6)) (by decide) (by rw[z4];unfold aW;simp;omega)) ?_
   refine Z.ret ⟨k-1,by omega,by omega,z2,by show IntKind.i64.wrap ((eZ.1.2.2.2.1:Int)+1)=_;rw[z3];exact hw,lM.less (by omega),?_,fun q aA=>?_⟩
   ·show((eZ.2.2.1:List a6)++[_]).length<=_;rw[z4];simp;omega
   ·have aA:q∈(eZ.2.2.1:List a6)++[_]:=aA;rw[z4] at aA;rcases List.mem_append.1 aA with aA|aA
    ·exact fa.2 q aA
    ·rw[List.mem_singleton.1 aA];exact z5
 ·have F':=hr.2.1;refine Z.bind (hI _ _ hr.1 (by omega)) fun b' h2=>?_
  refine Z.ite (fun _=>?_) fun _=>Z.ret ⟨h2.1.less (by omega),Nat.le_succ_of_le hr.2.1,hr.2.2⟩
  refine Z.bind (TD _ _ h2.1 (by omega)) fun dy aa=>?_
  refine Z.eq (fT (xs:=(r.2.2.1:List a6)) (by decide) (by unfold aW;simp;omega)) ?_
  refine Z.ret ⟨aa.1.less (by omega),by show((r.2.2.1:List a6)++[_]).length<=5;simp;omega,fun e he=>?_⟩
  have he:e∈(r.2.2.1:List a6)++[_]:=he;rcases List.mem_append.1 he with he|he
  ·exact hr.2.2 e he
  ·rw[List.mem_singleton.1 he];exact aa.2
theorem VV{rec:E->List E->Sum (List E) Int}{ps:List a6}(hr:∀n out c,rec n out=.inr c->c=3\/c=4):∀(ao:List dq) (out:List E) (c:Int),iU rec ps ao out=.inr c->c=3\/c=4:=by
 intro ao;induction ao with
 |nil=>intro out c h;cases h
 |cons n r ih=>
  intro out c h;simp only[iU] at h;split at h
  ·cases h;exact .inl rfl
  ·rename_i q _;cases hf:l4 n q.cK with
   |false=>rw[hf] at h;cases h;exact .inl rfl
   |true=>
    rw[hf] at h;simp only[cond_true] at h;split at h
    ·exact ih _ _ h
    ·rename_i fm hc;cases h;exact hr _ _ _ hc
theorem Y3(ps:List a6):∀(m:Nat) (op:List E) (n:E) (out:List E) (c:Int),clo ps m op n out=.inr c->c=3\/c=4:=by
 intro m;induction m with
 |zero=>intro op n out c h;cases h;exact .inr rfl
 |succ m ih=>
  intro op n out c h;simp only[clo] at h;cases h1:out.contains n with
  |true=>rw[h1] at h;cases h
  |false=>
   rw[h1] at h;simp only[cond_false] at h;split at h
   ·cases h;exact .inl rfl
   ·cases h2:op.contains n with
    |true=>rw[h2] at h;cases h;exact .inr rfl
    |false=>
     rw[h2] at h;simp only[cond_false] at h;split at h
     ·cases h
     ·rename_i fm hc;cases h;exact VV (fun n out c h=>ih _ n out c h) _ _ _ hc
theorem UL(ps:List a6)(m:Nat):∀(ao out:List E) (c:Int),j4 ps m ao out=.inr c->c=3\/c=4:=by
 intro ao;induction ao with
 |nil=>intro out c h;cases h
 |cons n r ih=>
  intro out c h;simp only[j4] at h;split at h
  ·exact ih _ _ h
  ·rename_i fm hc;cases h;exact Y3 ps m _ _ _ _ hc
theorem V7{xs:List Int}(h:lK (.sl .u8 xs)):∀x,x∈xs->0<=x/\x<=255:=by
 intro x hx;have h2:∀x,x∈xs->∀d,d∈enc .u8 x->lK d:=by cases h;assumption
 have:=h2 x hx (.int .u8 x) (by simp[enc])
 cases this with
 |int k n hw=>
  simp only[Lit.wf,Bool.and_eq_true,decide_eq_true_eq] at hw;have h1:(0:Int)<=x:=hw.1;have h2:x<=(255:Int):=hw.2;exact⟨h1,h2⟩
theorem X5{code:List Int}(h:∀x,x∈code->0<=x/\x<=255):c8 (code.take 2000) 0 1000000:=
 ⟨by rw[List.length_take];omega,fun x hx=>h x (List.mem_of_mem_take hx),Int.le_refl _,by decide⟩
theorem nk.SW{k:Nat}{ps:List a6}(h:nk k ps)(ak:k<=1000):kO ps:=⟨Nat.le_trans h.1 (Nat.le_trans ak (by decide)),fun p ai=>(h.2 p ai).ok.1⟩
theorem nk.vs{k:Nat}{ps:List a6}(h:nk k ps):q5 ps:=fun p ai=>(h.2 p ai).ok.2
theorem VT{rec:E->List E->Sum (List E) Int}{ps:List a6}{P:List E->Prop}(hr:∀n out D,rec n out=.inl D->P out->P D):∀(ao:List dq) (out D:List E),iU rec ps ao out=.inl D->P out->P D:=by
 intro ao;induction ao with
 |nil=>intro out D h ai;simp only[iU] at h;cases h;exact ai
 |cons n r ih=>
  intro out D h ai;simp only[iU] at h;split at h
  ·cases h
  ·rename_i q aA;cases hf:l4 n q.cK with
   |false=>rw[hf] at h;cases h
   |true=>
    rw[hf,cond_true] at h;split at h
    ·rename_i o1 h1;exact ih o1 D h (hr _ _ _ h1 ai)
    ·cases h
theorem _E(ps:List a6):∀(m:Nat) (op:List E) (n:E) (out D:List E),clo ps m op n out=.inl D->gZ ps out/\nl op out->gZ ps D/\nl op D:=by
 intro m;induction m with
 |zero=>intro op n out D h;cases h
 |succ m ih=>
  intro op n out D h ai;simp only[clo] at h;cases hc:out.contains n with
  |true=>rw[hc,cond_true] at h;cases h;exact ai
  |false=>
   rw[hc,cond_false] at h;split at h
   ·cases h
   ·rename_i p aA;cases al:op.contains n with
    |true=>rw[al,cond_true] at h;cases h
    |false=>
     rw[al,cond_false] at h;split at h
     ·rename_i o1 h1;cases h;have hn:n∉out:=by simpa using hc
      have lC:n∉op:=by simpa using al
      obtain⟨aw,aj⟩:=VT (fun n out D h=>ih _ n out D h) _ _ _ h1 ⟨ai.1,fun s H=>(List.mem_append.1 H).elim (ai.2 s) fun e=>by rw[List.mem_singleton.1 e];exact hn⟩
      have Ge:n∉o1:=aj n (List.mem_append.2 (.inr List.mem_cons_self));refine⟨aw.add (by simpa using Ge) aA,fun s H hm=>?_⟩
      rcases List.mem_append.1 hm with hm|hm
      ·exact aj s (List.mem_append.2 (.inl H)) hm
      ·rw[List.mem_singleton.1 hm] at H;exact lC H
     ·cases h
theorem VS{ps:List a6}(hb:kO ps)(ab:q5 ps)(hl:ps.length<=1000000):∀(names out:List E),gZ ps out/\nl [] out->∀D,j4 ps (ps.length+1) names out=.inl D->gZ ps D:=by
 intro names;induction names with
 |nil=>intro out al D h;simp only[j4] at h;cases h;exact al.1
 |cons n r ih=>
  intro out al D h;simp only[j4] at h;split at h
  ·rename_i cW g1;exact ih cW (_E ps _ _ _ _ _ g1 al) D h
  ·cases h
theorem Xu{ps:List a6}(hb:kO ps)(ab:q5 ps)(hl:ps.length<=1000000)(names:List E):cM (kB ps names).1.length:=by
 unfold kB;cases (eV ps==0) with
 |false=>show(0:Nat)<=2097152;decide
 |true=>
  simp only[cond_true];cases h:j4 ps (ps.length+1) names [] with
  |inl D=>
   have:=(VS hb ab hl names [] ⟨gZ.nil ps,fun s H=>by cases H⟩ D h).len
   show D.length<=2097152;omega
  |inr c=>show(0:Nat)<=2097152;decide
abbrev yG:Shape:=⟨[aX 0 .str,aQ 1,ar 5],[],18⟩
abbrev DQ:List bh:=[(.ret,⟨[aV 4],[],18⟩),(.exit 0,⟨[],[],18⟩)]
noncomputable def y0(y:yG.G):cJ yG DQ:=
 bif(decide (y.1.2.2.1<(y.1.1.length:Int))) then
(bd y.1.1 y.1.2.2.1).bind fun a=>
 bif(a==y.1.2.1) then
 some (.inr (.inl ((true,()),())))
else
 some (.inl ((y.1.1,y.1.2.1,(IntKind.i64.wrap (y.1.2.2.1+(1:Int))),()),()))
else
 some (.inr (.inr ((),())))
noncomputable def D2:yG.G->Option (a_ DQ):=b8 y0
theorem aaj:bo ah (aO (codeOf Tryz.f43) 1 26) (bE yG DQ D2):=cQ g0 (by kernel_rfl) aE fun y=>by kernel_rfl
abbrev i43:Shape:=⟨[aX 0 .str,aQ 1],[],18⟩
abbrev Q':Shape:=⟨[aV 4],[],18⟩
noncomputable def f43(a:i43.G):Option Q'.G:=
(D2 ((a.1.1,a.1.2.1,(0:Int),()),())).bind fun b=>
(match b with
|.inl c=>
 some ((c.1.1,()),())
|.inr d=>
 some ((false,()),()))
noncomputable def Sf:bg:=bq aH Tryz.f43 i43 Q' [] f43
theorem afs:bc ah 43 Sf:=bB g0 Tryz.func43 (by kernel_rfl) (bJ aaj aE) (fun y=>by kernel_rfl) fun a=>by kernel_rfl
def Fit(ps:List a6)(D:List E)(n:dq):Prop:=n.name∈D/\∃q,ps.find? (fun q=>q.name==n.name)=some q/\l4 n q.cK=true
def Good(ps:List a6)(D:List E):Prop:=∀(i:Nat) (s:E),D[i]? =some s->∃p,ps.find? (fun q=>q.name==s)=some p/\∀n,n∈p.b_->Fit ps (D.take i) n
theorem Good.cS{ps:List a6}{D:List E}{s:E}{p:a6}(h:Good ps D)(ai:ps.find? (fun q=>q.name==s)=some p)(hn:∀n,n∈p.b_->Fit ps D n):Good ps (D++[s]):=by
 intro i x hx;by_cases am:i<D.length
 ·rw[List.getElem?_append_left am] at hx;rw[List.take_append_of_le_length (Nat.le_of_lt am)];exact h i x hx
 ·have bb:=dh hx;simp only[List.length_append,List.length_cons,List.length_nil] at bb;have:i=D.length:=by omega
  subst this;rw[List.getElem?_append_right (Nat.le_refl _)] at hx;simp only[Nat.sub_self,List.getElem?_cons_zero,Option.some.injEq] at hx;subst hx;refine⟨p,ai,?_⟩;rw[List.take_left' rfl];exact hn
theorem Fit.mono{ps:List a6}{D cW:List E}{n:dq}(h:Fit ps D n)(ai:D<+:cW):Fit ps cW n:=⟨ai.subset h.1,h.2⟩
theorem VU{rec:E->List E->Sum (List E) Int}{ps:List a6}(hr:∀n out D,rec n out=.inl D->Good ps out->Good ps D/\out<+:D/\n∈D):∀(ao:List dq) (out D:List E),iU rec ps ao out=.inl D->Good ps out->
  Good ps D/\out<+:D/\∀n,n∈ao->Fit ps D n:=by
 intro ao;induction ao with
 |nil=>intro out D h aF;simp only[iU,Sum.inl.injEq] at h;subst h;exact⟨aF,List.prefix_refl _,fun n hn=>by cases hn⟩
 |cons n r ih=>
  intro out D h aF;simp only[iU] at h;split at h
  ·cases h
  ·rename_i q aA;cases hf:l4 n q.cK with
   |false=>rw[hf] at h;cases h
   |true=>
    rw[hf] at h;simp only[cond_true] at h;split at h
    ·rename_i o1 h1;obtain⟨g1,g2,g3⟩:=hr _ _ _ h1 aF;obtain⟨aw,aj,bA⟩:=ih o1 D h g1;refine⟨aw,g2.trans aj,fun x hx=>?_⟩
     rcases List.mem_cons.1 hx with rfl|hx
     ·exact⟨aj.subset g3,q,aA,hf⟩
     ·exact bA x hx
    ·cases h
theorem Y2(ps:List a6):∀(m:Nat) (op:List E) (n:E) (out D:List E),clo ps m op n out=.inl D->Good ps out->Good ps D/\out<+:D/\n∈D:=by
 intro m;induction m with
 |zero=>intro op n out D h;cases h
 |succ m ih=>
  intro op n out D h aF;simp only[clo] at h;cases h1:out.contains n with
  |true=>
   rw[h1] at h;cases h;exact⟨aF,List.prefix_refl _,by simpa using h1⟩
  |false=>
   rw[h1] at h;simp only[cond_false] at h;split at h
   ·cases h
   ·rename_i p ai;cases h2:op.contains n with
    |true=>rw[h2] at h;cases h
    |false=>
     rw[h2] at h;simp only[cond_false] at h;split at h
     ·rename_i o1 hc;cases h;obtain⟨g1,g2,g3⟩:=VU (fun n out D h=>ih _ n out D h) _ _ _ hc aF
      exact⟨g1.cS ai g3,g2.trans (List.prefix_append _ _),by simp⟩
     ·cases h
theorem Cu(a)(H:a.1.1.length<=2097152):f43 a=some ((a.1.1.contains a.1.2.1,()),()):=by
 obtain⟨⟨xs,s,u⟩,bS⟩:=a;have H:xs.length<=2097152:=H;have key:D2 ((xs,(s,((0:Int),()))),())=some (bif allI (fun _ x=>!(x==s)) 0 xs then .inr ((),()) else .inl ((true,()),())):=by
  refine ig y0 xs (fun i=>((xs,(s,((i:Int),()))),())) _ _ _ (fun i x hx=>?_) ?_
  ·have am:=dh hx;have hw:aW i:=by unfold aW;omega
   simp only[y0,c_ am,cond_true,cF,hx,Option.bind_some,c2 hw];cases (x==s)<;>rfl
  ·simp only[y0,eT,cond_false]
 rw[ij,DD] at key;simp only[f43,key,Option.bind_some];cases xs.contains s<;>rfl
theorem Xt{ps:List a6}{names:List E}(h:(kB ps names).2=0):eV ps=0/\j4 ps (ps.length+1) names []=.inl (kB ps names).1:=by
 unfold kB at h ⊢;cases aK:(eV ps==0) with
 |false=>
  rw[aK] at h;have h:eV ps=0:=h;rw[h] at aK;cases aK
 |true=>
  rw[aK] at h;simp only[cond_true] at h ⊢;refine⟨by simpa using aK,?_⟩
  cases hc:j4 ps (ps.length+1) names [] with
  |inl D=>rfl
  |inr c=>
   rw[hc] at h;have h:c=0:=h;rcases UL ps _ _ _ _ hc with k|k<;>rw[k] at h<;>cases h
noncomputable abbrev ah4:bZ:=[(80,NW),(81,kH)]
theorem aib:bz ah (bX aH ah4):=bV ⟨abt,lj,⟨⟩⟩
abbrev i40:Shape:=⟨[aX 0 .u8],[],12⟩
abbrev Rc:Shape:=⟨[bU 2 3000128,aQ 3],[b3 3000128 .pack 2 0],12⟩
noncomputable def f40(a:i40.G):Option Rc.G:=
(zy (((),()),((a.1.1.take 2000),(0:Int),()),())).bind fun b=>
(jm (((),([([111,110,101]:E),([116,119,111]:E),([116,104,114,101,101]:E),([110,111,110,101]:E)]:List E),()),(b.2.1.1,b.2.1.2.1,()),())).bind fun c=>
 some (((),c.1.2.1,()),b.2.2.1,())
noncomputable def Si:bg:=bq aH Tryz.f40 i40 Rc [] f40
theorem z40:bc ah 40 Si:=bB aib Tryz.func40 (by kernel_rfl) aE (fun y=>by kernel_rfl) fun a=>by kernel_rfl
noncomputable abbrev ai1:bZ:=[(21,Sk),(23,Sj),(40,Si),(41,Sh),(42,Sg),(43,Sf)]
theorem Hb:bz ah (bX aH ai1):=bV ⟨z21,afv,z40,afu,aft,afs,⟨⟩⟩
abbrev J6:Shape:=⟨[aX 3 .pack,aQ 4,bU 5 3000320,ar 6,bU 7 3000448,ar 8],[b3 3000320 .str 5 0,b3 3000448 .str 7 0],71⟩
abbrev JP:List bh:=[(.norm,⟨[aX 3 .pack,aQ 4,bU 5 3000320,ar 6,aV 66],[b3 3000320 .str 5 0],71⟩)]
noncomputable def Cf(y:J6.G):Option (a_ JP):=
 bif(y.1.2.2.2.2.2.1==(0:Int)) then
(bd y.1.1 y.1.2.2.2.1).bind fun a=>
 bif(!(a.name==y.1.2.1)) then
(bd y.1.1 y.1.2.2.2.1).bind fun b=>
(f43 ((y.2.1,b.name,()),())).bind fun c=>
(f43 ((y.2.2.1,y.1.2.1,()),())).bind fun d=>
 some ((y.1.1,y.1.2.1,(),y.1.2.2.2.1,(!(c.1.1==d.1.1)),()),y.2.1,())
else
 some ((y.1.1,y.1.2.1,(),y.1.2.2.2.1,false,()),y.2.1,())
else
 some ((y.1.1,y.1.2.1,(),y.1.2.2.2.1,false,()),y.2.1,())
theorem X_:bo ah (aO (dT (aO (codeOf Tryz.f8) 1 506)) 1012 32402) (bE J6 JP Cf):=dD Hb (by kernel_rfl) aE fun y=>by kernel_rfl
abbrev yz:Shape:=⟨[aX 3 .pack,aQ 4,bU 5 3000320,ar 6],[b3 3000320 .str 5 0],71⟩
abbrev DK:List bh:=[(.ret,⟨[aV 2],[],71⟩),(.exit 0,⟨[aQ 4,bU 5 3000320],[b3 3000320 .str 5 0],71⟩)]
noncomputable def D6(y:yz.G):cJ yz DK:=
 bif(decide (y.1.2.2.2.1<(y.1.1.length:Int))) then
(bd y.1.1 y.1.2.2.2.1).bind fun a=>
(f42 ((y.1.1,([a.name]:List E),()),())).bind fun b=>
(Cf ((y.1.1,y.1.2.1,(),y.1.2.2.2.1,(),b.1.2.1,()),y.2.1,b.2.1,())).bind fun c=>
 bif c.1.2.2.2.2.1 then
 some (.inr (.inl ((false,()),())))
else
 some (.inl ((c.1.1,c.1.2.1,(),(IntKind.i64.wrap (c.1.2.2.2.1+(1:Int))),()),c.2.1,()))
else
 some (.inr (.inr ((y.1.2.1,(),()),y.2.1,())))
noncomputable def DZ:yz.G->Option (a_ DK):=b8 D6
theorem _':bo ah (aO (codeOf Tryz.f8) 1 506) (bE yz DK DZ):=cQ Hb (by kernel_rfl) (bJ X_ aE) fun y=>by kernel_rfl
abbrev i8:Shape:=⟨[aX 0 .u8],[],71⟩
abbrev SF:Shape:=⟨[aV 2],[],71⟩
noncomputable def f8(a:i8.G):Option SF.G:=
 bif(decide ((a.1.1.length:Int)>(1048576:Int))) then
 some ((true,()),())
else
(f40 ((a.1.1,()),())).bind fun b=>
(f23 ((b.2.1,b.1.2.1,()),())).bind fun c=>
(f21 ((b.2.1,b.1.2.1,()),())).bind fun d=>
(f41 ((c.2.1,d.1.1,()),())).bind fun e=>
 bif(!e.1.1) then
 some ((false,()),())
else
(DZ ((b.2.1,b.1.2.1,(),(0:Int),()),c.2.1,())).bind fun f=>
(match f with
|.inl g=>
 some ((g.1.1,()),())
|.inr h=>
(f43 ((h.2.1,h.1.1,()),())).bind fun i=>
 some (((!i.1.1),()),()))
noncomputable def q7:bg:=bq aH Tryz.f8 i8 SF [] f8
theorem aii:bc ah 8 q7:=bB Hb Tryz.func8 (by kernel_rfl) (bJ _' aE) (fun y=>by kernel_rfl) fun a=>by kernel_rfl
inductive oD(ps:List a6):E->E->Prop where
 |refl (x:E):oD ps x x
 |head (x s:E) (p:a6) (ai:ps.find? (fun q=>q.name==x)=some p) (d:dq) (Y:d∈p.b_) (h:oD ps d.name s):oD ps x s
theorem Y5{rec:E->List E->Sum (List E) Int}{ps:List a6}(hr:∀n out D,rec n out=.inl D->∀s,s∈D->s∈out\/oD ps n s):∀(ao:List dq) (out D:List E),iU rec ps ao out=.inl D->∀s,s∈D->s∈out\/∃d,d∈ao/\oD ps d.name s:=by
 intro ao;induction ao with
 |nil=>intro out D h s H;simp only[iU] at h;cases h;exact .inl H
 |cons n r ih=>
  intro out D h s H;simp only[iU] at h;split at h
  ·cases h
  ·rename_i q aA;cases hf:l4 n q.cK with
   |false=>rw[hf] at h;cases h
   |true=>
    rw[hf,cond_true] at h;split at h
    ·rename_i o1 h1;rcases ih o1 D h s H with h2|⟨d,h2,aa⟩
     ·exact(hr _ _ _ h1 s h2).imp id fun h=>⟨n,List.mem_cons_self,h⟩
     ·exact .inr ⟨d,List.mem_cons_of_mem _ h2,aa⟩
    ·cases h
theorem aaL(ps:List a6):∀(m:Nat) (op:List E) (n:E) (out D:List E),clo ps m op n out=.inl D->∀s,s∈D->s∈out\/oD ps n s:=by
 intro m;induction m with
 |zero=>intro op n out D h;cases h
 |succ m ih=>
  intro op n out D h s H;simp only[clo] at h;cases hc:out.contains n with
  |true=>rw[hc,cond_true] at h;cases h;exact .inl H
  |false=>
   rw[hc,cond_false] at h;split at h
   ·cases h
   ·rename_i p ai;cases al:op.contains n with
    |true=>rw[al,cond_true] at h;cases h
    |false=>
     rw[al,cond_false] at h;split at h
     ·rename_i o1 h1;cases h;rcases List.mem_append.1 H with H|H
      ·exact(Y5 (fun n out D h=>ih _ n out D h) _ _ _ h1 s H).imp id fun⟨d,aw,aj⟩=>.head n s p ai d aw aj
      ·rw[List.mem_singleton.1 H];exact .inr (.refl n)
     ·cases h
theorem _o{ps:List a6}{D:List E}(aF:Good ps D){x s:E}(h:oD ps x s):x∈D->s∈D:=by
 induction h with
 |refl=>exact id
 |head x s p ai d Y _ ih=>
  intro hx;obtain⟨i,am⟩:=List.getElem?_of_mem hx;obtain⟨jV,h1,h2⟩:=aF i x am;rw[ai] at h1;cases h1;exact ih (List.mem_of_mem_take (h2 d Y).1)
theorem abH{ps:List a6}{n s:E}(h:iG ps n s):s≠n:=by
 cases h with
 |mk p ai hn=>exact hn
 |qM p ai hn=>exact hn
theorem Kx{ps:List a6}(Y:e9 [] (ps.map (·.name))=false){p:a6}(ai:p∈ps):ps.find? (fun q=>q.name==p.name)=some p:=by
 have I:=Lu Y;cases hf:ps.find? (fun q=>q.name==p.name) with
 |none=>
  have:=List.find?_eq_none.1 hf p ai;simp at this
 |some q=>
  have h1:q.name=p.name:=by have:=List.find?_some hf;simpa using this
  obtain⟨i,am⟩:=List.getElem?_of_mem ai;obtain⟨j,bv⟩:=List.getElem?_of_mem (List.mem_of_find?_eq_some hf);obtain rfl:=I.qp i j p q am bv h1.symm;rw[am] at bv;exact bv.symm
theorem Vl{ps:List a6}(h:eV ps=0):e9 [] (ps.map (·.name))=false:=by
 unfold eV at h;cases bm:ps.all fz with
 |false=>rw[bm] at h;cases h
 |true=>
  rw[bm,cond_true] at h;cases Y:e9 [] (ps.map (·.name)) with
  |false=>rfl
  |true=>rw[Y] at h;cases h
theorem abG{ps:List a6}(Y:e9 [] (ps.map (·.name))=false){n s:E}(h:iG ps n s):oD ps s n:=by
 induction h with
 |mk p ai hn d iz h=>exact .head _ _ p (Kx Y ai) d iz (h▸.refl _)
 |qM p ai hn d iz _ ih=>exact .head _ _ p (Kx Y ai) d iz ih
theorem abB{ps:List a6}{x n:E}(h:oD ps x n):x≠n->iG ps n x:=by
 induction h with
 |refl x=>intro h;exact absurd rfl h
 |head x s p ai d iz h ih=>
  intro cE;have hm:=List.mem_of_find?_eq_some ai;have hx:p.name=x:=by have:=List.find?_some ai;simpa using this
  subst hx;by_cases e:d.name=s
  ·exact .mk p hm cE d iz e
  ·exact .qM p hm cE d iz (ih e)
theorem _b{ps:List a6}{x n:E}(ak:(kB ps [x]).2=0)(cE:x≠n):(fr ps n).contains x=(kB ps [x]).1.contains n:=by
 obtain⟨aK,gr⟩:=Xt ak;have Y:=Vl aK;have Pw:clo ps (ps.length+1) [] x []=.inl (kB ps [x]).1:=by
  simp only[j4] at gr;split at gr
  ·rename_i D al;rw[al];exact gr
  ·cases gr
 obtain⟨aF,_,hx⟩:=Y2 ps _ _ _ _ _ Pw (fun i s H=>by simp at H)
 rw[Bool.eq_iff_iff,List.contains_iff_mem,List.contains_iff_mem,B7 aK];constructor
 ·intro h;exact _o aF (abG Y h) hx
 ·intro h;rcases aaL ps _ _ _ _ _ Pw n h with h|h
  ·cases h
  ·exact abB h cE
theorem Th(a)(h:c8 (a.1.1.take 2000) 0 1000000):Z (f40 a) (fun r=>nk 5 r.2.1):=by
 unfold f40;refine Z.bind (UT _ 1000000 h (by decide)) fun cy h1=>?_
 refine Z.bind (kJ _ _ h1.1 (by decide) (by simp)) fun b' h2=>?_
 exact Z.ret h1.2
theorem Yx(ps:List a6)(n:E):(fr ps n).length<=ps.length:=by
 have a8:hs ps []:=⟨List.Pairwise.nil,fun s H=>by cases H⟩
 unfold fr;cases eV ps==0 with
 |true=>exact(a8.rounds (n:=n) (k:=ps.length)).len
 |false=>exact Nat.zero_le _
theorem Yw(ps:List a6)(n:E):(fr ps n).contains n=false:=by
 cases hc:(fr ps n).contains n with
 |false=>rfl
 |true=>
  have hm:n∈fr ps n:=by simpa using hc
  by_cases aK:eV ps=0
  ·exact absurd rfl (abH ((B7 aK n).1 hm))
  ·have:(eV ps==0)=false:=by simpa using aK
   unfold fr at hm;rw[this] at hm;cases hm
theorem Ub(a)(h:∀x,x∈(a.1.1:List Int)->0<=x/\x<=255):Z (f8 a) (fun r=>r.1.1=true):=by
 unfold f8;refine Z.ite (fun _=>Z.ret rfl) fun _=>?_
 refine Z.bind (Th _ (X5 h)) fun r hr=>?_
 obtain⟨⟨mC,(n:E),u1⟩,⟨(ps:List a6),u2⟩⟩:=r;have aA:nk 5 ps:=hr;have hb:=aA.SW (by decide)
 have ab:=aA.vs;have vw:ps.length<=5:=aA.1;have hl:ps.length<=2000000:=by omega
 have hQ:ps.length<=1000000:=by omega
 have e1:=UU ((ps,(n,())),()) hb hl;have e2:=Wl ((ps,(n,())),()) hb hl;have hlen:=Yx ps n;have AT:=Wf ((fr ps n,(fr ps n,())),()) rfl (show(fr ps n).length<=2097152 by omega)
 have loop:DZ ((ps,(n,((),((0:Int),())))),(fr ps n,()))=some (.inr ((n,((),())),(fr ps n,()))):=by
  refine Lh (fun i=>((ps,(n,((),(((i:Nat):Int),())))),(fr ps n,()))) ps.length (fun i am=>?_) ?_ _ 0 (Nat.zero_add _)
  ·have hx:ps[i]? =some ps[i]:=List.getElem?_eq_getElem am;generalize ps[i]=x at hx;have hw:aW i:=by unfold aW;omega
   have bD:=UV ((ps,([x.name],())),()) hb ab hQ (show [x.name].length<=1000000 by simp)
   have ag1:=Xu hb ab hQ [x.name];have aiD:=Cu ((fr ps n,(x.name,())),()) (show(fr ps n).length<=2097152 by omega)
   have aiC:=Cu (((kB ps [x.name]).1,(n,())),()) ag1;simp only[D6,c_ am,cond_true,cF,hx,Option.bind_some,bD,Cf];cases ak:((kB ps [x.name]).2==(0:Int)) with
   |false=>simp only[cond_false,Option.bind_some,c2 hw]
   |true=>
    simp only[cond_true];cases hn:(x.name==n) with
    |true=>simp only[Bool.not_true,cond_false,Option.bind_some,c2 hw]
    |false=>
     have cE:x.name≠n:=by simpa using hn
     have:=_b (ps:=ps) (eq_of_beq ak) cE;simp only[Bool.not_false,cond_true,aiD,aiC,Option.bind_some,this,beq_self_eq_true,Bool.not_true,cond_false,c2 hw]
  ·simp only[D6,eT,cond_false]
 have aiB:=Cu ((fr ps n,(n,())),()) (show(fr ps n).length<=2097152 by omega)
 refine Z.eq e1 (Z.eq e2 (Z.eq AT ?_));simp only[Bool.not_true,cond_false,loop,Option.bind_some,aiB,Yw];exact Z.ret rfl
theorem pure_FnNeeders:LawOk q7 [(false,[.sl .u8])]:=by
 rintro⟨⟨code,u⟩,bS⟩ ⟨h,_⟩;obtain⟨r,hr,aA⟩:=Ub ((code,()),()) (V7 (h (.sl .u8 code) (by simp[fK,dH.mk])))
 obtain⟨⟨b,v⟩,v'⟩:=r;have aA:b=true:=aA;subst aA;exact⟨((true,()),()),hr,rfl⟩
end Go.Proofs
