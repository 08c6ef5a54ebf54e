/- Required packs cannot be removed: of drawn roots, RootOut refuses a pack that others need, with the code that says so, and otherwise the root without it is ok and has its tree without that pack's own files. (part 4 of 6: JnQTy, JnQSp, JnQOp, JnQEn, JnQF118, JnQF151, JnQF91, JnQF161, JnQF90, JnQPuA, JnQF89, JnQPuB, JnQFH297, JnQF271, JnQF238, JnQF241, JnQIt, JnQF127, JnQF119, JnQF121, JnQF181, JnQF162, JnQF233, JnQPuC,) Conditions: none beyond the statement. -/
import Derived.Test.YthllakklnccioaaGreatDoorZFnRootOut2
import Derived.Tactics
import Derived.Deep.RegionLaw
import Derived.Shelf.Abstract
import Derived.Test.YthllakklnccioaaGreatDoorProg
import Derived.KernelRfl
set_option linter.unusedSimpArgs false
set_option maxRecDepth 100000
set_option linter.unusedVariables false
namespace Go.Proofs
open Go.Jk
noncomputable abbrev ae:Program:=Tryz.prog
noncomputable def ani:List (Nat×cm):=[
(2,.int .i64),
(3,.int .i64),
(4,.bool),
(5,.int .u8),
(6,.int .u8),
(7,.struct [(0,1),(1,1),(2,1),(3,1)] 4 [.d (.int .i64 0),.d (.int .i64 0),.d (.bool false),.d (.int .u8 0)] false),
(8,.struct [(0,1),(1,1),(2,1),(3,1)] 4 [.d (.int .i64 0),.d (.int .i64 0),.d (.bool false),.d (.int .u8 0)] false),
(9,.str),
(10,.str),
(11,.str),
(12,.int .u64),
(13,.struct [(0,1),(1,1)] 2 [.d (.str []),.d (.int .u64 0)] false),
(14,.struct [(0,1),(1,1)] 2 [.d (.str []),.d (.int .u64 0)] false),
(15,.ptr),
(16,.ptr),
(17,.ptr),
(18,.struct [(0,1)] 1 [.cL (.pointer none)] false),
(19,.struct [(0,1)] 1 [.cL (.pointer none)] false),
(20,.iface),
(21,.int .i32),
(22,.slice 52 .pack 80),
(23,.struct [(0,1)] 1 [.nil .pack] false),
(24,.struct [(0,1)] 1 [.nil .pack] false),
(26,.slice 73 .entry 48),
(28,.slice 57 .pack 80),
(29,.struct [(0,1)] 1 [.nil .pack] false),
(30,.struct [(0,1)] 1 [.nil .pack] false),
(38,.slice 9 .str 16),
(49,.slice 139 .need 40),
(50,.slice 141 .entry 48),
(51,.struct [(0,1),(1,1),(2,1),(3,1)] 4 [.d (.str []),.d (.str []),.nil .need,.nil .entry] false),
(52,.struct [(0,1),(1,1),(2,1),(3,1)] 4 [.d (.str []),.d (.str []),.nil .need,.nil .entry] false),
(55,.slice 91 .need 40),
(56,.struct [(0,1),(1,1),(2,1),(3,1)] 4 [.d (.str []),.d (.str []),.nil .need,.nil .entry] false),
(57,.struct [(0,1),(1,1),(2,1),(3,1)] 4 [.d (.str []),.d (.str []),.nil .need,.nil .entry] false),
(62,.slice 5 .u8 1),
(72,.struct [(0,1),(1,1),(2,1),(3,1)] 4 [.d (.str []),.d (.int .i64 0),.d (.int .i64 0),.d (.str [])] false),
(73,.struct [(0,1),(1,1),(2,1),(3,1)] 4 [.d (.str []),.d (.int .i64 0),.d (.int .i64 0),.d (.str [])] true),
(86,.map 9 3 .i64),
(89,.map 9 38 .strs),
(90,.struct [(0,1),(1,1),(2,1)] 3 [.d (.str []),.d (.int .i64 0),.d (.str [])] false),
(91,.struct [(0,1),(1,1),(2,1)] 3 [.d (.str []),.d (.int .i64 0),.d (.str [])] true),
(108,.ptr),
(112,.slice 3 .i64 8),
(113,.struct [(0,1),(1,1),(2,1),(3,1)] 4 [.nil .pack,.cL (.map none),.nil .i64,.nil .str] false),
(114,.struct [(0,1),(1,1),(2,1),(3,1)] 4 [.nil .pack,.cL (.map none),.nil .i64,.nil .str] false),
(131,.int .u64),
(139,.struct [(0,1),(1,1),(2,1)] 3 [.d (.str []),.d (.int .i64 0),.d (.str [])] true),
(141,.struct [(0,1),(1,1),(2,1),(3,1)] 4 [.d (.str []),.d (.int .i64 0),.d (.int .i64 0),.d (.str [])] true),
(150,.slice 3 .i64 8),
(154,.struct [(0,1),(1,1)] 2 [.nil .u8,.d (.int .i64 0)] false),
(155,.struct [(0,1),(1,1)] 2 [.nil .u8,.d (.int .i64 0)] false),
(159,.ptr),
(166,.func),
(181,.int .i64),
(189,.int .u32),
(191,.int .u64),
(216,.int .u64),
(220,.ptr),
(233,.ptr),
(234,.struct [(0,1),(1,1)] 2 [.cL (.pointer none),.nil .u8] false),
(235,.struct [(0,1),(1,1)] 2 [.cL (.pointer none),.nil .u8] false),
(236,.iface),
(237,.iface),
(241,.arr 189 .u32 8),
(243,.slice 189 .u32 4),
(245,.ptr),
(259,.arr 4 .bool 256),
(260,.arr 4 .bool 256),
(263,.ptr),
(264,.arr 189 .u32 64),
(272,.ptr),
(276,.struct [(0,1),(1,1)] 2 [.d (.int .u8 0),.d (.int .u8 0)] false),
(277,.struct [(0,1),(1,1)] 2 [.d (.int .u8 0),.d (.int .u8 0)] false),
(290,.struct [(0,1),(1,1),(2,1),(3,1)] 4 [.cL (.pointer none),.cL (.pointer none),.cL (.pointer none),.d (.str [])] false),
(291,.struct [(0,1),(1,1),(2,1),(3,1)] 4 [.cL (.pointer none),.cL (.pointer none),.cL (.pointer none),.d (.str [])] false),
(295,.int .u8),
(296,.int .u8),
(298,.int .i32),
(299,.int .i32),
(300,.struct [(0,1),(1,1),(2,1),(3,1),(4,1),(5,1),(6,1),(7,1),(8,1),(9,1),(10,1)] 11 [.d (.int .u64 0),.d (.int .u64 0),.d (.int .u32 0),.d (.int .u8 0),.d (.int .u8 0),.d (.int .u8 0),.d (.int .u8 0),.cL .nilFunc,.cL (.pointer none),.d (.int .i32 0),.d (.int .i32 0)] false),
(301,.struct [(0,1),(1,1),(2,1),(3,1),(4,1),(5,1),(6,1),(7,1),(8,1),(9,1),(10,1)] 11 [.d (.int .u64 0),.d (.int .u64 0),.d (.int .u32 0),.d (.int .u8 0),.d (.int .u8 0),.d (.int .u8 0),.d (.int .u8 0),.cL .nilFunc,.cL (.pointer none),.d (.int .i32 0),.d (.int .i32 0)] false)]
noncomputable def tt:TypeId->cm:=B4 ani
noncomputable def az:Env:=⟨tt,[(183,257)],[17,18,26,27,37,59,60,66,67,124,160],[79],[],[],[],false⟩
noncomputable def oz:Env:={az with eo:=true}
abbrev cy(s:Shape)(t:List bk):=Option (Sum s.L (aY t))
theorem ah9(s p:ByteArray)(k:Int)(w:World):Calls ae 223 #[.string s,.string p,.int .i64 k] w fun e w'=>
  e=.returned (.func (.func 257) #[] #[.pointer (some ⟨w.heap.size+1,0,none⟩),.pointer (some ⟨w.heap.size,0,none⟩),.pointer (some ⟨w.heap.size+2,0,none⟩)])/\
  w'=((w.alloc (.cells #[.string s] 9)).alloc (.cells #[.string p] 9)).alloc (.cells #[.int .i64 k] 3):=by
 go_enter Tryz.func223,Tryz.ntmps223
 go_wp2
 go_ret
 exact⟨rfl,rfl⟩
theorem aia(s p:ByteArray)(w:World):Calls ae 183 #[.string s,.string p] w fun e w'=>
  e=.returned (.func (.func 257) #[] #[.pointer (some ⟨w.heap.size+1,0,none⟩),.pointer (some ⟨w.heap.size,0,none⟩),.pointer (some ⟨w.heap.size+2,0,none⟩)])/\
  w'=((w.alloc (.cells #[.string s] 9)).alloc (.cells #[.string p] 9)).alloc (.cells #[.int .i64 0] 3):=by
 go_enter Tryz.func183,Tryz.ntmps183
 go_wp2_with (go_at_call 223;refine(ah9 _ _ _ _).mono ?_;rintro e w' ⟨rfl,rfl⟩)
 go_ret
 exact⟨rfl,rfl⟩
theorem ajM:AN ae 183 257:=fun a b w=>.inl ⟨enters_of Tryz.func183 (by kernel_rfl) rfl _ _,(aia a b w).mono fun e w' h=>by obtain⟨rfl,rfl⟩:=h;exact⟨9,3,rfl,rfl⟩⟩
theorem anA(w:World):Calls ae 79 #[.slice none 0 0] w fun e w'=>e=.returned (.pointer (some ⟨w.heap.size,0,none⟩))/\w'=w.alloc (.cells #[.slice none 0 0,.int .i64 0] 155):=by
 go_enter Tryz.func79,Tryz.ntmps79
 go_wp2
 go_ret
 exact⟨rfl,rfl⟩
theorem anz(w:World)(a:Addr)(n c:Nat)(h:n<=2000):Calls ae 79 #[.slice (some a) n c] w fun e w'=>e=.returned (.pointer (some ⟨w.heap.size,0,none⟩))/\w'=w.alloc (.cells #[.slice (some a) n c,.int .i64 0] 155):=by
 have h1:¬((n:Int)>2000):=by omega
 go_enter Tryz.func79,Tryz.ntmps79
 go_wp2
 go_ret
 exact⟨rfl,rfl⟩
theorem anB(w:World)(a:Addr)(n c:Nat)(h:2000<n)(hc:n<=c):Calls ae 79 #[.slice (some a) n c] w fun e w'=>e=.returned (.pointer (some ⟨w.heap.size,0,none⟩))/\w'=w.alloc (.cells #[.slice (some a) 2000 c,.int .i64 0] 155):=by
 have h1:((n:Int)>2000):=by omega
 go_enter Tryz.func79,Tryz.ntmps79
 go_wp2
 go_ret
 exact⟨rfl,rfl⟩
theorem akf:BF ae 79:=fun xs v w av hr=>.inl ⟨enters_of Tryz.func79 (by kernel_rfl) rfl _ _,by
 have fin:∀{v:Value} {u:Value},Rd w av (.sl .u8 (xs.take 2000)) u->Calls ae 79 #[v] w (fun e w'=>e=.returned (.pointer (some ⟨w.heap.size,0,none⟩))/\w'=w.alloc (.cells #[u,.int .i64 0] 155))->
   Calls ae 79 #[v] w fun e w'=>match e,w' with
    |.returned v',w'=>∃u T,Rd w av (.sl .u8 (xs.take 2000)) u/\v'=.pointer (some ⟨w.heap.size,0,none⟩)/\w'=w.alloc (.cells #[u,.int .i64 0] T)
    |_,_=>False:=fun hu hc=>hc.mono fun e w' h=>by obtain⟨rfl,rfl⟩:=h;exact⟨_,_,hu,rfl,rfl⟩
 cases hr with
 |nil=>exact fin (.nil .u8) (anA w)
 |sl t xs a cap cs n hn hcap hb hl hc hr=>
  by_cases h:2000<n
  ·refine fin (u:=.slice (some a) 2000 cap) ?_ (anB w a n cap h hcap);have hlen:(xs.take 2000).length=2000:=by simp only[List.length_take];omega
   have hf:flat .u8 (xs.take 2000)=(flat .u8 xs).take 2000:=by rw[ED];rfl
   refine .sl .u8 (xs.take 2000) a cap (cs.take 2000) 2000 hlen.symm (by omega) (fun hx=>hb (fun e=>hx (by rw[e];rfl))) (by rw[hf,List.length_take,List.length_take,hl]) (fun j u hu=>?_) (fun j h1 h2=>?_)
   ·rw[List.getElem?_take] at hu;split at hu
    ·exact hc j u hu
    ·cases hu
   ·have h1':j<(flat .u8 xs).length:=by rw[hf,List.length_take] at h1;omega
    have h2':j<cs.length:=by rw[List.length_take] at h2;omega
    have e1:(flat .u8 (xs.take 2000))[j]=(flat .u8 xs)[j]:=by simp only[hf,List.getElem_take]
    have e2:(cs.take 2000)[j]=cs[j]:=List.getElem_take;rw[e1,e2];exact hr j h1' h2'
  ·refine fin (u:=.slice (some a) n cap) ?_ (anz w a n cap (by omega))
   rw[List.take_of_length_le (by omega)]
   exact .sl .u8 xs a cap cs n hn hcap hb hl hc hr⟩
theorem qT:H2 ae az:=⟨aem (O8 (by kernel_rfl)),by kernel_rfl,fun p h=>by
 simp only[az,List.mem_cons,List.not_mem_nil,or_false] at h;subst h;exact ajM,fun g h=>by
 simp only[az,List.mem_cons,List.not_mem_nil,or_false] at h;subst h;exact akf,fun g h=>(by cases h),fun g h=>(by cases h),fun p h=>(by cases h)⟩
theorem bB{ay:bD}(h:w_ ae ay):bg ae (bu az ay):=P3 qT h
theorem g0:bg ae (bu az []):=bB ⟨⟩
theorem aqD:H2 ae oz:=⟨qT.tt,qT.Dj,qT.lC,qT.op,qT.ij,qT.bs,qT.gt⟩
theorem Dl{ay:bD}(h:w_ ae ay):bg ae (bu oz ay):=P3 aqD h
abbrev Pr:Shape:=⟨[a8 0],[],49⟩
abbrev Pg:List bk:=[(.norm,⟨[a8 0,aQ 20],[],49⟩)]
noncomputable def GL(y:Pr.L):Option (aY Pg):=
 bif(!(y.1.1==([]:J))) then
 bif(!(decide ((y.1.1.length:Int)>(10:Int)))) then
(bd y.1.1 (0:Int)).bind fun a=>
 bif(!(decide ((a.toNat:Int)<(97:Int)))) then
(bd y.1.1 (0:Int)).bind fun b=>
 some ((y.1.1,(decide ((b.toNat:Int)>(122:Int))),()),())
else
 some ((y.1.1,true,()),())
else
 some ((y.1.1,true,()),())
else
 some ((y.1.1,true,()),())
theorem afa:bq ae (aH (codeOf Tryz.f118) 1 12) (bE Pr Pg GL):=dI g0 (by kernel_rfl) aB fun y=>by kernel_rfl
abbrev Nt:Shape:=⟨[a8 0,aq 3,aq 22,aq 23],[],49⟩
abbrev Nf:List bk:=[(.norm,⟨[a8 0,aq 22,aq 23,aQ 47],[],49⟩)]
noncomputable def EC(y:Nt.L):Option (aY Nf):=
(bd y.1.1 y.1.2.1).bind fun a=>
 bif(!(decide ((a.toNat:Int)<(97:Int)))) then
(bd y.1.1 y.1.2.1).bind fun b=>
 bif(decide ((b.toNat:Int)>(122:Int))) then
(bd y.1.1 y.1.2.1).bind fun c=>
 bif(!(decide ((c.toNat:Int)<(48:Int)))) then
(bd y.1.1 y.1.2.1).bind fun d=>
 some ((y.1.1,y.1.2.2.1,y.1.2.2.2.1,(decide ((d.toNat:Int)>(57:Int))),()),())
else
 some ((y.1.1,y.1.2.2.1,y.1.2.2.2.1,true,()),())
else
 some ((y.1.1,y.1.2.2.1,y.1.2.2.2.1,false,()),())
else
(bd y.1.1 y.1.2.1).bind fun e=>
 bif(!(decide ((e.toNat:Int)<(48:Int)))) then
(bd y.1.1 y.1.2.1).bind fun f=>
 some ((y.1.1,y.1.2.2.1,y.1.2.2.2.1,(decide ((f.toNat:Int)>(57:Int))),()),())
else
 some ((y.1.1,y.1.2.2.1,y.1.2.2.2.1,true,()),())
theorem abL:bq ae (aH (dn (aH (codeOf Tryz.f118) 1 58)) 116 7474) (bE Nt Nf EC):=dI g0 (by kernel_rfl) aB fun y=>by kernel_rfl
abbrev z':Shape:=⟨[a8 0,aq 22,aq 23],[],49⟩
abbrev FW:List bk:=[(.ret,⟨[aQ 2],[],49⟩),(.exit 0,⟨[],[],49⟩)]
noncomputable def AF(y:z'.L):cy z' FW:=
 bif(decide (y.1.2.2.1<y.1.2.1)) then
(EC ((y.1.1,y.1.2.2.1,y.1.2.1,y.1.2.2.1,()),())).bind fun a=>
 bif a.1.2.2.2.1 then
 some (.inr (.inl ((false,()),())))
else
 some (.inl ((a.1.1,a.1.2.1,(IntKind.i64.wrap (a.1.2.2.1+(1:Int))),()),()))
else
 some (.inr (.inr ((),())))
noncomputable def Gv:z'.L->Option (aY FW):=b7 AF
theorem ae9:bq ae (aH (codeOf Tryz.f118) 1 58) (bE z' FW Gv):=cE g0 (by kernel_rfl) (bN abL aB) fun y=>by kernel_rfl
abbrev i118:Shape:=⟨[a8 0],[],49⟩
abbrev T1:Shape:=⟨[aQ 2],[],49⟩
noncomputable def f118(a:i118.L):Option T1.L:=
(GL ((a.1.1,()),())).bind fun b=>
 bif b.1.2.1 then
 some ((false,()),())
else
(Gv ((b.1.1,(b.1.1.length:Int),(0:Int),()),())).bind fun c=>
(match c with
|.inl d=>
 some ((d.1.1,()),())
|.inr e=>
 some ((true,()),()))
noncomputable def Jc:bb:=bf az Tryz.f118 i118 T1 [] f118
theorem SW:a_ ae 118 Jc:=bh g0 Tryz.func118 (by kernel_rfl) (bN afa (bN ae9 aB)) (fun y=>by kernel_rfl) fun a=>by kernel_rfl
abbrev Pn:Shape:=⟨[a8 0,aq 1],[],53⟩
abbrev Pc:List bk:=[(.norm,⟨[a8 0,aq 1,aQ 24],[],53⟩)]
noncomputable def GH(y:Pn.L):Option (aY Pc):=
 bif(!(y.1.1==([]:J))) then
 bif(!(decide ((y.1.1.length:Int)>(9:Int)))) then
 bif(decide ((y.1.1.length:Int)>(1:Int))) then
(bd y.1.1 (0:Int)).bind fun a=>
 some ((y.1.1,y.1.2.1,((a.toNat:Int)==(48:Int)),()),())
else
 some ((y.1.1,y.1.2.1,false,()),())
else
 some ((y.1.1,y.1.2.1,true,()),())
else
 some ((y.1.1,y.1.2.1,true,()),())
theorem ae1:bq ae (aH (codeOf Tryz.f151) 1 12) (bE Pn Pc GH):=dI g0 (by kernel_rfl) aB fun y=>by kernel_rfl
abbrev Mv:Shape:=⟨[a8 0,aq 1,aq 6,aq 7,aq 26,aq 27],[],53⟩
abbrev Ms:List bk:=[(.norm,⟨[a8 0,aq 1,aq 6,aq 7,aq 26,aq 27,aQ 39],[],53⟩)]
noncomputable def DW(y:Mv.L):Option (aY Ms):=
(bd y.1.1 y.1.2.2.2.1).bind fun a=>
 bif(!(decide ((a.toNat:Int)<(48:Int)))) then
(bd y.1.1 y.1.2.2.2.1).bind fun b=>
 some ((y.1.1,y.1.2.1,y.1.2.2.1,y.1.2.2.2.1,y.1.2.2.2.2.1,y.1.2.2.2.2.2.1,(decide ((b.toNat:Int)>(57:Int))),()),())
else
 some ((y.1.1,y.1.2.1,y.1.2.2.1,y.1.2.2.2.1,y.1.2.2.2.2.1,y.1.2.2.2.2.2.1,true,()),())
theorem _2:bq ae (aH (dn (aH (codeOf Tryz.f151) 1 122)) 244 31332) (bE Mv Ms DW):=dI g0 (by kernel_rfl) aB fun y=>by kernel_rfl
abbrev ze:Shape:=⟨[a8 0,aq 1,aq 6,aq 26,aq 27],[],53⟩
abbrev ES:List bk:=[(.ret,⟨[aq 4,aQ 5],[],53⟩),(.exit 0,⟨[aq 1,aq 6],[],53⟩)]
noncomputable def zr(y:ze.L):cy ze ES:=
 bif(decide (y.1.2.2.2.2.1<y.1.2.2.2.1)) then
(DW ((y.1.1,y.1.2.1,y.1.2.2.1,y.1.2.2.2.2.1,y.1.2.2.2.1,y.1.2.2.2.2.1,()),())).bind fun a=>
 bif a.1.2.2.2.2.2.2.1 then
 some (.inr (.inl (((0:Int),false,()),())))
else
(bd a.1.1 a.1.2.2.2.1).bind fun b=>
 some (.inl ((a.1.1,a.1.2.1,(IntKind.i64.wrap ((IntKind.i64.wrap (a.1.2.2.1*(10:Int)))+(IntKind.i64.wrap (IntKind.u8.wrap ((b.toNat:Int)-(48:Int)))))),a.1.2.2.2.2.1,(IntKind.i64.wrap (a.1.2.2.2.2.2.1+(1:Int))),()),()))
else
 some (.inr (.inr ((y.1.2.1,y.1.2.2.1,()),())))
noncomputable def zi:ze.L->Option (aY ES):=b7 zr
theorem adq:bq ae (aH (codeOf Tryz.f151) 1 122) (bE ze ES zi):=cE g0 (by kernel_rfl) (bN _2 aB) fun y=>by kernel_rfl
abbrev i151:Shape:=⟨[a8 0,aq 1],[],53⟩
abbrev TM:Shape:=⟨[aq 4,aQ 5],[],53⟩
noncomputable def f151(a:i151.L):Option TM.L:=
(GH ((a.1.1,a.1.2.1,()),())).bind fun b=>
 bif b.1.2.2.1 then
 some (((0:Int),false,()),())
else
(zi ((b.1.1,b.1.2.1,(0:Int),(b.1.1.length:Int),(0:Int),()),())).bind fun c=>
(match c with
|.inl d=>
 some ((d.1.1,d.1.2.1,()),())
|.inr e=>
 bif(decide (e.1.2.1>e.1.1)) then
 some (((0:Int),false,()),())
else
 some ((e.1.2.1,true,()),()))
noncomputable def Vl:bb:=bf az Tryz.f151 i151 TM [] f151
theorem ajy:a_ ae 151 Vl:=bh g0 Tryz.func151 (by kernel_rfl) (bN ae1 (bN adq aB)) (fun y=>by kernel_rfl) fun a=>by kernel_rfl
abbrev i91:Shape:=⟨[aq 0,aq 1,aq 2],[],15⟩
abbrev Wc:Shape:=⟨[aQ 6],[],15⟩
noncomputable def f91(a:i91.L):Option Wc.L:=
 bif(decide (a.1.1>=a.1.2.1)) then
 some (((decide (a.1.1<=a.1.2.2.1)),()),())
else
 some ((false,()),())
noncomputable def sw:bb:=bf az Tryz.f91 i91 Wc [] f91
theorem z91:a_ ae 91 sw:=bh g0 Tryz.func91 (by kernel_rfl) aB (fun y=>by kernel_rfl) fun a=>by kernel_rfl
noncomputable abbrev alM:bD:=[(91,sw)]
theorem Ct:bg ae (bu az alM):=bB ⟨z91,⟨⟩⟩
abbrev OG:Shape:=⟨[a8 0,aq 3],[],42⟩
abbrev On:List bk:=[(.norm,⟨[a8 0,aq 3,aQ 4],[],42⟩)]
noncomputable def Fe(y:OG.L):Option (aY On):=
(bd y.1.1 y.1.2.1).bind fun a=>
 bif(decide ((a.toNat:Int)>=(97:Int))) then
(bd y.1.1 y.1.2.1).bind fun b=>
 some ((y.1.1,y.1.2.1,(decide ((b.toNat:Int)<=(122:Int))),()),())
else
 some ((y.1.1,y.1.2.1,false,()),())
theorem ado:bq ae (aH (dn (aH (codeOf Tryz.f161) 1 26)) 52 840) (bE OG On Fe):=dI Ct (by kernel_rfl) aB fun y=>by kernel_rfl
abbrev Np:Shape:=⟨[a8 0,aq 3,aQ 4],[],42⟩
abbrev Na:List bk:=[(.norm,⟨[a8 0,aq 3,aQ 38],[],42⟩)]
noncomputable def Ez(y:Np.L):Option (aY Na):=
 bif(!y.1.2.2.1) then
 bif(!(y.1.2.1==(0:Int))) then
(bd y.1.1 y.1.2.1).bind fun a=>
 bif(!(decide ((a.toNat:Int)<(48:Int)))) then
(bd y.1.1 y.1.2.1).bind fun b=>
 some ((y.1.1,y.1.2.1,(decide ((b.toNat:Int)>(57:Int))),()),())
else
 some ((y.1.1,y.1.2.1,true,()),())
else
 some ((y.1.1,y.1.2.1,true,()),())
else
 some ((y.1.1,y.1.2.1,false,()),())
theorem abB:bq ae (aH (dn (aH (codeOf Tryz.f161) 1 26)) 52 1682) (bE Np Na Ez):=dI Ct (by kernel_rfl) aB fun y=>by kernel_rfl
abbrev zX:Shape:=⟨[a8 0,aq 3],[],42⟩
abbrev FP:List bk:=[(.ret,⟨[aQ 2],[],42⟩),(.exit 0,⟨[a8 0],[],42⟩)]
noncomputable def Ay(y:zX.L):cy zX FP:=
 bif(decide (y.1.2.1<(y.1.1.length:Int))) then
(Fe ((y.1.1,y.1.2.1,()),())).bind fun a=>
(Ez ((a.1.1,a.1.2.1,a.1.2.2.1,()),())).bind fun b=>
 bif b.1.2.2.1 then
 some (.inr (.inl ((false,()),())))
else
 some (.inl ((b.1.1,(IntKind.i64.wrap (b.1.2.1+(1:Int))),()),()))
else
 some (.inr (.inr ((y.1.1,()),())))
noncomputable def Gn:zX.L->Option (aY FP):=b7 Ay
theorem aeX:bq ae (aH (codeOf Tryz.f161) 1 26) (bE zX FP Gn):=cE Ct (by kernel_rfl) (bN ado (bN abB aB)) fun y=>by kernel_rfl
abbrev i161:Shape:=⟨[a8 0],[],42⟩
abbrev TI:Shape:=⟨[aQ 2],[],42⟩
noncomputable def f161(a:i161.L):Option TI.L:=
(Gn ((a.1.1,(0:Int),()),())).bind fun b=>
(match b with
|.inl c=>
 some ((c.1.1,()),())
|.inr d=>
(f91 (((d.1.1.length:Int),(1:Int),(10:Int),()),())).bind fun e=>
 some ((e.1.1,()),()))
noncomputable def I_:bb:=bf az Tryz.f161 i161 TI [] f161
theorem SU:a_ ae 161 I_:=bh Ct Tryz.func161 (by kernel_rfl) (bN aeX aB) (fun y=>by kernel_rfl) fun a=>by kernel_rfl
abbrev Ow:Shape:=⟨[a8 0,aq 3,aq 4],[],47⟩
abbrev Oc:List bk:=[(.norm,⟨[a8 0,aq 3,aq 4,aQ 24],[],47⟩)]
noncomputable def E_(y:Ow.L):Option (aY Oc):=
(bd y.1.1 y.1.2.2.1).bind fun a=>
 bif(!(decide ((a.toNat:Int)<(48:Int)))) then
(bd y.1.1 y.1.2.2.1).bind fun b=>
 bif(!(decide ((b.toNat:Int)>(57:Int)))) then
 some ((y.1.1,y.1.2.1,y.1.2.2.1,(decide (y.1.2.2.1>=(6:Int))),()),())
else
 some ((y.1.1,y.1.2.1,y.1.2.2.1,true,()),())
else
 some ((y.1.1,y.1.2.1,y.1.2.2.1,true,()),())
theorem ac9:bq ae (aH (dn (aH (codeOf Tryz.f90) 1 58)) 116 3728) (bE Ow Oc E_):=dI g0 (by kernel_rfl) aB fun y=>by kernel_rfl
abbrev AV:Shape:=⟨[a8 0,aq 3,aq 4],[],47⟩
abbrev G1:List bk:=[(.ret,⟨[aq 2],[],47⟩),(.exit 0,⟨[a8 0,aq 3],[],47⟩)]
noncomputable def Be(y:AV.L):cy AV G1:=
 bif(decide (y.1.2.2.1<(y.1.1.length:Int))) then
(E_ ((y.1.1,y.1.2.1,y.1.2.2.1,()),())).bind fun a=>
 bif a.1.2.2.2.1 then
 some (.inr (.inl ((((-1):Int),()),())))
else
(bd a.1.1 a.1.2.2.1).bind fun b=>
 some (.inl ((a.1.1,(IntKind.i64.wrap ((IntKind.i64.wrap (a.1.2.1*(10:Int)))+(IntKind.i64.wrap (IntKind.u8.wrap ((b.toNat:Int)-(48:Int)))))),(IntKind.i64.wrap (a.1.2.2.1+(1:Int))),()),()))
else
 some (.inr (.inr ((y.1.1,y.1.2.1,()),())))
noncomputable def He:AV.L->Option (aY G1):=b7 Be
theorem agu:bq ae (aH (codeOf Tryz.f90) 1 58) (bE AV G1 He):=cE g0 (by kernel_rfl) (bN ac9 aB) fun y=>by kernel_rfl
abbrev Qp:Shape:=⟨[a8 0,aq 3],[],47⟩
abbrev Qj:List bk:=[(.norm,⟨[aq 3,aQ 45],[],47⟩)]
noncomputable def Hn(y:Qp.L):Option (aY Qj):=
 bif(!((y.1.1.length:Int)==(0:Int))) then
 bif(decide ((y.1.1.length:Int)>(1:Int))) then
(bd y.1.1 (0:Int)).bind fun a=>
 some ((y.1.2.1,((a.toNat:Int)==(48:Int)),()),())
else
 some ((y.1.2.1,false,()),())
else
 some ((y.1.2.1,true,()),())
theorem agt:bq ae (aH (codeOf Tryz.f90) 1 60) (bE Qp Qj Hn):=dI g0 (by kernel_rfl) aB fun y=>by kernel_rfl
abbrev i90:Shape:=⟨[a8 0],[],47⟩
abbrev Wd:Shape:=⟨[aq 2],[],47⟩
noncomputable def f90(a:i90.L):Option Wd.L:=
(He ((a.1.1,(0:Int),(0:Int),()),())).bind fun b=>
(match b with
|.inl c=>
 some ((c.1.1,()),())
|.inr d=>
(Hn ((d.1.1,d.1.2.1,()),())).bind fun e=>
 bif e.1.2.1 then
 some ((((-1):Int),()),())
else
 some ((e.1.1,()),()))
noncomputable def Xs:bb:=bf az Tryz.f90 i90 Wd [] f90
theorem amG:a_ ae 90 Xs:=bh g0 Tryz.func90 (by kernel_rfl) (bN agu (bN agt aB)) (fun y=>by kernel_rfl) fun a=>by kernel_rfl
def jw(b:UInt8):Bool:=decide ((97:Int)<=(b.toNat:Int))&&decide ((b.toNat:Int)<=122)
def eg(b:UInt8):Bool:=decide ((48:Int)<=(b.toNat:Int))&&decide ((b.toNat:Int)<=57)
def within(n cp hi:Int):Bool:=decide (cp<=n)&&decide (n<=hi)
theorem tk(a):f91 a=some ((within a.1.1 a.1.2.1 a.1.2.2.1,()),()):=by
 simp only[f91,within,ge_iff_le];cases decide (a.1.2.1<=a.1.1)<;>rfl
def l0(s:J):Bool:=allI (fun i x=>jw x||(!(i==0)&&eg x)) 0 s&&within s.length 1 10
theorem N4(a)(M:aM a.1.1.length):f161 a=some ((l0 a.1.1,()),()):=by
 obtain⟨⟨s,u⟩,bv⟩:=a;have key:Gn ((s,((0:Int),())),())=some (bif allI (fun i x=>jw x||(!(i==0)&&eg x)) 0 s then .inr ((s,()),()) else .inl ((false,()),())):=by
  refine gm Ay s (fun i=>((s,((i:Int),())),())) _ _ _ (fun i x hx=>?_) ?_
  ·have hi:=ct hx;have hw:aM i:=by unfold aM at*;simp only at M;omega
   simp only[Ay,cF hi,cond_true,Fe,Ez,cc,hx,Option.bind_some,cl hw,ge_iff_le,UG];unfold jw eg;by_cases h1:(97:Int)<=(x.toNat:Int)<;>by_cases h2:(x.toNat:Int)<=122<;>cases ab:(i==0)<;>by_cases aF:(48:Int)<=(x.toNat:Int)<;>by_cases bo:(x.toNat:Int)<=57<;>simp[h1,h2,ab,aF,bo,cl hw,cc,hx,UG,qG,qH,-beq_iff_eq]
  ·simp only[Ay,dQ,cond_false]
 simp only[f161,key,Option.bind_some];unfold l0;cases allI (fun i x=>jw x||(!(i==0)&&eg x)) 0 s with
 |false=>rfl
 |true=>simp only[cond_true,tk,Option.bind_some,Bool.true_and]
theorem Z8(b:UInt8)(r:J):l0 (b::r)=(jw b&&(b::r).all (fun x=>jw x||eg x)&&decide (((b::r).length:Int)<=10)):=by
 unfold l0;simp only[allI,List.all_cons];have:allI (fun i x=>jw x||(!(i==0)&&eg x)) (0+1) r=r.all (fun x=>jw x||eg x):=by
  have hz:∀(i:Nat) (x:UInt8),1<=i->x∈r->(jw x||(!(i==0)&&eg x))=(jw x||eg x):=by
   intro i x hi _;have:(i==0)=false:=by simp;omega
   rw[this];simp
  rw[MS (lm:=fun _ x=>jw x||eg x) r 1 hz,h4]
 rw[this];unfold within;have:decide ((1:Int)<=((b::r).length:Int))=true:=by simp only[List.length_cons,decide_eq_true_eq];omega
 rw[this];cases jw b<;>simp
theorem LC(a)(M:aM a.1.1.length):f118 a=some ((l0 a.1.1,()),()):=by
 obtain⟨⟨s,u⟩,bv⟩:=a;have key:Gv ((s,((s.length:Int),((0:Int),()))),())=some (bif allI (fun _ x=>jw x||eg x) 0 s then .inr ((),()) else .inl ((false,()),())):=by
  refine gm AF s (fun i=>((s,((s.length:Int),((i:Int),()))),())) _ _ _ (fun i x hx=>?_) ?_
  ·have hi:=ct hx;have hw:aM i:=by unfold aM at*;simp only at M;omega
   simp only[AF,cF hi,cond_true,EC,cc,hx,Option.bind_some,cl hw,qG,qH];unfold jw eg;by_cases h1:(97:Int)<=(x.toNat:Int)<;>by_cases h2:(x.toNat:Int)<=122<;>by_cases aF:(48:Int)<=(x.toNat:Int)<;>by_cases bo:(x.toNat:Int)<=57<;>simp[h1,h2,aF,bo,cl hw,cc,hx,qG,qH]
  ·simp only[AF,dQ,cond_false]
 rw[h4] at key;cases s with
 |nil=>rfl
 |cons b r=>
  have hb:bd (b::r) 0=some b:=rfl;simp only[f118,GL,hb,Option.bind_some,qG,qH,Z8];have he:((b::r)==([]:J))=false:=rfl;have hl:jw b=(decide ((97:Int)<=(b.toNat:Int))&&decide ((b.toNat:Int)<=122)):=rfl;rw[he,hl];by_cases h1:(97:Int)<=(b.toNat:Int)<;>by_cases h2:(b.toNat:Int)<=122<;>by_cases ab:((b::r).length:Int)<=10<;>
   simp only[h1,h2,ab,decide_true,decide_false,Bool.not_true,Bool.not_false,cond_true,cond_false,Option.bind_some,Bool.true_and,Bool.and_true,Bool.false_and,Bool.and_false]
  rw[key];generalize List.all (b::r) (fun x=>jw x||eg x)=q
  cases q<;>rfl
def h8(n:Int)(b:UInt8):Int:=n*10+((b.toNat:Int)-48)
def g'(s:J):Int:=s.foldl h8 0
def nM:J->Bool
 |b::_::_=>(b.toNat:Int)==48
 |_=>false
def fN(s:J):Bool:=s.all eg&&!(s==[])&&!nM s&&decide (s.length<=6)&&decide (g' s<=999)
theorem oE{b:UInt8}(h:eg b=true):48<=(b.toNat:Int)/\(b.toNat:Int)<=57:=by
 simpa[eg] using h
theorem agf{b:UInt8}(h:eg b=true):IntKind.u8.wrap ((b.toNat:Int)-48)=(b.toNat:Int)-48:=by
 have:=oE h;rw[IntKind.wrap_u8];omega
theorem LV{n:Int}{b:UInt8}{i:Nat}(h:eg b=true)(h0:0<=n)(h1:n<10^i):0<=h8 n b/\h8 n b<10^(i+1):=by
 have:=oE h;unfold h8;rw[Int.pow_succ];omega
theorem aff{i:Nat}(h:i<=9):(10:Int)^i<=1000000000:=by
 have:i=0\/i=1\/i=2\/i=3\/i=4\/i=5\/i=6\/i=7\/i=8\/i=9:=by omega
 rcases this with rfl|rfl|rfl|rfl|rfl|rfl|rfl|rfl|rfl|rfl<;>decide
theorem Ng{n:Int}{b:UInt8}{i:Nat}(h:eg b=true)(hi:i<=8)(h0:0<=n)(h1:n<10^i):
  IntKind.i64.wrap (IntKind.i64.wrap (n*10)+IntKind.i64.wrap (IntKind.u8.wrap ((b.toNat:Int)-48)))=h8 n b:=by
 have Z:=oE h;have ag:=aff (show i<=9 by omega)
 rw[agf h,ed (n:=n*10) (by omega) (by omega),ed (n:=(b.toNat:Int)-48) (by omega) (by omega),ed (by omega) (by omega)]
 rfl
theorem aei(a)(M:aM a.1.1.length):f90 a=some ((bif a.1.1.all eg&&decide (a.1.1.length<=6)&&!(a.1.1==[])&&!nM a.1.1 then g' a.1.1 else-1,()),()):=by
 obtain⟨⟨s,u⟩,bv⟩:=a;have key:He ((s,((0:Int),((0:Int),()))),())=some (bif allI (fun i x=>eg x&&decide (i<6)) 0 s then .inr ((s,(g' s,())),()) else .inl ((((-1):Int),()),())):=by
  have:=nB Be s (fun i n=>((s,(n,((i:Int),()))),())) (fun i x n=>some (bif eg x&&decide (i<6) then .inl (h8 n x) else .inr (.inl ((((-1):Int),()),())))) (fun n=>.inr ((s,(n,())),()))
   (fun i n=>0<=n/\n<10^i/\(i<=6)) (0:Int) ⟨by decide,by decide,by decide⟩ (fun i x n hx dj=>?_) (fun n _=>?_)
  ·exact this.trans (by rw[DK];rfl)
  ·have hi:=ct hx;have hw:aM i:=by unfold aM at*;simp only at M;omega
   obtain⟨h0,h1,dk⟩:=dj;refine⟨?_,fun ar ah=>?_⟩
   ·simp only[Be,cF hi,cond_true,E_,cc,hx,Option.bind_some,cl hw,qG,qH,Xh];have akn:decide ((6:Int)<=(i:Int))=!decide (i<6):=by by_cases h:i<6<;>simp[h]<;>omega
    rw[akn];cases Z:eg x with
    |false=>
     unfold eg at Z;by_cases aF:(48:Int)<=(x.toNat:Int)<;>by_cases bo:(x.toNat:Int)<=57<;>simp[aF,bo] at Z ⊢
    |true=>
     obtain⟨aF,bo⟩:=oE Z;cases ao:decide (i<6) with
     |false=>simp[aF,bo]
     |true=>
      have ao:i<6:=by simpa using ao
      have:=Ng (i:=i) Z (by omega) h0 h1
      simp only[aF,bo,decide_true,Bool.not_true,Bool.not_false,cond_true,cond_false,Option.bind_some,cc,hx,this,cl hw,Bool.and_true,Option.map_some]
   ·simp only[Option.some.injEq] at ah;cases ao:(eg x&&decide (i<6)) with
    |false=>rw[ao] at ah;cases ah
    |true=>
     rw[ao] at ah;simp only[cond_true,Sum.inl.injEq] at ah;simp only[Bool.and_eq_true,decide_eq_true_eq] at ao;subst ah;have:=LV ao.1 h0 h1;exact⟨this.1,this.2,by omega⟩
  ·simp only[Be,dQ,cond_false]
 rw[Fm,h4,afU] at key;simp only[f90,key,Option.bind_some];cases s with
 |nil=>rfl
 |cons b r=>
  have hb:bd (b::r) 0=some b:=rfl;have he:((b::r)==([]:J))=false:=rfl;have hz:(((b::r).length:Int)==0)=false:=by simp only[List.length_cons,beq_eq_false_iff_ne,ne_eq];omega
  have hl:decide (((b::r).length:Int)>1)=!(r==[]):=by cases r<;>simp;omega
  simp only[List.isEmpty_cons,Bool.false_or,Nat.zero_add,he,Bool.not_false,Bool.and_true];cases ao:(List.all (b::r) eg&&decide ((b::r).length<=6)) with
  |false=>rfl
  |true=>
   simp only[cond_true,Hn,hz,Bool.not_false,hl,hb,Option.bind_some,Bool.true_and];cases r with
   |nil=>rfl
   |cons c r=>
    have:((c::r)==([]:J))=false:=rfl;rw[this];simp only[Bool.not_false,cond_true,Option.bind_some,nM];cases ((b.toNat:Int)==48)<;>rfl
theorem aaL:∀(r:J) (n:Int) (k:Nat),r.all eg=true->0<=n->10^k<=n->10^(k+r.length)<=r.foldl h8 n:=by
 intro r;induction r with
 |nil=>intro n k _ _ h;exact h
 |cons b r ih=>
  intro n k Z h0 h;simp only[List.all_cons,Bool.and_eq_true] at Z;have hb:=oE Z.1;have M:10^(k+1)<=h8 n b:=by unfold h8;rw[Int.pow_succ];omega
  have:=ih (h8 n b) (k+1) Z.2 (by unfold h8;omega) M
  simp only[List.length_cons,List.foldl_cons];rw[show k+(r.length+1)=k+1+r.length by omega]
  exact this
theorem ads{n:Nat}(h:6<=n):(1000000:Int)<=10^n:=by
 induction n with
 |zero=>omega
 |succ n ih=>
  by_cases dk:6<=n
  ·have:=ih dk;rw[Int.pow_succ];omega
  ·have:n=5:=by omega
   subst this;decide
theorem aeh{s:J}(Z:s.all eg=true)(hl:nM s=false)(hZ:7<=s.length):999<g' s:=by
 match s,hZ with
 |b::c::r,hZ=>
  simp only[nM,beq_eq_false_iff_ne,ne_eq] at hl;simp only[List.all_cons,Bool.and_eq_true] at Z;have hb:=oE Z.1;have hc:=oE Z.2.1;have M:(10:Int)^0<=h8 0 b:=by unfold h8;simp;omega
  have:=aaL (c::r) (h8 0 b) 0 (by simp[Z.2.1,Z.2.2]) (by unfold h8;omega) M
  have h2:(1000000:Int)<=10^(0+(c::r).length):=ads (by simp only[List.length_cons] at hZ ⊢;omega)
  show 999<List.foldl h8 (h8 0 b) (c::r);omega
theorem acz(a)(M:aM a.1.1.length)(my:a.1.2.1=999):f151 a=some ((bif fN a.1.1 then g' a.1.1 else 0,(fN a.1.1,())),()):=by
 obtain⟨⟨s,m,u⟩,bv⟩:=a;obtain rfl:m=999:=my;have key:s.length<=9->zi ((s,((999:Int),((0:Int),((s.length:Int),((0:Int),()))))),())=some (bif allI (fun i x=>eg x) 0 s then .inr (((999:Int),(g' s,())),()) else .inl (((0:Int),(false,())),())):=by
  intro my;have:=nB zr s (fun i n=>((s,((999:Int),(n,((s.length:Int),((i:Int),()))))),())) (fun i x n=>some (bif eg x then .inl (h8 n x) else .inr (.inl (((0:Int),(false,())),())))) (fun n=>.inr (((999:Int),(n,())),()))
   (fun i n=>0<=n/\n<10^i/\(i<=9)) (0:Int) ⟨by decide,by decide,by decide⟩ (fun i x n hx dj=>?_) (fun n _=>?_)
  ·exact this.trans (by rw[DK];rfl)
  ·have hi:=ct hx;have hw:aM i:=by unfold aM at*;simp only at M;omega
   obtain⟨h0,h1,dk⟩:=dj;refine⟨?_,fun ar ah=>?_⟩
   ·simp only[zr,cF hi,cond_true,DW,cc,hx,Option.bind_some,cl hw,qG,qH,Xh];cases Z:eg x with
    |false=>
     unfold eg at Z;by_cases aF:(48:Int)<=(x.toNat:Int)<;>by_cases bo:(x.toNat:Int)<=57<;>simp[aF,bo] at Z ⊢
    |true=>
     obtain⟨aF,bo⟩:=oE Z;have:=Ng (i:=i) Z (by omega) h0 h1
     simp only[aF,bo,decide_true,Bool.not_true,Bool.not_false,cond_true,cond_false,Option.bind_some,cc,hx,this,cl hw,Bool.and_true,Option.map_some]
   ·simp only[Option.some.injEq] at ah;cases ao:eg x with
    |false=>rw[ao] at ah;cases ah
    |true=>
     rw[ao] at ah;simp only[cond_true,Sum.inl.injEq] at ah;subst ah;have:=LV ao h0 h1;exact⟨this.1,this.2,by omega⟩
  ·simp only[zr,dQ,cond_false]
 rw[h4] at key;cases s with
 |nil=>rfl
 |cons b r=>
  have hb:bd (b::r) 0=some b:=rfl;have he:((b::r)==([]:J))=false:=rfl;have hl:decide (((b::r).length:Int)>1)=!(r==[]):=by cases r<;>simp;omega
  have my:decide (((b::r).length:Int)>9)=!decide ((b::r).length<=9):=by by_cases h:(b::r).length<=9<;>simp only[h,decide_true,decide_false,Bool.not_true,Bool.not_false,decide_eq_true_eq,decide_eq_false_iff_not]<;>omega
  have HQ:nM (b::r)=(!(r==[])&&(b.toNat:Int)==48):=by cases r<;>rfl
  simp only[f151,GH,he,hl,my,Bool.not_false,cond_true,Bool.not_not,hb,Option.bind_some];have fin:(b::r).length<=9->nM (b::r)=false->((zi ((b::r,((999:Int),((0:Int),(((b::r).length:Int),((0:Int),()))))),())).bind fun aj9=>match aj9 with
    |.inl S3=>some ((S3.1.1,(S3.1.2.1,())),())
    |.inr Ie=>bif decide (Ie.1.2.1>Ie.1.1) then some (((0:Int),(false,())),()) else some ((Ie.1.2.1,(true,())),()))=
    some ((bif fN (b::r) then g' (b::r) else 0,(fN (b::r),())),()):=by
   intro my lu;rw[key my];unfold fN;rw[he,lu];cases Z:List.all (b::r) eg with
   |false=>rfl
   |true=>
    simp only[cond_true,Option.bind_some,Bool.not_false,Bool.true_and,qH];by_cases dk:(b::r).length<=6
    ·simp only[dk,decide_true,Bool.true_and];cases decide (g' (b::r)<=999)<;>rfl
    ·have:=aeh Z lu (by omega)
     have:decide (g' (b::r)<=999)=false:=by simp only[decide_eq_false_iff_not];omega
     rw[this];simp only[dk,decide_false,Bool.false_and];rfl
  by_cases ao:(b::r).length<=9
  ·simp only[ao,decide_true,cond_true];cases hr:(r==[]) with
   |true=>
    simp only[Bool.not_true,cond_false,Option.bind_some];exact fin ao (by rw[HQ,hr];rfl)
   |false=>
    simp only[Bool.not_false,cond_true,Option.bind_some];cases Xb:((b.toNat:Int)==48) with
    |true=>
     have:fN (b::r)=false:=by unfold fN;rw[HQ,hr,Xb];simp
     rw[this];rfl
    |false=>
     simp only[cond_false];exact fin ao (by rw[HQ,hr,Xb];rfl)
  ·have:fN (b::r)=false:=by
    unfold fN;have:decide ((b::r).length<=6)=false:=by simp only[decide_eq_false_iff_not];omega
    rw[this];simp
   simp only[ao,decide_false,cond_false,Option.bind_some,cond_true,this]
abbrev zz:Shape:=⟨[a8 0,(1,.am (.d (.int .u8))),aq 2,bS 7 3000448,aq 8,aq 9],[b8 3000448 .str 7 0],43⟩
abbrev vL:List bk:=[(.exit 0,⟨[a8 0,bS 7 3000448,aq 8],[b8 3000448 .str 7 0],43⟩)]
noncomputable def Al(y:zz.L):cy zz vL:=
 bif(decide (y.1.2.2.2.2.2.1<(y.1.1.length:Int))) then
 bif(decide ((y.2.1.length:Int)<y.1.2.2.1)) then
(bd y.1.1 y.1.2.2.2.2.2.1).bind fun a=>
 bif((a.toNat:Int)==y.1.2.1) then
(cA y.1.1 y.1.2.2.2.2.1 y.1.2.2.2.2.2.1).bind fun b=>
(cR 16 y.2.1 ([b]:List J)).bind fun c=>
 some (.inl ((y.1.1,y.1.2.1,y.1.2.2.1,(),(IntKind.i64.wrap (y.1.2.2.2.2.2.1+(1:Int))),(IntKind.i64.wrap (y.1.2.2.2.2.2.1+(1:Int))),()),c,()))
else
 some (.inl ((y.1.1,y.1.2.1,y.1.2.2.1,(),y.1.2.2.2.2.1,(IntKind.i64.wrap (y.1.2.2.2.2.2.1+(1:Int))),()),y.2.1,()))
else
 some (.inr ((y.1.1,(),y.1.2.2.2.2.1,()),y.2.1,()))
else
 some (.inr ((y.1.1,(),y.1.2.2.2.2.1,()),y.2.1,()))
noncomputable def F':zz.L->Option (aY vL):=b7 Al
theorem aev:bq ae (aH (codeOf Tryz.f89) 1 122) (bE zz vL F'):=cE g0 (by kernel_rfl) aB fun y=>by kernel_rfl
abbrev i89:Shape:=⟨[a8 0,(1,.am (.d (.int .u8))),aq 2],[],43⟩
abbrev We:Shape:=⟨[bS 6 3000384],[b8 3000384 .str 6 0],43⟩
noncomputable def f89(a:i89.L):Option We.L:=
(F' ((a.1.1,a.1.2.1,a.1.2.2.1,(),(0:Int),(0:Int),()),([]:List J),())).bind fun b=>
(cA b.1.1 b.1.2.2.1 (b.1.1.length:Int)).bind fun c=>
(cR 16 b.2.1 ([c]:List J)).bind fun d=>
 some (((),()),d,())
noncomputable def x1:bb:=bf az Tryz.f89 i89 We [] f89
theorem Cx:a_ ae 89 x1:=bh g0 Tryz.func89 (by kernel_rfl) (bN aev aB) (fun y=>by kernel_rfl) fun a=>by kernel_rfl
abbrev cq(n:Nat):Prop:=n<=2097152
theorem vy(c:UInt8):∀s,cr c s≠[]:=by
 intro s;induction s with
 |nil=>intro h;cases h
 |cons b r ih=>
  unfold cr;cases b==c with
  |true=>intro h;cases h
  |false=>
   simp only[cond_false];split<;>intro h<;>cases h
def ux(bV:J):List J->List J
 |x::xs=>(bV++x)::xs
 |[]=>[bV]
theorem OU{ay:List J}(h:ay≠[]):ux [] ay=ay:=by
 cases ay with
 |nil=>exact absurd rfl h
 |cons x xs=>rfl
theorem qY(c:UInt8):∀s,(cr c s).length<=s.length+1:=by
 intro s;induction s with
 |nil=>exact Nat.le_refl _
 |cons b r ih=>
  unfold cr;cases b==c with
  |true=>simpa using ih
  |false=>
   simp only[cond_false];split
   ·rename_i x xs h;rw[h] at ih;simp at ih ⊢;omega
   ·simp
theorem qX(c:UInt8):∀s x,x∈cr c s->x.length<=s.length:=by
 intro s;induction s with
 |nil=>intro x h;simp[cr] at h;simp[h]
 |cons b r ih=>
  intro x h;unfold cr at h;cases hb:b==c with
  |true=>
   rw[hb,cond_true] at h;rcases List.mem_cons.1 h with rfl|h
   ·simp
   ·have:=ih x h;simp;omega
  |false=>
   rw[hb,cond_false] at h;split at h
   ·rename_i y ys al;rcases List.mem_cons.1 h with rfl|h
    ·have:=ih y (by rw[al];exact List.mem_cons_self);simp;omega
    ·have:=ih x (by rw[al];exact List.mem_cons_of_mem _ h);simp;omega
   ·simp at h;simp[h]
theorem ad5{bR:Type}(c:UInt8)(s:J)(fin:Nat×List J->bR):∀(r:J) (k:Nat) (q:Nat×List J),r=s.drop k->k<=s.length->q.1<=k->
  ∃ii,e3 (fun i x (q:Nat×List J)=>some (.inl (bif(x.toNat:Int)==(c.toNat:Int) then(i+1,q.2++[(s.take i).drop q.1]) else q):Sum (Nat×List J) bR)) fin k r q=some (fin ii)/\ii.1<=s.length/\
   ii.2++[s.drop ii.1]=q.2++ux ((s.take k).drop q.1) (cr c r):=by
 intro r;induction r with
 |nil=>
  intro k q hr af ao;have gR:k=s.length:=by
   have:=congrArg List.length hr;simp at this;omega
  refine⟨q,rfl,by omega,?_⟩
  rw[gR,List.take_length];simp[cr,ux]
 |cons x r ih=>
  intro k q hr af ao;have a':k<s.length:=by
   have:=congrArg List.length hr;simp at this;omega
  have cn:r=s.drop (k+1):=by
   have:=congrArg List.tail hr;simpa using this
  have hx:s[k]? =some x:=by
   have:=congrArg (fun l=>l[0]?) hr
   simpa using this.symm
  simp only[e3];cases hc:((x.toNat:Int)==(c.toNat:Int)) with
  |true=>
   have JP:x=c:=by
    simp only[beq_iff_eq] at hc;exact UInt8.toNat_inj.1 (by omega)
   simp only[cond_true];obtain⟨ii,h1,h2,ab⟩:=ih (k+1) (k+1,q.2++[(s.take k).drop q.1]) cn a' (Nat.le_refl _);refine⟨ii,h1,h2,ab.trans ?_⟩;have e1:(s.take (k+1)).drop (k+1)=[]:=List.drop_eq_nil_of_le (by rw[List.length_take];omega)
   simp only[e1];rw[OU (vy c r)];subst JP;have:cr x (x::r)=[]::cr x r:=by simp[cr]
   rw[this];simp[ux]
  |false=>
   have JP:(x==c)=false:=by
    cases h:x==c with
    |false=>rfl
    |true=>rw[eq_of_beq h] at hc;simp at hc
   simp only[cond_false];obtain⟨ii,h1,h2,ab⟩:=ih (k+1) q cn a' (by omega)
   refine⟨ii,h1,h2,ab.trans ?_⟩;have e1:(s.take (k+1)).drop q.1=(s.take k).drop q.1++[x]:=by
    rw[List.take_add_one,hx];rw[List.drop_append_of_le_length (by rw[List.length_take];omega)]
    rfl
   rw[e1];have:cr c (x::r)=ux [x] (cr c r):=by
    rw[cr,JP,cond_false];cases h:cr c r with
    |nil=>rfl
    |cons y ys=>rfl
   rw[this];cases h:cr c r with
   |nil=>exact absurd h (vy c r)
   |cons y ys=>simp[ux]
theorem vJ(c:UInt8)(a)(M:cq a.1.1.length)(hb:a.1.2.1=(c.toNat:Int))(hm:a.1.2.2.1=((a.1.1.length+1:Nat):Int)):f89 a=some (((),()),(cr c a.1.1,())):=by
 obtain⟨⟨s,b,m,u⟩,bv⟩:=a;obtain rfl:b=(c.toNat:Int):=hb;obtain rfl:m=((s.length+1:Nat):Int):=hm;have M:s.length<=2097152:=M;have key:=nB Al s (fun i (q:Nat×List J)=>((s,((c.toNat:Int),(((s.length+1:Nat):Int),((),((q.1:Int),((i:Int),())))))),(q.2,())))
  (fun i x (q:Nat×List J)=>some (.inl (bif(x.toNat:Int)==(c.toNat:Int) then(i+1,q.2++[(s.take i).drop q.1]) else q))) (fun q=>(((s,((),((q.1:Int),()))),(q.2,())):aY vL))
  (fun i q=>q.1<=i/\q.2.length<=i) (0,[]) ⟨Nat.le_refl _,Nat.le_refl _⟩ (fun i x q hx dj=>?_) (fun q dj=>?_)
 ·obtain⟨ii,h1,h2,ab⟩:=ad5 c s (fun q=>(((s,((),((q.1:Int),()))),(q.2,())):aY vL)) s 0 (0,[]) rfl (Nat.zero_le _) (Nat.le_refl _)
  have key:F' ((s,((c.toNat:Int),(((s.length+1:Nat):Int),((),((0:Int),((0:Int),())))))),(([]:List J),()))=some ((s,((),((ii.1:Int),()))),(ii.2,())):=key.trans h1;simp only[f89,key,Option.bind_some];rw[pT h2];have ab:ii.2++[s.drop ii.1]=cr c s:=by
   rw[ab];simp only[List.take_zero,List.drop_nil,List.nil_append];exact OU (vy c s)
  have hl:ii.2.length<=s.length+1:=by
   have:=congrArg List.length ab;have aF:=qY c s;simp only[List.length_append,List.length_cons,List.length_nil] at this;omega
  simp only[Option.bind_some];rw[eZ (by decide) (by unfold aM;simp only[List.length_cons,List.length_nil];omega)]
  simp only[Option.bind_some,ab]
 ·have hi:=ct hx;have hw:aM i:=by unfold aM;omega
  obtain⟨h0,h1⟩:=dj;have a':decide ((q.2.length:Int)<((s.length+1:Nat):Int))=true:=cF (by omega)
  refine⟨?_,fun ii lq=>?_⟩
  ·simp only[Al,cF hi,cond_true,a',cc,hx,Option.bind_some];cases hc:((x.toNat:Int)==(c.toNat:Int)) with
   |true=>
    simp only[cond_true];rw[ET h0 (by omega)]
    simp only[Option.bind_some];rw[eZ (by decide) (by unfold aM;simp only[List.length_cons,List.length_nil];omega)]
    simp only[Option.bind_some,Option.map_some,cl hw]
   |false=>simp only[cond_false,Option.map_some,cl hw]
  ·simp only[Option.some.injEq,Sum.inl.injEq] at lq;subst lq;cases (x.toNat:Int)==(c.toNat:Int) with
   |true=>simp only[cond_true,List.length_append,List.length_cons,List.length_nil];omega
   |false=>simp only[cond_false];omega
 ·simp only[Al,dQ,cond_false]
noncomputable def SJ:bb:=Ev
theorem ahY:a_ ae 297 SJ:=Zz (fn:=Tryz.f297) (by kernel_rfl) (by kernel_rfl) (by kernel_rfl) (by kernel_rfl) (by kernel_rfl)
noncomputable abbrev alm:bD:=[(297,SJ)]
theorem ama:bg ae (bu az alm):=bB ⟨ahY,⟨⟩⟩
abbrev i271:Shape:=⟨[a8 0,(1,.am (.d (.int .u8)))],[],8⟩
abbrev Tb:Shape:=⟨[aq 4],[],8⟩
noncomputable def f271(a:i271.L):Option Tb.L:=
(some ()).bind fun fV=>
 some (((Lib.indexByte a.1.1 (a.1.2.1).toNat.toUInt8),()),())
noncomputable def UU:bb:=bf az Tryz.f271 i271 Tb [] f271
theorem ajb:a_ ae 271 UU:=bh ama Tryz.func271 (by kernel_rfl) aB (fun y=>by kernel_rfl) fun a=>by kernel_rfl
noncomputable abbrev alu:bD:=[(271,UU)]
theorem VI:bg ae (bu az alu):=bB ⟨ajb,⟨⟩⟩
abbrev Pm:Shape:=⟨[a8 0,a8 1,aq 5],[],143⟩
abbrev Pb:List bk:=[(.norm,⟨[a8 0,a8 1,aq 5,aQ 16],[],143⟩)]
noncomputable def GF(y:Pm.L):Option (aY Pb):=
 bif(!(y.1.2.2.1==(0:Int))) then
 some ((y.1.1,y.1.2.1,y.1.2.2.1,(y.1.2.1==y.1.1),()),())
else
 some ((y.1.1,y.1.2.1,y.1.2.2.1,true,()),())
theorem aeL:bq ae (aH (codeOf Tryz.f238) 1 56) (bE Pm Pb GF):=dI VI (by kernel_rfl) aB fun y=>by kernel_rfl
abbrev i238:Shape:=⟨[a8 0,a8 1],[],143⟩
abbrev Tm:Shape:=⟨[aq 4],[],143⟩
noncomputable def f238(a:i238.L):Option Tm.L:=
(GF ((a.1.1,a.1.2.1,(a.1.2.1.length:Int),()),())).bind fun pI=>
 bif pI.1.2.2.2.1 then
 some (((0:Int),()),())
else
 bif(pI.1.2.2.1==(1:Int)) then
(bd pI.1.2.1 (0:Int)).bind fun KS=>
(f271 ((pI.1.1,(KS.toNat:Int),()),())).bind fun r8=>
 some ((r8.1.1,()),())
else
 bif(decide (pI.1.2.2.1>=(pI.1.1.length:Int))) then
 some ((((-1):Int),()),())
else
 none
noncomputable def U2:bb:=bf az Tryz.f238 i238 Tm [] f238
theorem ajj:a_ ae 238 U2:=bh VI Tryz.func238 (by kernel_rfl) (bN aeL aB) (fun y=>by kernel_rfl) fun a=>by kernel_rfl
noncomputable abbrev alt:bD:=[(238,U2)]
theorem amc:bg ae (bu az alt):=bB ⟨ajj,⟨⟩⟩
abbrev i241:Shape:=⟨[a8 0,a8 1],[],8⟩
abbrev Tl:Shape:=⟨[aq 4],[],8⟩
noncomputable def f241(a:i241.L):Option Tl.L:=
(f238 ((a.1.1,a.1.2.1,()),())).bind fun b=>
 some ((b.1.1,()),())
noncomputable def U1:bb:=bf az Tryz.f241 i241 Tl [] f241
theorem aji:a_ ae 241 U1:=bh amc Tryz.func241 (by kernel_rfl) aB (fun y=>by kernel_rfl) fun a=>by kernel_rfl
noncomputable abbrev IX:Ctx:=bu az [(241,U1)]
noncomputable def Cm:Code:=codeOf Tryz.f257
noncomputable def pb:Code:=dn (aH Cm 1 12)
noncomputable def BI(p j:Nat):Oper:=(opsOf (aH pb 24 p)).getD j default
noncomputable def HK(j:Nat):Oper:=(opsOf (aH Cm 1 7)).getD j default
theorem agQ(c:UInt8)(r:J):f241 ((r,([c],())),())=some ((Lib.indexByte r c,()),()):=by
 have h0:bd ([c]:J) (0:Int)=some c:=rfl;have h1:((([c]:J).length:Int)==0)=false:=rfl;have h2:((([c]:J).length:Int)==1)=true:=rfl;have ab:((c.toNat:Int)).toNat.toUInt8=c:=by simp
 simp only[f241,f238,GF,f271,h0,h1,h2,ab,Bool.not_false,cond_true,cond_false,Option.bind_some,Option.bind];by_cases h:(([c]:J)==r)=true
 ·have:r=[c]:=(by simpa using h:[c]=r).symm
  subst this;simp[Lib.indexByte]<;>rfl
 ·simp[h]<;>rfl
theorem aiO(c:UInt8)(r:J):exec (gY IX []) (aH pb 24 96) 96 (n9 52 c r) (B' (gY IX []) 52 7 8 (aH pb 24 194) (aH pb 24 390) 194 390)=
 (f241 ((r,([c],())),())).bind fun q=>bif decide (q.1.1<0) then some (.inl (lF 52 c r)) else(cA r 0 (IntKind.i64.wrap (q.1.1+0))).bind fun x=>some (.inr ((q.1.1,x),lF 52 c r)):=by kernel_rfl
theorem Sn:wq ae 257:=
 afs (C:=gY IX []) (bB ⟨aji,⟨⟩⟩) (fn:=Tryz.f257) (k:=52) (A:=aH Cm 1 2) (r5:=aH pb 24 96) (c6:=aH pb 24 194) (r7:=aH pb 24 390) (r9:=aH pb 24 783)
  (o0:=BI 1564 0) (o1:=BI 1564 1) (o2:=BI 1564 2) (o3:=BI 1564 3) (q0:=HK 0) (q1:=HK 1) (q2:=HK 2) (pA:=2) (p5:=96) (p6:=194) (p7:=390) (p9:=783) (t7:=7) (t8:=8) (a1:=39) (a2:=40)
  (t41:=41) (t42:=42) (u1:=49) (u2:=50) (ty:=#[9]) (CC:=#[9])
  {Uf:=(by kernel_rfl),nt:=(by kernel_rfl),ci:=(by decide),fc:=(by kernel_rfl),Xg:=enters_of Tryz.func257 (by kernel_rfl) rfl,body:=⟨tR (aH pb 24 1564),tR (aH Cm 1 7),(by kernel_rfl)⟩,x8:=(by kernel_rfl),wr:=(by kernel_rfl),
   bB:=⟨(by kernel_rfl),(by kernel_rfl),(by kernel_rfl),(by kernel_rfl),(by kernel_rfl),(by kernel_rfl),(by kernel_rfl)⟩,XX:=(by kernel_rfl),XW:=(by kernel_rfl),d2:=(by kernel_rfl),Ir:=(by decide),c2:=(by kernel_rfl),d5:=(by kernel_rfl),
   lg:=⟨lQ (by kernel_rfl) aB,lQ (by kernel_rfl) aB,lQ (by kernel_rfl) aB,lQ (by kernel_rfl) aB,lQ (by kernel_rfl) aB⟩,
   hA:=fun c r=>(by kernel_rfl),et:=fun c r=>(aiO c r).trans (by rw[agQ];rfl),aZ:=fun c r i x v=>(by kernel_rfl),ab:=fun c r b=>(by kernel_rfl),Xc:=(by kernel_rfl),ya:=fun c r i=>(by kernel_rfl),Dk:=fun c r v=>(by kernel_rfl)}
  (by kernel_rfl) (by decide)
noncomputable abbrev alX:bD:=[(151,Vl)]
theorem Jp:bg ae (bu az alX):=bB ⟨ajy,⟨⟩⟩
abbrev Ns:Shape:=⟨[bj 2 2 0,bj 3 3 0,bj 4 4 0,aq 6,aQ 7],[gg 5000128 .i64 2 0,bi 2 [.own 5000128],bi 3 [iZ],gg 5000256 .i64 4 0,bi 4 [.own 5000256]],28⟩
abbrev Nd:List bk:=[(.norm,⟨[bj 2 2 0,bj 3 3 0,bj 4 4 0,aq 6,aQ 22],[gg 5000128 .i64 2 0,bi 2 [.own 5000128],bi 3 [iZ],gg 5000256 .i64 4 0,bi 4 [.own 5000256]],28⟩)]
noncomputable def EB(y:Ns.L):Option (aY Nd):=
 bif(!(!y.1.2.2.2.2.1)) then
 some (((),(),(),y.1.2.2.2.1,((y.2.2.2.2.1.length:Int)==(4:Int)),()),y.2.1,((),()),(y.2.2.2.1.1,()),y.2.2.2.2.1,((),()),())
else
 some (((),(),(),y.1.2.2.2.1,true,()),y.2.1,((),()),(y.2.2.2.1.1,()),y.2.2.2.2.1,((),()),())
theorem abI:bq ae (aH (kr (aH (codeOf Tryz.f127) 1 58)) 117 1876) (bE Ns Nd EB):=dI Jp (by kernel_rfl) aB fun y=>by kernel_rfl
abbrev z_:Shape:=⟨[bj 2 2 0,bj 3 3 0,bj 4 4 0],[gg 5000128 .i64 2 0,bi 2 [.own 5000128],bi 3 [iZ],gg 5000256 .i64 4 0,bi 4 [.own 5000256]],28⟩
abbrev FV:List bk:=[(.norm,⟨[bj 2 2 0,bj 3 3 0,bj 4 4 0],[gg 5000128 .i64 2 0,bi 2 [.own 5000128],bi 3 [iZ],gg 5000256 .i64 4 0,bi 4 [.own 5000256]],28⟩),(.ret,⟨[bj 2 2 0,bj 3 3 0],[gg 5000128 .i64 2 0,bi 2 [.own 5000128],bi 3 [iZ]],28⟩)]
noncomputable def tc(x:J)(y:z_.L):cy z_ FV:=
(f151 ((x,(999:Int),()),())).bind fun a=>
(EB (((),(),(),a.1.1,a.1.2.1,()),y.2.1,((),()),(y.2.2.2.1.1,()),y.2.2.2.2.1,((),()),())).bind fun b=>
 bif b.1.2.2.2.2.1 then
 some (.inr (.inr (((),(),()),([]:List Int),((),()),(false,()),())))
else
(cR 8 b.2.2.2.2.1 ([b.1.2.2.2.1]:List Int)).bind fun c=>
 some (.inl (((),(),(),()),b.2.1,((),()),(b.2.2.2.1.1,()),c,((),()),()))
noncomputable def vT(y:z_.L):Option (aY FV):=
 some (.inl (((),(),(),()),y.2.1,((),()),(y.2.2.2.1.1,()),y.2.2.2.2.1,((),()),()))
theorem ae7:bq ae (aH (codeOf Tryz.f127) 1 58) (s3 257 9 z_ FV tc vT):=L4 (e4:=10) Jp Sn (by kernel_rfl) (bN abI aB) (by kernel_rfl) (fun x y=>by kernel_rfl) fun y=>by kernel_rfl
abbrev i127:Shape:=⟨[a8 0],[],28⟩
abbrev TW:Shape:=⟨[bj 2 2 0,bj 3 3 0],[gg 5000128 .i64 2 0,bi 2 [.own 5000128],bi 3 [iZ]],28⟩
noncomputable def f127(a:i127.L):Option TW.L:=
(bif Nat.ble a.1.1.length k6 then iM tc vT (cr (46:UInt8) a.1.1) (((),(),(),()),([]:List Int),((),()),(false,()),([]:List Int),((),()),()) else none).bind fun b=>
(match b with
|.inl c=>
 some (((),(),()),c.2.2.2.2.1,((),()),(true,()),())
|.inr d=>
 some (((),(),()),d.2.1,((),()),(d.2.2.2.1.1,()),()))
noncomputable def Ja:bb:=bf az Tryz.f127 i127 TW [] f127
theorem z127:a_ ae 127 Ja:=bh Jp Tryz.func127 (by kernel_rfl) (bN ae7 aB) (fun y=>by kernel_rfl) fun a=>by kernel_rfl
noncomputable abbrev al0:bD:=[(127,Ja)]
theorem ams:bg ae (bu az al0):=bB ⟨z127,⟨⟩⟩
abbrev i119:Shape:=⟨[a8 0],[],11⟩
abbrev T0:Shape:=⟨[aQ 2],[],11⟩
noncomputable def f119(a:i119.L):Option T0.L:=
(f127 ((a.1.1,()),())).bind fun b=>
 some ((b.2.2.2.1.1,()),())
noncomputable def Cr:bb:=bf az Tryz.f119 i119 T0 [] f119
theorem z119:a_ ae 119 Cr:=bh ams Tryz.func119 (by kernel_rfl) aB (fun y=>by kernel_rfl) fun a=>by kernel_rfl
noncomputable abbrev alZ:bD:=[(118,Jc),(119,Cr)]
theorem VQ:bg ae (bu az alZ):=bB ⟨SW,z119,⟨⟩⟩
abbrev OI:Shape:=⟨[bj 1 1 0,aq 8],[bi 1 [bC,bM,bC]],21⟩
abbrev Oq:List bk:=[(.norm,⟨[bj 1 1 0,aQ 14],[bi 1 [bC,bM,bC]],21⟩)]
noncomputable def Fg(y:OI.L):Option (aY Oq):=
 bif(y.1.2.1==(1:Int)) then
 some (((),(y.1.2.1==(1:Int)),()),(y.2.1.1,y.2.1.2.1,y.2.1.2.2.1,()),())
else
 bif(y.1.2.1==(2:Int)) then
 some (((),(y.1.2.1==(2:Int)),()),(y.2.1.1,y.2.1.2.1,y.2.1.2.2.1,()),())
else
 some (((),(y.1.2.1==(3:Int)),()),(y.2.1.1,y.2.1.2.1,y.2.1.2.2.1,()),())
theorem adr:bq ae (aH (codeOf Tryz.f121) 1 470) (bE OI Oq Fg):=dI VQ (by kernel_rfl) aB fun y=>by kernel_rfl
abbrev i121:Shape:=⟨[dS 0 [bC,bM,bC]],[],21⟩
abbrev TZ:Shape:=⟨[aQ 2],[],21⟩
noncomputable def f121(a:i121.L):Option TZ.L:=
(f118 ((a.1.1.1,()),())).bind fun b=>
 bif(!b.1.1) then
 some ((false,()),())
else
 bif(a.1.1.2.1==(0:Int)) then
 some (((a.1.1.2.2.1==([]:J)),()),())
else
(Fg (((),a.1.1.2.1,()),(a.1.1.1,a.1.1.2.1,a.1.1.2.2.1,()),())).bind fun c=>
 bif c.1.2.1 then
(f119 ((c.2.1.2.2.1,()),())).bind fun d=>
 some ((d.1.1,()),())
else
 some ((false,()),())
noncomputable def Jb:bb:=bf az Tryz.f121 i121 TZ [] f121
theorem SV:a_ ae 121 Jb:=bh VQ Tryz.func121 (by kernel_rfl) (bN adr aB) (fun y=>by kernel_rfl) fun a=>by kernel_rfl
noncomputable abbrev alI:bD:=[(89,x1),(90,Xs),(91,sw)]
theorem VL:bg ae (bu az alI):=bB ⟨Cx,amG,z91,⟨⟩⟩
abbrev zd:Shape:=⟨[bS 4 3000256,bS 5 3000320,aq 6],[b8 3000256 .str 4 0,b8 3000320 .i64 5 0],37⟩
abbrev q5:List bk:=[(.ret,⟨[bS 2 3000128,aQ 3],[b8 3000128 .i64 2 0],37⟩),(.exit 0,⟨[bS 4 3000256,bS 5 3000320],[b8 3000256 .str 4 0,b8 3000320 .i64 5 0],37⟩)]
noncomputable def zq(y:zd.L):cy zd q5:=
 bif(decide (y.1.2.2.1<(y.2.1.length:Int))) then
(iz y.2.1.length y.1.2.2.1).bind fun a=>
(y.2.1[a]?).bind fun b=>
(f90 ((b,()),())).bind fun c=>
(f91 ((c.1.1,(0:Int),(999:Int),()),())).bind fun d=>
 bif(!d.1.1) then
 some (.inr (.inl (((),false,()),y.2.2.1,())))
else
(cR 8 y.2.2.1 ([c.1.1]:List Int)).bind fun e=>
 some (.inl (((),(),(IntKind.i64.wrap (y.1.2.2.1+(1:Int))),()),y.2.1,e,()))
else
 some (.inr (.inr (((),(),()),y.2.1,y.2.2.1,())))
noncomputable def E4:zd.L->Option (aY q5):=b7 zq
theorem adn:bq ae (aH (codeOf Tryz.f181) 1 122) (bE zd q5 E4):=cE VL (by kernel_rfl) aB fun y=>by kernel_rfl
abbrev i181:Shape:=⟨[a8 0],[],37⟩
abbrev TD:Shape:=⟨[bS 2 3000128,aQ 3],[b8 3000128 .i64 2 0],37⟩
noncomputable def f181(a:i181.L):Option TD.L:=
(f89 ((a.1.1,(46:Int),(IntKind.i64.wrap ((a.1.1.length:Int)+(1:Int))),()),())).bind fun b=>
(E4 (((),(),(0:Int),()),b.2.1,([]:List Int),())).bind fun c=>
(match c with
|.inl d=>
 some (((),d.1.2.1,()),d.2.1,())
|.inr e=>
 some (((),(decide ((e.2.1.length:Int)<=(4:Int))),()),e.2.2.1,()))
noncomputable def I8:bb:=bf az Tryz.f181 i181 TD [] f181
theorem SS:a_ ae 181 I8:=bh VL Tryz.func181 (by kernel_rfl) (bN adn aB) (fun y=>by kernel_rfl) fun a=>by kernel_rfl
noncomputable abbrev alL:bD:=[(181,I8)]
theorem amm:bg ae (bu az alL):=bB ⟨SS,⟨⟩⟩
abbrev i162:Shape:=⟨[a8 0],[],11⟩
abbrev TH:Shape:=⟨[aQ 2],[],11⟩
noncomputable def f162(a:i162.L):Option TH.L:=
(f181 ((a.1.1,()),())).bind fun b=>
 some ((b.1.2.1,()),())
noncomputable def I9:bb:=bf az Tryz.f162 i162 TH [] f162
theorem z162:a_ ae 162 I9:=bh amm Tryz.func162 (by kernel_rfl) aB (fun y=>by kernel_rfl) fun a=>by kernel_rfl
noncomputable abbrev alv:bD:=[(91,sw),(161,I_),(162,I9)]
theorem amd:bg ae (bu az alv):=bB ⟨z91,SU,z162,⟨⟩⟩
abbrev i233:Shape:=⟨[dS 0 [bC,bM,bC]],[],26⟩
abbrev Tn:Shape:=⟨[aQ 2],[],26⟩
noncomputable def f233(a:i233.L):Option Tn.L:=
(f161 ((a.1.1.1,()),())).bind fun b=>
 bif b.1.1 then
 bif(a.1.1.2.1==(0:Int)) then
 bif(!(a.1.1.2.2.1==([]:J))) then
(f91 ((a.1.1.2.1,(1:Int),(3:Int),()),())).bind fun c=>
 bif c.1.1 then
(f162 ((a.1.1.2.2.1,()),())).bind fun d=>
 some ((d.1.1,()),())
else
 some ((false,()),())
else
 some ((true,()),())
else
(f91 ((a.1.1.2.1,(1:Int),(3:Int),()),())).bind fun e=>
 bif e.1.1 then
(f162 ((a.1.1.2.2.1,()),())).bind fun f=>
 some ((f.1.1,()),())
else
 some ((false,()),())
else
 some ((false,()),())
noncomputable def U3:bb:=bf az Tryz.f233 i233 Tn [] f233
theorem z233:a_ ae 233 U3:=bh amd Tryz.func233 (by kernel_rfl) aB (fun y=>by kernel_rfl) fun a=>by kernel_rfl
theorem Mm:∀(r:J) (n:Int),r.all eg=true->0<=n->0<=r.foldl h8 n:=by
 intro r;induction r with
 |nil=>intro n _ h;exact h
 |cons b r ih=>
  intro n Z h;simp only[List.all_cons,Bool.and_eq_true] at Z;have hb:=oE Z.1;exact ih _ Z.2 (by unfold h8;omega)
def iG(s:J):List J:=cr 46 s
def e7(s:J):Bool:=(iG s).all fN&&decide ((iG s).length<=4)
def h7(s:J):List Int:=(iG s).map g'
theorem Z'(x:J):within (bif x.all eg&&decide (x.length<=6)&&!(x==[])&&!nM x then g' x else-1) 0 999=fN x:=by
 unfold fN within;cases h1:x.all eg with
 |false=>simp
 |true=>
  have:=Mm x 0 h1 (Int.le_refl _);have hv:decide ((0:Int)<=g' x)=true:=by simp only[decide_eq_true_eq];exact this
  cases h2:decide (x.length<=6)<;>cases ab:(x==[])<;>cases aF:nM x<;>simp[hv]
theorem D2(a)(M:cq a.1.1.length):∃out,f181 a=some (((),(e7 a.1.1,())),(out,()))/\(e7 a.1.1=true->out=h7 a.1.1):=by
 obtain⟨⟨s,u⟩,bv⟩:=a;have M:s.length<=2097152:=M;have hlen:=qY 46 s;have j3:f89 ((s,((46:Int),((IntKind.i64.wrap ((s.length:Int)+(1:Int))),()))),())=some (((),()),(iG s,())):=
  vJ 46 _ M rfl (cl (by unfold aM;omega))
 have key:=nB zq (iG s) (fun i (out:List Int)=>(((),((),((i:Int),()))),(iG s,(out,()))))
  (fun i x out=>some (bif fN x then .inl (out++[g' x]) else .inr ((.inl (((),(false,())),(out,()))):aY q5))) (fun out=>((.inr (((),((),())),(iG s,(out,())))):aY q5))
  (fun i out=>out.length<=i) [] (Nat.le_refl _) (fun i x out hx dj=>?_) (fun out _=>?_)
 ·have fold:∀(r:List J) (k:Nat) (out:List Int),e3 (fun i x out=>some (bif fN x then .inl (out++[g' x]) else .inr ((.inl (((),(false,())),(out,()))):aY q5))) (fun out=>((.inr (((),((),())),(iG s,(out,())))):aY q5)) k r out=
    some (bif r.all fN then(.inr (((),((),())),(iG s,(out++r.map g',())))) else(.inl (((),(false,())),(out++(r.takeWhile fN).map g',())))):=by
   intro r;induction r with
   |nil=>intro k out;simp[e3]
   |cons x r ih=>
    intro k out;simp only[e3,List.all_cons];cases hn:fN x with
    |false=>simp[hn]
    |true=>simp only[cond_true,Bool.true_and];rw[ih];simp[hn,List.append_assoc]
  have key:E4 (((),((),((0:Int),()))),(iG s,(([]:List Int),())))=_:=key.trans (fold (iG s) 0 []);simp only[f181,j3,Option.bind_some,key,List.nil_append];unfold e7;cases jz:(iG s).all fN with
  |false=>exact⟨_,rfl,fun h=>by cases h⟩
  |true=>
   simp only[cond_true,Bool.true_and];have:decide (((iG s).length:Int)<=4)=decide ((iG s).length<=4):=by by_cases h:(iG s).length<=4<;>simp[h]<;>omega
   rw[this];exact⟨_,rfl,fun _=>rfl⟩
 ·have hi:=ct hx;have rs:(iG s).length<=s.length+1:=hlen;have hw:aM i:=by unfold aM;omega
  have qu:x.length<=s.length:=qX 46 s x (List.mem_of_getElem? hx);refine⟨?_,fun ar ah=>?_⟩
  ·simp only[zq,cF hi,cond_true,oU hi,hx,Option.bind_some];rw[aei _ (show aM x.length by unfold aM;omega)]
   simp only[Option.bind_some,tk,Z'];cases hn:fN x with
   |false=>rfl
   |true=>
    have hv:(bif x.all eg&&decide (x.length<=6)&&!(x==[])&&!nM x then g' x else-1)=g' x:=by
     unfold fN at hn;simp only[Bool.and_eq_true] at hn;obtain⟨⟨⟨⟨h1,h2⟩,ab⟩,aF⟩,bo⟩:=hn;rw[h1,aF,h2,ab];rfl
    simp only[Bool.not_true,cond_false,hv,cond_true];rw[eZ (by decide) (by unfold aM;simp only[List.length_cons,List.length_nil];omega)]
    simp only[Option.bind_some,cl hw,Option.map_some]
  ·simp only[Option.some.injEq] at ah;cases hn:fN x with
   |false=>rw[hn] at ah;cases ah
   |true=>
    rw[hn] at ah;simp only[cond_true,Sum.inl.injEq] at ah;subst ah;simp only[List.length_append,List.length_cons,List.length_nil];omega
 ·simp only[zq,dQ,cond_false]
theorem LQ(a)(M:cq a.1.1.length):f162 a=some ((e7 a.1.1,()),()):=by
 obtain⟨out,h,_⟩:=D2 ((a.1.1,()),()) M;simp only[f162,h,Option.bind_some]
theorem Dv(a)(M:cq a.1.1.length):f127 a=some (((),((),())),((bif e7 a.1.1 then h7 a.1.1 else []),(((),()),((e7 a.1.1,()),())))):=by
 obtain⟨⟨s,u⟩,bv⟩:=a;have M:s.length<=2097152:=M;have IM:Nat.ble s.length k6=true:=Nat.ble_eq_true_of_le (by unfold k6;omega)
 have fold:∀(r:List J) (out:List Int),(∀x,x∈r->x.length<=s.length)->out.length<=4->
   iM tc vT r (((),((),((),()))),(([]:List Int),(((),()),((false,()),(out,(((),()),()))))))=
    some (bif r.all fN&&decide (out.length+r.length<=4) then(.inl (((),((),((),()))),(([]:List Int),(((),()),((false,()),(out++r.map g',(((),()),()))))))) else(.inr (((),((),())),(([]:List Int),(((),()),((false,()),())))))):=by
  intro r;induction r with
  |nil=>
   intro out _ ap;have:decide (out.length+0<=4)=true:=by simpa using ap
   simp only[iM,vT,List.all_nil,List.length_nil,this,Bool.and_self,cond_true,List.map_nil,List.append_nil]
  |cons x r ih=>
   intro out hr ap;have hx:=hr x List.mem_cons_self;have akt:=acz ((x,((999:Int),())),()) (show aM x.length by unfold aM;omega) rfl
   have step:tc x (((),((),((),()))),(([]:List Int),(((),()),((false,()),(out,(((),()),()))))))=
     some (bif fN x&&decide (out.length+1<=4) then .inl (((),((),((),()))),(([]:List Int),(((),()),((false,()),(out++[g' x],(((),()),())))))) else .inr (.inr (((),((),())),(([]:List Int),(((),()),((false,()),())))))):=by
    simp only[tc,akt,Option.bind_some,EB,Bool.not_not];have aF:((out.length:Int)==4)=!decide (out.length+1<=4):=by
     by_cases h:out.length=4
     ·rw[h];rfl
     ·have bo:decide (out.length+1<=4)=true:=by simp only[decide_eq_true_eq];omega
      rw[bo];simp only[beq_eq_false_iff_ne,ne_eq,Bool.not_true];omega
    rw[aF];cases hn:fN x with
    |false=>rfl
    |true=>
     simp only[cond_true,Option.bind_some,Bool.true_and];cases ao:decide (out.length+1<=4) with
     |false=>rfl
     |true=>
      simp only[Bool.not_true,cond_false,cond_true];rw[eZ (by decide) (by unfold aM;simp only[List.length_cons,List.length_nil];omega)]
      rfl
   rw[iM,step,List.all_cons];cases hn:fN x with
   |false=>rfl
   |true=>
    simp only[Bool.true_and];cases ao:decide (out.length+1<=4) with
    |false=>
     have:decide (out.length+(x::r).length<=4)=false:=by simp only[decide_eq_false_iff_not,List.length_cons] at ao ⊢;omega
     rw[this];simp
    |true=>
     simp only[cond_true];rw[ih (out++[g' x]) (fun y al=>hr y (List.mem_cons_of_mem _ al)) (by simp only[List.length_append,List.length_cons,List.length_nil];simpa using ao)]
     have e1:(out++[g' x]).length+r.length=out.length+(x::r).length:=by simp only[List.length_append,List.length_cons,List.length_nil];omega
     rw[e1,List.map_cons,List.append_assoc];rfl
 have key:=fold (cr (46:UInt8) s) [] (fun x hx=>qX 46 s x hx) (Nat.zero_le _)
 have Iv:iM tc vT (cr (46:UInt8) s) (((),((),((),()))),(([]:List Int),(((),()),((false,()),(([]:List Int),(((),()),()))))))=
    some (bif e7 s then(.inl (((),((),((),()))),(([]:List Int),(((),()),((false,()),(h7 s,(((),()),()))))))) else(.inr (((),((),())),(([]:List Int),(((),()),((false,()),())))))):=by
  rw[key];unfold e7 h7 iG;simp only[List.length_nil,Nat.zero_add,List.nil_append]
 simp only[f127,IM,cond_true,Iv,Option.bind_some];cases e7 s<;>rfl
theorem Dx(a)(M:cq a.1.1.length):f119 a=some ((e7 a.1.1,()),()):=by
 simp only[f119,Dv ((a.1.1,()),()) M,Option.bind_some]
def iH(n:dq):Bool:=l0 n.name&&(n.kind==0&&(n.b4==[])||within n.kind 1 3&&e7 n.b4)
abbrev aqF(n:dq):Prop:=cq n.name.length/\cq n.b4.length
theorem acL(a)(h1:cq a.1.1.1.length)(h2:cq a.1.1.2.2.1.length):f233 a=some ((iH ⟨a.1.1.1,a.1.1.2.1,a.1.1.2.2.1⟩,()),()):=by
 obtain⟨⟨⟨n,k,v,u⟩,bv⟩,mc⟩:=a;have h1:n.length<=2097152:=h1;have h2:v.length<=2097152:=h2;have e1:=N4 ((n,()),()) (show aM n.length by unfold aM;omega)
 have e2:=LQ ((v,()),()) h2;simp only[f233,e1,e2,tk,Option.bind_some,iH];cases l0 n with
 |false=>rfl
 |true=>
  cases af:(k==0) with
  |false=>
   simp only[cond_true,cond_false];cases within k 1 3<;>cases e7 v<;>rfl
  |true=>
   have:within k 1 3=false:=by
    have:k=0:=by simpa using af
    subst this;decide
   rw[this];cases (v==[])<;>rfl
theorem aaK{k:Int}(mx:¬k=0)(ax:¬k=1)(an:¬k=2)(bG:¬k=3):within k 1 3=false:=by
 unfold within;cases h:(decide (1<=k)&&decide (k<=3)) with
 |false=>rfl
 |true=>simp only[Bool.and_eq_true,decide_eq_true_eq] at h;omega
theorem M1(a)(h1:cq a.1.1.1.length)(h2:cq a.1.1.2.2.1.length):f121 a=some ((iH ⟨a.1.1.1,a.1.1.2.1,a.1.1.2.2.1⟩,()),()):=by
 obtain⟨⟨⟨n,k,v,u⟩,bv⟩,mc⟩:=a;have h1:n.length<=2097152:=h1;have h2:v.length<=2097152:=h2;have e1:=LC ((n,()),()) (show aM n.length by unfold aM;omega)
 have e2:=Dx ((v,()),()) h2;simp only[f121,e1,e2,Option.bind_some,iH,Fg];cases l0 n with
 |false=>rfl
 |true=>
  simp only[Bool.not_true,cond_false,Bool.true_and];by_cases mx:k=0
  ·subst mx;cases (v==[])<;>rfl
  ·have ng:(k==0)=false:=by simpa using mx
   rw[ng];by_cases ax:k=1
   ·subst ax;cases hv:e7 v<;>simp[within,e2,hv]
   ·have nf:(k==1)=false:=by simpa using ax
    rw[nf];by_cases an:k=2
    ·subst an;cases hv:e7 v<;>simp[within,e2,hv]
    ·have iT:(k==2)=false:=by simpa using an
     rw[iT];by_cases bG:k=3
     ·subst bG;cases hv:e7 v<;>simp[within,e2,hv]
     ·have aoA:(k==3)=false:=by simpa using bG
      rw[aoA];rw[aaK mx ax an bG];rfl
noncomputable abbrev ahB:bD:=[(121,Jb)]
theorem R3:bg ae (bu az ahB):=bB ⟨SV,⟨⟩⟩
abbrev yO:Shape:=⟨[(1,.am (.fn 121 [])),a7 7 .need,aq 8,aq 9],[],18⟩
abbrev Eb:List bk:=[(.ret,⟨[aQ 4],[],18⟩),(.exit 0,⟨[],[],18⟩)]
noncomputable def y4(y:yO.L):cy yO Eb:=
 bif(decide (y.1.2.2.2.1<y.1.2.2.1)) then
(bd y.1.2.1 y.1.2.2.2.1).bind fun a=>
(f121 (((a.name,a.kind,a.b4,()),()),())).bind fun b=>
 bif(!b.1.1) then
 some (.inr (.inl ((false,()),())))
else
 some (.inl (((),y.1.2.1,y.1.2.2.1,(IntKind.i64.wrap (y.1.2.2.2.1+(1:Int))),()),()))
else
 some (.inr (.inr ((),())))
noncomputable def Er:yO.L->Option (aY Eb):=b7 y4
theorem abK:bq ae (aH (codeOf Tryz.f120) 1 26) (bE yO Eb Er):=cE R3 (by kernel_rfl) aB fun y=>by kernel_rfl
abbrev Rt:Shape:=⟨[a7 0 .need,(1,.am (.fn 121 []))],[],18⟩
abbrev QW:Shape:=⟨[aQ 4],[],18⟩
noncomputable def Bw(a:Rt.L):Option QW.L:=
(Er (((),a.1.1,(a.1.1.length:Int),(0:Int),()),())).bind fun b=>
(match b with
|.inl c=>
 some ((c.1.1,()),())
|.inr d=>
 some ((true,()),()))
noncomputable def RV:bb:=bf az Tryz.f120 Rt QW [] Bw
theorem agc:a_ ae 120 RV:=bh R3 Tryz.func120 (by kernel_rfl) (bN abK aB) (fun y=>by kernel_rfl) fun a=>by kernel_rfl
abbrev i123:Shape:=⟨[dS 0 [bC,bM,bC]],[],5⟩
abbrev TY:Shape:=⟨[a8 2],[],5⟩
noncomputable def f123(a:i123.L):Option TY.L:=
 some ((a.1.1.1,()),())
noncomputable def Vx:bb:=bf az Tryz.f123 i123 TY [] f123
theorem ajI:a_ ae 123 Vx:=bh g0 Tryz.func123 (by kernel_rfl) aB (fun y=>by kernel_rfl) fun a=>by kernel_rfl
abbrev i177:Shape:=⟨[a7 0 .str],[],8⟩
abbrev Il:Shape:=⟨[bS 2 3000128],[b8 3000128 .str 2 0],8⟩
noncomputable def f177(a:i177.L):Option Il.L:=
 oK (t:=.str) a.1.1 (some (((),()),([]:List J),())) ((cR 16 ([]:List J) a.1.1).bind fun b=>
 some (((),()),b,()))
noncomputable def Vh:bb:=bf az Tryz.f177 i177 Il [] f177
theorem ajv:a_ ae 177 Vh:=bh g0 Tryz.func177 (by kernel_rfl) aB (fun y=>by kernel_rfl) fun a=>by kernel_rfl
abbrev zN:Shape:=⟨[a7 0 .str,a8 1,aq 7,aq 8],[],19⟩
abbrev s5:List bk:=[(.ret,⟨[aq 4],[],19⟩),(.exit 0,⟨[],[],19⟩)]
noncomputable def Ar(y:zN.L):cy zN s5:=
 bif(decide (y.1.2.2.2.1<y.1.2.2.1)) then
(bd y.1.1 y.1.2.2.2.1).bind fun a=>
 bif(y.1.2.1==a) then
 some (.inr (.inl ((y.1.2.2.2.1,()),())))
else
 some (.inl ((y.1.1,y.1.2.1,y.1.2.2.1,(IntKind.i64.wrap (y.1.2.2.2.1+(1:Int))),()),()))
else
 some (.inr (.inr ((),())))
noncomputable def Gg:zN.L->Option (aY s5):=b7 Ar
theorem aeN:bq ae (aH (codeOf Tryz.f221) 1 26) (bE zN s5 Gg):=cE g0 (by kernel_rfl) aB fun y=>by kernel_rfl
abbrev i221:Shape:=⟨[a7 0 .str,a8 1],[],19⟩
abbrev Ii:Shape:=⟨[aq 4],[],19⟩
noncomputable def f221(a:i221.L):Option Ii.L:=
(Gg ((a.1.1,a.1.2.1,(a.1.1.length:Int),(0:Int),()),())).bind fun b=>
(match b with
|.inl c=>
 some ((c.1.1,()),())
|.inr d=>
 some ((((-1):Int),()),()))
noncomputable def U9:bb:=bf az Tryz.f221 i221 Ii [] f221
theorem ajn:a_ ae 221 U9:=bh g0 Tryz.func221 (by kernel_rfl) (bN aeN aB) (fun y=>by kernel_rfl) fun a=>by kernel_rfl
noncomputable abbrev alJ:bD:=[(221,U9)]
theorem aml:bg ae (bu az alJ):=bB ⟨ajn,⟨⟩⟩
abbrev i178:Shape:=⟨[a7 0 .str,a8 1],[],9⟩
abbrev TE:Shape:=⟨[aQ 4],[],9⟩
noncomputable def f178(a:i178.L):Option TE.L:=
(f221 ((a.1.1,a.1.2.1,()),())).bind fun b=>
 some (((decide (b.1.1>=(0:Int))),()),())
noncomputable def Vg:bb:=bf az Tryz.f178 i178 TE [] f178
theorem aju:a_ ae 178 Vg:=bh aml Tryz.func178 (by kernel_rfl) aB (fun y=>by kernel_rfl) fun a=>by kernel_rfl
noncomputable abbrev ahA:bD:=[(123,Vx),(177,Vh),(178,Vg)]
theorem R1:bg ae (bu az ahA):=bB ⟨ajI,ajv,aju,⟨⟩⟩
abbrev yN:Shape:=⟨[(1,.am (.fn 123 [])),bS 7 3000448,a7 12 .need,aq 13,aq 14],[b8 3000448 .str 7 0],30⟩
abbrev sV:List bk:=[(.ret,⟨[aQ 6],[],30⟩),(.exit 0,⟨[],[],30⟩)]
noncomputable def y3(y:yN.L):cy yN sV:=
 bif(decide (y.1.2.2.2.2.1<y.1.2.2.2.1)) then
(bd y.1.2.2.1 y.1.2.2.2.2.1).bind fun a=>
(f123 (((a.name,a.kind,a.b4,()),()),())).bind fun b=>
(f178 ((y.2.1,b.1.1,()),())).bind fun c=>
 bif c.1.1 then
 some (.inr (.inl ((true,()),())))
else
(f123 (((a.name,a.kind,a.b4,()),()),())).bind fun d=>
(cR 16 y.2.1 ([d.1.1]:List J)).bind fun e=>
 some (.inl (((),(),y.1.2.2.1,y.1.2.2.2.1,(IntKind.i64.wrap (y.1.2.2.2.2.1+(1:Int))),()),e,()))
else
 some (.inr (.inr ((),())))
noncomputable def Ep:yN.L->Option (aY sV):=b7 y3
theorem abJ:bq ae (aH (codeOf Tryz.f122) 1 58) (bE yN sV Ep):=cE R1 (by kernel_rfl) aB fun y=>by kernel_rfl
abbrev Rs:Shape:=⟨[a7 0 .need,(1,.am (.fn 123 [])),a7 2 .str],[],30⟩
abbrev QV:Shape:=⟨[aQ 6],[],30⟩
noncomputable def Bv(a:Rs.L):Option QV.L:=
(f177 ((a.1.2.2.1,()),())).bind fun b=>
(Ep (((),(),a.1.1,(a.1.1.length:Int),(0:Int),()),b.2.1,())).bind fun c=>
(match c with
|.inl d=>
 some ((d.1.1,()),())
|.inr e=>
 some ((false,()),()))
noncomputable def RU:bb:=bf az Tryz.f122 Rs QV [] Bv
theorem agb:a_ ae 122 RU:=bh R1 Tryz.func122 (by kernel_rfl) (bN abJ aB) (fun y=>by kernel_rfl) fun a=>by kernel_rfl
noncomputable abbrev alA:bD:=[(233,U3)]
theorem VJ:bg ae (bu az alA):=bB ⟨z233,⟨⟩⟩
abbrev zO:Shape:=⟨[a7 0 .need,aq 3],[],19⟩
abbrev FH:List bk:=[(.ret,⟨[aQ 2],[],19⟩),(.exit 0,⟨[a7 0 .need],[],19⟩)]
noncomputable def As(y:zO.L):cy zO FH:=
 bif(decide (y.1.2.1<(y.1.1.length:Int))) then
(bd y.1.1 y.1.2.1).bind fun a=>
(f233 (((a.name,a.kind,a.b4,()),()),())).bind fun b=>
 bif(!b.1.1) then
 some (.inr (.inl ((false,()),())))
else
 some (.inl ((y.1.1,(IntKind.i64.wrap (y.1.2.1+(1:Int))),()),()))
else
 some (.inr (.inr ((y.1.1,()),())))
noncomputable def Gh:zO.L->Option (aY FH):=b7 As
theorem aeO:bq ae (aH (codeOf Tryz.f215) 1 26) (bE zO FH Gh):=cE VJ (by kernel_rfl) aB fun y=>by kernel_rfl
abbrev i215:Shape:=⟨[a7 0 .need],[],19⟩
abbrev Tt:Shape:=⟨[aQ 2],[],19⟩
noncomputable def f215(a:i215.L):Option Tt.L:=
(Gh ((a.1.1,(0:Int),()),())).bind fun b=>
(match b with
|.inl c=>
 some ((c.1.1,()),())
|.inr d=>
 some (((decide ((d.1.1.length:Int)<=(6:Int))),()),()))
noncomputable def U_:bb:=bf az Tryz.f215 i215 Tt [] f215
theorem ajo:a_ ae 215 U_:=bh VJ Tryz.func215 (by kernel_rfl) (bN aeO aB) (fun y=>by kernel_rfl) fun a=>by kernel_rfl
abbrev za:Shape:=⟨[a7 0 .str,aq 3,aq 4],[],25⟩
abbrev EP:List bk:=[(.ret,⟨[aQ 2],[],25⟩),(.exit 2,⟨[a7 0 .str,aq 3],[],25⟩)]
noncomputable def zl(y:za.L):cy za EP:=
 bif(decide (y.1.2.2.1<y.1.2.1)) then
(bd y.1.1 y.1.2.2.1).bind fun a=>
(bd y.1.1 y.1.2.1).bind fun b=>
 bif(a==b) then
 some (.inr (.inl ((true,()),())))
else
 some (.inl ((y.1.1,y.1.2.1,(IntKind.i64.wrap (y.1.2.2.1+(1:Int))),()),()))
else
 some (.inr (.inr ((y.1.1,y.1.2.1,()),())))
noncomputable def E3:za.L->Option (aY EP):=b7 zl
theorem ac7:bq ae (aH (dn (aH (codeOf Tryz.f99) 1 26)) 52 1682) (bE za EP E3):=cE g0 (by kernel_rfl) aB fun y=>by kernel_rfl
abbrev AU:Shape:=⟨[a7 0 .str,aq 3],[],25⟩
abbrev G0:List bk:=[(.ret,⟨[aQ 2],[],25⟩),(.exit 0,⟨[],[],25⟩)]
noncomputable def Bc(y:AU.L):cy AU G0:=
 bif(decide (y.1.2.1<(y.1.1.length:Int))) then
(E3 ((y.1.1,y.1.2.1,(0:Int),()),())).bind fun a=>
(match a with
|.inl b=>
 some (.inr (.inl ((b.1.1,()),())))
|.inr c=>
 some (.inl ((c.1.1,(IntKind.i64.wrap (c.1.2.1+(1:Int))),()),())))
else
 some (.inr (.inr ((),())))
noncomputable def Hc:AU.L->Option (aY G0):=b7 Bc
theorem agq:bq ae (aH (codeOf Tryz.f99) 1 26) (bE AU G0 Hc):=cE g0 (by kernel_rfl) (bN ac7 aB) fun y=>by kernel_rfl
abbrev i99:Shape:=⟨[a7 0 .str],[],25⟩
abbrev V_:Shape:=⟨[aQ 2],[],25⟩
noncomputable def f99(a:i99.L):Option V_.L:=
(Hc ((a.1.1,(0:Int),()),())).bind fun b=>
(match b with
|.inl c=>
 some ((c.1.1,()),())
|.inr d=>
 some ((false,()),()))
noncomputable def Xp:bb:=bf az Tryz.f99 i99 V_ [] f99
theorem amD:a_ ae 99 Xp:=bh g0 Tryz.func99 (by kernel_rfl) (bN agq aB) (fun y=>by kernel_rfl) fun a=>by kernel_rfl
noncomputable abbrev alK:bD:=[(99,Xp),(215,U_)]
theorem VM:bg ae (bu az alK):=bB ⟨amD,ajo,⟨⟩⟩
abbrev zW:Shape:=⟨[a7 1 .need,bS 5 3000320,aq 6],[b8 3000320 .str 5 0],30⟩
abbrev zw:List bk:=[(.exit 0,⟨[a7 1 .need,bS 5 3000320],[b8 3000320 .str 5 0],30⟩)]
noncomputable def Ax(y:zW.L):cy zW zw:=
 bif(decide (y.1.2.2.1<(y.1.1.length:Int))) then
(bd y.1.1 y.1.2.2.1).bind fun a=>
(cR 16 y.2.1 ([a.name]:List J)).bind fun b=>
 some (.inl ((y.1.1,(),(IntKind.i64.wrap (y.1.2.2.1+(1:Int))),()),b,()))
else
 some (.inr ((y.1.1,(),()),y.2.1,()))
noncomputable def Gm:zW.L->Option (aY zw):=b7 Ax
theorem aeW:bq ae (aH (codeOf Tryz.f163) 1 58) (bE zW zw Gm):=cE VM (by kernel_rfl) aB fun y=>by kernel_rfl
abbrev i163:Shape:=⟨[a8 0,a7 1 .need],[],30⟩
abbrev TG:Shape:=⟨[aQ 4],[],30⟩
noncomputable def f163(a:i163.L):Option TG.L:=
(Gm ((a.1.2.1,(),(0:Int),()),([a.1.1]:List J),())).bind fun b=>
(f215 ((b.1.1,()),())).bind fun c=>
 bif c.1.1 then
(f99 ((b.2.1,()),())).bind fun d=>
 some (((!d.1.1),()),())
else
 some ((false,()),())
noncomputable def Vk:bb:=bf az Tryz.f163 i163 TG [] f163
theorem ajx:a_ ae 163 Vk:=bh VM Tryz.func163 (by kernel_rfl) (bN aeW aB) (fun y=>by kernel_rfl) fun a=>by kernel_rfl
abbrev w9(aw:List dq):Prop:=cq aw.length/\∀n,n∈aw->aqF n
theorem B_(n:Nat)(k:Nat):decide ((n:Int)<=(k:Int))=decide (n<=k):=by by_cases h:n<=k<;>simp[h]<;>omega
theorem aaQ(a)(M:w9 a.1.1):f215 a=some ((a.1.1.all iH&&decide (a.1.1.length<=6),()),()):=by
 obtain⟨⟨aw,u⟩,bv⟩:=a;obtain⟨hl,hn⟩:=M;have hl:aw.length<=2097152:=hl;have key:Gh ((aw,((0:Int),())),())=some (bif allI (fun _ n=>iH n) 0 aw then .inr ((aw,()),()) else .inl ((false,()),())):=by
  refine gm As aw (fun i=>((aw,((i:Int),())),())) _ _ _ (fun i x hx=>?_) ?_
  ·have hi:=ct hx;have hw:aM i:=by unfold aM;omega
   have hb:=hn x (List.mem_of_getElem? hx);simp only[As,cF hi,cond_true,cc,hx,Option.bind_some];rw[acL _ hb.1 hb.2];simp only[Option.bind_some,cl hw];cases iH x<;>rfl
  ·simp only[As,dQ,cond_false]
 rw[h4] at key;simp only[f215,key,Option.bind_some];cases List.all aw iH with
 |false=>rfl
 |true=>have:=B_ aw.length 6;simp only[cond_true,Bool.true_and];rw[<-this];rfl
theorem aaY(a)(M:w9 a.1.1):Bw a=some ((a.1.1.all iH,()),()):=by
 obtain⟨⟨aw,u⟩,bv⟩:=a;obtain⟨hl,hn⟩:=M;have hl:aw.length<=2097152:=hl;have key:Er (((),(aw,((aw.length:Int),((0:Int),())))),())=some (bif allI (fun _ n=>iH n) 0 aw then .inr ((),()) else .inl ((false,()),())):=by
  refine gm y4 aw (fun i=>(((),(aw,((aw.length:Int),((i:Int),())))),())) _ _ _ (fun i x hx=>?_) ?_
  ·have hi:=ct hx;have hw:aM i:=by unfold aM;omega
   have hb:=hn x (List.mem_of_getElem? hx);simp only[y4,cF hi,cond_true,cc,hx,Option.bind_some];rw[M1 _ hb.1 hb.2];simp only[Option.bind_some,cl hw];cases iH x<;>rfl
  ·simp only[y4,dQ,cond_false]
 rw[h4] at key;simp only[Bw,key,Option.bind_some];cases List.all aw iH<;>rfl
def ha:List J->List J->Bool
 |_,[]=>false
 |bV,x::r=>bV.contains x||ha (bV++[x]) r
theorem adZ(xs:List J):∀(r:List J) (k:Nat),r=xs.drop k->allI (fun i x=>!((xs.take i).contains x)) k r=!ha (xs.take k) r:=by
 intro r;induction r with
 |nil=>intro k _;rfl
 |cons x r ih=>
  intro k hr;have cn:r=xs.drop (k+1):=by
   have:=congrArg List.tail hr;simpa using this
  have hx:xs[k]? =some x:=by
   have:=congrArg (fun l=>l[0]?) hr
   simpa using this.symm
  have e1:xs.take (k+1)=xs.take k++[x]:=by rw[List.take_add_one,hx];rfl
  simp only[allI,ha,ih (k+1) cn,e1,Bool.not_or]
theorem afT(ys:List J)(x:J):ys.all (fun y=>!(y==x))=!ys.contains x:=by
 induction ys with
 |nil=>rfl
 |cons y ys ih=>
  simp only[List.all_cons,ih,List.contains_cons,Bool.not_or];congr 2
  cases h:y==x with
  |true=>rw[eq_of_beq h];simp
  |false=>
   cases h2:x==y with
   |true=>rw[eq_of_beq h2] at h;simp at h
   |false=>rfl
theorem aaP(a)(M:cq a.1.1.length):f99 a=some ((ha [] a.1.1,()),()):=by
 obtain⟨⟨xs,u⟩,bv⟩:=a;have M:xs.length<=2097152:=M;have inner:∀(i:Nat) (x:J),xs[i]? =some x->E3 ((xs,((i:Int),((0:Int),()))),())=some (bif !((xs.take i).contains x) then .inr ((xs,((i:Int),())),()) else .inl ((true,()),())):=by
  intro i x hx;have hi:=ct hx;have hl:(xs.take i).length=i:=by rw[List.length_take];omega
  have:=gm zl (xs.take i) (fun k=>((xs,((i:Int),((k:Int),()))),())) (fun _ y=>!(y==x)) (.inl ((true,()),())) (.inr ((xs,((i:Int),())),())) (fun k y al=>?_) ?_
  ·have:=this;rw[h4,afT] at this;exact this
  ·have af:=ct al;rw[hl] at af;have hw:aM k:=by unfold aM;omega
   have d_:xs[k]? =some y:=by
    rw[List.getElem?_take,if_pos af] at al;exact al
   simp only[zl,cF af,cond_true,cc,d_,hx,Option.bind_some,cl hw];cases (y==x)<;>rfl
  ·simp only[zl,hl,dQ,cond_false]
 have key:Hc ((xs,((0:Int),())),())=some (bif allI (fun i x=>!((xs.take i).contains x)) 0 xs then .inr ((),()) else .inl ((true,()),())):=by
  refine gm Bc xs (fun i=>((xs,((i:Int),())),())) _ _ _ (fun i x hx=>?_) ?_
  ·have hi:=ct hx;have hw:aM i:=by unfold aM;omega
   simp only[Bc,cF hi,cond_true,inner i x hx,Option.bind_some];cases (xs.take i).contains x
   ·simp only[Bool.not_false,cond_true,cl hw]
   ·rfl
  ·simp only[Bc,dQ,cond_false]
 rw[adZ xs xs 0 rfl] at key;simp only[f99,key,Option.bind_some,List.take_zero];cases ha [] xs<;>rfl
def s9(name:J)(aw:List dq):Bool:=aw.all iH&&decide (aw.length<=6)&&!ha [] (name::aw.map (·.name))
theorem aaO(a)(M:w9 a.1.2.1)(hn:cq a.1.1.length):f163 a=some ((s9 a.1.1 a.1.2.1,()),()):=by
 obtain⟨⟨name,aw,u⟩,bv⟩:=a;have hl:aw.length<=2097152:=M.1;have key:Gm ((aw,((),((0:Int),()))),(([name]:List J),()))=some (((aw,((),())),((name::aw.map (·.name)),()))):=by
  have:=yS Ax aw (fun i (out:List J)=>((aw,((),((i:Int),()))),(out,()))) (fun(n:dq) out=>out++[n.name]) (fun out=>(((aw,((),())),(out,())):aY zw)) (fun i out=>out.length=i+1) [name] rfl (fun i x out hx dj=>?_) (fun out _=>?_)
  ·refine this.trans ?_
   have e:∀(r:List dq) (out:List J),r.foldl (fun s x=>s++[x.name]) out=out++r.map (·.name):=by
    intro r;induction r with
    |nil=>intro out;simp
    |cons n r ih=>intro out;simp[ih]
   rw[e];rfl
  ·have hi:=ct hx;have hw:aM i:=by unfold aM;omega
   refine⟨?_,by simp[dj]⟩
   simp only[Ax,cF hi,cond_true,cc,hx,Option.bind_some];rw[eZ (by decide) (by unfold aM;simp only[List.length_cons,List.length_nil];omega)]
   simp only[Option.bind_some,cl hw]
  ·simp only[Ax,dQ,cond_false]
 simp only[f163,key,Option.bind_some];rw[aaQ _ M];simp only[Option.bind_some];unfold s9;cases ao:(List.all aw iH&&decide (aw.length<=6)) with
 |false=>rfl
 |true=>
  simp only[Bool.and_eq_true,decide_eq_true_eq] at ao;have aqW:=aaP ((name::aw.map (·.name),()),()) (show(name::aw.map (·.name)).length<=2097152 by simp only[List.length_cons,List.length_map];omega)
  simp only[cond_true,Bool.true_and,aqW,Option.bind_some]
theorem aek(a)(M:cq a.1.1.length):∃n:Int,f221 a=some ((n,()),())/\decide (n>=0)=a.1.1.contains a.1.2.1:=by
 obtain⟨⟨xs,x,u⟩,bv⟩:=a;have M:xs.length<=2097152:=M;have key:Gg ((xs,(x,((xs.length:Int),((0:Int),())))),())=_:=Ek Ar xs (fun i (_:Unit)=>((xs,(x,((xs.length:Int),((i:Int),())))),()))
  (fun i y _=>some (bif x==y then .inr ((.inl (((i:Int),()),())):aY s5) else .inl ())) (fun _=>.inr ((),())) (fun i y s al=>?_) (fun s=>?_) ()
 ·have fold:∀(r:List J) (k:Nat),∃n:Int,(e3 (fun i y (_:Unit)=>some (bif x==y then .inr ((.inl (((i:Int),()),())):aY s5) else .inl ())) (fun _=>(.inr ((),()):aY s5)) k r ()).bind (fun aj8=>
    (match aj8 with
    |.inl aj7=>some ((aj7.1.1,()),())
    |.inr asm=>some ((((-1):Int),()),()):Option Ii.L))=some ((n,()),())/\decide (n>=0)=r.contains x:=by
   intro r;induction r with
   |nil=>intro k;exact⟨-1,rfl,rfl⟩
   |cons y r ih=>
    intro k;simp only[e3,List.contains_cons];cases JN:x==y with
    |true=>exact⟨k,rfl,by simp⟩
    |false=>
     obtain⟨n,h1,h2⟩:=ih (k+1);exact⟨n,h1,by simpa using h2⟩
  obtain⟨n,h1,h2⟩:=fold xs 0;refine⟨n,?_,h2⟩;simp only[f221];rw[key];exact h1
 ·have hi:=ct al;have hw:aM i:=by unfold aM;omega
  simp only[Ar,cF hi,cond_true,cc,al,Option.bind_some,cl hw];cases x==y<;>rfl
 ·simp only[Ar,dQ,cond_false]
theorem _F(a)(M:cq a.1.1.length):f178 a=some ((a.1.1.contains a.1.2.1,()),()):=by
 obtain⟨n,h1,h2⟩:=aek ((a.1.1,(a.1.2.1,())),()) M;simp only[f178,h1,Option.bind_some,h2]
theorem acN(a)(M:cq a.1.1.length):f177 a=some (((),()),(a.1.1,())):=by
 obtain⟨⟨xs,u⟩,bv⟩:=a;have M:xs.length<=2097152:=M;have h2:(cR 16 ([]:List J) xs).bind (fun x=>some (((),()),(x,())))=(some (((),()),(xs,())):Option Il.L):=by
  rw[eZ (by decide) (by unfold aM;simp only[List.length_nil];omega)];rfl
 simp only[f177];rw[h2];unfold oK;split
 ·rfl
 ·rename_i h;exact absurd (fun he:xs=[]=>by subst he;rfl) h
theorem Y9(a)(M:w9 a.1.1)(hm:a.1.2.2.1.length<=1):Bv a=some ((ha a.1.2.2.1 (a.1.1.map (·.name)),()),()):=by
 obtain⟨⟨aw,ig,more,u⟩,bv⟩:=a;have hl:aw.length<=2097152:=M.1;have hm:more.length<=1:=hm;have hc:=acN ((more,()),()) (show more.length<=2097152 by omega)
 have key:(Ep (((),((),(aw,((aw.length:Int),((0:Int),()))))),(more,())))=_:=nB y3 aw (fun i (out:List J)=>(((),((),(aw,((aw.length:Int),((i:Int),()))))),(out,())))
  (fun i (n:dq) out=>some (bif out.contains n.name then .inr ((.inl ((true,()),())):aY sV) else .inl (out++[n.name]))) (fun _=>.inr ((),())) (fun i out=>out.length<=i+1) more (by omega) (fun i x out hx dj=>?_) (fun out _=>?_)
 ·have fold:∀(r:List dq) (k:Nat) (out:List J),(e3 (fun i (n:dq) out=>some (bif out.contains n.name then .inr ((.inl ((true,()),())):aY sV) else .inl (out++[n.name]))) (fun _=>(.inr ((),()):aY sV)) k r out)=
    some (bif ha out (r.map (·.name)) then .inl ((true,()),()) else .inr ((),())):=by
   intro r;induction r with
   |nil=>intro k out;rfl
   |cons n r ih=>
    intro k out;simp only[e3,List.map_cons,ha];cases out.contains n.name with
    |true=>rfl
    |false=>simp only[cond_false,Bool.false_or];exact ih _ _
  rw[fold] at key;simp only[Bv,hc,Option.bind_some,key];cases ha more (aw.map (·.name))<;>rfl
 ·have hi:=ct hx;have hw:aM i:=by unfold aM;omega
  refine⟨?_,fun ar ah=>?_⟩
  ·simp only[y3,cF hi,cond_true,cc,hx,Option.bind_some,f123];rw[_F _ (show cq out.length by show out.length<=2097152;omega)]
   simp only[Option.bind_some];cases ao:out.contains x.name with
   |true=>rfl
   |false=>
    simp only[cond_false];rw[eZ (by decide) (by unfold aM;simp only[List.length_cons,List.length_nil];omega)]
    simp only[Option.bind_some,cl hw,Option.map_some]
  ·simp only[Option.some.injEq] at ah;cases ao:out.contains x.name with
   |true=>rw[ao] at ah;cases ah
   |false=>
    rw[ao] at ah;simp only[cond_false,Sum.inl.injEq] at ah;subst ah;simp only[List.length_append,List.length_cons,List.length_nil];omega
 ·simp only[y3,dQ,cond_false]
abbrev i293:Shape:=⟨[(0,.am (.d (.int .u8)))],[],29⟩
abbrev S9:Shape:=⟨[aQ 2],[],29⟩
noncomputable def f293(a:i293.L):Option S9.L:=
 bif(decide (a.1.1>=(97:Int))) then
 bif(!(decide (a.1.1<=(122:Int)))) then
 bif(decide (a.1.1>=(48:Int))) then
 bif(!(decide (a.1.1<=(57:Int)))) then
 bif(!(a.1.1==(46:Int))) then
 bif(!(a.1.1==(95:Int))) then
 some (((a.1.1==(45:Int)),()),())
else
 some ((true,()),())
else
 some ((true,()),())
else
 some ((true,()),())
else
 bif(!(a.1.1==(46:Int))) then
 bif(!(a.1.1==(95:Int))) then
 some (((a.1.1==(45:Int)),()),())
else
 some ((true,()),())
else
 some ((true,()),())
else
 some ((true,()),())
else
 bif(decide (a.1.1>=(48:Int))) then
 bif(!(decide (a.1.1<=(57:Int)))) then
 bif(!(a.1.1==(46:Int))) then
 bif(!(a.1.1==(95:Int))) then
 some (((a.1.1==(45:Int)),()),())
else
 some ((true,()),())
else
 some ((true,()),())
else
 some ((true,()),())
else
 bif(!(a.1.1==(46:Int))) then
 bif(!(a.1.1==(95:Int))) then
 some (((a.1.1==(45:Int)),()),())
else
 some ((true,()),())
else
 some ((true,()),())
noncomputable def UP:bb:=bf az Tryz.f293 i293 S9 [] f293
theorem ai6:a_ ae 293 UP:=bh g0 Tryz.func293 (by kernel_rfl) aB (fun y=>by kernel_rfl) fun a=>by kernel_rfl
noncomputable abbrev aln:bD:=[(293,UP)]
theorem VG:bg ae (bu az aln):=bB ⟨ai6,⟨⟩⟩
abbrev zG:Shape:=⟨[a8 0,aq 5,aq 6],[],17⟩
abbrev FA:List bk:=[(.ret,⟨[aQ 2],[],17⟩),(.exit 0,⟨[a8 0],[],17⟩)]
noncomputable def Ao(y:zG.L):cy zG FA:=
 bif(decide (y.1.2.2.1<y.1.2.1)) then
(bd y.1.1 y.1.2.2.1).bind fun a=>
(f293 (((a.toNat:Int),()),())).bind fun b=>
 bif(!b.1.1) then
 some (.inr (.inl ((false,()),())))
else
 some (.inl ((y.1.1,y.1.2.1,(IntKind.i64.wrap (y.1.2.2.1+(1:Int))),()),()))
else
 some (.inr (.inr ((y.1.1,()),())))
noncomputable def Gc:zG.L->Option (aY FA):=b7 Ao
theorem aeF:bq ae (aH (codeOf Tryz.f267) 1 26) (bE zG FA Gc):=cE VG (by kernel_rfl) aB fun y=>by kernel_rfl
abbrev i267:Shape:=⟨[a8 0],[],17⟩
abbrev Td:Shape:=⟨[aQ 2],[],17⟩
noncomputable def f267(a:i267.L):Option Td.L:=
(Gc ((a.1.1,(a.1.1.length:Int),(0:Int),()),())).bind fun b=>
(match b with
|.inl c=>
 some ((c.1.1,()),())
|.inr d=>
 some (((!(d.1.1==([]:J))),()),()))
noncomputable def UW:bb:=bf az Tryz.f267 i267 Td [] f267
theorem ajd:a_ ae 267 UW:=bh VG Tryz.func267 (by kernel_rfl) (bN aeF aB) (fun y=>by kernel_rfl) fun a=>by kernel_rfl
noncomputable abbrev alx:bD:=[(267,UW)]
theorem amf:bg ae (bu az alx):=bB ⟨ajd,⟨⟩⟩
abbrev i228:Shape:=⟨[a8 0],[],18⟩
abbrev Tq:Shape:=⟨[aQ 2],[],18⟩
noncomputable def f228(a:i228.L):Option Tq.L:=
 bif(decide ((a.1.1.length:Int)<=(10:Int))) then
 bif(!(a.1.1==([46]:J))) then
 bif(!(a.1.1==([46,46]:J))) then
(f267 ((a.1.1,()),())).bind fun b=>
 some ((b.1.1,()),())
else
 some ((false,()),())
else
 some ((false,()),())
else
 some ((false,()),())
noncomputable def U6:bb:=bf az Tryz.f228 i228 Tq [] f228
theorem z228:a_ ae 228 U6:=bh amf Tryz.func228 (by kernel_rfl) aB (fun y=>by kernel_rfl) fun a=>by kernel_rfl
noncomputable abbrev alF:bD:=[(228,U6)]
theorem Jn:bg ae (bu az alF):=bB ⟨z228,⟨⟩⟩
abbrev OE:Shape:=⟨[bj 2 2 0,bj 3 3 0,a8 4],[bi 2 [iZ],bi 3 [bM]],17⟩
abbrev Ol:List bk:=[(.norm,⟨[bj 2 2 0,bj 3 3 0,aQ 16],[bi 2 [iZ],bi 3 [bM]],17⟩)]
noncomputable def Fc(y:OE.L):Option (aY Ol):=
 bif(!(decide (y.2.2.1.1>(5:Int)))) then
(f228 ((y.1.2.2.1,()),())).bind fun a=>
 some (((),(),(!a.1.1),()),(y.2.1.1,()),(y.2.2.1.1,()),())
else
 some (((),(),true,()),(y.2.1.1,()),(y.2.2.1.1,()),())
theorem adl:bq ae (aH (kr (aH (codeOf Tryz.f193) 1 58)) 117 938) (bE OE Ol Fc):=dI Jn (by kernel_rfl) aB fun y=>by kernel_rfl
abbrev zR:Shape:=⟨[bj 2 2 0,bj 3 3 0],[bi 2 [iZ],bi 3 [bM]],17⟩
abbrev FK:List bk:=[(.norm,⟨[bj 2 2 0],[bi 2 [iZ]],17⟩),(.ret,⟨[bj 2 2 0],[bi 2 [iZ]],17⟩)]
noncomputable def ta(x:J)(y:zR.L):cy zR FK:=
(Fc (((),(),x,()),(y.2.1.1,()),((IntKind.i64.wrap (y.2.2.1.1+(1:Int))),()),())).bind fun a=>
 bif a.1.2.2.1 then
 some (.inr (.inr (((),()),(false,()),())))
else
 some (.inl (((),(),()),(a.2.1.1,()),(a.2.2.1.1,()),()))
noncomputable def vS(y:zR.L):Option (aY FK):=
 some (.inl (((),()),(y.2.1.1,()),()))
theorem aeR:bq ae (aH (codeOf Tryz.f193) 1 58) (s3 257 6 zR FK ta vS):=L4 (e4:=7) Jn Sn (by kernel_rfl) (bN adl aB) (by kernel_rfl) (fun x y=>by kernel_rfl) fun y=>by kernel_rfl
abbrev i193:Shape:=⟨[a8 0],[],17⟩
abbrev Tz:Shape:=⟨[bj 2 2 0],[bi 2 [iZ]],17⟩
noncomputable def f193(a:i193.L):Option Tz.L:=
(bif Nat.ble a.1.1.length k6 then iM ta vS (cr (47:UInt8) a.1.1) (((),(),()),(false,()),((0:Int),()),()) else none).bind fun b=>
(match b with
|.inl c=>
 some (((),()),(true,()),())
|.inr d=>
 some (((),()),(d.2.1.1,()),()))
noncomputable def I7:bb:=bf az Tryz.f193 i193 Tz [] f193
theorem z193:a_ ae 193 I7:=bh Jn Tryz.func193 (by kernel_rfl) (bN aeR aB) (fun y=>by kernel_rfl) fun a=>by kernel_rfl
abbrev i229:Shape:=⟨[(0,.am (.d (.int .u8)))],[],9⟩
abbrev Tp:Shape:=⟨[aQ 2],[],9⟩
noncomputable def f229(a:i229.L):Option Tp.L:=
 bif(decide (a.1.1>=(32:Int))) then
 some (((decide (a.1.1<=(126:Int))),()),())
else
 some ((false,()),())
noncomputable def U5:bb:=bf az Tryz.f229 i229 Tp [] f229
theorem z229:a_ ae 229 U5:=bh g0 Tryz.func229 (by kernel_rfl) aB (fun y=>by kernel_rfl) fun a=>by kernel_rfl
noncomputable abbrev alE:bD:=[(229,U5)]
theorem Jm:bg ae (bu az alE):=bB ⟨z229,⟨⟩⟩
abbrev Nl:Shape:=⟨[a8 0,aq 3,aq 8,aq 9],[],24⟩
abbrev M9:List bk:=[(.norm,⟨[a8 0,aq 8,aq 9,aQ 22],[],24⟩)]
noncomputable def Ey(y:Nl.L):Option (aY M9):=
(bd y.1.1 y.1.2.1).bind fun a=>
(f229 (((a.toNat:Int),()),())).bind fun b=>
 bif(!b.1.1) then
(bd y.1.1 y.1.2.1).bind fun c=>
 some ((y.1.1,y.1.2.2.1,y.1.2.2.2.1,((c.toNat:Int) !=(10:Int)),()),())
else
 some ((y.1.1,y.1.2.2.1,y.1.2.2.2.1,false,()),())
theorem aby:bq ae (aH (dn (aH (codeOf Tryz.f194) 1 58)) 116 7474) (bE Nl M9 Ey):=dI Jm (by kernel_rfl) aB fun y=>by kernel_rfl
abbrev zQ:Shape:=⟨[a8 0,aq 8,aq 9],[],24⟩
abbrev FJ:List bk:=[(.ret,⟨[aQ 2],[],24⟩),(.exit 0,⟨[],[],24⟩)]
noncomputable def Au(y:zQ.L):cy zQ FJ:=
 bif(decide (y.1.2.2.1<y.1.2.1)) then
(Ey ((y.1.1,y.1.2.2.1,y.1.2.1,y.1.2.2.1,()),())).bind fun a=>
 bif a.1.2.2.2.1 then
 some (.inr (.inl ((false,()),())))
else
 some (.inl ((a.1.1,a.1.2.1,(IntKind.i64.wrap (a.1.2.2.1+(1:Int))),()),()))
else
 some (.inr (.inr ((),())))
noncomputable def Gj:zQ.L->Option (aY FJ):=b7 Au
theorem aeQ:bq ae (aH (codeOf Tryz.f194) 1 58) (bE zQ FJ Gj):=cE Jm (by kernel_rfl) (bN aby aB) fun y=>by kernel_rfl
abbrev i194:Shape:=⟨[a8 0],[],24⟩
abbrev Ty:Shape:=⟨[aQ 2],[],24⟩
noncomputable def f194(a:i194.L):Option Ty.L:=
 bif(decide ((a.1.1.length:Int)>(80:Int))) then
 some ((false,()),())
else
(Gj ((a.1.1,(a.1.1.length:Int),(0:Int),()),())).bind fun b=>
(match b with
|.inl c=>
 some ((c.1.1,()),())
|.inr d=>
 some ((true,()),()))
noncomputable def Va:bb:=bf az Tryz.f194 i194 Ty [] f194
theorem z194:a_ ae 194 Va:=bh Jm Tryz.func194 (by kernel_rfl) (bN aeQ aB) (fun y=>by kernel_rfl) fun a=>by kernel_rfl
noncomputable abbrev alS:bD:=[(193,I7),(194,Va)]
theorem VN:bg ae (bu az alS):=bB ⟨z193,z194,⟨⟩⟩
abbrev Po:Shape:=⟨[bj 1 1 0],[bi 1 [bC,bM,bM,bC]],39⟩
abbrev Pd:List bk:=[(.norm,⟨[bj 1 1 0,aQ 16],[bi 1 [bC,bM,bM,bC]],39⟩)]
noncomputable def GI(y:Po.L):Option (aY Pd):=
(f193 ((y.2.1.1,()),())).bind fun a=>
 bif(!(!a.2.1.1)) then
 bif(!(decide (y.2.1.2.2.1<(0:Int)))) then
 some (((),(decide (y.2.1.2.2.1>(7:Int))),()),(y.2.1.1,y.2.1.2.1,y.2.1.2.2.1,y.2.1.2.2.2.1,()),())
else
 some (((),true,()),(y.2.1.1,y.2.1.2.1,y.2.1.2.2.1,y.2.1.2.2.2.1,()),())
else
 some (((),true,()),(y.2.1.1,y.2.1.2.1,y.2.1.2.2.1,y.2.1.2.2.2.1,()),())
theorem ae4:bq ae (aH (codeOf Tryz.f136) 1 12) (bE Po Pd GI):=dI VN (by kernel_rfl) aB fun y=>by kernel_rfl
abbrev i136:Shape:=⟨[dS 0 [bC,bM,bM,bC]],[],39⟩
abbrev TR:Shape:=⟨[aQ 2],[],39⟩
noncomputable def f136(a:i136.L):Option TR.L:=
(GI (((),()),(a.1.1.1,a.1.1.2.1,a.1.1.2.2.1,a.1.1.2.2.2.1,()),())).bind fun b=>
 bif b.1.2.1 then
 some ((false,()),())
else
 bif(b.2.1.2.1==(1:Int)) then
 some (((b.2.1.2.2.2.1==([]:J)),()),())
else
 bif(b.2.1.2.1==(2:Int)) then
(f194 ((b.2.1.2.2.2.1,()),())).bind fun c=>
 some ((c.1.1,()),())
else
 bif(b.2.1.2.1==(3:Int)) then
 bif(b.2.1.2.2.1==(0:Int)) then
(f193 ((b.2.1.2.2.2.1,()),())).bind fun d=>
 some ((d.2.1.1,()),())
else
 some ((false,()),())
else
 some ((false,()),())
noncomputable def Vr:bb:=bf az Tryz.f136 i136 TR [] f136
theorem ajC:a_ ae 136 Vr:=bh VN Tryz.func136 (by kernel_rfl) (bN ae4 aB) (fun y=>by kernel_rfl) fun a=>by kernel_rfl
abbrev i304:Shape:=⟨[(0,.am (.d (.int .u8)))],[],29⟩
abbrev S8:Shape:=⟨[aQ 2],[],29⟩
noncomputable def f304(a:i304.L):Option S8.L:=
 bif(decide (a.1.1>=(97:Int))) then
 bif(!(decide (a.1.1<=(122:Int)))) then
 bif(decide (a.1.1>=(48:Int))) then
 bif(!(decide (a.1.1<=(57:Int)))) then
 bif(!(a.1.1==(46:Int))) then
 bif(!(a.1.1==(95:Int))) then
 some (((a.1.1==(45:Int)),()),())
else
 some ((true,()),())
else
 some ((true,()),())
else
 some ((true,()),())
else
 bif(!(a.1.1==(46:Int))) then
 bif(!(a.1.1==(95:Int))) then
 some (((a.1.1==(45:Int)),()),())
else
 some ((true,()),())
else
 some ((true,()),())
else
 some ((true,()),())
else
 bif(decide (a.1.1>=(48:Int))) then
 bif(!(decide (a.1.1<=(57:Int)))) then
 bif(!(a.1.1==(46:Int))) then
 bif(!(a.1.1==(95:Int))) then
 some (((a.1.1==(45:Int)),()),())
else
 some ((true,()),())
else
 some ((true,()),())
else
 some ((true,()),())
else
 bif(!(a.1.1==(46:Int))) then
 bif(!(a.1.1==(95:Int))) then
 some (((a.1.1==(45:Int)),()),())
else
 some ((true,()),())
else
 some ((true,()),())
noncomputable def Co:bb:=bf az Tryz.f304 i304 S8 [] f304
theorem H4:a_ ae 304 Co:=bh g0 Tryz.func304 (by kernel_rfl) aB (fun y=>by kernel_rfl) fun a=>by kernel_rfl
noncomputable abbrev alk:bD:=[(91,sw),(304,Co)]
theorem VF:bg ae (bu az alk):=bB ⟨z91,H4,⟨⟩⟩
abbrev zE:Shape:=⟨[a8 0,aq 3],[],26⟩
abbrev Fy:List bk:=[(.ret,⟨[aQ 2],[],26⟩),(.exit 0,⟨[a8 0],[],26⟩)]
noncomputable def An(y:zE.L):cy zE Fy:=
 bif(decide (y.1.2.1<(y.1.1.length:Int))) then
(bd y.1.1 y.1.2.1).bind fun a=>
(f304 (((a.toNat:Int),()),())).bind fun b=>
 bif(!b.1.1) then
 some (.inr (.inl ((false,()),())))
else
 some (.inl ((y.1.1,(IntKind.i64.wrap (y.1.2.1+(1:Int))),()),()))
else
 some (.inr (.inr ((y.1.1,()),())))
noncomputable def Ga:zE.L->Option (aY Fy):=b7 An
theorem aeD:bq ae (aH (codeOf Tryz.f285) 1 26) (bE zE Fy Ga):=cE VF (by kernel_rfl) aB fun y=>by kernel_rfl
abbrev i285:Shape:=⟨[a8 0],[],26⟩
abbrev Ta:Shape:=⟨[aQ 2],[],26⟩
noncomputable def f285(a:i285.L):Option Ta.L:=
(Ga ((a.1.1,(0:Int),()),())).bind fun b=>
(match b with
|.inl c=>
 some ((c.1.1,()),())
|.inr d=>
(f91 (((d.1.1.length:Int),(1:Int),(10:Int),()),())).bind fun e=>
 bif e.1.1 then
 bif(!(d.1.1==([46]:J))) then
 some (((!(d.1.1==([46,46]:J))),()),())
else
 some ((false,()),())
else
 some ((false,()),()))
noncomputable def UT:bb:=bf az Tryz.f285 i285 Ta [] f285
theorem aja:a_ ae 285 UT:=bh VF Tryz.func285 (by kernel_rfl) (bN aeD aB) (fun y=>by kernel_rfl) fun a=>by kernel_rfl
noncomputable abbrev als:bD:=[(89,x1),(285,UT)]
theorem VH:bg ae (bu az als):=bB ⟨Cx,aja,⟨⟩⟩
abbrev zK:Shape:=⟨[bS 3 3000192,aq 4],[b8 3000192 .str 3 0],25⟩
abbrev FE:List bk:=[(.ret,⟨[aQ 2],[],25⟩),(.exit 0,⟨[bS 3 3000192],[b8 3000192 .str 3 0],25⟩)]
noncomputable def Aq(y:zK.L):cy zK FE:=
 bif(decide (y.1.2.1<(y.2.1.length:Int))) then
(iz y.2.1.length y.1.2.1).bind fun a=>
(y.2.1[a]?).bind fun b=>
(f285 ((b,()),())).bind fun c=>
 bif(!c.1.1) then
 some (.inr (.inl ((false,()),())))
else
 some (.inl (((),(IntKind.i64.wrap (y.1.2.1+(1:Int))),()),y.2.1,()))
else
 some (.inr (.inr (((),()),y.2.1,())))
noncomputable def Gf:zK.L->Option (aY FE):=b7 Aq
theorem aeJ:bq ae (aH (codeOf Tryz.f252) 1 58) (bE zK FE Gf):=cE VH (by kernel_rfl) aB fun y=>by kernel_rfl
abbrev i252:Shape:=⟨[a8 0],[],25⟩
abbrev Tk:Shape:=⟨[aQ 2],[],25⟩
noncomputable def f252(a:i252.L):Option Tk.L:=
(f89 ((a.1.1,(47:Int),(IntKind.i64.wrap ((a.1.1.length:Int)+(1:Int))),()),())).bind fun b=>
(Gf (((),(0:Int),()),b.2.1,())).bind fun c=>
(match c with
|.inl d=>
 some ((d.1.1,()),())
|.inr e=>
 some (((decide ((e.2.1.length:Int)<=(5:Int))),()),()))
noncomputable def I3:bb:=bf az Tryz.f252 i252 Tk [] f252
theorem SQ:a_ ae 252 I3:=bh VH Tryz.func252 (by kernel_rfl) (bN aeJ aB) (fun y=>by kernel_rfl) fun a=>by kernel_rfl
noncomputable abbrev alr:bD:=[(91,sw)]
theorem Jj:bg ae (bu az alr):=bB ⟨z91,⟨⟩⟩
abbrev OD:Shape:=⟨[a8 0,aq 3],[],25⟩
abbrev Oj:List bk:=[(.norm,⟨[a8 0,aq 3,aQ 21],[],25⟩)]
noncomputable def Fa(y:OD.L):Option (aY Oj):=
(bd y.1.1 y.1.2.1).bind fun a=>
 bif((a.toNat:Int) !=(10:Int)) then
(bd y.1.1 y.1.2.1).bind fun b=>
(f91 (((IntKind.i64.wrap (b.toNat:Int)),(32:Int),(126:Int),()),())).bind fun c=>
 some ((y.1.1,y.1.2.1,(!c.1.1),()),())
else
 some ((y.1.1,y.1.2.1,false,()),())
theorem adj:bq ae (aH (dn (aH (codeOf Tryz.f253) 1 26)) 52 840) (bE OD Oj Fa):=dI Jj (by kernel_rfl) aB fun y=>by kernel_rfl
abbrev zJ:Shape:=⟨[a8 0,aq 3],[],25⟩
abbrev FD:List bk:=[(.ret,⟨[aQ 2],[],25⟩),(.exit 0,⟨[a8 0],[],25⟩)]
noncomputable def Ap(y:zJ.L):cy zJ FD:=
 bif(decide (y.1.2.1<(y.1.1.length:Int))) then
(Fa ((y.1.1,y.1.2.1,()),())).bind fun a=>
 bif a.1.2.2.1 then
 some (.inr (.inl ((false,()),())))
else
 some (.inl ((a.1.1,(IntKind.i64.wrap (a.1.2.1+(1:Int))),()),()))
else
 some (.inr (.inr ((y.1.1,()),())))
noncomputable def Ge:zJ.L->Option (aY FD):=b7 Ap
theorem aeI:bq ae (aH (codeOf Tryz.f253) 1 26) (bE zJ FD Ge):=cE Jj (by kernel_rfl) (bN adj aB) fun y=>by kernel_rfl
abbrev i253:Shape:=⟨[a8 0],[],25⟩
abbrev Tj:Shape:=⟨[aQ 2],[],25⟩
noncomputable def f253(a:i253.L):Option Tj.L:=
(Ge ((a.1.1,(0:Int),()),())).bind fun b=>
(match b with
|.inl c=>
 some ((c.1.1,()),())
|.inr d=>
 some (((decide ((d.1.1.length:Int)<=(80:Int))),()),()))
noncomputable def U0:bb:=bf az Tryz.f253 i253 Tj [] f253
theorem ajh:a_ ae 253 U0:=bh Jj Tryz.func253 (by kernel_rfl) (bN aeI aB) (fun y=>by kernel_rfl) fun a=>by kernel_rfl
noncomputable abbrev alC:bD:=[(91,sw),(252,I3),(253,U0)]
theorem ami:bg ae (bu az alC):=bB ⟨z91,SQ,ajh,⟨⟩⟩
abbrev i210:Shape:=⟨[dS 0 [bC,bM,bM,bC]],[],42⟩
abbrev Tw:Shape:=⟨[aQ 2],[],42⟩
noncomputable def f210(a:i210.L):Option Tw.L:=
(f252 ((a.1.1.1,()),())).bind fun b=>
 bif(!b.1.1) then
 some ((false,()),())
else
 bif(a.1.1.2.1==(1:Int)) then
(f91 ((a.1.1.2.2.1,(0:Int),(7:Int),()),())).bind fun c=>
 bif c.1.1 then
 some (((a.1.1.2.2.2.1==([]:J)),()),())
else
 some ((false,()),())
else
 bif(a.1.1.2.1==(2:Int)) then
(f91 ((a.1.1.2.2.1,(0:Int),(7:Int),()),())).bind fun d=>
 bif d.1.1 then
(f253 ((a.1.1.2.2.2.1,()),())).bind fun e=>
 some ((e.1.1,()),())
else
 some ((false,()),())
else
 bif(a.1.1.2.1==(3:Int)) then
 bif(a.1.1.2.2.1==(0:Int)) then
(f252 ((a.1.1.2.2.2.1,()),())).bind fun f=>
 some ((f.1.1,()),())
else
 some ((false,()),())
else
 some ((false,()),())
noncomputable def I6:bb:=bf az Tryz.f210 i210 Tw [] f210
theorem z210:a_ ae 210 I6:=bh ami Tryz.func210 (by kernel_rfl) aB (fun y=>by kernel_rfl) fun a=>by kernel_rfl
def k2(n:Int):Bool:=(decide (97<=n)&&decide (n<=122))||(decide (48<=n)&&decide (n<=57))||n==46||n==95||n==45
theorem MY(a):f304 a=some ((k2 a.1.1,()),()):=by
 obtain⟨⟨n,u⟩,bv⟩:=a;simp only[f304,k2,ge_iff_le];generalize decide ((97:Int)<=n)=bc;generalize decide (n<=(122:Int))=aO;generalize decide ((48:Int)<=n)=ca;generalize decide (n<=(57:Int))=pM;generalize(n==(46:Int))=yf;generalize(n==(95:Int))=K';generalize(n==(45:Int))=K_;cases bc<;>cases aO<;>cases ca<;>cases pM<;>cases yf<;>cases K'<;>cases K_<;>rfl
theorem _w(a):f293 a=some ((k2 a.1.1,()),()):=by
 obtain⟨⟨n,u⟩,bv⟩:=a;simp only[f293,k2,ge_iff_le];generalize decide ((97:Int)<=n)=bc;generalize decide (n<=(122:Int))=aO;generalize decide ((48:Int)<=n)=ca;generalize decide (n<=(57:Int))=pM;generalize(n==(46:Int))=yf;generalize(n==(95:Int))=K';generalize(n==(45:Int))=K_;cases bc<;>cases aO<;>cases ca<;>cases pM<;>cases yf<;>cases K'<;>cases K_<;>rfl
def lh(s:J):Bool:=s.all (fun b=>k2 b.toNat)&&within s.length 1 10&&!(s==[46])&&!(s==[46,46])
theorem acF(a)(M:cq a.1.1.length):f285 a=some ((lh a.1.1,()),()):=by
 obtain⟨⟨s,u⟩,bv⟩:=a;have M:s.length<=2097152:=M;have key:Ga ((s,((0:Int),())),())=some (bif allI (fun _ b=>k2 b.toNat) 0 s then .inr ((s,()),()) else .inl ((false,()),())):=by
  refine gm An s (fun i=>((s,((i:Int),())),())) _ _ _ (fun i x hx=>?_) ?_
  ·have hi:=ct hx;have hw:aM i:=by unfold aM;omega
   simp only[An,cF hi,cond_true,cc,hx,Option.bind_some,MY,cl hw];cases k2 x.toNat<;>rfl
  ·simp only[An,dQ,cond_false]
 rw[h4] at key;simp only[f285,key,Option.bind_some,lh];cases List.all s (fun b=>k2 b.toNat) with
 |false=>rfl
 |true=>
  simp only[cond_true,tk,Option.bind_some,Bool.true_and];cases within (s.length:Int) 1 10<;>cases (s==[46])<;>rfl
theorem acA(a)(M:cq a.1.1.length):f228 a=some ((lh a.1.1,()),()):=by
 obtain⟨⟨s,u⟩,bv⟩:=a;have M:s.length<=2097152:=M;have key:Gc ((s,((s.length:Int),((0:Int),()))),())=some (bif allI (fun _ b=>k2 b.toNat) 0 s then .inr ((s,()),()) else .inl ((false,()),())):=by
  refine gm Ao s (fun i=>((s,((s.length:Int),((i:Int),()))),())) _ _ _ (fun i x hx=>?_) ?_
  ·have hi:=ct hx;have hw:aM i:=by unfold aM;omega
   simp only[Ao,cF hi,cond_true,cc,hx,Option.bind_some,_w,cl hw];cases k2 x.toNat<;>rfl
  ·simp only[Ao,dQ,cond_false]
 rw[h4] at key;have xE:f267 ((s,()),())=some ((List.all s (fun b=>k2 b.toNat)&&!(s==([]:J)),()),()):=by
  simp only[f267,key,Option.bind_some];cases List.all s (fun b=>k2 b.toNat)<;>rfl
 have h1:decide ((1:Int)<=(s.length:Int))=!(s==([]:J)):=by
  cases s with
  |nil=>rfl
  |cons b r=>
   have:((b::r)==([]:J))=false:=rfl;simp only[List.length_cons];rw[this];simp only[Bool.not_false,decide_eq_true_eq];omega
 simp only[f228,xE,Option.bind_some,lh,within,h1];cases decide ((s.length:Int)<=10)<;>cases (s==[46])<;>cases (s==[46,46])<;>cases List.all s (fun b=>k2 b.toNat)<;>cases (s==([]:J))<;>rfl
def jr(s:J):Bool:=(cr 47 s).all lh&&decide ((cr 47 s).length<=5)
theorem EK(a)(M:cq a.1.1.length):f252 a=some ((jr a.1.1,()),()):=by
 obtain⟨⟨s,u⟩,bv⟩:=a;have M:s.length<=2097152:=M;have hlen:=qY 47 s;have j3:f89 ((s,((47:Int),((IntKind.i64.wrap ((s.length:Int)+(1:Int))),()))),())=some (((),()),(cr 47 s,())):=
  vJ 47 _ M rfl (cl (by unfold aM;omega))
 have key:Gf (((),((0:Int),())),(cr 47 s,()))=some (bif allI (fun _ x=>lh x) 0 (cr 47 s) then .inr (((),()),(cr 47 s,())) else .inl ((false,()),())):=by
  refine gm Aq (cr 47 s) (fun i=>(((),((i:Int),())),(cr 47 s,()))) _ _ _ (fun i x hx=>?_) ?_
  ·have hi:=ct hx;have hw:aM i:=by unfold aM;omega
   have qu:x.length<=s.length:=qX 47 s x (List.mem_of_getElem? hx);simp only[Aq,cF hi,cond_true,oU hi,hx,Option.bind_some];rw[acF _ (show x.length<=2097152 by omega)]
   simp only[Option.bind_some,cl hw];cases lh x<;>rfl
  ·simp only[Aq,dQ,cond_false]
 rw[h4] at key;simp only[f252,j3,Option.bind_some,key,jr];cases List.all (cr 47 s) lh with
 |false=>rfl
 |true=>have:=B_ (cr 47 s).length 5;simp only[cond_true,Bool.true_and];rw[<-this];rfl
theorem EN(a)(M:cq a.1.1.length):f193 a=some (((),()),((jr a.1.1,()),())):=by
 obtain⟨⟨s,u⟩,bv⟩:=a;have M:s.length<=2097152:=M;have IM:Nat.ble s.length k6=true:=Nat.ble_eq_true_of_le (by unfold k6;omega)
 have fold:∀(r:List J) (k:Nat),(∀x,x∈r->x.length<=s.length)->k<=5->
   iM ta vS r (((),((),())),((false,()),(((k:Int),()),())))=
    some (bif r.all lh&&decide (k+r.length<=5) then(.inl (((),()),((false,()),()))) else(.inr (((),()),((false,()),())))):=by
  intro r;induction r with
  |nil=>
   intro k _ af;have:decide (k+0<=5)=true:=by simpa using af
   simp only[iM,vS,List.all_nil,List.length_nil,this,Bool.and_self,cond_true]
  |cons x r ih=>
   intro k hr af;have hx:=hr x List.mem_cons_self;have iS:=acA ((x,()),()) (show x.length<=2097152 by omega)
   have hw:=cl (i:=k) (by unfold aM;omega)
   have xF:decide (((k+1:Nat):Int)>5)=!decide (k+1<=5):=by by_cases h:k+1<=5<;>simp only[h,decide_true,decide_false,Bool.not_true,Bool.not_false,decide_eq_true_eq,decide_eq_false_iff_not]<;>omega
   have step:ta x (((),((),())),((false,()),(((k:Int),()),())))=
     some (bif lh x&&decide (k+1<=5) then .inl (((),((),())),((false,()),((((k+1:Nat):Int),()),()))) else .inr (.inr (((),()),((false,()),())))):=by
    simp only[ta,Fc,hw,xF,Bool.not_not,iS,Option.bind_some];cases decide (k+1<=5) with
    |false=>cases lh x<;>rfl
    |true=>cases lh x<;>rfl
   rw[iM,step,List.all_cons];cases hn:lh x with
   |false=>rfl
   |true=>
    simp only[Bool.true_and];cases ao:decide (k+1<=5) with
    |false=>
     have:decide (k+(x::r).length<=5)=false:=by simp only[decide_eq_false_iff_not,List.length_cons] at ao ⊢;omega
     rw[this];simp
    |true=>
     simp only[cond_true];rw[ih (k+1) (fun y al=>hr y (List.mem_cons_of_mem _ al)) (by simpa using ao)]
     have e1:k+1+r.length=k+(x::r).length:=by simp only[List.length_cons];omega
     rw[e1]
 have key:=fold (cr (47:UInt8) s) 0 (fun x hx=>qX 47 s x hx) (Nat.zero_le _)
 have Iv:iM ta vS (cr (47:UInt8) s) (((),((),())),((false,()),(((0:Int),()),())))=some (bif jr s then(.inl (((),()),((false,()),()))) else(.inr (((),()),((false,()),())))):=by
  refine key.trans ?_
  unfold jr;rw[Nat.zero_add]
 simp only[f193,IM,cond_true,Iv,Option.bind_some];cases jr s<;>rfl
def v6(s:J):Bool:=s.all (fun b=>(b.toNat:Int)==10||within b.toNat 32 126)&&decide (s.length<=80)
theorem aaJ(b:UInt8):IntKind.i64.wrap (b.toNat:Int)=(b.toNat:Int):=by
 have:=b.toNat_lt;rw[ed (by omega) (by omega)]
theorem acD(a)(M:cq a.1.1.length):f253 a=some ((v6 a.1.1,()),()):=by
 obtain⟨⟨s,u⟩,bv⟩:=a;have M:s.length<=2097152:=M;have key:Ge ((s,((0:Int),())),())=some (bif allI (fun _ b=>(b.toNat:Int)==10||within b.toNat 32 126) 0 s then .inr ((s,()),()) else .inl ((false,()),())):=by
  refine gm Ap s (fun i=>((s,((i:Int),())),())) _ _ _ (fun i x hx=>?_) ?_
  ·have hi:=ct hx;have hw:aM i:=by unfold aM;omega
   have hne:((x.toNat:Int) !=10)=!((x.toNat:Int)==10):=rfl;simp only[Ap,cF hi,cond_true,Fa,cc,hx,Option.bind_some,hne,tk,aaJ];cases ((x.toNat:Int)==10)<;>cases within (x.toNat:Int) 32 126<;>simp only[Bool.not_true,Bool.not_false,cond_true,cond_false,Option.bind_some,cl hw,Bool.or_true,Bool.true_or,Bool.or_false]
  ·simp only[Ap,dQ,cond_false]
 rw[h4] at key;simp only[f253,key,Option.bind_some,v6];cases List.all s (fun b=>(b.toNat:Int)==10||within b.toNat 32 126) with
 |false=>rfl
 |true=>have:=B_ s.length 80;simp only[cond_true,Bool.true_and];rw[<-this];rfl
theorem ZI(a):f229 a=some ((within a.1.1 32 126,()),()):=by
 simp only[f229,within,ge_iff_le];cases decide ((32:Int)<=a.1.1)<;>rfl
theorem _B(a)(M:cq a.1.1.length):f194 a=some ((v6 a.1.1,()),()):=by
 obtain⟨⟨s,u⟩,bv⟩:=a;have M:s.length<=2097152:=M;have key:Gj ((s,((s.length:Int),((0:Int),()))),())=some (bif allI (fun _ b=>(b.toNat:Int)==10||within b.toNat 32 126) 0 s then .inr ((),()) else .inl ((false,()),())):=by
  refine gm Au s (fun i=>((s,((s.length:Int),((i:Int),()))),())) _ _ _ (fun i x hx=>?_) ?_
  ·have hi:=ct hx;have hw:aM i:=by unfold aM;omega
   have hne:((x.toNat:Int) !=10)=!((x.toNat:Int)==10):=rfl;simp only[Au,cF hi,cond_true,Ey,cc,hx,Option.bind_some,hne,ZI];cases ((x.toNat:Int)==10)<;>cases within (x.toNat:Int) 32 126<;>simp only[Bool.not_true,Bool.not_false,cond_true,cond_false,Option.bind_some,cl hw,Bool.or_true,Bool.true_or,Bool.or_false]
  ·simp only[Au,dQ,cond_false]
 rw[h4] at key;have apa:decide ((s.length:Int)>80)=!decide (s.length<=80):=by by_cases h:s.length<=80<;>simp only[h,decide_true,decide_false,Bool.not_true,Bool.not_false,decide_eq_true_eq,decide_eq_false_iff_not]<;>omega
 simp only[f194,key,Option.bind_some,v6,apa];cases decide (s.length<=80)<;>cases List.all s (fun b=>(b.toNat:Int)==10||within b.toNat 32 126)<;>rfl
def mN(e:aR):Bool:=jr e.path&&(bif e.kind==1 then within e.mode 0 7&&e.text==[] else bif e.kind==2 then within e.mode 0 7&&v6 e.text else bif e.kind==3 then e.mode==0&&jr e.text else false)
abbrev ol(e:aR):Prop:=cq e.path.length/\cq e.text.length
theorem MX(a)(h1:cq a.1.1.1.length)(h2:cq a.1.1.2.2.2.1.length):f210 a=some ((mN ⟨a.1.1.1,a.1.1.2.1,a.1.1.2.2.1,a.1.1.2.2.2.1⟩,()),()):=by
 obtain⟨⟨⟨p,k,m,t,u⟩,bv⟩,mc⟩:=a;have e1:=EK ((p,()),()) h1;have e2:=EK ((t,()),()) h2;have b0:=acD ((t,()),()) h2;simp only[f210,e1,e2,b0,tk,Option.bind_some,mN];cases jr p with
 |false=>rfl
 |true=>cases (k==1)<;>cases (k==2)<;>cases (k==3)<;>cases within m 0 7<;>cases (m==0)<;>rfl
theorem aaX(a)(h1:cq a.1.1.1.length)(h2:cq a.1.1.2.2.2.1.length):f136 a=some ((mN ⟨a.1.1.1,a.1.1.2.1,a.1.1.2.2.1,a.1.1.2.2.2.1⟩,()),()):=by
 obtain⟨⟨⟨p,k,m,t,u⟩,bv⟩,mc⟩:=a;have e1:=EN ((p,()),()) h1;have e2:=EN ((t,()),()) h2;have b0:=_B ((t,()),()) h2;have hm:within m 0 7=true\/(m==0)=false:=by
  cases h:(m==0) with
  |false=>exact .inr rfl
  |true=>left;rw[show m=(0:Int) from eq_of_beq h];rfl
 simp only[f136,GI,e1,e2,b0,Option.bind_some,mN,qG,qH,Bool.not_not];unfold within at hm ⊢;cases jr p with
 |false=>rfl
 |true=>
  cases h0:decide ((0:Int)<=m)<;>cases hZ:decide (m<=7)<;>rw[h0,hZ] at hm<;>cases Xd:(m==0)<;>rw[Xd] at hm<;>
   first|(simp at hm;done)|(simp only[Bool.not_true,Bool.not_false,cond_true,cond_false,Option.bind_some,Xd,e2,b0,Bool.and_true,Bool.and_false,Bool.true_and,Bool.false_and];cases (k==1)<;>cases (k==2)<;>cases (k==3)<;>rfl)
abbrev i175:Shape:=⟨[a8 0],[],6⟩
abbrev TF:Shape:=⟨[aQ 2],[],6⟩
noncomputable def f175(a:i175.L):Option TF.L:=
 some (((!(a.1.1==a.1.1)),()),())
noncomputable def Vj:bb:=bf az Tryz.f175 i175 TF [] f175
theorem z175:a_ ae 175 Vj:=bh g0 Tryz.func175 (by kernel_rfl) aB (fun y=>by kernel_rfl) fun a=>by kernel_rfl
noncomputable abbrev al3:bD:=[(175,Vj)]
theorem amu:bg ae (bu az al3):=bB ⟨z175,⟨⟩⟩
abbrev i110:Shape:=⟨[a8 0,a8 1],[],20⟩
abbrev T4:Shape:=⟨[aq 4],[],20⟩
noncomputable def f110(a:i110.L):Option T4.L:=
(f175 ((a.1.1,()),())).bind fun b=>
(f175 ((a.1.2.1,()),())).bind fun c=>
 bif b.1.1 then
 bif c.1.1 then
 some (((0:Int),()),())
else
 some ((((-1):Int),()),())
else
 bif c.1.1 then
 some (((1:Int),()),())
else
 bif(Op.bytesLess a.1.1 a.1.2.1) then
 some ((((-1):Int),()),())
else
 bif(!(Op.bytesLess a.1.1 a.1.2.1||a.1.1==a.1.2.1)) then
 some (((1:Int),()),())
else
 some (((0:Int),()),())
noncomputable def Jd:bb:=bf az Tryz.f110 i110 T4 [] f110
theorem SX:a_ ae 110 Jd:=bh amu Tryz.func110 (by kernel_rfl) aB (fun y=>by kernel_rfl) fun a=>by kernel_rfl
noncomputable abbrev alQ:bD:=[(110,Jd)]
theorem amo:bg ae (bu az alQ):=bB ⟨SX,⟨⟩⟩
abbrev i139:Shape:=⟨[dS 0 [bC,bM,bM,bC],dS 1 [bC,bM,bM,bC]],[],10⟩
abbrev TP:Shape:=⟨[aq 4],[],10⟩
noncomputable def f139(a:i139.L):Option TP.L:=
(f110 ((a.1.1.1,a.1.2.1.1,()),())).bind fun b=>
 some ((b.1.1,()),())
noncomputable def Vp:bb:=bf az Tryz.f139 i139 TP [] f139
theorem z139:a_ ae 139 Vp:=bh amo Tryz.func139 (by kernel_rfl) aB (fun y=>by kernel_rfl) fun a=>by kernel_rfl
noncomputable abbrev ahw:bD:=[(139,Vp)]
theorem RZ:bg ae (bu az ahw):=bB ⟨z139,⟨⟩⟩
abbrev yK:Shape:=⟨[a7 0 .entry,(2,.am (.fn 139 [])),bj 4 4 0,aq 6,aQ 7,aq 8,aq 9,aq 10],[bi 4 [bC,bM,bM,bC]],49⟩
abbrev D_:List bk:=[(.exit 0,⟨[a7 0 .entry,(2,.am (.fn 139 [])),bj 4 4 0,aq 6,aQ 7,aq 8,aq 9],[bi 4 [bC,bM,bM,bC]],49⟩)]
noncomputable def y0(y:yK.L):cy yK D_:=
 bif(decide (y.1.2.2.2.2.2.2.1<y.1.2.2.2.2.2.2.2.1)) then
(o_ .u64 (IntKind.u64.wrap (IntKind.i64.wrap (y.1.2.2.2.2.2.2.1+y.1.2.2.2.2.2.2.2.1))) (1:Int)).bind fun a=>
(bd y.1.1 (IntKind.i64.wrap a)).bind fun b=>
(f139 (((b.path,b.kind,b.mode,b.text,()),(y.2.1.1,y.2.1.2.1,y.2.1.2.2.1,y.2.1.2.2.2.1,()),()),())).bind fun c=>
 bif(decide (c.1.1<(0:Int))) then
 some (.inl ((y.1.1,(),(),y.1.2.2.2.1,y.1.2.2.2.2.1,y.1.2.2.2.2.2.1,(IntKind.i64.wrap ((IntKind.i64.wrap a)+(1:Int))),y.1.2.2.2.2.2.2.2.1,()),(y.2.1.1,y.2.1.2.1,y.2.1.2.2.1,y.2.1.2.2.2.1,()),()))
else
 some (.inl ((y.1.1,(),(),y.1.2.2.2.1,y.1.2.2.2.2.1,y.1.2.2.2.2.2.1,y.1.2.2.2.2.2.2.1,(IntKind.i64.wrap a),()),(y.2.1.1,y.2.1.2.1,y.2.1.2.2.1,y.2.1.2.2.2.1,()),()))
else
 some (.inr ((y.1.1,(),(),y.1.2.2.2.1,y.1.2.2.2.2.1,y.1.2.2.2.2.2.1,y.1.2.2.2.2.2.2.1,()),(y.2.1.1,y.2.1.2.1,y.2.1.2.2.1,y.2.1.2.2.2.1,()),()))
noncomputable def yU:yK.L->Option (aY D_):=b7 y0
theorem abE:bq ae (aH (codeOf Tryz.f138) 1 60) (bE yK D_ yU):=cE RZ (by kernel_rfl) aB fun y=>by kernel_rfl
abbrev Rn:Shape:=⟨[a7 0 .entry,dS 1 [bC,bM,bM,bC],(2,.am (.fn 139 []))],[],49⟩
abbrev QQ:Shape:=⟨[aq 6,aQ 7],[],49⟩
noncomputable def Bs(a:Rn.L):Option QQ.L:=
(yU ((a.1.1,(),(),(0:Int),false,(a.1.1.length:Int),(0:Int),(a.1.1.length:Int),()),(a.1.2.1.1,a.1.2.1.2.1,a.1.2.1.2.2.1,a.1.2.1.2.2.2.1,()),())).bind fun b=>
 bif(decide (b.1.2.2.2.2.2.2.1<b.1.2.2.2.2.2.1)) then
(bd b.1.1 b.1.2.2.2.2.2.2.1).bind fun c=>
(f139 (((c.path,c.kind,c.mode,c.text,()),(b.2.1.1,b.2.1.2.1,b.2.1.2.2.1,b.2.1.2.2.2.1,()),()),())).bind fun d=>
 some ((b.1.2.2.2.2.2.2.1,(d.1.1==(0:Int)),()),())
else
 some ((b.1.2.2.2.2.2.2.1,false,()),())
noncomputable def RR:bb:=bf az Tryz.f138 Rn QQ [] Bs
theorem af8:a_ ae 138 RR:=bh RZ Tryz.func138 (by kernel_rfl) (bN abE aB) (fun y=>by kernel_rfl) fun a=>by kernel_rfl
abbrev z1:Shape:=⟨[a7 0 .entry,a8 1,aq 4,aQ 5,aq 6],[],36⟩
abbrev s6:List bk:=[(.exit 0,⟨[a7 0 .entry,a8 1,aq 4,aQ 5,aq 6],[],36⟩)]
noncomputable def AB(y:z1.L):cy z1 s6:=
 bif(decide (y.1.2.2.2.2.1<(y.1.1.length:Int))) then
(bd y.1.1 y.1.2.2.2.2.1).bind fun a=>
 bif(Op.bytesLess a.path y.1.2.1) then
 some (.inl ((y.1.1,y.1.2.1,y.1.2.2.1,y.1.2.2.2.1,(IntKind.i64.wrap (y.1.2.2.2.2.1+(1:Int))),()),()))
else
 some (.inr ((y.1.1,y.1.2.1,y.1.2.2.1,y.1.2.2.2.1,y.1.2.2.2.2.1,()),()))
else
 some (.inr ((y.1.1,y.1.2.1,y.1.2.2.1,y.1.2.2.2.1,y.1.2.2.2.2.1,()),()))
noncomputable def Gr:z1.L->Option (aY s6):=b7 AB
theorem ae0:bq ae (aH (codeOf Tryz.f157) 1 28) (bE z1 s6 Gr):=cE g0 (by kernel_rfl) aB fun y=>by kernel_rfl
abbrev i157:Shape:=⟨[a7 0 .entry,a8 1],[],36⟩
abbrev TK:Shape:=⟨[aq 4,aQ 5],[],36⟩
noncomputable def f157(a:i157.L):Option TK.L:=
(Gr ((a.1.1,a.1.2.1,(0:Int),false,(0:Int),()),())).bind fun b=>
 bif(decide (b.1.2.2.2.2.1<(b.1.1.length:Int))) then
(bd b.1.1 b.1.2.2.2.2.1).bind fun c=>
 some ((b.1.2.2.2.2.1,(c.path==b.1.2.1),()),())
else
 some ((b.1.2.2.2.2.1,false,()),())
noncomputable def Cq:bb:=bf az Tryz.f157 i157 TK [] f157
theorem z157:a_ ae 157 Cq:=bh g0 Tryz.func157 (by kernel_rfl) (bN ae0 aB) (fun y=>by kernel_rfl) fun a=>by kernel_rfl
abbrev zF:Shape:=⟨[a8 0,(1,.am (.d (.int .u8))),aq 5],[],19⟩
abbrev Fz:List bk:=[(.ret,⟨[aq 4],[],19⟩),(.exit 0,⟨[],[],19⟩)]
noncomputable def GC(y:zF.L):cy zF Fz:=
 bif(decide (y.1.2.2.1>=(0:Int))) then
(bd y.1.1 y.1.2.2.1).bind fun a=>
 bif((a.toNat:Int)==y.1.2.1) then
 some (.inr (.inl ((y.1.2.2.1,()),())))
else
 some (.inl ((y.1.1,y.1.2.1,(IntKind.i64.wrap (y.1.2.2.1-(1:Int))),()),()))
else
 some (.inr (.inr ((),())))
noncomputable def Gb:zF.L->Option (aY Fz):=b7 GC
theorem aeE:bq ae (aH (codeOf Tryz.f268) 1 26) (bE zF Fz Gb):=cE g0 (by kernel_rfl) aB fun y=>by kernel_rfl
abbrev i268:Shape:=⟨[a8 0,(1,.am (.d (.int .u8)))],[],19⟩
abbrev Tc:Shape:=⟨[aq 4],[],19⟩
noncomputable def f268(a:i268.L):Option Tc.L:=
(Gb ((a.1.1,a.1.2.1,(IntKind.i64.wrap ((a.1.1.length:Int)-(1:Int))),()),())).bind fun b=>
(match b with
|.inl c=>
 some ((c.1.1,()),())
|.inr d=>
 some ((((-1):Int),()),()))
noncomputable def UV:bb:=bf az Tryz.f268 i268 Tc [] f268
theorem ajc:a_ ae 268 UV:=bh g0 Tryz.func268 (by kernel_rfl) (bN aeE aB) (fun y=>by kernel_rfl) fun a=>by kernel_rfl
noncomputable abbrev alw:bD:=[(268,UV)]
theorem ame:bg ae (bu az alw):=bB ⟨ajc,⟨⟩⟩
abbrev i230:Shape:=⟨[a8 0,(1,.am (.d (.int .u8)))],[],8⟩
abbrev To:Shape:=⟨[aq 4],[],8⟩
noncomputable def f230(a:i230.L):Option To.L:=
(f268 ((a.1.1,a.1.2.1,()),())).bind fun b=>
 some ((b.1.1,()),())
noncomputable def U4:bb:=bf az Tryz.f230 i230 To [] f230
theorem ajk:a_ ae 230 U4:=bh ame Tryz.func230 (by kernel_rfl) aB (fun y=>by kernel_rfl) fun a=>by kernel_rfl
noncomputable abbrev alD:bD:=[(193,I7),(230,U4)]
theorem amj:bg ae (bu az alD):=bB ⟨z193,ajk,⟨⟩⟩
abbrev i195:Shape:=⟨[a8 0],[],11⟩
abbrev Tx:Shape:=⟨[a8 2],[],11⟩
noncomputable def f195(a:i195.L):Option Tx.L:=
(f193 ((a.1.1,()),())).bind fun b=>
 bif(!b.2.1.1) then
 some ((([]:J),()),())
else
(f230 ((a.1.1,(47:Int),()),())).bind fun c=>
(cA a.1.1 (0:Int) (hJ c.1.1 (0:Int))).bind fun d=>
 some ((d,()),())
noncomputable def U':bb:=bf az Tryz.f195 i195 Tx [] f195
theorem ajp:a_ ae 195 U':=bh amj Tryz.func195 (by kernel_rfl) aB (fun y=>by kernel_rfl) fun a=>by kernel_rfl
noncomputable abbrev alB:bD:=[(157,Cq)]
theorem amh:bg ae (bu az alB):=bB ⟨z157,⟨⟩⟩
abbrev i211:Shape:=⟨[a7 0 .entry,a8 1],[],26⟩
abbrev Tv:Shape:=⟨[aQ 4],[],26⟩
noncomputable def f211(a:i211.L):Option Tv.L:=
(f157 ((a.1.1,a.1.2.1,()),())).bind fun b=>
 bif(!(a.1.2.1==([]:J))) then
 bif b.1.2.1 then
(bd a.1.1 b.1.1).bind fun c=>
 some (((c.kind==(1:Int)),()),())
else
 some ((false,()),())
else
 some ((true,()),())
noncomputable def I5:bb:=bf az Tryz.f211 i211 Tv [] f211
theorem SR:a_ ae 211 I5:=bh amh Tryz.func211 (by kernel_rfl) aB (fun y=>by kernel_rfl) fun a=>by kernel_rfl
abbrev zP:Shape:=⟨[a8 0,aq 3],[],18⟩
abbrev FI:List bk:=[(.ret,⟨[a8 2],[],18⟩),(.exit 0,⟨[],[],18⟩)]
noncomputable def GG(y:zP.L):cy zP FI:=
 bif(decide (y.1.2.1>=(0:Int))) then
(bd y.1.1 y.1.2.1).bind fun a=>
 bif((a.toNat:Int)==(47:Int)) then
(cA y.1.1 (0:Int) y.1.2.1).bind fun b=>
 some (.inr (.inl ((b,()),())))
else
 some (.inl ((y.1.1,(IntKind.i64.wrap (y.1.2.1-(1:Int))),()),()))
else
 some (.inr (.inr ((),())))
noncomputable def Gi:zP.L->Option (aY FI):=b7 GG
theorem aeP:bq ae (aH (codeOf Tryz.f212) 1 26) (bE zP FI Gi):=cE g0 (by kernel_rfl) aB fun y=>by kernel_rfl
abbrev i212:Shape:=⟨[a8 0],[],18⟩
abbrev Tu:Shape:=⟨[a8 2],[],18⟩
noncomputable def f212(a:i212.L):Option Tu.L:=
(Gi ((a.1.1,(IntKind.i64.wrap ((a.1.1.length:Int)-(1:Int))),()),())).bind fun b=>
(match b with
|.inl c=>
 some ((c.1.1,()),())
|.inr d=>
 some ((([]:J),()),()))
noncomputable def I4:bb:=bf az Tryz.f212 i212 Tu [] f212
theorem z212:a_ ae 212 I4:=bh g0 Tryz.func212 (by kernel_rfl) (bN aeP aB) (fun y=>by kernel_rfl) fun a=>by kernel_rfl
noncomputable abbrev apX:bD:=[(138,RR)]
theorem aqn:bg ae (bu az apX):=bB ⟨af8,⟨⟩⟩
abbrev i87:Shape:=⟨[a7 0 .entry,a8 1],[],12⟩
abbrev Wg:Shape:=⟨[aq 4,aQ 5],[],12⟩
noncomputable def f87(a:i87.L):Option Wg.L:=
(Bs ((a.1.1,(a.1.2.1,(0:Int),(0:Int),([]:J),()),(),()),())).bind fun b=>
 some ((b.1.1,b.1.2.1,()),())
noncomputable def C':bb:=bf az Tryz.f87 i87 Wg [] f87
theorem z87:a_ ae 87 C':=bh aqn Tryz.func87 (by kernel_rfl) aB (fun y=>by kernel_rfl) fun a=>by kernel_rfl
theorem ku:∀a:J,Op.bytesLess a a=false:=by
 intro a;induction a with
 |nil=>rfl
 |cons b r ih=>simp[Op.bytesLess,ih]
theorem q8:∀a b c:J,Op.bytesLess a b=true->Op.bytesLess b c=true->Op.bytesLess a c=true:=by
 intro a;induction a with
 |nil=>intro b c h1 h2;cases c with
  |nil=>cases b<;>simp[Op.bytesLess] at h2
  |cons z c=>rfl
 |cons x a ih=>
  intro b c h1 h2;cases b with
  |nil=>simp[Op.bytesLess] at h1
  |cons y b=>
   cases c with
   |nil=>simp[Op.bytesLess] at h2
   |cons z c=>
    simp only[Op.bytesLess,Bool.or_eq_true,decide_eq_true_eq,Bool.and_eq_true,beq_iff_eq] at h1 h2 ⊢;rcases h1 with h1|⟨rfl,h1⟩
    ·rcases h2 with h2|⟨rfl,h2⟩
     ·exact .inl (UInt8.lt_trans h1 h2)
     ·exact .inl h1
    ·rcases h2 with h2|⟨rfl,h2⟩
     ·exact .inl h2
     ·exact .inr ⟨rfl,ih b c h1 h2⟩
theorem Hv:∀a b:J,Op.bytesLess a b=false->(a==b)=false->Op.bytesLess b a=true:=by
 intro a;induction a with
 |nil=>intro b h1 h2;cases b with
  |nil=>simp at h2
  |cons y b=>simp[Op.bytesLess] at h1
 |cons x a ih=>
  intro b h1 h2;cases b with
  |nil=>rfl
  |cons y b=>
   simp only[Op.bytesLess,Bool.or_eq_false_iff,decide_eq_false_iff_not,Bool.and_eq_false_iff,beq_eq_false_iff_ne,ne_eq] at h1;simp only[Op.bytesLess,Bool.or_eq_true,decide_eq_true_eq,Bool.and_eq_true,beq_iff_eq];by_cases JN:x=y
   ·subst JN;refine .inr ⟨rfl,ih b ?_ ?_⟩
    ·rcases h1.2 with h|h
     ·exact absurd rfl h
     ·exact h
    ·cases h:(a==b) with
     |false=>rfl
     |true=>rw[eq_of_beq h] at h2;simp at h2
   ·exact .inl (by
     have:=h1.1;rcases UInt8.lt_or_lt_of_ne (fun h=>JN h) with h|h
     ·exact absurd h this
     ·exact h)
theorem afM{a b:J}(h:Op.bytesLess a b=true):Op.bytesLess b a=false:=by
 cases h2:Op.bytesLess b a with
 |false=>rfl
 |true=>have:=q8 a b a h h2;rw[ku] at this;cases this
theorem SH{a b:J}(h:Op.bytesLess a b=true):(a==b)=false:=by
 cases h2:(a==b) with
 |false=>rfl
 |true=>rw[eq_of_beq h2,ku] at h;cases h
theorem afL:∀(s:J) (i:Nat),i<s.length->Op.bytesLess (s.take i) s=true:=by
 intro s;induction s with
 |nil=>intro i h;simp at h
 |cons b r ih=>
  intro i h;cases i with
  |zero=>rfl
  |succ i=>simp only[List.take_succ_cons,Op.bytesLess];simp[ih i (by simpa using h)]
def lS(c:UInt8)(s:J):Nat->Option Nat
 |0=>none
 |n+1=>match s[n]? with
  |some b=>bif(b.toNat:Int)==(c.toNat:Int) then some n else lS c s n
  |none=>none
theorem LK{c:UInt8}{s:J}:∀{n i:Nat},lS c s n=some i->i<n/\i<s.length:=by
 intro n;induction n with
 |zero=>intro i h;cases h
 |succ n ih=>
  intro i h;simp only[lS] at h;split at h
  ·rename_i b hb;cases hc:((b.toNat:Int)==(c.toNat:Int)) with
   |true=>rw[hc] at h;cases h;exact⟨Nat.lt_succ_self _,ct hb⟩
   |false=>rw[hc] at h;have:=ih h;omega
  ·cases h
def iy(s:J):J:=match lS 47 s s.length with
 |some i=>s.take i
 |none=>[]
theorem acP{s:J}(h:(iy s==[])=false):Op.bytesLess (iy s) s=true:=by
 unfold iy at h ⊢;split
 ·rename_i i hi;exact afL s i (LK hi).2
 ·rename_i hi;rw[hi] at h;cases h
theorem Qf(a)(M:cq a.1.1.length):f212 a=some ((iy a.1.1,()),()):=by
 obtain⟨⟨s,u⟩,bv⟩:=a;have M:s.length<=2097152:=M;have key:∀n,n<=s.length->Gi ((s,((n:Int)-1,())),())=some (match lS 47 s n with|some i=>.inl ((s.take i,()),())|none=>.inr ((),())):=by
  intro n;induction n with
  |zero=>intro _;exact eL (by rfl)
  |succ n ih=>
   intro hn;have e:((n+1:Nat):Int)-1=(n:Int):=by omega
   obtain⟨b,hb⟩:∃b,s[n]? =some b:=⟨s[n],List.getElem?_eq_getElem hn⟩;have h0:decide ((n:Int)>=0)=true:=by simp
   rw[e];simp only[lS,hb];cases hc:((b.toNat:Int)==((47:UInt8).toNat:Int)) with
   |true=>
    refine eL ?_
    simp only[GG,h0,cond_true,cc,hb,Option.bind_some];rw[show((b.toNat:Int)==47)=true from hc,oO (by omega)]
    rfl
   |false=>
    refine(gE ?_).trans (ih (by omega))
    simp only[GG,h0,cond_true,cc,hb,Option.bind_some];rw[show((b.toNat:Int)==47)=false from hc,ed (by omega) (by omega)]
    rfl
 have hw:IntKind.i64.wrap ((s.length:Int)-1)=(s.length:Int)-1:=ed (by omega) (by omega)
 simp only[f212,hw,key s.length (Nat.le_refl _),Option.bind_some,iy];cases lS 47 s s.length<;>rfl
theorem ZP(a)(M:cq a.1.1.length)(apb:a.1.2.1=47):f268 a=some (((match lS 47 a.1.1 a.1.1.length with|some i=>(i:Int)|none=>-1),()),()):=by
 obtain⟨⟨s,c,u⟩,bv⟩:=a;obtain rfl:c=47:=apb;have M:s.length<=2097152:=M;have key:∀n,n<=s.length->Gb ((s,((47:Int),((n:Int)-1,()))),())=some (match lS 47 s n with|some i=>.inl (((i:Int),()),())|none=>.inr ((),())):=by
  intro n;induction n with
  |zero=>intro _;exact eL (by rfl)
  |succ n ih=>
   intro hn;have e:((n+1:Nat):Int)-1=(n:Int):=by omega
   obtain⟨b,hb⟩:∃b,s[n]? =some b:=⟨s[n],List.getElem?_eq_getElem hn⟩;have h0:decide ((n:Int)>=0)=true:=by simp
   rw[e];simp only[lS,hb];cases hc:((b.toNat:Int)==((47:UInt8).toNat:Int)) with
   |true=>
    refine eL ?_
    simp only[GC,h0,cond_true,cc,hb,Option.bind_some];rw[show((b.toNat:Int)==47)=true from hc]
    rfl
   |false=>
    refine(gE ?_).trans (ih (by omega))
    simp only[GC,h0,cond_true,cc,hb,Option.bind_some];rw[show((b.toNat:Int)==47)=false from hc,ed (by omega) (by omega)]
    rfl
 have hw:IntKind.i64.wrap ((s.length:Int)-1)=(s.length:Int)-1:=ed (by omega) (by omega)
 simp only[f268,hw,key s.length (Nat.le_refl _),Option.bind_some];cases lS 47 s s.length<;>rfl
theorem acK(a)(M:cq a.1.1.length):f195 a=some (((bif jr a.1.1 then iy a.1.1 else []),()),()):=by
 obtain⟨⟨s,u⟩,bv⟩:=a;have M:s.length<=2097152:=M;have e1:=EN ((s,()),()) M;have e2:=ZP ((s,((47:Int),())),()) M rfl;simp only[f195,e1,Option.bind_some,f230,e2];cases jr s with
 |false=>rfl
 |true=>
  simp only[Bool.not_true,cond_false,cond_true];unfold iy;cases hl:lS 47 s s.length with
  |none=>
   have:hJ (-1) 0=0:=by decide
   simp only[this];have:=oO (xs:=s) (b:=0) (Nat.zero_le _);have this:cA s 0 0=some (s.take 0):=this;rw[this];rfl
  |some i=>
   have hi:=(LK hl).2;have:hJ (i:Int) 0=(i:Int):=by unfold hJ;rw[if_neg (by omega)]
   simp only[this];rw[oO (by omega)];rfl
def bU(t:List aR)(p:J):Nat:=(t.takeWhile fun e=>Op.bytesLess e.path p).length
def gq(t:List aR)(p:J):Bool:=match t[bU t p]? with
 |some e=>e.path==p
 |none=>false
def iO(t:List aR)(p:J):Bool:=p==[]||match t[bU t p]? with
 |some e=>e.path==p&&e.kind==1
 |none=>false
theorem ra(t:List aR)(p:J):bU t p<=t.length:=(List.takeWhile_prefix _).length_le
theorem GZ(a)(M:cq a.1.1.length):f157 a=some (((bU a.1.1 a.1.2.1:Int),(gq a.1.1 a.1.2.1,())),()):=by
 obtain⟨⟨t,p,u⟩,bv⟩:=a;have M:t.length<=2097152:=M;have key:Gr ((t,(p,((0:Int),(false,((0:Int),()))))),())=_:=Ek AB t (fun i (_:Unit)=>((t,(p,((0:Int),(false,((i:Int),()))))),()))
  (fun i e _=>some (bif Op.bytesLess e.path p then .inl () else .inr ((((t,(p,((0:Int),(false,((i:Int),()))))),())):aY s6))) (fun _=>((t,(p,((0:Int),(false,((t.length:Int),()))))),())) (fun i e s he=>?_) (fun s=>?_) ()
 ·have fold:∀(r:List aR) (k:Nat),k+r.length=t.length->e3 (fun i (e:aR) (_:Unit)=>some (bif Op.bytesLess e.path p then .inl () else .inr ((((t,(p,((0:Int),(false,((i:Int),()))))),())):aY s6))) (fun _=>(((t,(p,((0:Int),(false,((t.length:Int),()))))),()):aY s6)) k r ()=
    some ((t,(p,((0:Int),(false,(((k+(r.takeWhile fun e=>Op.bytesLess e.path p).length:Nat):Int),()))))),()):=by
   intro r;induction r with
   |nil=>intro k af;simp only[e3,List.takeWhile_nil,List.length_nil,Nat.add_zero] at af ⊢;rw[af]
   |cons e r ih=>
    intro k af;simp only[e3,List.takeWhile_cons];cases hl:Op.bytesLess e.path p with
    |false=>rfl
    |true=>
     simp only[cond_true,if_true,List.length_cons];rw[ih (k+1) (by simp only[List.length_cons] at af;omega)]
     have:k+1+(r.takeWhile fun e=>Op.bytesLess e.path p).length=k+((r.takeWhile fun e=>Op.bytesLess e.path p).length+1):=by omega
     rw[this]
  rw[fold t 0 (Nat.zero_add _),Nat.zero_add] at key;have af:(t.takeWhile fun e=>Op.bytesLess e.path p).length=bU t p:=rfl
  rw[af] at key;simp only[f157,key,Option.bind_some,gq,cc];cases aA:t[bU t p]? with
  |none=>
   have:=List.getElem?_eq_none_iff.1 aA;have:decide ((bU t p:Int)<(t.length:Int))=false:=by simp only[decide_eq_false_iff_not];omega
   rw[this];rfl
  |some e=>rw[cF (ct aA)];rfl
 ·have hi:=ct he;have hw:aM i:=by unfold aM;omega
  simp only[AB,cF hi,cond_true,cc,he,Option.bind_some,cl hw];cases Op.bytesLess e.path p<;>rfl
 ·simp only[AB,dQ,cond_false]
theorem O6(a)(M:cq a.1.1.length):f211 a=some ((iO a.1.1 a.1.2.1,()),()):=by
 obtain⟨⟨t,p,u⟩,bv⟩:=a;have e1:=GZ ((t,(p,())),()) M;simp only[f211,e1,Option.bind_some,iO,gq,cc];cases (p==[]) with
 |true=>rfl
 |false=>
  cases aA:t[bU t p]? with
  |none=>rfl
  |some e=>simp only[Bool.not_false,cond_true,Option.bind_some,Bool.false_or];cases (e.path==p)<;>rfl
def ep(t:List aR):Prop:=t.Pairwise fun a b=>Op.bytesLess a.path b.path=true
theorem ep.take{t:List aR}(h:ep t)(i:Nat):ep (t.take i):=List.Pairwise.sublist (List.take_sublist i t) h
theorem kl:∀{t:List aR} {p:J},ep t->∀(h:Nat) (e:aR),t[h]? =some e->Op.bytesLess e.path p=decide (h<bU t p):=by
 intro t p;induction t with
 |nil=>intro _ h e he;simp at he
 |cons x t ih=>
  intro aT h e he;have pw:=List.pairwise_cons.1 aT;unfold bU;rw[List.takeWhile_cons];cases hx:Op.bytesLess x.path p with
  |true=>
   simp only[if_true,List.length_cons];cases h with
   |zero=>simp only[List.getElem?_cons_zero,Option.some.injEq] at he;subst he;rw[hx];simp
   |succ h=>
    simp only[List.getElem?_cons_succ] at he;rw[ih pw.2 h e he];unfold bU;congr 1;apply propext;omega
  |false=>
   have:(decide (h<(if false=true then x::t.takeWhile (fun e=>Op.bytesLess e.path p) else []).length))=false:=by simp
   rw[this];cases h with
   |zero=>simp only[List.getElem?_cons_zero,Option.some.injEq] at he;subst he;exact hx
   |succ h=>
    simp only[List.getElem?_cons_succ] at he;have h2:=pw.1 e (List.mem_of_getElem? he);cases ab:Op.bytesLess e.path p with
    |false=>rfl
    |true=>have:=q8 _ _ _ h2 ab;rw[hx] at this;cases this
def qs(a b:J):Int:=bif Op.bytesLess a b then-1 else bif a==b then 0 else 1
theorem EL(a):f139 a=some ((qs a.1.1.1 a.1.2.1.1,()),()):=by
 obtain⟨⟨⟨p,u7⟩,⟨⟨q,lB⟩,mu⟩⟩,XV⟩:=a;have h1:(p==p)=true:=by simp
 have h2:(q==q)=true:=by simp
 simp only[f139,f110,f175,Option.bind_some,h1,h2,Bool.not_true,cond_false,qs];cases Op.bytesLess p q<;>cases (p==q)<;>rfl
theorem zu(a b:J):decide (qs a b<0)=Op.bytesLess a b:=by
 unfold qs;cases Op.bytesLess a b<;>cases (a==b)<;>rfl
theorem NT(a b:J):(qs a b==0)=(a==b):=by
 unfold qs;cases h:Op.bytesLess a b with
 |true=>rw[SH h];rfl
 |false=>cases (a==b)<;>rfl
theorem S1{n:Nat}(h:n<=1099511627776):o_ .u64 (IntKind.u64.wrap (IntKind.i64.wrap (n:Int))) 1=some (((n/2:Nat)):Int):=by
 rw[ed (by omega) (by omega)]
 have:IntKind.u64.wrap (n:Int)=(n:Int):=by
  simp[IntKind.wrap,IntKind.bits,IntKind.signed];omega
 rw[this];unfold o_;rw[if_neg (by decide)]
 congr 1
 show Int.fdiv (n:Int) 2=_;rw[Int.fdiv_eq_ediv_of_nonneg _ (by decide)]
 omega
theorem DA(a)(M:cq a.1.1.length)(aT:ep a.1.1):f87 a=some (((bU a.1.1 a.1.2.1:Int),(gq a.1.1 a.1.2.1,())),()):=by
 obtain⟨⟨t,p,u⟩,bv⟩:=a;have M:t.length<=2097152:=M;have K1:=ra t p;have key:∀d i j:Nat,j-i=d->i<=bU t p->bU t p<=j->j<=t.length->
   yU ((t,((),((),((0:Int),(false,((t.length:Int),((i:Int),((j:Int),())))))))),((p,((0:Int),((0:Int),(([]:J),())))),()))=
    some (((t,((),((),((0:Int),(false,((t.length:Int),((bU t p:Int),()))))))),((p,((0:Int),((0:Int),(([]:J),())))),()))):=by
  intro d;induction d using Nat.strongRecOn with
  |_ d ih=>
   intro i j Z hi hj hl;by_cases hij:i<j
   ·have bW:(i+j)/2<t.length:=by omega
    obtain⟨e,he⟩:∃e,t[(i+j)/2]? =some e:=⟨t[(i+j)/2],List.getElem?_eq_getElem bW⟩;have r_:o_ .u64 (IntKind.u64.wrap (IntKind.i64.wrap ((i:Int)+(j:Int)))) 1=some ((((i+j)/2:Nat)):Int):=by
     rw[<-S1 (n:=i+j) (by omega)];rw[Int.natCast_add]
    have xu:IntKind.i64.wrap (((i+j)/2:Nat):Int)=(((i+j)/2:Nat):Int):=ed (by omega) (by omega)
    have lr:=kl (t:=t) (p:=p) aT ((i+j)/2) e he;cases hb:Op.bytesLess e.path p with
    |true=>
     rw[hb] at lr;have a':(i+j)/2<bU t p:=by simpa using lr.symm
     refine(gE ?_).trans (ih (j-((i+j)/2+1)) (by omega) ((i+j)/2+1) j rfl (by omega) hj hl)
     simp only[y0,cF hij,cond_true,r_,xu,cc,he,Option.bind_some,EL,zu,hb,cl (i:=(i+j)/2) (by unfold aM;omega)]
    |false=>
     rw[hb] at lr;have uX:¬(i+j)/2<bU t p:=by simpa using lr.symm
     refine(gE ?_).trans (ih ((i+j)/2-i) (by omega) i ((i+j)/2) rfl hi (by omega) (by omega))
     simp only[y0,cF hij,cond_true,r_,xu,cc,he,Option.bind_some,EL,zu,hb,cond_false]
   ·have iU:i=bU t p:=by omega
    have a':decide ((i:Int)<(j:Int))=false:=by simp only[decide_eq_false_iff_not];omega
    refine eL ?_
    simp only[y0,a',cond_false];rw[iU]
 have mx:yU ((t,((),((),((0:Int),(false,((t.length:Int),((0:Int),((t.length:Int),())))))))),((p,((0:Int),((0:Int),(([]:J),())))),()))=_:=key t.length 0 t.length (Nat.sub_zero _) (Nat.zero_le _) K1 (Nat.le_refl _);have O:Bs ((t,((p,((0:Int),((0:Int),(([]:J),())))),((),()))),())=some (((bU t p:Int),(gq t p,())),()):=by
  simp only[Bs,mx,Option.bind_some,gq,cc,EL,NT];cases aA:t[bU t p]? with
  |none=>
   have:=List.getElem?_eq_none_iff.1 aA;have:decide ((bU t p:Int)<(t.length:Int))=false:=by simp only[decide_eq_false_iff_not];omega
   rw[this];rfl
  |some e=>rw[cF (ct aA)];rfl
 simp only[f87,O,Option.bind_some]
noncomputable abbrev alR:bD:=[(87,C'),(195,U')]
theorem amp:bg ae (bu az alR):=bB ⟨z87,ajp,⟨⟩⟩
abbrev i137:Shape:=⟨[a7 0 .entry,a8 1],[],27⟩
abbrev TQ:Shape:=⟨[aQ 4],[],27⟩
noncomputable def f137(a:i137.L):Option TQ.L:=
(f195 ((a.1.2.1,()),())).bind fun b=>
 bif(b.1.1==([]:J)) then
 some ((true,()),())
else
(f87 ((a.1.1,b.1.1,()),())).bind fun c=>
 bif c.1.2.1 then
(bd a.1.1 c.1.1).bind fun d=>
 some (((d.kind==(1:Int)),()),())
else
 some ((false,()),())
noncomputable def Vq:bb:=bf az Tryz.f137 i137 TQ [] f137
theorem ajB:a_ ae 137 Vq:=bh amp Tryz.func137 (by kernel_rfl) aB (fun y=>by kernel_rfl) fun a=>by kernel_rfl
noncomputable abbrev alN:bD:=[(210,I6),(211,I5),(212,I4)]
theorem Cu:bg ae (bu az alN):=bB ⟨z210,SR,z212,⟨⟩⟩
abbrev OH:Shape:=⟨[a7 0 .entry,aq 3],[],53⟩
abbrev Oo:List bk:=[(.norm,⟨[a7 0 .entry,aq 3,a7 11 .entry,aq 12,(13,.am (.eH [.str,.int .i64,.int .i64,.str] 0)),dS 14 [bC,bM,bM,bC],aQ 15,aQ 16,aQ 17,aQ 34],[],53⟩)]
noncomputable def Ff(y:OH.L):Option (aY Oo):=
(bd y.1.1 y.1.2.1).bind fun a=>
(f210 (((a.path,a.kind,a.mode,a.text,()),()),())).bind fun b=>
 bif(!b.1.1) then
 some ((y.1.1,y.1.2.1,y.1.1,y.1.2.1,(a.path,a.kind,a.mode,a.text,()),(a.path,a.kind,a.mode,a.text,()),b.1.1,(!b.1.1),true,true,()),())
else
 bif(decide (y.1.2.1>(0:Int))) then
(bd y.1.1 (IntKind.i64.wrap (y.1.2.1-(1:Int)))).bind fun c=>
(bd y.1.1 y.1.2.1).bind fun d=>
 some ((y.1.1,y.1.2.1,y.1.1,y.1.2.1,(a.path,a.kind,a.mode,a.text,()),(a.path,a.kind,a.mode,a.text,()),b.1.1,(!b.1.1),false,(!(Op.bytesLess c.path d.path)),()),())
else
 some ((y.1.1,y.1.2.1,y.1.1,y.1.2.1,(a.path,a.kind,a.mode,a.text,()),(a.path,a.kind,a.mode,a.text,()),b.1.1,(!b.1.1),false,false,()),())
theorem adp:bq ae (aH (dn (aH (codeOf Tryz.f158) 1 26)) 52 840) (bE OH Oo Ff):=dI Cu (by kernel_rfl) aB fun y=>by kernel_rfl
abbrev zZ:Shape:=⟨[a7 0 .entry,aq 3],[],53⟩
abbrev FR:List bk:=[(.ret,⟨[aQ 2],[],53⟩),(.exit 0,⟨[a7 0 .entry],[],53⟩)]
noncomputable def AA(y:zZ.L):cy zZ FR:=
 bif(decide (y.1.2.1<(y.1.1.length:Int))) then
(Ff ((y.1.1,y.1.2.1,()),())).bind fun a=>
 bif a.1.2.2.2.2.2.2.2.2.2.1 then
 some (.inr (.inl ((false,()),())))
else
 some (.inl ((a.1.1,(IntKind.i64.wrap (a.1.2.1+(1:Int))),()),()))
else
 some (.inr (.inr ((y.1.1,()),())))
noncomputable def Gq:zZ.L->Option (aY FR):=b7 AA
theorem aeZ:bq ae (aH (codeOf Tryz.f158) 1 26) (bE zZ FR Gq):=cE Cu (by kernel_rfl) (bN adp aB) fun y=>by kernel_rfl
abbrev zY:Shape:=⟨[a7 0 .entry,aq 4],[],53⟩
abbrev FQ:List bk:=[(.ret,⟨[aQ 2],[],53⟩),(.exit 2,⟨[a7 0 .entry],[],53⟩)]
noncomputable def Az(y:zY.L):cy zY FQ:=
 bif(decide (y.1.2.1<(y.1.1.length:Int))) then
(bd y.1.1 y.1.2.1).bind fun a=>
(f212 ((a.path,()),())).bind fun b=>
(f211 ((y.1.1,b.1.1,()),())).bind fun c=>
 bif(!c.1.1) then
 some (.inr (.inl ((false,()),())))
else
 some (.inl ((y.1.1,(IntKind.i64.wrap (y.1.2.1+(1:Int))),()),()))
else
 some (.inr (.inr ((y.1.1,()),())))
noncomputable def Gp:zY.L->Option (aY FQ):=b7 Az
theorem aeY:bq ae (aH (codeOf Tryz.f158) 1 58) (bE zY FQ Gp):=cE Cu (by kernel_rfl) aB fun y=>by kernel_rfl
abbrev i158:Shape:=⟨[a7 0 .entry],[],53⟩
abbrev TJ:Shape:=⟨[aQ 2],[],53⟩
noncomputable def f158(a:i158.L):Option TJ.L:=
(Gq ((a.1.1,(0:Int),()),())).bind fun b=>
(match b with
|.inl c=>
 some ((c.1.1,()),())
|.inr d=>
(Gp ((d.1.1,(0:Int),()),())).bind fun e=>
(match e with
|.inl f=>
 some ((f.1.1,()),())
|.inr g=>
 some (((decide ((g.1.1.length:Int)<=(16:Int))),()),())))
noncomputable def Cp:bb:=bf az Tryz.f158 i158 TJ [] f158
theorem H5:a_ ae 158 Cp:=bh Cu Tryz.func158 (by kernel_rfl) (bN aeZ (bN aeY aB)) (fun y=>by kernel_rfl) fun a=>by kernel_rfl
noncomputable abbrev apY:bD:=[(136,Vr),(137,Vq)]
theorem KL:bg ae (bu az apY):=bB ⟨ajC,ajB,⟨⟩⟩
abbrev Ox:Shape:=⟨[a7 0 .entry,aq 3,bj 4 4 0,a7 8 .entry,aq 9,aq 10],[bi 4 [bC,bM,bM,bC]],43⟩
abbrev Od:List bk:=[(.norm,⟨[a7 0 .entry,a7 8 .entry,aq 9,aq 10,dS 15 [bC,bM,bM,bC],aQ 16,aQ 17,aQ 18,aQ 32,aQ 33,aQ 41],[],43⟩)]
noncomputable def E'(y:Ox.L):Option (aY Od):=
(f136 (((y.2.1.1,y.2.1.2.1,y.2.1.2.2.1,y.2.1.2.2.2.1,()),()),())).bind fun a=>
 bif(!a.1.1) then
 some ((y.1.1,y.1.2.2.2.1,y.1.2.2.2.2.1,y.1.2.2.2.2.2.1,(y.2.1.1,y.2.1.2.1,y.2.1.2.2.1,y.2.1.2.2.2.1,()),a.1.1,(!a.1.1),true,true,true,true,()),())
else
 bif(decide (y.1.2.1>(0:Int))) then
(bd y.1.1 (IntKind.i64.wrap (y.1.2.1-(1:Int)))).bind fun b=>
 bif(!(Op.bytesLess b.path y.2.1.1)) then
 some ((y.1.1,y.1.2.2.2.1,y.1.2.2.2.2.1,y.1.2.2.2.2.2.1,(y.2.1.1,y.2.1.2.1,y.2.1.2.2.1,y.2.1.2.2.2.1,()),a.1.1,(!a.1.1),false,(!(Op.bytesLess b.path y.2.1.1)),true,true,()),())
else
(cA y.1.1 (0:Int) y.1.2.1).bind fun c=>
(f137 ((c,y.2.1.1,()),())).bind fun d=>
 some ((y.1.1,y.1.2.2.2.1,y.1.2.2.2.2.1,y.1.2.2.2.2.2.1,(y.2.1.1,y.2.1.2.1,y.2.1.2.2.1,y.2.1.2.2.2.1,()),a.1.1,(!a.1.1),false,(!(Op.bytesLess b.path y.2.1.1)),false,(!d.1.1),()),())
else
(cA y.1.1 (0:Int) y.1.2.1).bind fun e=>
(f137 ((e,y.2.1.1,()),())).bind fun f=>
 some ((y.1.1,y.1.2.2.2.1,y.1.2.2.2.2.1,y.1.2.2.2.2.2.1,(y.2.1.1,y.2.1.2.1,y.2.1.2.2.1,y.2.1.2.2.2.1,()),a.1.1,(!a.1.1),false,false,false,(!f.1.1),()),())
theorem ada:bq ae (aH (dn (aH (codeOf Tryz.f86) 1 58)) 116 7474) (bE Ox Od E'):=dI KL (by kernel_rfl) aB fun y=>by kernel_rfl
abbrev AW:Shape:=⟨[a7 0 .entry,a7 8 .entry,aq 9,aq 10],[],43⟩
abbrev v7:List bk:=[(.ret,⟨[aQ 2],[],43⟩),(.exit 0,⟨[],[],43⟩)]
noncomputable def Bf(y:AW.L):cy AW v7:=
 bif(decide (y.1.2.2.2.1<y.1.2.2.1)) then
(bd y.1.2.1 y.1.2.2.2.1).bind fun a=>
(E' ((y.1.1,y.1.2.2.2.1,(),y.1.2.1,y.1.2.2.1,y.1.2.2.2.1,()),(a.path,a.kind,a.mode,a.text,()),())).bind fun b=>
 bif b.1.2.2.2.2.2.2.2.2.2.2.1 then
 some (.inr (.inl ((false,()),())))
else
 some (.inl ((b.1.1,b.1.2.1,b.1.2.2.1,(IntKind.i64.wrap (b.1.2.2.2.1+(1:Int))),()),()))
else
 some (.inr (.inr ((),())))
noncomputable def Hf:AW.L->Option (aY v7):=b7 Bf
theorem agv:bq ae (aH (codeOf Tryz.f86) 1 58) (bE AW v7 Hf):=cE KL (by kernel_rfl) (bN ada aB) fun y=>by kernel_rfl
abbrev i86:Shape:=⟨[a7 0 .entry],[],43⟩
abbrev Wh:Shape:=⟨[aQ 2],[],43⟩
noncomputable def f86(a:i86.L):Option Wh.L:=
 bif(decide ((a.1.1.length:Int)>(16:Int))) then
 some ((false,()),())
else
(Hf ((a.1.1,a.1.1,(a.1.1.length:Int),(0:Int),()),())).bind fun b=>
(match b with
|.inl c=>
 some ((c.1.1,()),())
|.inr d=>
 some ((true,()),()))
noncomputable def Da:bb:=bf az Tryz.f86 i86 Wh [] f86
theorem Jr:a_ ae 86 Da:=bh KL Tryz.func86 (by kernel_rfl) (bN agv aB) (fun y=>by kernel_rfl) fun a=>by kernel_rfl
theorem DM{aK:Type}{ok lm:Nat->aK->Bool}:∀(xs:List aK) (j:Nat),(∀i x,xs[i]? =some x->ok (j+i) x=lm (j+i) x)->allI ok j xs=allI lm j xs:=by
 intro xs;induction xs with
 |nil=>intro j _;rfl
 |cons x r ih=>
  intro j h;simp only[allI];rw[show ok j x=lm j x from h 0 x rfl,ih (j+1) (fun i y al=>by have:=h (i+1) y (by simpa using al);rw[show j+(i+1)=j+1+i by omega] at this;exact this)]
theorem zv{aK:Type}{ok:Nat->aK->Bool}:∀(xs:List aK) (j:Nat),allI ok j xs=true->∀i x,xs[i]? =some x->ok (j+i) x=true:=by
 intro xs;induction xs with
 |nil=>intro j _ i x h;simp at h
 |cons y r ih=>
  intro j h i x hx;simp only[allI,Bool.and_eq_true] at h;cases i with
  |zero=>simp only[List.getElem?_cons_zero,Option.some.injEq] at hx;subst hx;exact h.1
  |succ i=>have:=ih (j+1) h.2 i x (by simpa using hx);rwa[show j+1+i=j+(i+1) by omega] at this
abbrev jD(t:List aR):Prop:=cq t.length/\∀e,e∈t->ol e
def tA(t:List aR)(i:Nat)(e:aR):Bool:=i==0||match t[i-1]? with
 |some q=>Op.bytesLess q.path e.path
 |none=>false
def iP(t:List aR)(i:Nat)(e:aR):Bool:=mN e&&tA t i e
def dR(t:List aR):Bool:=allI (iP t) 0 t&&t.all (fun e=>iO t (iy e.path))&&decide (t.length<=16)
theorem Cl(i:Nat):decide ((i:Int)>0)=!(i==0):=by
 cases i with
 |zero=>rfl
 |succ i=>simp
theorem EM(a)(M:jD a.1.1):f158 a=some ((dR a.1.1,()),()):=by
 obtain⟨⟨t,u⟩,bv⟩:=a;obtain⟨hl,he⟩:=M;have hl:t.length<=2097152:=hl;have key:Gq ((t,((0:Int),())),())=some (bif allI (iP t) 0 t then .inr ((t,()),()) else .inl ((false,()),())):=by
  refine gm AA t (fun i=>((t,((i:Int),())),())) _ _ _ (fun i x hx=>?_) ?_
  ·have hi:=ct hx;have hw:aM i:=by unfold aM;omega
   have hb:=he x (List.mem_of_getElem? hx);simp only[AA,cF hi,cond_true,Ff,cc,hx,Option.bind_some];rw[MX _ hb.1 hb.2];simp only[Option.bind_some,iP,Cl];cases mN x with
   |false=>rfl
   |true=>
    simp only[Bool.not_true,cond_false,Bool.true_and,tA];cases i with
    |zero=>simp only[beq_self_eq_true,Bool.not_true,cond_false,Option.bind_some,Bool.true_or,cond_true,cl hw]
    |succ i=>
     have h0:(i+1==0)=false:=rfl;have iU:i<t.length:=by omega
     obtain⟨q,ao⟩:∃q,t[i]? =some q:=⟨t[i],List.getElem?_eq_getElem iU⟩;simp only[h0,Bool.not_false,cond_true,vu (i:=i) (by unfold aM;omega),cc,ao,hx,Option.bind_some,Bool.false_or,Nat.add_sub_cancel]
     cases Op.bytesLess q.path x.path with
     |false=>rfl
     |true=>simp only[Bool.not_true,cond_false,cond_true,cl hw]
  ·simp only[AA,dQ,cond_false]
 have Ud:Gp ((t,((0:Int),())),())=some (bif allI (fun _ e=>iO t (iy e.path)) 0 t then .inr ((t,()),()) else .inl ((false,()),())):=by
  refine gm Az t (fun i=>((t,((i:Int),())),())) _ _ _ (fun i x hx=>?_) ?_
  ·have hi:=ct hx;have hw:aM i:=by unfold aM;omega
   have hb:=he x (List.mem_of_getElem? hx);simp only[Az,cF hi,cond_true,cc,hx,Option.bind_some];rw[Qf _ hb.1];simp only[Option.bind_some];rw[O6 _ hl];simp only[Option.bind_some,cl hw];cases iO t (iy x.path)<;>rfl
  ·simp only[Az,dQ,cond_false]
 rw[h4] at Ud;simp only[f158,key,Option.bind_some,dR];cases allI (iP t) 0 t with
 |false=>rfl
 |true=>
  simp only[cond_true,Ud,Option.bind_some,Bool.true_and];cases List.all t (fun e=>iO t (iy e.path)) with
  |false=>rfl
  |true=>have:=B_ t.length 16;simp only[cond_true,Bool.true_and];rw[<-this];rfl
theorem O1{t:List aR}{i:Nat}{e:aR}(he:t[i]? =some e)(h:ep (t.take i))(hl:tA t i e=true):ep (t.take (i+1)):=by
 rw[List.take_add_one,he];unfold ep;refine List.pairwise_append.2 ⟨h,by simp,?_⟩
 intro a aT b hb;have hb:b=e:=by simpa using hb
 subst hb;obtain⟨k,af⟩:=List.mem_iff_getElem?.1 aT;have aoy:k<i:=by
  have:=ct af;rw[List.length_take] at this;omega
 unfold tA at hl;have h0:(i==0)=false:=by simp;omega
 rw[h0,Bool.false_or] at hl;split at hl
 ·rename_i q ao;by_cases gR:k=i-1
  ·have:t[k]? =some a:=by rw[List.getElem?_take,if_pos aoy] at af;exact af
   rw[gR,ao] at this;cases this;exact hl
  ·have lq:(t.take i)[i-1]? =some q:=by rw[List.getElem?_take,if_pos (by omega)];exact ao
   have:=List.pairwise_iff_getElem.1 h k (i-1) (ct af) (ct lq) (by omega)
   rw[(List.getElem?_eq_some_iff.1 af).2,(List.getElem?_eq_some_iff.1 lq).2] at this;exact q8 _ _ _ this hl
 ·cases hl
theorem RE{t:List aR}(h:allI (iP t) 0 t=true):ep t:=by
 have:∀i,i<=t.length->ep (t.take i):=by
  intro i;induction i with
  |zero=>intro _;simp[ep]
  |succ i ih=>
   intro hi;have he:t[i]? =some t[i]:=List.getElem?_eq_getElem hi;have:=zv t 0 h i _ he;rw[Nat.zero_add] at this;simp only[iP,Bool.and_eq_true] at this;exact O1 he (ih (by omega)) this.2
 have:=this t.length (Nat.le_refl _);rwa[List.take_length] at this
theorem aav{t:List aR}{i:Nat}{e:aR}{p:J}(aT:ep t)(he:t[i]? =some e)(ag:Op.bytesLess p e.path=true):iO (t.take i) p=iO t p:=by
 have hi:=ct he;have h1:=kl (p:=p) aT i e he;rw[afM ag] at h1;have c7:bU t p<=i:=by
  have:¬i<bU t p:=by simpa using h1.symm
  omega
 have pe:bU (t.take i) p=bU t p:=by
  by_cases a':bU t p=i
  ·have hlen:(t.take i).length=i:=by rw[List.length_take];omega
   have h2:=ra (t.take i) p;rw[hlen] at h2;by_cases ab:bU (t.take i) p<i
   ·obtain⟨q,ao⟩:∃q,(t.take i)[bU (t.take i) p]? =some q:=⟨_,List.getElem?_eq_getElem (by rw[hlen];exact ab)⟩
    have aF:=kl (p:=p) (aT.take i) _ q ao;have lq:t[bU (t.take i) p]? =some q:=by rw[List.getElem?_take,if_pos ab] at ao;exact ao
    have bo:=kl (p:=p) aT _ q lq;rw[aF] at bo;have:decide (bU (t.take i) p<bU (t.take i) p)=false:=by simp
    rw[this] at bo;have:¬bU (t.take i) p<bU t p:=by simpa using bo.symm
    omega
   ·omega
  ·have a':bU t p<i:=by omega
   obtain⟨q,ao⟩:∃q,t[bU t p]? =some q:=⟨_,List.getElem?_eq_getElem (by omega)⟩
   have lq:(t.take i)[bU t p]? =some q:=by rw[List.getElem?_take,if_pos a'];exact ao
   have aF:=kl (p:=p) aT _ q ao;have bo:=kl (p:=p) (aT.take i) _ q lq;have eu:decide (bU t p<bU t p)=false:=by simp
   rw[aF,eu] at bo;have dk:¬bU t p<bU (t.take i) p:=by simpa using bo.symm
   by_cases hZ:bU (t.take i) p<bU t p
   ·obtain⟨r,hr⟩:∃r,t[bU (t.take i) p]? =some r:=⟨_,List.getElem?_eq_getElem (by omega)⟩
    have cn:(t.take i)[bU (t.take i) p]? =some r:=by rw[List.getElem?_take,if_pos (by omega)];exact hr
    have ov:=kl (p:=p) aT _ r hr;have my:=kl (p:=p) (aT.take i) _ r cn;have K6:decide (bU (t.take i) p<bU (t.take i) p)=false:=by simp
    rw[ov,K6] at my;have:¬bU (t.take i) p<bU t p:=by simpa using my
    omega
   ·omega
 unfold iO;rw[pe];congr 1
 by_cases a':bU t p<i
 ·rw[List.getElem?_take,if_pos a']
 ·have:bU t p=i:=by omega
  rw[this,he,List.getElem?_take,if_neg (by omega)]
  have:(e.path==p)=false:=by
   cases h:(e.path==p) with
   |false=>rfl
   |true=>rw[eq_of_beq h,ku] at ag;cases ag
  simp[this]
def lZ(t:List aR)(p:J):Bool:=iO t (bif jr p then iy p else [])
theorem YN(a)(M:cq a.1.1.length)(ag:cq a.1.2.1.length)(aT:ep a.1.1):f137 a=some ((lZ a.1.1 a.1.2.1,()),()):=by
 obtain⟨⟨t,p,u⟩,bv⟩:=a;have e1:=acK ((p,()),()) ag;have e2:=DA ((t,((bif jr p then iy p else []),())),()) M aT
 simp only[f137,e1,e2,Option.bind_some,lZ,iO,gq,cc];generalize(bif jr p then iy p else [])=up
 cases (up==[]) with
 |true=>rfl
 |false=>
  cases aA:t[bU t up]? with
  |none=>rfl
  |some e=>simp only[cond_false,cond_true,Option.bind_some,Bool.false_or];cases (e.path==up)<;>rfl
theorem aa5(t:List aR):dR t=(decide (t.length<=16)&&allI (fun i e=>iP t i e&&lZ (t.take i) e.path) 0 t):=by
 unfold dR;rw[Fm];cases h:allI (iP t) 0 t with
 |false=>simp
 |true=>
  have aT:=RE h;have:allI (fun i e=>lZ (t.take i) e.path) 0 t=t.all (fun e=>iO t (iy e.path)):=by
   rw[<-h4 _ 0 t];refine DM t 0 (fun i e he=>?_)
   rw[Nat.zero_add];have eE:=zv t 0 h i e he;rw[Nat.zero_add] at eE;have aom:jr e.path=true:=by
    unfold iP mN at eE;simp only[Bool.and_eq_true] at eE;exact eE.1.1
   unfold lZ;rw[aom,cond_true];cases hu:(iy e.path==[]) with
   |true=>unfold iO;rw[hu];rfl
   |false=>exact aav aT he (acP hu)
  rw[this];simp only[Bool.true_and];rw[Bool.and_comm]
theorem vw(a)(M:jD a.1.1):f86 a=some ((dR a.1.1,()),()):=by
 obtain⟨⟨t,u⟩,bv⟩:=a;obtain⟨hl,he⟩:=M;have hl:t.length<=2097152:=hl;have key:Hf ((t,(t,((t.length:Int),((0:Int),())))),())=some (bif allI (fun i e=>iP t i e&&lZ (t.take i) e.path) 0 t then .inr ((),()) else .inl ((false,()),())):=by
  have:=nB Bf t (fun i (_:Unit)=>((t,(t,((t.length:Int),((i:Int),())))),())) (fun i e _=>some (bif iP t i e&&lZ (t.take i) e.path then .inl () else .inr ((.inl ((false,()),())):aY v7))) (fun _=>(.inr ((),()):aY v7))
   (fun i _=>ep (t.take i)) () (by simp[ep]) (fun i x _ hx dj=>?_) (fun _ _=>?_)
  ·exact this.trans (DK (fun i e=>iP t i e&&lZ (t.take i) e.path) (fun _ s=>s) _ _ t 0 ())
  ·have hi:=ct hx;have hw:aM i:=by unfold aM;omega
   have hb:=he x (List.mem_of_getElem? hx);refine⟨?_,fun ar ah=>?_⟩
   ·have qx:=YN ((t.take i,(x.path,())),()) (show(t.take i).length<=2097152 by rw[List.length_take];omega) hb.1 dj
    simp only[Bf,cF hi,cond_true,cc,hx,Option.bind_some,E'];rw[aaX _ hb.1 hb.2];simp only[Option.bind_some,iP,Cl];cases mN x with
    |false=>rfl
    |true=>
     simp only[Bool.not_true,cond_false,Bool.true_and,tA];cases i with
     |zero=>
      have dz:cA t 0 0=some (t.take 0):=oO (b:=0) (Nat.zero_le _);have dz:cA t 0 ((0:Nat):Int)=some (t.take 0):=dz;simp only[beq_self_eq_true,Bool.not_true,cond_false,dz,Option.bind_some,qx,Bool.true_or,Bool.true_and];cases lZ (t.take 0) x.path with
      |false=>rfl
      |true=>simp only[Bool.not_true,cond_false,cond_true,cl hw];rfl
     |succ i=>
      have h0:(i+1==0)=false:=rfl;have iU:i<t.length:=by omega
      obtain⟨q,ao⟩:∃q,t[i]? =some q:=⟨t[i],List.getElem?_eq_getElem iU⟩;have dz:cA t 0 ((i+1:Nat):Int)=some (t.take (i+1)):=oO (by omega)
      simp only[h0,Bool.not_false,cond_true,vu (i:=i) (by unfold aM;omega),cc,ao,hx,Option.bind_some,Bool.false_or,Nat.add_sub_cancel]
      cases Op.bytesLess q.path x.path with
      |false=>rfl
      |true=>
       simp only[Bool.not_true,cond_false,cond_true,dz,Option.bind_some,qx,Bool.true_and];cases lZ (t.take (i+1)) x.path with
       |false=>rfl
       |true=>simp only[Bool.not_true,cond_false,cond_true,cl hw];rfl
   ·simp only[Option.some.injEq] at ah;cases ao:(iP t i x&&lZ (t.take i) x.path) with
    |false=>rw[ao] at ah;cases ah
    |true=>
     simp only[Bool.and_eq_true] at ao;have:=ao.1;simp only[iP,Bool.and_eq_true] at this;exact O1 hx dj this.2
  ·simp only[Bf,dQ,cond_false]
 have Kp:decide ((t.length:Int)>16)=!decide (t.length<=16):=by by_cases h:t.length<=16<;>simp only[h,decide_true,decide_false,Bool.not_true,Bool.not_false,decide_eq_true_eq,decide_eq_false_iff_not]<;>omega
 simp only[f86,Kp,key,Option.bind_some];rw[aa5];cases decide (t.length<=16)<;>cases allI (fun i e=>iP t i e&&lZ (t.take i) e.path) 0 t<;>rfl
noncomputable abbrev ap2:bD:=[(86,Da),(118,Jc),(119,Cr),(120,RV),(122,RU)]
theorem XM:bg ae (bu az ap2):=bB ⟨Jr,SW,z119,agc,agb,⟨⟩⟩
abbrev Qr:Shape:=⟨[bj 1 1 0],[bi 1 [bC,bC,bJ .need,bJ .entry]],36⟩
abbrev Ql:List bk:=[(.norm,⟨[bj 1 1 0,aQ 18],[bi 1 [bC,bC,bJ .need,bJ .entry]],36⟩)]
noncomputable def Hp(y:Qr.L):Option (aY Ql):=
(f118 ((y.2.1.1,()),())).bind fun a=>
 bif(!(!a.1.1)) then
(f119 ((y.2.1.2.1,()),())).bind fun b=>
 bif(!(!b.1.1)) then
 some (((),(decide ((y.2.1.2.2.1.length:Int)>(6:Int))),()),(y.2.1.1,y.2.1.2.1,y.2.1.2.2.1,y.2.1.2.2.2.1,()),())
else
 some (((),true,()),(y.2.1.1,y.2.1.2.1,y.2.1.2.2.1,y.2.1.2.2.2.1,()),())
else
 some (((),true,()),(y.2.1.1,y.2.1.2.1,y.2.1.2.2.1,y.2.1.2.2.2.1,()),())
theorem agz:bq ae (aH (codeOf Tryz.f74) 1 12) (bE Qr Ql Hp):=dI XM (by kernel_rfl) aB fun y=>by kernel_rfl
abbrev i74:Shape:=⟨[dS 0 [bC,bC,bJ .need,bJ .entry]],[],36⟩
abbrev Wl:Shape:=⟨[aQ 2],[],36⟩
noncomputable def f74(a:i74.L):Option Wl.L:=
(Hp (((),()),(a.1.1.1,a.1.1.2.1,a.1.1.2.2.1,a.1.1.2.2.2.1,()),())).bind fun b=>
 bif b.1.2.1 then
 some ((false,()),())
else
(Bw ((b.2.1.2.2.1,(),()),())).bind fun c=>
 bif c.1.1 then
(Bv ((b.2.1.2.2.1,(),([b.2.1.1]:List J),()),())).bind fun d=>
 bif(!d.1.1) then
(f86 ((b.2.1.2.2.2.1,()),())).bind fun e=>
 some ((e.1.1,()),())
else
 some ((false,()),())
else
 some ((false,()),())
noncomputable def Xv:bb:=bf az Tryz.f74 i74 Wl [] f74
theorem amJ:a_ ae 74 Xv:=bh XM Tryz.func74 (by kernel_rfl) (bN agz aB) (fun y=>by kernel_rfl) fun a=>by kernel_rfl
noncomputable abbrev ahD:bD:=[(74,Xv)]
theorem R5:bg ae (bu az ahD):=bB ⟨amJ,⟨⟩⟩
abbrev yQ:Shape:=⟨[(1,.am (.fn 74 [])),a7 7 .pack,aq 8,aq 9],[],18⟩
abbrev Ed:List bk:=[(.ret,⟨[aQ 4],[],18⟩),(.exit 0,⟨[],[],18⟩)]
noncomputable def y6(y:yQ.L):cy yQ Ed:=
 bif(decide (y.1.2.2.2.1<y.1.2.2.1)) then
(bd y.1.2.1 y.1.2.2.2.1).bind fun a=>
(f74 (((a.name,a.b4,a.bI,a.bY,()),()),())).bind fun b=>
 bif(!b.1.1) then
 some (.inr (.inl ((false,()),())))
else
 some (.inl (((),y.1.2.1,y.1.2.2.1,(IntKind.i64.wrap (y.1.2.2.2.1+(1:Int))),()),()))
else
 some (.inr (.inr ((),())))
noncomputable def Es:yQ.L->Option (aY Ed):=b7 y6
theorem abN:bq ae (aH (codeOf Tryz.f101) 1 26) (bE yQ Ed Es):=cE R5 (by kernel_rfl) aB fun y=>by kernel_rfl
abbrev Rv:Shape:=⟨[a7 0 .pack,(1,.am (.fn 74 []))],[],18⟩
abbrev QY:Shape:=⟨[aQ 4],[],18⟩
noncomputable def wk(a:Rv.L):Option QY.L:=
(Es (((),a.1.1,(a.1.1.length:Int),(0:Int),()),())).bind fun b=>
(match b with
|.inl c=>
 some ((c.1.1,()),())
|.inr d=>
 some ((true,()),()))
noncomputable def HD:bb:=bf az Tryz.f101 Rv QY [] wk
theorem Qd:a_ ae 101 HD:=bh R5 Tryz.func101 (by kernel_rfl) (bN abN aB) (fun y=>by kernel_rfl) fun a=>by kernel_rfl
abbrev z7:Shape:=⟨[a7 0 .pack,aq 3],[],22⟩
abbrev FT:List bk:=[(.ret,⟨[aQ 2],[],22⟩),(.exit 0,⟨[],[],22⟩)]
noncomputable def AD(y:z7.L):cy z7 FT:=
 bif(decide (y.1.2.1<(y.1.1.length:Int))) then
(bd y.1.1 (IntKind.i64.wrap (y.1.2.1-(1:Int)))).bind fun a=>
(bd y.1.1 y.1.2.1).bind fun b=>
 bif(!(Op.bytesLess a.name b.name)) then
 some (.inr (.inl ((false,()),())))
else
 some (.inl ((y.1.1,(IntKind.i64.wrap (y.1.2.1+(1:Int))),()),()))
else
 some (.inr (.inr ((),())))
noncomputable def Gt:z7.L->Option (aY FT):=b7 AD
theorem ae3:bq ae (aH (codeOf Tryz.f141) 1 26) (bE z7 FT Gt):=cE g0 (by kernel_rfl) aB fun y=>by kernel_rfl
abbrev i141:Shape:=⟨[a7 0 .pack],[],22⟩
abbrev TO:Shape:=⟨[aQ 2],[],22⟩
noncomputable def f141(a:i141.L):Option TO.L:=
(Gt ((a.1.1,(1:Int),()),())).bind fun b=>
(match b with
|.inl c=>
 some ((c.1.1,()),())
|.inr d=>
 some ((true,()),()))
noncomputable def Vo:bb:=bf az Tryz.f141 i141 TO [] f141
theorem z141:a_ ae 141 Vo:=bh g0 Tryz.func141 (by kernel_rfl) (bN ae3 aB) (fun y=>by kernel_rfl) fun a=>by kernel_rfl
abbrev i156:Shape:=⟨[a7 0 .entry],[],6⟩
abbrev TL:Shape:=⟨[bS 2 3000128],[b8 3000128 .entry 2 0],6⟩
noncomputable def f156(a:i156.L):Option TL.L:=
(cR 48 ([]:List aR) a.1.1).bind fun b=>
 some (((),()),b,())
noncomputable def w6:bb:=bf az Tryz.f156 i156 TL [] f156
theorem z156:a_ ae 156 w6:=bh g0 Tryz.func156 (by kernel_rfl) aB (fun y=>by kernel_rfl) fun a=>by kernel_rfl
noncomputable abbrev apW:bD:=[(156,w6),(157,Cq),(158,Cp)]
theorem KK:bg ae (bu az apW):=bB ⟨z156,z157,H5,⟨⟩⟩
abbrev Ov:Shape:=⟨[a7 1 .entry,bS 6 3000384,aq 7,aq 8,aQ 9],[b8 3000384 .entry 6 0],69⟩
abbrev Ob:List bk:=[(.norm,⟨[a7 1 .entry,bS 6 3000384,aq 7,aq 8,aQ 9,aQ 28,aQ 29,aQ 47],[b8 3000384 .entry 6 0],69⟩)]
noncomputable def E9(y:Ov.L):Option (aY Ob):=
 bif y.1.2.2.2.2.1 then
(iz y.2.1.length y.1.2.2.2.1).bind fun a=>
(y.2.1[a]?).bind fun b=>
 bif(b.kind !=(1:Int)) then
 some ((y.1.1,(),y.1.2.2.1,y.1.2.2.2.1,y.1.2.2.2.2.1,y.1.2.2.2.2.1,true,true,()),y.2.1,())
else
(bd y.1.1 y.1.2.2.1).bind fun c=>
(iz y.2.1.length y.1.2.2.2.1).bind fun d=>
(y.2.1[d]?).bind fun e=>
 some ((y.1.1,(),y.1.2.2.1,y.1.2.2.2.1,y.1.2.2.2.2.1,y.1.2.2.2.2.1,true,(!((c.path==e.path)&&((c.kind==e.kind)&&((c.mode==e.mode)&&(c.text==e.text))))),()),y.2.1,())
else
 some ((y.1.1,(),y.1.2.2.1,y.1.2.2.2.1,y.1.2.2.2.2.1,y.1.2.2.2.2.1,false,false,()),y.2.1,())
theorem ac8:bq ae (aH (dn (aH (codeOf Tryz.f96) 1 58)) 116 7460) (bE Ov Ob E9):=dI KK (by kernel_rfl) aB fun y=>by kernel_rfl
abbrev v8:Shape:=⟨[a7 1 .entry,bS 6 3000384,aq 7],[b8 3000384 .entry 6 0],69⟩
abbrev p':List bk:=[(.ret,⟨[bS 4 3000256,aQ 5],[b8 3000256 .entry 4 0],69⟩),(.exit 0,⟨[bS 6 3000384],[b8 3000384 .entry 6 0],69⟩)]
noncomputable def Bd(y:v8.L):cy v8 p':=
 bif(decide (y.1.2.2.1<(y.1.1.length:Int))) then
(bd y.1.1 y.1.2.2.1).bind fun a=>
(f157 ((y.2.1,a.path,()),())).bind fun b=>
(E9 ((y.1.1,(),y.1.2.2.1,b.1.1,b.1.2.1,()),y.2.1,())).bind fun c=>
 bif c.1.2.2.2.2.2.2.2.1 then
 some (.inr (.inl (((),false,()),([]:List aR),())))
else
 bif(!c.1.2.2.2.2.1) then
(cA c.2.1 (0:Int) c.1.2.2.2.1).bind fun d=>
(cR 48 ([]:List aR) d).bind fun e=>
(bd c.1.1 c.1.2.2.1).bind fun f=>
(cR 48 e ([f]:List aR)).bind fun g=>
(cA c.2.1 c.1.2.2.2.1 (c.2.1.length:Int)).bind fun h=>
(cR 48 g h).bind fun i=>
 some (.inl ((c.1.1,(),(IntKind.i64.wrap (c.1.2.2.1+(1:Int))),()),i,()))
else
 some (.inl ((c.1.1,(),(IntKind.i64.wrap (c.1.2.2.1+(1:Int))),()),c.2.1,()))
else
 some (.inr (.inr (((),()),y.2.1,())))
noncomputable def Hd:v8.L->Option (aY p'):=b7 Bd
theorem ags:bq ae (aH (codeOf Tryz.f96) 1 58) (bE v8 p' Hd):=cE KK (by kernel_rfl) (bN ac8 aB) fun y=>by kernel_rfl
abbrev i96:Shape:=⟨[a7 0 .entry,a7 1 .entry],[],69⟩
abbrev Wb:Shape:=⟨[bS 4 3000256,aQ 5],[b8 3000256 .entry 4 0],69⟩
noncomputable def f96(a:i96.L):Option Wb.L:=
(f156 ((a.1.1,()),())).bind fun b=>
(Hd ((a.1.2.1,(),(0:Int),()),b.2.1,())).bind fun c=>
(match c with
|.inl d=>
 some (((),d.1.2.1,()),d.2.1,())
|.inr e=>
(f158 ((e.2.1,()),())).bind fun f=>
 some (((),f.1.1,()),e.2.1,()))
noncomputable def Xr:bb:=bf az Tryz.f96 i96 Wb [] f96
theorem amF:a_ ae 96 Xr:=bh KK Tryz.func96 (by kernel_rfl) (bN ags aB) (fun y=>by kernel_rfl) fun a=>by kernel_rfl
noncomputable abbrev apU:bD:=[(158,Cp),(161,I_),(162,I9),(163,Vk)]
theorem aqm:bg ae (bu az apU):=bB ⟨H5,SU,z162,ajx,⟨⟩⟩
abbrev i98:Shape:=⟨[dS 0 [bC,bC,bJ .need,bJ .entry]],[],23⟩
abbrev V':Shape:=⟨[aQ 2],[],23⟩
noncomputable def f98(a:i98.L):Option V'.L:=
(f161 ((a.1.1.1,()),())).bind fun b=>
 bif b.1.1 then
(f162 ((a.1.1.2.1,()),())).bind fun c=>
 bif c.1.1 then
(f163 ((a.1.1.1,a.1.1.2.2.1,()),())).bind fun d=>
 bif d.1.1 then
(f158 ((a.1.1.2.2.2.1,()),())).bind fun e=>
 some ((e.1.1,()),())
else
 some ((false,()),())
else
 some ((false,()),())
else
 some ((false,()),())
noncomputable def KA:bb:=bf az Tryz.f98 i98 V' [] f98
theorem VU:a_ ae 98 KA:=bh aqm Tryz.func98 (by kernel_rfl) aB (fun y=>by kernel_rfl) fun a=>by kernel_rfl
abbrev sy(p:aI):Prop:=cq p.name.length/\cq p.b4.length/\w9 p.bI/\jD p.bY
abbrev fb(F:List aI):Prop:=cq F.length/\∀p,p∈F->sy p
def dV(p:aI):Bool:=l0 p.name&&e7 p.b4&&s9 p.name p.bI&&dR p.bY
theorem EO(a)(hb:sy ⟨a.1.1.1,a.1.1.2.1,a.1.1.2.2.1,a.1.1.2.2.2.1⟩):f98 a=some ((dV ⟨a.1.1.1,a.1.1.2.1,a.1.1.2.2.1,a.1.1.2.2.2.1⟩,()),()):=by
 obtain⟨⟨⟨n,v,aw,t,u⟩,bv⟩,mc⟩:=a;obtain⟨h1,h2,ab,aF⟩:=hb;have h1:n.length<=2097152:=h1;have e1:=N4 ((n,()),()) (show n.length<=1099511627776 by omega)
 have e2:=LQ ((v,()),()) h2;have b0:=aaO ((n,(aw,())),()) ab h1;have eu:=EM ((t,()),()) aF;simp only[f98,e1,e2,b0,eu,Option.bind_some,dV];cases l0 n<;>cases e7 v<;>cases s9 n aw<;>rfl
theorem aaW(a)(hb:sy ⟨a.1.1.1,a.1.1.2.1,a.1.1.2.2.1,a.1.1.2.2.2.1⟩):f74 a=some ((dV ⟨a.1.1.1,a.1.1.2.1,a.1.1.2.2.1,a.1.1.2.2.2.1⟩,()),()):=by
 obtain⟨⟨⟨n,v,aw,t,u⟩,bv⟩,mc⟩:=a;obtain⟨h1,h2,ab,aF⟩:=hb;have h1:n.length<=2097152:=h1;have e1:=LC ((n,()),()) (show n.length<=1099511627776 by omega)
 have e2:=Dx ((v,()),()) h2;have b0:=aaY ((aw,((),())),()) ab;have eu:=vw ((t,()),()) aF;have fI:=Y9 ((aw,((),(([n]:List J),()))),()) ab (Nat.le_refl _);have dk:decide ((aw.length:Int)>6)=!decide (aw.length<=6):=by by_cases h:aw.length<=6<;>simp only[h,decide_true,decide_false,Bool.not_true,Bool.not_false,decide_eq_true_eq,decide_eq_false_iff_not]<;>omega
 have Z:ha [] (n::aw.map (·.name))=ha [n] (aw.map (·.name)):=by simp[ha]
 simp only[f74,Hp,e1,e2,Option.bind_some,dV,s9,Z,dk,Bool.not_not];cases l0 n with
 |false=>rfl
 |true=>
  cases e7 v with
  |false=>rfl
  |true=>
   cases decide (aw.length<=6) with
   |false=>simp only[cond_true,Bool.not_false,Option.bind_some,Bool.and_false,Bool.false_and]
   |true=>
    simp only[cond_true,Bool.not_true,cond_false,Option.bind_some,b0,fI,eu,Bool.true_and,Bool.and_true];cases List.all aw iH<;>cases ha [n] (aw.map (·.name))<;>rfl
theorem M2(a)(M:fb a.1.1):wk a=some ((a.1.1.all dV,()),()):=by
 obtain⟨⟨F,u⟩,bv⟩:=a;obtain⟨hl,hn⟩:=M;have hl:F.length<=2097152:=hl;have key:Es (((),(F,((F.length:Int),((0:Int),())))),())=some (bif allI (fun _ n=>dV n) 0 F then .inr ((),()) else .inl ((false,()),())):=by
  refine gm y6 F (fun i=>(((),(F,((F.length:Int),((i:Int),())))),())) _ _ _ (fun i x hx=>?_) ?_
  ·have hi:=ct hx;have hw:aM i:=by unfold aM;omega
   have hb:=hn x (List.mem_of_getElem? hx);simp only[y6,cF hi,cond_true,cc,hx,Option.bind_some];rw[aaW _ hb];simp only[Option.bind_some,cl hw];cases dV x<;>rfl
  ·simp only[y6,dQ,cond_false]
 rw[h4] at key;simp only[wk,key,Option.bind_some];cases List.all F dV<;>rfl
def mL(F:List aI)(i:Nat)(x:aI):Bool:=match F[i]? with
 |some q=>Op.bytesLess q.name x.name
 |none=>false
def j6(F:List aI):Bool:=allI (mL F) 0 F.tail
theorem YM(a)(M:cq a.1.1.length):f141 a=some ((j6 a.1.1,()),()):=by
 obtain⟨⟨F,u⟩,bv⟩:=a;have M:F.length<=2097152:=M;have key:Gt ((F,((1:Int),())),())=some (bif allI (mL F) 0 F.tail then .inr ((),()) else .inl ((false,()),())):=by
  refine gm AD F.tail (fun i=>((F,(((i+1:Nat):Int),())),())) _ _ _ (fun i x hx=>?_) ?_
  ·have kI:F[i+1]? =some x:=by rw[List.getElem?_tail] at hx;exact hx
   have hi:=ct kI;have hw:aM (i+1):=by unfold aM;omega
   obtain⟨q,ao⟩:∃q,F[i]? =some q:=⟨F[i],List.getElem?_eq_getElem (by omega)⟩
   simp only[AD,cF hi,cond_true,vu (i:=i) (by unfold aM;omega),cc,ao,kI,Option.bind_some,cl hw,mL]
   cases Op.bytesLess q.name x.name<;>rfl
  ·have:decide (((F.tail.length+1:Nat):Int)<(F.length:Int))=false:=by
    simp only[decide_eq_false_iff_not,List.length_tail];omega
   simp only[AD,this,cond_false]
 simp only[f141,key,Option.bind_some,j6];cases allI (mL F) 0 F.tail<;>rfl
def jG(a b:aR):Bool:=a.path==b.path&&(a.kind==b.kind&&(a.mode==b.mode&&a.text==b.text))
def j4(e q:aR):Bool:=e.kind !=1||!jG e q
theorem adX(a b:aR):jG a b=jG b a:=by
 unfold jG;have h1:(a.path==b.path)=(b.path==a.path):=BEq.comm;have h2:(a.kind==b.kind)=(b.kind==a.kind):=BEq.comm;have ab:(a.mode==b.mode)=(b.mode==a.mode):=BEq.comm;have aF:(a.text==b.text)=(b.text==a.text):=BEq.comm;rw[h1,h2,ab,aF]
theorem afI(e q:aR):j4 e q=(q.kind !=1||!jG e q):=by
 unfold j4;cases h:jG e q with
 |false=>simp
 |true=>
  unfold jG at h;simp only[Bool.and_eq_true] at h;rw[show e.kind=q.kind from eq_of_beq h.2.1]
def jW(t:List aR)(k:Nat)(e:aR):List aR:=t.take k++[e]++t.drop k
def fL(out:List aR):List aR->Option (List aR)
 |[]=>some out
 |e::r=>match out[bU out e.path]? with
  |some q=>bif q.path==e.path then(bif j4 e q then none else fL out r) else fL (jW out (bU out e.path) e) r
  |none=>fL (jW out (bU out e.path) e) r
theorem NG(t:List aR)(k:Nat)(e:aR)(h:k<=t.length):(jW t k e).length=t.length+1:=by
 unfold jW;simp only[List.length_append,List.length_take,List.length_cons,List.length_nil,List.length_drop];omega
theorem Eu{t:List aR}{k:Nat}{e x:aR}(h:x∈jW t k e):x=e\/x∈t:=by
 unfold jW at h;rcases List.mem_append.1 h with h|h
 ·rcases List.mem_append.1 h with h|h
  ·exact .inr (List.mem_of_mem_take h)
  ·exact .inl (by simpa using h)
 ·exact .inr (List.mem_of_mem_drop h)
def gH(out:List aR)(e:aR):Option (List aR):=match out[bU out e.path]? with
 |some q=>bif q.path==e.path then(bif j4 e q then none else some out) else some (jW out (bU out e.path) e)
 |none=>some (jW out (bU out e.path) e)
theorem pS(out:List aR)(e:aR)(r:List aR):fL out (e::r)=(gH out e).bind fun D=>fL D r:=by
 unfold gH;rw[fL];cases out[bU out e.path]? with
 |none=>rfl
 |some q=>
  simp only;cases (q.path==e.path) with
  |false=>rfl
  |true=>cases j4 e q<;>rfl
theorem yC{out D:List aR}{e:aR}(h:gH out e=some D):D.length<=out.length+1:=by
 unfold gH at h;split at h
 ·rename_i q ao;cases ag:(q.path==e.path) with
  |true=>
   rw[ag] at h;cases hc:j4 e q with
   |true=>rw[hc] at h;cases h
   |false=>rw[hc] at h;cases h;omega
  |false=>rw[ag] at h;cases h;rw[NG _ _ _ (ra _ _)];omega
 ·cases h;rw[NG _ _ _ (ra _ _)];omega
theorem Ee{out D:List aR}{e x:aR}(h:gH out e=some D)(hx:x∈D):x=e\/x∈out:=by
 unfold gH at h;split at h
 ·rename_i q ao;cases ag:(q.path==e.path) with
  |true=>
   rw[ag] at h;cases hc:j4 e q with
   |true=>rw[hc] at h;cases h
   |false=>rw[hc] at h;cases h;exact .inr hx
  |false=>rw[ag] at h;cases h;exact Eu hx
 ·cases h;exact Eu hx
theorem afP{t:List aR}{e:aR}(aT:ep t)(hn:gq t e.path=false):ep (jW t (bU t e.path) e):=by
 have Ur:∀a,a∈t.take (bU t e.path)->Op.bytesLess a.path e.path=true:=by
  intro a h;obtain⟨k,af⟩:=List.mem_iff_getElem?.1 h;have WY:k<bU t e.path:=by have:=ct af;rw[List.length_take] at this;omega
  have sj:t[k]? =some a:=by rw[List.getElem?_take,if_pos WY] at af;exact af
  rw[kl aT k a sj];simpa using WY
 have Sz:∀a,a∈t.drop (bU t e.path)->Op.bytesLess e.path a.path=true:=by
  intro a h;obtain⟨k,af⟩:=List.mem_iff_getElem?.1 h;rw[List.getElem?_drop] at af;have h1:=kl (p:=e.path) aT _ a af;have h2:Op.bytesLess a.path e.path=false:=by rw[h1];simp
  refine Hv _ _ h2 ?_
  cases ao:(a.path==e.path) with
  |false=>rfl
  |true=>
   exfalso
   cases k with
   |zero=>
    unfold gq at hn;rw[Nat.add_zero] at af;rw[af] at hn;simp only[ao] at hn;cases hn
   |succ k=>
    have a':=ct af;obtain⟨q,pq⟩:∃q,t[bU t e.path]? =some q:=⟨_,List.getElem?_eq_getElem (by omega)⟩
    have ab:=List.pairwise_iff_getElem.1 aT (bU t e.path) (bU t e.path+(k+1)) (ct pq) a' (by omega)
    rw[(List.getElem?_eq_some_iff.1 pq).2,(List.getElem?_eq_some_iff.1 af).2] at ab;have aF:=kl (p:=e.path) aT _ q pq;rw[<-eq_of_beq ao,ab] at aF;simp at aF
 unfold ep jW;refine List.pairwise_append.2 ⟨List.pairwise_append.2 ⟨aT.take _,by simp,?_⟩,List.Pairwise.sublist (List.drop_sublist _ _) aT,?_⟩
 ·intro a h b hb;have hb:b=e:=by simpa using hb
  subst hb;exact Ur a h
 ·intro a h b hb;rcases List.mem_append.1 h with h|h
  ·exact q8 _ _ _ (Ur a h) (Sz b hb)
  ·have h:a=e:=by simpa using h
   subst h;exact Sz b hb
theorem yD{out D:List aR}{e:aR}(aT:ep out)(h:gH out e=some D):ep D:=by
 unfold gH at h;have nc:∀{b:Bool},gq out e.path=b->b=false->ep (jW out (bU out e.path) e):=fun h1 h2=>afP aT (h1.trans h2)
 split at h
 ·rename_i q ao;cases ag:(q.path==e.path) with
  |true=>
   rw[ag] at h;cases hc:j4 e q with
   |true=>rw[hc] at h;cases h
   |false=>rw[hc] at h;cases h;exact aT
  |false=>rw[ag] at h;cases h;exact nc (by unfold gq;rw[ao]) ag
 ·rename_i ao;cases h;exact nc (by unfold gq;rw[ao]) rfl
theorem acE(a)(aT:jD a.1.1)(hb:jD a.1.2.1)(hl:a.1.1.length+a.1.2.1.length<=2097152):f96 a=
  some (match fL a.1.1 a.1.2.1 with|some out=>(((),(dR out,())),(out,()))|none=>(((),(false,())),(([]:List aR),()))):=by
 obtain⟨⟨xs,ys,u⟩,bv⟩:=a;have hl:xs.length+ys.length<=2097152:=hl;have hc:f156 ((xs,()),())=some (((),()),(xs,())):=by
  simp only[f156];rw[eZ (by decide) (by unfold aM;simp only[List.length_nil];omega)]
  rfl
 have key:Hd ((ys,((),((0:Int),()))),(xs,()))=_:=nB Bd ys (fun i (out:List aR)=>((ys,((),((i:Int),()))),(out,())))
  (fun i e out=>some (match gH out e with|some D=>.inl D|none=>.inr ((.inl (((),(false,())),(([]:List aR),()))):aY p'))) (fun out=>((.inr (((),()),(out,()))):aY p'))
  (fun i out=>out.length<=xs.length+i/\∀e,e∈out->ol e) xs ⟨Nat.le_refl _,aT.2⟩ (fun i x out hx dj=>?_) (fun out _=>?_)
 ·have fold:∀(r:List aR) (k:Nat) (out:List aR),e3 (fun i e out=>some (match gH out e with|some D=>.inl D|none=>.inr ((.inl (((),(false,())),(([]:List aR),()))):aY p'))) (fun out=>((.inr (((),()),(out,()))):aY p')) k r out=
    some (match fL out r with|some D=>.inr (((),()),(D,()))|none=>.inl (((),(false,())),(([]:List aR),()))):=by
   intro r;induction r with
   |nil=>intro k out;rfl
   |cons e r ih=>
    intro k out;rw[pS];simp only[e3];cases gH out e with
    |none=>rfl
    |some D=>simp only[Option.bind_some];exact ih _ _
  have mem:∀(r:List aR) (out D:List aR),(∀e,e∈r->ol e)->(∀e,e∈out->ol e)->fL out r=some D->D.length<=out.length+r.length/\∀e,e∈D->ol e:=by
   intro r;induction r with
   |nil=>intro out D _ h2 h;cases h;exact⟨Nat.le_refl _,h2⟩
   |cons e r ih=>
    intro out D h1 h2 h;rw[pS] at h;obtain⟨o1,ab,aF⟩:=Option.bind_eq_some_iff.1 h;have bo:=ih o1 D (fun x hx=>h1 x (List.mem_cons_of_mem _ hx)) (fun x hx=>by
     rcases Ee ab hx with rfl|h
     ·exact h1 x List.mem_cons_self
     ·exact h2 x h) aF
    have dk:=yC ab;exact⟨by simp only[List.length_cons];omega,bo.2⟩
  rw[fold] at key;simp only[f96,hc,Option.bind_some,key];cases hj:fL xs ys with
  |none=>rfl
  |some D=>
   have hm:=mem ys xs D hb.2 aT.2 hj;simp only[Option.bind_some];rw[EM _ ⟨show D.length<=2097152 by omega,hm.2⟩]
   rfl
 ·have hi:=ct hx;have hw:aM i:=by unfold aM;omega
  refine⟨?_,fun ar ah=>?_⟩
  ·have ly:=GZ ((out,(x.path,())),()) (show out.length<=2097152 by omega)
   have qx:=ra out x.path;simp only[Bd,cF hi,cond_true,cc,hx,Option.bind_some,ly,E9,gq,gH];have grow:((cA out 0 (bU out x.path:Int)).bind fun ajR=>(cR 48 ([]:List aR) ajR).bind fun ajQ=>(cR 48 ajQ ([x]:List aR)).bind fun ajP=>(cA out (bU out x.path:Int) (out.length:Int)).bind fun ajO=>(cR 48 ajP ajO).bind fun ajN=>
     (some (.inl ((ys,((),((IntKind.i64.wrap ((i:Int)+(1:Int))),()))),(ajN,()))):Option (Sum v8.L (aY p'))))=some (.inl ((ys,((),(((i+1:Nat):Int),()))),(jW out (bU out x.path) x,()))):=by
    have hlen:(out.take (bU out x.path)).length<=out.length:=by rw[List.length_take];omega
    have ar8:(out.drop (bU out x.path)).length<=out.length:=by rw[List.length_drop];omega
    rw[oO qx,Option.bind_some,eZ (by decide) (by unfold aM;simp only[List.length_nil];omega),Option.bind_some,eZ (by decide) (by unfold aM;simp only[List.length_nil,List.length_cons,List.nil_append];omega),Option.bind_some,pT qx,Option.bind_some,
     eZ (by decide) (by unfold aM;simp only[List.length_append,List.length_nil,List.length_cons,List.nil_append];omega),Option.bind_some,cl hw]
    rfl
   cases ao:out[bU out x.path]? with
   |none=>simp only[cond_false,Option.bind_some,Bool.not_false,cond_true,cc,hx];exact grow
   |some q=>
    have hin:=oU (ct ao);simp only;cases ag:(q.path==x.path) with
    |false=>simp only[cond_false,Option.bind_some,Bool.not_false,cond_true,cc,hx];exact grow
    |true=>
     have C1:((x.path==q.path)&&((x.kind==q.kind)&&((x.mode==q.mode)&&(x.text==q.text))))=jG x q:=rfl;rw[afI];simp only[cond_true,hin,ao,Option.bind_some,cc,hx,C1];cases af:(q.kind !=1) with
     |true=>rfl
     |false=>
      simp only[cond_false,Option.bind_some,Bool.false_or];cases jG x q with
      |false=>rfl
      |true=>simp only[Bool.not_true,cond_false,Option.bind_some,cl hw];rfl
  ·simp only[Option.some.injEq] at ah;cases M:gH out x with
   |none=>rw[M] at ah;cases ah
   |some D=>
    rw[M] at ah;cases ah;have dk:=yC M;refine⟨by omega,fun e he=>?_⟩
    rcases Ee M he with rfl|h
    ·exact hb.2 e (List.mem_of_getElem? hx)
    ·exact dj.2 e h
 ·simp only[Bd,dQ,cond_false]
abbrev i159:Shape:=⟨[a7 0 .entry],[],8⟩
abbrev Io:Shape:=⟨[bS 2 3000128],[b8 3000128 .entry 2 0],8⟩
noncomputable def f159(a:i159.L):Option Io.L:=
 oK (t:=.entry) a.1.1 (some (((),()),([]:List aR),())) ((cR 48 ([]:List aR) a.1.1).bind fun b=>
 some (((),()),b,()))
noncomputable def I':bb:=bf az Tryz.f159 i159 Io [] f159
theorem z159:a_ ae 159 I':=bh g0 Tryz.func159 (by kernel_rfl) aB (fun y=>by kernel_rfl) fun a=>by kernel_rfl
noncomputable abbrev aqb:bD:=[(96,Xr)]
theorem XR:bg ae (bu az aqb):=bB ⟨amF,⟨⟩⟩
abbrev A2:Shape:=⟨[a7 0 .pack,bS 4 3000256,aq 5],[b8 3000256 .entry 4 0],30⟩
abbrev rh:List bk:=[(.ret,⟨[bS 2 3000128,aQ 3],[b8 3000128 .entry 2 0],30⟩),(.exit 0,⟨[bS 4 3000256],[b8 3000256 .entry 4 0],30⟩)]
noncomputable def Bk(y:A2.L):cy A2 rh:=
 bif(decide (y.1.2.2.1<(y.1.1.length:Int))) then
(bd y.1.1 y.1.2.2.1).bind fun a=>
(f96 ((y.2.1,a.bY,()),())).bind fun b=>
 bif(!b.1.2.1) then
 some (.inr (.inl (((),false,()),([]:List aR),())))
else
 some (.inl ((y.1.1,(),(IntKind.i64.wrap (y.1.2.2.1+(1:Int))),()),b.2.1,()))
else
 some (.inr (.inr (((),()),y.2.1,())))
noncomputable def Hk:A2.L->Option (aY rh):=b7 Bk
theorem agD:bq ae (aH (codeOf Tryz.f51) 1 58) (bE A2 rh Hk):=cE XR (by kernel_rfl) aB fun y=>by kernel_rfl
abbrev i51:Shape:=⟨[a7 0 .pack],[],30⟩
abbrev Wv:Shape:=⟨[bS 2 3000128,aQ 3],[b8 3000128 .entry 2 0],30⟩
noncomputable def f51(a:i51.L):Option Wv.L:=
(Hk ((a.1.1,(),(0:Int),()),([]:List aR),())).bind fun b=>
(match b with
|.inl c=>
 some (((),c.1.2.1,()),c.2.1,())
|.inr d=>
 some (((),true,()),d.2.1,()))
noncomputable def XA:bb:=bf az Tryz.f51 i51 Wv [] f51
theorem z51:a_ ae 51 XA:=bh XR Tryz.func51 (by kernel_rfl) (bN agD aB) (fun y=>by kernel_rfl) fun a=>by kernel_rfl
theorem ab4(g n c i vb m vc:Nat)(cur vcur:Array Value)(te ve:TypeId)(w:World)(hi:i<n)(hm:0<m)(hroom:n+m<=c)(hc63:c<=9223372036854775807)(hne:vb≠g)
  (hg:w.heap[g]? =some (.cells cur te (0,0))) (hv:w.heap[vb]? =some (.cells vcur ve (0,0))) (hcs:cur.size=c*4) (hvs:m*4<=vcur.size)
  (h1c:∀v∈cur.toList.take (n*4),v.oneCell'=true) (h1v:∀v∈vcur.toList.take (m*4),v.oneCell'=true):
  Calls ae 160 #[.slice (some ⟨g,0,none⟩) n c,.int .i64 i,.slice (some ⟨vb,0,none⟩) m vc] w fun e w'=>
   e=.returned (.slice (some ⟨g,0,none⟩) (n+m) c)/\w'=w.drew.setRow g (bw (bw cur.toList ((i+m)*4) ((cur.toList.take (n*4)).drop (i*4))) (i*4) (vcur.toList.take (m*4))).toArray:=by
 have t33:ae.underlying 26=some (.slice 73):=by kernel_rfl
 have hsz:(ae.info? 73).map (·.size)=some 4:=by kernel_rfl
 have hz1:¬((m:Int)=0):=by omega
 have hz2:¬((i:Int)=(n:Int)):=by omega
 have hov:∀off lb cb,(callFunc 213 #[.slice (some ⟨vb,0,none⟩) m vc,.slice (some ⟨g,off,none⟩) lb cb]).run ae w=.ok (.value (.bool false)) w:=fun off lb cb=>by
  rw[run_callFunc_extern Tryz.func213 (by kernel_rfl) (by kernel_rfl) (by kernel_rfl) (e:=Extern.SlicesOverlaps.overlaps #[26,26] #[4]) (by kernel_rfl),
   Lib.run_overlaps_apart w 26 4 73 t33 4 (fun w=>by kernel_rfl) ⟨vb,0,none⟩ ⟨g,off,none⟩ m vc lb cb hne ve te vcur.size cur.size (by simp[World.shape?,hv]) (by simp[World.shape?,hg]) (by omega) (by simp[World.frozen?,hv]) (by simp[World.frozen?,hv])]
  rfl
 have hdl:((cur.toList.take (n*4)).drop (i*4)).length=(n-i)*4:=by simp only[List.length_drop,List.length_take,Array.length_toList,hcs];rw[Nat.min_eq_left (by omega),Nat.sub_mul]
 have hcl:∀j v,(cur.toList.take (n*4))[j]? =some v->w.cell? ⟨g,j,none⟩=some v:=fun j v h=>by
  rw[List.getElem?_take] at h;split at h
  ·simpa[World.cell?,hg] using h
  ·cases h
 have hcv:∀j v,(vcur.toList.take (m*4))[j]? =some v->w.cell? ⟨vb,j,none⟩=some v:=fun j v h=>by
  rw[List.getElem?_take] at h;split at h
  ·simpa[World.cell?,hv] using h
  ·cases h
 have hcp1:∀ty dc sc,(Builtin.copy_ #[26,26] ty #[.slice (some ⟨g,(i+m)*4,none⟩) (n+m-(i+m)) dc,.slice (some ⟨g,i*4,none⟩) (n+m-i) sc]).run ae w.drew=
   .ok (goInt (Nat.min (n+m-i) (n+m-(i+m)))) (w.drew.setRow g (bw cur.toList ((i+m)*4) ((cur.toList.take (n*4)).drop (i*4))).toArray):=fun ty dc sc=>
  yv w.drew _ _ ty 73 4 g ((i+m)*4) (n+m-(i+m)) dc ⟨g,i*4,none⟩ (n+m-i) sc cur te _ t33 hsz hg (by rw[hdl];simp only[Nat.min_def];split<;>omega)
   (fun j v hj=>by rw[Addr.add_lit];exact hcl (i*4+j) v (by rwa[List.getElem?_drop] at hj)) (by rw[hdl,hcs];omega) (fun v hv=>h1c v (List.mem_of_mem_drop hv))
 obtain⟨cur1,hcur1⟩:∃cur1,cur1=(bw cur.toList ((i+m)*4) ((cur.toList.take (n*4)).drop (i*4))).toArray:=⟨_,rfl⟩;rw[<-hcur1] at hcp1;have hc1s:cur1.size=c*4:=by rw[hcur1];simp only[bw,List.size_toArray,List.length_append,List.length_drop,List.length_take,Array.length_toList,hcs];omega
 have hcp2:∀(W:World),W.heap=(w.drew.setRow g cur1).heap->∀ty dc,(Builtin.copy_ #[26,26] ty #[.slice (some ⟨g,i*4,none⟩) (n+m-i) dc,.slice (some ⟨vb,0,none⟩) m vc]).run ae W=
   .ok (goInt (Nat.min m (n+m-i))) (W.setRow g (bw cur1.toList (i*4) (vcur.toList.take (m*4))).toArray):=fun W hW ty dc=>
  yv W _ _ ty 73 4 g (i*4) (n+m-i) dc ⟨vb,0,none⟩ m vc cur1 te _ t33 hsz (by rw[hW];exact setRow_heap w.drew g cur cur1 te (0,0) hg)
   (by simp only[List.length_take,Array.length_toList,Nat.min_def];split<;>split<;>omega)
   (fun j v hj=>by
    have:=hcv j v hj;rw[Addr.add_lit,Nat.zero_add];unfold World.cell? at this ⊢;rw[hW,show(w.drew.setRow g cur1).heap[vb]? =w.heap[vb]? from setRow_other w.drew g vb cur1 hne];exact this) (by simp only[List.length_take,Array.length_toList];omega) h1v
 have hE:w.drew.setRow g (bw (bw cur.toList ((i+m)*4) ((cur.toList.take (n*4)).drop (i*4))) (i*4) (vcur.toList.take (m*4))).toArray=(w.drew.setRow g cur1).setRow g (bw cur1.toList (i*4) (vcur.toList.take (m*4))).toArray:=by
  rw[setRow_setRow,hcur1]
 rw[hE];clear hE hcur1;have hw1:IntKind.i64.wrap ((i:Int)+(m:Int))=(i:Int)+(m:Int):=by rw[IntKind.wrap_i64];omega
 have hb1:(0:Int)<=(i:Int)+(m:Int):=by omega
 have hin:i<=n:=by omega
 have htn:((i:Int)+(m:Int)).toNat=i+m:=by omega
 have hb2:¬(c=i+m):=by omega
 have hb3:(i:Int)<=(n:Int)+(m:Int):=by omega
 have hb4:¬(c=i):=by omega
 go_enter Tryz.func160,Tryz.ntmps160
 go_wp2_with (simp only[hov])
 go_region_law (refine LU rfl _ _ 26 26 rfl (.slice (some ⟨g,(i+m)*4,none⟩) (n+m-(i+m)) (c-(i+m))) (.slice (some ⟨g,i*4,none⟩) (n+m-i) (c-i)) (by simp[Act.eval,Act.put]) (by simp[Act.eval,Act.put]) (hcp1 _ _ _) ?_)
 go_wp2_with (at_builtin;refine Lw _ rfl _ _ 26 26 rfl _ _ rfl rfl (hcp2 _ rfl _ _) ?_)
 go_ret
 exact⟨rfl,rfl⟩
theorem ab6(xa:Option Addr)(vc:Nat)(w:World):
  Calls ae 160 #[.slice none 0 0,.int .i64 0,.slice xa 0 vc] w fun e w'=>e=.returned (.slice none 0 0)/\w'=w:=by
 go_enter Tryz.func160,Tryz.ntmps160
 go_wp2
 go_ret
 exact⟨rfl,rfl⟩
theorem ab5(g n c i:Nat)(xa:Option Addr)(vc:Nat)(w:World)(hi:i<=n)(hnc:n<=c)(hc63:c<=9223372036854775807):
  Calls ae 160 #[.slice (some ⟨g,0,none⟩) n c,.int .i64 i,.slice xa 0 vc] w fun e w'=>e=.returned (.slice (some ⟨g,0,none⟩) n c)/\w'=w:=by
 go_enter Tryz.func160,Tryz.ntmps160
 go_wp2
 all_goals(go_ret;exact⟨rfl,rfl⟩)
theorem adM(xa:Option Addr)(m vc:Nat)(w:World)(hm:0<m)(v':Value)(W:World)(hr:∀ty,(Builtin.append_ #[26,26] ty #[.slice none 0 0,.slice xa m vc]).run ae w=.ok v' W):
  Calls ae 160 #[.slice none 0 0,.int .i64 0,.slice xa m vc] w fun e w'=>e=.returned v'/\w'=W:=by
 have hz1:¬((m:Int)=0):=by omega
 go_enter Tryz.func160,Tryz.ntmps160
 go_wp2_with (at_builtin;refine Du _ rfl _ _ 26 26 rfl _ _ rfl rfl (hr _) ?_)
 go_ret
 exact⟨rfl,rfl⟩
theorem adL(g n c:Nat)(xa:Option Addr)(m vc:Nat)(w:World)(hnc:n<=c)(hc63:c<=9223372036854775807)(hm:0<m)(v':Value)(W:World)(hr:∀ty,(Builtin.append_ #[26,26] ty #[.slice (some ⟨g,0,none⟩) n c,.slice xa m vc]).run ae w=.ok v' W):
  Calls ae 160 #[.slice (some ⟨g,0,none⟩) n c,.int .i64 n,.slice xa m vc] w fun e w'=>e=.returned v'/\w'=W:=by
 have hz1:¬((m:Int)=0):=by omega
 go_enter Tryz.func160,Tryz.ntmps160
 go_wp2_with (at_builtin;refine Du _ rfl _ _ 26 26 rfl _ _ rfl rfl (hr _) ?_)
 all_goals(go_ret;exact⟨rfl,rfl⟩)
theorem adK(g n c i vb m vc:Nat)(cur vcur:Array Value)(te ve:TypeId)(w:World)(hi:i<n)(hm:0<m)(hnc:n<=c)(hroom:c<n+m)(hc63:c<=9223372036854775807)(hbig:(n+m)*48<=140737488355328)
  (hg:w.heap[g]? =some (.cells cur te (0,0))) (hv:w.heap[vb]? =some (.cells vcur ve (0,0))) (hcs:cur.size=c*4) (hvs:m*4<=vcur.size)
  (h1c:∀v∈cur.toList.take (n*4),v.oneCell'=true) (h1v:∀v∈vcur.toList.take (m*4),v.oneCell'=true):
  ∃G ROW,∃W:World,G<=maxLen/\n+m<=G/\ROW.size=G*4/\ROW.toList.take (i*4)=cur.toList.take (i*4)/\W.os=w.os/\W.tape=w.tape/\W.output=w.output/\W.heap=w.heap.push (.cells ROW 73 (0,0))/\
  Calls ae 160 #[.slice (some ⟨g,0,none⟩) n c,.int .i64 i,.slice (some ⟨vb,0,none⟩) m vc] w fun e w'=>
   e=.returned (.slice (some ⟨w.heap.size,0,none⟩) (n+m) G)/\w'.os=w.os/\w'.tape=w.tape/\w'.output=w.output/\
    w'.heap=(W.setRow w.heap.size (bw (bw ROW.toList (i*4) (vcur.toList.take (m*4))) ((i+m)*4) ((cur.toList.take (n*4)).drop (i*4))).toArray).heap:=by
 have t33:ae.underlying 26=some (.slice 73):=by kernel_rfl
 have t3:ae.underlying 3=some (.int .i64):=by kernel_rfl
 have hsz:(ae.info? 73).map (·.size)=some 4:=by kernel_rfl
 have hinfo:(ae.info? 73).map (fun i=>(i.zero.map (·.cells.size),i.size,i.bytes))=some (some 4,4,48):=by kernel_rfl
 obtain⟨i0,hi0,hzz⟩:=Option.map_eq_some_iff.1 hinfo;simp only[Prod.mk.injEq] at hzz;obtain⟨hz0,hzs,hzb⟩:=hzz;obtain⟨z,hz,hzc⟩:=Option.map_eq_some_iff.1 hz0;have hz1:¬((m:Int)=0):=by omega
 have hz2:¬((i:Int)=(n:Int)):=by omega
 have hz3:(c:Int)<(n:Int)+(m:Int):=by omega
 have hgw:g<w.heap.size:=(Array.getElem?_eq_some_iff.1 hg).1;have hvw:vb<w.heap.size:=(Array.getElem?_eq_some_iff.1 hv).1;have hkk:(n:Int)+(m:Int)-(i:Int)=((n+m-i:Nat):Int):=by omega
 have hik:i+(n+m-i)=n+m:=by omega
 have hdl:((cur.toList.take (n*4)).drop (i*4)).length=(n-i)*4:=by simp only[List.length_drop,List.length_take,Array.length_toList,hcs];rw[Nat.min_eq_left (by omega),Nat.sub_mul]
 have hcl:∀j v,(cur.toList.take (n*4))[j]? =some v->w.cell? ⟨g,j,none⟩=some v:=fun j v h=>by
  rw[List.getElem?_take] at h;split at h
  ·simpa[World.cell?,hg] using h
  ·cases h
 have hcv:∀j v,(vcur.toList.take (m*4))[j]? =some v->w.cell? ⟨vb,j,none⟩=some v:=fun j v h=>by
  rw[List.getElem?_take] at h;split at h
  ·simpa[World.cell?,hv] using h
  ·cases h
 have hold:(Builtin.firstCells i0.size i (.slice (some ⟨g,0,none⟩) i c)).run ae w.drew=.ok (cur.toList.take (i*4)).toArray w.drew:=by
  rw[hzs];exact run_firstCells_some w.drew 4 i ⟨g,0,none⟩ i c (cur.toList.take (i*4)) (by simp only[List.length_take,Array.length_toList,hcs];omega) (fun j v hj=>by
   rw[Addr.add_lit,Nat.zero_add];refine hcl j v ?_
   rw[List.getElem?_take] at hj ⊢;split at hj
   ·rw[if_pos (by omega)];exact hj
   ·cases hj)
 have hrz:∀ty,(Builtin.append_ #[26,3] ty #[.slice (some ⟨g,0,none⟩) i c,.int .i64 ((n:Int)+(m:Int)-(i:Int))]).run ae w=
   .ok (.slice (some ⟨w.heap.size,0,none⟩) (n+m) (grownCap w (n+m) c 73)) (w.drew.alloc (.cells ((cur.toList.take (i*4)).toArray++Builtin.zeroCells z.cells (n+m-i)++Builtin.zeroCells z.cells (grownCap w (n+m) c 73-(n+m))) 73)):=fun ty=>by
  have h:=Lib.run_append_grow_zeros w 26 3 ty 73 i0 z .i64 .i64 t33 t3 hi0 hz (some ⟨g,0,none⟩) i c (cur.toList.take (i*4)) hold (n+m-i) (by omega) (by omega) (by omega) (by omega) (by rw[hzb];omega) (by rw[hzb,hik];exact growslice_fits hroom hbig)
  rw[hik] at h;rw[hkk];exact h
 obtain⟨G,hG⟩:∃G,G=grownCap w (n+m) c 73:=⟨_,rfl⟩;obtain⟨ROW,hROW⟩:∃ROW:Array Value,ROW=(cur.toList.take (i*4)).toArray++Builtin.zeroCells z.cells (n+m-i)++Builtin.zeroCells z.cells (G-(n+m)):=⟨_,rfl⟩;rw[<-hG] at hrz;rw[<-hROW] at hrz;have hGn:n+m<=G:=by rw[hG];exact grownCap_ge w _ _ _
 have hGm:G<=maxLen:=by rw[hG];exact grownCap_le_maxLen w (n+m) c 73 (by unfold maxLen;omega)
 have hG63:G<=9223372036854775807:=by unfold maxLen at hGm;omega
 have hRl:ROW.size=G*4:=by
  rw[hROW];simp only[Array.size_append,List.size_toArray,size_zeroCells,hzc,List.length_take,Array.length_toList,hcs];omega
 have hRt:ROW.toList.take (i*4)=cur.toList.take (i*4):=by
  rw[hROW];simp only[Array.toList_append,List.append_assoc];have:i*4=(cur.toList.take (i*4)).length:=by simp only[List.length_take,Array.length_toList,hcs];omega
  exact List.take_left' this.symm
 refine⟨G,ROW,w.drew.alloc (.cells ROW 73),hGm,hGn,hRl,hRt,rfl,rfl,rfl,rfl,?_⟩;obtain⟨W1,hW1⟩:∃W1,W1=w.drew.alloc (.cells ROW 73):=⟨_,rfl⟩;rw[<-hW1] at hrz ⊢;have hNew:W1.heap[w.heap.size]? =some (.cells ROW 73 (0,0)):=by rw[hW1];exact heap_alloc_new w.drew _
 have hOld:∀b,b<w.heap.size->W1.heap[b]? =w.heap[b]? :=fun b hb=>by rw[hW1];exact RowKit.Below.heap_alloc w.drew _ b hb
 have hos:W1.os=w.os/\W1.tape=w.tape/\W1.output=w.output:=by rw[hW1];exact⟨rfl,rfl,rfl⟩
 have hgN:g≠w.heap.size:=by omega
 have hvN:vb≠w.heap.size:=by omega
 have hcpA:∀(W:World),W.heap=W1.heap->∀ty dc,(Builtin.copy_ #[26,26] ty #[.slice (some ⟨w.heap.size,i*4,none⟩) (n+m-i) dc,.slice (some ⟨vb,0,none⟩) m vc]).run ae W=
   .ok (goInt (Nat.min m (n+m-i))) (W.setRow w.heap.size (bw ROW.toList (i*4) (vcur.toList.take (m*4))).toArray):=fun W hW ty dc=>
  yv W _ _ ty 73 4 w.heap.size (i*4) (n+m-i) dc ⟨vb,0,none⟩ m vc ROW 73 _ t33 hsz (by rw[hW];exact hNew)
   (by simp only[List.length_take,Array.length_toList,Nat.min_def];split<;>split<;>omega)
   (fun j v hj=>by
    have:=hcv j v hj;rw[Addr.add_lit,Nat.zero_add];unfold World.cell? at this ⊢;rw[hW,show W1.heap[vb]? =w.heap[vb]? from hOld vb hvw];exact this) (by simp only[List.length_take,Array.length_toList];omega) h1v
 obtain⟨R2,hR2⟩:∃R2,R2=(bw ROW.toList (i*4) (vcur.toList.take (m*4))).toArray:=⟨_,rfl⟩;have hE:W1.setRow w.heap.size (bw (bw ROW.toList (i*4) (vcur.toList.take (m*4))) ((i+m)*4) ((cur.toList.take (n*4)).drop (i*4))).toArray=
   (W1.setRow w.heap.size R2).setRow w.heap.size (bw R2.toList ((i+m)*4) ((cur.toList.take (n*4)).drop (i*4))).toArray:=by rw[setRow_setRow,hR2]
 rw[hE];have hR2s:R2.size=G*4:=by rw[hR2];simp only[bw,List.size_toArray,List.length_append,List.length_drop,List.length_take,Array.length_toList,hRl];omega
 rw[<-hR2] at hcpA;clear hE hR2;have hcpB:∀(W:World),W.heap=(W1.setRow w.heap.size R2).heap->∀ty dc sc,(Builtin.copy_ #[26,26] ty #[.slice (some ⟨w.heap.size,(i+m)*4,none⟩) (n+m-(i+m)) dc,.slice (some ⟨g,i*4,none⟩) (n-i) sc]).run ae W=
   .ok (goInt (Nat.min (n-i) (n+m-(i+m)))) (W.setRow w.heap.size (bw R2.toList ((i+m)*4) ((cur.toList.take (n*4)).drop (i*4))).toArray):=fun W hW ty dc sc=>
  yv W _ _ ty 73 4 w.heap.size ((i+m)*4) (n+m-(i+m)) dc ⟨g,i*4,none⟩ (n-i) sc R2 73 _ t33 hsz (by rw[hW];exact setRow_heap W1 w.heap.size ROW R2 73 (0,0) hNew)
   (by rw[hdl];simp only[Nat.min_def];split<;>omega)
   (fun j v hj=>by
    have:=hcl (i*4+j) v (by rwa[List.getElem?_drop] at hj)
    rw[Addr.add_lit];unfold World.cell? at this ⊢;rw[hW,show(W1.setRow w.heap.size R2).heap[g]? =w.heap[g]? from(setRow_other W1 w.heap.size g R2 hgN).trans (hOld g hgw)];exact this) (by rw[hdl,hR2s];omega) (fun v hv=>h1c v (List.mem_of_mem_drop hv))
 have hGi:¬(G=i):=by omega
 have hGim:¬(G=i+m):=by omega
 have hci:¬(c=i):=by omega
 have hw1:IntKind.i64.wrap ((i:Int)+(m:Int))=(i:Int)+(m:Int):=by rw[IntKind.wrap_i64];omega
 have hb1:(0:Int)<=(i:Int)+(m:Int):=by omega
 have hin:i<=n:=by omega
 have htn:((i:Int)+(m:Int)).toNat=i+m:=by omega
 have hb3:(i:Int)<=(n:Int):=by omega
 clear hkk hik hold hROW hG hRl hW1;go_enter Tryz.func160,Tryz.ntmps160
 go_wp2_with (first
  |(at_builtin;refine Du _ rfl _ _ 26 3 rfl _ _ rfl rfl (hrz _) ?_)
  |(at_builtin;refine Lw _ rfl _ _ 26 26 rfl _ _ rfl rfl (hcpA _ rfl _ _) ?_))
 go_region_law (refine LU rfl _ _ 26 26 rfl (.slice (some ⟨w.heap.size,(i+m)*4,none⟩) (n+m-(i+m)) (G-(i+m))) (.slice (some ⟨g,i*4,none⟩) (n-i) (c-i)) (by simp[Act.eval,Act.put]) (by simp[Act.eval,Act.put]) (hcpB (W1.setRow w.heap.size R2).drew rfl 3 (G-(i+m)) (c-i)) ?_)
 go_wp2
 go_ret
 exact⟨rfl,hos.1,hos.2.1,hos.2.2,rfl⟩
noncomputable def SK:bb:=Gx .entry 48
theorem ahZ:a_ ae 160 SK:=ab3 (t:=.entry) (bt:=48) rfl (by decide) (T:=26) (e:=73) ⟨ab6,ab5,adM,adL,ab4,adK⟩ (fun vs w=>enters_of Tryz.func160 (by kernel_rfl) rfl _ _) (by kernel_rfl) (by kernel_rfl)
noncomputable abbrev apV:bD:=[(86,Da),(87,C'),(159,I'),(160,SK)]
theorem Dd:bg ae (bu az apV):=bB ⟨Jr,z87,z159,ahZ,⟨⟩⟩
abbrev Qo:Shape:=⟨[a7 0 .entry,a7 1 .entry],[],59⟩
abbrev Qi:List bk:=[(.norm,⟨[a7 0 .entry,a7 1 .entry,aQ 18],[],59⟩)]
noncomputable def Hm(y:Qo.L):Option (aY Qi):=
(f86 ((y.1.1,()),())).bind fun a=>
 bif(!(!a.1.1)) then
(f86 ((y.1.2.1,()),())).bind fun b=>
 some ((y.1.1,y.1.2.1,(!b.1.1),()),())
else
 some ((y.1.1,y.1.2.1,true,()),())
theorem agr:bq ae (aH (codeOf Tryz.f97) 1 12) (bE Qo Qi Hm):=dI Dd (by kernel_rfl) aB fun y=>by kernel_rfl
abbrev Mu:Shape:=⟨[bS 6 3000384,bj 8 8 0,aq 9,a7 21 .entry,aq 22,aq 23],[b8 3000384 .entry 6 0,bi 8 [bC,bM,bM,bC]],59⟩
abbrev Mr:List bk:=[(.norm,⟨[bS 6 3000384,a7 21 .entry,aq 22,aq 23,aQ 42,bj 43 8 1,aq 44,aQ 45,aQ 46,aQ 53],[b8 3000384 .entry 6 0,bi 8 [bC,bM,bM,bC]],59⟩)]
noncomputable def DV(y:Mu.L):Option (aY Mr):=
 bif(y.2.2.1.2.1 !=(1:Int)) then
 some (((),y.1.2.2.2.1,y.1.2.2.2.2.1,y.1.2.2.2.2.2.1,true,(),y.2.2.1.2.1,(y.2.2.1.2.1 !=(1:Int)),true,true,()),y.2.1,(y.2.2.1.1,y.2.2.1.2.1,y.2.2.1.2.2.1,y.2.2.1.2.2.2.1,()),())
else
(iz y.2.1.length y.1.2.2.1).bind fun a=>
(y.2.1[a]?).bind fun b=>
 some (((),y.1.2.2.2.1,y.1.2.2.2.2.1,y.1.2.2.2.2.2.1,(!((b.path==y.2.2.1.1)&&((b.kind==y.2.2.1.2.1)&&((b.mode==y.2.2.1.2.2.1)&&(b.text==y.2.2.1.2.2.2.1))))),(),y.2.2.1.2.1,(y.2.2.1.2.1 !=(1:Int)),false,(!((b.path==y.2.2.1.1)&&((b.kind==y.2.2.1.2.1)&&((b.mode==y.2.2.1.2.2.1)&&(b.text==y.2.2.1.2.2.2.1))))),()),y.2.1,(y.2.2.1.1,y.2.2.1.2.1,y.2.2.1.2.2.1,y.2.2.1.2.2.2.1,()),())
theorem _Y:bq ae (aH (dn (aH (codeOf Tryz.f97) 1 122)) 244 250678) (bE Mu Mr DV):=dI Dd (by kernel_rfl) aB fun y=>by kernel_rfl
abbrev zy:Shape:=⟨[bS 6 3000384,a7 21 .entry,aq 22,aq 23],[b8 3000384 .entry 6 0],59⟩
abbrev q':List bk:=[(.ret,⟨[bS 4 3000256,aQ 5],[b8 3000256 .entry 4 0],59⟩),(.exit 0,⟨[bS 6 3000384],[b8 3000384 .entry 6 0],59⟩)]
noncomputable def Ak(y:zy.L):cy zy q':=
 bif(decide (y.1.2.2.2.1<y.1.2.2.1)) then
(bd y.1.2.1 y.1.2.2.2.1).bind fun a=>
(f87 ((y.2.1,a.path,()),())).bind fun b=>
 bif(!b.1.2.1) then
(ur 48 y.2.1 b.1.1 ([a]:List aR)).bind fun c=>
 some (.inl (((),y.1.2.1,y.1.2.2.1,(IntKind.i64.wrap (y.1.2.2.2.1+(1:Int))),()),c,()))
else
(DV (((),(),b.1.1,y.1.2.1,y.1.2.2.1,y.1.2.2.2.1,()),y.2.1,(a.path,a.kind,a.mode,a.text,()),())).bind fun d=>
 bif d.1.2.2.2.2.1 then
 some (.inr (.inl (((),false,()),([]:List aR),())))
else
 some (.inl (((),d.1.2.1,d.1.2.2.1,(IntKind.i64.wrap (d.1.2.2.2.1+(1:Int))),()),d.2.1,()))
else
 some (.inr (.inr (((),()),y.2.1,())))
noncomputable def F_:zy.L->Option (aY q'):=b7 Ak
theorem aeu:bq ae (aH (codeOf Tryz.f97) 1 122) (bE zy q' F_):=cE Dd (by kernel_rfl) (bN _Y aB) fun y=>by kernel_rfl
abbrev i97:Shape:=⟨[a7 0 .entry,a7 1 .entry],[],59⟩
abbrev Wa:Shape:=⟨[bS 4 3000256,aQ 5],[b8 3000256 .entry 4 0],59⟩
noncomputable def f97(a:i97.L):Option Wa.L:=
(Hm ((a.1.1,a.1.2.1,()),())).bind fun b=>
 bif b.1.2.2.1 then
 some (((),false,()),([]:List aR),())
else
(f159 ((b.1.1,()),())).bind fun c=>
(F_ (((),b.1.2.1,(b.1.2.1.length:Int),(0:Int),()),c.2.1,())).bind fun d=>
(match d with
|.inl e=>
 some (((),e.1.2.1,()),e.2.1,())
|.inr f=>
(f86 ((f.2.1,()),())).bind fun g=>
 bif(!g.1.1) then
 some (((),false,()),([]:List aR),())
else
 some (((),true,()),f.2.1,()))
noncomputable def Xq:bb:=bf az Tryz.f97 i97 Wa [] f97
theorem amE:a_ ae 97 Xq:=bh Dd Tryz.func97 (by kernel_rfl) (bN agr (bN aeu aB)) (fun y=>by kernel_rfl) fun a=>by kernel_rfl
noncomputable abbrev aqa:bD:=[(97,Xq)]
theorem XQ:bg ae (bu az aqa):=bB ⟨amE,⟨⟩⟩
abbrev A1:Shape:=⟨[bS 4 3000256,a7 9 .pack,aq 10,aq 11],[b8 3000256 .entry 4 0],27⟩
abbrev rf:List bk:=[(.ret,⟨[bS 2 3000128,aQ 3],[b8 3000128 .entry 2 0],27⟩),(.exit 0,⟨[bS 4 3000256],[b8 3000256 .entry 4 0],27⟩)]
noncomputable def Bj(y:A1.L):cy A1 rf:=
 bif(decide (y.1.2.2.2.1<y.1.2.2.1)) then
(bd y.1.2.1 y.1.2.2.2.1).bind fun a=>
(f97 ((y.2.1,a.bY,()),())).bind fun b=>
 bif(!b.1.2.1) then
 some (.inr (.inl (((),false,()),([]:List aR),())))
else
 some (.inl (((),y.1.2.1,y.1.2.2.1,(IntKind.i64.wrap (y.1.2.2.2.1+(1:Int))),()),b.2.1,()))
else
 some (.inr (.inr (((),()),y.2.1,())))
noncomputable def Hj:A1.L->Option (aY rf):=b7 Bj
theorem agC:bq ae (aH (codeOf Tryz.f52) 1 58) (bE A1 rf Hj):=cE XQ (by kernel_rfl) aB fun y=>by kernel_rfl
abbrev i52:Shape:=⟨[a7 0 .pack],[],27⟩
abbrev Wu:Shape:=⟨[bS 2 3000128,aQ 3],[b8 3000128 .entry 2 0],27⟩
noncomputable def f52(a:i52.L):Option Wu.L:=
(Hj (((),a.1.1,(a.1.1.length:Int),(0:Int),()),([]:List aR),())).bind fun b=>
(match b with
|.inl c=>
 some (((),c.1.2.1,()),c.2.1,())
|.inr d=>
 some (((),true,()),d.2.1,()))
noncomputable def KF:bb:=bf az Tryz.f52 i52 Wu [] f52
theorem VZ:a_ ae 52 KF:=bh XQ Tryz.func52 (by kernel_rfl) (bN agC aB) (fun y=>by kernel_rfl) fun a=>by kernel_rfl
theorem Et:∀(r:List aR) (out D:List aR),(∀e,e∈r->ol e)->(∀e,e∈out->ol e)->fL out r=some D->D.length<=out.length+r.length/\∀e,e∈D->ol e:=by
 intro r;induction r with
 |nil=>intro out D _ h2 h;cases h;exact⟨Nat.le_refl _,h2⟩
 |cons e r ih=>
  intro out D h1 h2 h;rw[pS] at h;obtain⟨o1,ab,aF⟩:=Option.bind_eq_some_iff.1 h;have bo:=ih o1 D (fun x hx=>h1 x (List.mem_cons_of_mem _ hx)) (fun x hx=>by
   rcases Ee ab hx with rfl|h
   ·exact h1 x List.mem_cons_self
   ·exact h2 x h) aF
  have dk:=yC ab;exact⟨by simp only[List.length_cons];omega,bo.2⟩
theorem jN{t:List aR}(h:dR t=true):ep t:=by
 unfold dR at h;simp only[Bool.and_eq_true] at h;exact RE h.1.1
theorem qV{t:List aR}(h:dR t=true):t.length<=16:=by
 unfold dR at h;simp only[Bool.and_eq_true,decide_eq_true_eq] at h;exact h.2
theorem N8(a)(M:cq a.1.1.length):f159 a=some (((),()),(a.1.1,())):=by
 obtain⟨⟨xs,u⟩,bv⟩:=a;have M:xs.length<=2097152:=M;have h2:(cR 48 ([]:List aR) xs).bind (fun x=>some (((),()),(x,())))=(some (((),()),(xs,())):Option Io.L):=by
  rw[eZ (by decide) (by unfold aM;simp only[List.length_nil];omega)];rfl
 simp only[f159];rw[h2];unfold oK;split
 ·rfl
 ·rename_i h;exact absurd (fun he:xs=[]=>by subst he;rfl) h
theorem _D(a)(aT:jD a.1.1)(hb:jD a.1.2.1)(h1:dR a.1.1=true)(h2:dR a.1.2.1=true):f97 a=
  some (match fL a.1.1 a.1.2.1 with|some out=>(bif dR out then(((),(true,())),(out,())) else(((),(false,())),(([]:List aR),())))|none=>(((),(false,())),(([]:List aR),()))):=by
 obtain⟨⟨xs,ys,u⟩,bv⟩:=a;have h1:dR xs=true:=h1;have h2:dR ys=true:=h2;have ast:=qV h1;have ass:=qV h2;have e1:=vw ((xs,()),()) aT;have e2:=vw ((ys,()),()) hb;have b0:=N8 ((xs,()),()) (show xs.length<=2097152 by omega)
 have key:F_ (((),(ys,((ys.length:Int),((0:Int),())))),(xs,()))=_:=nB Ak ys (fun i (out:List aR)=>(((),(ys,((ys.length:Int),((i:Int),())))),(out,())))
  (fun i e out=>some (match gH out e with|some D=>.inl D|none=>.inr ((.inl (((),(false,())),(([]:List aR),()))):aY q'))) (fun out=>((.inr (((),()),(out,()))):aY q'))
  (fun i out=>out.length<=xs.length+i/\ep out) xs ⟨Nat.le_refl _,jN h1⟩ (fun i x out hx dj=>?_) (fun out _=>?_)
 ·have fold:∀(r:List aR) (k:Nat) (out:List aR),e3 (fun i e out=>some (match gH out e with|some D=>.inl D|none=>.inr ((.inl (((),(false,())),(([]:List aR),()))):aY q'))) (fun out=>((.inr (((),()),(out,()))):aY q')) k r out=
    some (match fL out r with|some D=>.inr (((),()),(D,()))|none=>.inl (((),(false,())),(([]:List aR),()))):=by
   intro r;induction r with
   |nil=>intro k out;rfl
   |cons e r ih=>
    intro k out;rw[pS];simp only[e3];cases gH out e with
    |none=>rfl
    |some D=>simp only[Option.bind_some];exact ih _ _
  rw[fold] at key;simp only[f97,Hm,e1,e2,h1,h2,b0,Bool.not_true,Bool.not_false,cond_true,cond_false,Option.bind_some,key];cases hj:fL xs ys with
  |none=>rfl
  |some D=>
   have hm:=Et ys xs D hb.2 aT.2 hj;simp only[Option.bind_some];rw[vw _ ⟨show D.length<=2097152 by omega,hm.2⟩]
   simp only[Option.bind_some];cases dR D<;>rfl
 ·have hi:=ct hx;have hw:aM i:=by unfold aM;omega
  refine⟨?_,fun ar ah=>?_⟩
  ·have ly:=DA ((out,(x.path,())),()) (show out.length<=2097152 by omega) dj.2
   have qx:=ra out x.path;simp only[Ak,cF hi,cond_true,cc,hx,Option.bind_some,ly,gq,gH];have grow:ur 48 out (bU out x.path:Int) [x]=some (jW out (bU out x.path) x):=by
    unfold ur;rw[if_pos ⟨by omega,by omega,by unfold room;simp only[List.length_cons,List.length_nil];omega,by unfold maxLen;simp only[List.length_cons,List.length_nil];omega⟩,Int.toNat_natCast]
    rfl
   cases ao:out[bU out x.path]? with
   |none=>simp only[Bool.not_false,cond_true,grow,Option.bind_some,cl hw];rfl
   |some q=>
    have hin:=oU (ct ao);simp only;cases ag:(q.path==x.path) with
    |false=>simp only[Bool.not_false,cond_true,grow,Option.bind_some,cl hw,cond_false];rfl
    |true=>
     have C1:((q.path==x.path)&&((q.kind==x.kind)&&((q.mode==x.mode)&&(q.text==x.text))))=jG q x:=rfl;simp only[Bool.not_true,cond_false,cond_true,DV,hin,ao,Option.bind_some,j4,adX x q];cases af:(x.kind !=1) with
     |true=>rfl
     |false=>
      have akP:(jG q x)=((q.path==x.path)&&((q.kind==x.kind)&&((q.mode==x.mode)&&(q.text==x.text)))):=rfl;rw[akP];cases ((q.path==x.path)&&((q.kind==x.kind)&&((q.mode==x.mode)&&(q.text==x.text)))) with
      |false=>rfl
      |true=>simp only[Bool.not_true,Bool.false_or,cond_false,Option.bind_some,cl hw];rfl
  ·simp only[Option.some.injEq] at ah;cases M:gH out x with
   |none=>rw[M] at ah;cases ah
   |some D=>
    rw[M] at ah;cases ah;have dk:=yC M;exact⟨by omega,yD dj.2 M⟩
 ·simp only[Ak,dQ,cond_false]
def eM(out:List aR):List aI->Option (List aR)
 |[]=>some out
 |p::r=>match fL out p.bY with
  |some D=>bif dR D then eM D r else none
  |none=>none
def stepT(out:List aR)(p:aI):Option (List aR):=match fL out p.bY with
 |some D=>bif dR D then some D else none
 |none=>none
theorem sQ(out:List aR)(p:aI)(r:List aI):eM out (p::r)=(stepT out p).bind fun D=>eM D r:=by
 unfold stepT;rw[eM];cases fL out p.bY with
 |none=>rfl
 |some D=>simp only;cases dR D<;>rfl
theorem vD{out D:List aR}{p:aI}(h:stepT out p=some D):dR D=true/\fL out p.bY=some D:=by
 unfold stepT at h;split at h
 ·rename_i cX ap;cases aA:dR cX with
  |true=>rw[aA] at h;cases h;exact⟨aA,ap⟩
  |false=>rw[aA] at h;cases h
 ·cases h
theorem aaM(a)(hb:fb a.1.1)(af:a.1.1.all dV=true):f51 a=some (((),((eM [] a.1.1).isSome,())),((eM [] a.1.1).getD [],())):=by
 obtain⟨⟨F,u⟩,bv⟩:=a;have hl:F.length<=2097152:=hb.1;have JX:∀p,p∈F->dR p.bY=true/\jD p.bY:=by
  intro p ag;have:=List.all_eq_true.1 af p ag;unfold dV at this;simp only[Bool.and_eq_true] at this;exact⟨this.2,(hb.2 p ag).2.2.2⟩
 have key:Hk ((F,((),((0:Int),()))),(([]:List aR),()))=_:=nB Bk F (fun i (out:List aR)=>((F,((),((i:Int),()))),(out,())))
  (fun i p out=>some (match stepT out p with|some D=>.inl D|none=>.inr ((.inl (((),(false,())),(([]:List aR),()))):aY rh))) (fun out=>((.inr (((),()),(out,()))):aY rh))
  (fun i out=>out.length<=16/\∀e,e∈out->ol e) [] ⟨Nat.zero_le _,fun e h=>by cases h⟩ (fun i x out hx dj=>?_) (fun out _=>?_)
 ·have fold:∀(r:List aI) (k:Nat) (out:List aR),e3 (fun i p out=>some (match stepT out p with|some D=>.inl D|none=>.inr ((.inl (((),(false,())),(([]:List aR),()))):aY rh))) (fun out=>((.inr (((),()),(out,()))):aY rh)) k r out=
    some (match eM out r with|some D=>.inr (((),()),(D,()))|none=>.inl (((),(false,())),(([]:List aR),()))):=by
   intro r;induction r with
   |nil=>intro k out;rfl
   |cons p r ih=>
    intro k out;rw[sQ];simp only[e3];cases stepT out p with
    |none=>rfl
    |some D=>simp only[Option.bind_some];exact ih _ _
  rw[fold] at key;simp only[f51,key,Option.bind_some];cases eM [] F with
  |none=>rfl
  |some D=>rfl
 ·have hi:=ct hx;have hw:aM i:=by unfold aM;omega
  obtain⟨JY,mo⟩:=JX x (List.mem_of_getElem? hx);have Kp:=qV JY;have en:jD out:=⟨show out.length<=2097152 by omega,dj.2⟩
  refine⟨?_,fun ar ah=>?_⟩
  ·have hj:=acE ((out,(x.bY,())),()) en mo (show out.length+x.bY.length<=2097152 by omega)
   simp only[Bk,cF hi,cond_true,cc,hx,Option.bind_some,hj,stepT];cases fL out x.bY with
   |none=>rfl
   |some D=>
    simp only;cases dR D with
    |false=>rfl
    |true=>simp only[Bool.not_true,cond_false,cond_true,cl hw];rfl
  ·simp only[Option.some.injEq] at ah;cases M:stepT out x with
   |none=>rw[M] at ah;cases ah
   |some D=>
    rw[M] at ah;cases ah;obtain⟨bo,dk⟩:=vD M;exact⟨qV bo,(Et _ _ _ mo.2 dj.2 dk).2⟩
 ·simp only[Bk,dQ,cond_false]
theorem N1(a)(hb:fb a.1.1)(af:a.1.1.all dV=true):∃out,f51 a=some (((),((eM [] a.1.1).isSome,())),(out,())):=⟨_,aaM a hb af⟩
theorem LD(a)(hb:fb a.1.1)(af:a.1.1.all dV=true):f52 a=some (((),((eM [] a.1.1).isSome,())),((eM [] a.1.1).getD [],())):=by
 obtain⟨⟨F,u⟩,bv⟩:=a;have hl:F.length<=2097152:=hb.1;have JX:∀p,p∈F->dR p.bY=true/\jD p.bY:=by
  intro p ag;have:=List.all_eq_true.1 af p ag;unfold dV at this;simp only[Bool.and_eq_true] at this;exact⟨this.2,(hb.2 p ag).2.2.2⟩
 have key:Hj (((),(F,((F.length:Int),((0:Int),())))),(([]:List aR),()))=_:=nB Bj F (fun i (out:List aR)=>(((),(F,((F.length:Int),((i:Int),())))),(out,())))
  (fun i p out=>some (match stepT out p with|some D=>.inl D|none=>.inr ((.inl (((),(false,())),(([]:List aR),()))):aY rf))) (fun out=>((.inr (((),()),(out,()))):aY rf))
  (fun i out=>dR out=true/\∀e,e∈out->ol e) [] ⟨rfl,fun e h=>by cases h⟩ (fun i x out hx dj=>?_) (fun out _=>?_)
 ·have fold:∀(r:List aI) (k:Nat) (out:List aR),e3 (fun i p out=>some (match stepT out p with|some D=>.inl D|none=>.inr ((.inl (((),(false,())),(([]:List aR),()))):aY rf))) (fun out=>((.inr (((),()),(out,()))):aY rf)) k r out=
    some (match eM out r with|some D=>.inr (((),()),(D,()))|none=>.inl (((),(false,())),(([]:List aR),()))):=by
   intro r;induction r with
   |nil=>intro k out;rfl
   |cons p r ih=>
    intro k out;rw[sQ];simp only[e3];cases stepT out p with
    |none=>rfl
    |some D=>simp only[Option.bind_some];exact ih _ _
  rw[fold] at key;simp only[f52,key,Option.bind_some];cases eM [] F with
  |none=>rfl
  |some D=>rfl
 ·have hi:=ct hx;have hw:aM i:=by unfold aM;omega
  obtain⟨JY,mo⟩:=JX x (List.mem_of_getElem? hx);have Kp:=qV dj.1;have en:jD out:=⟨show out.length<=2097152 by omega,dj.2⟩
  refine⟨?_,fun ar ah=>?_⟩
  ·have hj:=_D ((out,(x.bY,())),()) en mo dj.1 JY;simp only[Bj,cF hi,cond_true,cc,hx,Option.bind_some,hj,stepT];cases fL out x.bY with
   |none=>rfl
   |some D=>
    simp only;cases dR D with
    |false=>rfl
    |true=>simp only[Bool.not_true,cond_false,cond_true,cl hw];rfl
  ·simp only[Option.some.injEq] at ah;cases M:stepT out x with
   |none=>rw[M] at ah;cases ah
   |some D=>
    rw[M] at ah;cases ah;obtain⟨bo,dk⟩:=vD M;exact⟨bo,(Et _ _ _ mo.2 dj.2 dk).2⟩
 ·simp only[Bj,dQ,cond_false]
theorem ZM(a)(hb:fb a.1.1)(af:a.1.1.all dV=true):∃out,f52 a=some (((),((eM [] a.1.1).isSome,())),(out,())):=⟨_,LD a hb af⟩
abbrev OF:Shape:=⟨[a7 0 .i64,a7 1 .i64,aq 5],[],42⟩
abbrev Om:List bk:=[(.norm,⟨[a7 0 .i64,a7 1 .i64,aq 5],[],42⟩),(.exit 0,⟨[],[],42⟩)]
noncomputable def s4(y:OF.L):Option (aY Om):=
 bif(!(decide (y.1.2.2.1<(y.1.1.length:Int)))) then
 bif(decide (y.1.2.2.1<(y.1.2.1.length:Int))) then
 some (.inl ((y.1.1,y.1.2.1,y.1.2.2.1,()),()))
else
 some (.inr ((),()))
else
 some (.inl ((y.1.1,y.1.2.1,y.1.2.2.1,()),()))
theorem adm:bq ae (aH (dn (aH (codeOf Tryz.f182) 1 26)) 52 104) (bE OF Om s4):=dI g0 (by kernel_rfl) aB fun y=>by kernel_rfl
abbrev No:Shape:=⟨[a7 0 .i64,a7 1 .i64,aq 5,aq 6,aq 7],[],42⟩
abbrev M':List bk:=[(.norm,⟨[a7 0 .i64,a7 1 .i64,aq 5,aq 6,aq 7],[],42⟩)]
noncomputable def vB(y:No.L):Option (aY M'):=
 bif(decide (y.1.2.2.1<(y.1.1.length:Int))) then
(bd y.1.1 y.1.2.2.1).bind fun a=>
 some ((y.1.1,y.1.2.1,y.1.2.2.1,a,y.1.2.2.2.2.1,()),())
else
 some ((y.1.1,y.1.2.1,y.1.2.2.1,y.1.2.2.2.1,y.1.2.2.2.2.1,()),())
theorem abA:bq ae (aH (dn (aH (codeOf Tryz.f182) 1 26)) 52 3366) (bE No M' vB):=dI g0 (by kernel_rfl) aB fun y=>by kernel_rfl
abbrev Nn:Shape:=⟨[a7 0 .i64,a7 1 .i64,aq 5,aq 6,aq 7],[],42⟩
abbrev M_:List bk:=[(.norm,⟨[a7 0 .i64,a7 1 .i64,aq 5,aq 6,aq 7],[],42⟩)]
noncomputable def vA(y:Nn.L):Option (aY M_):=
 bif(decide (y.1.2.2.1<(y.1.2.1.length:Int))) then
(bd y.1.2.1 y.1.2.2.1).bind fun a=>
 some ((y.1.1,y.1.2.1,y.1.2.2.1,y.1.2.2.2.1,a,()),())
else
 some ((y.1.1,y.1.2.1,y.1.2.2.1,y.1.2.2.2.1,y.1.2.2.2.2.1,()),())
theorem abz:bq ae (aH (dn (aH (codeOf Tryz.f182) 1 26)) 52 6734) (bE Nn M_ vA):=dI g0 (by kernel_rfl) aB fun y=>by kernel_rfl
abbrev zV:Shape:=⟨[a7 0 .i64,a7 1 .i64,aq 5],[],42⟩
abbrev FO:List bk:=[(.ret,⟨[aq 4],[],42⟩),(.exit 0,⟨[],[],42⟩)]
noncomputable def tb(y:zV.L):cy zV FO:=
(s4 ((y.1.1,y.1.2.1,y.1.2.2.1,()),())).bind fun a=>
(match a with
|.inl b=>
(vB ((b.1.1,b.1.2.1,b.1.2.2.1,((-1):Int),((-1):Int),()),())).bind fun c=>
(vA ((c.1.1,c.1.2.1,c.1.2.2.1,c.1.2.2.2.1,c.1.2.2.2.2.1,()),())).bind fun d=>
 bif(decide (d.1.2.2.2.1<d.1.2.2.2.2.1)) then
 some (.inr (.inl ((((-1):Int),()),())))
else
 bif(decide (d.1.2.2.2.1>d.1.2.2.2.2.1)) then
 some (.inr (.inl (((1:Int),()),())))
else
 some (.inl ((d.1.1,d.1.2.1,(IntKind.i64.wrap (d.1.2.2.1+(1:Int))),()),()))
|.inr e=>
 some (.inr (.inr ((),()))))
noncomputable def oS:zV.L->Option (aY FO):=b7 tb
theorem aeV:bq ae (aH (codeOf Tryz.f182) 1 26) (bE zV FO oS):=cE g0 (by kernel_rfl) (bN adm (bN abA (bN abz aB))) fun y=>by kernel_rfl
abbrev i182:Shape:=⟨[a7 0 .i64,a7 1 .i64],[],42⟩
abbrev Ik:Shape:=⟨[aq 4],[],42⟩
noncomputable def f182(a:i182.L):Option Ik.L:=
(oS ((a.1.1,a.1.2.1,(0:Int),()),())).bind fun b=>
(match b with
|.inl c=>
 some ((c.1.1,()),())
|.inr d=>
 some (((0:Int),()),()))
noncomputable def Vf:bb:=bf az Tryz.f182 i182 Ik [] f182
theorem z182:a_ ae 182 Vf:=bh g0 Tryz.func182 (by kernel_rfl) (bN aeV aB) (fun y=>by kernel_rfl) fun a=>by kernel_rfl
noncomputable abbrev alY:bD:=[(181,I8),(182,Vf)]
theorem VP:bg ae (bu az alY):=bB ⟨SS,z182,⟨⟩⟩
abbrev Pq:Shape:=⟨[bS 5 3000320,aQ 6,bS 7 3000448,aQ 8],[b8 3000320 .i64 5 0,b8 3000448 .i64 7 0],28⟩
abbrev Pf:List bk:=[(.norm,⟨[bS 5 3000320,bS 7 3000448,aQ 24],[b8 3000320 .i64 5 0,b8 3000448 .i64 7 0],28⟩)]
noncomputable def GK(y:Pq.L):Option (aY Pf):=
 bif(!(!y.1.2.1)) then
 some (((),(),(!y.1.2.2.2.1),()),y.2.1,y.2.2.1,())
else
 some (((),(),true,()),y.2.1,y.2.2.1,())
theorem ae8:bq ae (aH (codeOf Tryz.f126) 1 60) (bE Pq Pf GK):=dI VP (by kernel_rfl) aB fun y=>by kernel_rfl
abbrev i126:Shape:=⟨[a8 0,a8 1],[],28⟩
abbrev TX:Shape:=⟨[aq 4],[],28⟩
noncomputable def f126(a:i126.L):Option TX.L:=
(f181 ((a.1.1,()),())).bind fun b=>
(f181 ((a.1.2.1,()),())).bind fun c=>
(GK (((),b.1.2.1,(),c.1.2.1,()),b.2.1,c.2.1,())).bind fun d=>
 bif d.1.2.2.1 then
 some (((0:Int),()),())
else
(f182 ((d.2.1,d.2.2.1,()),())).bind fun e=>
 some ((e.1.1,()),())
noncomputable def Vw:bb:=bf az Tryz.f126 i126 TX [] f126
theorem ajH:a_ ae 126 Vw:=bh VP Tryz.func126 (by kernel_rfl) (bN ae8 aB) (fun y=>by kernel_rfl) fun a=>by kernel_rfl
abbrev i259:Shape:=⟨[aq 0],[],6⟩
abbrev Ti:Shape:=⟨[aQ 2],[],6⟩
noncomputable def f259(a:i259.L):Option Ti.L:=
 some (((a.1.1 !=a.1.1),()),())
noncomputable def UZ:bb:=bf az Tryz.f259 i259 Ti [] f259
theorem ajg:a_ ae 259 UZ:=bh g0 Tryz.func259 (by kernel_rfl) aB (fun y=>by kernel_rfl) fun a=>by kernel_rfl
noncomputable abbrev alz:bD:=[(259,UZ)]
theorem amg:bg ae (bu az alz):=bB ⟨ajg,⟨⟩⟩
abbrev i224:Shape:=⟨[aq 0,aq 1],[],20⟩
abbrev Ts:Shape:=⟨[aq 4],[],20⟩
noncomputable def f224(a:i224.L):Option Ts.L:=
(f259 ((a.1.1,()),())).bind fun b=>
(f259 ((a.1.2.1,()),())).bind fun c=>
 bif b.1.1 then
 bif c.1.1 then
 some (((0:Int),()),())
else
 some ((((-1):Int),()),())
else
 bif c.1.1 then
 some (((1:Int),()),())
else
 bif(decide (a.1.1<a.1.2.1)) then
 some ((((-1):Int),()),())
else
 bif(decide (a.1.1>a.1.2.1)) then
 some (((1:Int),()),())
else
 some (((0:Int),()),())
noncomputable def U8:bb:=bf az Tryz.f224 i224 Ts [] f224
theorem ajm:a_ ae 224 U8:=bh amg Tryz.func224 (by kernel_rfl) aB (fun y=>by kernel_rfl) fun a=>by kernel_rfl
noncomputable abbrev alH:bD:=[(224,U8)]
theorem VK:bg ae (bu az alH):=bB ⟨ajm,⟨⟩⟩
abbrev zU:Shape:=⟨[a7 0 .i64,a7 1 .i64,a7 9 .i64,aq 10,aq 11],[],36⟩
abbrev FN:List bk:=[(.ret,⟨[aq 4],[],36⟩),(.exit 0,⟨[a7 0 .i64,a7 1 .i64],[],36⟩)]
noncomputable def vV(y:zU.L):cy zU FN:=
 bif(decide (y.1.2.2.2.2.1<y.1.2.2.2.1)) then
(bd y.1.2.2.1 y.1.2.2.2.2.1).bind fun a=>
 bif(decide (y.1.2.2.2.2.1>=(y.1.2.1.length:Int))) then
 some (.inr (.inl (((1:Int),()),())))
else
(bd y.1.2.1 y.1.2.2.2.2.1).bind fun b=>
(f224 ((a,b,()),())).bind fun c=>
 bif(c.1.1 !=(0:Int)) then
 some (.inr (.inl ((c.1.1,()),())))
else
 some (.inl ((y.1.1,y.1.2.1,y.1.2.2.1,y.1.2.2.2.1,(IntKind.i64.wrap (y.1.2.2.2.2.1+(1:Int))),()),()))
else
 some (.inr (.inr ((y.1.1,y.1.2.1,()),())))
noncomputable def p1:zU.L->Option (aY FN):=b7 vV
theorem aeU:bq ae (aH (codeOf Tryz.f184) 1 26) (bE zU FN p1):=cE VK (by kernel_rfl) aB fun y=>by kernel_rfl
abbrev i184:Shape:=⟨[a7 0 .i64,a7 1 .i64],[],36⟩
abbrev Ij:Shape:=⟨[aq 4],[],36⟩
noncomputable def f184(a:i184.L):Option Ij.L:=
(p1 ((a.1.1,a.1.2.1,a.1.1,(a.1.1.length:Int),(0:Int),()),())).bind fun b=>
(match b with
|.inl c=>
 some ((c.1.1,()),())
|.inr d=>
 bif(decide ((d.1.1.length:Int)<(d.1.2.1.length:Int))) then
 some ((((-1):Int),()),())
else
 some (((0:Int),()),()))
noncomputable def Ve:bb:=bf az Tryz.f184 i184 Ij [] f184
theorem ajt:a_ ae 184 Ve:=bh VK Tryz.func184 (by kernel_rfl) (bN aeU aB) (fun y=>by kernel_rfl) fun a=>by kernel_rfl
noncomputable abbrev alW:bD:=[(184,Ve)]
theorem amr:bg ae (bu az alW):=bB ⟨ajt,⟨⟩⟩
abbrev i128:Shape:=⟨[a7 0 .i64,a7 1 .i64],[],8⟩
abbrev TV:Shape:=⟨[aq 4],[],8⟩
noncomputable def f128(a:i128.L):Option TV.L:=
(f184 ((a.1.1,a.1.2.1,()),())).bind fun b=>
 some ((b.1.1,()),())
noncomputable def Vv:bb:=bf az Tryz.f128 i128 TV [] f128
theorem ajG:a_ ae 128 Vv:=bh amr Tryz.func128 (by kernel_rfl) aB (fun y=>by kernel_rfl) fun a=>by kernel_rfl
noncomputable abbrev ap1:bD:=[(127,Ja),(128,Vv)]
theorem XL:bg ae (bu az ap1):=bB ⟨z127,ajG,⟨⟩⟩
abbrev Qq:Shape:=⟨[bS 5 3000320,aQ 6,bS 7 3000448,aQ 8],[b8 3000320 .i64 5 0,b8 3000448 .i64 7 0],28⟩
abbrev Qk:List bk:=[(.norm,⟨[bS 5 3000320,bS 7 3000448,aQ 24],[b8 3000320 .i64 5 0,b8 3000448 .i64 7 0],28⟩)]
noncomputable def Ho(y:Qq.L):Option (aY Qk):=
 bif(!(!y.1.2.1)) then
 some (((),(),(!y.1.2.2.2.1),()),y.2.1,y.2.2.1,())
else
 some (((),(),true,()),y.2.1,y.2.2.1,())
theorem agy:bq ae (aH (codeOf Tryz.f78) 1 60) (bE Qq Qk Ho):=dI XL (by kernel_rfl) aB fun y=>by kernel_rfl
abbrev i78:Shape:=⟨[a8 0,a8 1],[],28⟩
abbrev Wk:Shape:=⟨[aq 4],[],28⟩
noncomputable def f78(a:i78.L):Option Wk.L:=
(f127 ((a.1.1,()),())).bind fun b=>
(f127 ((a.1.2.1,()),())).bind fun c=>
(Ho (((),b.2.2.2.1.1,(),c.2.2.2.1.1,()),b.2.1,c.2.1,())).bind fun d=>
 bif d.1.2.2.1 then
 some (((0:Int),()),())
else
(f128 ((d.2.1,d.2.2.1,()),())).bind fun e=>
 some ((e.1.1,()),())
noncomputable def Xu:bb:=bf az Tryz.f78 i78 Wk [] f78
theorem amI:a_ ae 78 Xu:=bh XL Tryz.func78 (by kernel_rfl) (bN agy aB) (fun y=>by kernel_rfl) fun a=>by kernel_rfl
noncomputable abbrev alV:bD:=[(78,Xu),(119,Cr),(121,Jb)]
theorem VO:bg ae (bu az alV):=bB ⟨amI,z119,SV,⟨⟩⟩
abbrev Pp:Shape:=⟨[a8 1,a8 2,bj 3 3 0],[bi 3 [bC,bM,bC]],44⟩
abbrev Pe:List bk:=[(.norm,⟨[a8 2,bj 3 3 0,aQ 20],[bi 3 [bC,bM,bC]],44⟩)]
noncomputable def GJ(y:Pp.L):Option (aY Pe):=
(f121 (((y.2.1.1,y.2.1.2.1,y.2.1.2.2.1,()),()),())).bind fun a=>
 bif(!(!a.1.1)) then
(f119 ((y.1.2.1,()),())).bind fun b=>
 bif(!(!b.1.1)) then
 some ((y.1.2.1,(),(!(y.1.1==y.2.1.1)),()),(y.2.1.1,y.2.1.2.1,y.2.1.2.2.1,()),())
else
 some ((y.1.2.1,(),true,()),(y.2.1.1,y.2.1.2.1,y.2.1.2.2.1,()),())
else
 some ((y.1.2.1,(),true,()),(y.2.1.1,y.2.1.2.1,y.2.1.2.2.1,()),())
theorem ae6:bq ae (aH (codeOf Tryz.f132) 1 12) (bE Pp Pe GJ):=dI VO (by kernel_rfl) aB fun y=>by kernel_rfl
abbrev i132:Shape:=⟨[dS 0 [bC,bM,bC],a8 1,a8 2],[],44⟩
abbrev TU:Shape:=⟨[aQ 6],[],44⟩
noncomputable def f132(a:i132.L):Option TU.L:=
(GJ ((a.1.2.1,a.1.2.2.1,(),()),(a.1.1.1,a.1.1.2.1,a.1.1.2.2.1,()),())).bind fun b=>
 bif b.1.2.2.1 then
 some ((false,()),())
else
 bif(b.2.1.2.1==(1:Int)) then
(f78 ((b.1.1,b.2.1.2.2.1,()),())).bind fun c=>
 some (((c.1.1==(0:Int)),()),())
else
 bif(b.2.1.2.1==(2:Int)) then
(f78 ((b.1.1,b.2.1.2.2.1,()),())).bind fun d=>
 some (((decide (d.1.1>=(0:Int))),()),())
else
 bif(b.2.1.2.1==(3:Int)) then
(f78 ((b.1.1,b.2.1.2.2.1,()),())).bind fun e=>
 some (((decide (e.1.1<(0:Int))),()),())
else
 some ((true,()),())
noncomputable def Vu:bb:=bf az Tryz.f132 i132 TU [] f132
theorem ajF:a_ ae 132 Vu:=bh VO Tryz.func132 (by kernel_rfl) (bN ae6 aB) (fun y=>by kernel_rfl) fun a=>by kernel_rfl
noncomputable abbrev alG:bD:=[(126,Vw)]
theorem amk:bg ae (bu az alG):=bB ⟨ajH,⟨⟩⟩
abbrev i192:Shape:=⟨[dS 0 [bC,bM,bC],a8 1,a8 2],[],30⟩
abbrev TA:Shape:=⟨[aQ 6],[],30⟩
noncomputable def f192(a:i192.L):Option TA.L:=
 bif(!(a.1.1.1==a.1.2.1)) then
 some ((false,()),())
else
(f126 ((a.1.2.2.1,a.1.1.2.2.1,()),())).bind fun b=>
 bif(a.1.1.2.1==(1:Int)) then
 some (((b.1.1==(0:Int)),()),())
else
 bif(a.1.1.2.1==(2:Int)) then
 some (((decide (b.1.1>=(0:Int))),()),())
else
 bif(a.1.1.2.1==(3:Int)) then
 some (((decide (b.1.1<(0:Int))),()),())
else
 some ((true,()),())
noncomputable def Vb:bb:=bf az Tryz.f192 i192 TA [] f192
theorem ajq:a_ ae 192 Vb:=bh amk Tryz.func192 (by kernel_rfl) aB (fun y=>by kernel_rfl) fun a=>by kernel_rfl
def qk:List Int->List Int->Int
 |[],[]=>0
 |[],_::_=>-1
 |_::_,[]=>1
 |x::a,y::b=>bif decide (x<y) then-1 else bif decide (x>y) then 1 else qk a b
theorem drop_cons{aK:Type}{xs:List aK}{k:Nat}{x:aK}{r:List aK}(h:xs.drop k=x::r):xs[k]? =some x/\xs.drop (k+1)=r/\k<xs.length:=by
 have h1:xs[k]? =some x:=by
  have:=congrArg (fun l=>l[0]?) h
  simpa using this
 refine⟨h1,?_,ct h1⟩;have:=congrArg List.tail h;simpa using this
theorem drop_nil{aK:Type}{xs:List aK}{k:Nat}(h:xs.drop k=[]):xs.length<=k:=by
 have:=congrArg List.length h;simp at this;omega
theorem aaR(a)(h1:cq a.1.1.length)(h2:cq a.1.2.1.length)(nr:∀x,x∈a.1.1->0<=x)(ot:∀x,x∈a.1.2.1->0<=x):f182 a=some ((qk a.1.1 a.1.2.1,()),()):=by
 obtain⟨⟨xs,ys,u⟩,bv⟩:=a;have h1:xs.length<=2097152:=h1;have h2:ys.length<=2097152:=h2;have nr:∀x:Int,x∈xs->0<=x:=nr;have ot:∀x:Int,x∈ys->0<=x:=ot;have key:∀(n:Nat) (us ws:List Int) (k:Nat),us.length+ws.length=n->xs.drop k=us->ys.drop k=ws->k<=2097152->
   (oS ((xs,(ys,((k:Int),()))),())).bind (fun akb=>(match akb with|.inl aka=>some ((aka.1.1,()),())|.inr asn=>some (((0:Int),()),()):Option Ik.L))=some ((qk us ws,()),()):=by
  intro n;induction n using Nat.strongRecOn with
  |_ n ih=>
   intro us ws k hn aT hb af;have hw:aM k:=by unfold aM;omega
   match us,ws with
   |[],[]=>
    have c1:=drop_nil aT;have c2:=drop_nil hb;have d1:decide ((k:Int)<(xs.length:Int))=false:=by simp only[decide_eq_false_iff_not];omega
    have d2:decide ((k:Int)<(ys.length:Int))=false:=by simp only[decide_eq_false_iff_not];omega
    have:oS ((xs,(ys,((k:Int),()))),())=some (.inr ((),())):=by
     refine eL ?_
     simp only[tb,s4,d1,d2,Bool.not_false,cond_true,cond_false,Option.bind_some]
    rw[this];rfl
   |[],y::ws=>
    have c1:=drop_nil aT;obtain⟨c2,c3,eG⟩:=drop_cons hb;have al:=ot y (List.mem_of_getElem? c2);have d1:decide ((k:Int)<(xs.length:Int))=false:=by simp only[decide_eq_false_iff_not];omega
    have d3:decide ((-1:Int)<y)=true:=by simp only[decide_eq_true_eq];omega
    have:oS ((xs,(ys,((k:Int),()))),())=some (.inl ((((-1):Int),()),())):=by
     refine eL ?_
     simp only[tb,s4,vB,vA,d1,cF eG,cc,c2,Bool.not_false,cond_true,cond_false,Option.bind_some,d3]
    rw[this];rfl
   |x::us,[]=>
    have c1:=drop_nil hb;obtain⟨c2,c3,eG⟩:=drop_cons aT;have hx:=nr x (List.mem_of_getElem? c2);have d1:decide ((k:Int)<(ys.length:Int))=false:=by simp only[decide_eq_false_iff_not];omega
    have d3:decide (x<(-1:Int))=false:=by simp only[decide_eq_false_iff_not];omega
    have d4:decide (x>(-1:Int))=true:=by simp only[decide_eq_true_eq];omega
    have:oS ((xs,(ys,((k:Int),()))),())=some (.inl (((1:Int),()),())):=by
     refine eL ?_
     simp only[tb,s4,vB,vA,d1,cF eG,cc,c2,Bool.not_true,cond_true,cond_false,Option.bind_some,d3,d4]
    rw[this];rfl
   |x::us,y::ws=>
    obtain⟨c2,c3,eG⟩:=drop_cons aT;obtain⟨e2,b0,eu⟩:=drop_cons hb;have step:tb ((xs,(ys,((k:Int),()))),())=some (bif decide (x<y) then .inr (.inl ((((-1):Int),()),())) else bif decide (x>y) then .inr (.inl (((1:Int),()),())) else .inl ((xs,(ys,(((k+1:Nat):Int),()))),())):=by
     simp only[tb,s4,vB,vA,cF eG,cF eu,cc,c2,e2,Bool.not_true,cond_true,cond_false,Option.bind_some,cl hw];cases decide (x<y)<;>cases decide (x>y)<;>rfl
    rw[qk];cases a':decide (x<y) with
    |true=>rw[a',cond_true] at step;rw[show oS ((xs,(ys,((k:Int),()))),())=_ from eL step];rfl
    |false=>
     rw[a',cond_false] at step;cases sn:decide (x>y) with
     |true=>rw[sn,cond_true] at step;rw[show oS ((xs,(ys,((k:Int),()))),())=_ from eL step];rfl
     |false=>
      rw[sn,cond_false] at step;rw[show oS ((xs,(ys,((k:Int),()))),())=_ from gE step]
      exact ih (us.length+ws.length) (by simp only[List.length_cons] at hn;omega) us ws (k+1) rfl c3 b0 (by omega)
 have:=key _ xs ys 0 rfl rfl rfl (Nat.zero_le _);simp only[f182];exact this
theorem acJ(a):f224 a=some ((bif decide (a.1.1<a.1.2.1) then-1 else bif decide (a.1.1>a.1.2.1) then 1 else 0,()),()):=by
 obtain⟨⟨x,y,u⟩,bv⟩:=a;have hx:(x !=x)=false:=by simp
 have al:(y !=y)=false:=by simp
 simp only[f224,f259,Option.bind_some,hx,al,cond_false];cases decide (x<y)<;>cases decide (x>y)<;>rfl
theorem aa1(a)(h1:cq a.1.1.length)(h2:cq a.1.2.1.length):f184 a=some ((qk a.1.1 a.1.2.1,()),()):=by
 obtain⟨⟨xs,ys,u⟩,bv⟩:=a;have h1:xs.length<=2097152:=h1;have h2:ys.length<=2097152:=h2;have key:∀(us ws:List Int) (k:Nat),xs.drop k=us->ys.drop k=ws->k<=xs.length->
   (p1 ((xs,(ys,(xs,((xs.length:Int),((k:Int),()))))),())).bind (fun aih=>(match aih with
    |.inl aig=>some ((aig.1.1,()),())
    |.inr Sa=>bif(decide ((Sa.1.1.length:Int)<(Sa.1.2.1.length:Int))) then some ((((-1):Int),()),()) else some (((0:Int),()),()):Option Ij.L))=some ((qk us ws,()),()):=by
  intro us;induction us with
  |nil=>
   intro ws k aT hb af;have c1:=drop_nil aT;have d1:decide ((k:Int)<(xs.length:Int))=false:=by simp only[decide_eq_false_iff_not];omega
   have:p1 ((xs,(ys,(xs,((xs.length:Int),((k:Int),()))))),())=some (.inr ((xs,(ys,())),())):=by
    refine eL ?_
    simp only[vV,d1,cond_false]
   rw[this];simp only[Option.bind_some];cases ws with
   |nil=>
    have c2:=drop_nil hb;have:decide ((xs.length:Int)<(ys.length:Int))=false:=by simp only[decide_eq_false_iff_not];omega
    rw[this];rfl
   |cons y ws=>
    obtain⟨_,_,eG⟩:=drop_cons hb;rw[cF (show xs.length<ys.length by omega)];rfl
  |cons x us ih=>
   intro ws k aT hb af;obtain⟨c2,c3,eG⟩:=drop_cons aT;have hw:aM k:=by unfold aM;omega
   cases ws with
   |nil=>
    have c1:=drop_nil hb;have d1:decide ((k:Int)>=(ys.length:Int))=true:=by simp only[decide_eq_true_eq];omega
    have:p1 ((xs,(ys,(xs,((xs.length:Int),((k:Int),()))))),())=some (.inl (((1:Int),()),())):=by
     refine eL ?_
     simp only[vV,cF eG,cond_true,cc,c2,Option.bind_some,d1]
    rw[this];rfl
   |cons y ws=>
    obtain⟨e2,b0,eu⟩:=drop_cons hb;have d1:decide ((k:Int)>=(ys.length:Int))=false:=by simp only[decide_eq_false_iff_not];omega
    have step:vV ((xs,(ys,(xs,((xs.length:Int),((k:Int),()))))),())=some (bif decide (x<y) then .inr (.inl ((((-1):Int),()),())) else bif decide (x>y) then .inr (.inl (((1:Int),()),())) else .inl ((xs,(ys,(xs,((xs.length:Int),(((k+1:Nat):Int),()))))),())):=by
     simp only[vV,cF eG,cc,c2,e2,d1,cond_true,cond_false,Option.bind_some,acJ,cl hw];cases decide (x<y)<;>cases decide (x>y)<;>rfl
    rw[qk];cases a':decide (x<y) with
    |true=>rw[a',cond_true] at step;rw[show p1 ((xs,(ys,(xs,((xs.length:Int),((k:Int),()))))),())=_ from eL step];rfl
    |false=>
     rw[a',cond_false] at step;cases sn:decide (x>y) with
     |true=>rw[sn,cond_true] at step;rw[show p1 ((xs,(ys,(xs,((xs.length:Int),((k:Int),()))))),())=_ from eL step];rfl
     |false=>
      rw[sn,cond_false] at step;rw[show p1 ((xs,(ys,(xs,((xs.length:Int),((k:Int),()))))),())=_ from gE step]
      exact ih ws (k+1) c3 b0 (by omega)
 have:=key xs ys 0 rfl rfl (Nat.zero_le _);simp only[f184];exact this
def rH(a b:J):Int:=bif e7 a&&e7 b then qk (h7 a) (h7 b) else 0
theorem LB{s:J}(h:e7 s=true):∀x,x∈h7 s->0<=x:=by
 intro x hx;unfold h7 at hx;obtain⟨p,ag,rfl⟩:=List.mem_map.1 hx;unfold e7 at h;simp only[Bool.and_eq_true] at h;have:=List.all_eq_true.1 h.1 p ag;unfold fN at this;simp only[Bool.and_eq_true] at this;exact Mm p 0 this.1.1.1.1 (Int.le_refl _)
theorem yB(s:J):(h7 s).length<=s.length+1:=by
 unfold h7 iG;rw[List.length_map];exact qY 46 s
theorem YH(a)(h1:a.1.1.length<=2097151)(h2:a.1.2.1.length<=2097151):f126 a=some ((rH a.1.1 a.1.2.1,()),()):=by
 obtain⟨⟨x,y,u⟩,bv⟩:=a;have h1:x.length<=2097151:=h1;have h2:y.length<=2097151:=h2;obtain⟨o1,e1,q1⟩:=D2 ((x,()),()) (show x.length<=2097152 by omega)
 obtain⟨o2,e2,q2⟩:=D2 ((y,()),()) (show y.length<=2097152 by omega)
 simp only[f126,e1,e2,Option.bind_some,GK,rH,Bool.not_not];cases hx:e7 x with
 |false=>rfl
 |true=>
  cases al:e7 y with
  |false=>rfl
  |true=>
   have an8:=yB x;have xp:=yB y;have b_:o1=h7 x:=q1 hx;have w2:o2=h7 y:=q2 al;subst b_ w2;have b0:=aaR ((h7 x,(h7 y,())),()) (show(h7 x).length<=2097152 by omega) (show(h7 y).length<=2097152 by omega) (LB hx) (LB al)
   simp only[cond_true,Bool.not_true,Option.bind_some,cond_false,b0,Bool.and_self]
theorem YD(a)(h1:a.1.1.length<=2097151)(h2:a.1.2.1.length<=2097151):f78 a=some ((rH a.1.1 a.1.2.1,()),()):=by
 obtain⟨⟨x,y,u⟩,bv⟩:=a;have h1:x.length<=2097151:=h1;have h2:y.length<=2097151:=h2;have e1:=Dv ((x,()),()) (show x.length<=2097152 by omega)
 have e2:=Dv ((y,()),()) (show y.length<=2097152 by omega)
 simp only[f78,e1,e2,Option.bind_some,Ho,rH,Bool.not_not];cases hx:e7 x with
 |false=>rfl
 |true=>
  cases al:e7 y with
  |false=>rfl
  |true=>
   have an8:=yB x;have xp:=yB y;have b0:=aa1 ((h7 x,(h7 y,())),()) (show(h7 x).length<=2097152 by omega) (show(h7 y).length<=2097152 by omega)
   simp only[cond_true,Bool.not_true,Option.bind_some,cond_false,f128,b0,Bool.and_self]
def nP(n:dq)(v:J):Bool:=bif n.kind==1 then rH v n.b4==0 else bif n.kind==2 then decide (rH v n.b4>=0) else bif n.kind==3 then decide (rH v n.b4<0) else true
theorem acC(a)(h1:a.1.1.2.2.1.length<=2097151)(h2:a.1.2.2.1.length<=2097151)(hn:a.1.2.1=a.1.1.1):f192 a=some ((nP ⟨a.1.1.1,a.1.1.2.1,a.1.1.2.2.1⟩ a.1.2.2.1,()),()):=by
 obtain⟨⟨⟨n,k,v,u⟩,m,w,bv⟩,mc⟩:=a;obtain rfl:m=n:=hn;have e1:=YH ((w,(v,())),()) h2 h1;have gi:(m==m)=true:=by simp
 simp only[f192,gi,e1,Bool.not_true,cond_false,Option.bind_some,nP];cases (k==1)<;>cases (k==2)<;>cases (k==3)<;>rfl
def l8(n:dq)(name v:J):Bool:=iH n&&e7 v&&(name==n.name)&&nP n v
theorem _E(a)(h0:cq a.1.1.1.length)(h1:a.1.1.2.2.1.length<=2097151)(h2:a.1.2.2.1.length<=2097151):f132 a=some ((l8 ⟨a.1.1.1,a.1.1.2.1,a.1.1.2.2.1⟩ a.1.2.1 a.1.2.2.1,()),()):=by
 obtain⟨⟨⟨n,k,v,u⟩,m,w,bv⟩,mc⟩:=a;have h1:v.length<=2097151:=h1;have h2:w.length<=2097151:=h2;have e1:=YD ((w,(v,())),()) h2 h1;have e2:=M1 (((n,(k,(v,()))),()),()) h0 (show v.length<=2097152 by omega)
 have b0:=Dx ((w,()),()) (show w.length<=2097152 by omega)
 simp only[f132,GJ,e1,e2,b0,Bool.not_not,Option.bind_some,l8,nP];cases iH ⟨n,k,v⟩ with
 |false=>rfl
 |true=>
  cases e7 w with
  |false=>rfl
  |true=>
   cases (m==n) with
   |false=>rfl
   |true=>
    simp only[cond_true,Bool.not_true,Option.bind_some,cond_false,Bool.true_and];cases (k==1)<;>cases (k==2)<;>cases (k==3)<;>simp only[cond_true,cond_false,Option.bind_some,e1]
abbrev Ac:Shape:=⟨[a7 0 .pack,a8 1,aq 5],[],20⟩
abbrev FZ:List bk:=[(.ret,⟨[aq 4],[],20⟩),(.exit 0,⟨[],[],20⟩)]
noncomputable def AH(y:Ac.L):cy Ac FZ:=
 bif(decide (y.1.2.2.1<(y.1.1.length:Int))) then
(bd y.1.1 y.1.2.2.1).bind fun a=>
 bif(a.name==y.1.2.1) then
 some (.inr (.inl ((y.1.2.2.1,()),())))
else
 some (.inl ((y.1.1,y.1.2.1,(IntKind.i64.wrap (y.1.2.2.1+(1:Int))),()),()))
else
 some (.inr (.inr ((),())))
noncomputable def s':Ac.L->Option (aY FZ):=b7 AH
theorem afd:bq ae (aH (codeOf Tryz.f104) 1 26) (bE Ac FZ s'):=cE g0 (by kernel_rfl) aB fun y=>by kernel_rfl
abbrev i104:Shape:=⟨[a7 0 .pack,a8 1],[],20⟩
abbrev T9:Shape:=⟨[aq 4],[],20⟩
noncomputable def f104(a:i104.L):Option T9.L:=
(s' ((a.1.1,a.1.2.1,(0:Int),()),())).bind fun b=>
(match b with
|.inl c=>
 some ((c.1.1,()),())
|.inr d=>
 some ((((-1):Int),()),()))
noncomputable def Cs:bb:=bf az Tryz.f104 i104 T9 [] f104
theorem H6:a_ ae 104 Cs:=bh g0 Tryz.func104 (by kernel_rfl) (bN afd aB) (fun y=>by kernel_rfl) fun a=>by kernel_rfl
noncomputable abbrev alT:bD:=[(104,Cs),(192,Vb)]
theorem Cv:bg ae (bu az alT):=bB ⟨H6,ajq,⟨⟩⟩
abbrev LY:Shape:=⟨[a7 0 .pack,aq 3,aq 4,bj 5 5 0,aq 6],[bi 5 [bC,bM,bC]],49⟩
abbrev LS:List bk:=[(.norm,⟨[a7 0 .pack,aq 3,aq 4,aq 35,aQ 36,aQ 37,aQ 48],[],49⟩)]
noncomputable def yq(y:LY.L):Option (aY LS):=
 bif(decide (y.1.2.2.2.2.1<(0:Int))) then
 some ((y.1.1,y.1.2.1,y.1.2.2.1,y.1.2.2.2.2.1,(decide (y.1.2.2.2.2.1<(0:Int))),true,true,()),())
else
(bd y.1.1 y.1.2.2.2.2.1).bind fun a=>
(f192 (((y.2.1.1,y.2.1.2.1,y.2.1.2.2.1,()),y.2.1.1,a.b4,()),())).bind fun b=>
 some ((y.1.1,y.1.2.1,y.1.2.2.1,y.1.2.2.2.2.1,(decide (y.1.2.2.2.2.1<(0:Int))),false,(!b.1.1),()),())
theorem Z7:bq ae (aH (dn (aH (dn (aH (codeOf Tryz.f135) 1 26)) 52 1682)) 3364 215334) (bE LY LS yq):=dI Cv (by kernel_rfl) aB fun y=>by kernel_rfl
abbrev yL:Shape:=⟨[a7 0 .pack,aq 3,aq 4],[],49⟩
abbrev D':List bk:=[(.ret,⟨[aQ 2],[],49⟩),(.exit 2,⟨[a7 0 .pack,aq 3],[],49⟩)]
noncomputable def y1(y:yL.L):cy yL D':=
(bd y.1.1 y.1.2.1).bind fun a=>
 bif(decide (y.1.2.2.1<(a.bI.length:Int))) then
(bd y.1.1 y.1.2.1).bind fun b=>
(bd b.bI y.1.2.2.1).bind fun c=>
(f104 ((y.1.1,c.name,()),())).bind fun d=>
(yq ((y.1.1,y.1.2.1,y.1.2.2.1,(),d.1.1,()),(c.name,c.kind,c.b4,()),())).bind fun e=>
 bif e.1.2.2.2.2.2.2.1 then
 some (.inr (.inl ((false,()),())))
else
 some (.inl ((e.1.1,e.1.2.1,(IntKind.i64.wrap (e.1.2.2.1+(1:Int))),()),()))
else
 some (.inr (.inr ((y.1.1,y.1.2.1,()),())))
noncomputable def Eo:yL.L->Option (aY D'):=b7 y1
theorem abF:bq ae (aH (dn (aH (codeOf Tryz.f135) 1 26)) 52 1682) (bE yL D' Eo):=cE Cv (by kernel_rfl) (bN Z7 aB) fun y=>by kernel_rfl
abbrev z8:Shape:=⟨[a7 0 .pack,aq 3],[],49⟩
abbrev FU:List bk:=[(.ret,⟨[aQ 2],[],49⟩),(.exit 0,⟨[],[],49⟩)]
noncomputable def AE(y:z8.L):cy z8 FU:=
 bif(decide (y.1.2.1<(y.1.1.length:Int))) then
(Eo ((y.1.1,y.1.2.1,(0:Int),()),())).bind fun a=>
(match a with
|.inl b=>
 some (.inr (.inl ((b.1.1,()),())))
|.inr c=>
 some (.inl ((c.1.1,(IntKind.i64.wrap (c.1.2.1+(1:Int))),()),())))
else
 some (.inr (.inr ((),())))
noncomputable def Gu:z8.L->Option (aY FU):=b7 AE
theorem ae5:bq ae (aH (codeOf Tryz.f135) 1 26) (bE z8 FU Gu):=cE Cv (by kernel_rfl) (bN abF aB) fun y=>by kernel_rfl
abbrev i135:Shape:=⟨[a7 0 .pack],[],49⟩
abbrev TS:Shape:=⟨[aQ 2],[],49⟩
noncomputable def f135(a:i135.L):Option TS.L:=
(Gu ((a.1.1,(0:Int),()),())).bind fun b=>
(match b with
|.inl c=>
 some ((c.1.1,()),())
|.inr d=>
 some ((true,()),()))
noncomputable def Vs:bb:=bf az Tryz.f135 i135 TS [] f135
theorem ajD:a_ ae 135 Vs:=bh Cv Tryz.func135 (by kernel_rfl) (bN ae5 aB) (fun y=>by kernel_rfl) fun a=>by kernel_rfl
noncomputable abbrev ahv:bD:=[(101,HD),(141,Vo)]
theorem RY:bg ae (bu az ahv):=bB ⟨Qd,z141,⟨⟩⟩
abbrev Nq:Shape:=⟨[(0,.am (.eH [.sl .pack] 0))],[],10⟩
abbrev Nb:List bk:=[(.norm,⟨[aQ 9],[],10⟩)]
noncomputable def EA(y:Nq.L):Option (aY Nb):=
(wk ((y.1.1.1,(),()),())).bind fun a=>
 bif(!(!a.1.1)) then
(f141 ((y.1.1.1,()),())).bind fun b=>
 some (((!b.1.1),()),())
else
 some ((true,()),())
theorem abD:bq ae (aH (codeOf Tryz.f140) 1 12) (bE Nq Nb EA):=dI RY (by kernel_rfl) aB fun y=>by kernel_rfl
abbrev Rm:Shape:=⟨[(0,.am (.eH [.sl .pack] 0))],[],10⟩
abbrev QP:Shape:=⟨[aq 1],[],10⟩
noncomputable def tI(a:Rm.L):Option QP.L:=
(EA (((a.1.1.1,()),()),())).bind fun b=>
 bif b.1.1 then
 some (((1:Int),()),())
else
 some (((0:Int),()),())
noncomputable def RQ:bb:=bf az Tryz.f140 Rm QP [] tI
theorem af7:a_ ae 140 RQ:=bh RY Tryz.func140 (by kernel_rfl) (bN abD aB) (fun y=>by kernel_rfl) fun a=>by kernel_rfl
abbrev Rl:Shape:=⟨[(0,.am (.eH [.sl .pack] 0))],[],5⟩
abbrev QO:Shape:=⟨[aq 1],[],5⟩
noncomputable def tH(a:Rl.L):Option QO.L:=
 bif(decide ((a.1.1.1.length:Int)>(5:Int))) then
 some (((6:Int),()),())
else
 some (((0:Int),()),())
noncomputable def RP:bb:=bf az Tryz.f142 Rl QO [] tH
theorem af6:a_ ae 142 RP:=bh g0 Tryz.func142 (by kernel_rfl) aB (fun y=>by kernel_rfl) fun a=>by kernel_rfl
noncomputable abbrev ahn:bD:=[(132,Vu)]
theorem ahL:bg ae (bu az ahn):=bB ⟨ajF,⟨⟩⟩
abbrev Rc:Shape:=⟨[dS 0 [bC,bC,bJ .need,bJ .entry],(1,.am (.eH [.str,.int .i64,.str] 0))],[],10⟩
abbrev QG:Shape:=⟨[aQ 3],[],10⟩
noncomputable def Hq(a:Rc.L):Option QG.L:=
(f132 (((a.1.2.1.1,a.1.2.1.2.1,a.1.2.1.2.2.1,()),a.1.1.1,a.1.1.2.1,()),())).bind fun b=>
 some ((b.1.1,()),())
noncomputable def RK:bb:=bf az Tryz.f196 Rc QG [] Hq
theorem af1:a_ ae 196 RK:=bh ahL Tryz.func196 (by kernel_rfl) aB (fun y=>by kernel_rfl) fun a=>by kernel_rfl
noncomputable abbrev ahj:bD:=[(196,RK)]
theorem RX:bg ae (bu az ahj):=bB ⟨af1,⟨⟩⟩
abbrev yI:Shape:=⟨[a7 0 .pack,(1,.am (.fn 196 [[.str,.int .i64,.str]])),aq 7,aq 8],[],19⟩
abbrev D8:List bk:=[(.ret,⟨[aq 4],[],19⟩),(.exit 0,⟨[],[],19⟩)]
noncomputable def yX(y:yI.L):cy yI D8:=
 bif(decide (y.1.2.2.2.1<y.1.2.2.1)) then
(bd y.1.1 y.1.2.2.2.1).bind fun a=>
(Hq (((a.name,a.b4,a.bI,a.bY,()),(y.1.2.1.1.1,y.1.2.1.1.2.1,y.1.2.1.1.2.2.1,()),()),())).bind fun b=>
 bif b.1.1 then
 some (.inr (.inl ((y.1.2.2.2.1,()),())))
else
 some (.inl ((y.1.1,((y.1.2.1.1.1,y.1.2.1.1.2.1,y.1.2.1.1.2.2.1,()),()),y.1.2.2.1,(IntKind.i64.wrap (y.1.2.2.2.1+(1:Int))),()),()))
else
 some (.inr (.inr ((),())))
noncomputable def sY:yI.L->Option (aY D8):=b7 yX
theorem abw:bq ae (aH (codeOf Tryz.f231) 1 26) (bE yI D8 sY):=cE RX (by kernel_rfl) aB fun y=>by kernel_rfl
abbrev Q_:Shape:=⟨[a7 0 .pack,(1,.am (.fn 196 [[.str,.int .i64,.str]]))],[],19⟩
abbrev G9:Shape:=⟨[aq 4],[],19⟩
noncomputable def Bo(a:Q_.L):Option G9.L:=
(sY ((a.1.1,((a.1.2.1.1.1,a.1.2.1.1.2.1,a.1.2.1.1.2.2.1,()),()),(a.1.1.length:Int),(0:Int),()),())).bind fun b=>
(match b with
|.inl c=>
 some ((c.1.1,()),())
|.inr d=>
 some ((((-1):Int),()),()))
noncomputable def RH:bb:=bf az Tryz.f231 Q_ G9 [] Bo
theorem afY:a_ ae 231 RH:=bh RX Tryz.func231 (by kernel_rfl) (bN abw aB) (fun y=>by kernel_rfl) fun a=>by kernel_rfl
noncomputable abbrev ahm:bD:=[(231,RH)]
theorem ahK:bg ae (bu az ahm):=bB ⟨afY,⟨⟩⟩
abbrev Rb:Shape:=⟨[a7 0 .pack,(1,.am (.fn 196 [[.str,.int .i64,.str]]))],[],9⟩
abbrev QF:Shape:=⟨[aQ 4],[],9⟩
noncomputable def Bp(a:Rb.L):Option QF.L:=
(Bo ((a.1.1,((a.1.2.1.1.1,a.1.2.1.1.2.1,a.1.2.1.1.2.2.1,()),()),()),())).bind fun b=>
 some (((decide (b.1.1>=(0:Int))),()),())
noncomputable def RJ:bb:=bf az Tryz.f197 Rb QF [] Bp
theorem af0:a_ ae 197 RJ:=bh ahK Tryz.func197 (by kernel_rfl) aB (fun y=>by kernel_rfl) fun a=>by kernel_rfl
noncomputable abbrev alP:bD:=[(197,RJ)]
theorem Jo:bg ae (bu az alP):=bB ⟨af0,⟨⟩⟩
abbrev yJ:Shape:=⟨[a7 0 .pack,a7 8 .pack,aq 9,aq 10,a7 15 .need,aq 16,aq 17],[],28⟩
abbrev D9:List bk:=[(.ret,⟨[aQ 2],[],28⟩),(.exit 2,⟨[a7 0 .pack,a7 8 .pack,aq 9,aq 10],[],28⟩)]
noncomputable def yZ(y:yJ.L):cy yJ D9:=
 bif(decide (y.1.2.2.2.2.2.2.1<y.1.2.2.2.2.2.1)) then
(bd y.1.2.2.2.2.1 y.1.2.2.2.2.2.2.1).bind fun a=>
(Bp ((y.1.1,((a.name,a.kind,a.b4,()),()),()),())).bind fun b=>
 bif(!b.1.1) then
 some (.inr (.inl ((false,()),())))
else
 some (.inl ((y.1.1,y.1.2.1,y.1.2.2.1,y.1.2.2.2.1,y.1.2.2.2.2.1,y.1.2.2.2.2.2.1,(IntKind.i64.wrap (y.1.2.2.2.2.2.2.1+(1:Int))),()),()))
else
 some (.inr (.inr ((y.1.1,y.1.2.1,y.1.2.2.1,y.1.2.2.2.1,()),())))
noncomputable def En:yJ.L->Option (aY D9):=b7 yZ
theorem abC:bq ae (aH (dn (aH (codeOf Tryz.f144) 1 26)) 52 6758) (bE yJ D9 En):=cE Jo (by kernel_rfl) aB fun y=>by kernel_rfl
abbrev z6:Shape:=⟨[a7 0 .pack,a7 8 .pack,aq 9,aq 10],[],28⟩
abbrev FS:List bk:=[(.ret,⟨[aQ 2],[],28⟩),(.exit 0,⟨[],[],28⟩)]
noncomputable def AC(y:z6.L):cy z6 FS:=
 bif(decide (y.1.2.2.2.1<y.1.2.2.1)) then
(bd y.1.2.1 y.1.2.2.2.1).bind fun a=>
(En ((y.1.1,y.1.2.1,y.1.2.2.1,y.1.2.2.2.1,a.bI,(a.bI.length:Int),(0:Int),()),())).bind fun b=>
(match b with
|.inl c=>
 some (.inr (.inl ((c.1.1,()),())))
|.inr d=>
 some (.inl ((d.1.1,d.1.2.1,d.1.2.2.1,(IntKind.i64.wrap (d.1.2.2.2.1+(1:Int))),()),())))
else
 some (.inr (.inr ((),())))
noncomputable def Gs:z6.L->Option (aY FS):=b7 AC
theorem ae2:bq ae (aH (codeOf Tryz.f144) 1 26) (bE z6 FS Gs):=cE Jo (by kernel_rfl) (bN abC aB) fun y=>by kernel_rfl
abbrev i144:Shape:=⟨[a7 0 .pack],[],28⟩
abbrev TN:Shape:=⟨[aQ 2],[],28⟩
noncomputable def f144(a:i144.L):Option TN.L:=
(Gs ((a.1.1,a.1.1,(a.1.1.length:Int),(0:Int),()),())).bind fun b=>
(match b with
|.inl c=>
 some ((c.1.1,()),())
|.inr d=>
 some ((true,()),()))
noncomputable def Vn:bb:=bf az Tryz.f144 i144 TN [] f144
theorem ajA:a_ ae 144 Vn:=bh Jo Tryz.func144 (by kernel_rfl) (bN ae2 aB) (fun y=>by kernel_rfl) fun a=>by kernel_rfl
noncomputable abbrev ahu:bD:=[(144,Vn)]
theorem ahS:bg ae (bu az ahu):=bB ⟨ajA,⟨⟩⟩
abbrev Rk:Shape:=⟨[(0,.am (.eH [.sl .pack] 0))],[],5⟩
abbrev QN:Shape:=⟨[aq 1],[],5⟩
noncomputable def tG(a:Rk.L):Option QN.L:=
(f144 ((a.1.1.1,()),())).bind fun b=>
 bif(!b.1.1) then
 some (((4:Int),()),())
else
 some (((0:Int),()),())
noncomputable def RO:bb:=bf az Tryz.f143 Rk QN [] tG
theorem af5:a_ ae 143 RO:=bh ahS Tryz.func143 (by kernel_rfl) aB (fun y=>by kernel_rfl) fun a=>by kernel_rfl
noncomputable abbrev aht:bD:=[(52,KF)]
theorem ahR:bg ae (bu az aht):=bB ⟨VZ,⟨⟩⟩
abbrev Rj:Shape:=⟨[(0,.am (.eH [.sl .pack] 0))],[],11⟩
abbrev QM:Shape:=⟨[aq 1],[],11⟩
noncomputable def tF(a:Rj.L):Option QM.L:=
(f52 ((a.1.1.1,()),())).bind fun b=>
 bif(!b.1.2.1) then
 some (((5:Int),()),())
else
 some (((0:Int),()),())
noncomputable def RN:bb:=bf az Tryz.f145 Rj QM [] tF
theorem af4:a_ ae 145 RN:=bh ahR Tryz.func145 (by kernel_rfl) aB (fun y=>by kernel_rfl) fun a=>by kernel_rfl
noncomputable abbrev apZ:bD:=[(51,XA),(98,KA),(135,Vs)]
theorem KM:bg ae (bu az apZ):=bB ⟨z51,VU,ajD,⟨⟩⟩
abbrev Pj:Shape:=⟨[a7 0 .pack,aq 3],[],52⟩
abbrev O_:List bk:=[(.norm,⟨[a7 0 .pack,aq 3,a7 12 .pack,aq 13,(14,.am (.eH [.str,.str,.sl .need,.sl .entry] 0)),dS 15 [bC,bC,bJ .need,bJ .entry],aQ 16,aQ 17,aQ 18,aQ 35],[],52⟩)]
noncomputable def Am(y:Pj.L):Option (aY O_):=
(bd y.1.1 y.1.2.1).bind fun a=>
(f98 (((a.name,a.b4,a.bI,a.bY,()),()),())).bind fun b=>
 bif(!b.1.1) then
 some ((y.1.1,y.1.2.1,y.1.1,y.1.2.1,(a.name,a.b4,a.bI,a.bY,()),(a.name,a.b4,a.bI,a.bY,()),b.1.1,(!b.1.1),true,true,()),())
else
 bif(decide (y.1.2.1>(0:Int))) then
(bd y.1.1 (IntKind.i64.wrap (y.1.2.1-(1:Int)))).bind fun c=>
(bd y.1.1 y.1.2.1).bind fun d=>
 some ((y.1.1,y.1.2.1,y.1.1,y.1.2.1,(a.name,a.b4,a.bI,a.bY,()),(a.name,a.b4,a.bI,a.bY,()),b.1.1,(!b.1.1),false,(!(Op.bytesLess c.name d.name)),()),())
else
 some ((y.1.1,y.1.2.1,y.1.1,y.1.2.1,(a.name,a.b4,a.bI,a.bY,()),(a.name,a.b4,a.bI,a.bY,()),b.1.1,(!b.1.1),false,false,()),())
theorem aew:bq ae (aH (dn (aH (codeOf Tryz.f85) 1 26)) 52 840) (bE Pj O_ Am):=dI KM (by kernel_rfl) aB fun y=>by kernel_rfl
abbrev AX:Shape:=⟨[a7 0 .pack,aq 3],[],52⟩
abbrev G2:List bk:=[(.ret,⟨[aq 2],[],52⟩),(.exit 0,⟨[a7 0 .pack],[],52⟩)]
noncomputable def rk(y:AX.L):cy AX G2:=
 bif(decide (y.1.2.1<(y.1.1.length:Int))) then
(Am ((y.1.1,y.1.2.1,()),())).bind fun a=>
 bif a.1.2.2.2.2.2.2.2.2.2.1 then
 some (.inr (.inl (((1:Int),()),())))
else
 some (.inl ((a.1.1,(IntKind.i64.wrap (a.1.2.1+(1:Int))),()),()))
else
 some (.inr (.inr ((y.1.1,()),())))
noncomputable def A9:AX.L->Option (aY G2):=b7 rk
theorem agw:bq ae (aH (codeOf Tryz.f85) 1 26) (bE AX G2 A9):=cE KM (by kernel_rfl) (bN aew aB) fun y=>by kernel_rfl
abbrev i85:Shape:=⟨[a7 0 .pack],[],52⟩
abbrev Wi:Shape:=⟨[aq 2],[],52⟩
noncomputable def f85(a:i85.L):Option Wi.L:=
(A9 ((a.1.1,(0:Int),()),())).bind fun b=>
(match b with
|.inl c=>
 some ((c.1.1,()),())
|.inr d=>
(f51 ((d.1.1,()),())).bind fun e=>
 bif(decide ((d.1.1.length:Int)>(5:Int))) then
 some (((6:Int),()),())
else
(f135 ((d.1.1,()),())).bind fun f=>
 bif(!f.1.1) then
 some (((4:Int),()),())
else
 bif(!e.1.2.1) then
 some (((5:Int),()),())
else
 some (((0:Int),()),()))
noncomputable def KC:bb:=bf az Tryz.f85 i85 Wi [] f85
theorem z85:a_ ae 85 KC:=bh KM Tryz.func85 (by kernel_rfl) (bN agw aB) (fun y=>by kernel_rfl) fun a=>by kernel_rfl
noncomputable abbrev aqe:bD:=[(85,KC)]
theorem aqu:bg ae (bu az aqe):=bB ⟨z85,⟨⟩⟩
abbrev i46:Shape:=⟨[dS 0 [bJ .pack]],[],7⟩
abbrev Wy:Shape:=⟨[aQ 2],[],7⟩
noncomputable def f46(a:i46.L):Option Wy.L:=
(f85 ((a.1.1.1,()),())).bind fun b=>
 some (((b.1.1==(0:Int)),()),())
noncomputable def KG:bb:=bf az Tryz.f46 i46 Wy [] f46
theorem z46:a_ ae 46 KG:=bh aqu Tryz.func46 (by kernel_rfl) aB (fun y=>by kernel_rfl) fun a=>by kernel_rfl
noncomputable abbrev u5:bD:=[(140,RQ),(142,RP),(143,RO),(145,RN)]
theorem XJ:bg ae (bu az u5):=bB ⟨af7,af6,af5,af4,⟨⟩⟩
abbrev R_:Shape:=⟨[bj 1 1 0],[bi 1 [bJ .pack]],24⟩
abbrev qe:List bk:=[(.ret,⟨[aq 2],[],24⟩)]
noncomputable def rq(c:Int):aY qe:=((c,()),())
noncomputable def HS(y:R_.L):Option (aY qe):=
 rm y.2.1.1 rq [fun F=>tI (((F,()),()),()),fun F=>tH (((F,()),()),()),fun F=>tG (((F,()),()),()),fun F=>tF (((F,()),()),())]
theorem ah5:∀F k i,exec (gY (bu az u5) []) (aH (dn (aH (codeOf Tryz.f88) 1 58)) 116 3737) 3737 (((hM 24).st (hT 24 F k i)).set 5 (bZ (.clo 140 [(1,0)]))) (rr 24 qe)=((fun F=>tI (((F,()),()),())) F).bind fun r=>bif(r.1.1 !=0) then some (.inr (rq r.1.1)) else some (.inl (hT 24 F k i)):=fun F k i=>by kernel_rfl
theorem ah4:∀F k i,exec (gY (bu az u5) []) (aH (dn (aH (codeOf Tryz.f88) 1 58)) 116 3737) 3737 (((hM 24).st (hT 24 F k i)).set 5 (bZ (.clo 142 [(1,0)]))) (rr 24 qe)=((fun F=>tH (((F,()),()),())) F).bind fun r=>bif(r.1.1 !=0) then some (.inr (rq r.1.1)) else some (.inl (hT 24 F k i)):=fun F k i=>by kernel_rfl
theorem ah3:∀F k i,exec (gY (bu az u5) []) (aH (dn (aH (codeOf Tryz.f88) 1 58)) 116 3737) 3737 (((hM 24).st (hT 24 F k i)).set 5 (bZ (.clo 143 [(1,0)]))) (rr 24 qe)=((fun F=>tG (((F,()),()),())) F).bind fun r=>bif(r.1.1 !=0) then some (.inr (rq r.1.1)) else some (.inl (hT 24 F k i)):=fun F k i=>by kernel_rfl
theorem ah2:∀F k i,exec (gY (bu az u5) []) (aH (dn (aH (codeOf Tryz.f88) 1 58)) 116 3737) 3737 (((hM 24).st (hT 24 F k i)).set 5 (bZ (.clo 145 [(1,0)]))) (rr 24 qe)=((fun F=>tF (((F,()),()),())) F).bind fun r=>bif(r.1.1 !=0) then some (.inr (rq r.1.1)) else some (.inl (hT 24 F k i)):=fun F k i=>by kernel_rfl
theorem aii:bq ae (aH (codeOf Tryz.f88) 1 3) (bE R_ qe HS):=
 _s (C:=gY (bu az u5) []) (os:=qe) (nt:=24) (T:=167) (e:=166) (m0:=((opsOf (aH (codeOf Tryz.f88) 1 6)).getD 0 default)) (m1:=((opsOf (aH (codeOf Tryz.f88) 1 6)).getD 1 default)) (m2:=((opsOf (aH (codeOf Tryz.f88) 1 6)).getD 2 default)) (m3:=((opsOf (aH (codeOf Tryz.f88) 1 6)).getD 3 default)) (m4:=((opsOf (aH (codeOf Tryz.f88) 1 6)).getD 4 default)) (m5:=((opsOf (aH (codeOf Tryz.f88) 1 6)).getD 5 default)) (n0:=((opsOf (aH (codeOf Tryz.f88) 1 28)).getD 0 default)) (n1:=((opsOf (aH (codeOf Tryz.f88) 1 28)).getD 1 default)) (n2:=((opsOf (aH (codeOf Tryz.f88) 1 28)).getD 2 default)) (q0:=((opsOf (aH (dn (aH (codeOf Tryz.f88) 1 58)) 116 232)).getD 0 default)) (r0:=((opsOf (aH (dn (aH (codeOf Tryz.f88) 1 58)) 116 3736)).getD 0 default)) (r1:=((opsOf (aH (dn (aH (codeOf Tryz.f88) 1 58)) 116 3736)).getD 1 default)) (r2:=((opsOf (aH (dn (aH (codeOf Tryz.f88) 1 58)) 116 3736)).getD 2 default))
  (i1:=tR (aH (codeOf Tryz.f88) 1 6)) (i2:=tR (aH (codeOf Tryz.f88) 1 28)) (i3:=tR (aH (dn (aH (codeOf Tryz.f88) 1 58)) 116 232)) (i4:=tR (aH (dn (aH (codeOf Tryz.f88) 1 58)) 116 3736)) (BB:=(aH (dn (aH (codeOf Tryz.f88) 1 58)) 116 3737)) (r8:=(aH (dn (aH (codeOf Tryz.f88) 1 58)) 116 935)) (E:=(aH (codeOf Tryz.f88) 1 15)) (p3:=232) (pB:=3737) (p8:=935) (pE:=15) (g0:=140) (g1:=142) (g2:=143) (g3:=145) (c0:=fun F=>tI (((F,()),()),())) (c1:=fun F=>tH (((F,()),()),())) (c2:=fun F=>tG (((F,()),()),())) (c3:=fun F=>tF (((F,()),()),())) (mk:=rq) XJ
  {rS:=(by kernel_rfl),Jw:=(by kernel_rfl),bB:=⟨(by kernel_rfl),(by kernel_rfl),(by kernel_rfl),(by kernel_rfl),(by kernel_rfl),(by kernel_rfl),(by kernel_rfl),(by kernel_rfl),(by kernel_rfl),(by kernel_rfl),(by kernel_rfl),(by kernel_rfl)⟩,fE:=⟨(by kernel_rfl),(by kernel_rfl)⟩,on:=⟨(by kernel_rfl),(by kernel_rfl),(by kernel_rfl)⟩,CF:=⟨(by kernel_rfl),(by kernel_rfl),(by kernel_rfl)⟩,dst:=⟨(by kernel_rfl),(by kernel_rfl),(by kernel_rfl),(by kernel_rfl),(by kernel_rfl),(by kernel_rfl),(by kernel_rfl),(by kernel_rfl)⟩,Ip:=(by decide),JB:=(by kernel_rfl),WG:=(by kernel_rfl),WF:=(by kernel_rfl),wr:=(by kernel_rfl),am6:=(by kernel_rfl),
   lg:=⟨(fun f hf=>by cases hf),lQ (by kernel_rfl) aB,lQ (by kernel_rfl) aB,lQ (by kernel_rfl) aB⟩,hos:=(fun _ _=>rfl),aF:=(fun F=>by kernel_rfl),rM:=(fun F k i=>by kernel_rfl),a':=(fun F k i=>by kernel_rfl),
   et:=(fun gc h=>by
    simp only[List.mem_cons,List.not_mem_nil,or_false] at h;rcases h with rfl|rfl|rfl|rfl
    ·exact ah5
    ·exact ah4
    ·exact ah3
    ·exact ah2),
   ov:=(fun F k i=>by kernel_rfl),hE:=(fun F k i=>by kernel_rfl)} (fun F=>rfl) (by kernel_rfl)
abbrev i88:Shape:=⟨[a7 0 .pack],[],24⟩
abbrev Wf:Shape:=⟨[aq 2],[],24⟩
noncomputable def f88(a:i88.L):Option Wf.L:=
(HS (((),()),(a.1.1,()),())).bind fun b=>
 some ((b.1.1,()),())
noncomputable def KB:bb:=bf az Tryz.f88 i88 Wf [] f88
theorem VV:a_ ae 88 KB:=bh XJ Tryz.func88 (by kernel_rfl) (bN aii aB) (fun y=>by kernel_rfl) fun a=>by kernel_rfl
noncomputable abbrev aqc:bD:=[(88,KB)]
theorem aqs:bg ae (bu az aqc):=bB ⟨VV,⟨⟩⟩
abbrev i48:Shape:=⟨[dS 0 [bJ .pack]],[],7⟩
abbrev Ww:Shape:=⟨[aQ 2],[],7⟩
noncomputable def f48(a:i48.L):Option Ww.L:=
(f88 ((a.1.1.1,()),())).bind fun b=>
 some (((b.1.1==(0:Int)),()),())
noncomputable def Db:bb:=bf az Tryz.f48 i48 Ww [] f48
theorem Js:a_ ae 48 Db:=bh aqs Tryz.func48 (by kernel_rfl) aB (fun y=>by kernel_rfl) fun a=>by kernel_rfl
theorem EI(a)(M:cq a.1.1.length):(∃(k:Nat) (q:aI),f104 a=some (((k:Int),()),())/\a.1.1[k]? =some q/\a.1.1.find? (fun p=>p.name==a.1.2.1)=some q)\/
  (f104 a=some ((((-1):Int),()),())/\a.1.1.find? (fun p=>p.name==a.1.2.1)=none):=by
 obtain⟨⟨F,name,u⟩,bv⟩:=a;have M:F.length<=2097152:=M;have key:∀(r:List aI) (k:Nat),F.drop k=r->k<=F.length->(∃(j:Nat) (q:aI),s' ((F,(name,((k:Int),()))),())=some (.inl (((j:Int),()),()))/\F[j]? =some q/\r.find? (fun p=>p.name==name)=some q)\/
   (s' ((F,(name,((k:Int),()))),())=some (.inr ((),()))/\r.find? (fun p=>p.name==name)=none):=by
  intro r;induction r with
  |nil=>
   intro k hr af;have:=drop_nil hr;have d1:decide ((k:Int)<(F.length:Int))=false:=by simp only[decide_eq_false_iff_not];omega
   refine .inr ⟨eL ?_,rfl⟩;simp only[AH,d1,cond_false]
  |cons q r ih=>
   intro k hr af;obtain⟨c1,c2,c3⟩:=drop_cons hr;have hw:aM k:=by unfold aM;omega
   have step:AH ((F,(name,((k:Int),()))),())=some (bif q.name==name then .inr (.inl (((k:Int),()),())) else .inl ((F,(name,(((k+1:Nat):Int),()))),())):=by
    simp only[AH,cF c3,cond_true,cc,c1,Option.bind_some,cl hw];cases (q.name==name)<;>rfl
   cases ao:(q.name==name) with
   |true=>
    rw[ao,cond_true] at step;exact .inl ⟨k,q,eL step,c1,by simp[List.find?_cons,ao]⟩
   |false=>
    rw[ao,cond_false] at step;rcases ih (k+1) c2 c3 with⟨j,ii,h1,h2,ab⟩|⟨h1,h2⟩
    ·exact .inl ⟨j,ii,(gE step).trans h1,h2,by simp[List.find?_cons,ao];exact ab⟩
    ·exact .inr ⟨(gE step).trans h1,by simp only[List.find?_cons,ao];exact h2⟩
 rcases key F 0 rfl (Nat.zero_le _) with⟨j,q,h1,h2,ab⟩|⟨h1,h2⟩
 ·have h1:s' ((F,(name,((0:Int),()))),())=some (.inl (((j:Int),()),())):=h1;exact .inl ⟨j,q,by simp only[f104,h1,Option.bind_some],h2,ab⟩
 ·have h1:s' ((F,(name,((0:Int),()))),())=some (.inr ((),())):=h1;exact .inr ⟨by simp only[f104,h1,Option.bind_some],h2⟩
abbrev mA(F:List aI):Prop:=∀p,p∈F->p.b4.length<=2097151/\∀n,n∈p.bI->n.b4.length<=2097151
def f_(F:List aI)(n:dq):Bool:=match F.find? (fun q=>q.name==n.name) with
 |some q=>nP n q.b4
 |none=>false
def jV(F:List aI)(n:dq):Bool:=F.any fun q=>l8 n q.name q.b4
theorem MW(a)(hb:fb a.1.1)(hv:mA a.1.1):f135 a=some ((a.1.1.all (fun p=>p.bI.all (f_ a.1.1)),()),()):=by
 obtain⟨⟨F,u⟩,bv⟩:=a;have hl:F.length<=2097152:=hb.1;have inner:∀(i:Nat) (p:aI),F[i]? =some p->Eo ((F,((i:Int),((0:Int),()))),())=some (bif p.bI.all (f_ F) then .inr ((F,((i:Int),())),()) else .inl ((false,()),())):=by
  intro i p ag;have uO:=List.mem_of_getElem? ag;have J6:p.bI.length<=2097152:=(hb.2 p uO).2.2.1.1;have:=gm y1 p.bI (fun k=>((F,((i:Int),((k:Int),()))),())) (fun _ n=>f_ F n) (.inl ((false,()),())) (.inr ((F,((i:Int),())),())) (fun k n hn=>?_) ?_
  ·have:=this;rw[h4] at this;exact this
  ·have af:=ct hn;have hw:aM k:=by unfold aM;omega
   have iS:=List.mem_of_getElem? hn;have ov:=EI ((F,(n.name,())),()) hl;simp only[y1,cc,ag,Option.bind_some,cF af,cond_true,hn];rcases ov with⟨j,q,h1,h2,ab⟩|⟨h1,h2⟩
   ·have h2:F[j]? =some q:=h2;have ab:F.find? (fun p=>p.name==n.name)=some q:=ab
    have ao:=hv q (List.mem_of_getElem? h2);have hf:=acC (((n.name,(n.kind,(n.b4,()))),(n.name,(q.b4,()))),()) ((hv p uO).2 n iS) ao.1 rfl;have hj:decide ((j:Int)<0)=false:=by simp only[decide_eq_false_iff_not];omega
    simp only[h1,Option.bind_some,yq,hj,cond_false,cc,h2,hf,f_,ab,cl hw];cases nP n q.b4<;>rfl
   ·have h2:F.find? (fun p=>p.name==n.name)=none:=h2
    have hj:decide ((-1:Int)<0)=true:=rfl;simp only[h1,Option.bind_some,yq,hj,cond_true,f_,h2,cond_false]
  ·simp only[y1,cc,ag,Option.bind_some,dQ,cond_false]
 have key:Gu ((F,((0:Int),())),())=some (bif allI (fun _ p=>p.bI.all (f_ F)) 0 F then .inr ((),()) else .inl ((false,()),())):=by
  refine gm AE F (fun i=>((F,((i:Int),())),())) _ _ _ (fun i x hx=>?_) ?_
  ·have hi:=ct hx;have hw:aM i:=by unfold aM;omega
   simp only[AE,cF hi,cond_true,inner i x hx,Option.bind_some];cases x.bI.all (f_ F)
   ·rfl
   ·simp only[cond_true,cl hw]
  ·simp only[AE,dQ,cond_false]
 rw[h4] at key;simp only[f135,key,Option.bind_some];cases List.all F (fun p=>p.bI.all (f_ F))<;>rfl
theorem Y8(a)(hb:fb a.1.1)(hv:mA a.1.1):f144 a=some ((a.1.1.all (fun p=>p.bI.all (jV a.1.1)),()),()):=by
 obtain⟨⟨F,u⟩,bv⟩:=a;have hl:F.length<=2097152:=hb.1;have akN:∀n:dq,cq n.name.length->n.b4.length<=2097151->Bp ((F,(((n.name,(n.kind,(n.b4,()))),()),())),())=some ((jV F n,()),()):=by
  intro n J8 aot;have key:∀(r:List aI) (k:Nat),F.drop k=r->k<=F.length->∃z:Int,(sY ((F,(((n.name,(n.kind,(n.b4,()))),()),((F.length:Int),((k:Int),())))),())).bind (fun aif=>(match aif with
    |.inl aie=>some ((aie.1.1,()),())
    |.inr ar7=>some ((((-1):Int),()),()):Option G9.L))=some ((z,()),())/\decide (z>=0)=r.any (fun q=>l8 n q.name q.b4):=by
   intro r;induction r with
   |nil=>
    intro k hr af;have:=drop_nil hr;have d1:decide ((k:Int)<(F.length:Int))=false:=by simp only[decide_eq_false_iff_not];omega
    have:sY ((F,(((n.name,(n.kind,(n.b4,()))),()),((F.length:Int),((k:Int),())))),())=some (.inr ((),())):=by
     refine eL ?_
     simp only[yX,d1,cond_false]
    exact⟨-1,by rw[this];rfl,rfl⟩
   |cons q r ih=>
    intro k hr af;obtain⟨c1,c2,c3⟩:=drop_cons hr;have hw:aM k:=by unfold aM;omega
    have ao:=hv q (List.mem_of_getElem? c1);have hf:=_E (((n.name,(n.kind,(n.b4,()))),(q.name,(q.b4,()))),()) J8 aot ao.1;have step:yX ((F,(((n.name,(n.kind,(n.b4,()))),()),((F.length:Int),((k:Int),())))),())=some (bif l8 n q.name q.b4 then .inr (.inl (((k:Int),()),())) else .inl ((F,(((n.name,(n.kind,(n.b4,()))),()),((F.length:Int),(((k+1:Nat):Int),())))),())):=by
     simp only[yX,cF c3,cond_true,cc,c1,Option.bind_some,Hq,hf,cl hw];cases l8 n q.name q.b4<;>rfl
    rw[List.any_cons];cases W2:l8 n q.name q.b4 with
    |true=>
     rw[W2,cond_true] at step;exact⟨k,by rw[show sY _=_ from eL step];rfl,by simp⟩
    |false=>
     rw[W2,cond_false] at step;obtain⟨z,h1,h2⟩:=ih (k+1) c2 c3;exact⟨z,by rw[show sY _=_ from gE step];exact h1,by rw[h2];rfl⟩
  obtain⟨z,h1,h2⟩:=key F 0 rfl (Nat.zero_le _);have ab:Bo ((F,(((n.name,(n.kind,(n.b4,()))),()),())),())=some ((z,()),()):=by
   simp only[Bo];exact h1
  simp only[Bp,ab,Option.bind_some,h2,jV]
 have inner:∀(i:Nat) (p:aI),F[i]? =some p->En ((F,(F,((F.length:Int),((i:Int),(p.bI,((p.bI.length:Int),((0:Int),()))))))),())=some (bif p.bI.all (jV F) then .inr ((F,(F,((F.length:Int),((i:Int),())))),()) else .inl ((false,()),())):=by
  intro i p ag;have uO:=List.mem_of_getElem? ag;have J6:p.bI.length<=2097152:=(hb.2 p uO).2.2.1.1;have:=gm yZ p.bI (fun k=>((F,(F,((F.length:Int),((i:Int),(p.bI,((p.bI.length:Int),((k:Int),()))))))),())) (fun _ n=>jV F n) (.inl ((false,()),())) (.inr ((F,(F,((F.length:Int),((i:Int),())))),())) (fun k n hn=>?_) ?_
  ·have:=this;rw[h4] at this;exact this
  ·have af:=ct hn;have hw:aM k:=by unfold aM;omega
   have iS:=List.mem_of_getElem? hn;have hc:=akN n ((hb.2 p uO).2.2.1.2 n iS).1 ((hv p uO).2 n iS);simp only[yZ,cF af,cond_true,cc,hn,Option.bind_some,hc,cl hw];cases jV F n<;>rfl
  ·simp only[yZ,dQ,cond_false]
 have key:Gs ((F,(F,((F.length:Int),((0:Int),())))),())=some (bif allI (fun _ p=>p.bI.all (jV F)) 0 F then .inr ((),()) else .inl ((false,()),())):=by
  refine gm AC F (fun i=>((F,(F,((F.length:Int),((i:Int),())))),())) _ _ _ (fun i x hx=>?_) ?_
  ·have hi:=ct hx;have hw:aM i:=by unfold aM;omega
   simp only[AC,cF hi,cond_true,cc,hx,inner i x hx,Option.bind_some];cases x.bI.all (jV F)
   ·rfl
   ·simp only[cond_true,cl hw]
  ·simp only[AC,dQ,cond_false]
 rw[h4] at key;simp only[f144,key,Option.bind_some];cases List.all F (fun p=>p.bI.all (jV F))<;>rfl
theorem acn:∀F:List aI,(∀i y,F[i+1]? =some y->mL F i y=true)->F.Pairwise fun p q=>Op.bytesLess p.name q.name=true:=by
 intro F;induction F with
 |nil=>intro _;exact List.Pairwise.nil
 |cons x r ih=>
  intro h;have hr:=ih (fun i y al=>by
   have:=h (i+1) y (by simpa using al)
   unfold mL at this ⊢;simpa using this)
  refine List.pairwise_cons.2 ⟨fun y al=>?_,hr⟩
  cases r with
  |nil=>cases al
  |cons z r=>
   have hz:Op.bytesLess x.name z.name=true:=by
    have:=h 0 z rfl;unfold mL at this;simpa using this
   rcases List.mem_cons.1 al with rfl|al
   ·exact hz
   ·exact q8 _ _ _ hz ((List.pairwise_cons.1 hr).1 y al)
theorem P5{F:List aI}(h:j6 F=true):F.Pairwise fun p q=>Op.bytesLess p.name q.name=true:=by
 refine acn F (fun i y al=>?_)
 have:=zv F.tail 0 h i y (by rw[List.getElem?_tail];exact al)
 rwa[Nat.zero_add] at this
theorem _a:∀(F:List aI) (n:dq),(∀p,p∈F->e7 p.b4=true)->iH n=true->F.Pairwise (fun p q=>Op.bytesLess p.name q.name=true)->jV F n=f_ F n:=by
 intro F n;induction F with
 |nil=>intro _ _ _;rfl
 |cons q r ih=>
  intro hv hn ag;have mj:=List.pairwise_cons.1 ag;have ih:=ih (fun p h=>hv p (List.mem_cons_of_mem _ h)) hn mj.2
  unfold jV f_ at ih ⊢;rw[List.any_cons,List.find?_cons];cases ao:(q.name==n.name) with
  |true=>
   have nc:r.any (fun q=>l8 n q.name q.b4)=false:=by
    rw[List.any_eq_false];intro p aol;have h1:=mj.1 p aol;rw[eq_of_beq ao] at h1;have:(p.name==n.name)=false:=by
     cases h:(p.name==n.name) with
     |false=>rfl
     |true=>rw[eq_of_beq h,ku] at h1;cases h1
    unfold l8;rw[this];simp
   rw[nc];unfold l8;rw[hv q List.mem_cons_self,hn,ao];simp
  |false=>
   have:l8 n q.name q.b4=false:=by unfold l8;rw[ao];simp
   rw[this,Bool.false_or];exact ih
def fp(F:List aI):Bool:=F.all dV&&j6 F&&decide (F.length<=5)&&F.all (fun p=>p.bI.all (f_ F))&&(eM [] F).isSome
def fA(F:List aI):Int:=bif F.all dV&&j6 F then(bif decide (F.length<=5) then(bif F.all (fun p=>p.bI.all (f_ F)) then(bif(eM [] F).isSome then 0 else 5) else 4) else 6) else 1
theorem L3(F:List aI):fp F=(fA F==0):=by
 unfold fp fA;cases F.all dV<;>cases j6 F<;>cases decide (F.length<=5)<;>cases F.all (fun p=>p.bI.all (f_ F))<;>cases (eM [] F).isSome<;>rfl
theorem aaI{aK:Type}(ok:Nat->aK->Bool):∀(xs:List aK) (j:Nat),allI ok (j+1) xs=allI (fun i=>ok (i+1)) j xs:=by
 intro xs;induction xs with
 |nil=>intro j;rfl
 |cons x r ih=>intro j;simp only[allI,ih]
def uG(F:List aI)(i:Nat)(x:aI):Bool:=dV x&&(i==0||mL F (i-1) x)
theorem PA(F:List aI):allI (uG F) 0 F=(F.all dV&&j6 F):=by
 unfold uG;rw[Fm,h4];congr 1
 unfold j6;cases F with
 |nil=>rfl
 |cons x r=>
  simp only[allI,beq_self_eq_true,Bool.true_or,Bool.true_and,List.tail_cons];rw[aaI];refine MS r 0 (fun i y _ _=>?_)
  have:(i+1==0)=false:=rfl;rw[this,Bool.false_or,Nat.add_sub_cancel]
theorem N7(a)(hb:fb a.1.1.1)(hv:mA a.1.1.1):f46 a=some ((fp a.1.1.1,()),()):=by
 obtain⟨⟨⟨F,u⟩,bv⟩,mc⟩:=a;have hl:F.length<=2097152:=hb.1;have key:A9 ((F,((0:Int),())),())=some (bif allI (uG F) 0 F then .inr ((F,()),()) else .inl (((1:Int),()),())):=by
  refine gm rk F (fun i=>((F,((i:Int),())),())) _ _ _ (fun i x hx=>?_) ?_
  ·have hi:=ct hx;have hw:aM i:=by unfold aM;omega
   have oh:=hb.2 x (List.mem_of_getElem? hx);simp only[rk,cF hi,cond_true,Am,cc,hx,Option.bind_some];rw[EO _ oh];simp only[Option.bind_some,uG,Cl];cases dV x with
   |false=>rfl
   |true=>
    simp only[Bool.not_true,cond_false,Bool.true_and,mL];cases i with
    |zero=>simp only[beq_self_eq_true,Bool.not_true,cond_false,Option.bind_some,Bool.true_or,cond_true,cl hw]
    |succ i=>
     have h0:(i+1==0)=false:=rfl;have iU:i<F.length:=by omega
     obtain⟨q,ao⟩:∃q,F[i]? =some q:=⟨F[i],List.getElem?_eq_getElem iU⟩;simp only[h0,Bool.not_false,cond_true,vu (i:=i) (by unfold aM;omega),cc,ao,hx,Option.bind_some,Bool.false_or,Nat.add_sub_cancel]
     cases Op.bytesLess q.name x.name with
     |false=>rfl
     |true=>simp only[Bool.not_true,cond_false,cond_true,cl hw]
  ·simp only[rk,dQ,cond_false]
 rw[PA] at key;have bo:decide ((F.length:Int)>5)=!decide (F.length<=5):=by by_cases h:F.length<=5<;>simp only[h,decide_true,decide_false,Bool.not_true,Bool.not_false,decide_eq_true_eq,decide_eq_false_iff_not]<;>omega
 simp only[f46,f85,key,Option.bind_some,fp];cases hA:(F.all dV&&j6 F) with
 |false=>rfl
 |true=>
  have af:F.all dV=true:=by simp only[Bool.and_eq_true] at hA;exact hA.1
  obtain⟨out,aA⟩:=N1 ((F,()),()) hb af;have hn:=MW ((F,()),()) hb hv;simp only[cond_true,Option.bind_some,aA,bo,Bool.true_and];cases decide (F.length<=5) with
  |false=>rfl
  |true=>
   simp only[Bool.not_true,cond_false,hn,Option.bind_some,Bool.true_and];cases F.all (fun p=>p.bI.all (f_ F))<;>cases (eM [] F).isSome<;>rfl
theorem Mn(a)(hb:fb a.1.1)(hv:mA a.1.1):f88 a=some ((fA a.1.1,()),()):=by
 obtain⟨⟨F,u⟩,bv⟩:=a;have hl:F.length<=2097152:=hb.1;have e1:=M2 ((F,((),())),()) hb;have e2:=YM ((F,()),()) hl;have b0:=Y8 ((F,()),()) hb hv;have bo:decide ((F.length:Int)>5)=!decide (F.length<=5):=by by_cases h:F.length<=5<;>simp only[h,decide_true,decide_false,Bool.not_true,Bool.not_false,decide_eq_true_eq,decide_eq_false_iff_not]<;>omega
 have c0:tI (((F,()),()),())=some (((bif F.all dV&&j6 F then(0:Int) else 1),()),()):=by
  simp only[tI,EA,e1,Bool.not_not,Option.bind_some];cases F.all dV with
  |false=>rfl
  |true=>simp only[cond_true,e2,Option.bind_some,Bool.true_and];cases j6 F<;>rfl
 have c1:tH (((F,()),()),())=some (((bif decide (F.length<=5) then(0:Int) else 6),()),()):=by
  simp only[tH,bo];cases decide (F.length<=5)<;>rfl
 have c2:tG (((F,()),()),())=some (((bif F.all (fun p=>p.bI.all (jV F)) then(0:Int) else 4),()),()):=by
  simp only[tG,b0,Option.bind_some];cases F.all (fun p=>p.bI.all (jV F))<;>rfl
 have c3:F.all dV=true->tF (((F,()),()),())=some (((bif(eM [] F).isSome then(0:Int) else 5),()),()):=by
  intro af;obtain⟨out,aA⟩:=ZM ((F,()),()) hb af;simp only[tF,aA,Option.bind_some];cases (eM [] F).isSome<;>rfl
 have z:∀n:Int,((n:Int) !=0)=!(n==0):=fun n=>rfl
 simp only[f88,HS,rm,c0,c1,c2,rq,Option.bind_some,fA];cases hA:(F.all dV&&j6 F) with
 |false=>rfl
 |true=>
  simp only[Bool.and_eq_true] at hA;have agX:F.all (fun p=>p.bI.all (jV F))=F.all (fun p=>p.bI.all (f_ F)):=by
   rw[Bool.eq_iff_iff];simp only[List.all_eq_true];have hvs:∀p,p∈F->e7 p.b4=true:=fun p ag=>by
    have:=List.all_eq_true.1 hA.1 p ag;unfold dV at this;simp only[Bool.and_eq_true] at this;exact this.1.1.2
   have gy:∀p,p∈F->∀n,n∈p.bI->jV F n=f_ F n:=fun p ag n hn=>by
    have:=List.all_eq_true.1 hA.1 p ag;unfold dV s9 at this;simp only[Bool.and_eq_true] at this;exact _a F n hvs (List.all_eq_true.1 this.1.2.1.1 n hn) (P5 hA.2)
   constructor
   ·intro h p ag n hn;rw[<-gy p ag n hn];exact h p ag n hn
   ·intro h p ag n hn;rw[gy p ag n hn];exact h p ag n hn
  rw[agX,c3 hA.1];cases decide (F.length<=5)<;>cases F.all (fun p=>p.bI.all (f_ F))<;>cases (eM [] F).isSome<;>rfl
theorem D5(a)(hb:fb a.1.1.1)(hv:mA a.1.1.1):f48 a=some ((fp a.1.1.1,()),()):=by
 obtain⟨⟨⟨F,u⟩,bv⟩,mc⟩:=a;have e:=Mn ((F,()),()) hb hv;simp only[f48,e,Option.bind_some,L3]
abbrev Nr:Shape:=⟨[bj 0 500000 0,aq 1],[bi 500000 [bJ .u8,bM]],99⟩
abbrev Nc:List bk:=[(.norm,⟨[bj 0 500000 0,aq 1,aQ 24],[bi 500000 [bJ .u8,bM]],99⟩)]
noncomputable def y2(y:Nr.L):Option (aY Nc):=
 bif(!(decide (y.1.2.1<(1:Int)))) then
 some (((),y.1.2.1,((y.2.1.1.length:Int)==(0:Int)),()),(y.2.1.1,y.2.1.2.1,()),())
else
 some (((),y.1.2.1,true,()),(y.2.1.1,y.2.1.2.1,()),())
theorem abH:bq ae (aH (codeOf Tryz.f129) 1 28) (bE Nr Nc y2):=dI g0 (by kernel_rfl) aB fun y=>by kernel_rfl
abbrev Rr:Shape:=⟨[bj 0 500000 0,aq 1],[bi 500000 [bJ .u8,bM]],99⟩
abbrev QU:Shape:=⟨[bj 0 500000 0,aq 4],[bi 500000 [bJ .u8,bM]],99⟩
noncomputable def gZ(a:Rr.L):Option QU.L:=
(y2 (((),a.1.2.1,()),(a.2.1.1,(IntKind.i64.wrap (a.2.1.2.1+(1:Int))),()),())).bind fun b=>
 bif b.1.2.2.1 then
 some (((),(0:Int),()),(b.2.1.1,b.2.1.2.1,()),())
else
 bif(decide ((IntKind.i64.wrap (b.2.1.2.1-(1:Int)))<(b.2.1.1.length:Int))) then
(bd b.2.1.1 (IntKind.i64.wrap (b.2.1.2.1-(1:Int)))).bind fun c=>
(l9 (IntKind.i64.wrap c) b.1.2.1).bind fun d=>
 some (((),d,()),(b.2.1.1,b.2.1.2.1,()),())
else
(l9 (IntKind.i64.wrap (b.2.1.2.1-(1:Int))) (b.2.1.1.length:Int)).bind fun e=>
(bd b.2.1.1 e).bind fun f=>
(l9 (IntKind.i64.wrap ((IntKind.i64.wrap ((IntKind.i64.wrap (b.2.1.2.1-(1:Int)))*(7:Int)))+(3:Int))) (b.2.1.1.length:Int)).bind fun g=>
(bd b.2.1.1 g).bind fun h=>
(qj .i64 (IntKind.i64.wrap (b.2.1.2.1-(1:Int))) (b.2.1.1.length:Int)).bind fun i=>
(qj .i64 (IntKind.i64.wrap ((IntKind.i64.wrap ((IntKind.i64.wrap ((IntKind.i64.wrap ((IntKind.i64.wrap f)*(131:Int)))+(IntKind.i64.wrap ((IntKind.i64.wrap h)*(1117:Int)))))+(IntKind.i64.wrap ((IntKind.i64.wrap (b.2.1.2.1-(1:Int)))*(29:Int)))))+(IntKind.i64.wrap (i*(53:Int))))) (64:Int)).bind fun j=>
(l9 (nS .i64 (IntKind.i64.wrap ((IntKind.i64.wrap ((IntKind.i64.wrap ((IntKind.i64.wrap ((IntKind.i64.wrap f)*(131:Int)))+(IntKind.i64.wrap ((IntKind.i64.wrap h)*(1117:Int)))))+(IntKind.i64.wrap ((IntKind.i64.wrap (b.2.1.2.1-(1:Int)))*(29:Int)))))+(IntKind.i64.wrap (i*(53:Int))))) j) b.1.2.1).bind fun k=>
 some (((),k,()),(b.2.1.1,b.2.1.2.1,()),())
noncomputable def jU:bb:=bf az Tryz.f129 Rr QU [0] gZ
theorem ko:a_ ae 129 jU:=bh g0 Tryz.func129 (by kernel_rfl) (bN abH aB) (fun y=>by kernel_rfl) fun a=>by kernel_rfl
noncomputable abbrev aiS:bD:=[(129,jU)]
theorem aiV:bg ae (bu az aiS):=bB ⟨ko,⟨⟩⟩
abbrev Sr:Shape:=⟨[bj 0 500000 0,a7 1 .str],[bi 500000 [bJ .u8,bM]],12⟩
abbrev Se:Shape:=⟨[bj 0 500000 0,a8 4],[bi 500000 [bJ .u8,bM]],12⟩
noncomputable def ju(a:Sr.L):Option Se.L:=
(gZ (((),(a.1.2.1.length:Int),()),(a.2.1.1,a.2.1.2.1,()),())).bind fun b=>
(bd a.1.2.1 b.1.2.1).bind fun c=>
 some (((),c,()),(b.2.1.1,b.2.1.2.1,()),())
noncomputable def la:bb:=bf az Tryz.f81 Sr Se [0] ju
theorem l2:a_ ae 81 la:=bh aiV Tryz.func81 (by kernel_rfl) aB (fun y=>by kernel_rfl) fun a=>by kernel_rfl
noncomputable abbrev ahz:bD:=[(81,la)]
theorem ahU:bg ae (bu az ahz):=bB ⟨l2,⟨⟩⟩
abbrev Rq:Shape:=⟨[bj 0 500000 0],[bi 500000 [bJ .u8,bM]],6⟩
abbrev QT:Shape:=⟨[bj 0 500000 0,a8 2],[bi 500000 [bJ .u8,bM]],6⟩
noncomputable def tJ(a:Rq.L):Option QT.L:=
(ju (((),([([49]:J),([49,46,48]:J),([49,46,49]:J),([49,46,50]:J),([50]:J),([48,46,57,46,57]:J),([49,46,49,48]:J),([57,57,57,46,57,57,57,46,57,57,57,46,57,57,57]:J)]:List J),()),(a.2.1.1,a.2.1.2.1,()),())).bind fun b=>
 some (((),b.1.2.1,()),(b.2.1.1,b.2.1.2.1,()),())
noncomputable def BE:bb:=bf az Tryz.f130 Rq QT [0] tJ
theorem GY:a_ ae 130 BE:=bh ahU Tryz.func130 (by kernel_rfl) aB (fun y=>by kernel_rfl) fun a=>by kernel_rfl
noncomputable abbrev alo:bD:=[(156,w6),(157,Cq),(210,I6),(211,I5),(212,I4)]
theorem Jh:bg ae (bu az alo):=bB ⟨z156,z157,z210,SR,z212,⟨⟩⟩
abbrev OB:Shape:=⟨[a7 0 .entry,bj 3 3 0,bS 4 3000256,aQ 5,aq 6,aQ 7,bS 8 3000512],[bi 3 [bC,bM,bM,bC],b8 3000256 .entry 4 0,b8 3000512 .entry 8 0],68⟩
abbrev Oh:List bk:=[(.norm,⟨[a7 0 .entry,bj 3 3 0,bS 4 3000256,aQ 5,aq 6,aQ 7,bS 8 3000512,aQ 18],[bi 3 [bC,bM,bM,bC],b8 3000256 .entry 4 0,b8 3000512 .entry 8 0],68⟩)]
noncomputable def zo(y:OB.L):Option (aY Oh):=
(f210 (((y.2.1.1,y.2.1.2.1,y.2.1.2.2.1,y.2.1.2.2.2.1,()),()),())).bind fun a=>
 bif(!(!a.1.1)) then
(f212 ((y.2.1.1,()),())).bind fun b=>
(f211 ((y.1.1,b.1.1,()),())).bind fun c=>
 some ((y.1.1,(),(),y.1.2.2.2.1,y.1.2.2.2.2.1,y.1.2.2.2.2.2.1,(),(!c.1.1),()),(y.2.1.1,y.2.1.2.1,y.2.1.2.2.1,y.2.1.2.2.2.1,()),y.2.2.1,y.2.2.2.1,())
else
 some ((y.1.1,(),(),y.1.2.2.2.1,y.1.2.2.2.2.1,y.1.2.2.2.2.2.1,(),true,()),(y.2.1.1,y.2.1.2.1,y.2.1.2.2.1,y.2.1.2.2.2.1,()),y.2.2.1,y.2.2.2.1,())
theorem adh:bq ae (aH (codeOf Tryz.f262) 1 120) (bE OB Oh zo):=dI Jh (by kernel_rfl) aB fun y=>by kernel_rfl
abbrev OA:Shape:=⟨[a7 0 .entry,bj 3 3 0,bS 4 3000256,aQ 5,aq 6,aQ 7,bS 8 3000512],[bi 3 [bC,bM,bM,bC],b8 3000256 .entry 4 0,b8 3000512 .entry 8 0],68⟩
abbrev Og:List bk:=[(.norm,⟨[a7 0 .entry,bj 3 3 0,bS 4 3000256,aQ 5,aq 6,aQ 7,bS 8 3000512,aQ 31],[bi 3 [bC,bM,bM,bC],b8 3000256 .entry 4 0,b8 3000512 .entry 8 0],68⟩)]
noncomputable def zn(y:OA.L):Option (aY Og):=
 bif y.1.2.2.2.2.2.1 then
(bd y.1.1 y.1.2.2.2.2.1).bind fun a=>
 some ((y.1.1,(),(),y.1.2.2.2.1,y.1.2.2.2.2.1,y.1.2.2.2.2.2.1,(),(a.kind !=y.2.1.2.1),()),(y.2.1.1,y.2.1.2.1,y.2.1.2.2.1,y.2.1.2.2.2.1,()),y.2.2.1,y.2.2.2.1,())
else
 some ((y.1.1,(),(),y.1.2.2.2.1,y.1.2.2.2.2.1,y.1.2.2.2.2.2.1,(),false,()),(y.2.1.1,y.2.1.2.1,y.2.1.2.2.1,y.2.1.2.2.2.1,()),y.2.2.1,y.2.2.2.1,())
theorem adg:bq ae (aH (codeOf Tryz.f262) 1 486) (bE OA Og zn):=dI Jh (by kernel_rfl) aB fun y=>by kernel_rfl
abbrev i262:Shape:=⟨[a7 0 .entry,dS 1 [bC,bM,bM,bC]],[],68⟩
abbrev Tf:Shape:=⟨[bS 4 3000256,aQ 5],[b8 3000256 .entry 4 0],68⟩
noncomputable def f262(a:i262.L):Option Tf.L:=
(f157 ((a.1.1,a.1.2.1.1,()),())).bind fun b=>
(f156 ((a.1.1,()),())).bind fun c=>
(zo ((a.1.1,(),(),false,b.1.1,b.1.2.1,(),()),(a.1.2.1.1,a.1.2.1.2.1,a.1.2.1.2.2.1,a.1.2.1.2.2.2.1,()),([]:List aR),c.2.1,())).bind fun d=>
 bif d.1.2.2.2.2.2.2.2.1 then
 some (((),false,()),d.2.2.2.1,())
else
(zn ((d.1.1,(),(),d.1.2.2.2.1,d.1.2.2.2.2.1,d.1.2.2.2.2.2.1,(),()),(d.2.1.1,d.2.1.2.1,d.2.1.2.2.1,d.2.1.2.2.2.1,()),d.2.2.1,d.2.2.2.1,())).bind fun e=>
 bif e.1.2.2.2.2.2.2.2.1 then
 some (((),false,()),e.2.2.2.1,())
else
 bif e.1.2.2.2.2.2.1 then
(iz e.2.2.2.1.length e.1.2.2.2.2.1).bind fun f=>
((e.2.2.2.1[f]?).bind fun q=>some (aR.mk e.2.1.1 e.2.1.2.1 e.2.1.2.2.1 e.2.1.2.2.2.1)).bind fun g=>
 some (((),true,()),(e.2.2.2.1.set f g),())
else
 bif(decide ((e.1.1.length:Int)>=(16:Int))) then
 some (((),false,()),e.2.2.2.1,())
else
(cA e.1.1 (0:Int) e.1.2.2.2.2.1).bind fun h=>
(cR 48 ([]:List aR) h).bind fun i=>
(cR 48 i ([(aR.mk e.2.1.1 e.2.1.2.1 e.2.1.2.2.1 e.2.1.2.2.2.1)]:List aR)).bind fun j=>
(cA e.1.1 e.1.2.2.2.2.1 (e.1.1.length:Int)).bind fun k=>
(cR 48 j k).bind fun l=>
 some (((),true,()),l,())
noncomputable def UX:bb:=bf az Tryz.f262 i262 Tf [] f262
theorem aje:a_ ae 262 UX:=bh Jh Tryz.func262 (by kernel_rfl) (bN adh (bN adg aB)) (fun y=>by kernel_rfl) fun a=>by kernel_rfl
noncomputable abbrev ahg:bD:=[(129,jU)]
theorem ahG:bg ae (bu az ahg):=bB ⟨ko,⟨⟩⟩
abbrev Q7:Shape:=⟨[bj 0 500000 0,a7 1 .i64],[bi 500000 [bJ .u8,bM]],12⟩
abbrev QA:Shape:=⟨[bj 0 500000 0,aq 4],[bi 500000 [bJ .u8,bM]],12⟩
noncomputable def wc(a:Q7.L):Option QA.L:=
(gZ (((),(a.1.2.1.length:Int),()),(a.2.1.1,a.2.1.2.1,()),())).bind fun b=>
(bd a.1.2.1 b.1.2.1).bind fun c=>
 some (((),c,()),(b.2.1.1,b.2.1.2.1,()),())
noncomputable def Hy:bb:=bf az Tryz.f265 Q7 QA [0] wc
theorem P_:a_ ae 265 Hy:=bh ahG Tryz.func265 (by kernel_rfl) aB (fun y=>by kernel_rfl) fun a=>by kernel_rfl
noncomputable abbrev ahf:bD:=[(81,la)]
theorem ahF:bg ae (bu az ahf):=bB ⟨l2,⟨⟩⟩
abbrev Q6:Shape:=⟨[bj 0 500000 0],[bi 500000 [bJ .u8,bM]],6⟩
abbrev Qz:Shape:=⟨[bj 0 500000 0,a8 2],[bi 500000 [bJ .u8,bM]],6⟩
noncomputable def tD(a:Q6.L):Option Qz.L:=
(ju (((),([([97]:J),([98]:J),([97,47,98]:J),([97,47,99]:J),([97,47,98,47,99]:J),([108,105,98]:J),([108,105,98,47,120]:J),([108,105,98,47,120,46,99]:J),([100,111,99,47,121]:J),([98,105,110]:J),([98,105,110,47,122]:J),([97,47,98,47,99,47,100,47,101]:J)]:List J),()),(a.2.1.1,a.2.1.2.1,()),())).bind fun b=>
 some (((),b.1.2.1,()),(b.2.1.1,b.2.1.2.1,()),())
noncomputable def Hx:bb:=bf az Tryz.f291 Q6 Qz [0] tD
theorem P9:a_ ae 291 Hx:=bh ahF Tryz.func291 (by kernel_rfl) aB (fun y=>by kernel_rfl) fun a=>by kernel_rfl
abbrev Oz:Shape:=⟨[a8 0,aq 1,a8 5],[],20⟩
abbrev Of:List bk:=[(.norm,⟨[a8 0,aq 1,a8 5],[],20⟩)]
noncomputable def zm(y:Oz.L):Option (aY Of):=
(l9 y.1.2.1 (2:Int)).bind fun a=>
 bif(a==(1:Int)) then
(mr y.1.2.2.1 y.1.1).bind fun b=>
 some ((y.1.1,y.1.2.1,b,()),())
else
 some ((y.1.1,y.1.2.1,y.1.2.2.1,()),())
theorem adf:bq ae (aH (dn (aH (codeOf Tryz.f266) 1 28)) 56 452) (bE Oz Of zm):=dI g0 (by kernel_rfl) aB fun y=>by kernel_rfl
abbrev zH:Shape:=⟨[a8 0,aq 1,a8 5],[],20⟩
abbrev FB:List bk:=[(.exit 0,⟨[a8 5],[],20⟩)]
noncomputable def PW(y:zH.L):cy zH FB:=
 bif(decide (y.1.2.1>(0:Int))) then
(zm ((y.1.1,y.1.2.1,y.1.2.2.1,()),())).bind fun a=>
(mr a.1.1 a.1.1).bind fun b=>
(qj .i64 a.1.2.1 (2:Int)).bind fun c=>
 some (.inl ((b,c,a.1.2.2.1,()),()))
else
 some (.inr ((y.1.2.2.1,()),()))
noncomputable def Gd:zH.L->Option (aY FB):=b7 PW
theorem aeG:bq ae (aH (codeOf Tryz.f266) 1 28) (bE zH FB Gd):=cE g0 (by kernel_rfl) (bN adf aB) fun y=>by kernel_rfl
abbrev i266:Shape:=⟨[a8 0,aq 1],[],20⟩
abbrev Te:Shape:=⟨[a8 4],[],20⟩
noncomputable def f266(a:i266.L):Option Te.L:=
(Gd ((a.1.1,a.1.2.1,([]:J),()),())).bind fun b=>
 some ((b.1.1,()),())
noncomputable def I1:bb:=bf az Tryz.f266 i266 Te [] f266
theorem SO:a_ ae 266 I1:=bh g0 Tryz.func266 (by kernel_rfl) (bN aeG aB) (fun y=>by kernel_rfl) fun a=>by kernel_rfl
noncomputable abbrev ahe:bD:=[(81,la),(266,I1)]
theorem ahE:bg ae (bu az ahe):=bB ⟨l2,SO,⟨⟩⟩
abbrev Q5:Shape:=⟨[bj 0 500000 0],[bi 500000 [bJ .u8,bM]],7⟩
abbrev Qy:Shape:=⟨[bj 0 500000 0,a8 2],[bi 500000 [bJ .u8,bM]],7⟩
noncomputable def Bm(a:Q5.L):Option Qy.L:=
(f266 ((([116]:J),(80:Int),()),())).bind fun b=>
(ju (((),([([]:J),([111,110,101,10]:J),([111,110,101,10,116,119,111,10,116,104,114,101,101,10]:J),([110,111,32,101,110,100]:J),([97,10,98,10,99,10,100,10,101,10,102,10,103,10]:J),b.1.1]:List J),()),(a.2.1.1,a.2.1.2.1,()),())).bind fun c=>
 some (((),c.1.2.1,()),(c.2.1.1,c.2.1.2.1,()),())
noncomputable def RF:bb:=bf az Tryz.f292 Q5 Qy [0] Bm
theorem afW:a_ ae 292 RF:=bh ahE Tryz.func292 (by kernel_rfl) aB (fun y=>by kernel_rfl) fun a=>by kernel_rfl
noncomputable abbrev ahi:bD:=[(129,jU),(265,Hy),(291,Hx),(292,RF)]
theorem ahI:bg ae (bu az ahi):=bB ⟨ko,P_,P9,afW,⟨⟩⟩
abbrev Q9:Shape:=⟨[bj 0 500000 0],[bi 500000 [bJ .u8,bM]],26⟩
abbrev QC:Shape:=⟨[bj 0 500000 0,bj 2 2 0],[bi 500000 [bJ .u8,bM],bi 2 [bC,bM,bM,bC]],26⟩
noncomputable def we(a:Q9.L):Option QC.L:=
(tD (((),()),(a.2.1.1,a.2.1.2.1,()),())).bind fun b=>
(wc (((),([(1:Int),(1:Int),(2:Int),(2:Int),(3:Int)]:List Int),()),(b.2.1.1,b.2.1.2.1,()),())).bind fun c=>
(gZ (((),(8:Int),()),(c.2.1.1,c.2.1.2.1,()),())).bind fun d=>
 bif(c.1.2.1==(2:Int)) then
(Bm (((),()),(d.2.1.1,d.2.1.2.1,()),())).bind fun e=>
 some (((),(),()),(e.2.1.1,e.2.1.2.1,()),(b.1.2.1,c.1.2.1,d.1.2.1,e.1.2.1,()),())
else
 bif(c.1.2.1==(3:Int)) then
(tD (((),()),(d.2.1.1,d.2.1.2.1,()),())).bind fun f=>
 some (((),(),()),(f.2.1.1,f.2.1.2.1,()),(b.1.2.1,c.1.2.1,(0:Int),f.1.2.1,()),())
else
 some (((),(),()),(d.2.1.1,d.2.1.2.1,()),(b.1.2.1,c.1.2.1,d.1.2.1,([]:J),()),())
noncomputable def Hz:bb:=bf az Tryz.f263 Q9 QC [0] we
theorem P':a_ ae 263 Hz:=bh ahI Tryz.func263 (by kernel_rfl) aB (fun y=>by kernel_rfl) fun a=>by kernel_rfl
end Go.Proofs
