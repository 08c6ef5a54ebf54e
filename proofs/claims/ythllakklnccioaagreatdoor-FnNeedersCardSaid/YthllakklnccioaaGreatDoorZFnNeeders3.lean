/- Needers is the inverse of Closure: of drawn packs, and a name, who needs it has it in its closure, nobody else does, and the two Needers agree. (part 4 of 6: JnQTy, JnQSp, JnQOp, JnQEn, JnQF118, JnQF151, JnQF91, JnQF161, JnQF90, JnQPuA, JnQF89, JnQPuB, JnQFH297, JnQF271, JnQF238, JnQF241, JnQIt, JnQF127, JnQF119, JnQF121, JnQF181, JnQF162, JnQF233, JnQPuC,) Conditions: none beyond the statement. -/
import Derived.Test.YthllakklnccioaaGreatDoorZFnNeeders2
import Derived.Tactics
import Derived.Deep.RegionLaw
import Derived.Shelf.Abstract
import Derived.Test.YthllakklnccioaaGreatDoorProg
import Derived.KernelRfl
set_option linter.unusedSimpArgs false
set_option maxRecDepth 100000
set_option linter.unusedVariables false
namespace Go.Proofs
open Go.Jk
noncomputable abbrev ah:Program:=Tryz.prog
noncomputable def afF:List (Nat×cj):=[
(2,.int .i64),
(3,.int .i64),
(4,.bool),
(5,.int .u8),
(6,.int .u8),
(7,.struct [(0,1),(1,1),(2,1),(3,1)] 4 [.d (.int .i64 0),.d (.int .i64 0),.d (.bool false),.d (.int .u8 0)] false),
(8,.struct [(0,1),(1,1),(2,1),(3,1)] 4 [.d (.int .i64 0),.d (.int .i64 0),.d (.bool false),.d (.int .u8 0)] false),
(9,.str),
(10,.str),
(11,.str),
(12,.int .u64),
(13,.struct [(0,1),(1,1)] 2 [.d (.str []),.d (.int .u64 0)] false),
(14,.struct [(0,1),(1,1)] 2 [.d (.str []),.d (.int .u64 0)] false),
(15,.ptr),
(16,.ptr),
(17,.ptr),
(18,.struct [(0,1)] 1 [.cL (.pointer none)] false),
(19,.struct [(0,1)] 1 [.cL (.pointer none)] false),
(20,.iface),
(21,.int .i32),
(22,.slice 52 .pack 80),
(23,.struct [(0,1)] 1 [.nil .pack] false),
(24,.struct [(0,1)] 1 [.nil .pack] false),
(26,.slice 73 .entry 48),
(28,.slice 57 .pack 80),
(29,.struct [(0,1)] 1 [.nil .pack] false),
(30,.struct [(0,1)] 1 [.nil .pack] false),
(38,.slice 9 .str 16),
(49,.slice 139 .need 40),
(50,.slice 141 .entry 48),
(51,.struct [(0,1),(1,1),(2,1),(3,1)] 4 [.d (.str []),.d (.str []),.nil .need,.nil .entry] false),
(52,.struct [(0,1),(1,1),(2,1),(3,1)] 4 [.d (.str []),.d (.str []),.nil .need,.nil .entry] false),
(55,.slice 91 .need 40),
(56,.struct [(0,1),(1,1),(2,1),(3,1)] 4 [.d (.str []),.d (.str []),.nil .need,.nil .entry] false),
(57,.struct [(0,1),(1,1),(2,1),(3,1)] 4 [.d (.str []),.d (.str []),.nil .need,.nil .entry] false),
(62,.slice 5 .u8 1),
(72,.struct [(0,1),(1,1),(2,1),(3,1)] 4 [.d (.str []),.d (.int .i64 0),.d (.int .i64 0),.d (.str [])] false),
(73,.struct [(0,1),(1,1),(2,1),(3,1)] 4 [.d (.str []),.d (.int .i64 0),.d (.int .i64 0),.d (.str [])] true),
(86,.map 9 3 .i64),
(89,.map 9 38 .strs),
(90,.struct [(0,1),(1,1),(2,1)] 3 [.d (.str []),.d (.int .i64 0),.d (.str [])] false),
(91,.struct [(0,1),(1,1),(2,1)] 3 [.d (.str []),.d (.int .i64 0),.d (.str [])] true),
(108,.ptr),
(112,.slice 3 .i64 8),
(113,.struct [(0,1),(1,1),(2,1),(3,1)] 4 [.nil .pack,.cL (.map none),.nil .i64,.nil .str] false),
(114,.struct [(0,1),(1,1),(2,1),(3,1)] 4 [.nil .pack,.cL (.map none),.nil .i64,.nil .str] false),
(131,.int .u64),
(139,.struct [(0,1),(1,1),(2,1)] 3 [.d (.str []),.d (.int .i64 0),.d (.str [])] true),
(141,.struct [(0,1),(1,1),(2,1),(3,1)] 4 [.d (.str []),.d (.int .i64 0),.d (.int .i64 0),.d (.str [])] true),
(150,.slice 3 .i64 8),
(154,.struct [(0,1),(1,1)] 2 [.nil .u8,.d (.int .i64 0)] false),
(155,.struct [(0,1),(1,1)] 2 [.nil .u8,.d (.int .i64 0)] false),
(159,.ptr),
(166,.func),
(181,.int .i64),
(189,.int .u32),
(191,.int .u64),
(216,.int .u64),
(220,.ptr),
(233,.ptr),
(234,.struct [(0,1),(1,1)] 2 [.cL (.pointer none),.nil .u8] false),
(235,.struct [(0,1),(1,1)] 2 [.cL (.pointer none),.nil .u8] false),
(236,.iface),
(237,.iface),
(241,.arr 189 .u32 8),
(243,.slice 189 .u32 4),
(245,.ptr),
(259,.arr 4 .bool 256),
(260,.arr 4 .bool 256),
(263,.ptr),
(264,.arr 189 .u32 64),
(272,.ptr),
(276,.struct [(0,1),(1,1)] 2 [.d (.int .u8 0),.d (.int .u8 0)] false),
(277,.struct [(0,1),(1,1)] 2 [.d (.int .u8 0),.d (.int .u8 0)] false),
(290,.struct [(0,1),(1,1),(2,1),(3,1)] 4 [.cL (.pointer none),.cL (.pointer none),.cL (.pointer none),.d (.str [])] false),
(291,.struct [(0,1),(1,1),(2,1),(3,1)] 4 [.cL (.pointer none),.cL (.pointer none),.cL (.pointer none),.d (.str [])] false),
(295,.int .u8),
(296,.int .u8),
(298,.int .i32),
(299,.int .i32),
(300,.struct [(0,1),(1,1),(2,1),(3,1),(4,1),(5,1),(6,1),(7,1),(8,1),(9,1),(10,1)] 11 [.d (.int .u64 0),.d (.int .u64 0),.d (.int .u32 0),.d (.int .u8 0),.d (.int .u8 0),.d (.int .u8 0),.d (.int .u8 0),.cL .nilFunc,.cL (.pointer none),.d (.int .i32 0),.d (.int .i32 0)] false),
(301,.struct [(0,1),(1,1),(2,1),(3,1),(4,1),(5,1),(6,1),(7,1),(8,1),(9,1),(10,1)] 11 [.d (.int .u64 0),.d (.int .u64 0),.d (.int .u32 0),.d (.int .u8 0),.d (.int .u8 0),.d (.int .u8 0),.d (.int .u8 0),.cL .nilFunc,.cL (.pointer none),.d (.int .i32 0),.d (.int .i32 0)] false)]
noncomputable def tt:TypeId->cj:=zH afF
noncomputable def aH:Env:=⟨tt,[(183,257)],[17,18,26,27,37,59,60,66,67,124,160],[79],[],[],[],false⟩
abbrev cJ(s:Shape)(t:List bh):=Option (Sum s.G (a_ t))
theorem abw(s p:ByteArray)(k:Int)(w:World):Calls ah 223 #[.string s,.string p,.int .i64 k] w fun e w'=>
  e=.returned (.func (.func 257) #[] #[.pointer (some ⟨w.heap.size+1,0,none⟩),.pointer (some ⟨w.heap.size,0,none⟩),.pointer (some ⟨w.heap.size+2,0,none⟩)])/\
  w'=((w.alloc (.cells #[.string s] 9)).alloc (.cells #[.string p] 9)).alloc (.cells #[.int .i64 k] 3):=by
 go_enter Tryz.func223,Tryz.ntmps223
 go_wp2
 go_ret
 exact⟨rfl,rfl⟩
theorem abx(s p:ByteArray)(w:World):Calls ah 183 #[.string s,.string p] w fun e w'=>
  e=.returned (.func (.func 257) #[] #[.pointer (some ⟨w.heap.size+1,0,none⟩),.pointer (some ⟨w.heap.size,0,none⟩),.pointer (some ⟨w.heap.size+2,0,none⟩)])/\
  w'=((w.alloc (.cells #[.string s] 9)).alloc (.cells #[.string p] 9)).alloc (.cells #[.int .i64 0] 3):=by
 go_enter Tryz.func183,Tryz.ntmps183
 go_wp2_with (go_at_call 223;refine(abw _ _ _ _).mono ?_;rintro e w' ⟨rfl,rfl⟩)
 go_ret
 exact⟨rfl,rfl⟩
theorem ac1:yp ah 183 257:=fun a b w=>.inl ⟨enters_of Tryz.func183 (by kernel_rfl) rfl _ _,(abx a b w).mono fun e w' h=>by obtain⟨rfl,rfl⟩:=h;exact⟨9,3,rfl,rfl⟩⟩
theorem afQ(w:World):Calls ah 79 #[.slice none 0 0] w fun e w'=>e=.returned (.pointer (some ⟨w.heap.size,0,none⟩))/\w'=w.alloc (.cells #[.slice none 0 0,.int .i64 0] 155):=by
 go_enter Tryz.func79,Tryz.ntmps79
 go_wp2
 go_ret
 exact⟨rfl,rfl⟩
theorem afP(w:World)(a:Addr)(n c:Nat)(h:n<=2000):Calls ah 79 #[.slice (some a) n c] w fun e w'=>e=.returned (.pointer (some ⟨w.heap.size,0,none⟩))/\w'=w.alloc (.cells #[.slice (some a) n c,.int .i64 0] 155):=by
 have h1:¬((n:Int)>2000):=by omega
 go_enter Tryz.func79,Tryz.ntmps79
 go_wp2
 go_ret
 exact⟨rfl,rfl⟩
theorem afR(w:World)(a:Addr)(n c:Nat)(h:2000<n)(hc:n<=c):Calls ah 79 #[.slice (some a) n c] w fun e w'=>e=.returned (.pointer (some ⟨w.heap.size,0,none⟩))/\w'=w.alloc (.cells #[.slice (some a) 2000 c,.int .i64 0] 155):=by
 have h1:((n:Int)>2000):=by omega
 go_enter Tryz.func79,Tryz.ntmps79
 go_wp2
 go_ret
 exact⟨rfl,rfl⟩
theorem adi:zh ah 79:=fun xs v w av hr=>.inl ⟨enters_of Tryz.func79 (by kernel_rfl) rfl _ _,by
 have fin:∀{v:Value} {u:Value},Rd w av (.sl .u8 (xs.take 2000)) u->Calls ah 79 #[v] w (fun e w'=>e=.returned (.pointer (some ⟨w.heap.size,0,none⟩))/\w'=w.alloc (.cells #[u,.int .i64 0] 155))->
   Calls ah 79 #[v] w fun e w'=>match e,w' with
    |.returned v',w'=>∃u T,Rd w av (.sl .u8 (xs.take 2000)) u/\v'=.pointer (some ⟨w.heap.size,0,none⟩)/\w'=w.alloc (.cells #[u,.int .i64 0] T)
    |_,_=>False:=fun hu hc=>hc.mono fun e w' h=>by obtain⟨rfl,rfl⟩:=h;exact⟨_,_,hu,rfl,rfl⟩
 cases hr with
 |nil=>exact fin (.nil .u8) (afQ w)
 |sl t xs a cap cs n hn hcap hb hl hc hr=>
  by_cases h:2000<n
  ·refine fin (u:=.slice (some a) 2000 cap) ?_ (afR w a n cap h hcap);have hlen:(xs.take 2000).length=2000:=by simp only[List.length_take];omega
   have hf:flat .u8 (xs.take 2000)=(flat .u8 xs).take 2000:=by rw[Jt];rfl
   refine .sl .u8 (xs.take 2000) a cap (cs.take 2000) 2000 hlen.symm (by omega) (fun hx=>hb (fun e=>hx (by rw[e];rfl))) (by rw[hf,List.length_take,List.length_take,hl]) (fun j u hu=>?_) (fun j h1 h2=>?_)
   ·rw[List.getElem?_take] at hu;split at hu
    ·exact hc j u hu
    ·cases hu
   ·have h1':j<(flat .u8 xs).length:=by rw[hf,List.length_take] at h1;omega
    have h2':j<cs.length:=by rw[List.length_take] at h2;omega
    have e1:(flat .u8 (xs.take 2000))[j]=(flat .u8 xs)[j]:=by simp only[hf,List.getElem_take]
    have e2:(cs.take 2000)[j]=cs[j]:=List.getElem_take;rw[e1,e2];exact hr j h1' h2'
  ·refine fin (u:=.slice (some a) n cap) ?_ (afP w a n cap (by omega))
   rw[List.take_of_length_le (by omega)]
   exact .sl .u8 xs a cap cs n hn hcap hb hl hc hr⟩
theorem ajd:NX ah aH:=⟨Zj (KI (by kernel_rfl)),by kernel_rfl,fun p h=>by
 simp only[aH,List.mem_cons,List.not_mem_nil,or_false] at h;subst h;exact ac1,fun g h=>by
 simp only[aH,List.mem_cons,List.not_mem_nil,or_false] at h;subst h;exact adi,fun g h=>(by cases h),fun g h=>(by cases h),fun p h=>(by cases h)⟩
theorem bV{L:bZ}(h:Ac ah L):bz ah (bX aH L):=_D ajd h
theorem g0:bz ah (bX aH []):=bV ⟨⟩
abbrev K3:Shape:=⟨[aQ 0],[],49⟩
abbrev KT:List bh:=[(.norm,⟨[aQ 0,aV 20],[],49⟩)]
noncomputable def Dw(y:K3.G):Option (a_ KT):=
 bif(!(y.1.1==([]:E))) then
 bif(!(decide ((y.1.1.length:Int)>(10:Int)))) then
(bd y.1.1 (0:Int)).bind fun a=>
 bif(!(decide ((a.toNat:Int)<(97:Int)))) then
(bd y.1.1 (0:Int)).bind fun b=>
 some ((y.1.1,(decide ((b.toNat:Int)>(122:Int))),()),())
else
 some ((y.1.1,true,()),())
else
 some ((y.1.1,true,()),())
else
 some ((y.1.1,true,()),())
theorem Z4:bo ah (aO (codeOf Tryz.f118) 1 12) (bE K3 KT Dw):=dD g0 (by kernel_rfl) aE fun y=>by kernel_rfl
abbrev I7:Shape:=⟨[aQ 0,ar 3,ar 22,ar 23],[],49⟩
abbrev IU:List bh:=[(.norm,⟨[aQ 0,ar 22,ar 23,aV 47],[],49⟩)]
noncomputable def BO(y:I7.G):Option (a_ IU):=
(bd y.1.1 y.1.2.1).bind fun a=>
 bif(!(decide ((a.toNat:Int)<(97:Int)))) then
(bd y.1.1 y.1.2.1).bind fun b=>
 bif(decide ((b.toNat:Int)>(122:Int))) then
(bd y.1.1 y.1.2.1).bind fun c=>
 bif(!(decide ((c.toNat:Int)<(48:Int)))) then
(bd y.1.1 y.1.2.1).bind fun d=>
 some ((y.1.1,y.1.2.2.1,y.1.2.2.2.1,(decide ((d.toNat:Int)>(57:Int))),()),())
else
 some ((y.1.1,y.1.2.2.1,y.1.2.2.2.1,true,()),())
else
 some ((y.1.1,y.1.2.2.1,y.1.2.2.2.1,false,()),())
else
(bd y.1.1 y.1.2.1).bind fun e=>
 bif(!(decide ((e.toNat:Int)<(48:Int)))) then
(bd y.1.1 y.1.2.1).bind fun f=>
 some ((y.1.1,y.1.2.2.1,y.1.2.2.2.1,(decide ((f.toNat:Int)>(57:Int))),()),())
else
 some ((y.1.1,y.1.2.2.1,y.1.2.2.2.1,true,()),())
theorem W1:bo ah (aO (dT (aO (codeOf Tryz.f118) 1 58)) 116 7474) (bE I7 IU BO):=dD g0 (by kernel_rfl) aE fun y=>by kernel_rfl
abbrev xY:Shape:=⟨[aQ 0,ar 22,ar 23],[],49⟩
abbrev CV:List bh:=[(.ret,⟨[aV 2],[],49⟩),(.exit 0,⟨[],[],49⟩)]
noncomputable def yi(y:xY.G):cJ xY CV:=
 bif(decide (y.1.2.2.1<y.1.2.1)) then
(BO ((y.1.1,y.1.2.2.1,y.1.2.1,y.1.2.2.1,()),())).bind fun a=>
 bif a.1.2.2.2.1 then
 some (.inr (.inl ((false,()),())))
else
 some (.inl ((a.1.1,a.1.2.1,(IntKind.i64.wrap (a.1.2.2.1+(1:Int))),()),()))
else
 some (.inr (.inr ((),())))
noncomputable def Dk:xY.G->Option (a_ CV):=b8 yi
theorem Z3:bo ah (aO (codeOf Tryz.f118) 1 58) (bE xY CV Dk):=cQ g0 (by kernel_rfl) (bJ W1 aE) fun y=>by kernel_rfl
abbrev i118:Shape:=⟨[aQ 0],[],49⟩
abbrev O9:Shape:=⟨[aV 2],[],49⟩
noncomputable def f118(a:i118.G):Option O9.G:=
(Dw ((a.1.1,()),())).bind fun b=>
 bif b.1.2.1 then
 some ((false,()),())
else
(Dk ((b.1.1,(b.1.1.length:Int),(0:Int),()),())).bind fun c=>
(match c with
|.inl d=>
 some ((d.1.1,()),())
|.inr e=>
 some ((true,()),()))
noncomputable def FD:bg:=bq aH Tryz.f118 i118 O9 [] f118
theorem N6:bc ah 118 FD:=bB g0 Tryz.func118 (by kernel_rfl) (bJ Z4 (bJ Z3 aE)) (fun y=>by kernel_rfl) fun a=>by kernel_rfl
abbrev KZ:Shape:=⟨[aQ 0,ar 1],[],53⟩
abbrev KP:List bh:=[(.norm,⟨[aQ 0,ar 1,aV 24],[],53⟩)]
noncomputable def Dt(y:KZ.G):Option (a_ KP):=
 bif(!(y.1.1==([]:E))) then
 bif(!(decide ((y.1.1.length:Int)>(9:Int)))) then
 bif(decide ((y.1.1.length:Int)>(1:Int))) then
(bd y.1.1 (0:Int)).bind fun a=>
 some ((y.1.1,y.1.2.1,((a.toNat:Int)==(48:Int)),()),())
else
 some ((y.1.1,y.1.2.1,false,()),())
else
 some ((y.1.1,y.1.2.1,true,()),())
else
 some ((y.1.1,y.1.2.1,true,()),())
theorem ZX:bo ah (aO (codeOf Tryz.f151) 1 12) (bE KZ KP Dt):=dD g0 (by kernel_rfl) aE fun y=>by kernel_rfl
abbrev Ig:Shape:=⟨[aQ 0,ar 1,ar 6,ar 7,ar 26,ar 27],[],53⟩
abbrev Ic:List bh:=[(.norm,⟨[aQ 0,ar 1,ar 6,ar 7,ar 26,ar 27,aV 39],[],53⟩)]
noncomputable def Bm(y:Ig.G):Option (a_ Ic):=
(bd y.1.1 y.1.2.2.2.1).bind fun a=>
 bif(!(decide ((a.toNat:Int)<(48:Int)))) then
(bd y.1.1 y.1.2.2.2.1).bind fun b=>
 some ((y.1.1,y.1.2.1,y.1.2.2.1,y.1.2.2.2.1,y.1.2.2.2.2.1,y.1.2.2.2.2.2.1,(decide ((b.toNat:Int)>(57:Int))),()),())
else
 some ((y.1.1,y.1.2.1,y.1.2.2.1,y.1.2.2.2.1,y.1.2.2.2.2.1,y.1.2.2.2.2.2.1,true,()),())
theorem Vi:bo ah (aO (dT (aO (codeOf Tryz.f151) 1 122)) 244 31332) (bE Ig Ic Bm):=dD g0 (by kernel_rfl) aE fun y=>by kernel_rfl
abbrev xc:Shape:=⟨[aQ 0,ar 1,ar 6,ar 26,ar 27],[],53⟩
abbrev B0:List bh:=[(.ret,⟨[ar 4,aV 5],[],53⟩),(.exit 0,⟨[ar 1,ar 6],[],53⟩)]
noncomputable def xq(y:xc.G):cJ xc B0:=
 bif(decide (y.1.2.2.2.2.1<y.1.2.2.2.1)) then
(Bm ((y.1.1,y.1.2.1,y.1.2.2.1,y.1.2.2.2.2.1,y.1.2.2.2.1,y.1.2.2.2.2.1,()),())).bind fun a=>
 bif a.1.2.2.2.2.2.2.1 then
 some (.inr (.inl (((0:Int),false,()),())))
else
(bd a.1.1 a.1.2.2.2.1).bind fun b=>
 some (.inl ((a.1.1,a.1.2.1,(IntKind.i64.wrap ((IntKind.i64.wrap (a.1.2.2.1*(10:Int)))+(IntKind.i64.wrap (IntKind.u8.wrap ((b.toNat:Int)-(48:Int)))))),a.1.2.2.2.2.1,(IntKind.i64.wrap (a.1.2.2.2.2.2.1+(1:Int))),()),()))
else
 some (.inr (.inr ((y.1.2.1,y.1.2.2.1,()),())))
noncomputable def xh:xc.G->Option (a_ B0):=b8 xq
theorem Yp:bo ah (aO (codeOf Tryz.f151) 1 122) (bE xc B0 xh):=cQ g0 (by kernel_rfl) (bJ Vi aE) fun y=>by kernel_rfl
abbrev i151:Shape:=⟨[aQ 0,ar 1],[],53⟩
abbrev OX:Shape:=⟨[ar 4,aV 5],[],53⟩
noncomputable def f151(a:i151.G):Option OX.G:=
(Dt ((a.1.1,a.1.2.1,()),())).bind fun b=>
 bif b.1.2.2.1 then
 some (((0:Int),false,()),())
else
(xh ((b.1.1,b.1.2.1,(0:Int),(b.1.1.length:Int),(0:Int),()),())).bind fun c=>
(match c with
|.inl d=>
 some ((d.1.1,d.1.2.1,()),())
|.inr e=>
 bif(decide (e.1.2.1>e.1.1)) then
 some (((0:Int),false,()),())
else
 some ((e.1.2.1,true,()),()))
noncomputable def Qh:bg:=bq aH Tryz.f151 i151 OX [] f151
theorem acP:bc ah 151 Qh:=bB g0 Tryz.func151 (by kernel_rfl) (bJ ZX (bJ Yp aE)) (fun y=>by kernel_rfl) fun a=>by kernel_rfl
abbrev i91:Shape:=⟨[ar 0,ar 1,ar 2],[],15⟩
abbrev QY:Shape:=⟨[aV 6],[],15⟩
noncomputable def f91(a:i91.G):Option QY.G:=
 bif(decide (a.1.1>=a.1.2.1)) then
 some (((decide (a.1.1<=a.1.2.2.1)),()),())
else
 some ((false,()),())
noncomputable def qO:bg:=bq aH Tryz.f91 i91 QY [] f91
theorem z91:bc ah 91 qO:=bB g0 Tryz.func91 (by kernel_rfl) aE (fun y=>by kernel_rfl) fun a=>by kernel_rfl
noncomputable abbrev aeH:bZ:=[(91,qO)]
theorem z8:bz ah (bX aH aeH):=bV ⟨z91,⟨⟩⟩
abbrev Ke:Shape:=⟨[aQ 0,ar 3],[],42⟩
abbrev JZ:List bh:=[(.norm,⟨[aQ 0,ar 3,aV 4],[],42⟩)]
noncomputable def Ck(y:Ke.G):Option (a_ JZ):=
(bd y.1.1 y.1.2.1).bind fun a=>
 bif(decide ((a.toNat:Int)>=(97:Int))) then
(bd y.1.1 y.1.2.1).bind fun b=>
 some ((y.1.1,y.1.2.1,(decide ((b.toNat:Int)<=(122:Int))),()),())
else
 some ((y.1.1,y.1.2.1,false,()),())
theorem Yn:bo ah (aO (dT (aO (codeOf Tryz.f161) 1 26)) 52 840) (bE Ke JZ Ck):=dD z8 (by kernel_rfl) aE fun y=>by kernel_rfl
abbrev I4:Shape:=⟨[aQ 0,ar 3,aV 4],[],42⟩
abbrev IR:List bh:=[(.norm,⟨[aQ 0,ar 3,aV 38],[],42⟩)]
noncomputable def BM(y:I4.G):Option (a_ IR):=
 bif(!y.1.2.2.1) then
 bif(!(y.1.2.1==(0:Int))) then
(bd y.1.1 y.1.2.1).bind fun a=>
 bif(!(decide ((a.toNat:Int)<(48:Int)))) then
(bd y.1.1 y.1.2.1).bind fun b=>
 some ((y.1.1,y.1.2.1,(decide ((b.toNat:Int)>(57:Int))),()),())
else
 some ((y.1.1,y.1.2.1,true,()),())
else
 some ((y.1.1,y.1.2.1,true,()),())
else
 some ((y.1.1,y.1.2.1,false,()),())
theorem WU:bo ah (aO (dT (aO (codeOf Tryz.f161) 1 26)) 52 1682) (bE I4 IR BM):=dD z8 (by kernel_rfl) aE fun y=>by kernel_rfl
abbrev xS:Shape:=⟨[aQ 0,ar 3],[],42⟩
abbrev CQ:List bh:=[(.ret,⟨[aV 2],[],42⟩),(.exit 0,⟨[aQ 0],[],42⟩)]
noncomputable def ye(y:xS.G):cJ xS CQ:=
 bif(decide (y.1.2.1<(y.1.1.length:Int))) then
(Ck ((y.1.1,y.1.2.1,()),())).bind fun a=>
(BM ((a.1.1,a.1.2.1,a.1.2.2.1,()),())).bind fun b=>
 bif b.1.2.2.1 then
 some (.inr (.inl ((false,()),())))
else
 some (.inl ((b.1.1,(IntKind.i64.wrap (b.1.2.1+(1:Int))),()),()))
else
 some (.inr (.inr ((y.1.1,()),())))
noncomputable def Dg:xS.G->Option (a_ CQ):=b8 ye
theorem ZT:bo ah (aO (codeOf Tryz.f161) 1 26) (bE xS CQ Dg):=cQ z8 (by kernel_rfl) (bJ Yn (bJ WU aE)) fun y=>by kernel_rfl
abbrev i161:Shape:=⟨[aQ 0],[],42⟩
abbrev OT:Shape:=⟨[aV 2],[],42⟩
noncomputable def f161(a:i161.G):Option OT.G:=
(Dg ((a.1.1,(0:Int),()),())).bind fun b=>
(match b with
|.inl c=>
 some ((c.1.1,()),())
|.inr d=>
(f91 (((d.1.1.length:Int),(1:Int),(10:Int),()),())).bind fun e=>
 some ((e.1.1,()),()))
noncomputable def FA:bg:=bq aH Tryz.f161 i161 OT [] f161
theorem N4:bc ah 161 FA:=bB z8 Tryz.func161 (by kernel_rfl) (bJ ZT aE) (fun y=>by kernel_rfl) fun a=>by kernel_rfl
abbrev J5:Shape:=⟨[aQ 0,ar 3,ar 4],[],47⟩
abbrev JO:List bh:=[(.norm,⟨[aQ 0,ar 3,ar 4,aV 24],[],47⟩)]
noncomputable def Ce(y:J5.G):Option (a_ JO):=
(bd y.1.1 y.1.2.2.1).bind fun a=>
 bif(!(decide ((a.toNat:Int)<(48:Int)))) then
(bd y.1.1 y.1.2.2.1).bind fun b=>
 bif(!(decide ((b.toNat:Int)>(57:Int)))) then
 some ((y.1.1,y.1.2.1,y.1.2.2.1,(decide (y.1.2.2.1>=(6:Int))),()),())
else
 some ((y.1.1,y.1.2.1,y.1.2.2.1,true,()),())
else
 some ((y.1.1,y.1.2.1,y.1.2.2.1,true,()),())
theorem X9:bo ah (aO (dT (aO (codeOf Tryz.f90) 1 58)) 116 3728) (bE J5 JO Ce):=dD g0 (by kernel_rfl) aE fun y=>by kernel_rfl
abbrev yy:Shape:=⟨[aQ 0,ar 3,ar 4],[],47⟩
abbrev DJ:List bh:=[(.ret,⟨[ar 2],[],47⟩),(.exit 0,⟨[aQ 0,ar 3],[],47⟩)]
noncomputable def yV(y:yy.G):cJ yy DJ:=
 bif(decide (y.1.2.2.1<(y.1.1.length:Int))) then
(Ce ((y.1.1,y.1.2.1,y.1.2.2.1,()),())).bind fun a=>
 bif a.1.2.2.2.1 then
 some (.inr (.inl ((((-1):Int),()),())))
else
(bd a.1.1 a.1.2.2.1).bind fun b=>
 some (.inl ((a.1.1,(IntKind.i64.wrap ((IntKind.i64.wrap (a.1.2.1*(10:Int)))+(IntKind.i64.wrap (IntKind.u8.wrap ((b.toNat:Int)-(48:Int)))))),(IntKind.i64.wrap (a.1.2.2.1+(1:Int))),()),()))
else
 some (.inr (.inr ((y.1.1,y.1.2.1,()),())))
noncomputable def DY:yy.G->Option (a_ DJ):=b8 yV
theorem _9:bo ah (aO (codeOf Tryz.f90) 1 58) (bE yy DJ DY):=cQ g0 (by kernel_rfl) (bJ X9 aE) fun y=>by kernel_rfl
abbrev L1:Shape:=⟨[aQ 0,ar 3],[],47⟩
abbrev LX:List bh:=[(.norm,⟨[ar 3,aV 45],[],47⟩)]
noncomputable def D5(y:L1.G):Option (a_ LX):=
 bif(!((y.1.1.length:Int)==(0:Int))) then
 bif(decide ((y.1.1.length:Int)>(1:Int))) then
(bd y.1.1 (0:Int)).bind fun a=>
 some ((y.1.2.1,((a.toNat:Int)==(48:Int)),()),())
else
 some ((y.1.2.1,false,()),())
else
 some ((y.1.2.1,true,()),())
theorem _8:bo ah (aO (codeOf Tryz.f90) 1 60) (bE L1 LX D5):=dD g0 (by kernel_rfl) aE fun y=>by kernel_rfl
abbrev i90:Shape:=⟨[aQ 0],[],47⟩
abbrev QZ:Shape:=⟨[ar 2],[],47⟩
noncomputable def f90(a:i90.G):Option QZ.G:=
(DY ((a.1.1,(0:Int),(0:Int),()),())).bind fun b=>
(match b with
|.inl c=>
 some ((c.1.1,()),())
|.inr d=>
(D5 ((d.1.1,d.1.2.1,()),())).bind fun e=>
 bif e.1.2.1 then
 some ((((-1):Int),()),())
else
 some ((e.1.1,()),()))
noncomputable def R7:bg:=bq aH Tryz.f90 i90 QZ [] f90
theorem afl:bc ah 90 R7:=bB g0 Tryz.func90 (by kernel_rfl) (bJ _9 (bJ _8 aE)) (fun y=>by kernel_rfl) fun a=>by kernel_rfl
def jo(b:UInt8):Bool:=decide ((97:Int)<=(b.toNat:Int))&&decide ((b.toNat:Int)<=122)
def eb(b:UInt8):Bool:=decide ((48:Int)<=(b.toNat:Int))&&decide ((b.toNat:Int)<=57)
def within(n cl am:Int):Bool:=decide (cl<=n)&&decide (n<=am)
theorem rG(a):f91 a=some ((within a.1.1 a.1.2.1 a.1.2.2.1,()),()):=by
 simp only[f91,within,ge_iff_le];cases decide (a.1.2.1<=a.1.1)<;>rfl
def lg(s:E):Bool:=allI (fun i x=>jo x||(!(i==0)&&eb x)) 0 s&&within s.length 1 10
theorem JF(a)(H:aW a.1.1.length):f161 a=some ((lg a.1.1,()),()):=by
 obtain⟨⟨s,u⟩,bS⟩:=a;have key:Dg ((s,((0:Int),())),())=some (bif allI (fun i x=>jo x||(!(i==0)&&eb x)) 0 s then .inr ((s,()),()) else .inl ((false,()),())):=by
  refine ig ye s (fun i=>((s,((i:Int),())),())) _ _ _ (fun i x hx=>?_) ?_
  ·have am:=dh hx;have hw:aW i:=by unfold aW at*;simp only at H;omega
   simp only[ye,c_ am,cond_true,Ck,BM,cF,hx,Option.bind_some,c2 hw,ge_iff_le,PG];unfold jo eb;by_cases h1:(97:Int)<=(x.toNat:Int)<;>by_cases h2:(x.toNat:Int)<=122<;>cases aa:(i==0)<;>by_cases aN:(48:Int)<=(x.toNat:Int)<;>by_cases bn:(x.toNat:Int)<=57<;>simp[h1,h2,aa,aN,bn,c2 hw,cF,hx,PG,pw,px,-beq_iff_eq]
  ·simp only[ye,eT,cond_false]
 simp only[f161,key,Option.bind_some];unfold lg;cases allI (fun i x=>jo x||(!(i==0)&&eb x)) 0 s with
 |false=>rfl
 |true=>simp only[cond_true,rG,Option.bind_some,Bool.true_and]
theorem Us(b:UInt8)(r:E):lg (b::r)=(jo b&&(b::r).all (fun x=>jo x||eb x)&&decide (((b::r).length:Int)<=10)):=by
 unfold lg;simp only[allI,List.all_cons];have:allI (fun i x=>jo x||(!(i==0)&&eb x)) (0+1) r=r.all (fun x=>jo x||eb x):=by
  have aK:∀(i:Nat) (x:UInt8),1<=i->x∈r->(jo x||(!(i==0)&&eb x))=(jo x||eb x):=by
   intro i x am _;have:(i==0)=false:=by simp;omega
   rw[this];simp
  rw[V4 (mi:=fun _ x=>jo x||eb x) r 1 aK,ij]
 rw[this];unfold within;have:decide ((1:Int)<=((b::r).length:Int))=true:=by simp only[List.length_cons,decide_eq_true_eq];omega
 rw[this];cases jo b<;>simp
theorem Hr(a)(H:aW a.1.1.length):f118 a=some ((lg a.1.1,()),()):=by
 obtain⟨⟨s,u⟩,bS⟩:=a;have key:Dk ((s,((s.length:Int),((0:Int),()))),())=some (bif allI (fun _ x=>jo x||eb x) 0 s then .inr ((),()) else .inl ((false,()),())):=by
  refine ig yi s (fun i=>((s,((s.length:Int),((i:Int),()))),())) _ _ _ (fun i x hx=>?_) ?_
  ·have am:=dh hx;have hw:aW i:=by unfold aW at*;simp only at H;omega
   simp only[yi,c_ am,cond_true,BO,cF,hx,Option.bind_some,c2 hw,pw,px];unfold jo eb;by_cases h1:(97:Int)<=(x.toNat:Int)<;>by_cases h2:(x.toNat:Int)<=122<;>by_cases aN:(48:Int)<=(x.toNat:Int)<;>by_cases bn:(x.toNat:Int)<=57<;>simp[h1,h2,aN,bn,c2 hw,cF,hx,pw,px]
  ·simp only[yi,eT,cond_false]
 rw[ij] at key;cases s with
 |nil=>rfl
 |cons b r=>
  have hb:bd (b::r) 0=some b:=rfl;simp only[f118,Dw,hb,Option.bind_some,pw,px,Us];have he:((b::r)==([]:E))=false:=rfl;have hl:jo b=(decide ((97:Int)<=(b.toNat:Int))&&decide ((b.toNat:Int)<=122)):=rfl;rw[he,hl];by_cases h1:(97:Int)<=(b.toNat:Int)<;>by_cases h2:(b.toNat:Int)<=122<;>by_cases aa:((b::r).length:Int)<=10<;>
   simp only[h1,h2,aa,decide_true,decide_false,Bool.not_true,Bool.not_false,cond_true,cond_false,Option.bind_some,Bool.true_and,Bool.and_true,Bool.false_and,Bool.and_false]
  rw[key];generalize List.all (b::r) (fun x=>jo x||eb x)=q
  cases q<;>rfl
def hL(n:Int)(b:UInt8):Int:=n*10+((b.toNat:Int)-48)
def gU(s:E):Int:=s.foldl hL 0
def mU:E->Bool
 |b::_::_=>(b.toNat:Int)==48
 |_=>false
def fW(s:E):Bool:=s.all eb&&!(s==[])&&!mU s&&decide (s.length<=6)&&decide (gU s<=999)
theorem nB{b:UInt8}(h:eb b=true):48<=(b.toNat:Int)/\(b.toNat:Int)<=57:=by
 simpa[eb] using h
theorem _1{b:UInt8}(h:eb b=true):IntKind.u8.wrap ((b.toNat:Int)-48)=(b.toNat:Int)-48:=by
 have:=nB h;rw[IntKind.wrap_u8];omega
theorem HI{n:Int}{b:UInt8}{i:Nat}(h:eb b=true)(a8:0<=n)(h1:n<10^i):0<=hL n b/\hL n b<10^(i+1):=by
 have:=nB h;unfold hL;rw[Int.pow_succ];omega
theorem Z8{i:Nat}(h:i<=9):(10:Int)^i<=1000000000:=by
 have:i=0\/i=1\/i=2\/i=3\/i=4\/i=5\/i=6\/i=7\/i=8\/i=9:=by omega
 rcases this with rfl|rfl|rfl|rfl|rfl|rfl|rfl|rfl|rfl|rfl<;>decide
theorem IV{n:Int}{b:UInt8}{i:Nat}(h:eb b=true)(am:i<=8)(a8:0<=n)(h1:n<10^i):
  IntKind.i64.wrap (IntKind.i64.wrap (n*10)+IntKind.i64.wrap (IntKind.u8.wrap ((b.toNat:Int)-48)))=hL n b:=by
 have Y:=nB h;have ai:=Z8 (show i<=9 by omega)
 rw[_1 h,eh (n:=n*10) (by omega) (by omega),eh (n:=(b.toNat:Int)-48) (by omega) (by omega),eh (by omega) (by omega)]
 rfl
theorem Ze(a)(H:aW a.1.1.length):f90 a=some ((bif a.1.1.all eb&&decide (a.1.1.length<=6)&&!(a.1.1==[])&&!mU a.1.1 then gU a.1.1 else-1,()),()):=by
 obtain⟨⟨s,u⟩,bS⟩:=a;have key:DY ((s,((0:Int),((0:Int),()))),())=some (bif allI (fun i x=>eb x&&decide (i<6)) 0 s then .inr ((s,(gU s,())),()) else .inl ((((-1):Int),()),())):=by
  have:=rm yV s (fun i n=>((s,(n,((i:Int),()))),())) (fun i x n=>some (bif eb x&&decide (i<6) then .inl (hL n x) else .inr (.inl ((((-1):Int),()),())))) (fun n=>.inr ((s,(n,())),()))
   (fun i n=>0<=n/\n<10^i/\(i<=6)) (0:Int) ⟨by decide,by decide,by decide⟩ (fun i x n hx e3=>?_) (fun n _=>?_)
  ·exact this.trans (by rw[Bc];rfl)
  ·have am:=dh hx;have hw:aW i:=by unfold aW at*;simp only at H;omega
   obtain⟨a8,h1,dY⟩:=e3;refine⟨?_,fun ap af=>?_⟩
   ·simp only[yV,c_ am,cond_true,Ce,cF,hx,Option.bind_some,c2 hw,pw,px,RY];have ado:decide ((6:Int)<=(i:Int))=!decide (i<6):=by by_cases h:i<6<;>simp[h]<;>omega
    rw[ado];cases Y:eb x with
    |false=>
     unfold eb at Y;by_cases aN:(48:Int)<=(x.toNat:Int)<;>by_cases bn:(x.toNat:Int)<=57<;>simp[aN,bn] at Y ⊢
    |true=>
     obtain⟨aN,bn⟩:=nB Y;cases aA:decide (i<6) with
     |false=>simp[aN,bn]
     |true=>
      have aA:i<6:=by simpa using aA
      have:=IV (i:=i) Y (by omega) a8 h1
      simp only[aN,bn,decide_true,Bool.not_true,Bool.not_false,cond_true,cond_false,Option.bind_some,cF,hx,this,c2 hw,Bool.and_true,Option.map_some]
   ·simp only[Option.some.injEq] at af;cases aA:(eb x&&decide (i<6)) with
    |false=>rw[aA] at af;cases af
    |true=>
     rw[aA] at af;simp only[cond_true,Sum.inl.injEq] at af;simp only[Bool.and_eq_true,decide_eq_true_eq] at aA;subst af;have:=HI aA.1 a8 h1;exact⟨this.1,this.2,by omega⟩
  ·simp only[yV,eT,cond_false]
 rw[KE,ij,_N] at key;simp only[f90,key,Option.bind_some];cases s with
 |nil=>rfl
 |cons b r=>
  have hb:bd (b::r) 0=some b:=rfl;have he:((b::r)==([]:E))=false:=rfl;have aK:(((b::r).length:Int)==0)=false:=by simp only[List.length_cons,beq_eq_false_iff_ne,ne_eq];omega
  have hl:decide (((b::r).length:Int)>1)=!(r==[]):=by cases r<;>simp;omega
  simp only[List.isEmpty_cons,Bool.false_or,Nat.zero_add,he,Bool.not_false,Bool.and_true];cases aA:(List.all (b::r) eb&&decide ((b::r).length<=6)) with
  |false=>rfl
  |true=>
   simp only[cond_true,D5,aK,Bool.not_false,hl,hb,Option.bind_some,Bool.true_and];cases r with
   |nil=>rfl
   |cons c r=>
    have:((c::r)==([]:E))=false:=rfl;rw[this];simp only[Bool.not_false,cond_true,Option.bind_some,mU];cases ((b.toNat:Int)==48)<;>rfl
theorem V8:∀(r:E) (n:Int) (k:Nat),r.all eb=true->0<=n->10^k<=n->10^(k+r.length)<=r.foldl hL n:=by
 intro r;induction r with
 |nil=>intro n k _ _ h;exact h
 |cons b r ih=>
  intro n k Y a8 h;simp only[List.all_cons,Bool.and_eq_true] at Y;have hb:=nB Y.1;have H:10^(k+1)<=hL n b:=by unfold hL;rw[Int.pow_succ];omega
  have:=ih (hL n b) (k+1) Y.2 (by unfold hL;omega) H
  simp only[List.length_cons,List.foldl_cons];rw[show k+(r.length+1)=k+1+r.length by omega]
  exact this
theorem Yr{n:Nat}(h:6<=n):(1000000:Int)<=10^n:=by
 induction n with
 |zero=>omega
 |succ n ih=>
  by_cases dY:6<=n
  ·have:=ih dY;rw[Int.pow_succ];omega
  ·have:n=5:=by omega
   subst this;decide
theorem Zb{s:E}(Y:s.all eb=true)(hl:mU s=false)(lP:7<=s.length):999<gU s:=by
 match s,lP with
 |b::c::r,lP=>
  simp only[mU,beq_eq_false_iff_ne,ne_eq] at hl;simp only[List.all_cons,Bool.and_eq_true] at Y;have hb:=nB Y.1;have hc:=nB Y.2.1;have H:(10:Int)^0<=hL 0 b:=by unfold hL;simp;omega
  have:=V8 (c::r) (hL 0 b) 0 (by simp[Y.2.1,Y.2.2]) (by unfold hL;omega) H
  have h2:(1000000:Int)<=10^(0+(c::r).length):=Yr (by simp only[List.length_cons] at lP ⊢;omega)
  show 999<List.foldl hL (hL 0 b) (c::r);omega
theorem XB(a)(H:aW a.1.1.length)(oz:a.1.2.1=999):f151 a=some ((bif fW a.1.1 then gU a.1.1 else 0,(fW a.1.1,())),()):=by
 obtain⟨⟨s,m,u⟩,bS⟩:=a;obtain rfl:m=999:=oz;have key:s.length<=9->xh ((s,((999:Int),((0:Int),((s.length:Int),((0:Int),()))))),())=some (bif allI (fun i x=>eb x) 0 s then .inr (((999:Int),(gU s,())),()) else .inl (((0:Int),(false,())),())):=by
  intro oz;have:=rm xq s (fun i n=>((s,((999:Int),(n,((s.length:Int),((i:Int),()))))),())) (fun i x n=>some (bif eb x then .inl (hL n x) else .inr (.inl (((0:Int),(false,())),())))) (fun n=>.inr (((999:Int),(n,())),()))
   (fun i n=>0<=n/\n<10^i/\(i<=9)) (0:Int) ⟨by decide,by decide,by decide⟩ (fun i x n hx e3=>?_) (fun n _=>?_)
  ·exact this.trans (by rw[Bc];rfl)
  ·have am:=dh hx;have hw:aW i:=by unfold aW at*;simp only at H;omega
   obtain⟨a8,h1,dY⟩:=e3;refine⟨?_,fun ap af=>?_⟩
   ·simp only[xq,c_ am,cond_true,Bm,cF,hx,Option.bind_some,c2 hw,pw,px,RY];cases Y:eb x with
    |false=>
     unfold eb at Y;by_cases aN:(48:Int)<=(x.toNat:Int)<;>by_cases bn:(x.toNat:Int)<=57<;>simp[aN,bn] at Y ⊢
    |true=>
     obtain⟨aN,bn⟩:=nB Y;have:=IV (i:=i) Y (by omega) a8 h1
     simp only[aN,bn,decide_true,Bool.not_true,Bool.not_false,cond_true,cond_false,Option.bind_some,cF,hx,this,c2 hw,Bool.and_true,Option.map_some]
   ·simp only[Option.some.injEq] at af;cases aA:eb x with
    |false=>rw[aA] at af;cases af
    |true=>
     rw[aA] at af;simp only[cond_true,Sum.inl.injEq] at af;subst af;have:=HI aA a8 h1;exact⟨this.1,this.2,by omega⟩
  ·simp only[xq,eT,cond_false]
 rw[ij] at key;cases s with
 |nil=>rfl
 |cons b r=>
  have hb:bd (b::r) 0=some b:=rfl;have he:((b::r)==([]:E))=false:=rfl;have hl:decide (((b::r).length:Int)>1)=!(r==[]):=by cases r<;>simp;omega
  have oz:decide (((b::r).length:Int)>9)=!decide ((b::r).length<=9):=by by_cases h:(b::r).length<=9<;>simp only[h,decide_true,decide_false,Bool.not_true,Bool.not_false,decide_eq_true_eq,decide_eq_false_iff_not]<;>omega
  have Eu:mU (b::r)=(!(r==[])&&(b.toNat:Int)==48):=by cases r<;>rfl
  simp only[f151,Dt,he,hl,oz,Bool.not_false,cond_true,Bool.not_not,hb,Option.bind_some];have fin:(b::r).length<=9->mU (b::r)=false->((xh ((b::r,((999:Int),((0:Int),(((b::r).length:Int),((0:Int),()))))),())).bind fun ade=>match ade with
    |.inl N9=>some ((N9.1.1,(N9.1.2.1,())),())
    |.inr EQ=>bif decide (EQ.1.2.1>EQ.1.1) then some (((0:Int),(false,())),()) else some ((EQ.1.2.1,(true,())),()))=
    some ((bif fW (b::r) then gU (b::r) else 0,(fW (b::r),())),()):=by
   intro oz kU;rw[key oz];unfold fW;rw[he,kU];cases Y:List.all (b::r) eb with
   |false=>rfl
   |true=>
    simp only[cond_true,Option.bind_some,Bool.not_false,Bool.true_and,px];by_cases dY:(b::r).length<=6
    ·simp only[dY,decide_true,Bool.true_and];cases decide (gU (b::r)<=999)<;>rfl
    ·have:=Zb Y kU (by omega)
     have:decide (gU (b::r)<=999)=false:=by simp only[decide_eq_false_iff_not];omega
     rw[this];simp only[dY,decide_false,Bool.false_and];rfl
  by_cases aA:(b::r).length<=9
  ·simp only[aA,decide_true,cond_true];cases hr:(r==[]) with
   |true=>
    simp only[Bool.not_true,cond_false,Option.bind_some];exact fin aA (by rw[Eu,hr];rfl)
   |false=>
    simp only[Bool.not_false,cond_true,Option.bind_some];cases RS:((b.toNat:Int)==48) with
    |true=>
     have:fW (b::r)=false:=by unfold fW;rw[Eu,hr,RS];simp
     rw[this];rfl
    |false=>
     simp only[cond_false];exact fin aA (by rw[Eu,hr,RS];rfl)
  ·have:fW (b::r)=false:=by
    unfold fW;have:decide ((b::r).length<=6)=false:=by simp only[decide_eq_false_iff_not];omega
    rw[this];simp
   simp only[aA,decide_false,cond_false,Option.bind_some,cond_true,this]
abbrev xu:Shape:=⟨[aQ 0,(1,.aq (.d (.int .u8))),ar 2,bU 7 3000448,ar 8,ar 9],[b3 3000448 .str 7 0],43⟩
abbrev tN:List bh:=[(.exit 0,⟨[aQ 0,bU 7 3000448,ar 8],[b3 3000448 .str 7 0],43⟩)]
noncomputable def x7(y:xu.G):cJ xu tN:=
 bif(decide (y.1.2.2.2.2.2.1<(y.1.1.length:Int))) then
 bif(decide ((y.2.1.length:Int)<y.1.2.2.1)) then
(bd y.1.1 y.1.2.2.2.2.2.1).bind fun a=>
 bif((a.toNat:Int)==y.1.2.1) then
(cB y.1.1 y.1.2.2.2.2.1 y.1.2.2.2.2.2.1).bind fun b=>
(cT 16 y.2.1 ([b]:List E)).bind fun c=>
 some (.inl ((y.1.1,y.1.2.1,y.1.2.2.1,(),(IntKind.i64.wrap (y.1.2.2.2.2.2.1+(1:Int))),(IntKind.i64.wrap (y.1.2.2.2.2.2.1+(1:Int))),()),c,()))
else
 some (.inl ((y.1.1,y.1.2.1,y.1.2.2.1,(),y.1.2.2.2.2.1,(IntKind.i64.wrap (y.1.2.2.2.2.2.1+(1:Int))),()),y.2.1,()))
else
 some (.inr ((y.1.1,(),y.1.2.2.2.2.1,()),y.2.1,()))
else
 some (.inr ((y.1.1,(),y.1.2.2.2.2.1,()),y.2.1,()))
noncomputable def C6:xu.G->Option (a_ tN):=b8 x7
theorem Zr:bo ah (aO (codeOf Tryz.f89) 1 122) (bE xu tN C6):=cQ g0 (by kernel_rfl) aE fun y=>by kernel_rfl
abbrev i89:Shape:=⟨[aQ 0,(1,.aq (.d (.int .u8))),ar 2],[],43⟩
abbrev Q0:Shape:=⟨[bU 6 3000384],[b3 3000384 .str 6 0],43⟩
noncomputable def f89(a:i89.G):Option Q0.G:=
(C6 ((a.1.1,a.1.2.1,a.1.2.2.1,(),(0:Int),(0:Int),()),([]:List E),())).bind fun b=>
(cB b.1.1 b.1.2.2.1 (b.1.1.length:Int)).bind fun c=>
(cT 16 b.2.1 ([c]:List E)).bind fun d=>
 some (((),()),d,())
noncomputable def vW:bg:=bq aH Tryz.f89 i89 Q0 [] f89
theorem Ad:bc ah 89 vW:=bB g0 Tryz.func89 (by kernel_rfl) (bJ Zr aE) (fun y=>by kernel_rfl) fun a=>by kernel_rfl
abbrev cM(n:Nat):Prop:=n<=2097152
theorem tB(c:UInt8):∀s,cn c s≠[]:=by
 intro s;induction s with
 |nil=>intro h;cases h
 |cons b r ih=>
  unfold cn;cases b==c with
  |true=>intro h;cases h
  |false=>
   simp only[cond_false];split<;>intro h<;>cases h
def sA(cH:E):List E->List E
 |x::xs=>(cH++x)::xs
 |[]=>[cH]
theorem Kr{L:List E}(h:L≠[]):sA [] L=L:=by
 cases L with
 |nil=>exact absurd rfl h
 |cons x xs=>rfl
theorem pI(c:UInt8):∀s,(cn c s).length<=s.length+1:=by
 intro s;induction s with
 |nil=>exact Nat.le_refl _
 |cons b r ih=>
  unfold cn;cases b==c with
  |true=>simpa using ih
  |false=>
   simp only[cond_false];split
   ·rename_i x xs h;rw[h] at ih;simp at ih ⊢;omega
   ·simp
theorem pH(c:UInt8):∀s x,x∈cn c s->x.length<=s.length:=by
 intro s;induction s with
 |nil=>intro x h;simp[cn] at h;simp[h]
 |cons b r ih=>
  intro x h;unfold cn at h;cases hb:b==c with
  |true=>
   rw[hb,cond_true] at h;rcases List.mem_cons.1 h with rfl|h
   ·simp
   ·have:=ih x h;simp;omega
  |false=>
   rw[hb,cond_false] at h;split at h
   ·rename_i y ys an;rcases List.mem_cons.1 h with rfl|h
    ·have:=ih y (by rw[an];exact List.mem_cons_self);simp;omega
    ·have:=ih x (by rw[an];exact List.mem_cons_of_mem _ h);simp;omega
   ·simp at h;simp[h]
theorem YZ{cz:Type}(c:UInt8)(s:E)(fin:Nat×List E->cz):∀(r:E) (k:Nat) (q:Nat×List E),r=s.drop k->k<=s.length->q.1<=k->
  ∃iC,gA (fun i x (q:Nat×List E)=>some (.inl (bif(x.toNat:Int)==(c.toNat:Int) then(i+1,q.2++[(s.take i).drop q.1]) else q):Sum (Nat×List E) cz)) fin k r q=some (fin iC)/\iC.1<=s.length/\
   iC.2++[s.drop iC.1]=q.2++sA ((s.take k).drop q.1) (cn c r):=by
 intro r;induction r with
 |nil=>
  intro k q hr ak aA;have gI:k=s.length:=by
   have:=congrArg List.length hr;simp at this;omega
  refine⟨q,rfl,by omega,?_⟩
  rw[gI,List.take_length];simp[cn,sA]
 |cons x r ih=>
  intro k q hr ak aA;have bb:k<s.length:=by
   have:=congrArg List.length hr;simp at this;omega
  have cx:r=s.drop (k+1):=by
   have:=congrArg List.tail hr;simpa using this
  have hx:s[k]? =some x:=by
   have:=congrArg (fun l=>l[0]?) hr
   simpa using this.symm
  simp only[gA];cases hc:((x.toNat:Int)==(c.toNat:Int)) with
  |true=>
   have F0:x=c:=by
    simp only[beq_iff_eq] at hc;exact UInt8.toNat_inj.1 (by omega)
   simp only[cond_true];obtain⟨iC,h1,h2,aa⟩:=ih (k+1) (k+1,q.2++[(s.take k).drop q.1]) cx bb (Nat.le_refl _);refine⟨iC,h1,h2,aa.trans ?_⟩;have e1:(s.take (k+1)).drop (k+1)=[]:=List.drop_eq_nil_of_le (by rw[List.length_take];omega)
   simp only[e1];rw[Kr (tB c r)];subst F0;have:cn x (x::r)=[]::cn x r:=by simp[cn]
   rw[this];simp[sA]
  |false=>
   have F0:(x==c)=false:=by
    cases h:x==c with
    |false=>rfl
    |true=>rw[eq_of_beq h] at hc;simp at hc
   simp only[cond_false];obtain⟨iC,h1,h2,aa⟩:=ih (k+1) q cx bb (by omega)
   refine⟨iC,h1,h2,aa.trans ?_⟩;have e1:(s.take (k+1)).drop q.1=(s.take k).drop q.1++[x]:=by
    rw[List.take_add_one,hx];rw[List.drop_append_of_le_length (by rw[List.length_take];omega)]
    rfl
   rw[e1];have:cn c (x::r)=sA [x] (cn c r):=by
    rw[cn,F0,cond_false];cases h:cn c r with
    |nil=>rfl
    |cons y ys=>rfl
   rw[this];cases h:cn c r with
   |nil=>exact absurd h (tB c r)
   |cons y ys=>simp[sA]
theorem tL(c:UInt8)(a)(H:cM a.1.1.length)(hb:a.1.2.1=(c.toNat:Int))(hm:a.1.2.2.1=((a.1.1.length+1:Nat):Int)):f89 a=some (((),()),(cn c a.1.1,())):=by
 obtain⟨⟨s,b,m,u⟩,bS⟩:=a;obtain rfl:b=(c.toNat:Int):=hb;obtain rfl:m=((s.length+1:Nat):Int):=hm;have H:s.length<=2097152:=H;have key:=rm x7 s (fun i (q:Nat×List E)=>((s,((c.toNat:Int),(((s.length+1:Nat):Int),((),((q.1:Int),((i:Int),())))))),(q.2,())))
  (fun i x (q:Nat×List E)=>some (.inl (bif(x.toNat:Int)==(c.toNat:Int) then(i+1,q.2++[(s.take i).drop q.1]) else q))) (fun q=>(((s,((),((q.1:Int),()))),(q.2,())):a_ tN))
  (fun i q=>q.1<=i/\q.2.length<=i) (0,[]) ⟨Nat.le_refl _,Nat.le_refl _⟩ (fun i x q hx e3=>?_) (fun q e3=>?_)
 ·obtain⟨iC,h1,h2,aa⟩:=YZ c s (fun q=>(((s,((),((q.1:Int),()))),(q.2,())):a_ tN)) s 0 (0,[]) rfl (Nat.zero_le _) (Nat.le_refl _)
  have key:C6 ((s,((c.toNat:Int),(((s.length+1:Nat):Int),((),((0:Int),((0:Int),())))))),(([]:List E),()))=some ((s,((),((iC.1:Int),()))),(iC.2,())):=key.trans h1;simp only[f89,key,Option.bind_some];rw[rf h2];have aa:iC.2++[s.drop iC.1]=cn c s:=by
   rw[aa];simp only[List.take_zero,List.drop_nil,List.nil_append];exact Kr (tB c s)
  have hl:iC.2.length<=s.length+1:=by
   have:=congrArg List.length aa;have aN:=pI c s;simp only[List.length_append,List.length_cons,List.length_nil] at this;omega
  simp only[Option.bind_some];rw[fT (by decide) (by unfold aW;simp only[List.length_cons,List.length_nil];omega)]
  simp only[Option.bind_some,aa]
 ·have am:=dh hx;have hw:aW i:=by unfold aW;omega
  obtain⟨a8,h1⟩:=e3;have bb:decide ((q.2.length:Int)<((s.length+1:Nat):Int))=true:=c_ (by omega)
  refine⟨?_,fun iC oe=>?_⟩
  ·simp only[x7,c_ am,cond_true,bb,cF,hx,Option.bind_some];cases hc:((x.toNat:Int)==(c.toNat:Int)) with
   |true=>
    simp only[cond_true];rw[B1 a8 (by omega)]
    simp only[Option.bind_some];rw[fT (by decide) (by unfold aW;simp only[List.length_cons,List.length_nil];omega)]
    simp only[Option.bind_some,Option.map_some,c2 hw]
   |false=>simp only[cond_false,Option.map_some,c2 hw]
  ·simp only[Option.some.injEq,Sum.inl.injEq] at oe;subst oe;cases (x.toNat:Int)==(c.toNat:Int) with
   |true=>simp only[cond_true,List.length_append,List.length_cons,List.length_nil];omega
   |false=>simp only[cond_false];omega
 ·simp only[x7,eT,cond_false]
noncomputable def NU:bg:=BJ
theorem abq:bc ah 297 NU:=T1 (fn:=Tryz.f297) (by kernel_rfl) (by kernel_rfl) (by kernel_rfl) (by kernel_rfl) (by kernel_rfl)
noncomputable abbrev aeh:bZ:=[(297,NU)]
theorem aeY:bz ah (bX aH aeh):=bV ⟨abq,⟨⟩⟩
abbrev i271:Shape:=⟨[aQ 0,(1,.aq (.d (.int .u8)))],[],8⟩
abbrev Oj:Shape:=⟨[ar 4],[],8⟩
noncomputable def f271(a:i271.G):Option Oj.G:=
(some ()).bind fun eZ=>
 some (((Lib.indexByte a.1.1 (a.1.2.1).toNat.toUInt8),()),())
noncomputable def PT:bg:=bq aH Tryz.f271 i271 Oj [] f271
theorem acv:bc ah 271 PT:=bB aeY Tryz.func271 (by kernel_rfl) aE (fun y=>by kernel_rfl) fun a=>by kernel_rfl
noncomputable abbrev aep:bZ:=[(271,PT)]
theorem QA:bz ah (bX aH aep):=bV ⟨acv,⟨⟩⟩
abbrev KY:Shape:=⟨[aQ 0,aQ 1,ar 5],[],143⟩
abbrev KN:List bh:=[(.norm,⟨[aQ 0,aQ 1,ar 5,aV 16],[],143⟩)]
noncomputable def Dq(y:KY.G):Option (a_ KN):=
 bif(!(y.1.2.2.1==(0:Int))) then
 some ((y.1.1,y.1.2.1,y.1.2.2.1,(y.1.2.1==y.1.1),()),())
else
 some ((y.1.1,y.1.2.1,y.1.2.2.1,true,()),())
theorem ZI:bo ah (aO (codeOf Tryz.f238) 1 56) (bE KY KN Dq):=dD QA (by kernel_rfl) aE fun y=>by kernel_rfl
abbrev i238:Shape:=⟨[aQ 0,aQ 1],[],143⟩
abbrev Oy:Shape:=⟨[ar 4],[],143⟩
noncomputable def f238(a:i238.G):Option Oy.G:=
(Dq ((a.1.1,a.1.2.1,(a.1.2.1.length:Int),()),())).bind fun ns=>
 bif ns.1.2.2.2.1 then
 some (((0:Int),()),())
else
 bif(ns.1.2.2.1==(1:Int)) then
(bd ns.1.2.1 (0:Int)).bind fun aij=>
(f271 ((ns.1.1,(aij.toNat:Int),()),())).bind fun GQ=>
 some ((GQ.1.1,()),())
else
 bif(decide (ns.1.2.2.1>=(ns.1.1.length:Int))) then
 some ((((-1):Int),()),())
else
 none
noncomputable def P1:bg:=bq aH Tryz.f238 i238 Oy [] f238
theorem acD:bc ah 238 P1:=bB QA Tryz.func238 (by kernel_rfl) (bJ ZI aE) (fun y=>by kernel_rfl) fun a=>by kernel_rfl
noncomputable abbrev aeo:bZ:=[(238,P1)]
theorem ae0:bz ah (bX aH aeo):=bV ⟨acD,⟨⟩⟩
abbrev i241:Shape:=⟨[aQ 0,aQ 1],[],8⟩
abbrev Ox:Shape:=⟨[ar 4],[],8⟩
noncomputable def f241(a:i241.G):Option Ox.G:=
(f238 ((a.1.1,a.1.2.1,()),())).bind fun b=>
 some ((b.1.1,()),())
noncomputable def P0:bg:=bq aH Tryz.f241 i241 Ox [] f241
theorem acC:bc ah 241 P0:=bB ae0 Tryz.func241 (by kernel_rfl) aE (fun y=>by kernel_rfl) fun a=>by kernel_rfl
noncomputable abbrev Fl:Ctx:=bX aH [(241,P0)]
noncomputable def zW:Code:=codeOf Tryz.f257
noncomputable def n2:Code:=dT (aO zW 1 12)
noncomputable def zl(p j:Nat):Oper:=(opsOf (aO n2 24 p)).getD j default
noncomputable def Eo(j:Nat):Oper:=(opsOf (aO zW 1 7)).getD j default
theorem aat(c:UInt8)(r:E):f241 ((r,([c],())),())=some ((Lib.indexByte r c,()),()):=by
 have a8:bd ([c]:E) (0:Int)=some c:=rfl;have h1:((([c]:E).length:Int)==0)=false:=rfl;have h2:((([c]:E).length:Int)==1)=true:=rfl;have aa:((c.toNat:Int)).toNat.toUInt8=c:=by simp
 simp only[f241,f238,Dq,f271,a8,h1,h2,aa,Bool.not_false,cond_true,cond_false,Option.bind_some,Option.bind];by_cases h:(([c]:E)==r)=true
 ·have:r=[c]:=(by simpa using h:[c]=r).symm
  subst this;simp[Lib.indexByte]<;>rfl
 ·simp[h]<;>rfl
theorem acc(c:UInt8)(r:E):exec (iK Fl []) (aO n2 24 96) 96 (m' 52 c r) (zN (iK Fl []) 52 7 8 (aO n2 24 194) (aO n2 24 390) 194 390)=
 (f241 ((r,([c],())),())).bind fun q=>bif decide (q.1.1<0) then some (.inl (k0 52 c r)) else(cB r 0 (IntKind.i64.wrap (q.1.1+0))).bind fun x=>some (.inr ((q.1.1,x),k0 52 c r)):=by kernel_rfl
theorem ND:uu ah 257:=
 _j (C:=iK Fl []) (bV ⟨acC,⟨⟩⟩) (fn:=Tryz.f257) (k:=52) (A:=aO zW 1 2) (r5:=aO n2 24 96) (c6:=aO n2 24 194) (r7:=aO n2 24 390) (r9:=aO n2 24 783)
  (o0:=zl 1564 0) (o1:=zl 1564 1) (o2:=zl 1564 2) (o3:=zl 1564 3) (q0:=Eo 0) (q1:=Eo 1) (q2:=Eo 2) (pA:=2) (p5:=96) (p6:=194) (p7:=390) (p9:=783) (t7:=7) (t8:=8) (a1:=39) (a2:=40)
  (t41:=41) (t42:=42) (u1:=49) (u2:=50) (ty:=#[9]) (Ai:=#[9])
  {Pj:=(by kernel_rfl),bl:=(by kernel_rfl),cD:=(by decide),e_:=(by kernel_rfl),RX:=enters_of Tryz.func257 (by kernel_rfl) rfl,body:=⟨Nq (aO n2 24 1564),Nq (aO zW 1 7),(by kernel_rfl)⟩,wa:=(by kernel_rfl),wr:=(by kernel_rfl),
   bV:=⟨(by kernel_rfl),(by kernel_rfl),(by kernel_rfl),(by kernel_rfl),(by kernel_rfl),(by kernel_rfl),(by kernel_rfl)⟩,Sx:=(by kernel_rfl),Sw:=(by kernel_rfl),d2:=(by kernel_rfl),EW:=(by decide),bM:=(by kernel_rfl),d5:=(by kernel_rfl),
   sq:=⟨nE (by kernel_rfl) aE,nE (by kernel_rfl) aE,nE (by kernel_rfl) aE,nE (by kernel_rfl) aE,nE (by kernel_rfl) aE⟩,
   iD:=fun c r=>(by kernel_rfl),fk:=fun c r=>(acc c r).trans (by rw[aat];rfl),aY:=fun c r i x v=>(by kernel_rfl),aa:=fun c r b=>(by kernel_rfl),RT:=(by kernel_rfl),wg:=fun c r i=>(by kernel_rfl),AS:=fun c r v=>(by kernel_rfl)}
  (by kernel_rfl) (by decide)
noncomputable abbrev aeQ:bZ:=[(151,Qh)]
theorem FL:bz ah (bX aH aeQ):=bV ⟨acP,⟨⟩⟩
abbrev I6:Shape:=⟨[bx 2 2 0,bx 3 3 0,bx 4 4 0,ar 6,aV 7],[ep 5000128 .i64 2 0,bI 2 [.own 5000128],bI 3 [iE],ep 5000256 .i64 4 0,bI 4 [.own 5000256]],28⟩
abbrev IT:List bh:=[(.norm,⟨[bx 2 2 0,bx 3 3 0,bx 4 4 0,ar 6,aV 22],[ep 5000128 .i64 2 0,bI 2 [.own 5000128],bI 3 [iE],ep 5000256 .i64 4 0,bI 4 [.own 5000256]],28⟩)]
noncomputable def BN(y:I6.G):Option (a_ IT):=
 bif(!(!y.1.2.2.2.2.1)) then
 some (((),(),(),y.1.2.2.2.1,((y.2.2.2.2.1.length:Int)==(4:Int)),()),y.2.1,((),()),(y.2.2.2.1.1,()),y.2.2.2.2.1,((),()),())
else
 some (((),(),(),y.1.2.2.2.1,true,()),y.2.1,((),()),(y.2.2.2.1.1,()),y.2.2.2.2.1,((),()),())
theorem WY:bo ah (aO (j1 (aO (codeOf Tryz.f127) 1 58)) 117 1876) (bE I6 IT BN):=dD FL (by kernel_rfl) aE fun y=>by kernel_rfl
abbrev xX:Shape:=⟨[bx 2 2 0,bx 3 3 0,bx 4 4 0],[ep 5000128 .i64 2 0,bI 2 [.own 5000128],bI 3 [iE],ep 5000256 .i64 4 0,bI 4 [.own 5000256]],28⟩
abbrev CU:List bh:=[(.norm,⟨[bx 2 2 0,bx 3 3 0,bx 4 4 0],[ep 5000128 .i64 2 0,bI 2 [.own 5000128],bI 3 [iE],ep 5000256 .i64 4 0,bI 4 [.own 5000256]],28⟩),(.ret,⟨[bx 2 2 0,bx 3 3 0],[ep 5000128 .i64 2 0,bI 2 [.own 5000128],bI 3 [iE]],28⟩)]
noncomputable def rA(x:E)(y:xX.G):cJ xX CU:=
(f151 ((x,(999:Int),()),())).bind fun a=>
(BN (((),(),(),a.1.1,a.1.2.1,()),y.2.1,((),()),(y.2.2.2.1.1,()),y.2.2.2.2.1,((),()),())).bind fun b=>
 bif b.1.2.2.2.2.1 then
 some (.inr (.inr (((),(),()),([]:List Int),((),()),(false,()),())))
else
(cT 8 b.2.2.2.2.1 ([b.1.2.2.2.1]:List Int)).bind fun c=>
 some (.inl (((),(),(),()),b.2.1,((),()),(b.2.2.2.1.1,()),c,((),()),()))
noncomputable def tV(y:xX.G):Option (a_ CU):=
 some (.inl (((),(),(),()),y.2.1,((),()),(y.2.2.2.1.1,()),y.2.2.2.2.1,((),()),()))
theorem Z1:bo ah (aO (codeOf Tryz.f127) 1 58) (rl 257 9 xX CU rA tV):=HP (eW:=10) FL ND (by kernel_rfl) (bJ WY aE) (by kernel_rfl) (fun x y=>by kernel_rfl) fun y=>by kernel_rfl
abbrev i127:Shape:=⟨[aQ 0],[],28⟩
abbrev O4:Shape:=⟨[bx 2 2 0,bx 3 3 0],[ep 5000128 .i64 2 0,bI 2 [.own 5000128],bI 3 [iE]],28⟩
noncomputable def f127(a:i127.G):Option O4.G:=
(bif Nat.ble a.1.1.length kC then is rA tV (cn (46:UInt8) a.1.1) (((),(),(),()),([]:List Int),((),()),(false,()),([]:List Int),((),()),()) else none).bind fun b=>
(match b with
|.inl c=>
 some (((),(),()),c.2.2.2.2.1,((),()),(true,()),())
|.inr d=>
 some (((),(),()),d.2.1,((),()),(d.2.2.2.1.1,()),()))
noncomputable def FB:bg:=bq aH Tryz.f127 i127 O4 [] f127
theorem z127:bc ah 127 FB:=bB FL Tryz.func127 (by kernel_rfl) (bJ Z1 aE) (fun y=>by kernel_rfl) fun a=>by kernel_rfl
noncomputable abbrev aeT:bZ:=[(127,FB)]
theorem aff:bz ah (bX aH aeT):=bV ⟨z127,⟨⟩⟩
abbrev i119:Shape:=⟨[aQ 0],[],11⟩
abbrev O8:Shape:=⟨[aV 2],[],11⟩
noncomputable def f119(a:i119.G):Option O8.G:=
(f127 ((a.1.1,()),())).bind fun b=>
 some ((b.2.2.2.1.1,()),())
noncomputable def z7:bg:=bq aH Tryz.f119 i119 O8 [] f119
theorem z119:bc ah 119 z7:=bB aff Tryz.func119 (by kernel_rfl) aE (fun y=>by kernel_rfl) fun a=>by kernel_rfl
noncomputable abbrev aeS:bZ:=[(118,FD),(119,z7)]
theorem QI:bz ah (bX aH aeS):=bV ⟨N6,z119,⟨⟩⟩
abbrev Kg:Shape:=⟨[bx 1 1 0,ar 8],[bI 1 [bW,bQ,bW]],21⟩
abbrev J1:List bh:=[(.norm,⟨[bx 1 1 0,aV 14],[bI 1 [bW,bQ,bW]],21⟩)]
noncomputable def Cm(y:Kg.G):Option (a_ J1):=
 bif(y.1.2.1==(1:Int)) then
 some (((),(y.1.2.1==(1:Int)),()),(y.2.1.1,y.2.1.2.1,y.2.1.2.2.1,()),())
else
 bif(y.1.2.1==(2:Int)) then
 some (((),(y.1.2.1==(2:Int)),()),(y.2.1.1,y.2.1.2.1,y.2.1.2.2.1,()),())
else
 some (((),(y.1.2.1==(3:Int)),()),(y.2.1.1,y.2.1.2.1,y.2.1.2.2.1,()),())
theorem Yq:bo ah (aO (codeOf Tryz.f121) 1 470) (bE Kg J1 Cm):=dD QI (by kernel_rfl) aE fun y=>by kernel_rfl
abbrev i121:Shape:=⟨[hE 0 [bW,bQ,bW]],[],21⟩
abbrev O7:Shape:=⟨[aV 2],[],21⟩
noncomputable def f121(a:i121.G):Option O7.G:=
(f118 ((a.1.1.1,()),())).bind fun b=>
 bif(!b.1.1) then
 some ((false,()),())
else
 bif(a.1.1.2.1==(0:Int)) then
 some (((a.1.1.2.2.1==([]:E)),()),())
else
(Cm (((),a.1.1.2.1,()),(a.1.1.1,a.1.1.2.1,a.1.1.2.2.1,()),())).bind fun c=>
 bif c.1.2.1 then
(f119 ((c.2.1.2.2.1,()),())).bind fun d=>
 some ((d.1.1,()),())
else
 some ((false,()),())
noncomputable def FC:bg:=bq aH Tryz.f121 i121 O7 [] f121
theorem N5:bc ah 121 FC:=bB QI Tryz.func121 (by kernel_rfl) (bJ Yq aE) (fun y=>by kernel_rfl) fun a=>by kernel_rfl
noncomputable abbrev aeD:bZ:=[(89,vW),(90,R7),(91,qO)]
theorem QD:bz ah (bX aH aeD):=bV ⟨Ad,afl,z91,⟨⟩⟩
abbrev xb:Shape:=⟨[bU 4 3000256,bU 5 3000320,ar 6],[b3 3000256 .str 4 0,b3 3000320 .i64 5 0],37⟩
abbrev pO:List bh:=[(.ret,⟨[bU 2 3000128,aV 3],[b3 3000128 .i64 2 0],37⟩),(.exit 0,⟨[bU 4 3000256,bU 5 3000320],[b3 3000256 .str 4 0,b3 3000320 .i64 5 0],37⟩)]
noncomputable def xp(y:xb.G):cJ xb pO:=
 bif(decide (y.1.2.2.1<(y.2.1.length:Int))) then
(hy y.2.1.length y.1.2.2.1).bind fun a=>
(y.2.1[a]?).bind fun b=>
(f90 ((b,()),())).bind fun c=>
(f91 ((c.1.1,(0:Int),(999:Int),()),())).bind fun d=>
 bif(!d.1.1) then
 some (.inr (.inl (((),false,()),y.2.2.1,())))
else
(cT 8 y.2.2.1 ([c.1.1]:List Int)).bind fun e=>
 some (.inl (((),(),(IntKind.i64.wrap (y.1.2.2.1+(1:Int))),()),y.2.1,e,()))
else
 some (.inr (.inr (((),(),()),y.2.1,y.2.2.1,())))
noncomputable def B':xb.G->Option (a_ pO):=b8 xp
theorem Ym:bo ah (aO (codeOf Tryz.f181) 1 122) (bE xb pO B'):=cQ QD (by kernel_rfl) aE fun y=>by kernel_rfl
abbrev i181:Shape:=⟨[aQ 0],[],37⟩
abbrev OO:Shape:=⟨[bU 2 3000128,aV 3],[b3 3000128 .i64 2 0],37⟩
noncomputable def f181(a:i181.G):Option OO.G:=
(f89 ((a.1.1,(46:Int),(IntKind.i64.wrap ((a.1.1.length:Int)+(1:Int))),()),())).bind fun b=>
(B' (((),(),(0:Int),()),b.2.1,([]:List Int),())).bind fun c=>
(match c with
|.inl d=>
 some (((),d.1.2.1,()),d.2.1,())
|.inr e=>
 some (((),(decide ((e.2.1.length:Int)<=(4:Int))),()),e.2.2.1,()))
noncomputable def Fy:bg:=bq aH Tryz.f181 i181 OO [] f181
theorem N3:bc ah 181 Fy:=bB QD Tryz.func181 (by kernel_rfl) (bJ Ym aE) (fun y=>by kernel_rfl) fun a=>by kernel_rfl
noncomputable abbrev aeG:bZ:=[(181,Fy)]
theorem afa:bz ah (bX aH aeG):=bV ⟨N3,⟨⟩⟩
abbrev i162:Shape:=⟨[aQ 0],[],11⟩
abbrev OS:Shape:=⟨[aV 2],[],11⟩
noncomputable def f162(a:i162.G):Option OS.G:=
(f181 ((a.1.1,()),())).bind fun b=>
 some ((b.1.2.1,()),())
noncomputable def Fz:bg:=bq aH Tryz.f162 i162 OS [] f162
theorem z162:bc ah 162 Fz:=bB afa Tryz.func162 (by kernel_rfl) aE (fun y=>by kernel_rfl) fun a=>by kernel_rfl
noncomputable abbrev aeq:bZ:=[(91,qO),(161,FA),(162,Fz)]
theorem ae1:bz ah (bX aH aeq):=bV ⟨z91,N4,z162,⟨⟩⟩
abbrev i233:Shape:=⟨[hE 0 [bW,bQ,bW]],[],26⟩
abbrev Oz:Shape:=⟨[aV 2],[],26⟩
noncomputable def f233(a:i233.G):Option Oz.G:=
(f161 ((a.1.1.1,()),())).bind fun b=>
 bif b.1.1 then
 bif(a.1.1.2.1==(0:Int)) then
 bif(!(a.1.1.2.2.1==([]:E))) then
(f91 ((a.1.1.2.1,(1:Int),(3:Int),()),())).bind fun c=>
 bif c.1.1 then
(f162 ((a.1.1.2.2.1,()),())).bind fun d=>
 some ((d.1.1,()),())
else
 some ((false,()),())
else
 some ((true,()),())
else
(f91 ((a.1.1.2.1,(1:Int),(3:Int),()),())).bind fun e=>
 bif e.1.1 then
(f162 ((a.1.1.2.2.1,()),())).bind fun f=>
 some ((f.1.1,()),())
else
 some ((false,()),())
else
 some ((false,()),())
noncomputable def P2:bg:=bq aH Tryz.f233 i233 Oz [] f233
theorem z233:bc ah 233 P2:=bB ae1 Tryz.func233 (by kernel_rfl) aE (fun y=>by kernel_rfl) fun a=>by kernel_rfl
theorem UQ:∀(r:E) (n:Int),r.all eb=true->0<=n->0<=r.foldl hL n:=by
 intro r;induction r with
 |nil=>intro n _ h;exact h
 |cons b r ih=>
  intro n Y h;simp only[List.all_cons,Bool.and_eq_true] at Y;have hb:=nB Y.1;exact ih _ Y.2 (by unfold hL;omega)
def im(s:E):List E:=cn 46 s
def gf(s:E):Bool:=(im s).all fW&&decide ((im s).length<=4)
def lk(s:E):List Int:=(im s).map gU
theorem Uv(x:E):within (bif x.all eb&&decide (x.length<=6)&&!(x==[])&&!mU x then gU x else-1) 0 999=fW x:=by
 unfold fW within;cases h1:x.all eb with
 |false=>simp
 |true=>
  have:=UQ x 0 h1 (Int.le_refl _);have ab:decide ((0:Int)<=gU x)=true:=by simp only[decide_eq_true_eq];exact this
  cases h2:decide (x.length<=6)<;>cases aa:(x==[])<;>cases aN:mU x<;>simp[ab]
theorem Wb(a)(H:cM a.1.1.length):∃out,f181 a=some (((),(gf a.1.1,())),(out,()))/\(gf a.1.1=true->out=lk a.1.1):=by
 obtain⟨⟨s,u⟩,bS⟩:=a;have H:s.length<=2097152:=H;have hlen:=pI 46 s;have jL:f89 ((s,((46:Int),((IntKind.i64.wrap ((s.length:Int)+(1:Int))),()))),())=some (((),()),(im s,())):=
  tL 46 _ H rfl (c2 (by unfold aW;omega))
 have key:=rm xp (im s) (fun i (out:List Int)=>(((),((),((i:Int),()))),(im s,(out,()))))
  (fun i x out=>some (bif fW x then .inl (out++[gU x]) else .inr ((.inl (((),(false,())),(out,()))):a_ pO))) (fun out=>((.inr (((),((),())),(im s,(out,())))):a_ pO))
  (fun i out=>out.length<=i) [] (Nat.le_refl _) (fun i x out hx e3=>?_) (fun out _=>?_)
 ·have fold:∀(r:List E) (k:Nat) (out:List Int),gA (fun i x out=>some (bif fW x then .inl (out++[gU x]) else .inr ((.inl (((),(false,())),(out,()))):a_ pO))) (fun out=>((.inr (((),((),())),(im s,(out,())))):a_ pO)) k r out=
    some (bif r.all fW then(.inr (((),((),())),(im s,(out++r.map gU,())))) else(.inl (((),(false,())),(out++(r.takeWhile fW).map gU,())))):=by
   intro r;induction r with
   |nil=>intro k out;simp[gA]
   |cons x r ih=>
    intro k out;simp only[gA,List.all_cons];cases hn:fW x with
    |false=>simp[hn]
    |true=>simp only[cond_true,Bool.true_and];rw[ih];simp[hn,List.append_assoc]
  have key:B' (((),((),((0:Int),()))),(im s,(([]:List Int),())))=_:=key.trans (fold (im s) 0 []);simp only[f181,jL,Option.bind_some,key,List.nil_append];unfold gf;cases it:(im s).all fW with
  |false=>exact⟨_,rfl,fun h=>by cases h⟩
  |true=>
   simp only[cond_true,Bool.true_and];have:decide (((im s).length:Int)<=4)=decide ((im s).length<=4):=by by_cases h:(im s).length<=4<;>simp[h]<;>omega
   rw[this];exact⟨_,rfl,fun _=>rfl⟩
 ·have am:=dh hx;have p3:(im s).length<=s.length+1:=hlen;have hw:aW i:=by unfold aW;omega
  have pf:x.length<=s.length:=pH 46 s x (List.mem_of_getElem? hx);refine⟨?_,fun ap af=>?_⟩
  ·simp only[xp,c_ am,cond_true,lc am,hx,Option.bind_some];rw[Ze _ (show aW x.length by unfold aW;omega)]
   simp only[Option.bind_some,rG,Uv];cases hn:fW x with
   |false=>rfl
   |true=>
    have ab:(bif x.all eb&&decide (x.length<=6)&&!(x==[])&&!mU x then gU x else-1)=gU x:=by
     unfold fW at hn;simp only[Bool.and_eq_true] at hn;obtain⟨⟨⟨⟨h1,h2⟩,aa⟩,aN⟩,bn⟩:=hn;rw[h1,aN,h2,aa];rfl
    simp only[Bool.not_true,cond_false,ab,cond_true];rw[fT (by decide) (by unfold aW;simp only[List.length_cons,List.length_nil];omega)]
    simp only[Option.bind_some,c2 hw,Option.map_some]
  ·simp only[Option.some.injEq] at af;cases hn:fW x with
   |false=>rw[hn] at af;cases af
   |true=>
    rw[hn] at af;simp only[cond_true,Sum.inl.injEq] at af;subst af;simp only[List.length_append,List.length_cons,List.length_nil];omega
 ·simp only[xp,eT,cond_false]
theorem HE(a)(H:cM a.1.1.length):f162 a=some ((gf a.1.1,()),()):=by
 obtain⟨out,h,_⟩:=Wb ((a.1.1,()),()) H;simp only[f162,h,Option.bind_some]
theorem A1(a)(H:cM a.1.1.length):f127 a=some (((),((),())),((bif gf a.1.1 then lk a.1.1 else []),(((),()),((gf a.1.1,()),())))):=by
 obtain⟨⟨s,u⟩,bS⟩:=a;have H:s.length<=2097152:=H;have Fc:Nat.ble s.length kC=true:=Nat.ble_eq_true_of_le (by unfold kC;omega)
 have fold:∀(r:List E) (out:List Int),(∀x,x∈r->x.length<=s.length)->out.length<=4->
   is rA tV r (((),((),((),()))),(([]:List Int),(((),()),((false,()),(out,(((),()),()))))))=
    some (bif r.all fW&&decide (out.length+r.length<=4) then(.inl (((),((),((),()))),(([]:List Int),(((),()),((false,()),(out++r.map gU,(((),()),()))))))) else(.inr (((),((),())),(([]:List Int),(((),()),((false,()),())))))):=by
  intro r;induction r with
  |nil=>
   intro out _ al;have:decide (out.length+0<=4)=true:=by simpa using al
   simp only[is,tV,List.all_nil,List.length_nil,this,Bool.and_self,cond_true,List.map_nil,List.append_nil]
  |cons x r ih=>
   intro out hr al;have hx:=hr x List.mem_cons_self;have adw:=XB ((x,((999:Int),())),()) (show aW x.length by unfold aW;omega) rfl
   have step:rA x (((),((),((),()))),(([]:List Int),(((),()),((false,()),(out,(((),()),()))))))=
     some (bif fW x&&decide (out.length+1<=4) then .inl (((),((),((),()))),(([]:List Int),(((),()),((false,()),(out++[gU x],(((),()),())))))) else .inr (.inr (((),((),())),(([]:List Int),(((),()),((false,()),())))))):=by
    simp only[rA,adw,Option.bind_some,BN,Bool.not_not];have aN:((out.length:Int)==4)=!decide (out.length+1<=4):=by
     by_cases h:out.length=4
     ·rw[h];rfl
     ·have bn:decide (out.length+1<=4)=true:=by simp only[decide_eq_true_eq];omega
      rw[bn];simp only[beq_eq_false_iff_ne,ne_eq,Bool.not_true];omega
    rw[aN];cases hn:fW x with
    |false=>rfl
    |true=>
     simp only[cond_true,Option.bind_some,Bool.true_and];cases aA:decide (out.length+1<=4) with
     |false=>rfl
     |true=>
      simp only[Bool.not_true,cond_false,cond_true];rw[fT (by decide) (by unfold aW;simp only[List.length_cons,List.length_nil];omega)]
      rfl
   rw[is,step,List.all_cons];cases hn:fW x with
   |false=>rfl
   |true=>
    simp only[Bool.true_and];cases aA:decide (out.length+1<=4) with
    |false=>
     have:decide (out.length+(x::r).length<=4)=false:=by simp only[decide_eq_false_iff_not,List.length_cons] at aA ⊢;omega
     rw[this];simp
    |true=>
     simp only[cond_true];rw[ih (out++[gU x]) (fun y an=>hr y (List.mem_cons_of_mem _ an)) (by simp only[List.length_append,List.length_cons,List.length_nil];simpa using aA)]
     have e1:(out++[gU x]).length+r.length=out.length+(x::r).length:=by simp only[List.length_append,List.length_cons,List.length_nil];omega
     rw[e1,List.map_cons,List.append_assoc];rfl
 have key:=fold (cn (46:UInt8) s) [] (fun x hx=>pH 46 s x hx) (Nat.zero_le _)
 have EY:is rA tV (cn (46:UInt8) s) (((),((),((),()))),(([]:List Int),(((),()),((false,()),(([]:List Int),(((),()),()))))))=
    some (bif gf s then(.inl (((),((),((),()))),(([]:List Int),(((),()),((false,()),(lk s,(((),()),()))))))) else(.inr (((),((),())),(([]:List Int),(((),()),((false,()),())))))):=by
  rw[key];unfold gf lk im;simp only[List.length_nil,Nat.zero_add,List.nil_append]
 simp only[f127,Fc,cond_true,EY,Option.bind_some];cases gf s<;>rfl
theorem A2(a)(H:cM a.1.1.length):f119 a=some ((gf a.1.1,()),()):=by
 simp only[f119,A1 ((a.1.1,()),()) H,Option.bind_some]
def hV(n:dq):Bool:=lg n.name&&(n.kind==0&&(n.cK==[])||within n.kind 1 3&&gf n.cK)
abbrev aid(n:dq):Prop:=cM n.name.length/\cM n.cK.length
theorem XK(a)(h1:cM a.1.1.1.length)(h2:cM a.1.1.2.2.1.length):f233 a=some ((hV ⟨a.1.1.1,a.1.1.2.1,a.1.1.2.2.1⟩,()),()):=by
 obtain⟨⟨⟨n,k,v,u⟩,bS⟩,sI⟩:=a;have h1:n.length<=2097152:=h1;have h2:v.length<=2097152:=h2;have e1:=JF ((n,()),()) (show aW n.length by unfold aW;omega)
 have e2:=HE ((v,()),()) h2;simp only[f233,e1,e2,rG,Option.bind_some,hV];cases lg n with
 |false=>rfl
 |true=>
  cases ak:(k==0) with
  |false=>
   simp only[cond_true,cond_false];cases within k 1 3<;>cases gf v<;>rfl
  |true=>
   have:within k 1 3=false:=by
    have:k=0:=by simpa using ak
    subst this;decide
   rw[this];cases (v==[])<;>rfl
theorem V6{k:Int}(nu:¬k=0)(aw:¬k=1)(aj:¬k=2)(bA:¬k=3):within k 1 3=false:=by
 unfold within;cases h:(decide (1<=k)&&decide (k<=3)) with
 |false=>rfl
 |true=>simp only[Bool.and_eq_true,decide_eq_true_eq] at h;omega
theorem II(a)(h1:cM a.1.1.1.length)(h2:cM a.1.1.2.2.1.length):f121 a=some ((hV ⟨a.1.1.1,a.1.1.2.1,a.1.1.2.2.1⟩,()),()):=by
 obtain⟨⟨⟨n,k,v,u⟩,bS⟩,sI⟩:=a;have h1:n.length<=2097152:=h1;have h2:v.length<=2097152:=h2;have e1:=Hr ((n,()),()) (show aW n.length by unfold aW;omega)
 have e2:=A2 ((v,()),()) h2;simp only[f121,e1,e2,Option.bind_some,hV,Cm];cases lg n with
 |false=>rfl
 |true=>
  simp only[Bool.not_true,cond_false,Bool.true_and];by_cases nu:k=0
  ·subst nu;cases (v==[])<;>rfl
  ·have vC:(k==0)=false:=by simpa using nu
   rw[vC];by_cases aw:k=1
   ·subst aw;cases ab:gf v<;>simp[within,e2,ab]
   ·have mv:(k==1)=false:=by simpa using aw
    rw[mv];by_cases aj:k=2
    ·subst aj;cases ab:gf v<;>simp[within,e2,ab]
    ·have iw:(k==2)=false:=by simpa using aj
     rw[iw];by_cases bA:k=3
     ·subst bA;cases ab:gf v<;>simp[within,e2,ab]
     ·have agO:(k==3)=false:=by simpa using bA
      rw[agO];rw[V6 nu aw aj bA];rfl
noncomputable abbrev aa8:bZ:=[(121,FC)]
theorem Ni:bz ah (bX aH aa8):=bV ⟨N5,⟨⟩⟩
abbrev wQ:Shape:=⟨[(1,.aq (.fn 121 [])),aX 7 .need,ar 8,ar 9],[],18⟩
abbrev Bz:List bh:=[(.ret,⟨[aV 4],[],18⟩),(.exit 0,⟨[],[],18⟩)]
noncomputable def w0(y:wQ.G):cJ wQ Bz:=
 bif(decide (y.1.2.2.2.1<y.1.2.2.1)) then
(bd y.1.2.1 y.1.2.2.2.1).bind fun a=>
(f121 (((a.name,a.kind,a.cK,()),()),())).bind fun b=>
 bif(!b.1.1) then
 some (.inr (.inl ((false,()),())))
else
 some (.inl (((),y.1.2.1,y.1.2.2.1,(IntKind.i64.wrap (y.1.2.2.2.1+(1:Int))),()),()))
else
 some (.inr (.inr ((),())))
noncomputable def BH:wQ.G->Option (a_ Bz):=b8 w0
theorem W0:bo ah (aO (codeOf Tryz.f120) 1 26) (bE wQ Bz BH):=cQ Ni (by kernel_rfl) aE fun y=>by kernel_rfl
abbrev MU:Shape:=⟨[aX 0 .need,(1,.aq (.fn 121 []))],[],18⟩
abbrev Ms:Shape:=⟨[aV 4],[],18⟩
noncomputable def za(a:MU.G):Option Ms.G:=
(BH (((),a.1.1,(a.1.1.length:Int),(0:Int),()),())).bind fun b=>
(match b with
|.inl c=>
 some ((c.1.1,()),())
|.inr d=>
 some ((true,()),()))
noncomputable def Nd:bg:=bq aH Tryz.f120 MU Ms [] za
theorem _Y:bc ah 120 Nd:=bB Ni Tryz.func120 (by kernel_rfl) (bJ W0 aE) (fun y=>by kernel_rfl) fun a=>by kernel_rfl
abbrev i123:Shape:=⟨[hE 0 [bW,bQ,bW]],[],5⟩
abbrev O6:Shape:=⟨[aQ 2],[],5⟩
noncomputable def f123(a:i123.G):Option O6.G:=
 some ((a.1.1.1,()),())
noncomputable def Qq:bg:=bq aH Tryz.f123 i123 O6 [] f123
theorem acX:bc ah 123 Qq:=bB g0 Tryz.func123 (by kernel_rfl) aE (fun y=>by kernel_rfl) fun a=>by kernel_rfl
abbrev i177:Shape:=⟨[aX 0 .str],[],8⟩
abbrev EU:Shape:=⟨[bU 2 3000128],[b3 3000128 .str 2 0],8⟩
noncomputable def f177(a:i177.G):Option EU.G:=
 tE (t:=.str) a.1.1 (some (((),()),([]:List E),())) ((cT 16 ([]:List E) a.1.1).bind fun b=>
 some (((),()),b,()))
noncomputable def Qe:bg:=bq aH Tryz.f177 i177 EU [] f177
theorem acN:bc ah 177 Qe:=bB g0 Tryz.func177 (by kernel_rfl) aE (fun y=>by kernel_rfl) fun a=>by kernel_rfl
abbrev xJ:Shape:=⟨[aX 0 .str,aQ 1,ar 7,ar 8],[],19⟩
abbrev rp:List bh:=[(.ret,⟨[ar 4],[],19⟩),(.exit 0,⟨[],[],19⟩)]
noncomputable def ya(y:xJ.G):cJ xJ rp:=
 bif(decide (y.1.2.2.2.1<y.1.2.2.1)) then
(bd y.1.1 y.1.2.2.2.1).bind fun a=>
 bif(y.1.2.1==a) then
 some (.inr (.inl ((y.1.2.2.2.1,()),())))
else
 some (.inl ((y.1.1,y.1.2.1,y.1.2.2.1,(IntKind.i64.wrap (y.1.2.2.2.1+(1:Int))),()),()))
else
 some (.inr (.inr ((),())))
noncomputable def Db:xJ.G->Option (a_ rp):=b8 ya
theorem ZK:bo ah (aO (codeOf Tryz.f221) 1 26) (bE xJ rp Db):=cQ g0 (by kernel_rfl) aE fun y=>by kernel_rfl
abbrev i221:Shape:=⟨[aX 0 .str,aQ 1],[],19⟩
abbrev ES:Shape:=⟨[ar 4],[],19⟩
noncomputable def f221(a:i221.G):Option ES.G:=
(Db ((a.1.1,a.1.2.1,(a.1.1.length:Int),(0:Int),()),())).bind fun b=>
(match b with
|.inl c=>
 some ((c.1.1,()),())
|.inr d=>
 some ((((-1):Int),()),()))
noncomputable def P8:bg:=bq aH Tryz.f221 i221 ES [] f221
theorem acH:bc ah 221 P8:=bB g0 Tryz.func221 (by kernel_rfl) (bJ ZK aE) (fun y=>by kernel_rfl) fun a=>by kernel_rfl
noncomputable abbrev aeE:bZ:=[(221,P8)]
theorem ae9:bz ah (bX aH aeE):=bV ⟨acH,⟨⟩⟩
abbrev i178:Shape:=⟨[aX 0 .str,aQ 1],[],9⟩
abbrev OP:Shape:=⟨[aV 4],[],9⟩
noncomputable def f178(a:i178.G):Option OP.G:=
(f221 ((a.1.1,a.1.2.1,()),())).bind fun b=>
 some (((decide (b.1.1>=(0:Int))),()),())
noncomputable def Qd:bg:=bq aH Tryz.f178 i178 OP [] f178
theorem acM:bc ah 178 Qd:=bB ae9 Tryz.func178 (by kernel_rfl) aE (fun y=>by kernel_rfl) fun a=>by kernel_rfl
noncomputable abbrev aa7:bZ:=[(123,Qq),(177,Qe),(178,Qd)]
theorem Nh:bz ah (bX aH aa7):=bV ⟨acX,acN,acM,⟨⟩⟩
abbrev wP:Shape:=⟨[(1,.aq (.fn 123 [])),bU 7 3000448,aX 12 .need,ar 13,ar 14],[b3 3000448 .str 7 0],30⟩
abbrev re:List bh:=[(.ret,⟨[aV 6],[],30⟩),(.exit 0,⟨[],[],30⟩)]
noncomputable def wZ(y:wP.G):cJ wP re:=
 bif(decide (y.1.2.2.2.2.1<y.1.2.2.2.1)) then
(bd y.1.2.2.1 y.1.2.2.2.2.1).bind fun a=>
(f123 (((a.name,a.kind,a.cK,()),()),())).bind fun b=>
(f178 ((y.2.1,b.1.1,()),())).bind fun c=>
 bif c.1.1 then
 some (.inr (.inl ((true,()),())))
else
(f123 (((a.name,a.kind,a.cK,()),()),())).bind fun d=>
(cT 16 y.2.1 ([d.1.1]:List E)).bind fun e=>
 some (.inl (((),(),y.1.2.2.1,y.1.2.2.2.1,(IntKind.i64.wrap (y.1.2.2.2.2.1+(1:Int))),()),e,()))
else
 some (.inr (.inr ((),())))
noncomputable def BG:wP.G->Option (a_ re):=b8 wZ
theorem WZ:bo ah (aO (codeOf Tryz.f122) 1 58) (bE wP re BG):=cQ Nh (by kernel_rfl) aE fun y=>by kernel_rfl
abbrev MT:Shape:=⟨[aX 0 .need,(1,.aq (.fn 123 [])),aX 2 .str],[],30⟩
abbrev Mr:Shape:=⟨[aV 6],[],30⟩
noncomputable def y_(a:MT.G):Option Mr.G:=
(f177 ((a.1.2.2.1,()),())).bind fun b=>
(BG (((),(),a.1.1,(a.1.1.length:Int),(0:Int),()),b.2.1,())).bind fun c=>
(match c with
|.inl d=>
 some ((d.1.1,()),())
|.inr e=>
 some ((false,()),()))
noncomputable def Nc:bg:=bq aH Tryz.f122 MT Mr [] y_
theorem _X:bc ah 122 Nc:=bB Nh Tryz.func122 (by kernel_rfl) (bJ WZ aE) (fun y=>by kernel_rfl) fun a=>by kernel_rfl
noncomputable abbrev aev:bZ:=[(233,P2)]
theorem QB:bz ah (bX aH aev):=bV ⟨z233,⟨⟩⟩
abbrev xL:Shape:=⟨[aX 0 .need,ar 3],[],19⟩
abbrev CK:List bh:=[(.ret,⟨[aV 2],[],19⟩),(.exit 0,⟨[aX 0 .need],[],19⟩)]
noncomputable def yb(y:xL.G):cJ xL CK:=
 bif(decide (y.1.2.1<(y.1.1.length:Int))) then
(bd y.1.1 y.1.2.1).bind fun a=>
(f233 (((a.name,a.kind,a.cK,()),()),())).bind fun b=>
 bif(!b.1.1) then
 some (.inr (.inl ((false,()),())))
else
 some (.inl ((y.1.1,(IntKind.i64.wrap (y.1.2.1+(1:Int))),()),()))
else
 some (.inr (.inr ((y.1.1,()),())))
noncomputable def Dc:xL.G->Option (a_ CK):=b8 yb
theorem ZM:bo ah (aO (codeOf Tryz.f215) 1 26) (bE xL CK Dc):=cQ QB (by kernel_rfl) aE fun y=>by kernel_rfl
abbrev i215:Shape:=⟨[aX 0 .need],[],19⟩
abbrev OF:Shape:=⟨[aV 2],[],19⟩
noncomputable def f215(a:i215.G):Option OF.G:=
(Dc ((a.1.1,(0:Int),()),())).bind fun b=>
(match b with
|.inl c=>
 some ((c.1.1,()),())
|.inr d=>
 some (((decide ((d.1.1.length:Int)<=(6:Int))),()),()))
noncomputable def P9:bg:=bq aH Tryz.f215 i215 OF [] f215
theorem acI:bc ah 215 P9:=bB QB Tryz.func215 (by kernel_rfl) (bJ ZM aE) (fun y=>by kernel_rfl) fun a=>by kernel_rfl
abbrev w8:Shape:=⟨[aX 0 .str,ar 3,ar 4],[],25⟩
abbrev BW:List bh:=[(.ret,⟨[aV 2],[],25⟩),(.exit 2,⟨[aX 0 .str,ar 3],[],25⟩)]
noncomputable def xj(y:w8.G):cJ w8 BW:=
 bif(decide (y.1.2.2.1<y.1.2.1)) then
(bd y.1.1 y.1.2.2.1).bind fun a=>
(bd y.1.1 y.1.2.1).bind fun b=>
 bif(a==b) then
 some (.inr (.inl ((true,()),())))
else
 some (.inl ((y.1.1,y.1.2.1,(IntKind.i64.wrap (y.1.2.2.1+(1:Int))),()),()))
else
 some (.inr (.inr ((y.1.1,y.1.2.1,()),())))
noncomputable def B_:w8.G->Option (a_ BW):=b8 xj
theorem X7:bo ah (aO (dT (aO (codeOf Tryz.f99) 1 26)) 52 1682) (bE w8 BW B_):=cQ g0 (by kernel_rfl) aE fun y=>by kernel_rfl
abbrev yw:Shape:=⟨[aX 0 .str,ar 3],[],25⟩
abbrev DH:List bh:=[(.ret,⟨[aV 2],[],25⟩),(.exit 0,⟨[],[],25⟩)]
noncomputable def yU(y:yw.G):cJ yw DH:=
 bif(decide (y.1.2.1<(y.1.1.length:Int))) then
(B_ ((y.1.1,y.1.2.1,(0:Int),()),())).bind fun a=>
(match a with
|.inl b=>
 some (.inr (.inl ((b.1.1,()),())))
|.inr c=>
 some (.inl ((c.1.1,(IntKind.i64.wrap (c.1.2.1+(1:Int))),()),())))
else
 some (.inr (.inr ((),())))
noncomputable def DX:yw.G->Option (a_ DH):=b8 yU
theorem _6:bo ah (aO (codeOf Tryz.f99) 1 26) (bE yw DH DX):=cQ g0 (by kernel_rfl) (bJ X7 aE) fun y=>by kernel_rfl
abbrev i99:Shape:=⟨[aX 0 .str],[],25⟩
abbrev QV:Shape:=⟨[aV 2],[],25⟩
noncomputable def f99(a:i99.G):Option QV.G:=
(DX ((a.1.1,(0:Int),()),())).bind fun b=>
(match b with
|.inl c=>
 some ((c.1.1,()),())
|.inr d=>
 some ((false,()),()))
noncomputable def GA:bg:=bq aH Tryz.f99 i99 QV [] f99
theorem QK:bc ah 99 GA:=bB g0 Tryz.func99 (by kernel_rfl) (bJ _6 aE) (fun y=>by kernel_rfl) fun a=>by kernel_rfl
noncomputable abbrev aeF:bZ:=[(99,GA),(215,P9)]
theorem QE:bz ah (bX aH aeF):=bV ⟨QK,acI,⟨⟩⟩
abbrev xR:Shape:=⟨[aX 1 .need,bU 5 3000320,ar 6],[b3 3000320 .str 5 0],30⟩
abbrev xt:List bh:=[(.exit 0,⟨[aX 1 .need,bU 5 3000320],[b3 3000320 .str 5 0],30⟩)]
noncomputable def yd(y:xR.G):cJ xR xt:=
 bif(decide (y.1.2.2.1<(y.1.1.length:Int))) then
(bd y.1.1 y.1.2.2.1).bind fun a=>
(cT 16 y.2.1 ([a.name]:List E)).bind fun b=>
 some (.inl ((y.1.1,(),(IntKind.i64.wrap (y.1.2.2.1+(1:Int))),()),b,()))
else
 some (.inr ((y.1.1,(),()),y.2.1,()))
noncomputable def Df:xR.G->Option (a_ xt):=b8 yd
theorem ZS:bo ah (aO (codeOf Tryz.f163) 1 58) (bE xR xt Df):=cQ QE (by kernel_rfl) aE fun y=>by kernel_rfl
abbrev i163:Shape:=⟨[aQ 0,aX 1 .need],[],30⟩
abbrev OR:Shape:=⟨[aV 4],[],30⟩
noncomputable def f163(a:i163.G):Option OR.G:=
(Df ((a.1.2.1,(),(0:Int),()),([a.1.1]:List E),())).bind fun b=>
(f215 ((b.1.1,()),())).bind fun c=>
 bif c.1.1 then
(f99 ((b.2.1,()),())).bind fun d=>
 some (((!d.1.1),()),())
else
 some ((false,()),())
noncomputable def Qg:bg:=bq aH Tryz.f163 i163 OR [] f163
theorem acO:bc ah 163 Qg:=bB QE Tryz.func163 (by kernel_rfl) (bJ ZS aE) (fun y=>by kernel_rfl) fun a=>by kernel_rfl
abbrev vb(ao:List dq):Prop:=cM ao.length/\∀n,n∈ao->aid n
theorem zM(n:Nat)(k:Nat):decide ((n:Int)<=(k:Int))=decide (n<=k):=by by_cases h:n<=k<;>simp[h]<;>omega
theorem Wa(a)(H:vb a.1.1):f215 a=some ((a.1.1.all hV&&decide (a.1.1.length<=6),()),()):=by
 obtain⟨⟨ao,u⟩,bS⟩:=a;obtain⟨hl,hn⟩:=H;have hl:ao.length<=2097152:=hl;have key:Dc ((ao,((0:Int),())),())=some (bif allI (fun _ n=>hV n) 0 ao then .inr ((ao,()),()) else .inl ((false,()),())):=by
  refine ig yb ao (fun i=>((ao,((i:Int),())),())) _ _ _ (fun i x hx=>?_) ?_
  ·have am:=dh hx;have hw:aW i:=by unfold aW;omega
   have hb:=hn x (List.mem_of_getElem? hx);simp only[yb,c_ am,cond_true,cF,hx,Option.bind_some];rw[XK _ hb.1 hb.2];simp only[Option.bind_some,c2 hw];cases hV x<;>rfl
  ·simp only[yb,eT,cond_false]
 rw[ij] at key;simp only[f215,key,Option.bind_some];cases List.all ao hV with
 |false=>rfl
 |true=>have:=zM ao.length 6;simp only[cond_true,Bool.true_and];rw[<-this];rfl
theorem Wk(a)(H:vb a.1.1):za a=some ((a.1.1.all hV,()),()):=by
 obtain⟨⟨ao,u⟩,bS⟩:=a;obtain⟨hl,hn⟩:=H;have hl:ao.length<=2097152:=hl;have key:BH (((),(ao,((ao.length:Int),((0:Int),())))),())=some (bif allI (fun _ n=>hV n) 0 ao then .inr ((),()) else .inl ((false,()),())):=by
  refine ig w0 ao (fun i=>(((),(ao,((ao.length:Int),((i:Int),())))),())) _ _ _ (fun i x hx=>?_) ?_
  ·have am:=dh hx;have hw:aW i:=by unfold aW;omega
   have hb:=hn x (List.mem_of_getElem? hx);simp only[w0,c_ am,cond_true,cF,hx,Option.bind_some];rw[II _ hb.1 hb.2];simp only[Option.bind_some,c2 hw];cases hV x<;>rfl
  ·simp only[w0,eT,cond_false]
 rw[ij] at key;simp only[za,key,Option.bind_some];cases List.all ao hV<;>rfl
def e9:List E->List E->Bool
 |_,[]=>false
 |cH,x::r=>cH.contains x||e9 (cH++[x]) r
theorem YW(xs:List E):∀(r:List E) (k:Nat),r=xs.drop k->allI (fun i x=>!((xs.take i).contains x)) k r=!e9 (xs.take k) r:=by
 intro r;induction r with
 |nil=>intro k _;rfl
 |cons x r ih=>
  intro k hr;have cx:r=xs.drop (k+1):=by
   have:=congrArg List.tail hr;simpa using this
  have hx:xs[k]? =some x:=by
   have:=congrArg (fun l=>l[0]?) hr
   simpa using this.symm
  have e1:xs.take (k+1)=xs.take k++[x]:=by rw[List.take_add_one,hx];rfl
  simp only[allI,e9,ih (k+1) cx,e1,Bool.not_or]
theorem DD(ys:List E)(x:E):ys.all (fun y=>!(y==x))=!ys.contains x:=by
 induction ys with
 |nil=>rfl
 |cons y ys ih=>
  simp only[List.all_cons,ih,List.contains_cons,Bool.not_or];congr 2
  cases h:y==x with
  |true=>rw[eq_of_beq h];simp
  |false=>
   cases h2:x==y with
   |true=>rw[eq_of_beq h2] at h;simp at h
   |false=>rfl
theorem IE(a)(H:cM a.1.1.length):f99 a=some ((e9 [] a.1.1,()),()):=by
 obtain⟨⟨xs,u⟩,bS⟩:=a;have H:xs.length<=2097152:=H;have inner:∀(i:Nat) (x:E),xs[i]? =some x->B_ ((xs,((i:Int),((0:Int),()))),())=some (bif !((xs.take i).contains x) then .inr ((xs,((i:Int),())),()) else .inl ((true,()),())):=by
  intro i x hx;have am:=dh hx;have hl:(xs.take i).length=i:=by rw[List.length_take];omega
  have:=ig xj (xs.take i) (fun k=>((xs,((i:Int),((k:Int),()))),())) (fun _ y=>!(y==x)) (.inl ((true,()),())) (.inr ((xs,((i:Int),())),())) (fun k y an=>?_) ?_
  ·have:=this;rw[ij,DD] at this;exact this
  ·have ak:=dh an;rw[hl] at ak;have hw:aW k:=by unfold aW;omega
   have dV:xs[k]? =some y:=by
    rw[List.getElem?_take,if_pos ak] at an;exact an
   simp only[xj,c_ ak,cond_true,cF,dV,hx,Option.bind_some,c2 hw];cases (y==x)<;>rfl
  ·simp only[xj,hl,eT,cond_false]
 have key:DX ((xs,((0:Int),())),())=some (bif allI (fun i x=>!((xs.take i).contains x)) 0 xs then .inr ((),()) else .inl ((true,()),())):=by
  refine ig yU xs (fun i=>((xs,((i:Int),())),())) _ _ _ (fun i x hx=>?_) ?_
  ·have am:=dh hx;have hw:aW i:=by unfold aW;omega
   simp only[yU,c_ am,cond_true,inner i x hx,Option.bind_some];cases (xs.take i).contains x
   ·simp only[Bool.not_false,cond_true,c2 hw]
   ·rfl
  ·simp only[yU,eT,cond_false]
 rw[YW xs xs 0 rfl] at key;simp only[f99,key,Option.bind_some,List.take_zero];cases e9 [] xs<;>rfl
def ru(name:E)(ao:List dq):Bool:=ao.all hV&&decide (ao.length<=6)&&!e9 [] (name::ao.map (·.name))
theorem V'(a)(H:vb a.1.2.1)(hn:cM a.1.1.length):f163 a=some ((ru a.1.1 a.1.2.1,()),()):=by
 obtain⟨⟨name,ao,u⟩,bS⟩:=a;have hl:ao.length<=2097152:=H.1;have key:Df ((ao,((),((0:Int),()))),(([name]:List E),()))=some (((ao,((),())),((name::ao.map (·.name)),()))):=by
  have:=Xb yd ao (fun i (out:List E)=>((ao,((),((i:Int),()))),(out,()))) (fun(n:dq) out=>out++[n.name]) (fun out=>(((ao,((),())),(out,())):a_ xt)) (fun i out=>out.length=i+1) [name] rfl (fun i x out hx e3=>?_) (fun out _=>?_)
  ·refine this.trans ?_
   have e:∀(r:List dq) (out:List E),r.foldl (fun s x=>s++[x.name]) out=out++r.map (·.name):=by
    intro r;induction r with
    |nil=>intro out;simp
    |cons n r ih=>intro out;simp[ih]
   rw[e];rfl
  ·have am:=dh hx;have hw:aW i:=by unfold aW;omega
   refine⟨?_,by simp[e3]⟩
   simp only[yd,c_ am,cond_true,cF,hx,Option.bind_some];rw[fT (by decide) (by unfold aW;simp only[List.length_cons,List.length_nil];omega)]
   simp only[Option.bind_some,c2 hw]
  ·simp only[yd,eT,cond_false]
 simp only[f163,key,Option.bind_some];rw[Wa _ H];simp only[Option.bind_some];unfold ru;cases aA:(List.all ao hV&&decide (ao.length<=6)) with
 |false=>rfl
 |true=>
  simp only[Bool.and_eq_true,decide_eq_true_eq] at aA;have ain:=IE ((name::ao.map (·.name),()),()) (show(name::ao.map (·.name)).length<=2097152 by simp only[List.length_cons,List.length_map];omega)
  simp only[cond_true,Bool.true_and,ain,Option.bind_some]
theorem Zh(a)(H:cM a.1.1.length):∃n:Int,f221 a=some ((n,()),())/\decide (n>=0)=a.1.1.contains a.1.2.1:=by
 obtain⟨⟨xs,x,u⟩,bS⟩:=a;have H:xs.length<=2097152:=H;have key:Db ((xs,(x,((xs.length:Int),((0:Int),())))),())=_:=BE ya xs (fun i (_:Unit)=>((xs,(x,((xs.length:Int),((i:Int),())))),()))
  (fun i y _=>some (bif x==y then .inr ((.inl (((i:Int),()),())):a_ rp) else .inl ())) (fun _=>.inr ((),())) (fun i y s an=>?_) (fun s=>?_) ()
 ·have fold:∀(r:List E) (k:Nat),∃n:Int,(gA (fun i y (_:Unit)=>some (bif x==y then .inr ((.inl (((i:Int),()),())):a_ rp) else .inl ())) (fun _=>(.inr ((),()):a_ rp)) k r ()).bind (fun adb=>
    (match adb with
    |.inl ada=>some ((ada.1.1,()),())
    |.inr ajH=>some ((((-1):Int),()),()):Option ES.G))=some ((n,()),())/\decide (n>=0)=r.contains x:=by
   intro r;induction r with
   |nil=>intro k;exact⟨-1,rfl,rfl⟩
   |cons y r ih=>
    intro k;simp only[gA,List.contains_cons];cases FZ:x==y with
    |true=>exact⟨k,rfl,by simp⟩
    |false=>
     obtain⟨n,h1,h2⟩:=ih (k+1);exact⟨n,h1,by simpa using h2⟩
  obtain⟨n,h1,h2⟩:=fold xs 0;refine⟨n,?_,h2⟩;simp only[f221];rw[key];exact h1
 ·have am:=dh an;have hw:aW i:=by unfold aW;omega
  simp only[ya,c_ am,cond_true,cF,an,Option.bind_some,c2 hw];cases x==y<;>rfl
 ·simp only[ya,eT,cond_false]
theorem UZ(a)(H:cM a.1.1.length):f178 a=some ((a.1.1.contains a.1.2.1,()),()):=by
 obtain⟨n,h1,h2⟩:=Zh ((a.1.1,(a.1.2.1,())),()) H;simp only[f178,h1,Option.bind_some,h2]
theorem XM(a)(H:cM a.1.1.length):f177 a=some (((),()),(a.1.1,())):=by
 obtain⟨⟨xs,u⟩,bS⟩:=a;have H:xs.length<=2097152:=H;have h2:(cT 16 ([]:List E) xs).bind (fun x=>some (((),()),(x,())))=(some (((),()),(xs,())):Option EU.G):=by
  rw[fT (by decide) (by unfold aW;simp only[List.length_nil];omega)];rfl
 simp only[f177];rw[h2];unfold tE;split
 ·rfl
 ·rename_i h;exact absurd (fun he:xs=[]=>by subst he;rfl) h
theorem TA(a)(H:vb a.1.1)(hm:a.1.2.2.1.length<=1):y_ a=some ((e9 a.1.2.2.1 (a.1.1.map (·.name)),()),()):=by
 obtain⟨⟨ao,mC,more,u⟩,bS⟩:=a;have hl:ao.length<=2097152:=H.1;have hm:more.length<=1:=hm;have hc:=XM ((more,()),()) (show more.length<=2097152 by omega)
 have key:(BG (((),((),(ao,((ao.length:Int),((0:Int),()))))),(more,())))=_:=rm wZ ao (fun i (out:List E)=>(((),((),(ao,((ao.length:Int),((i:Int),()))))),(out,())))
  (fun i (n:dq) out=>some (bif out.contains n.name then .inr ((.inl ((true,()),())):a_ re) else .inl (out++[n.name]))) (fun _=>.inr ((),())) (fun i out=>out.length<=i+1) more (by omega) (fun i x out hx e3=>?_) (fun out _=>?_)
 ·have fold:∀(r:List dq) (k:Nat) (out:List E),(gA (fun i (n:dq) out=>some (bif out.contains n.name then .inr ((.inl ((true,()),())):a_ re) else .inl (out++[n.name]))) (fun _=>(.inr ((),()):a_ re)) k r out)=
    some (bif e9 out (r.map (·.name)) then .inl ((true,()),()) else .inr ((),())):=by
   intro r;induction r with
   |nil=>intro k out;rfl
   |cons n r ih=>
    intro k out;simp only[gA,List.map_cons,e9];cases out.contains n.name with
    |true=>rfl
    |false=>simp only[cond_false,Bool.false_or];exact ih _ _
  rw[fold] at key;simp only[y_,hc,Option.bind_some,key];cases e9 more (ao.map (·.name))<;>rfl
 ·have am:=dh hx;have hw:aW i:=by unfold aW;omega
  refine⟨?_,fun ap af=>?_⟩
  ·simp only[wZ,c_ am,cond_true,cF,hx,Option.bind_some,f123];rw[UZ _ (show cM out.length by show out.length<=2097152;omega)]
   simp only[Option.bind_some];cases aA:out.contains x.name with
   |true=>rfl
   |false=>
    simp only[cond_false];rw[fT (by decide) (by unfold aW;simp only[List.length_cons,List.length_nil];omega)]
    simp only[Option.bind_some,c2 hw,Option.map_some]
  ·simp only[Option.some.injEq] at af;cases aA:out.contains x.name with
   |true=>rw[aA] at af;cases af
   |false=>
    rw[aA] at af;simp only[cond_false,Sum.inl.injEq] at af;subst af;simp only[List.length_append,List.length_cons,List.length_nil];omega
 ·simp only[wZ,eT,cond_false]
abbrev i293:Shape:=⟨[(0,.aq (.d (.int .u8)))],[],29⟩
abbrev Of:Shape:=⟨[aV 2],[],29⟩
noncomputable def f293(a:i293.G):Option Of.G:=
 bif(decide (a.1.1>=(97:Int))) then
 bif(!(decide (a.1.1<=(122:Int)))) then
 bif(decide (a.1.1>=(48:Int))) then
 bif(!(decide (a.1.1<=(57:Int)))) then
 bif(!(a.1.1==(46:Int))) then
 bif(!(a.1.1==(95:Int))) then
 some (((a.1.1==(45:Int)),()),())
else
 some ((true,()),())
else
 some ((true,()),())
else
 some ((true,()),())
else
 bif(!(a.1.1==(46:Int))) then
 bif(!(a.1.1==(95:Int))) then
 some (((a.1.1==(45:Int)),()),())
else
 some ((true,()),())
else
 some ((true,()),())
else
 some ((true,()),())
else
 bif(decide (a.1.1>=(48:Int))) then
 bif(!(decide (a.1.1<=(57:Int)))) then
 bif(!(a.1.1==(46:Int))) then
 bif(!(a.1.1==(95:Int))) then
 some (((a.1.1==(45:Int)),()),())
else
 some ((true,()),())
else
 some ((true,()),())
else
 some ((true,()),())
else
 bif(!(a.1.1==(46:Int))) then
 bif(!(a.1.1==(95:Int))) then
 some (((a.1.1==(45:Int)),()),())
else
 some ((true,()),())
else
 some ((true,()),())
noncomputable def PO:bg:=bq aH Tryz.f293 i293 Of [] f293
theorem acp:bc ah 293 PO:=bB g0 Tryz.func293 (by kernel_rfl) aE (fun y=>by kernel_rfl) fun a=>by kernel_rfl
noncomputable abbrev aei:bZ:=[(293,PO)]
theorem Qy:bz ah (bX aH aei):=bV ⟨acp,⟨⟩⟩
abbrev xC:Shape:=⟨[aQ 0,ar 5,ar 6],[],17⟩
abbrev CC:List bh:=[(.ret,⟨[aV 2],[],17⟩),(.exit 0,⟨[aQ 0],[],17⟩)]
noncomputable def x9(y:xC.G):cJ xC CC:=
 bif(decide (y.1.2.2.1<y.1.2.1)) then
(bd y.1.1 y.1.2.2.1).bind fun a=>
(f293 (((a.toNat:Int),()),())).bind fun b=>
 bif(!b.1.1) then
 some (.inr (.inl ((false,()),())))
else
 some (.inl ((y.1.1,y.1.2.1,(IntKind.i64.wrap (y.1.2.2.1+(1:Int))),()),()))
else
 some (.inr (.inr ((y.1.1,()),())))
noncomputable def C9:xC.G->Option (a_ CC):=b8 x9
theorem ZC:bo ah (aO (codeOf Tryz.f267) 1 26) (bE xC CC C9):=cQ Qy (by kernel_rfl) aE fun y=>by kernel_rfl
abbrev i267:Shape:=⟨[aQ 0],[],17⟩
abbrev Om:Shape:=⟨[aV 2],[],17⟩
noncomputable def f267(a:i267.G):Option Om.G:=
(C9 ((a.1.1,(a.1.1.length:Int),(0:Int),()),())).bind fun b=>
(match b with
|.inl c=>
 some ((c.1.1,()),())
|.inr d=>
 some (((!(d.1.1==([]:E))),()),()))
noncomputable def PV:bg:=bq aH Tryz.f267 i267 Om [] f267
theorem acx:bc ah 267 PV:=bB Qy Tryz.func267 (by kernel_rfl) (bJ ZC aE) (fun y=>by kernel_rfl) fun a=>by kernel_rfl
noncomputable abbrev aes:bZ:=[(267,PV)]
theorem ae3:bz ah (bX aH aes):=bV ⟨acx,⟨⟩⟩
abbrev i228:Shape:=⟨[aQ 0],[],18⟩
abbrev OC:Shape:=⟨[aV 2],[],18⟩
noncomputable def f228(a:i228.G):Option OC.G:=
 bif(decide ((a.1.1.length:Int)<=(10:Int))) then
 bif(!(a.1.1==([46]:E))) then
 bif(!(a.1.1==([46,46]:E))) then
(f267 ((a.1.1,()),())).bind fun b=>
 some ((b.1.1,()),())
else
 some ((false,()),())
else
 some ((false,()),())
else
 some ((false,()),())
noncomputable def P5:bg:=bq aH Tryz.f228 i228 OC [] f228
theorem z228:bc ah 228 P5:=bB ae3 Tryz.func228 (by kernel_rfl) aE (fun y=>by kernel_rfl) fun a=>by kernel_rfl
noncomputable abbrev aeA:bZ:=[(228,P5)]
theorem FK:bz ah (bX aH aeA):=bV ⟨z228,⟨⟩⟩
abbrev Kc:Shape:=⟨[bx 2 2 0,bx 3 3 0,aQ 4],[bI 2 [iE],bI 3 [bQ]],17⟩
abbrev JX:List bh:=[(.norm,⟨[bx 2 2 0,bx 3 3 0,aV 16],[bI 2 [iE],bI 3 [bQ]],17⟩)]
noncomputable def Cj(y:Kc.G):Option (a_ JX):=
 bif(!(decide (y.2.2.1.1>(5:Int)))) then
(f228 ((y.1.2.2.1,()),())).bind fun a=>
 some (((),(),(!a.1.1),()),(y.2.1.1,()),(y.2.2.1.1,()),())
else
 some (((),(),true,()),(y.2.1.1,()),(y.2.2.1.1,()),())
theorem Yk:bo ah (aO (j1 (aO (codeOf Tryz.f193) 1 58)) 117 938) (bE Kc JX Cj):=dD FK (by kernel_rfl) aE fun y=>by kernel_rfl
abbrev xO:Shape:=⟨[bx 2 2 0,bx 3 3 0],[bI 2 [iE],bI 3 [bQ]],17⟩
abbrev CN:List bh:=[(.norm,⟨[bx 2 2 0],[bI 2 [iE]],17⟩),(.ret,⟨[bx 2 2 0],[bI 2 [iE]],17⟩)]
noncomputable def rz(x:E)(y:xO.G):cJ xO CN:=
(Cj (((),(),x,()),(y.2.1.1,()),((IntKind.i64.wrap (y.2.2.1.1+(1:Int))),()),())).bind fun a=>
 bif a.1.2.2.1 then
 some (.inr (.inr (((),()),(false,()),())))
else
 some (.inl (((),(),()),(a.2.1.1,()),(a.2.2.1.1,()),()))
noncomputable def tU(y:xO.G):Option (a_ CN):=
 some (.inl (((),()),(y.2.1.1,()),()))
theorem ZP:bo ah (aO (codeOf Tryz.f193) 1 58) (rl 257 6 xO CN rz tU):=HP (eW:=7) FK ND (by kernel_rfl) (bJ Yk aE) (by kernel_rfl) (fun x y=>by kernel_rfl) fun y=>by kernel_rfl
abbrev i193:Shape:=⟨[aQ 0],[],17⟩
abbrev OL:Shape:=⟨[bx 2 2 0],[bI 2 [iE]],17⟩
noncomputable def f193(a:i193.G):Option OL.G:=
(bif Nat.ble a.1.1.length kC then is rz tU (cn (47:UInt8) a.1.1) (((),(),()),(false,()),((0:Int),()),()) else none).bind fun b=>
(match b with
|.inl c=>
 some (((),()),(true,()),())
|.inr d=>
 some (((),()),(d.2.1.1,()),()))
noncomputable def Fx:bg:=bq aH Tryz.f193 i193 OL [] f193
theorem z193:bc ah 193 Fx:=bB FK Tryz.func193 (by kernel_rfl) (bJ ZP aE) (fun y=>by kernel_rfl) fun a=>by kernel_rfl
abbrev i229:Shape:=⟨[(0,.aq (.d (.int .u8)))],[],9⟩
abbrev OB:Shape:=⟨[aV 2],[],9⟩
noncomputable def f229(a:i229.G):Option OB.G:=
 bif(decide (a.1.1>=(32:Int))) then
 some (((decide (a.1.1<=(126:Int))),()),())
else
 some ((false,()),())
noncomputable def P4:bg:=bq aH Tryz.f229 i229 OB [] f229
theorem z229:bc ah 229 P4:=bB g0 Tryz.func229 (by kernel_rfl) aE (fun y=>by kernel_rfl) fun a=>by kernel_rfl
noncomputable abbrev aez:bZ:=[(229,P4)]
theorem FJ:bz ah (bX aH aez):=bV ⟨z229,⟨⟩⟩
abbrev I1:Shape:=⟨[aQ 0,ar 3,ar 8,ar 9],[],24⟩
abbrev IN:List bh:=[(.norm,⟨[aQ 0,ar 8,ar 9,aV 22],[],24⟩)]
noncomputable def BL(y:I1.G):Option (a_ IN):=
(bd y.1.1 y.1.2.1).bind fun a=>
(f229 (((a.toNat:Int),()),())).bind fun b=>
 bif(!b.1.1) then
(bd y.1.1 y.1.2.1).bind fun c=>
 some ((y.1.1,y.1.2.2.1,y.1.2.2.2.1,((c.toNat:Int) !=(10:Int)),()),())
else
 some ((y.1.1,y.1.2.2.1,y.1.2.2.2.1,false,()),())
theorem WR:bo ah (aO (dT (aO (codeOf Tryz.f194) 1 58)) 116 7474) (bE I1 IN BL):=dD FJ (by kernel_rfl) aE fun y=>by kernel_rfl
abbrev xN:Shape:=⟨[aQ 0,ar 8,ar 9],[],24⟩
abbrev CM:List bh:=[(.ret,⟨[aV 2],[],24⟩),(.exit 0,⟨[],[],24⟩)]
noncomputable def yc(y:xN.G):cJ xN CM:=
 bif(decide (y.1.2.2.1<y.1.2.1)) then
(BL ((y.1.1,y.1.2.2.1,y.1.2.1,y.1.2.2.1,()),())).bind fun a=>
 bif a.1.2.2.2.1 then
 some (.inr (.inl ((false,()),())))
else
 some (.inl ((a.1.1,a.1.2.1,(IntKind.i64.wrap (a.1.2.2.1+(1:Int))),()),()))
else
 some (.inr (.inr ((),())))
noncomputable def De:xN.G->Option (a_ CM):=b8 yc
theorem ZO:bo ah (aO (codeOf Tryz.f194) 1 58) (bE xN CM De):=cQ FJ (by kernel_rfl) (bJ WR aE) fun y=>by kernel_rfl
abbrev i194:Shape:=⟨[aQ 0],[],24⟩
abbrev OK:Shape:=⟨[aV 2],[],24⟩
noncomputable def f194(a:i194.G):Option OK.G:=
 bif(decide ((a.1.1.length:Int)>(80:Int))) then
 some ((false,()),())
else
(De ((a.1.1,(a.1.1.length:Int),(0:Int),()),())).bind fun b=>
(match b with
|.inl c=>
 some ((c.1.1,()),())
|.inr d=>
 some ((true,()),()))
noncomputable def P':bg:=bq aH Tryz.f194 i194 OK [] f194
theorem z194:bc ah 194 P':=bB FJ Tryz.func194 (by kernel_rfl) (bJ ZO aE) (fun y=>by kernel_rfl) fun a=>by kernel_rfl
noncomputable abbrev aeM:bZ:=[(193,Fx),(194,P')]
theorem QF:bz ah (bX aH aeM):=bV ⟨z193,z194,⟨⟩⟩
abbrev K0:Shape:=⟨[bx 1 1 0],[bI 1 [bW,bQ,bQ,bW]],39⟩
abbrev KQ:List bh:=[(.norm,⟨[bx 1 1 0,aV 16],[bI 1 [bW,bQ,bQ,bW]],39⟩)]
noncomputable def Du(y:K0.G):Option (a_ KQ):=
(f193 ((y.2.1.1,()),())).bind fun a=>
 bif(!(!a.2.1.1)) then
 bif(!(decide (y.2.1.2.2.1<(0:Int)))) then
 some (((),(decide (y.2.1.2.2.1>(7:Int))),()),(y.2.1.1,y.2.1.2.1,y.2.1.2.2.1,y.2.1.2.2.2.1,()),())
else
 some (((),true,()),(y.2.1.1,y.2.1.2.1,y.2.1.2.2.1,y.2.1.2.2.2.1,()),())
else
 some (((),true,()),(y.2.1.1,y.2.1.2.1,y.2.1.2.2.1,y.2.1.2.2.2.1,()),())
theorem ZY:bo ah (aO (codeOf Tryz.f136) 1 12) (bE K0 KQ Du):=dD QF (by kernel_rfl) aE fun y=>by kernel_rfl
abbrev i136:Shape:=⟨[hE 0 [bW,bQ,bQ,bW]],[],39⟩
abbrev O0:Shape:=⟨[aV 2],[],39⟩
noncomputable def f136(a:i136.G):Option O0.G:=
(Du (((),()),(a.1.1.1,a.1.1.2.1,a.1.1.2.2.1,a.1.1.2.2.2.1,()),())).bind fun b=>
 bif b.1.2.1 then
 some ((false,()),())
else
 bif(b.2.1.2.1==(1:Int)) then
 some (((b.2.1.2.2.2.1==([]:E)),()),())
else
 bif(b.2.1.2.1==(2:Int)) then
(f194 ((b.2.1.2.2.2.1,()),())).bind fun c=>
 some ((c.1.1,()),())
else
 bif(b.2.1.2.1==(3:Int)) then
 bif(b.2.1.2.2.1==(0:Int)) then
(f193 ((b.2.1.2.2.2.1,()),())).bind fun d=>
 some ((d.2.1.1,()),())
else
 some ((false,()),())
else
 some ((false,()),())
noncomputable def Ql:bg:=bq aH Tryz.f136 i136 O0 [] f136
theorem acS:bc ah 136 Ql:=bB QF Tryz.func136 (by kernel_rfl) (bJ ZY aE) (fun y=>by kernel_rfl) fun a=>by kernel_rfl
abbrev i304:Shape:=⟨[(0,.aq (.d (.int .u8)))],[],29⟩
abbrev Oe:Shape:=⟨[aV 2],[],29⟩
noncomputable def f304(a:i304.G):Option Oe.G:=
 bif(decide (a.1.1>=(97:Int))) then
 bif(!(decide (a.1.1<=(122:Int)))) then
 bif(decide (a.1.1>=(48:Int))) then
 bif(!(decide (a.1.1<=(57:Int)))) then
 bif(!(a.1.1==(46:Int))) then
 bif(!(a.1.1==(95:Int))) then
 some (((a.1.1==(45:Int)),()),())
else
 some ((true,()),())
else
 some ((true,()),())
else
 some ((true,()),())
else
 bif(!(a.1.1==(46:Int))) then
 bif(!(a.1.1==(95:Int))) then
 some (((a.1.1==(45:Int)),()),())
else
 some ((true,()),())
else
 some ((true,()),())
else
 some ((true,()),())
else
 bif(decide (a.1.1>=(48:Int))) then
 bif(!(decide (a.1.1<=(57:Int)))) then
 bif(!(a.1.1==(46:Int))) then
 bif(!(a.1.1==(95:Int))) then
 some (((a.1.1==(45:Int)),()),())
else
 some ((true,()),())
else
 some ((true,()),())
else
 some ((true,()),())
else
 bif(!(a.1.1==(46:Int))) then
 bif(!(a.1.1==(95:Int))) then
 some (((a.1.1==(45:Int)),()),())
else
 some ((true,()),())
else
 some ((true,()),())
noncomputable def zY:bg:=bq aH Tryz.f304 i304 Oe [] f304
theorem EI:bc ah 304 zY:=bB g0 Tryz.func304 (by kernel_rfl) aE (fun y=>by kernel_rfl) fun a=>by kernel_rfl
noncomputable abbrev aeg:bZ:=[(91,qO),(304,zY)]
theorem Qx:bz ah (bX aH aeg):=bV ⟨z91,EI,⟨⟩⟩
abbrev xA:Shape:=⟨[aQ 0,ar 3],[],26⟩
abbrev CA:List bh:=[(.ret,⟨[aV 2],[],26⟩),(.exit 0,⟨[aQ 0],[],26⟩)]
noncomputable def x8(y:xA.G):cJ xA CA:=
 bif(decide (y.1.2.1<(y.1.1.length:Int))) then
(bd y.1.1 y.1.2.1).bind fun a=>
(f304 (((a.toNat:Int),()),())).bind fun b=>
 bif(!b.1.1) then
 some (.inr (.inl ((false,()),())))
else
 some (.inl ((y.1.1,(IntKind.i64.wrap (y.1.2.1+(1:Int))),()),()))
else
 some (.inr (.inr ((y.1.1,()),())))
noncomputable def C7:xA.G->Option (a_ CA):=b8 x8
theorem ZA:bo ah (aO (codeOf Tryz.f285) 1 26) (bE xA CA C7):=cQ Qx (by kernel_rfl) aE fun y=>by kernel_rfl
abbrev i285:Shape:=⟨[aQ 0],[],26⟩
abbrev Oi:Shape:=⟨[aV 2],[],26⟩
noncomputable def f285(a:i285.G):Option Oi.G:=
(C7 ((a.1.1,(0:Int),()),())).bind fun b=>
(match b with
|.inl c=>
 some ((c.1.1,()),())
|.inr d=>
(f91 (((d.1.1.length:Int),(1:Int),(10:Int),()),())).bind fun e=>
 bif e.1.1 then
 bif(!(d.1.1==([46]:E))) then
 some (((!(d.1.1==([46,46]:E))),()),())
else
 some ((false,()),())
else
 some ((false,()),()))
noncomputable def PS:bg:=bq aH Tryz.f285 i285 Oi [] f285
theorem acu:bc ah 285 PS:=bB Qx Tryz.func285 (by kernel_rfl) (bJ ZA aE) (fun y=>by kernel_rfl) fun a=>by kernel_rfl
noncomputable abbrev aen:bZ:=[(89,vW),(285,PS)]
theorem Qz:bz ah (bX aH aen):=bV ⟨Ad,acu,⟨⟩⟩
abbrev xG:Shape:=⟨[bU 3 3000192,ar 4],[b3 3000192 .str 3 0],25⟩
abbrev CG:List bh:=[(.ret,⟨[aV 2],[],25⟩),(.exit 0,⟨[bU 3 3000192],[b3 3000192 .str 3 0],25⟩)]
noncomputable def x'(y:xG.G):cJ xG CG:=
 bif(decide (y.1.2.1<(y.2.1.length:Int))) then
(hy y.2.1.length y.1.2.1).bind fun a=>
(y.2.1[a]?).bind fun b=>
(f285 ((b,()),())).bind fun c=>
 bif(!c.1.1) then
 some (.inr (.inl ((false,()),())))
else
 some (.inl (((),(IntKind.i64.wrap (y.1.2.1+(1:Int))),()),y.2.1,()))
else
 some (.inr (.inr (((),()),y.2.1,())))
noncomputable def Da:xG.G->Option (a_ CG):=b8 x'
theorem ZG:bo ah (aO (codeOf Tryz.f252) 1 58) (bE xG CG Da):=cQ Qz (by kernel_rfl) aE fun y=>by kernel_rfl
abbrev i252:Shape:=⟨[aQ 0],[],25⟩
abbrev Ow:Shape:=⟨[aV 2],[],25⟩
noncomputable def f252(a:i252.G):Option Ow.G:=
(f89 ((a.1.1,(47:Int),(IntKind.i64.wrap ((a.1.1.length:Int)+(1:Int))),()),())).bind fun b=>
(Da (((),(0:Int),()),b.2.1,())).bind fun c=>
(match c with
|.inl d=>
 some ((d.1.1,()),())
|.inr e=>
 some (((decide ((e.2.1.length:Int)<=(5:Int))),()),()))
noncomputable def Ft:bg:=bq aH Tryz.f252 i252 Ow [] f252
theorem N1:bc ah 252 Ft:=bB Qz Tryz.func252 (by kernel_rfl) (bJ ZG aE) (fun y=>by kernel_rfl) fun a=>by kernel_rfl
noncomputable abbrev aem:bZ:=[(91,qO)]
theorem FH:bz ah (bX aH aem):=bV ⟨z91,⟨⟩⟩
abbrev Kb:Shape:=⟨[aQ 0,ar 3],[],25⟩
abbrev JW:List bh:=[(.norm,⟨[aQ 0,ar 3,aV 21],[],25⟩)]
noncomputable def Ch(y:Kb.G):Option (a_ JW):=
(bd y.1.1 y.1.2.1).bind fun a=>
 bif((a.toNat:Int) !=(10:Int)) then
(bd y.1.1 y.1.2.1).bind fun b=>
(f91 (((IntKind.i64.wrap (b.toNat:Int)),(32:Int),(126:Int),()),())).bind fun c=>
 some ((y.1.1,y.1.2.1,(!c.1.1),()),())
else
 some ((y.1.1,y.1.2.1,false,()),())
theorem Yh:bo ah (aO (dT (aO (codeOf Tryz.f253) 1 26)) 52 840) (bE Kb JW Ch):=dD FH (by kernel_rfl) aE fun y=>by kernel_rfl
abbrev xF:Shape:=⟨[aQ 0,ar 3],[],25⟩
abbrev CF:List bh:=[(.ret,⟨[aV 2],[],25⟩),(.exit 0,⟨[aQ 0],[],25⟩)]
noncomputable def x_(y:xF.G):cJ xF CF:=
 bif(decide (y.1.2.1<(y.1.1.length:Int))) then
(Ch ((y.1.1,y.1.2.1,()),())).bind fun a=>
 bif a.1.2.2.1 then
 some (.inr (.inl ((false,()),())))
else
 some (.inl ((a.1.1,(IntKind.i64.wrap (a.1.2.1+(1:Int))),()),()))
else
 some (.inr (.inr ((y.1.1,()),())))
noncomputable def C':xF.G->Option (a_ CF):=b8 x_
theorem ZF:bo ah (aO (codeOf Tryz.f253) 1 26) (bE xF CF C'):=cQ FH (by kernel_rfl) (bJ Yh aE) fun y=>by kernel_rfl
abbrev i253:Shape:=⟨[aQ 0],[],25⟩
abbrev Ov:Shape:=⟨[aV 2],[],25⟩
noncomputable def f253(a:i253.G):Option Ov.G:=
(C' ((a.1.1,(0:Int),()),())).bind fun b=>
(match b with
|.inl c=>
 some ((c.1.1,()),())
|.inr d=>
 some (((decide ((d.1.1.length:Int)<=(80:Int))),()),()))
noncomputable def PZ:bg:=bq aH Tryz.f253 i253 Ov [] f253
theorem acB:bc ah 253 PZ:=bB FH Tryz.func253 (by kernel_rfl) (bJ ZF aE) (fun y=>by kernel_rfl) fun a=>by kernel_rfl
noncomputable abbrev aex:bZ:=[(91,qO),(252,Ft),(253,PZ)]
theorem ae6:bz ah (bX aH aex):=bV ⟨z91,N1,acB,⟨⟩⟩
abbrev i210:Shape:=⟨[hE 0 [bW,bQ,bQ,bW]],[],42⟩
abbrev OI:Shape:=⟨[aV 2],[],42⟩
noncomputable def f210(a:i210.G):Option OI.G:=
(f252 ((a.1.1.1,()),())).bind fun b=>
 bif(!b.1.1) then
 some ((false,()),())
else
 bif(a.1.1.2.1==(1:Int)) then
(f91 ((a.1.1.2.2.1,(0:Int),(7:Int),()),())).bind fun c=>
 bif c.1.1 then
 some (((a.1.1.2.2.2.1==([]:E)),()),())
else
 some ((false,()),())
else
 bif(a.1.1.2.1==(2:Int)) then
(f91 ((a.1.1.2.2.1,(0:Int),(7:Int),()),())).bind fun d=>
 bif d.1.1 then
(f253 ((a.1.1.2.2.2.1,()),())).bind fun e=>
 some ((e.1.1,()),())
else
 some ((false,()),())
else
 bif(a.1.1.2.1==(3:Int)) then
 bif(a.1.1.2.2.1==(0:Int)) then
(f252 ((a.1.1.2.2.2.1,()),())).bind fun f=>
 some ((f.1.1,()),())
else
 some ((false,()),())
else
 some ((false,()),())
noncomputable def Fw:bg:=bq aH Tryz.f210 i210 OI [] f210
theorem z210:bc ah 210 Fw:=bB ae6 Tryz.func210 (by kernel_rfl) aE (fun y=>by kernel_rfl) fun a=>by kernel_rfl
def ky(n:Int):Bool:=(decide (97<=n)&&decide (n<=122))||(decide (48<=n)&&decide (n<=57))||n==46||n==95||n==45
theorem IG(a):f304 a=some ((ky a.1.1,()),()):=by
 obtain⟨⟨n,u⟩,bS⟩:=a;simp only[f304,ky,ge_iff_le];generalize decide ((97:Int)<=n)=a7;generalize decide (n<=(122:Int))=aM;generalize decide ((48:Int)<=n)=b9;generalize decide (n<=(57:Int))=oB;generalize(n==(46:Int))=wj;generalize(n==(95:Int))=G7;generalize(n==(45:Int))=G6;cases a7<;>cases aM<;>cases b9<;>cases oB<;>cases wj<;>cases G7<;>cases G6<;>rfl
theorem UR(a):f293 a=some ((ky a.1.1,()),()):=by
 obtain⟨⟨n,u⟩,bS⟩:=a;simp only[f293,ky,ge_iff_le];generalize decide ((97:Int)<=n)=a7;generalize decide (n<=(122:Int))=aM;generalize decide ((48:Int)<=n)=b9;generalize decide (n<=(57:Int))=oB;generalize(n==(46:Int))=wj;generalize(n==(95:Int))=G7;generalize(n==(45:Int))=G6;cases a7<;>cases aM<;>cases b9<;>cases oB<;>cases wj<;>cases G7<;>cases G6<;>rfl
def kL(s:E):Bool:=s.all (fun b=>ky b.toNat)&&within s.length 1 10&&!(s==[46])&&!(s==[46,46])
theorem XE(a)(H:cM a.1.1.length):f285 a=some ((kL a.1.1,()),()):=by
 obtain⟨⟨s,u⟩,bS⟩:=a;have H:s.length<=2097152:=H;have key:C7 ((s,((0:Int),())),())=some (bif allI (fun _ b=>ky b.toNat) 0 s then .inr ((s,()),()) else .inl ((false,()),())):=by
  refine ig x8 s (fun i=>((s,((i:Int),())),())) _ _ _ (fun i x hx=>?_) ?_
  ·have am:=dh hx;have hw:aW i:=by unfold aW;omega
   simp only[x8,c_ am,cond_true,cF,hx,Option.bind_some,IG,c2 hw];cases ky x.toNat<;>rfl
  ·simp only[x8,eT,cond_false]
 rw[ij] at key;simp only[f285,key,Option.bind_some,kL];cases List.all s (fun b=>ky b.toNat) with
 |false=>rfl
 |true=>
  simp only[cond_true,rG,Option.bind_some,Bool.true_and];cases within (s.length:Int) 1 10<;>cases (s==[46])<;>rfl
theorem XC(a)(H:cM a.1.1.length):f228 a=some ((kL a.1.1,()),()):=by
 obtain⟨⟨s,u⟩,bS⟩:=a;have H:s.length<=2097152:=H;have key:C9 ((s,((s.length:Int),((0:Int),()))),())=some (bif allI (fun _ b=>ky b.toNat) 0 s then .inr ((s,()),()) else .inl ((false,()),())):=by
  refine ig x9 s (fun i=>((s,((s.length:Int),((i:Int),()))),())) _ _ _ (fun i x hx=>?_) ?_
  ·have am:=dh hx;have hw:aW i:=by unfold aW;omega
   simp only[x9,c_ am,cond_true,cF,hx,Option.bind_some,UR,c2 hw];cases ky x.toNat<;>rfl
  ·simp only[x9,eT,cond_false]
 rw[ij] at key;have qE:f267 ((s,()),())=some ((List.all s (fun b=>ky b.toNat)&&!(s==([]:E)),()),()):=by
  simp only[f267,key,Option.bind_some];cases List.all s (fun b=>ky b.toNat)<;>rfl
 have h1:decide ((1:Int)<=(s.length:Int))=!(s==([]:E)):=by
  cases s with
  |nil=>rfl
  |cons b r=>
   have:((b::r)==([]:E))=false:=rfl;simp only[List.length_cons];rw[this];simp only[Bool.not_false,decide_eq_true_eq];omega
 simp only[f228,qE,Option.bind_some,kL,within,h1];cases decide ((s.length:Int)<=10)<;>cases (s==[46])<;>cases (s==[46,46])<;>cases List.all s (fun b=>ky b.toNat)<;>cases (s==([]:E))<;>rfl
def ji(s:E):Bool:=(cn 47 s).all kL&&decide ((cn 47 s).length<=5)
theorem BT(a)(H:cM a.1.1.length):f252 a=some ((ji a.1.1,()),()):=by
 obtain⟨⟨s,u⟩,bS⟩:=a;have H:s.length<=2097152:=H;have hlen:=pI 47 s;have jL:f89 ((s,((47:Int),((IntKind.i64.wrap ((s.length:Int)+(1:Int))),()))),())=some (((),()),(cn 47 s,())):=
  tL 47 _ H rfl (c2 (by unfold aW;omega))
 have key:Da (((),((0:Int),())),(cn 47 s,()))=some (bif allI (fun _ x=>kL x) 0 (cn 47 s) then .inr (((),()),(cn 47 s,())) else .inl ((false,()),())):=by
  refine ig x' (cn 47 s) (fun i=>(((),((i:Int),())),(cn 47 s,()))) _ _ _ (fun i x hx=>?_) ?_
  ·have am:=dh hx;have hw:aW i:=by unfold aW;omega
   have pf:x.length<=s.length:=pH 47 s x (List.mem_of_getElem? hx);simp only[x',c_ am,cond_true,lc am,hx,Option.bind_some];rw[XE _ (show x.length<=2097152 by omega)]
   simp only[Option.bind_some,c2 hw];cases kL x<;>rfl
  ·simp only[x',eT,cond_false]
 rw[ij] at key;simp only[f252,jL,Option.bind_some,key,ji];cases List.all (cn 47 s) kL with
 |false=>rfl
 |true=>have:=zM (cn 47 s).length 5;simp only[cond_true,Bool.true_and];rw[<-this];rfl
theorem BV(a)(H:cM a.1.1.length):f193 a=some (((),()),((ji a.1.1,()),())):=by
 obtain⟨⟨s,u⟩,bS⟩:=a;have H:s.length<=2097152:=H;have Fc:Nat.ble s.length kC=true:=Nat.ble_eq_true_of_le (by unfold kC;omega)
 have fold:∀(r:List E) (k:Nat),(∀x,x∈r->x.length<=s.length)->k<=5->
   is rz tU r (((),((),())),((false,()),(((k:Int),()),())))=
    some (bif r.all kL&&decide (k+r.length<=5) then(.inl (((),()),((false,()),()))) else(.inr (((),()),((false,()),())))):=by
  intro r;induction r with
  |nil=>
   intro k _ ak;have:decide (k+0<=5)=true:=by simpa using ak
   simp only[is,tU,List.all_nil,List.length_nil,this,Bool.and_self,cond_true]
  |cons x r ih=>
   intro k hr ak;have hx:=hr x List.mem_cons_self;have i_:=XC ((x,()),()) (show x.length<=2097152 by omega)
   have hw:=c2 (i:=k) (by unfold aW;omega)
   have vB:decide (((k+1:Nat):Int)>5)=!decide (k+1<=5):=by by_cases h:k+1<=5<;>simp only[h,decide_true,decide_false,Bool.not_true,Bool.not_false,decide_eq_true_eq,decide_eq_false_iff_not]<;>omega
   have step:rz x (((),((),())),((false,()),(((k:Int),()),())))=
     some (bif kL x&&decide (k+1<=5) then .inl (((),((),())),((false,()),((((k+1:Nat):Int),()),()))) else .inr (.inr (((),()),((false,()),())))):=by
    simp only[rz,Cj,hw,vB,Bool.not_not,i_,Option.bind_some];cases decide (k+1<=5) with
    |false=>cases kL x<;>rfl
    |true=>cases kL x<;>rfl
   rw[is,step,List.all_cons];cases hn:kL x with
   |false=>rfl
   |true=>
    simp only[Bool.true_and];cases aA:decide (k+1<=5) with
    |false=>
     have:decide (k+(x::r).length<=5)=false:=by simp only[decide_eq_false_iff_not,List.length_cons] at aA ⊢;omega
     rw[this];simp
    |true=>
     simp only[cond_true];rw[ih (k+1) (fun y an=>hr y (List.mem_cons_of_mem _ an)) (by simpa using aA)]
     have e1:k+1+r.length=k+(x::r).length:=by simp only[List.length_cons];omega
     rw[e1]
 have key:=fold (cn (47:UInt8) s) 0 (fun x hx=>pH 47 s x hx) (Nat.zero_le _)
 have EY:is rz tU (cn (47:UInt8) s) (((),((),())),((false,()),(((0:Int),()),())))=some (bif ji s then(.inl (((),()),((false,()),()))) else(.inr (((),()),((false,()),())))):=by
  refine key.trans ?_
  unfold ji;rw[Nat.zero_add]
 simp only[f193,Fc,cond_true,EY,Option.bind_some];cases ji s<;>rfl
def ub(s:E):Bool:=s.all (fun b=>(b.toNat:Int)==10||within b.toNat 32 126)&&decide (s.length<=80)
theorem V5(b:UInt8):IntKind.i64.wrap (b.toNat:Int)=(b.toNat:Int):=by
 have:=b.toNat_lt;rw[eh (by omega) (by omega)]
theorem XD(a)(H:cM a.1.1.length):f253 a=some ((ub a.1.1,()),()):=by
 obtain⟨⟨s,u⟩,bS⟩:=a;have H:s.length<=2097152:=H;have key:C' ((s,((0:Int),())),())=some (bif allI (fun _ b=>(b.toNat:Int)==10||within b.toNat 32 126) 0 s then .inr ((s,()),()) else .inl ((false,()),())):=by
  refine ig x_ s (fun i=>((s,((i:Int),())),())) _ _ _ (fun i x hx=>?_) ?_
  ·have am:=dh hx;have hw:aW i:=by unfold aW;omega
   have cE:((x.toNat:Int) !=10)=!((x.toNat:Int)==10):=rfl;simp only[x_,c_ am,cond_true,Ch,cF,hx,Option.bind_some,cE,rG,V5];cases ((x.toNat:Int)==10)<;>cases within (x.toNat:Int) 32 126<;>simp only[Bool.not_true,Bool.not_false,cond_true,cond_false,Option.bind_some,c2 hw,Bool.or_true,Bool.true_or,Bool.or_false]
  ·simp only[x_,eT,cond_false]
 rw[ij] at key;simp only[f253,key,Option.bind_some,ub];cases List.all s (fun b=>(b.toNat:Int)==10||within b.toNat 32 126) with
 |false=>rfl
 |true=>have:=zM s.length 80;simp only[cond_true,Bool.true_and];rw[<-this];rfl
theorem T9(a):f229 a=some ((within a.1.1 32 126,()),()):=by
 simp only[f229,within,ge_iff_le];cases decide ((32:Int)<=a.1.1)<;>rfl
theorem UW(a)(H:cM a.1.1.length):f194 a=some ((ub a.1.1,()),()):=by
 obtain⟨⟨s,u⟩,bS⟩:=a;have H:s.length<=2097152:=H;have key:De ((s,((s.length:Int),((0:Int),()))),())=some (bif allI (fun _ b=>(b.toNat:Int)==10||within b.toNat 32 126) 0 s then .inr ((),()) else .inl ((false,()),())):=by
  refine ig yc s (fun i=>((s,((s.length:Int),((i:Int),()))),())) _ _ _ (fun i x hx=>?_) ?_
  ·have am:=dh hx;have hw:aW i:=by unfold aW;omega
   have cE:((x.toNat:Int) !=10)=!((x.toNat:Int)==10):=rfl;simp only[yc,c_ am,cond_true,BL,cF,hx,Option.bind_some,cE,T9];cases ((x.toNat:Int)==10)<;>cases within (x.toNat:Int) 32 126<;>simp only[Bool.not_true,Bool.not_false,cond_true,cond_false,Option.bind_some,c2 hw,Bool.or_true,Bool.true_or,Bool.or_false]
  ·simp only[yc,eT,cond_false]
 rw[ij] at key;have ahi:decide ((s.length:Int)>80)=!decide (s.length<=80):=by by_cases h:s.length<=80<;>simp only[h,decide_true,decide_false,Bool.not_true,Bool.not_false,decide_eq_true_eq,decide_eq_false_iff_not]<;>omega
 simp only[f194,key,Option.bind_some,ub,ahi];cases decide (s.length<=80)<;>cases List.all s (fun b=>(b.toNat:Int)==10||within b.toNat 32 126)<;>rfl
def nT(e:bu):Bool:=ji e.path&&(bif e.kind==1 then within e.mode 0 7&&e.text==[] else bif e.kind==2 then within e.mode 0 7&&ub e.text else bif e.kind==3 then e.mode==0&&ji e.text else false)
abbrev aie(e:bu):Prop:=cM e.path.length/\cM e.text.length
theorem IF(a)(h1:cM a.1.1.1.length)(h2:cM a.1.1.2.2.2.1.length):f210 a=some ((nT ⟨a.1.1.1,a.1.1.2.1,a.1.1.2.2.1,a.1.1.2.2.2.1⟩,()),()):=by
 obtain⟨⟨⟨p,k,m,t,u⟩,bS⟩,sI⟩:=a;have e1:=BT ((p,()),()) h1;have e2:=BT ((t,()),()) h2;have ce:=XD ((t,()),()) h2;simp only[f210,e1,e2,ce,rG,Option.bind_some,nT];cases ji p with
 |false=>rfl
 |true=>cases (k==1)<;>cases (k==2)<;>cases (k==3)<;>cases within m 0 7<;>cases (m==0)<;>rfl
theorem Wi(a)(h1:cM a.1.1.1.length)(h2:cM a.1.1.2.2.2.1.length):f136 a=some ((nT ⟨a.1.1.1,a.1.1.2.1,a.1.1.2.2.1,a.1.1.2.2.2.1⟩,()),()):=by
 obtain⟨⟨⟨p,k,m,t,u⟩,bS⟩,sI⟩:=a;have e1:=BV ((p,()),()) h1;have e2:=BV ((t,()),()) h2;have ce:=UW ((t,()),()) h2;have hm:within m 0 7=true\/(m==0)=false:=by
  cases h:(m==0) with
  |false=>exact .inr rfl
  |true=>left;rw[show m=(0:Int) from eq_of_beq h];rfl
 simp only[f136,Du,e1,e2,ce,Option.bind_some,nT,pw,px,Bool.not_not];unfold within at hm ⊢;cases ji p with
 |false=>rfl
 |true=>
  cases a8:decide ((0:Int)<=m)<;>cases lP:decide (m<=7)<;>rw[a8,lP] at hm<;>cases RU:(m==0)<;>rw[RU] at hm<;>
   first|(simp at hm;done)|(simp only[Bool.not_true,Bool.not_false,cond_true,cond_false,Option.bind_some,RU,e2,ce,Bool.and_true,Bool.and_false,Bool.true_and,Bool.false_and];cases (k==1)<;>cases (k==2)<;>cases (k==3)<;>rfl)
abbrev i175:Shape:=⟨[aQ 0],[],6⟩
abbrev OQ:Shape:=⟨[aV 2],[],6⟩
noncomputable def f175(a:i175.G):Option OQ.G:=
 some (((!(a.1.1==a.1.1)),()),())
noncomputable def Qf:bg:=bq aH Tryz.f175 i175 OQ [] f175
theorem z175:bc ah 175 Qf:=bB g0 Tryz.func175 (by kernel_rfl) aE (fun y=>by kernel_rfl) fun a=>by kernel_rfl
noncomputable abbrev aeU:bZ:=[(175,Qf)]
theorem afg:bz ah (bX aH aeU):=bV ⟨z175,⟨⟩⟩
abbrev i110:Shape:=⟨[aQ 0,aQ 1],[],20⟩
abbrev O_:Shape:=⟨[ar 4],[],20⟩
noncomputable def f110(a:i110.G):Option O_.G:=
(f175 ((a.1.1,()),())).bind fun b=>
(f175 ((a.1.2.1,()),())).bind fun c=>
 bif b.1.1 then
 bif c.1.1 then
 some (((0:Int),()),())
else
 some ((((-1):Int),()),())
else
 bif c.1.1 then
 some (((1:Int),()),())
else
 bif(Op.bytesLess a.1.1 a.1.2.1) then
 some ((((-1):Int),()),())
else
 bif(!(Op.bytesLess a.1.1 a.1.2.1||a.1.1==a.1.2.1)) then
 some (((1:Int),()),())
else
 some (((0:Int),()),())
noncomputable def Qr:bg:=bq aH Tryz.f110 i110 O_ [] f110
theorem acY:bc ah 110 Qr:=bB afg Tryz.func110 (by kernel_rfl) aE (fun y=>by kernel_rfl) fun a=>by kernel_rfl
noncomputable abbrev aeK:bZ:=[(110,Qr)]
theorem afc:bz ah (bX aH aeK):=bV ⟨acY,⟨⟩⟩
abbrev i139:Shape:=⟨[hE 0 [bW,bQ,bQ,bW],hE 1 [bW,bQ,bQ,bW]],[],10⟩
abbrev OY:Shape:=⟨[ar 4],[],10⟩
noncomputable def f139(a:i139.G):Option OY.G:=
(f110 ((a.1.1.1,a.1.2.1.1,()),())).bind fun b=>
 some ((b.1.1,()),())
noncomputable def Qj:bg:=bq aH Tryz.f139 i139 OY [] f139
theorem z139:bc ah 139 Qj:=bB afc Tryz.func139 (by kernel_rfl) aE (fun y=>by kernel_rfl) fun a=>by kernel_rfl
noncomputable abbrev aa4:bZ:=[(139,Qj)]
theorem Ng:bz ah (bX aH aa4):=bV ⟨z139,⟨⟩⟩
abbrev wN:Shape:=⟨[aX 0 .entry,(2,.aq (.fn 139 [])),bx 4 4 0,ar 6,aV 7,ar 8,ar 9,ar 10],[bI 4 [bW,bQ,bQ,bW]],49⟩
abbrev Bx:List bh:=[(.exit 0,⟨[aX 0 .entry,(2,.aq (.fn 139 [])),bx 4 4 0,ar 6,aV 7,ar 8,ar 9],[bI 4 [bW,bQ,bQ,bW]],49⟩)]
noncomputable def wX(y:wN.G):cJ wN Bx:=
 bif(decide (y.1.2.2.2.2.2.2.1<y.1.2.2.2.2.2.2.2.1)) then
(qf .u64 (IntKind.u64.wrap (IntKind.i64.wrap (y.1.2.2.2.2.2.2.1+y.1.2.2.2.2.2.2.2.1))) (1:Int)).bind fun a=>
(bd y.1.1 (IntKind.i64.wrap a)).bind fun b=>
(f139 (((b.path,b.kind,b.mode,b.text,()),(y.2.1.1,y.2.1.2.1,y.2.1.2.2.1,y.2.1.2.2.2.1,()),()),())).bind fun c=>
 bif(decide (c.1.1<(0:Int))) then
 some (.inl ((y.1.1,(),(),y.1.2.2.2.1,y.1.2.2.2.2.1,y.1.2.2.2.2.2.1,(IntKind.i64.wrap ((IntKind.i64.wrap a)+(1:Int))),y.1.2.2.2.2.2.2.2.1,()),(y.2.1.1,y.2.1.2.1,y.2.1.2.2.1,y.2.1.2.2.2.1,()),()))
else
 some (.inl ((y.1.1,(),(),y.1.2.2.2.1,y.1.2.2.2.2.1,y.1.2.2.2.2.2.1,y.1.2.2.2.2.2.2.1,(IntKind.i64.wrap a),()),(y.2.1.1,y.2.1.2.1,y.2.1.2.2.1,y.2.1.2.2.2.1,()),()))
else
 some (.inr ((y.1.1,(),(),y.1.2.2.2.1,y.1.2.2.2.2.1,y.1.2.2.2.2.2.1,y.1.2.2.2.2.2.2.1,()),(y.2.1.1,y.2.1.2.1,y.2.1.2.2.1,y.2.1.2.2.2.1,()),()))
noncomputable def wU:wN.G->Option (a_ Bx):=b8 wX
theorem WV:bo ah (aO (codeOf Tryz.f138) 1 60) (bE wN Bx wU):=cQ Ng (by kernel_rfl) aE fun y=>by kernel_rfl
abbrev MP:Shape:=⟨[aX 0 .entry,hE 1 [bW,bQ,bQ,bW],(2,.aq (.fn 139 []))],[],49⟩
abbrev Mn:Shape:=⟨[ar 6,aV 7],[],49⟩
noncomputable def y8(a:MP.G):Option Mn.G:=
(wU ((a.1.1,(),(),(0:Int),false,(a.1.1.length:Int),(0:Int),(a.1.1.length:Int),()),(a.1.2.1.1,a.1.2.1.2.1,a.1.2.1.2.2.1,a.1.2.1.2.2.2.1,()),())).bind fun b=>
 bif(decide (b.1.2.2.2.2.2.2.1<b.1.2.2.2.2.2.1)) then
(bd b.1.1 b.1.2.2.2.2.2.2.1).bind fun c=>
(f139 (((c.path,c.kind,c.mode,c.text,()),(b.2.1.1,b.2.1.2.1,b.2.1.2.2.1,b.2.1.2.2.2.1,()),()),())).bind fun d=>
 some ((b.1.2.2.2.2.2.2.1,(d.1.1==(0:Int)),()),())
else
 some ((b.1.2.2.2.2.2.2.1,false,()),())
noncomputable def Na:bg:=bq aH Tryz.f138 MP Mn [] y8
theorem _V:bc ah 138 Na:=bB Ng Tryz.func138 (by kernel_rfl) (bJ WV aE) (fun y=>by kernel_rfl) fun a=>by kernel_rfl
abbrev xV:Shape:=⟨[aX 0 .entry,aQ 1,ar 4,aV 5,ar 6],[],36⟩
abbrev rq:List bh:=[(.exit 0,⟨[aX 0 .entry,aQ 1,ar 4,aV 5,ar 6],[],36⟩)]
noncomputable def yh(y:xV.G):cJ xV rq:=
 bif(decide (y.1.2.2.2.2.1<(y.1.1.length:Int))) then
(bd y.1.1 y.1.2.2.2.2.1).bind fun a=>
 bif(Op.bytesLess a.path y.1.2.1) then
 some (.inl ((y.1.1,y.1.2.1,y.1.2.2.1,y.1.2.2.2.1,(IntKind.i64.wrap (y.1.2.2.2.2.1+(1:Int))),()),()))
else
 some (.inr ((y.1.1,y.1.2.1,y.1.2.2.1,y.1.2.2.2.1,y.1.2.2.2.2.1,()),()))
else
 some (.inr ((y.1.1,y.1.2.1,y.1.2.2.1,y.1.2.2.2.1,y.1.2.2.2.2.1,()),()))
noncomputable def Dj:xV.G->Option (a_ rq):=b8 yh
theorem ZW:bo ah (aO (codeOf Tryz.f157) 1 28) (bE xV rq Dj):=cQ g0 (by kernel_rfl) aE fun y=>by kernel_rfl
abbrev i157:Shape:=⟨[aX 0 .entry,aQ 1],[],36⟩
abbrev OV:Shape:=⟨[ar 4,aV 5],[],36⟩
noncomputable def f157(a:i157.G):Option OV.G:=
(Dj ((a.1.1,a.1.2.1,(0:Int),false,(0:Int),()),())).bind fun b=>
 bif(decide (b.1.2.2.2.2.1<(b.1.1.length:Int))) then
(bd b.1.1 b.1.2.2.2.2.1).bind fun c=>
 some ((b.1.2.2.2.2.1,(c.path==b.1.2.1),()),())
else
 some ((b.1.2.2.2.2.1,false,()),())
noncomputable def z1:bg:=bq aH Tryz.f157 i157 OV [] f157
theorem z157:bc ah 157 z1:=bB g0 Tryz.func157 (by kernel_rfl) (bJ ZW aE) (fun y=>by kernel_rfl) fun a=>by kernel_rfl
abbrev xB:Shape:=⟨[aQ 0,(1,.aq (.d (.int .u8))),ar 5],[],19⟩
abbrev CB:List bh:=[(.ret,⟨[ar 4],[],19⟩),(.exit 0,⟨[],[],19⟩)]
noncomputable def Do(y:xB.G):cJ xB CB:=
 bif(decide (y.1.2.2.1>=(0:Int))) then
(bd y.1.1 y.1.2.2.1).bind fun a=>
 bif((a.toNat:Int)==y.1.2.1) then
 some (.inr (.inl ((y.1.2.2.1,()),())))
else
 some (.inl ((y.1.1,y.1.2.1,(IntKind.i64.wrap (y.1.2.2.1-(1:Int))),()),()))
else
 some (.inr (.inr ((),())))
noncomputable def C8:xB.G->Option (a_ CB):=b8 Do
theorem ZB:bo ah (aO (codeOf Tryz.f268) 1 26) (bE xB CB C8):=cQ g0 (by kernel_rfl) aE fun y=>by kernel_rfl
abbrev i268:Shape:=⟨[aQ 0,(1,.aq (.d (.int .u8)))],[],19⟩
abbrev Ol:Shape:=⟨[ar 4],[],19⟩
noncomputable def f268(a:i268.G):Option Ol.G:=
(C8 ((a.1.1,a.1.2.1,(IntKind.i64.wrap ((a.1.1.length:Int)-(1:Int))),()),())).bind fun b=>
(match b with
|.inl c=>
 some ((c.1.1,()),())
|.inr d=>
 some ((((-1):Int),()),()))
noncomputable def PU:bg:=bq aH Tryz.f268 i268 Ol [] f268
theorem acw:bc ah 268 PU:=bB g0 Tryz.func268 (by kernel_rfl) (bJ ZB aE) (fun y=>by kernel_rfl) fun a=>by kernel_rfl
noncomputable abbrev aer:bZ:=[(268,PU)]
theorem ae2:bz ah (bX aH aer):=bV ⟨acw,⟨⟩⟩
abbrev i230:Shape:=⟨[aQ 0,(1,.aq (.d (.int .u8)))],[],8⟩
abbrev OA:Shape:=⟨[ar 4],[],8⟩
noncomputable def f230(a:i230.G):Option OA.G:=
(f268 ((a.1.1,a.1.2.1,()),())).bind fun b=>
 some ((b.1.1,()),())
noncomputable def P3:bg:=bq aH Tryz.f230 i230 OA [] f230
theorem acE:bc ah 230 P3:=bB ae2 Tryz.func230 (by kernel_rfl) aE (fun y=>by kernel_rfl) fun a=>by kernel_rfl
noncomputable abbrev aey:bZ:=[(193,Fx),(230,P3)]
theorem ae7:bz ah (bX aH aey):=bV ⟨z193,acE,⟨⟩⟩
abbrev i195:Shape:=⟨[aQ 0],[],11⟩
abbrev OJ:Shape:=⟨[aQ 2],[],11⟩
noncomputable def f195(a:i195.G):Option OJ.G:=
(f193 ((a.1.1,()),())).bind fun b=>
 bif(!b.2.1.1) then
 some ((([]:E),()),())
else
(f230 ((a.1.1,(47:Int),()),())).bind fun c=>
(cB a.1.1 (0:Int) (hp c.1.1 (0:Int))).bind fun d=>
 some ((d,()),())
noncomputable def P_:bg:=bq aH Tryz.f195 i195 OJ [] f195
theorem acJ:bc ah 195 P_:=bB ae7 Tryz.func195 (by kernel_rfl) aE (fun y=>by kernel_rfl) fun a=>by kernel_rfl
noncomputable abbrev aew:bZ:=[(157,z1)]
theorem ae5:bz ah (bX aH aew):=bV ⟨z157,⟨⟩⟩
abbrev i211:Shape:=⟨[aX 0 .entry,aQ 1],[],26⟩
abbrev OH:Shape:=⟨[aV 4],[],26⟩
noncomputable def f211(a:i211.G):Option OH.G:=
(f157 ((a.1.1,a.1.2.1,()),())).bind fun b=>
 bif(!(a.1.2.1==([]:E))) then
 bif b.1.2.1 then
(bd a.1.1 b.1.1).bind fun c=>
 some (((c.kind==(1:Int)),()),())
else
 some ((false,()),())
else
 some ((true,()),())
noncomputable def Fv:bg:=bq aH Tryz.f211 i211 OH [] f211
theorem N2:bc ah 211 Fv:=bB ae5 Tryz.func211 (by kernel_rfl) aE (fun y=>by kernel_rfl) fun a=>by kernel_rfl
abbrev xM:Shape:=⟨[aQ 0,ar 3],[],18⟩
abbrev CL:List bh:=[(.ret,⟨[aQ 2],[],18⟩),(.exit 0,⟨[],[],18⟩)]
noncomputable def Ds(y:xM.G):cJ xM CL:=
 bif(decide (y.1.2.1>=(0:Int))) then
(bd y.1.1 y.1.2.1).bind fun a=>
 bif((a.toNat:Int)==(47:Int)) then
(cB y.1.1 (0:Int) y.1.2.1).bind fun b=>
 some (.inr (.inl ((b,()),())))
else
 some (.inl ((y.1.1,(IntKind.i64.wrap (y.1.2.1-(1:Int))),()),()))
else
 some (.inr (.inr ((),())))
noncomputable def Dd:xM.G->Option (a_ CL):=b8 Ds
theorem ZN:bo ah (aO (codeOf Tryz.f212) 1 26) (bE xM CL Dd):=cQ g0 (by kernel_rfl) aE fun y=>by kernel_rfl
abbrev i212:Shape:=⟨[aQ 0],[],18⟩
abbrev OG:Shape:=⟨[aQ 2],[],18⟩
noncomputable def f212(a:i212.G):Option OG.G:=
(Dd ((a.1.1,(IntKind.i64.wrap ((a.1.1.length:Int)-(1:Int))),()),())).bind fun b=>
(match b with
|.inl c=>
 some ((c.1.1,()),())
|.inr d=>
 some ((([]:E),()),()))
noncomputable def Fu:bg:=bq aH Tryz.f212 i212 OG [] f212
theorem z212:bc ah 212 Fu:=bB g0 Tryz.func212 (by kernel_rfl) (bJ ZN aE) (fun y=>by kernel_rfl) fun a=>by kernel_rfl
noncomputable abbrev ahT:bZ:=[(138,Na)]
theorem ah9:bz ah (bX aH ahT):=bV ⟨_V,⟨⟩⟩
abbrev i87:Shape:=⟨[aX 0 .entry,aQ 1],[],12⟩
abbrev Q1:Shape:=⟨[ar 4,aV 5],[],12⟩
noncomputable def f87(a:i87.G):Option Q1.G:=
(y8 ((a.1.1,(a.1.2.1,(0:Int),(0:Int),([]:E),()),(),()),())).bind fun b=>
 some ((b.1.1,b.1.2.1,()),())
noncomputable def R8:bg:=bq aH Tryz.f87 i87 Q1 [] f87
theorem z87:bc ah 87 R8:=bB ah9 Tryz.func87 (by kernel_rfl) aE (fun y=>by kernel_rfl) fun a=>by kernel_rfl
theorem rX:∀a:E,Op.bytesLess a a=false:=by
 intro a;induction a with
 |nil=>rfl
 |cons b r ih=>simp[Op.bytesLess,ih]
theorem tK:∀a b c:E,Op.bytesLess a b=true->Op.bytesLess b c=true->Op.bytesLess a c=true:=by
 intro a;induction a with
 |nil=>intro b c h1 h2;cases c with
  |nil=>cases b<;>simp[Op.bytesLess] at h2
  |cons z c=>rfl
 |cons x a ih=>
  intro b c h1 h2;cases b with
  |nil=>simp[Op.bytesLess] at h1
  |cons y b=>
   cases c with
   |nil=>simp[Op.bytesLess] at h2
   |cons z c=>
    simp only[Op.bytesLess,Bool.or_eq_true,decide_eq_true_eq,Bool.and_eq_true,beq_iff_eq] at h1 h2 ⊢;rcases h1 with h1|⟨rfl,h1⟩
    ·rcases h2 with h2|⟨rfl,h2⟩
     ·exact .inl (UInt8.lt_trans h1 h2)
     ·exact .inl h1
    ·rcases h2 with h2|⟨rfl,h2⟩
     ·exact .inl h2
     ·exact .inr ⟨rfl,ih b c h1 h2⟩
theorem M4:∀a b:E,Op.bytesLess a b=false->(a==b)=false->Op.bytesLess b a=true:=by
 intro a;induction a with
 |nil=>intro b h1 h2;cases b with
  |nil=>simp at h2
  |cons y b=>simp[Op.bytesLess] at h1
 |cons x a ih=>
  intro b h1 h2;cases b with
  |nil=>rfl
  |cons y b=>
   simp only[Op.bytesLess,Bool.or_eq_false_iff,decide_eq_false_iff_not,Bool.and_eq_false_iff,beq_eq_false_iff_ne,ne_eq] at h1;simp only[Op.bytesLess,Bool.or_eq_true,decide_eq_true_eq,Bool.and_eq_true,beq_iff_eq];by_cases FZ:x=y
   ·subst FZ;refine .inr ⟨rfl,ih b ?_ ?_⟩
    ·rcases h1.2 with h|h
     ·exact absurd rfl h
     ·exact h
    ·cases h:(a==b) with
     |false=>rfl
     |true=>rw[eq_of_beq h] at h2;simp at h2
   ·exact .inl (by
     have:=h1.1;rcases UInt8.lt_or_lt_of_ne (fun h=>FZ h) with h|h
     ·exact absurd h this
     ·exact h)
theorem _I{a b:E}(h:Op.bytesLess a b=true):Op.bytesLess b a=false:=by
 cases h2:Op.bytesLess b a with
 |false=>rfl
 |true=>have:=tK a b a h h2;rw[rX] at this;cases this
theorem ace{a b:E}(h:Op.bytesLess a b=true):(a==b)=false:=by
 cases h2:(a==b) with
 |false=>rfl
 |true=>rw[eq_of_beq h2,rX] at h;cases h
theorem _H:∀(s:E) (i:Nat),i<s.length->Op.bytesLess (s.take i) s=true:=by
 intro s;induction s with
 |nil=>intro i h;simp at h
 |cons b r ih=>
  intro i h;cases i with
  |zero=>rfl
  |succ i=>simp only[List.take_succ_cons,Op.bytesLess];simp[ih i (by simpa using h)]
def k8(c:UInt8)(s:E):Nat->Option Nat
 |0=>none
 |n+1=>match s[n]? with
  |some b=>bif(b.toNat:Int)==(c.toNat:Int) then some n else k8 c s n
  |none=>none
theorem Hy{c:UInt8}{s:E}:∀{n i:Nat},k8 c s n=some i->i<n/\i<s.length:=by
 intro n;induction n with
 |zero=>intro i h;cases h
 |succ n ih=>
  intro i h;simp only[k8] at h;split at h
  ·rename_i b hb;cases hc:((b.toNat:Int)==(c.toNat:Int)) with
   |true=>rw[hc] at h;cases h;exact⟨Nat.lt_succ_self _,dh hb⟩
   |false=>rw[hc] at h;have:=ih h;omega
  ·cases h
def iW(s:E):E:=match k8 47 s s.length with
 |some i=>s.take i
 |none=>[]
theorem XN{s:E}(h:(iW s==[])=false):Op.bytesLess (iW s) s=true:=by
 unfold iW at h ⊢;split
 ·rename_i i am;exact _H s i (Hy am).2
 ·rename_i am;rw[am] at h;cases h
theorem LV(a)(H:cM a.1.1.length):f212 a=some ((iW a.1.1,()),()):=by
 obtain⟨⟨s,u⟩,bS⟩:=a;have H:s.length<=2097152:=H;have key:∀n,n<=s.length->Dd ((s,((n:Int)-1,())),())=some (match k8 47 s n with|some i=>.inl ((s.take i,()),())|none=>.inr ((),())):=by
  intro n;induction n with
  |zero=>intro _;exact eU (by rfl)
  |succ n ih=>
   intro hn;have e:((n+1:Nat):Int)-1=(n:Int):=by omega
   obtain⟨b,hb⟩:∃b,s[n]? =some b:=⟨s[n],List.getElem?_eq_getElem hn⟩;have a8:decide ((n:Int)>=0)=true:=by simp
   rw[e];simp only[k8,hb];cases hc:((b.toNat:Int)==((47:UInt8).toNat:Int)) with
   |true=>
    refine eU ?_
    simp only[Ds,a8,cond_true,cF,hb,Option.bind_some];rw[show((b.toNat:Int)==47)=true from hc,oJ (by omega)]
    rfl
   |false=>
    refine(hj ?_).trans (ih (by omega))
    simp only[Ds,a8,cond_true,cF,hb,Option.bind_some];rw[show((b.toNat:Int)==47)=false from hc,eh (by omega) (by omega)]
    rfl
 have hw:IntKind.i64.wrap ((s.length:Int)-1)=(s.length:Int)-1:=eh (by omega) (by omega)
 simp only[f212,hw,key s.length (Nat.le_refl _),Option.bind_some,iW];cases k8 47 s s.length<;>rfl
theorem Ua(a)(H:cM a.1.1.length)(ahj:a.1.2.1=47):f268 a=some (((match k8 47 a.1.1 a.1.1.length with|some i=>(i:Int)|none=>-1),()),()):=by
 obtain⟨⟨s,c,u⟩,bS⟩:=a;obtain rfl:c=47:=ahj;have H:s.length<=2097152:=H;have key:∀n,n<=s.length->C8 ((s,((47:Int),((n:Int)-1,()))),())=some (match k8 47 s n with|some i=>.inl (((i:Int),()),())|none=>.inr ((),())):=by
  intro n;induction n with
  |zero=>intro _;exact eU (by rfl)
  |succ n ih=>
   intro hn;have e:((n+1:Nat):Int)-1=(n:Int):=by omega
   obtain⟨b,hb⟩:∃b,s[n]? =some b:=⟨s[n],List.getElem?_eq_getElem hn⟩;have a8:decide ((n:Int)>=0)=true:=by simp
   rw[e];simp only[k8,hb];cases hc:((b.toNat:Int)==((47:UInt8).toNat:Int)) with
   |true=>
    refine eU ?_
    simp only[Do,a8,cond_true,cF,hb,Option.bind_some];rw[show((b.toNat:Int)==47)=true from hc]
    rfl
   |false=>
    refine(hj ?_).trans (ih (by omega))
    simp only[Do,a8,cond_true,cF,hb,Option.bind_some];rw[show((b.toNat:Int)==47)=false from hc,eh (by omega) (by omega)]
    rfl
 have hw:IntKind.i64.wrap ((s.length:Int)-1)=(s.length:Int)-1:=eh (by omega) (by omega)
 simp only[f268,hw,key s.length (Nat.le_refl _),Option.bind_some];cases k8 47 s s.length<;>rfl
theorem XI(a)(H:cM a.1.1.length):f195 a=some (((bif ji a.1.1 then iW a.1.1 else []),()),()):=by
 obtain⟨⟨s,u⟩,bS⟩:=a;have H:s.length<=2097152:=H;have e1:=BV ((s,()),()) H;have e2:=Ua ((s,((47:Int),())),()) H rfl;simp only[f195,e1,Option.bind_some,f230,e2];cases ji s with
 |false=>rfl
 |true=>
  simp only[Bool.not_true,cond_false,cond_true];unfold iW;cases hl:k8 47 s s.length with
  |none=>
   have:hp (-1) 0=0:=by decide
   simp only[this];have:=oJ (xs:=s) (b:=0) (Nat.zero_le _);have this:cB s 0 0=some (s.take 0):=this;rw[this];rfl
  |some i=>
   have am:=(Hy hl).2;have:hp (i:Int) 0=(i:Int):=by unfold hp;rw[if_neg (by omega)]
   simp only[this];rw[oJ (by omega)];rfl
def cb(t:List bu)(p:E):Nat:=(t.takeWhile fun e=>Op.bytesLess e.path p).length
def jG(t:List bu)(p:E):Bool:=match t[cb t p]? with
 |some e=>e.path==p
 |none=>false
def kF(t:List bu)(p:E):Bool:=p==[]||match t[cb t p]? with
 |some e=>e.path==p&&e.kind==1
 |none=>false
theorem C1(t:List bu)(p:E):cb t p<=t.length:=(List.takeWhile_prefix _).length_le
theorem LU(a)(H:cM a.1.1.length):f157 a=some (((cb a.1.1 a.1.2.1:Int),(jG a.1.1 a.1.2.1,())),()):=by
 obtain⟨⟨t,p,u⟩,bS⟩:=a;have H:t.length<=2097152:=H;have key:Dj ((t,(p,((0:Int),(false,((0:Int),()))))),())=_:=BE yh t (fun i (_:Unit)=>((t,(p,((0:Int),(false,((i:Int),()))))),()))
  (fun i e _=>some (bif Op.bytesLess e.path p then .inl () else .inr ((((t,(p,((0:Int),(false,((i:Int),()))))),())):a_ rq))) (fun _=>((t,(p,((0:Int),(false,((t.length:Int),()))))),())) (fun i e s he=>?_) (fun s=>?_) ()
 ·have fold:∀(r:List bu) (k:Nat),k+r.length=t.length->gA (fun i (e:bu) (_:Unit)=>some (bif Op.bytesLess e.path p then .inl () else .inr ((((t,(p,((0:Int),(false,((i:Int),()))))),())):a_ rq))) (fun _=>(((t,(p,((0:Int),(false,((t.length:Int),()))))),()):a_ rq)) k r ()=
    some ((t,(p,((0:Int),(false,(((k+(r.takeWhile fun e=>Op.bytesLess e.path p).length:Nat):Int),()))))),()):=by
   intro r;induction r with
   |nil=>intro k ak;simp only[gA,List.takeWhile_nil,List.length_nil,Nat.add_zero] at ak ⊢;rw[ak]
   |cons e r ih=>
    intro k ak;simp only[gA,List.takeWhile_cons];cases hl:Op.bytesLess e.path p with
    |false=>rfl
    |true=>
     simp only[cond_true,if_true,List.length_cons];rw[ih (k+1) (by simp only[List.length_cons] at ak;omega)]
     have:k+1+(r.takeWhile fun e=>Op.bytesLess e.path p).length=k+((r.takeWhile fun e=>Op.bytesLess e.path p).length+1):=by omega
     rw[this]
  rw[fold t 0 (Nat.zero_add _),Nat.zero_add] at key;have ak:(t.takeWhile fun e=>Op.bytesLess e.path p).length=cb t p:=rfl
  rw[ak] at key;simp only[f157,key,Option.bind_some,jG,cF];cases aC:t[cb t p]? with
  |none=>
   have:=List.getElem?_eq_none_iff.1 aC;have:decide ((cb t p:Int)<(t.length:Int))=false:=by simp only[decide_eq_false_iff_not];omega
   rw[this];rfl
  |some e=>rw[c_ (dh aC)];rfl
 ·have am:=dh he;have hw:aW i:=by unfold aW;omega
  simp only[yh,c_ am,cond_true,cF,he,Option.bind_some,c2 hw];cases Op.bytesLess e.path p<;>rfl
 ·simp only[yh,eT,cond_false]
theorem KG(a)(H:cM a.1.1.length):f211 a=some ((kF a.1.1 a.1.2.1,()),()):=by
 obtain⟨⟨t,p,u⟩,bS⟩:=a;have e1:=LU ((t,(p,())),()) H;simp only[f211,e1,Option.bind_some,kF,jG,cF];cases (p==[]) with
 |true=>rfl
 |false=>
  cases aC:t[cb t p]? with
  |none=>rfl
  |some e=>simp only[Bool.not_false,cond_true,Option.bind_some,Bool.false_or];cases (e.path==p)<;>rfl
def ia(t:List bu):Prop:=t.Pairwise fun a b=>Op.bytesLess a.path b.path=true
theorem ia.take{t:List bu}(h:ia t)(i:Nat):ia (t.take i):=List.Pairwise.sublist (List.take_sublist i t) h
theorem mL:∀{t:List bu} {p:E},ia t->∀(h:Nat) (e:bu),t[h]? =some e->Op.bytesLess e.path p=decide (h<cb t p):=by
 intro t p;induction t with
 |nil=>intro _ h e he;simp at he
 |cons x t ih=>
  intro bm h e he;have s6:=List.pairwise_cons.1 bm;unfold cb;rw[List.takeWhile_cons];cases hx:Op.bytesLess x.path p with
  |true=>
   simp only[if_true,List.length_cons];cases h with
   |zero=>simp only[List.getElem?_cons_zero,Option.some.injEq] at he;subst he;rw[hx];simp
   |succ h=>
    simp only[List.getElem?_cons_succ] at he;rw[ih s6.2 h e he];unfold cb;congr 1;apply propext;omega
  |false=>
   have:(decide (h<(if false=true then x::t.takeWhile (fun e=>Op.bytesLess e.path p) else []).length))=false:=by simp
   rw[this];cases h with
   |zero=>simp only[List.getElem?_cons_zero,Option.some.injEq] at he;subst he;exact hx
   |succ h=>
    simp only[List.getElem?_cons_succ] at he;have h2:=s6.1 e (List.mem_of_getElem? he);cases aa:Op.bytesLess e.path p with
    |false=>rfl
    |true=>have:=tK _ _ _ h2 aa;rw[hx] at this;cases this
def sE(a b:E):Int:=bif Op.bytesLess a b then-1 else bif a==b then 0 else 1
theorem BU(a):f139 a=some ((sE a.1.1.1 a.1.2.1.1,()),()):=by
 obtain⟨⟨⟨p,AO⟩,⟨⟨q,mB⟩,nq⟩⟩,akw⟩:=a;have h1:(p==p)=true:=by simp
 have h2:(q==q)=true:=by simp
 simp only[f139,f110,f175,Option.bind_some,h1,h2,Bool.not_true,cond_false,sE];cases Op.bytesLess p q<;>cases (p==q)<;>rfl
theorem KA(a b:E):decide (sE a b<0)=Op.bytesLess a b:=by
 unfold sE;cases Op.bytesLess a b<;>cases (a==b)<;>rfl
theorem Xs(a b:E):(sE a b==0)=(a==b):=by
 unfold sE;cases h:Op.bytesLess a b with
 |true=>rw[ace h];rfl
 |false=>cases (a==b)<;>rfl
theorem ac9{n:Nat}(h:n<=1099511627776):qf .u64 (IntKind.u64.wrap (IntKind.i64.wrap (n:Int))) 1=some (((n/2:Nat)):Int):=by
 rw[eh (by omega) (by omega)]
 have:IntKind.u64.wrap (n:Int)=(n:Int):=by
  simp[IntKind.wrap,IntKind.bits,IntKind.signed];omega
 rw[this];unfold qf;rw[if_neg (by decide)]
 congr 1
 show Int.fdiv (n:Int) 2=_;rw[Int.fdiv_eq_ediv_of_nonneg _ (by decide)]
 omega
theorem T'(a)(H:cM a.1.1.length)(bm:ia a.1.1):f87 a=some (((cb a.1.1 a.1.2.1:Int),(jG a.1.1 a.1.2.1,())),()):=by
 obtain⟨⟨t,p,u⟩,bS⟩:=a;have H:t.length<=2097152:=H;have aiF:=C1 t p;have key:∀d i j:Nat,j-i=d->i<=cb t p->cb t p<=j->j<=t.length->
   wU ((t,((),((),((0:Int),(false,((t.length:Int),((i:Int),((j:Int),())))))))),((p,((0:Int),((0:Int),(([]:E),())))),()))=
    some (((t,((),((),((0:Int),(false,((t.length:Int),((cb t p:Int),()))))))),((p,((0:Int),((0:Int),(([]:E),())))),()))):=by
  intro d;induction d using Nat.strongRecOn with
  |_ d ih=>
   intro i j Y am bv hl;by_cases pn:i<j
   ·have b4:(i+j)/2<t.length:=by omega
    obtain⟨e,he⟩:∃e,t[(i+j)/2]? =some e:=⟨t[(i+j)/2],List.getElem?_eq_getElem b4⟩;have Ar:qf .u64 (IntKind.u64.wrap (IntKind.i64.wrap ((i:Int)+(j:Int)))) 1=some ((((i+j)/2:Nat)):Int):=by
     rw[<-ac9 (n:=i+j) (by omega)];rw[Int.natCast_add]
    have Rp:IntKind.i64.wrap (((i+j)/2:Nat):Int)=(((i+j)/2:Nat):Int):=eh (by omega) (by omega)
    have sQ:=mL (t:=t) (p:=p) bm ((i+j)/2) e he;cases hb:Op.bytesLess e.path p with
    |true=>
     rw[hb] at sQ;have bb:(i+j)/2<cb t p:=by simpa using sQ.symm
     refine(hj ?_).trans (ih (j-((i+j)/2+1)) (by omega) ((i+j)/2+1) j rfl (by omega) bv hl)
     simp only[wX,c_ pn,cond_true,Ar,Rp,cF,he,Option.bind_some,BU,KA,hb,c2 (i:=(i+j)/2) (by unfold aW;omega)]
    |false=>
     rw[hb] at sQ;have vF:¬(i+j)/2<cb t p:=by simpa using sQ.symm
     refine(hj ?_).trans (ih ((i+j)/2-i) (by omega) i ((i+j)/2) rfl am (by omega) (by omega))
     simp only[wX,c_ pn,cond_true,Ar,Rp,cF,he,Option.bind_some,BU,KA,hb,cond_false]
   ·have lF:i=cb t p:=by omega
    have bb:decide ((i:Int)<(j:Int))=false:=by simp only[decide_eq_false_iff_not];omega
    refine eU ?_
    simp only[wX,bb,cond_false];rw[lF]
 have nu:wU ((t,((),((),((0:Int),(false,((t.length:Int),((0:Int),((t.length:Int),())))))))),((p,((0:Int),((0:Int),(([]:E),())))),()))=_:=key t.length 0 t.length (Nat.sub_zero _) (Nat.zero_le _) aiF (Nat.le_refl _);have J:y8 ((t,((p,((0:Int),((0:Int),(([]:E),())))),((),()))),())=some (((cb t p:Int),(jG t p,())),()):=by
  simp only[y8,nu,Option.bind_some,jG,cF,BU,Xs];cases aC:t[cb t p]? with
  |none=>
   have:=List.getElem?_eq_none_iff.1 aC;have:decide ((cb t p:Int)<(t.length:Int))=false:=by simp only[decide_eq_false_iff_not];omega
   rw[this];rfl
  |some e=>rw[c_ (dh aC)];rfl
 simp only[f87,J,Option.bind_some]
noncomputable abbrev aeL:bZ:=[(87,R8),(195,P_)]
theorem afd:bz ah (bX aH aeL):=bV ⟨z87,acJ,⟨⟩⟩
abbrev i137:Shape:=⟨[aX 0 .entry,aQ 1],[],27⟩
abbrev OZ:Shape:=⟨[aV 4],[],27⟩
noncomputable def f137(a:i137.G):Option OZ.G:=
(f195 ((a.1.2.1,()),())).bind fun b=>
 bif(b.1.1==([]:E)) then
 some ((true,()),())
else
(f87 ((a.1.1,b.1.1,()),())).bind fun c=>
 bif c.1.2.1 then
(bd a.1.1 c.1.1).bind fun d=>
 some (((d.kind==(1:Int)),()),())
else
 some ((false,()),())
noncomputable def Qk:bg:=bq aH Tryz.f137 i137 OZ [] f137
theorem acR:bc ah 137 Qk:=bB afd Tryz.func137 (by kernel_rfl) aE (fun y=>by kernel_rfl) fun a=>by kernel_rfl
noncomputable abbrev aeI:bZ:=[(210,Fw),(211,Fv),(212,Fu)]
theorem z_:bz ah (bX aH aeI):=bV ⟨z210,N2,z212,⟨⟩⟩
abbrev Kf:Shape:=⟨[aX 0 .entry,ar 3],[],53⟩
abbrev J0:List bh:=[(.norm,⟨[aX 0 .entry,ar 3,aX 11 .entry,ar 12,(13,.aq (.e8 [.str,.int .i64,.int .i64,.str] 0)),hE 14 [bW,bQ,bQ,bW],aV 15,aV 16,aV 17,aV 34],[],53⟩)]
noncomputable def Cl(y:Kf.G):Option (a_ J0):=
(bd y.1.1 y.1.2.1).bind fun a=>
(f210 (((a.path,a.kind,a.mode,a.text,()),()),())).bind fun b=>
 bif(!b.1.1) then
 some ((y.1.1,y.1.2.1,y.1.1,y.1.2.1,(a.path,a.kind,a.mode,a.text,()),(a.path,a.kind,a.mode,a.text,()),b.1.1,(!b.1.1),true,true,()),())
else
 bif(decide (y.1.2.1>(0:Int))) then
(bd y.1.1 (IntKind.i64.wrap (y.1.2.1-(1:Int)))).bind fun c=>
(bd y.1.1 y.1.2.1).bind fun d=>
 some ((y.1.1,y.1.2.1,y.1.1,y.1.2.1,(a.path,a.kind,a.mode,a.text,()),(a.path,a.kind,a.mode,a.text,()),b.1.1,(!b.1.1),false,(!(Op.bytesLess c.path d.path)),()),())
else
 some ((y.1.1,y.1.2.1,y.1.1,y.1.2.1,(a.path,a.kind,a.mode,a.text,()),(a.path,a.kind,a.mode,a.text,()),b.1.1,(!b.1.1),false,false,()),())
theorem Yo:bo ah (aO (dT (aO (codeOf Tryz.f158) 1 26)) 52 840) (bE Kf J0 Cl):=dD z_ (by kernel_rfl) aE fun y=>by kernel_rfl
abbrev xU:Shape:=⟨[aX 0 .entry,ar 3],[],53⟩
abbrev CS:List bh:=[(.ret,⟨[aV 2],[],53⟩),(.exit 0,⟨[aX 0 .entry],[],53⟩)]
noncomputable def yg(y:xU.G):cJ xU CS:=
 bif(decide (y.1.2.1<(y.1.1.length:Int))) then
(Cl ((y.1.1,y.1.2.1,()),())).bind fun a=>
 bif a.1.2.2.2.2.2.2.2.2.2.1 then
 some (.inr (.inl ((false,()),())))
else
 some (.inl ((a.1.1,(IntKind.i64.wrap (a.1.2.1+(1:Int))),()),()))
else
 some (.inr (.inr ((y.1.1,()),())))
noncomputable def Di:xU.G->Option (a_ CS):=b8 yg
theorem ZV:bo ah (aO (codeOf Tryz.f158) 1 26) (bE xU CS Di):=cQ z_ (by kernel_rfl) (bJ Yo aE) fun y=>by kernel_rfl
abbrev xT:Shape:=⟨[aX 0 .entry,ar 4],[],53⟩
abbrev CR:List bh:=[(.ret,⟨[aV 2],[],53⟩),(.exit 2,⟨[aX 0 .entry],[],53⟩)]
noncomputable def yf(y:xT.G):cJ xT CR:=
 bif(decide (y.1.2.1<(y.1.1.length:Int))) then
(bd y.1.1 y.1.2.1).bind fun a=>
(f212 ((a.path,()),())).bind fun b=>
(f211 ((y.1.1,b.1.1,()),())).bind fun c=>
 bif(!c.1.1) then
 some (.inr (.inl ((false,()),())))
else
 some (.inl ((y.1.1,(IntKind.i64.wrap (y.1.2.1+(1:Int))),()),()))
else
 some (.inr (.inr ((y.1.1,()),())))
noncomputable def Dh:xT.G->Option (a_ CR):=b8 yf
theorem ZU:bo ah (aO (codeOf Tryz.f158) 1 58) (bE xT CR Dh):=cQ z_ (by kernel_rfl) aE fun y=>by kernel_rfl
abbrev i158:Shape:=⟨[aX 0 .entry],[],53⟩
abbrev OU:Shape:=⟨[aV 2],[],53⟩
noncomputable def f158(a:i158.G):Option OU.G:=
(Di ((a.1.1,(0:Int),()),())).bind fun b=>
(match b with
|.inl c=>
 some ((c.1.1,()),())
|.inr d=>
(Dh ((d.1.1,(0:Int),()),())).bind fun e=>
(match e with
|.inl f=>
 some ((f.1.1,()),())
|.inr g=>
 some (((decide ((g.1.1.length:Int)<=(16:Int))),()),())))
noncomputable def zZ:bg:=bq aH Tryz.f158 i158 OU [] f158
theorem EJ:bc ah 158 zZ:=bB z_ Tryz.func158 (by kernel_rfl) (bJ ZV (bJ ZU aE)) (fun y=>by kernel_rfl) fun a=>by kernel_rfl
noncomputable abbrev ahU:bZ:=[(136,Ql),(137,Qk)]
theorem GH:bz ah (bX aH ahU):=bV ⟨acS,acR,⟨⟩⟩
abbrev J7:Shape:=⟨[aX 0 .entry,ar 3,bx 4 4 0,aX 8 .entry,ar 9,ar 10],[bI 4 [bW,bQ,bQ,bW]],43⟩
abbrev JQ:List bh:=[(.norm,⟨[aX 0 .entry,aX 8 .entry,ar 9,ar 10,hE 15 [bW,bQ,bQ,bW],aV 16,aV 17,aV 18,aV 32,aV 33,aV 41],[],43⟩)]
noncomputable def Cg(y:J7.G):Option (a_ JQ):=
(f136 (((y.2.1.1,y.2.1.2.1,y.2.1.2.2.1,y.2.1.2.2.2.1,()),()),())).bind fun a=>
 bif(!a.1.1) then
 some ((y.1.1,y.1.2.2.2.1,y.1.2.2.2.2.1,y.1.2.2.2.2.2.1,(y.2.1.1,y.2.1.2.1,y.2.1.2.2.1,y.2.1.2.2.2.1,()),a.1.1,(!a.1.1),true,true,true,true,()),())
else
 bif(decide (y.1.2.1>(0:Int))) then
(bd y.1.1 (IntKind.i64.wrap (y.1.2.1-(1:Int)))).bind fun b=>
 bif(!(Op.bytesLess b.path y.2.1.1)) then
 some ((y.1.1,y.1.2.2.2.1,y.1.2.2.2.2.1,y.1.2.2.2.2.2.1,(y.2.1.1,y.2.1.2.1,y.2.1.2.2.1,y.2.1.2.2.2.1,()),a.1.1,(!a.1.1),false,(!(Op.bytesLess b.path y.2.1.1)),true,true,()),())
else
(cB y.1.1 (0:Int) y.1.2.1).bind fun c=>
(f137 ((c,y.2.1.1,()),())).bind fun d=>
 some ((y.1.1,y.1.2.2.2.1,y.1.2.2.2.2.1,y.1.2.2.2.2.2.1,(y.2.1.1,y.2.1.2.1,y.2.1.2.2.1,y.2.1.2.2.2.1,()),a.1.1,(!a.1.1),false,(!(Op.bytesLess b.path y.2.1.1)),false,(!d.1.1),()),())
else
(cB y.1.1 (0:Int) y.1.2.1).bind fun e=>
(f137 ((e,y.2.1.1,()),())).bind fun f=>
 some ((y.1.1,y.1.2.2.2.1,y.1.2.2.2.2.1,y.1.2.2.2.2.2.1,(y.2.1.1,y.2.1.2.1,y.2.1.2.2.1,y.2.1.2.2.2.1,()),a.1.1,(!a.1.1),false,false,false,(!f.1.1),()),())
theorem Ya:bo ah (aO (dT (aO (codeOf Tryz.f86) 1 58)) 116 7474) (bE J7 JQ Cg):=dD GH (by kernel_rfl) aE fun y=>by kernel_rfl
abbrev yA:Shape:=⟨[aX 0 .entry,aX 8 .entry,ar 9,ar 10],[],43⟩
abbrev uc:List bh:=[(.ret,⟨[aV 2],[],43⟩),(.exit 0,⟨[],[],43⟩)]
noncomputable def yW(y:yA.G):cJ yA uc:=
 bif(decide (y.1.2.2.2.1<y.1.2.2.1)) then
(bd y.1.2.1 y.1.2.2.2.1).bind fun a=>
(Cg ((y.1.1,y.1.2.2.2.1,(),y.1.2.1,y.1.2.2.1,y.1.2.2.2.1,()),(a.path,a.kind,a.mode,a.text,()),())).bind fun b=>
 bif b.1.2.2.2.2.2.2.2.2.2.2.1 then
 some (.inr (.inl ((false,()),())))
else
 some (.inl ((b.1.1,b.1.2.1,b.1.2.2.1,(IntKind.i64.wrap (b.1.2.2.2.1+(1:Int))),()),()))
else
 some (.inr (.inr ((),())))
noncomputable def D0:yA.G->Option (a_ uc):=b8 yW
theorem aaa:bo ah (aO (codeOf Tryz.f86) 1 58) (bE yA uc D0):=cQ GH (by kernel_rfl) (bJ Ya aE) fun y=>by kernel_rfl
abbrev i86:Shape:=⟨[aX 0 .entry],[],43⟩
abbrev Q2:Shape:=⟨[aV 2],[],43⟩
noncomputable def f86(a:i86.G):Option Q2.G:=
 bif(decide ((a.1.1.length:Int)>(16:Int))) then
 some ((false,()),())
else
(D0 ((a.1.1,a.1.1,(a.1.1.length:Int),(0:Int),()),())).bind fun b=>
(match b with
|.inl c=>
 some ((c.1.1,()),())
|.inr d=>
 some ((true,()),()))
noncomputable def R9:bg:=bq aH Tryz.f86 i86 Q2 [] f86
theorem afm:bc ah 86 R9:=bB GH Tryz.func86 (by kernel_rfl) (bJ aaa aE) (fun y=>by kernel_rfl) fun a=>by kernel_rfl
theorem UP{aJ:Type}{ok mi:Nat->aJ->Bool}:∀(xs:List aJ) (j:Nat),(∀i x,xs[i]? =some x->ok (j+i) x=mi (j+i) x)->allI ok j xs=allI mi j xs:=by
 intro xs;induction xs with
 |nil=>intro j _;rfl
 |cons x r ih=>
  intro j h;simp only[allI];rw[show ok j x=mi j x from h 0 x rfl,ih (j+1) (fun i y an=>by have:=h (i+1) y (by simpa using an);rw[show j+(i+1)=j+1+i by omega] at this;exact this)]
theorem KD{aJ:Type}{ok:Nat->aJ->Bool}:∀(xs:List aJ) (j:Nat),allI ok j xs=true->∀i x,xs[i]? =some x->ok (j+i) x=true:=by
 intro xs;induction xs with
 |nil=>intro j _ i x h;simp at h
 |cons y r ih=>
  intro j h i x hx;simp only[allI,Bool.and_eq_true] at h;cases i with
  |zero=>simp only[List.getElem?_cons_zero,Option.some.injEq] at hx;subst hx;exact h.1
  |succ i=>have:=ih (j+1) h.2 i x (by simpa using hx);rwa[show j+1+i=j+(i+1) by omega] at this
abbrev Ab(t:List bu):Prop:=cM t.length/\∀e,e∈t->aie e
def ud(t:List bu)(i:Nat)(e:bu):Bool:=i==0||match t[i-1]? with
 |some q=>Op.bytesLess q.path e.path
 |none=>false
def jn(t:List bu)(i:Nat)(e:bu):Bool:=nT e&&ud t i e
def iL(t:List bu):Bool:=allI (jn t) 0 t&&t.all (fun e=>kF t (iW e.path))&&decide (t.length<=16)
theorem PE(i:Nat):decide ((i:Int)>0)=!(i==0):=by
 cases i with
 |zero=>rfl
 |succ i=>simp
theorem JI(a)(H:Ab a.1.1):f158 a=some ((iL a.1.1,()),()):=by
 obtain⟨⟨t,u⟩,bS⟩:=a;obtain⟨hl,he⟩:=H;have hl:t.length<=2097152:=hl;have key:Di ((t,((0:Int),())),())=some (bif allI (jn t) 0 t then .inr ((t,()),()) else .inl ((false,()),())):=by
  refine ig yg t (fun i=>((t,((i:Int),())),())) _ _ _ (fun i x hx=>?_) ?_
  ·have am:=dh hx;have hw:aW i:=by unfold aW;omega
   have hb:=he x (List.mem_of_getElem? hx);simp only[yg,c_ am,cond_true,Cl,cF,hx,Option.bind_some];rw[IF _ hb.1 hb.2];simp only[Option.bind_some,jn,PE];cases nT x with
   |false=>rfl
   |true=>
    simp only[Bool.not_true,cond_false,Bool.true_and,ud];cases i with
    |zero=>simp only[beq_self_eq_true,Bool.not_true,cond_false,Option.bind_some,Bool.true_or,cond_true,c2 hw]
    |succ i=>
     have a8:(i+1==0)=false:=rfl;have lF:i<t.length:=by omega
     obtain⟨q,aA⟩:∃q,t[i]? =some q:=⟨t[i],List.getElem?_eq_getElem lF⟩;simp only[a8,Bool.not_false,cond_true,IC (i:=i) (by unfold aW;omega),cF,aA,hx,Option.bind_some,Bool.false_or,Nat.add_sub_cancel]
     cases Op.bytesLess q.path x.path with
     |false=>rfl
     |true=>simp only[Bool.not_true,cond_false,cond_true,c2 hw]
  ·simp only[yg,eT,cond_false]
 have Ph:Dh ((t,((0:Int),())),())=some (bif allI (fun _ e=>kF t (iW e.path)) 0 t then .inr ((t,()),()) else .inl ((false,()),())):=by
  refine ig yf t (fun i=>((t,((i:Int),())),())) _ _ _ (fun i x hx=>?_) ?_
  ·have am:=dh hx;have hw:aW i:=by unfold aW;omega
   have hb:=he x (List.mem_of_getElem? hx);simp only[yf,c_ am,cond_true,cF,hx,Option.bind_some];rw[LV _ hb.1];simp only[Option.bind_some];rw[KG _ hl];simp only[Option.bind_some,c2 hw];cases kF t (iW x.path)<;>rfl
  ·simp only[yf,eT,cond_false]
 rw[ij] at Ph;simp only[f158,key,Option.bind_some,iL];cases allI (jn t) 0 t with
 |false=>rfl
 |true=>
  simp only[cond_true,Ph,Option.bind_some,Bool.true_and];cases List.all t (fun e=>kF t (iW e.path)) with
  |false=>rfl
  |true=>have:=zM t.length 16;simp only[cond_true,Bool.true_and];rw[<-this];rfl
theorem KC{t:List bu}{i:Nat}{e:bu}(he:t[i]? =some e)(h:ia (t.take i))(hl:ud t i e=true):ia (t.take (i+1)):=by
 rw[List.take_add_one,he];unfold ia;refine List.pairwise_append.2 ⟨h,by simp,?_⟩
 intro a bm b hb;have hb:b=e:=by simpa using hb
 subst hb;obtain⟨k,ak⟩:=List.mem_iff_getElem?.1 bm;have agM:k<i:=by
  have:=dh ak;rw[List.length_take] at this;omega
 unfold ud at hl;have a8:(i==0)=false:=by simp;omega
 rw[a8,Bool.false_or] at hl;split at hl
 ·rename_i q aA;by_cases gI:k=i-1
  ·have:t[k]? =some a:=by rw[List.getElem?_take,if_pos agM] at ak;exact ak
   rw[gI,aA] at this;cases this;exact hl
  ·have oe:(t.take i)[i-1]? =some q:=by rw[List.getElem?_take,if_pos (by omega)];exact aA
   have:=List.pairwise_iff_getElem.1 h k (i-1) (dh ak) (dh oe) (by omega)
   rw[(List.getElem?_eq_some_iff.1 ak).2,(List.getElem?_eq_some_iff.1 oe).2] at this;exact tK _ _ _ this hl
 ·cases hl
theorem M5{t:List bu}(h:allI (jn t) 0 t=true):ia t:=by
 have:∀i,i<=t.length->ia (t.take i):=by
  intro i;induction i with
  |zero=>intro _;simp[ia]
  |succ i ih=>
   intro am;have he:t[i]? =some t[i]:=List.getElem?_eq_getElem am;have:=KD t 0 h i _ he;rw[Nat.zero_add] at this;simp only[jn,Bool.and_eq_true] at this;exact KC he (ih (by omega)) this.2
 have:=this t.length (Nat.le_refl _);rwa[List.take_length] at this
theorem VP{t:List bu}{i:Nat}{e:bu}{p:E}(bm:ia t)(he:t[i]? =some e)(ai:Op.bytesLess p e.path=true):kF (t.take i) p=kF t p:=by
 have am:=dh he;have h1:=mL (p:=p) bm i e he;rw[_I ai] at h1;have dc:cb t p<=i:=by
  have:¬i<cb t p:=by simpa using h1.symm
  omega
 have n5:cb (t.take i) p=cb t p:=by
  by_cases bb:cb t p=i
  ·have hlen:(t.take i).length=i:=by rw[List.length_take];omega
   have h2:=C1 (t.take i) p;rw[hlen] at h2;by_cases aa:cb (t.take i) p<i
   ·obtain⟨q,aA⟩:∃q,(t.take i)[cb (t.take i) p]? =some q:=⟨_,List.getElem?_eq_getElem (by rw[hlen];exact aa)⟩
    have aN:=mL (p:=p) (bm.take i) _ q aA;have oe:t[cb (t.take i) p]? =some q:=by rw[List.getElem?_take,if_pos aa] at aA;exact aA
    have bn:=mL (p:=p) bm _ q oe;rw[aN] at bn;have:decide (cb (t.take i) p<cb (t.take i) p)=false:=by simp
    rw[this] at bn;have:¬cb (t.take i) p<cb t p:=by simpa using bn.symm
    omega
   ·omega
  ·have bb:cb t p<i:=by omega
   obtain⟨q,aA⟩:∃q,t[cb t p]? =some q:=⟨_,List.getElem?_eq_getElem (by omega)⟩
   have oe:(t.take i)[cb t p]? =some q:=by rw[List.getElem?_take,if_pos bb];exact aA
   have aN:=mL (p:=p) bm _ q aA;have bn:=mL (p:=p) (bm.take i) _ q oe;have fG:decide (cb t p<cb t p)=false:=by simp
   rw[aN,fG] at bn;have dY:¬cb t p<cb (t.take i) p:=by simpa using bn.symm
   by_cases lP:cb (t.take i) p<cb t p
   ·obtain⟨r,hr⟩:∃r,t[cb (t.take i) p]? =some r:=⟨_,List.getElem?_eq_getElem (by omega)⟩
    have cx:(t.take i)[cb (t.take i) p]? =some r:=by rw[List.getElem?_take,if_pos (by omega)];exact hr
    have aiG:=mL (p:=p) bm _ r hr;have oz:=mL (p:=p) (bm.take i) _ r cx;have aiM:decide (cb (t.take i) p<cb (t.take i) p)=false:=by simp
    rw[aiG,aiM] at oz;have:¬cb (t.take i) p<cb t p:=by simpa using oz
    omega
   ·omega
 unfold kF;rw[n5];congr 1
 by_cases bb:cb t p<i
 ·rw[List.getElem?_take,if_pos bb]
 ·have:cb t p=i:=by omega
  rw[this,he,List.getElem?_take,if_neg (by omega)]
  have:(e.path==p)=false:=by
   cases h:(e.path==p) with
   |false=>rfl
   |true=>rw[eq_of_beq h,rX] at ai;cases ai
  simp[this]
def lf(t:List bu)(p:E):Bool:=kF t (bif ji p then iW p else [])
theorem Tg(a)(H:cM a.1.1.length)(ai:cM a.1.2.1.length)(bm:ia a.1.1):f137 a=some ((lf a.1.1 a.1.2.1,()),()):=by
 obtain⟨⟨t,p,u⟩,bS⟩:=a;have e1:=XI ((p,()),()) ai;have e2:=T' ((t,((bif ji p then iW p else []),())),()) H bm
 simp only[f137,e1,e2,Option.bind_some,lf,kF,jG,cF];generalize(bif ji p then iW p else [])=up
 cases (up==[]) with
 |true=>rfl
 |false=>
  cases aC:t[cb t up]? with
  |none=>rfl
  |some e=>simp only[cond_false,cond_true,Option.bind_some,Bool.false_or];cases (e.path==up)<;>rfl
theorem Wq(t:List bu):iL t=(decide (t.length<=16)&&allI (fun i e=>jn t i e&&lf (t.take i) e.path) 0 t):=by
 unfold iL;rw[KE];cases h:allI (jn t) 0 t with
 |false=>simp
 |true=>
  have bm:=M5 h;have:allI (fun i e=>lf (t.take i) e.path) 0 t=t.all (fun e=>kF t (iW e.path)):=by
   rw[<-ij _ 0 t];refine UP t 0 (fun i e he=>?_)
   rw[Nat.zero_add];have dR:=KD t 0 h i e he;rw[Nat.zero_add] at dR;have agz:ji e.path=true:=by
    unfold jn nT at dR;simp only[Bool.and_eq_true] at dR;exact dR.1.1
   unfold lf;rw[agz,cond_true];cases hu:(iW e.path==[]) with
   |true=>unfold kF;rw[hu];rfl
   |false=>exact VP bm he (XN hu)
  rw[this];simp only[Bool.true_and];rw[Bool.and_comm]
theorem Wg(a)(H:Ab a.1.1):f86 a=some ((iL a.1.1,()),()):=by
 obtain⟨⟨t,u⟩,bS⟩:=a;obtain⟨hl,he⟩:=H;have hl:t.length<=2097152:=hl;have key:D0 ((t,(t,((t.length:Int),((0:Int),())))),())=some (bif allI (fun i e=>jn t i e&&lf (t.take i) e.path) 0 t then .inr ((),()) else .inl ((false,()),())):=by
  have:=rm yW t (fun i (_:Unit)=>((t,(t,((t.length:Int),((i:Int),())))),())) (fun i e _=>some (bif jn t i e&&lf (t.take i) e.path then .inl () else .inr ((.inl ((false,()),())):a_ uc))) (fun _=>(.inr ((),()):a_ uc))
   (fun i _=>ia (t.take i)) () (by simp[ia]) (fun i x _ hx e3=>?_) (fun _ _=>?_)
  ·exact this.trans (Bc (fun i e=>jn t i e&&lf (t.take i) e.path) (fun _ s=>s) _ _ t 0 ())
  ·have am:=dh hx;have hw:aW i:=by unfold aW;omega
   have hb:=he x (List.mem_of_getElem? hx);refine⟨?_,fun ap af=>?_⟩
   ·have vw:=Tg ((t.take i,(x.path,())),()) (show(t.take i).length<=2097152 by rw[List.length_take];omega) hb.1 e3
    simp only[yW,c_ am,cond_true,cF,hx,Option.bind_some,Cg];rw[Wi _ hb.1 hb.2];simp only[Option.bind_some,jn,PE];cases nT x with
    |false=>rfl
    |true=>
     simp only[Bool.not_true,cond_false,Bool.true_and,ud];cases i with
     |zero=>
      have dI:cB t 0 0=some (t.take 0):=oJ (b:=0) (Nat.zero_le _);have dI:cB t 0 ((0:Nat):Int)=some (t.take 0):=dI;simp only[beq_self_eq_true,Bool.not_true,cond_false,dI,Option.bind_some,vw,Bool.true_or,Bool.true_and];cases lf (t.take 0) x.path with
      |false=>rfl
      |true=>simp only[Bool.not_true,cond_false,cond_true,c2 hw];rfl
     |succ i=>
      have a8:(i+1==0)=false:=rfl;have lF:i<t.length:=by omega
      obtain⟨q,aA⟩:∃q,t[i]? =some q:=⟨t[i],List.getElem?_eq_getElem lF⟩;have dI:cB t 0 ((i+1:Nat):Int)=some (t.take (i+1)):=oJ (by omega)
      simp only[a8,Bool.not_false,cond_true,IC (i:=i) (by unfold aW;omega),cF,aA,hx,Option.bind_some,Bool.false_or,Nat.add_sub_cancel]
      cases Op.bytesLess q.path x.path with
      |false=>rfl
      |true=>
       simp only[Bool.not_true,cond_false,cond_true,dI,Option.bind_some,vw,Bool.true_and];cases lf (t.take (i+1)) x.path with
       |false=>rfl
       |true=>simp only[Bool.not_true,cond_false,cond_true,c2 hw];rfl
   ·simp only[Option.some.injEq] at af;cases aA:(jn t i x&&lf (t.take i) x.path) with
    |false=>rw[aA] at af;cases af
    |true=>
     simp only[Bool.and_eq_true] at aA;have:=aA.1;simp only[jn,Bool.and_eq_true] at this;exact KC hx e3 this.2
  ·simp only[yW,eT,cond_false]
 have ahl:decide ((t.length:Int)>16)=!decide (t.length<=16):=by by_cases h:t.length<=16<;>simp only[h,decide_true,decide_false,Bool.not_true,Bool.not_false,decide_eq_true_eq,decide_eq_false_iff_not]<;>omega
 simp only[f86,ahl,key,Option.bind_some];rw[Wq];cases decide (t.length<=16)<;>cases allI (fun i e=>jn t i e&&lf (t.take i) e.path) 0 t<;>rfl
noncomputable abbrev ahX:bZ:=[(86,R9),(118,FD),(119,z7),(120,Nd),(122,Nc)]
theorem Sp:bz ah (bX aH ahX):=bV ⟨afm,N6,z119,_Y,_X,⟨⟩⟩
abbrev L3:Shape:=⟨[bx 1 1 0],[bI 1 [bW,bW,cm .need,cm .entry]],36⟩
abbrev LZ:List bh:=[(.norm,⟨[bx 1 1 0,aV 18],[bI 1 [bW,bW,cm .need,cm .entry]],36⟩)]
noncomputable def D8(y:L3.G):Option (a_ LZ):=
(f118 ((y.2.1.1,()),())).bind fun a=>
 bif(!(!a.1.1)) then
(f119 ((y.2.1.2.1,()),())).bind fun b=>
 bif(!(!b.1.1)) then
 some (((),(decide ((y.2.1.2.2.1.length:Int)>(6:Int))),()),(y.2.1.1,y.2.1.2.1,y.2.1.2.2.1,y.2.1.2.2.2.1,()),())
else
 some (((),true,()),(y.2.1.1,y.2.1.2.1,y.2.1.2.2.1,y.2.1.2.2.2.1,()),())
else
 some (((),true,()),(y.2.1.1,y.2.1.2.1,y.2.1.2.2.1,y.2.1.2.2.2.1,()),())
theorem aad:bo ah (aO (codeOf Tryz.f74) 1 12) (bE L3 LZ D8):=dD Sp (by kernel_rfl) aE fun y=>by kernel_rfl
abbrev i74:Shape:=⟨[hE 0 [bW,bW,cm .need,cm .entry]],[],36⟩
abbrev Q5:Shape:=⟨[aV 2],[],36⟩
noncomputable def f74(a:i74.G):Option Q5.G:=
(D8 (((),()),(a.1.1.1,a.1.1.2.1,a.1.1.2.2.1,a.1.1.2.2.2.1,()),())).bind fun b=>
 bif b.1.2.1 then
 some ((false,()),())
else
(za ((b.2.1.2.2.1,(),()),())).bind fun c=>
 bif c.1.1 then
(y_ ((b.2.1.2.2.1,(),([b.2.1.1]:List E),()),())).bind fun d=>
 bif(!d.1.1) then
(f86 ((b.2.1.2.2.2.1,()),())).bind fun e=>
 some ((e.1.1,()),())
else
 some ((false,()),())
else
 some ((false,()),())
noncomputable def Sa:bg:=bq aH Tryz.f74 i74 Q5 [] f74
theorem afo:bc ah 74 Sa:=bB Sp Tryz.func74 (by kernel_rfl) (bJ aad aE) (fun y=>by kernel_rfl) fun a=>by kernel_rfl
noncomputable abbrev aa9:bZ:=[(74,Sa)]
theorem Nj:bz ah (bX aH aa9):=bV ⟨afo,⟨⟩⟩
abbrev wR:Shape:=⟨[(1,.aq (.fn 74 [])),aX 7 .pack,ar 8,ar 9],[],18⟩
abbrev BA:List bh:=[(.ret,⟨[aV 4],[],18⟩),(.exit 0,⟨[],[],18⟩)]
noncomputable def w1(y:wR.G):cJ wR BA:=
 bif(decide (y.1.2.2.2.1<y.1.2.2.1)) then
(bd y.1.2.1 y.1.2.2.2.1).bind fun a=>
(f74 (((a.name,a.cK,a.b_,a.ei,()),()),())).bind fun b=>
 bif(!b.1.1) then
 some (.inr (.inl ((false,()),())))
else
 some (.inl (((),y.1.2.1,y.1.2.2.1,(IntKind.i64.wrap (y.1.2.2.2.1+(1:Int))),()),()))
else
 some (.inr (.inr ((),())))
noncomputable def BI:wR.G->Option (a_ BA):=b8 w1
theorem W2:bo ah (aO (codeOf Tryz.f101) 1 26) (bE wR BA BI):=cQ Nj (by kernel_rfl) aE fun y=>by kernel_rfl
abbrev MV:Shape:=⟨[aX 0 .pack,(1,.aq (.fn 74 []))],[],18⟩
abbrev Mt:Shape:=⟨[aV 4],[],18⟩
noncomputable def zb(a:MV.G):Option Mt.G:=
(BI (((),a.1.1,(a.1.1.length:Int),(0:Int),()),())).bind fun b=>
(match b with
|.inl c=>
 some ((c.1.1,()),())
|.inr d=>
 some ((true,()),()))
noncomputable def Nf:bg:=bq aH Tryz.f101 MV Mt [] zb
theorem _Z:bc ah 101 Nf:=bB Nj Tryz.func101 (by kernel_rfl) (bJ W2 aE) (fun y=>by kernel_rfl) fun a=>by kernel_rfl
abbrev i156:Shape:=⟨[aX 0 .entry],[],6⟩
abbrev OW:Shape:=⟨[bU 2 3000128],[b3 3000128 .entry 2 0],6⟩
noncomputable def f156(a:i156.G):Option OW.G:=
(cT 48 ([]:List bu) a.1.1).bind fun b=>
 some (((),()),b,())
noncomputable def z6:bg:=bq aH Tryz.f156 i156 OW [] f156
theorem z156:bc ah 156 z6:=bB g0 Tryz.func156 (by kernel_rfl) aE (fun y=>by kernel_rfl) fun a=>by kernel_rfl
noncomputable abbrev ahS:bZ:=[(156,z6),(157,z1),(158,zZ)]
theorem GG:bz ah (bX aH ahS):=bV ⟨z156,z157,EJ,⟨⟩⟩
abbrev J4:Shape:=⟨[aX 1 .entry,bU 6 3000384,ar 7,ar 8,aV 9],[b3 3000384 .entry 6 0],69⟩
abbrev JN:List bh:=[(.norm,⟨[aX 1 .entry,bU 6 3000384,ar 7,ar 8,aV 9,aV 28,aV 29,aV 47],[b3 3000384 .entry 6 0],69⟩)]
noncomputable def Kt(y:J4.G):Option (a_ JN):=
 bif y.1.2.2.2.2.1 then
(hy y.2.1.length y.1.2.2.2.1).bind fun a=>
(y.2.1[a]?).bind fun b=>
 bif(b.kind !=(1:Int)) then
 some ((y.1.1,(),y.1.2.2.1,y.1.2.2.2.1,y.1.2.2.2.2.1,y.1.2.2.2.2.1,true,true,()),y.2.1,())
else
(bd y.1.1 y.1.2.2.1).bind fun c=>
(hy y.2.1.length y.1.2.2.2.1).bind fun d=>
(y.2.1[d]?).bind fun e=>
 some ((y.1.1,(),y.1.2.2.1,y.1.2.2.2.1,y.1.2.2.2.2.1,y.1.2.2.2.2.1,true,(!((c.path==e.path)&&((c.kind==e.kind)&&((c.mode==e.mode)&&(c.text==e.text))))),()),y.2.1,())
else
 some ((y.1.1,(),y.1.2.2.1,y.1.2.2.2.1,y.1.2.2.2.2.1,y.1.2.2.2.2.1,false,false,()),y.2.1,())
theorem X8:bo ah (aO (dT (aO (codeOf Tryz.f96) 1 58)) 116 7460) (bE J4 JN Kt):=dD GG (by kernel_rfl) aE fun y=>by kernel_rfl
abbrev yx:Shape:=⟨[aX 1 .entry,bU 6 3000384,ar 7],[b3 3000384 .entry 6 0],69⟩
abbrev DI:List bh:=[(.ret,⟨[bU 4 3000256,aV 5],[b3 3000256 .entry 4 0],69⟩),(.exit 0,⟨[bU 6 3000384],[b3 3000384 .entry 6 0],69⟩)]
noncomputable def aaA(y:yx.G):cJ yx DI:=
 bif(decide (y.1.2.2.1<(y.1.1.length:Int))) then
(bd y.1.1 y.1.2.2.1).bind fun a=>
(f157 ((y.2.1,a.path,()),())).bind fun b=>
(Kt ((y.1.1,(),y.1.2.2.1,b.1.1,b.1.2.1,()),y.2.1,())).bind fun c=>
 bif c.1.2.2.2.2.2.2.2.1 then
 some (.inr (.inl (((),false,()),([]:List bu),())))
else
 bif(!c.1.2.2.2.2.1) then
(cB c.2.1 (0:Int) c.1.2.2.2.1).bind fun d=>
(cT 48 ([]:List bu) d).bind fun e=>
(bd c.1.1 c.1.2.2.1).bind fun f=>
(cT 48 e ([f]:List bu)).bind fun g=>
(cB c.2.1 c.1.2.2.2.1 (c.2.1.length:Int)).bind fun h=>
(cT 48 g h).bind fun i=>
 some (.inl ((c.1.1,(),(IntKind.i64.wrap (c.1.2.2.1+(1:Int))),()),i,()))
else
 some (.inl ((c.1.1,(),(IntKind.i64.wrap (c.1.2.2.1+(1:Int))),()),c.2.1,()))
else
 some (.inr (.inr (((),()),y.2.1,())))
noncomputable def Mw:yx.G->Option (a_ DI):=b8 aaA
theorem _7:bo ah (aO (codeOf Tryz.f96) 1 58) (bE yx DI Mw):=cQ GG (by kernel_rfl) (bJ X8 aE) fun y=>by kernel_rfl
abbrev i96:Shape:=⟨[aX 0 .entry,aX 1 .entry],[],69⟩
abbrev QX:Shape:=⟨[bU 4 3000256,aV 5],[b3 3000256 .entry 4 0],69⟩
noncomputable def f96(a:i96.G):Option QX.G:=
(f156 ((a.1.1,()),())).bind fun b=>
(Mw ((a.1.2.1,(),(0:Int),()),b.2.1,())).bind fun c=>
(match c with
|.inl d=>
 some (((),d.1.2.1,()),d.2.1,())
|.inr e=>
(f158 ((e.2.1,()),())).bind fun f=>
 some (((),f.1.1,()),e.2.1,()))
noncomputable def R6:bg:=bq aH Tryz.f96 i96 QX [] f96
theorem afk:bc ah 96 R6:=bB GG Tryz.func96 (by kernel_rfl) (bJ _7 aE) (fun y=>by kernel_rfl) fun a=>by kernel_rfl
noncomputable abbrev ahR:bZ:=[(158,zZ),(161,FA),(162,Fz),(163,Qg)]
theorem ah8:bz ah (bX aH ahR):=bV ⟨EJ,N4,z162,acO,⟨⟩⟩
abbrev i98:Shape:=⟨[hE 0 [bW,bW,cm .need,cm .entry]],[],23⟩
abbrev QW:Shape:=⟨[aV 2],[],23⟩
noncomputable def f98(a:i98.G):Option QW.G:=
(f161 ((a.1.1.1,()),())).bind fun b=>
 bif b.1.1 then
(f162 ((a.1.1.2.1,()),())).bind fun c=>
 bif c.1.1 then
(f163 ((a.1.1.1,a.1.1.2.2.1,()),())).bind fun d=>
 bif d.1.1 then
(f158 ((a.1.1.2.2.2.1,()),())).bind fun e=>
 some ((e.1.1,()),())
else
 some ((false,()),())
else
 some ((false,()),())
else
 some ((false,()),())
noncomputable def GB:bg:=bq aH Tryz.f98 i98 QW [] f98
theorem QL:bc ah 98 GB:=bB ah8 Tryz.func98 (by kernel_rfl) aE (fun y=>by kernel_rfl) fun a=>by kernel_rfl
abbrev AN(p:a6):Prop:=cM p.name.length/\cM p.cK.length/\vb p.b_/\Ab p.ei
abbrev kO(ps:List a6):Prop:=cM ps.length/\∀p,p∈ps->AN p
def fz(p:a6):Bool:=lg p.name&&gf p.cK&&ru p.name p.b_&&iL p.ei
theorem XJ(a)(hb:AN ⟨a.1.1.1,a.1.1.2.1,a.1.1.2.2.1,a.1.1.2.2.2.1⟩):f98 a=some ((fz ⟨a.1.1.1,a.1.1.2.1,a.1.1.2.2.1,a.1.1.2.2.2.1⟩,()),()):=by
 obtain⟨⟨⟨n,v,ao,t,u⟩,bS⟩,sI⟩:=a;obtain⟨h1,h2,aa,aN⟩:=hb;have h1:n.length<=2097152:=h1;have e1:=JF ((n,()),()) (show n.length<=1099511627776 by omega)
 have e2:=HE ((v,()),()) h2;have ce:=V' ((n,(ao,())),()) aa h1;have fG:=JI ((t,()),()) aN;simp only[f98,e1,e2,ce,fG,Option.bind_some,fz];cases lg n<;>cases gf v<;>cases ru n ao<;>rfl
theorem Wh(a)(hb:AN ⟨a.1.1.1,a.1.1.2.1,a.1.1.2.2.1,a.1.1.2.2.2.1⟩):f74 a=some ((fz ⟨a.1.1.1,a.1.1.2.1,a.1.1.2.2.1,a.1.1.2.2.2.1⟩,()),()):=by
 obtain⟨⟨⟨n,v,ao,t,u⟩,bS⟩,sI⟩:=a;obtain⟨h1,h2,aa,aN⟩:=hb;have h1:n.length<=2097152:=h1;have e1:=Hr ((n,()),()) (show n.length<=1099511627776 by omega)
 have e2:=A2 ((v,()),()) h2;have ce:=Wk ((ao,((),())),()) aa;have fG:=Wg ((t,()),()) aN;have gO:=TA ((ao,((),(([n]:List E),()))),()) aa (Nat.le_refl _);have dY:decide ((ao.length:Int)>6)=!decide (ao.length<=6):=by by_cases h:ao.length<=6<;>simp only[h,decide_true,decide_false,Bool.not_true,Bool.not_false,decide_eq_true_eq,decide_eq_false_iff_not]<;>omega
 have Y:e9 [] (n::ao.map (·.name))=e9 [n] (ao.map (·.name)):=by simp[e9]
 simp only[f74,D8,e1,e2,Option.bind_some,fz,ru,Y,dY,Bool.not_not];cases lg n with
 |false=>rfl
 |true=>
  cases gf v with
  |false=>rfl
  |true=>
   cases decide (ao.length<=6) with
   |false=>simp only[cond_true,Bool.not_false,Option.bind_some,Bool.and_false,Bool.false_and]
   |true=>
    simp only[cond_true,Bool.not_true,cond_false,Option.bind_some,ce,gO,fG,Bool.true_and,Bool.and_true];cases List.all ao hV<;>cases e9 [n] (ao.map (·.name))<;>rfl
theorem Wj(a)(H:kO a.1.1):zb a=some ((a.1.1.all fz,()),()):=by
 obtain⟨⟨ps,u⟩,bS⟩:=a;obtain⟨hl,hn⟩:=H;have hl:ps.length<=2097152:=hl;have key:BI (((),(ps,((ps.length:Int),((0:Int),())))),())=some (bif allI (fun _ n=>fz n) 0 ps then .inr ((),()) else .inl ((false,()),())):=by
  refine ig w1 ps (fun i=>(((),(ps,((ps.length:Int),((i:Int),())))),())) _ _ _ (fun i x hx=>?_) ?_
  ·have am:=dh hx;have hw:aW i:=by unfold aW;omega
   have hb:=hn x (List.mem_of_getElem? hx);simp only[w1,c_ am,cond_true,cF,hx,Option.bind_some];rw[Wh _ hb];simp only[Option.bind_some,c2 hw];cases fz x<;>rfl
  ·simp only[w1,eT,cond_false]
 rw[ij] at key;simp only[zb,key,Option.bind_some];cases List.all ps fz<;>rfl
def abL(ps:List a6)(i:Nat)(x:a6):Bool:=match ps[i]? with
 |some q=>Op.bytesLess q.name x.name
 |none=>false
def PH(ps:List a6):Bool:=allI (abL ps) 0 ps.tail
def AI(a b:bu):Bool:=a.path==b.path&&(a.kind==b.kind&&(a.mode==b.mode&&a.text==b.text))
def u6(e q:bu):Bool:=e.kind !=1||!AI e q
def oZ(t:List bu)(k:Nat)(e:bu):List bu:=t.take k++[e]++t.drop k
def lm(out:List bu):List bu->Option (List bu)
 |[]=>some out
 |e::r=>match out[cb out e.path]? with
  |some q=>bif q.path==e.path then(bif u6 e q then none else lm out r) else lm (oZ out (cb out e.path) e) r
  |none=>lm (oZ out (cb out e.path) e) r
theorem Xe{t:List bu}{k:Nat}{e x:bu}(h:x∈oZ t k e):x=e\/x∈t:=by
 unfold oZ at h;rcases List.mem_append.1 h with h|h
 ·rcases List.mem_append.1 h with h|h
  ·exact .inr (List.mem_of_mem_take h)
  ·exact .inl (by simpa using h)
 ·exact .inr (List.mem_of_mem_drop h)
def zk(out:List bu)(e:bu):Option (List bu):=match out[cb out e.path]? with
 |some q=>bif q.path==e.path then(bif u6 e q then none else some out) else some (oZ out (cb out e.path) e)
 |none=>some (oZ out (cb out e.path) e)
theorem Vz(out:List bu)(e:bu)(r:List bu):lm out (e::r)=(zk out e).bind fun D=>lm D r:=by
 unfold zk;rw[lm];cases out[cb out e.path]? with
 |none=>rfl
 |some q=>
  simp only;cases (q.path==e.path) with
  |false=>rfl
  |true=>cases u6 e q<;>rfl
noncomputable abbrev ah1:bZ:=[(96,R6)]
theorem St:bz ah (bX aH ah1):=bV ⟨afk,⟨⟩⟩
abbrev yF:Shape:=⟨[aX 0 .pack,bU 4 3000256,ar 5],[b3 3000256 .entry 4 0],30⟩
abbrev DP:List bh:=[(.ret,⟨[bU 2 3000128,aV 3],[b3 3000128 .entry 2 0],30⟩),(.exit 0,⟨[bU 4 3000256],[b3 3000256 .entry 4 0],30⟩)]
noncomputable def aaC(y:yF.G):cJ yF DP:=
 bif(decide (y.1.2.2.1<(y.1.1.length:Int))) then
(bd y.1.1 y.1.2.2.1).bind fun a=>
(f96 ((y.2.1,a.ei,()),())).bind fun b=>
 bif(!b.1.2.1) then
 some (.inr (.inl (((),false,()),([]:List bu),())))
else
 some (.inl ((y.1.1,(),(IntKind.i64.wrap (y.1.2.2.1+(1:Int))),()),b.2.1,()))
else
 some (.inr (.inr (((),()),y.2.1,())))
noncomputable def My:yF.G->Option (a_ DP):=b8 aaC
theorem aai:bo ah (aO (codeOf Tryz.f51) 1 58) (bE yF DP My):=cQ St (by kernel_rfl) aE fun y=>by kernel_rfl
abbrev i51:Shape:=⟨[aX 0 .pack],[],30⟩
abbrev Q9:Shape:=⟨[bU 2 3000128,aV 3],[b3 3000128 .entry 2 0],30⟩
noncomputable def f51(a:i51.G):Option Q9.G:=
(My ((a.1.1,(),(0:Int),()),([]:List bu),())).bind fun b=>
(match b with
|.inl c=>
 some (((),c.1.2.1,()),c.2.1,())
|.inr d=>
 some (((),true,()),d.2.1,()))
noncomputable def Se:bg:=bq aH Tryz.f51 i51 Q9 [] f51
theorem z51:bc ah 51 Se:=bB St Tryz.func51 (by kernel_rfl) (bJ aai aE) (fun y=>by kernel_rfl) fun a=>by kernel_rfl
theorem H_{t:List bu}(h:iL t=true):ia t:=by
 unfold iL at h;simp only[Bool.and_eq_true] at h;exact M5 h.1.1
def lX(out:List bu):List a6->Option (List bu)
 |[]=>some out
 |p::r=>match lm out p.ei with
  |some D=>bif iL D then lX D r else none
  |none=>none
def stepT(out:List bu)(p:a6):Option (List bu):=match lm out p.ei with
 |some D=>bif iL D then some D else none
 |none=>none
theorem HF(out:List bu)(p:a6)(r:List a6):lX out (p::r)=(stepT out p).bind fun D=>lX D r:=by
 unfold stepT;rw[lX];cases lm out p.ei with
 |none=>rfl
 |some D=>simp only;cases iL D<;>rfl
theorem J2{out D:List bu}{p:a6}(h:stepT out p=some D):iL D=true/\lm out p.ei=some D:=by
 unfold stepT at h;split at h
 ·rename_i cW al;cases aC:iL cW with
  |true=>rw[aC] at h;cases h;exact⟨aC,al⟩
  |false=>rw[aC] at h;cases h
 ·cases h
abbrev Kd:Shape:=⟨[aX 0 .i64,aX 1 .i64,ar 5],[],42⟩
abbrev JY:List bh:=[(.norm,⟨[aX 0 .i64,aX 1 .i64,ar 5],[],42⟩),(.exit 0,⟨[],[],42⟩)]
noncomputable def Kv(y:Kd.G):Option (a_ JY):=
 bif(!(decide (y.1.2.2.1<(y.1.1.length:Int)))) then
 bif(decide (y.1.2.2.1<(y.1.2.1.length:Int))) then
 some (.inl ((y.1.1,y.1.2.1,y.1.2.2.1,()),()))
else
 some (.inr ((),()))
else
 some (.inl ((y.1.1,y.1.2.1,y.1.2.2.1,()),()))
theorem Yl:bo ah (aO (dT (aO (codeOf Tryz.f182) 1 26)) 52 104) (bE Kd JY Kv):=dD g0 (by kernel_rfl) aE fun y=>by kernel_rfl
abbrev I3:Shape:=⟨[aX 0 .i64,aX 1 .i64,ar 5,ar 6,ar 7],[],42⟩
abbrev IQ:List bh:=[(.norm,⟨[aX 0 .i64,aX 1 .i64,ar 5,ar 6,ar 7],[],42⟩)]
noncomputable def Js(y:I3.G):Option (a_ IQ):=
 bif(decide (y.1.2.2.1<(y.1.1.length:Int))) then
(bd y.1.1 y.1.2.2.1).bind fun a=>
 some ((y.1.1,y.1.2.1,y.1.2.2.1,a,y.1.2.2.2.2.1,()),())
else
 some ((y.1.1,y.1.2.1,y.1.2.2.1,y.1.2.2.2.1,y.1.2.2.2.2.1,()),())
theorem WT:bo ah (aO (dT (aO (codeOf Tryz.f182) 1 26)) 52 3366) (bE I3 IQ Js):=dD g0 (by kernel_rfl) aE fun y=>by kernel_rfl
abbrev I2:Shape:=⟨[aX 0 .i64,aX 1 .i64,ar 5,ar 6,ar 7],[],42⟩
abbrev IP:List bh:=[(.norm,⟨[aX 0 .i64,aX 1 .i64,ar 5,ar 6,ar 7],[],42⟩)]
noncomputable def Jr(y:I2.G):Option (a_ IP):=
 bif(decide (y.1.2.2.1<(y.1.2.1.length:Int))) then
(bd y.1.2.1 y.1.2.2.1).bind fun a=>
 some ((y.1.1,y.1.2.1,y.1.2.2.1,y.1.2.2.2.1,a,()),())
else
 some ((y.1.1,y.1.2.1,y.1.2.2.1,y.1.2.2.2.1,y.1.2.2.2.2.1,()),())
theorem WS:bo ah (aO (dT (aO (codeOf Tryz.f182) 1 26)) 52 6734) (bE I2 IP Jr):=dD g0 (by kernel_rfl) aE fun y=>by kernel_rfl
abbrev xQ:Shape:=⟨[aX 0 .i64,aX 1 .i64,ar 5],[],42⟩
abbrev CP:List bh:=[(.ret,⟨[ar 4],[],42⟩),(.exit 0,⟨[],[],42⟩)]
noncomputable def _u(y:xQ.G):cJ xQ CP:=
(Kv ((y.1.1,y.1.2.1,y.1.2.2.1,()),())).bind fun a=>
(match a with
|.inl b=>
(Js ((b.1.1,b.1.2.1,b.1.2.2.1,((-1):Int),((-1):Int),()),())).bind fun c=>
(Jr ((c.1.1,c.1.2.1,c.1.2.2.1,c.1.2.2.2.1,c.1.2.2.2.2.1,()),())).bind fun d=>
 bif(decide (d.1.2.2.2.1<d.1.2.2.2.2.1)) then
 some (.inr (.inl ((((-1):Int),()),())))
else
 bif(decide (d.1.2.2.2.1>d.1.2.2.2.2.1)) then
 some (.inr (.inl (((1:Int),()),())))
else
 some (.inl ((d.1.1,d.1.2.1,(IntKind.i64.wrap (d.1.2.2.1+(1:Int))),()),()))
|.inr e=>
 some (.inr (.inr ((),()))))
noncomputable def Lp:xQ.G->Option (a_ CP):=b8 _u
theorem ZR:bo ah (aO (codeOf Tryz.f182) 1 26) (bE xQ CP Lp):=cQ g0 (by kernel_rfl) (bJ Yl (bJ WT (bJ WS aE))) fun y=>by kernel_rfl
abbrev i182:Shape:=⟨[aX 0 .i64,aX 1 .i64],[],42⟩
abbrev ON:Shape:=⟨[ar 4],[],42⟩
noncomputable def f182(a:i182.G):Option ON.G:=
(Lp ((a.1.1,a.1.2.1,(0:Int),()),())).bind fun b=>
(match b with
|.inl c=>
 some ((c.1.1,()),())
|.inr d=>
 some (((0:Int),()),()))
noncomputable def Qc:bg:=bq aH Tryz.f182 i182 ON [] f182
theorem z182:bc ah 182 Qc:=bB g0 Tryz.func182 (by kernel_rfl) (bJ ZR aE) (fun y=>by kernel_rfl) fun a=>by kernel_rfl
noncomputable abbrev aeR:bZ:=[(181,Fy),(182,Qc)]
theorem QH:bz ah (bX aH aeR):=bV ⟨N3,z182,⟨⟩⟩
abbrev K2:Shape:=⟨[bU 5 3000320,aV 6,bU 7 3000448,aV 8],[b3 3000320 .i64 5 0,b3 3000448 .i64 7 0],28⟩
abbrev KS:List bh:=[(.norm,⟨[bU 5 3000320,bU 7 3000448,aV 24],[b3 3000320 .i64 5 0,b3 3000448 .i64 7 0],28⟩)]
noncomputable def LD(y:K2.G):Option (a_ KS):=
 bif(!(!y.1.2.1)) then
 some (((),(),(!y.1.2.2.2.1),()),y.2.1,y.2.2.1,())
else
 some (((),(),true,()),y.2.1,y.2.2.1,())
theorem Z2:bo ah (aO (codeOf Tryz.f126) 1 60) (bE K2 KS LD):=dD QH (by kernel_rfl) aE fun y=>by kernel_rfl
abbrev i126:Shape:=⟨[aQ 0,aQ 1],[],28⟩
abbrev O5:Shape:=⟨[ar 4],[],28⟩
noncomputable def f126(a:i126.G):Option O5.G:=
(f181 ((a.1.1,()),())).bind fun b=>
(f181 ((a.1.2.1,()),())).bind fun c=>
(LD (((),b.1.2.1,(),c.1.2.1,()),b.2.1,c.2.1,())).bind fun d=>
 bif d.1.2.2.1 then
 some (((0:Int),()),())
else
(f182 ((d.2.1,d.2.2.1,()),())).bind fun e=>
 some ((e.1.1,()),())
noncomputable def Qp:bg:=bq aH Tryz.f126 i126 O5 [] f126
theorem acW:bc ah 126 Qp:=bB QH Tryz.func126 (by kernel_rfl) (bJ Z2 aE) (fun y=>by kernel_rfl) fun a=>by kernel_rfl
abbrev i259:Shape:=⟨[ar 0],[],6⟩
abbrev Ou:Shape:=⟨[aV 2],[],6⟩
noncomputable def f259(a:i259.G):Option Ou.G:=
 some (((a.1.1 !=a.1.1),()),())
noncomputable def PY:bg:=bq aH Tryz.f259 i259 Ou [] f259
theorem acA:bc ah 259 PY:=bB g0 Tryz.func259 (by kernel_rfl) aE (fun y=>by kernel_rfl) fun a=>by kernel_rfl
noncomputable abbrev aeu:bZ:=[(259,PY)]
theorem ae4:bz ah (bX aH aeu):=bV ⟨acA,⟨⟩⟩
abbrev i224:Shape:=⟨[ar 0,ar 1],[],20⟩
abbrev OE:Shape:=⟨[ar 4],[],20⟩
noncomputable def f224(a:i224.G):Option OE.G:=
(f259 ((a.1.1,()),())).bind fun b=>
(f259 ((a.1.2.1,()),())).bind fun c=>
 bif b.1.1 then
 bif c.1.1 then
 some (((0:Int),()),())
else
 some ((((-1):Int),()),())
else
 bif c.1.1 then
 some (((1:Int),()),())
else
 bif(decide (a.1.1<a.1.2.1)) then
 some ((((-1):Int),()),())
else
 bif(decide (a.1.1>a.1.2.1)) then
 some (((1:Int),()),())
else
 some (((0:Int),()),())
noncomputable def P7:bg:=bq aH Tryz.f224 i224 OE [] f224
theorem acG:bc ah 224 P7:=bB ae4 Tryz.func224 (by kernel_rfl) aE (fun y=>by kernel_rfl) fun a=>by kernel_rfl
noncomputable abbrev aeC:bZ:=[(224,P7)]
theorem QC:bz ah (bX aH aeC):=bV ⟨acG,⟨⟩⟩
abbrev xP:Shape:=⟨[aX 0 .i64,aX 1 .i64,aX 9 .i64,ar 10,ar 11],[],36⟩
abbrev CO:List bh:=[(.ret,⟨[ar 4],[],36⟩),(.exit 0,⟨[aX 0 .i64,aX 1 .i64],[],36⟩)]
noncomputable def tY(y:xP.G):cJ xP CO:=
 bif(decide (y.1.2.2.2.2.1<y.1.2.2.2.1)) then
(bd y.1.2.2.1 y.1.2.2.2.2.1).bind fun a=>
 bif(decide (y.1.2.2.2.2.1>=(y.1.2.1.length:Int))) then
 some (.inr (.inl (((1:Int),()),())))
else
(bd y.1.2.1 y.1.2.2.2.2.1).bind fun b=>
(f224 ((a,b,()),())).bind fun c=>
 bif(c.1.1 !=(0:Int)) then
 some (.inr (.inl ((c.1.1,()),())))
else
 some (.inl ((y.1.1,y.1.2.1,y.1.2.2.1,y.1.2.2.2.1,(IntKind.i64.wrap (y.1.2.2.2.2.1+(1:Int))),()),()))
else
 some (.inr (.inr ((y.1.1,y.1.2.1,()),())))
noncomputable def oO:xP.G->Option (a_ CO):=b8 tY
theorem ZQ:bo ah (aO (codeOf Tryz.f184) 1 26) (bE xP CO oO):=cQ QC (by kernel_rfl) aE fun y=>by kernel_rfl
abbrev i184:Shape:=⟨[aX 0 .i64,aX 1 .i64],[],36⟩
abbrev ET:Shape:=⟨[ar 4],[],36⟩
noncomputable def f184(a:i184.G):Option ET.G:=
(oO ((a.1.1,a.1.2.1,a.1.1,(a.1.1.length:Int),(0:Int),()),())).bind fun b=>
(match b with
|.inl c=>
 some ((c.1.1,()),())
|.inr d=>
 bif(decide ((d.1.1.length:Int)<(d.1.2.1.length:Int))) then
 some ((((-1):Int),()),())
else
 some (((0:Int),()),()))
noncomputable def Qb:bg:=bq aH Tryz.f184 i184 ET [] f184
theorem acL:bc ah 184 Qb:=bB QC Tryz.func184 (by kernel_rfl) (bJ ZQ aE) (fun y=>by kernel_rfl) fun a=>by kernel_rfl
noncomputable abbrev aeP:bZ:=[(184,Qb)]
theorem afe:bz ah (bX aH aeP):=bV ⟨acL,⟨⟩⟩
abbrev i128:Shape:=⟨[aX 0 .i64,aX 1 .i64],[],8⟩
abbrev O3:Shape:=⟨[ar 4],[],8⟩
noncomputable def f128(a:i128.G):Option O3.G:=
(f184 ((a.1.1,a.1.2.1,()),())).bind fun b=>
 some ((b.1.1,()),())
noncomputable def Qo:bg:=bq aH Tryz.f128 i128 O3 [] f128
theorem acV:bc ah 128 Qo:=bB afe Tryz.func128 (by kernel_rfl) aE (fun y=>by kernel_rfl) fun a=>by kernel_rfl
noncomputable abbrev ahW:bZ:=[(127,FB),(128,Qo)]
theorem Sn:bz ah (bX aH ahW):=bV ⟨z127,acV,⟨⟩⟩
abbrev L2:Shape:=⟨[bU 5 3000320,aV 6,bU 7 3000448,aV 8],[b3 3000320 .i64 5 0,b3 3000448 .i64 7 0],28⟩
abbrev LY:List bh:=[(.norm,⟨[bU 5 3000320,bU 7 3000448,aV 24],[b3 3000320 .i64 5 0,b3 3000448 .i64 7 0],28⟩)]
noncomputable def D7(y:L2.G):Option (a_ LY):=
 bif(!(!y.1.2.1)) then
 some (((),(),(!y.1.2.2.2.1),()),y.2.1,y.2.2.1,())
else
 some (((),(),true,()),y.2.1,y.2.2.1,())
theorem aac:bo ah (aO (codeOf Tryz.f78) 1 60) (bE L2 LY D7):=dD Sn (by kernel_rfl) aE fun y=>by kernel_rfl
abbrev i78:Shape:=⟨[aQ 0,aQ 1],[],28⟩
abbrev Q4:Shape:=⟨[ar 4],[],28⟩
noncomputable def f78(a:i78.G):Option Q4.G:=
(f127 ((a.1.1,()),())).bind fun b=>
(f127 ((a.1.2.1,()),())).bind fun c=>
(D7 (((),b.2.2.2.1.1,(),c.2.2.2.1.1,()),b.2.1,c.2.1,())).bind fun d=>
 bif d.1.2.2.1 then
 some (((0:Int),()),())
else
(f128 ((d.2.1,d.2.2.1,()),())).bind fun e=>
 some ((e.1.1,()),())
noncomputable def R':bg:=bq aH Tryz.f78 i78 Q4 [] f78
theorem afn:bc ah 78 R':=bB Sn Tryz.func78 (by kernel_rfl) (bJ aac aE) (fun y=>by kernel_rfl) fun a=>by kernel_rfl
noncomputable abbrev aeO:bZ:=[(78,R'),(119,z7),(121,FC)]
theorem QG:bz ah (bX aH aeO):=bV ⟨afn,z119,N5,⟨⟩⟩
abbrev K1:Shape:=⟨[aQ 1,aQ 2,bx 3 3 0],[bI 3 [bW,bQ,bW]],44⟩
abbrev KR:List bh:=[(.norm,⟨[aQ 2,bx 3 3 0,aV 20],[bI 3 [bW,bQ,bW]],44⟩)]
noncomputable def Dv(y:K1.G):Option (a_ KR):=
(f121 (((y.2.1.1,y.2.1.2.1,y.2.1.2.2.1,()),()),())).bind fun a=>
 bif(!(!a.1.1)) then
(f119 ((y.1.2.1,()),())).bind fun b=>
 bif(!(!b.1.1)) then
 some ((y.1.2.1,(),(!(y.1.1==y.2.1.1)),()),(y.2.1.1,y.2.1.2.1,y.2.1.2.2.1,()),())
else
 some ((y.1.2.1,(),true,()),(y.2.1.1,y.2.1.2.1,y.2.1.2.2.1,()),())
else
 some ((y.1.2.1,(),true,()),(y.2.1.1,y.2.1.2.1,y.2.1.2.2.1,()),())
theorem Z0:bo ah (aO (codeOf Tryz.f132) 1 12) (bE K1 KR Dv):=dD QG (by kernel_rfl) aE fun y=>by kernel_rfl
abbrev i132:Shape:=⟨[hE 0 [bW,bQ,bW],aQ 1,aQ 2],[],44⟩
abbrev O2:Shape:=⟨[aV 6],[],44⟩
noncomputable def f132(a:i132.G):Option O2.G:=
(Dv ((a.1.2.1,a.1.2.2.1,(),()),(a.1.1.1,a.1.1.2.1,a.1.1.2.2.1,()),())).bind fun b=>
 bif b.1.2.2.1 then
 some ((false,()),())
else
 bif(b.2.1.2.1==(1:Int)) then
(f78 ((b.1.1,b.2.1.2.2.1,()),())).bind fun c=>
 some (((c.1.1==(0:Int)),()),())
else
 bif(b.2.1.2.1==(2:Int)) then
(f78 ((b.1.1,b.2.1.2.2.1,()),())).bind fun d=>
 some (((decide (d.1.1>=(0:Int))),()),())
else
 bif(b.2.1.2.1==(3:Int)) then
(f78 ((b.1.1,b.2.1.2.2.1,()),())).bind fun e=>
 some (((decide (e.1.1<(0:Int))),()),())
else
 some ((true,()),())
noncomputable def Qn:bg:=bq aH Tryz.f132 i132 O2 [] f132
theorem acU:bc ah 132 Qn:=bB QG Tryz.func132 (by kernel_rfl) (bJ Z0 aE) (fun y=>by kernel_rfl) fun a=>by kernel_rfl
noncomputable abbrev aeB:bZ:=[(126,Qp)]
theorem ae8:bz ah (bX aH aeB):=bV ⟨acW,⟨⟩⟩
abbrev i192:Shape:=⟨[hE 0 [bW,bQ,bW],aQ 1,aQ 2],[],30⟩
abbrev OM:Shape:=⟨[aV 6],[],30⟩
noncomputable def f192(a:i192.G):Option OM.G:=
 bif(!(a.1.1.1==a.1.2.1)) then
 some ((false,()),())
else
(f126 ((a.1.2.2.1,a.1.1.2.2.1,()),())).bind fun b=>
 bif(a.1.1.2.1==(1:Int)) then
 some (((b.1.1==(0:Int)),()),())
else
 bif(a.1.1.2.1==(2:Int)) then
 some (((decide (b.1.1>=(0:Int))),()),())
else
 bif(a.1.1.2.1==(3:Int)) then
 some (((decide (b.1.1<(0:Int))),()),())
else
 some ((true,()),())
noncomputable def Qa:bg:=bq aH Tryz.f192 i192 OM [] f192
theorem acK:bc ah 192 Qa:=bB ae8 Tryz.func192 (by kernel_rfl) aE (fun y=>by kernel_rfl) fun a=>by kernel_rfl
def uN:List Int->List Int->Int
 |[],[]=>0
 |[],_::_=>-1
 |_::_,[]=>1
 |x::a,y::b=>bif decide (x<y) then-1 else bif decide (x>y) then 1 else uN a b
theorem drop_cons{aJ:Type}{xs:List aJ}{k:Nat}{x:aJ}{r:List aJ}(h:xs.drop k=x::r):xs[k]? =some x/\xs.drop (k+1)=r/\k<xs.length:=by
 have h1:xs[k]? =some x:=by
  have:=congrArg (fun l=>l[0]?) h
  simpa using this
 refine⟨h1,?_,dh h1⟩;have:=congrArg List.tail h;simpa using this
theorem drop_nil{aJ:Type}{xs:List aJ}{k:Nat}(h:xs.drop k=[]):xs.length<=k:=by
 have:=congrArg List.length h;simp at this;omega
theorem XH(a):f224 a=some ((bif decide (a.1.1<a.1.2.1) then-1 else bif decide (a.1.1>a.1.2.1) then 1 else 0,()),()):=by
 obtain⟨⟨x,y,u⟩,bS⟩:=a;have hx:(x !=x)=false:=by simp
 have an:(y !=y)=false:=by simp
 simp only[f224,f259,Option.bind_some,hx,an,cond_false];cases decide (x<y)<;>cases decide (x>y)<;>rfl
theorem Wm(a)(h1:cM a.1.1.length)(h2:cM a.1.2.1.length):f184 a=some ((uN a.1.1 a.1.2.1,()),()):=by
 obtain⟨⟨xs,ys,u⟩,bS⟩:=a;have h1:xs.length<=2097152:=h1;have h2:ys.length<=2097152:=h2;have key:∀(us ws:List Int) (k:Nat),xs.drop k=us->ys.drop k=ws->k<=xs.length->
   (oO ((xs,(ys,(xs,((xs.length:Int),((k:Int),()))))),())).bind (fun abD=>(match abD with
    |.inl abC=>some ((abC.1.1,()),())
    |.inr Ns=>bif(decide ((Ns.1.1.length:Int)<(Ns.1.2.1.length:Int))) then some ((((-1):Int),()),()) else some (((0:Int),()),()):Option ET.G))=some ((uN us ws,()),()):=by
  intro us;induction us with
  |nil=>
   intro ws k bm hb ak;have bD:=drop_nil bm;have d1:decide ((k:Int)<(xs.length:Int))=false:=by simp only[decide_eq_false_iff_not];omega
   have:oO ((xs,(ys,(xs,((xs.length:Int),((k:Int),()))))),())=some (.inr ((xs,(ys,())),())):=by
    refine eU ?_
    simp only[tY,d1,cond_false]
   rw[this];simp only[Option.bind_some];cases ws with
   |nil=>
    have bM:=drop_nil hb;have:decide ((xs.length:Int)<(ys.length:Int))=false:=by simp only[decide_eq_false_iff_not];omega
    rw[this];rfl
   |cons y ws=>
    obtain⟨_,_,fl⟩:=drop_cons hb;rw[c_ (show xs.length<ys.length by omega)];rfl
  |cons x us ih=>
   intro ws k bm hb ak;obtain⟨bM,cv,fl⟩:=drop_cons bm;have hw:aW k:=by unfold aW;omega
   cases ws with
   |nil=>
    have bD:=drop_nil hb;have d1:decide ((k:Int)>=(ys.length:Int))=true:=by simp only[decide_eq_true_eq];omega
    have:oO ((xs,(ys,(xs,((xs.length:Int),((k:Int),()))))),())=some (.inl (((1:Int),()),())):=by
     refine eU ?_
     simp only[tY,c_ fl,cond_true,cF,bM,Option.bind_some,d1]
    rw[this];rfl
   |cons y ws=>
    obtain⟨e2,ce,fG⟩:=drop_cons hb;have d1:decide ((k:Int)>=(ys.length:Int))=false:=by simp only[decide_eq_false_iff_not];omega
    have step:tY ((xs,(ys,(xs,((xs.length:Int),((k:Int),()))))),())=some (bif decide (x<y) then .inr (.inl ((((-1):Int),()),())) else bif decide (x>y) then .inr (.inl (((1:Int),()),())) else .inl ((xs,(ys,(xs,((xs.length:Int),(((k+1:Nat):Int),()))))),())):=by
     simp only[tY,c_ fl,cF,bM,e2,d1,cond_true,cond_false,Option.bind_some,XH,c2 hw];cases decide (x<y)<;>cases decide (x>y)<;>rfl
    rw[uN];cases bb:decide (x<y) with
    |true=>rw[bb,cond_true] at step;rw[show oO ((xs,(ys,(xs,((xs.length:Int),((k:Int),()))))),())=_ from eU step];rfl
    |false=>
     rw[bb,cond_false] at step;cases AA:decide (x>y) with
     |true=>rw[AA,cond_true] at step;rw[show oO ((xs,(ys,(xs,((xs.length:Int),((k:Int),()))))),())=_ from eU step];rfl
     |false=>
      rw[AA,cond_false] at step;rw[show oO ((xs,(ys,(xs,((xs.length:Int),((k:Int),()))))),())=_ from hj step]
      exact ih ws (k+1) cv ce (by omega)
 have:=key xs ys 0 rfl rfl (Nat.zero_le _);simp only[f184];exact this
def uM(a b:E):Int:=bif gf a&&gf b then uN (lk a) (lk b) else 0
theorem ID(s:E):(lk s).length<=s.length+1:=by
 unfold lk im;rw[List.length_map];exact pI 46 s
theorem Ta(a)(h1:a.1.1.length<=2097151)(h2:a.1.2.1.length<=2097151):f78 a=some ((uM a.1.1 a.1.2.1,()),()):=by
 obtain⟨⟨x,y,u⟩,bS⟩:=a;have h1:x.length<=2097151:=h1;have h2:y.length<=2097151:=h2;have e1:=A1 ((x,()),()) (show x.length<=2097152 by omega)
 have e2:=A1 ((y,()),()) (show y.length<=2097152 by omega)
 simp only[f78,e1,e2,Option.bind_some,D7,uM,Bool.not_not];cases hx:gf x with
 |false=>rfl
 |true=>
  cases an:gf y with
  |false=>rfl
  |true=>
   have aka:=ID x;have agl:=ID y;have ce:=Wm ((lk x,(lk y,())),()) (show(lk x).length<=2097152 by omega) (show(lk y).length<=2097152 by omega)
   simp only[cond_true,Bool.not_true,Option.bind_some,cond_false,f128,ce,Bool.and_self]
def l4(n:dq)(v:E):Bool:=bif n.kind==1 then uM v n.cK==0 else bif n.kind==2 then decide (uM v n.cK>=0) else bif n.kind==3 then decide (uM v n.cK<0) else true
def zw(n:dq)(name v:E):Bool:=hV n&&gf v&&(name==n.name)&&l4 n v
theorem UY(a)(a8:cM a.1.1.1.length)(h1:a.1.1.2.2.1.length<=2097151)(h2:a.1.2.2.1.length<=2097151):f132 a=some ((zw ⟨a.1.1.1,a.1.1.2.1,a.1.1.2.2.1⟩ a.1.2.1 a.1.2.2.1,()),()):=by
 obtain⟨⟨⟨n,k,v,u⟩,m,w,bS⟩,sI⟩:=a;have h1:v.length<=2097151:=h1;have h2:w.length<=2097151:=h2;have e1:=Ta ((w,(v,())),()) h2 h1;have e2:=II (((n,(k,(v,()))),()),()) a8 (show v.length<=2097152 by omega)
 have ce:=A2 ((w,()),()) (show w.length<=2097152 by omega)
 simp only[f132,Dv,e1,e2,ce,Bool.not_not,Option.bind_some,zw,l4];cases hV ⟨n,k,v⟩ with
 |false=>rfl
 |true=>
  cases gf w with
  |false=>rfl
  |true=>
   cases (m==n) with
   |false=>rfl
   |true=>
    simp only[cond_true,Bool.not_true,Option.bind_some,cond_false,Bool.true_and];cases (k==1)<;>cases (k==2)<;>cases (k==3)<;>simp only[cond_true,cond_false,Option.bind_some,e1]
abbrev xZ:Shape:=⟨[aX 0 .pack,aQ 1,ar 5],[],20⟩
abbrev CW:List bh:=[(.ret,⟨[ar 4],[],20⟩),(.exit 0,⟨[],[],20⟩)]
noncomputable def _w(y:xZ.G):cJ xZ CW:=
 bif(decide (y.1.2.2.1<(y.1.1.length:Int))) then
(bd y.1.1 y.1.2.2.1).bind fun a=>
 bif(a.name==y.1.2.1) then
 some (.inr (.inl ((y.1.2.2.1,()),())))
else
 some (.inl ((y.1.1,y.1.2.1,(IntKind.i64.wrap (y.1.2.2.1+(1:Int))),()),()))
else
 some (.inr (.inr ((),())))
noncomputable def Lr:xZ.G->Option (a_ CW):=b8 _w
theorem Z5:bo ah (aO (codeOf Tryz.f104) 1 26) (bE xZ CW Lr):=cQ g0 (by kernel_rfl) aE fun y=>by kernel_rfl
abbrev i104:Shape:=⟨[aX 0 .pack,aQ 1],[],20⟩
abbrev O':Shape:=⟨[ar 4],[],20⟩
noncomputable def f104(a:i104.G):Option O'.G:=
(Lr ((a.1.1,a.1.2.1,(0:Int),()),())).bind fun b=>
(match b with
|.inl c=>
 some ((c.1.1,()),())
|.inr d=>
 some ((((-1):Int),()),()))
noncomputable def Qs:bg:=bq aH Tryz.f104 i104 O' [] f104
theorem acZ:bc ah 104 Qs:=bB g0 Tryz.func104 (by kernel_rfl) (bJ Z5 aE) (fun y=>by kernel_rfl) fun a=>by kernel_rfl
noncomputable abbrev aeN:bZ:=[(104,Qs),(192,Qa)]
theorem z':bz ah (bX aH aeN):=bV ⟨acZ,acK,⟨⟩⟩
abbrev HL:Shape:=⟨[aX 0 .pack,ar 3,ar 4,bx 5 5 0,ar 6],[bI 5 [bW,bQ,bW]],49⟩
abbrev HH:List bh:=[(.norm,⟨[aX 0 .pack,ar 3,ar 4,ar 35,aV 36,aV 37,aV 48],[],49⟩)]
noncomputable def HY(y:HL.G):Option (a_ HH):=
 bif(decide (y.1.2.2.2.2.1<(0:Int))) then
 some ((y.1.1,y.1.2.1,y.1.2.2.1,y.1.2.2.2.2.1,(decide (y.1.2.2.2.2.1<(0:Int))),true,true,()),())
else
(bd y.1.1 y.1.2.2.2.2.1).bind fun a=>
(f192 (((y.2.1.1,y.2.1.2.1,y.2.1.2.2.1,()),y.2.1.1,a.cK,()),())).bind fun b=>
 some ((y.1.1,y.1.2.1,y.1.2.2.1,y.1.2.2.2.2.1,(decide (y.1.2.2.2.2.1<(0:Int))),false,(!b.1.1),()),())
theorem Ur:bo ah (aO (dT (aO (dT (aO (codeOf Tryz.f135) 1 26)) 52 1682)) 3364 215334) (bE HL HH HY):=dD z' (by kernel_rfl) aE fun y=>by kernel_rfl
abbrev wO:Shape:=⟨[aX 0 .pack,ar 3,ar 4],[],49⟩
abbrev By:List bh:=[(.ret,⟨[aV 2],[],49⟩),(.exit 2,⟨[aX 0 .pack,ar 3],[],49⟩)]
noncomputable def Xh(y:wO.G):cJ wO By:=
(bd y.1.1 y.1.2.1).bind fun a=>
 bif(decide (y.1.2.2.1<(a.b_.length:Int))) then
(bd y.1.1 y.1.2.1).bind fun b=>
(bd b.b_ y.1.2.2.1).bind fun c=>
(f104 ((y.1.1,c.name,()),())).bind fun d=>
(HY ((y.1.1,y.1.2.1,y.1.2.2.1,(),d.1.1,()),(c.name,c.kind,c.cK,()),())).bind fun e=>
 bif e.1.2.2.2.2.2.2.1 then
 some (.inr (.inl ((false,()),())))
else
 some (.inl ((e.1.1,e.1.2.1,(IntKind.i64.wrap (e.1.2.2.1+(1:Int))),()),()))
else
 some (.inr (.inr ((y.1.1,y.1.2.1,()),())))
noncomputable def Jh:wO.G->Option (a_ By):=b8 Xh
theorem WW:bo ah (aO (dT (aO (codeOf Tryz.f135) 1 26)) 52 1682) (bE wO By Jh):=cQ z' (by kernel_rfl) (bJ Ur aE) fun y=>by kernel_rfl
abbrev xW:Shape:=⟨[aX 0 .pack,ar 3],[],49⟩
abbrev CT:List bh:=[(.ret,⟨[aV 2],[],49⟩),(.exit 0,⟨[],[],49⟩)]
noncomputable def _v(y:xW.G):cJ xW CT:=
 bif(decide (y.1.2.1<(y.1.1.length:Int))) then
(Jh ((y.1.1,y.1.2.1,(0:Int),()),())).bind fun a=>
(match a with
|.inl b=>
 some (.inr (.inl ((b.1.1,()),())))
|.inr c=>
 some (.inl ((c.1.1,(IntKind.i64.wrap (c.1.2.1+(1:Int))),()),())))
else
 some (.inr (.inr ((),())))
noncomputable def Lq:xW.G->Option (a_ CT):=b8 _v
theorem ZZ:bo ah (aO (codeOf Tryz.f135) 1 26) (bE xW CT Lq):=cQ z' (by kernel_rfl) (bJ WW aE) fun y=>by kernel_rfl
abbrev i135:Shape:=⟨[aX 0 .pack],[],49⟩
abbrev O1:Shape:=⟨[aV 2],[],49⟩
noncomputable def f135(a:i135.G):Option O1.G:=
(Lq ((a.1.1,(0:Int),()),())).bind fun b=>
(match b with
|.inl c=>
 some ((c.1.1,()),())
|.inr d=>
 some ((true,()),()))
noncomputable def Qm:bg:=bq aH Tryz.f135 i135 O1 [] f135
theorem acT:bc ah 135 Qm:=bB z' Tryz.func135 (by kernel_rfl) (bJ ZZ aE) (fun y=>by kernel_rfl) fun a=>by kernel_rfl
noncomputable abbrev ahV:bZ:=[(51,Se),(98,GB),(135,Qm)]
theorem GI:bz ah (bX aH ahV):=bV ⟨z51,QL,acT,⟨⟩⟩
abbrev KV:Shape:=⟨[aX 0 .pack,ar 3],[],52⟩
abbrev KK:List bh:=[(.norm,⟨[aX 0 .pack,ar 3,aX 12 .pack,ar 13,(14,.aq (.e8 [.str,.str,.sl .need,.sl .entry] 0)),hE 15 [bW,bW,cm .need,cm .entry],aV 16,aV 17,aV 18,aV 35],[],52⟩)]
noncomputable def Lv(y:KV.G):Option (a_ KK):=
(bd y.1.1 y.1.2.1).bind fun a=>
(f98 (((a.name,a.cK,a.b_,a.ei,()),()),())).bind fun b=>
 bif(!b.1.1) then
 some ((y.1.1,y.1.2.1,y.1.1,y.1.2.1,(a.name,a.cK,a.b_,a.ei,()),(a.name,a.cK,a.b_,a.ei,()),b.1.1,(!b.1.1),true,true,()),())
else
 bif(decide (y.1.2.1>(0:Int))) then
(bd y.1.1 (IntKind.i64.wrap (y.1.2.1-(1:Int)))).bind fun c=>
(bd y.1.1 y.1.2.1).bind fun d=>
 some ((y.1.1,y.1.2.1,y.1.1,y.1.2.1,(a.name,a.cK,a.b_,a.ei,()),(a.name,a.cK,a.b_,a.ei,()),b.1.1,(!b.1.1),false,(!(Op.bytesLess c.name d.name)),()),())
else
 some ((y.1.1,y.1.2.1,y.1.1,y.1.2.1,(a.name,a.cK,a.b_,a.ei,()),(a.name,a.cK,a.b_,a.ei,()),b.1.1,(!b.1.1),false,false,()),())
theorem Zs:bo ah (aO (dT (aO (codeOf Tryz.f85) 1 26)) 52 840) (bE KV KK Lv):=dD GI (by kernel_rfl) aE fun y=>by kernel_rfl
abbrev yB:Shape:=⟨[aX 0 .pack,ar 3],[],52⟩
abbrev DL:List bh:=[(.ret,⟨[ar 2],[],52⟩),(.exit 0,⟨[aX 0 .pack],[],52⟩)]
noncomputable def aaB(y:yB.G):cJ yB DL:=
 bif(decide (y.1.2.1<(y.1.1.length:Int))) then
(Lv ((y.1.1,y.1.2.1,()),())).bind fun a=>
 bif a.1.2.2.2.2.2.2.2.2.2.1 then
 some (.inr (.inl (((1:Int),()),())))
else
 some (.inl ((a.1.1,(IntKind.i64.wrap (a.1.2.1+(1:Int))),()),()))
else
 some (.inr (.inr ((y.1.1,()),())))
noncomputable def Mx:yB.G->Option (a_ DL):=b8 aaB
theorem aab:bo ah (aO (codeOf Tryz.f85) 1 26) (bE yB DL Mx):=cQ GI (by kernel_rfl) (bJ Zs aE) fun y=>by kernel_rfl
abbrev i85:Shape:=⟨[aX 0 .pack],[],52⟩
abbrev Q3:Shape:=⟨[ar 2],[],52⟩
noncomputable def f85(a:i85.G):Option Q3.G:=
(Mx ((a.1.1,(0:Int),()),())).bind fun b=>
(match b with
|.inl c=>
 some ((c.1.1,()),())
|.inr d=>
(f51 ((d.1.1,()),())).bind fun e=>
 bif(decide ((d.1.1.length:Int)>(5:Int))) then
 some (((6:Int),()),())
else
(f135 ((d.1.1,()),())).bind fun f=>
 bif(!f.1.1) then
 some (((4:Int),()),())
else
 bif(!e.1.2.1) then
 some (((5:Int),()),())
else
 some (((0:Int),()),()))
noncomputable def R_:bg:=bq aH Tryz.f85 i85 Q3 [] f85
theorem z85:bc ah 85 R_:=bB GI Tryz.func85 (by kernel_rfl) (bJ aab aE) (fun y=>by kernel_rfl) fun a=>by kernel_rfl
noncomputable abbrev ah2:bZ:=[(85,R_)]
theorem aia:bz ah (bX aH ah2):=bV ⟨z85,⟨⟩⟩
abbrev i46:Shape:=⟨[hE 0 [cm .pack]],[],7⟩
abbrev Q_:Shape:=⟨[aV 2],[],7⟩
noncomputable def f46(a:i46.G):Option Q_.G:=
(f85 ((a.1.1.1,()),())).bind fun b=>
 some (((b.1.1==(0:Int)),()),())
noncomputable def ahN:bg:=bq aH Tryz.f46 i46 Q_ [] f46
theorem z46:bc ah 46 ahN:=bB aia Tryz.func46 (by kernel_rfl) aE (fun y=>by kernel_rfl) fun a=>by kernel_rfl
abbrev q5(ps:List a6):Prop:=∀p,p∈ps->p.cK.length<=2097151/\∀n,n∈p.b_->n.cK.length<=2097151
def Nz(ps:List a6)(n:dq):Bool:=match ps.find? (fun q=>q.name==n.name) with
 |some q=>l4 n q.cK
 |none=>false
def L5(ps:List a6):Bool:=ps.all fz&&PH ps&&decide (ps.length<=5)&&ps.all (fun p=>p.b_.all (Nz ps))&&(lX [] ps).isSome
def Ey(ps:List a6):Int:=bif ps.all fz&&PH ps then(bif decide (ps.length<=5) then(bif ps.all (fun p=>p.b_.all (Nz ps)) then(bif(lX [] ps).isSome then 0 else 5) else 4) else 6) else 1
abbrev I5:Shape:=⟨[bx 0 500000 0,ar 1],[bI 500000 [cm .u8,bQ]],99⟩
abbrev IS:List bh:=[(.norm,⟨[bx 0 500000 0,ar 1,aV 24],[bI 500000 [cm .u8,bQ]],99⟩)]
noncomputable def wY(y:I5.G):Option (a_ IS):=
 bif(!(decide (y.1.2.1<(1:Int)))) then
 some (((),y.1.2.1,((y.2.1.1.length:Int)==(0:Int)),()),(y.2.1.1,y.2.1.2.1,()),())
else
 some (((),y.1.2.1,true,()),(y.2.1.1,y.2.1.2.1,()),())
theorem WX:bo ah (aO (codeOf Tryz.f129) 1 28) (bE I5 IS wY):=dD g0 (by kernel_rfl) aE fun y=>by kernel_rfl
abbrev MS:Shape:=⟨[bx 0 500000 0,ar 1],[bI 500000 [cm .u8,bQ]],99⟩
abbrev Mq:Shape:=⟨[bx 0 500000 0,ar 4],[bI 500000 [cm .u8,bQ]],99⟩
noncomputable def gx(a:MS.G):Option Mq.G:=
(wY (((),a.1.2.1,()),(a.2.1.1,(IntKind.i64.wrap (a.2.1.2.1+(1:Int))),()),())).bind fun b=>
 bif b.1.2.2.1 then
 some (((),(0:Int),()),(b.2.1.1,b.2.1.2.1,()),())
else
 bif(decide ((IntKind.i64.wrap (b.2.1.2.1-(1:Int)))<(b.2.1.1.length:Int))) then
(bd b.2.1.1 (IntKind.i64.wrap (b.2.1.2.1-(1:Int)))).bind fun c=>
(lq (IntKind.i64.wrap c) b.1.2.1).bind fun d=>
 some (((),d,()),(b.2.1.1,b.2.1.2.1,()),())
else
(lq (IntKind.i64.wrap (b.2.1.2.1-(1:Int))) (b.2.1.1.length:Int)).bind fun e=>
(bd b.2.1.1 e).bind fun f=>
(lq (IntKind.i64.wrap ((IntKind.i64.wrap ((IntKind.i64.wrap (b.2.1.2.1-(1:Int)))*(7:Int)))+(3:Int))) (b.2.1.1.length:Int)).bind fun g=>
(bd b.2.1.1 g).bind fun h=>
(o8 .i64 (IntKind.i64.wrap (b.2.1.2.1-(1:Int))) (b.2.1.1.length:Int)).bind fun i=>
(o8 .i64 (IntKind.i64.wrap ((IntKind.i64.wrap ((IntKind.i64.wrap ((IntKind.i64.wrap ((IntKind.i64.wrap f)*(131:Int)))+(IntKind.i64.wrap ((IntKind.i64.wrap h)*(1117:Int)))))+(IntKind.i64.wrap ((IntKind.i64.wrap (b.2.1.2.1-(1:Int)))*(29:Int)))))+(IntKind.i64.wrap (i*(53:Int))))) (64:Int)).bind fun j=>
(lq (mY .i64 (IntKind.i64.wrap ((IntKind.i64.wrap ((IntKind.i64.wrap ((IntKind.i64.wrap ((IntKind.i64.wrap f)*(131:Int)))+(IntKind.i64.wrap ((IntKind.i64.wrap h)*(1117:Int)))))+(IntKind.i64.wrap ((IntKind.i64.wrap (b.2.1.2.1-(1:Int)))*(29:Int)))))+(IntKind.i64.wrap (i*(53:Int))))) j) b.1.2.1).bind fun k=>
 some (((),k,()),(b.2.1.1,b.2.1.2.1,()),())
noncomputable def j5:bg:=bq aH Tryz.f129 MS Mq [0] gx
theorem kw:bc ah 129 j5:=bB g0 Tryz.func129 (by kernel_rfl) (bJ WX aE) (fun y=>by kernel_rfl) fun a=>by kernel_rfl
noncomputable abbrev ach:bZ:=[(129,j5)]
theorem acj:bz ah (bX aH ach):=bV ⟨kw,⟨⟩⟩
abbrev NF:Shape:=⟨[bx 0 500000 0,aX 1 .str],[bI 500000 [cm .u8,bQ]],12⟩
abbrev Nu:Shape:=⟨[bx 0 500000 0,aQ 4],[bI 500000 [cm .u8,bQ]],12⟩
noncomputable def jm(a:NF.G):Option Nu.G:=
(gx (((),(a.1.2.1.length:Int),()),(a.2.1.1,a.2.1.2.1,()),())).bind fun b=>
(bd a.1.2.1 b.1.2.1).bind fun c=>
 some (((),c,()),(b.2.1.1,b.2.1.2.1,()),())
noncomputable def kH:bg:=bq aH Tryz.f81 NF Nu [0] jm
theorem lj:bc ah 81 kH:=bB acj Tryz.func81 (by kernel_rfl) aE (fun y=>by kernel_rfl) fun a=>by kernel_rfl
noncomputable abbrev aa6:bZ:=[(81,kH)]
theorem abm:bz ah (bX aH aa6):=bV ⟨lj,⟨⟩⟩
abbrev MR:Shape:=⟨[bx 0 500000 0],[bI 500000 [cm .u8,bQ]],6⟩
abbrev Mp:Shape:=⟨[bx 0 500000 0,aQ 2],[bI 500000 [cm .u8,bQ]],6⟩
noncomputable def pY(a:MR.G):Option Mp.G:=
(jm (((),([([49]:E),([49,46,48]:E),([49,46,49]:E),([49,46,50]:E),([50]:E),([48,46,57,46,57]:E),([49,46,49,48]:E),([57,57,57,46,57,57,57,46,57,57,57,46,57,57,57]:E)]:List E),()),(a.2.1.1,a.2.1.2.1,()),())).bind fun b=>
 some (((),b.1.2.1,()),(b.2.1.1,b.2.1.2.1,()),())
noncomputable def ur:bg:=bq aH Tryz.f130 MR Mp [0] pY
theorem yq:bc ah 130 ur:=bB abm Tryz.func130 (by kernel_rfl) aE (fun y=>by kernel_rfl) fun a=>by kernel_rfl
noncomputable abbrev aej:bZ:=[(156,z6),(157,z1),(210,Fw),(211,Fv),(212,Fu)]
theorem FF:bz ah (bX aH aej):=bV ⟨z156,z157,z210,N2,z212,⟨⟩⟩
abbrev J':Shape:=⟨[aX 0 .entry,bx 3 3 0,bU 4 3000256,aV 5,ar 6,aV 7,bU 8 3000512],[bI 3 [bW,bQ,bQ,bW],b3 3000256 .entry 4 0,b3 3000512 .entry 8 0],68⟩
abbrev JU:List bh:=[(.norm,⟨[aX 0 .entry,bx 3 3 0,bU 4 3000256,aV 5,ar 6,aV 7,bU 8 3000512,aV 18],[bI 3 [bW,bQ,bQ,bW],b3 3000256 .entry 4 0,b3 3000512 .entry 8 0],68⟩)]
noncomputable def xm(y:J'.G):Option (a_ JU):=
(f210 (((y.2.1.1,y.2.1.2.1,y.2.1.2.2.1,y.2.1.2.2.2.1,()),()),())).bind fun a=>
 bif(!(!a.1.1)) then
(f212 ((y.2.1.1,()),())).bind fun b=>
(f211 ((y.1.1,b.1.1,()),())).bind fun c=>
 some ((y.1.1,(),(),y.1.2.2.2.1,y.1.2.2.2.2.1,y.1.2.2.2.2.2.1,(),(!c.1.1),()),(y.2.1.1,y.2.1.2.1,y.2.1.2.2.1,y.2.1.2.2.2.1,()),y.2.2.1,y.2.2.2.1,())
else
 some ((y.1.1,(),(),y.1.2.2.2.1,y.1.2.2.2.2.1,y.1.2.2.2.2.2.1,(),true,()),(y.2.1.1,y.2.1.2.1,y.2.1.2.2.1,y.2.1.2.2.2.1,()),y.2.2.1,y.2.2.2.1,())
theorem Yf:bo ah (aO (codeOf Tryz.f262) 1 120) (bE J' JU xm):=dD FF (by kernel_rfl) aE fun y=>by kernel_rfl
abbrev J_:Shape:=⟨[aX 0 .entry,bx 3 3 0,bU 4 3000256,aV 5,ar 6,aV 7,bU 8 3000512],[bI 3 [bW,bQ,bQ,bW],b3 3000256 .entry 4 0,b3 3000512 .entry 8 0],68⟩
abbrev JT:List bh:=[(.norm,⟨[aX 0 .entry,bx 3 3 0,bU 4 3000256,aV 5,ar 6,aV 7,bU 8 3000512,aV 31],[bI 3 [bW,bQ,bQ,bW],b3 3000256 .entry 4 0,b3 3000512 .entry 8 0],68⟩)]
noncomputable def xl(y:J_.G):Option (a_ JT):=
 bif y.1.2.2.2.2.2.1 then
(bd y.1.1 y.1.2.2.2.2.1).bind fun a=>
 some ((y.1.1,(),(),y.1.2.2.2.1,y.1.2.2.2.2.1,y.1.2.2.2.2.2.1,(),(a.kind !=y.2.1.2.1),()),(y.2.1.1,y.2.1.2.1,y.2.1.2.2.1,y.2.1.2.2.2.1,()),y.2.2.1,y.2.2.2.1,())
else
 some ((y.1.1,(),(),y.1.2.2.2.1,y.1.2.2.2.2.1,y.1.2.2.2.2.2.1,(),false,()),(y.2.1.1,y.2.1.2.1,y.2.1.2.2.1,y.2.1.2.2.2.1,()),y.2.2.1,y.2.2.2.1,())
theorem Ye:bo ah (aO (codeOf Tryz.f262) 1 486) (bE J_ JT xl):=dD FF (by kernel_rfl) aE fun y=>by kernel_rfl
abbrev i262:Shape:=⟨[aX 0 .entry,hE 1 [bW,bQ,bQ,bW]],[],68⟩
abbrev Oo:Shape:=⟨[bU 4 3000256,aV 5],[b3 3000256 .entry 4 0],68⟩
noncomputable def f262(a:i262.G):Option Oo.G:=
(f157 ((a.1.1,a.1.2.1.1,()),())).bind fun b=>
(f156 ((a.1.1,()),())).bind fun c=>
(xm ((a.1.1,(),(),false,b.1.1,b.1.2.1,(),()),(a.1.2.1.1,a.1.2.1.2.1,a.1.2.1.2.2.1,a.1.2.1.2.2.2.1,()),([]:List bu),c.2.1,())).bind fun d=>
 bif d.1.2.2.2.2.2.2.2.1 then
 some (((),false,()),d.2.2.2.1,())
else
(xl ((d.1.1,(),(),d.1.2.2.2.1,d.1.2.2.2.2.1,d.1.2.2.2.2.2.1,(),()),(d.2.1.1,d.2.1.2.1,d.2.1.2.2.1,d.2.1.2.2.2.1,()),d.2.2.1,d.2.2.2.1,())).bind fun e=>
 bif e.1.2.2.2.2.2.2.2.1 then
 some (((),false,()),e.2.2.2.1,())
else
 bif e.1.2.2.2.2.2.1 then
(hy e.2.2.2.1.length e.1.2.2.2.2.1).bind fun f=>
((e.2.2.2.1[f]?).bind fun q=>some (bu.mk e.2.1.1 e.2.1.2.1 e.2.1.2.2.1 e.2.1.2.2.2.1)).bind fun g=>
 some (((),true,()),(e.2.2.2.1.set f g),())
else
 bif(decide ((e.1.1.length:Int)>=(16:Int))) then
 some (((),false,()),e.2.2.2.1,())
else
(cB e.1.1 (0:Int) e.1.2.2.2.2.1).bind fun h=>
(cT 48 ([]:List bu) h).bind fun i=>
(cT 48 i ([(bu.mk e.2.1.1 e.2.1.2.1 e.2.1.2.2.1 e.2.1.2.2.2.1)]:List bu)).bind fun j=>
(cB e.1.1 e.1.2.2.2.2.1 (e.1.1.length:Int)).bind fun k=>
(cT 48 j k).bind fun l=>
 some (((),true,()),l,())
noncomputable def PW:bg:=bq aH Tryz.f262 i262 Oo [] f262
theorem acy:bc ah 262 PW:=bB FF Tryz.func262 (by kernel_rfl) (bJ Yf (bJ Ye aE)) (fun y=>by kernel_rfl) fun a=>by kernel_rfl
noncomputable abbrev aaU:bZ:=[(129,j5)]
theorem abc:bz ah (bX aH aaU):=bV ⟨kw,⟨⟩⟩
abbrev MF:Shape:=⟨[bx 0 500000 0,aX 1 .i64],[bI 500000 [cm .u8,bQ]],12⟩
abbrev Md:Shape:=⟨[bx 0 500000 0,ar 4],[bI 500000 [cm .u8,bQ]],12⟩
noncomputable def ui(a:MF.G):Option Md.G:=
(gx (((),(a.1.2.1.length:Int),()),(a.2.1.1,a.2.1.2.1,()),())).bind fun b=>
(bd a.1.2.1 b.1.2.1).bind fun c=>
 some (((),c,()),(b.2.1.1,b.2.1.2.1,()),())
noncomputable def Ee:bg:=bq aH Tryz.f265 MF Md [0] ui
theorem LO:bc ah 265 Ee:=bB abc Tryz.func265 (by kernel_rfl) aE (fun y=>by kernel_rfl) fun a=>by kernel_rfl
noncomputable abbrev aaT:bZ:=[(81,kH)]
theorem abb:bz ah (bX aH aaT):=bV ⟨lj,⟨⟩⟩
abbrev ME:Shape:=⟨[bx 0 500000 0],[bI 500000 [cm .u8,bQ]],6⟩
abbrev Mc:Shape:=⟨[bx 0 500000 0,aQ 2],[bI 500000 [cm .u8,bQ]],6⟩
noncomputable def rV(a:ME.G):Option Mc.G:=
(jm (((),([([97]:E),([98]:E),([97,47,98]:E),([97,47,99]:E),([97,47,98,47,99]:E),([108,105,98]:E),([108,105,98,47,120]:E),([108,105,98,47,120,46,99]:E),([100,111,99,47,121]:E),([98,105,110]:E),([98,105,110,47,122]:E),([97,47,98,47,99,47,100,47,101]:E)]:List E),()),(a.2.1.1,a.2.1.2.1,()),())).bind fun b=>
 some (((),b.1.2.1,()),(b.2.1.1,b.2.1.2.1,()),())
noncomputable def Ed:bg:=bq aH Tryz.f291 ME Mc [0] rV
theorem LN:bc ah 291 Ed:=bB abb Tryz.func291 (by kernel_rfl) aE (fun y=>by kernel_rfl) fun a=>by kernel_rfl
abbrev J9:Shape:=⟨[aQ 0,ar 1,aQ 5],[],20⟩
abbrev JS:List bh:=[(.norm,⟨[aQ 0,ar 1,aQ 5],[],20⟩)]
noncomputable def xk(y:J9.G):Option (a_ JS):=
(lq y.1.2.1 (2:Int)).bind fun a=>
 bif(a==(1:Int)) then
(lJ y.1.2.2.1 y.1.1).bind fun b=>
 some ((y.1.1,y.1.2.1,b,()),())
else
 some ((y.1.1,y.1.2.1,y.1.2.2.1,()),())
theorem Yd:bo ah (aO (dT (aO (codeOf Tryz.f266) 1 28)) 56 452) (bE J9 JS xk):=dD g0 (by kernel_rfl) aE fun y=>by kernel_rfl
abbrev xD:Shape:=⟨[aQ 0,ar 1,aQ 5],[],20⟩
abbrev CD:List bh:=[(.exit 0,⟨[aQ 5],[],20⟩)]
noncomputable def LA(y:xD.G):cJ xD CD:=
 bif(decide (y.1.2.1>(0:Int))) then
(xk ((y.1.1,y.1.2.1,y.1.2.2.1,()),())).bind fun a=>
(lJ a.1.1 a.1.1).bind fun b=>
(o8 .i64 a.1.2.1 (2:Int)).bind fun c=>
 some (.inl ((b,c,a.1.2.2.1,()),()))
else
 some (.inr ((y.1.2.2.1,()),()))
noncomputable def C_:xD.G->Option (a_ CD):=b8 LA
theorem ZD:bo ah (aO (codeOf Tryz.f266) 1 28) (bE xD CD C_):=cQ g0 (by kernel_rfl) (bJ Yd aE) fun y=>by kernel_rfl
abbrev i266:Shape:=⟨[aQ 0,ar 1],[],20⟩
abbrev On:Shape:=⟨[aQ 4],[],20⟩
noncomputable def f266(a:i266.G):Option On.G:=
(C_ ((a.1.1,a.1.2.1,([]:E),()),())).bind fun b=>
 some ((b.1.1,()),())
noncomputable def Fq:bg:=bq aH Tryz.f266 i266 On [] f266
theorem NZ:bc ah 266 Fq:=bB g0 Tryz.func266 (by kernel_rfl) (bJ ZD aE) (fun y=>by kernel_rfl) fun a=>by kernel_rfl
noncomputable abbrev aaS:bZ:=[(81,kH),(266,Fq)]
theorem aba:bz ah (bX aH aaS):=bV ⟨lj,NZ,⟨⟩⟩
abbrev MD:Shape:=⟨[bx 0 500000 0],[bI 500000 [cm .u8,bQ]],7⟩
abbrev Mb:Shape:=⟨[bx 0 500000 0,aQ 2],[bI 500000 [cm .u8,bQ]],7⟩
noncomputable def y3(a:MD.G):Option Mb.G:=
(f266 ((([116]:E),(80:Int),()),())).bind fun b=>
(jm (((),([([]:E),([111,110,101,10]:E),([111,110,101,10,116,119,111,10,116,104,114,101,101,10]:E),([110,111,32,101,110,100]:E),([97,10,98,10,99,10,100,10,101,10,102,10,103,10]:E),b.1.1]:List E),()),(a.2.1.1,a.2.1.2.1,()),())).bind fun c=>
 some (((),c.1.2.1,()),(c.2.1.1,c.2.1.2.1,()),())
noncomputable def M6:bg:=bq aH Tryz.f292 MD Mb [0] y3
theorem _P:bc ah 292 M6:=bB aba Tryz.func292 (by kernel_rfl) aE (fun y=>by kernel_rfl) fun a=>by kernel_rfl
noncomputable abbrev aaW:bZ:=[(129,j5),(265,Ee),(291,Ed),(292,M6)]
theorem abe:bz ah (bX aH aaW):=bV ⟨kw,LO,LN,_P,⟨⟩⟩
abbrev MH:Shape:=⟨[bx 0 500000 0],[bI 500000 [cm .u8,bQ]],26⟩
abbrev Mf:Shape:=⟨[bx 0 500000 0,bx 2 2 0],[bI 500000 [cm .u8,bQ],bI 2 [bW,bQ,bQ,bW]],26⟩
noncomputable def uj(a:MH.G):Option Mf.G:=
(rV (((),()),(a.2.1.1,a.2.1.2.1,()),())).bind fun b=>
(ui (((),([(1:Int),(1:Int),(2:Int),(2:Int),(3:Int)]:List Int),()),(b.2.1.1,b.2.1.2.1,()),())).bind fun c=>
(gx (((),(8:Int),()),(c.2.1.1,c.2.1.2.1,()),())).bind fun d=>
 bif(c.1.2.1==(2:Int)) then
(y3 (((),()),(d.2.1.1,d.2.1.2.1,()),())).bind fun e=>
 some (((),(),()),(e.2.1.1,e.2.1.2.1,()),(b.1.2.1,c.1.2.1,d.1.2.1,e.1.2.1,()),())
else
 bif(c.1.2.1==(3:Int)) then
(rV (((),()),(d.2.1.1,d.2.1.2.1,()),())).bind fun f=>
 some (((),(),()),(f.2.1.1,f.2.1.2.1,()),(b.1.2.1,c.1.2.1,(0:Int),f.1.2.1,()),())
else
 some (((),(),()),(d.2.1.1,d.2.1.2.1,()),(b.1.2.1,c.1.2.1,d.1.2.1,([]:E),()),())
noncomputable def Ef:bg:=bq aH Tryz.f263 MH Mf [0] uj
theorem LP:bc ah 263 Ef:=bB abe Tryz.func263 (by kernel_rfl) aE (fun y=>by kernel_rfl) fun a=>by kernel_rfl
theorem hI(a)(m:Nat)(h:c8 a.2.1.1 a.2.1.2.1 m)(hm:1<=m):Z (gx a) (fun r=>c8 r.2.1.1 r.2.1.2.1 (m-1)/\(0:Int)<=r.1.2.1/\((1:Int)<=a.1.2.1->(r.1.2.1:Int)<a.1.2.1)):=by
 obtain⟨⟨u1,(n:Int),u2⟩,⟨⟨(b:List Int),(p:Int),GN⟩,aim⟩⟩:=a;have h:c8 b p m:=h;obtain⟨h1,h2,aa,aN⟩:=h;have e1:IntKind.i64.wrap (p+1)=p+1:=eh (by omega) (by omega)
 have e2:IntKind.i64.wrap (p+1-1)=p:=by rw[show p+1-1=p by omega];exact eh (by omega) (by omega)
 have R:c8 b (p+1) (m-1):=⟨h1,h2,by omega,by omega⟩
 unfold gx;simp only[e1];have aF:wY (((),(n,())),((b,(p+1,())),()))=some ((((),(n,((decide (n<1)||(b.length:Int)==0),()))),((b,(p+1,())),()))):=by
  unfold wY;cases decide (n<1)<;>rfl
 refine Z.eq aF ?_
 refine Z.ite (fun hc=>Z.ret ⟨R,Int.le_refl _,fun hn=>hn⟩) fun hc=>?_
 have hc:(decide (n<1)||(b.length:Int)==0)=false:=hc;simp only[Bool.or_eq_false_iff,decide_eq_false_iff_not,beq_eq_false_iff_ne,ne_eq] at hc;have hn:1<=n:=by omega
 have hb:0<b.length:=by omega
 simp only[e2];refine Z.ite (fun Y=>?_) fun Y=>?_
 ·have Y:p<(b.length:Int):=of_decide_eq_true Y;obtain⟨x,aw,aj⟩:=l3 (xs:=b) aa Y;obtain⟨bA,cD⟩:=h2 x aj;refine Z.eq aw ?_
  have ce:IntKind.i64.wrap x=x:=eh (by omega) (by omega)
  refine Z.eq (x:=x%n) (by show lq (IntKind.i64.wrap x) n=_;rw[ce];exact rQ bA (by omega)) ?_
  exact Z.ret ⟨R,Int.emod_nonneg _ (by omega),fun _=>Int.emod_lt_of_pos _ (by omega)⟩
 ·have hl:0<(b.length:Int):=by omega
  have qY:IntKind.i64.wrap (IntKind.i64.wrap (p*7)+3)=p*7+3:=by rw[eh (n:=p*7) (by omega) (by omega)];exact eh (by omega) (by omega)
  obtain⟨x,aw,aj⟩:=l3 (xs:=b) (Int.emod_nonneg p (b:=(b.length:Int)) (by omega)) (Int.emod_lt_of_pos p hl)
  obtain⟨bA,cD⟩:=h2 x aj;obtain⟨y,cu,dX⟩:=l3 (xs:=b) (Int.emod_nonneg (p*7+3) (b:=(b.length:Int)) (by omega)) (Int.emod_lt_of_pos (p*7+3) hl)
  obtain⟨SI,akC⟩:=h2 y dX;have q0:0<=p/(b.length:Int):=Int.ediv_nonneg aa (by omega)
  have q1:p/(b.length:Int)<=p:=Int.ediv_le_self _ aa;refine Z.eq (x:=p%(b.length:Int)) (rQ aa hl) ?_
  refine Z.eq aw ?_
  refine Z.eq (x:=(p*7+3)%(b.length:Int)) (by show lq (IntKind.i64.wrap (IntKind.i64.wrap (p*7)+3)) (b.length:Int)=_;rw[qY];exact rQ (by omega) hl) ?_
  refine Z.eq cu ?_
  refine Z.eq (x:=p/(b.length:Int)) (yK rfl aa (by omega) hl) ?_
  have cf:IntKind.i64.wrap x=x:=eh (by omega) (by omega)
  have w2:IntKind.i64.wrap y=y:=eh (by omega) (by omega)
  have hT:IntKind.i64.wrap (x*131)=x*131:=eh (by omega) (by omega)
  have qS:IntKind.i64.wrap (y*1117)=y*1117:=eh (by omega) (by omega)
  have qR:IntKind.i64.wrap (x*131+y*1117)=x*131+y*1117:=eh (by omega) (by omega)
  have tb:IntKind.i64.wrap (p*29)=p*29:=eh (by omega) (by omega)
  have Sz:IntKind.i64.wrap (x*131+y*1117+p*29)=x*131+y*1117+p*29:=eh (by omega) (by omega)
  have pB:IntKind.i64.wrap (p/(b.length:Int)*53)=p/(b.length:Int)*53:=eh (by omega) (by omega)
  have hS:IntKind.i64.wrap (x*131+y*1117+p*29+p/(b.length:Int)*53)=x*131+y*1117+p*29+p/(b.length:Int)*53:=eh (by omega) (by omega)
  simp only[cf,w2,hT,qS,qR,tb,Sz,pB,hS];have qX:0<=x*131+y*1117+p*29+p/(b.length:Int)*53:=by omega
  have b6:x*131+y*1117+p*29+p/(b.length:Int)*53<4611686018427387904:=by omega
  generalize x*131+y*1117+p*29+p/(b.length:Int)*53=X at qX b6;refine Z.eq (x:=X/64) (yK rfl qX (by omega) (by decide)) ?_
  have hx:=_0 qX b6 (Int.ediv_nonneg qX (by decide:(0:Int)<=64)) (Int.lt_of_le_of_lt (Int.ediv_le_self 64 qX) b6)
  refine Z.eq (x:=mY .i64 X (X/64)%n) (rQ hx (by omega)) ?_
  exact Z.ret ⟨R,Int.emod_nonneg _ (by omega),fun _=>Int.emod_lt_of_pos _ (by omega)⟩
theorem kJ(a)(m:Nat)(h:c8 a.2.1.1 a.2.1.2.1 m)(hm:1<=m)(hl:(1:Int)<=(a.1.2.1:List E).length):Z (jm a) (fun r=>c8 r.2.1.1 r.2.1.2.1 (m-1)/\r.1.2.1∈(a.1.2.1:List E)):=by
 unfold jm;refine Z.bind (hI _ m h hm) fun r hr=>?_
 obtain⟨x,aw,aj⟩:=l3 (xs:=(a.1.2.1:List E)) hr.2.1 (hr.2.2 hl);exact Z.eq aw (Z.ret ⟨hr.1,aj⟩)
theorem Nl(a)(m:Nat)(h:c8 a.2.1.1 a.2.1.2.1 m)(hm:1<=m)(hl:(1:Int)<=(a.1.2.1:List Int).length):Z (ui a) (fun r=>c8 r.2.1.1 r.2.1.2.1 (m-1)/\r.1.2.1∈(a.1.2.1:List Int)):=by
 unfold ui;refine Z.bind (hI _ m h hm) fun r hr=>?_
 obtain⟨x,aw,aj⟩:=l3 (xs:=(a.1.2.1:List Int)) hr.2.1 (hr.2.2 hl);exact Z.eq aw (Z.ret ⟨hr.1,aj⟩)
abbrev dt(s:E):Prop:=s.length<=200
theorem oR{L:List E}(h:L.all (fun s=>decide (s.length<=200))=true){s:E}(H:s∈L):dt s:=of_decide_eq_true (List.all_eq_true.1 h s H)
theorem ww(a)(m:Nat)(h:c8 a.2.1.1 a.2.1.2.1 m)(hm:1<=m):Z (pY a) (fun r=>c8 r.2.1.1 r.2.1.2.1 (m-1)/\dt r.1.2.1):=by
 unfold pY;refine Z.bind (kJ _ m h hm (by simp)) fun r hr=>Z.ret ⟨hr.1,oR (by rfl) hr.2⟩
theorem Bs(a)(m:Nat)(h:c8 a.2.1.1 a.2.1.2.1 m)(hm:1<=m):Z (rV a) (fun r=>c8 r.2.1.1 r.2.1.2.1 (m-1)/\dt r.1.2.1):=by
 unfold rV;refine Z.bind (kJ _ m h hm (by simp)) fun r hr=>Z.ret ⟨hr.1,oR (by rfl) hr.2⟩
theorem JH(a)(H:(a.1.1:E).length<=1)(a8:(0:Int)<=a.1.2.1)(h1:(a.1.2.1:Int)<=127):Z (f266 a) (fun r=>dt r.1.1):=by
 obtain⟨⟨(s:E),(n:Int),u⟩,bS⟩:=a;unfold f266;have key:Z (C_ ((s,(n,(([]:E),()))),())) (fun r=>dt r.1.1):=by
  refine Z.loop (fun(k:Nat) y=>(0:Int)<=y.1.2.1/\(y.1.2.1:Int).toNat=k/\(y.1.2.1:Int).toNat*(y.1.1:E).length+(y.1.2.2.1:E).length<=127/\(y.1.1:E).length<=256/\(y.1.2.1:Int)<=127) (fun k y an=>?_) n.toNat _ ⟨a8,rfl,?_,by show s.length<=256;have:s.length<=1:=H;omega,h1⟩
  ·obtain⟨⟨(s:E),(n:Int),(out:E),u⟩,bS⟩:=y;obtain⟨dG,c7,er,hD,fa⟩:=an;have fa:n<=127:=fa;have dG:0<=n:=dG;have er:n.toNat*s.length+out.length<=127:=er;have hD:s.length<=256:=hD;unfold LA;refine Z.ite (fun hc=>?_) fun hc=>?_
   ·have hc:n>0:=of_decide_eq_true hc;have fb:1<=n.toNat:=by omega
    have fA:s.length<=127:=by have:=Nat.mul_le_mul_right s.length fb;omega
    have piece:Z (xk ((s,(n,(out,()))),())) (fun r=>r.1.1=s/\r.1.2.1=n/\(n%2=1/\(r.1.2.2.1:E).length=out.length+s.length\/n%2=0/\(r.1.2.2.1:E).length=out.length)):=by
     unfold xk;refine Z.eq (x:=n%2) (rQ dG (by decide)) ?_
     refine Z.ite (fun Y=>?_) fun Y=>?_
     ·have Y:n%2=1:=by simpa using Y
      exact Z.eq (zc (s:=out) (t:=s) (by omega)) (Z.ret ⟨rfl,rfl,.inl ⟨Y,by simp⟩⟩)
     ·have Y:¬n%2=1:=by simpa using Y
      exact Z.ret ⟨rfl,rfl,.inr ⟨by omega,rfl⟩⟩
    refine Z.bind piece fun r hr=>?_
    obtain⟨⟨(ap:E),(fC:Int),(uL:E),v⟩,v'⟩:=r;obtain⟨cy,b',dy⟩:=hr;have cy:ap=s:=cy;have b':fC=n:=b';subst cy b';refine Z.eq (zc (s:=ap) (t:=ap) (by omega)) ?_
    refine Z.eq (x:=fC/2) (yK (x:=fC) rfl dG (by omega) (by decide)) ?_
    refine Z.ret ⟨(fC/2).toNat,?_,?_⟩
    ·show(fC/2).toNat<k;have:fC.toNat=k:=c7;omega
    ·refine⟨by show 0<=fC/2;omega,rfl,?_,by show(ap++ap).length<=256;simp;omega,by show fC/2<=127;omega⟩
     show(fC/2).toNat*(ap++ap).length+uL.length<=127;have dy:fC%2=1/\uL.length=out.length+ap.length\/fC%2=0/\uL.length=out.length:=dy;obtain⟨q,aA⟩:∃q:Nat,(fC/2).toNat=q:=⟨_,rfl⟩;rw[aA,List.length_append];rcases dy with⟨dy,eZ⟩|⟨dy,eZ⟩
     ·have e:fC.toNat=2*q+1:=by omega
      rw[e] at er;rw[eZ];have:(2*q+1)*ap.length=q*(ap.length+ap.length)+ap.length:=by rw[Nat.add_mul,Nat.one_mul,Nat.mul_assoc,Nat.mul_add];omega
      omega
     ·have e:fC.toNat=2*q:=by omega
      rw[e] at er;rw[eZ];have:2*q*ap.length=q*(ap.length+ap.length):=by rw[Nat.mul_add,Nat.mul_assoc];omega
      omega
   ·exact Z.ret (show out.length<=200 by omega)
  ·show n.toNat*s.length+0<=127;have H:s.length<=1:=H;have h1:n<=127:=h1;have:n.toNat*s.length<=n.toNat*1:=Nat.mul_le_mul_left _ H;omega
 exact Z.bind key fun r hr=>Z.ret hr
theorem Wd(a)(m:Nat)(h:c8 a.2.1.1 a.2.1.2.1 m)(hm:1<=m):Z (y3 a) (fun r=>c8 r.2.1.1 r.2.1.2.1 (m-1)/\dt r.1.2.1):=by
 unfold y3;refine Z.bind (JH _ (by simp) (by show(0:Int)<=80;decide) (by show(80:Int)<=127;decide)) fun q aA=>?_
 refine Z.bind (kJ _ m h hm (by simp)) fun r hr=>Z.ret ⟨hr.1,?_⟩
 have:=hr.2;simp only[List.mem_cons,List.not_mem_nil,or_false] at this;rcases this with e|e|e|e|e|e
 ·show(r.1.2.1:E).length<=200;rw[e];decide
 ·show(r.1.2.1:E).length<=200;rw[e];decide
 ·show(r.1.2.1:E).length<=200;rw[e];decide
 ·show(r.1.2.1:E).length<=200;rw[e];decide
 ·show(r.1.2.1:E).length<=200;rw[e];decide
 ·show(r.1.2.1:E).length<=200;rw[e];exact aA
abbrev lL(e:bu):Prop:=dt e.path/\dt e.text
theorem H9(a)(m:Nat)(h:c8 a.2.1.1 a.2.1.2.1 m)(hm:4<=m):Z (uj a) (fun r=>c8 r.2.1.1 r.2.1.2.1 (m-4)/\lL ⟨r.2.2.1.1,r.2.2.1.2.1,r.2.2.1.2.2.1,r.2.2.1.2.2.2.1⟩):=by
 unfold uj;refine Z.bind (Bs _ m h (by omega)) fun cy h1=>?_
 refine Z.bind (Nl _ (m-1) h1.1 (by omega) (by simp)) fun b' h2=>?_
 refine Z.bind (hI _ (m-1-1) h2.1 (by omega)) fun dy aa=>?_
 refine Z.ite (fun _=>?_) fun _=>Z.ite (fun _=>?_) fun _=>?_
 ·exact Z.bind (Wd _ _ aa.1 (by omega)) fun eZ aN=>Z.ret ⟨aN.1.less (by omega),h1.2,aN.2⟩
 ·exact Z.bind (Bs _ _ aa.1 (by omega)) fun eZ aN=>Z.ret ⟨aN.1.less (by omega),h1.2,aN.2⟩
 ·exact Z.ret ⟨aa.1.less (by omega),h1.2,show(0:Nat)<=200 by decide⟩
theorem JG(a)(h:cM a.1.1.length):f156 a=some (((),()),(a.1.1,())):=by
 obtain⟨⟨t,u⟩,bS⟩:=a;have h:t.length<=2097152:=h;simp only[f156,fT (show(48:Nat)<=100 by decide) (show aW (([]:List bu).length+t.length) by unfold aW;simp;omega),List.nil_append,Option.bind_some]
abbrev jc(t:List bu):Prop:=t.length<=16/\∀e,e∈t->lL e
theorem KU{t:List bu}{k:Nat}{e:bu}(h:∀e,e∈t->lL e)(he:lL e):∀x,x∈t.set k e->lL x:=by
 intro x hx;rcases List.mem_or_eq_of_mem_set hx with hx|hx
 ·exact h x hx
 ·rw[hx];exact he
theorem Ct(a)(aC:jc a.1.1)(he:lL ⟨a.1.2.1.1,a.1.2.1.2.1,a.1.2.1.2.2.1,a.1.2.1.2.2.2.1⟩):Z (f262 a) (fun r=>jc r.2.1):=by
 obtain⟨⟨t,⟨path,kind,mode,text,mC⟩,u⟩,bS⟩:=a;obtain⟨h1,h2⟩:=aC;have h1:t.length<=16:=h1;have he:lL ⟨path,kind,mode,text⟩:=he;have hb:cM t.length:=by unfold cM;omega
 unfold f262;refine Z.eq (LU ((t,(path,())),()) hb) ?_
 refine Z.eq (JG ((t,()),()) hb) ?_
 have ai:=C1 t path;have e1:=IF (((path,(kind,(mode,(text,())))),()),()) (Nat.le_trans he.1 (by decide)) (Nat.le_trans he.2 (by decide))
 have e2:=LV ((path,()),()) (Nat.le_trans he.1 (by decide))
 have ce:=KG ((t,(iW path,())),()) hb;obtain⟨c,hc⟩:∃c:Bool,xm ((t,((),((),(false,((cb t path:Int),(jG t path,((),()))))))),((path,(kind,(mode,(text,())))),(([]:List bu),(t,()))))=
   some ((t,((),((),(false,((cb t path:Int),(jG t path,((),(c,())))))))),((path,(kind,(mode,(text,())))),(([]:List bu),(t,())))):=by
  unfold xm;simp only[e1,Option.bind_some,Bool.not_not];cases nT ⟨path,kind,mode,text⟩ with
  |false=>exact⟨true,rfl⟩
  |true=>simp only[cond_true,e2,Option.bind_some,ce];exact⟨_,rfl⟩
 refine Z.eq hc ?_
 refine Z.ite (fun _=>Z.ret ⟨h1,h2⟩) fun _=>?_
 obtain⟨d,Y⟩:∃d:Bool,xl ((t,((),((),(false,((cb t path:Int),(jG t path,((),()))))))),((path,(kind,(mode,(text,())))),(([]:List bu),(t,()))))=
   some ((t,((),((),(false,((cb t path:Int),(jG t path,((),(d,())))))))),((path,(kind,(mode,(text,())))),(([]:List bu),(t,())))):=by
  unfold xl;cases b4:jG t path with
  |false=>exact⟨false,rfl⟩
  |true=>
   unfold jG at b4;cases aA:t[cb t path]? with
   |none=>rw[aA] at b4;cases b4
   |some e=>simp only[cond_true,cF,aA,Option.bind_some];exact⟨_,rfl⟩
 refine Z.eq Y ?_
 refine Z.ite (fun _=>Z.ret ⟨h1,h2⟩) fun _=>?_
 refine Z.ite (fun b4=>?_) fun _=>Z.ite (fun _=>Z.ret ⟨h1,h2⟩) fun hl=>?_
 ·have b4:jG t path=true:=b4;unfold jG at b4;cases aA:t[cb t path]? with
  |none=>rw[aA] at b4;cases b4
  |some e=>
   refine Z.eq (lc (dh aA)) ?_
   refine Z.eq (x:=bu.mk path kind mode text) (by show(t[cb t path]?).bind _=_;rw[aA];rfl) ?_
   exact Z.ret ⟨by show(t.set _ _).length<=16;rw[List.length_set];exact h1,KU h2 he⟩
 ·have hl:¬((t.length:Int)>=16):=of_decide_eq_false hl;refine Z.eq (oJ ai) ?_
  refine Z.eq (fT (by decide) (by unfold aW;simp;omega)) ?_
  refine Z.eq (fT (by decide) (by unfold aW;simp;omega)) ?_
  refine Z.eq (rf ai) ?_
  refine Z.eq (fT (by decide) (by unfold aW;simp;omega)) ?_
  refine Z.ret ⟨?_,fun x hx=>?_⟩
  ·show(([]++t.take (cb t path)++[bu.mk path kind mode text])++t.drop (cb t path)).length<=16;simp;omega
  ·have hx:x∈([]++t.take (cb t path)++[bu.mk path kind mode text])++t.drop (cb t path):=hx;simp only[List.nil_append,List.mem_append,List.mem_singleton] at hx;rcases hx with(hx|hx)|hx
   ·exact h2 x (List.mem_of_mem_take hx)
   ·rw[hx];exact he
   ·exact h2 x (List.mem_of_mem_drop hx)
abbrev i149:Shape:=⟨[ar 0],[],28⟩
abbrev m2:Shape:=⟨[aQ 2],[],28⟩
noncomputable def EE(aB:i149.G->Option m2.G):bg:=bq aH Tryz.f149 i149 m2 [] aB
noncomputable abbrev aeJ(aB:i149.G->Option m2.G):bZ:=[(149,(EE aB))]
theorem afb(aB:i149.G->Option m2.G)(dm:bc ah 149 (EE aB)):bz ah (bX aH (aeJ aB)):=bV ⟨dm,⟨⟩⟩
noncomputable def p'(aB:i149.G->Option m2.G)(a:i149.G):Option m2.G:=
 bif(decide (a.1.1<((-9223372036854775807):Int))) then
 some ((([45,57,50,50,51,51,55,50,48,51,54,56,53,52,55,55,53,56,48,56]:E),()),())
else
 bif(decide (a.1.1<(0:Int))) then
(aB (((IntKind.i64.wrap (0-a.1.1)),()),())).bind fun b=>
(lJ ([45]:E) b.1.1).bind fun c=>
 some ((c,()),())
else
 bif(decide (a.1.1<(10:Int))) then
 some (((strOf ([(IntKind.u8.wrap (IntKind.i64.wrap ((48:Int)+a.1.1)))]:List Int)),()),())
else
(o8 .i64 a.1.1 (10:Int)).bind fun d=>
(aB ((d,()),())).bind fun e=>
(lq a.1.1 (10:Int)).bind fun f=>
(lJ e.1.1 (strOf ([(IntKind.u8.wrap (IntKind.i64.wrap ((48:Int)+f)))]:List Int))).bind fun g=>
 some ((g,()),())
theorem abp(aB:i149.G->Option m2.G)(dm:bc ah 149 (EE aB)):bc ah 149 (bq aH Tryz.f149 i149 m2 [] (p' aB)):=bB (afb aB dm) Tryz.func149 (by kernel_rfl) aE (fun y=>by kernel_rfl) fun a=>by kernel_rfl
noncomputable def f149:i149.G->Option m2.G:=hZ p' iR
noncomputable def Qi:bg:=bq aH Tryz.f149 i149 m2 [] f149
theorem acQ:bc ah 149 Qi:=yJ (ff:=p') abp iR
noncomputable abbrev aeb:bZ:=[(304,zY)]
theorem va:bz ah (bX aH aeb):=bV ⟨EI,⟨⟩⟩
abbrev KW:Shape:=⟨[aQ 0,ar 3],[],43⟩
abbrev KL:List bh:=[(.norm,⟨[aQ 0,ar 3,aV 12],[],43⟩)]
noncomputable def Lw(y:KW.G):Option (a_ KL):=
 bif(decide ((y.1.1.length:Int)>(1:Int))) then
(bd y.1.1 (1:Int)).bind fun a=>
 some ((y.1.1,y.1.2.1,((a.toNat:Int)==(33:Int)),()),())
else
 some ((y.1.1,y.1.2.1,false,()),())
theorem Zw:bo ah (aO (aO (codeOf Tryz.f308) 1 14) 14 28) (bE KW KL Lw):=dD va (by kernel_rfl) aE fun y=>by kernel_rfl
abbrev KX:Shape:=⟨[aQ 0,ar 3],[],43⟩
abbrev KM:List bh:=[(.norm,⟨[aQ 0,ar 3],[],43⟩)]
noncomputable def Lx(y:KX.G):Option (a_ KM):=
(Lw ((y.1.1,y.1.2.1,()),())).bind fun a=>
 bif a.1.2.2.1 then
 some ((a.1.1,(2:Int),()),())
else
 some ((a.1.1,a.1.2.1,()),())
theorem Zx:bo ah (aO (codeOf Tryz.f308) 1 14) (bE KX KM Lx):=dD va (by kernel_rfl) (bJ Zw aE) fun y=>by kernel_rfl
abbrev w9:Shape:=⟨[aQ 0,ar 3,ar 4],[],43⟩
abbrev BX:List bh:=[(.exit 0,⟨[aQ 0,ar 3,ar 4],[],43⟩)]
noncomputable def YO(y:w9.G):cJ w9 BX:=
 bif(decide (y.1.2.1<(y.1.1.length:Int))) then
(bd y.1.1 y.1.2.1).bind fun a=>
(f304 (((a.toNat:Int),()),())).bind fun b=>
 bif b.1.1 then
 some (.inl ((y.1.1,(IntKind.i64.wrap (y.1.2.1+(1:Int))),y.1.2.2.1,()),()))
else
 some (.inr ((y.1.1,y.1.2.1,y.1.2.2.1,()),()))
else
 some (.inr ((y.1.1,y.1.2.1,y.1.2.2.1,()),()))
noncomputable def Ko:w9.G->Option (a_ BX):=b8 YO
theorem Yc:bo ah (aO (codeOf Tryz.f308) 1 124) (bE w9 BX Ko):=cQ va (by kernel_rfl) aE fun y=>by kernel_rfl
abbrev J8:Shape:=⟨[aQ 0,ar 3,ar 4],[],43⟩
abbrev JR:List bh:=[(.norm,⟨[ar 3,aV 40],[],43⟩)]
noncomputable def Ku(y:J8.G):Option (a_ JR):=
 bif(!(y.1.2.1==y.1.2.2.1)) then
 bif(!(y.1.2.1==(y.1.1.length:Int))) then
(bd y.1.1 y.1.2.1).bind fun a=>
 some ((y.1.2.1,((a.toNat:Int) !=(93:Int)),()),())
else
 some ((y.1.2.1,true,()),())
else
 some ((y.1.2.1,true,()),())
theorem Yb:bo ah (aO (codeOf Tryz.f308) 1 252) (bE J8 JR Ku):=dD va (by kernel_rfl) aE fun y=>by kernel_rfl
abbrev i308:Shape:=⟨[aQ 0],[],43⟩
abbrev Oc:Shape:=⟨[ar 2],[],43⟩
noncomputable def f308(a:i308.G):Option Oc.G:=
(Lx ((a.1.1,(1:Int),()),())).bind fun b=>
(Ko ((b.1.1,b.1.2.1,b.1.2.1,()),())).bind fun c=>
(Ku ((c.1.1,c.1.2.1,c.1.2.2.1,()),())).bind fun d=>
 bif d.1.2.1 then
 some (((0:Int),()),())
else
 some (((IntKind.i64.wrap (d.1.1+(1:Int))),()),())
noncomputable def Fp:bg:=bq aH Tryz.f308 i308 Oc [] f308
theorem NY:bc ah 308 Fp:=bB va Tryz.func308 (by kernel_rfl) (bJ Zx (bJ Yc (bJ Yb aE))) (fun y=>by kernel_rfl) fun a=>by kernel_rfl
noncomputable abbrev aed:bZ:=[(304,zY),(308,Fp)]
theorem FE:bz ah (bX aH aed):=bV ⟨EI,NY,⟨⟩⟩
abbrev IZ:Shape:=⟨[aQ 0,ar 3],[],45⟩
abbrev IL:List bh:=[(.norm,⟨[aQ 0,ar 3,aV 26],[],45⟩)]
noncomputable def wV(y:IZ.G):Option (a_ IL):=
(bd y.1.1 y.1.2.1).bind fun a=>
 bif(!((a.toNat:Int)==(42:Int))) then
(bd y.1.1 y.1.2.1).bind fun b=>
 some ((y.1.1,y.1.2.1,((b.toNat:Int)==(63:Int)),()),())
else
 some ((y.1.1,y.1.2.1,true,()),())
theorem WO:bo ah (aO (dT (aO (codeOf Tryz.f305) 1 26)) 52 6726) (bE IZ IL wV):=dD FE (by kernel_rfl) aE fun y=>by kernel_rfl
abbrev xy:Shape:=⟨[aQ 0,ar 3],[],45⟩
abbrev Cy:List bh:=[(.ret,⟨[aV 2],[],45⟩),(.exit 0,⟨[aQ 0],[],45⟩)]
noncomputable def Ly(y:xy.G):cJ xy Cy:=
 bif(decide (y.1.2.1<(y.1.1.length:Int))) then
(bd y.1.1 y.1.2.1).bind fun a=>
 bif((a.toNat:Int)==(91:Int)) then
(cB y.1.1 y.1.2.1 (y.1.1.length:Int)).bind fun b=>
(f308 ((b,()),())).bind fun c=>
 bif(c.1.1==(0:Int)) then
 some (.inr (.inl ((false,()),())))
else
 some (.inl ((y.1.1,(IntKind.i64.wrap ((IntKind.i64.wrap ((IntKind.i64.wrap (y.1.2.1+c.1.1))-(1:Int)))+(1:Int))),()),()))
else
(wV ((y.1.1,y.1.2.1,()),())).bind fun d=>
 bif d.1.2.2.1 then
 some (.inl ((d.1.1,(IntKind.i64.wrap (d.1.2.1+(1:Int))),()),()))
else
(bd d.1.1 d.1.2.1).bind fun e=>
(f304 (((e.toNat:Int),()),())).bind fun f=>
 bif(!f.1.1) then
 some (.inr (.inl ((false,()),())))
else
 some (.inl ((d.1.1,(IntKind.i64.wrap (d.1.2.1+(1:Int))),()),()))
else
 some (.inr (.inr ((y.1.1,()),())))
noncomputable def Ll:xy.G->Option (a_ Cy):=b8 Ly
theorem Zy:bo ah (aO (codeOf Tryz.f305) 1 26) (bE xy Cy Ll):=cQ FE (by kernel_rfl) (bJ WO aE) fun y=>by kernel_rfl
abbrev i305:Shape:=⟨[aQ 0],[],45⟩
abbrev Od:Shape:=⟨[aV 2],[],45⟩
noncomputable def f305(a:i305.G):Option Od.G:=
(Ll ((a.1.1,(0:Int),()),())).bind fun b=>
(match b with
|.inl c=>
 some ((c.1.1,()),())
|.inr d=>
 some (((!(d.1.1==([]:E))),()),()))
noncomputable def PN:bg:=bq aH Tryz.f305 i305 Od [] f305
theorem aco:bc ah 305 PN:=bB FE Tryz.func305 (by kernel_rfl) (bJ Zy aE) (fun y=>by kernel_rfl) fun a=>by kernel_rfl
noncomputable abbrev aef:bZ:=[(89,vW),(305,PN)]
theorem Qw:bz ah (bX aH aef):=bV ⟨Ad,aco,⟨⟩⟩
abbrev xz:Shape:=⟨[aQ 0,bU 3 3000192,ar 4],[b3 3000192 .str 3 0],30⟩
abbrev Cz:List bh:=[(.ret,⟨[aV 2],[],30⟩),(.exit 0,⟨[aQ 0,bU 3 3000192],[b3 3000192 .str 3 0],30⟩)]
noncomputable def Lz(y:xz.G):cJ xz Cz:=
 bif(decide (y.1.2.2.1<(y.2.1.length:Int))) then
(hy y.2.1.length y.1.2.2.1).bind fun a=>
(y.2.1[a]?).bind fun b=>
(f305 ((b,()),())).bind fun c=>
 bif(!c.1.1) then
 some (.inr (.inl ((false,()),())))
else
 some (.inl ((y.1.1,(),(IntKind.i64.wrap (y.1.2.2.1+(1:Int))),()),y.2.1,()))
else
 some (.inr (.inr ((y.1.1,(),()),y.2.1,())))
noncomputable def Lm:xz.G->Option (a_ Cz):=b8 Lz
theorem Zz:bo ah (aO (codeOf Tryz.f288) 1 58) (bE xz Cz Lm):=cQ Qw (by kernel_rfl) aE fun y=>by kernel_rfl
abbrev i288:Shape:=⟨[aQ 0],[],30⟩
abbrev Oh:Shape:=⟨[aV 2],[],30⟩
noncomputable def f288(a:i288.G):Option Oh.G:=
(f89 ((a.1.1,(47:Int),(IntKind.i64.wrap ((a.1.1.length:Int)+(1:Int))),()),())).bind fun b=>
(Lm ((a.1.1,(),(0:Int),()),b.2.1,())).bind fun c=>
(match c with
|.inl d=>
 some ((d.1.1,()),())
|.inr e=>
 bif(decide ((e.2.1.length:Int)<=(5:Int))) then
 some (((decide ((e.1.1.length:Int)<=(40:Int))),()),())
else
 some ((false,()),()))
noncomputable def PR:bg:=bq aH Tryz.f288 i288 Oh [] f288
theorem acs:bc ah 288 PR:=bB Qw Tryz.func288 (by kernel_rfl) (bJ Zz aE) (fun y=>by kernel_rfl) fun a=>by kernel_rfl
abbrev IY:Shape:=⟨[aQ 0,(1,.aq (.d (.int .u8))),aV 5,ar 6],[],33⟩
abbrev IK:List bh:=[(.norm,⟨[aQ 0,(1,.aq (.d (.int .u8))),aV 5,ar 6,aV 29],[],33⟩)]
noncomputable def Jq(y:IY.G):Option (a_ IK):=
(bd y.1.1 y.1.2.2.2.1).bind fun a=>
 bif((a.toNat:Int)==y.1.2.1) then
 bif(!(decide (y.1.2.2.2.1>(1:Int)))) then
 some ((y.1.1,y.1.2.1,y.1.2.2.1,y.1.2.2.2.1,(!y.1.2.2.1),()),())
else
 some ((y.1.1,y.1.2.1,y.1.2.2.1,y.1.2.2.2.1,true,()),())
else
 some ((y.1.1,y.1.2.1,y.1.2.2.1,y.1.2.2.2.1,false,()),())
theorem WN:bo ah (aO (dT (aO (codeOf Tryz.f309) 1 58)) 116 1864) (bE IY IK Jq):=dD g0 (by kernel_rfl) aE fun y=>by kernel_rfl
abbrev xx:Shape:=⟨[aQ 0,(1,.aq (.d (.int .u8))),aV 5,ar 6],[],33⟩
abbrev Cx:List bh:=[(.ret,⟨[aV 4],[],33⟩),(.exit 0,⟨[aV 5],[],33⟩)]
noncomputable def _s(y:xx.G):cJ xx Cx:=
 bif(decide (y.1.2.2.2.1<(IntKind.i64.wrap ((y.1.1.length:Int)-(1:Int))))) then
(Jq ((y.1.1,y.1.2.1,y.1.2.2.1,y.1.2.2.2.1,()),())).bind fun a=>
 bif a.1.2.2.2.2.1 then
 some (.inr (.inl (((!a.1.2.2.1),()),())))
else
 some (.inl ((a.1.1,a.1.2.1,a.1.2.2.1,(IntKind.i64.wrap (a.1.2.2.2.1+(1:Int))),()),()))
else
 some (.inr (.inr ((y.1.2.2.1,()),())))
noncomputable def Lk:xx.G->Option (a_ Cx):=b8 _s
theorem Zv:bo ah (aO (codeOf Tryz.f309) 1 58) (bE xx Cx Lk):=cQ g0 (by kernel_rfl) (bJ WN aE) fun y=>by kernel_rfl
abbrev i309:Shape:=⟨[aQ 0,(1,.aq (.d (.int .u8)))],[],33⟩
abbrev Ob:Shape:=⟨[aV 4],[],33⟩
noncomputable def f309(a:i309.G):Option Ob.G:=
(bd a.1.1 (1:Int)).bind fun b=>
(Lk ((a.1.1,a.1.2.1,((b.toNat:Int)==(33:Int)),(1:Int),()),())).bind fun c=>
(match c with
|.inl d=>
 some ((d.1.1,()),())
|.inr e=>
 some ((e.1.1,()),()))
noncomputable def PL:bg:=bq aH Tryz.f309 i309 Ob [] f309
theorem acm:bc ah 309 PL:=bB g0 Tryz.func309 (by kernel_rfl) (bJ Zv aE) (fun y=>by kernel_rfl) fun a=>by kernel_rfl
abbrev i306:Shape:=⟨[aQ 0,aQ 1],[],68⟩
abbrev m0:Shape:=⟨[aV 4],[],68⟩
noncomputable def EC(aB:i306.G->Option m0.G):bg:=bq aH Tryz.f306 i306 m0 [] aB
noncomputable abbrev aec(aB:i306.G->Option m0.G):bZ:=[(306,(EC aB)),(308,Fp),(309,PL)]
theorem aeW(aB:i306.G->Option m0.G)(dm:bc ah 306 (EC aB)):bz ah (bX aH (aec aB)):=bV ⟨dm,NY,acm,⟨⟩⟩
noncomputable def o6(aB:i306.G->Option m0.G)(a:i306.G):Option m0.G:=
 bif(a.1.1==([]:E)) then
 some (((a.1.2.1==([]:E)),()),())
else
(bd a.1.1 (0:Int)).bind fun b=>
 bif((b.toNat:Int)==(42:Int)) then
(cB a.1.1 (1:Int) (a.1.1.length:Int)).bind fun c=>
(aB ((c,a.1.2.1,()),())).bind fun d=>
 bif(!d.1.1) then
 bif(!(a.1.2.1==([]:E))) then
(cB a.1.2.1 (1:Int) (a.1.2.1.length:Int)).bind fun e=>
(aB ((a.1.1,e,()),())).bind fun f=>
 some ((f.1.1,()),())
else
 some ((false,()),())
else
 some ((true,()),())
else
 bif(a.1.2.1==([]:E)) then
 some ((false,()),())
else
(bd a.1.1 (0:Int)).bind fun g=>
 bif((g.toNat:Int)==(63:Int)) then
(cB a.1.1 (1:Int) (a.1.1.length:Int)).bind fun h=>
(cB a.1.2.1 (1:Int) (a.1.2.1.length:Int)).bind fun i=>
(aB ((h,i,()),())).bind fun j=>
 some ((j.1.1,()),())
else
 bif((g.toNat:Int)==(91:Int)) then
(f308 ((a.1.1,()),())).bind fun k=>
(cB a.1.1 (0:Int) k.1.1).bind fun l=>
(bd a.1.2.1 (0:Int)).bind fun m=>
(f309 ((l,(m.toNat:Int),()),())).bind fun n=>
 bif n.1.1 then
(cB a.1.1 k.1.1 (a.1.1.length:Int)).bind fun D=>
(cB a.1.2.1 (1:Int) (a.1.2.1.length:Int)).bind fun p=>
(aB ((D,p,()),())).bind fun q=>
 some ((q.1.1,()),())
else
 some ((false,()),())
else
(bd a.1.1 (0:Int)).bind fun r=>
(bd a.1.2.1 (0:Int)).bind fun s=>
 bif((r.toNat:Int)==(s.toNat:Int)) then
(cB a.1.1 (1:Int) (a.1.1.length:Int)).bind fun t=>
(cB a.1.2.1 (1:Int) (a.1.2.1.length:Int)).bind fun u=>
(aB ((t,u,()),())).bind fun v=>
 some ((v.1.1,()),())
else
 some ((false,()),())
theorem abn(aB:i306.G->Option m0.G)(dm:bc ah 306 (EC aB)):bc ah 306 (bq aH Tryz.f306 i306 m0 [] (o6 aB)):=bB (aeW aB dm) Tryz.func306 (by kernel_rfl) aE (fun y=>by kernel_rfl) fun a=>by kernel_rfl
noncomputable def f306:i306.G->Option m0.G:=hZ o6 iR
noncomputable def PM:bg:=bq aH Tryz.f306 i306 m0 [] f306
theorem acn:bc ah 306 PM:=yJ (ff:=o6) abn iR
abbrev i289:Shape:=⟨[aX 0 .str,aX 1 .str],[],49⟩
abbrev m1:Shape:=⟨[aV 4],[],49⟩
noncomputable def ED(aB:i289.G->Option m1.G):bg:=bq aH Tryz.f289 i289 m1 [] aB
noncomputable abbrev aee(aB:i289.G->Option m1.G):bZ:=[(289,(ED aB)),(306,PM)]
theorem aeX(aB:i289.G->Option m1.G)(dm:bc ah 289 (ED aB)):bz ah (bX aH (aee aB)):=bV ⟨dm,acn,⟨⟩⟩
noncomputable def p_(aB:i289.G->Option m1.G)(a:i289.G):Option m1.G:=
 bif((a.1.1.length:Int)==(0:Int)) then
 some ((((a.1.2.1.length:Int)==(0:Int)),()),())
else
(bd a.1.1 (0:Int)).bind fun b=>
 bif(b==([42,42]:E)) then
(cB a.1.1 (1:Int) (a.1.1.length:Int)).bind fun c=>
(aB ((c,a.1.2.1,()),())).bind fun d=>
 bif(!d.1.1) then
 bif(decide ((a.1.2.1.length:Int)>(0:Int))) then
(cB a.1.2.1 (1:Int) (a.1.2.1.length:Int)).bind fun e=>
(aB ((a.1.1,e,()),())).bind fun f=>
 some ((f.1.1,()),())
else
 some ((false,()),())
else
 some ((true,()),())
else
 bif(decide ((a.1.2.1.length:Int)>(0:Int))) then
(bd a.1.1 (0:Int)).bind fun g=>
(bd a.1.2.1 (0:Int)).bind fun h=>
(f306 ((g,h,()),())).bind fun i=>
 bif i.1.1 then
(cB a.1.1 (1:Int) (a.1.1.length:Int)).bind fun j=>
(cB a.1.2.1 (1:Int) (a.1.2.1.length:Int)).bind fun k=>
(aB ((j,k,()),())).bind fun l=>
 some ((l.1.1,()),())
else
 some ((false,()),())
else
 some ((false,()),())
theorem abo(aB:i289.G->Option m1.G)(dm:bc ah 289 (ED aB)):bc ah 289 (bq aH Tryz.f289 i289 m1 [] (p_ aB)):=bB (aeX aB dm) Tryz.func289 (by kernel_rfl) aE (fun y=>by kernel_rfl) fun a=>by kernel_rfl
noncomputable def f289:i289.G->Option m1.G:=hZ p_ iR
noncomputable def PQ:bg:=bq aH Tryz.f289 i289 m1 [] f289
theorem acr:bc ah 289 PQ:=yJ (ff:=p_) abo iR
noncomputable abbrev ael:bZ:=[(89,vW),(252,Ft),(288,PR),(289,PQ)]
theorem aeZ:bz ah (bX aH ael):=bV ⟨Ad,N1,acs,acr,⟨⟩⟩
abbrev i260:Shape:=⟨[aQ 0,aQ 1],[],24⟩
abbrev Ot:Shape:=⟨[aV 4],[],24⟩
noncomputable def f260(a:i260.G):Option Ot.G:=
(f288 ((a.1.1,()),())).bind fun b=>
 bif b.1.1 then
(f252 ((a.1.2.1,()),())).bind fun c=>
 bif c.1.1 then
(f89 ((a.1.1,(47:Int),(IntKind.i64.wrap ((a.1.1.length:Int)+(1:Int))),()),())).bind fun d=>
(f89 ((a.1.2.1,(47:Int),(IntKind.i64.wrap ((a.1.2.1.length:Int)+(1:Int))),()),())).bind fun e=>
(f289 ((d.2.1,e.2.1,()),())).bind fun f=>
 some ((f.1.1,()),())
else
 some ((false,()),())
else
 some ((false,()),())
noncomputable def Fs:bg:=bq aH Tryz.f260 i260 Ot [] f260
theorem N0:bc ah 260 Fs:=bB aeZ Tryz.func260 (by kernel_rfl) aE (fun y=>by kernel_rfl) fun a=>by kernel_rfl
abbrev i290:Shape:=⟨[aQ 0,aQ 1],[],30⟩
abbrev Og:Shape:=⟨[aV 4],[],30⟩
noncomputable def f290(a:i290.G):Option Og.G:=
 bif(!(a.1.2.1==a.1.1)) then
 bif(decide ((a.1.2.1.length:Int)>(a.1.1.length:Int))) then
(cB a.1.2.1 (0:Int) (a.1.1.length:Int)).bind fun b=>
 bif(b==a.1.1) then
(bd a.1.2.1 (a.1.1.length:Int)).bind fun c=>
 some ((((c.toNat:Int)==(47:Int)),()),())
else
 some ((false,()),())
else
 some ((false,()),())
else
 some ((true,()),())
noncomputable def PP:bg:=bq aH Tryz.f290 i290 Og [] f290
theorem acq:bc ah 290 PP:=bB g0 Tryz.func290 (by kernel_rfl) aE (fun y=>by kernel_rfl) fun a=>by kernel_rfl
noncomputable abbrev aek:bZ:=[(260,Fs),(290,PP)]
theorem FG:bz ah (bX aH aek):=bV ⟨N0,acq,⟨⟩⟩
abbrev Ka:Shape:=⟨[aX 0 .entry,aQ 1,aQ 2,ar 7],[],30⟩
abbrev JV:List bh:=[(.norm,⟨[aX 0 .entry,aQ 1,aQ 2,ar 7,aV 29],[],30⟩)]
noncomputable def xn(y:Ka.G):Option (a_ JV):=
(bd y.1.1 y.1.2.2.2.1).bind fun a=>
(f290 ((y.1.2.2.1,a.path,()),())).bind fun b=>
 bif b.1.1 then
(bd y.1.1 y.1.2.2.2.1).bind fun c=>
(f260 ((y.1.2.1,c.path,()),())).bind fun d=>
 some ((y.1.1,y.1.2.1,y.1.2.2.1,y.1.2.2.2.1,d.1.1,()),())
else
 some ((y.1.1,y.1.2.1,y.1.2.2.1,y.1.2.2.2.1,false,()),())
theorem Yg:bo ah (aO (dT (aO (codeOf Tryz.f261) 1 26)) 52 840) (bE Ka JV xn):=dD FG (by kernel_rfl) aE fun y=>by kernel_rfl
abbrev xE:Shape:=⟨[aX 0 .entry,aQ 1,aQ 2,ar 7],[],30⟩
abbrev CE:List bh:=[(.ret,⟨[aV 6],[],30⟩),(.exit 0,⟨[],[],30⟩)]
noncomputable def LB(y:xE.G):cJ xE CE:=
 bif(decide (y.1.2.2.2.1<(y.1.1.length:Int))) then
(xn ((y.1.1,y.1.2.1,y.1.2.2.1,y.1.2.2.2.1,()),())).bind fun a=>
 bif a.1.2.2.2.2.1 then
 some (.inr (.inl ((true,()),())))
else
 some (.inl ((a.1.1,a.1.2.1,a.1.2.2.1,(IntKind.i64.wrap (a.1.2.2.2.1+(1:Int))),()),()))
else
 some (.inr (.inr ((),())))
noncomputable def Ln:xE.G->Option (a_ CE):=b8 LB
theorem ZE:bo ah (aO (codeOf Tryz.f261) 1 26) (bE xE CE Ln):=cQ FG (by kernel_rfl) (bJ Yg aE) fun y=>by kernel_rfl
abbrev i261:Shape:=⟨[aX 0 .entry,aQ 1,aQ 2],[],30⟩
abbrev Oq:Shape:=⟨[aV 6],[],30⟩
noncomputable def f261(a:i261.G):Option Oq.G:=
(Ln ((a.1.1,a.1.2.1,a.1.2.2.1,(0:Int),()),())).bind fun b=>
(match b with
|.inl c=>
 some ((c.1.1,()),())
|.inr d=>
 some ((false,()),()))
noncomputable def PX:bg:=bq aH Tryz.f261 i261 Oq [] f261
theorem acz:bc ah 261 PX:=bB FG Tryz.func261 (by kernel_rfl) (bJ ZE aE) (fun y=>by kernel_rfl) fun a=>by kernel_rfl
noncomputable abbrev aet:bZ:=[(158,zZ),(260,Fs),(261,PX)]
theorem FI:bz ah (bX aH aet):=bV ⟨EJ,N0,acz,⟨⟩⟩
abbrev I0:Shape:=⟨[aX 0 .entry,aQ 1,bU 5 3000320,ar 6],[b3 3000320 .entry 5 0],51⟩
abbrev IM:List bh:=[(.norm,⟨[aX 0 .entry,aQ 1,bU 5 3000320,ar 6,aV 42],[b3 3000320 .entry 5 0],51⟩)]
noncomputable def wW(y:I0.G):Option (a_ IM):=
(bd y.1.1 y.1.2.2.2.1).bind fun a=>
(f260 ((y.1.2.1,a.path,()),())).bind fun b=>
 bif(!b.1.1) then
(bd y.1.1 y.1.2.2.2.1).bind fun c=>
 bif(c.kind==(1:Int)) then
(bd y.1.1 y.1.2.2.2.1).bind fun d=>
(f261 ((y.1.1,y.1.2.1,d.path,()),())).bind fun e=>
 some ((y.1.1,y.1.2.1,(),y.1.2.2.2.1,e.1.1,()),y.2.1,())
else
 some ((y.1.1,y.1.2.1,(),y.1.2.2.2.1,false,()),y.2.1,())
else
 some ((y.1.1,y.1.2.1,(),y.1.2.2.2.1,true,()),y.2.1,())
theorem WQ:bo ah (aO (dT (aO (codeOf Tryz.f225) 1 58)) 116 1864) (bE I0 IM wW):=dD FI (by kernel_rfl) aE fun y=>by kernel_rfl
abbrev xI:Shape:=⟨[aX 0 .entry,aQ 1,bU 5 3000320,ar 6],[b3 3000320 .entry 5 0],51⟩
abbrev CI:List bh:=[(.exit 0,⟨[bU 5 3000320],[b3 3000320 .entry 5 0],51⟩)]
noncomputable def LC(y:xI.G):cJ xI CI:=
 bif(decide (y.1.2.2.2.1<(y.1.1.length:Int))) then
(f158 ((y.1.1,()),())).bind fun a=>
 bif a.1.1 then
(wW ((y.1.1,y.1.2.1,(),y.1.2.2.2.1,()),y.2.1,())).bind fun b=>
 bif b.1.2.2.2.2.1 then
(bd b.1.1 b.1.2.2.2.1).bind fun c=>
(cT 48 b.2.1 ([c]:List bu)).bind fun d=>
 some (.inl ((b.1.1,b.1.2.1,(),(IntKind.i64.wrap (b.1.2.2.2.1+(1:Int))),()),d,()))
else
 some (.inl ((b.1.1,b.1.2.1,(),(IntKind.i64.wrap (b.1.2.2.2.1+(1:Int))),()),b.2.1,()))
else
 some (.inr (((),()),y.2.1,()))
else
 some (.inr (((),()),y.2.1,()))
noncomputable def Lo:xI.G->Option (a_ CI):=b8 LC
theorem ZJ:bo ah (aO (codeOf Tryz.f225) 1 58) (bE xI CI Lo):=cQ FI (by kernel_rfl) (bJ WQ aE) fun y=>by kernel_rfl
abbrev i225:Shape:=⟨[aX 0 .entry,aQ 1],[],51⟩
abbrev OD:Shape:=⟨[bU 4 3000256],[b3 3000256 .entry 4 0],51⟩
noncomputable def f225(a:i225.G):Option OD.G:=
(Lo ((a.1.1,a.1.2.1,(),(0:Int),()),([]:List bu),())).bind fun b=>
 some (((),()),b.2.1,())
noncomputable def P6:bg:=bq aH Tryz.f225 i225 OD [] f225
theorem acF:bc ah 225 P6:=bB FI Tryz.func225 (by kernel_rfl) (bJ ZJ aE) (fun y=>by kernel_rfl) fun a=>by kernel_rfl
noncomputable abbrev aaY:bZ:=[(129,j5),(149,Qi),(262,PW),(263,Ef)]
theorem zi:bz ah (bX aH aaY):=bV ⟨kw,acQ,acy,LP,⟨⟩⟩
abbrev wC:Shape:=⟨[bx 0 500000 0,bU 3 3000192,bU 4 3000256,ar 5],[bI 500000 [cm .u8,bQ],b3 3000192 .entry 3 0,b3 3000256 .str 4 0],59⟩
abbrev Bh:List bh:=[(.exit 0,⟨[bx 0 500000 0,bU 3 3000192],[bI 500000 [cm .u8,bQ],b3 3000192 .entry 3 0],59⟩)]
noncomputable def Iu(y:wC.G):cJ wC Bh:=
 bif(decide (y.1.2.2.2.1<(y.2.2.2.1.length:Int))) then
(gx (((),(2:Int),()),(y.2.1.1,y.2.1.2.1,()),())).bind fun a=>
 bif(a.1.2.1==(0:Int)) then
(hy y.2.2.2.1.length y.1.2.2.2.1).bind fun b=>
(y.2.2.2.1[b]?).bind fun c=>
(f262 ((y.2.2.1,(c,(1:Int),(7:Int),([]:E),()),()),())).bind fun d=>
 some (.inl (((),(),(),(IntKind.i64.wrap (y.1.2.2.2.1+(1:Int))),()),(a.2.1.1,a.2.1.2.1,()),d.2.1,y.2.2.2.1,()))
else
 some (.inl (((),(),(),(IntKind.i64.wrap (y.1.2.2.2.1+(1:Int))),()),(a.2.1.1,a.2.1.2.1,()),y.2.2.1,y.2.2.2.1,()))
else
 some (.inr (((),(),()),(y.2.1.1,y.2.1.2.1,()),y.2.2.1,()))
noncomputable def Io:wC.G->Option (a_ Bh):=b8 Iu
theorem Vg:bo ah (aO (codeOf Tryz.f226) 1 122) (bE wC Bh Io):=cQ zi (by kernel_rfl) aE fun y=>by kernel_rfl
abbrev wB:Shape:=⟨[bx 0 500000 0,bU 3 3000192,ar 6],[bI 500000 [cm .u8,bQ],b3 3000192 .entry 3 0],59⟩
abbrev Bg:List bh:=[(.exit 2,⟨[bx 0 500000 0,bU 3 3000192],[bI 500000 [cm .u8,bQ],b3 3000192 .entry 3 0],59⟩)]
noncomputable def It(y:wB.G):cJ wB Bg:=
 bif(decide (y.1.2.2.1>(0:Int))) then
(uj (((),()),(y.2.1.1,y.2.1.2.1,()),())).bind fun a=>
(f262 ((y.2.2.1,(a.2.2.1.1,a.2.2.1.2.1,a.2.2.1.2.2.1,a.2.2.1.2.2.2.1,()),()),())).bind fun b=>
 some (.inl (((),(),(IntKind.i64.wrap (y.1.2.2.1-(1:Int))),()),(a.2.1.1,a.2.1.2.1,()),b.2.1,()))
else
 some (.inr (((),(),()),(y.2.1.1,y.2.1.2.1,()),y.2.2.1,()))
noncomputable def Im:wB.G->Option (a_ Bg):=b8 It
theorem Vf:bo ah (aO (codeOf Tryz.f226) 1 250) (bE wB Bg Im):=cQ zi (by kernel_rfl) aE fun y=>by kernel_rfl
abbrev wy:Shape:=⟨[bx 0 500000 0,bU 3 3000192,ar 7],[bI 500000 [cm .u8,bQ],b3 3000192 .entry 3 0],59⟩
abbrev A6:List bh:=[(.exit 4,⟨[bx 0 500000 0,bU 3 3000192],[bI 500000 [cm .u8,bQ],b3 3000192 .entry 3 0],59⟩)]
noncomputable def HX(y:wy.G):cJ wy A6:=
 bif(decide (y.1.2.2.1<(16:Int))) then
(f149 ((y.1.2.2.1,()),())).bind fun a=>
(lJ ([102]:E) a.1.1).bind fun b=>
(f262 ((y.2.2.1,(b,(2:Int),(0:Int),([]:E),()),()),())).bind fun c=>
 some (.inl (((),(),(IntKind.i64.wrap (y.1.2.2.1+(1:Int))),()),(y.2.1.1,y.2.1.2.1,()),c.2.1,()))
else
 some (.inr (((),(),()),(y.2.1.1,y.2.1.2.1,()),y.2.2.1,()))
noncomputable def HS:wy.G->Option (a_ A6):=b8 HX
theorem Uq:bo ah (aO (codeOf Tryz.f226) 1 2026) (bE wy A6 HS):=cQ zi (by kernel_rfl) aE fun y=>by kernel_rfl
abbrev MJ:Shape:=⟨[bx 0 500000 0],[bI 500000 [cm .u8,bQ]],59⟩
abbrev Mh:Shape:=⟨[bx 0 500000 0,bU 2 3000128],[bI 500000 [cm .u8,bQ],b3 3000128 .entry 2 0],59⟩
noncomputable def ul(a:MJ.G):Option Mh.G:=
(Io (((),(),(),(0:Int),()),(a.2.1.1,a.2.1.2.1,()),([]:List bu),([([97]:E),([108,105,98]:E),([98,105,110]:E),([100,111,99]:E),([97,47,98]:E)]:List E),())).bind fun b=>
(gx (((),(7:Int),()),(b.2.1.1,b.2.1.2.1,()),())).bind fun c=>
(Im (((),(),c.1.2.1,()),(c.2.1.1,c.2.1.2.1,()),b.2.2.1,())).bind fun d=>
(gx (((),(30:Int),()),(d.2.1.1,d.2.1.2.1,()),())).bind fun e=>
 bif(e.1.2.1==(0:Int)) then
(HS (((),(),(0:Int),()),(e.2.1.1,e.2.1.2.1,()),d.2.2.1,())).bind fun f=>
 some (((),(),()),(f.2.1.1,f.2.1.2.1,()),f.2.2.1,())
else
 some (((),(),()),(e.2.1.1,e.2.1.2.1,()),d.2.2.1,())
noncomputable def Eg:bg:=bq aH Tryz.f226 MJ Mh [0] ul
theorem LQ:bc ah 226 Eg:=bB zi Tryz.func226 (by kernel_rfl) (bJ Vg (bJ Vf (bJ Uq aE))) (fun y=>by kernel_rfl) fun a=>by kernel_rfl
abbrev kN(g:E):Prop:=∀b,b∈g->b.toNat≠91
theorem yR{s:E}{i:Int}(a8:0<=i)(h1:i<(s.length:Int)):∃x,bd s i=some x/\x∈s:=l3 a8 h1
theorem T_(a)(H:cM a.1.1.length)(hn:kN a.1.1):Z (f305 a) (fun _=>True):=by
 obtain⟨⟨(s:E),u⟩,bS⟩:=a;have H:s.length<=2097152:=H;unfold f305;refine Z.bind (P:=fun _=>True) ?_ fun r _=>?_
 ·refine Z.loop (fun(k:Nat) y=>y.1.1=s/\(0:Int)<=y.1.2.1/\(y.1.2.1:Int)+k=s.length) (fun k y an=>?_) s.length _ ⟨rfl,Int.le_refl _,by show(0:Int)+s.length=s.length;omega⟩
  obtain⟨⟨(s1:E),(i:Int),u⟩,bS⟩:=y;obtain⟨dG,c7,er⟩:=an;have dG:s1=s:=dG;subst dG;have c7:0<=i:=c7;have er:i+k=s1.length:=er;unfold Ly;refine Z.ite (fun hc=>?_) fun _=>Z.ret trivial
  have hc:i<(s1.length:Int):=of_decide_eq_true hc;obtain⟨x,aw,aj⟩:=yR c7 hc;have hx:((x.toNat:Int)==91)=false:=by
   have:=hn x aj;simp only[beq_eq_false_iff_ne,ne_eq];omega
  have hw:IntKind.i64.wrap (i+1)=i+1:=eh (by omega) (by omega)
  refine Z.eq aw ?_
  refine Z.ite (fun Y=>by rw[hx] at Y;cases Y) fun _=>?_
  have piece:Z (wV ((s1,(i,())),())) (fun r=>r.1.1=s1/\r.1.2.1=i):=by
   unfold wV;refine Z.eq aw ?_
   exact Z.ite (fun _=>Z.eq aw (Z.ret ⟨rfl,rfl⟩)) fun _=>Z.ret ⟨rfl,rfl⟩
  refine Z.bind piece fun r hr=>?_
  obtain⟨⟨(s2:E),(i2:Int),(c:Bool),v⟩,v'⟩:=r;obtain⟨cy,b'⟩:=hr;have cy:s2=s1:=cy;have b':i2=i:=b';subst cy b';refine Z.ite (fun _=>?_) fun _=>?_
  ·refine Z.ret ⟨k-1,by omega,rfl,?_,?_⟩
   ·show 0<=IntKind.i64.wrap (i2+1);rw[hw];omega
   ·show IntKind.i64.wrap (i2+1)+((k-1:Nat):Int)=_;rw[hw];omega
  ·refine Z.eq aw ?_
   refine Z.eq (IG (((x.toNat:Int),()),())) ?_
   refine Z.ite (fun _=>Z.ret trivial) fun _=>?_
   refine Z.ret ⟨k-1,by omega,rfl,?_,?_⟩
   ·show 0<=IntKind.i64.wrap (i2+1);rw[hw];omega
   ·show IntKind.i64.wrap (i2+1)+((k-1:Nat):Int)=_;rw[hw];omega
 ·cases r with
  |inl r=>exact Z.ret trivial
  |inr r=>exact Z.ret trivial
theorem HJ{g:E}(h:kN g):∀x,x∈cn 47 g->kN x:=by
 induction g with
 |nil=>
  intro x hx b hb;simp[cn] at hx;subst hx;cases hb
 |cons c g ih=>
  have ih:=ih fun b hb=>h b (List.mem_cons_of_mem _ hb)
  intro x hx b hb;simp only[cn] at hx;cases hc:(c==47) with
  |true=>
   simp only[hc,cond_true,List.mem_cons] at hx;rcases hx with rfl|hx
   ·cases hb
   ·exact ih x hx b hb
  |false=>
   simp only[hc,cond_false] at hx;cases dd:cn 47 g with
   |nil=>exact absurd dd (tB 47 g)
   |cons y L=>
    rw[dd] at hx ih;simp only[List.mem_cons] at hx;rcases hx with rfl|hx
    ·rcases List.mem_cons.1 hb with rfl|hb
     ·exact h _ List.mem_cons_self
     ·exact ih y List.mem_cons_self b hb
    ·exact ih x (List.mem_cons_of_mem _ hx) b hb
theorem XL(a)(H:a.1.1.length<=200)(hn:kN a.1.1):Z (f288 a) (fun _=>True):=by
 obtain⟨⟨(g:E),u⟩,bS⟩:=a;have H:g.length<=200:=H;unfold f288;have hw:IntKind.i64.wrap ((g.length:Int)+1)=((g.length+1:Nat):Int):=c2 (by unfold aW;omega)
 refine Z.eq (tL 47 ((g,((47:Int),(IntKind.i64.wrap ((g.length:Int)+1),()))),()) (by show g.length<=2097152;omega) rfl hw) ?_
 have dd:(cn 47 g).length<=201:=by have:=pI 47 g;omega
 refine Z.bind (P:=fun _=>True) ?_ fun r _=>?_
 ·refine Z.loop (fun(k:Nat) y=>y.2.1=cn 47 g/\(0:Int)<=y.1.2.2.1/\(y.1.2.2.1:Int)+k=(cn 47 g).length) (fun k y an=>?_) (cn 47 g).length _ ⟨rfl,Int.le_refl _,by show(0:Int)+_=_;omega⟩
  obtain⟨⟨(g1:E),u1,(i:Int),u⟩,(L:List E),bS⟩:=y;obtain⟨dG,c7,er⟩:=an;have dG:L=cn 47 g:=dG;have c7:0<=i:=c7;have er:i+k=(cn 47 g).length:=er;subst dG;unfold Lz;refine Z.ite (fun hc=>?_) fun _=>Z.ret trivial
  have hc:i<((cn 47 g).length:Int):=of_decide_eq_true hc;obtain⟨j,rfl⟩:=Int.eq_ofNat_of_zero_le c7;have bv:j<(cn 47 g).length:=by omega
  have hw:IntKind.i64.wrap ((j:Int)+1)=(j:Int)+1:=eh (by omega) (by omega)
  refine Z.eq (lc bv) ?_
  refine Z.eq (List.getElem?_eq_getElem bv) ?_
  have hm:=List.getElem_mem bv;refine Z.bind (T_ (((cn 47 g)[j],()),()) (by have:=pH 47 g _ hm;show((cn 47 g)[j]).length<=2097152;omega) (HJ hn _ hm)) fun r _=>?_
  refine Z.ite (fun _=>Z.ret trivial) fun _=>?_
  refine Z.ret ⟨k-1,by omega,rfl,?_,?_⟩
  ·show 0<=IntKind.i64.wrap ((j:Int)+1);rw[hw];omega
  ·show IntKind.i64.wrap ((j:Int)+1)+((k-1:Nat):Int)=_;rw[hw];omega
 ·cases r with
  |inl r=>exact Z.ret trivial
  |inr r=>exact Z.ite (fun _=>Z.ret trivial) fun _=>Z.ret trivial
theorem r1{s:E}(h:s≠[]):cB s (1:Int) (s.length:Int)=some (s.drop 1):=rf (a:=1) (by have:=List.length_pos_iff.2 h;omega)
theorem yv{s:List E}(h:0<s.length):cB s (1:Int) (s.length:Int)=some (s.drop 1):=rf (a:=1) h
theorem Ja{s:E}(h:(s==([]:E))=false):s≠[]:=by simpa using h
theorem _y:∀(n:Nat) (g s:E),kN g->g.length+s.length<n->Z (hZ o6 n ((g,(s,())),())) (fun _=>True):=by
 intro n;induction n with
 |zero=>intro g s _ h;omega
 |succ n ih=>
  intro g s hn hl;show Z (o6 (hZ o6 n) _) _;unfold o6;refine Z.ite (fun _=>Z.ret trivial) fun aF=>?_
  have aF:g≠[]:=Ja aF;have Gi:=List.length_pos_iff.2 aF;obtain⟨x,aw,aj⟩:=yR (s:=g) (i:=0) (by omega) (by omega)
  refine Z.eq aw ?_
  have gq:kN (g.drop 1):=fun b hb=>hn b (List.mem_of_mem_drop hb)
  have Gk:(g.drop 1).length+1=g.length:=by rw[List.length_drop];omega
  refine Z.ite (fun _=>?_) fun _=>?_
  ·refine Z.eq (r1 aF) ?_
   refine Z.bind (ih (g.drop 1) s gq (by omega)) fun r _=>?_
   refine Z.ite (fun _=>?_) fun _=>Z.ret trivial
   refine Z.ite (fun H=>?_) fun _=>Z.ret trivial
   have H:s≠[]:=by
    have H:(!(s==([]:E)))=true:=H;intro e;subst e;cases H
   have kR:=List.length_pos_iff.2 H;refine Z.eq (r1 H) ?_
   exact Z.bind (ih g (s.drop 1) hn (by rw[List.length_drop];omega)) fun r _=>Z.ret trivial
  ·refine Z.ite (fun _=>Z.ret trivial) fun H=>?_
   have H:s≠[]:=Ja H;have kR:=List.length_pos_iff.2 H;have step:Z (hZ o6 n ((g.drop 1,(s.drop 1,())),())) (fun _=>True):=ih _ _ gq (by rw[List.length_drop];rw[List.length_drop];omega)
   refine Z.eq aw ?_
   refine Z.ite (fun _=>?_) fun _=>?_
   ·refine Z.eq (r1 aF) ?_
    refine Z.eq (r1 H) ?_
    exact Z.bind step fun r _=>Z.ret trivial
   ·have hx:((x.toNat:Int)==91)=false:=by
     have:=hn x aj;simp only[beq_eq_false_iff_ne,ne_eq];omega
    refine Z.ite (fun Y=>by rw[hx] at Y;cases Y) fun _=>?_
    refine Z.eq aw ?_
    obtain⟨y,cu,dX⟩:=yR (s:=s) (i:=0) (by omega) (by omega)
    refine Z.eq cu ?_
    refine Z.ite (fun _=>?_) fun _=>Z.ret trivial
    refine Z.eq (r1 aF) ?_
    refine Z.eq (r1 H) ?_
    exact Z.bind step fun r _=>Z.ret trivial
theorem XF(a)(h1:cM a.1.1.length)(h2:cM a.1.2.1.length)(hn:kN a.1.1):Z (f306 a) (fun _=>True):=by
 obtain⟨⟨(g:E),(s:E),u⟩,bS⟩:=a;have h1:g.length<=2097152:=h1;have h2:s.length<=2097152:=h2;exact _y iR g s hn (by unfold iR;omega)
theorem YE:∀(n:Nat) (g s:List E),(∀x,x∈g->kN x/\cM x.length)->(∀x,x∈s->cM x.length)->g.length+s.length<n->Z (hZ p_ n ((g,(s,())),())) (fun _=>True):=by
 intro n;induction n with
 |zero=>intro g s _ _ h;omega
 |succ n ih=>
  intro g s hn H hl;show Z (p_ (hZ p_ n) _) _;unfold p_;refine Z.ite (fun _=>Z.ret trivial) fun aF=>?_
  have Gi:0<g.length:=by
   have aF:((g.length:Int)==0)=false:=aF;simp only[beq_eq_false_iff_ne,ne_eq] at aF;omega
  obtain⟨x,aw,aj⟩:=l3 (xs:=g) (i:=0) (by omega) (by omega)
  refine Z.eq aw ?_
  have gq:∀x,x∈g.drop 1->kN x/\cM x.length:=fun b hb=>hn b (List.mem_of_mem_drop hb)
  have kS:∀x,x∈s.drop 1->cM x.length:=fun b hb=>H b (List.mem_of_mem_drop hb)
  have Gk:(g.drop 1).length+1=g.length:=by rw[List.length_drop];omega
  refine Z.ite (fun _=>?_) fun _=>?_
  ·refine Z.eq (yv Gi) ?_
   refine Z.bind (ih (g.drop 1) s gq H (by omega)) fun r _=>?_
   refine Z.ite (fun _=>?_) fun _=>Z.ret trivial
   refine Z.ite (fun hc=>?_) fun _=>Z.ret trivial
   have hc:(s.length:Int)>0:=of_decide_eq_true hc;refine Z.eq (yv (s:=s) (by omega)) ?_
   exact Z.bind (ih g (s.drop 1) hn kS (by rw[List.length_drop];omega)) fun r _=>Z.ret trivial
  ·refine Z.ite (fun hc=>?_) fun _=>Z.ret trivial
   have hc:(s.length:Int)>0:=of_decide_eq_true hc;refine Z.eq aw ?_
   obtain⟨y,cu,dX⟩:=l3 (xs:=s) (i:=0) (by omega) (by omega)
   refine Z.eq cu ?_
   refine Z.bind (XF ((x,(y,())),()) (hn x aj).2 (H y dX) (hn x aj).1) fun r _=>?_
   refine Z.ite (fun _=>?_) fun _=>Z.ret trivial
   refine Z.eq (yv Gi) ?_
   refine Z.eq (yv (s:=s) (by omega)) ?_
   exact Z.bind (ih (g.drop 1) (s.drop 1) gq kS (by rw[List.length_drop];rw[List.length_drop];omega)) fun r _=>Z.ret trivial
theorem IJ(a)(h1:a.1.1.length<=200)(h2:a.1.2.1.length<=1048576)(hn:kN a.1.1):Z (f260 a) (fun _=>True):=by
 obtain⟨⟨(g:E),(s:E),u⟩,bS⟩:=a;have h1:g.length<=200:=h1;have h2:s.length<=1048576:=h2;unfold f260;refine Z.bind (XL ((g,()),()) h1 hn) fun r _=>?_
 refine Z.ite (fun _=>?_) fun _=>Z.ret trivial
 refine Z.eq (BT ((s,()),()) (by show s.length<=2097152;omega)) ?_
 refine Z.ite (fun _=>?_) fun _=>Z.ret trivial
 refine Z.eq (tL 47 ((g,((47:Int),(IntKind.i64.wrap ((g.length:Int)+1),()))),()) (by show g.length<=2097152;omega) rfl (c2 (by unfold aW;omega))) ?_
 refine Z.eq (tL 47 ((s,((47:Int),(IntKind.i64.wrap ((s.length:Int)+1),()))),()) (by show s.length<=2097152;omega) rfl (c2 (by unfold aW;omega))) ?_
 have g1:=pI 47 g;have s1:=pI 47 s;refine Z.bind (P:=fun _=>True) ?_ fun r _=>Z.ret trivial
 exact YE iR (cn 47 g) (cn 47 s) (fun x hx=>⟨HJ hn x hx,by have:=pH 47 g x hx;unfold cM;omega⟩) (fun x hx=>by have:=pH 47 s x hx;unfold cM;omega) (by unfold iR;omega)
theorem Wc(a)(h1:cM a.1.1.length):Z (f290 a) (fun _=>True):=by
 obtain⟨⟨(g:E),(s:E),u⟩,bS⟩:=a;unfold f290;refine Z.ite (fun _=>?_) fun _=>Z.ret trivial
 refine Z.ite (fun hc=>?_) fun _=>Z.ret trivial
 have hc:(s.length:Int)>(g.length:Int):=of_decide_eq_true hc;refine Z.eq (oJ (xs:=s) (b:=g.length) (by omega)) ?_
 refine Z.ite (fun _=>?_) fun _=>Z.ret trivial
 obtain⟨x,aw,_⟩:=yR (s:=s) (i:=(g.length:Int)) (by omega) (by omega)
 exact Z.eq aw (Z.ret trivial)
theorem US(a)(aC:jc a.1.1)(aF:a.1.2.1.length<=200)(hn:kN a.1.2.1)(Y:dt a.1.2.2.1):Z (f261 a) (fun _=>True):=by
 obtain⟨⟨(t:List bu),(g:E),(d:E),u⟩,bS⟩:=a;obtain⟨na,kf⟩:=aC;have na:t.length<=16:=na;have Y:d.length<=200:=Y;unfold f261;refine Z.bind (P:=fun _=>True) ?_ fun r _=>?_
 ·refine Z.loop (fun(k:Nat) y=>y.1.1=t/\y.1.2.1=g/\y.1.2.2.1=d/\(0:Int)<=y.1.2.2.2.1/\(y.1.2.2.2.1:Int)+k=t.length) (fun k y an=>?_) t.length _ ⟨rfl,rfl,rfl,Int.le_refl _,by show(0:Int)+_=_;omega⟩
  obtain⟨⟨(t1:List bu),(g1:E),(d1:E),(i:Int),u⟩,bS⟩:=y;obtain⟨dG,c7,er,hD,fa⟩:=an;have dG:t1=t:=dG;have c7:g1=g:=c7;have er:d1=d:=er;subst dG c7 er;have hD:0<=i:=hD;have fa:i+k=t1.length:=fa;unfold LB;refine Z.ite (fun hc=>?_) fun _=>Z.ret trivial
  have hc:i<(t1.length:Int):=of_decide_eq_true hc;have hw:IntKind.i64.wrap (i+1)=i+1:=eh (by omega) (by omega)
  obtain⟨x,aw,aj⟩:=l3 (xs:=t1) hD hc;have piece:Z (xn ((t1,(g1,(d1,(i,())))),())) (fun r=>r.1.1=t1/\r.1.2.1=g1/\r.1.2.2.1=d1/\r.1.2.2.2.1=i):=by
   unfold xn;refine Z.eq aw ?_
   refine Z.bind (Wc ((d1,(x.path,())),()) (by show d1.length<=2097152;omega)) fun r _=>?_
   refine Z.ite (fun _=>?_) fun _=>Z.ret ⟨rfl,rfl,rfl,rfl⟩
   refine Z.eq aw ?_
   exact Z.bind (IJ ((g1,(x.path,())),()) aF (Nat.le_trans (kf x aj).1 (by decide)) hn) fun r _=>Z.ret ⟨rfl,rfl,rfl,rfl⟩
  refine Z.bind piece fun r hr=>?_
  obtain⟨⟨(FR:List bu),(g2:E),(d2:E),(i2:Int),(c:Bool),v⟩,v'⟩:=r;obtain⟨cy,b',dy,eZ⟩:=hr;have cy:FR=t1:=cy;have b':g2=g1:=b';have dy:d2=d1:=dy;have eZ:i2=i:=eZ;subst cy b' dy eZ;refine Z.ite (fun _=>Z.ret trivial) fun _=>?_
  refine Z.ret ⟨k-1,by omega,rfl,rfl,rfl,?_,?_⟩
  ·show 0<=IntKind.i64.wrap (i2+1);rw[hw];omega
  ·show IntKind.i64.wrap (i2+1)+((k-1:Nat):Int)=_;rw[hw];omega
 ·cases r with
  |inl r=>exact Z.ret trivial
  |inr r=>exact Z.ret trivial
theorem UX(a)(aC:jc a.1.1)(aF:a.1.2.1.length<=200)(hn:kN a.1.2.1):Z (f225 a) (fun r=>jc r.2.1):=by
 obtain⟨⟨(t:List bu),(g:E),u⟩,bS⟩:=a;obtain⟨na,kf⟩:=aC;have na:t.length<=16:=na;have aF:g.length<=200:=aF;have ag6:Ab t:=⟨by show t.length<=2097152;omega,fun e he=>⟨Nat.le_trans (kf e he).1 (by decide),Nat.le_trans (kf e he).2 (by decide)⟩⟩
 unfold f225;refine Z.bind (P:=fun r=>jc r.2.1) ?_ fun r hr=>Z.ret hr
 refine Z.loop (fun(k:Nat) y=>y.1.1=t/\y.1.2.1=g/\(0:Int)<=y.1.2.2.2.1/\(y.1.2.2.2.1:Int)+k=t.length/\((y.2.1:List bu).length:Int)<=y.1.2.2.2.1/\∀e,e∈(y.2.1:List bu)->lL e) (fun k y an=>?_) t.length _
  ⟨rfl,rfl,Int.le_refl _,by show(0:Int)+_=_;omega,by show(0:Int)<=0;omega,fun e he=>by cases he⟩
 obtain⟨⟨(t1:List bu),(g1:E),u1,(i:Int),u⟩,(out:List bu),bS⟩:=y;obtain⟨dG,c7,er,hD,fa,hR⟩:=an;have dG:t1=t:=dG;have c7:g1=g:=c7;subst dG c7;have er:0<=i:=er;have hD:i+k=t1.length:=hD;have fa:(out.length:Int)<=i:=fa;unfold LC;refine Z.ite (fun hc=>?_) fun _=>Z.ret ⟨by show out.length<=16;omega,hR⟩
 have hc:i<(t1.length:Int):=of_decide_eq_true hc;have hw:IntKind.i64.wrap (i+1)=i+1:=eh (by omega) (by omega)
 obtain⟨x,aw,aj⟩:=l3 (xs:=t1) er hc;refine Z.eq (JI ((t1,()),()) ag6) ?_
 refine Z.ite (fun _=>?_) fun _=>Z.ret ⟨by show out.length<=16;omega,hR⟩
 have piece:Z (wW ((t1,(g1,((),(i,())))),(out,()))) (fun r=>r.1.1=t1/\r.1.2.1=g1/\r.1.2.2.2.1=i/\r.2.1=out):=by
  unfold wW;refine Z.eq aw ?_
  refine Z.bind (IJ ((g1,(x.path,())),()) aF (Nat.le_trans (kf x aj).1 (by decide)) hn) fun r _=>?_
  refine Z.ite (fun _=>?_) fun _=>Z.ret ⟨rfl,rfl,rfl,rfl⟩
  refine Z.eq aw ?_
  refine Z.ite (fun _=>?_) fun _=>Z.ret ⟨rfl,rfl,rfl,rfl⟩
  refine Z.eq aw ?_
  exact Z.bind (US ((t1,(g1,(x.path,()))),()) ⟨na,kf⟩ aF hn (kf x aj).1) fun r _=>Z.ret ⟨rfl,rfl,rfl,rfl⟩
 refine Z.bind piece fun r hr=>?_
 obtain⟨⟨(FR:List bu),(g2:E),cf,(i2:Int),(c:Bool),v⟩,(zJ:List bu),v'⟩:=r;obtain⟨cy,b',dy,eZ⟩:=hr;have cy:FR=t1:=cy;have b':g2=g1:=b';have dy:i2=i:=dy;have eZ:zJ=out:=eZ;subst cy b' dy eZ;refine Z.ite (fun _=>?_) fun _=>?_
 ·refine Z.eq aw ?_
  refine Z.eq (fT (by decide) (by unfold aW;simp;omega)) ?_
  refine Z.ret ⟨k-1,by omega,rfl,rfl,?_,?_,?_,fun e he=>?_⟩
  ·show 0<=IntKind.i64.wrap (i2+1);rw[hw];omega
  ·show IntKind.i64.wrap (i2+1)+((k-1:Nat):Int)=_;rw[hw];omega
  ·show((zJ++[x]).length:Int)<=IntKind.i64.wrap (i2+1);rw[hw];simp;omega
  ·have he:e∈zJ++[x]:=he;rcases List.mem_append.1 he with he|he
   ·exact hR e he
   ·rw[List.mem_singleton.1 he];exact kf x aj
 ·refine Z.ret ⟨k-1,by omega,rfl,rfl,?_,?_,?_,hR⟩
  ·show 0<=IntKind.i64.wrap (i2+1);rw[hw];omega
  ·show IntKind.i64.wrap (i2+1)+((k-1:Nat):Int)=_;rw[hw];omega
  ·show(zJ.length:Int)<=IntKind.i64.wrap (i2+1);rw[hw];omega
theorem aaK:∀(n:Nat) (x:Int),0<=x->x<=100000->x<n->Z (hZ p' n ((x,()),())) (fun r=>((r.1.1:E).length:Int)<=x+1):=by
 intro n;induction n with
 |zero=>intro x a8 _ h;omega
 |succ n ih=>
  intro x a8 h1 hl;show Z (p' (hZ p' n) _) _;unfold p';refine Z.ite (fun hc=>?_) fun _=>?_
  ·have hc:x< -9223372036854775807:=of_decide_eq_true hc;omega
  refine Z.ite (fun hc=>?_) fun _=>?_
  ·have hc:x<0:=of_decide_eq_true hc;omega
  refine Z.ite (fun hc=>?_) fun hc=>?_
  ·exact Z.ret (by show((strOf [_]).length:Int)<=x+1;simp[strOf];omega)
  ·have hc:¬x<10:=of_decide_eq_false hc;refine Z.eq (yK (x:=x) rfl a8 (by omega) (by decide)) ?_
   refine Z.bind (ih (x/10) (by omega) (by omega) (by omega)) fun r hr=>?_
   refine Z.eq (rQ (x:=x) a8 (by decide)) ?_
   have hr:((r.1.1:E).length:Int)<=x/10+1:=hr;refine Z.eq (zc (s:=r.1.1) (by simp[strOf];omega)) ?_
   exact Z.ret (by show(((r.1.1:E)++strOf [_]).length:Int)<=x+1;rw[List.length_append];simp[strOf];omega)
theorem XG(a)(a8:(0:Int)<=a.1.1)(h1:(a.1.1:Int)<=100):Z (f149 a) (fun r=>(r.1.1:E).length<=101):=by
 obtain⟨⟨(x:Int),u⟩,bS⟩:=a;have a8:0<=x:=a8;have h1:x<=100:=h1;exact(aaK iR x a8 (by omega) (by unfold iR;omega)).mono fun r hr=>by have hr:((r.1.1:E).length:Int)<=x+1:=hr;omega
theorem IH(a)(m:Nat)(h:c8 a.2.1.1 a.2.1.2.1 m)(hm:40<=m):Z (ul a) (fun r=>c8 r.2.1.1 r.2.1.2.1 (m-40)/\jc r.2.2.1):=by
 obtain⟨⟨u1,u2⟩,⟨⟨(b:List Int),(p:Int),GN⟩,aim⟩⟩:=a;have h:c8 b p m:=h;unfold ul;refine Z.bind (P:=fun r=>c8 r.2.1.1 r.2.1.2.1 (m-5)/\jc r.2.2.1) ?_ fun cy h1=>?_
 ·refine Z.loop (fun(k:Nat) y=>k<=5/\(0:Int)<=y.1.2.2.2.1/\(y.1.2.2.2.1:Int)+k=5/\(y.2.2.2.1:List E)=[[97],[108,105,98],[98,105,110],[100,111,99],[97,47,98]]/\c8 y.2.1.1 y.2.1.2.1 (m-(5-k))/\jc y.2.2.1) (fun k y an=>?_) 5 _
   ⟨Nat.le_refl _,Int.le_refl _,by show(0:Int)+(5:Nat)=5;rfl,rfl,h,by show(0:Nat)<=16;decide,fun e he=>by cases he⟩
  obtain⟨⟨cf,w2,hT,(i:Int),qS⟩,⟨⟨(a':List Int),(jV:Int),qR⟩,(t:List bu),(L:List E),tb⟩⟩:=y;obtain⟨dG,c7,er,hD,fa,hR⟩:=an;have c7:0<=i:=c7;have er:i+k=5:=er;have hD:L=_:=hD;have dd:L.length=5:=by rw[hD];rfl
  have ahd:∀s,s∈L->dt s:=by rw[hD];exact fun s H=>oR (by rfl) H
  have fa:c8 a' jV (m-(5-k)):=fa;have hR:jc t:=hR;unfold Iu;refine Z.ite (fun hc=>?_) fun hc=>?_
  ·have hc:i<(L.length:Int):=of_decide_eq_true hc;have hw:IntKind.i64.wrap (i+1)=i+1:=eh (by omega) (by omega)
   obtain⟨j,rfl⟩:=Int.eq_ofNat_of_zero_le c7;have bv:j<L.length:=by omega
   refine Z.bind (hI _ _ fa (by omega)) fun r hr=>?_
   have eC:c8 r.2.1.1 r.2.1.2.1 (m-(5-(k-1))):=hr.1.less (by omega)
   refine Z.ite (fun _=>?_) fun _=>?_
   ·refine Z.eq (lc bv) ?_
    refine Z.eq (List.getElem?_eq_getElem bv) ?_
    have Ar:dt L[j]:=ahd _ (List.getElem_mem bv);refine Z.bind (Ct ((t,((L[j],((1:Int),((7:Int),(([]:E),())))),())),()) hR ⟨Ar,by show(0:Nat)<=200;decide⟩) fun b' h2=>?_
    refine Z.ret ⟨k-1,by omega,by omega,?_,?_,hD,eC,h2⟩
    ·show 0<=IntKind.i64.wrap ((j:Int)+1);rw[hw];omega
    ·show IntKind.i64.wrap ((j:Int)+1)+((k-1:Nat):Int)=5;rw[hw];omega
   ·refine Z.ret ⟨k-1,by omega,by omega,?_,?_,hD,eC,hR⟩
    ·show 0<=IntKind.i64.wrap ((j:Int)+1);rw[hw];omega
    ·show IntKind.i64.wrap ((j:Int)+1)+((k-1:Nat):Int)=5;rw[hw];omega
  ·exact Z.ret ⟨fa.less (by omega),hR⟩
 refine Z.bind (hI _ _ h1.1 (by omega)) fun b' h2=>?_
 obtain⟨⟨lN,(q:Int),v2⟩,⟨⟨(a7:List Int),(te:Int),v3⟩,v4⟩⟩:=b';have akk:q<7:=h2.2.2 (by show(1:Int)<=7;decide)
 have akl:0<=q:=h2.2.1;refine Z.bind (P:=fun r=>c8 r.2.1.1 r.2.1.2.1 (m-34)/\jc r.2.2.1) ?_ fun dy aa=>?_
 ·refine Z.loop (fun(k:Nat) y=>k<=6/\(y.1.2.2.1:Int)=k/\c8 y.2.1.1 y.2.1.2.1 (m-34+4*k)/\jc y.2.2.1) (fun k y an=>?_) q.toNat _
   ⟨by omega,by show q=_;omega,(by refine h2.1.less ?_;omega),h1.2⟩
  obtain⟨⟨cf,w2,(i:Int),qS⟩,⟨⟨(a':List Int),(jV:Int),qR⟩,(t:List bu),tb⟩⟩:=y;obtain⟨dG,er,fa,hR⟩:=an;have er:i=k:=er;subst er;have fa:c8 a' jV (m-34+4*k):=fa;have hR:jc t:=hR;unfold It;refine Z.ite (fun hc=>?_) fun hc=>?_
  ·have hc:(k:Int)>0:=of_decide_eq_true hc;have hw:IntKind.i64.wrap ((k:Int)-1)=((k-1:Nat):Int):=by rw[eh (by omega) (by omega)];omega
   refine Z.bind (H9 _ _ fa (by omega)) fun r hr=>?_
   refine Z.bind (Ct ((t,((r.2.2.1.1,(r.2.2.1.2.1,(r.2.2.1.2.2.1,(r.2.2.1.2.2.2.1,())))),())),()) hR hr.2) fun b' h2=>?_
   exact Z.ret ⟨k-1,by omega,by omega,hw,hr.1.less (by omega),h2⟩
  ·exact Z.ret ⟨fa.less (by omega),hR⟩
 refine Z.bind (hI _ _ aa.1 (by omega)) fun eZ aN=>?_
 refine Z.ite (fun _=>?_) fun _=>Z.ret ⟨aN.1.less (by omega),aa.2⟩
 refine Z.bind (P:=fun r=>c8 r.2.1.1 r.2.1.2.1 (m-34-1)/\jc r.2.2.1) ?_ fun r5 bn=>Z.ret ⟨bn.1.less (by omega),bn.2⟩
 refine Z.loop (fun(k:Nat) y=>(0:Int)<=y.1.2.2.1/\(y.1.2.2.1:Int)+k=16/\c8 y.2.1.1 y.2.1.2.1 (m-34-1)/\jc y.2.2.1) (fun k y an=>?_) 16 _ ⟨Int.le_refl _,by show(0:Int)+(16:Nat)=16;rfl,aN.1,aa.2⟩
 obtain⟨⟨cf,w2,(i:Int),qS⟩,⟨⟨(a':List Int),(jV:Int),qR⟩,(t:List bu),tb⟩⟩:=y;obtain⟨dG,er,fa,hR⟩:=an;have dG:0<=i:=dG;have er:i+k=16:=er;have hR:jc t:=hR;unfold HX;refine Z.ite (fun hc=>?_) fun hc=>Z.ret ⟨fa,hR⟩
 have hc:i<16:=of_decide_eq_true hc;have hw:IntKind.i64.wrap (i+1)=i+1:=eh (by omega) (by omega)
 refine Z.bind (XG ((i,()),()) dG (by show i<=100;omega)) fun r hr=>?_
 have hr:(r.1.1:E).length<=101:=hr;refine Z.eq (zc (s:=[102]) (t:=r.1.1) (by show 1+_<=_;omega)) ?_
 refine Z.bind (Ct ((t,(((([102]:E)++r.1.1,((2:Int),((0:Int),(([]:E),()))))),())),()) hR ⟨by show((([102]:E)++r.1.1).length)<=200;simp;omega,by show(0:Nat)<=200;decide⟩) fun b' h2=>?_
 refine Z.ret ⟨k-1,by omega,?_,?_,fa,h2⟩
 ·show 0<=IntKind.i64.wrap (i+1);rw[hw];omega
 ·show IntKind.i64.wrap (i+1)+((k-1:Nat):Int)=16;rw[hw];omega
noncomputable abbrev aa0:bZ:=[(81,kH),(129,j5),(130,ur)]
theorem abh:bz ah (bX aH aa0):=bV ⟨lj,kw,yq,⟨⟩⟩
abbrev ML:Shape:=⟨[bx 0 500000 0],[bI 500000 [cm .u8,bQ]],17⟩
abbrev Mj:Shape:=⟨[bx 0 500000 0,bx 2 2 0],[bI 500000 [cm .u8,bQ],bI 2 [bW,bQ,bW]],17⟩
noncomputable def rW(a:ML.G):Option Mj.G:=
(jm (((),([([111,110,101]:E),([116,119,111]:E),([116,104,114,101,101]:E),([122,105,112]:E)]:List E),()),(a.2.1.1,a.2.1.2.1,()),())).bind fun b=>
(gx (((),(4:Int),()),(b.2.1.1,b.2.1.2.1,()),())).bind fun c=>
 bif(c.1.2.1 !=(0:Int)) then
(pY (((),()),(c.2.1.1,c.2.1.2.1,()),())).bind fun d=>
 some (((),(),()),(d.2.1.1,d.2.1.2.1,()),(b.1.2.1,c.1.2.1,d.1.2.1,()),())
else
 some (((),(),()),(c.2.1.1,c.2.1.2.1,()),(b.1.2.1,c.1.2.1,([]:E),()),())
noncomputable def zg:bg:=bq aH Tryz.f188 ML Mj [0] rW
theorem DF:bc ah 188 zg:=bB abh Tryz.func188 (by kernel_rfl) aE (fun y=>by kernel_rfl) fun a=>by kernel_rfl
noncomputable abbrev aa3:bZ:=[(81,kH),(129,j5),(130,ur),(188,zg),(225,P6),(226,Eg)]
theorem abk:bz ah (bX aH aa3):=bV ⟨lj,kw,yq,DF,acF,LQ,⟨⟩⟩
abbrev MO:Shape:=⟨[bx 0 500000 0,aQ 1],[bI 500000 [cm .u8,bQ]],27⟩
abbrev Mm:Shape:=⟨[bx 0 500000 0,bx 4 4 0],[bI 500000 [cm .u8,bQ],ep 5000258 .need 4 2,ep 5000259 .entry 4 3,bI 4 [bW,bW,.own 5000258,.own 5000259]],27⟩
noncomputable def y7(a:MO.G):Option Mm.G:=
(pY (((),()),(a.2.1.1,a.2.1.2.1,()),())).bind fun b=>
(ul (((),()),(b.2.1.1,b.2.1.2.1,()),())).bind fun c=>
(jm (((),([([42,42]:E),([97,47,42,42]:E),([108,105,98,47,42,42]:E),([100,111,99,47,42,42]:E),([98,42]:E)]:List E),()),(c.2.1.1,c.2.1.2.1,()),())).bind fun d=>
(f225 ((c.2.2.1,d.1.2.1,()),())).bind fun e=>
(gx (((),(3:Int),()),(d.2.1.1,d.2.1.2.1,()),())).bind fun f=>
 bif(f.1.2.1==(0:Int)) then
(rW (((),()),(f.2.1.1,f.2.1.2.1,()),())).bind fun g=>
(cT 40 ([]:List dq) ([(dq.mk g.2.2.1.1 g.2.2.1.2.1 g.2.2.1.2.2.1)]:List dq)).bind fun h=>
 some (((),(),()),(g.2.1.1,g.2.1.2.1,()),h,e.2.1,(a.1.2.1,b.1.2.1,(),(),()),())
else
 some (((),(),()),(f.2.1.1,f.2.1.2.1,()),([]:List dq),e.2.1,(a.1.2.1,b.1.2.1,(),(),()),())
noncomputable def M':bg:=bq aH Tryz.f185 MO Mm [0] y7
theorem _U:bc ah 185 M':=bB abk Tryz.func185 (by kernel_rfl) aE (fun y=>by kernel_rfl) fun a=>by kernel_rfl
noncomputable abbrev aa2:bZ:=[(81,kH),(129,j5),(130,ur)]
theorem abj:bz ah (bX aH aa2):=bV ⟨lj,kw,yq,⟨⟩⟩
abbrev MN:Shape:=⟨[bx 0 500000 0],[bI 500000 [cm .u8,bQ]],11⟩
abbrev Ml:Shape:=⟨[bx 0 500000 0,aQ 2],[bI 500000 [cm .u8,bQ]],11⟩
noncomputable def um(a:MN.G):Option Ml.G:=
(gx (((),(6:Int),()),(a.2.1.1,a.2.1.2.1,()),())).bind fun b=>
 bif(b.1.2.1==(0:Int)) then
(jm (((),([([]:E),([46]:E),([49,46]:E),([48,49]:E),([49,48,48,48]:E),([49,46,50,46,51,46,52,46,53]:E),([97]:E),([49,46,45,49]:E)]:List E),()),(b.2.1.1,b.2.1.2.1,()),())).bind fun c=>
 some (((),c.1.2.1,()),(c.2.1.1,c.2.1.2.1,()),())
else
(pY (((),()),(b.2.1.1,b.2.1.2.1,()),())).bind fun d=>
 some (((),d.1.2.1,()),(d.2.1.1,d.2.1.2.1,()),())
noncomputable def Eh:bg:=bq aH Tryz.f186 MN Ml [0] um
theorem LR:bc ah 186 Eh:=bB abj Tryz.func186 (by kernel_rfl) aE (fun y=>by kernel_rfl) fun a=>by kernel_rfl
noncomputable abbrev aa1:bZ:=[(81,kH),(129,j5),(186,Eh),(188,zg)]
theorem abi:bz ah (bX aH aa1):=bV ⟨lj,kw,LR,DF,⟨⟩⟩
abbrev MM:Shape:=⟨[bx 0 500000 0],[bI 500000 [cm .u8,bQ]],26⟩
abbrev Mk:Shape:=⟨[bx 0 500000 0,bx 2 2 0],[bI 500000 [cm .u8,bQ],bI 2 [bW,bQ,bW]],26⟩
noncomputable def y6(a:MM.G):Option Mk.G:=
(rW (((),()),(a.2.1.1,a.2.1.2.1,()),())).bind fun b=>
(gx (((),(14:Int),()),(b.2.1.1,b.2.1.2.1,()),())).bind fun c=>
 bif(c.1.2.1==(0:Int)) then
(jm (((),([([]:E),([57]:E),([79,110,101]:E),([101,108,101,118,101,110,108,101,116,116,101]:E)]:List E),()),(c.2.1.1,c.2.1.2.1,()),())).bind fun d=>
 some (((),(),()),(d.2.1.1,d.2.1.2.1,()),(d.1.2.1,b.2.2.1.2.1,b.2.2.1.2.2.1,()),())
else
 bif(c.1.2.1==(1:Int)) then
(gx (((),(6:Int),()),(c.2.1.1,c.2.1.2.1,()),())).bind fun e=>
 some (((),(),()),(e.2.1.1,e.2.1.2.1,()),(b.2.2.1.1,(IntKind.i64.wrap (e.1.2.1-(1:Int))),b.2.2.1.2.2.1,()),())
else
 bif(c.1.2.1==(2:Int)) then
(um (((),()),(c.2.1.1,c.2.1.2.1,()),())).bind fun f=>
 some (((),(),()),(f.2.1.1,f.2.1.2.1,()),(b.2.2.1.1,b.2.2.1.2.1,f.1.2.1,()),())
else
 some (((),(),()),(c.2.1.1,c.2.1.2.1,()),(b.2.2.1.1,b.2.2.1.2.1,b.2.2.1.2.2.1,()),())
noncomputable def M_:bg:=bq aH Tryz.f187 MM Mk [0] y6
theorem _T:bc ah 187 M_:=bB abi Tryz.func187 (by kernel_rfl) aE (fun y=>by kernel_rfl) fun a=>by kernel_rfl
noncomputable abbrev aaV:bZ:=[(81,kH),(129,j5),(291,Ed)]
theorem abd:bz ah (bX aH aaV):=bV ⟨lj,kw,LN,⟨⟩⟩
abbrev MG:Shape:=⟨[bx 0 500000 0],[bI 500000 [cm .u8,bQ]],11⟩
abbrev Me:Shape:=⟨[bx 0 500000 0,aQ 2],[bI 500000 [cm .u8,bQ]],11⟩
noncomputable def y4(a:MG.G):Option Me.G:=
(gx (((),(6:Int),()),(a.2.1.1,a.2.1.2.1,()),())).bind fun b=>
 bif(b.1.2.1==(0:Int)) then
(jm (((),([([]:E),([47]:E),([97,47]:E),([47,97]:E),([46]:E),([46,46]:E),([97,47,47,98]:E),([65]:E),([97,47,98,47,99,47,100,47,101,47,102]:E),([101,108,101,118,101,110,108,101,116,116,101]:E),([97,32,98]:E),([120,47,46,46,47,121]:E)]:List E),()),(b.2.1.1,b.2.1.2.1,()),())).bind fun c=>
 some (((),c.1.2.1,()),(c.2.1.1,c.2.1.2.1,()),())
else
(rV (((),()),(b.2.1.1,b.2.1.2.1,()),())).bind fun d=>
 some (((),d.1.2.1,()),(d.2.1.1,d.2.1.2.1,()),())
noncomputable def M7:bg:=bq aH Tryz.f264 MG Me [0] y4
theorem _Q:bc ah 264 M7:=bB abd Tryz.func264 (by kernel_rfl) aE (fun y=>by kernel_rfl) fun a=>by kernel_rfl
noncomputable abbrev aaX:bZ:=[(81,kH),(129,j5),(263,Ef),(264,M7),(265,Ee),(266,Fq)]
theorem abf:bz ah (bX aH aaX):=bV ⟨lj,kw,LP,_Q,LO,NZ,⟨⟩⟩
abbrev MI:Shape:=⟨[bx 0 500000 0],[bI 500000 [cm .u8,bQ]],32⟩
abbrev Mg:Shape:=⟨[bx 0 500000 0,bx 2 2 0],[bI 500000 [cm .u8,bQ],bI 2 [bW,bQ,bQ,bW]],32⟩
noncomputable def uk(a:MI.G):Option Mg.G:=
(uj (((),()),(a.2.1.1,a.2.1.2.1,()),())).bind fun b=>
(gx (((),(14:Int),()),(b.2.1.1,b.2.1.2.1,()),())).bind fun c=>
 bif(c.1.2.1==(0:Int)) then
(y4 (((),()),(c.2.1.1,c.2.1.2.1,()),())).bind fun d=>
 some (((),(),()),(d.2.1.1,d.2.1.2.1,()),(d.1.2.1,b.2.2.1.2.1,b.2.2.1.2.2.1,b.2.2.1.2.2.2.1,()),())
else
 bif(c.1.2.1==(1:Int)) then
(gx (((),(5:Int),()),(c.2.1.1,c.2.1.2.1,()),())).bind fun e=>
 some (((),(),()),(e.2.1.1,e.2.1.2.1,()),(b.2.2.1.1,e.1.2.1,b.2.2.1.2.2.1,b.2.2.1.2.2.2.1,()),())
else
 bif(c.1.2.1==(2:Int)) then
(ui (((),([((-1):Int),(8:Int),(0:Int)]:List Int),()),(c.2.1.1,c.2.1.2.1,()),())).bind fun f=>
 some (((),(),()),(f.2.1.1,f.2.1.2.1,()),(b.2.2.1.1,b.2.2.1.2.1,f.1.2.1,b.2.2.1.2.2.2.1,()),())
else
 bif(c.1.2.1==(3:Int)) then
(f266 ((([117]:E),(81:Int),()),())).bind fun g=>
(jm (((),([([1]:E),g.1.1,([120]:E),([]:E)]:List E),()),(c.2.1.1,c.2.1.2.1,()),())).bind fun h=>
 some (((),(),()),(h.2.1.1,h.2.1.2.1,()),(b.2.2.1.1,b.2.2.1.2.1,b.2.2.1.2.2.1,h.1.2.1,()),())
else
 some (((),(),()),(c.2.1.1,c.2.1.2.1,()),(b.2.2.1.1,b.2.2.1.2.1,b.2.2.1.2.2.1,b.2.2.1.2.2.2.1,()),())
noncomputable def M8:bg:=bq aH Tryz.f227 MI Mg [0] uk
theorem _R:bc ah 227 M8:=bB abf Tryz.func227 (by kernel_rfl) aE (fun y=>by kernel_rfl) fun a=>by kernel_rfl
noncomputable abbrev aaZ:bZ:=[(129,j5),(156,z6),(226,Eg),(227,M8)]
theorem abg:bz ah (bX aH aaZ):=bV ⟨kw,z156,LQ,_R,⟨⟩⟩
abbrev MK:Shape:=⟨[bx 0 500000 0],[bI 500000 [cm .u8,bQ]],30⟩
abbrev Mi:Shape:=⟨[bx 0 500000 0,bU 2 3000128],[bI 500000 [cm .u8,bQ],b3 3000128 .entry 2 0],30⟩
noncomputable def y5(a:MK.G):Option Mi.G:=
(ul (((),()),(a.2.1.1,a.2.1.2.1,()),())).bind fun b=>
(f156 ((b.2.2.1,()),())).bind fun c=>
(gx (((),(14:Int),()),(b.2.1.1,b.2.1.2.1,()),())).bind fun d=>
 bif(d.1.2.1==(0:Int)) then
(uk (((),()),(d.2.1.1,d.2.1.2.1,()),())).bind fun e=>
(cT 48 c.2.1 ([(bu.mk e.2.2.1.1 e.2.2.1.2.1 e.2.2.1.2.2.1 e.2.2.1.2.2.2.1)]:List bu)).bind fun f=>
 some (((),(),()),(e.2.1.1,e.2.1.2.1,()),f,())
else
 bif(d.1.2.1==(1:Int)) then
 bif(decide ((c.2.1.length:Int)>(0:Int))) then
(gx (((),(c.2.1.length:Int),()),(d.2.1.1,d.2.1.2.1,()),())).bind fun g=>
(uk (((),()),(g.2.1.1,g.2.1.2.1,()),())).bind fun h=>
(hy c.2.1.length g.1.2.1).bind fun i=>
((c.2.1[i]?).bind fun q=>some (bu.mk h.2.2.1.1 h.2.2.1.2.1 h.2.2.1.2.2.1 h.2.2.1.2.2.2.1)).bind fun j=>
 some (((),(),()),(h.2.1.1,h.2.1.2.1,()),(c.2.1.set i j),())
else
 some (((),(),()),(d.2.1.1,d.2.1.2.1,()),c.2.1,())
else
 some (((),(),()),(d.2.1.1,d.2.1.2.1,()),c.2.1,())
noncomputable def M9:bg:=bq aH Tryz.f189 MK Mi [0] y5
theorem _S:bc ah 189 M9:=bB abg Tryz.func189 (by kernel_rfl) aE (fun y=>by kernel_rfl) fun a=>by kernel_rfl
noncomputable abbrev aa5:bZ:=[(81,kH),(129,j5),(185,M'),(186,Eh),(187,M_),(188,zg),(189,M9)]
theorem abl:bz ah (bX aH aa5):=bV ⟨lj,kw,_U,LR,_T,DF,_S,⟨⟩⟩
abbrev MQ:Shape:=⟨[bx 0 500000 0],[bI 500000 [cm .u8,bQ]],39⟩
abbrev Mo:Shape:=⟨[bx 0 500000 0,bx 2 2 0],[bI 500000 [cm .u8,bQ],ep 5000130 .need 2 2,ep 5000131 .entry 2 3,bI 2 [bW,bW,.own 5000130,.own 5000131]],39⟩
noncomputable def y9(a:MQ.G):Option Mo.G:=
(jm (((),([([111,110,101]:E),([116,119,111]:E),([116,104,114,101,101]:E),([122,105,112]:E)]:List E),()),(a.2.1.1,a.2.1.2.1,()),())).bind fun b=>
(y7 (((),b.1.2.1,()),(b.2.1.1,b.2.1.2.1,()),())).bind fun c=>
(gx (((),(14:Int),()),(c.2.1.1,c.2.1.2.1,()),())).bind fun d=>
 bif(d.1.2.1==(0:Int)) then
(jm (((),([([]:E),([79,110,101]:E)]:List E),()),(d.2.1.1,d.2.1.2.1,()),())).bind fun e=>
 some (((),(),()),(e.2.1.1,e.2.1.2.1,()),c.2.2.1,c.2.2.2.1,(e.1.2.1,c.2.2.2.2.1.2.1,(),(),()),())
else
 bif(d.1.2.1==(1:Int)) then
(um (((),()),(d.2.1.1,d.2.1.2.1,()),())).bind fun f=>
 some (((),(),()),(f.2.1.1,f.2.1.2.1,()),c.2.2.1,c.2.2.2.1,(c.2.2.2.2.1.1,f.1.2.1,(),(),()),())
else
 bif(d.1.2.1==(2:Int)) then
(y6 (((),()),(d.2.1.1,d.2.1.2.1,()),())).bind fun g=>
(rW (((),()),(g.2.1.1,g.2.1.2.1,()),())).bind fun h=>
(cT 40 c.2.2.1 ([(dq.mk g.2.2.1.1 g.2.2.1.2.1 g.2.2.1.2.2.1),(dq.mk h.2.2.1.1 h.2.2.1.2.1 h.2.2.1.2.2.1)]:List dq)).bind fun i=>
 some (((),(),()),(h.2.1.1,h.2.1.2.1,()),i,c.2.2.2.1,(c.2.2.2.2.1.1,c.2.2.2.2.1.2.1,(),(),()),())
else
 bif(d.1.2.1==(3:Int)) then
(y5 (((),()),(d.2.1.1,d.2.1.2.1,()),())).bind fun j=>
 some (((),(),()),(j.2.1.1,j.2.1.2.1,()),c.2.2.1,j.2.2.1,(c.2.2.2.2.1.1,c.2.2.2.2.1.2.1,(),(),()),())
else
 some (((),(),()),(d.2.1.1,d.2.1.2.1,()),c.2.2.1,c.2.2.2.1,(c.2.2.2.2.1.1,c.2.2.2.2.1.2.1,(),(),()),())
noncomputable def Nb:bg:=bq aH Tryz.f131 MQ Mo [0] y9
theorem _W:bc ah 131 Nb:=bB abl Tryz.func131 (by kernel_rfl) aE (fun y=>by kernel_rfl) fun a=>by kernel_rfl
abbrev Sl(p:a6):Prop:=AN p/\p.cK.length<=2097151/\∀n,n∈p.b_->n.cK.length<=2097151
abbrev vX(k:Nat)(ps:List a6):Prop:=ps.length<=k/\∀p,p∈ps->Sl p
theorem vX.SW{k:Nat}{ps:List a6}(h:vX k ps)(ak:k<=2097152):kO ps:=⟨Nat.le_trans h.1 ak,fun p ai=>(h.2 p ai).1⟩
theorem vX.vs{k:Nat}{ps:List a6}(h:vX k ps):q5 ps:=fun p ai=>(h.2 p ai).2
abbrev Gz(n:dq):Prop:=dt n.name/\dt n.cK
def Nx(s:E):Bool:=!(s==[102,114,101,115,104])&&!(s==[110,111,98,111,100,121,115])
abbrev GF(s:E):Prop:=dt s/\Nx s=true
theorem yL{L:List E}(h:L.all (fun s=>decide (s.length<=200)&&Nx s)=true){s:E}(H:s∈L):GF s:=by
 have:=List.all_eq_true.1 h s H;simp only[Bool.and_eq_true,decide_eq_true_eq] at this;exact this
abbrev qN(p:a6):Prop:=GF p.name/\dt p.cK/\(p.b_.length<=3/\∀n,n∈p.b_->Gz n)/\(p.ei.length<=17/\∀e,e∈p.ei->lL e)
theorem qN.ok{p:a6}(h:qN p):Sl p:=by
 obtain⟨a,b,⟨bD,bM⟩,d1,d2⟩:=h;have up:∀{s:E},dt s->cM s.length:=fun h=>Nat.le_trans h (by decide)
 exact⟨⟨up a.1,up b,⟨Nat.le_trans bD (by decide),fun n hn=>⟨up (bM n hn).1,up (bM n hn).2⟩⟩,Nat.le_trans d1 (by decide),fun e he=>⟨up (d2 e he).1,up (d2 e he).2⟩⟩,Nat.le_trans b (by decide),fun n hn=>Nat.le_trans (bM n hn).2 (by decide)⟩
theorem Bt(a)(m:Nat)(h:c8 a.2.1.1 a.2.1.2.1 m)(hm:3<=m):Z (rW a) (fun r=>c8 r.2.1.1 r.2.1.2.1 (m-3)/\Gz ⟨r.2.2.1.1,r.2.2.1.2.1,r.2.2.1.2.2.1⟩):=by
 unfold rW;refine Z.bind (kJ _ m h (by omega) (by simp)) fun cy h1=>?_
 have s1:dt cy.1.2.1:=oR (by rfl) h1.2
 refine Z.bind (hI _ _ h1.1 (by omega)) fun b' h2=>?_
 refine Z.ite (fun _=>?_) fun _=>Z.ret ⟨h2.1.less (by omega),s1,by show(0:Nat)<=200;decide⟩
 exact Z.bind (ww _ _ h2.1 (by omega)) fun dy aa=>Z.ret ⟨aa.1.less (by omega),s1,aa.2⟩
theorem We(a)(m:Nat)(h:c8 a.2.1.1 a.2.1.2.1 m)(hm:50<=m)(hn:GF a.1.2.1):Z (y7 a) (fun r=>c8 r.2.1.1 r.2.1.2.1 (m-50)/\qN ⟨r.2.2.2.2.1.1,r.2.2.2.2.1.2.1,r.2.2.1,r.2.2.2.1⟩/\(r.2.2.1:List dq).length<=1):=by
 unfold y7;refine Z.bind (ww _ m h (by omega)) fun cy h1=>?_
 refine Z.bind (IH _ _ h1.1 (by omega)) fun b' h2=>?_
 refine Z.bind (kJ _ _ h2.1 (by omega) (by simp)) fun dy aa=>?_
 have aF:(dy.1.2.1:E).length<=200/\kN dy.1.2.1:=by
  have:=aa.2;simp only[List.mem_cons,List.not_mem_nil,or_false] at this;rcases this with e|e|e|e|e
  all_goals(rw[e];exact⟨by decide,by decide⟩)
 refine Z.bind (UX ((b'.2.2.1,(dy.1.2.1,())),()) h2.2 aF.1 aF.2) fun eZ aN=>?_
 refine Z.bind (hI _ _ aa.1 (by omega)) fun r5 bn=>?_
 have aC:(eZ.2.1:List bu).length<=17/\∀e,e∈(eZ.2.1:List bu)->lL e:=⟨Nat.le_succ_of_le aN.1,aN.2⟩;refine Z.ite (fun _=>?_) fun _=>Z.ret ⟨bn.1.less (by omega),⟨hn,h1.2,⟨by show(0:Nat)<=3;decide,fun n hn=>by cases hn⟩,aC⟩,by show(0:Nat)<=1;decide⟩
 refine Z.bind (Bt _ _ bn.1 (by omega)) fun ns dY=>?_
 refine Z.eq (fT (by decide) (by unfold aW;simp)) ?_
 refine Z.ret ⟨dY.1.less (by omega),⟨hn,h1.2,⟨by show(1:Nat)<=3;decide,fun n hn=>?_⟩,aC⟩,by show(1:Nat)<=1;decide⟩
 have hn:n∈([]:List dq)++[_]:=hn;rw[List.nil_append,List.mem_singleton] at hn;rw[hn];exact dY.2
theorem Hh(a)(m:Nat)(h:c8 a.2.1.1 a.2.1.2.1 m)(hm:2<=m):Z (um a) (fun r=>c8 r.2.1.1 r.2.1.2.1 (m-2)/\dt r.1.2.1):=by
 unfold um;refine Z.bind (hI _ m h (by omega)) fun cy h1=>?_
 refine Z.ite (fun _=>?_) fun _=>?_
 ·exact Z.bind (kJ _ _ h1.1 (by omega) (by simp)) fun r hr=>Z.ret ⟨hr.1.less (by omega),oR (by rfl) hr.2⟩
 ·exact Z.bind (ww _ _ h1.1 (by omega)) fun r hr=>Z.ret ⟨hr.1.less (by omega),hr.2⟩
theorem TC(a)(m:Nat)(h:c8 a.2.1.1 a.2.1.2.1 m)(hm:2<=m):Z (y4 a) (fun r=>c8 r.2.1.1 r.2.1.2.1 (m-2)/\dt r.1.2.1):=by
 unfold y4;refine Z.bind (hI _ m h (by omega)) fun cy h1=>?_
 refine Z.ite (fun _=>?_) fun _=>?_
 ·exact Z.bind (kJ _ _ h1.1 (by omega) (by simp)) fun r hr=>Z.ret ⟨hr.1.less (by omega),oR (by rfl) hr.2⟩
 ·exact Z.bind (Bs _ _ h1.1 (by omega)) fun r hr=>Z.ret ⟨hr.1.less (by omega),hr.2⟩
theorem TE(a)(m:Nat)(h:c8 a.2.1.1 a.2.1.2.1 m)(hm:7<=m):Z (y6 a) (fun r=>c8 r.2.1.1 r.2.1.2.1 (m-7)/\Gz ⟨r.2.2.1.1,r.2.2.1.2.1,r.2.2.1.2.2.1⟩):=by
 unfold y6;refine Z.bind (Bt _ m h (by omega)) fun cy h1=>?_
 refine Z.bind (hI _ _ h1.1 (by omega)) fun b' h2=>?_
 refine Z.ite (fun _=>?_) fun _=>Z.ite (fun _=>?_) fun _=>Z.ite (fun _=>?_) fun _=>?_
 ·exact Z.bind (kJ _ _ h2.1 (by omega) (by simp)) fun r hr=>Z.ret ⟨hr.1.less (by omega),oR (by rfl) hr.2,h1.2.2⟩
 ·exact Z.bind (hI _ _ h2.1 (by omega)) fun r hr=>Z.ret ⟨hr.1.less (by omega),h1.2⟩
 ·exact Z.bind (Hh _ _ h2.1 (by omega)) fun r hr=>Z.ret ⟨hr.1.less (by omega),h1.2.1,hr.2⟩
 ·exact Z.ret ⟨h2.1.less (by omega),h1.2⟩
theorem Hn(a)(m:Nat)(h:c8 a.2.1.1 a.2.1.2.1 m)(hm:8<=m):Z (uk a) (fun r=>c8 r.2.1.1 r.2.1.2.1 (m-8)/\lL ⟨r.2.2.1.1,r.2.2.1.2.1,r.2.2.1.2.2.1,r.2.2.1.2.2.2.1⟩):=by
 unfold uk;refine Z.bind (H9 _ m h (by omega)) fun cy h1=>?_
 refine Z.bind (hI _ _ h1.1 (by omega)) fun b' h2=>?_
 refine Z.ite (fun _=>?_) fun _=>Z.ite (fun _=>?_) fun _=>Z.ite (fun _=>?_) fun _=>Z.ite (fun _=>?_) fun _=>?_
 ·exact Z.bind (TC _ _ h2.1 (by omega)) fun r hr=>Z.ret ⟨hr.1.less (by omega),hr.2,h1.2.2⟩
 ·exact Z.bind (hI _ _ h2.1 (by omega)) fun r hr=>Z.ret ⟨hr.1.less (by omega),h1.2⟩
 ·exact Z.bind (Nl _ _ h2.1 (by omega) (by simp)) fun r hr=>Z.ret ⟨hr.1.less (by omega),h1.2⟩
 ·refine Z.bind (JH _ (by simp) (by show(0:Int)<=81;decide) (by show(81:Int)<=127;decide)) fun q aA=>?_
  refine Z.bind (kJ _ _ h2.1 (by omega) (by simp)) fun r hr=>Z.ret ⟨hr.1.less (by omega),h1.2.1,?_⟩
  have:=hr.2;simp only[List.mem_cons,List.not_mem_nil,or_false] at this;rcases this with e|e|e|e
  ·show(r.1.2.1:E).length<=200;rw[e];decide
  ·show(r.1.2.1:E).length<=200;rw[e];exact aA
  ·show(r.1.2.1:E).length<=200;rw[e];decide
  ·show(r.1.2.1:E).length<=200;rw[e];decide
 ·exact Z.ret ⟨h2.1.less (by omega),h1.2⟩
abbrev PJ(t:List bu):Prop:=t.length<=17/\∀e,e∈t->lL e
theorem TB(a)(m:Nat)(h:c8 a.2.1.1 a.2.1.2.1 m)(hm:50<=m):Z (y5 a) (fun r=>c8 r.2.1.1 r.2.1.2.1 (m-50)/\PJ r.2.2.1):=by
 unfold y5;refine Z.bind (IH _ m h (by omega)) fun cy h1=>?_
 obtain⟨mC,⟨u1,(t:List bu),u2⟩⟩:=cy;have aC:jc t:=h1.2;have akc:=aC.1;refine Z.eq (JG ((t,()),()) (by show t.length<=2097152;omega)) ?_
 refine Z.bind (hI _ _ h1.1 (by omega)) fun b' h2=>?_
 have pg:PJ t:=⟨Nat.le_succ_of_le aC.1,aC.2⟩;refine Z.ite (fun _=>?_) fun _=>Z.ite (fun _=>?_) fun _=>Z.ret ⟨h2.1.less (by omega),pg⟩
 ·refine Z.bind (Hn _ _ h2.1 (by omega)) fun dy aa=>?_
  refine Z.eq (fT (xs:=t) (by decide) (by unfold aW;simp;omega)) ?_
  refine Z.ret ⟨aa.1.less (by omega),by show(t++[_]).length<=17;simp;omega,fun e he=>?_⟩
  have he:e∈t++[_]:=he;rcases List.mem_append.1 he with he|he
  ·exact aC.2 e he
  ·rw[List.mem_singleton.1 he];exact aa.2
 ·refine Z.ite (fun hc=>?_) fun _=>Z.ret ⟨h2.1.less (by omega),pg⟩
  have hc:(t.length:Int)>0:=of_decide_eq_true hc;refine Z.bind (hI _ _ h2.1 (by omega)) fun dy aa=>?_
  obtain⟨⟨lN,(q:Int),v2⟩,v3⟩:=dy;have Gb:0<=q:=aa.2.1;have ake:q<(t.length:Int):=aa.2.2 (by show(1:Int)<=(t.length:Int);omega)
  obtain⟨j,rfl⟩:=Int.eq_ofNat_of_zero_le Gb;have bv:j<t.length:=by omega
  refine Z.bind (Hn _ _ aa.1 (by omega)) fun eZ aN=>?_
  refine Z.eq (lc (n:=t.length) (i:=j) bv) ?_
  refine Z.eq (x:=bu.mk eZ.2.2.1.1 eZ.2.2.1.2.1 eZ.2.2.1.2.2.1 eZ.2.2.1.2.2.2.1) (by show(t[j]?).bind _=_;rw[List.getElem?_eq_getElem bv];rfl) ?_
  exact Z.ret ⟨aN.1.less (by omega),by show(t.set _ _).length<=17;rw[List.length_set];omega,KU aC.2 aN.2⟩
theorem TD(a)(m:Nat)(h:c8 a.2.1.1 a.2.1.2.1 m)(hm:110<=m):Z (y9 a) (fun r=>c8 r.2.1.1 r.2.1.2.1 (m-110)/\qN ⟨r.2.2.2.2.1.1,r.2.2.2.2.1.2.1,r.2.2.1,r.2.2.2.1⟩):=by
 unfold y9;refine Z.bind (kJ _ m h (by omega) (by simp)) fun cy h1=>?_
 refine Z.bind (We _ _ h1.1 (by omega) (yL (by rfl) h1.2)) fun b' h2=>?_
 obtain⟨Au,As,vx,og⟩:=h2.2.1;refine Z.bind (hI _ _ h2.1 (by omega)) fun dy aa=>?_
 refine Z.ite (fun _=>?_) fun _=>Z.ite (fun _=>?_) fun _=>Z.ite (fun _=>?_) fun _=>Z.ite (fun _=>?_) fun _=>?_
 ·exact Z.bind (kJ _ _ aa.1 (by omega) (by simp)) fun r hr=>Z.ret ⟨hr.1.less (by omega),yL (by rfl) hr.2,As,vx,og⟩
 ·exact Z.bind (Hh _ _ aa.1 (by omega)) fun r hr=>Z.ret ⟨hr.1.less (by omega),Au,hr.2,vx,og⟩
 ·refine Z.bind (TE _ _ aa.1 (by omega)) fun eZ aN=>?_
  refine Z.bind (Bt _ _ aN.1 (by omega)) fun r5 bn=>?_
  have hl:=h2.2.2;refine Z.eq (fT (xs:=(b'.2.2.1:List dq)) (by decide) (by unfold aW;simp;omega)) ?_
  refine Z.ret ⟨bn.1.less (by omega),Au,As,⟨by show((b'.2.2.1:List dq)++[_,_]).length<=3;simp;omega,fun n hn=>?_⟩,og⟩
  have hn:n∈(b'.2.2.1:List dq)++[_,_]:=hn;rcases List.mem_append.1 hn with hn|hn
  ·exact vx.2 n hn
  ·simp only[List.mem_cons,List.not_mem_nil,or_false] at hn;rcases hn with rfl|rfl
   ·exact aN.2
   ·exact bn.2
 ·exact Z.bind (TB _ _ aa.1 (by omega)) fun r hr=>Z.ret ⟨hr.1.less (by omega),Au,As,vx,hr.2⟩
 ·exact Z.ret ⟨aa.1.less (by omega),Au,As,vx,og⟩
abbrev x0:Shape:=⟨[aX 0 .str,aQ 1,ar 5],[],18⟩
abbrev CX:List bh:=[(.ret,⟨[aV 4],[],18⟩),(.exit 0,⟨[],[],18⟩)]
noncomputable def yj(y:x0.G):cJ x0 CX:=
 bif(decide (y.1.2.2.1<(y.1.1.length:Int))) then
(bd y.1.1 y.1.2.2.1).bind fun a=>
 bif(a==y.1.2.1) then
 some (.inr (.inl ((true,()),())))
else
 some (.inl ((y.1.1,y.1.2.1,(IntKind.i64.wrap (y.1.2.2.1+(1:Int))),()),()))
else
 some (.inr (.inr ((),())))
noncomputable def Dl:x0.G->Option (a_ CX):=b8 yj
theorem Z6:bo ah (aO (codeOf Tryz.f100) 1 26) (bE x0 CX Dl):=cQ g0 (by kernel_rfl) aE fun y=>by kernel_rfl
abbrev i100:Shape:=⟨[aX 0 .str,aQ 1],[],18⟩
abbrev Pa:Shape:=⟨[aV 4],[],18⟩
noncomputable def f100(a:i100.G):Option Pa.G:=
(Dl ((a.1.1,a.1.2.1,(0:Int),()),())).bind fun b=>
(match b with
|.inl c=>
 some ((c.1.1,()),())
|.inr d=>
 some ((false,()),()))
noncomputable def Qt:bg:=bq aH Tryz.f100 i100 Pa [] f100
theorem ac0:bc ah 100 Qt:=bB g0 Tryz.func100 (by kernel_rfl) (bJ Z6 aE) (fun y=>by kernel_rfl) fun a=>by kernel_rfl
noncomputable abbrev ah0:bZ:=[(98,GB),(99,GA)]
theorem Ss:bz ah (bX aH ah0):=bV ⟨QL,QK,⟨⟩⟩
abbrev yE:Shape:=⟨[aX 0 .pack,bU 3 3000192,ar 4],[b3 3000192 .str 3 0],28⟩
abbrev DO:List bh:=[(.ret,⟨[ar 2],[],28⟩),(.exit 0,⟨[bU 3 3000192],[b3 3000192 .str 3 0],28⟩)]
noncomputable def yZ(y:yE.G):cJ yE DO:=
 bif(decide (y.1.2.2.1<(y.1.1.length:Int))) then
(bd y.1.1 y.1.2.2.1).bind fun a=>
(f98 (((a.name,a.cK,a.b_,a.ei,()),()),())).bind fun b=>
 bif(!b.1.1) then
 some (.inr (.inl (((1:Int),()),())))
else
(bd y.1.1 y.1.2.2.1).bind fun c=>
(cT 16 y.2.1 ([c.name]:List E)).bind fun d=>
 some (.inl ((y.1.1,(),(IntKind.i64.wrap (y.1.2.2.1+(1:Int))),()),d,()))
else
 some (.inr (.inr (((),()),y.2.1,())))
noncomputable def yQ:yE.G->Option (a_ DO):=b8 yZ
theorem aah:bo ah (aO (codeOf Tryz.f55) 1 58) (bE yE DO yQ):=cQ Ss (by kernel_rfl) aE fun y=>by kernel_rfl
abbrev i55:Shape:=⟨[aX 0 .pack],[],28⟩
abbrev Q8:Shape:=⟨[ar 2],[],28⟩
noncomputable def f55(a:i55.G):Option Q8.G:=
(yQ ((a.1.1,(),(0:Int),()),([]:List E),())).bind fun b=>
(match b with
|.inl c=>
 some ((c.1.1,()),())
|.inr d=>
(f99 ((d.2.1,()),())).bind fun e=>
 bif e.1.1 then
 some (((2:Int),()),())
else
 some (((0:Int),()),()))
noncomputable def Sd:bg:=bq aH Tryz.f55 i55 Q8 [] f55
theorem afr:bc ah 55 Sd:=bB Ss Tryz.func55 (by kernel_rfl) (bJ aah aE) (fun y=>by kernel_rfl) fun a=>by kernel_rfl
end Go.Proofs
