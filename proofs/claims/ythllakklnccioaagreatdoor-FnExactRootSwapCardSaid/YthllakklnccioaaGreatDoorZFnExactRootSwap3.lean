/- FnExactRootSwap: the program's RootSwap returns what the reference's returns, for all arguments. (part 4 of 6: JnNTy, JnNSp, JnNOp, JnNEn, JnNF118, JnNF151, JnNF91, JnNF161, JnNF90, JnNPuA, JnNF89, JnNPuB, JnNFH297, JnNF271, JnNF238, JnNF241, JnNIt, JnNF127, JnNF119, JnNF121, JnNF181, JnNF162, JnNF233, JnNPuC,) Conditions: none beyond the statement. -/
import Derived.Test.YthllakklnccioaaGreatDoorZFnExactRootSwap2
import Derived.Tactics
import Derived.Deep.RegionLaw
import Derived.Shelf.Abstract
import Derived.Test.YthllakklnccioaaGreatDoorProg
import Derived.KernelRfl
set_option linter.unusedSimpArgs false
set_option maxRecDepth 100000
set_option linter.unusedVariables false
namespace Go.Proofs
open Go.Jk
noncomputable abbrev Z:Program:=Tryz.prog
noncomputable def aiP:List (Nat×cf):=[
(2,.int .i64),
(3,.int .i64),
(4,.bool),
(5,.int .u8),
(6,.int .u8),
(7,.struct [(0,1),(1,1),(2,1),(3,1)] 4 [.d (.int .i64 0),.d (.int .i64 0),.d (.bool false),.d (.int .u8 0)] false),
(8,.struct [(0,1),(1,1),(2,1),(3,1)] 4 [.d (.int .i64 0),.d (.int .i64 0),.d (.bool false),.d (.int .u8 0)] false),
(9,.str),
(10,.str),
(11,.str),
(12,.int .u64),
(13,.struct [(0,1),(1,1)] 2 [.d (.str []),.d (.int .u64 0)] false),
(14,.struct [(0,1),(1,1)] 2 [.d (.str []),.d (.int .u64 0)] false),
(15,.ptr),
(16,.ptr),
(17,.ptr),
(18,.struct [(0,1)] 1 [.cB (.pointer none)] false),
(19,.struct [(0,1)] 1 [.cB (.pointer none)] false),
(20,.iface),
(21,.int .i32),
(22,.slice 52 .pack 80),
(23,.struct [(0,1)] 1 [.nil .pack] false),
(24,.struct [(0,1)] 1 [.nil .pack] false),
(26,.slice 73 .entry 48),
(28,.slice 57 .pack 80),
(29,.struct [(0,1)] 1 [.nil .pack] false),
(30,.struct [(0,1)] 1 [.nil .pack] false),
(38,.slice 9 .str 16),
(49,.slice 139 .need 40),
(50,.slice 141 .entry 48),
(51,.struct [(0,1),(1,1),(2,1),(3,1)] 4 [.d (.str []),.d (.str []),.nil .need,.nil .entry] false),
(52,.struct [(0,1),(1,1),(2,1),(3,1)] 4 [.d (.str []),.d (.str []),.nil .need,.nil .entry] false),
(55,.slice 91 .need 40),
(56,.struct [(0,1),(1,1),(2,1),(3,1)] 4 [.d (.str []),.d (.str []),.nil .need,.nil .entry] false),
(57,.struct [(0,1),(1,1),(2,1),(3,1)] 4 [.d (.str []),.d (.str []),.nil .need,.nil .entry] false),
(62,.slice 5 .u8 1),
(72,.struct [(0,1),(1,1),(2,1),(3,1)] 4 [.d (.str []),.d (.int .i64 0),.d (.int .i64 0),.d (.str [])] false),
(73,.struct [(0,1),(1,1),(2,1),(3,1)] 4 [.d (.str []),.d (.int .i64 0),.d (.int .i64 0),.d (.str [])] true),
(86,.map 9 3 .i64),
(90,.struct [(0,1),(1,1),(2,1)] 3 [.d (.str []),.d (.int .i64 0),.d (.str [])] false),
(91,.struct [(0,1),(1,1),(2,1)] 3 [.d (.str []),.d (.int .i64 0),.d (.str [])] true),
(108,.ptr),
(112,.slice 3 .i64 8),
(113,.struct [(0,1),(1,1),(2,1),(3,1)] 4 [.nil .pack,.cB (.map none),.nil .i64,.nil .str] false),
(114,.struct [(0,1),(1,1),(2,1),(3,1)] 4 [.nil .pack,.cB (.map none),.nil .i64,.nil .str] false),
(131,.int .u64),
(139,.struct [(0,1),(1,1),(2,1)] 3 [.d (.str []),.d (.int .i64 0),.d (.str [])] true),
(141,.struct [(0,1),(1,1),(2,1),(3,1)] 4 [.d (.str []),.d (.int .i64 0),.d (.int .i64 0),.d (.str [])] true),
(150,.slice 3 .i64 8),
(154,.struct [(0,1),(1,1)] 2 [.nil .u8,.d (.int .i64 0)] false),
(155,.struct [(0,1),(1,1)] 2 [.nil .u8,.d (.int .i64 0)] false),
(159,.ptr),
(166,.func),
(181,.int .i64),
(189,.int .u32),
(191,.int .u64),
(216,.int .u64),
(220,.ptr),
(233,.ptr),
(234,.struct [(0,1),(1,1)] 2 [.cB (.pointer none),.nil .u8] false),
(235,.struct [(0,1),(1,1)] 2 [.cB (.pointer none),.nil .u8] false),
(236,.iface),
(237,.iface),
(241,.arr 189 .u32 8),
(243,.slice 189 .u32 4),
(245,.ptr),
(259,.arr 4 .bool 256),
(260,.arr 4 .bool 256),
(263,.ptr),
(264,.arr 189 .u32 64),
(272,.ptr),
(276,.struct [(0,1),(1,1)] 2 [.d (.int .u8 0),.d (.int .u8 0)] false),
(277,.struct [(0,1),(1,1)] 2 [.d (.int .u8 0),.d (.int .u8 0)] false),
(290,.struct [(0,1),(1,1),(2,1),(3,1)] 4 [.cB (.pointer none),.cB (.pointer none),.cB (.pointer none),.d (.str [])] false),
(291,.struct [(0,1),(1,1),(2,1),(3,1)] 4 [.cB (.pointer none),.cB (.pointer none),.cB (.pointer none),.d (.str [])] false),
(295,.int .u8),
(296,.int .u8),
(298,.int .i32),
(299,.int .i32),
(300,.struct [(0,1),(1,1),(2,1),(3,1),(4,1),(5,1),(6,1),(7,1),(8,1),(9,1),(10,1)] 11 [.d (.int .u64 0),.d (.int .u64 0),.d (.int .u32 0),.d (.int .u8 0),.d (.int .u8 0),.d (.int .u8 0),.d (.int .u8 0),.cB .nilFunc,.cB (.pointer none),.d (.int .i32 0),.d (.int .i32 0)] false),
(301,.struct [(0,1),(1,1),(2,1),(3,1),(4,1),(5,1),(6,1),(7,1),(8,1),(9,1),(10,1)] 11 [.d (.int .u64 0),.d (.int .u64 0),.d (.int .u32 0),.d (.int .u8 0),.d (.int .u8 0),.d (.int .u8 0),.d (.int .u8 0),.cB .nilFunc,.cB (.pointer none),.d (.int .i32 0),.d (.int .i32 0)] false)]
noncomputable def tt:TypeId->cf:=z1 aiP
noncomputable def ap:Env:=⟨tt,[(183,257)],[17,18,26,27,37,60,66,67,124,160],[79],[],[],[],false⟩
noncomputable def hd:Env:={ap with dQ:=true}
abbrev cy(s:Shape)(t:List bg):=Option (Sum s.H (aQ t))
theorem adI(s p:ByteArray)(k:Int)(w:World):Calls Z 223 #[.string s,.string p,.int .i64 k] w fun e w'=>
  e=.returned (.func (.func 257) #[] #[.pointer (some ⟨w.heap.size+1,0,none⟩),.pointer (some ⟨w.heap.size,0,none⟩),.pointer (some ⟨w.heap.size+2,0,none⟩)])/\
  w'=((w.alloc (.cells #[.string s] 9)).alloc (.cells #[.string p] 9)).alloc (.cells #[.int .i64 k] 3):=by
 go_enter Tryz.func223,Tryz.ntmps223
 go_wp2
 go_ret
 exact⟨rfl,rfl⟩
theorem adJ(s p:ByteArray)(w:World):Calls Z 183 #[.string s,.string p] w fun e w'=>
  e=.returned (.func (.func 257) #[] #[.pointer (some ⟨w.heap.size+1,0,none⟩),.pointer (some ⟨w.heap.size,0,none⟩),.pointer (some ⟨w.heap.size+2,0,none⟩)])/\
  w'=((w.alloc (.cells #[.string s] 9)).alloc (.cells #[.string p] 9)).alloc (.cells #[.int .i64 0] 3):=by
 go_enter Tryz.func183,Tryz.ntmps183
 go_wp2_with (go_at_call 223;refine(adI _ _ _ _).mono ?_;rintro e w' ⟨rfl,rfl⟩)
 go_ret
 exact⟨rfl,rfl⟩
theorem afr:yJ Z 183 257:=fun a b w=>.inl ⟨enters_of Tryz.func183 (by kernel_rfl) rfl _ _,(adJ a b w).mono fun e w' h=>by obtain⟨rfl,rfl⟩:=h;exact⟨9,3,rfl,rfl⟩⟩
theorem ai6(w:World):Calls Z 79 #[.slice none 0 0] w fun e w'=>e=.returned (.pointer (some ⟨w.heap.size,0,none⟩))/\w'=w.alloc (.cells #[.slice none 0 0,.int .i64 0] 155):=by
 go_enter Tryz.func79,Tryz.ntmps79
 go_wp2
 go_ret
 exact⟨rfl,rfl⟩
theorem ai5(w:World)(a:Addr)(n c:Nat)(h:n<=2000):Calls Z 79 #[.slice (some a) n c] w fun e w'=>e=.returned (.pointer (some ⟨w.heap.size,0,none⟩))/\w'=w.alloc (.cells #[.slice (some a) n c,.int .i64 0] 155):=by
 have h1:¬((n:Int)>2000):=by omega
 go_enter Tryz.func79,Tryz.ntmps79
 go_wp2
 go_ret
 exact⟨rfl,rfl⟩
theorem ai7(w:World)(a:Addr)(n c:Nat)(h:2000<n)(hc:n<=c):Calls Z 79 #[.slice (some a) n c] w fun e w'=>e=.returned (.pointer (some ⟨w.heap.size,0,none⟩))/\w'=w.alloc (.cells #[.slice (some a) 2000 c,.int .i64 0] 155):=by
 have h1:((n:Int)>2000):=by omega
 go_enter Tryz.func79,Tryz.ntmps79
 go_wp2
 go_ret
 exact⟨rfl,rfl⟩
theorem afW:zA Z 79:=fun xs v w av hr=>.inl ⟨enters_of Tryz.func79 (by kernel_rfl) rfl _ _,by
 have fin:∀{v:Value} {u:Value},bj w av (.sl .u8 (xs.take 2000)) u->Calls Z 79 #[v] w (fun e w'=>e=.returned (.pointer (some ⟨w.heap.size,0,none⟩))/\w'=w.alloc (.cells #[u,.int .i64 0] 155))->
   Calls Z 79 #[v] w fun e w'=>match e,w' with
    |.returned v',w'=>∃u T,bj w av (.sl .u8 (xs.take 2000)) u/\v'=.pointer (some ⟨w.heap.size,0,none⟩)/\w'=w.alloc (.cells #[u,.int .i64 0] T)
    |_,_=>False:=fun hu hc=>hc.mono fun e w' h=>by obtain⟨rfl,rfl⟩:=h;exact⟨_,_,hu,rfl,rfl⟩
 cases hr with
 |nil=>exact fin (.nil .u8) (ai6 w)
 |sl t xs a cap cs n hn hcap hb hl hc hr=>
  by_cases h:2000<n
  ·refine fin (u:=.slice (some a) 2000 cap) ?_ (ai7 w a n cap h hcap);have hlen:(xs.take 2000).length=2000:=by simp only[List.length_take];omega
   have hf:flat .u8 (xs.take 2000)=(flat .u8 xs).take 2000:=by rw[Cw];rfl
   refine .sl .u8 (xs.take 2000) a cap (cs.take 2000) 2000 hlen.symm (by omega) (fun hx=>hb (fun e=>hx (by rw[e];rfl))) (by rw[hf,List.length_take,List.length_take,hl]) (fun j u hu=>?_) (fun j h1 h2=>?_)
   ·rw[List.getElem?_take] at hu;split at hu
    ·exact hc j u hu
    ·cases hu
   ·have h1':j<(flat .u8 xs).length:=by rw[hf,List.length_take] at h1;omega
    have h2':j<cs.length:=by rw[List.length_take] at h2;omega
    have e1:(flat .u8 (xs.take 2000))[j]=(flat .u8 xs)[j]:=by simp only[hf,List.getElem_take]
    have e2:(cs.take 2000)[j]=cs[j]:=List.getElem_take;rw[e1,e2];exact hr j h1' h2'
  ·refine fin (u:=.slice (some a) n cap) ?_ (ai5 w a n cap (by omega))
   rw[List.take_of_length_le (by omega)]
   exact .sl .u8 xs a cap cs n hn hcap hb hl hc hr⟩
theorem pu:FK Z ap:=⟨aaO (Mj (by kernel_rfl)),by kernel_rfl,fun p h=>by
 simp only[ap,List.mem_cons,List.not_mem_nil,or_false] at h;subst h;exact afr,fun g h=>by
 simp only[ap,List.mem_cons,List.not_mem_nil,or_false] at h;subst h;exact afW,fun g h=>(by cases h),fun g h=>(by cases h),fun p h=>(by cases h)⟩
theorem bz{aq:bq}(h:vf Z aq):a9 Z (bm ap aq):=MY pu h
theorem g0:a9 Z (bm ap []):=bz ⟨⟩
theorem amp:FK Z hd:=⟨pu.tt,pu.Br,pu.kw,pu.op,pu.ha,pu.bs,pu.gt⟩
theorem od{aq:bq}(h:vf Z aq):a9 Z (bm hd aq):=MY amp h
abbrev MB:Shape:=⟨[bx 0],[],49⟩
abbrev Ms:List bg:=[(.norm,⟨[bx 0,aY 20],[],49⟩)]
noncomputable def Ek(y:MB.H):Option (aQ Ms):=
 bif(!(y.1.1==([]:al))) then
 bif(!(decide ((y.1.1.length:Int)>(10:Int)))) then
(bl y.1.1 (0:Int)).bind fun a=>
 bif(!(decide ((a.toNat:Int)<(97:Int)))) then
(bl y.1.1 (0:Int)).bind fun b=>
 some ((y.1.1,(decide ((b.toNat:Int)>(122:Int))),()),())
else
 some ((y.1.1,true,()),())
else
 some ((y.1.1,true,()),())
else
 some ((y.1.1,true,()),())
theorem abv:bw Z (aI (codeOf Tryz.f118) 1 12) (bJ MB Ms Ek):=ei g0 (by kernel_rfl) ar fun y=>by kernel_rfl
abbrev KZ:Shape:=⟨[bx 0,ae 3,ae 22,ae 23],[],49⟩
abbrev KP:List bg:=[(.norm,⟨[bx 0,ae 22,ae 23,aY 47],[],49⟩)]
noncomputable def Cv(y:KZ.H):Option (aQ KP):=
(bl y.1.1 y.1.2.1).bind fun a=>
 bif(!(decide ((a.toNat:Int)<(97:Int)))) then
(bl y.1.1 y.1.2.1).bind fun b=>
 bif(decide ((b.toNat:Int)>(122:Int))) then
(bl y.1.1 y.1.2.1).bind fun c=>
 bif(!(decide ((c.toNat:Int)<(48:Int)))) then
(bl y.1.1 y.1.2.1).bind fun d=>
 some ((y.1.1,y.1.2.2.1,y.1.2.2.2.1,(decide ((d.toNat:Int)>(57:Int))),()),())
else
 some ((y.1.1,y.1.2.2.1,y.1.2.2.2.1,true,()),())
else
 some ((y.1.1,y.1.2.2.1,y.1.2.2.2.1,false,()),())
else
(bl y.1.1 y.1.2.1).bind fun e=>
 bif(!(decide ((e.toNat:Int)<(48:Int)))) then
(bl y.1.1 y.1.2.1).bind fun f=>
 some ((y.1.1,y.1.2.2.1,y.1.2.2.2.1,(decide ((f.toNat:Int)>(57:Int))),()),())
else
 some ((y.1.1,y.1.2.2.1,y.1.2.2.2.1,true,()),())
theorem Zr:bw Z (aI (dD (aI (codeOf Tryz.f118) 1 58)) 116 7474) (bJ KZ KP Cv):=ei g0 (by kernel_rfl) ar fun y=>by kernel_rfl
abbrev x3:Shape:=⟨[bx 0,ae 22,ae 23],[],49⟩
abbrev DD:List bg:=[(.ret,⟨[aY 2],[],49⟩),(.exit 0,⟨[],[],49⟩)]
noncomputable def yA(y:x3.H):cy x3 DD:=
 bif(decide (y.1.2.2.1<y.1.2.1)) then
(Cv ((y.1.1,y.1.2.2.1,y.1.2.1,y.1.2.2.1,()),())).bind fun a=>
 bif a.1.2.2.2.1 then
 some (.inr (.inl ((false,()),())))
else
 some (.inl ((a.1.1,a.1.2.1,(IntKind.i64.wrap (a.1.2.2.1+(1:Int))),()),()))
else
 some (.inr (.inr ((),())))
noncomputable def D9:x3.H->Option (aQ DD):=bO yA
theorem abu:bw Z (aI (codeOf Tryz.f118) 1 58) (bJ x3 DD D9):=cD g0 (by kernel_rfl) (bN Zr ar) fun y=>by kernel_rfl
abbrev i118:Shape:=⟨[bx 0],[],49⟩
abbrev Qd:Shape:=⟨[aY 2],[],49⟩
noncomputable def f118(a:i118.H):Option Qd.H:=
(Ek ((a.1.1,()),())).bind fun b=>
 bif b.1.2.1 then
 some ((false,()),())
else
(D9 ((b.1.1,(b.1.1.length:Int),(0:Int),()),())).bind fun c=>
(match c with
|.inl d=>
 some ((d.1.1,()),())
|.inr e=>
 some ((true,()),()))
noncomputable def GS:aU:=ba ap Tryz.f118 i118 Qd [] f118
theorem Pg:a4 Z 118 GS:=bc g0 Tryz.func118 (by kernel_rfl) (bN abv (bN abu ar)) (fun y=>by kernel_rfl) fun a=>by kernel_rfl
abbrev Mx:Shape:=⟨[bx 0,ae 1],[],53⟩
abbrev Mo:List bg:=[(.norm,⟨[bx 0,ae 1,aY 24],[],53⟩)]
noncomputable def Eg(y:Mx.H):Option (aQ Mo):=
 bif(!(y.1.1==([]:al))) then
 bif(!(decide ((y.1.1.length:Int)>(9:Int)))) then
 bif(decide ((y.1.1.length:Int)>(1:Int))) then
(bl y.1.1 (0:Int)).bind fun a=>
 some ((y.1.1,y.1.2.1,((a.toNat:Int)==(48:Int)),()),())
else
 some ((y.1.1,y.1.2.1,false,()),())
else
 some ((y.1.1,y.1.2.1,true,()),())
else
 some ((y.1.1,y.1.2.1,true,()),())
theorem abl:bw Z (aI (codeOf Tryz.f151) 1 12) (bJ Mx Mo Eg):=ei g0 (by kernel_rfl) ar fun y=>by kernel_rfl
abbrev Kj:Shape:=⟨[bx 0,ae 1,ae 6,ae 7,ae 26,ae 27],[],53⟩
abbrev Kg:List bg:=[(.norm,⟨[bx 0,ae 1,ae 6,ae 7,ae 26,ae 27,aY 39],[],53⟩)]
noncomputable def BX(y:Kj.H):Option (aQ Kg):=
(bl y.1.1 y.1.2.2.2.1).bind fun a=>
 bif(!(decide ((a.toNat:Int)<(48:Int)))) then
(bl y.1.1 y.1.2.2.2.1).bind fun b=>
 some ((y.1.1,y.1.2.1,y.1.2.2.1,y.1.2.2.2.1,y.1.2.2.2.2.1,y.1.2.2.2.2.2.1,(decide ((b.toNat:Int)>(57:Int))),()),())
else
 some ((y.1.1,y.1.2.1,y.1.2.2.1,y.1.2.2.2.1,y.1.2.2.2.2.1,y.1.2.2.2.2.2.1,true,()),())
theorem XO:bw Z (aI (dD (aI (codeOf Tryz.f151) 1 122)) 244 31332) (bJ Kj Kg BX):=ei g0 (by kernel_rfl) ar fun y=>by kernel_rfl
abbrev xm:Shape:=⟨[bx 0,ae 1,ae 6,ae 26,ae 27],[],53⟩
abbrev CK:List bg:=[(.ret,⟨[ae 4,aY 5],[],53⟩),(.exit 0,⟨[ae 1,ae 6],[],53⟩)]
noncomputable def xy(y:xm.H):cy xm CK:=
 bif(decide (y.1.2.2.2.2.1<y.1.2.2.2.1)) then
(BX ((y.1.1,y.1.2.1,y.1.2.2.1,y.1.2.2.2.2.1,y.1.2.2.2.1,y.1.2.2.2.2.1,()),())).bind fun a=>
 bif a.1.2.2.2.2.2.2.1 then
 some (.inr (.inl (((0:Int),false,()),())))
else
(bl a.1.1 a.1.2.2.2.1).bind fun b=>
 some (.inl ((a.1.1,a.1.2.1,(IntKind.i64.wrap ((IntKind.i64.wrap (a.1.2.2.1*(10:Int)))+(IntKind.i64.wrap (IntKind.u8.wrap ((b.toNat:Int)-(48:Int)))))),a.1.2.2.2.2.1,(IntKind.i64.wrap (a.1.2.2.2.2.2.1+(1:Int))),()),()))
else
 some (.inr (.inr ((y.1.2.1,y.1.2.2.1,()),())))
noncomputable def xt:xm.H->Option (aQ CK):=bO xy
theorem _W:bw Z (aI (codeOf Tryz.f151) 1 122) (bJ xm CK xt):=cD g0 (by kernel_rfl) (bN XO ar) fun y=>by kernel_rfl
abbrev i151:Shape:=⟨[bx 0,ae 1],[],53⟩
abbrev P0:Shape:=⟨[ae 4,aY 5],[],53⟩
noncomputable def f151(a:i151.H):Option P0.H:=
(Eg ((a.1.1,a.1.2.1,()),())).bind fun b=>
 bif b.1.2.2.1 then
 some (((0:Int),false,()),())
else
(xt ((b.1.1,b.1.2.1,(0:Int),(b.1.1.length:Int),(0:Int),()),())).bind fun c=>
(match c with
|.inl d=>
 some ((d.1.1,d.1.2.1,()),())
|.inr e=>
 bif(decide (e.1.2.1>e.1.1)) then
 some (((0:Int),false,()),())
else
 some ((e.1.2.1,true,()),()))
noncomputable def Rw:aU:=ba ap Tryz.f151 i151 P0 [] f151
theorem afa:a4 Z 151 Rw:=bc g0 Tryz.func151 (by kernel_rfl) (bN abl (bN _W ar)) (fun y=>by kernel_rfl) fun a=>by kernel_rfl
abbrev i91:Shape:=⟨[ae 0,ae 1,ae 2],[],15⟩
abbrev Sq:Shape:=⟨[aY 6],[],15⟩
noncomputable def f91(a:i91.H):Option Sq.H:=
 bif(decide (a.1.1>=a.1.2.1)) then
 some (((decide (a.1.1<=a.1.2.2.1)),()),())
else
 some ((false,()),())
noncomputable def qC:aU:=ba ap Tryz.f91 i91 Sq [] f91
theorem sJ:a4 Z 91 qC:=bc g0 Tryz.func91 (by kernel_rfl) ar (fun y=>by kernel_rfl) fun a=>by kernel_rfl
noncomputable abbrev ahf:bq:=[(91,qC)]
theorem Al:a9 Z (bm ap ahf):=bz ⟨sJ,⟨⟩⟩
abbrev LY:Shape:=⟨[bx 0,ae 3],[],42⟩
abbrev LM:List bg:=[(.norm,⟨[bx 0,ae 3,aY 4],[],42⟩)]
noncomputable def C7(y:LY.H):Option (aQ LM):=
(bl y.1.1 y.1.2.1).bind fun a=>
 bif(decide ((a.toNat:Int)>=(97:Int))) then
(bl y.1.1 y.1.2.1).bind fun b=>
 some ((y.1.1,y.1.2.1,(decide ((b.toNat:Int)<=(122:Int))),()),())
else
 some ((y.1.1,y.1.2.1,false,()),())
theorem _U:bw Z (aI (dD (aI (codeOf Tryz.f161) 1 26)) 52 840) (bJ LY LM C7):=ei Al (by kernel_rfl) ar fun y=>by kernel_rfl
abbrev KW:Shape:=⟨[bx 0,ae 3,aY 4],[],42⟩
abbrev KM:List bg:=[(.norm,⟨[bx 0,ae 3,aY 38],[],42⟩)]
noncomputable def Cs(y:KW.H):Option (aQ KM):=
 bif(!y.1.2.2.1) then
 bif(!(y.1.2.1==(0:Int))) then
(bl y.1.1 y.1.2.1).bind fun a=>
 bif(!(decide ((a.toNat:Int)<(48:Int)))) then
(bl y.1.1 y.1.2.1).bind fun b=>
 some ((y.1.1,y.1.2.1,(decide ((b.toNat:Int)>(57:Int))),()),())
else
 some ((y.1.1,y.1.2.1,true,()),())
else
 some ((y.1.1,y.1.2.1,true,()),())
else
 some ((y.1.1,y.1.2.1,false,()),())
theorem Zj:bw Z (aI (dD (aI (codeOf Tryz.f161) 1 26)) 52 1682) (bJ KW KM Cs):=ei Al (by kernel_rfl) ar fun y=>by kernel_rfl
abbrev xV:Shape:=⟨[bx 0,ae 3],[],42⟩
abbrev Dw:List bg:=[(.ret,⟨[aY 2],[],42⟩),(.exit 0,⟨[bx 0],[],42⟩)]
noncomputable def yt(y:xV.H):cy xV Dw:=
 bif(decide (y.1.2.1<(y.1.1.length:Int))) then
(C7 ((y.1.1,y.1.2.1,()),())).bind fun a=>
(Cs ((a.1.1,a.1.2.1,a.1.2.2.1,()),())).bind fun b=>
 bif b.1.2.2.1 then
 some (.inr (.inl ((false,()),())))
else
 some (.inl ((b.1.1,(IntKind.i64.wrap (b.1.2.1+(1:Int))),()),()))
else
 some (.inr (.inr ((y.1.1,()),())))
noncomputable def D2:xV.H->Option (aQ Dw):=bO yt
theorem abh:bw Z (aI (codeOf Tryz.f161) 1 26) (bJ xV Dw D2):=cD Al (by kernel_rfl) (bN _U (bN Zj ar)) fun y=>by kernel_rfl
abbrev i161:Shape:=⟨[bx 0],[],42⟩
abbrev PW:Shape:=⟨[aY 2],[],42⟩
noncomputable def f161(a:i161.H):Option PW.H:=
(D2 ((a.1.1,(0:Int),()),())).bind fun b=>
(match b with
|.inl c=>
 some ((c.1.1,()),())
|.inr d=>
(f91 (((d.1.1.length:Int),(1:Int),(10:Int),()),())).bind fun e=>
 some ((e.1.1,()),()))
noncomputable def GK:aU:=ba ap Tryz.f161 i161 PW [] f161
theorem O_:a4 Z 161 GK:=bc Al Tryz.func161 (by kernel_rfl) (bN abh ar) (fun y=>by kernel_rfl) fun a=>by kernel_rfl
abbrev LS:Shape:=⟨[bx 0,ae 3,ae 4],[],47⟩
abbrev LH:List bg:=[(.norm,⟨[bx 0,ae 3,ae 4,aY 24],[],47⟩)]
noncomputable def C3(y:LS.H):Option (aQ LH):=
(bl y.1.1 y.1.2.2.1).bind fun a=>
 bif(!(decide ((a.toNat:Int)<(48:Int)))) then
(bl y.1.1 y.1.2.2.1).bind fun b=>
 bif(!(decide ((b.toNat:Int)>(57:Int)))) then
 some ((y.1.1,y.1.2.1,y.1.2.2.1,(decide (y.1.2.2.1>=(6:Int))),()),())
else
 some ((y.1.1,y.1.2.1,y.1.2.2.1,true,()),())
else
 some ((y.1.1,y.1.2.1,y.1.2.2.1,true,()),())
theorem _L:bw Z (aI (dD (aI (codeOf Tryz.f90) 1 58)) 116 3728) (bJ LS LH C3):=ei g0 (by kernel_rfl) ar fun y=>by kernel_rfl
abbrev yQ:Shape:=⟨[bx 0,ae 3,ae 4],[],47⟩
abbrev Ew:List bg:=[(.ret,⟨[ae 2],[],47⟩),(.exit 0,⟨[bx 0,ae 3],[],47⟩)]
noncomputable def zc(y:yQ.H):cy yQ Ew:=
 bif(decide (y.1.2.2.1<(y.1.1.length:Int))) then
(C3 ((y.1.1,y.1.2.1,y.1.2.2.1,()),())).bind fun a=>
 bif a.1.2.2.2.1 then
 some (.inr (.inl ((((-1):Int),()),())))
else
(bl a.1.1 a.1.2.2.1).bind fun b=>
 some (.inl ((a.1.1,(IntKind.i64.wrap ((IntKind.i64.wrap (a.1.2.1*(10:Int)))+(IntKind.i64.wrap (IntKind.u8.wrap ((b.toNat:Int)-(48:Int)))))),(IntKind.i64.wrap (a.1.2.2.1+(1:Int))),()),()))
else
 some (.inr (.inr ((y.1.1,y.1.2.1,()),())))
noncomputable def EQ:yQ.H->Option (aQ Ew):=bO zc
theorem acy:bw Z (aI (codeOf Tryz.f90) 1 58) (bJ yQ Ew EQ):=cD g0 (by kernel_rfl) (bN _L ar) fun y=>by kernel_rfl
abbrev Nc:Shape:=⟨[bx 0,ae 3],[],47⟩
abbrev M_:List bg:=[(.norm,⟨[ae 3,aY 45],[],47⟩)]
noncomputable def E7(y:Nc.H):Option (aQ M_):=
 bif(!((y.1.1.length:Int)==(0:Int))) then
 bif(decide ((y.1.1.length:Int)>(1:Int))) then
(bl y.1.1 (0:Int)).bind fun a=>
 some ((y.1.2.1,((a.toNat:Int)==(48:Int)),()),())
else
 some ((y.1.2.1,false,()),())
else
 some ((y.1.2.1,true,()),())
theorem acx:bw Z (aI (codeOf Tryz.f90) 1 60) (bJ Nc M_ E7):=ei g0 (by kernel_rfl) ar fun y=>by kernel_rfl
abbrev i90:Shape:=⟨[bx 0],[],47⟩
abbrev Sr:Shape:=⟨[ae 2],[],47⟩
noncomputable def f90(a:i90.H):Option Sr.H:=
(EQ ((a.1.1,(0:Int),(0:Int),()),())).bind fun b=>
(match b with
|.inl c=>
 some ((c.1.1,()),())
|.inr d=>
(E7 ((d.1.1,d.1.2.1,()),())).bind fun e=>
 bif e.1.2.1 then
 some ((((-1):Int),()),())
else
 some ((e.1.1,()),()))
noncomputable def T0:aU:=ba ap Tryz.f90 i90 Sr [] f90
theorem ah3:a4 Z 90 T0:=bc g0 Tryz.func90 (by kernel_rfl) (bN acy (bN acx ar)) (fun y=>by kernel_rfl) fun a=>by kernel_rfl
def iA(b:UInt8):Bool:=decide ((97:Int)<=(b.toNat:Int))&&decide ((b.toNat:Int)<=122)
def dL(b:UInt8):Bool:=decide ((48:Int)<=(b.toNat:Int))&&decide ((b.toNat:Int)<=57)
def within(n cG hi:Int):Bool:=decide (cG<=n)&&decide (n<=hi)
theorem rB(a):f91 a=some ((within a.1.1 a.1.2.1 a.1.2.2.1,()),()):=by
 simp only[f91,within,ge_iff_le];cases decide (a.1.2.1<=a.1.1)<;>rfl
def kU(s:al):Bool:=allI (fun i x=>iA x||(!(i==0)&&dL x)) 0 s&&within s.length 1 10
theorem Lv(a)(M:aF a.1.1.length):f161 a=some ((kU a.1.1,()),()):=by
 obtain⟨⟨s,u⟩,bF⟩:=a;have key:D2 ((s,((0:Int),())),())=some (bif allI (fun i x=>iA x||(!(i==0)&&dL x)) 0 s then .inr ((s,()),()) else .inl ((false,()),())):=by
  refine fD yt s (fun i=>((s,((i:Int),())),())) _ _ _ (fun i x hx=>?_) ?_
  ·have hi:=cc hx;have hw:aF i:=by unfold aF at*;simp only at M;omega
   simp only[yt,ce hi,cond_true,C7,Cs,b0,hx,Option.bind_some,b' hw,ge_iff_le,QX];unfold iA dL;by_cases h1:(97:Int)<=(x.toNat:Int)<;>by_cases h2:(x.toNat:Int)<=122<;>cases aa:(i==0)<;>by_cases aH:(48:Int)<=(x.toNat:Int)<;>by_cases bD:(x.toNat:Int)<=57<;>simp[h1,h2,aa,aH,bD,b' hw,b0,hx,QX,pi,pj,-beq_iff_eq]
  ·simp only[yt,cU,cond_false]
 simp only[f161,key,Option.bind_some];unfold kU;cases allI (fun i x=>iA x||(!(i==0)&&dL x)) 0 s with
 |false=>rfl
 |true=>simp only[cond_true,rB,Option.bind_some,Bool.true_and]
theorem WZ(b:UInt8)(r:al):kU (b::r)=(iA b&&(b::r).all (fun x=>iA x||dL x)&&decide (((b::r).length:Int)<=10)):=by
 unfold kU;simp only[allI,List.all_cons];have:allI (fun i x=>iA x||(!(i==0)&&dL x)) (0+1) r=r.all (fun x=>iA x||dL x):=by
  have hz:∀(i:Nat) (x:UInt8),1<=i->x∈r->(iA x||(!(i==0)&&dL x))=(iA x||dL x):=by
   intro i x hi _;have:(i==0)=false:=by simp;omega
   rw[this];simp
  rw[KB (lT:=fun _ x=>iA x||dL x) r 1 hz,gV]
 rw[this];unfold within;have:decide ((1:Int)<=((b::r).length:Int))=true:=by simp only[List.length_cons,decide_eq_true_eq];omega
 rw[this];cases iA b<;>simp
theorem Ju(a)(M:aF a.1.1.length):f118 a=some ((kU a.1.1,()),()):=by
 obtain⟨⟨s,u⟩,bF⟩:=a;have key:D9 ((s,((s.length:Int),((0:Int),()))),())=some (bif allI (fun _ x=>iA x||dL x) 0 s then .inr ((),()) else .inl ((false,()),())):=by
  refine fD yA s (fun i=>((s,((s.length:Int),((i:Int),()))),())) _ _ _ (fun i x hx=>?_) ?_
  ·have hi:=cc hx;have hw:aF i:=by unfold aF at*;simp only at M;omega
   simp only[yA,ce hi,cond_true,Cv,b0,hx,Option.bind_some,b' hw,pi,pj];unfold iA dL;by_cases h1:(97:Int)<=(x.toNat:Int)<;>by_cases h2:(x.toNat:Int)<=122<;>by_cases aH:(48:Int)<=(x.toNat:Int)<;>by_cases bD:(x.toNat:Int)<=57<;>simp[h1,h2,aH,bD,b' hw,b0,hx,pi,pj]
  ·simp only[yA,cU,cond_false]
 rw[gV] at key;cases s with
 |nil=>rfl
 |cons b r=>
  have hb:bl (b::r) 0=some b:=rfl;simp only[f118,Ek,hb,Option.bind_some,pi,pj,WZ];have he:((b::r)==([]:al))=false:=rfl;have hl:iA b=(decide ((97:Int)<=(b.toNat:Int))&&decide ((b.toNat:Int)<=122)):=rfl;rw[he,hl];by_cases h1:(97:Int)<=(b.toNat:Int)<;>by_cases h2:(b.toNat:Int)<=122<;>by_cases aa:((b::r).length:Int)<=10<;>
   simp only[h1,h2,aa,decide_true,decide_false,Bool.not_true,Bool.not_false,cond_true,cond_false,Option.bind_some,Bool.true_and,Bool.and_true,Bool.false_and,Bool.and_false]
  rw[key];generalize List.all (b::r) (fun x=>iA x||dL x)=q
  cases q<;>rfl
def gZ(n:Int)(b:UInt8):Int:=n*10+((b.toNat:Int)-48)
def gp(s:al):Int:=s.foldl gZ 0
def mF:al->Bool
 |b::_::_=>(b.toNat:Int)==48
 |_=>false
def fk(s:al):Bool:=s.all dL&&!(s==[])&&!mF s&&decide (s.length<=6)&&decide (gp s<=999)
theorem nn{b:UInt8}(h:dL b=true):48<=(b.toNat:Int)/\(b.toNat:Int)<=57:=by
 simpa[dL] using h
theorem acm{b:UInt8}(h:dL b=true):IntKind.u8.wrap ((b.toNat:Int)-48)=(b.toNat:Int)-48:=by
 have:=nn h;rw[IntKind.wrap_u8];omega
theorem JO{n:Int}{b:UInt8}{i:Nat}(h:dL b=true)(h0:0<=n)(h1:n<10^i):0<=gZ n b/\gZ n b<10^(i+1):=by
 have:=nn h;unfold gZ;rw[Int.pow_succ];omega
theorem abA{i:Nat}(h:i<=9):(10:Int)^i<=1000000000:=by
 have:i=0\/i=1\/i=2\/i=3\/i=4\/i=5\/i=6\/i=7\/i=8\/i=9:=by omega
 rcases this with rfl|rfl|rfl|rfl|rfl|rfl|rfl|rfl|rfl|rfl<;>decide
theorem KQ{n:Int}{b:UInt8}{i:Nat}(h:dL b=true)(hi:i<=8)(h0:0<=n)(h1:n<10^i):
  IntKind.i64.wrap (IntKind.i64.wrap (n*10)+IntKind.i64.wrap (IntKind.u8.wrap ((b.toNat:Int)-48)))=gZ n b:=by
 have Y:=nn h;have aj:=abA (show i<=9 by omega)
 rw[acm h,ej (n:=n*10) (by omega) (by omega),ej (n:=(b.toNat:Int)-48) (by omega) (by omega),ej (by omega) (by omega)]
 rfl
theorem aaL(a)(M:aF a.1.1.length):f90 a=some ((bif a.1.1.all dL&&decide (a.1.1.length<=6)&&!(a.1.1==[])&&!mF a.1.1 then gp a.1.1 else-1,()),()):=by
 obtain⟨⟨s,u⟩,bF⟩:=a;have key:EQ ((s,((0:Int),((0:Int),()))),())=some (bif allI (fun i x=>dL x&&decide (i<6)) 0 s then .inr ((s,(gp s,())),()) else .inl ((((-1):Int),()),())):=by
  have:=mm zc s (fun i n=>((s,(n,((i:Int),()))),())) (fun i x n=>some (bif dL x&&decide (i<6) then .inl (gZ n x) else .inr (.inl ((((-1):Int),()),())))) (fun n=>.inr ((s,(n,())),()))
   (fun i n=>0<=n/\n<10^i/\(i<=6)) (0:Int) ⟨by decide,by decide,by decide⟩ (fun i x n hx cZ=>?_) (fun n _=>?_)
  ·exact this.trans (by rw[BO];rfl)
  ·have hi:=cc hx;have hw:aF i:=by unfold aF at*;simp only at M;omega
   obtain⟨h0,h1,di⟩:=cZ;refine⟨?_,fun am ab=>?_⟩
   ·simp only[zc,ce hi,cond_true,C3,b0,hx,Option.bind_some,b' hw,pi,pj,TO];have af4:decide ((6:Int)<=(i:Int))=!decide (i<6):=by by_cases h:i<6<;>simp[h]<;>omega
    rw[af4];cases Y:dL x with
    |false=>
     unfold dL at Y;by_cases aH:(48:Int)<=(x.toNat:Int)<;>by_cases bD:(x.toNat:Int)<=57<;>simp[aH,bD] at Y ⊢
    |true=>
     obtain⟨aH,bD⟩:=nn Y;cases ay:decide (i<6) with
     |false=>simp[aH,bD]
     |true=>
      have ay:i<6:=by simpa using ay
      have:=KQ (i:=i) Y (by omega) h0 h1
      simp only[aH,bD,decide_true,Bool.not_true,Bool.not_false,cond_true,cond_false,Option.bind_some,b0,hx,this,b' hw,Bool.and_true,Option.map_some]
   ·simp only[Option.some.injEq] at ab;cases ay:(dL x&&decide (i<6)) with
    |false=>rw[ay] at ab;cases ab
    |true=>
     rw[ay] at ab;simp only[cond_true,Sum.inl.injEq] at ab;simp only[Bool.and_eq_true,decide_eq_true_eq] at ay;subst ab;have:=JO ay.1 h0 h1;exact⟨this.1,this.2,by omega⟩
  ·simp only[zc,cU,cond_false]
 rw[De,gV,ab8] at key;simp only[f90,key,Option.bind_some];cases s with
 |nil=>rfl
 |cons b r=>
  have hb:bl (b::r) 0=some b:=rfl;have he:((b::r)==([]:al))=false:=rfl;have hz:(((b::r).length:Int)==0)=false:=by simp only[List.length_cons,beq_eq_false_iff_ne,ne_eq];omega
  have hl:decide (((b::r).length:Int)>1)=!(r==[]):=by cases r<;>simp;omega
  simp only[List.isEmpty_cons,Bool.false_or,Nat.zero_add,he,Bool.not_false,Bool.and_true];cases ay:(List.all (b::r) dL&&decide ((b::r).length<=6)) with
  |false=>rfl
  |true=>
   simp only[cond_true,E7,hz,Bool.not_false,hl,hb,Option.bind_some,Bool.true_and];cases r with
   |nil=>rfl
   |cons c r=>
    have:((c::r)==([]:al))=false:=rfl;rw[this];simp only[Bool.not_false,cond_true,Option.bind_some,mF];cases ((b.toNat:Int)==48)<;>rfl
theorem Yx:∀(r:al) (n:Int) (k:Nat),r.all dL=true->0<=n->10^k<=n->10^(k+r.length)<=r.foldl gZ n:=by
 intro r;induction r with
 |nil=>intro n k _ _ h;exact h
 |cons b r ih=>
  intro n k Y h0 h;simp only[List.all_cons,Bool.and_eq_true] at Y;have hb:=nn Y.1;have M:10^(k+1)<=gZ n b:=by unfold gZ;rw[Int.pow_succ];omega
  have:=ih (gZ n b) (k+1) Y.2 (by unfold gZ;omega) M
  simp only[List.length_cons,List.foldl_cons];rw[show k+(r.length+1)=k+1+r.length by omega]
  exact this
theorem _Y{n:Nat}(h:6<=n):(1000000:Int)<=10^n:=by
 induction n with
 |zero=>omega
 |succ n ih=>
  by_cases di:6<=n
  ·have:=ih di;rw[Int.pow_succ];omega
  ·have:n=5:=by omega
   subst this;decide
theorem aaI{s:al}(Y:s.all dL=true)(hl:mF s=false)(hJ:7<=s.length):999<gp s:=by
 match s,hJ with
 |b::c::r,hJ=>
  simp only[mF,beq_eq_false_iff_ne,ne_eq] at hl;simp only[List.all_cons,Bool.and_eq_true] at Y;have hb:=nn Y.1;have hc:=nn Y.2.1;have M:(10:Int)^0<=gZ 0 b:=by unfold gZ;simp;omega
  have:=Yx (c::r) (gZ 0 b) 0 (by simp[Y.2.1,Y.2.2]) (by unfold gZ;omega) M
  have h2:(1000000:Int)<=10^(0+(c::r).length):=_Y (by simp only[List.length_cons] at hJ ⊢;omega)
  show 999<List.foldl gZ (gZ 0 b) (c::r);omega
theorem Z_(a)(M:aF a.1.1.length)(lm:a.1.2.1=999):f151 a=some ((bif fk a.1.1 then gp a.1.1 else 0,(fk a.1.1,())),()):=by
 obtain⟨⟨s,m,u⟩,bF⟩:=a;obtain rfl:m=999:=lm;have key:s.length<=9->xt ((s,((999:Int),((0:Int),((s.length:Int),((0:Int),()))))),())=some (bif allI (fun i x=>dL x) 0 s then .inr (((999:Int),(gp s,())),()) else .inl (((0:Int),(false,())),())):=by
  intro lm;have:=mm xy s (fun i n=>((s,((999:Int),(n,((s.length:Int),((i:Int),()))))),())) (fun i x n=>some (bif dL x then .inl (gZ n x) else .inr (.inl (((0:Int),(false,())),())))) (fun n=>.inr (((999:Int),(n,())),()))
   (fun i n=>0<=n/\n<10^i/\(i<=9)) (0:Int) ⟨by decide,by decide,by decide⟩ (fun i x n hx cZ=>?_) (fun n _=>?_)
  ·exact this.trans (by rw[BO];rfl)
  ·have hi:=cc hx;have hw:aF i:=by unfold aF at*;simp only at M;omega
   obtain⟨h0,h1,di⟩:=cZ;refine⟨?_,fun am ab=>?_⟩
   ·simp only[xy,ce hi,cond_true,BX,b0,hx,Option.bind_some,b' hw,pi,pj,TO];cases Y:dL x with
    |false=>
     unfold dL at Y;by_cases aH:(48:Int)<=(x.toNat:Int)<;>by_cases bD:(x.toNat:Int)<=57<;>simp[aH,bD] at Y ⊢
    |true=>
     obtain⟨aH,bD⟩:=nn Y;have:=KQ (i:=i) Y (by omega) h0 h1
     simp only[aH,bD,decide_true,Bool.not_true,Bool.not_false,cond_true,cond_false,Option.bind_some,b0,hx,this,b' hw,Bool.and_true,Option.map_some]
   ·simp only[Option.some.injEq] at ab;cases ay:dL x with
    |false=>rw[ay] at ab;cases ab
    |true=>
     rw[ay] at ab;simp only[cond_true,Sum.inl.injEq] at ab;subst ab;have:=JO ay h0 h1;exact⟨this.1,this.2,by omega⟩
  ·simp only[xy,cU,cond_false]
 rw[gV] at key;cases s with
 |nil=>rfl
 |cons b r=>
  have hb:bl (b::r) 0=some b:=rfl;have he:((b::r)==([]:al))=false:=rfl;have hl:decide (((b::r).length:Int)>1)=!(r==[]):=by cases r<;>simp;omega
  have lm:decide (((b::r).length:Int)>9)=!decide ((b::r).length<=9):=by by_cases h:(b::r).length<=9<;>simp only[h,decide_true,decide_false,Bool.not_true,Bool.not_false,decide_eq_true_eq,decide_eq_false_iff_not]<;>omega
  have Fw:mF (b::r)=(!(r==[])&&(b.toNat:Int)==48):=by cases r<;>rfl
  simp only[f151,Eg,he,hl,lm,Bool.not_false,cond_true,Bool.not_not,hb,Option.bind_some];have fin:(b::r).length<=9->mF (b::r)=false->((xt ((b::r,((999:Int),((0:Int),(((b::r).length:Int),((0:Int),()))))),())).bind fun afQ=>match afQ with
    |.inl Pr=>some ((Pr.1.1,(Pr.1.2.1,())),())
    |.inr FW=>bif decide (FW.1.2.1>FW.1.1) then some (((0:Int),(false,())),()) else some ((FW.1.2.1,(true,())),()))=
    some ((bif fk (b::r) then gp (b::r) else 0,(fk (b::r),())),()):=by
   intro lm kl;rw[key lm];unfold fk;rw[he,kl];cases Y:List.all (b::r) dL with
   |false=>rfl
   |true=>
    simp only[cond_true,Option.bind_some,Bool.not_false,Bool.true_and,pj];by_cases di:(b::r).length<=6
    ·simp only[di,decide_true,Bool.true_and];cases decide (gp (b::r)<=999)<;>rfl
    ·have:=aaI Y kl (by omega)
     have:decide (gp (b::r)<=999)=false:=by simp only[decide_eq_false_iff_not];omega
     rw[this];simp only[di,decide_false,Bool.false_and];rfl
  by_cases ay:(b::r).length<=9
  ·simp only[ay,decide_true,cond_true];cases hr:(r==[]) with
   |true=>
    simp only[Bool.not_true,cond_false,Option.bind_some];exact fin ay (by rw[Fw,hr];rfl)
   |false=>
    simp only[Bool.not_false,cond_true,Option.bind_some];cases TI:((b.toNat:Int)==48) with
    |true=>
     have:fk (b::r)=false:=by unfold fk;rw[Fw,hr,TI];simp
     rw[this];rfl
    |false=>
     simp only[cond_false];exact fin ay (by rw[Fw,hr,TI];rfl)
  ·have:fk (b::r)=false:=by
    unfold fk;have:decide ((b::r).length<=6)=false:=by simp only[decide_eq_false_iff_not];omega
    rw[this];simp
   simp only[ay,decide_false,cond_false,Option.bind_some,cond_true,this]
abbrev xE:Shape:=⟨[bx 0,(1,.ai (.d (.int .u8))),ae 2,b3 7 3000448,ae 8,ae 9],[ci 3000448 .str 7 0],43⟩
abbrev tS:List bg:=[(.exit 0,⟨[bx 0,b3 7 3000448,ae 8],[ci 3000448 .str 7 0],43⟩)]
noncomputable def yf(y:xE.H):cy xE tS:=
 bif(decide (y.1.2.2.2.2.2.1<(y.1.1.length:Int))) then
 bif(decide ((y.2.1.length:Int)<y.1.2.2.1)) then
(bl y.1.1 y.1.2.2.2.2.2.1).bind fun a=>
 bif((a.toNat:Int)==y.1.2.1) then
(dy y.1.1 y.1.2.2.2.2.1 y.1.2.2.2.2.2.1).bind fun b=>
(dv 16 y.2.1 ([b]:List al)).bind fun c=>
 some (.inl ((y.1.1,y.1.2.1,y.1.2.2.1,(),(IntKind.i64.wrap (y.1.2.2.2.2.2.1+(1:Int))),(IntKind.i64.wrap (y.1.2.2.2.2.2.1+(1:Int))),()),c,()))
else
 some (.inl ((y.1.1,y.1.2.1,y.1.2.2.1,(),y.1.2.2.2.2.1,(IntKind.i64.wrap (y.1.2.2.2.2.2.1+(1:Int))),()),y.2.1,()))
else
 some (.inr ((y.1.1,(),y.1.2.2.2.2.1,()),y.2.1,()))
else
 some (.inr ((y.1.1,(),y.1.2.2.2.2.1,()),y.2.1,()))
noncomputable def DR:xE.H->Option (aQ tS):=bO yf
theorem aaX:bw Z (aI (codeOf Tryz.f89) 1 122) (bJ xE tS DR):=cD g0 (by kernel_rfl) ar fun y=>by kernel_rfl
abbrev i89:Shape:=⟨[bx 0,(1,.ai (.d (.int .u8))),ae 2],[],43⟩
abbrev Ss:Shape:=⟨[b3 6 3000384],[ci 3000384 .str 6 0],43⟩
noncomputable def f89(a:i89.H):Option Ss.H:=
(DR ((a.1.1,a.1.2.1,a.1.2.2.1,(),(0:Int),(0:Int),()),([]:List al),())).bind fun b=>
(dy b.1.1 b.1.2.2.1 (b.1.1.length:Int)).bind fun c=>
(dv 16 b.2.1 ([c]:List al)).bind fun d=>
 some (((),()),d,())
noncomputable def Il:aU:=ba ap Tryz.f89 i89 Ss [] f89
theorem R6:a4 Z 89 Il:=bc g0 Tryz.func89 (by kernel_rfl) (bN aaX ar) (fun y=>by kernel_rfl) fun a=>by kernel_rfl
abbrev cj(n:Nat):Prop:=n<=2097152
theorem wS(c:UInt8):∀s,cM c s≠[]:=by
 intro s;induction s with
 |nil=>intro h;cases h
 |cons b r ih=>
  unfold cM;cases b==c with
  |true=>intro h;cases h
  |false=>
   simp only[cond_false];split<;>intro h<;>cases h
def sD(bd:al):List al->List al
 |x::xs=>(bd++x)::xs
 |[]=>[bd]
theorem L8{aq:List al}(h:aq≠[]):sD [] aq=aq:=by
 cases aq with
 |nil=>exact absurd rfl h
 |cons x xs=>rfl
theorem wM(c:UInt8):∀s,(cM c s).length<=s.length+1:=by
 intro s;induction s with
 |nil=>exact Nat.le_refl _
 |cons b r ih=>
  unfold cM;cases b==c with
  |true=>simpa using ih
  |false=>
   simp only[cond_false];split
   ·rename_i x xs h;rw[h] at ih;simp at ih ⊢;omega
   ·simp
theorem wL(c:UInt8):∀s x,x∈cM c s->x.length<=s.length:=by
 intro s;induction s with
 |nil=>intro x h;simp[cM] at h;simp[h]
 |cons b r ih=>
  intro x h;unfold cM at h;cases hb:b==c with
  |true=>
   rw[hb,cond_true] at h;rcases List.mem_cons.1 h with rfl|h
   ·simp
   ·have:=ih x h;simp;omega
  |false=>
   rw[hb,cond_false] at h;split at h
   ·rename_i y ys ak;rcases List.mem_cons.1 h with rfl|h
    ·have:=ih y (by rw[ak];exact List.mem_cons_self);simp;omega
    ·have:=ih x (by rw[ak];exact List.mem_cons_of_mem _ h);simp;omega
   ·simp at h;simp[h]
theorem aav{br:Type}(c:UInt8)(s:al)(fin:Nat×List al->br):∀(r:al) (k:Nat) (q:Nat×List al),r=s.drop k->k<=s.length->q.1<=k->
  ∃g_,eD (fun i x (q:Nat×List al)=>some (.inl (bif(x.toNat:Int)==(c.toNat:Int) then(i+1,q.2++[(s.take i).drop q.1]) else q):Sum (Nat×List al) br)) fin k r q=some (fin g_)/\g_.1<=s.length/\
   g_.2++[s.drop g_.1]=q.2++sD ((s.take k).drop q.1) (cM c r):=by
 intro r;induction r with
 |nil=>
  intro k q hr ag ay;have lc:k=s.length:=by
   have:=congrArg List.length hr;simp at this;omega
  refine⟨q,rfl,by omega,?_⟩
  rw[lc,List.take_length];simp[cM,sD]
 |cons x r ih=>
  intro k q hr ag ay;have aX:k<s.length:=by
   have:=congrArg List.length hr;simp at this;omega
  have cN:r=s.drop (k+1):=by
   have:=congrArg List.tail hr;simpa using this
  have hx:s[k]? =some x:=by
   have:=congrArg (fun l=>l[0]?) hr
   simpa using this.symm
  simp only[eD];cases hc:((x.toNat:Int)==(c.toNat:Int)) with
  |true=>
   have HA:x=c:=by
    simp only[beq_iff_eq] at hc;exact UInt8.toNat_inj.1 (by omega)
   simp only[cond_true];obtain⟨g_,h1,h2,aa⟩:=ih (k+1) (k+1,q.2++[(s.take k).drop q.1]) cN aX (Nat.le_refl _);refine⟨g_,h1,h2,aa.trans ?_⟩;have e1:(s.take (k+1)).drop (k+1)=[]:=List.drop_eq_nil_of_le (by rw[List.length_take];omega)
   simp only[e1];rw[L8 (wS c r)];subst HA;have:cM x (x::r)=[]::cM x r:=by simp[cM]
   rw[this];simp[sD]
  |false=>
   have HA:(x==c)=false:=by
    cases h:x==c with
    |false=>rfl
    |true=>rw[eq_of_beq h] at hc;simp at hc
   simp only[cond_false];obtain⟨g_,h1,h2,aa⟩:=ih (k+1) q cN aX (by omega)
   refine⟨g_,h1,h2,aa.trans ?_⟩;have e1:(s.take (k+1)).drop q.1=(s.take k).drop q.1++[x]:=by
    rw[List.take_add_one,hx];rw[List.drop_append_of_le_length (by rw[List.length_take];omega)]
    rfl
   rw[e1];have:cM c (x::r)=sD [x] (cM c r):=by
    rw[cM,HA,cond_false];cases h:cM c r with
    |nil=>rfl
    |cons y ys=>rfl
   rw[this];cases h:cM c r with
   |nil=>exact absurd h (wS c r)
   |cons y ys=>simp[sD]
theorem Mh(c:UInt8)(a)(M:cj a.1.1.length)(hb:a.1.2.1=(c.toNat:Int))(hm:a.1.2.2.1=((a.1.1.length+1:Nat):Int)):f89 a=some (((),()),(cM c a.1.1,())):=by
 obtain⟨⟨s,b,m,u⟩,bF⟩:=a;obtain rfl:b=(c.toNat:Int):=hb;obtain rfl:m=((s.length+1:Nat):Int):=hm;have M:s.length<=2097152:=M;have key:=mm yf s (fun i (q:Nat×List al)=>((s,((c.toNat:Int),(((s.length+1:Nat):Int),((),((q.1:Int),((i:Int),())))))),(q.2,())))
  (fun i x (q:Nat×List al)=>some (.inl (bif(x.toNat:Int)==(c.toNat:Int) then(i+1,q.2++[(s.take i).drop q.1]) else q))) (fun q=>(((s,((),((q.1:Int),()))),(q.2,())):aQ tS))
  (fun i q=>q.1<=i/\q.2.length<=i) (0,[]) ⟨Nat.le_refl _,Nat.le_refl _⟩ (fun i x q hx cZ=>?_) (fun q cZ=>?_)
 ·obtain⟨g_,h1,h2,aa⟩:=aav c s (fun q=>(((s,((),((q.1:Int),()))),(q.2,())):aQ tS)) s 0 (0,[]) rfl (Nat.zero_le _) (Nat.le_refl _)
  have key:DR ((s,((c.toNat:Int),(((s.length+1:Nat):Int),((),((0:Int),((0:Int),())))))),(([]:List al),()))=some ((s,((),((g_.1:Int),()))),(g_.2,())):=key.trans h1;simp only[f89,key,Option.bind_some];rw[B' h2];have aa:g_.2++[s.drop g_.1]=cM c s:=by
   rw[aa];simp only[List.take_zero,List.drop_nil,List.nil_append];exact L8 (wS c s)
  have hl:g_.2.length<=s.length+1:=by
   have:=congrArg List.length aa;have aH:=wM c s;simp only[List.length_append,List.length_cons,List.length_nil] at this;omega
  simp only[Option.bind_some];rw[gC (by decide) (by unfold aF;simp only[List.length_cons,List.length_nil];omega)]
  simp only[Option.bind_some,aa]
 ·have hi:=cc hx;have hw:aF i:=by unfold aF;omega
  obtain⟨h0,h1⟩:=cZ;have aX:decide ((q.2.length:Int)<((s.length+1:Nat):Int))=true:=ce (by omega)
  refine⟨?_,fun g_ n3=>?_⟩
  ·simp only[yf,ce hi,cond_true,aX,b0,hx,Option.bind_some];cases hc:((x.toNat:Int)==(c.toNat:Int)) with
   |true=>
    simp only[cond_true];rw[CL h0 (by omega)]
    simp only[Option.bind_some];rw[gC (by decide) (by unfold aF;simp only[List.length_cons,List.length_nil];omega)]
    simp only[Option.bind_some,Option.map_some,b' hw]
   |false=>simp only[cond_false,Option.map_some,b' hw]
  ·simp only[Option.some.injEq,Sum.inl.injEq] at n3;subst n3;cases (x.toNat:Int)==(c.toNat:Int) with
   |true=>simp only[cond_true,List.length_append,List.length_cons,List.length_nil];omega
   |false=>simp only[cond_false];omega
 ·simp only[yf,cU,cond_false]
noncomputable def O0:aU:=Cp
theorem adz:a4 Z 297 O0:=Wq (fn:=Tryz.f297) (by kernel_rfl) (by kernel_rfl) (by kernel_rfl) (by kernel_rfl) (by kernel_rfl)
noncomputable abbrev agT:bq:=[(297,O0)]
theorem ahA:a9 Z (bm ap agT):=bz ⟨adz,⟨⟩⟩
abbrev i271:Shape:=⟨[bx 0,(1,.ai (.d (.int .u8)))],[],8⟩
abbrev Pw:Shape:=⟨[ae 4],[],8⟩
noncomputable def f271(a:i271.H):Option Pw.H:=
(some ()).bind fun ao3=>
 some (((Lib.indexByte a.1.1 (a.1.2.1).toNat.toUInt8),()),())
noncomputable def Q6:aU:=ba ap Tryz.f271 i271 Pw [] f271
theorem aeI:a4 Z 271 Q6:=bc ahA Tryz.func271 (by kernel_rfl) ar (fun y=>by kernel_rfl) fun a=>by kernel_rfl
noncomputable abbrev agY:bq:=[(271,Q6)]
theorem RS:a9 Z (bm ap agY):=bz ⟨aeI,⟨⟩⟩
abbrev Mw:Shape:=⟨[bx 0,bx 1,ae 5],[],143⟩
abbrev Mn:List bg:=[(.norm,⟨[bx 0,bx 1,ae 5,aY 16],[],143⟩)]
noncomputable def Ee(y:Mw.H):Option (aQ Mn):=
 bif(!(y.1.2.2.1==(0:Int))) then
 some ((y.1.1,y.1.2.1,y.1.2.2.1,(y.1.2.1==y.1.1),()),())
else
 some ((y.1.1,y.1.2.1,y.1.2.2.1,true,()),())
theorem aa7:bw Z (aI (codeOf Tryz.f238) 1 56) (bJ Mw Mn Ee):=ei RS (by kernel_rfl) ar fun y=>by kernel_rfl
abbrev i238:Shape:=⟨[bx 0,bx 1],[],143⟩
abbrev PD:Shape:=⟨[ae 4],[],143⟩
noncomputable def f238(a:i238.H):Option PD.H:=
(Ee ((a.1.1,a.1.2.1,(a.1.2.1.length:Int),()),())).bind fun td=>
 bif td.1.2.2.2.1 then
 some (((0:Int),()),())
else
 bif(td.1.2.2.1==(1:Int)) then
(bl td.1.2.1 (0:Int)).bind fun IE=>
(f271 ((td.1.1,(IE.toNat:Int),()),())).bind fun r8=>
 some ((r8.1.1,()),())
else
 bif(decide (td.1.2.2.1>=(td.1.1.length:Int))) then
 some ((((-1):Int),()),())
else
 none
noncomputable def Rb:aU:=ba ap Tryz.f238 i238 PD [] f238
theorem aeP:a4 Z 238 Rb:=bc RS Tryz.func238 (by kernel_rfl) (bN aa7 ar) (fun y=>by kernel_rfl) fun a=>by kernel_rfl
noncomputable abbrev agX:bq:=[(238,Rb)]
theorem ahB:a9 Z (bm ap agX):=bz ⟨aeP,⟨⟩⟩
abbrev i241:Shape:=⟨[bx 0,bx 1],[],8⟩
abbrev PC:Shape:=⟨[ae 4],[],8⟩
noncomputable def f241(a:i241.H):Option PC.H:=
(f238 ((a.1.1,a.1.2.1,()),())).bind fun b=>
 some ((b.1.1,()),())
noncomputable def Ra:aU:=ba ap Tryz.f241 i241 PC [] f241
theorem aeO:a4 Z 241 Ra:=bc ahB Tryz.func241 (by kernel_rfl) ar (fun y=>by kernel_rfl) fun a=>by kernel_rfl
noncomputable abbrev GD:Ctx:=bm ap [(241,Ra)]
noncomputable def Ah:Code:=codeOf Tryz.f257
noncomputable def nM:Code:=dD (aI Ah 1 12)
noncomputable def zD(p j:Nat):Oper:=(opsOf (aI nM 24 p)).getD j default
noncomputable def Fp(j:Nat):Oper:=(opsOf (aI Ah 1 7)).getD j default
theorem acZ(c:UInt8)(r:al):f241 ((r,([c],())),())=some ((Lib.indexByte r c,()),()):=by
 have h0:bl ([c]:al) (0:Int)=some c:=rfl;have h1:((([c]:al).length:Int)==0)=false:=rfl;have h2:((([c]:al).length:Int)==1)=true:=rfl;have aa:((c.toNat:Int)).toNat.toUInt8=c:=by simp
 simp only[f241,f238,Ee,f271,h0,h1,h2,aa,Bool.not_false,cond_true,cond_false,Option.bind_some,Option.bind];by_cases h:(([c]:al)==r)=true
 ·have:r=[c]:=(by simpa using h:[c]=r).symm
  subst this;simp[Lib.indexByte]<;>rfl
 ·simp[h]<;>rfl
theorem aep(c:UInt8)(r:al):exec (gk GD []) (aI nM 24 96) 96 (mS 52 c r) (z7 (gk GD []) 52 7 8 (aI nM 24 194) (aI nM 24 390) 194 390)=
 (f241 ((r,([c],())),())).bind fun q=>bif decide (q.1.1<0) then some (.inl (kB 52 c r)) else(dy r 0 (IntKind.i64.wrap (q.1.1+0))).bind fun x=>some (.inr ((q.1.1,x),kB 52 c r)):=by kernel_rfl
theorem OG:uv Z 257:=
 abK (C:=gk GD []) (bz ⟨aeO,⟨⟩⟩) (fn:=Tryz.f257) (k:=52) (A:=aI Ah 1 2) (r5:=aI nM 24 96) (c6:=aI nM 24 194) (r7:=aI nM 24 390) (r9:=aI nM 24 783)
  (o0:=zD 1564 0) (o1:=zD 1564 1) (o2:=zD 1564 2) (o3:=zD 1564 3) (q0:=Fp 0) (q1:=Fp 1) (q2:=Fp 2) (pA:=2) (p5:=96) (p6:=194) (p7:=390) (p9:=783) (t7:=7) (t8:=8) (a1:=39) (a2:=40)
  (t41:=41) (t42:=42) (u1:=49) (u2:=50) (ty:=#[9]) (Av:=#[9])
  {Qy:=(by kernel_rfl),nt:=(by kernel_rfl),ca:=(by decide),eQ:=(by kernel_rfl),TN:=enters_of Tryz.func257 (by kernel_rfl) rfl,body:=⟨rW (aI nM 24 1564),rW (aI Ah 1 7),(by kernel_rfl)⟩,wj:=(by kernel_rfl),wr:=(by kernel_rfl),
   bz:=⟨(by kernel_rfl),(by kernel_rfl),(by kernel_rfl),(by kernel_rfl),(by kernel_rfl),(by kernel_rfl),(by kernel_rfl)⟩,UN:=(by kernel_rfl),UM:=(by kernel_rfl),d2:=(by kernel_rfl),F7:=(by decide),c2:=(by kernel_rfl),d5:=(by kernel_rfl),
   j_:=⟨kM (by kernel_rfl) ar,kM (by kernel_rfl) ar,kM (by kernel_rfl) ar,kM (by kernel_rfl) ar,kM (by kernel_rfl) ar⟩,
   hA:=fun c r=>(by kernel_rfl),fS:=fun c r=>(aep c r).trans (by rw[acZ];rfl),a0:=fun c r i x v=>(by kernel_rfl),aa:=fun c r b=>(by kernel_rfl),TJ:=(by kernel_rfl),wo:=fun c r i=>(by kernel_rfl),Bs:=fun c r v=>(by kernel_rfl)}
  (by kernel_rfl) (by decide)
noncomputable abbrev aho:bq:=[(151,Rw)]
theorem G5:a9 Z (bm ap aho):=bz ⟨afa,⟨⟩⟩
abbrev KY:Shape:=⟨[bf 2 2 0,bf 3 3 0,bf 4 4 0,ae 6,aY 7],[eX 5000128 .i64 2 0,be 2 [.own 5000128],be 3 [hY],eX 5000256 .i64 4 0,be 4 [.own 5000256]],28⟩
abbrev KO:List bg:=[(.norm,⟨[bf 2 2 0,bf 3 3 0,bf 4 4 0,ae 6,aY 22],[eX 5000128 .i64 2 0,be 2 [.own 5000128],be 3 [hY],eX 5000256 .i64 4 0,be 4 [.own 5000256]],28⟩)]
noncomputable def Cu(y:KY.H):Option (aQ KO):=
 bif(!(!y.1.2.2.2.2.1)) then
 some (((),(),(),y.1.2.2.2.1,((y.2.2.2.2.1.length:Int)==(4:Int)),()),y.2.1,((),()),(y.2.2.2.1.1,()),y.2.2.2.2.1,((),()),())
else
 some (((),(),(),y.1.2.2.2.1,true,()),y.2.1,((),()),(y.2.2.2.1.1,()),y.2.2.2.2.1,((),()),())
theorem Zo:bw Z (aI (jz (aI (codeOf Tryz.f127) 1 58)) 117 1876) (bJ KY KO Cu):=ei G5 (by kernel_rfl) ar fun y=>by kernel_rfl
abbrev x2:Shape:=⟨[bf 2 2 0,bf 3 3 0,bf 4 4 0],[eX 5000128 .i64 2 0,be 2 [.own 5000128],be 3 [hY],eX 5000256 .i64 4 0,be 4 [.own 5000256]],28⟩
abbrev DC:List bg:=[(.norm,⟨[bf 2 2 0,bf 3 3 0,bf 4 4 0],[eX 5000128 .i64 2 0,be 2 [.own 5000128],be 3 [hY],eX 5000256 .i64 4 0,be 4 [.own 5000256]],28⟩),(.ret,⟨[bf 2 2 0,bf 3 3 0],[eX 5000128 .i64 2 0,be 2 [.own 5000128],be 3 [hY]],28⟩)]
noncomputable def rq(x:al)(y:x2.H):cy x2 DC:=
(f151 ((x,(999:Int),()),())).bind fun a=>
(Cu (((),(),(),a.1.1,a.1.2.1,()),y.2.1,((),()),(y.2.2.2.1.1,()),y.2.2.2.2.1,((),()),())).bind fun b=>
 bif b.1.2.2.2.2.1 then
 some (.inr (.inr (((),(),()),([]:List Int),((),()),(false,()),())))
else
(dv 8 b.2.2.2.2.1 ([b.1.2.2.2.1]:List Int)).bind fun c=>
 some (.inl (((),(),(),()),b.2.1,((),()),(b.2.2.2.1.1,()),c,((),()),()))
noncomputable def ua(y:x2.H):Option (aQ DC):=
 some (.inl (((),(),(),()),y.2.1,((),()),(y.2.2.2.1.1,()),y.2.2.2.2.1,((),()),()))
theorem abr:bw Z (aI (codeOf Tryz.f127) 1 58) (q9 257 9 x2 DC rq ua):=JS (eF:=10) G5 OG (by kernel_rfl) (bN Zo ar) (by kernel_rfl) (fun x y=>by kernel_rfl) fun y=>by kernel_rfl
abbrev i127:Shape:=⟨[bx 0],[],28⟩
abbrev P9:Shape:=⟨[bf 2 2 0,bf 3 3 0],[eX 5000128 .i64 2 0,be 2 [.own 5000128],be 3 [hY]],28⟩
noncomputable def f127(a:i127.H):Option P9.H:=
(bif Nat.ble a.1.1.length j4 then hQ rq ua (cM (46:UInt8) a.1.1) (((),(),(),()),([]:List Int),((),()),(false,()),([]:List Int),((),()),()) else none).bind fun b=>
(match b with
|.inl c=>
 some (((),(),()),c.2.2.2.2.1,((),()),(true,()),())
|.inr d=>
 some (((),(),()),d.2.1,((),()),(d.2.2.2.1.1,()),()))
noncomputable def GP:aU:=ba ap Tryz.f127 i127 P9 [] f127
theorem Pd:a4 Z 127 GP:=bc G5 Tryz.func127 (by kernel_rfl) (bN abr ar) (fun y=>by kernel_rfl) fun a=>by kernel_rfl
noncomputable abbrev ahr:bq:=[(127,GP)]
theorem ahP:a9 Z (bm ap ahr):=bz ⟨Pd,⟨⟩⟩
abbrev i119:Shape:=⟨[bx 0],[],11⟩
abbrev Qc:Shape:=⟨[aY 2],[],11⟩
noncomputable def f119(a:i119.H):Option Qc.H:=
(f127 ((a.1.1,()),())).bind fun b=>
 some ((b.2.2.2.1.1,()),())
noncomputable def Aj:aU:=ba ap Tryz.f119 i119 Qc [] f119
theorem FM:a4 Z 119 Aj:=bc ahP Tryz.func119 (by kernel_rfl) ar (fun y=>by kernel_rfl) fun a=>by kernel_rfl
noncomputable abbrev ahq:bq:=[(118,GS),(119,Aj)]
theorem R0:a9 Z (bm ap ahq):=bz ⟨Pg,FM,⟨⟩⟩
abbrev L0:Shape:=⟨[bf 1 1 0,ae 8],[be 1 [a6,cO,a6]],21⟩
abbrev LO:List bg:=[(.norm,⟨[bf 1 1 0,aY 14],[be 1 [a6,cO,a6]],21⟩)]
noncomputable def C9(y:L0.H):Option (aQ LO):=
 bif(y.1.2.1==(1:Int)) then
 some (((),(y.1.2.1==(1:Int)),()),(y.2.1.1,y.2.1.2.1,y.2.1.2.2.1,()),())
else
 bif(y.1.2.1==(2:Int)) then
 some (((),(y.1.2.1==(2:Int)),()),(y.2.1.1,y.2.1.2.1,y.2.1.2.2.1,()),())
else
 some (((),(y.1.2.1==(3:Int)),()),(y.2.1.1,y.2.1.2.1,y.2.1.2.2.1,()),())
theorem _X:bw Z (aI (codeOf Tryz.f121) 1 470) (bJ L0 LO C9):=ei R0 (by kernel_rfl) ar fun y=>by kernel_rfl
abbrev i121:Shape:=⟨[cg 0 [a6,cO,a6]],[],21⟩
abbrev Qb:Shape:=⟨[aY 2],[],21⟩
noncomputable def f121(a:i121.H):Option Qb.H:=
(f118 ((a.1.1.1,()),())).bind fun b=>
 bif(!b.1.1) then
 some ((false,()),())
else
 bif(a.1.1.2.1==(0:Int)) then
 some (((a.1.1.2.2.1==([]:al)),()),())
else
(C9 (((),a.1.1.2.1,()),(a.1.1.1,a.1.1.2.1,a.1.1.2.2.1,()),())).bind fun c=>
 bif c.1.2.1 then
(f119 ((c.2.1.2.2.1,()),())).bind fun d=>
 some ((d.1.1,()),())
else
 some ((false,()),())
noncomputable def GR:aU:=ba ap Tryz.f121 i121 Qb [] f121
theorem Pf:a4 Z 121 GR:=bc R0 Tryz.func121 (by kernel_rfl) (bN _X ar) (fun y=>by kernel_rfl) fun a=>by kernel_rfl
noncomputable abbrev ahb:bq:=[(89,Il),(90,T0),(91,qC)]
theorem RV:a9 Z (bm ap ahb):=bz ⟨R6,ah3,sJ,⟨⟩⟩
abbrev xl:Shape:=⟨[b3 4 3000256,b3 5 3000320,ae 6],[ci 3000256 .str 4 0,ci 3000320 .i64 5 0],37⟩
abbrev py:List bg:=[(.ret,⟨[b3 2 3000128,aY 3],[ci 3000128 .i64 2 0],37⟩),(.exit 0,⟨[b3 4 3000256,b3 5 3000320],[ci 3000256 .str 4 0,ci 3000320 .i64 5 0],37⟩)]
noncomputable def xx(y:xl.H):cy xl py:=
 bif(decide (y.1.2.2.1<(y.2.1.length:Int))) then
(e_ y.2.1.length y.1.2.2.1).bind fun a=>
(y.2.1[a]?).bind fun b=>
(f90 ((b,()),())).bind fun c=>
(f91 ((c.1.1,(0:Int),(999:Int),()),())).bind fun d=>
 bif(!d.1.1) then
 some (.inr (.inl (((),false,()),y.2.2.1,())))
else
(dv 8 y.2.2.1 ([c.1.1]:List Int)).bind fun e=>
 some (.inl (((),(),(IntKind.i64.wrap (y.1.2.2.1+(1:Int))),()),y.2.1,e,()))
else
 some (.inr (.inr (((),(),()),y.2.1,y.2.2.1,())))
noncomputable def CV:xl.H->Option (aQ py):=bO xx
theorem _T:bw Z (aI (codeOf Tryz.f181) 1 122) (bJ xl py CV):=cD RV (by kernel_rfl) ar fun y=>by kernel_rfl
abbrev i181:Shape:=⟨[bx 0],[],37⟩
abbrev PR:Shape:=⟨[b3 2 3000128,aY 3],[ci 3000128 .i64 2 0],37⟩
noncomputable def f181(a:i181.H):Option PR.H:=
(f89 ((a.1.1,(46:Int),(IntKind.i64.wrap ((a.1.1.length:Int)+(1:Int))),()),())).bind fun b=>
(CV (((),(),(0:Int),()),b.2.1,([]:List Int),())).bind fun c=>
(match c with
|.inl d=>
 some (((),d.1.2.1,()),d.2.1,())
|.inr e=>
 some (((),(decide ((e.2.1.length:Int)<=(4:Int))),()),e.2.2.1,()))
noncomputable def GI:aU:=ba ap Tryz.f181 i181 PR [] f181
theorem O8:a4 Z 181 GI:=bc RV Tryz.func181 (by kernel_rfl) (bN _T ar) (fun y=>by kernel_rfl) fun a=>by kernel_rfl
noncomputable abbrev ahe:bq:=[(181,GI)]
theorem ahL:a9 Z (bm ap ahe):=bz ⟨O8,⟨⟩⟩
abbrev i162:Shape:=⟨[bx 0],[],11⟩
abbrev PV:Shape:=⟨[aY 2],[],11⟩
noncomputable def f162(a:i162.H):Option PV.H:=
(f181 ((a.1.1,()),())).bind fun b=>
 some ((b.1.2.1,()),())
noncomputable def GJ:aU:=ba ap Tryz.f162 i162 PV [] f162
theorem O9:a4 Z 162 GJ:=bc ahL Tryz.func162 (by kernel_rfl) ar (fun y=>by kernel_rfl) fun a=>by kernel_rfl
noncomputable abbrev agZ:bq:=[(91,qC),(161,GK),(162,GJ)]
theorem ahC:a9 Z (bm ap agZ):=bz ⟨sJ,O_,O9,⟨⟩⟩
abbrev i233:Shape:=⟨[cg 0 [a6,cO,a6]],[],26⟩
abbrev PE:Shape:=⟨[aY 2],[],26⟩
noncomputable def f233(a:i233.H):Option PE.H:=
(f161 ((a.1.1.1,()),())).bind fun b=>
 bif b.1.1 then
 bif(a.1.1.2.1==(0:Int)) then
 bif(!(a.1.1.2.2.1==([]:al))) then
(f91 ((a.1.1.2.1,(1:Int),(3:Int),()),())).bind fun c=>
 bif c.1.1 then
(f162 ((a.1.1.2.2.1,()),())).bind fun d=>
 some ((d.1.1,()),())
else
 some ((false,()),())
else
 some ((true,()),())
else
(f91 ((a.1.1.2.1,(1:Int),(3:Int),()),())).bind fun e=>
 bif e.1.1 then
(f162 ((a.1.1.2.2.1,()),())).bind fun f=>
 some ((f.1.1,()),())
else
 some ((false,()),())
else
 some ((false,()),())
noncomputable def Rc:aU:=ba ap Tryz.f233 i233 PE [] f233
theorem aeQ:a4 Z 233 Rc:=bc ahC Tryz.func233 (by kernel_rfl) ar (fun y=>by kernel_rfl) fun a=>by kernel_rfl
theorem J_:∀(r:al) (n:Int),r.all dL=true->0<=n->0<=r.foldl gZ n:=by
 intro r;induction r with
 |nil=>intro n _ h;exact h
 |cons b r ih=>
  intro n Y h;simp only[List.all_cons,Bool.and_eq_true] at Y;have hb:=nn Y.1;exact ih _ Y.2 (by unfold gZ;omega)
def hM(s:al):List al:=cM 46 s
def eI(s:al):Bool:=(hM s).all fk&&decide ((hM s).length<=4)
def gY(s:al):List Int:=(hM s).map gp
theorem W3(x:al):within (bif x.all dL&&decide (x.length<=6)&&!(x==[])&&!mF x then gp x else-1) 0 999=fk x:=by
 unfold fk within;cases h1:x.all dL with
 |false=>simp
 |true=>
  have:=J_ x 0 h1 (Int.le_refl _);have hv:decide ((0:Int)<=gp x)=true:=by simp only[decide_eq_true_eq];exact this
  cases h2:decide (x.length<=6)<;>cases aa:(x==[])<;>cases aH:mF x<;>simp[hv]
theorem B3(a)(M:cj a.1.1.length):∃out,f181 a=some (((),(eI a.1.1,())),(out,()))/\(eI a.1.1=true->out=gY a.1.1):=by
 obtain⟨⟨s,u⟩,bF⟩:=a;have M:s.length<=2097152:=M;have hlen:=wM 46 s;have ja:f89 ((s,((46:Int),((IntKind.i64.wrap ((s.length:Int)+(1:Int))),()))),())=some (((),()),(hM s,())):=
  Mh 46 _ M rfl (b' (by unfold aF;omega))
 have key:=mm xx (hM s) (fun i (out:List Int)=>(((),((),((i:Int),()))),(hM s,(out,()))))
  (fun i x out=>some (bif fk x then .inl (out++[gp x]) else .inr ((.inl (((),(false,())),(out,()))):aQ py))) (fun out=>((.inr (((),((),())),(hM s,(out,())))):aQ py))
  (fun i out=>out.length<=i) [] (Nat.le_refl _) (fun i x out hx cZ=>?_) (fun out _=>?_)
 ·have fold:∀(r:List al) (k:Nat) (out:List Int),eD (fun i x out=>some (bif fk x then .inl (out++[gp x]) else .inr ((.inl (((),(false,())),(out,()))):aQ py))) (fun out=>((.inr (((),((),())),(hM s,(out,())))):aQ py)) k r out=
    some (bif r.all fk then(.inr (((),((),())),(hM s,(out++r.map gp,())))) else(.inl (((),(false,())),(out++(r.takeWhile fk).map gp,())))):=by
   intro r;induction r with
   |nil=>intro k out;simp[eD]
   |cons x r ih=>
    intro k out;simp only[eD,List.all_cons];cases hn:fk x with
    |false=>simp[hn]
    |true=>simp only[cond_true,Bool.true_and];rw[ih];simp[hn,List.append_assoc]
  have key:CV (((),((),((0:Int),()))),(hM s,(([]:List Int),())))=_:=key.trans (fold (hM s) 0 []);simp only[f181,ja,Option.bind_some,key,List.nil_append];unfold eI;cases mN:(hM s).all fk with
  |false=>exact⟨_,rfl,fun h=>by cases h⟩
  |true=>
   simp only[cond_true,Bool.true_and];have:decide (((hM s).length:Int)<=4)=decide ((hM s).length<=4):=by by_cases h:(hM s).length<=4<;>simp[h]<;>omega
   rw[this];exact⟨_,rfl,fun _=>rfl⟩
 ·have hi:=cc hx;have pT:(hM s).length<=s.length+1:=hlen;have hw:aF i:=by unfold aF;omega
  have vw:x.length<=s.length:=wL 46 s x (List.mem_of_getElem? hx);refine⟨?_,fun am ab=>?_⟩
  ·simp only[xx,ce hi,cond_true,lu hi,hx,Option.bind_some];rw[aaL _ (show aF x.length by unfold aF;omega)]
   simp only[Option.bind_some,rB,W3];cases hn:fk x with
   |false=>rfl
   |true=>
    have hv:(bif x.all dL&&decide (x.length<=6)&&!(x==[])&&!mF x then gp x else-1)=gp x:=by
     unfold fk at hn;simp only[Bool.and_eq_true] at hn;obtain⟨⟨⟨⟨h1,h2⟩,aa⟩,aH⟩,bD⟩:=hn;rw[h1,aH,h2,aa];rfl
    simp only[Bool.not_true,cond_false,hv,cond_true];rw[gC (by decide) (by unfold aF;simp only[List.length_cons,List.length_nil];omega)]
    simp only[Option.bind_some,b' hw,Option.map_some]
  ·simp only[Option.some.injEq] at ab;cases hn:fk x with
   |false=>rw[hn] at ab;cases ab
   |true=>
    rw[hn] at ab;simp only[cond_true,Sum.inl.injEq] at ab;subst ab;simp only[List.length_append,List.length_cons,List.length_nil];omega
 ·simp only[xx,cU,cond_false]
theorem JM(a)(M:cj a.1.1.length):f162 a=some ((eI a.1.1,()),()):=by
 obtain⟨out,h,_⟩:=B3 ((a.1.1,()),()) M;simp only[f162,h,Option.bind_some]
theorem BD(a)(M:cj a.1.1.length):f127 a=some (((),((),())),((bif eI a.1.1 then gY a.1.1 else []),(((),()),((eI a.1.1,()),())))):=by
 obtain⟨⟨s,u⟩,bF⟩:=a;have M:s.length<=2097152:=M;have Gr:Nat.ble s.length j4=true:=Nat.ble_eq_true_of_le (by unfold j4;omega)
 have fold:∀(r:List al) (out:List Int),(∀x,x∈r->x.length<=s.length)->out.length<=4->
   hQ rq ua r (((),((),((),()))),(([]:List Int),(((),()),((false,()),(out,(((),()),()))))))=
    some (bif r.all fk&&decide (out.length+r.length<=4) then(.inl (((),((),((),()))),(([]:List Int),(((),()),((false,()),(out++r.map gp,(((),()),()))))))) else(.inr (((),((),())),(([]:List Int),(((),()),((false,()),())))))):=by
  intro r;induction r with
  |nil=>
   intro out _ au;have:decide (out.length+0<=4)=true:=by simpa using au
   simp only[hQ,ua,List.all_nil,List.length_nil,this,Bool.and_self,cond_true,List.map_nil,List.append_nil]
  |cons x r ih=>
   intro out hr au;have hx:=hr x List.mem_cons_self;have aga:=Z_ ((x,((999:Int),())),()) (show aF x.length by unfold aF;omega) rfl
   have step:rq x (((),((),((),()))),(([]:List Int),(((),()),((false,()),(out,(((),()),()))))))=
     some (bif fk x&&decide (out.length+1<=4) then .inl (((),((),((),()))),(([]:List Int),(((),()),((false,()),(out++[gp x],(((),()),())))))) else .inr (.inr (((),((),())),(([]:List Int),(((),()),((false,()),())))))):=by
    simp only[rq,aga,Option.bind_some,Cu,Bool.not_not];have aH:((out.length:Int)==4)=!decide (out.length+1<=4):=by
     by_cases h:out.length=4
     ·rw[h];rfl
     ·have bD:decide (out.length+1<=4)=true:=by simp only[decide_eq_true_eq];omega
      rw[bD];simp only[beq_eq_false_iff_ne,ne_eq,Bool.not_true];omega
    rw[aH];cases hn:fk x with
    |false=>rfl
    |true=>
     simp only[cond_true,Option.bind_some,Bool.true_and];cases ay:decide (out.length+1<=4) with
     |false=>rfl
     |true=>
      simp only[Bool.not_true,cond_false,cond_true];rw[gC (by decide) (by unfold aF;simp only[List.length_cons,List.length_nil];omega)]
      rfl
   rw[hQ,step,List.all_cons];cases hn:fk x with
   |false=>rfl
   |true=>
    simp only[Bool.true_and];cases ay:decide (out.length+1<=4) with
    |false=>
     have:decide (out.length+(x::r).length<=4)=false:=by simp only[decide_eq_false_iff_not,List.length_cons] at ay ⊢;omega
     rw[this];simp
    |true=>
     simp only[cond_true];rw[ih (out++[gp x]) (fun y ak=>hr y (List.mem_cons_of_mem _ ak)) (by simp only[List.length_append,List.length_cons,List.length_nil];simpa using ay)]
     have e1:(out++[gp x]).length+r.length=out.length+(x::r).length:=by simp only[List.length_append,List.length_cons,List.length_nil];omega
     rw[e1,List.map_cons,List.append_assoc];rfl
 have key:=fold (cM (46:UInt8) s) [] (fun x hx=>wL 46 s x hx) (Nat.zero_le _)
 have F':hQ rq ua (cM (46:UInt8) s) (((),((),((),()))),(([]:List Int),(((),()),((false,()),(([]:List Int),(((),()),()))))))=
    some (bif eI s then(.inl (((),((),((),()))),(([]:List Int),(((),()),((false,()),(gY s,(((),()),()))))))) else(.inr (((),((),())),(([]:List Int),(((),()),((false,()),())))))):=by
  rw[key];unfold eI gY hM;simp only[List.length_nil,Nat.zero_add,List.nil_append]
 simp only[f127,Gr,cond_true,F',Option.bind_some];cases eI s<;>rfl
theorem BE(a)(M:cj a.1.1.length):f119 a=some ((eI a.1.1,()),()):=by
 simp only[f119,BD ((a.1.1,()),()) M,Option.bind_some]
def hN(n:dr):Bool:=kU n.name&&(n.kind==0&&(n.a8==[])||within n.kind 1 3&&eI n.a8)
abbrev amr(n:dr):Prop:=cj n.name.length/\cj n.a8.length
theorem _l(a)(h1:cj a.1.1.1.length)(h2:cj a.1.1.2.2.1.length):f233 a=some ((hN ⟨a.1.1.1,a.1.1.2.1,a.1.1.2.2.1⟩,()),()):=by
 obtain⟨⟨⟨n,k,v,u⟩,bF⟩,iH⟩:=a;have h1:n.length<=2097152:=h1;have h2:v.length<=2097152:=h2;have e1:=Lv ((n,()),()) (show aF n.length by unfold aF;omega)
 have e2:=JM ((v,()),()) h2;simp only[f233,e1,e2,rB,Option.bind_some,hN];cases kU n with
 |false=>rfl
 |true=>
  cases ag:(k==0) with
  |false=>
   simp only[cond_true,cond_false];cases within k 1 3<;>cases eI v<;>rfl
  |true=>
   have:within k 1 3=false:=by
    have:k=0:=by simpa using ag
    subst this;decide
   rw[this];cases (v==[])<;>rfl
theorem Yu{k:Int}(nc:¬k=0)(aC:¬k=1)(ao:¬k=2)(bv:¬k=3):within k 1 3=false:=by
 unfold within;cases h:(decide (1<=k)&&decide (k<=3)) with
 |false=>rfl
 |true=>simp only[Bool.and_eq_true,decide_eq_true_eq] at h;omega
theorem KH(a)(h1:cj a.1.1.1.length)(h2:cj a.1.1.2.2.1.length):f121 a=some ((hN ⟨a.1.1.1,a.1.1.2.1,a.1.1.2.2.1⟩,()),()):=by
 obtain⟨⟨⟨n,k,v,u⟩,bF⟩,iH⟩:=a;have h1:n.length<=2097152:=h1;have h2:v.length<=2097152:=h2;have e1:=Ju ((n,()),()) (show aF n.length by unfold aF;omega)
 have e2:=BE ((v,()),()) h2;simp only[f121,e1,e2,Option.bind_some,hN,C9];cases kU n with
 |false=>rfl
 |true=>
  simp only[Bool.not_true,cond_false,Bool.true_and];by_cases nc:k=0
  ·subst nc;cases (v==[])<;>rfl
  ·have l3:(k==0)=false:=by simpa using nc
   rw[l3];by_cases aC:k=1
   ·subst aC;cases hv:eI v<;>simp[within,e2,hv]
   ·have l2:(k==1)=false:=by simpa using aC
    rw[l2];by_cases ao:k=2
    ·subst ao;cases hv:eI v<;>simp[within,e2,hv]
    ·have hU:(k==2)=false:=by simpa using ao
     rw[hU];by_cases bv:k=3
     ·subst bv;cases hv:eI v<;>simp[within,e2,hv]
     ·have aj7:(k==3)=false:=by simpa using bv
      rw[aj7];rw[Yu nc aC ao bv];rfl
noncomputable abbrev ads:bq:=[(121,GR)]
theorem Oe:a9 Z (bm ap ads):=bz ⟨Pf,⟨⟩⟩
abbrev w0:Shape:=⟨[(1,.ai (.fn 121 [])),aV 7 .need,ae 8,ae 9],[],18⟩
abbrev B8:List bg:=[(.ret,⟨[aY 4],[],18⟩),(.exit 0,⟨[],[],18⟩)]
noncomputable def xc(y:w0.H):cy w0 B8:=
 bif(decide (y.1.2.2.2.1<y.1.2.2.1)) then
(bl y.1.2.1 y.1.2.2.2.1).bind fun a=>
(f121 (((a.name,a.kind,a.a8,()),()),())).bind fun b=>
 bif(!b.1.1) then
 some (.inr (.inl ((false,()),())))
else
 some (.inl (((),y.1.2.1,y.1.2.2.1,(IntKind.i64.wrap (y.1.2.2.2.1+(1:Int))),()),()))
else
 some (.inr (.inr ((),())))
noncomputable def Cl:w0.H->Option (aQ B8):=bO xc
theorem Zq:bw Z (aI (codeOf Tryz.f120) 1 26) (bJ w0 B8 Cl):=cD Oe (by kernel_rfl) ar fun y=>by kernel_rfl
abbrev NM:Shape:=⟨[aV 0 .need,(1,.ai (.fn 121 []))],[],18⟩
abbrev Nu:Shape:=⟨[aY 4],[],18⟩
noncomputable def zu(a:NM.H):Option Nu.H:=
(Cl (((),a.1.1,(a.1.1.length:Int),(0:Int),()),())).bind fun b=>
(match b with
|.inl c=>
 some ((c.1.1,()),())
|.inr d=>
 some ((true,()),()))
noncomputable def N9:aU:=ba ap Tryz.f120 NM Nu [] zu
theorem acj:a4 Z 120 N9:=bc Oe Tryz.func120 (by kernel_rfl) (bN Zq ar) (fun y=>by kernel_rfl) fun a=>by kernel_rfl
abbrev i123:Shape:=⟨[cg 0 [a6,cO,a6]],[],5⟩
abbrev Qa:Shape:=⟨[bx 2],[],5⟩
noncomputable def f123(a:i123.H):Option Qa.H:=
 some ((a.1.1.1,()),())
noncomputable def RG:aU:=ba ap Tryz.f123 i123 Qa [] f123
theorem afk:a4 Z 123 RG:=bc g0 Tryz.func123 (by kernel_rfl) ar (fun y=>by kernel_rfl) fun a=>by kernel_rfl
abbrev i177:Shape:=⟨[aV 0 .str],[],8⟩
abbrev F2:Shape:=⟨[b3 2 3000128],[ci 3000128 .str 2 0],8⟩
noncomputable def f177(a:i177.H):Option F2.H:=
 ns (t:=.str) a.1.1 (some (((),()),([]:List al),())) ((dv 16 ([]:List al) a.1.1).bind fun b=>
 some (((),()),b,()))
noncomputable def Rs:aU:=ba ap Tryz.f177 i177 F2 [] f177
theorem ae6:a4 Z 177 Rs:=bc g0 Tryz.func177 (by kernel_rfl) ar (fun y=>by kernel_rfl) fun a=>by kernel_rfl
abbrev xM:Shape:=⟨[aV 0 .str,bx 1,ae 7,ae 8],[],19⟩
abbrev rc:List bg:=[(.ret,⟨[ae 4],[],19⟩),(.exit 0,⟨[],[],19⟩)]
noncomputable def yn(y:xM.H):cy xM rc:=
 bif(decide (y.1.2.2.2.1<y.1.2.2.1)) then
(bl y.1.1 y.1.2.2.2.1).bind fun a=>
 bif(y.1.2.1==a) then
 some (.inr (.inl ((y.1.2.2.2.1,()),())))
else
 some (.inl ((y.1.1,y.1.2.1,y.1.2.2.1,(IntKind.i64.wrap (y.1.2.2.2.1+(1:Int))),()),()))
else
 some (.inr (.inr ((),())))
noncomputable def DX:xM.H->Option (aQ rc):=bO yn
theorem aa8:bw Z (aI (codeOf Tryz.f221) 1 26) (bJ xM rc DX):=cD g0 (by kernel_rfl) ar fun y=>by kernel_rfl
abbrev i221:Shape:=⟨[aV 0 .str,bx 1],[],19⟩
abbrev FZ:Shape:=⟨[ae 4],[],19⟩
noncomputable def f221(a:i221.H):Option FZ.H:=
(DX ((a.1.1,a.1.2.1,(a.1.1.length:Int),(0:Int),()),())).bind fun b=>
(match b with
|.inl c=>
 some ((c.1.1,()),())
|.inr d=>
 some ((((-1):Int),()),()))
noncomputable def Rh:aU:=ba ap Tryz.f221 i221 FZ [] f221
theorem aeV:a4 Z 221 Rh:=bc g0 Tryz.func221 (by kernel_rfl) (bN aa8 ar) (fun y=>by kernel_rfl) fun a=>by kernel_rfl
noncomputable abbrev ahc:bq:=[(221,Rh)]
theorem ahK:a9 Z (bm ap ahc):=bz ⟨aeV,⟨⟩⟩
abbrev i178:Shape:=⟨[aV 0 .str,bx 1],[],9⟩
abbrev PS:Shape:=⟨[aY 4],[],9⟩
noncomputable def f178(a:i178.H):Option PS.H:=
(f221 ((a.1.1,a.1.2.1,()),())).bind fun b=>
 some (((decide (b.1.1>=(0:Int))),()),())
noncomputable def Rr:aU:=ba ap Tryz.f178 i178 PS [] f178
theorem ae5:a4 Z 178 Rr:=bc ahK Tryz.func178 (by kernel_rfl) ar (fun y=>by kernel_rfl) fun a=>by kernel_rfl
noncomputable abbrev adr:bq:=[(123,RG),(177,Rs),(178,Rr)]
theorem Od:a9 Z (bm ap adr):=bz ⟨afk,ae6,ae5,⟨⟩⟩
abbrev wZ:Shape:=⟨[(1,.ai (.fn 123 [])),b3 7 3000448,aV 12 .need,ae 13,ae 14],[ci 3000448 .str 7 0],30⟩
abbrev q5:List bg:=[(.ret,⟨[aY 6],[],30⟩),(.exit 0,⟨[],[],30⟩)]
noncomputable def xb(y:wZ.H):cy wZ q5:=
 bif(decide (y.1.2.2.2.2.1<y.1.2.2.2.1)) then
(bl y.1.2.2.1 y.1.2.2.2.2.1).bind fun a=>
(f123 (((a.name,a.kind,a.a8,()),()),())).bind fun b=>
(f178 ((y.2.1,b.1.1,()),())).bind fun c=>
 bif c.1.1 then
 some (.inr (.inl ((true,()),())))
else
(f123 (((a.name,a.kind,a.a8,()),()),())).bind fun d=>
(dv 16 y.2.1 ([d.1.1]:List al)).bind fun e=>
 some (.inl (((),(),y.1.2.2.1,y.1.2.2.2.1,(IntKind.i64.wrap (y.1.2.2.2.2.1+(1:Int))),()),e,()))
else
 some (.inr (.inr ((),())))
noncomputable def Ck:wZ.H->Option (aQ q5):=bO xb
theorem Zp:bw Z (aI (codeOf Tryz.f122) 1 58) (bJ wZ q5 Ck):=cD Od (by kernel_rfl) ar fun y=>by kernel_rfl
abbrev NL:Shape:=⟨[aV 0 .need,(1,.ai (.fn 123 [])),aV 2 .str],[],30⟩
abbrev Nt:Shape:=⟨[aY 6],[],30⟩
noncomputable def zt(a:NL.H):Option Nt.H:=
(f177 ((a.1.2.2.1,()),())).bind fun b=>
(Ck (((),(),a.1.1,(a.1.1.length:Int),(0:Int),()),b.2.1,())).bind fun c=>
(match c with
|.inl d=>
 some ((d.1.1,()),())
|.inr e=>
 some ((false,()),()))
noncomputable def N8:aU:=ba ap Tryz.f122 NL Nt [] zt
theorem aci:a4 Z 122 N8:=bc Od Tryz.func122 (by kernel_rfl) (bN Zp ar) (fun y=>by kernel_rfl) fun a=>by kernel_rfl
noncomputable abbrev ag3:bq:=[(233,Rc)]
theorem RT:a9 Z (bm ap ag3):=bz ⟨aeQ,⟨⟩⟩
abbrev xN:Shape:=⟨[aV 0 .need,ae 3],[],19⟩
abbrev Dp:List bg:=[(.ret,⟨[aY 2],[],19⟩),(.exit 0,⟨[aV 0 .need],[],19⟩)]
noncomputable def yo(y:xN.H):cy xN Dp:=
 bif(decide (y.1.2.1<(y.1.1.length:Int))) then
(bl y.1.1 y.1.2.1).bind fun a=>
(f233 (((a.name,a.kind,a.a8,()),()),())).bind fun b=>
 bif(!b.1.1) then
 some (.inr (.inl ((false,()),())))
else
 some (.inl ((y.1.1,(IntKind.i64.wrap (y.1.2.1+(1:Int))),()),()))
else
 some (.inr (.inr ((y.1.1,()),())))
noncomputable def DY:xN.H->Option (aQ Dp):=bO yo
theorem aa9:bw Z (aI (codeOf Tryz.f215) 1 26) (bJ xN Dp DY):=cD RT (by kernel_rfl) ar fun y=>by kernel_rfl
abbrev i215:Shape:=⟨[aV 0 .need],[],19⟩
abbrev PJ:Shape:=⟨[aY 2],[],19⟩
noncomputable def f215(a:i215.H):Option PJ.H:=
(DY ((a.1.1,(0:Int),()),())).bind fun b=>
(match b with
|.inl c=>
 some ((c.1.1,()),())
|.inr d=>
 some (((decide ((d.1.1.length:Int)<=(6:Int))),()),()))
noncomputable def Ri:aU:=ba ap Tryz.f215 i215 PJ [] f215
theorem aeW:a4 Z 215 Ri:=bc RT Tryz.func215 (by kernel_rfl) (bN aa9 ar) (fun y=>by kernel_rfl) fun a=>by kernel_rfl
abbrev xk:Shape:=⟨[aV 0 .str,ae 3,ae 4],[],25⟩
abbrev CG:List bg:=[(.ret,⟨[aY 2],[],25⟩),(.exit 2,⟨[aV 0 .str,ae 3],[],25⟩)]
noncomputable def xw(y:xk.H):cy xk CG:=
 bif(decide (y.1.2.2.1<y.1.2.1)) then
(bl y.1.1 y.1.2.2.1).bind fun a=>
(bl y.1.1 y.1.2.1).bind fun b=>
 bif(a==b) then
 some (.inr (.inl ((true,()),())))
else
 some (.inl ((y.1.1,y.1.2.1,(IntKind.i64.wrap (y.1.2.2.1+(1:Int))),()),()))
else
 some (.inr (.inr ((y.1.1,y.1.2.1,()),())))
noncomputable def CR:xk.H->Option (aQ CG):=bO xw
theorem _J:bw Z (aI (dD (aI (codeOf Tryz.f99) 1 26)) 52 1682) (bJ xk CG CR):=cD g0 (by kernel_rfl) ar fun y=>by kernel_rfl
abbrev yP:Shape:=⟨[aV 0 .str,ae 3],[],25⟩
abbrev Ev:List bg:=[(.ret,⟨[aY 2],[],25⟩),(.exit 0,⟨[],[],25⟩)]
noncomputable def za(y:yP.H):cy yP Ev:=
 bif(decide (y.1.2.1<(y.1.1.length:Int))) then
(CR ((y.1.1,y.1.2.1,(0:Int),()),())).bind fun a=>
(match a with
|.inl b=>
 some (.inr (.inl ((b.1.1,()),())))
|.inr c=>
 some (.inl ((c.1.1,(IntKind.i64.wrap (c.1.2.1+(1:Int))),()),())))
else
 some (.inr (.inr ((),())))
noncomputable def EO:yP.H->Option (aQ Ev):=bO za
theorem acu:bw Z (aI (codeOf Tryz.f99) 1 26) (bJ yP Ev EO):=cD g0 (by kernel_rfl) (bN _J ar) fun y=>by kernel_rfl
abbrev i99:Shape:=⟨[aV 0 .str],[],25⟩
abbrev Sm:Shape:=⟨[aY 2],[],25⟩
noncomputable def f99(a:i99.H):Option Sm.H:=
(EO ((a.1.1,(0:Int),()),())).bind fun b=>
(match b with
|.inl c=>
 some ((c.1.1,()),())
|.inr d=>
 some ((false,()),()))
noncomputable def TX:aU:=ba ap Tryz.f99 i99 Sm [] f99
theorem ah0:a4 Z 99 TX:=bc g0 Tryz.func99 (by kernel_rfl) (bN acu ar) (fun y=>by kernel_rfl) fun a=>by kernel_rfl
noncomputable abbrev ahd:bq:=[(99,TX),(215,Ri)]
theorem RW:a9 Z (bm ap ahd):=bz ⟨ah0,aeW,⟨⟩⟩
abbrev xU:Shape:=⟨[aV 1 .need,b3 5 3000320,ae 6],[ci 3000320 .str 5 0],30⟩
abbrev xC:List bg:=[(.exit 0,⟨[aV 1 .need,b3 5 3000320],[ci 3000320 .str 5 0],30⟩)]
noncomputable def yr(y:xU.H):cy xU xC:=
 bif(decide (y.1.2.2.1<(y.1.1.length:Int))) then
(bl y.1.1 y.1.2.2.1).bind fun a=>
(dv 16 y.2.1 ([a.name]:List al)).bind fun b=>
 some (.inl ((y.1.1,(),(IntKind.i64.wrap (y.1.2.2.1+(1:Int))),()),b,()))
else
 some (.inr ((y.1.1,(),()),y.2.1,()))
noncomputable def D1:xU.H->Option (aQ xC):=bO yr
theorem abg:bw Z (aI (codeOf Tryz.f163) 1 58) (bJ xU xC D1):=cD RW (by kernel_rfl) ar fun y=>by kernel_rfl
abbrev i163:Shape:=⟨[bx 0,aV 1 .need],[],30⟩
abbrev PU:Shape:=⟨[aY 4],[],30⟩
noncomputable def f163(a:i163.H):Option PU.H:=
(D1 ((a.1.2.1,(),(0:Int),()),([a.1.1]:List al),())).bind fun b=>
(f215 ((b.1.1,()),())).bind fun c=>
 bif c.1.1 then
(f99 ((b.2.1,()),())).bind fun d=>
 some (((!d.1.1),()),())
else
 some ((false,()),())
noncomputable def Rv:aU:=ba ap Tryz.f163 i163 PU [] f163
theorem ae9:a4 Z 163 Rv:=bc RW Tryz.func163 (by kernel_rfl) (bN abg ar) (fun y=>by kernel_rfl) fun a=>by kernel_rfl
abbrev vd(aA:List dr):Prop:=cj aA.length/\∀n,n∈aA->amr n
theorem z6(n:Nat)(k:Nat):decide ((n:Int)<=(k:Int))=decide (n<=k):=by by_cases h:n<=k<;>simp[h]<;>omega
theorem YH(a)(M:vd a.1.1):f215 a=some ((a.1.1.all hN&&decide (a.1.1.length<=6),()),()):=by
 obtain⟨⟨aA,u⟩,bF⟩:=a;obtain⟨hl,hn⟩:=M;have hl:aA.length<=2097152:=hl;have key:DY ((aA,((0:Int),())),())=some (bif allI (fun _ n=>hN n) 0 aA then .inr ((aA,()),()) else .inl ((false,()),())):=by
  refine fD yo aA (fun i=>((aA,((i:Int),())),())) _ _ _ (fun i x hx=>?_) ?_
  ·have hi:=cc hx;have hw:aF i:=by unfold aF;omega
   have hb:=hn x (List.mem_of_getElem? hx);simp only[yo,ce hi,cond_true,b0,hx,Option.bind_some];rw[_l _ hb.1 hb.2];simp only[Option.bind_some,b' hw];cases hN x<;>rfl
  ·simp only[yo,cU,cond_false]
 rw[gV] at key;simp only[f215,key,Option.bind_some];cases List.all aA hN with
 |false=>rfl
 |true=>have:=z6 aA.length 6;simp only[cond_true,Bool.true_and];rw[<-this];rfl
theorem YR(a)(M:vd a.1.1):zu a=some ((a.1.1.all hN,()),()):=by
 obtain⟨⟨aA,u⟩,bF⟩:=a;obtain⟨hl,hn⟩:=M;have hl:aA.length<=2097152:=hl;have key:Cl (((),(aA,((aA.length:Int),((0:Int),())))),())=some (bif allI (fun _ n=>hN n) 0 aA then .inr ((),()) else .inl ((false,()),())):=by
  refine fD xc aA (fun i=>(((),(aA,((aA.length:Int),((i:Int),())))),())) _ _ _ (fun i x hx=>?_) ?_
  ·have hi:=cc hx;have hw:aF i:=by unfold aF;omega
   have hb:=hn x (List.mem_of_getElem? hx);simp only[xc,ce hi,cond_true,b0,hx,Option.bind_some];rw[KH _ hb.1 hb.2];simp only[Option.bind_some,b' hw];cases hN x<;>rfl
  ·simp only[xc,cU,cond_false]
 rw[gV] at key;simp only[zu,key,Option.bind_some];cases List.all aA hN<;>rfl
def jI:List al->List al->Bool
 |_,[]=>false
 |bd,x::r=>bd.contains x||jI (bd++[x]) r
theorem aaq(xs:List al):∀(r:List al) (k:Nat),r=xs.drop k->allI (fun i x=>!((xs.take i).contains x)) k r=!jI (xs.take k) r:=by
 intro r;induction r with
 |nil=>intro k _;rfl
 |cons x r ih=>
  intro k hr;have cN:r=xs.drop (k+1):=by
   have:=congrArg List.tail hr;simpa using this
  have hx:xs[k]? =some x:=by
   have:=congrArg (fun l=>l[0]?) hr
   simpa using this.symm
  have e1:xs.take (k+1)=xs.take k++[x]:=by rw[List.take_add_one,hx];rfl
  simp only[allI,jI,ih (k+1) cN,e1,Bool.not_or]
theorem ab7(ys:List al)(x:al):ys.all (fun y=>!(y==x))=!ys.contains x:=by
 induction ys with
 |nil=>rfl
 |cons y ys ih=>
  simp only[List.all_cons,ih,List.contains_cons,Bool.not_or];congr 2
  cases h:y==x with
  |true=>rw[eq_of_beq h];simp
  |false=>
   cases h2:x==y with
   |true=>rw[eq_of_beq h2] at h;simp at h
   |false=>rfl
theorem YG(a)(M:cj a.1.1.length):f99 a=some ((jI [] a.1.1,()),()):=by
 obtain⟨⟨xs,u⟩,bF⟩:=a;have M:xs.length<=2097152:=M;have inner:∀(i:Nat) (x:al),xs[i]? =some x->CR ((xs,((i:Int),((0:Int),()))),())=some (bif !((xs.take i).contains x) then .inr ((xs,((i:Int),())),()) else .inl ((true,()),())):=by
  intro i x hx;have hi:=cc hx;have hl:(xs.take i).length=i:=by rw[List.length_take];omega
  have:=fD xw (xs.take i) (fun k=>((xs,((i:Int),((k:Int),()))),())) (fun _ y=>!(y==x)) (.inl ((true,()),())) (.inr ((xs,((i:Int),())),())) (fun k y ak=>?_) ?_
  ·have:=this;rw[gV,ab7] at this;exact this
  ·have ag:=cc ak;rw[hl] at ag;have hw:aF k:=by unfold aF;omega
   have dN:xs[k]? =some y:=by
    rw[List.getElem?_take,if_pos ag] at ak;exact ak
   simp only[xw,ce ag,cond_true,b0,dN,hx,Option.bind_some,b' hw];cases (y==x)<;>rfl
  ·simp only[xw,hl,cU,cond_false]
 have key:EO ((xs,((0:Int),())),())=some (bif allI (fun i x=>!((xs.take i).contains x)) 0 xs then .inr ((),()) else .inl ((true,()),())):=by
  refine fD za xs (fun i=>((xs,((i:Int),())),())) _ _ _ (fun i x hx=>?_) ?_
  ·have hi:=cc hx;have hw:aF i:=by unfold aF;omega
   simp only[za,ce hi,cond_true,inner i x hx,Option.bind_some];cases (xs.take i).contains x
   ·simp only[Bool.not_false,cond_true,b' hw]
   ·rfl
  ·simp only[za,cU,cond_false]
 rw[aaq xs xs 0 rfl] at key;simp only[f99,key,Option.bind_some,List.take_zero];cases jI [] xs<;>rfl
def rj(name:al)(aA:List dr):Bool:=aA.all hN&&decide (aA.length<=6)&&!jI [] (name::aA.map (·.name))
theorem YF(a)(M:vd a.1.2.1)(hn:cj a.1.1.length):f163 a=some ((rj a.1.1 a.1.2.1,()),()):=by
 obtain⟨⟨name,aA,u⟩,bF⟩:=a;have hl:aA.length<=2097152:=M.1;have key:D1 ((aA,((),((0:Int),()))),(([name]:List al),()))=some (((aA,((),())),((name::aA.map (·.name)),()))):=by
  have:=w4 yr aA (fun i (out:List al)=>((aA,((),((i:Int),()))),(out,()))) (fun(n:dr) out=>out++[n.name]) (fun out=>(((aA,((),())),(out,())):aQ xC)) (fun i out=>out.length=i+1) [name] rfl (fun i x out hx cZ=>?_) (fun out _=>?_)
  ·refine this.trans ?_
   have e:∀(r:List dr) (out:List al),r.foldl (fun s x=>s++[x.name]) out=out++r.map (·.name):=by
    intro r;induction r with
    |nil=>intro out;simp
    |cons n r ih=>intro out;simp[ih]
   rw[e];rfl
  ·have hi:=cc hx;have hw:aF i:=by unfold aF;omega
   refine⟨?_,by simp[cZ]⟩
   simp only[yr,ce hi,cond_true,b0,hx,Option.bind_some];rw[gC (by decide) (by unfold aF;simp only[List.length_cons,List.length_nil];omega)]
   simp only[Option.bind_some,b' hw]
  ·simp only[yr,cU,cond_false]
 simp only[f163,key,Option.bind_some];rw[YH _ M];simp only[Option.bind_some];unfold rj;cases ay:(List.all aA hN&&decide (aA.length<=6)) with
 |false=>rfl
 |true=>
  simp only[Bool.and_eq_true,decide_eq_true_eq] at ay;have amK:=YG ((name::aA.map (·.name),()),()) (show(name::aA.map (·.name)).length<=2097152 by simp only[List.length_cons,List.length_map];omega)
  simp only[cond_true,Bool.true_and,amK,Option.bind_some]
theorem aaM(a)(M:cj a.1.1.length):∃n:Int,f221 a=some ((n,()),())/\decide (n>=0)=a.1.1.contains a.1.2.1:=by
 obtain⟨⟨xs,x,u⟩,bF⟩:=a;have M:xs.length<=2097152:=M;have key:DX ((xs,(x,((xs.length:Int),((0:Int),())))),())=_:=Cg yn xs (fun i (_:Unit)=>((xs,(x,((xs.length:Int),((i:Int),())))),()))
  (fun i y _=>some (bif x==y then .inr ((.inl (((i:Int),()),())):aQ rc) else .inl ())) (fun _=>.inr ((),())) (fun i y s ak=>?_) (fun s=>?_) ()
 ·have fold:∀(r:List al) (k:Nat),∃n:Int,(eD (fun i y (_:Unit)=>some (bif x==y then .inr ((.inl (((i:Int),()),())):aQ rc) else .inl ())) (fun _=>(.inr ((),()):aQ rc)) k r ()).bind (fun afP=>
    (match afP with
    |.inl afO=>some ((afO.1.1,()),())
    |.inr an8=>some ((((-1):Int),()),()):Option FZ.H))=some ((n,()),())/\decide (n>=0)=r.contains x:=by
   intro r;induction r with
   |nil=>intro k;exact⟨-1,rfl,rfl⟩
   |cons y r ih=>
    intro k;simp only[eD,List.contains_cons];cases Hz:x==y with
    |true=>exact⟨k,rfl,by simp⟩
    |false=>
     obtain⟨n,h1,h2⟩:=ih (k+1);exact⟨n,h1,by simpa using h2⟩
  obtain⟨n,h1,h2⟩:=fold xs 0;refine⟨n,?_,h2⟩;simp only[f221];rw[key];exact h1
 ·have hi:=cc ak;have hw:aF i:=by unfold aF;omega
  simp only[yn,ce hi,cond_true,b0,ak,Option.bind_some,b' hw];cases x==y<;>rfl
 ·simp only[yn,cU,cond_false]
theorem Xu(a)(M:cj a.1.1.length):f178 a=some ((a.1.1.contains a.1.2.1,()),()):=by
 obtain⟨n,h1,h2⟩:=aaM ((a.1.1,(a.1.2.1,())),()) M;simp only[f178,h1,Option.bind_some,h2]
theorem _m(a)(M:cj a.1.1.length):f177 a=some (((),()),(a.1.1,())):=by
 obtain⟨⟨xs,u⟩,bF⟩:=a;have M:xs.length<=2097152:=M;have h2:(dv 16 ([]:List al) xs).bind (fun x=>some (((),()),(x,())))=(some (((),()),(xs,())):Option F2.H):=by
  rw[gC (by decide) (by unfold aF;simp only[List.length_nil];omega)];rfl
 simp only[f177];rw[h2];unfold ns;split
 ·rfl
 ·rename_i h;exact absurd (fun he:xs=[]=>by subst he;rfl) h
theorem VZ(a)(M:vd a.1.1)(hm:a.1.2.2.1.length<=1):zt a=some ((jI a.1.2.2.1 (a.1.1.map (·.name)),()),()):=by
 obtain⟨⟨aA,jp,more,u⟩,bF⟩:=a;have hl:aA.length<=2097152:=M.1;have hm:more.length<=1:=hm;have hc:=_m ((more,()),()) (show more.length<=2097152 by omega)
 have key:(Ck (((),((),(aA,((aA.length:Int),((0:Int),()))))),(more,())))=_:=mm xb aA (fun i (out:List al)=>(((),((),(aA,((aA.length:Int),((i:Int),()))))),(out,())))
  (fun i (n:dr) out=>some (bif out.contains n.name then .inr ((.inl ((true,()),())):aQ q5) else .inl (out++[n.name]))) (fun _=>.inr ((),())) (fun i out=>out.length<=i+1) more (by omega) (fun i x out hx cZ=>?_) (fun out _=>?_)
 ·have fold:∀(r:List dr) (k:Nat) (out:List al),(eD (fun i (n:dr) out=>some (bif out.contains n.name then .inr ((.inl ((true,()),())):aQ q5) else .inl (out++[n.name]))) (fun _=>(.inr ((),()):aQ q5)) k r out)=
    some (bif jI out (r.map (·.name)) then .inl ((true,()),()) else .inr ((),())):=by
   intro r;induction r with
   |nil=>intro k out;rfl
   |cons n r ih=>
    intro k out;simp only[eD,List.map_cons,jI];cases out.contains n.name with
    |true=>rfl
    |false=>simp only[cond_false,Bool.false_or];exact ih _ _
  rw[fold] at key;simp only[zt,hc,Option.bind_some,key];cases jI more (aA.map (·.name))<;>rfl
 ·have hi:=cc hx;have hw:aF i:=by unfold aF;omega
  refine⟨?_,fun am ab=>?_⟩
  ·simp only[xb,ce hi,cond_true,b0,hx,Option.bind_some,f123];rw[Xu _ (show cj out.length by show out.length<=2097152;omega)]
   simp only[Option.bind_some];cases ay:out.contains x.name with
   |true=>rfl
   |false=>
    simp only[cond_false];rw[gC (by decide) (by unfold aF;simp only[List.length_cons,List.length_nil];omega)]
    simp only[Option.bind_some,b' hw,Option.map_some]
  ·simp only[Option.some.injEq] at ab;cases ay:out.contains x.name with
   |true=>rw[ay] at ab;cases ab
   |false=>
    rw[ay] at ab;simp only[cond_false,Sum.inl.injEq] at ab;subst ab;simp only[List.length_append,List.length_cons,List.length_nil];omega
 ·simp only[xb,cU,cond_false]
abbrev i293:Shape:=⟨[(0,.ai (.d (.int .u8)))],[],29⟩
abbrev Pu:Shape:=⟨[aY 2],[],29⟩
noncomputable def f293(a:i293.H):Option Pu.H:=
 bif(decide (a.1.1>=(97:Int))) then
 bif(!(decide (a.1.1<=(122:Int)))) then
 bif(decide (a.1.1>=(48:Int))) then
 bif(!(decide (a.1.1<=(57:Int)))) then
 bif(!(a.1.1==(46:Int))) then
 bif(!(a.1.1==(95:Int))) then
 some (((a.1.1==(45:Int)),()),())
else
 some ((true,()),())
else
 some ((true,()),())
else
 some ((true,()),())
else
 bif(!(a.1.1==(46:Int))) then
 bif(!(a.1.1==(95:Int))) then
 some (((a.1.1==(45:Int)),()),())
else
 some ((true,()),())
else
 some ((true,()),())
else
 some ((true,()),())
else
 bif(decide (a.1.1>=(48:Int))) then
 bif(!(decide (a.1.1<=(57:Int)))) then
 bif(!(a.1.1==(46:Int))) then
 bif(!(a.1.1==(95:Int))) then
 some (((a.1.1==(45:Int)),()),())
else
 some ((true,()),())
else
 some ((true,()),())
else
 some ((true,()),())
else
 bif(!(a.1.1==(46:Int))) then
 bif(!(a.1.1==(95:Int))) then
 some (((a.1.1==(45:Int)),()),())
else
 some ((true,()),())
else
 some ((true,()),())
noncomputable def Q4:aU:=ba ap Tryz.f293 i293 Pu [] f293
theorem aeG:a4 Z 293 Q4:=bc g0 Tryz.func293 (by kernel_rfl) ar (fun y=>by kernel_rfl) fun a=>by kernel_rfl
noncomputable abbrev agU:bq:=[(293,Q4)]
theorem RQ:a9 Z (bm ap agU):=bz ⟨aeG,⟨⟩⟩
abbrev xJ:Shape:=⟨[bx 0,ae 5,ae 6],[],17⟩
abbrev Dm:List bg:=[(.ret,⟨[aY 2],[],17⟩),(.exit 0,⟨[bx 0],[],17⟩)]
noncomputable def yk(y:xJ.H):cy xJ Dm:=
 bif(decide (y.1.2.2.1<y.1.2.1)) then
(bl y.1.1 y.1.2.2.1).bind fun a=>
(f293 (((a.toNat:Int),()),())).bind fun b=>
 bif(!b.1.1) then
 some (.inr (.inl ((false,()),())))
else
 some (.inl ((y.1.1,y.1.2.1,(IntKind.i64.wrap (y.1.2.2.1+(1:Int))),()),()))
else
 some (.inr (.inr ((y.1.1,()),())))
noncomputable def DU:xJ.H->Option (aQ Dm):=bO yk
theorem aa4:bw Z (aI (codeOf Tryz.f267) 1 26) (bJ xJ Dm DU):=cD RQ (by kernel_rfl) ar fun y=>by kernel_rfl
abbrev i267:Shape:=⟨[bx 0],[],17⟩
abbrev Py:Shape:=⟨[aY 2],[],17⟩
noncomputable def f267(a:i267.H):Option Py.H:=
(DU ((a.1.1,(a.1.1.length:Int),(0:Int),()),())).bind fun b=>
(match b with
|.inl c=>
 some ((c.1.1,()),())
|.inr d=>
 some (((!(d.1.1==([]:al))),()),()))
noncomputable def Q8:aU:=ba ap Tryz.f267 i267 Py [] f267
theorem aeK:a4 Z 267 Q8:=bc RQ Tryz.func267 (by kernel_rfl) (bN aa4 ar) (fun y=>by kernel_rfl) fun a=>by kernel_rfl
noncomputable abbrev ag1:bq:=[(267,Q8)]
theorem ahE:a9 Z (bm ap ag1):=bz ⟨aeK,⟨⟩⟩
abbrev i228:Shape:=⟨[bx 0],[],18⟩
abbrev PH:Shape:=⟨[aY 2],[],18⟩
noncomputable def f228(a:i228.H):Option PH.H:=
 bif(decide ((a.1.1.length:Int)<=(10:Int))) then
 bif(!(a.1.1==([46]:al))) then
 bif(!(a.1.1==([46,46]:al))) then
(f267 ((a.1.1,()),())).bind fun b=>
 some ((b.1.1,()),())
else
 some ((false,()),())
else
 some ((false,()),())
else
 some ((false,()),())
noncomputable def Rf:aU:=ba ap Tryz.f228 i228 PH [] f228
theorem aeT:a4 Z 228 Rf:=bc ahE Tryz.func228 (by kernel_rfl) ar (fun y=>by kernel_rfl) fun a=>by kernel_rfl
noncomputable abbrev ag8:bq:=[(228,Rf)]
theorem G3:a9 Z (bm ap ag8):=bz ⟨aeT,⟨⟩⟩
abbrev LW:Shape:=⟨[bf 2 2 0,bf 3 3 0,bx 4],[be 2 [hY],be 3 [cO]],17⟩
abbrev LK:List bg:=[(.norm,⟨[bf 2 2 0,bf 3 3 0,aY 16],[be 2 [hY],be 3 [cO]],17⟩)]
noncomputable def C6(y:LW.H):Option (aQ LK):=
 bif(!(decide (y.2.2.1.1>(5:Int)))) then
(f228 ((y.1.2.2.1,()),())).bind fun a=>
 some (((),(),(!a.1.1),()),(y.2.1.1,()),(y.2.2.1.1,()),())
else
 some (((),(),true,()),(y.2.1.1,()),(y.2.2.1.1,()),())
theorem _Q:bw Z (aI (jz (aI (codeOf Tryz.f193) 1 58)) 117 938) (bJ LW LK C6):=ei G3 (by kernel_rfl) ar fun y=>by kernel_rfl
abbrev xR:Shape:=⟨[bf 2 2 0,bf 3 3 0],[be 2 [hY],be 3 [cO]],17⟩
abbrev Dt:List bg:=[(.norm,⟨[bf 2 2 0],[be 2 [hY]],17⟩),(.ret,⟨[bf 2 2 0],[be 2 [hY]],17⟩)]
noncomputable def rm(x:al)(y:xR.H):cy xR Dt:=
(C6 (((),(),x,()),(y.2.1.1,()),((IntKind.i64.wrap (y.2.2.1.1+(1:Int))),()),())).bind fun a=>
 bif a.1.2.2.1 then
 some (.inr (.inr (((),()),(false,()),())))
else
 some (.inl (((),(),()),(a.2.1.1,()),(a.2.2.1.1,()),()))
noncomputable def t'(y:xR.H):Option (aQ Dt):=
 some (.inl (((),()),(y.2.1.1,()),()))
theorem abd:bw Z (aI (codeOf Tryz.f193) 1 58) (q9 257 6 xR Dt rm t'):=JS (eF:=7) G3 OG (by kernel_rfl) (bN _Q ar) (by kernel_rfl) (fun x y=>by kernel_rfl) fun y=>by kernel_rfl
abbrev i193:Shape:=⟨[bx 0],[],17⟩
abbrev PP:Shape:=⟨[bf 2 2 0],[be 2 [hY]],17⟩
noncomputable def f193(a:i193.H):Option PP.H:=
(bif Nat.ble a.1.1.length j4 then hQ rm t' (cM (47:UInt8) a.1.1) (((),(),()),(false,()),((0:Int),()),()) else none).bind fun b=>
(match b with
|.inl c=>
 some (((),()),(true,()),())
|.inr d=>
 some (((),()),(d.2.1.1,()),()))
noncomputable def GH:aU:=ba ap Tryz.f193 i193 PP [] f193
theorem O7:a4 Z 193 GH:=bc G3 Tryz.func193 (by kernel_rfl) (bN abd ar) (fun y=>by kernel_rfl) fun a=>by kernel_rfl
abbrev i229:Shape:=⟨[(0,.ai (.d (.int .u8)))],[],9⟩
abbrev PG:Shape:=⟨[aY 2],[],9⟩
noncomputable def f229(a:i229.H):Option PG.H:=
 bif(decide (a.1.1>=(32:Int))) then
 some (((decide (a.1.1<=(126:Int))),()),())
else
 some ((false,()),())
noncomputable def Re:aU:=ba ap Tryz.f229 i229 PG [] f229
theorem aeS:a4 Z 229 Re:=bc g0 Tryz.func229 (by kernel_rfl) ar (fun y=>by kernel_rfl) fun a=>by kernel_rfl
noncomputable abbrev ag7:bq:=[(229,Re)]
theorem G2:a9 Z (bm ap ag7):=bz ⟨aeS,⟨⟩⟩
abbrev KT:Shape:=⟨[bx 0,ae 3,ae 8,ae 9],[],24⟩
abbrev KJ:List bg:=[(.norm,⟨[bx 0,ae 8,ae 9,aY 22],[],24⟩)]
noncomputable def Cr(y:KT.H):Option (aQ KJ):=
(bl y.1.1 y.1.2.1).bind fun a=>
(f229 (((a.toNat:Int),()),())).bind fun b=>
 bif(!b.1.1) then
(bl y.1.1 y.1.2.1).bind fun c=>
 some ((y.1.1,y.1.2.2.1,y.1.2.2.2.1,((c.toNat:Int) !=(10:Int)),()),())
else
 some ((y.1.1,y.1.2.2.1,y.1.2.2.2.1,false,()),())
theorem Zg:bw Z (aI (dD (aI (codeOf Tryz.f194) 1 58)) 116 7474) (bJ KT KJ Cr):=ei G2 (by kernel_rfl) ar fun y=>by kernel_rfl
abbrev xQ:Shape:=⟨[bx 0,ae 8,ae 9],[],24⟩
abbrev Ds:List bg:=[(.ret,⟨[aY 2],[],24⟩),(.exit 0,⟨[],[],24⟩)]
noncomputable def yq(y:xQ.H):cy xQ Ds:=
 bif(decide (y.1.2.2.1<y.1.2.1)) then
(Cr ((y.1.1,y.1.2.2.1,y.1.2.1,y.1.2.2.1,()),())).bind fun a=>
 bif a.1.2.2.2.1 then
 some (.inr (.inl ((false,()),())))
else
 some (.inl ((a.1.1,a.1.2.1,(IntKind.i64.wrap (a.1.2.2.1+(1:Int))),()),()))
else
 some (.inr (.inr ((),())))
noncomputable def D0:xQ.H->Option (aQ Ds):=bO yq
theorem abc:bw Z (aI (codeOf Tryz.f194) 1 58) (bJ xQ Ds D0):=cD G2 (by kernel_rfl) (bN Zg ar) fun y=>by kernel_rfl
abbrev i194:Shape:=⟨[bx 0],[],24⟩
abbrev PO:Shape:=⟨[aY 2],[],24⟩
noncomputable def f194(a:i194.H):Option PO.H:=
 bif(decide ((a.1.1.length:Int)>(80:Int))) then
 some ((false,()),())
else
(D0 ((a.1.1,(a.1.1.length:Int),(0:Int),()),())).bind fun b=>
(match b with
|.inl c=>
 some ((c.1.1,()),())
|.inr d=>
 some ((true,()),()))
noncomputable def Rn:aU:=ba ap Tryz.f194 i194 PO [] f194
theorem ae1:a4 Z 194 Rn:=bc G2 Tryz.func194 (by kernel_rfl) (bN abc ar) (fun y=>by kernel_rfl) fun a=>by kernel_rfl
noncomputable abbrev ahk:bq:=[(193,GH),(194,Rn)]
theorem RX:a9 Z (bm ap ahk):=bz ⟨O7,ae1,⟨⟩⟩
abbrev My:Shape:=⟨[bf 1 1 0],[be 1 [a6,cO,cO,a6]],39⟩
abbrev Mp:List bg:=[(.norm,⟨[bf 1 1 0,aY 16],[be 1 [a6,cO,cO,a6]],39⟩)]
noncomputable def Eh(y:My.H):Option (aQ Mp):=
(f193 ((y.2.1.1,()),())).bind fun a=>
 bif(!(!a.2.1.1)) then
 bif(!(decide (y.2.1.2.2.1<(0:Int)))) then
 some (((),(decide (y.2.1.2.2.1>(7:Int))),()),(y.2.1.1,y.2.1.2.1,y.2.1.2.2.1,y.2.1.2.2.2.1,()),())
else
 some (((),true,()),(y.2.1.1,y.2.1.2.1,y.2.1.2.2.1,y.2.1.2.2.2.1,()),())
else
 some (((),true,()),(y.2.1.1,y.2.1.2.1,y.2.1.2.2.1,y.2.1.2.2.2.1,()),())
theorem abo:bw Z (aI (codeOf Tryz.f136) 1 12) (bJ My Mp Eh):=ei RX (by kernel_rfl) ar fun y=>by kernel_rfl
abbrev i136:Shape:=⟨[cg 0 [a6,cO,cO,a6]],[],39⟩
abbrev P5:Shape:=⟨[aY 2],[],39⟩
noncomputable def f136(a:i136.H):Option P5.H:=
(Eh (((),()),(a.1.1.1,a.1.1.2.1,a.1.1.2.2.1,a.1.1.2.2.2.1,()),())).bind fun b=>
 bif b.1.2.1 then
 some ((false,()),())
else
 bif(b.2.1.2.1==(1:Int)) then
 some (((b.2.1.2.2.2.1==([]:al)),()),())
else
 bif(b.2.1.2.1==(2:Int)) then
(f194 ((b.2.1.2.2.2.1,()),())).bind fun c=>
 some ((c.1.1,()),())
else
 bif(b.2.1.2.1==(3:Int)) then
 bif(b.2.1.2.2.1==(0:Int)) then
(f193 ((b.2.1.2.2.2.1,()),())).bind fun d=>
 some ((d.2.1.1,()),())
else
 some ((false,()),())
else
 some ((false,()),())
noncomputable def RB:aU:=ba ap Tryz.f136 i136 P5 [] f136
theorem aff:a4 Z 136 RB:=bc RX Tryz.func136 (by kernel_rfl) (bN abo ar) (fun y=>by kernel_rfl) fun a=>by kernel_rfl
abbrev i304:Shape:=⟨[(0,.ai (.d (.int .u8)))],[],29⟩
abbrev Pt:Shape:=⟨[aY 2],[],29⟩
noncomputable def f304(a:i304.H):Option Pt.H:=
 bif(decide (a.1.1>=(97:Int))) then
 bif(!(decide (a.1.1<=(122:Int)))) then
 bif(decide (a.1.1>=(48:Int))) then
 bif(!(decide (a.1.1<=(57:Int)))) then
 bif(!(a.1.1==(46:Int))) then
 bif(!(a.1.1==(95:Int))) then
 some (((a.1.1==(45:Int)),()),())
else
 some ((true,()),())
else
 some ((true,()),())
else
 some ((true,()),())
else
 bif(!(a.1.1==(46:Int))) then
 bif(!(a.1.1==(95:Int))) then
 some (((a.1.1==(45:Int)),()),())
else
 some ((true,()),())
else
 some ((true,()),())
else
 some ((true,()),())
else
 bif(decide (a.1.1>=(48:Int))) then
 bif(!(decide (a.1.1<=(57:Int)))) then
 bif(!(a.1.1==(46:Int))) then
 bif(!(a.1.1==(95:Int))) then
 some (((a.1.1==(45:Int)),()),())
else
 some ((true,()),())
else
 some ((true,()),())
else
 some ((true,()),())
else
 bif(!(a.1.1==(46:Int))) then
 bif(!(a.1.1==(95:Int))) then
 some (((a.1.1==(45:Int)),()),())
else
 some ((true,()),())
else
 some ((true,()),())
noncomputable def Q3:aU:=ba ap Tryz.f304 i304 Pt [] f304
theorem aeF:a4 Z 304 Q3:=bc g0 Tryz.func304 (by kernel_rfl) ar (fun y=>by kernel_rfl) fun a=>by kernel_rfl
noncomputable abbrev agS:bq:=[(91,qC),(304,Q3)]
theorem RP:a9 Z (bm ap agS):=bz ⟨sJ,aeF,⟨⟩⟩
abbrev xH:Shape:=⟨[bx 0,ae 3],[],26⟩
abbrev Dk:List bg:=[(.ret,⟨[aY 2],[],26⟩),(.exit 0,⟨[bx 0],[],26⟩)]
noncomputable def yj(y:xH.H):cy xH Dk:=
 bif(decide (y.1.2.1<(y.1.1.length:Int))) then
(bl y.1.1 y.1.2.1).bind fun a=>
(f304 (((a.toNat:Int),()),())).bind fun b=>
 bif(!b.1.1) then
 some (.inr (.inl ((false,()),())))
else
 some (.inl ((y.1.1,(IntKind.i64.wrap (y.1.2.1+(1:Int))),()),()))
else
 some (.inr (.inr ((y.1.1,()),())))
noncomputable def DS:xH.H->Option (aQ Dk):=bO yj
theorem aa2:bw Z (aI (codeOf Tryz.f285) 1 26) (bJ xH Dk DS):=cD RP (by kernel_rfl) ar fun y=>by kernel_rfl
abbrev i285:Shape:=⟨[bx 0],[],26⟩
abbrev Pv:Shape:=⟨[aY 2],[],26⟩
noncomputable def f285(a:i285.H):Option Pv.H:=
(DS ((a.1.1,(0:Int),()),())).bind fun b=>
(match b with
|.inl c=>
 some ((c.1.1,()),())
|.inr d=>
(f91 (((d.1.1.length:Int),(1:Int),(10:Int),()),())).bind fun e=>
 bif e.1.1 then
 bif(!(d.1.1==([46]:al))) then
 some (((!(d.1.1==([46,46]:al))),()),())
else
 some ((false,()),())
else
 some ((false,()),()))
noncomputable def Q5:aU:=ba ap Tryz.f285 i285 Pv [] f285
theorem aeH:a4 Z 285 Q5:=bc RP Tryz.func285 (by kernel_rfl) (bN aa2 ar) (fun y=>by kernel_rfl) fun a=>by kernel_rfl
noncomputable abbrev agW:bq:=[(89,Il),(285,Q5)]
theorem RR:a9 Z (bm ap agW):=bz ⟨R6,aeH,⟨⟩⟩
abbrev xL:Shape:=⟨[b3 3 3000192,ae 4],[ci 3000192 .str 3 0],25⟩
abbrev Do:List bg:=[(.ret,⟨[aY 2],[],25⟩),(.exit 0,⟨[b3 3 3000192],[ci 3000192 .str 3 0],25⟩)]
noncomputable def ym(y:xL.H):cy xL Do:=
 bif(decide (y.1.2.1<(y.2.1.length:Int))) then
(e_ y.2.1.length y.1.2.1).bind fun a=>
(y.2.1[a]?).bind fun b=>
(f285 ((b,()),())).bind fun c=>
 bif(!c.1.1) then
 some (.inr (.inl ((false,()),())))
else
 some (.inl (((),(IntKind.i64.wrap (y.1.2.1+(1:Int))),()),y.2.1,()))
else
 some (.inr (.inr (((),()),y.2.1,())))
noncomputable def DW:xL.H->Option (aQ Do):=bO ym
theorem aa6:bw Z (aI (codeOf Tryz.f252) 1 58) (bJ xL Do DW):=cD RR (by kernel_rfl) ar fun y=>by kernel_rfl
abbrev i252:Shape:=⟨[bx 0],[],25⟩
abbrev PB:Shape:=⟨[aY 2],[],25⟩
noncomputable def f252(a:i252.H):Option PB.H:=
(f89 ((a.1.1,(47:Int),(IntKind.i64.wrap ((a.1.1.length:Int)+(1:Int))),()),())).bind fun b=>
(DW (((),(0:Int),()),b.2.1,())).bind fun c=>
(match c with
|.inl d=>
 some ((d.1.1,()),())
|.inr e=>
 some (((decide ((e.2.1.length:Int)<=(5:Int))),()),()))
noncomputable def Q':aU:=ba ap Tryz.f252 i252 PB [] f252
theorem aeN:a4 Z 252 Q':=bc RR Tryz.func252 (by kernel_rfl) (bN aa6 ar) (fun y=>by kernel_rfl) fun a=>by kernel_rfl
noncomputable abbrev agV:bq:=[(91,qC)]
theorem G1:a9 Z (bm ap agV):=bz ⟨sJ,⟨⟩⟩
abbrev LV:Shape:=⟨[bx 0,ae 3],[],25⟩
abbrev LJ:List bg:=[(.norm,⟨[bx 0,ae 3,aY 21],[],25⟩)]
noncomputable def C5(y:LV.H):Option (aQ LJ):=
(bl y.1.1 y.1.2.1).bind fun a=>
 bif((a.toNat:Int) !=(10:Int)) then
(bl y.1.1 y.1.2.1).bind fun b=>
(f91 (((IntKind.i64.wrap (b.toNat:Int)),(32:Int),(126:Int),()),())).bind fun c=>
 some ((y.1.1,y.1.2.1,(!c.1.1),()),())
else
 some ((y.1.1,y.1.2.1,false,()),())
theorem _P:bw Z (aI (dD (aI (codeOf Tryz.f253) 1 26)) 52 840) (bJ LV LJ C5):=ei G1 (by kernel_rfl) ar fun y=>by kernel_rfl
abbrev xK:Shape:=⟨[bx 0,ae 3],[],25⟩
abbrev Dn:List bg:=[(.ret,⟨[aY 2],[],25⟩),(.exit 0,⟨[bx 0],[],25⟩)]
noncomputable def yl(y:xK.H):cy xK Dn:=
 bif(decide (y.1.2.1<(y.1.1.length:Int))) then
(C5 ((y.1.1,y.1.2.1,()),())).bind fun a=>
 bif a.1.2.2.1 then
 some (.inr (.inl ((false,()),())))
else
 some (.inl ((a.1.1,(IntKind.i64.wrap (a.1.2.1+(1:Int))),()),()))
else
 some (.inr (.inr ((y.1.1,()),())))
noncomputable def DV:xK.H->Option (aQ Dn):=bO yl
theorem aa5:bw Z (aI (codeOf Tryz.f253) 1 26) (bJ xK Dn DV):=cD G1 (by kernel_rfl) (bN _P ar) fun y=>by kernel_rfl
abbrev i253:Shape:=⟨[bx 0],[],25⟩
abbrev PA:Shape:=⟨[aY 2],[],25⟩
noncomputable def f253(a:i253.H):Option PA.H:=
(DV ((a.1.1,(0:Int),()),())).bind fun b=>
(match b with
|.inl c=>
 some ((c.1.1,()),())
|.inr d=>
 some (((decide ((d.1.1.length:Int)<=(80:Int))),()),()))
noncomputable def Q_:aU:=ba ap Tryz.f253 i253 PA [] f253
theorem aeM:a4 Z 253 Q_:=bc G1 Tryz.func253 (by kernel_rfl) (bN aa5 ar) (fun y=>by kernel_rfl) fun a=>by kernel_rfl
noncomputable abbrev ag5:bq:=[(91,qC),(252,Q'),(253,Q_)]
theorem ahH:a9 Z (bm ap ag5):=bz ⟨sJ,aeN,aeM,⟨⟩⟩
abbrev i210:Shape:=⟨[cg 0 [a6,cO,cO,a6]],[],42⟩
abbrev PM:Shape:=⟨[aY 2],[],42⟩
noncomputable def f210(a:i210.H):Option PM.H:=
(f252 ((a.1.1.1,()),())).bind fun b=>
 bif(!b.1.1) then
 some ((false,()),())
else
 bif(a.1.1.2.1==(1:Int)) then
(f91 ((a.1.1.2.2.1,(0:Int),(7:Int),()),())).bind fun c=>
 bif c.1.1 then
 some (((a.1.1.2.2.2.1==([]:al)),()),())
else
 some ((false,()),())
else
 bif(a.1.1.2.1==(2:Int)) then
(f91 ((a.1.1.2.2.1,(0:Int),(7:Int),()),())).bind fun d=>
 bif d.1.1 then
(f253 ((a.1.1.2.2.2.1,()),())).bind fun e=>
 some ((e.1.1,()),())
else
 some ((false,()),())
else
 bif(a.1.1.2.1==(3:Int)) then
 bif(a.1.1.2.2.1==(0:Int)) then
(f252 ((a.1.1.2.2.2.1,()),())).bind fun f=>
 some ((f.1.1,()),())
else
 some ((false,()),())
else
 some ((false,()),())
noncomputable def Rl:aU:=ba ap Tryz.f210 i210 PM [] f210
theorem aeZ:a4 Z 210 Rl:=bc ahH Tryz.func210 (by kernel_rfl) ar (fun y=>by kernel_rfl) fun a=>by kernel_rfl
def j1(n:Int):Bool:=(decide (97<=n)&&decide (n<=122))||(decide (48<=n)&&decide (n<=57))||n==46||n==95||n==45
theorem YK(a):f304 a=some ((j1 a.1.1,()),()):=by
 obtain⟨⟨n,u⟩,bF⟩:=a;simp only[f304,j1,ge_iff_le];generalize decide ((97:Int)<=n)=aT;generalize decide (n<=(122:Int))=aJ;generalize decide ((48:Int)<=n)=bR;generalize decide (n<=(57:Int))=jt;generalize(n==(46:Int))=wy;generalize(n==(95:Int))=I3;generalize(n==(45:Int))=I2;cases aT<;>cases aJ<;>cases bR<;>cases jt<;>cases wy<;>cases I3<;>cases I2<;>rfl
theorem Xn(a):f293 a=some ((j1 a.1.1,()),()):=by
 obtain⟨⟨n,u⟩,bF⟩:=a;simp only[f293,j1,ge_iff_le];generalize decide ((97:Int)<=n)=aT;generalize decide (n<=(122:Int))=aJ;generalize decide ((48:Int)<=n)=bR;generalize decide (n<=(57:Int))=jt;generalize(n==(46:Int))=wy;generalize(n==(95:Int))=I3;generalize(n==(45:Int))=I2;cases aT<;>cases aJ<;>cases bR<;>cases jt<;>cases wy<;>cases I3<;>cases I2<;>rfl
def j'(s:al):Bool:=s.all (fun b=>j1 b.toNat)&&within s.length 1 10&&!(s==[46])&&!(s==[46,46])
theorem _g(a)(M:cj a.1.1.length):f285 a=some ((j' a.1.1,()),()):=by
 obtain⟨⟨s,u⟩,bF⟩:=a;have M:s.length<=2097152:=M;have key:DS ((s,((0:Int),())),())=some (bif allI (fun _ b=>j1 b.toNat) 0 s then .inr ((s,()),()) else .inl ((false,()),())):=by
  refine fD yj s (fun i=>((s,((i:Int),())),())) _ _ _ (fun i x hx=>?_) ?_
  ·have hi:=cc hx;have hw:aF i:=by unfold aF;omega
   simp only[yj,ce hi,cond_true,b0,hx,Option.bind_some,YK,b' hw];cases j1 x.toNat<;>rfl
  ·simp only[yj,cU,cond_false]
 rw[gV] at key;simp only[f285,key,Option.bind_some,j'];cases List.all s (fun b=>j1 b.toNat) with
 |false=>rfl
 |true=>
  simp only[cond_true,rB,Option.bind_some,Bool.true_and];cases within (s.length:Int) 1 10<;>cases (s==[46])<;>rfl
theorem Z'(a)(M:cj a.1.1.length):f228 a=some ((j' a.1.1,()),()):=by
 obtain⟨⟨s,u⟩,bF⟩:=a;have M:s.length<=2097152:=M;have key:DU ((s,((s.length:Int),((0:Int),()))),())=some (bif allI (fun _ b=>j1 b.toNat) 0 s then .inr ((s,()),()) else .inl ((false,()),())):=by
  refine fD yk s (fun i=>((s,((s.length:Int),((i:Int),()))),())) _ _ _ (fun i x hx=>?_) ?_
  ·have hi:=cc hx;have hw:aF i:=by unfold aF;omega
   simp only[yk,ce hi,cond_true,b0,hx,Option.bind_some,Xn,b' hw];cases j1 x.toNat<;>rfl
  ·simp only[yk,cU,cond_false]
 rw[gV] at key;have vN:f267 ((s,()),())=some ((List.all s (fun b=>j1 b.toNat)&&!(s==([]:al)),()),()):=by
  simp only[f267,key,Option.bind_some];cases List.all s (fun b=>j1 b.toNat)<;>rfl
 have h1:decide ((1:Int)<=(s.length:Int))=!(s==([]:al)):=by
  cases s with
  |nil=>rfl
  |cons b r=>
   have:((b::r)==([]:al))=false:=rfl;simp only[List.length_cons];rw[this];simp only[Bool.not_false,decide_eq_true_eq];omega
 simp only[f228,vN,Option.bind_some,j',within,h1];cases decide ((s.length:Int)<=10)<;>cases (s==[46])<;>cases (s==[46,46])<;>cases List.all s (fun b=>j1 b.toNat)<;>cases (s==([]:al))<;>rfl
def it(s:al):Bool:=(cM 47 s).all j'&&decide ((cM 47 s).length<=5)
theorem Lw(a)(M:cj a.1.1.length):f252 a=some ((it a.1.1,()),()):=by
 obtain⟨⟨s,u⟩,bF⟩:=a;have M:s.length<=2097152:=M;have hlen:=wM 47 s;have ja:f89 ((s,((47:Int),((IntKind.i64.wrap ((s.length:Int)+(1:Int))),()))),())=some (((),()),(cM 47 s,())):=
  Mh 47 _ M rfl (b' (by unfold aF;omega))
 have key:DW (((),((0:Int),())),(cM 47 s,()))=some (bif allI (fun _ x=>j' x) 0 (cM 47 s) then .inr (((),()),(cM 47 s,())) else .inl ((false,()),())):=by
  refine fD ym (cM 47 s) (fun i=>(((),((i:Int),())),(cM 47 s,()))) _ _ _ (fun i x hx=>?_) ?_
  ·have hi:=cc hx;have hw:aF i:=by unfold aF;omega
   have vw:x.length<=s.length:=wL 47 s x (List.mem_of_getElem? hx);simp only[ym,ce hi,cond_true,lu hi,hx,Option.bind_some];rw[_g _ (show x.length<=2097152 by omega)]
   simp only[Option.bind_some,b' hw];cases j' x<;>rfl
  ·simp only[ym,cU,cond_false]
 rw[gV] at key;simp only[f252,ja,Option.bind_some,key,it];cases List.all (cM 47 s) j' with
 |false=>rfl
 |true=>have:=z6 (cM 47 s).length 5;simp only[cond_true,Bool.true_and];rw[<-this];rfl
theorem CE(a)(M:cj a.1.1.length):f193 a=some (((),()),((it a.1.1,()),())):=by
 obtain⟨⟨s,u⟩,bF⟩:=a;have M:s.length<=2097152:=M;have Gr:Nat.ble s.length j4=true:=Nat.ble_eq_true_of_le (by unfold j4;omega)
 have fold:∀(r:List al) (k:Nat),(∀x,x∈r->x.length<=s.length)->k<=5->
   hQ rm t' r (((),((),())),((false,()),(((k:Int),()),())))=
    some (bif r.all j'&&decide (k+r.length<=5) then(.inl (((),()),((false,()),()))) else(.inr (((),()),((false,()),())))):=by
  intro r;induction r with
  |nil=>
   intro k _ ag;have:decide (k+0<=5)=true:=by simpa using ag
   simp only[hQ,t',List.all_nil,List.length_nil,this,Bool.and_self,cond_true]
  |cons x r ih=>
   intro k hr ag;have hx:=hr x List.mem_cons_self;have hT:=Z' ((x,()),()) (show x.length<=2097152 by omega)
   have hw:=b' (i:=k) (by unfold aF;omega)
   have vO:decide (((k+1:Nat):Int)>5)=!decide (k+1<=5):=by by_cases h:k+1<=5<;>simp only[h,decide_true,decide_false,Bool.not_true,Bool.not_false,decide_eq_true_eq,decide_eq_false_iff_not]<;>omega
   have step:rm x (((),((),())),((false,()),(((k:Int),()),())))=
     some (bif j' x&&decide (k+1<=5) then .inl (((),((),())),((false,()),((((k+1:Nat):Int),()),()))) else .inr (.inr (((),()),((false,()),())))):=by
    simp only[rm,C6,hw,vO,Bool.not_not,hT,Option.bind_some];cases decide (k+1<=5) with
    |false=>cases j' x<;>rfl
    |true=>cases j' x<;>rfl
   rw[hQ,step,List.all_cons];cases hn:j' x with
   |false=>rfl
   |true=>
    simp only[Bool.true_and];cases ay:decide (k+1<=5) with
    |false=>
     have:decide (k+(x::r).length<=5)=false:=by simp only[decide_eq_false_iff_not,List.length_cons] at ay ⊢;omega
     rw[this];simp
    |true=>
     simp only[cond_true];rw[ih (k+1) (fun y ak=>hr y (List.mem_cons_of_mem _ ak)) (by simpa using ay)]
     have e1:k+1+r.length=k+(x::r).length:=by simp only[List.length_cons];omega
     rw[e1]
 have key:=fold (cM (47:UInt8) s) 0 (fun x hx=>wL 47 s x hx) (Nat.zero_le _)
 have F':hQ rm t' (cM (47:UInt8) s) (((),((),())),((false,()),(((0:Int),()),())))=some (bif it s then(.inl (((),()),((false,()),()))) else(.inr (((),()),((false,()),())))):=by
  refine key.trans ?_
  unfold it;rw[Nat.zero_add]
 simp only[f193,Gr,cond_true,F',Option.bind_some];cases it s<;>rfl
def uh(s:al):Bool:=s.all (fun b=>(b.toNat:Int)==10||within b.toNat 32 126)&&decide (s.length<=80)
theorem Yt(b:UInt8):IntKind.i64.wrap (b.toNat:Int)=(b.toNat:Int):=by
 have:=b.toNat_lt;rw[ej (by omega) (by omega)]
theorem _d(a)(M:cj a.1.1.length):f253 a=some ((uh a.1.1,()),()):=by
 obtain⟨⟨s,u⟩,bF⟩:=a;have M:s.length<=2097152:=M;have key:DV ((s,((0:Int),())),())=some (bif allI (fun _ b=>(b.toNat:Int)==10||within b.toNat 32 126) 0 s then .inr ((s,()),()) else .inl ((false,()),())):=by
  refine fD yl s (fun i=>((s,((i:Int),())),())) _ _ _ (fun i x hx=>?_) ?_
  ·have hi:=cc hx;have hw:aF i:=by unfold aF;omega
   have hne:((x.toNat:Int) !=10)=!((x.toNat:Int)==10):=rfl;simp only[yl,ce hi,cond_true,C5,b0,hx,Option.bind_some,hne,rB,Yt];cases ((x.toNat:Int)==10)<;>cases within (x.toNat:Int) 32 126<;>simp only[Bool.not_true,Bool.not_false,cond_true,cond_false,Option.bind_some,b' hw,Bool.or_true,Bool.true_or,Bool.or_false]
  ·simp only[yl,cU,cond_false]
 rw[gV] at key;simp only[f253,key,Option.bind_some,uh];cases List.all s (fun b=>(b.toNat:Int)==10||within b.toNat 32 126) with
 |false=>rfl
 |true=>have:=z6 s.length 80;simp only[cond_true,Bool.true_and];rw[<-this];rfl
theorem WA(a):f229 a=some ((within a.1.1 32 126,()),()):=by
 simp only[f229,within,ge_iff_le];cases decide ((32:Int)<=a.1.1)<;>rfl
theorem Xp(a)(M:cj a.1.1.length):f194 a=some ((uh a.1.1,()),()):=by
 obtain⟨⟨s,u⟩,bF⟩:=a;have M:s.length<=2097152:=M;have key:D0 ((s,((s.length:Int),((0:Int),()))),())=some (bif allI (fun _ b=>(b.toNat:Int)==10||within b.toNat 32 126) 0 s then .inr ((),()) else .inl ((false,()),())):=by
  refine fD yq s (fun i=>((s,((s.length:Int),((i:Int),()))),())) _ _ _ (fun i x hx=>?_) ?_
  ·have hi:=cc hx;have hw:aF i:=by unfold aF;omega
   have hne:((x.toNat:Int) !=10)=!((x.toNat:Int)==10):=rfl;simp only[yq,ce hi,cond_true,Cr,b0,hx,Option.bind_some,hne,WA];cases ((x.toNat:Int)==10)<;>cases within (x.toNat:Int) 32 126<;>simp only[Bool.not_true,Bool.not_false,cond_true,cond_false,Option.bind_some,b' hw,Bool.or_true,Bool.true_or,Bool.or_false]
  ·simp only[yq,cU,cond_false]
 rw[gV] at key;have akB:decide ((s.length:Int)>80)=!decide (s.length<=80):=by by_cases h:s.length<=80<;>simp only[h,decide_true,decide_false,Bool.not_true,Bool.not_false,decide_eq_true_eq,decide_eq_false_iff_not]<;>omega
 simp only[f194,key,Option.bind_some,uh,akB];cases decide (s.length<=80)<;>cases List.all s (fun b=>(b.toNat:Int)==10||within b.toNat 32 126)<;>rfl
def oP(e:a5):Bool:=it e.path&&(bif e.kind==1 then within e.mode 0 7&&e.text==[] else bif e.kind==2 then within e.mode 0 7&&uh e.text else bif e.kind==3 then e.mode==0&&it e.text else false)
abbrev m6(e:a5):Prop:=cj e.path.length/\cj e.text.length
theorem YJ(a)(h1:cj a.1.1.1.length)(h2:cj a.1.1.2.2.2.1.length):f210 a=some ((oP ⟨a.1.1.1,a.1.1.2.1,a.1.1.2.2.1,a.1.1.2.2.2.1⟩,()),()):=by
 obtain⟨⟨⟨p,k,m,t,u⟩,bF⟩,iH⟩:=a;have e1:=Lw ((p,()),()) h1;have e2:=Lw ((t,()),()) h2;have bK:=_d ((t,()),()) h2;simp only[f210,e1,e2,bK,rB,Option.bind_some,oP];cases it p with
 |false=>rfl
 |true=>cases (k==1)<;>cases (k==2)<;>cases (k==3)<;>cases within m 0 7<;>cases (m==0)<;>rfl
theorem YP(a)(h1:cj a.1.1.1.length)(h2:cj a.1.1.2.2.2.1.length):f136 a=some ((oP ⟨a.1.1.1,a.1.1.2.1,a.1.1.2.2.1,a.1.1.2.2.2.1⟩,()),()):=by
 obtain⟨⟨⟨p,k,m,t,u⟩,bF⟩,iH⟩:=a;have e1:=CE ((p,()),()) h1;have e2:=CE ((t,()),()) h2;have bK:=Xp ((t,()),()) h2;have hm:within m 0 7=true\/(m==0)=false:=by
  cases h:(m==0) with
  |false=>exact .inr rfl
  |true=>left;rw[show m=(0:Int) from eq_of_beq h];rfl
 simp only[f136,Eh,e1,e2,bK,Option.bind_some,oP,pi,pj,Bool.not_not];unfold within at hm ⊢;cases it p with
 |false=>rfl
 |true=>
  cases h0:decide ((0:Int)<=m)<;>cases hJ:decide (m<=7)<;>rw[h0,hJ] at hm<;>cases TK:(m==0)<;>rw[TK] at hm<;>
   first|(simp at hm;done)|(simp only[Bool.not_true,Bool.not_false,cond_true,cond_false,Option.bind_some,TK,e2,bK,Bool.and_true,Bool.and_false,Bool.true_and,Bool.false_and];cases (k==1)<;>cases (k==2)<;>cases (k==3)<;>rfl)
abbrev i175:Shape:=⟨[bx 0],[],6⟩
abbrev PT:Shape:=⟨[aY 2],[],6⟩
noncomputable def f175(a:i175.H):Option PT.H:=
 some (((!(a.1.1==a.1.1)),()),())
noncomputable def Ru:aU:=ba ap Tryz.f175 i175 PT [] f175
theorem ae8:a4 Z 175 Ru:=bc g0 Tryz.func175 (by kernel_rfl) ar (fun y=>by kernel_rfl) fun a=>by kernel_rfl
noncomputable abbrev ahv:bq:=[(175,Ru)]
theorem ahR:a9 Z (bm ap ahv):=bz ⟨ae8,⟨⟩⟩
abbrev i110:Shape:=⟨[bx 0,bx 1],[],20⟩
abbrev Ql:Shape:=⟨[ae 4],[],20⟩
noncomputable def f110(a:i110.H):Option Ql.H:=
(f175 ((a.1.1,()),())).bind fun b=>
(f175 ((a.1.2.1,()),())).bind fun c=>
 bif b.1.1 then
 bif c.1.1 then
 some (((0:Int),()),())
else
 some ((((-1):Int),()),())
else
 bif c.1.1 then
 some (((1:Int),()),())
else
 bif(Op.bytesLess a.1.1 a.1.2.1) then
 some ((((-1):Int),()),())
else
 bif(!(Op.bytesLess a.1.1 a.1.2.1||a.1.1==a.1.2.1)) then
 some (((1:Int),()),())
else
 some (((0:Int),()),())
noncomputable def GW:aU:=ba ap Tryz.f110 i110 Ql [] f110
theorem Pk:a4 Z 110 GW:=bc ahR Tryz.func110 (by kernel_rfl) ar (fun y=>by kernel_rfl) fun a=>by kernel_rfl
noncomputable abbrev ahi:bq:=[(110,GW)]
theorem ahM:a9 Z (bm ap ahi):=bz ⟨Pk,⟨⟩⟩
abbrev i139:Shape:=⟨[cg 0 [a6,cO,cO,a6],cg 1 [a6,cO,cO,a6]],[],10⟩
abbrev P3:Shape:=⟨[ae 4],[],10⟩
noncomputable def f139(a:i139.H):Option P3.H:=
(f110 ((a.1.1.1,a.1.2.1.1,()),())).bind fun b=>
 some ((b.1.1,()),())
noncomputable def Rz:aU:=ba ap Tryz.f139 i139 P3 [] f139
theorem afd:a4 Z 139 Rz:=bc ahM Tryz.func139 (by kernel_rfl) ar (fun y=>by kernel_rfl) fun a=>by kernel_rfl
noncomputable abbrev adq:bq:=[(139,Rz)]
theorem Oc:a9 Z (bm ap adq):=bz ⟨afd,⟨⟩⟩
abbrev wX:Shape:=⟨[aV 0 .entry,(2,.ai (.fn 139 [])),bf 4 4 0,ae 6,aY 7,ae 8,ae 9,ae 10],[be 4 [a6,cO,cO,a6]],49⟩
abbrev B6:List bg:=[(.exit 0,⟨[aV 0 .entry,(2,.ai (.fn 139 [])),bf 4 4 0,ae 6,aY 7,ae 8,ae 9],[be 4 [a6,cO,cO,a6]],49⟩)]
noncomputable def w9(y:wX.H):cy wX B6:=
 bif(decide (y.1.2.2.2.2.2.2.1<y.1.2.2.2.2.2.2.2.1)) then
(nK .u64 (IntKind.u64.wrap (IntKind.i64.wrap (y.1.2.2.2.2.2.2.1+y.1.2.2.2.2.2.2.2.1))) (1:Int)).bind fun a=>
(bl y.1.1 (IntKind.i64.wrap a)).bind fun b=>
(f139 (((b.path,b.kind,b.mode,b.text,()),(y.2.1.1,y.2.1.2.1,y.2.1.2.2.1,y.2.1.2.2.2.1,()),()),())).bind fun c=>
 bif(decide (c.1.1<(0:Int))) then
 some (.inl ((y.1.1,(),(),y.1.2.2.2.1,y.1.2.2.2.2.1,y.1.2.2.2.2.2.1,(IntKind.i64.wrap ((IntKind.i64.wrap a)+(1:Int))),y.1.2.2.2.2.2.2.2.1,()),(y.2.1.1,y.2.1.2.1,y.2.1.2.2.1,y.2.1.2.2.2.1,()),()))
else
 some (.inl ((y.1.1,(),(),y.1.2.2.2.1,y.1.2.2.2.2.1,y.1.2.2.2.2.2.1,y.1.2.2.2.2.2.2.1,(IntKind.i64.wrap a),()),(y.2.1.1,y.2.1.2.1,y.2.1.2.2.1,y.2.1.2.2.2.1,()),()))
else
 some (.inr ((y.1.1,(),(),y.1.2.2.2.1,y.1.2.2.2.2.1,y.1.2.2.2.2.2.1,y.1.2.2.2.2.2.2.1,()),(y.2.1.1,y.2.1.2.1,y.2.1.2.2.1,y.2.1.2.2.2.1,()),()))
noncomputable def w5:wX.H->Option (aQ B6):=bO w9
theorem Zm:bw Z (aI (codeOf Tryz.f138) 1 60) (bJ wX B6 w5):=cD Oc (by kernel_rfl) ar fun y=>by kernel_rfl
abbrev NK:Shape:=⟨[aV 0 .entry,cg 1 [a6,cO,cO,a6],(2,.ai (.fn 139 []))],[],49⟩
abbrev Ns:Shape:=⟨[ae 6,aY 7],[],49⟩
noncomputable def zs(a:NK.H):Option Ns.H:=
(w5 ((a.1.1,(),(),(0:Int),false,(a.1.1.length:Int),(0:Int),(a.1.1.length:Int),()),(a.1.2.1.1,a.1.2.1.2.1,a.1.2.1.2.2.1,a.1.2.1.2.2.2.1,()),())).bind fun b=>
 bif(decide (b.1.2.2.2.2.2.2.1<b.1.2.2.2.2.2.1)) then
(bl b.1.1 b.1.2.2.2.2.2.2.1).bind fun c=>
(f139 (((c.path,c.kind,c.mode,c.text,()),(b.2.1.1,b.2.1.2.1,b.2.1.2.2.1,b.2.1.2.2.2.1,()),()),())).bind fun d=>
 some ((b.1.2.2.2.2.2.2.1,(d.1.1==(0:Int)),()),())
else
 some ((b.1.2.2.2.2.2.2.1,false,()),())
noncomputable def N7:aU:=ba ap Tryz.f138 NK Ns [] zs
theorem ach:a4 Z 138 N7:=bc Oc Tryz.func138 (by kernel_rfl) (bN Zm ar) (fun y=>by kernel_rfl) fun a=>by kernel_rfl
abbrev xY:Shape:=⟨[aV 0 .entry,bx 1,ae 4,aY 5,ae 6],[],36⟩
abbrev re:List bg:=[(.exit 0,⟨[aV 0 .entry,bx 1,ae 4,aY 5,ae 6],[],36⟩)]
noncomputable def yw(y:xY.H):cy xY re:=
 bif(decide (y.1.2.2.2.2.1<(y.1.1.length:Int))) then
(bl y.1.1 y.1.2.2.2.2.1).bind fun a=>
 bif(Op.bytesLess a.path y.1.2.1) then
 some (.inl ((y.1.1,y.1.2.1,y.1.2.2.1,y.1.2.2.2.1,(IntKind.i64.wrap (y.1.2.2.2.2.1+(1:Int))),()),()))
else
 some (.inr ((y.1.1,y.1.2.1,y.1.2.2.1,y.1.2.2.2.1,y.1.2.2.2.2.1,()),()))
else
 some (.inr ((y.1.1,y.1.2.1,y.1.2.2.1,y.1.2.2.2.1,y.1.2.2.2.2.1,()),()))
noncomputable def D5:xY.H->Option (aQ re):=bO yw
theorem abk:bw Z (aI (codeOf Tryz.f157) 1 28) (bJ xY re D5):=cD g0 (by kernel_rfl) ar fun y=>by kernel_rfl
abbrev i157:Shape:=⟨[aV 0 .entry,bx 1],[],36⟩
abbrev PY:Shape:=⟨[ae 4,aY 5],[],36⟩
noncomputable def f157(a:i157.H):Option PY.H:=
(D5 ((a.1.1,a.1.2.1,(0:Int),false,(0:Int),()),())).bind fun b=>
 bif(decide (b.1.2.2.2.2.1<(b.1.1.length:Int))) then
(bl b.1.1 b.1.2.2.2.2.1).bind fun c=>
 some ((b.1.2.2.2.2.1,(c.path==b.1.2.1),()),())
else
 some ((b.1.2.2.2.2.1,false,()),())
noncomputable def GN:aU:=ba ap Tryz.f157 i157 PY [] f157
theorem Pb:a4 Z 157 GN:=bc g0 Tryz.func157 (by kernel_rfl) (bN abk ar) (fun y=>by kernel_rfl) fun a=>by kernel_rfl
abbrev xI:Shape:=⟨[bx 0,(1,.ai (.d (.int .u8))),ae 5],[],19⟩
abbrev Dl:List bg:=[(.ret,⟨[ae 4],[],19⟩),(.exit 0,⟨[],[],19⟩)]
noncomputable def Ed(y:xI.H):cy xI Dl:=
 bif(decide (y.1.2.2.1>=(0:Int))) then
(bl y.1.1 y.1.2.2.1).bind fun a=>
 bif((a.toNat:Int)==y.1.2.1) then
 some (.inr (.inl ((y.1.2.2.1,()),())))
else
 some (.inl ((y.1.1,y.1.2.1,(IntKind.i64.wrap (y.1.2.2.1-(1:Int))),()),()))
else
 some (.inr (.inr ((),())))
noncomputable def DT:xI.H->Option (aQ Dl):=bO Ed
theorem aa3:bw Z (aI (codeOf Tryz.f268) 1 26) (bJ xI Dl DT):=cD g0 (by kernel_rfl) ar fun y=>by kernel_rfl
abbrev i268:Shape:=⟨[bx 0,(1,.ai (.d (.int .u8)))],[],19⟩
abbrev Px:Shape:=⟨[ae 4],[],19⟩
noncomputable def f268(a:i268.H):Option Px.H:=
(DT ((a.1.1,a.1.2.1,(IntKind.i64.wrap ((a.1.1.length:Int)-(1:Int))),()),())).bind fun b=>
(match b with
|.inl c=>
 some ((c.1.1,()),())
|.inr d=>
 some ((((-1):Int),()),()))
noncomputable def Q7:aU:=ba ap Tryz.f268 i268 Px [] f268
theorem aeJ:a4 Z 268 Q7:=bc g0 Tryz.func268 (by kernel_rfl) (bN aa3 ar) (fun y=>by kernel_rfl) fun a=>by kernel_rfl
noncomputable abbrev ag0:bq:=[(268,Q7)]
theorem ahD:a9 Z (bm ap ag0):=bz ⟨aeJ,⟨⟩⟩
abbrev i230:Shape:=⟨[bx 0,(1,.ai (.d (.int .u8)))],[],8⟩
abbrev PF:Shape:=⟨[ae 4],[],8⟩
noncomputable def f230(a:i230.H):Option PF.H:=
(f268 ((a.1.1,a.1.2.1,()),())).bind fun b=>
 some ((b.1.1,()),())
noncomputable def Rd:aU:=ba ap Tryz.f230 i230 PF [] f230
theorem aeR:a4 Z 230 Rd:=bc ahD Tryz.func230 (by kernel_rfl) ar (fun y=>by kernel_rfl) fun a=>by kernel_rfl
noncomputable abbrev ag6:bq:=[(193,GH),(230,Rd)]
theorem ahI:a9 Z (bm ap ag6):=bz ⟨O7,aeR,⟨⟩⟩
abbrev i195:Shape:=⟨[bx 0],[],11⟩
abbrev PN:Shape:=⟨[bx 2],[],11⟩
noncomputable def f195(a:i195.H):Option PN.H:=
(f193 ((a.1.1,()),())).bind fun b=>
 bif(!b.2.1.1) then
 some ((([]:al),()),())
else
(f230 ((a.1.1,(47:Int),()),())).bind fun c=>
(dy a.1.1 (0:Int) (gE c.1.1 (0:Int))).bind fun d=>
 some ((d,()),())
noncomputable def Rm:aU:=ba ap Tryz.f195 i195 PN [] f195
theorem ae0:a4 Z 195 Rm:=bc ahI Tryz.func195 (by kernel_rfl) ar (fun y=>by kernel_rfl) fun a=>by kernel_rfl
noncomputable abbrev ag4:bq:=[(157,GN)]
theorem ahG:a9 Z (bm ap ag4):=bz ⟨Pb,⟨⟩⟩
abbrev i211:Shape:=⟨[aV 0 .entry,bx 1],[],26⟩
abbrev PL:Shape:=⟨[aY 4],[],26⟩
noncomputable def f211(a:i211.H):Option PL.H:=
(f157 ((a.1.1,a.1.2.1,()),())).bind fun b=>
 bif(!(a.1.2.1==([]:al))) then
 bif b.1.2.1 then
(bl a.1.1 b.1.1).bind fun c=>
 some (((c.kind==(1:Int)),()),())
else
 some ((false,()),())
else
 some ((true,()),())
noncomputable def Rk:aU:=ba ap Tryz.f211 i211 PL [] f211
theorem aeY:a4 Z 211 Rk:=bc ahG Tryz.func211 (by kernel_rfl) ar (fun y=>by kernel_rfl) fun a=>by kernel_rfl
abbrev xO:Shape:=⟨[bx 0,ae 3],[],18⟩
abbrev Dq:List bg:=[(.ret,⟨[bx 2],[],18⟩),(.exit 0,⟨[],[],18⟩)]
noncomputable def Ef(y:xO.H):cy xO Dq:=
 bif(decide (y.1.2.1>=(0:Int))) then
(bl y.1.1 y.1.2.1).bind fun a=>
 bif((a.toNat:Int)==(47:Int)) then
(dy y.1.1 (0:Int) y.1.2.1).bind fun b=>
 some (.inr (.inl ((b,()),())))
else
 some (.inl ((y.1.1,(IntKind.i64.wrap (y.1.2.1-(1:Int))),()),()))
else
 some (.inr (.inr ((),())))
noncomputable def DZ:xO.H->Option (aQ Dq):=bO Ef
theorem aba:bw Z (aI (codeOf Tryz.f212) 1 26) (bJ xO Dq DZ):=cD g0 (by kernel_rfl) ar fun y=>by kernel_rfl
abbrev i212:Shape:=⟨[bx 0],[],18⟩
abbrev PK:Shape:=⟨[bx 2],[],18⟩
noncomputable def f212(a:i212.H):Option PK.H:=
(DZ ((a.1.1,(IntKind.i64.wrap ((a.1.1.length:Int)-(1:Int))),()),())).bind fun b=>
(match b with
|.inl c=>
 some ((c.1.1,()),())
|.inr d=>
 some ((([]:al),()),()))
noncomputable def Rj:aU:=ba ap Tryz.f212 i212 PK [] f212
theorem aeX:a4 Z 212 Rj:=bc g0 Tryz.func212 (by kernel_rfl) (bN aba ar) (fun y=>by kernel_rfl) fun a=>by kernel_rfl
noncomputable abbrev alk:bq:=[(138,N7)]
theorem al2:a9 Z (bm ap alk):=bz ⟨ach,⟨⟩⟩
abbrev i87:Shape:=⟨[aV 0 .entry,bx 1],[],12⟩
abbrev Su:Shape:=⟨[ae 4,aY 5],[],12⟩
noncomputable def f87(a:i87.H):Option Su.H:=
(zs ((a.1.1,(a.1.2.1,(0:Int),(0:Int),([]:al),()),(),()),())).bind fun b=>
 some ((b.1.1,b.1.2.1,()),())
noncomputable def Io:aU:=ba ap Tryz.f87 i87 Su [] f87
theorem R8:a4 Z 87 Io:=bc al2 Tryz.func87 (by kernel_rfl) ar (fun y=>by kernel_rfl) fun a=>by kernel_rfl
theorem oK:∀a:al,Op.bytesLess a a=false:=by
 intro a;induction a with
 |nil=>rfl
 |cons b r ih=>simp[Op.bytesLess,ih]
theorem rb:∀a b c:al,Op.bytesLess a b=true->Op.bytesLess b c=true->Op.bytesLess a c=true:=by
 intro a;induction a with
 |nil=>intro b c h1 h2;cases c with
  |nil=>cases b<;>simp[Op.bytesLess] at h2
  |cons z c=>rfl
 |cons x a ih=>
  intro b c h1 h2;cases b with
  |nil=>simp[Op.bytesLess] at h1
  |cons y b=>
   cases c with
   |nil=>simp[Op.bytesLess] at h2
   |cons z c=>
    simp only[Op.bytesLess,Bool.or_eq_true,decide_eq_true_eq,Bool.and_eq_true,beq_iff_eq] at h1 h2 ⊢;rcases h1 with h1|⟨rfl,h1⟩
    ·rcases h2 with h2|⟨rfl,h2⟩
     ·exact .inl (UInt8.lt_trans h1 h2)
     ·exact .inl h1
    ·rcases h2 with h2|⟨rfl,h2⟩
     ·exact .inl h2
     ·exact .inr ⟨rfl,ih b c h1 h2⟩
theorem adg:∀a b:al,Op.bytesLess a b=false->(a==b)=false->Op.bytesLess b a=true:=by
 intro a;induction a with
 |nil=>intro b h1 h2;cases b with
  |nil=>simp at h2
  |cons y b=>simp[Op.bytesLess] at h1
 |cons x a ih=>
  intro b h1 h2;cases b with
  |nil=>rfl
  |cons y b=>
   simp only[Op.bytesLess,Bool.or_eq_false_iff,decide_eq_false_iff_not,Bool.and_eq_false_iff,beq_eq_false_iff_ne,ne_eq] at h1;simp only[Op.bytesLess,Bool.or_eq_true,decide_eq_true_eq,Bool.and_eq_true,beq_iff_eq];by_cases Hz:x=y
   ·subst Hz;refine .inr ⟨rfl,ih b ?_ ?_⟩
    ·rcases h1.2 with h|h
     ·exact absurd rfl h
     ·exact h
    ·cases h:(a==b) with
     |false=>rfl
     |true=>rw[eq_of_beq h] at h2;simp at h2
   ·exact .inl (by
     have:=h1.1;rcases UInt8.lt_or_lt_of_ne (fun h=>Hz h) with h|h
     ·exact absurd h this
     ·exact h)
theorem ab3{a b:al}(h:Op.bytesLess a b=true):Op.bytesLess b a=false:=by
 cases h2:Op.bytesLess b a with
 |false=>rfl
 |true=>have:=rb a b a h h2;rw[oK] at this;cases this
theorem OY{a b:al}(h:Op.bytesLess a b=true):(a==b)=false:=by
 cases h2:(a==b) with
 |false=>rfl
 |true=>rw[eq_of_beq h2,oK] at h;cases h
theorem ab2:∀(s:al) (i:Nat),i<s.length->Op.bytesLess (s.take i) s=true:=by
 intro s;induction s with
 |nil=>intro i h;simp at h
 |cons b r ih=>
  intro i h;cases i with
  |zero=>rfl
  |succ i=>simp only[List.take_succ_cons,Op.bytesLess];simp[ih i (by simpa using h)]
def kO(c:UInt8)(s:al):Nat->Option Nat
 |0=>none
 |n+1=>match s[n]? with
  |some b=>bif(b.toNat:Int)==(c.toNat:Int) then some n else kO c s n
  |none=>none
theorem JD{c:UInt8}{s:al}:∀{n i:Nat},kO c s n=some i->i<n/\i<s.length:=by
 intro n;induction n with
 |zero=>intro i h;cases h
 |succ n ih=>
  intro i h;simp only[kO] at h;split at h
  ·rename_i b hb;cases hc:((b.toNat:Int)==(c.toNat:Int)) with
   |true=>rw[hc] at h;cases h;exact⟨Nat.lt_succ_self _,cc hb⟩
   |false=>rw[hc] at h;have:=ih h;omega
  ·cases h
def iG(s:al):al:=match kO 47 s s.length with
 |some i=>s.take i
 |none=>[]
theorem _o{s:al}(h:(iG s==[])=false):Op.bytesLess (iG s) s=true:=by
 unfold iG at h ⊢;split
 ·rename_i i hi;exact ab2 s i (JD hi).2
 ·rename_i hi;rw[hi] at h;cases h
theorem acp(a)(M:cj a.1.1.length):f212 a=some ((iG a.1.1,()),()):=by
 obtain⟨⟨s,u⟩,bF⟩:=a;have M:s.length<=2097152:=M;have key:∀n,n<=s.length->DZ ((s,((n:Int)-1,())),())=some (match kO 47 s n with|some i=>.inl ((s.take i,()),())|none=>.inr ((),())):=by
  intro n;induction n with
  |zero=>intro _;exact eB (by rfl)
  |succ n ih=>
   intro hn;have e:((n+1:Nat):Int)-1=(n:Int):=by omega
   obtain⟨b,hb⟩:∃b,s[n]? =some b:=⟨s[n],List.getElem?_eq_getElem hn⟩;have h0:decide ((n:Int)>=0)=true:=by simp
   rw[e];simp only[kO,hb];cases hc:((b.toNat:Int)==((47:UInt8).toNat:Int)) with
   |true=>
    refine eB ?_
    simp only[Ef,h0,cond_true,b0,hb,Option.bind_some];rw[show((b.toNat:Int)==47)=true from hc,pG (by omega)]
    rfl
   |false=>
    refine(hk ?_).trans (ih (by omega))
    simp only[Ef,h0,cond_true,b0,hb,Option.bind_some];rw[show((b.toNat:Int)==47)=false from hc,ej (by omega) (by omega)]
    rfl
 have hw:IntKind.i64.wrap ((s.length:Int)-1)=(s.length:Int)-1:=ej (by omega) (by omega)
 simp only[f212,hw,key s.length (Nat.le_refl _),Option.bind_some,iG];cases kO 47 s s.length<;>rfl
theorem WJ(a)(M:cj a.1.1.length)(akC:a.1.2.1=47):f268 a=some (((match kO 47 a.1.1 a.1.1.length with|some i=>(i:Int)|none=>-1),()),()):=by
 obtain⟨⟨s,c,u⟩,bF⟩:=a;obtain rfl:c=47:=akC;have M:s.length<=2097152:=M;have key:∀n,n<=s.length->DT ((s,((47:Int),((n:Int)-1,()))),())=some (match kO 47 s n with|some i=>.inl (((i:Int),()),())|none=>.inr ((),())):=by
  intro n;induction n with
  |zero=>intro _;exact eB (by rfl)
  |succ n ih=>
   intro hn;have e:((n+1:Nat):Int)-1=(n:Int):=by omega
   obtain⟨b,hb⟩:∃b,s[n]? =some b:=⟨s[n],List.getElem?_eq_getElem hn⟩;have h0:decide ((n:Int)>=0)=true:=by simp
   rw[e];simp only[kO,hb];cases hc:((b.toNat:Int)==((47:UInt8).toNat:Int)) with
   |true=>
    refine eB ?_
    simp only[Ed,h0,cond_true,b0,hb,Option.bind_some];rw[show((b.toNat:Int)==47)=true from hc]
    rfl
   |false=>
    refine(hk ?_).trans (ih (by omega))
    simp only[Ed,h0,cond_true,b0,hb,Option.bind_some];rw[show((b.toNat:Int)==47)=false from hc,ej (by omega) (by omega)]
    rfl
 have hw:IntKind.i64.wrap ((s.length:Int)-1)=(s.length:Int)-1:=ej (by omega) (by omega)
 simp only[f268,hw,key s.length (Nat.le_refl _),Option.bind_some];cases kO 47 s s.length<;>rfl
theorem _k(a)(M:cj a.1.1.length):f195 a=some (((bif it a.1.1 then iG a.1.1 else []),()),()):=by
 obtain⟨⟨s,u⟩,bF⟩:=a;have M:s.length<=2097152:=M;have e1:=CE ((s,()),()) M;have e2:=WJ ((s,((47:Int),())),()) M rfl;simp only[f195,e1,Option.bind_some,f230,e2];cases it s with
 |false=>rfl
 |true=>
  simp only[Bool.not_true,cond_false,cond_true];unfold iG;cases hl:kO 47 s s.length with
  |none=>
   have:gE (-1) 0=0:=by decide
   simp only[this];have:=pG (xs:=s) (b:=0) (Nat.zero_le _);have this:dy s 0 0=some (s.take 0):=this;rw[this];rfl
  |some i=>
   have hi:=(JD hl).2;have:gE (i:Int) 0=(i:Int):=by unfold gE;rw[if_neg (by omega)]
   simp only[this];rw[pG (by omega)];rfl
def bS(t:List a5)(p:al):Nat:=(t.takeWhile fun e=>Op.bytesLess e.path p).length
def iy(t:List a5)(p:al):Bool:=match t[bS t p]? with
 |some e=>e.path==p
 |none=>false
def j7(t:List a5)(p:al):Bool:=p==[]||match t[bS t p]? with
 |some e=>e.path==p&&e.kind==1
 |none=>false
theorem rh(t:List a5)(p:al):bS t p<=t.length:=(List.takeWhile_prefix _).length_le
theorem M7(a)(M:cj a.1.1.length):f157 a=some (((bS a.1.1 a.1.2.1:Int),(iy a.1.1 a.1.2.1,())),()):=by
 obtain⟨⟨t,p,u⟩,bF⟩:=a;have M:t.length<=2097152:=M;have key:D5 ((t,(p,((0:Int),(false,((0:Int),()))))),())=_:=Cg yw t (fun i (_:Unit)=>((t,(p,((0:Int),(false,((i:Int),()))))),()))
  (fun i e _=>some (bif Op.bytesLess e.path p then .inl () else .inr ((((t,(p,((0:Int),(false,((i:Int),()))))),())):aQ re))) (fun _=>((t,(p,((0:Int),(false,((t.length:Int),()))))),())) (fun i e s he=>?_) (fun s=>?_) ()
 ·have fold:∀(r:List a5) (k:Nat),k+r.length=t.length->eD (fun i (e:a5) (_:Unit)=>some (bif Op.bytesLess e.path p then .inl () else .inr ((((t,(p,((0:Int),(false,((i:Int),()))))),())):aQ re))) (fun _=>(((t,(p,((0:Int),(false,((t.length:Int),()))))),()):aQ re)) k r ()=
    some ((t,(p,((0:Int),(false,(((k+(r.takeWhile fun e=>Op.bytesLess e.path p).length:Nat):Int),()))))),()):=by
   intro r;induction r with
   |nil=>intro k ag;simp only[eD,List.takeWhile_nil,List.length_nil,Nat.add_zero] at ag ⊢;rw[ag]
   |cons e r ih=>
    intro k ag;simp only[eD,List.takeWhile_cons];cases hl:Op.bytesLess e.path p with
    |false=>rfl
    |true=>
     simp only[cond_true,if_true,List.length_cons];rw[ih (k+1) (by simp only[List.length_cons] at ag;omega)]
     have:k+1+(r.takeWhile fun e=>Op.bytesLess e.path p).length=k+((r.takeWhile fun e=>Op.bytesLess e.path p).length+1):=by omega
     rw[this]
  rw[fold t 0 (Nat.zero_add _),Nat.zero_add] at key;have ag:(t.takeWhile fun e=>Op.bytesLess e.path p).length=bS t p:=rfl
  rw[ag] at key;simp only[f157,key,Option.bind_some,iy,b0];cases aE:t[bS t p]? with
  |none=>
   have:=List.getElem?_eq_none_iff.1 aE;have:decide ((bS t p:Int)<(t.length:Int))=false:=by simp only[decide_eq_false_iff_not];omega
   rw[this];rfl
  |some e=>rw[ce (cc aE)];rfl
 ·have hi:=cc he;have hw:aF i:=by unfold aF;omega
  simp only[yw,ce hi,cond_true,b0,he,Option.bind_some,b' hw];cases Op.bytesLess e.path p<;>rfl
 ·simp only[yw,cU,cond_false]
theorem aaK(a)(M:cj a.1.1.length):f211 a=some ((j7 a.1.1 a.1.2.1,()),()):=by
 obtain⟨⟨t,p,u⟩,bF⟩:=a;have e1:=M7 ((t,(p,())),()) M;simp only[f211,e1,Option.bind_some,j7,iy,b0];cases (p==[]) with
 |true=>rfl
 |false=>
  cases aE:t[bS t p]? with
  |none=>rfl
  |some e=>simp only[Bool.not_false,cond_true,Option.bind_some,Bool.false_or];cases (e.path==p)<;>rfl
def eW(t:List a5):Prop:=t.Pairwise fun a b=>Op.bytesLess a.path b.path=true
theorem eW.take{t:List a5}(h:eW t)(i:Nat):eW (t.take i):=List.Pairwise.sublist (List.take_sublist i t) h
theorem jy:∀{t:List a5} {p:al},eW t->∀(h:Nat) (e:a5),t[h]? =some e->Op.bytesLess e.path p=decide (h<bS t p):=by
 intro t p;induction t with
 |nil=>intro _ h e he;simp at he
 |cons x t ih=>
  intro a3 h e he;have lg:=List.pairwise_cons.1 a3;unfold bS;rw[List.takeWhile_cons];cases hx:Op.bytesLess x.path p with
  |true=>
   simp only[if_true,List.length_cons];cases h with
   |zero=>simp only[List.getElem?_cons_zero,Option.some.injEq] at he;subst he;rw[hx];simp
   |succ h=>
    simp only[List.getElem?_cons_succ] at he;rw[ih lg.2 h e he];unfold bS;congr 1;apply propext;omega
  |false=>
   have:(decide (h<(if false=true then x::t.takeWhile (fun e=>Op.bytesLess e.path p) else []).length))=false:=by simp
   rw[this];cases h with
   |zero=>simp only[List.getElem?_cons_zero,Option.some.injEq] at he;subst he;exact hx
   |succ h=>
    simp only[List.getElem?_cons_succ] at he;have h2:=lg.1 e (List.mem_of_getElem? he);cases aa:Op.bytesLess e.path p with
    |false=>rfl
    |true=>have:=rb _ _ _ h2 aa;rw[hx] at this;cases this
def o5(a b:al):Int:=bif Op.bytesLess a b then-1 else bif a==b then 0 else 1
theorem CD(a):f139 a=some ((o5 a.1.1.1 a.1.2.1.1,()),()):=by
 obtain⟨⟨⟨p,qG⟩,⟨⟨q,jS⟩,lj⟩⟩,UL⟩:=a;have h1:(p==p)=true:=by simp
 have h2:(q==q)=true:=by simp
 simp only[f139,f110,f175,Option.bind_some,h1,h2,Bool.not_true,cond_false,o5];cases Op.bytesLess p q<;>cases (p==q)<;>rfl
theorem xB(a b:al):decide (o5 a b<0)=Op.bytesLess a b:=by
 unfold o5;cases Op.bytesLess a b<;>cases (a==b)<;>rfl
theorem Lj(a b:al):(o5 a b==0)=(a==b):=by
 unfold o5;cases h:Op.bytesLess a b with
 |true=>rw[OY h];rfl
 |false=>cases (a==b)<;>rfl
theorem Pp{n:Nat}(h:n<=1099511627776):nK .u64 (IntKind.u64.wrap (IntKind.i64.wrap (n:Int))) 1=some (((n/2:Nat)):Int):=by
 rw[ej (by omega) (by omega)]
 have:IntKind.u64.wrap (n:Int)=(n:Int):=by
  simp[IntKind.wrap,IntKind.bits,IntKind.signed];omega
 rw[this];unfold nK;rw[if_neg (by decide)]
 congr 1
 show Int.fdiv (n:Int) 2=_;rw[Int.fdiv_eq_ediv_of_nonneg _ (by decide)]
 omega
theorem JJ(a)(M:cj a.1.1.length)(a3:eW a.1.1):f87 a=some (((bS a.1.1 a.1.2.1:Int),(iy a.1.1 a.1.2.1,())),()):=by
 obtain⟨⟨t,p,u⟩,bF⟩:=a;have M:t.length<=2097152:=M;have IQ:=rh t p;have key:∀d i j:Nat,j-i=d->i<=bS t p->bS t p<=j->j<=t.length->
   w5 ((t,((),((),((0:Int),(false,((t.length:Int),((i:Int),((j:Int),())))))))),((p,((0:Int),((0:Int),(([]:al),())))),()))=
    some (((t,((),((),((0:Int),(false,((t.length:Int),((bS t p:Int),()))))))),((p,((0:Int),((0:Int),(([]:al),())))),()))):=by
  intro d;induction d using Nat.strongRecOn with
  |_ d ih=>
   intro i j Y hi hj hl;by_cases hij:i<j
   ·have bQ:(i+j)/2<t.length:=by omega
    obtain⟨e,he⟩:∃e,t[(i+j)/2]? =some e:=⟨t[(i+j)/2],List.getElem?_eq_getElem bQ⟩;have vG:nK .u64 (IntKind.u64.wrap (IntKind.i64.wrap ((i:Int)+(j:Int)))) 1=some ((((i+j)/2:Nat)):Int):=by
     rw[<-Pp (n:=i+j) (by omega)];rw[Int.natCast_add]
    have vy:IntKind.i64.wrap (((i+j)/2:Nat):Int)=(((i+j)/2:Nat):Int):=ej (by omega) (by omega)
    have ki:=jy (t:=t) (p:=p) a3 ((i+j)/2) e he;cases hb:Op.bytesLess e.path p with
    |true=>
     rw[hb] at ki;have aX:(i+j)/2<bS t p:=by simpa using ki.symm
     refine(hk ?_).trans (ih (j-((i+j)/2+1)) (by omega) ((i+j)/2+1) j rfl (by omega) hj hl)
     simp only[w9,ce hij,cond_true,vG,vy,b0,he,Option.bind_some,CD,xB,hb,b' (i:=(i+j)/2) (by unfold aF;omega)]
    |false=>
     rw[hb] at ki;have mW:¬(i+j)/2<bS t p:=by simpa using ki.symm
     refine(hk ?_).trans (ih ((i+j)/2-i) (by omega) i ((i+j)/2) rfl hi (by omega) (by omega))
     simp only[w9,ce hij,cond_true,vG,vy,b0,he,Option.bind_some,CD,xB,hb,cond_false]
   ·have hV:i=bS t p:=by omega
    have aX:decide ((i:Int)<(j:Int))=false:=by simp only[decide_eq_false_iff_not];omega
    refine eB ?_
    simp only[w9,aX,cond_false];rw[hV]
 have nc:w5 ((t,((),((),((0:Int),(false,((t.length:Int),((0:Int),((t.length:Int),())))))))),((p,((0:Int),((0:Int),(([]:al),())))),()))=_:=key t.length 0 t.length (Nat.sub_zero _) (Nat.zero_le _) IQ (Nat.le_refl _);have J:zs ((t,((p,((0:Int),((0:Int),(([]:al),())))),((),()))),())=some (((bS t p:Int),(iy t p,())),()):=by
  simp only[zs,nc,Option.bind_some,iy,b0,CD,Lj];cases aE:t[bS t p]? with
  |none=>
   have:=List.getElem?_eq_none_iff.1 aE;have:decide ((bS t p:Int)<(t.length:Int))=false:=by simp only[decide_eq_false_iff_not];omega
   rw[this];rfl
  |some e=>rw[ce (cc aE)];rfl
 simp only[f87,J,Option.bind_some]
noncomputable abbrev ahj:bq:=[(87,Io),(195,Rm)]
theorem ahN:a9 Z (bm ap ahj):=bz ⟨R8,ae0,⟨⟩⟩
abbrev i137:Shape:=⟨[aV 0 .entry,bx 1],[],27⟩
abbrev P4:Shape:=⟨[aY 4],[],27⟩
noncomputable def f137(a:i137.H):Option P4.H:=
(f195 ((a.1.2.1,()),())).bind fun b=>
 bif(b.1.1==([]:al)) then
 some ((true,()),())
else
(f87 ((a.1.1,b.1.1,()),())).bind fun c=>
 bif c.1.2.1 then
(bl a.1.1 c.1.1).bind fun d=>
 some (((d.kind==(1:Int)),()),())
else
 some ((false,()),())
noncomputable def RA:aU:=ba ap Tryz.f137 i137 P4 [] f137
theorem afe:a4 Z 137 RA:=bc ahN Tryz.func137 (by kernel_rfl) ar (fun y=>by kernel_rfl) fun a=>by kernel_rfl
noncomputable abbrev ahg:bq:=[(210,Rl),(211,Rk),(212,Rj)]
theorem Am:a9 Z (bm ap ahg):=bz ⟨aeZ,aeY,aeX,⟨⟩⟩
abbrev LZ:Shape:=⟨[aV 0 .entry,ae 3],[],53⟩
abbrev LN:List bg:=[(.norm,⟨[aV 0 .entry,ae 3,aV 11 .entry,ae 12,(13,.ai (.ee [.str,.int .i64,.int .i64,.str] 0)),cg 14 [a6,cO,cO,a6],aY 15,aY 16,aY 17,aY 34],[],53⟩)]
noncomputable def C8(y:LZ.H):Option (aQ LN):=
(bl y.1.1 y.1.2.1).bind fun a=>
(f210 (((a.path,a.kind,a.mode,a.text,()),()),())).bind fun b=>
 bif(!b.1.1) then
 some ((y.1.1,y.1.2.1,y.1.1,y.1.2.1,(a.path,a.kind,a.mode,a.text,()),(a.path,a.kind,a.mode,a.text,()),b.1.1,(!b.1.1),true,true,()),())
else
 bif(decide (y.1.2.1>(0:Int))) then
(bl y.1.1 (IntKind.i64.wrap (y.1.2.1-(1:Int)))).bind fun c=>
(bl y.1.1 y.1.2.1).bind fun d=>
 some ((y.1.1,y.1.2.1,y.1.1,y.1.2.1,(a.path,a.kind,a.mode,a.text,()),(a.path,a.kind,a.mode,a.text,()),b.1.1,(!b.1.1),false,(!(Op.bytesLess c.path d.path)),()),())
else
 some ((y.1.1,y.1.2.1,y.1.1,y.1.2.1,(a.path,a.kind,a.mode,a.text,()),(a.path,a.kind,a.mode,a.text,()),b.1.1,(!b.1.1),false,false,()),())
theorem _V:bw Z (aI (dD (aI (codeOf Tryz.f158) 1 26)) 52 840) (bJ LZ LN C8):=ei Am (by kernel_rfl) ar fun y=>by kernel_rfl
abbrev xX:Shape:=⟨[aV 0 .entry,ae 3],[],53⟩
abbrev Dy:List bg:=[(.ret,⟨[aY 2],[],53⟩),(.exit 0,⟨[aV 0 .entry],[],53⟩)]
noncomputable def yv(y:xX.H):cy xX Dy:=
 bif(decide (y.1.2.1<(y.1.1.length:Int))) then
(C8 ((y.1.1,y.1.2.1,()),())).bind fun a=>
 bif a.1.2.2.2.2.2.2.2.2.2.1 then
 some (.inr (.inl ((false,()),())))
else
 some (.inl ((a.1.1,(IntKind.i64.wrap (a.1.2.1+(1:Int))),()),()))
else
 some (.inr (.inr ((y.1.1,()),())))
noncomputable def D4:xX.H->Option (aQ Dy):=bO yv
theorem abj:bw Z (aI (codeOf Tryz.f158) 1 26) (bJ xX Dy D4):=cD Am (by kernel_rfl) (bN _V ar) fun y=>by kernel_rfl
abbrev xW:Shape:=⟨[aV 0 .entry,ae 4],[],53⟩
abbrev Dx:List bg:=[(.ret,⟨[aY 2],[],53⟩),(.exit 2,⟨[aV 0 .entry],[],53⟩)]
noncomputable def yu(y:xW.H):cy xW Dx:=
 bif(decide (y.1.2.1<(y.1.1.length:Int))) then
(bl y.1.1 y.1.2.1).bind fun a=>
(f212 ((a.path,()),())).bind fun b=>
(f211 ((y.1.1,b.1.1,()),())).bind fun c=>
 bif(!c.1.1) then
 some (.inr (.inl ((false,()),())))
else
 some (.inl ((y.1.1,(IntKind.i64.wrap (y.1.2.1+(1:Int))),()),()))
else
 some (.inr (.inr ((y.1.1,()),())))
noncomputable def D3:xW.H->Option (aQ Dx):=bO yu
theorem abi:bw Z (aI (codeOf Tryz.f158) 1 58) (bJ xW Dx D3):=cD Am (by kernel_rfl) ar fun y=>by kernel_rfl
abbrev i158:Shape:=⟨[aV 0 .entry],[],53⟩
abbrev PX:Shape:=⟨[aY 2],[],53⟩
noncomputable def f158(a:i158.H):Option PX.H:=
(D4 ((a.1.1,(0:Int),()),())).bind fun b=>
(match b with
|.inl c=>
 some ((c.1.1,()),())
|.inr d=>
(D3 ((d.1.1,(0:Int),()),())).bind fun e=>
(match e with
|.inl f=>
 some ((f.1.1,()),())
|.inr g=>
 some (((decide ((g.1.1.length:Int)<=(16:Int))),()),())))
noncomputable def GM:aU:=ba ap Tryz.f158 i158 PX [] f158
theorem Pa:a4 Z 158 GM:=bc Am Tryz.func158 (by kernel_rfl) (bN abj (bN abi ar)) (fun y=>by kernel_rfl) fun a=>by kernel_rfl
noncomputable abbrev alm:bq:=[(136,RB),(137,RA)]
theorem Iv:a9 Z (bm ap alm):=bz ⟨aff,afe,⟨⟩⟩
abbrev LU:Shape:=⟨[aV 0 .entry,ae 3,bf 4 4 0,aV 8 .entry,ae 9,ae 10],[be 4 [a6,cO,cO,a6]],43⟩
abbrev LI:List bg:=[(.norm,⟨[aV 0 .entry,aV 8 .entry,ae 9,ae 10,cg 15 [a6,cO,cO,a6],aY 16,aY 17,aY 18,aY 32,aY 33,aY 41],[],43⟩)]
noncomputable def C4(y:LU.H):Option (aQ LI):=
(f136 (((y.2.1.1,y.2.1.2.1,y.2.1.2.2.1,y.2.1.2.2.2.1,()),()),())).bind fun a=>
 bif(!a.1.1) then
 some ((y.1.1,y.1.2.2.2.1,y.1.2.2.2.2.1,y.1.2.2.2.2.2.1,(y.2.1.1,y.2.1.2.1,y.2.1.2.2.1,y.2.1.2.2.2.1,()),a.1.1,(!a.1.1),true,true,true,true,()),())
else
 bif(decide (y.1.2.1>(0:Int))) then
(bl y.1.1 (IntKind.i64.wrap (y.1.2.1-(1:Int)))).bind fun b=>
 bif(!(Op.bytesLess b.path y.2.1.1)) then
 some ((y.1.1,y.1.2.2.2.1,y.1.2.2.2.2.1,y.1.2.2.2.2.2.1,(y.2.1.1,y.2.1.2.1,y.2.1.2.2.1,y.2.1.2.2.2.1,()),a.1.1,(!a.1.1),false,(!(Op.bytesLess b.path y.2.1.1)),true,true,()),())
else
(dy y.1.1 (0:Int) y.1.2.1).bind fun c=>
(f137 ((c,y.2.1.1,()),())).bind fun d=>
 some ((y.1.1,y.1.2.2.2.1,y.1.2.2.2.2.1,y.1.2.2.2.2.2.1,(y.2.1.1,y.2.1.2.1,y.2.1.2.2.1,y.2.1.2.2.2.1,()),a.1.1,(!a.1.1),false,(!(Op.bytesLess b.path y.2.1.1)),false,(!d.1.1),()),())
else
(dy y.1.1 (0:Int) y.1.2.1).bind fun e=>
(f137 ((e,y.2.1.1,()),())).bind fun f=>
 some ((y.1.1,y.1.2.2.2.1,y.1.2.2.2.2.1,y.1.2.2.2.2.2.1,(y.2.1.1,y.2.1.2.1,y.2.1.2.2.1,y.2.1.2.2.2.1,()),a.1.1,(!a.1.1),false,false,false,(!f.1.1),()),())
theorem _M:bw Z (aI (dD (aI (codeOf Tryz.f86) 1 58)) 116 7474) (bJ LU LI C4):=ei Iv (by kernel_rfl) ar fun y=>by kernel_rfl
abbrev yR:Shape:=⟨[aV 0 .entry,aV 8 .entry,ae 9,ae 10],[],43⟩
abbrev ui:List bg:=[(.ret,⟨[aY 2],[],43⟩),(.exit 0,⟨[],[],43⟩)]
noncomputable def zd(y:yR.H):cy yR ui:=
 bif(decide (y.1.2.2.2.1<y.1.2.2.1)) then
(bl y.1.2.1 y.1.2.2.2.1).bind fun a=>
(C4 ((y.1.1,y.1.2.2.2.1,(),y.1.2.1,y.1.2.2.1,y.1.2.2.2.1,()),(a.path,a.kind,a.mode,a.text,()),())).bind fun b=>
 bif b.1.2.2.2.2.2.2.2.2.2.2.1 then
 some (.inr (.inl ((false,()),())))
else
 some (.inl ((b.1.1,b.1.2.1,b.1.2.2.1,(IntKind.i64.wrap (b.1.2.2.2.1+(1:Int))),()),()))
else
 some (.inr (.inr ((),())))
noncomputable def ER:yR.H->Option (aQ ui):=bO zd
theorem acz:bw Z (aI (codeOf Tryz.f86) 1 58) (bJ yR ui ER):=cD Iv (by kernel_rfl) (bN _M ar) fun y=>by kernel_rfl
abbrev i86:Shape:=⟨[aV 0 .entry],[],43⟩
abbrev Sv:Shape:=⟨[aY 2],[],43⟩
noncomputable def f86(a:i86.H):Option Sv.H:=
 bif(decide ((a.1.1.length:Int)>(16:Int))) then
 some ((false,()),())
else
(ER ((a.1.1,a.1.1,(a.1.1.length:Int),(0:Int),()),())).bind fun b=>
(match b with
|.inl c=>
 some ((c.1.1,()),())
|.inr d=>
 some ((true,()),()))
noncomputable def Ip:aU:=ba ap Tryz.f86 i86 Sv [] f86
theorem R9:a4 Z 86 Ip:=bc Iv Tryz.func86 (by kernel_rfl) (bN acz ar) (fun y=>by kernel_rfl) fun a=>by kernel_rfl
theorem Xl{aD:Type}{ok lT:Nat->aD->Bool}:∀(xs:List aD) (j:Nat),(∀i x,xs[i]? =some x->ok (j+i) x=lT (j+i) x)->allI ok j xs=allI lT j xs:=by
 intro xs;induction xs with
 |nil=>intro j _;rfl
 |cons x r ih=>
  intro j h;simp only[allI];rw[show ok j x=lT j x from h 0 x rfl,ih (j+1) (fun i y ak=>by have:=h (i+1) y (by simpa using ak);rw[show j+(i+1)=j+1+i by omega] at this;exact this)]
theorem Dd{aD:Type}{ok:Nat->aD->Bool}:∀(xs:List aD) (j:Nat),allI ok j xs=true->∀i x,xs[i]? =some x->ok (j+i) x=true:=by
 intro xs;induction xs with
 |nil=>intro j _ i x h;simp at h
 |cons y r ih=>
  intro j h i x hx;simp only[allI,Bool.and_eq_true] at h;cases i with
  |zero=>simp only[List.getElem?_cons_zero,Option.some.injEq] at hx;subst hx;exact h.1
  |succ i=>have:=ih (j+1) h.2 i x (by simpa using hx);rwa[show j+1+i=j+(i+1) by omega] at this
abbrev lS(t:List a5):Prop:=cj t.length/\∀e,e∈t->m6 e
def ul(t:List a5)(i:Nat)(e:a5):Bool:=i==0||match t[i-1]? with
 |some q=>Op.bytesLess q.path e.path
 |none=>false
def iz(t:List a5)(i:Nat)(e:a5):Bool:=oP e&&ul t i e
def eC(t:List a5):Bool:=allI (iz t) 0 t&&t.all (fun e=>j7 t (iG e.path))&&decide (t.length<=16)
theorem Af(i:Nat):decide ((i:Int)>0)=!(i==0):=by
 cases i with
 |zero=>rfl
 |succ i=>simp
theorem Lz(a)(M:lS a.1.1):f158 a=some ((eC a.1.1,()),()):=by
 obtain⟨⟨t,u⟩,bF⟩:=a;obtain⟨hl,he⟩:=M;have hl:t.length<=2097152:=hl;have key:D4 ((t,((0:Int),())),())=some (bif allI (iz t) 0 t then .inr ((t,()),()) else .inl ((false,()),())):=by
  refine fD yv t (fun i=>((t,((i:Int),())),())) _ _ _ (fun i x hx=>?_) ?_
  ·have hi:=cc hx;have hw:aF i:=by unfold aF;omega
   have hb:=he x (List.mem_of_getElem? hx);simp only[yv,ce hi,cond_true,C8,b0,hx,Option.bind_some];rw[YJ _ hb.1 hb.2];simp only[Option.bind_some,iz,Af];cases oP x with
   |false=>rfl
   |true=>
    simp only[Bool.not_true,cond_false,Bool.true_and,ul];cases i with
    |zero=>simp only[beq_self_eq_true,Bool.not_true,cond_false,Option.bind_some,Bool.true_or,cond_true,b' hw]
    |succ i=>
     have h0:(i+1==0)=false:=rfl;have hV:i<t.length:=by omega
     obtain⟨q,ay⟩:∃q,t[i]? =some q:=⟨t[i],List.getElem?_eq_getElem hV⟩;simp only[h0,Bool.not_false,cond_true,tz (i:=i) (by unfold aF;omega),b0,ay,hx,Option.bind_some,Bool.false_or,Nat.add_sub_cancel]
     cases Op.bytesLess q.path x.path with
     |false=>rfl
     |true=>simp only[Bool.not_true,cond_false,cond_true,b' hw]
  ·simp only[yv,cU,cond_false]
 have Qw:D3 ((t,((0:Int),())),())=some (bif allI (fun _ e=>j7 t (iG e.path)) 0 t then .inr ((t,()),()) else .inl ((false,()),())):=by
  refine fD yu t (fun i=>((t,((i:Int),())),())) _ _ _ (fun i x hx=>?_) ?_
  ·have hi:=cc hx;have hw:aF i:=by unfold aF;omega
   have hb:=he x (List.mem_of_getElem? hx);simp only[yu,ce hi,cond_true,b0,hx,Option.bind_some];rw[acp _ hb.1];simp only[Option.bind_some];rw[aaK _ hl];simp only[Option.bind_some,b' hw];cases j7 t (iG x.path)<;>rfl
  ·simp only[yu,cU,cond_false]
 rw[gV] at Qw;simp only[f158,key,Option.bind_some,eC];cases allI (iz t) 0 t with
 |false=>rfl
 |true=>
  simp only[cond_true,Qw,Option.bind_some,Bool.true_and];cases List.all t (fun e=>j7 t (iG e.path)) with
  |false=>rfl
  |true=>have:=z6 t.length 16;simp only[cond_true,Bool.true_and];rw[<-this];rfl
theorem Mf{t:List a5}{i:Nat}{e:a5}(he:t[i]? =some e)(h:eW (t.take i))(hl:ul t i e=true):eW (t.take (i+1)):=by
 rw[List.take_add_one,he];unfold eW;refine List.pairwise_append.2 ⟨h,by simp,?_⟩
 intro a a3 b hb;have hb:b=e:=by simpa using hb
 subst hb;obtain⟨k,ag⟩:=List.mem_iff_getElem?.1 a3;have aj5:k<i:=by
  have:=cc ag;rw[List.length_take] at this;omega
 unfold ul at hl;have h0:(i==0)=false:=by simp;omega
 rw[h0,Bool.false_or] at hl;split at hl
 ·rename_i q ay;by_cases lc:k=i-1
  ·have:t[k]? =some a:=by rw[List.getElem?_take,if_pos aj5] at ag;exact ag
   rw[lc,ay] at this;cases this;exact hl
  ·have n3:(t.take i)[i-1]? =some q:=by rw[List.getElem?_take,if_pos (by omega)];exact ay
   have:=List.pairwise_iff_getElem.1 h k (i-1) (cc ag) (cc n3) (by omega)
   rw[(List.getElem?_eq_some_iff.1 ag).2,(List.getElem?_eq_some_iff.1 n3).2] at this;exact rb _ _ _ this hl
 ·cases hl
theorem NZ{t:List a5}(h:allI (iz t) 0 t=true):eW t:=by
 have:∀i,i<=t.length->eW (t.take i):=by
  intro i;induction i with
  |zero=>intro _;simp[eW]
  |succ i ih=>
   intro hi;have he:t[i]? =some t[i]:=List.getElem?_eq_getElem hi;have:=Dd t 0 h i _ he;rw[Nat.zero_add] at this;simp only[iz,Bool.and_eq_true] at this;exact Mf he (ih (by omega)) this.2
 have:=this t.length (Nat.le_refl _);rwa[List.take_length] at this
theorem Yf{t:List a5}{i:Nat}{e:a5}{p:al}(a3:eW t)(he:t[i]? =some e)(aj:Op.bytesLess p e.path=true):j7 (t.take i) p=j7 t p:=by
 have hi:=cc he;have h1:=jy (p:=p) a3 i e he;rw[ab3 aj] at h1;have c4:bS t p<=i:=by
  have:¬i<bS t p:=by simpa using h1.symm
  omega
 have nP:bS (t.take i) p=bS t p:=by
  by_cases aX:bS t p=i
  ·have hlen:(t.take i).length=i:=by rw[List.length_take];omega
   have h2:=rh (t.take i) p;rw[hlen] at h2;by_cases aa:bS (t.take i) p<i
   ·obtain⟨q,ay⟩:∃q,(t.take i)[bS (t.take i) p]? =some q:=⟨_,List.getElem?_eq_getElem (by rw[hlen];exact aa)⟩
    have aH:=jy (p:=p) (a3.take i) _ q ay;have n3:t[bS (t.take i) p]? =some q:=by rw[List.getElem?_take,if_pos aa] at ay;exact ay
    have bD:=jy (p:=p) a3 _ q n3;rw[aH] at bD;have:decide (bS (t.take i) p<bS (t.take i) p)=false:=by simp
    rw[this] at bD;have:¬bS (t.take i) p<bS t p:=by simpa using bD.symm
    omega
   ·omega
  ·have aX:bS t p<i:=by omega
   obtain⟨q,ay⟩:∃q,t[bS t p]? =some q:=⟨_,List.getElem?_eq_getElem (by omega)⟩
   have n3:(t.take i)[bS t p]? =some q:=by rw[List.getElem?_take,if_pos aX];exact ay
   have aH:=jy (p:=p) a3 _ q ay;have bD:=jy (p:=p) (a3.take i) _ q n3;have c_:decide (bS t p<bS t p)=false:=by simp
   rw[aH,c_] at bD;have di:¬bS t p<bS (t.take i) p:=by simpa using bD.symm
   by_cases hJ:bS (t.take i) p<bS t p
   ·obtain⟨r,hr⟩:∃r,t[bS (t.take i) p]? =some r:=⟨_,List.getElem?_eq_getElem (by omega)⟩
    have cN:(t.take i)[bS (t.take i) p]? =some r:=by rw[List.getElem?_take,if_pos (by omega)];exact hr
    have nd:=jy (p:=p) a3 _ r hr;have lm:=jy (p:=p) (a3.take i) _ r cN;have IX:decide (bS (t.take i) p<bS (t.take i) p)=false:=by simp
    rw[nd,IX] at lm;have:¬bS (t.take i) p<bS t p:=by simpa using lm
    omega
   ·omega
 unfold j7;rw[nP];congr 1
 by_cases aX:bS t p<i
 ·rw[List.getElem?_take,if_pos aX]
 ·have:bS t p=i:=by omega
  rw[this,he,List.getElem?_take,if_neg (by omega)]
  have:(e.path==p)=false:=by
   cases h:(e.path==p) with
   |false=>rfl
   |true=>rw[eq_of_beq h,oK] at aj;cases aj
  simp[this]
def kT(t:List a5)(p:al):Bool:=j7 t (bif it p then iG p else [])
theorem VA(a)(M:cj a.1.1.length)(aj:cj a.1.2.1.length)(a3:eW a.1.1):f137 a=some ((kT a.1.1 a.1.2.1,()),()):=by
 obtain⟨⟨t,p,u⟩,bF⟩:=a;have e1:=_k ((p,()),()) aj;have e2:=JJ ((t,((bif it p then iG p else []),())),()) M a3
 simp only[f137,e1,e2,Option.bind_some,kT,j7,iy,b0];generalize(bif it p then iG p else [])=up
 cases (up==[]) with
 |true=>rfl
 |false=>
  cases aE:t[bS t up]? with
  |none=>rfl
  |some e=>simp only[cond_false,cond_true,Option.bind_some,Bool.false_or];cases (e.path==up)<;>rfl
theorem YW(t:List a5):eC t=(decide (t.length<=16)&&allI (fun i e=>iz t i e&&kT (t.take i) e.path) 0 t):=by
 unfold eC;rw[De];cases h:allI (iz t) 0 t with
 |false=>simp
 |true=>
  have a3:=NZ h;have:allI (fun i e=>kT (t.take i) e.path) 0 t=t.all (fun e=>j7 t (iG e.path)):=by
   rw[<-gV _ 0 t];refine Xl t 0 (fun i e he=>?_)
   rw[Nat.zero_add];have ff:=Dd t 0 h i e he;rw[Nat.zero_add] at ff;have ajR:it e.path=true:=by
    unfold iz oP at ff;simp only[Bool.and_eq_true] at ff;exact ff.1.1
   unfold kT;rw[ajR,cond_true];cases hu:(iG e.path==[]) with
   |true=>unfold j7;rw[hu];rfl
   |false=>exact Yf a3 he (_o hu)
  rw[this];simp only[Bool.true_and];rw[Bool.and_comm]
theorem wQ(a)(M:lS a.1.1):f86 a=some ((eC a.1.1,()),()):=by
 obtain⟨⟨t,u⟩,bF⟩:=a;obtain⟨hl,he⟩:=M;have hl:t.length<=2097152:=hl;have key:ER ((t,(t,((t.length:Int),((0:Int),())))),())=some (bif allI (fun i e=>iz t i e&&kT (t.take i) e.path) 0 t then .inr ((),()) else .inl ((false,()),())):=by
  have:=mm zd t (fun i (_:Unit)=>((t,(t,((t.length:Int),((i:Int),())))),())) (fun i e _=>some (bif iz t i e&&kT (t.take i) e.path then .inl () else .inr ((.inl ((false,()),())):aQ ui))) (fun _=>(.inr ((),()):aQ ui))
   (fun i _=>eW (t.take i)) () (by simp[eW]) (fun i x _ hx cZ=>?_) (fun _ _=>?_)
  ·exact this.trans (BO (fun i e=>iz t i e&&kT (t.take i) e.path) (fun _ s=>s) _ _ t 0 ())
  ·have hi:=cc hx;have hw:aF i:=by unfold aF;omega
   have hb:=he x (List.mem_of_getElem? hx);refine⟨?_,fun am ab=>?_⟩
   ·have kj:=VA ((t.take i,(x.path,())),()) (show(t.take i).length<=2097152 by rw[List.length_take];omega) hb.1 cZ
    simp only[zd,ce hi,cond_true,b0,hx,Option.bind_some,C4];rw[YP _ hb.1 hb.2];simp only[Option.bind_some,iz,Af];cases oP x with
    |false=>rfl
    |true=>
     simp only[Bool.not_true,cond_false,Bool.true_and,ul];cases i with
     |zero=>
      have dB:dy t 0 0=some (t.take 0):=pG (b:=0) (Nat.zero_le _);have dB:dy t 0 ((0:Nat):Int)=some (t.take 0):=dB;simp only[beq_self_eq_true,Bool.not_true,cond_false,dB,Option.bind_some,kj,Bool.true_or,Bool.true_and];cases kT (t.take 0) x.path with
      |false=>rfl
      |true=>simp only[Bool.not_true,cond_false,cond_true,b' hw];rfl
     |succ i=>
      have h0:(i+1==0)=false:=rfl;have hV:i<t.length:=by omega
      obtain⟨q,ay⟩:∃q,t[i]? =some q:=⟨t[i],List.getElem?_eq_getElem hV⟩;have dB:dy t 0 ((i+1:Nat):Int)=some (t.take (i+1)):=pG (by omega)
      simp only[h0,Bool.not_false,cond_true,tz (i:=i) (by unfold aF;omega),b0,ay,hx,Option.bind_some,Bool.false_or,Nat.add_sub_cancel]
      cases Op.bytesLess q.path x.path with
      |false=>rfl
      |true=>
       simp only[Bool.not_true,cond_false,cond_true,dB,Option.bind_some,kj,Bool.true_and];cases kT (t.take (i+1)) x.path with
       |false=>rfl
       |true=>simp only[Bool.not_true,cond_false,cond_true,b' hw];rfl
   ·simp only[Option.some.injEq] at ab;cases ay:(iz t i x&&kT (t.take i) x.path) with
    |false=>rw[ay] at ab;cases ab
    |true=>
     simp only[Bool.and_eq_true] at ay;have:=ay.1;simp only[iz,Bool.and_eq_true] at this;exact Mf hx cZ this.2
  ·simp only[zd,cU,cond_false]
 have H_:decide ((t.length:Int)>16)=!decide (t.length<=16):=by by_cases h:t.length<=16<;>simp only[h,decide_true,decide_false,Bool.not_true,Bool.not_false,decide_eq_true_eq,decide_eq_false_iff_not]<;>omega
 simp only[f86,H_,key,Option.bind_some];rw[YW];cases decide (t.length<=16)<;>cases allI (fun i e=>iz t i e&&kT (t.take i) e.path) 0 t<;>rfl
noncomputable abbrev als:bq:=[(86,Ip),(118,GS),(119,Aj),(120,N9),(122,N8)]
theorem Ut:a9 Z (bm ap als):=bz ⟨R9,Pg,FM,acj,aci,⟨⟩⟩
abbrev Nf:Shape:=⟨[bf 1 1 0],[be 1 [a6,a6,bi .need,bi .entry]],36⟩
abbrev Na:List bg:=[(.norm,⟨[bf 1 1 0,aY 18],[be 1 [a6,a6,bi .need,bi .entry]],36⟩)]
noncomputable def E9(y:Nf.H):Option (aQ Na):=
(f118 ((y.2.1.1,()),())).bind fun a=>
 bif(!(!a.1.1)) then
(f119 ((y.2.1.2.1,()),())).bind fun b=>
 bif(!(!b.1.1)) then
 some (((),(decide ((y.2.1.2.2.1.length:Int)>(6:Int))),()),(y.2.1.1,y.2.1.2.1,y.2.1.2.2.1,y.2.1.2.2.2.1,()),())
else
 some (((),true,()),(y.2.1.1,y.2.1.2.1,y.2.1.2.2.1,y.2.1.2.2.2.1,()),())
else
 some (((),true,()),(y.2.1.1,y.2.1.2.1,y.2.1.2.2.1,y.2.1.2.2.2.1,()),())
theorem acD:bw Z (aI (codeOf Tryz.f74) 1 12) (bJ Nf Na E9):=ei Ut (by kernel_rfl) ar fun y=>by kernel_rfl
abbrev i74:Shape:=⟨[cg 0 [a6,a6,bi .need,bi .entry]],[],36⟩
abbrev SB:Shape:=⟨[aY 2],[],36⟩
noncomputable def f74(a:i74.H):Option SB.H:=
(E9 (((),()),(a.1.1.1,a.1.1.2.1,a.1.1.2.2.1,a.1.1.2.2.2.1,()),())).bind fun b=>
 bif b.1.2.1 then
 some ((false,()),())
else
(zu ((b.2.1.2.2.1,(),()),())).bind fun c=>
 bif c.1.1 then
(zt ((b.2.1.2.2.1,(),([b.2.1.1]:List al),()),())).bind fun d=>
 bif(!d.1.1) then
(f86 ((b.2.1.2.2.2.1,()),())).bind fun e=>
 some ((e.1.1,()),())
else
 some ((false,()),())
else
 some ((false,()),())
noncomputable def A_:aU:=ba ap Tryz.f74 i74 SB [] f74
theorem G8:a4 Z 74 A_:=bc Ut Tryz.func74 (by kernel_rfl) (bN acD ar) (fun y=>by kernel_rfl) fun a=>by kernel_rfl
noncomputable abbrev adu:bq:=[(74,A_)]
theorem Og:a9 Z (bm ap adu):=bz ⟨G8,⟨⟩⟩
abbrev w3:Shape:=⟨[(1,.ai (.fn 74 [])),aV 7 .pack,ae 8,ae 9],[],18⟩
abbrev B_:List bg:=[(.ret,⟨[aY 4],[],18⟩),(.exit 0,⟨[],[],18⟩)]
noncomputable def xe(y:w3.H):cy w3 B_:=
 bif(decide (y.1.2.2.2.1<y.1.2.2.1)) then
(bl y.1.2.1 y.1.2.2.2.1).bind fun a=>
(f74 (((a.name,a.a8,a.bb,a.bu,()),()),())).bind fun b=>
 bif(!b.1.1) then
 some (.inr (.inl ((false,()),())))
else
 some (.inl (((),y.1.2.1,y.1.2.2.1,(IntKind.i64.wrap (y.1.2.2.2.1+(1:Int))),()),()))
else
 some (.inr (.inr ((),())))
noncomputable def Cm:w3.H->Option (aQ B_):=bO xe
theorem Zt:bw Z (aI (codeOf Tryz.f101) 1 26) (bJ w3 B_ Cm):=cD Og (by kernel_rfl) ar fun y=>by kernel_rfl
abbrev NO:Shape:=⟨[aV 0 .pack,(1,.ai (.fn 74 []))],[],18⟩
abbrev Nw:Shape:=⟨[aY 4],[],18⟩
noncomputable def zw(a:NO.H):Option Nw.H:=
(Cm (((),a.1.1,(a.1.1.length:Int),(0:Int),()),())).bind fun b=>
(match b with
|.inl c=>
 some ((c.1.1,()),())
|.inr d=>
 some ((true,()),()))
noncomputable def N':aU:=ba ap Tryz.f101 NO Nw [] zw
theorem acl:a4 Z 101 N':=bc Og Tryz.func101 (by kernel_rfl) (bN Zt ar) (fun y=>by kernel_rfl) fun a=>by kernel_rfl
abbrev x0:Shape:=⟨[aV 0 .pack,ae 3],[],22⟩
abbrev DA:List bg:=[(.ret,⟨[aY 2],[],22⟩),(.exit 0,⟨[],[],22⟩)]
noncomputable def yy(y:x0.H):cy x0 DA:=
 bif(decide (y.1.2.1<(y.1.1.length:Int))) then
(bl y.1.1 (IntKind.i64.wrap (y.1.2.1-(1:Int)))).bind fun a=>
(bl y.1.1 y.1.2.1).bind fun b=>
 bif(!(Op.bytesLess a.name b.name)) then
 some (.inr (.inl ((false,()),())))
else
 some (.inl ((y.1.1,(IntKind.i64.wrap (y.1.2.1+(1:Int))),()),()))
else
 some (.inr (.inr ((),())))
noncomputable def D7:x0.H->Option (aQ DA):=bO yy
theorem abn:bw Z (aI (codeOf Tryz.f141) 1 26) (bJ x0 DA D7):=cD g0 (by kernel_rfl) ar fun y=>by kernel_rfl
abbrev i141:Shape:=⟨[aV 0 .pack],[],22⟩
abbrev P2:Shape:=⟨[aY 2],[],22⟩
noncomputable def f141(a:i141.H):Option P2.H:=
(D7 ((a.1.1,(1:Int),()),())).bind fun b=>
(match b with
|.inl c=>
 some ((c.1.1,()),())
|.inr d=>
 some ((true,()),()))
noncomputable def Ry:aU:=ba ap Tryz.f141 i141 P2 [] f141
theorem afc:a4 Z 141 Ry:=bc g0 Tryz.func141 (by kernel_rfl) (bN abn ar) (fun y=>by kernel_rfl) fun a=>by kernel_rfl
abbrev i156:Shape:=⟨[aV 0 .entry],[],6⟩
abbrev PZ:Shape:=⟨[b3 2 3000128],[ci 3000128 .entry 2 0],6⟩
noncomputable def f156(a:i156.H):Option PZ.H:=
(dv 48 ([]:List a5) a.1.1).bind fun b=>
 some (((),()),b,())
noncomputable def GO:aU:=ba ap Tryz.f156 i156 PZ [] f156
theorem Pc:a4 Z 156 GO:=bc g0 Tryz.func156 (by kernel_rfl) ar (fun y=>by kernel_rfl) fun a=>by kernel_rfl
noncomputable abbrev alj:bq:=[(156,GO),(157,GN),(158,GM)]
theorem Iu:a9 Z (bm ap alj):=bz ⟨Pc,Pb,Pa,⟨⟩⟩
abbrev LR:Shape:=⟨[aV 1 .entry,b3 6 3000384,ae 7,ae 8,aY 9],[ci 3000384 .entry 6 0],69⟩
abbrev LG:List bg:=[(.norm,⟨[aV 1 .entry,b3 6 3000384,ae 7,ae 8,aY 9,aY 28,aY 29,aY 47],[ci 3000384 .entry 6 0],69⟩)]
noncomputable def C2(y:LR.H):Option (aQ LG):=
 bif y.1.2.2.2.2.1 then
(e_ y.2.1.length y.1.2.2.2.1).bind fun a=>
(y.2.1[a]?).bind fun b=>
 bif(b.kind !=(1:Int)) then
 some ((y.1.1,(),y.1.2.2.1,y.1.2.2.2.1,y.1.2.2.2.2.1,y.1.2.2.2.2.1,true,true,()),y.2.1,())
else
(bl y.1.1 y.1.2.2.1).bind fun c=>
(e_ y.2.1.length y.1.2.2.2.1).bind fun d=>
(y.2.1[d]?).bind fun e=>
 some ((y.1.1,(),y.1.2.2.1,y.1.2.2.2.1,y.1.2.2.2.2.1,y.1.2.2.2.2.1,true,(!((c.path==e.path)&&((c.kind==e.kind)&&((c.mode==e.mode)&&(c.text==e.text))))),()),y.2.1,())
else
 some ((y.1.1,(),y.1.2.2.1,y.1.2.2.2.1,y.1.2.2.2.2.1,y.1.2.2.2.2.1,false,false,()),y.2.1,())
theorem _K:bw Z (aI (dD (aI (codeOf Tryz.f96) 1 58)) 116 7460) (bJ LR LG C2):=ei Iu (by kernel_rfl) ar fun y=>by kernel_rfl
abbrev uj:Shape:=⟨[aV 1 .entry,b3 6 3000384,ae 7],[ci 3000384 .entry 6 0],69⟩
abbrev oG:List bg:=[(.ret,⟨[b3 4 3000256,aY 5],[ci 3000256 .entry 4 0],69⟩),(.exit 0,⟨[b3 6 3000384],[ci 3000384 .entry 6 0],69⟩)]
noncomputable def zb(y:uj.H):cy uj oG:=
 bif(decide (y.1.2.2.1<(y.1.1.length:Int))) then
(bl y.1.1 y.1.2.2.1).bind fun a=>
(f157 ((y.2.1,a.path,()),())).bind fun b=>
(C2 ((y.1.1,(),y.1.2.2.1,b.1.1,b.1.2.1,()),y.2.1,())).bind fun c=>
 bif c.1.2.2.2.2.2.2.2.1 then
 some (.inr (.inl (((),false,()),([]:List a5),())))
else
 bif(!c.1.2.2.2.2.1) then
(dy c.2.1 (0:Int) c.1.2.2.2.1).bind fun d=>
(dv 48 ([]:List a5) d).bind fun e=>
(bl c.1.1 c.1.2.2.1).bind fun f=>
(dv 48 e ([f]:List a5)).bind fun g=>
(dy c.2.1 c.1.2.2.2.1 (c.2.1.length:Int)).bind fun h=>
(dv 48 g h).bind fun i=>
 some (.inl ((c.1.1,(),(IntKind.i64.wrap (c.1.2.2.1+(1:Int))),()),i,()))
else
 some (.inl ((c.1.1,(),(IntKind.i64.wrap (c.1.2.2.1+(1:Int))),()),c.2.1,()))
else
 some (.inr (.inr (((),()),y.2.1,())))
noncomputable def EP:uj.H->Option (aQ oG):=bO zb
theorem acw:bw Z (aI (codeOf Tryz.f96) 1 58) (bJ uj oG EP):=cD Iu (by kernel_rfl) (bN _K ar) fun y=>by kernel_rfl
abbrev i96:Shape:=⟨[aV 0 .entry,aV 1 .entry],[],69⟩
abbrev Sp:Shape:=⟨[b3 4 3000256,aY 5],[ci 3000256 .entry 4 0],69⟩
noncomputable def f96(a:i96.H):Option Sp.H:=
(f156 ((a.1.1,()),())).bind fun b=>
(EP ((a.1.2.1,(),(0:Int),()),b.2.1,())).bind fun c=>
(match c with
|.inl d=>
 some (((),d.1.2.1,()),d.2.1,())
|.inr e=>
(f158 ((e.2.1,()),())).bind fun f=>
 some (((),f.1.1,()),e.2.1,()))
noncomputable def TZ:aU:=ba ap Tryz.f96 i96 Sp [] f96
theorem ah2:a4 Z 96 TZ:=bc Iu Tryz.func96 (by kernel_rfl) (bN acw ar) (fun y=>by kernel_rfl) fun a=>by kernel_rfl
noncomputable abbrev alh:bq:=[(158,GM),(161,GK),(162,GJ),(163,Rv)]
theorem al1:a9 Z (bm ap alh):=bz ⟨Pa,O_,O9,ae9,⟨⟩⟩
abbrev i98:Shape:=⟨[cg 0 [a6,a6,bi .need,bi .entry]],[],23⟩
abbrev Sn:Shape:=⟨[aY 2],[],23⟩
noncomputable def f98(a:i98.H):Option Sn.H:=
(f161 ((a.1.1.1,()),())).bind fun b=>
 bif b.1.1 then
(f162 ((a.1.1.2.1,()),())).bind fun c=>
 bif c.1.1 then
(f163 ((a.1.1.1,a.1.1.2.2.1,()),())).bind fun d=>
 bif d.1.1 then
(f158 ((a.1.1.2.2.2.1,()),())).bind fun e=>
 some ((e.1.1,()),())
else
 some ((false,()),())
else
 some ((false,()),())
else
 some ((false,()),())
noncomputable def A9:aU:=ba ap Tryz.f98 i98 Sn [] f98
theorem G7:a4 Z 98 A9:=bc al1 Tryz.func98 (by kernel_rfl) ar (fun y=>by kernel_rfl) fun a=>by kernel_rfl
abbrev li(p:aK):Prop:=cj p.name.length/\cj p.a8.length/\vd p.bb/\lS p.bu
abbrev eu(ps:List aK):Prop:=cj ps.length/\∀p,p∈ps->li p
def dE(p:aK):Bool:=kU p.name&&eI p.a8&&rj p.name p.bb&&eC p.bu
theorem CF(a)(hb:li ⟨a.1.1.1,a.1.1.2.1,a.1.1.2.2.1,a.1.1.2.2.2.1⟩):f98 a=some ((dE ⟨a.1.1.1,a.1.1.2.1,a.1.1.2.2.1,a.1.1.2.2.2.1⟩,()),()):=by
 obtain⟨⟨⟨n,v,aA,t,u⟩,bF⟩,iH⟩:=a;obtain⟨h1,h2,aa,aH⟩:=hb;have h1:n.length<=2097152:=h1;have e1:=Lv ((n,()),()) (show n.length<=1099511627776 by omega)
 have e2:=JM ((v,()),()) h2;have bK:=YF ((n,(aA,())),()) aa h1;have c_:=Lz ((t,()),()) aH;simp only[f98,e1,e2,bK,c_,Option.bind_some,dE];cases kU n<;>cases eI v<;>cases rj n aA<;>rfl
theorem KG(a)(hb:li ⟨a.1.1.1,a.1.1.2.1,a.1.1.2.2.1,a.1.1.2.2.2.1⟩):f74 a=some ((dE ⟨a.1.1.1,a.1.1.2.1,a.1.1.2.2.1,a.1.1.2.2.2.1⟩,()),()):=by
 obtain⟨⟨⟨n,v,aA,t,u⟩,bF⟩,iH⟩:=a;obtain⟨h1,h2,aa,aH⟩:=hb;have h1:n.length<=2097152:=h1;have e1:=Ju ((n,()),()) (show n.length<=1099511627776 by omega)
 have e2:=BE ((v,()),()) h2;have bK:=YR ((aA,((),())),()) aa;have c_:=wQ ((t,()),()) aH;have fh:=VZ ((aA,((),(([n]:List al),()))),()) aa (Nat.le_refl _);have di:decide ((aA.length:Int)>6)=!decide (aA.length<=6):=by by_cases h:aA.length<=6<;>simp only[h,decide_true,decide_false,Bool.not_true,Bool.not_false,decide_eq_true_eq,decide_eq_false_iff_not]<;>omega
 have Y:jI [] (n::aA.map (·.name))=jI [n] (aA.map (·.name)):=by simp[jI]
 simp only[f74,E9,e1,e2,Option.bind_some,dE,rj,Y,di,Bool.not_not];cases kU n with
 |false=>rfl
 |true=>
  cases eI v with
  |false=>rfl
  |true=>
   cases decide (aA.length<=6) with
   |false=>simp only[cond_true,Bool.not_false,Option.bind_some,Bool.and_false,Bool.false_and]
   |true=>
    simp only[cond_true,Bool.not_true,cond_false,Option.bind_some,bK,fh,c_,Bool.true_and,Bool.and_true];cases List.all aA hN<;>cases jI [n] (aA.map (·.name))<;>rfl
theorem YQ(a)(M:eu a.1.1):zw a=some ((a.1.1.all dE,()),()):=by
 obtain⟨⟨ps,u⟩,bF⟩:=a;obtain⟨hl,hn⟩:=M;have hl:ps.length<=2097152:=hl;have key:Cm (((),(ps,((ps.length:Int),((0:Int),())))),())=some (bif allI (fun _ n=>dE n) 0 ps then .inr ((),()) else .inl ((false,()),())):=by
  refine fD xe ps (fun i=>(((),(ps,((ps.length:Int),((i:Int),())))),())) _ _ _ (fun i x hx=>?_) ?_
  ·have hi:=cc hx;have hw:aF i:=by unfold aF;omega
   have hb:=hn x (List.mem_of_getElem? hx);simp only[xe,ce hi,cond_true,b0,hx,Option.bind_some];rw[KG _ hb];simp only[Option.bind_some,b' hw];cases dE x<;>rfl
  ·simp only[xe,cU,cond_false]
 rw[gV] at key;simp only[zw,key,Option.bind_some];cases List.all ps dE<;>rfl
def mE(ps:List aK)(i:Nat)(x:aK):Bool:=match ps[i]? with
 |some q=>Op.bytesLess q.name x.name
 |none=>false
def kb(ps:List aK):Bool:=allI (mE ps) 0 ps.tail
theorem Vz(a)(M:cj a.1.1.length):f141 a=some ((kb a.1.1,()),()):=by
 obtain⟨⟨ps,u⟩,bF⟩:=a;have M:ps.length<=2097152:=M;have key:D7 ((ps,((1:Int),())),())=some (bif allI (mE ps) 0 ps.tail then .inr ((),()) else .inl ((false,()),())):=by
  refine fD yy ps.tail (fun i=>((ps,(((i+1:Nat):Int),())),())) _ _ _ (fun i x hx=>?_) ?_
  ·have kg:ps[i+1]? =some x:=by rw[List.getElem?_tail] at hx;exact hx
   have hi:=cc kg;have hw:aF (i+1):=by unfold aF;omega
   obtain⟨q,ay⟩:∃q,ps[i]? =some q:=⟨ps[i],List.getElem?_eq_getElem (by omega)⟩
   simp only[yy,ce hi,cond_true,tz (i:=i) (by unfold aF;omega),b0,ay,kg,Option.bind_some,b' hw,mE]
   cases Op.bytesLess q.name x.name<;>rfl
  ·have:decide (((ps.tail.length+1:Nat):Int)<(ps.length:Int))=false:=by
    simp only[decide_eq_false_iff_not,List.length_tail];omega
   simp only[yy,this,cond_false]
 simp only[f141,key,Option.bind_some,kb];cases allI (mE ps) 0 ps.tail<;>rfl
def jP(a b:a5):Bool:=a.path==b.path&&(a.kind==b.kind&&(a.mode==b.mode&&a.text==b.text))
def lQ(e q:a5):Bool:=e.kind !=1||!jP e q
theorem aao(a b:a5):jP a b=jP b a:=by
 unfold jP;have h1:(a.path==b.path)=(b.path==a.path):=BEq.comm;have h2:(a.kind==b.kind)=(b.kind==a.kind):=BEq.comm;have aa:(a.mode==b.mode)=(b.mode==a.mode):=BEq.comm;have aH:(a.text==b.text)=(b.text==a.text):=BEq.comm;rw[h1,h2,aa,aH]
theorem ab0(e q:a5):lQ e q=(q.kind !=1||!jP e q):=by
 unfold lQ;cases h:jP e q with
 |false=>simp
 |true=>
  unfold jP at h;simp only[Bool.and_eq_true] at h;rw[show e.kind=q.kind from eq_of_beq h.2.1]
def h6(t:List a5)(k:Nat)(e:a5):List a5:=t.take k++[e]++t.drop k
def gn(out:List a5):List a5->Option (List a5)
 |[]=>some out
 |e::r=>match out[bS out e.path]? with
  |some q=>bif q.path==e.path then(bif lQ e q then none else gn out r) else gn (h6 out (bS out e.path) e) r
  |none=>gn (h6 out (bS out e.path) e) r
theorem K_(t:List a5)(k:Nat)(e:a5)(h:k<=t.length):(h6 t k e).length=t.length+1:=by
 unfold h6;simp only[List.length_append,List.length_take,List.length_cons,List.length_nil,List.length_drop];omega
theorem Co{t:List a5}{k:Nat}{e x:a5}(h:x∈h6 t k e):x=e\/x∈t:=by
 unfold h6 at h;rcases List.mem_append.1 h with h|h
 ·rcases List.mem_append.1 h with h|h
  ·exact .inr (List.mem_of_mem_take h)
  ·exact .inl (by simpa using h)
 ·exact .inr (List.mem_of_mem_drop h)
def g4(out:List a5)(e:a5):Option (List a5):=match out[bS out e.path]? with
 |some q=>bif q.path==e.path then(bif lQ e q then none else some out) else some (h6 out (bS out e.path) e)
 |none=>some (h6 out (bS out e.path) e)
theorem tw(out:List a5)(e:a5)(r:List a5):gn out (e::r)=(g4 out e).bind fun D=>gn D r:=by
 unfold g4;rw[gn];cases out[bS out e.path]? with
 |none=>rfl
 |some q=>
  simp only;cases (q.path==e.path) with
  |false=>rfl
  |true=>cases lQ e q<;>rfl
theorem wR{out D:List a5}{e:a5}(h:g4 out e=some D):D.length<=out.length+1:=by
 unfold g4 at h;split at h
 ·rename_i q ay;cases aj:(q.path==e.path) with
  |true=>
   rw[aj] at h;cases hc:lQ e q with
   |true=>rw[hc] at h;cases h
   |false=>rw[hc] at h;cases h;omega
  |false=>rw[aj] at h;cases h;rw[K_ _ _ _ (rh _ _)];omega
 ·cases h;rw[K_ _ _ _ (rh _ _)];omega
theorem Ca{out D:List a5}{e x:a5}(h:g4 out e=some D)(hx:x∈D):x=e\/x∈out:=by
 unfold g4 at h;split at h
 ·rename_i q ay;cases aj:(q.path==e.path) with
  |true=>
   rw[aj] at h;cases hc:lQ e q with
   |true=>rw[hc] at h;cases h
   |false=>rw[hc] at h;cases h;exact .inr hx
  |false=>rw[aj] at h;cases h;exact Co hx
 ·cases h;exact Co hx
theorem M0{t:List a5}{e:a5}(a3:eW t)(hn:iy t e.path=false):eW (h6 t (bS t e.path) e):=by
 have QI:∀a,a∈t.take (bS t e.path)->Op.bytesLess a.path e.path=true:=by
  intro a h;obtain⟨k,ag⟩:=List.mem_iff_getElem?.1 h;have Ts:k<bS t e.path:=by have:=cc ag;rw[List.length_take] at this;omega
  have vP:t[k]? =some a:=by rw[List.getElem?_take,if_pos Ts] at ag;exact ag
  rw[jy a3 k a vP];simpa using Ts
 have OT:∀a,a∈t.drop (bS t e.path)->Op.bytesLess e.path a.path=true:=by
  intro a h;obtain⟨k,ag⟩:=List.mem_iff_getElem?.1 h;rw[List.getElem?_drop] at ag;have h1:=jy (p:=e.path) a3 _ a ag;have h2:Op.bytesLess a.path e.path=false:=by rw[h1];simp
  refine adg _ _ h2 ?_
  cases ay:(a.path==e.path) with
  |false=>rfl
  |true=>
   exfalso
   cases k with
   |zero=>
    unfold iy at hn;rw[Nat.add_zero] at ag;rw[ag] at hn;simp only[ay] at hn;cases hn
   |succ k=>
    have aX:=cc ag;obtain⟨q,vJ⟩:∃q,t[bS t e.path]? =some q:=⟨_,List.getElem?_eq_getElem (by omega)⟩
    have aa:=List.pairwise_iff_getElem.1 a3 (bS t e.path) (bS t e.path+(k+1)) (cc vJ) aX (by omega)
    rw[(List.getElem?_eq_some_iff.1 vJ).2,(List.getElem?_eq_some_iff.1 ag).2] at aa;have aH:=jy (p:=e.path) a3 _ q vJ;rw[<-eq_of_beq ay,aa] at aH;simp at aH
 unfold eW h6;refine List.pairwise_append.2 ⟨List.pairwise_append.2 ⟨a3.take _,by simp,?_⟩,List.Pairwise.sublist (List.drop_sublist _ _) a3,?_⟩
 ·intro a h b hb;have hb:b=e:=by simpa using hb
  subst hb;exact QI a h
 ·intro a h b hb;rcases List.mem_append.1 h with h|h
  ·exact rb _ _ _ (QI a h) (OT b hb)
  ·have h:a=e:=by simpa using h
   subst h;exact OT b hb
theorem Y2{out D:List a5}{e:a5}(a3:eW out)(h:g4 out e=some D):eW D:=by
 unfold g4 at h;have l0:∀{b:Bool},iy out e.path=b->b=false->eW (h6 out (bS out e.path) e):=fun h1 h2=>M0 a3 (h1.trans h2)
 split at h
 ·rename_i q ay;cases aj:(q.path==e.path) with
  |true=>
   rw[aj] at h;cases hc:lQ e q with
   |true=>rw[hc] at h;cases h
   |false=>rw[hc] at h;cases h;exact a3
  |false=>rw[aj] at h;cases h;exact l0 (by unfold iy;rw[ay]) aj
 ·rename_i ay;cases h;exact l0 (by unfold iy;rw[ay]) rfl
theorem _e(a)(a3:lS a.1.1)(hb:lS a.1.2.1)(hl:a.1.1.length+a.1.2.1.length<=2097152):f96 a=
  some (match gn a.1.1 a.1.2.1 with|some out=>(((),(eC out,())),(out,()))|none=>(((),(false,())),(([]:List a5),()))):=by
 obtain⟨⟨xs,ys,u⟩,bF⟩:=a;have hl:xs.length+ys.length<=2097152:=hl;have hc:f156 ((xs,()),())=some (((),()),(xs,())):=by
  simp only[f156];rw[gC (by decide) (by unfold aF;simp only[List.length_nil];omega)]
  rfl
 have key:EP ((ys,((),((0:Int),()))),(xs,()))=_:=mm zb ys (fun i (out:List a5)=>((ys,((),((i:Int),()))),(out,())))
  (fun i e out=>some (match g4 out e with|some D=>.inl D|none=>.inr ((.inl (((),(false,())),(([]:List a5),()))):aQ oG))) (fun out=>((.inr (((),()),(out,()))):aQ oG))
  (fun i out=>out.length<=xs.length+i/\∀e,e∈out->m6 e) xs ⟨Nat.le_refl _,a3.2⟩ (fun i x out hx cZ=>?_) (fun out _=>?_)
 ·have fold:∀(r:List a5) (k:Nat) (out:List a5),eD (fun i e out=>some (match g4 out e with|some D=>.inl D|none=>.inr ((.inl (((),(false,())),(([]:List a5),()))):aQ oG))) (fun out=>((.inr (((),()),(out,()))):aQ oG)) k r out=
    some (match gn out r with|some D=>.inr (((),()),(D,()))|none=>.inl (((),(false,())),(([]:List a5),()))):=by
   intro r;induction r with
   |nil=>intro k out;rfl
   |cons e r ih=>
    intro k out;rw[tw];simp only[eD];cases g4 out e with
    |none=>rfl
    |some D=>simp only[Option.bind_some];exact ih _ _
  have mem:∀(r:List a5) (out D:List a5),(∀e,e∈r->m6 e)->(∀e,e∈out->m6 e)->gn out r=some D->D.length<=out.length+r.length/\∀e,e∈D->m6 e:=by
   intro r;induction r with
   |nil=>intro out D _ h2 h;cases h;exact⟨Nat.le_refl _,h2⟩
   |cons e r ih=>
    intro out D h1 h2 h;rw[tw] at h;obtain⟨o1,aa,aH⟩:=Option.bind_eq_some_iff.1 h;have bD:=ih o1 D (fun x hx=>h1 x (List.mem_cons_of_mem _ hx)) (fun x hx=>by
     rcases Ca aa hx with rfl|h
     ·exact h1 x List.mem_cons_self
     ·exact h2 x h) aH
    have di:=wR aa;exact⟨by simp only[List.length_cons];omega,bD.2⟩
  rw[fold] at key;simp only[f96,hc,Option.bind_some,key];cases hj:gn xs ys with
  |none=>rfl
  |some D=>
   have hm:=mem ys xs D hb.2 a3.2 hj;simp only[Option.bind_some];rw[Lz _ ⟨show D.length<=2097152 by omega,hm.2⟩]
   rfl
 ·have hi:=cc hx;have hw:aF i:=by unfold aF;omega
  refine⟨?_,fun am ab=>?_⟩
  ·have kt:=M7 ((out,(x.path,())),()) (show out.length<=2097152 by omega)
   have kj:=rh out x.path;simp only[zb,ce hi,cond_true,b0,hx,Option.bind_some,kt,C2,iy,g4];have grow:((dy out 0 (bS out x.path:Int)).bind fun afw=>(dv 48 ([]:List a5) afw).bind fun afv=>(dv 48 afv ([x]:List a5)).bind fun afu=>(dy out (bS out x.path:Int) (out.length:Int)).bind fun aft=>(dv 48 afu aft).bind fun afs=>
     (some (.inl ((ys,((),((IntKind.i64.wrap ((i:Int)+(1:Int))),()))),(afs,()))):Option (Sum uj.H (aQ oG))))=some (.inl ((ys,((),(((i+1:Nat):Int),()))),(h6 out (bS out x.path) x,()))):=by
    have hlen:(out.take (bS out x.path)).length<=out.length:=by rw[List.length_take];omega
    have anV:(out.drop (bS out x.path)).length<=out.length:=by rw[List.length_drop];omega
    rw[pG kj,Option.bind_some,gC (by decide) (by unfold aF;simp only[List.length_nil];omega),Option.bind_some,gC (by decide) (by unfold aF;simp only[List.length_nil,List.length_cons,List.nil_append];omega),Option.bind_some,B' kj,Option.bind_some,
     gC (by decide) (by unfold aF;simp only[List.length_append,List.length_nil,List.length_cons,List.nil_append];omega),Option.bind_some,b' hw]
    rfl
   cases ay:out[bS out x.path]? with
   |none=>simp only[cond_false,Option.bind_some,Bool.not_false,cond_true,b0,hx];exact grow
   |some q=>
    have hin:=lu (cc ay);simp only;cases aj:(q.path==x.path) with
    |false=>simp only[cond_false,Option.bind_some,Bool.not_false,cond_true,b0,hx];exact grow
    |true=>
     have A0:((x.path==q.path)&&((x.kind==q.kind)&&((x.mode==q.mode)&&(x.text==q.text))))=jP x q:=rfl;rw[ab0];simp only[cond_true,hin,ay,Option.bind_some,b0,hx,A0];cases ag:(q.kind !=1) with
     |true=>rfl
     |false=>
      simp only[cond_false,Option.bind_some,Bool.false_or];cases jP x q with
      |false=>rfl
      |true=>simp only[Bool.not_true,cond_false,Option.bind_some,b' hw];rfl
  ·simp only[Option.some.injEq] at ab;cases M:g4 out x with
   |none=>rw[M] at ab;cases ab
   |some D=>
    rw[M] at ab;cases ab;have di:=wR M;refine⟨by omega,fun e he=>?_⟩
    rcases Ca M he with rfl|h
    ·exact hb.2 e (List.mem_of_getElem? hx)
    ·exact cZ.2 e h
 ·simp only[zb,cU,cond_false]
abbrev i159:Shape:=⟨[aV 0 .entry],[],8⟩
abbrev F4:Shape:=⟨[b3 2 3000128],[ci 3000128 .entry 2 0],8⟩
noncomputable def f159(a:i159.H):Option F4.H:=
 ns (t:=.entry) a.1.1 (some (((),()),([]:List a5),())) ((dv 48 ([]:List a5) a.1.1).bind fun b=>
 some (((),()),b,()))
noncomputable def GL:aU:=ba ap Tryz.f159 i159 F4 [] f159
theorem O':a4 Z 159 GL:=bc g0 Tryz.func159 (by kernel_rfl) ar (fun y=>by kernel_rfl) fun a=>by kernel_rfl
noncomputable abbrev alF:bq:=[(96,TZ)]
theorem UC:a9 Z (bm ap alF):=bz ⟨ah2,⟨⟩⟩
abbrev y1:Shape:=⟨[aV 0 .pack,b3 4 3000256,ae 5],[ci 3000256 .entry 4 0],30⟩
abbrev pK:List bg:=[(.ret,⟨[b3 2 3000128,aY 3],[ci 3000128 .entry 2 0],30⟩),(.exit 0,⟨[b3 4 3000256],[ci 3000256 .entry 4 0],30⟩)]
noncomputable def zl(y:y1.H):cy y1 pK:=
 bif(decide (y.1.2.2.1<(y.1.1.length:Int))) then
(bl y.1.1 y.1.2.2.1).bind fun a=>
(f96 ((y.2.1,a.bu,()),())).bind fun b=>
 bif(!b.1.2.1) then
 some (.inr (.inl (((),false,()),([]:List a5),())))
else
 some (.inl ((y.1.1,(),(IntKind.i64.wrap (y.1.2.2.1+(1:Int))),()),b.2.1,()))
else
 some (.inr (.inr (((),()),y.2.1,())))
noncomputable def E0:y1.H->Option (aQ pK):=bO zl
theorem acL:bw Z (aI (codeOf Tryz.f51) 1 58) (bJ y1 pK E0):=cD UC (by kernel_rfl) ar fun y=>by kernel_rfl
abbrev i51:Shape:=⟨[aV 0 .pack],[],30⟩
abbrev SQ:Shape:=⟨[b3 2 3000128,aY 3],[ci 3000128 .entry 2 0],30⟩
noncomputable def f51(a:i51.H):Option SQ.H:=
(E0 ((a.1.1,(),(0:Int),()),([]:List a5),())).bind fun b=>
(match b with
|.inl c=>
 some (((),c.1.2.1,()),c.2.1,())
|.inr d=>
 some (((),true,()),d.2.1,()))
noncomputable def Ua:aU:=ba ap Tryz.f51 i51 SQ [] f51
theorem aif:a4 Z 51 Ua:=bc UC Tryz.func51 (by kernel_rfl) (bN acL ar) (fun y=>by kernel_rfl) fun a=>by kernel_rfl
theorem ZI(g n c i vb m vc:Nat)(cur vcur:Array Value)(te ve:TypeId)(w:World)(hi:i<n)(hm:0<m)(hroom:n+m<=c)(hc63:c<=9223372036854775807)(hne:vb≠g)
  (hg:w.heap[g]? =some (.cells cur te (0,0))) (hv:w.heap[vb]? =some (.cells vcur ve (0,0))) (hcs:cur.size=c*4) (hvs:m*4<=vcur.size)
  (h1c:∀v∈cur.toList.take (n*4),v.oneCell'=true) (h1v:∀v∈vcur.toList.take (m*4),v.oneCell'=true):
  Calls Z 160 #[.slice (some ⟨g,0,none⟩) n c,.int .i64 i,.slice (some ⟨vb,0,none⟩) m vc] w fun e w'=>
   e=.returned (.slice (some ⟨g,0,none⟩) (n+m) c)/\w'=w.drew.setRow g (a_ (a_ cur.toList ((i+m)*4) ((cur.toList.take (n*4)).drop (i*4))) (i*4) (vcur.toList.take (m*4))).toArray:=by
 have t33:Z.underlying 26=some (.slice 73):=by kernel_rfl
 have hsz:(Z.info? 73).map (·.size)=some 4:=by kernel_rfl
 have hz1:¬((m:Int)=0):=by omega
 have hz2:¬((i:Int)=(n:Int)):=by omega
 have hov:∀off lb cb,(callFunc 213 #[.slice (some ⟨vb,0,none⟩) m vc,.slice (some ⟨g,off,none⟩) lb cb]).run Z w=.ok (.value (.bool false)) w:=fun off lb cb=>by
  rw[run_callFunc_extern Tryz.func213 (by kernel_rfl) (by kernel_rfl) (by kernel_rfl) (e:=Extern.SlicesOverlaps.overlaps #[26,26] #[4]) (by kernel_rfl),
   Lib.run_overlaps_apart w 26 4 73 t33 4 (fun w=>by kernel_rfl) ⟨vb,0,none⟩ ⟨g,off,none⟩ m vc lb cb hne ve te vcur.size cur.size (by simp[World.shape?,hv]) (by simp[World.shape?,hg]) (by omega) (by simp[World.frozen?,hv]) (by simp[World.frozen?,hv])]
  rfl
 have hdl:((cur.toList.take (n*4)).drop (i*4)).length=(n-i)*4:=by simp only[List.length_drop,List.length_take,Array.length_toList,hcs];rw[Nat.min_eq_left (by omega),Nat.sub_mul]
 have hcl:∀j v,(cur.toList.take (n*4))[j]? =some v->w.cell? ⟨g,j,none⟩=some v:=fun j v h=>by
  rw[List.getElem?_take] at h;split at h
  ·simpa[World.cell?,hg] using h
  ·cases h
 have hcv:∀j v,(vcur.toList.take (m*4))[j]? =some v->w.cell? ⟨vb,j,none⟩=some v:=fun j v h=>by
  rw[List.getElem?_take] at h;split at h
  ·simpa[World.cell?,hv] using h
  ·cases h
 have hcp1:∀ty dc sc,(Builtin.copy_ #[26,26] ty #[.slice (some ⟨g,(i+m)*4,none⟩) (n+m-(i+m)) dc,.slice (some ⟨g,i*4,none⟩) (n+m-i) sc]).run Z w.drew=
   .ok (goInt (Nat.min (n+m-i) (n+m-(i+m)))) (w.drew.setRow g (a_ cur.toList ((i+m)*4) ((cur.toList.take (n*4)).drop (i*4))).toArray):=fun ty dc sc=>
  ot w.drew _ _ ty 73 4 g ((i+m)*4) (n+m-(i+m)) dc ⟨g,i*4,none⟩ (n+m-i) sc cur te _ t33 hsz hg (by rw[hdl];simp only[Nat.min_def];split<;>omega)
   (fun j v hj=>by rw[Addr.add_lit];exact hcl (i*4+j) v (by rwa[List.getElem?_drop] at hj)) (by rw[hdl,hcs];omega) (fun v hv=>h1c v (List.mem_of_mem_drop hv))
 obtain⟨cur1,hcur1⟩:∃cur1,cur1=(a_ cur.toList ((i+m)*4) ((cur.toList.take (n*4)).drop (i*4))).toArray:=⟨_,rfl⟩;rw[<-hcur1] at hcp1;have hc1s:cur1.size=c*4:=by rw[hcur1];simp only[a_,List.size_toArray,List.length_append,List.length_drop,List.length_take,Array.length_toList,hcs];omega
 have hcp2:∀(W:World),W.heap=(w.drew.setRow g cur1).heap->∀ty dc,(Builtin.copy_ #[26,26] ty #[.slice (some ⟨g,i*4,none⟩) (n+m-i) dc,.slice (some ⟨vb,0,none⟩) m vc]).run Z W=
   .ok (goInt (Nat.min m (n+m-i))) (W.setRow g (a_ cur1.toList (i*4) (vcur.toList.take (m*4))).toArray):=fun W hW ty dc=>
  ot W _ _ ty 73 4 g (i*4) (n+m-i) dc ⟨vb,0,none⟩ m vc cur1 te _ t33 hsz (by rw[hW];exact setRow_heap w.drew g cur cur1 te (0,0) hg)
   (by simp only[List.length_take,Array.length_toList,Nat.min_def];split<;>split<;>omega)
   (fun j v hj=>by
    have:=hcv j v hj;rw[Addr.add_lit,Nat.zero_add];unfold World.cell? at this ⊢;rw[hW,show(w.drew.setRow g cur1).heap[vb]? =w.heap[vb]? from setRow_other w.drew g vb cur1 hne];exact this) (by simp only[List.length_take,Array.length_toList];omega) h1v
 have hE:w.drew.setRow g (a_ (a_ cur.toList ((i+m)*4) ((cur.toList.take (n*4)).drop (i*4))) (i*4) (vcur.toList.take (m*4))).toArray=(w.drew.setRow g cur1).setRow g (a_ cur1.toList (i*4) (vcur.toList.take (m*4))).toArray:=by
  rw[setRow_setRow,hcur1]
 rw[hE];clear hE hcur1;have hw1:IntKind.i64.wrap ((i:Int)+(m:Int))=(i:Int)+(m:Int):=by rw[IntKind.wrap_i64];omega
 have hb1:(0:Int)<=(i:Int)+(m:Int):=by omega
 have hin:i<=n:=by omega
 have htn:((i:Int)+(m:Int)).toNat=i+m:=by omega
 have hb2:¬(c=i+m):=by omega
 have hb3:(i:Int)<=(n:Int)+(m:Int):=by omega
 have hb4:¬(c=i):=by omega
 go_enter Tryz.func160,Tryz.ntmps160
 go_wp2_with (simp only[hov])
 go_region_law (refine wI rfl _ _ 26 26 rfl (.slice (some ⟨g,(i+m)*4,none⟩) (n+m-(i+m)) (c-(i+m))) (.slice (some ⟨g,i*4,none⟩) (n+m-i) (c-i)) (by simp[Act.eval,Act.put]) (by simp[Act.eval,Act.put]) (hcp1 _ _ _) ?_)
 go_wp2_with (at_builtin;refine wF _ rfl _ _ 26 26 rfl _ _ rfl rfl (hcp2 _ rfl _ _) ?_)
 go_ret
 exact⟨rfl,rfl⟩
theorem ZK(xa:Option Addr)(vc:Nat)(w:World):
  Calls Z 160 #[.slice none 0 0,.int .i64 0,.slice xa 0 vc] w fun e w'=>e=.returned (.slice none 0 0)/\w'=w:=by
 go_enter Tryz.func160,Tryz.ntmps160
 go_wp2
 go_ret
 exact⟨rfl,rfl⟩
theorem ZJ(g n c i:Nat)(xa:Option Addr)(vc:Nat)(w:World)(hi:i<=n)(hnc:n<=c)(hc63:c<=9223372036854775807):
  Calls Z 160 #[.slice (some ⟨g,0,none⟩) n c,.int .i64 i,.slice xa 0 vc] w fun e w'=>e=.returned (.slice (some ⟨g,0,none⟩) n c)/\w'=w:=by
 go_enter Tryz.func160,Tryz.ntmps160
 go_wp2
 all_goals(go_ret;exact⟨rfl,rfl⟩)
theorem aag(xa:Option Addr)(m vc:Nat)(w:World)(hm:0<m)(v':Value)(W:World)(hr:∀ty,(Builtin.append_ #[26,26] ty #[.slice none 0 0,.slice xa m vc]).run Z w=.ok v' W):
  Calls Z 160 #[.slice none 0 0,.int .i64 0,.slice xa m vc] w fun e w'=>e=.returned v'/\w'=W:=by
 have hz1:¬((m:Int)=0):=by omega
 go_enter Tryz.func160,Tryz.ntmps160
 go_wp2_with (at_builtin;refine qU _ rfl _ _ 26 26 rfl _ _ rfl rfl (hr _) ?_)
 go_ret
 exact⟨rfl,rfl⟩
theorem aaf(g n c:Nat)(xa:Option Addr)(m vc:Nat)(w:World)(hnc:n<=c)(hc63:c<=9223372036854775807)(hm:0<m)(v':Value)(W:World)(hr:∀ty,(Builtin.append_ #[26,26] ty #[.slice (some ⟨g,0,none⟩) n c,.slice xa m vc]).run Z w=.ok v' W):
  Calls Z 160 #[.slice (some ⟨g,0,none⟩) n c,.int .i64 n,.slice xa m vc] w fun e w'=>e=.returned v'/\w'=W:=by
 have hz1:¬((m:Int)=0):=by omega
 go_enter Tryz.func160,Tryz.ntmps160
 go_wp2_with (at_builtin;refine qU _ rfl _ _ 26 26 rfl _ _ rfl rfl (hr _) ?_)
 all_goals(go_ret;exact⟨rfl,rfl⟩)
theorem aae(g n c i vb m vc:Nat)(cur vcur:Array Value)(te ve:TypeId)(w:World)(hi:i<n)(hm:0<m)(hnc:n<=c)(hroom:c<n+m)(hc63:c<=9223372036854775807)(hbig:(n+m)*48<=140737488355328)
  (hg:w.heap[g]? =some (.cells cur te (0,0))) (hv:w.heap[vb]? =some (.cells vcur ve (0,0))) (hcs:cur.size=c*4) (hvs:m*4<=vcur.size)
  (h1c:∀v∈cur.toList.take (n*4),v.oneCell'=true) (h1v:∀v∈vcur.toList.take (m*4),v.oneCell'=true):
  ∃G ROW,∃W:World,G<=maxLen/\n+m<=G/\ROW.size=G*4/\ROW.toList.take (i*4)=cur.toList.take (i*4)/\W.os=w.os/\W.tape=w.tape/\W.output=w.output/\W.heap=w.heap.push (.cells ROW 73 (0,0))/\
  Calls Z 160 #[.slice (some ⟨g,0,none⟩) n c,.int .i64 i,.slice (some ⟨vb,0,none⟩) m vc] w fun e w'=>
   e=.returned (.slice (some ⟨w.heap.size,0,none⟩) (n+m) G)/\w'.os=w.os/\w'.tape=w.tape/\w'.output=w.output/\
    w'.heap=(W.setRow w.heap.size (a_ (a_ ROW.toList (i*4) (vcur.toList.take (m*4))) ((i+m)*4) ((cur.toList.take (n*4)).drop (i*4))).toArray).heap:=by
 have t33:Z.underlying 26=some (.slice 73):=by kernel_rfl
 have t3:Z.underlying 3=some (.int .i64):=by kernel_rfl
 have hsz:(Z.info? 73).map (·.size)=some 4:=by kernel_rfl
 have hinfo:(Z.info? 73).map (fun i=>(i.zero.map (·.cells.size),i.size,i.bytes))=some (some 4,4,48):=by kernel_rfl
 obtain⟨i0,hi0,hzz⟩:=Option.map_eq_some_iff.1 hinfo;simp only[Prod.mk.injEq] at hzz;obtain⟨hz0,hzs,hzb⟩:=hzz;obtain⟨z,hz,hzc⟩:=Option.map_eq_some_iff.1 hz0;have hz1:¬((m:Int)=0):=by omega
 have hz2:¬((i:Int)=(n:Int)):=by omega
 have hz3:(c:Int)<(n:Int)+(m:Int):=by omega
 have hgw:g<w.heap.size:=(Array.getElem?_eq_some_iff.1 hg).1;have hvw:vb<w.heap.size:=(Array.getElem?_eq_some_iff.1 hv).1;have hkk:(n:Int)+(m:Int)-(i:Int)=((n+m-i:Nat):Int):=by omega
 have hik:i+(n+m-i)=n+m:=by omega
 have hdl:((cur.toList.take (n*4)).drop (i*4)).length=(n-i)*4:=by simp only[List.length_drop,List.length_take,Array.length_toList,hcs];rw[Nat.min_eq_left (by omega),Nat.sub_mul]
 have hcl:∀j v,(cur.toList.take (n*4))[j]? =some v->w.cell? ⟨g,j,none⟩=some v:=fun j v h=>by
  rw[List.getElem?_take] at h;split at h
  ·simpa[World.cell?,hg] using h
  ·cases h
 have hcv:∀j v,(vcur.toList.take (m*4))[j]? =some v->w.cell? ⟨vb,j,none⟩=some v:=fun j v h=>by
  rw[List.getElem?_take] at h;split at h
  ·simpa[World.cell?,hv] using h
  ·cases h
 have hold:(Builtin.firstCells i0.size i (.slice (some ⟨g,0,none⟩) i c)).run Z w.drew=.ok (cur.toList.take (i*4)).toArray w.drew:=by
  rw[hzs];exact run_firstCells_some w.drew 4 i ⟨g,0,none⟩ i c (cur.toList.take (i*4)) (by simp only[List.length_take,Array.length_toList,hcs];omega) (fun j v hj=>by
   rw[Addr.add_lit,Nat.zero_add];refine hcl j v ?_
   rw[List.getElem?_take] at hj ⊢;split at hj
   ·rw[if_pos (by omega)];exact hj
   ·cases hj)
 have hrz:∀ty,(Builtin.append_ #[26,3] ty #[.slice (some ⟨g,0,none⟩) i c,.int .i64 ((n:Int)+(m:Int)-(i:Int))]).run Z w=
   .ok (.slice (some ⟨w.heap.size,0,none⟩) (n+m) (grownCap w (n+m) c 73)) (w.drew.alloc (.cells ((cur.toList.take (i*4)).toArray++Builtin.zeroCells z.cells (n+m-i)++Builtin.zeroCells z.cells (grownCap w (n+m) c 73-(n+m))) 73)):=fun ty=>by
  have h:=Lib.run_append_grow_zeros w 26 3 ty 73 i0 z .i64 .i64 t33 t3 hi0 hz (some ⟨g,0,none⟩) i c (cur.toList.take (i*4)) hold (n+m-i) (by omega) (by omega) (by omega) (by omega) (by rw[hzb];omega) (by rw[hzb,hik];exact growslice_fits hroom hbig)
  rw[hik] at h;rw[hkk];exact h
 obtain⟨G,hG⟩:∃G,G=grownCap w (n+m) c 73:=⟨_,rfl⟩;obtain⟨ROW,hROW⟩:∃ROW:Array Value,ROW=(cur.toList.take (i*4)).toArray++Builtin.zeroCells z.cells (n+m-i)++Builtin.zeroCells z.cells (G-(n+m)):=⟨_,rfl⟩;rw[<-hG] at hrz;rw[<-hROW] at hrz;have hGn:n+m<=G:=by rw[hG];exact grownCap_ge w _ _ _
 have hGm:G<=maxLen:=by rw[hG];exact grownCap_le_maxLen w (n+m) c 73 (by unfold maxLen;omega)
 have hG63:G<=9223372036854775807:=by unfold maxLen at hGm;omega
 have hRl:ROW.size=G*4:=by
  rw[hROW];simp only[Array.size_append,List.size_toArray,size_zeroCells,hzc,List.length_take,Array.length_toList,hcs];omega
 have hRt:ROW.toList.take (i*4)=cur.toList.take (i*4):=by
  rw[hROW];simp only[Array.toList_append,List.append_assoc];have:i*4=(cur.toList.take (i*4)).length:=by simp only[List.length_take,Array.length_toList,hcs];omega
  exact List.take_left' this.symm
 refine⟨G,ROW,w.drew.alloc (.cells ROW 73),hGm,hGn,hRl,hRt,rfl,rfl,rfl,rfl,?_⟩;obtain⟨W1,hW1⟩:∃W1,W1=w.drew.alloc (.cells ROW 73):=⟨_,rfl⟩;rw[<-hW1] at hrz ⊢;have hNew:W1.heap[w.heap.size]? =some (.cells ROW 73 (0,0)):=by rw[hW1];exact heap_alloc_new w.drew _
 have hOld:∀b,b<w.heap.size->W1.heap[b]? =w.heap[b]? :=fun b hb=>by rw[hW1];exact RowKit.Below.heap_alloc w.drew _ b hb
 have hos:W1.os=w.os/\W1.tape=w.tape/\W1.output=w.output:=by rw[hW1];exact⟨rfl,rfl,rfl⟩
 have hgN:g≠w.heap.size:=by omega
 have hvN:vb≠w.heap.size:=by omega
 have hcpA:∀(W:World),W.heap=W1.heap->∀ty dc,(Builtin.copy_ #[26,26] ty #[.slice (some ⟨w.heap.size,i*4,none⟩) (n+m-i) dc,.slice (some ⟨vb,0,none⟩) m vc]).run Z W=
   .ok (goInt (Nat.min m (n+m-i))) (W.setRow w.heap.size (a_ ROW.toList (i*4) (vcur.toList.take (m*4))).toArray):=fun W hW ty dc=>
  ot W _ _ ty 73 4 w.heap.size (i*4) (n+m-i) dc ⟨vb,0,none⟩ m vc ROW 73 _ t33 hsz (by rw[hW];exact hNew)
   (by simp only[List.length_take,Array.length_toList,Nat.min_def];split<;>split<;>omega)
   (fun j v hj=>by
    have:=hcv j v hj;rw[Addr.add_lit,Nat.zero_add];unfold World.cell? at this ⊢;rw[hW,show W1.heap[vb]? =w.heap[vb]? from hOld vb hvw];exact this) (by simp only[List.length_take,Array.length_toList];omega) h1v
 obtain⟨R2,hR2⟩:∃R2,R2=(a_ ROW.toList (i*4) (vcur.toList.take (m*4))).toArray:=⟨_,rfl⟩;have hE:W1.setRow w.heap.size (a_ (a_ ROW.toList (i*4) (vcur.toList.take (m*4))) ((i+m)*4) ((cur.toList.take (n*4)).drop (i*4))).toArray=
   (W1.setRow w.heap.size R2).setRow w.heap.size (a_ R2.toList ((i+m)*4) ((cur.toList.take (n*4)).drop (i*4))).toArray:=by rw[setRow_setRow,hR2]
 rw[hE];have hR2s:R2.size=G*4:=by rw[hR2];simp only[a_,List.size_toArray,List.length_append,List.length_drop,List.length_take,Array.length_toList,hRl];omega
 rw[<-hR2] at hcpA;clear hE hR2;have hcpB:∀(W:World),W.heap=(W1.setRow w.heap.size R2).heap->∀ty dc sc,(Builtin.copy_ #[26,26] ty #[.slice (some ⟨w.heap.size,(i+m)*4,none⟩) (n+m-(i+m)) dc,.slice (some ⟨g,i*4,none⟩) (n-i) sc]).run Z W=
   .ok (goInt (Nat.min (n-i) (n+m-(i+m)))) (W.setRow w.heap.size (a_ R2.toList ((i+m)*4) ((cur.toList.take (n*4)).drop (i*4))).toArray):=fun W hW ty dc sc=>
  ot W _ _ ty 73 4 w.heap.size ((i+m)*4) (n+m-(i+m)) dc ⟨g,i*4,none⟩ (n-i) sc R2 73 _ t33 hsz (by rw[hW];exact setRow_heap W1 w.heap.size ROW R2 73 (0,0) hNew)
   (by rw[hdl];simp only[Nat.min_def];split<;>omega)
   (fun j v hj=>by
    have:=hcl (i*4+j) v (by rwa[List.getElem?_drop] at hj)
    rw[Addr.add_lit];unfold World.cell? at this ⊢;rw[hW,show(W1.setRow w.heap.size R2).heap[g]? =w.heap[g]? from(setRow_other W1 w.heap.size g R2 hgN).trans (hOld g hgw)];exact this) (by rw[hdl,hR2s];omega) (fun v hv=>h1c v (List.mem_of_mem_drop hv))
 have hGi:¬(G=i):=by omega
 have hGim:¬(G=i+m):=by omega
 have hci:¬(c=i):=by omega
 have hw1:IntKind.i64.wrap ((i:Int)+(m:Int))=(i:Int)+(m:Int):=by rw[IntKind.wrap_i64];omega
 have hb1:(0:Int)<=(i:Int)+(m:Int):=by omega
 have hin:i<=n:=by omega
 have htn:((i:Int)+(m:Int)).toNat=i+m:=by omega
 have hb3:(i:Int)<=(n:Int):=by omega
 clear hkk hik hold hROW hG hRl hW1;go_enter Tryz.func160,Tryz.ntmps160
 go_wp2_with (first
  |(at_builtin;refine qU _ rfl _ _ 26 3 rfl _ _ rfl rfl (hrz _) ?_)
  |(at_builtin;refine wF _ rfl _ _ 26 26 rfl _ _ rfl rfl (hcpA _ rfl _ _) ?_))
 go_region_law (refine wI rfl _ _ 26 26 rfl (.slice (some ⟨w.heap.size,(i+m)*4,none⟩) (n+m-(i+m)) (G-(i+m))) (.slice (some ⟨g,i*4,none⟩) (n-i) (c-i)) (by simp[Act.eval,Act.put]) (by simp[Act.eval,Act.put]) (hcpB (W1.setRow w.heap.size R2).drew rfl 3 (G-(i+m)) (c-i)) ?_)
 go_wp2
 go_ret
 exact⟨rfl,hos.1,hos.2.1,hos.2.2,rfl⟩
noncomputable def O1:aU:=Ea .entry 48
theorem adA:a4 Z 160 O1:=ZH (t:=.entry) (bt:=48) rfl (by decide) (T:=26) (e:=73) ⟨ZK,ZJ,aag,aaf,ZI,aae⟩ (fun vs w=>enters_of Tryz.func160 (by kernel_rfl) rfl _ _) (by kernel_rfl) (by kernel_rfl)
noncomputable abbrev ali:bq:=[(86,Ip),(87,Io),(159,GL),(160,O1)]
theorem Bj:a9 Z (bm ap ali):=bz ⟨R9,R8,O',adA,⟨⟩⟩
abbrev Nb:Shape:=⟨[aV 0 .entry,aV 1 .entry],[],59⟩
abbrev M9:List bg:=[(.norm,⟨[aV 0 .entry,aV 1 .entry,aY 18],[],59⟩)]
noncomputable def E6(y:Nb.H):Option (aQ M9):=
(f86 ((y.1.1,()),())).bind fun a=>
 bif(!(!a.1.1)) then
(f86 ((y.1.2.1,()),())).bind fun b=>
 some ((y.1.1,y.1.2.1,(!b.1.1),()),())
else
 some ((y.1.1,y.1.2.1,true,()),())
theorem acv:bw Z (aI (codeOf Tryz.f97) 1 12) (bJ Nb M9 E6):=ei Bj (by kernel_rfl) ar fun y=>by kernel_rfl
abbrev Ki:Shape:=⟨[b3 6 3000384,bf 8 8 0,ae 9,aV 21 .entry,ae 22,ae 23],[ci 3000384 .entry 6 0,be 8 [a6,cO,cO,a6]],59⟩
abbrev Kf:List bg:=[(.norm,⟨[b3 6 3000384,aV 21 .entry,ae 22,ae 23,aY 42,bf 43 8 1,ae 44,aY 45,aY 46,aY 53],[ci 3000384 .entry 6 0,be 8 [a6,cO,cO,a6]],59⟩)]
noncomputable def BW(y:Ki.H):Option (aQ Kf):=
 bif(y.2.2.1.2.1 !=(1:Int)) then
 some (((),y.1.2.2.2.1,y.1.2.2.2.2.1,y.1.2.2.2.2.2.1,true,(),y.2.2.1.2.1,(y.2.2.1.2.1 !=(1:Int)),true,true,()),y.2.1,(y.2.2.1.1,y.2.2.1.2.1,y.2.2.1.2.2.1,y.2.2.1.2.2.2.1,()),())
else
(e_ y.2.1.length y.1.2.2.1).bind fun a=>
(y.2.1[a]?).bind fun b=>
 some (((),y.1.2.2.2.1,y.1.2.2.2.2.1,y.1.2.2.2.2.2.1,(!((b.path==y.2.2.1.1)&&((b.kind==y.2.2.1.2.1)&&((b.mode==y.2.2.1.2.2.1)&&(b.text==y.2.2.1.2.2.2.1))))),(),y.2.2.1.2.1,(y.2.2.1.2.1 !=(1:Int)),false,(!((b.path==y.2.2.1.1)&&((b.kind==y.2.2.1.2.1)&&((b.mode==y.2.2.1.2.2.1)&&(b.text==y.2.2.1.2.2.2.1))))),()),y.2.1,(y.2.2.1.1,y.2.2.1.2.1,y.2.2.1.2.2.1,y.2.2.1.2.2.2.1,()),())
theorem XN:bw Z (aI (dD (aI (codeOf Tryz.f97) 1 122)) 244 250678) (bJ Ki Kf BW):=ei Bj (by kernel_rfl) ar fun y=>by kernel_rfl
abbrev xD:Shape:=⟨[b3 6 3000384,aV 21 .entry,ae 22,ae 23],[ci 3000384 .entry 6 0],59⟩
abbrev pF:List bg:=[(.ret,⟨[b3 4 3000256,aY 5],[ci 3000256 .entry 4 0],59⟩),(.exit 0,⟨[b3 6 3000384],[ci 3000384 .entry 6 0],59⟩)]
noncomputable def ye(y:xD.H):cy xD pF:=
 bif(decide (y.1.2.2.2.1<y.1.2.2.1)) then
(bl y.1.2.1 y.1.2.2.2.1).bind fun a=>
(f87 ((y.2.1,a.path,()),())).bind fun b=>
 bif(!b.1.2.1) then
(k3 48 y.2.1 b.1.1 ([a]:List a5)).bind fun c=>
 some (.inl (((),y.1.2.1,y.1.2.2.1,(IntKind.i64.wrap (y.1.2.2.2.1+(1:Int))),()),c,()))
else
(BW (((),(),b.1.1,y.1.2.1,y.1.2.2.1,y.1.2.2.2.1,()),y.2.1,(a.path,a.kind,a.mode,a.text,()),())).bind fun d=>
 bif d.1.2.2.2.2.1 then
 some (.inr (.inl (((),false,()),([]:List a5),())))
else
 some (.inl (((),d.1.2.1,d.1.2.2.1,(IntKind.i64.wrap (d.1.2.2.2.1+(1:Int))),()),d.2.1,()))
else
 some (.inr (.inr (((),()),y.2.1,())))
noncomputable def DQ:xD.H->Option (aQ pF):=bO ye
theorem aaW:bw Z (aI (codeOf Tryz.f97) 1 122) (bJ xD pF DQ):=cD Bj (by kernel_rfl) (bN XN ar) fun y=>by kernel_rfl
abbrev i97:Shape:=⟨[aV 0 .entry,aV 1 .entry],[],59⟩
abbrev So:Shape:=⟨[b3 4 3000256,aY 5],[ci 3000256 .entry 4 0],59⟩
noncomputable def f97(a:i97.H):Option So.H:=
(E6 ((a.1.1,a.1.2.1,()),())).bind fun b=>
 bif b.1.2.2.1 then
 some (((),false,()),([]:List a5),())
else
(f159 ((b.1.1,()),())).bind fun c=>
(DQ (((),b.1.2.1,(b.1.2.1.length:Int),(0:Int),()),c.2.1,())).bind fun d=>
(match d with
|.inl e=>
 some (((),e.1.2.1,()),e.2.1,())
|.inr f=>
(f86 ((f.2.1,()),())).bind fun g=>
 bif(!g.1.1) then
 some (((),false,()),([]:List a5),())
else
 some (((),true,()),f.2.1,()))
noncomputable def TY:aU:=ba ap Tryz.f97 i97 So [] f97
theorem ah1:a4 Z 97 TY:=bc Bj Tryz.func97 (by kernel_rfl) (bN acv (bN aaW ar)) (fun y=>by kernel_rfl) fun a=>by kernel_rfl
noncomputable abbrev alE:bq:=[(97,TY)]
theorem UB:a9 Z (bm ap alE):=bz ⟨ah1,⟨⟩⟩
abbrev y0:Shape:=⟨[b3 4 3000256,aV 9 .pack,ae 10,ae 11],[ci 3000256 .entry 4 0],27⟩
abbrev pJ:List bg:=[(.ret,⟨[b3 2 3000128,aY 3],[ci 3000128 .entry 2 0],27⟩),(.exit 0,⟨[b3 4 3000256],[ci 3000256 .entry 4 0],27⟩)]
noncomputable def zk(y:y0.H):cy y0 pJ:=
 bif(decide (y.1.2.2.2.1<y.1.2.2.1)) then
(bl y.1.2.1 y.1.2.2.2.1).bind fun a=>
(f97 ((y.2.1,a.bu,()),())).bind fun b=>
 bif(!b.1.2.1) then
 some (.inr (.inl (((),false,()),([]:List a5),())))
else
 some (.inl (((),y.1.2.1,y.1.2.2.1,(IntKind.i64.wrap (y.1.2.2.2.1+(1:Int))),()),b.2.1,()))
else
 some (.inr (.inr (((),()),y.2.1,())))
noncomputable def EZ:y0.H->Option (aQ pJ):=bO zk
theorem acK:bw Z (aI (codeOf Tryz.f52) 1 58) (bJ y0 pJ EZ):=cD UB (by kernel_rfl) ar fun y=>by kernel_rfl
abbrev i52:Shape:=⟨[aV 0 .pack],[],27⟩
abbrev SP:Shape:=⟨[b3 2 3000128,aY 3],[ci 3000128 .entry 2 0],27⟩
noncomputable def f52(a:i52.H):Option SP.H:=
(EZ (((),a.1.1,(a.1.1.length:Int),(0:Int),()),([]:List a5),())).bind fun b=>
(match b with
|.inl c=>
 some (((),c.1.2.1,()),c.2.1,())
|.inr d=>
 some (((),true,()),d.2.1,()))
noncomputable def T':aU:=ba ap Tryz.f52 i52 SP [] f52
theorem aie:a4 Z 52 T':=bc UB Tryz.func52 (by kernel_rfl) (bN acK ar) (fun y=>by kernel_rfl) fun a=>by kernel_rfl
theorem Cn:∀(r:List a5) (out D:List a5),(∀e,e∈r->m6 e)->(∀e,e∈out->m6 e)->gn out r=some D->D.length<=out.length+r.length/\∀e,e∈D->m6 e:=by
 intro r;induction r with
 |nil=>intro out D _ h2 h;cases h;exact⟨Nat.le_refl _,h2⟩
 |cons e r ih=>
  intro out D h1 h2 h;rw[tw] at h;obtain⟨o1,aa,aH⟩:=Option.bind_eq_some_iff.1 h;have bD:=ih o1 D (fun x hx=>h1 x (List.mem_cons_of_mem _ hx)) (fun x hx=>by
   rcases Ca aa hx with rfl|h
   ·exact h1 x List.mem_cons_self
   ·exact h2 x h) aH
  have di:=wR aa;exact⟨by simp only[List.length_cons];omega,bD.2⟩
theorem BQ{t:List a5}(h:eC t=true):eW t:=by
 unfold eC at h;simp only[Bool.and_eq_true] at h;exact NZ h.1.1
theorem tv{t:List a5}(h:eC t=true):t.length<=16:=by
 unfold eC at h;simp only[Bool.and_eq_true,decide_eq_true_eq] at h;exact h.2
theorem LA(a)(M:cj a.1.1.length):f159 a=some (((),()),(a.1.1,())):=by
 obtain⟨⟨xs,u⟩,bF⟩:=a;have M:xs.length<=2097152:=M;have h2:(dv 48 ([]:List a5) xs).bind (fun x=>some (((),()),(x,())))=(some (((),()),(xs,())):Option F4.H):=by
  rw[gC (by decide) (by unfold aF;simp only[List.length_nil];omega)];rfl
 simp only[f159];rw[h2];unfold ns;split
 ·rfl
 ·rename_i h;exact absurd (fun he:xs=[]=>by subst he;rfl) h
theorem Xr(a)(a3:lS a.1.1)(hb:lS a.1.2.1)(h1:eC a.1.1=true)(h2:eC a.1.2.1=true):f97 a=
  some (match gn a.1.1 a.1.2.1 with|some out=>(bif eC out then(((),(true,())),(out,())) else(((),(false,())),(([]:List a5),())))|none=>(((),(false,())),(([]:List a5),()))):=by
 obtain⟨⟨xs,ys,u⟩,bF⟩:=a;have h1:eC xs=true:=h1;have h2:eC ys=true:=h2;have aof:=tv h1;have aoe:=tv h2;have e1:=wQ ((xs,()),()) a3;have e2:=wQ ((ys,()),()) hb;have bK:=LA ((xs,()),()) (show xs.length<=2097152 by omega)
 have key:DQ (((),(ys,((ys.length:Int),((0:Int),())))),(xs,()))=_:=mm ye ys (fun i (out:List a5)=>(((),(ys,((ys.length:Int),((i:Int),())))),(out,())))
  (fun i e out=>some (match g4 out e with|some D=>.inl D|none=>.inr ((.inl (((),(false,())),(([]:List a5),()))):aQ pF))) (fun out=>((.inr (((),()),(out,()))):aQ pF))
  (fun i out=>out.length<=xs.length+i/\eW out) xs ⟨Nat.le_refl _,BQ h1⟩ (fun i x out hx cZ=>?_) (fun out _=>?_)
 ·have fold:∀(r:List a5) (k:Nat) (out:List a5),eD (fun i e out=>some (match g4 out e with|some D=>.inl D|none=>.inr ((.inl (((),(false,())),(([]:List a5),()))):aQ pF))) (fun out=>((.inr (((),()),(out,()))):aQ pF)) k r out=
    some (match gn out r with|some D=>.inr (((),()),(D,()))|none=>.inl (((),(false,())),(([]:List a5),()))):=by
   intro r;induction r with
   |nil=>intro k out;rfl
   |cons e r ih=>
    intro k out;rw[tw];simp only[eD];cases g4 out e with
    |none=>rfl
    |some D=>simp only[Option.bind_some];exact ih _ _
  rw[fold] at key;simp only[f97,E6,e1,e2,h1,h2,bK,Bool.not_true,Bool.not_false,cond_true,cond_false,Option.bind_some,key];cases hj:gn xs ys with
  |none=>rfl
  |some D=>
   have hm:=Cn ys xs D hb.2 a3.2 hj;simp only[Option.bind_some];rw[wQ _ ⟨show D.length<=2097152 by omega,hm.2⟩]
   simp only[Option.bind_some];cases eC D<;>rfl
 ·have hi:=cc hx;have hw:aF i:=by unfold aF;omega
  refine⟨?_,fun am ab=>?_⟩
  ·have kt:=JJ ((out,(x.path,())),()) (show out.length<=2097152 by omega) cZ.2
   have kj:=rh out x.path;simp only[ye,ce hi,cond_true,b0,hx,Option.bind_some,kt,iy,g4];have grow:k3 48 out (bS out x.path:Int) [x]=some (h6 out (bS out x.path) x):=by
    unfold k3;rw[if_pos ⟨by omega,by omega,by unfold room;simp only[List.length_cons,List.length_nil];omega,by unfold maxLen;simp only[List.length_cons,List.length_nil];omega⟩,Int.toNat_natCast]
    rfl
   cases ay:out[bS out x.path]? with
   |none=>simp only[Bool.not_false,cond_true,grow,Option.bind_some,b' hw];rfl
   |some q=>
    have hin:=lu (cc ay);simp only;cases aj:(q.path==x.path) with
    |false=>simp only[Bool.not_false,cond_true,grow,Option.bind_some,b' hw,cond_false];rfl
    |true=>
     have A0:((q.path==x.path)&&((q.kind==x.kind)&&((q.mode==x.mode)&&(q.text==x.text))))=jP q x:=rfl;simp only[Bool.not_true,cond_false,cond_true,BW,hin,ay,Option.bind_some,lQ,aao x q];cases ag:(x.kind !=1) with
     |true=>rfl
     |false=>
      have agv:(jP q x)=((q.path==x.path)&&((q.kind==x.kind)&&((q.mode==x.mode)&&(q.text==x.text)))):=rfl;rw[agv];cases ((q.path==x.path)&&((q.kind==x.kind)&&((q.mode==x.mode)&&(q.text==x.text)))) with
      |false=>rfl
      |true=>simp only[Bool.not_true,Bool.false_or,cond_false,Option.bind_some,b' hw];rfl
  ·simp only[Option.some.injEq] at ab;cases M:g4 out x with
   |none=>rw[M] at ab;cases ab
   |some D=>
    rw[M] at ab;cases ab;have di:=wR M;exact⟨by omega,Y2 cZ.2 M⟩
 ·simp only[ye,cU,cond_false]
def fe(out:List a5):List aK->Option (List a5)
 |[]=>some out
 |p::r=>match gn out p.bu with
  |some D=>bif eC D then fe D r else none
  |none=>none
def stepT(out:List a5)(p:aK):Option (List a5):=match gn out p.bu with
 |some D=>bif eC D then some D else none
 |none=>none
theorem wH(out:List a5)(p:aK)(r:List aK):fe out (p::r)=(stepT out p).bind fun D=>fe D r:=by
 unfold stepT;rw[fe];cases gn out p.bu with
 |none=>rfl
 |some D=>simp only;cases eC D<;>rfl
theorem xj{out D:List a5}{p:aK}(h:stepT out p=some D):eC D=true/\gn out p.bu=some D:=by
 unfold stepT at h;split at h
 ·rename_i c5 au;cases aE:eC c5 with
  |true=>rw[aE] at h;cases h;exact⟨aE,au⟩
  |false=>rw[aE] at h;cases h
 ·cases h
theorem YD(a)(hb:eu a.1.1)(ag:a.1.1.all dE=true):f51 a=some (((),((fe [] a.1.1).isSome,())),((fe [] a.1.1).getD [],())):=by
 obtain⟨⟨ps,u⟩,bF⟩:=a;have hl:ps.length<=2097152:=hb.1;have HI:∀p,p∈ps->eC p.bu=true/\lS p.bu:=by
  intro p aj;have:=List.all_eq_true.1 ag p aj;unfold dE at this;simp only[Bool.and_eq_true] at this;exact⟨this.2,(hb.2 p aj).2.2.2⟩
 have key:E0 ((ps,((),((0:Int),()))),(([]:List a5),()))=_:=mm zl ps (fun i (out:List a5)=>((ps,((),((i:Int),()))),(out,())))
  (fun i p out=>some (match stepT out p with|some D=>.inl D|none=>.inr ((.inl (((),(false,())),(([]:List a5),()))):aQ pK))) (fun out=>((.inr (((),()),(out,()))):aQ pK))
  (fun i out=>out.length<=16/\∀e,e∈out->m6 e) [] ⟨Nat.zero_le _,fun e h=>by cases h⟩ (fun i x out hx cZ=>?_) (fun out _=>?_)
 ·have fold:∀(r:List aK) (k:Nat) (out:List a5),eD (fun i p out=>some (match stepT out p with|some D=>.inl D|none=>.inr ((.inl (((),(false,())),(([]:List a5),()))):aQ pK))) (fun out=>((.inr (((),()),(out,()))):aQ pK)) k r out=
    some (match fe out r with|some D=>.inr (((),()),(D,()))|none=>.inl (((),(false,())),(([]:List a5),()))):=by
   intro r;induction r with
   |nil=>intro k out;rfl
   |cons p r ih=>
    intro k out;rw[wH];simp only[eD];cases stepT out p with
    |none=>rfl
    |some D=>simp only[Option.bind_some];exact ih _ _
  rw[fold] at key;simp only[f51,key,Option.bind_some];cases fe [] ps with
  |none=>rfl
  |some D=>rfl
 ·have hi:=cc hx;have hw:aF i:=by unfold aF;omega
  obtain⟨HJ,lf⟩:=HI x (List.mem_of_getElem? hx);have H_:=tv HJ;have dU:lS out:=⟨show out.length<=2097152 by omega,cZ.2⟩
  refine⟨?_,fun am ab=>?_⟩
  ·have hj:=_e ((out,(x.bu,())),()) dU lf (show out.length+x.bu.length<=2097152 by omega)
   simp only[zl,ce hi,cond_true,b0,hx,Option.bind_some,hj,stepT];cases gn out x.bu with
   |none=>rfl
   |some D=>
    simp only;cases eC D with
    |false=>rfl
    |true=>simp only[Bool.not_true,cond_false,cond_true,b' hw];rfl
  ·simp only[Option.some.injEq] at ab;cases M:stepT out x with
   |none=>rw[M] at ab;cases ab
   |some D=>
    rw[M] at ab;cases ab;obtain⟨bD,di⟩:=xj M;exact⟨tv bD,(Cn _ _ _ lf.2 cZ.2 di).2⟩
 ·simp only[zl,cU,cond_false]
theorem Ls(a)(hb:eu a.1.1)(ag:a.1.1.all dE=true):∃out,f51 a=some (((),((fe [] a.1.1).isSome,())),(out,())):=⟨_,YD a hb ag⟩
theorem V0(a)(hb:eu a.1.1)(ag:a.1.1.all dE=true):f52 a=some (((),((fe [] a.1.1).isSome,())),((fe [] a.1.1).getD [],())):=by
 obtain⟨⟨ps,u⟩,bF⟩:=a;have hl:ps.length<=2097152:=hb.1;have HI:∀p,p∈ps->eC p.bu=true/\lS p.bu:=by
  intro p aj;have:=List.all_eq_true.1 ag p aj;unfold dE at this;simp only[Bool.and_eq_true] at this;exact⟨this.2,(hb.2 p aj).2.2.2⟩
 have key:EZ (((),(ps,((ps.length:Int),((0:Int),())))),(([]:List a5),()))=_:=mm zk ps (fun i (out:List a5)=>(((),(ps,((ps.length:Int),((i:Int),())))),(out,())))
  (fun i p out=>some (match stepT out p with|some D=>.inl D|none=>.inr ((.inl (((),(false,())),(([]:List a5),()))):aQ pJ))) (fun out=>((.inr (((),()),(out,()))):aQ pJ))
  (fun i out=>eC out=true/\∀e,e∈out->m6 e) [] ⟨rfl,fun e h=>by cases h⟩ (fun i x out hx cZ=>?_) (fun out _=>?_)
 ·have fold:∀(r:List aK) (k:Nat) (out:List a5),eD (fun i p out=>some (match stepT out p with|some D=>.inl D|none=>.inr ((.inl (((),(false,())),(([]:List a5),()))):aQ pJ))) (fun out=>((.inr (((),()),(out,()))):aQ pJ)) k r out=
    some (match fe out r with|some D=>.inr (((),()),(D,()))|none=>.inl (((),(false,())),(([]:List a5),()))):=by
   intro r;induction r with
   |nil=>intro k out;rfl
   |cons p r ih=>
    intro k out;rw[wH];simp only[eD];cases stepT out p with
    |none=>rfl
    |some D=>simp only[Option.bind_some];exact ih _ _
  rw[fold] at key;simp only[f52,key,Option.bind_some];cases fe [] ps with
  |none=>rfl
  |some D=>rfl
 ·have hi:=cc hx;have hw:aF i:=by unfold aF;omega
  obtain⟨HJ,lf⟩:=HI x (List.mem_of_getElem? hx);have H_:=tv cZ.1;have dU:lS out:=⟨show out.length<=2097152 by omega,cZ.2⟩
  refine⟨?_,fun am ab=>?_⟩
  ·have hj:=Xr ((out,(x.bu,())),()) dU lf cZ.1 HJ;simp only[zk,ce hi,cond_true,b0,hx,Option.bind_some,hj,stepT];cases gn out x.bu with
   |none=>rfl
   |some D=>
    simp only;cases eC D with
    |false=>rfl
    |true=>simp only[Bool.not_true,cond_false,cond_true,b' hw];rfl
  ·simp only[Option.some.injEq] at ab;cases M:stepT out x with
   |none=>rw[M] at ab;cases ab
   |some D=>
    rw[M] at ab;cases ab;obtain⟨bD,di⟩:=xj M;exact⟨bD,(Cn _ _ _ lf.2 cZ.2 di).2⟩
 ·simp only[zk,cU,cond_false]
theorem WF(a)(hb:eu a.1.1)(ag:a.1.1.all dE=true):∃out,f52 a=some (((),((fe [] a.1.1).isSome,())),(out,())):=⟨_,V0 a hb ag⟩
abbrev LX:Shape:=⟨[aV 0 .i64,aV 1 .i64,ae 5],[],42⟩
abbrev LL:List bg:=[(.norm,⟨[aV 0 .i64,aV 1 .i64,ae 5],[],42⟩),(.exit 0,⟨[],[],42⟩)]
noncomputable def ra(y:LX.H):Option (aQ LL):=
 bif(!(decide (y.1.2.2.1<(y.1.1.length:Int)))) then
 bif(decide (y.1.2.2.1<(y.1.2.1.length:Int))) then
 some (.inl ((y.1.1,y.1.2.1,y.1.2.2.1,()),()))
else
 some (.inr ((),()))
else
 some (.inl ((y.1.1,y.1.2.1,y.1.2.2.1,()),()))
theorem _S:bw Z (aI (dD (aI (codeOf Tryz.f182) 1 26)) 52 104) (bJ LX LL ra):=ei g0 (by kernel_rfl) ar fun y=>by kernel_rfl
abbrev KV:Shape:=⟨[aV 0 .i64,aV 1 .i64,ae 5,ae 6,ae 7],[],42⟩
abbrev KL:List bg:=[(.norm,⟨[aV 0 .i64,aV 1 .i64,ae 5,ae 6,ae 7],[],42⟩)]
noncomputable def tE(y:KV.H):Option (aQ KL):=
 bif(decide (y.1.2.2.1<(y.1.1.length:Int))) then
(bl y.1.1 y.1.2.2.1).bind fun a=>
 some ((y.1.1,y.1.2.1,y.1.2.2.1,a,y.1.2.2.2.2.1,()),())
else
 some ((y.1.1,y.1.2.1,y.1.2.2.1,y.1.2.2.2.1,y.1.2.2.2.2.1,()),())
theorem Zi:bw Z (aI (dD (aI (codeOf Tryz.f182) 1 26)) 52 3366) (bJ KV KL tE):=ei g0 (by kernel_rfl) ar fun y=>by kernel_rfl
abbrev KU:Shape:=⟨[aV 0 .i64,aV 1 .i64,ae 5,ae 6,ae 7],[],42⟩
abbrev KK:List bg:=[(.norm,⟨[aV 0 .i64,aV 1 .i64,ae 5,ae 6,ae 7],[],42⟩)]
noncomputable def tD(y:KU.H):Option (aQ KK):=
 bif(decide (y.1.2.2.1<(y.1.2.1.length:Int))) then
(bl y.1.2.1 y.1.2.2.1).bind fun a=>
 some ((y.1.1,y.1.2.1,y.1.2.2.1,y.1.2.2.2.1,a,()),())
else
 some ((y.1.1,y.1.2.1,y.1.2.2.1,y.1.2.2.2.1,y.1.2.2.2.2.1,()),())
theorem Zh:bw Z (aI (dD (aI (codeOf Tryz.f182) 1 26)) 52 6734) (bJ KU KK tD):=ei g0 (by kernel_rfl) ar fun y=>by kernel_rfl
abbrev xT:Shape:=⟨[aV 0 .i64,aV 1 .i64,ae 5],[],42⟩
abbrev Dv:List bg:=[(.ret,⟨[ae 4],[],42⟩),(.exit 0,⟨[],[],42⟩)]
noncomputable def rp(y:xT.H):cy xT Dv:=
(ra ((y.1.1,y.1.2.1,y.1.2.2.1,()),())).bind fun a=>
(match a with
|.inl b=>
(tE ((b.1.1,b.1.2.1,b.1.2.2.1,((-1):Int),((-1):Int),()),())).bind fun c=>
(tD ((c.1.1,c.1.2.1,c.1.2.2.1,c.1.2.2.2.1,c.1.2.2.2.2.1,()),())).bind fun d=>
 bif(decide (d.1.2.2.2.1<d.1.2.2.2.2.1)) then
 some (.inr (.inl ((((-1):Int),()),())))
else
 bif(decide (d.1.2.2.2.1>d.1.2.2.2.2.1)) then
 some (.inr (.inl (((1:Int),()),())))
else
 some (.inl ((d.1.1,d.1.2.1,(IntKind.i64.wrap (d.1.2.2.1+(1:Int))),()),()))
|.inr e=>
 some (.inr (.inr ((),()))))
noncomputable def nB:xT.H->Option (aQ Dv):=bO rp
theorem abf:bw Z (aI (codeOf Tryz.f182) 1 26) (bJ xT Dv nB):=cD g0 (by kernel_rfl) (bN _S (bN Zi (bN Zh ar))) fun y=>by kernel_rfl
abbrev i182:Shape:=⟨[aV 0 .i64,aV 1 .i64],[],42⟩
abbrev F1:Shape:=⟨[ae 4],[],42⟩
noncomputable def f182(a:i182.H):Option F1.H:=
(nB ((a.1.1,a.1.2.1,(0:Int),()),())).bind fun b=>
(match b with
|.inl c=>
 some ((c.1.1,()),())
|.inr d=>
 some (((0:Int),()),()))
noncomputable def Rq:aU:=ba ap Tryz.f182 i182 F1 [] f182
theorem ae4:a4 Z 182 Rq:=bc g0 Tryz.func182 (by kernel_rfl) (bN abf ar) (fun y=>by kernel_rfl) fun a=>by kernel_rfl
noncomputable abbrev ahp:bq:=[(181,GI),(182,Rq)]
theorem RZ:a9 Z (bm ap ahp):=bz ⟨O8,ae4,⟨⟩⟩
abbrev MA:Shape:=⟨[b3 5 3000320,aY 6,b3 7 3000448,aY 8],[ci 3000320 .i64 5 0,ci 3000448 .i64 7 0],28⟩
abbrev Mr:List bg:=[(.norm,⟨[b3 5 3000320,b3 7 3000448,aY 24],[ci 3000320 .i64 5 0,ci 3000448 .i64 7 0],28⟩)]
noncomputable def Ej(y:MA.H):Option (aQ Mr):=
 bif(!(!y.1.2.1)) then
 some (((),(),(!y.1.2.2.2.1),()),y.2.1,y.2.2.1,())
else
 some (((),(),true,()),y.2.1,y.2.2.1,())
theorem abt:bw Z (aI (codeOf Tryz.f126) 1 60) (bJ MA Mr Ej):=ei RZ (by kernel_rfl) ar fun y=>by kernel_rfl
abbrev i126:Shape:=⟨[bx 0,bx 1],[],28⟩
abbrev P_:Shape:=⟨[ae 4],[],28⟩
noncomputable def f126(a:i126.H):Option P_.H:=
(f181 ((a.1.1,()),())).bind fun b=>
(f181 ((a.1.2.1,()),())).bind fun c=>
(Ej (((),b.1.2.1,(),c.1.2.1,()),b.2.1,c.2.1,())).bind fun d=>
 bif d.1.2.2.1 then
 some (((0:Int),()),())
else
(f182 ((d.2.1,d.2.2.1,()),())).bind fun e=>
 some ((e.1.1,()),())
noncomputable def GQ:aU:=ba ap Tryz.f126 i126 P_ [] f126
theorem Pe:a4 Z 126 GQ:=bc RZ Tryz.func126 (by kernel_rfl) (bN abt ar) (fun y=>by kernel_rfl) fun a=>by kernel_rfl
abbrev i259:Shape:=⟨[ae 0],[],6⟩
abbrev Pz:Shape:=⟨[aY 2],[],6⟩
noncomputable def f259(a:i259.H):Option Pz.H:=
 some (((a.1.1 !=a.1.1),()),())
noncomputable def Q9:aU:=ba ap Tryz.f259 i259 Pz [] f259
theorem aeL:a4 Z 259 Q9:=bc g0 Tryz.func259 (by kernel_rfl) ar (fun y=>by kernel_rfl) fun a=>by kernel_rfl
noncomputable abbrev ag2:bq:=[(259,Q9)]
theorem ahF:a9 Z (bm ap ag2):=bz ⟨aeL,⟨⟩⟩
abbrev i224:Shape:=⟨[ae 0,ae 1],[],20⟩
abbrev PI:Shape:=⟨[ae 4],[],20⟩
noncomputable def f224(a:i224.H):Option PI.H:=
(f259 ((a.1.1,()),())).bind fun b=>
(f259 ((a.1.2.1,()),())).bind fun c=>
 bif b.1.1 then
 bif c.1.1 then
 some (((0:Int),()),())
else
 some ((((-1):Int),()),())
else
 bif c.1.1 then
 some (((1:Int),()),())
else
 bif(decide (a.1.1<a.1.2.1)) then
 some ((((-1):Int),()),())
else
 bif(decide (a.1.1>a.1.2.1)) then
 some (((1:Int),()),())
else
 some (((0:Int),()),())
noncomputable def Rg:aU:=ba ap Tryz.f224 i224 PI [] f224
theorem aeU:a4 Z 224 Rg:=bc ahF Tryz.func224 (by kernel_rfl) ar (fun y=>by kernel_rfl) fun a=>by kernel_rfl
noncomputable abbrev aha:bq:=[(224,Rg)]
theorem RU:a9 Z (bm ap aha):=bz ⟨aeU,⟨⟩⟩
abbrev xS:Shape:=⟨[aV 0 .i64,aV 1 .i64,aV 9 .i64,ae 10,ae 11],[],36⟩
abbrev Du:List bg:=[(.ret,⟨[ae 4],[],36⟩),(.exit 0,⟨[aV 0 .i64,aV 1 .i64],[],36⟩)]
noncomputable def uc(y:xS.H):cy xS Du:=
 bif(decide (y.1.2.2.2.2.1<y.1.2.2.2.1)) then
(bl y.1.2.2.1 y.1.2.2.2.2.1).bind fun a=>
 bif(decide (y.1.2.2.2.2.1>=(y.1.2.1.length:Int))) then
 some (.inr (.inl (((1:Int),()),())))
else
(bl y.1.2.1 y.1.2.2.2.2.1).bind fun b=>
(f224 ((a,b,()),())).bind fun c=>
 bif(c.1.1 !=(0:Int)) then
 some (.inr (.inl ((c.1.1,()),())))
else
 some (.inl ((y.1.1,y.1.2.1,y.1.2.2.1,y.1.2.2.2.1,(IntKind.i64.wrap (y.1.2.2.2.2.1+(1:Int))),()),()))
else
 some (.inr (.inr ((y.1.1,y.1.2.1,()),())))
noncomputable def oC:xS.H->Option (aQ Du):=bO uc
theorem abe:bw Z (aI (codeOf Tryz.f184) 1 26) (bJ xS Du oC):=cD RU (by kernel_rfl) ar fun y=>by kernel_rfl
abbrev i184:Shape:=⟨[aV 0 .i64,aV 1 .i64],[],36⟩
abbrev F0:Shape:=⟨[ae 4],[],36⟩
noncomputable def f184(a:i184.H):Option F0.H:=
(oC ((a.1.1,a.1.2.1,a.1.1,(a.1.1.length:Int),(0:Int),()),())).bind fun b=>
(match b with
|.inl c=>
 some ((c.1.1,()),())
|.inr d=>
 bif(decide ((d.1.1.length:Int)<(d.1.2.1.length:Int))) then
 some ((((-1):Int),()),())
else
 some (((0:Int),()),()))
noncomputable def Rp:aU:=ba ap Tryz.f184 i184 F0 [] f184
theorem ae3:a4 Z 184 Rp:=bc RU Tryz.func184 (by kernel_rfl) (bN abe ar) (fun y=>by kernel_rfl) fun a=>by kernel_rfl
noncomputable abbrev ahn:bq:=[(184,Rp)]
theorem ahO:a9 Z (bm ap ahn):=bz ⟨ae3,⟨⟩⟩
abbrev i128:Shape:=⟨[aV 0 .i64,aV 1 .i64],[],8⟩
abbrev P8:Shape:=⟨[ae 4],[],8⟩
noncomputable def f128(a:i128.H):Option P8.H:=
(f184 ((a.1.1,a.1.2.1,()),())).bind fun b=>
 some ((b.1.1,()),())
noncomputable def RE:aU:=ba ap Tryz.f128 i128 P8 [] f128
theorem afi:a4 Z 128 RE:=bc ahO Tryz.func128 (by kernel_rfl) ar (fun y=>by kernel_rfl) fun a=>by kernel_rfl
noncomputable abbrev alo:bq:=[(127,GP),(128,RE)]
theorem Ur:a9 Z (bm ap alo):=bz ⟨Pd,afi,⟨⟩⟩
abbrev Nd:Shape:=⟨[b3 5 3000320,aY 6,b3 7 3000448,aY 8],[ci 3000320 .i64 5 0,ci 3000448 .i64 7 0],28⟩
abbrev M':List bg:=[(.norm,⟨[b3 5 3000320,b3 7 3000448,aY 24],[ci 3000320 .i64 5 0,ci 3000448 .i64 7 0],28⟩)]
noncomputable def E8(y:Nd.H):Option (aQ M'):=
 bif(!(!y.1.2.1)) then
 some (((),(),(!y.1.2.2.2.1),()),y.2.1,y.2.2.1,())
else
 some (((),(),true,()),y.2.1,y.2.2.1,())
theorem acB:bw Z (aI (codeOf Tryz.f78) 1 60) (bJ Nd M' E8):=ei Ur (by kernel_rfl) ar fun y=>by kernel_rfl
abbrev i78:Shape:=⟨[bx 0,bx 1],[],28⟩
abbrev Sx:Shape:=⟨[ae 4],[],28⟩
noncomputable def f78(a:i78.H):Option Sx.H:=
(f127 ((a.1.1,()),())).bind fun b=>
(f127 ((a.1.2.1,()),())).bind fun c=>
(E8 (((),b.2.2.2.1.1,(),c.2.2.2.1.1,()),b.2.1,c.2.1,())).bind fun d=>
 bif d.1.2.2.1 then
 some (((0:Int),()),())
else
(f128 ((d.2.1,d.2.2.1,()),())).bind fun e=>
 some ((e.1.1,()),())
noncomputable def Ir:aU:=ba ap Tryz.f78 i78 Sx [] f78
theorem R':a4 Z 78 Ir:=bc Ur Tryz.func78 (by kernel_rfl) (bN acB ar) (fun y=>by kernel_rfl) fun a=>by kernel_rfl
noncomputable abbrev ahm:bq:=[(78,Ir),(119,Aj),(121,GR)]
theorem RY:a9 Z (bm ap ahm):=bz ⟨R',FM,Pf,⟨⟩⟩
abbrev Mz:Shape:=⟨[bx 1,bx 2,bf 3 3 0],[be 3 [a6,cO,a6]],44⟩
abbrev Mq:List bg:=[(.norm,⟨[bx 2,bf 3 3 0,aY 20],[be 3 [a6,cO,a6]],44⟩)]
noncomputable def Ei(y:Mz.H):Option (aQ Mq):=
(f121 (((y.2.1.1,y.2.1.2.1,y.2.1.2.2.1,()),()),())).bind fun a=>
 bif(!(!a.1.1)) then
(f119 ((y.1.2.1,()),())).bind fun b=>
 bif(!(!b.1.1)) then
 some ((y.1.2.1,(),(!(y.1.1==y.2.1.1)),()),(y.2.1.1,y.2.1.2.1,y.2.1.2.2.1,()),())
else
 some ((y.1.2.1,(),true,()),(y.2.1.1,y.2.1.2.1,y.2.1.2.2.1,()),())
else
 some ((y.1.2.1,(),true,()),(y.2.1.1,y.2.1.2.1,y.2.1.2.2.1,()),())
theorem abq:bw Z (aI (codeOf Tryz.f132) 1 12) (bJ Mz Mq Ei):=ei RY (by kernel_rfl) ar fun y=>by kernel_rfl
abbrev i132:Shape:=⟨[cg 0 [a6,cO,a6],bx 1,bx 2],[],44⟩
abbrev P7:Shape:=⟨[aY 6],[],44⟩
noncomputable def f132(a:i132.H):Option P7.H:=
(Ei ((a.1.2.1,a.1.2.2.1,(),()),(a.1.1.1,a.1.1.2.1,a.1.1.2.2.1,()),())).bind fun b=>
 bif b.1.2.2.1 then
 some ((false,()),())
else
 bif(b.2.1.2.1==(1:Int)) then
(f78 ((b.1.1,b.2.1.2.2.1,()),())).bind fun c=>
 some (((c.1.1==(0:Int)),()),())
else
 bif(b.2.1.2.1==(2:Int)) then
(f78 ((b.1.1,b.2.1.2.2.1,()),())).bind fun d=>
 some (((decide (d.1.1>=(0:Int))),()),())
else
 bif(b.2.1.2.1==(3:Int)) then
(f78 ((b.1.1,b.2.1.2.2.1,()),())).bind fun e=>
 some (((decide (e.1.1<(0:Int))),()),())
else
 some ((true,()),())
noncomputable def RD:aU:=ba ap Tryz.f132 i132 P7 [] f132
theorem afh:a4 Z 132 RD:=bc RY Tryz.func132 (by kernel_rfl) (bN abq ar) (fun y=>by kernel_rfl) fun a=>by kernel_rfl
noncomputable abbrev ag9:bq:=[(126,GQ)]
theorem ahJ:a9 Z (bm ap ag9):=bz ⟨Pe,⟨⟩⟩
abbrev i192:Shape:=⟨[cg 0 [a6,cO,a6],bx 1,bx 2],[],30⟩
abbrev PQ:Shape:=⟨[aY 6],[],30⟩
noncomputable def f192(a:i192.H):Option PQ.H:=
 bif(!(a.1.1.1==a.1.2.1)) then
 some ((false,()),())
else
(f126 ((a.1.2.2.1,a.1.1.2.2.1,()),())).bind fun b=>
 bif(a.1.1.2.1==(1:Int)) then
 some (((b.1.1==(0:Int)),()),())
else
 bif(a.1.1.2.1==(2:Int)) then
 some (((decide (b.1.1>=(0:Int))),()),())
else
 bif(a.1.1.2.1==(3:Int)) then
 some (((decide (b.1.1<(0:Int))),()),())
else
 some ((true,()),())
noncomputable def Ro:aU:=ba ap Tryz.f192 i192 PQ [] f192
theorem ae2:a4 Z 192 Ro:=bc ahJ Tryz.func192 (by kernel_rfl) ar (fun y=>by kernel_rfl) fun a=>by kernel_rfl
def oT:List Int->List Int->Int
 |[],[]=>0
 |[],_::_=>-1
 |_::_,[]=>1
 |x::a,y::b=>bif decide (x<y) then-1 else bif decide (x>y) then 1 else oT a b
theorem drop_cons{aD:Type}{xs:List aD}{k:Nat}{x:aD}{r:List aD}(h:xs.drop k=x::r):xs[k]? =some x/\xs.drop (k+1)=r/\k<xs.length:=by
 have h1:xs[k]? =some x:=by
  have:=congrArg (fun l=>l[0]?) h
  simpa using this
 refine⟨h1,?_,cc h1⟩;have:=congrArg List.tail h;simpa using this
theorem drop_nil{aD:Type}{xs:List aD}{k:Nat}(h:xs.drop k=[]):xs.length<=k:=by
 have:=congrArg List.length h;simp at this;omega
theorem YI(a)(h1:cj a.1.1.length)(h2:cj a.1.2.1.length)(m':∀x,x∈a.1.1->0<=x)(m_:∀x,x∈a.1.2.1->0<=x):f182 a=some ((oT a.1.1 a.1.2.1,()),()):=by
 obtain⟨⟨xs,ys,u⟩,bF⟩:=a;have h1:xs.length<=2097152:=h1;have h2:ys.length<=2097152:=h2;have m':∀x:Int,x∈xs->0<=x:=m';have m_:∀x:Int,x∈ys->0<=x:=m_;have key:∀(n:Nat) (us ws:List Int) (k:Nat),us.length+ws.length=n->xs.drop k=us->ys.drop k=ws->k<=2097152->
   (nB ((xs,(ys,((k:Int),()))),())).bind (fun afS=>(match afS with|.inl afR=>some ((afR.1.1,()),())|.inr an9=>some (((0:Int),()),()):Option F1.H))=some ((oT us ws,()),()):=by
  intro n;induction n using Nat.strongRecOn with
  |_ n ih=>
   intro us ws k hn a3 hb ag;have hw:aF k:=by unfold aF;omega
   match us,ws with
   |[],[]=>
    have c1:=drop_nil a3;have c2:=drop_nil hb;have d1:decide ((k:Int)<(xs.length:Int))=false:=by simp only[decide_eq_false_iff_not];omega
    have d2:decide ((k:Int)<(ys.length:Int))=false:=by simp only[decide_eq_false_iff_not];omega
    have:nB ((xs,(ys,((k:Int),()))),())=some (.inr ((),())):=by
     refine eB ?_
     simp only[rp,ra,d1,d2,Bool.not_false,cond_true,cond_false,Option.bind_some]
    rw[this];rfl
   |[],y::ws=>
    have c1:=drop_nil a3;obtain⟨c2,c3,dV⟩:=drop_cons hb;have ak:=m_ y (List.mem_of_getElem? c2);have d1:decide ((k:Int)<(xs.length:Int))=false:=by simp only[decide_eq_false_iff_not];omega
    have d3:decide ((-1:Int)<y)=true:=by simp only[decide_eq_true_eq];omega
    have:nB ((xs,(ys,((k:Int),()))),())=some (.inl ((((-1):Int),()),())):=by
     refine eB ?_
     simp only[rp,ra,tE,tD,d1,ce dV,b0,c2,Bool.not_false,cond_true,cond_false,Option.bind_some,d3]
    rw[this];rfl
   |x::us,[]=>
    have c1:=drop_nil hb;obtain⟨c2,c3,dV⟩:=drop_cons a3;have hx:=m' x (List.mem_of_getElem? c2);have d1:decide ((k:Int)<(ys.length:Int))=false:=by simp only[decide_eq_false_iff_not];omega
    have d3:decide (x<(-1:Int))=false:=by simp only[decide_eq_false_iff_not];omega
    have d4:decide (x>(-1:Int))=true:=by simp only[decide_eq_true_eq];omega
    have:nB ((xs,(ys,((k:Int),()))),())=some (.inl (((1:Int),()),())):=by
     refine eB ?_
     simp only[rp,ra,tE,tD,d1,ce dV,b0,c2,Bool.not_true,cond_true,cond_false,Option.bind_some,d3,d4]
    rw[this];rfl
   |x::us,y::ws=>
    obtain⟨c2,c3,dV⟩:=drop_cons a3;obtain⟨e2,bK,c_⟩:=drop_cons hb;have step:rp ((xs,(ys,((k:Int),()))),())=some (bif decide (x<y) then .inr (.inl ((((-1):Int),()),())) else bif decide (x>y) then .inr (.inl (((1:Int),()),())) else .inl ((xs,(ys,(((k+1:Nat):Int),()))),())):=by
     simp only[rp,ra,tE,tD,ce dV,ce c_,b0,c2,e2,Bool.not_true,cond_true,cond_false,Option.bind_some,b' hw];cases decide (x<y)<;>cases decide (x>y)<;>rfl
    rw[oT];cases aX:decide (x<y) with
    |true=>rw[aX,cond_true] at step;rw[show nB ((xs,(ys,((k:Int),()))),())=_ from eB step];rfl
    |false=>
     rw[aX,cond_false] at step;cases qt:decide (x>y) with
     |true=>rw[qt,cond_true] at step;rw[show nB ((xs,(ys,((k:Int),()))),())=_ from eB step];rfl
     |false=>
      rw[qt,cond_false] at step;rw[show nB ((xs,(ys,((k:Int),()))),())=_ from hk step]
      exact ih (us.length+ws.length) (by simp only[List.length_cons] at hn;omega) us ws (k+1) rfl c3 bK (by omega)
 have:=key _ xs ys 0 rfl rfl rfl (Nat.zero_le _);simp only[f182];exact this
theorem _i(a):f224 a=some ((bif decide (a.1.1<a.1.2.1) then-1 else bif decide (a.1.1>a.1.2.1) then 1 else 0,()),()):=by
 obtain⟨⟨x,y,u⟩,bF⟩:=a;have hx:(x !=x)=false:=by simp
 have ak:(y !=y)=false:=by simp
 simp only[f224,f259,Option.bind_some,hx,ak,cond_false];cases decide (x<y)<;>cases decide (x>y)<;>rfl
theorem YS(a)(h1:cj a.1.1.length)(h2:cj a.1.2.1.length):f184 a=some ((oT a.1.1 a.1.2.1,()),()):=by
 obtain⟨⟨xs,ys,u⟩,bF⟩:=a;have h1:xs.length<=2097152:=h1;have h2:ys.length<=2097152:=h2;have key:∀(us ws:List Int) (k:Nat),xs.drop k=us->ys.drop k=ws->k<=xs.length->
   (oC ((xs,(ys,(xs,((xs.length:Int),((k:Int),()))))),())).bind (fun adR=>(match adR with
    |.inl adQ=>some ((adQ.1.1,()),())
    |.inr Oq=>bif(decide ((Oq.1.1.length:Int)<(Oq.1.2.1.length:Int))) then some ((((-1):Int),()),()) else some (((0:Int),()),()):Option F0.H))=some ((oT us ws,()),()):=by
  intro us;induction us with
  |nil=>
   intro ws k a3 hb ag;have c1:=drop_nil a3;have d1:decide ((k:Int)<(xs.length:Int))=false:=by simp only[decide_eq_false_iff_not];omega
   have:oC ((xs,(ys,(xs,((xs.length:Int),((k:Int),()))))),())=some (.inr ((xs,(ys,())),())):=by
    refine eB ?_
    simp only[uc,d1,cond_false]
   rw[this];simp only[Option.bind_some];cases ws with
   |nil=>
    have c2:=drop_nil hb;have:decide ((xs.length:Int)<(ys.length:Int))=false:=by simp only[decide_eq_false_iff_not];omega
    rw[this];rfl
   |cons y ws=>
    obtain⟨_,_,dV⟩:=drop_cons hb;rw[ce (show xs.length<ys.length by omega)];rfl
  |cons x us ih=>
   intro ws k a3 hb ag;obtain⟨c2,c3,dV⟩:=drop_cons a3;have hw:aF k:=by unfold aF;omega
   cases ws with
   |nil=>
    have c1:=drop_nil hb;have d1:decide ((k:Int)>=(ys.length:Int))=true:=by simp only[decide_eq_true_eq];omega
    have:oC ((xs,(ys,(xs,((xs.length:Int),((k:Int),()))))),())=some (.inl (((1:Int),()),())):=by
     refine eB ?_
     simp only[uc,ce dV,cond_true,b0,c2,Option.bind_some,d1]
    rw[this];rfl
   |cons y ws=>
    obtain⟨e2,bK,c_⟩:=drop_cons hb;have d1:decide ((k:Int)>=(ys.length:Int))=false:=by simp only[decide_eq_false_iff_not];omega
    have step:uc ((xs,(ys,(xs,((xs.length:Int),((k:Int),()))))),())=some (bif decide (x<y) then .inr (.inl ((((-1):Int),()),())) else bif decide (x>y) then .inr (.inl (((1:Int),()),())) else .inl ((xs,(ys,(xs,((xs.length:Int),(((k+1:Nat):Int),()))))),())):=by
     simp only[uc,ce dV,b0,c2,e2,d1,cond_true,cond_false,Option.bind_some,_i,b' hw];cases decide (x<y)<;>cases decide (x>y)<;>rfl
    rw[oT];cases aX:decide (x<y) with
    |true=>rw[aX,cond_true] at step;rw[show oC ((xs,(ys,(xs,((xs.length:Int),((k:Int),()))))),())=_ from eB step];rfl
    |false=>
     rw[aX,cond_false] at step;cases qt:decide (x>y) with
     |true=>rw[qt,cond_true] at step;rw[show oC ((xs,(ys,(xs,((xs.length:Int),((k:Int),()))))),())=_ from eB step];rfl
     |false=>
      rw[qt,cond_false] at step;rw[show oC ((xs,(ys,(xs,((xs.length:Int),((k:Int),()))))),())=_ from hk step]
      exact ih ws (k+1) c3 bK (by omega)
 have:=key xs ys 0 rfl rfl (Nat.zero_le _);simp only[f184];exact this
def lH(a b:al):Int:=bif eI a&&eI b then oT (gY a) (gY b) else 0
theorem Jt{s:al}(h:eI s=true):∀x,x∈gY s->0<=x:=by
 intro x hx;unfold gY at hx;obtain⟨p,aj,rfl⟩:=List.mem_map.1 hx;unfold eI at h;simp only[Bool.and_eq_true] at h;have:=List.all_eq_true.1 h.1 p aj;unfold fk at this;simp only[Bool.and_eq_true] at this;exact J_ p 0 this.1.1.1.1 (Int.le_refl _)
theorem wP(s:al):(gY s).length<=s.length+1:=by
 unfold gY hM;rw[List.length_map];exact wM 46 s
theorem Jl(a)(h1:a.1.1.length<=2097151)(h2:a.1.2.1.length<=2097151):f126 a=some ((lH a.1.1 a.1.2.1,()),()):=by
 obtain⟨⟨x,y,u⟩,bF⟩:=a;have h1:x.length<=2097151:=h1;have h2:y.length<=2097151:=h2;obtain⟨o1,e1,q1⟩:=B3 ((x,()),()) (show x.length<=2097152 by omega)
 obtain⟨o2,e2,q2⟩:=B3 ((y,()),()) (show y.length<=2097152 by omega)
 simp only[f126,e1,e2,Option.bind_some,Ej,lH,Bool.not_not];cases hx:eI x with
 |false=>rfl
 |true=>
  cases ak:eI y with
  |false=>rfl
  |true=>
   have ajE:=wP x;have vu:=wP y;have b5:o1=gY x:=q1 hx;have w2:o2=gY y:=q2 ak;subst b5 w2;have bK:=YI ((gY x,(gY y,())),()) (show(gY x).length<=2097152 by omega) (show(gY y).length<=2097152 by omega) (Jt hx) (Jt ak)
   simp only[cond_true,Bool.not_true,Option.bind_some,cond_false,bK,Bool.and_self]
theorem Ji(a)(h1:a.1.1.length<=2097151)(h2:a.1.2.1.length<=2097151):f78 a=some ((lH a.1.1 a.1.2.1,()),()):=by
 obtain⟨⟨x,y,u⟩,bF⟩:=a;have h1:x.length<=2097151:=h1;have h2:y.length<=2097151:=h2;have e1:=BD ((x,()),()) (show x.length<=2097152 by omega)
 have e2:=BD ((y,()),()) (show y.length<=2097152 by omega)
 simp only[f78,e1,e2,Option.bind_some,E8,lH,Bool.not_not];cases hx:eI x with
 |false=>rfl
 |true=>
  cases ak:eI y with
  |false=>rfl
  |true=>
   have ajE:=wP x;have vu:=wP y;have bK:=YS ((gY x,(gY y,())),()) (show(gY x).length<=2097152 by omega) (show(gY y).length<=2097152 by omega)
   simp only[cond_true,Bool.not_true,Option.bind_some,cond_false,f128,bK,Bool.and_self]
def sg(n:dr)(v:al):Bool:=bif n.kind==1 then lH v n.a8==0 else bif n.kind==2 then decide (lH v n.a8>=0) else bif n.kind==3 then decide (lH v n.a8<0) else true
theorem _c(a)(h1:a.1.1.2.2.1.length<=2097151)(h2:a.1.2.2.1.length<=2097151)(hn:a.1.2.1=a.1.1.1):f192 a=some ((sg ⟨a.1.1.1,a.1.1.2.1,a.1.1.2.2.1⟩ a.1.2.2.1,()),()):=by
 obtain⟨⟨⟨n,k,v,u⟩,m,w,bF⟩,iH⟩:=a;obtain rfl:m=n:=hn;have e1:=Jl ((w,(v,())),()) h2 h1;have mf:(m==m)=true:=by simp
 simp only[f192,mf,e1,Bool.not_true,cond_false,Option.bind_some,sg];cases (k==1)<;>cases (k==2)<;>cases (k==3)<;>rfl
def k1(n:dr)(name v:al):Bool:=hN n&&eI v&&(name==n.name)&&sg n v
theorem Xt(a)(h0:cj a.1.1.1.length)(h1:a.1.1.2.2.1.length<=2097151)(h2:a.1.2.2.1.length<=2097151):f132 a=some ((k1 ⟨a.1.1.1,a.1.1.2.1,a.1.1.2.2.1⟩ a.1.2.1 a.1.2.2.1,()),()):=by
 obtain⟨⟨⟨n,k,v,u⟩,m,w,bF⟩,iH⟩:=a;have h1:v.length<=2097151:=h1;have h2:w.length<=2097151:=h2;have e1:=Ji ((w,(v,())),()) h2 h1;have e2:=KH (((n,(k,(v,()))),()),()) h0 (show v.length<=2097152 by omega)
 have bK:=BE ((w,()),()) (show w.length<=2097152 by omega)
 simp only[f132,Ei,e1,e2,bK,Bool.not_not,Option.bind_some,k1,sg];cases hN ⟨n,k,v⟩ with
 |false=>rfl
 |true=>
  cases eI w with
  |false=>rfl
  |true=>
   cases (m==n) with
   |false=>rfl
   |true=>
    simp only[cond_true,Bool.not_true,Option.bind_some,cond_false,Bool.true_and];cases (k==1)<;>cases (k==2)<;>cases (k==3)<;>simp only[cond_true,cond_false,Option.bind_some,e1]
abbrev x6:Shape:=⟨[aV 0 .pack,bx 1,ae 5],[],20⟩
abbrev DH:List bg:=[(.ret,⟨[ae 4],[],20⟩),(.exit 0,⟨[],[],20⟩)]
noncomputable def yC(y:x6.H):cy x6 DH:=
 bif(decide (y.1.2.2.1<(y.1.1.length:Int))) then
(bl y.1.1 y.1.2.2.1).bind fun a=>
 bif(a.name==y.1.2.1) then
 some (.inr (.inl ((y.1.2.2.1,()),())))
else
 some (.inl ((y.1.1,y.1.2.1,(IntKind.i64.wrap (y.1.2.2.1+(1:Int))),()),()))
else
 some (.inr (.inr ((),())))
noncomputable def rl:x6.H->Option (aQ DH):=bO yC
theorem abz:bw Z (aI (codeOf Tryz.f104) 1 26) (bJ x6 DH rl):=cD g0 (by kernel_rfl) ar fun y=>by kernel_rfl
abbrev i104:Shape:=⟨[aV 0 .pack,bx 1],[],20⟩
abbrev Qq:Shape:=⟨[ae 4],[],20⟩
noncomputable def f104(a:i104.H):Option Qq.H:=
(rl ((a.1.1,a.1.2.1,(0:Int),()),())).bind fun b=>
(match b with
|.inl c=>
 some ((c.1.1,()),())
|.inr d=>
 some ((((-1):Int),()),()))
noncomputable def u_:aU:=ba ap Tryz.f104 i104 Qq [] f104
theorem zZ:a4 Z 104 u_:=bc g0 Tryz.func104 (by kernel_rfl) (bN abz ar) (fun y=>by kernel_rfl) fun a=>by kernel_rfl
noncomputable abbrev ahl:bq:=[(104,u_),(192,Ro)]
theorem An:a9 Z (bm ap ahl):=bz ⟨zZ,ae2,⟨⟩⟩
abbrev JP:Shape:=⟨[aV 0 .pack,ae 3,ae 4,bf 5 5 0,ae 6],[be 5 [a6,cO,a6]],49⟩
abbrev JN:List bg:=[(.norm,⟨[aV 0 .pack,ae 3,ae 4,ae 35,aY 36,aY 37,aY 48],[],49⟩)]
noncomputable def wK(y:JP.H):Option (aQ JN):=
 bif(decide (y.1.2.2.2.2.1<(0:Int))) then
 some ((y.1.1,y.1.2.1,y.1.2.2.1,y.1.2.2.2.2.1,(decide (y.1.2.2.2.2.1<(0:Int))),true,true,()),())
else
(bl y.1.1 y.1.2.2.2.2.1).bind fun a=>
(f192 (((y.2.1.1,y.2.1.2.1,y.2.1.2.2.1,()),y.2.1.1,a.a8,()),())).bind fun b=>
 some ((y.1.1,y.1.2.1,y.1.2.2.1,y.1.2.2.2.2.1,(decide (y.1.2.2.2.2.1<(0:Int))),false,(!b.1.1),()),())
theorem WY:bw Z (aI (dD (aI (dD (aI (codeOf Tryz.f135) 1 26)) 52 1682)) 3364 215334) (bJ JP JN wK):=ei An (by kernel_rfl) ar fun y=>by kernel_rfl
abbrev wY:Shape:=⟨[aV 0 .pack,ae 3,ae 4],[],49⟩
abbrev B7:List bg:=[(.ret,⟨[aY 2],[],49⟩),(.exit 2,⟨[aV 0 .pack,ae 3],[],49⟩)]
noncomputable def w_(y:wY.H):cy wY B7:=
(bl y.1.1 y.1.2.1).bind fun a=>
 bif(decide (y.1.2.2.1<(a.bb.length:Int))) then
(bl y.1.1 y.1.2.1).bind fun b=>
(bl b.bb y.1.2.2.1).bind fun c=>
(f104 ((y.1.1,c.name,()),())).bind fun d=>
(wK ((y.1.1,y.1.2.1,y.1.2.2.1,(),d.1.1,()),(c.name,c.kind,c.a8,()),())).bind fun e=>
 bif e.1.2.2.2.2.2.2.1 then
 some (.inr (.inl ((false,()),())))
else
 some (.inl ((e.1.1,e.1.2.1,(IntKind.i64.wrap (e.1.2.2.1+(1:Int))),()),()))
else
 some (.inr (.inr ((y.1.1,y.1.2.1,()),())))
noncomputable def Cj:wY.H->Option (aQ B7):=bO w_
theorem Zn:bw Z (aI (dD (aI (codeOf Tryz.f135) 1 26)) 52 1682) (bJ wY B7 Cj):=cD An (by kernel_rfl) (bN WY ar) fun y=>by kernel_rfl
abbrev x1:Shape:=⟨[aV 0 .pack,ae 3],[],49⟩
abbrev DB:List bg:=[(.ret,⟨[aY 2],[],49⟩),(.exit 0,⟨[],[],49⟩)]
noncomputable def yz(y:x1.H):cy x1 DB:=
 bif(decide (y.1.2.1<(y.1.1.length:Int))) then
(Cj ((y.1.1,y.1.2.1,(0:Int),()),())).bind fun a=>
(match a with
|.inl b=>
 some (.inr (.inl ((b.1.1,()),())))
|.inr c=>
 some (.inl ((c.1.1,(IntKind.i64.wrap (c.1.2.1+(1:Int))),()),())))
else
 some (.inr (.inr ((),())))
noncomputable def D8:x1.H->Option (aQ DB):=bO yz
theorem abp:bw Z (aI (codeOf Tryz.f135) 1 26) (bJ x1 DB D8):=cD An (by kernel_rfl) (bN Zn ar) fun y=>by kernel_rfl
abbrev i135:Shape:=⟨[aV 0 .pack],[],49⟩
abbrev P6:Shape:=⟨[aY 2],[],49⟩
noncomputable def f135(a:i135.H):Option P6.H:=
(D8 ((a.1.1,(0:Int),()),())).bind fun b=>
(match b with
|.inl c=>
 some ((c.1.1,()),())
|.inr d=>
 some ((true,()),()))
noncomputable def RC:aU:=ba ap Tryz.f135 i135 P6 [] f135
theorem afg:a4 Z 135 RC:=bc An Tryz.func135 (by kernel_rfl) (bN abp ar) (fun y=>by kernel_rfl) fun a=>by kernel_rfl
noncomputable abbrev adp:bq:=[(101,N'),(141,Ry)]
theorem Ob:a9 Z (bm ap adp):=bz ⟨acl,afc,⟨⟩⟩
abbrev KX:Shape:=⟨[(0,.ai (.ee [.sl .pack] 0))],[],10⟩
abbrev KN:List bg:=[(.norm,⟨[aY 9],[],10⟩)]
noncomputable def Ct(y:KX.H):Option (aQ KN):=
(zw ((y.1.1.1,(),()),())).bind fun a=>
 bif(!(!a.1.1)) then
(f141 ((y.1.1.1,()),())).bind fun b=>
 some (((!b.1.1),()),())
else
 some ((true,()),())
theorem Zl:bw Z (aI (codeOf Tryz.f140) 1 12) (bJ KX KN Ct):=ei Ob (by kernel_rfl) ar fun y=>by kernel_rfl
abbrev NJ:Shape:=⟨[(0,.ai (.ee [.sl .pack] 0))],[],10⟩
abbrev Nr:Shape:=⟨[ae 1],[],10⟩
noncomputable def rP(a:NJ.H):Option Nr.H:=
(Ct (((a.1.1.1,()),()),())).bind fun b=>
 bif b.1.1 then
 some (((1:Int),()),())
else
 some (((0:Int),()),())
noncomputable def N6:aU:=ba ap Tryz.f140 NJ Nr [] rP
theorem acg:a4 Z 140 N6:=bc Ob Tryz.func140 (by kernel_rfl) (bN Zl ar) (fun y=>by kernel_rfl) fun a=>by kernel_rfl
abbrev NI:Shape:=⟨[(0,.ai (.ee [.sl .pack] 0))],[],5⟩
abbrev Nq:Shape:=⟨[ae 1],[],5⟩
noncomputable def rO(a:NI.H):Option Nq.H:=
 bif(decide ((a.1.1.1.length:Int)>(5:Int))) then
 some (((6:Int),()),())
else
 some (((0:Int),()),())
noncomputable def N5:aU:=ba ap Tryz.f142 NI Nq [] rO
theorem acf:a4 Z 142 N5:=bc g0 Tryz.func142 (by kernel_rfl) ar (fun y=>by kernel_rfl) fun a=>by kernel_rfl
noncomputable abbrev adm:bq:=[(132,RD)]
theorem adw:a9 Z (bm ap adm):=bz ⟨afh,⟨⟩⟩
abbrev NF:Shape:=⟨[cg 0 [a6,a6,bi .need,bi .entry],(1,.ai (.ee [.str,.int .i64,.str] 0))],[],10⟩
abbrev Nn:Shape:=⟨[aY 3],[],10⟩
noncomputable def E'(a:NF.H):Option Nn.H:=
(f132 (((a.1.2.1.1,a.1.2.1.2.1,a.1.2.1.2.2.1,()),a.1.1.1,a.1.1.2.1,()),())).bind fun b=>
 some ((b.1.1,()),())
noncomputable def N2:aU:=ba ap Tryz.f196 NF Nn [] E'
theorem acc:a4 Z 196 N2:=bc adw Tryz.func196 (by kernel_rfl) ar (fun y=>by kernel_rfl) fun a=>by kernel_rfl
noncomputable abbrev adk:bq:=[(196,N2)]
theorem Oa:a9 Z (bm ap adk):=bz ⟨acc,⟨⟩⟩
abbrev wV:Shape:=⟨[aV 0 .pack,(1,.ai (.fn 196 [[.str,.int .i64,.str]])),ae 7,ae 8],[],19⟩
abbrev B4:List bg:=[(.ret,⟨[ae 4],[],19⟩),(.exit 0,⟨[],[],19⟩)]
noncomputable def w7(y:wV.H):cy wV B4:=
 bif(decide (y.1.2.2.2.1<y.1.2.2.1)) then
(bl y.1.1 y.1.2.2.2.1).bind fun a=>
(E' (((a.name,a.a8,a.bb,a.bu,()),(y.1.2.1.1.1,y.1.2.1.1.2.1,y.1.2.1.1.2.2.1,()),()),())).bind fun b=>
 bif b.1.1 then
 some (.inr (.inl ((y.1.2.2.2.1,()),())))
else
 some (.inl ((y.1.1,((y.1.2.1.1.1,y.1.2.1.1.2.1,y.1.2.1.1.2.2.1,()),()),y.1.2.2.1,(IntKind.i64.wrap (y.1.2.2.2.1+(1:Int))),()),()))
else
 some (.inr (.inr ((),())))
noncomputable def q7:wV.H->Option (aQ B4):=bO w7
theorem Zf:bw Z (aI (codeOf Tryz.f231) 1 26) (bJ wV B4 q7):=cD Oa (by kernel_rfl) ar fun y=>by kernel_rfl
abbrev ND:Shape:=⟨[aV 0 .pack,(1,.ai (.fn 196 [[.str,.int .i64,.str]]))],[],19⟩
abbrev EL:Shape:=⟨[ae 4],[],19⟩
noncomputable def zq(a:ND.H):Option EL.H:=
(q7 ((a.1.1,((a.1.2.1.1.1,a.1.2.1.1.2.1,a.1.2.1.1.2.2.1,()),()),(a.1.1.length:Int),(0:Int),()),())).bind fun b=>
(match b with
|.inl c=>
 some ((c.1.1,()),())
|.inr d=>
 some ((((-1):Int),()),()))
noncomputable def N0:aU:=ba ap Tryz.f231 ND EL [] zq
theorem aca:a4 Z 231 N0:=bc Oa Tryz.func231 (by kernel_rfl) (bN Zf ar) (fun y=>by kernel_rfl) fun a=>by kernel_rfl
noncomputable abbrev adl:bq:=[(231,N0)]
theorem adv:a9 Z (bm ap adl):=bz ⟨aca,⟨⟩⟩
abbrev NE:Shape:=⟨[aV 0 .pack,(1,.ai (.fn 196 [[.str,.int .i64,.str]]))],[],9⟩
abbrev Nm:Shape:=⟨[aY 4],[],9⟩
noncomputable def zr(a:NE.H):Option Nm.H:=
(zq ((a.1.1,((a.1.2.1.1.1,a.1.2.1.1.2.1,a.1.2.1.1.2.2.1,()),()),()),())).bind fun b=>
 some (((decide (b.1.1>=(0:Int))),()),())
noncomputable def N1:aU:=ba ap Tryz.f197 NE Nm [] zr
theorem acb:a4 Z 197 N1:=bc adv Tryz.func197 (by kernel_rfl) ar (fun y=>by kernel_rfl) fun a=>by kernel_rfl
noncomputable abbrev ahh:bq:=[(197,N1)]
theorem G4:a9 Z (bm ap ahh):=bz ⟨acb,⟨⟩⟩
abbrev wW:Shape:=⟨[aV 0 .pack,aV 8 .pack,ae 9,ae 10,aV 15 .need,ae 16,ae 17],[],28⟩
abbrev B5:List bg:=[(.ret,⟨[aY 2],[],28⟩),(.exit 2,⟨[aV 0 .pack,aV 8 .pack,ae 9,ae 10],[],28⟩)]
noncomputable def w8(y:wW.H):cy wW B5:=
 bif(decide (y.1.2.2.2.2.2.2.1<y.1.2.2.2.2.2.1)) then
(bl y.1.2.2.2.2.1 y.1.2.2.2.2.2.2.1).bind fun a=>
(zr ((y.1.1,((a.name,a.kind,a.a8,()),()),()),())).bind fun b=>
 bif(!b.1.1) then
 some (.inr (.inl ((false,()),())))
else
 some (.inl ((y.1.1,y.1.2.1,y.1.2.2.1,y.1.2.2.2.1,y.1.2.2.2.2.1,y.1.2.2.2.2.2.1,(IntKind.i64.wrap (y.1.2.2.2.2.2.2.1+(1:Int))),()),()))
else
 some (.inr (.inr ((y.1.1,y.1.2.1,y.1.2.2.1,y.1.2.2.2.1,()),())))
noncomputable def Ci:wW.H->Option (aQ B5):=bO w8
theorem Zk:bw Z (aI (dD (aI (codeOf Tryz.f144) 1 26)) 52 6758) (bJ wW B5 Ci):=cD G4 (by kernel_rfl) ar fun y=>by kernel_rfl
abbrev xZ:Shape:=⟨[aV 0 .pack,aV 8 .pack,ae 9,ae 10],[],28⟩
abbrev Dz:List bg:=[(.ret,⟨[aY 2],[],28⟩),(.exit 0,⟨[],[],28⟩)]
noncomputable def yx(y:xZ.H):cy xZ Dz:=
 bif(decide (y.1.2.2.2.1<y.1.2.2.1)) then
(bl y.1.2.1 y.1.2.2.2.1).bind fun a=>
(Ci ((y.1.1,y.1.2.1,y.1.2.2.1,y.1.2.2.2.1,a.bb,(a.bb.length:Int),(0:Int),()),())).bind fun b=>
(match b with
|.inl c=>
 some (.inr (.inl ((c.1.1,()),())))
|.inr d=>
 some (.inl ((d.1.1,d.1.2.1,d.1.2.2.1,(IntKind.i64.wrap (d.1.2.2.2.1+(1:Int))),()),())))
else
 some (.inr (.inr ((),())))
noncomputable def D6:xZ.H->Option (aQ Dz):=bO yx
theorem abm:bw Z (aI (codeOf Tryz.f144) 1 26) (bJ xZ Dz D6):=cD G4 (by kernel_rfl) (bN Zk ar) fun y=>by kernel_rfl
abbrev i144:Shape:=⟨[aV 0 .pack],[],28⟩
abbrev P1:Shape:=⟨[aY 2],[],28⟩
noncomputable def f144(a:i144.H):Option P1.H:=
(D6 ((a.1.1,a.1.1,(a.1.1.length:Int),(0:Int),()),())).bind fun b=>
(match b with
|.inl c=>
 some ((c.1.1,()),())
|.inr d=>
 some ((true,()),()))
noncomputable def Rx:aU:=ba ap Tryz.f144 i144 P1 [] f144
theorem afb:a4 Z 144 Rx:=bc G4 Tryz.func144 (by kernel_rfl) (bN abm ar) (fun y=>by kernel_rfl) fun a=>by kernel_rfl
noncomputable abbrev ado:bq:=[(144,Rx)]
theorem ady:a9 Z (bm ap ado):=bz ⟨afb,⟨⟩⟩
abbrev NH:Shape:=⟨[(0,.ai (.ee [.sl .pack] 0))],[],5⟩
abbrev Np:Shape:=⟨[ae 1],[],5⟩
noncomputable def rN(a:NH.H):Option Np.H:=
(f144 ((a.1.1.1,()),())).bind fun b=>
 bif(!b.1.1) then
 some (((4:Int),()),())
else
 some (((0:Int),()),())
noncomputable def N4:aU:=ba ap Tryz.f143 NH Np [] rN
theorem ace:a4 Z 143 N4:=bc ady Tryz.func143 (by kernel_rfl) ar (fun y=>by kernel_rfl) fun a=>by kernel_rfl
noncomputable abbrev adn:bq:=[(52,T')]
theorem adx:a9 Z (bm ap adn):=bz ⟨aie,⟨⟩⟩
abbrev NG:Shape:=⟨[(0,.ai (.ee [.sl .pack] 0))],[],11⟩
abbrev No:Shape:=⟨[ae 1],[],11⟩
noncomputable def rM(a:NG.H):Option No.H:=
(f52 ((a.1.1.1,()),())).bind fun b=>
 bif(!b.1.2.1) then
 some (((5:Int),()),())
else
 some (((0:Int),()),())
noncomputable def N3:aU:=ba ap Tryz.f145 NG No [] rM
theorem acd:a4 Z 145 N3:=bc adx Tryz.func145 (by kernel_rfl) ar (fun y=>by kernel_rfl) fun a=>by kernel_rfl
noncomputable abbrev aln:bq:=[(51,Ua),(98,A9),(135,RC)]
theorem Iw:a9 Z (bm ap aln):=bz ⟨aif,G7,afg,⟨⟩⟩
abbrev Mu:Shape:=⟨[aV 0 .pack,ae 3],[],52⟩
abbrev Ml:List bg:=[(.norm,⟨[aV 0 .pack,ae 3,aV 12 .pack,ae 13,(14,.ai (.ee [.str,.str,.sl .need,.sl .entry] 0)),cg 15 [a6,a6,bi .need,bi .entry],aY 16,aY 17,aY 18,aY 35],[],52⟩)]
noncomputable def yg(y:Mu.H):Option (aQ Ml):=
(bl y.1.1 y.1.2.1).bind fun a=>
(f98 (((a.name,a.a8,a.bb,a.bu,()),()),())).bind fun b=>
 bif(!b.1.1) then
 some ((y.1.1,y.1.2.1,y.1.1,y.1.2.1,(a.name,a.a8,a.bb,a.bu,()),(a.name,a.a8,a.bb,a.bu,()),b.1.1,(!b.1.1),true,true,()),())
else
 bif(decide (y.1.2.1>(0:Int))) then
(bl y.1.1 (IntKind.i64.wrap (y.1.2.1-(1:Int)))).bind fun c=>
(bl y.1.1 y.1.2.1).bind fun d=>
 some ((y.1.1,y.1.2.1,y.1.1,y.1.2.1,(a.name,a.a8,a.bb,a.bu,()),(a.name,a.a8,a.bb,a.bu,()),b.1.1,(!b.1.1),false,(!(Op.bytesLess c.name d.name)),()),())
else
 some ((y.1.1,y.1.2.1,y.1.1,y.1.2.1,(a.name,a.a8,a.bb,a.bu,()),(a.name,a.a8,a.bb,a.bu,()),b.1.1,(!b.1.1),false,false,()),())
theorem aaY:bw Z (aI (dD (aI (codeOf Tryz.f85) 1 26)) 52 840) (bJ Mu Ml yg):=ei Iw (by kernel_rfl) ar fun y=>by kernel_rfl
abbrev yS:Shape:=⟨[aV 0 .pack,ae 3],[],52⟩
abbrev Ex:List bg:=[(.ret,⟨[ae 2],[],52⟩),(.exit 0,⟨[aV 0 .pack],[],52⟩)]
noncomputable def pM(y:yS.H):cy yS Ex:=
 bif(decide (y.1.2.1<(y.1.1.length:Int))) then
(yg ((y.1.1,y.1.2.1,()),())).bind fun a=>
 bif a.1.2.2.2.2.2.2.2.2.2.1 then
 some (.inr (.inl (((1:Int),()),())))
else
 some (.inl ((a.1.1,(IntKind.i64.wrap (a.1.2.1+(1:Int))),()),()))
else
 some (.inr (.inr ((y.1.1,()),())))
noncomputable def y8:yS.H->Option (aQ Ex):=bO pM
theorem acA:bw Z (aI (codeOf Tryz.f85) 1 26) (bJ yS Ex y8):=cD Iw (by kernel_rfl) (bN aaY ar) fun y=>by kernel_rfl
abbrev i85:Shape:=⟨[aV 0 .pack],[],52⟩
abbrev Sw:Shape:=⟨[ae 2],[],52⟩
noncomputable def f85(a:i85.H):Option Sw.H:=
(y8 ((a.1.1,(0:Int),()),())).bind fun b=>
(match b with
|.inl c=>
 some ((c.1.1,()),())
|.inr d=>
(f51 ((d.1.1,()),())).bind fun e=>
 bif(decide ((d.1.1.length:Int)>(5:Int))) then
 some (((6:Int),()),())
else
(f135 ((d.1.1,()),())).bind fun f=>
 bif(!f.1.1) then
 some (((4:Int),()),())
else
 bif(!e.1.2.1) then
 some (((5:Int),()),())
else
 some (((0:Int),()),()))
noncomputable def Iq:aU:=ba ap Tryz.f85 i85 Sw [] f85
theorem R_:a4 Z 85 Iq:=bc Iw Tryz.func85 (by kernel_rfl) (bN acA ar) (fun y=>by kernel_rfl) fun a=>by kernel_rfl
noncomputable abbrev alH:bq:=[(85,Iq)]
theorem ama:a9 Z (bm ap alH):=bz ⟨R_,⟨⟩⟩
abbrev i46:Shape:=⟨[cg 0 [bi .pack]],[],7⟩
abbrev SS:Shape:=⟨[aY 2],[],7⟩
noncomputable def f46(a:i46.H):Option SS.H:=
(f85 ((a.1.1.1,()),())).bind fun b=>
 some (((b.1.1==(0:Int)),()),())
noncomputable def Bc:aU:=ba ap Tryz.f46 i46 SS [] f46
theorem Ha:a4 Z 46 Bc:=bc ama Tryz.func46 (by kernel_rfl) ar (fun y=>by kernel_rfl) fun a=>by kernel_rfl
noncomputable abbrev s_:bq:=[(140,N6),(142,N5),(143,N4),(145,N3)]
theorem Uq:a9 Z (bm ap s_):=bz ⟨acg,acf,ace,acd,⟨⟩⟩
abbrev On:Shape:=⟨[bf 1 1 0],[be 1 [bi .pack]],24⟩
abbrev oN:List bg:=[(.ret,⟨[ae 2],[],24⟩)]
noncomputable def pR(c:Int):aQ oN:=((c,()),())
noncomputable def Fz(y:On.H):Option (aQ oN):=
 pP y.2.1.1 pR [fun ps=>rP (((ps,()),()),()),fun ps=>rO (((ps,()),()),()),fun ps=>rN (((ps,()),()),()),fun ps=>rM (((ps,()),()),())]
theorem adG:∀ps k i,exec (gk (bm ap s_) []) (aI (dD (aI (codeOf Tryz.f88) 1 58)) 116 3737) 3737 (((gI 24).st (gO 24 ps k i)).set 5 (bP (.clo 140 [(1,0)]))) (pS 24 oN)=((fun ps=>rP (((ps,()),()),())) ps).bind fun r=>bif(r.1.1 !=0) then some (.inr (pR r.1.1)) else some (.inl (gO 24 ps k i)):=fun ps k i=>by kernel_rfl
theorem adF:∀ps k i,exec (gk (bm ap s_) []) (aI (dD (aI (codeOf Tryz.f88) 1 58)) 116 3737) 3737 (((gI 24).st (gO 24 ps k i)).set 5 (bP (.clo 142 [(1,0)]))) (pS 24 oN)=((fun ps=>rO (((ps,()),()),())) ps).bind fun r=>bif(r.1.1 !=0) then some (.inr (pR r.1.1)) else some (.inl (gO 24 ps k i)):=fun ps k i=>by kernel_rfl
theorem adE:∀ps k i,exec (gk (bm ap s_) []) (aI (dD (aI (codeOf Tryz.f88) 1 58)) 116 3737) 3737 (((gI 24).st (gO 24 ps k i)).set 5 (bP (.clo 143 [(1,0)]))) (pS 24 oN)=((fun ps=>rN (((ps,()),()),())) ps).bind fun r=>bif(r.1.1 !=0) then some (.inr (pR r.1.1)) else some (.inl (gO 24 ps k i)):=fun ps k i=>by kernel_rfl
theorem adD:∀ps k i,exec (gk (bm ap s_) []) (aI (dD (aI (codeOf Tryz.f88) 1 58)) 116 3737) 3737 (((gI 24).st (gO 24 ps k i)).set 5 (bP (.clo 145 [(1,0)]))) (pS 24 oN)=((fun ps=>rM (((ps,()),()),())) ps).bind fun r=>bif(r.1.1 !=0) then some (.inr (pR r.1.1)) else some (.inl (gO 24 ps k i)):=fun ps k i=>by kernel_rfl
theorem adS:bw Z (aI (codeOf Tryz.f88) 1 3) (bJ On oN Fz):=
 Xi (C:=gk (bm ap s_) []) (os:=oN) (nt:=24) (T:=167) (e:=166) (m0:=((opsOf (aI (codeOf Tryz.f88) 1 6)).getD 0 default)) (m1:=((opsOf (aI (codeOf Tryz.f88) 1 6)).getD 1 default)) (m2:=((opsOf (aI (codeOf Tryz.f88) 1 6)).getD 2 default)) (m3:=((opsOf (aI (codeOf Tryz.f88) 1 6)).getD 3 default)) (m4:=((opsOf (aI (codeOf Tryz.f88) 1 6)).getD 4 default)) (m5:=((opsOf (aI (codeOf Tryz.f88) 1 6)).getD 5 default)) (n0:=((opsOf (aI (codeOf Tryz.f88) 1 28)).getD 0 default)) (n1:=((opsOf (aI (codeOf Tryz.f88) 1 28)).getD 1 default)) (n2:=((opsOf (aI (codeOf Tryz.f88) 1 28)).getD 2 default)) (q0:=((opsOf (aI (dD (aI (codeOf Tryz.f88) 1 58)) 116 232)).getD 0 default)) (r0:=((opsOf (aI (dD (aI (codeOf Tryz.f88) 1 58)) 116 3736)).getD 0 default)) (r1:=((opsOf (aI (dD (aI (codeOf Tryz.f88) 1 58)) 116 3736)).getD 1 default)) (r2:=((opsOf (aI (dD (aI (codeOf Tryz.f88) 1 58)) 116 3736)).getD 2 default))
  (i1:=rW (aI (codeOf Tryz.f88) 1 6)) (i2:=rW (aI (codeOf Tryz.f88) 1 28)) (i3:=rW (aI (dD (aI (codeOf Tryz.f88) 1 58)) 116 232)) (i4:=rW (aI (dD (aI (codeOf Tryz.f88) 1 58)) 116 3736)) (BB:=(aI (dD (aI (codeOf Tryz.f88) 1 58)) 116 3737)) (r8:=(aI (dD (aI (codeOf Tryz.f88) 1 58)) 116 935)) (E:=(aI (codeOf Tryz.f88) 1 15)) (p3:=232) (pB:=3737) (p8:=935) (pE:=15) (g0:=140) (g1:=142) (g2:=143) (g3:=145) (c0:=fun ps=>rP (((ps,()),()),())) (c1:=fun ps=>rO (((ps,()),()),())) (c2:=fun ps=>rN (((ps,()),()),())) (c3:=fun ps=>rM (((ps,()),()),())) (mk:=pR) Uq
  {qb:=(by kernel_rfl),Hk:=(by kernel_rfl),bz:=⟨(by kernel_rfl),(by kernel_rfl),(by kernel_rfl),(by kernel_rfl),(by kernel_rfl),(by kernel_rfl),(by kernel_rfl),(by kernel_rfl),(by kernel_rfl),(by kernel_rfl),(by kernel_rfl),(by kernel_rfl)⟩,fg:=⟨(by kernel_rfl),(by kernel_rfl)⟩,on:=⟨(by kernel_rfl),(by kernel_rfl),(by kernel_rfl)⟩,Ay:=⟨(by kernel_rfl),(by kernel_rfl),(by kernel_rfl)⟩,dst:=⟨(by kernel_rfl),(by kernel_rfl),(by kernel_rfl),(by kernel_rfl),(by kernel_rfl),(by kernel_rfl),(by kernel_rfl),(by kernel_rfl)⟩,F5:=(by decide),Hn:=(by kernel_rfl),Tc:=(by kernel_rfl),Tb:=(by kernel_rfl),wr:=(by kernel_rfl),aiC:=(by kernel_rfl),
   j_:=⟨(fun f hf=>by cases hf),kM (by kernel_rfl) ar,kM (by kernel_rfl) ar,kM (by kernel_rfl) ar⟩,hos:=(fun _ _=>rfl),aH:=(fun ps=>by kernel_rfl),k4:=(fun ps k i=>by kernel_rfl),aX:=(fun ps k i=>by kernel_rfl),
   fS:=(fun gc h=>by
    simp only[List.mem_cons,List.not_mem_nil,or_false] at h;rcases h with rfl|rfl|rfl|rfl
    ·exact adG
    ·exact adF
    ·exact adE
    ·exact adD),
   nd:=(fun ps k i=>by kernel_rfl),hE:=(fun ps k i=>by kernel_rfl)} (fun ps=>rfl) (by kernel_rfl)
abbrev i88:Shape:=⟨[aV 0 .pack],[],24⟩
abbrev St:Shape:=⟨[ae 2],[],24⟩
noncomputable def f88(a:i88.H):Option St.H:=
(Fz (((),()),(a.1.1,()),())).bind fun b=>
 some ((b.1.1,()),())
noncomputable def Im:aU:=ba ap Tryz.f88 i88 St [] f88
theorem R7:a4 Z 88 Im:=bc Uq Tryz.func88 (by kernel_rfl) (bN adS ar) (fun y=>by kernel_rfl) fun a=>by kernel_rfl
noncomputable abbrev alG:bq:=[(88,Im)]
theorem al9:a9 Z (bm ap alG):=bz ⟨R7,⟨⟩⟩
abbrev i48:Shape:=⟨[cg 0 [bi .pack]],[],7⟩
abbrev SR:Shape:=⟨[aY 2],[],7⟩
noncomputable def f48(a:i48.H):Option SR.H:=
(f88 ((a.1.1.1,()),())).bind fun b=>
 some (((b.1.1==(0:Int)),()),())
noncomputable def Bb:aU:=ba ap Tryz.f48 i48 SR [] f48
theorem G':a4 Z 48 Bb:=bc al9 Tryz.func48 (by kernel_rfl) ar (fun y=>by kernel_rfl) fun a=>by kernel_rfl
theorem Lu(a)(M:cj a.1.1.length):(∃(k:Nat) (q:aK),f104 a=some (((k:Int),()),())/\a.1.1[k]? =some q/\a.1.1.find? (fun p=>p.name==a.1.2.1)=some q)\/
  (f104 a=some ((((-1):Int),()),())/\a.1.1.find? (fun p=>p.name==a.1.2.1)=none):=by
 obtain⟨⟨ps,name,u⟩,bF⟩:=a;have M:ps.length<=2097152:=M;have key:∀(r:List aK) (k:Nat),ps.drop k=r->k<=ps.length->(∃(j:Nat) (q:aK),rl ((ps,(name,((k:Int),()))),())=some (.inl (((j:Int),()),()))/\ps[j]? =some q/\r.find? (fun p=>p.name==name)=some q)\/
   (rl ((ps,(name,((k:Int),()))),())=some (.inr ((),()))/\r.find? (fun p=>p.name==name)=none):=by
  intro r;induction r with
  |nil=>
   intro k hr ag;have:=drop_nil hr;have d1:decide ((k:Int)<(ps.length:Int))=false:=by simp only[decide_eq_false_iff_not];omega
   refine .inr ⟨eB ?_,rfl⟩;simp only[yC,d1,cond_false]
  |cons q r ih=>
   intro k hr ag;obtain⟨c1,c2,c3⟩:=drop_cons hr;have hw:aF k:=by unfold aF;omega
   have step:yC ((ps,(name,((k:Int),()))),())=some (bif q.name==name then .inr (.inl (((k:Int),()),())) else .inl ((ps,(name,(((k+1:Nat):Int),()))),())):=by
    simp only[yC,ce c3,cond_true,b0,c1,Option.bind_some,b' hw];cases (q.name==name)<;>rfl
   cases ay:(q.name==name) with
   |true=>
    rw[ay,cond_true] at step;exact .inl ⟨k,q,eB step,c1,by simp[List.find?_cons,ay]⟩
   |false=>
    rw[ay,cond_false] at step;rcases ih (k+1) c2 c3 with⟨j,g_,h1,h2,aa⟩|⟨h1,h2⟩
    ·exact .inl ⟨j,g_,(hk step).trans h1,h2,by simp[List.find?_cons,ay];exact aa⟩
    ·exact .inr ⟨(hk step).trans h1,by simp only[List.find?_cons,ay];exact h2⟩
 rcases key ps 0 rfl (Nat.zero_le _) with⟨j,q,h1,h2,aa⟩|⟨h1,h2⟩
 ·have h1:rl ((ps,(name,((0:Int),()))),())=some (.inl (((j:Int),()),())):=h1;exact .inl ⟨j,q,by simp only[f104,h1,Option.bind_some],h2,aa⟩
 ·have h1:rl ((ps,(name,((0:Int),()))),())=some (.inr ((),())):=h1;exact .inr ⟨by simp only[f104,h1,Option.bind_some],h2⟩
abbrev ni(ps:List aK):Prop:=∀p,p∈ps->p.a8.length<=2097151/\∀n,n∈p.bb->n.a8.length<=2097151
def hP(ps:List aK)(n:dr):Bool:=match ps.find? (fun q=>q.name==n.name) with
 |some q=>sg n q.a8
 |none=>false
def iV(ps:List aK)(n:dr):Bool:=ps.any fun q=>k1 n q.name q.a8
theorem KF(a)(hb:eu a.1.1)(hv:ni a.1.1):f135 a=some ((a.1.1.all (fun p=>p.bb.all (hP a.1.1)),()),()):=by
 obtain⟨⟨ps,u⟩,bF⟩:=a;have hl:ps.length<=2097152:=hb.1;have inner:∀(i:Nat) (p:aK),ps[i]? =some p->Cj ((ps,((i:Int),((0:Int),()))),())=some (bif p.bb.all (hP ps) then .inr ((ps,((i:Int),())),()) else .inl ((false,()),())):=by
  intro i p aj;have sV:=List.mem_of_getElem? aj;have HP:p.bb.length<=2097152:=(hb.2 p sV).2.2.1.1;have:=fD w_ p.bb (fun k=>((ps,((i:Int),((k:Int),()))),())) (fun _ n=>hP ps n) (.inl ((false,()),())) (.inr ((ps,((i:Int),())),())) (fun k n hn=>?_) ?_
  ·have:=this;rw[gV] at this;exact this
  ·have ag:=cc hn;have hw:aF k:=by unfold aF;omega
   have hT:=List.mem_of_getElem? hn;have nd:=Lu ((ps,(n.name,())),()) hl;simp only[w_,b0,aj,Option.bind_some,ce ag,cond_true,hn];rcases nd with⟨j,q,h1,h2,aa⟩|⟨h1,h2⟩
   ·have h2:ps[j]? =some q:=h2;have aa:ps.find? (fun p=>p.name==n.name)=some q:=aa
    have ay:=hv q (List.mem_of_getElem? h2);have hf:=_c (((n.name,(n.kind,(n.a8,()))),(n.name,(q.a8,()))),()) ((hv p sV).2 n hT) ay.1 rfl;have hj:decide ((j:Int)<0)=false:=by simp only[decide_eq_false_iff_not];omega
    simp only[h1,Option.bind_some,wK,hj,cond_false,b0,h2,hf,hP,aa,b' hw];cases sg n q.a8<;>rfl
   ·have h2:ps.find? (fun p=>p.name==n.name)=none:=h2
    have hj:decide ((-1:Int)<0)=true:=rfl;simp only[h1,Option.bind_some,wK,hj,cond_true,hP,h2,cond_false]
  ·simp only[w_,b0,aj,Option.bind_some,cU,cond_false]
 have key:D8 ((ps,((0:Int),())),())=some (bif allI (fun _ p=>p.bb.all (hP ps)) 0 ps then .inr ((),()) else .inl ((false,()),())):=by
  refine fD yz ps (fun i=>((ps,((i:Int),())),())) _ _ _ (fun i x hx=>?_) ?_
  ·have hi:=cc hx;have hw:aF i:=by unfold aF;omega
   simp only[yz,ce hi,cond_true,inner i x hx,Option.bind_some];cases x.bb.all (hP ps)
   ·rfl
   ·simp only[cond_true,b' hw]
  ·simp only[yz,cU,cond_false]
 rw[gV] at key;simp only[f135,key,Option.bind_some];cases List.all ps (fun p=>p.bb.all (hP ps))<;>rfl
theorem VY(a)(hb:eu a.1.1)(hv:ni a.1.1):f144 a=some ((a.1.1.all (fun p=>p.bb.all (iV a.1.1)),()),()):=by
 obtain⟨⟨ps,u⟩,bF⟩:=a;have hl:ps.length<=2097152:=hb.1;have agu:∀n:dr,cj n.name.length->n.a8.length<=2097151->zr ((ps,(((n.name,(n.kind,(n.a8,()))),()),())),())=some ((iV ps n,()),()):=by
  intro n HR ajZ;have key:∀(r:List aK) (k:Nat),ps.drop k=r->k<=ps.length->∃z:Int,(q7 ((ps,(((n.name,(n.kind,(n.a8,()))),()),((ps.length:Int),((k:Int),())))),())).bind (fun adP=>(match adP with
    |.inl adO=>some ((adO.1.1,()),())
    |.inr anU=>some ((((-1):Int),()),()):Option EL.H))=some ((z,()),())/\decide (z>=0)=r.any (fun q=>k1 n q.name q.a8):=by
   intro r;induction r with
   |nil=>
    intro k hr ag;have:=drop_nil hr;have d1:decide ((k:Int)<(ps.length:Int))=false:=by simp only[decide_eq_false_iff_not];omega
    have:q7 ((ps,(((n.name,(n.kind,(n.a8,()))),()),((ps.length:Int),((k:Int),())))),())=some (.inr ((),())):=by
     refine eB ?_
     simp only[w7,d1,cond_false]
    exact⟨-1,by rw[this];rfl,rfl⟩
   |cons q r ih=>
    intro k hr ag;obtain⟨c1,c2,c3⟩:=drop_cons hr;have hw:aF k:=by unfold aF;omega
    have ay:=hv q (List.mem_of_getElem? c1);have hf:=Xt (((n.name,(n.kind,(n.a8,()))),(q.name,(q.a8,()))),()) HR ajZ ay.1;have step:w7 ((ps,(((n.name,(n.kind,(n.a8,()))),()),((ps.length:Int),((k:Int),())))),())=some (bif k1 n q.name q.a8 then .inr (.inl (((k:Int),()),())) else .inl ((ps,(((n.name,(n.kind,(n.a8,()))),()),((ps.length:Int),(((k+1:Nat):Int),())))),())):=by
     simp only[w7,ce c3,cond_true,b0,c1,Option.bind_some,E',hf,b' hw];cases k1 n q.name q.a8<;>rfl
    rw[List.any_cons];cases Tw:k1 n q.name q.a8 with
    |true=>
     rw[Tw,cond_true] at step;exact⟨k,by rw[show q7 _=_ from eB step];rfl,by simp⟩
    |false=>
     rw[Tw,cond_false] at step;obtain⟨z,h1,h2⟩:=ih (k+1) c2 c3;exact⟨z,by rw[show q7 _=_ from hk step];exact h1,by rw[h2];rfl⟩
  obtain⟨z,h1,h2⟩:=key ps 0 rfl (Nat.zero_le _);have aa:zq ((ps,(((n.name,(n.kind,(n.a8,()))),()),())),())=some ((z,()),()):=by
   simp only[zq];exact h1
  simp only[zr,aa,Option.bind_some,h2,iV]
 have inner:∀(i:Nat) (p:aK),ps[i]? =some p->Ci ((ps,(ps,((ps.length:Int),((i:Int),(p.bb,((p.bb.length:Int),((0:Int),()))))))),())=some (bif p.bb.all (iV ps) then .inr ((ps,(ps,((ps.length:Int),((i:Int),())))),()) else .inl ((false,()),())):=by
  intro i p aj;have sV:=List.mem_of_getElem? aj;have HP:p.bb.length<=2097152:=(hb.2 p sV).2.2.1.1;have:=fD w8 p.bb (fun k=>((ps,(ps,((ps.length:Int),((i:Int),(p.bb,((p.bb.length:Int),((k:Int),()))))))),())) (fun _ n=>iV ps n) (.inl ((false,()),())) (.inr ((ps,(ps,((ps.length:Int),((i:Int),())))),())) (fun k n hn=>?_) ?_
  ·have:=this;rw[gV] at this;exact this
  ·have ag:=cc hn;have hw:aF k:=by unfold aF;omega
   have hT:=List.mem_of_getElem? hn;have hc:=agu n ((hb.2 p sV).2.2.1.2 n hT).1 ((hv p sV).2 n hT);simp only[w8,ce ag,cond_true,b0,hn,Option.bind_some,hc,b' hw];cases iV ps n<;>rfl
  ·simp only[w8,cU,cond_false]
 have key:D6 ((ps,(ps,((ps.length:Int),((0:Int),())))),())=some (bif allI (fun _ p=>p.bb.all (iV ps)) 0 ps then .inr ((),()) else .inl ((false,()),())):=by
  refine fD yx ps (fun i=>((ps,(ps,((ps.length:Int),((i:Int),())))),())) _ _ _ (fun i x hx=>?_) ?_
  ·have hi:=cc hx;have hw:aF i:=by unfold aF;omega
   simp only[yx,ce hi,cond_true,b0,hx,inner i x hx,Option.bind_some];cases x.bb.all (iV ps)
   ·rfl
   ·simp only[cond_true,b' hw]
  ·simp only[yx,cU,cond_false]
 rw[gV] at key;simp only[f144,key,Option.bind_some];cases List.all ps (fun p=>p.bb.all (iV ps))<;>rfl
theorem ZZ:∀ps:List aK,(∀i y,ps[i+1]? =some y->mE ps i y=true)->ps.Pairwise fun p q=>Op.bytesLess p.name q.name=true:=by
 intro ps;induction ps with
 |nil=>intro _;exact List.Pairwise.nil
 |cons x r ih=>
  intro h;have hr:=ih (fun i y ak=>by
   have:=h (i+1) y (by simpa using ak)
   unfold mE at this ⊢;simpa using this)
  refine List.pairwise_cons.2 ⟨fun y ak=>?_,hr⟩
  cases r with
  |nil=>cases ak
  |cons z r=>
   have hz:Op.bytesLess x.name z.name=true:=by
    have:=h 0 z rfl;unfold mE at this;simpa using this
   rcases List.mem_cons.1 ak with rfl|ak
   ·exact hz
   ·exact rb _ _ _ hz ((List.pairwise_cons.1 hr).1 y ak)
theorem M1{ps:List aK}(h:kb ps=true):ps.Pairwise fun p q=>Op.bytesLess p.name q.name=true:=by
 refine ZZ ps (fun i y ak=>?_)
 have:=Dd ps.tail 0 h i y (by rw[List.getElem?_tail];exact ak)
 rwa[Nat.zero_add] at this
theorem W4:∀(ps:List aK) (n:dr),(∀p,p∈ps->eI p.a8=true)->hN n=true->ps.Pairwise (fun p q=>Op.bytesLess p.name q.name=true)->iV ps n=hP ps n:=by
 intro ps n;induction ps with
 |nil=>intro _ _ _;rfl
 |cons q r ih=>
  intro hv hn aj;have n5:=List.pairwise_cons.1 aj;have ih:=ih (fun p h=>hv p (List.mem_cons_of_mem _ h)) hn n5.2
  unfold iV hP at ih ⊢;rw[List.any_cons,List.find?_cons];cases ay:(q.name==n.name) with
  |true=>
   have l0:r.any (fun q=>k1 n q.name q.a8)=false:=by
    rw[List.any_eq_false];intro p ajQ;have h1:=n5.1 p ajQ;rw[eq_of_beq ay] at h1;have:(p.name==n.name)=false:=by
     cases h:(p.name==n.name) with
     |false=>rfl
     |true=>rw[eq_of_beq h,oK] at h1;cases h1
    unfold k1;rw[this];simp
   rw[l0];unfold k1;rw[hv q List.mem_cons_self,hn,ay];simp
  |false=>
   have:k1 n q.name q.a8=false:=by unfold k1;rw[ay];simp
   rw[this,Bool.false_or];exact ih
def is(ps:List aK):Bool:=ps.all dE&&kb ps&&decide (ps.length<=5)&&ps.all (fun p=>p.bb.all (hP ps))&&(fe [] ps).isSome
def fG(ps:List aK):Int:=bif ps.all dE&&kb ps then(bif decide (ps.length<=5) then(bif ps.all (fun p=>p.bb.all (hP ps)) then(bif(fe [] ps).isSome then 0 else 5) else 4) else 6) else 1
theorem WW(ps:List aK):is ps=(fG ps==0):=by
 unfold is fG;cases ps.all dE<;>cases kb ps<;>cases decide (ps.length<=5)<;>cases ps.all (fun p=>p.bb.all (hP ps))<;>cases (fe [] ps).isSome<;>rfl
theorem Ys{aD:Type}(ok:Nat->aD->Bool):∀(xs:List aD) (j:Nat),allI ok (j+1) xs=allI (fun i=>ok (i+1)) j xs:=by
 intro xs;induction xs with
 |nil=>intro j;rfl
 |cons x r ih=>intro j;simp only[allI,ih]
def sO(ps:List aK)(i:Nat)(x:aK):Bool:=dE x&&(i==0||mE ps (i-1) x)
theorem MI(ps:List aK):allI (sO ps) 0 ps=(ps.all dE&&kb ps):=by
 unfold sO;rw[De,gV];congr 1
 unfold kb;cases ps with
 |nil=>rfl
 |cons x r=>
  simp only[allI,beq_self_eq_true,Bool.true_or,Bool.true_and,List.tail_cons];rw[Ys];refine KB r 0 (fun i y _ _=>?_)
  have:(i+1==0)=false:=rfl;rw[this,Bool.false_or,Nat.add_sub_cancel]
theorem _j(a)(hb:eu a.1.1.1)(hv:ni a.1.1.1):f46 a=some ((is a.1.1.1,()),()):=by
 obtain⟨⟨⟨ps,u⟩,bF⟩,iH⟩:=a;have hl:ps.length<=2097152:=hb.1;have key:y8 ((ps,((0:Int),())),())=some (bif allI (sO ps) 0 ps then .inr ((ps,()),()) else .inl (((1:Int),()),())):=by
  refine fD pM ps (fun i=>((ps,((i:Int),())),())) _ _ _ (fun i x hx=>?_) ?_
  ·have hi:=cc hx;have hw:aF i:=by unfold aF;omega
   have vX:=hb.2 x (List.mem_of_getElem? hx);simp only[pM,ce hi,cond_true,yg,b0,hx,Option.bind_some];rw[CF _ vX];simp only[Option.bind_some,sO,Af];cases dE x with
   |false=>rfl
   |true=>
    simp only[Bool.not_true,cond_false,Bool.true_and,mE];cases i with
    |zero=>simp only[beq_self_eq_true,Bool.not_true,cond_false,Option.bind_some,Bool.true_or,cond_true,b' hw]
    |succ i=>
     have h0:(i+1==0)=false:=rfl;have hV:i<ps.length:=by omega
     obtain⟨q,ay⟩:∃q,ps[i]? =some q:=⟨ps[i],List.getElem?_eq_getElem hV⟩;simp only[h0,Bool.not_false,cond_true,tz (i:=i) (by unfold aF;omega),b0,ay,hx,Option.bind_some,Bool.false_or,Nat.add_sub_cancel]
     cases Op.bytesLess q.name x.name with
     |false=>rfl
     |true=>simp only[Bool.not_true,cond_false,cond_true,b' hw]
  ·simp only[pM,cU,cond_false]
 rw[MI] at key;have bD:decide ((ps.length:Int)>5)=!decide (ps.length<=5):=by by_cases h:ps.length<=5<;>simp only[h,decide_true,decide_false,Bool.not_true,Bool.not_false,decide_eq_true_eq,decide_eq_false_iff_not]<;>omega
 simp only[f46,f85,key,Option.bind_some,is];cases hA:(ps.all dE&&kb ps) with
 |false=>rfl
 |true=>
  have ag:ps.all dE=true:=by simp only[Bool.and_eq_true] at hA;exact hA.1
  obtain⟨out,aE⟩:=Ls ((ps,()),()) hb ag;have hn:=KF ((ps,()),()) hb hv;simp only[cond_true,Option.bind_some,aE,bD,Bool.true_and];cases decide (ps.length<=5) with
  |false=>rfl
  |true=>
   simp only[Bool.not_true,cond_false,hn,Option.bind_some,Bool.true_and];cases ps.all (fun p=>p.bb.all (hP ps))<;>cases (fe [] ps).isSome<;>rfl
theorem Ka(a)(hb:eu a.1.1)(hv:ni a.1.1):f88 a=some ((fG a.1.1,()),()):=by
 obtain⟨⟨ps,u⟩,bF⟩:=a;have hl:ps.length<=2097152:=hb.1;have e1:=YQ ((ps,((),())),()) hb;have e2:=Vz ((ps,()),()) hl;have bK:=VY ((ps,()),()) hb hv;have bD:decide ((ps.length:Int)>5)=!decide (ps.length<=5):=by by_cases h:ps.length<=5<;>simp only[h,decide_true,decide_false,Bool.not_true,Bool.not_false,decide_eq_true_eq,decide_eq_false_iff_not]<;>omega
 have c0:rP (((ps,()),()),())=some (((bif ps.all dE&&kb ps then(0:Int) else 1),()),()):=by
  simp only[rP,Ct,e1,Bool.not_not,Option.bind_some];cases ps.all dE with
  |false=>rfl
  |true=>simp only[cond_true,e2,Option.bind_some,Bool.true_and];cases kb ps<;>rfl
 have c1:rO (((ps,()),()),())=some (((bif decide (ps.length<=5) then(0:Int) else 6),()),()):=by
  simp only[rO,bD];cases decide (ps.length<=5)<;>rfl
 have c2:rN (((ps,()),()),())=some (((bif ps.all (fun p=>p.bb.all (iV ps)) then(0:Int) else 4),()),()):=by
  simp only[rN,bK,Option.bind_some];cases ps.all (fun p=>p.bb.all (iV ps))<;>rfl
 have c3:ps.all dE=true->rM (((ps,()),()),())=some (((bif(fe [] ps).isSome then(0:Int) else 5),()),()):=by
  intro ag;obtain⟨out,aE⟩:=WF ((ps,()),()) hb ag;simp only[rM,aE,Option.bind_some];cases (fe [] ps).isSome<;>rfl
 have z:∀n:Int,((n:Int) !=0)=!(n==0):=fun n=>rfl
 simp only[f88,Fz,pP,c0,c1,c2,pR,Option.bind_some,fG];cases hA:(ps.all dE&&kb ps) with
 |false=>rfl
 |true=>
  simp only[Bool.and_eq_true] at hA;have ac5:ps.all (fun p=>p.bb.all (iV ps))=ps.all (fun p=>p.bb.all (hP ps)):=by
   rw[Bool.eq_iff_iff];simp only[List.all_eq_true];have hvs:∀p,p∈ps->eI p.a8=true:=fun p aj=>by
    have:=List.all_eq_true.1 hA.1 p aj;unfold dE at this;simp only[Bool.and_eq_true] at this;exact this.1.1.2
   have fO:∀p,p∈ps->∀n,n∈p.bb->iV ps n=hP ps n:=fun p aj n hn=>by
    have:=List.all_eq_true.1 hA.1 p aj;unfold dE rj at this;simp only[Bool.and_eq_true] at this;exact W4 ps n hvs (List.all_eq_true.1 this.1.2.1.1 n hn) (M1 hA.2)
   constructor
   ·intro h p aj n hn;rw[<-fO p aj n hn];exact h p aj n hn
   ·intro h p aj n hn;rw[fO p aj n hn];exact h p aj n hn
  rw[ac5,c3 hA.1];cases decide (ps.length<=5)<;>cases ps.all (fun p=>p.bb.all (hP ps))<;>cases (fe [] ps).isSome<;>rfl
theorem YL(a)(hb:eu a.1.1.1)(hv:ni a.1.1.1):f48 a=some ((is a.1.1.1,()),()):=by
 obtain⟨⟨⟨ps,u⟩,bF⟩,iH⟩:=a;have e:=Ka ((ps,()),()) hb hv;simp only[f48,e,Option.bind_some,WW]
abbrev i113:Shape:=⟨[cg 0 [a6,cO,a6],ae 1],[],20⟩
abbrev Qi:Shape:=⟨[ae 4],[],20⟩
noncomputable def f113(a:i113.H):Option Qi.H:=
 bif(decide ((IntKind.i64.wrap (a.1.2.1-(a.1.1.1.length:Int)))<(0:Int))) then
 some ((((-1):Int),()),())
else
 bif(decide ((IntKind.i64.wrap ((IntKind.i64.wrap (a.1.2.1-(a.1.1.1.length:Int)))-(a.1.1.2.2.1.length:Int)))<(0:Int))) then
 some ((((-1):Int),()),())
else
 some (((IntKind.i64.wrap ((IntKind.i64.wrap (a.1.2.1-(a.1.1.1.length:Int)))-(a.1.1.2.2.1.length:Int))),()),())
noncomputable def RK:aU:=ba ap Tryz.f113 i113 Qi [] f113
theorem afo:a4 Z 113 RK:=bc g0 Tryz.func113 (by kernel_rfl) ar (fun y=>by kernel_rfl) fun a=>by kernel_rfl
noncomputable abbrev alx:bq:=[(113,RK)]
theorem Ux:a9 Z (bm ap alx):=bz ⟨afo,⟨⟩⟩
abbrev xG:Shape:=⟨[aV 0 .need,ae 1,ae 5],[],27⟩
abbrev Dj:List bg:=[(.ret,⟨[ae 4],[],27⟩),(.exit 0,⟨[ae 1],[],27⟩)]
noncomputable def yi(y:xG.H):cy xG Dj:=
 bif(decide (y.1.2.2.1<(y.1.1.length:Int))) then
(bl y.1.1 y.1.2.2.1).bind fun a=>
(f113 (((a.name,a.kind,a.a8,()),y.1.2.1,()),())).bind fun b=>
 bif(decide (b.1.1<(0:Int))) then
 some (.inr (.inl ((((-1):Int),()),())))
else
 some (.inl ((y.1.1,b.1.1,(IntKind.i64.wrap (y.1.2.2.1+(1:Int))),()),()))
else
 some (.inr (.inr ((y.1.2.1,()),())))
noncomputable def x_:xG.H->Option (aQ Dj):=bO yi
theorem aa1:bw Z (aI (codeOf Tryz.f69) 1 122) (bJ xG Dj x_):=cD Ux (by kernel_rfl) ar fun y=>by kernel_rfl
abbrev i69:Shape:=⟨[aV 0 .need,ae 1],[],27⟩
abbrev SG:Shape:=⟨[ae 4],[],27⟩
noncomputable def f69(a:i69.H):Option SG.H:=
 bif(decide ((IntKind.i64.wrap (a.1.2.1-(a.1.1.length:Int)))<(0:Int))) then
 some ((((-1):Int),()),())
else
(x_ ((a.1.1,(IntKind.i64.wrap (a.1.2.1-(a.1.1.length:Int))),(0:Int),()),())).bind fun b=>
(match b with
|.inl c=>
 some ((c.1.1,()),())
|.inr d=>
 some ((d.1.1,()),()))
noncomputable def T7:aU:=ba ap Tryz.f69 i69 SG [] f69
theorem aia:a4 Z 69 T7:=bc Ux Tryz.func69 (by kernel_rfl) (bN aa1 ar) (fun y=>by kernel_rfl) fun a=>by kernel_rfl
abbrev i114:Shape:=⟨[cg 0 [a6,cO,cO,a6],ae 1],[],20⟩
abbrev Qh:Shape:=⟨[ae 4],[],20⟩
noncomputable def f114(a:i114.H):Option Qh.H:=
 bif(decide ((IntKind.i64.wrap (a.1.2.1-(a.1.1.1.length:Int)))<(0:Int))) then
 some ((((-1):Int),()),())
else
 bif(decide ((IntKind.i64.wrap ((IntKind.i64.wrap (a.1.2.1-(a.1.1.1.length:Int)))-(a.1.1.2.2.2.1.length:Int)))<(0:Int))) then
 some ((((-1):Int),()),())
else
 some (((IntKind.i64.wrap ((IntKind.i64.wrap (a.1.2.1-(a.1.1.1.length:Int)))-(a.1.1.2.2.2.1.length:Int))),()),())
noncomputable def RJ:aU:=ba ap Tryz.f114 i114 Qh [] f114
theorem afn:a4 Z 114 RJ:=bc g0 Tryz.func114 (by kernel_rfl) ar (fun y=>by kernel_rfl) fun a=>by kernel_rfl
noncomputable abbrev alw:bq:=[(114,RJ)]
theorem Uw:a9 Z (bm ap alw):=bz ⟨afn,⟨⟩⟩
abbrev xF:Shape:=⟨[aV 0 .entry,ae 1,ae 5],[],27⟩
abbrev Di:List bg:=[(.ret,⟨[ae 4],[],27⟩),(.exit 0,⟨[ae 1],[],27⟩)]
noncomputable def yh(y:xF.H):cy xF Di:=
 bif(decide (y.1.2.2.1<(y.1.1.length:Int))) then
(bl y.1.1 y.1.2.2.1).bind fun a=>
(f114 (((a.path,a.kind,a.mode,a.text,()),y.1.2.1,()),())).bind fun b=>
 bif(decide (b.1.1<(0:Int))) then
 some (.inr (.inl ((((-1):Int),()),())))
else
 some (.inl ((y.1.1,b.1.1,(IntKind.i64.wrap (y.1.2.2.1+(1:Int))),()),()))
else
 some (.inr (.inr ((y.1.2.1,()),())))
noncomputable def x9:xF.H->Option (aQ Di):=bO yh
theorem aa0:bw Z (aI (codeOf Tryz.f70) 1 122) (bJ xF Di x9):=cD Uw (by kernel_rfl) ar fun y=>by kernel_rfl
abbrev i70:Shape:=⟨[aV 0 .entry,ae 1],[],27⟩
abbrev SF:Shape:=⟨[ae 4],[],27⟩
noncomputable def f70(a:i70.H):Option SF.H:=
 bif(decide ((IntKind.i64.wrap (a.1.2.1-(a.1.1.length:Int)))<(0:Int))) then
 some ((((-1):Int),()),())
else
(x9 ((a.1.1,(IntKind.i64.wrap (a.1.2.1-(a.1.1.length:Int))),(0:Int),()),())).bind fun b=>
(match b with
|.inl c=>
 some ((c.1.1,()),())
|.inr d=>
 some ((d.1.1,()),()))
noncomputable def T6:aU:=ba ap Tryz.f70 i70 SF [] f70
theorem ah9:a4 Z 70 T6:=bc Uw Tryz.func70 (by kernel_rfl) (bN aa0 ar) (fun y=>by kernel_rfl) fun a=>by kernel_rfl
noncomputable abbrev alO:bq:=[(69,T7),(70,T6)]
theorem amh:a9 Z (bm ap alO):=bz ⟨aia,ah9,⟨⟩⟩
abbrev i32:Shape:=⟨[cg 0 [a6,a6,bi .need,bi .entry],ae 1],[],32⟩
abbrev S0:Shape:=⟨[ae 4],[],32⟩
noncomputable def f32(a:i32.H):Option S0.H:=
 bif(decide ((IntKind.i64.wrap (a.1.2.1-(a.1.1.1.length:Int)))<(0:Int))) then
 some ((((-1):Int),()),())
else
 bif(decide ((IntKind.i64.wrap ((IntKind.i64.wrap (a.1.2.1-(a.1.1.1.length:Int)))-(a.1.1.2.1.length:Int)))<(0:Int))) then
 some ((((-1):Int),()),())
else
(f69 ((a.1.1.2.2.1,(IntKind.i64.wrap ((IntKind.i64.wrap (a.1.2.1-(a.1.1.1.length:Int)))-(a.1.1.2.1.length:Int))),()),())).bind fun b=>
 bif(decide (b.1.1<(0:Int))) then
 some ((((-1):Int),()),())
else
(f70 ((a.1.1.2.2.2.1,b.1.1,()),())).bind fun c=>
 bif(decide (c.1.1<(0:Int))) then
 some ((((-1):Int),()),())
else
 some ((c.1.1,()),())
noncomputable def Bf:aU:=ba ap Tryz.f32 i32 S0 [] f32
theorem Hd:a4 Z 32 Bf:=bc amh Tryz.func32 (by kernel_rfl) ar (fun y=>by kernel_rfl) fun a=>by kernel_rfl
noncomputable abbrev alU:bq:=[(32,Bf)]
theorem UF:a9 Z (bm ap alU):=bz ⟨Hd,⟨⟩⟩
abbrev xP:Shape:=⟨[aV 0 .pack,ae 1,ae 5],[],27⟩
abbrev Dr:List bg:=[(.ret,⟨[ae 4],[],27⟩),(.exit 0,⟨[ae 1],[],27⟩)]
noncomputable def yp(y:xP.H):cy xP Dr:=
 bif(decide (y.1.2.2.1<(y.1.1.length:Int))) then
(bl y.1.1 y.1.2.2.1).bind fun a=>
(f32 (((a.name,a.a8,a.bb,a.bu,()),y.1.2.1,()),())).bind fun b=>
 bif(decide (b.1.1<(0:Int))) then
 some (.inr (.inl ((((-1):Int),()),())))
else
 some (.inl ((y.1.1,b.1.1,(IntKind.i64.wrap (y.1.2.2.1+(1:Int))),()),()))
else
 some (.inr (.inr ((y.1.2.1,()),())))
noncomputable def x':xP.H->Option (aQ Dr):=bO yp
theorem abb:bw Z (aI (codeOf Tryz.f20) 1 122) (bJ xP Dr x'):=cD UF (by kernel_rfl) ar fun y=>by kernel_rfl
abbrev i20:Shape:=⟨[aV 0 .pack,ae 1],[],27⟩
abbrev S6:Shape:=⟨[ae 4],[],27⟩
noncomputable def f20(a:i20.H):Option S6.H:=
 bif(decide ((IntKind.i64.wrap (a.1.2.1-(a.1.1.length:Int)))<(0:Int))) then
 some ((((-1):Int),()),())
else
(x' ((a.1.1,(IntKind.i64.wrap (a.1.2.1-(a.1.1.length:Int))),(0:Int),()),())).bind fun b=>
(match b with
|.inl c=>
 some ((c.1.1,()),())
|.inr d=>
 some ((d.1.1,()),()))
noncomputable def Uj:aU:=ba ap Tryz.f20 i20 S6 [] f20
theorem aio:a4 Z 20 Uj:=bc UF Tryz.func20 (by kernel_rfl) (bN abb ar) (fun y=>by kernel_rfl) fun a=>by kernel_rfl
noncomputable abbrev alZ:bq:=[(20,Uj)]
theorem Ix:a9 Z (bm ap alZ):=bz ⟨aio,⟨⟩⟩
abbrev i11:Shape:=⟨[cg 0 [bi .pack],ae 1],[],12⟩
abbrev AA:Shape:=⟨[ae 4],[],12⟩
noncomputable def f11(a:i11.H):Option AA.H:=
(f20 ((a.1.1.1,a.1.2.1,()),())).bind fun b=>
 bif(decide (b.1.1<(0:Int))) then
 some ((((-1):Int),()),())
else
 some ((b.1.1,()),())
noncomputable def qE:aU:=ba ap Tryz.f11 i11 AA [] f11
theorem Hh:a4 Z 11 qE:=bc Ix Tryz.func11 (by kernel_rfl) ar (fun y=>by kernel_rfl) fun a=>by kernel_rfl
abbrev i116:Shape:=⟨[cg 0 [a6,cO,a6]],[],14⟩
abbrev Qf:Shape:=⟨[bf 2 2 0],[be 2 [a6,cO,a6]],14⟩
noncomputable def f116(a:i116.H):Option Qf.H:=
 some (((),()),(a.1.1.1,a.1.1.2.1,a.1.1.2.2.1,()),())
noncomputable def RI:aU:=ba ap Tryz.f116 i116 Qf [] f116
theorem afm:a4 Z 116 RI:=bc g0 Tryz.func116 (by kernel_rfl) ar (fun y=>by kernel_rfl) fun a=>by kernel_rfl
abbrev i117:Shape:=⟨[cg 0 [a6,cO,cO,a6]],[],17⟩
abbrev Qe:Shape:=⟨[bf 2 2 0],[be 2 [a6,cO,cO,a6]],17⟩
noncomputable def f117(a:i117.H):Option Qe.H:=
 some (((),()),(a.1.1.1,a.1.1.2.1,a.1.1.2.2.1,a.1.1.2.2.2.1,()),())
noncomputable def RH:aU:=ba ap Tryz.f117 i117 Qe [] f117
theorem afl:a4 Z 117 RH:=bc g0 Tryz.func117 (by kernel_rfl) ar (fun y=>by kernel_rfl) fun a=>by kernel_rfl
abbrev i125:Shape:=⟨[cg 0 [a6,cO,a6],cg 1 [a6,cO,a6]],[],20⟩
abbrev P':Shape:=⟨[aY 4],[],20⟩
noncomputable def f125(a:i125.H):Option P'.H:=
 bif(!(a.1.1.1==a.1.2.1.1)) then
 some ((false,()),())
else
 bif(a.1.1.2.1 !=a.1.2.1.2.1) then
 some ((false,()),())
else
 bif(!(a.1.1.2.2.1==a.1.2.1.2.2.1)) then
 some ((false,()),())
else
 some ((true,()),())
noncomputable def RF:aU:=ba ap Tryz.f125 i125 P' [] f125
theorem afj:a4 Z 125 RF:=bc g0 Tryz.func125 (by kernel_rfl) ar (fun y=>by kernel_rfl) fun a=>by kernel_rfl
noncomputable abbrev alu:bq:=[(116,RI)]
theorem Uv:a9 Z (bm ap alu):=bz ⟨afm,⟨⟩⟩
abbrev yV:Shape:=⟨[aV 0 .need,b3 3 3000192,ae 4],[ci 3000192 .need 3 0],23⟩
abbrev EA:List bg:=[(.exit 0,⟨[b3 3 3000192],[ci 3000192 .need 3 0],23⟩)]
noncomputable def zg(y:yV.H):cy yV EA:=
 bif(decide (y.1.2.2.1<(y.1.1.length:Int))) then
(bl y.1.1 y.1.2.2.1).bind fun a=>
(f116 (((a.name,a.kind,a.a8,()),()),())).bind fun b=>
(e_ y.2.1.length y.1.2.2.1).bind fun c=>
((y.2.1[c]?).bind fun q=>some (dr.mk b.2.1.1 b.2.1.2.1 b.2.1.2.2.1)).bind fun d=>
 some (.inl ((y.1.1,(),(IntKind.i64.wrap (y.1.2.2.1+(1:Int))),()),(y.2.1.set c d),()))
else
 some (.inr (((),()),y.2.1,()))
noncomputable def EU:yV.H->Option (aQ EA):=bO zg
theorem acF:bw Z (aI (codeOf Tryz.f72) 1 58) (bJ yV EA EU):=cD Uv (by kernel_rfl) ar fun y=>by kernel_rfl
abbrev i72:Shape:=⟨[aV 0 .need],[],23⟩
abbrev SD:Shape:=⟨[b3 2 3000128],[ci 3000128 .need 2 0],23⟩
noncomputable def f72(a:i72.H):Option SD.H:=
(lU 40 (a.1.1.length:Int) (a.1.1.length:Int) (dr.mk ([]:al) (0:Int) ([]:al))).bind fun b=>
(EU ((a.1.1,(),(0:Int),()),b,())).bind fun c=>
 some (((),()),c.2.1,())
noncomputable def T4:aU:=ba ap Tryz.f72 i72 SD [] f72
theorem ah7:a4 Z 72 T4:=bc Uv Tryz.func72 (by kernel_rfl) (bN acF ar) (fun y=>by kernel_rfl) fun a=>by kernel_rfl
noncomputable abbrev alt:bq:=[(117,RH)]
theorem Uu:a9 Z (bm ap alt):=bz ⟨afl,⟨⟩⟩
abbrev yU:Shape:=⟨[aV 0 .entry,b3 3 3000192,ae 4],[ci 3000192 .entry 3 0],23⟩
abbrev Ez:List bg:=[(.exit 0,⟨[b3 3 3000192],[ci 3000192 .entry 3 0],23⟩)]
noncomputable def zf(y:yU.H):cy yU Ez:=
 bif(decide (y.1.2.2.1<(y.1.1.length:Int))) then
(bl y.1.1 y.1.2.2.1).bind fun a=>
(f117 (((a.path,a.kind,a.mode,a.text,()),()),())).bind fun b=>
(e_ y.2.1.length y.1.2.2.1).bind fun c=>
((y.2.1[c]?).bind fun q=>some (a5.mk b.2.1.1 b.2.1.2.1 b.2.1.2.2.1 b.2.1.2.2.2.1)).bind fun d=>
 some (.inl ((y.1.1,(),(IntKind.i64.wrap (y.1.2.2.1+(1:Int))),()),(y.2.1.set c d),()))
else
 some (.inr (((),()),y.2.1,()))
noncomputable def ET:yU.H->Option (aQ Ez):=bO zf
theorem acE:bw Z (aI (codeOf Tryz.f73) 1 58) (bJ yU Ez ET):=cD Uu (by kernel_rfl) ar fun y=>by kernel_rfl
abbrev i73:Shape:=⟨[aV 0 .entry],[],23⟩
abbrev SC:Shape:=⟨[b3 2 3000128],[ci 3000128 .entry 2 0],23⟩
noncomputable def f73(a:i73.H):Option SC.H:=
(lU 48 (a.1.1.length:Int) (a.1.1.length:Int) (a5.mk ([]:al) (0:Int) (0:Int) ([]:al))).bind fun b=>
(ET ((a.1.1,(),(0:Int),()),b,())).bind fun c=>
 some (((),()),c.2.1,())
noncomputable def T3:aU:=ba ap Tryz.f73 i73 SC [] f73
theorem ah6:a4 Z 73 T3:=bc Uu Tryz.func73 (by kernel_rfl) (bN acE ar) (fun y=>by kernel_rfl) fun a=>by kernel_rfl
noncomputable abbrev alM:bq:=[(72,T4),(73,T3)]
theorem amf:a9 Z (bm ap alM):=bz ⟨ah7,ah6,⟨⟩⟩
abbrev i34:Shape:=⟨[cg 0 [a6,a6,bi .need,bi .entry]],[],19⟩
abbrev SY:Shape:=⟨[bf 2 2 0],[eX 5000130 .need 2 2,eX 5000131 .entry 2 3,be 2 [a6,a6,.own 5000130,.own 5000131]],19⟩
noncomputable def f34(a:i34.H):Option SY.H:=
(f72 ((a.1.1.2.2.1,()),())).bind fun b=>
(f73 ((a.1.1.2.2.2.1,()),())).bind fun c=>
 some (((),()),b.2.1,c.2.1,(a.1.1.1,a.1.1.2.1,(),(),()),())
noncomputable def Be:aU:=ba ap Tryz.f34 i34 SY [] f34
theorem Hc:a4 Z 34 Be:=bc amf Tryz.func34 (by kernel_rfl) ar (fun y=>by kernel_rfl) fun a=>by kernel_rfl
noncomputable abbrev alT:bq:=[(34,Be)]
theorem UE:a9 Z (bm hd alT):=od ⟨Hc,⟨⟩⟩
abbrev y3:Shape:=⟨[aV 0 .pack,b3 3 3000192,ae 4],[(3000192,.deep .pack,.slot 3 0)],23⟩
abbrev EG:List bg:=[(.exit 0,⟨[b3 3 3000192],[(3000192,.deep .pack,.slot 3 0)],23⟩)]
noncomputable def zn(y:y3.H):cy y3 EG:=
 bif(decide (y.1.2.2.1<(y.1.1.length:Int))) then
(bl y.1.1 y.1.2.2.1).bind fun a=>
(f34 (((a.name,a.a8,a.bb,a.bu,()),()),())).bind fun b=>
(e_ y.2.1.length y.1.2.2.1).bind fun c=>
((y.2.1[c]?).bind fun _=>some (aK.mk b.2.2.2.1.1 b.2.2.2.1.2.1 b.2.1 b.2.2.1)).bind fun d=>
 some (.inl ((y.1.1,(),(IntKind.i64.wrap (y.1.2.2.1+(1:Int))),()),(y.2.1.set c d),()))
else
 some (.inr (((),()),y.2.1,()))
noncomputable def E2:y3.H->Option (aQ EG):=bO zn
theorem acN:bw Z (aI (codeOf Tryz.f22) 1 58) (bJ y3 EG E2):=cD UE (by kernel_rfl) ar fun y=>by kernel_rfl
abbrev i22:Shape:=⟨[aV 0 .pack],[],23⟩
abbrev S5:Shape:=⟨[b3 2 3000128],[(3000128,.deep .pack,.slot 2 0)],23⟩
noncomputable def f22(a:i22.H):Option S5.H:=
(lU 80 (a.1.1.length:Int) (a.1.1.length:Int) (aK.mk ([]:al) ([]:al) ([]:List dr) ([]:List a5))).bind fun b=>
(E2 ((a.1.1,(),(0:Int),()),b,())).bind fun c=>
 some (((),()),c.2.1,())
noncomputable def Ui:aU:=ba hd Tryz.f22 i22 S5 [] f22
theorem ain:a4 Z 22 Ui:=bc UE Tryz.func22 (by kernel_rfl) (bN acN ar) (fun y=>by kernel_rfl) fun a=>by kernel_rfl
noncomputable abbrev alY:bq:=[(22,Ui)]
theorem amm:a9 Z (bm hd alY):=od ⟨ain,⟨⟩⟩
abbrev i13:Shape:=⟨[cg 0 [bi .pack]],[],9⟩
abbrev S_:Shape:=⟨[bf 2 2 0],[(5000128,.deep .pack,.cell 2 0),be 2 [.own 5000128]],9⟩
noncomputable def f13(a:i13.H):Option S_.H:=
(f22 ((a.1.1.1,()),())).bind fun b=>
 some (((),()),b.2.1,((),()),())
noncomputable def s9:aU:=ba hd Tryz.f13 i13 S_ [] f13
theorem Hg:a4 Z 13 s9:=bc amm Tryz.func13 (by kernel_rfl) ar (fun y=>by kernel_rfl) fun a=>by kernel_rfl
abbrev i53:Shape:=⟨[cg 0 [a6,cO,cO,a6],cg 1 [a6,cO,cO,a6]],[],25⟩
abbrev SO:Shape:=⟨[aY 4],[],25⟩
noncomputable def f53(a:i53.H):Option SO.H:=
 bif(!(a.1.1.1==a.1.2.1.1)) then
 some ((false,()),())
else
 bif(a.1.1.2.1 !=a.1.2.1.2.1) then
 some ((false,()),())
else
 bif(a.1.1.2.2.1 !=a.1.2.1.2.2.1) then
 some ((false,()),())
else
 bif(!(a.1.1.2.2.2.1==a.1.2.1.2.2.2.1)) then
 some ((false,()),())
else
 some ((true,()),())
noncomputable def T_:aU:=ba ap Tryz.f53 i53 SO [] f53
theorem aid:a4 Z 53 T_:=bc g0 Tryz.func53 (by kernel_rfl) ar (fun y=>by kernel_rfl) fun a=>by kernel_rfl
noncomputable abbrev alX:bq:=[(53,T_)]
theorem UH:a9 Z (bm ap alX):=bz ⟨aid,⟨⟩⟩
abbrev y4:Shape:=⟨[aV 0 .entry,aV 1 .entry,ae 5],[],27⟩
abbrev EI:List bg:=[(.ret,⟨[aY 4],[],27⟩),(.exit 0,⟨[],[],27⟩)]
noncomputable def zo(y:y4.H):cy y4 EI:=
 bif(decide (y.1.2.2.1<(y.1.1.length:Int))) then
(bl y.1.1 y.1.2.2.1).bind fun a=>
(bl y.1.2.1 y.1.2.2.1).bind fun b=>
(f53 (((a.path,a.kind,a.mode,a.text,()),(b.path,b.kind,b.mode,b.text,()),()),())).bind fun c=>
 bif(!c.1.1) then
 some (.inr (.inl ((false,()),())))
else
 some (.inl ((y.1.1,y.1.2.1,(IntKind.i64.wrap (y.1.2.2.1+(1:Int))),()),()))
else
 some (.inr (.inr ((),())))
noncomputable def E4:y4.H->Option (aQ EI):=bO zo
theorem acP:bw Z (aI (codeOf Tryz.f15) 1 58) (bJ y4 EI E4):=cD UH (by kernel_rfl) ar fun y=>by kernel_rfl
abbrev i15:Shape:=⟨[aV 0 .entry,aV 1 .entry],[],27⟩
abbrev S9:Shape:=⟨[aY 4],[],27⟩
noncomputable def f15(a:i15.H):Option S9.H:=
 bif((a.1.1.length:Int) !=(a.1.2.1.length:Int)) then
 some ((false,()),())
else
(E4 ((a.1.1,a.1.2.1,(0:Int),()),())).bind fun b=>
(match b with
|.inl c=>
 some ((c.1.1,()),())
|.inr d=>
 some ((true,()),()))
noncomputable def we:aU:=ba ap Tryz.f15 i15 S9 [] f15
theorem aiq:a4 Z 15 we:=bc UH Tryz.func15 (by kernel_rfl) (bN acP ar) (fun y=>by kernel_rfl) fun a=>by kernel_rfl
noncomputable abbrev alq:bq:=[(125,RF)]
theorem Us:a9 Z (bm ap alq):=bz ⟨afj,⟨⟩⟩
abbrev yT:Shape:=⟨[aV 0 .need,aV 1 .need,ae 5],[],27⟩
abbrev Ey:List bg:=[(.ret,⟨[aY 4],[],27⟩),(.exit 0,⟨[],[],27⟩)]
noncomputable def ze(y:yT.H):cy yT Ey:=
 bif(decide (y.1.2.2.1<(y.1.1.length:Int))) then
(bl y.1.1 y.1.2.2.1).bind fun a=>
(bl y.1.2.1 y.1.2.2.1).bind fun b=>
(f125 (((a.name,a.kind,a.a8,()),(b.name,b.kind,b.a8,()),()),())).bind fun c=>
 bif(!c.1.1) then
 some (.inr (.inl ((false,()),())))
else
 some (.inl ((y.1.1,y.1.2.1,(IntKind.i64.wrap (y.1.2.2.1+(1:Int))),()),()))
else
 some (.inr (.inr ((),())))
noncomputable def ES:yT.H->Option (aQ Ey):=bO ze
theorem acC:bw Z (aI (codeOf Tryz.f76) 1 58) (bJ yT Ey ES):=cD Us (by kernel_rfl) ar fun y=>by kernel_rfl
abbrev i76:Shape:=⟨[aV 0 .need,aV 1 .need],[],27⟩
abbrev Sz:Shape:=⟨[aY 4],[],27⟩
noncomputable def f76(a:i76.H):Option Sz.H:=
 bif((a.1.1.length:Int) !=(a.1.2.1.length:Int)) then
 some ((false,()),())
else
(ES ((a.1.1,a.1.2.1,(0:Int),()),())).bind fun b=>
(match b with
|.inl c=>
 some ((c.1.1,()),())
|.inr d=>
 some ((true,()),()))
noncomputable def T2:aU:=ba ap Tryz.f76 i76 Sz [] f76
theorem ah5:a4 Z 76 T2:=bc Us Tryz.func76 (by kernel_rfl) (bN acC ar) (fun y=>by kernel_rfl) fun a=>by kernel_rfl
noncomputable abbrev alK:bq:=[(15,we),(76,T2)]
theorem amd:a9 Z (bm ap alK):=bz ⟨aiq,ah5,⟨⟩⟩
abbrev i36:Shape:=⟨[cg 0 [a6,a6,bi .need,bi .entry],cg 1 [a6,a6,bi .need,bi .entry]],[],27⟩
abbrev SW:Shape:=⟨[aY 4],[],27⟩
noncomputable def f36(a:i36.H):Option SW.H:=
 bif(!(a.1.1.1==a.1.2.1.1)) then
 some ((false,()),())
else
 bif(!(a.1.1.2.1==a.1.2.1.2.1)) then
 some ((false,()),())
else
(f76 ((a.1.1.2.2.1,a.1.2.1.2.2.1,()),())).bind fun b=>
 bif(!b.1.1) then
 some ((false,()),())
else
(f15 ((a.1.1.2.2.2.1,a.1.2.1.2.2.2.1,()),())).bind fun c=>
 bif(!c.1.1) then
 some ((false,()),())
else
 some ((true,()),())
noncomputable def Bd:aU:=ba ap Tryz.f36 i36 SW [] f36
theorem Hb:a4 Z 36 Bd:=bc amd Tryz.func36 (by kernel_rfl) ar (fun y=>by kernel_rfl) fun a=>by kernel_rfl
noncomputable abbrev alS:bq:=[(36,Bd)]
theorem UD:a9 Z (bm ap alS):=bz ⟨Hb,⟨⟩⟩
abbrev y2:Shape:=⟨[aV 0 .pack,aV 1 .pack,ae 5],[],27⟩
abbrev EF:List bg:=[(.ret,⟨[aY 4],[],27⟩),(.exit 0,⟨[],[],27⟩)]
noncomputable def zm(y:y2.H):cy y2 EF:=
 bif(decide (y.1.2.2.1<(y.1.1.length:Int))) then
(bl y.1.1 y.1.2.2.1).bind fun a=>
(bl y.1.2.1 y.1.2.2.1).bind fun b=>
(f36 (((a.name,a.a8,a.bb,a.bu,()),(b.name,b.a8,b.bb,b.bu,()),()),())).bind fun c=>
 bif(!c.1.1) then
 some (.inr (.inl ((false,()),())))
else
 some (.inl ((y.1.1,y.1.2.1,(IntKind.i64.wrap (y.1.2.2.1+(1:Int))),()),()))
else
 some (.inr (.inr ((),())))
noncomputable def E1:y2.H->Option (aQ EF):=bO zm
theorem acM:bw Z (aI (codeOf Tryz.f25) 1 58) (bJ y2 EF E1):=cD UD (by kernel_rfl) ar fun y=>by kernel_rfl
abbrev i25:Shape:=⟨[aV 0 .pack,aV 1 .pack],[],27⟩
abbrev S4:Shape:=⟨[aY 4],[],27⟩
noncomputable def f25(a:i25.H):Option S4.H:=
 bif((a.1.1.length:Int) !=(a.1.2.1.length:Int)) then
 some ((false,()),())
else
(E1 ((a.1.1,a.1.2.1,(0:Int),()),())).bind fun b=>
(match b with
|.inl c=>
 some ((c.1.1,()),())
|.inr d=>
 some ((true,()),()))
noncomputable def Uh:aU:=ba ap Tryz.f25 i25 S4 [] f25
theorem aim:a4 Z 25 Uh:=bc UD Tryz.func25 (by kernel_rfl) (bN acM ar) (fun y=>by kernel_rfl) fun a=>by kernel_rfl
noncomputable abbrev alW:bq:=[(25,Uh)]
theorem aml:a9 Z (bm ap alW):=bz ⟨aim,⟨⟩⟩
abbrev i16:Shape:=⟨[cg 0 [bi .pack],cg 1 [bi .pack]],[],11⟩
abbrev S8:Shape:=⟨[aY 4],[],11⟩
noncomputable def f16(a:i16.H):Option S8.H:=
(f25 ((a.1.1.1,a.1.2.1.1,()),())).bind fun b=>
 bif(!b.1.1) then
 some ((false,()),())
else
 some ((true,()),())
noncomputable def Bh:aU:=ba ap Tryz.f16 i16 S8 [] f16
theorem Hf:a4 Z 16 Bh:=bc aml Tryz.func16 (by kernel_rfl) ar (fun y=>by kernel_rfl) fun a=>by kernel_rfl
end Go.Proofs
