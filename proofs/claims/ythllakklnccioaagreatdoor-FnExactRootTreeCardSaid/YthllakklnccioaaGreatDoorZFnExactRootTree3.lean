/- FnExactRootTree: the program's RootTree returns what the reference's returns, for all arguments. (part 4 of 6: JnNTy, JnNSp, JnNOp, JnNEn, JnNF118, JnNF151, JnNF91, JnNF161, JnNF90, JnNPuA, JnNF89, JnNPuB, JnNFH297, JnNF271, JnNF238, JnNF241, JnNIt, JnNF127, JnNF119, JnNF121, JnNF181, JnNF162, JnNF233, JnNPuC,) Conditions: none beyond the statement. -/
import Derived.Test.YthllakklnccioaaGreatDoorZFnExactRootTree2
import Derived.Tactics
import Derived.Deep.RegionLaw
import Derived.Shelf.Abstract
import Derived.Test.YthllakklnccioaaGreatDoorProg
import Derived.KernelRfl
set_option linter.unusedSimpArgs false
set_option maxRecDepth 100000
set_option linter.unusedVariables false
namespace Go.Proofs
open Go.Jk
noncomputable abbrev af:Program:=Tryz.prog
noncomputable def aeo:List (Nat×b8):=[
(2,.int .i64),
(3,.int .i64),
(4,.bool),
(5,.int .u8),
(6,.int .u8),
(7,.struct [(0,1),(1,1),(2,1),(3,1)] 4 [.d (.int .i64 0),.d (.int .i64 0),.d (.bool false),.d (.int .u8 0)] false),
(8,.struct [(0,1),(1,1),(2,1),(3,1)] 4 [.d (.int .i64 0),.d (.int .i64 0),.d (.bool false),.d (.int .u8 0)] false),
(9,.str),
(10,.str),
(11,.str),
(12,.int .u64),
(13,.struct [(0,1),(1,1)] 2 [.d (.str []),.d (.int .u64 0)] false),
(14,.struct [(0,1),(1,1)] 2 [.d (.str []),.d (.int .u64 0)] false),
(15,.ptr),
(16,.ptr),
(17,.ptr),
(18,.struct [(0,1)] 1 [.cu (.pointer none)] false),
(19,.struct [(0,1)] 1 [.cu (.pointer none)] false),
(20,.iface),
(21,.int .i32),
(22,.slice 52 .pack 80),
(23,.struct [(0,1)] 1 [.nil .pack] false),
(24,.struct [(0,1)] 1 [.nil .pack] false),
(26,.slice 73 .entry 48),
(28,.slice 57 .pack 80),
(29,.struct [(0,1)] 1 [.nil .pack] false),
(30,.struct [(0,1)] 1 [.nil .pack] false),
(38,.slice 9 .str 16),
(49,.slice 139 .need 40),
(50,.slice 141 .entry 48),
(51,.struct [(0,1),(1,1),(2,1),(3,1)] 4 [.d (.str []),.d (.str []),.nil .need,.nil .entry] false),
(52,.struct [(0,1),(1,1),(2,1),(3,1)] 4 [.d (.str []),.d (.str []),.nil .need,.nil .entry] false),
(55,.slice 91 .need 40),
(56,.struct [(0,1),(1,1),(2,1),(3,1)] 4 [.d (.str []),.d (.str []),.nil .need,.nil .entry] false),
(57,.struct [(0,1),(1,1),(2,1),(3,1)] 4 [.d (.str []),.d (.str []),.nil .need,.nil .entry] false),
(62,.slice 5 .u8 1),
(72,.struct [(0,1),(1,1),(2,1),(3,1)] 4 [.d (.str []),.d (.int .i64 0),.d (.int .i64 0),.d (.str [])] false),
(73,.struct [(0,1),(1,1),(2,1),(3,1)] 4 [.d (.str []),.d (.int .i64 0),.d (.int .i64 0),.d (.str [])] true),
(86,.map 9 3 .i64),
(90,.struct [(0,1),(1,1),(2,1)] 3 [.d (.str []),.d (.int .i64 0),.d (.str [])] false),
(91,.struct [(0,1),(1,1),(2,1)] 3 [.d (.str []),.d (.int .i64 0),.d (.str [])] true),
(108,.ptr),
(112,.slice 3 .i64 8),
(113,.struct [(0,1),(1,1),(2,1),(3,1)] 4 [.nil .pack,.cu (.map none),.nil .i64,.nil .str] false),
(114,.struct [(0,1),(1,1),(2,1),(3,1)] 4 [.nil .pack,.cu (.map none),.nil .i64,.nil .str] false),
(131,.int .u64),
(139,.struct [(0,1),(1,1),(2,1)] 3 [.d (.str []),.d (.int .i64 0),.d (.str [])] true),
(141,.struct [(0,1),(1,1),(2,1),(3,1)] 4 [.d (.str []),.d (.int .i64 0),.d (.int .i64 0),.d (.str [])] true),
(150,.slice 3 .i64 8),
(154,.struct [(0,1),(1,1)] 2 [.nil .u8,.d (.int .i64 0)] false),
(155,.struct [(0,1),(1,1)] 2 [.nil .u8,.d (.int .i64 0)] false),
(159,.ptr),
(166,.func),
(181,.int .i64),
(189,.int .u32),
(191,.int .u64),
(216,.int .u64),
(220,.ptr),
(233,.ptr),
(234,.struct [(0,1),(1,1)] 2 [.cu (.pointer none),.nil .u8] false),
(235,.struct [(0,1),(1,1)] 2 [.cu (.pointer none),.nil .u8] false),
(236,.iface),
(237,.iface),
(241,.arr 189 .u32 8),
(243,.slice 189 .u32 4),
(245,.ptr),
(259,.arr 4 .bool 256),
(260,.arr 4 .bool 256),
(263,.ptr),
(264,.arr 189 .u32 64),
(272,.ptr),
(276,.struct [(0,1),(1,1)] 2 [.d (.int .u8 0),.d (.int .u8 0)] false),
(277,.struct [(0,1),(1,1)] 2 [.d (.int .u8 0),.d (.int .u8 0)] false),
(290,.struct [(0,1),(1,1),(2,1),(3,1)] 4 [.cu (.pointer none),.cu (.pointer none),.cu (.pointer none),.d (.str [])] false),
(291,.struct [(0,1),(1,1),(2,1),(3,1)] 4 [.cu (.pointer none),.cu (.pointer none),.cu (.pointer none),.d (.str [])] false),
(295,.int .u8),
(296,.int .u8),
(298,.int .i32),
(299,.int .i32),
(300,.struct [(0,1),(1,1),(2,1),(3,1),(4,1),(5,1),(6,1),(7,1),(8,1),(9,1),(10,1)] 11 [.d (.int .u64 0),.d (.int .u64 0),.d (.int .u32 0),.d (.int .u8 0),.d (.int .u8 0),.d (.int .u8 0),.d (.int .u8 0),.cu .nilFunc,.cu (.pointer none),.d (.int .i32 0),.d (.int .i32 0)] false),
(301,.struct [(0,1),(1,1),(2,1),(3,1),(4,1),(5,1),(6,1),(7,1),(8,1),(9,1),(10,1)] 11 [.d (.int .u64 0),.d (.int .u64 0),.d (.int .u32 0),.d (.int .u8 0),.d (.int .u8 0),.d (.int .u8 0),.d (.int .u8 0),.cu .nilFunc,.cu (.pointer none),.d (.int .i32 0),.d (.int .i32 0)] false)]
noncomputable def tt:TypeId->b8:=yS aeo
noncomputable def aD:Env:=⟨tt,[(183,257)],[17,18,26,27,37,60,66,67,124,160],[79],[],[],[],false⟩
noncomputable def sD:Env:={aD with dF:=true}
abbrev cI(s:Shape)(t:List bd):=Option (Sum s.H (aW t))
theorem _q(s p:ByteArray)(k:Int)(w:World):Calls af 223 #[.string s,.string p,.int .i64 k] w fun e w'=>
  e=.returned (.func (.func 257) #[] #[.pointer (some ⟨w.heap.size+1,0,none⟩),.pointer (some ⟨w.heap.size,0,none⟩),.pointer (some ⟨w.heap.size+2,0,none⟩)])/\
  w'=((w.alloc (.cells #[.string s] 9)).alloc (.cells #[.string p] 9)).alloc (.cells #[.int .i64 k] 3):=by
 go_enter Tryz.func223,Tryz.ntmps223
 go_wp2
 go_ret
 exact⟨rfl,rfl⟩
theorem _r(s p:ByteArray)(w:World):Calls af 183 #[.string s,.string p] w fun e w'=>
  e=.returned (.func (.func 257) #[] #[.pointer (some ⟨w.heap.size+1,0,none⟩),.pointer (some ⟨w.heap.size,0,none⟩),.pointer (some ⟨w.heap.size+2,0,none⟩)])/\
  w'=((w.alloc (.cells #[.string s] 9)).alloc (.cells #[.string p] 9)).alloc (.cells #[.int .i64 0] 3):=by
 go_enter Tryz.func183,Tryz.ntmps183
 go_wp2_with (go_at_call 223;refine(_q _ _ _ _).mono ?_;rintro e w' ⟨rfl,rfl⟩)
 go_ret
 exact⟨rfl,rfl⟩
theorem aa5:xK af 183 257:=fun a b w=>.inl ⟨enters_of Tryz.func183 (by kernel_rfl) rfl _ _,(_r a b w).mono fun e w' h=>by obtain⟨rfl,rfl⟩:=h;exact⟨9,3,rfl,rfl⟩⟩
theorem aeF(w:World):Calls af 79 #[.slice none 0 0] w fun e w'=>e=.returned (.pointer (some ⟨w.heap.size,0,none⟩))/\w'=w.alloc (.cells #[.slice none 0 0,.int .i64 0] 155):=by
 go_enter Tryz.func79,Tryz.ntmps79
 go_wp2
 go_ret
 exact⟨rfl,rfl⟩
theorem aeE(w:World)(a:Addr)(n c:Nat)(h:n<=2000):Calls af 79 #[.slice (some a) n c] w fun e w'=>e=.returned (.pointer (some ⟨w.heap.size,0,none⟩))/\w'=w.alloc (.cells #[.slice (some a) n c,.int .i64 0] 155):=by
 have h1:¬((n:Int)>2000):=by omega
 go_enter Tryz.func79,Tryz.ntmps79
 go_wp2
 go_ret
 exact⟨rfl,rfl⟩
theorem aeG(w:World)(a:Addr)(n c:Nat)(h:2000<n)(hc:n<=c):Calls af 79 #[.slice (some a) n c] w fun e w'=>e=.returned (.pointer (some ⟨w.heap.size,0,none⟩))/\w'=w.alloc (.cells #[.slice (some a) 2000 c,.int .i64 0] 155):=by
 have h1:((n:Int)>2000):=by omega
 go_enter Tryz.func79,Tryz.ntmps79
 go_wp2
 go_ret
 exact⟨rfl,rfl⟩
theorem abC:yt af 79:=fun xs v w av hr=>.inl ⟨enters_of Tryz.func79 (by kernel_rfl) rfl _ _,by
 have fin:∀{v:Value} {u:Value},a8 w av (.sl .u8 (xs.take 2000)) u->Calls af 79 #[v] w (fun e w'=>e=.returned (.pointer (some ⟨w.heap.size,0,none⟩))/\w'=w.alloc (.cells #[u,.int .i64 0] 155))->
   Calls af 79 #[v] w fun e w'=>match e,w' with
    |.returned v',w'=>∃u T,a8 w av (.sl .u8 (xs.take 2000)) u/\v'=.pointer (some ⟨w.heap.size,0,none⟩)/\w'=w.alloc (.cells #[u,.int .i64 0] T)
    |_,_=>False:=fun hu hc=>hc.mono fun e w' h=>by obtain⟨rfl,rfl⟩:=h;exact⟨_,_,hu,rfl,rfl⟩
 cases hr with
 |nil=>exact fin (.nil .u8) (aeF w)
 |sl t xs a cap cs n hn hcap hb hl hc hr=>
  by_cases h:2000<n
  ·refine fin (u:=.slice (some a) 2000 cap) ?_ (aeG w a n cap h hcap);have hlen:(xs.take 2000).length=2000:=by simp only[List.length_take];omega
   have hf:flat .u8 (xs.take 2000)=(flat .u8 xs).take 2000:=by rw[A8];rfl
   refine .sl .u8 (xs.take 2000) a cap (cs.take 2000) 2000 hlen.symm (by omega) (fun hx=>hb (fun e=>hx (by rw[e];rfl))) (by rw[hf,List.length_take,List.length_take,hl]) (fun j u hu=>?_) (fun j h1 h2=>?_)
   ·rw[List.getElem?_take] at hu;split at hu
    ·exact hc j u hu
    ·cases hu
   ·have h1':j<(flat .u8 xs).length:=by rw[hf,List.length_take] at h1;omega
    have h2':j<cs.length:=by rw[List.length_take] at h2;omega
    have e1:(flat .u8 (xs.take 2000))[j]=(flat .u8 xs)[j]:=by simp only[hf,List.getElem_take]
    have e2:(cs.take 2000)[j]=cs[j]:=List.getElem_take;rw[e1,e2];exact hr j h1' h2'
  ·refine fin (u:=.slice (some a) n cap) ?_ (aeE w a n cap (by omega))
   rw[List.take_of_length_le (by omega)]
   exact .sl .u8 xs a cap cs n hn hcap hb hl hc hr⟩
theorem oJ:DV af aD:=⟨XT (JV (by kernel_rfl)),by kernel_rfl,fun p h=>by
 simp only[aD,List.mem_cons,List.not_mem_nil,or_false] at h;subst h;exact aa5,fun g h=>by
 simp only[aD,List.mem_cons,List.not_mem_nil,or_false] at h;subst h;exact abC,fun g h=>(by cases h),fun g h=>(by cases h),fun p h=>(by cases h)⟩
theorem bC{ap:bF}(h:uo af ap):bb af (bz aD ap):=Kv oJ h
theorem g0:bb af (bz aD []):=bC ⟨⟩
theorem aht:DV af sD:=⟨oJ.tt,oJ.z8,oJ.ka,oJ.op,oJ.gX,oJ.bs,oJ.gt⟩
theorem RO{ap:bF}(h:uo af ap):bb af (bz sD ap):=Kv aht h
abbrev Ka:Shape:=⟨[bw 0],[],49⟩
abbrev J4:List bd:=[(.norm,⟨[bw 0,aZ 20],[],49⟩)]
noncomputable def CL(y:Ka.H):Option (aW J4):=
 bif(!(y.1.1==([]:al))) then
 bif(!(decide ((y.1.1.length:Int)>(10:Int)))) then
(bl y.1.1 (0:Int)).bind fun a=>
 bif(!(decide ((a.toNat:Int)<(97:Int)))) then
(bl y.1.1 (0:Int)).bind fun b=>
 some ((y.1.1,(decide ((b.toNat:Int)>(122:Int))),()),())
else
 some ((y.1.1,true,()),())
else
 some ((y.1.1,true,()),())
else
 some ((y.1.1,true,()),())
theorem Yu:br af (aF (codeOf Tryz.f118) 1 12) (bB Ka J4 CL):=ep g0 (by kernel_rfl) aA fun y=>by kernel_rfl
abbrev II:Shape:=⟨[bw 0,ak 3,ak 22,ak 23],[],49⟩
abbrev Iy:List bd:=[(.norm,⟨[bw 0,ak 22,ak 23,aZ 47],[],49⟩)]
noncomputable def A7(y:II.H):Option (aW Iy):=
(bl y.1.1 y.1.2.1).bind fun a=>
 bif(!(decide ((a.toNat:Int)<(97:Int)))) then
(bl y.1.1 y.1.2.1).bind fun b=>
 bif(decide ((b.toNat:Int)>(122:Int))) then
(bl y.1.1 y.1.2.1).bind fun c=>
 bif(!(decide ((c.toNat:Int)<(48:Int)))) then
(bl y.1.1 y.1.2.1).bind fun d=>
 some ((y.1.1,y.1.2.2.1,y.1.2.2.2.1,(decide ((d.toNat:Int)>(57:Int))),()),())
else
 some ((y.1.1,y.1.2.2.1,y.1.2.2.2.1,true,()),())
else
 some ((y.1.1,y.1.2.2.1,y.1.2.2.2.1,false,()),())
else
(bl y.1.1 y.1.2.1).bind fun e=>
 bif(!(decide ((e.toNat:Int)<(48:Int)))) then
(bl y.1.1 y.1.2.1).bind fun f=>
 some ((y.1.1,y.1.2.2.1,y.1.2.2.2.1,(decide ((f.toNat:Int)>(57:Int))),()),())
else
 some ((y.1.1,y.1.2.2.1,y.1.2.2.2.1,true,()),())
theorem VG:br af (aF (dq (aF (codeOf Tryz.f118) 1 58)) 116 7474) (bB II Iy A7):=ep g0 (by kernel_rfl) aA fun y=>by kernel_rfl
abbrev w7:Shape:=⟨[bw 0,ak 22,ak 23],[],49⟩
abbrev B_:List bd:=[(.ret,⟨[aZ 2],[],49⟩),(.exit 0,⟨[],[],49⟩)]
noncomputable def xC(y:w7.H):cI w7 B_:=
 bif(decide (y.1.2.2.1<y.1.2.1)) then
(A7 ((y.1.1,y.1.2.2.1,y.1.2.1,y.1.2.2.1,()),())).bind fun a=>
 bif a.1.2.2.2.1 then
 some (.inr (.inl ((false,()),())))
else
 some (.inl ((a.1.1,a.1.2.1,(IntKind.i64.wrap (a.1.2.2.1+(1:Int))),()),()))
else
 some (.inr (.inr ((),())))
noncomputable def CB:w7.H->Option (aW B_):=bP xC
theorem Yt:br af (aF (codeOf Tryz.f118) 1 58) (bB w7 B_ CB):=cK g0 (by kernel_rfl) (bJ VG aA) fun y=>by kernel_rfl
abbrev i118:Shape:=⟨[bw 0],[],49⟩
abbrev Nq:Shape:=⟨[aZ 2],[],49⟩
noncomputable def f118(a:i118.H):Option Nq.H:=
(CL ((a.1.1,()),())).bind fun b=>
 bif b.1.2.1 then
 some ((false,()),())
else
(CB ((b.1.1,(b.1.1.length:Int),(0:Int),()),())).bind fun c=>
(match c with
|.inl d=>
 some ((d.1.1,()),())
|.inr e=>
 some ((true,()),()))
noncomputable def EY:a4:=bi aD Tryz.f118 i118 Nq [] f118
theorem My:a6 af 118 EY:=bk g0 Tryz.func118 (by kernel_rfl) (bJ Yu (bJ Yt aA)) (fun y=>by kernel_rfl) fun a=>by kernel_rfl
abbrev J8:Shape:=⟨[bw 0,ak 1],[],53⟩
abbrev J0:List bd:=[(.norm,⟨[bw 0,ak 1,aZ 24],[],53⟩)]
noncomputable def CH(y:J8.H):Option (aW J0):=
 bif(!(y.1.1==([]:al))) then
 bif(!(decide ((y.1.1.length:Int)>(9:Int)))) then
 bif(decide ((y.1.1.length:Int)>(1:Int))) then
(bl y.1.1 (0:Int)).bind fun a=>
 some ((y.1.1,y.1.2.1,((a.toNat:Int)==(48:Int)),()),())
else
 some ((y.1.1,y.1.2.1,false,()),())
else
 some ((y.1.1,y.1.2.1,true,()),())
else
 some ((y.1.1,y.1.2.1,true,()),())
theorem Yl:br af (aF (codeOf Tryz.f151) 1 12) (bB J8 J0 CH):=ep g0 (by kernel_rfl) aA fun y=>by kernel_rfl
abbrev H6:Shape:=⟨[bw 0,ak 1,ak 6,ak 7,ak 26,ak 27],[],53⟩
abbrev H3:List bd:=[(.norm,⟨[bw 0,ak 1,ak 6,ak 7,ak 26,ak 27,aZ 39],[],53⟩)]
noncomputable def AB(y:H6.H):Option (aW H3):=
(bl y.1.1 y.1.2.2.2.1).bind fun a=>
 bif(!(decide ((a.toNat:Int)<(48:Int)))) then
(bl y.1.1 y.1.2.2.2.1).bind fun b=>
 some ((y.1.1,y.1.2.1,y.1.2.2.1,y.1.2.2.2.1,y.1.2.2.2.2.1,y.1.2.2.2.2.2.1,(decide ((b.toNat:Int)>(57:Int))),()),())
else
 some ((y.1.1,y.1.2.1,y.1.2.2.1,y.1.2.2.2.1,y.1.2.2.2.2.1,y.1.2.2.2.2.2.1,true,()),())
theorem Uc:br af (aF (dq (aF (codeOf Tryz.f151) 1 122)) 244 31332) (bB H6 H3 AB):=ep g0 (by kernel_rfl) aA fun y=>by kernel_rfl
abbrev wo:Shape:=⟨[bw 0,ak 1,ak 6,ak 26,ak 27],[],53⟩
abbrev Bi:List bd:=[(.ret,⟨[ak 4,aZ 5],[],53⟩),(.exit 0,⟨[ak 1,ak 6],[],53⟩)]
noncomputable def wD(y:wo.H):cI wo Bi:=
 bif(decide (y.1.2.2.2.2.1<y.1.2.2.2.1)) then
(AB ((y.1.1,y.1.2.1,y.1.2.2.1,y.1.2.2.2.2.1,y.1.2.2.2.1,y.1.2.2.2.2.1,()),())).bind fun a=>
 bif a.1.2.2.2.2.2.2.1 then
 some (.inr (.inl (((0:Int),false,()),())))
else
(bl a.1.1 a.1.2.2.2.1).bind fun b=>
 some (.inl ((a.1.1,a.1.2.1,(IntKind.i64.wrap ((IntKind.i64.wrap (a.1.2.2.1*(10:Int)))+(IntKind.i64.wrap (IntKind.u8.wrap ((b.toNat:Int)-(48:Int)))))),a.1.2.2.2.2.1,(IntKind.i64.wrap (a.1.2.2.2.2.2.1+(1:Int))),()),()))
else
 some (.inr (.inr ((y.1.2.1,y.1.2.2.1,()),())))
noncomputable def wz:wo.H->Option (aW Bi):=bP wD
theorem W_:br af (aF (codeOf Tryz.f151) 1 122) (bB wo Bi wz):=cK g0 (by kernel_rfl) (bJ Uc aA) fun y=>by kernel_rfl
abbrev i151:Shape:=⟨[bw 0,ak 1],[],53⟩
abbrev Na:Shape:=⟨[ak 4,aZ 5],[],53⟩
noncomputable def f151(a:i151.H):Option Na.H:=
(CH ((a.1.1,a.1.2.1,()),())).bind fun b=>
 bif b.1.2.2.1 then
 some (((0:Int),false,()),())
else
(wz ((b.1.1,b.1.2.1,(0:Int),(b.1.1.length:Int),(0:Int),()),())).bind fun c=>
(match c with
|.inl d=>
 some ((d.1.1,d.1.2.1,()),())
|.inr e=>
 bif(decide (e.1.2.1>e.1.1)) then
 some (((0:Int),false,()),())
else
 some ((e.1.2.1,true,()),()))
noncomputable def OD:a4:=bi aD Tryz.f151 i151 Na [] f151
theorem aaN:a6 af 151 OD:=bk g0 Tryz.func151 (by kernel_rfl) (bJ Yl (bJ W_ aA)) (fun y=>by kernel_rfl) fun a=>by kernel_rfl
abbrev i91:Shape:=⟨[ak 0,ak 1,ak 2],[],15⟩
abbrev Pt:Shape:=⟨[aZ 6],[],15⟩
noncomputable def f91(a:i91.H):Option Pt.H:=
 bif(decide (a.1.1>=a.1.2.1)) then
 some (((decide (a.1.1<=a.1.2.2.1)),()),())
else
 some ((false,()),())
noncomputable def pN:a4:=bi aD Tryz.f91 i91 Pt [] f91
theorem rT:a6 af 91 pN:=bk g0 Tryz.func91 (by kernel_rfl) aA (fun y=>by kernel_rfl) fun a=>by kernel_rfl
noncomputable abbrev acU:bF:=[(91,pN)]
theorem za:bb af (bz aD acU):=bC ⟨rT,⟨⟩⟩
abbrev Jx:Shape:=⟨[bw 0,ak 3],[],42⟩
abbrev Jl:List bd:=[(.norm,⟨[bw 0,ak 3,aZ 4],[],42⟩)]
noncomputable def BF(y:Jx.H):Option (aW Jl):=
(bl y.1.1 y.1.2.1).bind fun a=>
 bif(decide ((a.toNat:Int)>=(97:Int))) then
(bl y.1.1 y.1.2.1).bind fun b=>
 some ((y.1.1,y.1.2.1,(decide ((b.toNat:Int)<=(122:Int))),()),())
else
 some ((y.1.1,y.1.2.1,false,()),())
theorem W8:br af (aF (dq (aF (codeOf Tryz.f161) 1 26)) 52 840) (bB Jx Jl BF):=ep za (by kernel_rfl) aA fun y=>by kernel_rfl
abbrev IF:Shape:=⟨[bw 0,ak 3,aZ 4],[],42⟩
abbrev Iv:List bd:=[(.norm,⟨[bw 0,ak 3,aZ 38],[],42⟩)]
noncomputable def A4(y:IF.H):Option (aW Iv):=
 bif(!y.1.2.2.1) then
 bif(!(y.1.2.1==(0:Int))) then
(bl y.1.1 y.1.2.1).bind fun a=>
 bif(!(decide ((a.toNat:Int)<(48:Int)))) then
(bl y.1.1 y.1.2.1).bind fun b=>
 some ((y.1.1,y.1.2.1,(decide ((b.toNat:Int)>(57:Int))),()),())
else
 some ((y.1.1,y.1.2.1,true,()),())
else
 some ((y.1.1,y.1.2.1,true,()),())
else
 some ((y.1.1,y.1.2.1,false,()),())
theorem Vy:br af (aF (dq (aF (codeOf Tryz.f161) 1 26)) 52 1682) (bB IF Iv A4):=ep za (by kernel_rfl) aA fun y=>by kernel_rfl
abbrev wY:Shape:=⟨[bw 0,ak 3],[],42⟩
abbrev B3:List bd:=[(.ret,⟨[aZ 2],[],42⟩),(.exit 0,⟨[bw 0],[],42⟩)]
noncomputable def xv(y:wY.H):cI wY B3:=
 bif(decide (y.1.2.1<(y.1.1.length:Int))) then
(BF ((y.1.1,y.1.2.1,()),())).bind fun a=>
(A4 ((a.1.1,a.1.2.1,a.1.2.2.1,()),())).bind fun b=>
 bif b.1.2.2.1 then
 some (.inr (.inl ((false,()),())))
else
 some (.inl ((b.1.1,(IntKind.i64.wrap (b.1.2.1+(1:Int))),()),()))
else
 some (.inr (.inr ((y.1.1,()),())))
noncomputable def Cu:wY.H->Option (aW B3):=bP xv
theorem Yh:br af (aF (codeOf Tryz.f161) 1 26) (bB wY B3 Cu):=cK za (by kernel_rfl) (bJ W8 (bJ Vy aA)) fun y=>by kernel_rfl
abbrev i161:Shape:=⟨[bw 0],[],42⟩
abbrev M8:Shape:=⟨[aZ 2],[],42⟩
noncomputable def f161(a:i161.H):Option M8.H:=
(Cu ((a.1.1,(0:Int),()),())).bind fun b=>
(match b with
|.inl c=>
 some ((c.1.1,()),())
|.inr d=>
(f91 (((d.1.1.length:Int),(1:Int),(10:Int),()),())).bind fun e=>
 some ((e.1.1,()),()))
noncomputable def ET:a4:=bi aD Tryz.f161 i161 M8 [] f161
theorem Mt:a6 af 161 ET:=bk za Tryz.func161 (by kernel_rfl) (bJ Yh aA) (fun y=>by kernel_rfl) fun a=>by kernel_rfl
abbrev Jr:Shape:=⟨[bw 0,ak 3,ak 4],[],47⟩
abbrev Je:List bd:=[(.norm,⟨[bw 0,ak 3,ak 4,aZ 24],[],47⟩)]
noncomputable def Bz(y:Jr.H):Option (aW Je):=
(bl y.1.1 y.1.2.2.1).bind fun a=>
 bif(!(decide ((a.toNat:Int)<(48:Int)))) then
(bl y.1.1 y.1.2.2.1).bind fun b=>
 bif(!(decide ((b.toNat:Int)>(57:Int)))) then
 some ((y.1.1,y.1.2.1,y.1.2.2.1,(decide (y.1.2.2.1>=(6:Int))),()),())
else
 some ((y.1.1,y.1.2.1,y.1.2.2.1,true,()),())
else
 some ((y.1.1,y.1.2.1,y.1.2.2.1,true,()),())
theorem WX:br af (aF (dq (aF (codeOf Tryz.f90) 1 58)) 116 3728) (bB Jr Je Bz):=ep g0 (by kernel_rfl) aA fun y=>by kernel_rfl
abbrev xQ:Shape:=⟨[bw 0,ak 3,ak 4],[],47⟩
abbrev CV:List bd:=[(.ret,⟨[ak 2],[],47⟩),(.exit 0,⟨[bw 0,ak 3],[],47⟩)]
noncomputable def x9(y:xQ.H):cI xQ CV:=
 bif(decide (y.1.2.2.1<(y.1.1.length:Int))) then
(Bz ((y.1.1,y.1.2.1,y.1.2.2.1,()),())).bind fun a=>
 bif a.1.2.2.2.1 then
 some (.inr (.inl ((((-1):Int),()),())))
else
(bl a.1.1 a.1.2.2.1).bind fun b=>
 some (.inl ((a.1.1,(IntKind.i64.wrap ((IntKind.i64.wrap (a.1.2.1*(10:Int)))+(IntKind.i64.wrap (IntKind.u8.wrap ((b.toNat:Int)-(48:Int)))))),(IntKind.i64.wrap (a.1.2.2.1+(1:Int))),()),()))
else
 some (.inr (.inr ((y.1.1,y.1.2.1,()),())))
noncomputable def Da:xQ.H->Option (aW CV):=bP x9
theorem Zo:br af (aF (codeOf Tryz.f90) 1 58) (bB xQ CV Da):=cK g0 (by kernel_rfl) (bJ WX aA) fun y=>by kernel_rfl
abbrev KI:Shape:=⟨[bw 0,ak 3],[],47⟩
abbrev KE:List bd:=[(.norm,⟨[ak 3,aZ 45],[],47⟩)]
noncomputable def Dp(y:KI.H):Option (aW KE):=
 bif(!((y.1.1.length:Int)==(0:Int))) then
 bif(decide ((y.1.1.length:Int)>(1:Int))) then
(bl y.1.1 (0:Int)).bind fun a=>
 some ((y.1.2.1,((a.toNat:Int)==(48:Int)),()),())
else
 some ((y.1.2.1,false,()),())
else
 some ((y.1.2.1,true,()),())
theorem Zn:br af (aF (codeOf Tryz.f90) 1 60) (bB KI KE Dp):=ep g0 (by kernel_rfl) aA fun y=>by kernel_rfl
abbrev i90:Shape:=⟨[bw 0],[],47⟩
abbrev Pu:Shape:=⟨[ak 2],[],47⟩
noncomputable def f90(a:i90.H):Option Pu.H:=
(Da ((a.1.1,(0:Int),(0:Int),()),())).bind fun b=>
(match b with
|.inl c=>
 some ((c.1.1,()),())
|.inr d=>
(Dp ((d.1.1,d.1.2.1,()),())).bind fun e=>
 bif e.1.2.1 then
 some ((((-1):Int),()),())
else
 some ((e.1.1,()),()))
noncomputable def QO:a4:=bi aD Tryz.f90 i90 Pu [] f90
theorem adB:a6 af 90 QO:=bk g0 Tryz.func90 (by kernel_rfl) (bJ Zo (bJ Zn aA)) (fun y=>by kernel_rfl) fun a=>by kernel_rfl
def ik(b:UInt8):Bool:=decide ((97:Int)<=(b.toNat:Int))&&decide ((b.toNat:Int)<=122)
def dA(b:UInt8):Bool:=decide ((48:Int)<=(b.toNat:Int))&&decide ((b.toNat:Int)<=57)
def within(n cA hi:Int):Bool:=decide (cA<=n)&&decide (n<=hi)
theorem qL(a):f91 a=some ((within a.1.1 a.1.2.1 a.1.2.2.1,()),()):=by
 simp only[f91,within,ge_iff_le];cases decide (a.1.2.1<=a.1.1)<;>rfl
def kA(s:al):Bool:=allI (fun i x=>ik x||(!(i==0)&&dA x)) 0 s&&within s.length 1 10
theorem I8(a)(M:aJ a.1.1.length):f161 a=some ((kA a.1.1,()),()):=by
 obtain⟨⟨s,u⟩,bA⟩:=a;have key:Cu ((s,((0:Int),())),())=some (bif allI (fun i x=>ik x||(!(i==0)&&dA x)) 0 s then .inr ((s,()),()) else .inl ((false,()),())):=by
  refine fK xv s (fun i=>((s,((i:Int),())),())) _ _ _ (fun i x hx=>?_) ?_
  ·have hi:=cy hx;have hw:aJ i:=by unfold aJ at*;simp only at M;omega
   simp only[xv,cx hi,cond_true,BF,A4,b_,hx,Option.bind_some,ch hw,ge_iff_le,N2];unfold ik dA;by_cases h1:(97:Int)<=(x.toNat:Int)<;>by_cases h2:(x.toNat:Int)<=122<;>cases Z:(i==0)<;>by_cases aH:(48:Int)<=(x.toNat:Int)<;>by_cases bp:(x.toNat:Int)<=57<;>simp[h1,h2,Z,aH,bp,ch hw,b_,hx,N2,oA,oB,-beq_iff_eq]
  ·simp only[xv,c7,cond_false]
 simp only[f161,key,Option.bind_some];unfold kA;cases allI (fun i x=>ik x||(!(i==0)&&dA x)) 0 s with
 |false=>rfl
 |true=>simp only[cond_true,qL,Option.bind_some,Bool.true_and]
theorem Tq(b:UInt8)(r:al):kA (b::r)=(ik b&&(b::r).all (fun x=>ik x||dA x)&&decide (((b::r).length:Int)<=10)):=by
 unfold kA;simp only[allI,List.all_cons];have:allI (fun i x=>ik x||(!(i==0)&&dA x)) (0+1) r=r.all (fun x=>ik x||dA x):=by
  have hz:∀(i:Nat) (x:UInt8),1<=i->x∈r->(ik x||(!(i==0)&&dA x))=(ik x||dA x):=by
   intro i x hi _;have:(i==0)=false:=by simp;omega
   rw[this];simp
  rw[Im (lv:=fun _ x=>ik x||dA x) r 1 hz,gL]
 rw[this];unfold within;have:decide ((1:Int)<=((b::r).length:Int))=true:=by simp only[List.length_cons,decide_eq_true_eq];omega
 rw[this];cases ik b<;>simp
theorem Hn(a)(M:aJ a.1.1.length):f118 a=some ((kA a.1.1,()),()):=by
 obtain⟨⟨s,u⟩,bA⟩:=a;have key:CB ((s,((s.length:Int),((0:Int),()))),())=some (bif allI (fun _ x=>ik x||dA x) 0 s then .inr ((),()) else .inl ((false,()),())):=by
  refine fK xC s (fun i=>((s,((s.length:Int),((i:Int),()))),())) _ _ _ (fun i x hx=>?_) ?_
  ·have hi:=cy hx;have hw:aJ i:=by unfold aJ at*;simp only at M;omega
   simp only[xC,cx hi,cond_true,A7,b_,hx,Option.bind_some,ch hw,oA,oB];unfold ik dA;by_cases h1:(97:Int)<=(x.toNat:Int)<;>by_cases h2:(x.toNat:Int)<=122<;>by_cases aH:(48:Int)<=(x.toNat:Int)<;>by_cases bp:(x.toNat:Int)<=57<;>simp[h1,h2,aH,bp,ch hw,b_,hx,oA,oB]
  ·simp only[xC,c7,cond_false]
 rw[gL] at key;cases s with
 |nil=>rfl
 |cons b r=>
  have hb:bl (b::r) 0=some b:=rfl;simp only[f118,CL,hb,Option.bind_some,oA,oB,Tq];have he:((b::r)==([]:al))=false:=rfl;have hl:ik b=(decide ((97:Int)<=(b.toNat:Int))&&decide ((b.toNat:Int)<=122)):=rfl;rw[he,hl];by_cases h1:(97:Int)<=(b.toNat:Int)<;>by_cases h2:(b.toNat:Int)<=122<;>by_cases Z:((b::r).length:Int)<=10<;>
   simp only[h1,h2,Z,decide_true,decide_false,Bool.not_true,Bool.not_false,cond_true,cond_false,Option.bind_some,Bool.true_and,Bool.and_true,Bool.false_and,Bool.and_false]
  rw[key];generalize List.all (b::r) (fun x=>ik x||dA x)=q
  cases q<;>rfl
def gP(n:Int)(b:UInt8):Int:=n*10+((b.toNat:Int)-48)
def gd(s:al):Int:=s.foldl gP 0
def l':al->Bool
 |b::_::_=>(b.toNat:Int)==48
 |_=>false
def fc(s:al):Bool:=s.all dA&&!(s==[])&&!l' s&&decide (s.length<=6)&&decide (gd s<=999)
theorem mH{b:UInt8}(h:dA b=true):48<=(b.toNat:Int)/\(b.toNat:Int)<=57:=by
 simpa[dA] using h
theorem Zd{b:UInt8}(h:dA b=true):IntKind.u8.wrap ((b.toNat:Int)-48)=(b.toNat:Int)-48:=by
 have:=mH h;rw[IntKind.wrap_u8];omega
theorem HD{n:Int}{b:UInt8}{i:Nat}(h:dA b=true)(aQ:0<=n)(h1:n<10^i):0<=gP n b/\gP n b<10^(i+1):=by
 have:=mH h;unfold gP;rw[Int.pow_succ];omega
theorem Yw{i:Nat}(h:i<=9):(10:Int)^i<=1000000000:=by
 have:i=0\/i=1\/i=2\/i=3\/i=4\/i=5\/i=6\/i=7\/i=8\/i=9:=by omega
 rcases this with rfl|rfl|rfl|rfl|rfl|rfl|rfl|rfl|rfl|rfl<;>decide
theorem IA{n:Int}{b:UInt8}{i:Nat}(h:dA b=true)(hi:i<=8)(aQ:0<=n)(h1:n<10^i):
  IntKind.i64.wrap (IntKind.i64.wrap (n*10)+IntKind.i64.wrap (IntKind.u8.wrap ((b.toNat:Int)-48)))=gP n b:=by
 have Y:=mH h;have an:=Yw (show i<=9 by omega)
 rw[Zd h,e4 (n:=n*10) (by omega) (by omega),e4 (n:=(b.toNat:Int)-48) (by omega) (by omega),e4 (by omega) (by omega)]
 rfl
theorem XQ(a)(M:aJ a.1.1.length):f90 a=some ((bif a.1.1.all dA&&decide (a.1.1.length<=6)&&!(a.1.1==[])&&!l' a.1.1 then gd a.1.1 else-1,()),()):=by
 obtain⟨⟨s,u⟩,bA⟩:=a;have key:Da ((s,((0:Int),((0:Int),()))),())=some (bif allI (fun i x=>dA x&&decide (i<6)) 0 s then .inr ((s,(gd s,())),()) else .inl ((((-1):Int),()),())):=by
  have:=lX x9 s (fun i n=>((s,(n,((i:Int),()))),())) (fun i x n=>some (bif dA x&&decide (i<6) then .inl (gP n x) else .inr (.inl ((((-1):Int),()),())))) (fun n=>.inr ((s,(n,())),()))
   (fun i n=>0<=n/\n<10^i/\(i<=6)) (0:Int) ⟨by decide,by decide,by decide⟩ (fun i x n hx db=>?_) (fun n _=>?_)
  ·exact this.trans (by rw[As];rfl)
  ·have hi:=cy hx;have hw:aJ i:=by unfold aJ at*;simp only at M;omega
   obtain⟨aQ,h1,dm⟩:=db;refine⟨?_,fun aj aa=>?_⟩
   ·simp only[x9,cx hi,cond_true,Bz,b_,hx,Option.bind_some,ch hw,oA,oB,QB];have abJ:decide ((6:Int)<=(i:Int))=!decide (i<6):=by by_cases h:i<6<;>simp[h]<;>omega
    rw[abJ];cases Y:dA x with
    |false=>
     unfold dA at Y;by_cases aH:(48:Int)<=(x.toNat:Int)<;>by_cases bp:(x.toNat:Int)<=57<;>simp[aH,bp] at Y ⊢
    |true=>
     obtain⟨aH,bp⟩:=mH Y;cases aL:decide (i<6) with
     |false=>simp[aH,bp]
     |true=>
      have aL:i<6:=by simpa using aL
      have:=IA (i:=i) Y (by omega) aQ h1
      simp only[aH,bp,decide_true,Bool.not_true,Bool.not_false,cond_true,cond_false,Option.bind_some,b_,hx,this,ch hw,Bool.and_true,Option.map_some]
   ·simp only[Option.some.injEq] at aa;cases aL:(dA x&&decide (i<6)) with
    |false=>rw[aL] at aa;cases aa
    |true=>
     rw[aL] at aa;simp only[cond_true,Sum.inl.injEq] at aa;simp only[Bool.and_eq_true,decide_eq_true_eq] at aL;subst aa;have:=HD aL.1 aQ h1;exact⟨this.1,this.2,by omega⟩
  ·simp only[x9,c7,cond_false]
 rw[BM,gL,Y2] at key;simp only[f90,key,Option.bind_some];cases s with
 |nil=>rfl
 |cons b r=>
  have hb:bl (b::r) 0=some b:=rfl;have he:((b::r)==([]:al))=false:=rfl;have hz:(((b::r).length:Int)==0)=false:=by simp only[List.length_cons,beq_eq_false_iff_ne,ne_eq];omega
  have hl:decide (((b::r).length:Int)>1)=!(r==[]):=by cases r<;>simp;omega
  simp only[List.isEmpty_cons,Bool.false_or,Nat.zero_add,he,Bool.not_false,Bool.and_true];cases aL:(List.all (b::r) dA&&decide ((b::r).length<=6)) with
  |false=>rfl
  |true=>
   simp only[cond_true,Dp,hz,Bool.not_false,hl,hb,Option.bind_some,Bool.true_and];cases r with
   |nil=>rfl
   |cons c r=>
    have:((c::r)==([]:al))=false:=rfl;rw[this];simp only[Bool.not_false,cond_true,Option.bind_some,l'];cases ((b.toNat:Int)==48)<;>rfl
theorem UQ:∀(r:al) (n:Int) (k:Nat),r.all dA=true->0<=n->10^k<=n->10^(k+r.length)<=r.foldl gP n:=by
 intro r;induction r with
 |nil=>intro n k _ _ h;exact h
 |cons b r ih=>
  intro n k Y aQ h;simp only[List.all_cons,Bool.and_eq_true] at Y;have hb:=mH Y.1;have M:10^(k+1)<=gP n b:=by unfold gP;rw[Int.pow_succ];omega
  have:=ih (gP n b) (k+1) Y.2 (by unfold gP;omega) M
  simp only[List.length_cons,List.foldl_cons];rw[show k+(r.length+1)=k+1+r.length by omega]
  exact this
theorem Xa{n:Nat}(h:6<=n):(1000000:Int)<=10^n:=by
 induction n with
 |zero=>omega
 |succ n ih=>
  by_cases dm:6<=n
  ·have:=ih dm;rw[Int.pow_succ];omega
  ·have:n=5:=by omega
   subst this;decide
theorem XO{s:al}(Y:s.all dA=true)(hl:l' s=false)(ix:7<=s.length):999<gd s:=by
 match s,ix with
 |b::c::r,ix=>
  simp only[l',beq_eq_false_iff_ne,ne_eq] at hl;simp only[List.all_cons,Bool.and_eq_true] at Y;have hb:=mH Y.1;have hc:=mH Y.2.1;have M:(10:Int)^0<=gP 0 b:=by unfold gP;simp;omega
  have:=UQ (c::r) (gP 0 b) 0 (by simp[Y.2.1,Y.2.2]) (by unfold gP;omega) M
  have h2:(1000000:Int)<=10^(0+(c::r).length):=Xa (by simp only[List.length_cons] at ix ⊢;omega)
  show 999<List.foldl gP (gP 0 b) (c::r);omega
theorem Wm(a)(M:aJ a.1.1.length)(k3:a.1.2.1=999):f151 a=some ((bif fc a.1.1 then gd a.1.1 else 0,(fc a.1.1,())),()):=by
 obtain⟨⟨s,m,u⟩,bA⟩:=a;obtain rfl:m=999:=k3;have key:s.length<=9->wz ((s,((999:Int),((0:Int),((s.length:Int),((0:Int),()))))),())=some (bif allI (fun i x=>dA x) 0 s then .inr (((999:Int),(gd s,())),()) else .inl (((0:Int),(false,())),())):=by
  intro k3;have:=lX wD s (fun i n=>((s,((999:Int),(n,((s.length:Int),((i:Int),()))))),())) (fun i x n=>some (bif dA x then .inl (gP n x) else .inr (.inl (((0:Int),(false,())),())))) (fun n=>.inr (((999:Int),(n,())),()))
   (fun i n=>0<=n/\n<10^i/\(i<=9)) (0:Int) ⟨by decide,by decide,by decide⟩ (fun i x n hx db=>?_) (fun n _=>?_)
  ·exact this.trans (by rw[As];rfl)
  ·have hi:=cy hx;have hw:aJ i:=by unfold aJ at*;simp only at M;omega
   obtain⟨aQ,h1,dm⟩:=db;refine⟨?_,fun aj aa=>?_⟩
   ·simp only[wD,cx hi,cond_true,AB,b_,hx,Option.bind_some,ch hw,oA,oB,QB];cases Y:dA x with
    |false=>
     unfold dA at Y;by_cases aH:(48:Int)<=(x.toNat:Int)<;>by_cases bp:(x.toNat:Int)<=57<;>simp[aH,bp] at Y ⊢
    |true=>
     obtain⟨aH,bp⟩:=mH Y;have:=IA (i:=i) Y (by omega) aQ h1
     simp only[aH,bp,decide_true,Bool.not_true,Bool.not_false,cond_true,cond_false,Option.bind_some,b_,hx,this,ch hw,Bool.and_true,Option.map_some]
   ·simp only[Option.some.injEq] at aa;cases aL:dA x with
    |false=>rw[aL] at aa;cases aa
    |true=>
     rw[aL] at aa;simp only[cond_true,Sum.inl.injEq] at aa;subst aa;have:=HD aL aQ h1;exact⟨this.1,this.2,by omega⟩
  ·simp only[wD,c7,cond_false]
 rw[gL] at key;cases s with
 |nil=>rfl
 |cons b r=>
  have hb:bl (b::r) 0=some b:=rfl;have he:((b::r)==([]:al))=false:=rfl;have hl:decide (((b::r).length:Int)>1)=!(r==[]):=by cases r<;>simp;omega
  have k3:decide (((b::r).length:Int)>9)=!decide ((b::r).length<=9):=by by_cases h:(b::r).length<=9<;>simp only[h,decide_true,decide_false,Bool.not_true,Bool.not_false,decide_eq_true_eq,decide_eq_false_iff_not]<;>omega
  have DL:l' (b::r)=(!(r==[])&&(b.toNat:Int)==48):=by cases r<;>rfl
  simp only[f151,CH,he,hl,k3,Bool.not_false,cond_true,Bool.not_not,hb,Option.bind_some];have fin:(b::r).length<=9->l' (b::r)=false->((wz ((b::r,((999:Int),((0:Int),(((b::r).length:Int),((0:Int),()))))),())).bind fun abw=>match abw with
    |.inl MC=>some ((MC.1.1,(MC.1.2.1,())),())
    |.inr D6=>bif decide (D6.1.2.1>D6.1.1) then some (((0:Int),(false,())),()) else some ((D6.1.2.1,(true,())),()))=
    some ((bif fc (b::r) then gd (b::r) else 0,(fc (b::r),())),()):=by
   intro k3 j5;rw[key k3];unfold fc;rw[he,j5];cases Y:List.all (b::r) dA with
   |false=>rfl
   |true=>
    simp only[cond_true,Option.bind_some,Bool.not_false,Bool.true_and,oB];by_cases dm:(b::r).length<=6
    ·simp only[dm,decide_true,Bool.true_and];cases decide (gd (b::r)<=999)<;>rfl
    ·have:=XO Y j5 (by omega)
     have:decide (gd (b::r)<=999)=false:=by simp only[decide_eq_false_iff_not];omega
     rw[this];simp only[dm,decide_false,Bool.false_and];rfl
  by_cases aL:(b::r).length<=9
  ·simp only[aL,decide_true,cond_true];cases hr:(r==[]) with
   |true=>
    simp only[Bool.not_true,cond_false,Option.bind_some];exact fin aL (by rw[DL,hr];rfl)
   |false=>
    simp only[Bool.not_false,cond_true,Option.bind_some];cases Qv:((b.toNat:Int)==48) with
    |true=>
     have:fc (b::r)=false:=by unfold fc;rw[DL,hr,Qv];simp
     rw[this];rfl
    |false=>
     simp only[cond_false];exact fin aL (by rw[DL,hr,Qv];rfl)
  ·have:fc (b::r)=false:=by
    unfold fc;have:decide ((b::r).length<=6)=false:=by simp only[decide_eq_false_iff_not];omega
    rw[this];simp
   simp only[aL,decide_false,cond_false,Option.bind_some,cond_true,this]
abbrev wH:Shape:=⟨[bw 0,(1,.ah (.d (.int .u8))),ak 2,b6 7 3000448,ak 8,ak 9],[cl 3000448 .str 7 0],43⟩
abbrev s7:List bd:=[(.exit 0,⟨[bw 0,b6 7 3000448,ak 8],[cl 3000448 .str 7 0],43⟩)]
noncomputable def xi(y:wH.H):cI wH s7:=
 bif(decide (y.1.2.2.2.2.2.1<(y.1.1.length:Int))) then
 bif(decide ((y.2.1.length:Int)<y.1.2.2.1)) then
(bl y.1.1 y.1.2.2.2.2.2.1).bind fun a=>
 bif((a.toNat:Int)==y.1.2.1) then
(dr y.1.1 y.1.2.2.2.2.1 y.1.2.2.2.2.2.1).bind fun b=>
(ez 16 y.2.1 ([b]:List al)).bind fun c=>
 some (.inl ((y.1.1,y.1.2.1,y.1.2.2.1,(),(IntKind.i64.wrap (y.1.2.2.2.2.2.1+(1:Int))),(IntKind.i64.wrap (y.1.2.2.2.2.2.1+(1:Int))),()),c,()))
else
 some (.inl ((y.1.1,y.1.2.1,y.1.2.2.1,(),y.1.2.2.2.2.1,(IntKind.i64.wrap (y.1.2.2.2.2.2.1+(1:Int))),()),y.2.1,()))
else
 some (.inr ((y.1.1,(),y.1.2.2.2.2.1,()),y.2.1,()))
else
 some (.inr ((y.1.1,(),y.1.2.2.2.2.1,()),y.2.1,()))
noncomputable def Cj:wH.H->Option (aW s7):=bP xi
theorem XZ:br af (aF (codeOf Tryz.f89) 1 122) (bB wH s7 Cj):=cK g0 (by kernel_rfl) aA fun y=>by kernel_rfl
abbrev i89:Shape:=⟨[bw 0,(1,.ah (.d (.int .u8))),ak 2],[],43⟩
abbrev Pv:Shape:=⟨[b6 6 3000384],[cl 3000384 .str 6 0],43⟩
noncomputable def f89(a:i89.H):Option Pv.H:=
(Cj ((a.1.1,a.1.2.1,a.1.2.2.1,(),(0:Int),(0:Int),()),([]:List al),())).bind fun b=>
(dr b.1.1 b.1.2.2.1 (b.1.1.length:Int)).bind fun c=>
(ez 16 b.2.1 ([c]:List al)).bind fun d=>
 some (((),()),d,())
noncomputable def Gg:a4:=bi aD Tryz.f89 i89 Pv [] f89
theorem O_:a6 af 89 Gg:=bk g0 Tryz.func89 (by kernel_rfl) (bJ XZ aA) (fun y=>by kernel_rfl) fun a=>by kernel_rfl
abbrev cj(n:Nat):Prop:=n<=2097152
theorem vT(c:UInt8):∀s,cF c s≠[]:=by
 intro s;induction s with
 |nil=>intro h;cases h
 |cons b r ih=>
  unfold cF;cases b==c with
  |true=>intro h;cases h
  |false=>
   simp only[cond_false];split<;>intro h<;>cases h
def rM(bV:al):List al->List al
 |x::xs=>(bV++x)::xs
 |[]=>[bV]
theorem JI{ap:List al}(h:ap≠[]):rM [] ap=ap:=by
 cases ap with
 |nil=>exact absurd rfl h
 |cons x xs=>rfl
theorem vL(c:UInt8):∀s,(cF c s).length<=s.length+1:=by
 intro s;induction s with
 |nil=>exact Nat.le_refl _
 |cons b r ih=>
  unfold cF;cases b==c with
  |true=>simpa using ih
  |false=>
   simp only[cond_false];split
   ·rename_i x xs h;rw[h] at ih;simp at ih ⊢;omega
   ·simp
theorem vK(c:UInt8):∀s x,x∈cF c s->x.length<=s.length:=by
 intro s;induction s with
 |nil=>intro x h;simp[cF] at h;simp[h]
 |cons b r ih=>
  intro x h;unfold cF at h;cases hb:b==c with
  |true=>
   rw[hb,cond_true] at h;rcases List.mem_cons.1 h with rfl|h
   ·simp
   ·have:=ih x h;simp;omega
  |false=>
   rw[hb,cond_false] at h;split at h
   ·rename_i y ys ai;rcases List.mem_cons.1 h with rfl|h
    ·have:=ih y (by rw[ai];exact List.mem_cons_self);simp;omega
    ·have:=ih x (by rw[ai];exact List.mem_cons_of_mem _ h);simp;omega
   ·simp at h;simp[h]
theorem XC{bq:Type}(c:UInt8)(s:al)(fin:Nat×List al->bq):∀(r:al) (k:Nat) (q:Nat×List al),r=s.drop k->k<=s.length->q.1<=k->
  ∃gV,et (fun i x (q:Nat×List al)=>some (.inl (bif(x.toNat:Int)==(c.toNat:Int) then(i+1,q.2++[(s.take i).drop q.1]) else q):Sum (Nat×List al) bq)) fin k r q=some (fin gV)/\gV.1<=s.length/\
   gV.2++[s.drop gV.1]=q.2++rM ((s.take k).drop q.1) (cF c r):=by
 intro r;induction r with
 |nil=>
  intro k q hr ag aL;have pD:k=s.length:=by
   have:=congrArg List.length hr;simp at this;omega
  refine⟨q,rfl,by omega,?_⟩
  rw[pD,List.take_length];simp[cF,rM]
 |cons x r ih=>
  intro k q hr ag aL;have aY:k<s.length:=by
   have:=congrArg List.length hr;simp at this;omega
  have cG:r=s.drop (k+1):=by
   have:=congrArg List.tail hr;simpa using this
  have hx:s[k]? =some x:=by
   have:=congrArg (fun l=>l[0]?) hr
   simpa using this.symm
  simp only[et];cases hc:((x.toNat:Int)==(c.toNat:Int)) with
  |true=>
   have Fq:x=c:=by
    simp only[beq_iff_eq] at hc;exact UInt8.toNat_inj.1 (by omega)
   simp only[cond_true];obtain⟨gV,h1,h2,Z⟩:=ih (k+1) (k+1,q.2++[(s.take k).drop q.1]) cG aY (Nat.le_refl _);refine⟨gV,h1,h2,Z.trans ?_⟩;have e1:(s.take (k+1)).drop (k+1)=[]:=List.drop_eq_nil_of_le (by rw[List.length_take];omega)
   simp only[e1];rw[JI (vT c r)];subst Fq;have:cF x (x::r)=[]::cF x r:=by simp[cF]
   rw[this];simp[rM]
  |false=>
   have Fq:(x==c)=false:=by
    cases h:x==c with
    |false=>rfl
    |true=>rw[eq_of_beq h] at hc;simp at hc
   simp only[cond_false];obtain⟨gV,h1,h2,Z⟩:=ih (k+1) q cG aY (by omega)
   refine⟨gV,h1,h2,Z.trans ?_⟩;have e1:(s.take (k+1)).drop q.1=(s.take k).drop q.1++[x]:=by
    rw[List.take_add_one,hx];rw[List.drop_append_of_le_length (by rw[List.length_take];omega)]
    rfl
   rw[e1];have:cF c (x::r)=rM [x] (cF c r):=by
    rw[cF,Fq,cond_false];cases h:cF c r with
    |nil=>rfl
    |cons y ys=>rfl
   rw[this];cases h:cF c r with
   |nil=>exact absurd h (vT c r)
   |cons y ys=>simp[rM]
theorem JT(c:UInt8)(a)(M:cj a.1.1.length)(hb:a.1.2.1=(c.toNat:Int))(hm:a.1.2.2.1=((a.1.1.length+1:Nat):Int)):f89 a=some (((),()),(cF c a.1.1,())):=by
 obtain⟨⟨s,b,m,u⟩,bA⟩:=a;obtain rfl:b=(c.toNat:Int):=hb;obtain rfl:m=((s.length+1:Nat):Int):=hm;have M:s.length<=2097152:=M;have key:=lX xi s (fun i (q:Nat×List al)=>((s,((c.toNat:Int),(((s.length+1:Nat):Int),((),((q.1:Int),((i:Int),())))))),(q.2,())))
  (fun i x (q:Nat×List al)=>some (.inl (bif(x.toNat:Int)==(c.toNat:Int) then(i+1,q.2++[(s.take i).drop q.1]) else q))) (fun q=>(((s,((),((q.1:Int),()))),(q.2,())):aW s7))
  (fun i q=>q.1<=i/\q.2.length<=i) (0,[]) ⟨Nat.le_refl _,Nat.le_refl _⟩ (fun i x q hx db=>?_) (fun q db=>?_)
 ·obtain⟨gV,h1,h2,Z⟩:=XC c s (fun q=>(((s,((),((q.1:Int),()))),(q.2,())):aW s7)) s 0 (0,[]) rfl (Nat.zero_le _) (Nat.le_refl _)
  have key:Cj ((s,((c.toNat:Int),(((s.length+1:Nat):Int),((),((0:Int),((0:Int),())))))),(([]:List al),()))=some ((s,((),((gV.1:Int),()))),(gV.2,())):=key.trans h1;simp only[f89,key,Option.bind_some];rw[Iz h2];have Z:gV.2++[s.drop gV.1]=cF c s:=by
   rw[Z];simp only[List.take_zero,List.drop_nil,List.nil_append];exact JI (vT c s)
  have hl:gV.2.length<=s.length+1:=by
   have:=congrArg List.length Z;have aH:=vL c s;simp only[List.length_append,List.length_cons,List.length_nil] at this;omega
  simp only[Option.bind_some];rw[kC (by decide) (by unfold aJ;simp only[List.length_cons,List.length_nil];omega)]
  simp only[Option.bind_some,Z]
 ·have hi:=cy hx;have hw:aJ i:=by unfold aJ;omega
  obtain⟨aQ,h1⟩:=db;have aY:decide ((q.2.length:Int)<((s.length+1:Nat):Int))=true:=cx (by omega)
  refine⟨?_,fun gV ni=>?_⟩
  ·simp only[xi,cx hi,cond_true,aY,b_,hx,Option.bind_some];cases hc:((x.toNat:Int)==(c.toNat:Int)) with
   |true=>
    simp only[cond_true];rw[Bj aQ (by omega)]
    simp only[Option.bind_some];rw[kC (by decide) (by unfold aJ;simp only[List.length_cons,List.length_nil];omega)]
    simp only[Option.bind_some,Option.map_some,ch hw]
   |false=>simp only[cond_false,Option.map_some,ch hw]
  ·simp only[Option.some.injEq,Sum.inl.injEq] at ni;subst ni;cases (x.toNat:Int)==(c.toNat:Int) with
   |true=>simp only[cond_true,List.length_append,List.length_cons,List.length_nil];omega
   |false=>simp only[cond_false];omega
 ·simp only[xi,c7,cond_false]
noncomputable def Mi:a4:=A2
theorem _g:a6 af 297 Mi:=S0 (fn:=Tryz.f297) (by kernel_rfl) (by kernel_rfl) (by kernel_rfl) (by kernel_rfl) (by kernel_rfl)
noncomputable abbrev acy:bF:=[(297,Mi)]
theorem ac9:bb af (bz aD acy):=bC ⟨_g,⟨⟩⟩
abbrev i271:Shape:=⟨[bw 0,(1,.ah (.d (.int .u8)))],[],8⟩
abbrev MI:Shape:=⟨[ak 4],[],8⟩
noncomputable def f271(a:i271.H):Option MI.H:=
(some ()).bind fun akc=>
 some (((Lib.indexByte a.1.1 (a.1.2.1).toNat.toUInt8),()),())
noncomputable def N9:a4:=bi aD Tryz.f271 i271 MI [] f271
theorem aak:a6 af 271 N9:=bk ac9 Tryz.func271 (by kernel_rfl) aA (fun y=>by kernel_rfl) fun a=>by kernel_rfl
noncomputable abbrev acD:bF:=[(271,N9)]
theorem OZ:bb af (bz aD acD):=bC ⟨aak,⟨⟩⟩
abbrev J7:Shape:=⟨[bw 0,bw 1,ak 5],[],143⟩
abbrev JZ:List bd:=[(.norm,⟨[bw 0,bw 1,ak 5,aZ 16],[],143⟩)]
noncomputable def CF(y:J7.H):Option (aW JZ):=
 bif(!(y.1.2.2.1==(0:Int))) then
 some ((y.1.1,y.1.2.1,y.1.2.2.1,(y.1.2.1==y.1.1),()),())
else
 some ((y.1.1,y.1.2.1,y.1.2.2.1,true,()),())
theorem X8:br af (aF (codeOf Tryz.f238) 1 56) (bB J7 JZ CF):=ep OZ (by kernel_rfl) aA fun y=>by kernel_rfl
abbrev i238:Shape:=⟨[bw 0,bw 1],[],143⟩
abbrev MP:Shape:=⟨[ak 4],[],143⟩
noncomputable def f238(a:i238.H):Option MP.H:=
(CF ((a.1.1,a.1.2.1,(a.1.2.1.length:Int),()),())).bind fun su=>
 bif su.1.2.2.2.1 then
 some (((0:Int),()),())
else
 bif(su.1.2.2.1==(1:Int)) then
(bl su.1.2.1 (0:Int)).bind fun Gx=>
(f271 ((su.1.1,(Gx.toNat:Int),()),())).bind fun r8=>
 some ((r8.1.1,()),())
else
 bif(decide (su.1.2.2.1>=(su.1.1.length:Int))) then
 some ((((-1):Int),()),())
else
 none
noncomputable def Oe:a4:=bi aD Tryz.f238 i238 MP [] f238
theorem aar:a6 af 238 Oe:=bk OZ Tryz.func238 (by kernel_rfl) (bJ X8 aA) (fun y=>by kernel_rfl) fun a=>by kernel_rfl
noncomputable abbrev acC:bF:=[(238,Oe)]
theorem ada:bb af (bz aD acC):=bC ⟨aar,⟨⟩⟩
abbrev i241:Shape:=⟨[bw 0,bw 1],[],8⟩
abbrev MO:Shape:=⟨[ak 4],[],8⟩
noncomputable def f241(a:i241.H):Option MO.H:=
(f238 ((a.1.1,a.1.2.1,()),())).bind fun b=>
 some ((b.1.1,()),())
noncomputable def Od:a4:=bi aD Tryz.f241 i241 MO [] f241
theorem aaq:a6 af 241 Od:=bk ada Tryz.func241 (by kernel_rfl) aA (fun y=>by kernel_rfl) fun a=>by kernel_rfl
noncomputable abbrev EN:Ctx:=bz aD [(241,Od)]
noncomputable def y7:Code:=codeOf Tryz.f257
noncomputable def m6:Code:=dq (aF y7 1 12)
noncomputable def yv(p j:Nat):Oper:=(opsOf (aF m6 24 p)).getD j default
noncomputable def DG(j:Nat):Oper:=(opsOf (aF y7 1 7)).getD j default
theorem ZM(c:UInt8)(r:al):f241 ((r,([c],())),())=some ((Lib.indexByte r c,()),()):=by
 have aQ:bl ([c]:al) (0:Int)=some c:=rfl;have h1:((([c]:al).length:Int)==0)=false:=rfl;have h2:((([c]:al).length:Int)==1)=true:=rfl;have Z:((c.toNat:Int)).toNat.toUInt8=c:=by simp
 simp only[f241,f238,CF,f271,aQ,h1,h2,Z,Bool.not_false,cond_true,cond_false,Option.bind_some,Option.bind];by_cases h:(([c]:al)==r)=true
 ·have:r=[c]:=(by simpa using h:[c]=r).symm
  subst this;simp[Lib.indexByte]<;>rfl
 ·simp[h]<;>rfl
theorem _6(c:UInt8)(r:al):exec (fZ EN []) (aF m6 24 96) 96 (mq 52 c r) (yX (fZ EN []) 52 7 8 (aF m6 24 194) (aF m6 24 390) 194 390)=
 (f241 ((r,([c],())),())).bind fun q=>bif decide (q.1.1<0) then some (.inl (ke 52 c r)) else(dr r 0 (IntKind.i64.wrap (q.1.1+0))).bind fun x=>some (.inr ((q.1.1,x),ke 52 c r)):=by kernel_rfl
theorem L2:tB af 257:=
 YH (C:=fZ EN []) (bC ⟨aaq,⟨⟩⟩) (fn:=Tryz.f257) (k:=52) (A:=aF y7 1 2) (r5:=aF m6 24 96) (c6:=aF m6 24 194) (r7:=aF m6 24 390) (r9:=aF m6 24 783)
  (o0:=yv 1564 0) (o1:=yv 1564 1) (o2:=yv 1564 2) (o3:=yv 1564 3) (q0:=DG 0) (q1:=DG 1) (q2:=DG 2) (pA:=2) (p5:=96) (p6:=194) (p7:=390) (p9:=783) (t7:=7) (t8:=8) (a1:=39) (a2:=40)
  (t41:=41) (t42:=42) (u1:=49) (u2:=50) (ty:=#[9]) (zj:=#[9])
  {NE:=(by kernel_rfl),nt:=(by kernel_rfl),b9:=(by decide),eJ:=(by kernel_rfl),QA:=enters_of Tryz.func257 (by kernel_rfl) rfl,body:=⟨q8 (aF m6 24 1564),q8 (aF y7 1 7),(by kernel_rfl)⟩,vn:=(by kernel_rfl),wr:=(by kernel_rfl),
   bC:=⟨(by kernel_rfl),(by kernel_rfl),(by kernel_rfl),(by kernel_rfl),(by kernel_rfl),(by kernel_rfl),(by kernel_rfl)⟩,Rw:=(by kernel_rfl),Rv:=(by kernel_rfl),d2:=(by kernel_rfl),Ee:=(by decide),c2:=(by kernel_rfl),d5:=(by kernel_rfl),
   jV:=⟨kr (by kernel_rfl) aA,kr (by kernel_rfl) aA,kr (by kernel_rfl) aA,kr (by kernel_rfl) aA,kr (by kernel_rfl) aA⟩,
   e':=fun c r=>(by kernel_rfl),gl:=fun c r=>(_6 c r).trans (by rw[ZM];rfl),aU:=fun c r i x v=>(by kernel_rfl),Z:=fun c r b=>(by kernel_rfl),Qw:=(by kernel_rfl),vr:=fun c r i=>(by kernel_rfl),z9:=fun c r v=>(by kernel_rfl)}
  (by kernel_rfl) (by decide)
noncomputable abbrev ac3:bF:=[(151,OD)]
theorem E5:bb af (bz aD ac3):=bC ⟨aaN,⟨⟩⟩
abbrev IH:Shape:=⟨[c5 2 2 0,c5 3 3 0,c5 4 4 0,ak 6,aZ 7],[kY 5000128 .i64 2 0,c4 2 [.own 5000128],c4 3 [hK],kY 5000256 .i64 4 0,c4 4 [.own 5000256]],28⟩
abbrev Ix:List bd:=[(.norm,⟨[c5 2 2 0,c5 3 3 0,c5 4 4 0,ak 6,aZ 22],[kY 5000128 .i64 2 0,c4 2 [.own 5000128],c4 3 [hK],kY 5000256 .i64 4 0,c4 4 [.own 5000256]],28⟩)]
noncomputable def A6(y:IH.H):Option (aW Ix):=
 bif(!(!y.1.2.2.2.2.1)) then
 some (((),(),(),y.1.2.2.2.1,((y.2.2.2.2.1.length:Int)==(4:Int)),()),y.2.1,((),()),(y.2.2.2.1.1,()),y.2.2.2.2.1,((),()),())
else
 some (((),(),(),y.1.2.2.2.1,true,()),y.2.1,((),()),(y.2.2.2.1.1,()),y.2.2.2.2.1,((),()),())
theorem VD:br af (aF (jd (aF (codeOf Tryz.f127) 1 58)) 117 1876) (bB IH Ix A6):=ep E5 (by kernel_rfl) aA fun y=>by kernel_rfl
abbrev w6:Shape:=⟨[c5 2 2 0,c5 3 3 0,c5 4 4 0],[kY 5000128 .i64 2 0,c4 2 [.own 5000128],c4 3 [hK],kY 5000256 .i64 4 0,c4 4 [.own 5000256]],28⟩
abbrev B9:List bd:=[(.norm,⟨[c5 2 2 0,c5 3 3 0,c5 4 4 0],[kY 5000128 .i64 2 0,c4 2 [.own 5000128],c4 3 [hK],kY 5000256 .i64 4 0,c4 4 [.own 5000256]],28⟩),(.ret,⟨[c5 2 2 0,c5 3 3 0],[kY 5000128 .i64 2 0,c4 2 [.own 5000128],c4 3 [hK]],28⟩)]
noncomputable def qF(x:al)(y:w6.H):cI w6 B9:=
(f151 ((x,(999:Int),()),())).bind fun a=>
(A6 (((),(),(),a.1.1,a.1.2.1,()),y.2.1,((),()),(y.2.2.2.1.1,()),y.2.2.2.2.1,((),()),())).bind fun b=>
 bif b.1.2.2.2.2.1 then
 some (.inr (.inr (((),(),()),([]:List Int),((),()),(false,()),())))
else
(ez 8 b.2.2.2.2.1 ([b.1.2.2.2.1]:List Int)).bind fun c=>
 some (.inl (((),(),(),()),b.2.1,((),()),(b.2.2.2.1.1,()),c,((),()),()))
noncomputable def td(y:w6.H):Option (aW B9):=
 some (.inl (((),(),(),()),y.2.1,((),()),(y.2.2.2.1.1,()),y.2.2.2.2.1,((),()),()))
theorem Yr:br af (aF (codeOf Tryz.f127) 1 58) (qo 257 9 w6 B9 qF td):=HH (ev:=10) E5 L2 (by kernel_rfl) (bJ VD aA) (by kernel_rfl) (fun x y=>by kernel_rfl) fun y=>by kernel_rfl
abbrev i127:Shape:=⟨[bw 0],[],28⟩
abbrev Nk:Shape:=⟨[c5 2 2 0,c5 3 3 0],[kY 5000128 .i64 2 0,c4 2 [.own 5000128],c4 3 [hK]],28⟩
noncomputable def f127(a:i127.H):Option Nk.H:=
(bif Nat.ble a.1.1.length jP then hy qF td (cF (46:UInt8) a.1.1) (((),(),(),()),([]:List Int),((),()),(false,()),([]:List Int),((),()),()) else none).bind fun b=>
(match b with
|.inl c=>
 some (((),(),()),c.2.2.2.2.1,((),()),(true,()),())
|.inr d=>
 some (((),(),()),d.2.1,((),()),(d.2.2.2.1.1,()),()))
noncomputable def EW:a4:=bi aD Tryz.f127 i127 Nk [] f127
theorem Mw:a6 af 127 EW:=bk E5 Tryz.func127 (by kernel_rfl) (bJ Yr aA) (fun y=>by kernel_rfl) fun a=>by kernel_rfl
noncomputable abbrev ac6:bF:=[(127,EW)]
theorem adq:bb af (bz aD ac6):=bC ⟨Mw,⟨⟩⟩
abbrev i119:Shape:=⟨[bw 0],[],11⟩
abbrev Np:Shape:=⟨[aZ 2],[],11⟩
noncomputable def f119(a:i119.H):Option Np.H:=
(f127 ((a.1.1,()),())).bind fun b=>
 some ((b.2.2.2.1.1,()),())
noncomputable def y_:a4:=bi aD Tryz.f119 i119 Np [] f119
theorem DX:a6 af 119 y_:=bk adq Tryz.func119 (by kernel_rfl) aA (fun y=>by kernel_rfl) fun a=>by kernel_rfl
noncomputable abbrev ac5:bF:=[(118,EY),(119,y_)]
theorem O7:bb af (bz aD ac5):=bC ⟨My,DX,⟨⟩⟩
abbrev Jz:Shape:=⟨[c5 1 1 0,ak 8],[c4 1 [bG,cH,bG]],21⟩
abbrev Jn:List bd:=[(.norm,⟨[c5 1 1 0,aZ 14],[c4 1 [bG,cH,bG]],21⟩)]
noncomputable def BH(y:Jz.H):Option (aW Jn):=
 bif(y.1.2.1==(1:Int)) then
 some (((),(y.1.2.1==(1:Int)),()),(y.2.1.1,y.2.1.2.1,y.2.1.2.2.1,()),())
else
 bif(y.1.2.1==(2:Int)) then
 some (((),(y.1.2.1==(2:Int)),()),(y.2.1.1,y.2.1.2.1,y.2.1.2.2.1,()),())
else
 some (((),(y.1.2.1==(3:Int)),()),(y.2.1.1,y.2.1.2.1,y.2.1.2.2.1,()),())
theorem W':br af (aF (codeOf Tryz.f121) 1 470) (bB Jz Jn BH):=ep O7 (by kernel_rfl) aA fun y=>by kernel_rfl
abbrev i121:Shape:=⟨[dw 0 [bG,cH,bG]],[],21⟩
abbrev No:Shape:=⟨[aZ 2],[],21⟩
noncomputable def f121(a:i121.H):Option No.H:=
(f118 ((a.1.1.1,()),())).bind fun b=>
 bif(!b.1.1) then
 some ((false,()),())
else
 bif(a.1.1.2.1==(0:Int)) then
 some (((a.1.1.2.2.1==([]:al)),()),())
else
(BH (((),a.1.1.2.1,()),(a.1.1.1,a.1.1.2.1,a.1.1.2.2.1,()),())).bind fun c=>
 bif c.1.2.1 then
(f119 ((c.2.1.2.2.1,()),())).bind fun d=>
 some ((d.1.1,()),())
else
 some ((false,()),())
noncomputable def EX:a4:=bi aD Tryz.f121 i121 No [] f121
theorem Mx:a6 af 121 EX:=bk O7 Tryz.func121 (by kernel_rfl) (bJ W' aA) (fun y=>by kernel_rfl) fun a=>by kernel_rfl
noncomputable abbrev acQ:bF:=[(89,Gg),(90,QO),(91,pN)]
theorem O2:bb af (bz aD acQ):=bC ⟨O_,adB,rT,⟨⟩⟩
abbrev wm:Shape:=⟨[b6 4 3000256,b6 5 3000320,ak 6],[cl 3000256 .str 4 0,cl 3000320 .i64 5 0],37⟩
abbrev oN:List bd:=[(.ret,⟨[b6 2 3000128,aZ 3],[cl 3000128 .i64 2 0],37⟩),(.exit 0,⟨[b6 4 3000256,b6 5 3000320],[cl 3000256 .str 4 0,cl 3000320 .i64 5 0],37⟩)]
noncomputable def wC(y:wm.H):cI wm oN:=
 bif(decide (y.1.2.2.1<(y.2.1.length:Int))) then
(e8 y.2.1.length y.1.2.2.1).bind fun a=>
(y.2.1[a]?).bind fun b=>
(f90 ((b,()),())).bind fun c=>
(f91 ((c.1.1,(0:Int),(999:Int),()),())).bind fun d=>
 bif(!d.1.1) then
 some (.inr (.inl (((),false,()),y.2.2.1,())))
else
(ez 8 y.2.2.1 ([c.1.1]:List Int)).bind fun e=>
 some (.inl (((),(),(IntKind.i64.wrap (y.1.2.2.1+(1:Int))),()),y.2.1,e,()))
else
 some (.inr (.inr (((),(),()),y.2.1,y.2.2.1,())))
noncomputable def Bt:wm.H->Option (aW oN):=bP wC
theorem W7:br af (aF (codeOf Tryz.f181) 1 122) (bB wm oN Bt):=cK O2 (by kernel_rfl) aA fun y=>by kernel_rfl
abbrev i181:Shape:=⟨[bw 0],[],37⟩
abbrev M3:Shape:=⟨[b6 2 3000128,aZ 3],[cl 3000128 .i64 2 0],37⟩
noncomputable def f181(a:i181.H):Option M3.H:=
(f89 ((a.1.1,(46:Int),(IntKind.i64.wrap ((a.1.1.length:Int)+(1:Int))),()),())).bind fun b=>
(Bt (((),(),(0:Int),()),b.2.1,([]:List Int),())).bind fun c=>
(match c with
|.inl d=>
 some (((),d.1.2.1,()),d.2.1,())
|.inr e=>
 some (((),(decide ((e.2.1.length:Int)<=(4:Int))),()),e.2.2.1,()))
noncomputable def ER:a4:=bi aD Tryz.f181 i181 M3 [] f181
theorem Mr:a6 af 181 ER:=bk O2 Tryz.func181 (by kernel_rfl) (bJ W7 aA) (fun y=>by kernel_rfl) fun a=>by kernel_rfl
noncomputable abbrev acT:bF:=[(181,ER)]
theorem adm:bb af (bz aD acT):=bC ⟨Mr,⟨⟩⟩
abbrev i162:Shape:=⟨[bw 0],[],11⟩
abbrev M7:Shape:=⟨[aZ 2],[],11⟩
noncomputable def f162(a:i162.H):Option M7.H:=
(f181 ((a.1.1,()),())).bind fun b=>
 some ((b.1.2.1,()),())
noncomputable def ES:a4:=bi aD Tryz.f162 i162 M7 [] f162
theorem Ms:a6 af 162 ES:=bk adm Tryz.func162 (by kernel_rfl) aA (fun y=>by kernel_rfl) fun a=>by kernel_rfl
noncomputable abbrev acE:bF:=[(91,pN),(161,ET),(162,ES)]
theorem adb:bb af (bz aD acE):=bC ⟨rT,Mt,Ms,⟨⟩⟩
abbrev i233:Shape:=⟨[dw 0 [bG,cH,bG]],[],26⟩
abbrev MQ:Shape:=⟨[aZ 2],[],26⟩
noncomputable def f233(a:i233.H):Option MQ.H:=
(f161 ((a.1.1.1,()),())).bind fun b=>
 bif b.1.1 then
 bif(a.1.1.2.1==(0:Int)) then
 bif(!(a.1.1.2.2.1==([]:al))) then
(f91 ((a.1.1.2.1,(1:Int),(3:Int),()),())).bind fun c=>
 bif c.1.1 then
(f162 ((a.1.1.2.2.1,()),())).bind fun d=>
 some ((d.1.1,()),())
else
 some ((false,()),())
else
 some ((true,()),())
else
(f91 ((a.1.1.2.1,(1:Int),(3:Int),()),())).bind fun e=>
 bif e.1.1 then
(f162 ((a.1.1.2.2.1,()),())).bind fun f=>
 some ((f.1.1,()),())
else
 some ((false,()),())
else
 some ((false,()),())
noncomputable def Of:a4:=bi aD Tryz.f233 i233 MQ [] f233
theorem aas:a6 af 233 Of:=bk adb Tryz.func233 (by kernel_rfl) aA (fun y=>by kernel_rfl) fun a=>by kernel_rfl
theorem HY:∀(r:al) (n:Int),r.all dA=true->0<=n->0<=r.foldl gP n:=by
 intro r;induction r with
 |nil=>intro n _ h;exact h
 |cons b r ih=>
  intro n Y h;simp only[List.all_cons,Bool.and_eq_true] at Y;have hb:=mH Y.1;exact ih _ Y.2 (by unfold gP;omega)
def hp(s:al):List al:=cF 46 s
def eB(s:al):Bool:=(hp s).all fc&&decide ((hp s).length<=4)
def gO(s:al):List Int:=(hp s).map gd
theorem Tt(x:al):within (bif x.all dA&&decide (x.length<=6)&&!(x==[])&&!l' x then gd x else-1) 0 999=fc x:=by
 unfold fc within;cases h1:x.all dA with
 |false=>simp
 |true=>
  have:=HY x 0 h1 (Int.le_refl _);have hv:decide ((0:Int)<=gd x)=true:=by simp only[decide_eq_true_eq];exact this
  cases h2:decide (x.length<=6)<;>cases Z:(x==[])<;>cases aH:l' x<;>simp[hv]
theorem AH(a)(M:cj a.1.1.length):∃out,f181 a=some (((),(eB a.1.1,())),(out,()))/\(eB a.1.1=true->out=gO a.1.1):=by
 obtain⟨⟨s,u⟩,bA⟩:=a;have M:s.length<=2097152:=M;have hlen:=vL 46 s;have iM:f89 ((s,((46:Int),((IntKind.i64.wrap ((s.length:Int)+(1:Int))),()))),())=some (((),()),(hp s,())):=
  JT 46 _ M rfl (ch (by unfold aJ;omega))
 have key:=lX wC (hp s) (fun i (out:List Int)=>(((),((),((i:Int),()))),(hp s,(out,()))))
  (fun i x out=>some (bif fc x then .inl (out++[gd x]) else .inr ((.inl (((),(false,())),(out,()))):aW oN))) (fun out=>((.inr (((),((),())),(hp s,(out,())))):aW oN))
  (fun i out=>out.length<=i) [] (Nat.le_refl _) (fun i x out hx db=>?_) (fun out _=>?_)
 ·have fold:∀(r:List al) (k:Nat) (out:List Int),et (fun i x out=>some (bif fc x then .inl (out++[gd x]) else .inr ((.inl (((),(false,())),(out,()))):aW oN))) (fun out=>((.inr (((),((),())),(hp s,(out,())))):aW oN)) k r out=
    some (bif r.all fc then(.inr (((),((),())),(hp s,(out++r.map gd,())))) else(.inl (((),(false,())),(out++(r.takeWhile fc).map gd,())))):=by
   intro r;induction r with
   |nil=>intro k out;simp[et]
   |cons x r ih=>
    intro k out;simp only[et,List.all_cons];cases hn:fc x with
    |false=>simp[hn]
    |true=>simp only[cond_true,Bool.true_and];rw[ih];simp[hn,List.append_assoc]
  have key:Bt (((),((),((0:Int),()))),(hp s,(([]:List Int),())))=_:=key.trans (fold (hp s) 0 []);simp only[f181,iM,Option.bind_some,key,List.nil_append];unfold eB;cases mj:(hp s).all fc with
  |false=>exact⟨_,rfl,fun h=>by cases h⟩
  |true=>
   simp only[cond_true,Bool.true_and];have:decide (((hp s).length:Int)<=4)=decide ((hp s).length<=4):=by by_cases h:(hp s).length<=4<;>simp[h]<;>omega
   rw[this];exact⟨_,rfl,fun _=>rfl⟩
 ·have hi:=cy hx;have o8:(hp s).length<=s.length+1:=hlen;have hw:aJ i:=by unfold aJ;omega
  have uD:x.length<=s.length:=vK 46 s x (List.mem_of_getElem? hx);refine⟨?_,fun aj aa=>?_⟩
  ·simp only[wC,cx hi,cond_true,l1 hi,hx,Option.bind_some];rw[XQ _ (show aJ x.length by unfold aJ;omega)]
   simp only[Option.bind_some,qL,Tt];cases hn:fc x with
   |false=>rfl
   |true=>
    have hv:(bif x.all dA&&decide (x.length<=6)&&!(x==[])&&!l' x then gd x else-1)=gd x:=by
     unfold fc at hn;simp only[Bool.and_eq_true] at hn;obtain⟨⟨⟨⟨h1,h2⟩,Z⟩,aH⟩,bp⟩:=hn;rw[h1,aH,h2,Z];rfl
    simp only[Bool.not_true,cond_false,hv,cond_true];rw[kC (by decide) (by unfold aJ;simp only[List.length_cons,List.length_nil];omega)]
    simp only[Option.bind_some,ch hw,Option.map_some]
  ·simp only[Option.some.injEq] at aa;cases hn:fc x with
   |false=>rw[hn] at aa;cases aa
   |true=>
    rw[hn] at aa;simp only[cond_true,Sum.inl.injEq] at aa;subst aa;simp only[List.length_append,List.length_cons,List.length_nil];omega
 ·simp only[wC,c7,cond_false]
theorem HA(a)(M:cj a.1.1.length):f162 a=some ((eB a.1.1,()),()):=by
 obtain⟨out,h,_⟩:=AH ((a.1.1,()),()) M;simp only[f162,h,Option.bind_some]
theorem Ai(a)(M:cj a.1.1.length):f127 a=some (((),((),())),((bif eB a.1.1 then gO a.1.1 else []),(((),()),((eB a.1.1,()),())))):=by
 obtain⟨⟨s,u⟩,bA⟩:=a;have M:s.length<=2097152:=M;have EA:Nat.ble s.length jP=true:=Nat.ble_eq_true_of_le (by unfold jP;omega)
 have fold:∀(r:List al) (out:List Int),(∀x,x∈r->x.length<=s.length)->out.length<=4->
   hy qF td r (((),((),((),()))),(([]:List Int),(((),()),((false,()),(out,(((),()),()))))))=
    some (bif r.all fc&&decide (out.length+r.length<=4) then(.inl (((),((),((),()))),(([]:List Int),(((),()),((false,()),(out++r.map gd,(((),()),()))))))) else(.inr (((),((),())),(([]:List Int),(((),()),((false,()),())))))):=by
  intro r;induction r with
  |nil=>
   intro out _ ar;have:decide (out.length+0<=4)=true:=by simpa using ar
   simp only[hy,td,List.all_nil,List.length_nil,this,Bool.and_self,cond_true,List.map_nil,List.append_nil]
  |cons x r ih=>
   intro out hr ar;have hx:=hr x List.mem_cons_self;have abQ:=Wm ((x,((999:Int),())),()) (show aJ x.length by unfold aJ;omega) rfl
   have step:qF x (((),((),((),()))),(([]:List Int),(((),()),((false,()),(out,(((),()),()))))))=
     some (bif fc x&&decide (out.length+1<=4) then .inl (((),((),((),()))),(([]:List Int),(((),()),((false,()),(out++[gd x],(((),()),())))))) else .inr (.inr (((),((),())),(([]:List Int),(((),()),((false,()),())))))):=by
    simp only[qF,abQ,Option.bind_some,A6,Bool.not_not];have aH:((out.length:Int)==4)=!decide (out.length+1<=4):=by
     by_cases h:out.length=4
     ·rw[h];rfl
     ·have bp:decide (out.length+1<=4)=true:=by simp only[decide_eq_true_eq];omega
      rw[bp];simp only[beq_eq_false_iff_ne,ne_eq,Bool.not_true];omega
    rw[aH];cases hn:fc x with
    |false=>rfl
    |true=>
     simp only[cond_true,Option.bind_some,Bool.true_and];cases aL:decide (out.length+1<=4) with
     |false=>rfl
     |true=>
      simp only[Bool.not_true,cond_false,cond_true];rw[kC (by decide) (by unfold aJ;simp only[List.length_cons,List.length_nil];omega)]
      rfl
   rw[hy,step,List.all_cons];cases hn:fc x with
   |false=>rfl
   |true=>
    simp only[Bool.true_and];cases aL:decide (out.length+1<=4) with
    |false=>
     have:decide (out.length+(x::r).length<=4)=false:=by simp only[decide_eq_false_iff_not,List.length_cons] at aL ⊢;omega
     rw[this];simp
    |true=>
     simp only[cond_true];rw[ih (out++[gd x]) (fun y ai=>hr y (List.mem_cons_of_mem _ ai)) (by simp only[List.length_append,List.length_cons,List.length_nil];simpa using aL)]
     have e1:(out++[gd x]).length+r.length=out.length+(x::r).length:=by simp only[List.length_append,List.length_cons,List.length_nil];omega
     rw[e1,List.map_cons,List.append_assoc];rfl
 have key:=fold (cF (46:UInt8) s) [] (fun x hx=>vK 46 s x hx) (Nat.zero_le _)
 have Ei:hy qF td (cF (46:UInt8) s) (((),((),((),()))),(([]:List Int),(((),()),((false,()),(([]:List Int),(((),()),()))))))=
    some (bif eB s then(.inl (((),((),((),()))),(([]:List Int),(((),()),((false,()),(gO s,(((),()),()))))))) else(.inr (((),((),())),(([]:List Int),(((),()),((false,()),())))))):=by
  rw[key];unfold eB gO hp;simp only[List.length_nil,Nat.zero_add,List.nil_append]
 simp only[f127,EA,cond_true,Ei,Option.bind_some];cases eB s<;>rfl
theorem Aj(a)(M:cj a.1.1.length):f119 a=some ((eB a.1.1,()),()):=by
 simp only[f119,Ai ((a.1.1,()),()) M,Option.bind_some]
def hq(n:dH):Bool:=kA n.name&&(n.kind==0&&(n.bT==[])||within n.kind 1 3&&eB n.bT)
abbrev ahv(n:dH):Prop:=cj n.name.length/\cj n.bT.length
theorem WB(a)(h1:cj a.1.1.1.length)(h2:cj a.1.1.2.2.1.length):f233 a=some ((hq ⟨a.1.1.1,a.1.1.2.1,a.1.1.2.2.1⟩,()),()):=by
 obtain⟨⟨⟨n,k,v,u⟩,bA⟩,hU⟩:=a;have h1:n.length<=2097152:=h1;have h2:v.length<=2097152:=h2;have e1:=I8 ((n,()),()) (show aJ n.length by unfold aJ;omega)
 have e2:=HA ((v,()),()) h2;simp only[f233,e1,e2,qL,Option.bind_some,hq];cases kA n with
 |false=>rfl
 |true=>
  cases ag:(k==0) with
  |false=>
   simp only[cond_true,cond_false];cases within k 1 3<;>cases eB v<;>rfl
  |true=>
   have:within k 1 3=false:=by
    have:k=0:=by simpa using ag
    subst this;decide
   rw[this];cases (v==[])<;>rfl
theorem UP{k:Int}(oG:¬k=0)(ay:¬k=1)(ao:¬k=2)(be:¬k=3):within k 1 3=false:=by
 unfold within;cases h:(decide (1<=k)&&decide (k<=3)) with
 |false=>rfl
 |true=>simp only[Bool.and_eq_true,decide_eq_true_eq] at h;omega
theorem Iq(a)(h1:cj a.1.1.1.length)(h2:cj a.1.1.2.2.1.length):f121 a=some ((hq ⟨a.1.1.1,a.1.1.2.1,a.1.1.2.2.1⟩,()),()):=by
 obtain⟨⟨⟨n,k,v,u⟩,bA⟩,hU⟩:=a;have h1:n.length<=2097152:=h1;have h2:v.length<=2097152:=h2;have e1:=Hn ((n,()),()) (show aJ n.length by unfold aJ;omega)
 have e2:=Aj ((v,()),()) h2;simp only[f121,e1,e2,Option.bind_some,hq,BH];cases kA n with
 |false=>rfl
 |true=>
  simp only[Bool.not_true,cond_false,Bool.true_and];by_cases oG:k=0
  ·subst oG;cases (v==[])<;>rfl
  ·have nl:(k==0)=false:=by simpa using oG
   rw[nl];by_cases ay:k=1
   ·subst ay;cases hv:eB v<;>simp[within,e2,hv]
   ·have lF:(k==1)=false:=by simpa using ay
    rw[lF];by_cases ao:k=2
    ·subst ao;cases hv:eB v<;>simp[within,e2,hv]
    ·have hF:(k==2)=false:=by simpa using ao
     rw[hF];by_cases be:k=3
     ·subst be;cases hv:eB v<;>simp[within,e2,hv]
     ·have afB:(k==3)=false:=by simpa using be
      rw[afB];rw[UP oG ay ao be];rfl
noncomputable abbrev _a:bF:=[(121,EX)]
theorem LH:bb af (bz aD _a):=bC ⟨Mx,⟨⟩⟩
abbrev v5:Shape:=⟨[(1,.ah (.fn 121 [])),a0 7 .need,ak 8,ak 9],[],18⟩
abbrev AM:List bd:=[(.ret,⟨[aZ 4],[],18⟩),(.exit 0,⟨[],[],18⟩)]
noncomputable def wc(y:v5.H):cI v5 AM:=
 bif(decide (y.1.2.2.2.1<y.1.2.2.1)) then
(bl y.1.2.1 y.1.2.2.2.1).bind fun a=>
(f121 (((a.name,a.kind,a.bT,()),()),())).bind fun b=>
 bif(!b.1.1) then
 some (.inr (.inl ((false,()),())))
else
 some (.inl (((),y.1.2.1,y.1.2.2.1,(IntKind.i64.wrap (y.1.2.2.2.1+(1:Int))),()),()))
else
 some (.inr (.inr ((),())))
noncomputable def AY:v5.H->Option (aW AM):=bP wc
theorem VF:br af (aF (codeOf Tryz.f120) 1 26) (bB v5 AM AY):=cK LH (by kernel_rfl) aA fun y=>by kernel_rfl
abbrev Le:Shape:=⟨[a0 0 .need,(1,.ah (.fn 121 []))],[],18⟩
abbrev KZ:Shape:=⟨[aZ 4],[],18⟩
noncomputable def yn(a:Le.H):Option KZ.H:=
(AY (((),a.1.1,(a.1.1.length:Int),(0:Int),()),())).bind fun b=>
(match b with
|.inl c=>
 some ((c.1.1,()),())
|.inr d=>
 some ((true,()),()))
noncomputable def LA:a4:=bi aD Tryz.f120 Le KZ [] yn
theorem Zb:a6 af 120 LA:=bk LH Tryz.func120 (by kernel_rfl) (bJ VF aA) (fun y=>by kernel_rfl) fun a=>by kernel_rfl
abbrev i123:Shape:=⟨[dw 0 [bG,cH,bG]],[],5⟩
abbrev Nn:Shape:=⟨[bw 2],[],5⟩
noncomputable def f123(a:i123.H):Option Nn.H:=
 some ((a.1.1.1,()),())
noncomputable def OO:a4:=bi aD Tryz.f123 i123 Nn [] f123
theorem aaY:a6 af 123 OO:=bk g0 Tryz.func123 (by kernel_rfl) aA (fun y=>by kernel_rfl) fun a=>by kernel_rfl
abbrev i177:Shape:=⟨[a0 0 .str],[],8⟩
abbrev Ea:Shape:=⟨[b6 2 3000128],[cl 3000128 .str 2 0],8⟩
noncomputable def f177(a:i177.H):Option Ea.H:=
 oM (t:=.str) a.1.1 (some (((),()),([]:List al),())) ((ez 16 ([]:List al) a.1.1).bind fun b=>
 some (((),()),b,()))
noncomputable def Oy:a4:=bi aD Tryz.f177 i177 Ea [] f177
theorem aaI:a6 af 177 Oy:=bk g0 Tryz.func177 (by kernel_rfl) aA (fun y=>by kernel_rfl) fun a=>by kernel_rfl
abbrev wP:Shape:=⟨[a0 0 .str,bw 1,ak 7,ak 8],[],19⟩
abbrev qu:List bd:=[(.ret,⟨[ak 4],[],19⟩),(.exit 0,⟨[],[],19⟩)]
noncomputable def xp(y:wP.H):cI wP qu:=
 bif(decide (y.1.2.2.2.1<y.1.2.2.1)) then
(bl y.1.1 y.1.2.2.2.1).bind fun a=>
 bif(y.1.2.1==a) then
 some (.inr (.inl ((y.1.2.2.2.1,()),())))
else
 some (.inl ((y.1.1,y.1.2.1,y.1.2.2.1,(IntKind.i64.wrap (y.1.2.2.2.1+(1:Int))),()),()))
else
 some (.inr (.inr ((),())))
noncomputable def Cp:wP.H->Option (aW qu):=bP xp
theorem X9:br af (aF (codeOf Tryz.f221) 1 26) (bB wP qu Cp):=cK g0 (by kernel_rfl) aA fun y=>by kernel_rfl
abbrev i221:Shape:=⟨[a0 0 .str,bw 1],[],19⟩
abbrev D9:Shape:=⟨[ak 4],[],19⟩
noncomputable def f221(a:i221.H):Option D9.H:=
(Cp ((a.1.1,a.1.2.1,(a.1.1.length:Int),(0:Int),()),())).bind fun b=>
(match b with
|.inl c=>
 some ((c.1.1,()),())
|.inr d=>
 some ((((-1):Int),()),()))
noncomputable def Ok:a4:=bi aD Tryz.f221 i221 D9 [] f221
theorem aax:a6 af 221 Ok:=bk g0 Tryz.func221 (by kernel_rfl) (bJ X9 aA) (fun y=>by kernel_rfl) fun a=>by kernel_rfl
noncomputable abbrev acR:bF:=[(221,Ok)]
theorem adl:bb af (bz aD acR):=bC ⟨aax,⟨⟩⟩
abbrev i178:Shape:=⟨[a0 0 .str,bw 1],[],9⟩
abbrev M4:Shape:=⟨[aZ 4],[],9⟩
noncomputable def f178(a:i178.H):Option M4.H:=
(f221 ((a.1.1,a.1.2.1,()),())).bind fun b=>
 some (((decide (b.1.1>=(0:Int))),()),())
noncomputable def Ox:a4:=bi aD Tryz.f178 i178 M4 [] f178
theorem aaH:a6 af 178 Ox:=bk adl Tryz.func178 (by kernel_rfl) aA (fun y=>by kernel_rfl) fun a=>by kernel_rfl
noncomputable abbrev Z':bF:=[(123,OO),(177,Oy),(178,Ox)]
theorem LG:bb af (bz aD Z'):=bC ⟨aaY,aaI,aaH,⟨⟩⟩
abbrev v4:Shape:=⟨[(1,.ah (.fn 123 [])),b6 7 3000448,a0 12 .need,ak 13,ak 14],[cl 3000448 .str 7 0],30⟩
abbrev qk:List bd:=[(.ret,⟨[aZ 6],[],30⟩),(.exit 0,⟨[],[],30⟩)]
noncomputable def wb(y:v4.H):cI v4 qk:=
 bif(decide (y.1.2.2.2.2.1<y.1.2.2.2.1)) then
(bl y.1.2.2.1 y.1.2.2.2.2.1).bind fun a=>
(f123 (((a.name,a.kind,a.bT,()),()),())).bind fun b=>
(f178 ((y.2.1,b.1.1,()),())).bind fun c=>
 bif c.1.1 then
 some (.inr (.inl ((true,()),())))
else
(f123 (((a.name,a.kind,a.bT,()),()),())).bind fun d=>
(ez 16 y.2.1 ([d.1.1]:List al)).bind fun e=>
 some (.inl (((),(),y.1.2.2.1,y.1.2.2.2.1,(IntKind.i64.wrap (y.1.2.2.2.2.1+(1:Int))),()),e,()))
else
 some (.inr (.inr ((),())))
noncomputable def AX:v4.H->Option (aW qk):=bP wb
theorem VE:br af (aF (codeOf Tryz.f122) 1 58) (bB v4 qk AX):=cK LG (by kernel_rfl) aA fun y=>by kernel_rfl
abbrev Ld:Shape:=⟨[a0 0 .need,(1,.ah (.fn 123 [])),a0 2 .str],[],30⟩
abbrev KY:Shape:=⟨[aZ 6],[],30⟩
noncomputable def ym(a:Ld.H):Option KY.H:=
(f177 ((a.1.2.2.1,()),())).bind fun b=>
(AX (((),(),a.1.1,(a.1.1.length:Int),(0:Int),()),b.2.1,())).bind fun c=>
(match c with
|.inl d=>
 some ((d.1.1,()),())
|.inr e=>
 some ((false,()),()))
noncomputable def Lz:a4:=bi aD Tryz.f122 Ld KY [] ym
theorem Za:a6 af 122 Lz:=bk LG Tryz.func122 (by kernel_rfl) (bJ VE aA) (fun y=>by kernel_rfl) fun a=>by kernel_rfl
noncomputable abbrev acI:bF:=[(233,Of)]
theorem O0:bb af (bz aD acI):=bC ⟨aas,⟨⟩⟩
abbrev wQ:Shape:=⟨[a0 0 .need,ak 3],[],19⟩
abbrev BW:List bd:=[(.ret,⟨[aZ 2],[],19⟩),(.exit 0,⟨[a0 0 .need],[],19⟩)]
noncomputable def xq(y:wQ.H):cI wQ BW:=
 bif(decide (y.1.2.1<(y.1.1.length:Int))) then
(bl y.1.1 y.1.2.1).bind fun a=>
(f233 (((a.name,a.kind,a.bT,()),()),())).bind fun b=>
 bif(!b.1.1) then
 some (.inr (.inl ((false,()),())))
else
 some (.inl ((y.1.1,(IntKind.i64.wrap (y.1.2.1+(1:Int))),()),()))
else
 some (.inr (.inr ((y.1.1,()),())))
noncomputable def Cq:wQ.H->Option (aW BW):=bP xq
theorem X_:br af (aF (codeOf Tryz.f215) 1 26) (bB wQ BW Cq):=cK O0 (by kernel_rfl) aA fun y=>by kernel_rfl
abbrev i215:Shape:=⟨[a0 0 .need],[],19⟩
abbrev MV:Shape:=⟨[aZ 2],[],19⟩
noncomputable def f215(a:i215.H):Option MV.H:=
(Cq ((a.1.1,(0:Int),()),())).bind fun b=>
(match b with
|.inl c=>
 some ((c.1.1,()),())
|.inr d=>
 some (((decide ((d.1.1.length:Int)<=(6:Int))),()),()))
noncomputable def Ol:a4:=bi aD Tryz.f215 i215 MV [] f215
theorem aay:a6 af 215 Ol:=bk O0 Tryz.func215 (by kernel_rfl) (bJ X_ aA) (fun y=>by kernel_rfl) fun a=>by kernel_rfl
abbrev wl:Shape:=⟨[a0 0 .str,ak 3,ak 4],[],25⟩
abbrev Be:List bd:=[(.ret,⟨[aZ 2],[],25⟩),(.exit 2,⟨[a0 0 .str,ak 3],[],25⟩)]
noncomputable def wB(y:wl.H):cI wl Be:=
 bif(decide (y.1.2.2.1<y.1.2.1)) then
(bl y.1.1 y.1.2.2.1).bind fun a=>
(bl y.1.1 y.1.2.1).bind fun b=>
 bif(a==b) then
 some (.inr (.inl ((true,()),())))
else
 some (.inl ((y.1.1,y.1.2.1,(IntKind.i64.wrap (y.1.2.2.1+(1:Int))),()),()))
else
 some (.inr (.inr ((y.1.1,y.1.2.1,()),())))
noncomputable def Bp:wl.H->Option (aW Be):=bP wB
theorem WV:br af (aF (dq (aF (codeOf Tryz.f99) 1 26)) 52 1682) (bB wl Be Bp):=cK g0 (by kernel_rfl) aA fun y=>by kernel_rfl
abbrev xP:Shape:=⟨[a0 0 .str,ak 3],[],25⟩
abbrev CU:List bd:=[(.ret,⟨[aZ 2],[],25⟩),(.exit 0,⟨[],[],25⟩)]
noncomputable def x7(y:xP.H):cI xP CU:=
 bif(decide (y.1.2.1<(y.1.1.length:Int))) then
(Bp ((y.1.1,y.1.2.1,(0:Int),()),())).bind fun a=>
(match a with
|.inl b=>
 some (.inr (.inl ((b.1.1,()),())))
|.inr c=>
 some (.inl ((c.1.1,(IntKind.i64.wrap (c.1.2.1+(1:Int))),()),())))
else
 some (.inr (.inr ((),())))
noncomputable def C_:xP.H->Option (aW CU):=bP x7
theorem Zk:br af (aF (codeOf Tryz.f99) 1 26) (bB xP CU C_):=cK g0 (by kernel_rfl) (bJ WV aA) fun y=>by kernel_rfl
abbrev i99:Shape:=⟨[a0 0 .str],[],25⟩
abbrev Pp:Shape:=⟨[aZ 2],[],25⟩
noncomputable def f99(a:i99.H):Option Pp.H:=
(C_ ((a.1.1,(0:Int),()),())).bind fun b=>
(match b with
|.inl c=>
 some ((c.1.1,()),())
|.inr d=>
 some ((false,()),()))
noncomputable def QK:a4:=bi aD Tryz.f99 i99 Pp [] f99
theorem adx:a6 af 99 QK:=bk g0 Tryz.func99 (by kernel_rfl) (bJ Zk aA) (fun y=>by kernel_rfl) fun a=>by kernel_rfl
noncomputable abbrev acS:bF:=[(99,QK),(215,Ol)]
theorem O3:bb af (bz aD acS):=bC ⟨adx,aay,⟨⟩⟩
abbrev wX:Shape:=⟨[a0 1 .need,b6 5 3000320,ak 6],[cl 3000320 .str 5 0],30⟩
abbrev wF:List bd:=[(.exit 0,⟨[a0 1 .need,b6 5 3000320],[cl 3000320 .str 5 0],30⟩)]
noncomputable def xu(y:wX.H):cI wX wF:=
 bif(decide (y.1.2.2.1<(y.1.1.length:Int))) then
(bl y.1.1 y.1.2.2.1).bind fun a=>
(ez 16 y.2.1 ([a.name]:List al)).bind fun b=>
 some (.inl ((y.1.1,(),(IntKind.i64.wrap (y.1.2.2.1+(1:Int))),()),b,()))
else
 some (.inr ((y.1.1,(),()),y.2.1,()))
noncomputable def Ct:wX.H->Option (aW wF):=bP xu
theorem Yg:br af (aF (codeOf Tryz.f163) 1 58) (bB wX wF Ct):=cK O3 (by kernel_rfl) aA fun y=>by kernel_rfl
abbrev i163:Shape:=⟨[bw 0,a0 1 .need],[],30⟩
abbrev M6:Shape:=⟨[aZ 4],[],30⟩
noncomputable def f163(a:i163.H):Option M6.H:=
(Ct ((a.1.2.1,(),(0:Int),()),([a.1.1]:List al),())).bind fun b=>
(f215 ((b.1.1,()),())).bind fun c=>
 bif c.1.1 then
(f99 ((b.2.1,()),())).bind fun d=>
 some (((!d.1.1),()),())
else
 some ((false,()),())
noncomputable def OA:a4:=bi aD Tryz.f163 i163 M6 [] f163
theorem aaK:a6 af 163 OA:=bk O3 Tryz.func163 (by kernel_rfl) (bJ Yg aA) (fun y=>by kernel_rfl) fun a=>by kernel_rfl
abbrev un(aC:List dH):Prop:=cj aC.length/\∀n,n∈aC->ahv n
theorem yW(n:Nat)(k:Nat):decide ((n:Int)<=(k:Int))=decide (n<=k):=by by_cases h:n<=k<;>simp[h]<;>omega
theorem UZ(a)(M:un a.1.1):f215 a=some ((a.1.1.all hq&&decide (a.1.1.length<=6),()),()):=by
 obtain⟨⟨aC,u⟩,bA⟩:=a;obtain⟨hl,hn⟩:=M;have hl:aC.length<=2097152:=hl;have key:Cq ((aC,((0:Int),())),())=some (bif allI (fun _ n=>hq n) 0 aC then .inr ((aC,()),()) else .inl ((false,()),())):=by
  refine fK xq aC (fun i=>((aC,((i:Int),())),())) _ _ _ (fun i x hx=>?_) ?_
  ·have hi:=cy hx;have hw:aJ i:=by unfold aJ;omega
   have hb:=hn x (List.mem_of_getElem? hx);simp only[xq,cx hi,cond_true,b_,hx,Option.bind_some];rw[WB _ hb.1 hb.2];simp only[Option.bind_some,ch hw];cases hq x<;>rfl
  ·simp only[xq,c7,cond_false]
 rw[gL] at key;simp only[f215,key,Option.bind_some];cases List.all aC hq with
 |false=>rfl
 |true=>have:=yW aC.length 6;simp only[cond_true,Bool.true_and];rw[<-this];rfl
theorem U_(a)(M:un a.1.1):yn a=some ((a.1.1.all hq,()),()):=by
 obtain⟨⟨aC,u⟩,bA⟩:=a;obtain⟨hl,hn⟩:=M;have hl:aC.length<=2097152:=hl;have key:AY (((),(aC,((aC.length:Int),((0:Int),())))),())=some (bif allI (fun _ n=>hq n) 0 aC then .inr ((),()) else .inl ((false,()),())):=by
  refine fK wc aC (fun i=>(((),(aC,((aC.length:Int),((i:Int),())))),())) _ _ _ (fun i x hx=>?_) ?_
  ·have hi:=cy hx;have hw:aJ i:=by unfold aJ;omega
   have hb:=hn x (List.mem_of_getElem? hx);simp only[wc,cx hi,cond_true,b_,hx,Option.bind_some];rw[Iq _ hb.1 hb.2];simp only[Option.bind_some,ch hw];cases hq x<;>rfl
  ·simp only[wc,c7,cond_false]
 rw[gL] at key;simp only[yn,key,Option.bind_some];cases List.all aC hq<;>rfl
def jo:List al->List al->Bool
 |_,[]=>false
 |bV,x::r=>bV.contains x||jo (bV++[x]) r
theorem Xz(xs:List al):∀(r:List al) (k:Nat),r=xs.drop k->allI (fun i x=>!((xs.take i).contains x)) k r=!jo (xs.take k) r:=by
 intro r;induction r with
 |nil=>intro k _;rfl
 |cons x r ih=>
  intro k hr;have cG:r=xs.drop (k+1):=by
   have:=congrArg List.tail hr;simpa using this
  have hx:xs[k]? =some x:=by
   have:=congrArg (fun l=>l[0]?) hr
   simpa using this.symm
  have e1:xs.take (k+1)=xs.take k++[x]:=by rw[List.take_add_one,hx];rfl
  simp only[allI,jo,ih (k+1) cG,e1,Bool.not_or]
theorem Y1(ys:List al)(x:al):ys.all (fun y=>!(y==x))=!ys.contains x:=by
 induction ys with
 |nil=>rfl
 |cons y ys ih=>
  simp only[List.all_cons,ih,List.contains_cons,Bool.not_or];congr 2
  cases h:y==x with
  |true=>rw[eq_of_beq h];simp
  |false=>
   cases h2:x==y with
   |true=>rw[eq_of_beq h2] at h;simp at h
   |false=>rfl
theorem UY(a)(M:cj a.1.1.length):f99 a=some ((jo [] a.1.1,()),()):=by
 obtain⟨⟨xs,u⟩,bA⟩:=a;have M:xs.length<=2097152:=M;have inner:∀(i:Nat) (x:al),xs[i]? =some x->Bp ((xs,((i:Int),((0:Int),()))),())=some (bif !((xs.take i).contains x) then .inr ((xs,((i:Int),())),()) else .inl ((true,()),())):=by
  intro i x hx;have hi:=cy hx;have hl:(xs.take i).length=i:=by rw[List.length_take];omega
  have:=fK wB (xs.take i) (fun k=>((xs,((i:Int),((k:Int),()))),())) (fun _ y=>!(y==x)) (.inl ((true,()),())) (.inr ((xs,((i:Int),())),())) (fun k y ai=>?_) ?_
  ·have:=this;rw[gL,Y1] at this;exact this
  ·have ag:=cy ai;rw[hl] at ag;have hw:aJ k:=by unfold aJ;omega
   have dC:xs[k]? =some y:=by
    rw[List.getElem?_take,if_pos ag] at ai;exact ai
   simp only[wB,cx ag,cond_true,b_,dC,hx,Option.bind_some,ch hw];cases (y==x)<;>rfl
  ·simp only[wB,hl,c7,cond_false]
 have key:C_ ((xs,((0:Int),())),())=some (bif allI (fun i x=>!((xs.take i).contains x)) 0 xs then .inr ((),()) else .inl ((true,()),())):=by
  refine fK x7 xs (fun i=>((xs,((i:Int),())),())) _ _ _ (fun i x hx=>?_) ?_
  ·have hi:=cy hx;have hw:aJ i:=by unfold aJ;omega
   simp only[x7,cx hi,cond_true,inner i x hx,Option.bind_some];cases (xs.take i).contains x
   ·simp only[Bool.not_false,cond_true,ch hw]
   ·rfl
  ·simp only[x7,c7,cond_false]
 rw[Xz xs xs 0 rfl] at key;simp only[f99,key,Option.bind_some,List.take_zero];cases jo [] xs<;>rfl
def qA(name:al)(aC:List dH):Bool:=aC.all hq&&decide (aC.length<=6)&&!jo [] (name::aC.map (·.name))
theorem UX(a)(M:un a.1.2.1)(hn:cj a.1.1.length):f163 a=some ((qA a.1.1 a.1.2.1,()),()):=by
 obtain⟨⟨name,aC,u⟩,bA⟩:=a;have hl:aC.length<=2097152:=M.1;have key:Ct ((aC,((),((0:Int),()))),(([name]:List al),()))=some (((aC,((),())),((name::aC.map (·.name)),()))):=by
  have:=VS xu aC (fun i (out:List al)=>((aC,((),((i:Int),()))),(out,()))) (fun(n:dH) out=>out++[n.name]) (fun out=>(((aC,((),())),(out,())):aW wF)) (fun i out=>out.length=i+1) [name] rfl (fun i x out hx db=>?_) (fun out _=>?_)
  ·refine this.trans ?_
   have e:∀(r:List dH) (out:List al),r.foldl (fun s x=>s++[x.name]) out=out++r.map (·.name):=by
    intro r;induction r with
    |nil=>intro out;simp
    |cons n r ih=>intro out;simp[ih]
   rw[e];rfl
  ·have hi:=cy hx;have hw:aJ i:=by unfold aJ;omega
   refine⟨?_,by simp[db]⟩
   simp only[xu,cx hi,cond_true,b_,hx,Option.bind_some];rw[kC (by decide) (by unfold aJ;simp only[List.length_cons,List.length_nil];omega)]
   simp only[Option.bind_some,ch hw]
  ·simp only[xu,c7,cond_false]
 simp only[f163,key,Option.bind_some];rw[UZ _ M];simp only[Option.bind_some];unfold qA;cases aL:(List.all aC hq&&decide (aC.length<=6)) with
 |false=>rfl
 |true=>
  simp only[Bool.and_eq_true,decide_eq_true_eq] at aL;have ahQ:=UY ((name::aC.map (·.name),()),()) (show(name::aC.map (·.name)).length<=2097152 by simp only[List.length_cons,List.length_map];omega)
  simp only[cond_true,Bool.true_and,ahQ,Option.bind_some]
theorem XR(a)(M:cj a.1.1.length):∃n:Int,f221 a=some ((n,()),())/\decide (n>=0)=a.1.1.contains a.1.2.1:=by
 obtain⟨⟨xs,x,u⟩,bA⟩:=a;have M:xs.length<=2097152:=M;have key:Cp ((xs,(x,((xs.length:Int),((0:Int),())))),())=_:=AT xp xs (fun i (_:Unit)=>((xs,(x,((xs.length:Int),((i:Int),())))),()))
  (fun i y _=>some (bif x==y then .inr ((.inl (((i:Int),()),())):aW qu) else .inl ())) (fun _=>.inr ((),())) (fun i y s ai=>?_) (fun s=>?_) ()
 ·have fold:∀(r:List al) (k:Nat),∃n:Int,(et (fun i y (_:Unit)=>some (bif x==y then .inr ((.inl (((i:Int),()),())):aW qu) else .inl ())) (fun _=>(.inr ((),()):aW qu)) k r ()).bind (fun abv=>
    (match abv with
    |.inl abu=>some ((abu.1.1,()),())
    |.inr ajg=>some ((((-1):Int),()),()):Option D9.H))=some ((n,()),())/\decide (n>=0)=r.contains x:=by
   intro r;induction r with
   |nil=>intro k;exact⟨-1,rfl,rfl⟩
   |cons y r ih=>
    intro k;simp only[et,List.contains_cons];cases Fp:x==y with
    |true=>exact⟨k,rfl,by simp⟩
    |false=>
     obtain⟨n,h1,h2⟩:=ih (k+1);exact⟨n,h1,by simpa using h2⟩
  obtain⟨n,h1,h2⟩:=fold xs 0;refine⟨n,?_,h2⟩;simp only[f221];rw[key];exact h1
 ·have hi:=cy ai;have hw:aJ i:=by unfold aJ;omega
  simp only[xp,cx hi,cond_true,b_,ai,Option.bind_some,ch hw];cases x==y<;>rfl
 ·simp only[xp,c7,cond_false]
theorem TY(a)(M:cj a.1.1.length):f178 a=some ((a.1.1.contains a.1.2.1,()),()):=by
 obtain⟨n,h1,h2⟩:=XR ((a.1.1,(a.1.2.1,())),()) M;simp only[f178,h1,Option.bind_some,h2]
theorem WC(a)(M:cj a.1.1.length):f177 a=some (((),()),(a.1.1,())):=by
 obtain⟨⟨xs,u⟩,bA⟩:=a;have M:xs.length<=2097152:=M;have h2:(ez 16 ([]:List al) xs).bind (fun x=>some (((),()),(x,())))=(some (((),()),(xs,())):Option Ea.H):=by
  rw[kC (by decide) (by unfold aJ;simp only[List.length_nil];omega)];rfl
 simp only[f177];rw[h2];unfold oM;split
 ·rfl
 ·rename_i h;exact absurd (fun he:xs=[]=>by subst he;rfl) h
theorem SF(a)(M:un a.1.1)(hm:a.1.2.2.1.length<=1):ym a=some ((jo a.1.2.2.1 (a.1.1.map (·.name)),()),()):=by
 obtain⟨⟨aC,pR,more,u⟩,bA⟩:=a;have hl:aC.length<=2097152:=M.1;have hm:more.length<=1:=hm;have hc:=WC ((more,()),()) (show more.length<=2097152 by omega)
 have key:(AX (((),((),(aC,((aC.length:Int),((0:Int),()))))),(more,())))=_:=lX wb aC (fun i (out:List al)=>(((),((),(aC,((aC.length:Int),((i:Int),()))))),(out,())))
  (fun i (n:dH) out=>some (bif out.contains n.name then .inr ((.inl ((true,()),())):aW qk) else .inl (out++[n.name]))) (fun _=>.inr ((),())) (fun i out=>out.length<=i+1) more (by omega) (fun i x out hx db=>?_) (fun out _=>?_)
 ·have fold:∀(r:List dH) (k:Nat) (out:List al),(et (fun i (n:dH) out=>some (bif out.contains n.name then .inr ((.inl ((true,()),())):aW qk) else .inl (out++[n.name]))) (fun _=>(.inr ((),()):aW qk)) k r out)=
    some (bif jo out (r.map (·.name)) then .inl ((true,()),()) else .inr ((),())):=by
   intro r;induction r with
   |nil=>intro k out;rfl
   |cons n r ih=>
    intro k out;simp only[et,List.map_cons,jo];cases out.contains n.name with
    |true=>rfl
    |false=>simp only[cond_false,Bool.false_or];exact ih _ _
  rw[fold] at key;simp only[ym,hc,Option.bind_some,key];cases jo more (aC.map (·.name))<;>rfl
 ·have hi:=cy hx;have hw:aJ i:=by unfold aJ;omega
  refine⟨?_,fun aj aa=>?_⟩
  ·simp only[wb,cx hi,cond_true,b_,hx,Option.bind_some,f123];rw[TY _ (show cj out.length by show out.length<=2097152;omega)]
   simp only[Option.bind_some];cases aL:out.contains x.name with
   |true=>rfl
   |false=>
    simp only[cond_false];rw[kC (by decide) (by unfold aJ;simp only[List.length_cons,List.length_nil];omega)]
    simp only[Option.bind_some,ch hw,Option.map_some]
  ·simp only[Option.some.injEq] at aa;cases aL:out.contains x.name with
   |true=>rw[aL] at aa;cases aa
   |false=>
    rw[aL] at aa;simp only[cond_false,Sum.inl.injEq] at aa;subst aa;simp only[List.length_append,List.length_cons,List.length_nil];omega
 ·simp only[wb,c7,cond_false]
abbrev i293:Shape:=⟨[(0,.ah (.d (.int .u8)))],[],29⟩
abbrev MG:Shape:=⟨[aZ 2],[],29⟩
noncomputable def f293(a:i293.H):Option MG.H:=
 bif(decide (a.1.1>=(97:Int))) then
 bif(!(decide (a.1.1<=(122:Int)))) then
 bif(decide (a.1.1>=(48:Int))) then
 bif(!(decide (a.1.1<=(57:Int)))) then
 bif(!(a.1.1==(46:Int))) then
 bif(!(a.1.1==(95:Int))) then
 some (((a.1.1==(45:Int)),()),())
else
 some ((true,()),())
else
 some ((true,()),())
else
 some ((true,()),())
else
 bif(!(a.1.1==(46:Int))) then
 bif(!(a.1.1==(95:Int))) then
 some (((a.1.1==(45:Int)),()),())
else
 some ((true,()),())
else
 some ((true,()),())
else
 some ((true,()),())
else
 bif(decide (a.1.1>=(48:Int))) then
 bif(!(decide (a.1.1<=(57:Int)))) then
 bif(!(a.1.1==(46:Int))) then
 bif(!(a.1.1==(95:Int))) then
 some (((a.1.1==(45:Int)),()),())
else
 some ((true,()),())
else
 some ((true,()),())
else
 some ((true,()),())
else
 bif(!(a.1.1==(46:Int))) then
 bif(!(a.1.1==(95:Int))) then
 some (((a.1.1==(45:Int)),()),())
else
 some ((true,()),())
else
 some ((true,()),())
noncomputable def N7:a4:=bi aD Tryz.f293 i293 MG [] f293
theorem aai:a6 af 293 N7:=bk g0 Tryz.func293 (by kernel_rfl) aA (fun y=>by kernel_rfl) fun a=>by kernel_rfl
noncomputable abbrev acz:bF:=[(293,N7)]
theorem OX:bb af (bz aD acz):=bC ⟨aai,⟨⟩⟩
abbrev wM:Shape:=⟨[bw 0,ak 5,ak 6],[],17⟩
abbrev BT:List bd:=[(.ret,⟨[aZ 2],[],17⟩),(.exit 0,⟨[bw 0],[],17⟩)]
noncomputable def xm(y:wM.H):cI wM BT:=
 bif(decide (y.1.2.2.1<y.1.2.1)) then
(bl y.1.1 y.1.2.2.1).bind fun a=>
(f293 (((a.toNat:Int),()),())).bind fun b=>
 bif(!b.1.1) then
 some (.inr (.inl ((false,()),())))
else
 some (.inl ((y.1.1,y.1.2.1,(IntKind.i64.wrap (y.1.2.2.1+(1:Int))),()),()))
else
 some (.inr (.inr ((y.1.1,()),())))
noncomputable def Cm:wM.H->Option (aW BT):=bP xm
theorem X5:br af (aF (codeOf Tryz.f267) 1 26) (bB wM BT Cm):=cK OX (by kernel_rfl) aA fun y=>by kernel_rfl
abbrev i267:Shape:=⟨[bw 0],[],17⟩
abbrev MK:Shape:=⟨[aZ 2],[],17⟩
noncomputable def f267(a:i267.H):Option MK.H:=
(Cm ((a.1.1,(a.1.1.length:Int),(0:Int),()),())).bind fun b=>
(match b with
|.inl c=>
 some ((c.1.1,()),())
|.inr d=>
 some (((!(d.1.1==([]:al))),()),()))
noncomputable def N':a4:=bi aD Tryz.f267 i267 MK [] f267
theorem aam:a6 af 267 N':=bk OX Tryz.func267 (by kernel_rfl) (bJ X5 aA) (fun y=>by kernel_rfl) fun a=>by kernel_rfl
noncomputable abbrev acG:bF:=[(267,N')]
theorem adf:bb af (bz aD acG):=bC ⟨aam,⟨⟩⟩
abbrev i228:Shape:=⟨[bw 0],[],18⟩
abbrev MT:Shape:=⟨[aZ 2],[],18⟩
noncomputable def f228(a:i228.H):Option MT.H:=
 bif(decide ((a.1.1.length:Int)<=(10:Int))) then
 bif(!(a.1.1==([46]:al))) then
 bif(!(a.1.1==([46,46]:al))) then
(f267 ((a.1.1,()),())).bind fun b=>
 some ((b.1.1,()),())
else
 some ((false,()),())
else
 some ((false,()),())
else
 some ((false,()),())
noncomputable def Oi:a4:=bi aD Tryz.f228 i228 MT [] f228
theorem aav:a6 af 228 Oi:=bk adf Tryz.func228 (by kernel_rfl) aA (fun y=>by kernel_rfl) fun a=>by kernel_rfl
noncomputable abbrev acN:bF:=[(228,Oi)]
theorem E3:bb af (bz aD acN):=bC ⟨aav,⟨⟩⟩
abbrev Jv:Shape:=⟨[c5 2 2 0,c5 3 3 0,bw 4],[c4 2 [hK],c4 3 [cH]],17⟩
abbrev Ji:List bd:=[(.norm,⟨[c5 2 2 0,c5 3 3 0,aZ 16],[c4 2 [hK],c4 3 [cH]],17⟩)]
noncomputable def BE(y:Jv.H):Option (aW Ji):=
 bif(!(decide (y.2.2.1.1>(5:Int)))) then
(f228 ((y.1.2.2.1,()),())).bind fun a=>
 some (((),(),(!a.1.1),()),(y.2.1.1,()),(y.2.2.1.1,()),())
else
 some (((),(),true,()),(y.2.1.1,()),(y.2.2.1.1,()),())
theorem W4:br af (aF (jd (aF (codeOf Tryz.f193) 1 58)) 117 938) (bB Jv Ji BE):=ep E3 (by kernel_rfl) aA fun y=>by kernel_rfl
abbrev wU:Shape:=⟨[c5 2 2 0,c5 3 3 0],[c4 2 [hK],c4 3 [cH]],17⟩
abbrev B0:List bd:=[(.norm,⟨[c5 2 2 0],[c4 2 [hK]],17⟩),(.ret,⟨[c5 2 2 0],[c4 2 [hK]],17⟩)]
noncomputable def qD(x:al)(y:wU.H):cI wU B0:=
(BE (((),(),x,()),(y.2.1.1,()),((IntKind.i64.wrap (y.2.2.1.1+(1:Int))),()),())).bind fun a=>
 bif a.1.2.2.1 then
 some (.inr (.inr (((),()),(false,()),())))
else
 some (.inl (((),(),()),(a.2.1.1,()),(a.2.2.1.1,()),()))
noncomputable def tc(y:wU.H):Option (aW B0):=
 some (.inl (((),()),(y.2.1.1,()),()))
theorem Yd:br af (aF (codeOf Tryz.f193) 1 58) (qo 257 6 wU B0 qD tc):=HH (ev:=7) E3 L2 (by kernel_rfl) (bJ W4 aA) (by kernel_rfl) (fun x y=>by kernel_rfl) fun y=>by kernel_rfl
abbrev i193:Shape:=⟨[bw 0],[],17⟩
abbrev M1:Shape:=⟨[c5 2 2 0],[c4 2 [hK]],17⟩
noncomputable def f193(a:i193.H):Option M1.H:=
(bif Nat.ble a.1.1.length jP then hy qD tc (cF (47:UInt8) a.1.1) (((),(),()),(false,()),((0:Int),()),()) else none).bind fun b=>
(match b with
|.inl c=>
 some (((),()),(true,()),())
|.inr d=>
 some (((),()),(d.2.1.1,()),()))
noncomputable def EQ:a4:=bi aD Tryz.f193 i193 M1 [] f193
theorem Mq:a6 af 193 EQ:=bk E3 Tryz.func193 (by kernel_rfl) (bJ Yd aA) (fun y=>by kernel_rfl) fun a=>by kernel_rfl
abbrev i229:Shape:=⟨[(0,.ah (.d (.int .u8)))],[],9⟩
abbrev MS:Shape:=⟨[aZ 2],[],9⟩
noncomputable def f229(a:i229.H):Option MS.H:=
 bif(decide (a.1.1>=(32:Int))) then
 some (((decide (a.1.1<=(126:Int))),()),())
else
 some ((false,()),())
noncomputable def Oh:a4:=bi aD Tryz.f229 i229 MS [] f229
theorem aau:a6 af 229 Oh:=bk g0 Tryz.func229 (by kernel_rfl) aA (fun y=>by kernel_rfl) fun a=>by kernel_rfl
noncomputable abbrev acM:bF:=[(229,Oh)]
theorem E2:bb af (bz aD acM):=bC ⟨aau,⟨⟩⟩
abbrev IC:Shape:=⟨[bw 0,ak 3,ak 8,ak 9],[],24⟩
abbrev Is:List bd:=[(.norm,⟨[bw 0,ak 8,ak 9,aZ 22],[],24⟩)]
noncomputable def A3(y:IC.H):Option (aW Is):=
(bl y.1.1 y.1.2.1).bind fun a=>
(f229 (((a.toNat:Int),()),())).bind fun b=>
 bif(!b.1.1) then
(bl y.1.1 y.1.2.1).bind fun c=>
 some ((y.1.1,y.1.2.2.1,y.1.2.2.2.1,((c.toNat:Int) !=(10:Int)),()),())
else
 some ((y.1.1,y.1.2.2.1,y.1.2.2.2.1,false,()),())
theorem Vv:br af (aF (dq (aF (codeOf Tryz.f194) 1 58)) 116 7474) (bB IC Is A3):=ep E2 (by kernel_rfl) aA fun y=>by kernel_rfl
abbrev wT:Shape:=⟨[bw 0,ak 8,ak 9],[],24⟩
abbrev BZ:List bd:=[(.ret,⟨[aZ 2],[],24⟩),(.exit 0,⟨[],[],24⟩)]
noncomputable def xt(y:wT.H):cI wT BZ:=
 bif(decide (y.1.2.2.1<y.1.2.1)) then
(A3 ((y.1.1,y.1.2.2.1,y.1.2.1,y.1.2.2.1,()),())).bind fun a=>
 bif a.1.2.2.2.1 then
 some (.inr (.inl ((false,()),())))
else
 some (.inl ((a.1.1,a.1.2.1,(IntKind.i64.wrap (a.1.2.2.1+(1:Int))),()),()))
else
 some (.inr (.inr ((),())))
noncomputable def Cs:wT.H->Option (aW BZ):=bP xt
theorem Yc:br af (aF (codeOf Tryz.f194) 1 58) (bB wT BZ Cs):=cK E2 (by kernel_rfl) (bJ Vv aA) fun y=>by kernel_rfl
abbrev i194:Shape:=⟨[bw 0],[],24⟩
abbrev M0:Shape:=⟨[aZ 2],[],24⟩
noncomputable def f194(a:i194.H):Option M0.H:=
 bif(decide ((a.1.1.length:Int)>(80:Int))) then
 some ((false,()),())
else
(Cs ((a.1.1,(a.1.1.length:Int),(0:Int),()),())).bind fun b=>
(match b with
|.inl c=>
 some ((c.1.1,()),())
|.inr d=>
 some ((true,()),()))
noncomputable def Ot:a4:=bi aD Tryz.f194 i194 M0 [] f194
theorem aaD:a6 af 194 Ot:=bk E2 Tryz.func194 (by kernel_rfl) (bJ Yc aA) (fun y=>by kernel_rfl) fun a=>by kernel_rfl
noncomputable abbrev acZ:bF:=[(193,EQ),(194,Ot)]
theorem O4:bb af (bz aD acZ):=bC ⟨Mq,aaD,⟨⟩⟩
abbrev J9:Shape:=⟨[c5 1 1 0],[c4 1 [bG,cH,cH,bG]],39⟩
abbrev J1:List bd:=[(.norm,⟨[c5 1 1 0,aZ 16],[c4 1 [bG,cH,cH,bG]],39⟩)]
noncomputable def CI(y:J9.H):Option (aW J1):=
(f193 ((y.2.1.1,()),())).bind fun a=>
 bif(!(!a.2.1.1)) then
 bif(!(decide (y.2.1.2.2.1<(0:Int)))) then
 some (((),(decide (y.2.1.2.2.1>(7:Int))),()),(y.2.1.1,y.2.1.2.1,y.2.1.2.2.1,y.2.1.2.2.2.1,()),())
else
 some (((),true,()),(y.2.1.1,y.2.1.2.1,y.2.1.2.2.1,y.2.1.2.2.2.1,()),())
else
 some (((),true,()),(y.2.1.1,y.2.1.2.1,y.2.1.2.2.1,y.2.1.2.2.2.1,()),())
theorem Yo:br af (aF (codeOf Tryz.f136) 1 12) (bB J9 J1 CI):=ep O4 (by kernel_rfl) aA fun y=>by kernel_rfl
abbrev i136:Shape:=⟨[dw 0 [bG,cH,cH,bG]],[],39⟩
abbrev Ng:Shape:=⟨[aZ 2],[],39⟩
noncomputable def f136(a:i136.H):Option Ng.H:=
(CI (((),()),(a.1.1.1,a.1.1.2.1,a.1.1.2.2.1,a.1.1.2.2.2.1,()),())).bind fun b=>
 bif b.1.2.1 then
 some ((false,()),())
else
 bif(b.2.1.2.1==(1:Int)) then
 some (((b.2.1.2.2.2.1==([]:al)),()),())
else
 bif(b.2.1.2.1==(2:Int)) then
(f194 ((b.2.1.2.2.2.1,()),())).bind fun c=>
 some ((c.1.1,()),())
else
 bif(b.2.1.2.1==(3:Int)) then
 bif(b.2.1.2.2.1==(0:Int)) then
(f193 ((b.2.1.2.2.2.1,()),())).bind fun d=>
 some ((d.2.1.1,()),())
else
 some ((false,()),())
else
 some ((false,()),())
noncomputable def OI:a4:=bi aD Tryz.f136 i136 Ng [] f136
theorem aaS:a6 af 136 OI:=bk O4 Tryz.func136 (by kernel_rfl) (bJ Yo aA) (fun y=>by kernel_rfl) fun a=>by kernel_rfl
abbrev i304:Shape:=⟨[(0,.ah (.d (.int .u8)))],[],29⟩
abbrev MF:Shape:=⟨[aZ 2],[],29⟩
noncomputable def f304(a:i304.H):Option MF.H:=
 bif(decide (a.1.1>=(97:Int))) then
 bif(!(decide (a.1.1<=(122:Int)))) then
 bif(decide (a.1.1>=(48:Int))) then
 bif(!(decide (a.1.1<=(57:Int)))) then
 bif(!(a.1.1==(46:Int))) then
 bif(!(a.1.1==(95:Int))) then
 some (((a.1.1==(45:Int)),()),())
else
 some ((true,()),())
else
 some ((true,()),())
else
 some ((true,()),())
else
 bif(!(a.1.1==(46:Int))) then
 bif(!(a.1.1==(95:Int))) then
 some (((a.1.1==(45:Int)),()),())
else
 some ((true,()),())
else
 some ((true,()),())
else
 some ((true,()),())
else
 bif(decide (a.1.1>=(48:Int))) then
 bif(!(decide (a.1.1<=(57:Int)))) then
 bif(!(a.1.1==(46:Int))) then
 bif(!(a.1.1==(95:Int))) then
 some (((a.1.1==(45:Int)),()),())
else
 some ((true,()),())
else
 some ((true,()),())
else
 some ((true,()),())
else
 bif(!(a.1.1==(46:Int))) then
 bif(!(a.1.1==(95:Int))) then
 some (((a.1.1==(45:Int)),()),())
else
 some ((true,()),())
else
 some ((true,()),())
noncomputable def N6:a4:=bi aD Tryz.f304 i304 MF [] f304
theorem aah:a6 af 304 N6:=bk g0 Tryz.func304 (by kernel_rfl) aA (fun y=>by kernel_rfl) fun a=>by kernel_rfl
noncomputable abbrev acx:bF:=[(91,pN),(304,N6)]
theorem OW:bb af (bz aD acx):=bC ⟨rT,aah,⟨⟩⟩
abbrev wK:Shape:=⟨[bw 0,ak 3],[],26⟩
abbrev BR:List bd:=[(.ret,⟨[aZ 2],[],26⟩),(.exit 0,⟨[bw 0],[],26⟩)]
noncomputable def xl(y:wK.H):cI wK BR:=
 bif(decide (y.1.2.1<(y.1.1.length:Int))) then
(bl y.1.1 y.1.2.1).bind fun a=>
(f304 (((a.toNat:Int),()),())).bind fun b=>
 bif(!b.1.1) then
 some (.inr (.inl ((false,()),())))
else
 some (.inl ((y.1.1,(IntKind.i64.wrap (y.1.2.1+(1:Int))),()),()))
else
 some (.inr (.inr ((y.1.1,()),())))
noncomputable def Ck:wK.H->Option (aW BR):=bP xl
theorem X3:br af (aF (codeOf Tryz.f285) 1 26) (bB wK BR Ck):=cK OW (by kernel_rfl) aA fun y=>by kernel_rfl
abbrev i285:Shape:=⟨[bw 0],[],26⟩
abbrev MH:Shape:=⟨[aZ 2],[],26⟩
noncomputable def f285(a:i285.H):Option MH.H:=
(Ck ((a.1.1,(0:Int),()),())).bind fun b=>
(match b with
|.inl c=>
 some ((c.1.1,()),())
|.inr d=>
(f91 (((d.1.1.length:Int),(1:Int),(10:Int),()),())).bind fun e=>
 bif e.1.1 then
 bif(!(d.1.1==([46]:al))) then
 some (((!(d.1.1==([46,46]:al))),()),())
else
 some ((false,()),())
else
 some ((false,()),()))
noncomputable def N8:a4:=bi aD Tryz.f285 i285 MH [] f285
theorem aaj:a6 af 285 N8:=bk OW Tryz.func285 (by kernel_rfl) (bJ X3 aA) (fun y=>by kernel_rfl) fun a=>by kernel_rfl
noncomputable abbrev acB:bF:=[(89,Gg),(285,N8)]
theorem OY:bb af (bz aD acB):=bC ⟨O_,aaj,⟨⟩⟩
abbrev wO:Shape:=⟨[b6 3 3000192,ak 4],[cl 3000192 .str 3 0],25⟩
abbrev BV:List bd:=[(.ret,⟨[aZ 2],[],25⟩),(.exit 0,⟨[b6 3 3000192],[cl 3000192 .str 3 0],25⟩)]
noncomputable def xo(y:wO.H):cI wO BV:=
 bif(decide (y.1.2.1<(y.2.1.length:Int))) then
(e8 y.2.1.length y.1.2.1).bind fun a=>
(y.2.1[a]?).bind fun b=>
(f285 ((b,()),())).bind fun c=>
 bif(!c.1.1) then
 some (.inr (.inl ((false,()),())))
else
 some (.inl (((),(IntKind.i64.wrap (y.1.2.1+(1:Int))),()),y.2.1,()))
else
 some (.inr (.inr (((),()),y.2.1,())))
noncomputable def Co:wO.H->Option (aW BV):=bP xo
theorem X7:br af (aF (codeOf Tryz.f252) 1 58) (bB wO BV Co):=cK OY (by kernel_rfl) aA fun y=>by kernel_rfl
abbrev i252:Shape:=⟨[bw 0],[],25⟩
abbrev MN:Shape:=⟨[aZ 2],[],25⟩
noncomputable def f252(a:i252.H):Option MN.H:=
(f89 ((a.1.1,(47:Int),(IntKind.i64.wrap ((a.1.1.length:Int)+(1:Int))),()),())).bind fun b=>
(Co (((),(0:Int),()),b.2.1,())).bind fun c=>
(match c with
|.inl d=>
 some ((d.1.1,()),())
|.inr e=>
 some (((decide ((e.2.1.length:Int)<=(5:Int))),()),()))
noncomputable def Oc:a4:=bi aD Tryz.f252 i252 MN [] f252
theorem aap:a6 af 252 Oc:=bk OY Tryz.func252 (by kernel_rfl) (bJ X7 aA) (fun y=>by kernel_rfl) fun a=>by kernel_rfl
noncomputable abbrev acA:bF:=[(91,pN)]
theorem E1:bb af (bz aD acA):=bC ⟨rT,⟨⟩⟩
abbrev Ju:Shape:=⟨[bw 0,ak 3],[],25⟩
abbrev Jh:List bd:=[(.norm,⟨[bw 0,ak 3,aZ 21],[],25⟩)]
noncomputable def BD(y:Ju.H):Option (aW Jh):=
(bl y.1.1 y.1.2.1).bind fun a=>
 bif((a.toNat:Int) !=(10:Int)) then
(bl y.1.1 y.1.2.1).bind fun b=>
(f91 (((IntKind.i64.wrap (b.toNat:Int)),(32:Int),(126:Int),()),())).bind fun c=>
 some ((y.1.1,y.1.2.1,(!c.1.1),()),())
else
 some ((y.1.1,y.1.2.1,false,()),())
theorem W3:br af (aF (dq (aF (codeOf Tryz.f253) 1 26)) 52 840) (bB Ju Jh BD):=ep E1 (by kernel_rfl) aA fun y=>by kernel_rfl
abbrev wN:Shape:=⟨[bw 0,ak 3],[],25⟩
abbrev BU:List bd:=[(.ret,⟨[aZ 2],[],25⟩),(.exit 0,⟨[bw 0],[],25⟩)]
noncomputable def xn(y:wN.H):cI wN BU:=
 bif(decide (y.1.2.1<(y.1.1.length:Int))) then
(BD ((y.1.1,y.1.2.1,()),())).bind fun a=>
 bif a.1.2.2.1 then
 some (.inr (.inl ((false,()),())))
else
 some (.inl ((a.1.1,(IntKind.i64.wrap (a.1.2.1+(1:Int))),()),()))
else
 some (.inr (.inr ((y.1.1,()),())))
noncomputable def Cn:wN.H->Option (aW BU):=bP xn
theorem X6:br af (aF (codeOf Tryz.f253) 1 26) (bB wN BU Cn):=cK E1 (by kernel_rfl) (bJ W3 aA) fun y=>by kernel_rfl
abbrev i253:Shape:=⟨[bw 0],[],25⟩
abbrev MM:Shape:=⟨[aZ 2],[],25⟩
noncomputable def f253(a:i253.H):Option MM.H:=
(Cn ((a.1.1,(0:Int),()),())).bind fun b=>
(match b with
|.inl c=>
 some ((c.1.1,()),())
|.inr d=>
 some (((decide ((d.1.1.length:Int)<=(80:Int))),()),()))
noncomputable def Ob:a4:=bi aD Tryz.f253 i253 MM [] f253
theorem aao:a6 af 253 Ob:=bk E1 Tryz.func253 (by kernel_rfl) (bJ X6 aA) (fun y=>by kernel_rfl) fun a=>by kernel_rfl
noncomputable abbrev acK:bF:=[(91,pN),(252,Oc),(253,Ob)]
theorem adi:bb af (bz aD acK):=bC ⟨rT,aap,aao,⟨⟩⟩
abbrev i210:Shape:=⟨[dw 0 [bG,cH,cH,bG]],[],42⟩
abbrev MY:Shape:=⟨[aZ 2],[],42⟩
noncomputable def f210(a:i210.H):Option MY.H:=
(f252 ((a.1.1.1,()),())).bind fun b=>
 bif(!b.1.1) then
 some ((false,()),())
else
 bif(a.1.1.2.1==(1:Int)) then
(f91 ((a.1.1.2.2.1,(0:Int),(7:Int),()),())).bind fun c=>
 bif c.1.1 then
 some (((a.1.1.2.2.2.1==([]:al)),()),())
else
 some ((false,()),())
else
 bif(a.1.1.2.1==(2:Int)) then
(f91 ((a.1.1.2.2.1,(0:Int),(7:Int),()),())).bind fun d=>
 bif d.1.1 then
(f253 ((a.1.1.2.2.2.1,()),())).bind fun e=>
 some ((e.1.1,()),())
else
 some ((false,()),())
else
 bif(a.1.1.2.1==(3:Int)) then
 bif(a.1.1.2.2.1==(0:Int)) then
(f252 ((a.1.1.2.2.2.1,()),())).bind fun f=>
 some ((f.1.1,()),())
else
 some ((false,()),())
else
 some ((false,()),())
noncomputable def Oo:a4:=bi aD Tryz.f210 i210 MY [] f210
theorem aaB:a6 af 210 Oo:=bk adi Tryz.func210 (by kernel_rfl) aA (fun y=>by kernel_rfl) fun a=>by kernel_rfl
def jL(n:Int):Bool:=(decide (97<=n)&&decide (n<=122))||(decide (48<=n)&&decide (n<=57))||n==46||n==95||n==45
theorem U2(a):f304 a=some ((jL a.1.1,()),()):=by
 obtain⟨⟨n,u⟩,bA⟩:=a;simp only[f304,jL,ge_iff_le];generalize decide ((97:Int)<=n)=aS;generalize decide (n<=(122:Int))=aG;generalize decide ((48:Int)<=n)=bL;generalize decide (n<=(57:Int))=kg;generalize(n==(46:Int))=vz;generalize(n==(95:Int))=GW;generalize(n==(45:Int))=GV;cases aS<;>cases aG<;>cases bL<;>cases kg<;>cases vz<;>cases GW<;>cases GV<;>rfl
theorem TS(a):f293 a=some ((jL a.1.1,()),()):=by
 obtain⟨⟨n,u⟩,bA⟩:=a;simp only[f293,jL,ge_iff_le];generalize decide ((97:Int)<=n)=aS;generalize decide (n<=(122:Int))=aG;generalize decide ((48:Int)<=n)=bL;generalize decide (n<=(57:Int))=kg;generalize(n==(46:Int))=vz;generalize(n==(95:Int))=GW;generalize(n==(45:Int))=GV;cases aS<;>cases aG<;>cases bL<;>cases kg<;>cases vz<;>cases GW<;>cases GV<;>rfl
def jW(s:al):Bool:=s.all (fun b=>jL b.toNat)&&within s.length 1 10&&!(s==[46])&&!(s==[46,46])
theorem Wt(a)(M:cj a.1.1.length):f285 a=some ((jW a.1.1,()),()):=by
 obtain⟨⟨s,u⟩,bA⟩:=a;have M:s.length<=2097152:=M;have key:Ck ((s,((0:Int),())),())=some (bif allI (fun _ b=>jL b.toNat) 0 s then .inr ((s,()),()) else .inl ((false,()),())):=by
  refine fK xl s (fun i=>((s,((i:Int),())),())) _ _ _ (fun i x hx=>?_) ?_
  ·have hi:=cy hx;have hw:aJ i:=by unfold aJ;omega
   simp only[xl,cx hi,cond_true,b_,hx,Option.bind_some,U2,ch hw];cases jL x.toNat<;>rfl
  ·simp only[xl,c7,cond_false]
 rw[gL] at key;simp only[f285,key,Option.bind_some,jW];cases List.all s (fun b=>jL b.toNat) with
 |false=>rfl
 |true=>
  simp only[cond_true,qL,Option.bind_some,Bool.true_and];cases within (s.length:Int) 1 10<;>cases (s==[46])<;>rfl
theorem Wn(a)(M:cj a.1.1.length):f228 a=some ((jW a.1.1,()),()):=by
 obtain⟨⟨s,u⟩,bA⟩:=a;have M:s.length<=2097152:=M;have key:Cm ((s,((s.length:Int),((0:Int),()))),())=some (bif allI (fun _ b=>jL b.toNat) 0 s then .inr ((s,()),()) else .inl ((false,()),())):=by
  refine fK xm s (fun i=>((s,((s.length:Int),((i:Int),()))),())) _ _ _ (fun i x hx=>?_) ?_
  ·have hi:=cy hx;have hw:aJ i:=by unfold aJ;omega
   simp only[xm,cx hi,cond_true,b_,hx,Option.bind_some,TS,ch hw];cases jL x.toNat<;>rfl
  ·simp only[xm,c7,cond_false]
 rw[gL] at key;have uS:f267 ((s,()),())=some ((List.all s (fun b=>jL b.toNat)&&!(s==([]:al)),()),()):=by
  simp only[f267,key,Option.bind_some];cases List.all s (fun b=>jL b.toNat)<;>rfl
 have h1:decide ((1:Int)<=(s.length:Int))=!(s==([]:al)):=by
  cases s with
  |nil=>rfl
  |cons b r=>
   have:((b::r)==([]:al))=false:=rfl;simp only[List.length_cons];rw[this];simp only[Bool.not_false,decide_eq_true_eq];omega
 simp only[f228,uS,Option.bind_some,jW,within,h1];cases decide ((s.length:Int)<=10)<;>cases (s==[46])<;>cases (s==[46,46])<;>cases List.all s (fun b=>jL b.toNat)<;>cases (s==([]:al))<;>rfl
def ia(s:al):Bool:=(cF 47 s).all jW&&decide ((cF 47 s).length<=5)
theorem I9(a)(M:cj a.1.1.length):f252 a=some ((ia a.1.1,()),()):=by
 obtain⟨⟨s,u⟩,bA⟩:=a;have M:s.length<=2097152:=M;have hlen:=vL 47 s;have iM:f89 ((s,((47:Int),((IntKind.i64.wrap ((s.length:Int)+(1:Int))),()))),())=some (((),()),(cF 47 s,())):=
  JT 47 _ M rfl (ch (by unfold aJ;omega))
 have key:Co (((),((0:Int),())),(cF 47 s,()))=some (bif allI (fun _ x=>jW x) 0 (cF 47 s) then .inr (((),()),(cF 47 s,())) else .inl ((false,()),())):=by
  refine fK xo (cF 47 s) (fun i=>(((),((i:Int),())),(cF 47 s,()))) _ _ _ (fun i x hx=>?_) ?_
  ·have hi:=cy hx;have hw:aJ i:=by unfold aJ;omega
   have uD:x.length<=s.length:=vK 47 s x (List.mem_of_getElem? hx);simp only[xo,cx hi,cond_true,l1 hi,hx,Option.bind_some];rw[Wt _ (show x.length<=2097152 by omega)]
   simp only[Option.bind_some,ch hw];cases jW x<;>rfl
  ·simp only[xo,c7,cond_false]
 rw[gL] at key;simp only[f252,iM,Option.bind_some,key,ia];cases List.all (cF 47 s) jW with
 |false=>rfl
 |true=>have:=yW (cF 47 s).length 5;simp only[cond_true,Bool.true_and];rw[<-this];rfl
theorem Bd(a)(M:cj a.1.1.length):f193 a=some (((),()),((ia a.1.1,()),())):=by
 obtain⟨⟨s,u⟩,bA⟩:=a;have M:s.length<=2097152:=M;have EA:Nat.ble s.length jP=true:=Nat.ble_eq_true_of_le (by unfold jP;omega)
 have fold:∀(r:List al) (k:Nat),(∀x,x∈r->x.length<=s.length)->k<=5->
   hy qD tc r (((),((),())),((false,()),(((k:Int),()),())))=
    some (bif r.all jW&&decide (k+r.length<=5) then(.inl (((),()),((false,()),()))) else(.inr (((),()),((false,()),())))):=by
  intro r;induction r with
  |nil=>
   intro k _ ag;have:decide (k+0<=5)=true:=by simpa using ag
   simp only[hy,tc,List.all_nil,List.length_nil,this,Bool.and_self,cond_true]
  |cons x r ih=>
   intro k hr ag;have hx:=hr x List.mem_cons_self;have hD:=Wn ((x,()),()) (show x.length<=2097152 by omega)
   have hw:=ch (i:=k) (by unfold aJ;omega)
   have uT:decide (((k+1:Nat):Int)>5)=!decide (k+1<=5):=by by_cases h:k+1<=5<;>simp only[h,decide_true,decide_false,Bool.not_true,Bool.not_false,decide_eq_true_eq,decide_eq_false_iff_not]<;>omega
   have step:qD x (((),((),())),((false,()),(((k:Int),()),())))=
     some (bif jW x&&decide (k+1<=5) then .inl (((),((),())),((false,()),((((k+1:Nat):Int),()),()))) else .inr (.inr (((),()),((false,()),())))):=by
    simp only[qD,BE,hw,uT,Bool.not_not,hD,Option.bind_some];cases decide (k+1<=5) with
    |false=>cases jW x<;>rfl
    |true=>cases jW x<;>rfl
   rw[hy,step,List.all_cons];cases hn:jW x with
   |false=>rfl
   |true=>
    simp only[Bool.true_and];cases aL:decide (k+1<=5) with
    |false=>
     have:decide (k+(x::r).length<=5)=false:=by simp only[decide_eq_false_iff_not,List.length_cons] at aL ⊢;omega
     rw[this];simp
    |true=>
     simp only[cond_true];rw[ih (k+1) (fun y ai=>hr y (List.mem_cons_of_mem _ ai)) (by simpa using aL)]
     have e1:k+1+r.length=k+(x::r).length:=by simp only[List.length_cons];omega
     rw[e1]
 have key:=fold (cF (47:UInt8) s) 0 (fun x hx=>vK 47 s x hx) (Nat.zero_le _)
 have Ei:hy qD tc (cF (47:UInt8) s) (((),((),())),((false,()),(((0:Int),()),())))=some (bif ia s then(.inl (((),()),((false,()),()))) else(.inr (((),()),((false,()),())))):=by
  refine key.trans ?_
  unfold ia;rw[Nat.zero_add]
 simp only[f193,EA,cond_true,Ei,Option.bind_some];cases ia s<;>rfl
def tk(s:al):Bool:=s.all (fun b=>(b.toNat:Int)==10||within b.toNat 32 126)&&decide (s.length<=80)
theorem UO(b:UInt8):IntKind.i64.wrap (b.toNat:Int)=(b.toNat:Int):=by
 have:=b.toNat_lt;rw[e4 (by omega) (by omega)]
theorem Wr(a)(M:cj a.1.1.length):f253 a=some ((tk a.1.1,()),()):=by
 obtain⟨⟨s,u⟩,bA⟩:=a;have M:s.length<=2097152:=M;have key:Cn ((s,((0:Int),())),())=some (bif allI (fun _ b=>(b.toNat:Int)==10||within b.toNat 32 126) 0 s then .inr ((s,()),()) else .inl ((false,()),())):=by
  refine fK xn s (fun i=>((s,((i:Int),())),())) _ _ _ (fun i x hx=>?_) ?_
  ·have hi:=cy hx;have hw:aJ i:=by unfold aJ;omega
   have hne:((x.toNat:Int) !=10)=!((x.toNat:Int)==10):=rfl;simp only[xn,cx hi,cond_true,BD,b_,hx,Option.bind_some,hne,qL,UO];cases ((x.toNat:Int)==10)<;>cases within (x.toNat:Int) 32 126<;>simp only[Bool.not_true,Bool.not_false,cond_true,cond_false,Option.bind_some,ch hw,Bool.or_true,Bool.true_or,Bool.or_false]
  ·simp only[xn,c7,cond_false]
 rw[gL] at key;simp only[f253,key,Option.bind_some,tk];cases List.all s (fun b=>(b.toNat:Int)==10||within b.toNat 32 126) with
 |false=>rfl
 |true=>have:=yW s.length 80;simp only[cond_true,Bool.true_and];rw[<-this];rfl
theorem S8(a):f229 a=some ((within a.1.1 32 126,()),()):=by
 simp only[f229,within,ge_iff_le];cases decide ((32:Int)<=a.1.1)<;>rfl
theorem TU(a)(M:cj a.1.1.length):f194 a=some ((tk a.1.1,()),()):=by
 obtain⟨⟨s,u⟩,bA⟩:=a;have M:s.length<=2097152:=M;have key:Cs ((s,((s.length:Int),((0:Int),()))),())=some (bif allI (fun _ b=>(b.toNat:Int)==10||within b.toNat 32 126) 0 s then .inr ((),()) else .inl ((false,()),())):=by
  refine fK xt s (fun i=>((s,((s.length:Int),((i:Int),()))),())) _ _ _ (fun i x hx=>?_) ?_
  ·have hi:=cy hx;have hw:aJ i:=by unfold aJ;omega
   have hne:((x.toNat:Int) !=10)=!((x.toNat:Int)==10):=rfl;simp only[xt,cx hi,cond_true,A3,b_,hx,Option.bind_some,hne,S8];cases ((x.toNat:Int)==10)<;>cases within (x.toNat:Int) 32 126<;>simp only[Bool.not_true,Bool.not_false,cond_true,cond_false,Option.bind_some,ch hw,Bool.or_true,Bool.true_or,Bool.or_false]
  ·simp only[xt,c7,cond_false]
 rw[gL] at key;have af5:decide ((s.length:Int)>80)=!decide (s.length<=80):=by by_cases h:s.length<=80<;>simp only[h,decide_true,decide_false,Bool.not_true,Bool.not_false,decide_eq_true_eq,decide_eq_false_iff_not]<;>omega
 simp only[f194,key,Option.bind_some,tk,af5];cases decide (s.length<=80)<;>cases List.all s (fun b=>(b.toNat:Int)==10||within b.toNat 32 126)<;>rfl
def n3(e:aX):Bool:=ia e.path&&(bif e.kind==1 then within e.mode 0 7&&e.text==[] else bif e.kind==2 then within e.mode 0 7&&tk e.text else bif e.kind==3 then e.mode==0&&ia e.text else false)
abbrev mx(e:aX):Prop:=cj e.path.length/\cj e.text.length
theorem U1(a)(h1:cj a.1.1.1.length)(h2:cj a.1.1.2.2.2.1.length):f210 a=some ((n3 ⟨a.1.1.1,a.1.1.2.1,a.1.1.2.2.1,a.1.1.2.2.2.1⟩,()),()):=by
 obtain⟨⟨⟨p,k,m,t,u⟩,bA⟩,hU⟩:=a;have e1:=I9 ((p,()),()) h1;have e2:=I9 ((t,()),()) h2;have bK:=Wr ((t,()),()) h2;simp only[f210,e1,e2,bK,qL,Option.bind_some,n3];cases ia p with
 |false=>rfl
 |true=>cases (k==1)<;>cases (k==2)<;>cases (k==3)<;>cases within m 0 7<;>cases (m==0)<;>rfl
theorem U8(a)(h1:cj a.1.1.1.length)(h2:cj a.1.1.2.2.2.1.length):f136 a=some ((n3 ⟨a.1.1.1,a.1.1.2.1,a.1.1.2.2.1,a.1.1.2.2.2.1⟩,()),()):=by
 obtain⟨⟨⟨p,k,m,t,u⟩,bA⟩,hU⟩:=a;have e1:=Bd ((p,()),()) h1;have e2:=Bd ((t,()),()) h2;have bK:=TU ((t,()),()) h2;have hm:within m 0 7=true\/(m==0)=false:=by
  cases h:(m==0) with
  |false=>exact .inr rfl
  |true=>left;rw[show m=(0:Int) from eq_of_beq h];rfl
 simp only[f136,CI,e1,e2,bK,Option.bind_some,n3,oA,oB,Bool.not_not];unfold within at hm ⊢;cases ia p with
 |false=>rfl
 |true=>
  cases aQ:decide ((0:Int)<=m)<;>cases ix:decide (m<=7)<;>rw[aQ,ix] at hm<;>cases Qx:(m==0)<;>rw[Qx] at hm<;>
   first|(simp at hm;done)|(simp only[Bool.not_true,Bool.not_false,cond_true,cond_false,Option.bind_some,Qx,e2,bK,Bool.and_true,Bool.and_false,Bool.true_and,Bool.false_and];cases (k==1)<;>cases (k==2)<;>cases (k==3)<;>rfl)
abbrev i175:Shape:=⟨[bw 0],[],6⟩
abbrev M5:Shape:=⟨[aZ 2],[],6⟩
noncomputable def f175(a:i175.H):Option M5.H:=
 some (((!(a.1.1==a.1.1)),()),())
noncomputable def Oz:a4:=bi aD Tryz.f175 i175 M5 [] f175
theorem aaJ:a6 af 175 Oz:=bk g0 Tryz.func175 (by kernel_rfl) aA (fun y=>by kernel_rfl) fun a=>by kernel_rfl
noncomputable abbrev ac7:bF:=[(175,Oz)]
theorem adr:bb af (bz aD ac7):=bC ⟨aaJ,⟨⟩⟩
abbrev i110:Shape:=⟨[bw 0,bw 1],[],20⟩
abbrev Nv:Shape:=⟨[ak 4],[],20⟩
noncomputable def f110(a:i110.H):Option Nv.H:=
(f175 ((a.1.1,()),())).bind fun b=>
(f175 ((a.1.2.1,()),())).bind fun c=>
 bif b.1.1 then
 bif c.1.1 then
 some (((0:Int),()),())
else
 some ((((-1):Int),()),())
else
 bif c.1.1 then
 some (((1:Int),()),())
else
 bif(Op.bytesLess a.1.1 a.1.2.1) then
 some ((((-1):Int),()),())
else
 bif(!(Op.bytesLess a.1.1 a.1.2.1||a.1.1==a.1.2.1)) then
 some (((1:Int),()),())
else
 some (((0:Int),()),())
noncomputable def OT:a4:=bi aD Tryz.f110 i110 Nv [] f110
theorem aa3:a6 af 110 OT:=bk adr Tryz.func110 (by kernel_rfl) aA (fun y=>by kernel_rfl) fun a=>by kernel_rfl
noncomputable abbrev acX:bF:=[(110,OT)]
theorem adn:bb af (bz aD acX):=bC ⟨aa3,⟨⟩⟩
abbrev i139:Shape:=⟨[dw 0 [bG,cH,cH,bG],dw 1 [bG,cH,cH,bG]],[],10⟩
abbrev Nd:Shape:=⟨[ak 4],[],10⟩
noncomputable def f139(a:i139.H):Option Nd.H:=
(f110 ((a.1.1.1,a.1.2.1.1,()),())).bind fun b=>
 some ((b.1.1,()),())
noncomputable def OG:a4:=bi aD Tryz.f139 i139 Nd [] f139
theorem aaQ:a6 af 139 OG:=bk adn Tryz.func139 (by kernel_rfl) aA (fun y=>by kernel_rfl) fun a=>by kernel_rfl
noncomputable abbrev Z_:bF:=[(139,OG)]
theorem LF:bb af (bz aD Z_):=bC ⟨aaQ,⟨⟩⟩
abbrev vY:Shape:=⟨[a0 0 .entry,(2,.ah (.fn 139 [])),c5 4 4 0,ak 6,aZ 7,ak 8,ak 9,ak 10],[c4 4 [bG,cH,cH,bG]],49⟩
abbrev AK:List bd:=[(.exit 0,⟨[a0 0 .entry,(2,.ah (.fn 139 [])),c5 4 4 0,ak 6,aZ 7,ak 8,ak 9],[c4 4 [bG,cH,cH,bG]],49⟩)]
noncomputable def v_(y:vY.H):cI vY AK:=
 bif(decide (y.1.2.2.2.2.2.2.1<y.1.2.2.2.2.2.2.2.1)) then
(pb .u64 (IntKind.u64.wrap (IntKind.i64.wrap (y.1.2.2.2.2.2.2.1+y.1.2.2.2.2.2.2.2.1))) (1:Int)).bind fun a=>
(bl y.1.1 (IntKind.i64.wrap a)).bind fun b=>
(f139 (((b.path,b.kind,b.mode,b.text,()),(y.2.1.1,y.2.1.2.1,y.2.1.2.2.1,y.2.1.2.2.2.1,()),()),())).bind fun c=>
 bif(decide (c.1.1<(0:Int))) then
 some (.inl ((y.1.1,(),(),y.1.2.2.2.1,y.1.2.2.2.2.1,y.1.2.2.2.2.2.1,(IntKind.i64.wrap ((IntKind.i64.wrap a)+(1:Int))),y.1.2.2.2.2.2.2.2.1,()),(y.2.1.1,y.2.1.2.1,y.2.1.2.2.1,y.2.1.2.2.2.1,()),()))
else
 some (.inl ((y.1.1,(),(),y.1.2.2.2.1,y.1.2.2.2.2.1,y.1.2.2.2.2.2.1,y.1.2.2.2.2.2.2.1,(IntKind.i64.wrap a),()),(y.2.1.1,y.2.1.2.1,y.2.1.2.2.1,y.2.1.2.2.2.1,()),()))
else
 some (.inr ((y.1.1,(),(),y.1.2.2.2.1,y.1.2.2.2.2.1,y.1.2.2.2.2.2.1,y.1.2.2.2.2.2.2.1,()),(y.2.1.1,y.2.1.2.1,y.2.1.2.2.1,y.2.1.2.2.2.1,()),()))
noncomputable def v7:vY.H->Option (aW AK):=bP v_
theorem VB:br af (aF (codeOf Tryz.f138) 1 60) (bB vY AK v7):=cK LF (by kernel_rfl) aA fun y=>by kernel_rfl
abbrev Lc:Shape:=⟨[a0 0 .entry,dw 1 [bG,cH,cH,bG],(2,.ah (.fn 139 []))],[],49⟩
abbrev KX:Shape:=⟨[ak 6,aZ 7],[],49⟩
noncomputable def yl(a:Lc.H):Option KX.H:=
(v7 ((a.1.1,(),(),(0:Int),false,(a.1.1.length:Int),(0:Int),(a.1.1.length:Int),()),(a.1.2.1.1,a.1.2.1.2.1,a.1.2.1.2.2.1,a.1.2.1.2.2.2.1,()),())).bind fun b=>
 bif(decide (b.1.2.2.2.2.2.2.1<b.1.2.2.2.2.2.1)) then
(bl b.1.1 b.1.2.2.2.2.2.2.1).bind fun c=>
(f139 (((c.path,c.kind,c.mode,c.text,()),(b.2.1.1,b.2.1.2.1,b.2.1.2.2.1,b.2.1.2.2.2.1,()),()),())).bind fun d=>
 some ((b.1.2.2.2.2.2.2.1,(d.1.1==(0:Int)),()),())
else
 some ((b.1.2.2.2.2.2.2.1,false,()),())
noncomputable def Ly:a4:=bi aD Tryz.f138 Lc KX [] yl
theorem Y':a6 af 138 Ly:=bk LF Tryz.func138 (by kernel_rfl) (bJ VB aA) (fun y=>by kernel_rfl) fun a=>by kernel_rfl
abbrev w1:Shape:=⟨[a0 0 .entry,bw 1,ak 4,aZ 5,ak 6],[],36⟩
abbrev qv:List bd:=[(.exit 0,⟨[a0 0 .entry,bw 1,ak 4,aZ 5,ak 6],[],36⟩)]
noncomputable def xy(y:w1.H):cI w1 qv:=
 bif(decide (y.1.2.2.2.2.1<(y.1.1.length:Int))) then
(bl y.1.1 y.1.2.2.2.2.1).bind fun a=>
 bif(Op.bytesLess a.path y.1.2.1) then
 some (.inl ((y.1.1,y.1.2.1,y.1.2.2.1,y.1.2.2.2.1,(IntKind.i64.wrap (y.1.2.2.2.2.1+(1:Int))),()),()))
else
 some (.inr ((y.1.1,y.1.2.1,y.1.2.2.1,y.1.2.2.2.1,y.1.2.2.2.2.1,()),()))
else
 some (.inr ((y.1.1,y.1.2.1,y.1.2.2.1,y.1.2.2.2.1,y.1.2.2.2.2.1,()),()))
noncomputable def Cx:w1.H->Option (aW qv):=bP xy
theorem Yk:br af (aF (codeOf Tryz.f157) 1 28) (bB w1 qv Cx):=cK g0 (by kernel_rfl) aA fun y=>by kernel_rfl
abbrev i157:Shape:=⟨[a0 0 .entry,bw 1],[],36⟩
abbrev M_:Shape:=⟨[ak 4,aZ 5],[],36⟩
noncomputable def f157(a:i157.H):Option M_.H:=
(Cx ((a.1.1,a.1.2.1,(0:Int),false,(0:Int),()),())).bind fun b=>
 bif(decide (b.1.2.2.2.2.1<(b.1.1.length:Int))) then
(bl b.1.1 b.1.2.2.2.2.1).bind fun c=>
 some ((b.1.2.2.2.2.1,(c.path==b.1.2.1),()),())
else
 some ((b.1.2.2.2.2.1,false,()),())
noncomputable def EV:a4:=bi aD Tryz.f157 i157 M_ [] f157
theorem Mv:a6 af 157 EV:=bk g0 Tryz.func157 (by kernel_rfl) (bJ Yk aA) (fun y=>by kernel_rfl) fun a=>by kernel_rfl
abbrev wL:Shape:=⟨[bw 0,(1,.ah (.d (.int .u8))),ak 5],[],19⟩
abbrev BS:List bd:=[(.ret,⟨[ak 4],[],19⟩),(.exit 0,⟨[],[],19⟩)]
noncomputable def CE(y:wL.H):cI wL BS:=
 bif(decide (y.1.2.2.1>=(0:Int))) then
(bl y.1.1 y.1.2.2.1).bind fun a=>
 bif((a.toNat:Int)==y.1.2.1) then
 some (.inr (.inl ((y.1.2.2.1,()),())))
else
 some (.inl ((y.1.1,y.1.2.1,(IntKind.i64.wrap (y.1.2.2.1-(1:Int))),()),()))
else
 some (.inr (.inr ((),())))
noncomputable def Cl:wL.H->Option (aW BS):=bP CE
theorem X4:br af (aF (codeOf Tryz.f268) 1 26) (bB wL BS Cl):=cK g0 (by kernel_rfl) aA fun y=>by kernel_rfl
abbrev i268:Shape:=⟨[bw 0,(1,.ah (.d (.int .u8)))],[],19⟩
abbrev MJ:Shape:=⟨[ak 4],[],19⟩
noncomputable def f268(a:i268.H):Option MJ.H:=
(Cl ((a.1.1,a.1.2.1,(IntKind.i64.wrap ((a.1.1.length:Int)-(1:Int))),()),())).bind fun b=>
(match b with
|.inl c=>
 some ((c.1.1,()),())
|.inr d=>
 some ((((-1):Int),()),()))
noncomputable def N_:a4:=bi aD Tryz.f268 i268 MJ [] f268
theorem aal:a6 af 268 N_:=bk g0 Tryz.func268 (by kernel_rfl) (bJ X4 aA) (fun y=>by kernel_rfl) fun a=>by kernel_rfl
noncomputable abbrev acF:bF:=[(268,N_)]
theorem ade:bb af (bz aD acF):=bC ⟨aal,⟨⟩⟩
abbrev i230:Shape:=⟨[bw 0,(1,.ah (.d (.int .u8)))],[],8⟩
abbrev MR:Shape:=⟨[ak 4],[],8⟩
noncomputable def f230(a:i230.H):Option MR.H:=
(f268 ((a.1.1,a.1.2.1,()),())).bind fun b=>
 some ((b.1.1,()),())
noncomputable def Og:a4:=bi aD Tryz.f230 i230 MR [] f230
theorem aat:a6 af 230 Og:=bk ade Tryz.func230 (by kernel_rfl) aA (fun y=>by kernel_rfl) fun a=>by kernel_rfl
noncomputable abbrev acL:bF:=[(193,EQ),(230,Og)]
theorem adj:bb af (bz aD acL):=bC ⟨Mq,aat,⟨⟩⟩
abbrev i195:Shape:=⟨[bw 0],[],11⟩
abbrev MZ:Shape:=⟨[bw 2],[],11⟩
noncomputable def f195(a:i195.H):Option MZ.H:=
(f193 ((a.1.1,()),())).bind fun b=>
 bif(!b.2.1.1) then
 some ((([]:al),()),())
else
(f230 ((a.1.1,(47:Int),()),())).bind fun c=>
(dr a.1.1 (0:Int) (gx c.1.1 (0:Int))).bind fun d=>
 some ((d,()),())
noncomputable def Oq:a4:=bi aD Tryz.f195 i195 MZ [] f195
theorem aaC:a6 af 195 Oq:=bk adj Tryz.func195 (by kernel_rfl) aA (fun y=>by kernel_rfl) fun a=>by kernel_rfl
noncomputable abbrev acJ:bF:=[(157,EV)]
theorem adh:bb af (bz aD acJ):=bC ⟨Mv,⟨⟩⟩
abbrev i211:Shape:=⟨[a0 0 .entry,bw 1],[],26⟩
abbrev MX:Shape:=⟨[aZ 4],[],26⟩
noncomputable def f211(a:i211.H):Option MX.H:=
(f157 ((a.1.1,a.1.2.1,()),())).bind fun b=>
 bif(!(a.1.2.1==([]:al))) then
 bif b.1.2.1 then
(bl a.1.1 b.1.1).bind fun c=>
 some (((c.kind==(1:Int)),()),())
else
 some ((false,()),())
else
 some ((true,()),())
noncomputable def On:a4:=bi aD Tryz.f211 i211 MX [] f211
theorem aaA:a6 af 211 On:=bk adh Tryz.func211 (by kernel_rfl) aA (fun y=>by kernel_rfl) fun a=>by kernel_rfl
abbrev wR:Shape:=⟨[bw 0,ak 3],[],18⟩
abbrev BX:List bd:=[(.ret,⟨[bw 2],[],18⟩),(.exit 0,⟨[],[],18⟩)]
noncomputable def CG(y:wR.H):cI wR BX:=
 bif(decide (y.1.2.1>=(0:Int))) then
(bl y.1.1 y.1.2.1).bind fun a=>
 bif((a.toNat:Int)==(47:Int)) then
(dr y.1.1 (0:Int) y.1.2.1).bind fun b=>
 some (.inr (.inl ((b,()),())))
else
 some (.inl ((y.1.1,(IntKind.i64.wrap (y.1.2.1-(1:Int))),()),()))
else
 some (.inr (.inr ((),())))
noncomputable def Cr:wR.H->Option (aW BX):=bP CG
theorem Ya:br af (aF (codeOf Tryz.f212) 1 26) (bB wR BX Cr):=cK g0 (by kernel_rfl) aA fun y=>by kernel_rfl
abbrev i212:Shape:=⟨[bw 0],[],18⟩
abbrev MW:Shape:=⟨[bw 2],[],18⟩
noncomputable def f212(a:i212.H):Option MW.H:=
(Cr ((a.1.1,(IntKind.i64.wrap ((a.1.1.length:Int)-(1:Int))),()),())).bind fun b=>
(match b with
|.inl c=>
 some ((c.1.1,()),())
|.inr d=>
 some ((([]:al),()),()))
noncomputable def Om:a4:=bi aD Tryz.f212 i212 MW [] f212
theorem aaz:a6 af 212 Om:=bk g0 Tryz.func212 (by kernel_rfl) (bJ Ya aA) (fun y=>by kernel_rfl) fun a=>by kernel_rfl
noncomputable abbrev agO:bF:=[(138,Ly)]
theorem ahh:bb af (bz aD agO):=bC ⟨Y',⟨⟩⟩
abbrev i87:Shape:=⟨[a0 0 .entry,bw 1],[],12⟩
abbrev Px:Shape:=⟨[ak 4,aZ 5],[],12⟩
noncomputable def f87(a:i87.H):Option Px.H:=
(yl ((a.1.1,(a.1.2.1,(0:Int),(0:Int),([]:al),()),(),()),())).bind fun b=>
 some ((b.1.1,b.1.2.1,()),())
noncomputable def Gh:a4:=bi aD Tryz.f87 i87 Px [] f87
theorem O':a6 af 87 Gh:=bk ahh Tryz.func87 (by kernel_rfl) aA (fun y=>by kernel_rfl) fun a=>by kernel_rfl
theorem tw:∀a:al,Op.bytesLess a a=false:=by
 intro a;induction a with
 |nil=>rfl
 |cons b r ih=>simp[Op.bytesLess,ih]
theorem s5:∀a b c:al,Op.bytesLess a b=true->Op.bytesLess b c=true->Op.bytesLess a c=true:=by
 intro a;induction a with
 |nil=>intro b c h1 h2;cases c with
  |nil=>cases b<;>simp[Op.bytesLess] at h2
  |cons z c=>rfl
 |cons x a ih=>
  intro b c h1 h2;cases b with
  |nil=>simp[Op.bytesLess] at h1
  |cons y b=>
   cases c with
   |nil=>simp[Op.bytesLess] at h2
   |cons z c=>
    simp only[Op.bytesLess,Bool.or_eq_true,decide_eq_true_eq,Bool.and_eq_true,beq_iff_eq] at h1 h2 ⊢;rcases h1 with h1|⟨rfl,h1⟩
    ·rcases h2 with h2|⟨rfl,h2⟩
     ·exact .inl (UInt8.lt_trans h1 h2)
     ·exact .inl h1
    ·rcases h2 with h2|⟨rfl,h2⟩
     ·exact .inl h2
     ·exact .inr ⟨rfl,ih b c h1 h2⟩
theorem Z1:∀a b:al,Op.bytesLess a b=false->(a==b)=false->Op.bytesLess b a=true:=by
 intro a;induction a with
 |nil=>intro b h1 h2;cases b with
  |nil=>simp at h2
  |cons y b=>simp[Op.bytesLess] at h1
 |cons x a ih=>
  intro b h1 h2;cases b with
  |nil=>rfl
  |cons y b=>
   simp only[Op.bytesLess,Bool.or_eq_false_iff,decide_eq_false_iff_not,Bool.and_eq_false_iff,beq_eq_false_iff_ne,ne_eq] at h1;simp only[Op.bytesLess,Bool.or_eq_true,decide_eq_true_eq,Bool.and_eq_true,beq_iff_eq];by_cases Fp:x=y
   ·subst Fp;refine .inr ⟨rfl,ih b ?_ ?_⟩
    ·rcases h1.2 with h|h
     ·exact absurd rfl h
     ·exact h
    ·cases h:(a==b) with
     |false=>rfl
     |true=>rw[eq_of_beq h] at h2;simp at h2
   ·exact .inl (by
     have:=h1.1;rcases UInt8.lt_or_lt_of_ne (fun h=>Fp h) with h|h
     ·exact absurd h this
     ·exact h)
theorem YW{a b:al}(h:Op.bytesLess a b=true):Op.bytesLess b a=false:=by
 cases h2:Op.bytesLess b a with
 |false=>rfl
 |true=>have:=s5 a b a h h2;rw[tw] at this;cases this
theorem _8{a b:al}(h:Op.bytesLess a b=true):(a==b)=false:=by
 cases h2:(a==b) with
 |false=>rfl
 |true=>rw[eq_of_beq h2,tw] at h;cases h
theorem YV:∀(s:al) (i:Nat),i<s.length->Op.bytesLess (s.take i) s=true:=by
 intro s;induction s with
 |nil=>intro i h;simp at h
 |cons b r ih=>
  intro i h;cases i with
  |zero=>rfl
  |succ i=>simp only[List.take_succ_cons,Op.bytesLess];simp[ih i (by simpa using h)]
def ku(c:UInt8)(s:al):Nat->Option Nat
 |0=>none
 |n+1=>match s[n]? with
  |some b=>bif(b.toNat:Int)==(c.toNat:Int) then some n else ku c s n
  |none=>none
theorem Hu{c:UInt8}{s:al}:∀{n i:Nat},ku c s n=some i->i<n/\i<s.length:=by
 intro n;induction n with
 |zero=>intro i h;cases h
 |succ n ih=>
  intro i h;simp only[ku] at h;split at h
  ·rename_i b hb;cases hc:((b.toNat:Int)==(c.toNat:Int)) with
   |true=>rw[hc] at h;cases h;exact⟨Nat.lt_succ_self _,cy hb⟩
   |false=>rw[hc] at h;have:=ih h;omega
  ·cases h
def iq(s:al):al:=match ku 47 s s.length with
 |some i=>s.take i
 |none=>[]
theorem WE{s:al}(h:(iq s==[])=false):Op.bytesLess (iq s) s=true:=by
 unfold iq at h ⊢;split
 ·rename_i i hi;exact YV s i (Hu hi).2
 ·rename_i hi;rw[hi] at h;cases h
theorem Zg(a)(M:cj a.1.1.length):f212 a=some ((iq a.1.1,()),()):=by
 obtain⟨⟨s,u⟩,bA⟩:=a;have M:s.length<=2097152:=M;have key:∀n,n<=s.length->Cr ((s,((n:Int)-1,())),())=some (match ku 47 s n with|some i=>.inl ((s.take i,()),())|none=>.inr ((),())):=by
  intro n;induction n with
  |zero=>intro _;exact eR (by rfl)
  |succ n ih=>
   intro hn;have e:((n+1:Nat):Int)-1=(n:Int):=by omega
   obtain⟨b,hb⟩:∃b,s[n]? =some b:=⟨s[n],List.getElem?_eq_getElem hn⟩;have aQ:decide ((n:Int)>=0)=true:=by simp
   rw[e];simp only[ku,hb];cases hc:((b.toNat:Int)==((47:UInt8).toNat:Int)) with
   |true=>
    refine eR ?_
    simp only[CG,aQ,cond_true,b_,hb,Option.bind_some];rw[show((b.toNat:Int)==47)=true from hc,qw (by omega)]
    rfl
   |false=>
    refine(h_ ?_).trans (ih (by omega))
    simp only[CG,aQ,cond_true,b_,hb,Option.bind_some];rw[show((b.toNat:Int)==47)=false from hc,e4 (by omega) (by omega)]
    rfl
 have hw:IntKind.i64.wrap ((s.length:Int)-1)=(s.length:Int)-1:=e4 (by omega) (by omega)
 simp only[f212,hw,key s.length (Nat.le_refl _),Option.bind_some,iq];cases ku 47 s s.length<;>rfl
theorem Tb(a)(M:cj a.1.1.length)(af6:a.1.2.1=47):f268 a=some (((match ku 47 a.1.1 a.1.1.length with|some i=>(i:Int)|none=>-1),()),()):=by
 obtain⟨⟨s,c,u⟩,bA⟩:=a;obtain rfl:c=47:=af6;have M:s.length<=2097152:=M;have key:∀n,n<=s.length->Cl ((s,((47:Int),((n:Int)-1,()))),())=some (match ku 47 s n with|some i=>.inl (((i:Int),()),())|none=>.inr ((),())):=by
  intro n;induction n with
  |zero=>intro _;exact eR (by rfl)
  |succ n ih=>
   intro hn;have e:((n+1:Nat):Int)-1=(n:Int):=by omega
   obtain⟨b,hb⟩:∃b,s[n]? =some b:=⟨s[n],List.getElem?_eq_getElem hn⟩;have aQ:decide ((n:Int)>=0)=true:=by simp
   rw[e];simp only[ku,hb];cases hc:((b.toNat:Int)==((47:UInt8).toNat:Int)) with
   |true=>
    refine eR ?_
    simp only[CE,aQ,cond_true,b_,hb,Option.bind_some];rw[show((b.toNat:Int)==47)=true from hc]
    rfl
   |false=>
    refine(h_ ?_).trans (ih (by omega))
    simp only[CE,aQ,cond_true,b_,hb,Option.bind_some];rw[show((b.toNat:Int)==47)=false from hc,e4 (by omega) (by omega)]
    rfl
 have hw:IntKind.i64.wrap ((s.length:Int)-1)=(s.length:Int)-1:=e4 (by omega) (by omega)
 simp only[f268,hw,key s.length (Nat.le_refl _),Option.bind_some];cases ku 47 s s.length<;>rfl
theorem Wz(a)(M:cj a.1.1.length):f195 a=some (((bif ia a.1.1 then iq a.1.1 else []),()),()):=by
 obtain⟨⟨s,u⟩,bA⟩:=a;have M:s.length<=2097152:=M;have e1:=Bd ((s,()),()) M;have e2:=Tb ((s,((47:Int),())),()) M rfl;simp only[f195,e1,Option.bind_some,f230,e2];cases ia s with
 |false=>rfl
 |true=>
  simp only[Bool.not_true,cond_false,cond_true];unfold iq;cases hl:ku 47 s s.length with
  |none=>
   have:gx (-1) 0=0:=by decide
   simp only[this];have:=qw (xs:=s) (b:=0) (Nat.zero_le _);have this:dr s 0 0=some (s.take 0):=this;rw[this];rfl
  |some i=>
   have hi:=(Hu hl).2;have:gx (i:Int) 0=(i:Int):=by unfold gx;rw[if_neg (by omega)]
   simp only[this];rw[qw (by omega)];rfl
def bQ(t:List aX)(p:al):Nat:=(t.takeWhile fun e=>Op.bytesLess e.path p).length
def jh(t:List aX)(p:al):Bool:=match t[bQ t p]? with
 |some e=>e.path==p
 |none=>false
def jS(t:List aX)(p:al):Bool:=p==[]||match t[bQ t p]? with
 |some e=>e.path==p&&e.kind==1
 |none=>false
theorem qy(t:List aX)(p:al):bQ t p<=t.length:=(List.takeWhile_prefix _).length_le
theorem KB(a)(M:cj a.1.1.length):f157 a=some (((bQ a.1.1 a.1.2.1:Int),(jh a.1.1 a.1.2.1,())),()):=by
 obtain⟨⟨t,p,u⟩,bA⟩:=a;have M:t.length<=2097152:=M;have key:Cx ((t,(p,((0:Int),(false,((0:Int),()))))),())=_:=AT xy t (fun i (_:Unit)=>((t,(p,((0:Int),(false,((i:Int),()))))),()))
  (fun i e _=>some (bif Op.bytesLess e.path p then .inl () else .inr ((((t,(p,((0:Int),(false,((i:Int),()))))),())):aW qv))) (fun _=>((t,(p,((0:Int),(false,((t.length:Int),()))))),())) (fun i e s he=>?_) (fun s=>?_) ()
 ·have fold:∀(r:List aX) (k:Nat),k+r.length=t.length->et (fun i (e:aX) (_:Unit)=>some (bif Op.bytesLess e.path p then .inl () else .inr ((((t,(p,((0:Int),(false,((i:Int),()))))),())):aW qv))) (fun _=>(((t,(p,((0:Int),(false,((t.length:Int),()))))),()):aW qv)) k r ()=
    some ((t,(p,((0:Int),(false,(((k+(r.takeWhile fun e=>Op.bytesLess e.path p).length:Nat):Int),()))))),()):=by
   intro r;induction r with
   |nil=>intro k ag;simp only[et,List.takeWhile_nil,List.length_nil,Nat.add_zero] at ag ⊢;rw[ag]
   |cons e r ih=>
    intro k ag;simp only[et,List.takeWhile_cons];cases hl:Op.bytesLess e.path p with
    |false=>rfl
    |true=>
     simp only[cond_true,if_true,List.length_cons];rw[ih (k+1) (by simp only[List.length_cons] at ag;omega)]
     have:k+1+(r.takeWhile fun e=>Op.bytesLess e.path p).length=k+((r.takeWhile fun e=>Op.bytesLess e.path p).length+1):=by omega
     rw[this]
  rw[fold t 0 (Nat.zero_add _),Nat.zero_add] at key;have ag:(t.takeWhile fun e=>Op.bytesLess e.path p).length=bQ t p:=rfl
  rw[ag] at key;simp only[f157,key,Option.bind_some,jh,b_];cases aB:t[bQ t p]? with
  |none=>
   have:=List.getElem?_eq_none_iff.1 aB;have:decide ((bQ t p:Int)<(t.length:Int))=false:=by simp only[decide_eq_false_iff_not];omega
   rw[this];rfl
  |some e=>rw[cx (cy aB)];rfl
 ·have hi:=cy he;have hw:aJ i:=by unfold aJ;omega
  simp only[xy,cx hi,cond_true,b_,he,Option.bind_some,ch hw];cases Op.bytesLess e.path p<;>rfl
 ·simp only[xy,c7,cond_false]
theorem XP(a)(M:cj a.1.1.length):f211 a=some ((jS a.1.1 a.1.2.1,()),()):=by
 obtain⟨⟨t,p,u⟩,bA⟩:=a;have e1:=KB ((t,(p,())),()) M;simp only[f211,e1,Option.bind_some,jS,jh,b_];cases (p==[]) with
 |true=>rfl
 |false=>
  cases aB:t[bQ t p]? with
  |none=>rfl
  |some e=>simp only[Bool.not_false,cond_true,Option.bind_some,Bool.false_or];cases (e.path==p)<;>rfl
def fg(t:List aX):Prop:=t.Pairwise fun a b=>Op.bytesLess a.path b.path=true
theorem fg.take{t:List aX}(h:fg t)(i:Nat):fg (t.take i):=List.Pairwise.sublist (List.take_sublist i t) h
theorem jI:∀{t:List aX} {p:al},fg t->∀(h:Nat) (e:aX),t[h]? =some e->Op.bytesLess e.path p=decide (h<bQ t p):=by
 intro t p;induction t with
 |nil=>intro _ h e he;simp at he
 |cons x t ih=>
  intro a9 h e he;have sh:=List.pairwise_cons.1 a9;unfold bQ;rw[List.takeWhile_cons];cases hx:Op.bytesLess x.path p with
  |true=>
   simp only[if_true,List.length_cons];cases h with
   |zero=>simp only[List.getElem?_cons_zero,Option.some.injEq] at he;subst he;rw[hx];simp
   |succ h=>
    simp only[List.getElem?_cons_succ] at he;rw[ih sh.2 h e he];unfold bQ;congr 1;apply propext;omega
  |false=>
   have:(decide (h<(if false=true then x::t.takeWhile (fun e=>Op.bytesLess e.path p) else []).length))=false:=by simp
   rw[this];cases h with
   |zero=>simp only[List.getElem?_cons_zero,Option.some.injEq] at he;subst he;exact hx
   |succ h=>
    simp only[List.getElem?_cons_succ] at he;have h2:=sh.1 e (List.mem_of_getElem? he);cases Z:Op.bytesLess e.path p with
    |false=>rfl
    |true=>have:=s5 _ _ _ h2 Z;rw[hx] at this;cases this
def rQ(a b:al):Int:=bif Op.bytesLess a b then-1 else bif a==b then 0 else 1
theorem Bc(a):f139 a=some ((rQ a.1.1.1 a.1.2.1.1,()),()):=by
 obtain⟨⟨⟨p,pP⟩,⟨⟨q,jz⟩,kZ⟩⟩,Ru⟩:=a;have h1:(p==p)=true:=by simp
 have h2:(q==q)=true:=by simp
 simp only[f139,f110,f175,Option.bind_some,h1,h2,Bool.not_true,cond_false,rQ];cases Op.bytesLess p q<;>cases (p==q)<;>rfl
theorem JO(a b:al):decide (rQ a b<0)=Op.bytesLess a b:=by
 unfold rQ;cases Op.bytesLess a b<;>cases (a==b)<;>rfl
theorem V'(a b:al):(rQ a b==0)=(a==b):=by
 unfold rQ;cases h:Op.bytesLess a b with
 |true=>rw[_8 h];rfl
 |false=>cases (a==b)<;>rfl
theorem abn{n:Nat}(h:n<=1099511627776):pb .u64 (IntKind.u64.wrap (IntKind.i64.wrap (n:Int))) 1=some (((n/2:Nat)):Int):=by
 rw[e4 (by omega) (by omega)]
 have:IntKind.u64.wrap (n:Int)=(n:Int):=by
  simp[IntKind.wrap,IntKind.bits,IntKind.signed];omega
 rw[this];unfold pb;rw[if_neg (by decide)]
 congr 1
 show Int.fdiv (n:Int) 2=_;rw[Int.fdiv_eq_ediv_of_nonneg _ (by decide)]
 omega
theorem Hz(a)(M:cj a.1.1.length)(a9:fg a.1.1):f87 a=some (((bQ a.1.1 a.1.2.1:Int),(jh a.1.1 a.1.2.1,())),()):=by
 obtain⟨⟨t,p,u⟩,bA⟩:=a;have M:t.length<=2097152:=M;have aib:=qy t p;have key:∀d i j:Nat,j-i=d->i<=bQ t p->bQ t p<=j->j<=t.length->
   v7 ((t,((),((),((0:Int),(false,((t.length:Int),((i:Int),((j:Int),())))))))),((p,((0:Int),((0:Int),(([]:al),())))),()))=
    some (((t,((),((),((0:Int),(false,((t.length:Int),((bQ t p:Int),()))))))),((p,((0:Int),((0:Int),(([]:al),())))),()))):=by
  intro d;induction d using Nat.strongRecOn with
  |_ d ih=>
   intro i j Y hi hj hl;by_cases oo:i<j
   ·have bW:(i+j)/2<t.length:=by omega
    obtain⟨e,he⟩:∃e,t[(i+j)/2]? =some e:=⟨t[(i+j)/2],List.getElem?_eq_getElem bW⟩;have P8:pb .u64 (IntKind.u64.wrap (IntKind.i64.wrap ((i:Int)+(j:Int)))) 1=some ((((i+j)/2:Nat)):Int):=by
     rw[<-abn (n:=i+j) (by omega)];rw[Int.natCast_add]
    have P6:IntKind.i64.wrap (((i+j)/2:Nat):Int)=(((i+j)/2:Nat):Int):=e4 (by omega) (by omega)
    have og:=jI (t:=t) (p:=p) a9 ((i+j)/2) e he;cases hb:Op.bytesLess e.path p with
    |true=>
     rw[hb] at og;have aY:(i+j)/2<bQ t p:=by simpa using og.symm
     refine(h_ ?_).trans (ih (j-((i+j)/2+1)) (by omega) ((i+j)/2+1) j rfl (by omega) hj hl)
     simp only[v_,cx oo,cond_true,P8,P6,b_,he,Option.bind_some,Bc,JO,hb,ch (i:=(i+j)/2) (by unfold aJ;omega)]
    |false=>
     rw[hb] at og;have uY:¬(i+j)/2<bQ t p:=by simpa using og.symm
     refine(h_ ?_).trans (ih ((i+j)/2-i) (by omega) i ((i+j)/2) rfl hi (by omega) (by omega))
     simp only[v_,cx oo,cond_true,P8,P6,b_,he,Option.bind_some,Bc,JO,hb,cond_false]
   ·have jw:i=bQ t p:=by omega
    have aY:decide ((i:Int)<(j:Int))=false:=by simp only[decide_eq_false_iff_not];omega
    refine eR ?_
    simp only[v_,aY,cond_false];rw[jw]
 have oG:v7 ((t,((),((),((0:Int),(false,((t.length:Int),((0:Int),((t.length:Int),())))))))),((p,((0:Int),((0:Int),(([]:al),())))),()))=_:=key t.length 0 t.length (Nat.sub_zero _) (Nat.zero_le _) aib (Nat.le_refl _);have J:yl ((t,((p,((0:Int),((0:Int),(([]:al),())))),((),()))),())=some (((bQ t p:Int),(jh t p,())),()):=by
  simp only[yl,oG,Option.bind_some,jh,b_,Bc,V'];cases aB:t[bQ t p]? with
  |none=>
   have:=List.getElem?_eq_none_iff.1 aB;have:decide ((bQ t p:Int)<(t.length:Int))=false:=by simp only[decide_eq_false_iff_not];omega
   rw[this];rfl
  |some e=>rw[cx (cy aB)];rfl
 simp only[f87,J,Option.bind_some]
noncomputable abbrev acY:bF:=[(87,Gh),(195,Oq)]
theorem ado:bb af (bz aD acY):=bC ⟨O',aaC,⟨⟩⟩
abbrev i137:Shape:=⟨[a0 0 .entry,bw 1],[],27⟩
abbrev Nf:Shape:=⟨[aZ 4],[],27⟩
noncomputable def f137(a:i137.H):Option Nf.H:=
(f195 ((a.1.2.1,()),())).bind fun b=>
 bif(b.1.1==([]:al)) then
 some ((true,()),())
else
(f87 ((a.1.1,b.1.1,()),())).bind fun c=>
 bif c.1.2.1 then
(bl a.1.1 c.1.1).bind fun d=>
 some (((d.kind==(1:Int)),()),())
else
 some ((false,()),())
noncomputable def OH:a4:=bi aD Tryz.f137 i137 Nf [] f137
theorem aaR:a6 af 137 OH:=bk ado Tryz.func137 (by kernel_rfl) aA (fun y=>by kernel_rfl) fun a=>by kernel_rfl
noncomputable abbrev acV:bF:=[(210,Oo),(211,On),(212,Om)]
theorem zb:bb af (bz aD acV):=bC ⟨aaB,aaA,aaz,⟨⟩⟩
abbrev Jy:Shape:=⟨[a0 0 .entry,ak 3],[],53⟩
abbrev Jm:List bd:=[(.norm,⟨[a0 0 .entry,ak 3,a0 11 .entry,ak 12,(13,.ah (.dZ [.str,.int .i64,.int .i64,.str] 0)),dw 14 [bG,cH,cH,bG],aZ 15,aZ 16,aZ 17,aZ 34],[],53⟩)]
noncomputable def BG(y:Jy.H):Option (aW Jm):=
(bl y.1.1 y.1.2.1).bind fun a=>
(f210 (((a.path,a.kind,a.mode,a.text,()),()),())).bind fun b=>
 bif(!b.1.1) then
 some ((y.1.1,y.1.2.1,y.1.1,y.1.2.1,(a.path,a.kind,a.mode,a.text,()),(a.path,a.kind,a.mode,a.text,()),b.1.1,(!b.1.1),true,true,()),())
else
 bif(decide (y.1.2.1>(0:Int))) then
(bl y.1.1 (IntKind.i64.wrap (y.1.2.1-(1:Int)))).bind fun c=>
(bl y.1.1 y.1.2.1).bind fun d=>
 some ((y.1.1,y.1.2.1,y.1.1,y.1.2.1,(a.path,a.kind,a.mode,a.text,()),(a.path,a.kind,a.mode,a.text,()),b.1.1,(!b.1.1),false,(!(Op.bytesLess c.path d.path)),()),())
else
 some ((y.1.1,y.1.2.1,y.1.1,y.1.2.1,(a.path,a.kind,a.mode,a.text,()),(a.path,a.kind,a.mode,a.text,()),b.1.1,(!b.1.1),false,false,()),())
theorem W9:br af (aF (dq (aF (codeOf Tryz.f158) 1 26)) 52 840) (bB Jy Jm BG):=ep zb (by kernel_rfl) aA fun y=>by kernel_rfl
abbrev w0:Shape:=⟨[a0 0 .entry,ak 3],[],53⟩
abbrev B5:List bd:=[(.ret,⟨[aZ 2],[],53⟩),(.exit 0,⟨[a0 0 .entry],[],53⟩)]
noncomputable def xx(y:w0.H):cI w0 B5:=
 bif(decide (y.1.2.1<(y.1.1.length:Int))) then
(BG ((y.1.1,y.1.2.1,()),())).bind fun a=>
 bif a.1.2.2.2.2.2.2.2.2.2.1 then
 some (.inr (.inl ((false,()),())))
else
 some (.inl ((a.1.1,(IntKind.i64.wrap (a.1.2.1+(1:Int))),()),()))
else
 some (.inr (.inr ((y.1.1,()),())))
noncomputable def Cw:w0.H->Option (aW B5):=bP xx
theorem Yj:br af (aF (codeOf Tryz.f158) 1 26) (bB w0 B5 Cw):=cK zb (by kernel_rfl) (bJ W9 aA) fun y=>by kernel_rfl
abbrev wZ:Shape:=⟨[a0 0 .entry,ak 4],[],53⟩
abbrev B4:List bd:=[(.ret,⟨[aZ 2],[],53⟩),(.exit 2,⟨[a0 0 .entry],[],53⟩)]
noncomputable def xw(y:wZ.H):cI wZ B4:=
 bif(decide (y.1.2.1<(y.1.1.length:Int))) then
(bl y.1.1 y.1.2.1).bind fun a=>
(f212 ((a.path,()),())).bind fun b=>
(f211 ((y.1.1,b.1.1,()),())).bind fun c=>
 bif(!c.1.1) then
 some (.inr (.inl ((false,()),())))
else
 some (.inl ((y.1.1,(IntKind.i64.wrap (y.1.2.1+(1:Int))),()),()))
else
 some (.inr (.inr ((y.1.1,()),())))
noncomputable def Cv:wZ.H->Option (aW B4):=bP xw
theorem Yi:br af (aF (codeOf Tryz.f158) 1 58) (bB wZ B4 Cv):=cK zb (by kernel_rfl) aA fun y=>by kernel_rfl
abbrev i158:Shape:=⟨[a0 0 .entry],[],53⟩
abbrev M9:Shape:=⟨[aZ 2],[],53⟩
noncomputable def f158(a:i158.H):Option M9.H:=
(Cw ((a.1.1,(0:Int),()),())).bind fun b=>
(match b with
|.inl c=>
 some ((c.1.1,()),())
|.inr d=>
(Cv ((d.1.1,(0:Int),()),())).bind fun e=>
(match e with
|.inl f=>
 some ((f.1.1,()),())
|.inr g=>
 some (((decide ((g.1.1.length:Int)<=(16:Int))),()),())))
noncomputable def EU:a4:=bi aD Tryz.f158 i158 M9 [] f158
theorem Mu:a6 af 158 EU:=bk zb Tryz.func158 (by kernel_rfl) (bJ Yj (bJ Yi aA)) (fun y=>by kernel_rfl) fun a=>by kernel_rfl
noncomputable abbrev agP:bF:=[(136,OI),(137,OH)]
theorem Gn:bb af (bz aD agP):=bC ⟨aaS,aaR,⟨⟩⟩
abbrev Js:Shape:=⟨[a0 0 .entry,ak 3,c5 4 4 0,a0 8 .entry,ak 9,ak 10],[c4 4 [bG,cH,cH,bG]],43⟩
abbrev Jf:List bd:=[(.norm,⟨[a0 0 .entry,a0 8 .entry,ak 9,ak 10,dw 15 [bG,cH,cH,bG],aZ 16,aZ 17,aZ 18,aZ 32,aZ 33,aZ 41],[],43⟩)]
noncomputable def BA(y:Js.H):Option (aW Jf):=
(f136 (((y.2.1.1,y.2.1.2.1,y.2.1.2.2.1,y.2.1.2.2.2.1,()),()),())).bind fun a=>
 bif(!a.1.1) then
 some ((y.1.1,y.1.2.2.2.1,y.1.2.2.2.2.1,y.1.2.2.2.2.2.1,(y.2.1.1,y.2.1.2.1,y.2.1.2.2.1,y.2.1.2.2.2.1,()),a.1.1,(!a.1.1),true,true,true,true,()),())
else
 bif(decide (y.1.2.1>(0:Int))) then
(bl y.1.1 (IntKind.i64.wrap (y.1.2.1-(1:Int)))).bind fun b=>
 bif(!(Op.bytesLess b.path y.2.1.1)) then
 some ((y.1.1,y.1.2.2.2.1,y.1.2.2.2.2.1,y.1.2.2.2.2.2.1,(y.2.1.1,y.2.1.2.1,y.2.1.2.2.1,y.2.1.2.2.2.1,()),a.1.1,(!a.1.1),false,(!(Op.bytesLess b.path y.2.1.1)),true,true,()),())
else
(dr y.1.1 (0:Int) y.1.2.1).bind fun c=>
(f137 ((c,y.2.1.1,()),())).bind fun d=>
 some ((y.1.1,y.1.2.2.2.1,y.1.2.2.2.2.1,y.1.2.2.2.2.2.1,(y.2.1.1,y.2.1.2.1,y.2.1.2.2.1,y.2.1.2.2.2.1,()),a.1.1,(!a.1.1),false,(!(Op.bytesLess b.path y.2.1.1)),false,(!d.1.1),()),())
else
(dr y.1.1 (0:Int) y.1.2.1).bind fun e=>
(f137 ((e,y.2.1.1,()),())).bind fun f=>
 some ((y.1.1,y.1.2.2.2.1,y.1.2.2.2.2.1,y.1.2.2.2.2.2.1,(y.2.1.1,y.2.1.2.1,y.2.1.2.2.1,y.2.1.2.2.2.1,()),a.1.1,(!a.1.1),false,false,false,(!f.1.1),()),())
theorem WY:br af (aF (dq (aF (codeOf Tryz.f86) 1 58)) 116 7474) (bB Js Jf BA):=ep Gn (by kernel_rfl) aA fun y=>by kernel_rfl
abbrev xR:Shape:=⟨[a0 0 .entry,a0 8 .entry,ak 9,ak 10],[],43⟩
abbrev tl:List bd:=[(.ret,⟨[aZ 2],[],43⟩),(.exit 0,⟨[],[],43⟩)]
noncomputable def x_(y:xR.H):cI xR tl:=
 bif(decide (y.1.2.2.2.1<y.1.2.2.1)) then
(bl y.1.2.1 y.1.2.2.2.1).bind fun a=>
(BA ((y.1.1,y.1.2.2.2.1,(),y.1.2.1,y.1.2.2.1,y.1.2.2.2.1,()),(a.path,a.kind,a.mode,a.text,()),())).bind fun b=>
 bif b.1.2.2.2.2.2.2.2.2.2.2.1 then
 some (.inr (.inl ((false,()),())))
else
 some (.inl ((b.1.1,b.1.2.1,b.1.2.2.1,(IntKind.i64.wrap (b.1.2.2.2.1+(1:Int))),()),()))
else
 some (.inr (.inr ((),())))
noncomputable def Db:xR.H->Option (aW tl):=bP x_
theorem Zp:br af (aF (codeOf Tryz.f86) 1 58) (bB xR tl Db):=cK Gn (by kernel_rfl) (bJ WY aA) fun y=>by kernel_rfl
abbrev i86:Shape:=⟨[a0 0 .entry],[],43⟩
abbrev Py:Shape:=⟨[aZ 2],[],43⟩
noncomputable def f86(a:i86.H):Option Py.H:=
 bif(decide ((a.1.1.length:Int)>(16:Int))) then
 some ((false,()),())
else
(Db ((a.1.1,a.1.1,(a.1.1.length:Int),(0:Int),()),())).bind fun b=>
(match b with
|.inl c=>
 some ((c.1.1,()),())
|.inr d=>
 some ((true,()),()))
noncomputable def Gi:a4:=bi aD Tryz.f86 i86 Py [] f86
theorem Pa:a6 af 86 Gi:=bk Gn Tryz.func86 (by kernel_rfl) (bJ Zp aA) (fun y=>by kernel_rfl) fun a=>by kernel_rfl
theorem TN{az:Type}{ok lv:Nat->az->Bool}:∀(xs:List az) (j:Nat),(∀i x,xs[i]? =some x->ok (j+i) x=lv (j+i) x)->allI ok j xs=allI lv j xs:=by
 intro xs;induction xs with
 |nil=>intro j _;rfl
 |cons x r ih=>
  intro j h;simp only[allI];rw[show ok j x=lv j x from h 0 x rfl,ih (j+1) (fun i y ai=>by have:=h (i+1) y (by simpa using ai);rw[show j+(i+1)=j+1+i by omega] at this;exact this)]
theorem BL{az:Type}{ok:Nat->az->Bool}:∀(xs:List az) (j:Nat),allI ok j xs=true->∀i x,xs[i]? =some x->ok (j+i) x=true:=by
 intro xs;induction xs with
 |nil=>intro j _ i x h;simp at h
 |cons y r ih=>
  intro j h i x hx;simp only[allI,Bool.and_eq_true] at h;cases i with
  |zero=>simp only[List.getElem?_cons_zero,Option.some.injEq] at hx;subst hx;exact h.1
  |succ i=>have:=ih (j+1) h.2 i x (by simpa using hx);rwa[show j+1+i=j+(i+1) by omega] at this
abbrev jY(t:List aX):Prop:=cj t.length/\∀e,e∈t->mx e
def tp(t:List aX)(i:Nat)(e:aX):Bool:=i==0||match t[i-1]? with
 |some q=>Op.bytesLess q.path e.path
 |none=>false
def ij(t:List aX)(i:Nat)(e:aX):Bool:=n3 e&&tp t i e
def er(t:List aX):Bool:=allI (ij t) 0 t&&t.all (fun e=>jS t (iq e.path))&&decide (t.length<=16)
theorem EJ(i:Nat):decide ((i:Int)>0)=!(i==0):=by
 cases i with
 |zero=>rfl
 |succ i=>simp
theorem I_(a)(M:jY a.1.1):f158 a=some ((er a.1.1,()),()):=by
 obtain⟨⟨t,u⟩,bA⟩:=a;obtain⟨hl,he⟩:=M;have hl:t.length<=2097152:=hl;have key:Cw ((t,((0:Int),())),())=some (bif allI (ij t) 0 t then .inr ((t,()),()) else .inl ((false,()),())):=by
  refine fK xx t (fun i=>((t,((i:Int),())),())) _ _ _ (fun i x hx=>?_) ?_
  ·have hi:=cy hx;have hw:aJ i:=by unfold aJ;omega
   have hb:=he x (List.mem_of_getElem? hx);simp only[xx,cx hi,cond_true,BG,b_,hx,Option.bind_some];rw[U1 _ hb.1 hb.2];simp only[Option.bind_some,ij,EJ];cases n3 x with
   |false=>rfl
   |true=>
    simp only[Bool.not_true,cond_false,Bool.true_and,tp];cases i with
    |zero=>simp only[beq_self_eq_true,Bool.not_true,cond_false,Option.bind_some,Bool.true_or,cond_true,ch hw]
    |succ i=>
     have aQ:(i+1==0)=false:=rfl;have jw:i<t.length:=by omega
     obtain⟨q,aL⟩:∃q,t[i]? =some q:=⟨t[i],List.getElem?_eq_getElem jw⟩;simp only[aQ,Bool.not_false,cond_true,vP (i:=i) (by unfold aJ;omega),b_,aL,hx,Option.bind_some,Bool.false_or,Nat.add_sub_cancel]
     cases Op.bytesLess q.path x.path with
     |false=>rfl
     |true=>simp only[Bool.not_true,cond_false,cond_true,ch hw]
  ·simp only[xx,c7,cond_false]
 have NC:Cv ((t,((0:Int),())),())=some (bif allI (fun _ e=>jS t (iq e.path)) 0 t then .inr ((t,()),()) else .inl ((false,()),())):=by
  refine fK xw t (fun i=>((t,((i:Int),())),())) _ _ _ (fun i x hx=>?_) ?_
  ·have hi:=cy hx;have hw:aJ i:=by unfold aJ;omega
   have hb:=he x (List.mem_of_getElem? hx);simp only[xw,cx hi,cond_true,b_,hx,Option.bind_some];rw[Zg _ hb.1];simp only[Option.bind_some];rw[XP _ hl];simp only[Option.bind_some,ch hw];cases jS t (iq x.path)<;>rfl
  ·simp only[xw,c7,cond_false]
 rw[gL] at NC;simp only[f158,key,Option.bind_some,er];cases allI (ij t) 0 t with
 |false=>rfl
 |true=>
  simp only[cond_true,NC,Option.bind_some,Bool.true_and];cases List.all t (fun e=>jS t (iq e.path)) with
  |false=>rfl
  |true=>have:=yW t.length 16;simp only[cond_true,Bool.true_and];rw[<-this];rfl
theorem JS{t:List aX}{i:Nat}{e:aX}(he:t[i]? =some e)(h:fg (t.take i))(hl:tp t i e=true):fg (t.take (i+1)):=by
 rw[List.take_add_one,he];unfold fg;refine List.pairwise_append.2 ⟨h,by simp,?_⟩
 intro a a9 b hb;have hb:b=e:=by simpa using hb
 subst hb;obtain⟨k,ag⟩:=List.mem_iff_getElem?.1 a9;have afz:k<i:=by
  have:=cy ag;rw[List.length_take] at this;omega
 unfold tp at hl;have aQ:(i==0)=false:=by simp;omega
 rw[aQ,Bool.false_or] at hl;split at hl
 ·rename_i q aL;by_cases pD:k=i-1
  ·have:t[k]? =some a:=by rw[List.getElem?_take,if_pos afz] at ag;exact ag
   rw[pD,aL] at this;cases this;exact hl
  ·have ni:(t.take i)[i-1]? =some q:=by rw[List.getElem?_take,if_pos (by omega)];exact aL
   have:=List.pairwise_iff_getElem.1 h k (i-1) (cy ag) (cy ni) (by omega)
   rw[(List.getElem?_eq_some_iff.1 ag).2,(List.getElem?_eq_some_iff.1 ni).2] at this;exact s5 _ _ _ this hl
 ·cases hl
theorem Lq{t:List aX}(h:allI (ij t) 0 t=true):fg t:=by
 have:∀i,i<=t.length->fg (t.take i):=by
  intro i;induction i with
  |zero=>intro _;simp[fg]
  |succ i ih=>
   intro hi;have he:t[i]? =some t[i]:=List.getElem?_eq_getElem hi;have:=BL t 0 h i _ he;rw[Nat.zero_add] at this;simp only[ij,Bool.and_eq_true] at this;exact JS he (ih (by omega)) this.2
 have:=this t.length (Nat.le_refl _);rwa[List.take_length] at this
theorem UC{t:List aX}{i:Nat}{e:aX}{p:al}(a9:fg t)(he:t[i]? =some e)(an:Op.bytesLess p e.path=true):jS (t.take i) p=jS t p:=by
 have hi:=cy he;have h1:=jI (p:=p) a9 i e he;rw[YW an] at h1;have cX:bQ t p<=i:=by
  have:¬i<bQ t p:=by simpa using h1.symm
  omega
 have m9:bQ (t.take i) p=bQ t p:=by
  by_cases aY:bQ t p=i
  ·have hlen:(t.take i).length=i:=by rw[List.length_take];omega
   have h2:=qy (t.take i) p;rw[hlen] at h2;by_cases Z:bQ (t.take i) p<i
   ·obtain⟨q,aL⟩:∃q,(t.take i)[bQ (t.take i) p]? =some q:=⟨_,List.getElem?_eq_getElem (by rw[hlen];exact Z)⟩
    have aH:=jI (p:=p) (a9.take i) _ q aL;have ni:t[bQ (t.take i) p]? =some q:=by rw[List.getElem?_take,if_pos Z] at aL;exact aL
    have bp:=jI (p:=p) a9 _ q ni;rw[aH] at bp;have:decide (bQ (t.take i) p<bQ (t.take i) p)=false:=by simp
    rw[this] at bp;have:¬bQ (t.take i) p<bQ t p:=by simpa using bp.symm
    omega
   ·omega
  ·have aY:bQ t p<i:=by omega
   obtain⟨q,aL⟩:∃q,t[bQ t p]? =some q:=⟨_,List.getElem?_eq_getElem (by omega)⟩
   have ni:(t.take i)[bQ t p]? =some q:=by rw[List.getElem?_take,if_pos aY];exact aL
   have aH:=jI (p:=p) a9 _ q aL;have bp:=jI (p:=p) (a9.take i) _ q ni;have dW:decide (bQ t p<bQ t p)=false:=by simp
   rw[aH,dW] at bp;have dm:¬bQ t p<bQ (t.take i) p:=by simpa using bp.symm
   by_cases ix:bQ (t.take i) p<bQ t p
   ·obtain⟨r,hr⟩:∃r,t[bQ (t.take i) p]? =some r:=⟨_,List.getElem?_eq_getElem (by omega)⟩
    have cG:(t.take i)[bQ (t.take i) p]? =some r:=by rw[List.getElem?_take,if_pos (by omega)];exact hr
    have oH:=jI (p:=p) a9 _ r hr;have k3:=jI (p:=p) (a9.take i) _ r cG;have GO:decide (bQ (t.take i) p<bQ (t.take i) p)=false:=by simp
    rw[oH,GO] at k3;have:¬bQ (t.take i) p<bQ t p:=by simpa using k3
    omega
   ·omega
 unfold jS;rw[m9];congr 1
 by_cases aY:bQ t p<i
 ·rw[List.getElem?_take,if_pos aY]
 ·have:bQ t p=i:=by omega
  rw[this,he,List.getElem?_take,if_neg (by omega)]
  have:(e.path==p)=false:=by
   cases h:(e.path==p) with
   |false=>rfl
   |true=>rw[eq_of_beq h,tw] at an;cases an
  simp[this]
def kz(t:List aX)(p:al):Bool:=jS t (bif ia p then iq p else [])
theorem Sk(a)(M:cj a.1.1.length)(an:cj a.1.2.1.length)(a9:fg a.1.1):f137 a=some ((kz a.1.1 a.1.2.1,()),()):=by
 obtain⟨⟨t,p,u⟩,bA⟩:=a;have e1:=Wz ((p,()),()) an;have e2:=Hz ((t,((bif ia p then iq p else []),())),()) M a9
 simp only[f137,e1,e2,Option.bind_some,kz,jS,jh,b_];generalize(bif ia p then iq p else [])=up
 cases (up==[]) with
 |true=>rfl
 |false=>
  cases aB:t[bQ t up]? with
  |none=>rfl
  |some e=>simp only[cond_false,cond_true,Option.bind_some,Bool.false_or];cases (e.path==up)<;>rfl
theorem Vc(t:List aX):er t=(decide (t.length<=16)&&allI (fun i e=>ij t i e&&kz (t.take i) e.path) 0 t):=by
 unfold er;rw[BM];cases h:allI (ij t) 0 t with
 |false=>simp
 |true=>
  have a9:=Lq h;have:allI (fun i e=>kz (t.take i) e.path) 0 t=t.all (fun e=>jS t (iq e.path)):=by
   rw[<-gL _ 0 t];refine TN t 0 (fun i e he=>?_)
   rw[Nat.zero_add];have e9:=BL t 0 h i e he;rw[Nat.zero_add] at e9;have afo:ia e.path=true:=by
    unfold ij n3 at e9;simp only[Bool.and_eq_true] at e9;exact e9.1.1
   unfold kz;rw[afo,cond_true];cases hu:(iq e.path==[]) with
   |true=>unfold jS;rw[hu];rfl
   |false=>exact UC a9 he (WE hu)
  rw[this];simp only[Bool.true_and];rw[Bool.and_comm]
theorem vR(a)(M:jY a.1.1):f86 a=some ((er a.1.1,()),()):=by
 obtain⟨⟨t,u⟩,bA⟩:=a;obtain⟨hl,he⟩:=M;have hl:t.length<=2097152:=hl;have key:Db ((t,(t,((t.length:Int),((0:Int),())))),())=some (bif allI (fun i e=>ij t i e&&kz (t.take i) e.path) 0 t then .inr ((),()) else .inl ((false,()),())):=by
  have:=lX x_ t (fun i (_:Unit)=>((t,(t,((t.length:Int),((i:Int),())))),())) (fun i e _=>some (bif ij t i e&&kz (t.take i) e.path then .inl () else .inr ((.inl ((false,()),())):aW tl))) (fun _=>(.inr ((),()):aW tl))
   (fun i _=>fg (t.take i)) () (by simp[fg]) (fun i x _ hx db=>?_) (fun _ _=>?_)
  ·exact this.trans (As (fun i e=>ij t i e&&kz (t.take i) e.path) (fun _ s=>s) _ _ t 0 ())
  ·have hi:=cy hx;have hw:aJ i:=by unfold aJ;omega
   have hb:=he x (List.mem_of_getElem? hx);refine⟨?_,fun aj aa=>?_⟩
   ·have kU:=Sk ((t.take i,(x.path,())),()) (show(t.take i).length<=2097152 by rw[List.length_take];omega) hb.1 db
    simp only[x_,cx hi,cond_true,b_,hx,Option.bind_some,BA];rw[U8 _ hb.1 hb.2];simp only[Option.bind_some,ij,EJ];cases n3 x with
    |false=>rfl
    |true=>
     simp only[Bool.not_true,cond_false,Bool.true_and,tp];cases i with
     |zero=>
      have dz:dr t 0 0=some (t.take 0):=qw (b:=0) (Nat.zero_le _);have dz:dr t 0 ((0:Nat):Int)=some (t.take 0):=dz;simp only[beq_self_eq_true,Bool.not_true,cond_false,dz,Option.bind_some,kU,Bool.true_or,Bool.true_and];cases kz (t.take 0) x.path with
      |false=>rfl
      |true=>simp only[Bool.not_true,cond_false,cond_true,ch hw];rfl
     |succ i=>
      have aQ:(i+1==0)=false:=rfl;have jw:i<t.length:=by omega
      obtain⟨q,aL⟩:∃q,t[i]? =some q:=⟨t[i],List.getElem?_eq_getElem jw⟩;have dz:dr t 0 ((i+1:Nat):Int)=some (t.take (i+1)):=qw (by omega)
      simp only[aQ,Bool.not_false,cond_true,vP (i:=i) (by unfold aJ;omega),b_,aL,hx,Option.bind_some,Bool.false_or,Nat.add_sub_cancel]
      cases Op.bytesLess q.path x.path with
      |false=>rfl
      |true=>
       simp only[Bool.not_true,cond_false,cond_true,dz,Option.bind_some,kU,Bool.true_and];cases kz (t.take (i+1)) x.path with
       |false=>rfl
       |true=>simp only[Bool.not_true,cond_false,cond_true,ch hw];rfl
   ·simp only[Option.some.injEq] at aa;cases aL:(ij t i x&&kz (t.take i) x.path) with
    |false=>rw[aL] at aa;cases aa
    |true=>
     simp only[Bool.and_eq_true] at aL;have:=aL.1;simp only[ij,Bool.and_eq_true] at this;exact JS hx db this.2
  ·simp only[x_,c7,cond_false]
 have F5:decide ((t.length:Int)>16)=!decide (t.length<=16):=by by_cases h:t.length<=16<;>simp only[h,decide_true,decide_false,Bool.not_true,Bool.not_false,decide_eq_true_eq,decide_eq_false_iff_not]<;>omega
 simp only[f86,F5,key,Option.bind_some];rw[Vc];cases decide (t.length<=16)<;>cases allI (fun i e=>ij t i e&&kz (t.take i) e.path) 0 t<;>rfl
noncomputable abbrev agT:bF:=[(86,Gi),(118,EY),(119,y_),(120,LA),(122,Lz)]
theorem Rf:bb af (bz aD agT):=bC ⟨Pa,My,DX,Zb,Za,⟨⟩⟩
abbrev KK:Shape:=⟨[c5 1 1 0],[c4 1 [bG,bG,en .need,en .entry]],36⟩
abbrev KG:List bd:=[(.norm,⟨[c5 1 1 0,aZ 18],[c4 1 [bG,bG,en .need,en .entry]],36⟩)]
noncomputable def Dr(y:KK.H):Option (aW KG):=
(f118 ((y.2.1.1,()),())).bind fun a=>
 bif(!(!a.1.1)) then
(f119 ((y.2.1.2.1,()),())).bind fun b=>
 bif(!(!b.1.1)) then
 some (((),(decide ((y.2.1.2.2.1.length:Int)>(6:Int))),()),(y.2.1.1,y.2.1.2.1,y.2.1.2.2.1,y.2.1.2.2.2.1,()),())
else
 some (((),true,()),(y.2.1.1,y.2.1.2.1,y.2.1.2.2.1,y.2.1.2.2.2.1,()),())
else
 some (((),true,()),(y.2.1.1,y.2.1.2.1,y.2.1.2.2.1,y.2.1.2.2.2.1,()),())
theorem Zt:br af (aF (codeOf Tryz.f74) 1 12) (bB KK KG Dr):=ep Rf (by kernel_rfl) aA fun y=>by kernel_rfl
abbrev i74:Shape:=⟨[dw 0 [bG,bG,en .need,en .entry]],[],36⟩
abbrev PC:Shape:=⟨[aZ 2],[],36⟩
noncomputable def f74(a:i74.H):Option PC.H:=
(Dr (((),()),(a.1.1.1,a.1.1.2.1,a.1.1.2.2.1,a.1.1.2.2.2.1,()),())).bind fun b=>
 bif b.1.2.1 then
 some ((false,()),())
else
(yn ((b.2.1.2.2.1,(),()),())).bind fun c=>
 bif c.1.1 then
(ym ((b.2.1.2.2.1,(),([b.2.1.1]:List al),()),())).bind fun d=>
 bif(!d.1.1) then
(f86 ((b.2.1.2.2.2.1,()),())).bind fun e=>
 some ((e.1.1,()),())
else
 some ((false,()),())
else
 some ((false,()),())
noncomputable def QT:a4:=bi aD Tryz.f74 i74 PC [] f74
theorem adG:a6 af 74 QT:=bk Rf Tryz.func74 (by kernel_rfl) (bJ Zt aA) (fun y=>by kernel_rfl) fun a=>by kernel_rfl
noncomputable abbrev _b:bF:=[(74,QT)]
theorem LI:bb af (bz aD _b):=bC ⟨adG,⟨⟩⟩
abbrev v6:Shape:=⟨[(1,.ah (.fn 74 [])),a0 7 .pack,ak 8,ak 9],[],18⟩
abbrev AN:List bd:=[(.ret,⟨[aZ 4],[],18⟩),(.exit 0,⟨[],[],18⟩)]
noncomputable def we(y:v6.H):cI v6 AN:=
 bif(decide (y.1.2.2.2.1<y.1.2.2.1)) then
(bl y.1.2.1 y.1.2.2.2.1).bind fun a=>
(f74 (((a.name,a.bT,a.b5,a.cr,()),()),())).bind fun b=>
 bif(!b.1.1) then
 some (.inr (.inl ((false,()),())))
else
 some (.inl (((),y.1.2.1,y.1.2.2.1,(IntKind.i64.wrap (y.1.2.2.2.1+(1:Int))),()),()))
else
 some (.inr (.inr ((),())))
noncomputable def AZ:v6.H->Option (aW AN):=bP we
theorem VH:br af (aF (codeOf Tryz.f101) 1 26) (bB v6 AN AZ):=cK LI (by kernel_rfl) aA fun y=>by kernel_rfl
abbrev Lf:Shape:=⟨[a0 0 .pack,(1,.ah (.fn 74 []))],[],18⟩
abbrev K0:Shape:=⟨[aZ 4],[],18⟩
noncomputable def yo(a:Lf.H):Option K0.H:=
(AZ (((),a.1.1,(a.1.1.length:Int),(0:Int),()),())).bind fun b=>
(match b with
|.inl c=>
 some ((c.1.1,()),())
|.inr d=>
 some ((true,()),()))
noncomputable def LB:a4:=bi aD Tryz.f101 Lf K0 [] yo
theorem Zc:a6 af 101 LB:=bk LI Tryz.func101 (by kernel_rfl) (bJ VH aA) (fun y=>by kernel_rfl) fun a=>by kernel_rfl
abbrev w4:Shape:=⟨[a0 0 .pack,ak 3],[],22⟩
abbrev B7:List bd:=[(.ret,⟨[aZ 2],[],22⟩),(.exit 0,⟨[],[],22⟩)]
noncomputable def xA(y:w4.H):cI w4 B7:=
 bif(decide (y.1.2.1<(y.1.1.length:Int))) then
(bl y.1.1 (IntKind.i64.wrap (y.1.2.1-(1:Int)))).bind fun a=>
(bl y.1.1 y.1.2.1).bind fun b=>
 bif(!(Op.bytesLess a.name b.name)) then
 some (.inr (.inl ((false,()),())))
else
 some (.inl ((y.1.1,(IntKind.i64.wrap (y.1.2.1+(1:Int))),()),()))
else
 some (.inr (.inr ((),())))
noncomputable def Cz:w4.H->Option (aW B7):=bP xA
theorem Yn:br af (aF (codeOf Tryz.f141) 1 26) (bB w4 B7 Cz):=cK g0 (by kernel_rfl) aA fun y=>by kernel_rfl
abbrev i141:Shape:=⟨[a0 0 .pack],[],22⟩
abbrev Nc:Shape:=⟨[aZ 2],[],22⟩
noncomputable def f141(a:i141.H):Option Nc.H:=
(Cz ((a.1.1,(1:Int),()),())).bind fun b=>
(match b with
|.inl c=>
 some ((c.1.1,()),())
|.inr d=>
 some ((true,()),()))
noncomputable def OF:a4:=bi aD Tryz.f141 i141 Nc [] f141
theorem aaP:a6 af 141 OF:=bk g0 Tryz.func141 (by kernel_rfl) (bJ Yn aA) (fun y=>by kernel_rfl) fun a=>by kernel_rfl
abbrev i156:Shape:=⟨[a0 0 .entry],[],6⟩
abbrev M':Shape:=⟨[b6 2 3000128],[cl 3000128 .entry 2 0],6⟩
noncomputable def f156(a:i156.H):Option M'.H:=
(ez 48 ([]:List aX) a.1.1).bind fun b=>
 some (((),()),b,())
noncomputable def OC:a4:=bi aD Tryz.f156 i156 M' [] f156
theorem aaM:a6 af 156 OC:=bk g0 Tryz.func156 (by kernel_rfl) aA (fun y=>by kernel_rfl) fun a=>by kernel_rfl
noncomputable abbrev agN:bF:=[(156,OC),(157,EV),(158,EU)]
theorem Gm:bb af (bz aD agN):=bC ⟨aaM,Mv,Mu,⟨⟩⟩
abbrev Jq:Shape:=⟨[a0 1 .entry,b6 6 3000384,ak 7,ak 8,aZ 9],[cl 3000384 .entry 6 0],69⟩
abbrev Jd:List bd:=[(.norm,⟨[a0 1 .entry,b6 6 3000384,ak 7,ak 8,aZ 9,aZ 28,aZ 29,aZ 47],[cl 3000384 .entry 6 0],69⟩)]
noncomputable def By(y:Jq.H):Option (aW Jd):=
 bif y.1.2.2.2.2.1 then
(e8 y.2.1.length y.1.2.2.2.1).bind fun a=>
(y.2.1[a]?).bind fun b=>
 bif(b.kind !=(1:Int)) then
 some ((y.1.1,(),y.1.2.2.1,y.1.2.2.2.1,y.1.2.2.2.2.1,y.1.2.2.2.2.1,true,true,()),y.2.1,())
else
(bl y.1.1 y.1.2.2.1).bind fun c=>
(e8 y.2.1.length y.1.2.2.2.1).bind fun d=>
(y.2.1[d]?).bind fun e=>
 some ((y.1.1,(),y.1.2.2.1,y.1.2.2.2.1,y.1.2.2.2.2.1,y.1.2.2.2.2.1,true,(!((c.path==e.path)&&((c.kind==e.kind)&&((c.mode==e.mode)&&(c.text==e.text))))),()),y.2.1,())
else
 some ((y.1.1,(),y.1.2.2.1,y.1.2.2.2.1,y.1.2.2.2.2.1,y.1.2.2.2.2.1,false,false,()),y.2.1,())
theorem WW:br af (aF (dq (aF (codeOf Tryz.f96) 1 58)) 116 7460) (bB Jq Jd By):=ep Gm (by kernel_rfl) aA fun y=>by kernel_rfl
abbrev tn:Shape:=⟨[a0 1 .entry,b6 6 3000384,ak 7],[cl 3000384 .entry 6 0],69⟩
abbrev nR:List bd:=[(.ret,⟨[b6 4 3000256,aZ 5],[cl 3000256 .entry 4 0],69⟩),(.exit 0,⟨[b6 6 3000384],[cl 3000384 .entry 6 0],69⟩)]
noncomputable def x8(y:tn.H):cI tn nR:=
 bif(decide (y.1.2.2.1<(y.1.1.length:Int))) then
(bl y.1.1 y.1.2.2.1).bind fun a=>
(f157 ((y.2.1,a.path,()),())).bind fun b=>
(By ((y.1.1,(),y.1.2.2.1,b.1.1,b.1.2.1,()),y.2.1,())).bind fun c=>
 bif c.1.2.2.2.2.2.2.2.1 then
 some (.inr (.inl (((),false,()),([]:List aX),())))
else
 bif(!c.1.2.2.2.2.1) then
(dr c.2.1 (0:Int) c.1.2.2.2.1).bind fun d=>
(ez 48 ([]:List aX) d).bind fun e=>
(bl c.1.1 c.1.2.2.1).bind fun f=>
(ez 48 e ([f]:List aX)).bind fun g=>
(dr c.2.1 c.1.2.2.2.1 (c.2.1.length:Int)).bind fun h=>
(ez 48 g h).bind fun i=>
 some (.inl ((c.1.1,(),(IntKind.i64.wrap (c.1.2.2.1+(1:Int))),()),i,()))
else
 some (.inl ((c.1.1,(),(IntKind.i64.wrap (c.1.2.2.1+(1:Int))),()),c.2.1,()))
else
 some (.inr (.inr (((),()),y.2.1,())))
noncomputable def C':tn.H->Option (aW nR):=bP x8
theorem Zm:br af (aF (codeOf Tryz.f96) 1 58) (bB tn nR C'):=cK Gm (by kernel_rfl) (bJ WW aA) fun y=>by kernel_rfl
abbrev i96:Shape:=⟨[a0 0 .entry,a0 1 .entry],[],69⟩
abbrev Ps:Shape:=⟨[b6 4 3000256,aZ 5],[cl 3000256 .entry 4 0],69⟩
noncomputable def f96(a:i96.H):Option Ps.H:=
(f156 ((a.1.1,()),())).bind fun b=>
(C' ((a.1.2.1,(),(0:Int),()),b.2.1,())).bind fun c=>
(match c with
|.inl d=>
 some (((),d.1.2.1,()),d.2.1,())
|.inr e=>
(f158 ((e.2.1,()),())).bind fun f=>
 some (((),f.1.1,()),e.2.1,()))
noncomputable def QN:a4:=bi aD Tryz.f96 i96 Ps [] f96
theorem adA:a6 af 96 QN:=bk Gm Tryz.func96 (by kernel_rfl) (bJ Zm aA) (fun y=>by kernel_rfl) fun a=>by kernel_rfl
noncomputable abbrev agL:bF:=[(158,EU),(161,ET),(162,ES),(163,OA)]
theorem ahg:bb af (bz aD agL):=bC ⟨Mu,Mt,Ms,aaK,⟨⟩⟩
abbrev i98:Shape:=⟨[dw 0 [bG,bG,en .need,en .entry]],[],23⟩
abbrev Pq:Shape:=⟨[aZ 2],[],23⟩
noncomputable def f98(a:i98.H):Option Pq.H:=
(f161 ((a.1.1.1,()),())).bind fun b=>
 bif b.1.1 then
(f162 ((a.1.1.2.1,()),())).bind fun c=>
 bif c.1.1 then
(f163 ((a.1.1.1,a.1.1.2.2.1,()),())).bind fun d=>
 bif d.1.1 then
(f158 ((a.1.1.2.2.2.1,()),())).bind fun e=>
 some ((e.1.1,()),())
else
 some ((false,()),())
else
 some ((false,()),())
else
 some ((false,()),())
noncomputable def QL:a4:=bi aD Tryz.f98 i98 Pq [] f98
theorem ady:a6 af 98 QL:=bk ahg Tryz.func98 (by kernel_rfl) aA (fun y=>by kernel_rfl) fun a=>by kernel_rfl
abbrev vi(p:bE):Prop:=cj p.name.length/\cj p.bT.length/\un p.b5/\jY p.cr
abbrev gh(ps:List bE):Prop:=cj ps.length/\∀p,p∈ps->vi p
def eI(p:bE):Bool:=kA p.name&&eB p.bT&&qA p.name p.b5&&er p.cr
theorem WA(a)(hb:vi ⟨a.1.1.1,a.1.1.2.1,a.1.1.2.2.1,a.1.1.2.2.2.1⟩):f98 a=some ((eI ⟨a.1.1.1,a.1.1.2.1,a.1.1.2.2.1,a.1.1.2.2.2.1⟩,()),()):=by
 obtain⟨⟨⟨n,v,aC,t,u⟩,bA⟩,hU⟩:=a;obtain⟨h1,h2,Z,aH⟩:=hb;have h1:n.length<=2097152:=h1;have e1:=I8 ((n,()),()) (show n.length<=1099511627776 by omega)
 have e2:=HA ((v,()),()) h2;have bK:=UX ((n,(aC,())),()) Z h1;have dW:=I_ ((t,()),()) aH;simp only[f98,e1,e2,bK,dW,Option.bind_some,eI];cases kA n<;>cases eB v<;>cases qA n aC<;>rfl
theorem U4(a)(hb:vi ⟨a.1.1.1,a.1.1.2.1,a.1.1.2.2.1,a.1.1.2.2.2.1⟩):f74 a=some ((eI ⟨a.1.1.1,a.1.1.2.1,a.1.1.2.2.1,a.1.1.2.2.2.1⟩,()),()):=by
 obtain⟨⟨⟨n,v,aC,t,u⟩,bA⟩,hU⟩:=a;obtain⟨h1,h2,Z,aH⟩:=hb;have h1:n.length<=2097152:=h1;have e1:=Hn ((n,()),()) (show n.length<=1099511627776 by omega)
 have e2:=Aj ((v,()),()) h2;have bK:=U_ ((aC,((),())),()) Z;have dW:=vR ((t,()),()) aH;have fW:=SF ((aC,((),(([n]:List al),()))),()) Z (Nat.le_refl _);have dm:decide ((aC.length:Int)>6)=!decide (aC.length<=6):=by by_cases h:aC.length<=6<;>simp only[h,decide_true,decide_false,Bool.not_true,Bool.not_false,decide_eq_true_eq,decide_eq_false_iff_not]<;>omega
 have Y:jo [] (n::aC.map (·.name))=jo [n] (aC.map (·.name)):=by simp[jo]
 simp only[f74,Dr,e1,e2,Option.bind_some,eI,qA,Y,dm,Bool.not_not];cases kA n with
 |false=>rfl
 |true=>
  cases eB v with
  |false=>rfl
  |true=>
   cases decide (aC.length<=6) with
   |false=>simp only[cond_true,Bool.not_false,Option.bind_some,Bool.and_false,Bool.false_and]
   |true=>
    simp only[cond_true,Bool.not_true,cond_false,Option.bind_some,bK,fW,dW,Bool.true_and,Bool.and_true];cases List.all aC hq<;>cases jo [n] (aC.map (·.name))<;>rfl
theorem U9(a)(M:gh a.1.1):yo a=some ((a.1.1.all eI,()),()):=by
 obtain⟨⟨ps,u⟩,bA⟩:=a;obtain⟨hl,hn⟩:=M;have hl:ps.length<=2097152:=hl;have key:AZ (((),(ps,((ps.length:Int),((0:Int),())))),())=some (bif allI (fun _ n=>eI n) 0 ps then .inr ((),()) else .inl ((false,()),())):=by
  refine fK we ps (fun i=>(((),(ps,((ps.length:Int),((i:Int),())))),())) _ _ _ (fun i x hx=>?_) ?_
  ·have hi:=cy hx;have hw:aJ i:=by unfold aJ;omega
   have hb:=hn x (List.mem_of_getElem? hx);simp only[we,cx hi,cond_true,b_,hx,Option.bind_some];rw[U4 _ hb];simp only[Option.bind_some,ch hw];cases eI x<;>rfl
  ·simp only[we,c7,cond_false]
 rw[gL] at key;simp only[yo,key,Option.bind_some];cases List.all ps eI<;>rfl
def mW(ps:List bE)(i:Nat)(x:bE):Bool:=match ps[i]? with
 |some q=>Op.bytesLess q.name x.name
 |none=>false
def kN(ps:List bE):Bool:=allI (mW ps) 0 ps.tail
theorem Sj(a)(M:cj a.1.1.length):f141 a=some ((kN a.1.1,()),()):=by
 obtain⟨⟨ps,u⟩,bA⟩:=a;have M:ps.length<=2097152:=M;have key:Cz ((ps,((1:Int),())),())=some (bif allI (mW ps) 0 ps.tail then .inr ((),()) else .inl ((false,()),())):=by
  refine fK xA ps.tail (fun i=>((ps,(((i+1:Nat):Int),())),())) _ _ _ (fun i x hx=>?_) ?_
  ·have j2:ps[i+1]? =some x:=by rw[List.getElem?_tail] at hx;exact hx
   have hi:=cy j2;have hw:aJ (i+1):=by unfold aJ;omega
   obtain⟨q,aL⟩:∃q,ps[i]? =some q:=⟨ps[i],List.getElem?_eq_getElem (by omega)⟩
   simp only[xA,cx hi,cond_true,vP (i:=i) (by unfold aJ;omega),b_,aL,j2,Option.bind_some,ch hw,mW]
   cases Op.bytesLess q.name x.name<;>rfl
  ·have:decide (((ps.tail.length+1:Nat):Int)<(ps.length:Int))=false:=by
    simp only[decide_eq_false_iff_not,List.length_tail];omega
   simp only[xA,this,cond_false]
 simp only[f141,key,Option.bind_some,kN];cases allI (mW ps) 0 ps.tail<;>rfl
def jx(a b:aX):Bool:=a.path==b.path&&(a.kind==b.kind&&(a.mode==b.mode&&a.text==b.text))
def ls(e q:aX):Bool:=e.kind !=1||!jx e q
theorem Xx(a b:aX):jx a b=jx b a:=by
 unfold jx;have h1:(a.path==b.path)=(b.path==a.path):=BEq.comm;have h2:(a.kind==b.kind)=(b.kind==a.kind):=BEq.comm;have Z:(a.mode==b.mode)=(b.mode==a.mode):=BEq.comm;have aH:(a.text==b.text)=(b.text==a.text):=BEq.comm;rw[h1,h2,Z,aH]
theorem YT(e q:aX):ls e q=(q.kind !=1||!jx e q):=by
 unfold ls;cases h:jx e q with
 |false=>simp
 |true=>
  unfold jx at h;simp only[Bool.and_eq_true] at h;rw[show e.kind=q.kind from eq_of_beq h.2.1]
def iG(t:List aX)(k:Nat)(e:aX):List aX:=t.take k++[e]++t.drop k
def ga(out:List aX):List aX->Option (List aX)
 |[]=>some out
 |e::r=>match out[bQ out e.path]? with
  |some q=>bif q.path==e.path then(bif ls e q then none else ga out r) else ga (iG out (bQ out e.path) e) r
  |none=>ga (iG out (bQ out e.path) e) r
theorem IT(t:List aX)(k:Nat)(e:aX)(h:k<=t.length):(iG t k e).length=t.length+1:=by
 unfold iG;simp only[List.length_append,List.length_take,List.length_cons,List.length_nil,List.length_drop];omega
theorem A1{t:List aX}{k:Nat}{e x:aX}(h:x∈iG t k e):x=e\/x∈t:=by
 unfold iG at h;rcases List.mem_append.1 h with h|h
 ·rcases List.mem_append.1 h with h|h
  ·exact .inr (List.mem_of_mem_take h)
  ·exact .inl (by simpa using h)
 ·exact .inr (List.mem_of_mem_drop h)
def gQ(out:List aX)(e:aX):Option (List aX):=match out[bQ out e.path]? with
 |some q=>bif q.path==e.path then(bif ls e q then none else some out) else some (iG out (bQ out e.path) e)
 |none=>some (iG out (bQ out e.path) e)
theorem sJ(out:List aX)(e:aX)(r:List aX):ga out (e::r)=(gQ out e).bind fun D=>ga D r:=by
 unfold gQ;rw[ga];cases out[bQ out e.path]? with
 |none=>rfl
 |some q=>
  simp only;cases (q.path==e.path) with
  |false=>rfl
  |true=>cases ls e q<;>rfl
theorem vS{out D:List aX}{e:aX}(h:gQ out e=some D):D.length<=out.length+1:=by
 unfold gQ at h;split at h
 ·rename_i q aL;cases an:(q.path==e.path) with
  |true=>
   rw[an] at h;cases hc:ls e q with
   |true=>rw[hc] at h;cases h
   |false=>rw[hc] at h;cases h;omega
  |false=>rw[an] at h;cases h;rw[IT _ _ _ (qy _ _)];omega
 ·cases h;rw[IT _ _ _ (qy _ _)];omega
theorem AO{out D:List aX}{e x:aX}(h:gQ out e=some D)(hx:x∈D):x=e\/x∈out:=by
 unfold gQ at h;split at h
 ·rename_i q aL;cases an:(q.path==e.path) with
  |true=>
   rw[an] at h;cases hc:ls e q with
   |true=>rw[hc] at h;cases h
   |false=>rw[hc] at h;cases h;exact .inr hx
  |false=>rw[an] at h;cases h;exact A1 hx
 ·cases h;exact A1 hx
theorem YZ{t:List aX}{e:aX}(a9:fg t)(hn:jh t e.path=false):fg (iG t (bQ t e.path) e):=by
 have NN:∀a,a∈t.take (bQ t e.path)->Op.bytesLess a.path e.path=true:=by
  intro a h;obtain⟨k,ag⟩:=List.mem_iff_getElem?.1 h;have Qe:k<bQ t e.path:=by have:=cy ag;rw[List.length_take] at this;omega
  have uU:t[k]? =some a:=by rw[List.getElem?_take,if_pos Qe] at ag;exact ag
  rw[jI a9 k a uU];simpa using Qe
 have Mc:∀a,a∈t.drop (bQ t e.path)->Op.bytesLess e.path a.path=true:=by
  intro a h;obtain⟨k,ag⟩:=List.mem_iff_getElem?.1 h;rw[List.getElem?_drop] at ag;have h1:=jI (p:=e.path) a9 _ a ag;have h2:Op.bytesLess a.path e.path=false:=by rw[h1];simp
  refine Z1 _ _ h2 ?_
  cases aL:(a.path==e.path) with
  |false=>rfl
  |true=>
   exfalso
   cases k with
   |zero=>
    unfold jh at hn;rw[Nat.add_zero] at ag;rw[ag] at hn;simp only[aL] at hn;cases hn
   |succ k=>
    have aY:=cy ag;obtain⟨q,FG⟩:∃q,t[bQ t e.path]? =some q:=⟨_,List.getElem?_eq_getElem (by omega)⟩
    have Z:=List.pairwise_iff_getElem.1 a9 (bQ t e.path) (bQ t e.path+(k+1)) (cy FG) aY (by omega)
    rw[(List.getElem?_eq_some_iff.1 FG).2,(List.getElem?_eq_some_iff.1 ag).2] at Z;have aH:=jI (p:=e.path) a9 _ q FG;rw[<-eq_of_beq aL,Z] at aH;simp at aH
 unfold fg iG;refine List.pairwise_append.2 ⟨List.pairwise_append.2 ⟨a9.take _,by simp,?_⟩,List.Pairwise.sublist (List.drop_sublist _ _) a9,?_⟩
 ·intro a h b hb;have hb:b=e:=by simpa using hb
  subst hb;exact NN a h
 ·intro a h b hb;rcases List.mem_append.1 h with h|h
  ·exact s5 _ _ _ (NN a h) (Mc b hb)
  ·have h:a=e:=by simpa using h
   subst h;exact Mc b hb
theorem Vh{out D:List aX}{e:aX}(a9:fg out)(h:gQ out e=some D):fg D:=by
 unfold gQ at h;have lD:∀{b:Bool},jh out e.path=b->b=false->fg (iG out (bQ out e.path) e):=fun h1 h2=>YZ a9 (h1.trans h2)
 split at h
 ·rename_i q aL;cases an:(q.path==e.path) with
  |true=>
   rw[an] at h;cases hc:ls e q with
   |true=>rw[hc] at h;cases h
   |false=>rw[hc] at h;cases h;exact a9
  |false=>rw[an] at h;cases h;exact lD (by unfold jh;rw[aL]) an
 ·rename_i aL;cases h;exact lD (by unfold jh;rw[aL]) rfl
theorem Ws(a)(a9:jY a.1.1)(hb:jY a.1.2.1)(hl:a.1.1.length+a.1.2.1.length<=2097152):f96 a=
  some (match ga a.1.1 a.1.2.1 with|some out=>(((),(er out,())),(out,()))|none=>(((),(false,())),(([]:List aX),()))):=by
 obtain⟨⟨xs,ys,u⟩,bA⟩:=a;have hl:xs.length+ys.length<=2097152:=hl;have hc:f156 ((xs,()),())=some (((),()),(xs,())):=by
  simp only[f156];rw[kC (by decide) (by unfold aJ;simp only[List.length_nil];omega)]
  rfl
 have key:C' ((ys,((),((0:Int),()))),(xs,()))=_:=lX x8 ys (fun i (out:List aX)=>((ys,((),((i:Int),()))),(out,())))
  (fun i e out=>some (match gQ out e with|some D=>.inl D|none=>.inr ((.inl (((),(false,())),(([]:List aX),()))):aW nR))) (fun out=>((.inr (((),()),(out,()))):aW nR))
  (fun i out=>out.length<=xs.length+i/\∀e,e∈out->mx e) xs ⟨Nat.le_refl _,a9.2⟩ (fun i x out hx db=>?_) (fun out _=>?_)
 ·have fold:∀(r:List aX) (k:Nat) (out:List aX),et (fun i e out=>some (match gQ out e with|some D=>.inl D|none=>.inr ((.inl (((),(false,())),(([]:List aX),()))):aW nR))) (fun out=>((.inr (((),()),(out,()))):aW nR)) k r out=
    some (match ga out r with|some D=>.inr (((),()),(D,()))|none=>.inl (((),(false,())),(([]:List aX),()))):=by
   intro r;induction r with
   |nil=>intro k out;rfl
   |cons e r ih=>
    intro k out;rw[sJ];simp only[et];cases gQ out e with
    |none=>rfl
    |some D=>simp only[Option.bind_some];exact ih _ _
  have mem:∀(r:List aX) (out D:List aX),(∀e,e∈r->mx e)->(∀e,e∈out->mx e)->ga out r=some D->D.length<=out.length+r.length/\∀e,e∈D->mx e:=by
   intro r;induction r with
   |nil=>intro out D _ h2 h;cases h;exact⟨Nat.le_refl _,h2⟩
   |cons e r ih=>
    intro out D h1 h2 h;rw[sJ] at h;obtain⟨o1,Z,aH⟩:=Option.bind_eq_some_iff.1 h;have bp:=ih o1 D (fun x hx=>h1 x (List.mem_cons_of_mem _ hx)) (fun x hx=>by
     rcases AO Z hx with rfl|h
     ·exact h1 x List.mem_cons_self
     ·exact h2 x h) aH
    have dm:=vS Z;exact⟨by simp only[List.length_cons];omega,bp.2⟩
  rw[fold] at key;simp only[f96,hc,Option.bind_some,key];cases hj:ga xs ys with
  |none=>rfl
  |some D=>
   have hm:=mem ys xs D hb.2 a9.2 hj;simp only[Option.bind_some];rw[I_ _ ⟨show D.length<=2097152 by omega,hm.2⟩]
   rfl
 ·have hi:=cy hx;have hw:aJ i:=by unfold aJ;omega
  refine⟨?_,fun aj aa=>?_⟩
  ·have j9:=KB ((out,(x.path,())),()) (show out.length<=2097152 by omega)
   have kU:=qy out x.path;simp only[x8,cx hi,cond_true,b_,hx,Option.bind_some,j9,By,jh,gQ];have grow:((dr out 0 (bQ out x.path:Int)).bind fun aba=>(ez 48 ([]:List aX) aba).bind fun aa9=>(ez 48 aa9 ([x]:List aX)).bind fun aa8=>(dr out (bQ out x.path:Int) (out.length:Int)).bind fun aa7=>(ez 48 aa8 aa7).bind fun aa6=>
     (some (.inl ((ys,((),((IntKind.i64.wrap ((i:Int)+(1:Int))),()))),(aa6,()))):Option (Sum tn.H (aW nR))))=some (.inl ((ys,((),(((i+1:Nat):Int),()))),(iG out (bQ out x.path) x,()))):=by
    have hlen:(out.take (bQ out x.path)).length<=out.length:=by rw[List.length_take];omega
    have ai3:(out.drop (bQ out x.path)).length<=out.length:=by rw[List.length_drop];omega
    rw[qw kU,Option.bind_some,kC (by decide) (by unfold aJ;simp only[List.length_nil];omega),Option.bind_some,kC (by decide) (by unfold aJ;simp only[List.length_nil,List.length_cons,List.nil_append];omega),Option.bind_some,Iz kU,Option.bind_some,
     kC (by decide) (by unfold aJ;simp only[List.length_append,List.length_nil,List.length_cons,List.nil_append];omega),Option.bind_some,ch hw]
    rfl
   cases aL:out[bQ out x.path]? with
   |none=>simp only[cond_false,Option.bind_some,Bool.not_false,cond_true,b_,hx];exact grow
   |some q=>
    have hin:=l1 (cy aL);simp only;cases an:(q.path==x.path) with
    |false=>simp only[cond_false,Option.bind_some,Bool.not_false,cond_true,b_,hx];exact grow
    |true=>
     have zP:((x.path==q.path)&&((x.kind==q.kind)&&((x.mode==q.mode)&&(x.text==q.text))))=jx x q:=rfl;rw[YT];simp only[cond_true,hin,aL,Option.bind_some,b_,hx,zP];cases ag:(q.kind !=1) with
     |true=>rfl
     |false=>
      simp only[cond_false,Option.bind_some,Bool.false_or];cases jx x q with
      |false=>rfl
      |true=>simp only[Bool.not_true,cond_false,Option.bind_some,ch hw];rfl
  ·simp only[Option.some.injEq] at aa;cases M:gQ out x with
   |none=>rw[M] at aa;cases aa
   |some D=>
    rw[M] at aa;cases aa;have dm:=vS M;refine⟨by omega,fun e he=>?_⟩
    rcases AO M he with rfl|h
    ·exact hb.2 e (List.mem_of_getElem? hx)
    ·exact db.2 e h
 ·simp only[x8,c7,cond_false]
abbrev i159:Shape:=⟨[a0 0 .entry],[],8⟩
abbrev Eb:Shape:=⟨[b6 2 3000128],[cl 3000128 .entry 2 0],8⟩
noncomputable def f159(a:i159.H):Option Eb.H:=
 oM (t:=.entry) a.1.1 (some (((),()),([]:List aX),())) ((ez 48 ([]:List aX) a.1.1).bind fun b=>
 some (((),()),b,()))
noncomputable def OB:a4:=bi aD Tryz.f159 i159 Eb [] f159
theorem aaL:a6 af 159 OB:=bk g0 Tryz.func159 (by kernel_rfl) aA (fun y=>by kernel_rfl) fun a=>by kernel_rfl
noncomputable abbrev agZ:bF:=[(96,QN)]
theorem Rl:bb af (bz aD agZ):=bC ⟨adA,⟨⟩⟩
abbrev xY:Shape:=⟨[a0 0 .pack,b6 4 3000256,ak 5],[cl 3000256 .entry 4 0],30⟩
abbrev oW:List bd:=[(.ret,⟨[b6 2 3000128,aZ 3],[cl 3000128 .entry 2 0],30⟩),(.exit 0,⟨[b6 4 3000256],[cl 3000256 .entry 4 0],30⟩)]
noncomputable def ye(y:xY.H):cI xY oW:=
 bif(decide (y.1.2.2.1<(y.1.1.length:Int))) then
(bl y.1.1 y.1.2.2.1).bind fun a=>
(f96 ((y.2.1,a.cr,()),())).bind fun b=>
 bif(!b.1.2.1) then
 some (.inr (.inl (((),false,()),([]:List aX),())))
else
 some (.inl ((y.1.1,(),(IntKind.i64.wrap (y.1.2.2.1+(1:Int))),()),b.2.1,()))
else
 some (.inr (.inr (((),()),y.2.1,())))
noncomputable def Di:xY.H->Option (aW oW):=bP ye
theorem Zy:br af (aF (codeOf Tryz.f51) 1 58) (bB xY oW Di):=cK Rl (by kernel_rfl) aA fun y=>by kernel_rfl
abbrev i51:Shape:=⟨[a0 0 .pack],[],30⟩
abbrev PK:Shape:=⟨[b6 2 3000128,aZ 3],[cl 3000128 .entry 2 0],30⟩
noncomputable def f51(a:i51.H):Option PK.H:=
(Di ((a.1.1,(),(0:Int),()),([]:List aX),())).bind fun b=>
(match b with
|.inl c=>
 some (((),c.1.2.1,()),c.2.1,())
|.inr d=>
 some (((),true,()),d.2.1,()))
noncomputable def Gk:a4:=bi aD Tryz.f51 i51 PK [] f51
theorem Pc:a6 af 51 Gk:=bk Rl Tryz.func51 (by kernel_rfl) (bJ Zy aA) (fun y=>by kernel_rfl) fun a=>by kernel_rfl
theorem VW(g n c i vb m vc:Nat)(cur vcur:Array Value)(te ve:TypeId)(w:World)(hi:i<n)(hm:0<m)(hroom:n+m<=c)(hc63:c<=9223372036854775807)(hne:vb≠g)
  (hg:w.heap[g]? =some (.cells cur te (0,0))) (hv:w.heap[vb]? =some (.cells vcur ve (0,0))) (hcs:cur.size=c*4) (hvs:m*4<=vcur.size)
  (h1c:∀v∈cur.toList.take (n*4),v.oneCell'=true) (h1v:∀v∈vcur.toList.take (m*4),v.oneCell'=true):
  Calls af 160 #[.slice (some ⟨g,0,none⟩) n c,.int .i64 i,.slice (some ⟨vb,0,none⟩) m vc] w fun e w'=>
   e=.returned (.slice (some ⟨g,0,none⟩) (n+m) c)/\w'=w.drew.setRow g (bf (bf cur.toList ((i+m)*4) ((cur.toList.take (n*4)).drop (i*4))) (i*4) (vcur.toList.take (m*4))).toArray:=by
 have t33:af.underlying 26=some (.slice 73):=by kernel_rfl
 have hsz:(af.info? 73).map (·.size)=some 4:=by kernel_rfl
 have hz1:¬((m:Int)=0):=by omega
 have hz2:¬((i:Int)=(n:Int)):=by omega
 have hov:∀off lb cb,(callFunc 213 #[.slice (some ⟨vb,0,none⟩) m vc,.slice (some ⟨g,off,none⟩) lb cb]).run af w=.ok (.value (.bool false)) w:=fun off lb cb=>by
  rw[run_callFunc_extern Tryz.func213 (by kernel_rfl) (by kernel_rfl) (by kernel_rfl) (e:=Extern.SlicesOverlaps.overlaps #[26,26] #[4]) (by kernel_rfl),
   Lib.run_overlaps_apart w 26 4 73 t33 4 (fun w=>by kernel_rfl) ⟨vb,0,none⟩ ⟨g,off,none⟩ m vc lb cb hne ve te vcur.size cur.size (by simp[World.shape?,hv]) (by simp[World.shape?,hg]) (by omega) (by simp[World.frozen?,hv]) (by simp[World.frozen?,hv])]
  rfl
 have hdl:((cur.toList.take (n*4)).drop (i*4)).length=(n-i)*4:=by simp only[List.length_drop,List.length_take,Array.length_toList,hcs];rw[Nat.min_eq_left (by omega),Nat.sub_mul]
 have hcl:∀j v,(cur.toList.take (n*4))[j]? =some v->w.cell? ⟨g,j,none⟩=some v:=fun j v h=>by
  rw[List.getElem?_take] at h;split at h
  ·simpa[World.cell?,hg] using h
  ·cases h
 have hcv:∀j v,(vcur.toList.take (m*4))[j]? =some v->w.cell? ⟨vb,j,none⟩=some v:=fun j v h=>by
  rw[List.getElem?_take] at h;split at h
  ·simpa[World.cell?,hv] using h
  ·cases h
 have hcp1:∀ty dc sc,(Builtin.copy_ #[26,26] ty #[.slice (some ⟨g,(i+m)*4,none⟩) (n+m-(i+m)) dc,.slice (some ⟨g,i*4,none⟩) (n+m-i) sc]).run af w.drew=
   .ok (goInt (Nat.min (n+m-i) (n+m-(i+m)))) (w.drew.setRow g (bf cur.toList ((i+m)*4) ((cur.toList.take (n*4)).drop (i*4))).toArray):=fun ty dc sc=>
  vM w.drew _ _ ty 73 4 g ((i+m)*4) (n+m-(i+m)) dc ⟨g,i*4,none⟩ (n+m-i) sc cur te _ t33 hsz hg (by rw[hdl];simp only[Nat.min_def];split<;>omega)
   (fun j v hj=>by rw[Addr.add_lit];exact hcl (i*4+j) v (by rwa[List.getElem?_drop] at hj)) (by rw[hdl,hcs];omega) (fun v hv=>h1c v (List.mem_of_mem_drop hv))
 obtain⟨cur1,hcur1⟩:∃cur1,cur1=(bf cur.toList ((i+m)*4) ((cur.toList.take (n*4)).drop (i*4))).toArray:=⟨_,rfl⟩;rw[<-hcur1] at hcp1;have hc1s:cur1.size=c*4:=by rw[hcur1];simp only[bf,List.size_toArray,List.length_append,List.length_drop,List.length_take,Array.length_toList,hcs];omega
 have hcp2:∀(W:World),W.heap=(w.drew.setRow g cur1).heap->∀ty dc,(Builtin.copy_ #[26,26] ty #[.slice (some ⟨g,i*4,none⟩) (n+m-i) dc,.slice (some ⟨vb,0,none⟩) m vc]).run af W=
   .ok (goInt (Nat.min m (n+m-i))) (W.setRow g (bf cur1.toList (i*4) (vcur.toList.take (m*4))).toArray):=fun W hW ty dc=>
  vM W _ _ ty 73 4 g (i*4) (n+m-i) dc ⟨vb,0,none⟩ m vc cur1 te _ t33 hsz (by rw[hW];exact setRow_heap w.drew g cur cur1 te (0,0) hg)
   (by simp only[List.length_take,Array.length_toList,Nat.min_def];split<;>split<;>omega)
   (fun j v hj=>by
    have:=hcv j v hj;rw[Addr.add_lit,Nat.zero_add];unfold World.cell? at this ⊢;rw[hW,show(w.drew.setRow g cur1).heap[vb]? =w.heap[vb]? from setRow_other w.drew g vb cur1 hne];exact this) (by simp only[List.length_take,Array.length_toList];omega) h1v
 have hE:w.drew.setRow g (bf (bf cur.toList ((i+m)*4) ((cur.toList.take (n*4)).drop (i*4))) (i*4) (vcur.toList.take (m*4))).toArray=(w.drew.setRow g cur1).setRow g (bf cur1.toList (i*4) (vcur.toList.take (m*4))).toArray:=by
  rw[setRow_setRow,hcur1]
 rw[hE];clear hE hcur1;have hw1:IntKind.i64.wrap ((i:Int)+(m:Int))=(i:Int)+(m:Int):=by rw[IntKind.wrap_i64];omega
 have hb1:(0:Int)<=(i:Int)+(m:Int):=by omega
 have hin:i<=n:=by omega
 have htn:((i:Int)+(m:Int)).toNat=i+m:=by omega
 have hb2:¬(c=i+m):=by omega
 have hb3:(i:Int)<=(n:Int)+(m:Int):=by omega
 have hb4:¬(c=i):=by omega
 go_enter Tryz.func160,Tryz.ntmps160
 go_wp2_with (simp only[hov])
 go_region_law (refine HC rfl _ _ 26 26 rfl (.slice (some ⟨g,(i+m)*4,none⟩) (n+m-(i+m)) (c-(i+m))) (.slice (some ⟨g,i*4,none⟩) (n+m-i) (c-i)) (by simp[Act.eval,Act.put]) (by simp[Act.eval,Act.put]) (hcp1 _ _ _) ?_)
 go_wp2_with (at_builtin;refine Hi _ rfl _ _ 26 26 rfl _ _ rfl rfl (hcp2 _ rfl _ _) ?_)
 go_ret
 exact⟨rfl,rfl⟩
theorem VY(xa:Option Addr)(vc:Nat)(w:World):
  Calls af 160 #[.slice none 0 0,.int .i64 0,.slice xa 0 vc] w fun e w'=>e=.returned (.slice none 0 0)/\w'=w:=by
 go_enter Tryz.func160,Tryz.ntmps160
 go_wp2
 go_ret
 exact⟨rfl,rfl⟩
theorem VX(g n c i:Nat)(xa:Option Addr)(vc:Nat)(w:World)(hi:i<=n)(hnc:n<=c)(hc63:c<=9223372036854775807):
  Calls af 160 #[.slice (some ⟨g,0,none⟩) n c,.int .i64 i,.slice xa 0 vc] w fun e w'=>e=.returned (.slice (some ⟨g,0,none⟩) n c)/\w'=w:=by
 go_enter Tryz.func160,Tryz.ntmps160
 go_wp2
 all_goals(go_ret;exact⟨rfl,rfl⟩)
theorem Xr(xa:Option Addr)(m vc:Nat)(w:World)(hm:0<m)(v':Value)(W:World)(hr:∀ty,(Builtin.append_ #[26,26] ty #[.slice none 0 0,.slice xa m vc]).run af w=.ok v' W):
  Calls af 160 #[.slice none 0 0,.int .i64 0,.slice xa m vc] w fun e w'=>e=.returned v'/\w'=W:=by
 have hz1:¬((m:Int)=0):=by omega
 go_enter Tryz.func160,Tryz.ntmps160
 go_wp2_with (at_builtin;refine Ah _ rfl _ _ 26 26 rfl _ _ rfl rfl (hr _) ?_)
 go_ret
 exact⟨rfl,rfl⟩
theorem Xq(g n c:Nat)(xa:Option Addr)(m vc:Nat)(w:World)(hnc:n<=c)(hc63:c<=9223372036854775807)(hm:0<m)(v':Value)(W:World)(hr:∀ty,(Builtin.append_ #[26,26] ty #[.slice (some ⟨g,0,none⟩) n c,.slice xa m vc]).run af w=.ok v' W):
  Calls af 160 #[.slice (some ⟨g,0,none⟩) n c,.int .i64 n,.slice xa m vc] w fun e w'=>e=.returned v'/\w'=W:=by
 have hz1:¬((m:Int)=0):=by omega
 go_enter Tryz.func160,Tryz.ntmps160
 go_wp2_with (at_builtin;refine Ah _ rfl _ _ 26 26 rfl _ _ rfl rfl (hr _) ?_)
 all_goals(go_ret;exact⟨rfl,rfl⟩)
theorem Xp(g n c i vb m vc:Nat)(cur vcur:Array Value)(te ve:TypeId)(w:World)(hi:i<n)(hm:0<m)(hnc:n<=c)(hroom:c<n+m)(hc63:c<=9223372036854775807)(hbig:(n+m)*48<=140737488355328)
  (hg:w.heap[g]? =some (.cells cur te (0,0))) (hv:w.heap[vb]? =some (.cells vcur ve (0,0))) (hcs:cur.size=c*4) (hvs:m*4<=vcur.size)
  (h1c:∀v∈cur.toList.take (n*4),v.oneCell'=true) (h1v:∀v∈vcur.toList.take (m*4),v.oneCell'=true):
  ∃G ROW,∃W:World,G<=maxLen/\n+m<=G/\ROW.size=G*4/\ROW.toList.take (i*4)=cur.toList.take (i*4)/\W.os=w.os/\W.tape=w.tape/\W.output=w.output/\W.heap=w.heap.push (.cells ROW 73 (0,0))/\
  Calls af 160 #[.slice (some ⟨g,0,none⟩) n c,.int .i64 i,.slice (some ⟨vb,0,none⟩) m vc] w fun e w'=>
   e=.returned (.slice (some ⟨w.heap.size,0,none⟩) (n+m) G)/\w'.os=w.os/\w'.tape=w.tape/\w'.output=w.output/\
    w'.heap=(W.setRow w.heap.size (bf (bf ROW.toList (i*4) (vcur.toList.take (m*4))) ((i+m)*4) ((cur.toList.take (n*4)).drop (i*4))).toArray).heap:=by
 have t33:af.underlying 26=some (.slice 73):=by kernel_rfl
 have t3:af.underlying 3=some (.int .i64):=by kernel_rfl
 have hsz:(af.info? 73).map (·.size)=some 4:=by kernel_rfl
 have hinfo:(af.info? 73).map (fun i=>(i.zero.map (·.cells.size),i.size,i.bytes))=some (some 4,4,48):=by kernel_rfl
 obtain⟨i0,hi0,hzz⟩:=Option.map_eq_some_iff.1 hinfo;simp only[Prod.mk.injEq] at hzz;obtain⟨hz0,hzs,hzb⟩:=hzz;obtain⟨z,hz,hzc⟩:=Option.map_eq_some_iff.1 hz0;have hz1:¬((m:Int)=0):=by omega
 have hz2:¬((i:Int)=(n:Int)):=by omega
 have hz3:(c:Int)<(n:Int)+(m:Int):=by omega
 have hgw:g<w.heap.size:=(Array.getElem?_eq_some_iff.1 hg).1;have hvw:vb<w.heap.size:=(Array.getElem?_eq_some_iff.1 hv).1;have hkk:(n:Int)+(m:Int)-(i:Int)=((n+m-i:Nat):Int):=by omega
 have hik:i+(n+m-i)=n+m:=by omega
 have hdl:((cur.toList.take (n*4)).drop (i*4)).length=(n-i)*4:=by simp only[List.length_drop,List.length_take,Array.length_toList,hcs];rw[Nat.min_eq_left (by omega),Nat.sub_mul]
 have hcl:∀j v,(cur.toList.take (n*4))[j]? =some v->w.cell? ⟨g,j,none⟩=some v:=fun j v h=>by
  rw[List.getElem?_take] at h;split at h
  ·simpa[World.cell?,hg] using h
  ·cases h
 have hcv:∀j v,(vcur.toList.take (m*4))[j]? =some v->w.cell? ⟨vb,j,none⟩=some v:=fun j v h=>by
  rw[List.getElem?_take] at h;split at h
  ·simpa[World.cell?,hv] using h
  ·cases h
 have hold:(Builtin.firstCells i0.size i (.slice (some ⟨g,0,none⟩) i c)).run af w.drew=.ok (cur.toList.take (i*4)).toArray w.drew:=by
  rw[hzs];exact run_firstCells_some w.drew 4 i ⟨g,0,none⟩ i c (cur.toList.take (i*4)) (by simp only[List.length_take,Array.length_toList,hcs];omega) (fun j v hj=>by
   rw[Addr.add_lit,Nat.zero_add];refine hcl j v ?_
   rw[List.getElem?_take] at hj ⊢;split at hj
   ·rw[if_pos (by omega)];exact hj
   ·cases hj)
 have hrz:∀ty,(Builtin.append_ #[26,3] ty #[.slice (some ⟨g,0,none⟩) i c,.int .i64 ((n:Int)+(m:Int)-(i:Int))]).run af w=
   .ok (.slice (some ⟨w.heap.size,0,none⟩) (n+m) (grownCap w (n+m) c 73)) (w.drew.alloc (.cells ((cur.toList.take (i*4)).toArray++Builtin.zeroCells z.cells (n+m-i)++Builtin.zeroCells z.cells (grownCap w (n+m) c 73-(n+m))) 73)):=fun ty=>by
  have h:=Lib.run_append_grow_zeros w 26 3 ty 73 i0 z .i64 .i64 t33 t3 hi0 hz (some ⟨g,0,none⟩) i c (cur.toList.take (i*4)) hold (n+m-i) (by omega) (by omega) (by omega) (by omega) (by rw[hzb];omega) (by rw[hzb,hik];exact growslice_fits hroom hbig)
  rw[hik] at h;rw[hkk];exact h
 obtain⟨G,hG⟩:∃G,G=grownCap w (n+m) c 73:=⟨_,rfl⟩;obtain⟨ROW,hROW⟩:∃ROW:Array Value,ROW=(cur.toList.take (i*4)).toArray++Builtin.zeroCells z.cells (n+m-i)++Builtin.zeroCells z.cells (G-(n+m)):=⟨_,rfl⟩;rw[<-hG] at hrz;rw[<-hROW] at hrz;have hGn:n+m<=G:=by rw[hG];exact grownCap_ge w _ _ _
 have hGm:G<=maxLen:=by rw[hG];exact grownCap_le_maxLen w (n+m) c 73 (by unfold maxLen;omega)
 have hG63:G<=9223372036854775807:=by unfold maxLen at hGm;omega
 have hRl:ROW.size=G*4:=by
  rw[hROW];simp only[Array.size_append,List.size_toArray,size_zeroCells,hzc,List.length_take,Array.length_toList,hcs];omega
 have hRt:ROW.toList.take (i*4)=cur.toList.take (i*4):=by
  rw[hROW];simp only[Array.toList_append,List.append_assoc];have:i*4=(cur.toList.take (i*4)).length:=by simp only[List.length_take,Array.length_toList,hcs];omega
  exact List.take_left' this.symm
 refine⟨G,ROW,w.drew.alloc (.cells ROW 73),hGm,hGn,hRl,hRt,rfl,rfl,rfl,rfl,?_⟩;obtain⟨W1,hW1⟩:∃W1,W1=w.drew.alloc (.cells ROW 73):=⟨_,rfl⟩;rw[<-hW1] at hrz ⊢;have hNew:W1.heap[w.heap.size]? =some (.cells ROW 73 (0,0)):=by rw[hW1];exact heap_alloc_new w.drew _
 have hOld:∀b,b<w.heap.size->W1.heap[b]? =w.heap[b]? :=fun b hb=>by rw[hW1];exact RowKit.Below.heap_alloc w.drew _ b hb
 have hos:W1.os=w.os/\W1.tape=w.tape/\W1.output=w.output:=by rw[hW1];exact⟨rfl,rfl,rfl⟩
 have hgN:g≠w.heap.size:=by omega
 have hvN:vb≠w.heap.size:=by omega
 have hcpA:∀(W:World),W.heap=W1.heap->∀ty dc,(Builtin.copy_ #[26,26] ty #[.slice (some ⟨w.heap.size,i*4,none⟩) (n+m-i) dc,.slice (some ⟨vb,0,none⟩) m vc]).run af W=
   .ok (goInt (Nat.min m (n+m-i))) (W.setRow w.heap.size (bf ROW.toList (i*4) (vcur.toList.take (m*4))).toArray):=fun W hW ty dc=>
  vM W _ _ ty 73 4 w.heap.size (i*4) (n+m-i) dc ⟨vb,0,none⟩ m vc ROW 73 _ t33 hsz (by rw[hW];exact hNew)
   (by simp only[List.length_take,Array.length_toList,Nat.min_def];split<;>split<;>omega)
   (fun j v hj=>by
    have:=hcv j v hj;rw[Addr.add_lit,Nat.zero_add];unfold World.cell? at this ⊢;rw[hW,show W1.heap[vb]? =w.heap[vb]? from hOld vb hvw];exact this) (by simp only[List.length_take,Array.length_toList];omega) h1v
 obtain⟨R2,hR2⟩:∃R2,R2=(bf ROW.toList (i*4) (vcur.toList.take (m*4))).toArray:=⟨_,rfl⟩;have hE:W1.setRow w.heap.size (bf (bf ROW.toList (i*4) (vcur.toList.take (m*4))) ((i+m)*4) ((cur.toList.take (n*4)).drop (i*4))).toArray=
   (W1.setRow w.heap.size R2).setRow w.heap.size (bf R2.toList ((i+m)*4) ((cur.toList.take (n*4)).drop (i*4))).toArray:=by rw[setRow_setRow,hR2]
 rw[hE];have hR2s:R2.size=G*4:=by rw[hR2];simp only[bf,List.size_toArray,List.length_append,List.length_drop,List.length_take,Array.length_toList,hRl];omega
 rw[<-hR2] at hcpA;clear hE hR2;have hcpB:∀(W:World),W.heap=(W1.setRow w.heap.size R2).heap->∀ty dc sc,(Builtin.copy_ #[26,26] ty #[.slice (some ⟨w.heap.size,(i+m)*4,none⟩) (n+m-(i+m)) dc,.slice (some ⟨g,i*4,none⟩) (n-i) sc]).run af W=
   .ok (goInt (Nat.min (n-i) (n+m-(i+m)))) (W.setRow w.heap.size (bf R2.toList ((i+m)*4) ((cur.toList.take (n*4)).drop (i*4))).toArray):=fun W hW ty dc sc=>
  vM W _ _ ty 73 4 w.heap.size ((i+m)*4) (n+m-(i+m)) dc ⟨g,i*4,none⟩ (n-i) sc R2 73 _ t33 hsz (by rw[hW];exact setRow_heap W1 w.heap.size ROW R2 73 (0,0) hNew)
   (by rw[hdl];simp only[Nat.min_def];split<;>omega)
   (fun j v hj=>by
    have:=hcl (i*4+j) v (by rwa[List.getElem?_drop] at hj)
    rw[Addr.add_lit];unfold World.cell? at this ⊢;rw[hW,show(W1.setRow w.heap.size R2).heap[g]? =w.heap[g]? from(setRow_other W1 w.heap.size g R2 hgN).trans (hOld g hgw)];exact this) (by rw[hdl,hR2s];omega) (fun v hv=>h1c v (List.mem_of_mem_drop hv))
 have hGi:¬(G=i):=by omega
 have hGim:¬(G=i+m):=by omega
 have hci:¬(c=i):=by omega
 have hw1:IntKind.i64.wrap ((i:Int)+(m:Int))=(i:Int)+(m:Int):=by rw[IntKind.wrap_i64];omega
 have hb1:(0:Int)<=(i:Int)+(m:Int):=by omega
 have hin:i<=n:=by omega
 have htn:((i:Int)+(m:Int)).toNat=i+m:=by omega
 have hb3:(i:Int)<=(n:Int):=by omega
 clear hkk hik hold hROW hG hRl hW1;go_enter Tryz.func160,Tryz.ntmps160
 go_wp2_with (first
  |(at_builtin;refine Ah _ rfl _ _ 26 3 rfl _ _ rfl rfl (hrz _) ?_)
  |(at_builtin;refine Hi _ rfl _ _ 26 26 rfl _ _ rfl rfl (hcpA _ rfl _ _) ?_))
 go_region_law (refine HC rfl _ _ 26 26 rfl (.slice (some ⟨w.heap.size,(i+m)*4,none⟩) (n+m-(i+m)) (G-(i+m))) (.slice (some ⟨g,i*4,none⟩) (n-i) (c-i)) (by simp[Act.eval,Act.put]) (by simp[Act.eval,Act.put]) (hcpB (W1.setRow w.heap.size R2).drew rfl 3 (G-(i+m)) (c-i)) ?_)
 go_wp2
 go_ret
 exact⟨rfl,hos.1,hos.2.1,hos.2.2,rfl⟩
noncomputable def Mj:a4:=CC .entry 48
theorem _h:a6 af 160 Mj:=VV (t:=.entry) (bt:=48) rfl (by decide) (T:=26) (e:=73) ⟨VY,VX,Xr,Xq,VW,Xp⟩ (fun vs w=>enters_of Tryz.func160 (by kernel_rfl) rfl _ _) (by kernel_rfl) (by kernel_rfl)
noncomputable abbrev agM:bF:=[(86,Gi),(87,Gh),(159,OB),(160,Mj)]
theorem z1:bb af (bz aD agM):=bC ⟨Pa,O',aaL,_h,⟨⟩⟩
abbrev KH:Shape:=⟨[a0 0 .entry,a0 1 .entry],[],59⟩
abbrev KD:List bd:=[(.norm,⟨[a0 0 .entry,a0 1 .entry,aZ 18],[],59⟩)]
noncomputable def Do(y:KH.H):Option (aW KD):=
(f86 ((y.1.1,()),())).bind fun a=>
 bif(!(!a.1.1)) then
(f86 ((y.1.2.1,()),())).bind fun b=>
 some ((y.1.1,y.1.2.1,(!b.1.1),()),())
else
 some ((y.1.1,y.1.2.1,true,()),())
theorem Zl:br af (aF (codeOf Tryz.f97) 1 12) (bB KH KD Do):=ep z1 (by kernel_rfl) aA fun y=>by kernel_rfl
abbrev H5:Shape:=⟨[b6 6 3000384,c5 8 8 0,ak 9,a0 21 .entry,ak 22,ak 23],[cl 3000384 .entry 6 0,c4 8 [bG,cH,cH,bG]],59⟩
abbrev H2:List bd:=[(.norm,⟨[b6 6 3000384,a0 21 .entry,ak 22,ak 23,aZ 42,c5 43 8 1,ak 44,aZ 45,aZ 46,aZ 53],[cl 3000384 .entry 6 0,c4 8 [bG,cH,cH,bG]],59⟩)]
noncomputable def AA(y:H5.H):Option (aW H2):=
 bif(y.2.2.1.2.1 !=(1:Int)) then
 some (((),y.1.2.2.2.1,y.1.2.2.2.2.1,y.1.2.2.2.2.2.1,true,(),y.2.2.1.2.1,(y.2.2.1.2.1 !=(1:Int)),true,true,()),y.2.1,(y.2.2.1.1,y.2.2.1.2.1,y.2.2.1.2.2.1,y.2.2.1.2.2.2.1,()),())
else
(e8 y.2.1.length y.1.2.2.1).bind fun a=>
(y.2.1[a]?).bind fun b=>
 some (((),y.1.2.2.2.1,y.1.2.2.2.2.1,y.1.2.2.2.2.2.1,(!((b.path==y.2.2.1.1)&&((b.kind==y.2.2.1.2.1)&&((b.mode==y.2.2.1.2.2.1)&&(b.text==y.2.2.1.2.2.2.1))))),(),y.2.2.1.2.1,(y.2.2.1.2.1 !=(1:Int)),false,(!((b.path==y.2.2.1.1)&&((b.kind==y.2.2.1.2.1)&&((b.mode==y.2.2.1.2.2.1)&&(b.text==y.2.2.1.2.2.2.1))))),()),y.2.1,(y.2.2.1.1,y.2.2.1.2.1,y.2.2.1.2.2.1,y.2.2.1.2.2.2.1,()),())
theorem Ub:br af (aF (dq (aF (codeOf Tryz.f97) 1 122)) 244 250678) (bB H5 H2 AA):=ep z1 (by kernel_rfl) aA fun y=>by kernel_rfl
abbrev wG:Shape:=⟨[b6 6 3000384,a0 21 .entry,ak 22,ak 23],[cl 3000384 .entry 6 0],59⟩
abbrev oR:List bd:=[(.ret,⟨[b6 4 3000256,aZ 5],[cl 3000256 .entry 4 0],59⟩),(.exit 0,⟨[b6 6 3000384],[cl 3000384 .entry 6 0],59⟩)]
noncomputable def xh(y:wG.H):cI wG oR:=
 bif(decide (y.1.2.2.2.1<y.1.2.2.1)) then
(bl y.1.2.1 y.1.2.2.2.1).bind fun a=>
(f87 ((y.2.1,a.path,()),())).bind fun b=>
 bif(!b.1.2.1) then
(rH 48 y.2.1 b.1.1 ([a]:List aX)).bind fun c=>
 some (.inl (((),y.1.2.1,y.1.2.2.1,(IntKind.i64.wrap (y.1.2.2.2.1+(1:Int))),()),c,()))
else
(AA (((),(),b.1.1,y.1.2.1,y.1.2.2.1,y.1.2.2.2.1,()),y.2.1,(a.path,a.kind,a.mode,a.text,()),())).bind fun d=>
 bif d.1.2.2.2.2.1 then
 some (.inr (.inl (((),false,()),([]:List aX),())))
else
 some (.inl (((),d.1.2.1,d.1.2.2.1,(IntKind.i64.wrap (d.1.2.2.2.1+(1:Int))),()),d.2.1,()))
else
 some (.inr (.inr (((),()),y.2.1,())))
noncomputable def Ci:wG.H->Option (aW oR):=bP xh
theorem XY:br af (aF (codeOf Tryz.f97) 1 122) (bB wG oR Ci):=cK z1 (by kernel_rfl) (bJ Ub aA) fun y=>by kernel_rfl
abbrev i97:Shape:=⟨[a0 0 .entry,a0 1 .entry],[],59⟩
abbrev Pr:Shape:=⟨[b6 4 3000256,aZ 5],[cl 3000256 .entry 4 0],59⟩
noncomputable def f97(a:i97.H):Option Pr.H:=
(Do ((a.1.1,a.1.2.1,()),())).bind fun b=>
 bif b.1.2.2.1 then
 some (((),false,()),([]:List aX),())
else
(f159 ((b.1.1,()),())).bind fun c=>
(Ci (((),b.1.2.1,(b.1.2.1.length:Int),(0:Int),()),c.2.1,())).bind fun d=>
(match d with
|.inl e=>
 some (((),e.1.2.1,()),e.2.1,())
|.inr f=>
(f86 ((f.2.1,()),())).bind fun g=>
 bif(!g.1.1) then
 some (((),false,()),([]:List aX),())
else
 some (((),true,()),f.2.1,()))
noncomputable def QM:a4:=bi aD Tryz.f97 i97 Pr [] f97
theorem adz:a6 af 97 QM:=bk z1 Tryz.func97 (by kernel_rfl) (bJ Zl (bJ XY aA)) (fun y=>by kernel_rfl) fun a=>by kernel_rfl
noncomputable abbrev agY:bF:=[(97,QM)]
theorem Rk:bb af (bz aD agY):=bC ⟨adz,⟨⟩⟩
abbrev xX:Shape:=⟨[b6 4 3000256,a0 9 .pack,ak 10,ak 11],[cl 3000256 .entry 4 0],27⟩
abbrev oV:List bd:=[(.ret,⟨[b6 2 3000128,aZ 3],[cl 3000128 .entry 2 0],27⟩),(.exit 0,⟨[b6 4 3000256],[cl 3000256 .entry 4 0],27⟩)]
noncomputable def yd(y:xX.H):cI xX oV:=
 bif(decide (y.1.2.2.2.1<y.1.2.2.1)) then
(bl y.1.2.1 y.1.2.2.2.1).bind fun a=>
(f97 ((y.2.1,a.cr,()),())).bind fun b=>
 bif(!b.1.2.1) then
 some (.inr (.inl (((),false,()),([]:List aX),())))
else
 some (.inl (((),y.1.2.1,y.1.2.2.1,(IntKind.i64.wrap (y.1.2.2.2.1+(1:Int))),()),b.2.1,()))
else
 some (.inr (.inr (((),()),y.2.1,())))
noncomputable def Dh:xX.H->Option (aW oV):=bP yd
theorem Zx:br af (aF (codeOf Tryz.f52) 1 58) (bB xX oV Dh):=cK Rk (by kernel_rfl) aA fun y=>by kernel_rfl
abbrev i52:Shape:=⟨[a0 0 .pack],[],27⟩
abbrev PJ:Shape:=⟨[b6 2 3000128,aZ 3],[cl 3000128 .entry 2 0],27⟩
noncomputable def f52(a:i52.H):Option PJ.H:=
(Dh (((),a.1.1,(a.1.1.length:Int),(0:Int),()),([]:List aX),())).bind fun b=>
(match b with
|.inl c=>
 some (((),c.1.2.1,()),c.2.1,())
|.inr d=>
 some (((),true,()),d.2.1,()))
noncomputable def Gj:a4:=bi aD Tryz.f52 i52 PJ [] f52
theorem Pb:a6 af 52 Gj:=bk Rk Tryz.func52 (by kernel_rfl) (bJ Zx aA) (fun y=>by kernel_rfl) fun a=>by kernel_rfl
theorem A0:∀(r:List aX) (out D:List aX),(∀e,e∈r->mx e)->(∀e,e∈out->mx e)->ga out r=some D->D.length<=out.length+r.length/\∀e,e∈D->mx e:=by
 intro r;induction r with
 |nil=>intro out D _ h2 h;cases h;exact⟨Nat.le_refl _,h2⟩
 |cons e r ih=>
  intro out D h1 h2 h;rw[sJ] at h;obtain⟨o1,Z,aH⟩:=Option.bind_eq_some_iff.1 h;have bp:=ih o1 D (fun x hx=>h1 x (List.mem_cons_of_mem _ hx)) (fun x hx=>by
   rcases AO Z hx with rfl|h
   ·exact h1 x List.mem_cons_self
   ·exact h2 x h) aH
  have dm:=vS Z;exact⟨by simp only[List.length_cons];omega,bp.2⟩
theorem Au{t:List aX}(h:er t=true):fg t:=by
 unfold er at h;simp only[Bool.and_eq_true] at h;exact Lq h.1.1
theorem qd{t:List aX}(h:er t=true):t.length<=16:=by
 unfold er at h;simp only[Bool.and_eq_true,decide_eq_true_eq] at h;exact h.2
theorem WD(a)(M:cj a.1.1.length):f159 a=some (((),()),(a.1.1,())):=by
 obtain⟨⟨xs,u⟩,bA⟩:=a;have M:xs.length<=2097152:=M;have h2:(ez 48 ([]:List aX) xs).bind (fun x=>some (((),()),(x,())))=(some (((),()),(xs,())):Option Eb.H):=by
  rw[kC (by decide) (by unfold aJ;simp only[List.length_nil];omega)];rfl
 simp only[f159];rw[h2];unfold oM;split
 ·rfl
 ·rename_i h;exact absurd (fun he:xs=[]=>by subst he;rfl) h
theorem TV(a)(a9:jY a.1.1)(hb:jY a.1.2.1)(h1:er a.1.1=true)(h2:er a.1.2.1=true):f97 a=
  some (match ga a.1.1 a.1.2.1 with|some out=>(bif er out then(((),(true,())),(out,())) else(((),(false,())),(([]:List aX),())))|none=>(((),(false,())),(([]:List aX),()))):=by
 obtain⟨⟨xs,ys,u⟩,bA⟩:=a;have h1:er xs=true:=h1;have h2:er ys=true:=h2;have ajn:=qd h1;have ajm:=qd h2;have e1:=vR ((xs,()),()) a9;have e2:=vR ((ys,()),()) hb;have bK:=WD ((xs,()),()) (show xs.length<=2097152 by omega)
 have key:Ci (((),(ys,((ys.length:Int),((0:Int),())))),(xs,()))=_:=lX xh ys (fun i (out:List aX)=>(((),(ys,((ys.length:Int),((i:Int),())))),(out,())))
  (fun i e out=>some (match gQ out e with|some D=>.inl D|none=>.inr ((.inl (((),(false,())),(([]:List aX),()))):aW oR))) (fun out=>((.inr (((),()),(out,()))):aW oR))
  (fun i out=>out.length<=xs.length+i/\fg out) xs ⟨Nat.le_refl _,Au h1⟩ (fun i x out hx db=>?_) (fun out _=>?_)
 ·have fold:∀(r:List aX) (k:Nat) (out:List aX),et (fun i e out=>some (match gQ out e with|some D=>.inl D|none=>.inr ((.inl (((),(false,())),(([]:List aX),()))):aW oR))) (fun out=>((.inr (((),()),(out,()))):aW oR)) k r out=
    some (match ga out r with|some D=>.inr (((),()),(D,()))|none=>.inl (((),(false,())),(([]:List aX),()))):=by
   intro r;induction r with
   |nil=>intro k out;rfl
   |cons e r ih=>
    intro k out;rw[sJ];simp only[et];cases gQ out e with
    |none=>rfl
    |some D=>simp only[Option.bind_some];exact ih _ _
  rw[fold] at key;simp only[f97,Do,e1,e2,h1,h2,bK,Bool.not_true,Bool.not_false,cond_true,cond_false,Option.bind_some,key];cases hj:ga xs ys with
  |none=>rfl
  |some D=>
   have hm:=A0 ys xs D hb.2 a9.2 hj;simp only[Option.bind_some];rw[vR _ ⟨show D.length<=2097152 by omega,hm.2⟩]
   simp only[Option.bind_some];cases er D<;>rfl
 ·have hi:=cy hx;have hw:aJ i:=by unfold aJ;omega
  refine⟨?_,fun aj aa=>?_⟩
  ·have j9:=Hz ((out,(x.path,())),()) (show out.length<=2097152 by omega) db.2
   have kU:=qy out x.path;simp only[xh,cx hi,cond_true,b_,hx,Option.bind_some,j9,jh,gQ];have grow:rH 48 out (bQ out x.path:Int) [x]=some (iG out (bQ out x.path) x):=by
    unfold rH;rw[if_pos ⟨by omega,by omega,by unfold room;simp only[List.length_cons,List.length_nil];omega,by unfold maxLen;simp only[List.length_cons,List.length_nil];omega⟩,Int.toNat_natCast]
    rfl
   cases aL:out[bQ out x.path]? with
   |none=>simp only[Bool.not_false,cond_true,grow,Option.bind_some,ch hw];rfl
   |some q=>
    have hin:=l1 (cy aL);simp only;cases an:(q.path==x.path) with
    |false=>simp only[Bool.not_false,cond_true,grow,Option.bind_some,ch hw,cond_false];rfl
    |true=>
     have zP:((q.path==x.path)&&((q.kind==x.kind)&&((q.mode==x.mode)&&(q.text==x.text))))=jx q x:=rfl;simp only[Bool.not_true,cond_false,cond_true,AA,hin,aL,Option.bind_some,ls,Xx x q];cases ag:(x.kind !=1) with
     |true=>rfl
     |false=>
      have aca:(jx q x)=((q.path==x.path)&&((q.kind==x.kind)&&((q.mode==x.mode)&&(q.text==x.text)))):=rfl;rw[aca];cases ((q.path==x.path)&&((q.kind==x.kind)&&((q.mode==x.mode)&&(q.text==x.text)))) with
      |false=>rfl
      |true=>simp only[Bool.not_true,Bool.false_or,cond_false,Option.bind_some,ch hw];rfl
  ·simp only[Option.some.injEq] at aa;cases M:gQ out x with
   |none=>rw[M] at aa;cases aa
   |some D=>
    rw[M] at aa;cases aa;have dm:=vS M;exact⟨by omega,Vh db.2 M⟩
 ·simp only[xh,c7,cond_false]
def eK(out:List aX):List bE->Option (List aX)
 |[]=>some out
 |p::r=>match ga out p.cr with
  |some D=>bif er D then eK D r else none
  |none=>none
def stepT(out:List aX)(p:bE):Option (List aX):=match ga out p.cr with
 |some D=>bif er D then some D else none
 |none=>none
theorem vH(out:List aX)(p:bE)(r:List bE):eK out (p::r)=(stepT out p).bind fun D=>eK D r:=by
 unfold stepT;rw[eK];cases ga out p.cr with
 |none=>rfl
 |some D=>simp only;cases er D<;>rfl
theorem wk{out D:List aX}{p:bE}(h:stepT out p=some D):er D=true/\ga out p.cr=some D:=by
 unfold stepT at h;split at h
 ·rename_i cS ar;cases aB:er cS with
  |true=>rw[aB] at h;cases h;exact⟨aB,ar⟩
  |false=>rw[aB] at h;cases h
 ·cases h
theorem Ip(a)(hb:gh a.1.1)(ag:a.1.1.all eI=true):f51 a=some (((),((eK [] a.1.1).isSome,())),((eK [] a.1.1).getD [],())):=by
 obtain⟨⟨ps,u⟩,bA⟩:=a;have hl:ps.length<=2097152:=hb.1;have Fz:∀p,p∈ps->er p.cr=true/\jY p.cr:=by
  intro p an;have:=List.all_eq_true.1 ag p an;unfold eI at this;simp only[Bool.and_eq_true] at this;exact⟨this.2,(hb.2 p an).2.2.2⟩
 have key:Di ((ps,((),((0:Int),()))),(([]:List aX),()))=_:=lX ye ps (fun i (out:List aX)=>((ps,((),((i:Int),()))),(out,())))
  (fun i p out=>some (match stepT out p with|some D=>.inl D|none=>.inr ((.inl (((),(false,())),(([]:List aX),()))):aW oW))) (fun out=>((.inr (((),()),(out,()))):aW oW))
  (fun i out=>out.length<=16/\∀e,e∈out->mx e) [] ⟨Nat.zero_le _,fun e h=>by cases h⟩ (fun i x out hx db=>?_) (fun out _=>?_)
 ·have fold:∀(r:List bE) (k:Nat) (out:List aX),et (fun i p out=>some (match stepT out p with|some D=>.inl D|none=>.inr ((.inl (((),(false,())),(([]:List aX),()))):aW oW))) (fun out=>((.inr (((),()),(out,()))):aW oW)) k r out=
    some (match eK out r with|some D=>.inr (((),()),(D,()))|none=>.inl (((),(false,())),(([]:List aX),()))):=by
   intro r;induction r with
   |nil=>intro k out;rfl
   |cons p r ih=>
    intro k out;rw[vH];simp only[et];cases stepT out p with
    |none=>rfl
    |some D=>simp only[Option.bind_some];exact ih _ _
  rw[fold] at key;simp only[f51,key,Option.bind_some];cases eK [] ps with
  |none=>rfl
  |some D=>rfl
 ·have hi:=cy hx;have hw:aJ i:=by unfold aJ;omega
  obtain⟨FA,kW⟩:=Fz x (List.mem_of_getElem? hx);have F5:=qd FA;have dL:jY out:=⟨show out.length<=2097152 by omega,db.2⟩
  refine⟨?_,fun aj aa=>?_⟩
  ·have hj:=Ws ((out,(x.cr,())),()) dL kW (show out.length+x.cr.length<=2097152 by omega)
   simp only[ye,cx hi,cond_true,b_,hx,Option.bind_some,hj,stepT];cases ga out x.cr with
   |none=>rfl
   |some D=>
    simp only;cases er D with
    |false=>rfl
    |true=>simp only[Bool.not_true,cond_false,cond_true,ch hw];rfl
  ·simp only[Option.some.injEq] at aa;cases M:stepT out x with
   |none=>rw[M] at aa;cases aa
   |some D=>
    rw[M] at aa;cases aa;obtain⟨bp,dm⟩:=wk M;exact⟨qd bp,(A0 _ _ _ kW.2 db.2 dm).2⟩
 ·simp only[ye,c7,cond_false]
theorem Wo(a)(hb:gh a.1.1)(ag:a.1.1.all eI=true):∃out,f51 a=some (((),((eK [] a.1.1).isSome,())),(out,())):=⟨_,Ip a hb ag⟩
theorem Hp(a)(hb:gh a.1.1)(ag:a.1.1.all eI=true):f52 a=some (((),((eK [] a.1.1).isSome,())),((eK [] a.1.1).getD [],())):=by
 obtain⟨⟨ps,u⟩,bA⟩:=a;have hl:ps.length<=2097152:=hb.1;have Fz:∀p,p∈ps->er p.cr=true/\jY p.cr:=by
  intro p an;have:=List.all_eq_true.1 ag p an;unfold eI at this;simp only[Bool.and_eq_true] at this;exact⟨this.2,(hb.2 p an).2.2.2⟩
 have key:Dh (((),(ps,((ps.length:Int),((0:Int),())))),(([]:List aX),()))=_:=lX yd ps (fun i (out:List aX)=>(((),(ps,((ps.length:Int),((i:Int),())))),(out,())))
  (fun i p out=>some (match stepT out p with|some D=>.inl D|none=>.inr ((.inl (((),(false,())),(([]:List aX),()))):aW oV))) (fun out=>((.inr (((),()),(out,()))):aW oV))
  (fun i out=>er out=true/\∀e,e∈out->mx e) [] ⟨rfl,fun e h=>by cases h⟩ (fun i x out hx db=>?_) (fun out _=>?_)
 ·have fold:∀(r:List bE) (k:Nat) (out:List aX),et (fun i p out=>some (match stepT out p with|some D=>.inl D|none=>.inr ((.inl (((),(false,())),(([]:List aX),()))):aW oV))) (fun out=>((.inr (((),()),(out,()))):aW oV)) k r out=
    some (match eK out r with|some D=>.inr (((),()),(D,()))|none=>.inl (((),(false,())),(([]:List aX),()))):=by
   intro r;induction r with
   |nil=>intro k out;rfl
   |cons p r ih=>
    intro k out;rw[vH];simp only[et];cases stepT out p with
    |none=>rfl
    |some D=>simp only[Option.bind_some];exact ih _ _
  rw[fold] at key;simp only[f52,key,Option.bind_some];cases eK [] ps with
  |none=>rfl
  |some D=>rfl
 ·have hi:=cy hx;have hw:aJ i:=by unfold aJ;omega
  obtain⟨FA,kW⟩:=Fz x (List.mem_of_getElem? hx);have F5:=qd db.1;have dL:jY out:=⟨show out.length<=2097152 by omega,db.2⟩
  refine⟨?_,fun aj aa=>?_⟩
  ·have hj:=TV ((out,(x.cr,())),()) dL kW db.1 FA;simp only[yd,cx hi,cond_true,b_,hx,Option.bind_some,hj,stepT];cases ga out x.cr with
   |none=>rfl
   |some D=>
    simp only;cases er D with
    |false=>rfl
    |true=>simp only[Bool.not_true,cond_false,cond_true,ch hw];rfl
  ·simp only[Option.some.injEq] at aa;cases M:stepT out x with
   |none=>rw[M] at aa;cases aa
   |some D=>
    rw[M] at aa;cases aa;obtain⟨bp,dm⟩:=wk M;exact⟨bp,(A0 _ _ _ kW.2 db.2 dm).2⟩
 ·simp only[yd,c7,cond_false]
theorem S'(a)(hb:gh a.1.1)(ag:a.1.1.all eI=true):∃out,f52 a=some (((),((eK [] a.1.1).isSome,())),(out,())):=⟨_,Hp a hb ag⟩
abbrev Jw:Shape:=⟨[a0 0 .i64,a0 1 .i64,ak 5],[],42⟩
abbrev Jj:List bd:=[(.norm,⟨[a0 0 .i64,a0 1 .i64,ak 5],[],42⟩),(.exit 0,⟨[],[],42⟩)]
noncomputable def qs(y:Jw.H):Option (aW Jj):=
 bif(!(decide (y.1.2.2.1<(y.1.1.length:Int)))) then
 bif(decide (y.1.2.2.1<(y.1.2.1.length:Int))) then
 some (.inl ((y.1.1,y.1.2.1,y.1.2.2.1,()),()))
else
 some (.inr ((),()))
else
 some (.inl ((y.1.1,y.1.2.1,y.1.2.2.1,()),()))
theorem W6:br af (aF (dq (aF (codeOf Tryz.f182) 1 26)) 52 104) (bB Jw Jj qs):=ep g0 (by kernel_rfl) aA fun y=>by kernel_rfl
abbrev IE:Shape:=⟨[a0 0 .i64,a0 1 .i64,ak 5,ak 6,ak 7],[],42⟩
abbrev Iu:List bd:=[(.norm,⟨[a0 0 .i64,a0 1 .i64,ak 5,ak 6,ak 7],[],42⟩)]
noncomputable def sQ(y:IE.H):Option (aW Iu):=
 bif(decide (y.1.2.2.1<(y.1.1.length:Int))) then
(bl y.1.1 y.1.2.2.1).bind fun a=>
 some ((y.1.1,y.1.2.1,y.1.2.2.1,a,y.1.2.2.2.2.1,()),())
else
 some ((y.1.1,y.1.2.1,y.1.2.2.1,y.1.2.2.2.1,y.1.2.2.2.2.1,()),())
theorem Vx:br af (aF (dq (aF (codeOf Tryz.f182) 1 26)) 52 3366) (bB IE Iu sQ):=ep g0 (by kernel_rfl) aA fun y=>by kernel_rfl
abbrev ID:Shape:=⟨[a0 0 .i64,a0 1 .i64,ak 5,ak 6,ak 7],[],42⟩
abbrev It:List bd:=[(.norm,⟨[a0 0 .i64,a0 1 .i64,ak 5,ak 6,ak 7],[],42⟩)]
noncomputable def sP(y:ID.H):Option (aW It):=
 bif(decide (y.1.2.2.1<(y.1.2.1.length:Int))) then
(bl y.1.2.1 y.1.2.2.1).bind fun a=>
 some ((y.1.1,y.1.2.1,y.1.2.2.1,y.1.2.2.2.1,a,()),())
else
 some ((y.1.1,y.1.2.1,y.1.2.2.1,y.1.2.2.2.1,y.1.2.2.2.2.1,()),())
theorem Vw:br af (aF (dq (aF (codeOf Tryz.f182) 1 26)) 52 6734) (bB ID It sP):=ep g0 (by kernel_rfl) aA fun y=>by kernel_rfl
abbrev wW:Shape:=⟨[a0 0 .i64,a0 1 .i64,ak 5],[],42⟩
abbrev B2:List bd:=[(.ret,⟨[ak 4],[],42⟩),(.exit 0,⟨[],[],42⟩)]
noncomputable def qE(y:wW.H):cI wW B2:=
(qs ((y.1.1,y.1.2.1,y.1.2.2.1,()),())).bind fun a=>
(match a with
|.inl b=>
(sQ ((b.1.1,b.1.2.1,b.1.2.2.1,((-1):Int),((-1):Int),()),())).bind fun c=>
(sP ((c.1.1,c.1.2.1,c.1.2.2.1,c.1.2.2.2.1,c.1.2.2.2.2.1,()),())).bind fun d=>
 bif(decide (d.1.2.2.2.1<d.1.2.2.2.2.1)) then
 some (.inr (.inl ((((-1):Int),()),())))
else
 bif(decide (d.1.2.2.2.1>d.1.2.2.2.2.1)) then
 some (.inr (.inl (((1:Int),()),())))
else
 some (.inl ((d.1.1,d.1.2.1,(IntKind.i64.wrap (d.1.2.2.1+(1:Int))),()),()))
|.inr e=>
 some (.inr (.inr ((),()))))
noncomputable def mQ:wW.H->Option (aW B2):=bP qE
theorem Yf:br af (aF (codeOf Tryz.f182) 1 26) (bB wW B2 mQ):=cK g0 (by kernel_rfl) (bJ W6 (bJ Vx (bJ Vw aA))) fun y=>by kernel_rfl
abbrev i182:Shape:=⟨[a0 0 .i64,a0 1 .i64],[],42⟩
abbrev D':Shape:=⟨[ak 4],[],42⟩
noncomputable def f182(a:i182.H):Option D'.H:=
(mQ ((a.1.1,a.1.2.1,(0:Int),()),())).bind fun b=>
(match b with
|.inl c=>
 some ((c.1.1,()),())
|.inr d=>
 some (((0:Int),()),()))
noncomputable def Ow:a4:=bi aD Tryz.f182 i182 D' [] f182
theorem aaG:a6 af 182 Ow:=bk g0 Tryz.func182 (by kernel_rfl) (bJ Yf aA) (fun y=>by kernel_rfl) fun a=>by kernel_rfl
noncomputable abbrev ac4:bF:=[(181,ER),(182,Ow)]
theorem O6:bb af (bz aD ac4):=bC ⟨Mr,aaG,⟨⟩⟩
abbrev J':Shape:=⟨[b6 5 3000320,aZ 6,b6 7 3000448,aZ 8],[cl 3000320 .i64 5 0,cl 3000448 .i64 7 0],28⟩
abbrev J3:List bd:=[(.norm,⟨[b6 5 3000320,b6 7 3000448,aZ 24],[cl 3000320 .i64 5 0,cl 3000448 .i64 7 0],28⟩)]
noncomputable def CK(y:J'.H):Option (aW J3):=
 bif(!(!y.1.2.1)) then
 some (((),(),(!y.1.2.2.2.1),()),y.2.1,y.2.2.1,())
else
 some (((),(),true,()),y.2.1,y.2.2.1,())
theorem Ys:br af (aF (codeOf Tryz.f126) 1 60) (bB J' J3 CK):=ep O6 (by kernel_rfl) aA fun y=>by kernel_rfl
abbrev i126:Shape:=⟨[bw 0,bw 1],[],28⟩
abbrev Nl:Shape:=⟨[ak 4],[],28⟩
noncomputable def f126(a:i126.H):Option Nl.H:=
(f181 ((a.1.1,()),())).bind fun b=>
(f181 ((a.1.2.1,()),())).bind fun c=>
(CK (((),b.1.2.1,(),c.1.2.1,()),b.2.1,c.2.1,())).bind fun d=>
 bif d.1.2.2.1 then
 some (((0:Int),()),())
else
(f182 ((d.2.1,d.2.2.1,()),())).bind fun e=>
 some ((e.1.1,()),())
noncomputable def OM:a4:=bi aD Tryz.f126 i126 Nl [] f126
theorem aaW:a6 af 126 OM:=bk O6 Tryz.func126 (by kernel_rfl) (bJ Ys aA) (fun y=>by kernel_rfl) fun a=>by kernel_rfl
abbrev i259:Shape:=⟨[ak 0],[],6⟩
abbrev ML:Shape:=⟨[aZ 2],[],6⟩
noncomputable def f259(a:i259.H):Option ML.H:=
 some (((a.1.1 !=a.1.1),()),())
noncomputable def Oa:a4:=bi aD Tryz.f259 i259 ML [] f259
theorem aan:a6 af 259 Oa:=bk g0 Tryz.func259 (by kernel_rfl) aA (fun y=>by kernel_rfl) fun a=>by kernel_rfl
noncomputable abbrev acH:bF:=[(259,Oa)]
theorem adg:bb af (bz aD acH):=bC ⟨aan,⟨⟩⟩
abbrev i224:Shape:=⟨[ak 0,ak 1],[],20⟩
abbrev MU:Shape:=⟨[ak 4],[],20⟩
noncomputable def f224(a:i224.H):Option MU.H:=
(f259 ((a.1.1,()),())).bind fun b=>
(f259 ((a.1.2.1,()),())).bind fun c=>
 bif b.1.1 then
 bif c.1.1 then
 some (((0:Int),()),())
else
 some ((((-1):Int),()),())
else
 bif c.1.1 then
 some (((1:Int),()),())
else
 bif(decide (a.1.1<a.1.2.1)) then
 some ((((-1):Int),()),())
else
 bif(decide (a.1.1>a.1.2.1)) then
 some (((1:Int),()),())
else
 some (((0:Int),()),())
noncomputable def Oj:a4:=bi aD Tryz.f224 i224 MU [] f224
theorem aaw:a6 af 224 Oj:=bk adg Tryz.func224 (by kernel_rfl) aA (fun y=>by kernel_rfl) fun a=>by kernel_rfl
noncomputable abbrev acP:bF:=[(224,Oj)]
theorem O1:bb af (bz aD acP):=bC ⟨aaw,⟨⟩⟩
abbrev wV:Shape:=⟨[a0 0 .i64,a0 1 .i64,a0 9 .i64,ak 10,ak 11],[],36⟩
abbrev B1:List bd:=[(.ret,⟨[ak 4],[],36⟩),(.exit 0,⟨[a0 0 .i64,a0 1 .i64],[],36⟩)]
noncomputable def tg(y:wV.H):cI wV B1:=
 bif(decide (y.1.2.2.2.2.1<y.1.2.2.2.1)) then
(bl y.1.2.2.1 y.1.2.2.2.2.1).bind fun a=>
 bif(decide (y.1.2.2.2.2.1>=(y.1.2.1.length:Int))) then
 some (.inr (.inl (((1:Int),()),())))
else
(bl y.1.2.1 y.1.2.2.2.2.1).bind fun b=>
(f224 ((a,b,()),())).bind fun c=>
 bif(c.1.1 !=(0:Int)) then
 some (.inr (.inl ((c.1.1,()),())))
else
 some (.inl ((y.1.1,y.1.2.1,y.1.2.2.1,y.1.2.2.2.1,(IntKind.i64.wrap (y.1.2.2.2.2.1+(1:Int))),()),()))
else
 some (.inr (.inr ((y.1.1,y.1.2.1,()),())))
noncomputable def nN:wV.H->Option (aW B1):=bP tg
theorem Ye:br af (aF (codeOf Tryz.f184) 1 26) (bB wV B1 nN):=cK O1 (by kernel_rfl) aA fun y=>by kernel_rfl
abbrev i184:Shape:=⟨[a0 0 .i64,a0 1 .i64],[],36⟩
abbrev D_:Shape:=⟨[ak 4],[],36⟩
noncomputable def f184(a:i184.H):Option D_.H:=
(nN ((a.1.1,a.1.2.1,a.1.1,(a.1.1.length:Int),(0:Int),()),())).bind fun b=>
(match b with
|.inl c=>
 some ((c.1.1,()),())
|.inr d=>
 bif(decide ((d.1.1.length:Int)<(d.1.2.1.length:Int))) then
 some ((((-1):Int),()),())
else
 some (((0:Int),()),()))
noncomputable def Ov:a4:=bi aD Tryz.f184 i184 D_ [] f184
theorem aaF:a6 af 184 Ov:=bk O1 Tryz.func184 (by kernel_rfl) (bJ Ye aA) (fun y=>by kernel_rfl) fun a=>by kernel_rfl
noncomputable abbrev ac2:bF:=[(184,Ov)]
theorem adp:bb af (bz aD ac2):=bC ⟨aaF,⟨⟩⟩
abbrev i128:Shape:=⟨[a0 0 .i64,a0 1 .i64],[],8⟩
abbrev Nj:Shape:=⟨[ak 4],[],8⟩
noncomputable def f128(a:i128.H):Option Nj.H:=
(f184 ((a.1.1,a.1.2.1,()),())).bind fun b=>
 some ((b.1.1,()),())
noncomputable def OL:a4:=bi aD Tryz.f128 i128 Nj [] f128
theorem aaV:a6 af 128 OL:=bk adp Tryz.func128 (by kernel_rfl) aA (fun y=>by kernel_rfl) fun a=>by kernel_rfl
noncomputable abbrev agR:bF:=[(127,EW),(128,OL)]
theorem Rd:bb af (bz aD agR):=bC ⟨Mw,aaV,⟨⟩⟩
abbrev KJ:Shape:=⟨[b6 5 3000320,aZ 6,b6 7 3000448,aZ 8],[cl 3000320 .i64 5 0,cl 3000448 .i64 7 0],28⟩
abbrev KF:List bd:=[(.norm,⟨[b6 5 3000320,b6 7 3000448,aZ 24],[cl 3000320 .i64 5 0,cl 3000448 .i64 7 0],28⟩)]
noncomputable def Dq(y:KJ.H):Option (aW KF):=
 bif(!(!y.1.2.1)) then
 some (((),(),(!y.1.2.2.2.1),()),y.2.1,y.2.2.1,())
else
 some (((),(),true,()),y.2.1,y.2.2.1,())
theorem Zr:br af (aF (codeOf Tryz.f78) 1 60) (bB KJ KF Dq):=ep Rd (by kernel_rfl) aA fun y=>by kernel_rfl
abbrev i78:Shape:=⟨[bw 0,bw 1],[],28⟩
abbrev PA:Shape:=⟨[ak 4],[],28⟩
noncomputable def f78(a:i78.H):Option PA.H:=
(f127 ((a.1.1,()),())).bind fun b=>
(f127 ((a.1.2.1,()),())).bind fun c=>
(Dq (((),b.2.2.2.1.1,(),c.2.2.2.1.1,()),b.2.1,c.2.1,())).bind fun d=>
 bif d.1.2.2.1 then
 some (((0:Int),()),())
else
(f128 ((d.2.1,d.2.2.1,()),())).bind fun e=>
 some ((e.1.1,()),())
noncomputable def QR:a4:=bi aD Tryz.f78 i78 PA [] f78
theorem adE:a6 af 78 QR:=bk Rd Tryz.func78 (by kernel_rfl) (bJ Zr aA) (fun y=>by kernel_rfl) fun a=>by kernel_rfl
noncomputable abbrev ac1:bF:=[(78,QR),(119,y_),(121,EX)]
theorem O5:bb af (bz aD ac1):=bC ⟨adE,DX,Mx,⟨⟩⟩
abbrev J_:Shape:=⟨[bw 1,bw 2,c5 3 3 0],[c4 3 [bG,cH,bG]],44⟩
abbrev J2:List bd:=[(.norm,⟨[bw 2,c5 3 3 0,aZ 20],[c4 3 [bG,cH,bG]],44⟩)]
noncomputable def CJ(y:J_.H):Option (aW J2):=
(f121 (((y.2.1.1,y.2.1.2.1,y.2.1.2.2.1,()),()),())).bind fun a=>
 bif(!(!a.1.1)) then
(f119 ((y.1.2.1,()),())).bind fun b=>
 bif(!(!b.1.1)) then
 some ((y.1.2.1,(),(!(y.1.1==y.2.1.1)),()),(y.2.1.1,y.2.1.2.1,y.2.1.2.2.1,()),())
else
 some ((y.1.2.1,(),true,()),(y.2.1.1,y.2.1.2.1,y.2.1.2.2.1,()),())
else
 some ((y.1.2.1,(),true,()),(y.2.1.1,y.2.1.2.1,y.2.1.2.2.1,()),())
theorem Yq:br af (aF (codeOf Tryz.f132) 1 12) (bB J_ J2 CJ):=ep O5 (by kernel_rfl) aA fun y=>by kernel_rfl
abbrev i132:Shape:=⟨[dw 0 [bG,cH,bG],bw 1,bw 2],[],44⟩
abbrev Ni:Shape:=⟨[aZ 6],[],44⟩
noncomputable def f132(a:i132.H):Option Ni.H:=
(CJ ((a.1.2.1,a.1.2.2.1,(),()),(a.1.1.1,a.1.1.2.1,a.1.1.2.2.1,()),())).bind fun b=>
 bif b.1.2.2.1 then
 some ((false,()),())
else
 bif(b.2.1.2.1==(1:Int)) then
(f78 ((b.1.1,b.2.1.2.2.1,()),())).bind fun c=>
 some (((c.1.1==(0:Int)),()),())
else
 bif(b.2.1.2.1==(2:Int)) then
(f78 ((b.1.1,b.2.1.2.2.1,()),())).bind fun d=>
 some (((decide (d.1.1>=(0:Int))),()),())
else
 bif(b.2.1.2.1==(3:Int)) then
(f78 ((b.1.1,b.2.1.2.2.1,()),())).bind fun e=>
 some (((decide (e.1.1<(0:Int))),()),())
else
 some ((true,()),())
noncomputable def OK:a4:=bi aD Tryz.f132 i132 Ni [] f132
theorem aaU:a6 af 132 OK:=bk O5 Tryz.func132 (by kernel_rfl) (bJ Yq aA) (fun y=>by kernel_rfl) fun a=>by kernel_rfl
noncomputable abbrev acO:bF:=[(126,OM)]
theorem adk:bb af (bz aD acO):=bC ⟨aaW,⟨⟩⟩
abbrev i192:Shape:=⟨[dw 0 [bG,cH,bG],bw 1,bw 2],[],30⟩
abbrev M2:Shape:=⟨[aZ 6],[],30⟩
noncomputable def f192(a:i192.H):Option M2.H:=
 bif(!(a.1.1.1==a.1.2.1)) then
 some ((false,()),())
else
(f126 ((a.1.2.2.1,a.1.1.2.2.1,()),())).bind fun b=>
 bif(a.1.1.2.1==(1:Int)) then
 some (((b.1.1==(0:Int)),()),())
else
 bif(a.1.1.2.1==(2:Int)) then
 some (((decide (b.1.1>=(0:Int))),()),())
else
 bif(a.1.1.2.1==(3:Int)) then
 some (((decide (b.1.1<(0:Int))),()),())
else
 some ((true,()),())
noncomputable def Ou:a4:=bi aD Tryz.f192 i192 M2 [] f192
theorem aaE:a6 af 192 Ou:=bk adk Tryz.func192 (by kernel_rfl) aA (fun y=>by kernel_rfl) fun a=>by kernel_rfl
def n8:List Int->List Int->Int
 |[],[]=>0
 |[],_::_=>-1
 |_::_,[]=>1
 |x::a,y::b=>bif decide (x<y) then-1 else bif decide (x>y) then 1 else n8 a b
theorem drop_cons{az:Type}{xs:List az}{k:Nat}{x:az}{r:List az}(h:xs.drop k=x::r):xs[k]? =some x/\xs.drop (k+1)=r/\k<xs.length:=by
 have h1:xs[k]? =some x:=by
  have:=congrArg (fun l=>l[0]?) h
  simpa using this
 refine⟨h1,?_,cy h1⟩;have:=congrArg List.tail h;simpa using this
theorem drop_nil{az:Type}{xs:List az}{k:Nat}(h:xs.drop k=[]):xs.length<=k:=by
 have:=congrArg List.length h;simp at this;omega
theorem U0(a)(h1:cj a.1.1.length)(h2:cj a.1.2.1.length)(pV:∀x,x∈a.1.1->0<=x)(pU:∀x,x∈a.1.2.1->0<=x):f182 a=some ((n8 a.1.1 a.1.2.1,()),()):=by
 obtain⟨⟨xs,ys,u⟩,bA⟩:=a;have h1:xs.length<=2097152:=h1;have h2:ys.length<=2097152:=h2;have pV:∀x:Int,x∈xs->0<=x:=pV;have pU:∀x:Int,x∈ys->0<=x:=pU;have key:∀(n:Nat) (us ws:List Int) (k:Nat),us.length+ws.length=n->xs.drop k=us->ys.drop k=ws->k<=2097152->
   (mQ ((xs,(ys,((k:Int),()))),())).bind (fun aby=>(match aby with|.inl abx=>some ((abx.1.1,()),())|.inr ajh=>some (((0:Int),()),()):Option D'.H))=some ((n8 us ws,()),()):=by
  intro n;induction n using Nat.strongRecOn with
  |_ n ih=>
   intro us ws k hn a9 hb ag;have hw:aJ k:=by unfold aJ;omega
   match us,ws with
   |[],[]=>
    have c1:=drop_nil a9;have c2:=drop_nil hb;have d1:decide ((k:Int)<(xs.length:Int))=false:=by simp only[decide_eq_false_iff_not];omega
    have d2:decide ((k:Int)<(ys.length:Int))=false:=by simp only[decide_eq_false_iff_not];omega
    have:mQ ((xs,(ys,((k:Int),()))),())=some (.inr ((),())):=by
     refine eR ?_
     simp only[qE,qs,d1,d2,Bool.not_false,cond_true,cond_false,Option.bind_some]
    rw[this];rfl
   |[],y::ws=>
    have c1:=drop_nil a9;obtain⟨c2,c3,dM⟩:=drop_cons hb;have ai:=pU y (List.mem_of_getElem? c2);have d1:decide ((k:Int)<(xs.length:Int))=false:=by simp only[decide_eq_false_iff_not];omega
    have d3:decide ((-1:Int)<y)=true:=by simp only[decide_eq_true_eq];omega
    have:mQ ((xs,(ys,((k:Int),()))),())=some (.inl ((((-1):Int),()),())):=by
     refine eR ?_
     simp only[qE,qs,sQ,sP,d1,cx dM,b_,c2,Bool.not_false,cond_true,cond_false,Option.bind_some,d3]
    rw[this];rfl
   |x::us,[]=>
    have c1:=drop_nil hb;obtain⟨c2,c3,dM⟩:=drop_cons a9;have hx:=pV x (List.mem_of_getElem? c2);have d1:decide ((k:Int)<(ys.length:Int))=false:=by simp only[decide_eq_false_iff_not];omega
    have d3:decide (x<(-1:Int))=false:=by simp only[decide_eq_false_iff_not];omega
    have d4:decide (x>(-1:Int))=true:=by simp only[decide_eq_true_eq];omega
    have:mQ ((xs,(ys,((k:Int),()))),())=some (.inl (((1:Int),()),())):=by
     refine eR ?_
     simp only[qE,qs,sQ,sP,d1,cx dM,b_,c2,Bool.not_true,cond_true,cond_false,Option.bind_some,d3,d4]
    rw[this];rfl
   |x::us,y::ws=>
    obtain⟨c2,c3,dM⟩:=drop_cons a9;obtain⟨e2,bK,dW⟩:=drop_cons hb;have step:qE ((xs,(ys,((k:Int),()))),())=some (bif decide (x<y) then .inr (.inl ((((-1):Int),()),())) else bif decide (x>y) then .inr (.inl (((1:Int),()),())) else .inl ((xs,(ys,(((k+1:Nat):Int),()))),())):=by
     simp only[qE,qs,sQ,sP,cx dM,cx dW,b_,c2,e2,Bool.not_true,cond_true,cond_false,Option.bind_some,ch hw];cases decide (x<y)<;>cases decide (x>y)<;>rfl
    rw[n8];cases aY:decide (x<y) with
    |true=>rw[aY,cond_true] at step;rw[show mQ ((xs,(ys,((k:Int),()))),())=_ from eR step];rfl
    |false=>
     rw[aY,cond_false] at step;cases pF:decide (x>y) with
     |true=>rw[pF,cond_true] at step;rw[show mQ ((xs,(ys,((k:Int),()))),())=_ from eR step];rfl
     |false=>
      rw[pF,cond_false] at step;rw[show mQ ((xs,(ys,((k:Int),()))),())=_ from h_ step]
      exact ih (us.length+ws.length) (by simp only[List.length_cons] at hn;omega) us ws (k+1) rfl c3 bK (by omega)
 have:=key _ xs ys 0 rfl rfl rfl (Nat.zero_le _);simp only[f182];exact this
theorem Wx(a):f224 a=some ((bif decide (a.1.1<a.1.2.1) then-1 else bif decide (a.1.1>a.1.2.1) then 1 else 0,()),()):=by
 obtain⟨⟨x,y,u⟩,bA⟩:=a;have hx:(x !=x)=false:=by simp
 have ai:(y !=y)=false:=by simp
 simp only[f224,f259,Option.bind_some,hx,ai,cond_false];cases decide (x<y)<;>cases decide (x>y)<;>rfl
theorem U'(a)(h1:cj a.1.1.length)(h2:cj a.1.2.1.length):f184 a=some ((n8 a.1.1 a.1.2.1,()),()):=by
 obtain⟨⟨xs,ys,u⟩,bA⟩:=a;have h1:xs.length<=2097152:=h1;have h2:ys.length<=2097152:=h2;have key:∀(us ws:List Int) (k:Nat),xs.drop k=us->ys.drop k=ws->k<=xs.length->
   (nN ((xs,(ys,(xs,((xs.length:Int),((k:Int),()))))),())).bind (fun _y=>(match _y with
    |.inl _x=>some ((_x.1.1,()),())
    |.inr LP=>bif(decide ((LP.1.1.length:Int)<(LP.1.2.1.length:Int))) then some ((((-1):Int),()),()) else some (((0:Int),()),()):Option D_.H))=some ((n8 us ws,()),()):=by
  intro us;induction us with
  |nil=>
   intro ws k a9 hb ag;have c1:=drop_nil a9;have d1:decide ((k:Int)<(xs.length:Int))=false:=by simp only[decide_eq_false_iff_not];omega
   have:nN ((xs,(ys,(xs,((xs.length:Int),((k:Int),()))))),())=some (.inr ((xs,(ys,())),())):=by
    refine eR ?_
    simp only[tg,d1,cond_false]
   rw[this];simp only[Option.bind_some];cases ws with
   |nil=>
    have c2:=drop_nil hb;have:decide ((xs.length:Int)<(ys.length:Int))=false:=by simp only[decide_eq_false_iff_not];omega
    rw[this];rfl
   |cons y ws=>
    obtain⟨_,_,dM⟩:=drop_cons hb;rw[cx (show xs.length<ys.length by omega)];rfl
  |cons x us ih=>
   intro ws k a9 hb ag;obtain⟨c2,c3,dM⟩:=drop_cons a9;have hw:aJ k:=by unfold aJ;omega
   cases ws with
   |nil=>
    have c1:=drop_nil hb;have d1:decide ((k:Int)>=(ys.length:Int))=true:=by simp only[decide_eq_true_eq];omega
    have:nN ((xs,(ys,(xs,((xs.length:Int),((k:Int),()))))),())=some (.inl (((1:Int),()),())):=by
     refine eR ?_
     simp only[tg,cx dM,cond_true,b_,c2,Option.bind_some,d1]
    rw[this];rfl
   |cons y ws=>
    obtain⟨e2,bK,dW⟩:=drop_cons hb;have d1:decide ((k:Int)>=(ys.length:Int))=false:=by simp only[decide_eq_false_iff_not];omega
    have step:tg ((xs,(ys,(xs,((xs.length:Int),((k:Int),()))))),())=some (bif decide (x<y) then .inr (.inl ((((-1):Int),()),())) else bif decide (x>y) then .inr (.inl (((1:Int),()),())) else .inl ((xs,(ys,(xs,((xs.length:Int),(((k+1:Nat):Int),()))))),())):=by
     simp only[tg,cx dM,b_,c2,e2,d1,cond_true,cond_false,Option.bind_some,Wx,ch hw];cases decide (x<y)<;>cases decide (x>y)<;>rfl
    rw[n8];cases aY:decide (x<y) with
    |true=>rw[aY,cond_true] at step;rw[show nN ((xs,(ys,(xs,((xs.length:Int),((k:Int),()))))),())=_ from eR step];rfl
    |false=>
     rw[aY,cond_false] at step;cases pF:decide (x>y) with
     |true=>rw[pF,cond_true] at step;rw[show nN ((xs,(ys,(xs,((xs.length:Int),((k:Int),()))))),())=_ from eR step];rfl
     |false=>
      rw[pF,cond_false] at step;rw[show nN ((xs,(ys,(xs,((xs.length:Int),((k:Int),()))))),())=_ from h_ step]
      exact ih ws (k+1) c3 bK (by omega)
 have:=key xs ys 0 rfl rfl (Nat.zero_le _);simp only[f184];exact this
def pc(a b:al):Int:=bif eB a&&eB b then n8 (gO a) (gO b) else 0
theorem Hm{s:al}(h:eB s=true):∀x,x∈gO s->0<=x:=by
 intro x hx;unfold gO at hx;obtain⟨p,an,rfl⟩:=List.mem_map.1 hx;unfold eB at h;simp only[Bool.and_eq_true] at h;have:=List.all_eq_true.1 h.1 p an;unfold fc at this;simp only[Bool.and_eq_true] at this;exact HY p 0 this.1.1.1.1 (Int.le_refl _)
theorem vQ(s:al):(gO s).length<=s.length+1:=by
 unfold gO hp;rw[List.length_map];exact vL 46 s
theorem Sf(a)(h1:a.1.1.length<=2097151)(h2:a.1.2.1.length<=2097151):f126 a=some ((pc a.1.1 a.1.2.1,()),()):=by
 obtain⟨⟨x,y,u⟩,bA⟩:=a;have h1:x.length<=2097151:=h1;have h2:y.length<=2097151:=h2;obtain⟨o1,e1,q1⟩:=AH ((x,()),()) (show x.length<=2097152 by omega)
 obtain⟨o2,e2,q2⟩:=AH ((y,()),()) (show y.length<=2097152 by omega)
 simp only[f126,e1,e2,Option.bind_some,CK,pc,Bool.not_not];cases hx:eB x with
 |false=>rfl
 |true=>
  cases ai:eB y with
  |false=>rfl
  |true=>
   have afc:=vQ x;have uC:=vQ y;have bZ:o1=gO x:=q1 hx;have w2:o2=gO y:=q2 ai;subst bZ w2;have bK:=U0 ((gO x,(gO y,())),()) (show(gO x).length<=2097152 by omega) (show(gO y).length<=2097152 by omega) (Hm hx) (Hm ai)
   simp only[cond_true,Bool.not_true,Option.bind_some,cond_false,bK,Bool.and_self]
theorem Sc(a)(h1:a.1.1.length<=2097151)(h2:a.1.2.1.length<=2097151):f78 a=some ((pc a.1.1 a.1.2.1,()),()):=by
 obtain⟨⟨x,y,u⟩,bA⟩:=a;have h1:x.length<=2097151:=h1;have h2:y.length<=2097151:=h2;have e1:=Ai ((x,()),()) (show x.length<=2097152 by omega)
 have e2:=Ai ((y,()),()) (show y.length<=2097152 by omega)
 simp only[f78,e1,e2,Option.bind_some,Dq,pc,Bool.not_not];cases hx:eB x with
 |false=>rfl
 |true=>
  cases ai:eB y with
  |false=>rfl
  |true=>
   have afc:=vQ x;have uC:=vQ y;have bK:=U' ((gO x,(gO y,())),()) (show(gO x).length<=2097152 by omega) (show(gO y).length<=2097152 by omega)
   simp only[cond_true,Bool.not_true,Option.bind_some,cond_false,f128,bK,Bool.and_self]
def rm(n:dH)(v:al):Bool:=bif n.kind==1 then pc v n.bT==0 else bif n.kind==2 then decide (pc v n.bT>=0) else bif n.kind==3 then decide (pc v n.bT<0) else true
theorem Wq(a)(h1:a.1.1.2.2.1.length<=2097151)(h2:a.1.2.2.1.length<=2097151)(hn:a.1.2.1=a.1.1.1):f192 a=some ((rm ⟨a.1.1.1,a.1.1.2.1,a.1.1.2.2.1⟩ a.1.2.2.1,()),()):=by
 obtain⟨⟨⟨n,k,v,u⟩,m,w,bA⟩,hU⟩:=a;obtain rfl:m=n:=hn;have e1:=Sf ((w,(v,())),()) h2 h1;have p0:(m==m)=true:=by simp
 simp only[f192,p0,e1,Bool.not_true,cond_false,Option.bind_some,rm];cases (k==1)<;>cases (k==2)<;>cases (k==3)<;>rfl
def kI(n:dH)(name v:al):Bool:=hq n&&eB v&&(name==n.name)&&rm n v
theorem TX(a)(aQ:cj a.1.1.1.length)(h1:a.1.1.2.2.1.length<=2097151)(h2:a.1.2.2.1.length<=2097151):f132 a=some ((kI ⟨a.1.1.1,a.1.1.2.1,a.1.1.2.2.1⟩ a.1.2.1 a.1.2.2.1,()),()):=by
 obtain⟨⟨⟨n,k,v,u⟩,m,w,bA⟩,hU⟩:=a;have h1:v.length<=2097151:=h1;have h2:w.length<=2097151:=h2;have e1:=Sc ((w,(v,())),()) h2 h1;have e2:=Iq (((n,(k,(v,()))),()),()) aQ (show v.length<=2097152 by omega)
 have bK:=Aj ((w,()),()) (show w.length<=2097152 by omega)
 simp only[f132,CJ,e1,e2,bK,Bool.not_not,Option.bind_some,kI,rm];cases hq ⟨n,k,v⟩ with
 |false=>rfl
 |true=>
  cases eB w with
  |false=>rfl
  |true=>
   cases (m==n) with
   |false=>rfl
   |true=>
    simp only[cond_true,Bool.not_true,Option.bind_some,cond_false,Bool.true_and];cases (k==1)<;>cases (k==2)<;>cases (k==3)<;>simp only[cond_true,cond_false,Option.bind_some,e1]
abbrev w8:Shape:=⟨[a0 0 .pack,bw 1,ak 5],[],20⟩
abbrev B':List bd:=[(.ret,⟨[ak 4],[],20⟩),(.exit 0,⟨[],[],20⟩)]
noncomputable def xD(y:w8.H):cI w8 B':=
 bif(decide (y.1.2.2.1<(y.1.1.length:Int))) then
(bl y.1.1 y.1.2.2.1).bind fun a=>
 bif(a.name==y.1.2.1) then
 some (.inr (.inl ((y.1.2.2.1,()),())))
else
 some (.inl ((y.1.1,y.1.2.1,(IntKind.i64.wrap (y.1.2.2.1+(1:Int))),()),()))
else
 some (.inr (.inr ((),())))
noncomputable def qC:w8.H->Option (aW B'):=bP xD
theorem Yv:br af (aF (codeOf Tryz.f104) 1 26) (bB w8 B' qC):=cK g0 (by kernel_rfl) aA fun y=>by kernel_rfl
abbrev i104:Shape:=⟨[a0 0 .pack,bw 1],[],20⟩
abbrev Nw:Shape:=⟨[ak 4],[],20⟩
noncomputable def f104(a:i104.H):Option Nw.H:=
(qC ((a.1.1,a.1.2.1,(0:Int),()),())).bind fun b=>
(match b with
|.inl c=>
 some ((c.1.1,()),())
|.inr d=>
 some ((((-1):Int),()),()))
noncomputable def OU:a4:=bi aD Tryz.f104 i104 Nw [] f104
theorem aa4:a6 af 104 OU:=bk g0 Tryz.func104 (by kernel_rfl) (bJ Yv aA) (fun y=>by kernel_rfl) fun a=>by kernel_rfl
noncomputable abbrev ac0:bF:=[(104,OU),(192,Ou)]
theorem zc:bb af (bz aD ac0):=bC ⟨aa4,aaE,⟨⟩⟩
abbrev HE:Shape:=⟨[a0 0 .pack,ak 3,ak 4,c5 5 5 0,ak 6],[c4 5 [bG,cH,bG]],49⟩
abbrev HB:List bd:=[(.norm,⟨[a0 0 .pack,ak 3,ak 4,ak 35,aZ 36,aZ 37,aZ 48],[],49⟩)]
noncomputable def vJ(y:HE.H):Option (aW HB):=
 bif(decide (y.1.2.2.2.2.1<(0:Int))) then
 some ((y.1.1,y.1.2.1,y.1.2.2.1,y.1.2.2.2.2.1,(decide (y.1.2.2.2.2.1<(0:Int))),true,true,()),())
else
(bl y.1.1 y.1.2.2.2.2.1).bind fun a=>
(f192 (((y.2.1.1,y.2.1.2.1,y.2.1.2.2.1,()),y.2.1.1,a.bT,()),())).bind fun b=>
 some ((y.1.1,y.1.2.1,y.1.2.2.1,y.1.2.2.2.2.1,(decide (y.1.2.2.2.2.1<(0:Int))),false,(!b.1.1),()),())
theorem Tp:br af (aF (dq (aF (dq (aF (codeOf Tryz.f135) 1 26)) 52 1682)) 3364 215334) (bB HE HB vJ):=ep zc (by kernel_rfl) aA fun y=>by kernel_rfl
abbrev vZ:Shape:=⟨[a0 0 .pack,ak 3,ak 4],[],49⟩
abbrev AL:List bd:=[(.ret,⟨[aZ 2],[],49⟩),(.exit 2,⟨[a0 0 .pack,ak 3],[],49⟩)]
noncomputable def wa(y:vZ.H):cI vZ AL:=
(bl y.1.1 y.1.2.1).bind fun a=>
 bif(decide (y.1.2.2.1<(a.b5.length:Int))) then
(bl y.1.1 y.1.2.1).bind fun b=>
(bl b.b5 y.1.2.2.1).bind fun c=>
(f104 ((y.1.1,c.name,()),())).bind fun d=>
(vJ ((y.1.1,y.1.2.1,y.1.2.2.1,(),d.1.1,()),(c.name,c.kind,c.bT,()),())).bind fun e=>
 bif e.1.2.2.2.2.2.2.1 then
 some (.inr (.inl ((false,()),())))
else
 some (.inl ((e.1.1,e.1.2.1,(IntKind.i64.wrap (e.1.2.2.1+(1:Int))),()),()))
else
 some (.inr (.inr ((y.1.1,y.1.2.1,()),())))
noncomputable def AW:vZ.H->Option (aW AL):=bP wa
theorem VC:br af (aF (dq (aF (codeOf Tryz.f135) 1 26)) 52 1682) (bB vZ AL AW):=cK zc (by kernel_rfl) (bJ Tp aA) fun y=>by kernel_rfl
abbrev w5:Shape:=⟨[a0 0 .pack,ak 3],[],49⟩
abbrev B8:List bd:=[(.ret,⟨[aZ 2],[],49⟩),(.exit 0,⟨[],[],49⟩)]
noncomputable def xB(y:w5.H):cI w5 B8:=
 bif(decide (y.1.2.1<(y.1.1.length:Int))) then
(AW ((y.1.1,y.1.2.1,(0:Int),()),())).bind fun a=>
(match a with
|.inl b=>
 some (.inr (.inl ((b.1.1,()),())))
|.inr c=>
 some (.inl ((c.1.1,(IntKind.i64.wrap (c.1.2.1+(1:Int))),()),())))
else
 some (.inr (.inr ((),())))
noncomputable def CA:w5.H->Option (aW B8):=bP xB
theorem Yp:br af (aF (codeOf Tryz.f135) 1 26) (bB w5 B8 CA):=cK zc (by kernel_rfl) (bJ VC aA) fun y=>by kernel_rfl
abbrev i135:Shape:=⟨[a0 0 .pack],[],49⟩
abbrev Nh:Shape:=⟨[aZ 2],[],49⟩
noncomputable def f135(a:i135.H):Option Nh.H:=
(CA ((a.1.1,(0:Int),()),())).bind fun b=>
(match b with
|.inl c=>
 some ((c.1.1,()),())
|.inr d=>
 some ((true,()),()))
noncomputable def OJ:a4:=bi aD Tryz.f135 i135 Nh [] f135
theorem aaT:a6 af 135 OJ:=bk zc Tryz.func135 (by kernel_rfl) (bJ Yp aA) (fun y=>by kernel_rfl) fun a=>by kernel_rfl
noncomputable abbrev Z9:bF:=[(101,LB),(141,OF)]
theorem LD:bb af (bz aD Z9):=bC ⟨Zc,aaP,⟨⟩⟩
abbrev IG:Shape:=⟨[(0,.ah (.dZ [.sl .pack] 0))],[],10⟩
abbrev Iw:List bd:=[(.norm,⟨[aZ 9],[],10⟩)]
noncomputable def A5(y:IG.H):Option (aW Iw):=
(yo ((y.1.1.1,(),()),())).bind fun a=>
 bif(!(!a.1.1)) then
(f141 ((y.1.1.1,()),())).bind fun b=>
 some (((!b.1.1),()),())
else
 some ((true,()),())
theorem VA:br af (aF (codeOf Tryz.f140) 1 12) (bB IG Iw A5):=ep LD (by kernel_rfl) aA fun y=>by kernel_rfl
abbrev Lb:Shape:=⟨[(0,.ah (.dZ [.sl .pack] 0))],[],10⟩
abbrev KW:Shape:=⟨[ak 1],[],10⟩
noncomputable def qY(a:Lb.H):Option KW.H:=
(A5 (((a.1.1.1,()),()),())).bind fun b=>
 bif b.1.1 then
 some (((1:Int),()),())
else
 some (((0:Int),()),())
noncomputable def Lx:a4:=bi aD Tryz.f140 Lb KW [] qY
theorem Y_:a6 af 140 Lx:=bk LD Tryz.func140 (by kernel_rfl) (bJ VA aA) (fun y=>by kernel_rfl) fun a=>by kernel_rfl
abbrev La:Shape:=⟨[(0,.ah (.dZ [.sl .pack] 0))],[],5⟩
abbrev KV:Shape:=⟨[ak 1],[],5⟩
noncomputable def qX(a:La.H):Option KV.H:=
 bif(decide ((a.1.1.1.length:Int)>(5:Int))) then
 some (((6:Int),()),())
else
 some (((0:Int),()),())
noncomputable def Lw:a4:=bi aD Tryz.f142 La KV [] qX
theorem Y9:a6 af 142 Lw:=bk g0 Tryz.func142 (by kernel_rfl) aA (fun y=>by kernel_rfl) fun a=>by kernel_rfl
noncomputable abbrev Z6:bF:=[(132,OK)]
theorem _d:bb af (bz aD Z6):=bC ⟨aaU,⟨⟩⟩
abbrev K9:Shape:=⟨[dw 0 [bG,bG,en .need,en .entry],(1,.ah (.dZ [.str,.int .i64,.str] 0))],[],10⟩
abbrev KS:Shape:=⟨[aZ 3],[],10⟩
noncomputable def Dt(a:K9.H):Option KS.H:=
(f132 (((a.1.2.1.1,a.1.2.1.2.1,a.1.2.1.2.2.1,()),a.1.1.1,a.1.1.2.1,()),())).bind fun b=>
 some ((b.1.1,()),())
noncomputable def Lt:a4:=bi aD Tryz.f196 K9 KS [] Dt
theorem Y6:a6 af 196 Lt:=bk _d Tryz.func196 (by kernel_rfl) aA (fun y=>by kernel_rfl) fun a=>by kernel_rfl
noncomputable abbrev Z4:bF:=[(196,Lt)]
theorem LC:bb af (bz aD Z4):=bC ⟨Y6,⟨⟩⟩
abbrev vW:Shape:=⟨[a0 0 .pack,(1,.ah (.fn 196 [[.str,.int .i64,.str]])),ak 7,ak 8],[],19⟩
abbrev AI:List bd:=[(.ret,⟨[ak 4],[],19⟩),(.exit 0,⟨[],[],19⟩)]
noncomputable def v8(y:vW.H):cI vW AI:=
 bif(decide (y.1.2.2.2.1<y.1.2.2.1)) then
(bl y.1.1 y.1.2.2.2.1).bind fun a=>
(Dt (((a.name,a.bT,a.b5,a.cr,()),(y.1.2.1.1.1,y.1.2.1.1.2.1,y.1.2.1.1.2.2.1,()),()),())).bind fun b=>
 bif b.1.1 then
 some (.inr (.inl ((y.1.2.2.2.1,()),())))
else
 some (.inl ((y.1.1,((y.1.2.1.1.1,y.1.2.1.1.2.1,y.1.2.1.1.2.2.1,()),()),y.1.2.2.1,(IntKind.i64.wrap (y.1.2.2.2.1+(1:Int))),()),()))
else
 some (.inr (.inr ((),())))
noncomputable def qm:vW.H->Option (aW AI):=bP v8
theorem Vu:br af (aF (codeOf Tryz.f231) 1 26) (bB vW AI qm):=cK LC (by kernel_rfl) aA fun y=>by kernel_rfl
abbrev K7:Shape:=⟨[a0 0 .pack,(1,.ah (.fn 196 [[.str,.int .i64,.str]]))],[],19⟩
abbrev C7:Shape:=⟨[ak 4],[],19⟩
noncomputable def yj(a:K7.H):Option C7.H:=
(qm ((a.1.1,((a.1.2.1.1.1,a.1.2.1.1.2.1,a.1.2.1.1.2.2.1,()),()),(a.1.1.length:Int),(0:Int),()),())).bind fun b=>
(match b with
|.inl c=>
 some ((c.1.1,()),())
|.inr d=>
 some ((((-1):Int),()),()))
noncomputable def Lr:a4:=bi aD Tryz.f231 K7 C7 [] yj
theorem Y4:a6 af 231 Lr:=bk LC Tryz.func231 (by kernel_rfl) (bJ Vu aA) (fun y=>by kernel_rfl) fun a=>by kernel_rfl
noncomputable abbrev Z5:bF:=[(231,Lr)]
theorem _c:bb af (bz aD Z5):=bC ⟨Y4,⟨⟩⟩
abbrev K8:Shape:=⟨[a0 0 .pack,(1,.ah (.fn 196 [[.str,.int .i64,.str]]))],[],9⟩
abbrev KR:Shape:=⟨[aZ 4],[],9⟩
noncomputable def yk(a:K8.H):Option KR.H:=
(yj ((a.1.1,((a.1.2.1.1.1,a.1.2.1.1.2.1,a.1.2.1.1.2.2.1,()),()),()),())).bind fun b=>
 some (((decide (b.1.1>=(0:Int))),()),())
noncomputable def Ls:a4:=bi aD Tryz.f197 K8 KR [] yk
theorem Y5:a6 af 197 Ls:=bk _c Tryz.func197 (by kernel_rfl) aA (fun y=>by kernel_rfl) fun a=>by kernel_rfl
noncomputable abbrev acW:bF:=[(197,Ls)]
theorem E4:bb af (bz aD acW):=bC ⟨Y5,⟨⟩⟩
abbrev vX:Shape:=⟨[a0 0 .pack,a0 8 .pack,ak 9,ak 10,a0 15 .need,ak 16,ak 17],[],28⟩
abbrev AJ:List bd:=[(.ret,⟨[aZ 2],[],28⟩),(.exit 2,⟨[a0 0 .pack,a0 8 .pack,ak 9,ak 10],[],28⟩)]
noncomputable def v9(y:vX.H):cI vX AJ:=
 bif(decide (y.1.2.2.2.2.2.2.1<y.1.2.2.2.2.2.1)) then
(bl y.1.2.2.2.2.1 y.1.2.2.2.2.2.2.1).bind fun a=>
(yk ((y.1.1,((a.name,a.kind,a.bT,()),()),()),())).bind fun b=>
 bif(!b.1.1) then
 some (.inr (.inl ((false,()),())))
else
 some (.inl ((y.1.1,y.1.2.1,y.1.2.2.1,y.1.2.2.2.1,y.1.2.2.2.2.1,y.1.2.2.2.2.2.1,(IntKind.i64.wrap (y.1.2.2.2.2.2.2.1+(1:Int))),()),()))
else
 some (.inr (.inr ((y.1.1,y.1.2.1,y.1.2.2.1,y.1.2.2.2.1,()),())))
noncomputable def AV:vX.H->Option (aW AJ):=bP v9
theorem Vz:br af (aF (dq (aF (codeOf Tryz.f144) 1 26)) 52 6758) (bB vX AJ AV):=cK E4 (by kernel_rfl) aA fun y=>by kernel_rfl
abbrev w3:Shape:=⟨[a0 0 .pack,a0 8 .pack,ak 9,ak 10],[],28⟩
abbrev B6:List bd:=[(.ret,⟨[aZ 2],[],28⟩),(.exit 0,⟨[],[],28⟩)]
noncomputable def xz(y:w3.H):cI w3 B6:=
 bif(decide (y.1.2.2.2.1<y.1.2.2.1)) then
(bl y.1.2.1 y.1.2.2.2.1).bind fun a=>
(AV ((y.1.1,y.1.2.1,y.1.2.2.1,y.1.2.2.2.1,a.b5,(a.b5.length:Int),(0:Int),()),())).bind fun b=>
(match b with
|.inl c=>
 some (.inr (.inl ((c.1.1,()),())))
|.inr d=>
 some (.inl ((d.1.1,d.1.2.1,d.1.2.2.1,(IntKind.i64.wrap (d.1.2.2.2.1+(1:Int))),()),())))
else
 some (.inr (.inr ((),())))
noncomputable def Cy:w3.H->Option (aW B6):=bP xz
theorem Ym:br af (aF (codeOf Tryz.f144) 1 26) (bB w3 B6 Cy):=cK E4 (by kernel_rfl) (bJ Vz aA) fun y=>by kernel_rfl
abbrev i144:Shape:=⟨[a0 0 .pack],[],28⟩
abbrev Nb:Shape:=⟨[aZ 2],[],28⟩
noncomputable def f144(a:i144.H):Option Nb.H:=
(Cy ((a.1.1,a.1.1,(a.1.1.length:Int),(0:Int),()),())).bind fun b=>
(match b with
|.inl c=>
 some ((c.1.1,()),())
|.inr d=>
 some ((true,()),()))
noncomputable def OE:a4:=bi aD Tryz.f144 i144 Nb [] f144
theorem aaO:a6 af 144 OE:=bk E4 Tryz.func144 (by kernel_rfl) (bJ Ym aA) (fun y=>by kernel_rfl) fun a=>by kernel_rfl
noncomputable abbrev Z8:bF:=[(144,OE)]
theorem _f:bb af (bz aD Z8):=bC ⟨aaO,⟨⟩⟩
abbrev K':Shape:=⟨[(0,.ah (.dZ [.sl .pack] 0))],[],5⟩
abbrev KU:Shape:=⟨[ak 1],[],5⟩
noncomputable def qW(a:K'.H):Option KU.H:=
(f144 ((a.1.1.1,()),())).bind fun b=>
 bif(!b.1.1) then
 some (((4:Int),()),())
else
 some (((0:Int),()),())
noncomputable def Lv:a4:=bi aD Tryz.f143 K' KU [] qW
theorem Y8:a6 af 143 Lv:=bk _f Tryz.func143 (by kernel_rfl) aA (fun y=>by kernel_rfl) fun a=>by kernel_rfl
noncomputable abbrev Z7:bF:=[(52,Gj)]
theorem _e:bb af (bz aD Z7):=bC ⟨Pb,⟨⟩⟩
abbrev K_:Shape:=⟨[(0,.ah (.dZ [.sl .pack] 0))],[],11⟩
abbrev KT:Shape:=⟨[ak 1],[],11⟩
noncomputable def qV(a:K_.H):Option KT.H:=
(f52 ((a.1.1.1,()),())).bind fun b=>
 bif(!b.1.2.1) then
 some (((5:Int),()),())
else
 some (((0:Int),()),())
noncomputable def Lu:a4:=bi aD Tryz.f145 K_ KT [] qV
theorem Y7:a6 af 145 Lu:=bk _e Tryz.func145 (by kernel_rfl) aA (fun y=>by kernel_rfl) fun a=>by kernel_rfl
noncomputable abbrev agQ:bF:=[(51,Gk),(98,QL),(135,OJ)]
theorem Gp:bb af (bz aD agQ):=bC ⟨Pc,ady,aaT,⟨⟩⟩
abbrev J6:Shape:=⟨[a0 0 .pack,ak 3],[],52⟩
abbrev JY:List bd:=[(.norm,⟨[a0 0 .pack,ak 3,a0 12 .pack,ak 13,(14,.ah (.dZ [.str,.str,.sl .need,.sl .entry] 0)),dw 15 [bG,bG,en .need,en .entry],aZ 16,aZ 17,aZ 18,aZ 35],[],52⟩)]
noncomputable def CD(y:J6.H):Option (aW JY):=
(bl y.1.1 y.1.2.1).bind fun a=>
(f98 (((a.name,a.bT,a.b5,a.cr,()),()),())).bind fun b=>
 bif(!b.1.1) then
 some ((y.1.1,y.1.2.1,y.1.1,y.1.2.1,(a.name,a.bT,a.b5,a.cr,()),(a.name,a.bT,a.b5,a.cr,()),b.1.1,(!b.1.1),true,true,()),())
else
 bif(decide (y.1.2.1>(0:Int))) then
(bl y.1.1 (IntKind.i64.wrap (y.1.2.1-(1:Int)))).bind fun c=>
(bl y.1.1 y.1.2.1).bind fun d=>
 some ((y.1.1,y.1.2.1,y.1.1,y.1.2.1,(a.name,a.bT,a.b5,a.cr,()),(a.name,a.bT,a.b5,a.cr,()),b.1.1,(!b.1.1),false,(!(Op.bytesLess c.name d.name)),()),())
else
 some ((y.1.1,y.1.2.1,y.1.1,y.1.2.1,(a.name,a.bT,a.b5,a.cr,()),(a.name,a.bT,a.b5,a.cr,()),b.1.1,(!b.1.1),false,false,()),())
theorem X0:br af (aF (dq (aF (codeOf Tryz.f85) 1 26)) 52 840) (bB J6 JY CD):=ep Gp (by kernel_rfl) aA fun y=>by kernel_rfl
abbrev xS:Shape:=⟨[a0 0 .pack,ak 3],[],52⟩
abbrev CW:List bd:=[(.ret,⟨[ak 2],[],52⟩),(.exit 0,⟨[a0 0 .pack],[],52⟩)]
noncomputable def x'(y:xS.H):cI xS CW:=
 bif(decide (y.1.2.1<(y.1.1.length:Int))) then
(CD ((y.1.1,y.1.2.1,()),())).bind fun a=>
 bif a.1.2.2.2.2.2.2.2.2.2.1 then
 some (.inr (.inl (((1:Int),()),())))
else
 some (.inl ((a.1.1,(IntKind.i64.wrap (a.1.2.1+(1:Int))),()),()))
else
 some (.inr (.inr ((y.1.1,()),())))
noncomputable def Dc:xS.H->Option (aW CW):=bP x'
theorem Zq:br af (aF (codeOf Tryz.f85) 1 26) (bB xS CW Dc):=cK Gp (by kernel_rfl) (bJ X0 aA) fun y=>by kernel_rfl
abbrev i85:Shape:=⟨[a0 0 .pack],[],52⟩
abbrev Pz:Shape:=⟨[ak 2],[],52⟩
noncomputable def f85(a:i85.H):Option Pz.H:=
(Dc ((a.1.1,(0:Int),()),())).bind fun b=>
(match b with
|.inl c=>
 some ((c.1.1,()),())
|.inr d=>
(f51 ((d.1.1,()),())).bind fun e=>
 bif(decide ((d.1.1.length:Int)>(5:Int))) then
 some (((6:Int),()),())
else
(f135 ((d.1.1,()),())).bind fun f=>
 bif(!f.1.1) then
 some (((4:Int),()),())
else
 bif(!e.1.2.1) then
 some (((5:Int),()),())
else
 some (((0:Int),()),()))
noncomputable def QQ:a4:=bi aD Tryz.f85 i85 Pz [] f85
theorem adD:a6 af 85 QQ:=bk Gp Tryz.func85 (by kernel_rfl) (bJ Zq aA) (fun y=>by kernel_rfl) fun a=>by kernel_rfl
noncomputable abbrev ag1:bF:=[(85,QQ)]
theorem ahj:bb af (bz aD ag1):=bC ⟨adD,⟨⟩⟩
abbrev i46:Shape:=⟨[dw 0 [en .pack]],[],7⟩
abbrev PM:Shape:=⟨[aZ 2],[],7⟩
noncomputable def f46(a:i46.H):Option PM.H:=
(f85 ((a.1.1.1,()),())).bind fun b=>
 some (((b.1.1==(0:Int)),()),())
noncomputable def Q0:a4:=bi aD Tryz.f46 i46 PM [] f46
theorem adN:a6 af 46 Q0:=bk ahj Tryz.func46 (by kernel_rfl) aA (fun y=>by kernel_rfl) fun a=>by kernel_rfl
noncomputable abbrev sp:bF:=[(140,Lx),(142,Lw),(143,Lv),(145,Lu)]
theorem Rc:bb af (bz aD sp):=bC ⟨Y_,Y9,Y8,Y7,⟨⟩⟩
abbrev LN:Shape:=⟨[c5 1 1 0],[c4 1 [en .pack]],24⟩
abbrev nY:List bd:=[(.ret,⟨[ak 2],[],24⟩)]
noncomputable def o6(c:Int):aW nY:=((c,()),())
noncomputable def DN(y:LN.H):Option (aW nY):=
 o4 y.2.1.1 o6 [fun ps=>qY (((ps,()),()),()),fun ps=>qX (((ps,()),()),()),fun ps=>qW (((ps,()),()),()),fun ps=>qV (((ps,()),()),())]
theorem _o:∀ps k i,exec (fZ (bz aD sp) []) (aF (dq (aF (codeOf Tryz.f88) 1 58)) 116 3737) 3737 (((gB 24).st (gF 24 ps k i)).set 5 (bD (.clo 140 [(1,0)]))) (o7 24 nY)=((fun ps=>qY (((ps,()),()),())) ps).bind fun r=>bif(r.1.1 !=0) then some (.inr (o6 r.1.1)) else some (.inl (gF 24 ps k i)):=fun ps k i=>by kernel_rfl
theorem _n:∀ps k i,exec (fZ (bz aD sp) []) (aF (dq (aF (codeOf Tryz.f88) 1 58)) 116 3737) 3737 (((gB 24).st (gF 24 ps k i)).set 5 (bD (.clo 142 [(1,0)]))) (o7 24 nY)=((fun ps=>qX (((ps,()),()),())) ps).bind fun r=>bif(r.1.1 !=0) then some (.inr (o6 r.1.1)) else some (.inl (gF 24 ps k i)):=fun ps k i=>by kernel_rfl
theorem _m:∀ps k i,exec (fZ (bz aD sp) []) (aF (dq (aF (codeOf Tryz.f88) 1 58)) 116 3737) 3737 (((gB 24).st (gF 24 ps k i)).set 5 (bD (.clo 143 [(1,0)]))) (o7 24 nY)=((fun ps=>qW (((ps,()),()),())) ps).bind fun r=>bif(r.1.1 !=0) then some (.inr (o6 r.1.1)) else some (.inl (gF 24 ps k i)):=fun ps k i=>by kernel_rfl
theorem _l:∀ps k i,exec (fZ (bz aD sp) []) (aF (dq (aF (codeOf Tryz.f88) 1 58)) 116 3737) 3737 (((gB 24).st (gF 24 ps k i)).set 5 (bD (.clo 145 [(1,0)]))) (o7 24 nY)=((fun ps=>qV (((ps,()),()),())) ps).bind fun r=>bif(r.1.1 !=0) then some (.inr (o6 r.1.1)) else some (.inl (gF 24 ps k i)):=fun ps k i=>by kernel_rfl
theorem _z:br af (aF (codeOf Tryz.f88) 1 3) (bB LN nY DN):=
 TK (C:=fZ (bz aD sp) []) (os:=nY) (nt:=24) (T:=167) (e:=166) (m0:=((opsOf (aF (codeOf Tryz.f88) 1 6)).getD 0 default)) (m1:=((opsOf (aF (codeOf Tryz.f88) 1 6)).getD 1 default)) (m2:=((opsOf (aF (codeOf Tryz.f88) 1 6)).getD 2 default)) (m3:=((opsOf (aF (codeOf Tryz.f88) 1 6)).getD 3 default)) (m4:=((opsOf (aF (codeOf Tryz.f88) 1 6)).getD 4 default)) (m5:=((opsOf (aF (codeOf Tryz.f88) 1 6)).getD 5 default)) (n0:=((opsOf (aF (codeOf Tryz.f88) 1 28)).getD 0 default)) (n1:=((opsOf (aF (codeOf Tryz.f88) 1 28)).getD 1 default)) (n2:=((opsOf (aF (codeOf Tryz.f88) 1 28)).getD 2 default)) (q0:=((opsOf (aF (dq (aF (codeOf Tryz.f88) 1 58)) 116 232)).getD 0 default)) (r0:=((opsOf (aF (dq (aF (codeOf Tryz.f88) 1 58)) 116 3736)).getD 0 default)) (r1:=((opsOf (aF (dq (aF (codeOf Tryz.f88) 1 58)) 116 3736)).getD 1 default)) (r2:=((opsOf (aF (dq (aF (codeOf Tryz.f88) 1 58)) 116 3736)).getD 2 default))
  (i1:=q8 (aF (codeOf Tryz.f88) 1 6)) (i2:=q8 (aF (codeOf Tryz.f88) 1 28)) (i3:=q8 (aF (dq (aF (codeOf Tryz.f88) 1 58)) 116 232)) (i4:=q8 (aF (dq (aF (codeOf Tryz.f88) 1 58)) 116 3736)) (BB:=(aF (dq (aF (codeOf Tryz.f88) 1 58)) 116 3737)) (r8:=(aF (dq (aF (codeOf Tryz.f88) 1 58)) 116 935)) (E:=(aF (codeOf Tryz.f88) 1 15)) (p3:=232) (pB:=3737) (p8:=935) (pE:=15) (g0:=140) (g1:=142) (g2:=143) (g3:=145) (c0:=fun ps=>qY (((ps,()),()),())) (c1:=fun ps=>qX (((ps,()),()),())) (c2:=fun ps=>qW (((ps,()),()),())) (c3:=fun ps=>qV (((ps,()),()),())) (mk:=o6) Rc
  {pk:=(by kernel_rfl),E9:=(by kernel_rfl),bC:=⟨(by kernel_rfl),(by kernel_rfl),(by kernel_rfl),(by kernel_rfl),(by kernel_rfl),(by kernel_rfl),(by kernel_rfl),(by kernel_rfl),(by kernel_rfl),(by kernel_rfl),(by kernel_rfl),(by kernel_rfl)⟩,e_:=⟨(by kernel_rfl),(by kernel_rfl)⟩,on:=⟨(by kernel_rfl),(by kernel_rfl),(by kernel_rfl)⟩,zm:=⟨(by kernel_rfl),(by kernel_rfl),(by kernel_rfl)⟩,dst:=⟨(by kernel_rfl),(by kernel_rfl),(by kernel_rfl),(by kernel_rfl),(by kernel_rfl),(by kernel_rfl),(by kernel_rfl),(by kernel_rfl)⟩,Ec:=(by decide),Fa:=(by kernel_rfl),P0:=(by kernel_rfl),PZ:=(by kernel_rfl),wr:=(by kernel_rfl),aeb:=(by kernel_rfl),
   jV:=⟨(fun f hf=>by cases hf),kr (by kernel_rfl) aA,kr (by kernel_rfl) aA,kr (by kernel_rfl) aA⟩,hos:=(fun _ _=>rfl),aH:=(fun ps=>by kernel_rfl),mi:=(fun ps k i=>by kernel_rfl),aY:=(fun ps k i=>by kernel_rfl),
   gl:=(fun gc h=>by
    simp only[List.mem_cons,List.not_mem_nil,or_false] at h;rcases h with rfl|rfl|rfl|rfl
    ·exact _o
    ·exact _n
    ·exact _m
    ·exact _l),
   oH:=(fun ps k i=>by kernel_rfl),hE:=(fun ps k i=>by kernel_rfl)} (fun ps=>rfl) (by kernel_rfl)
abbrev i88:Shape:=⟨[a0 0 .pack],[],24⟩
abbrev Pw:Shape:=⟨[ak 2],[],24⟩
noncomputable def f88(a:i88.H):Option Pw.H:=
(DN (((),()),(a.1.1,()),())).bind fun b=>
 some ((b.1.1,()),())
noncomputable def QP:a4:=bi aD Tryz.f88 i88 Pw [] f88
theorem adC:a6 af 88 QP:=bk Rc Tryz.func88 (by kernel_rfl) (bJ _z aA) (fun y=>by kernel_rfl) fun a=>by kernel_rfl
noncomputable abbrev ag0:bF:=[(88,QP)]
theorem ahi:bb af (bz aD ag0):=bC ⟨adC,⟨⟩⟩
abbrev i48:Shape:=⟨[dw 0 [en .pack]],[],7⟩
abbrev PL:Shape:=⟨[aZ 2],[],7⟩
noncomputable def f48(a:i48.H):Option PL.H:=
(f88 ((a.1.1.1,()),())).bind fun b=>
 some (((b.1.1==(0:Int)),()),())
noncomputable def QZ:a4:=bi aD Tryz.f48 i48 PL [] f48
theorem adM:a6 af 48 QZ:=bk ahi Tryz.func48 (by kernel_rfl) aA (fun y=>by kernel_rfl) fun a=>by kernel_rfl
theorem Wp(a)(M:cj a.1.1.length):(∃(k:Nat) (q:bE),f104 a=some (((k:Int),()),())/\a.1.1[k]? =some q/\a.1.1.find? (fun p=>p.name==a.1.2.1)=some q)\/
  (f104 a=some ((((-1):Int),()),())/\a.1.1.find? (fun p=>p.name==a.1.2.1)=none):=by
 obtain⟨⟨ps,name,u⟩,bA⟩:=a;have M:ps.length<=2097152:=M;have key:∀(r:List bE) (k:Nat),ps.drop k=r->k<=ps.length->(∃(j:Nat) (q:bE),qC ((ps,(name,((k:Int),()))),())=some (.inl (((j:Int),()),()))/\ps[j]? =some q/\r.find? (fun p=>p.name==name)=some q)\/
   (qC ((ps,(name,((k:Int),()))),())=some (.inr ((),()))/\r.find? (fun p=>p.name==name)=none):=by
  intro r;induction r with
  |nil=>
   intro k hr ag;have:=drop_nil hr;have d1:decide ((k:Int)<(ps.length:Int))=false:=by simp only[decide_eq_false_iff_not];omega
   refine .inr ⟨eR ?_,rfl⟩;simp only[xD,d1,cond_false]
  |cons q r ih=>
   intro k hr ag;obtain⟨c1,c2,c3⟩:=drop_cons hr;have hw:aJ k:=by unfold aJ;omega
   have step:xD ((ps,(name,((k:Int),()))),())=some (bif q.name==name then .inr (.inl (((k:Int),()),())) else .inl ((ps,(name,(((k+1:Nat):Int),()))),())):=by
    simp only[xD,cx c3,cond_true,b_,c1,Option.bind_some,ch hw];cases (q.name==name)<;>rfl
   cases aL:(q.name==name) with
   |true=>
    rw[aL,cond_true] at step;exact .inl ⟨k,q,eR step,c1,by simp[List.find?_cons,aL]⟩
   |false=>
    rw[aL,cond_false] at step;rcases ih (k+1) c2 c3 with⟨j,gV,h1,h2,Z⟩|⟨h1,h2⟩
    ·exact .inl ⟨j,gV,(h_ step).trans h1,h2,by simp[List.find?_cons,aL];exact Z⟩
    ·exact .inr ⟨(h_ step).trans h1,by simp only[List.find?_cons,aL];exact h2⟩
 rcases key ps 0 rfl (Nat.zero_le _) with⟨j,q,h1,h2,Z⟩|⟨h1,h2⟩
 ·have h1:qC ((ps,(name,((0:Int),()))),())=some (.inl (((j:Int),()),())):=h1;exact .inl ⟨j,q,by simp only[f104,h1,Option.bind_some],h2,Z⟩
 ·have h1:qC ((ps,(name,((0:Int),()))),())=some (.inr ((),())):=h1;exact .inr ⟨by simp only[f104,h1,Option.bind_some],h2⟩
abbrev nz(ps:List bE):Prop:=∀p,p∈ps->p.bT.length<=2097151/\∀n,n∈p.b5->n.bT.length<=2097151
def hP(ps:List bE)(n:dH):Bool:=match ps.find? (fun q=>q.name==n.name) with
 |some q=>rm n q.bT
 |none=>false
def iF(ps:List bE)(n:dH):Bool:=ps.any fun q=>kI n q.name q.bT
theorem UW(a)(hb:gh a.1.1)(hv:nz a.1.1):f135 a=some ((a.1.1.all (fun p=>p.b5.all (hP a.1.1)),()),()):=by
 obtain⟨⟨ps,u⟩,bA⟩:=a;have hl:ps.length<=2097152:=hb.1;have inner:∀(i:Nat) (p:bE),ps[i]? =some p->AW ((ps,((i:Int),((0:Int),()))),())=some (bif p.b5.all (hP ps) then .inr ((ps,((i:Int),())),()) else .inl ((false,()),())):=by
  intro i p an;have r_:=List.mem_of_getElem? an;have FI:p.b5.length<=2097152:=(hb.2 p r_).2.2.1.1;have:=fK wa p.b5 (fun k=>((ps,((i:Int),((k:Int),()))),())) (fun _ n=>hP ps n) (.inl ((false,()),())) (.inr ((ps,((i:Int),())),())) (fun k n hn=>?_) ?_
  ·have:=this;rw[gL] at this;exact this
  ·have ag:=cy hn;have hw:aJ k:=by unfold aJ;omega
   have hD:=List.mem_of_getElem? hn;have oH:=Wp ((ps,(n.name,())),()) hl;simp only[wa,b_,an,Option.bind_some,cx ag,cond_true,hn];rcases oH with⟨j,q,h1,h2,Z⟩|⟨h1,h2⟩
   ·have h2:ps[j]? =some q:=h2;have Z:ps.find? (fun p=>p.name==n.name)=some q:=Z
    have aL:=hv q (List.mem_of_getElem? h2);have hf:=Wq (((n.name,(n.kind,(n.bT,()))),(n.name,(q.bT,()))),()) ((hv p r_).2 n hD) aL.1 rfl;have hj:decide ((j:Int)<0)=false:=by simp only[decide_eq_false_iff_not];omega
    simp only[h1,Option.bind_some,vJ,hj,cond_false,b_,h2,hf,hP,Z,ch hw];cases rm n q.bT<;>rfl
   ·have h2:ps.find? (fun p=>p.name==n.name)=none:=h2
    have hj:decide ((-1:Int)<0)=true:=rfl;simp only[h1,Option.bind_some,vJ,hj,cond_true,hP,h2,cond_false]
  ·simp only[wa,b_,an,Option.bind_some,c7,cond_false]
 have key:CA ((ps,((0:Int),())),())=some (bif allI (fun _ p=>p.b5.all (hP ps)) 0 ps then .inr ((),()) else .inl ((false,()),())):=by
  refine fK xB ps (fun i=>((ps,((i:Int),())),())) _ _ _ (fun i x hx=>?_) ?_
  ·have hi:=cy hx;have hw:aJ i:=by unfold aJ;omega
   simp only[xB,cx hi,cond_true,inner i x hx,Option.bind_some];cases x.b5.all (hP ps)
   ·rfl
   ·simp only[cond_true,ch hw]
  ·simp only[xB,c7,cond_false]
 rw[gL] at key;simp only[f135,key,Option.bind_some];cases List.all ps (fun p=>p.b5.all (hP ps))<;>rfl
theorem SE(a)(hb:gh a.1.1)(hv:nz a.1.1):f144 a=some ((a.1.1.all (fun p=>p.b5.all (iF a.1.1)),()),()):=by
 obtain⟨⟨ps,u⟩,bA⟩:=a;have hl:ps.length<=2097152:=hb.1;have ab9:∀n:dH,cj n.name.length->n.bT.length<=2097151->yk ((ps,(((n.name,(n.kind,(n.bT,()))),()),())),())=some ((iF ps n,()),()):=by
  intro n FK afw;have key:∀(r:List bE) (k:Nat),ps.drop k=r->k<=ps.length->∃z:Int,(qm ((ps,(((n.name,(n.kind,(n.bT,()))),()),((ps.length:Int),((k:Int),())))),())).bind (fun _w=>(match _w with
    |.inl _v=>some ((_v.1.1,()),())
    |.inr ai2=>some ((((-1):Int),()),()):Option C7.H))=some ((z,()),())/\decide (z>=0)=r.any (fun q=>kI n q.name q.bT):=by
   intro r;induction r with
   |nil=>
    intro k hr ag;have:=drop_nil hr;have d1:decide ((k:Int)<(ps.length:Int))=false:=by simp only[decide_eq_false_iff_not];omega
    have:qm ((ps,(((n.name,(n.kind,(n.bT,()))),()),((ps.length:Int),((k:Int),())))),())=some (.inr ((),())):=by
     refine eR ?_
     simp only[v8,d1,cond_false]
    exact⟨-1,by rw[this];rfl,rfl⟩
   |cons q r ih=>
    intro k hr ag;obtain⟨c1,c2,c3⟩:=drop_cons hr;have hw:aJ k:=by unfold aJ;omega
    have aL:=hv q (List.mem_of_getElem? c1);have hf:=TX (((n.name,(n.kind,(n.bT,()))),(q.name,(q.bT,()))),()) FK afw aL.1;have step:v8 ((ps,(((n.name,(n.kind,(n.bT,()))),()),((ps.length:Int),((k:Int),())))),())=some (bif kI n q.name q.bT then .inr (.inl (((k:Int),()),())) else .inl ((ps,(((n.name,(n.kind,(n.bT,()))),()),((ps.length:Int),(((k+1:Nat):Int),())))),())):=by
     simp only[v8,cx c3,cond_true,b_,c1,Option.bind_some,Dt,hf,ch hw];cases kI n q.name q.bT<;>rfl
    rw[List.any_cons];cases Qi:kI n q.name q.bT with
    |true=>
     rw[Qi,cond_true] at step;exact⟨k,by rw[show qm _=_ from eR step];rfl,by simp⟩
    |false=>
     rw[Qi,cond_false] at step;obtain⟨z,h1,h2⟩:=ih (k+1) c2 c3;exact⟨z,by rw[show qm _=_ from h_ step];exact h1,by rw[h2];rfl⟩
  obtain⟨z,h1,h2⟩:=key ps 0 rfl (Nat.zero_le _);have Z:yj ((ps,(((n.name,(n.kind,(n.bT,()))),()),())),())=some ((z,()),()):=by
   simp only[yj];exact h1
  simp only[yk,Z,Option.bind_some,h2,iF]
 have inner:∀(i:Nat) (p:bE),ps[i]? =some p->AV ((ps,(ps,((ps.length:Int),((i:Int),(p.b5,((p.b5.length:Int),((0:Int),()))))))),())=some (bif p.b5.all (iF ps) then .inr ((ps,(ps,((ps.length:Int),((i:Int),())))),()) else .inl ((false,()),())):=by
  intro i p an;have r_:=List.mem_of_getElem? an;have FI:p.b5.length<=2097152:=(hb.2 p r_).2.2.1.1;have:=fK v9 p.b5 (fun k=>((ps,(ps,((ps.length:Int),((i:Int),(p.b5,((p.b5.length:Int),((k:Int),()))))))),())) (fun _ n=>iF ps n) (.inl ((false,()),())) (.inr ((ps,(ps,((ps.length:Int),((i:Int),())))),())) (fun k n hn=>?_) ?_
  ·have:=this;rw[gL] at this;exact this
  ·have ag:=cy hn;have hw:aJ k:=by unfold aJ;omega
   have hD:=List.mem_of_getElem? hn;have hc:=ab9 n ((hb.2 p r_).2.2.1.2 n hD).1 ((hv p r_).2 n hD);simp only[v9,cx ag,cond_true,b_,hn,Option.bind_some,hc,ch hw];cases iF ps n<;>rfl
  ·simp only[v9,c7,cond_false]
 have key:Cy ((ps,(ps,((ps.length:Int),((0:Int),())))),())=some (bif allI (fun _ p=>p.b5.all (iF ps)) 0 ps then .inr ((),()) else .inl ((false,()),())):=by
  refine fK xz ps (fun i=>((ps,(ps,((ps.length:Int),((i:Int),())))),())) _ _ _ (fun i x hx=>?_) ?_
  ·have hi:=cy hx;have hw:aJ i:=by unfold aJ;omega
   simp only[xz,cx hi,cond_true,b_,hx,inner i x hx,Option.bind_some];cases x.b5.all (iF ps)
   ·rfl
   ·simp only[cond_true,ch hw]
  ·simp only[xz,c7,cond_false]
 rw[gL] at key;simp only[f144,key,Option.bind_some];cases List.all ps (fun p=>p.b5.all (iF ps))<;>rfl
theorem Wc:∀ps:List bE,(∀i y,ps[i+1]? =some y->mW ps i y=true)->ps.Pairwise fun p q=>Op.bytesLess p.name q.name=true:=by
 intro ps;induction ps with
 |nil=>intro _;exact List.Pairwise.nil
 |cons x r ih=>
  intro h;have hr:=ih (fun i y ai=>by
   have:=h (i+1) y (by simpa using ai)
   unfold mW at this ⊢;simpa using this)
  refine List.pairwise_cons.2 ⟨fun y ai=>?_,hr⟩
  cases r with
  |nil=>cases ai
  |cons z r=>
   have hz:Op.bytesLess x.name z.name=true:=by
    have:=h 0 z rfl;unfold mW at this;simpa using this
   rcases List.mem_cons.1 ai with rfl|ai
   ·exact hz
   ·exact s5 _ _ _ hz ((List.pairwise_cons.1 hr).1 y ai)
theorem Kw{ps:List bE}(h:kN ps=true):ps.Pairwise fun p q=>Op.bytesLess p.name q.name=true:=by
 refine Wc ps (fun i y ai=>?_)
 have:=BL ps.tail 0 h i y (by rw[List.getElem?_tail];exact ai)
 rwa[Nat.zero_add] at this
theorem Tu:∀(ps:List bE) (n:dH),(∀p,p∈ps->eB p.bT=true)->hq n=true->ps.Pairwise (fun p q=>Op.bytesLess p.name q.name=true)->iF ps n=hP ps n:=by
 intro ps n;induction ps with
 |nil=>intro _ _ _;rfl
 |cons q r ih=>
  intro hv hn an;have nk:=List.pairwise_cons.1 an;have ih:=ih (fun p h=>hv p (List.mem_cons_of_mem _ h)) hn nk.2
  unfold iF hP at ih ⊢;rw[List.any_cons,List.find?_cons];cases aL:(q.name==n.name) with
  |true=>
   have lD:r.any (fun q=>kI n q.name q.bT)=false:=by
    rw[List.any_eq_false];intro p afn;have h1:=nk.1 p afn;rw[eq_of_beq aL] at h1;have:(p.name==n.name)=false:=by
     cases h:(p.name==n.name) with
     |false=>rfl
     |true=>rw[eq_of_beq h,tw] at h1;cases h1
    unfold kI;rw[this];simp
   rw[lD];unfold kI;rw[hv q List.mem_cons_self,hn,aL];simp
  |false=>
   have:kI n q.name q.bT=false:=by unfold kI;rw[aL];simp
   rw[this,Bool.false_or];exact ih
def jN(ps:List bE):Bool:=ps.all eI&&kN ps&&decide (ps.length<=5)&&ps.all (fun p=>p.b5.all (hP ps))&&(eK [] ps).isSome
def yK(ps:List bE):Int:=bif ps.all eI&&kN ps then(bif decide (ps.length<=5) then(bif ps.all (fun p=>p.b5.all (hP ps)) then(bif(eK [] ps).isSome then 0 else 5) else 4) else 6) else 1
theorem Tn(ps:List bE):jN ps=(yK ps==0):=by
 unfold jN yK;cases ps.all eI<;>cases kN ps<;>cases decide (ps.length<=5)<;>cases ps.all (fun p=>p.b5.all (hP ps))<;>cases (eK [] ps).isSome<;>rfl
theorem UN{az:Type}(ok:Nat->az->Bool):∀(xs:List az) (j:Nat),allI ok (j+1) xs=allI (fun i=>ok (i+1)) j xs:=by
 intro xs;induction xs with
 |nil=>intro j;rfl
 |cons x r ih=>intro j;simp only[allI,ih]
def zn(ps:List bE)(i:Nat)(x:bE):Bool:=eI x&&(i==0||mW ps (i-1) x)
theorem YB(ps:List bE):allI (zn ps) 0 ps=(ps.all eI&&kN ps):=by
 unfold zn;rw[BM,gL];congr 1
 unfold kN;cases ps with
 |nil=>rfl
 |cons x r=>
  simp only[allI,beq_self_eq_true,Bool.true_or,Bool.true_and,List.tail_cons];rw[UN];refine Im r 0 (fun i y _ _=>?_)
  have:(i+1==0)=false:=rfl;rw[this,Bool.false_or,Nat.add_sub_cancel]
theorem Wy(a)(hb:gh a.1.1.1)(hv:nz a.1.1.1):f46 a=some ((jN a.1.1.1,()),()):=by
 obtain⟨⟨⟨ps,u⟩,bA⟩,hU⟩:=a;have hl:ps.length<=2097152:=hb.1;have key:Dc ((ps,((0:Int),())),())=some (bif allI (zn ps) 0 ps then .inr ((ps,()),()) else .inl (((1:Int),()),())):=by
  refine fK x' ps (fun i=>((ps,((i:Int),())),())) _ _ _ (fun i x hx=>?_) ?_
  ·have hi:=cy hx;have hw:aJ i:=by unfold aJ;omega
   have FV:=hb.2 x (List.mem_of_getElem? hx);simp only[x',cx hi,cond_true,CD,b_,hx,Option.bind_some];rw[WA _ FV];simp only[Option.bind_some,zn,EJ];cases eI x with
   |false=>rfl
   |true=>
    simp only[Bool.not_true,cond_false,Bool.true_and,mW];cases i with
    |zero=>simp only[beq_self_eq_true,Bool.not_true,cond_false,Option.bind_some,Bool.true_or,cond_true,ch hw]
    |succ i=>
     have aQ:(i+1==0)=false:=rfl;have jw:i<ps.length:=by omega
     obtain⟨q,aL⟩:∃q,ps[i]? =some q:=⟨ps[i],List.getElem?_eq_getElem jw⟩;simp only[aQ,Bool.not_false,cond_true,vP (i:=i) (by unfold aJ;omega),b_,aL,hx,Option.bind_some,Bool.false_or,Nat.add_sub_cancel]
     cases Op.bytesLess q.name x.name with
     |false=>rfl
     |true=>simp only[Bool.not_true,cond_false,cond_true,ch hw]
  ·simp only[x',c7,cond_false]
 rw[YB] at key;have bp:decide ((ps.length:Int)>5)=!decide (ps.length<=5):=by by_cases h:ps.length<=5<;>simp only[h,decide_true,decide_false,Bool.not_true,Bool.not_false,decide_eq_true_eq,decide_eq_false_iff_not]<;>omega
 simp only[f46,f85,key,Option.bind_some,jN];cases e':(ps.all eI&&kN ps) with
 |false=>rfl
 |true=>
  have ag:ps.all eI=true:=by simp only[Bool.and_eq_true] at e';exact e'.1
  obtain⟨out,aB⟩:=Wo ((ps,()),()) hb ag;have hn:=UW ((ps,()),()) hb hv;simp only[cond_true,Option.bind_some,aB,bp,Bool.true_and];cases decide (ps.length<=5) with
  |false=>rfl
  |true=>
   simp only[Bool.not_true,cond_false,hn,Option.bind_some,Bool.true_and];cases ps.all (fun p=>p.b5.all (hP ps))<;>cases (eK [] ps).isSome<;>rfl
theorem TR(a)(hb:gh a.1.1)(hv:nz a.1.1):f88 a=some ((yK a.1.1,()),()):=by
 obtain⟨⟨ps,u⟩,bA⟩:=a;have hl:ps.length<=2097152:=hb.1;have e1:=U9 ((ps,((),())),()) hb;have e2:=Sj ((ps,()),()) hl;have bK:=SE ((ps,()),()) hb hv;have bp:decide ((ps.length:Int)>5)=!decide (ps.length<=5):=by by_cases h:ps.length<=5<;>simp only[h,decide_true,decide_false,Bool.not_true,Bool.not_false,decide_eq_true_eq,decide_eq_false_iff_not]<;>omega
 have c0:qY (((ps,()),()),())=some (((bif ps.all eI&&kN ps then(0:Int) else 1),()),()):=by
  simp only[qY,A5,e1,Bool.not_not,Option.bind_some];cases ps.all eI with
  |false=>rfl
  |true=>simp only[cond_true,e2,Option.bind_some,Bool.true_and];cases kN ps<;>rfl
 have c1:qX (((ps,()),()),())=some (((bif decide (ps.length<=5) then(0:Int) else 6),()),()):=by
  simp only[qX,bp];cases decide (ps.length<=5)<;>rfl
 have c2:qW (((ps,()),()),())=some (((bif ps.all (fun p=>p.b5.all (iF ps)) then(0:Int) else 4),()),()):=by
  simp only[qW,bK,Option.bind_some];cases ps.all (fun p=>p.b5.all (iF ps))<;>rfl
 have c3:ps.all eI=true->qV (((ps,()),()),())=some (((bif(eK [] ps).isSome then(0:Int) else 5),()),()):=by
  intro ag;obtain⟨out,aB⟩:=S' ((ps,()),()) hb ag;simp only[qV,aB,Option.bind_some];cases (eK [] ps).isSome<;>rfl
 have z:∀n:Int,((n:Int) !=0)=!(n==0):=fun n=>rfl
 simp only[f88,DN,o4,c0,c1,c2,o6,Option.bind_some,yK];cases e':(ps.all eI&&kN ps) with
 |false=>rfl
 |true=>
  simp only[Bool.and_eq_true] at e';have ZS:ps.all (fun p=>p.b5.all (iF ps))=ps.all (fun p=>p.b5.all (hP ps)):=by
   rw[Bool.eq_iff_iff];simp only[List.all_eq_true];have hvs:∀p,p∈ps->eB p.bT=true:=fun p an=>by
    have:=List.all_eq_true.1 e'.1 p an;unfold eI at this;simp only[Bool.and_eq_true] at this;exact this.1.1.2
   have gj:∀p,p∈ps->∀n,n∈p.b5->iF ps n=hP ps n:=fun p an n hn=>by
    have:=List.all_eq_true.1 e'.1 p an;unfold eI qA at this;simp only[Bool.and_eq_true] at this;exact Tu ps n hvs (List.all_eq_true.1 this.1.2.1.1 n hn) (Kw e'.2)
   constructor
   ·intro h p an n hn;rw[<-gj p an n hn];exact h p an n hn
   ·intro h p an n hn;rw[gj p an n hn];exact h p an n hn
  rw[ZS,c3 e'.1];cases decide (ps.length<=5)<;>cases ps.all (fun p=>p.b5.all (hP ps))<;>cases (eK [] ps).isSome<;>rfl
theorem U3(a)(hb:gh a.1.1.1)(hv:nz a.1.1.1):f48 a=some ((jN a.1.1.1,()),()):=by
 obtain⟨⟨⟨ps,u⟩,bA⟩,hU⟩:=a;have e:=TR ((ps,()),()) hb hv;simp only[f48,e,Option.bind_some,Tn]
abbrev i113:Shape:=⟨[dw 0 [bG,cH,bG],ak 1],[],20⟩
abbrev Nu:Shape:=⟨[ak 4],[],20⟩
noncomputable def f113(a:i113.H):Option Nu.H:=
 bif(decide ((IntKind.i64.wrap (a.1.2.1-(a.1.1.1.length:Int)))<(0:Int))) then
 some ((((-1):Int),()),())
else
 bif(decide ((IntKind.i64.wrap ((IntKind.i64.wrap (a.1.2.1-(a.1.1.1.length:Int)))-(a.1.1.2.2.1.length:Int)))<(0:Int))) then
 some ((((-1):Int),()),())
else
 some (((IntKind.i64.wrap ((IntKind.i64.wrap (a.1.2.1-(a.1.1.1.length:Int)))-(a.1.1.2.2.1.length:Int))),()),())
noncomputable def OS:a4:=bi aD Tryz.f113 i113 Nu [] f113
theorem aa2:a6 af 113 OS:=bk g0 Tryz.func113 (by kernel_rfl) aA (fun y=>by kernel_rfl) fun a=>by kernel_rfl
noncomputable abbrev agX:bF:=[(113,OS)]
theorem Rj:bb af (bz aD agX):=bC ⟨aa2,⟨⟩⟩
abbrev wJ:Shape:=⟨[a0 0 .need,ak 1,ak 5],[],27⟩
abbrev BQ:List bd:=[(.ret,⟨[ak 4],[],27⟩),(.exit 0,⟨[ak 1],[],27⟩)]
noncomputable def xk(y:wJ.H):cI wJ BQ:=
 bif(decide (y.1.2.2.1<(y.1.1.length:Int))) then
(bl y.1.1 y.1.2.2.1).bind fun a=>
(f113 (((a.name,a.kind,a.bT,()),y.1.2.1,()),())).bind fun b=>
 bif(decide (b.1.1<(0:Int))) then
 some (.inr (.inl ((((-1):Int),()),())))
else
 some (.inl ((y.1.1,b.1.1,(IntKind.i64.wrap (y.1.2.2.1+(1:Int))),()),()))
else
 some (.inr (.inr ((y.1.2.1,()),())))
noncomputable def xb:wJ.H->Option (aW BQ):=bP xk
theorem X2:br af (aF (codeOf Tryz.f69) 1 122) (bB wJ BQ xb):=cK Rj (by kernel_rfl) aA fun y=>by kernel_rfl
abbrev i69:Shape:=⟨[a0 0 .need,ak 1],[],27⟩
abbrev PG:Shape:=⟨[ak 4],[],27⟩
noncomputable def f69(a:i69.H):Option PG.H:=
 bif(decide ((IntKind.i64.wrap (a.1.2.1-(a.1.1.length:Int)))<(0:Int))) then
 some ((((-1):Int),()),())
else
(xb ((a.1.1,(IntKind.i64.wrap (a.1.2.1-(a.1.1.length:Int))),(0:Int),()),())).bind fun b=>
(match b with
|.inl c=>
 some ((c.1.1,()),())
|.inr d=>
 some ((d.1.1,()),()))
noncomputable def QX:a4:=bi aD Tryz.f69 i69 PG [] f69
theorem adK:a6 af 69 QX:=bk Rj Tryz.func69 (by kernel_rfl) (bJ X2 aA) (fun y=>by kernel_rfl) fun a=>by kernel_rfl
abbrev i114:Shape:=⟨[dw 0 [bG,cH,cH,bG],ak 1],[],20⟩
abbrev Nt:Shape:=⟨[ak 4],[],20⟩
noncomputable def f114(a:i114.H):Option Nt.H:=
 bif(decide ((IntKind.i64.wrap (a.1.2.1-(a.1.1.1.length:Int)))<(0:Int))) then
 some ((((-1):Int),()),())
else
 bif(decide ((IntKind.i64.wrap ((IntKind.i64.wrap (a.1.2.1-(a.1.1.1.length:Int)))-(a.1.1.2.2.2.1.length:Int)))<(0:Int))) then
 some ((((-1):Int),()),())
else
 some (((IntKind.i64.wrap ((IntKind.i64.wrap (a.1.2.1-(a.1.1.1.length:Int)))-(a.1.1.2.2.2.1.length:Int))),()),())
noncomputable def OR:a4:=bi aD Tryz.f114 i114 Nt [] f114
theorem aa1:a6 af 114 OR:=bk g0 Tryz.func114 (by kernel_rfl) aA (fun y=>by kernel_rfl) fun a=>by kernel_rfl
noncomputable abbrev agW:bF:=[(114,OR)]
theorem Ri:bb af (bz aD agW):=bC ⟨aa1,⟨⟩⟩
abbrev wI:Shape:=⟨[a0 0 .entry,ak 1,ak 5],[],27⟩
abbrev BP:List bd:=[(.ret,⟨[ak 4],[],27⟩),(.exit 0,⟨[ak 1],[],27⟩)]
noncomputable def xj(y:wI.H):cI wI BP:=
 bif(decide (y.1.2.2.1<(y.1.1.length:Int))) then
(bl y.1.1 y.1.2.2.1).bind fun a=>
(f114 (((a.path,a.kind,a.mode,a.text,()),y.1.2.1,()),())).bind fun b=>
 bif(decide (b.1.1<(0:Int))) then
 some (.inr (.inl ((((-1):Int),()),())))
else
 some (.inl ((y.1.1,b.1.1,(IntKind.i64.wrap (y.1.2.2.1+(1:Int))),()),()))
else
 some (.inr (.inr ((y.1.2.1,()),())))
noncomputable def w_:wI.H->Option (aW BP):=bP xj
theorem X1:br af (aF (codeOf Tryz.f70) 1 122) (bB wI BP w_):=cK Ri (by kernel_rfl) aA fun y=>by kernel_rfl
abbrev i70:Shape:=⟨[a0 0 .entry,ak 1],[],27⟩
abbrev PF:Shape:=⟨[ak 4],[],27⟩
noncomputable def f70(a:i70.H):Option PF.H:=
 bif(decide ((IntKind.i64.wrap (a.1.2.1-(a.1.1.length:Int)))<(0:Int))) then
 some ((((-1):Int),()),())
else
(w_ ((a.1.1,(IntKind.i64.wrap (a.1.2.1-(a.1.1.length:Int))),(0:Int),()),())).bind fun b=>
(match b with
|.inl c=>
 some ((c.1.1,()),())
|.inr d=>
 some ((d.1.1,()),()))
noncomputable def QW:a4:=bi aD Tryz.f70 i70 PF [] f70
theorem adJ:a6 af 70 QW:=bk Ri Tryz.func70 (by kernel_rfl) (bJ X1 aA) (fun y=>by kernel_rfl) fun a=>by kernel_rfl
noncomputable abbrev ag4:bF:=[(69,QX),(70,QW)]
theorem ahm:bb af (bz aD ag4):=bC ⟨adK,adJ,⟨⟩⟩
abbrev i32:Shape:=⟨[dw 0 [bG,bG,en .need,en .entry],ak 1],[],32⟩
abbrev PP:Shape:=⟨[ak 4],[],32⟩
noncomputable def f32(a:i32.H):Option PP.H:=
 bif(decide ((IntKind.i64.wrap (a.1.2.1-(a.1.1.1.length:Int)))<(0:Int))) then
 some ((((-1):Int),()),())
else
 bif(decide ((IntKind.i64.wrap ((IntKind.i64.wrap (a.1.2.1-(a.1.1.1.length:Int)))-(a.1.1.2.1.length:Int)))<(0:Int))) then
 some ((((-1):Int),()),())
else
(f69 ((a.1.1.2.2.1,(IntKind.i64.wrap ((IntKind.i64.wrap (a.1.2.1-(a.1.1.1.length:Int)))-(a.1.1.2.1.length:Int))),()),())).bind fun b=>
 bif(decide (b.1.1<(0:Int))) then
 some ((((-1):Int),()),())
else
(f70 ((a.1.1.2.2.2.1,b.1.1,()),())).bind fun c=>
 bif(decide (c.1.1<(0:Int))) then
 some ((((-1):Int),()),())
else
 some ((c.1.1,()),())
noncomputable def Q3:a4:=bi aD Tryz.f32 i32 PP [] f32
theorem adQ:a6 af 32 Q3:=bk ahm Tryz.func32 (by kernel_rfl) aA (fun y=>by kernel_rfl) fun a=>by kernel_rfl
noncomputable abbrev ag7:bF:=[(32,Q3)]
theorem Ro:bb af (bz aD ag7):=bC ⟨adQ,⟨⟩⟩
abbrev wS:Shape:=⟨[a0 0 .pack,ak 1,ak 5],[],27⟩
abbrev BY:List bd:=[(.ret,⟨[ak 4],[],27⟩),(.exit 0,⟨[ak 1],[],27⟩)]
noncomputable def xr(y:wS.H):cI wS BY:=
 bif(decide (y.1.2.2.1<(y.1.1.length:Int))) then
(bl y.1.1 y.1.2.2.1).bind fun a=>
(f32 (((a.name,a.bT,a.b5,a.cr,()),y.1.2.1,()),())).bind fun b=>
 bif(decide (b.1.1<(0:Int))) then
 some (.inr (.inl ((((-1):Int),()),())))
else
 some (.inl ((y.1.1,b.1.1,(IntKind.i64.wrap (y.1.2.2.1+(1:Int))),()),()))
else
 some (.inr (.inr ((y.1.2.1,()),())))
noncomputable def xc:wS.H->Option (aW BY):=bP xr
theorem Yb:br af (aF (codeOf Tryz.f20) 1 122) (bB wS BY xc):=cK Ro (by kernel_rfl) aA fun y=>by kernel_rfl
abbrev i20:Shape:=⟨[a0 0 .pack,ak 1],[],27⟩
abbrev PS:Shape:=⟨[ak 4],[],27⟩
noncomputable def f20(a:i20.H):Option PS.H:=
 bif(decide ((IntKind.i64.wrap (a.1.2.1-(a.1.1.length:Int)))<(0:Int))) then
 some ((((-1):Int),()),())
else
(xc ((a.1.1,(IntKind.i64.wrap (a.1.2.1-(a.1.1.length:Int))),(0:Int),()),())).bind fun b=>
(match b with
|.inl c=>
 some ((c.1.1,()),())
|.inr d=>
 some ((d.1.1,()),()))
noncomputable def Q6:a4:=bi aD Tryz.f20 i20 PS [] f20
theorem adT:a6 af 20 Q6:=bk Ro Tryz.func20 (by kernel_rfl) (bJ Yb aA) (fun y=>by kernel_rfl) fun a=>by kernel_rfl
noncomputable abbrev ahe:bF:=[(20,Q6)]
theorem Gq:bb af (bz aD ahe):=bC ⟨adT,⟨⟩⟩
abbrev i11:Shape:=⟨[dw 0 [en .pack],ak 1],[],12⟩
abbrev zp:Shape:=⟨[ak 4],[],12⟩
noncomputable def f11(a:i11.H):Option zp.H:=
(f20 ((a.1.1.1,a.1.2.1,()),())).bind fun b=>
 bif(decide (b.1.1<(0:Int))) then
 some ((((-1):Int),()),())
else
 some ((b.1.1,()),())
noncomputable def vg:a4:=bi aD Tryz.f11 i11 zp [] f11
theorem adZ:a6 af 11 vg:=bk Gq Tryz.func11 (by kernel_rfl) aA (fun y=>by kernel_rfl) fun a=>by kernel_rfl
abbrev i116:Shape:=⟨[dw 0 [bG,cH,bG]],[],14⟩
abbrev Ns:Shape:=⟨[c5 2 2 0],[c4 2 [bG,cH,bG]],14⟩
noncomputable def f116(a:i116.H):Option Ns.H:=
 some (((),()),(a.1.1.1,a.1.1.2.1,a.1.1.2.2.1,()),())
noncomputable def OQ:a4:=bi aD Tryz.f116 i116 Ns [] f116
theorem aa0:a6 af 116 OQ:=bk g0 Tryz.func116 (by kernel_rfl) aA (fun y=>by kernel_rfl) fun a=>by kernel_rfl
abbrev i117:Shape:=⟨[dw 0 [bG,cH,cH,bG]],[],17⟩
abbrev Nr:Shape:=⟨[c5 2 2 0],[c4 2 [bG,cH,cH,bG]],17⟩
noncomputable def f117(a:i117.H):Option Nr.H:=
 some (((),()),(a.1.1.1,a.1.1.2.1,a.1.1.2.2.1,a.1.1.2.2.2.1,()),())
noncomputable def OP:a4:=bi aD Tryz.f117 i117 Nr [] f117
theorem aaZ:a6 af 117 OP:=bk g0 Tryz.func117 (by kernel_rfl) aA (fun y=>by kernel_rfl) fun a=>by kernel_rfl
abbrev i125:Shape:=⟨[dw 0 [bG,cH,bG],dw 1 [bG,cH,bG]],[],20⟩
abbrev Nm:Shape:=⟨[aZ 4],[],20⟩
noncomputable def f125(a:i125.H):Option Nm.H:=
 bif(!(a.1.1.1==a.1.2.1.1)) then
 some ((false,()),())
else
 bif(a.1.1.2.1 !=a.1.2.1.2.1) then
 some ((false,()),())
else
 bif(!(a.1.1.2.2.1==a.1.2.1.2.2.1)) then
 some ((false,()),())
else
 some ((true,()),())
noncomputable def ON:a4:=bi aD Tryz.f125 i125 Nm [] f125
theorem aaX:a6 af 125 ON:=bk g0 Tryz.func125 (by kernel_rfl) aA (fun y=>by kernel_rfl) fun a=>by kernel_rfl
noncomputable abbrev agV:bF:=[(116,OQ)]
theorem Rh:bb af (bz aD agV):=bC ⟨aa0,⟨⟩⟩
abbrev xV:Shape:=⟨[a0 0 .need,b6 3 3000192,ak 4],[cl 3000192 .need 3 0],23⟩
abbrev CZ:List bd:=[(.exit 0,⟨[b6 3 3000192],[cl 3000192 .need 3 0],23⟩)]
noncomputable def yc(y:xV.H):cI xV CZ:=
 bif(decide (y.1.2.2.1<(y.1.1.length:Int))) then
(bl y.1.1 y.1.2.2.1).bind fun a=>
(f116 (((a.name,a.kind,a.bT,()),()),())).bind fun b=>
(e8 y.2.1.length y.1.2.2.1).bind fun c=>
((y.2.1[c]?).bind fun q=>some (dH.mk b.2.1.1 b.2.1.2.1 b.2.1.2.2.1)).bind fun d=>
 some (.inl ((y.1.1,(),(IntKind.i64.wrap (y.1.2.2.1+(1:Int))),()),(y.2.1.set c d),()))
else
 some (.inr (((),()),y.2.1,()))
noncomputable def Df:xV.H->Option (aW CZ):=bP yc
theorem Zv:br af (aF (codeOf Tryz.f72) 1 58) (bB xV CZ Df):=cK Rh (by kernel_rfl) aA fun y=>by kernel_rfl
abbrev i72:Shape:=⟨[a0 0 .need],[],23⟩
abbrev PE:Shape:=⟨[b6 2 3000128],[cl 3000128 .need 2 0],23⟩
noncomputable def f72(a:i72.H):Option PE.H:=
(lw 40 (a.1.1.length:Int) (a.1.1.length:Int) (dH.mk ([]:al) (0:Int) ([]:al))).bind fun b=>
(Df ((a.1.1,(),(0:Int),()),b,())).bind fun c=>
 some (((),()),c.2.1,())
noncomputable def QV:a4:=bi aD Tryz.f72 i72 PE [] f72
theorem adI:a6 af 72 QV:=bk Rh Tryz.func72 (by kernel_rfl) (bJ Zv aA) (fun y=>by kernel_rfl) fun a=>by kernel_rfl
noncomputable abbrev agU:bF:=[(117,OP)]
theorem Rg:bb af (bz aD agU):=bC ⟨aaZ,⟨⟩⟩
abbrev xU:Shape:=⟨[a0 0 .entry,b6 3 3000192,ak 4],[cl 3000192 .entry 3 0],23⟩
abbrev CY:List bd:=[(.exit 0,⟨[b6 3 3000192],[cl 3000192 .entry 3 0],23⟩)]
noncomputable def yb(y:xU.H):cI xU CY:=
 bif(decide (y.1.2.2.1<(y.1.1.length:Int))) then
(bl y.1.1 y.1.2.2.1).bind fun a=>
(f117 (((a.path,a.kind,a.mode,a.text,()),()),())).bind fun b=>
(e8 y.2.1.length y.1.2.2.1).bind fun c=>
((y.2.1[c]?).bind fun q=>some (aX.mk b.2.1.1 b.2.1.2.1 b.2.1.2.2.1 b.2.1.2.2.2.1)).bind fun d=>
 some (.inl ((y.1.1,(),(IntKind.i64.wrap (y.1.2.2.1+(1:Int))),()),(y.2.1.set c d),()))
else
 some (.inr (((),()),y.2.1,()))
noncomputable def De:xU.H->Option (aW CY):=bP yb
theorem Zu:br af (aF (codeOf Tryz.f73) 1 58) (bB xU CY De):=cK Rg (by kernel_rfl) aA fun y=>by kernel_rfl
abbrev i73:Shape:=⟨[a0 0 .entry],[],23⟩
abbrev PD:Shape:=⟨[b6 2 3000128],[cl 3000128 .entry 2 0],23⟩
noncomputable def f73(a:i73.H):Option PD.H:=
(lw 48 (a.1.1.length:Int) (a.1.1.length:Int) (aX.mk ([]:al) (0:Int) (0:Int) ([]:al))).bind fun b=>
(De ((a.1.1,(),(0:Int),()),b,())).bind fun c=>
 some (((),()),c.2.1,())
noncomputable def QU:a4:=bi aD Tryz.f73 i73 PD [] f73
theorem adH:a6 af 73 QU:=bk Rg Tryz.func73 (by kernel_rfl) (bJ Zu aA) (fun y=>by kernel_rfl) fun a=>by kernel_rfl
noncomputable abbrev ag3:bF:=[(72,QV),(73,QU)]
theorem ahl:bb af (bz aD ag3):=bC ⟨adI,adH,⟨⟩⟩
abbrev i34:Shape:=⟨[dw 0 [bG,bG,en .need,en .entry]],[],19⟩
abbrev PO:Shape:=⟨[c5 2 2 0],[kY 5000130 .need 2 2,kY 5000131 .entry 2 3,c4 2 [bG,bG,.own 5000130,.own 5000131]],19⟩
noncomputable def f34(a:i34.H):Option PO.H:=
(f72 ((a.1.1.2.2.1,()),())).bind fun b=>
(f73 ((a.1.1.2.2.2.1,()),())).bind fun c=>
 some (((),()),b.2.1,c.2.1,(a.1.1.1,a.1.1.2.1,(),(),()),())
noncomputable def Q2:a4:=bi aD Tryz.f34 i34 PO [] f34
theorem adP:a6 af 34 Q2:=bk ahl Tryz.func34 (by kernel_rfl) aA (fun y=>by kernel_rfl) fun a=>by kernel_rfl
noncomputable abbrev ag6:bF:=[(34,Q2)]
theorem Rn:bb af (bz sD ag6):=RO ⟨adP,⟨⟩⟩
abbrev x0:Shape:=⟨[a0 0 .pack,b6 3 3000192,ak 4],[(3000192,.deep .pack,.slot 3 0)],23⟩
abbrev C2:List bd:=[(.exit 0,⟨[b6 3 3000192],[(3000192,.deep .pack,.slot 3 0)],23⟩)]
noncomputable def yg(y:x0.H):cI x0 C2:=
 bif(decide (y.1.2.2.1<(y.1.1.length:Int))) then
(bl y.1.1 y.1.2.2.1).bind fun a=>
(f34 (((a.name,a.bT,a.b5,a.cr,()),()),())).bind fun b=>
(e8 y.2.1.length y.1.2.2.1).bind fun c=>
((y.2.1[c]?).bind fun _=>some (bE.mk b.2.2.2.1.1 b.2.2.2.1.2.1 b.2.1 b.2.2.1)).bind fun d=>
 some (.inl ((y.1.1,(),(IntKind.i64.wrap (y.1.2.2.1+(1:Int))),()),(y.2.1.set c d),()))
else
 some (.inr (((),()),y.2.1,()))
noncomputable def Dk:x0.H->Option (aW C2):=bP yg
theorem ZA:br af (aF (codeOf Tryz.f22) 1 58) (bB x0 C2 Dk):=cK Rn (by kernel_rfl) aA fun y=>by kernel_rfl
abbrev i22:Shape:=⟨[a0 0 .pack],[],23⟩
abbrev PR:Shape:=⟨[b6 2 3000128],[(3000128,.deep .pack,.slot 2 0)],23⟩
noncomputable def f22(a:i22.H):Option PR.H:=
(lw 80 (a.1.1.length:Int) (a.1.1.length:Int) (bE.mk ([]:al) ([]:al) ([]:List dH) ([]:List aX))).bind fun b=>
(Dk ((a.1.1,(),(0:Int),()),b,())).bind fun c=>
 some (((),()),c.2.1,())
noncomputable def Q5:a4:=bi sD Tryz.f22 i22 PR [] f22
theorem adS:a6 af 22 Q5:=bk Rn Tryz.func22 (by kernel_rfl) (bJ ZA aA) (fun y=>by kernel_rfl) fun a=>by kernel_rfl
noncomputable abbrev ahc:bF:=[(22,Q5)]
theorem ahp:bb af (bz sD ahc):=RO ⟨adS,⟨⟩⟩
abbrev i13:Shape:=⟨[dw 0 [en .pack]],[],9⟩
abbrev PW:Shape:=⟨[c5 2 2 0],[(5000128,.deep .pack,.cell 2 0),c4 2 [.own 5000128]],9⟩
noncomputable def f13(a:i13.H):Option PW.H:=
(f22 ((a.1.1.1,()),())).bind fun b=>
 some (((),()),b.2.1,((),()),())
noncomputable def zZ:a4:=bi sD Tryz.f13 i13 PW [] f13
theorem adX:a6 af 13 zZ:=bk ahp Tryz.func13 (by kernel_rfl) aA (fun y=>by kernel_rfl) fun a=>by kernel_rfl
abbrev i53:Shape:=⟨[dw 0 [bG,cH,cH,bG],dw 1 [bG,cH,cH,bG]],[],25⟩
abbrev PI:Shape:=⟨[aZ 4],[],25⟩
noncomputable def f53(a:i53.H):Option PI.H:=
 bif(!(a.1.1.1==a.1.2.1.1)) then
 some ((false,()),())
else
 bif(a.1.1.2.1 !=a.1.2.1.2.1) then
 some ((false,()),())
else
 bif(a.1.1.2.2.1 !=a.1.2.1.2.2.1) then
 some ((false,()),())
else
 bif(!(a.1.1.2.2.2.1==a.1.2.1.2.2.2.1)) then
 some ((false,()),())
else
 some ((true,()),())
noncomputable def QY:a4:=bi aD Tryz.f53 i53 PI [] f53
theorem adL:a6 af 53 QY:=bk g0 Tryz.func53 (by kernel_rfl) aA (fun y=>by kernel_rfl) fun a=>by kernel_rfl
noncomputable abbrev aha:bF:=[(53,QY)]
theorem Rq:bb af (bz aD aha):=bC ⟨adL,⟨⟩⟩
abbrev x1:Shape:=⟨[a0 0 .entry,a0 1 .entry,ak 5],[],27⟩
abbrev C4:List bd:=[(.ret,⟨[aZ 4],[],27⟩),(.exit 0,⟨[],[],27⟩)]
noncomputable def yh(y:x1.H):cI x1 C4:=
 bif(decide (y.1.2.2.1<(y.1.1.length:Int))) then
(bl y.1.1 y.1.2.2.1).bind fun a=>
(bl y.1.2.1 y.1.2.2.1).bind fun b=>
(f53 (((a.path,a.kind,a.mode,a.text,()),(b.path,b.kind,b.mode,b.text,()),()),())).bind fun c=>
 bif(!c.1.1) then
 some (.inr (.inl ((false,()),())))
else
 some (.inl ((y.1.1,y.1.2.1,(IntKind.i64.wrap (y.1.2.2.1+(1:Int))),()),()))
else
 some (.inr (.inr ((),())))
noncomputable def Dm:x1.H->Option (aW C4):=bP yh
theorem ZC:br af (aF (codeOf Tryz.f15) 1 58) (bB x1 C4 Dm):=cK Rq (by kernel_rfl) aA fun y=>by kernel_rfl
abbrev i15:Shape:=⟨[a0 0 .entry,a0 1 .entry],[],27⟩
abbrev PV:Shape:=⟨[aZ 4],[],27⟩
noncomputable def f15(a:i15.H):Option PV.H:=
 bif((a.1.1.length:Int) !=(a.1.2.1.length:Int)) then
 some ((false,()),())
else
(Dm ((a.1.1,a.1.2.1,(0:Int),()),())).bind fun b=>
(match b with
|.inl c=>
 some ((c.1.1,()),())
|.inr d=>
 some ((true,()),()))
noncomputable def so:a4:=bi aD Tryz.f15 i15 PV [] f15
theorem Pd:a6 af 15 so:=bk Rq Tryz.func15 (by kernel_rfl) (bJ ZC aA) (fun y=>by kernel_rfl) fun a=>by kernel_rfl
noncomputable abbrev agS:bF:=[(125,ON)]
theorem Re:bb af (bz aD agS):=bC ⟨aaX,⟨⟩⟩
abbrev xT:Shape:=⟨[a0 0 .need,a0 1 .need,ak 5],[],27⟩
abbrev CX:List bd:=[(.ret,⟨[aZ 4],[],27⟩),(.exit 0,⟨[],[],27⟩)]
noncomputable def ya(y:xT.H):cI xT CX:=
 bif(decide (y.1.2.2.1<(y.1.1.length:Int))) then
(bl y.1.1 y.1.2.2.1).bind fun a=>
(bl y.1.2.1 y.1.2.2.1).bind fun b=>
(f125 (((a.name,a.kind,a.bT,()),(b.name,b.kind,b.bT,()),()),())).bind fun c=>
 bif(!c.1.1) then
 some (.inr (.inl ((false,()),())))
else
 some (.inl ((y.1.1,y.1.2.1,(IntKind.i64.wrap (y.1.2.2.1+(1:Int))),()),()))
else
 some (.inr (.inr ((),())))
noncomputable def Dd:xT.H->Option (aW CX):=bP ya
theorem Zs:br af (aF (codeOf Tryz.f76) 1 58) (bB xT CX Dd):=cK Re (by kernel_rfl) aA fun y=>by kernel_rfl
abbrev i76:Shape:=⟨[a0 0 .need,a0 1 .need],[],27⟩
abbrev PB:Shape:=⟨[aZ 4],[],27⟩
noncomputable def f76(a:i76.H):Option PB.H:=
 bif((a.1.1.length:Int) !=(a.1.2.1.length:Int)) then
 some ((false,()),())
else
(Dd ((a.1.1,a.1.2.1,(0:Int),()),())).bind fun b=>
(match b with
|.inl c=>
 some ((c.1.1,()),())
|.inr d=>
 some ((true,()),()))
noncomputable def QS:a4:=bi aD Tryz.f76 i76 PB [] f76
theorem adF:a6 af 76 QS:=bk Re Tryz.func76 (by kernel_rfl) (bJ Zs aA) (fun y=>by kernel_rfl) fun a=>by kernel_rfl
noncomputable abbrev ag2:bF:=[(15,so),(76,QS)]
theorem ahk:bb af (bz aD ag2):=bC ⟨Pd,adF,⟨⟩⟩
abbrev i36:Shape:=⟨[dw 0 [bG,bG,en .need,en .entry],dw 1 [bG,bG,en .need,en .entry]],[],27⟩
abbrev PN:Shape:=⟨[aZ 4],[],27⟩
noncomputable def f36(a:i36.H):Option PN.H:=
 bif(!(a.1.1.1==a.1.2.1.1)) then
 some ((false,()),())
else
 bif(!(a.1.1.2.1==a.1.2.1.2.1)) then
 some ((false,()),())
else
(f76 ((a.1.1.2.2.1,a.1.2.1.2.2.1,()),())).bind fun b=>
 bif(!b.1.1) then
 some ((false,()),())
else
(f15 ((a.1.1.2.2.2.1,a.1.2.1.2.2.2.1,()),())).bind fun c=>
 bif(!c.1.1) then
 some ((false,()),())
else
 some ((true,()),())
noncomputable def Q1:a4:=bi aD Tryz.f36 i36 PN [] f36
theorem adO:a6 af 36 Q1:=bk ahk Tryz.func36 (by kernel_rfl) aA (fun y=>by kernel_rfl) fun a=>by kernel_rfl
noncomputable abbrev ag5:bF:=[(36,Q1)]
theorem Rm:bb af (bz aD ag5):=bC ⟨adO,⟨⟩⟩
abbrev xZ:Shape:=⟨[a0 0 .pack,a0 1 .pack,ak 5],[],27⟩
abbrev C1:List bd:=[(.ret,⟨[aZ 4],[],27⟩),(.exit 0,⟨[],[],27⟩)]
noncomputable def yf(y:xZ.H):cI xZ C1:=
 bif(decide (y.1.2.2.1<(y.1.1.length:Int))) then
(bl y.1.1 y.1.2.2.1).bind fun a=>
(bl y.1.2.1 y.1.2.2.1).bind fun b=>
(f36 (((a.name,a.bT,a.b5,a.cr,()),(b.name,b.bT,b.b5,b.cr,()),()),())).bind fun c=>
 bif(!c.1.1) then
 some (.inr (.inl ((false,()),())))
else
 some (.inl ((y.1.1,y.1.2.1,(IntKind.i64.wrap (y.1.2.2.1+(1:Int))),()),()))
else
 some (.inr (.inr ((),())))
noncomputable def Dj:xZ.H->Option (aW C1):=bP yf
theorem Zz:br af (aF (codeOf Tryz.f25) 1 58) (bB xZ C1 Dj):=cK Rm (by kernel_rfl) aA fun y=>by kernel_rfl
abbrev i25:Shape:=⟨[a0 0 .pack,a0 1 .pack],[],27⟩
abbrev PQ:Shape:=⟨[aZ 4],[],27⟩
noncomputable def f25(a:i25.H):Option PQ.H:=
 bif((a.1.1.length:Int) !=(a.1.2.1.length:Int)) then
 some ((false,()),())
else
(Dj ((a.1.1,a.1.2.1,(0:Int),()),())).bind fun b=>
(match b with
|.inl c=>
 some ((c.1.1,()),())
|.inr d=>
 some ((true,()),()))
noncomputable def Q4:a4:=bi aD Tryz.f25 i25 PQ [] f25
theorem adR:a6 af 25 Q4:=bk Rm Tryz.func25 (by kernel_rfl) (bJ Zz aA) (fun y=>by kernel_rfl) fun a=>by kernel_rfl
noncomputable abbrev ag9:bF:=[(25,Q4)]
theorem ahn:bb af (bz aD ag9):=bC ⟨adR,⟨⟩⟩
abbrev i16:Shape:=⟨[dw 0 [en .pack],dw 1 [en .pack]],[],11⟩
abbrev PU:Shape:=⟨[aZ 4],[],11⟩
noncomputable def f16(a:i16.H):Option PU.H:=
(f25 ((a.1.1.1,a.1.2.1.1,()),())).bind fun b=>
 bif(!b.1.1) then
 some ((false,()),())
else
 some ((true,()),())
noncomputable def Q8:a4:=bi aD Tryz.f16 i16 PU [] f16
theorem adV:a6 af 16 Q8:=bk ahn Tryz.func16 (by kernel_rfl) aA (fun y=>by kernel_rfl) fun a=>by kernel_rfl
end Go.Proofs
