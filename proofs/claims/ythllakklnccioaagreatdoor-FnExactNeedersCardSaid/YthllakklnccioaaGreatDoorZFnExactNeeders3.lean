/- For all packs and each name, the program's Needers returns what the reference's returns: names of the packs that need it, at first or through others, ascending; its answer is memory of its own. (part 4 of 6: JnQTy, JnQSp, JnQOp, JnQEn, JnQF118, JnQF151, JnQF91, JnQF161, JnQF90, JnQPuA, JnQF89, JnQPuB, JnQFH297, JnQF271, JnQF238, JnQF241, JnQIt, JnQF127, JnQF119, JnQF121, JnQF181, JnQF162, JnQF233, JnQPuC,) Conditions: none beyond the statement. -/
import Derived.Test.YthllakklnccioaaGreatDoorZFnExactNeeders2
import Derived.Tactics
import Derived.Deep.RegionLaw
import Derived.Shelf.Abstract
import Derived.Test.YthllakklnccioaaGreatDoorProg
import Derived.KernelRfl
set_option linter.unusedSimpArgs false
set_option maxRecDepth 100000
set_option linter.unusedVariables false
namespace Go.Proofs
open Go.Jk
noncomputable abbrev ao:Program:=Tryz.prog
noncomputable def ab2:List (Nat×cg):=[
(2,.int .i64),
(3,.int .i64),
(4,.bool),
(5,.int .u8),
(6,.int .u8),
(7,.struct [(0,1),(1,1),(2,1),(3,1)] 4 [.d (.int .i64 0),.d (.int .i64 0),.d (.bool false),.d (.int .u8 0)] false),
(8,.struct [(0,1),(1,1),(2,1),(3,1)] 4 [.d (.int .i64 0),.d (.int .i64 0),.d (.bool false),.d (.int .u8 0)] false),
(9,.str),
(10,.str),
(11,.str),
(12,.int .u64),
(13,.struct [(0,1),(1,1)] 2 [.d (.str []),.d (.int .u64 0)] false),
(14,.struct [(0,1),(1,1)] 2 [.d (.str []),.d (.int .u64 0)] false),
(15,.ptr),
(16,.ptr),
(17,.ptr),
(18,.struct [(0,1)] 1 [.cx (.pointer none)] false),
(19,.struct [(0,1)] 1 [.cx (.pointer none)] false),
(20,.iface),
(21,.int .i32),
(22,.slice 52 .pack 80),
(23,.struct [(0,1)] 1 [.nil .pack] false),
(24,.struct [(0,1)] 1 [.nil .pack] false),
(26,.slice 73 .entry 48),
(28,.slice 57 .pack 80),
(29,.struct [(0,1)] 1 [.nil .pack] false),
(30,.struct [(0,1)] 1 [.nil .pack] false),
(38,.slice 9 .str 16),
(49,.slice 139 .need 40),
(50,.slice 141 .entry 48),
(51,.struct [(0,1),(1,1),(2,1),(3,1)] 4 [.d (.str []),.d (.str []),.nil .need,.nil .entry] false),
(52,.struct [(0,1),(1,1),(2,1),(3,1)] 4 [.d (.str []),.d (.str []),.nil .need,.nil .entry] false),
(55,.slice 91 .need 40),
(56,.struct [(0,1),(1,1),(2,1),(3,1)] 4 [.d (.str []),.d (.str []),.nil .need,.nil .entry] false),
(57,.struct [(0,1),(1,1),(2,1),(3,1)] 4 [.d (.str []),.d (.str []),.nil .need,.nil .entry] false),
(62,.slice 5 .u8 1),
(72,.struct [(0,1),(1,1),(2,1),(3,1)] 4 [.d (.str []),.d (.int .i64 0),.d (.int .i64 0),.d (.str [])] false),
(73,.struct [(0,1),(1,1),(2,1),(3,1)] 4 [.d (.str []),.d (.int .i64 0),.d (.int .i64 0),.d (.str [])] true),
(86,.map 9 3 .i64),
(89,.map 9 38 .strs),
(90,.struct [(0,1),(1,1),(2,1)] 3 [.d (.str []),.d (.int .i64 0),.d (.str [])] false),
(91,.struct [(0,1),(1,1),(2,1)] 3 [.d (.str []),.d (.int .i64 0),.d (.str [])] true),
(108,.ptr),
(112,.slice 3 .i64 8),
(113,.struct [(0,1),(1,1),(2,1),(3,1)] 4 [.nil .pack,.cx (.map none),.nil .i64,.nil .str] false),
(114,.struct [(0,1),(1,1),(2,1),(3,1)] 4 [.nil .pack,.cx (.map none),.nil .i64,.nil .str] false),
(131,.int .u64),
(139,.struct [(0,1),(1,1),(2,1)] 3 [.d (.str []),.d (.int .i64 0),.d (.str [])] true),
(141,.struct [(0,1),(1,1),(2,1),(3,1)] 4 [.d (.str []),.d (.int .i64 0),.d (.int .i64 0),.d (.str [])] true),
(150,.slice 3 .i64 8),
(154,.struct [(0,1),(1,1)] 2 [.nil .u8,.d (.int .i64 0)] false),
(155,.struct [(0,1),(1,1)] 2 [.nil .u8,.d (.int .i64 0)] false),
(159,.ptr),
(166,.func),
(181,.int .i64),
(189,.int .u32),
(191,.int .u64),
(216,.int .u64),
(220,.ptr),
(233,.ptr),
(234,.struct [(0,1),(1,1)] 2 [.cx (.pointer none),.nil .u8] false),
(235,.struct [(0,1),(1,1)] 2 [.cx (.pointer none),.nil .u8] false),
(236,.iface),
(237,.iface),
(241,.arr 189 .u32 8),
(243,.slice 189 .u32 4),
(245,.ptr),
(259,.arr 4 .bool 256),
(260,.arr 4 .bool 256),
(263,.ptr),
(264,.arr 189 .u32 64),
(272,.ptr),
(276,.struct [(0,1),(1,1)] 2 [.d (.int .u8 0),.d (.int .u8 0)] false),
(277,.struct [(0,1),(1,1)] 2 [.d (.int .u8 0),.d (.int .u8 0)] false),
(290,.struct [(0,1),(1,1),(2,1),(3,1)] 4 [.cx (.pointer none),.cx (.pointer none),.cx (.pointer none),.d (.str [])] false),
(291,.struct [(0,1),(1,1),(2,1),(3,1)] 4 [.cx (.pointer none),.cx (.pointer none),.cx (.pointer none),.d (.str [])] false),
(295,.int .u8),
(296,.int .u8),
(298,.int .i32),
(299,.int .i32),
(300,.struct [(0,1),(1,1),(2,1),(3,1),(4,1),(5,1),(6,1),(7,1),(8,1),(9,1),(10,1)] 11 [.d (.int .u64 0),.d (.int .u64 0),.d (.int .u32 0),.d (.int .u8 0),.d (.int .u8 0),.d (.int .u8 0),.d (.int .u8 0),.cx .nilFunc,.cx (.pointer none),.d (.int .i32 0),.d (.int .i32 0)] false),
(301,.struct [(0,1),(1,1),(2,1),(3,1),(4,1),(5,1),(6,1),(7,1),(8,1),(9,1),(10,1)] 11 [.d (.int .u64 0),.d (.int .u64 0),.d (.int .u32 0),.d (.int .u8 0),.d (.int .u8 0),.d (.int .u8 0),.d (.int .u8 0),.cx .nilFunc,.cx (.pointer none),.d (.int .i32 0),.d (.int .i32 0)] false)]
noncomputable def tt:TypeId->cg:=yB ab2
noncomputable def aV:Env:=⟨tt,[(183,257)],[17,18,26,27,37,59,60,66,67,124,160],[79],[],[],[],false⟩
noncomputable def zE:Env:={aV with dY:=true}
abbrev cq(s:Shape)(t:List bh):=Option (Sum s.F (a7 t))
theorem Zj(s p:ByteArray)(k:Int)(w:World):Calls ao 223 #[.string s,.string p,.int .i64 k] w fun e w'=>
  e=.returned (.func (.func 257) #[] #[.pointer (some ⟨w.heap.size+1,0,none⟩),.pointer (some ⟨w.heap.size,0,none⟩),.pointer (some ⟨w.heap.size+2,0,none⟩)])/\
  w'=((w.alloc (.cells #[.string s] 9)).alloc (.cells #[.string p] 9)).alloc (.cells #[.int .i64 k] 3):=by
 go_enter Tryz.func223,Tryz.ntmps223
 go_wp2
 go_ret
 exact⟨rfl,rfl⟩
theorem Zk(s p:ByteArray)(w:World):Calls ao 183 #[.string s,.string p] w fun e w'=>
  e=.returned (.func (.func 257) #[] #[.pointer (some ⟨w.heap.size+1,0,none⟩),.pointer (some ⟨w.heap.size,0,none⟩),.pointer (some ⟨w.heap.size+2,0,none⟩)])/\
  w'=((w.alloc (.cells #[.string s] 9)).alloc (.cells #[.string p] 9)).alloc (.cells #[.int .i64 0] 3):=by
 go_enter Tryz.func183,Tryz.ntmps183
 go_wp2_with (go_at_call 223;refine(Zj _ _ _ _).mono ?_;rintro e w' ⟨rfl,rfl⟩)
 go_ret
 exact⟨rfl,rfl⟩
theorem _C:xl ao 183 257:=fun a b w=>.inl ⟨enters_of Tryz.func183 (by kernel_rfl) rfl _ _,(Zk a b w).mono fun e w' h=>by obtain⟨rfl,rfl⟩:=h;exact⟨9,3,rfl,rfl⟩⟩
theorem acd(w:World):Calls ao 79 #[.slice none 0 0] w fun e w'=>e=.returned (.pointer (some ⟨w.heap.size,0,none⟩))/\w'=w.alloc (.cells #[.slice none 0 0,.int .i64 0] 155):=by
 go_enter Tryz.func79,Tryz.ntmps79
 go_wp2
 go_ret
 exact⟨rfl,rfl⟩
theorem acc(w:World)(a:Addr)(n c:Nat)(h:n<=2000):Calls ao 79 #[.slice (some a) n c] w fun e w'=>e=.returned (.pointer (some ⟨w.heap.size,0,none⟩))/\w'=w.alloc (.cells #[.slice (some a) n c,.int .i64 0] 155):=by
 have h1:¬((n:Int)>2000):=by omega
 go_enter Tryz.func79,Tryz.ntmps79
 go_wp2
 go_ret
 exact⟨rfl,rfl⟩
theorem ace(w:World)(a:Addr)(n c:Nat)(h:2000<n)(hc:n<=c):Calls ao 79 #[.slice (some a) n c] w fun e w'=>e=.returned (.pointer (some ⟨w.heap.size,0,none⟩))/\w'=w.alloc (.cells #[.slice (some a) 2000 c,.int .i64 0] 155):=by
 have h1:((n:Int)>2000):=by omega
 go_enter Tryz.func79,Tryz.ntmps79
 go_wp2
 go_ret
 exact⟨rfl,rfl⟩
theorem _R:x_ ao 79:=fun xs v w av hr=>.inl ⟨enters_of Tryz.func79 (by kernel_rfl) rfl _ _,by
 have fin:∀{v:Value} {u:Value},Rd w av (.sl .u8 (xs.take 2000)) u->Calls ao 79 #[v] w (fun e w'=>e=.returned (.pointer (some ⟨w.heap.size,0,none⟩))/\w'=w.alloc (.cells #[u,.int .i64 0] 155))->
   Calls ao 79 #[v] w fun e w'=>match e,w' with
    |.returned v',w'=>∃u T,Rd w av (.sl .u8 (xs.take 2000)) u/\v'=.pointer (some ⟨w.heap.size,0,none⟩)/\w'=w.alloc (.cells #[u,.int .i64 0] T)
    |_,_=>False:=fun hu hc=>hc.mono fun e w' h=>by obtain⟨rfl,rfl⟩:=h;exact⟨_,_,hu,rfl,rfl⟩
 cases hr with
 |nil=>exact fin (.nil .u8) (acd w)
 |sl t xs a cap cs n hn hcap hb hl hc hr=>
  by_cases h:2000<n
  ·refine fin (u:=.slice (some a) 2000 cap) ?_ (ace w a n cap h hcap);have hlen:(xs.take 2000).length=2000:=by simp only[List.length_take];omega
   have hf:flat .u8 (xs.take 2000)=(flat .u8 xs).take 2000:=by rw[Hx];rfl
   refine .sl .u8 (xs.take 2000) a cap (cs.take 2000) 2000 hlen.symm (by omega) (fun hx=>hb (fun e=>hx (by rw[e];rfl))) (by rw[hf,List.length_take,List.length_take,hl]) (fun j u hu=>?_) (fun j h1 h2=>?_)
   ·rw[List.getElem?_take] at hu;split at hu
    ·exact hc j u hu
    ·cases hu
   ·have h1':j<(flat .u8 xs).length:=by rw[hf,List.length_take] at h1;omega
    have h2':j<cs.length:=by rw[List.length_take] at h2;omega
    have e1:(flat .u8 (xs.take 2000))[j]=(flat .u8 xs)[j]:=by simp only[hf,List.getElem_take]
    have e2:(cs.take 2000)[j]=cs[j]:=List.getElem_take;rw[e1,e2];exact hr j h1' h2'
  ·refine fin (u:=.slice (some a) n cap) ?_ (acc w a n cap (by omega))
   rw[List.take_of_length_le (by omega)]
   exact .sl .u8 xs a cap cs n hn hcap hb hl hc hr⟩
theorem oQ:Do ao aV:=⟨WE (IB (by kernel_rfl)),by kernel_rfl,fun p h=>by
 simp only[aV,List.mem_cons,List.not_mem_nil,or_false] at h;subst h;exact _C,fun g h=>by
 simp only[aV,List.mem_cons,List.not_mem_nil,or_false] at h;subst h;exact _R,fun g h=>(by cases h),fun g h=>(by cases h),fun p h=>(by cases h)⟩
theorem b8{ar:cb}(h:uc ao ar):bG ao (b9 aV ar):=Jm oQ h
theorem g0:bG ao (b9 aV []):=b8 ⟨⟩
theorem aeO:Do ao zE:=⟨oQ.tt,oQ.zw,oQ.kx,oQ.op,oQ.hQ,oQ.bs,oQ.gt⟩
theorem afj{ar:cb}(h:uc ao ar):bG ao (b9 zE ar):=Jm aeO h
abbrev IT:Shape:=⟨[bc 0],[],49⟩
abbrev IM:List bh:=[(.norm,⟨[bc 0,a6 20],[],49⟩)]
noncomputable def Cc(y:IT.F):Option (a7 IM):=
 bif(!(y.1.1==([]:G))) then
 bif(!(decide ((y.1.1.length:Int)>(10:Int)))) then
(bf y.1.1 (0:Int)).bind fun a=>
 bif(!(decide ((a.toNat:Int)<(97:Int)))) then
(bf y.1.1 (0:Int)).bind fun b=>
 some ((y.1.1,(decide ((b.toNat:Int)>(122:Int))),()),())
else
 some ((y.1.1,true,()),())
else
 some ((y.1.1,true,()),())
else
 some ((y.1.1,true,()),())
theorem Xg:bx ao (aU (codeOf Tryz.f118) 1 12) (bK IT IM Cc):=e9 g0 (by kernel_rfl) aH fun y=>by kernel_rfl
abbrev He:Shape:=⟨[bc 0,aj 3,aj 22,aj 23],[],49⟩
abbrev G7:List bh:=[(.norm,⟨[bc 0,aj 22,aj 23,a6 47],[],49⟩)]
noncomputable def Ar(y:He.F):Option (a7 G7):=
(bf y.1.1 y.1.2.1).bind fun a=>
 bif(!(decide ((a.toNat:Int)<(97:Int)))) then
(bf y.1.1 y.1.2.1).bind fun b=>
 bif(decide ((b.toNat:Int)>(122:Int))) then
(bf y.1.1 y.1.2.1).bind fun c=>
 bif(!(decide ((c.toNat:Int)<(48:Int)))) then
(bf y.1.1 y.1.2.1).bind fun d=>
 some ((y.1.1,y.1.2.2.1,y.1.2.2.2.1,(decide ((d.toNat:Int)>(57:Int))),()),())
else
 some ((y.1.1,y.1.2.2.1,y.1.2.2.2.1,true,()),())
else
 some ((y.1.1,y.1.2.2.1,y.1.2.2.2.1,false,()),())
else
(bf y.1.1 y.1.2.1).bind fun e=>
 bif(!(decide ((e.toNat:Int)<(48:Int)))) then
(bf y.1.1 y.1.2.1).bind fun f=>
 some ((y.1.1,y.1.2.2.1,y.1.2.2.2.1,(decide ((f.toNat:Int)>(57:Int))),()),())
else
 some ((y.1.1,y.1.2.2.1,y.1.2.2.2.1,true,()),())
theorem Ug:bx ao (aU (eH (aU (codeOf Tryz.f118) 1 58)) 116 7474) (bK He G7 Ar):=e9 g0 (by kernel_rfl) aH fun y=>by kernel_rfl
abbrev wL:Shape:=⟨[bc 0,aj 22,aj 23],[],49⟩
abbrev BA:List bh:=[(.ret,⟨[a6 2],[],49⟩),(.exit 0,⟨[],[],49⟩)]
noncomputable def xd(y:wL.F):cq wL BA:=
 bif(decide (y.1.2.2.1<y.1.2.1)) then
(Ar ((y.1.1,y.1.2.2.1,y.1.2.1,y.1.2.2.1,()),())).bind fun a=>
 bif a.1.2.2.2.1 then
 some (.inr (.inl ((false,()),())))
else
 some (.inl ((a.1.1,a.1.2.1,(IntKind.i64.wrap (a.1.2.2.1+(1:Int))),()),()))
else
 some (.inr (.inr ((),())))
noncomputable def B3:wL.F->Option (a7 BA):=bH xd
theorem Xf:bx ao (aU (codeOf Tryz.f118) 1 58) (bK wL BA B3):=cG g0 (by kernel_rfl) (bR Ug aH) fun y=>by kernel_rfl
abbrev i118:Shape:=⟨[bc 0],[],49⟩
abbrev LR:Shape:=⟨[a6 2],[],49⟩
noncomputable def f118(a:i118.F):Option LR.F:=
(Cc ((a.1.1,()),())).bind fun b=>
 bif b.1.2.1 then
 some ((false,()),())
else
(B3 ((b.1.1,(b.1.1.length:Int),(0:Int),()),())).bind fun c=>
(match c with
|.inl d=>
 some ((d.1.1,()),())
|.inr e=>
 some ((true,()),()))
noncomputable def Eb:bp:=bN aV Tryz.f118 i118 LR [] f118
theorem K4:bu ao 118 Eb:=bP g0 Tryz.func118 (by kernel_rfl) (bR Xg (bR Xf aH)) (fun y=>by kernel_rfl) fun a=>by kernel_rfl
abbrev IQ:Shape:=⟨[bc 0,aj 1],[],53⟩
abbrev IJ:List bh:=[(.norm,⟨[bc 0,aj 1,a6 24],[],53⟩)]
noncomputable def Ca(y:IQ.F):Option (a7 IJ):=
 bif(!(y.1.1==([]:G))) then
 bif(!(decide ((y.1.1.length:Int)>(9:Int)))) then
 bif(decide ((y.1.1.length:Int)>(1:Int))) then
(bf y.1.1 (0:Int)).bind fun a=>
 some ((y.1.1,y.1.2.1,((a.toNat:Int)==(48:Int)),()),())
else
 some ((y.1.1,y.1.2.1,false,()),())
else
 some ((y.1.1,y.1.2.1,true,()),())
else
 some ((y.1.1,y.1.2.1,true,()),())
theorem Xa:bx ao (aU (codeOf Tryz.f151) 1 12) (bK IQ IJ Ca):=e9 g0 (by kernel_rfl) aH fun y=>by kernel_rfl
abbrev GI:Shape:=⟨[bc 0,aj 1,aj 6,aj 7,aj 26,aj 27],[],53⟩
abbrev GF:List bh:=[(.norm,⟨[bc 0,aj 1,aj 6,aj 7,aj 26,aj 27,a6 39],[],53⟩)]
noncomputable def zY(y:GI.F):Option (a7 GF):=
(bf y.1.1 y.1.2.2.2.1).bind fun a=>
 bif(!(decide ((a.toNat:Int)<(48:Int)))) then
(bf y.1.1 y.1.2.2.2.1).bind fun b=>
 some ((y.1.1,y.1.2.1,y.1.2.2.1,y.1.2.2.2.1,y.1.2.2.2.2.1,y.1.2.2.2.2.2.1,(decide ((b.toNat:Int)>(57:Int))),()),())
else
 some ((y.1.1,y.1.2.1,y.1.2.2.1,y.1.2.2.2.1,y.1.2.2.2.2.1,y.1.2.2.2.2.2.1,true,()),())
theorem SC:bx ao (aU (eH (aU (codeOf Tryz.f151) 1 122)) 244 31332) (bK GI GF zY):=e9 g0 (by kernel_rfl) aH fun y=>by kernel_rfl
abbrev vV:Shape:=⟨[bc 0,aj 1,aj 6,aj 26,aj 27],[],53⟩
abbrev AH:List bh:=[(.ret,⟨[aj 4,a6 5],[],53⟩),(.exit 0,⟨[aj 1,aj 6],[],53⟩)]
noncomputable def wc(y:vV.F):cq vV AH:=
 bif(decide (y.1.2.2.2.2.1<y.1.2.2.2.1)) then
(zY ((y.1.1,y.1.2.1,y.1.2.2.1,y.1.2.2.2.2.1,y.1.2.2.2.1,y.1.2.2.2.2.1,()),())).bind fun a=>
 bif a.1.2.2.2.2.2.2.1 then
 some (.inr (.inl (((0:Int),false,()),())))
else
(bf a.1.1 a.1.2.2.2.1).bind fun b=>
 some (.inl ((a.1.1,a.1.2.1,(IntKind.i64.wrap ((IntKind.i64.wrap (a.1.2.2.1*(10:Int)))+(IntKind.i64.wrap (IntKind.u8.wrap ((b.toNat:Int)-(48:Int)))))),a.1.2.2.2.2.1,(IntKind.i64.wrap (a.1.2.2.2.2.2.1+(1:Int))),()),()))
else
 some (.inr (.inr ((y.1.2.1,y.1.2.2.1,()),())))
noncomputable def v7:vV.F->Option (a7 AH):=bH wc
theorem VL:bx ao (aU (codeOf Tryz.f151) 1 122) (bK vV AH v7):=cG g0 (by kernel_rfl) (bR SC aH) fun y=>by kernel_rfl
abbrev i151:Shape:=⟨[bc 0,aj 1],[],53⟩
abbrev LG:Shape:=⟨[aj 4,a6 5],[],53⟩
noncomputable def f151(a:i151.F):Option LG.F:=
(Ca ((a.1.1,a.1.2.1,()),())).bind fun b=>
 bif b.1.2.2.1 then
 some (((0:Int),false,()),())
else
(v7 ((b.1.1,b.1.2.1,(0:Int),(b.1.1.length:Int),(0:Int),()),())).bind fun c=>
(match c with
|.inl d=>
 some ((d.1.1,d.1.2.1,()),())
|.inr e=>
 bif(decide (e.1.2.1>e.1.1)) then
 some (((0:Int),false,()),())
else
 some ((e.1.2.1,true,()),()))
noncomputable def MZ:bp:=bN aV Tryz.f151 i151 LG [] f151
theorem _p:bu ao 151 MZ:=bP g0 Tryz.func151 (by kernel_rfl) (bR Xa (bR VL aH)) (fun y=>by kernel_rfl) fun a=>by kernel_rfl
abbrev i91:Shape:=⟨[aj 0,aj 1,aj 2],[],15⟩
abbrev NI:Shape:=⟨[a6 6],[],15⟩
noncomputable def f91(a:i91.F):Option NI.F:=
 bif(decide (a.1.1>=a.1.2.1)) then
 some (((decide (a.1.1<=a.1.2.2.1)),()),())
else
 some ((false,()),())
noncomputable def pU:bp:=bN aV Tryz.f91 i91 NI [] f91
theorem z91:bu ao 91 pU:=bP g0 Tryz.func91 (by kernel_rfl) aH (fun y=>by kernel_rfl) fun a=>by kernel_rfl
noncomputable abbrev aa7:cb:=[(91,pU)]
theorem yS:bG ao (b9 aV aa7):=b8 ⟨z91,⟨⟩⟩
abbrev H9:Shape:=⟨[bc 0,aj 3],[],42⟩
abbrev HX:List bh:=[(.norm,⟨[bc 0,aj 3,a6 4],[],42⟩)]
noncomputable def A8(y:H9.F):Option (a7 HX):=
(bf y.1.1 y.1.2.1).bind fun a=>
 bif(decide ((a.toNat:Int)>=(97:Int))) then
(bf y.1.1 y.1.2.1).bind fun b=>
 some ((y.1.1,y.1.2.1,(decide ((b.toNat:Int)<=(122:Int))),()),())
else
 some ((y.1.1,y.1.2.1,false,()),())
theorem VJ:bx ao (aU (eH (aU (codeOf Tryz.f161) 1 26)) 52 840) (bK H9 HX A8):=e9 yS (by kernel_rfl) aH fun y=>by kernel_rfl
abbrev Hc:Shape:=⟨[bc 0,aj 3,a6 4],[],42⟩
abbrev G5:List bh:=[(.norm,⟨[bc 0,aj 3,a6 38],[],42⟩)]
noncomputable def Ap(y:Hc.F):Option (a7 G5):=
 bif(!y.1.2.2.1) then
 bif(!(y.1.2.1==(0:Int))) then
(bf y.1.1 y.1.2.1).bind fun a=>
 bif(!(decide ((a.toNat:Int)<(48:Int)))) then
(bf y.1.1 y.1.2.1).bind fun b=>
 some ((y.1.1,y.1.2.1,(decide ((b.toNat:Int)>(57:Int))),()),())
else
 some ((y.1.1,y.1.2.1,true,()),())
else
 some ((y.1.1,y.1.2.1,true,()),())
else
 some ((y.1.1,y.1.2.1,false,()),())
theorem Ua:bx ao (aU (eH (aU (codeOf Tryz.f161) 1 26)) 52 1682) (bK Hc G5 Ap):=e9 yS (by kernel_rfl) aH fun y=>by kernel_rfl
abbrev wF:Shape:=⟨[bc 0,aj 3],[],42⟩
abbrev Bv:List bh:=[(.ret,⟨[a6 2],[],42⟩),(.exit 0,⟨[bc 0],[],42⟩)]
noncomputable def w_(y:wF.F):cq wF Bv:=
 bif(decide (y.1.2.1<(y.1.1.length:Int))) then
(A8 ((y.1.1,y.1.2.1,()),())).bind fun a=>
(Ap ((a.1.1,a.1.2.1,a.1.2.2.1,()),())).bind fun b=>
 bif b.1.2.2.1 then
 some (.inr (.inl ((false,()),())))
else
 some (.inl ((b.1.1,(IntKind.i64.wrap (b.1.2.1+(1:Int))),()),()))
else
 some (.inr (.inr ((y.1.1,()),())))
noncomputable def BZ:wF.F->Option (a7 Bv):=bH w_
theorem W8:bx ao (aU (codeOf Tryz.f161) 1 26) (bK wF Bv BZ):=cG yS (by kernel_rfl) (bR VJ (bR Ua aH)) fun y=>by kernel_rfl
abbrev i161:Shape:=⟨[bc 0],[],42⟩
abbrev LB:Shape:=⟨[a6 2],[],42⟩
noncomputable def f161(a:i161.F):Option LB.F:=
(BZ ((a.1.1,(0:Int),()),())).bind fun b=>
(match b with
|.inl c=>
 some ((c.1.1,()),())
|.inr d=>
(f91 (((d.1.1.length:Int),(1:Int),(10:Int),()),())).bind fun e=>
 some ((e.1.1,()),()))
noncomputable def D9:bp:=bN aV Tryz.f161 i161 LB [] f161
theorem K2:bu ao 161 D9:=bP yS Tryz.func161 (by kernel_rfl) (bR W8 aH) (fun y=>by kernel_rfl) fun a=>by kernel_rfl
abbrev H3:Shape:=⟨[bc 0,aj 3,aj 4],[],47⟩
abbrev HQ:List bh:=[(.norm,⟨[bc 0,aj 3,aj 4,a6 24],[],47⟩)]
noncomputable def A2(y:H3.F):Option (a7 HQ):=
(bf y.1.1 y.1.2.2.1).bind fun a=>
 bif(!(decide ((a.toNat:Int)<(48:Int)))) then
(bf y.1.1 y.1.2.2.1).bind fun b=>
 bif(!(decide ((b.toNat:Int)>(57:Int)))) then
 some ((y.1.1,y.1.2.1,y.1.2.2.1,(decide (y.1.2.2.1>=(6:Int))),()),())
else
 some ((y.1.1,y.1.2.1,y.1.2.2.1,true,()),())
else
 some ((y.1.1,y.1.2.1,y.1.2.2.1,true,()),())
theorem Vw:bx ao (aU (eH (aU (codeOf Tryz.f90) 1 58)) 116 3728) (bK H3 HQ A2):=e9 g0 (by kernel_rfl) aH fun y=>by kernel_rfl
abbrev xr:Shape:=⟨[bc 0,aj 3,aj 4],[],47⟩
abbrev Cp:List bh:=[(.ret,⟨[aj 2],[],47⟩),(.exit 0,⟨[bc 0,aj 3],[],47⟩)]
noncomputable def xQ(y:xr.F):cq xr Cp:=
 bif(decide (y.1.2.2.1<(y.1.1.length:Int))) then
(A2 ((y.1.1,y.1.2.1,y.1.2.2.1,()),())).bind fun a=>
 bif a.1.2.2.2.1 then
 some (.inr (.inl ((((-1):Int),()),())))
else
(bf a.1.1 a.1.2.2.1).bind fun b=>
 some (.inl ((a.1.1,(IntKind.i64.wrap ((IntKind.i64.wrap (a.1.2.1*(10:Int)))+(IntKind.i64.wrap (IntKind.u8.wrap ((b.toNat:Int)-(48:Int)))))),(IntKind.i64.wrap (a.1.2.2.1+(1:Int))),()),()))
else
 some (.inr (.inr ((y.1.1,y.1.2.1,()),())))
noncomputable def CL:xr.F->Option (a7 Cp):=bH xQ
theorem Ym:bx ao (aU (codeOf Tryz.f90) 1 58) (bK xr Cp CL):=cG g0 (by kernel_rfl) (bR Vw aH) fun y=>by kernel_rfl
abbrev Jy:Shape:=⟨[bc 0,aj 3],[],47⟩
abbrev Jv:List bh:=[(.norm,⟨[aj 3,a6 45],[],47⟩)]
noncomputable def CY(y:Jy.F):Option (a7 Jv):=
 bif(!((y.1.1.length:Int)==(0:Int))) then
 bif(decide ((y.1.1.length:Int)>(1:Int))) then
(bf y.1.1 (0:Int)).bind fun a=>
 some ((y.1.2.1,((a.toNat:Int)==(48:Int)),()),())
else
 some ((y.1.2.1,false,()),())
else
 some ((y.1.2.1,true,()),())
theorem Yl:bx ao (aU (codeOf Tryz.f90) 1 60) (bK Jy Jv CY):=e9 g0 (by kernel_rfl) aH fun y=>by kernel_rfl
abbrev i90:Shape:=⟨[bc 0],[],47⟩
abbrev NJ:Shape:=⟨[aj 2],[],47⟩
noncomputable def f90(a:i90.F):Option NJ.F:=
(CL ((a.1.1,(0:Int),(0:Int),()),())).bind fun b=>
(match b with
|.inl c=>
 some ((c.1.1,()),())
|.inr d=>
(CY ((d.1.1,d.1.2.1,()),())).bind fun e=>
 bif e.1.2.1 then
 some ((((-1):Int),()),())
else
 some ((e.1.1,()),()))
noncomputable def O3:bp:=bN aV Tryz.f90 i90 NJ [] f90
theorem abD:bu ao 90 O3:=bP g0 Tryz.func90 (by kernel_rfl) (bR Ym (bR Yl aH)) (fun y=>by kernel_rfl) fun a=>by kernel_rfl
def iP(b:UInt8):Bool:=decide ((97:Int)<=(b.toNat:Int))&&decide ((b.toNat:Int)<=122)
def dT(b:UInt8):Bool:=decide ((48:Int)<=(b.toNat:Int))&&decide ((b.toNat:Int)<=57)
def within(n ce af:Int):Bool:=decide (ce<=n)&&decide (n<=af)
theorem qD(a):f91 a=some ((within a.1.1 a.1.2.1 a.1.2.2.1,()),()):=by
 simp only[f91,within,ge_iff_le];cases decide (a.1.2.1<=a.1.1)<;>rfl
def kR(s:G):Bool:=allI (fun i x=>iP x||(!(i==0)&&dT x)) 0 s&&within s.length 1 10
theorem HJ(a)(L:aN a.1.1.length):f161 a=some ((kR a.1.1,()),()):=by
 obtain⟨⟨s,u⟩,bW⟩:=a;have key:BZ ((s,((0:Int),())),())=some (bif allI (fun i x=>iP x||(!(i==0)&&dT x)) 0 s then .inr ((s,()),()) else .inl ((false,()),())):=by
  refine hi w_ s (fun i=>((s,((i:Int),())),())) _ _ _ (fun i x hx=>?_) ?_
  ·have af:=c8 hx;have hw:aN i:=by unfold aN at*;simp only at L;omega
   simp only[w_,cU af,cond_true,A8,Ap,cI,hx,Option.bind_some,cH hw,ge_iff_le,Mr];unfold iP dT;by_cases h1:(97:Int)<=(x.toNat:Int)<;>by_cases h2:(x.toNat:Int)<=122<;>cases Y:(i==0)<;>by_cases aP:(48:Int)<=(x.toNat:Int)<;>by_cases bq:(x.toNat:Int)<=57<;>simp[h1,h2,Y,aP,bq,cH hw,cI,hx,Mr,oH,oI,-beq_iff_eq]
  ·simp only[w_,du,cond_false]
 simp only[f161,key,Option.bind_some];unfold kR;cases allI (fun i x=>iP x||(!(i==0)&&dT x)) 0 s with
 |false=>rfl
 |true=>simp only[cond_true,qD,Option.bind_some,Bool.true_and]
theorem RO(b:UInt8)(r:G):kR (b::r)=(iP b&&(b::r).all (fun x=>iP x||dT x)&&decide (((b::r).length:Int)<=10)):=by
 unfold kR;simp only[allI,List.all_cons];have:allI (fun i x=>iP x||(!(i==0)&&dT x)) (0+1) r=r.all (fun x=>iP x||dT x):=by
  have aM:∀(i:Nat) (x:UInt8),1<=i->x∈r->(iP x||(!(i==0)&&dT x))=(iP x||dT x):=by
   intro i x af _;have:(i==0)=false:=by simp;omega
   rw[this];simp
  rw[Tg (lK:=fun _ x=>iP x||dT x) r 1 aM,ig]
 rw[this];unfold within;have:decide ((1:Int)<=((b::r).length:Int))=true:=by simp only[List.length_cons,decide_eq_true_eq];omega
 rw[this];cases iP b<;>simp
theorem F0(a)(L:aN a.1.1.length):f118 a=some ((kR a.1.1,()),()):=by
 obtain⟨⟨s,u⟩,bW⟩:=a;have key:B3 ((s,((s.length:Int),((0:Int),()))),())=some (bif allI (fun _ x=>iP x||dT x) 0 s then .inr ((),()) else .inl ((false,()),())):=by
  refine hi xd s (fun i=>((s,((s.length:Int),((i:Int),()))),())) _ _ _ (fun i x hx=>?_) ?_
  ·have af:=c8 hx;have hw:aN i:=by unfold aN at*;simp only at L;omega
   simp only[xd,cU af,cond_true,Ar,cI,hx,Option.bind_some,cH hw,oH,oI];unfold iP dT;by_cases h1:(97:Int)<=(x.toNat:Int)<;>by_cases h2:(x.toNat:Int)<=122<;>by_cases aP:(48:Int)<=(x.toNat:Int)<;>by_cases bq:(x.toNat:Int)<=57<;>simp[h1,h2,aP,bq,cH hw,cI,hx,oH,oI]
  ·simp only[xd,du,cond_false]
 rw[ig] at key;cases s with
 |nil=>rfl
 |cons b r=>
  have hb:bf (b::r) 0=some b:=rfl;simp only[f118,Cc,hb,Option.bind_some,oH,oI,RO];have he:((b::r)==([]:G))=false:=rfl;have hl:iP b=(decide ((97:Int)<=(b.toNat:Int))&&decide ((b.toNat:Int)<=122)):=rfl;rw[he,hl];by_cases h1:(97:Int)<=(b.toNat:Int)<;>by_cases h2:(b.toNat:Int)<=122<;>by_cases Y:((b::r).length:Int)<=10<;>
   simp only[h1,h2,Y,decide_true,decide_false,Bool.not_true,Bool.not_false,cond_true,cond_false,Option.bind_some,Bool.true_and,Bool.and_true,Bool.false_and,Bool.and_false]
  rw[key];generalize List.all (b::r) (fun x=>iP x||dT x)=q
  cases q<;>rfl
def hq(n:Int)(b:UInt8):Int:=n*10+((b.toNat:Int)-48)
def gB(s:G):Int:=s.foldl hq 0
def mm:G->Bool
 |b::_::_=>(b.toNat:Int)==48
 |_=>false
def fL(s:G):Bool:=s.all dT&&!(s==[])&&!mm s&&decide (s.length<=6)&&decide (gB s<=999)
theorem m1{b:UInt8}(h:dT b=true):48<=(b.toNat:Int)/\(b.toNat:Int)<=57:=by
 simpa[dT] using h
theorem Ya{b:UInt8}(h:dT b=true):IntKind.u8.wrap ((b.toNat:Int)-48)=(b.toNat:Int)-48:=by
 have:=m1 h;rw[IntKind.wrap_u8];omega
theorem Gc{n:Int}{b:UInt8}{i:Nat}(h:dT b=true)(aQ:0<=n)(h1:n<10^i):0<=hq n b/\hq n b<10^(i+1):=by
 have:=m1 h;unfold hq;rw[Int.pow_succ];omega
theorem Xk{i:Nat}(h:i<=9):(10:Int)^i<=1000000000:=by
 have:i=0\/i=1\/i=2\/i=3\/i=4\/i=5\/i=6\/i=7\/i=8\/i=9:=by omega
 rcases this with rfl|rfl|rfl|rfl|rfl|rfl|rfl|rfl|rfl|rfl<;>decide
theorem G8{n:Int}{b:UInt8}{i:Nat}(h:dT b=true)(af:i<=8)(aQ:0<=n)(h1:n<10^i):
  IntKind.i64.wrap (IntKind.i64.wrap (n*10)+IntKind.i64.wrap (IntKind.u8.wrap ((b.toNat:Int)-48)))=hq n b:=by
 have U:=m1 h;have am:=Xk (show i<=9 by omega)
 rw[Ya h,fr (n:=n*10) (by omega) (by omega),fr (n:=(b.toNat:Int)-48) (by omega) (by omega),fr (by omega) (by omega)]
 rfl
theorem WA(a)(L:aN a.1.1.length):f90 a=some ((bif a.1.1.all dT&&decide (a.1.1.length<=6)&&!(a.1.1==[])&&!mm a.1.1 then gB a.1.1 else-1,()),()):=by
 obtain⟨⟨s,u⟩,bW⟩:=a;have key:CL ((s,((0:Int),((0:Int),()))),())=some (bif allI (fun i x=>dT x&&decide (i<6)) 0 s then .inr ((s,(gB s,())),()) else .inl ((((-1):Int),()),())):=by
  have:=qn xQ s (fun i n=>((s,(n,((i:Int),()))),())) (fun i x n=>some (bif dT x&&decide (i<6) then .inl (hq n x) else .inr (.inl ((((-1):Int),()),())))) (fun n=>.inr ((s,(n,())),()))
   (fun i n=>0<=n/\n<10^i/\(i<=6)) (0:Int) ⟨by decide,by decide,by decide⟩ (fun i x n hx eM=>?_) (fun n _=>?_)
  ·exact this.trans (by rw[zP];rfl)
  ·have af:=c8 hx;have hw:aN i:=by unfold aN at*;simp only at L;omega
   obtain⟨aQ,h1,eu⟩:=eM;refine⟨?_,fun ag ae=>?_⟩
   ·simp only[xQ,cU af,cond_true,A2,cI,hx,Option.bind_some,cH hw,oH,oI,OU];have _4:decide ((6:Int)<=(i:Int))=!decide (i<6):=by by_cases h:i<6<;>simp[h]<;>omega
    rw[_4];cases U:dT x with
    |false=>
     unfold dT at U;by_cases aP:(48:Int)<=(x.toNat:Int)<;>by_cases bq:(x.toNat:Int)<=57<;>simp[aP,bq] at U ⊢
    |true=>
     obtain⟨aP,bq⟩:=m1 U;cases aD:decide (i<6) with
     |false=>simp[aP,bq]
     |true=>
      have aD:i<6:=by simpa using aD
      have:=G8 (i:=i) U (by omega) aQ h1
      simp only[aP,bq,decide_true,Bool.not_true,Bool.not_false,cond_true,cond_false,Option.bind_some,cI,hx,this,cH hw,Bool.and_true,Option.map_some]
   ·simp only[Option.some.injEq] at ae;cases aD:(dT x&&decide (i<6)) with
    |false=>rw[aD] at ae;cases ae
    |true=>
     rw[aD] at ae;simp only[cond_true,Sum.inl.injEq] at ae;simp only[Bool.and_eq_true,decide_eq_true_eq] at aD;subst ae;have:=Gc aD.1 aQ h1;exact⟨this.1,this.2,by omega⟩
  ·simp only[xQ,du,cond_false]
 rw[Iy,ig,X6] at key;simp only[f90,key,Option.bind_some];cases s with
 |nil=>rfl
 |cons b r=>
  have hb:bf (b::r) 0=some b:=rfl;have he:((b::r)==([]:G))=false:=rfl;have aM:(((b::r).length:Int)==0)=false:=by simp only[List.length_cons,beq_eq_false_iff_ne,ne_eq];omega
  have hl:decide (((b::r).length:Int)>1)=!(r==[]):=by cases r<;>simp;omega
  simp only[List.isEmpty_cons,Bool.false_or,Nat.zero_add,he,Bool.not_false,Bool.and_true];cases aD:(List.all (b::r) dT&&decide ((b::r).length<=6)) with
  |false=>rfl
  |true=>
   simp only[cond_true,CY,aM,Bool.not_false,hl,hb,Option.bind_some,Bool.true_and];cases r with
   |nil=>rfl
   |cons c r=>
    have:((c::r)==([]:G))=false:=rfl;rw[this];simp only[Bool.not_false,cond_true,Option.bind_some,mm];cases ((b.toNat:Int)==48)<;>rfl
theorem Tj:∀(r:G) (n:Int) (k:Nat),r.all dT=true->0<=n->10^k<=n->10^(k+r.length)<=r.foldl hq n:=by
 intro r;induction r with
 |nil=>intro n k _ _ h;exact h
 |cons b r ih=>
  intro n k U aQ h;simp only[List.all_cons,Bool.and_eq_true] at U;have hb:=m1 U.1;have L:10^(k+1)<=hq n b:=by unfold hq;rw[Int.pow_succ];omega
  have:=ih (hq n b) (k+1) U.2 (by unfold hq;omega) L
  simp only[List.length_cons,List.foldl_cons];rw[show k+(r.length+1)=k+1+r.length by omega]
  exact this
theorem VN{n:Nat}(h:6<=n):(1000000:Int)<=10^n:=by
 induction n with
 |zero=>omega
 |succ n ih=>
  by_cases eu:6<=n
  ·have:=ih eu;rw[Int.pow_succ];omega
  ·have:n=5:=by omega
   subst this;decide
theorem Ww{s:G}(U:s.all dT=true)(hl:mm s=false)(lj:7<=s.length):999<gB s:=by
 match s,lj with
 |b::c::r,lj=>
  simp only[mm,beq_eq_false_iff_ne,ne_eq] at hl;simp only[List.all_cons,Bool.and_eq_true] at U;have hb:=m1 U.1;have hc:=m1 U.2.1;have L:(10:Int)^0<=hq 0 b:=by unfold hq;simp;omega
  have:=Tj (c::r) (hq 0 b) 0 (by simp[U.2.1,U.2.2]) (by unfold hq;omega) L
  have h2:(1000000:Int)<=10^(0+(c::r).length):=VN (by simp only[List.length_cons] at lj ⊢;omega)
  show 999<List.foldl hq (hq 0 b) (c::r);omega
theorem U0(a)(L:aN a.1.1.length)(nV:a.1.2.1=999):f151 a=some ((bif fL a.1.1 then gB a.1.1 else 0,(fL a.1.1,())),()):=by
 obtain⟨⟨s,m,u⟩,bW⟩:=a;obtain rfl:m=999:=nV;have key:s.length<=9->v7 ((s,((999:Int),((0:Int),((s.length:Int),((0:Int),()))))),())=some (bif allI (fun i x=>dT x) 0 s then .inr (((999:Int),(gB s,())),()) else .inl (((0:Int),(false,())),())):=by
  intro nV;have:=qn wc s (fun i n=>((s,((999:Int),(n,((s.length:Int),((i:Int),()))))),())) (fun i x n=>some (bif dT x then .inl (hq n x) else .inr (.inl (((0:Int),(false,())),())))) (fun n=>.inr (((999:Int),(n,())),()))
   (fun i n=>0<=n/\n<10^i/\(i<=9)) (0:Int) ⟨by decide,by decide,by decide⟩ (fun i x n hx eM=>?_) (fun n _=>?_)
  ·exact this.trans (by rw[zP];rfl)
  ·have af:=c8 hx;have hw:aN i:=by unfold aN at*;simp only at L;omega
   obtain⟨aQ,h1,eu⟩:=eM;refine⟨?_,fun ag ae=>?_⟩
   ·simp only[wc,cU af,cond_true,zY,cI,hx,Option.bind_some,cH hw,oH,oI,OU];cases U:dT x with
    |false=>
     unfold dT at U;by_cases aP:(48:Int)<=(x.toNat:Int)<;>by_cases bq:(x.toNat:Int)<=57<;>simp[aP,bq] at U ⊢
    |true=>
     obtain⟨aP,bq⟩:=m1 U;have:=G8 (i:=i) U (by omega) aQ h1
     simp only[aP,bq,decide_true,Bool.not_true,Bool.not_false,cond_true,cond_false,Option.bind_some,cI,hx,this,cH hw,Bool.and_true,Option.map_some]
   ·simp only[Option.some.injEq] at ae;cases aD:dT x with
    |false=>rw[aD] at ae;cases ae
    |true=>
     rw[aD] at ae;simp only[cond_true,Sum.inl.injEq] at ae;subst ae;have:=Gc aD aQ h1;exact⟨this.1,this.2,by omega⟩
  ·simp only[wc,du,cond_false]
 rw[ig] at key;cases s with
 |nil=>rfl
 |cons b r=>
  have hb:bf (b::r) 0=some b:=rfl;have he:((b::r)==([]:G))=false:=rfl;have hl:decide (((b::r).length:Int)>1)=!(r==[]):=by cases r<;>simp;omega
  have nV:decide (((b::r).length:Int)>9)=!decide ((b::r).length<=9):=by by_cases h:(b::r).length<=9<;>simp only[h,decide_true,decide_false,Bool.not_true,Bool.not_false,decide_eq_true_eq,decide_eq_false_iff_not]<;>omega
  have Dg:mm (b::r)=(!(r==[])&&(b.toNat:Int)==48):=by cases r<;>rfl
  simp only[f151,Ca,he,hl,nV,Bool.not_false,cond_true,Bool.not_not,hb,Option.bind_some];have fin:(b::r).length<=9->mm (b::r)=false->((v7 ((b::r,((999:Int),((0:Int),(((b::r).length:Int),((0:Int),()))))),())).bind fun _N=>match _N with
    |.inl K6=>some ((K6.1.1,(K6.1.2.1,())),())
    |.inr Dw=>bif decide (Dw.1.2.1>Dw.1.1) then some (((0:Int),(false,())),()) else some ((Dw.1.2.1,(true,())),()))=
    some ((bif fL (b::r) then gB (b::r) else 0,(fL (b::r),())),()):=by
   intro nV kt;rw[key nV];unfold fL;rw[he,kt];cases U:List.all (b::r) dT with
   |false=>rfl
   |true=>
    simp only[cond_true,Option.bind_some,Bool.not_false,Bool.true_and,oI];by_cases eu:(b::r).length<=6
    ·simp only[eu,decide_true,Bool.true_and];cases decide (gB (b::r)<=999)<;>rfl
    ·have:=Ww U kt (by omega)
     have:decide (gB (b::r)<=999)=false:=by simp only[decide_eq_false_iff_not];omega
     rw[this];simp only[eu,decide_false,Bool.false_and];rfl
  by_cases aD:(b::r).length<=9
  ·simp only[aD,decide_true,cond_true];cases hr:(r==[]) with
   |true=>
    simp only[Bool.not_true,cond_false,Option.bind_some];exact fin aD (by rw[Dg,hr];rfl)
   |false=>
    simp only[Bool.not_false,cond_true,Option.bind_some];cases OO:((b.toNat:Int)==48) with
    |true=>
     have:fL (b::r)=false:=by unfold fL;rw[Dg,hr,OO];simp
     rw[this];rfl
    |false=>
     simp only[cond_false];exact fin aD (by rw[Dg,hr,OO];rfl)
  ·have:fL (b::r)=false:=by
    unfold fL;have:decide ((b::r).length<=6)=false:=by simp only[decide_eq_false_iff_not];omega
    rw[this];simp
   simp only[aD,decide_false,cond_false,Option.bind_some,cond_true,this]
abbrev wh:Shape:=⟨[bc 0,(1,.ak (.d (.int .u8))),aj 2,b3 7 3000448,aj 8,aj 9],[cL 3000448 .str 7 0],43⟩
abbrev sW:List bh:=[(.exit 0,⟨[bc 0,b3 7 3000448,aj 8],[cL 3000448 .str 7 0],43⟩)]
noncomputable def wX(y:wh.F):cq wh sW:=
 bif(decide (y.1.2.2.2.2.2.1<(y.1.1.length:Int))) then
 bif(decide ((y.2.1.length:Int)<y.1.2.2.1)) then
(bf y.1.1 y.1.2.2.2.2.2.1).bind fun a=>
 bif((a.toNat:Int)==y.1.2.1) then
(cO y.1.1 y.1.2.2.2.2.1 y.1.2.2.2.2.2.1).bind fun b=>
(dc 16 y.2.1 ([b]:List G)).bind fun c=>
 some (.inl ((y.1.1,y.1.2.1,y.1.2.2.1,(),(IntKind.i64.wrap (y.1.2.2.2.2.2.1+(1:Int))),(IntKind.i64.wrap (y.1.2.2.2.2.2.1+(1:Int))),()),c,()))
else
 some (.inl ((y.1.1,y.1.2.1,y.1.2.2.1,(),y.1.2.2.2.2.1,(IntKind.i64.wrap (y.1.2.2.2.2.2.1+(1:Int))),()),y.2.1,()))
else
 some (.inr ((y.1.1,(),y.1.2.2.2.2.1,()),y.2.1,()))
else
 some (.inr ((y.1.1,(),y.1.2.2.2.2.1,()),y.2.1,()))
noncomputable def BO:wh.F->Option (a7 sW):=bH wX
theorem WN:bx ao (aU (codeOf Tryz.f89) 1 122) (bK wh sW BO):=cG g0 (by kernel_rfl) aH fun y=>by kernel_rfl
abbrev i89:Shape:=⟨[bc 0,(1,.ak (.d (.int .u8))),aj 2],[],43⟩
abbrev NK:Shape:=⟨[b3 6 3000384],[cL 3000384 .str 6 0],43⟩
noncomputable def f89(a:i89.F):Option NK.F:=
(BO ((a.1.1,a.1.2.1,a.1.2.2.1,(),(0:Int),(0:Int),()),([]:List G),())).bind fun b=>
(cO b.1.1 b.1.2.2.1 (b.1.1.length:Int)).bind fun c=>
(dc 16 b.2.1 ([c]:List G)).bind fun d=>
 some (((),()),d,())
noncomputable def Fc:bp:=bN aV Tryz.f89 i89 NK [] f89
theorem Nv:bu ao 89 Fc:=bP g0 Tryz.func89 (by kernel_rfl) (bR WN aH) (fun y=>by kernel_rfl) fun a=>by kernel_rfl
abbrev cZ(n:Nat):Prop:=n<=2097152
theorem vw(c:UInt8):∀s,cS c s≠[]:=by
 intro s;induction s with
 |nil=>intro h;cases h
 |cons b r ih=>
  unfold cS;cases b==c with
  |true=>intro h;cases h
  |false=>
   simp only[cond_false];split<;>intro h<;>cases h
def rF(b0:G):List G->List G
 |x::xs=>(b0++x)::xs
 |[]=>[b0]
theorem Il{ar:List G}(h:ar≠[]):rF [] ar=ar:=by
 cases ar with
 |nil=>exact absurd rfl h
 |cons x xs=>rfl
theorem zT(c:UInt8):∀s,(cS c s).length<=s.length+1:=by
 intro s;induction s with
 |nil=>exact Nat.le_refl _
 |cons b r ih=>
  unfold cS;cases b==c with
  |true=>simpa using ih
  |false=>
   simp only[cond_false];split
   ·rename_i x xs h;rw[h] at ih;simp at ih ⊢;omega
   ·simp
theorem vn(c:UInt8):∀s x,x∈cS c s->x.length<=s.length:=by
 intro s;induction s with
 |nil=>intro x h;simp[cS] at h;simp[h]
 |cons b r ih=>
  intro x h;unfold cS at h;cases hb:b==c with
  |true=>
   rw[hb,cond_true] at h;rcases List.mem_cons.1 h with rfl|h
   ·simp
   ·have:=ih x h;simp;omega
  |false=>
   rw[hb,cond_false] at h;split at h
   ·rename_i y ys aq;rcases List.mem_cons.1 h with rfl|h
    ·have:=ih y (by rw[aq];exact List.mem_cons_self);simp;omega
    ·have:=ih x (by rw[aq];exact List.mem_cons_of_mem _ h);simp;omega
   ·simp at h;simp[h]
theorem Wl{b7:Type}(c:UInt8)(s:G)(fin:Nat×List G->b7):∀(r:G) (k:Nat) (q:Nat×List G),r=s.drop k->k<=s.length->q.1<=k->
  ∃ia,gi (fun i x (q:Nat×List G)=>some (.inl (bif(x.toNat:Int)==(c.toNat:Int) then(i+1,q.2++[(s.take i).drop q.1]) else q):Sum (Nat×List G) b7)) fin k r q=some (fin ia)/\ia.1<=s.length/\
   ia.2++[s.drop ia.1]=q.2++rF ((s.take k).drop q.1) (cS c r):=by
 intro r;induction r with
 |nil=>
  intro k q hr ah aD;have h4:k=s.length:=by
   have:=congrArg List.length hr;simp at this;omega
  refine⟨q,rfl,by omega,?_⟩
  rw[h4,List.take_length];simp[cS,rF]
 |cons x r ih=>
  intro k q hr ah aD;have ba:k<s.length:=by
   have:=congrArg List.length hr;simp at this;omega
  have cp:r=s.drop (k+1):=by
   have:=congrArg List.tail hr;simpa using this
  have hx:s[k]? =some x:=by
   have:=congrArg (fun l=>l[0]?) hr
   simpa using this.symm
  simp only[gi];cases hc:((x.toNat:Int)==(c.toNat:Int)) with
  |true=>
   have EA:x=c:=by
    simp only[beq_iff_eq] at hc;exact UInt8.toNat_inj.1 (by omega)
   simp only[cond_true];obtain⟨ia,h1,h2,Y⟩:=ih (k+1) (k+1,q.2++[(s.take k).drop q.1]) cp ba (Nat.le_refl _);refine⟨ia,h1,h2,Y.trans ?_⟩;have e1:(s.take (k+1)).drop (k+1)=[]:=List.drop_eq_nil_of_le (by rw[List.length_take];omega)
   simp only[e1];rw[Il (vw c r)];subst EA;have:cS x (x::r)=[]::cS x r:=by simp[cS]
   rw[this];simp[rF]
  |false=>
   have EA:(x==c)=false:=by
    cases h:x==c with
    |false=>rfl
    |true=>rw[eq_of_beq h] at hc;simp at hc
   simp only[cond_false];obtain⟨ia,h1,h2,Y⟩:=ih (k+1) q cp ba (by omega)
   refine⟨ia,h1,h2,Y.trans ?_⟩;have e1:(s.take (k+1)).drop q.1=(s.take k).drop q.1++[x]:=by
    rw[List.take_add_one,hx];rw[List.drop_append_of_le_length (by rw[List.length_take];omega)]
    rfl
   rw[e1];have:cS c (x::r)=rF [x] (cS c r):=by
    rw[cS,EA,cond_false];cases h:cS c r with
    |nil=>rfl
    |cons y ys=>rfl
   rw[this];cases h:cS c r with
   |nil=>exact absurd h (vw c r)
   |cons y ys=>simp[rF]
theorem Iz(c:UInt8)(a)(L:cZ a.1.1.length)(hb:a.1.2.1=(c.toNat:Int))(hm:a.1.2.2.1=((a.1.1.length+1:Nat):Int)):f89 a=some (((),()),(cS c a.1.1,())):=by
 obtain⟨⟨s,b,m,u⟩,bW⟩:=a;obtain rfl:b=(c.toNat:Int):=hb;obtain rfl:m=((s.length+1:Nat):Int):=hm;have L:s.length<=2097152:=L;have key:=qn wX s (fun i (q:Nat×List G)=>((s,((c.toNat:Int),(((s.length+1:Nat):Int),((),((q.1:Int),((i:Int),())))))),(q.2,())))
  (fun i x (q:Nat×List G)=>some (.inl (bif(x.toNat:Int)==(c.toNat:Int) then(i+1,q.2++[(s.take i).drop q.1]) else q))) (fun q=>(((s,((),((q.1:Int),()))),(q.2,())):a7 sW))
  (fun i q=>q.1<=i/\q.2.length<=i) (0,[]) ⟨Nat.le_refl _,Nat.le_refl _⟩ (fun i x q hx eM=>?_) (fun q eM=>?_)
 ·obtain⟨ia,h1,h2,Y⟩:=Wl c s (fun q=>(((s,((),((q.1:Int),()))),(q.2,())):a7 sW)) s 0 (0,[]) rfl (Nat.zero_le _) (Nat.le_refl _)
  have key:BO ((s,((c.toNat:Int),(((s.length+1:Nat):Int),((),((0:Int),((0:Int),())))))),(([]:List G),()))=some ((s,((),((ia.1:Int),()))),(ia.2,())):=key.trans h1;simp only[f89,key,Option.bind_some];rw[Ad h2];have Y:ia.2++[s.drop ia.1]=cS c s:=by
   rw[Y];simp only[List.take_zero,List.drop_nil,List.nil_append];exact Il (vw c s)
  have hl:ia.2.length<=s.length+1:=by
   have:=congrArg List.length Y;have aP:=zT c s;simp only[List.length_append,List.length_cons,List.length_nil] at this;omega
  simp only[Option.bind_some];rw[jM (by decide) (by unfold aN;simp only[List.length_cons,List.length_nil];omega)]
  simp only[Option.bind_some,Y]
 ·have af:=c8 hx;have hw:aN i:=by unfold aN;omega
  obtain⟨aQ,h1⟩:=eM;have ba:decide ((q.2.length:Int)<((s.length+1:Nat):Int))=true:=cU (by omega)
  refine⟨?_,fun ia nI=>?_⟩
  ·simp only[wX,cU af,cond_true,ba,cI,hx,Option.bind_some];cases hc:((x.toNat:Int)==(c.toNat:Int)) with
   |true=>
    simp only[cond_true];rw[AI aQ (by omega)]
    simp only[Option.bind_some];rw[jM (by decide) (by unfold aN;simp only[List.length_cons,List.length_nil];omega)]
    simp only[Option.bind_some,Option.map_some,cH hw]
   |false=>simp only[cond_false,Option.map_some,cH hw]
  ·simp only[Option.some.injEq,Sum.inl.injEq] at nI;subst nI;cases (x.toNat:Int)==(c.toNat:Int) with
   |true=>simp only[cond_true,List.length_append,List.length_cons,List.length_nil];omega
   |false=>simp only[cond_false];omega
 ·simp only[wX,du,cond_false]
noncomputable def KS:bp:=Am
theorem Zc:bu ao 297 KS:=Rl (fn:=Tryz.f297) (by kernel_rfl) (by kernel_rfl) (by kernel_rfl) (by kernel_rfl) (by kernel_rfl)
noncomputable abbrev aaN:cb:=[(297,KS)]
theorem abj:bG ao (b9 aV aaN):=b8 ⟨Zc,⟨⟩⟩
abbrev i271:Shape:=⟨[bc 0,(1,.ak (.d (.int .u8)))],[],8⟩
abbrev Lc:Shape:=⟨[aj 4],[],8⟩
noncomputable def f271(a:i271.F):Option Lc.F:=
(some ()).bind fun PX=>
 some (((Lib.indexByte a.1.1 (a.1.2.1).toNat.toUInt8),()),())
noncomputable def MA:bp:=bN aV Tryz.f271 i271 Lc [] f271
theorem Z':bu ao 271 MA:=bP abj Tryz.func271 (by kernel_rfl) aH (fun y=>by kernel_rfl) fun a=>by kernel_rfl
noncomputable abbrev aaS:cb:=[(271,MA)]
theorem Nk:bG ao (b9 aV aaS):=b8 ⟨Z',⟨⟩⟩
abbrev IP:Shape:=⟨[bc 0,bc 1,aj 5],[],143⟩
abbrev IG:List bh:=[(.norm,⟨[bc 0,bc 1,aj 5,a6 16],[],143⟩)]
noncomputable def B9(y:IP.F):Option (a7 IG):=
 bif(!(y.1.2.2.1==(0:Int))) then
 some ((y.1.1,y.1.2.1,y.1.2.2.1,(y.1.2.1==y.1.1),()),())
else
 some ((y.1.1,y.1.2.1,y.1.2.2.1,true,()),())
theorem WY:bx ao (aU (codeOf Tryz.f238) 1 56) (bK IP IG B9):=e9 Nk (by kernel_rfl) aH fun y=>by kernel_rfl
abbrev i238:Shape:=⟨[bc 0,bc 1],[],143⟩
abbrev Li:Shape:=⟨[aj 4],[],143⟩
noncomputable def f238(a:i238.F):Option Li.F:=
(B9 ((a.1.1,a.1.2.1,(a.1.2.1.length:Int),()),())).bind fun oN=>
 bif oN.1.2.2.2.1 then
 some (((0:Int),()),())
else
 bif(oN.1.2.2.1==(1:Int)) then
(bf oN.1.2.1 (0:Int)).bind fun aeT=>
(f271 ((oN.1.1,(aeT.toNat:Int),()),())).bind fun Fq=>
 some ((Fq.1.1,()),())
else
 bif(decide (oN.1.2.2.1>=(oN.1.1.length:Int))) then
 some ((((-1):Int),()),())
else
 none
noncomputable def MG:bp:=bN aV Tryz.f238 i238 Li [] f238
theorem _f:bu ao 238 MG:=bP Nk Tryz.func238 (by kernel_rfl) (bR WY aH) (fun y=>by kernel_rfl) fun a=>by kernel_rfl
noncomputable abbrev aaR:cb:=[(238,MG)]
theorem abk:bG ao (b9 aV aaR):=b8 ⟨_f,⟨⟩⟩
abbrev i241:Shape:=⟨[bc 0,bc 1],[],8⟩
abbrev Lh:Shape:=⟨[aj 4],[],8⟩
noncomputable def f241(a:i241.F):Option Lh.F:=
(f238 ((a.1.1,a.1.2.1,()),())).bind fun b=>
 some ((b.1.1,()),())
noncomputable def MF:bp:=bN aV Tryz.f241 i241 Lh [] f241
theorem _e:bu ao 241 MF:=bP abk Tryz.func241 (by kernel_rfl) aH (fun y=>by kernel_rfl) fun a=>by kernel_rfl
noncomputable abbrev D2:Ctx:=b9 aV [(241,MF)]
noncomputable def yP:Code:=codeOf Tryz.f257
noncomputable def ns:Code:=eH (aU yP 1 12)
noncomputable def yc(p j:Nat):Oper:=(opsOf (aU ns 24 p)).getD j default
noncomputable def Db(j:Nat):Oper:=(opsOf (aU yP 1 7)).getD j default
theorem YN(c:UInt8)(r:G):f241 ((r,([c],())),())=some ((Lib.indexByte r c,()),()):=by
 have aQ:bf ([c]:G) (0:Int)=some c:=rfl;have h1:((([c]:G).length:Int)==0)=false:=rfl;have h2:((([c]:G).length:Int)==1)=true:=rfl;have Y:((c.toNat:Int)).toNat.toUInt8=c:=by simp
 simp only[f241,f238,B9,f271,aQ,h1,h2,Y,Bool.not_false,cond_true,cond_false,Option.bind_some,Option.bind];by_cases h:(([c]:G)==r)=true
 ·have:r=[c]:=(by simpa using h:[c]=r).symm
  subst this;simp[Lib.indexByte]<;>rfl
 ·simp[h]<;>rfl
theorem ZX(c:UInt8)(r:G):exec (ik D2 []) (aU ns 24 96) 96 (mB 52 c r) (yG (ik D2 []) 52 7 8 (aU ns 24 194) (aU ns 24 390) 194 390)=
 (f241 ((r,([c],())),())).bind fun q=>bif decide (q.1.1<0) then some (.inl (kB 52 c r)) else(cO r 0 (IntKind.i64.wrap (q.1.1+0))).bind fun x=>some (.inr ((q.1.1,x),kB 52 c r)):=by kernel_rfl
theorem Ky:tp ao 257:=
 XA (C:=ik D2 []) (b8 ⟨_e,⟨⟩⟩) (fn:=Tryz.f257) (k:=52) (A:=aU yP 1 2) (r5:=aU ns 24 96) (c6:=aU ns 24 194) (r7:=aU ns 24 390) (r9:=aU ns 24 783)
  (o0:=yc 1564 0) (o1:=yc 1564 1) (o2:=yc 1564 2) (o3:=yc 1564 3) (q0:=Db 0) (q1:=Db 1) (q2:=Db 2) (pA:=2) (p5:=96) (p6:=194) (p7:=390) (p9:=783) (t7:=7) (t8:=8) (a1:=39) (a2:=40)
  (t41:=41) (t42:=42) (u1:=49) (u2:=50) (ty:=#[9]) (y0:=#[9])
  {L6:=(by kernel_rfl),bl:=(by kernel_rfl),cu:=(by decide),eT:=(by kernel_rfl),OT:=enters_of Tryz.func257 (by kernel_rfl) rfl,body:=⟨Kk (aU ns 24 1564),Kk (aU yP 1 7),(by kernel_rfl)⟩,u7:=(by kernel_rfl),wr:=(by kernel_rfl),
   b8:=⟨(by kernel_rfl),(by kernel_rfl),(by kernel_rfl),(by kernel_rfl),(by kernel_rfl),(by kernel_rfl),(by kernel_rfl)⟩,PP:=(by kernel_rfl),PO:=(by kernel_rfl),d2:=(by kernel_rfl),DD:=(by decide),bB:=(by kernel_rfl),d5:=(by kernel_rfl),
   rs:=⟨m4 (by kernel_rfl) aH,m4 (by kernel_rfl) aH,m4 (by kernel_rfl) aH,m4 (by kernel_rfl) aH,m4 (by kernel_rfl) aH⟩,
   ib:=fun c r=>(by kernel_rfl),e8:=fun c r=>(ZX c r).trans (by rw[YN];rfl),aS:=fun c r i x v=>(by kernel_rfl),Y:=fun c r b=>(by kernel_rfl),OP:=(by kernel_rfl),va:=fun c r i=>(by kernel_rfl),zx:=fun c r v=>(by kernel_rfl)}
  (by kernel_rfl) (by decide)
noncomputable abbrev abd:cb:=[(151,MZ)]
theorem Eh:bG ao (b9 aV abd):=b8 ⟨_p,⟨⟩⟩
abbrev Hd:Shape:=⟨[dK 2 2 0,dK 3 3 0,dK 4 4 0,aj 6,a6 7],[lg 5000128 .i64 2 0,dJ 2 [.own 5000128],dJ 3 [ic],lg 5000256 .i64 4 0,dJ 4 [.own 5000256]],28⟩
abbrev G6:List bh:=[(.norm,⟨[dK 2 2 0,dK 3 3 0,dK 4 4 0,aj 6,a6 22],[lg 5000128 .i64 2 0,dJ 2 [.own 5000128],dJ 3 [ic],lg 5000256 .i64 4 0,dJ 4 [.own 5000256]],28⟩)]
noncomputable def Aq(y:Hd.F):Option (a7 G6):=
 bif(!(!y.1.2.2.2.2.1)) then
 some (((),(),(),y.1.2.2.2.1,((y.2.2.2.2.1.length:Int)==(4:Int)),()),y.2.1,((),()),(y.2.2.2.1.1,()),y.2.2.2.2.1,((),()),())
else
 some (((),(),(),y.1.2.2.2.1,true,()),y.2.1,((),()),(y.2.2.2.1.1,()),y.2.2.2.2.1,((),()),())
theorem Ud:bx ao (aU (jK (aU (codeOf Tryz.f127) 1 58)) 117 1876) (bK Hd G6 Aq):=e9 Eh (by kernel_rfl) aH fun y=>by kernel_rfl
abbrev wK:Shape:=⟨[dK 2 2 0,dK 3 3 0,dK 4 4 0],[lg 5000128 .i64 2 0,dJ 2 [.own 5000128],dJ 3 [ic],lg 5000256 .i64 4 0,dJ 4 [.own 5000256]],28⟩
abbrev Bz:List bh:=[(.norm,⟨[dK 2 2 0,dK 3 3 0,dK 4 4 0],[lg 5000128 .i64 2 0,dJ 2 [.own 5000128],dJ 3 [ic],lg 5000256 .i64 4 0,dJ 4 [.own 5000256]],28⟩),(.ret,⟨[dK 2 2 0,dK 3 3 0],[lg 5000128 .i64 2 0,dJ 2 [.own 5000128],dJ 3 [ic]],28⟩)]
noncomputable def qx(x:G)(y:wK.F):cq wK Bz:=
(f151 ((x,(999:Int),()),())).bind fun a=>
(Aq (((),(),(),a.1.1,a.1.2.1,()),y.2.1,((),()),(y.2.2.2.1.1,()),y.2.2.2.2.1,((),()),())).bind fun b=>
 bif b.1.2.2.2.2.1 then
 some (.inr (.inr (((),(),()),([]:List Int),((),()),(false,()),())))
else
(dc 8 b.2.2.2.2.1 ([b.1.2.2.2.1]:List Int)).bind fun c=>
 some (.inl (((),(),(),()),b.2.1,((),()),(b.2.2.2.1.1,()),c,((),()),()))
noncomputable def s7(y:wK.F):Option (a7 Bz):=
 some (.inl (((),(),(),()),y.2.1,((),()),(y.2.2.2.1.1,()),y.2.2.2.2.1,((),()),()))
theorem Xd:bx ao (aU (codeOf Tryz.f127) 1 58) (ql 257 9 wK Bz qx s7):=Gh (eI:=10) Eh Ky (by kernel_rfl) (bR Ud aH) (by kernel_rfl) (fun x y=>by kernel_rfl) fun y=>by kernel_rfl
abbrev i127:Shape:=⟨[bc 0],[],28⟩
abbrev LL:Shape:=⟨[dK 2 2 0,dK 3 3 0],[lg 5000128 .i64 2 0,dJ 2 [.own 5000128],dJ 3 [ic]],28⟩
noncomputable def f127(a:i127.F):Option LL.F:=
(bif Nat.ble a.1.1.length ke then hY qx s7 (cS (46:UInt8) a.1.1) (((),(),(),()),([]:List Int),((),()),(false,()),([]:List Int),((),()),()) else none).bind fun b=>
(match b with
|.inl c=>
 some (((),(),()),c.2.2.2.2.1,((),()),(true,()),())
|.inr d=>
 some (((),(),()),d.2.1,((),()),(d.2.2.2.1.1,()),()))
noncomputable def M4:bp:=bN aV Tryz.f127 i127 LL [] f127
theorem z127:bu ao 127 M4:=bP Eh Tryz.func127 (by kernel_rfl) (bR Xd aH) (fun y=>by kernel_rfl) fun a=>by kernel_rfl
noncomputable abbrev abg:cb:=[(127,M4)]
theorem abx:bG ao (b9 aV abg):=b8 ⟨z127,⟨⟩⟩
abbrev i119:Shape:=⟨[bc 0],[],11⟩
abbrev LQ:Shape:=⟨[a6 2],[],11⟩
noncomputable def f119(a:i119.F):Option LQ.F:=
(f127 ((a.1.1,()),())).bind fun b=>
 some ((b.2.2.2.1.1,()),())
noncomputable def Ea:bp:=bN aV Tryz.f119 i119 LQ [] f119
theorem z119:bu ao 119 Ea:=bP abx Tryz.func119 (by kernel_rfl) aH (fun y=>by kernel_rfl) fun a=>by kernel_rfl
noncomputable abbrev abf:cb:=[(118,Eb),(119,Ea)]
theorem Nr:bG ao (b9 aV abf):=b8 ⟨K4,z119,⟨⟩⟩
abbrev H':Shape:=⟨[dK 1 1 0,aj 8],[dJ 1 [bY,dh,bY]],21⟩
abbrev HZ:List bh:=[(.norm,⟨[dK 1 1 0,a6 14],[dJ 1 [bY,dh,bY]],21⟩)]
noncomputable def A_(y:H'.F):Option (a7 HZ):=
 bif(y.1.2.1==(1:Int)) then
 some (((),(y.1.2.1==(1:Int)),()),(y.2.1.1,y.2.1.2.1,y.2.1.2.2.1,()),())
else
 bif(y.1.2.1==(2:Int)) then
 some (((),(y.1.2.1==(2:Int)),()),(y.2.1.1,y.2.1.2.1,y.2.1.2.2.1,()),())
else
 some (((),(y.1.2.1==(3:Int)),()),(y.2.1.1,y.2.1.2.1,y.2.1.2.2.1,()),())
theorem VM:bx ao (aU (codeOf Tryz.f121) 1 470) (bK H' HZ A_):=e9 Nr (by kernel_rfl) aH fun y=>by kernel_rfl
abbrev i121:Shape:=⟨[e7 0 [bY,dh,bY]],[],21⟩
abbrev LP:Shape:=⟨[a6 2],[],21⟩
noncomputable def f121(a:i121.F):Option LP.F:=
(f118 ((a.1.1.1,()),())).bind fun b=>
 bif(!b.1.1) then
 some ((false,()),())
else
 bif(a.1.1.2.1==(0:Int)) then
 some (((a.1.1.2.2.1==([]:G)),()),())
else
(A_ (((),a.1.1.2.1,()),(a.1.1.1,a.1.1.2.1,a.1.1.2.2.1,()),())).bind fun c=>
 bif c.1.2.1 then
(f119 ((c.2.1.2.2.1,()),())).bind fun d=>
 some ((d.1.1,()),())
else
 some ((false,()),())
noncomputable def M8:bp:=bN aV Tryz.f121 i121 LP [] f121
theorem _w:bu ao 121 M8:=bP Nr Tryz.func121 (by kernel_rfl) (bR VM aH) (fun y=>by kernel_rfl) fun a=>by kernel_rfl
noncomputable abbrev aa3:cb:=[(89,Fc),(90,O3),(91,pU)]
theorem Nn:bG ao (b9 aV aa3):=b8 ⟨Nv,abD,z91,⟨⟩⟩
abbrev vU:Shape:=⟨[b3 4 3000256,b3 5 3000320,aj 6],[cL 3000256 .str 4 0,cL 3000320 .i64 5 0],37⟩
abbrev oW:List bh:=[(.ret,⟨[b3 2 3000128,a6 3],[cL 3000128 .i64 2 0],37⟩),(.exit 0,⟨[b3 4 3000256,b3 5 3000320],[cL 3000256 .str 4 0,cL 3000320 .i64 5 0],37⟩)]
noncomputable def wb(y:vU.F):cq vU oW:=
 bif(decide (y.1.2.2.1<(y.2.1.length:Int))) then
(e0 y.2.1.length y.1.2.2.1).bind fun a=>
(y.2.1[a]?).bind fun b=>
(f90 ((b,()),())).bind fun c=>
(f91 ((c.1.1,(0:Int),(999:Int),()),())).bind fun d=>
 bif(!d.1.1) then
 some (.inr (.inl (((),false,()),y.2.2.1,())))
else
(dc 8 y.2.2.1 ([c.1.1]:List Int)).bind fun e=>
 some (.inl (((),(),(IntKind.i64.wrap (y.1.2.2.1+(1:Int))),()),y.2.1,e,()))
else
 some (.inr (.inr (((),(),()),y.2.1,y.2.2.1,())))
noncomputable def AW:vU.F->Option (a7 oW):=bH wb
theorem VI:bx ao (aU (codeOf Tryz.f181) 1 122) (bK vU oW AW):=cG Nn (by kernel_rfl) aH fun y=>by kernel_rfl
abbrev i181:Shape:=⟨[bc 0],[],37⟩
abbrev Lw:Shape:=⟨[b3 2 3000128,a6 3],[cL 3000128 .i64 2 0],37⟩
noncomputable def f181(a:i181.F):Option Lw.F:=
(f89 ((a.1.1,(46:Int),(IntKind.i64.wrap ((a.1.1.length:Int)+(1:Int))),()),())).bind fun b=>
(AW (((),(),(0:Int),()),b.2.1,([]:List Int),())).bind fun c=>
(match c with
|.inl d=>
 some (((),d.1.2.1,()),d.2.1,())
|.inr e=>
 some (((),(decide ((e.2.1.length:Int)<=(4:Int))),()),e.2.2.1,()))
noncomputable def D7:bp:=bN aV Tryz.f181 i181 Lw [] f181
theorem K1:bu ao 181 D7:=bP Nn Tryz.func181 (by kernel_rfl) (bR VI aH) (fun y=>by kernel_rfl) fun a=>by kernel_rfl
noncomputable abbrev aa6:cb:=[(181,D7)]
theorem abu:bG ao (b9 aV aa6):=b8 ⟨K1,⟨⟩⟩
abbrev i162:Shape:=⟨[bc 0],[],11⟩
abbrev LA:Shape:=⟨[a6 2],[],11⟩
noncomputable def f162(a:i162.F):Option LA.F:=
(f181 ((a.1.1,()),())).bind fun b=>
 some ((b.1.2.1,()),())
noncomputable def D8:bp:=bN aV Tryz.f162 i162 LA [] f162
theorem z162:bu ao 162 D8:=bP abu Tryz.func162 (by kernel_rfl) aH (fun y=>by kernel_rfl) fun a=>by kernel_rfl
noncomputable abbrev aaT:cb:=[(91,pU),(161,D9),(162,D8)]
theorem abl:bG ao (b9 aV aaT):=b8 ⟨z91,K2,z162,⟨⟩⟩
abbrev i233:Shape:=⟨[e7 0 [bY,dh,bY]],[],26⟩
abbrev Lj:Shape:=⟨[a6 2],[],26⟩
noncomputable def f233(a:i233.F):Option Lj.F:=
(f161 ((a.1.1.1,()),())).bind fun b=>
 bif b.1.1 then
 bif(a.1.1.2.1==(0:Int)) then
 bif(!(a.1.1.2.2.1==([]:G))) then
(f91 ((a.1.1.2.1,(1:Int),(3:Int),()),())).bind fun c=>
 bif c.1.1 then
(f162 ((a.1.1.2.2.1,()),())).bind fun d=>
 some ((d.1.1,()),())
else
 some ((false,()),())
else
 some ((true,()),())
else
(f91 ((a.1.1.2.1,(1:Int),(3:Int),()),())).bind fun e=>
 bif e.1.1 then
(f162 ((a.1.1.2.2.1,()),())).bind fun f=>
 some ((f.1.1,()),())
else
 some ((false,()),())
else
 some ((false,()),())
noncomputable def MH:bp:=bN aV Tryz.f233 i233 Lj [] f233
theorem z233:bu ao 233 MH:=bP abl Tryz.func233 (by kernel_rfl) aH (fun y=>by kernel_rfl) fun a=>by kernel_rfl
theorem Sb:∀(r:G) (n:Int),r.all dT=true->0<=n->0<=r.foldl hq n:=by
 intro r;induction r with
 |nil=>intro n _ h;exact h
 |cons b r ih=>
  intro n U h;simp only[List.all_cons,Bool.and_eq_true] at U;have hb:=m1 U.1;exact ih _ U.2 (by unfold hq;omega)
def io(s:G):List G:=cS 46 s
def hk(s:G):Bool:=(io s).all fL&&decide ((io s).length<=4)
def qX(s:G):List Int:=(io s).map gB
theorem RR(x:G):within (bif x.all dT&&decide (x.length<=6)&&!(x==[])&&!mm x then gB x else-1) 0 999=fL x:=by
 unfold fL within;cases h1:x.all dT with
 |false=>simp
 |true=>
  have:=Sb x 0 h1 (Int.le_refl _);have Z:decide ((0:Int)<=gB x)=true:=by simp only[decide_eq_true_eq];exact this
  cases h2:decide (x.length<=6)<;>cases Y:(x==[])<;>cases aP:mm x<;>simp[Z]
theorem Tt(a)(L:cZ a.1.1.length):∃out,f181 a=some (((),(hk a.1.1,())),(out,()))/\(hk a.1.1=true->out=qX a.1.1):=by
 obtain⟨⟨s,u⟩,bW⟩:=a;have L:s.length<=2097152:=L;have hlen:=zT 46 s;have jp:f89 ((s,((46:Int),((IntKind.i64.wrap ((s.length:Int)+(1:Int))),()))),())=some (((),()),(io s,())):=
  Iz 46 _ L rfl (cH (by unfold aN;omega))
 have key:=qn wb (io s) (fun i (out:List Int)=>(((),((),((i:Int),()))),(io s,(out,()))))
  (fun i x out=>some (bif fL x then .inl (out++[gB x]) else .inr ((.inl (((),(false,())),(out,()))):a7 oW))) (fun out=>((.inr (((),((),())),(io s,(out,())))):a7 oW))
  (fun i out=>out.length<=i) [] (Nat.le_refl _) (fun i x out hx eM=>?_) (fun out _=>?_)
 ·have fold:∀(r:List G) (k:Nat) (out:List Int),gi (fun i x out=>some (bif fL x then .inl (out++[gB x]) else .inr ((.inl (((),(false,())),(out,()))):a7 oW))) (fun out=>((.inr (((),((),())),(io s,(out,())))):a7 oW)) k r out=
    some (bif r.all fL then(.inr (((),((),())),(io s,(out++r.map gB,())))) else(.inl (((),(false,())),(out++(r.takeWhile fL).map gB,())))):=by
   intro r;induction r with
   |nil=>intro k out;simp[gi]
   |cons x r ih=>
    intro k out;simp only[gi,List.all_cons];cases hn:fL x with
    |false=>simp[hn]
    |true=>simp only[cond_true,Bool.true_and];rw[ih];simp[hn,List.append_assoc]
  have key:AW (((),((),((0:Int),()))),(io s,(([]:List Int),())))=_:=key.trans (fold (io s) 0 []);simp only[f181,jp,Option.bind_some,key,List.nil_append];unfold hk;cases iR:(io s).all fL with
  |false=>exact⟨_,rfl,fun h=>by cases h⟩
  |true=>
   simp only[cond_true,Bool.true_and];have:decide (((io s).length:Int)<=4)=decide ((io s).length<=4):=by by_cases h:(io s).length<=4<;>simp[h]<;>omega
   rw[this];exact⟨_,rfl,fun _=>rfl⟩
 ·have af:=c8 hx;have pa:(io s).length<=s.length+1:=hlen;have hw:aN i:=by unfold aN;omega
  have k7:x.length<=s.length:=vn 46 s x (List.mem_of_getElem? hx);refine⟨?_,fun ag ae=>?_⟩
  ·simp only[wb,cU af,cond_true,mc af,hx,Option.bind_some];rw[WA _ (show aN x.length by unfold aN;omega)]
   simp only[Option.bind_some,qD,RR];cases hn:fL x with
   |false=>rfl
   |true=>
    have Z:(bif x.all dT&&decide (x.length<=6)&&!(x==[])&&!mm x then gB x else-1)=gB x:=by
     unfold fL at hn;simp only[Bool.and_eq_true] at hn;obtain⟨⟨⟨⟨h1,h2⟩,Y⟩,aP⟩,bq⟩:=hn;rw[h1,aP,h2,Y];rfl
    simp only[Bool.not_true,cond_false,Z,cond_true];rw[jM (by decide) (by unfold aN;simp only[List.length_cons,List.length_nil];omega)]
    simp only[Option.bind_some,cH hw,Option.map_some]
  ·simp only[Option.some.injEq] at ae;cases hn:fL x with
   |false=>rw[hn] at ae;cases ae
   |true=>
    rw[hn] at ae;simp only[cond_true,Sum.inl.injEq] at ae;subst ae;simp only[List.length_append,List.length_cons,List.length_nil];omega
 ·simp only[wb,du,cond_false]
theorem F'(a)(L:cZ a.1.1.length):f162 a=some ((hk a.1.1,()),()):=by
 obtain⟨out,h,_⟩:=Tt ((a.1.1,()),()) L;simp only[f162,h,Option.bind_some]
theorem QC(a)(L:cZ a.1.1.length):f127 a=some (((),((),())),((bif hk a.1.1 then qX a.1.1 else []),(((),()),((hk a.1.1,()),())))):=by
 obtain⟨⟨s,u⟩,bW⟩:=a;have L:s.length<=2097152:=L;have DU:Nat.ble s.length ke=true:=Nat.ble_eq_true_of_le (by unfold ke;omega)
 have fold:∀(r:List G) (out:List Int),(∀x,x∈r->x.length<=s.length)->out.length<=4->
   hY qx s7 r (((),((),((),()))),(([]:List Int),(((),()),((false,()),(out,(((),()),()))))))=
    some (bif r.all fL&&decide (out.length+r.length<=4) then(.inl (((),((),((),()))),(([]:List Int),(((),()),((false,()),(out++r.map gB,(((),()),()))))))) else(.inr (((),((),())),(([]:List Int),(((),()),((false,()),())))))):=by
  intro r;induction r with
  |nil=>
   intro out _ an;have:decide (out.length+0<=4)=true:=by simpa using an
   simp only[hY,s7,List.all_nil,List.length_nil,this,Bool.and_self,cond_true,List.map_nil,List.append_nil]
  |cons x r ih=>
   intro out hr an;have hx:=hr x List.mem_cons_self;have aaa:=U0 ((x,((999:Int),())),()) (show aN x.length by unfold aN;omega) rfl
   have step:qx x (((),((),((),()))),(([]:List Int),(((),()),((false,()),(out,(((),()),()))))))=
     some (bif fL x&&decide (out.length+1<=4) then .inl (((),((),((),()))),(([]:List Int),(((),()),((false,()),(out++[gB x],(((),()),())))))) else .inr (.inr (((),((),())),(([]:List Int),(((),()),((false,()),())))))):=by
    simp only[qx,aaa,Option.bind_some,Aq,Bool.not_not];have aP:((out.length:Int)==4)=!decide (out.length+1<=4):=by
     by_cases h:out.length=4
     ·rw[h];rfl
     ·have bq:decide (out.length+1<=4)=true:=by simp only[decide_eq_true_eq];omega
      rw[bq];simp only[beq_eq_false_iff_ne,ne_eq,Bool.not_true];omega
    rw[aP];cases hn:fL x with
    |false=>rfl
    |true=>
     simp only[cond_true,Option.bind_some,Bool.true_and];cases aD:decide (out.length+1<=4) with
     |false=>rfl
     |true=>
      simp only[Bool.not_true,cond_false,cond_true];rw[jM (by decide) (by unfold aN;simp only[List.length_cons,List.length_nil];omega)]
      rfl
   rw[hY,step,List.all_cons];cases hn:fL x with
   |false=>rfl
   |true=>
    simp only[Bool.true_and];cases aD:decide (out.length+1<=4) with
    |false=>
     have:decide (out.length+(x::r).length<=4)=false:=by simp only[decide_eq_false_iff_not,List.length_cons] at aD ⊢;omega
     rw[this];simp
    |true=>
     simp only[cond_true];rw[ih (out++[gB x]) (fun y aq=>hr y (List.mem_cons_of_mem _ aq)) (by simp only[List.length_append,List.length_cons,List.length_nil];simpa using aD)]
     have e1:(out++[gB x]).length+r.length=out.length+(x::r).length:=by simp only[List.length_append,List.length_cons,List.length_nil];omega
     rw[e1,List.map_cons,List.append_assoc];rfl
 have key:=fold (cS (46:UInt8) s) [] (fun x hx=>vn 46 s x hx) (Nat.zero_le _)
 have DF:hY qx s7 (cS (46:UInt8) s) (((),((),((),()))),(([]:List Int),(((),()),((false,()),(([]:List Int),(((),()),()))))))=
    some (bif hk s then(.inl (((),((),((),()))),(([]:List Int),(((),()),((false,()),(qX s,(((),()),()))))))) else(.inr (((),((),())),(([]:List Int),(((),()),((false,()),())))))):=by
  rw[key];unfold hk qX io;simp only[List.length_nil,Nat.zero_add,List.nil_append]
 simp only[f127,DU,cond_true,DF,Option.bind_some];cases hk s<;>rfl
theorem F1(a)(L:cZ a.1.1.length):f119 a=some ((hk a.1.1,()),()):=by
 simp only[f119,QC ((a.1.1,()),()) L,Option.bind_some]
def jg(n:dE):Bool:=kR n.name&&(n.kind==0&&(n.b_==[])||within n.kind 1 3&&hk n.b_)
abbrev aeP(n:dE):Prop:=cZ n.name.length/\cZ n.b_.length
theorem U9(a)(h1:cZ a.1.1.1.length)(h2:cZ a.1.1.2.2.1.length):f233 a=some ((jg ⟨a.1.1.1,a.1.1.2.1,a.1.1.2.2.1⟩,()),()):=by
 obtain⟨⟨⟨n,k,v,u⟩,bW⟩,ou⟩:=a;have h1:n.length<=2097152:=h1;have h2:v.length<=2097152:=h2;have e1:=HJ ((n,()),()) (show aN n.length by unfold aN;omega)
 have e2:=F' ((v,()),()) h2;simp only[f233,e1,e2,qD,Option.bind_some,jg];cases kR n with
 |false=>rfl
 |true=>
  cases ah:(k==0) with
  |false=>
   simp only[cond_true,cond_false];cases within k 1 3<;>cases hk v<;>rfl
  |true=>
   have:within k 1 3=false:=by
    have:k=0:=by simpa using ah
    subst this;decide
   rw[this];cases (v==[])<;>rfl
theorem Ti{k:Int}(mV:¬k=0)(ay:¬k=1)(ai:¬k=2)(bn:¬k=3):within k 1 3=false:=by
 unfold within;cases h:(decide (1<=k)&&decide (k<=3)) with
 |false=>rfl
 |true=>simp only[Bool.and_eq_true,decide_eq_true_eq] at h;omega
theorem Ty(a)(h1:cZ a.1.1.1.length)(h2:cZ a.1.1.2.2.1.length):f121 a=some ((jg ⟨a.1.1.1,a.1.1.2.1,a.1.1.2.2.1⟩,()),()):=by
 obtain⟨⟨⟨n,k,v,u⟩,bW⟩,ou⟩:=a;have h1:n.length<=2097152:=h1;have h2:v.length<=2097152:=h2;have e1:=F0 ((n,()),()) (show aN n.length by unfold aN;omega)
 have e2:=F1 ((v,()),()) h2;simp only[f121,e1,e2,Option.bind_some,jg,A_];cases kR n with
 |false=>rfl
 |true=>
  simp only[Bool.not_true,cond_false,Bool.true_and];by_cases mV:k=0
  ·subst mV;cases (v==[])<;>rfl
  ·have uE:(k==0)=false:=by simpa using mV
   rw[uE];by_cases ay:k=1
   ·subst ay;cases Z:hk v<;>simp[within,e2,Z]
   ·have lV:(k==1)=false:=by simpa using ay
    rw[lV];by_cases ai:k=2
    ·subst ai;cases Z:hk v<;>simp[within,e2,Z]
    ·have h5:(k==2)=false:=by simpa using ai
     rw[h5];by_cases bn:k=3
     ·subst bn;cases Z:hk v<;>simp[within,e2,Z]
     ·have adb:(k==3)=false:=by simpa using bn
      rw[adb];rw[Ti mV ay ai bn];rfl
noncomputable abbrev Za:cb:=[(121,M8)]
theorem Ke:bG ao (b9 aV Za):=b8 ⟨_w,⟨⟩⟩
abbrev vD:Shape:=⟨[(1,.ak (.fn 121 [])),aW 7 .need,aj 8,aj 9],[],18⟩
abbrev Ab:List bh:=[(.ret,⟨[a6 4],[],18⟩),(.exit 0,⟨[],[],18⟩)]
noncomputable def vK(y:vD.F):cq vD Ab:=
 bif(decide (y.1.2.2.2.1<y.1.2.2.1)) then
(bf y.1.2.1 y.1.2.2.2.1).bind fun a=>
(f121 (((a.name,a.kind,a.b_,()),()),())).bind fun b=>
 bif(!b.1.1) then
 some (.inr (.inl ((false,()),())))
else
 some (.inl (((),y.1.2.1,y.1.2.2.1,(IntKind.i64.wrap (y.1.2.2.2.1+(1:Int))),()),()))
else
 some (.inr (.inr ((),())))
noncomputable def Ak:vD.F->Option (a7 Ab):=bH vK
theorem Uf:bx ao (aU (codeOf Tryz.f120) 1 26) (bK vD Ab Ak):=cG Ke (by kernel_rfl) aH fun y=>by kernel_rfl
abbrev JX:Shape:=⟨[aW 0 .need,(1,.ak (.fn 121 []))],[],18⟩
abbrev JK:Shape:=⟨[a6 4],[],18⟩
noncomputable def x5(a:JX.F):Option JK.F:=
(Ak (((),a.1.1,(a.1.1.length:Int),(0:Int),()),())).bind fun b=>
(match b with
|.inl c=>
 some ((c.1.1,()),())
|.inr d=>
 some ((true,()),()))
noncomputable def Ka:bp:=bN aV Tryz.f120 JX JK [] x5
theorem X9:bu ao 120 Ka:=bP Ke Tryz.func120 (by kernel_rfl) (bR Uf aH) (fun y=>by kernel_rfl) fun a=>by kernel_rfl
abbrev i123:Shape:=⟨[e7 0 [bY,dh,bY]],[],5⟩
abbrev LO:Shape:=⟨[bc 2],[],5⟩
noncomputable def f123(a:i123.F):Option LO.F:=
 some ((a.1.1.1,()),())
noncomputable def M7:bp:=bN aV Tryz.f123 i123 LO [] f123
theorem _v:bu ao 123 M7:=bP g0 Tryz.func123 (by kernel_rfl) aH (fun y=>by kernel_rfl) fun a=>by kernel_rfl
abbrev i177:Shape:=⟨[aW 0 .str],[],8⟩
abbrev DB:Shape:=⟨[b3 2 3000128],[cL 3000128 .str 2 0],8⟩
noncomputable def f177(a:i177.F):Option DB.F:=
 sG (t:=.str) a.1.1 (some (((),()),([]:List G),())) ((dc 16 ([]:List G) a.1.1).bind fun b=>
 some (((),()),b,()))
noncomputable def MV:bp:=bN aV Tryz.f177 i177 DB [] f177
theorem _n:bu ao 177 MV:=bP g0 Tryz.func177 (by kernel_rfl) aH (fun y=>by kernel_rfl) fun a=>by kernel_rfl
abbrev ww:Shape:=⟨[aW 0 .str,bc 1,aj 7,aj 8],[],19⟩
abbrev qp:List bh:=[(.ret,⟨[aj 4],[],19⟩),(.exit 0,⟨[],[],19⟩)]
noncomputable def w5(y:ww.F):cq ww qp:=
 bif(decide (y.1.2.2.2.1<y.1.2.2.1)) then
(bf y.1.1 y.1.2.2.2.1).bind fun a=>
 bif(y.1.2.1==a) then
 some (.inr (.inl ((y.1.2.2.2.1,()),())))
else
 some (.inl ((y.1.1,y.1.2.1,y.1.2.2.1,(IntKind.i64.wrap (y.1.2.2.2.1+(1:Int))),()),()))
else
 some (.inr (.inr ((),())))
noncomputable def BU:ww.F->Option (a7 qp):=bH w5
theorem WZ:bx ao (aU (codeOf Tryz.f221) 1 26) (bK ww qp BU):=cG g0 (by kernel_rfl) aH fun y=>by kernel_rfl
abbrev i221:Shape:=⟨[aW 0 .str,bc 1],[],19⟩
abbrev DA:Shape:=⟨[aj 4],[],19⟩
noncomputable def f221(a:i221.F):Option DA.F:=
(BU ((a.1.1,a.1.2.1,(a.1.1.length:Int),(0:Int),()),())).bind fun b=>
(match b with
|.inl c=>
 some ((c.1.1,()),())
|.inr d=>
 some ((((-1):Int),()),()))
noncomputable def ML:bp:=bN aV Tryz.f221 i221 DA [] f221
theorem _h:bu ao 221 ML:=bP g0 Tryz.func221 (by kernel_rfl) (bR WZ aH) (fun y=>by kernel_rfl) fun a=>by kernel_rfl
noncomputable abbrev aa4:cb:=[(221,ML)]
theorem abt:bG ao (b9 aV aa4):=b8 ⟨_h,⟨⟩⟩
abbrev i178:Shape:=⟨[aW 0 .str,bc 1],[],9⟩
abbrev Lx:Shape:=⟨[a6 4],[],9⟩
noncomputable def f178(a:i178.F):Option Lx.F:=
(f221 ((a.1.1,a.1.2.1,()),())).bind fun b=>
 some (((decide (b.1.1>=(0:Int))),()),())
noncomputable def MU:bp:=bN aV Tryz.f178 i178 Lx [] f178
theorem _m:bu ao 178 MU:=bP abt Tryz.func178 (by kernel_rfl) aH (fun y=>by kernel_rfl) fun a=>by kernel_rfl
noncomputable abbrev Y':cb:=[(123,M7),(177,MV),(178,MU)]
theorem Kd:bG ao (b9 aV Y'):=b8 ⟨_v,_n,_m,⟨⟩⟩
abbrev vC:Shape:=⟨[(1,.ak (.fn 123 [])),b3 7 3000448,aW 12 .need,aj 13,aj 14],[cL 3000448 .str 7 0],30⟩
abbrev qf:List bh:=[(.ret,⟨[a6 6],[],30⟩),(.exit 0,⟨[],[],30⟩)]
noncomputable def vJ(y:vC.F):cq vC qf:=
 bif(decide (y.1.2.2.2.2.1<y.1.2.2.2.1)) then
(bf y.1.2.2.1 y.1.2.2.2.2.1).bind fun a=>
(f123 (((a.name,a.kind,a.b_,()),()),())).bind fun b=>
(f178 ((y.2.1,b.1.1,()),())).bind fun c=>
 bif c.1.1 then
 some (.inr (.inl ((true,()),())))
else
(f123 (((a.name,a.kind,a.b_,()),()),())).bind fun d=>
(dc 16 y.2.1 ([d.1.1]:List G)).bind fun e=>
 some (.inl (((),(),y.1.2.2.1,y.1.2.2.2.1,(IntKind.i64.wrap (y.1.2.2.2.2.1+(1:Int))),()),e,()))
else
 some (.inr (.inr ((),())))
noncomputable def Aj:vC.F->Option (a7 qf):=bH vJ
theorem Ue:bx ao (aU (codeOf Tryz.f122) 1 58) (bK vC qf Aj):=cG Kd (by kernel_rfl) aH fun y=>by kernel_rfl
abbrev JW:Shape:=⟨[aW 0 .need,(1,.ak (.fn 123 [])),aW 2 .str],[],30⟩
abbrev JJ:Shape:=⟨[a6 6],[],30⟩
noncomputable def x4(a:JW.F):Option JJ.F:=
(f177 ((a.1.2.2.1,()),())).bind fun b=>
(Aj (((),(),a.1.1,(a.1.1.length:Int),(0:Int),()),b.2.1,())).bind fun c=>
(match c with
|.inl d=>
 some ((d.1.1,()),())
|.inr e=>
 some ((false,()),()))
noncomputable def J':bp:=bN aV Tryz.f122 JW JJ [] x4
theorem X8:bu ao 122 J':=bP Kd Tryz.func122 (by kernel_rfl) (bR Ue aH) (fun y=>by kernel_rfl) fun a=>by kernel_rfl
noncomputable abbrev aaW:cb:=[(233,MH)]
theorem Nl:bG ao (b9 aV aaW):=b8 ⟨z233,⟨⟩⟩
abbrev wy:Shape:=⟨[aW 0 .need,aj 3],[],19⟩
abbrev Bp:List bh:=[(.ret,⟨[a6 2],[],19⟩),(.exit 0,⟨[aW 0 .need],[],19⟩)]
noncomputable def w6(y:wy.F):cq wy Bp:=
 bif(decide (y.1.2.1<(y.1.1.length:Int))) then
(bf y.1.1 y.1.2.1).bind fun a=>
(f233 (((a.name,a.kind,a.b_,()),()),())).bind fun b=>
 bif(!b.1.1) then
 some (.inr (.inl ((false,()),())))
else
 some (.inl ((y.1.1,(IntKind.i64.wrap (y.1.2.1+(1:Int))),()),()))
else
 some (.inr (.inr ((y.1.1,()),())))
noncomputable def BV:wy.F->Option (a7 Bp):=bH w6
theorem W1:bx ao (aU (codeOf Tryz.f215) 1 26) (bK wy Bp BV):=cG Nl (by kernel_rfl) aH fun y=>by kernel_rfl
abbrev i215:Shape:=⟨[aW 0 .need],[],19⟩
abbrev Ln:Shape:=⟨[a6 2],[],19⟩
noncomputable def f215(a:i215.F):Option Ln.F:=
(BV ((a.1.1,(0:Int),()),())).bind fun b=>
(match b with
|.inl c=>
 some ((c.1.1,()),())
|.inr d=>
 some (((decide ((d.1.1.length:Int)<=(6:Int))),()),()))
noncomputable def MM:bp:=bN aV Tryz.f215 i215 Ln [] f215
theorem _i:bu ao 215 MM:=bP Nl Tryz.func215 (by kernel_rfl) (bR W1 aH) (fun y=>by kernel_rfl) fun a=>by kernel_rfl
abbrev vR:Shape:=⟨[aW 0 .str,aj 3,aj 4],[],25⟩
abbrev AA:List bh:=[(.ret,⟨[a6 2],[],25⟩),(.exit 2,⟨[aW 0 .str,aj 3],[],25⟩)]
noncomputable def v_(y:vR.F):cq vR AA:=
 bif(decide (y.1.2.2.1<y.1.2.1)) then
(bf y.1.1 y.1.2.2.1).bind fun a=>
(bf y.1.1 y.1.2.1).bind fun b=>
 bif(a==b) then
 some (.inr (.inl ((true,()),())))
else
 some (.inl ((y.1.1,y.1.2.1,(IntKind.i64.wrap (y.1.2.2.1+(1:Int))),()),()))
else
 some (.inr (.inr ((y.1.1,y.1.2.1,()),())))
noncomputable def AR:vR.F->Option (a7 AA):=bH v_
theorem Vu:bx ao (aU (eH (aU (codeOf Tryz.f99) 1 26)) 52 1682) (bK vR AA AR):=cG g0 (by kernel_rfl) aH fun y=>by kernel_rfl
abbrev xp:Shape:=⟨[aW 0 .str,aj 3],[],25⟩
abbrev Cn:List bh:=[(.ret,⟨[a6 2],[],25⟩),(.exit 0,⟨[],[],25⟩)]
noncomputable def xP(y:xp.F):cq xp Cn:=
 bif(decide (y.1.2.1<(y.1.1.length:Int))) then
(AR ((y.1.1,y.1.2.1,(0:Int),()),())).bind fun a=>
(match a with
|.inl b=>
 some (.inr (.inl ((b.1.1,()),())))
|.inr c=>
 some (.inl ((c.1.1,(IntKind.i64.wrap (c.1.2.1+(1:Int))),()),())))
else
 some (.inr (.inr ((),())))
noncomputable def CK:xp.F->Option (a7 Cn):=bH xP
theorem Yj:bx ao (aU (codeOf Tryz.f99) 1 26) (bK xp Cn CK):=cG g0 (by kernel_rfl) (bR Vu aH) fun y=>by kernel_rfl
abbrev i99:Shape:=⟨[aW 0 .str],[],25⟩
abbrev NF:Shape:=⟨[a6 2],[],25⟩
noncomputable def f99(a:i99.F):Option NF.F:=
(CK ((a.1.1,(0:Int),()),())).bind fun b=>
(match b with
|.inl c=>
 some ((c.1.1,()),())
|.inr d=>
 some ((false,()),()))
noncomputable def Fa:bp:=bN aV Tryz.f99 i99 NF [] f99
theorem Nt:bu ao 99 Fa:=bP g0 Tryz.func99 (by kernel_rfl) (bR Yj aH) (fun y=>by kernel_rfl) fun a=>by kernel_rfl
noncomputable abbrev aa5:cb:=[(99,Fa),(215,MM)]
theorem No:bG ao (b9 aV aa5):=b8 ⟨Nt,_i,⟨⟩⟩
abbrev wE:Shape:=⟨[aW 1 .need,b3 5 3000320,aj 6],[cL 3000320 .str 5 0],30⟩
abbrev wg:List bh:=[(.exit 0,⟨[aW 1 .need,b3 5 3000320],[cL 3000320 .str 5 0],30⟩)]
noncomputable def w9(y:wE.F):cq wE wg:=
 bif(decide (y.1.2.2.1<(y.1.1.length:Int))) then
(bf y.1.1 y.1.2.2.1).bind fun a=>
(dc 16 y.2.1 ([a.name]:List G)).bind fun b=>
 some (.inl ((y.1.1,(),(IntKind.i64.wrap (y.1.2.2.1+(1:Int))),()),b,()))
else
 some (.inr ((y.1.1,(),()),y.2.1,()))
noncomputable def BY:wE.F->Option (a7 wg):=bH w9
theorem W7:bx ao (aU (codeOf Tryz.f163) 1 58) (bK wE wg BY):=cG No (by kernel_rfl) aH fun y=>by kernel_rfl
abbrev i163:Shape:=⟨[bc 0,aW 1 .need],[],30⟩
abbrev Lz:Shape:=⟨[a6 4],[],30⟩
noncomputable def f163(a:i163.F):Option Lz.F:=
(BY ((a.1.2.1,(),(0:Int),()),([a.1.1]:List G),())).bind fun b=>
(f215 ((b.1.1,()),())).bind fun c=>
 bif c.1.1 then
(f99 ((b.2.1,()),())).bind fun d=>
 some (((!d.1.1),()),())
else
 some ((false,()),())
noncomputable def MX:bp:=bN aV Tryz.f163 i163 Lz [] f163
theorem _o:bu ao 163 MX:=bP No Tryz.func163 (by kernel_rfl) (bR W7 aH) (fun y=>by kernel_rfl) fun a=>by kernel_rfl
abbrev ub(ap:List dE):Prop:=cZ ap.length/\∀n,n∈ap->aeP n
theorem yF(n:Nat)(k:Nat):decide ((n:Int)<=(k:Int))=decide (n<=k):=by by_cases h:n<=k<;>simp[h]<;>omega
theorem Ts(a)(L:ub a.1.1):f215 a=some ((a.1.1.all jg&&decide (a.1.1.length<=6),()),()):=by
 obtain⟨⟨ap,u⟩,bW⟩:=a;obtain⟨hl,hn⟩:=L;have hl:ap.length<=2097152:=hl;have key:BV ((ap,((0:Int),())),())=some (bif allI (fun _ n=>jg n) 0 ap then .inr ((ap,()),()) else .inl ((false,()),())):=by
  refine hi w6 ap (fun i=>((ap,((i:Int),())),())) _ _ _ (fun i x hx=>?_) ?_
  ·have af:=c8 hx;have hw:aN i:=by unfold aN;omega
   have hb:=hn x (List.mem_of_getElem? hx);simp only[w6,cU af,cond_true,cI,hx,Option.bind_some];rw[U9 _ hb.1 hb.2];simp only[Option.bind_some,cH hw];cases jg x<;>rfl
  ·simp only[w6,du,cond_false]
 rw[ig] at key;simp only[f215,key,Option.bind_some];cases List.all ap jg with
 |false=>rfl
 |true=>have:=yF ap.length 6;simp only[cond_true,Bool.true_and];rw[<-this];rfl
theorem TE(a)(L:ub a.1.1):x5 a=some ((a.1.1.all jg,()),()):=by
 obtain⟨⟨ap,u⟩,bW⟩:=a;obtain⟨hl,hn⟩:=L;have hl:ap.length<=2097152:=hl;have key:Ak (((),(ap,((ap.length:Int),((0:Int),())))),())=some (bif allI (fun _ n=>jg n) 0 ap then .inr ((),()) else .inl ((false,()),())):=by
  refine hi vK ap (fun i=>(((),(ap,((ap.length:Int),((i:Int),())))),())) _ _ _ (fun i x hx=>?_) ?_
  ·have af:=c8 hx;have hw:aN i:=by unfold aN;omega
   have hb:=hn x (List.mem_of_getElem? hx);simp only[vK,cU af,cond_true,cI,hx,Option.bind_some];rw[Ty _ hb.1 hb.2];simp only[Option.bind_some,cH hw];cases jg x<;>rfl
  ·simp only[vK,du,cond_false]
 rw[ig] at key;simp only[x5,key,Option.bind_some];cases List.all ap jg<;>rfl
def gU:List G->List G->Bool
 |_,[]=>false
 |b0,x::r=>b0.contains x||gU (b0++[x]) r
theorem Wi(xs:List G):∀(r:List G) (k:Nat),r=xs.drop k->allI (fun i x=>!((xs.take i).contains x)) k r=!gU (xs.take k) r:=by
 intro r;induction r with
 |nil=>intro k _;rfl
 |cons x r ih=>
  intro k hr;have cp:r=xs.drop (k+1):=by
   have:=congrArg List.tail hr;simpa using this
  have hx:xs[k]? =some x:=by
   have:=congrArg (fun l=>l[0]?) hr
   simpa using this.symm
  have e1:xs.take (k+1)=xs.take k++[x]:=by rw[List.take_add_one,hx];rfl
  simp only[allI,gU,ih (k+1) cp,e1,Bool.not_or]
theorem Jp(ys:List G)(x:G):ys.all (fun y=>!(y==x))=!ys.contains x:=by
 induction ys with
 |nil=>rfl
 |cons y ys ih=>
  simp only[List.all_cons,ih,List.contains_cons,Bool.not_or];congr 2
  cases h:y==x with
  |true=>rw[eq_of_beq h];simp
  |false=>
   cases h2:x==y with
   |true=>rw[eq_of_beq h2] at h;simp at h
   |false=>rfl
theorem G1(a)(L:cZ a.1.1.length):f99 a=some ((gU [] a.1.1,()),()):=by
 obtain⟨⟨xs,u⟩,bW⟩:=a;have L:xs.length<=2097152:=L;have inner:∀(i:Nat) (x:G),xs[i]? =some x->AR ((xs,((i:Int),((0:Int),()))),())=some (bif !((xs.take i).contains x) then .inr ((xs,((i:Int),())),()) else .inl ((true,()),())):=by
  intro i x hx;have af:=c8 hx;have hl:(xs.take i).length=i:=by rw[List.length_take];omega
  have:=hi v_ (xs.take i) (fun k=>((xs,((i:Int),((k:Int),()))),())) (fun _ y=>!(y==x)) (.inl ((true,()),())) (.inr ((xs,((i:Int),())),())) (fun k y aq=>?_) ?_
  ·have:=this;rw[ig,Jp] at this;exact this
  ·have ah:=c8 aq;rw[hl] at ah;have hw:aN k:=by unfold aN;omega
   have dU:xs[k]? =some y:=by
    rw[List.getElem?_take,if_pos ah] at aq;exact aq
   simp only[v_,cU ah,cond_true,cI,dU,hx,Option.bind_some,cH hw];cases (y==x)<;>rfl
  ·simp only[v_,hl,du,cond_false]
 have key:CK ((xs,((0:Int),())),())=some (bif allI (fun i x=>!((xs.take i).contains x)) 0 xs then .inr ((),()) else .inl ((true,()),())):=by
  refine hi xP xs (fun i=>((xs,((i:Int),())),())) _ _ _ (fun i x hx=>?_) ?_
  ·have af:=c8 hx;have hw:aN i:=by unfold aN;omega
   simp only[xP,cU af,cond_true,inner i x hx,Option.bind_some];cases (xs.take i).contains x
   ·simp only[Bool.not_false,cond_true,cH hw]
   ·rfl
  ·simp only[xP,du,cond_false]
 rw[Wi xs xs 0 rfl] at key;simp only[f99,key,Option.bind_some,List.take_zero];cases gU [] xs<;>rfl
def s4(name:G)(ap:List dE):Bool:=ap.all jg&&decide (ap.length<=6)&&!gU [] (name::ap.map (·.name))
theorem Tr(a)(L:ub a.1.2.1)(hn:cZ a.1.1.length):f163 a=some ((s4 a.1.1 a.1.2.1,()),()):=by
 obtain⟨⟨name,ap,u⟩,bW⟩:=a;have hl:ap.length<=2097152:=L.1;have key:BY ((ap,((),((0:Int),()))),(([name]:List G),()))=some (((ap,((),())),((name::ap.map (·.name)),()))):=by
  have:=Uv w9 ap (fun i (out:List G)=>((ap,((),((i:Int),()))),(out,()))) (fun(n:dE) out=>out++[n.name]) (fun out=>(((ap,((),())),(out,())):a7 wg)) (fun i out=>out.length=i+1) [name] rfl (fun i x out hx eM=>?_) (fun out _=>?_)
  ·refine this.trans ?_
   have e:∀(r:List dE) (out:List G),r.foldl (fun s x=>s++[x.name]) out=out++r.map (·.name):=by
    intro r;induction r with
    |nil=>intro out;simp
    |cons n r ih=>intro out;simp[ih]
   rw[e];rfl
  ·have af:=c8 hx;have hw:aN i:=by unfold aN;omega
   refine⟨?_,by simp[eM]⟩
   simp only[w9,cU af,cond_true,cI,hx,Option.bind_some];rw[jM (by decide) (by unfold aN;simp only[List.length_cons,List.length_nil];omega)]
   simp only[Option.bind_some,cH hw]
  ·simp only[w9,du,cond_false]
 simp only[f163,key,Option.bind_some];rw[Ts _ L];simp only[Option.bind_some];unfold s4;cases aD:(List.all ap jg&&decide (ap.length<=6)) with
 |false=>rfl
 |true=>
  simp only[Bool.and_eq_true,decide_eq_true_eq] at aD;have aeZ:=G1 ((name::ap.map (·.name),()),()) (show(name::ap.map (·.name)).length<=2097152 by simp only[List.length_cons,List.length_map];omega)
  simp only[cond_true,Bool.true_and,aeZ,Option.bind_some]
theorem WC(a)(L:cZ a.1.1.length):∃n:Int,f221 a=some ((n,()),())/\decide (n>=0)=a.1.1.contains a.1.2.1:=by
 obtain⟨⟨xs,x,u⟩,bW⟩:=a;have L:xs.length<=2097152:=L;have key:BU ((xs,(x,((xs.length:Int),((0:Int),())))),())=_:=Ah w5 xs (fun i (_:Unit)=>((xs,(x,((xs.length:Int),((i:Int),())))),()))
  (fun i y _=>some (bif x==y then .inr ((.inl (((i:Int),()),())):a7 qp) else .inl ())) (fun _=>.inr ((),())) (fun i y s aq=>?_) (fun s=>?_) ()
 ·have fold:∀(r:List G) (k:Nat),∃n:Int,(gi (fun i y (_:Unit)=>some (bif x==y then .inr ((.inl (((i:Int),()),())):a7 qp) else .inl ())) (fun _=>(.inr ((),()):a7 qp)) k r ()).bind (fun _M=>
    (match _M with
    |.inl _L=>some ((_L.1.1,()),())
    |.inr agf=>some ((((-1):Int),()),()):Option DA.F))=some ((n,()),())/\decide (n>=0)=r.contains x:=by
   intro r;induction r with
   |nil=>intro k;exact⟨-1,rfl,rfl⟩
   |cons y r ih=>
    intro k;simp only[gi,List.contains_cons];cases Ey:x==y with
    |true=>exact⟨k,rfl,by simp⟩
    |false=>
     obtain⟨n,h1,h2⟩:=ih (k+1);exact⟨n,h1,by simpa using h2⟩
  obtain⟨n,h1,h2⟩:=fold xs 0;refine⟨n,?_,h2⟩;simp only[f221];rw[key];exact h1
 ·have af:=c8 aq;have hw:aN i:=by unfold aN;omega
  simp only[w5,cU af,cond_true,cI,aq,Option.bind_some,cH hw];cases x==y<;>rfl
 ·simp only[w5,du,cond_false]
theorem Si(a)(L:cZ a.1.1.length):f178 a=some ((a.1.1.contains a.1.2.1,()),()):=by
 obtain⟨n,h1,h2⟩:=WC ((a.1.1,(a.1.2.1,())),()) L;simp only[f178,h1,Option.bind_some,h2]
theorem U_(a)(L:cZ a.1.1.length):f177 a=some (((),()),(a.1.1,())):=by
 obtain⟨⟨xs,u⟩,bW⟩:=a;have L:xs.length<=2097152:=L;have h2:(dc 16 ([]:List G) xs).bind (fun x=>some (((),()),(x,())))=(some (((),()),(xs,())):Option DB.F):=by
  rw[jM (by decide) (by unfold aN;simp only[List.length_nil];omega)];rfl
 simp only[f177];rw[h2];unfold sG;split
 ·rfl
 ·rename_i h;exact absurd (fun he:xs=[]=>by subst he;rfl) h
theorem QZ(a)(L:ub a.1.1)(hm:a.1.2.2.1.length<=1):x4 a=some ((gU a.1.2.2.1 (a.1.1.map (·.name)),()),()):=by
 obtain⟨⟨ap,oL,more,u⟩,bW⟩:=a;have hl:ap.length<=2097152:=L.1;have hm:more.length<=1:=hm;have hc:=U_ ((more,()),()) (show more.length<=2097152 by omega)
 have key:(Aj (((),((),(ap,((ap.length:Int),((0:Int),()))))),(more,())))=_:=qn vJ ap (fun i (out:List G)=>(((),((),(ap,((ap.length:Int),((i:Int),()))))),(out,())))
  (fun i (n:dE) out=>some (bif out.contains n.name then .inr ((.inl ((true,()),())):a7 qf) else .inl (out++[n.name]))) (fun _=>.inr ((),())) (fun i out=>out.length<=i+1) more (by omega) (fun i x out hx eM=>?_) (fun out _=>?_)
 ·have fold:∀(r:List dE) (k:Nat) (out:List G),(gi (fun i (n:dE) out=>some (bif out.contains n.name then .inr ((.inl ((true,()),())):a7 qf) else .inl (out++[n.name]))) (fun _=>(.inr ((),()):a7 qf)) k r out)=
    some (bif gU out (r.map (·.name)) then .inl ((true,()),()) else .inr ((),())):=by
   intro r;induction r with
   |nil=>intro k out;rfl
   |cons n r ih=>
    intro k out;simp only[gi,List.map_cons,gU];cases out.contains n.name with
    |true=>rfl
    |false=>simp only[cond_false,Bool.false_or];exact ih _ _
  rw[fold] at key;simp only[x4,hc,Option.bind_some,key];cases gU more (ap.map (·.name))<;>rfl
 ·have af:=c8 hx;have hw:aN i:=by unfold aN;omega
  refine⟨?_,fun ag ae=>?_⟩
  ·simp only[vJ,cU af,cond_true,cI,hx,Option.bind_some,f123];rw[Si _ (show cZ out.length by show out.length<=2097152;omega)]
   simp only[Option.bind_some];cases aD:out.contains x.name with
   |true=>rfl
   |false=>
    simp only[cond_false];rw[jM (by decide) (by unfold aN;simp only[List.length_cons,List.length_nil];omega)]
    simp only[Option.bind_some,cH hw,Option.map_some]
  ·simp only[Option.some.injEq] at ae;cases aD:out.contains x.name with
   |true=>rw[aD] at ae;cases ae
   |false=>
    rw[aD] at ae;simp only[cond_false,Sum.inl.injEq] at ae;subst ae;simp only[List.length_append,List.length_cons,List.length_nil];omega
 ·simp only[vJ,du,cond_false]
abbrev i293:Shape:=⟨[(0,.ak (.d (.int .u8)))],[],29⟩
abbrev La:Shape:=⟨[a6 2],[],29⟩
noncomputable def f293(a:i293.F):Option La.F:=
 bif(decide (a.1.1>=(97:Int))) then
 bif(!(decide (a.1.1<=(122:Int)))) then
 bif(decide (a.1.1>=(48:Int))) then
 bif(!(decide (a.1.1<=(57:Int)))) then
 bif(!(a.1.1==(46:Int))) then
 bif(!(a.1.1==(95:Int))) then
 some (((a.1.1==(45:Int)),()),())
else
 some ((true,()),())
else
 some ((true,()),())
else
 some ((true,()),())
else
 bif(!(a.1.1==(46:Int))) then
 bif(!(a.1.1==(95:Int))) then
 some (((a.1.1==(45:Int)),()),())
else
 some ((true,()),())
else
 some ((true,()),())
else
 some ((true,()),())
else
 bif(decide (a.1.1>=(48:Int))) then
 bif(!(decide (a.1.1<=(57:Int)))) then
 bif(!(a.1.1==(46:Int))) then
 bif(!(a.1.1==(95:Int))) then
 some (((a.1.1==(45:Int)),()),())
else
 some ((true,()),())
else
 some ((true,()),())
else
 some ((true,()),())
else
 bif(!(a.1.1==(46:Int))) then
 bif(!(a.1.1==(95:Int))) then
 some (((a.1.1==(45:Int)),()),())
else
 some ((true,()),())
else
 some ((true,()),())
noncomputable def My:bp:=bN aV Tryz.f293 i293 La [] f293
theorem Z9:bu ao 293 My:=bP g0 Tryz.func293 (by kernel_rfl) aH (fun y=>by kernel_rfl) fun a=>by kernel_rfl
noncomputable abbrev aaO:cb:=[(293,My)]
theorem Ni:bG ao (b9 aV aaO):=b8 ⟨Z9,⟨⟩⟩
abbrev wo:Shape:=⟨[bc 0,aj 5,aj 6],[],17⟩
abbrev Bk:List bh:=[(.ret,⟨[a6 2],[],17⟩),(.exit 0,⟨[bc 0],[],17⟩)]
noncomputable def w1(y:wo.F):cq wo Bk:=
 bif(decide (y.1.2.2.1<y.1.2.1)) then
(bf y.1.1 y.1.2.2.1).bind fun a=>
(f293 (((a.toNat:Int),()),())).bind fun b=>
 bif(!b.1.1) then
 some (.inr (.inl ((false,()),())))
else
 some (.inl ((y.1.1,y.1.2.1,(IntKind.i64.wrap (y.1.2.2.1+(1:Int))),()),()))
else
 some (.inr (.inr ((y.1.1,()),())))
noncomputable def BR:wo.F->Option (a7 Bk):=bH w1
theorem WU:bx ao (aU (codeOf Tryz.f267) 1 26) (bK wo Bk BR):=cG Ni (by kernel_rfl) aH fun y=>by kernel_rfl
abbrev i267:Shape:=⟨[bc 0],[],17⟩
abbrev Le:Shape:=⟨[a6 2],[],17⟩
noncomputable def f267(a:i267.F):Option Le.F:=
(BR ((a.1.1,(a.1.1.length:Int),(0:Int),()),())).bind fun b=>
(match b with
|.inl c=>
 some ((c.1.1,()),())
|.inr d=>
 some (((!(d.1.1==([]:G))),()),()))
noncomputable def MC:bp:=bN aV Tryz.f267 i267 Le [] f267
theorem _b:bu ao 267 MC:=bP Ni Tryz.func267 (by kernel_rfl) (bR WU aH) (fun y=>by kernel_rfl) fun a=>by kernel_rfl
noncomputable abbrev aaV:cb:=[(267,MC)]
theorem abn:bG ao (b9 aV aaV):=b8 ⟨_b,⟨⟩⟩
abbrev i228:Shape:=⟨[bc 0],[],18⟩
abbrev Lm:Shape:=⟨[a6 2],[],18⟩
noncomputable def f228(a:i228.F):Option Lm.F:=
 bif(decide ((a.1.1.length:Int)<=(10:Int))) then
 bif(!(a.1.1==([46]:G))) then
 bif(!(a.1.1==([46,46]:G))) then
(f267 ((a.1.1,()),())).bind fun b=>
 some ((b.1.1,()),())
else
 some ((false,()),())
else
 some ((false,()),())
else
 some ((false,()),())
noncomputable def MK:bp:=bN aV Tryz.f228 i228 Lm [] f228
theorem z228:bu ao 228 MK:=bP abn Tryz.func228 (by kernel_rfl) aH (fun y=>by kernel_rfl) fun a=>by kernel_rfl
noncomputable abbrev aa1:cb:=[(228,MK)]
theorem Eg:bG ao (b9 aV aa1):=b8 ⟨z228,⟨⟩⟩
abbrev H7:Shape:=⟨[dK 2 2 0,dK 3 3 0,bc 4],[dJ 2 [ic],dJ 3 [dh]],17⟩
abbrev HV:List bh:=[(.norm,⟨[dK 2 2 0,dK 3 3 0,a6 16],[dJ 2 [ic],dJ 3 [dh]],17⟩)]
noncomputable def A7(y:H7.F):Option (a7 HV):=
 bif(!(decide (y.2.2.1.1>(5:Int)))) then
(f228 ((y.1.2.2.1,()),())).bind fun a=>
 some (((),(),(!a.1.1),()),(y.2.1.1,()),(y.2.2.1.1,()),())
else
 some (((),(),true,()),(y.2.1.1,()),(y.2.2.1.1,()),())
theorem VF:bx ao (aU (jK (aU (codeOf Tryz.f193) 1 58)) 117 938) (bK H7 HV A7):=e9 Eg (by kernel_rfl) aH fun y=>by kernel_rfl
abbrev wC:Shape:=⟨[dK 2 2 0,dK 3 3 0],[dJ 2 [ic],dJ 3 [dh]],17⟩
abbrev Bt:List bh:=[(.norm,⟨[dK 2 2 0],[dJ 2 [ic]],17⟩),(.ret,⟨[dK 2 2 0],[dJ 2 [ic]],17⟩)]
noncomputable def qw(x:G)(y:wC.F):cq wC Bt:=
(A7 (((),(),x,()),(y.2.1.1,()),((IntKind.i64.wrap (y.2.2.1.1+(1:Int))),()),())).bind fun a=>
 bif a.1.2.2.1 then
 some (.inr (.inr (((),()),(false,()),())))
else
 some (.inl (((),(),()),(a.2.1.1,()),(a.2.2.1.1,()),()))
noncomputable def s6(y:wC.F):Option (a7 Bt):=
 some (.inl (((),()),(y.2.1.1,()),()))
theorem W5:bx ao (aU (codeOf Tryz.f193) 1 58) (ql 257 6 wC Bt qw s6):=Gh (eI:=7) Eg Ky (by kernel_rfl) (bR VF aH) (by kernel_rfl) (fun x y=>by kernel_rfl) fun y=>by kernel_rfl
abbrev i193:Shape:=⟨[bc 0],[],17⟩
abbrev Lt:Shape:=⟨[dK 2 2 0],[dJ 2 [ic]],17⟩
noncomputable def f193(a:i193.F):Option Lt.F:=
(bif Nat.ble a.1.1.length ke then hY qw s6 (cS (47:UInt8) a.1.1) (((),(),()),(false,()),((0:Int),()),()) else none).bind fun b=>
(match b with
|.inl c=>
 some (((),()),(true,()),())
|.inr d=>
 some (((),()),(d.2.1.1,()),()))
noncomputable def D6:bp:=bN aV Tryz.f193 i193 Lt [] f193
theorem z193:bu ao 193 D6:=bP Eg Tryz.func193 (by kernel_rfl) (bR W5 aH) (fun y=>by kernel_rfl) fun a=>by kernel_rfl
abbrev i229:Shape:=⟨[(0,.ak (.d (.int .u8)))],[],9⟩
abbrev Ll:Shape:=⟨[a6 2],[],9⟩
noncomputable def f229(a:i229.F):Option Ll.F:=
 bif(decide (a.1.1>=(32:Int))) then
 some (((decide (a.1.1<=(126:Int))),()),())
else
 some ((false,()),())
noncomputable def MJ:bp:=bN aV Tryz.f229 i229 Ll [] f229
theorem z229:bu ao 229 MJ:=bP g0 Tryz.func229 (by kernel_rfl) aH (fun y=>by kernel_rfl) fun a=>by kernel_rfl
noncomputable abbrev aa0:cb:=[(229,MJ)]
theorem Ef:bG ao (b9 aV aa0):=b8 ⟨z229,⟨⟩⟩
abbrev G':Shape:=⟨[bc 0,aj 3,aj 8,aj 9],[],24⟩
abbrev G2:List bh:=[(.norm,⟨[bc 0,aj 8,aj 9,a6 22],[],24⟩)]
noncomputable def Ao(y:G'.F):Option (a7 G2):=
(bf y.1.1 y.1.2.1).bind fun a=>
(f229 (((a.toNat:Int),()),())).bind fun b=>
 bif(!b.1.1) then
(bf y.1.1 y.1.2.1).bind fun c=>
 some ((y.1.1,y.1.2.2.1,y.1.2.2.2.1,((c.toNat:Int) !=(10:Int)),()),())
else
 some ((y.1.1,y.1.2.2.1,y.1.2.2.2.1,false,()),())
theorem T9:bx ao (aU (eH (aU (codeOf Tryz.f194) 1 58)) 116 7474) (bK G' G2 Ao):=e9 Ef (by kernel_rfl) aH fun y=>by kernel_rfl
abbrev wB:Shape:=⟨[bc 0,aj 8,aj 9],[],24⟩
abbrev Bs:List bh:=[(.ret,⟨[a6 2],[],24⟩),(.exit 0,⟨[],[],24⟩)]
noncomputable def w8(y:wB.F):cq wB Bs:=
 bif(decide (y.1.2.2.1<y.1.2.1)) then
(Ao ((y.1.1,y.1.2.2.1,y.1.2.1,y.1.2.2.1,()),())).bind fun a=>
 bif a.1.2.2.2.1 then
 some (.inr (.inl ((false,()),())))
else
 some (.inl ((a.1.1,a.1.2.1,(IntKind.i64.wrap (a.1.2.2.1+(1:Int))),()),()))
else
 some (.inr (.inr ((),())))
noncomputable def BX:wB.F->Option (a7 Bs):=bH w8
theorem W4:bx ao (aU (codeOf Tryz.f194) 1 58) (bK wB Bs BX):=cG Ef (by kernel_rfl) (bR T9 aH) fun y=>by kernel_rfl
abbrev i194:Shape:=⟨[bc 0],[],24⟩
abbrev Ls:Shape:=⟨[a6 2],[],24⟩
noncomputable def f194(a:i194.F):Option Ls.F:=
 bif(decide ((a.1.1.length:Int)>(80:Int))) then
 some ((false,()),())
else
(BX ((a.1.1,(a.1.1.length:Int),(0:Int),()),())).bind fun b=>
(match b with
|.inl c=>
 some ((c.1.1,()),())
|.inr d=>
 some ((true,()),()))
noncomputable def MR:bp:=bN aV Tryz.f194 i194 Ls [] f194
theorem z194:bu ao 194 MR:=bP Ef Tryz.func194 (by kernel_rfl) (bR W4 aH) (fun y=>by kernel_rfl) fun a=>by kernel_rfl
noncomputable abbrev abb:cb:=[(193,D6),(194,MR)]
theorem Np:bG ao (b9 aV abb):=b8 ⟨z193,z194,⟨⟩⟩
abbrev IR:Shape:=⟨[dK 1 1 0],[dJ 1 [bY,dh,dh,bY]],39⟩
abbrev IK:List bh:=[(.norm,⟨[dK 1 1 0,a6 16],[dJ 1 [bY,dh,dh,bY]],39⟩)]
noncomputable def Cb(y:IR.F):Option (a7 IK):=
(f193 ((y.2.1.1,()),())).bind fun a=>
 bif(!(!a.2.1.1)) then
 bif(!(decide (y.2.1.2.2.1<(0:Int)))) then
 some (((),(decide (y.2.1.2.2.1>(7:Int))),()),(y.2.1.1,y.2.1.2.1,y.2.1.2.2.1,y.2.1.2.2.2.1,()),())
else
 some (((),true,()),(y.2.1.1,y.2.1.2.1,y.2.1.2.2.1,y.2.1.2.2.2.1,()),())
else
 some (((),true,()),(y.2.1.1,y.2.1.2.1,y.2.1.2.2.1,y.2.1.2.2.2.1,()),())
theorem Xb:bx ao (aU (codeOf Tryz.f136) 1 12) (bK IR IK Cb):=e9 Np (by kernel_rfl) aH fun y=>by kernel_rfl
abbrev i136:Shape:=⟨[e7 0 [bY,dh,dh,bY]],[],39⟩
abbrev LJ:Shape:=⟨[a6 2],[],39⟩
noncomputable def f136(a:i136.F):Option LJ.F:=
(Cb (((),()),(a.1.1.1,a.1.1.2.1,a.1.1.2.2.1,a.1.1.2.2.2.1,()),())).bind fun b=>
 bif b.1.2.1 then
 some ((false,()),())
else
 bif(b.2.1.2.1==(1:Int)) then
 some (((b.2.1.2.2.2.1==([]:G)),()),())
else
 bif(b.2.1.2.1==(2:Int)) then
(f194 ((b.2.1.2.2.2.1,()),())).bind fun c=>
 some ((c.1.1,()),())
else
 bif(b.2.1.2.1==(3:Int)) then
 bif(b.2.1.2.2.1==(0:Int)) then
(f193 ((b.2.1.2.2.2.1,()),())).bind fun d=>
 some ((d.2.1.1,()),())
else
 some ((false,()),())
else
 some ((false,()),())
noncomputable def M2:bp:=bN aV Tryz.f136 i136 LJ [] f136
theorem _r:bu ao 136 M2:=bP Np Tryz.func136 (by kernel_rfl) (bR Xb aH) (fun y=>by kernel_rfl) fun a=>by kernel_rfl
abbrev i304:Shape:=⟨[(0,.ak (.d (.int .u8)))],[],29⟩
abbrev K':Shape:=⟨[a6 2],[],29⟩
noncomputable def f304(a:i304.F):Option K'.F:=
 bif(decide (a.1.1>=(97:Int))) then
 bif(!(decide (a.1.1<=(122:Int)))) then
 bif(decide (a.1.1>=(48:Int))) then
 bif(!(decide (a.1.1<=(57:Int)))) then
 bif(!(a.1.1==(46:Int))) then
 bif(!(a.1.1==(95:Int))) then
 some (((a.1.1==(45:Int)),()),())
else
 some ((true,()),())
else
 some ((true,()),())
else
 some ((true,()),())
else
 bif(!(a.1.1==(46:Int))) then
 bif(!(a.1.1==(95:Int))) then
 some (((a.1.1==(45:Int)),()),())
else
 some ((true,()),())
else
 some ((true,()),())
else
 some ((true,()),())
else
 bif(decide (a.1.1>=(48:Int))) then
 bif(!(decide (a.1.1<=(57:Int)))) then
 bif(!(a.1.1==(46:Int))) then
 bif(!(a.1.1==(95:Int))) then
 some (((a.1.1==(45:Int)),()),())
else
 some ((true,()),())
else
 some ((true,()),())
else
 some ((true,()),())
else
 bif(!(a.1.1==(46:Int))) then
 bif(!(a.1.1==(95:Int))) then
 some (((a.1.1==(45:Int)),()),())
else
 some ((true,()),())
else
 some ((true,()),())
noncomputable def Mx:bp:=bN aV Tryz.f304 i304 K' [] f304
theorem Z8:bu ao 304 Mx:=bP g0 Tryz.func304 (by kernel_rfl) aH (fun y=>by kernel_rfl) fun a=>by kernel_rfl
noncomputable abbrev aaM:cb:=[(91,pU),(304,Mx)]
theorem Nh:bG ao (b9 aV aaM):=b8 ⟨z91,Z8,⟨⟩⟩
abbrev wl:Shape:=⟨[bc 0,aj 3],[],26⟩
abbrev Bi:List bh:=[(.ret,⟨[a6 2],[],26⟩),(.exit 0,⟨[bc 0],[],26⟩)]
noncomputable def w0(y:wl.F):cq wl Bi:=
 bif(decide (y.1.2.1<(y.1.1.length:Int))) then
(bf y.1.1 y.1.2.1).bind fun a=>
(f304 (((a.toNat:Int),()),())).bind fun b=>
 bif(!b.1.1) then
 some (.inr (.inl ((false,()),())))
else
 some (.inl ((y.1.1,(IntKind.i64.wrap (y.1.2.1+(1:Int))),()),()))
else
 some (.inr (.inr ((y.1.1,()),())))
noncomputable def BP:wl.F->Option (a7 Bi):=bH w0
theorem WS:bx ao (aU (codeOf Tryz.f285) 1 26) (bK wl Bi BP):=cG Nh (by kernel_rfl) aH fun y=>by kernel_rfl
abbrev i285:Shape:=⟨[bc 0],[],26⟩
abbrev Lb:Shape:=⟨[a6 2],[],26⟩
noncomputable def f285(a:i285.F):Option Lb.F:=
(BP ((a.1.1,(0:Int),()),())).bind fun b=>
(match b with
|.inl c=>
 some ((c.1.1,()),())
|.inr d=>
(f91 (((d.1.1.length:Int),(1:Int),(10:Int),()),())).bind fun e=>
 bif e.1.1 then
 bif(!(d.1.1==([46]:G))) then
 some (((!(d.1.1==([46,46]:G))),()),())
else
 some ((false,()),())
else
 some ((false,()),()))
noncomputable def Mz:bp:=bN aV Tryz.f285 i285 Lb [] f285
theorem Z_:bu ao 285 Mz:=bP Nh Tryz.func285 (by kernel_rfl) (bR WS aH) (fun y=>by kernel_rfl) fun a=>by kernel_rfl
noncomputable abbrev aaQ:cb:=[(89,Fc),(285,Mz)]
theorem Nj:bG ao (b9 aV aaQ):=b8 ⟨Nv,Z_,⟨⟩⟩
abbrev wu:Shape:=⟨[b3 3 3000192,aj 4],[cL 3000192 .str 3 0],25⟩
abbrev Bm:List bh:=[(.ret,⟨[a6 2],[],25⟩),(.exit 0,⟨[b3 3 3000192],[cL 3000192 .str 3 0],25⟩)]
noncomputable def w4(y:wu.F):cq wu Bm:=
 bif(decide (y.1.2.1<(y.2.1.length:Int))) then
(e0 y.2.1.length y.1.2.1).bind fun a=>
(y.2.1[a]?).bind fun b=>
(f285 ((b,()),())).bind fun c=>
 bif(!c.1.1) then
 some (.inr (.inl ((false,()),())))
else
 some (.inl (((),(IntKind.i64.wrap (y.1.2.1+(1:Int))),()),y.2.1,()))
else
 some (.inr (.inr (((),()),y.2.1,())))
noncomputable def BT:wu.F->Option (a7 Bm):=bH w4
theorem WW:bx ao (aU (codeOf Tryz.f252) 1 58) (bK wu Bm BT):=cG Nj (by kernel_rfl) aH fun y=>by kernel_rfl
abbrev i252:Shape:=⟨[bc 0],[],25⟩
abbrev Lg:Shape:=⟨[a6 2],[],25⟩
noncomputable def f252(a:i252.F):Option Lg.F:=
(f89 ((a.1.1,(47:Int),(IntKind.i64.wrap ((a.1.1.length:Int)+(1:Int))),()),())).bind fun b=>
(BT (((),(0:Int),()),b.2.1,())).bind fun c=>
(match c with
|.inl d=>
 some ((d.1.1,()),())
|.inr e=>
 some (((decide ((e.2.1.length:Int)<=(5:Int))),()),()))
noncomputable def ME:bp:=bN aV Tryz.f252 i252 Lg [] f252
theorem _d:bu ao 252 ME:=bP Nj Tryz.func252 (by kernel_rfl) (bR WW aH) (fun y=>by kernel_rfl) fun a=>by kernel_rfl
noncomputable abbrev aaP:cb:=[(91,pU)]
theorem Ee:bG ao (b9 aV aaP):=b8 ⟨z91,⟨⟩⟩
abbrev H6:Shape:=⟨[bc 0,aj 3],[],25⟩
abbrev HU:List bh:=[(.norm,⟨[bc 0,aj 3,a6 21],[],25⟩)]
noncomputable def A5(y:H6.F):Option (a7 HU):=
(bf y.1.1 y.1.2.1).bind fun a=>
 bif((a.toNat:Int) !=(10:Int)) then
(bf y.1.1 y.1.2.1).bind fun b=>
(f91 (((IntKind.i64.wrap (b.toNat:Int)),(32:Int),(126:Int),()),())).bind fun c=>
 some ((y.1.1,y.1.2.1,(!c.1.1),()),())
else
 some ((y.1.1,y.1.2.1,false,()),())
theorem VC:bx ao (aU (eH (aU (codeOf Tryz.f253) 1 26)) 52 840) (bK H6 HU A5):=e9 Ee (by kernel_rfl) aH fun y=>by kernel_rfl
abbrev wq:Shape:=⟨[bc 0,aj 3],[],25⟩
abbrev Bl:List bh:=[(.ret,⟨[a6 2],[],25⟩),(.exit 0,⟨[bc 0],[],25⟩)]
noncomputable def w3(y:wq.F):cq wq Bl:=
 bif(decide (y.1.2.1<(y.1.1.length:Int))) then
(A5 ((y.1.1,y.1.2.1,()),())).bind fun a=>
 bif a.1.2.2.1 then
 some (.inr (.inl ((false,()),())))
else
 some (.inl ((a.1.1,(IntKind.i64.wrap (a.1.2.1+(1:Int))),()),()))
else
 some (.inr (.inr ((y.1.1,()),())))
noncomputable def BS:wq.F->Option (a7 Bl):=bH w3
theorem WV:bx ao (aU (codeOf Tryz.f253) 1 26) (bK wq Bl BS):=cG Ee (by kernel_rfl) (bR VC aH) fun y=>by kernel_rfl
abbrev i253:Shape:=⟨[bc 0],[],25⟩
abbrev Lf:Shape:=⟨[a6 2],[],25⟩
noncomputable def f253(a:i253.F):Option Lf.F:=
(BS ((a.1.1,(0:Int),()),())).bind fun b=>
(match b with
|.inl c=>
 some ((c.1.1,()),())
|.inr d=>
 some (((decide ((d.1.1.length:Int)<=(80:Int))),()),()))
noncomputable def MD:bp:=bN aV Tryz.f253 i253 Lf [] f253
theorem _c:bu ao 253 MD:=bP Ee Tryz.func253 (by kernel_rfl) (bR WV aH) (fun y=>by kernel_rfl) fun a=>by kernel_rfl
noncomputable abbrev aaY:cb:=[(91,pU),(252,ME),(253,MD)]
theorem abp:bG ao (b9 aV aaY):=b8 ⟨z91,_d,_c,⟨⟩⟩
abbrev i210:Shape:=⟨[e7 0 [bY,dh,dh,bY]],[],42⟩
abbrev Lq:Shape:=⟨[a6 2],[],42⟩
noncomputable def f210(a:i210.F):Option Lq.F:=
(f252 ((a.1.1.1,()),())).bind fun b=>
 bif(!b.1.1) then
 some ((false,()),())
else
 bif(a.1.1.2.1==(1:Int)) then
(f91 ((a.1.1.2.2.1,(0:Int),(7:Int),()),())).bind fun c=>
 bif c.1.1 then
 some (((a.1.1.2.2.2.1==([]:G)),()),())
else
 some ((false,()),())
else
 bif(a.1.1.2.1==(2:Int)) then
(f91 ((a.1.1.2.2.1,(0:Int),(7:Int),()),())).bind fun d=>
 bif d.1.1 then
(f253 ((a.1.1.2.2.2.1,()),())).bind fun e=>
 some ((e.1.1,()),())
else
 some ((false,()),())
else
 bif(a.1.1.2.1==(3:Int)) then
 bif(a.1.1.2.2.1==(0:Int)) then
(f252 ((a.1.1.2.2.2.1,()),())).bind fun f=>
 some ((f.1.1,()),())
else
 some ((false,()),())
else
 some ((false,()),())
noncomputable def MP:bp:=bN aV Tryz.f210 i210 Lq [] f210
theorem z210:bu ao 210 MP:=bP abp Tryz.func210 (by kernel_rfl) aH (fun y=>by kernel_rfl) fun a=>by kernel_rfl
def kb(n:Int):Bool:=(decide (97<=n)&&decide (n<=122))||(decide (48<=n)&&decide (n<=57))||n==46||n==95||n==45
theorem Tv(a):f304 a=some ((kb a.1.1,()),()):=by
 obtain⟨⟨n,u⟩,bW⟩:=a;simp only[f304,kb,ge_iff_le];generalize decide ((97:Int)<=n)=aX;generalize decide (n<=(122:Int))=aG;generalize decide ((48:Int)<=n)=bU;generalize decide (n<=(57:Int))=kC;generalize(n==(46:Int))=vd;generalize(n==(95:Int))=FG;generalize(n==(45:Int))=FF;cases aX<;>cases aG<;>cases bU<;>cases kC<;>cases vd<;>cases FG<;>cases FF<;>rfl
theorem Se(a):f293 a=some ((kb a.1.1,()),()):=by
 obtain⟨⟨n,u⟩,bW⟩:=a;simp only[f293,kb,ge_iff_le];generalize decide ((97:Int)<=n)=aX;generalize decide (n<=(122:Int))=aG;generalize decide ((48:Int)<=n)=bU;generalize decide (n<=(57:Int))=kC;generalize(n==(46:Int))=vd;generalize(n==(95:Int))=FG;generalize(n==(45:Int))=FF;cases aX<;>cases aG<;>cases bU<;>cases kC<;>cases vd<;>cases FG<;>cases FF<;>rfl
def kl(s:G):Bool:=s.all (fun b=>kb b.toNat)&&within s.length 1 10&&!(s==[46])&&!(s==[46,46])
theorem U3(a)(L:cZ a.1.1.length):f285 a=some ((kl a.1.1,()),()):=by
 obtain⟨⟨s,u⟩,bW⟩:=a;have L:s.length<=2097152:=L;have key:BP ((s,((0:Int),())),())=some (bif allI (fun _ b=>kb b.toNat) 0 s then .inr ((s,()),()) else .inl ((false,()),())):=by
  refine hi w0 s (fun i=>((s,((i:Int),())),())) _ _ _ (fun i x hx=>?_) ?_
  ·have af:=c8 hx;have hw:aN i:=by unfold aN;omega
   simp only[w0,cU af,cond_true,cI,hx,Option.bind_some,Tv,cH hw];cases kb x.toNat<;>rfl
  ·simp only[w0,du,cond_false]
 rw[ig] at key;simp only[f285,key,Option.bind_some,kl];cases List.all s (fun b=>kb b.toNat) with
 |false=>rfl
 |true=>
  simp only[cond_true,qD,Option.bind_some,Bool.true_and];cases within (s.length:Int) 1 10<;>cases (s==[46])<;>rfl
theorem U1(a)(L:cZ a.1.1.length):f228 a=some ((kl a.1.1,()),()):=by
 obtain⟨⟨s,u⟩,bW⟩:=a;have L:s.length<=2097152:=L;have key:BR ((s,((s.length:Int),((0:Int),()))),())=some (bif allI (fun _ b=>kb b.toNat) 0 s then .inr ((s,()),()) else .inl ((false,()),())):=by
  refine hi w1 s (fun i=>((s,((s.length:Int),((i:Int),()))),())) _ _ _ (fun i x hx=>?_) ?_
  ·have af:=c8 hx;have hw:aN i:=by unfold aN;omega
   simp only[w1,cU af,cond_true,cI,hx,Option.bind_some,Se,cH hw];cases kb x.toNat<;>rfl
  ·simp only[w1,du,cond_false]
 rw[ig] at key;have uB:f267 ((s,()),())=some ((List.all s (fun b=>kb b.toNat)&&!(s==([]:G)),()),()):=by
  simp only[f267,key,Option.bind_some];cases List.all s (fun b=>kb b.toNat)<;>rfl
 have h1:decide ((1:Int)<=(s.length:Int))=!(s==([]:G)):=by
  cases s with
  |nil=>rfl
  |cons b r=>
   have:((b::r)==([]:G))=false:=rfl;simp only[List.length_cons];rw[this];simp only[Bool.not_false,decide_eq_true_eq];omega
 simp only[f228,uB,Option.bind_some,kl,within,h1];cases decide ((s.length:Int)<=10)<;>cases (s==[46])<;>cases (s==[46,46])<;>cases List.all s (fun b=>kb b.toNat)<;>cases (s==([]:G))<;>rfl
def iK(s:G):Bool:=(cS 47 s).all kl&&decide ((cS 47 s).length<=5)
theorem HK(a)(L:cZ a.1.1.length):f252 a=some ((iK a.1.1,()),()):=by
 obtain⟨⟨s,u⟩,bW⟩:=a;have L:s.length<=2097152:=L;have hlen:=zT 47 s;have jp:f89 ((s,((47:Int),((IntKind.i64.wrap ((s.length:Int)+(1:Int))),()))),())=some (((),()),(cS 47 s,())):=
  Iz 47 _ L rfl (cH (by unfold aN;omega))
 have key:BT (((),((0:Int),())),(cS 47 s,()))=some (bif allI (fun _ x=>kl x) 0 (cS 47 s) then .inr (((),()),(cS 47 s,())) else .inl ((false,()),())):=by
  refine hi w4 (cS 47 s) (fun i=>(((),((i:Int),())),(cS 47 s,()))) _ _ _ (fun i x hx=>?_) ?_
  ·have af:=c8 hx;have hw:aN i:=by unfold aN;omega
   have k7:x.length<=s.length:=vn 47 s x (List.mem_of_getElem? hx);simp only[w4,cU af,cond_true,mc af,hx,Option.bind_some];rw[U3 _ (show x.length<=2097152 by omega)]
   simp only[Option.bind_some,cH hw];cases kl x<;>rfl
  ·simp only[w4,du,cond_false]
 rw[ig] at key;simp only[f252,jp,Option.bind_some,key,iK];cases List.all (cS 47 s) kl with
 |false=>rfl
 |true=>have:=yF (cS 47 s).length 5;simp only[cond_true,Bool.true_and];rw[<-this];rfl
theorem Az(a)(L:cZ a.1.1.length):f193 a=some (((),()),((iK a.1.1,()),())):=by
 obtain⟨⟨s,u⟩,bW⟩:=a;have L:s.length<=2097152:=L;have DU:Nat.ble s.length ke=true:=Nat.ble_eq_true_of_le (by unfold ke;omega)
 have fold:∀(r:List G) (k:Nat),(∀x,x∈r->x.length<=s.length)->k<=5->
   hY qw s6 r (((),((),())),((false,()),(((k:Int),()),())))=
    some (bif r.all kl&&decide (k+r.length<=5) then(.inl (((),()),((false,()),()))) else(.inr (((),()),((false,()),())))):=by
  intro r;induction r with
  |nil=>
   intro k _ ah;have:decide (k+0<=5)=true:=by simpa using ah
   simp only[hY,s6,List.all_nil,List.length_nil,this,Bool.and_self,cond_true]
  |cons x r ih=>
   intro k hr ah;have hx:=hr x List.mem_cons_self;have kr:=U1 ((x,()),()) (show x.length<=2097152 by omega)
   have hw:=cH (i:=k) (by unfold aN;omega)
   have uD:decide (((k+1:Nat):Int)>5)=!decide (k+1<=5):=by by_cases h:k+1<=5<;>simp only[h,decide_true,decide_false,Bool.not_true,Bool.not_false,decide_eq_true_eq,decide_eq_false_iff_not]<;>omega
   have step:qw x (((),((),())),((false,()),(((k:Int),()),())))=
     some (bif kl x&&decide (k+1<=5) then .inl (((),((),())),((false,()),((((k+1:Nat):Int),()),()))) else .inr (.inr (((),()),((false,()),())))):=by
    simp only[qw,A7,hw,uD,Bool.not_not,kr,Option.bind_some];cases decide (k+1<=5) with
    |false=>cases kl x<;>rfl
    |true=>cases kl x<;>rfl
   rw[hY,step,List.all_cons];cases hn:kl x with
   |false=>rfl
   |true=>
    simp only[Bool.true_and];cases aD:decide (k+1<=5) with
    |false=>
     have:decide (k+(x::r).length<=5)=false:=by simp only[decide_eq_false_iff_not,List.length_cons] at aD ⊢;omega
     rw[this];simp
    |true=>
     simp only[cond_true];rw[ih (k+1) (fun y aq=>hr y (List.mem_cons_of_mem _ aq)) (by simpa using aD)]
     have e1:k+1+r.length=k+(x::r).length:=by simp only[List.length_cons];omega
     rw[e1]
 have key:=fold (cS (47:UInt8) s) 0 (fun x hx=>vn 47 s x hx) (Nat.zero_le _)
 have DF:hY qw s6 (cS (47:UInt8) s) (((),((),())),((false,()),(((0:Int),()),())))=some (bif iK s then(.inl (((),()),((false,()),()))) else(.inr (((),()),((false,()),())))):=by
  refine key.trans ?_
  unfold iK;rw[Nat.zero_add]
 simp only[f193,DU,cond_true,DF,Option.bind_some];cases iK s<;>rfl
def ta(s:G):Bool:=s.all (fun b=>(b.toNat:Int)==10||within b.toNat 32 126)&&decide (s.length<=80)
theorem Th(b:UInt8):IntKind.i64.wrap (b.toNat:Int)=(b.toNat:Int):=by
 have:=b.toNat_lt;rw[fr (by omega) (by omega)]
theorem U2(a)(L:cZ a.1.1.length):f253 a=some ((ta a.1.1,()),()):=by
 obtain⟨⟨s,u⟩,bW⟩:=a;have L:s.length<=2097152:=L;have key:BS ((s,((0:Int),())),())=some (bif allI (fun _ b=>(b.toNat:Int)==10||within b.toNat 32 126) 0 s then .inr ((s,()),()) else .inl ((false,()),())):=by
  refine hi w3 s (fun i=>((s,((i:Int),())),())) _ _ _ (fun i x hx=>?_) ?_
  ·have af:=c8 hx;have hw:aN i:=by unfold aN;omega
   have cF:((x.toNat:Int) !=10)=!((x.toNat:Int)==10):=rfl;simp only[w3,cU af,cond_true,A5,cI,hx,Option.bind_some,cF,qD,Th];cases ((x.toNat:Int)==10)<;>cases within (x.toNat:Int) 32 126<;>simp only[Bool.not_true,Bool.not_false,cond_true,cond_false,Option.bind_some,cH hw,Bool.or_true,Bool.true_or,Bool.or_false]
  ·simp only[w3,du,cond_false]
 rw[ig] at key;simp only[f253,key,Option.bind_some,ta];cases List.all s (fun b=>(b.toNat:Int)==10||within b.toNat 32 126) with
 |false=>rfl
 |true=>have:=yF s.length 80;simp only[cond_true,Bool.true_and];rw[<-this];rfl
theorem Rt(a):f229 a=some ((within a.1.1 32 126,()),()):=by
 simp only[f229,within,ge_iff_le];cases decide ((32:Int)<=a.1.1)<;>rfl
theorem Sg(a)(L:cZ a.1.1.length):f194 a=some ((ta a.1.1,()),()):=by
 obtain⟨⟨s,u⟩,bW⟩:=a;have L:s.length<=2097152:=L;have key:BX ((s,((s.length:Int),((0:Int),()))),())=some (bif allI (fun _ b=>(b.toNat:Int)==10||within b.toNat 32 126) 0 s then .inr ((),()) else .inl ((false,()),())):=by
  refine hi w8 s (fun i=>((s,((s.length:Int),((i:Int),()))),())) _ _ _ (fun i x hx=>?_) ?_
  ·have af:=c8 hx;have hw:aN i:=by unfold aN;omega
   have cF:((x.toNat:Int) !=10)=!((x.toNat:Int)==10):=rfl;simp only[w8,cU af,cond_true,Ao,cI,hx,Option.bind_some,cF,Rt];cases ((x.toNat:Int)==10)<;>cases within (x.toNat:Int) 32 126<;>simp only[Bool.not_true,Bool.not_false,cond_true,cond_false,Option.bind_some,cH hw,Bool.or_true,Bool.true_or,Bool.or_false]
  ·simp only[w8,du,cond_false]
 rw[ig] at key;have adE:decide ((s.length:Int)>80)=!decide (s.length<=80):=by by_cases h:s.length<=80<;>simp only[h,decide_true,decide_false,Bool.not_true,Bool.not_false,decide_eq_true_eq,decide_eq_false_iff_not]<;>omega
 simp only[f194,key,Option.bind_some,ta,adE];cases decide (s.length<=80)<;>cases List.all s (fun b=>(b.toNat:Int)==10||within b.toNat 32 126)<;>rfl
def og(e:bM):Bool:=iK e.path&&(bif e.kind==1 then within e.mode 0 7&&e.text==[] else bif e.kind==2 then within e.mode 0 7&&ta e.text else bif e.kind==3 then e.mode==0&&iK e.text else false)
abbrev aeQ(e:bM):Prop:=cZ e.path.length/\cZ e.text.length
theorem Tu(a)(h1:cZ a.1.1.1.length)(h2:cZ a.1.1.2.2.2.1.length):f210 a=some ((og ⟨a.1.1.1,a.1.1.2.1,a.1.1.2.2.1,a.1.1.2.2.2.1⟩,()),()):=by
 obtain⟨⟨⟨p,k,m,t,u⟩,bW⟩,ou⟩:=a;have e1:=HK ((p,()),()) h1;have e2:=HK ((t,()),()) h2;have cf:=U2 ((t,()),()) h2;simp only[f210,e1,e2,cf,qD,Option.bind_some,og];cases iK p with
 |false=>rfl
 |true=>cases (k==1)<;>cases (k==2)<;>cases (k==3)<;>cases within m 0 7<;>cases (m==0)<;>rfl
theorem TC(a)(h1:cZ a.1.1.1.length)(h2:cZ a.1.1.2.2.2.1.length):f136 a=some ((og ⟨a.1.1.1,a.1.1.2.1,a.1.1.2.2.1,a.1.1.2.2.2.1⟩,()),()):=by
 obtain⟨⟨⟨p,k,m,t,u⟩,bW⟩,ou⟩:=a;have e1:=Az ((p,()),()) h1;have e2:=Az ((t,()),()) h2;have cf:=Sg ((t,()),()) h2;have hm:within m 0 7=true\/(m==0)=false:=by
  cases h:(m==0) with
  |false=>exact .inr rfl
  |true=>left;rw[show m=(0:Int) from eq_of_beq h];rfl
 simp only[f136,Cb,e1,e2,cf,Option.bind_some,og,oH,oI,Bool.not_not];unfold within at hm ⊢;cases iK p with
 |false=>rfl
 |true=>
  cases aQ:decide ((0:Int)<=m)<;>cases lj:decide (m<=7)<;>rw[aQ,lj] at hm<;>cases OQ:(m==0)<;>rw[OQ] at hm<;>
   first|(simp at hm;done)|(simp only[Bool.not_true,Bool.not_false,cond_true,cond_false,Option.bind_some,OQ,e2,cf,Bool.and_true,Bool.and_false,Bool.true_and,Bool.false_and];cases (k==1)<;>cases (k==2)<;>cases (k==3)<;>rfl)
abbrev i175:Shape:=⟨[bc 0],[],6⟩
abbrev Ly:Shape:=⟨[a6 2],[],6⟩
noncomputable def f175(a:i175.F):Option Ly.F:=
 some (((!(a.1.1==a.1.1)),()),())
noncomputable def MW:bp:=bN aV Tryz.f175 i175 Ly [] f175
theorem z175:bu ao 175 MW:=bP g0 Tryz.func175 (by kernel_rfl) aH (fun y=>by kernel_rfl) fun a=>by kernel_rfl
noncomputable abbrev abh:cb:=[(175,MW)]
theorem aby:bG ao (b9 aV abh):=b8 ⟨z175,⟨⟩⟩
abbrev i110:Shape:=⟨[bc 0,bc 1],[],20⟩
abbrev LX:Shape:=⟨[aj 4],[],20⟩
noncomputable def f110(a:i110.F):Option LX.F:=
(f175 ((a.1.1,()),())).bind fun b=>
(f175 ((a.1.2.1,()),())).bind fun c=>
 bif b.1.1 then
 bif c.1.1 then
 some (((0:Int),()),())
else
 some ((((-1):Int),()),())
else
 bif c.1.1 then
 some (((1:Int),()),())
else
 bif(Op.bytesLess a.1.1 a.1.2.1) then
 some ((((-1):Int),()),())
else
 bif(!(Op.bytesLess a.1.1 a.1.2.1||a.1.1==a.1.2.1)) then
 some (((1:Int),()),())
else
 some (((0:Int),()),())
noncomputable def Nb:bp:=bN aV Tryz.f110 i110 LX [] f110
theorem _z:bu ao 110 Nb:=bP aby Tryz.func110 (by kernel_rfl) aH (fun y=>by kernel_rfl) fun a=>by kernel_rfl
noncomputable abbrev aa9:cb:=[(110,Nb)]
theorem abv:bG ao (b9 aV aa9):=b8 ⟨_z,⟨⟩⟩
abbrev i139:Shape:=⟨[e7 0 [bY,dh,dh,bY],e7 1 [bY,dh,dh,bY]],[],10⟩
abbrev LH:Shape:=⟨[aj 4],[],10⟩
noncomputable def f139(a:i139.F):Option LH.F:=
(f110 ((a.1.1.1,a.1.2.1.1,()),())).bind fun b=>
 some ((b.1.1,()),())
noncomputable def M0:bp:=bN aV Tryz.f139 i139 LH [] f139
theorem z139:bu ao 139 M0:=bP abv Tryz.func139 (by kernel_rfl) aH (fun y=>by kernel_rfl) fun a=>by kernel_rfl
noncomputable abbrev Y_:cb:=[(139,M0)]
theorem Kc:bG ao (b9 aV Y_):=b8 ⟨z139,⟨⟩⟩
abbrev vA:Shape:=⟨[aW 0 .entry,(2,.ak (.fn 139 [])),dK 4 4 0,aj 6,a6 7,aj 8,aj 9,aj 10],[dJ 4 [bY,dh,dh,bY]],49⟩
abbrev z':List bh:=[(.exit 0,⟨[aW 0 .entry,(2,.ak (.fn 139 [])),dK 4 4 0,aj 6,a6 7,aj 8,aj 9],[dJ 4 [bY,dh,dh,bY]],49⟩)]
noncomputable def vI(y:vA.F):cq vA z':=
 bif(decide (y.1.2.2.2.2.2.2.1<y.1.2.2.2.2.2.2.2.1)) then
(pm .u64 (IntKind.u64.wrap (IntKind.i64.wrap (y.1.2.2.2.2.2.2.1+y.1.2.2.2.2.2.2.2.1))) (1:Int)).bind fun a=>
(bf y.1.1 (IntKind.i64.wrap a)).bind fun b=>
(f139 (((b.path,b.kind,b.mode,b.text,()),(y.2.1.1,y.2.1.2.1,y.2.1.2.2.1,y.2.1.2.2.2.1,()),()),())).bind fun c=>
 bif(decide (c.1.1<(0:Int))) then
 some (.inl ((y.1.1,(),(),y.1.2.2.2.1,y.1.2.2.2.2.1,y.1.2.2.2.2.2.1,(IntKind.i64.wrap ((IntKind.i64.wrap a)+(1:Int))),y.1.2.2.2.2.2.2.2.1,()),(y.2.1.1,y.2.1.2.1,y.2.1.2.2.1,y.2.1.2.2.2.1,()),()))
else
 some (.inl ((y.1.1,(),(),y.1.2.2.2.1,y.1.2.2.2.2.1,y.1.2.2.2.2.2.1,y.1.2.2.2.2.2.2.1,(IntKind.i64.wrap a),()),(y.2.1.1,y.2.1.2.1,y.2.1.2.2.1,y.2.1.2.2.2.1,()),()))
else
 some (.inr ((y.1.1,(),(),y.1.2.2.2.1,y.1.2.2.2.2.1,y.1.2.2.2.2.2.1,y.1.2.2.2.2.2.2.1,()),(y.2.1.1,y.2.1.2.1,y.2.1.2.2.1,y.2.1.2.2.2.1,()),()))
noncomputable def vH:vA.F->Option (a7 z'):=bH vI
theorem Ub:bx ao (aU (codeOf Tryz.f138) 1 60) (bK vA z' vH):=cG Kc (by kernel_rfl) aH fun y=>by kernel_rfl
abbrev JV:Shape:=⟨[aW 0 .entry,e7 1 [bY,dh,dh,bY],(2,.ak (.fn 139 []))],[],49⟩
abbrev JI:Shape:=⟨[aj 6,a6 7],[],49⟩
noncomputable def x3(a:JV.F):Option JI.F:=
(vH ((a.1.1,(),(),(0:Int),false,(a.1.1.length:Int),(0:Int),(a.1.1.length:Int),()),(a.1.2.1.1,a.1.2.1.2.1,a.1.2.1.2.2.1,a.1.2.1.2.2.2.1,()),())).bind fun b=>
 bif(decide (b.1.2.2.2.2.2.2.1<b.1.2.2.2.2.2.1)) then
(bf b.1.1 b.1.2.2.2.2.2.2.1).bind fun c=>
(f139 (((c.path,c.kind,c.mode,c.text,()),(b.2.1.1,b.2.1.2.1,b.2.1.2.2.1,b.2.1.2.2.2.1,()),()),())).bind fun d=>
 some ((b.1.2.2.2.2.2.2.1,(d.1.1==(0:Int)),()),())
else
 some ((b.1.2.2.2.2.2.2.1,false,()),())
noncomputable def J_:bp:=bN aV Tryz.f138 JV JI [] x3
theorem X7:bu ao 138 J_:=bP Kc Tryz.func138 (by kernel_rfl) (bR Ub aH) (fun y=>by kernel_rfl) fun a=>by kernel_rfl
abbrev wI:Shape:=⟨[aW 0 .entry,bc 1,aj 4,a6 5,aj 6],[],36⟩
abbrev qq:List bh:=[(.exit 0,⟨[aW 0 .entry,bc 1,aj 4,a6 5,aj 6],[],36⟩)]
noncomputable def xc(y:wI.F):cq wI qq:=
 bif(decide (y.1.2.2.2.2.1<(y.1.1.length:Int))) then
(bf y.1.1 y.1.2.2.2.2.1).bind fun a=>
 bif(Op.bytesLess a.path y.1.2.1) then
 some (.inl ((y.1.1,y.1.2.1,y.1.2.2.1,y.1.2.2.2.1,(IntKind.i64.wrap (y.1.2.2.2.2.1+(1:Int))),()),()))
else
 some (.inr ((y.1.1,y.1.2.1,y.1.2.2.1,y.1.2.2.2.1,y.1.2.2.2.2.1,()),()))
else
 some (.inr ((y.1.1,y.1.2.1,y.1.2.2.1,y.1.2.2.2.1,y.1.2.2.2.2.1,()),()))
noncomputable def B2:wI.F->Option (a7 qq):=bH xc
theorem W':bx ao (aU (codeOf Tryz.f157) 1 28) (bK wI qq B2):=cG g0 (by kernel_rfl) aH fun y=>by kernel_rfl
abbrev i157:Shape:=⟨[aW 0 .entry,bc 1],[],36⟩
abbrev LD:Shape:=⟨[aj 4,a6 5],[],36⟩
noncomputable def f157(a:i157.F):Option LD.F:=
(B2 ((a.1.1,a.1.2.1,(0:Int),false,(0:Int),()),())).bind fun b=>
 bif(decide (b.1.2.2.2.2.1<(b.1.1.length:Int))) then
(bf b.1.1 b.1.2.2.2.2.1).bind fun c=>
 some ((b.1.2.2.2.2.1,(c.path==b.1.2.1),()),())
else
 some ((b.1.2.2.2.2.1,false,()),())
noncomputable def D':bp:=bN aV Tryz.f157 i157 LD [] f157
theorem z157:bu ao 157 D':=bP g0 Tryz.func157 (by kernel_rfl) (bR W' aH) (fun y=>by kernel_rfl) fun a=>by kernel_rfl
abbrev wm:Shape:=⟨[bc 0,(1,.ak (.d (.int .u8))),aj 5],[],19⟩
abbrev Bj:List bh:=[(.ret,⟨[aj 4],[],19⟩),(.exit 0,⟨[],[],19⟩)]
noncomputable def B7(y:wm.F):cq wm Bj:=
 bif(decide (y.1.2.2.1>=(0:Int))) then
(bf y.1.1 y.1.2.2.1).bind fun a=>
 bif((a.toNat:Int)==y.1.2.1) then
 some (.inr (.inl ((y.1.2.2.1,()),())))
else
 some (.inl ((y.1.1,y.1.2.1,(IntKind.i64.wrap (y.1.2.2.1-(1:Int))),()),()))
else
 some (.inr (.inr ((),())))
noncomputable def BQ:wm.F->Option (a7 Bj):=bH B7
theorem WT:bx ao (aU (codeOf Tryz.f268) 1 26) (bK wm Bj BQ):=cG g0 (by kernel_rfl) aH fun y=>by kernel_rfl
abbrev i268:Shape:=⟨[bc 0,(1,.ak (.d (.int .u8)))],[],19⟩
abbrev Ld:Shape:=⟨[aj 4],[],19⟩
noncomputable def f268(a:i268.F):Option Ld.F:=
(BQ ((a.1.1,a.1.2.1,(IntKind.i64.wrap ((a.1.1.length:Int)-(1:Int))),()),())).bind fun b=>
(match b with
|.inl c=>
 some ((c.1.1,()),())
|.inr d=>
 some ((((-1):Int),()),()))
noncomputable def MB:bp:=bN aV Tryz.f268 i268 Ld [] f268
theorem _a:bu ao 268 MB:=bP g0 Tryz.func268 (by kernel_rfl) (bR WT aH) (fun y=>by kernel_rfl) fun a=>by kernel_rfl
noncomputable abbrev aaU:cb:=[(268,MB)]
theorem abm:bG ao (b9 aV aaU):=b8 ⟨_a,⟨⟩⟩
abbrev i230:Shape:=⟨[bc 0,(1,.ak (.d (.int .u8)))],[],8⟩
abbrev Lk:Shape:=⟨[aj 4],[],8⟩
noncomputable def f230(a:i230.F):Option Lk.F:=
(f268 ((a.1.1,a.1.2.1,()),())).bind fun b=>
 some ((b.1.1,()),())
noncomputable def MI:bp:=bN aV Tryz.f230 i230 Lk [] f230
theorem _g:bu ao 230 MI:=bP abm Tryz.func230 (by kernel_rfl) aH (fun y=>by kernel_rfl) fun a=>by kernel_rfl
noncomputable abbrev aaZ:cb:=[(193,D6),(230,MI)]
theorem abq:bG ao (b9 aV aaZ):=b8 ⟨z193,_g,⟨⟩⟩
abbrev i195:Shape:=⟨[bc 0],[],11⟩
abbrev Lr:Shape:=⟨[bc 2],[],11⟩
noncomputable def f195(a:i195.F):Option Lr.F:=
(f193 ((a.1.1,()),())).bind fun b=>
 bif(!b.2.1.1) then
 some ((([]:G),()),())
else
(f230 ((a.1.1,(47:Int),()),())).bind fun c=>
(cO a.1.1 (0:Int) (gS c.1.1 (0:Int))).bind fun d=>
 some ((d,()),())
noncomputable def MQ:bp:=bN aV Tryz.f195 i195 Lr [] f195
theorem _k:bu ao 195 MQ:=bP abq Tryz.func195 (by kernel_rfl) aH (fun y=>by kernel_rfl) fun a=>by kernel_rfl
noncomputable abbrev aaX:cb:=[(157,D')]
theorem abo:bG ao (b9 aV aaX):=b8 ⟨z157,⟨⟩⟩
abbrev i211:Shape:=⟨[aW 0 .entry,bc 1],[],26⟩
abbrev Lp:Shape:=⟨[a6 4],[],26⟩
noncomputable def f211(a:i211.F):Option Lp.F:=
(f157 ((a.1.1,a.1.2.1,()),())).bind fun b=>
 bif(!(a.1.2.1==([]:G))) then
 bif b.1.2.1 then
(bf a.1.1 b.1.1).bind fun c=>
 some (((c.kind==(1:Int)),()),())
else
 some ((false,()),())
else
 some ((true,()),())
noncomputable def MO:bp:=bN aV Tryz.f211 i211 Lp [] f211
theorem _j:bu ao 211 MO:=bP abo Tryz.func211 (by kernel_rfl) aH (fun y=>by kernel_rfl) fun a=>by kernel_rfl
abbrev wz:Shape:=⟨[bc 0,aj 3],[],18⟩
abbrev Bq:List bh:=[(.ret,⟨[bc 2],[],18⟩),(.exit 0,⟨[],[],18⟩)]
noncomputable def B'(y:wz.F):cq wz Bq:=
 bif(decide (y.1.2.1>=(0:Int))) then
(bf y.1.1 y.1.2.1).bind fun a=>
 bif((a.toNat:Int)==(47:Int)) then
(cO y.1.1 (0:Int) y.1.2.1).bind fun b=>
 some (.inr (.inl ((b,()),())))
else
 some (.inl ((y.1.1,(IntKind.i64.wrap (y.1.2.1-(1:Int))),()),()))
else
 some (.inr (.inr ((),())))
noncomputable def BW:wz.F->Option (a7 Bq):=bH B'
theorem W2:bx ao (aU (codeOf Tryz.f212) 1 26) (bK wz Bq BW):=cG g0 (by kernel_rfl) aH fun y=>by kernel_rfl
abbrev i212:Shape:=⟨[bc 0],[],18⟩
abbrev Lo:Shape:=⟨[bc 2],[],18⟩
noncomputable def f212(a:i212.F):Option Lo.F:=
(BW ((a.1.1,(IntKind.i64.wrap ((a.1.1.length:Int)-(1:Int))),()),())).bind fun b=>
(match b with
|.inl c=>
 some ((c.1.1,()),())
|.inr d=>
 some ((([]:G),()),()))
noncomputable def MN:bp:=bN aV Tryz.f212 i212 Lo [] f212
theorem z212:bu ao 212 MN:=bP g0 Tryz.func212 (by kernel_rfl) (bR W2 aH) (fun y=>by kernel_rfl) fun a=>by kernel_rfl
noncomputable abbrev aei:cb:=[(138,J_)]
theorem aeI:bG ao (b9 aV aei):=b8 ⟨X7,⟨⟩⟩
abbrev i87:Shape:=⟨[aW 0 .entry,bc 1],[],12⟩
abbrev NL:Shape:=⟨[aj 4,a6 5],[],12⟩
noncomputable def f87(a:i87.F):Option NL.F:=
(x3 ((a.1.1,(a.1.2.1,(0:Int),(0:Int),([]:G),()),(),()),())).bind fun b=>
 some ((b.1.1,b.1.2.1,()),())
noncomputable def O4:bp:=bN aV Tryz.f87 i87 NL [] f87
theorem z87:bu ao 87 O4:=bP aeI Tryz.func87 (by kernel_rfl) aH (fun y=>by kernel_rfl) fun a=>by kernel_rfl
theorem qR:∀a:G,Op.bytesLess a a=false:=by
 intro a;induction a with
 |nil=>rfl
 |cons b r ih=>simp[Op.bytesLess,ih]
theorem sU:∀a b c:G,Op.bytesLess a b=true->Op.bytesLess b c=true->Op.bytesLess a c=true:=by
 intro a;induction a with
 |nil=>intro b c h1 h2;cases c with
  |nil=>cases b<;>simp[Op.bytesLess] at h2
  |cons z c=>rfl
 |cons x a ih=>
  intro b c h1 h2;cases b with
  |nil=>simp[Op.bytesLess] at h1
  |cons y b=>
   cases c with
   |nil=>simp[Op.bytesLess] at h2
   |cons z c=>
    simp only[Op.bytesLess,Bool.or_eq_true,decide_eq_true_eq,Bool.and_eq_true,beq_iff_eq] at h1 h2 ⊢;rcases h1 with h1|⟨rfl,h1⟩
    ·rcases h2 with h2|⟨rfl,h2⟩
     ·exact .inl (UInt8.lt_trans h1 h2)
     ·exact .inl h1
    ·rcases h2 with h2|⟨rfl,h2⟩
     ·exact .inl h2
     ·exact .inr ⟨rfl,ih b c h1 h2⟩
theorem J8:∀a b:G,Op.bytesLess a b=false->(a==b)=false->Op.bytesLess b a=true:=by
 intro a;induction a with
 |nil=>intro b h1 h2;cases b with
  |nil=>simp at h2
  |cons y b=>simp[Op.bytesLess] at h1
 |cons x a ih=>
  intro b h1 h2;cases b with
  |nil=>rfl
  |cons y b=>
   simp only[Op.bytesLess,Bool.or_eq_false_iff,decide_eq_false_iff_not,Bool.and_eq_false_iff,beq_eq_false_iff_ne,ne_eq] at h1;simp only[Op.bytesLess,Bool.or_eq_true,decide_eq_true_eq,Bool.and_eq_true,beq_iff_eq];by_cases Ey:x=y
   ·subst Ey;refine .inr ⟨rfl,ih b ?_ ?_⟩
    ·rcases h1.2 with h|h
     ·exact absurd rfl h
     ·exact h
    ·cases h:(a==b) with
     |false=>rfl
     |true=>rw[eq_of_beq h] at h2;simp at h2
   ·exact .inl (by
     have:=h1.1;rcases UInt8.lt_or_lt_of_ne (fun h=>Ey h) with h|h
     ·exact absurd h this
     ·exact h)
theorem X1{a b:G}(h:Op.bytesLess a b=true):Op.bytesLess b a=false:=by
 cases h2:Op.bytesLess b a with
 |false=>rfl
 |true=>have:=sU a b a h h2;rw[qR] at this;cases this
theorem Z0{a b:G}(h:Op.bytesLess a b=true):(a==b)=false:=by
 cases h2:(a==b) with
 |false=>rfl
 |true=>rw[eq_of_beq h2,qR] at h;cases h
theorem X0:∀(s:G) (i:Nat),i<s.length->Op.bytesLess (s.take i) s=true:=by
 intro s;induction s with
 |nil=>intro i h;simp at h
 |cons b r ih=>
  intro i h;cases i with
  |zero=>rfl
  |succ i=>simp only[List.take_succ_cons,Op.bytesLess];simp[ih i (by simpa using h)]
def kK(c:UInt8)(s:G):Nat->Option Nat
 |0=>none
 |n+1=>match s[n]? with
  |some b=>bif(b.toNat:Int)==(c.toNat:Int) then some n else kK c s n
  |none=>none
theorem F6{c:UInt8}{s:G}:∀{n i:Nat},kK c s n=some i->i<n/\i<s.length:=by
 intro n;induction n with
 |zero=>intro i h;cases h
 |succ n ih=>
  intro i h;simp only[kK] at h;split at h
  ·rename_i b hb;cases hc:((b.toNat:Int)==(c.toNat:Int)) with
   |true=>rw[hc] at h;cases h;exact⟨Nat.lt_succ_self _,c8 hb⟩
   |false=>rw[hc] at h;have:=ih h;omega
  ·cases h
def iW(s:G):G:=match kK 47 s s.length with
 |some i=>s.take i
 |none=>[]
theorem U'{s:G}(h:(iW s==[])=false):Op.bytesLess (iW s) s=true:=by
 unfold iW at h ⊢;split
 ·rename_i i af;exact X0 s i (F6 af).2
 ·rename_i af;rw[af] at h;cases h
theorem Yd(a)(L:cZ a.1.1.length):f212 a=some ((iW a.1.1,()),()):=by
 obtain⟨⟨s,u⟩,bW⟩:=a;have L:s.length<=2097152:=L;have key:∀n,n<=s.length->BW ((s,((n:Int)-1,())),())=some (match kK 47 s n with|some i=>.inl ((s.take i,()),())|none=>.inr ((),())):=by
  intro n;induction n with
  |zero=>intro _;exact fH (by rfl)
  |succ n ih=>
   intro hn;have e:((n+1:Nat):Int)-1=(n:Int):=by omega
   obtain⟨b,hb⟩:∃b,s[n]? =some b:=⟨s[n],List.getElem?_eq_getElem hn⟩;have aQ:decide ((n:Int)>=0)=true:=by simp
   rw[e];simp only[kK,hb];cases hc:((b.toNat:Int)==((47:UInt8).toNat:Int)) with
   |true=>
    refine fH ?_
    simp only[B',aQ,cond_true,cI,hb,Option.bind_some];rw[show((b.toNat:Int)==47)=true from hc,qs (by omega)]
    rfl
   |false=>
    refine(gN ?_).trans (ih (by omega))
    simp only[B',aQ,cond_true,cI,hb,Option.bind_some];rw[show((b.toNat:Int)==47)=false from hc,fr (by omega) (by omega)]
    rfl
 have hw:IntKind.i64.wrap ((s.length:Int)-1)=(s.length:Int)-1:=fr (by omega) (by omega)
 simp only[f212,hw,key s.length (Nat.le_refl _),Option.bind_some,iW];cases kK 47 s s.length<;>rfl
theorem Rz(a)(L:cZ a.1.1.length)(adF:a.1.2.1=47):f268 a=some (((match kK 47 a.1.1 a.1.1.length with|some i=>(i:Int)|none=>-1),()),()):=by
 obtain⟨⟨s,c,u⟩,bW⟩:=a;obtain rfl:c=47:=adF;have L:s.length<=2097152:=L;have key:∀n,n<=s.length->BQ ((s,((47:Int),((n:Int)-1,()))),())=some (match kK 47 s n with|some i=>.inl (((i:Int),()),())|none=>.inr ((),())):=by
  intro n;induction n with
  |zero=>intro _;exact fH (by rfl)
  |succ n ih=>
   intro hn;have e:((n+1:Nat):Int)-1=(n:Int):=by omega
   obtain⟨b,hb⟩:∃b,s[n]? =some b:=⟨s[n],List.getElem?_eq_getElem hn⟩;have aQ:decide ((n:Int)>=0)=true:=by simp
   rw[e];simp only[kK,hb];cases hc:((b.toNat:Int)==((47:UInt8).toNat:Int)) with
   |true=>
    refine fH ?_
    simp only[B7,aQ,cond_true,cI,hb,Option.bind_some];rw[show((b.toNat:Int)==47)=true from hc]
    rfl
   |false=>
    refine(gN ?_).trans (ih (by omega))
    simp only[B7,aQ,cond_true,cI,hb,Option.bind_some];rw[show((b.toNat:Int)==47)=false from hc,fr (by omega) (by omega)]
    rfl
 have hw:IntKind.i64.wrap ((s.length:Int)-1)=(s.length:Int)-1:=fr (by omega) (by omega)
 simp only[f268,hw,key s.length (Nat.le_refl _),Option.bind_some];cases kK 47 s s.length<;>rfl
theorem U7(a)(L:cZ a.1.1.length):f195 a=some (((bif iK a.1.1 then iW a.1.1 else []),()),()):=by
 obtain⟨⟨s,u⟩,bW⟩:=a;have L:s.length<=2097152:=L;have e1:=Az ((s,()),()) L;have e2:=Rz ((s,((47:Int),())),()) L rfl;simp only[f195,e1,Option.bind_some,f230,e2];cases iK s with
 |false=>rfl
 |true=>
  simp only[Bool.not_true,cond_false,cond_true];unfold iW;cases hl:kK 47 s s.length with
  |none=>
   have:gS (-1) 0=0:=by decide
   simp only[this];have:=qs (xs:=s) (b:=0) (Nat.zero_le _);have this:cO s 0 0=some (s.take 0):=this;rw[this];rfl
  |some i=>
   have af:=(F6 hl).2;have:gS (i:Int) 0=(i:Int):=by unfold gS;rw[if_neg (by omega)]
   simp only[this];rw[qs (by omega)];rfl
def cm(t:List bM)(p:G):Nat:=(t.takeWhile fun e=>Op.bytesLess e.path p).length
def pd(t:List bM)(p:G):Bool:=match t[cm t p]? with
 |some e=>e.path==p
 |none=>false
def kh(t:List bM)(p:G):Bool:=p==[]||match t[cm t p]? with
 |some e=>e.path==p&&e.kind==1
 |none=>false
theorem IX(t:List bM)(p:G):cm t p<=t.length:=(List.takeWhile_prefix _).length_le
theorem Yc(a)(L:cZ a.1.1.length):f157 a=some (((cm a.1.1 a.1.2.1:Int),(pd a.1.1 a.1.2.1,())),()):=by
 obtain⟨⟨t,p,u⟩,bW⟩:=a;have L:t.length<=2097152:=L;have key:B2 ((t,(p,((0:Int),(false,((0:Int),()))))),())=_:=Ah xc t (fun i (_:Unit)=>((t,(p,((0:Int),(false,((i:Int),()))))),()))
  (fun i e _=>some (bif Op.bytesLess e.path p then .inl () else .inr ((((t,(p,((0:Int),(false,((i:Int),()))))),())):a7 qq))) (fun _=>((t,(p,((0:Int),(false,((t.length:Int),()))))),())) (fun i e s he=>?_) (fun s=>?_) ()
 ·have fold:∀(r:List bM) (k:Nat),k+r.length=t.length->gi (fun i (e:bM) (_:Unit)=>some (bif Op.bytesLess e.path p then .inl () else .inr ((((t,(p,((0:Int),(false,((i:Int),()))))),())):a7 qq))) (fun _=>(((t,(p,((0:Int),(false,((t.length:Int),()))))),()):a7 qq)) k r ()=
    some ((t,(p,((0:Int),(false,(((k+(r.takeWhile fun e=>Op.bytesLess e.path p).length:Nat):Int),()))))),()):=by
   intro r;induction r with
   |nil=>intro k ah;simp only[gi,List.takeWhile_nil,List.length_nil,Nat.add_zero] at ah ⊢;rw[ah]
   |cons e r ih=>
    intro k ah;simp only[gi,List.takeWhile_cons];cases hl:Op.bytesLess e.path p with
    |false=>rfl
    |true=>
     simp only[cond_true,if_true,List.length_cons];rw[ih (k+1) (by simp only[List.length_cons] at ah;omega)]
     have:k+1+(r.takeWhile fun e=>Op.bytesLess e.path p).length=k+((r.takeWhile fun e=>Op.bytesLess e.path p).length+1):=by omega
     rw[this]
  rw[fold t 0 (Nat.zero_add _),Nat.zero_add] at key;have ah:(t.takeWhile fun e=>Op.bytesLess e.path p).length=cm t p:=rfl
  rw[ah] at key;simp only[f157,key,Option.bind_some,pd,cI];cases aC:t[cm t p]? with
  |none=>
   have:=List.getElem?_eq_none_iff.1 aC;have:decide ((cm t p:Int)<(t.length:Int))=false:=by simp only[decide_eq_false_iff_not];omega
   rw[this];rfl
  |some e=>rw[cU (c8 aC)];rfl
 ·have af:=c8 he;have hw:aN i:=by unfold aN;omega
  simp only[xc,cU af,cond_true,cI,he,Option.bind_some,cH hw];cases Op.bytesLess e.path p<;>rfl
 ·simp only[xc,du,cond_false]
theorem Wz(a)(L:cZ a.1.1.length):f211 a=some ((kh a.1.1 a.1.2.1,()),()):=by
 obtain⟨⟨t,p,u⟩,bW⟩:=a;have e1:=Yc ((t,(p,())),()) L;simp only[f211,e1,Option.bind_some,kh,pd,cI];cases (p==[]) with
 |true=>rfl
 |false=>
  cases aC:t[cm t p]? with
  |none=>rfl
  |some e=>simp only[Bool.not_false,cond_true,Option.bind_some,Bool.false_or];cases (e.path==p)<;>rfl
def hN(t:List bM):Prop:=t.Pairwise fun a b=>Op.bytesLess a.path b.path=true
theorem hN.take{t:List bM}(h:hN t)(i:Nat):hN (t.take i):=List.Pairwise.sublist (List.take_sublist i t) h
theorem l':∀{t:List bM} {p:G},hN t->∀(h:Nat) (e:bM),t[h]? =some e->Op.bytesLess e.path p=decide (h<cm t p):=by
 intro t p;induction t with
 |nil=>intro _ h e he;simp at he
 |cons x t ih=>
  intro bo h e he;have r':=List.pairwise_cons.1 bo;unfold cm;rw[List.takeWhile_cons];cases hx:Op.bytesLess x.path p with
  |true=>
   simp only[if_true,List.length_cons];cases h with
   |zero=>simp only[List.getElem?_cons_zero,Option.some.injEq] at he;subst he;rw[hx];simp
   |succ h=>
    simp only[List.getElem?_cons_succ] at he;rw[ih r'.2 h e he];unfold cm;congr 1;apply propext;omega
  |false=>
   have:(decide (h<(if false=true then x::t.takeWhile (fun e=>Op.bytesLess e.path p) else []).length))=false:=by simp
   rw[this];cases h with
   |zero=>simp only[List.getElem?_cons_zero,Option.some.injEq] at he;subst he;exact hx
   |succ h=>
    simp only[List.getElem?_cons_succ] at he;have h2:=r'.1 e (List.mem_of_getElem? he);cases Y:Op.bytesLess e.path p with
    |false=>rfl
    |true=>have:=sU _ _ _ h2 Y;rw[hx] at this;cases this
def rJ(a b:G):Int:=bif Op.bytesLess a b then-1 else bif a==b then 0 else 1
theorem Ay(a):f139 a=some ((rJ a.1.1.1 a.1.2.1.1,()),()):=by
 obtain⟨⟨⟨p,zs⟩,⟨⟨q,l3⟩,mR⟩⟩,agY⟩:=a;have h1:(p==p)=true:=by simp
 have h2:(q==q)=true:=by simp
 simp only[f139,f110,f175,Option.bind_some,h1,h2,Bool.not_true,cond_false,rJ];cases Op.bytesLess p q<;>cases (p==q)<;>rfl
theorem Iu(a b:G):decide (rJ a b<0)=Op.bytesLess a b:=by
 unfold rJ;cases Op.bytesLess a b<;>cases (a==b)<;>rfl
theorem UP(a b:G):(rJ a b==0)=(a==b):=by
 unfold rJ;cases h:Op.bytesLess a b with
 |true=>rw[Z0 h];rfl
 |false=>cases (a==b)<;>rfl
theorem _K{n:Nat}(h:n<=1099511627776):pm .u64 (IntKind.u64.wrap (IntKind.i64.wrap (n:Int))) 1=some (((n/2:Nat)):Int):=by
 rw[fr (by omega) (by omega)]
 have:IntKind.u64.wrap (n:Int)=(n:Int):=by
  simp[IntKind.wrap,IntKind.bits,IntKind.signed];omega
 rw[this];unfold pm;rw[if_neg (by decide)]
 congr 1
 show Int.fdiv (n:Int) 2=_;rw[Int.fdiv_eq_ediv_of_nonneg _ (by decide)]
 omega
theorem Rx(a)(L:cZ a.1.1.length)(bo:hN a.1.1):f87 a=some (((cm a.1.1 a.1.2.1:Int),(pd a.1.1 a.1.2.1,())),()):=by
 obtain⟨⟨t,p,u⟩,bW⟩:=a;have L:t.length<=2097152:=L;have afh:=IX t p;have key:∀d i j:Nat,j-i=d->i<=cm t p->cm t p<=j->j<=t.length->
   vH ((t,((),((),((0:Int),(false,((t.length:Int),((i:Int),((j:Int),())))))))),((p,((0:Int),((0:Int),(([]:G),())))),()))=
    some (((t,((),((),((0:Int),(false,((t.length:Int),((cm t p:Int),()))))))),((p,((0:Int),((0:Int),(([]:G),())))),()))):=by
  intro d;induction d using Nat.strongRecOn with
  |_ d ih=>
   intro i j U af bF hl;by_cases oA:i<j
   ·have b6:(i+j)/2<t.length:=by omega
    obtain⟨e,he⟩:∃e,t[(i+j)/2]? =some e:=⟨t[(i+j)/2],List.getElem?_eq_getElem b6⟩;have Oq:pm .u64 (IntKind.u64.wrap (IntKind.i64.wrap ((i:Int)+(j:Int)))) 1=some ((((i+j)/2:Nat)):Int):=by
     rw[<-_K (n:=i+j) (by omega)];rw[Int.natCast_add]
    have Oj:IntKind.i64.wrap (((i+j)/2:Nat):Int)=(((i+j)/2:Nat):Int):=fr (by omega) (by omega)
    have rT:=l' (t:=t) (p:=p) bo ((i+j)/2) e he;cases hb:Op.bytesLess e.path p with
    |true=>
     rw[hb] at rT;have ba:(i+j)/2<cm t p:=by simpa using rT.symm
     refine(gN ?_).trans (ih (j-((i+j)/2+1)) (by omega) ((i+j)/2+1) j rfl (by omega) bF hl)
     simp only[vI,cU oA,cond_true,Oq,Oj,cI,he,Option.bind_some,Ay,Iu,hb,cH (i:=(i+j)/2) (by unfold aN;omega)]
    |false=>
     rw[hb] at rT;have pN:¬(i+j)/2<cm t p:=by simpa using rT.symm
     refine(gN ?_).trans (ih ((i+j)/2-i) (by omega) i ((i+j)/2) rfl af (by omega) (by omega))
     simp only[vI,cU oA,cond_true,Oq,Oj,cI,he,Option.bind_some,Ay,Iu,hb,cond_false]
   ·have lb:i=cm t p:=by omega
    have ba:decide ((i:Int)<(j:Int))=false:=by simp only[decide_eq_false_iff_not];omega
    refine fH ?_
    simp only[vI,ba,cond_false];rw[lb]
 have mV:vH ((t,((),((),((0:Int),(false,((t.length:Int),((0:Int),((t.length:Int),())))))))),((p,((0:Int),((0:Int),(([]:G),())))),()))=_:=key t.length 0 t.length (Nat.sub_zero _) (Nat.zero_le _) afh (Nat.le_refl _);have H:x3 ((t,((p,((0:Int),((0:Int),(([]:G),())))),((),()))),())=some (((cm t p:Int),(pd t p,())),()):=by
  simp only[x3,mV,Option.bind_some,pd,cI,Ay,UP];cases aC:t[cm t p]? with
  |none=>
   have:=List.getElem?_eq_none_iff.1 aC;have:decide ((cm t p:Int)<(t.length:Int))=false:=by simp only[decide_eq_false_iff_not];omega
   rw[this];rfl
  |some e=>rw[cU (c8 aC)];rfl
 simp only[f87,H,Option.bind_some]
noncomputable abbrev aba:cb:=[(87,O4),(195,MQ)]
theorem abw:bG ao (b9 aV aba):=b8 ⟨z87,_k,⟨⟩⟩
abbrev i137:Shape:=⟨[aW 0 .entry,bc 1],[],27⟩
abbrev LI:Shape:=⟨[a6 4],[],27⟩
noncomputable def f137(a:i137.F):Option LI.F:=
(f195 ((a.1.2.1,()),())).bind fun b=>
 bif(b.1.1==([]:G)) then
 some ((true,()),())
else
(f87 ((a.1.1,b.1.1,()),())).bind fun c=>
 bif c.1.2.1 then
(bf a.1.1 c.1.1).bind fun d=>
 some (((d.kind==(1:Int)),()),())
else
 some ((false,()),())
noncomputable def M1:bp:=bN aV Tryz.f137 i137 LI [] f137
theorem _q:bu ao 137 M1:=bP abw Tryz.func137 (by kernel_rfl) aH (fun y=>by kernel_rfl) fun a=>by kernel_rfl
noncomputable abbrev aa8:cb:=[(210,MP),(211,MO),(212,MN)]
theorem yT:bG ao (b9 aV aa8):=b8 ⟨z210,_j,z212,⟨⟩⟩
abbrev H_:Shape:=⟨[aW 0 .entry,aj 3],[],53⟩
abbrev HY:List bh:=[(.norm,⟨[aW 0 .entry,aj 3,aW 11 .entry,aj 12,(13,.ak (.eS [.str,.int .i64,.int .i64,.str] 0)),e7 14 [bY,dh,dh,bY],a6 15,a6 16,a6 17,a6 34],[],53⟩)]
noncomputable def A9(y:H_.F):Option (a7 HY):=
(bf y.1.1 y.1.2.1).bind fun a=>
(f210 (((a.path,a.kind,a.mode,a.text,()),()),())).bind fun b=>
 bif(!b.1.1) then
 some ((y.1.1,y.1.2.1,y.1.1,y.1.2.1,(a.path,a.kind,a.mode,a.text,()),(a.path,a.kind,a.mode,a.text,()),b.1.1,(!b.1.1),true,true,()),())
else
 bif(decide (y.1.2.1>(0:Int))) then
(bf y.1.1 (IntKind.i64.wrap (y.1.2.1-(1:Int)))).bind fun c=>
(bf y.1.1 y.1.2.1).bind fun d=>
 some ((y.1.1,y.1.2.1,y.1.1,y.1.2.1,(a.path,a.kind,a.mode,a.text,()),(a.path,a.kind,a.mode,a.text,()),b.1.1,(!b.1.1),false,(!(Op.bytesLess c.path d.path)),()),())
else
 some ((y.1.1,y.1.2.1,y.1.1,y.1.2.1,(a.path,a.kind,a.mode,a.text,()),(a.path,a.kind,a.mode,a.text,()),b.1.1,(!b.1.1),false,false,()),())
theorem VK:bx ao (aU (eH (aU (codeOf Tryz.f158) 1 26)) 52 840) (bK H_ HY A9):=e9 yT (by kernel_rfl) aH fun y=>by kernel_rfl
abbrev wH:Shape:=⟨[aW 0 .entry,aj 3],[],53⟩
abbrev Bx:List bh:=[(.ret,⟨[a6 2],[],53⟩),(.exit 0,⟨[aW 0 .entry],[],53⟩)]
noncomputable def xb(y:wH.F):cq wH Bx:=
 bif(decide (y.1.2.1<(y.1.1.length:Int))) then
(A9 ((y.1.1,y.1.2.1,()),())).bind fun a=>
 bif a.1.2.2.2.2.2.2.2.2.2.1 then
 some (.inr (.inl ((false,()),())))
else
 some (.inl ((a.1.1,(IntKind.i64.wrap (a.1.2.1+(1:Int))),()),()))
else
 some (.inr (.inr ((y.1.1,()),())))
noncomputable def B1:wH.F->Option (a7 Bx):=bH xb
theorem W_:bx ao (aU (codeOf Tryz.f158) 1 26) (bK wH Bx B1):=cG yT (by kernel_rfl) (bR VK aH) fun y=>by kernel_rfl
abbrev wG:Shape:=⟨[aW 0 .entry,aj 4],[],53⟩
abbrev Bw:List bh:=[(.ret,⟨[a6 2],[],53⟩),(.exit 2,⟨[aW 0 .entry],[],53⟩)]
noncomputable def xa(y:wG.F):cq wG Bw:=
 bif(decide (y.1.2.1<(y.1.1.length:Int))) then
(bf y.1.1 y.1.2.1).bind fun a=>
(f212 ((a.path,()),())).bind fun b=>
(f211 ((y.1.1,b.1.1,()),())).bind fun c=>
 bif(!c.1.1) then
 some (.inr (.inl ((false,()),())))
else
 some (.inl ((y.1.1,(IntKind.i64.wrap (y.1.2.1+(1:Int))),()),()))
else
 some (.inr (.inr ((y.1.1,()),())))
noncomputable def B0:wG.F->Option (a7 Bw):=bH xa
theorem W9:bx ao (aU (codeOf Tryz.f158) 1 58) (bK wG Bw B0):=cG yT (by kernel_rfl) aH fun y=>by kernel_rfl
abbrev i158:Shape:=⟨[aW 0 .entry],[],53⟩
abbrev LC:Shape:=⟨[a6 2],[],53⟩
noncomputable def f158(a:i158.F):Option LC.F:=
(B1 ((a.1.1,(0:Int),()),())).bind fun b=>
(match b with
|.inl c=>
 some ((c.1.1,()),())
|.inr d=>
(B0 ((d.1.1,(0:Int),()),())).bind fun e=>
(match e with
|.inl f=>
 some ((f.1.1,()),())
|.inr g=>
 some (((decide ((g.1.1.length:Int)<=(16:Int))),()),())))
noncomputable def D_:bp:=bN aV Tryz.f158 i158 LC [] f158
theorem K3:bu ao 158 D_:=bP yT Tryz.func158 (by kernel_rfl) (bR W_ (bR W9 aH)) (fun y=>by kernel_rfl) fun a=>by kernel_rfl
noncomputable abbrev aej:cb:=[(136,M2),(137,M1)]
theorem Fg:bG ao (b9 aV aej):=b8 ⟨_r,_q,⟨⟩⟩
abbrev H4:Shape:=⟨[aW 0 .entry,aj 3,dK 4 4 0,aW 8 .entry,aj 9,aj 10],[dJ 4 [bY,dh,dh,bY]],43⟩
abbrev HR:List bh:=[(.norm,⟨[aW 0 .entry,aW 8 .entry,aj 9,aj 10,e7 15 [bY,dh,dh,bY],a6 16,a6 17,a6 18,a6 32,a6 33,a6 41],[],43⟩)]
noncomputable def A3(y:H4.F):Option (a7 HR):=
(f136 (((y.2.1.1,y.2.1.2.1,y.2.1.2.2.1,y.2.1.2.2.2.1,()),()),())).bind fun a=>
 bif(!a.1.1) then
 some ((y.1.1,y.1.2.2.2.1,y.1.2.2.2.2.1,y.1.2.2.2.2.2.1,(y.2.1.1,y.2.1.2.1,y.2.1.2.2.1,y.2.1.2.2.2.1,()),a.1.1,(!a.1.1),true,true,true,true,()),())
else
 bif(decide (y.1.2.1>(0:Int))) then
(bf y.1.1 (IntKind.i64.wrap (y.1.2.1-(1:Int)))).bind fun b=>
 bif(!(Op.bytesLess b.path y.2.1.1)) then
 some ((y.1.1,y.1.2.2.2.1,y.1.2.2.2.2.1,y.1.2.2.2.2.2.1,(y.2.1.1,y.2.1.2.1,y.2.1.2.2.1,y.2.1.2.2.2.1,()),a.1.1,(!a.1.1),false,(!(Op.bytesLess b.path y.2.1.1)),true,true,()),())
else
(cO y.1.1 (0:Int) y.1.2.1).bind fun c=>
(f137 ((c,y.2.1.1,()),())).bind fun d=>
 some ((y.1.1,y.1.2.2.2.1,y.1.2.2.2.2.1,y.1.2.2.2.2.2.1,(y.2.1.1,y.2.1.2.1,y.2.1.2.2.1,y.2.1.2.2.2.1,()),a.1.1,(!a.1.1),false,(!(Op.bytesLess b.path y.2.1.1)),false,(!d.1.1),()),())
else
(cO y.1.1 (0:Int) y.1.2.1).bind fun e=>
(f137 ((e,y.2.1.1,()),())).bind fun f=>
 some ((y.1.1,y.1.2.2.2.1,y.1.2.2.2.2.1,y.1.2.2.2.2.2.1,(y.2.1.1,y.2.1.2.1,y.2.1.2.2.1,y.2.1.2.2.2.1,()),a.1.1,(!a.1.1),false,false,false,(!f.1.1),()),())
theorem Vx:bx ao (aU (eH (aU (codeOf Tryz.f86) 1 58)) 116 7474) (bK H4 HR A3):=e9 Fg (by kernel_rfl) aH fun y=>by kernel_rfl
abbrev xt:Shape:=⟨[aW 0 .entry,aW 8 .entry,aj 9,aj 10],[],43⟩
abbrev tb:List bh:=[(.ret,⟨[a6 2],[],43⟩),(.exit 0,⟨[],[],43⟩)]
noncomputable def xR(y:xt.F):cq xt tb:=
 bif(decide (y.1.2.2.2.1<y.1.2.2.1)) then
(bf y.1.2.1 y.1.2.2.2.1).bind fun a=>
(A3 ((y.1.1,y.1.2.2.2.1,(),y.1.2.1,y.1.2.2.1,y.1.2.2.2.1,()),(a.path,a.kind,a.mode,a.text,()),())).bind fun b=>
 bif b.1.2.2.2.2.2.2.2.2.2.2.1 then
 some (.inr (.inl ((false,()),())))
else
 some (.inl ((b.1.1,b.1.2.1,b.1.2.2.1,(IntKind.i64.wrap (b.1.2.2.2.1+(1:Int))),()),()))
else
 some (.inr (.inr ((),())))
noncomputable def CM:xt.F->Option (a7 tb):=bH xR
theorem Yn:bx ao (aU (codeOf Tryz.f86) 1 58) (bK xt tb CM):=cG Fg (by kernel_rfl) (bR Vx aH) fun y=>by kernel_rfl
abbrev i86:Shape:=⟨[aW 0 .entry],[],43⟩
abbrev NM:Shape:=⟨[a6 2],[],43⟩
noncomputable def f86(a:i86.F):Option NM.F:=
 bif(decide ((a.1.1.length:Int)>(16:Int))) then
 some ((false,()),())
else
(CM ((a.1.1,a.1.1,(a.1.1.length:Int),(0:Int),()),())).bind fun b=>
(match b with
|.inl c=>
 some ((c.1.1,()),())
|.inr d=>
 some ((true,()),()))
noncomputable def O5:bp:=bN aV Tryz.f86 i86 NM [] f86
theorem abE:bu ao 86 O5:=bP Fg Tryz.func86 (by kernel_rfl) (bR Yn aH) (fun y=>by kernel_rfl) fun a=>by kernel_rfl
theorem R'{aA:Type}{ok lK:Nat->aA->Bool}:∀(xs:List aA) (j:Nat),(∀i x,xs[i]? =some x->ok (j+i) x=lK (j+i) x)->allI ok j xs=allI lK j xs:=by
 intro xs;induction xs with
 |nil=>intro j _;rfl
 |cons x r ih=>
  intro j h;simp only[allI];rw[show ok j x=lK j x from h 0 x rfl,ih (j+1) (fun i y aq=>by have:=h (i+1) y (by simpa using aq);rw[show j+(i+1)=j+1+i by omega] at this;exact this)]
theorem Ix{aA:Type}{ok:Nat->aA->Bool}:∀(xs:List aA) (j:Nat),allI ok j xs=true->∀i x,xs[i]? =some x->ok (j+i) x=true:=by
 intro xs;induction xs with
 |nil=>intro j _ i x h;simp at h
 |cons y r ih=>
  intro j h i x hx;simp only[allI,Bool.and_eq_true] at h;cases i with
  |zero=>simp only[List.getElem?_cons_zero,Option.some.injEq] at hx;subst hx;exact h.1
  |succ i=>have:=ih (j+1) h.2 i x (by simpa using hx);rwa[show j+1+i=j+(i+1) by omega] at this
abbrev Ei(t:List bM):Prop:=cZ t.length/\∀e,e∈t->aeQ e
def te(t:List bM)(i:Nat)(e:bM):Bool:=i==0||match t[i-1]? with
 |some q=>Op.bytesLess q.path e.path
 |none=>false
def iO(t:List bM)(i:Nat)(e:bM):Bool:=og e&&te t i e
def il(t:List bM):Bool:=allI (iO t) 0 t&&t.all (fun e=>kh t (iW e.path))&&decide (t.length<=16)
theorem Mp(i:Nat):decide ((i:Int)>0)=!(i==0):=by
 cases i with
 |zero=>rfl
 |succ i=>simp
theorem U6(a)(L:Ei a.1.1):f158 a=some ((il a.1.1,()),()):=by
 obtain⟨⟨t,u⟩,bW⟩:=a;obtain⟨hl,he⟩:=L;have hl:t.length<=2097152:=hl;have key:B1 ((t,((0:Int),())),())=some (bif allI (iO t) 0 t then .inr ((t,()),()) else .inl ((false,()),())):=by
  refine hi xb t (fun i=>((t,((i:Int),())),())) _ _ _ (fun i x hx=>?_) ?_
  ·have af:=c8 hx;have hw:aN i:=by unfold aN;omega
   have hb:=he x (List.mem_of_getElem? hx);simp only[xb,cU af,cond_true,A9,cI,hx,Option.bind_some];rw[Tu _ hb.1 hb.2];simp only[Option.bind_some,iO,Mp];cases og x with
   |false=>rfl
   |true=>
    simp only[Bool.not_true,cond_false,Bool.true_and,te];cases i with
    |zero=>simp only[beq_self_eq_true,Bool.not_true,cond_false,Option.bind_some,Bool.true_or,cond_true,cH hw]
    |succ i=>
     have aQ:(i+1==0)=false:=rfl;have lb:i<t.length:=by omega
     obtain⟨q,aD⟩:∃q,t[i]? =some q:=⟨t[i],List.getElem?_eq_getElem lb⟩;simp only[aQ,Bool.not_false,cond_true,G0 (i:=i) (by unfold aN;omega),cI,aD,hx,Option.bind_some,Bool.false_or,Nat.add_sub_cancel]
     cases Op.bytesLess q.path x.path with
     |false=>rfl
     |true=>simp only[Bool.not_true,cond_false,cond_true,cH hw]
  ·simp only[xb,du,cond_false]
 have L5:B0 ((t,((0:Int),())),())=some (bif allI (fun _ e=>kh t (iW e.path)) 0 t then .inr ((t,()),()) else .inl ((false,()),())):=by
  refine hi xa t (fun i=>((t,((i:Int),())),())) _ _ _ (fun i x hx=>?_) ?_
  ·have af:=c8 hx;have hw:aN i:=by unfold aN;omega
   have hb:=he x (List.mem_of_getElem? hx);simp only[xa,cU af,cond_true,cI,hx,Option.bind_some];rw[Yd _ hb.1];simp only[Option.bind_some];rw[Wz _ hl];simp only[Option.bind_some,cH hw];cases kh t (iW x.path)<;>rfl
  ·simp only[xa,du,cond_false]
 rw[ig] at L5;simp only[f158,key,Option.bind_some,il];cases allI (iO t) 0 t with
 |false=>rfl
 |true=>
  simp only[cond_true,L5,Option.bind_some,Bool.true_and];cases List.all t (fun e=>kh t (iW e.path)) with
  |false=>rfl
  |true=>have:=yF t.length 16;simp only[cond_true,Bool.true_and];rw[<-this];rfl
theorem Iw{t:List bM}{i:Nat}{e:bM}(he:t[i]? =some e)(h:hN (t.take i))(hl:te t i e=true):hN (t.take (i+1)):=by
 rw[List.take_add_one,he];unfold hN;refine List.pairwise_append.2 ⟨h,by simp,?_⟩
 intro a bo b hb;have hb:b=e:=by simpa using hb
 subst hb;obtain⟨k,ah⟩:=List.mem_iff_getElem?.1 bo;have ac9:k<i:=by
  have:=c8 ah;rw[List.length_take] at this;omega
 unfold te at hl;have aQ:(i==0)=false:=by simp;omega
 rw[aQ,Bool.false_or] at hl;split at hl
 ·rename_i q aD;by_cases h4:k=i-1
  ·have:t[k]? =some a:=by rw[List.getElem?_take,if_pos ac9] at ah;exact ah
   rw[h4,aD] at this;cases this;exact hl
  ·have nI:(t.take i)[i-1]? =some q:=by rw[List.getElem?_take,if_pos (by omega)];exact aD
   have:=List.pairwise_iff_getElem.1 h k (i-1) (c8 ah) (c8 nI) (by omega)
   rw[(List.getElem?_eq_some_iff.1 ah).2,(List.getElem?_eq_some_iff.1 nI).2] at this;exact sU _ _ _ this hl
 ·cases hl
theorem J9{t:List bM}(h:allI (iO t) 0 t=true):hN t:=by
 have:∀i,i<=t.length->hN (t.take i):=by
  intro i;induction i with
  |zero=>intro _;simp[hN]
  |succ i ih=>
   intro af;have he:t[i]? =some t[i]:=List.getElem?_eq_getElem af;have:=Ix t 0 h i _ he;rw[Nat.zero_add] at this;simp only[iO,Bool.and_eq_true] at this;exact Iw he (ih (by omega)) this.2
 have:=this t.length (Nat.le_refl _);rwa[List.take_length] at this
theorem S7{t:List bM}{i:Nat}{e:bM}{p:G}(bo:hN t)(he:t[i]? =some e)(am:Op.bytesLess p e.path=true):kh (t.take i) p=kh t p:=by
 have af:=c8 he;have h1:=l' (p:=p) bo i e he;rw[X1 am] at h1;have c3:cm t p<=i:=by
  have:¬i<cm t p:=by simpa using h1.symm
  omega
 have nw:cm (t.take i) p=cm t p:=by
  by_cases ba:cm t p=i
  ·have hlen:(t.take i).length=i:=by rw[List.length_take];omega
   have h2:=IX (t.take i) p;rw[hlen] at h2;by_cases Y:cm (t.take i) p<i
   ·obtain⟨q,aD⟩:∃q,(t.take i)[cm (t.take i) p]? =some q:=⟨_,List.getElem?_eq_getElem (by rw[hlen];exact Y)⟩
    have aP:=l' (p:=p) (bo.take i) _ q aD;have nI:t[cm (t.take i) p]? =some q:=by rw[List.getElem?_take,if_pos Y] at aD;exact aD
    have bq:=l' (p:=p) bo _ q nI;rw[aP] at bq;have:decide (cm (t.take i) p<cm (t.take i) p)=false:=by simp
    rw[this] at bq;have:¬cm (t.take i) p<cm t p:=by simpa using bq.symm
    omega
   ·omega
  ·have ba:cm t p<i:=by omega
   obtain⟨q,aD⟩:∃q,t[cm t p]? =some q:=⟨_,List.getElem?_eq_getElem (by omega)⟩
   have nI:(t.take i)[cm t p]? =some q:=by rw[List.getElem?_take,if_pos ba];exact aD
   have aP:=l' (p:=p) bo _ q aD;have bq:=l' (p:=p) (bo.take i) _ q nI;have eV:decide (cm t p<cm t p)=false:=by simp
   rw[aP,eV] at bq;have eu:¬cm t p<cm (t.take i) p:=by simpa using bq.symm
   by_cases lj:cm (t.take i) p<cm t p
   ·obtain⟨r,hr⟩:∃r,t[cm (t.take i) p]? =some r:=⟨_,List.getElem?_eq_getElem (by omega)⟩
    have cp:(t.take i)[cm (t.take i) p]? =some r:=by rw[List.getElem?_take,if_pos (by omega)];exact hr
    have afi:=l' (p:=p) bo _ r hr;have nV:=l' (p:=p) (bo.take i) _ r cp;have afo:decide (cm (t.take i) p<cm (t.take i) p)=false:=by simp
    rw[afi,afo] at nV;have:¬cm (t.take i) p<cm t p:=by simpa using nV
    omega
   ·omega
 unfold kh;rw[nw];congr 1
 by_cases ba:cm t p<i
 ·rw[List.getElem?_take,if_pos ba]
 ·have:cm t p=i:=by omega
  rw[this,he,List.getElem?_take,if_neg (by omega)]
  have:(e.path==p)=false:=by
   cases h:(e.path==p) with
   |false=>rfl
   |true=>rw[eq_of_beq h,qR] at am;cases am
  simp[this]
def kQ(t:List bM)(p:G):Bool:=kh t (bif iK p then iW p else [])
theorem QF(a)(L:cZ a.1.1.length)(am:cZ a.1.2.1.length)(bo:hN a.1.1):f137 a=some ((kQ a.1.1 a.1.2.1,()),()):=by
 obtain⟨⟨t,p,u⟩,bW⟩:=a;have e1:=U7 ((p,()),()) am;have e2:=Rx ((t,((bif iK p then iW p else []),())),()) L bo
 simp only[f137,e1,e2,Option.bind_some,kQ,kh,pd,cI];generalize(bif iK p then iW p else [])=up
 cases (up==[]) with
 |true=>rfl
 |false=>
  cases aC:t[cm t up]? with
  |none=>rfl
  |some e=>simp only[cond_false,cond_true,Option.bind_some,Bool.false_or];cases (e.path==up)<;>rfl
theorem TJ(t:List bM):il t=(decide (t.length<=16)&&allI (fun i e=>iO t i e&&kQ (t.take i) e.path) 0 t):=by
 unfold il;rw[Iy];cases h:allI (iO t) 0 t with
 |false=>simp
 |true=>
  have bo:=J9 h;have:allI (fun i e=>kQ (t.take i) e.path) 0 t=t.all (fun e=>kh t (iW e.path)):=by
   rw[<-ig _ 0 t];refine R' t 0 (fun i e he=>?_)
   rw[Nat.zero_add];have eB:=Ix t 0 h i e he;rw[Nat.zero_add] at eB;have acV:iK e.path=true:=by
    unfold iO og at eB;simp only[Bool.and_eq_true] at eB;exact eB.1.1
   unfold kQ;rw[acV,cond_true];cases hu:(iW e.path==[]) with
   |true=>unfold kh;rw[hu];rfl
   |false=>exact S7 bo he (U' hu)
  rw[this];simp only[Bool.true_and];rw[Bool.and_comm]
theorem Tw(a)(L:Ei a.1.1):f86 a=some ((il a.1.1,()),()):=by
 obtain⟨⟨t,u⟩,bW⟩:=a;obtain⟨hl,he⟩:=L;have hl:t.length<=2097152:=hl;have key:CM ((t,(t,((t.length:Int),((0:Int),())))),())=some (bif allI (fun i e=>iO t i e&&kQ (t.take i) e.path) 0 t then .inr ((),()) else .inl ((false,()),())):=by
  have:=qn xR t (fun i (_:Unit)=>((t,(t,((t.length:Int),((i:Int),())))),())) (fun i e _=>some (bif iO t i e&&kQ (t.take i) e.path then .inl () else .inr ((.inl ((false,()),())):a7 tb))) (fun _=>(.inr ((),()):a7 tb))
   (fun i _=>hN (t.take i)) () (by simp[hN]) (fun i x _ hx eM=>?_) (fun _ _=>?_)
  ·exact this.trans (zP (fun i e=>iO t i e&&kQ (t.take i) e.path) (fun _ s=>s) _ _ t 0 ())
  ·have af:=c8 hx;have hw:aN i:=by unfold aN;omega
   have hb:=he x (List.mem_of_getElem? hx);refine⟨?_,fun ag ae=>?_⟩
   ·have ox:=QF ((t.take i,(x.path,())),()) (show(t.take i).length<=2097152 by rw[List.length_take];omega) hb.1 eM
    simp only[xR,cU af,cond_true,cI,hx,Option.bind_some,A3];rw[TC _ hb.1 hb.2];simp only[Option.bind_some,iO,Mp];cases og x with
    |false=>rfl
    |true=>
     simp only[Bool.not_true,cond_false,Bool.true_and,te];cases i with
     |zero=>
      have dz:cO t 0 0=some (t.take 0):=qs (b:=0) (Nat.zero_le _);have dz:cO t 0 ((0:Nat):Int)=some (t.take 0):=dz;simp only[beq_self_eq_true,Bool.not_true,cond_false,dz,Option.bind_some,ox,Bool.true_or,Bool.true_and];cases kQ (t.take 0) x.path with
      |false=>rfl
      |true=>simp only[Bool.not_true,cond_false,cond_true,cH hw];rfl
     |succ i=>
      have aQ:(i+1==0)=false:=rfl;have lb:i<t.length:=by omega
      obtain⟨q,aD⟩:∃q,t[i]? =some q:=⟨t[i],List.getElem?_eq_getElem lb⟩;have dz:cO t 0 ((i+1:Nat):Int)=some (t.take (i+1)):=qs (by omega)
      simp only[aQ,Bool.not_false,cond_true,G0 (i:=i) (by unfold aN;omega),cI,aD,hx,Option.bind_some,Bool.false_or,Nat.add_sub_cancel]
      cases Op.bytesLess q.path x.path with
      |false=>rfl
      |true=>
       simp only[Bool.not_true,cond_false,cond_true,dz,Option.bind_some,ox,Bool.true_and];cases kQ (t.take (i+1)) x.path with
       |false=>rfl
       |true=>simp only[Bool.not_true,cond_false,cond_true,cH hw];rfl
   ·simp only[Option.some.injEq] at ae;cases aD:(iO t i x&&kQ (t.take i) x.path) with
    |false=>rw[aD] at ae;cases ae
    |true=>
     simp only[Bool.and_eq_true] at aD;have:=aD.1;simp only[iO,Bool.and_eq_true] at this;exact Iw hx eM this.2
  ·simp only[xR,du,cond_false]
 have adH:decide ((t.length:Int)>16)=!decide (t.length<=16):=by by_cases h:t.length<=16<;>simp only[h,decide_true,decide_false,Bool.not_true,Bool.not_false,decide_eq_true_eq,decide_eq_false_iff_not]<;>omega
 simp only[f86,adH,key,Option.bind_some];rw[TJ];cases decide (t.length<=16)<;>cases allI (fun i e=>iO t i e&&kQ (t.take i) e.path) 0 t<;>rfl
noncomputable abbrev aem:cb:=[(86,O5),(118,Eb),(119,Ea),(120,Ka),(122,J')]
theorem Pz:bG ao (b9 aV aem):=b8 ⟨abE,K4,z119,X9,X8,⟨⟩⟩
abbrev Jz:Shape:=⟨[dK 1 1 0],[dJ 1 [bY,bY,fE .need,fE .entry]],36⟩
abbrev Jw:List bh:=[(.norm,⟨[dK 1 1 0,a6 18],[dJ 1 [bY,bY,fE .need,fE .entry]],36⟩)]
noncomputable def CZ(y:Jz.F):Option (a7 Jw):=
(f118 ((y.2.1.1,()),())).bind fun a=>
 bif(!(!a.1.1)) then
(f119 ((y.2.1.2.1,()),())).bind fun b=>
 bif(!(!b.1.1)) then
 some (((),(decide ((y.2.1.2.2.1.length:Int)>(6:Int))),()),(y.2.1.1,y.2.1.2.1,y.2.1.2.2.1,y.2.1.2.2.2.1,()),())
else
 some (((),true,()),(y.2.1.1,y.2.1.2.1,y.2.1.2.2.1,y.2.1.2.2.2.1,()),())
else
 some (((),true,()),(y.2.1.1,y.2.1.2.1,y.2.1.2.2.1,y.2.1.2.2.2.1,()),())
theorem Yq:bx ao (aU (codeOf Tryz.f74) 1 12) (bK Jz Jw CZ):=e9 Pz (by kernel_rfl) aH fun y=>by kernel_rfl
abbrev i74:Shape:=⟨[e7 0 [bY,bY,fE .need,fE .entry]],[],36⟩
abbrev NP:Shape:=⟨[a6 2],[],36⟩
noncomputable def f74(a:i74.F):Option NP.F:=
(CZ (((),()),(a.1.1.1,a.1.1.2.1,a.1.1.2.2.1,a.1.1.2.2.2.1,()),())).bind fun b=>
 bif b.1.2.1 then
 some ((false,()),())
else
(x5 ((b.2.1.2.2.1,(),()),())).bind fun c=>
 bif c.1.1 then
(x4 ((b.2.1.2.2.1,(),([b.2.1.1]:List G),()),())).bind fun d=>
 bif(!d.1.1) then
(f86 ((b.2.1.2.2.2.1,()),())).bind fun e=>
 some ((e.1.1,()),())
else
 some ((false,()),())
else
 some ((false,()),())
noncomputable def O8:bp:=bN aV Tryz.f74 i74 NP [] f74
theorem abF:bu ao 74 O8:=bP Pz Tryz.func74 (by kernel_rfl) (bR Yq aH) (fun y=>by kernel_rfl) fun a=>by kernel_rfl
noncomputable abbrev Zb:cb:=[(74,O8)]
theorem Kf:bG ao (b9 aV Zb):=b8 ⟨abF,⟨⟩⟩
abbrev vE:Shape:=⟨[(1,.ak (.fn 74 [])),aW 7 .pack,aj 8,aj 9],[],18⟩
abbrev Ac:List bh:=[(.ret,⟨[a6 4],[],18⟩),(.exit 0,⟨[],[],18⟩)]
noncomputable def vL(y:vE.F):cq vE Ac:=
 bif(decide (y.1.2.2.2.1<y.1.2.2.1)) then
(bf y.1.2.1 y.1.2.2.2.1).bind fun a=>
(f74 (((a.name,a.b_,a.bZ,a.cE,()),()),())).bind fun b=>
 bif(!b.1.1) then
 some (.inr (.inl ((false,()),())))
else
 some (.inl (((),y.1.2.1,y.1.2.2.1,(IntKind.i64.wrap (y.1.2.2.2.1+(1:Int))),()),()))
else
 some (.inr (.inr ((),())))
noncomputable def Al:vE.F->Option (a7 Ac):=bH vL
theorem Uh:bx ao (aU (codeOf Tryz.f101) 1 26) (bK vE Ac Al):=cG Kf (by kernel_rfl) aH fun y=>by kernel_rfl
abbrev JY:Shape:=⟨[aW 0 .pack,(1,.ak (.fn 74 []))],[],18⟩
abbrev JL:Shape:=⟨[a6 4],[],18⟩
noncomputable def x6(a:JY.F):Option JL.F:=
(Al (((),a.1.1,(a.1.1.length:Int),(0:Int),()),())).bind fun b=>
(match b with
|.inl c=>
 some ((c.1.1,()),())
|.inr d=>
 some ((true,()),()))
noncomputable def Kb:bp:=bN aV Tryz.f101 JY JL [] x6
theorem X_:bu ao 101 Kb:=bP Kf Tryz.func101 (by kernel_rfl) (bR Uh aH) (fun y=>by kernel_rfl) fun a=>by kernel_rfl
abbrev i156:Shape:=⟨[aW 0 .entry],[],6⟩
abbrev LF:Shape:=⟨[b3 2 3000128],[cL 3000128 .entry 2 0],6⟩
noncomputable def f156(a:i156.F):Option LF.F:=
(dc 48 ([]:List bM) a.1.1).bind fun b=>
 some (((),()),b,())
noncomputable def MY:bp:=bN aV Tryz.f156 i156 LF [] f156
theorem z156:bu ao 156 MY:=bP g0 Tryz.func156 (by kernel_rfl) aH (fun y=>by kernel_rfl) fun a=>by kernel_rfl
noncomputable abbrev aeh:cb:=[(156,MY),(157,D'),(158,D_)]
theorem Ff:bG ao (b9 aV aeh):=b8 ⟨z156,z157,K3,⟨⟩⟩
abbrev H2:Shape:=⟨[aW 1 .entry,b3 6 3000384,aj 7,aj 8,a6 9],[cL 3000384 .entry 6 0],69⟩
abbrev HP:List bh:=[(.norm,⟨[aW 1 .entry,b3 6 3000384,aj 7,aj 8,a6 9,a6 28,a6 29,a6 47],[cL 3000384 .entry 6 0],69⟩)]
noncomputable def Io(y:H2.F):Option (a7 HP):=
 bif y.1.2.2.2.2.1 then
(e0 y.2.1.length y.1.2.2.2.1).bind fun a=>
(y.2.1[a]?).bind fun b=>
 bif(b.kind !=(1:Int)) then
 some ((y.1.1,(),y.1.2.2.1,y.1.2.2.2.1,y.1.2.2.2.2.1,y.1.2.2.2.2.1,true,true,()),y.2.1,())
else
(bf y.1.1 y.1.2.2.1).bind fun c=>
(e0 y.2.1.length y.1.2.2.2.1).bind fun d=>
(y.2.1[d]?).bind fun e=>
 some ((y.1.1,(),y.1.2.2.1,y.1.2.2.2.1,y.1.2.2.2.2.1,y.1.2.2.2.2.1,true,(!((c.path==e.path)&&((c.kind==e.kind)&&((c.mode==e.mode)&&(c.text==e.text))))),()),y.2.1,())
else
 some ((y.1.1,(),y.1.2.2.1,y.1.2.2.2.1,y.1.2.2.2.2.1,y.1.2.2.2.2.1,false,false,()),y.2.1,())
theorem Vv:bx ao (aU (eH (aU (codeOf Tryz.f96) 1 58)) 116 7460) (bK H2 HP Io):=e9 Ff (by kernel_rfl) aH fun y=>by kernel_rfl
abbrev xq:Shape:=⟨[aW 1 .entry,b3 6 3000384,aj 7],[cL 3000384 .entry 6 0],69⟩
abbrev Co:List bh:=[(.ret,⟨[b3 4 3000256,a6 5],[cL 3000256 .entry 4 0],69⟩),(.exit 0,⟨[b3 6 3000384],[cL 3000384 .entry 6 0],69⟩)]
noncomputable def YU(y:xq.F):cq xq Co:=
 bif(decide (y.1.2.2.1<(y.1.1.length:Int))) then
(bf y.1.1 y.1.2.2.1).bind fun a=>
(f157 ((y.2.1,a.path,()),())).bind fun b=>
(Io ((y.1.1,(),y.1.2.2.1,b.1.1,b.1.2.1,()),y.2.1,())).bind fun c=>
 bif c.1.2.2.2.2.2.2.2.1 then
 some (.inr (.inl (((),false,()),([]:List bM),())))
else
 bif(!c.1.2.2.2.2.1) then
(cO c.2.1 (0:Int) c.1.2.2.2.1).bind fun d=>
(dc 48 ([]:List bM) d).bind fun e=>
(bf c.1.1 c.1.2.2.1).bind fun f=>
(dc 48 e ([f]:List bM)).bind fun g=>
(cO c.2.1 c.1.2.2.2.1 (c.2.1.length:Int)).bind fun h=>
(dc 48 g h).bind fun i=>
 some (.inl ((c.1.1,(),(IntKind.i64.wrap (c.1.2.2.1+(1:Int))),()),i,()))
else
 some (.inl ((c.1.1,(),(IntKind.i64.wrap (c.1.2.2.1+(1:Int))),()),c.2.1,()))
else
 some (.inr (.inr (((),()),y.2.1,())))
noncomputable def JO:xq.F->Option (a7 Co):=bH YU
theorem Yk:bx ao (aU (codeOf Tryz.f96) 1 58) (bK xq Co JO):=cG Ff (by kernel_rfl) (bR Vv aH) fun y=>by kernel_rfl
abbrev i96:Shape:=⟨[aW 0 .entry,aW 1 .entry],[],69⟩
abbrev NH:Shape:=⟨[b3 4 3000256,a6 5],[cL 3000256 .entry 4 0],69⟩
noncomputable def f96(a:i96.F):Option NH.F:=
(f156 ((a.1.1,()),())).bind fun b=>
(JO ((a.1.2.1,(),(0:Int),()),b.2.1,())).bind fun c=>
(match c with
|.inl d=>
 some (((),d.1.2.1,()),d.2.1,())
|.inr e=>
(f158 ((e.2.1,()),())).bind fun f=>
 some (((),f.1.1,()),e.2.1,()))
noncomputable def O2:bp:=bN aV Tryz.f96 i96 NH [] f96
theorem abC:bu ao 96 O2:=bP Ff Tryz.func96 (by kernel_rfl) (bR Yk aH) (fun y=>by kernel_rfl) fun a=>by kernel_rfl
noncomputable abbrev aeg:cb:=[(158,D_),(161,D9),(162,D8),(163,MX)]
theorem aeH:bG ao (b9 aV aeg):=b8 ⟨K3,K2,z162,_o,⟨⟩⟩
abbrev i98:Shape:=⟨[e7 0 [bY,bY,fE .need,fE .entry]],[],23⟩
abbrev NG:Shape:=⟨[a6 2],[],23⟩
noncomputable def f98(a:i98.F):Option NG.F:=
(f161 ((a.1.1.1,()),())).bind fun b=>
 bif b.1.1 then
(f162 ((a.1.1.2.1,()),())).bind fun c=>
 bif c.1.1 then
(f163 ((a.1.1.1,a.1.1.2.2.1,()),())).bind fun d=>
 bif d.1.1 then
(f158 ((a.1.1.2.2.2.1,()),())).bind fun e=>
 some ((e.1.1,()),())
else
 some ((false,()),())
else
 some ((false,()),())
else
 some ((false,()),())
noncomputable def Fb:bp:=bN aV Tryz.f98 i98 NG [] f98
theorem Nu:bu ao 98 Fb:=bP aeH Tryz.func98 (by kernel_rfl) aH (fun y=>by kernel_rfl) fun a=>by kernel_rfl
abbrev uZ(p:a'):Prop:=cZ p.name.length/\cZ p.b_.length/\ub p.bZ/\Ei p.cE
abbrev k3(ps:List a'):Prop:=cZ ps.length/\∀p,p∈ps->uZ p
def gQ(p:a'):Bool:=kR p.name&&hk p.b_&&s4 p.name p.bZ&&il p.cE
theorem U8(a)(hb:uZ ⟨a.1.1.1,a.1.1.2.1,a.1.1.2.2.1,a.1.1.2.2.2.1⟩):f98 a=some ((gQ ⟨a.1.1.1,a.1.1.2.1,a.1.1.2.2.1,a.1.1.2.2.2.1⟩,()),()):=by
 obtain⟨⟨⟨n,v,ap,t,u⟩,bW⟩,ou⟩:=a;obtain⟨h1,h2,Y,aP⟩:=hb;have h1:n.length<=2097152:=h1;have e1:=HJ ((n,()),()) (show n.length<=1099511627776 by omega)
 have e2:=F' ((v,()),()) h2;have cf:=Tr ((n,(ap,())),()) Y h1;have eV:=U6 ((t,()),()) aP;simp only[f98,e1,e2,cf,eV,Option.bind_some,gQ];cases kR n<;>cases hk v<;>cases s4 n ap<;>rfl
theorem Tx(a)(hb:uZ ⟨a.1.1.1,a.1.1.2.1,a.1.1.2.2.1,a.1.1.2.2.2.1⟩):f74 a=some ((gQ ⟨a.1.1.1,a.1.1.2.1,a.1.1.2.2.1,a.1.1.2.2.2.1⟩,()),()):=by
 obtain⟨⟨⟨n,v,ap,t,u⟩,bW⟩,ou⟩:=a;obtain⟨h1,h2,Y,aP⟩:=hb;have h1:n.length<=2097152:=h1;have e1:=F0 ((n,()),()) (show n.length<=1099511627776 by omega)
 have e2:=F1 ((v,()),()) h2;have cf:=TE ((ap,((),())),()) Y;have eV:=Tw ((t,()),()) aP;have gx:=QZ ((ap,((),(([n]:List G),()))),()) Y (Nat.le_refl _);have eu:decide ((ap.length:Int)>6)=!decide (ap.length<=6):=by by_cases h:ap.length<=6<;>simp only[h,decide_true,decide_false,Bool.not_true,Bool.not_false,decide_eq_true_eq,decide_eq_false_iff_not]<;>omega
 have U:gU [] (n::ap.map (·.name))=gU [n] (ap.map (·.name)):=by simp[gU]
 simp only[f74,CZ,e1,e2,Option.bind_some,gQ,s4,U,eu,Bool.not_not];cases kR n with
 |false=>rfl
 |true=>
  cases hk v with
  |false=>rfl
  |true=>
   cases decide (ap.length<=6) with
   |false=>simp only[cond_true,Bool.not_false,Option.bind_some,Bool.and_false,Bool.false_and]
   |true=>
    simp only[cond_true,Bool.not_true,cond_false,Option.bind_some,cf,gx,eV,Bool.true_and,Bool.and_true];cases List.all ap jg<;>cases gU [n] (ap.map (·.name))<;>rfl
theorem TD(a)(L:k3 a.1.1):x6 a=some ((a.1.1.all gQ,()),()):=by
 obtain⟨⟨ps,u⟩,bW⟩:=a;obtain⟨hl,hn⟩:=L;have hl:ps.length<=2097152:=hl;have key:Al (((),(ps,((ps.length:Int),((0:Int),())))),())=some (bif allI (fun _ n=>gQ n) 0 ps then .inr ((),()) else .inl ((false,()),())):=by
  refine hi vL ps (fun i=>(((),(ps,((ps.length:Int),((i:Int),())))),())) _ _ _ (fun i x hx=>?_) ?_
  ·have af:=c8 hx;have hw:aN i:=by unfold aN;omega
   have hb:=hn x (List.mem_of_getElem? hx);simp only[vL,cU af,cond_true,cI,hx,Option.bind_some];rw[Tx _ hb];simp only[Option.bind_some,cH hw];cases gQ x<;>rfl
  ·simp only[vL,du,cond_false]
 rw[ig] at key;simp only[x6,key,Option.bind_some];cases List.all ps gQ<;>rfl
def Zu(ps:List a')(i:Nat)(x:a'):Bool:=match ps[i]? with
 |some q=>Op.bytesLess q.name x.name
 |none=>false
def Ms(ps:List a'):Bool:=allI (Zu ps) 0 ps.tail
def zm(a b:bM):Bool:=a.path==b.path&&(a.kind==b.kind&&(a.mode==b.mode&&a.text==b.text))
def tY(e q:bM):Bool:=e.kind !=1||!zm e q
def oc(t:List bM)(k:Nat)(e:bM):List bM:=t.take k++[e]++t.drop k
def kV(out:List bM):List bM->Option (List bM)
 |[]=>some out
 |e::r=>match out[cm out e.path]? with
  |some q=>bif q.path==e.path then(bif tY e q then none else kV out r) else kV (oc out (cm out e.path) e) r
  |none=>kV (oc out (cm out e.path) e) r
theorem Uy{t:List bM}{k:Nat}{e x:bM}(h:x∈oc t k e):x=e\/x∈t:=by
 unfold oc at h;rcases List.mem_append.1 h with h|h
 ·rcases List.mem_append.1 h with h|h
  ·exact .inr (List.mem_of_mem_take h)
  ·exact .inl (by simpa using h)
 ·exact .inr (List.mem_of_mem_drop h)
def ya(out:List bM)(e:bM):Option (List bM):=match out[cm out e.path]? with
 |some q=>bif q.path==e.path then(bif tY e q then none else some out) else some (oc out (cm out e.path) e)
 |none=>some (oc out (cm out e.path) e)
theorem SS(out:List bM)(e:bM)(r:List bM):kV out (e::r)=(ya out e).bind fun D=>kV D r:=by
 unfold ya;rw[kV];cases out[cm out e.path]? with
 |none=>rfl
 |some q=>
  simp only;cases (q.path==e.path) with
  |false=>rfl
  |true=>cases tY e q<;>rfl
noncomputable abbrev aeu:cb:=[(96,O2)]
theorem PH:bG ao (b9 aV aeu):=b8 ⟨abC,⟨⟩⟩
abbrev xC:Shape:=⟨[aW 0 .pack,b3 4 3000256,aj 5],[cL 3000256 .entry 4 0],30⟩
abbrev Cy:List bh:=[(.ret,⟨[b3 2 3000128,a6 3],[cL 3000128 .entry 2 0],30⟩),(.exit 0,⟨[b3 4 3000256],[cL 3000256 .entry 4 0],30⟩)]
noncomputable def YW(y:xC.F):cq xC Cy:=
 bif(decide (y.1.2.2.1<(y.1.1.length:Int))) then
(bf y.1.1 y.1.2.2.1).bind fun a=>
(f96 ((y.2.1,a.cE,()),())).bind fun b=>
 bif(!b.1.2.1) then
 some (.inr (.inl (((),false,()),([]:List bM),())))
else
 some (.inl ((y.1.1,(),(IntKind.i64.wrap (y.1.2.2.1+(1:Int))),()),b.2.1,()))
else
 some (.inr (.inr (((),()),y.2.1,())))
noncomputable def JQ:xC.F->Option (a7 Cy):=bH YW
theorem Yy:bx ao (aU (codeOf Tryz.f51) 1 58) (bK xC Cy JQ):=cG PH (by kernel_rfl) aH fun y=>by kernel_rfl
abbrev i51:Shape:=⟨[aW 0 .pack],[],30⟩
abbrev NZ:Shape:=⟨[b3 2 3000128,a6 3],[cL 3000128 .entry 2 0],30⟩
noncomputable def f51(a:i51.F):Option NZ.F:=
(JQ ((a.1.1,(),(0:Int),()),([]:List bM),())).bind fun b=>
(match b with
|.inl c=>
 some (((),c.1.2.1,()),c.2.1,())
|.inr d=>
 some (((),true,()),d.2.1,()))
noncomputable def Pg:bp:=bN aV Tryz.f51 i51 NZ [] f51
theorem z51:bu ao 51 Pg:=bP PH Tryz.func51 (by kernel_rfl) (bR Yy aH) (fun y=>by kernel_rfl) fun a=>by kernel_rfl
theorem GA{t:List bM}(h:il t=true):hN t:=by
 unfold il at h;simp only[Bool.and_eq_true] at h;exact J9 h.1.1
def lq(out:List bM):List a'->Option (List bM)
 |[]=>some out
 |p::r=>match kV out p.cE with
  |some D=>bif il D then lq D r else none
  |none=>none
def stepT(out:List bM)(p:a'):Option (List bM):=match kV out p.cE with
 |some D=>bif il D then some D else none
 |none=>none
theorem Ga(out:List bM)(p:a')(r:List a'):lq out (p::r)=(stepT out p).bind fun D=>lq D r:=by
 unfold stepT;rw[lq];cases kV out p.cE with
 |none=>rfl
 |some D=>simp only;cases il D<;>rfl
theorem H0{out D:List bM}{p:a'}(h:stepT out p=some D):il D=true/\kV out p.cE=some D:=by
 unfold stepT at h;split at h
 ·rename_i cX an;cases aC:il cX with
  |true=>rw[aC] at h;cases h;exact⟨aC,an⟩
  |false=>rw[aC] at h;cases h
 ·cases h
abbrev H8:Shape:=⟨[aW 0 .i64,aW 1 .i64,aj 5],[],42⟩
abbrev HW:List bh:=[(.norm,⟨[aW 0 .i64,aW 1 .i64,aj 5],[],42⟩),(.exit 0,⟨[],[],42⟩)]
noncomputable def Ip(y:H8.F):Option (a7 HW):=
 bif(!(decide (y.1.2.2.1<(y.1.1.length:Int)))) then
 bif(decide (y.1.2.2.1<(y.1.2.1.length:Int))) then
 some (.inl ((y.1.1,y.1.2.1,y.1.2.2.1,()),()))
else
 some (.inr ((),()))
else
 some (.inl ((y.1.1,y.1.2.1,y.1.2.2.1,()),()))
theorem VH:bx ao (aU (eH (aU (codeOf Tryz.f182) 1 26)) 52 104) (bK H8 HW Ip):=e9 g0 (by kernel_rfl) aH fun y=>by kernel_rfl
abbrev Hb:Shape:=⟨[aW 0 .i64,aW 1 .i64,aj 5,aj 6,aj 7],[],42⟩
abbrev G4:List bh:=[(.norm,⟨[aW 0 .i64,aW 1 .i64,aj 5,aj 6,aj 7],[],42⟩)]
noncomputable def Hw(y:Hb.F):Option (a7 G4):=
 bif(decide (y.1.2.2.1<(y.1.1.length:Int))) then
(bf y.1.1 y.1.2.2.1).bind fun a=>
 some ((y.1.1,y.1.2.1,y.1.2.2.1,a,y.1.2.2.2.2.1,()),())
else
 some ((y.1.1,y.1.2.1,y.1.2.2.1,y.1.2.2.2.1,y.1.2.2.2.2.1,()),())
theorem T':bx ao (aU (eH (aU (codeOf Tryz.f182) 1 26)) 52 3366) (bK Hb G4 Hw):=e9 g0 (by kernel_rfl) aH fun y=>by kernel_rfl
abbrev Ha:Shape:=⟨[aW 0 .i64,aW 1 .i64,aj 5,aj 6,aj 7],[],42⟩
abbrev G3:List bh:=[(.norm,⟨[aW 0 .i64,aW 1 .i64,aj 5,aj 6,aj 7],[],42⟩)]
noncomputable def Hv(y:Ha.F):Option (a7 G3):=
 bif(decide (y.1.2.2.1<(y.1.2.1.length:Int))) then
(bf y.1.2.1 y.1.2.2.1).bind fun a=>
 some ((y.1.1,y.1.2.1,y.1.2.2.1,y.1.2.2.2.1,a,()),())
else
 some ((y.1.1,y.1.2.1,y.1.2.2.1,y.1.2.2.2.1,y.1.2.2.2.2.1,()),())
theorem T_:bx ao (aU (eH (aU (codeOf Tryz.f182) 1 26)) 52 6734) (bK Ha G3 Hv):=e9 g0 (by kernel_rfl) aH fun y=>by kernel_rfl
abbrev wD:Shape:=⟨[aW 0 .i64,aW 1 .i64,aj 5],[],42⟩
abbrev Bu:List bh:=[(.ret,⟨[aj 4],[],42⟩),(.exit 0,⟨[],[],42⟩)]
noncomputable def XO(y:wD.F):cq wD Bu:=
(Ip ((y.1.1,y.1.2.1,y.1.2.2.1,()),())).bind fun a=>
(match a with
|.inl b=>
(Hw ((b.1.1,b.1.2.1,b.1.2.2.1,((-1):Int),((-1):Int),()),())).bind fun c=>
(Hv ((c.1.1,c.1.2.1,c.1.2.2.1,c.1.2.2.2.1,c.1.2.2.2.2.1,()),())).bind fun d=>
 bif(decide (d.1.2.2.2.1<d.1.2.2.2.2.1)) then
 some (.inr (.inl ((((-1):Int),()),())))
else
 bif(decide (d.1.2.2.2.1>d.1.2.2.2.2.1)) then
 some (.inr (.inl (((1:Int),()),())))
else
 some (.inl ((d.1.1,d.1.2.1,(IntKind.i64.wrap (d.1.2.2.1+(1:Int))),()),()))
|.inr e=>
 some (.inr (.inr ((),()))))
noncomputable def Ja:wD.F->Option (a7 Bu):=bH XO
theorem W6:bx ao (aU (codeOf Tryz.f182) 1 26) (bK wD Bu Ja):=cG g0 (by kernel_rfl) (bR VH (bR T' (bR T_ aH))) fun y=>by kernel_rfl
abbrev i182:Shape:=⟨[aW 0 .i64,aW 1 .i64],[],42⟩
abbrev Lv:Shape:=⟨[aj 4],[],42⟩
noncomputable def f182(a:i182.F):Option Lv.F:=
(Ja ((a.1.1,a.1.2.1,(0:Int),()),())).bind fun b=>
(match b with
|.inl c=>
 some ((c.1.1,()),())
|.inr d=>
 some (((0:Int),()),()))
noncomputable def MT:bp:=bN aV Tryz.f182 i182 Lv [] f182
theorem z182:bu ao 182 MT:=bP g0 Tryz.func182 (by kernel_rfl) (bR W6 aH) (fun y=>by kernel_rfl) fun a=>by kernel_rfl
noncomputable abbrev abe:cb:=[(181,D7),(182,MT)]
theorem Nq:bG ao (b9 aV abe):=b8 ⟨K1,z182,⟨⟩⟩
abbrev IS:Shape:=⟨[b3 5 3000320,a6 6,b3 7 3000448,a6 8],[cL 3000320 .i64 5 0,cL 3000448 .i64 7 0],28⟩
abbrev IL:List bh:=[(.norm,⟨[b3 5 3000320,b3 7 3000448,a6 24],[cL 3000320 .i64 5 0,cL 3000448 .i64 7 0],28⟩)]
noncomputable def Jg(y:IS.F):Option (a7 IL):=
 bif(!(!y.1.2.1)) then
 some (((),(),(!y.1.2.2.2.1),()),y.2.1,y.2.2.1,())
else
 some (((),(),true,()),y.2.1,y.2.2.1,())
theorem Xe:bx ao (aU (codeOf Tryz.f126) 1 60) (bK IS IL Jg):=e9 Nq (by kernel_rfl) aH fun y=>by kernel_rfl
abbrev i126:Shape:=⟨[bc 0,bc 1],[],28⟩
abbrev LM:Shape:=⟨[aj 4],[],28⟩
noncomputable def f126(a:i126.F):Option LM.F:=
(f181 ((a.1.1,()),())).bind fun b=>
(f181 ((a.1.2.1,()),())).bind fun c=>
(Jg (((),b.1.2.1,(),c.1.2.1,()),b.2.1,c.2.1,())).bind fun d=>
 bif d.1.2.2.1 then
 some (((0:Int),()),())
else
(f182 ((d.2.1,d.2.2.1,()),())).bind fun e=>
 some ((e.1.1,()),())
noncomputable def M5:bp:=bN aV Tryz.f126 i126 LM [] f126
theorem _t:bu ao 126 M5:=bP Nq Tryz.func126 (by kernel_rfl) (bR Xe aH) (fun y=>by kernel_rfl) fun a=>by kernel_rfl
abbrev i259:Shape:=⟨[aj 0],[],6⟩
abbrev _V:Shape:=⟨[a6 2],[],6⟩
noncomputable def f259(a:i259.F):Option _V.F:=
 some (((a.1.1 !=a.1.1),()),())
abbrev i224:Shape:=⟨[aj 0,aj 1],[],20⟩
abbrev _W:Shape:=⟨[aj 4],[],20⟩
noncomputable def f224(a:i224.F):Option _W.F:=
(f259 ((a.1.1,()),())).bind fun b=>
(f259 ((a.1.2.1,()),())).bind fun c=>
 bif b.1.1 then
 bif c.1.1 then
 some (((0:Int),()),())
else
 some ((((-1):Int),()),())
else
 bif c.1.1 then
 some (((1:Int),()),())
else
 bif(decide (a.1.1<a.1.2.1)) then
 some ((((-1):Int),()),())
else
 bif(decide (a.1.1>a.1.2.1)) then
 some (((1:Int),()),())
else
 some (((0:Int),()),())
abbrev BI:Shape:=⟨[aW 0 .i64,aW 1 .i64,aW 9 .i64,aj 10,aj 11],[],36⟩
abbrev II:List bh:=[(.ret,⟨[aj 4],[],36⟩),(.exit 0,⟨[aW 0 .i64,aW 1 .i64],[],36⟩)]
noncomputable def XN(y:BI.F):cq BI II:=
 bif(decide (y.1.2.2.2.2.1<y.1.2.2.2.1)) then
(bf y.1.2.2.1 y.1.2.2.2.2.1).bind fun a=>
 bif(decide (y.1.2.2.2.2.1>=(y.1.2.1.length:Int))) then
 some (.inr (.inl (((1:Int),()),())))
else
(bf y.1.2.1 y.1.2.2.2.2.1).bind fun b=>
(f224 ((a,b,()),())).bind fun c=>
 bif(c.1.1 !=(0:Int)) then
 some (.inr (.inl ((c.1.1,()),())))
else
 some (.inl ((y.1.1,y.1.2.1,y.1.2.2.1,y.1.2.2.2.1,(IntKind.i64.wrap (y.1.2.2.2.2.1+(1:Int))),()),()))
else
 some (.inr (.inr ((y.1.1,y.1.2.1,()),())))
noncomputable def Xz:BI.F->Option (a7 II):=bH XN
abbrev i184:Shape:=⟨[aW 0 .i64,aW 1 .i64],[],36⟩
abbrev _Y:Shape:=⟨[aj 4],[],36⟩
noncomputable def f184(a:i184.F):Option _Y.F:=
(Xz ((a.1.1,a.1.2.1,a.1.1,(a.1.1.length:Int),(0:Int),()),())).bind fun b=>
(match b with
|.inl c=>
 some ((c.1.1,()),())
|.inr d=>
 bif(decide ((d.1.1.length:Int)<(d.1.2.1.length:Int))) then
 some ((((-1):Int),()),())
else
 some (((0:Int),()),()))
abbrev i128:Shape:=⟨[aW 0 .i64,aW 1 .i64],[],8⟩
abbrev _Z:Shape:=⟨[aj 4],[],8⟩
noncomputable def f128(a:i128.F):Option _Z.F:=
(f184 ((a.1.1,a.1.2.1,()),())).bind fun b=>
 some ((b.1.1,()),())
noncomputable abbrev aa2:cb:=[(126,M5)]
theorem abr:bG ao (b9 aV aa2):=b8 ⟨_t,⟨⟩⟩
abbrev i192:Shape:=⟨[e7 0 [bY,dh,bY],bc 1,bc 2],[],30⟩
abbrev Lu:Shape:=⟨[a6 6],[],30⟩
noncomputable def f192(a:i192.F):Option Lu.F:=
 bif(!(a.1.1.1==a.1.2.1)) then
 some ((false,()),())
else
(f126 ((a.1.2.2.1,a.1.1.2.2.1,()),())).bind fun b=>
 bif(a.1.1.2.1==(1:Int)) then
 some (((b.1.1==(0:Int)),()),())
else
 bif(a.1.1.2.1==(2:Int)) then
 some (((decide (b.1.1>=(0:Int))),()),())
else
 bif(a.1.1.2.1==(3:Int)) then
 some (((decide (b.1.1<(0:Int))),()),())
else
 some ((true,()),())
noncomputable def MS:bp:=bN aV Tryz.f192 i192 Lu [] f192
theorem _l:bu ao 192 MS:=bP abr Tryz.func192 (by kernel_rfl) aH (fun y=>by kernel_rfl) fun a=>by kernel_rfl
def K9:List Int->List Int->Int
 |[],[]=>0
 |[],_::_=>-1
 |_::_,[]=>1
 |x::a,y::b=>bif decide (x<y) then-1 else bif decide (x>y) then 1 else K9 a b
theorem drop_cons{aA:Type}{xs:List aA}{k:Nat}{x:aA}{r:List aA}(h:xs.drop k=x::r):xs[k]? =some x/\xs.drop (k+1)=r/\k<xs.length:=by
 have h1:xs[k]? =some x:=by
  have:=congrArg (fun l=>l[0]?) h
  simpa using this
 refine⟨h1,?_,c8 h1⟩;have:=congrArg List.tail h;simpa using this
theorem drop_nil{aA:Type}{xs:List aA}{k:Nat}(h:xs.drop k=[]):xs.length<=k:=by
 have:=congrArg List.length h;simp at this;omega
def Dy(a b:G):Int:=bif hk a&&hk b then K9 (qX a) (qX b) else 0
def KP(n:dE)(v:G):Bool:=bif n.kind==1 then Dy v n.b_==0 else bif n.kind==2 then decide (Dy v n.b_>=0) else bif n.kind==3 then decide (Dy v n.b_<0) else true
abbrev wM:Shape:=⟨[aW 0 .pack,bc 1,aj 5],[],20⟩
abbrev BB:List bh:=[(.ret,⟨[aj 4],[],20⟩),(.exit 0,⟨[],[],20⟩)]
noncomputable def XQ(y:wM.F):cq wM BB:=
 bif(decide (y.1.2.2.1<(y.1.1.length:Int))) then
(bf y.1.1 y.1.2.2.1).bind fun a=>
 bif(a.name==y.1.2.1) then
 some (.inr (.inl ((y.1.2.2.1,()),())))
else
 some (.inl ((y.1.1,y.1.2.1,(IntKind.i64.wrap (y.1.2.2.1+(1:Int))),()),()))
else
 some (.inr (.inr ((),())))
noncomputable def Jc:wM.F->Option (a7 BB):=bH XQ
theorem Xh:bx ao (aU (codeOf Tryz.f104) 1 26) (bK wM BB Jc):=cG g0 (by kernel_rfl) aH fun y=>by kernel_rfl
abbrev i104:Shape:=⟨[aW 0 .pack,bc 1],[],20⟩
abbrev LY:Shape:=⟨[aj 4],[],20⟩
noncomputable def f104(a:i104.F):Option LY.F:=
(Jc ((a.1.1,a.1.2.1,(0:Int),()),())).bind fun b=>
(match b with
|.inl c=>
 some ((c.1.1,()),())
|.inr d=>
 some ((((-1):Int),()),()))
noncomputable def Nc:bp:=bN aV Tryz.f104 i104 LY [] f104
theorem _A:bu ao 104 Nc:=bP g0 Tryz.func104 (by kernel_rfl) (bR Xh aH) (fun y=>by kernel_rfl) fun a=>by kernel_rfl
noncomputable abbrev abc:cb:=[(104,Nc),(192,MS)]
theorem yU:bG ao (b9 aV abc):=b8 ⟨_A,_l,⟨⟩⟩
abbrev Gd:Shape:=⟨[aW 0 .pack,aj 3,aj 4,dK 5 5 0,aj 6],[dJ 5 [bY,dh,bY]],49⟩
abbrev Gb:List bh:=[(.norm,⟨[aW 0 .pack,aj 3,aj 4,aj 35,a6 36,a6 37,a6 48],[],49⟩)]
noncomputable def Gp(y:Gd.F):Option (a7 Gb):=
 bif(decide (y.1.2.2.2.2.1<(0:Int))) then
 some ((y.1.1,y.1.2.1,y.1.2.2.1,y.1.2.2.2.2.1,(decide (y.1.2.2.2.2.1<(0:Int))),true,true,()),())
else
(bf y.1.1 y.1.2.2.2.2.1).bind fun a=>
(f192 (((y.2.1.1,y.2.1.2.1,y.2.1.2.2.1,()),y.2.1.1,a.b_,()),())).bind fun b=>
 some ((y.1.1,y.1.2.1,y.1.2.2.1,y.1.2.2.2.2.1,(decide (y.1.2.2.2.2.1<(0:Int))),false,(!b.1.1),()),())
theorem RN:bx ao (aU (eH (aU (eH (aU (codeOf Tryz.f135) 1 26)) 52 1682)) 3364 215334) (bK Gd Gb Gp):=e9 yU (by kernel_rfl) aH fun y=>by kernel_rfl
abbrev vB:Shape:=⟨[aW 0 .pack,aj 3,aj 4],[],49⟩
abbrev Aa:List bh:=[(.ret,⟨[a6 2],[],49⟩),(.exit 2,⟨[aW 0 .pack,aj 3],[],49⟩)]
noncomputable def UD(y:vB.F):cq vB Aa:=
(bf y.1.1 y.1.2.1).bind fun a=>
 bif(decide (y.1.2.2.1<(a.bZ.length:Int))) then
(bf y.1.1 y.1.2.1).bind fun b=>
(bf b.bZ y.1.2.2.1).bind fun c=>
(f104 ((y.1.1,c.name,()),())).bind fun d=>
(Gp ((y.1.1,y.1.2.1,y.1.2.2.1,(),d.1.1,()),(c.name,c.kind,c.b_,()),())).bind fun e=>
 bif e.1.2.2.2.2.2.2.1 then
 some (.inr (.inl ((false,()),())))
else
 some (.inl ((e.1.1,e.1.2.1,(IntKind.i64.wrap (e.1.2.2.1+(1:Int))),()),()))
else
 some (.inr (.inr ((y.1.1,y.1.2.1,()),())))
noncomputable def Ho:vB.F->Option (a7 Aa):=bH UD
theorem Uc:bx ao (aU (eH (aU (codeOf Tryz.f135) 1 26)) 52 1682) (bK vB Aa Ho):=cG yU (by kernel_rfl) (bR RN aH) fun y=>by kernel_rfl
abbrev wJ:Shape:=⟨[aW 0 .pack,aj 3],[],49⟩
abbrev By:List bh:=[(.ret,⟨[a6 2],[],49⟩),(.exit 0,⟨[],[],49⟩)]
noncomputable def XP(y:wJ.F):cq wJ By:=
 bif(decide (y.1.2.1<(y.1.1.length:Int))) then
(Ho ((y.1.1,y.1.2.1,(0:Int),()),())).bind fun a=>
(match a with
|.inl b=>
 some (.inr (.inl ((b.1.1,()),())))
|.inr c=>
 some (.inl ((c.1.1,(IntKind.i64.wrap (c.1.2.1+(1:Int))),()),())))
else
 some (.inr (.inr ((),())))
noncomputable def Jb:wJ.F->Option (a7 By):=bH XP
theorem Xc:bx ao (aU (codeOf Tryz.f135) 1 26) (bK wJ By Jb):=cG yU (by kernel_rfl) (bR Uc aH) fun y=>by kernel_rfl
abbrev i135:Shape:=⟨[aW 0 .pack],[],49⟩
abbrev LK:Shape:=⟨[a6 2],[],49⟩
noncomputable def f135(a:i135.F):Option LK.F:=
(Jb ((a.1.1,(0:Int),()),())).bind fun b=>
(match b with
|.inl c=>
 some ((c.1.1,()),())
|.inr d=>
 some ((true,()),()))
noncomputable def M3:bp:=bN aV Tryz.f135 i135 LK [] f135
theorem _s:bu ao 135 M3:=bP yU Tryz.func135 (by kernel_rfl) (bR Xc aH) (fun y=>by kernel_rfl) fun a=>by kernel_rfl
noncomputable abbrev aek:cb:=[(51,Pg),(98,Fb),(135,M3)]
theorem Fh:bG ao (b9 aV aek):=b8 ⟨z51,Nu,_s,⟨⟩⟩
abbrev IN:Shape:=⟨[aW 0 .pack,aj 3],[],52⟩
abbrev ID:List bh:=[(.norm,⟨[aW 0 .pack,aj 3,aW 12 .pack,aj 13,(14,.ak (.eS [.str,.str,.sl .need,.sl .entry] 0)),e7 15 [bY,bY,fE .need,fE .entry],a6 16,a6 17,a6 18,a6 35],[],52⟩)]
noncomputable def Jf(y:IN.F):Option (a7 ID):=
(bf y.1.1 y.1.2.1).bind fun a=>
(f98 (((a.name,a.b_,a.bZ,a.cE,()),()),())).bind fun b=>
 bif(!b.1.1) then
 some ((y.1.1,y.1.2.1,y.1.1,y.1.2.1,(a.name,a.b_,a.bZ,a.cE,()),(a.name,a.b_,a.bZ,a.cE,()),b.1.1,(!b.1.1),true,true,()),())
else
 bif(decide (y.1.2.1>(0:Int))) then
(bf y.1.1 (IntKind.i64.wrap (y.1.2.1-(1:Int)))).bind fun c=>
(bf y.1.1 y.1.2.1).bind fun d=>
 some ((y.1.1,y.1.2.1,y.1.1,y.1.2.1,(a.name,a.b_,a.bZ,a.cE,()),(a.name,a.b_,a.bZ,a.cE,()),b.1.1,(!b.1.1),false,(!(Op.bytesLess c.name d.name)),()),())
else
 some ((y.1.1,y.1.2.1,y.1.1,y.1.2.1,(a.name,a.b_,a.bZ,a.cE,()),(a.name,a.b_,a.bZ,a.cE,()),b.1.1,(!b.1.1),false,false,()),())
theorem WO:bx ao (aU (eH (aU (codeOf Tryz.f85) 1 26)) 52 840) (bK IN ID Jf):=e9 Fh (by kernel_rfl) aH fun y=>by kernel_rfl
abbrev xu:Shape:=⟨[aW 0 .pack,aj 3],[],52⟩
abbrev Cq:List bh:=[(.ret,⟨[aj 2],[],52⟩),(.exit 0,⟨[aW 0 .pack],[],52⟩)]
noncomputable def YV(y:xu.F):cq xu Cq:=
 bif(decide (y.1.2.1<(y.1.1.length:Int))) then
(Jf ((y.1.1,y.1.2.1,()),())).bind fun a=>
 bif a.1.2.2.2.2.2.2.2.2.2.1 then
 some (.inr (.inl (((1:Int),()),())))
else
 some (.inl ((a.1.1,(IntKind.i64.wrap (a.1.2.1+(1:Int))),()),()))
else
 some (.inr (.inr ((y.1.1,()),())))
noncomputable def JP:xu.F->Option (a7 Cq):=bH YV
theorem Yo:bx ao (aU (codeOf Tryz.f85) 1 26) (bK xu Cq JP):=cG Fh (by kernel_rfl) (bR WO aH) fun y=>by kernel_rfl
abbrev i85:Shape:=⟨[aW 0 .pack],[],52⟩
abbrev NN:Shape:=⟨[aj 2],[],52⟩
noncomputable def f85(a:i85.F):Option NN.F:=
(JP ((a.1.1,(0:Int),()),())).bind fun b=>
(match b with
|.inl c=>
 some ((c.1.1,()),())
|.inr d=>
(f51 ((d.1.1,()),())).bind fun e=>
 bif(decide ((d.1.1.length:Int)>(5:Int))) then
 some (((6:Int),()),())
else
(f135 ((d.1.1,()),())).bind fun f=>
 bif(!f.1.1) then
 some (((4:Int),()),())
else
 bif(!e.1.2.1) then
 some (((5:Int),()),())
else
 some (((0:Int),()),()))
noncomputable def O6:bp:=bN aV Tryz.f85 i85 NN [] f85
theorem z85:bu ao 85 O6:=bP Fh Tryz.func85 (by kernel_rfl) (bR Yo aH) (fun y=>by kernel_rfl) fun a=>by kernel_rfl
noncomputable abbrev aev:cb:=[(85,O6)]
theorem aeJ:bG ao (b9 aV aev):=b8 ⟨z85,⟨⟩⟩
abbrev i46:Shape:=⟨[e7 0 [fE .pack]],[],7⟩
abbrev N0:Shape:=⟨[a6 2],[],7⟩
noncomputable def f46(a:i46.F):Option N0.F:=
(f85 ((a.1.1.1,()),())).bind fun b=>
 some (((b.1.1==(0:Int)),()),())
noncomputable def aeb:bp:=bN aV Tryz.f46 i46 N0 [] f46
theorem z46:bu ao 46 aeb:=bP aeJ Tryz.func46 (by kernel_rfl) aH (fun y=>by kernel_rfl) fun a=>by kernel_rfl
abbrev Qg(ps:List a'):Prop:=∀p,p∈ps->p.b_.length<=2097151/\∀n,n∈p.bZ->n.b_.length<=2097151
def Kt(ps:List a')(n:dE):Bool:=match ps.find? (fun q=>q.name==n.name) with
 |some q=>KP n q.b_
 |none=>false
def JB(ps:List a'):Bool:=ps.all gQ&&Ms ps&&decide (ps.length<=5)&&ps.all (fun p=>p.bZ.all (Kt ps))&&(lq [] ps).isSome
def Dk(ps:List a'):Int:=bif ps.all gQ&&Ms ps then(bif decide (ps.length<=5) then(bif ps.all (fun p=>p.bZ.all (Kt ps)) then(bif(lq [] ps).isSome then 0 else 5) else 4) else 6) else 1
abbrev i113:Shape:=⟨[e7 0 [bY,dh,bY],aj 1],[],20⟩
abbrev LW:Shape:=⟨[aj 4],[],20⟩
noncomputable def f113(a:i113.F):Option LW.F:=
 bif(decide ((IntKind.i64.wrap (a.1.2.1-(a.1.1.1.length:Int)))<(0:Int))) then
 some ((((-1):Int),()),())
else
 bif(decide ((IntKind.i64.wrap ((IntKind.i64.wrap (a.1.2.1-(a.1.1.1.length:Int)))-(a.1.1.2.2.1.length:Int)))<(0:Int))) then
 some ((((-1):Int),()),())
else
 some (((IntKind.i64.wrap ((IntKind.i64.wrap (a.1.2.1-(a.1.1.1.length:Int)))-(a.1.1.2.2.1.length:Int))),()),())
noncomputable def Na:bp:=bN aV Tryz.f113 i113 LW [] f113
theorem _y:bu ao 113 Na:=bP g0 Tryz.func113 (by kernel_rfl) aH (fun y=>by kernel_rfl) fun a=>by kernel_rfl
abbrev i114:Shape:=⟨[e7 0 [bY,dh,dh,bY],aj 1],[],20⟩
abbrev LV:Shape:=⟨[aj 4],[],20⟩
noncomputable def f114(a:i114.F):Option LV.F:=
 bif(decide ((IntKind.i64.wrap (a.1.2.1-(a.1.1.1.length:Int)))<(0:Int))) then
 some ((((-1):Int),()),())
else
 bif(decide ((IntKind.i64.wrap ((IntKind.i64.wrap (a.1.2.1-(a.1.1.1.length:Int)))-(a.1.1.2.2.2.1.length:Int)))<(0:Int))) then
 some ((((-1):Int),()),())
else
 some (((IntKind.i64.wrap ((IntKind.i64.wrap (a.1.2.1-(a.1.1.1.length:Int)))-(a.1.1.2.2.2.1.length:Int))),()),())
noncomputable def M':bp:=bN aV Tryz.f114 i114 LV [] f114
theorem _x:bu ao 114 M':=bP g0 Tryz.func114 (by kernel_rfl) aH (fun y=>by kernel_rfl) fun a=>by kernel_rfl
abbrev i116:Shape:=⟨[e7 0 [bY,dh,bY]],[],14⟩
abbrev LU:Shape:=⟨[dK 2 2 0],[dJ 2 [bY,dh,bY]],14⟩
noncomputable def f116(a:i116.F):Option LU.F:=
 some (((),()),(a.1.1.1,a.1.1.2.1,a.1.1.2.2.1,()),())
noncomputable def M_:bp:=bN aV Tryz.f116 i116 LU [] f116
theorem z116:bu ao 116 M_:=bP g0 Tryz.func116 (by kernel_rfl) aH (fun y=>by kernel_rfl) fun a=>by kernel_rfl
abbrev i117:Shape:=⟨[e7 0 [bY,dh,dh,bY]],[],17⟩
abbrev LS:Shape:=⟨[dK 2 2 0],[dJ 2 [bY,dh,dh,bY]],17⟩
noncomputable def f117(a:i117.F):Option LS.F:=
 some (((),()),(a.1.1.1,a.1.1.2.1,a.1.1.2.2.1,a.1.1.2.2.2.1,()),())
noncomputable def M9:bp:=bN aV Tryz.f117 i117 LS [] f117
theorem z117:bu ao 117 M9:=bP g0 Tryz.func117 (by kernel_rfl) aH (fun y=>by kernel_rfl) fun a=>by kernel_rfl
abbrev i125:Shape:=⟨[e7 0 [bY,dh,bY],e7 1 [bY,dh,bY]],[],20⟩
abbrev LN:Shape:=⟨[a6 4],[],20⟩
noncomputable def f125(a:i125.F):Option LN.F:=
 bif(!(a.1.1.1==a.1.2.1.1)) then
 some ((false,()),())
else
 bif(a.1.1.2.1 !=a.1.2.1.2.1) then
 some ((false,()),())
else
 bif(!(a.1.1.2.2.1==a.1.2.1.2.2.1)) then
 some ((false,()),())
else
 some ((true,()),())
noncomputable def M6:bp:=bN aV Tryz.f125 i125 LN [] f125
theorem _u:bu ao 125 M6:=bP g0 Tryz.func125 (by kernel_rfl) aH (fun y=>by kernel_rfl) fun a=>by kernel_rfl
abbrev i53:Shape:=⟨[e7 0 [bY,dh,dh,bY],e7 1 [bY,dh,dh,bY]],[],25⟩
abbrev NY:Shape:=⟨[a6 4],[],25⟩
noncomputable def f53(a:i53.F):Option NY.F:=
 bif(!(a.1.1.1==a.1.2.1.1)) then
 some ((false,()),())
else
 bif(a.1.1.2.1 !=a.1.2.1.2.1) then
 some ((false,()),())
else
 bif(a.1.1.2.2.1 !=a.1.2.1.2.2.1) then
 some ((false,()),())
else
 bif(!(a.1.1.2.2.2.1==a.1.2.1.2.2.2.1)) then
 some ((false,()),())
else
 some ((true,()),())
noncomputable def Pf:bp:=bN aV Tryz.f53 i53 NY [] f53
theorem z53:bu ao 53 Pf:=bP g0 Tryz.func53 (by kernel_rfl) aH (fun y=>by kernel_rfl) fun a=>by kernel_rfl
noncomputable abbrev aeF:cb:=[(53,Pf)]
theorem PM:bG ao (b9 aV aeF):=b8 ⟨z53,⟨⟩⟩
abbrev xG:Shape:=⟨[aW 0 .entry,aW 1 .entry,aj 5],[],27⟩
abbrev CD:List bh:=[(.ret,⟨[a6 4],[],27⟩),(.exit 0,⟨[],[],27⟩)]
noncomputable def x1(y:xG.F):cq xG CD:=
 bif(decide (y.1.2.2.1<(y.1.1.length:Int))) then
(bf y.1.1 y.1.2.2.1).bind fun a=>
(bf y.1.2.1 y.1.2.2.1).bind fun b=>
(f53 (((a.path,a.kind,a.mode,a.text,()),(b.path,b.kind,b.mode,b.text,()),()),())).bind fun c=>
 bif(!c.1.1) then
 some (.inr (.inl ((false,()),())))
else
 some (.inl ((y.1.1,y.1.2.1,(IntKind.i64.wrap (y.1.2.2.1+(1:Int))),()),()))
else
 some (.inr (.inr ((),())))
noncomputable def CW:xG.F->Option (a7 CD):=bH x1
theorem YD:bx ao (aU (codeOf Tryz.f15) 1 58) (bK xG CD CW):=cG PM (by kernel_rfl) aH fun y=>by kernel_rfl
abbrev i15:Shape:=⟨[aW 0 .entry,aW 1 .entry],[],27⟩
abbrev N':Shape:=⟨[a6 4],[],27⟩
noncomputable def f15(a:i15.F):Option N'.F:=
 bif((a.1.1.length:Int) !=(a.1.2.1.length:Int)) then
 some ((false,()),())
else
(CW ((a.1.1,a.1.2.1,(0:Int),()),())).bind fun b=>
(match b with
|.inl c=>
 some ((c.1.1,()),())
|.inr d=>
 some ((true,()),()))
noncomputable def Ps:bp:=bN aV Tryz.f15 i15 N' [] f15
theorem abS:bu ao 15 Ps:=bP PM Tryz.func15 (by kernel_rfl) (bR YD aH) (fun y=>by kernel_rfl) fun a=>by kernel_rfl
noncomputable abbrev aeq:cb:=[(113,Na)]
theorem PD:bG ao (b9 aV aeq):=b8 ⟨_y,⟨⟩⟩
abbrev wj:Shape:=⟨[aW 0 .need,aj 1,aj 5],[],27⟩
abbrev Bg:List bh:=[(.ret,⟨[aj 4],[],27⟩),(.exit 0,⟨[aj 1],[],27⟩)]
noncomputable def wZ(y:wj.F):cq wj Bg:=
 bif(decide (y.1.2.2.1<(y.1.1.length:Int))) then
(bf y.1.1 y.1.2.2.1).bind fun a=>
(f113 (((a.name,a.kind,a.b_,()),y.1.2.1,()),())).bind fun b=>
 bif(decide (b.1.1<(0:Int))) then
 some (.inr (.inl ((((-1):Int),()),())))
else
 some (.inl ((y.1.1,b.1.1,(IntKind.i64.wrap (y.1.2.2.1+(1:Int))),()),()))
else
 some (.inr (.inr ((y.1.2.1,()),())))
noncomputable def wQ:wj.F->Option (a7 Bg):=bH wZ
theorem WQ:bx ao (aU (codeOf Tryz.f69) 1 122) (bK wj Bg wQ):=cG PD (by kernel_rfl) aH fun y=>by kernel_rfl
abbrev i69:Shape:=⟨[aW 0 .need,aj 1],[],27⟩
abbrev NT:Shape:=⟨[aj 4],[],27⟩
noncomputable def f69(a:i69.F):Option NT.F:=
 bif(decide ((IntKind.i64.wrap (a.1.2.1-(a.1.1.length:Int)))<(0:Int))) then
 some ((((-1):Int),()),())
else
(wQ ((a.1.1,(IntKind.i64.wrap (a.1.2.1-(a.1.1.length:Int))),(0:Int),()),())).bind fun b=>
(match b with
|.inl c=>
 some ((c.1.1,()),())
|.inr d=>
 some ((d.1.1,()),()))
noncomputable def Pa:bp:=bN aV Tryz.f69 i69 NT [] f69
theorem abH:bu ao 69 Pa:=bP PD Tryz.func69 (by kernel_rfl) (bR WQ aH) (fun y=>by kernel_rfl) fun a=>by kernel_rfl
noncomputable abbrev aep:cb:=[(114,M')]
theorem PC:bG ao (b9 aV aep):=b8 ⟨_x,⟨⟩⟩
abbrev wi:Shape:=⟨[aW 0 .entry,aj 1,aj 5],[],27⟩
abbrev Bf:List bh:=[(.ret,⟨[aj 4],[],27⟩),(.exit 0,⟨[aj 1],[],27⟩)]
noncomputable def wY(y:wi.F):cq wi Bf:=
 bif(decide (y.1.2.2.1<(y.1.1.length:Int))) then
(bf y.1.1 y.1.2.2.1).bind fun a=>
(f114 (((a.path,a.kind,a.mode,a.text,()),y.1.2.1,()),())).bind fun b=>
 bif(decide (b.1.1<(0:Int))) then
 some (.inr (.inl ((((-1):Int),()),())))
else
 some (.inl ((y.1.1,b.1.1,(IntKind.i64.wrap (y.1.2.2.1+(1:Int))),()),()))
else
 some (.inr (.inr ((y.1.2.1,()),())))
noncomputable def wP:wi.F->Option (a7 Bf):=bH wY
theorem WP:bx ao (aU (codeOf Tryz.f70) 1 122) (bK wi Bf wP):=cG PC (by kernel_rfl) aH fun y=>by kernel_rfl
abbrev i70:Shape:=⟨[aW 0 .entry,aj 1],[],27⟩
abbrev NS:Shape:=⟨[aj 4],[],27⟩
noncomputable def f70(a:i70.F):Option NS.F:=
 bif(decide ((IntKind.i64.wrap (a.1.2.1-(a.1.1.length:Int)))<(0:Int))) then
 some ((((-1):Int),()),())
else
(wP ((a.1.1,(IntKind.i64.wrap (a.1.2.1-(a.1.1.length:Int))),(0:Int),()),())).bind fun b=>
(match b with
|.inl c=>
 some ((c.1.1,()),())
|.inr d=>
 some ((d.1.1,()),()))
noncomputable def O':bp:=bN aV Tryz.f70 i70 NS [] f70
theorem z70:bu ao 70 O':=bP PC Tryz.func70 (by kernel_rfl) (bR WP aH) (fun y=>by kernel_rfl) fun a=>by kernel_rfl
noncomputable abbrev aey:cb:=[(69,Pa),(70,O')]
theorem aeM:bG ao (b9 aV aey):=b8 ⟨abH,z70,⟨⟩⟩
abbrev i32:Shape:=⟨[e7 0 [bY,bY,fE .need,fE .entry],aj 1],[],32⟩
abbrev N3:Shape:=⟨[aj 4],[],32⟩
noncomputable def f32(a:i32.F):Option N3.F:=
 bif(decide ((IntKind.i64.wrap (a.1.2.1-(a.1.1.1.length:Int)))<(0:Int))) then
 some ((((-1):Int),()),())
else
 bif(decide ((IntKind.i64.wrap ((IntKind.i64.wrap (a.1.2.1-(a.1.1.1.length:Int)))-(a.1.1.2.1.length:Int)))<(0:Int))) then
 some ((((-1):Int),()),())
else
(f69 ((a.1.1.2.2.1,(IntKind.i64.wrap ((IntKind.i64.wrap (a.1.2.1-(a.1.1.1.length:Int)))-(a.1.1.2.1.length:Int))),()),())).bind fun b=>
 bif(decide (b.1.1<(0:Int))) then
 some ((((-1):Int),()),())
else
(f70 ((a.1.1.2.2.2.1,b.1.1,()),())).bind fun c=>
 bif(decide (c.1.1<(0:Int))) then
 some ((((-1):Int),()),())
else
 some ((c.1.1,()),())
noncomputable def Pk:bp:=bN aV Tryz.f32 i32 N3 [] f32
theorem abO:bu ao 32 Pk:=bP aeM Tryz.func32 (by kernel_rfl) aH (fun y=>by kernel_rfl) fun a=>by kernel_rfl
noncomputable abbrev aeE:cb:=[(32,Pk)]
theorem PL:bG ao (b9 aV aeE):=b8 ⟨abO,⟨⟩⟩
abbrev wA:Shape:=⟨[aW 0 .pack,aj 1,aj 5],[],27⟩
abbrev Br:List bh:=[(.ret,⟨[aj 4],[],27⟩),(.exit 0,⟨[aj 1],[],27⟩)]
noncomputable def w7(y:wA.F):cq wA Br:=
 bif(decide (y.1.2.2.1<(y.1.1.length:Int))) then
(bf y.1.1 y.1.2.2.1).bind fun a=>
(f32 (((a.name,a.b_,a.bZ,a.cE,()),y.1.2.1,()),())).bind fun b=>
 bif(decide (b.1.1<(0:Int))) then
 some (.inr (.inl ((((-1):Int),()),())))
else
 some (.inl ((y.1.1,b.1.1,(IntKind.i64.wrap (y.1.2.2.1+(1:Int))),()),()))
else
 some (.inr (.inr ((y.1.2.1,()),())))
noncomputable def wU:wA.F->Option (a7 Br):=bH w7
theorem W3:bx ao (aU (codeOf Tryz.f20) 1 122) (bK wA Br wU):=cG PL (by kernel_rfl) aH fun y=>by kernel_rfl
abbrev i20:Shape:=⟨[aW 0 .pack,aj 1],[],27⟩
abbrev N_:Shape:=⟨[aj 4],[],27⟩
noncomputable def f20(a:i20.F):Option N_.F:=
 bif(decide ((IntKind.i64.wrap (a.1.2.1-(a.1.1.length:Int)))<(0:Int))) then
 some ((((-1):Int),()),())
else
(wU ((a.1.1,(IntKind.i64.wrap (a.1.2.1-(a.1.1.length:Int))),(0:Int),()),())).bind fun b=>
(match b with
|.inl c=>
 some ((c.1.1,()),())
|.inr d=>
 some ((d.1.1,()),()))
noncomputable def Pr:bp:=bN aV Tryz.f20 i20 N_ [] f20
theorem z20:bu ao 20 Pr:=bP PL Tryz.func20 (by kernel_rfl) (bR W3 aH) (fun y=>by kernel_rfl) fun a=>by kernel_rfl
noncomputable abbrev aeo:cb:=[(116,M_)]
theorem PB:bG ao (b9 aV aeo):=b8 ⟨z116,⟨⟩⟩
abbrev xx:Shape:=⟨[aW 0 .need,b3 3 3000192,aj 4],[cL 3000192 .need 3 0],23⟩
abbrev Ct:List bh:=[(.exit 0,⟨[b3 3 3000192],[cL 3000192 .need 3 0],23⟩)]
noncomputable def xU(y:xx.F):cq xx Ct:=
 bif(decide (y.1.2.2.1<(y.1.1.length:Int))) then
(bf y.1.1 y.1.2.2.1).bind fun a=>
(f116 (((a.name,a.kind,a.b_,()),()),())).bind fun b=>
(e0 y.2.1.length y.1.2.2.1).bind fun c=>
((y.2.1[c]?).bind fun q=>some (dE.mk b.2.1.1 b.2.1.2.1 b.2.1.2.2.1)).bind fun d=>
 some (.inl ((y.1.1,(),(IntKind.i64.wrap (y.1.2.2.1+(1:Int))),()),(y.2.1.set c d),()))
else
 some (.inr (((),()),y.2.1,()))
noncomputable def CP:xx.F->Option (a7 Ct):=bH xU
theorem Ys:bx ao (aU (codeOf Tryz.f72) 1 58) (bK xx Ct CP):=cG PB (by kernel_rfl) aH fun y=>by kernel_rfl
abbrev i72:Shape:=⟨[aW 0 .need],[],23⟩
abbrev NR:Shape:=⟨[b3 2 3000128],[cL 3000128 .need 2 0],23⟩
noncomputable def f72(a:i72.F):Option NR.F:=
(lM 40 (a.1.1.length:Int) (a.1.1.length:Int) (dE.mk ([]:G) (0:Int) ([]:G))).bind fun b=>
(CP ((a.1.1,(),(0:Int),()),b,())).bind fun c=>
 some (((),()),c.2.1,())
noncomputable def O_:bp:=bN aV Tryz.f72 i72 NR [] f72
theorem z72:bu ao 72 O_:=bP PB Tryz.func72 (by kernel_rfl) (bR Ys aH) (fun y=>by kernel_rfl) fun a=>by kernel_rfl
noncomputable abbrev aen:cb:=[(117,M9)]
theorem PA:bG ao (b9 aV aen):=b8 ⟨z117,⟨⟩⟩
abbrev xw:Shape:=⟨[aW 0 .entry,b3 3 3000192,aj 4],[cL 3000192 .entry 3 0],23⟩
abbrev Cs:List bh:=[(.exit 0,⟨[b3 3 3000192],[cL 3000192 .entry 3 0],23⟩)]
noncomputable def xT(y:xw.F):cq xw Cs:=
 bif(decide (y.1.2.2.1<(y.1.1.length:Int))) then
(bf y.1.1 y.1.2.2.1).bind fun a=>
(f117 (((a.path,a.kind,a.mode,a.text,()),()),())).bind fun b=>
(e0 y.2.1.length y.1.2.2.1).bind fun c=>
((y.2.1[c]?).bind fun q=>some (bM.mk b.2.1.1 b.2.1.2.1 b.2.1.2.2.1 b.2.1.2.2.2.1)).bind fun d=>
 some (.inl ((y.1.1,(),(IntKind.i64.wrap (y.1.2.2.1+(1:Int))),()),(y.2.1.set c d),()))
else
 some (.inr (((),()),y.2.1,()))
noncomputable def CO:xw.F->Option (a7 Cs):=bH xT
theorem Yr:bx ao (aU (codeOf Tryz.f73) 1 58) (bK xw Cs CO):=cG PA (by kernel_rfl) aH fun y=>by kernel_rfl
abbrev i73:Shape:=⟨[aW 0 .entry],[],23⟩
abbrev NQ:Shape:=⟨[b3 2 3000128],[cL 3000128 .entry 2 0],23⟩
noncomputable def f73(a:i73.F):Option NQ.F:=
(lM 48 (a.1.1.length:Int) (a.1.1.length:Int) (bM.mk ([]:G) (0:Int) (0:Int) ([]:G))).bind fun b=>
(CO ((a.1.1,(),(0:Int),()),b,())).bind fun c=>
 some (((),()),c.2.1,())
noncomputable def O9:bp:=bN aV Tryz.f73 i73 NQ [] f73
theorem abG:bu ao 73 O9:=bP PA Tryz.func73 (by kernel_rfl) (bR Yr aH) (fun y=>by kernel_rfl) fun a=>by kernel_rfl
noncomputable abbrev aex:cb:=[(72,O_),(73,O9)]
theorem aeL:bG ao (b9 aV aex):=b8 ⟨z72,abG,⟨⟩⟩
abbrev i34:Shape:=⟨[e7 0 [bY,bY,fE .need,fE .entry]],[],19⟩
abbrev N2:Shape:=⟨[dK 2 2 0],[lg 5000130 .need 2 2,lg 5000131 .entry 2 3,dJ 2 [bY,bY,.own 5000130,.own 5000131]],19⟩
noncomputable def f34(a:i34.F):Option N2.F:=
(f72 ((a.1.1.2.2.1,()),())).bind fun b=>
(f73 ((a.1.1.2.2.2.1,()),())).bind fun c=>
 some (((),()),b.2.1,c.2.1,(a.1.1.1,a.1.1.2.1,(),(),()),())
noncomputable def Pj:bp:=bN aV Tryz.f34 i34 N2 [] f34
theorem abN:bu ao 34 Pj:=bP aeL Tryz.func34 (by kernel_rfl) aH (fun y=>by kernel_rfl) fun a=>by kernel_rfl
noncomputable abbrev aeC:cb:=[(34,Pj)]
theorem PK:bG ao (b9 zE aeC):=afj ⟨abN,⟨⟩⟩
abbrev xF:Shape:=⟨[aW 0 .pack,b3 3 3000192,aj 4],[(3000192,.deep .pack,.slot 3 0)],23⟩
abbrev CC:List bh:=[(.exit 0,⟨[b3 3 3000192],[(3000192,.deep .pack,.slot 3 0)],23⟩)]
noncomputable def x0(y:xF.F):cq xF CC:=
 bif(decide (y.1.2.2.1<(y.1.1.length:Int))) then
(bf y.1.1 y.1.2.2.1).bind fun a=>
(f34 (((a.name,a.b_,a.bZ,a.cE,()),()),())).bind fun b=>
(e0 y.2.1.length y.1.2.2.1).bind fun c=>
((y.2.1[c]?).bind fun _=>some (a'.mk b.2.2.2.1.1 b.2.2.2.1.2.1 b.2.1 b.2.2.1)).bind fun d=>
 some (.inl ((y.1.1,(),(IntKind.i64.wrap (y.1.2.2.1+(1:Int))),()),(y.2.1.set c d),()))
else
 some (.inr (((),()),y.2.1,()))
noncomputable def CV:xF.F->Option (a7 CC):=bH x0
theorem YC:bx ao (aU (codeOf Tryz.f22) 1 58) (bK xF CC CV):=cG PK (by kernel_rfl) aH fun y=>by kernel_rfl
abbrev i22:Shape:=⟨[aW 0 .pack],[],23⟩
abbrev N8:Shape:=⟨[b3 2 3000128],[(3000128,.deep .pack,.slot 2 0)],23⟩
noncomputable def f22(a:i22.F):Option N8.F:=
(lM 80 (a.1.1.length:Int) (a.1.1.length:Int) (a'.mk ([]:G) ([]:G) ([]:List dE) ([]:List bM))).bind fun b=>
(CV ((a.1.1,(),(0:Int),()),b,())).bind fun c=>
 some (((),()),c.2.1,())
noncomputable def Pp:bp:=bN zE Tryz.f22 i22 N8 [] f22
theorem abR:bu ao 22 Pp:=bP PK Tryz.func22 (by kernel_rfl) (bR YC aH) (fun y=>by kernel_rfl) fun a=>by kernel_rfl
noncomputable abbrev ael:cb:=[(125,M6)]
theorem Py:bG ao (b9 aV ael):=b8 ⟨_u,⟨⟩⟩
abbrev xv:Shape:=⟨[aW 0 .need,aW 1 .need,aj 5],[],27⟩
abbrev Cr:List bh:=[(.ret,⟨[a6 4],[],27⟩),(.exit 0,⟨[],[],27⟩)]
noncomputable def xS(y:xv.F):cq xv Cr:=
 bif(decide (y.1.2.2.1<(y.1.1.length:Int))) then
(bf y.1.1 y.1.2.2.1).bind fun a=>
(bf y.1.2.1 y.1.2.2.1).bind fun b=>
(f125 (((a.name,a.kind,a.b_,()),(b.name,b.kind,b.b_,()),()),())).bind fun c=>
 bif(!c.1.1) then
 some (.inr (.inl ((false,()),())))
else
 some (.inl ((y.1.1,y.1.2.1,(IntKind.i64.wrap (y.1.2.2.1+(1:Int))),()),()))
else
 some (.inr (.inr ((),())))
noncomputable def CN:xv.F->Option (a7 Cr):=bH xS
theorem Yp:bx ao (aU (codeOf Tryz.f76) 1 58) (bK xv Cr CN):=cG Py (by kernel_rfl) aH fun y=>by kernel_rfl
abbrev i76:Shape:=⟨[aW 0 .need,aW 1 .need],[],27⟩
abbrev NO:Shape:=⟨[a6 4],[],27⟩
noncomputable def f76(a:i76.F):Option NO.F:=
 bif((a.1.1.length:Int) !=(a.1.2.1.length:Int)) then
 some ((false,()),())
else
(CN ((a.1.1,a.1.2.1,(0:Int),()),())).bind fun b=>
(match b with
|.inl c=>
 some ((c.1.1,()),())
|.inr d=>
 some ((true,()),()))
noncomputable def O7:bp:=bN aV Tryz.f76 i76 NO [] f76
theorem z76:bu ao 76 O7:=bP Py Tryz.func76 (by kernel_rfl) (bR Yp aH) (fun y=>by kernel_rfl) fun a=>by kernel_rfl
noncomputable abbrev aew:cb:=[(15,Ps),(76,O7)]
theorem aeK:bG ao (b9 aV aew):=b8 ⟨abS,z76,⟨⟩⟩
abbrev i36:Shape:=⟨[e7 0 [bY,bY,fE .need,fE .entry],e7 1 [bY,bY,fE .need,fE .entry]],[],27⟩
abbrev N1:Shape:=⟨[a6 4],[],27⟩
noncomputable def f36(a:i36.F):Option N1.F:=
 bif(!(a.1.1.1==a.1.2.1.1)) then
 some ((false,()),())
else
 bif(!(a.1.1.2.1==a.1.2.1.2.1)) then
 some ((false,()),())
else
(f76 ((a.1.1.2.2.1,a.1.2.1.2.2.1,()),())).bind fun b=>
 bif(!b.1.1) then
 some ((false,()),())
else
(f15 ((a.1.1.2.2.2.1,a.1.2.1.2.2.2.1,()),())).bind fun c=>
 bif(!c.1.1) then
 some ((false,()),())
else
 some ((true,()),())
noncomputable def Ph:bp:=bN aV Tryz.f36 i36 N1 [] f36
theorem abM:bu ao 36 Ph:=bP aeK Tryz.func36 (by kernel_rfl) aH (fun y=>by kernel_rfl) fun a=>by kernel_rfl
noncomputable abbrev aeA:cb:=[(36,Ph)]
theorem PJ:bG ao (b9 aV aeA):=b8 ⟨abM,⟨⟩⟩
abbrev xD:Shape:=⟨[aW 0 .pack,aW 1 .pack,aj 5],[],27⟩
abbrev CA:List bh:=[(.ret,⟨[a6 4],[],27⟩),(.exit 0,⟨[],[],27⟩)]
noncomputable def xY(y:xD.F):cq xD CA:=
 bif(decide (y.1.2.2.1<(y.1.1.length:Int))) then
(bf y.1.1 y.1.2.2.1).bind fun a=>
(bf y.1.2.1 y.1.2.2.1).bind fun b=>
(f36 (((a.name,a.b_,a.bZ,a.cE,()),(b.name,b.b_,b.bZ,b.cE,()),()),())).bind fun c=>
 bif(!c.1.1) then
 some (.inr (.inl ((false,()),())))
else
 some (.inl ((y.1.1,y.1.2.1,(IntKind.i64.wrap (y.1.2.2.1+(1:Int))),()),()))
else
 some (.inr (.inr ((),())))
noncomputable def CT:xD.F->Option (a7 CA):=bH xY
theorem YA:bx ao (aU (codeOf Tryz.f25) 1 58) (bK xD CA CT):=cG PJ (by kernel_rfl) aH fun y=>by kernel_rfl
abbrev i25:Shape:=⟨[aW 0 .pack,aW 1 .pack],[],27⟩
abbrev N5:Shape:=⟨[a6 4],[],27⟩
noncomputable def f25(a:i25.F):Option N5.F:=
 bif((a.1.1.length:Int) !=(a.1.2.1.length:Int)) then
 some ((false,()),())
else
(CT ((a.1.1,a.1.2.1,(0:Int),()),())).bind fun b=>
(match b with
|.inl c=>
 some ((c.1.1,()),())
|.inr d=>
 some ((true,()),()))
noncomputable def Pm:bp:=bN aV Tryz.f25 i25 N5 [] f25
theorem abP:bu ao 25 Pm:=bP PJ Tryz.func25 (by kernel_rfl) (bR YA aH) (fun y=>by kernel_rfl) fun a=>by kernel_rfl
abbrev gI(n:Nat):Prop:=n<=maxLen
abbrev jE(n:Nat):Prop:=n<=1048576
abbrev Pv(n:dE):Prop:=gI n.name.length/\gI n.b_.length
abbrev E9(n:dE):Prop:=jE n.name.length/\jE n.b_.length
abbrev Pw(e:bM):Prop:=gI e.path.length/\gI e.text.length
abbrev E_(e:bM):Prop:=jE e.path.length/\jE e.text.length
abbrev Ec(l:List dE):Prop:=gI l.length/\∀n,n∈l->Pv n
abbrev Mu(l:List dE):Prop:=jE l.length/\∀n,n∈l->E9 n
abbrev Ed(l:List bM):Prop:=gI l.length/\∀n,n∈l->Pw n
abbrev Mv(l:List bM):Prop:=jE l.length/\∀n,n∈l->E_ n
abbrev Pu(p:a'):Prop:=gI p.name.length/\gI p.b_.length/\Ec p.bZ/\Ed p.cE
abbrev E8(p:a'):Prop:=jE p.name.length/\jE p.b_.length/\Mu p.bZ/\Mv p.cE
abbrev yR(l:List a'):Prop:=gI l.length/\∀n,n∈l->Pu n
abbrev D5(l:List a'):Prop:=jE l.length/\∀n,n∈l->E8 n
theorem m8{l:Int}{n:Nat}(aQ:0<=l)(h1:l<=1048576)(hn:gI n):IntKind.i64.wrap (l-(n:Int))=l-n:=by
 unfold gI maxLen at hn;exact fr (by omega) (by omega)
def qW(l r:Int)(p:Prop):Prop:=r<0\/(0<=r/\r<=l/\p)
theorem BD{aA F b7:Type}(g:F->Option (Sum F b7))(xs:List aA)(st:Nat->Int->F)(no:b7)(nC:Int->b7)(W:aA->Prop)
  (h1:∀i x s,xs[i]? =some x->0<=s->s<=1048576->g (st i s)=some (.inr no)\/∃ag,0<=ag/\ag<=s/\W x/\g (st i s)=some (.inl (st (i+1) ag)))
  (h2:∀s,g (st xs.length s)=some (.inr (nC s))) (s:Int) (Y:0<=s) (aP:s<=1048576):
  bH g (st 0 s)=some no\/∃ag,0<=ag/\ag<=s/\(∀x,x∈xs->W x)/\bH g (st 0 s)=some (nC ag):=by
 suffices h:∀(r:List aA) (k:Nat) (s:Int),xs.drop k=r->k<=xs.length->0<=s->s<=1048576->bH g (st k s)=some no\/∃ag,0<=ag/\ag<=s/\(∀x,x∈r->W x)/\bH g (st k s)=some (nC ag) from
  h xs 0 s rfl (Nat.zero_le _) Y aP
 intro r;induction r with
 |nil=>
  intro k s hr ah Y aP;have:=drop_nil hr;obtain rfl:k=xs.length:=by omega
  exact .inr ⟨s,Y,Int.le_refl _,fun x h=>(by cases h),fH (h2 s)⟩
 |cons x r ih=>
  intro k s hr ah Y aP;obtain⟨bI,bB,cC⟩:=drop_cons hr;rcases h1 k x s bI Y aP with h|⟨ag,ay,ai,bn,cu⟩
  ·exact .inl (fH h)
  ·rw[gN cu];rcases ih (k+1) ag bB (by omega) ay (by omega) with h|⟨s2,q1,q2,db,kA⟩
   ·exact .inl h
   ·exact .inr ⟨s2,q1,by omega,fun y aq=>by
     rcases List.mem_cons.1 aq with rfl|aq
     ·exact bn
     ·exact db y aq,kA⟩
theorem UZ(a)(aQ:0<=a.1.2.1)(h1:a.1.2.1<=1048576)(hm:Pv ⟨a.1.1.1,a.1.1.2.1,a.1.1.2.2.1⟩):∃r:Int,f113 a=some ((r,()),())/\qW a.1.2.1 r (E9 ⟨a.1.1.1,a.1.1.2.1,a.1.1.2.2.1⟩):=by
 obtain⟨⟨⟨(n:G),k,(v:G),u⟩,(l:Int),bW⟩,ou⟩:=a;have aQ:0<=l:=aQ;have h1:l<=1048576:=h1;obtain⟨c4,dx⟩:=hm;have c4:gI n.length:=c4;have dx:gI v.length:=dx;simp only[f113,m8 aQ h1 c4];by_cases c:l-(n.length:Int)<0
 ·simp only[c,decide_true,cond_true];exact⟨_,rfl,.inl (by omega)⟩
 ·simp only[c,decide_false,cond_false,m8 (l:=l-n.length) (by omega) (by omega) dx]
  by_cases bB:l-(n.length:Int)-(v.length:Int)<0
  ·simp only[bB,decide_true,cond_true];exact⟨_,rfl,.inl (by omega)⟩
  ·simp only[bB,decide_false,cond_false];exact⟨_,rfl,.inr ⟨by omega,(by show l-n.length-v.length<=l;omega),(by show n.length<=1048576;omega),(by show v.length<=1048576;omega)⟩⟩
theorem To(a)(aQ:0<=a.1.2.1)(h1:a.1.2.1<=1048576)(hm:Pw ⟨a.1.1.1,a.1.1.2.1,a.1.1.2.2.1,a.1.1.2.2.2.1⟩):∃r:Int,f114 a=some ((r,()),())/\qW a.1.2.1 r (E_ ⟨a.1.1.1,a.1.1.2.1,a.1.1.2.2.1,a.1.1.2.2.2.1⟩):=by
 obtain⟨⟨⟨(n:G),k,ai,(v:G),u⟩,(l:Int),bW⟩,ou⟩:=a;have aQ:0<=l:=aQ;have h1:l<=1048576:=h1;obtain⟨c4,dx⟩:=hm;have c4:gI n.length:=c4;have dx:gI v.length:=dx;simp only[f114,m8 aQ h1 c4];by_cases c:l-(n.length:Int)<0
 ·simp only[c,decide_true,cond_true];exact⟨_,rfl,.inl (by omega)⟩
 ·simp only[c,decide_false,cond_false,m8 (l:=l-n.length) (by omega) (by omega) dx]
  by_cases bB:l-(n.length:Int)-(v.length:Int)<0
  ·simp only[bB,decide_true,cond_true];exact⟨_,rfl,.inl (by omega)⟩
  ·simp only[bB,decide_false,cond_false];exact⟨_,rfl,.inr ⟨by omega,(by show l-n.length-v.length<=l;omega),(by show n.length<=1048576;omega),(by show v.length<=1048576;omega)⟩⟩
theorem Tn(a)(aQ:0<=a.1.2.1)(h1:a.1.2.1<=1048576)(hm:Ec a.1.1):∃r:Int,f69 a=some ((r,()),())/\qW a.1.2.1 r (Mu a.1.1):=by
 obtain⟨⟨xs,(l:Int),u⟩,bW⟩:=a;have aQ:0<=l:=aQ;have h1:l<=1048576:=h1;obtain⟨c4,dx⟩:=hm;have c4:gI xs.length:=c4;simp only[f69,m8 aQ h1 c4];by_cases c:l-(xs.length:Int)<0
 ·simp only[c,decide_true,cond_true];exact⟨_,rfl,.inl (by omega)⟩
 ·simp only[c,decide_false,cond_false];have hl:xs.length<=1048576:=by omega
  have key:=BD wZ xs (fun i s=>((xs,(s,((i:Int),()))),())) (.inl (((-1:Int),()),())) (fun s=>.inr ((s,()),())) E9 (fun i x s hx jB s1=>?_) (fun s=>?_) (l-xs.length) (by omega) (by omega)
  ·rcases key with h|⟨ag,ay,ai,bn,h⟩
   ·have h:wQ ((xs,(l-xs.length,((0:Int),()))),())=_:=h;exact⟨-1,by rw[h];rfl,.inl (by omega)⟩
   ·have h:wQ ((xs,(l-xs.length,((0:Int),()))),())=_:=h;exact⟨ag,by rw[h];rfl,.inr ⟨ay,(by show ag<=l;omega),hl,bn⟩⟩
  ·have af:=c8 hx;have hw:aN i:=by unfold aN;omega
   obtain⟨r,e1,e2⟩:=UZ (((x.name,(x.kind,(x.b_,()))),(s,())),()) jB s1 (dx x (List.mem_of_getElem? hx));simp only[wZ,cU af,cond_true,cI,hx,Option.bind_some,e1,cH hw];rcases e2 with e2|⟨q1,q2,db⟩
   ·left;simp only[e2,decide_true,cond_true]
   ·have:¬r<0:=by omega
    right;refine⟨r,q1,q2,db,?_⟩;simp only[this,decide_false,cond_false]
  ·simp only[wZ,du,cond_false]
theorem Sd(a)(aQ:0<=a.1.2.1)(h1:a.1.2.1<=1048576)(hm:Ed a.1.1):∃r:Int,f70 a=some ((r,()),())/\qW a.1.2.1 r (Mv a.1.1):=by
 obtain⟨⟨xs,(l:Int),u⟩,bW⟩:=a;have aQ:0<=l:=aQ;have h1:l<=1048576:=h1;obtain⟨c4,dx⟩:=hm;have c4:gI xs.length:=c4;simp only[f70,m8 aQ h1 c4];by_cases c:l-(xs.length:Int)<0
 ·simp only[c,decide_true,cond_true];exact⟨_,rfl,.inl (by omega)⟩
 ·simp only[c,decide_false,cond_false];have hl:xs.length<=1048576:=by omega
  have key:=BD wY xs (fun i s=>((xs,(s,((i:Int),()))),())) (.inl (((-1:Int),()),())) (fun s=>.inr ((s,()),())) E_ (fun i x s hx jB s1=>?_) (fun s=>?_) (l-xs.length) (by omega) (by omega)
  ·rcases key with h|⟨ag,ay,ai,bn,h⟩
   ·have h:wP ((xs,(l-xs.length,((0:Int),()))),())=_:=h;exact⟨-1,by rw[h];rfl,.inl (by omega)⟩
   ·have h:wP ((xs,(l-xs.length,((0:Int),()))),())=_:=h;exact⟨ag,by rw[h];rfl,.inr ⟨ay,(by show ag<=l;omega),hl,bn⟩⟩
  ·have af:=c8 hx;have hw:aN i:=by unfold aN;omega
   obtain⟨r,e1,e2⟩:=To (((x.path,(x.kind,(x.mode,(x.text,())))),(s,())),()) jB s1 (dx x (List.mem_of_getElem? hx));simp only[wY,cU af,cond_true,cI,hx,Option.bind_some,e1,cH hw];rcases e2 with e2|⟨q1,q2,db⟩
   ·left;simp only[e2,decide_true,cond_true]
   ·have:¬r<0:=by omega
    right;refine⟨r,q1,q2,db,?_⟩;simp only[this,decide_false,cond_false]
  ·simp only[wY,du,cond_false]
theorem UY(a)(aQ:0<=a.1.2.1)(h1:a.1.2.1<=1048576)(hm:Pu ⟨a.1.1.1,a.1.1.2.1,a.1.1.2.2.1,a.1.1.2.2.2.1⟩):∃r:Int,f32 a=some ((r,()),())/\qW a.1.2.1 r (E8 ⟨a.1.1.1,a.1.1.2.1,a.1.1.2.2.1,a.1.1.2.2.2.1⟩):=by
 obtain⟨⟨⟨(n:G),(v:G),ap,es,u⟩,(l:Int),bW⟩,ou⟩:=a;have aQ:0<=l:=aQ;have h1:l<=1048576:=h1;obtain⟨c4,dx,jC,p1⟩:=hm;have c4:gI n.length:=c4;have dx:gI v.length:=dx;simp only[f32,m8 aQ h1 c4];by_cases c:l-(n.length:Int)<0
 ·simp only[c,decide_true,cond_true];exact⟨_,rfl,.inl (by omega)⟩
 ·simp only[c,decide_false,cond_false,m8 (l:=l-n.length) (by omega) (by omega) dx]
  by_cases bB:l-(n.length:Int)-(v.length:Int)<0
  ·simp only[bB,decide_true,cond_true];exact⟨_,rfl,.inl (by omega)⟩
  ·simp only[bB,decide_false,cond_false];obtain⟨r,e1,e2⟩:=Tn ((ap,(l-(n.length:Int)-(v.length:Int),())),()) (by show 0<=l-(n.length:Int)-(v.length:Int);omega) (by show l-(n.length:Int)-(v.length:Int)<=_;omega) jC
   simp only[e1,Option.bind_some];rcases e2 with e2|⟨q1,q2,db⟩
   ·simp only[e2,decide_true,cond_true];exact⟨_,rfl,.inl (by omega)⟩
   ·have q2:r<=l-(n.length:Int)-(v.length:Int):=q2;have cC:¬r<0:=by omega
    simp only[cC,decide_false,cond_false];obtain⟨de,cf,eV⟩:=Sd ((es,(r,())),()) q1 (by show r<=_;omega) p1
    simp only[cf,Option.bind_some];rcases eV with eV|⟨kA,nT,ae2⟩
    ·simp only[eV,decide_true,cond_true];exact⟨_,rfl,.inl (by omega)⟩
    ·have nT:de<=r:=nT;have fp:¬de<0:=by omega
     simp only[fp,decide_false,cond_false];exact⟨_,rfl,.inr ⟨kA,(by show de<=l;omega),(by show n.length<=1048576;omega),(by show v.length<=1048576;omega),db,ae2⟩⟩
theorem Tm(a)(aQ:0<=a.1.2.1)(h1:a.1.2.1<=1048576)(hm:yR a.1.1):∃r:Int,f20 a=some ((r,()),())/\qW a.1.2.1 r (D5 a.1.1):=by
 obtain⟨⟨xs,(l:Int),u⟩,bW⟩:=a;have aQ:0<=l:=aQ;have h1:l<=1048576:=h1;obtain⟨c4,dx⟩:=hm;have c4:gI xs.length:=c4;simp only[f20,m8 aQ h1 c4];by_cases c:l-(xs.length:Int)<0
 ·simp only[c,decide_true,cond_true];exact⟨_,rfl,.inl (by omega)⟩
 ·simp only[c,decide_false,cond_false];have hl:xs.length<=1048576:=by omega
  have key:=BD w7 xs (fun i s=>((xs,(s,((i:Int),()))),())) (.inl (((-1:Int),()),())) (fun s=>.inr ((s,()),())) E8 (fun i x s hx jB s1=>?_) (fun s=>?_) (l-xs.length) (by omega) (by omega)
  ·rcases key with h|⟨ag,ay,ai,bn,h⟩
   ·have h:wU ((xs,(l-xs.length,((0:Int),()))),())=_:=h;exact⟨-1,by rw[h];rfl,.inl (by omega)⟩
   ·have h:wU ((xs,(l-xs.length,((0:Int),()))),())=_:=h;exact⟨ag,by rw[h];rfl,.inr ⟨ay,(by show ag<=l;omega),hl,bn⟩⟩
  ·have af:=c8 hx;have hw:aN i:=by unfold aN;omega
   obtain⟨r,e1,e2⟩:=UY (((x.name,(x.b_,(x.bZ,(x.cE,())))),(s,())),()) jB s1 (dx x (List.mem_of_getElem? hx));simp only[w7,cU af,cond_true,cI,hx,Option.bind_some,e1,cH hw];rcases e2 with e2|⟨q1,q2,db⟩
   ·left;simp only[e2,decide_true,cond_true]
   ·have:¬r<0:=by omega
    right;refine⟨r,q1,q2,db,?_⟩;simp only[this,decide_false,cond_false]
  ·simp only[w7,du,cond_false]
theorem Aw{aA F b7:Type}(g:F->Option (Sum F b7))(xs:List aA)(z:aA)(st:Nat->List aA->F)(fin:List aA->b7)
  (h1:∀i x b0,xs[i]? =some x->b0.length=xs.length->g (st i b0)=some (.inl (st (i+1) (b0.set i x))))
  (h2:g (st xs.length xs)=some (.inr (fin xs))):bH g (st 0 (List.replicate xs.length z))=some (fin xs):=by
 suffices h:∀(r:List aA) (k:Nat),xs.drop k=r->k<=xs.length->bH g (st k (xs.take k++List.replicate (xs.length-k) z))=some (fin xs) from by
  have:=h xs 0 rfl (Nat.zero_le _);simpa using this
 intro r;induction r with
 |nil=>
  intro k hr ah;have:=drop_nil hr;obtain rfl:k=xs.length:=by omega
  simp only[Nat.sub_self,List.replicate_zero,List.append_nil,List.take_length];exact fH h2
 |cons x r ih=>
  intro k hr ah;obtain⟨bI,bB,cC⟩:=drop_cons hr;have hl:(xs.take k++List.replicate (xs.length-k) z).length=xs.length:=by simp;omega
  rw[gN (h1 k x _ bI hl)];have e:(xs.take k++List.replicate (xs.length-k) z).set k x=xs.take (k+1)++List.replicate (xs.length-(k+1)) z:=by
   have ES:(xs.take k).length=k:=by simp;omega
   obtain⟨m,hm⟩:∃m,xs.length-k=m+1:=⟨xs.length-k-1,by omega⟩
   rw[List.set_append_right _ _ (by omega),ES,Nat.sub_self,hm,show xs.length-(k+1)=m by omega,List.replicate_succ,List.set_cons_zero,List.take_add_one,bI]
   simp
  rw[e];exact ih (k+1) bB cC
theorem Tl(a)(L:cZ a.1.1.length):f72 a=some (((),()),(a.1.1,())):=by
 obtain⟨⟨xs,u⟩,bW⟩:=a;have L:xs.length<=2097152:=L;have key:=Aw xU xs (dE.mk [] 0 []) (fun i b0=>((xs,((),((i:Int),()))),(b0,()))) (fun b0=>(((),()),(b0,()))) (fun i x b0 hx hl=>?_) ?_
 ·have key:CP ((xs,((),((0:Int),()))),(List.replicate xs.length (dE.mk [] 0 []),()))=_:=key;simp only[f72,CJ (show(40:Nat)<=100 by decide) (show aN xs.length by unfold aN;omega),Option.bind_some,key]
 ·have af:=c8 hx;have hw:aN i:=by unfold aN;omega
  have aD:b0[i]? =some b0[i]:=List.getElem?_eq_getElem (by omega)
  simp only[xU,cU af,cond_true,cI,hx,Option.bind_some,f116,mc (show i<b0.length by omega),aD,cH hw]
 ·simp only[xU,du,cond_false]
theorem Sc(a)(L:cZ a.1.1.length):f73 a=some (((),()),(a.1.1,())):=by
 obtain⟨⟨xs,u⟩,bW⟩:=a;have L:xs.length<=2097152:=L;have key:=Aw xT xs (bM.mk [] 0 0 []) (fun i b0=>((xs,((),((i:Int),()))),(b0,()))) (fun b0=>(((),()),(b0,()))) (fun i x b0 hx hl=>?_) ?_
 ·have key:CO ((xs,((),((0:Int),()))),(List.replicate xs.length (bM.mk [] 0 0 []),()))=_:=key;simp only[f73,CJ (show(48:Nat)<=100 by decide) (show aN xs.length by unfold aN;omega),Option.bind_some,key]
 ·have af:=c8 hx;have hw:aN i:=by unfold aN;omega
  have aD:b0[i]? =some b0[i]:=List.getElem?_eq_getElem (by omega)
  simp only[xT,cU af,cond_true,cI,hx,Option.bind_some,f117,mc (show i<b0.length by omega),aD,cH hw]
 ·simp only[xT,du,cond_false]
theorem Tk(a)(L:k3 a.1.1):f22 a=some (((),()),(a.1.1,())):=by
 obtain⟨⟨xs,u⟩,bW⟩:=a;obtain⟨L,hm⟩:=L;have L:xs.length<=2097152:=L;have key:=Aw x0 xs (a'.mk [] [] [] []) (fun i b0=>((xs,((),((i:Int),()))),(b0,()))) (fun b0=>(((),()),(b0,()))) (fun i x b0 hx hl=>?_) ?_
 ·have key:CV ((xs,((),((0:Int),()))),(List.replicate xs.length (a'.mk [] [] [] []),()))=_:=key;simp only[f22,CJ (show(80:Nat)<=100 by decide) (show aN xs.length by unfold aN;omega),Option.bind_some,key]
 ·have af:=c8 hx;have hw:aN i:=by unfold aN;omega
  have aD:b0[i]? =some b0[i]:=List.getElem?_eq_getElem (by omega)
  obtain⟨_,_,bU,kC⟩:=hm x (List.mem_of_getElem? hx);simp only[x0,cU af,cond_true,cI,hx,Option.bind_some,f34,Tl ((x.bZ,()),()) bU.1,Sc ((x.cE,()),()) kC.1,mc (show i<b0.length by omega),aD,cH hw]
 ·simp only[x0,du,cond_false]
theorem vP{aA:Type}:∀(xs:List aA) (i:Nat),allI (fun _ _=>true) i xs=true:=by
 intro xs;induction xs with
 |nil=>intro i;rfl
 |cons x r ih=>intro i;simp only[allI,ih,Bool.and_self]
theorem qj(a:Int):(a !=a)=false:=by simp
theorem U5(a)(h:a.1.1=a.1.2.1):f125 a=some ((true,()),()):=by
 obtain⟨⟨x,y,u⟩,bW⟩:=a;have h:x=y:=h;subst h;simp only[f125,beq_self_eq_true,Bool.not_true,cond_false,qj]
theorem TB(a)(h:a.1.1=a.1.2.1):f53 a=some ((true,()),()):=by
 obtain⟨⟨x,y,u⟩,bW⟩:=a;have h:x=y:=h;subst h;simp only[f53,beq_self_eq_true,Bool.not_true,cond_false,qj]
theorem TA(xs:List dE)(L:cZ xs.length):f76 ((xs,(xs,())),())=some ((true,()),()):=by
 have key:CN ((xs,(xs,((0:Int),()))),())=some (bif allI (fun _ _=>true) 0 xs then .inr ((),()) else .inl ((false,()),())):=by
  refine hi xS xs (fun i=>((xs,(xs,((i:Int),()))),())) _ _ _ (fun i x hx=>?_) ?_
  ·have af:=c8 hx;have hw:aN i:=by unfold aN;omega
   simp only[xS,cU af,cond_true,cI,hx,Option.bind_some,U5 (((x.name,(x.kind,(x.b_,()))),((x.name,(x.kind,(x.b_,()))),())),()) rfl,Bool.not_true,cond_false,cH hw]
  ·simp only[xS,du,cond_false]
 rw[vP] at key;simp only[f76,qj,cond_false,key,cond_true,Option.bind_some]
theorem Sh(xs:List bM)(L:cZ xs.length):f15 ((xs,(xs,())),())=some ((true,()),()):=by
 have key:CW ((xs,(xs,((0:Int),()))),())=some (bif allI (fun _ _=>true) 0 xs then .inr ((),()) else .inl ((false,()),())):=by
  refine hi x1 xs (fun i=>((xs,(xs,((i:Int),()))),())) _ _ _ (fun i x hx=>?_) ?_
  ·have af:=c8 hx;have hw:aN i:=by unfold aN;omega
   simp only[x1,cU af,cond_true,cI,hx,Option.bind_some,TB (((x.path,(x.kind,(x.mode,(x.text,())))),((x.path,(x.kind,(x.mode,(x.text,())))),())),()) rfl,Bool.not_true,cond_false,cH hw]
  ·simp only[x1,du,cond_false]
 rw[vP] at key;simp only[f15,qj,cond_false,key,cond_true,Option.bind_some]
theorem U4(x:a')(h:uZ x):f36 (((x.name,(x.b_,(x.bZ,(x.cE,())))),((x.name,(x.b_,(x.bZ,(x.cE,())))),())),())=some ((true,()),()):=by
 simp only[f36,beq_self_eq_true,Bool.not_true,cond_false,TA _ h.2.2.1.1,Sh _ h.2.2.2.1,Option.bind_some]
theorem Tz(xs:List a')(L:k3 xs):f25 ((xs,(xs,())),())=some ((true,()),()):=by
 have hl:xs.length<=2097152:=L.1;have key:CT ((xs,(xs,((0:Int),()))),())=some (bif allI (fun _ _=>true) 0 xs then .inr ((),()) else .inl ((false,()),())):=by
  refine hi xY xs (fun i=>((xs,(xs,((i:Int),()))),())) _ _ _ (fun i x hx=>?_) ?_
  ·have af:=c8 hx;have hw:aN i:=by unfold aN;omega
   simp only[xY,cU af,cond_true,cI,hx,Option.bind_some,U4 x (L.2 x (List.mem_of_getElem? hx)),Bool.not_true,cond_false,cH hw]
  ·simp only[xY,du,cond_false]
 rw[vP] at key;simp only[f25,qj,cond_false,key,cond_true,Option.bind_some]
theorem D5.Qd{ps:List a'}(h:D5 ps):k3 ps/\Qg ps:=by
 obtain⟨h1,h2⟩:=h;have up:∀{n:Nat},jE n->cZ n:=fun h=>Nat.le_trans h (by decide)
 have Ny:∀{n:Nat},jE n->n<=2097151:=fun h=>Nat.le_trans h (by decide)
 refine⟨⟨up h1,fun p am=>?_⟩,fun p am=>?_⟩
 ·obtain⟨a,b,c,d⟩:=h2 p am;exact⟨up a,up b,⟨up c.1,fun n hn=>⟨up (c.2 n hn).1,up (c.2 n hn).2⟩⟩,up d.1,fun n hn=>⟨up (d.2 n hn).1,up (d.2 n hn).2⟩⟩
 ·obtain⟨a,b,c,d⟩:=h2 p am;exact⟨Ny b,fun n hn=>Ny (c.2 n hn).2⟩
theorem qo{s:G}(h:iZ (.str s)):gI s.length:=by cases h;assumption
theorem Cl{t:aB}{xs:List (den t)}(h:iZ (.sl t xs)):gI xs.length/\∀x,x∈xs->∀d,d∈enc t x->iZ d:=by cases h;exact⟨by assumption,by assumption⟩
theorem UX{xs:List dE}(h:iZ (.sl .need xs)):Ec xs:=by
 obtain⟨h1,h2⟩:=Cl h;exact⟨h1,fun x hx=>⟨qo (h2 x hx (.str x.name) (by simp[enc])),qo (h2 x hx (.str x.b_) (by simp[enc]))⟩⟩
theorem Sa{xs:List bM}(h:iZ (.sl .entry xs)):Ed xs:=by
 obtain⟨h1,h2⟩:=Cl h;exact⟨h1,fun x hx=>⟨qo (h2 x hx (.str x.path) (by simp[enc])),qo (h2 x hx (.str x.text) (by simp[enc]))⟩⟩
theorem UW{xs:List a'}(h:iZ (.sl .pack xs)):yR xs:=by
 obtain⟨h1,h2⟩:=Cl h;exact⟨h1,fun x hx=>⟨qo (h2 x hx (.str x.name) (by simp[enc])),qo (h2 x hx (.str x.b_) (by simp[enc])),UX (h2 x hx (.sl .need x.bZ) (by simp[enc])),Sa (h2 x hx (.sl .entry x.cE) (by simp[enc]))⟩⟩
abbrev xB:Shape:=⟨[aj 0,bc 3],[],20⟩
abbrev Cx:List bh:=[(.exit 0,⟨[bc 3],[],20⟩)]
noncomputable def C1(y:xB.F):cq xB Cx:=
 bif(decide (y.1.1>(0:Int))) then
(rp y.1.1 (10:Int)).bind fun a=>
(nP (strOf ([(IntKind.u8.wrap (IntKind.i64.wrap ((48:Int)+a)))]:List Int)) y.1.2.1).bind fun b=>
(rr .i64 y.1.1 (10:Int)).bind fun c=>
 some (.inl ((c,b,()),()))
else
 some (.inr ((y.1.2.1,()),()))
noncomputable def CR:xB.F->Option (a7 Cx):=bH C1
theorem Yx:bx ao (aU (codeOf Tryz.f54) 1 60) (bK xB Cx CR):=cG g0 (by kernel_rfl) aH fun y=>by kernel_rfl
abbrev i54:Shape:=⟨[aj 0],[],20⟩
abbrev NX:Shape:=⟨[bc 2],[],20⟩
noncomputable def f54(a:i54.F):Option NX.F:=
 bif(decide (a.1.1<=(0:Int))) then
 some ((([109,48]:G),()),())
else
(CR ((a.1.1,([]:G),()),())).bind fun b=>
(nP ([109]:G) b.1.1).bind fun c=>
 some ((c,()),())
noncomputable def se:bp:=bN aV Tryz.f54 i54 NX [] f54
theorem ud:bu ao 54 se:=bP g0 Tryz.func54 (by kernel_rfl) (bR Yx aH) (fun y=>by kernel_rfl) fun a=>by kernel_rfl
noncomputable abbrev Z5:cb:=[(54,se)]
theorem K0:bG ao (b9 aV Z5):=b8 ⟨ud,⟨⟩⟩
abbrev sK:Shape:=⟨[b3 0 3000000,aj 1,aj 5],[cL 3000000 .entry 0 0],43⟩
abbrev AG:List bh:=[(.exit 0,⟨[b3 0 3000000,aj 1],[cL 3000000 .entry 0 0],43⟩)]
noncomputable def sT(y:sK.F):cq sK AG:=
 bif(decide (y.1.2.2.1<(y.2.1.length:Int))) then
(f54 ((y.1.2.1,()),())).bind fun a=>
(e0 y.2.1.length y.1.2.2.1).bind fun b=>
((y.2.1[b]?).bind fun q=>some (bM.mk a.1.1 q.kind q.mode q.text)).bind fun c=>
(e0 (y.2.1.set b c).length y.1.2.2.1).bind fun d=>
(((y.2.1.set b c)[d]?).bind fun q=>some (bM.mk q.path (IntKind.i64.wrap (y.1.2.1+(1:Int))) q.mode q.text)).bind fun e=>
(e0 ((y.2.1.set b c).set d e).length y.1.2.2.1).bind fun f=>
((((y.2.1.set b c).set d e)[f]?).bind fun q=>some (bM.mk q.path q.kind (IntKind.i64.wrap ((IntKind.i64.wrap (y.1.2.1+(1:Int)))+(1:Int))) q.text)).bind fun g=>
(f54 (((IntKind.i64.wrap ((IntKind.i64.wrap ((IntKind.i64.wrap (y.1.2.1+(1:Int)))+(1:Int)))+(1:Int))),()),())).bind fun h=>
(e0 (((y.2.1.set b c).set d e).set f g).length y.1.2.2.1).bind fun i=>
(((((y.2.1.set b c).set d e).set f g)[i]?).bind fun q=>some (bM.mk q.path q.kind q.mode h.1.1)).bind fun j=>
 some (.inl (((),(IntKind.i64.wrap ((IntKind.i64.wrap ((IntKind.i64.wrap ((IntKind.i64.wrap (y.1.2.1+(1:Int)))+(1:Int)))+(1:Int)))+(1:Int))),(IntKind.i64.wrap (y.1.2.2.1+(1:Int))),()),((((y.2.1.set b c).set d e).set f g).set i j),()))
else
 some (.inr (((),y.1.2.1,()),y.2.1,()))
noncomputable def AV:sK.F->Option (a7 AG):=bH sT
theorem VG:bx ao (aU (codeOf Tryz.f18) 1 26) (bK sK AG AV):=cG K0 (by kernel_rfl) aH fun y=>by kernel_rfl
abbrev KD:Shape:=⟨[b3 0 600000,aj 1],[(600000,.row .entry,.same)],43⟩
abbrev Kq:Shape:=⟨[b3 0 3000000,aj 4],[cL 3000000 .entry 0 0],43⟩
noncomputable def yr(a:KD.F):Option Kq.F:=
(AV (((),a.1.2.1,(0:Int),()),a.2.1,())).bind fun b=>
 some (((),b.1.2.1,()),b.2.1,())
noncomputable def KW:bp:=rl aV Tryz.f18 KD Kq [] [0] yr
theorem Zg:bu ao 18 KW:=sC K0 Tryz.func18 (by kernel_rfl) (bR VG aH) (fun y=>by kernel_rfl) fun a=>by kernel_rfl
noncomputable abbrev Z2:cb:=[(54,se)]
theorem KX:bG ao (b9 aV Z2):=b8 ⟨ud,⟨⟩⟩
abbrev sH:Shape:=⟨[b3 0 3000000,aj 1,aj 5],[cL 3000000 .need 0 0],36⟩
abbrev AB:List bh:=[(.exit 0,⟨[b3 0 3000000,aj 1],[cL 3000000 .need 0 0],36⟩)]
noncomputable def sQ(y:sH.F):cq sH AB:=
 bif(decide (y.1.2.2.1<(y.2.1.length:Int))) then
(f54 ((y.1.2.1,()),())).bind fun a=>
(e0 y.2.1.length y.1.2.2.1).bind fun b=>
((y.2.1[b]?).bind fun q=>some (dE.mk a.1.1 q.kind q.b_)).bind fun c=>
(e0 (y.2.1.set b c).length y.1.2.2.1).bind fun d=>
(((y.2.1.set b c)[d]?).bind fun q=>some (dE.mk q.name (IntKind.i64.wrap (y.1.2.1+(1:Int))) q.b_)).bind fun e=>
(f54 (((IntKind.i64.wrap ((IntKind.i64.wrap (y.1.2.1+(1:Int)))+(1:Int))),()),())).bind fun f=>
(e0 ((y.2.1.set b c).set d e).length y.1.2.2.1).bind fun g=>
((((y.2.1.set b c).set d e)[g]?).bind fun q=>some (dE.mk q.name q.kind f.1.1)).bind fun h=>
 some (.inl (((),(IntKind.i64.wrap ((IntKind.i64.wrap ((IntKind.i64.wrap (y.1.2.1+(1:Int)))+(1:Int)))+(1:Int))),(IntKind.i64.wrap (y.1.2.2.1+(1:Int))),()),(((y.2.1.set b c).set d e).set g h),()))
else
 some (.inr (((),y.1.2.1,()),y.2.1,()))
noncomputable def AS:sH.F->Option (a7 AB):=bH sQ
theorem Vy:bx ao (aU (codeOf Tryz.f60) 1 26) (bK sH AB AS):=cG KX (by kernel_rfl) aH fun y=>by kernel_rfl
abbrev KA:Shape:=⟨[b3 0 600000,aj 1],[(600000,.row .need,.same)],36⟩
abbrev Kn:Shape:=⟨[b3 0 3000000,aj 4],[cL 3000000 .need 0 0],36⟩
noncomputable def yo(a:KA.F):Option Kn.F:=
(AS (((),a.1.2.1,(0:Int),()),a.2.1,())).bind fun b=>
 some (((),b.1.2.1,()),b.2.1,())
noncomputable def KT:bp:=rl aV Tryz.f60 KA Kn [] [0] yo
theorem Zd:bu ao 60 KT:=sC KX Tryz.func60 (by kernel_rfl) (bR Vy aH) (fun y=>by kernel_rfl) fun a=>by kernel_rfl
noncomputable abbrev Z4:cb:=[(18,KW),(54,se),(60,KT)]
theorem KZ:bG ao (b9 aV Z4):=b8 ⟨Zg,ud,Zd,⟨⟩⟩
abbrev sJ:Shape:=⟨[b3 0 3000000,aj 1,aj 5],[(3000000,.deep .pack,.slot 0 0)],43⟩
abbrev AD:List bh:=[(.exit 0,⟨[b3 0 3000000,aj 1],[(3000000,.deep .pack,.slot 0 0)],43⟩)]
noncomputable def sS(y:sJ.F):cq sJ AD:=
 bif(decide (y.1.2.2.1<(y.2.1.length:Int))) then
(f54 ((y.1.2.1,()),())).bind fun a=>
(e0 y.2.1.length y.1.2.2.1).bind fun b=>
((y.2.1[b]?).bind fun q=>some (a'.mk a.1.1 q.b_ q.bZ q.cE)).bind fun c=>
(f54 (((IntKind.i64.wrap (y.1.2.1+(1:Int))),()),())).bind fun d=>
(e0 (y.2.1.set b c).length y.1.2.2.1).bind fun e=>
(((y.2.1.set b c)[e]?).bind fun q=>some (a'.mk q.name d.1.1 q.bZ q.cE)).bind fun f=>
(e0 ((y.2.1.set b c).set e f).length y.1.2.2.1).bind fun g=>
(((y.2.1.set b c).set e f)[g]?).bind fun h=>
(yo (((),(IntKind.i64.wrap ((IntKind.i64.wrap (y.1.2.1+(1:Int)))+(1:Int))),()),h.bZ,())).bind fun i=>
(e0 (((y.2.1.set b c).set e f).set g (a'.mk h.name h.b_ i.2.1 h.cE)).length y.1.2.2.1).bind fun j=>
((((y.2.1.set b c).set e f).set g (a'.mk h.name h.b_ i.2.1 h.cE))[j]?).bind fun k=>
(yr (((),i.1.2.1,()),k.cE,())).bind fun l=>
 some (.inl (((),l.1.2.1,(IntKind.i64.wrap (y.1.2.2.1+(1:Int))),()),((((y.2.1.set b c).set e f).set g (a'.mk h.name h.b_ i.2.1 h.cE)).set j (a'.mk k.name k.b_ k.bZ l.2.1)),()))
else
 some (.inr (((),y.1.2.1,()),y.2.1,()))
noncomputable def AU:sJ.F->Option (a7 AD):=bH sS
theorem VB:bx ao (aU (codeOf Tryz.f26) 1 26) (bK sJ AD AU):=cG KZ (by kernel_rfl) aH fun y=>by kernel_rfl
abbrev KC:Shape:=⟨[b3 0 600000,aj 1],[(600000,.deep .pack,.same)],43⟩
abbrev Kp:Shape:=⟨[b3 0 3000000,aj 4],[(3000000,.deep .pack,.slot 0 0)],43⟩
noncomputable def yq(a:KC.F):Option Kp.F:=
(AU (((),a.1.2.1,(0:Int),()),a.2.1,())).bind fun b=>
 some (((),b.1.2.1,()),b.2.1,())
noncomputable def KV:bp:=rl aV Tryz.f26 KC Kp [] [0] yq
theorem Zf:bu ao 26 KV:=sC KZ Tryz.func26 (by kernel_rfl) (bR VB aH) (fun y=>by kernel_rfl) fun a=>by kernel_rfl
abbrev eN(k:Int):Prop:=k<=2305843009213693952
theorem QK(m:Int)(s:G)(hm:0<=m)(hl:m+(s.length:Int)<=2305843009213693952):hR (C1 ((m,(s,())),())) (fun q=>match q with
  |.inl y=>∃(p2:Int) (ag:G),y=((p2,(ag,())),())/\p2.toNat<m.toNat/\0<=p2/\p2+(ag.length:Int)<=2305843009213693952
  |.inr b=>b.1.1.length<=2305843009213693952):=by
 simp only[C1];by_cases am:m>0
 ·have aD:rr .i64 m 10=some (m/10):=Yi rfl hm (by omega) (by decide)
  have hr:rp m 10=some (m%10):=Yh hm (by decide)
  simp only[am,decide_true,cond_true,hr,aD,Option.bind_some];have hc:=J1 (s:=strOf ([(IntKind.u8.wrap (IntKind.i64.wrap ((48:Int)+m%10)))]:List Int)) (t:=s) (by simp[strOf];omega)
  simp only[hc,Option.bind_some];refine⟨_,rfl,m/10,_,rfl,by omega,by omega,?_⟩
  simp[strOf];omega
 ·simp only[am,decide_false,cond_false];refine⟨_,rfl,?_⟩;show s.length<=2305843009213693952;omega
theorem R4(k:Int)(aQ:1<=k)(h1:eN k):hR (f54 ((k,()),())) (fun _=>True):=by
 have hb:hR (CR ((k,(([]:G),())),())) (fun r=>r.1.1.length<=2305843009213693952):=by
  refine hR.loop (fun n y=>∃(m:Int) (s:G),y=((m,(s,())),())/\n=m.toNat/\0<=m/\m+(s.length:Int)<=2305843009213693952) (fun n y aq=>?_) k.toNat _ ⟨k,[],rfl,rfl,by omega,by simpa using h1⟩
  obtain⟨m,s,rfl,rfl,hm,hl⟩:=aq;refine(QK m s hm hl).mono fun q aD=>?_
  cases q with
  |inl y=>
   obtain⟨p2,ag,rfl,ay,ai,bn⟩:=aD;exact⟨p2.toNat,ay,p2,ag,rfl,rfl,ai,bn⟩
  |inr b=>exact aD
 simp only[f54];have U:decide (k<=0)=false:=decide_eq_false (by omega)
 simp only[U,cond_false];refine hb.bind fun r hr=>?_
 have hr:r.1.1.length<=2305843009213693952:=hr;rw[J1 (show([109]:G).length+r.1.1.length<=_ by simp;omega),Option.bind_some]
 exact .ret trivial
noncomputable def mt(k:Int):G:=match f54 ((k,()),()) with
 |some r=>r.1.1
 |none=>[]
theorem oi{k:Int}(aQ:1<=k)(h1:eN k):f54 ((k,()),())=some ((mt k,()),()):=by
 obtain⟨⟨⟨s,u⟩,bW⟩,e,_⟩:=R4 k aQ h1;unfold mt;rw[e]
theorem yb{aA:Type}{l xs:List aA}{i:Nat}{c:aA}(hl:l.length=i)(af:i<xs.length):(l++xs.drop i).set i c=(l++[c])++xs.drop (i+1):=by
 subst hl;rw[List.set_append_right _ _ (Nat.le_refl _),Nat.sub_self,List.drop_eq_getElem_cons af,List.set_cons_zero];simp
theorem yn{aA:Type}{l xs:List aA}{i:Nat}(hl:l.length=i):(l++xs.drop i)[i]? =xs[i]? :=by
 subst hl;rw[List.getElem?_append_right (Nat.le_refl _),Nat.sub_self];simp
theorem A1{aA:Type}{l:List aA}{i:Nat}{c:aA}(h:i<l.length):(l.set i c)[i]? =some c:=by simp[h]
noncomputable def Es(k:Int):dE:=⟨mt k,k+1,mt (k+2)⟩
noncomputable def hZ(k:Int)(n:Nat):List dE:=(List.range n).map fun(i:Nat)=>Es (k+3*(i:Int))
theorem vX(k:Int)(n:Nat):(hZ k n).length=n:=by simp[hZ]
theorem Uk(k:Int)(n:Nat):hZ k (n+1)=hZ k n++[Es (k+3*(n:Int))]:=by simp[hZ,List.range_succ]
noncomputable def Et(k:Int):bM:=⟨mt k,k+1,k+2,mt (k+3)⟩
noncomputable def h0(k:Int)(n:Nat):List bM:=(List.range n).map fun(i:Nat)=>Et (k+4*(i:Int))
theorem vY(k:Int)(n:Nat):(h0 k n).length=n:=by simp[h0]
theorem Ul(k:Int)(n:Nat):h0 k (n+1)=h0 k n++[Et (k+4*(n:Int))]:=by simp[h0,List.range_succ]
theorem td{F b7:Type}{g:F->Option (Sum F b7)}(st:Nat->F)(n:Nat){b:b7}(h:∀i,i<n->g (st i)=some (.inl (st (i+1))))(he:g (st n)=some (.inr b)):bH g (st 0)=some b:=by
 suffices key:∀k i,i+k=n->bH g (st i)=some b from key n 0 (by omega)
 intro k;induction k with
 |zero=>
  intro i af;obtain rfl:i=n:=by omega
  exact fH he
 |succ k ih=>
  intro i af;rw[gN (h i (by omega))]
  exact ih (i+1) (by omega)
theorem Rw(xs:List dE)(k:Int)(aQ:1<=k)(L:cZ xs.length)(h1:eN (k+3*(xs.length:Int))):yo (((),(k,())),(xs,()))=some (((),(k+3*(xs.length:Int),())),(hZ k xs.length,())):=by
 have key:AS (((),(k,((0:Int),()))),(xs,()))=some (((),(k+3*(xs.length:Int),())),(hZ k xs.length,())):=by
  have:=td (g:=sQ) (fun i=>(((),(k+3*(i:Int),((i:Int),()))),(hZ k i++xs.drop i,()))) xs.length (b:=(((),(k+3*(xs.length:Int),())),(hZ k xs.length,()))) (fun i af=>?_) ?_
  ·have e:(((),(k+3*((0:Nat):Int),(((0:Nat):Int),()))),(hZ k 0++xs.drop 0,()))=((((),(k,((0:Int),()))),(xs,())):sH.F):=by
    show(((),(k+3*((0:Nat):Int),(((0:Nat):Int),()))),(hZ k 0++xs.drop 0,()))=(((),(k,((0:Int),()))),(xs,()));simp[hZ]
   exact(congrArg (bH sQ) e.symm).trans this
  ·have hl:(hZ k i++xs.drop i).length=xs.length:=by simp[vX];omega
   have aJ:(hZ k i++xs.drop i)[i]? =some xs[i]:=by rw[yn (vX k i)];exact List.getElem?_eq_getElem af
   have a1:IntKind.i64.wrap (k+3*(i:Int)+1)=k+3*(i:Int)+1:=fr (by omega) (by unfold eN at h1;omega)
   have a2:IntKind.i64.wrap (k+3*(i:Int)+1+1)=k+3*(i:Int)+2:=(fr (by omega) (by unfold eN at h1;omega)).trans (by omega)
   have a3:IntKind.i64.wrap (k+3*(i:Int)+2+1)=k+3*((i+1:Nat):Int):=(fr (by omega) (by unfold eN at h1;omega)).trans (by omega)
   have t1:=oi (k:=k+3*(i:Int)) (by omega) (by unfold eN at h1 ⊢;omega)
   have t2:=oi (k:=k+3*(i:Int)+2) (by omega) (by unfold eN at h1 ⊢;omega)
   have hw:aN i:=by unfold aN;omega
   have L:=yb (c:=Es (k+3*(i:Int))) (vX k i) af;rw[<-Uk] at L;simp only[sQ,hl,cU af,cond_true,t1,Option.bind_some,mc af,aJ,List.length_set,A1 (show i<(hZ k i++xs.drop i).length by omega),List.set_set,a1,a2,a3,t2,cH hw]
   refine congrArg some (congrArg Sum.inl ?_);rw[<-L];rfl
  ·have hl:(hZ k xs.length++xs.drop xs.length)=hZ k xs.length:=by simp
   simp only[sQ,hl,vX,du,cond_false]
 simp only[yo,key,Option.bind_some]
theorem Q0(xs:List bM)(k:Int)(aQ:1<=k)(L:cZ xs.length)(h1:eN (k+4*(xs.length:Int))):yr (((),(k,())),(xs,()))=some (((),(k+4*(xs.length:Int),())),(h0 k xs.length,())):=by
 have key:AV (((),(k,((0:Int),()))),(xs,()))=some (((),(k+4*(xs.length:Int),())),(h0 k xs.length,())):=by
  have:=td (g:=sT) (fun i=>(((),(k+4*(i:Int),((i:Int),()))),(h0 k i++xs.drop i,()))) xs.length (b:=(((),(k+4*(xs.length:Int),())),(h0 k xs.length,()))) (fun i af=>?_) ?_
  ·have e:(((),(k+4*((0:Nat):Int),(((0:Nat):Int),()))),(h0 k 0++xs.drop 0,()))=((((),(k,((0:Int),()))),(xs,())):sK.F):=by
    show(((),(k+4*((0:Nat):Int),(((0:Nat):Int),()))),(h0 k 0++xs.drop 0,()))=(((),(k,((0:Int),()))),(xs,()));simp[h0]
   exact(congrArg (bH sT) e.symm).trans this
  ·have hl:(h0 k i++xs.drop i).length=xs.length:=by simp[vY];omega
   have aJ:(h0 k i++xs.drop i)[i]? =some xs[i]:=by rw[yn (vY k i)];exact List.getElem?_eq_getElem af
   have a1:IntKind.i64.wrap (k+4*(i:Int)+1)=k+4*(i:Int)+1:=fr (by omega) (by unfold eN at h1;omega)
   have a2:IntKind.i64.wrap (k+4*(i:Int)+1+1)=k+4*(i:Int)+2:=(fr (by omega) (by unfold eN at h1;omega)).trans (by omega)
   have a3:IntKind.i64.wrap (k+4*(i:Int)+2+1)=k+4*(i:Int)+3:=(fr (by omega) (by unfold eN at h1;omega)).trans (by omega)
   have a4:IntKind.i64.wrap (k+4*(i:Int)+3+1)=k+4*((i+1:Nat):Int):=(fr (by omega) (by unfold eN at h1;omega)).trans (by omega)
   have t1:=oi (k:=k+4*(i:Int)) (by omega) (by unfold eN at h1 ⊢;omega)
   have t2:=oi (k:=k+4*(i:Int)+3) (by omega) (by unfold eN at h1 ⊢;omega)
   have hw:aN i:=by unfold aN;omega
   have L:=yb (c:=Et (k+4*(i:Int))) (vY k i) af;rw[<-Ul] at L;simp only[sT,hl,cU af,cond_true,t1,Option.bind_some,mc af,aJ,List.length_set,A1 (show i<(h0 k i++xs.drop i).length by omega),List.set_set,a1,a2,a3,a4,t2,cH hw]
   refine congrArg some (congrArg Sum.inl ?_);rw[<-L];rfl
  ·have hl:(h0 k xs.length++xs.drop xs.length)=h0 k xs.length:=by simp
   simp only[sT,hl,vY,du,cond_false]
 simp only[yr,key,Option.bind_some]
theorem ZZ(a:Int):(a !=a)=false:=by simp
def lh(p:a'):Int:=2+3*(p.bZ.length:Int)+4*(p.cE.length:Int)
noncomputable def y2(k:Int)(p:a'):a':=⟨mt k,mt (k+1),hZ (k+2) p.bZ.length,h0 (k+2+3*(p.bZ.length:Int)) p.cE.length⟩
noncomputable def gR:Int->List a'->List a'
 |_,[]=>[]
 |k,p::r=>y2 k p::gR (k+lh p) r
def fw:Int->List a'->Int
 |k,[]=>k
 |k,p::r=>fw (k+lh p) r
theorem Zh(p:a'):2<=lh p:=by unfold lh;omega
theorem Ce:∀(ps:List a') (k:Int),k<=fw k ps:=by
 intro ps;induction ps with
 |nil=>intro k;exact Int.le_refl _
 |cons p r ih=>intro k;have h1:=ih (k+lh p);have h2:=Zh p;show k<=fw (k+lh p) r;omega
theorem Is:∀(ps l5:List a') (k:Int),fw k (ps++l5)=fw (fw k ps) l5:=by
 intro ps;induction ps with
 |nil=>intro l5 k;rfl
 |cons p r ih=>intro l5 k;exact ih l5 _
theorem VW:∀(ps l5:List a') (k:Int),gR k (ps++l5)=gR k ps++gR (fw k ps) l5:=by
 intro ps;induction ps with
 |nil=>intro l5 k;rfl
 |cons p r ih=>intro l5 k;exact congrArg (y2 k p:: ·) (ih l5 _)
theorem Ig:∀(ps:List a') (k:Int),(gR k ps).length=ps.length:=by
 intro ps;induction ps with
 |nil=>intro k;rfl
 |cons p r ih=>intro k;simp[gR,ih]
theorem XU:∀{ps:List a'} {k:Int},(∀p,p∈ps->cZ p.bZ.length/\cZ p.cE.length)->fw k ps<=k+16777216*(ps.length:Int):=by
 intro ps;induction ps with
 |nil=>intro k _;show k<=_;simp
 |cons p r ih=>
  intro k h;obtain⟨h1,h2⟩:=h p List.mem_cons_self;have Y:=ih (k:=k+lh p) fun q aD=>h q (List.mem_cons_of_mem _ aD)
  show fw (k+lh p) r<=_;have h1:p.bZ.length<=2097152:=h1;have h2:p.cE.length<=2097152:=h2;unfold lh at*;simp only[List.length_cons];omega
theorem XT{ps:List a'}(hb:k3 ps):eN (fw 1 ps):=by
 have h:=XU (ps:=ps) (k:=1) fun p am=>⟨(hb.2 p am).2.2.1.1,(hb.2 p am).2.2.2.1⟩
 have hl:ps.length<=2097152:=hb.1;unfold eN;omega
theorem Ju{aA:Type}{xs:List aA}{i:Nat}{x:aA}(h:xs[i]? =some x):xs.take (i+1)=xs.take i++[x]:=by
 rw[List.take_add_one,h];rfl
theorem UK{ps:List a'}{k:Int}{i:Nat}{p:a'}(h:ps[i]? =some p):fw k (ps.take i)+lh p<=fw k ps:=by
 have e:ps=ps.take i++(p::ps.drop (i+1)):=by
  obtain⟨af,hx⟩:=List.getElem?_eq_some_iff.1 h;rw[<-hx,List.getElem_cons_drop,List.take_append_drop]
 have:fw k ps=fw (fw k (ps.take i)) (p::ps.drop (i+1)):=by
  rw[<-Is,<-e]
 rw[this];exact Ce _ _
theorem Rv(xs:List a')(k:Int)(aQ:1<=k)(L:k3 xs)(h1:eN (fw k xs)):yq (((),(k,())),(xs,()))=some (((),(fw k xs,())),(gR k xs,())):=by
 have key:AU (((),(k,((0:Int),()))),(xs,()))=some (((),(fw k xs,())),(gR k xs,())):=by
  have:=td (g:=sS) (fun i=>(((),(fw k (xs.take i),((i:Int),()))),(gR k (xs.take i)++xs.drop i,()))) xs.length (b:=(((),(fw k xs,())),(gR k xs,()))) (fun i af=>?_) ?_
  ·have e:(((),(fw k (xs.take 0),(((0:Nat):Int),()))),(gR k (xs.take 0)++xs.drop 0,()))=((((),(k,((0:Int),()))),(xs,())):sJ.F):=by
    show(((),(fw k (xs.take 0),(((0:Nat):Int),()))),(gR k (xs.take 0)++xs.drop 0,()))=(((),(k,((0:Int),()))),(xs,()));simp[gR,fw]
   exact(congrArg (bH sS) e.symm).trans this
  ·have hlen:xs.length<=2097152:=L.1;have hx:xs[i]? =some xs[i]:=List.getElem?_eq_getElem af;obtain⟨_,_,bU,kC⟩:=L.2 xs[i] (List.getElem_mem af);have hm:=UK (k:=k) hx;have pN:=Ce (xs.take i) k;obtain⟨i',zc⟩:∃i',fw k (xs.take i)=i':=⟨_,rfl⟩;have ox:(gR k (xs.take i)).length=i:=by rw[Ig,List.length_take];omega
   have hl:(gR k (xs.take i)++xs.drop i).length=xs.length:=by simp[ox];omega
   have aJ:(gR k (xs.take i)++xs.drop i)[i]? =some xs[i]:=by rw[yn ox];exact hx
   have pr:=yb (c:=y2 i' xs[i]) ox af;have acZ:gR k (xs.take (i+1))=gR k (xs.take i)++[y2 i' xs[i]]:=by rw[Ju hx,VW,zc];rfl
   have cF:fw k (xs.take (i+1))=i'+lh xs[i]:=by rw[Ju hx,Is,zc];rfl
   rw[<-acZ] at pr;rw[zc] at hm pN;rw[zc];unfold eN at h1;have bI:(1:Int)<=i':=by omega
   unfold lh at hm cF;have a1:IntKind.i64.wrap (i'+1)=i'+1:=fr (by omega) (by omega)
   have a2:IntKind.i64.wrap (i'+1+1)=i'+2:=(fr (by omega) (by omega)).trans (by omega)
   have t1:=oi (k:=i') bI (by unfold eN;omega)
   have t2:=oi (k:=i'+1) (by omega) (by unfold eN;omega)
   have hw:aN i:=by unfold aN;omega
   have q1:=Rw xs[i].bZ (i'+2) (by omega) bU.1 (by unfold eN;omega)
   have q2:=Q0 xs[i].cE (i'+2+3*(xs[i].bZ.length:Int)) (by omega) kC.1 (by unfold eN;omega)
   simp only[sS,hl,cU af,cond_true,t1,Option.bind_some,mc af,aJ,List.length_set,A1 (show i<(gR k (xs.take i)++xs.drop i).length by omega),List.set_set,a1,a2,t2,q1,q2,cH hw]
   refine congrArg some (congrArg Sum.inl ?_);rw[cF,<-pr];have cf:i'+2+3*(xs[i].bZ.length:Int)+4*(xs[i].cE.length:Int)=i'+(2+3*(xs[i].bZ.length:Int)+4*(xs[i].cE.length:Int)):=by omega
   rw[cf];rfl
  ·have e1:xs.take xs.length=xs:=List.take_length;have hl:(gR k xs++xs.drop xs.length)=gR k xs:=by simp
   simp only[sS,e1,hl,Ig,du,cond_false]
 simp only[yq,key,Option.bind_some]
abbrev d_(s:G):Prop:=s.length<=200
abbrev ad6(e:bM):Prop:=d_ e.path/\d_ e.text
abbrev WK:Shape:=⟨[bc 0,aj 3],[],43⟩
abbrev WF:List bh:=[(.norm,⟨[bc 0,aj 3,a6 12],[],43⟩)]
noncomputable def XJ(y:WK.F):Option (a7 WF):=
 bif(decide ((y.1.1.length:Int)>(1:Int))) then
(bf y.1.1 (1:Int)).bind fun a=>
 some ((y.1.1,y.1.2.1,((a.toNat:Int)==(33:Int)),()),())
else
 some ((y.1.1,y.1.2.1,false,()),())
abbrev WL:Shape:=⟨[bc 0,aj 3],[],43⟩
abbrev WG:List bh:=[(.norm,⟨[bc 0,aj 3],[],43⟩)]
noncomputable def XK(y:WL.F):Option (a7 WG):=
(XJ ((y.1.1,y.1.2.1,()),())).bind fun a=>
 bif a.1.2.2.1 then
 some ((a.1.1,(2:Int),()),())
else
 some ((a.1.1,a.1.2.1,()),())
abbrev AM:Shape:=⟨[bc 0,aj 3,aj 4],[],43⟩
abbrev HT:List bh:=[(.exit 0,⟨[bc 0,aj 3,aj 4],[],43⟩)]
noncomputable def Wb(y:AM.F):cq AM HT:=
 bif(decide (y.1.2.1<(y.1.1.length:Int))) then
(bf y.1.1 y.1.2.1).bind fun a=>
(f304 (((a.toNat:Int),()),())).bind fun b=>
 bif b.1.1 then
 some (.inl ((y.1.1,(IntKind.i64.wrap (y.1.2.1+(1:Int))),y.1.2.2.1,()),()))
else
 some (.inr ((y.1.1,y.1.2.1,y.1.2.2.1,()),()))
else
 some (.inr ((y.1.1,y.1.2.1,y.1.2.2.1,()),()))
noncomputable def V7:AM.F->Option (a7 HT):=bH Wb
abbrev Vp:Shape:=⟨[bc 0,aj 3,aj 4],[],43⟩
abbrev Vd:List bh:=[(.norm,⟨[aj 3,a6 40],[],43⟩)]
noncomputable def Wa(y:Vp.F):Option (a7 Vd):=
 bif(!(y.1.2.1==y.1.2.2.1)) then
 bif(!(y.1.2.1==(y.1.1.length:Int))) then
(bf y.1.1 y.1.2.1).bind fun a=>
 some ((y.1.2.1,((a.toNat:Int) !=(93:Int)),()),())
else
 some ((y.1.2.1,true,()),())
else
 some ((y.1.2.1,true,()),())
abbrev i308:Shape:=⟨[bc 0],[],43⟩
abbrev _T:Shape:=⟨[aj 2],[],43⟩
noncomputable def f308(a:i308.F):Option _T.F:=
(XK ((a.1.1,(1:Int),()),())).bind fun b=>
(V7 ((b.1.1,b.1.2.1,b.1.2.1,()),())).bind fun c=>
(Wa ((c.1.1,c.1.2.1,c.1.2.2.1,()),())).bind fun d=>
 bif d.1.2.1 then
 some (((0:Int),()),())
else
 some (((IntKind.i64.wrap (d.1.1+(1:Int))),()),())
abbrev TY:Shape:=⟨[bc 0,aj 3],[],45⟩
abbrev TO:List bh:=[(.norm,⟨[bc 0,aj 3,a6 26],[],45⟩)]
noncomputable def UC(y:TY.F):Option (a7 TO):=
(bf y.1.1 y.1.2.1).bind fun a=>
 bif(!((a.toNat:Int)==(42:Int))) then
(bf y.1.1 y.1.2.1).bind fun b=>
 some ((y.1.1,y.1.2.1,((b.toNat:Int)==(63:Int)),()),())
else
 some ((y.1.1,y.1.2.1,true,()),())
abbrev BG:Shape:=⟨[bc 0,aj 3],[],45⟩
abbrev IF:List bh:=[(.ret,⟨[a6 2],[],45⟩),(.exit 0,⟨[bc 0],[],45⟩)]
noncomputable def XL(y:BG.F):cq BG IF:=
 bif(decide (y.1.2.1<(y.1.1.length:Int))) then
(bf y.1.1 y.1.2.1).bind fun a=>
 bif((a.toNat:Int)==(91:Int)) then
(cO y.1.1 y.1.2.1 (y.1.1.length:Int)).bind fun b=>
(f308 ((b,()),())).bind fun c=>
 bif(c.1.1==(0:Int)) then
 some (.inr (.inl ((false,()),())))
else
 some (.inl ((y.1.1,(IntKind.i64.wrap ((IntKind.i64.wrap ((IntKind.i64.wrap (y.1.2.1+c.1.1))-(1:Int)))+(1:Int))),()),()))
else
(UC ((y.1.1,y.1.2.1,()),())).bind fun d=>
 bif d.1.2.2.1 then
 some (.inl ((d.1.1,(IntKind.i64.wrap (d.1.2.1+(1:Int))),()),()))
else
(bf d.1.1 d.1.2.1).bind fun e=>
(f304 (((e.toNat:Int),()),())).bind fun f=>
 bif(!f.1.1) then
 some (.inr (.inl ((false,()),())))
else
 some (.inl ((d.1.1,(IntKind.i64.wrap (d.1.2.1+(1:Int))),()),()))
else
 some (.inr (.inr ((y.1.1,()),())))
noncomputable def Xx:BG.F->Option (a7 IF):=bH XL
abbrev i305:Shape:=⟨[bc 0],[],45⟩
abbrev _U:Shape:=⟨[a6 2],[],45⟩
noncomputable def f305(a:i305.F):Option _U.F:=
(Xx ((a.1.1,(0:Int),()),())).bind fun b=>
(match b with
|.inl c=>
 some ((c.1.1,()),())
|.inr d=>
 some (((!(d.1.1==([]:G))),()),()))
abbrev TX:Shape:=⟨[bc 0,(1,.ak (.d (.int .u8))),a6 5,aj 6],[],33⟩
abbrev TN:List bh:=[(.norm,⟨[bc 0,(1,.ak (.d (.int .u8))),a6 5,aj 6,a6 29],[],33⟩)]
noncomputable def UB(y:TX.F):Option (a7 TN):=
(bf y.1.1 y.1.2.2.2.1).bind fun a=>
 bif((a.toNat:Int)==y.1.2.1) then
 bif(!(decide (y.1.2.2.2.1>(1:Int)))) then
 some ((y.1.1,y.1.2.1,y.1.2.2.1,y.1.2.2.2.1,(!y.1.2.2.1),()),())
else
 some ((y.1.1,y.1.2.1,y.1.2.2.1,y.1.2.2.2.1,true,()),())
else
 some ((y.1.1,y.1.2.1,y.1.2.2.1,y.1.2.2.2.1,false,()),())
abbrev BF:Shape:=⟨[bc 0,(1,.ak (.d (.int .u8))),a6 5,aj 6],[],33⟩
abbrev IE:List bh:=[(.ret,⟨[a6 4],[],33⟩),(.exit 0,⟨[a6 5],[],33⟩)]
noncomputable def XI(y:BF.F):cq BF IE:=
 bif(decide (y.1.2.2.2.1<(IntKind.i64.wrap ((y.1.1.length:Int)-(1:Int))))) then
(UB ((y.1.1,y.1.2.1,y.1.2.2.1,y.1.2.2.2.1,()),())).bind fun a=>
 bif a.1.2.2.2.2.1 then
 some (.inr (.inl (((!a.1.2.2.1),()),())))
else
 some (.inl ((a.1.1,a.1.2.1,a.1.2.2.1,(IntKind.i64.wrap (a.1.2.2.2.1+(1:Int))),()),()))
else
 some (.inr (.inr ((y.1.2.2.1,()),())))
noncomputable def Xw:BF.F->Option (a7 IE):=bH XI
abbrev i309:Shape:=⟨[bc 0,(1,.ak (.d (.int .u8)))],[],33⟩
abbrev _S:Shape:=⟨[a6 4],[],33⟩
noncomputable def f309(a:i309.F):Option _S.F:=
(bf a.1.1 (1:Int)).bind fun b=>
(Xw ((a.1.1,a.1.2.1,((b.toNat:Int)==(33:Int)),(1:Int),()),())).bind fun c=>
(match c with
|.inl d=>
 some ((d.1.1,()),())
|.inr e=>
 some ((e.1.1,()),()))
abbrev i306:Shape:=⟨[bc 0,bc 1],[],68⟩
abbrev Dz:Shape:=⟨[a6 4],[],68⟩
noncomputable def ZV(aY:i306.F->Option Dz.F)(a:i306.F):Option Dz.F:=
 bif(a.1.1==([]:G)) then
 some (((a.1.2.1==([]:G)),()),())
else
(bf a.1.1 (0:Int)).bind fun b=>
 bif((b.toNat:Int)==(42:Int)) then
(cO a.1.1 (1:Int) (a.1.1.length:Int)).bind fun c=>
(aY ((c,a.1.2.1,()),())).bind fun d=>
 bif(!d.1.1) then
 bif(!(a.1.2.1==([]:G))) then
(cO a.1.2.1 (1:Int) (a.1.2.1.length:Int)).bind fun e=>
(aY ((a.1.1,e,()),())).bind fun f=>
 some ((f.1.1,()),())
else
 some ((false,()),())
else
 some ((true,()),())
else
 bif(a.1.2.1==([]:G)) then
 some ((false,()),())
else
(bf a.1.1 (0:Int)).bind fun g=>
 bif((g.toNat:Int)==(63:Int)) then
(cO a.1.1 (1:Int) (a.1.1.length:Int)).bind fun h=>
(cO a.1.2.1 (1:Int) (a.1.2.1.length:Int)).bind fun i=>
(aY ((h,i,()),())).bind fun j=>
 some ((j.1.1,()),())
else
 bif((g.toNat:Int)==(91:Int)) then
(f308 ((a.1.1,()),())).bind fun k=>
(cO a.1.1 (0:Int) k.1.1).bind fun l=>
(bf a.1.2.1 (0:Int)).bind fun m=>
(f309 ((l,(m.toNat:Int),()),())).bind fun n=>
 bif n.1.1 then
(cO a.1.1 k.1.1 (a.1.1.length:Int)).bind fun D=>
(cO a.1.2.1 (1:Int) (a.1.2.1.length:Int)).bind fun p=>
(aY ((D,p,()),())).bind fun q=>
 some ((q.1.1,()),())
else
 some ((false,()),())
else
(bf a.1.1 (0:Int)).bind fun r=>
(bf a.1.2.1 (0:Int)).bind fun s=>
 bif((r.toNat:Int)==(s.toNat:Int)) then
(cO a.1.1 (1:Int) (a.1.1.length:Int)).bind fun t=>
(cO a.1.2.1 (1:Int) (a.1.2.1.length:Int)).bind fun u=>
(aY ((t,u,()),())).bind fun v=>
 some ((v.1.1,()),())
else
 some ((false,()),())
noncomputable def f306:i306.F->Option Dz.F:=Kx ZV ZT
abbrev Pt(p:a'):Prop:=uZ p/\p.b_.length<=2097151/\∀n,n∈p.bZ->n.b_.length<=2097151
abbrev uW(k:Nat)(ps:List a'):Prop:=ps.length<=k/\∀p,p∈ps->Pt p
theorem uW.Qd{k:Nat}{ps:List a'}(h:uW k ps)(ah:k<=2097152):k3 ps:=⟨Nat.le_trans h.1 ah,fun p am=>(h.2 p am).1⟩
theorem uW.vs{k:Nat}{ps:List a'}(h:uW k ps):Qg ps:=fun p am=>(h.2 p am).2
abbrev ad5(n:dE):Prop:=d_ n.name/\d_ n.b_
def Zq(s:G):Bool:=!(s==[102,114,101,115,104])&&!(s==[110,111,98,111,100,121,115])
abbrev aee(s:G):Prop:=d_ s/\Zq s=true
abbrev E'(p:a'):Prop:=aee p.name/\d_ p.b_/\(p.bZ.length<=3/\∀n,n∈p.bZ->ad5 n)/\(p.cE.length<=17/\∀e,e∈p.cE->ad6 e)
theorem E'.ok{p:a'}(h:E' p):Pt p:=by
 obtain⟨a,b,⟨bI,bB⟩,d1,d2⟩:=h;have up:∀{s:G},d_ s->cZ s.length:=fun h=>Nat.le_trans h (by decide)
 exact⟨⟨up a.1,up b,⟨Nat.le_trans bI (by decide),fun n hn=>⟨up (bB n hn).1,up (bB n hn).2⟩⟩,Nat.le_trans d1 (by decide),fun e he=>⟨up (d2 e he).1,up (d2 e he).2⟩⟩,Nat.le_trans b (by decide),fun n hn=>Nat.le_trans (bB n hn).2 (by decide)⟩
abbrev wN:Shape:=⟨[aW 0 .str,bc 1,aj 5],[],18⟩
abbrev BC:List bh:=[(.ret,⟨[a6 4],[],18⟩),(.exit 0,⟨[],[],18⟩)]
noncomputable def xe(y:wN.F):cq wN BC:=
 bif(decide (y.1.2.2.1<(y.1.1.length:Int))) then
(bf y.1.1 y.1.2.2.1).bind fun a=>
 bif(a==y.1.2.1) then
 some (.inr (.inl ((true,()),())))
else
 some (.inl ((y.1.1,y.1.2.1,(IntKind.i64.wrap (y.1.2.2.1+(1:Int))),()),()))
else
 some (.inr (.inr ((),())))
noncomputable def B4:wN.F->Option (a7 BC):=bH xe
theorem Xi:bx ao (aU (codeOf Tryz.f100) 1 26) (bK wN BC B4):=cG g0 (by kernel_rfl) aH fun y=>by kernel_rfl
abbrev i100:Shape:=⟨[aW 0 .str,bc 1],[],18⟩
abbrev LZ:Shape:=⟨[a6 4],[],18⟩
noncomputable def f100(a:i100.F):Option LZ.F:=
(B4 ((a.1.1,a.1.2.1,(0:Int),()),())).bind fun b=>
(match b with
|.inl c=>
 some ((c.1.1,()),())
|.inr d=>
 some ((false,()),()))
noncomputable def Nd:bp:=bN aV Tryz.f100 i100 LZ [] f100
theorem _B:bu ao 100 Nd:=bP g0 Tryz.func100 (by kernel_rfl) (bR Xi aH) (fun y=>by kernel_rfl) fun a=>by kernel_rfl
noncomputable abbrev aet:cb:=[(98,Fb),(99,Fa)]
theorem PG:bG ao (b9 aV aet):=b8 ⟨Nu,Nt,⟨⟩⟩
abbrev xA:Shape:=⟨[aW 0 .pack,b3 3 3000192,aj 4],[cL 3000192 .str 3 0],28⟩
abbrev Cw:List bh:=[(.ret,⟨[aj 2],[],28⟩),(.exit 0,⟨[b3 3 3000192],[cL 3000192 .str 3 0],28⟩)]
noncomputable def xX(y:xA.F):cq xA Cw:=
 bif(decide (y.1.2.2.1<(y.1.1.length:Int))) then
(bf y.1.1 y.1.2.2.1).bind fun a=>
(f98 (((a.name,a.b_,a.bZ,a.cE,()),()),())).bind fun b=>
 bif(!b.1.1) then
 some (.inr (.inl (((1:Int),()),())))
else
(bf y.1.1 y.1.2.2.1).bind fun c=>
(dc 16 y.2.1 ([c.name]:List G)).bind fun d=>
 some (.inl ((y.1.1,(),(IntKind.i64.wrap (y.1.2.2.1+(1:Int))),()),d,()))
else
 some (.inr (.inr (((),()),y.2.1,())))
noncomputable def xM:xA.F->Option (a7 Cw):=bH xX
theorem Yw:bx ao (aU (codeOf Tryz.f55) 1 58) (bK xA Cw xM):=cG PG (by kernel_rfl) aH fun y=>by kernel_rfl
abbrev i55:Shape:=⟨[aW 0 .pack],[],28⟩
abbrev NW:Shape:=⟨[aj 2],[],28⟩
noncomputable def f55(a:i55.F):Option NW.F:=
(xM ((a.1.1,(),(0:Int),()),([]:List G),())).bind fun b=>
(match b with
|.inl c=>
 some ((c.1.1,()),())
|.inr d=>
(f99 ((d.2.1,()),())).bind fun e=>
 bif e.1.1 then
 some (((2:Int),()),())
else
 some (((0:Int),()),()))
noncomputable def Pe:bp:=bN aV Tryz.f55 i55 NW [] f55
theorem abL:bu ao 55 Pe:=bP PG Tryz.func55 (by kernel_rfl) (bR Yw aH) (fun y=>by kernel_rfl) fun a=>by kernel_rfl
theorem Wx(a)(L:a.1.1.length<=2097152):f100 a=some ((a.1.1.contains a.1.2.1,()),()):=by
 obtain⟨⟨xs,s,u⟩,bW⟩:=a;have L:xs.length<=2097152:=L;have key:B4 ((xs,(s,((0:Int),()))),())=some (bif allI (fun _ x=>!(x==s)) 0 xs then .inr ((),()) else .inl ((true,()),())):=by
  refine hi xe xs (fun i=>((xs,(s,((i:Int),()))),())) _ _ _ (fun i x hx=>?_) ?_
  ·have af:=c8 hx;have hw:aN i:=by unfold aN;omega
   simp only[xe,cU af,cond_true,cI,hx,Option.bind_some,cH hw];cases (x==s)<;>rfl
  ·simp only[xe,du,cond_false]
 rw[ig,Jp] at key;simp only[f100,key,Option.bind_some];cases xs.contains s<;>rfl
def iq(ps:List a'):Int:=bif ps.all gQ then(bif gU [] (ps.map (·.name)) then 2 else 0) else 1
theorem Tp(a)(hb:k3 a.1.1):f55 a=some ((iq a.1.1,()),()):=by
 obtain⟨⟨ps,u⟩,bW⟩:=a;have hl:ps.length<=2097152:=hb.1;have key:∀(r:List a') (k:Nat) (b0:List G),ps.drop k=r->k<=ps.length->b0.length=k->
   xM ((ps,((),((k:Int),()))),(b0,()))=some (bif r.all gQ then .inr (((),()),(b0++r.map (·.name),())) else .inl (((1:Int),()),())):=by
  intro r;induction r with
  |nil=>
   intro k b0 hr ah bo;have:=drop_nil hr;have d1:decide ((k:Int)<(ps.length:Int))=false:=by simp only[decide_eq_false_iff_not];omega
   refine fH ?_
   simp only[xX,d1,cond_false,List.all_nil,cond_true,List.map_nil,List.append_nil]
  |cons q r ih=>
   intro k b0 hr ah bo;obtain⟨bI,bB,cC⟩:=drop_cons hr;have hw:aN k:=by unfold aN;omega
   have am:=U8 (((q.name,(q.b_,(q.bZ,(q.cE,())))),()),()) (hb.2 q (List.mem_of_getElem? bI));have aay:dc 16 b0 [q.name]=some (b0++[q.name]):=jM (by decide) (by unfold aN;simp;omega)
   have step:xX ((ps,((),((k:Int),()))),(b0,()))=some (bif gQ q then .inl ((ps,((),(((k+1:Nat):Int),()))),(b0++[q.name],())) else .inr (.inl (((1:Int),()),()))):=by
    simp only[xX,cU cC,cond_true,cI,bI,Option.bind_some,am,aay,cH hw];cases gQ q<;>rfl
   rw[List.all_cons];cases aD:gQ q with
   |false=>
    rw[aD,cond_false] at step;refine(fH step).trans ?_
    simp only[Bool.false_and,cond_false]
   |true=>
    rw[aD,cond_true] at step;refine(gN step).trans ((ih (k+1) (b0++[q.name]) bB cC (by simp[bo])).trans ?_)
    simp only[Bool.true_and,List.map_cons,List.append_assoc,List.singleton_append]
 have key:=key ps 0 [] rfl (Nat.zero_le _) rfl;have key:xM ((ps,((),((0:Int),()))),(([]:List G),()))=_:=key;have aC:=G1 ((ps.map (·.name),()),()) (by show(ps.map (·.name)).length<=2097152;rw[List.length_map];exact hl)
 simp only[f55,key,Option.bind_some,iq,List.nil_append];cases ps.all gQ with
 |false=>rfl
 |true=>
  simp only[cond_true,aC,Option.bind_some];cases gU [] (ps.map (·.name))<;>rfl
def KQ(rec:G->List G->Sum (List G) Int)(ps:List a'):List dE->List G->Sum (List G) Int
 |[],out=>.inl out
 |n::r,out=>match ps.find? (fun q=>q.name==n.name) with
  |none=>.inr 3
  |some q=>bif KP n q.b_ then(match rec n.name out with
   |.inl D=>KQ rec ps r D
   |.inr c=>.inr c) else .inr 3
def clo(ps:List a'):Nat->List G->G->List G->Sum (List G) Int
 |0,_,_,_=>.inr 4
 |m+1,op,name,out=>bif out.contains name then .inl out else match ps.find? (fun q=>q.name==name) with
  |none=>.inr 3
  |some p=>bif op.contains name then .inr 4 else match KQ (clo ps m (op++[name])) ps p.bZ out with
   |.inl D=>.inl (D++[name])
   |.inr c=>.inr c
def pV(ps:List a')(l:List G):Prop:=l.Nodup/\∀s,s∈l->∃q,ps.find? (fun q=>q.name==s)=some q
theorem sN:∀(l ar:List G),l.Nodup->(∀x,x∈l->x∈ar)->l.length<=ar.length:=by
 intro l;induction l with
 |nil=>intro ar _ _;exact Nat.zero_le _
 |cons x l ih=>
  intro ar hn h;obtain⟨h1,h2⟩:=List.nodup_cons.1 hn;have hx:=h x List.mem_cons_self;have:=ih (ar.erase x) h2 (fun y aq=>(List.mem_erase_of_ne (fun e=>by subst e;exact h1 aq)).2 (h y (List.mem_cons_of_mem _ aq)))
  rw[List.length_erase_of_mem hx] at this;have:=List.length_pos_of_mem hx;simp only[List.length_cons];omega
theorem pV.len{ps:List a'}{l:List G}(h:pV ps l):l.length<=ps.length:=by
 have:=sN l (ps.map (·.name)) h.1 (fun s L=>by
  obtain⟨q,aD⟩:=h.2 s L;have h1:=List.mem_of_find?_eq_some aD;have h2:q.name=s:=by have:=List.find?_some aD;simpa using this
  exact List.mem_map.2 ⟨q,h1,h2⟩)
 simpa using this
theorem pV.add{ps:List a'}{l:List G}{s:G}{q:a'}(h:pV ps l)(L:l.contains s=false)(aD:ps.find? (fun q=>q.name==s)=some q):pV ps (l++[s]):=by
 have hn:s∉l:=by simpa using L
 refine⟨?_,fun x hx=>?_⟩
 ·rw[List.nodup_append];refine⟨h.1,by simp,fun a bo b hb=>?_⟩
  rw[List.mem_singleton.1 hb];exact fun e=>hn (e▸bo)
 ·rcases List.mem_append.1 hx with hx|hx
  ·exact h.2 x hx
  ·rw[List.mem_singleton.1 hx];exact⟨q,aD⟩
theorem pV.nil(ps:List a'):pV ps []:=⟨List.nodup_nil,fun s h=>by cases h⟩
noncomputable abbrev aer:cb:=[(101,Kb)]
theorem PE:bG ao (b9 aV aer):=b8 ⟨X_,⟨⟩⟩
abbrev wk:Shape:=⟨[aW 0 .pack,b3 4 3000256,aW 13 .pack,aj 14,aj 15],[(3000256,.map .i64,.slot 4 0)],31⟩
abbrev Bh:List bh:=[(.exit 0,⟨[aW 0 .pack,b3 4 3000256],[(3000256,.map .i64,.slot 4 0)],31⟩)]
noncomputable def B6(y:wk.F):cq wk Bh:=
 bif(decide (y.1.2.2.2.2.1<y.1.2.2.2.1)) then
(bf y.1.2.2.1 y.1.2.2.2.2.1).bind fun a=>
 some (.inl ((y.1.1,(),y.1.2.2.1,y.1.2.2.2.1,(IntKind.i64.wrap (y.1.2.2.2.2.1+(1:Int))),()),(cT y.2.1 a.name y.1.2.2.2.2.1),()))
else
 some (.inr ((y.1.1,(),()),y.2.1,()))
noncomputable def wR:wk.F->Option (a7 Bh):=bH B6
theorem WR:bx ao (aU (codeOf Tryz.f58) 1 122) (bK wk Bh wR):=cG PE (by kernel_rfl) aH fun y=>by kernel_rfl
abbrev i58:Shape:=⟨[aW 0 .pack],[],31⟩
abbrev NU:Shape:=⟨[(2,.ak (.d (.map .i64))),aj 3],[],31⟩
noncomputable def f58(a:i58.F):Option NU.F:=
(x6 ((a.1.1,(),()),())).bind fun b=>
 bif(!b.1.1) then
 some ((([]:List (G×Int)),(1:Int),()),())
else
(wR ((a.1.1,(),a.1.1,(a.1.1.length:Int),(0:Int),()),([]:List (G×Int)),())).bind fun c=>
 bif((c.2.1.length:Int) !=(c.1.1.length:Int)) then
 some ((([]:List (G×Int)),(2:Int),()),())
else
 some ((c.2.1,(0:Int),()),())
noncomputable def Pb:bp:=bN aV Tryz.f58 i58 NU [] f58
theorem abI:bu ao 58 Pb:=bP PE Tryz.func58 (by kernel_rfl) (bR WR aH) (fun y=>by kernel_rfl) fun a=>by kernel_rfl
def hV(es:List (G×Int)):List G:=es.map (·.1)
def l2(es:List (G×Int))(i:Nat):List a'->List (G×Int)
 |[]=>es
 |p::r=>l2 (cT es p.name (i:Int)) (i+1) r
def pj(i:Nat):List a'->List (G×Int)
 |[]=>[]
 |p::r=>(p.name,(i:Int))::pj (i+1) r
theorem zU(n:G)(v:Int):∀es:List (G×Int),(hV es).contains n=false->cT es n v=es++[(n,v)]:=by
 intro es;induction es with
 |nil=>intro _;rfl
 |cons p es ih=>
  intro h;simp only[hV,List.map_cons,List.contains_cons,Bool.or_eq_false_iff] at h;have h1:(p.1==n)=false:=by
   cases he:(p.1==n) with
   |false=>rfl
   |true=>rw[eq_of_beq he] at h;simp at h
  simp only[cT,h1,cond_false,ih h.2,List.cons_append]
theorem SO(n:G)(v:Int):∀es:List (G×Int),(hV es).contains n=true->(cT es n v).length=es.length:=by
 intro es;induction es with
 |nil=>intro h;cases h
 |cons p es ih=>
  intro h;simp only[cT];cases h1:(p.1==n) with
  |true=>rfl
  |false=>
   have h2:(n==p.1)=false:=by
    cases he:(n==p.1) with
    |false=>rfl
    |true=>rw[eq_of_beq he] at h1;simp at h1
   simp only[hV,List.map_cons,List.contains_cons,h2,Bool.false_or] at h;simp only[cond_false,List.length_cons,ih h]
theorem Y5:∀(r:List a') (es:List (G×Int)) (i:Nat),gU (hV es) (r.map (·.name))=false->l2 es i r=es++pj i r:=by
 intro r;induction r with
 |nil=>intro es i _;simp[l2,pj]
 |cons p r ih=>
  intro es i h;simp only[List.map_cons,gU,Bool.or_eq_false_iff] at h;have h1:=zU p.name (i:Int) es h.1;simp only[l2,pj];rw[h1,ih _ _ (by simp only[hV,List.map_append,List.map_cons,List.map_nil];exact h.2)]
  simp
theorem XZ:∀(r:List a') (es:List (G×Int)) (i:Nat),(l2 es i r).length<=es.length+r.length/\(gU (hV es) (r.map (·.name))=true->(l2 es i r).length<es.length+r.length):=by
 intro r;induction r with
 |nil=>intro es i;exact⟨Nat.le_refl _,fun h=>by cases h⟩
 |cons p r ih=>
  intro es i;simp only[l2,List.map_cons,gU];obtain⟨h1,h2⟩:=ih (cT es p.name (i:Int)) (i+1);cases hc:(hV es).contains p.name with
  |true=>
   rw[SO _ _ _ hc] at h1 h2;exact⟨by simp only[List.length_cons];omega,fun _=>by simp only[List.length_cons];omega⟩
  |false=>
   have hn:=zU p.name (i:Int) es hc;have hl:(cT es p.name (i:Int)).length=es.length+1:=by rw[hn];simp
   have ah:hV (cT es p.name (i:Int))=hV es++[p.name]:=by rw[hn];simp[hV]
   rw[ah] at h2;rw[hl] at h1 h2;exact⟨by simp only[List.length_cons];omega,fun h=>by have:=h2 (by simpa using h);simp only[List.length_cons];omega⟩
theorem Ru(a)(hb:k3 a.1.1):f58 a=some (((bif iq a.1.1==0 then pj 0 a.1.1 else []),(iq a.1.1,())),()):=by
 obtain⟨⟨ps,u⟩,bW⟩:=a;have hl:ps.length<=2097152:=hb.1;have key:∀(r:List a') (k:Nat) (es:List (G×Int)),ps.drop k=r->k<=ps.length->
   wR ((ps,((),(ps,((ps.length:Int),((k:Int),()))))),(es,()))=some ((ps,((),())),(l2 es k r,())):=by
  intro r;induction r with
  |nil=>
   intro k es hr ah;have:=drop_nil hr;have d1:decide ((k:Int)<(ps.length:Int))=false:=by simp only[decide_eq_false_iff_not];omega
   refine fH ?_
   simp only[B6,d1,cond_false,l2]
  |cons q r ih=>
   intro k es hr ah;obtain⟨bI,bB,cC⟩:=drop_cons hr;have hw:aN k:=by unfold aN;omega
   refine(gN ?_).trans (ih (k+1) (cT es q.name (k:Int)) bB cC);simp only[B6,cU cC,cond_true,cI,bI,Option.bind_some,cH hw]
 have key:=key ps 0 [] rfl (Nat.zero_le _);have key:wR ((ps,((),(ps,((ps.length:Int),((0:Int),()))))),(([]:List (G×Int)),()))=_:=key;have e1:=TD ((ps,((),())),()) hb;simp only[f58,e1,Option.bind_some,iq,key];cases ps.all gQ with
 |false=>rfl
 |true=>
  simp only[Bool.not_true,cond_false,cond_true];cases U:gU [] (ps.map (·.name)) with
  |true=>
   have:=(XZ ps [] 0).2 U;have cF:(((l2 [] 0 ps).length:Int) !=(ps.length:Int))=true:=by simp at this ⊢;omega
   rw[cF];rfl
  |false=>
   have gF:=Y5 ps [] 0 U;rw[List.nil_append] at gF;have aM:∀(r:List a') (i:Nat),(pj i r).length=r.length:=by
    intro r;induction r with
    |nil=>intro i;rfl
    |cons p r ih=>intro i;simp only[pj,List.length_cons,ih]
   have cF:(((l2 [] 0 ps).length:Int) !=(ps.length:Int))=false:=by rw[gF,aM];simp
   rw[cF,gF];rfl
def K7(ps:List a')(n:G):Nat:=(ps.takeWhile fun p=>Op.bytesLess p.name n).length
def tq(ps:List a')(p:a'):List a':=ps.take (K7 ps p.name)++[p]++ps.drop (K7 ps p.name)
def Oe(ps:List a')(p:a'):List a'×Int:=bif gQ p then(match ps.find? (fun q=>q.name==p.name) with
 |some _=>(ps,2)
 |none=>(bif Dk (tq ps p)==0 then tq ps p else ps,Dk (tq ps p))) else(ps,1)
abbrev O0(k:Nat)(ps:List a'):Prop:=ps.length<=k/\∀p,p∈ps->E' p
theorem O0.ok{k:Nat}{ps:List a'}(h:O0 k ps):uW k ps:=⟨h.1,fun p am=>(h.2 p am).ok⟩
def rG(t:List bM)(p:G):Option bM:=match t[cm t p]? with
 |some e=>bif e.path==p then some e else none
 |none=>none
theorem XH{t:List bM}{p:G}{e:bM}(h:rG t p=some e):t[cm t p]? =some e/\e.path=p:=by
 unfold rG at h;cases aC:t[cm t p]? with
 |none=>rw[aC] at h;cases h
 |some x=>
  rw[aC] at h;cases hx:(x.path==p) with
  |false=>simp[hx] at h
  |true=>simp only[hx,cond_true,Option.some.injEq] at h;subst h;exact⟨rfl,eq_of_beq hx⟩
theorem YF{t:List bM}(bo:hN t){k:Nat}{e:bM}(h:t[k]? =some e):cm t e.path=k:=by
 have h1:=l' (p:=e.path) bo k e h;have h2:Op.bytesLess e.path e.path=false:=qR _;rw[h1] at h2;have h2:¬k<cm t e.path:=of_decide_eq_false h2;rcases Nat.lt_or_ge (cm t e.path) k with Y|Y
 ·exfalso
  have aP:cm t e.path<t.length:=Nat.lt_trans Y (c8 h);have bq:=List.getElem?_eq_getElem aP;have eu:=l' (p:=e.path) bo (cm t e.path) t[cm t e.path] bq;have lj:Op.bytesLess (t[cm t e.path]).path e.path=true:=by
   have am:=List.pairwise_iff_getElem.1 bo (cm t e.path) k aP (c8 h) Y;have:t[k]'(c8 h)=e:=by
    have:=List.getElem?_eq_getElem (c8 h);rw[h] at this;exact(Option.some.inj this).symm
   rw[this] at am;exact am
  rw[lj] at eu;have:=of_decide_eq_true eu.symm;omega
 ·omega
theorem Im{t:List bM}(bo:hN t){p:G}{e:bM}:rG t p=some e <-> e∈t/\e.path=p:=by
 constructor
 ·intro h;obtain⟨h1,h2⟩:=XH h;exact⟨List.mem_of_getElem? h1,h2⟩
 ·rintro⟨h1,rfl⟩;obtain⟨k,ah⟩:=List.mem_iff_getElem?.1 h1;have:=YF bo ah;unfold rG;rw[this,ah];simp
theorem Y1{a b:bM}(h:zm a b=true):a=b:=by
 unfold zm at h;simp only[Bool.and_eq_true,beq_iff_eq] at h;obtain⟨h1,h2,Y,aP⟩:=h;cases a;cases b;simp only at h1 h2 Y aP;subst h1 h2 Y aP;rfl
theorem Ij{t:List bM}{k:Nat}{e x:bM}:x∈oc t k e <-> x=e\/x∈t:=by
 constructor
 ·exact Uy
 ·unfold oc;intro h;rcases h with rfl|h
  ·simp
  ·have:x∈t.take k++t.drop k:=by rw[List.take_append_drop];exact h
   simp only[List.mem_append,List.mem_singleton] at this ⊢;rcases this with h|h
   ·exact .inl (.inl h)
   ·exact .inr h
theorem Vi{out D:List bM}{e:bM}(h:ya out e=some D)(x:bM):x∈D <-> x=e\/x∈out:=by
 unfold ya at h;split at h
 ·rename_i q aD;cases am:(q.path==e.path) with
  |true=>
   rw[am] at h;cases hc:tY e q with
   |true=>rw[hc] at h;cases h
   |false=>
    rw[hc] at h;cases h;have:zm e q=true:=by
     unfold tY at hc;simp only[Bool.or_eq_false_iff,Bool.not_eq_false'] at hc;exact hc.2
    have:=Y1 this;subst this;constructor
    ·exact .inr
    ·rintro(rfl|h)
     ·exact List.mem_of_getElem? aD
     ·exact h
  |false=>rw[am] at h;cases h;exact Ij
 ·cases h;exact Ij
theorem V8:∀{es out D:List bM},kV out es=some D->∀x,x∈D <-> x∈out\/x∈es:=by
 intro es;induction es with
 |nil=>intro out D h x;simp only[kV,Option.some.injEq] at h;subst h;simp
 |cons e r ih=>
  intro out D h x;rw[SS] at h;obtain⟨o1,h1,h2⟩:=Option.bind_eq_some_iff.1 h;rw[ih h2,Vi h1,List.mem_cons];constructor
  ·rintro((h|h)|h)
   ·exact .inr (.inl h)
   ·exact .inl h
   ·exact .inr (.inr h)
  ·rintro(h|h|h)
   ·exact .inl (.inr h)
   ·exact .inl (.inl h)
   ·exact .inr h
theorem TI:∀{ps:List a'} {out t:List bM},lq out ps=some t->∀x,x∈t <-> x∈out\/∃p,p∈ps/\x∈p.cE:=by
 intro ps;induction ps with
 |nil=>intro out t h x;simp only[lq,Option.some.injEq] at h;subst h;simp
 |cons p r ih=>
  intro out t h x;rw[Ga] at h;obtain⟨D,h1,h2⟩:=Option.bind_eq_some_iff.1 h;rw[ih h2,V8 (H0 h1).2];constructor
  ·rintro((h|h)|⟨q,h,ae⟩)
   ·exact .inl h
   ·exact .inr ⟨p,List.mem_cons_self,h⟩
   ·exact .inr ⟨q,List.mem_cons_of_mem _ h,ae⟩
  ·rintro(h|⟨q,h,ae⟩)
   ·exact .inl (.inl h)
   ·rcases List.mem_cons.1 h with rfl|h
    ·exact .inl (.inr ae)
    ·exact .inr ⟨q,h,ae⟩
theorem TH:∀{ps:List a'} {out t:List bM},il out=true->lq out ps=some t->il t=true:=by
 intro ps;induction ps with
 |nil=>intro out t an h;simp only[lq,Option.some.injEq] at h;subst h;exact an
 |cons p r ih=>
  intro out t an h;rw[Ga] at h;obtain⟨D,h1,h2⟩:=Option.bind_eq_some_iff.1 h;exact ih (H0 h1).1 h2
structure vf(ps:List a')(t:List bM):Prop where
 cE:lq [] ps=some t
 Zp:ps.all gQ=true
 mM:ps.Pairwise fun p q=>Op.bytesLess p.name q.name=true
section
variable {ps:List a'}{t:List bM}(R:vf ps t)
include R
theorem vf.ok:il t=true:=TH (by rfl) R.cE
theorem vf.Fs{p:a'}(h:p∈ps):kR p.name=true/\il p.cE=true:=by
 have:=List.all_eq_true.1 R.Zp p h;unfold gQ at this;simp only[Bool.and_eq_true] at this;exact⟨this.1.1.1,this.2⟩
theorem vf.ae0{p:a'}(h:p∈ps):hN p.cE:=GA (R.Fs h).2
theorem vf.up{p:a'}(h:p∈ps){path:G}{e:bM}(he:rG p.cE path=some e):rG t path=some e:=by
 obtain⟨ay,ai⟩:=(Im (R.ae0 h)).1 he;exact(Im (GA R.ok)).2 ⟨(TI R.cE e).2 (.inr ⟨p,h,ay⟩),ai⟩
end
abbrev BH:Shape:=⟨[aW 0 .need,aW 1 .need,aj 5],[],26⟩
abbrev IH:List bh:=[(.ret,⟨[a6 4],[],26⟩),(.exit 0,⟨[],[],26⟩)]
noncomputable def XM(y:BH.F):cq BH IH:=
 bif(decide (y.1.2.2.1<(y.1.1.length:Int))) then
(bf y.1.1 y.1.2.2.1).bind fun a=>
(bf y.1.2.1 y.1.2.2.1).bind fun b=>
 bif(!((a.name==b.name)&&((a.kind==b.kind)&&(a.b_==b.b_)))) then
 some (.inr (.inl ((false,()),())))
else
 some (.inl ((y.1.1,y.1.2.1,(IntKind.i64.wrap (y.1.2.2.1+(1:Int))),()),()))
else
 some (.inr (.inr ((),())))
noncomputable def Xy:BH.F->Option (a7 IH):=bH XM
abbrev i190:Shape:=⟨[aW 0 .need,aW 1 .need],[],26⟩
abbrev _X:Shape:=⟨[a6 4],[],26⟩
noncomputable def f190(a:i190.F):Option _X.F:=
 bif((a.1.1.length:Int) !=(a.1.2.1.length:Int)) then
 some ((false,()),())
else
(Xy ((a.1.1,a.1.2.1,(0:Int),()),())).bind fun b=>
(match b with
|.inl c=>
 some ((c.1.1,()),())
|.inr d=>
 some ((true,()),()))
abbrev i64:Shape:=⟨[e7 0 [fE .pack]],[],7⟩
def Od(ps:List a')(p:a'):List a'×Int:=bif JB ps then Oe ps p else([],1)
theorem Jn{aA:Type}{key:aA->G}:∀{b a:List aA},a.Pairwise (fun x y=>Op.bytesLess (key x) (key y)=true)->b.Pairwise (fun x y=>Op.bytesLess (key x) (key y)=true)->(∀x,x∈a->x∈b)->a.Sublist b:=by
 intro b;induction b with
 |nil=>
  intro a _ _ h;cases a with
  |nil=>exact List.Sublist.refl _
  |cons x r=>exact absurd (h x List.mem_cons_self) (by simp)
 |cons y b ih=>
  intro a bo hb h;cases a with
  |nil=>exact List.nil_sublist _
  |cons x a=>
   obtain⟨a1,a2⟩:=List.pairwise_cons.1 bo;obtain⟨aX,aG⟩:=List.pairwise_cons.1 hb;have later:∀z,Op.bytesLess (key y) (key z)=true->z∈y::b->z∈b:=by
    intro z aM hm;rcases List.mem_cons.1 hm with rfl|hm
    ·rw[qR] at aM;cases aM
    ·exact hm
   rcases List.mem_cons.1 (h x List.mem_cons_self) with rfl|hx
   ·exact List.Sublist.cons_cons _ (ih a2 aG fun z aM=>later z (a1 z aM) (h z (List.mem_cons_of_mem _ aM)))
   ·refine List.Sublist.cons _ (ih bo aG fun z aM=>?_)
    rcases List.mem_cons.1 aM with rfl|jX
    ·exact hx
    ·exact later z (sU _ _ _ (aX x hx) (a1 z jX)) (h z aM)
theorem Y6{aA:Type}{key:aA->G}{a b:List aA}(bo:a.Pairwise fun x y=>Op.bytesLess (key x) (key y)=true)(hb:b.Pairwise fun x y=>Op.bytesLess (key x) (key y)=true)(h:∀x,x∈a <-> x∈b):a=b:=
 (Jn bo hb fun x hx=>(h x).1 hx).eq_of_length_le (Jn hb bo fun x hx=>(h x).2 hx).length_le
theorem XS{ps:List a'}{n:G}:ps.find? (fun q=>q.name==n)=none <-> ∀q,q∈ps->q.name≠n:=by
 rw[List.find?_eq_none];constructor
 ·intro h q aD he;exact h q aD (by simpa using he)
 ·intro h q aD he;exact h q aD (by simpa using he)
structure Nf(ps:List a')(p:a'):Prop where
 ok:JB ps=true
 Fs:gQ p=true
 new:∀q,q∈ps->q.name≠p.name
 code:Dk (tq ps p)=0
theorem Nf.out{ps:List a'}{p:a'}(h:Nf ps p):Od ps p=(tq ps p,0):=by
 unfold Od Oe;rw[h.ok,h.Fs,XS.2 h.new,h.code];rfl
noncomputable abbrev aes:cb:=[(100,Nd)]
theorem PF:bG ao (b9 aV aes):=b8 ⟨_B,⟨⟩⟩
abbrev xz:Shape:=⟨[aW 1 .str,dK 2 2 0,aj 5],[dJ 2 [bY,bY,fE .need,fE .entry]],21⟩
abbrev Cv:List bh:=[(.ret,⟨[a6 4],[],21⟩),(.exit 0,⟨[],[],21⟩)]
noncomputable def xW(y:xz.F):cq xz Cv:=
 bif(decide (y.1.2.2.1<(y.2.1.2.2.1.length:Int))) then
(bf y.2.1.2.2.1 y.1.2.2.1).bind fun a=>
(f100 ((y.1.1,a.name,()),())).bind fun b=>
 bif b.1.1 then
 some (.inr (.inl ((true,()),())))
else
 some (.inl ((y.1.1,(),(IntKind.i64.wrap (y.1.2.2.1+(1:Int))),()),(y.2.1.1,y.2.1.2.1,y.2.1.2.2.1,y.2.1.2.2.2.1,()),()))
else
 some (.inr (.inr ((),())))
noncomputable def CQ:xz.F->Option (a7 Cv):=bH xW
theorem Yv:bx ao (aU (codeOf Tryz.f56) 1 26) (bK xz Cv CQ):=cG PF (by kernel_rfl) aH fun y=>by kernel_rfl
abbrev i56:Shape:=⟨[e7 0 [bY,bY,fE .need,fE .entry],aW 1 .str],[],21⟩
abbrev NV:Shape:=⟨[a6 4],[],21⟩
noncomputable def f56(a:i56.F):Option NV.F:=
(CQ ((a.1.2.1,(),(0:Int),()),(a.1.1.1,a.1.1.2.1,a.1.1.2.2.1,a.1.1.2.2.2.1,()),())).bind fun b=>
(match b with
|.inl c=>
 some ((c.1.1,()),())
|.inr d=>
 some ((false,()),()))
noncomputable def Pd:bp:=bN aV Tryz.f56 i56 NV [] f56
theorem abK:bu ao 56 Pd:=bP PF Tryz.func56 (by kernel_rfl) (bR Yv aH) (fun y=>by kernel_rfl) fun a=>by kernel_rfl
abbrev xy:Shape:=⟨[aW 0 .str,bc 1,b3 4 3000256,aj 5],[cL 3000256 .str 4 0],45⟩
abbrev Cu:List bh:=[(.exit 0,⟨[aW 0 .str,bc 1,b3 4 3000256,aj 5],[cL 3000256 .str 4 0],45⟩)]
noncomputable def xV(y:xy.F):cq xy Cu:=
 bif(decide (y.1.2.2.2.1<(y.1.1.length:Int))) then
(bf y.1.1 y.1.2.2.2.1).bind fun a=>
 bif(Op.bytesLess a y.1.2.1) then
 some (.inl ((y.1.1,y.1.2.1,(),(IntKind.i64.wrap (y.1.2.2.2.1+(1:Int))),()),y.2.1,()))
else
 some (.inr ((y.1.1,y.1.2.1,(),y.1.2.2.2.1,()),y.2.1,()))
else
 some (.inr ((y.1.1,y.1.2.1,(),y.1.2.2.2.1,()),y.2.1,()))
noncomputable def xL:xy.F->Option (a7 Cu):=bH xV
theorem Yu:bx ao (aU (codeOf Tryz.f57) 1 28) (bK xy Cu xL):=cG g0 (by kernel_rfl) aH fun y=>by kernel_rfl
abbrev JA:Shape:=⟨[aW 0 .str,bc 1,b3 4 3000256,aj 5],[cL 3000256 .str 4 0],45⟩
abbrev Jx:List bh:=[(.norm,⟨[aW 0 .str,bc 1,b3 4 3000256,aj 5,a6 31],[cL 3000256 .str 4 0],45⟩)]
noncomputable def C0(y:JA.F):Option (a7 Jx):=
 bif(decide (y.1.2.2.2.1<(y.1.1.length:Int))) then
(bf y.1.1 y.1.2.2.2.1).bind fun a=>
 some ((y.1.1,y.1.2.1,(),y.1.2.2.2.1,(a==y.1.2.1),()),y.2.1,())
else
 some ((y.1.1,y.1.2.1,(),y.1.2.2.2.1,false,()),y.2.1,())
theorem Yt:bx ao (aU (codeOf Tryz.f57) 1 60) (bK JA Jx C0):=e9 g0 (by kernel_rfl) aH fun y=>by kernel_rfl
abbrev i57:Shape:=⟨[aW 0 .str,bc 1],[],45⟩
abbrev Eo:Shape:=⟨[aW 4 .str],[],45⟩
noncomputable def f57(a:i57.F):Option Eo.F:=
(xL ((a.1.1,a.1.2.1,(),(0:Int),()),([]:List G),())).bind fun b=>
(C0 ((b.1.1,b.1.2.1,(),b.1.2.2.2.1,()),b.2.1,())).bind fun c=>
 bif c.1.2.2.2.2.1 then
 some ((c.1.1,()),())
else
(cO c.1.1 (0:Int) c.1.2.2.2.1).bind fun d=>
(dc 16 ([]:List G) d).bind fun e=>
(dc 16 e ([c.1.2.1]:List G)).bind fun f=>
(cO c.1.1 c.1.2.2.2.1 (c.1.1.length:Int)).bind fun g=>
(dc 16 f g).bind fun h=>
 some ((h,()),())
noncomputable def Pc:bp:=bN aV Tryz.f57 i57 Eo [] f57
theorem abJ:bu ao 57 Pc:=bP g0 Tryz.func57 (by kernel_rfl) (bR Yu (bR Yt aH)) (fun y=>by kernel_rfl) fun a=>by kernel_rfl
noncomputable abbrev aeD:cb:=[(55,Pe),(56,Pd),(57,Pc)]
theorem zq:bG ao (b9 aV aeD):=b8 ⟨abL,abK,abJ,⟨⟩⟩
abbrev GH:Shape:=⟨[aW 0 .pack,bc 1,aW 5 .str,aj 6,aj 7],[],51⟩
abbrev GD:List bh:=[(.norm,⟨[aW 0 .pack,bc 1,aW 5 .str,aj 6,aj 7,aW 25 .pack,aj 26,(27,.ak (.eS [.str,.str,.sl .need,.sl .entry] 0)),(28,.ak (.eS [.str,.str,.sl .need,.sl .entry] 0)),bc 29,bc 30,a6 31,a6 32,a6 42],[],51⟩)]
noncomputable def zX(y:GH.F):Option (a7 GD):=
(bf y.1.1 y.1.2.2.2.2.1).bind fun a=>
 bif(!(a.name==y.1.2.1)) then
(bf y.1.1 y.1.2.2.2.2.1).bind fun b=>
(dc 16 ([y.1.2.1]:List G) y.1.2.2.1).bind fun c=>
(f56 (((b.name,b.b_,b.bZ,b.cE,()),c,()),())).bind fun d=>
 some ((y.1.1,y.1.2.1,y.1.2.2.1,y.1.2.2.2.1,y.1.2.2.2.2.1,y.1.1,y.1.2.2.2.2.1,(a.name,a.b_,a.bZ,a.cE,()),(a.name,a.b_,a.bZ,a.cE,()),a.name,y.1.2.1,(!(a.name==y.1.2.1)),true,d.1.1,()),())
else
 some ((y.1.1,y.1.2.1,y.1.2.2.1,y.1.2.2.2.1,y.1.2.2.2.2.1,y.1.1,y.1.2.2.2.2.1,(a.name,a.b_,a.bZ,a.cE,()),(a.name,a.b_,a.bZ,a.cE,()),a.name,y.1.2.1,(!(a.name==y.1.2.1)),false,false,()),())
theorem SB:bx ao (aU (eH (aU (eH (aU (codeOf Tryz.f21) 1 122)) 244 7826)) 15652 250440) (bK GH GD zX):=e9 zq (by kernel_rfl) aH fun y=>by kernel_rfl
abbrev vT:Shape:=⟨[aW 0 .pack,bc 1,aW 5 .str,aj 6,aj 7],[],51⟩
abbrev AF:List bh:=[(.exit 2,⟨[aW 0 .pack,bc 1,aW 5 .str,aj 6],[],51⟩)]
noncomputable def wa(y:vT.F):cq vT AF:=
 bif(decide (y.1.2.2.2.2.1<(y.1.1.length:Int))) then
(zX ((y.1.1,y.1.2.1,y.1.2.2.1,y.1.2.2.2.1,y.1.2.2.2.2.1,()),())).bind fun a=>
 bif a.1.2.2.2.2.2.2.2.2.2.2.2.2.2.1 then
(bf a.1.1 a.1.2.2.2.2.1).bind fun b=>
(f57 ((a.1.2.2.1,b.name,()),())).bind fun c=>
 some (.inl ((a.1.1,a.1.2.1,c.1.1,a.1.2.2.2.1,(IntKind.i64.wrap (a.1.2.2.2.2.1+(1:Int))),()),()))
else
 some (.inl ((a.1.1,a.1.2.1,a.1.2.2.1,a.1.2.2.2.1,(IntKind.i64.wrap (a.1.2.2.2.2.1+(1:Int))),()),()))
else
 some (.inr ((y.1.1,y.1.2.1,y.1.2.2.1,y.1.2.2.2.1,()),()))
noncomputable def v6:vT.F->Option (a7 AF):=bH wa
theorem VE:bx ao (aU (eH (aU (codeOf Tryz.f21) 1 122)) 244 7826) (bK vT AF v6):=cG zq (by kernel_rfl) (bR SB aH) fun y=>by kernel_rfl
abbrev wx:Shape:=⟨[aW 0 .pack,bc 1,aW 5 .str,aj 6],[],51⟩
abbrev Bo:List bh:=[(.exit 0,⟨[aW 5 .str],[],51⟩)]
noncomputable def B_(y:wx.F):cq wx Bo:=
 bif(decide (y.1.2.2.2.1<(y.1.1.length:Int))) then
(v6 ((y.1.1,y.1.2.1,y.1.2.2.1,y.1.2.2.2.1,(0:Int),()),())).bind fun a=>
 some (.inl ((a.1.1,a.1.2.1,a.1.2.2.1,(IntKind.i64.wrap (a.1.2.2.2.1+(1:Int))),()),()))
else
 some (.inr ((y.1.2.2.1,()),()))
noncomputable def wT:wx.F->Option (a7 Bo):=bH B_
theorem W0:bx ao (aU (codeOf Tryz.f21) 1 122) (bK wx Bo wT):=cG zq (by kernel_rfl) (bR VE aH) fun y=>by kernel_rfl
abbrev i21:Shape:=⟨[aW 0 .pack,bc 1],[],51⟩
abbrev N9:Shape:=⟨[aW 4 .str],[],51⟩
noncomputable def f21(a:i21.F):Option N9.F:=
(f55 ((a.1.1,()),())).bind fun b=>
 bif(b.1.1 !=(0:Int)) then
 some ((([]:List G),()),())
else
(wT ((a.1.1,a.1.2.1,([]:List G),(0:Int),()),())).bind fun c=>
 some ((c.1.1,()),())
noncomputable def Pq:bp:=bN aV Tryz.f21 i21 N9 [] f21
theorem z21:bu ao 21 Pq:=bP zq Tryz.func21 (by kernel_rfl) (bR W0 aH) (fun y=>by kernel_rfl) fun a=>by kernel_rfl
end Go.Proofs
