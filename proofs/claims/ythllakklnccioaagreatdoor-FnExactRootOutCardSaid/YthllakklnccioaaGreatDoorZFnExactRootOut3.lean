/- FnExactRootOut: the program's RootOut returns what the reference's returns, for all arguments. (part 4 of 6: JnNTy, JnNSp, JnNOp, JnNEn, JnNF118, JnNF151, JnNF91, JnNF161, JnNF90, JnNPuA, JnNF89, JnNPuB, JnNFH297, JnNF271, JnNF238, JnNF241, JnNIt, JnNF127, JnNF119, JnNF121, JnNF181, JnNF162, JnNF233, JnNPuC,) Conditions: none beyond the statement. -/
import Derived.Test.YthllakklnccioaaGreatDoorZFnExactRootOut2
import Derived.Tactics
import Derived.Deep.RegionLaw
import Derived.Shelf.Abstract
import Derived.Test.YthllakklnccioaaGreatDoorProg
import Derived.KernelRfl
set_option linter.unusedSimpArgs false
set_option maxRecDepth 100000
set_option linter.unusedVariables false
namespace Go.Proofs
open Go.Jk
noncomputable abbrev aa:Program:=Tryz.prog
noncomputable def ahl:List (Nat×cd):=[
(2,.int .i64),
(3,.int .i64),
(4,.bool),
(5,.int .u8),
(6,.int .u8),
(7,.struct [(0,1),(1,1),(2,1),(3,1)] 4 [.d (.int .i64 0),.d (.int .i64 0),.d (.bool false),.d (.int .u8 0)] false),
(8,.struct [(0,1),(1,1),(2,1),(3,1)] 4 [.d (.int .i64 0),.d (.int .i64 0),.d (.bool false),.d (.int .u8 0)] false),
(9,.str),
(10,.str),
(11,.str),
(12,.int .u64),
(13,.struct [(0,1),(1,1)] 2 [.d (.str []),.d (.int .u64 0)] false),
(14,.struct [(0,1),(1,1)] 2 [.d (.str []),.d (.int .u64 0)] false),
(15,.ptr),
(16,.ptr),
(17,.ptr),
(18,.struct [(0,1)] 1 [.cx (.pointer none)] false),
(19,.struct [(0,1)] 1 [.cx (.pointer none)] false),
(20,.iface),
(21,.int .i32),
(22,.slice 52 .pack 80),
(23,.struct [(0,1)] 1 [.nil .pack] false),
(24,.struct [(0,1)] 1 [.nil .pack] false),
(26,.slice 73 .entry 48),
(28,.slice 57 .pack 80),
(29,.struct [(0,1)] 1 [.nil .pack] false),
(30,.struct [(0,1)] 1 [.nil .pack] false),
(38,.slice 9 .str 16),
(49,.slice 139 .need 40),
(50,.slice 141 .entry 48),
(51,.struct [(0,1),(1,1),(2,1),(3,1)] 4 [.d (.str []),.d (.str []),.nil .need,.nil .entry] false),
(52,.struct [(0,1),(1,1),(2,1),(3,1)] 4 [.d (.str []),.d (.str []),.nil .need,.nil .entry] false),
(55,.slice 91 .need 40),
(56,.struct [(0,1),(1,1),(2,1),(3,1)] 4 [.d (.str []),.d (.str []),.nil .need,.nil .entry] false),
(57,.struct [(0,1),(1,1),(2,1),(3,1)] 4 [.d (.str []),.d (.str []),.nil .need,.nil .entry] false),
(62,.slice 5 .u8 1),
(72,.struct [(0,1),(1,1),(2,1),(3,1)] 4 [.d (.str []),.d (.int .i64 0),.d (.int .i64 0),.d (.str [])] false),
(73,.struct [(0,1),(1,1),(2,1),(3,1)] 4 [.d (.str []),.d (.int .i64 0),.d (.int .i64 0),.d (.str [])] true),
(86,.map 9 3 .i64),
(90,.struct [(0,1),(1,1),(2,1)] 3 [.d (.str []),.d (.int .i64 0),.d (.str [])] false),
(91,.struct [(0,1),(1,1),(2,1)] 3 [.d (.str []),.d (.int .i64 0),.d (.str [])] true),
(108,.ptr),
(112,.slice 3 .i64 8),
(113,.struct [(0,1),(1,1),(2,1),(3,1)] 4 [.nil .pack,.cx (.map none),.nil .i64,.nil .str] false),
(114,.struct [(0,1),(1,1),(2,1),(3,1)] 4 [.nil .pack,.cx (.map none),.nil .i64,.nil .str] false),
(131,.int .u64),
(139,.struct [(0,1),(1,1),(2,1)] 3 [.d (.str []),.d (.int .i64 0),.d (.str [])] true),
(141,.struct [(0,1),(1,1),(2,1),(3,1)] 4 [.d (.str []),.d (.int .i64 0),.d (.int .i64 0),.d (.str [])] true),
(150,.slice 3 .i64 8),
(154,.struct [(0,1),(1,1)] 2 [.nil .u8,.d (.int .i64 0)] false),
(155,.struct [(0,1),(1,1)] 2 [.nil .u8,.d (.int .i64 0)] false),
(159,.ptr),
(166,.func),
(181,.int .i64),
(189,.int .u32),
(191,.int .u64),
(216,.int .u64),
(220,.ptr),
(233,.ptr),
(234,.struct [(0,1),(1,1)] 2 [.cx (.pointer none),.nil .u8] false),
(235,.struct [(0,1),(1,1)] 2 [.cx (.pointer none),.nil .u8] false),
(236,.iface),
(237,.iface),
(241,.arr 189 .u32 8),
(243,.slice 189 .u32 4),
(245,.ptr),
(259,.arr 4 .bool 256),
(260,.arr 4 .bool 256),
(263,.ptr),
(264,.arr 189 .u32 64),
(272,.ptr),
(276,.struct [(0,1),(1,1)] 2 [.d (.int .u8 0),.d (.int .u8 0)] false),
(277,.struct [(0,1),(1,1)] 2 [.d (.int .u8 0),.d (.int .u8 0)] false),
(290,.struct [(0,1),(1,1),(2,1),(3,1)] 4 [.cx (.pointer none),.cx (.pointer none),.cx (.pointer none),.d (.str [])] false),
(291,.struct [(0,1),(1,1),(2,1),(3,1)] 4 [.cx (.pointer none),.cx (.pointer none),.cx (.pointer none),.d (.str [])] false),
(295,.int .u8),
(296,.int .u8),
(298,.int .i32),
(299,.int .i32),
(300,.struct [(0,1),(1,1),(2,1),(3,1),(4,1),(5,1),(6,1),(7,1),(8,1),(9,1),(10,1)] 11 [.d (.int .u64 0),.d (.int .u64 0),.d (.int .u32 0),.d (.int .u8 0),.d (.int .u8 0),.d (.int .u8 0),.d (.int .u8 0),.cx .nilFunc,.cx (.pointer none),.d (.int .i32 0),.d (.int .i32 0)] false),
(301,.struct [(0,1),(1,1),(2,1),(3,1),(4,1),(5,1),(6,1),(7,1),(8,1),(9,1),(10,1)] 11 [.d (.int .u64 0),.d (.int .u64 0),.d (.int .u32 0),.d (.int .u8 0),.d (.int .u8 0),.d (.int .u8 0),.d (.int .u8 0),.cx .nilFunc,.cx (.pointer none),.d (.int .i32 0),.d (.int .i32 0)] false)]
noncomputable def tt:TypeId->cd:=zC ahl
noncomputable def az:Env:=⟨tt,[(183,257)],[17,18,26,27,37,60,66,67,124,160],[79],[],[],[],false⟩
noncomputable def jR:Env:={az with dO:=true}
abbrev cA(s:Shape)(t:List be):=Option (Sum s.H (aR t))
theorem ab1(s p:ByteArray)(k:Int)(w:World):Calls aa 223 #[.string s,.string p,.int .i64 k] w fun e w'=>
  e=.returned (.func (.func 257) #[] #[.pointer (some ⟨w.heap.size+1,0,none⟩),.pointer (some ⟨w.heap.size,0,none⟩),.pointer (some ⟨w.heap.size+2,0,none⟩)])/\
  w'=((w.alloc (.cells #[.string s] 9)).alloc (.cells #[.string p] 9)).alloc (.cells #[.int .i64 k] 3):=by
 go_enter Tryz.func223,Tryz.ntmps223
 go_wp2
 go_ret
 exact⟨rfl,rfl⟩
theorem ab2(s p:ByteArray)(w:World):Calls aa 183 #[.string s,.string p] w fun e w'=>
  e=.returned (.func (.func 257) #[] #[.pointer (some ⟨w.heap.size+1,0,none⟩),.pointer (some ⟨w.heap.size,0,none⟩),.pointer (some ⟨w.heap.size+2,0,none⟩)])/\
  w'=((w.alloc (.cells #[.string s] 9)).alloc (.cells #[.string p] 9)).alloc (.cells #[.int .i64 0] 3):=by
 go_enter Tryz.func183,Tryz.ntmps183
 go_wp2_with (go_at_call 223;refine(ab1 _ _ _ _).mono ?_;rintro e w' ⟨rfl,rfl⟩)
 go_ret
 exact⟨rfl,rfl⟩
theorem adQ:yl aa 183 257:=fun a b w=>.inl ⟨enters_of Tryz.func183 (by kernel_rfl) rfl _ _,(ab2 a b w).mono fun e w' h=>by obtain⟨rfl,rfl⟩:=h;exact⟨9,3,rfl,rfl⟩⟩
theorem ahC(w:World):Calls aa 79 #[.slice none 0 0] w fun e w'=>e=.returned (.pointer (some ⟨w.heap.size,0,none⟩))/\w'=w.alloc (.cells #[.slice none 0 0,.int .i64 0] 155):=by
 go_enter Tryz.func79,Tryz.ntmps79
 go_wp2
 go_ret
 exact⟨rfl,rfl⟩
theorem ahB(w:World)(a:Addr)(n c:Nat)(h:n<=2000):Calls aa 79 #[.slice (some a) n c] w fun e w'=>e=.returned (.pointer (some ⟨w.heap.size,0,none⟩))/\w'=w.alloc (.cells #[.slice (some a) n c,.int .i64 0] 155):=by
 have h1:¬((n:Int)>2000):=by omega
 go_enter Tryz.func79,Tryz.ntmps79
 go_wp2
 go_ret
 exact⟨rfl,rfl⟩
theorem ahD(w:World)(a:Addr)(n c:Nat)(h:2000<n)(hc:n<=c):Calls aa 79 #[.slice (some a) n c] w fun e w'=>e=.returned (.pointer (some ⟨w.heap.size,0,none⟩))/\w'=w.alloc (.cells #[.slice (some a) 2000 c,.int .i64 0] 155):=by
 have h1:((n:Int)>2000):=by omega
 go_enter Tryz.func79,Tryz.ntmps79
 go_wp2
 go_ret
 exact⟨rfl,rfl⟩
theorem ael:zc aa 79:=fun xs v w av hr=>.inl ⟨enters_of Tryz.func79 (by kernel_rfl) rfl _ _,by
 have fin:∀{v:Value} {u:Value},ba w av (.sl .u8 (xs.take 2000)) u->Calls aa 79 #[v] w (fun e w'=>e=.returned (.pointer (some ⟨w.heap.size,0,none⟩))/\w'=w.alloc (.cells #[u,.int .i64 0] 155))->
   Calls aa 79 #[v] w fun e w'=>match e,w' with
    |.returned v',w'=>∃u T,ba w av (.sl .u8 (xs.take 2000)) u/\v'=.pointer (some ⟨w.heap.size,0,none⟩)/\w'=w.alloc (.cells #[u,.int .i64 0] T)
    |_,_=>False:=fun hu hc=>hc.mono fun e w' h=>by obtain⟨rfl,rfl⟩:=h;exact⟨_,_,hu,rfl,rfl⟩
 cases hr with
 |nil=>exact fin (.nil .u8) (ahC w)
 |sl t xs a cap cs n hn hcap hb hl hc hr=>
  by_cases h:2000<n
  ·refine fin (u:=.slice (some a) 2000 cap) ?_ (ahD w a n cap h hcap);have hlen:(xs.take 2000).length=2000:=by simp only[List.length_take];omega
   have hf:flat .u8 (xs.take 2000)=(flat .u8 xs).take 2000:=by rw[BR];rfl
   refine .sl .u8 (xs.take 2000) a cap (cs.take 2000) 2000 hlen.symm (by omega) (fun hx=>hb (fun e=>hx (by rw[e];rfl))) (by rw[hf,List.length_take,List.length_take,hl]) (fun j u hu=>?_) (fun j h1 h2=>?_)
   ·rw[List.getElem?_take] at hu;split at hu
    ·exact hc j u hu
    ·cases hu
   ·have h1':j<(flat .u8 xs).length:=by rw[hf,List.length_take] at h1;omega
    have h2':j<cs.length:=by rw[List.length_take] at h2;omega
    have e1:(flat .u8 (xs.take 2000))[j]=(flat .u8 xs)[j]:=by simp only[hf,List.getElem_take]
    have e2:(cs.take 2000)[j]=cs[j]:=List.getElem_take;rw[e1,e2];exact hr j h1' h2'
  ·refine fin (u:=.slice (some a) n cap) ?_ (ahB w a n cap (by omega))
   rw[List.take_of_length_le (by omega)]
   exact .sl .u8 xs a cap cs n hn hcap hb hl hc hr⟩
theorem o':ET aa az:=⟨_a (K4 (by kernel_rfl)),by kernel_rfl,fun p h=>by
 simp only[az,List.mem_cons,List.not_mem_nil,or_false] at h;subst h;exact adQ,fun g h=>by
 simp only[az,List.mem_cons,List.not_mem_nil,or_false] at h;subst h;exact ael,fun g h=>(by cases h),fun g h=>(by cases h),fun p h=>(by cases h)⟩
theorem bB{ap:bz}(h:uQ aa ap):a9 aa (bo az ap):=LH o' h
theorem g0:a9 aa (bo az []):=bB ⟨⟩
theorem akD:ET aa jR:=⟨o'.tt,o'.AO,o'.kp,o'.op,o'.g8,o'.bs,o'.gt⟩
theorem sU{ap:bz}(h:uQ aa ap):a9 aa (bo jR ap):=LH akD h
abbrev Lk:Shape:=⟨[bk 0],[],49⟩
abbrev Lb:List be:=[(.norm,⟨[bk 0,a3 20],[],49⟩)]
noncomputable def DB(y:Lk.H):Option (aR Lb):=
 bif(!(y.1.1==([]:ak))) then
 bif(!(decide ((y.1.1.length:Int)>(10:Int)))) then
(bg y.1.1 (0:Int)).bind fun a=>
 bif(!(decide ((a.toNat:Int)<(97:Int)))) then
(bg y.1.1 (0:Int)).bind fun b=>
 some ((y.1.1,(decide ((b.toNat:Int)>(122:Int))),()),())
else
 some ((y.1.1,true,()),())
else
 some ((y.1.1,true,()),())
else
 some ((y.1.1,true,()),())
theorem _M:bl aa (aH (codeOf Tryz.f118) 1 12) (bC Lk Lb DB):=eh g0 (by kernel_rfl) aw fun y=>by kernel_rfl
abbrev JN:Shape:=⟨[bk 0,ah 3,ah 22,ah 23],[],49⟩
abbrev JD:List be:=[(.norm,⟨[bk 0,ah 22,ah 23,a3 47],[],49⟩)]
noncomputable def BQ(y:JN.H):Option (aR JD):=
(bg y.1.1 y.1.2.1).bind fun a=>
 bif(!(decide ((a.toNat:Int)<(97:Int)))) then
(bg y.1.1 y.1.2.1).bind fun b=>
 bif(decide ((b.toNat:Int)>(122:Int))) then
(bg y.1.1 y.1.2.1).bind fun c=>
 bif(!(decide ((c.toNat:Int)<(48:Int)))) then
(bg y.1.1 y.1.2.1).bind fun d=>
 some ((y.1.1,y.1.2.2.1,y.1.2.2.2.1,(decide ((d.toNat:Int)>(57:Int))),()),())
else
 some ((y.1.1,y.1.2.2.1,y.1.2.2.2.1,true,()),())
else
 some ((y.1.1,y.1.2.2.1,y.1.2.2.2.1,false,()),())
else
(bg y.1.1 y.1.2.1).bind fun e=>
 bif(!(decide ((e.toNat:Int)<(48:Int)))) then
(bg y.1.1 y.1.2.1).bind fun f=>
 some ((y.1.1,y.1.2.2.1,y.1.2.2.2.1,(decide ((f.toNat:Int)>(57:Int))),()),())
else
 some ((y.1.1,y.1.2.2.1,y.1.2.2.2.1,true,()),())
theorem XT:bl aa (aH (dz (aH (codeOf Tryz.f118) 1 58)) 116 7474) (bC JN JD BQ):=eh g0 (by kernel_rfl) aw fun y=>by kernel_rfl
abbrev xJ:Shape:=⟨[bk 0,ah 22,ah 23],[],49⟩
abbrev CV:List be:=[(.ret,⟨[a3 2],[],49⟩),(.exit 0,⟨[],[],49⟩)]
noncomputable def yc(y:xJ.H):cA xJ CV:=
 bif(decide (y.1.2.2.1<y.1.2.1)) then
(BQ ((y.1.1,y.1.2.2.1,y.1.2.1,y.1.2.2.1,()),())).bind fun a=>
 bif a.1.2.2.2.1 then
 some (.inr (.inl ((false,()),())))
else
 some (.inl ((a.1.1,a.1.2.1,(IntKind.i64.wrap (a.1.2.2.1+(1:Int))),()),()))
else
 some (.inr (.inr ((),())))
noncomputable def Do:xJ.H->Option (aR CV):=bK yc
theorem _L:bl aa (aH (codeOf Tryz.f118) 1 58) (bC xJ CV Do):=cB g0 (by kernel_rfl) (bG XT aw) fun y=>by kernel_rfl
abbrev i118:Shape:=⟨[bk 0],[],49⟩
abbrev OQ:Shape:=⟨[a3 2],[],49⟩
noncomputable def f118(a:i118.H):Option OQ.H:=
(DB ((a.1.1,()),())).bind fun b=>
 bif b.1.2.1 then
 some ((false,()),())
else
(Do ((b.1.1,(b.1.1.length:Int),(0:Int),()),())).bind fun c=>
(match c with
|.inl d=>
 some ((d.1.1,()),())
|.inr e=>
 some ((true,()),()))
noncomputable def F0:a0:=a' az Tryz.f118 i118 OQ [] f118
theorem NU:a4 aa 118 F0:=bb g0 Tryz.func118 (by kernel_rfl) (bG _M (bG _L aw)) (fun y=>by kernel_rfl) fun a=>by kernel_rfl
abbrev Lg:Shape:=⟨[bk 0,ah 1],[],53⟩
abbrev K9:List be:=[(.norm,⟨[bk 0,ah 1,a3 24],[],53⟩)]
noncomputable def Dx(y:Lg.H):Option (aR K9):=
 bif(!(y.1.1==([]:ak))) then
 bif(!(decide ((y.1.1.length:Int)>(9:Int)))) then
 bif(decide ((y.1.1.length:Int)>(1:Int))) then
(bg y.1.1 (0:Int)).bind fun a=>
 some ((y.1.1,y.1.2.1,((a.toNat:Int)==(48:Int)),()),())
else
 some ((y.1.1,y.1.2.1,false,()),())
else
 some ((y.1.1,y.1.2.1,true,()),())
else
 some ((y.1.1,y.1.2.1,true,()),())
theorem _D:bl aa (aH (codeOf Tryz.f151) 1 12) (bC Lg K9 Dx):=eh g0 (by kernel_rfl) aw fun y=>by kernel_rfl
abbrev Jb:Shape:=⟨[bk 0,ah 1,ah 6,ah 7,ah 26,ah 27],[],53⟩
abbrev I9:List be:=[(.norm,⟨[bk 0,ah 1,ah 6,ah 7,ah 26,ah 27,a3 39],[],53⟩)]
noncomputable def Bh(y:Jb.H):Option (aR I9):=
(bg y.1.1 y.1.2.2.2.1).bind fun a=>
 bif(!(decide ((a.toNat:Int)<(48:Int)))) then
(bg y.1.1 y.1.2.2.2.1).bind fun b=>
 some ((y.1.1,y.1.2.1,y.1.2.2.1,y.1.2.2.2.1,y.1.2.2.2.2.1,y.1.2.2.2.2.2.1,(decide ((b.toNat:Int)>(57:Int))),()),())
else
 some ((y.1.1,y.1.2.1,y.1.2.2.1,y.1.2.2.2.1,y.1.2.2.2.2.1,y.1.2.2.2.2.2.1,true,()),())
theorem Wi:bl aa (aH (dz (aH (codeOf Tryz.f151) 1 122)) 244 31332) (bC Jb I9 Bh):=eh g0 (by kernel_rfl) aw fun y=>by kernel_rfl
abbrev w3:Shape:=⟨[bk 0,ah 1,ah 6,ah 26,ah 27],[],53⟩
abbrev B3:List be:=[(.ret,⟨[ah 4,a3 5],[],53⟩),(.exit 0,⟨[ah 1,ah 6],[],53⟩)]
noncomputable def xd(y:w3.H):cA w3 B3:=
 bif(decide (y.1.2.2.2.2.1<y.1.2.2.2.1)) then
(Bh ((y.1.1,y.1.2.1,y.1.2.2.1,y.1.2.2.2.2.1,y.1.2.2.2.1,y.1.2.2.2.2.1,()),())).bind fun a=>
 bif a.1.2.2.2.2.2.2.1 then
 some (.inr (.inl (((0:Int),false,()),())))
else
(bg a.1.1 a.1.2.2.2.1).bind fun b=>
 some (.inl ((a.1.1,a.1.2.1,(IntKind.i64.wrap ((IntKind.i64.wrap (a.1.2.2.1*(10:Int)))+(IntKind.i64.wrap (IntKind.u8.wrap ((b.toNat:Int)-(48:Int)))))),a.1.2.2.2.2.1,(IntKind.i64.wrap (a.1.2.2.2.2.2.1+(1:Int))),()),()))
else
 some (.inr (.inr ((y.1.2.1,y.1.2.2.1,()),())))
noncomputable def w9:w3.H->Option (aR B3):=bK xd
theorem Zk:bl aa (aH (codeOf Tryz.f151) 1 122) (bC w3 B3 w9):=cB g0 (by kernel_rfl) (bG Wi aw) fun y=>by kernel_rfl
abbrev i151:Shape:=⟨[bk 0,ah 1],[],53⟩
abbrev OB:Shape:=⟨[ah 4,a3 5],[],53⟩
noncomputable def f151(a:i151.H):Option OB.H:=
(Dx ((a.1.1,a.1.2.1,()),())).bind fun b=>
 bif b.1.2.2.1 then
 some (((0:Int),false,()),())
else
(w9 ((b.1.1,b.1.2.1,(0:Int),(b.1.1.length:Int),(0:Int),()),())).bind fun c=>
(match c with
|.inl d=>
 some ((d.1.1,d.1.2.1,()),())
|.inr e=>
 bif(decide (e.1.2.1>e.1.1)) then
 some (((0:Int),false,()),())
else
 some ((e.1.2.1,true,()),()))
noncomputable def P8:a0:=a' az Tryz.f151 i151 OB [] f151
theorem adu:a4 aa 151 P8:=bb g0 Tryz.func151 (by kernel_rfl) (bG _D (bG Zk aw)) (fun y=>by kernel_rfl) fun a=>by kernel_rfl
abbrev i91:Shape:=⟨[ah 0,ah 1,ah 2],[],15⟩
abbrev Q4:Shape:=⟨[a3 6],[],15⟩
noncomputable def f91(a:i91.H):Option Q4.H:=
 bif(decide (a.1.1>=a.1.2.1)) then
 some (((decide (a.1.1<=a.1.2.2.1)),()),())
else
 some ((false,()),())
noncomputable def qh:a0:=a' az Tryz.f91 i91 Q4 [] f91
theorem sq:a4 aa 91 qh:=bb g0 Tryz.func91 (by kernel_rfl) aw (fun y=>by kernel_rfl) fun a=>by kernel_rfl
noncomputable abbrev afD:bz:=[(91,qh)]
theorem zW:a9 aa (bo az afD):=bB ⟨sq,⟨⟩⟩
abbrev KI:Shape:=⟨[bk 0,ah 3],[],42⟩
abbrev Kw:List be:=[(.norm,⟨[bk 0,ah 3,a3 4],[],42⟩)]
noncomputable def Co(y:KI.H):Option (aR Kw):=
(bg y.1.1 y.1.2.1).bind fun a=>
 bif(decide ((a.toNat:Int)>=(97:Int))) then
(bg y.1.1 y.1.2.1).bind fun b=>
 some ((y.1.1,y.1.2.1,(decide ((b.toNat:Int)<=(122:Int))),()),())
else
 some ((y.1.1,y.1.2.1,false,()),())
theorem Zi:bl aa (aH (dz (aH (codeOf Tryz.f161) 1 26)) 52 840) (bC KI Kw Co):=eh zW (by kernel_rfl) aw fun y=>by kernel_rfl
abbrev JK:Shape:=⟨[bk 0,ah 3,a3 4],[],42⟩
abbrev JA:List be:=[(.norm,⟨[bk 0,ah 3,a3 38],[],42⟩)]
noncomputable def BN(y:JK.H):Option (aR JA):=
 bif(!y.1.2.2.1) then
 bif(!(y.1.2.1==(0:Int))) then
(bg y.1.1 y.1.2.1).bind fun a=>
 bif(!(decide ((a.toNat:Int)<(48:Int)))) then
(bg y.1.1 y.1.2.1).bind fun b=>
 some ((y.1.1,y.1.2.1,(decide ((b.toNat:Int)>(57:Int))),()),())
else
 some ((y.1.1,y.1.2.1,true,()),())
else
 some ((y.1.1,y.1.2.1,true,()),())
else
 some ((y.1.1,y.1.2.1,false,()),())
theorem XL:bl aa (aH (dz (aH (codeOf Tryz.f161) 1 26)) 52 1682) (bC JK JA BN):=eh zW (by kernel_rfl) aw fun y=>by kernel_rfl
abbrev xB:Shape:=⟨[bk 0,ah 3],[],42⟩
abbrev CO:List be:=[(.ret,⟨[a3 2],[],42⟩),(.exit 0,⟨[bk 0],[],42⟩)]
noncomputable def x7(y:xB.H):cA xB CO:=
 bif(decide (y.1.2.1<(y.1.1.length:Int))) then
(Co ((y.1.1,y.1.2.1,()),())).bind fun a=>
(BN ((a.1.1,a.1.2.1,a.1.2.2.1,()),())).bind fun b=>
 bif b.1.2.2.1 then
 some (.inr (.inl ((false,()),())))
else
 some (.inl ((b.1.1,(IntKind.i64.wrap (b.1.2.1+(1:Int))),()),()))
else
 some (.inr (.inr ((y.1.1,()),())))
noncomputable def Dh:xB.H->Option (aR CO):=bK x7
theorem _z:bl aa (aH (codeOf Tryz.f161) 1 26) (bC xB CO Dh):=cB zW (by kernel_rfl) (bG Zi (bG XL aw)) fun y=>by kernel_rfl
abbrev i161:Shape:=⟨[bk 0],[],42⟩
abbrev Ox:Shape:=⟨[a3 2],[],42⟩
noncomputable def f161(a:i161.H):Option Ox.H:=
(Dh ((a.1.1,(0:Int),()),())).bind fun b=>
(match b with
|.inl c=>
 some ((c.1.1,()),())
|.inr d=>
(f91 (((d.1.1.length:Int),(1:Int),(10:Int),()),())).bind fun e=>
 some ((e.1.1,()),()))
noncomputable def FT:a0:=a' az Tryz.f161 i161 Ox [] f161
theorem NN:a4 aa 161 FT:=bb zW Tryz.func161 (by kernel_rfl) (bG _z aw) (fun y=>by kernel_rfl) fun a=>by kernel_rfl
abbrev KC:Shape:=⟨[bk 0,ah 3,ah 4],[],47⟩
abbrev Kq:List be:=[(.norm,⟨[bk 0,ah 3,ah 4,a3 24],[],47⟩)]
noncomputable def Cj(y:KC.H):Option (aR Kq):=
(bg y.1.1 y.1.2.2.1).bind fun a=>
 bif(!(decide ((a.toNat:Int)<(48:Int)))) then
(bg y.1.1 y.1.2.2.1).bind fun b=>
 bif(!(decide ((b.toNat:Int)>(57:Int)))) then
 some ((y.1.1,y.1.2.1,y.1.2.2.1,(decide (y.1.2.2.1>=(6:Int))),()),())
else
 some ((y.1.1,y.1.2.1,y.1.2.2.1,true,()),())
else
 some ((y.1.1,y.1.2.1,y.1.2.2.1,true,()),())
theorem Y_:bl aa (aH (dz (aH (codeOf Tryz.f90) 1 58)) 116 3728) (bC KC Kq Cj):=eh g0 (by kernel_rfl) aw fun y=>by kernel_rfl
abbrev yr:Shape:=⟨[bk 0,ah 3,ah 4],[],47⟩
abbrev DN:List be:=[(.ret,⟨[ah 2],[],47⟩),(.exit 0,⟨[bk 0,ah 3],[],47⟩)]
noncomputable def yP(y:yr.H):cA yr DN:=
 bif(decide (y.1.2.2.1<(y.1.1.length:Int))) then
(Cj ((y.1.1,y.1.2.1,y.1.2.2.1,()),())).bind fun a=>
 bif a.1.2.2.2.1 then
 some (.inr (.inl ((((-1):Int),()),())))
else
(bg a.1.1 a.1.2.2.1).bind fun b=>
 some (.inl ((a.1.1,(IntKind.i64.wrap ((IntKind.i64.wrap (a.1.2.1*(10:Int)))+(IntKind.i64.wrap (IntKind.u8.wrap ((b.toNat:Int)-(48:Int)))))),(IntKind.i64.wrap (a.1.2.2.1+(1:Int))),()),()))
else
 some (.inr (.inr ((y.1.1,y.1.2.1,()),())))
noncomputable def D6:yr.H->Option (aR DN):=bK yP
theorem aaP:bl aa (aH (codeOf Tryz.f90) 1 58) (bC yr DN D6):=cB g0 (by kernel_rfl) (bG Y_ aw) fun y=>by kernel_rfl
abbrev LV:Shape:=⟨[bk 0,ah 3],[],47⟩
abbrev LQ:List be:=[(.norm,⟨[ah 3,a3 45],[],47⟩)]
noncomputable def El(y:LV.H):Option (aR LQ):=
 bif(!((y.1.1.length:Int)==(0:Int))) then
 bif(decide ((y.1.1.length:Int)>(1:Int))) then
(bg y.1.1 (0:Int)).bind fun a=>
 some ((y.1.2.1,((a.toNat:Int)==(48:Int)),()),())
else
 some ((y.1.2.1,false,()),())
else
 some ((y.1.2.1,true,()),())
theorem aaO:bl aa (aH (codeOf Tryz.f90) 1 60) (bC LV LQ El):=eh g0 (by kernel_rfl) aw fun y=>by kernel_rfl
abbrev i90:Shape:=⟨[bk 0],[],47⟩
abbrev Q5:Shape:=⟨[ah 2],[],47⟩
noncomputable def f90(a:i90.H):Option Q5.H:=
(D6 ((a.1.1,(0:Int),(0:Int),()),())).bind fun b=>
(match b with
|.inl c=>
 some ((c.1.1,()),())
|.inr d=>
(El ((d.1.1,d.1.2.1,()),())).bind fun e=>
 bif e.1.2.1 then
 some ((((-1):Int),()),())
else
 some ((e.1.1,()),()))
noncomputable def Sw:a0:=a' az Tryz.f90 i90 Q5 [] f90
theorem ags:a4 aa 90 Sw:=bb g0 Tryz.func90 (by kernel_rfl) (bG aaP (bG aaO aw)) (fun y=>by kernel_rfl) fun a=>by kernel_rfl
def iu(b:UInt8):Bool:=decide ((97:Int)<=(b.toNat:Int))&&decide ((b.toNat:Int)<=122)
def dJ(b:UInt8):Bool:=decide ((48:Int)<=(b.toNat:Int))&&decide ((b.toNat:Int)<=57)
def within(n cE hi:Int):Bool:=decide (cE<=n)&&decide (n<=hi)
theorem q_(a):f91 a=some ((within a.1.1 a.1.2.1 a.1.2.2.1,()),()):=by
 simp only[f91,within,ge_iff_le];cases decide (a.1.2.1<=a.1.1)<;>rfl
def kM(s:ak):Bool:=allI (fun i x=>iu x||(!(i==0)&&dJ x)) 0 s&&within s.length 1 10
theorem Kf(a)(M:aD a.1.1.length):f161 a=some ((kM a.1.1,()),()):=by
 obtain⟨⟨s,u⟩,bx⟩:=a;have key:Dh ((s,((0:Int),())),())=some (bif allI (fun i x=>iu x||(!(i==0)&&dJ x)) 0 s then .inr ((s,()),()) else .inl ((false,()),())):=by
  refine fz x7 s (fun i=>((s,((i:Int),())),())) _ _ _ (fun i x hx=>?_) ?_
  ·have hi:=ca hx;have hw:aD i:=by unfold aD at*;simp only at M;omega
   simp only[x7,ce hi,cond_true,Co,BN,bZ,hx,Option.bind_some,b_ hw,ge_iff_le,Py];unfold iu dJ;by_cases h1:(97:Int)<=(x.toNat:Int)<;>by_cases h2:(x.toNat:Int)<=122<;>cases Z:(i==0)<;>by_cases aI:(48:Int)<=(x.toNat:Int)<;>by_cases bp:(x.toNat:Int)<=57<;>simp[h1,h2,Z,aI,bp,b_ hw,bZ,hx,Py,oW,oX,-beq_iff_eq]
  ·simp only[x7,cX,cond_false]
 simp only[f161,key,Option.bind_some];unfold kM;cases allI (fun i x=>iu x||(!(i==0)&&dJ x)) 0 s with
 |false=>rfl
 |true=>simp only[cond_true,q_,Option.bind_some,Bool.true_and]
theorem Vs(b:UInt8)(r:ak):kM (b::r)=(iu b&&(b::r).all (fun x=>iu x||dJ x)&&decide (((b::r).length:Int)<=10)):=by
 unfold kM;simp only[allI,List.all_cons];have:allI (fun i x=>iu x||(!(i==0)&&dJ x)) (0+1) r=r.all (fun x=>iu x||dJ x):=by
  have hz:∀(i:Nat) (x:UInt8),1<=i->x∈r->(iu x||(!(i==0)&&dJ x))=(iu x||dJ x):=by
   intro i x hi _;have:(i==0)=false:=by simp;omega
   rw[this];simp
  rw[Jt (lE:=fun _ x=>iu x||dJ x) r 1 hz,gR]
 rw[this];unfold within;have:decide ((1:Int)<=((b::r).length:Int))=true:=by simp only[List.length_cons,decide_eq_true_eq];omega
 rw[this];cases iu b<;>simp
theorem Iq(a)(M:aD a.1.1.length):f118 a=some ((kM a.1.1,()),()):=by
 obtain⟨⟨s,u⟩,bx⟩:=a;have key:Do ((s,((s.length:Int),((0:Int),()))),())=some (bif allI (fun _ x=>iu x||dJ x) 0 s then .inr ((),()) else .inl ((false,()),())):=by
  refine fz yc s (fun i=>((s,((s.length:Int),((i:Int),()))),())) _ _ _ (fun i x hx=>?_) ?_
  ·have hi:=ca hx;have hw:aD i:=by unfold aD at*;simp only at M;omega
   simp only[yc,ce hi,cond_true,BQ,bZ,hx,Option.bind_some,b_ hw,oW,oX];unfold iu dJ;by_cases h1:(97:Int)<=(x.toNat:Int)<;>by_cases h2:(x.toNat:Int)<=122<;>by_cases aI:(48:Int)<=(x.toNat:Int)<;>by_cases bp:(x.toNat:Int)<=57<;>simp[h1,h2,aI,bp,b_ hw,bZ,hx,oW,oX]
  ·simp only[yc,cX,cond_false]
 rw[gR] at key;cases s with
 |nil=>rfl
 |cons b r=>
  have hb:bg (b::r) 0=some b:=rfl;simp only[f118,DB,hb,Option.bind_some,oW,oX,Vs];have he:((b::r)==([]:ak))=false:=rfl;have hl:iu b=(decide ((97:Int)<=(b.toNat:Int))&&decide ((b.toNat:Int)<=122)):=rfl;rw[he,hl];by_cases h1:(97:Int)<=(b.toNat:Int)<;>by_cases h2:(b.toNat:Int)<=122<;>by_cases Z:((b::r).length:Int)<=10<;>
   simp only[h1,h2,Z,decide_true,decide_false,Bool.not_true,Bool.not_false,cond_true,cond_false,Option.bind_some,Bool.true_and,Bool.and_true,Bool.false_and,Bool.and_false]
  rw[key];generalize List.all (b::r) (fun x=>iu x||dJ x)=q
  cases q<;>rfl
def gV(n:Int)(b:UInt8):Int:=n*10+((b.toNat:Int)-48)
def gk(s:ak):Int:=s.foldl gV 0
def mq:ak->Bool
 |b::_::_=>(b.toNat:Int)==48
 |_=>false
def fg(s:ak):Bool:=s.all dJ&&!(s==[])&&!mq s&&decide (s.length<=6)&&decide (gk s<=999)
theorem m9{b:UInt8}(h:dJ b=true):48<=(b.toNat:Int)/\(b.toNat:Int)<=57:=by
 simpa[dJ] using h
theorem aaD{b:UInt8}(h:dJ b=true):IntKind.u8.wrap ((b.toNat:Int)-48)=(b.toNat:Int)-48:=by
 have:=m9 h;rw[IntKind.wrap_u8];omega
theorem IG{n:Int}{b:UInt8}{i:Nat}(h:dJ b=true)(h0:0<=n)(h1:n<10^i):0<=gV n b/\gV n b<10^(i+1):=by
 have:=m9 h;unfold gV;rw[Int.pow_succ];omega
theorem _Q{i:Nat}(h:i<=9):(10:Int)^i<=1000000000:=by
 have:i=0\/i=1\/i=2\/i=3\/i=4\/i=5\/i=6\/i=7\/i=8\/i=9:=by omega
 rcases this with rfl|rfl|rfl|rfl|rfl|rfl|rfl|rfl|rfl|rfl<;>decide
theorem JF{n:Int}{b:UInt8}{i:Nat}(h:dJ b=true)(hi:i<=8)(h0:0<=n)(h1:n<10^i):
  IntKind.i64.wrap (IntKind.i64.wrap (n*10)+IntKind.i64.wrap (IntKind.u8.wrap ((b.toNat:Int)-48)))=gV n b:=by
 have Y:=m9 h;have al:=_Q (show i<=9 by omega)
 rw[aaD h,ei (n:=n*10) (by omega) (by omega),ei (n:=(b.toNat:Int)-48) (by omega) (by omega),ei (by omega) (by omega)]
 rfl
theorem Z9(a)(M:aD a.1.1.length):f90 a=some ((bif a.1.1.all dJ&&decide (a.1.1.length<=6)&&!(a.1.1==[])&&!mq a.1.1 then gk a.1.1 else-1,()),()):=by
 obtain⟨⟨s,u⟩,bx⟩:=a;have key:D6 ((s,((0:Int),((0:Int),()))),())=some (bif allI (fun i x=>dJ x&&decide (i<6)) 0 s then .inr ((s,(gk s,())),()) else .inl ((((-1):Int),()),())):=by
  have:=l9 yP s (fun i n=>((s,(n,((i:Int),()))),())) (fun i x n=>some (bif dJ x&&decide (i<6) then .inl (gV n x) else .inr (.inl ((((-1):Int),()),())))) (fun n=>.inr ((s,(n,())),()))
   (fun i n=>0<=n/\n<10^i/\(i<=6)) (0:Int) ⟨by decide,by decide,by decide⟩ (fun i x n hx cW=>?_) (fun n _=>?_)
  ·exact this.trans (by rw[A9];rfl)
  ·have hi:=ca hx;have hw:aD i:=by unfold aD at*;simp only at M;omega
   obtain⟨h0,h1,db⟩:=cW;refine⟨?_,fun am ab=>?_⟩
   ·simp only[yP,ce hi,cond_true,Cj,bZ,hx,Option.bind_some,b_ hw,oW,oX,Sj];have aet:decide ((6:Int)<=(i:Int))=!decide (i<6):=by by_cases h:i<6<;>simp[h]<;>omega
    rw[aet];cases Y:dJ x with
    |false=>
     unfold dJ at Y;by_cases aI:(48:Int)<=(x.toNat:Int)<;>by_cases bp:(x.toNat:Int)<=57<;>simp[aI,bp] at Y ⊢
    |true=>
     obtain⟨aI,bp⟩:=m9 Y;cases aF:decide (i<6) with
     |false=>simp[aI,bp]
     |true=>
      have aF:i<6:=by simpa using aF
      have:=JF (i:=i) Y (by omega) h0 h1
      simp only[aI,bp,decide_true,Bool.not_true,Bool.not_false,cond_true,cond_false,Option.bind_some,bZ,hx,this,b_ hw,Bool.and_true,Option.map_some]
   ·simp only[Option.some.injEq] at ab;cases aF:(dJ x&&decide (i<6)) with
    |false=>rw[aF] at ab;cases ab
    |true=>
     rw[aF] at ab;simp only[cond_true,Sum.inl.injEq] at ab;simp only[Bool.and_eq_true,decide_eq_true_eq] at aF;subst ab;have:=IG aF.1 h0 h1;exact⟨this.1,this.2,by omega⟩
  ·simp only[yP,cX,cond_false]
 rw[Cx,gR,aap] at key;simp only[f90,key,Option.bind_some];cases s with
 |nil=>rfl
 |cons b r=>
  have hb:bg (b::r) 0=some b:=rfl;have he:((b::r)==([]:ak))=false:=rfl;have hz:(((b::r).length:Int)==0)=false:=by simp only[List.length_cons,beq_eq_false_iff_ne,ne_eq];omega
  have hl:decide (((b::r).length:Int)>1)=!(r==[]):=by cases r<;>simp;omega
  simp only[List.isEmpty_cons,Bool.false_or,Nat.zero_add,he,Bool.not_false,Bool.and_true];cases aF:(List.all (b::r) dJ&&decide ((b::r).length<=6)) with
  |false=>rfl
  |true=>
   simp only[cond_true,El,hz,Bool.not_false,hl,hb,Option.bind_some,Bool.true_and];cases r with
   |nil=>rfl
   |cons c r=>
    have:((c::r)==([]:ak))=false:=rfl;rw[this];simp only[Bool.not_false,cond_true,Option.bind_some,mq];cases ((b.toNat:Int)==48)<;>rfl
theorem WZ:∀(r:ak) (n:Int) (k:Nat),r.all dJ=true->0<=n->10^k<=n->10^(k+r.length)<=r.foldl gV n:=by
 intro r;induction r with
 |nil=>intro n k _ _ h;exact h
 |cons b r ih=>
  intro n k Y h0 h;simp only[List.all_cons,Bool.and_eq_true] at Y;have hb:=m9 Y.1;have M:10^(k+1)<=gV n b:=by unfold gV;rw[Int.pow_succ];omega
  have:=ih (gV n b) (k+1) Y.2 (by unfold gV;omega) M
  simp only[List.length_cons,List.foldl_cons];rw[show k+(r.length+1)=k+1+r.length by omega]
  exact this
theorem Zm{n:Nat}(h:6<=n):(1000000:Int)<=10^n:=by
 induction n with
 |zero=>omega
 |succ n ih=>
  by_cases db:6<=n
  ·have:=ih db;rw[Int.pow_succ];omega
  ·have:n=5:=by omega
   subst this;decide
theorem Z6{s:ak}(Y:s.all dJ=true)(hl:mq s=false)(hy:7<=s.length):999<gk s:=by
 match s,hy with
 |b::c::r,hy=>
  simp only[mq,beq_eq_false_iff_ne,ne_eq] at hl;simp only[List.all_cons,Bool.and_eq_true] at Y;have hb:=m9 Y.1;have hc:=m9 Y.2.1;have M:(10:Int)^0<=gV 0 b:=by unfold gV;simp;omega
  have:=WZ (c::r) (gV 0 b) 0 (by simp[Y.2.1,Y.2.2]) (by unfold gV;omega) M
  have h2:(1000000:Int)<=10^(0+(c::r).length):=Zm (by simp only[List.length_cons] at hy ⊢;omega)
  show 999<List.foldl gV (gV 0 b) (c::r);omega
theorem YA(a)(M:aD a.1.1.length)(k_:a.1.2.1=999):f151 a=some ((bif fg a.1.1 then gk a.1.1 else 0,(fg a.1.1,())),()):=by
 obtain⟨⟨s,m,u⟩,bx⟩:=a;obtain rfl:m=999:=k_;have key:s.length<=9->w9 ((s,((999:Int),((0:Int),((s.length:Int),((0:Int),()))))),())=some (bif allI (fun i x=>dJ x) 0 s then .inr (((999:Int),(gk s,())),()) else .inl (((0:Int),(false,())),())):=by
  intro k_;have:=l9 xd s (fun i n=>((s,((999:Int),(n,((s.length:Int),((i:Int),()))))),())) (fun i x n=>some (bif dJ x then .inl (gV n x) else .inr (.inl (((0:Int),(false,())),())))) (fun n=>.inr (((999:Int),(n,())),()))
   (fun i n=>0<=n/\n<10^i/\(i<=9)) (0:Int) ⟨by decide,by decide,by decide⟩ (fun i x n hx cW=>?_) (fun n _=>?_)
  ·exact this.trans (by rw[A9];rfl)
  ·have hi:=ca hx;have hw:aD i:=by unfold aD at*;simp only at M;omega
   obtain⟨h0,h1,db⟩:=cW;refine⟨?_,fun am ab=>?_⟩
   ·simp only[xd,ce hi,cond_true,Bh,bZ,hx,Option.bind_some,b_ hw,oW,oX,Sj];cases Y:dJ x with
    |false=>
     unfold dJ at Y;by_cases aI:(48:Int)<=(x.toNat:Int)<;>by_cases bp:(x.toNat:Int)<=57<;>simp[aI,bp] at Y ⊢
    |true=>
     obtain⟨aI,bp⟩:=m9 Y;have:=JF (i:=i) Y (by omega) h0 h1
     simp only[aI,bp,decide_true,Bool.not_true,Bool.not_false,cond_true,cond_false,Option.bind_some,bZ,hx,this,b_ hw,Bool.and_true,Option.map_some]
   ·simp only[Option.some.injEq] at ab;cases aF:dJ x with
    |false=>rw[aF] at ab;cases ab
    |true=>
     rw[aF] at ab;simp only[cond_true,Sum.inl.injEq] at ab;subst ab;have:=IG aF h0 h1;exact⟨this.1,this.2,by omega⟩
  ·simp only[xd,cX,cond_false]
 rw[gR] at key;cases s with
 |nil=>rfl
 |cons b r=>
  have hb:bg (b::r) 0=some b:=rfl;have he:((b::r)==([]:ak))=false:=rfl;have hl:decide (((b::r).length:Int)>1)=!(r==[]):=by cases r<;>simp;omega
  have k_:decide (((b::r).length:Int)>9)=!decide ((b::r).length<=9):=by by_cases h:(b::r).length<=9<;>simp only[h,decide_true,decide_false,Bool.not_true,Bool.not_false,decide_eq_true_eq,decide_eq_false_iff_not]<;>omega
  have EI:mq (b::r)=(!(r==[])&&(b.toNat:Int)==48):=by cases r<;>rfl
  simp only[f151,Dx,he,hl,k_,Bool.not_false,cond_true,Bool.not_not,hb,Option.bind_some];have fin:(b::r).length<=9->mq (b::r)=false->((w9 ((b::r,((999:Int),((0:Int),(((b::r).length:Int),((0:Int),()))))),())).bind fun aef=>match aef with
    |.inl N1=>some ((N1.1.1,(N1.1.2.1,())),())
    |.inr E4=>bif decide (E4.1.2.1>E4.1.1) then some (((0:Int),(false,())),()) else some ((E4.1.2.1,(true,())),()))=
    some ((bif fg (b::r) then gk (b::r) else 0,(fg (b::r),())),()):=by
   intro k_ ke;rw[key k_];unfold fg;rw[he,ke];cases Y:List.all (b::r) dJ with
   |false=>rfl
   |true=>
    simp only[cond_true,Option.bind_some,Bool.not_false,Bool.true_and,oX];by_cases db:(b::r).length<=6
    ·simp only[db,decide_true,Bool.true_and];cases decide (gk (b::r)<=999)<;>rfl
    ·have:=Z6 Y ke (by omega)
     have:decide (gk (b::r)<=999)=false:=by simp only[decide_eq_false_iff_not];omega
     rw[this];simp only[db,decide_false,Bool.false_and];rfl
  by_cases aF:(b::r).length<=9
  ·simp only[aF,decide_true,cond_true];cases hr:(r==[]) with
   |true=>
    simp only[Bool.not_true,cond_false,Option.bind_some];exact fin aF (by rw[EI,hr];rfl)
   |false=>
    simp only[Bool.not_false,cond_true,Option.bind_some];cases Sd:((b.toNat:Int)==48) with
    |true=>
     have:fg (b::r)=false:=by unfold fg;rw[EI,hr,Sd];simp
     rw[this];rfl
    |false=>
     simp only[cond_false];exact fin aF (by rw[EI,hr,Sd];rfl)
  ·have:fg (b::r)=false:=by
    unfold fg;have:decide ((b::r).length<=6)=false:=by simp only[decide_eq_false_iff_not];omega
    rw[this];simp
   simp only[aF,decide_false,cond_false,Option.bind_some,cond_true,this]
abbrev xj:Shape:=⟨[bk 0,(1,.ai (.d (.int .u8))),ah 2,b8 7 3000448,ah 8,ah 9],[cq 3000448 .str 7 0],43⟩
abbrev tz:List be:=[(.exit 0,⟨[bk 0,b8 7 3000448,ah 8],[cq 3000448 .str 7 0],43⟩)]
noncomputable def xU(y:xj.H):cA xj tz:=
 bif(decide (y.1.2.2.2.2.2.1<(y.1.1.length:Int))) then
 bif(decide ((y.2.1.length:Int)<y.1.2.2.1)) then
(bg y.1.1 y.1.2.2.2.2.2.1).bind fun a=>
 bif((a.toNat:Int)==y.1.2.1) then
(dA y.1.1 y.1.2.2.2.2.1 y.1.2.2.2.2.2.1).bind fun b=>
(dB 16 y.2.1 ([b]:List ak)).bind fun c=>
 some (.inl ((y.1.1,y.1.2.1,y.1.2.2.1,(),(IntKind.i64.wrap (y.1.2.2.2.2.2.1+(1:Int))),(IntKind.i64.wrap (y.1.2.2.2.2.2.1+(1:Int))),()),c,()))
else
 some (.inl ((y.1.1,y.1.2.1,y.1.2.2.1,(),y.1.2.2.2.2.1,(IntKind.i64.wrap (y.1.2.2.2.2.2.1+(1:Int))),()),y.2.1,()))
else
 some (.inr ((y.1.1,(),y.1.2.2.2.2.1,()),y.2.1,()))
else
 some (.inr ((y.1.1,(),y.1.2.2.2.2.1,()),y.2.1,()))
noncomputable def C8:xj.H->Option (aR tz):=bK xU
theorem _f:bl aa (aH (codeOf Tryz.f89) 1 122) (bC xj tz C8):=cB g0 (by kernel_rfl) aw fun y=>by kernel_rfl
abbrev i89:Shape:=⟨[bk 0,(1,.ai (.d (.int .u8))),ah 2],[],43⟩
abbrev Q6:Shape:=⟨[b8 6 3000384],[cq 3000384 .str 6 0],43⟩
noncomputable def f89(a:i89.H):Option Q6.H:=
(C8 ((a.1.1,a.1.2.1,a.1.2.2.1,(),(0:Int),(0:Int),()),([]:List ak),())).bind fun b=>
(dA b.1.1 b.1.2.2.1 (b.1.1.length:Int)).bind fun c=>
(dB 16 b.2.1 ([c]:List ak)).bind fun d=>
 some (((),()),d,())
noncomputable def Hj:a0:=a' az Tryz.f89 i89 Q6 [] f89
theorem QJ:a4 aa 89 Hj:=bb g0 Tryz.func89 (by kernel_rfl) (bG _f aw) (fun y=>by kernel_rfl) fun a=>by kernel_rfl
abbrev cg(n:Nat):Prop:=n<=2097152
theorem wz(c:UInt8):∀s,cK c s≠[]:=by
 intro s;induction s with
 |nil=>intro h;cases h
 |cons b r ih=>
  unfold cK;cases b==c with
  |true=>intro h;cases h
  |false=>
   simp only[cond_false];split<;>intro h<;>cases h
def sg(a7:ak):List ak->List ak
 |x::xs=>(a7++x)::xs
 |[]=>[a7]
theorem KS{ap:List ak}(h:ap≠[]):sg [] ap=ap:=by
 cases ap with
 |nil=>exact absurd rfl h
 |cons x xs=>rfl
theorem wo(c:UInt8):∀s,(cK c s).length<=s.length+1:=by
 intro s;induction s with
 |nil=>exact Nat.le_refl _
 |cons b r ih=>
  unfold cK;cases b==c with
  |true=>simpa using ih
  |false=>
   simp only[cond_false];split
   ·rename_i x xs h;rw[h] at ih;simp at ih ⊢;omega
   ·simp
theorem wm(c:UInt8):∀s x,x∈cK c s->x.length<=s.length:=by
 intro s;induction s with
 |nil=>intro x h;simp[cK] at h;simp[h]
 |cons b r ih=>
  intro x h;unfold cK at h;cases hb:b==c with
  |true=>
   rw[hb,cond_true] at h;rcases List.mem_cons.1 h with rfl|h
   ·simp
   ·have:=ih x h;simp;omega
  |false=>
   rw[hb,cond_false] at h;split at h
   ·rename_i y ys aj;rcases List.mem_cons.1 h with rfl|h
    ·have:=ih y (by rw[aj];exact List.mem_cons_self);simp;omega
    ·have:=ih x (by rw[aj];exact List.mem_cons_of_mem _ h);simp;omega
   ·simp at h;simp[h]
theorem ZU{bu:Type}(c:UInt8)(s:ak)(fin:Nat×List ak->bu):∀(r:ak) (k:Nat) (q:Nat×List ak),r=s.drop k->k<=s.length->q.1<=k->
  ∃g6,eB (fun i x (q:Nat×List ak)=>some (.inl (bif(x.toNat:Int)==(c.toNat:Int) then(i+1,q.2++[(s.take i).drop q.1]) else q):Sum (Nat×List ak) bu)) fin k r q=some (fin g6)/\g6.1<=s.length/\
   g6.2++[s.drop g6.1]=q.2++sg ((s.take k).drop q.1) (cK c r):=by
 intro r;induction r with
 |nil=>
  intro k q hr ag aF;have k3:k=s.length:=by
   have:=congrArg List.length hr;simp at this;omega
  refine⟨q,rfl,by omega,?_⟩
  rw[k3,List.take_length];simp[cK,sg]
 |cons x r ih=>
  intro k q hr ag aF;have aW:k<s.length:=by
   have:=congrArg List.length hr;simp at this;omega
  have cL:r=s.drop (k+1):=by
   have:=congrArg List.tail hr;simpa using this
  have hx:s[k]? =some x:=by
   have:=congrArg (fun l=>l[0]?) hr
   simpa using this.symm
  simp only[eB];cases hc:((x.toNat:Int)==(c.toNat:Int)) with
  |true=>
   have Gt:x=c:=by
    simp only[beq_iff_eq] at hc;exact UInt8.toNat_inj.1 (by omega)
   simp only[cond_true];obtain⟨g6,h1,h2,Z⟩:=ih (k+1) (k+1,q.2++[(s.take k).drop q.1]) cL aW (Nat.le_refl _);refine⟨g6,h1,h2,Z.trans ?_⟩;have e1:(s.take (k+1)).drop (k+1)=[]:=List.drop_eq_nil_of_le (by rw[List.length_take];omega)
   simp only[e1];rw[KS (wz c r)];subst Gt;have:cK x (x::r)=[]::cK x r:=by simp[cK]
   rw[this];simp[sg]
  |false=>
   have Gt:(x==c)=false:=by
    cases h:x==c with
    |false=>rfl
    |true=>rw[eq_of_beq h] at hc;simp at hc
   simp only[cond_false];obtain⟨g6,h1,h2,Z⟩:=ih (k+1) q cL aW (by omega)
   refine⟨g6,h1,h2,Z.trans ?_⟩;have e1:(s.take (k+1)).drop q.1=(s.take k).drop q.1++[x]:=by
    rw[List.take_add_one,hx];rw[List.drop_append_of_le_length (by rw[List.length_take];omega)]
    rfl
   rw[e1];have:cK c (x::r)=sg [x] (cK c r):=by
    rw[cK,Gt,cond_false];cases h:cK c r with
    |nil=>rfl
    |cons y ys=>rfl
   rw[this];cases h:cK c r with
   |nil=>exact absurd h (wz c r)
   |cons y ys=>simp[sg]
theorem K2(c:UInt8)(a)(M:cg a.1.1.length)(hb:a.1.2.1=(c.toNat:Int))(hm:a.1.2.2.1=((a.1.1.length+1:Nat):Int)):f89 a=some (((),()),(cK c a.1.1,())):=by
 obtain⟨⟨s,b,m,u⟩,bx⟩:=a;obtain rfl:b=(c.toNat:Int):=hb;obtain rfl:m=((s.length+1:Nat):Int):=hm;have M:s.length<=2097152:=M;have key:=l9 xU s (fun i (q:Nat×List ak)=>((s,((c.toNat:Int),(((s.length+1:Nat):Int),((),((q.1:Int),((i:Int),())))))),(q.2,())))
  (fun i x (q:Nat×List ak)=>some (.inl (bif(x.toNat:Int)==(c.toNat:Int) then(i+1,q.2++[(s.take i).drop q.1]) else q))) (fun q=>(((s,((),((q.1:Int),()))),(q.2,())):aR tz))
  (fun i q=>q.1<=i/\q.2.length<=i) (0,[]) ⟨Nat.le_refl _,Nat.le_refl _⟩ (fun i x q hx cW=>?_) (fun q cW=>?_)
 ·obtain⟨g6,h1,h2,Z⟩:=ZU c s (fun q=>(((s,((),((q.1:Int),()))),(q.2,())):aR tz)) s 0 (0,[]) rfl (Nat.zero_le _) (Nat.le_refl _)
  have key:C8 ((s,((c.toNat:Int),(((s.length+1:Nat):Int),((),((0:Int),((0:Int),())))))),(([]:List ak),()))=some ((s,((),((g6.1:Int),()))),(g6.2,())):=key.trans h1;simp only[f89,key,Option.bind_some];rw[JE h2];have Z:g6.2++[s.drop g6.1]=cK c s:=by
   rw[Z];simp only[List.take_zero,List.drop_nil,List.nil_append];exact KS (wz c s)
  have hl:g6.2.length<=s.length+1:=by
   have:=congrArg List.length Z;have aI:=wo c s;simp only[List.length_append,List.length_cons,List.length_nil] at this;omega
  simp only[Option.bind_some];rw[hJ (by decide) (by unfold aD;simp only[List.length_cons,List.length_nil];omega)]
  simp only[Option.bind_some,Z]
 ·have hi:=ca hx;have hw:aD i:=by unfold aD;omega
  obtain⟨h0,h1⟩:=cW;have aW:decide ((q.2.length:Int)<((s.length+1:Nat):Int))=true:=ce (by omega)
  refine⟨?_,fun g6 nJ=>?_⟩
  ·simp only[xU,ce hi,cond_true,aW,bZ,hx,Option.bind_some];cases hc:((x.toNat:Int)==(c.toNat:Int)) with
   |true=>
    simp only[cond_true];rw[B4 h0 (by omega)]
    simp only[Option.bind_some];rw[hJ (by decide) (by unfold aD;simp only[List.length_cons,List.length_nil];omega)]
    simp only[Option.bind_some,Option.map_some,b_ hw]
   |false=>simp only[cond_false,Option.map_some,b_ hw]
  ·simp only[Option.some.injEq,Sum.inl.injEq] at nJ;subst nJ;cases (x.toNat:Int)==(c.toNat:Int) with
   |true=>simp only[cond_true,List.length_append,List.length_cons,List.length_nil];omega
   |false=>simp only[cond_false];omega
 ·simp only[xU,cX,cond_false]
noncomputable def NA:a0:=BL
theorem abP:a4 aa 297 NA:=UX (fn:=Tryz.f297) (by kernel_rfl) (by kernel_rfl) (by kernel_rfl) (by kernel_rfl) (by kernel_rfl)
noncomputable abbrev afh:bz:=[(297,NA)]
theorem afX:a9 aa (bo az afh):=bB ⟨abP,⟨⟩⟩
abbrev i271:Shape:=⟨[bk 0,(1,.ai (.d (.int .u8)))],[],8⟩
abbrev N6:Shape:=⟨[ah 4],[],8⟩
noncomputable def f271(a:i271.H):Option N6.H:=
(some ()).bind fun anl=>
 some (((Lib.indexByte a.1.1 (a.1.2.1).toNat.toUInt8),()),())
noncomputable def PG:a0:=a' az Tryz.f271 i271 N6 [] f271
theorem ac0:a4 aa 271 PG:=bb afX Tryz.func271 (by kernel_rfl) aw (fun y=>by kernel_rfl) fun a=>by kernel_rfl
noncomputable abbrev afm:bz:=[(271,PG)]
theorem Qx:a9 aa (bo az afm):=bB ⟨ac0,⟨⟩⟩
abbrev Lf:Shape:=⟨[bk 0,bk 1,ah 5],[],143⟩
abbrev K8:List be:=[(.norm,⟨[bk 0,bk 1,ah 5,a3 16],[],143⟩)]
noncomputable def Dv(y:Lf.H):Option (aR K8):=
 bif(!(y.1.2.2.1==(0:Int))) then
 some ((y.1.1,y.1.2.1,y.1.2.2.1,(y.1.2.1==y.1.1),()),())
else
 some ((y.1.1,y.1.2.1,y.1.2.2.1,true,()),())
theorem _p:bl aa (aH (codeOf Tryz.f238) 1 56) (bC Lf K8 Dv):=eh Qx (by kernel_rfl) aw fun y=>by kernel_rfl
abbrev i238:Shape:=⟨[bk 0,bk 1],[],143⟩
abbrev Ob:Shape:=⟨[ah 4],[],143⟩
noncomputable def f238(a:i238.H):Option Ob.H:=
(Dv ((a.1.1,a.1.2.1,(a.1.2.1.length:Int),()),())).bind fun sR=>
 bif sR.1.2.2.2.1 then
 some (((0:Int),()),())
else
 bif(sR.1.2.2.1==(1:Int)) then
(bg sR.1.2.1 (0:Int)).bind fun HA=>
(f271 ((sR.1.1,(HA.toNat:Int),()),())).bind fun r8=>
 some ((r8.1.1,()),())
else
 bif(decide (sR.1.2.2.1>=(sR.1.1.length:Int))) then
 some ((((-1):Int),()),())
else
 none
noncomputable def PN:a0:=a' az Tryz.f238 i238 Ob [] f238
theorem ac7:a4 aa 238 PN:=bb Qx Tryz.func238 (by kernel_rfl) (bG _p aw) (fun y=>by kernel_rfl) fun a=>by kernel_rfl
noncomputable abbrev afl:bz:=[(238,PN)]
theorem afY:a9 aa (bo az afl):=bB ⟨ac7,⟨⟩⟩
abbrev i241:Shape:=⟨[bk 0,bk 1],[],8⟩
abbrev Oa:Shape:=⟨[ah 4],[],8⟩
noncomputable def f241(a:i241.H):Option Oa.H:=
(f238 ((a.1.1,a.1.2.1,()),())).bind fun b=>
 some ((b.1.1,()),())
noncomputable def PM:a0:=a' az Tryz.f241 i241 Oa [] f241
theorem ac6:a4 aa 241 PM:=bb afY Tryz.func241 (by kernel_rfl) aw (fun y=>by kernel_rfl) fun a=>by kernel_rfl
noncomputable abbrev FN:Ctx:=bo az [(241,PM)]
noncomputable def zT:Code:=codeOf Tryz.f257
noncomputable def nw:Code:=dz (aH zT 1 12)
noncomputable def ze(p j:Nat):Oper:=(opsOf (aH nw 24 p)).getD j default
noncomputable def EC(j:Nat):Oper:=(opsOf (aH zT 1 7)).getD j default
theorem abh(c:UInt8)(r:ak):f241 ((r,([c],())),())=some ((Lib.indexByte r c,()),()):=by
 have h0:bg ([c]:ak) (0:Int)=some c:=rfl;have h1:((([c]:ak).length:Int)==0)=false:=rfl;have h2:((([c]:ak).length:Int)==1)=true:=rfl;have Z:((c.toNat:Int)).toNat.toUInt8=c:=by simp
 simp only[f241,f238,Dv,f271,h0,h1,h2,Z,Bool.not_false,cond_true,cond_false,Option.bind_some,Option.bind];by_cases h:(([c]:ak)==r)=true
 ·have:r=[c]:=(by simpa using h:[c]=r).symm
  subst this;simp[Lib.indexByte]<;>rfl
 ·simp[h]<;>rfl
theorem acJ(c:UInt8)(r:ak):exec (gg FN []) (aH nw 24 96) 96 (mH 52 c r) (zI (gg FN []) 52 7 8 (aH nw 24 194) (aH nw 24 390) 194 390)=
 (f241 ((r,([c],())),())).bind fun q=>bif decide (q.1.1<0) then some (.inl (ku 52 c r)) else(dA r 0 (IntKind.i64.wrap (q.1.1+0))).bind fun x=>some (.inr ((q.1.1,x),ku 52 c r)):=by kernel_rfl
theorem Nh:ua aa 257:=
 _2 (C:=gg FN []) (bB ⟨ac6,⟨⟩⟩) (fn:=Tryz.f257) (k:=52) (A:=aH zT 1 2) (r5:=aH nw 24 96) (c6:=aH nw 24 194) (r7:=aH nw 24 390) (r9:=aH nw 24 783)
  (o0:=ze 1564 0) (o1:=ze 1564 1) (o2:=ze 1564 2) (o3:=ze 1564 3) (q0:=EC 0) (q1:=EC 1) (q2:=EC 2) (pA:=2) (p5:=96) (p6:=194) (p7:=390) (p9:=783) (t7:=7) (t8:=8) (a1:=39) (a2:=40)
  (t41:=41) (t42:=42) (u1:=49) (u2:=50) (ty:=#[9]) (z4:=#[9])
  {O_:=(by kernel_rfl),nt:=(by kernel_rfl),b':=(by decide),eN:=(by kernel_rfl),Si:=enters_of Tryz.func257 (by kernel_rfl) rfl,body:=⟨rB (aH nw 24 1564),rB (aH zT 1 7),(by kernel_rfl)⟩,vU:=(by kernel_rfl),wr:=(by kernel_rfl),
   bB:=⟨(by kernel_rfl),(by kernel_rfl),(by kernel_rfl),(by kernel_rfl),(by kernel_rfl),(by kernel_rfl),(by kernel_rfl)⟩,Tr:=(by kernel_rfl),Tq:=(by kernel_rfl),d2:=(by kernel_rfl),Fe:=(by decide),c2:=(by kernel_rfl),d5:=(by kernel_rfl),
   j5:=⟨kE (by kernel_rfl) aw,kE (by kernel_rfl) aw,kE (by kernel_rfl) aw,kE (by kernel_rfl) aw,kE (by kernel_rfl) aw⟩,
   hA:=fun c r=>(by kernel_rfl),fN:=fun c r=>(acJ c r).trans (by rw[abh];rfl),aY:=fun c r i x v=>(by kernel_rfl),Z:=fun c r b=>(by kernel_rfl),Se:=(by kernel_rfl),vZ:=fun c r i=>(by kernel_rfl),AP:=fun c r v=>(by kernel_rfl)}
  (by kernel_rfl) (by decide)
noncomputable abbrev afM:bz:=[(151,P8)]
theorem F9:a9 aa (bo az afM):=bB ⟨adu,⟨⟩⟩
abbrev JM:Shape:=⟨[b7 2 2 0,b7 3 3 0,b7 4 4 0,ah 6,a3 7],[gH 5000128 .i64 2 0,b6 2 [.own 5000128],b6 3 [hU],gH 5000256 .i64 4 0,b6 4 [.own 5000256]],28⟩
abbrev JC:List be:=[(.norm,⟨[b7 2 2 0,b7 3 3 0,b7 4 4 0,ah 6,a3 22],[gH 5000128 .i64 2 0,b6 2 [.own 5000128],b6 3 [hU],gH 5000256 .i64 4 0,b6 4 [.own 5000256]],28⟩)]
noncomputable def BP(y:JM.H):Option (aR JC):=
 bif(!(!y.1.2.2.2.2.1)) then
 some (((),(),(),y.1.2.2.2.1,((y.2.2.2.2.1.length:Int)==(4:Int)),()),y.2.1,((),()),(y.2.2.2.1.1,()),y.2.2.2.2.1,((),()),())
else
 some (((),(),(),y.1.2.2.2.1,true,()),y.2.1,((),()),(y.2.2.2.1.1,()),y.2.2.2.2.1,((),()),())
theorem XQ:bl aa (aH (jq (aH (codeOf Tryz.f127) 1 58)) 117 1876) (bC JM JC BP):=eh F9 (by kernel_rfl) aw fun y=>by kernel_rfl
abbrev xI:Shape:=⟨[b7 2 2 0,b7 3 3 0,b7 4 4 0],[gH 5000128 .i64 2 0,b6 2 [.own 5000128],b6 3 [hU],gH 5000256 .i64 4 0,b6 4 [.own 5000256]],28⟩
abbrev CU:List be:=[(.norm,⟨[b7 2 2 0,b7 3 3 0,b7 4 4 0],[gH 5000128 .i64 2 0,b6 2 [.own 5000128],b6 3 [hU],gH 5000256 .i64 4 0,b6 4 [.own 5000256]],28⟩),(.ret,⟨[b7 2 2 0,b7 3 3 0],[gH 5000128 .i64 2 0,b6 2 [.own 5000128],b6 3 [hU]],28⟩)]
noncomputable def q4(x:ak)(y:xI.H):cA xI CU:=
(f151 ((x,(999:Int),()),())).bind fun a=>
(BP (((),(),(),a.1.1,a.1.2.1,()),y.2.1,((),()),(y.2.2.2.1.1,()),y.2.2.2.2.1,((),()),())).bind fun b=>
 bif b.1.2.2.2.2.1 then
 some (.inr (.inr (((),(),()),([]:List Int),((),()),(false,()),())))
else
(dB 8 b.2.2.2.2.1 ([b.1.2.2.2.1]:List Int)).bind fun c=>
 some (.inl (((),(),(),()),b.2.1,((),()),(b.2.2.2.1.1,()),c,((),()),()))
noncomputable def tI(y:xI.H):Option (aR CU):=
 some (.inl (((),(),(),()),y.2.1,((),()),(y.2.2.2.1.1,()),y.2.2.2.2.1,((),()),()))
theorem _J:bl aa (aH (codeOf Tryz.f127) 1 58) (qL 257 9 xI CU q4 tI):=IK (eD:=10) F9 Nh (by kernel_rfl) (bG XQ aw) (by kernel_rfl) (fun x y=>by kernel_rfl) fun y=>by kernel_rfl
abbrev i127:Shape:=⟨[bk 0],[],28⟩
abbrev OK:Shape:=⟨[b7 2 2 0,b7 3 3 0],[gH 5000128 .i64 2 0,b6 2 [.own 5000128],b6 3 [hU]],28⟩
noncomputable def f127(a:i127.H):Option OK.H:=
(bif Nat.ble a.1.1.length jZ then hM q4 tI (cK (46:UInt8) a.1.1) (((),(),(),()),([]:List Int),((),()),(false,()),([]:List Int),((),()),()) else none).bind fun b=>
(match b with
|.inl c=>
 some (((),(),()),c.2.2.2.2.1,((),()),(true,()),())
|.inr d=>
 some (((),(),()),d.2.1,((),()),(d.2.2.2.1.1,()),()))
noncomputable def FY:a0:=a' az Tryz.f127 i127 OK [] f127
theorem NS:a4 aa 127 FY:=bb F9 Tryz.func127 (by kernel_rfl) (bG _J aw) (fun y=>by kernel_rfl) fun a=>by kernel_rfl
noncomputable abbrev afP:bz:=[(127,FY)]
theorem agc:a9 aa (bo az afP):=bB ⟨NS,⟨⟩⟩
abbrev i119:Shape:=⟨[bk 0],[],11⟩
abbrev OP:Shape:=⟨[a3 2],[],11⟩
noncomputable def f119(a:i119.H):Option OP.H:=
(f127 ((a.1.1,()),())).bind fun b=>
 some ((b.2.2.2.1.1,()),())
noncomputable def zV:a0:=a' az Tryz.f119 i119 OP [] f119
theorem EV:a4 aa 119 zV:=bb agc Tryz.func119 (by kernel_rfl) aw (fun y=>by kernel_rfl) fun a=>by kernel_rfl
noncomputable abbrev afO:bz:=[(118,F0),(119,zV)]
theorem QF:a9 aa (bo az afO):=bB ⟨NU,EV,⟨⟩⟩
abbrev KK:Shape:=⟨[b7 1 1 0,ah 8],[b6 1 [bD,cM,bD]],21⟩
abbrev Ky:List be:=[(.norm,⟨[b7 1 1 0,a3 14],[b6 1 [bD,cM,bD]],21⟩)]
noncomputable def Cq(y:KK.H):Option (aR Ky):=
 bif(y.1.2.1==(1:Int)) then
 some (((),(y.1.2.1==(1:Int)),()),(y.2.1.1,y.2.1.2.1,y.2.1.2.2.1,()),())
else
 bif(y.1.2.1==(2:Int)) then
 some (((),(y.1.2.1==(2:Int)),()),(y.2.1.1,y.2.1.2.1,y.2.1.2.2.1,()),())
else
 some (((),(y.1.2.1==(3:Int)),()),(y.2.1.1,y.2.1.2.1,y.2.1.2.2.1,()),())
theorem Zl:bl aa (aH (codeOf Tryz.f121) 1 470) (bC KK Ky Cq):=eh QF (by kernel_rfl) aw fun y=>by kernel_rfl
abbrev i121:Shape:=⟨[c5 0 [bD,cM,bD]],[],21⟩
abbrev OO:Shape:=⟨[a3 2],[],21⟩
noncomputable def f121(a:i121.H):Option OO.H:=
(f118 ((a.1.1.1,()),())).bind fun b=>
 bif(!b.1.1) then
 some ((false,()),())
else
 bif(a.1.1.2.1==(0:Int)) then
 some (((a.1.1.2.2.1==([]:ak)),()),())
else
(Cq (((),a.1.1.2.1,()),(a.1.1.1,a.1.1.2.1,a.1.1.2.2.1,()),())).bind fun c=>
 bif c.1.2.1 then
(f119 ((c.2.1.2.2.1,()),())).bind fun d=>
 some ((d.1.1,()),())
else
 some ((false,()),())
noncomputable def FZ:a0:=a' az Tryz.f121 i121 OO [] f121
theorem NT:a4 aa 121 FZ:=bb QF Tryz.func121 (by kernel_rfl) (bG Zl aw) (fun y=>by kernel_rfl) fun a=>by kernel_rfl
noncomputable abbrev afz:bz:=[(89,Hj),(90,Sw),(91,qh)]
theorem QA:a9 aa (bo az afz):=bB ⟨QJ,ags,sq,⟨⟩⟩
abbrev w1:Shape:=⟨[b8 4 3000256,b8 5 3000320,ah 6],[cq 3000256 .str 4 0,cq 3000320 .i64 5 0],37⟩
abbrev pd:List be:=[(.ret,⟨[b8 2 3000128,a3 3],[cq 3000128 .i64 2 0],37⟩),(.exit 0,⟨[b8 4 3000256,b8 5 3000320],[cq 3000256 .str 4 0,cq 3000320 .i64 5 0],37⟩)]
noncomputable def xc(y:w1.H):cA w1 pd:=
 bif(decide (y.1.2.2.1<(y.2.1.length:Int))) then
(fa y.2.1.length y.1.2.2.1).bind fun a=>
(y.2.1[a]?).bind fun b=>
(f90 ((b,()),())).bind fun c=>
(f91 ((c.1.1,(0:Int),(999:Int),()),())).bind fun d=>
 bif(!d.1.1) then
 some (.inr (.inl (((),false,()),y.2.2.1,())))
else
(dB 8 y.2.2.1 ([c.1.1]:List Int)).bind fun e=>
 some (.inl (((),(),(IntKind.i64.wrap (y.1.2.2.1+(1:Int))),()),y.2.1,e,()))
else
 some (.inr (.inr (((),(),()),y.2.1,y.2.2.1,())))
noncomputable def Cc:w1.H->Option (aR pd):=bK xc
theorem Zh:bl aa (aH (codeOf Tryz.f181) 1 122) (bC w1 pd Cc):=cB QA (by kernel_rfl) aw fun y=>by kernel_rfl
abbrev i181:Shape:=⟨[bk 0],[],37⟩
abbrev Oq:Shape:=⟨[b8 2 3000128,a3 3],[cq 3000128 .i64 2 0],37⟩
noncomputable def f181(a:i181.H):Option Oq.H:=
(f89 ((a.1.1,(46:Int),(IntKind.i64.wrap ((a.1.1.length:Int)+(1:Int))),()),())).bind fun b=>
(Cc (((),(),(0:Int),()),b.2.1,([]:List Int),())).bind fun c=>
(match c with
|.inl d=>
 some (((),d.1.2.1,()),d.2.1,())
|.inr e=>
 some (((),(decide ((e.2.1.length:Int)<=(4:Int))),()),e.2.2.1,()))
noncomputable def FR:a0:=a' az Tryz.f181 i181 Oq [] f181
theorem NL:a4 aa 181 FR:=bb QA Tryz.func181 (by kernel_rfl) (bG Zh aw) (fun y=>by kernel_rfl) fun a=>by kernel_rfl
noncomputable abbrev afC:bz:=[(181,FR)]
theorem af8:a9 aa (bo az afC):=bB ⟨NL,⟨⟩⟩
abbrev i162:Shape:=⟨[bk 0],[],11⟩
abbrev Ow:Shape:=⟨[a3 2],[],11⟩
noncomputable def f162(a:i162.H):Option Ow.H:=
(f181 ((a.1.1,()),())).bind fun b=>
 some ((b.1.2.1,()),())
noncomputable def FS:a0:=a' az Tryz.f162 i162 Ow [] f162
theorem NM:a4 aa 162 FS:=bb af8 Tryz.func162 (by kernel_rfl) aw (fun y=>by kernel_rfl) fun a=>by kernel_rfl
noncomputable abbrev afn:bz:=[(91,qh),(161,FT),(162,FS)]
theorem afZ:a9 aa (bo az afn):=bB ⟨sq,NN,NM,⟨⟩⟩
abbrev i233:Shape:=⟨[c5 0 [bD,cM,bD]],[],26⟩
abbrev Oc:Shape:=⟨[a3 2],[],26⟩
noncomputable def f233(a:i233.H):Option Oc.H:=
(f161 ((a.1.1.1,()),())).bind fun b=>
 bif b.1.1 then
 bif(a.1.1.2.1==(0:Int)) then
 bif(!(a.1.1.2.2.1==([]:ak))) then
(f91 ((a.1.1.2.1,(1:Int),(3:Int),()),())).bind fun c=>
 bif c.1.1 then
(f162 ((a.1.1.2.2.1,()),())).bind fun d=>
 some ((d.1.1,()),())
else
 some ((false,()),())
else
 some ((true,()),())
else
(f91 ((a.1.1.2.1,(1:Int),(3:Int),()),())).bind fun e=>
 bif e.1.1 then
(f162 ((a.1.1.2.2.1,()),())).bind fun f=>
 some ((f.1.1,()),())
else
 some ((false,()),())
else
 some ((false,()),())
noncomputable def PO:a0:=a' az Tryz.f233 i233 Oc [] f233
theorem ac8:a4 aa 233 PO:=bb afZ Tryz.func233 (by kernel_rfl) aw (fun y=>by kernel_rfl) fun a=>by kernel_rfl
theorem I2:∀(r:ak) (n:Int),r.all dJ=true->0<=n->0<=r.foldl gV n:=by
 intro r;induction r with
 |nil=>intro n _ h;exact h
 |cons b r ih=>
  intro n Y h;simp only[List.all_cons,Bool.and_eq_true] at Y;have hb:=m9 Y.1;exact ih _ Y.2 (by unfold gV;omega)
def hF(s:ak):List ak:=cK 46 s
def eG(s:ak):Bool:=(hF s).all fg&&decide ((hF s).length<=4)
def gU(s:ak):List Int:=(hF s).map gk
theorem Vv(x:ak):within (bif x.all dJ&&decide (x.length<=6)&&!(x==[])&&!mq x then gk x else-1) 0 999=fg x:=by
 unfold fg within;cases h1:x.all dJ with
 |false=>simp
 |true=>
  have:=I2 x 0 h1 (Int.le_refl _);have hv:decide ((0:Int)<=gk x)=true:=by simp only[decide_eq_true_eq];exact this
  cases h2:decide (x.length<=6)<;>cases Z:(x==[])<;>cases aI:mq x<;>simp[hv]
theorem Bn(a)(M:cg a.1.1.length):∃out,f181 a=some (((),(eG a.1.1,())),(out,()))/\(eG a.1.1=true->out=gU a.1.1):=by
 obtain⟨⟨s,u⟩,bx⟩:=a;have M:s.length<=2097152:=M;have hlen:=wo 46 s;have iV:f89 ((s,((46:Int),((IntKind.i64.wrap ((s.length:Int)+(1:Int))),()))),())=some (((),()),(hF s,())):=
  K2 46 _ M rfl (b_ (by unfold aD;omega))
 have key:=l9 xc (hF s) (fun i (out:List Int)=>(((),((),((i:Int),()))),(hF s,(out,()))))
  (fun i x out=>some (bif fg x then .inl (out++[gk x]) else .inr ((.inl (((),(false,())),(out,()))):aR pd))) (fun out=>((.inr (((),((),())),(hF s,(out,())))):aR pd))
  (fun i out=>out.length<=i) [] (Nat.le_refl _) (fun i x out hx cW=>?_) (fun out _=>?_)
 ·have fold:∀(r:List ak) (k:Nat) (out:List Int),eB (fun i x out=>some (bif fg x then .inl (out++[gk x]) else .inr ((.inl (((),(false,())),(out,()))):aR pd))) (fun out=>((.inr (((),((),())),(hF s,(out,())))):aR pd)) k r out=
    some (bif r.all fg then(.inr (((),((),())),(hF s,(out++r.map gk,())))) else(.inl (((),(false,())),(out++(r.takeWhile fg).map gk,())))):=by
   intro r;induction r with
   |nil=>intro k out;simp[eB]
   |cons x r ih=>
    intro k out;simp only[eB,List.all_cons];cases hn:fg x with
    |false=>simp[hn]
    |true=>simp only[cond_true,Bool.true_and];rw[ih];simp[hn,List.append_assoc]
  have key:Cc (((),((),((0:Int),()))),(hF s,(([]:List Int),())))=_:=key.trans (fold (hF s) 0 []);simp only[f181,iV,Option.bind_some,key,List.nil_append];unfold eG;cases mC:(hF s).all fg with
  |false=>exact⟨_,rfl,fun h=>by cases h⟩
  |true=>
   simp only[cond_true,Bool.true_and];have:decide (((hF s).length:Int)<=4)=decide ((hF s).length<=4):=by by_cases h:(hF s).length<=4<;>simp[h]<;>omega
   rw[this];exact⟨_,rfl,fun _=>rfl⟩
 ·have hi:=ca hx;have py:(hF s).length<=s.length+1:=hlen;have hw:aD i:=by unfold aD;omega
  have u6:x.length<=s.length:=wm 46 s x (List.mem_of_getElem? hx);refine⟨?_,fun am ab=>?_⟩
  ·simp only[xc,ce hi,cond_true,mb hi,hx,Option.bind_some];rw[Z9 _ (show aD x.length by unfold aD;omega)]
   simp only[Option.bind_some,q_,Vv];cases hn:fg x with
   |false=>rfl
   |true=>
    have hv:(bif x.all dJ&&decide (x.length<=6)&&!(x==[])&&!mq x then gk x else-1)=gk x:=by
     unfold fg at hn;simp only[Bool.and_eq_true] at hn;obtain⟨⟨⟨⟨h1,h2⟩,Z⟩,aI⟩,bp⟩:=hn;rw[h1,aI,h2,Z];rfl
    simp only[Bool.not_true,cond_false,hv,cond_true];rw[hJ (by decide) (by unfold aD;simp only[List.length_cons,List.length_nil];omega)]
    simp only[Option.bind_some,b_ hw,Option.map_some]
  ·simp only[Option.some.injEq] at ab;cases hn:fg x with
   |false=>rw[hn] at ab;cases ab
   |true=>
    rw[hn] at ab;simp only[cond_true,Sum.inl.injEq] at ab;subst ab;simp only[List.length_append,List.length_cons,List.length_nil];omega
 ·simp only[xc,cX,cond_false]
theorem ID(a)(M:cg a.1.1.length):f162 a=some ((eG a.1.1,()),()):=by
 obtain⟨out,h,_⟩:=Bn ((a.1.1,()),()) M;simp only[f162,h,Option.bind_some]
theorem AZ(a)(M:cg a.1.1.length):f127 a=some (((),((),())),((bif eG a.1.1 then gU a.1.1 else []),(((),()),((eG a.1.1,()),())))):=by
 obtain⟨⟨s,u⟩,bx⟩:=a;have M:s.length<=2097152:=M;have FB:Nat.ble s.length jZ=true:=Nat.ble_eq_true_of_le (by unfold jZ;omega)
 have fold:∀(r:List ak) (out:List Int),(∀x,x∈r->x.length<=s.length)->out.length<=4->
   hM q4 tI r (((),((),((),()))),(([]:List Int),(((),()),((false,()),(out,(((),()),()))))))=
    some (bif r.all fg&&decide (out.length+r.length<=4) then(.inl (((),((),((),()))),(([]:List Int),(((),()),((false,()),(out++r.map gk,(((),()),()))))))) else(.inr (((),((),())),(([]:List Int),(((),()),((false,()),())))))):=by
  intro r;induction r with
  |nil=>
   intro out _ aq;have:decide (out.length+0<=4)=true:=by simpa using aq
   simp only[hM,tI,List.all_nil,List.length_nil,this,Bool.and_self,cond_true,List.map_nil,List.append_nil]
  |cons x r ih=>
   intro out hr aq;have hx:=hr x List.mem_cons_self;have aez:=YA ((x,((999:Int),())),()) (show aD x.length by unfold aD;omega) rfl
   have step:q4 x (((),((),((),()))),(([]:List Int),(((),()),((false,()),(out,(((),()),()))))))=
     some (bif fg x&&decide (out.length+1<=4) then .inl (((),((),((),()))),(([]:List Int),(((),()),((false,()),(out++[gk x],(((),()),())))))) else .inr (.inr (((),((),())),(([]:List Int),(((),()),((false,()),())))))):=by
    simp only[q4,aez,Option.bind_some,BP,Bool.not_not];have aI:((out.length:Int)==4)=!decide (out.length+1<=4):=by
     by_cases h:out.length=4
     ·rw[h];rfl
     ·have bp:decide (out.length+1<=4)=true:=by simp only[decide_eq_true_eq];omega
      rw[bp];simp only[beq_eq_false_iff_ne,ne_eq,Bool.not_true];omega
    rw[aI];cases hn:fg x with
    |false=>rfl
    |true=>
     simp only[cond_true,Option.bind_some,Bool.true_and];cases aF:decide (out.length+1<=4) with
     |false=>rfl
     |true=>
      simp only[Bool.not_true,cond_false,cond_true];rw[hJ (by decide) (by unfold aD;simp only[List.length_cons,List.length_nil];omega)]
      rfl
   rw[hM,step,List.all_cons];cases hn:fg x with
   |false=>rfl
   |true=>
    simp only[Bool.true_and];cases aF:decide (out.length+1<=4) with
    |false=>
     have:decide (out.length+(x::r).length<=4)=false:=by simp only[decide_eq_false_iff_not,List.length_cons] at aF ⊢;omega
     rw[this];simp
    |true=>
     simp only[cond_true];rw[ih (out++[gk x]) (fun y aj=>hr y (List.mem_cons_of_mem _ aj)) (by simp only[List.length_append,List.length_cons,List.length_nil];simpa using aF)]
     have e1:(out++[gk x]).length+r.length=out.length+(x::r).length:=by simp only[List.length_append,List.length_cons,List.length_nil];omega
     rw[e1,List.map_cons,List.append_assoc];rfl
 have key:=fold (cK (46:UInt8) s) [] (fun x hx=>wm 46 s x hx) (Nat.zero_le _)
 have Fi:hM q4 tI (cK (46:UInt8) s) (((),((),((),()))),(([]:List Int),(((),()),((false,()),(([]:List Int),(((),()),()))))))=
    some (bif eG s then(.inl (((),((),((),()))),(([]:List Int),(((),()),((false,()),(gU s,(((),()),()))))))) else(.inr (((),((),())),(([]:List Int),(((),()),((false,()),())))))):=by
  rw[key];unfold eG gU hF;simp only[List.length_nil,Nat.zero_add,List.nil_append]
 simp only[f127,FB,cond_true,Fi,Option.bind_some];cases eG s<;>rfl
theorem A0(a)(M:cg a.1.1.length):f119 a=some ((eG a.1.1,()),()):=by
 simp only[f119,AZ ((a.1.1,()),()) M,Option.bind_some]
def hH(n:dr):Bool:=kM n.name&&(n.kind==0&&(n.bH==[])||within n.kind 1 3&&eG n.bH)
abbrev akF(n:dr):Prop:=cg n.name.length/\cg n.bH.length
theorem YO(a)(h1:cg a.1.1.1.length)(h2:cg a.1.1.2.2.1.length):f233 a=some ((hH ⟨a.1.1.1,a.1.1.2.1,a.1.1.2.2.1⟩,()),()):=by
 obtain⟨⟨⟨n,k,v,u⟩,bx⟩,iB⟩:=a;have h1:n.length<=2097152:=h1;have h2:v.length<=2097152:=h2;have e1:=Kf ((n,()),()) (show aD n.length by unfold aD;omega)
 have e2:=ID ((v,()),()) h2;simp only[f233,e1,e2,q_,Option.bind_some,hH];cases kM n with
 |false=>rfl
 |true=>
  cases ag:(k==0) with
  |false=>
   simp only[cond_true,cond_false];cases within k 1 3<;>cases eG v<;>rfl
  |true=>
   have:within k 1 3=false:=by
    have:k=0:=by simpa using ag
    subst this;decide
   rw[this];cases (v==[])<;>rfl
theorem WY{k:Int}(mS:¬k=0)(aB:¬k=1)(ao:¬k=2)(bj:¬k=3):within k 1 3=false:=by
 unfold within;cases h:(decide (1<=k)&&decide (k<=3)) with
 |false=>rfl
 |true=>simp only[Bool.and_eq_true,decide_eq_true_eq] at h;omega
theorem Jw(a)(h1:cg a.1.1.1.length)(h2:cg a.1.1.2.2.1.length):f121 a=some ((hH ⟨a.1.1.1,a.1.1.2.1,a.1.1.2.2.1⟩,()),()):=by
 obtain⟨⟨⟨n,k,v,u⟩,bx⟩,iB⟩:=a;have h1:n.length<=2097152:=h1;have h2:v.length<=2097152:=h2;have e1:=Iq ((n,()),()) (show aD n.length by unfold aD;omega)
 have e2:=A0 ((v,()),()) h2;simp only[f121,e1,e2,Option.bind_some,hH,Cq];cases kM n with
 |false=>rfl
 |true=>
  simp only[Bool.not_true,cond_false,Bool.true_and];by_cases mS:k=0
  ·subst mS;cases (v==[])<;>rfl
  ·have lO:(k==0)=false:=by simpa using mS
   rw[lO];by_cases aB:k=1
   ·subst aB;cases hv:eG v<;>simp[within,e2,hv]
   ·have lN:(k==1)=false:=by simpa using aB
    rw[lN];by_cases ao:k=2
    ·subst ao;cases hv:eG v<;>simp[within,e2,hv]
    ·have hR:(k==2)=false:=by simpa using ao
     rw[hR];by_cases bj:k=3
     ·subst bj;cases hv:eG v<;>simp[within,e2,hv]
     ·have aiA:(k==3)=false:=by simpa using bj
      rw[aiA];rw[WY mS aB ao bj];rfl
noncomputable abbrev abI:bz:=[(121,FZ)]
theorem MX:a9 aa (bo az abI):=bB ⟨NT,⟨⟩⟩
abbrev wH:Shape:=⟨[(1,.ai (.fn 121 [])),aX 7 .need,ah 8,ah 9],[],18⟩
abbrev Bs:List be:=[(.ret,⟨[a3 4],[],18⟩),(.exit 0,⟨[],[],18⟩)]
noncomputable def wS(y:wH.H):cA wH Bs:=
 bif(decide (y.1.2.2.2.1<y.1.2.2.1)) then
(bg y.1.2.1 y.1.2.2.2.1).bind fun a=>
(f121 (((a.name,a.kind,a.bH,()),()),())).bind fun b=>
 bif(!b.1.1) then
 some (.inr (.inl ((false,()),())))
else
 some (.inl (((),y.1.2.1,y.1.2.2.1,(IntKind.i64.wrap (y.1.2.2.2.1+(1:Int))),()),()))
else
 some (.inr (.inr ((),())))
noncomputable def BH:wH.H->Option (aR Bs):=bK wS
theorem XS:bl aa (aH (codeOf Tryz.f120) 1 26) (bC wH Bs BH):=cB MX (by kernel_rfl) aw fun y=>by kernel_rfl
abbrev Mt:Shape:=⟨[aX 0 .need,(1,.ai (.fn 121 []))],[],18⟩
abbrev Mb:Shape:=⟨[a3 4],[],18⟩
noncomputable def y7(a:Mt.H):Option Mb.H:=
(BH (((),a.1.1,(a.1.1.length:Int),(0:Int),()),())).bind fun b=>
(match b with
|.inl c=>
 some ((c.1.1,()),())
|.inr d=>
 some ((true,()),()))
noncomputable def MQ:a0:=a' az Tryz.f120 Mt Mb [] y7
theorem aaA:a4 aa 120 MQ:=bb MX Tryz.func120 (by kernel_rfl) (bG XS aw) (fun y=>by kernel_rfl) fun a=>by kernel_rfl
abbrev i123:Shape:=⟨[c5 0 [bD,cM,bD]],[],5⟩
abbrev ON:Shape:=⟨[bk 2],[],5⟩
noncomputable def f123(a:i123.H):Option ON.H:=
 some ((a.1.1.1,()),())
noncomputable def Qh:a0:=a' az Tryz.f123 i123 ON [] f123
theorem adF:a4 aa 123 Qh:=bb g0 Tryz.func123 (by kernel_rfl) aw (fun y=>by kernel_rfl) fun a=>by kernel_rfl
abbrev i177:Shape:=⟨[aX 0 .str],[],8⟩
abbrev E_:Shape:=⟨[b8 2 3000128],[cq 3000128 .str 2 0],8⟩
noncomputable def f177(a:i177.H):Option E_.H:=
 nb (t:=.str) a.1.1 (some (((),()),([]:List ak),())) ((dB 16 ([]:List ak) a.1.1).bind fun b=>
 some (((),()),b,()))
noncomputable def P4:a0:=a' az Tryz.f177 i177 E_ [] f177
theorem adq:a4 aa 177 P4:=bb g0 Tryz.func177 (by kernel_rfl) aw (fun y=>by kernel_rfl) fun a=>by kernel_rfl
abbrev xr:Shape:=⟨[aX 0 .str,bk 1,ah 7,ah 8],[],19⟩
abbrev qQ:List be:=[(.ret,⟨[ah 4],[],19⟩),(.exit 0,⟨[],[],19⟩)]
noncomputable def x2(y:xr.H):cA xr qQ:=
 bif(decide (y.1.2.2.2.1<y.1.2.2.1)) then
(bg y.1.1 y.1.2.2.2.1).bind fun a=>
 bif(y.1.2.1==a) then
 some (.inr (.inl ((y.1.2.2.2.1,()),())))
else
 some (.inl ((y.1.1,y.1.2.1,y.1.2.2.1,(IntKind.i64.wrap (y.1.2.2.2.1+(1:Int))),()),()))
else
 some (.inr (.inr ((),())))
noncomputable def Dc:xr.H->Option (aR qQ):=bK x2
theorem _q:bl aa (aH (codeOf Tryz.f221) 1 26) (bC xr qQ Dc):=cB g0 (by kernel_rfl) aw fun y=>by kernel_rfl
abbrev i221:Shape:=⟨[aX 0 .str,bk 1],[],19⟩
abbrev E7:Shape:=⟨[ah 4],[],19⟩
noncomputable def f221(a:i221.H):Option E7.H:=
(Dc ((a.1.1,a.1.2.1,(a.1.1.length:Int),(0:Int),()),())).bind fun b=>
(match b with
|.inl c=>
 some ((c.1.1,()),())
|.inr d=>
 some ((((-1):Int),()),()))
noncomputable def PT:a0:=a' az Tryz.f221 i221 E7 [] f221
theorem adf:a4 aa 221 PT:=bb g0 Tryz.func221 (by kernel_rfl) (bG _q aw) (fun y=>by kernel_rfl) fun a=>by kernel_rfl
noncomputable abbrev afA:bz:=[(221,PT)]
theorem af7:a9 aa (bo az afA):=bB ⟨adf,⟨⟩⟩
abbrev i178:Shape:=⟨[aX 0 .str,bk 1],[],9⟩
abbrev Ot:Shape:=⟨[a3 4],[],9⟩
noncomputable def f178(a:i178.H):Option Ot.H:=
(f221 ((a.1.1,a.1.2.1,()),())).bind fun b=>
 some (((decide (b.1.1>=(0:Int))),()),())
noncomputable def P3:a0:=a' az Tryz.f178 i178 Ot [] f178
theorem adp:a4 aa 178 P3:=bb af7 Tryz.func178 (by kernel_rfl) aw (fun y=>by kernel_rfl) fun a=>by kernel_rfl
noncomputable abbrev abH:bz:=[(123,Qh),(177,P4),(178,P3)]
theorem MW:a9 aa (bo az abH):=bB ⟨adF,adq,adp,⟨⟩⟩
abbrev wG:Shape:=⟨[(1,.ai (.fn 123 [])),b8 7 3000448,aX 12 .need,ah 13,ah 14],[cq 3000448 .str 7 0],30⟩
abbrev qH:List be:=[(.ret,⟨[a3 6],[],30⟩),(.exit 0,⟨[],[],30⟩)]
noncomputable def wR(y:wG.H):cA wG qH:=
 bif(decide (y.1.2.2.2.2.1<y.1.2.2.2.1)) then
(bg y.1.2.2.1 y.1.2.2.2.2.1).bind fun a=>
(f123 (((a.name,a.kind,a.bH,()),()),())).bind fun b=>
(f178 ((y.2.1,b.1.1,()),())).bind fun c=>
 bif c.1.1 then
 some (.inr (.inl ((true,()),())))
else
(f123 (((a.name,a.kind,a.bH,()),()),())).bind fun d=>
(dB 16 y.2.1 ([d.1.1]:List ak)).bind fun e=>
 some (.inl (((),(),y.1.2.2.1,y.1.2.2.2.1,(IntKind.i64.wrap (y.1.2.2.2.2.1+(1:Int))),()),e,()))
else
 some (.inr (.inr ((),())))
noncomputable def BG:wG.H->Option (aR qH):=bK wR
theorem XR:bl aa (aH (codeOf Tryz.f122) 1 58) (bC wG qH BG):=cB MW (by kernel_rfl) aw fun y=>by kernel_rfl
abbrev Ms:Shape:=⟨[aX 0 .need,(1,.ai (.fn 123 [])),aX 2 .str],[],30⟩
abbrev Ma:Shape:=⟨[a3 6],[],30⟩
noncomputable def y6(a:Ms.H):Option Ma.H:=
(f177 ((a.1.2.2.1,()),())).bind fun b=>
(BG (((),(),a.1.1,(a.1.1.length:Int),(0:Int),()),b.2.1,())).bind fun c=>
(match c with
|.inl d=>
 some ((d.1.1,()),())
|.inr e=>
 some ((false,()),()))
noncomputable def MP:a0:=a' az Tryz.f122 Ms Ma [] y6
theorem aaz:a4 aa 122 MP:=bb MW Tryz.func122 (by kernel_rfl) (bG XR aw) (fun y=>by kernel_rfl) fun a=>by kernel_rfl
noncomputable abbrev afr:bz:=[(233,PO)]
theorem Qy:a9 aa (bo az afr):=bB ⟨ac8,⟨⟩⟩
abbrev xt:Shape:=⟨[aX 0 .need,ah 3],[],19⟩
abbrev CH:List be:=[(.ret,⟨[a3 2],[],19⟩),(.exit 0,⟨[aX 0 .need],[],19⟩)]
noncomputable def x3(y:xt.H):cA xt CH:=
 bif(decide (y.1.2.1<(y.1.1.length:Int))) then
(bg y.1.1 y.1.2.1).bind fun a=>
(f233 (((a.name,a.kind,a.bH,()),()),())).bind fun b=>
 bif(!b.1.1) then
 some (.inr (.inl ((false,()),())))
else
 some (.inl ((y.1.1,(IntKind.i64.wrap (y.1.2.1+(1:Int))),()),()))
else
 some (.inr (.inr ((y.1.1,()),())))
noncomputable def Dd:xt.H->Option (aR CH):=bK x3
theorem _r:bl aa (aH (codeOf Tryz.f215) 1 26) (bC xt CH Dd):=cB Qy (by kernel_rfl) aw fun y=>by kernel_rfl
abbrev i215:Shape:=⟨[aX 0 .need],[],19⟩
abbrev Oh:Shape:=⟨[a3 2],[],19⟩
noncomputable def f215(a:i215.H):Option Oh.H:=
(Dd ((a.1.1,(0:Int),()),())).bind fun b=>
(match b with
|.inl c=>
 some ((c.1.1,()),())
|.inr d=>
 some (((decide ((d.1.1.length:Int)<=(6:Int))),()),()))
noncomputable def PU:a0:=a' az Tryz.f215 i215 Oh [] f215
theorem adg:a4 aa 215 PU:=bb Qy Tryz.func215 (by kernel_rfl) (bG _r aw) (fun y=>by kernel_rfl) fun a=>by kernel_rfl
abbrev w0:Shape:=⟨[aX 0 .str,ah 3,ah 4],[],25⟩
abbrev BZ:List be:=[(.ret,⟨[a3 2],[],25⟩),(.exit 2,⟨[aX 0 .str,ah 3],[],25⟩)]
noncomputable def xb(y:w0.H):cA w0 BZ:=
 bif(decide (y.1.2.2.1<y.1.2.1)) then
(bg y.1.1 y.1.2.2.1).bind fun a=>
(bg y.1.1 y.1.2.1).bind fun b=>
 bif(a==b) then
 some (.inr (.inl ((true,()),())))
else
 some (.inl ((y.1.1,y.1.2.1,(IntKind.i64.wrap (y.1.2.2.1+(1:Int))),()),()))
else
 some (.inr (.inr ((y.1.1,y.1.2.1,()),())))
noncomputable def B_:w0.H->Option (aR BZ):=bK xb
theorem Y8:bl aa (aH (dz (aH (codeOf Tryz.f99) 1 26)) 52 1682) (bC w0 BZ B_):=cB g0 (by kernel_rfl) aw fun y=>by kernel_rfl
abbrev yq:Shape:=⟨[aX 0 .str,ah 3],[],25⟩
abbrev DM:List be:=[(.ret,⟨[a3 2],[],25⟩),(.exit 0,⟨[],[],25⟩)]
noncomputable def yN(y:yq.H):cA yq DM:=
 bif(decide (y.1.2.1<(y.1.1.length:Int))) then
(B_ ((y.1.1,y.1.2.1,(0:Int),()),())).bind fun a=>
(match a with
|.inl b=>
 some (.inr (.inl ((b.1.1,()),())))
|.inr c=>
 some (.inl ((c.1.1,(IntKind.i64.wrap (c.1.2.1+(1:Int))),()),())))
else
 some (.inr (.inr ((),())))
noncomputable def D4:yq.H->Option (aR DM):=bK yN
theorem aaL:bl aa (aH (codeOf Tryz.f99) 1 26) (bC yq DM D4):=cB g0 (by kernel_rfl) (bG Y8 aw) fun y=>by kernel_rfl
abbrev i99:Shape:=⟨[aX 0 .str],[],25⟩
abbrev Q0:Shape:=⟨[a3 2],[],25⟩
noncomputable def f99(a:i99.H):Option Q0.H:=
(D4 ((a.1.1,(0:Int),()),())).bind fun b=>
(match b with
|.inl c=>
 some ((c.1.1,()),())
|.inr d=>
 some ((false,()),()))
noncomputable def Ss:a0:=a' az Tryz.f99 i99 Q0 [] f99
theorem ago:a4 aa 99 Ss:=bb g0 Tryz.func99 (by kernel_rfl) (bG aaL aw) (fun y=>by kernel_rfl) fun a=>by kernel_rfl
noncomputable abbrev afB:bz:=[(99,Ss),(215,PU)]
theorem QB:a9 aa (bo az afB):=bB ⟨ago,adg,⟨⟩⟩
abbrev xA:Shape:=⟨[aX 1 .need,b8 5 3000320,ah 6],[cq 3000320 .str 5 0],30⟩
abbrev xh:List be:=[(.exit 0,⟨[aX 1 .need,b8 5 3000320],[cq 3000320 .str 5 0],30⟩)]
noncomputable def x6(y:xA.H):cA xA xh:=
 bif(decide (y.1.2.2.1<(y.1.1.length:Int))) then
(bg y.1.1 y.1.2.2.1).bind fun a=>
(dB 16 y.2.1 ([a.name]:List ak)).bind fun b=>
 some (.inl ((y.1.1,(),(IntKind.i64.wrap (y.1.2.2.1+(1:Int))),()),b,()))
else
 some (.inr ((y.1.1,(),()),y.2.1,()))
noncomputable def Dg:xA.H->Option (aR xh):=bK x6
theorem _y:bl aa (aH (codeOf Tryz.f163) 1 58) (bC xA xh Dg):=cB QB (by kernel_rfl) aw fun y=>by kernel_rfl
abbrev i163:Shape:=⟨[bk 0,aX 1 .need],[],30⟩
abbrev Ov:Shape:=⟨[a3 4],[],30⟩
noncomputable def f163(a:i163.H):Option Ov.H:=
(Dg ((a.1.2.1,(),(0:Int),()),([a.1.1]:List ak),())).bind fun b=>
(f215 ((b.1.1,()),())).bind fun c=>
 bif c.1.1 then
(f99 ((b.2.1,()),())).bind fun d=>
 some (((!d.1.1),()),())
else
 some ((false,()),())
noncomputable def P7:a0:=a' az Tryz.f163 i163 Ov [] f163
theorem adt:a4 aa 163 P7:=bb QB Tryz.func163 (by kernel_rfl) (bG _y aw) (fun y=>by kernel_rfl) fun a=>by kernel_rfl
abbrev uP(aA:List dr):Prop:=cg aA.length/\∀n,n∈aA->akF n
theorem zH(n:Nat)(k:Nat):decide ((n:Int)<=(k:Int))=decide (n<=k):=by by_cases h:n<=k<;>simp[h]<;>omega
theorem W_(a)(M:uP a.1.1):f215 a=some ((a.1.1.all hH&&decide (a.1.1.length<=6),()),()):=by
 obtain⟨⟨aA,u⟩,bx⟩:=a;obtain⟨hl,hn⟩:=M;have hl:aA.length<=2097152:=hl;have key:Dd ((aA,((0:Int),())),())=some (bif allI (fun _ n=>hH n) 0 aA then .inr ((aA,()),()) else .inl ((false,()),())):=by
  refine fz x3 aA (fun i=>((aA,((i:Int),())),())) _ _ _ (fun i x hx=>?_) ?_
  ·have hi:=ca hx;have hw:aD i:=by unfold aD;omega
   have hb:=hn x (List.mem_of_getElem? hx);simp only[x3,ce hi,cond_true,bZ,hx,Option.bind_some];rw[YO _ hb.1 hb.2];simp only[Option.bind_some,b_ hw];cases hH x<;>rfl
  ·simp only[x3,cX,cond_false]
 rw[gR] at key;simp only[f215,key,Option.bind_some];cases List.all aA hH with
 |false=>rfl
 |true=>have:=zH aA.length 6;simp only[cond_true,Bool.true_and];rw[<-this];rfl
theorem Xj(a)(M:uP a.1.1):y7 a=some ((a.1.1.all hH,()),()):=by
 obtain⟨⟨aA,u⟩,bx⟩:=a;obtain⟨hl,hn⟩:=M;have hl:aA.length<=2097152:=hl;have key:BH (((),(aA,((aA.length:Int),((0:Int),())))),())=some (bif allI (fun _ n=>hH n) 0 aA then .inr ((),()) else .inl ((false,()),())):=by
  refine fz wS aA (fun i=>(((),(aA,((aA.length:Int),((i:Int),())))),())) _ _ _ (fun i x hx=>?_) ?_
  ·have hi:=ca hx;have hw:aD i:=by unfold aD;omega
   have hb:=hn x (List.mem_of_getElem? hx);simp only[wS,ce hi,cond_true,bZ,hx,Option.bind_some];rw[Jw _ hb.1 hb.2];simp only[Option.bind_some,b_ hw];cases hH x<;>rfl
  ·simp only[wS,cX,cond_false]
 rw[gR] at key;simp only[y7,key,Option.bind_some];cases List.all aA hH<;>rfl
def jA:List ak->List ak->Bool
 |_,[]=>false
 |a7,x::r=>a7.contains x||jA (a7++[x]) r
theorem ZO(xs:List ak):∀(r:List ak) (k:Nat),r=xs.drop k->allI (fun i x=>!((xs.take i).contains x)) k r=!jA (xs.take k) r:=by
 intro r;induction r with
 |nil=>intro k _;rfl
 |cons x r ih=>
  intro k hr;have cL:r=xs.drop (k+1):=by
   have:=congrArg List.tail hr;simpa using this
  have hx:xs[k]? =some x:=by
   have:=congrArg (fun l=>l[0]?) hr
   simpa using this.symm
  have e1:xs.take (k+1)=xs.take k++[x]:=by rw[List.take_add_one,hx];rfl
  simp only[allI,jA,ih (k+1) cL,e1,Bool.not_or]
theorem aao(ys:List ak)(x:ak):ys.all (fun y=>!(y==x))=!ys.contains x:=by
 induction ys with
 |nil=>rfl
 |cons y ys ih=>
  simp only[List.all_cons,ih,List.contains_cons,Bool.not_or];congr 2
  cases h:y==x with
  |true=>rw[eq_of_beq h];simp
  |false=>
   cases h2:x==y with
   |true=>rw[eq_of_beq h2] at h;simp at h
   |false=>rfl
theorem W9(a)(M:cg a.1.1.length):f99 a=some ((jA [] a.1.1,()),()):=by
 obtain⟨⟨xs,u⟩,bx⟩:=a;have M:xs.length<=2097152:=M;have inner:∀(i:Nat) (x:ak),xs[i]? =some x->B_ ((xs,((i:Int),((0:Int),()))),())=some (bif !((xs.take i).contains x) then .inr ((xs,((i:Int),())),()) else .inl ((true,()),())):=by
  intro i x hx;have hi:=ca hx;have hl:(xs.take i).length=i:=by rw[List.length_take];omega
  have:=fz xb (xs.take i) (fun k=>((xs,((i:Int),((k:Int),()))),())) (fun _ y=>!(y==x)) (.inl ((true,()),())) (.inr ((xs,((i:Int),())),())) (fun k y aj=>?_) ?_
  ·have:=this;rw[gR,aao] at this;exact this
  ·have ag:=ca aj;rw[hl] at ag;have hw:aD k:=by unfold aD;omega
   have dL:xs[k]? =some y:=by
    rw[List.getElem?_take,if_pos ag] at aj;exact aj
   simp only[xb,ce ag,cond_true,bZ,dL,hx,Option.bind_some,b_ hw];cases (y==x)<;>rfl
  ·simp only[xb,hl,cX,cond_false]
 have key:D4 ((xs,((0:Int),())),())=some (bif allI (fun i x=>!((xs.take i).contains x)) 0 xs then .inr ((),()) else .inl ((true,()),())):=by
  refine fz yN xs (fun i=>((xs,((i:Int),())),())) _ _ _ (fun i x hx=>?_) ?_
  ·have hi:=ca hx;have hw:aD i:=by unfold aD;omega
   simp only[yN,ce hi,cond_true,inner i x hx,Option.bind_some];cases (xs.take i).contains x
   ·simp only[Bool.not_false,cond_true,b_ hw]
   ·rfl
  ·simp only[yN,cX,cond_false]
 rw[ZO xs xs 0 rfl] at key;simp only[f99,key,Option.bind_some,List.take_zero];cases jA [] xs<;>rfl
def qW(name:ak)(aA:List dr):Bool:=aA.all hH&&decide (aA.length<=6)&&!jA [] (name::aA.map (·.name))
theorem W8(a)(M:uP a.1.2.1)(hn:cg a.1.1.length):f163 a=some ((qW a.1.1 a.1.2.1,()),()):=by
 obtain⟨⟨name,aA,u⟩,bx⟩:=a;have hl:aA.length<=2097152:=M.1;have key:Dg ((aA,((),((0:Int),()))),(([name]:List ak),()))=some (((aA,((),())),((name::aA.map (·.name)),()))):=by
  have:=wK x6 aA (fun i (out:List ak)=>((aA,((),((i:Int),()))),(out,()))) (fun(n:dr) out=>out++[n.name]) (fun out=>(((aA,((),())),(out,())):aR xh)) (fun i out=>out.length=i+1) [name] rfl (fun i x out hx cW=>?_) (fun out _=>?_)
  ·refine this.trans ?_
   have e:∀(r:List dr) (out:List ak),r.foldl (fun s x=>s++[x.name]) out=out++r.map (·.name):=by
    intro r;induction r with
    |nil=>intro out;simp
    |cons n r ih=>intro out;simp[ih]
   rw[e];rfl
  ·have hi:=ca hx;have hw:aD i:=by unfold aD;omega
   refine⟨?_,by simp[cW]⟩
   simp only[x6,ce hi,cond_true,bZ,hx,Option.bind_some];rw[hJ (by decide) (by unfold aD;simp only[List.length_cons,List.length_nil];omega)]
   simp only[Option.bind_some,b_ hw]
  ·simp only[x6,cX,cond_false]
 simp only[f163,key,Option.bind_some];rw[W_ _ M];simp only[Option.bind_some];unfold qW;cases aF:(List.all aA hH&&decide (aA.length<=6)) with
 |false=>rfl
 |true=>
  simp only[Bool.and_eq_true,decide_eq_true_eq] at aF;have ak0:=W9 ((name::aA.map (·.name),()),()) (show(name::aA.map (·.name)).length<=2097152 by simp only[List.length_cons,List.length_map];omega)
  simp only[cond_true,Bool.true_and,ak0,Option.bind_some]
theorem Z_(a)(M:cg a.1.1.length):∃n:Int,f221 a=some ((n,()),())/\decide (n>=0)=a.1.1.contains a.1.2.1:=by
 obtain⟨⟨xs,x,u⟩,bx⟩:=a;have M:xs.length<=2097152:=M;have key:Dc ((xs,(x,((xs.length:Int),((0:Int),())))),())=_:=BC x2 xs (fun i (_:Unit)=>((xs,(x,((xs.length:Int),((i:Int),())))),()))
  (fun i y _=>some (bif x==y then .inr ((.inl (((i:Int),()),())):aR qQ) else .inl ())) (fun _=>.inr ((),())) (fun i y s aj=>?_) (fun s=>?_) ()
 ·have fold:∀(r:List ak) (k:Nat),∃n:Int,(eB (fun i y (_:Unit)=>some (bif x==y then .inr ((.inl (((i:Int),()),())):aR qQ) else .inl ())) (fun _=>(.inr ((),()):aR qQ)) k r ()).bind (fun aee=>
    (match aee with
    |.inl aed=>some ((aed.1.1,()),())
    |.inr amp=>some ((((-1):Int),()),()):Option E7.H))=some ((n,()),())/\decide (n>=0)=r.contains x:=by
   intro r;induction r with
   |nil=>intro k;exact⟨-1,rfl,rfl⟩
   |cons y r ih=>
    intro k;simp only[eB,List.contains_cons];cases Gs:x==y with
    |true=>exact⟨k,rfl,by simp⟩
    |false=>
     obtain⟨n,h1,h2⟩:=ih (k+1);exact⟨n,h1,by simpa using h2⟩
  obtain⟨n,h1,h2⟩:=fold xs 0;refine⟨n,?_,h2⟩;simp only[f221];rw[key];exact h1
 ·have hi:=ca aj;have hw:aD i:=by unfold aD;omega
  simp only[x2,ce hi,cond_true,bZ,aj,Option.bind_some,b_ hw];cases x==y<;>rfl
 ·simp only[x2,cX,cond_false]
theorem V1(a)(M:cg a.1.1.length):f178 a=some ((a.1.1.contains a.1.2.1,()),()):=by
 obtain⟨n,h1,h2⟩:=Z_ ((a.1.1,(a.1.2.1,())),()) M;simp only[f178,h1,Option.bind_some,h2]
theorem YP(a)(M:cg a.1.1.length):f177 a=some (((),()),(a.1.1,())):=by
 obtain⟨⟨xs,u⟩,bx⟩:=a;have M:xs.length<=2097152:=M;have h2:(dB 16 ([]:List ak) xs).bind (fun x=>some (((),()),(x,())))=(some (((),()),(xs,())):Option E_.H):=by
  rw[hJ (by decide) (by unfold aD;simp only[List.length_nil];omega)];rfl
 simp only[f177];rw[h2];unfold nb;split
 ·rfl
 ·rename_i h;exact absurd (fun he:xs=[]=>by subst he;rfl) h
theorem UA(a)(M:uP a.1.1)(hm:a.1.2.2.1.length<=1):y6 a=some ((jA a.1.2.2.1 (a.1.1.map (·.name)),()),()):=by
 obtain⟨⟨aA,ko,more,u⟩,bx⟩:=a;have hl:aA.length<=2097152:=M.1;have hm:more.length<=1:=hm;have hc:=YP ((more,()),()) (show more.length<=2097152 by omega)
 have key:(BG (((),((),(aA,((aA.length:Int),((0:Int),()))))),(more,())))=_:=l9 wR aA (fun i (out:List ak)=>(((),((),(aA,((aA.length:Int),((i:Int),()))))),(out,())))
  (fun i (n:dr) out=>some (bif out.contains n.name then .inr ((.inl ((true,()),())):aR qH) else .inl (out++[n.name]))) (fun _=>.inr ((),())) (fun i out=>out.length<=i+1) more (by omega) (fun i x out hx cW=>?_) (fun out _=>?_)
 ·have fold:∀(r:List dr) (k:Nat) (out:List ak),(eB (fun i (n:dr) out=>some (bif out.contains n.name then .inr ((.inl ((true,()),())):aR qH) else .inl (out++[n.name]))) (fun _=>(.inr ((),()):aR qH)) k r out)=
    some (bif jA out (r.map (·.name)) then .inl ((true,()),()) else .inr ((),())):=by
   intro r;induction r with
   |nil=>intro k out;rfl
   |cons n r ih=>
    intro k out;simp only[eB,List.map_cons,jA];cases out.contains n.name with
    |true=>rfl
    |false=>simp only[cond_false,Bool.false_or];exact ih _ _
  rw[fold] at key;simp only[y6,hc,Option.bind_some,key];cases jA more (aA.map (·.name))<;>rfl
 ·have hi:=ca hx;have hw:aD i:=by unfold aD;omega
  refine⟨?_,fun am ab=>?_⟩
  ·simp only[wR,ce hi,cond_true,bZ,hx,Option.bind_some,f123];rw[V1 _ (show cg out.length by show out.length<=2097152;omega)]
   simp only[Option.bind_some];cases aF:out.contains x.name with
   |true=>rfl
   |false=>
    simp only[cond_false];rw[hJ (by decide) (by unfold aD;simp only[List.length_cons,List.length_nil];omega)]
    simp only[Option.bind_some,b_ hw,Option.map_some]
  ·simp only[Option.some.injEq] at ab;cases aF:out.contains x.name with
   |true=>rw[aF] at ab;cases ab
   |false=>
    rw[aF] at ab;simp only[cond_false,Sum.inl.injEq] at ab;subst ab;simp only[List.length_append,List.length_cons,List.length_nil];omega
 ·simp only[wR,cX,cond_false]
abbrev i293:Shape:=⟨[(0,.ai (.d (.int .u8)))],[],29⟩
abbrev N4:Shape:=⟨[a3 2],[],29⟩
noncomputable def f293(a:i293.H):Option N4.H:=
 bif(decide (a.1.1>=(97:Int))) then
 bif(!(decide (a.1.1<=(122:Int)))) then
 bif(decide (a.1.1>=(48:Int))) then
 bif(!(decide (a.1.1<=(57:Int)))) then
 bif(!(a.1.1==(46:Int))) then
 bif(!(a.1.1==(95:Int))) then
 some (((a.1.1==(45:Int)),()),())
else
 some ((true,()),())
else
 some ((true,()),())
else
 some ((true,()),())
else
 bif(!(a.1.1==(46:Int))) then
 bif(!(a.1.1==(95:Int))) then
 some (((a.1.1==(45:Int)),()),())
else
 some ((true,()),())
else
 some ((true,()),())
else
 some ((true,()),())
else
 bif(decide (a.1.1>=(48:Int))) then
 bif(!(decide (a.1.1<=(57:Int)))) then
 bif(!(a.1.1==(46:Int))) then
 bif(!(a.1.1==(95:Int))) then
 some (((a.1.1==(45:Int)),()),())
else
 some ((true,()),())
else
 some ((true,()),())
else
 some ((true,()),())
else
 bif(!(a.1.1==(46:Int))) then
 bif(!(a.1.1==(95:Int))) then
 some (((a.1.1==(45:Int)),()),())
else
 some ((true,()),())
else
 some ((true,()),())
noncomputable def PE:a0:=a' az Tryz.f293 i293 N4 [] f293
theorem acY:a4 aa 293 PE:=bb g0 Tryz.func293 (by kernel_rfl) aw (fun y=>by kernel_rfl) fun a=>by kernel_rfl
noncomputable abbrev afi:bz:=[(293,PE)]
theorem Qv:a9 aa (bo az afi):=bB ⟨acY,⟨⟩⟩
abbrev xo:Shape:=⟨[bk 0,ah 5,ah 6],[],17⟩
abbrev CE:List be:=[(.ret,⟨[a3 2],[],17⟩),(.exit 0,⟨[bk 0],[],17⟩)]
noncomputable def xZ(y:xo.H):cA xo CE:=
 bif(decide (y.1.2.2.1<y.1.2.1)) then
(bg y.1.1 y.1.2.2.1).bind fun a=>
(f293 (((a.toNat:Int),()),())).bind fun b=>
 bif(!b.1.1) then
 some (.inr (.inl ((false,()),())))
else
 some (.inl ((y.1.1,y.1.2.1,(IntKind.i64.wrap (y.1.2.2.1+(1:Int))),()),()))
else
 some (.inr (.inr ((y.1.1,()),())))
noncomputable def C':xo.H->Option (aR CE):=bK xZ
theorem _m:bl aa (aH (codeOf Tryz.f267) 1 26) (bC xo CE C'):=cB Qv (by kernel_rfl) aw fun y=>by kernel_rfl
abbrev i267:Shape:=⟨[bk 0],[],17⟩
abbrev N8:Shape:=⟨[a3 2],[],17⟩
noncomputable def f267(a:i267.H):Option N8.H:=
(C' ((a.1.1,(a.1.1.length:Int),(0:Int),()),())).bind fun b=>
(match b with
|.inl c=>
 some ((c.1.1,()),())
|.inr d=>
 some (((!(d.1.1==([]:ak))),()),()))
noncomputable def PI:a0:=a' az Tryz.f267 i267 N8 [] f267
theorem ac2:a4 aa 267 PI:=bb Qv Tryz.func267 (by kernel_rfl) (bG _m aw) (fun y=>by kernel_rfl) fun a=>by kernel_rfl
noncomputable abbrev afp:bz:=[(267,PI)]
theorem af1:a9 aa (bo az afp):=bB ⟨ac2,⟨⟩⟩
abbrev i228:Shape:=⟨[bk 0],[],18⟩
abbrev Of:Shape:=⟨[a3 2],[],18⟩
noncomputable def f228(a:i228.H):Option Of.H:=
 bif(decide ((a.1.1.length:Int)<=(10:Int))) then
 bif(!(a.1.1==([46]:ak))) then
 bif(!(a.1.1==([46,46]:ak))) then
(f267 ((a.1.1,()),())).bind fun b=>
 some ((b.1.1,()),())
else
 some ((false,()),())
else
 some ((false,()),())
else
 some ((false,()),())
noncomputable def PR:a0:=a' az Tryz.f228 i228 Of [] f228
theorem adb:a4 aa 228 PR:=bb af1 Tryz.func228 (by kernel_rfl) aw (fun y=>by kernel_rfl) fun a=>by kernel_rfl
noncomputable abbrev afw:bz:=[(228,PR)]
theorem F7:a9 aa (bo az afw):=bB ⟨adb,⟨⟩⟩
abbrev KG:Shape:=⟨[b7 2 2 0,b7 3 3 0,bk 4],[b6 2 [hU],b6 3 [cM]],17⟩
abbrev Ku:List be:=[(.norm,⟨[b7 2 2 0,b7 3 3 0,a3 16],[b6 2 [hU],b6 3 [cM]],17⟩)]
noncomputable def Cn(y:KG.H):Option (aR Ku):=
 bif(!(decide (y.2.2.1.1>(5:Int)))) then
(f228 ((y.1.2.2.1,()),())).bind fun a=>
 some (((),(),(!a.1.1),()),(y.2.1.1,()),(y.2.2.1.1,()),())
else
 some (((),(),true,()),(y.2.1.1,()),(y.2.2.1.1,()),())
theorem Ze:bl aa (aH (jq (aH (codeOf Tryz.f193) 1 58)) 117 938) (bC KG Ku Cn):=eh F7 (by kernel_rfl) aw fun y=>by kernel_rfl
abbrev xx:Shape:=⟨[b7 2 2 0,b7 3 3 0],[b6 2 [hU],b6 3 [cM]],17⟩
abbrev CL:List be:=[(.norm,⟨[b7 2 2 0],[b6 2 [hU]],17⟩),(.ret,⟨[b7 2 2 0],[b6 2 [hU]],17⟩)]
noncomputable def qZ(x:ak)(y:xx.H):cA xx CL:=
(Cn (((),(),x,()),(y.2.1.1,()),((IntKind.i64.wrap (y.2.2.1.1+(1:Int))),()),())).bind fun a=>
 bif a.1.2.2.1 then
 some (.inr (.inr (((),()),(false,()),())))
else
 some (.inl (((),(),()),(a.2.1.1,()),(a.2.2.1.1,()),()))
noncomputable def tH(y:xx.H):Option (aR CL):=
 some (.inl (((),()),(y.2.1.1,()),()))
theorem _v:bl aa (aH (codeOf Tryz.f193) 1 58) (qL 257 6 xx CL qZ tH):=IK (eD:=7) F7 Nh (by kernel_rfl) (bG Ze aw) (by kernel_rfl) (fun x y=>by kernel_rfl) fun y=>by kernel_rfl
abbrev i193:Shape:=⟨[bk 0],[],17⟩
abbrev On:Shape:=⟨[b7 2 2 0],[b6 2 [hU]],17⟩
noncomputable def f193(a:i193.H):Option On.H:=
(bif Nat.ble a.1.1.length jZ then hM qZ tH (cK (47:UInt8) a.1.1) (((),(),()),(false,()),((0:Int),()),()) else none).bind fun b=>
(match b with
|.inl c=>
 some (((),()),(true,()),())
|.inr d=>
 some (((),()),(d.2.1.1,()),()))
noncomputable def FQ:a0:=a' az Tryz.f193 i193 On [] f193
theorem NK:a4 aa 193 FQ:=bb F7 Tryz.func193 (by kernel_rfl) (bG _v aw) (fun y=>by kernel_rfl) fun a=>by kernel_rfl
abbrev i229:Shape:=⟨[(0,.ai (.d (.int .u8)))],[],9⟩
abbrev Oe:Shape:=⟨[a3 2],[],9⟩
noncomputable def f229(a:i229.H):Option Oe.H:=
 bif(decide (a.1.1>=(32:Int))) then
 some (((decide (a.1.1<=(126:Int))),()),())
else
 some ((false,()),())
noncomputable def PQ:a0:=a' az Tryz.f229 i229 Oe [] f229
theorem ada:a4 aa 229 PQ:=bb g0 Tryz.func229 (by kernel_rfl) aw (fun y=>by kernel_rfl) fun a=>by kernel_rfl
noncomputable abbrev afv:bz:=[(229,PQ)]
theorem F6:a9 aa (bo az afv):=bB ⟨ada,⟨⟩⟩
abbrev JH:Shape:=⟨[bk 0,ah 3,ah 8,ah 9],[],24⟩
abbrev Jx:List be:=[(.norm,⟨[bk 0,ah 8,ah 9,a3 22],[],24⟩)]
noncomputable def BM(y:JH.H):Option (aR Jx):=
(bg y.1.1 y.1.2.1).bind fun a=>
(f229 (((a.toNat:Int),()),())).bind fun b=>
 bif(!b.1.1) then
(bg y.1.1 y.1.2.1).bind fun c=>
 some ((y.1.1,y.1.2.2.1,y.1.2.2.2.1,((c.toNat:Int) !=(10:Int)),()),())
else
 some ((y.1.1,y.1.2.2.1,y.1.2.2.2.1,false,()),())
theorem XI:bl aa (aH (dz (aH (codeOf Tryz.f194) 1 58)) 116 7474) (bC JH Jx BM):=eh F6 (by kernel_rfl) aw fun y=>by kernel_rfl
abbrev xw:Shape:=⟨[bk 0,ah 8,ah 9],[],24⟩
abbrev CK:List be:=[(.ret,⟨[a3 2],[],24⟩),(.exit 0,⟨[],[],24⟩)]
noncomputable def x5(y:xw.H):cA xw CK:=
 bif(decide (y.1.2.2.1<y.1.2.1)) then
(BM ((y.1.1,y.1.2.2.1,y.1.2.1,y.1.2.2.1,()),())).bind fun a=>
 bif a.1.2.2.2.1 then
 some (.inr (.inl ((false,()),())))
else
 some (.inl ((a.1.1,a.1.2.1,(IntKind.i64.wrap (a.1.2.2.1+(1:Int))),()),()))
else
 some (.inr (.inr ((),())))
noncomputable def Df:xw.H->Option (aR CK):=bK x5
theorem _u:bl aa (aH (codeOf Tryz.f194) 1 58) (bC xw CK Df):=cB F6 (by kernel_rfl) (bG XI aw) fun y=>by kernel_rfl
abbrev i194:Shape:=⟨[bk 0],[],24⟩
abbrev Om:Shape:=⟨[a3 2],[],24⟩
noncomputable def f194(a:i194.H):Option Om.H:=
 bif(decide ((a.1.1.length:Int)>(80:Int))) then
 some ((false,()),())
else
(Df ((a.1.1,(a.1.1.length:Int),(0:Int),()),())).bind fun b=>
(match b with
|.inl c=>
 some ((c.1.1,()),())
|.inr d=>
 some ((true,()),()))
noncomputable def PZ:a0:=a' az Tryz.f194 i194 Om [] f194
theorem adl:a4 aa 194 PZ:=bb F6 Tryz.func194 (by kernel_rfl) (bG _u aw) (fun y=>by kernel_rfl) fun a=>by kernel_rfl
noncomputable abbrev afI:bz:=[(193,FQ),(194,PZ)]
theorem QC:a9 aa (bo az afI):=bB ⟨NK,adl,⟨⟩⟩
abbrev Lh:Shape:=⟨[b7 1 1 0],[b6 1 [bD,cM,cM,bD]],39⟩
abbrev K_:List be:=[(.norm,⟨[b7 1 1 0,a3 16],[b6 1 [bD,cM,cM,bD]],39⟩)]
noncomputable def Dy(y:Lh.H):Option (aR K_):=
(f193 ((y.2.1.1,()),())).bind fun a=>
 bif(!(!a.2.1.1)) then
 bif(!(decide (y.2.1.2.2.1<(0:Int)))) then
 some (((),(decide (y.2.1.2.2.1>(7:Int))),()),(y.2.1.1,y.2.1.2.1,y.2.1.2.2.1,y.2.1.2.2.2.1,()),())
else
 some (((),true,()),(y.2.1.1,y.2.1.2.1,y.2.1.2.2.1,y.2.1.2.2.2.1,()),())
else
 some (((),true,()),(y.2.1.1,y.2.1.2.1,y.2.1.2.2.1,y.2.1.2.2.2.1,()),())
theorem _G:bl aa (aH (codeOf Tryz.f136) 1 12) (bC Lh K_ Dy):=eh QC (by kernel_rfl) aw fun y=>by kernel_rfl
abbrev i136:Shape:=⟨[c5 0 [bD,cM,cM,bD]],[],39⟩
abbrev OG:Shape:=⟨[a3 2],[],39⟩
noncomputable def f136(a:i136.H):Option OG.H:=
(Dy (((),()),(a.1.1.1,a.1.1.2.1,a.1.1.2.2.1,a.1.1.2.2.2.1,()),())).bind fun b=>
 bif b.1.2.1 then
 some ((false,()),())
else
 bif(b.2.1.2.1==(1:Int)) then
 some (((b.2.1.2.2.2.1==([]:ak)),()),())
else
 bif(b.2.1.2.1==(2:Int)) then
(f194 ((b.2.1.2.2.2.1,()),())).bind fun c=>
 some ((c.1.1,()),())
else
 bif(b.2.1.2.1==(3:Int)) then
 bif(b.2.1.2.2.1==(0:Int)) then
(f193 ((b.2.1.2.2.2.1,()),())).bind fun d=>
 some ((d.2.1.1,()),())
else
 some ((false,()),())
else
 some ((false,()),())
noncomputable def Qb:a0:=a' az Tryz.f136 i136 OG [] f136
theorem adz:a4 aa 136 Qb:=bb QC Tryz.func136 (by kernel_rfl) (bG _G aw) (fun y=>by kernel_rfl) fun a=>by kernel_rfl
abbrev i304:Shape:=⟨[(0,.ai (.d (.int .u8)))],[],29⟩
abbrev N3:Shape:=⟨[a3 2],[],29⟩
noncomputable def f304(a:i304.H):Option N3.H:=
 bif(decide (a.1.1>=(97:Int))) then
 bif(!(decide (a.1.1<=(122:Int)))) then
 bif(decide (a.1.1>=(48:Int))) then
 bif(!(decide (a.1.1<=(57:Int)))) then
 bif(!(a.1.1==(46:Int))) then
 bif(!(a.1.1==(95:Int))) then
 some (((a.1.1==(45:Int)),()),())
else
 some ((true,()),())
else
 some ((true,()),())
else
 some ((true,()),())
else
 bif(!(a.1.1==(46:Int))) then
 bif(!(a.1.1==(95:Int))) then
 some (((a.1.1==(45:Int)),()),())
else
 some ((true,()),())
else
 some ((true,()),())
else
 some ((true,()),())
else
 bif(decide (a.1.1>=(48:Int))) then
 bif(!(decide (a.1.1<=(57:Int)))) then
 bif(!(a.1.1==(46:Int))) then
 bif(!(a.1.1==(95:Int))) then
 some (((a.1.1==(45:Int)),()),())
else
 some ((true,()),())
else
 some ((true,()),())
else
 some ((true,()),())
else
 bif(!(a.1.1==(46:Int))) then
 bif(!(a.1.1==(95:Int))) then
 some (((a.1.1==(45:Int)),()),())
else
 some ((true,()),())
else
 some ((true,()),())
noncomputable def PD:a0:=a' az Tryz.f304 i304 N3 [] f304
theorem acX:a4 aa 304 PD:=bb g0 Tryz.func304 (by kernel_rfl) aw (fun y=>by kernel_rfl) fun a=>by kernel_rfl
noncomputable abbrev afg:bz:=[(91,qh),(304,PD)]
theorem Qu:a9 aa (bo az afg):=bB ⟨sq,acX,⟨⟩⟩
abbrev xm:Shape:=⟨[bk 0,ah 3],[],26⟩
abbrev CC:List be:=[(.ret,⟨[a3 2],[],26⟩),(.exit 0,⟨[bk 0],[],26⟩)]
noncomputable def xY(y:xm.H):cA xm CC:=
 bif(decide (y.1.2.1<(y.1.1.length:Int))) then
(bg y.1.1 y.1.2.1).bind fun a=>
(f304 (((a.toNat:Int),()),())).bind fun b=>
 bif(!b.1.1) then
 some (.inr (.inl ((false,()),())))
else
 some (.inl ((y.1.1,(IntKind.i64.wrap (y.1.2.1+(1:Int))),()),()))
else
 some (.inr (.inr ((y.1.1,()),())))
noncomputable def C9:xm.H->Option (aR CC):=bK xY
theorem _k:bl aa (aH (codeOf Tryz.f285) 1 26) (bC xm CC C9):=cB Qu (by kernel_rfl) aw fun y=>by kernel_rfl
abbrev i285:Shape:=⟨[bk 0],[],26⟩
abbrev N5:Shape:=⟨[a3 2],[],26⟩
noncomputable def f285(a:i285.H):Option N5.H:=
(C9 ((a.1.1,(0:Int),()),())).bind fun b=>
(match b with
|.inl c=>
 some ((c.1.1,()),())
|.inr d=>
(f91 (((d.1.1.length:Int),(1:Int),(10:Int),()),())).bind fun e=>
 bif e.1.1 then
 bif(!(d.1.1==([46]:ak))) then
 some (((!(d.1.1==([46,46]:ak))),()),())
else
 some ((false,()),())
else
 some ((false,()),()))
noncomputable def PF:a0:=a' az Tryz.f285 i285 N5 [] f285
theorem acZ:a4 aa 285 PF:=bb Qu Tryz.func285 (by kernel_rfl) (bG _k aw) (fun y=>by kernel_rfl) fun a=>by kernel_rfl
noncomputable abbrev afk:bz:=[(89,Hj),(285,PF)]
theorem Qw:a9 aa (bo az afk):=bB ⟨QJ,acZ,⟨⟩⟩
abbrev xq:Shape:=⟨[b8 3 3000192,ah 4],[cq 3000192 .str 3 0],25⟩
abbrev CG:List be:=[(.ret,⟨[a3 2],[],25⟩),(.exit 0,⟨[b8 3 3000192],[cq 3000192 .str 3 0],25⟩)]
noncomputable def x1(y:xq.H):cA xq CG:=
 bif(decide (y.1.2.1<(y.2.1.length:Int))) then
(fa y.2.1.length y.1.2.1).bind fun a=>
(y.2.1[a]?).bind fun b=>
(f285 ((b,()),())).bind fun c=>
 bif(!c.1.1) then
 some (.inr (.inl ((false,()),())))
else
 some (.inl (((),(IntKind.i64.wrap (y.1.2.1+(1:Int))),()),y.2.1,()))
else
 some (.inr (.inr (((),()),y.2.1,())))
noncomputable def Db:xq.H->Option (aR CG):=bK x1
theorem _o:bl aa (aH (codeOf Tryz.f252) 1 58) (bC xq CG Db):=cB Qw (by kernel_rfl) aw fun y=>by kernel_rfl
abbrev i252:Shape:=⟨[bk 0],[],25⟩
abbrev N':Shape:=⟨[a3 2],[],25⟩
noncomputable def f252(a:i252.H):Option N'.H:=
(f89 ((a.1.1,(47:Int),(IntKind.i64.wrap ((a.1.1.length:Int)+(1:Int))),()),())).bind fun b=>
(Db (((),(0:Int),()),b.2.1,())).bind fun c=>
(match c with
|.inl d=>
 some ((d.1.1,()),())
|.inr e=>
 some (((decide ((e.2.1.length:Int)<=(5:Int))),()),()))
noncomputable def PL:a0:=a' az Tryz.f252 i252 N' [] f252
theorem ac5:a4 aa 252 PL:=bb Qw Tryz.func252 (by kernel_rfl) (bG _o aw) (fun y=>by kernel_rfl) fun a=>by kernel_rfl
noncomputable abbrev afj:bz:=[(91,qh)]
theorem F5:a9 aa (bo az afj):=bB ⟨sq,⟨⟩⟩
abbrev KF:Shape:=⟨[bk 0,ah 3],[],25⟩
abbrev Kt:List be:=[(.norm,⟨[bk 0,ah 3,a3 21],[],25⟩)]
noncomputable def Cm(y:KF.H):Option (aR Kt):=
(bg y.1.1 y.1.2.1).bind fun a=>
 bif((a.toNat:Int) !=(10:Int)) then
(bg y.1.1 y.1.2.1).bind fun b=>
(f91 (((IntKind.i64.wrap (b.toNat:Int)),(32:Int),(126:Int),()),())).bind fun c=>
 some ((y.1.1,y.1.2.1,(!c.1.1),()),())
else
 some ((y.1.1,y.1.2.1,false,()),())
theorem Zd:bl aa (aH (dz (aH (codeOf Tryz.f253) 1 26)) 52 840) (bC KF Kt Cm):=eh F5 (by kernel_rfl) aw fun y=>by kernel_rfl
abbrev xp:Shape:=⟨[bk 0,ah 3],[],25⟩
abbrev CF:List be:=[(.ret,⟨[a3 2],[],25⟩),(.exit 0,⟨[bk 0],[],25⟩)]
noncomputable def x0(y:xp.H):cA xp CF:=
 bif(decide (y.1.2.1<(y.1.1.length:Int))) then
(Cm ((y.1.1,y.1.2.1,()),())).bind fun a=>
 bif a.1.2.2.1 then
 some (.inr (.inl ((false,()),())))
else
 some (.inl ((a.1.1,(IntKind.i64.wrap (a.1.2.1+(1:Int))),()),()))
else
 some (.inr (.inr ((y.1.1,()),())))
noncomputable def Da:xp.H->Option (aR CF):=bK x0
theorem _n:bl aa (aH (codeOf Tryz.f253) 1 26) (bC xp CF Da):=cB F5 (by kernel_rfl) (bG Zd aw) fun y=>by kernel_rfl
abbrev i253:Shape:=⟨[bk 0],[],25⟩
abbrev N_:Shape:=⟨[a3 2],[],25⟩
noncomputable def f253(a:i253.H):Option N_.H:=
(Da ((a.1.1,(0:Int),()),())).bind fun b=>
(match b with
|.inl c=>
 some ((c.1.1,()),())
|.inr d=>
 some (((decide ((d.1.1.length:Int)<=(80:Int))),()),()))
noncomputable def PK:a0:=a' az Tryz.f253 i253 N_ [] f253
theorem ac4:a4 aa 253 PK:=bb F5 Tryz.func253 (by kernel_rfl) (bG _n aw) (fun y=>by kernel_rfl) fun a=>by kernel_rfl
noncomputable abbrev aft:bz:=[(91,qh),(252,PL),(253,PK)]
theorem af4:a9 aa (bo az aft):=bB ⟨sq,ac5,ac4,⟨⟩⟩
abbrev i210:Shape:=⟨[c5 0 [bD,cM,cM,bD]],[],42⟩
abbrev Ok:Shape:=⟨[a3 2],[],42⟩
noncomputable def f210(a:i210.H):Option Ok.H:=
(f252 ((a.1.1.1,()),())).bind fun b=>
 bif(!b.1.1) then
 some ((false,()),())
else
 bif(a.1.1.2.1==(1:Int)) then
(f91 ((a.1.1.2.2.1,(0:Int),(7:Int),()),())).bind fun c=>
 bif c.1.1 then
 some (((a.1.1.2.2.2.1==([]:ak)),()),())
else
 some ((false,()),())
else
 bif(a.1.1.2.1==(2:Int)) then
(f91 ((a.1.1.2.2.1,(0:Int),(7:Int),()),())).bind fun d=>
 bif d.1.1 then
(f253 ((a.1.1.2.2.2.1,()),())).bind fun e=>
 some ((e.1.1,()),())
else
 some ((false,()),())
else
 bif(a.1.1.2.1==(3:Int)) then
 bif(a.1.1.2.2.1==(0:Int)) then
(f252 ((a.1.1.2.2.2.1,()),())).bind fun f=>
 some ((f.1.1,()),())
else
 some ((false,()),())
else
 some ((false,()),())
noncomputable def PX:a0:=a' az Tryz.f210 i210 Ok [] f210
theorem adj:a4 aa 210 PX:=bb af4 Tryz.func210 (by kernel_rfl) aw (fun y=>by kernel_rfl) fun a=>by kernel_rfl
def jW(n:Int):Bool:=(decide (97<=n)&&decide (n<=122))||(decide (48<=n)&&decide (n<=57))||n==46||n==95||n==45
theorem Xb(a):f304 a=some ((jW a.1.1,()),()):=by
 obtain⟨⟨n,u⟩,bx⟩:=a;simp only[f304,jW,ge_iff_le];generalize decide ((97:Int)<=n)=aS;generalize decide (n<=(122:Int))=aJ;generalize decide ((48:Int)<=n)=bM;generalize decide (n<=(57:Int))=jj;generalize(n==(46:Int))=v9;generalize(n==(95:Int))=HZ;generalize(n==(45:Int))=HY;cases aS<;>cases aJ<;>cases bM<;>cases jj<;>cases v9<;>cases HZ<;>cases HY<;>rfl
theorem VT(a):f293 a=some ((jW a.1.1,()),()):=by
 obtain⟨⟨n,u⟩,bx⟩:=a;simp only[f293,jW,ge_iff_le];generalize decide ((97:Int)<=n)=aS;generalize decide (n<=(122:Int))=aJ;generalize decide ((48:Int)<=n)=bM;generalize decide (n<=(57:Int))=jj;generalize(n==(46:Int))=v9;generalize(n==(95:Int))=HZ;generalize(n==(45:Int))=HY;cases aS<;>cases aJ<;>cases bM<;>cases jj<;>cases v9<;>cases HZ<;>cases HY<;>rfl
def j6(s:ak):Bool:=s.all (fun b=>jW b.toNat)&&within s.length 1 10&&!(s==[46])&&!(s==[46,46])
theorem YI(a)(M:cg a.1.1.length):f285 a=some ((j6 a.1.1,()),()):=by
 obtain⟨⟨s,u⟩,bx⟩:=a;have M:s.length<=2097152:=M;have key:C9 ((s,((0:Int),())),())=some (bif allI (fun _ b=>jW b.toNat) 0 s then .inr ((s,()),()) else .inl ((false,()),())):=by
  refine fz xY s (fun i=>((s,((i:Int),())),())) _ _ _ (fun i x hx=>?_) ?_
  ·have hi:=ca hx;have hw:aD i:=by unfold aD;omega
   simp only[xY,ce hi,cond_true,bZ,hx,Option.bind_some,Xb,b_ hw];cases jW x.toNat<;>rfl
  ·simp only[xY,cX,cond_false]
 rw[gR] at key;simp only[f285,key,Option.bind_some,j6];cases List.all s (fun b=>jW b.toNat) with
 |false=>rfl
 |true=>
  simp only[cond_true,q_,Option.bind_some,Bool.true_and];cases within (s.length:Int) 1 10<;>cases (s==[46])<;>rfl
theorem YB(a)(M:cg a.1.1.length):f228 a=some ((j6 a.1.1,()),()):=by
 obtain⟨⟨s,u⟩,bx⟩:=a;have M:s.length<=2097152:=M;have key:C' ((s,((s.length:Int),((0:Int),()))),())=some (bif allI (fun _ b=>jW b.toNat) 0 s then .inr ((s,()),()) else .inl ((false,()),())):=by
  refine fz xZ s (fun i=>((s,((s.length:Int),((i:Int),()))),())) _ _ _ (fun i x hx=>?_) ?_
  ·have hi:=ca hx;have hw:aD i:=by unfold aD;omega
   simp only[xZ,ce hi,cond_true,bZ,hx,Option.bind_some,VT,b_ hw];cases jW x.toNat<;>rfl
  ·simp only[xZ,cX,cond_false]
 rw[gR] at key;have vr:f267 ((s,()),())=some ((List.all s (fun b=>jW b.toNat)&&!(s==([]:ak)),()),()):=by
  simp only[f267,key,Option.bind_some];cases List.all s (fun b=>jW b.toNat)<;>rfl
 have h1:decide ((1:Int)<=(s.length:Int))=!(s==([]:ak)):=by
  cases s with
  |nil=>rfl
  |cons b r=>
   have:((b::r)==([]:ak))=false:=rfl;simp only[List.length_cons];rw[this];simp only[Bool.not_false,decide_eq_true_eq];omega
 simp only[f228,vr,Option.bind_some,j6,within,h1];cases decide ((s.length:Int)<=10)<;>cases (s==[46])<;>cases (s==[46,46])<;>cases List.all s (fun b=>jW b.toNat)<;>cases (s==([]:ak))<;>rfl
def im(s:ak):Bool:=(cK 47 s).all j6&&decide ((cK 47 s).length<=5)
theorem Kg(a)(M:cg a.1.1.length):f252 a=some ((im a.1.1,()),()):=by
 obtain⟨⟨s,u⟩,bx⟩:=a;have M:s.length<=2097152:=M;have hlen:=wo 47 s;have iV:f89 ((s,((47:Int),((IntKind.i64.wrap ((s.length:Int)+(1:Int))),()))),())=some (((),()),(cK 47 s,())):=
  K2 47 _ M rfl (b_ (by unfold aD;omega))
 have key:Db (((),((0:Int),())),(cK 47 s,()))=some (bif allI (fun _ x=>j6 x) 0 (cK 47 s) then .inr (((),()),(cK 47 s,())) else .inl ((false,()),())):=by
  refine fz x1 (cK 47 s) (fun i=>(((),((i:Int),())),(cK 47 s,()))) _ _ _ (fun i x hx=>?_) ?_
  ·have hi:=ca hx;have hw:aD i:=by unfold aD;omega
   have u6:x.length<=s.length:=wm 47 s x (List.mem_of_getElem? hx);simp only[x1,ce hi,cond_true,mb hi,hx,Option.bind_some];rw[YI _ (show x.length<=2097152 by omega)]
   simp only[Option.bind_some,b_ hw];cases j6 x<;>rfl
  ·simp only[x1,cX,cond_false]
 rw[gR] at key;simp only[f252,iV,Option.bind_some,key,im];cases List.all (cK 47 s) j6 with
 |false=>rfl
 |true=>have:=zH (cK 47 s).length 5;simp only[cond_true,Bool.true_and];rw[<-this];rfl
theorem BY(a)(M:cg a.1.1.length):f193 a=some (((),()),((im a.1.1,()),())):=by
 obtain⟨⟨s,u⟩,bx⟩:=a;have M:s.length<=2097152:=M;have FB:Nat.ble s.length jZ=true:=Nat.ble_eq_true_of_le (by unfold jZ;omega)
 have fold:∀(r:List ak) (k:Nat),(∀x,x∈r->x.length<=s.length)->k<=5->
   hM qZ tH r (((),((),())),((false,()),(((k:Int),()),())))=
    some (bif r.all j6&&decide (k+r.length<=5) then(.inl (((),()),((false,()),()))) else(.inr (((),()),((false,()),())))):=by
  intro r;induction r with
  |nil=>
   intro k _ ag;have:decide (k+0<=5)=true:=by simpa using ag
   simp only[hM,tH,List.all_nil,List.length_nil,this,Bool.and_self,cond_true]
  |cons x r ih=>
   intro k hr ag;have hx:=hr x List.mem_cons_self;have hQ:=YB ((x,()),()) (show x.length<=2097152 by omega)
   have hw:=b_ (i:=k) (by unfold aD;omega)
   have vt:decide (((k+1:Nat):Int)>5)=!decide (k+1<=5):=by by_cases h:k+1<=5<;>simp only[h,decide_true,decide_false,Bool.not_true,Bool.not_false,decide_eq_true_eq,decide_eq_false_iff_not]<;>omega
   have step:qZ x (((),((),())),((false,()),(((k:Int),()),())))=
     some (bif j6 x&&decide (k+1<=5) then .inl (((),((),())),((false,()),((((k+1:Nat):Int),()),()))) else .inr (.inr (((),()),((false,()),())))):=by
    simp only[qZ,Cn,hw,vt,Bool.not_not,hQ,Option.bind_some];cases decide (k+1<=5) with
    |false=>cases j6 x<;>rfl
    |true=>cases j6 x<;>rfl
   rw[hM,step,List.all_cons];cases hn:j6 x with
   |false=>rfl
   |true=>
    simp only[Bool.true_and];cases aF:decide (k+1<=5) with
    |false=>
     have:decide (k+(x::r).length<=5)=false:=by simp only[decide_eq_false_iff_not,List.length_cons] at aF ⊢;omega
     rw[this];simp
    |true=>
     simp only[cond_true];rw[ih (k+1) (fun y aj=>hr y (List.mem_cons_of_mem _ aj)) (by simpa using aF)]
     have e1:k+1+r.length=k+(x::r).length:=by simp only[List.length_cons];omega
     rw[e1]
 have key:=fold (cK (47:UInt8) s) 0 (fun x hx=>wm 47 s x hx) (Nat.zero_le _)
 have Fi:hM qZ tH (cK (47:UInt8) s) (((),((),())),((false,()),(((0:Int),()),())))=some (bif im s then(.inl (((),()),((false,()),()))) else(.inr (((),()),((false,()),())))):=by
  refine key.trans ?_
  unfold im;rw[Nat.zero_add]
 simp only[f193,FB,cond_true,Fi,Option.bind_some];cases im s<;>rfl
def tP(s:ak):Bool:=s.all (fun b=>(b.toNat:Int)==10||within b.toNat 32 126)&&decide (s.length<=80)
theorem WX(b:UInt8):IntKind.i64.wrap (b.toNat:Int)=(b.toNat:Int):=by
 have:=b.toNat_lt;rw[ei (by omega) (by omega)]
theorem YF(a)(M:cg a.1.1.length):f253 a=some ((tP a.1.1,()),()):=by
 obtain⟨⟨s,u⟩,bx⟩:=a;have M:s.length<=2097152:=M;have key:Da ((s,((0:Int),())),())=some (bif allI (fun _ b=>(b.toNat:Int)==10||within b.toNat 32 126) 0 s then .inr ((s,()),()) else .inl ((false,()),())):=by
  refine fz x0 s (fun i=>((s,((i:Int),())),())) _ _ _ (fun i x hx=>?_) ?_
  ·have hi:=ca hx;have hw:aD i:=by unfold aD;omega
   have hne:((x.toNat:Int) !=10)=!((x.toNat:Int)==10):=rfl;simp only[x0,ce hi,cond_true,Cm,bZ,hx,Option.bind_some,hne,q_,WX];cases ((x.toNat:Int)==10)<;>cases within (x.toNat:Int) 32 126<;>simp only[Bool.not_true,Bool.not_false,cond_true,cond_false,Option.bind_some,b_ hw,Bool.or_true,Bool.true_or,Bool.or_false]
  ·simp only[x0,cX,cond_false]
 rw[gR] at key;simp only[f253,key,Option.bind_some,tP];cases List.all s (fun b=>(b.toNat:Int)==10||within b.toNat 32 126) with
 |false=>rfl
 |true=>have:=zH s.length 80;simp only[cond_true,Bool.true_and];rw[<-this];rfl
theorem U6(a):f229 a=some ((within a.1.1 32 126,()),()):=by
 simp only[f229,within,ge_iff_le];cases decide ((32:Int)<=a.1.1)<;>rfl
theorem VX(a)(M:cg a.1.1.length):f194 a=some ((tP a.1.1,()),()):=by
 obtain⟨⟨s,u⟩,bx⟩:=a;have M:s.length<=2097152:=M;have key:Df ((s,((s.length:Int),((0:Int),()))),())=some (bif allI (fun _ b=>(b.toNat:Int)==10||within b.toNat 32 126) 0 s then .inr ((),()) else .inl ((false,()),())):=by
  refine fz x5 s (fun i=>((s,((s.length:Int),((i:Int),()))),())) _ _ _ (fun i x hx=>?_) ?_
  ·have hi:=ca hx;have hw:aD i:=by unfold aD;omega
   have hne:((x.toNat:Int) !=10)=!((x.toNat:Int)==10):=rfl;simp only[x5,ce hi,cond_true,BM,bZ,hx,Option.bind_some,hne,U6];cases ((x.toNat:Int)==10)<;>cases within (x.toNat:Int) 32 126<;>simp only[Bool.not_true,Bool.not_false,cond_true,cond_false,Option.bind_some,b_ hw,Bool.or_true,Bool.true_or,Bool.or_false]
  ·simp only[x5,cX,cond_false]
 rw[gR] at key;have ai4:decide ((s.length:Int)>80)=!decide (s.length<=80):=by by_cases h:s.length<=80<;>simp only[h,decide_true,decide_false,Bool.not_true,Bool.not_false,decide_eq_true_eq,decide_eq_false_iff_not]<;>omega
 simp only[f194,key,Option.bind_some,tP,ai4];cases decide (s.length<=80)<;>cases List.all s (fun b=>(b.toNat:Int)==10||within b.toNat 32 126)<;>rfl
def ou(e:aZ):Bool:=im e.path&&(bif e.kind==1 then within e.mode 0 7&&e.text==[] else bif e.kind==2 then within e.mode 0 7&&tP e.text else bif e.kind==3 then e.mode==0&&im e.text else false)
abbrev mN(e:aZ):Prop:=cg e.path.length/\cg e.text.length
theorem Xa(a)(h1:cg a.1.1.1.length)(h2:cg a.1.1.2.2.2.1.length):f210 a=some ((ou ⟨a.1.1.1,a.1.1.2.1,a.1.1.2.2.1,a.1.1.2.2.2.1⟩,()),()):=by
 obtain⟨⟨⟨p,k,m,t,u⟩,bx⟩,iB⟩:=a;have e1:=Kg ((p,()),()) h1;have e2:=Kg ((t,()),()) h2;have bI:=YF ((t,()),()) h2;simp only[f210,e1,e2,bI,q_,Option.bind_some,ou];cases im p with
 |false=>rfl
 |true=>cases (k==1)<;>cases (k==2)<;>cases (k==3)<;>cases within m 0 7<;>cases (m==0)<;>rfl
theorem Xh(a)(h1:cg a.1.1.1.length)(h2:cg a.1.1.2.2.2.1.length):f136 a=some ((ou ⟨a.1.1.1,a.1.1.2.1,a.1.1.2.2.1,a.1.1.2.2.2.1⟩,()),()):=by
 obtain⟨⟨⟨p,k,m,t,u⟩,bx⟩,iB⟩:=a;have e1:=BY ((p,()),()) h1;have e2:=BY ((t,()),()) h2;have bI:=VX ((t,()),()) h2;have hm:within m 0 7=true\/(m==0)=false:=by
  cases h:(m==0) with
  |false=>exact .inr rfl
  |true=>left;rw[show m=(0:Int) from eq_of_beq h];rfl
 simp only[f136,Dy,e1,e2,bI,Option.bind_some,ou,oW,oX,Bool.not_not];unfold within at hm ⊢;cases im p with
 |false=>rfl
 |true=>
  cases h0:decide ((0:Int)<=m)<;>cases hy:decide (m<=7)<;>rw[h0,hy] at hm<;>cases Sf:(m==0)<;>rw[Sf] at hm<;>
   first|(simp at hm;done)|(simp only[Bool.not_true,Bool.not_false,cond_true,cond_false,Option.bind_some,Sf,e2,bI,Bool.and_true,Bool.and_false,Bool.true_and,Bool.false_and];cases (k==1)<;>cases (k==2)<;>cases (k==3)<;>rfl)
abbrev i175:Shape:=⟨[bk 0],[],6⟩
abbrev Ou:Shape:=⟨[a3 2],[],6⟩
noncomputable def f175(a:i175.H):Option Ou.H:=
 some (((!(a.1.1==a.1.1)),()),())
noncomputable def P6:a0:=a' az Tryz.f175 i175 Ou [] f175
theorem ads:a4 aa 175 P6:=bb g0 Tryz.func175 (by kernel_rfl) aw (fun y=>by kernel_rfl) fun a=>by kernel_rfl
noncomputable abbrev afS:bz:=[(175,P6)]
theorem age:a9 aa (bo az afS):=bB ⟨ads,⟨⟩⟩
abbrev i110:Shape:=⟨[bk 0,bk 1],[],20⟩
abbrev OX:Shape:=⟨[ah 4],[],20⟩
noncomputable def f110(a:i110.H):Option OX.H:=
(f175 ((a.1.1,()),())).bind fun b=>
(f175 ((a.1.2.1,()),())).bind fun c=>
 bif b.1.1 then
 bif c.1.1 then
 some (((0:Int),()),())
else
 some ((((-1):Int),()),())
else
 bif c.1.1 then
 some (((1:Int),()),())
else
 bif(Op.bytesLess a.1.1 a.1.2.1) then
 some ((((-1):Int),()),())
else
 bif(!(Op.bytesLess a.1.1 a.1.2.1||a.1.1==a.1.2.1)) then
 some (((1:Int),()),())
else
 some (((0:Int),()),())
noncomputable def F1:a0:=a' az Tryz.f110 i110 OX [] f110
theorem NV:a4 aa 110 F1:=bb age Tryz.func110 (by kernel_rfl) aw (fun y=>by kernel_rfl) fun a=>by kernel_rfl
noncomputable abbrev afG:bz:=[(110,F1)]
theorem af9:a9 aa (bo az afG):=bB ⟨NV,⟨⟩⟩
abbrev i139:Shape:=⟨[c5 0 [bD,cM,cM,bD],c5 1 [bD,cM,cM,bD]],[],10⟩
abbrev OE:Shape:=⟨[ah 4],[],10⟩
noncomputable def f139(a:i139.H):Option OE.H:=
(f110 ((a.1.1.1,a.1.2.1.1,()),())).bind fun b=>
 some ((b.1.1,()),())
noncomputable def P':a0:=a' az Tryz.f139 i139 OE [] f139
theorem adx:a4 aa 139 P':=bb af9 Tryz.func139 (by kernel_rfl) aw (fun y=>by kernel_rfl) fun a=>by kernel_rfl
noncomputable abbrev abG:bz:=[(139,P')]
theorem MV:a9 aa (bo az abG):=bB ⟨adx,⟨⟩⟩
abbrev wE:Shape:=⟨[aX 0 .entry,(2,.ai (.fn 139 [])),b7 4 4 0,ah 6,a3 7,ah 8,ah 9,ah 10],[b6 4 [bD,cM,cM,bD]],49⟩
abbrev Bq:List be:=[(.exit 0,⟨[aX 0 .entry,(2,.ai (.fn 139 [])),b7 4 4 0,ah 6,a3 7,ah 8,ah 9],[b6 4 [bD,cM,cM,bD]],49⟩)]
noncomputable def wP(y:wE.H):cA wE Bq:=
 bif(decide (y.1.2.2.2.2.2.2.1<y.1.2.2.2.2.2.2.2.1)) then
(ns .u64 (IntKind.u64.wrap (IntKind.i64.wrap (y.1.2.2.2.2.2.2.1+y.1.2.2.2.2.2.2.2.1))) (1:Int)).bind fun a=>
(bg y.1.1 (IntKind.i64.wrap a)).bind fun b=>
(f139 (((b.path,b.kind,b.mode,b.text,()),(y.2.1.1,y.2.1.2.1,y.2.1.2.2.1,y.2.1.2.2.2.1,()),()),())).bind fun c=>
 bif(decide (c.1.1<(0:Int))) then
 some (.inl ((y.1.1,(),(),y.1.2.2.2.1,y.1.2.2.2.2.1,y.1.2.2.2.2.2.1,(IntKind.i64.wrap ((IntKind.i64.wrap a)+(1:Int))),y.1.2.2.2.2.2.2.2.1,()),(y.2.1.1,y.2.1.2.1,y.2.1.2.2.1,y.2.1.2.2.2.1,()),()))
else
 some (.inl ((y.1.1,(),(),y.1.2.2.2.1,y.1.2.2.2.2.1,y.1.2.2.2.2.2.1,y.1.2.2.2.2.2.2.1,(IntKind.i64.wrap a),()),(y.2.1.1,y.2.1.2.1,y.2.1.2.2.1,y.2.1.2.2.2.1,()),()))
else
 some (.inr ((y.1.1,(),(),y.1.2.2.2.1,y.1.2.2.2.2.1,y.1.2.2.2.2.2.1,y.1.2.2.2.2.2.2.1,()),(y.2.1.1,y.2.1.2.1,y.2.1.2.2.1,y.2.1.2.2.2.1,()),()))
noncomputable def wL:wE.H->Option (aR Bq):=bK wP
theorem XO:bl aa (aH (codeOf Tryz.f138) 1 60) (bC wE Bq wL):=cB MV (by kernel_rfl) aw fun y=>by kernel_rfl
abbrev Mr:Shape:=⟨[aX 0 .entry,c5 1 [bD,cM,cM,bD],(2,.ai (.fn 139 []))],[],49⟩
abbrev L_:Shape:=⟨[ah 6,a3 7],[],49⟩
noncomputable def y5(a:Mr.H):Option L_.H:=
(wL ((a.1.1,(),(),(0:Int),false,(a.1.1.length:Int),(0:Int),(a.1.1.length:Int),()),(a.1.2.1.1,a.1.2.1.2.1,a.1.2.1.2.2.1,a.1.2.1.2.2.2.1,()),())).bind fun b=>
 bif(decide (b.1.2.2.2.2.2.2.1<b.1.2.2.2.2.2.1)) then
(bg b.1.1 b.1.2.2.2.2.2.2.1).bind fun c=>
(f139 (((c.path,c.kind,c.mode,c.text,()),(b.2.1.1,b.2.1.2.1,b.2.1.2.2.1,b.2.1.2.2.2.1,()),()),())).bind fun d=>
 some ((b.1.2.2.2.2.2.2.1,(d.1.1==(0:Int)),()),())
else
 some ((b.1.2.2.2.2.2.2.1,false,()),())
noncomputable def MO:a0:=a' az Tryz.f138 Mr L_ [] y5
theorem aay:a4 aa 138 MO:=bb MV Tryz.func138 (by kernel_rfl) (bG XO aw) (fun y=>by kernel_rfl) fun a=>by kernel_rfl
abbrev xE:Shape:=⟨[aX 0 .entry,bk 1,ah 4,a3 5,ah 6],[],36⟩
abbrev qR:List be:=[(.exit 0,⟨[aX 0 .entry,bk 1,ah 4,a3 5,ah 6],[],36⟩)]
noncomputable def x_(y:xE.H):cA xE qR:=
 bif(decide (y.1.2.2.2.2.1<(y.1.1.length:Int))) then
(bg y.1.1 y.1.2.2.2.2.1).bind fun a=>
 bif(Op.bytesLess a.path y.1.2.1) then
 some (.inl ((y.1.1,y.1.2.1,y.1.2.2.1,y.1.2.2.2.1,(IntKind.i64.wrap (y.1.2.2.2.2.1+(1:Int))),()),()))
else
 some (.inr ((y.1.1,y.1.2.1,y.1.2.2.1,y.1.2.2.2.1,y.1.2.2.2.2.1,()),()))
else
 some (.inr ((y.1.1,y.1.2.1,y.1.2.2.1,y.1.2.2.2.1,y.1.2.2.2.2.1,()),()))
noncomputable def Dk:xE.H->Option (aR qR):=bK x_
theorem _C:bl aa (aH (codeOf Tryz.f157) 1 28) (bC xE qR Dk):=cB g0 (by kernel_rfl) aw fun y=>by kernel_rfl
abbrev i157:Shape:=⟨[aX 0 .entry,bk 1],[],36⟩
abbrev Oz:Shape:=⟨[ah 4,a3 5],[],36⟩
noncomputable def f157(a:i157.H):Option Oz.H:=
(Dk ((a.1.1,a.1.2.1,(0:Int),false,(0:Int),()),())).bind fun b=>
 bif(decide (b.1.2.2.2.2.1<(b.1.1.length:Int))) then
(bg b.1.1 b.1.2.2.2.2.1).bind fun c=>
 some ((b.1.2.2.2.2.1,(c.path==b.1.2.1),()),())
else
 some ((b.1.2.2.2.2.1,false,()),())
noncomputable def FW:a0:=a' az Tryz.f157 i157 Oz [] f157
theorem NQ:a4 aa 157 FW:=bb g0 Tryz.func157 (by kernel_rfl) (bG _C aw) (fun y=>by kernel_rfl) fun a=>by kernel_rfl
abbrev xn:Shape:=⟨[bk 0,(1,.ai (.d (.int .u8))),ah 5],[],19⟩
abbrev CD:List be:=[(.ret,⟨[ah 4],[],19⟩),(.exit 0,⟨[],[],19⟩)]
noncomputable def Du(y:xn.H):cA xn CD:=
 bif(decide (y.1.2.2.1>=(0:Int))) then
(bg y.1.1 y.1.2.2.1).bind fun a=>
 bif((a.toNat:Int)==y.1.2.1) then
 some (.inr (.inl ((y.1.2.2.1,()),())))
else
 some (.inl ((y.1.1,y.1.2.1,(IntKind.i64.wrap (y.1.2.2.1-(1:Int))),()),()))
else
 some (.inr (.inr ((),())))
noncomputable def C_:xn.H->Option (aR CD):=bK Du
theorem _l:bl aa (aH (codeOf Tryz.f268) 1 26) (bC xn CD C_):=cB g0 (by kernel_rfl) aw fun y=>by kernel_rfl
abbrev i268:Shape:=⟨[bk 0,(1,.ai (.d (.int .u8)))],[],19⟩
abbrev N7:Shape:=⟨[ah 4],[],19⟩
noncomputable def f268(a:i268.H):Option N7.H:=
(C_ ((a.1.1,a.1.2.1,(IntKind.i64.wrap ((a.1.1.length:Int)-(1:Int))),()),())).bind fun b=>
(match b with
|.inl c=>
 some ((c.1.1,()),())
|.inr d=>
 some ((((-1):Int),()),()))
noncomputable def PH:a0:=a' az Tryz.f268 i268 N7 [] f268
theorem ac1:a4 aa 268 PH:=bb g0 Tryz.func268 (by kernel_rfl) (bG _l aw) (fun y=>by kernel_rfl) fun a=>by kernel_rfl
noncomputable abbrev afo:bz:=[(268,PH)]
theorem af0:a9 aa (bo az afo):=bB ⟨ac1,⟨⟩⟩
abbrev i230:Shape:=⟨[bk 0,(1,.ai (.d (.int .u8)))],[],8⟩
abbrev Od:Shape:=⟨[ah 4],[],8⟩
noncomputable def f230(a:i230.H):Option Od.H:=
(f268 ((a.1.1,a.1.2.1,()),())).bind fun b=>
 some ((b.1.1,()),())
noncomputable def PP:a0:=a' az Tryz.f230 i230 Od [] f230
theorem ac9:a4 aa 230 PP:=bb af0 Tryz.func230 (by kernel_rfl) aw (fun y=>by kernel_rfl) fun a=>by kernel_rfl
noncomputable abbrev afu:bz:=[(193,FQ),(230,PP)]
theorem af5:a9 aa (bo az afu):=bB ⟨NK,ac9,⟨⟩⟩
abbrev i195:Shape:=⟨[bk 0],[],11⟩
abbrev Ol:Shape:=⟨[bk 2],[],11⟩
noncomputable def f195(a:i195.H):Option Ol.H:=
(f193 ((a.1.1,()),())).bind fun b=>
 bif(!b.2.1.1) then
 some ((([]:ak),()),())
else
(f230 ((a.1.1,(47:Int),()),())).bind fun c=>
(dA a.1.1 (0:Int) (gz c.1.1 (0:Int))).bind fun d=>
 some ((d,()),())
noncomputable def PY:a0:=a' az Tryz.f195 i195 Ol [] f195
theorem adk:a4 aa 195 PY:=bb af5 Tryz.func195 (by kernel_rfl) aw (fun y=>by kernel_rfl) fun a=>by kernel_rfl
noncomputable abbrev afs:bz:=[(157,FW)]
theorem af3:a9 aa (bo az afs):=bB ⟨NQ,⟨⟩⟩
abbrev i211:Shape:=⟨[aX 0 .entry,bk 1],[],26⟩
abbrev Oj:Shape:=⟨[a3 4],[],26⟩
noncomputable def f211(a:i211.H):Option Oj.H:=
(f157 ((a.1.1,a.1.2.1,()),())).bind fun b=>
 bif(!(a.1.2.1==([]:ak))) then
 bif b.1.2.1 then
(bg a.1.1 b.1.1).bind fun c=>
 some (((c.kind==(1:Int)),()),())
else
 some ((false,()),())
else
 some ((true,()),())
noncomputable def PW:a0:=a' az Tryz.f211 i211 Oj [] f211
theorem adi:a4 aa 211 PW:=bb af3 Tryz.func211 (by kernel_rfl) aw (fun y=>by kernel_rfl) fun a=>by kernel_rfl
abbrev xu:Shape:=⟨[bk 0,ah 3],[],18⟩
abbrev CI:List be:=[(.ret,⟨[bk 2],[],18⟩),(.exit 0,⟨[],[],18⟩)]
noncomputable def Dw(y:xu.H):cA xu CI:=
 bif(decide (y.1.2.1>=(0:Int))) then
(bg y.1.1 y.1.2.1).bind fun a=>
 bif((a.toNat:Int)==(47:Int)) then
(dA y.1.1 (0:Int) y.1.2.1).bind fun b=>
 some (.inr (.inl ((b,()),())))
else
 some (.inl ((y.1.1,(IntKind.i64.wrap (y.1.2.1-(1:Int))),()),()))
else
 some (.inr (.inr ((),())))
noncomputable def De:xu.H->Option (aR CI):=bK Dw
theorem _s:bl aa (aH (codeOf Tryz.f212) 1 26) (bC xu CI De):=cB g0 (by kernel_rfl) aw fun y=>by kernel_rfl
abbrev i212:Shape:=⟨[bk 0],[],18⟩
abbrev Oi:Shape:=⟨[bk 2],[],18⟩
noncomputable def f212(a:i212.H):Option Oi.H:=
(De ((a.1.1,(IntKind.i64.wrap ((a.1.1.length:Int)-(1:Int))),()),())).bind fun b=>
(match b with
|.inl c=>
 some ((c.1.1,()),())
|.inr d=>
 some ((([]:ak),()),()))
noncomputable def PV:a0:=a' az Tryz.f212 i212 Oi [] f212
theorem adh:a4 aa 212 PV:=bb g0 Tryz.func212 (by kernel_rfl) (bG _s aw) (fun y=>by kernel_rfl) fun a=>by kernel_rfl
noncomputable abbrev ajN:bz:=[(138,MO)]
theorem akn:a9 aa (bo az ajN):=bB ⟨aay,⟨⟩⟩
abbrev i87:Shape:=⟨[aX 0 .entry,bk 1],[],12⟩
abbrev Q8:Shape:=⟨[ah 4,a3 5],[],12⟩
noncomputable def f87(a:i87.H):Option Q8.H:=
(y5 ((a.1.1,(a.1.2.1,(0:Int),(0:Int),([]:ak),()),(),()),())).bind fun b=>
 some ((b.1.1,b.1.2.1,()),())
noncomputable def Hl:a0:=a' az Tryz.f87 i87 Q8 [] f87
theorem QL:a4 aa 87 Hl:=bb akn Tryz.func87 (by kernel_rfl) aw (fun y=>by kernel_rfl) fun a=>by kernel_rfl
theorem pq:∀a:ak,Op.bytesLess a a=false:=by
 intro a;induction a with
 |nil=>rfl
 |cons b r ih=>simp[Op.bytesLess,ih]
theorem tw:∀a b c:ak,Op.bytesLess a b=true->Op.bytesLess b c=true->Op.bytesLess a c=true:=by
 intro a;induction a with
 |nil=>intro b c h1 h2;cases c with
  |nil=>cases b<;>simp[Op.bytesLess] at h2
  |cons z c=>rfl
 |cons x a ih=>
  intro b c h1 h2;cases b with
  |nil=>simp[Op.bytesLess] at h1
  |cons y b=>
   cases c with
   |nil=>simp[Op.bytesLess] at h2
   |cons z c=>
    simp only[Op.bytesLess,Bool.or_eq_true,decide_eq_true_eq,Bool.and_eq_true,beq_iff_eq] at h1 h2 ⊢;rcases h1 with h1|⟨rfl,h1⟩
    ·rcases h2 with h2|⟨rfl,h2⟩
     ·exact .inl (UInt8.lt_trans h1 h2)
     ·exact .inl h1
    ·rcases h2 with h2|⟨rfl,h2⟩
     ·exact .inl h2
     ·exact .inr ⟨rfl,ih b c h1 h2⟩
theorem abx:∀a b:ak,Op.bytesLess a b=false->(a==b)=false->Op.bytesLess b a=true:=by
 intro a;induction a with
 |nil=>intro b h1 h2;cases b with
  |nil=>simp at h2
  |cons y b=>simp[Op.bytesLess] at h1
 |cons x a ih=>
  intro b h1 h2;cases b with
  |nil=>rfl
  |cons y b=>
   simp only[Op.bytesLess,Bool.or_eq_false_iff,decide_eq_false_iff_not,Bool.and_eq_false_iff,beq_eq_false_iff_ne,ne_eq] at h1;simp only[Op.bytesLess,Bool.or_eq_true,decide_eq_true_eq,Bool.and_eq_true,beq_iff_eq];by_cases Gs:x=y
   ·subst Gs;refine .inr ⟨rfl,ih b ?_ ?_⟩
    ·rcases h1.2 with h|h
     ·exact absurd rfl h
     ·exact h
    ·cases h:(a==b) with
     |false=>rfl
     |true=>rw[eq_of_beq h] at h2;simp at h2
   ·exact .inl (by
     have:=h1.1;rcases UInt8.lt_or_lt_of_ne (fun h=>Gs h) with h|h
     ·exact absurd h this
     ·exact h)
theorem aaj{a b:ak}(h:Op.bytesLess a b=true):Op.bytesLess b a=false:=by
 cases h2:Op.bytesLess b a with
 |false=>rfl
 |true=>have:=tw a b a h h2;rw[pq] at this;cases this
theorem Ny{a b:ak}(h:Op.bytesLess a b=true):(a==b)=false:=by
 cases h2:(a==b) with
 |false=>rfl
 |true=>rw[eq_of_beq h2,pq] at h;cases h
theorem aai:∀(s:ak) (i:Nat),i<s.length->Op.bytesLess (s.take i) s=true:=by
 intro s;induction s with
 |nil=>intro i h;simp at h
 |cons b r ih=>
  intro i h;cases i with
  |zero=>rfl
  |succ i=>simp only[List.take_succ_cons,Op.bytesLess];simp[ih i (by simpa using h)]
def kG(c:UInt8)(s:ak):Nat->Option Nat
 |0=>none
 |n+1=>match s[n]? with
  |some b=>bif(b.toNat:Int)==(c.toNat:Int) then some n else kG c s n
  |none=>none
theorem Iw{c:UInt8}{s:ak}:∀{n i:Nat},kG c s n=some i->i<n/\i<s.length:=by
 intro n;induction n with
 |zero=>intro i h;cases h
 |succ n ih=>
  intro i h;simp only[kG] at h;split at h
  ·rename_i b hb;cases hc:((b.toNat:Int)==(c.toNat:Int)) with
   |true=>rw[hc] at h;cases h;exact⟨Nat.lt_succ_self _,ca hb⟩
   |false=>rw[hc] at h;have:=ih h;omega
  ·cases h
def iA(s:ak):ak:=match kG 47 s s.length with
 |some i=>s.take i
 |none=>[]
theorem YR{s:ak}(h:(iA s==[])=false):Op.bytesLess (iA s) s=true:=by
 unfold iA at h ⊢;split
 ·rename_i i hi;exact aai s i (Iw hi).2
 ·rename_i hi;rw[hi] at h;cases h
theorem aaH(a)(M:cg a.1.1.length):f212 a=some ((iA a.1.1,()),()):=by
 obtain⟨⟨s,u⟩,bx⟩:=a;have M:s.length<=2097152:=M;have key:∀n,n<=s.length->De ((s,((n:Int)-1,())),())=some (match kG 47 s n with|some i=>.inl ((s.take i,()),())|none=>.inr ((),())):=by
  intro n;induction n with
  |zero=>intro _;exact eO (by rfl)
  |succ n ih=>
   intro hn;have e:((n+1:Nat):Int)-1=(n:Int):=by omega
   obtain⟨b,hb⟩:∃b,s[n]? =some b:=⟨s[n],List.getElem?_eq_getElem hn⟩;have h0:decide ((n:Int)>=0)=true:=by simp
   rw[e];simp only[kG,hb];cases hc:((b.toNat:Int)==((47:UInt8).toNat:Int)) with
   |true=>
    refine eO ?_
    simp only[Dw,h0,cond_true,bZ,hb,Option.bind_some];rw[show((b.toNat:Int)==47)=true from hc,qS (by omega)]
    rfl
   |false=>
    refine(hD ?_).trans (ih (by omega))
    simp only[Dw,h0,cond_true,bZ,hb,Option.bind_some];rw[show((b.toNat:Int)==47)=false from hc,ei (by omega) (by omega)]
    rfl
 have hw:IntKind.i64.wrap ((s.length:Int)-1)=(s.length:Int)-1:=ei (by omega) (by omega)
 simp only[f212,hw,key s.length (Nat.le_refl _),Option.bind_some,iA];cases kG 47 s s.length<;>rfl
theorem Vc(a)(M:cg a.1.1.length)(ai5:a.1.2.1=47):f268 a=some (((match kG 47 a.1.1 a.1.1.length with|some i=>(i:Int)|none=>-1),()),()):=by
 obtain⟨⟨s,c,u⟩,bx⟩:=a;obtain rfl:c=47:=ai5;have M:s.length<=2097152:=M;have key:∀n,n<=s.length->C_ ((s,((47:Int),((n:Int)-1,()))),())=some (match kG 47 s n with|some i=>.inl (((i:Int),()),())|none=>.inr ((),())):=by
  intro n;induction n with
  |zero=>intro _;exact eO (by rfl)
  |succ n ih=>
   intro hn;have e:((n+1:Nat):Int)-1=(n:Int):=by omega
   obtain⟨b,hb⟩:∃b,s[n]? =some b:=⟨s[n],List.getElem?_eq_getElem hn⟩;have h0:decide ((n:Int)>=0)=true:=by simp
   rw[e];simp only[kG,hb];cases hc:((b.toNat:Int)==((47:UInt8).toNat:Int)) with
   |true=>
    refine eO ?_
    simp only[Du,h0,cond_true,bZ,hb,Option.bind_some];rw[show((b.toNat:Int)==47)=true from hc]
    rfl
   |false=>
    refine(hD ?_).trans (ih (by omega))
    simp only[Du,h0,cond_true,bZ,hb,Option.bind_some];rw[show((b.toNat:Int)==47)=false from hc,ei (by omega) (by omega)]
    rfl
 have hw:IntKind.i64.wrap ((s.length:Int)-1)=(s.length:Int)-1:=ei (by omega) (by omega)
 simp only[f268,hw,key s.length (Nat.le_refl _),Option.bind_some];cases kG 47 s s.length<;>rfl
theorem YN(a)(M:cg a.1.1.length):f195 a=some (((bif im a.1.1 then iA a.1.1 else []),()),()):=by
 obtain⟨⟨s,u⟩,bx⟩:=a;have M:s.length<=2097152:=M;have e1:=BY ((s,()),()) M;have e2:=Vc ((s,((47:Int),())),()) M rfl;simp only[f195,e1,Option.bind_some,f230,e2];cases im s with
 |false=>rfl
 |true=>
  simp only[Bool.not_true,cond_false,cond_true];unfold iA;cases hl:kG 47 s s.length with
  |none=>
   have:gz (-1) 0=0:=by decide
   simp only[this];have:=qS (xs:=s) (b:=0) (Nat.zero_le _);have this:dA s 0 0=some (s.take 0):=this;rw[this];rfl
  |some i=>
   have hi:=(Iw hl).2;have:gz (i:Int) 0=(i:Int):=by unfold gz;rw[if_neg (by omega)]
   simp only[this];rw[qS (by omega)];rfl
def bQ(t:List aZ)(p:ak):Nat:=(t.takeWhile fun e=>Op.bytesLess e.path p).length
def ju(t:List aZ)(p:ak):Bool:=match t[bQ t p]? with
 |some e=>e.path==p
 |none=>false
def j2(t:List aZ)(p:ak):Bool:=p==[]||match t[bQ t p]? with
 |some e=>e.path==p&&e.kind==1
 |none=>false
theorem qU(t:List aZ)(p:ak):bQ t p<=t.length:=(List.takeWhile_prefix _).length_le
theorem LN(a)(M:cg a.1.1.length):f157 a=some (((bQ a.1.1 a.1.2.1:Int),(ju a.1.1 a.1.2.1,())),()):=by
 obtain⟨⟨t,p,u⟩,bx⟩:=a;have M:t.length<=2097152:=M;have key:Dk ((t,(p,((0:Int),(false,((0:Int),()))))),())=_:=BC x_ t (fun i (_:Unit)=>((t,(p,((0:Int),(false,((i:Int),()))))),()))
  (fun i e _=>some (bif Op.bytesLess e.path p then .inl () else .inr ((((t,(p,((0:Int),(false,((i:Int),()))))),())):aR qR))) (fun _=>((t,(p,((0:Int),(false,((t.length:Int),()))))),())) (fun i e s he=>?_) (fun s=>?_) ()
 ·have fold:∀(r:List aZ) (k:Nat),k+r.length=t.length->eB (fun i (e:aZ) (_:Unit)=>some (bif Op.bytesLess e.path p then .inl () else .inr ((((t,(p,((0:Int),(false,((i:Int),()))))),())):aR qR))) (fun _=>(((t,(p,((0:Int),(false,((t.length:Int),()))))),()):aR qR)) k r ()=
    some ((t,(p,((0:Int),(false,(((k+(r.takeWhile fun e=>Op.bytesLess e.path p).length:Nat):Int),()))))),()):=by
   intro r;induction r with
   |nil=>intro k ag;simp only[eB,List.takeWhile_nil,List.length_nil,Nat.add_zero] at ag ⊢;rw[ag]
   |cons e r ih=>
    intro k ag;simp only[eB,List.takeWhile_cons];cases hl:Op.bytesLess e.path p with
    |false=>rfl
    |true=>
     simp only[cond_true,if_true,List.length_cons];rw[ih (k+1) (by simp only[List.length_cons] at ag;omega)]
     have:k+1+(r.takeWhile fun e=>Op.bytesLess e.path p).length=k+((r.takeWhile fun e=>Op.bytesLess e.path p).length+1):=by omega
     rw[this]
  rw[fold t 0 (Nat.zero_add _),Nat.zero_add] at key;have ag:(t.takeWhile fun e=>Op.bytesLess e.path p).length=bQ t p:=rfl
  rw[ag] at key;simp only[f157,key,Option.bind_some,ju,bZ];cases aC:t[bQ t p]? with
  |none=>
   have:=List.getElem?_eq_none_iff.1 aC;have:decide ((bQ t p:Int)<(t.length:Int))=false:=by simp only[decide_eq_false_iff_not];omega
   rw[this];rfl
  |some e=>rw[ce (ca aC)];rfl
 ·have hi:=ca he;have hw:aD i:=by unfold aD;omega
  simp only[x_,ce hi,cond_true,bZ,he,Option.bind_some,b_ hw];cases Op.bytesLess e.path p<;>rfl
 ·simp only[x_,cX,cond_false]
theorem Z8(a)(M:cg a.1.1.length):f211 a=some ((j2 a.1.1 a.1.2.1,()),()):=by
 obtain⟨⟨t,p,u⟩,bx⟩:=a;have e1:=LN ((t,(p,())),()) M;simp only[f211,e1,Option.bind_some,j2,ju,bZ];cases (p==[]) with
 |true=>rfl
 |false=>
  cases aC:t[bQ t p]? with
  |none=>rfl
  |some e=>simp only[Bool.not_false,cond_true,Option.bind_some,Bool.false_or];cases (e.path==p)<;>rfl
def e7(t:List aZ):Prop:=t.Pairwise fun a b=>Op.bytesLess a.path b.path=true
theorem e7.take{t:List aZ}(h:e7 t)(i:Nat):e7 (t.take i):=List.Pairwise.sublist (List.take_sublist i t) h
theorem jp:∀{t:List aZ} {p:ak},e7 t->∀(h:Nat) (e:aZ),t[h]? =some e->Op.bytesLess e.path p=decide (h<bQ t p):=by
 intro t p;induction t with
 |nil=>intro _ h e he;simp at he
 |cons x t ih=>
  intro a5 h e he;have nO:=List.pairwise_cons.1 a5;unfold bQ;rw[List.takeWhile_cons];cases hx:Op.bytesLess x.path p with
  |true=>
   simp only[if_true,List.length_cons];cases h with
   |zero=>simp only[List.getElem?_cons_zero,Option.some.injEq] at he;subst he;rw[hx];simp
   |succ h=>
    simp only[List.getElem?_cons_succ] at he;rw[ih nO.2 h e he];unfold bQ;congr 1;apply propext;omega
  |false=>
   have:(decide (h<(if false=true then x::t.takeWhile (fun e=>Op.bytesLess e.path p) else []).length))=false:=by simp
   rw[this];cases h with
   |zero=>simp only[List.getElem?_cons_zero,Option.some.injEq] at he;subst he;exact hx
   |succ h=>
    simp only[List.getElem?_cons_succ] at he;have h2:=nO.1 e (List.mem_of_getElem? he);cases Z:Op.bytesLess e.path p with
    |false=>rfl
    |true=>have:=tw _ _ _ h2 Z;rw[hx] at this;cases this
def oG(a b:ak):Int:=bif Op.bytesLess a b then-1 else bif a==b then 0 else 1
theorem BX(a):f139 a=some ((oG a.1.1.1 a.1.2.1.1,()),()):=by
 obtain⟨⟨⟨p,ql⟩,⟨⟨q,jL⟩,k7⟩⟩,Tp⟩:=a;have h1:(p==p)=true:=by simp
 have h2:(q==q)=true:=by simp
 simp only[f139,f110,f175,Option.bind_some,h1,h2,Bool.not_true,cond_false,oG];cases Op.bytesLess p q<;>cases (p==q)<;>rfl
theorem xg(a b:ak):decide (oG a b<0)=Op.bytesLess a b:=by
 unfold oG;cases Op.bytesLess a b<;>cases (a==b)<;>rfl
theorem J9(a b:ak):(oG a b==0)=(a==b):=by
 unfold oG;cases h:Op.bytesLess a b with
 |true=>rw[Ny h];rfl
 |false=>cases (a==b)<;>rfl
theorem NZ{n:Nat}(h:n<=1099511627776):ns .u64 (IntKind.u64.wrap (IntKind.i64.wrap (n:Int))) 1=some (((n/2:Nat)):Int):=by
 rw[ei (by omega) (by omega)]
 have:IntKind.u64.wrap (n:Int)=(n:Int):=by
  simp[IntKind.wrap,IntKind.bits,IntKind.signed];omega
 rw[this];unfold ns;rw[if_neg (by decide)]
 congr 1
 show Int.fdiv (n:Int) 2=_;rw[Int.fdiv_eq_ediv_of_nonneg _ (by decide)]
 omega
theorem IB(a)(M:cg a.1.1.length)(a5:e7 a.1.1):f87 a=some (((bQ a.1.1 a.1.2.1:Int),(ju a.1.1 a.1.2.1,())),()):=by
 obtain⟨⟨t,p,u⟩,bx⟩:=a;have M:t.length<=2097152:=M;have HM:=qU t p;have key:∀d i j:Nat,j-i=d->i<=bQ t p->bQ t p<=j->j<=t.length->
   wL ((t,((),((),((0:Int),(false,((t.length:Int),((i:Int),((j:Int),())))))))),((p,((0:Int),((0:Int),(([]:ak),())))),()))=
    some (((t,((),((),((0:Int),(false,((t.length:Int),((bQ t p:Int),()))))))),((p,((0:Int),((0:Int),(([]:ak),())))),()))):=by
  intro d;induction d using Nat.strongRecOn with
  |_ d ih=>
   intro i j Y hi hj hl;by_cases hij:i<j
   ·have bU:(i+j)/2<t.length:=by omega
    obtain⟨e,he⟩:∃e,t[(i+j)/2]? =some e:=⟨t[(i+j)/2],List.getElem?_eq_getElem bU⟩;have vj:ns .u64 (IntKind.u64.wrap (IntKind.i64.wrap ((i:Int)+(j:Int)))) 1=some ((((i+j)/2:Nat)):Int):=by
     rw[<-NZ (n:=i+j) (by omega)];rw[Int.natCast_add]
    have u_:IntKind.i64.wrap (((i+j)/2:Nat):Int)=(((i+j)/2:Nat):Int):=ei (by omega) (by omega)
    have kc:=jp (t:=t) (p:=p) a5 ((i+j)/2) e he;cases hb:Op.bytesLess e.path p with
    |true=>
     rw[hb] at kc;have aW:(i+j)/2<bQ t p:=by simpa using kc.symm
     refine(hD ?_).trans (ih (j-((i+j)/2+1)) (by omega) ((i+j)/2+1) j rfl (by omega) hj hl)
     simp only[wP,ce hij,cond_true,vj,u_,bZ,he,Option.bind_some,BX,xg,hb,b_ (i:=(i+j)/2) (by unfold aD;omega)]
    |false=>
     rw[hb] at kc;have oP:¬(i+j)/2<bQ t p:=by simpa using kc.symm
     refine(hD ?_).trans (ih ((i+j)/2-i) (by omega) i ((i+j)/2) rfl hi (by omega) (by omega))
     simp only[wP,ce hij,cond_true,vj,u_,bZ,he,Option.bind_some,BX,xg,hb,cond_false]
   ·have hS:i=bQ t p:=by omega
    have aW:decide ((i:Int)<(j:Int))=false:=by simp only[decide_eq_false_iff_not];omega
    refine eO ?_
    simp only[wP,aW,cond_false];rw[hS]
 have mS:wL ((t,((),((),((0:Int),(false,((t.length:Int),((0:Int),((t.length:Int),())))))))),((p,((0:Int),((0:Int),(([]:ak),())))),()))=_:=key t.length 0 t.length (Nat.sub_zero _) (Nat.zero_le _) HM (Nat.le_refl _);have J:y5 ((t,((p,((0:Int),((0:Int),(([]:ak),())))),((),()))),())=some (((bQ t p:Int),(ju t p,())),()):=by
  simp only[y5,mS,Option.bind_some,ju,bZ,BX,J9];cases aC:t[bQ t p]? with
  |none=>
   have:=List.getElem?_eq_none_iff.1 aC;have:decide ((bQ t p:Int)<(t.length:Int))=false:=by simp only[decide_eq_false_iff_not];omega
   rw[this];rfl
  |some e=>rw[ce (ca aC)];rfl
 simp only[f87,J,Option.bind_some]
noncomputable abbrev afH:bz:=[(87,Hl),(195,PY)]
theorem aga:a9 aa (bo az afH):=bB ⟨QL,adk,⟨⟩⟩
abbrev i137:Shape:=⟨[aX 0 .entry,bk 1],[],27⟩
abbrev OF:Shape:=⟨[a3 4],[],27⟩
noncomputable def f137(a:i137.H):Option OF.H:=
(f195 ((a.1.2.1,()),())).bind fun b=>
 bif(b.1.1==([]:ak)) then
 some ((true,()),())
else
(f87 ((a.1.1,b.1.1,()),())).bind fun c=>
 bif c.1.2.1 then
(bg a.1.1 c.1.1).bind fun d=>
 some (((d.kind==(1:Int)),()),())
else
 some ((false,()),())
noncomputable def Qa:a0:=a' az Tryz.f137 i137 OF [] f137
theorem ady:a4 aa 137 Qa:=bb aga Tryz.func137 (by kernel_rfl) aw (fun y=>by kernel_rfl) fun a=>by kernel_rfl
noncomputable abbrev afE:bz:=[(210,PX),(211,PW),(212,PV)]
theorem zX:a9 aa (bo az afE):=bB ⟨adj,adi,adh,⟨⟩⟩
abbrev KJ:Shape:=⟨[aX 0 .entry,ah 3],[],53⟩
abbrev Kx:List be:=[(.norm,⟨[aX 0 .entry,ah 3,aX 11 .entry,ah 12,(13,.ai (.ee [.str,.int .i64,.int .i64,.str] 0)),c5 14 [bD,cM,cM,bD],a3 15,a3 16,a3 17,a3 34],[],53⟩)]
noncomputable def Cp(y:KJ.H):Option (aR Kx):=
(bg y.1.1 y.1.2.1).bind fun a=>
(f210 (((a.path,a.kind,a.mode,a.text,()),()),())).bind fun b=>
 bif(!b.1.1) then
 some ((y.1.1,y.1.2.1,y.1.1,y.1.2.1,(a.path,a.kind,a.mode,a.text,()),(a.path,a.kind,a.mode,a.text,()),b.1.1,(!b.1.1),true,true,()),())
else
 bif(decide (y.1.2.1>(0:Int))) then
(bg y.1.1 (IntKind.i64.wrap (y.1.2.1-(1:Int)))).bind fun c=>
(bg y.1.1 y.1.2.1).bind fun d=>
 some ((y.1.1,y.1.2.1,y.1.1,y.1.2.1,(a.path,a.kind,a.mode,a.text,()),(a.path,a.kind,a.mode,a.text,()),b.1.1,(!b.1.1),false,(!(Op.bytesLess c.path d.path)),()),())
else
 some ((y.1.1,y.1.2.1,y.1.1,y.1.2.1,(a.path,a.kind,a.mode,a.text,()),(a.path,a.kind,a.mode,a.text,()),b.1.1,(!b.1.1),false,false,()),())
theorem Zj:bl aa (aH (dz (aH (codeOf Tryz.f158) 1 26)) 52 840) (bC KJ Kx Cp):=eh zX (by kernel_rfl) aw fun y=>by kernel_rfl
abbrev xD:Shape:=⟨[aX 0 .entry,ah 3],[],53⟩
abbrev CQ:List be:=[(.ret,⟨[a3 2],[],53⟩),(.exit 0,⟨[aX 0 .entry],[],53⟩)]
noncomputable def x9(y:xD.H):cA xD CQ:=
 bif(decide (y.1.2.1<(y.1.1.length:Int))) then
(Cp ((y.1.1,y.1.2.1,()),())).bind fun a=>
 bif a.1.2.2.2.2.2.2.2.2.2.1 then
 some (.inr (.inl ((false,()),())))
else
 some (.inl ((a.1.1,(IntKind.i64.wrap (a.1.2.1+(1:Int))),()),()))
else
 some (.inr (.inr ((y.1.1,()),())))
noncomputable def Dj:xD.H->Option (aR CQ):=bK x9
theorem _B:bl aa (aH (codeOf Tryz.f158) 1 26) (bC xD CQ Dj):=cB zX (by kernel_rfl) (bG Zj aw) fun y=>by kernel_rfl
abbrev xC:Shape:=⟨[aX 0 .entry,ah 4],[],53⟩
abbrev CP:List be:=[(.ret,⟨[a3 2],[],53⟩),(.exit 2,⟨[aX 0 .entry],[],53⟩)]
noncomputable def x8(y:xC.H):cA xC CP:=
 bif(decide (y.1.2.1<(y.1.1.length:Int))) then
(bg y.1.1 y.1.2.1).bind fun a=>
(f212 ((a.path,()),())).bind fun b=>
(f211 ((y.1.1,b.1.1,()),())).bind fun c=>
 bif(!c.1.1) then
 some (.inr (.inl ((false,()),())))
else
 some (.inl ((y.1.1,(IntKind.i64.wrap (y.1.2.1+(1:Int))),()),()))
else
 some (.inr (.inr ((y.1.1,()),())))
noncomputable def Di:xC.H->Option (aR CP):=bK x8
theorem _A:bl aa (aH (codeOf Tryz.f158) 1 58) (bC xC CP Di):=cB zX (by kernel_rfl) aw fun y=>by kernel_rfl
abbrev i158:Shape:=⟨[aX 0 .entry],[],53⟩
abbrev Oy:Shape:=⟨[a3 2],[],53⟩
noncomputable def f158(a:i158.H):Option Oy.H:=
(Dj ((a.1.1,(0:Int),()),())).bind fun b=>
(match b with
|.inl c=>
 some ((c.1.1,()),())
|.inr d=>
(Di ((d.1.1,(0:Int),()),())).bind fun e=>
(match e with
|.inl f=>
 some ((f.1.1,()),())
|.inr g=>
 some (((decide ((g.1.1.length:Int)<=(16:Int))),()),())))
noncomputable def FV:a0:=a' az Tryz.f158 i158 Oy [] f158
theorem NP:a4 aa 158 FV:=bb zX Tryz.func158 (by kernel_rfl) (bG _B (bG _A aw)) (fun y=>by kernel_rfl) fun a=>by kernel_rfl
noncomputable abbrev ajO:bz:=[(136,Qb),(137,Qa)]
theorem Hr:a9 aa (bo az ajO):=bB ⟨adz,ady,⟨⟩⟩
abbrev KD:Shape:=⟨[aX 0 .entry,ah 3,b7 4 4 0,aX 8 .entry,ah 9,ah 10],[b6 4 [bD,cM,cM,bD]],43⟩
abbrev Kr:List be:=[(.norm,⟨[aX 0 .entry,aX 8 .entry,ah 9,ah 10,c5 15 [bD,cM,cM,bD],a3 16,a3 17,a3 18,a3 32,a3 33,a3 41],[],43⟩)]
noncomputable def Ck(y:KD.H):Option (aR Kr):=
(f136 (((y.2.1.1,y.2.1.2.1,y.2.1.2.2.1,y.2.1.2.2.2.1,()),()),())).bind fun a=>
 bif(!a.1.1) then
 some ((y.1.1,y.1.2.2.2.1,y.1.2.2.2.2.1,y.1.2.2.2.2.2.1,(y.2.1.1,y.2.1.2.1,y.2.1.2.2.1,y.2.1.2.2.2.1,()),a.1.1,(!a.1.1),true,true,true,true,()),())
else
 bif(decide (y.1.2.1>(0:Int))) then
(bg y.1.1 (IntKind.i64.wrap (y.1.2.1-(1:Int)))).bind fun b=>
 bif(!(Op.bytesLess b.path y.2.1.1)) then
 some ((y.1.1,y.1.2.2.2.1,y.1.2.2.2.2.1,y.1.2.2.2.2.2.1,(y.2.1.1,y.2.1.2.1,y.2.1.2.2.1,y.2.1.2.2.2.1,()),a.1.1,(!a.1.1),false,(!(Op.bytesLess b.path y.2.1.1)),true,true,()),())
else
(dA y.1.1 (0:Int) y.1.2.1).bind fun c=>
(f137 ((c,y.2.1.1,()),())).bind fun d=>
 some ((y.1.1,y.1.2.2.2.1,y.1.2.2.2.2.1,y.1.2.2.2.2.2.1,(y.2.1.1,y.2.1.2.1,y.2.1.2.2.1,y.2.1.2.2.2.1,()),a.1.1,(!a.1.1),false,(!(Op.bytesLess b.path y.2.1.1)),false,(!d.1.1),()),())
else
(dA y.1.1 (0:Int) y.1.2.1).bind fun e=>
(f137 ((e,y.2.1.1,()),())).bind fun f=>
 some ((y.1.1,y.1.2.2.2.1,y.1.2.2.2.2.1,y.1.2.2.2.2.2.1,(y.2.1.1,y.2.1.2.1,y.2.1.2.2.1,y.2.1.2.2.2.1,()),a.1.1,(!a.1.1),false,false,false,(!f.1.1),()),())
theorem Y':bl aa (aH (dz (aH (codeOf Tryz.f86) 1 58)) 116 7474) (bC KD Kr Ck):=eh Hr (by kernel_rfl) aw fun y=>by kernel_rfl
abbrev yt:Shape:=⟨[aX 0 .entry,aX 8 .entry,ah 9,ah 10],[],43⟩
abbrev tQ:List be:=[(.ret,⟨[a3 2],[],43⟩),(.exit 0,⟨[],[],43⟩)]
noncomputable def yQ(y:yt.H):cA yt tQ:=
 bif(decide (y.1.2.2.2.1<y.1.2.2.1)) then
(bg y.1.2.1 y.1.2.2.2.1).bind fun a=>
(Ck ((y.1.1,y.1.2.2.2.1,(),y.1.2.1,y.1.2.2.1,y.1.2.2.2.1,()),(a.path,a.kind,a.mode,a.text,()),())).bind fun b=>
 bif b.1.2.2.2.2.2.2.2.2.2.2.1 then
 some (.inr (.inl ((false,()),())))
else
 some (.inl ((b.1.1,b.1.2.1,b.1.2.2.1,(IntKind.i64.wrap (b.1.2.2.2.1+(1:Int))),()),()))
else
 some (.inr (.inr ((),())))
noncomputable def D7:yt.H->Option (aR tQ):=bK yQ
theorem aaQ:bl aa (aH (codeOf Tryz.f86) 1 58) (bC yt tQ D7):=cB Hr (by kernel_rfl) (bG Y' aw) fun y=>by kernel_rfl
abbrev i86:Shape:=⟨[aX 0 .entry],[],43⟩
abbrev Q9:Shape:=⟨[a3 2],[],43⟩
noncomputable def f86(a:i86.H):Option Q9.H:=
 bif(decide ((a.1.1.length:Int)>(16:Int))) then
 some ((false,()),())
else
(D7 ((a.1.1,a.1.1,(a.1.1.length:Int),(0:Int),()),())).bind fun b=>
(match b with
|.inl c=>
 some ((c.1.1,()),())
|.inr d=>
 some ((true,()),()))
noncomputable def Hm:a0:=a' az Tryz.f86 i86 Q9 [] f86
theorem QM:a4 aa 86 Hm:=bb Hr Tryz.func86 (by kernel_rfl) (bG aaQ aw) (fun y=>by kernel_rfl) fun a=>by kernel_rfl
theorem VP{aE:Type}{ok lE:Nat->aE->Bool}:∀(xs:List aE) (j:Nat),(∀i x,xs[i]? =some x->ok (j+i) x=lE (j+i) x)->allI ok j xs=allI lE j xs:=by
 intro xs;induction xs with
 |nil=>intro j _;rfl
 |cons x r ih=>
  intro j h;simp only[allI];rw[show ok j x=lE j x from h 0 x rfl,ih (j+1) (fun i y aj=>by have:=h (i+1) y (by simpa using aj);rw[show j+(i+1)=j+1+i by omega] at this;exact this)]
theorem Cw{aE:Type}{ok:Nat->aE->Bool}:∀(xs:List aE) (j:Nat),allI ok j xs=true->∀i x,xs[i]? =some x->ok (j+i) x=true:=by
 intro xs;induction xs with
 |nil=>intro j _ i x h;simp at h
 |cons y r ih=>
  intro j h i x hx;simp only[allI,Bool.and_eq_true] at h;cases i with
  |zero=>simp only[List.getElem?_cons_zero,Option.some.injEq] at hx;subst hx;exact h.1
  |succ i=>have:=ih (j+1) h.2 i x (by simpa using hx);rwa[show j+1+i=j+(i+1) by omega] at this
abbrev lD(t:List aZ):Prop:=cg t.length/\∀e,e∈t->mN e
def tU(t:List aZ)(i:Nat)(e:aZ):Bool:=i==0||match t[i-1]? with
 |some q=>Op.bytesLess q.path e.path
 |none=>false
def it(t:List aZ)(i:Nat)(e:aZ):Bool:=ou e&&tU t i e
def eA(t:List aZ):Bool:=allI (it t) 0 t&&t.all (fun e=>j2 t (iA e.path))&&decide (t.length<=16)
theorem zS(i:Nat):decide ((i:Int)>0)=!(i==0):=by
 cases i with
 |zero=>rfl
 |succ i=>simp
theorem Ki(a)(M:lD a.1.1):f158 a=some ((eA a.1.1,()),()):=by
 obtain⟨⟨t,u⟩,bx⟩:=a;obtain⟨hl,he⟩:=M;have hl:t.length<=2097152:=hl;have key:Dj ((t,((0:Int),())),())=some (bif allI (it t) 0 t then .inr ((t,()),()) else .inl ((false,()),())):=by
  refine fz x9 t (fun i=>((t,((i:Int),())),())) _ _ _ (fun i x hx=>?_) ?_
  ·have hi:=ca hx;have hw:aD i:=by unfold aD;omega
   have hb:=he x (List.mem_of_getElem? hx);simp only[x9,ce hi,cond_true,Cp,bZ,hx,Option.bind_some];rw[Xa _ hb.1 hb.2];simp only[Option.bind_some,it,zS];cases ou x with
   |false=>rfl
   |true=>
    simp only[Bool.not_true,cond_false,Bool.true_and,tU];cases i with
    |zero=>simp only[beq_self_eq_true,Bool.not_true,cond_false,Option.bind_some,Bool.true_or,cond_true,b_ hw]
    |succ i=>
     have h0:(i+1==0)=false:=rfl;have hS:i<t.length:=by omega
     obtain⟨q,aF⟩:∃q,t[i]? =some q:=⟨t[i],List.getElem?_eq_getElem hS⟩;simp only[h0,Bool.not_false,cond_true,ta (i:=i) (by unfold aD;omega),bZ,aF,hx,Option.bind_some,Bool.false_or,Nat.add_sub_cancel]
     cases Op.bytesLess q.path x.path with
     |false=>rfl
     |true=>simp only[Bool.not_true,cond_false,cond_true,b_ hw]
  ·simp only[x9,cX,cond_false]
 have O8:Di ((t,((0:Int),())),())=some (bif allI (fun _ e=>j2 t (iA e.path)) 0 t then .inr ((t,()),()) else .inl ((false,()),())):=by
  refine fz x8 t (fun i=>((t,((i:Int),())),())) _ _ _ (fun i x hx=>?_) ?_
  ·have hi:=ca hx;have hw:aD i:=by unfold aD;omega
   have hb:=he x (List.mem_of_getElem? hx);simp only[x8,ce hi,cond_true,bZ,hx,Option.bind_some];rw[aaH _ hb.1];simp only[Option.bind_some];rw[Z8 _ hl];simp only[Option.bind_some,b_ hw];cases j2 t (iA x.path)<;>rfl
  ·simp only[x8,cX,cond_false]
 rw[gR] at O8;simp only[f158,key,Option.bind_some,eA];cases allI (it t) 0 t with
 |false=>rfl
 |true=>
  simp only[cond_true,O8,Option.bind_some,Bool.true_and];cases List.all t (fun e=>j2 t (iA e.path)) with
  |false=>rfl
  |true=>have:=zH t.length 16;simp only[cond_true,Bool.true_and];rw[<-this];rfl
theorem KZ{t:List aZ}{i:Nat}{e:aZ}(he:t[i]? =some e)(h:e7 (t.take i))(hl:tU t i e=true):e7 (t.take (i+1)):=by
 rw[List.take_add_one,he];unfold e7;refine List.pairwise_append.2 ⟨h,by simp,?_⟩
 intro a a5 b hb;have hb:b=e:=by simpa using hb
 subst hb;obtain⟨k,ag⟩:=List.mem_iff_getElem?.1 a5;have aiy:k<i:=by
  have:=ca ag;rw[List.length_take] at this;omega
 unfold tU at hl;have h0:(i==0)=false:=by simp;omega
 rw[h0,Bool.false_or] at hl;split at hl
 ·rename_i q aF;by_cases k3:k=i-1
  ·have:t[k]? =some a:=by rw[List.getElem?_take,if_pos aiy] at ag;exact ag
   rw[k3,aF] at this;cases this;exact hl
  ·have nJ:(t.take i)[i-1]? =some q:=by rw[List.getElem?_take,if_pos (by omega)];exact aF
   have:=List.pairwise_iff_getElem.1 h k (i-1) (ca ag) (ca nJ) (by omega)
   rw[(List.getElem?_eq_some_iff.1 ag).2,(List.getElem?_eq_some_iff.1 nJ).2] at this;exact tw _ _ _ this hl
 ·cases hl
theorem MG{t:List aZ}(h:allI (it t) 0 t=true):e7 t:=by
 have:∀i,i<=t.length->e7 (t.take i):=by
  intro i;induction i with
  |zero=>intro _;simp[e7]
  |succ i ih=>
   intro hi;have he:t[i]? =some t[i]:=List.getElem?_eq_getElem hi;have:=Cw t 0 h i _ he;rw[Nat.zero_add] at this;simp only[it,Bool.and_eq_true] at this;exact KZ he (ih (by omega)) this.2
 have:=this t.length (Nat.le_refl _);rwa[List.take_length] at this
theorem WJ{t:List aZ}{i:Nat}{e:aZ}{p:ak}(a5:e7 t)(he:t[i]? =some e)(al:Op.bytesLess p e.path=true):j2 (t.take i) p=j2 t p:=by
 have hi:=ca he;have h1:=jp (p:=p) a5 i e he;rw[aaj al] at h1;have c8:bQ t p<=i:=by
  have:¬i<bQ t p:=by simpa using h1.symm
  omega
 have nz:bQ (t.take i) p=bQ t p:=by
  by_cases aW:bQ t p=i
  ·have hlen:(t.take i).length=i:=by rw[List.length_take];omega
   have h2:=qU (t.take i) p;rw[hlen] at h2;by_cases Z:bQ (t.take i) p<i
   ·obtain⟨q,aF⟩:∃q,(t.take i)[bQ (t.take i) p]? =some q:=⟨_,List.getElem?_eq_getElem (by rw[hlen];exact Z)⟩
    have aI:=jp (p:=p) (a5.take i) _ q aF;have nJ:t[bQ (t.take i) p]? =some q:=by rw[List.getElem?_take,if_pos Z] at aF;exact aF
    have bp:=jp (p:=p) a5 _ q nJ;rw[aI] at bp;have:decide (bQ (t.take i) p<bQ (t.take i) p)=false:=by simp
    rw[this] at bp;have:¬bQ (t.take i) p<bQ t p:=by simpa using bp.symm
    omega
   ·omega
  ·have aW:bQ t p<i:=by omega
   obtain⟨q,aF⟩:∃q,t[bQ t p]? =some q:=⟨_,List.getElem?_eq_getElem (by omega)⟩
   have nJ:(t.take i)[bQ t p]? =some q:=by rw[List.getElem?_take,if_pos aW];exact aF
   have aI:=jp (p:=p) a5 _ q aF;have bp:=jp (p:=p) (a5.take i) _ q nJ;have dy:decide (bQ t p<bQ t p)=false:=by simp
   rw[aI,dy] at bp;have db:¬bQ t p<bQ (t.take i) p:=by simpa using bp.symm
   by_cases hy:bQ (t.take i) p<bQ t p
   ·obtain⟨r,hr⟩:∃r,t[bQ (t.take i) p]? =some r:=⟨_,List.getElem?_eq_getElem (by omega)⟩
    have cL:(t.take i)[bQ (t.take i) p]? =some r:=by rw[List.getElem?_take,if_pos (by omega)];exact hr
    have mT:=jp (p:=p) a5 _ r hr;have k_:=jp (p:=p) (a5.take i) _ r cL;have HT:decide (bQ (t.take i) p<bQ (t.take i) p)=false:=by simp
    rw[mT,HT] at k_;have:¬bQ (t.take i) p<bQ t p:=by simpa using k_
    omega
   ·omega
 unfold j2;rw[nz];congr 1
 by_cases aW:bQ t p<i
 ·rw[List.getElem?_take,if_pos aW]
 ·have:bQ t p=i:=by omega
  rw[this,he,List.getElem?_take,if_neg (by omega)]
  have:(e.path==p)=false:=by
   cases h:(e.path==p) with
   |false=>rfl
   |true=>rw[eq_of_beq h,pq] at al;cases al
  simp[this]
def kL(t:List aZ)(p:ak):Bool:=j2 t (bif im p then iA p else [])
theorem Ue(a)(M:cg a.1.1.length)(al:cg a.1.2.1.length)(a5:e7 a.1.1):f137 a=some ((kL a.1.1 a.1.2.1,()),()):=by
 obtain⟨⟨t,p,u⟩,bx⟩:=a;have e1:=YN ((p,()),()) al;have e2:=IB ((t,((bif im p then iA p else []),())),()) M a5
 simp only[f137,e1,e2,Option.bind_some,kL,j2,ju,bZ];generalize(bif im p then iA p else [])=up
 cases (up==[]) with
 |true=>rfl
 |false=>
  cases aC:t[bQ t up]? with
  |none=>rfl
  |some e=>simp only[cond_false,cond_true,Option.bind_some,Bool.false_or];cases (e.path==up)<;>rfl
theorem Xp(t:List aZ):eA t=(decide (t.length<=16)&&allI (fun i e=>it t i e&&kL (t.take i) e.path) 0 t):=by
 unfold eA;rw[Cx];cases h:allI (it t) 0 t with
 |false=>simp
 |true=>
  have a5:=MG h;have:allI (fun i e=>kL (t.take i) e.path) 0 t=t.all (fun e=>j2 t (iA e.path)):=by
   rw[<-gR _ 0 t];refine VP t 0 (fun i e he=>?_)
   rw[Nat.zero_add];have fb:=Cw t 0 h i e he;rw[Nat.zero_add] at fb;have aim:im e.path=true:=by
    unfold it ou at fb;simp only[Bool.and_eq_true] at fb;exact fb.1.1
   unfold kL;rw[aim,cond_true];cases hu:(iA e.path==[]) with
   |true=>unfold j2;rw[hu];rfl
   |false=>exact WJ a5 he (YR hu)
  rw[this];simp only[Bool.true_and];rw[Bool.and_comm]
theorem wx(a)(M:lD a.1.1):f86 a=some ((eA a.1.1,()),()):=by
 obtain⟨⟨t,u⟩,bx⟩:=a;obtain⟨hl,he⟩:=M;have hl:t.length<=2097152:=hl;have key:D7 ((t,(t,((t.length:Int),((0:Int),())))),())=some (bif allI (fun i e=>it t i e&&kL (t.take i) e.path) 0 t then .inr ((),()) else .inl ((false,()),())):=by
  have:=l9 yQ t (fun i (_:Unit)=>((t,(t,((t.length:Int),((i:Int),())))),())) (fun i e _=>some (bif it t i e&&kL (t.take i) e.path then .inl () else .inr ((.inl ((false,()),())):aR tQ))) (fun _=>(.inr ((),()):aR tQ))
   (fun i _=>e7 (t.take i)) () (by simp[e7]) (fun i x _ hx cW=>?_) (fun _ _=>?_)
  ·exact this.trans (A9 (fun i e=>it t i e&&kL (t.take i) e.path) (fun _ s=>s) _ _ t 0 ())
  ·have hi:=ca hx;have hw:aD i:=by unfold aD;omega
   have hb:=he x (List.mem_of_getElem? hx);refine⟨?_,fun am ab=>?_⟩
   ·have k2:=Ue ((t.take i,(x.path,())),()) (show(t.take i).length<=2097152 by rw[List.length_take];omega) hb.1 cW
    simp only[yQ,ce hi,cond_true,bZ,hx,Option.bind_some,Ck];rw[Xh _ hb.1 hb.2];simp only[Option.bind_some,it,zS];cases ou x with
    |false=>rfl
    |true=>
     simp only[Bool.not_true,cond_false,Bool.true_and,tU];cases i with
     |zero=>
      have dw:dA t 0 0=some (t.take 0):=qS (b:=0) (Nat.zero_le _);have dw:dA t 0 ((0:Nat):Int)=some (t.take 0):=dw;simp only[beq_self_eq_true,Bool.not_true,cond_false,dw,Option.bind_some,k2,Bool.true_or,Bool.true_and];cases kL (t.take 0) x.path with
      |false=>rfl
      |true=>simp only[Bool.not_true,cond_false,cond_true,b_ hw];rfl
     |succ i=>
      have h0:(i+1==0)=false:=rfl;have hS:i<t.length:=by omega
      obtain⟨q,aF⟩:∃q,t[i]? =some q:=⟨t[i],List.getElem?_eq_getElem hS⟩;have dw:dA t 0 ((i+1:Nat):Int)=some (t.take (i+1)):=qS (by omega)
      simp only[h0,Bool.not_false,cond_true,ta (i:=i) (by unfold aD;omega),bZ,aF,hx,Option.bind_some,Bool.false_or,Nat.add_sub_cancel]
      cases Op.bytesLess q.path x.path with
      |false=>rfl
      |true=>
       simp only[Bool.not_true,cond_false,cond_true,dw,Option.bind_some,k2,Bool.true_and];cases kL (t.take (i+1)) x.path with
       |false=>rfl
       |true=>simp only[Bool.not_true,cond_false,cond_true,b_ hw];rfl
   ·simp only[Option.some.injEq] at ab;cases aF:(it t i x&&kL (t.take i) x.path) with
    |false=>rw[aF] at ab;cases ab
    |true=>
     simp only[Bool.and_eq_true] at aF;have:=aF.1;simp only[it,Bool.and_eq_true] at this;exact KZ hx cW this.2
  ·simp only[yQ,cX,cond_false]
 have G7:decide ((t.length:Int)>16)=!decide (t.length<=16):=by by_cases h:t.length<=16<;>simp only[h,decide_true,decide_false,Bool.not_true,Bool.not_false,decide_eq_true_eq,decide_eq_false_iff_not]<;>omega
 simp only[f86,G7,key,Option.bind_some];rw[Xp];cases decide (t.length<=16)<;>cases allI (fun i e=>it t i e&&kL (t.take i) e.path) 0 t<;>rfl
noncomputable abbrev ajS:bz:=[(86,Hm),(118,F0),(119,zV),(120,MQ),(122,MP)]
theorem S9:a9 aa (bo az ajS):=bB ⟨QM,NU,EV,aaA,aaz,⟨⟩⟩
abbrev LX:Shape:=⟨[b7 1 1 0],[b6 1 [bD,bD,cH .need,cH .entry]],36⟩
abbrev LS:List be:=[(.norm,⟨[b7 1 1 0,a3 18],[b6 1 [bD,bD,cH .need,cH .entry]],36⟩)]
noncomputable def En(y:LX.H):Option (aR LS):=
(f118 ((y.2.1.1,()),())).bind fun a=>
 bif(!(!a.1.1)) then
(f119 ((y.2.1.2.1,()),())).bind fun b=>
 bif(!(!b.1.1)) then
 some (((),(decide ((y.2.1.2.2.1.length:Int)>(6:Int))),()),(y.2.1.1,y.2.1.2.1,y.2.1.2.2.1,y.2.1.2.2.2.1,()),())
else
 some (((),true,()),(y.2.1.1,y.2.1.2.1,y.2.1.2.2.1,y.2.1.2.2.2.1,()),())
else
 some (((),true,()),(y.2.1.1,y.2.1.2.1,y.2.1.2.2.1,y.2.1.2.2.2.1,()),())
theorem aaU:bl aa (aH (codeOf Tryz.f74) 1 12) (bC LX LS En):=eh S9 (by kernel_rfl) aw fun y=>by kernel_rfl
abbrev i74:Shape:=⟨[c5 0 [bD,bD,cH .need,cH .entry]],[],36⟩
abbrev Rb:Shape:=⟨[a3 2],[],36⟩
noncomputable def f74(a:i74.H):Option Rb.H:=
(En (((),()),(a.1.1.1,a.1.1.2.1,a.1.1.2.2.1,a.1.1.2.2.2.1,()),())).bind fun b=>
 bif b.1.2.1 then
 some ((false,()),())
else
(y7 ((b.2.1.2.2.1,(),()),())).bind fun c=>
 bif c.1.1 then
(y6 ((b.2.1.2.2.1,(),([b.2.1.1]:List ak),()),())).bind fun d=>
 bif(!d.1.1) then
(f86 ((b.2.1.2.2.2.1,()),())).bind fun e=>
 some ((e.1.1,()),())
else
 some ((false,()),())
else
 some ((false,()),())
noncomputable def Sz:a0:=a' az Tryz.f74 i74 Rb [] f74
theorem agv:a4 aa 74 Sz:=bb S9 Tryz.func74 (by kernel_rfl) (bG aaU aw) (fun y=>by kernel_rfl) fun a=>by kernel_rfl
noncomputable abbrev abK:bz:=[(74,Sz)]
theorem MZ:a9 aa (bo az abK):=bB ⟨agv,⟨⟩⟩
abbrev wJ:Shape:=⟨[(1,.ai (.fn 74 [])),aX 7 .pack,ah 8,ah 9],[],18⟩
abbrev Bu:List be:=[(.ret,⟨[a3 4],[],18⟩),(.exit 0,⟨[],[],18⟩)]
noncomputable def wU(y:wJ.H):cA wJ Bu:=
 bif(decide (y.1.2.2.2.1<y.1.2.2.1)) then
(bg y.1.2.1 y.1.2.2.2.1).bind fun a=>
(f74 (((a.name,a.bH,a.bL,a.b4,()),()),())).bind fun b=>
 bif(!b.1.1) then
 some (.inr (.inl ((false,()),())))
else
 some (.inl (((),y.1.2.1,y.1.2.2.1,(IntKind.i64.wrap (y.1.2.2.2.1+(1:Int))),()),()))
else
 some (.inr (.inr ((),())))
noncomputable def BI:wJ.H->Option (aR Bu):=bK wU
theorem XV:bl aa (aH (codeOf Tryz.f101) 1 26) (bC wJ Bu BI):=cB MZ (by kernel_rfl) aw fun y=>by kernel_rfl
abbrev Mv:Shape:=⟨[aX 0 .pack,(1,.ai (.fn 74 []))],[],18⟩
abbrev Md:Shape:=⟨[a3 4],[],18⟩
noncomputable def y9(a:Mv.H):Option Md.H:=
(BI (((),a.1.1,(a.1.1.length:Int),(0:Int),()),())).bind fun b=>
(match b with
|.inl c=>
 some ((c.1.1,()),())
|.inr d=>
 some ((true,()),()))
noncomputable def MS:a0:=a' az Tryz.f101 Mv Md [] y9
theorem aaC:a4 aa 101 MS:=bb MZ Tryz.func101 (by kernel_rfl) (bG XV aw) (fun y=>by kernel_rfl) fun a=>by kernel_rfl
abbrev xG:Shape:=⟨[aX 0 .pack,ah 3],[],22⟩
abbrev CS:List be:=[(.ret,⟨[a3 2],[],22⟩),(.exit 0,⟨[],[],22⟩)]
noncomputable def ya(y:xG.H):cA xG CS:=
 bif(decide (y.1.2.1<(y.1.1.length:Int))) then
(bg y.1.1 (IntKind.i64.wrap (y.1.2.1-(1:Int)))).bind fun a=>
(bg y.1.1 y.1.2.1).bind fun b=>
 bif(!(Op.bytesLess a.name b.name)) then
 some (.inr (.inl ((false,()),())))
else
 some (.inl ((y.1.1,(IntKind.i64.wrap (y.1.2.1+(1:Int))),()),()))
else
 some (.inr (.inr ((),())))
noncomputable def Dm:xG.H->Option (aR CS):=bK ya
theorem _F:bl aa (aH (codeOf Tryz.f141) 1 26) (bC xG CS Dm):=cB g0 (by kernel_rfl) aw fun y=>by kernel_rfl
abbrev i141:Shape:=⟨[aX 0 .pack],[],22⟩
abbrev OD:Shape:=⟨[a3 2],[],22⟩
noncomputable def f141(a:i141.H):Option OD.H:=
(Dm ((a.1.1,(1:Int),()),())).bind fun b=>
(match b with
|.inl c=>
 some ((c.1.1,()),())
|.inr d=>
 some ((true,()),()))
noncomputable def P_:a0:=a' az Tryz.f141 i141 OD [] f141
theorem adw:a4 aa 141 P_:=bb g0 Tryz.func141 (by kernel_rfl) (bG _F aw) (fun y=>by kernel_rfl) fun a=>by kernel_rfl
abbrev i156:Shape:=⟨[aX 0 .entry],[],6⟩
abbrev OA:Shape:=⟨[b8 2 3000128],[cq 3000128 .entry 2 0],6⟩
noncomputable def f156(a:i156.H):Option OA.H:=
(dB 48 ([]:List aZ) a.1.1).bind fun b=>
 some (((),()),b,())
noncomputable def FX:a0:=a' az Tryz.f156 i156 OA [] f156
theorem NR:a4 aa 156 FX:=bb g0 Tryz.func156 (by kernel_rfl) aw (fun y=>by kernel_rfl) fun a=>by kernel_rfl
noncomputable abbrev ajM:bz:=[(156,FX),(157,FW),(158,FV)]
theorem Hq:a9 aa (bo az ajM):=bB ⟨NR,NQ,NP,⟨⟩⟩
abbrev KB:Shape:=⟨[aX 1 .entry,b8 6 3000384,ah 7,ah 8,a3 9],[cq 3000384 .entry 6 0],69⟩
abbrev Kp:List be:=[(.norm,⟨[aX 1 .entry,b8 6 3000384,ah 7,ah 8,a3 9,a3 28,a3 29,a3 47],[cq 3000384 .entry 6 0],69⟩)]
noncomputable def Ci(y:KB.H):Option (aR Kp):=
 bif y.1.2.2.2.2.1 then
(fa y.2.1.length y.1.2.2.2.1).bind fun a=>
(y.2.1[a]?).bind fun b=>
 bif(b.kind !=(1:Int)) then
 some ((y.1.1,(),y.1.2.2.1,y.1.2.2.2.1,y.1.2.2.2.2.1,y.1.2.2.2.2.1,true,true,()),y.2.1,())
else
(bg y.1.1 y.1.2.2.1).bind fun c=>
(fa y.2.1.length y.1.2.2.2.1).bind fun d=>
(y.2.1[d]?).bind fun e=>
 some ((y.1.1,(),y.1.2.2.1,y.1.2.2.2.1,y.1.2.2.2.2.1,y.1.2.2.2.2.1,true,(!((c.path==e.path)&&((c.kind==e.kind)&&((c.mode==e.mode)&&(c.text==e.text))))),()),y.2.1,())
else
 some ((y.1.1,(),y.1.2.2.1,y.1.2.2.2.1,y.1.2.2.2.2.1,y.1.2.2.2.2.1,false,false,()),y.2.1,())
theorem Y9:bl aa (aH (dz (aH (codeOf Tryz.f96) 1 58)) 116 7460) (bC KB Kp Ci):=eh Hq (by kernel_rfl) aw fun y=>by kernel_rfl
abbrev tR:Shape:=⟨[aX 1 .entry,b8 6 3000384,ah 7],[cq 3000384 .entry 6 0],69⟩
abbrev og:List be:=[(.ret,⟨[b8 4 3000256,a3 5],[cq 3000256 .entry 4 0],69⟩),(.exit 0,⟨[b8 6 3000384],[cq 3000384 .entry 6 0],69⟩)]
noncomputable def yO(y:tR.H):cA tR og:=
 bif(decide (y.1.2.2.1<(y.1.1.length:Int))) then
(bg y.1.1 y.1.2.2.1).bind fun a=>
(f157 ((y.2.1,a.path,()),())).bind fun b=>
(Ci ((y.1.1,(),y.1.2.2.1,b.1.1,b.1.2.1,()),y.2.1,())).bind fun c=>
 bif c.1.2.2.2.2.2.2.2.1 then
 some (.inr (.inl (((),false,()),([]:List aZ),())))
else
 bif(!c.1.2.2.2.2.1) then
(dA c.2.1 (0:Int) c.1.2.2.2.1).bind fun d=>
(dB 48 ([]:List aZ) d).bind fun e=>
(bg c.1.1 c.1.2.2.1).bind fun f=>
(dB 48 e ([f]:List aZ)).bind fun g=>
(dA c.2.1 c.1.2.2.2.1 (c.2.1.length:Int)).bind fun h=>
(dB 48 g h).bind fun i=>
 some (.inl ((c.1.1,(),(IntKind.i64.wrap (c.1.2.2.1+(1:Int))),()),i,()))
else
 some (.inl ((c.1.1,(),(IntKind.i64.wrap (c.1.2.2.1+(1:Int))),()),c.2.1,()))
else
 some (.inr (.inr (((),()),y.2.1,())))
noncomputable def D5:tR.H->Option (aR og):=bK yO
theorem aaN:bl aa (aH (codeOf Tryz.f96) 1 58) (bC tR og D5):=cB Hq (by kernel_rfl) (bG Y9 aw) fun y=>by kernel_rfl
abbrev i96:Shape:=⟨[aX 0 .entry,aX 1 .entry],[],69⟩
abbrev Q3:Shape:=⟨[b8 4 3000256,a3 5],[cq 3000256 .entry 4 0],69⟩
noncomputable def f96(a:i96.H):Option Q3.H:=
(f156 ((a.1.1,()),())).bind fun b=>
(D5 ((a.1.2.1,(),(0:Int),()),b.2.1,())).bind fun c=>
(match c with
|.inl d=>
 some (((),d.1.2.1,()),d.2.1,())
|.inr e=>
(f158 ((e.2.1,()),())).bind fun f=>
 some (((),f.1.1,()),e.2.1,()))
noncomputable def Sv:a0:=a' az Tryz.f96 i96 Q3 [] f96
theorem agr:a4 aa 96 Sv:=bb Hq Tryz.func96 (by kernel_rfl) (bG aaN aw) (fun y=>by kernel_rfl) fun a=>by kernel_rfl
noncomputable abbrev ajK:bz:=[(158,FV),(161,FT),(162,FS),(163,P7)]
theorem akm:a9 aa (bo az ajK):=bB ⟨NP,NN,NM,adt,⟨⟩⟩
abbrev i98:Shape:=⟨[c5 0 [bD,bD,cH .need,cH .entry]],[],23⟩
abbrev Q1:Shape:=⟨[a3 2],[],23⟩
noncomputable def f98(a:i98.H):Option Q1.H:=
(f161 ((a.1.1.1,()),())).bind fun b=>
 bif b.1.1 then
(f162 ((a.1.1.2.1,()),())).bind fun c=>
 bif c.1.1 then
(f163 ((a.1.1.1,a.1.1.2.2.1,()),())).bind fun d=>
 bif d.1.1 then
(f158 ((a.1.1.2.2.2.1,()),())).bind fun e=>
 some ((e.1.1,()),())
else
 some ((false,()),())
else
 some ((false,()),())
else
 some ((false,()),())
noncomputable def St:a0:=a' az Tryz.f98 i98 Q1 [] f98
theorem agp:a4 aa 98 St:=bb akm Tryz.func98 (by kernel_rfl) aw (fun y=>by kernel_rfl) fun a=>by kernel_rfl
abbrev qj(p:aU):Prop:=cg p.name.length/\cg p.bH.length/\uP p.bL/\lD p.b4
abbrev eC(ps:List aU):Prop:=cg ps.length/\∀p,p∈ps->qj p
def dY(p:aU):Bool:=kM p.name&&eG p.bH&&qW p.name p.bL&&eA p.b4
theorem Kj(a)(hb:qj ⟨a.1.1.1,a.1.1.2.1,a.1.1.2.2.1,a.1.1.2.2.2.1⟩):f98 a=some ((dY ⟨a.1.1.1,a.1.1.2.1,a.1.1.2.2.1,a.1.1.2.2.2.1⟩,()),()):=by
 obtain⟨⟨⟨n,v,aA,t,u⟩,bx⟩,iB⟩:=a;obtain⟨h1,h2,Z,aI⟩:=hb;have h1:n.length<=2097152:=h1;have e1:=Kf ((n,()),()) (show n.length<=1099511627776 by omega)
 have e2:=ID ((v,()),()) h2;have bI:=W8 ((n,(aA,())),()) Z h1;have dy:=Ki ((t,()),()) aI;simp only[f98,e1,e2,bI,dy,Option.bind_some,dY];cases kM n<;>cases eG v<;>cases qW n aA<;>rfl
theorem Xd(a)(hb:qj ⟨a.1.1.1,a.1.1.2.1,a.1.1.2.2.1,a.1.1.2.2.2.1⟩):f74 a=some ((dY ⟨a.1.1.1,a.1.1.2.1,a.1.1.2.2.1,a.1.1.2.2.2.1⟩,()),()):=by
 obtain⟨⟨⟨n,v,aA,t,u⟩,bx⟩,iB⟩:=a;obtain⟨h1,h2,Z,aI⟩:=hb;have h1:n.length<=2097152:=h1;have e1:=Iq ((n,()),()) (show n.length<=1099511627776 by omega)
 have e2:=A0 ((v,()),()) h2;have bI:=Xj ((aA,((),())),()) Z;have dy:=wx ((t,()),()) aI;have fw:=UA ((aA,((),(([n]:List ak),()))),()) Z (Nat.le_refl _);have db:decide ((aA.length:Int)>6)=!decide (aA.length<=6):=by by_cases h:aA.length<=6<;>simp only[h,decide_true,decide_false,Bool.not_true,Bool.not_false,decide_eq_true_eq,decide_eq_false_iff_not]<;>omega
 have Y:jA [] (n::aA.map (·.name))=jA [n] (aA.map (·.name)):=by simp[jA]
 simp only[f74,En,e1,e2,Option.bind_some,dY,qW,Y,db,Bool.not_not];cases kM n with
 |false=>rfl
 |true=>
  cases eG v with
  |false=>rfl
  |true=>
   cases decide (aA.length<=6) with
   |false=>simp only[cond_true,Bool.not_false,Option.bind_some,Bool.and_false,Bool.false_and]
   |true=>
    simp only[cond_true,Bool.not_true,cond_false,Option.bind_some,bI,fw,dy,Bool.true_and,Bool.and_true];cases List.all aA hH<;>cases jA [n] (aA.map (·.name))<;>rfl
theorem Xi(a)(M:eC a.1.1):y9 a=some ((a.1.1.all dY,()),()):=by
 obtain⟨⟨ps,u⟩,bx⟩:=a;obtain⟨hl,hn⟩:=M;have hl:ps.length<=2097152:=hl;have key:BI (((),(ps,((ps.length:Int),((0:Int),())))),())=some (bif allI (fun _ n=>dY n) 0 ps then .inr ((),()) else .inl ((false,()),())):=by
  refine fz wU ps (fun i=>(((),(ps,((ps.length:Int),((i:Int),())))),())) _ _ _ (fun i x hx=>?_) ?_
  ·have hi:=ca hx;have hw:aD i:=by unfold aD;omega
   have hb:=hn x (List.mem_of_getElem? hx);simp only[wU,ce hi,cond_true,bZ,hx,Option.bind_some];rw[Xd _ hb];simp only[Option.bind_some,b_ hw];cases dY x<;>rfl
  ·simp only[wU,cX,cond_false]
 rw[gR] at key;simp only[y9,key,Option.bind_some];cases List.all ps dY<;>rfl
def mo(ps:List aU)(i:Nat)(x:aU):Bool:=match ps[i]? with
 |some q=>Op.bytesLess q.name x.name
 |none=>false
def j8(ps:List aU):Bool:=allI (mo ps) 0 ps.tail
theorem Ud(a)(M:cg a.1.1.length):f141 a=some ((j8 a.1.1,()),()):=by
 obtain⟨⟨ps,u⟩,bx⟩:=a;have M:ps.length<=2097152:=M;have key:Dm ((ps,((1:Int),())),())=some (bif allI (mo ps) 0 ps.tail then .inr ((),()) else .inl ((false,()),())):=by
  refine fz ya ps.tail (fun i=>((ps,(((i+1:Nat):Int),())),())) _ _ _ (fun i x hx=>?_) ?_
  ·have ka:ps[i+1]? =some x:=by rw[List.getElem?_tail] at hx;exact hx
   have hi:=ca ka;have hw:aD (i+1):=by unfold aD;omega
   obtain⟨q,aF⟩:∃q,ps[i]? =some q:=⟨ps[i],List.getElem?_eq_getElem (by omega)⟩
   simp only[ya,ce hi,cond_true,ta (i:=i) (by unfold aD;omega),bZ,aF,ka,Option.bind_some,b_ hw,mo]
   cases Op.bytesLess q.name x.name<;>rfl
  ·have:decide (((ps.tail.length+1:Nat):Int)<(ps.length:Int))=false:=by
    simp only[decide_eq_false_iff_not,List.length_tail];omega
   simp only[ya,this,cond_false]
 simp only[f141,key,Option.bind_some,j8];cases allI (mo ps) 0 ps.tail<;>rfl
def jJ(a b:aZ):Bool:=a.path==b.path&&(a.kind==b.kind&&(a.mode==b.mode&&a.text==b.text))
def lB(e q:aZ):Bool:=e.kind !=1||!jJ e q
theorem ZM(a b:aZ):jJ a b=jJ b a:=by
 unfold jJ;have h1:(a.path==b.path)=(b.path==a.path):=BEq.comm;have h2:(a.kind==b.kind)=(b.kind==a.kind):=BEq.comm;have Z:(a.mode==b.mode)=(b.mode==a.mode):=BEq.comm;have aI:(a.text==b.text)=(b.text==a.text):=BEq.comm;rw[h1,h2,Z,aI]
theorem aag(e q:aZ):lB e q=(q.kind !=1||!jJ e q):=by
 unfold lB;cases h:jJ e q with
 |false=>simp
 |true=>
  unfold jJ at h;simp only[Bool.and_eq_true] at h;rw[show e.kind=q.kind from eq_of_beq h.2.1]
def iO(t:List aZ)(k:Nat)(e:aZ):List aZ:=t.take k++[e]++t.drop k
def gj(out:List aZ):List aZ->Option (List aZ)
 |[]=>some out
 |e::r=>match out[bQ out e.path]? with
  |some q=>bif q.path==e.path then(bif lB e q then none else gj out r) else gj (iO out (bQ out e.path) e) r
  |none=>gj (iO out (bQ out e.path) e) r
theorem JY(t:List aZ)(k:Nat)(e:aZ)(h:k<=t.length):(iO t k e).length=t.length+1:=by
 unfold iO;simp only[List.length_append,List.length_take,List.length_cons,List.length_nil,List.length_drop];omega
theorem BK{t:List aZ}{k:Nat}{e x:aZ}(h:x∈iO t k e):x=e\/x∈t:=by
 unfold iO at h;rcases List.mem_append.1 h with h|h
 ·rcases List.mem_append.1 h with h|h
  ·exact .inr (List.mem_of_mem_take h)
  ·exact .inl (by simpa using h)
 ·exact .inr (List.mem_of_mem_drop h)
def gW(out:List aZ)(e:aZ):Option (List aZ):=match out[bQ out e.path]? with
 |some q=>bif q.path==e.path then(bif lB e q then none else some out) else some (iO out (bQ out e.path) e)
 |none=>some (iO out (bQ out e.path) e)
theorem s9(out:List aZ)(e:aZ)(r:List aZ):gj out (e::r)=(gW out e).bind fun D=>gj D r:=by
 unfold gW;rw[gj];cases out[bQ out e.path]? with
 |none=>rfl
 |some q=>
  simp only;cases (q.path==e.path) with
  |false=>rfl
  |true=>cases lB e q<;>rfl
theorem wy{out D:List aZ}{e:aZ}(h:gW out e=some D):D.length<=out.length+1:=by
 unfold gW at h;split at h
 ·rename_i q aF;cases al:(q.path==e.path) with
  |true=>
   rw[al] at h;cases hc:lB e q with
   |true=>rw[hc] at h;cases h
   |false=>rw[hc] at h;cases h;omega
  |false=>rw[al] at h;cases h;rw[JY _ _ _ (qU _ _)];omega
 ·cases h;rw[JY _ _ _ (qU _ _)];omega
theorem Bv{out D:List aZ}{e x:aZ}(h:gW out e=some D)(hx:x∈D):x=e\/x∈out:=by
 unfold gW at h;split at h
 ·rename_i q aF;cases al:(q.path==e.path) with
  |true=>
   rw[al] at h;cases hc:lB e q with
   |true=>rw[hc] at h;cases h
   |false=>rw[hc] at h;cases h;exact .inr hx
  |false=>rw[al] at h;cases h;exact BK hx
 ·cases h;exact BK hx
theorem aam{t:List aZ}{e:aZ}(a5:e7 t)(hn:ju t e.path=false):e7 (iO t (bQ t e.path) e):=by
 have Pj:∀a,a∈t.take (bQ t e.path)->Op.bytesLess a.path e.path=true:=by
  intro a h;obtain⟨k,ag⟩:=List.mem_iff_getElem?.1 h;have RY:k<bQ t e.path:=by have:=ca ag;rw[List.length_take] at this;omega
  have vu:t[k]? =some a:=by rw[List.getElem?_take,if_pos RY] at ag;exact ag
  rw[jp a5 k a vu];simpa using RY
 have Nt:∀a,a∈t.drop (bQ t e.path)->Op.bytesLess e.path a.path=true:=by
  intro a h;obtain⟨k,ag⟩:=List.mem_iff_getElem?.1 h;rw[List.getElem?_drop] at ag;have h1:=jp (p:=e.path) a5 _ a ag;have h2:Op.bytesLess a.path e.path=false:=by rw[h1];simp
  refine abx _ _ h2 ?_
  cases aF:(a.path==e.path) with
  |false=>rfl
  |true=>
   exfalso
   cases k with
   |zero=>
    unfold ju at hn;rw[Nat.add_zero] at ag;rw[ag] at hn;simp only[aF] at hn;cases hn
   |succ k=>
    have aW:=ca ag;obtain⟨q,vn⟩:∃q,t[bQ t e.path]? =some q:=⟨_,List.getElem?_eq_getElem (by omega)⟩
    have Z:=List.pairwise_iff_getElem.1 a5 (bQ t e.path) (bQ t e.path+(k+1)) (ca vn) aW (by omega)
    rw[(List.getElem?_eq_some_iff.1 vn).2,(List.getElem?_eq_some_iff.1 ag).2] at Z;have aI:=jp (p:=e.path) a5 _ q vn;rw[<-eq_of_beq aF,Z] at aI;simp at aI
 unfold e7 iO;refine List.pairwise_append.2 ⟨List.pairwise_append.2 ⟨a5.take _,by simp,?_⟩,List.Pairwise.sublist (List.drop_sublist _ _) a5,?_⟩
 ·intro a h b hb;have hb:b=e:=by simpa using hb
  subst hb;exact Pj a h
 ·intro a h b hb;rcases List.mem_append.1 h with h|h
  ·exact tw _ _ _ (Pj a h) (Nt b hb)
  ·have h:a=e:=by simpa using h
   subst h;exact Nt b hb
theorem Xu{out D:List aZ}{e:aZ}(a5:e7 out)(h:gW out e=some D):e7 D:=by
 unfold gW at h;have lL:∀{b:Bool},ju out e.path=b->b=false->e7 (iO out (bQ out e.path) e):=fun h1 h2=>aam a5 (h1.trans h2)
 split at h
 ·rename_i q aF;cases al:(q.path==e.path) with
  |true=>
   rw[al] at h;cases hc:lB e q with
   |true=>rw[hc] at h;cases h
   |false=>rw[hc] at h;cases h;exact a5
  |false=>rw[al] at h;cases h;exact lL (by unfold ju;rw[aF]) al
 ·rename_i aF;cases h;exact lL (by unfold ju;rw[aF]) rfl
theorem YG(a)(a5:lD a.1.1)(hb:lD a.1.2.1)(hl:a.1.1.length+a.1.2.1.length<=2097152):f96 a=
  some (match gj a.1.1 a.1.2.1 with|some out=>(((),(eA out,())),(out,()))|none=>(((),(false,())),(([]:List aZ),()))):=by
 obtain⟨⟨xs,ys,u⟩,bx⟩:=a;have hl:xs.length+ys.length<=2097152:=hl;have hc:f156 ((xs,()),())=some (((),()),(xs,())):=by
  simp only[f156];rw[hJ (by decide) (by unfold aD;simp only[List.length_nil];omega)]
  rfl
 have key:D5 ((ys,((),((0:Int),()))),(xs,()))=_:=l9 yO ys (fun i (out:List aZ)=>((ys,((),((i:Int),()))),(out,())))
  (fun i e out=>some (match gW out e with|some D=>.inl D|none=>.inr ((.inl (((),(false,())),(([]:List aZ),()))):aR og))) (fun out=>((.inr (((),()),(out,()))):aR og))
  (fun i out=>out.length<=xs.length+i/\∀e,e∈out->mN e) xs ⟨Nat.le_refl _,a5.2⟩ (fun i x out hx cW=>?_) (fun out _=>?_)
 ·have fold:∀(r:List aZ) (k:Nat) (out:List aZ),eB (fun i e out=>some (match gW out e with|some D=>.inl D|none=>.inr ((.inl (((),(false,())),(([]:List aZ),()))):aR og))) (fun out=>((.inr (((),()),(out,()))):aR og)) k r out=
    some (match gj out r with|some D=>.inr (((),()),(D,()))|none=>.inl (((),(false,())),(([]:List aZ),()))):=by
   intro r;induction r with
   |nil=>intro k out;rfl
   |cons e r ih=>
    intro k out;rw[s9];simp only[eB];cases gW out e with
    |none=>rfl
    |some D=>simp only[Option.bind_some];exact ih _ _
  have mem:∀(r:List aZ) (out D:List aZ),(∀e,e∈r->mN e)->(∀e,e∈out->mN e)->gj out r=some D->D.length<=out.length+r.length/\∀e,e∈D->mN e:=by
   intro r;induction r with
   |nil=>intro out D _ h2 h;cases h;exact⟨Nat.le_refl _,h2⟩
   |cons e r ih=>
    intro out D h1 h2 h;rw[s9] at h;obtain⟨o1,Z,aI⟩:=Option.bind_eq_some_iff.1 h;have bp:=ih o1 D (fun x hx=>h1 x (List.mem_cons_of_mem _ hx)) (fun x hx=>by
     rcases Bv Z hx with rfl|h
     ·exact h1 x List.mem_cons_self
     ·exact h2 x h) aI
    have db:=wy Z;exact⟨by simp only[List.length_cons];omega,bp.2⟩
  rw[fold] at key;simp only[f96,hc,Option.bind_some,key];cases hj:gj xs ys with
  |none=>rfl
  |some D=>
   have hm:=mem ys xs D hb.2 a5.2 hj;simp only[Option.bind_some];rw[Ki _ ⟨show D.length<=2097152 by omega,hm.2⟩]
   rfl
 ·have hi:=ca hx;have hw:aD i:=by unfold aD;omega
  refine⟨?_,fun am ab=>?_⟩
  ·have ki:=LN ((out,(x.path,())),()) (show out.length<=2097152 by omega)
   have k2:=qU out x.path;simp only[yO,ce hi,cond_true,bZ,hx,Option.bind_some,ki,Ci,ju,gW];have grow:((dA out 0 (bQ out x.path:Int)).bind fun adV=>(dB 48 ([]:List aZ) adV).bind fun adU=>(dB 48 adU ([x]:List aZ)).bind fun adT=>(dA out (bQ out x.path:Int) (out.length:Int)).bind fun adS=>(dB 48 adT adS).bind fun adR=>
     (some (.inl ((ys,((),((IntKind.i64.wrap ((i:Int)+(1:Int))),()))),(adR,()))):Option (Sum tR.H (aR og))))=some (.inl ((ys,((),(((i+1:Nat):Int),()))),(iO out (bQ out x.path) x,()))):=by
    have hlen:(out.take (bQ out x.path)).length<=out.length:=by rw[List.length_take];omega
    have amc:(out.drop (bQ out x.path)).length<=out.length:=by rw[List.length_drop];omega
    rw[qS k2,Option.bind_some,hJ (by decide) (by unfold aD;simp only[List.length_nil];omega),Option.bind_some,hJ (by decide) (by unfold aD;simp only[List.length_nil,List.length_cons,List.nil_append];omega),Option.bind_some,JE k2,Option.bind_some,
     hJ (by decide) (by unfold aD;simp only[List.length_append,List.length_nil,List.length_cons,List.nil_append];omega),Option.bind_some,b_ hw]
    rfl
   cases aF:out[bQ out x.path]? with
   |none=>simp only[cond_false,Option.bind_some,Bool.not_false,cond_true,bZ,hx];exact grow
   |some q=>
    have hin:=mb (ca aF);simp only;cases al:(q.path==x.path) with
    |false=>simp only[cond_false,Option.bind_some,Bool.not_false,cond_true,bZ,hx];exact grow
    |true=>
     have Aw:((x.path==q.path)&&((x.kind==q.kind)&&((x.mode==q.mode)&&(x.text==q.text))))=jJ x q:=rfl;rw[aag];simp only[cond_true,hin,aF,Option.bind_some,bZ,hx,Aw];cases ag:(q.kind !=1) with
     |true=>rfl
     |false=>
      simp only[cond_false,Option.bind_some,Bool.false_or];cases jJ x q with
      |false=>rfl
      |true=>simp only[Bool.not_true,cond_false,Option.bind_some,b_ hw];rfl
  ·simp only[Option.some.injEq] at ab;cases M:gW out x with
   |none=>rw[M] at ab;cases ab
   |some D=>
    rw[M] at ab;cases ab;have db:=wy M;refine⟨by omega,fun e he=>?_⟩
    rcases Bv M he with rfl|h
    ·exact hb.2 e (List.mem_of_getElem? hx)
    ·exact cW.2 e h
 ·simp only[yO,cX,cond_false]
abbrev i159:Shape:=⟨[aX 0 .entry],[],8⟩
abbrev Fa:Shape:=⟨[b8 2 3000128],[cq 3000128 .entry 2 0],8⟩
noncomputable def f159(a:i159.H):Option Fa.H:=
 nb (t:=.entry) a.1.1 (some (((),()),([]:List aZ),())) ((dB 48 ([]:List aZ) a.1.1).bind fun b=>
 some (((),()),b,()))
noncomputable def FU:a0:=a' az Tryz.f159 i159 Fa [] f159
theorem NO:a4 aa 159 FU:=bb g0 Tryz.func159 (by kernel_rfl) aw (fun y=>by kernel_rfl) fun a=>by kernel_rfl
noncomputable abbrev aj4:bz:=[(96,Sv)]
theorem Tg:a9 aa (bo az aj4):=bB ⟨agr,⟨⟩⟩
abbrev yD:Shape:=⟨[aX 0 .pack,b8 4 3000256,ah 5],[cq 3000256 .entry 4 0],30⟩
abbrev pm:List be:=[(.ret,⟨[b8 2 3000128,a3 3],[cq 3000128 .entry 2 0],30⟩),(.exit 0,⟨[b8 4 3000256],[cq 3000256 .entry 4 0],30⟩)]
noncomputable def yY(y:yD.H):cA yD pm:=
 bif(decide (y.1.2.2.1<(y.1.1.length:Int))) then
(bg y.1.1 y.1.2.2.1).bind fun a=>
(f96 ((y.2.1,a.b4,()),())).bind fun b=>
 bif(!b.1.2.1) then
 some (.inr (.inl (((),false,()),([]:List aZ),())))
else
 some (.inl ((y.1.1,(),(IntKind.i64.wrap (y.1.2.2.1+(1:Int))),()),b.2.1,()))
else
 some (.inr (.inr (((),()),y.2.1,())))
noncomputable def Ee:yD.H->Option (aR pm):=bK yY
theorem aa2:bl aa (aH (codeOf Tryz.f51) 1 58) (bC yD pm Ee):=cB Tg (by kernel_rfl) aw fun y=>by kernel_rfl
abbrev i51:Shape:=⟨[aX 0 .pack],[],30⟩
abbrev Rp:Shape:=⟨[b8 2 3000128,a3 3],[cq 3000128 .entry 2 0],30⟩
noncomputable def f51(a:i51.H):Option Rp.H:=
(Ee ((a.1.1,(),(0:Int),()),([]:List aZ),())).bind fun b=>
(match b with
|.inl c=>
 some (((),c.1.2.1,()),c.2.1,())
|.inr d=>
 some (((),true,()),d.2.1,()))
noncomputable def SK:a0:=a' az Tryz.f51 i51 Rp [] f51
theorem agG:a4 aa 51 SK:=bb Tg Tryz.func51 (by kernel_rfl) (bG aa2 aw) (fun y=>by kernel_rfl) fun a=>by kernel_rfl
theorem X9(g n c i vb m vc:Nat)(cur vcur:Array Value)(te ve:TypeId)(w:World)(hi:i<n)(hm:0<m)(hroom:n+m<=c)(hc63:c<=9223372036854775807)(hne:vb≠g)
  (hg:w.heap[g]? =some (.cells cur te (0,0))) (hv:w.heap[vb]? =some (.cells vcur ve (0,0))) (hcs:cur.size=c*4) (hvs:m*4<=vcur.size)
  (h1c:∀v∈cur.toList.take (n*4),v.oneCell'=true) (h1v:∀v∈vcur.toList.take (m*4),v.oneCell'=true):
  Calls aa 160 #[.slice (some ⟨g,0,none⟩) n c,.int .i64 i,.slice (some ⟨vb,0,none⟩) m vc] w fun e w'=>
   e=.returned (.slice (some ⟨g,0,none⟩) (n+m) c)/\w'=w.drew.setRow g (bd (bd cur.toList ((i+m)*4) ((cur.toList.take (n*4)).drop (i*4))) (i*4) (vcur.toList.take (m*4))).toArray:=by
 have t33:aa.underlying 26=some (.slice 73):=by kernel_rfl
 have hsz:(aa.info? 73).map (·.size)=some 4:=by kernel_rfl
 have hz1:¬((m:Int)=0):=by omega
 have hz2:¬((i:Int)=(n:Int)):=by omega
 have hov:∀off lb cb,(callFunc 213 #[.slice (some ⟨vb,0,none⟩) m vc,.slice (some ⟨g,off,none⟩) lb cb]).run aa w=.ok (.value (.bool false)) w:=fun off lb cb=>by
  rw[run_callFunc_extern Tryz.func213 (by kernel_rfl) (by kernel_rfl) (by kernel_rfl) (e:=Extern.SlicesOverlaps.overlaps #[26,26] #[4]) (by kernel_rfl),
   Lib.run_overlaps_apart w 26 4 73 t33 4 (fun w=>by kernel_rfl) ⟨vb,0,none⟩ ⟨g,off,none⟩ m vc lb cb hne ve te vcur.size cur.size (by simp[World.shape?,hv]) (by simp[World.shape?,hg]) (by omega) (by simp[World.frozen?,hv]) (by simp[World.frozen?,hv])]
  rfl
 have hdl:((cur.toList.take (n*4)).drop (i*4)).length=(n-i)*4:=by simp only[List.length_drop,List.length_take,Array.length_toList,hcs];rw[Nat.min_eq_left (by omega),Nat.sub_mul]
 have hcl:∀j v,(cur.toList.take (n*4))[j]? =some v->w.cell? ⟨g,j,none⟩=some v:=fun j v h=>by
  rw[List.getElem?_take] at h;split at h
  ·simpa[World.cell?,hg] using h
  ·cases h
 have hcv:∀j v,(vcur.toList.take (m*4))[j]? =some v->w.cell? ⟨vb,j,none⟩=some v:=fun j v h=>by
  rw[List.getElem?_take] at h;split at h
  ·simpa[World.cell?,hv] using h
  ·cases h
 have hcp1:∀ty dc sc,(Builtin.copy_ #[26,26] ty #[.slice (some ⟨g,(i+m)*4,none⟩) (n+m-(i+m)) dc,.slice (some ⟨g,i*4,none⟩) (n+m-i) sc]).run aa w.drew=
   .ok (goInt (Nat.min (n+m-i) (n+m-(i+m)))) (w.drew.setRow g (bd cur.toList ((i+m)*4) ((cur.toList.take (n*4)).drop (i*4))).toArray):=fun ty dc sc=>
  wq w.drew _ _ ty 73 4 g ((i+m)*4) (n+m-(i+m)) dc ⟨g,i*4,none⟩ (n+m-i) sc cur te _ t33 hsz hg (by rw[hdl];simp only[Nat.min_def];split<;>omega)
   (fun j v hj=>by rw[Addr.add_lit];exact hcl (i*4+j) v (by rwa[List.getElem?_drop] at hj)) (by rw[hdl,hcs];omega) (fun v hv=>h1c v (List.mem_of_mem_drop hv))
 obtain⟨cur1,hcur1⟩:∃cur1,cur1=(bd cur.toList ((i+m)*4) ((cur.toList.take (n*4)).drop (i*4))).toArray:=⟨_,rfl⟩;rw[<-hcur1] at hcp1;have hc1s:cur1.size=c*4:=by rw[hcur1];simp only[bd,List.size_toArray,List.length_append,List.length_drop,List.length_take,Array.length_toList,hcs];omega
 have hcp2:∀(W:World),W.heap=(w.drew.setRow g cur1).heap->∀ty dc,(Builtin.copy_ #[26,26] ty #[.slice (some ⟨g,i*4,none⟩) (n+m-i) dc,.slice (some ⟨vb,0,none⟩) m vc]).run aa W=
   .ok (goInt (Nat.min m (n+m-i))) (W.setRow g (bd cur1.toList (i*4) (vcur.toList.take (m*4))).toArray):=fun W hW ty dc=>
  wq W _ _ ty 73 4 g (i*4) (n+m-i) dc ⟨vb,0,none⟩ m vc cur1 te _ t33 hsz (by rw[hW];exact setRow_heap w.drew g cur cur1 te (0,0) hg)
   (by simp only[List.length_take,Array.length_toList,Nat.min_def];split<;>split<;>omega)
   (fun j v hj=>by
    have:=hcv j v hj;rw[Addr.add_lit,Nat.zero_add];unfold World.cell? at this ⊢;rw[hW,show(w.drew.setRow g cur1).heap[vb]? =w.heap[vb]? from setRow_other w.drew g vb cur1 hne];exact this) (by simp only[List.length_take,Array.length_toList];omega) h1v
 have hE:w.drew.setRow g (bd (bd cur.toList ((i+m)*4) ((cur.toList.take (n*4)).drop (i*4))) (i*4) (vcur.toList.take (m*4))).toArray=(w.drew.setRow g cur1).setRow g (bd cur1.toList (i*4) (vcur.toList.take (m*4))).toArray:=by
  rw[setRow_setRow,hcur1]
 rw[hE];clear hE hcur1;have hw1:IntKind.i64.wrap ((i:Int)+(m:Int))=(i:Int)+(m:Int):=by rw[IntKind.wrap_i64];omega
 have hb1:(0:Int)<=(i:Int)+(m:Int):=by omega
 have hin:i<=n:=by omega
 have htn:((i:Int)+(m:Int)).toNat=i+m:=by omega
 have hb2:¬(c=i+m):=by omega
 have hb3:(i:Int)<=(n:Int)+(m:Int):=by omega
 have hb4:¬(c=i):=by omega
 go_enter Tryz.func160,Tryz.ntmps160
 go_wp2_with (simp only[hov])
 go_region_law (refine IF rfl _ _ 26 26 rfl (.slice (some ⟨g,(i+m)*4,none⟩) (n+m-(i+m)) (c-(i+m))) (.slice (some ⟨g,i*4,none⟩) (n+m-i) (c-i)) (by simp[Act.eval,Act.put]) (by simp[Act.eval,Act.put]) (hcp1 _ _ _) ?_)
 go_wp2_with (at_builtin;refine Ik _ rfl _ _ 26 26 rfl _ _ rfl rfl (hcp2 _ rfl _ _) ?_)
 go_ret
 exact⟨rfl,rfl⟩
theorem Ya(xa:Option Addr)(vc:Nat)(w:World):
  Calls aa 160 #[.slice none 0 0,.int .i64 0,.slice xa 0 vc] w fun e w'=>e=.returned (.slice none 0 0)/\w'=w:=by
 go_enter Tryz.func160,Tryz.ntmps160
 go_wp2
 go_ret
 exact⟨rfl,rfl⟩
theorem X_(g n c i:Nat)(xa:Option Addr)(vc:Nat)(w:World)(hi:i<=n)(hnc:n<=c)(hc63:c<=9223372036854775807):
  Calls aa 160 #[.slice (some ⟨g,0,none⟩) n c,.int .i64 i,.slice xa 0 vc] w fun e w'=>e=.returned (.slice (some ⟨g,0,none⟩) n c)/\w'=w:=by
 go_enter Tryz.func160,Tryz.ntmps160
 go_wp2
 all_goals(go_ret;exact⟨rfl,rfl⟩)
theorem ZF(xa:Option Addr)(m vc:Nat)(w:World)(hm:0<m)(v':Value)(W:World)(hr:∀ty,(Builtin.append_ #[26,26] ty #[.slice none 0 0,.slice xa m vc]).run aa w=.ok v' W):
  Calls aa 160 #[.slice none 0 0,.int .i64 0,.slice xa m vc] w fun e w'=>e=.returned v'/\w'=W:=by
 have hz1:¬((m:Int)=0):=by omega
 go_enter Tryz.func160,Tryz.ntmps160
 go_wp2_with (at_builtin;refine AY _ rfl _ _ 26 26 rfl _ _ rfl rfl (hr _) ?_)
 go_ret
 exact⟨rfl,rfl⟩
theorem ZE(g n c:Nat)(xa:Option Addr)(m vc:Nat)(w:World)(hnc:n<=c)(hc63:c<=9223372036854775807)(hm:0<m)(v':Value)(W:World)(hr:∀ty,(Builtin.append_ #[26,26] ty #[.slice (some ⟨g,0,none⟩) n c,.slice xa m vc]).run aa w=.ok v' W):
  Calls aa 160 #[.slice (some ⟨g,0,none⟩) n c,.int .i64 n,.slice xa m vc] w fun e w'=>e=.returned v'/\w'=W:=by
 have hz1:¬((m:Int)=0):=by omega
 go_enter Tryz.func160,Tryz.ntmps160
 go_wp2_with (at_builtin;refine AY _ rfl _ _ 26 26 rfl _ _ rfl rfl (hr _) ?_)
 all_goals(go_ret;exact⟨rfl,rfl⟩)
theorem ZD(g n c i vb m vc:Nat)(cur vcur:Array Value)(te ve:TypeId)(w:World)(hi:i<n)(hm:0<m)(hnc:n<=c)(hroom:c<n+m)(hc63:c<=9223372036854775807)(hbig:(n+m)*48<=140737488355328)
  (hg:w.heap[g]? =some (.cells cur te (0,0))) (hv:w.heap[vb]? =some (.cells vcur ve (0,0))) (hcs:cur.size=c*4) (hvs:m*4<=vcur.size)
  (h1c:∀v∈cur.toList.take (n*4),v.oneCell'=true) (h1v:∀v∈vcur.toList.take (m*4),v.oneCell'=true):
  ∃G ROW,∃W:World,G<=maxLen/\n+m<=G/\ROW.size=G*4/\ROW.toList.take (i*4)=cur.toList.take (i*4)/\W.os=w.os/\W.tape=w.tape/\W.output=w.output/\W.heap=w.heap.push (.cells ROW 73 (0,0))/\
  Calls aa 160 #[.slice (some ⟨g,0,none⟩) n c,.int .i64 i,.slice (some ⟨vb,0,none⟩) m vc] w fun e w'=>
   e=.returned (.slice (some ⟨w.heap.size,0,none⟩) (n+m) G)/\w'.os=w.os/\w'.tape=w.tape/\w'.output=w.output/\
    w'.heap=(W.setRow w.heap.size (bd (bd ROW.toList (i*4) (vcur.toList.take (m*4))) ((i+m)*4) ((cur.toList.take (n*4)).drop (i*4))).toArray).heap:=by
 have t33:aa.underlying 26=some (.slice 73):=by kernel_rfl
 have t3:aa.underlying 3=some (.int .i64):=by kernel_rfl
 have hsz:(aa.info? 73).map (·.size)=some 4:=by kernel_rfl
 have hinfo:(aa.info? 73).map (fun i=>(i.zero.map (·.cells.size),i.size,i.bytes))=some (some 4,4,48):=by kernel_rfl
 obtain⟨i0,hi0,hzz⟩:=Option.map_eq_some_iff.1 hinfo;simp only[Prod.mk.injEq] at hzz;obtain⟨hz0,hzs,hzb⟩:=hzz;obtain⟨z,hz,hzc⟩:=Option.map_eq_some_iff.1 hz0;have hz1:¬((m:Int)=0):=by omega
 have hz2:¬((i:Int)=(n:Int)):=by omega
 have hz3:(c:Int)<(n:Int)+(m:Int):=by omega
 have hgw:g<w.heap.size:=(Array.getElem?_eq_some_iff.1 hg).1;have hvw:vb<w.heap.size:=(Array.getElem?_eq_some_iff.1 hv).1;have hkk:(n:Int)+(m:Int)-(i:Int)=((n+m-i:Nat):Int):=by omega
 have hik:i+(n+m-i)=n+m:=by omega
 have hdl:((cur.toList.take (n*4)).drop (i*4)).length=(n-i)*4:=by simp only[List.length_drop,List.length_take,Array.length_toList,hcs];rw[Nat.min_eq_left (by omega),Nat.sub_mul]
 have hcl:∀j v,(cur.toList.take (n*4))[j]? =some v->w.cell? ⟨g,j,none⟩=some v:=fun j v h=>by
  rw[List.getElem?_take] at h;split at h
  ·simpa[World.cell?,hg] using h
  ·cases h
 have hcv:∀j v,(vcur.toList.take (m*4))[j]? =some v->w.cell? ⟨vb,j,none⟩=some v:=fun j v h=>by
  rw[List.getElem?_take] at h;split at h
  ·simpa[World.cell?,hv] using h
  ·cases h
 have hold:(Builtin.firstCells i0.size i (.slice (some ⟨g,0,none⟩) i c)).run aa w.drew=.ok (cur.toList.take (i*4)).toArray w.drew:=by
  rw[hzs];exact run_firstCells_some w.drew 4 i ⟨g,0,none⟩ i c (cur.toList.take (i*4)) (by simp only[List.length_take,Array.length_toList,hcs];omega) (fun j v hj=>by
   rw[Addr.add_lit,Nat.zero_add];refine hcl j v ?_
   rw[List.getElem?_take] at hj ⊢;split at hj
   ·rw[if_pos (by omega)];exact hj
   ·cases hj)
 have hrz:∀ty,(Builtin.append_ #[26,3] ty #[.slice (some ⟨g,0,none⟩) i c,.int .i64 ((n:Int)+(m:Int)-(i:Int))]).run aa w=
   .ok (.slice (some ⟨w.heap.size,0,none⟩) (n+m) (grownCap w (n+m) c 73)) (w.drew.alloc (.cells ((cur.toList.take (i*4)).toArray++Builtin.zeroCells z.cells (n+m-i)++Builtin.zeroCells z.cells (grownCap w (n+m) c 73-(n+m))) 73)):=fun ty=>by
  have h:=Lib.run_append_grow_zeros w 26 3 ty 73 i0 z .i64 .i64 t33 t3 hi0 hz (some ⟨g,0,none⟩) i c (cur.toList.take (i*4)) hold (n+m-i) (by omega) (by omega) (by omega) (by omega) (by rw[hzb];omega) (by rw[hzb,hik];exact growslice_fits hroom hbig)
  rw[hik] at h;rw[hkk];exact h
 obtain⟨G,hG⟩:∃G,G=grownCap w (n+m) c 73:=⟨_,rfl⟩;obtain⟨ROW,hROW⟩:∃ROW:Array Value,ROW=(cur.toList.take (i*4)).toArray++Builtin.zeroCells z.cells (n+m-i)++Builtin.zeroCells z.cells (G-(n+m)):=⟨_,rfl⟩;rw[<-hG] at hrz;rw[<-hROW] at hrz;have hGn:n+m<=G:=by rw[hG];exact grownCap_ge w _ _ _
 have hGm:G<=maxLen:=by rw[hG];exact grownCap_le_maxLen w (n+m) c 73 (by unfold maxLen;omega)
 have hG63:G<=9223372036854775807:=by unfold maxLen at hGm;omega
 have hRl:ROW.size=G*4:=by
  rw[hROW];simp only[Array.size_append,List.size_toArray,size_zeroCells,hzc,List.length_take,Array.length_toList,hcs];omega
 have hRt:ROW.toList.take (i*4)=cur.toList.take (i*4):=by
  rw[hROW];simp only[Array.toList_append,List.append_assoc];have:i*4=(cur.toList.take (i*4)).length:=by simp only[List.length_take,Array.length_toList,hcs];omega
  exact List.take_left' this.symm
 refine⟨G,ROW,w.drew.alloc (.cells ROW 73),hGm,hGn,hRl,hRt,rfl,rfl,rfl,rfl,?_⟩;obtain⟨W1,hW1⟩:∃W1,W1=w.drew.alloc (.cells ROW 73):=⟨_,rfl⟩;rw[<-hW1] at hrz ⊢;have hNew:W1.heap[w.heap.size]? =some (.cells ROW 73 (0,0)):=by rw[hW1];exact heap_alloc_new w.drew _
 have hOld:∀b,b<w.heap.size->W1.heap[b]? =w.heap[b]? :=fun b hb=>by rw[hW1];exact RowKit.Below.heap_alloc w.drew _ b hb
 have hos:W1.os=w.os/\W1.tape=w.tape/\W1.output=w.output:=by rw[hW1];exact⟨rfl,rfl,rfl⟩
 have hgN:g≠w.heap.size:=by omega
 have hvN:vb≠w.heap.size:=by omega
 have hcpA:∀(W:World),W.heap=W1.heap->∀ty dc,(Builtin.copy_ #[26,26] ty #[.slice (some ⟨w.heap.size,i*4,none⟩) (n+m-i) dc,.slice (some ⟨vb,0,none⟩) m vc]).run aa W=
   .ok (goInt (Nat.min m (n+m-i))) (W.setRow w.heap.size (bd ROW.toList (i*4) (vcur.toList.take (m*4))).toArray):=fun W hW ty dc=>
  wq W _ _ ty 73 4 w.heap.size (i*4) (n+m-i) dc ⟨vb,0,none⟩ m vc ROW 73 _ t33 hsz (by rw[hW];exact hNew)
   (by simp only[List.length_take,Array.length_toList,Nat.min_def];split<;>split<;>omega)
   (fun j v hj=>by
    have:=hcv j v hj;rw[Addr.add_lit,Nat.zero_add];unfold World.cell? at this ⊢;rw[hW,show W1.heap[vb]? =w.heap[vb]? from hOld vb hvw];exact this) (by simp only[List.length_take,Array.length_toList];omega) h1v
 obtain⟨R2,hR2⟩:∃R2,R2=(bd ROW.toList (i*4) (vcur.toList.take (m*4))).toArray:=⟨_,rfl⟩;have hE:W1.setRow w.heap.size (bd (bd ROW.toList (i*4) (vcur.toList.take (m*4))) ((i+m)*4) ((cur.toList.take (n*4)).drop (i*4))).toArray=
   (W1.setRow w.heap.size R2).setRow w.heap.size (bd R2.toList ((i+m)*4) ((cur.toList.take (n*4)).drop (i*4))).toArray:=by rw[setRow_setRow,hR2]
 rw[hE];have hR2s:R2.size=G*4:=by rw[hR2];simp only[bd,List.size_toArray,List.length_append,List.length_drop,List.length_take,Array.length_toList,hRl];omega
 rw[<-hR2] at hcpA;clear hE hR2;have hcpB:∀(W:World),W.heap=(W1.setRow w.heap.size R2).heap->∀ty dc sc,(Builtin.copy_ #[26,26] ty #[.slice (some ⟨w.heap.size,(i+m)*4,none⟩) (n+m-(i+m)) dc,.slice (some ⟨g,i*4,none⟩) (n-i) sc]).run aa W=
   .ok (goInt (Nat.min (n-i) (n+m-(i+m)))) (W.setRow w.heap.size (bd R2.toList ((i+m)*4) ((cur.toList.take (n*4)).drop (i*4))).toArray):=fun W hW ty dc sc=>
  wq W _ _ ty 73 4 w.heap.size ((i+m)*4) (n+m-(i+m)) dc ⟨g,i*4,none⟩ (n-i) sc R2 73 _ t33 hsz (by rw[hW];exact setRow_heap W1 w.heap.size ROW R2 73 (0,0) hNew)
   (by rw[hdl];simp only[Nat.min_def];split<;>omega)
   (fun j v hj=>by
    have:=hcl (i*4+j) v (by rwa[List.getElem?_drop] at hj)
    rw[Addr.add_lit];unfold World.cell? at this ⊢;rw[hW,show(W1.setRow w.heap.size R2).heap[g]? =w.heap[g]? from(setRow_other W1 w.heap.size g R2 hgN).trans (hOld g hgw)];exact this) (by rw[hdl,hR2s];omega) (fun v hv=>h1c v (List.mem_of_mem_drop hv))
 have hGi:¬(G=i):=by omega
 have hGim:¬(G=i+m):=by omega
 have hci:¬(c=i):=by omega
 have hw1:IntKind.i64.wrap ((i:Int)+(m:Int))=(i:Int)+(m:Int):=by rw[IntKind.wrap_i64];omega
 have hb1:(0:Int)<=(i:Int)+(m:Int):=by omega
 have hin:i<=n:=by omega
 have htn:((i:Int)+(m:Int)).toNat=i+m:=by omega
 have hb3:(i:Int)<=(n:Int):=by omega
 clear hkk hik hold hROW hG hRl hW1;go_enter Tryz.func160,Tryz.ntmps160
 go_wp2_with (first
  |(at_builtin;refine AY _ rfl _ _ 26 3 rfl _ _ rfl rfl (hrz _) ?_)
  |(at_builtin;refine Ik _ rfl _ _ 26 26 rfl _ _ rfl rfl (hcpA _ rfl _ _) ?_))
 go_region_law (refine IF rfl _ _ 26 26 rfl (.slice (some ⟨w.heap.size,(i+m)*4,none⟩) (n+m-(i+m)) (G-(i+m))) (.slice (some ⟨g,i*4,none⟩) (n-i) (c-i)) (by simp[Act.eval,Act.put]) (by simp[Act.eval,Act.put]) (hcpB (W1.setRow w.heap.size R2).drew rfl 3 (G-(i+m)) (c-i)) ?_)
 go_wp2
 go_ret
 exact⟨rfl,hos.1,hos.2.1,hos.2.2,rfl⟩
noncomputable def NB:a0:=Dr .entry 48
theorem abQ:a4 aa 160 NB:=X8 (t:=.entry) (bt:=48) rfl (by decide) (T:=26) (e:=73) ⟨Ya,X_,ZF,ZE,X9,ZD⟩ (fun vs w=>enters_of Tryz.func160 (by kernel_rfl) rfl _ _) (by kernel_rfl) (by kernel_rfl)
noncomputable abbrev ajL:bz:=[(86,Hm),(87,Hl),(159,FU),(160,NB)]
theorem AH:a9 aa (bo az ajL):=bB ⟨QM,QL,NO,abQ,⟨⟩⟩
abbrev LU:Shape:=⟨[aX 0 .entry,aX 1 .entry],[],59⟩
abbrev LP:List be:=[(.norm,⟨[aX 0 .entry,aX 1 .entry,a3 18],[],59⟩)]
noncomputable def Ek(y:LU.H):Option (aR LP):=
(f86 ((y.1.1,()),())).bind fun a=>
 bif(!(!a.1.1)) then
(f86 ((y.1.2.1,()),())).bind fun b=>
 some ((y.1.1,y.1.2.1,(!b.1.1),()),())
else
 some ((y.1.1,y.1.2.1,true,()),())
theorem aaM:bl aa (aH (codeOf Tryz.f97) 1 12) (bC LU LP Ek):=eh AH (by kernel_rfl) aw fun y=>by kernel_rfl
abbrev I':Shape:=⟨[b8 6 3000384,b7 8 8 0,ah 9,aX 21 .entry,ah 22,ah 23],[cq 3000384 .entry 6 0,b6 8 [bD,cM,cM,bD]],59⟩
abbrev I7:List be:=[(.norm,⟨[b8 6 3000384,aX 21 .entry,ah 22,ah 23,a3 42,b7 43 8 1,ah 44,a3 45,a3 46,a3 53],[cq 3000384 .entry 6 0,b6 8 [bD,cM,cM,bD]],59⟩)]
noncomputable def Bf(y:I'.H):Option (aR I7):=
 bif(y.2.2.1.2.1 !=(1:Int)) then
 some (((),y.1.2.2.2.1,y.1.2.2.2.2.1,y.1.2.2.2.2.2.1,true,(),y.2.2.1.2.1,(y.2.2.1.2.1 !=(1:Int)),true,true,()),y.2.1,(y.2.2.1.1,y.2.2.1.2.1,y.2.2.1.2.2.1,y.2.2.1.2.2.2.1,()),())
else
(fa y.2.1.length y.1.2.2.1).bind fun a=>
(y.2.1[a]?).bind fun b=>
 some (((),y.1.2.2.2.1,y.1.2.2.2.2.1,y.1.2.2.2.2.2.1,(!((b.path==y.2.2.1.1)&&((b.kind==y.2.2.1.2.1)&&((b.mode==y.2.2.1.2.2.1)&&(b.text==y.2.2.1.2.2.2.1))))),(),y.2.2.1.2.1,(y.2.2.1.2.1 !=(1:Int)),false,(!((b.path==y.2.2.1.1)&&((b.kind==y.2.2.1.2.1)&&((b.mode==y.2.2.1.2.2.1)&&(b.text==y.2.2.1.2.2.2.1))))),()),y.2.1,(y.2.2.1.1,y.2.2.1.2.1,y.2.2.1.2.2.1,y.2.2.1.2.2.2.1,()),())
theorem Wg:bl aa (aH (dz (aH (codeOf Tryz.f97) 1 122)) 244 250678) (bC I' I7 Bf):=eh AH (by kernel_rfl) aw fun y=>by kernel_rfl
abbrev xi:Shape:=⟨[b8 6 3000384,aX 21 .entry,ah 22,ah 23],[cq 3000384 .entry 6 0],59⟩
abbrev ph:List be:=[(.ret,⟨[b8 4 3000256,a3 5],[cq 3000256 .entry 4 0],59⟩),(.exit 0,⟨[b8 6 3000384],[cq 3000384 .entry 6 0],59⟩)]
noncomputable def xT(y:xi.H):cA xi ph:=
 bif(decide (y.1.2.2.2.1<y.1.2.2.1)) then
(bg y.1.2.1 y.1.2.2.2.1).bind fun a=>
(f87 ((y.2.1,a.path,()),())).bind fun b=>
 bif(!b.1.2.1) then
(sa 48 y.2.1 b.1.1 ([a]:List aZ)).bind fun c=>
 some (.inl (((),y.1.2.1,y.1.2.2.1,(IntKind.i64.wrap (y.1.2.2.2.1+(1:Int))),()),c,()))
else
(Bf (((),(),b.1.1,y.1.2.1,y.1.2.2.1,y.1.2.2.2.1,()),y.2.1,(a.path,a.kind,a.mode,a.text,()),())).bind fun d=>
 bif d.1.2.2.2.2.1 then
 some (.inr (.inl (((),false,()),([]:List aZ),())))
else
 some (.inl (((),d.1.2.1,d.1.2.2.1,(IntKind.i64.wrap (d.1.2.2.2.1+(1:Int))),()),d.2.1,()))
else
 some (.inr (.inr (((),()),y.2.1,())))
noncomputable def C7:xi.H->Option (aR ph):=bK xT
theorem _e:bl aa (aH (codeOf Tryz.f97) 1 122) (bC xi ph C7):=cB AH (by kernel_rfl) (bG Wg aw) fun y=>by kernel_rfl
abbrev i97:Shape:=⟨[aX 0 .entry,aX 1 .entry],[],59⟩
abbrev Q2:Shape:=⟨[b8 4 3000256,a3 5],[cq 3000256 .entry 4 0],59⟩
noncomputable def f97(a:i97.H):Option Q2.H:=
(Ek ((a.1.1,a.1.2.1,()),())).bind fun b=>
 bif b.1.2.2.1 then
 some (((),false,()),([]:List aZ),())
else
(f159 ((b.1.1,()),())).bind fun c=>
(C7 (((),b.1.2.1,(b.1.2.1.length:Int),(0:Int),()),c.2.1,())).bind fun d=>
(match d with
|.inl e=>
 some (((),e.1.2.1,()),e.2.1,())
|.inr f=>
(f86 ((f.2.1,()),())).bind fun g=>
 bif(!g.1.1) then
 some (((),false,()),([]:List aZ),())
else
 some (((),true,()),f.2.1,()))
noncomputable def Su:a0:=a' az Tryz.f97 i97 Q2 [] f97
theorem agq:a4 aa 97 Su:=bb AH Tryz.func97 (by kernel_rfl) (bG aaM (bG _e aw)) (fun y=>by kernel_rfl) fun a=>by kernel_rfl
noncomputable abbrev aj3:bz:=[(97,Su)]
theorem Tf:a9 aa (bo az aj3):=bB ⟨agq,⟨⟩⟩
abbrev yC:Shape:=⟨[b8 4 3000256,aX 9 .pack,ah 10,ah 11],[cq 3000256 .entry 4 0],27⟩
abbrev pk:List be:=[(.ret,⟨[b8 2 3000128,a3 3],[cq 3000128 .entry 2 0],27⟩),(.exit 0,⟨[b8 4 3000256],[cq 3000256 .entry 4 0],27⟩)]
noncomputable def yX(y:yC.H):cA yC pk:=
 bif(decide (y.1.2.2.2.1<y.1.2.2.1)) then
(bg y.1.2.1 y.1.2.2.2.1).bind fun a=>
(f97 ((y.2.1,a.b4,()),())).bind fun b=>
 bif(!b.1.2.1) then
 some (.inr (.inl (((),false,()),([]:List aZ),())))
else
 some (.inl (((),y.1.2.1,y.1.2.2.1,(IntKind.i64.wrap (y.1.2.2.2.1+(1:Int))),()),b.2.1,()))
else
 some (.inr (.inr (((),()),y.2.1,())))
noncomputable def Ed:yC.H->Option (aR pk):=bK yX
theorem aa1:bl aa (aH (codeOf Tryz.f52) 1 58) (bC yC pk Ed):=cB Tf (by kernel_rfl) aw fun y=>by kernel_rfl
abbrev i52:Shape:=⟨[aX 0 .pack],[],27⟩
abbrev Ro:Shape:=⟨[b8 2 3000128,a3 3],[cq 3000128 .entry 2 0],27⟩
noncomputable def f52(a:i52.H):Option Ro.H:=
(Ed (((),a.1.1,(a.1.1.length:Int),(0:Int),()),([]:List aZ),())).bind fun b=>
(match b with
|.inl c=>
 some (((),c.1.2.1,()),c.2.1,())
|.inr d=>
 some (((),true,()),d.2.1,()))
noncomputable def SJ:a0:=a' az Tryz.f52 i52 Ro [] f52
theorem agF:a4 aa 52 SJ:=bb Tf Tryz.func52 (by kernel_rfl) (bG aa1 aw) (fun y=>by kernel_rfl) fun a=>by kernel_rfl
theorem BJ:∀(r:List aZ) (out D:List aZ),(∀e,e∈r->mN e)->(∀e,e∈out->mN e)->gj out r=some D->D.length<=out.length+r.length/\∀e,e∈D->mN e:=by
 intro r;induction r with
 |nil=>intro out D _ h2 h;cases h;exact⟨Nat.le_refl _,h2⟩
 |cons e r ih=>
  intro out D h1 h2 h;rw[s9] at h;obtain⟨o1,Z,aI⟩:=Option.bind_eq_some_iff.1 h;have bp:=ih o1 D (fun x hx=>h1 x (List.mem_cons_of_mem _ hx)) (fun x hx=>by
   rcases Bv Z hx with rfl|h
   ·exact h1 x List.mem_cons_self
   ·exact h2 x h) aI
  have db:=wy Z;exact⟨by simp only[List.length_cons];omega,bp.2⟩
theorem A'{t:List aZ}(h:eA t=true):e7 t:=by
 unfold eA at h;simp only[Bool.and_eq_true] at h;exact MG h.1.1
theorem s8{t:List aZ}(h:eA t=true):t.length<=16:=by
 unfold eA at h;simp only[Bool.and_eq_true,decide_eq_true_eq] at h;exact h.2
theorem Kk(a)(M:cg a.1.1.length):f159 a=some (((),()),(a.1.1,())):=by
 obtain⟨⟨xs,u⟩,bx⟩:=a;have M:xs.length<=2097152:=M;have h2:(dB 48 ([]:List aZ) xs).bind (fun x=>some (((),()),(x,())))=(some (((),()),(xs,())):Option Fa.H):=by
  rw[hJ (by decide) (by unfold aD;simp only[List.length_nil];omega)];rfl
 simp only[f159];rw[h2];unfold nb;split
 ·rfl
 ·rename_i h;exact absurd (fun he:xs=[]=>by subst he;rfl) h
theorem VZ(a)(a5:lD a.1.1)(hb:lD a.1.2.1)(h1:eA a.1.1=true)(h2:eA a.1.2.1=true):f97 a=
  some (match gj a.1.1 a.1.2.1 with|some out=>(bif eA out then(((),(true,())),(out,())) else(((),(false,())),(([]:List aZ),())))|none=>(((),(false,())),(([]:List aZ),()))):=by
 obtain⟨⟨xs,ys,u⟩,bx⟩:=a;have h1:eA xs=true:=h1;have h2:eA ys=true:=h2;have amw:=s8 h1;have amv:=s8 h2;have e1:=wx ((xs,()),()) a5;have e2:=wx ((ys,()),()) hb;have bI:=Kk ((xs,()),()) (show xs.length<=2097152 by omega)
 have key:C7 (((),(ys,((ys.length:Int),((0:Int),())))),(xs,()))=_:=l9 xT ys (fun i (out:List aZ)=>(((),(ys,((ys.length:Int),((i:Int),())))),(out,())))
  (fun i e out=>some (match gW out e with|some D=>.inl D|none=>.inr ((.inl (((),(false,())),(([]:List aZ),()))):aR ph))) (fun out=>((.inr (((),()),(out,()))):aR ph))
  (fun i out=>out.length<=xs.length+i/\e7 out) xs ⟨Nat.le_refl _,A' h1⟩ (fun i x out hx cW=>?_) (fun out _=>?_)
 ·have fold:∀(r:List aZ) (k:Nat) (out:List aZ),eB (fun i e out=>some (match gW out e with|some D=>.inl D|none=>.inr ((.inl (((),(false,())),(([]:List aZ),()))):aR ph))) (fun out=>((.inr (((),()),(out,()))):aR ph)) k r out=
    some (match gj out r with|some D=>.inr (((),()),(D,()))|none=>.inl (((),(false,())),(([]:List aZ),()))):=by
   intro r;induction r with
   |nil=>intro k out;rfl
   |cons e r ih=>
    intro k out;rw[s9];simp only[eB];cases gW out e with
    |none=>rfl
    |some D=>simp only[Option.bind_some];exact ih _ _
  rw[fold] at key;simp only[f97,Ek,e1,e2,h1,h2,bI,Bool.not_true,Bool.not_false,cond_true,cond_false,Option.bind_some,key];cases hj:gj xs ys with
  |none=>rfl
  |some D=>
   have hm:=BJ ys xs D hb.2 a5.2 hj;simp only[Option.bind_some];rw[wx _ ⟨show D.length<=2097152 by omega,hm.2⟩]
   simp only[Option.bind_some];cases eA D<;>rfl
 ·have hi:=ca hx;have hw:aD i:=by unfold aD;omega
  refine⟨?_,fun am ab=>?_⟩
  ·have ki:=IB ((out,(x.path,())),()) (show out.length<=2097152 by omega) cW.2
   have k2:=qU out x.path;simp only[xT,ce hi,cond_true,bZ,hx,Option.bind_some,ki,ju,gW];have grow:sa 48 out (bQ out x.path:Int) [x]=some (iO out (bQ out x.path) x):=by
    unfold sa;rw[if_pos ⟨by omega,by omega,by unfold room;simp only[List.length_cons,List.length_nil];omega,by unfold maxLen;simp only[List.length_cons,List.length_nil];omega⟩,Int.toNat_natCast]
    rfl
   cases aF:out[bQ out x.path]? with
   |none=>simp only[Bool.not_false,cond_true,grow,Option.bind_some,b_ hw];rfl
   |some q=>
    have hin:=mb (ca aF);simp only;cases al:(q.path==x.path) with
    |false=>simp only[Bool.not_false,cond_true,grow,Option.bind_some,b_ hw,cond_false];rfl
    |true=>
     have Aw:((q.path==x.path)&&((q.kind==x.kind)&&((q.mode==x.mode)&&(q.text==x.text))))=jJ q x:=rfl;simp only[Bool.not_true,cond_false,cond_true,Bf,hin,aF,Option.bind_some,lB,ZM x q];cases ag:(x.kind !=1) with
     |true=>rfl
     |false=>
      have aeT:(jJ q x)=((q.path==x.path)&&((q.kind==x.kind)&&((q.mode==x.mode)&&(q.text==x.text)))):=rfl;rw[aeT];cases ((q.path==x.path)&&((q.kind==x.kind)&&((q.mode==x.mode)&&(q.text==x.text)))) with
      |false=>rfl
      |true=>simp only[Bool.not_true,Bool.false_or,cond_false,Option.bind_some,b_ hw];rfl
  ·simp only[Option.some.injEq] at ab;cases M:gW out x with
   |none=>rw[M] at ab;cases ab
   |some D=>
    rw[M] at ab;cases ab;have db:=wy M;exact⟨by omega,Xu cW.2 M⟩
 ·simp only[xT,cX,cond_false]
def e9(out:List aZ):List aU->Option (List aZ)
 |[]=>some out
 |p::r=>match gj out p.b4 with
  |some D=>bif eA D then e9 D r else none
  |none=>none
def stepT(out:List aZ)(p:aU):Option (List aZ):=match gj out p.b4 with
 |some D=>bif eA D then some D else none
 |none=>none
theorem wj(out:List aZ)(p:aU)(r:List aU):e9 out (p::r)=(stepT out p).bind fun D=>e9 D r:=by
 unfold stepT;rw[e9];cases gj out p.b4 with
 |none=>rfl
 |some D=>simp only;cases eA D<;>rfl
theorem wZ{out D:List aZ}{p:aU}(h:stepT out p=some D):eA D=true/\gj out p.b4=some D:=by
 unfold stepT at h;split at h
 ·rename_i cY aq;cases aC:eA cY with
  |true=>rw[aC] at h;cases h;exact⟨aC,aq⟩
  |false=>rw[aC] at h;cases h
 ·cases h
theorem W6(a)(hb:eC a.1.1)(ag:a.1.1.all dY=true):f51 a=some (((),((e9 [] a.1.1).isSome,())),((e9 [] a.1.1).getD [],())):=by
 obtain⟨⟨ps,u⟩,bx⟩:=a;have hl:ps.length<=2097152:=hb.1;have GB:∀p,p∈ps->eA p.b4=true/\lD p.b4:=by
  intro p al;have:=List.all_eq_true.1 ag p al;unfold dY at this;simp only[Bool.and_eq_true] at this;exact⟨this.2,(hb.2 p al).2.2.2⟩
 have key:Ee ((ps,((),((0:Int),()))),(([]:List aZ),()))=_:=l9 yY ps (fun i (out:List aZ)=>((ps,((),((i:Int),()))),(out,())))
  (fun i p out=>some (match stepT out p with|some D=>.inl D|none=>.inr ((.inl (((),(false,())),(([]:List aZ),()))):aR pm))) (fun out=>((.inr (((),()),(out,()))):aR pm))
  (fun i out=>out.length<=16/\∀e,e∈out->mN e) [] ⟨Nat.zero_le _,fun e h=>by cases h⟩ (fun i x out hx cW=>?_) (fun out _=>?_)
 ·have fold:∀(r:List aU) (k:Nat) (out:List aZ),eB (fun i p out=>some (match stepT out p with|some D=>.inl D|none=>.inr ((.inl (((),(false,())),(([]:List aZ),()))):aR pm))) (fun out=>((.inr (((),()),(out,()))):aR pm)) k r out=
    some (match e9 out r with|some D=>.inr (((),()),(D,()))|none=>.inl (((),(false,())),(([]:List aZ),()))):=by
   intro r;induction r with
   |nil=>intro k out;rfl
   |cons p r ih=>
    intro k out;rw[wj];simp only[eB];cases stepT out p with
    |none=>rfl
    |some D=>simp only[Option.bind_some];exact ih _ _
  rw[fold] at key;simp only[f51,key,Option.bind_some];cases e9 [] ps with
  |none=>rfl
  |some D=>rfl
 ·have hi:=ca hx;have hw:aD i:=by unfold aD;omega
  obtain⟨GC,k5⟩:=GB x (List.mem_of_getElem? hx);have G7:=s8 GC;have dT:lD out:=⟨show out.length<=2097152 by omega,cW.2⟩
  refine⟨?_,fun am ab=>?_⟩
  ·have hj:=YG ((out,(x.b4,())),()) dT k5 (show out.length+x.b4.length<=2097152 by omega)
   simp only[yY,ce hi,cond_true,bZ,hx,Option.bind_some,hj,stepT];cases gj out x.b4 with
   |none=>rfl
   |some D=>
    simp only;cases eA D with
    |false=>rfl
    |true=>simp only[Bool.not_true,cond_false,cond_true,b_ hw];rfl
  ·simp only[Option.some.injEq] at ab;cases M:stepT out x with
   |none=>rw[M] at ab;cases ab
   |some D=>
    rw[M] at ab;cases ab;obtain⟨bp,db⟩:=wZ M;exact⟨s8 bp,(BJ _ _ _ k5.2 cW.2 db).2⟩
 ·simp only[yY,cX,cond_false]
theorem Kd(a)(hb:eC a.1.1)(ag:a.1.1.all dY=true):∃out,f51 a=some (((),((e9 [] a.1.1).isSome,())),(out,())):=⟨_,W6 a hb ag⟩
theorem UC(a)(hb:eC a.1.1)(ag:a.1.1.all dY=true):f52 a=some (((),((e9 [] a.1.1).isSome,())),((e9 [] a.1.1).getD [],())):=by
 obtain⟨⟨ps,u⟩,bx⟩:=a;have hl:ps.length<=2097152:=hb.1;have GB:∀p,p∈ps->eA p.b4=true/\lD p.b4:=by
  intro p al;have:=List.all_eq_true.1 ag p al;unfold dY at this;simp only[Bool.and_eq_true] at this;exact⟨this.2,(hb.2 p al).2.2.2⟩
 have key:Ed (((),(ps,((ps.length:Int),((0:Int),())))),(([]:List aZ),()))=_:=l9 yX ps (fun i (out:List aZ)=>(((),(ps,((ps.length:Int),((i:Int),())))),(out,())))
  (fun i p out=>some (match stepT out p with|some D=>.inl D|none=>.inr ((.inl (((),(false,())),(([]:List aZ),()))):aR pk))) (fun out=>((.inr (((),()),(out,()))):aR pk))
  (fun i out=>eA out=true/\∀e,e∈out->mN e) [] ⟨rfl,fun e h=>by cases h⟩ (fun i x out hx cW=>?_) (fun out _=>?_)
 ·have fold:∀(r:List aU) (k:Nat) (out:List aZ),eB (fun i p out=>some (match stepT out p with|some D=>.inl D|none=>.inr ((.inl (((),(false,())),(([]:List aZ),()))):aR pk))) (fun out=>((.inr (((),()),(out,()))):aR pk)) k r out=
    some (match e9 out r with|some D=>.inr (((),()),(D,()))|none=>.inl (((),(false,())),(([]:List aZ),()))):=by
   intro r;induction r with
   |nil=>intro k out;rfl
   |cons p r ih=>
    intro k out;rw[wj];simp only[eB];cases stepT out p with
    |none=>rfl
    |some D=>simp only[Option.bind_some];exact ih _ _
  rw[fold] at key;simp only[f52,key,Option.bind_some];cases e9 [] ps with
  |none=>rfl
  |some D=>rfl
 ·have hi:=ca hx;have hw:aD i:=by unfold aD;omega
  obtain⟨GC,k5⟩:=GB x (List.mem_of_getElem? hx);have G7:=s8 cW.1;have dT:lD out:=⟨show out.length<=2097152 by omega,cW.2⟩
  refine⟨?_,fun am ab=>?_⟩
  ·have hj:=VZ ((out,(x.b4,())),()) dT k5 cW.1 GC;simp only[yX,ce hi,cond_true,bZ,hx,Option.bind_some,hj,stepT];cases gj out x.b4 with
   |none=>rfl
   |some D=>
    simp only;cases eA D with
    |false=>rfl
    |true=>simp only[Bool.not_true,cond_false,cond_true,b_ hw];rfl
  ·simp only[Option.some.injEq] at ab;cases M:stepT out x with
   |none=>rw[M] at ab;cases ab
   |some D=>
    rw[M] at ab;cases ab;obtain⟨bp,db⟩:=wZ M;exact⟨bp,(BJ _ _ _ k5.2 cW.2 db).2⟩
 ·simp only[yX,cX,cond_false]
theorem U_(a)(hb:eC a.1.1)(ag:a.1.1.all dY=true):∃out,f52 a=some (((),((e9 [] a.1.1).isSome,())),(out,())):=⟨_,UC a hb ag⟩
abbrev KH:Shape:=⟨[aX 0 .i64,aX 1 .i64,ah 5],[],42⟩
abbrev Kv:List be:=[(.norm,⟨[aX 0 .i64,aX 1 .i64,ah 5],[],42⟩),(.exit 0,⟨[],[],42⟩)]
noncomputable def qO(y:KH.H):Option (aR Kv):=
 bif(!(decide (y.1.2.2.1<(y.1.1.length:Int)))) then
 bif(decide (y.1.2.2.1<(y.1.2.1.length:Int))) then
 some (.inl ((y.1.1,y.1.2.1,y.1.2.2.1,()),()))
else
 some (.inr ((),()))
else
 some (.inl ((y.1.1,y.1.2.1,y.1.2.2.1,()),()))
theorem Zg:bl aa (aH (dz (aH (codeOf Tryz.f182) 1 26)) 52 104) (bC KH Kv qO):=eh g0 (by kernel_rfl) aw fun y=>by kernel_rfl
abbrev JJ:Shape:=⟨[aX 0 .i64,aX 1 .i64,ah 5,ah 6,ah 7],[],42⟩
abbrev Jz:List be:=[(.norm,⟨[aX 0 .i64,aX 1 .i64,ah 5,ah 6,ah 7],[],42⟩)]
noncomputable def tg(y:JJ.H):Option (aR Jz):=
 bif(decide (y.1.2.2.1<(y.1.1.length:Int))) then
(bg y.1.1 y.1.2.2.1).bind fun a=>
 some ((y.1.1,y.1.2.1,y.1.2.2.1,a,y.1.2.2.2.2.1,()),())
else
 some ((y.1.1,y.1.2.1,y.1.2.2.1,y.1.2.2.2.1,y.1.2.2.2.2.1,()),())
theorem XK:bl aa (aH (dz (aH (codeOf Tryz.f182) 1 26)) 52 3366) (bC JJ Jz tg):=eh g0 (by kernel_rfl) aw fun y=>by kernel_rfl
abbrev JI:Shape:=⟨[aX 0 .i64,aX 1 .i64,ah 5,ah 6,ah 7],[],42⟩
abbrev Jy:List be:=[(.norm,⟨[aX 0 .i64,aX 1 .i64,ah 5,ah 6,ah 7],[],42⟩)]
noncomputable def tf(y:JI.H):Option (aR Jy):=
 bif(decide (y.1.2.2.1<(y.1.2.1.length:Int))) then
(bg y.1.2.1 y.1.2.2.1).bind fun a=>
 some ((y.1.1,y.1.2.1,y.1.2.2.1,y.1.2.2.2.1,a,()),())
else
 some ((y.1.1,y.1.2.1,y.1.2.2.1,y.1.2.2.2.1,y.1.2.2.2.2.1,()),())
theorem XJ:bl aa (aH (dz (aH (codeOf Tryz.f182) 1 26)) 52 6734) (bC JI Jy tf):=eh g0 (by kernel_rfl) aw fun y=>by kernel_rfl
abbrev xz:Shape:=⟨[aX 0 .i64,aX 1 .i64,ah 5],[],42⟩
abbrev CN:List be:=[(.ret,⟨[ah 4],[],42⟩),(.exit 0,⟨[],[],42⟩)]
noncomputable def q3(y:xz.H):cA xz CN:=
(qO ((y.1.1,y.1.2.1,y.1.2.2.1,()),())).bind fun a=>
(match a with
|.inl b=>
(tg ((b.1.1,b.1.2.1,b.1.2.2.1,((-1):Int),((-1):Int),()),())).bind fun c=>
(tf ((c.1.1,c.1.2.1,c.1.2.2.1,c.1.2.2.2.1,c.1.2.2.2.2.1,()),())).bind fun d=>
 bif(decide (d.1.2.2.2.1<d.1.2.2.2.2.1)) then
 some (.inr (.inl ((((-1):Int),()),())))
else
 bif(decide (d.1.2.2.2.1>d.1.2.2.2.2.1)) then
 some (.inr (.inl (((1:Int),()),())))
else
 some (.inl ((d.1.1,d.1.2.1,(IntKind.i64.wrap (d.1.2.2.1+(1:Int))),()),()))
|.inr e=>
 some (.inr (.inr ((),()))))
noncomputable def nj:xz.H->Option (aR CN):=bK q3
theorem _x:bl aa (aH (codeOf Tryz.f182) 1 26) (bC xz CN nj):=cB g0 (by kernel_rfl) (bG Zg (bG XK (bG XJ aw))) fun y=>by kernel_rfl
abbrev i182:Shape:=⟨[aX 0 .i64,aX 1 .i64],[],42⟩
abbrev E9:Shape:=⟨[ah 4],[],42⟩
noncomputable def f182(a:i182.H):Option E9.H:=
(nj ((a.1.1,a.1.2.1,(0:Int),()),())).bind fun b=>
(match b with
|.inl c=>
 some ((c.1.1,()),())
|.inr d=>
 some (((0:Int),()),()))
noncomputable def P2:a0:=a' az Tryz.f182 i182 E9 [] f182
theorem ado:a4 aa 182 P2:=bb g0 Tryz.func182 (by kernel_rfl) (bG _x aw) (fun y=>by kernel_rfl) fun a=>by kernel_rfl
noncomputable abbrev afN:bz:=[(181,FR),(182,P2)]
theorem QE:a9 aa (bo az afN):=bB ⟨NL,ado,⟨⟩⟩
abbrev Lj:Shape:=⟨[b8 5 3000320,a3 6,b8 7 3000448,a3 8],[cq 3000320 .i64 5 0,cq 3000448 .i64 7 0],28⟩
abbrev La:List be:=[(.norm,⟨[b8 5 3000320,b8 7 3000448,a3 24],[cq 3000320 .i64 5 0,cq 3000448 .i64 7 0],28⟩)]
noncomputable def DA(y:Lj.H):Option (aR La):=
 bif(!(!y.1.2.1)) then
 some (((),(),(!y.1.2.2.2.1),()),y.2.1,y.2.2.1,())
else
 some (((),(),true,()),y.2.1,y.2.2.1,())
theorem _K:bl aa (aH (codeOf Tryz.f126) 1 60) (bC Lj La DA):=eh QE (by kernel_rfl) aw fun y=>by kernel_rfl
abbrev i126:Shape:=⟨[bk 0,bk 1],[],28⟩
abbrev OL:Shape:=⟨[ah 4],[],28⟩
noncomputable def f126(a:i126.H):Option OL.H:=
(f181 ((a.1.1,()),())).bind fun b=>
(f181 ((a.1.2.1,()),())).bind fun c=>
(DA (((),b.1.2.1,(),c.1.2.1,()),b.2.1,c.2.1,())).bind fun d=>
 bif d.1.2.2.1 then
 some (((0:Int),()),())
else
(f182 ((d.2.1,d.2.2.1,()),())).bind fun e=>
 some ((e.1.1,()),())
noncomputable def Qf:a0:=a' az Tryz.f126 i126 OL [] f126
theorem adD:a4 aa 126 Qf:=bb QE Tryz.func126 (by kernel_rfl) (bG _K aw) (fun y=>by kernel_rfl) fun a=>by kernel_rfl
abbrev i259:Shape:=⟨[ah 0],[],6⟩
abbrev N9:Shape:=⟨[a3 2],[],6⟩
noncomputable def f259(a:i259.H):Option N9.H:=
 some (((a.1.1 !=a.1.1),()),())
noncomputable def PJ:a0:=a' az Tryz.f259 i259 N9 [] f259
theorem ac3:a4 aa 259 PJ:=bb g0 Tryz.func259 (by kernel_rfl) aw (fun y=>by kernel_rfl) fun a=>by kernel_rfl
noncomputable abbrev afq:bz:=[(259,PJ)]
theorem af2:a9 aa (bo az afq):=bB ⟨ac3,⟨⟩⟩
abbrev i224:Shape:=⟨[ah 0,ah 1],[],20⟩
abbrev Og:Shape:=⟨[ah 4],[],20⟩
noncomputable def f224(a:i224.H):Option Og.H:=
(f259 ((a.1.1,()),())).bind fun b=>
(f259 ((a.1.2.1,()),())).bind fun c=>
 bif b.1.1 then
 bif c.1.1 then
 some (((0:Int),()),())
else
 some ((((-1):Int),()),())
else
 bif c.1.1 then
 some (((1:Int),()),())
else
 bif(decide (a.1.1<a.1.2.1)) then
 some ((((-1):Int),()),())
else
 bif(decide (a.1.1>a.1.2.1)) then
 some (((1:Int),()),())
else
 some (((0:Int),()),())
noncomputable def PS:a0:=a' az Tryz.f224 i224 Og [] f224
theorem ade:a4 aa 224 PS:=bb af2 Tryz.func224 (by kernel_rfl) aw (fun y=>by kernel_rfl) fun a=>by kernel_rfl
noncomputable abbrev afy:bz:=[(224,PS)]
theorem Qz:a9 aa (bo az afy):=bB ⟨ade,⟨⟩⟩
abbrev xy:Shape:=⟨[aX 0 .i64,aX 1 .i64,aX 9 .i64,ah 10,ah 11],[],36⟩
abbrev CM:List be:=[(.ret,⟨[ah 4],[],36⟩),(.exit 0,⟨[aX 0 .i64,aX 1 .i64],[],36⟩)]
noncomputable def tK(y:xy.H):cA xy CM:=
 bif(decide (y.1.2.2.2.2.1<y.1.2.2.2.1)) then
(bg y.1.2.2.1 y.1.2.2.2.2.1).bind fun a=>
 bif(decide (y.1.2.2.2.2.1>=(y.1.2.1.length:Int))) then
 some (.inr (.inl (((1:Int),()),())))
else
(bg y.1.2.1 y.1.2.2.2.2.1).bind fun b=>
(f224 ((a,b,()),())).bind fun c=>
 bif(c.1.1 !=(0:Int)) then
 some (.inr (.inl ((c.1.1,()),())))
else
 some (.inl ((y.1.1,y.1.2.1,y.1.2.2.1,y.1.2.2.2.1,(IntKind.i64.wrap (y.1.2.2.2.2.1+(1:Int))),()),()))
else
 some (.inr (.inr ((y.1.1,y.1.2.1,()),())))
noncomputable def ob:xy.H->Option (aR CM):=bK tK
theorem _w:bl aa (aH (codeOf Tryz.f184) 1 26) (bC xy CM ob):=cB Qz (by kernel_rfl) aw fun y=>by kernel_rfl
abbrev i184:Shape:=⟨[aX 0 .i64,aX 1 .i64],[],36⟩
abbrev E8:Shape:=⟨[ah 4],[],36⟩
noncomputable def f184(a:i184.H):Option E8.H:=
(ob ((a.1.1,a.1.2.1,a.1.1,(a.1.1.length:Int),(0:Int),()),())).bind fun b=>
(match b with
|.inl c=>
 some ((c.1.1,()),())
|.inr d=>
 bif(decide ((d.1.1.length:Int)<(d.1.2.1.length:Int))) then
 some ((((-1):Int),()),())
else
 some (((0:Int),()),()))
noncomputable def P1:a0:=a' az Tryz.f184 i184 E8 [] f184
theorem adn:a4 aa 184 P1:=bb Qz Tryz.func184 (by kernel_rfl) (bG _w aw) (fun y=>by kernel_rfl) fun a=>by kernel_rfl
noncomputable abbrev afL:bz:=[(184,P1)]
theorem agb:a9 aa (bo az afL):=bB ⟨adn,⟨⟩⟩
abbrev i128:Shape:=⟨[aX 0 .i64,aX 1 .i64],[],8⟩
abbrev OJ:Shape:=⟨[ah 4],[],8⟩
noncomputable def f128(a:i128.H):Option OJ.H:=
(f184 ((a.1.1,a.1.2.1,()),())).bind fun b=>
 some ((b.1.1,()),())
noncomputable def Qe:a0:=a' az Tryz.f128 i128 OJ [] f128
theorem adC:a4 aa 128 Qe:=bb agb Tryz.func128 (by kernel_rfl) aw (fun y=>by kernel_rfl) fun a=>by kernel_rfl
noncomputable abbrev ajQ:bz:=[(127,FY),(128,Qe)]
theorem S7:a9 aa (bo az ajQ):=bB ⟨NS,adC,⟨⟩⟩
abbrev LW:Shape:=⟨[b8 5 3000320,a3 6,b8 7 3000448,a3 8],[cq 3000320 .i64 5 0,cq 3000448 .i64 7 0],28⟩
abbrev LR:List be:=[(.norm,⟨[b8 5 3000320,b8 7 3000448,a3 24],[cq 3000320 .i64 5 0,cq 3000448 .i64 7 0],28⟩)]
noncomputable def Em(y:LW.H):Option (aR LR):=
 bif(!(!y.1.2.1)) then
 some (((),(),(!y.1.2.2.2.1),()),y.2.1,y.2.2.1,())
else
 some (((),(),true,()),y.2.1,y.2.2.1,())
theorem aaS:bl aa (aH (codeOf Tryz.f78) 1 60) (bC LW LR Em):=eh S7 (by kernel_rfl) aw fun y=>by kernel_rfl
abbrev i78:Shape:=⟨[bk 0,bk 1],[],28⟩
abbrev Q':Shape:=⟨[ah 4],[],28⟩
noncomputable def f78(a:i78.H):Option Q'.H:=
(f127 ((a.1.1,()),())).bind fun b=>
(f127 ((a.1.2.1,()),())).bind fun c=>
(Em (((),b.2.2.2.1.1,(),c.2.2.2.1.1,()),b.2.1,c.2.1,())).bind fun d=>
 bif d.1.2.2.1 then
 some (((0:Int),()),())
else
(f128 ((d.2.1,d.2.2.1,()),())).bind fun e=>
 some ((e.1.1,()),())
noncomputable def Sx:a0:=a' az Tryz.f78 i78 Q' [] f78
theorem agt:a4 aa 78 Sx:=bb S7 Tryz.func78 (by kernel_rfl) (bG aaS aw) (fun y=>by kernel_rfl) fun a=>by kernel_rfl
noncomputable abbrev afK:bz:=[(78,Sx),(119,zV),(121,FZ)]
theorem QD:a9 aa (bo az afK):=bB ⟨agt,EV,NT,⟨⟩⟩
abbrev Li:Shape:=⟨[bk 1,bk 2,b7 3 3 0],[b6 3 [bD,cM,bD]],44⟩
abbrev K':List be:=[(.norm,⟨[bk 2,b7 3 3 0,a3 20],[b6 3 [bD,cM,bD]],44⟩)]
noncomputable def Dz(y:Li.H):Option (aR K'):=
(f121 (((y.2.1.1,y.2.1.2.1,y.2.1.2.2.1,()),()),())).bind fun a=>
 bif(!(!a.1.1)) then
(f119 ((y.1.2.1,()),())).bind fun b=>
 bif(!(!b.1.1)) then
 some ((y.1.2.1,(),(!(y.1.1==y.2.1.1)),()),(y.2.1.1,y.2.1.2.1,y.2.1.2.2.1,()),())
else
 some ((y.1.2.1,(),true,()),(y.2.1.1,y.2.1.2.1,y.2.1.2.2.1,()),())
else
 some ((y.1.2.1,(),true,()),(y.2.1.1,y.2.1.2.1,y.2.1.2.2.1,()),())
theorem _I:bl aa (aH (codeOf Tryz.f132) 1 12) (bC Li K' Dz):=eh QD (by kernel_rfl) aw fun y=>by kernel_rfl
abbrev i132:Shape:=⟨[c5 0 [bD,cM,bD],bk 1,bk 2],[],44⟩
abbrev OI:Shape:=⟨[a3 6],[],44⟩
noncomputable def f132(a:i132.H):Option OI.H:=
(Dz ((a.1.2.1,a.1.2.2.1,(),()),(a.1.1.1,a.1.1.2.1,a.1.1.2.2.1,()),())).bind fun b=>
 bif b.1.2.2.1 then
 some ((false,()),())
else
 bif(b.2.1.2.1==(1:Int)) then
(f78 ((b.1.1,b.2.1.2.2.1,()),())).bind fun c=>
 some (((c.1.1==(0:Int)),()),())
else
 bif(b.2.1.2.1==(2:Int)) then
(f78 ((b.1.1,b.2.1.2.2.1,()),())).bind fun d=>
 some (((decide (d.1.1>=(0:Int))),()),())
else
 bif(b.2.1.2.1==(3:Int)) then
(f78 ((b.1.1,b.2.1.2.2.1,()),())).bind fun e=>
 some (((decide (e.1.1<(0:Int))),()),())
else
 some ((true,()),())
noncomputable def Qd:a0:=a' az Tryz.f132 i132 OI [] f132
theorem adB:a4 aa 132 Qd:=bb QD Tryz.func132 (by kernel_rfl) (bG _I aw) (fun y=>by kernel_rfl) fun a=>by kernel_rfl
noncomputable abbrev afx:bz:=[(126,Qf)]
theorem af6:a9 aa (bo az afx):=bB ⟨adD,⟨⟩⟩
abbrev i192:Shape:=⟨[c5 0 [bD,cM,bD],bk 1,bk 2],[],30⟩
abbrev Oo:Shape:=⟨[a3 6],[],30⟩
noncomputable def f192(a:i192.H):Option Oo.H:=
 bif(!(a.1.1.1==a.1.2.1)) then
 some ((false,()),())
else
(f126 ((a.1.2.2.1,a.1.1.2.2.1,()),())).bind fun b=>
 bif(a.1.1.2.1==(1:Int)) then
 some (((b.1.1==(0:Int)),()),())
else
 bif(a.1.1.2.1==(2:Int)) then
 some (((decide (b.1.1>=(0:Int))),()),())
else
 bif(a.1.1.2.1==(3:Int)) then
 some (((decide (b.1.1<(0:Int))),()),())
else
 some ((true,()),())
noncomputable def P0:a0:=a' az Tryz.f192 i192 Oo [] f192
theorem adm:a4 aa 192 P0:=bb af6 Tryz.func192 (by kernel_rfl) aw (fun y=>by kernel_rfl) fun a=>by kernel_rfl
def oy:List Int->List Int->Int
 |[],[]=>0
 |[],_::_=>-1
 |_::_,[]=>1
 |x::a,y::b=>bif decide (x<y) then-1 else bif decide (x>y) then 1 else oy a b
theorem drop_cons{aE:Type}{xs:List aE}{k:Nat}{x:aE}{r:List aE}(h:xs.drop k=x::r):xs[k]? =some x/\xs.drop (k+1)=r/\k<xs.length:=by
 have h1:xs[k]? =some x:=by
  have:=congrArg (fun l=>l[0]?) h
  simpa using this
 refine⟨h1,?_,ca h1⟩;have:=congrArg List.tail h;simpa using this
theorem drop_nil{aE:Type}{xs:List aE}{k:Nat}(h:xs.drop k=[]):xs.length<=k:=by
 have:=congrArg List.length h;simp at this;omega
theorem W'(a)(h1:cg a.1.1.length)(h2:cg a.1.2.1.length)(qq:∀x,x∈a.1.1->0<=x)(qp:∀x,x∈a.1.2.1->0<=x):f182 a=some ((oy a.1.1 a.1.2.1,()),()):=by
 obtain⟨⟨xs,ys,u⟩,bx⟩:=a;have h1:xs.length<=2097152:=h1;have h2:ys.length<=2097152:=h2;have qq:∀x:Int,x∈xs->0<=x:=qq;have qp:∀x:Int,x∈ys->0<=x:=qp;have key:∀(n:Nat) (us ws:List Int) (k:Nat),us.length+ws.length=n->xs.drop k=us->ys.drop k=ws->k<=2097152->
   (nj ((xs,(ys,((k:Int),()))),())).bind (fun aeh=>(match aeh with|.inl aeg=>some ((aeg.1.1,()),())|.inr amq=>some (((0:Int),()),()):Option E9.H))=some ((oy us ws,()),()):=by
  intro n;induction n using Nat.strongRecOn with
  |_ n ih=>
   intro us ws k hn a5 hb ag;have hw:aD k:=by unfold aD;omega
   match us,ws with
   |[],[]=>
    have c1:=drop_nil a5;have c2:=drop_nil hb;have d1:decide ((k:Int)<(xs.length:Int))=false:=by simp only[decide_eq_false_iff_not];omega
    have d2:decide ((k:Int)<(ys.length:Int))=false:=by simp only[decide_eq_false_iff_not];omega
    have:nj ((xs,(ys,((k:Int),()))),())=some (.inr ((),())):=by
     refine eO ?_
     simp only[q3,qO,d1,d2,Bool.not_false,cond_true,cond_false,Option.bind_some]
    rw[this];rfl
   |[],y::ws=>
    have c1:=drop_nil a5;obtain⟨c2,c3,dU⟩:=drop_cons hb;have aj:=qp y (List.mem_of_getElem? c2);have d1:decide ((k:Int)<(xs.length:Int))=false:=by simp only[decide_eq_false_iff_not];omega
    have d3:decide ((-1:Int)<y)=true:=by simp only[decide_eq_true_eq];omega
    have:nj ((xs,(ys,((k:Int),()))),())=some (.inl ((((-1):Int),()),())):=by
     refine eO ?_
     simp only[q3,qO,tg,tf,d1,ce dU,bZ,c2,Bool.not_false,cond_true,cond_false,Option.bind_some,d3]
    rw[this];rfl
   |x::us,[]=>
    have c1:=drop_nil hb;obtain⟨c2,c3,dU⟩:=drop_cons a5;have hx:=qq x (List.mem_of_getElem? c2);have d1:decide ((k:Int)<(ys.length:Int))=false:=by simp only[decide_eq_false_iff_not];omega
    have d3:decide (x<(-1:Int))=false:=by simp only[decide_eq_false_iff_not];omega
    have d4:decide (x>(-1:Int))=true:=by simp only[decide_eq_true_eq];omega
    have:nj ((xs,(ys,((k:Int),()))),())=some (.inl (((1:Int),()),())):=by
     refine eO ?_
     simp only[q3,qO,tg,tf,d1,ce dU,bZ,c2,Bool.not_true,cond_true,cond_false,Option.bind_some,d3,d4]
    rw[this];rfl
   |x::us,y::ws=>
    obtain⟨c2,c3,dU⟩:=drop_cons a5;obtain⟨e2,bI,dy⟩:=drop_cons hb;have step:q3 ((xs,(ys,((k:Int),()))),())=some (bif decide (x<y) then .inr (.inl ((((-1):Int),()),())) else bif decide (x>y) then .inr (.inl (((1:Int),()),())) else .inl ((xs,(ys,(((k+1:Nat):Int),()))),())):=by
     simp only[q3,qO,tg,tf,ce dU,ce dy,bZ,c2,e2,Bool.not_true,cond_true,cond_false,Option.bind_some,b_ hw];cases decide (x<y)<;>cases decide (x>y)<;>rfl
    rw[oy];cases aW:decide (x<y) with
    |true=>rw[aW,cond_true] at step;rw[show nj ((xs,(ys,((k:Int),()))),())=_ from eO step];rfl
    |false=>
     rw[aW,cond_false] at step;cases p':decide (x>y) with
     |true=>rw[p',cond_true] at step;rw[show nj ((xs,(ys,((k:Int),()))),())=_ from eO step];rfl
     |false=>
      rw[p',cond_false] at step;rw[show nj ((xs,(ys,((k:Int),()))),())=_ from hD step]
      exact ih (us.length+ws.length) (by simp only[List.length_cons] at hn;omega) us ws (k+1) rfl c3 bI (by omega)
 have:=key _ xs ys 0 rfl rfl rfl (Nat.zero_le _);simp only[f182];exact this
theorem YL(a):f224 a=some ((bif decide (a.1.1<a.1.2.1) then-1 else bif decide (a.1.1>a.1.2.1) then 1 else 0,()),()):=by
 obtain⟨⟨x,y,u⟩,bx⟩:=a;have hx:(x !=x)=false:=by simp
 have aj:(y !=y)=false:=by simp
 simp only[f224,f259,Option.bind_some,hx,aj,cond_false];cases decide (x<y)<;>cases decide (x>y)<;>rfl
theorem Xl(a)(h1:cg a.1.1.length)(h2:cg a.1.2.1.length):f184 a=some ((oy a.1.1 a.1.2.1,()),()):=by
 obtain⟨⟨xs,ys,u⟩,bx⟩:=a;have h1:xs.length<=2097152:=h1;have h2:ys.length<=2097152:=h2;have key:∀(us ws:List Int) (k:Nat),xs.drop k=us->ys.drop k=ws->k<=xs.length->
   (ob ((xs,(ys,(xs,((xs.length:Int),((k:Int),()))))),())).bind (fun aca=>(match aca with
    |.inl ab9=>some ((ab9.1.1,()),())
    |.inr M5=>bif(decide ((M5.1.1.length:Int)<(M5.1.2.1.length:Int))) then some ((((-1):Int),()),()) else some (((0:Int),()),()):Option E8.H))=some ((oy us ws,()),()):=by
  intro us;induction us with
  |nil=>
   intro ws k a5 hb ag;have c1:=drop_nil a5;have d1:decide ((k:Int)<(xs.length:Int))=false:=by simp only[decide_eq_false_iff_not];omega
   have:ob ((xs,(ys,(xs,((xs.length:Int),((k:Int),()))))),())=some (.inr ((xs,(ys,())),())):=by
    refine eO ?_
    simp only[tK,d1,cond_false]
   rw[this];simp only[Option.bind_some];cases ws with
   |nil=>
    have c2:=drop_nil hb;have:decide ((xs.length:Int)<(ys.length:Int))=false:=by simp only[decide_eq_false_iff_not];omega
    rw[this];rfl
   |cons y ws=>
    obtain⟨_,_,dU⟩:=drop_cons hb;rw[ce (show xs.length<ys.length by omega)];rfl
  |cons x us ih=>
   intro ws k a5 hb ag;obtain⟨c2,c3,dU⟩:=drop_cons a5;have hw:aD k:=by unfold aD;omega
   cases ws with
   |nil=>
    have c1:=drop_nil hb;have d1:decide ((k:Int)>=(ys.length:Int))=true:=by simp only[decide_eq_true_eq];omega
    have:ob ((xs,(ys,(xs,((xs.length:Int),((k:Int),()))))),())=some (.inl (((1:Int),()),())):=by
     refine eO ?_
     simp only[tK,ce dU,cond_true,bZ,c2,Option.bind_some,d1]
    rw[this];rfl
   |cons y ws=>
    obtain⟨e2,bI,dy⟩:=drop_cons hb;have d1:decide ((k:Int)>=(ys.length:Int))=false:=by simp only[decide_eq_false_iff_not];omega
    have step:tK ((xs,(ys,(xs,((xs.length:Int),((k:Int),()))))),())=some (bif decide (x<y) then .inr (.inl ((((-1):Int),()),())) else bif decide (x>y) then .inr (.inl (((1:Int),()),())) else .inl ((xs,(ys,(xs,((xs.length:Int),(((k+1:Nat):Int),()))))),())):=by
     simp only[tK,ce dU,bZ,c2,e2,d1,cond_true,cond_false,Option.bind_some,YL,b_ hw];cases decide (x<y)<;>cases decide (x>y)<;>rfl
    rw[oy];cases aW:decide (x<y) with
    |true=>rw[aW,cond_true] at step;rw[show ob ((xs,(ys,(xs,((xs.length:Int),((k:Int),()))))),())=_ from eO step];rfl
    |false=>
     rw[aW,cond_false] at step;cases p':decide (x>y) with
     |true=>rw[p',cond_true] at step;rw[show ob ((xs,(ys,(xs,((xs.length:Int),((k:Int),()))))),())=_ from eO step];rfl
     |false=>
      rw[p',cond_false] at step;rw[show ob ((xs,(ys,(xs,((xs.length:Int),((k:Int),()))))),())=_ from hD step]
      exact ih ws (k+1) c3 bI (by omega)
 have:=key xs ys 0 rfl rfl (Nat.zero_le _);simp only[f184];exact this
def pG(a b:ak):Int:=bif eG a&&eG b then oy (gU a) (gU b) else 0
theorem Ip{s:ak}(h:eG s=true):∀x,x∈gU s->0<=x:=by
 intro x hx;unfold gU at hx;obtain⟨p,al,rfl⟩:=List.mem_map.1 hx;unfold eG at h;simp only[Bool.and_eq_true] at h;have:=List.all_eq_true.1 h.1 p al;unfold fg at this;simp only[Bool.and_eq_true] at this;exact I2 p 0 this.1.1.1.1 (Int.le_refl _)
theorem ww(s:ak):(gU s).length<=s.length+1:=by
 unfold gU hF;rw[List.length_map];exact wo 46 s
theorem T_(a)(h1:a.1.1.length<=2097151)(h2:a.1.2.1.length<=2097151):f126 a=some ((pG a.1.1 a.1.2.1,()),()):=by
 obtain⟨⟨x,y,u⟩,bx⟩:=a;have h1:x.length<=2097151:=h1;have h2:y.length<=2097151:=h2;obtain⟨o1,e1,q1⟩:=Bn ((x,()),()) (show x.length<=2097152 by omega)
 obtain⟨o2,e2,q2⟩:=Bn ((y,()),()) (show y.length<=2097152 by omega)
 simp only[f126,e1,e2,Option.bind_some,DA,pG,Bool.not_not];cases hx:eG x with
 |false=>rfl
 |true=>
  cases aj:eG y with
  |false=>rfl
  |true=>
   have aia:=ww x;have u5:=ww y;have b0:o1=gU x:=q1 hx;have w2:o2=gU y:=q2 aj;subst b0 w2;have bI:=W' ((gU x,(gU y,())),()) (show(gU x).length<=2097152 by omega) (show(gU y).length<=2097152 by omega) (Ip hx) (Ip aj)
   simp only[cond_true,Bool.not_true,Option.bind_some,cond_false,bI,Bool.and_self]
theorem T6(a)(h1:a.1.1.length<=2097151)(h2:a.1.2.1.length<=2097151):f78 a=some ((pG a.1.1 a.1.2.1,()),()):=by
 obtain⟨⟨x,y,u⟩,bx⟩:=a;have h1:x.length<=2097151:=h1;have h2:y.length<=2097151:=h2;have e1:=AZ ((x,()),()) (show x.length<=2097152 by omega)
 have e2:=AZ ((y,()),()) (show y.length<=2097152 by omega)
 simp only[f78,e1,e2,Option.bind_some,Em,pG,Bool.not_not];cases hx:eG x with
 |false=>rfl
 |true=>
  cases aj:eG y with
  |false=>rfl
  |true=>
   have aia:=ww x;have u5:=ww y;have bI:=Xl ((gU x,(gU y,())),()) (show(gU x).length<=2097152 by omega) (show(gU y).length<=2097152 by omega)
   simp only[cond_true,Bool.not_true,Option.bind_some,cond_false,f128,bI,Bool.and_self]
def rP(n:dr)(v:ak):Bool:=bif n.kind==1 then pG v n.bH==0 else bif n.kind==2 then decide (pG v n.bH>=0) else bif n.kind==3 then decide (pG v n.bH<0) else true
theorem YE(a)(h1:a.1.1.2.2.1.length<=2097151)(h2:a.1.2.2.1.length<=2097151)(hn:a.1.2.1=a.1.1.1):f192 a=some ((rP ⟨a.1.1.1,a.1.1.2.1,a.1.1.2.2.1⟩ a.1.2.2.1,()),()):=by
 obtain⟨⟨⟨n,k,v,u⟩,m,w,bx⟩,iB⟩:=a;obtain rfl:m=n:=hn;have e1:=T_ ((w,(v,())),()) h2 h1;have l2:(m==m)=true:=by simp
 simp only[f192,l2,e1,Bool.not_true,cond_false,Option.bind_some,rP];cases (k==1)<;>cases (k==2)<;>cases (k==3)<;>rfl
def kT(n:dr)(name v:ak):Bool:=hH n&&eG v&&(name==n.name)&&rP n v
theorem V0(a)(h0:cg a.1.1.1.length)(h1:a.1.1.2.2.1.length<=2097151)(h2:a.1.2.2.1.length<=2097151):f132 a=some ((kT ⟨a.1.1.1,a.1.1.2.1,a.1.1.2.2.1⟩ a.1.2.1 a.1.2.2.1,()),()):=by
 obtain⟨⟨⟨n,k,v,u⟩,m,w,bx⟩,iB⟩:=a;have h1:v.length<=2097151:=h1;have h2:w.length<=2097151:=h2;have e1:=T6 ((w,(v,())),()) h2 h1;have e2:=Jw (((n,(k,(v,()))),()),()) h0 (show v.length<=2097152 by omega)
 have bI:=A0 ((w,()),()) (show w.length<=2097152 by omega)
 simp only[f132,Dz,e1,e2,bI,Bool.not_not,Option.bind_some,kT,rP];cases hH ⟨n,k,v⟩ with
 |false=>rfl
 |true=>
  cases eG w with
  |false=>rfl
  |true=>
   cases (m==n) with
   |false=>rfl
   |true=>
    simp only[cond_true,Bool.not_true,Option.bind_some,cond_false,Bool.true_and];cases (k==1)<;>cases (k==2)<;>cases (k==3)<;>simp only[cond_true,cond_false,Option.bind_some,e1]
abbrev xL:Shape:=⟨[aX 0 .pack,bk 1,ah 5],[],20⟩
abbrev CY:List be:=[(.ret,⟨[ah 4],[],20⟩),(.exit 0,⟨[],[],20⟩)]
noncomputable def ye(y:xL.H):cA xL CY:=
 bif(decide (y.1.2.2.1<(y.1.1.length:Int))) then
(bg y.1.1 y.1.2.2.1).bind fun a=>
 bif(a.name==y.1.2.1) then
 some (.inr (.inl ((y.1.2.2.1,()),())))
else
 some (.inl ((y.1.1,y.1.2.1,(IntKind.i64.wrap (y.1.2.2.1+(1:Int))),()),()))
else
 some (.inr (.inr ((),())))
noncomputable def qY:xL.H->Option (aR CY):=bK ye
theorem _P:bl aa (aH (codeOf Tryz.f104) 1 26) (bC xL CY qY):=cB g0 (by kernel_rfl) aw fun y=>by kernel_rfl
abbrev i104:Shape:=⟨[aX 0 .pack,bk 1],[],20⟩
abbrev O2:Shape:=⟨[ah 4],[],20⟩
noncomputable def f104(a:i104.H):Option O2.H:=
(qY ((a.1.1,a.1.2.1,(0:Int),()),())).bind fun b=>
(match b with
|.inl c=>
 some ((c.1.1,()),())
|.inr d=>
 some ((((-1):Int),()),()))
noncomputable def F2:a0:=a' az Tryz.f104 i104 O2 [] f104
theorem NW:a4 aa 104 F2:=bb g0 Tryz.func104 (by kernel_rfl) (bG _P aw) (fun y=>by kernel_rfl) fun a=>by kernel_rfl
noncomputable abbrev afJ:bz:=[(104,F2),(192,P0)]
theorem zY:a9 aa (bo az afJ):=bB ⟨NW,adm,⟨⟩⟩
abbrev IH:Shape:=⟨[aX 0 .pack,ah 3,ah 4,b7 5 5 0,ah 6],[b6 5 [bD,cM,bD]],49⟩
abbrev IE:List be:=[(.norm,⟨[aX 0 .pack,ah 3,ah 4,ah 35,a3 36,a3 37,a3 48],[],49⟩)]
noncomputable def wl(y:IH.H):Option (aR IE):=
 bif(decide (y.1.2.2.2.2.1<(0:Int))) then
 some ((y.1.1,y.1.2.1,y.1.2.2.1,y.1.2.2.2.2.1,(decide (y.1.2.2.2.2.1<(0:Int))),true,true,()),())
else
(bg y.1.1 y.1.2.2.2.2.1).bind fun a=>
(f192 (((y.2.1.1,y.2.1.2.1,y.2.1.2.2.1,()),y.2.1.1,a.bH,()),())).bind fun b=>
 some ((y.1.1,y.1.2.1,y.1.2.2.1,y.1.2.2.2.2.1,(decide (y.1.2.2.2.2.1<(0:Int))),false,(!b.1.1),()),())
theorem Vr:bl aa (aH (dz (aH (dz (aH (codeOf Tryz.f135) 1 26)) 52 1682)) 3364 215334) (bC IH IE wl):=eh zY (by kernel_rfl) aw fun y=>by kernel_rfl
abbrev wF:Shape:=⟨[aX 0 .pack,ah 3,ah 4],[],49⟩
abbrev Br:List be:=[(.ret,⟨[a3 2],[],49⟩),(.exit 2,⟨[aX 0 .pack,ah 3],[],49⟩)]
noncomputable def wQ(y:wF.H):cA wF Br:=
(bg y.1.1 y.1.2.1).bind fun a=>
 bif(decide (y.1.2.2.1<(a.bL.length:Int))) then
(bg y.1.1 y.1.2.1).bind fun b=>
(bg b.bL y.1.2.2.1).bind fun c=>
(f104 ((y.1.1,c.name,()),())).bind fun d=>
(wl ((y.1.1,y.1.2.1,y.1.2.2.1,(),d.1.1,()),(c.name,c.kind,c.bH,()),())).bind fun e=>
 bif e.1.2.2.2.2.2.2.1 then
 some (.inr (.inl ((false,()),())))
else
 some (.inl ((e.1.1,e.1.2.1,(IntKind.i64.wrap (e.1.2.2.1+(1:Int))),()),()))
else
 some (.inr (.inr ((y.1.1,y.1.2.1,()),())))
noncomputable def BF:wF.H->Option (aR Br):=bK wQ
theorem XP:bl aa (aH (dz (aH (codeOf Tryz.f135) 1 26)) 52 1682) (bC wF Br BF):=cB zY (by kernel_rfl) (bG Vr aw) fun y=>by kernel_rfl
abbrev xH:Shape:=⟨[aX 0 .pack,ah 3],[],49⟩
abbrev CT:List be:=[(.ret,⟨[a3 2],[],49⟩),(.exit 0,⟨[],[],49⟩)]
noncomputable def yb(y:xH.H):cA xH CT:=
 bif(decide (y.1.2.1<(y.1.1.length:Int))) then
(BF ((y.1.1,y.1.2.1,(0:Int),()),())).bind fun a=>
(match a with
|.inl b=>
 some (.inr (.inl ((b.1.1,()),())))
|.inr c=>
 some (.inl ((c.1.1,(IntKind.i64.wrap (c.1.2.1+(1:Int))),()),())))
else
 some (.inr (.inr ((),())))
noncomputable def Dn:xH.H->Option (aR CT):=bK yb
theorem _H:bl aa (aH (codeOf Tryz.f135) 1 26) (bC xH CT Dn):=cB zY (by kernel_rfl) (bG XP aw) fun y=>by kernel_rfl
abbrev i135:Shape:=⟨[aX 0 .pack],[],49⟩
abbrev OH:Shape:=⟨[a3 2],[],49⟩
noncomputable def f135(a:i135.H):Option OH.H:=
(Dn ((a.1.1,(0:Int),()),())).bind fun b=>
(match b with
|.inl c=>
 some ((c.1.1,()),())
|.inr d=>
 some ((true,()),()))
noncomputable def Qc:a0:=a' az Tryz.f135 i135 OH [] f135
theorem adA:a4 aa 135 Qc:=bb zY Tryz.func135 (by kernel_rfl) (bG _H aw) (fun y=>by kernel_rfl) fun a=>by kernel_rfl
noncomputable abbrev abF:bz:=[(101,MS),(141,P_)]
theorem MU:a9 aa (bo az abF):=bB ⟨aaC,adw,⟨⟩⟩
abbrev JL:Shape:=⟨[(0,.ai (.ee [.sl .pack] 0))],[],10⟩
abbrev JB:List be:=[(.norm,⟨[a3 9],[],10⟩)]
noncomputable def BO(y:JL.H):Option (aR JB):=
(y9 ((y.1.1.1,(),()),())).bind fun a=>
 bif(!(!a.1.1)) then
(f141 ((y.1.1.1,()),())).bind fun b=>
 some (((!b.1.1),()),())
else
 some ((true,()),())
theorem XN:bl aa (aH (codeOf Tryz.f140) 1 12) (bC JL JB BO):=eh MU (by kernel_rfl) aw fun y=>by kernel_rfl
abbrev Mq:Shape:=⟨[(0,.ai (.ee [.sl .pack] 0))],[],10⟩
abbrev L9:Shape:=⟨[ah 1],[],10⟩
noncomputable def rq(a:Mq.H):Option L9.H:=
(BO (((a.1.1.1,()),()),())).bind fun b=>
 bif b.1.1 then
 some (((1:Int),()),())
else
 some (((0:Int),()),())
noncomputable def MN:a0:=a' az Tryz.f140 Mq L9 [] rq
theorem aax:a4 aa 140 MN:=bb MU Tryz.func140 (by kernel_rfl) (bG XN aw) (fun y=>by kernel_rfl) fun a=>by kernel_rfl
abbrev Mp:Shape:=⟨[(0,.ai (.ee [.sl .pack] 0))],[],5⟩
abbrev L8:Shape:=⟨[ah 1],[],5⟩
noncomputable def rp(a:Mp.H):Option L8.H:=
 bif(decide ((a.1.1.1.length:Int)>(5:Int))) then
 some (((6:Int),()),())
else
 some (((0:Int),()),())
noncomputable def MM:a0:=a' az Tryz.f142 Mp L8 [] rp
theorem aaw:a4 aa 142 MM:=bb g0 Tryz.func142 (by kernel_rfl) aw (fun y=>by kernel_rfl) fun a=>by kernel_rfl
noncomputable abbrev abC:bz:=[(132,Qd)]
theorem abM:a9 aa (bo az abC):=bB ⟨adB,⟨⟩⟩
abbrev Mm:Shape:=⟨[c5 0 [bD,bD,cH .need,cH .entry],(1,.ai (.ee [.str,.int .i64,.str] 0))],[],10⟩
abbrev L5:Shape:=⟨[a3 3],[],10⟩
noncomputable def Ep(a:Mm.H):Option L5.H:=
(f132 (((a.1.2.1.1,a.1.2.1.2.1,a.1.2.1.2.2.1,()),a.1.1.1,a.1.1.2.1,()),())).bind fun b=>
 some ((b.1.1,()),())
noncomputable def MJ:a0:=a' az Tryz.f196 Mm L5 [] Ep
theorem aat:a4 aa 196 MJ:=bb abM Tryz.func196 (by kernel_rfl) aw (fun y=>by kernel_rfl) fun a=>by kernel_rfl
noncomputable abbrev abA:bz:=[(196,MJ)]
theorem MT:a9 aa (bo az abA):=bB ⟨aat,⟨⟩⟩
abbrev wC:Shape:=⟨[aX 0 .pack,(1,.ai (.fn 196 [[.str,.int .i64,.str]])),ah 7,ah 8],[],19⟩
abbrev Bo:List be:=[(.ret,⟨[ah 4],[],19⟩),(.exit 0,⟨[],[],19⟩)]
noncomputable def wN(y:wC.H):cA wC Bo:=
 bif(decide (y.1.2.2.2.1<y.1.2.2.1)) then
(bg y.1.1 y.1.2.2.2.1).bind fun a=>
(Ep (((a.name,a.bH,a.bL,a.b4,()),(y.1.2.1.1.1,y.1.2.1.1.2.1,y.1.2.1.1.2.2.1,()),()),())).bind fun b=>
 bif b.1.1 then
 some (.inr (.inl ((y.1.2.2.2.1,()),())))
else
 some (.inl ((y.1.1,((y.1.2.1.1.1,y.1.2.1.1.2.1,y.1.2.1.1.2.2.1,()),()),y.1.2.2.1,(IntKind.i64.wrap (y.1.2.2.2.1+(1:Int))),()),()))
else
 some (.inr (.inr ((),())))
noncomputable def qJ:wC.H->Option (aR Bo):=bK wN
theorem XH:bl aa (aH (codeOf Tryz.f231) 1 26) (bC wC Bo qJ):=cB MT (by kernel_rfl) aw fun y=>by kernel_rfl
abbrev Mk:Shape:=⟨[aX 0 .pack,(1,.ai (.fn 196 [[.str,.int .i64,.str]]))],[],19⟩
abbrev D1:Shape:=⟨[ah 4],[],19⟩
noncomputable def y3(a:Mk.H):Option D1.H:=
(qJ ((a.1.1,((a.1.2.1.1.1,a.1.2.1.1.2.1,a.1.2.1.1.2.2.1,()),()),(a.1.1.length:Int),(0:Int),()),())).bind fun b=>
(match b with
|.inl c=>
 some ((c.1.1,()),())
|.inr d=>
 some ((((-1):Int),()),()))
noncomputable def MH:a0:=a' az Tryz.f231 Mk D1 [] y3
theorem aar:a4 aa 231 MH:=bb MT Tryz.func231 (by kernel_rfl) (bG XH aw) (fun y=>by kernel_rfl) fun a=>by kernel_rfl
noncomputable abbrev abB:bz:=[(231,MH)]
theorem abL:a9 aa (bo az abB):=bB ⟨aar,⟨⟩⟩
abbrev Ml:Shape:=⟨[aX 0 .pack,(1,.ai (.fn 196 [[.str,.int .i64,.str]]))],[],9⟩
abbrev L4:Shape:=⟨[a3 4],[],9⟩
noncomputable def y4(a:Ml.H):Option L4.H:=
(y3 ((a.1.1,((a.1.2.1.1.1,a.1.2.1.1.2.1,a.1.2.1.1.2.2.1,()),()),()),())).bind fun b=>
 some (((decide (b.1.1>=(0:Int))),()),())
noncomputable def MI:a0:=a' az Tryz.f197 Ml L4 [] y4
theorem aas:a4 aa 197 MI:=bb abL Tryz.func197 (by kernel_rfl) aw (fun y=>by kernel_rfl) fun a=>by kernel_rfl
noncomputable abbrev afF:bz:=[(197,MI)]
theorem F8:a9 aa (bo az afF):=bB ⟨aas,⟨⟩⟩
abbrev wD:Shape:=⟨[aX 0 .pack,aX 8 .pack,ah 9,ah 10,aX 15 .need,ah 16,ah 17],[],28⟩
abbrev Bp:List be:=[(.ret,⟨[a3 2],[],28⟩),(.exit 2,⟨[aX 0 .pack,aX 8 .pack,ah 9,ah 10],[],28⟩)]
noncomputable def wO(y:wD.H):cA wD Bp:=
 bif(decide (y.1.2.2.2.2.2.2.1<y.1.2.2.2.2.2.1)) then
(bg y.1.2.2.2.2.1 y.1.2.2.2.2.2.2.1).bind fun a=>
(y4 ((y.1.1,((a.name,a.kind,a.bH,()),()),()),())).bind fun b=>
 bif(!b.1.1) then
 some (.inr (.inl ((false,()),())))
else
 some (.inl ((y.1.1,y.1.2.1,y.1.2.2.1,y.1.2.2.2.1,y.1.2.2.2.2.1,y.1.2.2.2.2.2.1,(IntKind.i64.wrap (y.1.2.2.2.2.2.2.1+(1:Int))),()),()))
else
 some (.inr (.inr ((y.1.1,y.1.2.1,y.1.2.2.1,y.1.2.2.2.1,()),())))
noncomputable def BE:wD.H->Option (aR Bp):=bK wO
theorem XM:bl aa (aH (dz (aH (codeOf Tryz.f144) 1 26)) 52 6758) (bC wD Bp BE):=cB F8 (by kernel_rfl) aw fun y=>by kernel_rfl
abbrev xF:Shape:=⟨[aX 0 .pack,aX 8 .pack,ah 9,ah 10],[],28⟩
abbrev CR:List be:=[(.ret,⟨[a3 2],[],28⟩),(.exit 0,⟨[],[],28⟩)]
noncomputable def x'(y:xF.H):cA xF CR:=
 bif(decide (y.1.2.2.2.1<y.1.2.2.1)) then
(bg y.1.2.1 y.1.2.2.2.1).bind fun a=>
(BE ((y.1.1,y.1.2.1,y.1.2.2.1,y.1.2.2.2.1,a.bL,(a.bL.length:Int),(0:Int),()),())).bind fun b=>
(match b with
|.inl c=>
 some (.inr (.inl ((c.1.1,()),())))
|.inr d=>
 some (.inl ((d.1.1,d.1.2.1,d.1.2.2.1,(IntKind.i64.wrap (d.1.2.2.2.1+(1:Int))),()),())))
else
 some (.inr (.inr ((),())))
noncomputable def Dl:xF.H->Option (aR CR):=bK x'
theorem _E:bl aa (aH (codeOf Tryz.f144) 1 26) (bC xF CR Dl):=cB F8 (by kernel_rfl) (bG XM aw) fun y=>by kernel_rfl
abbrev i144:Shape:=⟨[aX 0 .pack],[],28⟩
abbrev OC:Shape:=⟨[a3 2],[],28⟩
noncomputable def f144(a:i144.H):Option OC.H:=
(Dl ((a.1.1,a.1.1,(a.1.1.length:Int),(0:Int),()),())).bind fun b=>
(match b with
|.inl c=>
 some ((c.1.1,()),())
|.inr d=>
 some ((true,()),()))
noncomputable def P9:a0:=a' az Tryz.f144 i144 OC [] f144
theorem adv:a4 aa 144 P9:=bb F8 Tryz.func144 (by kernel_rfl) (bG _E aw) (fun y=>by kernel_rfl) fun a=>by kernel_rfl
noncomputable abbrev abE:bz:=[(144,P9)]
theorem abO:a9 aa (bo az abE):=bB ⟨adv,⟨⟩⟩
abbrev Mo:Shape:=⟨[(0,.ai (.ee [.sl .pack] 0))],[],5⟩
abbrev L7:Shape:=⟨[ah 1],[],5⟩
noncomputable def rm(a:Mo.H):Option L7.H:=
(f144 ((a.1.1.1,()),())).bind fun b=>
 bif(!b.1.1) then
 some (((4:Int),()),())
else
 some (((0:Int),()),())
noncomputable def ML:a0:=a' az Tryz.f143 Mo L7 [] rm
theorem aav:a4 aa 143 ML:=bb abO Tryz.func143 (by kernel_rfl) aw (fun y=>by kernel_rfl) fun a=>by kernel_rfl
noncomputable abbrev abD:bz:=[(52,SJ)]
theorem abN:a9 aa (bo az abD):=bB ⟨agF,⟨⟩⟩
abbrev Mn:Shape:=⟨[(0,.ai (.ee [.sl .pack] 0))],[],11⟩
abbrev L6:Shape:=⟨[ah 1],[],11⟩
noncomputable def rl(a:Mn.H):Option L6.H:=
(f52 ((a.1.1.1,()),())).bind fun b=>
 bif(!b.1.2.1) then
 some (((5:Int),()),())
else
 some (((0:Int),()),())
noncomputable def MK:a0:=a' az Tryz.f145 Mn L6 [] rl
theorem aau:a4 aa 145 MK:=bb abN Tryz.func145 (by kernel_rfl) aw (fun y=>by kernel_rfl) fun a=>by kernel_rfl
noncomputable abbrev ajP:bz:=[(51,SK),(98,St),(135,Qc)]
theorem Hs:a9 aa (bo az ajP):=bB ⟨agG,agp,adA,⟨⟩⟩
abbrev Ld:Shape:=⟨[aX 0 .pack,ah 3],[],52⟩
abbrev K6:List be:=[(.norm,⟨[aX 0 .pack,ah 3,aX 12 .pack,ah 13,(14,.ai (.ee [.str,.str,.sl .need,.sl .entry] 0)),c5 15 [bD,bD,cH .need,cH .entry],a3 16,a3 17,a3 18,a3 35],[],52⟩)]
noncomputable def xV(y:Ld.H):Option (aR K6):=
(bg y.1.1 y.1.2.1).bind fun a=>
(f98 (((a.name,a.bH,a.bL,a.b4,()),()),())).bind fun b=>
 bif(!b.1.1) then
 some ((y.1.1,y.1.2.1,y.1.1,y.1.2.1,(a.name,a.bH,a.bL,a.b4,()),(a.name,a.bH,a.bL,a.b4,()),b.1.1,(!b.1.1),true,true,()),())
else
 bif(decide (y.1.2.1>(0:Int))) then
(bg y.1.1 (IntKind.i64.wrap (y.1.2.1-(1:Int)))).bind fun c=>
(bg y.1.1 y.1.2.1).bind fun d=>
 some ((y.1.1,y.1.2.1,y.1.1,y.1.2.1,(a.name,a.bH,a.bL,a.b4,()),(a.name,a.bH,a.bL,a.b4,()),b.1.1,(!b.1.1),false,(!(Op.bytesLess c.name d.name)),()),())
else
 some ((y.1.1,y.1.2.1,y.1.1,y.1.2.1,(a.name,a.bH,a.bL,a.b4,()),(a.name,a.bH,a.bL,a.b4,()),b.1.1,(!b.1.1),false,false,()),())
theorem _g:bl aa (aH (dz (aH (codeOf Tryz.f85) 1 26)) 52 840) (bC Ld K6 xV):=eh Hs (by kernel_rfl) aw fun y=>by kernel_rfl
abbrev yu:Shape:=⟨[aX 0 .pack,ah 3],[],52⟩
abbrev DO:List be:=[(.ret,⟨[ah 2],[],52⟩),(.exit 0,⟨[aX 0 .pack],[],52⟩)]
noncomputable def po(y:yu.H):cA yu DO:=
 bif(decide (y.1.2.1<(y.1.1.length:Int))) then
(xV ((y.1.1,y.1.2.1,()),())).bind fun a=>
 bif a.1.2.2.2.2.2.2.2.2.2.1 then
 some (.inr (.inl (((1:Int),()),())))
else
 some (.inl ((a.1.1,(IntKind.i64.wrap (a.1.2.1+(1:Int))),()),()))
else
 some (.inr (.inr ((y.1.1,()),())))
noncomputable def yK:yu.H->Option (aR DO):=bK po
theorem aaR:bl aa (aH (codeOf Tryz.f85) 1 26) (bC yu DO yK):=cB Hs (by kernel_rfl) (bG _g aw) fun y=>by kernel_rfl
abbrev i85:Shape:=⟨[aX 0 .pack],[],52⟩
abbrev Q_:Shape:=⟨[ah 2],[],52⟩
noncomputable def f85(a:i85.H):Option Q_.H:=
(yK ((a.1.1,(0:Int),()),())).bind fun b=>
(match b with
|.inl c=>
 some ((c.1.1,()),())
|.inr d=>
(f51 ((d.1.1,()),())).bind fun e=>
 bif(decide ((d.1.1.length:Int)>(5:Int))) then
 some (((6:Int),()),())
else
(f135 ((d.1.1,()),())).bind fun f=>
 bif(!f.1.1) then
 some (((4:Int),()),())
else
 bif(!e.1.2.1) then
 some (((5:Int),()),())
else
 some (((0:Int),()),()))
noncomputable def Hn:a0:=a' az Tryz.f85 i85 Q_ [] f85
theorem QN:a4 aa 85 Hn:=bb Hs Tryz.func85 (by kernel_rfl) (bG aaR aw) (fun y=>by kernel_rfl) fun a=>by kernel_rfl
noncomputable abbrev aj6:bz:=[(85,Hn)]
theorem aks:a9 aa (bo az aj6):=bB ⟨QN,⟨⟩⟩
abbrev i46:Shape:=⟨[c5 0 [cH .pack]],[],7⟩
abbrev Rr:Shape:=⟨[a3 2],[],7⟩
noncomputable def f46(a:i46.H):Option Rr.H:=
(f85 ((a.1.1.1,()),())).bind fun b=>
 some (((b.1.1==(0:Int)),()),())
noncomputable def SM:a0:=a' az Tryz.f46 i46 Rr [] f46
theorem agI:a4 aa 46 SM:=bb aks Tryz.func46 (by kernel_rfl) aw (fun y=>by kernel_rfl) fun a=>by kernel_rfl
noncomputable abbrev sN:bz:=[(140,MN),(142,MM),(143,ML),(145,MK)]
theorem S6:a9 aa (bo az sN):=bB ⟨aax,aaw,aav,aau,⟨⟩⟩
abbrev M3:Shape:=⟨[b7 1 1 0],[b6 1 [cH .pack]],24⟩
abbrev oq:List be:=[(.ret,⟨[ah 2],[],24⟩)]
noncomputable def pw(c:Int):aR oq:=((c,()),())
noncomputable def EL(y:M3.H):Option (aR oq):=
 pu y.2.1.1 pw [fun ps=>rq (((ps,()),()),()),fun ps=>rp (((ps,()),()),()),fun ps=>rm (((ps,()),()),()),fun ps=>rl (((ps,()),()),())]
theorem abZ:∀ps k i,exec (gg (bo az sN) []) (aH (dz (aH (codeOf Tryz.f88) 1 58)) 116 3737) 3737 (((gD 24).st (gJ 24 ps k i)).set 5 (bJ (.clo 140 [(1,0)]))) (px 24 oq)=((fun ps=>rq (((ps,()),()),())) ps).bind fun r=>bif(r.1.1 !=0) then some (.inr (pw r.1.1)) else some (.inl (gJ 24 ps k i)):=fun ps k i=>by kernel_rfl
theorem abY:∀ps k i,exec (gg (bo az sN) []) (aH (dz (aH (codeOf Tryz.f88) 1 58)) 116 3737) 3737 (((gD 24).st (gJ 24 ps k i)).set 5 (bJ (.clo 142 [(1,0)]))) (px 24 oq)=((fun ps=>rp (((ps,()),()),())) ps).bind fun r=>bif(r.1.1 !=0) then some (.inr (pw r.1.1)) else some (.inl (gJ 24 ps k i)):=fun ps k i=>by kernel_rfl
theorem abX:∀ps k i,exec (gg (bo az sN) []) (aH (dz (aH (codeOf Tryz.f88) 1 58)) 116 3737) 3737 (((gD 24).st (gJ 24 ps k i)).set 5 (bJ (.clo 143 [(1,0)]))) (px 24 oq)=((fun ps=>rm (((ps,()),()),())) ps).bind fun r=>bif(r.1.1 !=0) then some (.inr (pw r.1.1)) else some (.inl (gJ 24 ps k i)):=fun ps k i=>by kernel_rfl
theorem abW:∀ps k i,exec (gg (bo az sN) []) (aH (dz (aH (codeOf Tryz.f88) 1 58)) 116 3737) 3737 (((gD 24).st (gJ 24 ps k i)).set 5 (bJ (.clo 145 [(1,0)]))) (px 24 oq)=((fun ps=>rl (((ps,()),()),())) ps).bind fun r=>bif(r.1.1 !=0) then some (.inr (pw r.1.1)) else some (.inl (gJ 24 ps k i)):=fun ps k i=>by kernel_rfl
theorem acb:bl aa (aH (codeOf Tryz.f88) 1 3) (bC M3 oq EL):=
 VM (C:=gg (bo az sN) []) (os:=oq) (nt:=24) (T:=167) (e:=166) (m0:=((opsOf (aH (codeOf Tryz.f88) 1 6)).getD 0 default)) (m1:=((opsOf (aH (codeOf Tryz.f88) 1 6)).getD 1 default)) (m2:=((opsOf (aH (codeOf Tryz.f88) 1 6)).getD 2 default)) (m3:=((opsOf (aH (codeOf Tryz.f88) 1 6)).getD 3 default)) (m4:=((opsOf (aH (codeOf Tryz.f88) 1 6)).getD 4 default)) (m5:=((opsOf (aH (codeOf Tryz.f88) 1 6)).getD 5 default)) (n0:=((opsOf (aH (codeOf Tryz.f88) 1 28)).getD 0 default)) (n1:=((opsOf (aH (codeOf Tryz.f88) 1 28)).getD 1 default)) (n2:=((opsOf (aH (codeOf Tryz.f88) 1 28)).getD 2 default)) (q0:=((opsOf (aH (dz (aH (codeOf Tryz.f88) 1 58)) 116 232)).getD 0 default)) (r0:=((opsOf (aH (dz (aH (codeOf Tryz.f88) 1 58)) 116 3736)).getD 0 default)) (r1:=((opsOf (aH (dz (aH (codeOf Tryz.f88) 1 58)) 116 3736)).getD 1 default)) (r2:=((opsOf (aH (dz (aH (codeOf Tryz.f88) 1 58)) 116 3736)).getD 2 default))
  (i1:=rB (aH (codeOf Tryz.f88) 1 6)) (i2:=rB (aH (codeOf Tryz.f88) 1 28)) (i3:=rB (aH (dz (aH (codeOf Tryz.f88) 1 58)) 116 232)) (i4:=rB (aH (dz (aH (codeOf Tryz.f88) 1 58)) 116 3736)) (BB:=(aH (dz (aH (codeOf Tryz.f88) 1 58)) 116 3737)) (r8:=(aH (dz (aH (codeOf Tryz.f88) 1 58)) 116 935)) (E:=(aH (codeOf Tryz.f88) 1 15)) (p3:=232) (pB:=3737) (p8:=935) (pE:=15) (g0:=140) (g1:=142) (g2:=143) (g3:=145) (c0:=fun ps=>rq (((ps,()),()),())) (c1:=fun ps=>rp (((ps,()),()),())) (c2:=fun ps=>rm (((ps,()),()),())) (c3:=fun ps=>rl (((ps,()),()),())) (mk:=pw) S6
  {pQ:=(by kernel_rfl),Gb:=(by kernel_rfl),bB:=⟨(by kernel_rfl),(by kernel_rfl),(by kernel_rfl),(by kernel_rfl),(by kernel_rfl),(by kernel_rfl),(by kernel_rfl),(by kernel_rfl),(by kernel_rfl),(by kernel_rfl),(by kernel_rfl),(by kernel_rfl)⟩,fc:=⟨(by kernel_rfl),(by kernel_rfl)⟩,on:=⟨(by kernel_rfl),(by kernel_rfl),(by kernel_rfl)⟩,z7:=⟨(by kernel_rfl),(by kernel_rfl),(by kernel_rfl)⟩,dst:=⟨(by kernel_rfl),(by kernel_rfl),(by kernel_rfl),(by kernel_rfl),(by kernel_rfl),(by kernel_rfl),(by kernel_rfl),(by kernel_rfl)⟩,Fb:=(by decide),Gf:=(by kernel_rfl),RI:=(by kernel_rfl),RH:=(by kernel_rfl),wr:=(by kernel_rfl),ag8:=(by kernel_rfl),
   j5:=⟨(fun f hf=>by cases hf),kE (by kernel_rfl) aw,kE (by kernel_rfl) aw,kE (by kernel_rfl) aw⟩,hos:=(fun _ _=>rfl),aI:=(fun ps=>by kernel_rfl),mA:=(fun ps k i=>by kernel_rfl),aW:=(fun ps k i=>by kernel_rfl),
   fN:=(fun gc h=>by
    simp only[List.mem_cons,List.not_mem_nil,or_false] at h;rcases h with rfl|rfl|rfl|rfl
    ·exact abZ
    ·exact abY
    ·exact abX
    ·exact abW),
   mT:=(fun ps k i=>by kernel_rfl),hE:=(fun ps k i=>by kernel_rfl)} (fun ps=>rfl) (by kernel_rfl)
abbrev i88:Shape:=⟨[aX 0 .pack],[],24⟩
abbrev Q7:Shape:=⟨[ah 2],[],24⟩
noncomputable def f88(a:i88.H):Option Q7.H:=
(EL (((),()),(a.1.1,()),())).bind fun b=>
 some ((b.1.1,()),())
noncomputable def Hk:a0:=a' az Tryz.f88 i88 Q7 [] f88
theorem QK:a4 aa 88 Hk:=bb S6 Tryz.func88 (by kernel_rfl) (bG acb aw) (fun y=>by kernel_rfl) fun a=>by kernel_rfl
noncomputable abbrev aj5:bz:=[(88,Hk)]
theorem akr:a9 aa (bo az aj5):=bB ⟨QK,⟨⟩⟩
abbrev i48:Shape:=⟨[c5 0 [cH .pack]],[],7⟩
abbrev Rq:Shape:=⟨[a3 2],[],7⟩
noncomputable def f48(a:i48.H):Option Rq.H:=
(f88 ((a.1.1.1,()),())).bind fun b=>
 some (((b.1.1==(0:Int)),()),())
noncomputable def SL:a0:=a' az Tryz.f48 i48 Rq [] f48
theorem agH:a4 aa 48 SL:=bb akr Tryz.func48 (by kernel_rfl) aw (fun y=>by kernel_rfl) fun a=>by kernel_rfl
theorem Ke(a)(M:cg a.1.1.length):(∃(k:Nat) (q:aU),f104 a=some (((k:Int),()),())/\a.1.1[k]? =some q/\a.1.1.find? (fun p=>p.name==a.1.2.1)=some q)\/
  (f104 a=some ((((-1):Int),()),())/\a.1.1.find? (fun p=>p.name==a.1.2.1)=none):=by
 obtain⟨⟨ps,name,u⟩,bx⟩:=a;have M:ps.length<=2097152:=M;have key:∀(r:List aU) (k:Nat),ps.drop k=r->k<=ps.length->(∃(j:Nat) (q:aU),qY ((ps,(name,((k:Int),()))),())=some (.inl (((j:Int),()),()))/\ps[j]? =some q/\r.find? (fun p=>p.name==name)=some q)\/
   (qY ((ps,(name,((k:Int),()))),())=some (.inr ((),()))/\r.find? (fun p=>p.name==name)=none):=by
  intro r;induction r with
  |nil=>
   intro k hr ag;have:=drop_nil hr;have d1:decide ((k:Int)<(ps.length:Int))=false:=by simp only[decide_eq_false_iff_not];omega
   refine .inr ⟨eO ?_,rfl⟩;simp only[ye,d1,cond_false]
  |cons q r ih=>
   intro k hr ag;obtain⟨c1,c2,c3⟩:=drop_cons hr;have hw:aD k:=by unfold aD;omega
   have step:ye ((ps,(name,((k:Int),()))),())=some (bif q.name==name then .inr (.inl (((k:Int),()),())) else .inl ((ps,(name,(((k+1:Nat):Int),()))),())):=by
    simp only[ye,ce c3,cond_true,bZ,c1,Option.bind_some,b_ hw];cases (q.name==name)<;>rfl
   cases aF:(q.name==name) with
   |true=>
    rw[aF,cond_true] at step;exact .inl ⟨k,q,eO step,c1,by simp[List.find?_cons,aF]⟩
   |false=>
    rw[aF,cond_false] at step;rcases ih (k+1) c2 c3 with⟨j,g6,h1,h2,Z⟩|⟨h1,h2⟩
    ·exact .inl ⟨j,g6,(hD step).trans h1,h2,by simp[List.find?_cons,aF];exact Z⟩
    ·exact .inr ⟨(hD step).trans h1,by simp only[List.find?_cons,aF];exact h2⟩
 rcases key ps 0 rfl (Nat.zero_le _) with⟨j,q,h1,h2,Z⟩|⟨h1,h2⟩
 ·have h1:qY ((ps,(name,((0:Int),()))),())=some (.inl (((j:Int),()),())):=h1;exact .inl ⟨j,q,by simp only[f104,h1,Option.bind_some],h2,Z⟩
 ·have h1:qY ((ps,(name,((0:Int),()))),())=some (.inr ((),())):=h1;exact .inr ⟨by simp only[f104,h1,Option.bind_some],h2⟩
abbrev mY(ps:List aU):Prop:=∀p,p∈ps->p.bH.length<=2097151/\∀n,n∈p.bL->n.bH.length<=2097151
def hL(ps:List aU)(n:dr):Bool:=match ps.find? (fun q=>q.name==n.name) with
 |some q=>rP n q.bH
 |none=>false
def iN(ps:List aU)(n:dr):Bool:=ps.any fun q=>kT n q.name q.bH
theorem Jv(a)(hb:eC a.1.1)(hv:mY a.1.1):f135 a=some ((a.1.1.all (fun p=>p.bL.all (hL a.1.1)),()),()):=by
 obtain⟨⟨ps,u⟩,bx⟩:=a;have hl:ps.length<=2097152:=hb.1;have inner:∀(i:Nat) (p:aU),ps[i]? =some p->BF ((ps,((i:Int),((0:Int),()))),())=some (bif p.bL.all (hL ps) then .inr ((ps,((i:Int),())),()) else .inl ((false,()),())):=by
  intro i p al;have sC:=List.mem_of_getElem? al;have GK:p.bL.length<=2097152:=(hb.2 p sC).2.2.1.1;have:=fz wQ p.bL (fun k=>((ps,((i:Int),((k:Int),()))),())) (fun _ n=>hL ps n) (.inl ((false,()),())) (.inr ((ps,((i:Int),())),())) (fun k n hn=>?_) ?_
  ·have:=this;rw[gR] at this;exact this
  ·have ag:=ca hn;have hw:aD k:=by unfold aD;omega
   have hQ:=List.mem_of_getElem? hn;have mT:=Ke ((ps,(n.name,())),()) hl;simp only[wQ,bZ,al,Option.bind_some,ce ag,cond_true,hn];rcases mT with⟨j,q,h1,h2,Z⟩|⟨h1,h2⟩
   ·have h2:ps[j]? =some q:=h2;have Z:ps.find? (fun p=>p.name==n.name)=some q:=Z
    have aF:=hv q (List.mem_of_getElem? h2);have hf:=YE (((n.name,(n.kind,(n.bH,()))),(n.name,(q.bH,()))),()) ((hv p sC).2 n hQ) aF.1 rfl;have hj:decide ((j:Int)<0)=false:=by simp only[decide_eq_false_iff_not];omega
    simp only[h1,Option.bind_some,wl,hj,cond_false,bZ,h2,hf,hL,Z,b_ hw];cases rP n q.bH<;>rfl
   ·have h2:ps.find? (fun p=>p.name==n.name)=none:=h2
    have hj:decide ((-1:Int)<0)=true:=rfl;simp only[h1,Option.bind_some,wl,hj,cond_true,hL,h2,cond_false]
  ·simp only[wQ,bZ,al,Option.bind_some,cX,cond_false]
 have key:Dn ((ps,((0:Int),())),())=some (bif allI (fun _ p=>p.bL.all (hL ps)) 0 ps then .inr ((),()) else .inl ((false,()),())):=by
  refine fz yb ps (fun i=>((ps,((i:Int),())),())) _ _ _ (fun i x hx=>?_) ?_
  ·have hi:=ca hx;have hw:aD i:=by unfold aD;omega
   simp only[yb,ce hi,cond_true,inner i x hx,Option.bind_some];cases x.bL.all (hL ps)
   ·rfl
   ·simp only[cond_true,b_ hw]
  ·simp only[yb,cX,cond_false]
 rw[gR] at key;simp only[f135,key,Option.bind_some];cases List.all ps (fun p=>p.bL.all (hL ps))<;>rfl
theorem Uz(a)(hb:eC a.1.1)(hv:mY a.1.1):f144 a=some ((a.1.1.all (fun p=>p.bL.all (iN a.1.1)),()),()):=by
 obtain⟨⟨ps,u⟩,bx⟩:=a;have hl:ps.length<=2097152:=hb.1;have aeS:∀n:dr,cg n.name.length->n.bH.length<=2097151->y4 ((ps,(((n.name,(n.kind,(n.bH,()))),()),())),())=some ((iN ps n,()),()):=by
  intro n GM aiu;have key:∀(r:List aU) (k:Nat),ps.drop k=r->k<=ps.length->∃z:Int,(qJ ((ps,(((n.name,(n.kind,(n.bH,()))),()),((ps.length:Int),((k:Int),())))),())).bind (fun ab8=>(match ab8 with
    |.inl ab7=>some ((ab7.1.1,()),())
    |.inr amb=>some ((((-1):Int),()),()):Option D1.H))=some ((z,()),())/\decide (z>=0)=r.any (fun q=>kT n q.name q.bH):=by
   intro r;induction r with
   |nil=>
    intro k hr ag;have:=drop_nil hr;have d1:decide ((k:Int)<(ps.length:Int))=false:=by simp only[decide_eq_false_iff_not];omega
    have:qJ ((ps,(((n.name,(n.kind,(n.bH,()))),()),((ps.length:Int),((k:Int),())))),())=some (.inr ((),())):=by
     refine eO ?_
     simp only[wN,d1,cond_false]
    exact⟨-1,by rw[this];rfl,rfl⟩
   |cons q r ih=>
    intro k hr ag;obtain⟨c1,c2,c3⟩:=drop_cons hr;have hw:aD k:=by unfold aD;omega
    have aF:=hv q (List.mem_of_getElem? c1);have hf:=V0 (((n.name,(n.kind,(n.bH,()))),(q.name,(q.bH,()))),()) GM aiu aF.1;have step:wN ((ps,(((n.name,(n.kind,(n.bH,()))),()),((ps.length:Int),((k:Int),())))),())=some (bif kT n q.name q.bH then .inr (.inl (((k:Int),()),())) else .inl ((ps,(((n.name,(n.kind,(n.bH,()))),()),((ps.length:Int),(((k+1:Nat):Int),())))),())):=by
     simp only[wN,ce c3,cond_true,bZ,c1,Option.bind_some,Ep,hf,b_ hw];cases kT n q.name q.bH<;>rfl
    rw[List.any_cons];cases R3:kT n q.name q.bH with
    |true=>
     rw[R3,cond_true] at step;exact⟨k,by rw[show qJ _=_ from eO step];rfl,by simp⟩
    |false=>
     rw[R3,cond_false] at step;obtain⟨z,h1,h2⟩:=ih (k+1) c2 c3;exact⟨z,by rw[show qJ _=_ from hD step];exact h1,by rw[h2];rfl⟩
  obtain⟨z,h1,h2⟩:=key ps 0 rfl (Nat.zero_le _);have Z:y3 ((ps,(((n.name,(n.kind,(n.bH,()))),()),())),())=some ((z,()),()):=by
   simp only[y3];exact h1
  simp only[y4,Z,Option.bind_some,h2,iN]
 have inner:∀(i:Nat) (p:aU),ps[i]? =some p->BE ((ps,(ps,((ps.length:Int),((i:Int),(p.bL,((p.bL.length:Int),((0:Int),()))))))),())=some (bif p.bL.all (iN ps) then .inr ((ps,(ps,((ps.length:Int),((i:Int),())))),()) else .inl ((false,()),())):=by
  intro i p al;have sC:=List.mem_of_getElem? al;have GK:p.bL.length<=2097152:=(hb.2 p sC).2.2.1.1;have:=fz wO p.bL (fun k=>((ps,(ps,((ps.length:Int),((i:Int),(p.bL,((p.bL.length:Int),((k:Int),()))))))),())) (fun _ n=>iN ps n) (.inl ((false,()),())) (.inr ((ps,(ps,((ps.length:Int),((i:Int),())))),())) (fun k n hn=>?_) ?_
  ·have:=this;rw[gR] at this;exact this
  ·have ag:=ca hn;have hw:aD k:=by unfold aD;omega
   have hQ:=List.mem_of_getElem? hn;have hc:=aeS n ((hb.2 p sC).2.2.1.2 n hQ).1 ((hv p sC).2 n hQ);simp only[wO,ce ag,cond_true,bZ,hn,Option.bind_some,hc,b_ hw];cases iN ps n<;>rfl
  ·simp only[wO,cX,cond_false]
 have key:Dl ((ps,(ps,((ps.length:Int),((0:Int),())))),())=some (bif allI (fun _ p=>p.bL.all (iN ps)) 0 ps then .inr ((),()) else .inl ((false,()),())):=by
  refine fz x' ps (fun i=>((ps,(ps,((ps.length:Int),((i:Int),())))),())) _ _ _ (fun i x hx=>?_) ?_
  ·have hi:=ca hx;have hw:aD i:=by unfold aD;omega
   simp only[x',ce hi,cond_true,bZ,hx,inner i x hx,Option.bind_some];cases x.bL.all (iN ps)
   ·rfl
   ·simp only[cond_true,b_ hw]
  ·simp only[x',cX,cond_false]
 rw[gR] at key;simp only[f144,key,Option.bind_some];cases List.all ps (fun p=>p.bL.all (iN ps))<;>rfl
theorem Yp:∀ps:List aU,(∀i y,ps[i+1]? =some y->mo ps i y=true)->ps.Pairwise fun p q=>Op.bytesLess p.name q.name=true:=by
 intro ps;induction ps with
 |nil=>intro _;exact List.Pairwise.nil
 |cons x r ih=>
  intro h;have hr:=ih (fun i y aj=>by
   have:=h (i+1) y (by simpa using aj)
   unfold mo at this ⊢;simpa using this)
  refine List.pairwise_cons.2 ⟨fun y aj=>?_,hr⟩
  cases r with
  |nil=>cases aj
  |cons z r=>
   have hz:Op.bytesLess x.name z.name=true:=by
    have:=h 0 z rfl;unfold mo at this;simpa using this
   rcases List.mem_cons.1 aj with rfl|aj
   ·exact hz
   ·exact tw _ _ _ hz ((List.pairwise_cons.1 hr).1 y aj)
theorem LI{ps:List aU}(h:j8 ps=true):ps.Pairwise fun p q=>Op.bytesLess p.name q.name=true:=by
 refine Yp ps (fun i y aj=>?_)
 have:=Cw ps.tail 0 h i y (by rw[List.getElem?_tail];exact aj)
 rwa[Nat.zero_add] at this
theorem Vw:∀(ps:List aU) (n:dr),(∀p,p∈ps->eG p.bH=true)->hH n=true->ps.Pairwise (fun p q=>Op.bytesLess p.name q.name=true)->iN ps n=hL ps n:=by
 intro ps n;induction ps with
 |nil=>intro _ _ _;rfl
 |cons q r ih=>
  intro hv hn al;have nL:=List.pairwise_cons.1 al;have ih:=ih (fun p h=>hv p (List.mem_cons_of_mem _ h)) hn nL.2
  unfold iN hL at ih ⊢;rw[List.any_cons,List.find?_cons];cases aF:(q.name==n.name) with
  |true=>
   have lL:r.any (fun q=>kT n q.name q.bH)=false:=by
    rw[List.any_eq_false];intro p ail;have h1:=nL.1 p ail;rw[eq_of_beq aF] at h1;have:(p.name==n.name)=false:=by
     cases h:(p.name==n.name) with
     |false=>rfl
     |true=>rw[eq_of_beq h,pq] at h1;cases h1
    unfold kT;rw[this];simp
   rw[lL];unfold kT;rw[hv q List.mem_cons_self,hn,aF];simp
  |false=>
   have:kT n q.name q.bH=false:=by unfold kT;rw[aF];simp
   rw[this,Bool.false_or];exact ih
def il(ps:List aU):Bool:=ps.all dY&&j8 ps&&decide (ps.length<=5)&&ps.all (fun p=>p.bL.all (hL ps))&&(e9 [] ps).isSome
def fC(ps:List aU):Int:=bif ps.all dY&&j8 ps then(bif decide (ps.length<=5) then(bif ps.all (fun p=>p.bL.all (hL ps)) then(bif(e9 [] ps).isSome then 0 else 5) else 4) else 6) else 1
theorem Vp(ps:List aU):il ps=(fC ps==0):=by
 unfold il fC;cases ps.all dY<;>cases j8 ps<;>cases decide (ps.length<=5)<;>cases ps.all (fun p=>p.bL.all (hL ps))<;>cases (e9 [] ps).isSome<;>rfl
theorem WW{aE:Type}(ok:Nat->aE->Bool):∀(xs:List aE) (j:Nat),allI ok (j+1) xs=allI (fun i=>ok (i+1)) j xs:=by
 intro xs;induction xs with
 |nil=>intro j;rfl
 |cons x r ih=>intro j;simp only[allI,ih]
def sw(ps:List aU)(i:Nat)(x:aU):Bool:=dY x&&(i==0||mo ps (i-1) x)
theorem Lr(ps:List aU):allI (sw ps) 0 ps=(ps.all dY&&j8 ps):=by
 unfold sw;rw[Cx,gR];congr 1
 unfold j8;cases ps with
 |nil=>rfl
 |cons x r=>
  simp only[allI,beq_self_eq_true,Bool.true_or,Bool.true_and,List.tail_cons];rw[WW];refine Jt r 0 (fun i y _ _=>?_)
  have:(i+1==0)=false:=rfl;rw[this,Bool.false_or,Nat.add_sub_cancel]
theorem YM(a)(hb:eC a.1.1.1)(hv:mY a.1.1.1):f46 a=some ((il a.1.1.1,()),()):=by
 obtain⟨⟨⟨ps,u⟩,bx⟩,iB⟩:=a;have hl:ps.length<=2097152:=hb.1;have key:yK ((ps,((0:Int),())),())=some (bif allI (sw ps) 0 ps then .inr ((ps,()),()) else .inl (((1:Int),()),())):=by
  refine fz po ps (fun i=>((ps,((i:Int),())),())) _ _ _ (fun i x hx=>?_) ?_
  ·have hi:=ca hx;have hw:aD i:=by unfold aD;omega
   have vD:=hb.2 x (List.mem_of_getElem? hx);simp only[po,ce hi,cond_true,xV,bZ,hx,Option.bind_some];rw[Kj _ vD];simp only[Option.bind_some,sw,zS];cases dY x with
   |false=>rfl
   |true=>
    simp only[Bool.not_true,cond_false,Bool.true_and,mo];cases i with
    |zero=>simp only[beq_self_eq_true,Bool.not_true,cond_false,Option.bind_some,Bool.true_or,cond_true,b_ hw]
    |succ i=>
     have h0:(i+1==0)=false:=rfl;have hS:i<ps.length:=by omega
     obtain⟨q,aF⟩:∃q,ps[i]? =some q:=⟨ps[i],List.getElem?_eq_getElem hS⟩;simp only[h0,Bool.not_false,cond_true,ta (i:=i) (by unfold aD;omega),bZ,aF,hx,Option.bind_some,Bool.false_or,Nat.add_sub_cancel]
     cases Op.bytesLess q.name x.name with
     |false=>rfl
     |true=>simp only[Bool.not_true,cond_false,cond_true,b_ hw]
  ·simp only[po,cX,cond_false]
 rw[Lr] at key;have bp:decide ((ps.length:Int)>5)=!decide (ps.length<=5):=by by_cases h:ps.length<=5<;>simp only[h,decide_true,decide_false,Bool.not_true,Bool.not_false,decide_eq_true_eq,decide_eq_false_iff_not]<;>omega
 simp only[f46,f85,key,Option.bind_some,il];cases hA:(ps.all dY&&j8 ps) with
 |false=>rfl
 |true=>
  have ag:ps.all dY=true:=by simp only[Bool.and_eq_true] at hA;exact hA.1
  obtain⟨out,aC⟩:=Kd ((ps,()),()) hb ag;have hn:=Jv ((ps,()),()) hb hv;simp only[cond_true,Option.bind_some,aC,bp,Bool.true_and];cases decide (ps.length<=5) with
  |false=>rfl
  |true=>
   simp only[Bool.not_true,cond_false,hn,Option.bind_some,Bool.true_and];cases ps.all (fun p=>p.bL.all (hL ps))<;>cases (e9 [] ps).isSome<;>rfl
theorem I3(a)(hb:eC a.1.1)(hv:mY a.1.1):f88 a=some ((fC a.1.1,()),()):=by
 obtain⟨⟨ps,u⟩,bx⟩:=a;have hl:ps.length<=2097152:=hb.1;have e1:=Xi ((ps,((),())),()) hb;have e2:=Ud ((ps,()),()) hl;have bI:=Uz ((ps,()),()) hb hv;have bp:decide ((ps.length:Int)>5)=!decide (ps.length<=5):=by by_cases h:ps.length<=5<;>simp only[h,decide_true,decide_false,Bool.not_true,Bool.not_false,decide_eq_true_eq,decide_eq_false_iff_not]<;>omega
 have c0:rq (((ps,()),()),())=some (((bif ps.all dY&&j8 ps then(0:Int) else 1),()),()):=by
  simp only[rq,BO,e1,Bool.not_not,Option.bind_some];cases ps.all dY with
  |false=>rfl
  |true=>simp only[cond_true,e2,Option.bind_some,Bool.true_and];cases j8 ps<;>rfl
 have c1:rp (((ps,()),()),())=some (((bif decide (ps.length<=5) then(0:Int) else 6),()),()):=by
  simp only[rp,bp];cases decide (ps.length<=5)<;>rfl
 have c2:rm (((ps,()),()),())=some (((bif ps.all (fun p=>p.bL.all (iN ps)) then(0:Int) else 4),()),()):=by
  simp only[rm,bI,Option.bind_some];cases ps.all (fun p=>p.bL.all (iN ps))<;>rfl
 have c3:ps.all dY=true->rl (((ps,()),()),())=some (((bif(e9 [] ps).isSome then(0:Int) else 5),()),()):=by
  intro ag;obtain⟨out,aC⟩:=U_ ((ps,()),()) hb ag;simp only[rl,aC,Option.bind_some];cases (e9 [] ps).isSome<;>rfl
 have z:∀n:Int,((n:Int) !=0)=!(n==0):=fun n=>rfl
 simp only[f88,EL,pu,c0,c1,c2,pw,Option.bind_some,fC];cases hA:(ps.all dY&&j8 ps) with
 |false=>rfl
 |true=>
  simp only[Bool.and_eq_true] at hA;have abn:ps.all (fun p=>p.bL.all (iN ps))=ps.all (fun p=>p.bL.all (hL ps)):=by
   rw[Bool.eq_iff_iff];simp only[List.all_eq_true];have hvs:∀p,p∈ps->eG p.bH=true:=fun p al=>by
    have:=List.all_eq_true.1 hA.1 p al;unfold dY at this;simp only[Bool.and_eq_true] at this;exact this.1.1.2
   have fK:∀p,p∈ps->∀n,n∈p.bL->iN ps n=hL ps n:=fun p al n hn=>by
    have:=List.all_eq_true.1 hA.1 p al;unfold dY qW at this;simp only[Bool.and_eq_true] at this;exact Vw ps n hvs (List.all_eq_true.1 this.1.2.1.1 n hn) (LI hA.2)
   constructor
   ·intro h p al n hn;rw[<-fK p al n hn];exact h p al n hn
   ·intro h p al n hn;rw[fK p al n hn];exact h p al n hn
  rw[abn,c3 hA.1];cases decide (ps.length<=5)<;>cases ps.all (fun p=>p.bL.all (hL ps))<;>cases (e9 [] ps).isSome<;>rfl
theorem Xc(a)(hb:eC a.1.1.1)(hv:mY a.1.1.1):f48 a=some ((il a.1.1.1,()),()):=by
 obtain⟨⟨⟨ps,u⟩,bx⟩,iB⟩:=a;have e:=I3 ((ps,()),()) hb hv;simp only[f48,e,Option.bind_some,Vp]
abbrev i113:Shape:=⟨[c5 0 [bD,cM,bD],ah 1],[],20⟩
abbrev OU:Shape:=⟨[ah 4],[],20⟩
noncomputable def f113(a:i113.H):Option OU.H:=
 bif(decide ((IntKind.i64.wrap (a.1.2.1-(a.1.1.1.length:Int)))<(0:Int))) then
 some ((((-1):Int),()),())
else
 bif(decide ((IntKind.i64.wrap ((IntKind.i64.wrap (a.1.2.1-(a.1.1.1.length:Int)))-(a.1.1.2.2.1.length:Int)))<(0:Int))) then
 some ((((-1):Int),()),())
else
 some (((IntKind.i64.wrap ((IntKind.i64.wrap (a.1.2.1-(a.1.1.1.length:Int)))-(a.1.1.2.2.1.length:Int))),()),())
noncomputable def Ql:a0:=a' az Tryz.f113 i113 OU [] f113
theorem adJ:a4 aa 113 Ql:=bb g0 Tryz.func113 (by kernel_rfl) aw (fun y=>by kernel_rfl) fun a=>by kernel_rfl
noncomputable abbrev ajW:bz:=[(113,Ql)]
theorem Tb:a9 aa (bo az ajW):=bB ⟨adJ,⟨⟩⟩
abbrev xl:Shape:=⟨[aX 0 .need,ah 1,ah 5],[],27⟩
abbrev CB:List be:=[(.ret,⟨[ah 4],[],27⟩),(.exit 0,⟨[ah 1],[],27⟩)]
noncomputable def xX(y:xl.H):cA xl CB:=
 bif(decide (y.1.2.2.1<(y.1.1.length:Int))) then
(bg y.1.1 y.1.2.2.1).bind fun a=>
(f113 (((a.name,a.kind,a.bH,()),y.1.2.1,()),())).bind fun b=>
 bif(decide (b.1.1<(0:Int))) then
 some (.inr (.inl ((((-1):Int),()),())))
else
 some (.inl ((y.1.1,b.1.1,(IntKind.i64.wrap (y.1.2.2.1+(1:Int))),()),()))
else
 some (.inr (.inr ((y.1.2.1,()),())))
noncomputable def xO:xl.H->Option (aR CB):=bK xX
theorem _i:bl aa (aH (codeOf Tryz.f69) 1 122) (bC xl CB xO):=cB Tb (by kernel_rfl) aw fun y=>by kernel_rfl
abbrev i69:Shape:=⟨[aX 0 .need,ah 1],[],27⟩
abbrev Rf:Shape:=⟨[ah 4],[],27⟩
noncomputable def f69(a:i69.H):Option Rf.H:=
 bif(decide ((IntKind.i64.wrap (a.1.2.1-(a.1.1.length:Int)))<(0:Int))) then
 some ((((-1):Int),()),())
else
(xO ((a.1.1,(IntKind.i64.wrap (a.1.2.1-(a.1.1.length:Int))),(0:Int),()),())).bind fun b=>
(match b with
|.inl c=>
 some ((c.1.1,()),())
|.inr d=>
 some ((d.1.1,()),()))
noncomputable def SD:a0:=a' az Tryz.f69 i69 Rf [] f69
theorem agz:a4 aa 69 SD:=bb Tb Tryz.func69 (by kernel_rfl) (bG _i aw) (fun y=>by kernel_rfl) fun a=>by kernel_rfl
abbrev i114:Shape:=⟨[c5 0 [bD,cM,cM,bD],ah 1],[],20⟩
abbrev OT:Shape:=⟨[ah 4],[],20⟩
noncomputable def f114(a:i114.H):Option OT.H:=
 bif(decide ((IntKind.i64.wrap (a.1.2.1-(a.1.1.1.length:Int)))<(0:Int))) then
 some ((((-1):Int),()),())
else
 bif(decide ((IntKind.i64.wrap ((IntKind.i64.wrap (a.1.2.1-(a.1.1.1.length:Int)))-(a.1.1.2.2.2.1.length:Int)))<(0:Int))) then
 some ((((-1):Int),()),())
else
 some (((IntKind.i64.wrap ((IntKind.i64.wrap (a.1.2.1-(a.1.1.1.length:Int)))-(a.1.1.2.2.2.1.length:Int))),()),())
noncomputable def Qk:a0:=a' az Tryz.f114 i114 OT [] f114
theorem adI:a4 aa 114 Qk:=bb g0 Tryz.func114 (by kernel_rfl) aw (fun y=>by kernel_rfl) fun a=>by kernel_rfl
noncomputable abbrev ajV:bz:=[(114,Qk)]
theorem Ta:a9 aa (bo az ajV):=bB ⟨adI,⟨⟩⟩
abbrev xk:Shape:=⟨[aX 0 .entry,ah 1,ah 5],[],27⟩
abbrev CA:List be:=[(.ret,⟨[ah 4],[],27⟩),(.exit 0,⟨[ah 1],[],27⟩)]
noncomputable def xW(y:xk.H):cA xk CA:=
 bif(decide (y.1.2.2.1<(y.1.1.length:Int))) then
(bg y.1.1 y.1.2.2.1).bind fun a=>
(f114 (((a.path,a.kind,a.mode,a.text,()),y.1.2.1,()),())).bind fun b=>
 bif(decide (b.1.1<(0:Int))) then
 some (.inr (.inl ((((-1):Int),()),())))
else
 some (.inl ((y.1.1,b.1.1,(IntKind.i64.wrap (y.1.2.2.1+(1:Int))),()),()))
else
 some (.inr (.inr ((y.1.2.1,()),())))
noncomputable def xN:xk.H->Option (aR CA):=bK xW
theorem _h:bl aa (aH (codeOf Tryz.f70) 1 122) (bC xk CA xN):=cB Ta (by kernel_rfl) aw fun y=>by kernel_rfl
abbrev i70:Shape:=⟨[aX 0 .entry,ah 1],[],27⟩
abbrev Re:Shape:=⟨[ah 4],[],27⟩
noncomputable def f70(a:i70.H):Option Re.H:=
 bif(decide ((IntKind.i64.wrap (a.1.2.1-(a.1.1.length:Int)))<(0:Int))) then
 some ((((-1):Int),()),())
else
(xN ((a.1.1,(IntKind.i64.wrap (a.1.2.1-(a.1.1.length:Int))),(0:Int),()),())).bind fun b=>
(match b with
|.inl c=>
 some ((c.1.1,()),())
|.inr d=>
 some ((d.1.1,()),()))
noncomputable def SC:a0:=a' az Tryz.f70 i70 Re [] f70
theorem agy:a4 aa 70 SC:=bb Ta Tryz.func70 (by kernel_rfl) (bG _h aw) (fun y=>by kernel_rfl) fun a=>by kernel_rfl
noncomputable abbrev aj9:bz:=[(69,SD),(70,SC)]
theorem akv:a9 aa (bo az aj9):=bB ⟨agz,agy,⟨⟩⟩
abbrev i32:Shape:=⟨[c5 0 [bD,bD,cH .need,cH .entry],ah 1],[],32⟩
abbrev Ru:Shape:=⟨[ah 4],[],32⟩
noncomputable def f32(a:i32.H):Option Ru.H:=
 bif(decide ((IntKind.i64.wrap (a.1.2.1-(a.1.1.1.length:Int)))<(0:Int))) then
 some ((((-1):Int),()),())
else
 bif(decide ((IntKind.i64.wrap ((IntKind.i64.wrap (a.1.2.1-(a.1.1.1.length:Int)))-(a.1.1.2.1.length:Int)))<(0:Int))) then
 some ((((-1):Int),()),())
else
(f69 ((a.1.1.2.2.1,(IntKind.i64.wrap ((IntKind.i64.wrap (a.1.2.1-(a.1.1.1.length:Int)))-(a.1.1.2.1.length:Int))),()),())).bind fun b=>
 bif(decide (b.1.1<(0:Int))) then
 some ((((-1):Int),()),())
else
(f70 ((a.1.1.2.2.2.1,b.1.1,()),())).bind fun c=>
 bif(decide (c.1.1<(0:Int))) then
 some ((((-1):Int),()),())
else
 some ((c.1.1,()),())
noncomputable def SP:a0:=a' az Tryz.f32 i32 Ru [] f32
theorem agL:a4 aa 32 SP:=bb akv Tryz.func32 (by kernel_rfl) aw (fun y=>by kernel_rfl) fun a=>by kernel_rfl
noncomputable abbrev akf:bz:=[(32,SP)]
theorem Tj:a9 aa (bo az akf):=bB ⟨agL,⟨⟩⟩
abbrev xv:Shape:=⟨[aX 0 .pack,ah 1,ah 5],[],27⟩
abbrev CJ:List be:=[(.ret,⟨[ah 4],[],27⟩),(.exit 0,⟨[ah 1],[],27⟩)]
noncomputable def x4(y:xv.H):cA xv CJ:=
 bif(decide (y.1.2.2.1<(y.1.1.length:Int))) then
(bg y.1.1 y.1.2.2.1).bind fun a=>
(f32 (((a.name,a.bH,a.bL,a.b4,()),y.1.2.1,()),())).bind fun b=>
 bif(decide (b.1.1<(0:Int))) then
 some (.inr (.inl ((((-1):Int),()),())))
else
 some (.inl ((y.1.1,b.1.1,(IntKind.i64.wrap (y.1.2.2.1+(1:Int))),()),()))
else
 some (.inr (.inr ((y.1.2.1,()),())))
noncomputable def xP:xv.H->Option (aR CJ):=bK x4
theorem _t:bl aa (aH (codeOf Tryz.f20) 1 122) (bC xv CJ xP):=cB Tj (by kernel_rfl) aw fun y=>by kernel_rfl
abbrev i20:Shape:=⟨[aX 0 .pack,ah 1],[],27⟩
abbrev RA:Shape:=⟨[ah 4],[],27⟩
noncomputable def f20(a:i20.H):Option RA.H:=
 bif(decide ((IntKind.i64.wrap (a.1.2.1-(a.1.1.length:Int)))<(0:Int))) then
 some ((((-1):Int),()),())
else
(xP ((a.1.1,(IntKind.i64.wrap (a.1.2.1-(a.1.1.length:Int))),(0:Int),()),())).bind fun b=>
(match b with
|.inl c=>
 some ((c.1.1,()),())
|.inr d=>
 some ((d.1.1,()),()))
noncomputable def SW:a0:=a' az Tryz.f20 i20 RA [] f20
theorem agR:a4 aa 20 SW:=bb Tj Tryz.func20 (by kernel_rfl) (bG _t aw) (fun y=>by kernel_rfl) fun a=>by kernel_rfl
noncomputable abbrev akk:bz:=[(20,SW)]
theorem Ht:a9 aa (bo az akk):=bB ⟨agR,⟨⟩⟩
abbrev i11:Shape:=⟨[c5 0 [cH .pack],ah 1],[],12⟩
abbrev z9:Shape:=⟨[ah 4],[],12⟩
noncomputable def f11(a:i11.H):Option z9.H:=
(f20 ((a.1.1.1,a.1.2.1,()),())).bind fun b=>
 bif(decide (b.1.1<(0:Int))) then
 some ((((-1):Int),()),())
else
 some ((b.1.1,()),())
noncomputable def vQ:a0:=a' az Tryz.f11 i11 z9 [] f11
theorem agW:a4 aa 11 vQ:=bb Ht Tryz.func11 (by kernel_rfl) aw (fun y=>by kernel_rfl) fun a=>by kernel_rfl
abbrev i116:Shape:=⟨[c5 0 [bD,cM,bD]],[],14⟩
abbrev OS:Shape:=⟨[b7 2 2 0],[b6 2 [bD,cM,bD]],14⟩
noncomputable def f116(a:i116.H):Option OS.H:=
 some (((),()),(a.1.1.1,a.1.1.2.1,a.1.1.2.2.1,()),())
noncomputable def Qj:a0:=a' az Tryz.f116 i116 OS [] f116
theorem adH:a4 aa 116 Qj:=bb g0 Tryz.func116 (by kernel_rfl) aw (fun y=>by kernel_rfl) fun a=>by kernel_rfl
abbrev i117:Shape:=⟨[c5 0 [bD,cM,cM,bD]],[],17⟩
abbrev OR:Shape:=⟨[b7 2 2 0],[b6 2 [bD,cM,cM,bD]],17⟩
noncomputable def f117(a:i117.H):Option OR.H:=
 some (((),()),(a.1.1.1,a.1.1.2.1,a.1.1.2.2.1,a.1.1.2.2.2.1,()),())
noncomputable def Qi:a0:=a' az Tryz.f117 i117 OR [] f117
theorem adG:a4 aa 117 Qi:=bb g0 Tryz.func117 (by kernel_rfl) aw (fun y=>by kernel_rfl) fun a=>by kernel_rfl
abbrev i125:Shape:=⟨[c5 0 [bD,cM,bD],c5 1 [bD,cM,bD]],[],20⟩
abbrev OM:Shape:=⟨[a3 4],[],20⟩
noncomputable def f125(a:i125.H):Option OM.H:=
 bif(!(a.1.1.1==a.1.2.1.1)) then
 some ((false,()),())
else
 bif(a.1.1.2.1 !=a.1.2.1.2.1) then
 some ((false,()),())
else
 bif(!(a.1.1.2.2.1==a.1.2.1.2.2.1)) then
 some ((false,()),())
else
 some ((true,()),())
noncomputable def Qg:a0:=a' az Tryz.f125 i125 OM [] f125
theorem adE:a4 aa 125 Qg:=bb g0 Tryz.func125 (by kernel_rfl) aw (fun y=>by kernel_rfl) fun a=>by kernel_rfl
noncomputable abbrev ajU:bz:=[(116,Qj)]
theorem S':a9 aa (bo az ajU):=bB ⟨adH,⟨⟩⟩
abbrev yx:Shape:=⟨[aX 0 .need,b8 3 3000192,ah 4],[cq 3000192 .need 3 0],23⟩
abbrev DR:List be:=[(.exit 0,⟨[b8 3 3000192],[cq 3000192 .need 3 0],23⟩)]
noncomputable def yT(y:yx.H):cA yx DR:=
 bif(decide (y.1.2.2.1<(y.1.1.length:Int))) then
(bg y.1.1 y.1.2.2.1).bind fun a=>
(f116 (((a.name,a.kind,a.bH,()),()),())).bind fun b=>
(fa y.2.1.length y.1.2.2.1).bind fun c=>
((y.2.1[c]?).bind fun q=>some (dr.mk b.2.1.1 b.2.1.2.1 b.2.1.2.2.1)).bind fun d=>
 some (.inl ((y.1.1,(),(IntKind.i64.wrap (y.1.2.2.1+(1:Int))),()),(y.2.1.set c d),()))
else
 some (.inr (((),()),y.2.1,()))
noncomputable def D_:yx.H->Option (aR DR):=bK yT
theorem aaW:bl aa (aH (codeOf Tryz.f72) 1 58) (bC yx DR D_):=cB S' (by kernel_rfl) aw fun y=>by kernel_rfl
abbrev i72:Shape:=⟨[aX 0 .need],[],23⟩
abbrev Rd:Shape:=⟨[b8 2 3000128],[cq 3000128 .need 2 0],23⟩
noncomputable def f72(a:i72.H):Option Rd.H:=
(lF 40 (a.1.1.length:Int) (a.1.1.length:Int) (dr.mk ([]:ak) (0:Int) ([]:ak))).bind fun b=>
(D_ ((a.1.1,(),(0:Int),()),b,())).bind fun c=>
 some (((),()),c.2.1,())
noncomputable def SB:a0:=a' az Tryz.f72 i72 Rd [] f72
theorem agx:a4 aa 72 SB:=bb S' Tryz.func72 (by kernel_rfl) (bG aaW aw) (fun y=>by kernel_rfl) fun a=>by kernel_rfl
noncomputable abbrev ajT:bz:=[(117,Qi)]
theorem S_:a9 aa (bo az ajT):=bB ⟨adG,⟨⟩⟩
abbrev yw:Shape:=⟨[aX 0 .entry,b8 3 3000192,ah 4],[cq 3000192 .entry 3 0],23⟩
abbrev DQ:List be:=[(.exit 0,⟨[b8 3 3000192],[cq 3000192 .entry 3 0],23⟩)]
noncomputable def yS(y:yw.H):cA yw DQ:=
 bif(decide (y.1.2.2.1<(y.1.1.length:Int))) then
(bg y.1.1 y.1.2.2.1).bind fun a=>
(f117 (((a.path,a.kind,a.mode,a.text,()),()),())).bind fun b=>
(fa y.2.1.length y.1.2.2.1).bind fun c=>
((y.2.1[c]?).bind fun q=>some (aZ.mk b.2.1.1 b.2.1.2.1 b.2.1.2.2.1 b.2.1.2.2.2.1)).bind fun d=>
 some (.inl ((y.1.1,(),(IntKind.i64.wrap (y.1.2.2.1+(1:Int))),()),(y.2.1.set c d),()))
else
 some (.inr (((),()),y.2.1,()))
noncomputable def D9:yw.H->Option (aR DQ):=bK yS
theorem aaV:bl aa (aH (codeOf Tryz.f73) 1 58) (bC yw DQ D9):=cB S_ (by kernel_rfl) aw fun y=>by kernel_rfl
abbrev i73:Shape:=⟨[aX 0 .entry],[],23⟩
abbrev Rc:Shape:=⟨[b8 2 3000128],[cq 3000128 .entry 2 0],23⟩
noncomputable def f73(a:i73.H):Option Rc.H:=
(lF 48 (a.1.1.length:Int) (a.1.1.length:Int) (aZ.mk ([]:ak) (0:Int) (0:Int) ([]:ak))).bind fun b=>
(D9 ((a.1.1,(),(0:Int),()),b,())).bind fun c=>
 some (((),()),c.2.1,())
noncomputable def SA:a0:=a' az Tryz.f73 i73 Rc [] f73
theorem agw:a4 aa 73 SA:=bb S_ Tryz.func73 (by kernel_rfl) (bG aaV aw) (fun y=>by kernel_rfl) fun a=>by kernel_rfl
noncomputable abbrev aj8:bz:=[(72,SB),(73,SA)]
theorem aku:a9 aa (bo az aj8):=bB ⟨agx,agw,⟨⟩⟩
abbrev i34:Shape:=⟨[c5 0 [bD,bD,cH .need,cH .entry]],[],19⟩
abbrev Rt:Shape:=⟨[b7 2 2 0],[gH 5000130 .need 2 2,gH 5000131 .entry 2 3,b6 2 [bD,bD,.own 5000130,.own 5000131]],19⟩
noncomputable def f34(a:i34.H):Option Rt.H:=
(f72 ((a.1.1.2.2.1,()),())).bind fun b=>
(f73 ((a.1.1.2.2.2.1,()),())).bind fun c=>
 some (((),()),b.2.1,c.2.1,(a.1.1.1,a.1.1.2.1,(),(),()),())
noncomputable def SO:a0:=a' az Tryz.f34 i34 Rt [] f34
theorem agK:a4 aa 34 SO:=bb aku Tryz.func34 (by kernel_rfl) aw (fun y=>by kernel_rfl) fun a=>by kernel_rfl
noncomputable abbrev ake:bz:=[(34,SO)]
theorem Ti:a9 aa (bo jR ake):=sU ⟨agK,⟨⟩⟩
abbrev yF:Shape:=⟨[aX 0 .pack,b8 3 3000192,ah 4],[(3000192,.deep .pack,.slot 3 0)],23⟩
abbrev DX:List be:=[(.exit 0,⟨[b8 3 3000192],[(3000192,.deep .pack,.slot 3 0)],23⟩)]
noncomputable def y0(y:yF.H):cA yF DX:=
 bif(decide (y.1.2.2.1<(y.1.1.length:Int))) then
(bg y.1.1 y.1.2.2.1).bind fun a=>
(f34 (((a.name,a.bH,a.bL,a.b4,()),()),())).bind fun b=>
(fa y.2.1.length y.1.2.2.1).bind fun c=>
((y.2.1[c]?).bind fun _=>some (aU.mk b.2.2.2.1.1 b.2.2.2.1.2.1 b.2.1 b.2.2.1)).bind fun d=>
 some (.inl ((y.1.1,(),(IntKind.i64.wrap (y.1.2.2.1+(1:Int))),()),(y.2.1.set c d),()))
else
 some (.inr (((),()),y.2.1,()))
noncomputable def Eg:yF.H->Option (aR DX):=bK y0
theorem aa4:bl aa (aH (codeOf Tryz.f22) 1 58) (bC yF DX Eg):=cB Ti (by kernel_rfl) aw fun y=>by kernel_rfl
abbrev i22:Shape:=⟨[aX 0 .pack],[],23⟩
abbrev Rz:Shape:=⟨[b8 2 3000128],[(3000128,.deep .pack,.slot 2 0)],23⟩
noncomputable def f22(a:i22.H):Option Rz.H:=
(lF 80 (a.1.1.length:Int) (a.1.1.length:Int) (aU.mk ([]:ak) ([]:ak) ([]:List dr) ([]:List aZ))).bind fun b=>
(Eg ((a.1.1,(),(0:Int),()),b,())).bind fun c=>
 some (((),()),c.2.1,())
noncomputable def SV:a0:=a' jR Tryz.f22 i22 Rz [] f22
theorem agQ:a4 aa 22 SV:=bb Ti Tryz.func22 (by kernel_rfl) (bG aa4 aw) (fun y=>by kernel_rfl) fun a=>by kernel_rfl
noncomputable abbrev akj:bz:=[(22,SV)]
theorem akA:a9 aa (bo jR akj):=sU ⟨agQ,⟨⟩⟩
abbrev i13:Shape:=⟨[c5 0 [cH .pack]],[],9⟩
abbrev RE:Shape:=⟨[b7 2 2 0],[(5000128,.deep .pack,.cell 2 0),b6 2 [.own 5000128]],9⟩
noncomputable def f13(a:i13.H):Option RE.H:=
(f22 ((a.1.1.1,()),())).bind fun b=>
 some (((),()),b.2.1,((),()),())
noncomputable def AG:a0:=a' jR Tryz.f13 i13 RE [] f13
theorem agV:a4 aa 13 AG:=bb akA Tryz.func13 (by kernel_rfl) aw (fun y=>by kernel_rfl) fun a=>by kernel_rfl
abbrev i53:Shape:=⟨[c5 0 [bD,cM,cM,bD],c5 1 [bD,cM,cM,bD]],[],25⟩
abbrev Rn:Shape:=⟨[a3 4],[],25⟩
noncomputable def f53(a:i53.H):Option Rn.H:=
 bif(!(a.1.1.1==a.1.2.1.1)) then
 some ((false,()),())
else
 bif(a.1.1.2.1 !=a.1.2.1.2.1) then
 some ((false,()),())
else
 bif(a.1.1.2.2.1 !=a.1.2.1.2.2.1) then
 some ((false,()),())
else
 bif(!(a.1.1.2.2.2.1==a.1.2.1.2.2.2.1)) then
 some ((false,()),())
else
 some ((true,()),())
noncomputable def SI:a0:=a' az Tryz.f53 i53 Rn [] f53
theorem agE:a4 aa 53 SI:=bb g0 Tryz.func53 (by kernel_rfl) aw (fun y=>by kernel_rfl) fun a=>by kernel_rfl
noncomputable abbrev aki:bz:=[(53,SI)]
theorem Tl:a9 aa (bo az aki):=bB ⟨agE,⟨⟩⟩
abbrev yG:Shape:=⟨[aX 0 .entry,aX 1 .entry,ah 5],[],27⟩
abbrev DZ:List be:=[(.ret,⟨[a3 4],[],27⟩),(.exit 0,⟨[],[],27⟩)]
noncomputable def y1(y:yG.H):cA yG DZ:=
 bif(decide (y.1.2.2.1<(y.1.1.length:Int))) then
(bg y.1.1 y.1.2.2.1).bind fun a=>
(bg y.1.2.1 y.1.2.2.1).bind fun b=>
(f53 (((a.path,a.kind,a.mode,a.text,()),(b.path,b.kind,b.mode,b.text,()),()),())).bind fun c=>
 bif(!c.1.1) then
 some (.inr (.inl ((false,()),())))
else
 some (.inl ((y.1.1,y.1.2.1,(IntKind.i64.wrap (y.1.2.2.1+(1:Int))),()),()))
else
 some (.inr (.inr ((),())))
noncomputable def Ei:yG.H->Option (aR DZ):=bK y1
theorem aa6:bl aa (aH (codeOf Tryz.f15) 1 58) (bC yG DZ Ei):=cB Tl (by kernel_rfl) aw fun y=>by kernel_rfl
abbrev i15:Shape:=⟨[aX 0 .entry,aX 1 .entry],[],27⟩
abbrev RD:Shape:=⟨[a3 4],[],27⟩
noncomputable def f15(a:i15.H):Option RD.H:=
 bif((a.1.1.length:Int) !=(a.1.2.1.length:Int)) then
 some ((false,()),())
else
(Ei ((a.1.1,a.1.2.1,(0:Int),()),())).bind fun b=>
(match b with
|.inl c=>
 some ((c.1.1,()),())
|.inr d=>
 some ((true,()),()))
noncomputable def vP:a0:=a' az Tryz.f15 i15 RD [] f15
theorem agU:a4 aa 15 vP:=bb Tl Tryz.func15 (by kernel_rfl) (bG aa6 aw) (fun y=>by kernel_rfl) fun a=>by kernel_rfl
noncomputable abbrev ajR:bz:=[(125,Qg)]
theorem S8:a9 aa (bo az ajR):=bB ⟨adE,⟨⟩⟩
abbrev yv:Shape:=⟨[aX 0 .need,aX 1 .need,ah 5],[],27⟩
abbrev DP:List be:=[(.ret,⟨[a3 4],[],27⟩),(.exit 0,⟨[],[],27⟩)]
noncomputable def yR(y:yv.H):cA yv DP:=
 bif(decide (y.1.2.2.1<(y.1.1.length:Int))) then
(bg y.1.1 y.1.2.2.1).bind fun a=>
(bg y.1.2.1 y.1.2.2.1).bind fun b=>
(f125 (((a.name,a.kind,a.bH,()),(b.name,b.kind,b.bH,()),()),())).bind fun c=>
 bif(!c.1.1) then
 some (.inr (.inl ((false,()),())))
else
 some (.inl ((y.1.1,y.1.2.1,(IntKind.i64.wrap (y.1.2.2.1+(1:Int))),()),()))
else
 some (.inr (.inr ((),())))
noncomputable def D8:yv.H->Option (aR DP):=bK yR
theorem aaT:bl aa (aH (codeOf Tryz.f76) 1 58) (bC yv DP D8):=cB S8 (by kernel_rfl) aw fun y=>by kernel_rfl
abbrev i76:Shape:=⟨[aX 0 .need,aX 1 .need],[],27⟩
abbrev Ra:Shape:=⟨[a3 4],[],27⟩
noncomputable def f76(a:i76.H):Option Ra.H:=
 bif((a.1.1.length:Int) !=(a.1.2.1.length:Int)) then
 some ((false,()),())
else
(D8 ((a.1.1,a.1.2.1,(0:Int),()),())).bind fun b=>
(match b with
|.inl c=>
 some ((c.1.1,()),())
|.inr d=>
 some ((true,()),()))
noncomputable def Sy:a0:=a' az Tryz.f76 i76 Ra [] f76
theorem agu:a4 aa 76 Sy:=bb S8 Tryz.func76 (by kernel_rfl) (bG aaT aw) (fun y=>by kernel_rfl) fun a=>by kernel_rfl
noncomputable abbrev aj7:bz:=[(15,vP),(76,Sy)]
theorem akt:a9 aa (bo az aj7):=bB ⟨agU,agu,⟨⟩⟩
abbrev i36:Shape:=⟨[c5 0 [bD,bD,cH .need,cH .entry],c5 1 [bD,bD,cH .need,cH .entry]],[],27⟩
abbrev Rs:Shape:=⟨[a3 4],[],27⟩
noncomputable def f36(a:i36.H):Option Rs.H:=
 bif(!(a.1.1.1==a.1.2.1.1)) then
 some ((false,()),())
else
 bif(!(a.1.1.2.1==a.1.2.1.2.1)) then
 some ((false,()),())
else
(f76 ((a.1.1.2.2.1,a.1.2.1.2.2.1,()),())).bind fun b=>
 bif(!b.1.1) then
 some ((false,()),())
else
(f15 ((a.1.1.2.2.2.1,a.1.2.1.2.2.2.1,()),())).bind fun c=>
 bif(!c.1.1) then
 some ((false,()),())
else
 some ((true,()),())
noncomputable def SN:a0:=a' az Tryz.f36 i36 Rs [] f36
theorem agJ:a4 aa 36 SN:=bb akt Tryz.func36 (by kernel_rfl) aw (fun y=>by kernel_rfl) fun a=>by kernel_rfl
noncomputable abbrev akd:bz:=[(36,SN)]
theorem Th:a9 aa (bo az akd):=bB ⟨agJ,⟨⟩⟩
abbrev yE:Shape:=⟨[aX 0 .pack,aX 1 .pack,ah 5],[],27⟩
abbrev DW:List be:=[(.ret,⟨[a3 4],[],27⟩),(.exit 0,⟨[],[],27⟩)]
noncomputable def yZ(y:yE.H):cA yE DW:=
 bif(decide (y.1.2.2.1<(y.1.1.length:Int))) then
(bg y.1.1 y.1.2.2.1).bind fun a=>
(bg y.1.2.1 y.1.2.2.1).bind fun b=>
(f36 (((a.name,a.bH,a.bL,a.b4,()),(b.name,b.bH,b.bL,b.b4,()),()),())).bind fun c=>
 bif(!c.1.1) then
 some (.inr (.inl ((false,()),())))
else
 some (.inl ((y.1.1,y.1.2.1,(IntKind.i64.wrap (y.1.2.2.1+(1:Int))),()),()))
else
 some (.inr (.inr ((),())))
noncomputable def Ef:yE.H->Option (aR DW):=bK yZ
theorem aa3:bl aa (aH (codeOf Tryz.f25) 1 58) (bC yE DW Ef):=cB Th (by kernel_rfl) aw fun y=>by kernel_rfl
abbrev i25:Shape:=⟨[aX 0 .pack,aX 1 .pack],[],27⟩
abbrev Ry:Shape:=⟨[a3 4],[],27⟩
noncomputable def f25(a:i25.H):Option Ry.H:=
 bif((a.1.1.length:Int) !=(a.1.2.1.length:Int)) then
 some ((false,()),())
else
(Ef ((a.1.1,a.1.2.1,(0:Int),()),())).bind fun b=>
(match b with
|.inl c=>
 some ((c.1.1,()),())
|.inr d=>
 some ((true,()),()))
noncomputable def SU:a0:=a' az Tryz.f25 i25 Ry [] f25
theorem agP:a4 aa 25 SU:=bb Th Tryz.func25 (by kernel_rfl) (bG aa3 aw) (fun y=>by kernel_rfl) fun a=>by kernel_rfl
noncomputable abbrev akh:bz:=[(25,SU)]
theorem akz:a9 aa (bo az akh):=bB ⟨agP,⟨⟩⟩
abbrev i16:Shape:=⟨[c5 0 [cH .pack],c5 1 [cH .pack]],[],11⟩
abbrev RC:Shape:=⟨[a3 4],[],11⟩
noncomputable def f16(a:i16.H):Option RC.H:=
(f25 ((a.1.1.1,a.1.2.1.1,()),())).bind fun b=>
 bif(!b.1.1) then
 some ((false,()),())
else
 some ((true,()),())
noncomputable def SY:a0:=a' az Tryz.f16 i16 RC [] f16
theorem agT:a4 aa 16 SY:=bb akz Tryz.func16 (by kernel_rfl) aw (fun y=>by kernel_rfl) fun a=>by kernel_rfl
end Go.Proofs
