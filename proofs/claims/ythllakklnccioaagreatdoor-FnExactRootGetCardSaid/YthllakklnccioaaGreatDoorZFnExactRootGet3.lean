/- FnExactRootGet: the program's RootGet returns what the reference's returns, for all arguments. (part 4 of 7: JkMTy, JkMSp, JkMOp, JkMBc, JkMEn, JkMF118, JkMF151, JkMF91, JkMF161, JkMF90, JkMPuA, JkMF89, JkMPuB, JkMFH297, JkMF271, JkMF238, JkMF241, JkMIt, JkMF127, JkMF119, JkMF121, JkMF181, JkMF162, JkMF233, ) Conditions: none beyond the statement. -/
import Derived.Test.YthllakklnccioaaGreatDoorZFnExactRootGet2
import Derived.Tactics
import Derived.Deep.RegionLaw
import Derived.Shelf.Abstract
import Derived.Test.YthllakklnccioaaGreatDoorProg
import Derived.KernelRfl
import Derived.Lib.Builder
import Derived.Lib.UnsafeStr
import Derived.WalkKit
import Derived.Shelf.RegionOpenPlain
set_option linter.unusedSimpArgs false
set_option maxRecDepth 100000
set_option linter.unusedVariables false
namespace Go.Proofs
open Go.Jk
noncomputable abbrev Z:Program:=Tryz.prog
noncomputable def asA:List (Nat×cp):=[
(2,.int .i64),
(3,.int .i64),
(4,.bool),
(5,.int .u8),
(6,.int .u8),
(7,.struct [(0,1),(1,1),(2,1),(3,1)] 4 [.d (.int .i64 0),.d (.int .i64 0),.d (.bool false),.d (.int .u8 0)] false),
(8,.struct [(0,1),(1,1),(2,1),(3,1)] 4 [.d (.int .i64 0),.d (.int .i64 0),.d (.bool false),.d (.int .u8 0)] false),
(9,.str),
(10,.str),
(11,.str),
(12,.int .u64),
(13,.struct [(0,1),(1,1)] 2 [.d (.str []),.d (.int .u64 0)] false),
(14,.struct [(0,1),(1,1)] 2 [.d (.str []),.d (.int .u64 0)] false),
(15,.ptr),
(16,.ptr),
(17,.ptr),
(18,.struct [(0,1)] 1 [.cL (.pointer none)] false),
(19,.struct [(0,1)] 1 [.cL (.pointer none)] false),
(20,.iface),
(21,.int .i32),
(22,.slice 52 .pack 80),
(23,.struct [(0,1)] 1 [.nil .pack] false),
(24,.struct [(0,1)] 1 [.nil .pack] false),
(26,.slice 73 .entry 48),
(28,.slice 57 .pack 80),
(29,.struct [(0,1)] 1 [.nil .pack] false),
(30,.struct [(0,1)] 1 [.nil .pack] false),
(38,.slice 9 .str 16),
(49,.slice 139 .need 40),
(50,.slice 141 .entry 48),
(51,.struct [(0,1),(1,1),(2,1),(3,1)] 4 [.d (.str []),.d (.str []),.nil .need,.nil .entry] false),
(52,.struct [(0,1),(1,1),(2,1),(3,1)] 4 [.d (.str []),.d (.str []),.nil .need,.nil .entry] false),
(55,.slice 91 .need 40),
(56,.struct [(0,1),(1,1),(2,1),(3,1)] 4 [.d (.str []),.d (.str []),.nil .need,.nil .entry] false),
(57,.struct [(0,1),(1,1),(2,1),(3,1)] 4 [.d (.str []),.d (.str []),.nil .need,.nil .entry] false),
(62,.slice 5 .u8 1),
(72,.struct [(0,1),(1,1),(2,1),(3,1)] 4 [.d (.str []),.d (.int .i64 0),.d (.int .i64 0),.d (.str [])] false),
(73,.struct [(0,1),(1,1),(2,1),(3,1)] 4 [.d (.str []),.d (.int .i64 0),.d (.int .i64 0),.d (.str [])] true),
(86,.map 9 3 .i64),
(90,.struct [(0,1),(1,1),(2,1)] 3 [.d (.str []),.d (.int .i64 0),.d (.str [])] false),
(91,.struct [(0,1),(1,1),(2,1)] 3 [.d (.str []),.d (.int .i64 0),.d (.str [])] true),
(108,.ptr),
(112,.slice 3 .i64 8),
(113,.struct [(0,1),(1,1),(2,1),(3,1)] 4 [.nil .pack,.cL (.map none),.nil .i64,.nil .str] false),
(114,.struct [(0,1),(1,1),(2,1),(3,1)] 4 [.nil .pack,.cL (.map none),.nil .i64,.nil .str] false),
(131,.int .u64),
(139,.struct [(0,1),(1,1),(2,1)] 3 [.d (.str []),.d (.int .i64 0),.d (.str [])] true),
(141,.struct [(0,1),(1,1),(2,1),(3,1)] 4 [.d (.str []),.d (.int .i64 0),.d (.int .i64 0),.d (.str [])] true),
(150,.slice 3 .i64 8),
(154,.struct [(0,1),(1,1)] 2 [.nil .u8,.d (.int .i64 0)] false),
(155,.struct [(0,1),(1,1)] 2 [.nil .u8,.d (.int .i64 0)] false),
(159,.ptr),
(166,.func),
(181,.int .i64),
(189,.int .u32),
(191,.int .u64),
(216,.int .u64),
(220,.ptr),
(233,.ptr),
(234,.struct [(0,1),(1,1)] 2 [.cL (.pointer none),.nil .u8] false),
(235,.struct [(0,1),(1,1)] 2 [.cL (.pointer none),.nil .u8] false),
(236,.iface),
(237,.iface),
(241,.arr 189 .u32 8),
(243,.slice 189 .u32 4),
(245,.ptr),
(259,.arr 4 .bool 256),
(260,.arr 4 .bool 256),
(263,.ptr),
(264,.arr 189 .u32 64),
(272,.ptr),
(276,.struct [(0,1),(1,1)] 2 [.d (.int .u8 0),.d (.int .u8 0)] false),
(277,.struct [(0,1),(1,1)] 2 [.d (.int .u8 0),.d (.int .u8 0)] false),
(290,.struct [(0,1),(1,1),(2,1),(3,1)] 4 [.cL (.pointer none),.cL (.pointer none),.cL (.pointer none),.d (.str [])] false),
(291,.struct [(0,1),(1,1),(2,1),(3,1)] 4 [.cL (.pointer none),.cL (.pointer none),.cL (.pointer none),.d (.str [])] false),
(295,.int .u8),
(296,.int .u8),
(298,.int .i32),
(299,.int .i32),
(300,.struct [(0,1),(1,1),(2,1),(3,1),(4,1),(5,1),(6,1),(7,1),(8,1),(9,1),(10,1)] 11 [.d (.int .u64 0),.d (.int .u64 0),.d (.int .u32 0),.d (.int .u8 0),.d (.int .u8 0),.d (.int .u8 0),.d (.int .u8 0),.cL .nilFunc,.cL (.pointer none),.d (.int .i32 0),.d (.int .i32 0)] false),
(301,.struct [(0,1),(1,1),(2,1),(3,1),(4,1),(5,1),(6,1),(7,1),(8,1),(9,1),(10,1)] 11 [.d (.int .u64 0),.d (.int .u64 0),.d (.int .u32 0),.d (.int .u8 0),.d (.int .u8 0),.d (.int .u8 0),.d (.int .u8 0),.cL .nilFunc,.cL (.pointer none),.d (.int .i32 0),.d (.int .i32 0)] false)]
noncomputable def tt:TypeId->cp:=Dx asA
noncomputable def ak:Env:=⟨tt,[(183,257)],[17,18,26,27,37,60,66,67,124,160],[79],[282],[249],[(1,⟨.u32,jj⟩)],false⟩
noncomputable def zn:Env:={ak with eu:=true}
abbrev bR(s:Shape)(t:List aR):=Option (Sum s.J (aF t))
theorem amy(s p:ByteArray)(k:Int)(w:World):Calls Z 223 #[.string s,.string p,.int .i64 k] w fun e w'=>
  e=.returned (.func (.func 257) #[] #[.pointer (some ⟨w.heap.size+1,0,none⟩),.pointer (some ⟨w.heap.size,0,none⟩),.pointer (some ⟨w.heap.size+2,0,none⟩)])/\
  w'=((w.alloc (.cells #[.string s] 9)).alloc (.cells #[.string p] 9)).alloc (.cells #[.int .i64 k] 3):=by
 go_enter Tryz.func223,Tryz.ntmps223
 go_wp2
 go_ret
 exact⟨rfl,rfl⟩
theorem amz(s p:ByteArray)(w:World):Calls Z 183 #[.string s,.string p] w fun e w'=>
  e=.returned (.func (.func 257) #[] #[.pointer (some ⟨w.heap.size+1,0,none⟩),.pointer (some ⟨w.heap.size,0,none⟩),.pointer (some ⟨w.heap.size+2,0,none⟩)])/\
  w'=((w.alloc (.cells #[.string s] 9)).alloc (.cells #[.string p] 9)).alloc (.cells #[.int .i64 0] 3):=by
 go_enter Tryz.func183,Tryz.ntmps183
 go_wp2_with (go_at_call 223;refine(amy _ _ _ _).mono ?_;rintro e w' ⟨rfl,rfl⟩)
 go_ret
 exact⟨rfl,rfl⟩
theorem aox:B_ Z 183 257:=fun a b w=>.inl ⟨enters_of Tryz.func183 (by kernel_rfl) rfl _ _,(amz a b w).mono fun e w' h=>by obtain⟨rfl,rfl⟩:=h;exact⟨9,3,rfl,rfl⟩⟩
theorem asR(w:World):Calls Z 79 #[.slice none 0 0] w fun e w'=>e=.returned (.pointer (some ⟨w.heap.size,0,none⟩))/\w'=w.alloc (.cells #[.slice none 0 0,.int .i64 0] 155):=by
 go_enter Tryz.func79,Tryz.ntmps79
 go_wp2
 go_ret
 exact⟨rfl,rfl⟩
theorem asQ(w:World)(a:Addr)(n c:Nat)(h:n<=2000):Calls Z 79 #[.slice (some a) n c] w fun e w'=>e=.returned (.pointer (some ⟨w.heap.size,0,none⟩))/\w'=w.alloc (.cells #[.slice (some a) n c,.int .i64 0] 155):=by
 have h1:¬((n:Int)>2000):=by omega
 go_enter Tryz.func79,Tryz.ntmps79
 go_wp2
 go_ret
 exact⟨rfl,rfl⟩
theorem asS(w:World)(a:Addr)(n c:Nat)(h:2000<n)(hc:n<=c):Calls Z 79 #[.slice (some a) n c] w fun e w'=>e=.returned (.pointer (some ⟨w.heap.size,0,none⟩))/\w'=w.alloc (.cells #[.slice (some a) 2000 c,.int .i64 0] 155):=by
 have h1:((n:Int)>2000):=by omega
 go_enter Tryz.func79,Tryz.ntmps79
 go_wp2
 go_ret
 exact⟨rfl,rfl⟩
theorem ao3:CZ Z 79:=fun xs v w av hr=>.inl ⟨enters_of Tryz.func79 (by kernel_rfl) rfl _ _,by
 have fin:∀{v:Value} {u:Value},bm w av (.sl .u8 (xs.take 2000)) u->Calls Z 79 #[v] w (fun e w'=>e=.returned (.pointer (some ⟨w.heap.size,0,none⟩))/\w'=w.alloc (.cells #[u,.int .i64 0] 155))->
   Calls Z 79 #[v] w fun e w'=>match e,w' with
    |.returned v',w'=>∃u T,bm w av (.sl .u8 (xs.take 2000)) u/\v'=.pointer (some ⟨w.heap.size,0,none⟩)/\w'=w.alloc (.cells #[u,.int .i64 0] T)
    |_,_=>False:=fun hu hc=>hc.mono fun e w' h=>by obtain⟨rfl,rfl⟩:=h;exact⟨_,_,hu,rfl,rfl⟩
 cases hr with
 |nil=>exact fin (.nil .u8) (asR w)
 |sl t xs a cap cs n hn hcap hb hl hc hr=>
  by_cases h:2000<n
  ·refine fin (u:=.slice (some a) 2000 cap) ?_ (asS w a n cap h hcap);have hlen:(xs.take 2000).length=2000:=by simp only[List.length_take];omega
   have hf:flat .u8 (xs.take 2000)=(flat .u8 xs).take 2000:=by rw[oR];rfl
   refine .sl .u8 (xs.take 2000) a cap (cs.take 2000) 2000 hlen.symm (by omega) (fun hx=>hb (fun e=>hx (by rw[e];rfl))) (by rw[hf,List.length_take,List.length_take,hl]) (fun j u hu=>?_) (fun j h1 h2=>?_)
   ·rw[List.getElem?_take] at hu;split at hu
    ·exact hc j u hu
    ·cases hu
   ·have h1':j<(flat .u8 xs).length:=by rw[hf,List.length_take] at h1;omega
    have h2':j<cs.length:=by rw[List.length_take] at h2;omega
    have e1:(flat .u8 (xs.take 2000))[j]=(flat .u8 xs)[j]:=by simp only[hf,List.getElem_take]
    have e2:(cs.take 2000)[j]=cs[j]:=List.getElem_take;rw[e1,e2];exact hr j h1' h2'
  ·refine fin (u:=.slice (some a) n cap) ?_ (asQ w a n cap (by omega))
   rw[List.take_of_length_le (by omega)]
   exact .sl .u8 xs a cap cs n hn hcap hb hl hc hr⟩
set_option maxHeartbeats 1000000 in
theorem alX(b:Nat)(w:World)(h0:w.cell? ⟨b,0,none⟩=some (.pointer (some ⟨b,0,none⟩))):
  Calls Z 282 #[.pointer (some ⟨b,0,none⟩)] w fun e w'=>e=.returned (.tuple #[])/\w'=w:=by
 obtain⟨j,hj,_⟩:=Option.map_eq_some_iff.1 (show(Z.info? 235).map (·.size)=some 2 by kernel_rfl)
 go_enter Tryz.func282,Tryz.ntmps282
 go_wp2
 rw[Lib.run_neq_ptr_same w _ (show Z.underlying 233=some (.pointer 235) by kernel_rfl) hj]
 go_wp2
 go_end0
 exact⟨rfl,rfl⟩
set_option maxHeartbeats 1000000 in
theorem ako(b:Nat)(w:World)(h0:w.cell? ⟨b,0,none⟩=some (.pointer none))(hsh:w.shape? b=some (235,2))(hfz:w.frozen? ⟨b,0,none⟩=false):
  Calls Z 282 #[.pointer (some ⟨b,0,none⟩)] w fun e w'=>e=.returned (.tuple #[])/\w'=w.setCell ⟨b,0,none⟩ (.pointer (some ⟨b,0,none⟩)):=by
 obtain⟨j,hj,hjs⟩:=Option.map_eq_some_iff.1 (show(Z.info? 235).map (·.size)=some 2 by kernel_rfl)
 go_enter Tryz.func282,Tryz.ntmps282
 go_wp2
 rw[Lib.run_to_unsafe w ⟨b,0,none⟩ (show Z.underlying 233=some (.pointer 235) by kernel_rfl) (show Z.underlying 273=some .unsafePointer by kernel_rfl) hj (by rw[hjs];decide) hsh (Nat.zero_lt_succ 1)]
 simp only[Result.andThen];rw[Oper.upon_value]
 go_wp2
 rw[run_callFunc_extern Tryz.func301 (by kernel_rfl) (by kernel_rfl) (by kernel_rfl) (e:=Extern.AbiNoEscape.same) (by kernel_rfl)]
 rw[Lib.run_noEscape];simp only[Result.andThen];rw[Oper.upon_value]
 go_wp2
 rw[Lib.run_from_unsafe w ⟨b,0,none⟩ (show Z.underlying 273=some .unsafePointer by kernel_rfl) (show Z.underlying 233=some (.pointer 235) by kernel_rfl) hj hsh (by kernel_rfl)]
 simp only[Result.andThen];rw[Oper.upon_value]
 go_wp2
 go_end0
 exact⟨rfl,rfl⟩
theorem anl:C0 Z 282:=by
 intro b p v w hb hp;refine .inl ⟨enters_of Tryz.func282 (by kernel_rfl) rfl _ _,?_⟩
 rcases hp with rfl|rfl
 ·refine(ako b w (by rw[Lib.cell_of_heap hb];rfl) (by simp[World.shape?,hb];rfl) (by simp[World.frozen?,hb])).mono ?_
  rintro e w' ⟨rfl,rfl⟩;refine⟨rfl,?_⟩;rw[setCell_eq_setRow w b 0 _ _ _ _ hb];rfl
 ·refine(alX b w (by rw[Lib.cell_of_heap hb];rfl)).mono ?_
  rintro e w' ⟨rfl,rfl⟩;exact⟨rfl,(setRow_self w' b _ _ _ hb).symm⟩
section
variable {P:Program}(w:World)
theorem N8:∀(xs:List Int) (a:Addr) (acc:ByteArray),(∀j x,xs[j]? =some x->w.cell? (a.add j)=some (.int .u8 x))->
  (loadBytes a acc xs.length).run P w=.ok ⟨acc.data++(strOf xs).toArray⟩ w
 |[],a,acc,_=>by simp[loadBytes,strOf]
 |x::l,a,acc,h=>by
  have h0:w.cell? a=some (.int .u8 x):=by
   have:=h 0 x rfl;simpa[Addr.add] using this
  have ih:=N8 l (a.add 1) (acc.push (UInt8.ofNat x.toNat)) (fun j y hy=>by
   have:=h (j+1) y (by simpa using hy)
   have e:(a.add 1).add j=a.add (j+1):=by
    unfold Addr.add;by_cases hj:j=0
    ·subst hj;simp
    ·simp[hj];omega
   rw[e];exact this)
  have hx:(x.toNat).toUInt8=UInt8.ofNat x.toNat:=rfl;simp only[List.length_cons,loadBytes,Sem.run_bind,run_load,h0,Result.andThen,hx];rw[ih];congr 1
  apply ByteArray.ext;simp[ByteArray.push,strOf]
theorem aa3(pt it ty e:TypeId)(hp:P.underlying pt=some (.pointer e))(hc:P.cellsOf e=1)(g cells:Nat)(hsh:w.shape? g=some (e,cells))(l:List Int)(h0:l≠[])(hn:l.length<=cells)(h63:l.length<=9223372036854775807)
  (hcell:∀j x,l[j]? =some x->w.cell? ((⟨g,0,none⟩:Addr).add j)=some (.int .u8 x)):
  (Builtin.unsafeString_ #[pt,it] ty #[.pointer (some ⟨g,0,none⟩),.int .i64 l.length]).run P w=.ok (.string ⟨(strOf l).toArray⟩) (w.freeze ⟨g,0,none⟩ l.length):=by
 have hl:l.length≠0:=by simpa using h0
 have hlb:=N8 (P:=P) w l ⟨g,0,none⟩ .empty hcell;have hlies:=Lib.liesAt_bytes (P:=P) hc (cells/P.cellsOf e) l.length (by rw[hc];simpa using hn)
 have h63':¬(9223372036854775807:Int)<(l.length:Int):=by omega
 have hmax:IntKind.i64.max=9223372036854775807:=rfl;have hneg:¬(l.length:Int)<0:=by omega
 change Sem.run P (bind (asInt (.int .i64 (l.length:Int))) _) w=_;simp[asInt,asIntOf,hmax,h63',hneg,hl,variablesAt,hsh,elemOf,run_underlying hp,hlies,hlb]
theorem adi(a:Addr)(n:Nat):(w.freeze a n).os=w.os/\(w.freeze a n).tape=w.tape/\(w.freeze a n).output=w.output/\(w.freeze a n).heap.size=w.heap.size/\
  (∀c,c≠a.block->(w.freeze a n).heap[c]? =w.heap[c]?)/\∀cur e fz,w.heap[a.block]? =some (.cells cur e fz)->∃fz',(w.freeze a n).heap[a.block]? =some (.cells cur e fz'):=by
 unfold World.freeze;split
 ·exact⟨rfl,rfl,rfl,rfl,fun _ _=>rfl,fun cur e fz h=>⟨fz,h⟩⟩
 ·refine⟨rfl,rfl,rfl,by simp,fun c hc=>?_,fun cur e fz h=>?_⟩
  ·simp only[Array.getElem?_modify];rw[if_neg (by omega)]
  ·simp only[Array.getElem?_modify,if_true,h,Option.map_some];exact⟨_,rfl⟩
end
abbrev rK(w:World)(v:Value)(xs:List Int)(e:Ending)(w':World):Prop:=e=.returned (.string ⟨(strOf xs).toArray⟩)/\w'.os=w.os/\w'.tape=w.tape/\w'.output=w.output/\w.heap.size<=w'.heap.size/\
   (∀c,c<w.heap.size->bq v≠some c->w'.heap[c]? =w.heap[c]?)/\∀c cur e fz,bq v=some c->w.heap[c]? =some (.cells cur e fz)->∃fz',w'.heap[c]? =some (.cells cur e fz')
set_option maxHeartbeats 2000000 in
theorem ann(b:Nat)(p:Value)(T:TypeId)(w:World)(hbk:w.heap[b]? =some (.cells #[p,.slice none 0 0] T (0,0))):
  Calls Z 249 #[.pointer (some ⟨b,0,none⟩)] w (rK w (.slice none 0 0) []):=by
 have hUS:∀W q,(Builtin.unsafeString_ #[263,3] 9 #[.pointer q,.int .i64 0]).run Z W=.ok (.string .empty) W:=fun W q=>Lib.run_unsafeString_none W _ _ _ q
 have c1:w.drew.cell? ⟨b,1,none⟩=some (.slice none 0 0):=by
  have:w.drew.heap[b]? =some (.cells #[p,.slice none 0 0] T (0,0)):=hbk;rw[Lib.cell_of_heap this];rfl
 have mixed:Z.follows .mixedOrders=true:=by kernel_rfl
 have hSD:(Builtin.unsafeSliceData_ #[62] 263 #[.slice none 0 0]).run Z w.drew=.ok (.pointer none) w.drew:=rfl;go_enter Tryz.func249,Tryz.ntmps249
 go_wp2
 go_region_o
 all_goals(go_wp2;go_ret;exact⟨rfl,rfl,rfl,rfl,Nat.le_refl _,fun _ _ _=>rfl,fun c cur e fz h=>by cases h⟩)
set_option maxHeartbeats 2000000 in
theorem aiv(b g:Nat)(p:Value)(T:TypeId)(cur:Array Value)(w:World)(hbk:w.heap[b]? =some (.cells #[p,.slice (some ⟨g,0,none⟩) 0 0] T (0,0)))(fz:Nat×Nat)(hg:w.heap[g]? =some (.cells cur 5 fz)):
  Calls Z 249 #[.pointer (some ⟨b,0,none⟩)] w (rK w (.slice (some ⟨g,0,none⟩) 0 0) []):=by
 have hUS:∀W q,(Builtin.unsafeString_ #[263,3] 9 #[.pointer q,.int .i64 0]).run Z W=.ok (.string .empty) W:=fun W q=>Lib.run_unsafeString_none W _ _ _ q
 have hlt:b<w.heap.size:=(Array.getElem?_eq_some_iff.1 hbk).1;have c1:w.drew.cell? ⟨b,1,none⟩=some (.slice (some ⟨g,0,none⟩) 0 0):=by
  have:w.drew.heap[b]? =some (.cells #[p,.slice (some ⟨g,0,none⟩) 0 0] T (0,0)):=hbk;rw[Lib.cell_of_heap this];rfl
 have mixed:Z.follows .mixedOrders=true:=by kernel_rfl
 have t263:Z.underlying 263=some (.pointer 5):=by kernel_rfl
 have hSD:(Builtin.unsafeSliceData_ #[62] 263 #[.slice (some ⟨g,0,none⟩) 0 0]).run Z w.drew=.ok (.pointer (some ⟨w.drew.heap.size,0,none⟩)) (w.drew.alloc (.view ⟨g,0,none⟩ 5)):=
  Lib.run_unsafeSliceData_zero w.drew _ _ 5 t263 ⟨g,0,none⟩ 0 (5,cur.size) (by have hg':w.drew.heap[g]? =some (.cells cur 5 fz):=hg;simp[World.shape?,hg'])
 have c2:(w.drew.alloc (.view ⟨g,0,none⟩ 5)).cell? ⟨b,1,none⟩=some (.slice (some ⟨g,0,none⟩) 0 0):=by
  have:(w.drew.alloc (.view ⟨g,0,none⟩ 5)).heap[b]? =_:=(Lib.alloc_old w.drew _ b hlt).trans hbk;rw[Lib.cell_of_heap this];rfl
 have c3:(w.alloc (.view ⟨g,0,none⟩ 5)).drew.cell? ⟨b,1,none⟩=some (.slice (some ⟨g,0,none⟩) 0 0):=c2;have c0:w.cell? ⟨b,1,none⟩=some (.slice (some ⟨g,0,none⟩) 0 0):=c1;have fin:rK w (.slice (some ⟨g,0,none⟩) 0 0) [] (.returned (.string .empty)) (w.drew.alloc (.view ⟨g,0,none⟩ 5)):=by
  refine⟨rfl,rfl,rfl,rfl,by simp,fun c hc _=>Lib.alloc_old w.drew _ c hc,fun c cur' e fz' h h2=>?_⟩
  cases h;exact⟨fz',(Lib.alloc_old w.drew _ g (Array.getElem?_eq_some_iff.1 hg).1).trans h2⟩
 go_enter Tryz.func249,Tryz.ntmps249
 go_wp2
 go_region_o
 all_goals(go_wp2;go_ret;exact fin)
set_option maxHeartbeats 2000000 in
theorem alU(b g cap:Nat)(p:Value)(T:TypeId)(w:World)(hc0:cap≠0)(hbk:w.heap[b]? =some (.cells #[p,.slice (some ⟨g,0,none⟩) 0 cap] T (0,0))):
  Calls Z 249 #[.pointer (some ⟨b,0,none⟩)] w (rK w (.slice (some ⟨g,0,none⟩) 0 cap) []):=by
 have hUS:∀W q,(Builtin.unsafeString_ #[263,3] 9 #[.pointer q,.int .i64 0]).run Z W=.ok (.string .empty) W:=fun W q=>Lib.run_unsafeString_none W _ _ _ q
 have c1:w.drew.cell? ⟨b,1,none⟩=some (.slice (some ⟨g,0,none⟩) 0 cap):=by
  have:w.drew.heap[b]? =some (.cells #[p,.slice (some ⟨g,0,none⟩) 0 cap] T (0,0)):=hbk;rw[Lib.cell_of_heap this];rfl
 have mixed:Z.follows .mixedOrders=true:=by kernel_rfl
 have hSD:(Builtin.unsafeSliceData_ #[62] 263 #[.slice (some ⟨g,0,none⟩) 0 cap]).run Z w.drew=.ok (.pointer (some ⟨g,0,none⟩)) w.drew:=
  Lib.run_unsafeSliceData_row _ _ _ _ _ _ hc0
 clear hc0;go_enter Tryz.func249,Tryz.ntmps249
 go_wp2
 go_region_o
 all_goals(go_wp2;go_ret;exact⟨rfl,rfl,rfl,rfl,Nat.le_refl _,fun _ _ _=>rfl,fun c cur e fz h h2=>⟨fz,h2⟩⟩)
set_option maxHeartbeats 2000000 in
theorem anm(b g cap:Nat)(p:Value)(T:TypeId)(cur:Array Value)(fz:Nat×Nat)(xs:List Int)(w:World)(h0:xs≠[])(hbk:w.heap[b]? =some (.cells #[p,.slice (some ⟨g,0,none⟩) xs.length cap] T (0,0)))
  (hg:w.heap[g]? =some (.cells cur 5 fz)) (hnc:xs.length<=cap) (hcm:cap<=maxLen) (hcs:cur.size=cap) (htk:cur.toList.take xs.length=xs.map (Value.int .u8)):
  Calls Z 249 #[.pointer (some ⟨b,0,none⟩)] w (rK w (.slice (some ⟨g,0,none⟩) xs.length cap) xs):=by
 have hl0:xs.length≠0:=by simpa using h0
 have c1:w.drew.cell? ⟨b,1,none⟩=some (.slice (some ⟨g,0,none⟩) xs.length cap):=by
  have:w.drew.heap[b]? =some (.cells #[p,.slice (some ⟨g,0,none⟩) xs.length cap] T (0,0)):=hbk;rw[Lib.cell_of_heap this];rfl
 have mixed:Z.follows .mixedOrders=true:=by kernel_rfl
 have t263:Z.underlying 263=some (.pointer 5):=by kernel_rfl
 have hg':w.drew.heap[g]? =some (.cells cur 5 fz):=hg;have hSD:(Builtin.unsafeSliceData_ #[62] 263 #[.slice (some ⟨g,0,none⟩) xs.length cap]).run Z w.drew=.ok (.pointer (some ⟨g,0,none⟩)) w.drew:=
  Lib.run_unsafeSliceData_row _ _ _ _ _ _ (by omega)
 have hUS:(Builtin.unsafeString_ #[263,3] 9 #[.pointer (some ⟨g,0,none⟩),.int .i64 xs.length]).run Z w.drew=.ok (.string ⟨(strOf xs).toArray⟩) (w.drew.freeze ⟨g,0,none⟩ xs.length):=by
  refine aa3 w.drew 263 3 9 5 t263 (by kernel_rfl) g cur.size (by simp[World.shape?,hg']) xs h0 (by omega) (by unfold maxLen at hcm;omega) ?_
  intro j x hx;rw[gV,Nat.zero_add,cell_of_row w.drew g j cur 5 fz hg'];have hj:j<xs.length:=(List.getElem?_eq_some_iff.1 hx).1;have:=congrArg (fun l=>l[j]?) htk
  simp only[List.getElem?_take,List.getElem?_map,hx,Option.map_some,hj,if_true] at this;simpa using this
 have fin:rK w (.slice (some ⟨g,0,none⟩) xs.length cap) xs (.returned (.string ⟨(strOf xs).toArray⟩)) (w.drew.freeze ⟨g,0,none⟩ xs.length):=by
  obtain⟨f1,f2,f3,f4,f5,f6⟩:=adi w.drew ⟨g,0,none⟩ xs.length;refine⟨rfl,f1,f2,f3,Nat.le_of_eq f4.symm,fun c _ hc=>f5 c fun e=>hc (by rw[e];rfl),fun c cur' e fz' h h2=>?_⟩
  cases h;exact f6 cur' e fz' h2
 clear htk hg' hg hcs hcm hnc hl0 h0;go_enter Tryz.func249,Tryz.ntmps249
 go_wp2
 go_region_o
 all_goals(go_wp2;go_ret;exact fin)
theorem ano:Dq Z 249:=by
 intro b p v T xs w hb hrow;refine .inl ⟨enters_of Tryz.func249 (by kernel_rfl) rfl _ _,?_⟩
 have key:Calls Z 249 #[.pointer (some ⟨b,0,none⟩)] w (rK w v xs):=by
  rcases hrow.2 with⟨rfl,h0⟩|⟨g,cap,cur,fz,rfl,hu,hg,hnc,hcm,hcs,htk⟩
  ·have:xs=[]:=List.eq_nil_of_length_eq_zero h0;subst this;exact ann b p T w hb
  ·by_cases h0:xs=[]
   ·subst h0;by_cases hc:cap=0
    ·subst hc;exact aiv b g p T cur w hb fz hg
    ·exact alU b g cap p T w hc hb
   ·exact anm b g cap p T cur fz xs w h0 hb hg hnc hcm (by simpa using hcs) (by simpa using htk)
 refine key.mono fun e w' h=>?_
 obtain⟨rfl,h⟩:=h;exact⟨rfl,h⟩
theorem aul:DT 1 .u32 jj:=aib (by simp[lH]) fun w h=>h.1
theorem q':Kx Z ak:=⟨aiN (R7 (by kernel_rfl)),by kernel_rfl,fun p h=>by
 simp only[ak,List.mem_cons,List.not_mem_nil,or_false] at h;subst h;exact aox,fun g h=>by
 simp only[ak,List.mem_cons,List.not_mem_nil,or_false] at h;subst h;exact ao3,fun g h=>by
 simp only[ak,List.mem_cons,List.not_mem_nil,or_false] at h;subst h;exact anl,fun g h=>by
 simp only[ak,List.mem_cons,List.not_mem_nil,or_false] at h;subst h;exact ano,fun p h=>by
 simp only[ak,List.mem_cons,List.not_mem_nil,or_false] at h;subst h;exact aul⟩
theorem bj{L:bl}(h:x_ Z L):bc Z (bi ak L):=S9 q' h
theorem g0:bc Z (bi ak []):=bj ⟨⟩
theorem avL:Kx Z zn:=⟨q'.tt,q'.EU,q'.lL,q'.op,q'.iH,q'.bs,q'.gt⟩
theorem awg{L:bl}(h:x_ Z L):bc Z (bi zn L):=S9 avL h
abbrev Sx:Shape:=⟨[aq 0],[],49⟩
abbrev Si:List aR:=[(.norm,⟨[aq 0,aC 20],[],49⟩)]
noncomputable def Jh(y:Sx.J):Option (aF Si):=
 bif(!(y.1.1==([]:F))) then
 bif(!(decide ((y.1.1.length:Int)>(10:Int)))) then
(aQ y.1.1 (0:Int)).bind fun a=>
 bif(!(decide ((a.toNat:Int)<(97:Int)))) then
(aQ y.1.1 (0:Int)).bind fun b=>
 some ((y.1.1,(decide ((b.toNat:Int)>(122:Int))),()),())
else
 some ((y.1.1,true,()),())
else
 some ((y.1.1,true,()),())
else
 some ((y.1.1,true,()),())
theorem ajH:aX Z (ap (codeOf Tryz.f118) 1 12) (bb Sx Si Jh):=c8 g0 (by kernel_rfl) aj fun y=>by kernel_rfl
abbrev Qh:Shape:=⟨[aq 0,ad 3,ad 22,ad 23],[],49⟩
abbrev P0:List aR:=[(.norm,⟨[aq 0,ad 22,ad 23,aC 47],[],49⟩)]
noncomputable def Gy(y:Qh.J):Option (aF P0):=
(aQ y.1.1 y.1.2.1).bind fun a=>
 bif(!(decide ((a.toNat:Int)<(97:Int)))) then
(aQ y.1.1 y.1.2.1).bind fun b=>
 bif(decide ((b.toNat:Int)>(122:Int))) then
(aQ y.1.1 y.1.2.1).bind fun c=>
 bif(!(decide ((c.toNat:Int)<(48:Int)))) then
(aQ y.1.1 y.1.2.1).bind fun d=>
 some ((y.1.1,y.1.2.2.1,y.1.2.2.2.1,(decide ((d.toNat:Int)>(57:Int))),()),())
else
 some ((y.1.1,y.1.2.2.1,y.1.2.2.2.1,true,()),())
else
 some ((y.1.1,y.1.2.2.1,y.1.2.2.2.1,false,()),())
else
(aQ y.1.1 y.1.2.1).bind fun e=>
 bif(!(decide ((e.toNat:Int)<(48:Int)))) then
(aQ y.1.1 y.1.2.1).bind fun f=>
 some ((y.1.1,y.1.2.2.1,y.1.2.2.2.1,(decide ((f.toNat:Int)>(57:Int))),()),())
else
 some ((y.1.1,y.1.2.2.1,y.1.2.2.2.1,true,()),())
theorem afS:aX Z (ap (di (ap (codeOf Tryz.f118) 1 58)) 116 7474) (bb Qh P0 Gy):=c8 g0 (by kernel_rfl) aj fun y=>by kernel_rfl
abbrev Bv:Shape:=⟨[aq 0,ad 22,ad 23],[],49⟩
abbrev It:List aR:=[(.ret,⟨[aC 2],[],49⟩),(.exit 0,⟨[],[],49⟩)]
noncomputable def B2(y:Bv.J):bR Bv It:=
 bif(decide (y.1.2.2.1<y.1.2.1)) then
(Gy ((y.1.1,y.1.2.2.1,y.1.2.1,y.1.2.2.1,()),())).bind fun a=>
 bif a.1.2.2.2.1 then
 some (.inr (.inl ((false,()),())))
else
 some (.inl ((a.1.1,a.1.2.1,(IntKind.i64.wrap (a.1.2.2.1+(1:Int))),()),()))
else
 some (.inr (.inr ((),())))
noncomputable def I6:Bv.J->Option (aF It):=bu B2
theorem ajG:aX Z (ap (codeOf Tryz.f118) 1 58) (bb Bv It I6):=bW g0 (by kernel_rfl) (bd afS aj) fun y=>by kernel_rfl
abbrev i118:Shape:=⟨[aq 0],[],49⟩
abbrev W5:Shape:=⟨[aC 2],[],49⟩
noncomputable def f118(a:i118.J):Option W5.J:=
(Jh ((a.1.1,()),())).bind fun b=>
 bif b.1.2.1 then
 some ((false,()),())
else
(I6 ((b.1.1,(b.1.1.length:Int),(0:Int),()),())).bind fun c=>
(match c with
|.inl d=>
 some ((d.1.1,()),())
|.inr e=>
 some ((true,()),()))
noncomputable def LL:aK:=a6 ak Tryz.f118 i118 W5 [] f118
theorem Vx:aL Z 118 LL:=ba g0 Tryz.func118 (by kernel_rfl) (bd ajH (bd ajG aj)) (fun y=>by kernel_rfl) fun a=>by kernel_rfl
abbrev St:Shape:=⟨[aq 0,ad 1],[],53⟩
abbrev Se:List aR:=[(.norm,⟨[aq 0,ad 1,aC 24],[],53⟩)]
noncomputable def BY(y:St.J):Option (aF Se):=
 bif(!(y.1.1==([]:F))) then
 bif(!(decide ((y.1.1.length:Int)>(9:Int)))) then
 bif(decide ((y.1.1.length:Int)>(1:Int))) then
(aQ y.1.1 (0:Int)).bind fun a=>
 some ((y.1.1,y.1.2.1,((a.toNat:Int)==(48:Int)),()),())
else
 some ((y.1.1,y.1.2.1,false,()),())
else
 some ((y.1.1,y.1.2.1,true,()),())
else
 some ((y.1.1,y.1.2.1,true,()),())
theorem ajx:aX Z (ap (codeOf Tryz.f151) 1 12) (bb St Se BY):=c8 g0 (by kernel_rfl) aj fun y=>by kernel_rfl
abbrev Pn:Shape:=⟨[aq 0,ad 1,ad 6,ad 7,ad 26,ad 27],[],53⟩
abbrev Pd:List aR:=[(.norm,⟨[aq 0,ad 1,ad 6,ad 7,ad 26,ad 27,aC 39],[],53⟩)]
noncomputable def zI(y:Pn.J):Option (aF Pd):=
(aQ y.1.1 y.1.2.2.2.1).bind fun a=>
 bif(!(decide ((a.toNat:Int)<(48:Int)))) then
(aQ y.1.1 y.1.2.2.2.1).bind fun b=>
 some ((y.1.1,y.1.2.1,y.1.2.2.1,y.1.2.2.2.1,y.1.2.2.2.2.1,y.1.2.2.2.2.2.1,(decide ((b.toNat:Int)>(57:Int))),()),())
else
 some ((y.1.1,y.1.2.1,y.1.2.2.1,y.1.2.2.2.1,y.1.2.2.2.2.1,y.1.2.2.2.2.2.1,true,()),())
theorem ad1:aX Z (ap (di (ap (codeOf Tryz.f151) 1 122)) 244 31332) (bb Pn Pd zI):=c8 g0 (by kernel_rfl) aj fun y=>by kernel_rfl
abbrev AF:Shape:=⟨[aq 0,ad 1,ad 6,ad 26,ad 27],[],53⟩
abbrev GY:List aR:=[(.ret,⟨[ad 4,aC 5],[],53⟩),(.exit 0,⟨[ad 1,ad 6],[],53⟩)]
noncomputable def ry(y:AF.J):bR AF GY:=
 bif(decide (y.1.2.2.2.2.1<y.1.2.2.2.1)) then
(zI ((y.1.1,y.1.2.1,y.1.2.2.1,y.1.2.2.2.2.1,y.1.2.2.2.1,y.1.2.2.2.2.1,()),())).bind fun a=>
 bif a.1.2.2.2.2.2.2.1 then
 some (.inr (.inl (((0:Int),false,()),())))
else
(aQ a.1.1 a.1.2.2.2.1).bind fun b=>
 some (.inl ((a.1.1,a.1.2.1,(IntKind.i64.wrap ((IntKind.i64.wrap (a.1.2.2.1*(10:Int)))+(IntKind.i64.wrap (IntKind.u8.wrap ((b.toNat:Int)-(48:Int)))))),a.1.2.2.2.2.1,(IntKind.i64.wrap (a.1.2.2.2.2.2.1+(1:Int))),()),()))
else
 some (.inr (.inr ((y.1.2.1,y.1.2.2.1,()),())))
noncomputable def tx:AF.J->Option (aF GY):=bu ry
theorem ahF:aX Z (ap (codeOf Tryz.f151) 1 122) (bb AF GY tx):=bW g0 (by kernel_rfl) (bd ad1 aj) fun y=>by kernel_rfl
abbrev i151:Shape:=⟨[aq 0,ad 1],[],53⟩
abbrev WM:Shape:=⟨[ad 4,aC 5],[],53⟩
noncomputable def f151(a:i151.J):Option WM.J:=
(BY ((a.1.1,a.1.2.1,()),())).bind fun b=>
 bif b.1.2.2.1 then
 some (((0:Int),false,()),())
else
(tx ((b.1.1,b.1.2.1,(0:Int),(b.1.1.length:Int),(0:Int),()),())).bind fun c=>
(match c with
|.inl d=>
 some ((d.1.1,d.1.2.1,()),())
|.inr e=>
 bif(decide (e.1.2.1>e.1.1)) then
 some (((0:Int),false,()),())
else
 some ((e.1.2.1,true,()),()))
noncomputable def DR:aK:=a6 ak Tryz.f151 i151 WM [] f151
theorem KB:aL Z 151 DR:=ba g0 Tryz.func151 (by kernel_rfl) (bd ajx (bd ahF aj)) (fun y=>by kernel_rfl) fun a=>by kernel_rfl
abbrev i91:Shape:=⟨[ad 0,ad 1,ad 2],[],15⟩
abbrev Zu:Shape:=⟨[aC 6],[],15⟩
noncomputable def f91(a:i91.J):Option Zu.J:=
 bif(decide (a.1.1>=a.1.2.1)) then
 some (((decide (a.1.1<=a.1.2.2.1)),()),())
else
 some ((false,()),())
noncomputable def pO:aK:=a6 ak Tryz.f91 i91 Zu [] f91
theorem z91:aL Z 91 pO:=ba g0 Tryz.func91 (by kernel_rfl) aj (fun y=>by kernel_rfl) fun a=>by kernel_rfl
noncomputable abbrev aqV:bl:=[(91,pO)]
theorem DX:bc Z (bi ak aqV):=bj ⟨z91,⟨⟩⟩
abbrev Rw:Shape:=⟨[aq 0,ad 3],[],42⟩
abbrev Rf:List aR:=[(.norm,⟨[aq 0,ad 3,aC 4],[],42⟩)]
noncomputable def HG(y:Rw.J):Option (aF Rf):=
(aQ y.1.1 y.1.2.1).bind fun a=>
 bif(decide ((a.toNat:Int)>=(97:Int))) then
(aQ y.1.1 y.1.2.1).bind fun b=>
 some ((y.1.1,y.1.2.1,(decide ((b.toNat:Int)<=(122:Int))),()),())
else
 some ((y.1.1,y.1.2.1,false,()),())
theorem ahD:aX Z (ap (di (ap (codeOf Tryz.f161) 1 26)) 52 840) (bb Rw Rf HG):=c8 DX (by kernel_rfl) aj fun y=>by kernel_rfl
abbrev Qc:Shape:=⟨[aq 0,ad 3,aC 4],[],42⟩
abbrev PV:List aR:=[(.norm,⟨[aq 0,ad 3,aC 38],[],42⟩)]
noncomputable def Gv(y:Qc.J):Option (aF PV):=
 bif(!y.1.2.2.1) then
 bif(!(y.1.2.1==(0:Int))) then
(aQ y.1.1 y.1.2.1).bind fun a=>
 bif(!(decide ((a.toNat:Int)<(48:Int)))) then
(aQ y.1.1 y.1.2.1).bind fun b=>
 some ((y.1.1,y.1.2.1,(decide ((b.toNat:Int)>(57:Int))),()),())
else
 some ((y.1.1,y.1.2.1,true,()),())
else
 some ((y.1.1,y.1.2.1,true,()),())
else
 some ((y.1.1,y.1.2.1,false,()),())
theorem afI:aX Z (ap (di (ap (codeOf Tryz.f161) 1 26)) 52 1682) (bb Qc PV Gv):=c8 DX (by kernel_rfl) aj fun y=>by kernel_rfl
abbrev Bk:Shape:=⟨[aq 0,ad 3],[],42⟩
abbrev Ii:List aR:=[(.ret,⟨[aC 2],[],42⟩),(.exit 0,⟨[aq 0],[],42⟩)]
noncomputable def BU(y:Bk.J):bR Bk Ii:=
 bif(decide (y.1.2.1<(y.1.1.length:Int))) then
(HG ((y.1.1,y.1.2.1,()),())).bind fun a=>
(Gv ((a.1.1,a.1.2.1,a.1.2.2.1,()),())).bind fun b=>
 bif b.1.2.2.1 then
 some (.inr (.inl ((false,()),())))
else
 some (.inl ((b.1.1,(IntKind.i64.wrap (b.1.2.1+(1:Int))),()),()))
else
 some (.inr (.inr ((y.1.1,()),())))
noncomputable def IZ:Bk.J->Option (aF Ii):=bu BU
theorem ajr:aX Z (ap (codeOf Tryz.f161) 1 26) (bb Bk Ii IZ):=bW DX (by kernel_rfl) (bd ahD (bd afI aj)) fun y=>by kernel_rfl
abbrev i161:Shape:=⟨[aq 0],[],42⟩
abbrev WE:Shape:=⟨[aC 2],[],42⟩
noncomputable def f161(a:i161.J):Option WE.J:=
(IZ ((a.1.1,(0:Int),()),())).bind fun b=>
(match b with
|.inl c=>
 some ((c.1.1,()),())
|.inr d=>
(f91 (((d.1.1.length:Int),(1:Int),(10:Int),()),())).bind fun e=>
 some ((e.1.1,()),()))
noncomputable def LG:aK:=a6 ak Tryz.f161 i161 WE [] f161
theorem Vv:aL Z 161 LG:=ba DX Tryz.func161 (by kernel_rfl) (bd ajr aj) (fun y=>by kernel_rfl) fun a=>by kernel_rfl
abbrev Rn:Shape:=⟨[aq 0,ad 3,ad 4],[],47⟩
abbrev Q8:List aR:=[(.norm,⟨[aq 0,ad 3,ad 4,aC 24],[],47⟩)]
noncomputable def Hv(y:Rn.J):Option (aF Q8):=
(aQ y.1.1 y.1.2.2.1).bind fun a=>
 bif(!(decide ((a.toNat:Int)<(48:Int)))) then
(aQ y.1.1 y.1.2.2.1).bind fun b=>
 bif(!(decide ((b.toNat:Int)>(57:Int)))) then
 some ((y.1.1,y.1.2.1,y.1.2.2.1,(decide (y.1.2.2.1>=(6:Int))),()),())
else
 some ((y.1.1,y.1.2.1,y.1.2.2.1,true,()),())
else
 some ((y.1.1,y.1.2.1,y.1.2.2.1,true,()),())
theorem ahf:aX Z (ap (di (ap (codeOf Tryz.f90) 1 58)) 116 3728) (bb Rn Q8 Hv):=c8 g0 (by kernel_rfl) aj fun y=>by kernel_rfl
abbrev Ci:Shape:=⟨[aq 0,ad 3,ad 4],[],47⟩
abbrev Jv:List aR:=[(.ret,⟨[ad 2],[],47⟩),(.exit 0,⟨[aq 0,ad 3],[],47⟩)]
noncomputable def CF(y:Ci.J):bR Ci Jv:=
 bif(decide (y.1.2.2.1<(y.1.1.length:Int))) then
(Hv ((y.1.1,y.1.2.1,y.1.2.2.1,()),())).bind fun a=>
 bif a.1.2.2.2.1 then
 some (.inr (.inl ((((-1):Int),()),())))
else
(aQ a.1.1 a.1.2.2.1).bind fun b=>
 some (.inl ((a.1.1,(IntKind.i64.wrap ((IntKind.i64.wrap (a.1.2.1*(10:Int)))+(IntKind.i64.wrap (IntKind.u8.wrap ((b.toNat:Int)-(48:Int)))))),(IntKind.i64.wrap (a.1.2.2.1+(1:Int))),()),()))
else
 some (.inr (.inr ((y.1.1,y.1.2.1,()),())))
noncomputable def JQ:Ci.J->Option (aF Jv):=bu CF
theorem ak7:aX Z (ap (codeOf Tryz.f90) 1 58) (bb Ci Jv JQ):=bW g0 (by kernel_rfl) (bd ahf aj) fun y=>by kernel_rfl
abbrev Tv:Shape:=⟨[aq 0,ad 3],[],47⟩
abbrev Tm:List aR:=[(.norm,⟨[ad 3,aC 45],[],47⟩)]
noncomputable def J5(y:Tv.J):Option (aF Tm):=
 bif(!((y.1.1.length:Int)==(0:Int))) then
 bif(decide ((y.1.1.length:Int)>(1:Int))) then
(aQ y.1.1 (0:Int)).bind fun a=>
 some ((y.1.2.1,((a.toNat:Int)==(48:Int)),()),())
else
 some ((y.1.2.1,false,()),())
else
 some ((y.1.2.1,true,()),())
theorem ak6:aX Z (ap (codeOf Tryz.f90) 1 60) (bb Tv Tm J5):=c8 g0 (by kernel_rfl) aj fun y=>by kernel_rfl
abbrev i90:Shape:=⟨[aq 0],[],47⟩
abbrev Zv:Shape:=⟨[ad 2],[],47⟩
noncomputable def f90(a:i90.J):Option Zv.J:=
(JQ ((a.1.1,(0:Int),(0:Int),()),())).bind fun b=>
(match b with
|.inl c=>
 some ((c.1.1,()),())
|.inr d=>
(J5 ((d.1.1,d.1.2.1,()),())).bind fun e=>
 bif e.1.2.1 then
 some ((((-1):Int),()),())
else
 some ((e.1.1,()),()))
noncomputable def EJ:aK:=a6 ak Tryz.f90 i90 Zv [] f90
theorem LY:aL Z 90 EJ:=ba g0 Tryz.func90 (by kernel_rfl) (bd ak7 (bd ak6 aj)) (fun y=>by kernel_rfl) fun a=>by kernel_rfl
def jA(b:UInt8):Bool:=decide ((97:Int)<=(b.toNat:Int))&&decide ((b.toNat:Int)<=122)
def cU(b:UInt8):Bool:=decide ((48:Int)<=(b.toNat:Int))&&decide ((b.toNat:Int)<=57)
def within(n cX hi:Int):Bool:=decide (cX<=n)&&decide (n<=hi)
theorem o7(a):f91 a=some ((within a.1.1 a.1.2.1 a.1.2.2.1,()),()):=by
 simp only[f91,within,ge_iff_le];cases decide (a.1.2.1<=a.1.1)<;>rfl
def ju(s:F):Bool:=allI (fun i x=>jA x||(!(i==0)&&cU x)) 0 s&&within s.length 1 10
theorem QX(a)(hs:am a.1.1.length):f161 a=some ((ju a.1.1,()),()):=by
 obtain⟨⟨s,u⟩,b9⟩:=a;have key:IZ ((s,((0:Int),())),())=some (bif allI (fun i x=>jA x||(!(i==0)&&cU x)) 0 s then .inr ((s,()),()) else .inl ((false,()),())):=by
  refine gS BU s (fun i=>((s,((i:Int),())),())) _ _ _ (fun i x hx=>?_) ?_
  ·have hi:=dj hx;have hw:am i:=by unfold am at*;simp only at hs;omega
   simp only[BU,cn hi,cond_true,HG,Gv,cc,hx,Option.bind_some,b6 hw,ge_iff_le,XG];unfold jA cU;by_cases h1:(97:Int)<=(x.toNat:Int)<;>by_cases h2:(x.toNat:Int)<=122<;>cases h3:(i==0)<;>by_cases aE:(48:Int)<=(x.toNat:Int)<;>by_cases br:(x.toNat:Int)<=57<;>simp[h1,h2,h3,aE,br,b6 hw,cc,hx,XG,pM,oC,-beq_iff_eq]
  ·simp only[BU,dr,cond_false]
 simp only[f161,key,Option.bind_some];unfold ju;cases allI (fun i x=>jA x||(!(i==0)&&cU x)) 0 s with
 |false=>rfl
 |true=>simp only[cond_true,o7,Option.bind_some,Bool.true_and]
theorem OO(b:UInt8)(r:F):ju (b::r)=(jA b&&(b::r).all (fun x=>jA x||cU x)&&decide (((b::r).length:Int)<=10)):=by
 unfold ju;simp only[allI,List.all_cons];have:allI (fun i x=>jA x||(!(i==0)&&cU x)) (0+1) r=r.all (fun x=>jA x||cU x):=by
  have hz:∀(i:Nat) (x:UInt8),1<=i->x∈r->(jA x||(!(i==0)&&cU x))=(jA x||cU x):=by
   intro i x hi _;have:(i==0)=false:=by simp;omega
   rw[this];simp
  rw[PH (nq:=fun _ x=>jA x||cU x) r 1 hz,hZ]
 rw[this];unfold within;have:decide ((1:Int)<=((b::r).length:Int))=true:=by simp only[List.length_cons,decide_eq_true_eq];omega
 rw[this];cases jA b<;>simp
theorem Of(a)(hs:am a.1.1.length):f118 a=some ((ju a.1.1,()),()):=by
 obtain⟨⟨s,u⟩,b9⟩:=a;have key:I6 ((s,((s.length:Int),((0:Int),()))),())=some (bif allI (fun _ x=>jA x||cU x) 0 s then .inr ((),()) else .inl ((false,()),())):=by
  refine gS B2 s (fun i=>((s,((s.length:Int),((i:Int),()))),())) _ _ _ (fun i x hx=>?_) ?_
  ·have hi:=dj hx;have hw:am i:=by unfold am at*;simp only at hs;omega
   simp only[B2,cn hi,cond_true,Gy,cc,hx,Option.bind_some,b6 hw,pM,oC];unfold jA cU;by_cases h1:(97:Int)<=(x.toNat:Int)<;>by_cases h2:(x.toNat:Int)<=122<;>by_cases aE:(48:Int)<=(x.toNat:Int)<;>by_cases br:(x.toNat:Int)<=57<;>simp[h1,h2,aE,br,b6 hw,cc,hx,pM,oC]
  ·simp only[B2,dr,cond_false]
 rw[hZ] at key;cases s with
 |nil=>rfl
 |cons b r=>
  have hb:aQ (b::r) 0=some b:=rfl;simp only[f118,Jh,hb,Option.bind_some,pM,oC,OO];have he:((b::r)==([]:F))=false:=rfl;have hl:jA b=(decide ((97:Int)<=(b.toNat:Int))&&decide ((b.toNat:Int)<=122)):=rfl;rw[he,hl];by_cases h1:(97:Int)<=(b.toNat:Int)<;>by_cases h2:(b.toNat:Int)<=122<;>by_cases h3:((b::r).length:Int)<=10<;>
   simp only[h1,h2,h3,decide_true,decide_false,Bool.not_true,Bool.not_false,cond_true,cond_false,Option.bind_some,Bool.true_and,Bool.and_true,Bool.false_and,Bool.and_false]
  rw[key];generalize List.all (b::r) (fun x=>jA x||cU x)=q
  cases q<;>rfl
def ei(n:Int)(b:UInt8):Int:=n*10+((b.toNat:Int)-48)
def df(s:F):Int:=s.foldl ei 0
def iN:F->Bool
 |b::_::_=>(b.toNat:Int)==48
 |_=>false
def fZ(s:F):Bool:=s.all cU&&!(s==[])&&!iN s&&decide (s.length<=6)&&decide (df s<=999)
theorem jr{b:UInt8}(h:cU b=true):48<=(b.toNat:Int)/\(b.toNat:Int)<=57:=by
 simpa[cU] using h
theorem akI{b:UInt8}(h:cU b=true):IntKind.u8.wrap ((b.toNat:Int)-48)=(b.toNat:Int)-48:=by
 have:=jr h;rw[IntKind.wrap_u8];omega
theorem Fp{n:Int}{b:UInt8}{i:Nat}(h:cU b=true)(h0:0<=n)(h1:n<10^i):0<=ei n b/\ei n b<10^(i+1):=by
 have:=jr h;unfold ei;rw[Int.pow_succ];omega
theorem ajL{i:Nat}(h:i<=9):(10:Int)^i<=1000000000:=by
 have:i=0\/i=1\/i=2\/i=3\/i=4\/i=5\/i=6\/i=7\/i=8\/i=9:=by omega
 rcases this with rfl|rfl|rfl|rfl|rfl|rfl|rfl|rfl|rfl|rfl<;>decide
theorem F4{n:Int}{b:UInt8}{i:Nat}(h:cU b=true)(hi:i<=8)(h0:0<=n)(h1:n<10^i):
  IntKind.i64.wrap (IntKind.i64.wrap (n*10)+IntKind.i64.wrap (IntKind.u8.wrap ((b.toNat:Int)-48)))=ei n b:=by
 have Y:=jr h;have hp:=ajL (show i<=9 by omega)
 rw[akI h,c' (n:=n*10) (by omega) (by omega),c' (n:=(b.toNat:Int)-48) (by omega) (by omega),c' (by omega) (by omega)]
 rfl
theorem HV(a)(hs:am a.1.1.length):f90 a=some ((bif a.1.1.all cU&&decide (a.1.1.length<=6)&&!(a.1.1==[])&&!iN a.1.1 then df a.1.1 else-1,()),()):=by
 obtain⟨⟨s,u⟩,b9⟩:=a;have key:JQ ((s,((0:Int),((0:Int),()))),())=some (bif allI (fun i x=>cU x&&decide (i<6)) 0 s then .inr ((s,(df s,())),()) else .inl ((((-1):Int),()),())):=by
  have:=mN CF s (fun i n=>((s,(n,((i:Int),()))),())) (fun i x n=>some (bif cU x&&decide (i<6) then .inl (ei n x) else .inr (.inl ((((-1):Int),()),())))) (fun n=>.inr ((s,(n,())),()))
   (fun i n=>0<=n/\n<10^i/\(i<=6)) (0:Int) ⟨by decide,by decide,by decide⟩ (fun i x n hx dz=>?_) (fun n _=>?_)
  ·exact this.trans (by rw[zy];rfl)
  ·have hi:=dj hx;have hw:am i:=by unfold am at*;simp only at hs;omega
   obtain⟨h0,h1,cB⟩:=dz;refine⟨?_,fun au ae=>?_⟩
   ·simp only[CF,cn hi,cond_true,Hv,cc,hx,Option.bind_some,b6 hw,pM,oC,M1];have api:decide ((6:Int)<=(i:Int))=!decide (i<6):=by by_cases h:i<6<;>simp[h]<;>omega
    rw[api];cases Y:cU x with
    |false=>
     unfold cU at Y;by_cases aE:(48:Int)<=(x.toNat:Int)<;>by_cases br:(x.toNat:Int)<=57<;>simp[aE,br] at Y ⊢
    |true=>
     obtain⟨aE,br⟩:=jr Y;cases al:decide (i<6) with
     |false=>simp[aE,br]
     |true=>
      have al:i<6:=by simpa using al
      have:=F4 (i:=i) Y (by omega) h0 h1
      simp only[aE,br,decide_true,Bool.not_true,Bool.not_false,cond_true,cond_false,Option.bind_some,cc,hx,this,b6 hw,Bool.and_true,Option.map_some]
   ·simp only[Option.some.injEq] at ae;cases al:(cU x&&decide (i<6)) with
    |false=>rw[al] at ae;cases ae
    |true=>
     rw[al] at ae;simp only[cond_true,Sum.inl.injEq] at ae;simp only[Bool.and_eq_true,decide_eq_true_eq] at al;subst ae;have:=Fp al.1 h0 h1;exact⟨this.1,this.2,by omega⟩
  ·simp only[CF,dr,cond_false]
 rw[HQ,hZ,aku] at key;simp only[f90,key,Option.bind_some];cases s with
 |nil=>rfl
 |cons b r=>
  have hb:aQ (b::r) 0=some b:=rfl;have he:((b::r)==([]:F))=false:=rfl;have hz:(((b::r).length:Int)==0)=false:=by simp only[List.length_cons,beq_eq_false_iff_ne,ne_eq];omega
  have hl:decide (((b::r).length:Int)>1)=!(r==[]):=by cases r<;>simp;omega
  simp only[List.isEmpty_cons,Bool.false_or,Nat.zero_add,he,Bool.not_false,Bool.and_true];cases al:(List.all (b::r) cU&&decide ((b::r).length<=6)) with
  |false=>rfl
  |true=>
   simp only[cond_true,J5,hz,Bool.not_false,hl,hb,Option.bind_some,Bool.true_and];cases r with
   |nil=>rfl
   |cons c r=>
    have:((c::r)==([]:F))=false:=rfl;rw[this];simp only[Bool.not_false,cond_true,Option.bind_some,iN];cases ((b.toNat:Int)==48)<;>rfl
theorem aeK:∀(r:F) (n:Int) (k:Nat),r.all cU=true->0<=n->10^k<=n->10^(k+r.length)<=r.foldl ei n:=by
 intro r;induction r with
 |nil=>intro n k _ _ h;exact h
 |cons b r ih=>
  intro n k Y h0 h;simp only[List.all_cons,Bool.and_eq_true] at Y;have hb:=jr Y.1;have hs:10^(k+1)<=ei n b:=by unfold ei;rw[Int.pow_succ];omega
  have:=ih (ei n b) (k+1) Y.2 (by unfold ei;omega) hs
  simp only[List.length_cons,List.foldl_cons];rw[show k+(r.length+1)=k+1+r.length by omega]
  exact this
theorem ahK{n:Nat}(h:6<=n):(1000000:Int)<=10^n:=by
 induction n with
 |zero=>omega
 |succ n ih=>
  by_cases cB:6<=n
  ·have:=ih cB;rw[Int.pow_succ];omega
  ·have:n=5:=by omega
   subst this;decide
theorem aiH{s:F}(Y:s.all cU=true)(hl:iN s=false)(jo:7<=s.length):999<df s:=by
 match s,jo with
 |b::c::r,jo=>
  simp only[iN,beq_eq_false_iff_ne,ne_eq] at hl;simp only[List.all_cons,Bool.and_eq_true] at Y;have hb:=jr Y.1;have hc:=jr Y.2.1;have hs:(10:Int)^0<=ei 0 b:=by unfold ei;simp;omega
  have:=aeK (c::r) (ei 0 b) 0 (by simp[Y.2.1,Y.2.2]) (by unfold ei;omega) hs
  have h2:(1000000:Int)<=10^(0+(c::r).length):=ahK (by simp only[List.length_cons] at jo ⊢;omega)
  show 999<List.foldl ei (ei 0 b) (c::r);omega
theorem agE(a)(hs:am a.1.1.length)(hC:a.1.2.1=999):f151 a=some ((bif fZ a.1.1 then df a.1.1 else 0,(fZ a.1.1,())),()):=by
 obtain⟨⟨s,m,u⟩,b9⟩:=a;obtain rfl:m=999:=hC;have key:s.length<=9->tx ((s,((999:Int),((0:Int),((s.length:Int),((0:Int),()))))),())=some (bif allI (fun i x=>cU x) 0 s then .inr (((999:Int),(df s,())),()) else .inl (((0:Int),(false,())),())):=by
  intro hC;have:=mN ry s (fun i n=>((s,((999:Int),(n,((s.length:Int),((i:Int),()))))),())) (fun i x n=>some (bif cU x then .inl (ei n x) else .inr (.inl (((0:Int),(false,())),())))) (fun n=>.inr (((999:Int),(n,())),()))
   (fun i n=>0<=n/\n<10^i/\(i<=9)) (0:Int) ⟨by decide,by decide,by decide⟩ (fun i x n hx dz=>?_) (fun n _=>?_)
  ·exact this.trans (by rw[zy];rfl)
  ·have hi:=dj hx;have hw:am i:=by unfold am at*;simp only at hs;omega
   obtain⟨h0,h1,cB⟩:=dz;refine⟨?_,fun au ae=>?_⟩
   ·simp only[ry,cn hi,cond_true,zI,cc,hx,Option.bind_some,b6 hw,pM,oC,M1];cases Y:cU x with
    |false=>
     unfold cU at Y;by_cases aE:(48:Int)<=(x.toNat:Int)<;>by_cases br:(x.toNat:Int)<=57<;>simp[aE,br] at Y ⊢
    |true=>
     obtain⟨aE,br⟩:=jr Y;have:=F4 (i:=i) Y (by omega) h0 h1
     simp only[aE,br,decide_true,Bool.not_true,Bool.not_false,cond_true,cond_false,Option.bind_some,cc,hx,this,b6 hw,Bool.and_true,Option.map_some]
   ·simp only[Option.some.injEq] at ae;cases al:cU x with
    |false=>rw[al] at ae;cases ae
    |true=>
     rw[al] at ae;simp only[cond_true,Sum.inl.injEq] at ae;subst ae;have:=Fp al h0 h1;exact⟨this.1,this.2,by omega⟩
  ·simp only[ry,dr,cond_false]
 rw[hZ] at key;cases s with
 |nil=>rfl
 |cons b r=>
  have hb:aQ (b::r) 0=some b:=rfl;have he:((b::r)==([]:F))=false:=rfl;have hl:decide (((b::r).length:Int)>1)=!(r==[]):=by cases r<;>simp;omega
  have hC:decide (((b::r).length:Int)>9)=!decide ((b::r).length<=9):=by by_cases h:(b::r).length<=9<;>simp only[h,decide_true,decide_false,Bool.not_true,Bool.not_false,decide_eq_true_eq,decide_eq_false_iff_not]<;>omega
  have rY:iN (b::r)=(!(r==[])&&(b.toNat:Int)==48):=by cases r<;>rfl
  simp only[f151,BY,he,hl,hC,Bool.not_false,cond_true,Bool.not_not,hb,Option.bind_some];have fin:(b::r).length<=9->iN (b::r)=false->((tx ((b::r,((999:Int),((0:Int),(((b::r).length:Int),((0:Int),()))))),())).bind fun KJ=>match KJ with
    |.inl xJ=>some ((xJ.1.1,(xJ.1.2.1,())),())
    |.inr sa=>bif decide (sa.1.2.1>sa.1.1) then some (((0:Int),(false,())),()) else some ((sa.1.2.1,(true,())),()))=
    some ((bif fZ (b::r) then df (b::r) else 0,(fZ (b::r),())),()):=by
   intro hC kt;rw[key hC];unfold fZ;rw[he,kt];cases Y:List.all (b::r) cU with
   |false=>rfl
   |true=>
    simp only[cond_true,Option.bind_some,Bool.not_false,Bool.true_and,oC];by_cases cB:(b::r).length<=6
    ·simp only[cB,decide_true,Bool.true_and];cases decide (df (b::r)<=999)<;>rfl
    ·have:=aiH Y kt (by omega)
     have:decide (df (b::r)<=999)=false:=by simp only[decide_eq_false_iff_not];omega
     rw[this];simp only[cB,decide_false,Bool.false_and];rfl
  by_cases al:(b::r).length<=9
  ·simp only[al,decide_true,cond_true];cases hr:(r==[]) with
   |true=>
    simp only[Bool.not_true,cond_false,Option.bind_some];exact fin al (by rw[rY,hr];rfl)
   |false=>
    simp only[Bool.not_false,cond_true,Option.bind_some];cases qX:((b.toNat:Int)==48) with
    |true=>
     have:fZ (b::r)=false:=by unfold fZ;rw[rY,hr,qX];simp
     rw[this];rfl
    |false=>
     simp only[cond_false];exact fin al (by rw[rY,hr,qX];rfl)
  ·have:fZ (b::r)=false:=by
    unfold fZ;have:decide ((b::r).length<=6)=false:=by simp only[decide_eq_false_iff_not];omega
    rw[this];simp
   simp only[al,decide_false,cond_false,Option.bind_some,cond_true,this]
abbrev AX:Shape:=⟨[aq 0,(1,.ag (.d (.int .u8))),ad 2,a' 7 3000448,ad 8,ad 9],[bg 3000448 .str 7 0],43⟩
abbrev wF:List aR:=[(.exit 0,⟨[aq 0,a' 7 3000448,ad 8],[bg 3000448 .str 7 0],43⟩)]
noncomputable def qg(y:AX.J):bR AX wF:=
 bif(decide (y.1.2.2.2.2.2.1<(y.1.1.length:Int))) then
 bif(decide ((y.2.1.length:Int)<y.1.2.2.1)) then
(aQ y.1.1 y.1.2.2.2.2.2.1).bind fun a=>
 bif((a.toNat:Int)==y.1.2.1) then
(bD y.1.1 y.1.2.2.2.2.1 y.1.2.2.2.2.2.1).bind fun b=>
(cw 16 y.2.1 ([b]:List F)).bind fun c=>
 some (.inl ((y.1.1,y.1.2.1,y.1.2.2.1,(),(IntKind.i64.wrap (y.1.2.2.2.2.2.1+(1:Int))),(IntKind.i64.wrap (y.1.2.2.2.2.2.1+(1:Int))),()),c,()))
else
 some (.inl ((y.1.1,y.1.2.1,y.1.2.2.1,(),y.1.2.2.2.2.1,(IntKind.i64.wrap (y.1.2.2.2.2.2.1+(1:Int))),()),y.2.1,()))
else
 some (.inr ((y.1.1,(),y.1.2.2.2.2.1,()),y.2.1,()))
else
 some (.inr ((y.1.1,(),y.1.2.2.2.2.1,()),y.2.1,()))
noncomputable def wO:AX.J->Option (aF wF):=bu qg
theorem aiW:aX Z (ap (codeOf Tryz.f89) 1 122) (bb AX wF wO):=bW g0 (by kernel_rfl) aj fun y=>by kernel_rfl
abbrev i89:Shape:=⟨[aq 0,(1,.ag (.d (.int .u8))),ad 2],[],43⟩
abbrev Zw:Shape:=⟨[a' 6 3000384],[bg 3000384 .str 6 0],43⟩
noncomputable def f89(a:i89.J):Option Zw.J:=
(wO ((a.1.1,a.1.2.1,a.1.2.2.1,(),(0:Int),(0:Int),()),([]:List F),())).bind fun b=>
(bD b.1.1 b.1.2.2.1 (b.1.1.length:Int)).bind fun c=>
(cw 16 b.2.1 ([c]:List F)).bind fun d=>
 some (((),()),d,())
noncomputable def vy:aK:=a6 ak Tryz.f89 i89 Zw [] f89
theorem yb:aL Z 89 vy:=ba g0 Tryz.func89 (by kernel_rfl) (bd aiW aj) (fun y=>by kernel_rfl) fun a=>by kernel_rfl
abbrev cN(n:Nat):Prop:=n<=2097152
theorem rh(c:UInt8):∀s,bQ c s≠[]:=by
 intro s;induction s with
 |nil=>intro h;cases h
 |cons b r ih=>
  unfold bQ;cases b==c with
  |true=>intro h;cases h
  |false=>
   simp only[cond_false];split<;>intro h<;>cases h
def uS(acc:F):List F->List F
 |x::xs=>(acc++x)::xs
 |[]=>[acc]
theorem RN{L:List F}(h:L≠[]):uS [] L=L:=by
 cases L with
 |nil=>exact absurd rfl h
 |cons x xs=>rfl
theorem tb(c:UInt8):∀s,(bQ c s).length<=s.length+1:=by
 intro s;induction s with
 |nil=>exact Nat.le_refl _
 |cons b r ih=>
  unfold bQ;cases b==c with
  |true=>simpa using ih
  |false=>
   simp only[cond_false];split
   ·rename_i x xs h;rw[h] at ih;simp at ih ⊢;omega
   ·simp
theorem zB(c:UInt8):∀s x,x∈bQ c s->x.length<=s.length:=by
 intro s;induction s with
 |nil=>intro x h;simp[bQ] at h;simp[h]
 |cons b r ih=>
  intro x h;unfold bQ at h;cases hb:b==c with
  |true=>
   rw[hb,cond_true] at h;rcases List.mem_cons.1 h with rfl|h
   ·simp
   ·have:=ih x h;simp;omega
  |false=>
   rw[hb,cond_false] at h;split at h
   ·rename_i y ys hy;rcases List.mem_cons.1 h with rfl|h
    ·have:=ih y (by rw[hy];exact List.mem_cons_self);simp;omega
    ·have:=ih x (by rw[hy];exact List.mem_cons_of_mem _ h);simp;omega
   ·simp at h;simp[h]
theorem aip{bx:Type}(c:UInt8)(s:F)(fin:Nat×List F->bx):∀(r:F) (k:Nat) (q:Nat×List F),r=s.drop k->k<=s.length->q.1<=k->
  ∃gd,fg (fun i x (q:Nat×List F)=>some (.inl (bif(x.toNat:Int)==(c.toNat:Int) then(i+1,q.2++[(s.take i).drop q.1]) else q):Sum (Nat×List F) bx)) fin k r q=some (fin gd)/\gd.1<=s.length/\
   gd.2++[s.drop gd.1]=q.2++uS ((s.take k).drop q.1) (bQ c r):=by
 intro r;induction r with
 |nil=>
  intro k q hr hk al;have hkl:k=s.length:=by
   have:=congrArg List.length hr;simp at this;omega
  refine⟨q,rfl,by omega,?_⟩
  rw[hkl,List.take_length];simp[bQ,uS]
 |cons x r ih=>
  intro k q hr hk al;have hlt:k<s.length:=by
   have:=congrArg List.length hr;simp at this;omega
  have cV:r=s.drop (k+1):=by
   have:=congrArg List.tail hr;simpa using this
  have hx:s[k]? =some x:=by
   have:=congrArg (fun l=>l[0]?) hr
   simpa using this.symm
  simp only[fg];cases hc:((x.toNat:Int)==(c.toNat:Int)) with
  |true=>
   have Mm:x=c:=by
    simp only[beq_iff_eq] at hc;exact UInt8.toNat_inj.1 (by omega)
   simp only[cond_true];obtain⟨gd,h1,h2,h3⟩:=ih (k+1) (k+1,q.2++[(s.take k).drop q.1]) cV hlt (Nat.le_refl _);refine⟨gd,h1,h2,h3.trans ?_⟩;have e1:(s.take (k+1)).drop (k+1)=[]:=List.drop_eq_nil_of_le (by rw[List.length_take];omega)
   simp only[e1];rw[RN (rh c r)];subst Mm;have:bQ x (x::r)=[]::bQ x r:=by simp[bQ]
   rw[this];simp[uS]
  |false=>
   have Mm:(x==c)=false:=by
    cases h:x==c with
    |false=>rfl
    |true=>rw[eq_of_beq h] at hc;simp at hc
   simp only[cond_false];obtain⟨gd,h1,h2,h3⟩:=ih (k+1) q cV hlt (by omega)
   refine⟨gd,h1,h2,h3.trans ?_⟩;have e1:(s.take (k+1)).drop q.1=(s.take k).drop q.1++[x]:=by
    rw[List.take_add_one,hx];rw[List.drop_append_of_le_length (by rw[List.length_take];omega)]
    rfl
   rw[e1];have:bQ c (x::r)=uS [x] (bQ c r):=by
    rw[bQ,Mm,cond_false];cases h:bQ c r with
    |nil=>rfl
    |cons y ys=>rfl
   rw[this];cases h:bQ c r with
   |nil=>exact absurd h (rh c r)
   |cons y ys=>simp[uS]
theorem R5(c:UInt8)(a)(hs:cN a.1.1.length)(hb:a.1.2.1=(c.toNat:Int))(hm:a.1.2.2.1=((a.1.1.length+1:Nat):Int)):f89 a=some (((),()),(bQ c a.1.1,())):=by
 obtain⟨⟨s,b,m,u⟩,b9⟩:=a;obtain rfl:b=(c.toNat:Int):=hb;obtain rfl:m=((s.length+1:Nat):Int):=hm;have hs:s.length<=2097152:=hs;have key:=mN qg s (fun i (q:Nat×List F)=>((s,((c.toNat:Int),(((s.length+1:Nat):Int),((),((q.1:Int),((i:Int),())))))),(q.2,())))
  (fun i x (q:Nat×List F)=>some (.inl (bif(x.toNat:Int)==(c.toNat:Int) then(i+1,q.2++[(s.take i).drop q.1]) else q))) (fun q=>(((s,((),((q.1:Int),()))),(q.2,())):aF wF))
  (fun i q=>q.1<=i/\q.2.length<=i) (0,[]) ⟨Nat.le_refl _,Nat.le_refl _⟩ (fun i x q hx dz=>?_) (fun q dz=>?_)
 ·obtain⟨gd,h1,h2,h3⟩:=aip c s (fun q=>(((s,((),((q.1:Int),()))),(q.2,())):aF wF)) s 0 (0,[]) rfl (Nat.zero_le _) (Nat.le_refl _)
  have key:wO ((s,((c.toNat:Int),(((s.length+1:Nat):Int),((),((0:Int),((0:Int),())))))),(([]:List F),()))=some ((s,((),((gd.1:Int),()))),(gd.2,())):=key.trans h1;simp only[f89,key,Option.bind_some];rw[hI h2];have h3:gd.2++[s.drop gd.1]=bQ c s:=by
   rw[h3];simp only[List.take_zero,List.drop_nil,List.nil_append];exact RN (rh c s)
  have hl:gd.2.length<=s.length+1:=by
   have:=congrArg List.length h3;have aE:=tb c s;simp only[List.length_append,List.length_cons,List.length_nil] at this;omega
  simp only[Option.bind_some];rw[ew (by decide) (by unfold am;simp only[List.length_cons,List.length_nil];omega)]
  simp only[Option.bind_some,h3]
 ·have hi:=dj hx;have hw:am i:=by unfold am;omega
  obtain⟨h0,h1⟩:=dz;have hlt:decide ((q.2.length:Int)<((s.length+1:Nat):Int))=true:=cn (by omega)
  refine⟨?_,fun gd py=>?_⟩
  ·simp only[qg,cn hi,cond_true,hlt,cc,hx,Option.bind_some];cases hc:((x.toNat:Int)==(c.toNat:Int)) with
   |true=>
    simp only[cond_true];rw[rq h0 (by omega)]
    simp only[Option.bind_some];rw[ew (by decide) (by unfold am;simp only[List.length_cons,List.length_nil];omega)]
    simp only[Option.bind_some,Option.map_some,b6 hw]
   |false=>simp only[cond_false,Option.map_some,b6 hw]
  ·simp only[Option.some.injEq,Sum.inl.injEq] at py;subst py;cases (x.toNat:Int)==(c.toNat:Int) with
   |true=>simp only[cond_true,List.length_append,List.length_cons,List.length_nil];omega
   |false=>simp only[cond_false];omega
 ·simp only[qg,dr,cond_false]
noncomputable def Vd:aK:=Gr
theorem ami:aL Z 297 Vd:=aco (fn:=Tryz.f297) (by kernel_rfl) (by kernel_rfl) (by kernel_rfl) (by kernel_rfl) (by kernel_rfl)
noncomputable abbrev aqc:bl:=[(297,Vd)]
theorem arm:bc Z (bi ak aqc):=bj ⟨ami,⟨⟩⟩
abbrev i271:Shape:=⟨[aq 0,(1,.ag (.d (.int .u8)))],[],8⟩
abbrev VS:Shape:=⟨[ad 4],[],8⟩
noncomputable def f271(a:i271.J):Option VS.J:=
(some ()).bind fun aym=>
 some (((Lib.indexByte a.1.1 (a.1.2.1).toNat.toUInt8),()),())
noncomputable def XO:aK:=a6 ak Tryz.f271 i271 VS [] f271
theorem anJ:aL Z 271 XO:=ba arm Tryz.func271 (by kernel_rfl) aj (fun y=>by kernel_rfl) fun a=>by kernel_rfl
noncomputable abbrev aqp:bl:=[(271,XO)]
theorem Y0:bc Z (bi ak aqp):=bj ⟨anJ,⟨⟩⟩
abbrev Sp:Shape:=⟨[aq 0,aq 1,ad 5],[],143⟩
abbrev Sa:List aR:=[(.norm,⟨[aq 0,aq 1,ad 5,aC 16],[],143⟩)]
noncomputable def BL(y:Sp.J):Option (aF Sa):=
 bif(!(y.1.2.2.1==(0:Int))) then
 some ((y.1.1,y.1.2.1,y.1.2.2.1,(y.1.2.1==y.1.1),()),())
else
 some ((y.1.1,y.1.2.1,y.1.2.2.1,true,()),())
theorem aja:aX Z (ap (codeOf Tryz.f238) 1 56) (bb Sp Sa BL):=c8 Y0 (by kernel_rfl) aj fun y=>by kernel_rfl
abbrev i238:Shape:=⟨[aq 0,aq 1],[],143⟩
abbrev V8:Shape:=⟨[ad 4],[],143⟩
noncomputable def f238(a:i238.J):Option V8.J:=
(BL ((a.1.1,a.1.2.1,(a.1.2.1.length:Int),()),())).bind fun vD=>
 bif vD.1.2.2.2.1 then
 some (((0:Int),()),())
else
 bif(vD.1.2.2.1==(1:Int)) then
(aQ vD.1.2.1 (0:Int)).bind fun Ns=>
(f271 ((vD.1.1,(Ns.toNat:Int),()),())).bind fun r8=>
 some ((r8.1.1,()),())
else
 bif(decide (vD.1.2.2.1>=(vD.1.1.length:Int))) then
 some ((((-1):Int),()),())
else
 none
noncomputable def Lw:aK:=a6 ak Tryz.f238 i238 V8 [] f238
theorem Vr:aL Z 238 Lw:=ba Y0 Tryz.func238 (by kernel_rfl) (bd aja aj) (fun y=>by kernel_rfl) fun a=>by kernel_rfl
noncomputable abbrev aqn:bl:=[(238,Lw)]
theorem ars:bc Z (bi ak aqn):=bj ⟨Vr,⟨⟩⟩
abbrev i241:Shape:=⟨[aq 0,aq 1],[],8⟩
abbrev V6:Shape:=⟨[ad 4],[],8⟩
noncomputable def f241(a:i241.J):Option V6.J:=
(f238 ((a.1.1,a.1.2.1,()),())).bind fun b=>
 some ((b.1.1,()),())
noncomputable def DP:aK:=a6 ak Tryz.f241 i241 V6 [] f241
theorem Kz:aL Z 241 DP:=ba ars Tryz.func241 (by kernel_rfl) aj (fun y=>by kernel_rfl) fun a=>by kernel_rfl
noncomputable abbrev Lr:Ctx:=bi ak [(241,DP)]
noncomputable def DM:Code:=codeOf Tryz.f257
noncomputable def pg:Code:=di (ap DM 1 12)
noncomputable def C4(p j:Nat):Oper:=(opsOf (ap pg 24 p)).getD j default
noncomputable def Kk(j:Nat):Oper:=(opsOf (ap DM 1 7)).getD j default
theorem alC(c:UInt8)(r:F):f241 ((r,([c],())),())=some ((Lib.indexByte r c,()),()):=by
 have h0:aQ ([c]:F) (0:Int)=some c:=rfl;have h1:((([c]:F).length:Int)==0)=false:=rfl;have h2:((([c]:F).length:Int)==1)=true:=rfl;have h3:((c.toNat:Int)).toNat.toUInt8=c:=by simp
 simp only[f241,f238,BL,f271,h0,h1,h2,h3,Bool.not_false,cond_true,cond_false,Option.bind_some,Option.bind];by_cases h:(([c]:F)==r)=true
 ·have:r=[c]:=(by simpa using h:[c]=r).symm
  subst this;simp[Lib.indexByte]<;>rfl
 ·simp[h]<;>rfl
theorem ank(c:UInt8)(r:F):exec (hJ Lr []) (ap pg 24 96) 96 (ov 52 c r) (DC (hJ Lr []) 52 7 8 (ap pg 24 194) (ap pg 24 390) 194 390)=
 (f241 ((r,([c],())),())).bind fun q=>bif decide (q.1.1<0) then some (.inl (lO 52 c r)) else(bD r 0 (IntKind.i64.wrap (q.1.1+0))).bind fun x=>some (.inr ((q.1.1,x),lO 52 c r)):=by kernel_rfl
theorem UX:xl Z 257:=
 aj0 (C:=hJ Lr []) (bj ⟨Kz,⟨⟩⟩) (fn:=Tryz.f257) (k:=52) (A:=ap DM 1 2) (r5:=ap pg 24 96) (c6:=ap pg 24 194) (r7:=ap pg 24 390) (r9:=ap pg 24 783)
  (o0:=C4 1564 0) (o1:=C4 1564 1) (o2:=C4 1564 2) (o3:=C4 1564 3) (q0:=Kk 0) (q1:=Kk 1) (q2:=Kk 2) (pA:=2) (p5:=96) (p6:=194) (p7:=390) (p9:=783) (t7:=7) (t8:=8) (a1:=39) (a2:=40)
  (t41:=41) (t42:=42) (u1:=49) (u2:=50) (ty:=#[9]) (D6:=#[9])
  {Xh:=(by kernel_rfl),nt:=(by kernel_rfl),cl:=(by decide),ft:=(by kernel_rfl),_x:=enters_of Tryz.func257 (by kernel_rfl) rfl,body:=⟨uk (ap pg 24 1564),uk (ap DM 1 7),(by kernel_rfl)⟩,y4:=(by kernel_rfl),wr:=(by kernel_rfl),
   bj:=⟨(by kernel_rfl),(by kernel_rfl),(by kernel_rfl),(by kernel_rfl),(by kernel_rfl),(by kernel_rfl),(by kernel_rfl)⟩,aav:=(by kernel_rfl),aau:=(by kernel_rfl),d2:=(by kernel_rfl),KW:=(by decide),c2:=(by kernel_rfl),d5:=(by kernel_rfl),
   ls:=⟨l2 (by kernel_rfl) aj,l2 (by kernel_rfl) aj,l2 (by kernel_rfl) aj,l2 (by kernel_rfl) aj,l2 (by kernel_rfl) aj⟩,
   dJ:=fun c r=>(by kernel_rfl),hB:=fun c r=>(ank c r).trans (by rw[alC];rfl),a_:=fun c r i x v=>(by kernel_rfl),h3:=fun c r b=>(by kernel_rfl),_t:=(by kernel_rfl),za:=fun c r i=>(by kernel_rfl),EV:=fun c r v=>(by kernel_rfl)}
  (by kernel_rfl) (by decide)
noncomputable abbrev ard:bl:=[(151,DR)]
theorem LW:bc Z (bi ak ard):=bj ⟨KB,⟨⟩⟩
abbrev Qg:Shape:=⟨[a8 2 2 0,a8 3 3 0,a8 4 4 0,ad 6,aC 7],[bI 5000128 .i64 2 0,a7 2 [.own 5000128],a7 3 [jp],bI 5000256 .i64 4 0,a7 4 [.own 5000256]],28⟩
abbrev PZ:List aR:=[(.norm,⟨[a8 2 2 0,a8 3 3 0,a8 4 4 0,ad 6,aC 22],[bI 5000128 .i64 2 0,a7 2 [.own 5000128],a7 3 [jp],bI 5000256 .i64 4 0,a7 4 [.own 5000256]],28⟩)]
noncomputable def Gx(y:Qg.J):Option (aF PZ):=
 bif(!(!y.1.2.2.2.2.1)) then
 some (((),(),(),y.1.2.2.2.1,((y.2.2.2.2.1.length:Int)==(4:Int)),()),y.2.1,((),()),(y.2.2.2.1.1,()),y.2.2.2.2.1,((),()),())
else
 some (((),(),(),y.1.2.2.2.1,true,()),y.2.1,((),()),(y.2.2.2.1.1,()),y.2.2.2.2.1,((),()),())
theorem afP:aX Z (ap (kI (ap (codeOf Tryz.f127) 1 58)) 117 1876) (bb Qg PZ Gx):=c8 LW (by kernel_rfl) aj fun y=>by kernel_rfl
abbrev Bu:Shape:=⟨[a8 2 2 0,a8 3 3 0,a8 4 4 0],[bI 5000128 .i64 2 0,a7 2 [.own 5000128],a7 3 [jp],bI 5000256 .i64 4 0,a7 4 [.own 5000256]],28⟩
abbrev Is:List aR:=[(.norm,⟨[a8 2 2 0,a8 3 3 0,a8 4 4 0],[bI 5000128 .i64 2 0,a7 2 [.own 5000128],a7 3 [jp],bI 5000256 .i64 4 0,a7 4 [.own 5000256]],28⟩),(.ret,⟨[a8 2 2 0,a8 3 3 0],[bI 5000128 .i64 2 0,a7 2 [.own 5000128],a7 3 [jp]],28⟩)]
noncomputable def tM(x:F)(y:Bu.J):bR Bu Is:=
(f151 ((x,(999:Int),()),())).bind fun a=>
(Gx (((),(),(),a.1.1,a.1.2.1,()),y.2.1,((),()),(y.2.2.2.1.1,()),y.2.2.2.2.1,((),()),())).bind fun b=>
 bif b.1.2.2.2.2.1 then
 some (.inr (.inr (((),(),()),([]:List Int),((),()),(false,()),())))
else
(cw 8 b.2.2.2.2.1 ([b.1.2.2.2.1]:List Int)).bind fun c=>
 some (.inl (((),(),(),()),b.2.1,((),()),(b.2.2.2.1.1,()),c,((),()),()))
noncomputable def wT(y:Bu.J):Option (aF Is):=
 some (.inl (((),(),(),()),y.2.1,((),()),(y.2.2.2.1.1,()),y.2.2.2.2.1,((),()),()))
theorem ajE:aX Z (ap (codeOf Tryz.f127) 1 58) (ts 257 9 Bu Is tM wT):=ON (fj:=10) LW UX (by kernel_rfl) (bd afP aj) (by kernel_rfl) (fun x y=>by kernel_rfl) fun y=>by kernel_rfl
abbrev i127:Shape:=⟨[aq 0],[],28⟩
abbrev WY:Shape:=⟨[a8 2 2 0,a8 3 3 0],[bI 5000128 .i64 2 0,a7 2 [.own 5000128],a7 3 [jp]],28⟩
noncomputable def f127(a:i127.J):Option WY.J:=
(bif Nat.ble a.1.1.length lj then jg tM wT (bQ (46:UInt8) a.1.1) (((),(),(),()),([]:List Int),((),()),(false,()),([]:List Int),((),()),()) else none).bind fun b=>
(match b with
|.inl c=>
 some (((),(),()),c.2.2.2.2.1,((),()),(true,()),())
|.inr d=>
 some (((),(),()),d.2.1,((),()),(d.2.2.2.1.1,()),()))
noncomputable def LK:aK:=a6 ak Tryz.f127 i127 WY [] f127
theorem z127:aL Z 127 LK:=ba LW Tryz.func127 (by kernel_rfl) (bd ajE aj) (fun y=>by kernel_rfl) fun a=>by kernel_rfl
noncomputable abbrev arh:bl:=[(127,LK)]
theorem arQ:bc Z (bi ak arh):=bj ⟨z127,⟨⟩⟩
abbrev i119:Shape:=⟨[aq 0],[],11⟩
abbrev W4:Shape:=⟨[aC 2],[],11⟩
noncomputable def f119(a:i119.J):Option W4.J:=
(f127 ((a.1.1,()),())).bind fun b=>
 some ((b.2.2.2.1.1,()),())
noncomputable def DS:aK:=a6 ak Tryz.f119 i119 W4 [] f119
theorem z119:aL Z 119 DS:=ba arQ Tryz.func119 (by kernel_rfl) aj (fun y=>by kernel_rfl) fun a=>by kernel_rfl
noncomputable abbrev arf:bl:=[(118,LL),(119,DS)]
theorem Zb:bc Z (bi ak arf):=bj ⟨Vx,z119,⟨⟩⟩
abbrev Ry:Shape:=⟨[a8 1 1 0,ad 8],[a7 1 [ax,bz,ax]],21⟩
abbrev Rh:List aR:=[(.norm,⟨[a8 1 1 0,aC 14],[a7 1 [ax,bz,ax]],21⟩)]
noncomputable def HI(y:Ry.J):Option (aF Rh):=
 bif(y.1.2.1==(1:Int)) then
 some (((),(y.1.2.1==(1:Int)),()),(y.2.1.1,y.2.1.2.1,y.2.1.2.2.1,()),())
else
 bif(y.1.2.1==(2:Int)) then
 some (((),(y.1.2.1==(2:Int)),()),(y.2.1.1,y.2.1.2.1,y.2.1.2.2.1,()),())
else
 some (((),(y.1.2.1==(3:Int)),()),(y.2.1.1,y.2.1.2.1,y.2.1.2.2.1,()),())
theorem ahH:aX Z (ap (codeOf Tryz.f121) 1 470) (bb Ry Rh HI):=c8 Zb (by kernel_rfl) aj fun y=>by kernel_rfl
abbrev i121:Shape:=⟨[dw 0 [ax,bz,ax]],[],21⟩
abbrev W3:Shape:=⟨[aC 2],[],21⟩
noncomputable def f121(a:i121.J):Option W3.J:=
(f118 ((a.1.1.1,()),())).bind fun b=>
 bif(!b.1.1) then
 some ((false,()),())
else
 bif(a.1.1.2.1==(0:Int)) then
 some (((a.1.1.2.2.1==([]:F)),()),())
else
(HI (((),a.1.1.2.1,()),(a.1.1.1,a.1.1.2.1,a.1.1.2.2.1,()),())).bind fun c=>
 bif c.1.2.1 then
(f119 ((c.2.1.2.2.1,()),())).bind fun d=>
 some ((d.1.1,()),())
else
 some ((false,()),())
noncomputable def x6:aK:=a6 ak Tryz.f121 i121 W3 [] f121
theorem Dv:aL Z 121 x6:=ba Zb Tryz.func121 (by kernel_rfl) (bd ahH aj) (fun y=>by kernel_rfl) fun a=>by kernel_rfl
noncomputable abbrev aqR:bl:=[(89,vy),(90,EJ),(91,pO)]
theorem Y7:bc Z (bi ak aqR):=bj ⟨yb,LY,z91,⟨⟩⟩
abbrev AE:Shape:=⟨[a' 4 3000256,a' 5 3000320,ad 6],[bg 3000256 .str 4 0,bg 3000320 .i64 5 0],37⟩
abbrev rp:List aR:=[(.ret,⟨[a' 2 3000128,aC 3],[bg 3000128 .i64 2 0],37⟩),(.exit 0,⟨[a' 4 3000256,a' 5 3000320],[bg 3000256 .str 4 0,bg 3000320 .i64 5 0],37⟩)]
noncomputable def AS(y:AE.J):bR AE rp:=
 bif(decide (y.1.2.2.1<(y.2.1.length:Int))) then
(aU y.2.1.length y.1.2.2.1).bind fun a=>
(y.2.1[a]?).bind fun b=>
(f90 ((b,()),())).bind fun c=>
(f91 ((c.1.1,(0:Int),(999:Int),()),())).bind fun d=>
 bif(!d.1.1) then
 some (.inr (.inl (((),false,()),y.2.2.1,())))
else
(cw 8 y.2.2.1 ([c.1.1]:List Int)).bind fun e=>
 some (.inl (((),(),(IntKind.i64.wrap (y.1.2.2.1+(1:Int))),()),y.2.1,e,()))
else
 some (.inr (.inr (((),(),()),y.2.1,y.2.2.1,())))
noncomputable def Hn:AE.J->Option (aF rp):=bu AS
theorem ahC:aX Z (ap (codeOf Tryz.f181) 1 122) (bb AE rp Hn):=bW Y7 (by kernel_rfl) aj fun y=>by kernel_rfl
abbrev i181:Shape:=⟨[aq 0],[],37⟩
abbrev Wz:Shape:=⟨[a' 2 3000128,aC 3],[bg 3000128 .i64 2 0],37⟩
noncomputable def f181(a:i181.J):Option Wz.J:=
(f89 ((a.1.1,(46:Int),(IntKind.i64.wrap ((a.1.1.length:Int)+(1:Int))),()),())).bind fun b=>
(Hn (((),(),(0:Int),()),b.2.1,([]:List Int),())).bind fun c=>
(match c with
|.inl d=>
 some (((),d.1.2.1,()),d.2.1,())
|.inr e=>
 some (((),(decide ((e.2.1.length:Int)<=(4:Int))),()),e.2.2.1,()))
noncomputable def LD:aK:=a6 ak Tryz.f181 i181 Wz [] f181
theorem Vu:aL Z 181 LD:=ba Y7 Tryz.func181 (by kernel_rfl) (bd ahC aj) (fun y=>by kernel_rfl) fun a=>by kernel_rfl
noncomputable abbrev aqU:bl:=[(181,LD)]
theorem arH:bc Z (bi ak aqU):=bj ⟨Vu,⟨⟩⟩
abbrev i162:Shape:=⟨[aq 0],[],11⟩
abbrev WD:Shape:=⟨[aC 2],[],11⟩
noncomputable def f162(a:i162.J):Option WD.J:=
(f181 ((a.1.1,()),())).bind fun b=>
 some ((b.1.2.1,()),())
noncomputable def LF:aK:=a6 ak Tryz.f162 i162 WD [] f162
theorem z162:aL Z 162 LF:=ba arH Tryz.func162 (by kernel_rfl) aj (fun y=>by kernel_rfl) fun a=>by kernel_rfl
noncomputable abbrev aqt:bl:=[(91,pO),(161,LG),(162,LF)]
theorem arv:bc Z (bi ak aqt):=bj ⟨z91,Vv,z162,⟨⟩⟩
abbrev i233:Shape:=⟨[dw 0 [ax,bz,ax]],[],26⟩
abbrev Wb:Shape:=⟨[aC 2],[],26⟩
noncomputable def f233(a:i233.J):Option Wb.J:=
(f161 ((a.1.1.1,()),())).bind fun b=>
 bif b.1.1 then
 bif(a.1.1.2.1==(0:Int)) then
 bif(!(a.1.1.2.2.1==([]:F))) then
(f91 ((a.1.1.2.1,(1:Int),(3:Int),()),())).bind fun c=>
 bif c.1.1 then
(f162 ((a.1.1.2.2.1,()),())).bind fun d=>
 some ((d.1.1,()),())
else
 some ((false,()),())
else
 some ((true,()),())
else
(f91 ((a.1.1.2.1,(1:Int),(3:Int),()),())).bind fun e=>
 bif e.1.1 then
(f162 ((a.1.1.2.2.1,()),())).bind fun f=>
 some ((f.1.1,()),())
else
 some ((false,()),())
else
 some ((false,()),())
noncomputable def Ly:aK:=a6 ak Tryz.f233 i233 Wb [] f233
theorem z233:aL Z 233 Ly:=ba arv Tryz.func233 (by kernel_rfl) aj (fun y=>by kernel_rfl) fun a=>by kernel_rfl
theorem O6:∀(r:F) (n:Int),r.all cU=true->0<=n->0<=r.foldl ei n:=by
 intro r;induction r with
 |nil=>intro n _ h;exact h
 |cons b r ih=>
  intro n Y h;simp only[List.all_cons,Bool.and_eq_true] at Y;have hb:=jr Y.1;exact ih _ Y.2 (by unfold ei;omega)
def iM(s:F):List F:=bQ 46 s
def ev(s:F):Bool:=(iM s).all fZ&&decide ((iM s).length<=4)
def ix(s:F):List Int:=(iM s).map df
theorem ac2(x:F):within (bif x.all cU&&decide (x.length<=6)&&!(x==[])&&!iN x then df x else-1) 0 999=fZ x:=by
 unfold fZ within;cases h1:x.all cU with
 |false=>simp
 |true=>
  have:=O6 x 0 h1 (Int.le_refl _);have hv:decide ((0:Int)<=df x)=true:=by simp only[decide_eq_true_eq];exact this
  cases h2:decide (x.length<=6)<;>cases h3:(x==[])<;>cases aE:iN x<;>simp[hv]
theorem FQ(a)(hs:cN a.1.1.length):∃out,f181 a=some (((),(ev a.1.1,())),(out,()))/\(ev a.1.1=true->out=ix a.1.1):=by
 obtain⟨⟨s,u⟩,b9⟩:=a;have hs:s.length<=2097152:=hs;have hlen:=tb 46 s;have gr:f89 ((s,((46:Int),((IntKind.i64.wrap ((s.length:Int)+(1:Int))),()))),())=some (((),()),(iM s,())):=
  R5 46 _ hs rfl (b6 (by unfold am;omega))
 have key:=mN AS (iM s) (fun i (out:List Int)=>(((),((),((i:Int),()))),(iM s,(out,()))))
  (fun i x out=>some (bif fZ x then .inl (out++[df x]) else .inr ((.inl (((),(false,())),(out,()))):aF rp))) (fun out=>((.inr (((),((),())),(iM s,(out,())))):aF rp))
  (fun i out=>out.length<=i) [] (Nat.le_refl _) (fun i x out hx dz=>?_) (fun out _=>?_)
 ·have fold:∀(r:List F) (k:Nat) (out:List Int),fg (fun i x out=>some (bif fZ x then .inl (out++[df x]) else .inr ((.inl (((),(false,())),(out,()))):aF rp))) (fun out=>((.inr (((),((),())),(iM s,(out,())))):aF rp)) k r out=
    some (bif r.all fZ then(.inr (((),((),())),(iM s,(out++r.map df,())))) else(.inl (((),(false,())),(out++(r.takeWhile fZ).map df,())))):=by
   intro r;induction r with
   |nil=>intro k out;simp[fg]
   |cons x r ih=>
    intro k out;simp only[fg,List.all_cons];cases hn:fZ x with
    |false=>simp[hn]
    |true=>simp only[cond_true,Bool.true_and];rw[ih];simp[hn,List.append_assoc]
  have key:Hn (((),((),((0:Int),()))),(iM s,(([]:List Int),())))=_:=key.trans (fold (iM s) 0 []);simp only[f181,gr,Option.bind_some,key,List.nil_append];unfold ev;cases ol:(iM s).all fZ with
  |false=>exact⟨_,rfl,fun h=>by cases h⟩
  |true=>
   simp only[cond_true,Bool.true_and];have:decide (((iM s).length:Int)<=4)=decide ((iM s).length<=4):=by by_cases h:(iM s).length<=4<;>simp[h]<;>omega
   rw[this];exact⟨_,rfl,fun _=>rfl⟩
 ·have hi:=dj hx;have rX:(iM s).length<=s.length+1:=hlen;have hw:am i:=by unfold am;omega
  have hxl:x.length<=s.length:=zB 46 s x (List.mem_of_getElem? hx);refine⟨?_,fun au ae=>?_⟩
  ·simp only[AS,cn hi,cond_true,gg hi,hx,Option.bind_some];rw[HV _ (show am x.length by unfold am;omega)]
   simp only[Option.bind_some,o7,ac2];cases hn:fZ x with
   |false=>rfl
   |true=>
    have hv:(bif x.all cU&&decide (x.length<=6)&&!(x==[])&&!iN x then df x else-1)=df x:=by
     unfold fZ at hn;simp only[Bool.and_eq_true] at hn;obtain⟨⟨⟨⟨h1,h2⟩,h3⟩,aE⟩,br⟩:=hn;rw[h1,aE,h2,h3];rfl
    simp only[Bool.not_true,cond_false,hv,cond_true];rw[ew (by decide) (by unfold am;simp only[List.length_cons,List.length_nil];omega)]
    simp only[Option.bind_some,b6 hw,Option.map_some]
  ·simp only[Option.some.injEq] at ae;cases hn:fZ x with
   |false=>rw[hn] at ae;cases ae
   |true=>
    rw[hn] at ae;simp only[cond_true,Sum.inl.injEq] at ae;subst ae;simp only[List.length_append,List.length_cons,List.length_nil];omega
 ·simp only[AS,dr,cond_false]
theorem Oz(a)(hs:cN a.1.1.length):f162 a=some ((ev a.1.1,()),()):=by
 obtain⟨out,h,_⟩:=FQ ((a.1.1,()),()) hs;simp only[f162,h,Option.bind_some]
theorem Fb(a)(hs:cN a.1.1.length):f127 a=some (((),((),())),((bif ev a.1.1 then ix a.1.1 else []),(((),()),((ev a.1.1,()),())))):=by
 obtain⟨⟨s,u⟩,b9⟩:=a;have hs:s.length<=2097152:=hs;have Lf:Nat.ble s.length lj=true:=Nat.ble_eq_true_of_le (by unfold lj;omega)
 have fold:∀(r:List F) (out:List Int),(∀x,x∈r->x.length<=s.length)->out.length<=4->
   jg tM wT r (((),((),((),()))),(([]:List Int),(((),()),((false,()),(out,(((),()),()))))))=
    some (bif r.all fZ&&decide (out.length+r.length<=4) then(.inl (((),((),((),()))),(([]:List Int),(((),()),((false,()),(out++r.map df,(((),()),()))))))) else(.inr (((),((),())),(([]:List Int),(((),()),((false,()),())))))):=by
  intro r;induction r with
  |nil=>
   intro out _ ay;have:decide (out.length+0<=4)=true:=by simpa using ay
   simp only[jg,wT,List.all_nil,List.length_nil,this,Bool.and_self,cond_true,List.map_nil,List.append_nil]
  |cons x r ih=>
   intro out hr ay;have hx:=hr x List.mem_cons_self;have apq:=agE ((x,((999:Int),())),()) (show am x.length by unfold am;omega) rfl
   have step:tM x (((),((),((),()))),(([]:List Int),(((),()),((false,()),(out,(((),()),()))))))=
     some (bif fZ x&&decide (out.length+1<=4) then .inl (((),((),((),()))),(([]:List Int),(((),()),((false,()),(out++[df x],(((),()),())))))) else .inr (.inr (((),((),())),(([]:List Int),(((),()),((false,()),())))))):=by
    simp only[tM,apq,Option.bind_some,Gx,Bool.not_not];have aE:((out.length:Int)==4)=!decide (out.length+1<=4):=by
     by_cases h:out.length=4
     ·rw[h];rfl
     ·have br:decide (out.length+1<=4)=true:=by simp only[decide_eq_true_eq];omega
      rw[br];simp only[beq_eq_false_iff_ne,ne_eq,Bool.not_true];omega
    rw[aE];cases hn:fZ x with
    |false=>rfl
    |true=>
     simp only[cond_true,Option.bind_some,Bool.true_and];cases al:decide (out.length+1<=4) with
     |false=>rfl
     |true=>
      simp only[Bool.not_true,cond_false,cond_true];rw[ew (by decide) (by unfold am;simp only[List.length_cons,List.length_nil];omega)]
      rfl
   rw[jg,step,List.all_cons];cases hn:fZ x with
   |false=>rfl
   |true=>
    simp only[Bool.true_and];cases al:decide (out.length+1<=4) with
    |false=>
     have:decide (out.length+(x::r).length<=4)=false:=by simp only[decide_eq_false_iff_not,List.length_cons] at al ⊢;omega
     rw[this];simp
    |true=>
     simp only[cond_true];rw[ih (out++[df x]) (fun y hy=>hr y (List.mem_cons_of_mem _ hy)) (by simp only[List.length_append,List.length_cons,List.length_nil];simpa using al)]
     have e1:(out++[df x]).length+r.length=out.length+(x::r).length:=by simp only[List.length_append,List.length_cons,List.length_nil];omega
     rw[e1,List.map_cons,List.append_assoc];rfl
 have key:=fold (bQ (46:UInt8) s) [] (fun x hx=>zB 46 s x hx) (Nat.zero_le _)
 have K0:jg tM wT (bQ (46:UInt8) s) (((),((),((),()))),(([]:List Int),(((),()),((false,()),(([]:List Int),(((),()),()))))))=
    some (bif ev s then(.inl (((),((),((),()))),(([]:List Int),(((),()),((false,()),(ix s,(((),()),()))))))) else(.inr (((),((),())),(([]:List Int),(((),()),((false,()),())))))):=by
  rw[key];unfold ev ix iM;simp only[List.length_nil,Nat.zero_add,List.nil_append]
 simp only[f127,Lf,cond_true,K0,Option.bind_some];cases ev s<;>rfl
theorem Fe(a)(hs:cN a.1.1.length):f119 a=some ((ev a.1.1,()),()):=by
 simp only[f119,Fb ((a.1.1,()),()) hs,Option.bind_some]
def dB(n:bG):Bool:=ju n.name&&(n.kind==0&&(n.aW==[])||within n.kind 1 3&&ev n.aW)
abbrev yZ(n:bG):Prop:=cN n.name.length/\cN n.aW.length
theorem Q2(a)(h1:cN a.1.1.1.length)(h2:cN a.1.1.2.2.1.length):f233 a=some ((dB ⟨a.1.1.1,a.1.1.2.1,a.1.1.2.2.1⟩,()),()):=by
 obtain⟨⟨⟨n,k,v,u⟩,b9⟩,po⟩:=a;have h1:n.length<=2097152:=h1;have h2:v.length<=2097152:=h2;have e1:=QX ((n,()),()) (show am n.length by unfold am;omega)
 have e2:=Oz ((v,()),()) h2;simp only[f233,e1,e2,o7,Option.bind_some,dB];cases ju n with
 |false=>rfl
 |true=>
  cases hk:(k==0) with
  |false=>
   simp only[cond_true,cond_false];cases within k 1 3<;>cases ev v<;>rfl
  |true=>
   have:within k 1 3=false:=by
    have:k=0:=by simpa using hk
    subst this;decide
   rw[this];cases (v==[])<;>rfl
theorem aeJ{k:Int}(mG:¬k=0)(aw:¬k=1)(an:¬k=2)(bo:¬k=3):within k 1 3=false:=by
 unfold within;cases h:(decide (1<=k)&&decide (k<=3)) with
 |false=>rfl
 |true=>simp only[Bool.and_eq_true,decide_eq_true_eq] at h;omega
theorem zO(a)(h1:cN a.1.1.1.length)(h2:cN a.1.1.2.2.1.length):f121 a=some ((dB ⟨a.1.1.1,a.1.1.2.1,a.1.1.2.2.1⟩,()),()):=by
 obtain⟨⟨⟨n,k,v,u⟩,b9⟩,po⟩:=a;have h1:n.length<=2097152:=h1;have h2:v.length<=2097152:=h2;have e1:=Of ((n,()),()) (show am n.length by unfold am;omega)
 have e2:=Fe ((v,()),()) h2;simp only[f121,e1,e2,Option.bind_some,dB,HI];cases ju n with
 |false=>rfl
 |true=>
  simp only[Bool.not_true,cond_false,Bool.true_and];by_cases mG:k=0
  ·subst mG;cases (v==[])<;>rfl
  ·have pF:(k==0)=false:=by simpa using mG
   rw[pF];by_cases aw:k=1
   ·subst aw;cases hv:ev v<;>simp[within,e2,hv]
   ·have nB:(k==1)=false:=by simpa using aw
    rw[nB];by_cases an:k=2
    ·subst an;cases hv:ev v<;>simp[within,e2,hv]
    ·have hk2:(k==2)=false:=by simpa using an
     rw[hk2];by_cases bo:k=3
     ·subst bo;cases hv:ev v<;>simp[within,e2,hv]
     ·have atH:(k==3)=false:=by simpa using bo
      rw[atH];rw[aeJ mG aw an bo];rfl
noncomputable abbrev amb:bl:=[(121,x6)]
theorem UB:bc Z (bi ak amb):=bj ⟨Dv,⟨⟩⟩
abbrev z_:Shape:=⟨[(1,.ag (.fn 121 [])),aM 7 .need,ad 8,ad 9],[],18⟩
abbrev F2:List aR:=[(.ret,⟨[aC 4],[],18⟩),(.exit 0,⟨[],[],18⟩)]
noncomputable def Aj(y:z_.J):bR z_ F2:=
 bif(decide (y.1.2.2.2.1<y.1.2.2.1)) then
(aQ y.1.2.1 y.1.2.2.2.1).bind fun a=>
(f121 (((a.name,a.kind,a.aW,()),()),())).bind fun b=>
 bif(!b.1.1) then
 some (.inr (.inl ((false,()),())))
else
 some (.inl (((),y.1.2.1,y.1.2.2.1,(IntKind.i64.wrap (y.1.2.2.2.1+(1:Int))),()),()))
else
 some (.inr (.inr ((),())))
noncomputable def Gn:z_.J->Option (aF F2):=bu Aj
theorem afR:aX Z (ap (codeOf Tryz.f120) 1 26) (bb z_ F2 Gn):=bW UB (by kernel_rfl) aj fun y=>by kernel_rfl
abbrev T_:Shape:=⟨[aM 0 .need,(1,.ag (.fn 121 []))],[],18⟩
abbrev TP:Shape:=⟨[aC 4],[],18⟩
noncomputable def CT(a:T_.J):Option TP.J:=
(Gn (((),a.1.1,(a.1.1.length:Int),(0:Int),()),())).bind fun b=>
(match b with
|.inl c=>
 some ((c.1.1,()),())
|.inr d=>
 some ((true,()),()))
noncomputable def Uv:aK:=a6 ak Tryz.f120 T_ TP [] CT
theorem akG:aL Z 120 Uv:=ba UB Tryz.func120 (by kernel_rfl) (bd afR aj) (fun y=>by kernel_rfl) fun a=>by kernel_rfl
abbrev i123:Shape:=⟨[dw 0 [ax,bz,ax]],[],5⟩
abbrev W2:Shape:=⟨[aq 2],[],5⟩
noncomputable def f123(a:i123.J):Option W2.J:=
 some ((a.1.1.1,()),())
noncomputable def YP:aK:=a6 ak Tryz.f123 i123 W2 [] f123
theorem aor:aL Z 123 YP:=ba g0 Tryz.func123 (by kernel_rfl) aj (fun y=>by kernel_rfl) fun a=>by kernel_rfl
abbrev i177:Shape:=⟨[aM 0 .str],[],8⟩
abbrev KR:Shape:=⟨[a' 2 3000128],[bg 3000128 .str 2 0],8⟩
noncomputable def f177(a:i177.J):Option KR.J:=
 rm (t:=.str) a.1.1 (some (((),()),([]:List F),())) ((cw 16 ([]:List F) a.1.1).bind fun b=>
 some (((),()),b,()))
noncomputable def Yu:aK:=a6 ak Tryz.f177 i177 KR [] f177
theorem aoe:aL Z 177 Yu:=ba g0 Tryz.func177 (by kernel_rfl) aj (fun y=>by kernel_rfl) fun a=>by kernel_rfl
abbrev A9:Shape:=⟨[aM 0 .str,aq 1,ad 7,ad 8],[],19⟩
abbrev tB:List aR:=[(.ret,⟨[ad 4],[],19⟩),(.exit 0,⟨[],[],19⟩)]
noncomputable def BM(y:A9.J):bR A9 tB:=
 bif(decide (y.1.2.2.2.1<y.1.2.2.1)) then
(aQ y.1.1 y.1.2.2.2.1).bind fun a=>
 bif(y.1.2.1==a) then
 some (.inr (.inl ((y.1.2.2.2.1,()),())))
else
 some (.inl ((y.1.1,y.1.2.1,y.1.2.2.1,(IntKind.i64.wrap (y.1.2.2.2.1+(1:Int))),()),()))
else
 some (.inr (.inr ((),())))
noncomputable def IR:A9.J->Option (aF tB):=bu BM
theorem ajb:aX Z (ap (codeOf Tryz.f221) 1 26) (bb A9 tB IR):=bW g0 (by kernel_rfl) aj fun y=>by kernel_rfl
abbrev i221:Shape:=⟨[aM 0 .str,aq 1],[],19⟩
abbrev KN:Shape:=⟨[ad 4],[],19⟩
noncomputable def f221(a:i221.J):Option KN.J:=
(IR ((a.1.1,a.1.2.1,(a.1.1.length:Int),(0:Int),()),())).bind fun b=>
(match b with
|.inl c=>
 some ((c.1.1,()),())
|.inr d=>
 some ((((-1):Int),()),()))
noncomputable def X_:aK:=a6 ak Tryz.f221 i221 KN [] f221
theorem an2:aL Z 221 X_:=ba g0 Tryz.func221 (by kernel_rfl) (bd ajb aj) (fun y=>by kernel_rfl) fun a=>by kernel_rfl
noncomputable abbrev aqS:bl:=[(221,X_)]
theorem arG:bc Z (bi ak aqS):=bj ⟨an2,⟨⟩⟩
abbrev i178:Shape:=⟨[aM 0 .str,aq 1],[],9⟩
abbrev WA:Shape:=⟨[aC 4],[],9⟩
noncomputable def f178(a:i178.J):Option WA.J:=
(f221 ((a.1.1,a.1.2.1,()),())).bind fun b=>
 some (((decide (b.1.1>=(0:Int))),()),())
noncomputable def Yt:aK:=a6 ak Tryz.f178 i178 WA [] f178
theorem aod:aL Z 178 Yt:=ba arG Tryz.func178 (by kernel_rfl) aj (fun y=>by kernel_rfl) fun a=>by kernel_rfl
noncomputable abbrev ama:bl:=[(123,YP),(177,Yu),(178,Yt)]
theorem UA:bc Z (bi ak ama):=bj ⟨aor,aoe,aod,⟨⟩⟩
abbrev z8:Shape:=⟨[(1,.ag (.fn 123 [])),a' 7 3000448,aM 12 .need,ad 13,ad 14],[bg 3000448 .str 7 0],30⟩
abbrev tl:List aR:=[(.ret,⟨[aC 6],[],30⟩),(.exit 0,⟨[],[],30⟩)]
noncomputable def Ai(y:z8.J):bR z8 tl:=
 bif(decide (y.1.2.2.2.2.1<y.1.2.2.2.1)) then
(aQ y.1.2.2.1 y.1.2.2.2.2.1).bind fun a=>
(f123 (((a.name,a.kind,a.aW,()),()),())).bind fun b=>
(f178 ((y.2.1,b.1.1,()),())).bind fun c=>
 bif c.1.1 then
 some (.inr (.inl ((true,()),())))
else
(f123 (((a.name,a.kind,a.aW,()),()),())).bind fun d=>
(cw 16 y.2.1 ([d.1.1]:List F)).bind fun e=>
 some (.inl (((),(),y.1.2.2.1,y.1.2.2.2.1,(IntKind.i64.wrap (y.1.2.2.2.2.1+(1:Int))),()),e,()))
else
 some (.inr (.inr ((),())))
noncomputable def Gm:z8.J->Option (aF tl):=bu Ai
theorem afQ:aX Z (ap (codeOf Tryz.f122) 1 58) (bb z8 tl Gm):=bW UA (by kernel_rfl) aj fun y=>by kernel_rfl
abbrev T9:Shape:=⟨[aM 0 .need,(1,.ag (.fn 123 [])),aM 2 .str],[],30⟩
abbrev TO:Shape:=⟨[aC 6],[],30⟩
noncomputable def CS(a:T9.J):Option TO.J:=
(f177 ((a.1.2.2.1,()),())).bind fun b=>
(Gm (((),(),a.1.1,(a.1.1.length:Int),(0:Int),()),b.2.1,())).bind fun c=>
(match c with
|.inl d=>
 some ((d.1.1,()),())
|.inr e=>
 some ((false,()),()))
noncomputable def Uu:aK:=a6 ak Tryz.f122 T9 TO [] CS
theorem akF:aL Z 122 Uu:=ba UA Tryz.func122 (by kernel_rfl) (bd afQ aj) (fun y=>by kernel_rfl) fun a=>by kernel_rfl
noncomputable abbrev aqx:bl:=[(233,Ly)]
theorem Y1:bc Z (bi ak aqx):=bj ⟨z233,⟨⟩⟩
abbrev A_:Shape:=⟨[aM 0 .need,ad 3],[],19⟩
abbrev H8:List aR:=[(.ret,⟨[aC 2],[],19⟩),(.exit 0,⟨[aM 0 .need],[],19⟩)]
noncomputable def BN(y:A_.J):bR A_ H8:=
 bif(decide (y.1.2.1<(y.1.1.length:Int))) then
(aQ y.1.1 y.1.2.1).bind fun a=>
(f233 (((a.name,a.kind,a.aW,()),()),())).bind fun b=>
 bif(!b.1.1) then
 some (.inr (.inl ((false,()),())))
else
 some (.inl ((y.1.1,(IntKind.i64.wrap (y.1.2.1+(1:Int))),()),()))
else
 some (.inr (.inr ((y.1.1,()),())))
noncomputable def IS:A_.J->Option (aF H8):=bu BN
theorem ajc:aX Z (ap (codeOf Tryz.f215) 1 26) (bb A_ H8 IS):=bW Y1 (by kernel_rfl) aj fun y=>by kernel_rfl
abbrev i215:Shape:=⟨[aM 0 .need],[],19⟩
abbrev Wh:Shape:=⟨[aC 2],[],19⟩
noncomputable def f215(a:i215.J):Option Wh.J:=
(IS ((a.1.1,(0:Int),()),())).bind fun b=>
(match b with
|.inl c=>
 some ((c.1.1,()),())
|.inr d=>
 some (((decide ((d.1.1.length:Int)<=(6:Int))),()),()))
noncomputable def Ya:aK:=a6 ak Tryz.f215 i215 Wh [] f215
theorem an3:aL Z 215 Ya:=ba Y1 Tryz.func215 (by kernel_rfl) (bd ajc aj) (fun y=>by kernel_rfl) fun a=>by kernel_rfl
abbrev As:Shape:=⟨[aM 0 .str,ad 3,ad 4],[],25⟩
abbrev GI:List aR:=[(.ret,⟨[aC 2],[],25⟩),(.exit 2,⟨[aM 0 .str,ad 3],[],25⟩)]
noncomputable def AN(y:As.J):bR As GI:=
 bif(decide (y.1.2.2.1<y.1.2.1)) then
(aQ y.1.1 y.1.2.2.1).bind fun a=>
(aQ y.1.1 y.1.2.1).bind fun b=>
 bif(a==b) then
 some (.inr (.inl ((true,()),())))
else
 some (.inl ((y.1.1,y.1.2.1,(IntKind.i64.wrap (y.1.2.2.1+(1:Int))),()),()))
else
 some (.inr (.inr ((y.1.1,y.1.2.1,()),())))
noncomputable def G_:As.J->Option (aF GI):=bu AN
theorem ahd:aX Z (ap (di (ap (codeOf Tryz.f99) 1 26)) 52 1682) (bb As GI G_):=bW g0 (by kernel_rfl) aj fun y=>by kernel_rfl
abbrev Cg:Shape:=⟨[aM 0 .str,ad 3],[],25⟩
abbrev Jt:List aR:=[(.ret,⟨[aC 2],[],25⟩),(.exit 0,⟨[],[],25⟩)]
noncomputable def CC(y:Cg.J):bR Cg Jt:=
 bif(decide (y.1.2.1<(y.1.1.length:Int))) then
(G_ ((y.1.1,y.1.2.1,(0:Int),()),())).bind fun a=>
(match a with
|.inl b=>
 some (.inr (.inl ((b.1.1,()),())))
|.inr c=>
 some (.inl ((c.1.1,(IntKind.i64.wrap (c.1.2.1+(1:Int))),()),())))
else
 some (.inr (.inr ((),())))
noncomputable def JN:Cg.J->Option (aF Jt):=bu CC
theorem ak0:aX Z (ap (codeOf Tryz.f99) 1 26) (bb Cg Jt JN):=bW g0 (by kernel_rfl) (bd ahd aj) fun y=>by kernel_rfl
abbrev i99:Shape:=⟨[aM 0 .str],[],25⟩
abbrev Zo:Shape:=⟨[aC 2],[],25⟩
noncomputable def f99(a:i99.J):Option Zo.J:=
(JN ((a.1.1,(0:Int),()),())).bind fun b=>
(match b with
|.inl c=>
 some ((c.1.1,()),())
|.inr d=>
 some ((false,()),()))
noncomputable def _F:aK:=a6 ak Tryz.f99 i99 Zo [] f99
theorem arX:aL Z 99 _F:=ba g0 Tryz.func99 (by kernel_rfl) (bd ak0 aj) (fun y=>by kernel_rfl) fun a=>by kernel_rfl
noncomputable abbrev aqT:bl:=[(99,_F),(215,Ya)]
theorem Y8:bc Z (bi ak aqT):=bj ⟨arX,an3,⟨⟩⟩
abbrev Bj:Shape:=⟨[aM 1 .need,a' 5 3000320,ad 6],[bg 3000320 .str 5 0],30⟩
abbrev AV:List aR:=[(.exit 0,⟨[aM 1 .need,a' 5 3000320],[bg 3000320 .str 5 0],30⟩)]
noncomputable def BT(y:Bj.J):bR Bj AV:=
 bif(decide (y.1.2.2.1<(y.1.1.length:Int))) then
(aQ y.1.1 y.1.2.2.1).bind fun a=>
(cw 16 y.2.1 ([a.name]:List F)).bind fun b=>
 some (.inl ((y.1.1,(),(IntKind.i64.wrap (y.1.2.2.1+(1:Int))),()),b,()))
else
 some (.inr ((y.1.1,(),()),y.2.1,()))
noncomputable def IY:Bj.J->Option (aF AV):=bu BT
theorem ajq:aX Z (ap (codeOf Tryz.f163) 1 58) (bb Bj AV IY):=bW Y8 (by kernel_rfl) aj fun y=>by kernel_rfl
abbrev i163:Shape:=⟨[aq 0,aM 1 .need],[],30⟩
abbrev WC:Shape:=⟨[aC 4],[],30⟩
noncomputable def f163(a:i163.J):Option WC.J:=
(IY ((a.1.2.1,(),(0:Int),()),([a.1.1]:List F),())).bind fun b=>
(f215 ((b.1.1,()),())).bind fun c=>
 bif c.1.1 then
(f99 ((b.2.1,()),())).bind fun d=>
 some (((!d.1.1),()),())
else
 some ((false,()),())
noncomputable def Yw:aK:=a6 ak Tryz.f163 i163 WC [] f163
theorem aof:aL Z 163 Yw:=ba Y8 Tryz.func163 (by kernel_rfl) (bd ajq aj) (fun y=>by kernel_rfl) fun a=>by kernel_rfl
abbrev uZ(ns:List bG):Prop:=cN ns.length/\∀n,n∈ns->yZ n
theorem DB(n:Nat)(k:Nat):decide ((n:Int)<=(k:Int))=decide (n<=k):=by by_cases h:n<=k<;>simp[h]<;>omega
theorem aeP(a)(hs:uZ a.1.1):f215 a=some ((a.1.1.all dB&&decide (a.1.1.length<=6),()),()):=by
 obtain⟨⟨ns,u⟩,b9⟩:=a;obtain⟨hl,hn⟩:=hs;have hl:ns.length<=2097152:=hl;have key:IS ((ns,((0:Int),())),())=some (bif allI (fun _ n=>dB n) 0 ns then .inr ((ns,()),()) else .inl ((false,()),())):=by
  refine gS BN ns (fun i=>((ns,((i:Int),())),())) _ _ _ (fun i x hx=>?_) ?_
  ·have hi:=dj hx;have hw:am i:=by unfold am;omega
   have hb:=hn x (List.mem_of_getElem? hx);simp only[BN,cn hi,cond_true,cc,hx,Option.bind_some];rw[Q2 _ hb.1 hb.2];simp only[Option.bind_some,b6 hw];cases dB x<;>rfl
  ·simp only[BN,dr,cond_false]
 rw[hZ] at key;simp only[f215,key,Option.bind_some];cases List.all ns dB with
 |false=>rfl
 |true=>have:=DB ns.length 6;simp only[cond_true,Bool.true_and];rw[<-this];rfl
theorem ae0(a)(hs:uZ a.1.1):CT a=some ((a.1.1.all dB,()),()):=by
 obtain⟨⟨ns,u⟩,b9⟩:=a;obtain⟨hl,hn⟩:=hs;have hl:ns.length<=2097152:=hl;have key:Gn (((),(ns,((ns.length:Int),((0:Int),())))),())=some (bif allI (fun _ n=>dB n) 0 ns then .inr ((),()) else .inl ((false,()),())):=by
  refine gS Aj ns (fun i=>(((),(ns,((ns.length:Int),((i:Int),())))),())) _ _ _ (fun i x hx=>?_) ?_
  ·have hi:=dj hx;have hw:am i:=by unfold am;omega
   have hb:=hn x (List.mem_of_getElem? hx);simp only[Aj,cn hi,cond_true,cc,hx,Option.bind_some];rw[zO _ hb.1 hb.2];simp only[Option.bind_some,b6 hw];cases dB x<;>rfl
  ·simp only[Aj,dr,cond_false]
 rw[hZ] at key;simp only[CT,key,Option.bind_some];cases List.all ns dB<;>rfl
def kl:List F->List F->Bool
 |_,[]=>false
 |acc,x::r=>acc.contains x||kl (acc++[x]) r
theorem aim(xs:List F):∀(r:List F) (k:Nat),r=xs.drop k->allI (fun i x=>!((xs.take i).contains x)) k r=!kl (xs.take k) r:=by
 intro r;induction r with
 |nil=>intro k _;rfl
 |cons x r ih=>
  intro k hr;have cV:r=xs.drop (k+1):=by
   have:=congrArg List.tail hr;simpa using this
  have hx:xs[k]? =some x:=by
   have:=congrArg (fun l=>l[0]?) hr
   simpa using this.symm
  have e1:xs.take (k+1)=xs.take k++[x]:=by rw[List.take_add_one,hx];rfl
  simp only[allI,kl,ih (k+1) cV,e1,Bool.not_or]
theorem akt(ys:List F)(x:F):ys.all (fun y=>!(y==x))=!ys.contains x:=by
 induction ys with
 |nil=>rfl
 |cons y ys ih=>
  simp only[List.all_cons,ih,List.contains_cons,Bool.not_or];congr 2
  cases h:y==x with
  |true=>rw[eq_of_beq h];simp
  |false=>
   cases h2:x==y with
   |true=>rw[eq_of_beq h2] at h;simp at h
   |false=>rfl
theorem aeO(a)(hs:cN a.1.1.length):f99 a=some ((kl [] a.1.1,()),()):=by
 obtain⟨⟨xs,u⟩,b9⟩:=a;have hs:xs.length<=2097152:=hs;have inner:∀(i:Nat) (x:F),xs[i]? =some x->G_ ((xs,((i:Int),((0:Int),()))),())=some (bif !((xs.take i).contains x) then .inr ((xs,((i:Int),())),()) else .inl ((true,()),())):=by
  intro i x hx;have hi:=dj hx;have hl:(xs.take i).length=i:=by rw[List.length_take];omega
  have:=gS AN (xs.take i) (fun k=>((xs,((i:Int),((k:Int),()))),())) (fun _ y=>!(y==x)) (.inl ((true,()),())) (.inr ((xs,((i:Int),())),())) (fun k y hy=>?_) ?_
  ·have:=this;rw[hZ,akt] at this;exact this
  ·have hk:=dj hy;rw[hl] at hk;have hw:am k:=by unfold am;omega
   have ep:xs[k]? =some y:=by
    rw[List.getElem?_take,if_pos hk] at hy;exact hy
   simp only[AN,cn hk,cond_true,cc,ep,hx,Option.bind_some,b6 hw];cases (y==x)<;>rfl
  ·simp only[AN,hl,dr,cond_false]
 have key:JN ((xs,((0:Int),())),())=some (bif allI (fun i x=>!((xs.take i).contains x)) 0 xs then .inr ((),()) else .inl ((true,()),())):=by
  refine gS CC xs (fun i=>((xs,((i:Int),())),())) _ _ _ (fun i x hx=>?_) ?_
  ·have hi:=dj hx;have hw:am i:=by unfold am;omega
   simp only[CC,cn hi,cond_true,inner i x hx,Option.bind_some];cases (xs.take i).contains x
   ·simp only[Bool.not_false,cond_true,b6 hw]
   ·rfl
  ·simp only[CC,dr,cond_false]
 rw[aim xs xs 0 rfl] at key;simp only[f99,key,Option.bind_some,List.take_zero];cases kl [] xs<;>rfl
def rE(name:F)(ns:List bG):Bool:=ns.all dB&&decide (ns.length<=6)&&!kl [] (name::ns.map (·.name))
theorem aeN(a)(hs:uZ a.1.2.1)(hn:cN a.1.1.length):f163 a=some ((rE a.1.1 a.1.2.1,()),()):=by
 obtain⟨⟨name,ns,u⟩,b9⟩:=a;have hl:ns.length<=2097152:=hs.1;have key:IY ((ns,((),((0:Int),()))),(([name]:List F),()))=some (((ns,((),())),((name::ns.map (·.name)),()))):=by
  have:=af9 BT ns (fun i (out:List F)=>((ns,((),((i:Int),()))),(out,()))) (fun(n:bG) out=>out++[n.name]) (fun out=>(((ns,((),())),(out,())):aF AV)) (fun i out=>out.length=i+1) [name] rfl (fun i x out hx dz=>?_) (fun out _=>?_)
  ·refine this.trans ?_
   have e:∀(r:List bG) (out:List F),r.foldl (fun s x=>s++[x.name]) out=out++r.map (·.name):=by
    intro r;induction r with
    |nil=>intro out;simp
    |cons n r ih=>intro out;simp[ih]
   rw[e];rfl
  ·have hi:=dj hx;have hw:am i:=by unfold am;omega
   refine⟨?_,by simp[dz]⟩
   simp only[BT,cn hi,cond_true,cc,hx,Option.bind_some];rw[ew (by decide) (by unfold am;simp only[List.length_cons,List.length_nil];omega)]
   simp only[Option.bind_some,b6 hw]
  ·simp only[BT,dr,cond_false]
 simp only[f163,key,Option.bind_some];rw[aeP _ hs];simp only[Option.bind_some];unfold rE;cases al:(List.all ns dB&&decide (ns.length<=6)) with
 |false=>rfl
 |true=>
  simp only[Bool.and_eq_true,decide_eq_true_eq] at al;have av0:=aeO ((name::ns.map (·.name),()),()) (show(name::ns.map (·.name)).length<=2097152 by simp only[List.length_cons,List.length_map];omega)
  simp only[cond_true,Bool.true_and,av0,Option.bind_some]
theorem aiL(a)(hs:cN a.1.1.length):∃n:Int,f221 a=some ((n,()),())/\decide (n>=0)=a.1.1.contains a.1.2.1:=by
 obtain⟨⟨xs,x,u⟩,b9⟩:=a;have hs:xs.length<=2097152:=hs;have key:IR ((xs,(x,((xs.length:Int),((0:Int),())))),())=_:=Gc BM xs (fun i (_:Unit)=>((xs,(x,((xs.length:Int),((i:Int),())))),()))
  (fun i y _=>some (bif x==y then .inr ((.inl (((i:Int),()),())):aF tB) else .inl ())) (fun _=>.inr ((),())) (fun i y s hy=>?_) (fun s=>?_) ()
 ·have fold:∀(r:List F) (k:Nat),∃n:Int,(fg (fun i y (_:Unit)=>some (bif x==y then .inr ((.inl (((i:Int),()),())):aF tB) else .inl ())) (fun _=>(.inr ((),()):aF tB)) k r ()).bind (fun aoX=>
    (match aoX with
    |.inl aoW=>some ((aoW.1.1,()),())
    |.inr axp=>some ((((-1):Int),()),()):Option KN.J))=some ((n,()),())/\decide (n>=0)=r.contains x:=by
   intro r;induction r with
   |nil=>intro k;exact⟨-1,rfl,rfl⟩
   |cons y r ih=>
    intro k;simp only[fg,List.contains_cons];cases hxy:x==y with
    |true=>exact⟨k,rfl,by simp⟩
    |false=>
     obtain⟨n,h1,h2⟩:=ih (k+1);exact⟨n,h1,by simpa using h2⟩
  obtain⟨n,h1,h2⟩:=fold xs 0;refine⟨n,?_,h2⟩;simp only[f221];rw[key];exact h1
 ·have hi:=dj hy;have hw:am i:=by unfold am;omega
  simp only[BM,cn hi,cond_true,cc,hy,Option.bind_some,b6 hw];cases x==y<;>rfl
 ·simp only[BM,dr,cond_false]
theorem adG(a)(hs:cN a.1.1.length):f178 a=some ((a.1.1.contains a.1.2.1,()),()):=by
 obtain⟨n,h1,h2⟩:=aiL ((a.1.1,(a.1.2.1,())),()) hs;simp only[f178,h1,Option.bind_some,h2]
theorem agT(a)(hs:cN a.1.1.length):f177 a=some (((),()),(a.1.1,())):=by
 obtain⟨⟨xs,u⟩,b9⟩:=a;have hs:xs.length<=2097152:=hs;have h2:(cw 16 ([]:List F) xs).bind (fun x=>some (((),()),(x,())))=(some (((),()),(xs,())):Option KR.J):=by
  rw[ew (by decide) (by unfold am;simp only[List.length_nil];omega)];rfl
 simp only[f177];rw[h2];unfold rm;split
 ·rfl
 ·rename_i h;exact absurd (fun he:xs=[]=>by subst he;rfl) h
theorem abS(a)(hs:uZ a.1.1)(hm:a.1.2.2.1.length<=1):CS a=some ((kl a.1.2.2.1 (a.1.1.map (·.name)),()),()):=by
 obtain⟨⟨ns,sS,more,u⟩,b9⟩:=a;have hl:ns.length<=2097152:=hs.1;have hm:more.length<=1:=hm;have hc:=agT ((more,()),()) (show more.length<=2097152 by omega)
 have key:(Gm (((),((),(ns,((ns.length:Int),((0:Int),()))))),(more,())))=_:=mN Ai ns (fun i (out:List F)=>(((),((),(ns,((ns.length:Int),((i:Int),()))))),(out,())))
  (fun i (n:bG) out=>some (bif out.contains n.name then .inr ((.inl ((true,()),())):aF tl) else .inl (out++[n.name]))) (fun _=>.inr ((),())) (fun i out=>out.length<=i+1) more (by omega) (fun i x out hx dz=>?_) (fun out _=>?_)
 ·have fold:∀(r:List bG) (k:Nat) (out:List F),(fg (fun i (n:bG) out=>some (bif out.contains n.name then .inr ((.inl ((true,()),())):aF tl) else .inl (out++[n.name]))) (fun _=>(.inr ((),()):aF tl)) k r out)=
    some (bif kl out (r.map (·.name)) then .inl ((true,()),()) else .inr ((),())):=by
   intro r;induction r with
   |nil=>intro k out;rfl
   |cons n r ih=>
    intro k out;simp only[fg,List.map_cons,kl];cases out.contains n.name with
    |true=>rfl
    |false=>simp only[cond_false,Bool.false_or];exact ih _ _
  rw[fold] at key;simp only[CS,hc,Option.bind_some,key];cases kl more (ns.map (·.name))<;>rfl
 ·have hi:=dj hx;have hw:am i:=by unfold am;omega
  refine⟨?_,fun au ae=>?_⟩
  ·simp only[Ai,cn hi,cond_true,cc,hx,Option.bind_some,f123];rw[adG _ (show cN out.length by show out.length<=2097152;omega)]
   simp only[Option.bind_some];cases al:out.contains x.name with
   |true=>rfl
   |false=>
    simp only[cond_false];rw[ew (by decide) (by unfold am;simp only[List.length_cons,List.length_nil];omega)]
    simp only[Option.bind_some,b6 hw,Option.map_some]
  ·simp only[Option.some.injEq] at ae;cases al:out.contains x.name with
   |true=>rw[al] at ae;cases ae
   |false=>
    rw[al] at ae;simp only[cond_false,Sum.inl.injEq] at ae;subst ae;simp only[List.length_append,List.length_cons,List.length_nil];omega
 ·simp only[Ai,dr,cond_false]
abbrev i293:Shape:=⟨[(0,.ag (.d (.int .u8)))],[],29⟩
abbrev VO:Shape:=⟨[aC 2],[],29⟩
noncomputable def f293(a:i293.J):Option VO.J:=
 bif(decide (a.1.1>=(97:Int))) then
 bif(!(decide (a.1.1<=(122:Int)))) then
 bif(decide (a.1.1>=(48:Int))) then
 bif(!(decide (a.1.1<=(57:Int)))) then
 bif(!(a.1.1==(46:Int))) then
 bif(!(a.1.1==(95:Int))) then
 some (((a.1.1==(45:Int)),()),())
else
 some ((true,()),())
else
 some ((true,()),())
else
 some ((true,()),())
else
 bif(!(a.1.1==(46:Int))) then
 bif(!(a.1.1==(95:Int))) then
 some (((a.1.1==(45:Int)),()),())
else
 some ((true,()),())
else
 some ((true,()),())
else
 some ((true,()),())
else
 bif(decide (a.1.1>=(48:Int))) then
 bif(!(decide (a.1.1<=(57:Int)))) then
 bif(!(a.1.1==(46:Int))) then
 bif(!(a.1.1==(95:Int))) then
 some (((a.1.1==(45:Int)),()),())
else
 some ((true,()),())
else
 some ((true,()),())
else
 some ((true,()),())
else
 bif(!(a.1.1==(46:Int))) then
 bif(!(a.1.1==(95:Int))) then
 some (((a.1.1==(45:Int)),()),())
else
 some ((true,()),())
else
 some ((true,()),())
noncomputable def XL:aK:=a6 ak Tryz.f293 i293 VO [] f293
theorem anG:aL Z 293 XL:=ba g0 Tryz.func293 (by kernel_rfl) aj (fun y=>by kernel_rfl) fun a=>by kernel_rfl
noncomputable abbrev aqe:bl:=[(293,XL)]
theorem YW:bc Z (bi ak aqe):=bj ⟨anG,⟨⟩⟩
abbrev A4:Shape:=⟨[aq 0,ad 5,ad 6],[],17⟩
abbrev H3:List aR:=[(.ret,⟨[aC 2],[],17⟩),(.exit 0,⟨[aq 0],[],17⟩)]
noncomputable def BI(y:A4.J):bR A4 H3:=
 bif(decide (y.1.2.2.1<y.1.2.1)) then
(aQ y.1.1 y.1.2.2.1).bind fun a=>
(f293 (((a.toNat:Int),()),())).bind fun b=>
 bif(!b.1.1) then
 some (.inr (.inl ((false,()),())))
else
 some (.inl ((y.1.1,y.1.2.1,(IntKind.i64.wrap (y.1.2.2.1+(1:Int))),()),()))
else
 some (.inr (.inr ((y.1.1,()),())))
noncomputable def IM:A4.J->Option (aF H3):=bu BI
theorem ai5:aX Z (ap (codeOf Tryz.f267) 1 26) (bb A4 H3 IM):=bW YW (by kernel_rfl) aj fun y=>by kernel_rfl
abbrev i267:Shape:=⟨[aq 0],[],17⟩
abbrev VW:Shape:=⟨[aC 2],[],17⟩
noncomputable def f267(a:i267.J):Option VW.J:=
(IM ((a.1.1,(a.1.1.length:Int),(0:Int),()),())).bind fun b=>
(match b with
|.inl c=>
 some ((c.1.1,()),())
|.inr d=>
 some (((!(d.1.1==([]:F))),()),()))
noncomputable def XS:aK:=a6 ak Tryz.f267 i267 VW [] f267
theorem anN:aL Z 267 XS:=ba YW Tryz.func267 (by kernel_rfl) (bd ai5 aj) (fun y=>by kernel_rfl) fun a=>by kernel_rfl
noncomputable abbrev aqv:bl:=[(267,XS)]
theorem arx:bc Z (bi ak aqv):=bj ⟨anN,⟨⟩⟩
abbrev i228:Shape:=⟨[aq 0],[],18⟩
abbrev Wf:Shape:=⟨[aC 2],[],18⟩
noncomputable def f228(a:i228.J):Option Wf.J:=
 bif(decide ((a.1.1.length:Int)<=(10:Int))) then
 bif(!(a.1.1==([46]:F))) then
 bif(!(a.1.1==([46,46]:F))) then
(f267 ((a.1.1,()),())).bind fun b=>
 some ((b.1.1,()),())
else
 some ((false,()),())
else
 some ((false,()),())
else
 some ((false,()),())
noncomputable def X8:aK:=a6 ak Tryz.f228 i228 Wf [] f228
theorem z228:aL Z 228 X8:=ba arx Tryz.func228 (by kernel_rfl) aj (fun y=>by kernel_rfl) fun a=>by kernel_rfl
noncomputable abbrev aqO:bl:=[(228,X8)]
theorem LR:bc Z (bi ak aqO):=bj ⟨z228,⟨⟩⟩
abbrev Ru:Shape:=⟨[a8 2 2 0,a8 3 3 0,aq 4],[a7 2 [jp],a7 3 [bz]],17⟩
abbrev Rd:List aR:=[(.norm,⟨[a8 2 2 0,a8 3 3 0,aC 16],[a7 2 [jp],a7 3 [bz]],17⟩)]
noncomputable def HF(y:Ru.J):Option (aF Rd):=
 bif(!(decide (y.2.2.1.1>(5:Int)))) then
(f228 ((y.1.2.2.1,()),())).bind fun a=>
 some (((),(),(!a.1.1),()),(y.2.1.1,()),(y.2.2.1.1,()),())
else
 some (((),(),true,()),(y.2.1.1,()),(y.2.2.1.1,()),())
theorem ahz:aX Z (ap (kI (ap (codeOf Tryz.f193) 1 58)) 117 938) (bb Ru Rd HF):=c8 LR (by kernel_rfl) aj fun y=>by kernel_rfl
abbrev Bg:Shape:=⟨[a8 2 2 0,a8 3 3 0],[a7 2 [jp],a7 3 [bz]],17⟩
abbrev If:List aR:=[(.norm,⟨[a8 2 2 0],[a7 2 [jp]],17⟩),(.ret,⟨[a8 2 2 0],[a7 2 [jp]],17⟩)]
noncomputable def tK(x:F)(y:Bg.J):bR Bg If:=
(HF (((),(),x,()),(y.2.1.1,()),((IntKind.i64.wrap (y.2.2.1.1+(1:Int))),()),())).bind fun a=>
 bif a.1.2.2.1 then
 some (.inr (.inr (((),()),(false,()),())))
else
 some (.inl (((),(),()),(a.2.1.1,()),(a.2.2.1.1,()),()))
noncomputable def wS(y:Bg.J):Option (aF If):=
 some (.inl (((),()),(y.2.1.1,()),()))
theorem ajn:aX Z (ap (codeOf Tryz.f193) 1 58) (ts 257 6 Bg If tK wS):=ON (fj:=7) LR UX (by kernel_rfl) (bd ahz aj) (by kernel_rfl) (fun x y=>by kernel_rfl) fun y=>by kernel_rfl
abbrev i193:Shape:=⟨[aq 0],[],17⟩
abbrev Wx:Shape:=⟨[a8 2 2 0],[a7 2 [jp]],17⟩
noncomputable def f193(a:i193.J):Option Wx.J:=
(bif Nat.ble a.1.1.length lj then jg tK wS (bQ (47:UInt8) a.1.1) (((),(),()),(false,()),((0:Int),()),()) else none).bind fun b=>
(match b with
|.inl c=>
 some (((),()),(true,()),())
|.inr d=>
 some (((),()),(d.2.1.1,()),()))
noncomputable def LC:aK:=a6 ak Tryz.f193 i193 Wx [] f193
theorem z193:aL Z 193 LC:=ba LR Tryz.func193 (by kernel_rfl) (bd ajn aj) (fun y=>by kernel_rfl) fun a=>by kernel_rfl
abbrev i229:Shape:=⟨[(0,.ag (.d (.int .u8)))],[],9⟩
abbrev We:Shape:=⟨[aC 2],[],9⟩
noncomputable def f229(a:i229.J):Option We.J:=
 bif(decide (a.1.1>=(32:Int))) then
 some (((decide (a.1.1<=(126:Int))),()),())
else
 some ((false,()),())
noncomputable def X7:aK:=a6 ak Tryz.f229 i229 We [] f229
theorem z229:aL Z 229 X7:=ba g0 Tryz.func229 (by kernel_rfl) aj (fun y=>by kernel_rfl) fun a=>by kernel_rfl
noncomputable abbrev aqN:bl:=[(229,X7)]
theorem LQ:bc Z (bi ak aqN):=bj ⟨z229,⟨⟩⟩
abbrev P':Shape:=⟨[aq 0,ad 3,ad 8,ad 9],[],24⟩
abbrev PS:List aR:=[(.norm,⟨[aq 0,ad 8,ad 9,aC 22],[],24⟩)]
noncomputable def Gu(y:P'.J):Option (aF PS):=
(aQ y.1.1 y.1.2.1).bind fun a=>
(f229 (((a.toNat:Int),()),())).bind fun b=>
 bif(!b.1.1) then
(aQ y.1.1 y.1.2.1).bind fun c=>
 some ((y.1.1,y.1.2.2.1,y.1.2.2.2.1,((c.toNat:Int) !=(10:Int)),()),())
else
 some ((y.1.1,y.1.2.2.1,y.1.2.2.2.1,false,()),())
theorem afF:aX Z (ap (di (ap (codeOf Tryz.f194) 1 58)) 116 7474) (bb P' PS Gu):=c8 LQ (by kernel_rfl) aj fun y=>by kernel_rfl
abbrev Bf:Shape:=⟨[aq 0,ad 8,ad 9],[],24⟩
abbrev Ie:List aR:=[(.ret,⟨[aC 2],[],24⟩),(.exit 0,⟨[],[],24⟩)]
noncomputable def BS(y:Bf.J):bR Bf Ie:=
 bif(decide (y.1.2.2.1<y.1.2.1)) then
(Gu ((y.1.1,y.1.2.2.1,y.1.2.1,y.1.2.2.1,()),())).bind fun a=>
 bif a.1.2.2.2.1 then
 some (.inr (.inl ((false,()),())))
else
 some (.inl ((a.1.1,a.1.2.1,(IntKind.i64.wrap (a.1.2.2.1+(1:Int))),()),()))
else
 some (.inr (.inr ((),())))
noncomputable def IX:Bf.J->Option (aF Ie):=bu BS
theorem ajm:aX Z (ap (codeOf Tryz.f194) 1 58) (bb Bf Ie IX):=bW LQ (by kernel_rfl) (bd afF aj) fun y=>by kernel_rfl
abbrev i194:Shape:=⟨[aq 0],[],24⟩
abbrev Ww:Shape:=⟨[aC 2],[],24⟩
noncomputable def f194(a:i194.J):Option Ww.J:=
 bif(decide ((a.1.1.length:Int)>(80:Int))) then
 some ((false,()),())
else
(IX ((a.1.1,(a.1.1.length:Int),(0:Int),()),())).bind fun b=>
(match b with
|.inl c=>
 some ((c.1.1,()),())
|.inr d=>
 some ((true,()),()))
noncomputable def Yp:aK:=a6 ak Tryz.f194 i194 Ww [] f194
theorem z194:aL Z 194 Yp:=ba LQ Tryz.func194 (by kernel_rfl) (bd ajm aj) (fun y=>by kernel_rfl) fun a=>by kernel_rfl
noncomputable abbrev aq9:bl:=[(193,LC),(194,Yp)]
theorem Y_:bc Z (bi ak aq9):=bj ⟨z193,z194,⟨⟩⟩
abbrev Su:Shape:=⟨[a8 1 1 0],[a7 1 [ax,bz,bz,ax]],39⟩
abbrev Sf:List aR:=[(.norm,⟨[a8 1 1 0,aC 16],[a7 1 [ax,bz,bz,ax]],39⟩)]
noncomputable def Je(y:Su.J):Option (aF Sf):=
(f193 ((y.2.1.1,()),())).bind fun a=>
 bif(!(!a.2.1.1)) then
 bif(!(decide (y.2.1.2.2.1<(0:Int)))) then
 some (((),(decide (y.2.1.2.2.1>(7:Int))),()),(y.2.1.1,y.2.1.2.1,y.2.1.2.2.1,y.2.1.2.2.2.1,()),())
else
 some (((),true,()),(y.2.1.1,y.2.1.2.1,y.2.1.2.2.1,y.2.1.2.2.2.1,()),())
else
 some (((),true,()),(y.2.1.1,y.2.1.2.1,y.2.1.2.2.1,y.2.1.2.2.2.1,()),())
theorem ajB:aX Z (ap (codeOf Tryz.f136) 1 12) (bb Su Sf Je):=c8 Y_ (by kernel_rfl) aj fun y=>by kernel_rfl
abbrev i136:Shape:=⟨[dw 0 [ax,bz,bz,ax]],[],39⟩
abbrev WU:Shape:=⟨[aC 2],[],39⟩
noncomputable def f136(a:i136.J):Option WU.J:=
(Je (((),()),(a.1.1.1,a.1.1.2.1,a.1.1.2.2.1,a.1.1.2.2.2.1,()),())).bind fun b=>
 bif b.1.2.1 then
 some ((false,()),())
else
 bif(b.2.1.2.1==(1:Int)) then
 some (((b.2.1.2.2.2.1==([]:F)),()),())
else
 bif(b.2.1.2.1==(2:Int)) then
(f194 ((b.2.1.2.2.2.1,()),())).bind fun c=>
 some ((c.1.1,()),())
else
 bif(b.2.1.2.1==(3:Int)) then
 bif(b.2.1.2.2.1==(0:Int)) then
(f193 ((b.2.1.2.2.2.1,()),())).bind fun d=>
 some ((d.2.1.1,()),())
else
 some ((false,()),())
else
 some ((false,()),())
noncomputable def YJ:aK:=a6 ak Tryz.f136 i136 WU [] f136
theorem aol:aL Z 136 YJ:=ba Y_ Tryz.func136 (by kernel_rfl) (bd ajB aj) (fun y=>by kernel_rfl) fun a=>by kernel_rfl
abbrev i304:Shape:=⟨[(0,.ag (.d (.int .u8)))],[],29⟩
abbrev VJ:Shape:=⟨[aC 2],[],29⟩
noncomputable def f304(a:i304.J):Option VJ.J:=
 bif(decide (a.1.1>=(97:Int))) then
 bif(!(decide (a.1.1<=(122:Int)))) then
 bif(decide (a.1.1>=(48:Int))) then
 bif(!(decide (a.1.1<=(57:Int)))) then
 bif(!(a.1.1==(46:Int))) then
 bif(!(a.1.1==(95:Int))) then
 some (((a.1.1==(45:Int)),()),())
else
 some ((true,()),())
else
 some ((true,()),())
else
 some ((true,()),())
else
 bif(!(a.1.1==(46:Int))) then
 bif(!(a.1.1==(95:Int))) then
 some (((a.1.1==(45:Int)),()),())
else
 some ((true,()),())
else
 some ((true,()),())
else
 some ((true,()),())
else
 bif(decide (a.1.1>=(48:Int))) then
 bif(!(decide (a.1.1<=(57:Int)))) then
 bif(!(a.1.1==(46:Int))) then
 bif(!(a.1.1==(95:Int))) then
 some (((a.1.1==(45:Int)),()),())
else
 some ((true,()),())
else
 some ((true,()),())
else
 some ((true,()),())
else
 bif(!(a.1.1==(46:Int))) then
 bif(!(a.1.1==(95:Int))) then
 some (((a.1.1==(45:Int)),()),())
else
 some ((true,()),())
else
 some ((true,()),())
noncomputable def XH:aK:=a6 ak Tryz.f304 i304 VJ [] f304
theorem anC:aL Z 304 XH:=ba g0 Tryz.func304 (by kernel_rfl) aj (fun y=>by kernel_rfl) fun a=>by kernel_rfl
noncomputable abbrev aqa:bl:=[(91,pO),(304,XH)]
theorem YV:bc Z (bi ak aqa):=bj ⟨z91,anC,⟨⟩⟩
abbrev A1:Shape:=⟨[aq 0,ad 3],[],26⟩
abbrev H0:List aR:=[(.ret,⟨[aC 2],[],26⟩),(.exit 0,⟨[aq 0],[],26⟩)]
noncomputable def BG(y:A1.J):bR A1 H0:=
 bif(decide (y.1.2.1<(y.1.1.length:Int))) then
(aQ y.1.1 y.1.2.1).bind fun a=>
(f304 (((a.toNat:Int),()),())).bind fun b=>
 bif(!b.1.1) then
 some (.inr (.inl ((false,()),())))
else
 some (.inl ((y.1.1,(IntKind.i64.wrap (y.1.2.1+(1:Int))),()),()))
else
 some (.inr (.inr ((y.1.1,()),())))
noncomputable def IJ:A1.J->Option (aF H0):=bu BG
theorem ai2:aX Z (ap (codeOf Tryz.f285) 1 26) (bb A1 H0 IJ):=bW YV (by kernel_rfl) aj fun y=>by kernel_rfl
abbrev i285:Shape:=⟨[aq 0],[],26⟩
abbrev VP:Shape:=⟨[aC 2],[],26⟩
noncomputable def f285(a:i285.J):Option VP.J:=
(IJ ((a.1.1,(0:Int),()),())).bind fun b=>
(match b with
|.inl c=>
 some ((c.1.1,()),())
|.inr d=>
(f91 (((d.1.1.length:Int),(1:Int),(10:Int),()),())).bind fun e=>
 bif e.1.1 then
 bif(!(d.1.1==([46]:F))) then
 some (((!(d.1.1==([46,46]:F))),()),())
else
 some ((false,()),())
else
 some ((false,()),()))
noncomputable def XM:aK:=a6 ak Tryz.f285 i285 VP [] f285
theorem anH:aL Z 285 XM:=ba YV Tryz.func285 (by kernel_rfl) (bd ai2 aj) (fun y=>by kernel_rfl) fun a=>by kernel_rfl
noncomputable abbrev aqg:bl:=[(89,vy),(285,XM)]
theorem YX:bc Z (bi ak aqg):=bj ⟨yb,anH,⟨⟩⟩
abbrev A6:Shape:=⟨[a' 3 3000192,ad 4],[bg 3000192 .str 3 0],25⟩
abbrev H5:List aR:=[(.ret,⟨[aC 2],[],25⟩),(.exit 0,⟨[a' 3 3000192],[bg 3000192 .str 3 0],25⟩)]
noncomputable def BK(y:A6.J):bR A6 H5:=
 bif(decide (y.1.2.1<(y.2.1.length:Int))) then
(aU y.2.1.length y.1.2.1).bind fun a=>
(y.2.1[a]?).bind fun b=>
(f285 ((b,()),())).bind fun c=>
 bif(!c.1.1) then
 some (.inr (.inl ((false,()),())))
else
 some (.inl (((),(IntKind.i64.wrap (y.1.2.1+(1:Int))),()),y.2.1,()))
else
 some (.inr (.inr (((),()),y.2.1,())))
noncomputable def IP:A6.J->Option (aF H5):=bu BK
theorem ai7:aX Z (ap (codeOf Tryz.f252) 1 58) (bb A6 H5 IP):=bW YX (by kernel_rfl) aj fun y=>by kernel_rfl
abbrev i252:Shape:=⟨[aq 0],[],25⟩
abbrev VZ:Shape:=⟨[aC 2],[],25⟩
noncomputable def f252(a:i252.J):Option VZ.J:=
(f89 ((a.1.1,(47:Int),(IntKind.i64.wrap ((a.1.1.length:Int)+(1:Int))),()),())).bind fun b=>
(IP (((),(0:Int),()),b.2.1,())).bind fun c=>
(match c with
|.inl d=>
 some ((d.1.1,()),())
|.inr e=>
 some (((decide ((e.2.1.length:Int)<=(5:Int))),()),()))
noncomputable def XV:aK:=a6 ak Tryz.f252 i252 VZ [] f252
theorem anQ:aL Z 252 XV:=ba YX Tryz.func252 (by kernel_rfl) (bd ai7 aj) (fun y=>by kernel_rfl) fun a=>by kernel_rfl
noncomputable abbrev aqf:bl:=[(91,pO)]
theorem LN:bc Z (bi ak aqf):=bj ⟨z91,⟨⟩⟩
abbrev Rr:Shape:=⟨[aq 0,ad 3],[],25⟩
abbrev Ra:List aR:=[(.norm,⟨[aq 0,ad 3,aC 21],[],25⟩)]
noncomputable def HC(y:Rr.J):Option (aF Ra):=
(aQ y.1.1 y.1.2.1).bind fun a=>
 bif((a.toNat:Int) !=(10:Int)) then
(aQ y.1.1 y.1.2.1).bind fun b=>
(f91 (((IntKind.i64.wrap (b.toNat:Int)),(32:Int),(126:Int),()),())).bind fun c=>
 some ((y.1.1,y.1.2.1,(!c.1.1),()),())
else
 some ((y.1.1,y.1.2.1,false,()),())
theorem aho:aX Z (ap (di (ap (codeOf Tryz.f253) 1 26)) 52 840) (bb Rr Ra HC):=c8 LN (by kernel_rfl) aj fun y=>by kernel_rfl
abbrev A5:Shape:=⟨[aq 0,ad 3],[],25⟩
abbrev H4:List aR:=[(.ret,⟨[aC 2],[],25⟩),(.exit 0,⟨[aq 0],[],25⟩)]
noncomputable def BJ(y:A5.J):bR A5 H4:=
 bif(decide (y.1.2.1<(y.1.1.length:Int))) then
(HC ((y.1.1,y.1.2.1,()),())).bind fun a=>
 bif a.1.2.2.1 then
 some (.inr (.inl ((false,()),())))
else
 some (.inl ((a.1.1,(IntKind.i64.wrap (a.1.2.1+(1:Int))),()),()))
else
 some (.inr (.inr ((y.1.1,()),())))
noncomputable def IN:A5.J->Option (aF H4):=bu BJ
theorem ai6:aX Z (ap (codeOf Tryz.f253) 1 26) (bb A5 H4 IN):=bW LN (by kernel_rfl) (bd aho aj) fun y=>by kernel_rfl
abbrev i253:Shape:=⟨[aq 0],[],25⟩
abbrev VY:Shape:=⟨[aC 2],[],25⟩
noncomputable def f253(a:i253.J):Option VY.J:=
(IN ((a.1.1,(0:Int),()),())).bind fun b=>
(match b with
|.inl c=>
 some ((c.1.1,()),())
|.inr d=>
 some (((decide ((d.1.1.length:Int)<=(80:Int))),()),()))
noncomputable def XU:aK:=a6 ak Tryz.f253 i253 VY [] f253
theorem anP:aL Z 253 XU:=ba LN Tryz.func253 (by kernel_rfl) (bd ai6 aj) (fun y=>by kernel_rfl) fun a=>by kernel_rfl
noncomputable abbrev aqz:bl:=[(91,pO),(252,XV),(253,XU)]
theorem arA:bc Z (bi ak aqz):=bj ⟨z91,anQ,anP,⟨⟩⟩
abbrev i210:Shape:=⟨[dw 0 [ax,bz,bz,ax]],[],42⟩
abbrev Wk:Shape:=⟨[aC 2],[],42⟩
noncomputable def f210(a:i210.J):Option Wk.J:=
(f252 ((a.1.1.1,()),())).bind fun b=>
 bif(!b.1.1) then
 some ((false,()),())
else
 bif(a.1.1.2.1==(1:Int)) then
(f91 ((a.1.1.2.2.1,(0:Int),(7:Int),()),())).bind fun c=>
 bif c.1.1 then
 some (((a.1.1.2.2.2.1==([]:F)),()),())
else
 some ((false,()),())
else
 bif(a.1.1.2.1==(2:Int)) then
(f91 ((a.1.1.2.2.1,(0:Int),(7:Int),()),())).bind fun d=>
 bif d.1.1 then
(f253 ((a.1.1.2.2.2.1,()),())).bind fun e=>
 some ((e.1.1,()),())
else
 some ((false,()),())
else
 bif(a.1.1.2.1==(3:Int)) then
 bif(a.1.1.2.2.1==(0:Int)) then
(f252 ((a.1.1.2.2.2.1,()),())).bind fun f=>
 some ((f.1.1,()),())
else
 some ((false,()),())
else
 some ((false,()),())
noncomputable def Yd:aK:=a6 ak Tryz.f210 i210 Wk [] f210
theorem z210:aL Z 210 Yd:=ba arA Tryz.func210 (by kernel_rfl) aj (fun y=>by kernel_rfl) fun a=>by kernel_rfl
def kG(n:Int):Bool:=(decide (97<=n)&&decide (n<=122))||(decide (48<=n)&&decide (n<=57))||n==46||n==95||n==45
theorem aeU(a):f304 a=some ((kG a.1.1,()),()):=by
 obtain⟨⟨n,u⟩,b9⟩:=a;simp only[f304,kG,ge_iff_le];generalize decide ((97:Int)<=n)=b1;generalize decide (n<=(122:Int))=b2;generalize decide ((48:Int)<=n)=b3;generalize decide (n<=(57:Int))=lR;generalize(n==(46:Int))=zf;generalize(n==(95:Int))=NM;generalize(n==(45:Int))=NL;cases b1<;>cases b2<;>cases b3<;>cases lR<;>cases zf<;>cases NM<;>cases NL<;>rfl
theorem adx(a):f293 a=some ((kG a.1.1,()),()):=by
 obtain⟨⟨n,u⟩,b9⟩:=a;simp only[f293,kG,ge_iff_le];generalize decide ((97:Int)<=n)=b1;generalize decide (n<=(122:Int))=b2;generalize decide ((48:Int)<=n)=b3;generalize decide (n<=(57:Int))=lR;generalize(n==(46:Int))=zf;generalize(n==(95:Int))=NM;generalize(n==(45:Int))=NL;cases b1<;>cases b2<;>cases b3<;>cases lR<;>cases zf<;>cases NM<;>cases NL<;>rfl
def kP(s:F):Bool:=s.all (fun b=>kG b.toNat)&&within s.length 1 10&&!(s==[46])&&!(s==[46,46])
theorem agN(a)(hs:cN a.1.1.length):f285 a=some ((kP a.1.1,()),()):=by
 obtain⟨⟨s,u⟩,b9⟩:=a;have hs:s.length<=2097152:=hs;have key:IJ ((s,((0:Int),())),())=some (bif allI (fun _ b=>kG b.toNat) 0 s then .inr ((s,()),()) else .inl ((false,()),())):=by
  refine gS BG s (fun i=>((s,((i:Int),())),())) _ _ _ (fun i x hx=>?_) ?_
  ·have hi:=dj hx;have hw:am i:=by unfold am;omega
   simp only[BG,cn hi,cond_true,cc,hx,Option.bind_some,aeU,b6 hw];cases kG x.toNat<;>rfl
  ·simp only[BG,dr,cond_false]
 rw[hZ] at key;simp only[f285,key,Option.bind_some,kP];cases List.all s (fun b=>kG b.toNat) with
 |false=>rfl
 |true=>
  simp only[cond_true,o7,Option.bind_some,Bool.true_and];cases within (s.length:Int) 1 10<;>cases (s==[46])<;>rfl
theorem agF(a)(hs:cN a.1.1.length):f228 a=some ((kP a.1.1,()),()):=by
 obtain⟨⟨s,u⟩,b9⟩:=a;have hs:s.length<=2097152:=hs;have key:IM ((s,((s.length:Int),((0:Int),()))),())=some (bif allI (fun _ b=>kG b.toNat) 0 s then .inr ((s,()),()) else .inl ((false,()),())):=by
  refine gS BI s (fun i=>((s,((s.length:Int),((i:Int),()))),())) _ _ _ (fun i x hx=>?_) ?_
  ·have hi:=dj hx;have hw:am i:=by unfold am;omega
   simp only[BI,cn hi,cond_true,cc,hx,Option.bind_some,adx,b6 hw];cases kG x.toNat<;>rfl
  ·simp only[BI,dr,cond_false]
 rw[hZ] at key;have yG:f267 ((s,()),())=some ((List.all s (fun b=>kG b.toNat)&&!(s==([]:F)),()),()):=by
  simp only[f267,key,Option.bind_some];cases List.all s (fun b=>kG b.toNat)<;>rfl
 have h1:decide ((1:Int)<=(s.length:Int))=!(s==([]:F)):=by
  cases s with
  |nil=>rfl
  |cons b r=>
   have:((b::r)==([]:F))=false:=rfl;simp only[List.length_cons];rw[this];simp only[Bool.not_false,decide_eq_true_eq];omega
 simp only[f228,yG,Option.bind_some,kP,within,h1];cases decide ((s.length:Int)<=10)<;>cases (s==[46])<;>cases (s==[46,46])<;>cases List.all s (fun b=>kG b.toNat)<;>cases (s==([]:F))<;>rfl
def gU(s:F):Bool:=(bQ 47 s).all kP&&decide ((bQ 47 s).length<=5)
theorem QZ(a)(hs:cN a.1.1.length):f252 a=some ((gU a.1.1,()),()):=by
 obtain⟨⟨s,u⟩,b9⟩:=a;have hs:s.length<=2097152:=hs;have hlen:=tb 47 s;have gr:f89 ((s,((47:Int),((IntKind.i64.wrap ((s.length:Int)+(1:Int))),()))),())=some (((),()),(bQ 47 s,())):=
  R5 47 _ hs rfl (b6 (by unfold am;omega))
 have key:IP (((),((0:Int),())),(bQ 47 s,()))=some (bif allI (fun _ x=>kP x) 0 (bQ 47 s) then .inr (((),()),(bQ 47 s,())) else .inl ((false,()),())):=by
  refine gS BK (bQ 47 s) (fun i=>(((),((i:Int),())),(bQ 47 s,()))) _ _ _ (fun i x hx=>?_) ?_
  ·have hi:=dj hx;have hw:am i:=by unfold am;omega
   have hxl:x.length<=s.length:=zB 47 s x (List.mem_of_getElem? hx);simp only[BK,cn hi,cond_true,gg hi,hx,Option.bind_some];rw[agN _ (show x.length<=2097152 by omega)]
   simp only[Option.bind_some,b6 hw];cases kP x<;>rfl
  ·simp only[BK,dr,cond_false]
 rw[hZ] at key;simp only[f252,gr,Option.bind_some,key,gU];cases List.all (bQ 47 s) kP with
 |false=>rfl
 |true=>have:=DB (bQ 47 s).length 5;simp only[cond_true,Bool.true_and];rw[<-this];rfl
theorem GG(a)(hs:cN a.1.1.length):f193 a=some (((),()),((gU a.1.1,()),())):=by
 obtain⟨⟨s,u⟩,b9⟩:=a;have hs:s.length<=2097152:=hs;have Lf:Nat.ble s.length lj=true:=Nat.ble_eq_true_of_le (by unfold lj;omega)
 have fold:∀(r:List F) (k:Nat),(∀x,x∈r->x.length<=s.length)->k<=5->
   jg tK wS r (((),((),())),((false,()),(((k:Int),()),())))=
    some (bif r.all kP&&decide (k+r.length<=5) then(.inl (((),()),((false,()),()))) else(.inr (((),()),((false,()),())))):=by
  intro r;induction r with
  |nil=>
   intro k _ hk;have:decide (k+0<=5)=true:=by simpa using hk
   simp only[jg,wS,List.all_nil,List.length_nil,this,Bool.and_self,cond_true]
  |cons x r ih=>
   intro k hr hk;have hx:=hr x List.mem_cons_self;have jm:=agF ((x,()),()) (show x.length<=2097152 by omega)
   have hw:=b6 (i:=k) (by unfold am;omega)
   have yH:decide (((k+1:Nat):Int)>5)=!decide (k+1<=5):=by by_cases h:k+1<=5<;>simp only[h,decide_true,decide_false,Bool.not_true,Bool.not_false,decide_eq_true_eq,decide_eq_false_iff_not]<;>omega
   have step:tK x (((),((),())),((false,()),(((k:Int),()),())))=
     some (bif kP x&&decide (k+1<=5) then .inl (((),((),())),((false,()),((((k+1:Nat):Int),()),()))) else .inr (.inr (((),()),((false,()),())))):=by
    simp only[tK,HF,hw,yH,Bool.not_not,jm,Option.bind_some];cases decide (k+1<=5) with
    |false=>cases kP x<;>rfl
    |true=>cases kP x<;>rfl
   rw[jg,step,List.all_cons];cases hn:kP x with
   |false=>rfl
   |true=>
    simp only[Bool.true_and];cases al:decide (k+1<=5) with
    |false=>
     have:decide (k+(x::r).length<=5)=false:=by simp only[decide_eq_false_iff_not,List.length_cons] at al ⊢;omega
     rw[this];simp
    |true=>
     simp only[cond_true];rw[ih (k+1) (fun y hy=>hr y (List.mem_cons_of_mem _ hy)) (by simpa using al)]
     have e1:k+1+r.length=k+(x::r).length:=by simp only[List.length_cons];omega
     rw[e1]
 have key:=fold (bQ (47:UInt8) s) 0 (fun x hx=>zB 47 s x hx) (Nat.zero_le _)
 have K0:jg tK wS (bQ (47:UInt8) s) (((),((),())),((false,()),(((0:Int),()),())))=some (bif gU s then(.inl (((),()),((false,()),()))) else(.inr (((),()),((false,()),())))):=by
  refine key.trans ?_
  unfold gU;rw[Nat.zero_add]
 simp only[f193,Lf,cond_true,K0,Option.bind_some];cases gU s<;>rfl
def o8(s:F):Bool:=s.all (fun b=>(b.toNat:Int)==10||within b.toNat 32 126)&&decide (s.length<=80)
theorem aeI(b:UInt8):IntKind.i64.wrap (b.toNat:Int)=(b.toNat:Int):=by
 have:=b.toNat_lt;rw[c' (by omega) (by omega)]
theorem agK(a)(hs:cN a.1.1.length):f253 a=some ((o8 a.1.1,()),()):=by
 obtain⟨⟨s,u⟩,b9⟩:=a;have hs:s.length<=2097152:=hs;have key:IN ((s,((0:Int),())),())=some (bif allI (fun _ b=>(b.toNat:Int)==10||within b.toNat 32 126) 0 s then .inr ((s,()),()) else .inl ((false,()),())):=by
  refine gS BJ s (fun i=>((s,((i:Int),())),())) _ _ _ (fun i x hx=>?_) ?_
  ·have hi:=dj hx;have hw:am i:=by unfold am;omega
   have hne:((x.toNat:Int) !=10)=!((x.toNat:Int)==10):=rfl;simp only[BJ,cn hi,cond_true,HC,cc,hx,Option.bind_some,hne,o7,aeI];cases ((x.toNat:Int)==10)<;>cases within (x.toNat:Int) 32 126<;>simp only[Bool.not_true,Bool.not_false,cond_true,cond_false,Option.bind_some,b6 hw,Bool.or_true,Bool.true_or,Bool.or_false]
  ·simp only[BJ,dr,cond_false]
 rw[hZ] at key;simp only[f253,key,Option.bind_some,o8];cases List.all s (fun b=>(b.toNat:Int)==10||within b.toNat 32 126) with
 |false=>rfl
 |true=>have:=DB s.length 80;simp only[cond_true,Bool.true_and];rw[<-this];rfl
theorem acz(a):f229 a=some ((within a.1.1 32 126,()),()):=by
 simp only[f229,within,ge_iff_le];cases decide ((32:Int)<=a.1.1)<;>rfl
theorem adC(a)(hs:cN a.1.1.length):f194 a=some ((o8 a.1.1,()),()):=by
 obtain⟨⟨s,u⟩,b9⟩:=a;have hs:s.length<=2097152:=hs;have key:IX ((s,((s.length:Int),((0:Int),()))),())=some (bif allI (fun _ b=>(b.toNat:Int)==10||within b.toNat 32 126) 0 s then .inr ((),()) else .inl ((false,()),())):=by
  refine gS BS s (fun i=>((s,((s.length:Int),((i:Int),()))),())) _ _ _ (fun i x hx=>?_) ?_
  ·have hi:=dj hx;have hw:am i:=by unfold am;omega
   have hne:((x.toNat:Int) !=10)=!((x.toNat:Int)==10):=rfl;simp only[BS,cn hi,cond_true,Gu,cc,hx,Option.bind_some,hne,acz];cases ((x.toNat:Int)==10)<;>cases within (x.toNat:Int) 32 126<;>simp only[Bool.not_true,Bool.not_false,cond_true,cond_false,Option.bind_some,b6 hw,Bool.or_true,Bool.true_or,Bool.or_false]
  ·simp only[BS,dr,cond_false]
 rw[hZ] at key;have auh:decide ((s.length:Int)>80)=!decide (s.length<=80):=by by_cases h:s.length<=80<;>simp only[h,decide_true,decide_false,Bool.not_true,Bool.not_false,decide_eq_true_eq,decide_eq_false_iff_not]<;>omega
 simp only[f194,key,Option.bind_some,o8,auh];cases decide (s.length<=80)<;>cases List.all s (fun b=>(b.toNat:Int)==10||within b.toNat 32 126)<;>rfl
def fh(e:aG):Bool:=gU e.path&&(bif e.kind==1 then within e.mode 0 7&&e.text==[] else bif e.kind==2 then within e.mode 0 7&&o8 e.text else bif e.kind==3 then e.mode==0&&gU e.text else false)
abbrev mD(e:aG):Prop:=cN e.path.length/\cN e.text.length
theorem aeS(a)(h1:cN a.1.1.1.length)(h2:cN a.1.1.2.2.2.1.length):f210 a=some ((fh ⟨a.1.1.1,a.1.1.2.1,a.1.1.2.2.1,a.1.1.2.2.2.1⟩,()),()):=by
 obtain⟨⟨⟨p,k,m,t,u⟩,b9⟩,po⟩:=a;have e1:=QZ ((p,()),()) h1;have e2:=QZ ((t,()),()) h2;have bp:=agK ((t,()),()) h2;simp only[f210,e1,e2,bp,o7,Option.bind_some,fh];cases gU p with
 |false=>rfl
 |true=>cases (k==1)<;>cases (k==2)<;>cases (k==3)<;>cases within m 0 7<;>cases (m==0)<;>rfl
theorem aeY(a)(h1:cN a.1.1.1.length)(h2:cN a.1.1.2.2.2.1.length):f136 a=some ((fh ⟨a.1.1.1,a.1.1.2.1,a.1.1.2.2.1,a.1.1.2.2.2.1⟩,()),()):=by
 obtain⟨⟨⟨p,k,m,t,u⟩,b9⟩,po⟩:=a;have e1:=GG ((p,()),()) h1;have e2:=GG ((t,()),()) h2;have bp:=adC ((t,()),()) h2;have hm:within m 0 7=true\/(m==0)=false:=by
  cases h:(m==0) with
  |false=>exact .inr rfl
  |true=>left;rw[show m=(0:Int) from eq_of_beq h];rfl
 simp only[f136,Je,e1,e2,bp,Option.bind_some,fh,pM,oC,Bool.not_not];unfold within at hm ⊢;cases gU p with
 |false=>rfl
 |true=>
  cases h0:decide ((0:Int)<=m)<;>cases jo:decide (m<=7)<;>rw[h0,jo] at hm<;>cases _u:(m==0)<;>rw[_u] at hm<;>
   first|(simp at hm;done)|(simp only[Bool.not_true,Bool.not_false,cond_true,cond_false,Option.bind_some,_u,e2,bp,Bool.and_true,Bool.and_false,Bool.true_and,Bool.false_and];cases (k==1)<;>cases (k==2)<;>cases (k==3)<;>rfl)
abbrev i175:Shape:=⟨[aq 0],[],6⟩
abbrev WB:Shape:=⟨[aC 2],[],6⟩
noncomputable def f175(a:i175.J):Option WB.J:=
 some (((!(a.1.1==a.1.1)),()),())
noncomputable def Yv:aK:=a6 ak Tryz.f175 i175 WB [] f175
theorem z175:aL Z 175 Yv:=ba g0 Tryz.func175 (by kernel_rfl) aj (fun y=>by kernel_rfl) fun a=>by kernel_rfl
noncomputable abbrev arj:bl:=[(175,Yv)]
theorem arR:bc Z (bi ak arj):=bj ⟨z175,⟨⟩⟩
abbrev i110:Shape:=⟨[aq 0,aq 1],[],20⟩
abbrev W':Shape:=⟨[ad 4],[],20⟩
noncomputable def f110(a:i110.J):Option W'.J:=
(f175 ((a.1.1,()),())).bind fun b=>
(f175 ((a.1.2.1,()),())).bind fun c=>
 bif b.1.1 then
 bif c.1.1 then
 some (((0:Int),()),())
else
 some ((((-1):Int),()),())
else
 bif c.1.1 then
 some (((1:Int),()),())
else
 bif(Op.bytesLess a.1.1 a.1.2.1) then
 some ((((-1):Int),()),())
else
 bif(!(Op.bytesLess a.1.1 a.1.2.1||a.1.1==a.1.2.1)) then
 some (((1:Int),()),())
else
 some (((0:Int),()),())
noncomputable def YT:aK:=a6 ak Tryz.f110 i110 W' [] f110
theorem aov:aL Z 110 YT:=ba arR Tryz.func110 (by kernel_rfl) aj (fun y=>by kernel_rfl) fun a=>by kernel_rfl
noncomputable abbrev aq7:bl:=[(110,YT)]
theorem arN:bc Z (bi ak aq7):=bj ⟨aov,⟨⟩⟩
abbrev i139:Shape:=⟨[dw 0 [ax,bz,bz,ax],dw 1 [ax,bz,bz,ax]],[],10⟩
abbrev WS:Shape:=⟨[ad 4],[],10⟩
noncomputable def f139(a:i139.J):Option WS.J:=
(f110 ((a.1.1.1,a.1.2.1.1,()),())).bind fun b=>
 some ((b.1.1,()),())
noncomputable def YH:aK:=a6 ak Tryz.f139 i139 WS [] f139
theorem z139:aL Z 139 YH:=ba arN Tryz.func139 (by kernel_rfl) aj (fun y=>by kernel_rfl) fun a=>by kernel_rfl
noncomputable abbrev al9:bl:=[(139,YH)]
theorem Uz:bc Z (bi ak al9):=bj ⟨z139,⟨⟩⟩
abbrev z6:Shape:=⟨[aM 0 .entry,(2,.ag (.fn 139 [])),a8 4 4 0,ad 6,aC 7,ad 8,ad 9,ad 10],[a7 4 [ax,bz,bz,ax]],49⟩
abbrev F0:List aR:=[(.exit 0,⟨[aM 0 .entry,(2,.ag (.fn 139 [])),a8 4 4 0,ad 6,aC 7,ad 8,ad 9],[a7 4 [ax,bz,bz,ax]],49⟩)]
noncomputable def Ag(y:z6.J):bR z6 F0:=
 bif(decide (y.1.2.2.2.2.2.2.1<y.1.2.2.2.2.2.2.2.1)) then
(fM .u64 (IntKind.u64.wrap (IntKind.i64.wrap (y.1.2.2.2.2.2.2.1+y.1.2.2.2.2.2.2.2.1))) (1:Int)).bind fun a=>
(aQ y.1.1 (IntKind.i64.wrap a)).bind fun b=>
(f139 (((b.path,b.kind,b.mode,b.text,()),(y.2.1.1,y.2.1.2.1,y.2.1.2.2.1,y.2.1.2.2.2.1,()),()),())).bind fun c=>
 bif(decide (c.1.1<(0:Int))) then
 some (.inl ((y.1.1,(),(),y.1.2.2.2.1,y.1.2.2.2.2.1,y.1.2.2.2.2.2.1,(IntKind.i64.wrap ((IntKind.i64.wrap a)+(1:Int))),y.1.2.2.2.2.2.2.2.1,()),(y.2.1.1,y.2.1.2.1,y.2.1.2.2.1,y.2.1.2.2.2.1,()),()))
else
 some (.inl ((y.1.1,(),(),y.1.2.2.2.1,y.1.2.2.2.2.1,y.1.2.2.2.2.2.1,y.1.2.2.2.2.2.2.1,(IntKind.i64.wrap a),()),(y.2.1.1,y.2.1.2.1,y.2.1.2.2.1,y.2.1.2.2.2.1,()),()))
else
 some (.inr ((y.1.1,(),(),y.1.2.2.2.1,y.1.2.2.2.2.1,y.1.2.2.2.2.2.1,y.1.2.2.2.2.2.2.1,()),(y.2.1.1,y.2.1.2.1,y.2.1.2.2.1,y.2.1.2.2.2.1,()),()))
noncomputable def Aa:z6.J->Option (aF F0):=bu Ag
theorem afN:aX Z (ap (codeOf Tryz.f138) 1 60) (bb z6 F0 Aa):=bW Uz (by kernel_rfl) aj fun y=>by kernel_rfl
abbrev T8:Shape:=⟨[aM 0 .entry,dw 1 [ax,bz,bz,ax],(2,.ag (.fn 139 []))],[],49⟩
abbrev TN:Shape:=⟨[ad 6,aC 7],[],49⟩
noncomputable def CR(a:T8.J):Option TN.J:=
(Aa ((a.1.1,(),(),(0:Int),false,(a.1.1.length:Int),(0:Int),(a.1.1.length:Int),()),(a.1.2.1.1,a.1.2.1.2.1,a.1.2.1.2.2.1,a.1.2.1.2.2.2.1,()),())).bind fun b=>
 bif(decide (b.1.2.2.2.2.2.2.1<b.1.2.2.2.2.2.1)) then
(aQ b.1.1 b.1.2.2.2.2.2.2.1).bind fun c=>
(f139 (((c.path,c.kind,c.mode,c.text,()),(b.2.1.1,b.2.1.2.1,b.2.1.2.2.1,b.2.1.2.2.2.1,()),()),())).bind fun d=>
 some ((b.1.2.2.2.2.2.2.1,(d.1.1==(0:Int)),()),())
else
 some ((b.1.2.2.2.2.2.2.1,false,()),())
noncomputable def Ut:aK:=a6 ak Tryz.f138 T8 TN [] CR
theorem akE:aL Z 138 Ut:=ba Uz Tryz.func138 (by kernel_rfl) (bd afN aj) (fun y=>by kernel_rfl) fun a=>by kernel_rfl
abbrev Bn:Shape:=⟨[aM 0 .entry,aq 1,ad 4,aC 5,ad 6],[],36⟩
abbrev tC:List aR:=[(.exit 0,⟨[aM 0 .entry,aq 1,ad 4,aC 5,ad 6],[],36⟩)]
noncomputable def BX(y:Bn.J):bR Bn tC:=
 bif(decide (y.1.2.2.2.2.1<(y.1.1.length:Int))) then
(aQ y.1.1 y.1.2.2.2.2.1).bind fun a=>
 bif(Op.bytesLess a.path y.1.2.1) then
 some (.inl ((y.1.1,y.1.2.1,y.1.2.2.1,y.1.2.2.2.1,(IntKind.i64.wrap (y.1.2.2.2.2.1+(1:Int))),()),()))
else
 some (.inr ((y.1.1,y.1.2.1,y.1.2.2.1,y.1.2.2.2.1,y.1.2.2.2.2.1,()),()))
else
 some (.inr ((y.1.1,y.1.2.1,y.1.2.2.1,y.1.2.2.2.1,y.1.2.2.2.2.1,()),()))
noncomputable def I2:Bn.J->Option (aF tC):=bu BX
theorem aju:aX Z (ap (codeOf Tryz.f157) 1 28) (bb Bn tC I2):=bW g0 (by kernel_rfl) aj fun y=>by kernel_rfl
abbrev i157:Shape:=⟨[aM 0 .entry,aq 1],[],36⟩
abbrev WG:Shape:=⟨[ad 4,aC 5],[],36⟩
noncomputable def f157(a:i157.J):Option WG.J:=
(I2 ((a.1.1,a.1.2.1,(0:Int),false,(0:Int),()),())).bind fun b=>
 bif(decide (b.1.2.2.2.2.1<(b.1.1.length:Int))) then
(aQ b.1.1 b.1.2.2.2.2.1).bind fun c=>
 some ((b.1.2.2.2.2.1,(c.path==b.1.2.1),()),())
else
 some ((b.1.2.2.2.2.1,false,()),())
noncomputable def LH:aK:=a6 ak Tryz.f157 i157 WG [] f157
theorem z157:aL Z 157 LH:=ba g0 Tryz.func157 (by kernel_rfl) (bd aju aj) (fun y=>by kernel_rfl) fun a=>by kernel_rfl
abbrev A3:Shape:=⟨[aq 0,(1,.ag (.d (.int .u8))),ad 5],[],19⟩
abbrev H2:List aR:=[(.ret,⟨[ad 4],[],19⟩),(.exit 0,⟨[],[],19⟩)]
noncomputable def Jb(y:A3.J):bR A3 H2:=
 bif(decide (y.1.2.2.1>=(0:Int))) then
(aQ y.1.1 y.1.2.2.1).bind fun a=>
 bif((a.toNat:Int)==y.1.2.1) then
 some (.inr (.inl ((y.1.2.2.1,()),())))
else
 some (.inl ((y.1.1,y.1.2.1,(IntKind.i64.wrap (y.1.2.2.1-(1:Int))),()),()))
else
 some (.inr (.inr ((),())))
noncomputable def IL:A3.J->Option (aF H2):=bu Jb
theorem ai4:aX Z (ap (codeOf Tryz.f268) 1 26) (bb A3 H2 IL):=bW g0 (by kernel_rfl) aj fun y=>by kernel_rfl
abbrev i268:Shape:=⟨[aq 0,(1,.ag (.d (.int .u8)))],[],19⟩
abbrev VV:Shape:=⟨[ad 4],[],19⟩
noncomputable def f268(a:i268.J):Option VV.J:=
(IL ((a.1.1,a.1.2.1,(IntKind.i64.wrap ((a.1.1.length:Int)-(1:Int))),()),())).bind fun b=>
(match b with
|.inl c=>
 some ((c.1.1,()),())
|.inr d=>
 some ((((-1):Int),()),()))
noncomputable def XR:aK:=a6 ak Tryz.f268 i268 VV [] f268
theorem anM:aL Z 268 XR:=ba g0 Tryz.func268 (by kernel_rfl) (bd ai4 aj) (fun y=>by kernel_rfl) fun a=>by kernel_rfl
noncomputable abbrev aqu:bl:=[(268,XR)]
theorem arw:bc Z (bi ak aqu):=bj ⟨anM,⟨⟩⟩
abbrev i230:Shape:=⟨[aq 0,(1,.ag (.d (.int .u8)))],[],8⟩
abbrev Wd:Shape:=⟨[ad 4],[],8⟩
noncomputable def f230(a:i230.J):Option Wd.J:=
(f268 ((a.1.1,a.1.2.1,()),())).bind fun b=>
 some ((b.1.1,()),())
noncomputable def X6:aK:=a6 ak Tryz.f230 i230 Wd [] f230
theorem an0:aL Z 230 X6:=ba arw Tryz.func230 (by kernel_rfl) aj (fun y=>by kernel_rfl) fun a=>by kernel_rfl
noncomputable abbrev aqM:bl:=[(193,LC),(230,X6)]
theorem arE:bc Z (bi ak aqM):=bj ⟨z193,an0,⟨⟩⟩
abbrev i195:Shape:=⟨[aq 0],[],11⟩
abbrev Wv:Shape:=⟨[aq 2],[],11⟩
noncomputable def f195(a:i195.J):Option Wv.J:=
(f193 ((a.1.1,()),())).bind fun b=>
 bif(!b.2.1.1) then
 some ((([]:F),()),())
else
(f230 ((a.1.1,(47:Int),()),())).bind fun c=>
(bD a.1.1 (0:Int) (h9 c.1.1 (0:Int))).bind fun d=>
 some ((d,()),())
noncomputable def Yo:aK:=a6 ak Tryz.f195 i195 Wv [] f195
theorem aoa:aL Z 195 Yo:=ba arE Tryz.func195 (by kernel_rfl) aj (fun y=>by kernel_rfl) fun a=>by kernel_rfl
noncomputable abbrev aqy:bl:=[(157,LH)]
theorem arz:bc Z (bi ak aqy):=bj ⟨z157,⟨⟩⟩
abbrev i211:Shape:=⟨[aM 0 .entry,aq 1],[],26⟩
abbrev Wj:Shape:=⟨[aC 4],[],26⟩
noncomputable def f211(a:i211.J):Option Wj.J:=
(f157 ((a.1.1,a.1.2.1,()),())).bind fun b=>
 bif(!(a.1.2.1==([]:F))) then
 bif b.1.2.1 then
(aQ a.1.1 b.1.1).bind fun c=>
 some (((c.kind==(1:Int)),()),())
else
 some ((false,()),())
else
 some ((true,()),())
noncomputable def Yc:aK:=a6 ak Tryz.f211 i211 Wj [] f211
theorem an4:aL Z 211 Yc:=ba arz Tryz.func211 (by kernel_rfl) aj (fun y=>by kernel_rfl) fun a=>by kernel_rfl
abbrev A':Shape:=⟨[aq 0,ad 3],[],18⟩
abbrev H9:List aR:=[(.ret,⟨[aq 2],[],18⟩),(.exit 0,⟨[],[],18⟩)]
noncomputable def Jd(y:A'.J):bR A' H9:=
 bif(decide (y.1.2.1>=(0:Int))) then
(aQ y.1.1 y.1.2.1).bind fun a=>
 bif((a.toNat:Int)==(47:Int)) then
(bD y.1.1 (0:Int) y.1.2.1).bind fun b=>
 some (.inr (.inl ((b,()),())))
else
 some (.inl ((y.1.1,(IntKind.i64.wrap (y.1.2.1-(1:Int))),()),()))
else
 some (.inr (.inr ((),())))
noncomputable def IT:A'.J->Option (aF H9):=bu Jd
theorem ajd:aX Z (ap (codeOf Tryz.f212) 1 26) (bb A' H9 IT):=bW g0 (by kernel_rfl) aj fun y=>by kernel_rfl
abbrev i212:Shape:=⟨[aq 0],[],18⟩
abbrev Wi:Shape:=⟨[aq 2],[],18⟩
noncomputable def f212(a:i212.J):Option Wi.J:=
(IT ((a.1.1,(IntKind.i64.wrap ((a.1.1.length:Int)-(1:Int))),()),())).bind fun b=>
(match b with
|.inl c=>
 some ((c.1.1,()),())
|.inr d=>
 some ((([]:F),()),()))
noncomputable def Yb:aK:=a6 ak Tryz.f212 i212 Wi [] f212
theorem z212:aL Z 212 Yb:=ba g0 Tryz.func212 (by kernel_rfl) (bd ajd aj) (fun y=>by kernel_rfl) fun a=>by kernel_rfl
noncomputable abbrev avc:bl:=[(138,Ut)]
theorem avD:bc Z (bi ak avc):=bj ⟨akE,⟨⟩⟩
abbrev i87:Shape:=⟨[aM 0 .entry,aq 1],[],12⟩
abbrev Zy:Shape:=⟨[ad 4,aC 5],[],12⟩
noncomputable def f87(a:i87.J):Option Zy.J:=
(CR ((a.1.1,(a.1.2.1,(0:Int),(0:Int),([]:F),()),(),()),())).bind fun b=>
 some ((b.1.1,b.1.2.1,()),())
noncomputable def Na:aK:=a6 ak Tryz.f87 i87 Zy [] f87
theorem z87:aL Z 87 Na:=ba avD Tryz.func87 (by kernel_rfl) aj (fun y=>by kernel_rfl) fun a=>by kernel_rfl
theorem CX:∀a:F,Op.bytesLess a a=false:=by
 intro a;induction a with
 |nil=>rfl
 |cons b r ih=>simp[Op.bytesLess,ih]
theorem wD:∀a b c:F,Op.bytesLess a b=true->Op.bytesLess b c=true->Op.bytesLess a c=true:=by
 intro a;induction a with
 |nil=>intro b c h1 h2;cases c with
  |nil=>cases b<;>simp[Op.bytesLess] at h2
  |cons z c=>rfl
 |cons x a ih=>
  intro b c h1 h2;cases b with
  |nil=>simp[Op.bytesLess] at h1
  |cons y b=>
   cases c with
   |nil=>simp[Op.bytesLess] at h2
   |cons z c=>
    simp only[Op.bytesLess,Bool.or_eq_true,decide_eq_true_eq,Bool.and_eq_true,beq_iff_eq] at h1 h2 ⊢;rcases h1 with h1|⟨rfl,h1⟩
    ·rcases h2 with h2|⟨rfl,h2⟩
     ·exact .inl (UInt8.lt_trans h1 h2)
     ·exact .inl h1
    ·rcases h2 with h2|⟨rfl,h2⟩
     ·exact .inl h2
     ·exact .inr ⟨rfl,ih b c h1 h2⟩
theorem alW:∀a b:F,Op.bytesLess a b=false->(a==b)=false->Op.bytesLess b a=true:=by
 intro a;induction a with
 |nil=>intro b h1 h2;cases b with
  |nil=>simp at h2
  |cons y b=>simp[Op.bytesLess] at h1
 |cons x a ih=>
  intro b h1 h2;cases b with
  |nil=>rfl
  |cons y b=>
   simp only[Op.bytesLess,Bool.or_eq_false_iff,decide_eq_false_iff_not,Bool.and_eq_false_iff,beq_eq_false_iff_ne,ne_eq] at h1;simp only[Op.bytesLess,Bool.or_eq_true,decide_eq_true_eq,Bool.and_eq_true,beq_iff_eq];by_cases hxy:x=y
   ·subst hxy;refine .inr ⟨rfl,ih b ?_ ?_⟩
    ·rcases h1.2 with h|h
     ·exact absurd rfl h
     ·exact h
    ·cases h:(a==b) with
     |false=>rfl
     |true=>rw[eq_of_beq h] at h2;simp at h2
   ·exact .inl (by
     have:=h1.1;rcases UInt8.lt_or_lt_of_ne (fun h=>hxy h) with h|h
     ·exact absurd h this
     ·exact h)
theorem akl{a b:F}(h:Op.bytesLess a b=true):Op.bytesLess b a=false:=by
 cases h2:Op.bytesLess b a with
 |false=>rfl
 |true=>have:=wD a b a h h2;rw[CX] at this;cases this
theorem anq{a b:F}(h:Op.bytesLess a b=true):(a==b)=false:=by
 cases h2:(a==b) with
 |false=>rfl
 |true=>rw[eq_of_beq h2,CX] at h;cases h
theorem akk:∀(s:F) (i:Nat),i<s.length->Op.bytesLess (s.take i) s=true:=by
 intro s;induction s with
 |nil=>intro i h;simp at h
 |cons b r ih=>
  intro i h;cases i with
  |zero=>rfl
  |succ i=>simp only[List.take_succ_cons,Op.bytesLess];simp[ih i (by simpa using h)]
def l4(c:UInt8)(s:F):Nat->Option Nat
 |0=>none
 |n+1=>match s[n]? with
  |some b=>bif(b.toNat:Int)==(c.toNat:Int) then some n else l4 c s n
  |none=>none
theorem On{c:UInt8}{s:F}:∀{n i:Nat},l4 c s n=some i->i<n/\i<s.length:=by
 intro n;induction n with
 |zero=>intro i h;cases h
 |succ n ih=>
  intro i h;simp only[l4] at h;split at h
  ·rename_i b hb;cases hc:((b.toNat:Int)==(c.toNat:Int)) with
   |true=>rw[hc] at h;cases h;exact⟨Nat.lt_succ_self _,dj hb⟩
   |false=>rw[hc] at h;have:=ih h;omega
  ·cases h
def j0(s:F):F:=match l4 47 s s.length with
 |some i=>s.take i
 |none=>[]
theorem agV{s:F}(h:(j0 s==[])=false):Op.bytesLess (j0 s) s=true:=by
 unfold j0 at h ⊢;split
 ·rename_i i hi;exact akk s i (On hi).2
 ·rename_i hi;rw[hi] at h;cases h
theorem akL(a)(hs:cN a.1.1.length):f212 a=some ((j0 a.1.1,()),()):=by
 obtain⟨⟨s,u⟩,b9⟩:=a;have hs:s.length<=2097152:=hs;have key:∀n,n<=s.length->IT ((s,((n:Int)-1,())),())=some (match l4 47 s n with|some i=>.inl ((s.take i,()),())|none=>.inr ((),())):=by
  intro n;induction n with
  |zero=>intro _;exact cx (by rfl)
  |succ n ih=>
   intro hn;have e:((n+1:Nat):Int)-1=(n:Int):=by omega
   obtain⟨b,hb⟩:∃b,s[n]? =some b:=⟨s[n],List.getElem?_eq_getElem hn⟩;have h0:decide ((n:Int)>=0)=true:=by simp
   rw[e];simp only[l4,hb];cases hc:((b.toNat:Int)==((47:UInt8).toNat:Int)) with
   |true=>
    refine cx ?_
    simp only[Jd,h0,cond_true,cc,hb,Option.bind_some];rw[show((b.toNat:Int)==47)=true from hc,iJ (by omega)]
    rfl
   |false=>
    refine(dL ?_).trans (ih (by omega))
    simp only[Jd,h0,cond_true,cc,hb,Option.bind_some];rw[show((b.toNat:Int)==47)=false from hc,c' (by omega) (by omega)]
    rfl
 have hw:IntKind.i64.wrap ((s.length:Int)-1)=(s.length:Int)-1:=c' (by omega) (by omega)
 simp only[f212,hw,key s.length (Nat.le_refl _),Option.bind_some,j0];cases l4 47 s s.length<;>rfl
theorem acJ(a)(hs:cN a.1.1.length)(aui:a.1.2.1=47):f268 a=some (((match l4 47 a.1.1 a.1.1.length with|some i=>(i:Int)|none=>-1),()),()):=by
 obtain⟨⟨s,c,u⟩,b9⟩:=a;obtain rfl:c=47:=aui;have hs:s.length<=2097152:=hs;have key:∀n,n<=s.length->IL ((s,((47:Int),((n:Int)-1,()))),())=some (match l4 47 s n with|some i=>.inl (((i:Int),()),())|none=>.inr ((),())):=by
  intro n;induction n with
  |zero=>intro _;exact cx (by rfl)
  |succ n ih=>
   intro hn;have e:((n+1:Nat):Int)-1=(n:Int):=by omega
   obtain⟨b,hb⟩:∃b,s[n]? =some b:=⟨s[n],List.getElem?_eq_getElem hn⟩;have h0:decide ((n:Int)>=0)=true:=by simp
   rw[e];simp only[l4,hb];cases hc:((b.toNat:Int)==((47:UInt8).toNat:Int)) with
   |true=>
    refine cx ?_
    simp only[Jb,h0,cond_true,cc,hb,Option.bind_some];rw[show((b.toNat:Int)==47)=true from hc]
    rfl
   |false=>
    refine(dL ?_).trans (ih (by omega))
    simp only[Jb,h0,cond_true,cc,hb,Option.bind_some];rw[show((b.toNat:Int)==47)=false from hc,c' (by omega) (by omega)]
    rfl
 have hw:IntKind.i64.wrap ((s.length:Int)-1)=(s.length:Int)-1:=c' (by omega) (by omega)
 simp only[f268,hw,key s.length (Nat.le_refl _),Option.bind_some];cases l4 47 s s.length<;>rfl
theorem agS(a)(hs:cN a.1.1.length):f195 a=some (((bif gU a.1.1 then j0 a.1.1 else []),()),()):=by
 obtain⟨⟨s,u⟩,b9⟩:=a;have hs:s.length<=2097152:=hs;have e1:=GG ((s,()),()) hs;have e2:=acJ ((s,((47:Int),())),()) hs rfl;simp only[f195,e1,Option.bind_some,f230,e2];cases gU s with
 |false=>rfl
 |true=>
  simp only[Bool.not_true,cond_false,cond_true];unfold j0;cases hl:l4 47 s s.length with
  |none=>
   have:h9 (-1) 0=0:=by decide
   simp only[this];have:=iJ (xs:=s) (b:=0) (Nat.zero_le _);have this:bD s 0 0=some (s.take 0):=this;rw[this];rfl
  |some i=>
   have hi:=(On hl).2;have:h9 (i:Int) 0=(i:Int):=by unfold h9;rw[if_neg (by omega)]
   simp only[this];rw[iJ (by omega)];rfl
def ci(t:List aG)(p:F):Nat:=(t.takeWhile fun e=>Op.bytesLess e.path p).length
def kM(t:List aG)(p:F):Bool:=match t[ci t p]? with
 |some e=>e.path==p
 |none=>false
def ln(t:List aG)(p:F):Bool:=p==[]||match t[ci t p]? with
 |some e=>e.path==p&&e.kind==1
 |none=>false
theorem tE(t:List aG)(p:F):ci t p<=t.length:=(List.takeWhile_prefix _).length_le
theorem Th(a)(hs:cN a.1.1.length):f157 a=some (((ci a.1.1 a.1.2.1:Int),(kM a.1.1 a.1.2.1,())),()):=by
 obtain⟨⟨t,p,u⟩,b9⟩:=a;have hs:t.length<=2097152:=hs;have key:I2 ((t,(p,((0:Int),(false,((0:Int),()))))),())=_:=Gc BX t (fun i (_:Unit)=>((t,(p,((0:Int),(false,((i:Int),()))))),()))
  (fun i e _=>some (bif Op.bytesLess e.path p then .inl () else .inr ((((t,(p,((0:Int),(false,((i:Int),()))))),())):aF tC))) (fun _=>((t,(p,((0:Int),(false,((t.length:Int),()))))),())) (fun i e s he=>?_) (fun s=>?_) ()
 ·have fold:∀(r:List aG) (k:Nat),k+r.length=t.length->fg (fun i (e:aG) (_:Unit)=>some (bif Op.bytesLess e.path p then .inl () else .inr ((((t,(p,((0:Int),(false,((i:Int),()))))),())):aF tC))) (fun _=>(((t,(p,((0:Int),(false,((t.length:Int),()))))),()):aF tC)) k r ()=
    some ((t,(p,((0:Int),(false,(((k+(r.takeWhile fun e=>Op.bytesLess e.path p).length:Nat):Int),()))))),()):=by
   intro r;induction r with
   |nil=>intro k hk;simp only[fg,List.takeWhile_nil,List.length_nil,Nat.add_zero] at hk ⊢;rw[hk]
   |cons e r ih=>
    intro k hk;simp only[fg,List.takeWhile_cons];cases hl:Op.bytesLess e.path p with
    |false=>rfl
    |true=>
     simp only[cond_true,if_true,List.length_cons];rw[ih (k+1) (by simp only[List.length_cons] at hk;omega)]
     have:k+1+(r.takeWhile fun e=>Op.bytesLess e.path p).length=k+((r.takeWhile fun e=>Op.bytesLess e.path p).length+1):=by omega
     rw[this]
  rw[fold t 0 (Nat.zero_add _),Nat.zero_add] at key;have hk:(t.takeWhile fun e=>Op.bytesLess e.path p).length=ci t p:=rfl
  rw[hk] at key;simp only[f157,key,Option.bind_some,kM,cc];cases ao:t[ci t p]? with
  |none=>
   have:=List.getElem?_eq_none_iff.1 ao;have:decide ((ci t p:Int)<(t.length:Int))=false:=by simp only[decide_eq_false_iff_not];omega
   rw[this];rfl
  |some e=>rw[cn (dj ao)];rfl
 ·have hi:=dj he;have hw:am i:=by unfold am;omega
  simp only[BX,cn hi,cond_true,cc,he,Option.bind_some,b6 hw];cases Op.bytesLess e.path p<;>rfl
 ·simp only[BX,dr,cond_false]
theorem aiK(a)(hs:cN a.1.1.length):f211 a=some ((ln a.1.1 a.1.2.1,()),()):=by
 obtain⟨⟨t,p,u⟩,b9⟩:=a;have e1:=Th ((t,(p,())),()) hs;simp only[f211,e1,Option.bind_some,ln,kM,cc];cases (p==[]) with
 |true=>rfl
 |false=>
  cases ao:t[ci t p]? with
  |none=>rfl
  |some e=>simp only[Bool.not_false,cond_true,Option.bind_some,Bool.false_or];cases (e.path==p)<;>rfl
def ht(t:List aG):Prop:=t.Pairwise fun a b=>Op.bytesLess a.path b.path=true
theorem ht.take{t:List aG}(h:ht t)(i:Nat):ht (t.take i):=List.Pairwise.sublist (List.take_sublist i t) h
theorem mM:∀{t:List aG} {p:F},ht t->∀(h:Nat) (e:aG),t[h]? =some e->Op.bytesLess e.path p=decide (h<ci t p):=by
 intro t p;induction t with
 |nil=>intro _ h e he;simp at he
 |cons x t ih=>
  intro ha h e he;have fx:=List.pairwise_cons.1 ha;unfold ci;rw[List.takeWhile_cons];cases hx:Op.bytesLess x.path p with
  |true=>
   simp only[if_true,List.length_cons];cases h with
   |zero=>simp only[List.getElem?_cons_zero,Option.some.injEq] at he;subst he;rw[hx];simp
   |succ h=>
    simp only[List.getElem?_cons_succ] at he;rw[ih fx.2 h e he];unfold ci;congr 1;apply propext;omega
  |false=>
   have:(decide (h<(if false=true then x::t.takeWhile (fun e=>Op.bytesLess e.path p) else []).length))=false:=by simp
   rw[this];cases h with
   |zero=>simp only[List.getElem?_cons_zero,Option.some.injEq] at he;subst he;exact hx
   |succ h=>
    simp only[List.getElem?_cons_succ] at he;have h2:=fx.1 e (List.mem_of_getElem? he);cases h3:Op.bytesLess e.path p with
    |false=>rfl
    |true=>have:=wD _ _ _ h2 h3;rw[hx] at this;cases this
def uV(a b:F):Int:=bif Op.bytesLess a b then-1 else bif a==b then 0 else 1
theorem GF(a):f139 a=some ((uV a.1.1.1 a.1.2.1.1,()),()):=by
 obtain⟨⟨⟨p,eD⟩,⟨⟨q,fy⟩,j7⟩⟩,aat⟩:=a;have h1:(p==p)=true:=by simp
 have h2:(q==q)=true:=by simp
 simp only[f139,f110,f175,Option.bind_some,h1,h2,Bool.not_true,cond_false,uV];cases Op.bytesLess p q<;>cases (p==q)<;>rfl
theorem RU(a b:F):decide (uV a b<0)=Op.bytesLess a b:=by
 unfold uV;cases Op.bytesLess a b<;>cases (a==b)<;>rfl
theorem agx(a b:F):(uV a b==0)=(a==b):=by
 unfold uV;cases h:Op.bytesLess a b with
 |true=>rw[anq h];rfl
 |false=>cases (a==b)<;>rfl
theorem aoQ{n:Nat}(h:n<=1099511627776):fM .u64 (IntKind.u64.wrap (IntKind.i64.wrap (n:Int))) 1=some (((n/2:Nat)):Int):=by
 rw[c' (by omega) (by omega)]
 have:IntKind.u64.wrap (n:Int)=(n:Int):=by
  simp[IntKind.wrap,IntKind.bits,IntKind.signed];omega
 rw[this];unfold fM;rw[if_neg (by decide)]
 congr 1
 show Int.fdiv (n:Int) 2=_;rw[Int.fdiv_eq_ediv_of_nonneg _ (by decide)]
 omega
theorem Oy(a)(hs:cN a.1.1.length)(ha:ht a.1.1):f87 a=some (((ci a.1.1 a.1.2.1:Int),(kM a.1.1 a.1.2.1,())),()):=by
 obtain⟨⟨t,p,u⟩,b9⟩:=a;have hs:t.length<=2097152:=hs;have EW:=tE t p;have key:∀d i j:Nat,j-i=d->i<=ci t p->ci t p<=j->j<=t.length->
   Aa ((t,((),((),((0:Int),(false,((t.length:Int),((i:Int),((j:Int),())))))))),((p,((0:Int),((0:Int),(([]:F),())))),()))=
    some (((t,((),((),((0:Int),(false,((t.length:Int),((ci t p:Int),()))))))),((p,((0:Int),((0:Int),(([]:F),())))),()))):=by
  intro d;induction d using Nat.strongRecOn with
  |_ d ih=>
   intro i j Y hi hj hl;by_cases qR:i<j
   ·have bT:(i+j)/2<t.length:=by omega
    obtain⟨e,he⟩:∃e,t[(i+j)/2]? =some e:=⟨t[(i+j)/2],List.getElem?_eq_getElem bT⟩;have hsh:fM .u64 (IntKind.u64.wrap (IntKind.i64.wrap ((i:Int)+(j:Int)))) 1=some ((((i+j)/2:Nat)):Int):=by
     rw[<-aoQ (n:=i+j) (by omega)];rw[Int.natCast_add]
    have Z6:IntKind.i64.wrap (((i+j)/2:Nat):Int)=(((i+j)/2:Nat):Int):=c' (by omega) (by omega)
    have pz:=mM (t:=t) (p:=p) ha ((i+j)/2) e he;cases hb:Op.bytesLess e.path p with
    |true=>
     rw[hb] at pz;have hlt:(i+j)/2<ci t p:=by simpa using pz.symm
     refine(dL ?_).trans (ih (j-((i+j)/2+1)) (by omega) ((i+j)/2+1) j rfl (by omega) hj hl)
     simp only[Ag,cn qR,cond_true,hsh,Z6,cc,he,Option.bind_some,GF,RU,hb,b6 (i:=(i+j)/2) (by unfold am;omega)]
    |false=>
     rw[hb] at pz;have hge:¬(i+j)/2<ci t p:=by simpa using pz.symm
     refine(dL ?_).trans (ih ((i+j)/2-i) (by omega) i ((i+j)/2) rfl hi (by omega) (by omega))
     simp only[Ag,cn qR,cond_true,hsh,Z6,cc,he,Option.bind_some,GF,RU,hb,cond_false]
   ·have k3:i=ci t p:=by omega
    have hlt:decide ((i:Int)<(j:Int))=false:=by simp only[decide_eq_false_iff_not];omega
    refine cx ?_
    simp only[Ag,hlt,cond_false];rw[k3]
 have mG:Aa ((t,((),((),((0:Int),(false,((t.length:Int),((0:Int),((t.length:Int),())))))))),((p,((0:Int),((0:Int),(([]:F),())))),()))=_:=key t.length 0 t.length (Nat.sub_zero _) (Nat.zero_le _) EW (Nat.le_refl _);have U:CR ((t,((p,((0:Int),((0:Int),(([]:F),())))),((),()))),())=some (((ci t p:Int),(kM t p,())),()):=by
  simp only[CR,mG,Option.bind_some,kM,cc,GF,agx];cases ao:t[ci t p]? with
  |none=>
   have:=List.getElem?_eq_none_iff.1 ao;have:decide ((ci t p:Int)<(t.length:Int))=false:=by simp only[decide_eq_false_iff_not];omega
   rw[this];rfl
  |some e=>rw[cn (dj ao)];rfl
 simp only[f87,U,Option.bind_some]
noncomputable abbrev aq8:bl:=[(87,Na),(195,Yo)]
theorem arO:bc Z (bi ak aq8):=bj ⟨z87,aoa,⟨⟩⟩
abbrev i137:Shape:=⟨[aM 0 .entry,aq 1],[],27⟩
abbrev WT:Shape:=⟨[aC 4],[],27⟩
noncomputable def f137(a:i137.J):Option WT.J:=
(f195 ((a.1.2.1,()),())).bind fun b=>
 bif(b.1.1==([]:F)) then
 some ((true,()),())
else
(f87 ((a.1.1,b.1.1,()),())).bind fun c=>
 bif c.1.2.1 then
(aQ a.1.1 c.1.1).bind fun d=>
 some (((d.kind==(1:Int)),()),())
else
 some ((false,()),())
noncomputable def YI:aK:=a6 ak Tryz.f137 i137 WT [] f137
theorem aok:aL Z 137 YI:=ba arO Tryz.func137 (by kernel_rfl) aj (fun y=>by kernel_rfl) fun a=>by kernel_rfl
noncomputable abbrev aqW:bl:=[(210,Yd),(211,Yc),(212,Yb)]
theorem DY:bc Z (bi ak aqW):=bj ⟨z210,an4,z212,⟨⟩⟩
abbrev Rx:Shape:=⟨[aM 0 .entry,ad 3],[],53⟩
abbrev Rg:List aR:=[(.norm,⟨[aM 0 .entry,ad 3,aM 11 .entry,ad 12,(13,.ag (.eQ [.str,.int .i64,.int .i64,.str] 0)),dw 14 [ax,bz,bz,ax],aC 15,aC 16,aC 17,aC 34],[],53⟩)]
noncomputable def HH(y:Rx.J):Option (aF Rg):=
(aQ y.1.1 y.1.2.1).bind fun a=>
(f210 (((a.path,a.kind,a.mode,a.text,()),()),())).bind fun b=>
 bif(!b.1.1) then
 some ((y.1.1,y.1.2.1,y.1.1,y.1.2.1,(a.path,a.kind,a.mode,a.text,()),(a.path,a.kind,a.mode,a.text,()),b.1.1,(!b.1.1),true,true,()),())
else
 bif(decide (y.1.2.1>(0:Int))) then
(aQ y.1.1 (IntKind.i64.wrap (y.1.2.1-(1:Int)))).bind fun c=>
(aQ y.1.1 y.1.2.1).bind fun d=>
 some ((y.1.1,y.1.2.1,y.1.1,y.1.2.1,(a.path,a.kind,a.mode,a.text,()),(a.path,a.kind,a.mode,a.text,()),b.1.1,(!b.1.1),false,(!(Op.bytesLess c.path d.path)),()),())
else
 some ((y.1.1,y.1.2.1,y.1.1,y.1.2.1,(a.path,a.kind,a.mode,a.text,()),(a.path,a.kind,a.mode,a.text,()),b.1.1,(!b.1.1),false,false,()),())
theorem ahE:aX Z (ap (di (ap (codeOf Tryz.f158) 1 26)) 52 840) (bb Rx Rg HH):=c8 DY (by kernel_rfl) aj fun y=>by kernel_rfl
abbrev Bm:Shape:=⟨[aM 0 .entry,ad 3],[],53⟩
abbrev Ik:List aR:=[(.ret,⟨[aC 2],[],53⟩),(.exit 0,⟨[aM 0 .entry],[],53⟩)]
noncomputable def BW(y:Bm.J):bR Bm Ik:=
 bif(decide (y.1.2.1<(y.1.1.length:Int))) then
(HH ((y.1.1,y.1.2.1,()),())).bind fun a=>
 bif a.1.2.2.2.2.2.2.2.2.2.1 then
 some (.inr (.inl ((false,()),())))
else
 some (.inl ((a.1.1,(IntKind.i64.wrap (a.1.2.1+(1:Int))),()),()))
else
 some (.inr (.inr ((y.1.1,()),())))
noncomputable def I1:Bm.J->Option (aF Ik):=bu BW
theorem ajt:aX Z (ap (codeOf Tryz.f158) 1 26) (bb Bm Ik I1):=bW DY (by kernel_rfl) (bd ahE aj) fun y=>by kernel_rfl
abbrev Bl:Shape:=⟨[aM 0 .entry,ad 4],[],53⟩
abbrev Ij:List aR:=[(.ret,⟨[aC 2],[],53⟩),(.exit 2,⟨[aM 0 .entry],[],53⟩)]
noncomputable def BV(y:Bl.J):bR Bl Ij:=
 bif(decide (y.1.2.1<(y.1.1.length:Int))) then
(aQ y.1.1 y.1.2.1).bind fun a=>
(f212 ((a.path,()),())).bind fun b=>
(f211 ((y.1.1,b.1.1,()),())).bind fun c=>
 bif(!c.1.1) then
 some (.inr (.inl ((false,()),())))
else
 some (.inl ((y.1.1,(IntKind.i64.wrap (y.1.2.1+(1:Int))),()),()))
else
 some (.inr (.inr ((y.1.1,()),())))
noncomputable def I0:Bl.J->Option (aF Ij):=bu BV
theorem ajs:aX Z (ap (codeOf Tryz.f158) 1 58) (bb Bl Ij I0):=bW DY (by kernel_rfl) aj fun y=>by kernel_rfl
abbrev i158:Shape:=⟨[aM 0 .entry],[],53⟩
abbrev WF:Shape:=⟨[aC 2],[],53⟩
noncomputable def f158(a:i158.J):Option WF.J:=
(I1 ((a.1.1,(0:Int),()),())).bind fun b=>
(match b with
|.inl c=>
 some ((c.1.1,()),())
|.inr d=>
(I0 ((d.1.1,(0:Int),()),())).bind fun e=>
(match e with
|.inl f=>
 some ((f.1.1,()),())
|.inr g=>
 some (((decide ((g.1.1.length:Int)<=(16:Int))),()),())))
noncomputable def DQ:aK:=a6 ak Tryz.f158 i158 WF [] f158
theorem KA:aL Z 158 DQ:=ba DY Tryz.func158 (by kernel_rfl) (bd ajt (bd ajs aj)) (fun y=>by kernel_rfl) fun a=>by kernel_rfl
noncomputable abbrev avd:bl:=[(136,YJ),(137,YI)]
theorem Nh:bc Z (bi ak avd):=bj ⟨aol,aok,⟨⟩⟩
abbrev Ro:Shape:=⟨[aM 0 .entry,ad 3,a8 4 4 0,aM 8 .entry,ad 9,ad 10],[a7 4 [ax,bz,bz,ax]],43⟩
abbrev Q9:List aR:=[(.norm,⟨[aM 0 .entry,aM 8 .entry,ad 9,ad 10,dw 15 [ax,bz,bz,ax],aC 16,aC 17,aC 18,aC 32,aC 33,aC 41],[],43⟩)]
noncomputable def Hw(y:Ro.J):Option (aF Q9):=
(f136 (((y.2.1.1,y.2.1.2.1,y.2.1.2.2.1,y.2.1.2.2.2.1,()),()),())).bind fun a=>
 bif(!a.1.1) then
 some ((y.1.1,y.1.2.2.2.1,y.1.2.2.2.2.1,y.1.2.2.2.2.2.1,(y.2.1.1,y.2.1.2.1,y.2.1.2.2.1,y.2.1.2.2.2.1,()),a.1.1,(!a.1.1),true,true,true,true,()),())
else
 bif(decide (y.1.2.1>(0:Int))) then
(aQ y.1.1 (IntKind.i64.wrap (y.1.2.1-(1:Int)))).bind fun b=>
 bif(!(Op.bytesLess b.path y.2.1.1)) then
 some ((y.1.1,y.1.2.2.2.1,y.1.2.2.2.2.1,y.1.2.2.2.2.2.1,(y.2.1.1,y.2.1.2.1,y.2.1.2.2.1,y.2.1.2.2.2.1,()),a.1.1,(!a.1.1),false,(!(Op.bytesLess b.path y.2.1.1)),true,true,()),())
else
(bD y.1.1 (0:Int) y.1.2.1).bind fun c=>
(f137 ((c,y.2.1.1,()),())).bind fun d=>
 some ((y.1.1,y.1.2.2.2.1,y.1.2.2.2.2.1,y.1.2.2.2.2.2.1,(y.2.1.1,y.2.1.2.1,y.2.1.2.2.1,y.2.1.2.2.2.1,()),a.1.1,(!a.1.1),false,(!(Op.bytesLess b.path y.2.1.1)),false,(!d.1.1),()),())
else
(bD y.1.1 (0:Int) y.1.2.1).bind fun e=>
(f137 ((e,y.2.1.1,()),())).bind fun f=>
 some ((y.1.1,y.1.2.2.2.1,y.1.2.2.2.2.1,y.1.2.2.2.2.2.1,(y.2.1.1,y.2.1.2.1,y.2.1.2.2.1,y.2.1.2.2.2.1,()),a.1.1,(!a.1.1),false,false,false,(!f.1.1),()),())
theorem ahg:aX Z (ap (di (ap (codeOf Tryz.f86) 1 58)) 116 7474) (bb Ro Q9 Hw):=c8 Nh (by kernel_rfl) aj fun y=>by kernel_rfl
abbrev Cj:Shape:=⟨[aM 0 .entry,aM 8 .entry,ad 9,ad 10],[],43⟩
abbrev w5:List aR:=[(.ret,⟨[aC 2],[],43⟩),(.exit 0,⟨[],[],43⟩)]
noncomputable def CG(y:Cj.J):bR Cj w5:=
 bif(decide (y.1.2.2.2.1<y.1.2.2.1)) then
(aQ y.1.2.1 y.1.2.2.2.1).bind fun a=>
(Hw ((y.1.1,y.1.2.2.2.1,(),y.1.2.1,y.1.2.2.1,y.1.2.2.2.1,()),(a.path,a.kind,a.mode,a.text,()),())).bind fun b=>
 bif b.1.2.2.2.2.2.2.2.2.2.2.1 then
 some (.inr (.inl ((false,()),())))
else
 some (.inl ((b.1.1,b.1.2.1,b.1.2.2.1,(IntKind.i64.wrap (b.1.2.2.2.1+(1:Int))),()),()))
else
 some (.inr (.inr ((),())))
noncomputable def JR:Cj.J->Option (aF w5):=bu CG
theorem ak8:aX Z (ap (codeOf Tryz.f86) 1 58) (bb Cj w5 JR):=bW Nh (by kernel_rfl) (bd ahg aj) fun y=>by kernel_rfl
abbrev i86:Shape:=⟨[aM 0 .entry],[],43⟩
abbrev Zz:Shape:=⟨[aC 2],[],43⟩
noncomputable def f86(a:i86.J):Option Zz.J:=
 bif(decide ((a.1.1.length:Int)>(16:Int))) then
 some ((false,()),())
else
(JR ((a.1.1,a.1.1,(a.1.1.length:Int),(0:Int),()),())).bind fun b=>
(match b with
|.inl c=>
 some ((c.1.1,()),())
|.inr d=>
 some ((true,()),()))
noncomputable def yW:aK:=a6 ak Tryz.f86 i86 Zz [] f86
theorem D1:aL Z 86 yW:=ba Nh Tryz.func86 (by kernel_rfl) (bd ak8 aj) (fun y=>by kernel_rfl) fun a=>by kernel_rfl
theorem ads{aB:Type}{ok nq:Nat->aB->Bool}:∀(xs:List aB) (j:Nat),(∀i x,xs[i]? =some x->ok (j+i) x=nq (j+i) x)->allI ok j xs=allI nq j xs:=by
 intro xs;induction xs with
 |nil=>intro j _;rfl
 |cons x r ih=>
  intro j h;simp only[allI];rw[show ok j x=nq j x from h 0 x rfl,ih (j+1) (fun i y hy=>by have:=h (i+1) y (by simpa using hy);rw[show j+(i+1)=j+1+i by omega] at this;exact this)]
theorem AU{aB:Type}{ok:Nat->aB->Bool}:∀(xs:List aB) (j:Nat),allI ok j xs=true->∀i x,xs[i]? =some x->ok (j+i) x=true:=by
 intro xs;induction xs with
 |nil=>intro j _ i x h;simp at h
 |cons y r ih=>
  intro j h i x hx;simp only[allI,Bool.and_eq_true] at h;cases i with
  |zero=>simp only[List.getElem?_cons_zero,Option.some.injEq] at hx;subst hx;exact h.1
  |succ i=>have:=ih (j+1) h.2 i x (by simpa using hx);rwa[show j+1+i=j+(i+1) by omega] at this
abbrev jk(t:List aG):Prop:=cN t.length/\∀e,e∈t->mD e
def w9(t:List aG)(i:Nat)(e:aG):Bool:=i==0||match t[i-1]? with
 |some q=>Op.bytesLess q.path e.path
 |none=>false
def jz(t:List aG)(i:Nat)(e:aG):Bool:=fh e&&w9 t i e
def dY(t:List aG):Bool:=allI (jz t) 0 t&&t.all (fun e=>ln t (j0 e.path))&&decide (t.length<=16)
theorem Ln(i:Nat):decide ((i:Int)>0)=!(i==0):=by
 cases i with
 |zero=>rfl
 |succ i=>simp
theorem Aq(a)(hs:jk a.1.1):f158 a=some ((dY a.1.1,()),()):=by
 obtain⟨⟨t,u⟩,b9⟩:=a;obtain⟨hl,he⟩:=hs;have hl:t.length<=2097152:=hl;have key:I1 ((t,((0:Int),())),())=some (bif allI (jz t) 0 t then .inr ((t,()),()) else .inl ((false,()),())):=by
  refine gS BW t (fun i=>((t,((i:Int),())),())) _ _ _ (fun i x hx=>?_) ?_
  ·have hi:=dj hx;have hw:am i:=by unfold am;omega
   have hb:=he x (List.mem_of_getElem? hx);simp only[BW,cn hi,cond_true,HH,cc,hx,Option.bind_some];rw[aeS _ hb.1 hb.2];simp only[Option.bind_some,jz,Ln];cases fh x with
   |false=>rfl
   |true=>
    simp only[Bool.not_true,cond_false,Bool.true_and,w9];cases i with
    |zero=>simp only[beq_self_eq_true,Bool.not_true,cond_false,Option.bind_some,Bool.true_or,cond_true,b6 hw]
    |succ i=>
     have h0:(i+1==0)=false:=rfl;have k3:i<t.length:=by omega
     obtain⟨q,al⟩:∃q,t[i]? =some q:=⟨t[i],List.getElem?_eq_getElem k3⟩;simp only[h0,Bool.not_false,cond_true,zK (i:=i) (by unfold am;omega),cc,al,hx,Option.bind_some,Bool.false_or,Nat.add_sub_cancel]
     cases Op.bytesLess q.path x.path with
     |false=>rfl
     |true=>simp only[Bool.not_true,cond_false,cond_true,b6 hw]
  ·simp only[BW,dr,cond_false]
 have Xf:I0 ((t,((0:Int),())),())=some (bif allI (fun _ e=>ln t (j0 e.path)) 0 t then .inr ((t,()),()) else .inl ((false,()),())):=by
  refine gS BV t (fun i=>((t,((i:Int),())),())) _ _ _ (fun i x hx=>?_) ?_
  ·have hi:=dj hx;have hw:am i:=by unfold am;omega
   have hb:=he x (List.mem_of_getElem? hx);simp only[BV,cn hi,cond_true,cc,hx,Option.bind_some];rw[akL _ hb.1];simp only[Option.bind_some];rw[aiK _ hl];simp only[Option.bind_some,b6 hw];cases ln t (j0 x.path)<;>rfl
  ·simp only[BV,dr,cond_false]
 rw[hZ] at Xf;simp only[f158,key,Option.bind_some,dY];cases allI (jz t) 0 t with
 |false=>rfl
 |true=>
  simp only[cond_true,Xf,Option.bind_some,Bool.true_and];cases List.all t (fun e=>ln t (j0 e.path)) with
  |false=>rfl
  |true=>have:=DB t.length 16;simp only[cond_true,Bool.true_and];rw[<-this];rfl
theorem RY{t:List aG}{i:Nat}{e:aG}(he:t[i]? =some e)(h:ht (t.take i))(hl:w9 t i e=true):ht (t.take (i+1)):=by
 rw[List.take_add_one,he];unfold ht;refine List.pairwise_append.2 ⟨h,by simp,?_⟩
 intro a ha b hb;have hb:b=e:=by simpa using hb
 subst hb;obtain⟨k,hk⟩:=List.mem_iff_getElem?.1 ha;have Ev:k<i:=by
  have:=dj hk;rw[List.length_take] at this;omega
 unfold w9 at hl;have h0:(i==0)=false:=by simp;omega
 rw[h0,Bool.false_or] at hl;split at hl
 ·rename_i q al;by_cases hkl:k=i-1
  ·have:t[k]? =some a:=by rw[List.getElem?_take,if_pos Ev] at hk;exact hk
   rw[hkl,al] at this;cases this;exact hl
  ·have py:(t.take i)[i-1]? =some q:=by rw[List.getElem?_take,if_pos (by omega)];exact al
   have:=List.pairwise_iff_getElem.1 h k (i-1) (dj hk) (dj py) (by omega)
   rw[(List.getElem?_eq_some_iff.1 hk).2,(List.getElem?_eq_some_iff.1 py).2] at this;exact wD _ _ _ this hl
 ·cases hl
theorem Uk{t:List aG}(h:allI (jz t) 0 t=true):ht t:=by
 have:∀i,i<=t.length->ht (t.take i):=by
  intro i;induction i with
  |zero=>intro _;simp[ht]
  |succ i ih=>
   intro hi;have he:t[i]? =some t[i]:=List.getElem?_eq_getElem hi;have:=AU t 0 h i _ he;rw[Nat.zero_add] at this;simp only[jz,Bool.and_eq_true] at this;exact RY he (ih (by omega)) this.2
 have:=this t.length (Nat.le_refl _);rwa[List.take_length] at this
theorem aev{t:List aG}{i:Nat}{e:aG}{p:F}(ha:ht t)(he:t[i]? =some e)(hp:Op.bytesLess p e.path=true):ln (t.take i) p=ln t p:=by
 have hi:=dj he;have h1:=mM (p:=p) ha i e he;rw[akl hp] at h1;have hle:ci t p<=i:=by
  have:¬i<ci t p:=by simpa using h1.symm
  omega
 have oj:ci (t.take i) p=ci t p:=by
  by_cases hlt:ci t p=i
  ·have hlen:(t.take i).length=i:=by rw[List.length_take];omega
   have h2:=tE (t.take i) p;rw[hlen] at h2;by_cases h3:ci (t.take i) p<i
   ·obtain⟨q,al⟩:∃q,(t.take i)[ci (t.take i) p]? =some q:=⟨_,List.getElem?_eq_getElem (by rw[hlen];exact h3)⟩
    have aE:=mM (p:=p) (ha.take i) _ q al;have py:t[ci (t.take i) p]? =some q:=by rw[List.getElem?_take,if_pos h3] at al;exact al
    have br:=mM (p:=p) ha _ q py;rw[aE] at br;have:decide (ci (t.take i) p<ci (t.take i) p)=false:=by simp
    rw[this] at br;have:¬ci (t.take i) p<ci t p:=by simpa using br.symm
    omega
   ·omega
  ·have hlt:ci t p<i:=by omega
   obtain⟨q,al⟩:∃q,t[ci t p]? =some q:=⟨_,List.getElem?_eq_getElem (by omega)⟩
   have py:(t.take i)[ci t p]? =some q:=by rw[List.getElem?_take,if_pos hlt];exact al
   have aE:=mM (p:=p) ha _ q al;have br:=mM (p:=p) (ha.take i) _ q py;have dU:decide (ci t p<ci t p)=false:=by simp
   rw[aE,dU] at br;have cB:¬ci t p<ci (t.take i) p:=by simpa using br.symm
   by_cases jo:ci (t.take i) p<ci t p
   ·obtain⟨r,hr⟩:∃r,t[ci (t.take i) p]? =some r:=⟨_,List.getElem?_eq_getElem (by omega)⟩
    have cV:(t.take i)[ci (t.take i) p]? =some r:=by rw[List.getElem?_take,if_pos (by omega)];exact hr
    have h8:=mM (p:=p) ha _ r hr;have hC:=mM (p:=p) (ha.take i) _ r cV;have NF:decide (ci (t.take i) p<ci (t.take i) p)=false:=by simp
    rw[h8,NF] at hC;have:¬ci (t.take i) p<ci t p:=by simpa using hC
    omega
   ·omega
 unfold ln;rw[oj];congr 1
 by_cases hlt:ci t p<i
 ·rw[List.getElem?_take,if_pos hlt]
 ·have:ci t p=i:=by omega
  rw[this,he,List.getElem?_take,if_neg (by omega)]
  have:(e.path==p)=false:=by
   cases h:(e.path==p) with
   |false=>rfl
   |true=>rw[eq_of_beq h,CX] at hp;cases hp
  simp[this]
def l_(t:List aG)(p:F):Bool:=ln t (bif gU p then j0 p else [])
theorem abu(a)(hs:cN a.1.1.length)(hp:cN a.1.2.1.length)(ha:ht a.1.1):f137 a=some ((l_ a.1.1 a.1.2.1,()),()):=by
 obtain⟨⟨t,p,u⟩,b9⟩:=a;have e1:=agS ((p,()),()) hp;have e2:=Oy ((t,((bif gU p then j0 p else []),())),()) hs ha
 simp only[f137,e1,e2,Option.bind_some,l_,ln,kM,cc];generalize(bif gU p then j0 p else [])=up
 cases (up==[]) with
 |true=>rfl
 |false=>
  cases ao:t[ci t up]? with
  |none=>rfl
  |some e=>simp only[cond_false,cond_true,Option.bind_some,Bool.false_or];cases (e.path==up)<;>rfl
theorem ae6(t:List aG):dY t=(decide (t.length<=16)&&allI (fun i e=>jz t i e&&l_ (t.take i) e.path) 0 t):=by
 unfold dY;rw[HQ];cases h:allI (jz t) 0 t with
 |false=>simp
 |true=>
  have ha:=Uk h;have:allI (fun i e=>l_ (t.take i) e.path) 0 t=t.all (fun e=>ln t (j0 e.path)):=by
   rw[<-hZ _ 0 t];refine ads t 0 (fun i e he=>?_)
   rw[Nat.zero_add];have eZ:=AU t 0 h i e he;rw[Nat.zero_add] at eZ;have atw:gU e.path=true:=by
    unfold jz fh at eZ;simp only[Bool.and_eq_true] at eZ;exact eZ.1.1
   unfold l_;rw[atw,cond_true];cases hu:(j0 e.path==[]) with
   |true=>unfold ln;rw[hu];rfl
   |false=>exact aev ha he (agV hu)
  rw[this];simp only[Bool.true_and];rw[Bool.and_comm]
theorem rf(a)(hs:jk a.1.1):f86 a=some ((dY a.1.1,()),()):=by
 obtain⟨⟨t,u⟩,b9⟩:=a;obtain⟨hl,he⟩:=hs;have hl:t.length<=2097152:=hl;have key:JR ((t,(t,((t.length:Int),((0:Int),())))),())=some (bif allI (fun i e=>jz t i e&&l_ (t.take i) e.path) 0 t then .inr ((),()) else .inl ((false,()),())):=by
  have:=mN CG t (fun i (_:Unit)=>((t,(t,((t.length:Int),((i:Int),())))),())) (fun i e _=>some (bif jz t i e&&l_ (t.take i) e.path then .inl () else .inr ((.inl ((false,()),())):aF w5))) (fun _=>(.inr ((),()):aF w5))
   (fun i _=>ht (t.take i)) () (by simp[ht]) (fun i x _ hx dz=>?_) (fun _ _=>?_)
  ·exact this.trans (zy (fun i e=>jz t i e&&l_ (t.take i) e.path) (fun _ s=>s) _ _ t 0 ())
  ·have hi:=dj hx;have hw:am i:=by unfold am;omega
   have hb:=he x (List.mem_of_getElem? hx);refine⟨?_,fun au ae=>?_⟩
   ·have k2:=abu ((t.take i,(x.path,())),()) (show(t.take i).length<=2097152 by rw[List.length_take];omega) hb.1 dz
    simp only[CG,cn hi,cond_true,cc,hx,Option.bind_some,Hw];rw[aeY _ hb.1 hb.2];simp only[Option.bind_some,jz,Ln];cases fh x with
    |false=>rfl
    |true=>
     simp only[Bool.not_true,cond_false,Bool.true_and,w9];cases i with
     |zero=>
      have ek:bD t 0 0=some (t.take 0):=iJ (b:=0) (Nat.zero_le _);have ek:bD t 0 ((0:Nat):Int)=some (t.take 0):=ek;simp only[beq_self_eq_true,Bool.not_true,cond_false,ek,Option.bind_some,k2,Bool.true_or,Bool.true_and];cases l_ (t.take 0) x.path with
      |false=>rfl
      |true=>simp only[Bool.not_true,cond_false,cond_true,b6 hw];rfl
     |succ i=>
      have h0:(i+1==0)=false:=rfl;have k3:i<t.length:=by omega
      obtain⟨q,al⟩:∃q,t[i]? =some q:=⟨t[i],List.getElem?_eq_getElem k3⟩;have ek:bD t 0 ((i+1:Nat):Int)=some (t.take (i+1)):=iJ (by omega)
      simp only[h0,Bool.not_false,cond_true,zK (i:=i) (by unfold am;omega),cc,al,hx,Option.bind_some,Bool.false_or,Nat.add_sub_cancel]
      cases Op.bytesLess q.path x.path with
      |false=>rfl
      |true=>
       simp only[Bool.not_true,cond_false,cond_true,ek,Option.bind_some,k2,Bool.true_and];cases l_ (t.take (i+1)) x.path with
       |false=>rfl
       |true=>simp only[Bool.not_true,cond_false,cond_true,b6 hw];rfl
   ·simp only[Option.some.injEq] at ae;cases al:(jz t i x&&l_ (t.take i) x.path) with
    |false=>rw[al] at ae;cases ae
    |true=>
     simp only[Bool.and_eq_true] at al;have:=al.1;simp only[jz,Bool.and_eq_true] at this;exact RY hx dz this.2
  ·simp only[CG,dr,cond_false]
 have yS:decide ((t.length:Int)>16)=!decide (t.length<=16):=by by_cases h:t.length<=16<;>simp only[h,decide_true,decide_false,Bool.not_true,Bool.not_false,decide_eq_true_eq,decide_eq_false_iff_not]<;>omega
 simp only[f86,yS,key,Option.bind_some];rw[ae6];cases decide (t.length<=16)<;>cases allI (fun i e=>jz t i e&&l_ (t.take i) e.path) 0 t<;>rfl
noncomputable abbrev avh:bl:=[(86,yW),(118,LL),(119,DS),(120,Uv),(122,Uu)]
theorem aae:bc Z (bi ak avh):=bj ⟨D1,Vx,z119,akG,akF,⟨⟩⟩
abbrev Tx:Shape:=⟨[a8 1 1 0],[a7 1 [ax,ax,dA .need,dA .entry]],36⟩
abbrev To:List aR:=[(.norm,⟨[a8 1 1 0,aC 18],[a7 1 [ax,ax,dA .need,dA .entry]],36⟩)]
noncomputable def J7(y:Tx.J):Option (aF To):=
(f118 ((y.2.1.1,()),())).bind fun a=>
 bif(!(!a.1.1)) then
(f119 ((y.2.1.2.1,()),())).bind fun b=>
 bif(!(!b.1.1)) then
 some (((),(decide ((y.2.1.2.2.1.length:Int)>(6:Int))),()),(y.2.1.1,y.2.1.2.1,y.2.1.2.2.1,y.2.1.2.2.2.1,()),())
else
 some (((),true,()),(y.2.1.1,y.2.1.2.1,y.2.1.2.2.1,y.2.1.2.2.2.1,()),())
else
 some (((),true,()),(y.2.1.1,y.2.1.2.1,y.2.1.2.2.1,y.2.1.2.2.2.1,()),())
theorem alc:aX Z (ap (codeOf Tryz.f74) 1 12) (bb Tx To J7):=c8 aae (by kernel_rfl) aj fun y=>by kernel_rfl
abbrev i74:Shape:=⟨[dw 0 [ax,ax,dA .need,dA .entry]],[],36⟩
abbrev ZD:Shape:=⟨[aC 2],[],36⟩
noncomputable def f74(a:i74.J):Option ZD.J:=
(J7 (((),()),(a.1.1.1,a.1.1.2.1,a.1.1.2.2.1,a.1.1.2.2.2.1,()),())).bind fun b=>
 bif b.1.2.1 then
 some ((false,()),())
else
(CT ((b.2.1.2.2.1,(),()),())).bind fun c=>
 bif c.1.1 then
(CS ((b.2.1.2.2.1,(),([b.2.1.1]:List F),()),())).bind fun d=>
 bif(!d.1.1) then
(f86 ((b.2.1.2.2.2.1,()),())).bind fun e=>
 some ((e.1.1,()),())
else
 some ((false,()),())
else
 some ((false,()),())
noncomputable def EK:aK:=a6 ak Tryz.f74 i74 ZD [] f74
theorem LZ:aL Z 74 EK:=ba aae Tryz.func74 (by kernel_rfl) (bd alc aj) (fun y=>by kernel_rfl) fun a=>by kernel_rfl
noncomputable abbrev amc:bl:=[(74,EK)]
theorem UC:bc Z (bi ak amc):=bj ⟨LZ,⟨⟩⟩
abbrev z':Shape:=⟨[(1,.ag (.fn 74 [])),aM 7 .pack,ad 8,ad 9],[],18⟩
abbrev F3:List aR:=[(.ret,⟨[aC 4],[],18⟩),(.exit 0,⟨[],[],18⟩)]
noncomputable def Al(y:z'.J):bR z' F3:=
 bif(decide (y.1.2.2.2.1<y.1.2.2.1)) then
(aQ y.1.2.1 y.1.2.2.2.1).bind fun a=>
(f74 (((a.name,a.aW,a.bh,a.bK,()),()),())).bind fun b=>
 bif(!b.1.1) then
 some (.inr (.inl ((false,()),())))
else
 some (.inl (((),y.1.2.1,y.1.2.2.1,(IntKind.i64.wrap (y.1.2.2.2.1+(1:Int))),()),()))
else
 some (.inr (.inr ((),())))
noncomputable def Gp:z'.J->Option (aF F3):=bu Al
theorem afU:aX Z (ap (codeOf Tryz.f101) 1 26) (bb z' F3 Gp):=bW UC (by kernel_rfl) aj fun y=>by kernel_rfl
abbrev T':Shape:=⟨[aM 0 .pack,(1,.ag (.fn 74 []))],[],18⟩
abbrev TQ:Shape:=⟨[aC 4],[],18⟩
noncomputable def CU(a:T'.J):Option TQ.J:=
(Gp (((),a.1.1,(a.1.1.length:Int),(0:Int),()),())).bind fun b=>
(match b with
|.inl c=>
 some ((c.1.1,()),())
|.inr d=>
 some ((true,()),()))
noncomputable def Uw:aK:=a6 ak Tryz.f101 T' TQ [] CU
theorem akH:aL Z 101 Uw:=ba UC Tryz.func101 (by kernel_rfl) (bd afU aj) (fun y=>by kernel_rfl) fun a=>by kernel_rfl
abbrev Bs:Shape:=⟨[aM 0 .pack,ad 3],[],22⟩
abbrev Iq:List aR:=[(.ret,⟨[aC 2],[],22⟩),(.exit 0,⟨[],[],22⟩)]
noncomputable def B0(y:Bs.J):bR Bs Iq:=
 bif(decide (y.1.2.1<(y.1.1.length:Int))) then
(aQ y.1.1 (IntKind.i64.wrap (y.1.2.1-(1:Int)))).bind fun a=>
(aQ y.1.1 y.1.2.1).bind fun b=>
 bif(!(Op.bytesLess a.name b.name)) then
 some (.inr (.inl ((false,()),())))
else
 some (.inl ((y.1.1,(IntKind.i64.wrap (y.1.2.1+(1:Int))),()),()))
else
 some (.inr (.inr ((),())))
noncomputable def I4:Bs.J->Option (aF Iq):=bu B0
theorem ajA:aX Z (ap (codeOf Tryz.f141) 1 26) (bb Bs Iq I4):=bW g0 (by kernel_rfl) aj fun y=>by kernel_rfl
abbrev i141:Shape:=⟨[aM 0 .pack],[],22⟩
abbrev WR:Shape:=⟨[aC 2],[],22⟩
noncomputable def f141(a:i141.J):Option WR.J:=
(I4 ((a.1.1,(1:Int),()),())).bind fun b=>
(match b with
|.inl c=>
 some ((c.1.1,()),())
|.inr d=>
 some ((true,()),()))
noncomputable def YG:aK:=a6 ak Tryz.f141 i141 WR [] f141
theorem z141:aL Z 141 YG:=ba g0 Tryz.func141 (by kernel_rfl) (bd ajA aj) (fun y=>by kernel_rfl) fun a=>by kernel_rfl
abbrev i156:Shape:=⟨[aM 0 .entry],[],6⟩
abbrev WH:Shape:=⟨[a' 2 3000128],[bg 3000128 .entry 2 0],6⟩
noncomputable def f156(a:i156.J):Option WH.J:=
(cw 48 ([]:List aG) a.1.1).bind fun b=>
 some (((),()),b,())
noncomputable def Yy:aK:=a6 ak Tryz.f156 i156 WH [] f156
theorem z156:aL Z 156 Yy:=ba g0 Tryz.func156 (by kernel_rfl) aj (fun y=>by kernel_rfl) fun a=>by kernel_rfl
noncomputable abbrev au7:bl:=[(156,Yy),(157,LH),(158,DQ)]
theorem Nf:bc Z (bi ak au7):=bj ⟨z156,z157,KA,⟨⟩⟩
abbrev Rm:Shape:=⟨[aM 1 .entry,a' 6 3000384,ad 7,ad 8,aC 9],[bg 3000384 .entry 6 0],69⟩
abbrev Q7:List aR:=[(.norm,⟨[aM 1 .entry,a' 6 3000384,ad 7,ad 8,aC 9,aC 28,aC 29,aC 47],[bg 3000384 .entry 6 0],69⟩)]
noncomputable def Hu(y:Rm.J):Option (aF Q7):=
 bif y.1.2.2.2.2.1 then
(aU y.2.1.length y.1.2.2.2.1).bind fun a=>
(y.2.1[a]?).bind fun b=>
 bif(b.kind !=(1:Int)) then
 some ((y.1.1,(),y.1.2.2.1,y.1.2.2.2.1,y.1.2.2.2.2.1,y.1.2.2.2.2.1,true,true,()),y.2.1,())
else
(aQ y.1.1 y.1.2.2.1).bind fun c=>
(aU y.2.1.length y.1.2.2.2.1).bind fun d=>
(y.2.1[d]?).bind fun e=>
 some ((y.1.1,(),y.1.2.2.1,y.1.2.2.2.1,y.1.2.2.2.2.1,y.1.2.2.2.2.1,true,(!((c.path==e.path)&&((c.kind==e.kind)&&((c.mode==e.mode)&&(c.text==e.text))))),()),y.2.1,())
else
 some ((y.1.1,(),y.1.2.2.1,y.1.2.2.2.1,y.1.2.2.2.2.1,y.1.2.2.2.2.1,false,false,()),y.2.1,())
theorem ahe:aX Z (ap (di (ap (codeOf Tryz.f96) 1 58)) 116 7460) (bb Rm Q7 Hu):=c8 Nf (by kernel_rfl) aj fun y=>by kernel_rfl
abbrev w6:Shape:=⟨[aM 1 .entry,a' 6 3000384,ad 7],[bg 3000384 .entry 6 0],69⟩
abbrev qj:List aR:=[(.ret,⟨[a' 4 3000256,aC 5],[bg 3000256 .entry 4 0],69⟩),(.exit 0,⟨[a' 6 3000384],[bg 3000384 .entry 6 0],69⟩)]
noncomputable def CD(y:w6.J):bR w6 qj:=
 bif(decide (y.1.2.2.1<(y.1.1.length:Int))) then
(aQ y.1.1 y.1.2.2.1).bind fun a=>
(f157 ((y.2.1,a.path,()),())).bind fun b=>
(Hu ((y.1.1,(),y.1.2.2.1,b.1.1,b.1.2.1,()),y.2.1,())).bind fun c=>
 bif c.1.2.2.2.2.2.2.2.1 then
 some (.inr (.inl (((),false,()),([]:List aG),())))
else
 bif(!c.1.2.2.2.2.1) then
(bD c.2.1 (0:Int) c.1.2.2.2.1).bind fun d=>
(cw 48 ([]:List aG) d).bind fun e=>
(aQ c.1.1 c.1.2.2.1).bind fun f=>
(cw 48 e ([f]:List aG)).bind fun g=>
(bD c.2.1 c.1.2.2.2.1 (c.2.1.length:Int)).bind fun h=>
(cw 48 g h).bind fun i=>
 some (.inl ((c.1.1,(),(IntKind.i64.wrap (c.1.2.2.1+(1:Int))),()),i,()))
else
 some (.inl ((c.1.1,(),(IntKind.i64.wrap (c.1.2.2.1+(1:Int))),()),c.2.1,()))
else
 some (.inr (.inr (((),()),y.2.1,())))
noncomputable def JO:w6.J->Option (aF qj):=bu CD
theorem ak2:aX Z (ap (codeOf Tryz.f96) 1 58) (bb w6 qj JO):=bW Nf (by kernel_rfl) (bd ahe aj) fun y=>by kernel_rfl
abbrev i96:Shape:=⟨[aM 0 .entry,aM 1 .entry],[],69⟩
abbrev Zr:Shape:=⟨[a' 4 3000256,aC 5],[bg 3000256 .entry 4 0],69⟩
noncomputable def f96(a:i96.J):Option Zr.J:=
(f156 ((a.1.1,()),())).bind fun b=>
(JO ((a.1.2.1,(),(0:Int),()),b.2.1,())).bind fun c=>
(match c with
|.inl d=>
 some (((),d.1.2.1,()),d.2.1,())
|.inr e=>
(f158 ((e.2.1,()),())).bind fun f=>
 some (((),f.1.1,()),e.2.1,()))
noncomputable def _H:aK:=a6 ak Tryz.f96 i96 Zr [] f96
theorem arZ:aL Z 96 _H:=ba Nf Tryz.func96 (by kernel_rfl) (bd ak2 aj) (fun y=>by kernel_rfl) fun a=>by kernel_rfl
noncomputable abbrev au5:bl:=[(158,DQ),(161,LG),(162,LF),(163,Yw)]
theorem avC:bc Z (bi ak au5):=bj ⟨KA,Vv,z162,aof,⟨⟩⟩
abbrev i98:Shape:=⟨[dw 0 [ax,ax,dA .need,dA .entry]],[],23⟩
abbrev Zp:Shape:=⟨[aC 2],[],23⟩
noncomputable def f98(a:i98.J):Option Zp.J:=
(f161 ((a.1.1.1,()),())).bind fun b=>
 bif b.1.1 then
(f162 ((a.1.1.2.1,()),())).bind fun c=>
 bif c.1.1 then
(f163 ((a.1.1.1,a.1.1.2.2.1,()),())).bind fun d=>
 bif d.1.1 then
(f158 ((a.1.1.2.2.2.1,()),())).bind fun e=>
 some ((e.1.1,()),())
else
 some ((false,()),())
else
 some ((false,()),())
else
 some ((false,()),())
noncomputable def M':aK:=a6 ak Tryz.f98 i98 Zp [] f98
theorem Zf:aL Z 98 M':=ba avC Tryz.func98 (by kernel_rfl) aj (fun y=>by kernel_rfl) fun a=>by kernel_rfl
abbrev k6(p:aT):Prop:=cN p.name.length/\cN p.aW.length/\uZ p.bh/\jk p.bK
abbrev ic(ps:List aT):Prop:=cN ps.length/\∀p,p∈ps->k6 p
def cT(p:aT):Bool:=ju p.name&&ev p.aW&&rE p.name p.bh&&dY p.bK
theorem GH(a)(hb:k6 ⟨a.1.1.1,a.1.1.2.1,a.1.1.2.2.1,a.1.1.2.2.2.1⟩):f98 a=some ((cT ⟨a.1.1.1,a.1.1.2.1,a.1.1.2.2.1,a.1.1.2.2.2.1⟩,()),()):=by
 obtain⟨⟨⟨n,v,ns,t,u⟩,b9⟩,po⟩:=a;obtain⟨h1,h2,h3,aE⟩:=hb;have h1:n.length<=2097152:=h1;have e1:=QX ((n,()),()) (show n.length<=1099511627776 by omega)
 have e2:=Oz ((v,()),()) h2;have bp:=aeN ((n,(ns,())),()) h3 h1;have dU:=Aq ((t,()),()) aE;simp only[f98,e1,e2,bp,dU,Option.bind_some,cT];cases ju n<;>cases ev v<;>cases rE n ns<;>rfl
theorem zN(a)(hb:k6 ⟨a.1.1.1,a.1.1.2.1,a.1.1.2.2.1,a.1.1.2.2.2.1⟩):f74 a=some ((cT ⟨a.1.1.1,a.1.1.2.1,a.1.1.2.2.1,a.1.1.2.2.2.1⟩,()),()):=by
 obtain⟨⟨⟨n,v,ns,t,u⟩,b9⟩,po⟩:=a;obtain⟨h1,h2,h3,aE⟩:=hb;have h1:n.length<=2097152:=h1;have e1:=Of ((n,()),()) (show n.length<=1099511627776 by omega)
 have e2:=Fe ((v,()),()) h2;have bp:=ae0 ((ns,((),())),()) h3;have dU:=rf ((t,()),()) aE;have hD:=abS ((ns,((),(([n]:List F),()))),()) h3 (Nat.le_refl _);have cB:decide ((ns.length:Int)>6)=!decide (ns.length<=6):=by by_cases h:ns.length<=6<;>simp only[h,decide_true,decide_false,Bool.not_true,Bool.not_false,decide_eq_true_eq,decide_eq_false_iff_not]<;>omega
 have Y:kl [] (n::ns.map (·.name))=kl [n] (ns.map (·.name)):=by simp[kl]
 simp only[f74,J7,e1,e2,Option.bind_some,cT,rE,Y,cB,Bool.not_not];cases ju n with
 |false=>rfl
 |true=>
  cases ev v with
  |false=>rfl
  |true=>
   cases decide (ns.length<=6) with
   |false=>simp only[cond_true,Bool.not_false,Option.bind_some,Bool.and_false,Bool.false_and]
   |true=>
    simp only[cond_true,Bool.not_true,cond_false,Option.bind_some,bp,hD,dU,Bool.true_and,Bool.and_true];cases List.all ns dB<;>cases kl [n] (ns.map (·.name))<;>rfl
theorem aeZ(a)(hs:ic a.1.1):CU a=some ((a.1.1.all cT,()),()):=by
 obtain⟨⟨ps,u⟩,b9⟩:=a;obtain⟨hl,hn⟩:=hs;have hl:ps.length<=2097152:=hl;have key:Gp (((),(ps,((ps.length:Int),((0:Int),())))),())=some (bif allI (fun _ n=>cT n) 0 ps then .inr ((),()) else .inl ((false,()),())):=by
  refine gS Al ps (fun i=>(((),(ps,((ps.length:Int),((i:Int),())))),())) _ _ _ (fun i x hx=>?_) ?_
  ·have hi:=dj hx;have hw:am i:=by unfold am;omega
   have hb:=hn x (List.mem_of_getElem? hx);simp only[Al,cn hi,cond_true,cc,hx,Option.bind_some];rw[zN _ hb];simp only[Option.bind_some,b6 hw];cases cT x<;>rfl
  ·simp only[Al,dr,cond_false]
 rw[hZ] at key;simp only[CU,key,Option.bind_some];cases List.all ps cT<;>rfl
def pb(ps:List aT)(i:Nat)(x:aT):Bool:=match ps[i]? with
 |some q=>Op.bytesLess q.name x.name
 |none=>false
def ms(ps:List aT):Bool:=allI (pb ps) 0 ps.tail
theorem abt(a)(hs:cN a.1.1.length):f141 a=some ((ms a.1.1,()),()):=by
 obtain⟨⟨ps,u⟩,b9⟩:=a;have hs:ps.length<=2097152:=hs;have key:I4 ((ps,((1:Int),())),())=some (bif allI (pb ps) 0 ps.tail then .inr ((),()) else .inl ((false,()),())):=by
  refine gS B0 ps.tail (fun i=>((ps,(((i+1:Nat):Int),())),())) _ _ _ (fun i x hx=>?_) ?_
  ·have ly:ps[i+1]? =some x:=by rw[List.getElem?_tail] at hx;exact hx
   have hi:=dj ly;have hw:am (i+1):=by unfold am;omega
   obtain⟨q,al⟩:∃q,ps[i]? =some q:=⟨ps[i],List.getElem?_eq_getElem (by omega)⟩
   simp only[B0,cn hi,cond_true,zK (i:=i) (by unfold am;omega),cc,al,ly,Option.bind_some,b6 hw,pb]
   cases Op.bytesLess q.name x.name<;>rfl
  ·have:decide (((ps.tail.length+1:Nat):Int)<(ps.length:Int))=false:=by
    simp only[decide_eq_false_iff_not,List.length_tail];omega
   simp only[B0,this,cond_false]
 simp only[f141,key,Option.bind_some,ms];cases allI (pb ps) 0 ps.tail<;>rfl
def nI(a b:aG):Bool:=a.path==b.path&&(a.kind==b.kind&&(a.mode==b.mode&&a.text==b.text))
def pm(e q:aG):Bool:=e.kind !=1||!nI e q
theorem aij(a b:aG):nI a b=nI b a:=by
 unfold nI;have h1:(a.path==b.path)=(b.path==a.path):=BEq.comm;have h2:(a.kind==b.kind)=(b.kind==a.kind):=BEq.comm;have h3:(a.mode==b.mode)=(b.mode==a.mode):=BEq.comm;have aE:(a.text==b.text)=(b.text==a.text):=BEq.comm;rw[h1,h2,h3,aE]
theorem aki(e q:aG):pm e q=(q.kind !=1||!nI e q):=by
 unfold pm;cases h:nI e q with
 |false=>simp
 |true=>
  unfold nI at h;simp only[Bool.and_eq_true] at h;rw[show e.kind=q.kind from eq_of_beq h.2.1]
def lm(t:List aG)(k:Nat)(e:aG):List aG:=t.take k++[e]++t.drop k
def iz(out:List aG):List aG->Option (List aG)
 |[]=>some out
 |e::r=>match out[ci out e.path]? with
  |some q=>bif q.path==e.path then(bif pm e q then none else iz out r) else iz (lm out (ci out e.path) e) r
  |none=>iz (lm out (ci out e.path) e) r
theorem Qz(t:List aG)(k:Nat)(e:aG)(h:k<=t.length):(lm t k e).length=t.length+1:=by
 unfold lm;simp only[List.length_append,List.length_take,List.length_cons,List.length_nil,List.length_drop];omega
theorem Qy{t:List aG}{k:Nat}{e x:aG}(h:x∈lm t k e):x=e\/x∈t:=by
 unfold lm at h;rcases List.mem_append.1 h with h|h
 ·rcases List.mem_append.1 h with h|h
  ·exact .inr (List.mem_of_mem_take h)
  ·exact .inl (by simpa using h)
 ·exact .inr (List.mem_of_mem_drop h)
def jd(out:List aG)(e:aG):Option (List aG):=match out[ci out e.path]? with
 |some q=>bif q.path==e.path then(bif pm e q then none else some out) else some (lm out (ci out e.path) e)
 |none=>some (lm out (ci out e.path) e)
theorem zG(out:List aG)(e:aG)(r:List aG):iz out (e::r)=(jd out e).bind fun D=>iz D r:=by
 unfold jd;rw[iz];cases out[ci out e.path]? with
 |none=>rfl
 |some q=>
  simp only;cases (q.path==e.path) with
  |false=>rfl
  |true=>cases pm e q<;>rfl
theorem zQ{out D:List aG}{e:aG}(h:jd out e=some D):D.length<=out.length+1:=by
 unfold jd at h;split at h
 ·rename_i q al;cases hp:(q.path==e.path) with
  |true=>
   rw[hp] at h;cases hc:pm e q with
   |true=>rw[hc] at h;cases h
   |false=>rw[hc] at h;cases h;omega
  |false=>rw[hp] at h;cases h;rw[Qz _ _ _ (tE _ _)];omega
 ·cases h;rw[Qz _ _ _ (tE _ _)];omega
theorem F5{out D:List aG}{e x:aG}(h:jd out e=some D)(hx:x∈D):x=e\/x∈out:=by
 unfold jd at h;split at h
 ·rename_i q al;cases hp:(q.path==e.path) with
  |true=>
   rw[hp] at h;cases hc:pm e q with
   |true=>rw[hc] at h;cases h
   |false=>rw[hc] at h;cases h;exact .inr hx
  |false=>rw[hp] at h;cases h;exact Qy hx
 ·cases h;exact Qy hx
theorem akp{t:List aG}{e:aG}(ha:ht t)(hn:kM t e.path=false):ht (lm t (ci t e.path) e):=by
 have Xq:∀a,a∈t.take (ci t e.path)->Op.bytesLess a.path e.path=true:=by
  intro a h;obtain⟨k,hk⟩:=List.mem_iff_getElem?.1 h;have _c:k<ci t e.path:=by have:=dj hk;rw[List.length_take] at this;omega
  have MH:t[k]? =some a:=by rw[List.getElem?_take,if_pos _c] at hk;exact hk
  rw[mM ha k a MH];simpa using _c
 have U8:∀a,a∈t.drop (ci t e.path)->Op.bytesLess e.path a.path=true:=by
  intro a h;obtain⟨k,hk⟩:=List.mem_iff_getElem?.1 h;rw[List.getElem?_drop] at hk;have h1:=mM (p:=e.path) ha _ a hk;have h2:Op.bytesLess a.path e.path=false:=by rw[h1];simp
  refine alW _ _ h2 ?_
  cases al:(a.path==e.path) with
  |false=>rfl
  |true=>
   exfalso
   cases k with
   |zero=>
    unfold kM at hn;rw[Nat.add_zero] at hk;rw[hk] at hn;simp only[al] at hn;cases hn
   |succ k=>
    have hlt:=dj hk;obtain⟨q,MA⟩:∃q,t[ci t e.path]? =some q:=⟨_,List.getElem?_eq_getElem (by omega)⟩
    have h3:=List.pairwise_iff_getElem.1 ha (ci t e.path) (ci t e.path+(k+1)) (dj MA) hlt (by omega)
    rw[(List.getElem?_eq_some_iff.1 MA).2,(List.getElem?_eq_some_iff.1 hk).2] at h3;have aE:=mM (p:=e.path) ha _ q MA;rw[<-eq_of_beq al,h3] at aE;simp at aE
 unfold ht lm;refine List.pairwise_append.2 ⟨List.pairwise_append.2 ⟨ha.take _,by simp,?_⟩,List.Pairwise.sublist (List.drop_sublist _ _) ha,?_⟩
 ·intro a h b hb;have hb:b=e:=by simpa using hb
  subst hb;exact Xq a h
 ·intro a h b hb;rcases List.mem_append.1 h with h|h
  ·exact wD _ _ _ (Xq a h) (U8 b hb)
  ·have h:a=e:=by simpa using h
   subst h;exact U8 b hb
theorem afb{out D:List aG}{e:aG}(ha:ht out)(h:jd out e=some D):ht D:=by
 unfold jd at h;have hno:∀{b:Bool},kM out e.path=b->b=false->ht (lm out (ci out e.path) e):=fun h1 h2=>akp ha (h1.trans h2)
 split at h
 ·rename_i q al;cases hp:(q.path==e.path) with
  |true=>
   rw[hp] at h;cases hc:pm e q with
   |true=>rw[hc] at h;cases h
   |false=>rw[hc] at h;cases h;exact ha
  |false=>rw[hp] at h;cases h;exact hno (by unfold kM;rw[al]) hp
 ·rename_i al;cases h;exact hno (by unfold kM;rw[al]) rfl
theorem agM(a)(ha:jk a.1.1)(hb:jk a.1.2.1)(hl:a.1.1.length+a.1.2.1.length<=2097152):f96 a=
  some (match iz a.1.1 a.1.2.1 with|some out=>(((),(dY out,())),(out,()))|none=>(((),(false,())),(([]:List aG),()))):=by
 obtain⟨⟨xs,ys,u⟩,b9⟩:=a;have hl:xs.length+ys.length<=2097152:=hl;have hc:f156 ((xs,()),())=some (((),()),(xs,())):=by
  simp only[f156];rw[ew (by decide) (by unfold am;simp only[List.length_nil];omega)]
  rfl
 have key:JO ((ys,((),((0:Int),()))),(xs,()))=_:=mN CD ys (fun i (out:List aG)=>((ys,((),((i:Int),()))),(out,())))
  (fun i e out=>some (match jd out e with|some D=>.inl D|none=>.inr ((.inl (((),(false,())),(([]:List aG),()))):aF qj))) (fun out=>((.inr (((),()),(out,()))):aF qj))
  (fun i out=>out.length<=xs.length+i/\∀e,e∈out->mD e) xs ⟨Nat.le_refl _,ha.2⟩ (fun i x out hx dz=>?_) (fun out _=>?_)
 ·have fold:∀(r:List aG) (k:Nat) (out:List aG),fg (fun i e out=>some (match jd out e with|some D=>.inl D|none=>.inr ((.inl (((),(false,())),(([]:List aG),()))):aF qj))) (fun out=>((.inr (((),()),(out,()))):aF qj)) k r out=
    some (match iz out r with|some D=>.inr (((),()),(D,()))|none=>.inl (((),(false,())),(([]:List aG),()))):=by
   intro r;induction r with
   |nil=>intro k out;rfl
   |cons e r ih=>
    intro k out;rw[zG];simp only[fg];cases jd out e with
    |none=>rfl
    |some D=>simp only[Option.bind_some];exact ih _ _
  have mem:∀(r:List aG) (out D:List aG),(∀e,e∈r->mD e)->(∀e,e∈out->mD e)->iz out r=some D->D.length<=out.length+r.length/\∀e,e∈D->mD e:=by
   intro r;induction r with
   |nil=>intro out D _ h2 h;cases h;exact⟨Nat.le_refl _,h2⟩
   |cons e r ih=>
    intro out D h1 h2 h;rw[zG] at h;obtain⟨o1,h3,aE⟩:=Option.bind_eq_some_iff.1 h;have br:=ih o1 D (fun x hx=>h1 x (List.mem_cons_of_mem _ hx)) (fun x hx=>by
     rcases F5 h3 hx with rfl|h
     ·exact h1 x List.mem_cons_self
     ·exact h2 x h) aE
    have cB:=zQ h3;exact⟨by simp only[List.length_cons];omega,br.2⟩
  rw[fold] at key;simp only[f96,hc,Option.bind_some,key];cases hj:iz xs ys with
  |none=>rfl
  |some D=>
   have hm:=mem ys xs D hb.2 ha.2 hj;simp only[Option.bind_some];rw[Aq _ ⟨show D.length<=2097152 by omega,hm.2⟩]
   rfl
 ·have hi:=dj hx;have hw:am i:=by unfold am;omega
  refine⟨?_,fun au ae=>?_⟩
  ·have lG:=Th ((out,(x.path,())),()) (show out.length<=2097152 by omega)
   have k2:=tE out x.path;simp only[CD,cn hi,cond_true,cc,hx,Option.bind_some,lG,Hu,kM,jd];have grow:((bD out 0 (ci out x.path:Int)).bind fun aoC=>(cw 48 ([]:List aG) aoC).bind fun aoB=>(cw 48 aoB ([x]:List aG)).bind fun aoA=>(bD out (ci out x.path:Int) (out.length:Int)).bind fun aoz=>(cw 48 aoA aoz).bind fun aoy=>
     (some (.inl ((ys,((),((IntKind.i64.wrap ((i:Int)+(1:Int))),()))),(aoy,()))):Option (Sum w6.J (aF qj))))=some (.inl ((ys,((),(((i+1:Nat):Int),()))),(lm out (ci out x.path) x,()))):=by
    have hlen:(out.take (ci out x.path)).length<=out.length:=by rw[List.length_take];omega
    have axc:(out.drop (ci out x.path)).length<=out.length:=by rw[List.length_drop];omega
    rw[iJ k2,Option.bind_some,ew (by decide) (by unfold am;simp only[List.length_nil];omega),Option.bind_some,ew (by decide) (by unfold am;simp only[List.length_nil,List.length_cons,List.nil_append];omega),Option.bind_some,hI k2,Option.bind_some,
     ew (by decide) (by unfold am;simp only[List.length_append,List.length_nil,List.length_cons,List.nil_append];omega),Option.bind_some,b6 hw]
    rfl
   cases al:out[ci out x.path]? with
   |none=>simp only[cond_false,Option.bind_some,Bool.not_false,cond_true,cc,hx];exact grow
   |some q=>
    have hin:=gg (dj al);simp only;cases hp:(q.path==x.path) with
    |false=>simp only[cond_false,Option.bind_some,Bool.not_false,cond_true,cc,hx];exact grow
    |true=>
     have vt:((x.path==q.path)&&((x.kind==q.kind)&&((x.mode==q.mode)&&(x.text==q.text))))=nI x q:=rfl;rw[aki];simp only[cond_true,hin,al,Option.bind_some,cc,hx,vt];cases hk:(q.kind !=1) with
     |true=>rfl
     |false=>
      simp only[cond_false,Option.bind_some,Bool.false_or];cases nI x q with
      |false=>rfl
      |true=>simp only[Bool.not_true,cond_false,Option.bind_some,b6 hw];rfl
  ·simp only[Option.some.injEq] at ae;cases hs:jd out x with
   |none=>rw[hs] at ae;cases ae
   |some D=>
    rw[hs] at ae;cases ae;have cB:=zQ hs;refine⟨by omega,fun e he=>?_⟩
    rcases F5 hs he with rfl|h
    ·exact hb.2 e (List.mem_of_getElem? hx)
    ·exact dz.2 e h
 ·simp only[CD,dr,cond_false]
abbrev i159:Shape:=⟨[aM 0 .entry],[],8⟩
abbrev KS:Shape:=⟨[a' 2 3000128],[bg 3000128 .entry 2 0],8⟩
noncomputable def f159(a:i159.J):Option KS.J:=
 rm (t:=.entry) a.1.1 (some (((),()),([]:List aG),())) ((cw 48 ([]:List aG) a.1.1).bind fun b=>
 some (((),()),b,()))
noncomputable def Yx:aK:=a6 ak Tryz.f159 i159 KS [] f159
theorem z159:aL Z 159 Yx:=ba g0 Tryz.func159 (by kernel_rfl) aj (fun y=>by kernel_rfl) fun a=>by kernel_rfl
noncomputable abbrev avm:bl:=[(96,_H)]
theorem aaj:bc Z (bi ak avm):=bj ⟨arZ,⟨⟩⟩
abbrev Cp:Shape:=⟨[aM 0 .pack,a' 4 3000256,ad 5],[bg 3000256 .entry 4 0],30⟩
abbrev rN:List aR:=[(.ret,⟨[a' 2 3000128,aC 3],[bg 3000128 .entry 2 0],30⟩),(.exit 0,⟨[a' 4 3000256],[bg 3000256 .entry 4 0],30⟩)]
noncomputable def CL(y:Cp.J):bR Cp rN:=
 bif(decide (y.1.2.2.1<(y.1.1.length:Int))) then
(aQ y.1.1 y.1.2.2.1).bind fun a=>
(f96 ((y.2.1,a.bK,()),())).bind fun b=>
 bif(!b.1.2.1) then
 some (.inr (.inl (((),false,()),([]:List aG),())))
else
 some (.inl ((y.1.1,(),(IntKind.i64.wrap (y.1.2.2.1+(1:Int))),()),b.2.1,()))
else
 some (.inr (.inr (((),()),y.2.1,())))
noncomputable def JX:Cp.J->Option (aF rN):=bu CL
theorem alg:aX Z (ap (codeOf Tryz.f51) 1 58) (bb Cp rN JX):=bW aaj (by kernel_rfl) aj fun y=>by kernel_rfl
abbrev i51:Shape:=⟨[aM 0 .pack],[],30⟩
abbrev ZK:Shape:=⟨[a' 2 3000128,aC 3],[bg 3000128 .entry 2 0],30⟩
noncomputable def f51(a:i51.J):Option ZK.J:=
(JX ((a.1.1,(),(0:Int),()),([]:List aG),())).bind fun b=>
(match b with
|.inl c=>
 some (((),c.1.2.1,()),c.2.1,())
|.inr d=>
 some (((),true,()),d.2.1,()))
noncomputable def _V:aK:=a6 ak Tryz.f51 i51 ZK [] f51
theorem z51:aL Z 51 _V:=ba aaj Tryz.func51 (by kernel_rfl) (bd alg aj) (fun y=>by kernel_rfl) fun a=>by kernel_rfl
theorem agf(g n c i vb m vc:Nat)(cur vcur:Array Value)(te ve:TypeId)(w:World)(hi:i<n)(hm:0<m)(hroom:n+m<=c)(hc63:c<=9223372036854775807)(hne:vb≠g)
  (hg:w.heap[g]? =some (.cells cur te (0,0))) (hv:w.heap[vb]? =some (.cells vcur ve (0,0))) (hcs:cur.size=c*4) (hvs:m*4<=vcur.size)
  (h1c:∀v∈cur.toList.take (n*4),v.oneCell'=true) (h1v:∀v∈vcur.toList.take (m*4),v.oneCell'=true):
  Calls Z 160 #[.slice (some ⟨g,0,none⟩) n c,.int .i64 i,.slice (some ⟨vb,0,none⟩) m vc] w fun e w'=>
   e=.returned (.slice (some ⟨g,0,none⟩) (n+m) c)/\w'=w.drew.setRow g (bA (bA cur.toList ((i+m)*4) ((cur.toList.take (n*4)).drop (i*4))) (i*4) (vcur.toList.take (m*4))).toArray:=by
 have t33:Z.underlying 26=some (.slice 73):=by kernel_rfl
 have hsz:(Z.info? 73).map (·.size)=some 4:=by kernel_rfl
 have hz1:¬((m:Int)=0):=by omega
 have hz2:¬((i:Int)=(n:Int)):=by omega
 have hov:∀off lb cb,(callFunc 213 #[.slice (some ⟨vb,0,none⟩) m vc,.slice (some ⟨g,off,none⟩) lb cb]).run Z w=.ok (.value (.bool false)) w:=fun off lb cb=>by
  rw[run_callFunc_extern Tryz.func213 (by kernel_rfl) (by kernel_rfl) (by kernel_rfl) (e:=Extern.SlicesOverlaps.overlaps #[26,26] #[4]) (by kernel_rfl),
   Lib.run_overlaps_apart w 26 4 73 t33 4 (fun w=>by kernel_rfl) ⟨vb,0,none⟩ ⟨g,off,none⟩ m vc lb cb hne ve te vcur.size cur.size (by simp[World.shape?,hv]) (by simp[World.shape?,hg]) (by omega) (by simp[World.frozen?,hv]) (by simp[World.frozen?,hv])]
  rfl
 have hdl:((cur.toList.take (n*4)).drop (i*4)).length=(n-i)*4:=by simp only[List.length_drop,List.length_take,Array.length_toList,hcs];rw[Nat.min_eq_left (by omega),Nat.sub_mul]
 have hcl:∀j v,(cur.toList.take (n*4))[j]? =some v->w.cell? ⟨g,j,none⟩=some v:=fun j v h=>by
  rw[List.getElem?_take] at h;split at h
  ·simpa[World.cell?,hg] using h
  ·cases h
 have hcv:∀j v,(vcur.toList.take (m*4))[j]? =some v->w.cell? ⟨vb,j,none⟩=some v:=fun j v h=>by
  rw[List.getElem?_take] at h;split at h
  ·simpa[World.cell?,hv] using h
  ·cases h
 have hcp1:∀ty dc sc,(Builtin.copy_ #[26,26] ty #[.slice (some ⟨g,(i+m)*4,none⟩) (n+m-(i+m)) dc,.slice (some ⟨g,i*4,none⟩) (n+m-i) sc]).run Z w.drew=
   .ok (goInt (Nat.min (n+m-i) (n+m-(i+m)))) (w.drew.setRow g (bA cur.toList ((i+m)*4) ((cur.toList.take (n*4)).drop (i*4))).toArray):=fun ty dc sc=>
  zD w.drew _ _ ty 73 4 g ((i+m)*4) (n+m-(i+m)) dc ⟨g,i*4,none⟩ (n+m-i) sc cur te _ t33 hsz hg (by rw[hdl];simp only[Nat.min_def];split<;>omega)
   (fun j v hj=>by rw[Addr.add_lit];exact hcl (i*4+j) v (by rwa[List.getElem?_drop] at hj)) (by rw[hdl,hcs];omega) (fun v hv=>h1c v (List.mem_of_mem_drop hv))
 obtain⟨cur1,hcur1⟩:∃cur1,cur1=(bA cur.toList ((i+m)*4) ((cur.toList.take (n*4)).drop (i*4))).toArray:=⟨_,rfl⟩;rw[<-hcur1] at hcp1;have hc1s:cur1.size=c*4:=by rw[hcur1];simp only[bA,List.size_toArray,List.length_append,List.length_drop,List.length_take,Array.length_toList,hcs];omega
 have hcp2:∀(W:World),W.heap=(w.drew.setRow g cur1).heap->∀ty dc,(Builtin.copy_ #[26,26] ty #[.slice (some ⟨g,i*4,none⟩) (n+m-i) dc,.slice (some ⟨vb,0,none⟩) m vc]).run Z W=
   .ok (goInt (Nat.min m (n+m-i))) (W.setRow g (bA cur1.toList (i*4) (vcur.toList.take (m*4))).toArray):=fun W hW ty dc=>
  zD W _ _ ty 73 4 g (i*4) (n+m-i) dc ⟨vb,0,none⟩ m vc cur1 te _ t33 hsz (by rw[hW];exact setRow_heap w.drew g cur cur1 te (0,0) hg)
   (by simp only[List.length_take,Array.length_toList,Nat.min_def];split<;>split<;>omega)
   (fun j v hj=>by
    have:=hcv j v hj;rw[Addr.add_lit,Nat.zero_add];unfold World.cell? at this ⊢;rw[hW,show(w.drew.setRow g cur1).heap[vb]? =w.heap[vb]? from setRow_other w.drew g vb cur1 hne];exact this) (by simp only[List.length_take,Array.length_toList];omega) h1v
 have hE:w.drew.setRow g (bA (bA cur.toList ((i+m)*4) ((cur.toList.take (n*4)).drop (i*4))) (i*4) (vcur.toList.take (m*4))).toArray=(w.drew.setRow g cur1).setRow g (bA cur1.toList (i*4) (vcur.toList.take (m*4))).toArray:=by
  rw[setRow_setRow,hcur1]
 rw[hE];clear hE hcur1;have hw1:IntKind.i64.wrap ((i:Int)+(m:Int))=(i:Int)+(m:Int):=by rw[IntKind.wrap_i64];omega
 have hb1:(0:Int)<=(i:Int)+(m:Int):=by omega
 have hin:i<=n:=by omega
 have htn:((i:Int)+(m:Int)).toNat=i+m:=by omega
 have hb2:¬(c=i+m):=by omega
 have hb3:(i:Int)<=(n:Int)+(m:Int):=by omega
 have hb4:¬(c=i):=by omega
 go_enter Tryz.func160,Tryz.ntmps160
 go_wp2_with (simp only[hov])
 go_region_law (refine OG rfl _ _ 26 26 rfl (.slice (some ⟨g,(i+m)*4,none⟩) (n+m-(i+m)) (c-(i+m))) (.slice (some ⟨g,i*4,none⟩) (n+m-i) (c-i)) (by simp[Act.eval,Act.put]) (by simp[Act.eval,Act.put]) (hcp1 _ _ _) ?_)
 go_wp2_with (at_builtin;refine Oa _ rfl _ _ 26 26 rfl _ _ rfl rfl (hcp2 _ rfl _ _) ?_)
 go_ret
 exact⟨rfl,rfl⟩
theorem agi(xa:Option Addr)(vc:Nat)(w:World):
  Calls Z 160 #[.slice none 0 0,.int .i64 0,.slice xa 0 vc] w fun e w'=>e=.returned (.slice none 0 0)/\w'=w:=by
 go_enter Tryz.func160,Tryz.ntmps160
 go_wp2
 go_ret
 exact⟨rfl,rfl⟩
theorem agh(g n c i:Nat)(xa:Option Addr)(vc:Nat)(w:World)(hi:i<=n)(hnc:n<=c)(hc63:c<=9223372036854775807):
  Calls Z 160 #[.slice (some ⟨g,0,none⟩) n c,.int .i64 i,.slice xa 0 vc] w fun e w'=>e=.returned (.slice (some ⟨g,0,none⟩) n c)/\w'=w:=by
 go_enter Tryz.func160,Tryz.ntmps160
 go_wp2
 all_goals(go_ret;exact⟨rfl,rfl⟩)
theorem ah8(xa:Option Addr)(m vc:Nat)(w:World)(hm:0<m)(v':Value)(W:World)(hr:∀ty,(Builtin.append_ #[26,26] ty #[.slice none 0 0,.slice xa m vc]).run Z w=.ok v' W):
  Calls Z 160 #[.slice none 0 0,.int .i64 0,.slice xa m vc] w fun e w'=>e=.returned v'/\w'=W:=by
 have hz1:¬((m:Int)=0):=by omega
 go_enter Tryz.func160,Tryz.ntmps160
 go_wp2_with (at_builtin;refine E' _ rfl _ _ 26 26 rfl _ _ rfl rfl (hr _) ?_)
 go_ret
 exact⟨rfl,rfl⟩
theorem ah7(g n c:Nat)(xa:Option Addr)(m vc:Nat)(w:World)(hnc:n<=c)(hc63:c<=9223372036854775807)(hm:0<m)(v':Value)(W:World)(hr:∀ty,(Builtin.append_ #[26,26] ty #[.slice (some ⟨g,0,none⟩) n c,.slice xa m vc]).run Z w=.ok v' W):
  Calls Z 160 #[.slice (some ⟨g,0,none⟩) n c,.int .i64 n,.slice xa m vc] w fun e w'=>e=.returned v'/\w'=W:=by
 have hz1:¬((m:Int)=0):=by omega
 go_enter Tryz.func160,Tryz.ntmps160
 go_wp2_with (at_builtin;refine E' _ rfl _ _ 26 26 rfl _ _ rfl rfl (hr _) ?_)
 all_goals(go_ret;exact⟨rfl,rfl⟩)
theorem ah6(g n c i vb m vc:Nat)(cur vcur:Array Value)(te ve:TypeId)(w:World)(hi:i<n)(hm:0<m)(hnc:n<=c)(hroom:c<n+m)(hc63:c<=9223372036854775807)(hbig:(n+m)*48<=140737488355328)
  (hg:w.heap[g]? =some (.cells cur te (0,0))) (hv:w.heap[vb]? =some (.cells vcur ve (0,0))) (hcs:cur.size=c*4) (hvs:m*4<=vcur.size)
  (h1c:∀v∈cur.toList.take (n*4),v.oneCell'=true) (h1v:∀v∈vcur.toList.take (m*4),v.oneCell'=true):
  ∃G ROW,∃W:World,G<=maxLen/\n+m<=G/\ROW.size=G*4/\ROW.toList.take (i*4)=cur.toList.take (i*4)/\W.os=w.os/\W.tape=w.tape/\W.output=w.output/\W.heap=w.heap.push (.cells ROW 73 (0,0))/\
  Calls Z 160 #[.slice (some ⟨g,0,none⟩) n c,.int .i64 i,.slice (some ⟨vb,0,none⟩) m vc] w fun e w'=>
   e=.returned (.slice (some ⟨w.heap.size,0,none⟩) (n+m) G)/\w'.os=w.os/\w'.tape=w.tape/\w'.output=w.output/\
    w'.heap=(W.setRow w.heap.size (bA (bA ROW.toList (i*4) (vcur.toList.take (m*4))) ((i+m)*4) ((cur.toList.take (n*4)).drop (i*4))).toArray).heap:=by
 have t33:Z.underlying 26=some (.slice 73):=by kernel_rfl
 have t3:Z.underlying 3=some (.int .i64):=by kernel_rfl
 have hsz:(Z.info? 73).map (·.size)=some 4:=by kernel_rfl
 have hinfo:(Z.info? 73).map (fun i=>(i.zero.map (·.cells.size),i.size,i.bytes))=some (some 4,4,48):=by kernel_rfl
 obtain⟨i0,hi0,hzz⟩:=Option.map_eq_some_iff.1 hinfo;simp only[Prod.mk.injEq] at hzz;obtain⟨hz0,hzs,hzb⟩:=hzz;obtain⟨z,hz,hzc⟩:=Option.map_eq_some_iff.1 hz0;have hz1:¬((m:Int)=0):=by omega
 have hz2:¬((i:Int)=(n:Int)):=by omega
 have hz3:(c:Int)<(n:Int)+(m:Int):=by omega
 have hgw:g<w.heap.size:=(Array.getElem?_eq_some_iff.1 hg).1;have hvw:vb<w.heap.size:=(Array.getElem?_eq_some_iff.1 hv).1;have hkk:(n:Int)+(m:Int)-(i:Int)=((n+m-i:Nat):Int):=by omega
 have hik:i+(n+m-i)=n+m:=by omega
 have hdl:((cur.toList.take (n*4)).drop (i*4)).length=(n-i)*4:=by simp only[List.length_drop,List.length_take,Array.length_toList,hcs];rw[Nat.min_eq_left (by omega),Nat.sub_mul]
 have hcl:∀j v,(cur.toList.take (n*4))[j]? =some v->w.cell? ⟨g,j,none⟩=some v:=fun j v h=>by
  rw[List.getElem?_take] at h;split at h
  ·simpa[World.cell?,hg] using h
  ·cases h
 have hcv:∀j v,(vcur.toList.take (m*4))[j]? =some v->w.cell? ⟨vb,j,none⟩=some v:=fun j v h=>by
  rw[List.getElem?_take] at h;split at h
  ·simpa[World.cell?,hv] using h
  ·cases h
 have hold:(Builtin.firstCells i0.size i (.slice (some ⟨g,0,none⟩) i c)).run Z w.drew=.ok (cur.toList.take (i*4)).toArray w.drew:=by
  rw[hzs];exact run_firstCells_some w.drew 4 i ⟨g,0,none⟩ i c (cur.toList.take (i*4)) (by simp only[List.length_take,Array.length_toList,hcs];omega) (fun j v hj=>by
   rw[Addr.add_lit,Nat.zero_add];refine hcl j v ?_
   rw[List.getElem?_take] at hj ⊢;split at hj
   ·rw[if_pos (by omega)];exact hj
   ·cases hj)
 have hrz:∀ty,(Builtin.append_ #[26,3] ty #[.slice (some ⟨g,0,none⟩) i c,.int .i64 ((n:Int)+(m:Int)-(i:Int))]).run Z w=
   .ok (.slice (some ⟨w.heap.size,0,none⟩) (n+m) (grownCap w (n+m) c 73)) (w.drew.alloc (.cells ((cur.toList.take (i*4)).toArray++Builtin.zeroCells z.cells (n+m-i)++Builtin.zeroCells z.cells (grownCap w (n+m) c 73-(n+m))) 73)):=fun ty=>by
  have h:=Lib.run_append_grow_zeros w 26 3 ty 73 i0 z .i64 .i64 t33 t3 hi0 hz (some ⟨g,0,none⟩) i c (cur.toList.take (i*4)) hold (n+m-i) (by omega) (by omega) (by omega) (by omega) (by rw[hzb];omega) (by rw[hzb,hik];exact growslice_fits hroom hbig)
  rw[hik] at h;rw[hkk];exact h
 obtain⟨G,hG⟩:∃G,G=grownCap w (n+m) c 73:=⟨_,rfl⟩;obtain⟨ROW,hROW⟩:∃ROW:Array Value,ROW=(cur.toList.take (i*4)).toArray++Builtin.zeroCells z.cells (n+m-i)++Builtin.zeroCells z.cells (G-(n+m)):=⟨_,rfl⟩;rw[<-hG] at hrz;rw[<-hROW] at hrz;have hGn:n+m<=G:=by rw[hG];exact grownCap_ge w _ _ _
 have hGm:G<=maxLen:=by rw[hG];exact grownCap_le_maxLen w (n+m) c 73 (by unfold maxLen;omega)
 have hG63:G<=9223372036854775807:=by unfold maxLen at hGm;omega
 have hRl:ROW.size=G*4:=by
  rw[hROW];simp only[Array.size_append,List.size_toArray,size_zeroCells,hzc,List.length_take,Array.length_toList,hcs];omega
 have hRt:ROW.toList.take (i*4)=cur.toList.take (i*4):=by
  rw[hROW];simp only[Array.toList_append,List.append_assoc];have:i*4=(cur.toList.take (i*4)).length:=by simp only[List.length_take,Array.length_toList,hcs];omega
  exact List.take_left' this.symm
 refine⟨G,ROW,w.drew.alloc (.cells ROW 73),hGm,hGn,hRl,hRt,rfl,rfl,rfl,rfl,?_⟩;obtain⟨W1,hW1⟩:∃W1,W1=w.drew.alloc (.cells ROW 73):=⟨_,rfl⟩;rw[<-hW1] at hrz ⊢;have hNew:W1.heap[w.heap.size]? =some (.cells ROW 73 (0,0)):=by rw[hW1];exact heap_alloc_new w.drew _
 have hOld:∀b,b<w.heap.size->W1.heap[b]? =w.heap[b]? :=fun b hb=>by rw[hW1];exact RowKit.Below.heap_alloc w.drew _ b hb
 have hos:W1.os=w.os/\W1.tape=w.tape/\W1.output=w.output:=by rw[hW1];exact⟨rfl,rfl,rfl⟩
 have hgN:g≠w.heap.size:=by omega
 have hvN:vb≠w.heap.size:=by omega
 have hcpA:∀(W:World),W.heap=W1.heap->∀ty dc,(Builtin.copy_ #[26,26] ty #[.slice (some ⟨w.heap.size,i*4,none⟩) (n+m-i) dc,.slice (some ⟨vb,0,none⟩) m vc]).run Z W=
   .ok (goInt (Nat.min m (n+m-i))) (W.setRow w.heap.size (bA ROW.toList (i*4) (vcur.toList.take (m*4))).toArray):=fun W hW ty dc=>
  zD W _ _ ty 73 4 w.heap.size (i*4) (n+m-i) dc ⟨vb,0,none⟩ m vc ROW 73 _ t33 hsz (by rw[hW];exact hNew)
   (by simp only[List.length_take,Array.length_toList,Nat.min_def];split<;>split<;>omega)
   (fun j v hj=>by
    have:=hcv j v hj;rw[Addr.add_lit,Nat.zero_add];unfold World.cell? at this ⊢;rw[hW,show W1.heap[vb]? =w.heap[vb]? from hOld vb hvw];exact this) (by simp only[List.length_take,Array.length_toList];omega) h1v
 obtain⟨R2,hR2⟩:∃R2,R2=(bA ROW.toList (i*4) (vcur.toList.take (m*4))).toArray:=⟨_,rfl⟩;have hE:W1.setRow w.heap.size (bA (bA ROW.toList (i*4) (vcur.toList.take (m*4))) ((i+m)*4) ((cur.toList.take (n*4)).drop (i*4))).toArray=
   (W1.setRow w.heap.size R2).setRow w.heap.size (bA R2.toList ((i+m)*4) ((cur.toList.take (n*4)).drop (i*4))).toArray:=by rw[setRow_setRow,hR2]
 rw[hE];have hR2s:R2.size=G*4:=by rw[hR2];simp only[bA,List.size_toArray,List.length_append,List.length_drop,List.length_take,Array.length_toList,hRl];omega
 rw[<-hR2] at hcpA;clear hE hR2;have hcpB:∀(W:World),W.heap=(W1.setRow w.heap.size R2).heap->∀ty dc sc,(Builtin.copy_ #[26,26] ty #[.slice (some ⟨w.heap.size,(i+m)*4,none⟩) (n+m-(i+m)) dc,.slice (some ⟨g,i*4,none⟩) (n-i) sc]).run Z W=
   .ok (goInt (Nat.min (n-i) (n+m-(i+m)))) (W.setRow w.heap.size (bA R2.toList ((i+m)*4) ((cur.toList.take (n*4)).drop (i*4))).toArray):=fun W hW ty dc sc=>
  zD W _ _ ty 73 4 w.heap.size ((i+m)*4) (n+m-(i+m)) dc ⟨g,i*4,none⟩ (n-i) sc R2 73 _ t33 hsz (by rw[hW];exact setRow_heap W1 w.heap.size ROW R2 73 (0,0) hNew)
   (by rw[hdl];simp only[Nat.min_def];split<;>omega)
   (fun j v hj=>by
    have:=hcl (i*4+j) v (by rwa[List.getElem?_drop] at hj)
    rw[Addr.add_lit];unfold World.cell? at this ⊢;rw[hW,show(W1.setRow w.heap.size R2).heap[g]? =w.heap[g]? from(setRow_other W1 w.heap.size g R2 hgN).trans (hOld g hgw)];exact this) (by rw[hdl,hR2s];omega) (fun v hv=>h1c v (List.mem_of_mem_drop hv))
 have hGi:¬(G=i):=by omega
 have hGim:¬(G=i+m):=by omega
 have hci:¬(c=i):=by omega
 have hw1:IntKind.i64.wrap ((i:Int)+(m:Int))=(i:Int)+(m:Int):=by rw[IntKind.wrap_i64];omega
 have hb1:(0:Int)<=(i:Int)+(m:Int):=by omega
 have hin:i<=n:=by omega
 have htn:((i:Int)+(m:Int)).toNat=i+m:=by omega
 have hb3:(i:Int)<=(n:Int):=by omega
 clear hkk hik hold hROW hG hRl hW1;go_enter Tryz.func160,Tryz.ntmps160
 go_wp2_with (first
  |(at_builtin;refine E' _ rfl _ _ 26 3 rfl _ _ rfl rfl (hrz _) ?_)
  |(at_builtin;refine Oa _ rfl _ _ 26 26 rfl _ _ rfl rfl (hcpA _ rfl _ _) ?_))
 go_region_law (refine OG rfl _ _ 26 26 rfl (.slice (some ⟨w.heap.size,(i+m)*4,none⟩) (n+m-(i+m)) (G-(i+m))) (.slice (some ⟨g,i*4,none⟩) (n-i) (c-i)) (by simp[Act.eval,Act.put]) (by simp[Act.eval,Act.put]) (hcpB (W1.setRow w.heap.size R2).drew rfl 3 (G-(i+m)) (c-i)) ?_)
 go_wp2
 go_ret
 exact⟨rfl,hos.1,hos.2.1,hos.2.2,rfl⟩
noncomputable def Vh:aK:=I9 .entry 48
theorem amm:aL Z 160 Vh:=age (t:=.entry) (bt:=48) rfl (by decide) (T:=26) (e:=73) ⟨agi,agh,ah8,ah7,agf,ah6⟩ (fun vs w=>enters_of Tryz.func160 (by kernel_rfl) rfl _ _) (by kernel_rfl) (by kernel_rfl)
noncomputable abbrev au6:bl:=[(86,yW),(87,Na),(159,Yx),(160,Vh)]
theorem EM:bc Z (bi ak au6):=bj ⟨D1,z87,z159,amm,⟨⟩⟩
abbrev Ts:Shape:=⟨[aM 0 .entry,aM 1 .entry],[],59⟩
abbrev Tj:List aR:=[(.norm,⟨[aM 0 .entry,aM 1 .entry,aC 18],[],59⟩)]
noncomputable def J4(y:Ts.J):Option (aF Tj):=
(f86 ((y.1.1,()),())).bind fun a=>
 bif(!(!a.1.1)) then
(f86 ((y.1.2.1,()),())).bind fun b=>
 some ((y.1.1,y.1.2.1,(!b.1.1),()),())
else
 some ((y.1.1,y.1.2.1,true,()),())
theorem ak1:aX Z (ap (codeOf Tryz.f97) 1 12) (bb Ts Tj J4):=c8 EM (by kernel_rfl) aj fun y=>by kernel_rfl
abbrev Pk:Shape:=⟨[a' 6 3000384,a8 8 8 0,ad 9,aM 21 .entry,ad 22,ad 23],[bg 3000384 .entry 6 0,a7 8 [ax,bz,bz,ax]],59⟩
abbrev Pa:List aR:=[(.norm,⟨[a' 6 3000384,aM 21 .entry,ad 22,ad 23,aC 42,a8 43 8 1,ad 44,aC 45,aC 46,aC 53],[bg 3000384 .entry 6 0,a7 8 [ax,bz,bz,ax]],59⟩)]
noncomputable def FH(y:Pk.J):Option (aF Pa):=
 bif(y.2.2.1.2.1 !=(1:Int)) then
 some (((),y.1.2.2.2.1,y.1.2.2.2.2.1,y.1.2.2.2.2.2.1,true,(),y.2.2.1.2.1,(y.2.2.1.2.1 !=(1:Int)),true,true,()),y.2.1,(y.2.2.1.1,y.2.2.1.2.1,y.2.2.1.2.2.1,y.2.2.1.2.2.2.1,()),())
else
(aU y.2.1.length y.1.2.2.1).bind fun a=>
(y.2.1[a]?).bind fun b=>
 some (((),y.1.2.2.2.1,y.1.2.2.2.2.1,y.1.2.2.2.2.2.1,(!((b.path==y.2.2.1.1)&&((b.kind==y.2.2.1.2.1)&&((b.mode==y.2.2.1.2.2.1)&&(b.text==y.2.2.1.2.2.2.1))))),(),y.2.2.1.2.1,(y.2.2.1.2.1 !=(1:Int)),false,(!((b.path==y.2.2.1.1)&&((b.kind==y.2.2.1.2.1)&&((b.mode==y.2.2.1.2.2.1)&&(b.text==y.2.2.1.2.2.2.1))))),()),y.2.1,(y.2.2.1.1,y.2.2.1.2.1,y.2.2.1.2.2.1,y.2.2.1.2.2.2.1,()),())
theorem adX:aX Z (ap (di (ap (codeOf Tryz.f97) 1 122)) 244 250678) (bb Pk Pa FH):=c8 EM (by kernel_rfl) aj fun y=>by kernel_rfl
abbrev AW:Shape:=⟨[a' 6 3000384,aM 21 .entry,ad 22,ad 23],[bg 3000384 .entry 6 0],59⟩
abbrev rC:List aR:=[(.ret,⟨[a' 4 3000256,aC 5],[bg 3000256 .entry 4 0],59⟩),(.exit 0,⟨[a' 6 3000384],[bg 3000384 .entry 6 0],59⟩)]
noncomputable def BF(y:AW.J):bR AW rC:=
 bif(decide (y.1.2.2.2.1<y.1.2.2.1)) then
(aQ y.1.2.1 y.1.2.2.2.1).bind fun a=>
(f87 ((y.2.1,a.path,()),())).bind fun b=>
 bif(!b.1.2.1) then
(uN 48 y.2.1 b.1.1 ([a]:List aG)).bind fun c=>
 some (.inl (((),y.1.2.1,y.1.2.2.1,(IntKind.i64.wrap (y.1.2.2.2.1+(1:Int))),()),c,()))
else
(FH (((),(),b.1.1,y.1.2.1,y.1.2.2.1,y.1.2.2.2.1,()),y.2.1,(a.path,a.kind,a.mode,a.text,()),())).bind fun d=>
 bif d.1.2.2.2.2.1 then
 some (.inr (.inl (((),false,()),([]:List aG),())))
else
 some (.inl (((),d.1.2.1,d.1.2.2.1,(IntKind.i64.wrap (d.1.2.2.2.1+(1:Int))),()),d.2.1,()))
else
 some (.inr (.inr (((),()),y.2.1,())))
noncomputable def IF:AW.J->Option (aF rC):=bu BF
theorem aiU:aX Z (ap (codeOf Tryz.f97) 1 122) (bb AW rC IF):=bW EM (by kernel_rfl) (bd adX aj) fun y=>by kernel_rfl
abbrev i97:Shape:=⟨[aM 0 .entry,aM 1 .entry],[],59⟩
abbrev Zq:Shape:=⟨[a' 4 3000256,aC 5],[bg 3000256 .entry 4 0],59⟩
noncomputable def f97(a:i97.J):Option Zq.J:=
(J4 ((a.1.1,a.1.2.1,()),())).bind fun b=>
 bif b.1.2.2.1 then
 some (((),false,()),([]:List aG),())
else
(f159 ((b.1.1,()),())).bind fun c=>
(IF (((),b.1.2.1,(b.1.2.1.length:Int),(0:Int),()),c.2.1,())).bind fun d=>
(match d with
|.inl e=>
 some (((),e.1.2.1,()),e.2.1,())
|.inr f=>
(f86 ((f.2.1,()),())).bind fun g=>
 bif(!g.1.1) then
 some (((),false,()),([]:List aG),())
else
 some (((),true,()),f.2.1,()))
noncomputable def _G:aK:=a6 ak Tryz.f97 i97 Zq [] f97
theorem arY:aL Z 97 _G:=ba EM Tryz.func97 (by kernel_rfl) (bd ak1 (bd aiU aj)) (fun y=>by kernel_rfl) fun a=>by kernel_rfl
noncomputable abbrev avl:bl:=[(97,_G)]
theorem aai:bc Z (bi ak avl):=bj ⟨arY,⟨⟩⟩
abbrev Co:Shape:=⟨[a' 4 3000256,aM 9 .pack,ad 10,ad 11],[bg 3000256 .entry 4 0],27⟩
abbrev rM:List aR:=[(.ret,⟨[a' 2 3000128,aC 3],[bg 3000128 .entry 2 0],27⟩),(.exit 0,⟨[a' 4 3000256],[bg 3000256 .entry 4 0],27⟩)]
noncomputable def CK(y:Co.J):bR Co rM:=
 bif(decide (y.1.2.2.2.1<y.1.2.2.1)) then
(aQ y.1.2.1 y.1.2.2.2.1).bind fun a=>
(f97 ((y.2.1,a.bK,()),())).bind fun b=>
 bif(!b.1.2.1) then
 some (.inr (.inl (((),false,()),([]:List aG),())))
else
 some (.inl (((),y.1.2.1,y.1.2.2.1,(IntKind.i64.wrap (y.1.2.2.2.1+(1:Int))),()),b.2.1,()))
else
 some (.inr (.inr (((),()),y.2.1,())))
noncomputable def JW:Co.J->Option (aF rM):=bu CK
theorem alf:aX Z (ap (codeOf Tryz.f52) 1 58) (bb Co rM JW):=bW aai (by kernel_rfl) aj fun y=>by kernel_rfl
abbrev i52:Shape:=⟨[aM 0 .pack],[],27⟩
abbrev ZJ:Shape:=⟨[a' 2 3000128,aC 3],[bg 3000128 .entry 2 0],27⟩
noncomputable def f52(a:i52.J):Option ZJ.J:=
(JW (((),a.1.1,(a.1.1.length:Int),(0:Int),()),([]:List aG),())).bind fun b=>
(match b with
|.inl c=>
 some (((),c.1.2.1,()),c.2.1,())
|.inr d=>
 some (((),true,()),d.2.1,()))
noncomputable def _U:aK:=a6 ak Tryz.f52 i52 ZJ [] f52
theorem ar7:aL Z 52 _U:=ba aai Tryz.func52 (by kernel_rfl) (bd alf aj) (fun y=>by kernel_rfl) fun a=>by kernel_rfl
theorem Gq:∀(r:List aG) (out D:List aG),(∀e,e∈r->mD e)->(∀e,e∈out->mD e)->iz out r=some D->D.length<=out.length+r.length/\∀e,e∈D->mD e:=by
 intro r;induction r with
 |nil=>intro out D _ h2 h;cases h;exact⟨Nat.le_refl _,h2⟩
 |cons e r ih=>
  intro out D h1 h2 h;rw[zG] at h;obtain⟨o1,h3,aE⟩:=Option.bind_eq_some_iff.1 h;have br:=ih o1 D (fun x hx=>h1 x (List.mem_cons_of_mem _ hx)) (fun x hx=>by
   rcases F5 h3 hx with rfl|h
   ·exact h1 x List.mem_cons_self
   ·exact h2 x h) aE
  have cB:=zQ h3;exact⟨by simp only[List.length_cons];omega,br.2⟩
theorem adI{t:List aG}(h:dY t=true):ht t:=by
 unfold dY at h;simp only[Bool.and_eq_true] at h;exact Uk h.1.1
theorem j'{t:List aG}(h:dY t=true):t.length<=16:=by
 unfold dY at h;simp only[Bool.and_eq_true,decide_eq_true_eq] at h;exact h.2
theorem agU(a)(hs:cN a.1.1.length):f159 a=some (((),()),(a.1.1,())):=by
 obtain⟨⟨xs,u⟩,b9⟩:=a;have hs:xs.length<=2097152:=hs;have h2:(cw 48 ([]:List aG) xs).bind (fun x=>some (((),()),(x,())))=(some (((),()),(xs,())):Option KS.J):=by
  rw[ew (by decide) (by unfold am;simp only[List.length_nil];omega)];rfl
 simp only[f159];rw[h2];unfold rm;split
 ·rfl
 ·rename_i h;exact absurd (fun he:xs=[]=>by subst he;rfl) h
theorem adE(a)(ha:jk a.1.1)(hb:jk a.1.2.1)(h1:dY a.1.1=true)(h2:dY a.1.2.1=true):f97 a=
  some (match iz a.1.1 a.1.2.1 with|some out=>(bif dY out then(((),(true,())),(out,())) else(((),(false,())),(([]:List aG),())))|none=>(((),(false,())),(([]:List aG),()))):=by
 obtain⟨⟨xs,ys,u⟩,b9⟩:=a;have h1:dY xs=true:=h1;have h2:dY ys=true:=h2;have axw:=j' h1;have axv:=j' h2;have e1:=rf ((xs,()),()) ha;have e2:=rf ((ys,()),()) hb;have bp:=agU ((xs,()),()) (show xs.length<=2097152 by omega)
 have key:IF (((),(ys,((ys.length:Int),((0:Int),())))),(xs,()))=_:=mN BF ys (fun i (out:List aG)=>(((),(ys,((ys.length:Int),((i:Int),())))),(out,())))
  (fun i e out=>some (match jd out e with|some D=>.inl D|none=>.inr ((.inl (((),(false,())),(([]:List aG),()))):aF rC))) (fun out=>((.inr (((),()),(out,()))):aF rC))
  (fun i out=>out.length<=xs.length+i/\ht out) xs ⟨Nat.le_refl _,adI h1⟩ (fun i x out hx dz=>?_) (fun out _=>?_)
 ·have fold:∀(r:List aG) (k:Nat) (out:List aG),fg (fun i e out=>some (match jd out e with|some D=>.inl D|none=>.inr ((.inl (((),(false,())),(([]:List aG),()))):aF rC))) (fun out=>((.inr (((),()),(out,()))):aF rC)) k r out=
    some (match iz out r with|some D=>.inr (((),()),(D,()))|none=>.inl (((),(false,())),(([]:List aG),()))):=by
   intro r;induction r with
   |nil=>intro k out;rfl
   |cons e r ih=>
    intro k out;rw[zG];simp only[fg];cases jd out e with
    |none=>rfl
    |some D=>simp only[Option.bind_some];exact ih _ _
  rw[fold] at key;simp only[f97,J4,e1,e2,h1,h2,bp,Bool.not_true,Bool.not_false,cond_true,cond_false,Option.bind_some,key];cases hj:iz xs ys with
  |none=>rfl
  |some D=>
   have hm:=Gq ys xs D hb.2 ha.2 hj;simp only[Option.bind_some];rw[rf _ ⟨show D.length<=2097152 by omega,hm.2⟩]
   simp only[Option.bind_some];cases dY D<;>rfl
 ·have hi:=dj hx;have hw:am i:=by unfold am;omega
  refine⟨?_,fun au ae=>?_⟩
  ·have lG:=Oy ((out,(x.path,())),()) (show out.length<=2097152 by omega) dz.2
   have k2:=tE out x.path;simp only[BF,cn hi,cond_true,cc,hx,Option.bind_some,lG,kM,jd];have grow:uN 48 out (ci out x.path:Int) [x]=some (lm out (ci out x.path) x):=by
    unfold uN;rw[if_pos ⟨by omega,by omega,by unfold room;simp only[List.length_cons,List.length_nil];omega,by unfold maxLen;simp only[List.length_cons,List.length_nil];omega⟩,Int.toNat_natCast]
    rfl
   cases al:out[ci out x.path]? with
   |none=>simp only[Bool.not_false,cond_true,grow,Option.bind_some,b6 hw];rfl
   |some q=>
    have hin:=gg (dj al);simp only;cases hp:(q.path==x.path) with
    |false=>simp only[Bool.not_false,cond_true,grow,Option.bind_some,b6 hw,cond_false];rfl
    |true=>
     have vt:((q.path==x.path)&&((q.kind==x.kind)&&((q.mode==x.mode)&&(q.text==x.text))))=nI q x:=rfl;simp only[Bool.not_true,cond_false,cond_true,FH,hin,al,Option.bind_some,pm,aij x q];cases hk:(x.kind !=1) with
     |true=>rfl
     |false=>
      have apK:(nI q x)=((q.path==x.path)&&((q.kind==x.kind)&&((q.mode==x.mode)&&(q.text==x.text)))):=rfl;rw[apK];cases ((q.path==x.path)&&((q.kind==x.kind)&&((q.mode==x.mode)&&(q.text==x.text)))) with
      |false=>rfl
      |true=>simp only[Bool.not_true,Bool.false_or,cond_false,Option.bind_some,b6 hw];rfl
  ·simp only[Option.some.injEq] at ae;cases hs:jd out x with
   |none=>rw[hs] at ae;cases ae
   |some D=>
    rw[hs] at ae;cases ae;have cB:=zQ hs;exact⟨by omega,afb dz.2 hs⟩
 ·simp only[BF,dr,cond_false]
def h5(out:List aG):List aT->Option (List aG)
 |[]=>some out
 |p::r=>match iz out p.bK with
  |some D=>bif dY D then h5 D r else none
  |none=>none
def stepT(out:List aG)(p:aT):Option (List aG):=match iz out p.bK with
 |some D=>bif dY D then some D else none
 |none=>none
theorem OC(out:List aG)(p:aT)(r:List aT):h5 out (p::r)=(stepT out p).bind fun D=>h5 D r:=by
 unfold stepT;rw[h5];cases iz out p.bK with
 |none=>rfl
 |some D=>simp only;cases dY D<;>rfl
theorem Ri{out D:List aG}{p:aT}(h:stepT out p=some D):dY D=true/\iz out p.bK=some D:=by
 unfold stepT at h;split at h
 ·rename_i cW ay;cases ao:dY cW with
  |true=>rw[ao] at h;cases h;exact⟨ao,ay⟩
  |false=>rw[ao] at h;cases h
 ·cases h
theorem aeL(a)(hb:ic a.1.1)(hk:a.1.1.all cT=true):f51 a=some (((),((h5 [] a.1.1).isSome,())),((h5 [] a.1.1).getD [],())):=by
 obtain⟨⟨ps,u⟩,b9⟩:=a;have hl:ps.length<=2097152:=hb.1;have Mt:∀p,p∈ps->dY p.bK=true/\jk p.bK:=by
  intro p hp;have:=List.all_eq_true.1 hk p hp;unfold cT at this;simp only[Bool.and_eq_true] at this;exact⟨this.2,(hb.2 p hp).2.2.2⟩
 have key:JX ((ps,((),((0:Int),()))),(([]:List aG),()))=_:=mN CL ps (fun i (out:List aG)=>((ps,((),((i:Int),()))),(out,())))
  (fun i p out=>some (match stepT out p with|some D=>.inl D|none=>.inr ((.inl (((),(false,())),(([]:List aG),()))):aF rN))) (fun out=>((.inr (((),()),(out,()))):aF rN))
  (fun i out=>out.length<=16/\∀e,e∈out->mD e) [] ⟨Nat.zero_le _,fun e h=>by cases h⟩ (fun i x out hx dz=>?_) (fun out _=>?_)
 ·have fold:∀(r:List aT) (k:Nat) (out:List aG),fg (fun i p out=>some (match stepT out p with|some D=>.inl D|none=>.inr ((.inl (((),(false,())),(([]:List aG),()))):aF rN))) (fun out=>((.inr (((),()),(out,()))):aF rN)) k r out=
    some (match h5 out r with|some D=>.inr (((),()),(D,()))|none=>.inl (((),(false,())),(([]:List aG),()))):=by
   intro r;induction r with
   |nil=>intro k out;rfl
   |cons p r ih=>
    intro k out;rw[OC];simp only[fg];cases stepT out p with
    |none=>rfl
    |some D=>simp only[Option.bind_some];exact ih _ _
  rw[fold] at key;simp only[f51,key,Option.bind_some];cases h5 [] ps with
  |none=>rfl
  |some D=>rfl
 ·have hi:=dj hx;have hw:am i:=by unfold am;omega
  obtain⟨Mu,mB⟩:=Mt x (List.mem_of_getElem? hx);have yS:=j' Mu;have eF:jk out:=⟨show out.length<=2097152 by omega,dz.2⟩
  refine⟨?_,fun au ae=>?_⟩
  ·have hj:=agM ((out,(x.bK,())),()) eF mB (show out.length+x.bK.length<=2097152 by omega)
   simp only[CL,cn hi,cond_true,cc,hx,Option.bind_some,hj,stepT];cases iz out x.bK with
   |none=>rfl
   |some D=>
    simp only;cases dY D with
    |false=>rfl
    |true=>simp only[Bool.not_true,cond_false,cond_true,b6 hw];rfl
  ·simp only[Option.some.injEq] at ae;cases hs:stepT out x with
   |none=>rw[hs] at ae;cases ae
   |some D=>
    rw[hs] at ae;cases ae;obtain⟨br,cB⟩:=Ri hs;exact⟨j' br,(Gq _ _ _ mB.2 dz.2 cB).2⟩
 ·simp only[CL,dr,cond_false]
theorem agG(a)(hb:ic a.1.1)(hk:a.1.1.all cT=true):∃out,f51 a=some (((),((h5 [] a.1.1).isSome,())),(out,())):=⟨_,aeL a hb hk⟩
theorem abW(a)(hb:ic a.1.1)(hk:a.1.1.all cT=true):f52 a=some (((),((h5 [] a.1.1).isSome,())),((h5 [] a.1.1).getD [],())):=by
 obtain⟨⟨ps,u⟩,b9⟩:=a;have hl:ps.length<=2097152:=hb.1;have Mt:∀p,p∈ps->dY p.bK=true/\jk p.bK:=by
  intro p hp;have:=List.all_eq_true.1 hk p hp;unfold cT at this;simp only[Bool.and_eq_true] at this;exact⟨this.2,(hb.2 p hp).2.2.2⟩
 have key:JW (((),(ps,((ps.length:Int),((0:Int),())))),(([]:List aG),()))=_:=mN CK ps (fun i (out:List aG)=>(((),(ps,((ps.length:Int),((i:Int),())))),(out,())))
  (fun i p out=>some (match stepT out p with|some D=>.inl D|none=>.inr ((.inl (((),(false,())),(([]:List aG),()))):aF rM))) (fun out=>((.inr (((),()),(out,()))):aF rM))
  (fun i out=>dY out=true/\∀e,e∈out->mD e) [] ⟨rfl,fun e h=>by cases h⟩ (fun i x out hx dz=>?_) (fun out _=>?_)
 ·have fold:∀(r:List aT) (k:Nat) (out:List aG),fg (fun i p out=>some (match stepT out p with|some D=>.inl D|none=>.inr ((.inl (((),(false,())),(([]:List aG),()))):aF rM))) (fun out=>((.inr (((),()),(out,()))):aF rM)) k r out=
    some (match h5 out r with|some D=>.inr (((),()),(D,()))|none=>.inl (((),(false,())),(([]:List aG),()))):=by
   intro r;induction r with
   |nil=>intro k out;rfl
   |cons p r ih=>
    intro k out;rw[OC];simp only[fg];cases stepT out p with
    |none=>rfl
    |some D=>simp only[Option.bind_some];exact ih _ _
  rw[fold] at key;simp only[f52,key,Option.bind_some];cases h5 [] ps with
  |none=>rfl
  |some D=>rfl
 ·have hi:=dj hx;have hw:am i:=by unfold am;omega
  obtain⟨Mu,mB⟩:=Mt x (List.mem_of_getElem? hx);have yS:=j' dz.1;have eF:jk out:=⟨show out.length<=2097152 by omega,dz.2⟩
  refine⟨?_,fun au ae=>?_⟩
  ·have hj:=adE ((out,(x.bK,())),()) eF mB dz.1 Mu;simp only[CK,cn hi,cond_true,cc,hx,Option.bind_some,hj,stepT];cases iz out x.bK with
   |none=>rfl
   |some D=>
    simp only;cases dY D with
    |false=>rfl
    |true=>simp only[Bool.not_true,cond_false,cond_true,b6 hw];rfl
  ·simp only[Option.some.injEq] at ae;cases hs:stepT out x with
   |none=>rw[hs] at ae;cases ae
   |some D=>
    rw[hs] at ae;cases ae;obtain⟨br,cB⟩:=Ri hs;exact⟨br,(Gq _ _ _ mB.2 dz.2 cB).2⟩
 ·simp only[CK,dr,cond_false]
theorem acF(a)(hb:ic a.1.1)(hk:a.1.1.all cT=true):∃out,f52 a=some (((),((h5 [] a.1.1).isSome,())),(out,())):=⟨_,abW a hb hk⟩
abbrev Rv:Shape:=⟨[aM 0 .i64,aM 1 .i64,ad 5],[],42⟩
abbrev Re:List aR:=[(.norm,⟨[aM 0 .i64,aM 1 .i64,ad 5],[],42⟩),(.exit 0,⟨[],[],42⟩)]
noncomputable def tz(y:Rv.J):Option (aF Re):=
 bif(!(decide (y.1.2.2.1<(y.1.1.length:Int)))) then
 bif(decide (y.1.2.2.1<(y.1.2.1.length:Int))) then
 some (.inl ((y.1.1,y.1.2.1,y.1.2.2.1,()),()))
else
 some (.inr ((),()))
else
 some (.inl ((y.1.1,y.1.2.1,y.1.2.2.1,()),()))
theorem ahB:aX Z (ap (di (ap (codeOf Tryz.f182) 1 26)) 52 104) (bb Rv Re tz):=c8 g0 (by kernel_rfl) aj fun y=>by kernel_rfl
abbrev Qb:Shape:=⟨[aM 0 .i64,aM 1 .i64,ad 5,ad 6,ad 7],[],42⟩
abbrev PU:List aR:=[(.norm,⟨[aM 0 .i64,aM 1 .i64,ad 5,ad 6,ad 7],[],42⟩)]
noncomputable def wb(y:Qb.J):Option (aF PU):=
 bif(decide (y.1.2.2.1<(y.1.1.length:Int))) then
(aQ y.1.1 y.1.2.2.1).bind fun a=>
 some ((y.1.1,y.1.2.1,y.1.2.2.1,a,y.1.2.2.2.2.1,()),())
else
 some ((y.1.1,y.1.2.1,y.1.2.2.1,y.1.2.2.2.1,y.1.2.2.2.2.1,()),())
theorem afH:aX Z (ap (di (ap (codeOf Tryz.f182) 1 26)) 52 3366) (bb Qb PU wb):=c8 g0 (by kernel_rfl) aj fun y=>by kernel_rfl
abbrev Qa:Shape:=⟨[aM 0 .i64,aM 1 .i64,ad 5,ad 6,ad 7],[],42⟩
abbrev PT:List aR:=[(.norm,⟨[aM 0 .i64,aM 1 .i64,ad 5,ad 6,ad 7],[],42⟩)]
noncomputable def wa(y:Qa.J):Option (aF PT):=
 bif(decide (y.1.2.2.1<(y.1.2.1.length:Int))) then
(aQ y.1.2.1 y.1.2.2.1).bind fun a=>
 some ((y.1.1,y.1.2.1,y.1.2.2.1,y.1.2.2.2.1,a,()),())
else
 some ((y.1.1,y.1.2.1,y.1.2.2.1,y.1.2.2.2.1,y.1.2.2.2.2.1,()),())
theorem afG:aX Z (ap (di (ap (codeOf Tryz.f182) 1 26)) 52 6734) (bb Qa PT wa):=c8 g0 (by kernel_rfl) aj fun y=>by kernel_rfl
abbrev Bi:Shape:=⟨[aM 0 .i64,aM 1 .i64,ad 5],[],42⟩
abbrev Ih:List aR:=[(.ret,⟨[ad 4],[],42⟩),(.exit 0,⟨[],[],42⟩)]
noncomputable def tL(y:Bi.J):bR Bi Ih:=
(tz ((y.1.1,y.1.2.1,y.1.2.2.1,()),())).bind fun a=>
(match a with
|.inl b=>
(wb ((b.1.1,b.1.2.1,b.1.2.2.1,((-1):Int),((-1):Int),()),())).bind fun c=>
(wa ((c.1.1,c.1.2.1,c.1.2.2.1,c.1.2.2.2.1,c.1.2.2.2.2.1,()),())).bind fun d=>
 bif(decide (d.1.2.2.2.1<d.1.2.2.2.2.1)) then
 some (.inr (.inl ((((-1):Int),()),())))
else
 bif(decide (d.1.2.2.2.1>d.1.2.2.2.2.1)) then
 some (.inr (.inl (((1:Int),()),())))
else
 some (.inl ((d.1.1,d.1.2.1,(IntKind.i64.wrap (d.1.2.2.1+(1:Int))),()),()))
|.inr e=>
 some (.inr (.inr ((),()))))
noncomputable def o4:Bi.J->Option (aF Ih):=bu tL
theorem ajp:aX Z (ap (codeOf Tryz.f182) 1 26) (bb Bi Ih o4):=bW g0 (by kernel_rfl) (bd ahB (bd afH (bd afG aj))) fun y=>by kernel_rfl
abbrev i182:Shape:=⟨[aM 0 .i64,aM 1 .i64],[],42⟩
abbrev KQ:Shape:=⟨[ad 4],[],42⟩
noncomputable def f182(a:i182.J):Option KQ.J:=
(o4 ((a.1.1,a.1.2.1,(0:Int),()),())).bind fun b=>
(match b with
|.inl c=>
 some ((c.1.1,()),())
|.inr d=>
 some (((0:Int),()),()))
noncomputable def Ys:aK:=a6 ak Tryz.f182 i182 KQ [] f182
theorem z182:aL Z 182 Ys:=ba g0 Tryz.func182 (by kernel_rfl) (bd ajp aj) (fun y=>by kernel_rfl) fun a=>by kernel_rfl
noncomputable abbrev are:bl:=[(181,LD),(182,Ys)]
theorem Za:bc Z (bi ak are):=bj ⟨Vu,z182,⟨⟩⟩
abbrev Sw:Shape:=⟨[a' 5 3000320,aC 6,a' 7 3000448,aC 8],[bg 3000320 .i64 5 0,bg 3000448 .i64 7 0],28⟩
abbrev Sh:List aR:=[(.norm,⟨[a' 5 3000320,a' 7 3000448,aC 24],[bg 3000320 .i64 5 0,bg 3000448 .i64 7 0],28⟩)]
noncomputable def Jg(y:Sw.J):Option (aF Sh):=
 bif(!(!y.1.2.1)) then
 some (((),(),(!y.1.2.2.2.1),()),y.2.1,y.2.2.1,())
else
 some (((),(),true,()),y.2.1,y.2.2.1,())
theorem ajF:aX Z (ap (codeOf Tryz.f126) 1 60) (bb Sw Sh Jg):=c8 Za (by kernel_rfl) aj fun y=>by kernel_rfl
abbrev i126:Shape:=⟨[aq 0,aq 1],[],28⟩
abbrev WZ:Shape:=⟨[ad 4],[],28⟩
noncomputable def f126(a:i126.J):Option WZ.J:=
(f181 ((a.1.1,()),())).bind fun b=>
(f181 ((a.1.2.1,()),())).bind fun c=>
(Jg (((),b.1.2.1,(),c.1.2.1,()),b.2.1,c.2.1,())).bind fun d=>
 bif d.1.2.2.1 then
 some (((0:Int),()),())
else
(f182 ((d.2.1,d.2.2.1,()),())).bind fun e=>
 some ((e.1.1,()),())
noncomputable def YN:aK:=a6 ak Tryz.f126 i126 WZ [] f126
theorem aop:aL Z 126 YN:=ba Za Tryz.func126 (by kernel_rfl) (bd ajF aj) (fun y=>by kernel_rfl) fun a=>by kernel_rfl
abbrev i259:Shape:=⟨[ad 0],[],6⟩
abbrev VX:Shape:=⟨[aC 2],[],6⟩
noncomputable def f259(a:i259.J):Option VX.J:=
 some (((a.1.1 !=a.1.1),()),())
noncomputable def XT:aK:=a6 ak Tryz.f259 i259 VX [] f259
theorem anO:aL Z 259 XT:=ba g0 Tryz.func259 (by kernel_rfl) aj (fun y=>by kernel_rfl) fun a=>by kernel_rfl
noncomputable abbrev aqw:bl:=[(259,XT)]
theorem ary:bc Z (bi ak aqw):=bj ⟨anO,⟨⟩⟩
abbrev i224:Shape:=⟨[ad 0,ad 1],[],20⟩
abbrev Wg:Shape:=⟨[ad 4],[],20⟩
noncomputable def f224(a:i224.J):Option Wg.J:=
(f259 ((a.1.1,()),())).bind fun b=>
(f259 ((a.1.2.1,()),())).bind fun c=>
 bif b.1.1 then
 bif c.1.1 then
 some (((0:Int),()),())
else
 some ((((-1):Int),()),())
else
 bif c.1.1 then
 some (((1:Int),()),())
else
 bif(decide (a.1.1<a.1.2.1)) then
 some ((((-1):Int),()),())
else
 bif(decide (a.1.1>a.1.2.1)) then
 some (((1:Int),()),())
else
 some (((0:Int),()),())
noncomputable def X9:aK:=a6 ak Tryz.f224 i224 Wg [] f224
theorem an1:aL Z 224 X9:=ba ary Tryz.func224 (by kernel_rfl) aj (fun y=>by kernel_rfl) fun a=>by kernel_rfl
noncomputable abbrev aqQ:bl:=[(224,X9)]
theorem Y6:bc Z (bi ak aqQ):=bj ⟨an1,⟨⟩⟩
abbrev Bh:Shape:=⟨[aM 0 .i64,aM 1 .i64,aM 9 .i64,ad 10,ad 11],[],36⟩
abbrev Ig:List aR:=[(.ret,⟨[ad 4],[],36⟩),(.exit 0,⟨[aM 0 .i64,aM 1 .i64],[],36⟩)]
noncomputable def wW(y:Bh.J):bR Bh Ig:=
 bif(decide (y.1.2.2.2.2.1<y.1.2.2.2.1)) then
(aQ y.1.2.2.1 y.1.2.2.2.2.1).bind fun a=>
 bif(decide (y.1.2.2.2.2.1>=(y.1.2.1.length:Int))) then
 some (.inr (.inl (((1:Int),()),())))
else
(aQ y.1.2.1 y.1.2.2.2.2.1).bind fun b=>
(f224 ((a,b,()),())).bind fun c=>
 bif(c.1.1 !=(0:Int)) then
 some (.inr (.inl ((c.1.1,()),())))
else
 some (.inl ((y.1.1,y.1.2.1,y.1.2.2.1,y.1.2.2.2.1,(IntKind.i64.wrap (y.1.2.2.2.2.1+(1:Int))),()),()))
else
 some (.inr (.inr ((y.1.1,y.1.2.1,()),())))
noncomputable def qd:Bh.J->Option (aF Ig):=bu wW
theorem ajo:aX Z (ap (codeOf Tryz.f184) 1 26) (bb Bh Ig qd):=bW Y6 (by kernel_rfl) aj fun y=>by kernel_rfl
abbrev i184:Shape:=⟨[aM 0 .i64,aM 1 .i64],[],36⟩
abbrev KP:Shape:=⟨[ad 4],[],36⟩
noncomputable def f184(a:i184.J):Option KP.J:=
(qd ((a.1.1,a.1.2.1,a.1.1,(a.1.1.length:Int),(0:Int),()),())).bind fun b=>
(match b with
|.inl c=>
 some ((c.1.1,()),())
|.inr d=>
 bif(decide ((d.1.1.length:Int)<(d.1.2.1.length:Int))) then
 some ((((-1):Int),()),())
else
 some (((0:Int),()),()))
noncomputable def Yr:aK:=a6 ak Tryz.f184 i184 KP [] f184
theorem aoc:aL Z 184 Yr:=ba Y6 Tryz.func184 (by kernel_rfl) (bd ajo aj) (fun y=>by kernel_rfl) fun a=>by kernel_rfl
noncomputable abbrev arc:bl:=[(184,Yr)]
theorem arP:bc Z (bi ak arc):=bj ⟨aoc,⟨⟩⟩
abbrev i128:Shape:=⟨[aM 0 .i64,aM 1 .i64],[],8⟩
abbrev WX:Shape:=⟨[ad 4],[],8⟩
noncomputable def f128(a:i128.J):Option WX.J:=
(f184 ((a.1.1,a.1.2.1,()),())).bind fun b=>
 some ((b.1.1,()),())
noncomputable def YM:aK:=a6 ak Tryz.f128 i128 WX [] f128
theorem aoo:aL Z 128 YM:=ba arP Tryz.func128 (by kernel_rfl) aj (fun y=>by kernel_rfl) fun a=>by kernel_rfl
noncomputable abbrev avf:bl:=[(127,LK),(128,YM)]
theorem aac:bc Z (bi ak avf):=bj ⟨z127,aoo,⟨⟩⟩
abbrev Tw:Shape:=⟨[a' 5 3000320,aC 6,a' 7 3000448,aC 8],[bg 3000320 .i64 5 0,bg 3000448 .i64 7 0],28⟩
abbrev Tn:List aR:=[(.norm,⟨[a' 5 3000320,a' 7 3000448,aC 24],[bg 3000320 .i64 5 0,bg 3000448 .i64 7 0],28⟩)]
noncomputable def J6(y:Tw.J):Option (aF Tn):=
 bif(!(!y.1.2.1)) then
 some (((),(),(!y.1.2.2.2.1),()),y.2.1,y.2.2.1,())
else
 some (((),(),true,()),y.2.1,y.2.2.1,())
theorem ala:aX Z (ap (codeOf Tryz.f78) 1 60) (bb Tw Tn J6):=c8 aac (by kernel_rfl) aj fun y=>by kernel_rfl
abbrev i78:Shape:=⟨[aq 0,aq 1],[],28⟩
abbrev ZB:Shape:=⟨[ad 4],[],28⟩
noncomputable def f78(a:i78.J):Option ZB.J:=
(f127 ((a.1.1,()),())).bind fun b=>
(f127 ((a.1.2.1,()),())).bind fun c=>
(J6 (((),b.2.2.2.1.1,(),c.2.2.2.1.1,()),b.2.1,c.2.1,())).bind fun d=>
 bif d.1.2.2.1 then
 some (((0:Int),()),())
else
(f128 ((d.2.1,d.2.2.1,()),())).bind fun e=>
 some ((e.1.1,()),())
noncomputable def _O:aK:=a6 ak Tryz.f78 i78 ZB [] f78
theorem ar4:aL Z 78 _O:=ba aac Tryz.func78 (by kernel_rfl) (bd ala aj) (fun y=>by kernel_rfl) fun a=>by kernel_rfl
noncomputable abbrev arb:bl:=[(78,_O),(119,DS),(121,x6)]
theorem Y':bc Z (bi ak arb):=bj ⟨ar4,z119,Dv,⟨⟩⟩
abbrev Sv:Shape:=⟨[aq 1,aq 2,a8 3 3 0],[a7 3 [ax,bz,ax]],44⟩
abbrev Sg:List aR:=[(.norm,⟨[aq 2,a8 3 3 0,aC 20],[a7 3 [ax,bz,ax]],44⟩)]
noncomputable def Jf(y:Sv.J):Option (aF Sg):=
(f121 (((y.2.1.1,y.2.1.2.1,y.2.1.2.2.1,()),()),())).bind fun a=>
 bif(!(!a.1.1)) then
(f119 ((y.1.2.1,()),())).bind fun b=>
 bif(!(!b.1.1)) then
 some ((y.1.2.1,(),(!(y.1.1==y.2.1.1)),()),(y.2.1.1,y.2.1.2.1,y.2.1.2.2.1,()),())
else
 some ((y.1.2.1,(),true,()),(y.2.1.1,y.2.1.2.1,y.2.1.2.2.1,()),())
else
 some ((y.1.2.1,(),true,()),(y.2.1.1,y.2.1.2.1,y.2.1.2.2.1,()),())
theorem ajD:aX Z (ap (codeOf Tryz.f132) 1 12) (bb Sv Sg Jf):=c8 Y' (by kernel_rfl) aj fun y=>by kernel_rfl
abbrev i132:Shape:=⟨[dw 0 [ax,bz,ax],aq 1,aq 2],[],44⟩
abbrev WW:Shape:=⟨[aC 6],[],44⟩
noncomputable def f132(a:i132.J):Option WW.J:=
(Jf ((a.1.2.1,a.1.2.2.1,(),()),(a.1.1.1,a.1.1.2.1,a.1.1.2.2.1,()),())).bind fun b=>
 bif b.1.2.2.1 then
 some ((false,()),())
else
 bif(b.2.1.2.1==(1:Int)) then
(f78 ((b.1.1,b.2.1.2.2.1,()),())).bind fun c=>
 some (((c.1.1==(0:Int)),()),())
else
 bif(b.2.1.2.1==(2:Int)) then
(f78 ((b.1.1,b.2.1.2.2.1,()),())).bind fun d=>
 some (((decide (d.1.1>=(0:Int))),()),())
else
 bif(b.2.1.2.1==(3:Int)) then
(f78 ((b.1.1,b.2.1.2.2.1,()),())).bind fun e=>
 some (((decide (e.1.1<(0:Int))),()),())
else
 some ((true,()),())
noncomputable def YL:aK:=a6 ak Tryz.f132 i132 WW [] f132
theorem aon:aL Z 132 YL:=ba Y' Tryz.func132 (by kernel_rfl) (bd ajD aj) (fun y=>by kernel_rfl) fun a=>by kernel_rfl
noncomputable abbrev aqP:bl:=[(126,YN)]
theorem arF:bc Z (bi ak aqP):=bj ⟨aop,⟨⟩⟩
abbrev i192:Shape:=⟨[dw 0 [ax,bz,ax],aq 1,aq 2],[],30⟩
abbrev Wy:Shape:=⟨[aC 6],[],30⟩
noncomputable def f192(a:i192.J):Option Wy.J:=
 bif(!(a.1.1.1==a.1.2.1)) then
 some ((false,()),())
else
(f126 ((a.1.2.2.1,a.1.1.2.2.1,()),())).bind fun b=>
 bif(a.1.1.2.1==(1:Int)) then
 some (((b.1.1==(0:Int)),()),())
else
 bif(a.1.1.2.1==(2:Int)) then
 some (((decide (b.1.1>=(0:Int))),()),())
else
 bif(a.1.1.2.1==(3:Int)) then
 some (((decide (b.1.1<(0:Int))),()),())
else
 some ((true,()),())
noncomputable def Yq:aK:=a6 ak Tryz.f192 i192 Wy [] f192
theorem aob:aL Z 192 Yq:=ba arF Tryz.func192 (by kernel_rfl) aj (fun y=>by kernel_rfl) fun a=>by kernel_rfl
def qC:List Int->List Int->Int
 |[],[]=>0
 |[],_::_=>-1
 |_::_,[]=>1
 |x::a,y::b=>bif decide (x<y) then-1 else bif decide (x>y) then 1 else qC a b
theorem drop_cons{aB:Type}{xs:List aB}{k:Nat}{x:aB}{r:List aB}(h:xs.drop k=x::r):xs[k]? =some x/\xs.drop (k+1)=r/\k<xs.length:=by
 have h1:xs[k]? =some x:=by
  have:=congrArg (fun l=>l[0]?) h
  simpa using this
 refine⟨h1,?_,dj h1⟩;have:=congrArg List.tail h;simpa using this
theorem drop_nil{aB:Type}{xs:List aB}{k:Nat}(h:xs.drop k=[]):xs.length<=k:=by
 have:=congrArg List.length h;simp at this;omega
theorem aeQ(a)(h1:cN a.1.1.length)(h2:cN a.1.2.1.length)(iZ:∀x,x∈a.1.1->0<=x)(iY:∀x,x∈a.1.2.1->0<=x):f182 a=some ((qC a.1.1 a.1.2.1,()),()):=by
 obtain⟨⟨xs,ys,u⟩,b9⟩:=a;have h1:xs.length<=2097152:=h1;have h2:ys.length<=2097152:=h2;have iZ:∀x:Int,x∈xs->0<=x:=iZ;have iY:∀x:Int,x∈ys->0<=x:=iY;have key:∀(n:Nat) (us ws:List Int) (k:Nat),us.length+ws.length=n->xs.drop k=us->ys.drop k=ws->k<=2097152->
   (o4 ((xs,(ys,((k:Int),()))),())).bind (fun aoZ=>(match aoZ with|.inl aoY=>some ((aoY.1.1,()),())|.inr axq=>some (((0:Int),()),()):Option KQ.J))=some ((qC us ws,()),()):=by
  intro n;induction n using Nat.strongRecOn with
  |_ n ih=>
   intro us ws k hn ha hb hk;have hw:am k:=by unfold am;omega
   match us,ws with
   |[],[]=>
    have c1:=drop_nil ha;have c2:=drop_nil hb;have d1:decide ((k:Int)<(xs.length:Int))=false:=by simp only[decide_eq_false_iff_not];omega
    have d2:decide ((k:Int)<(ys.length:Int))=false:=by simp only[decide_eq_false_iff_not];omega
    have:o4 ((xs,(ys,((k:Int),()))),())=some (.inr ((),())):=by
     refine cx ?_
     simp only[tL,tz,d1,d2,Bool.not_false,cond_true,cond_false,Option.bind_some]
    rw[this];rfl
   |[],y::ws=>
    have c1:=drop_nil ha;obtain⟨c2,c3,dh⟩:=drop_cons hb;have hy:=iY y (List.mem_of_getElem? c2);have d1:decide ((k:Int)<(xs.length:Int))=false:=by simp only[decide_eq_false_iff_not];omega
    have d3:decide ((-1:Int)<y)=true:=by simp only[decide_eq_true_eq];omega
    have:o4 ((xs,(ys,((k:Int),()))),())=some (.inl ((((-1):Int),()),())):=by
     refine cx ?_
     simp only[tL,tz,wb,wa,d1,cn dh,cc,c2,Bool.not_false,cond_true,cond_false,Option.bind_some,d3]
    rw[this];rfl
   |x::us,[]=>
    have c1:=drop_nil hb;obtain⟨c2,c3,dh⟩:=drop_cons ha;have hx:=iZ x (List.mem_of_getElem? c2);have d1:decide ((k:Int)<(ys.length:Int))=false:=by simp only[decide_eq_false_iff_not];omega
    have d3:decide (x<(-1:Int))=false:=by simp only[decide_eq_false_iff_not];omega
    have d4:decide (x>(-1:Int))=true:=by simp only[decide_eq_true_eq];omega
    have:o4 ((xs,(ys,((k:Int),()))),())=some (.inl (((1:Int),()),())):=by
     refine cx ?_
     simp only[tL,tz,wb,wa,d1,cn dh,cc,c2,Bool.not_true,cond_true,cond_false,Option.bind_some,d3,d4]
    rw[this];rfl
   |x::us,y::ws=>
    obtain⟨c2,c3,dh⟩:=drop_cons ha;obtain⟨e2,bp,dU⟩:=drop_cons hb;have step:tL ((xs,(ys,((k:Int),()))),())=some (bif decide (x<y) then .inr (.inl ((((-1):Int),()),())) else bif decide (x>y) then .inr (.inl (((1:Int),()),())) else .inl ((xs,(ys,(((k+1:Nat):Int),()))),())):=by
     simp only[tL,tz,wb,wa,cn dh,cn dU,cc,c2,e2,Bool.not_true,cond_true,cond_false,Option.bind_some,b6 hw];cases decide (x<y)<;>cases decide (x>y)<;>rfl
    rw[qC];cases hlt:decide (x<y) with
    |true=>rw[hlt,cond_true] at step;rw[show o4 ((xs,(ys,((k:Int),()))),())=_ from cx step];rfl
    |false=>
     rw[hlt,cond_false] at step;cases sH:decide (x>y) with
     |true=>rw[sH,cond_true] at step;rw[show o4 ((xs,(ys,((k:Int),()))),())=_ from cx step];rfl
     |false=>
      rw[sH,cond_false] at step;rw[show o4 ((xs,(ys,((k:Int),()))),())=_ from dL step]
      exact ih (us.length+ws.length) (by simp only[List.length_cons] at hn;omega) us ws (k+1) rfl c3 bp (by omega)
 have:=key _ xs ys 0 rfl rfl rfl (Nat.zero_le _);simp only[f182];exact this
theorem agR(a):f224 a=some ((bif decide (a.1.1<a.1.2.1) then-1 else bif decide (a.1.1>a.1.2.1) then 1 else 0,()),()):=by
 obtain⟨⟨x,y,u⟩,b9⟩:=a;have hx:(x !=x)=false:=by simp
 have hy:(y !=y)=false:=by simp
 simp only[f224,f259,Option.bind_some,hx,hy,cond_false];cases decide (x<y)<;>cases decide (x>y)<;>rfl
theorem ae4(a)(h1:cN a.1.1.length)(h2:cN a.1.2.1.length):f184 a=some ((qC a.1.1 a.1.2.1,()),()):=by
 obtain⟨⟨xs,ys,u⟩,b9⟩:=a;have h1:xs.length<=2097152:=h1;have h2:ys.length<=2097152:=h2;have key:∀(us ws:List Int) (k:Nat),xs.drop k=us->ys.drop k=ws->k<=xs.length->
   (qd ((xs,(ys,(xs,((xs.length:Int),((k:Int),()))))),())).bind (fun amN=>(match amN with
    |.inl amM=>some ((amM.1.1,()),())
    |.inr UL=>bif(decide ((UL.1.1.length:Int)<(UL.1.2.1.length:Int))) then some ((((-1):Int),()),()) else some (((0:Int),()),()):Option KP.J))=some ((qC us ws,()),()):=by
  intro us;induction us with
  |nil=>
   intro ws k ha hb hk;have c1:=drop_nil ha;have d1:decide ((k:Int)<(xs.length:Int))=false:=by simp only[decide_eq_false_iff_not];omega
   have:qd ((xs,(ys,(xs,((xs.length:Int),((k:Int),()))))),())=some (.inr ((xs,(ys,())),())):=by
    refine cx ?_
    simp only[wW,d1,cond_false]
   rw[this];simp only[Option.bind_some];cases ws with
   |nil=>
    have c2:=drop_nil hb;have:decide ((xs.length:Int)<(ys.length:Int))=false:=by simp only[decide_eq_false_iff_not];omega
    rw[this];rfl
   |cons y ws=>
    obtain⟨_,_,dh⟩:=drop_cons hb;rw[cn (show xs.length<ys.length by omega)];rfl
  |cons x us ih=>
   intro ws k ha hb hk;obtain⟨c2,c3,dh⟩:=drop_cons ha;have hw:am k:=by unfold am;omega
   cases ws with
   |nil=>
    have c1:=drop_nil hb;have d1:decide ((k:Int)>=(ys.length:Int))=true:=by simp only[decide_eq_true_eq];omega
    have:qd ((xs,(ys,(xs,((xs.length:Int),((k:Int),()))))),())=some (.inl (((1:Int),()),())):=by
     refine cx ?_
     simp only[wW,cn dh,cond_true,cc,c2,Option.bind_some,d1]
    rw[this];rfl
   |cons y ws=>
    obtain⟨e2,bp,dU⟩:=drop_cons hb;have d1:decide ((k:Int)>=(ys.length:Int))=false:=by simp only[decide_eq_false_iff_not];omega
    have step:wW ((xs,(ys,(xs,((xs.length:Int),((k:Int),()))))),())=some (bif decide (x<y) then .inr (.inl ((((-1):Int),()),())) else bif decide (x>y) then .inr (.inl (((1:Int),()),())) else .inl ((xs,(ys,(xs,((xs.length:Int),(((k+1:Nat):Int),()))))),())):=by
     simp only[wW,cn dh,cc,c2,e2,d1,cond_true,cond_false,Option.bind_some,agR,b6 hw];cases decide (x<y)<;>cases decide (x>y)<;>rfl
    rw[qC];cases hlt:decide (x<y) with
    |true=>rw[hlt,cond_true] at step;rw[show qd ((xs,(ys,(xs,((xs.length:Int),((k:Int),()))))),())=_ from cx step];rfl
    |false=>
     rw[hlt,cond_false] at step;cases sH:decide (x>y) with
     |true=>rw[sH,cond_true] at step;rw[show qd ((xs,(ys,(xs,((xs.length:Int),((k:Int),()))))),())=_ from cx step];rfl
     |false=>
      rw[sH,cond_false] at step;rw[show qd ((xs,(ys,(xs,((xs.length:Int),((k:Int),()))))),())=_ from dL step]
      exact ih ws (k+1) c3 bp (by omega)
 have:=key xs ys 0 rfl rfl (Nat.zero_le _);simp only[f184];exact this
def sb(a b:F):Int:=bif ev a&&ev b then qC (ix a) (ix b) else 0
theorem Oe{s:F}(h:ev s=true):∀x,x∈ix s->0<=x:=by
 intro x hx;unfold ix at hx;obtain⟨p,hp,rfl⟩:=List.mem_map.1 hx;unfold ev at h;simp only[Bool.and_eq_true] at h;have:=List.all_eq_true.1 h.1 p hp;unfold fZ at this;simp only[Bool.and_eq_true] at this;exact O6 p 0 this.1.1.1.1 (Int.le_refl _)
theorem zL(s:F):(ix s).length<=s.length+1:=by
 unfold ix iM;rw[List.length_map];exact tb 46 s
theorem abj(a)(h1:a.1.1.length<=2097151)(h2:a.1.2.1.length<=2097151):f126 a=some ((sb a.1.1 a.1.2.1,()),()):=by
 obtain⟨⟨x,y,u⟩,b9⟩:=a;have h1:x.length<=2097151:=h1;have h2:y.length<=2097151:=h2;obtain⟨o1,e1,q1⟩:=FQ ((x,()),()) (show x.length<=2097152 by omega)
 obtain⟨o2,e2,q2⟩:=FQ ((y,()),()) (show y.length<=2097152 by omega)
 simp only[f126,e1,e2,Option.bind_some,Jg,sb,Bool.not_not];cases hx:ev x with
 |false=>rfl
 |true=>
  cases hy:ev y with
  |false=>rfl
  |true=>
   have ati:=zL x;have yt:=zL y;have aP:o1=ix x:=q1 hx;have w2:o2=ix y:=q2 hy;subst aP w2;have bp:=aeQ ((ix x,(ix y,())),()) (show(ix x).length<=2097152 by omega) (show(ix y).length<=2097152 by omega) (Oe hx) (Oe hy)
   simp only[cond_true,Bool.not_true,Option.bind_some,cond_false,bp,Bool.and_self]
theorem abe(a)(h1:a.1.1.length<=2097151)(h2:a.1.2.1.length<=2097151):f78 a=some ((sb a.1.1 a.1.2.1,()),()):=by
 obtain⟨⟨x,y,u⟩,b9⟩:=a;have h1:x.length<=2097151:=h1;have h2:y.length<=2097151:=h2;have e1:=Fb ((x,()),()) (show x.length<=2097152 by omega)
 have e2:=Fb ((y,()),()) (show y.length<=2097152 by omega)
 simp only[f78,e1,e2,Option.bind_some,J6,sb,Bool.not_not];cases hx:ev x with
 |false=>rfl
 |true=>
  cases hy:ev y with
  |false=>rfl
  |true=>
   have ati:=zL x;have yt:=zL y;have bp:=ae4 ((ix x,(ix y,())),()) (show(ix x).length<=2097152 by omega) (show(ix y).length<=2097152 by omega)
   simp only[cond_true,Bool.not_true,Option.bind_some,cond_false,f128,bp,Bool.and_self]
def uC(n:bG)(v:F):Bool:=bif n.kind==1 then sb v n.aW==0 else bif n.kind==2 then decide (sb v n.aW>=0) else bif n.kind==3 then decide (sb v n.aW<0) else true
theorem agJ(a)(h1:a.1.1.2.2.1.length<=2097151)(h2:a.1.2.2.1.length<=2097151)(hn:a.1.2.1=a.1.1.1):f192 a=some ((uC ⟨a.1.1.1,a.1.1.2.1,a.1.1.2.2.1⟩ a.1.2.2.1,()),()):=by
 obtain⟨⟨⟨n,k,v,u⟩,m,w,b9⟩,po⟩:=a;obtain rfl:m=n:=hn;have e1:=abj ((w,(v,())),()) h2 h1;have fc:(m==m)=true:=by simp
 simp only[f192,fc,e1,Bool.not_true,cond_false,Option.bind_some,uC];cases (k==1)<;>cases (k==2)<;>cases (k==3)<;>rfl
def ml(n:bG)(name v:F):Bool:=dB n&&ev v&&(name==n.name)&&uC n v
theorem adF(a)(h0:cN a.1.1.1.length)(h1:a.1.1.2.2.1.length<=2097151)(h2:a.1.2.2.1.length<=2097151):f132 a=some ((ml ⟨a.1.1.1,a.1.1.2.1,a.1.1.2.2.1⟩ a.1.2.1 a.1.2.2.1,()),()):=by
 obtain⟨⟨⟨n,k,v,u⟩,m,w,b9⟩,po⟩:=a;have h1:v.length<=2097151:=h1;have h2:w.length<=2097151:=h2;have e1:=abe ((w,(v,())),()) h2 h1;have e2:=zO (((n,(k,(v,()))),()),()) h0 (show v.length<=2097152 by omega)
 have bp:=Fe ((w,()),()) (show w.length<=2097152 by omega)
 simp only[f132,Jf,e1,e2,bp,Bool.not_not,Option.bind_some,ml,uC];cases dB ⟨n,k,v⟩ with
 |false=>rfl
 |true=>
  cases ev w with
  |false=>rfl
  |true=>
   cases (m==n) with
   |false=>rfl
   |true=>
    simp only[cond_true,Bool.not_true,Option.bind_some,cond_false,Bool.true_and];cases (k==1)<;>cases (k==2)<;>cases (k==3)<;>simp only[cond_true,cond_false,Option.bind_some,e1]
abbrev Bw:Shape:=⟨[aM 0 .pack,aq 1,ad 5],[],20⟩
abbrev Iv:List aR:=[(.ret,⟨[ad 4],[],20⟩),(.exit 0,⟨[],[],20⟩)]
noncomputable def B4(y:Bw.J):bR Bw Iv:=
 bif(decide (y.1.2.2.1<(y.1.1.length:Int))) then
(aQ y.1.1 y.1.2.2.1).bind fun a=>
 bif(a.name==y.1.2.1) then
 some (.inr (.inl ((y.1.2.2.1,()),())))
else
 some (.inl ((y.1.1,y.1.2.1,(IntKind.i64.wrap (y.1.2.2.1+(1:Int))),()),()))
else
 some (.inr (.inr ((),())))
noncomputable def tH:Bw.J->Option (aF Iv):=bu B4
theorem ajK:aX Z (ap (codeOf Tryz.f104) 1 26) (bb Bw Iv tH):=bW g0 (by kernel_rfl) aj fun y=>by kernel_rfl
abbrev i104:Shape:=⟨[aM 0 .pack,aq 1],[],20⟩
abbrev Xa:Shape:=⟨[ad 4],[],20⟩
noncomputable def f104(a:i104.J):Option Xa.J:=
(tH ((a.1.1,a.1.2.1,(0:Int),()),())).bind fun b=>
(match b with
|.inl c=>
 some ((c.1.1,()),())
|.inr d=>
 some ((((-1):Int),()),()))
noncomputable def YU:aK:=a6 ak Tryz.f104 i104 Xa [] f104
theorem aow:aL Z 104 YU:=ba g0 Tryz.func104 (by kernel_rfl) (bd ajK aj) (fun y=>by kernel_rfl) fun a=>by kernel_rfl
noncomputable abbrev ara:bl:=[(104,YU),(192,Yq)]
theorem DZ:bc Z (bi ak ara):=bj ⟨aow,aob,⟨⟩⟩
abbrev OK:Shape:=⟨[aM 0 .pack,ad 3,ad 4,a8 5 5 0,ad 6],[a7 5 [ax,bz,ax]],49⟩
abbrev OF:List aR:=[(.norm,⟨[aM 0 .pack,ad 3,ad 4,ad 35,aC 36,aC 37,aC 48],[],49⟩)]
noncomputable def zx(y:OK.J):Option (aF OF):=
 bif(decide (y.1.2.2.2.2.1<(0:Int))) then
 some ((y.1.1,y.1.2.1,y.1.2.2.1,y.1.2.2.2.2.1,(decide (y.1.2.2.2.2.1<(0:Int))),true,true,()),())
else
(aQ y.1.1 y.1.2.2.2.2.1).bind fun a=>
(f192 (((y.2.1.1,y.2.1.2.1,y.2.1.2.2.1,()),y.2.1.1,a.aW,()),())).bind fun b=>
 some ((y.1.1,y.1.2.1,y.1.2.2.1,y.1.2.2.2.2.1,(decide (y.1.2.2.2.2.1<(0:Int))),false,(!b.1.1),()),())
theorem acZ:aX Z (ap (di (ap (di (ap (codeOf Tryz.f135) 1 26)) 52 1682)) 3364 215334) (bb OK OF zx):=c8 DZ (by kernel_rfl) aj fun y=>by kernel_rfl
abbrev z7:Shape:=⟨[aM 0 .pack,ad 3,ad 4],[],49⟩
abbrev F1:List aR:=[(.ret,⟨[aC 2],[],49⟩),(.exit 2,⟨[aM 0 .pack,ad 3],[],49⟩)]
noncomputable def Ah(y:z7.J):bR z7 F1:=
(aQ y.1.1 y.1.2.1).bind fun a=>
 bif(decide (y.1.2.2.1<(a.bh.length:Int))) then
(aQ y.1.1 y.1.2.1).bind fun b=>
(aQ b.bh y.1.2.2.1).bind fun c=>
(f104 ((y.1.1,c.name,()),())).bind fun d=>
(zx ((y.1.1,y.1.2.1,y.1.2.2.1,(),d.1.1,()),(c.name,c.kind,c.aW,()),())).bind fun e=>
 bif e.1.2.2.2.2.2.2.1 then
 some (.inr (.inl ((false,()),())))
else
 some (.inl ((e.1.1,e.1.2.1,(IntKind.i64.wrap (e.1.2.2.1+(1:Int))),()),()))
else
 some (.inr (.inr ((y.1.1,y.1.2.1,()),())))
noncomputable def Gl:z7.J->Option (aF F1):=bu Ah
theorem afO:aX Z (ap (di (ap (codeOf Tryz.f135) 1 26)) 52 1682) (bb z7 F1 Gl):=bW DZ (by kernel_rfl) (bd acZ aj) fun y=>by kernel_rfl
abbrev Bt:Shape:=⟨[aM 0 .pack,ad 3],[],49⟩
abbrev Ir:List aR:=[(.ret,⟨[aC 2],[],49⟩),(.exit 0,⟨[],[],49⟩)]
noncomputable def B1(y:Bt.J):bR Bt Ir:=
 bif(decide (y.1.2.1<(y.1.1.length:Int))) then
(Gl ((y.1.1,y.1.2.1,(0:Int),()),())).bind fun a=>
(match a with
|.inl b=>
 some (.inr (.inl ((b.1.1,()),())))
|.inr c=>
 some (.inl ((c.1.1,(IntKind.i64.wrap (c.1.2.1+(1:Int))),()),())))
else
 some (.inr (.inr ((),())))
noncomputable def I5:Bt.J->Option (aF Ir):=bu B1
theorem ajC:aX Z (ap (codeOf Tryz.f135) 1 26) (bb Bt Ir I5):=bW DZ (by kernel_rfl) (bd afO aj) fun y=>by kernel_rfl
abbrev i135:Shape:=⟨[aM 0 .pack],[],49⟩
abbrev WV:Shape:=⟨[aC 2],[],49⟩
noncomputable def f135(a:i135.J):Option WV.J:=
(I5 ((a.1.1,(0:Int),()),())).bind fun b=>
(match b with
|.inl c=>
 some ((c.1.1,()),())
|.inr d=>
 some ((true,()),()))
noncomputable def YK:aK:=a6 ak Tryz.f135 i135 WV [] f135
theorem aom:aL Z 135 YK:=ba DZ Tryz.func135 (by kernel_rfl) (bd ajC aj) (fun y=>by kernel_rfl) fun a=>by kernel_rfl
noncomputable abbrev al8:bl:=[(101,Uw),(141,YG)]
theorem Uy:bc Z (bi ak al8):=bj ⟨akH,z141,⟨⟩⟩
abbrev Qf:Shape:=⟨[(0,.ag (.eQ [.sl .pack] 0))],[],10⟩
abbrev PY:List aR:=[(.norm,⟨[aC 9],[],10⟩)]
noncomputable def Gw(y:Qf.J):Option (aF PY):=
(CU ((y.1.1.1,(),()),())).bind fun a=>
 bif(!(!a.1.1)) then
(f141 ((y.1.1.1,()),())).bind fun b=>
 some (((!b.1.1),()),())
else
 some ((true,()),())
theorem afM:aX Z (ap (codeOf Tryz.f140) 1 12) (bb Qf PY Gw):=c8 Uy (by kernel_rfl) aj fun y=>by kernel_rfl
abbrev T7:Shape:=⟨[(0,.ag (.eQ [.sl .pack] 0))],[],10⟩
abbrev TM:Shape:=⟨[ad 1],[],10⟩
noncomputable def ud(a:T7.J):Option TM.J:=
(Gw (((a.1.1.1,()),()),())).bind fun b=>
 bif b.1.1 then
 some (((1:Int),()),())
else
 some (((0:Int),()),())
noncomputable def Us:aK:=a6 ak Tryz.f140 T7 TM [] ud
theorem akD:aL Z 140 Us:=ba Uy Tryz.func140 (by kernel_rfl) (bd afM aj) (fun y=>by kernel_rfl) fun a=>by kernel_rfl
abbrev T6:Shape:=⟨[(0,.ag (.eQ [.sl .pack] 0))],[],5⟩
abbrev TL:Shape:=⟨[ad 1],[],5⟩
noncomputable def uc(a:T6.J):Option TL.J:=
 bif(decide ((a.1.1.1.length:Int)>(5:Int))) then
 some (((6:Int),()),())
else
 some (((0:Int),()),())
noncomputable def Ur:aK:=a6 ak Tryz.f142 T6 TL [] uc
theorem akC:aL Z 142 Ur:=ba g0 Tryz.func142 (by kernel_rfl) aj (fun y=>by kernel_rfl) fun a=>by kernel_rfl
noncomputable abbrev al5:bl:=[(132,YL)]
theorem ame:bc Z (bi ak al5):=bj ⟨aon,⟨⟩⟩
abbrev T3:Shape:=⟨[dw 0 [ax,ax,dA .need,dA .entry],(1,.ag (.eQ [.str,.int .i64,.str] 0))],[],10⟩
abbrev TI:Shape:=⟨[aC 3],[],10⟩
noncomputable def J_(a:T3.J):Option TI.J:=
(f132 (((a.1.2.1.1,a.1.2.1.2.1,a.1.2.1.2.2.1,()),a.1.1.1,a.1.1.2.1,()),())).bind fun b=>
 some ((b.1.1,()),())
noncomputable def Uo:aK:=a6 ak Tryz.f196 T3 TI [] J_
theorem akz:aL Z 196 Uo:=ba ame Tryz.func196 (by kernel_rfl) aj (fun y=>by kernel_rfl) fun a=>by kernel_rfl
noncomputable abbrev al3:bl:=[(196,Uo)]
theorem Ux:bc Z (bi ak al3):=bj ⟨akz,⟨⟩⟩
abbrev zW:Shape:=⟨[aM 0 .pack,(1,.ag (.fn 196 [[.str,.int .i64,.str]])),ad 7,ad 8],[],19⟩
abbrev FV:List aR:=[(.ret,⟨[ad 4],[],19⟩),(.exit 0,⟨[],[],19⟩)]
noncomputable def Ac(y:zW.J):bR zW FV:=
 bif(decide (y.1.2.2.2.1<y.1.2.2.1)) then
(aQ y.1.1 y.1.2.2.2.1).bind fun a=>
(J_ (((a.name,a.aW,a.bh,a.bK,()),(y.1.2.1.1.1,y.1.2.1.1.2.1,y.1.2.1.1.2.2.1,()),()),())).bind fun b=>
 bif b.1.1 then
 some (.inr (.inl ((y.1.2.2.2.1,()),())))
else
 some (.inl ((y.1.1,((y.1.2.1.1.1,y.1.2.1.1.2.1,y.1.2.1.1.2.2.1,()),()),y.1.2.2.1,(IntKind.i64.wrap (y.1.2.2.2.1+(1:Int))),()),()))
else
 some (.inr (.inr ((),())))
noncomputable def to:zW.J->Option (aF FV):=bu Ac
theorem afy:aX Z (ap (codeOf Tryz.f231) 1 26) (bb zW FV to):=bW Ux (by kernel_rfl) aj fun y=>by kernel_rfl
abbrev T1:Shape:=⟨[aM 0 .pack,(1,.ag (.fn 196 [[.str,.int .i64,.str]]))],[],19⟩
abbrev JK:Shape:=⟨[ad 4],[],19⟩
noncomputable def CP(a:T1.J):Option JK.J:=
(to ((a.1.1,((a.1.2.1.1.1,a.1.2.1.1.2.1,a.1.2.1.1.2.2.1,()),()),(a.1.1.length:Int),(0:Int),()),())).bind fun b=>
(match b with
|.inl c=>
 some ((c.1.1,()),())
|.inr d=>
 some ((((-1):Int),()),()))
noncomputable def Um:aK:=a6 ak Tryz.f231 T1 JK [] CP
theorem akx:aL Z 231 Um:=ba Ux Tryz.func231 (by kernel_rfl) (bd afy aj) (fun y=>by kernel_rfl) fun a=>by kernel_rfl
noncomputable abbrev al4:bl:=[(231,Um)]
theorem amd:bc Z (bi ak al4):=bj ⟨akx,⟨⟩⟩
abbrev T2:Shape:=⟨[aM 0 .pack,(1,.ag (.fn 196 [[.str,.int .i64,.str]]))],[],9⟩
abbrev TH:Shape:=⟨[aC 4],[],9⟩
noncomputable def CQ(a:T2.J):Option TH.J:=
(CP ((a.1.1,((a.1.2.1.1.1,a.1.2.1.1.2.1,a.1.2.1.1.2.2.1,()),()),()),())).bind fun b=>
 some (((decide (b.1.1>=(0:Int))),()),())
noncomputable def Un:aK:=a6 ak Tryz.f197 T2 TH [] CQ
theorem aky:aL Z 197 Un:=ba amd Tryz.func197 (by kernel_rfl) aj (fun y=>by kernel_rfl) fun a=>by kernel_rfl
noncomputable abbrev aq6:bl:=[(197,Un)]
theorem LV:bc Z (bi ak aq6):=bj ⟨aky,⟨⟩⟩
abbrev z1:Shape:=⟨[aM 0 .pack,aM 8 .pack,ad 9,ad 10,aM 15 .need,ad 16,ad 17],[],28⟩
abbrev FZ:List aR:=[(.ret,⟨[aC 2],[],28⟩),(.exit 2,⟨[aM 0 .pack,aM 8 .pack,ad 9,ad 10],[],28⟩)]
noncomputable def Af(y:z1.J):bR z1 FZ:=
 bif(decide (y.1.2.2.2.2.2.2.1<y.1.2.2.2.2.2.1)) then
(aQ y.1.2.2.2.2.1 y.1.2.2.2.2.2.2.1).bind fun a=>
(CQ ((y.1.1,((a.name,a.kind,a.aW,()),()),()),())).bind fun b=>
 bif(!b.1.1) then
 some (.inr (.inl ((false,()),())))
else
 some (.inl ((y.1.1,y.1.2.1,y.1.2.2.1,y.1.2.2.2.1,y.1.2.2.2.2.1,y.1.2.2.2.2.2.1,(IntKind.i64.wrap (y.1.2.2.2.2.2.2.1+(1:Int))),()),()))
else
 some (.inr (.inr ((y.1.1,y.1.2.1,y.1.2.2.1,y.1.2.2.2.1,()),())))
noncomputable def Gk:z1.J->Option (aF FZ):=bu Af
theorem afL:aX Z (ap (di (ap (codeOf Tryz.f144) 1 26)) 52 6758) (bb z1 FZ Gk):=bW LV (by kernel_rfl) aj fun y=>by kernel_rfl
abbrev Br:Shape:=⟨[aM 0 .pack,aM 8 .pack,ad 9,ad 10],[],28⟩
abbrev Ip:List aR:=[(.ret,⟨[aC 2],[],28⟩),(.exit 0,⟨[],[],28⟩)]
noncomputable def BZ(y:Br.J):bR Br Ip:=
 bif(decide (y.1.2.2.2.1<y.1.2.2.1)) then
(aQ y.1.2.1 y.1.2.2.2.1).bind fun a=>
(Gk ((y.1.1,y.1.2.1,y.1.2.2.1,y.1.2.2.2.1,a.bh,(a.bh.length:Int),(0:Int),()),())).bind fun b=>
(match b with
|.inl c=>
 some (.inr (.inl ((c.1.1,()),())))
|.inr d=>
 some (.inl ((d.1.1,d.1.2.1,d.1.2.2.1,(IntKind.i64.wrap (d.1.2.2.2.1+(1:Int))),()),())))
else
 some (.inr (.inr ((),())))
noncomputable def I3:Br.J->Option (aF Ip):=bu BZ
theorem ajz:aX Z (ap (codeOf Tryz.f144) 1 26) (bb Br Ip I3):=bW LV (by kernel_rfl) (bd afL aj) fun y=>by kernel_rfl
abbrev i144:Shape:=⟨[aM 0 .pack],[],28⟩
abbrev WQ:Shape:=⟨[aC 2],[],28⟩
noncomputable def f144(a:i144.J):Option WQ.J:=
(I3 ((a.1.1,a.1.1,(a.1.1.length:Int),(0:Int),()),())).bind fun b=>
(match b with
|.inl c=>
 some ((c.1.1,()),())
|.inr d=>
 some ((true,()),()))
noncomputable def YF:aK:=a6 ak Tryz.f144 i144 WQ [] f144
theorem aoj:aL Z 144 YF:=ba LV Tryz.func144 (by kernel_rfl) (bd ajz aj) (fun y=>by kernel_rfl) fun a=>by kernel_rfl
noncomputable abbrev al7:bl:=[(144,YF)]
theorem amg:bc Z (bi ak al7):=bj ⟨aoj,⟨⟩⟩
abbrev T5:Shape:=⟨[(0,.ag (.eQ [.sl .pack] 0))],[],5⟩
abbrev TK:Shape:=⟨[ad 1],[],5⟩
noncomputable def ub(a:T5.J):Option TK.J:=
(f144 ((a.1.1.1,()),())).bind fun b=>
 bif(!b.1.1) then
 some (((4:Int),()),())
else
 some (((0:Int),()),())
noncomputable def Uq:aK:=a6 ak Tryz.f143 T5 TK [] ub
theorem akB:aL Z 143 Uq:=ba amg Tryz.func143 (by kernel_rfl) aj (fun y=>by kernel_rfl) fun a=>by kernel_rfl
noncomputable abbrev al6:bl:=[(52,_U)]
theorem amf:bc Z (bi ak al6):=bj ⟨ar7,⟨⟩⟩
abbrev T4:Shape:=⟨[(0,.ag (.eQ [.sl .pack] 0))],[],11⟩
abbrev TJ:Shape:=⟨[ad 1],[],11⟩
noncomputable def ua(a:T4.J):Option TJ.J:=
(f52 ((a.1.1.1,()),())).bind fun b=>
 bif(!b.1.2.1) then
 some (((5:Int),()),())
else
 some (((0:Int),()),())
noncomputable def Up:aK:=a6 ak Tryz.f145 T4 TJ [] ua
theorem akA:aL Z 145 Up:=ba amf Tryz.func145 (by kernel_rfl) aj (fun y=>by kernel_rfl) fun a=>by kernel_rfl
noncomputable abbrev ave:bl:=[(51,_V),(98,M'),(135,YK)]
theorem Ni:bc Z (bi ak ave):=bj ⟨z51,Zf,aom,⟨⟩⟩
abbrev Sn:Shape:=⟨[aM 0 .pack,ad 3],[],52⟩
abbrev R_:List aR:=[(.norm,⟨[aM 0 .pack,ad 3,aM 12 .pack,ad 13,(14,.ag (.eQ [.str,.str,.sl .need,.sl .entry] 0)),dw 15 [ax,ax,dA .need,dA .entry],aC 16,aC 17,aC 18,aC 35],[],52⟩)]
noncomputable def I'(y:Sn.J):Option (aF R_):=
(aQ y.1.1 y.1.2.1).bind fun a=>
(f98 (((a.name,a.aW,a.bh,a.bK,()),()),())).bind fun b=>
 bif(!b.1.1) then
 some ((y.1.1,y.1.2.1,y.1.1,y.1.2.1,(a.name,a.aW,a.bh,a.bK,()),(a.name,a.aW,a.bh,a.bK,()),b.1.1,(!b.1.1),true,true,()),())
else
 bif(decide (y.1.2.1>(0:Int))) then
(aQ y.1.1 (IntKind.i64.wrap (y.1.2.1-(1:Int)))).bind fun c=>
(aQ y.1.1 y.1.2.1).bind fun d=>
 some ((y.1.1,y.1.2.1,y.1.1,y.1.2.1,(a.name,a.aW,a.bh,a.bK,()),(a.name,a.aW,a.bh,a.bK,()),b.1.1,(!b.1.1),false,(!(Op.bytesLess c.name d.name)),()),())
else
 some ((y.1.1,y.1.2.1,y.1.1,y.1.2.1,(a.name,a.aW,a.bh,a.bK,()),(a.name,a.aW,a.bh,a.bK,()),b.1.1,(!b.1.1),false,false,()),())
theorem aiX:aX Z (ap (di (ap (codeOf Tryz.f85) 1 26)) 52 840) (bb Sn R_ I'):=c8 Ni (by kernel_rfl) aj fun y=>by kernel_rfl
abbrev Ck:Shape:=⟨[aM 0 .pack,ad 3],[],52⟩
abbrev Jw:List aR:=[(.ret,⟨[ad 2],[],52⟩),(.exit 0,⟨[aM 0 .pack],[],52⟩)]
noncomputable def CH(y:Ck.J):bR Ck Jw:=
 bif(decide (y.1.2.1<(y.1.1.length:Int))) then
(I' ((y.1.1,y.1.2.1,()),())).bind fun a=>
 bif a.1.2.2.2.2.2.2.2.2.2.1 then
 some (.inr (.inl (((1:Int),()),())))
else
 some (.inl ((a.1.1,(IntKind.i64.wrap (a.1.2.1+(1:Int))),()),()))
else
 some (.inr (.inr ((y.1.1,()),())))
noncomputable def JS:Ck.J->Option (aF Jw):=bu CH
theorem ak9:aX Z (ap (codeOf Tryz.f85) 1 26) (bb Ck Jw JS):=bW Ni (by kernel_rfl) (bd aiX aj) fun y=>by kernel_rfl
abbrev i85:Shape:=⟨[aM 0 .pack],[],52⟩
abbrev ZA:Shape:=⟨[ad 2],[],52⟩
noncomputable def f85(a:i85.J):Option ZA.J:=
(JS ((a.1.1,(0:Int),()),())).bind fun b=>
(match b with
|.inl c=>
 some ((c.1.1,()),())
|.inr d=>
(f51 ((d.1.1,()),())).bind fun e=>
 bif(decide ((d.1.1.length:Int)>(5:Int))) then
 some (((6:Int),()),())
else
(f135 ((d.1.1,()),())).bind fun f=>
 bif(!f.1.1) then
 some (((4:Int),()),())
else
 bif(!e.1.2.1) then
 some (((5:Int),()),())
else
 some (((0:Int),()),()))
noncomputable def _N:aK:=a6 ak Tryz.f85 i85 ZA [] f85
theorem z85:aL Z 85 _N:=ba Ni Tryz.func85 (by kernel_rfl) (bd ak9 aj) (fun y=>by kernel_rfl) fun a=>by kernel_rfl
noncomputable abbrev avq:bl:=[(85,_N)]
theorem avF:bc Z (bi ak avq):=bj ⟨z85,⟨⟩⟩
abbrev i46:Shape:=⟨[dw 0 [dA .pack]],[],7⟩
abbrev ZM:Shape:=⟨[aC 2],[],7⟩
noncomputable def f46(a:i46.J):Option ZM.J:=
(f85 ((a.1.1.1,()),())).bind fun b=>
 some (((b.1.1==(0:Int)),()),())
noncomputable def _Z:aK:=a6 ak Tryz.f46 i46 ZM [] f46
theorem z46:aL Z 46 _Z:=ba avF Tryz.func46 (by kernel_rfl) aj (fun y=>by kernel_rfl) fun a=>by kernel_rfl
noncomputable abbrev vz:bl:=[(140,Us),(142,Ur),(143,Uq),(145,Up)]
theorem aab:bc Z (bi ak vz):=bj ⟨akD,akC,akB,akA,⟨⟩⟩
abbrev UJ:Shape:=⟨[a8 1 1 0],[a7 1 [dA .pack]],24⟩
abbrev qt:List aR:=[(.ret,⟨[ad 2],[],24⟩)]
noncomputable def rU(c:Int):aF qt:=((c,()),())
noncomputable def Kq(y:UJ.J):Option (aF qt):=
 rS y.2.1.1 rU [fun ps=>ud (((ps,()),()),()),fun ps=>uc (((ps,()),()),()),fun ps=>ub (((ps,()),()),()),fun ps=>ua (((ps,()),()),())]
theorem amu:∀ps k i,exec (hJ (bi ak vz) []) (ap (di (ap (codeOf Tryz.f88) 1 58)) 116 3737) 3737 (((hd 24).st (ik 24 ps k i)).set 5 (bP (.clo 140 [(1,0)]))) (rV 24 qt)=((fun ps=>ud (((ps,()),()),())) ps).bind fun r=>bif(r.1.1 !=0) then some (.inr (rU r.1.1)) else some (.inl (ik 24 ps k i)):=fun ps k i=>by kernel_rfl
theorem amt:∀ps k i,exec (hJ (bi ak vz) []) (ap (di (ap (codeOf Tryz.f88) 1 58)) 116 3737) 3737 (((hd 24).st (ik 24 ps k i)).set 5 (bP (.clo 142 [(1,0)]))) (rV 24 qt)=((fun ps=>uc (((ps,()),()),())) ps).bind fun r=>bif(r.1.1 !=0) then some (.inr (rU r.1.1)) else some (.inl (ik 24 ps k i)):=fun ps k i=>by kernel_rfl
theorem ams:∀ps k i,exec (hJ (bi ak vz) []) (ap (di (ap (codeOf Tryz.f88) 1 58)) 116 3737) 3737 (((hd 24).st (ik 24 ps k i)).set 5 (bP (.clo 143 [(1,0)]))) (rV 24 qt)=((fun ps=>ub (((ps,()),()),())) ps).bind fun r=>bif(r.1.1 !=0) then some (.inr (rU r.1.1)) else some (.inl (ik 24 ps k i)):=fun ps k i=>by kernel_rfl
theorem amr:∀ps k i,exec (hJ (bi ak vz) []) (ap (di (ap (codeOf Tryz.f88) 1 58)) 116 3737) 3737 (((hd 24).st (ik 24 ps k i)).set 5 (bP (.clo 145 [(1,0)]))) (rV 24 qt)=((fun ps=>ua (((ps,()),()),())) ps).bind fun r=>bif(r.1.1 !=0) then some (.inr (rU r.1.1)) else some (.inl (ik 24 ps k i)):=fun ps k i=>by kernel_rfl
theorem amO:aX Z (ap (codeOf Tryz.f88) 1 3) (bb UJ qt Kq):=
 adp (C:=hJ (bi ak vz) []) (os:=qt) (nt:=24) (T:=167) (e:=166) (m0:=((opsOf (ap (codeOf Tryz.f88) 1 6)).getD 0 default)) (m1:=((opsOf (ap (codeOf Tryz.f88) 1 6)).getD 1 default)) (m2:=((opsOf (ap (codeOf Tryz.f88) 1 6)).getD 2 default)) (m3:=((opsOf (ap (codeOf Tryz.f88) 1 6)).getD 3 default)) (m4:=((opsOf (ap (codeOf Tryz.f88) 1 6)).getD 4 default)) (m5:=((opsOf (ap (codeOf Tryz.f88) 1 6)).getD 5 default)) (n0:=((opsOf (ap (codeOf Tryz.f88) 1 28)).getD 0 default)) (n1:=((opsOf (ap (codeOf Tryz.f88) 1 28)).getD 1 default)) (n2:=((opsOf (ap (codeOf Tryz.f88) 1 28)).getD 2 default)) (q0:=((opsOf (ap (di (ap (codeOf Tryz.f88) 1 58)) 116 232)).getD 0 default)) (r0:=((opsOf (ap (di (ap (codeOf Tryz.f88) 1 58)) 116 3736)).getD 0 default)) (r1:=((opsOf (ap (di (ap (codeOf Tryz.f88) 1 58)) 116 3736)).getD 1 default)) (r2:=((opsOf (ap (di (ap (codeOf Tryz.f88) 1 58)) 116 3736)).getD 2 default))
  (i1:=uk (ap (codeOf Tryz.f88) 1 6)) (i2:=uk (ap (codeOf Tryz.f88) 1 28)) (i3:=uk (ap (di (ap (codeOf Tryz.f88) 1 58)) 116 232)) (i4:=uk (ap (di (ap (codeOf Tryz.f88) 1 58)) 116 3736)) (BB:=(ap (di (ap (codeOf Tryz.f88) 1 58)) 116 3737)) (r8:=(ap (di (ap (codeOf Tryz.f88) 1 58)) 116 935)) (E:=(ap (codeOf Tryz.f88) 1 15)) (p3:=232) (pB:=3737) (p8:=935) (pE:=15) (g0:=140) (g1:=142) (g2:=143) (g3:=145) (c0:=fun ps=>ud (((ps,()),()),())) (c1:=fun ps=>uc (((ps,()),()),())) (c2:=fun ps=>ub (((ps,()),()),())) (c3:=fun ps=>ua (((ps,()),()),())) (mk:=rU) aab
  {sn:=(by kernel_rfl),L3:=(by kernel_rfl),bj:=⟨(by kernel_rfl),(by kernel_rfl),(by kernel_rfl),(by kernel_rfl),(by kernel_rfl),(by kernel_rfl),(by kernel_rfl),(by kernel_rfl),(by kernel_rfl),(by kernel_rfl),(by kernel_rfl),(by kernel_rfl)⟩,gf:=⟨(by kernel_rfl),(by kernel_rfl)⟩,on:=⟨(by kernel_rfl),(by kernel_rfl),(by kernel_rfl)⟩,D_:=⟨(by kernel_rfl),(by kernel_rfl),(by kernel_rfl)⟩,dst:=⟨(by kernel_rfl),(by kernel_rfl),(by kernel_rfl),(by kernel_rfl),(by kernel_rfl),(by kernel_rfl),(by kernel_rfl),(by kernel_rfl)⟩,KU:=(by decide),L9:=(by kernel_rfl),ZY:=(by kernel_rfl),ZX:=(by kernel_rfl),wr:=(by kernel_rfl),asr:=(by kernel_rfl),
   ls:=⟨(fun f hf=>by cases hf),l2 (by kernel_rfl) aj,l2 (by kernel_rfl) aj,l2 (by kernel_rfl) aj⟩,hos:=(fun _ _=>rfl),aE:=(fun ps=>by kernel_rfl),oi:=(fun ps k i=>by kernel_rfl),hlt:=(fun ps k i=>by kernel_rfl),
   hB:=(fun gc h=>by
    simp only[List.mem_cons,List.not_mem_nil,or_false] at h;rcases h with rfl|rfl|rfl|rfl
    ·exact amu
    ·exact amt
    ·exact ams
    ·exact amr),
   h8:=(fun ps k i=>by kernel_rfl),hE:=(fun ps k i=>by kernel_rfl)} (fun ps=>rfl) (by kernel_rfl)
abbrev i88:Shape:=⟨[aM 0 .pack],[],24⟩
abbrev Zx:Shape:=⟨[ad 2],[],24⟩
noncomputable def f88(a:i88.J):Option Zx.J:=
(Kq (((),()),(a.1.1,()),())).bind fun b=>
 some ((b.1.1,()),())
noncomputable def _M:aK:=a6 ak Tryz.f88 i88 Zx [] f88
theorem ar3:aL Z 88 _M:=ba aab Tryz.func88 (by kernel_rfl) (bd amO aj) (fun y=>by kernel_rfl) fun a=>by kernel_rfl
noncomputable abbrev avp:bl:=[(88,_M)]
theorem avE:bc Z (bi ak avp):=bj ⟨ar3,⟨⟩⟩
abbrev i48:Shape:=⟨[dw 0 [dA .pack]],[],7⟩
abbrev ZL:Shape:=⟨[aC 2],[],7⟩
noncomputable def f48(a:i48.J):Option ZL.J:=
(f88 ((a.1.1.1,()),())).bind fun b=>
 some (((b.1.1==(0:Int)),()),())
noncomputable def _Y:aK:=a6 ak Tryz.f48 i48 ZL [] f48
theorem ar9:aL Z 48 _Y:=ba avE Tryz.func48 (by kernel_rfl) aj (fun y=>by kernel_rfl) fun a=>by kernel_rfl
theorem agH(a)(hs:cN a.1.1.length):(∃(k:Nat) (q:aT),f104 a=some (((k:Int),()),())/\a.1.1[k]? =some q/\a.1.1.find? (fun p=>p.name==a.1.2.1)=some q)\/
  (f104 a=some ((((-1):Int),()),())/\a.1.1.find? (fun p=>p.name==a.1.2.1)=none):=by
 obtain⟨⟨ps,name,u⟩,b9⟩:=a;have hs:ps.length<=2097152:=hs;have key:∀(r:List aT) (k:Nat),ps.drop k=r->k<=ps.length->(∃(j:Nat) (q:aT),tH ((ps,(name,((k:Int),()))),())=some (.inl (((j:Int),()),()))/\ps[j]? =some q/\r.find? (fun p=>p.name==name)=some q)\/
   (tH ((ps,(name,((k:Int),()))),())=some (.inr ((),()))/\r.find? (fun p=>p.name==name)=none):=by
  intro r;induction r with
  |nil=>
   intro k hr hk;have:=drop_nil hr;have d1:decide ((k:Int)<(ps.length:Int))=false:=by simp only[decide_eq_false_iff_not];omega
   refine .inr ⟨cx ?_,rfl⟩;simp only[B4,d1,cond_false]
  |cons q r ih=>
   intro k hr hk;obtain⟨c1,c2,c3⟩:=drop_cons hr;have hw:am k:=by unfold am;omega
   have step:B4 ((ps,(name,((k:Int),()))),())=some (bif q.name==name then .inr (.inl (((k:Int),()),())) else .inl ((ps,(name,(((k+1:Nat):Int),()))),())):=by
    simp only[B4,cn c3,cond_true,cc,c1,Option.bind_some,b6 hw];cases (q.name==name)<;>rfl
   cases al:(q.name==name) with
   |true=>
    rw[al,cond_true] at step;exact .inl ⟨k,q,cx step,c1,by simp[List.find?_cons,al]⟩
   |false=>
    rw[al,cond_false] at step;rcases ih (k+1) c2 c3 with⟨j,gd,h1,h2,h3⟩|⟨h1,h2⟩
    ·exact .inl ⟨j,gd,(dL step).trans h1,h2,by simp[List.find?_cons,al];exact h3⟩
    ·exact .inr ⟨(dL step).trans h1,by simp only[List.find?_cons,al];exact h2⟩
 rcases key ps 0 rfl (Nat.zero_le _) with⟨j,q,h1,h2,h3⟩|⟨h1,h2⟩
 ·have h1:tH ((ps,(name,((0:Int),()))),())=some (.inl (((j:Int),()),())):=h1;exact .inl ⟨j,q,by simp only[f104,h1,Option.bind_some],h2,h3⟩
 ·have h1:tH ((ps,(name,((0:Int),()))),())=some (.inr ((),())):=h1;exact .inr ⟨by simp only[f104,h1,Option.bind_some],h2⟩
abbrev vK(ps:List aT):Prop:=∀p,p∈ps->p.aW.length<=2097151/\∀n,n∈p.bh->n.aW.length<=2097151
def jx(ps:List aT)(n:bG):Bool:=match ps.find? (fun q=>q.name==n.name) with
 |some q=>uC n q.aW
 |none=>false
def kh(ps:List aT)(n:bG):Bool:=ps.any fun q=>ml n q.name q.aW
theorem aeM(a)(hb:ic a.1.1)(hv:vK a.1.1):f135 a=some ((a.1.1.all (fun p=>p.bh.all (jx a.1.1)),()),()):=by
 obtain⟨⟨ps,u⟩,b9⟩:=a;have hl:ps.length<=2097152:=hb.1;have inner:∀(i:Nat) (p:aT),ps[i]? =some p->Gl ((ps,((i:Int),((0:Int),()))),())=some (bif p.bh.all (jx ps) then .inr ((ps,((i:Int),())),()) else .inl ((false,()),())):=by
  intro i p hp;have vk:=List.mem_of_getElem? hp;have Es:p.bh.length<=2097152:=(hb.2 p vk).2.2.1.1;have:=gS Ah p.bh (fun k=>((ps,((i:Int),((k:Int),()))),())) (fun _ n=>jx ps n) (.inl ((false,()),())) (.inr ((ps,((i:Int),())),())) (fun k n hn=>?_) ?_
  ·have:=this;rw[hZ] at this;exact this
  ·have hk:=dj hn;have hw:am k:=by unfold am;omega
   have jm:=List.mem_of_getElem? hn;have h8:=agH ((ps,(n.name,())),()) hl;simp only[Ah,cc,hp,Option.bind_some,cn hk,cond_true,hn];rcases h8 with⟨j,q,h1,h2,h3⟩|⟨h1,h2⟩
   ·have h2:ps[j]? =some q:=h2;have h3:ps.find? (fun p=>p.name==n.name)=some q:=h3
    have al:=hv q (List.mem_of_getElem? h2);have hf:=agJ (((n.name,(n.kind,(n.aW,()))),(n.name,(q.aW,()))),()) ((hv p vk).2 n jm) al.1 rfl;have hj:decide ((j:Int)<0)=false:=by simp only[decide_eq_false_iff_not];omega
    simp only[h1,Option.bind_some,zx,hj,cond_false,cc,h2,hf,jx,h3,b6 hw];cases uC n q.aW<;>rfl
   ·have h2:ps.find? (fun p=>p.name==n.name)=none:=h2
    have hj:decide ((-1:Int)<0)=true:=rfl;simp only[h1,Option.bind_some,zx,hj,cond_true,jx,h2,cond_false]
  ·simp only[Ah,cc,hp,Option.bind_some,dr,cond_false]
 have key:I5 ((ps,((0:Int),())),())=some (bif allI (fun _ p=>p.bh.all (jx ps)) 0 ps then .inr ((),()) else .inl ((false,()),())):=by
  refine gS B1 ps (fun i=>((ps,((i:Int),())),())) _ _ _ (fun i x hx=>?_) ?_
  ·have hi:=dj hx;have hw:am i:=by unfold am;omega
   simp only[B1,cn hi,cond_true,inner i x hx,Option.bind_some];cases x.bh.all (jx ps)
   ·rfl
   ·simp only[cond_true,b6 hw]
  ·simp only[B1,dr,cond_false]
 rw[hZ] at key;simp only[f135,key,Option.bind_some];cases List.all ps (fun p=>p.bh.all (jx ps))<;>rfl
theorem abR(a)(hb:ic a.1.1)(hv:vK a.1.1):f144 a=some ((a.1.1.all (fun p=>p.bh.all (kh a.1.1)),()),()):=by
 obtain⟨⟨ps,u⟩,b9⟩:=a;have hl:ps.length<=2097152:=hb.1;have hcon:∀n:bG,cN n.name.length->n.aW.length<=2097151->CQ ((ps,(((n.name,(n.kind,(n.aW,()))),()),())),())=some ((kh ps n,()),()):=by
  intro n hn1 atD;have key:∀(r:List aT) (k:Nat),ps.drop k=r->k<=ps.length->∃z:Int,(to ((ps,(((n.name,(n.kind,(n.aW,()))),()),((ps.length:Int),((k:Int),())))),())).bind (fun amL=>(match amL with
    |.inl amK=>some ((amK.1.1,()),())
    |.inr axb=>some ((((-1):Int),()),()):Option JK.J))=some ((z,()),())/\decide (z>=0)=r.any (fun q=>ml n q.name q.aW):=by
   intro r;induction r with
   |nil=>
    intro k hr hk;have:=drop_nil hr;have d1:decide ((k:Int)<(ps.length:Int))=false:=by simp only[decide_eq_false_iff_not];omega
    have:to ((ps,(((n.name,(n.kind,(n.aW,()))),()),((ps.length:Int),((k:Int),())))),())=some (.inr ((),())):=by
     refine cx ?_
     simp only[Ac,d1,cond_false]
    exact⟨-1,by rw[this];rfl,rfl⟩
   |cons q r ih=>
    intro k hr hk;obtain⟨c1,c2,c3⟩:=drop_cons hr;have hw:am k:=by unfold am;omega
    have al:=hv q (List.mem_of_getElem? c1);have hf:=adF (((n.name,(n.kind,(n.aW,()))),(q.name,(q.aW,()))),()) hn1 atD al.1;have step:Ac ((ps,(((n.name,(n.kind,(n.aW,()))),()),((ps.length:Int),((k:Int),())))),())=some (bif ml n q.name q.aW then .inr (.inl (((k:Int),()),())) else .inl ((ps,(((n.name,(n.kind,(n.aW,()))),()),((ps.length:Int),(((k+1:Nat):Int),())))),())):=by
     simp only[Ac,cn c3,cond_true,cc,c1,Option.bind_some,J_,hf,b6 hw];cases ml n q.name q.aW<;>rfl
    rw[List.any_cons];cases _h:ml n q.name q.aW with
    |true=>
     rw[_h,cond_true] at step;exact⟨k,by rw[show to _=_ from cx step];rfl,by simp⟩
    |false=>
     rw[_h,cond_false] at step;obtain⟨z,h1,h2⟩:=ih (k+1) c2 c3;exact⟨z,by rw[show to _=_ from dL step];exact h1,by rw[h2];rfl⟩
  obtain⟨z,h1,h2⟩:=key ps 0 rfl (Nat.zero_le _);have h3:CP ((ps,(((n.name,(n.kind,(n.aW,()))),()),())),())=some ((z,()),()):=by
   simp only[CP];exact h1
  simp only[CQ,h3,Option.bind_some,h2,kh]
 have inner:∀(i:Nat) (p:aT),ps[i]? =some p->Gk ((ps,(ps,((ps.length:Int),((i:Int),(p.bh,((p.bh.length:Int),((0:Int),()))))))),())=some (bif p.bh.all (kh ps) then .inr ((ps,(ps,((ps.length:Int),((i:Int),())))),()) else .inl ((false,()),())):=by
  intro i p hp;have vk:=List.mem_of_getElem? hp;have Es:p.bh.length<=2097152:=(hb.2 p vk).2.2.1.1;have:=gS Af p.bh (fun k=>((ps,(ps,((ps.length:Int),((i:Int),(p.bh,((p.bh.length:Int),((k:Int),()))))))),())) (fun _ n=>kh ps n) (.inl ((false,()),())) (.inr ((ps,(ps,((ps.length:Int),((i:Int),())))),())) (fun k n hn=>?_) ?_
  ·have:=this;rw[hZ] at this;exact this
  ·have hk:=dj hn;have hw:am k:=by unfold am;omega
   have jm:=List.mem_of_getElem? hn;have hc:=hcon n ((hb.2 p vk).2.2.1.2 n jm).1 ((hv p vk).2 n jm);simp only[Af,cn hk,cond_true,cc,hn,Option.bind_some,hc,b6 hw];cases kh ps n<;>rfl
  ·simp only[Af,dr,cond_false]
 have key:I3 ((ps,(ps,((ps.length:Int),((0:Int),())))),())=some (bif allI (fun _ p=>p.bh.all (kh ps)) 0 ps then .inr ((),()) else .inl ((false,()),())):=by
  refine gS BZ ps (fun i=>((ps,(ps,((ps.length:Int),((i:Int),())))),())) _ _ _ (fun i x hx=>?_) ?_
  ·have hi:=dj hx;have hw:am i:=by unfold am;omega
   simp only[BZ,cn hi,cond_true,cc,hx,inner i x hx,Option.bind_some];cases x.bh.all (kh ps)
   ·rfl
   ·simp only[cond_true,b6 hw]
  ·simp only[BZ,dr,cond_false]
 rw[hZ] at key;simp only[f144,key,Option.bind_some];cases List.all ps (fun p=>p.bh.all (kh ps))<;>rfl
theorem agA:∀ps:List aT,(∀i y,ps[i+1]? =some y->pb ps i y=true)->ps.Pairwise fun p q=>Op.bytesLess p.name q.name=true:=by
 intro ps;induction ps with
 |nil=>intro _;exact List.Pairwise.nil
 |cons x r ih=>
  intro h;have hr:=ih (fun i y hy=>by
   have:=h (i+1) y (by simpa using hy)
   unfold pb at this ⊢;simpa using this)
  refine List.pairwise_cons.2 ⟨fun y hy=>?_,hr⟩
  cases r with
  |nil=>cases hy
  |cons z r=>
   have hz:Op.bytesLess x.name z.name=true:=by
    have:=h 0 z rfl;unfold pb at this;simpa using this
   rcases List.mem_cons.1 hy with rfl|hy
   ·exact hz
   ·exact wD _ _ _ hz ((List.pairwise_cons.1 hr).1 y hy)
theorem akq{ps:List aT}(h:ms ps=true):ps.Pairwise fun p q=>Op.bytesLess p.name q.name=true:=by
 refine agA ps (fun i y hy=>?_)
 have:=AU ps.tail 0 h i y (by rw[List.getElem?_tail];exact hy)
 rwa[Nat.zero_add] at this
theorem ac3:∀(ps:List aT) (n:bG),(∀p,p∈ps->ev p.aW=true)->dB n=true->ps.Pairwise (fun p q=>Op.bytesLess p.name q.name=true)->kh ps n=jx ps n:=by
 intro ps n;induction ps with
 |nil=>intro _ _ _;rfl
 |cons q r ih=>
  intro hv hn hp;have pD:=List.pairwise_cons.1 hp;have ih:=ih (fun p h=>hv p (List.mem_cons_of_mem _ h)) hn pD.2
  unfold kh jx at ih ⊢;rw[List.any_cons,List.find?_cons];cases al:(q.name==n.name) with
  |true=>
   have hno:r.any (fun q=>ml n q.name q.aW)=false:=by
    rw[List.any_eq_false];intro p atv;have h1:=pD.1 p atv;rw[eq_of_beq al] at h1;have:(p.name==n.name)=false:=by
     cases h:(p.name==n.name) with
     |false=>rfl
     |true=>rw[eq_of_beq h,CX] at h1;cases h1
    unfold ml;rw[this];simp
   rw[hno];unfold ml;rw[hv q List.mem_cons_self,hn,al];simp
  |false=>
   have:ml n q.name q.aW=false:=by unfold ml;rw[al];simp
   rw[this,Bool.false_or];exact ih
def kH(ps:List aT):Bool:=ps.all cT&&ms ps&&decide (ps.length<=5)&&ps.all (fun p=>p.bh.all (jx ps))&&(h5 [] ps).isSome
def Dl(ps:List aT):Int:=bif ps.all cT&&ms ps then(bif decide (ps.length<=5) then(bif ps.all (fun p=>p.bh.all (jx ps)) then(bif(h5 [] ps).isSome then 0 else 5) else 4) else 6) else 1
theorem acV(ps:List aT):kH ps=(Dl ps==0):=by
 unfold kH Dl;cases ps.all cT<;>cases ms ps<;>cases decide (ps.length<=5)<;>cases ps.all (fun p=>p.bh.all (jx ps))<;>cases (h5 [] ps).isSome<;>rfl
theorem aeH{aB:Type}(ok:Nat->aB->Bool):∀(xs:List aB) (j:Nat),allI ok (j+1) xs=allI (fun i=>ok (i+1)) j xs:=by
 intro xs;induction xs with
 |nil=>intro j;rfl
 |cons x r ih=>intro j;simp only[allI,ih]
def D'(ps:List aT)(i:Nat)(x:aT):Bool:=cT x&&(i==0||pb ps (i-1) x)
theorem ajR(ps:List aT):allI (D' ps) 0 ps=(ps.all cT&&ms ps):=by
 unfold D';rw[HQ,hZ];congr 1
 unfold ms;cases ps with
 |nil=>rfl
 |cons x r=>
  simp only[allI,beq_self_eq_true,Bool.true_or,Bool.true_and,List.tail_cons];rw[aeH];refine PH r 0 (fun i y _ _=>?_)
  have:(i+1==0)=false:=rfl;rw[this,Bool.false_or,Nat.add_sub_cancel]
theorem Q1(a)(hb:ic a.1.1.1)(hv:vK a.1.1.1):f46 a=some ((kH a.1.1.1,()),()):=by
 obtain⟨⟨⟨ps,u⟩,b9⟩,po⟩:=a;have hl:ps.length<=2097152:=hb.1;have key:JS ((ps,((0:Int),())),())=some (bif allI (D' ps) 0 ps then .inr ((ps,()),()) else .inl (((1:Int),()),())):=by
  refine gS CH ps (fun i=>((ps,((i:Int),())),())) _ _ _ (fun i x hx=>?_) ?_
  ·have hi:=dj hx;have hw:am i:=by unfold am;omega
   have MP:=hb.2 x (List.mem_of_getElem? hx);simp only[CH,cn hi,cond_true,I',cc,hx,Option.bind_some];rw[GH _ MP];simp only[Option.bind_some,D',Ln];cases cT x with
   |false=>rfl
   |true=>
    simp only[Bool.not_true,cond_false,Bool.true_and,pb];cases i with
    |zero=>simp only[beq_self_eq_true,Bool.not_true,cond_false,Option.bind_some,Bool.true_or,cond_true,b6 hw]
    |succ i=>
     have h0:(i+1==0)=false:=rfl;have k3:i<ps.length:=by omega
     obtain⟨q,al⟩:∃q,ps[i]? =some q:=⟨ps[i],List.getElem?_eq_getElem k3⟩;simp only[h0,Bool.not_false,cond_true,zK (i:=i) (by unfold am;omega),cc,al,hx,Option.bind_some,Bool.false_or,Nat.add_sub_cancel]
     cases Op.bytesLess q.name x.name with
     |false=>rfl
     |true=>simp only[Bool.not_true,cond_false,cond_true,b6 hw]
  ·simp only[CH,dr,cond_false]
 rw[ajR] at key;have br:decide ((ps.length:Int)>5)=!decide (ps.length<=5):=by by_cases h:ps.length<=5<;>simp only[h,decide_true,decide_false,Bool.not_true,Bool.not_false,decide_eq_true_eq,decide_eq_false_iff_not]<;>omega
 simp only[f46,f85,key,Option.bind_some,kH];cases dJ:(ps.all cT&&ms ps) with
 |false=>rfl
 |true=>
  have hk:ps.all cT=true:=by simp only[Bool.and_eq_true] at dJ;exact dJ.1
  obtain⟨out,ao⟩:=agG ((ps,()),()) hb hk;have hn:=aeM ((ps,()),()) hb hv;simp only[cond_true,Option.bind_some,ao,br,Bool.true_and];cases decide (ps.length<=5) with
  |false=>rfl
  |true=>
   simp only[Bool.not_true,cond_false,hn,Option.bind_some,Bool.true_and];cases ps.all (fun p=>p.bh.all (jx ps))<;>cases (h5 [] ps).isSome<;>rfl
theorem adv(a)(hb:ic a.1.1)(hv:vK a.1.1):f88 a=some ((Dl a.1.1,()),()):=by
 obtain⟨⟨ps,u⟩,b9⟩:=a;have hl:ps.length<=2097152:=hb.1;have e1:=aeZ ((ps,((),())),()) hb;have e2:=abt ((ps,()),()) hl;have bp:=abR ((ps,()),()) hb hv;have br:decide ((ps.length:Int)>5)=!decide (ps.length<=5):=by by_cases h:ps.length<=5<;>simp only[h,decide_true,decide_false,Bool.not_true,Bool.not_false,decide_eq_true_eq,decide_eq_false_iff_not]<;>omega
 have c0:ud (((ps,()),()),())=some (((bif ps.all cT&&ms ps then(0:Int) else 1),()),()):=by
  simp only[ud,Gw,e1,Bool.not_not,Option.bind_some];cases ps.all cT with
  |false=>rfl
  |true=>simp only[cond_true,e2,Option.bind_some,Bool.true_and];cases ms ps<;>rfl
 have c1:uc (((ps,()),()),())=some (((bif decide (ps.length<=5) then(0:Int) else 6),()),()):=by
  simp only[uc,br];cases decide (ps.length<=5)<;>rfl
 have c2:ub (((ps,()),()),())=some (((bif ps.all (fun p=>p.bh.all (kh ps)) then(0:Int) else 4),()),()):=by
  simp only[ub,bp,Option.bind_some];cases ps.all (fun p=>p.bh.all (kh ps))<;>rfl
 have c3:ps.all cT=true->ua (((ps,()),()),())=some (((bif(h5 [] ps).isSome then(0:Int) else 5),()),()):=by
  intro hk;obtain⟨out,ao⟩:=acF ((ps,()),()) hb hk;simp only[ua,ao,Option.bind_some];cases (h5 [] ps).isSome<;>rfl
 have z:∀n:Int,((n:Int) !=0)=!(n==0):=fun n=>rfl
 simp only[f88,Kq,rS,c0,c1,c2,rU,Option.bind_some,Dl];cases dJ:(ps.all cT&&ms ps) with
 |false=>rfl
 |true=>
  simp only[Bool.and_eq_true] at dJ;have alJ:ps.all (fun p=>p.bh.all (kh ps))=ps.all (fun p=>p.bh.all (jx ps)):=by
   rw[Bool.eq_iff_iff];simp only[List.all_eq_true];have hvs:∀p,p∈ps->ev p.aW=true:=fun p hp=>by
    have:=List.all_eq_true.1 dJ.1 p hp;unfold cT at this;simp only[Bool.and_eq_true] at this;exact this.1.1.2
   have hns:∀p,p∈ps->∀n,n∈p.bh->kh ps n=jx ps n:=fun p hp n hn=>by
    have:=List.all_eq_true.1 dJ.1 p hp;unfold cT rE at this;simp only[Bool.and_eq_true] at this;exact ac3 ps n hvs (List.all_eq_true.1 this.1.2.1.1 n hn) (akq dJ.2)
   constructor
   ·intro h p hp n hn;rw[<-hns p hp n hn];exact h p hp n hn
   ·intro h p hp n hn;rw[hns p hp n hn];exact h p hp n hn
  rw[alJ,c3 dJ.1];cases decide (ps.length<=5)<;>cases ps.all (fun p=>p.bh.all (jx ps))<;>cases (h5 [] ps).isSome<;>rfl
theorem PK(a)(hb:ic a.1.1.1)(hv:vK a.1.1.1):f48 a=some ((kH a.1.1.1,()),()):=by
 obtain⟨⟨⟨ps,u⟩,b9⟩,po⟩:=a;have e:=adv ((ps,()),()) hb hv;simp only[f48,e,Option.bind_some,acV]
abbrev i113:Shape:=⟨[dw 0 [ax,bz,ax],ad 1],[],20⟩
abbrev W9:Shape:=⟨[ad 4],[],20⟩
noncomputable def f113(a:i113.J):Option W9.J:=
 bif(decide ((IntKind.i64.wrap (a.1.2.1-(a.1.1.1.length:Int)))<(0:Int))) then
 some ((((-1):Int),()),())
else
 bif(decide ((IntKind.i64.wrap ((IntKind.i64.wrap (a.1.2.1-(a.1.1.1.length:Int)))-(a.1.1.2.2.1.length:Int)))<(0:Int))) then
 some ((((-1):Int),()),())
else
 some (((IntKind.i64.wrap ((IntKind.i64.wrap (a.1.2.1-(a.1.1.1.length:Int)))-(a.1.1.2.2.1.length:Int))),()),())
noncomputable def YR:aK:=a6 ak Tryz.f113 i113 W9 [] f113
theorem aot:aL Z 113 YR:=ba g0 Tryz.func113 (by kernel_rfl) aj (fun y=>by kernel_rfl) fun a=>by kernel_rfl
noncomputable abbrev avj:bl:=[(113,YR)]
theorem aag:bc Z (bi ak avj):=bj ⟨aot,⟨⟩⟩
abbrev AZ:Shape:=⟨[aM 0 .need,ad 1,ad 5],[],27⟩
abbrev HY:List aR:=[(.ret,⟨[ad 4],[],27⟩),(.exit 0,⟨[ad 1],[],27⟩)]
noncomputable def aj8(y:AZ.J):bR AZ HY:=
 bif(decide (y.1.2.2.1<(y.1.1.length:Int))) then
(aQ y.1.1 y.1.2.2.1).bind fun a=>
(f113 (((a.name,a.kind,a.aW,()),y.1.2.1,()),())).bind fun b=>
 bif(decide (b.1.1<(0:Int))) then
 some (.inr (.inl ((((-1):Int),()),())))
else
 some (.inl ((y.1.1,b.1.1,(IntKind.i64.wrap (y.1.2.2.1+(1:Int))),()),()))
else
 some (.inr (.inr ((y.1.2.1,()),())))
noncomputable def SP:AZ.J->Option (aF HY):=bu aj8
theorem aiZ:aX Z (ap (codeOf Tryz.f69) 1 122) (bb AZ HY SP):=bW aag (by kernel_rfl) aj fun y=>by kernel_rfl
abbrev i69:Shape:=⟨[aM 0 .need,ad 1],[],27⟩
abbrev ZF:Shape:=⟨[ad 4],[],27⟩
noncomputable def f69(a:i69.J):Option ZF.J:=
 bif(decide ((IntKind.i64.wrap (a.1.2.1-(a.1.1.length:Int)))<(0:Int))) then
 some ((((-1):Int),()),())
else
(SP ((a.1.1,(IntKind.i64.wrap (a.1.2.1-(a.1.1.length:Int))),(0:Int),()),())).bind fun b=>
(match b with
|.inl c=>
 some ((c.1.1,()),())
|.inr d=>
 some ((d.1.1,()),()))
noncomputable def _R:aK:=a6 ak Tryz.f69 i69 ZF [] f69
theorem ar5:aL Z 69 _R:=ba aag Tryz.func69 (by kernel_rfl) (bd aiZ aj) (fun y=>by kernel_rfl) fun a=>by kernel_rfl
abbrev i114:Shape:=⟨[dw 0 [ax,bz,bz,ax],ad 1],[],20⟩
abbrev W8:Shape:=⟨[ad 4],[],20⟩
noncomputable def f114(a:i114.J):Option W8.J:=
 bif(decide ((IntKind.i64.wrap (a.1.2.1-(a.1.1.1.length:Int)))<(0:Int))) then
 some ((((-1):Int),()),())
else
 bif(decide ((IntKind.i64.wrap ((IntKind.i64.wrap (a.1.2.1-(a.1.1.1.length:Int)))-(a.1.1.2.2.2.1.length:Int)))<(0:Int))) then
 some ((((-1):Int),()),())
else
 some (((IntKind.i64.wrap ((IntKind.i64.wrap (a.1.2.1-(a.1.1.1.length:Int)))-(a.1.1.2.2.2.1.length:Int))),()),())
noncomputable def YQ:aK:=a6 ak Tryz.f114 i114 W8 [] f114
theorem aos:aL Z 114 YQ:=ba g0 Tryz.func114 (by kernel_rfl) aj (fun y=>by kernel_rfl) fun a=>by kernel_rfl
noncomputable abbrev avi:bl:=[(114,YQ)]
theorem aaf:bc Z (bi ak avi):=bj ⟨aos,⟨⟩⟩
abbrev AY:Shape:=⟨[aM 0 .entry,ad 1,ad 5],[],27⟩
abbrev HX:List aR:=[(.ret,⟨[ad 4],[],27⟩),(.exit 0,⟨[ad 1],[],27⟩)]
noncomputable def aj7(y:AY.J):bR AY HX:=
 bif(decide (y.1.2.2.1<(y.1.1.length:Int))) then
(aQ y.1.1 y.1.2.2.1).bind fun a=>
(f114 (((a.path,a.kind,a.mode,a.text,()),y.1.2.1,()),())).bind fun b=>
 bif(decide (b.1.1<(0:Int))) then
 some (.inr (.inl ((((-1):Int),()),())))
else
 some (.inl ((y.1.1,b.1.1,(IntKind.i64.wrap (y.1.2.2.1+(1:Int))),()),()))
else
 some (.inr (.inr ((y.1.2.1,()),())))
noncomputable def SO:AY.J->Option (aF HX):=bu aj7
theorem aiY:aX Z (ap (codeOf Tryz.f70) 1 122) (bb AY HX SO):=bW aaf (by kernel_rfl) aj fun y=>by kernel_rfl
abbrev i70:Shape:=⟨[aM 0 .entry,ad 1],[],27⟩
abbrev ZE:Shape:=⟨[ad 4],[],27⟩
noncomputable def f70(a:i70.J):Option ZE.J:=
 bif(decide ((IntKind.i64.wrap (a.1.2.1-(a.1.1.length:Int)))<(0:Int))) then
 some ((((-1):Int),()),())
else
(SO ((a.1.1,(IntKind.i64.wrap (a.1.2.1-(a.1.1.length:Int))),(0:Int),()),())).bind fun b=>
(match b with
|.inl c=>
 some ((c.1.1,()),())
|.inr d=>
 some ((d.1.1,()),()))
noncomputable def _Q:aK:=a6 ak Tryz.f70 i70 ZE [] f70
theorem z70:aL Z 70 _Q:=ba aaf Tryz.func70 (by kernel_rfl) (bd aiY aj) (fun y=>by kernel_rfl) fun a=>by kernel_rfl
noncomputable abbrev avs:bl:=[(69,_R),(70,_Q)]
theorem avH:bc Z (bi ak avs):=bj ⟨ar5,z70,⟨⟩⟩
abbrev i32:Shape:=⟨[dw 0 [ax,ax,dA .need,dA .entry],ad 1],[],32⟩
abbrev ZO:Shape:=⟨[ad 4],[],32⟩
noncomputable def f32(a:i32.J):Option ZO.J:=
 bif(decide ((IntKind.i64.wrap (a.1.2.1-(a.1.1.1.length:Int)))<(0:Int))) then
 some ((((-1):Int),()),())
else
 bif(decide ((IntKind.i64.wrap ((IntKind.i64.wrap (a.1.2.1-(a.1.1.1.length:Int)))-(a.1.1.2.1.length:Int)))<(0:Int))) then
 some ((((-1):Int),()),())
else
(f69 ((a.1.1.2.2.1,(IntKind.i64.wrap ((IntKind.i64.wrap (a.1.2.1-(a.1.1.1.length:Int)))-(a.1.1.2.1.length:Int))),()),())).bind fun b=>
 bif(decide (b.1.1<(0:Int))) then
 some ((((-1):Int),()),())
else
(f70 ((a.1.1.2.2.2.1,b.1.1,()),())).bind fun c=>
 bif(decide (c.1.1<(0:Int))) then
 some ((((-1):Int),()),())
else
 some ((c.1.1,()),())
noncomputable def _1:aK:=a6 ak Tryz.f32 i32 ZO [] f32
theorem asb:aL Z 32 _1:=ba avH Tryz.func32 (by kernel_rfl) aj (fun y=>by kernel_rfl) fun a=>by kernel_rfl
noncomputable abbrev avv:bl:=[(32,_1)]
theorem aal:bc Z (bi ak avv):=bj ⟨asb,⟨⟩⟩
abbrev Ba:Shape:=⟨[aM 0 .pack,ad 1,ad 5],[],27⟩
abbrev H_:List aR:=[(.ret,⟨[ad 4],[],27⟩),(.exit 0,⟨[ad 1],[],27⟩)]
noncomputable def aka(y:Ba.J):bR Ba H_:=
 bif(decide (y.1.2.2.1<(y.1.1.length:Int))) then
(aQ y.1.1 y.1.2.2.1).bind fun a=>
(f32 (((a.name,a.aW,a.bh,a.bK,()),y.1.2.1,()),())).bind fun b=>
 bif(decide (b.1.1<(0:Int))) then
 some (.inr (.inl ((((-1):Int),()),())))
else
 some (.inl ((y.1.1,b.1.1,(IntKind.i64.wrap (y.1.2.2.1+(1:Int))),()),()))
else
 some (.inr (.inr ((y.1.2.1,()),())))
noncomputable def SS:Ba.J->Option (aF H_):=bu aka
theorem aje:aX Z (ap (codeOf Tryz.f20) 1 122) (bb Ba H_ SS):=bW aal (by kernel_rfl) aj fun y=>by kernel_rfl
abbrev i20:Shape:=⟨[aM 0 .pack,ad 1],[],27⟩
abbrev ZR:Shape:=⟨[ad 4],[],27⟩
noncomputable def f20(a:i20.J):Option ZR.J:=
 bif(decide ((IntKind.i64.wrap (a.1.2.1-(a.1.1.length:Int)))<(0:Int))) then
 some ((((-1):Int),()),())
else
(SS ((a.1.1,(IntKind.i64.wrap (a.1.2.1-(a.1.1.length:Int))),(0:Int),()),())).bind fun b=>
(match b with
|.inl c=>
 some ((c.1.1,()),())
|.inr d=>
 some ((d.1.1,()),()))
noncomputable def _4:aK:=a6 ak Tryz.f20 i20 ZR [] f20
theorem z20:aL Z 20 _4:=ba aal Tryz.func20 (by kernel_rfl) (bd aje aj) (fun y=>by kernel_rfl) fun a=>by kernel_rfl
noncomputable abbrev avz:bl:=[(20,_4)]
theorem aao:bc Z (bi ak avz):=bj ⟨z20,⟨⟩⟩
abbrev i11:Shape:=⟨[dw 0 [dA .pack],ad 1],[],12⟩
abbrev Ea:Shape:=⟨[ad 4],[],12⟩
noncomputable def f11(a:i11.J):Option Ea.J:=
(f20 ((a.1.1.1,a.1.2.1,()),())).bind fun b=>
 bif(decide (b.1.1<(0:Int))) then
 some ((((-1):Int),()),())
else
 some ((b.1.1,()),())
noncomputable def Nb:aK:=a6 ak Tryz.f11 i11 Ea [] f11
abbrev i116:Shape:=⟨[dw 0 [ax,bz,ax]],[],14⟩
abbrev W7:Shape:=⟨[a8 2 2 0],[a7 2 [ax,bz,ax]],14⟩
noncomputable def f116(a:i116.J):Option W7.J:=
 some (((),()),(a.1.1.1,a.1.1.2.1,a.1.1.2.2.1,()),())
noncomputable def ap6:aK:=a6 ak Tryz.f116 i116 W7 [] f116
theorem z116:aL Z 116 ap6:=ba g0 Tryz.func116 (by kernel_rfl) aj (fun y=>by kernel_rfl) fun a=>by kernel_rfl
abbrev i117:Shape:=⟨[dw 0 [ax,bz,bz,ax]],[],17⟩
abbrev W6:Shape:=⟨[a8 2 2 0],[a7 2 [ax,bz,bz,ax]],17⟩
noncomputable def f117(a:i117.J):Option W6.J:=
 some (((),()),(a.1.1.1,a.1.1.2.1,a.1.1.2.2.1,a.1.1.2.2.2.1,()),())
noncomputable def ap5:aK:=a6 ak Tryz.f117 i117 W6 [] f117
theorem z117:aL Z 117 ap5:=ba g0 Tryz.func117 (by kernel_rfl) aj (fun y=>by kernel_rfl) fun a=>by kernel_rfl
abbrev i125:Shape:=⟨[dw 0 [ax,bz,ax],dw 1 [ax,bz,ax]],[],20⟩
abbrev W0:Shape:=⟨[aC 4],[],20⟩
noncomputable def f125(a:i125.J):Option W0.J:=
 bif(!(a.1.1.1==a.1.2.1.1)) then
 some ((false,()),())
else
 bif(a.1.1.2.1 !=a.1.2.1.2.1) then
 some ((false,()),())
else
 bif(!(a.1.1.2.2.1==a.1.2.1.2.2.1)) then
 some ((false,()),())
else
 some ((true,()),())
noncomputable def YO:aK:=a6 ak Tryz.f125 i125 W0 [] f125
theorem aoq:aL Z 125 YO:=ba g0 Tryz.func125 (by kernel_rfl) aj (fun y=>by kernel_rfl) fun a=>by kernel_rfl
abbrev JF:Shape:=⟨[aM 0 .need,a' 3 3000192,ad 4],[bg 3000192 .need 3 0],23⟩
abbrev Tq:List aR:=[(.exit 0,⟨[a' 3 3000192],[bg 3000192 .need 3 0],23⟩)]
noncomputable def alL(y:JF.J):bR JF Tq:=
 bif(decide (y.1.2.2.1<(y.1.1.length:Int))) then
(aQ y.1.1 y.1.2.2.1).bind fun a=>
(f116 (((a.name,a.kind,a.aW,()),()),())).bind fun b=>
(aU y.2.1.length y.1.2.2.1).bind fun c=>
((y.2.1[c]?).bind fun q=>some (bG.mk b.2.1.1 b.2.1.2.1 b.2.1.2.2.1)).bind fun d=>
 some (.inl ((y.1.1,(),(IntKind.i64.wrap (y.1.2.2.1+(1:Int))),()),(y.2.1.set c d),()))
else
 some (.inr (((),()),y.2.1,()))
noncomputable def alA:JF.J->Option (aF Tq):=bu alL
abbrev i72:Shape:=⟨[aM 0 .need],[],23⟩
abbrev asU:Shape:=⟨[a' 2 3000128],[bg 3000128 .need 2 0],23⟩
noncomputable def f72(a:i72.J):Option asU.J:=
(j2 40 (a.1.1.length:Int) (a.1.1.length:Int) (bG.mk ([]:F) (0:Int) ([]:F))).bind fun b=>
(alA ((a.1.1,(),(0:Int),()),b,())).bind fun c=>
 some (((),()),c.2.1,())
abbrev JE:Shape:=⟨[aM 0 .entry,a' 3 3000192,ad 4],[bg 3000192 .entry 3 0],23⟩
abbrev Tp:List aR:=[(.exit 0,⟨[a' 3 3000192],[bg 3000192 .entry 3 0],23⟩)]
noncomputable def alK(y:JE.J):bR JE Tp:=
 bif(decide (y.1.2.2.1<(y.1.1.length:Int))) then
(aQ y.1.1 y.1.2.2.1).bind fun a=>
(f117 (((a.path,a.kind,a.mode,a.text,()),()),())).bind fun b=>
(aU y.2.1.length y.1.2.2.1).bind fun c=>
((y.2.1[c]?).bind fun q=>some (aG.mk b.2.1.1 b.2.1.2.1 b.2.1.2.2.1 b.2.1.2.2.2.1)).bind fun d=>
 some (.inl ((y.1.1,(),(IntKind.i64.wrap (y.1.2.2.1+(1:Int))),()),(y.2.1.set c d),()))
else
 some (.inr (((),()),y.2.1,()))
noncomputable def alz:JE.J->Option (aF Tp):=bu alK
abbrev i73:Shape:=⟨[aM 0 .entry],[],23⟩
abbrev asT:Shape:=⟨[a' 2 3000128],[bg 3000128 .entry 2 0],23⟩
noncomputable def f73(a:i73.J):Option asT.J:=
(j2 48 (a.1.1.length:Int) (a.1.1.length:Int) (aG.mk ([]:F) (0:Int) (0:Int) ([]:F))).bind fun b=>
(alz ((a.1.1,(),(0:Int),()),b,())).bind fun c=>
 some (((),()),c.2.1,())
abbrev i34:Shape:=⟨[dw 0 [ax,ax,dA .need,dA .entry]],[],19⟩
abbrev asV:Shape:=⟨[a8 2 2 0],[bI 5000130 .need 2 2,bI 5000131 .entry 2 3,a7 2 [ax,ax,.own 5000130,.own 5000131]],19⟩
noncomputable def f34(a:i34.J):Option asV.J:=
(f72 ((a.1.1.2.2.1,()),())).bind fun b=>
(f73 ((a.1.1.2.2.2.1,()),())).bind fun c=>
 some (((),()),b.2.1,c.2.1,(a.1.1.1,a.1.1.2.1,(),(),()),())
end Go.Proofs
