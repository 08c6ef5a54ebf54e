/- FnDiskOver: the last complete root is recovered. (part 4 of 7: JkKTy, JkKSp, JkKOp, JkKBc, JkKEn, JkKF115, JkKF74, JkKF75, JkKF87, JkKF99, JkKPuA, JkKF73, JkKPuB, JkKFH271, JkKF244, JkKF209, JkKF212, JkKIt, JkKF151, JkKF100, JkKF102, JkKF140, JkKF88, JkKF192, JkK) Conditions: none beyond the statement. -/
import Derived.Test.YthhecoidfjkmeaaGreatDoorZFnDiskOver2
import Derived.Tactics
import Derived.Deep.RegionLaw
import Derived.Shelf.Abstract
import Derived.Test.YthhecoidfjkmeaaGreatDoorProg
import Derived.KernelRfl
import Derived.Lib.Builder
import Derived.Lib.UnsafeStr
import Derived.WalkKit
import Derived.Shelf.RegionOpenPlain
set_option linter.unusedSimpArgs false
set_option maxRecDepth 100000
set_option linter.unusedVariables false
namespace Go.Proofs
open Go.Jk
noncomputable abbrev O:Program:=Tryz.prog
noncomputable def axw:List (Nat×cu):=[
(2,.int .i64),
(3,.int .i64),
(4,.bool),
(5,.int .u8),
(6,.int .u8),
(7,.struct [(0,1),(1,1),(2,1),(3,1)] 4 [.d (.int .i64 0),.d (.int .i64 0),.d (.bool false),.d (.int .u8 0)] false),
(8,.struct [(0,1),(1,1),(2,1),(3,1)] 4 [.d (.int .i64 0),.d (.int .i64 0),.d (.bool false),.d (.int .u8 0)] false),
(9,.str),
(10,.str),
(11,.str),
(12,.int .u64),
(13,.struct [(0,1),(1,1)] 2 [.d (.str []),.d (.int .u64 0)] false),
(14,.struct [(0,1),(1,1)] 2 [.d (.str []),.d (.int .u64 0)] false),
(15,.ptr),
(16,.ptr),
(17,.ptr),
(18,.struct [(0,1)] 1 [.dd (.pointer none)] false),
(19,.struct [(0,1)] 1 [.dd (.pointer none)] false),
(20,.iface),
(21,.int .i32),
(22,.struct [(0,1),(1,1)] 2 [.d (.str []),.d (.str [])] false),
(23,.struct [(0,1),(1,1)] 2 [.d (.str []),.d (.str [])] false),
(26,.struct [(0,1),(1,1)] 2 [.d (.str []),.d (.str [])] false),
(29,.slice 115 .pack 80),
(30,.struct [(0,1)] 1 [.nil .pack] false),
(31,.struct [(0,1)] 1 [.nil .pack] false),
(34,.slice 66 .pack 80),
(35,.struct [(0,1)] 1 [.nil .pack] false),
(36,.struct [(0,1)] 1 [.nil .pack] false),
(41,.slice 120 .file 32),
(42,.struct [(0,1),(1,1),(2,2)] 4 [.nil .file,.nil .pack,.d (.str []),.d (.str [])] false),
(43,.struct [(0,1),(1,1),(2,2)] 4 [.nil .file,.nil .pack,.d (.str []),.d (.str [])] false),
(46,.slice 124 .file 32),
(47,.struct [(0,1),(1,1),(2,2)] 4 [.nil .file,.nil .pack,.d (.str []),.d (.str [])] false),
(48,.struct [(0,1),(1,1),(2,2)] 4 [.nil .file,.nil .pack,.d (.str []),.d (.str [])] false),
(52,.slice 5 .u8 1),
(63,.slice 133 .need 40),
(64,.slice 178 .entry 48),
(65,.struct [(0,1),(1,1),(2,1),(3,1)] 4 [.d (.str []),.d (.str []),.nil .need,.nil .entry] false),
(66,.struct [(0,1),(1,1),(2,1),(3,1)] 4 [.d (.str []),.d (.str []),.nil .need,.nil .entry] false),
(84,.ptr),
(89,.ptr),
(90,.struct [(0,1),(1,1)] 2 [.dd (.pointer none),.nil .u8] false),
(91,.struct [(0,1),(1,1)] 2 [.dd (.pointer none),.nil .u8] false),
(92,.iface),
(93,.iface),
(103,.slice 9 .str 16),
(109,.slice 3 .i64 8),
(112,.slice 209 .need 40),
(113,.slice 211 .entry 48),
(114,.struct [(0,1),(1,1),(2,1),(3,1)] 4 [.d (.str []),.d (.str []),.nil .need,.nil .entry] false),
(115,.struct [(0,1),(1,1),(2,1),(3,1)] 4 [.d (.str []),.d (.str []),.nil .need,.nil .entry] false),
(119,.struct [(0,1),(1,1)] 2 [.d (.str []),.d (.str [])] false),
(120,.struct [(0,1),(1,1)] 2 [.d (.str []),.d (.str [])] true),
(124,.struct [(0,1),(1,1)] 2 [.d (.str []),.d (.str [])] true),
(132,.struct [(0,1),(1,1),(2,1)] 3 [.d (.str []),.d (.int .i64 0),.d (.str [])] false),
(133,.struct [(0,1),(1,1),(2,1)] 3 [.d (.str []),.d (.int .i64 0),.d (.str [])] true),
(140,.struct [(0,1),(1,1)] 2 [.nil .u8,.d (.int .i64 0)] false),
(141,.struct [(0,1),(1,1)] 2 [.nil .u8,.d (.int .i64 0)] false),
(144,.ptr),
(153,.int .u32),
(154,.arr 153 .u32 8),
(155,.int .u64),
(157,.slice 153 .u32 4),
(164,.func),
(177,.struct [(0,1),(1,1),(2,1),(3,1)] 4 [.d (.str []),.d (.int .i64 0),.d (.int .i64 0),.d (.str [])] false),
(178,.struct [(0,1),(1,1),(2,1),(3,1)] 4 [.d (.str []),.d (.int .i64 0),.d (.int .i64 0),.d (.str [])] true),
(183,.slice 3 .i64 8),
(202,.arr 153 .u32 64),
(203,.int .u64),
(209,.struct [(0,1),(1,1),(2,1)] 3 [.d (.str []),.d (.int .i64 0),.d (.str [])] true),
(211,.struct [(0,1),(1,1),(2,1),(3,1)] 4 [.d (.str []),.d (.int .i64 0),.d (.int .i64 0),.d (.str [])] true),
(251,.arr 4 .bool 256),
(252,.arr 4 .bool 256),
(264,.ptr),
(271,.struct [(0,1),(1,1)] 2 [.d (.int .u8 0),.d (.int .u8 0)] false),
(272,.struct [(0,1),(1,1)] 2 [.d (.int .u8 0),.d (.int .u8 0)] false),
(277,.struct [(0,1),(1,1),(2,1),(3,1)] 4 [.dd (.pointer none),.dd (.pointer none),.dd (.pointer none),.d (.str [])] false),
(278,.struct [(0,1),(1,1),(2,1),(3,1)] 4 [.dd (.pointer none),.dd (.pointer none),.dd (.pointer none),.d (.str [])] false),
(282,.int .u8),
(283,.int .u8),
(285,.int .i32),
(286,.int .i32),
(287,.struct [(0,1),(1,1),(2,1),(3,1),(4,1),(5,1),(6,1),(7,1),(8,1),(9,1),(10,1)] 11 [.d (.int .u64 0),.d (.int .u64 0),.d (.int .u32 0),.d (.int .u8 0),.d (.int .u8 0),.d (.int .u8 0),.d (.int .u8 0),.dd .nilFunc,.dd (.pointer none),.d (.int .i32 0),.d (.int .i32 0)] false),
(288,.struct [(0,1),(1,1),(2,1),(3,1),(4,1),(5,1),(6,1),(7,1),(8,1),(9,1),(10,1)] 11 [.d (.int .u64 0),.d (.int .u64 0),.d (.int .u32 0),.d (.int .u8 0),.d (.int .u8 0),.d (.int .u8 0),.d (.int .u8 0),.dd .nilFunc,.dd (.pointer none),.d (.int .i32 0),.d (.int .i32 0)] false)]
noncomputable def tt:TypeId->cu:=Dx axw
noncomputable def af:Env:=⟨tt,[(198,266)],[230],[59],[112],[65],[(0,⟨.u32,i'⟩)]⟩
abbrev bP(s:Shape)(t:List aR):=Option (Sum s.J (aG t))
theorem aq7(s p:ByteArray)(k:Int)(w:World):Calls O 232 #[.string s,.string p,.int .i64 k] w fun e w'=>
  e=.returned (.func (.func 266) #[] #[.pointer (some ⟨w.heap.size+1,0,none⟩),.pointer (some ⟨w.heap.size,0,none⟩),.pointer (some ⟨w.heap.size+2,0,none⟩)])/\
  w'=((w.alloc (.cells #[.string s] 9)).alloc (.cells #[.string p] 9)).alloc (.cells #[.int .i64 k] 3):=by
 go_enter Tryz.func232,Tryz.ntmps232
 go_wp2
 go_ret
 exact⟨rfl,rfl⟩
theorem aq8(s p:ByteArray)(w:World):Calls O 198 #[.string s,.string p] w fun e w'=>
  e=.returned (.func (.func 266) #[] #[.pointer (some ⟨w.heap.size+1,0,none⟩),.pointer (some ⟨w.heap.size,0,none⟩),.pointer (some ⟨w.heap.size+2,0,none⟩)])/\
  w'=((w.alloc (.cells #[.string s] 9)).alloc (.cells #[.string p] 9)).alloc (.cells #[.int .i64 0] 3):=by
 go_enter Tryz.func198,Tryz.ntmps198
 go_wp2_with (go_at_call 232;refine(aq7 _ _ _ _).mono ?_;rintro e w' ⟨rfl,rfl⟩)
 go_ret
 exact⟨rfl,rfl⟩
theorem atj:B0 O 198 266:=fun a b w=>.inl ⟨enters_of Tryz.func198 (by kernel_rfl) rfl _ _,(aq8 a b w).mono fun e w' h=>by obtain⟨rfl,rfl⟩:=h;exact⟨9,3,rfl,rfl⟩⟩
theorem axL(w:World):Calls O 59 #[.slice none 0 0] w fun e w'=>e=.returned (.pointer (some ⟨w.heap.size,0,none⟩))/\w'=w.alloc (.cells #[.slice none 0 0,.int .i64 0] 141):=by
 go_enter Tryz.func59,Tryz.ntmps59
 go_wp2
 go_ret
 exact⟨rfl,rfl⟩
theorem axK(w:World)(a:Addr)(n c:Nat)(h:n<=2000):Calls O 59 #[.slice (some a) n c] w fun e w'=>e=.returned (.pointer (some ⟨w.heap.size,0,none⟩))/\w'=w.alloc (.cells #[.slice (some a) n c,.int .i64 0] 141):=by
 have h1:¬((n:Int)>2000):=by omega
 go_enter Tryz.func59,Tryz.ntmps59
 go_wp2
 go_ret
 exact⟨rfl,rfl⟩
theorem axM(w:World)(a:Addr)(n c:Nat)(h:2000<n)(hc:n<=c):Calls O 59 #[.slice (some a) n c] w fun e w'=>e=.returned (.pointer (some ⟨w.heap.size,0,none⟩))/\w'=w.alloc (.cells #[.slice (some a) 2000 c,.int .i64 0] 141):=by
 have h1:((n:Int)>2000):=by omega
 go_enter Tryz.func59,Tryz.ntmps59
 go_wp2
 go_ret
 exact⟨rfl,rfl⟩
theorem atM:C3 O 59:=fun xs v w av hr=>.inl ⟨enters_of Tryz.func59 (by kernel_rfl) rfl _ _,by
 have fin:∀{v:Value} {u:Value},bT w av (.sl .u8 (xs.take 2000)) u->Calls O 59 #[v] w (fun e w'=>e=.returned (.pointer (some ⟨w.heap.size,0,none⟩))/\w'=w.alloc (.cells #[u,.int .i64 0] 141))->
   Calls O 59 #[v] w fun e w'=>match e,w' with
    |.returned v',w'=>∃u T,bT w av (.sl .u8 (xs.take 2000)) u/\v'=.pointer (some ⟨w.heap.size,0,none⟩)/\w'=w.alloc (.cells #[u,.int .i64 0] T)
    |_,_=>False:=fun hu hc=>hc.mono fun e w' h=>by obtain⟨rfl,rfl⟩:=h;exact⟨_,_,hu,rfl,rfl⟩
 cases hr with
 |nil=>exact fin (.nil .u8) (axL w)
 |sl t xs a cap cs n hn hcap hb hl hc hr=>
  by_cases h:2000<n
  ·refine fin (u:=.slice (some a) 2000 cap) ?_ (axM w a n cap h hcap);have hlen:(xs.take 2000).length=2000:=by simp only[List.length_take];omega
   have hf:flat .u8 (xs.take 2000)=(flat .u8 xs).take 2000:=by rw[nr];rfl
   refine .sl .u8 (xs.take 2000) a cap (cs.take 2000) 2000 hlen.symm (by omega) (fun hx=>hb (fun e=>hx (by rw[e];rfl))) (by rw[hf,List.length_take,List.length_take,hl]) (fun j u hu=>?_) (fun j h1 h2=>?_)
   ·rw[List.getElem?_take] at hu;split at hu
    ·exact hc j u hu
    ·cases hu
   ·have h1':j<(flat .u8 xs).length:=by rw[hf,List.length_take] at h1;omega
    have h2':j<cs.length:=by rw[List.length_take] at h2;omega
    have e1:(flat .u8 (xs.take 2000))[j]=(flat .u8 xs)[j]:=by simp only[hf,List.getElem_take]
    have e2:(cs.take 2000)[j]=cs[j]:=List.getElem_take;rw[e1,e2];exact hr j h1' h2'
  ·refine fin (u:=.slice (some a) n cap) ?_ (axK w a n cap (by omega))
   rw[List.take_of_length_le (by omega)]
   exact .sl .u8 xs a cap cs n hn hcap hb hl hc hr⟩
set_option maxHeartbeats 1000000 in
theorem aqc(b:Nat)(w:World)(h0:w.cell? ⟨b,0,none⟩=some (.pointer (some ⟨b,0,none⟩))):
  Calls O 112 #[.pointer (some ⟨b,0,none⟩)] w fun e w'=>e=.returned (.tuple #[])/\w'=w:=by
 obtain⟨j,hj,_⟩:=Option.map_eq_some_iff.1 (show(O.info? 91).map (·.size)=some 2 by kernel_rfl)
 go_enter Tryz.func112,Tryz.ntmps112
 go_wp2
 rw[Lib.run_neq_ptr_same w _ (show O.underlying 89=some (.pointer 91) by kernel_rfl) hj]
 go_wp2
 go_end0
 exact⟨rfl,rfl⟩
set_option maxHeartbeats 1000000 in
theorem aos(b:Nat)(w:World)(h0:w.cell? ⟨b,0,none⟩=some (.pointer none))(hsh:w.shape? b=some (91,2))(hfz:w.frozen? ⟨b,0,none⟩=false):
  Calls O 112 #[.pointer (some ⟨b,0,none⟩)] w fun e w'=>e=.returned (.tuple #[])/\w'=w.setCell ⟨b,0,none⟩ (.pointer (some ⟨b,0,none⟩)):=by
 obtain⟨j,hj,hjs⟩:=Option.map_eq_some_iff.1 (show(O.info? 91).map (·.size)=some 2 by kernel_rfl)
 go_enter Tryz.func112,Tryz.ntmps112
 go_wp2
 rw[Lib.run_to_unsafe w ⟨b,0,none⟩ (show O.underlying 89=some (.pointer 91) by kernel_rfl) (show O.underlying 193=some .unsafePointer by kernel_rfl) hj (by rw[hjs];decide) hsh (Nat.zero_lt_succ 1)]
 simp only[Result.andThen];rw[Oper.upon_value]
 go_wp2
 rw[run_callFunc_extern Tryz.func164 (by kernel_rfl) (by kernel_rfl) (by kernel_rfl) (e:=Extern.AbiNoEscape.same) (by kernel_rfl)]
 rw[Lib.run_noEscape];simp only[Result.andThen];rw[Oper.upon_value]
 go_wp2
 rw[Lib.run_from_unsafe w ⟨b,0,none⟩ (show O.underlying 193=some .unsafePointer by kernel_rfl) (show O.underlying 89=some (.pointer 91) by kernel_rfl) hj hsh (by kernel_rfl)]
 simp only[Result.andThen];rw[Oper.upon_value]
 go_wp2
 go_end0
 exact⟨rfl,rfl⟩
theorem arV:C5 O 112:=by
 intro b p v w hb hp;refine .inl ⟨enters_of Tryz.func112 (by kernel_rfl) rfl _ _,?_⟩
 rcases hp with rfl|rfl
 ·refine(aos b w (by rw[Lib.cell_of_heap hb];rfl) (by simp[World.shape?,hb];rfl) (by simp[World.frozen?,hb])).mono ?_
  rintro e w' ⟨rfl,rfl⟩;refine⟨rfl,?_⟩;rw[setCell_eq_setRow w b 0 _ _ _ _ hb];rfl
 ·refine(aqc b w (by rw[Lib.cell_of_heap hb];rfl)).mono ?_
  rintro e w' ⟨rfl,rfl⟩;exact⟨rfl,(setRow_self w' b _ _ _ hb).symm⟩
section
variable {P:Program}(w:World)
theorem OR:∀(xs:List Int) (a:Addr) (acc:ByteArray),(∀j x,xs[j]? =some x->w.cell? (a.add j)=some (.int .u8 x))->
  (loadBytes a acc xs.length).run P w=.ok ⟨acc.data++(strOf xs).toArray⟩ w
 |[],a,acc,_=>by simp[loadBytes,strOf]
 |x::l,a,acc,h=>by
  have h0:w.cell? a=some (.int .u8 x):=by
   have:=h 0 x rfl;simpa[Addr.add] using this
  have ih:=OR l (a.add 1) (acc.push (UInt8.ofNat x.toNat)) (fun j y hy=>by
   have:=h (j+1) y (by simpa using hy)
   have e:(a.add 1).add j=a.add (j+1):=by
    unfold Addr.add;by_cases hj:j=0
    ·subst hj;simp
    ·simp[hj];omega
   rw[e];exact this)
  have hx:(x.toNat).toUInt8=UInt8.ofNat x.toNat:=rfl;simp only[cW,loadBytes,Sem.run_bind,run_load,h0,Result.andThen,hx];rw[ih];congr 1
  apply ByteArray.ext;simp[ByteArray.push,strOf]
theorem aeQ(pt it ty e:TypeId)(hp:P.underlying pt=some (.pointer e))(hc:P.cellsOf e=1)(g cells:Nat)(hsh:w.shape? g=some (e,cells))(l:List Int)(h0:l≠[])(hn:l.length<=cells)(h63:l.length<=9223372036854775807)
  (hcell:∀j x,l[j]? =some x->w.cell? ((⟨g,0,none⟩:Addr).add j)=some (.int .u8 x)):
  (Builtin.unsafeString_ #[pt,it] ty #[.pointer (some ⟨g,0,none⟩),.int .i64 l.length]).run P w=.ok (.string ⟨(strOf l).toArray⟩) (w.freeze ⟨g,0,none⟩ l.length):=by
 have hl:l.length≠0:=by simpa using h0
 have hlb:=OR (P:=P) w l ⟨g,0,none⟩ .empty hcell;have hlies:=Lib.liesAt_bytes (P:=P) hc (cells/P.cellsOf e) l.length (by rw[hc];simpa using hn)
 have h63':¬(9223372036854775807:Int)<(l.length:Int):=by omega
 have hmax:IntKind.i64.max=9223372036854775807:=rfl;have hneg:¬(l.length:Int)<0:=by omega
 change Sem.run P (bind (asInt (.int .i64 (l.length:Int))) _) w=_;simp[asInt,asIntOf,hmax,h63',hneg,hl,variablesAt,hsh,elemOf,run_underlying hp,hlies,hlb]
theorem agV(a:Addr)(n:Nat):(w.freeze a n).os=w.os/\(w.freeze a n).tape=w.tape/\(w.freeze a n).output=w.output/\(w.freeze a n).heap.size=w.heap.size/\
  (∀c,c≠a.block->(w.freeze a n).heap[c]? =w.heap[c]?)/\∀cur e fz,w.heap[a.block]? =some (.cells cur e fz)->∃fz',(w.freeze a n).heap[a.block]? =some (.cells cur e fz'):=by
 unfold World.freeze;split
 ·exact⟨rfl,rfl,rfl,rfl,fun _ _=>rfl,fun cur e fz h=>⟨fz,h⟩⟩
 ·refine⟨rfl,rfl,rfl,by simp,fun c hc=>?_,fun cur e fz h=>?_⟩
  ·simp only[Array.getElem?_modify];rw[if_neg (by omega)]
  ·simp only[Array.getElem?_modify,if_true,h,Option.map_some];exact⟨_,rfl⟩
end
abbrev rk(w:World)(v:Value)(xs:List Int)(e:Ending)(w':World):Prop:=e=.returned (.string ⟨(strOf xs).toArray⟩)/\w'.os=w.os/\w'.tape=w.tape/\w'.output=w.output/\w.heap.size<=w'.heap.size/\
   (∀c,c<w.heap.size->bZ v≠some c->w'.heap[c]? =w.heap[c]?)/\∀c cur e fz,bZ v=some c->w.heap[c]? =some (.cells cur e fz)->∃fz',w'.heap[c]? =some (.cells cur e fz')
set_option maxHeartbeats 2000000 in
theorem arX(b:Nat)(p:Value)(T:TypeId)(w:World)(hbk:w.heap[b]? =some (.cells #[p,.slice none 0 0] T (0,0))):
  Calls O 65 #[.pointer (some ⟨b,0,none⟩)] w (rk w (.slice none 0 0) []):=by
 have hUS:∀W q,(Builtin.unsafeString_ #[144,3] 9 #[.pointer q,.int .i64 0]).run O W=.ok (.string .empty) W:=fun W q=>Lib.run_unsafeString_none W _ _ _ q
 have c1:w.drew.cell? ⟨b,1,none⟩=some (.slice none 0 0):=by
  have:w.drew.heap[b]? =some (.cells #[p,.slice none 0 0] T (0,0)):=hbk;rw[Lib.cell_of_heap this];rfl
 have mixed:O.follows .mixedOrders=true:=by kernel_rfl
 have hSD:(Builtin.unsafeSliceData_ #[52] 144 #[.slice none 0 0]).run O w.drew=.ok (.pointer none) w.drew:=rfl;go_enter Tryz.func65,Tryz.ntmps65
 go_wp2
 go_region_o
 all_goals(go_wp2;go_ret;exact⟨rfl,rfl,rfl,rfl,Nat.le_refl _,fun _ _ _=>rfl,fun c cur e fz h=>by cases h⟩)
set_option maxHeartbeats 2000000 in
theorem amc(b g:Nat)(p:Value)(T:TypeId)(cur:Array Value)(w:World)(hbk:w.heap[b]? =some (.cells #[p,.slice (some ⟨g,0,none⟩) 0 0] T (0,0)))(fz:Nat×Nat)(hg:w.heap[g]? =some (.cells cur 5 fz)):
  Calls O 65 #[.pointer (some ⟨b,0,none⟩)] w (rk w (.slice (some ⟨g,0,none⟩) 0 0) []):=by
 have hUS:∀W q,(Builtin.unsafeString_ #[144,3] 9 #[.pointer q,.int .i64 0]).run O W=.ok (.string .empty) W:=fun W q=>Lib.run_unsafeString_none W _ _ _ q
 have hlt:b<w.heap.size:=(Array.getElem?_eq_some_iff.1 hbk).1;have c1:w.drew.cell? ⟨b,1,none⟩=some (.slice (some ⟨g,0,none⟩) 0 0):=by
  have:w.drew.heap[b]? =some (.cells #[p,.slice (some ⟨g,0,none⟩) 0 0] T (0,0)):=hbk;rw[Lib.cell_of_heap this];rfl
 have mixed:O.follows .mixedOrders=true:=by kernel_rfl
 have t144:O.underlying 144=some (.pointer 5):=by kernel_rfl
 have hSD:(Builtin.unsafeSliceData_ #[52] 144 #[.slice (some ⟨g,0,none⟩) 0 0]).run O w.drew=.ok (.pointer (some ⟨w.drew.heap.size,0,none⟩)) (w.drew.alloc (.view ⟨g,0,none⟩ 5)):=
  Lib.run_unsafeSliceData_zero w.drew _ _ 5 t144 ⟨g,0,none⟩ 0 (5,cur.size) (by have hg':w.drew.heap[g]? =some (.cells cur 5 fz):=hg;simp[World.shape?,hg'])
 have c2:(w.drew.alloc (.view ⟨g,0,none⟩ 5)).cell? ⟨b,1,none⟩=some (.slice (some ⟨g,0,none⟩) 0 0):=by
  have:(w.drew.alloc (.view ⟨g,0,none⟩ 5)).heap[b]? =_:=(Lib.alloc_old w.drew _ b hlt).trans hbk;rw[Lib.cell_of_heap this];rfl
 have c3:(w.alloc (.view ⟨g,0,none⟩ 5)).drew.cell? ⟨b,1,none⟩=some (.slice (some ⟨g,0,none⟩) 0 0):=c2;have c0:w.cell? ⟨b,1,none⟩=some (.slice (some ⟨g,0,none⟩) 0 0):=c1;have fin:rk w (.slice (some ⟨g,0,none⟩) 0 0) [] (.returned (.string .empty)) (w.drew.alloc (.view ⟨g,0,none⟩ 5)):=by
  refine⟨rfl,rfl,rfl,rfl,by simp,fun c hc _=>Lib.alloc_old w.drew _ c hc,fun c cur' e fz' h h2=>?_⟩
  cases h;exact⟨fz',(Lib.alloc_old w.drew _ g (Array.getElem?_eq_some_iff.1 hg).1).trans h2⟩
 go_enter Tryz.func65,Tryz.ntmps65
 go_wp2
 go_region_o
 all_goals(go_wp2;go_ret;exact fin)
set_option maxHeartbeats 2000000 in
theorem ap9(b g cap:Nat)(p:Value)(T:TypeId)(w:World)(hc0:cap≠0)(hbk:w.heap[b]? =some (.cells #[p,.slice (some ⟨g,0,none⟩) 0 cap] T (0,0))):
  Calls O 65 #[.pointer (some ⟨b,0,none⟩)] w (rk w (.slice (some ⟨g,0,none⟩) 0 cap) []):=by
 have hUS:∀W q,(Builtin.unsafeString_ #[144,3] 9 #[.pointer q,.int .i64 0]).run O W=.ok (.string .empty) W:=fun W q=>Lib.run_unsafeString_none W _ _ _ q
 have c1:w.drew.cell? ⟨b,1,none⟩=some (.slice (some ⟨g,0,none⟩) 0 cap):=by
  have:w.drew.heap[b]? =some (.cells #[p,.slice (some ⟨g,0,none⟩) 0 cap] T (0,0)):=hbk;rw[Lib.cell_of_heap this];rfl
 have mixed:O.follows .mixedOrders=true:=by kernel_rfl
 have hSD:(Builtin.unsafeSliceData_ #[52] 144 #[.slice (some ⟨g,0,none⟩) 0 cap]).run O w.drew=.ok (.pointer (some ⟨g,0,none⟩)) w.drew:=
  Lib.run_unsafeSliceData_row _ _ _ _ _ _ hc0
 clear hc0;go_enter Tryz.func65,Tryz.ntmps65
 go_wp2
 go_region_o
 all_goals(go_wp2;go_ret;exact⟨rfl,rfl,rfl,rfl,Nat.le_refl _,fun _ _ _=>rfl,fun c cur e fz h h2=>⟨fz,h2⟩⟩)
set_option maxHeartbeats 2000000 in
theorem arW(b g cap:Nat)(p:Value)(T:TypeId)(cur:Array Value)(fz:Nat×Nat)(xs:List Int)(w:World)(h0:xs≠[])(hbk:w.heap[b]? =some (.cells #[p,.slice (some ⟨g,0,none⟩) xs.length cap] T (0,0)))
  (hg:w.heap[g]? =some (.cells cur 5 fz)) (hnc:xs.length<=cap) (hcm:cap<=maxLen) (hcs:cur.size=cap) (htk:cur.toList.take xs.length=xs.map (Value.int .u8)):
  Calls O 65 #[.pointer (some ⟨b,0,none⟩)] w (rk w (.slice (some ⟨g,0,none⟩) xs.length cap) xs):=by
 have hl0:xs.length≠0:=by simpa using h0
 have c1:w.drew.cell? ⟨b,1,none⟩=some (.slice (some ⟨g,0,none⟩) xs.length cap):=by
  have:w.drew.heap[b]? =some (.cells #[p,.slice (some ⟨g,0,none⟩) xs.length cap] T (0,0)):=hbk;rw[Lib.cell_of_heap this];rfl
 have mixed:O.follows .mixedOrders=true:=by kernel_rfl
 have t144:O.underlying 144=some (.pointer 5):=by kernel_rfl
 have hg':w.drew.heap[g]? =some (.cells cur 5 fz):=hg;have hSD:(Builtin.unsafeSliceData_ #[52] 144 #[.slice (some ⟨g,0,none⟩) xs.length cap]).run O w.drew=.ok (.pointer (some ⟨g,0,none⟩)) w.drew:=
  Lib.run_unsafeSliceData_row _ _ _ _ _ _ (by omega)
 have hUS:(Builtin.unsafeString_ #[144,3] 9 #[.pointer (some ⟨g,0,none⟩),.int .i64 xs.length]).run O w.drew=.ok (.string ⟨(strOf xs).toArray⟩) (w.drew.freeze ⟨g,0,none⟩ xs.length):=by
  refine aeQ w.drew 144 3 9 5 t144 (by kernel_rfl) g cur.size (by simp[World.shape?,hg']) xs h0 (by omega) (by unfold maxLen at hcm;omega) ?_
  intro j x hx;rw[hK,Nat.zero_add,cell_of_row w.drew g j cur 5 fz hg'];have hj:j<xs.length:=(List.getElem?_eq_some_iff.1 hx).1;have:=congrArg (fun l=>l[j]?) htk
  simp only[List.getElem?_take,List.getElem?_map,hx,Option.map_some,hj,if_true] at this;simpa using this
 have fin:rk w (.slice (some ⟨g,0,none⟩) xs.length cap) xs (.returned (.string ⟨(strOf xs).toArray⟩)) (w.drew.freeze ⟨g,0,none⟩ xs.length):=by
  obtain⟨f1,f2,f3,f4,f5,f6⟩:=agV w.drew ⟨g,0,none⟩ xs.length;refine⟨rfl,f1,f2,f3,Nat.le_of_eq f4.symm,fun c _ hc=>f5 c fun e=>hc (by rw[e];rfl),fun c cur' e fz' h h2=>?_⟩
  cases h;exact f6 cur' e fz' h2
 clear htk hg' hg hcs hcm hnc hl0 h0;go_enter Tryz.func65,Tryz.ntmps65
 go_wp2
 go_region_o
 all_goals(go_wp2;go_ret;exact fin)
theorem auA:Dn O 65:=by
 intro b p v T xs w hb hrow;refine .inl ⟨enters_of Tryz.func65 (by kernel_rfl) rfl _ _,?_⟩
 have key:Calls O 65 #[.pointer (some ⟨b,0,none⟩)] w (rk w v xs):=by
  rcases hrow.2 with⟨rfl,h0⟩|⟨g,cap,cur,fz,rfl,hu,hg,hnc,hcm,hcs,htk⟩
  ·have:xs=[]:=fP h0;subst this;exact arX b p T w hb
  ·by_cases h0:xs=[]
   ·subst h0;by_cases hc:cap=0
    ·subst hc;exact amc b g p T cur w hb fz hg
    ·exact ap9 b g cap p T w hc hb
   ·exact arW b g cap p T cur fz xs w h0 hb hg hnc hcm (by simpa using hcs) (by simpa using htk)
 refine key.mono fun e w' h=>?_
 obtain⟨rfl,h⟩:=h;exact⟨rfl,h⟩
theorem azh:DX 0 .u32 i':=alP (by simp[lo]) fun w h=>h.1
theorem aCc:Xz O af:=⟨amv (S3 (by kernel_rfl)),by kernel_rfl,fun p h=>by
 simp only[af,bO,List.not_mem_nil,or_false] at h;subst h;exact atj,fun g h=>by
 simp only[af,bO,List.not_mem_nil,or_false] at h;subst h;exact atM,fun g h=>by
 simp only[af,bO,List.not_mem_nil,or_false] at h;subst h;exact arV,fun g h=>by
 simp only[af,bO,List.not_mem_nil,or_false] at h;subst h;exact auA,fun p h=>by
 simp only[af,bO,List.not_mem_nil,or_false] at h;subst h;exact azh⟩
theorem aY{L:a8}(h:D4 O L):aT O (aZ af L):=aok aCc h
theorem g0:aT O (aZ af []):=aY ⟨⟩
abbrev TG:Shape:=⟨[am 0,aj 1],[],53⟩
abbrev Tk:List aR:=[(.norm,⟨[am 0,aj 1,ar 24],[],53⟩)]
noncomputable def BP(y:TG.J):Option (aG Tk):=
 bif(!(y.1.1==([]:B))) then
 bif(!(decide ((y.1.1.length:Int)>(9:Int)))) then
 bif(decide ((y.1.1.length:Int)>(1:Int))) then
(aS y.1.1 (0:Int)).bind fun a=>
 some ((y.1.1,y.1.2.1,((a.toNat:Int)==(48:Int)),()),())
else
 some ((y.1.1,y.1.2.1,false,()),())
else
 some ((y.1.1,y.1.2.1,true,()),())
else
 some ((y.1.1,y.1.2.1,true,()),())
theorem anE:aV O (ap (codeOf Tryz.f115) 1 12) (aX TG Tk BP):=cm g0 (by kernel_rfl) ag fun y=>by kernel_rfl
abbrev PY:Shape:=⟨[am 0,aj 1,aj 6,aj 7,aj 26,aj 27],[],53⟩
abbrev PR:List aR:=[(.norm,⟨[am 0,aj 1,aj 6,aj 7,aj 26,aj 27,ar 39],[],53⟩)]
noncomputable def zc(y:PY.J):Option (aG PR):=
(aS y.1.1 y.1.2.2.2.1).bind fun a=>
 bif(!(decide ((a.toNat:Int)<(48:Int)))) then
(aS y.1.1 y.1.2.2.2.1).bind fun b=>
 some ((y.1.1,y.1.2.1,y.1.2.2.1,y.1.2.2.2.1,y.1.2.2.2.2.1,y.1.2.2.2.2.2.1,(decide ((b.toNat:Int)>(57:Int))),()),())
else
 some ((y.1.1,y.1.2.1,y.1.2.2.1,y.1.2.2.2.1,y.1.2.2.2.2.1,y.1.2.2.2.2.2.1,true,()),())
theorem ahB:aV O (ap (di (ap (codeOf Tryz.f115) 1 122)) 244 31332) (aX PY PR zc):=cm g0 (by kernel_rfl) ag fun y=>by kernel_rfl
abbrev Ad:Shape:=⟨[am 0,aj 1,aj 6,aj 26,aj 27],[],53⟩
abbrev G_:List aR:=[(.ret,⟨[aj 4,ar 5],[],53⟩),(.exit 0,⟨[aj 1,aj 6],[],53⟩)]
noncomputable def q5(y:Ad.J):bP Ad G_:=
 bif(decide (y.1.2.2.2.2.1<y.1.2.2.2.1)) then
(zc ((y.1.1,y.1.2.1,y.1.2.2.1,y.1.2.2.2.2.1,y.1.2.2.2.1,y.1.2.2.2.2.1,()),())).bind fun a=>
 bif a.1.2.2.2.2.2.2.1 then
 some (.inr (.inl (((0:Int),false,()),())))
else
(aS a.1.1 a.1.2.2.2.1).bind fun b=>
 some (.inl ((a.1.1,a.1.2.1,(IntKind.i64.wrap ((IntKind.i64.wrap (a.1.2.2.1*(10:Int)))+(IntKind.i64.wrap (IntKind.u8.wrap ((b.toNat:Int)-(48:Int)))))),a.1.2.2.2.2.1,(IntKind.i64.wrap (a.1.2.2.2.2.2.1+(1:Int))),()),()))
else
 some (.inr (.inr ((y.1.2.1,y.1.2.2.1,()),())))
noncomputable def s7:Ad.J->Option (aG G_):=bA q5
theorem aln:aV O (ap (codeOf Tryz.f115) 1 122) (aX Ad G_ s7):=bR g0 (by kernel_rfl) (a7 ahB ag) fun y=>by kernel_rfl
abbrev i115:Shape:=⟨[am 0,aj 1],[],53⟩
abbrev ZD:Shape:=⟨[aj 4,ar 5],[],53⟩
noncomputable def f115(a:i115.J):Option ZD.J:=
(BP ((a.1.1,a.1.2.1,()),())).bind fun b=>
 bif b.1.2.2.1 then
 some (((0:Int),false,()),())
else
(s7 ((b.1.1,b.1.2.1,(0:Int),(b.1.1.length:Int),(0:Int),()),())).bind fun c=>
(match c with
|.inl d=>
 some ((d.1.1,d.1.2.1,()),())
|.inr e=>
 bif(decide (e.1.2.1>e.1.1)) then
 some (((0:Int),false,()),())
else
 some ((e.1.2.1,true,()),()))
noncomputable def DU:aH:=aL af Tryz.f115 i115 ZD [] f115
theorem K1:aE O 115 DU:=aM g0 Tryz.func115 (by kernel_rfl) (a7 anE (a7 aln ag)) (fun y=>by kernel_rfl) fun a=>by kernel_rfl
abbrev Sd:Shape:=⟨[am 0,aj 3,aj 4],[],47⟩
abbrev RV:List aR:=[(.norm,⟨[am 0,aj 3,aj 4,ar 24],[],47⟩)]
noncomputable def HF(y:Sd.J):Option (aG RV):=
(aS y.1.1 y.1.2.2.1).bind fun a=>
 bif(!(decide ((a.toNat:Int)<(48:Int)))) then
(aS y.1.1 y.1.2.2.1).bind fun b=>
 bif(!(decide ((b.toNat:Int)>(57:Int)))) then
 some ((y.1.1,y.1.2.1,y.1.2.2.1,(decide (y.1.2.2.1>=(6:Int))),()),())
else
 some ((y.1.1,y.1.2.1,y.1.2.2.1,true,()),())
else
 some ((y.1.1,y.1.2.1,y.1.2.2.1,true,()),())
theorem akR:aV O (ap (di (ap (codeOf Tryz.f74) 1 58)) 116 3728) (aX Sd RV HF):=cm g0 (by kernel_rfl) ag fun y=>by kernel_rfl
abbrev Cf:Shape:=⟨[am 0,aj 3,aj 4],[],47⟩
abbrev JO:List aR:=[(.ret,⟨[aj 2],[],47⟩),(.exit 0,⟨[am 0,aj 3],[],47⟩)]
noncomputable def CG(y:Cf.J):bP Cf JO:=
 bif(decide (y.1.2.2.1<(y.1.1.length:Int))) then
(HF ((y.1.1,y.1.2.1,y.1.2.2.1,()),())).bind fun a=>
 bif a.1.2.2.2.1 then
 some (.inr (.inl ((((-1):Int),()),())))
else
(aS a.1.1 a.1.2.2.1).bind fun b=>
 some (.inl ((a.1.1,(IntKind.i64.wrap ((IntKind.i64.wrap (a.1.2.1*(10:Int)))+(IntKind.i64.wrap (IntKind.u8.wrap ((b.toNat:Int)-(48:Int)))))),(IntKind.i64.wrap (a.1.2.2.1+(1:Int))),()),()))
else
 some (.inr (.inr ((y.1.1,y.1.2.1,()),())))
noncomputable def Ka:Cf.J->Option (aG JO):=bA CG
theorem apl:aV O (ap (codeOf Tryz.f74) 1 58) (aX Cf JO Ka):=bR g0 (by kernel_rfl) (a7 akR ag) fun y=>by kernel_rfl
abbrev U6:Shape:=⟨[am 0,aj 3],[],47⟩
abbrev UQ:List aR:=[(.norm,⟨[aj 3,ar 45],[],47⟩)]
noncomputable def Kk(y:U6.J):Option (aG UQ):=
 bif(!((y.1.1.length:Int)==(0:Int))) then
 bif(decide ((y.1.1.length:Int)>(1:Int))) then
(aS y.1.1 (0:Int)).bind fun a=>
 some ((y.1.2.1,((a.toNat:Int)==(48:Int)),()),())
else
 some ((y.1.2.1,false,()),())
else
 some ((y.1.2.1,true,()),())
theorem apk:aV O (ap (codeOf Tryz.f74) 1 60) (aX U6 UQ Kk):=cm g0 (by kernel_rfl) ag fun y=>by kernel_rfl
abbrev i74:Shape:=⟨[am 0],[],47⟩
abbrev abO:Shape:=⟨[aj 2],[],47⟩
noncomputable def f74(a:i74.J):Option abO.J:=
(Ka ((a.1.1,(0:Int),(0:Int),()),())).bind fun b=>
(match b with
|.inl c=>
 some ((c.1.1,()),())
|.inr d=>
(Kk ((d.1.1,d.1.2.1,()),())).bind fun e=>
 bif e.1.2.1 then
 some ((((-1):Int),()),())
else
 some ((e.1.1,()),()))
noncomputable def yk:aH:=aL af Tryz.f74 i74 abO [] f74
theorem D7:aE O 74 yk:=aM g0 Tryz.func74 (by kernel_rfl) (a7 apl (a7 apk ag)) (fun y=>by kernel_rfl) fun a=>by kernel_rfl
abbrev i75:Shape:=⟨[aj 0,aj 1,aj 2],[],15⟩
abbrev abN:Shape:=⟨[ar 6],[],15⟩
noncomputable def f75(a:i75.J):Option abN.J:=
 bif(decide (a.1.1>=a.1.2.1)) then
 some (((decide (a.1.1<=a.1.2.2.1)),()),())
else
 some ((false,()),())
noncomputable def ph:aH:=aL af Tryz.f75 i75 abN [] f75
theorem z75:aE O 75 ph:=aM g0 Tryz.func75 (by kernel_rfl) ag (fun y=>by kernel_rfl) fun a=>by kernel_rfl
noncomputable abbrev az5:a8:=[(75,ph)]
theorem EU:aT O (aZ af az5):=aY ⟨z75,⟨⟩⟩
abbrev Tr:Shape:=⟨[am 0,aj 3],[],42⟩
abbrev S7:List aR:=[(.norm,⟨[am 0,aj 3,ar 4],[],42⟩)]
noncomputable def Jm(y:Tr.J):Option (aG S7):=
(aS y.1.1 y.1.2.1).bind fun a=>
 bif(decide ((a.toNat:Int)>=(97:Int))) then
(aS y.1.1 y.1.2.1).bind fun b=>
 some ((y.1.1,y.1.2.1,(decide ((b.toNat:Int)<=(122:Int))),()),())
else
 some ((y.1.1,y.1.2.1,false,()),())
theorem amE:aV O (ap (di (ap (codeOf Tryz.f87) 1 26)) 52 840) (aX Tr S7 Jm):=cm EU (by kernel_rfl) ag fun y=>by kernel_rfl
abbrev Sb:Shape:=⟨[am 0,aj 3,ar 4],[],42⟩
abbrev RT:List aR:=[(.norm,⟨[am 0,aj 3,ar 38],[],42⟩)]
noncomputable def HE(y:Sb.J):Option (aG RT):=
 bif(!y.1.2.2.1) then
 bif(!(y.1.2.1==(0:Int))) then
(aS y.1.1 y.1.2.1).bind fun a=>
 bif(!(decide ((a.toNat:Int)<(48:Int)))) then
(aS y.1.1 y.1.2.1).bind fun b=>
 some ((y.1.1,y.1.2.1,(decide ((b.toNat:Int)>(57:Int))),()),())
else
 some ((y.1.1,y.1.2.1,true,()),())
else
 some ((y.1.1,y.1.2.1,true,()),())
else
 some ((y.1.1,y.1.2.1,false,()),())
theorem akP:aV O (ap (di (ap (codeOf Tryz.f87) 1 26)) 52 1682) (aX Sb RT HE):=cm EU (by kernel_rfl) ag fun y=>by kernel_rfl
abbrev Ce:Shape:=⟨[am 0,aj 3],[],42⟩
abbrev JN:List aR:=[(.ret,⟨[ar 2],[],42⟩),(.exit 0,⟨[am 0],[],42⟩)]
noncomputable def CF(y:Ce.J):bP Ce JN:=
 bif(decide (y.1.2.1<(y.1.1.length:Int))) then
(Jm ((y.1.1,y.1.2.1,()),())).bind fun a=>
(HE ((a.1.1,a.1.2.1,a.1.2.2.1,()),())).bind fun b=>
 bif b.1.2.2.1 then
 some (.inr (.inl ((false,()),())))
else
 some (.inl ((b.1.1,(IntKind.i64.wrap (b.1.2.1+(1:Int))),()),()))
else
 some (.inr (.inr ((y.1.1,()),())))
noncomputable def J':Ce.J->Option (aG JN):=bA CF
theorem aph:aV O (ap (codeOf Tryz.f87) 1 26) (aX Ce JN J'):=bR EU (by kernel_rfl) (a7 amE (a7 akP ag)) fun y=>by kernel_rfl
abbrev i87:Shape:=⟨[am 0],[],42⟩
abbrev abH:Shape:=⟨[ar 2],[],42⟩
noncomputable def f87(a:i87.J):Option abH.J:=
(J' ((a.1.1,(0:Int),()),())).bind fun b=>
(match b with
|.inl c=>
 some ((c.1.1,()),())
|.inr d=>
(f75 (((d.1.1.length:Int),(1:Int),(10:Int),()),())).bind fun e=>
 some ((e.1.1,()),()))
noncomputable def NI:aH:=aL af Tryz.f87 i87 abH [] f87
theorem z87:aE O 87 NI:=aM EU Tryz.func87 (by kernel_rfl) (a7 aph ag) (fun y=>by kernel_rfl) fun a=>by kernel_rfl
abbrev U2:Shape:=⟨[am 0],[],49⟩
abbrev UM:List aR:=[(.norm,⟨[am 0,ar 20],[],49⟩)]
noncomputable def Kj(y:U2.J):Option (aG UM):=
 bif(!(y.1.1==([]:B))) then
 bif(!(decide ((y.1.1.length:Int)>(10:Int)))) then
(aS y.1.1 (0:Int)).bind fun a=>
 bif(!(decide ((a.toNat:Int)<(97:Int)))) then
(aS y.1.1 (0:Int)).bind fun b=>
 some ((y.1.1,(decide ((b.toNat:Int)>(122:Int))),()),())
else
 some ((y.1.1,true,()),())
else
 some ((y.1.1,true,()),())
else
 some ((y.1.1,true,()),())
theorem apa:aV O (ap (codeOf Tryz.f99) 1 12) (aX U2 UM Kj):=cm g0 (by kernel_rfl) ag fun y=>by kernel_rfl
abbrev Sa:Shape:=⟨[am 0,aj 3,aj 22,aj 23],[],49⟩
abbrev RS:List aR:=[(.norm,⟨[am 0,aj 22,aj 23,ar 47],[],49⟩)]
noncomputable def HD(y:Sa.J):Option (aG RS):=
(aS y.1.1 y.1.2.1).bind fun a=>
 bif(!(decide ((a.toNat:Int)<(97:Int)))) then
(aS y.1.1 y.1.2.1).bind fun b=>
 bif(decide ((b.toNat:Int)>(122:Int))) then
(aS y.1.1 y.1.2.1).bind fun c=>
 bif(!(decide ((c.toNat:Int)<(48:Int)))) then
(aS y.1.1 y.1.2.1).bind fun d=>
 some ((y.1.1,y.1.2.2.1,y.1.2.2.2.1,(decide ((d.toNat:Int)>(57:Int))),()),())
else
 some ((y.1.1,y.1.2.2.1,y.1.2.2.2.1,true,()),())
else
 some ((y.1.1,y.1.2.2.1,y.1.2.2.2.1,false,()),())
else
(aS y.1.1 y.1.2.1).bind fun e=>
 bif(!(decide ((e.toNat:Int)<(48:Int)))) then
(aS y.1.1 y.1.2.1).bind fun f=>
 some ((y.1.1,y.1.2.2.1,y.1.2.2.2.1,(decide ((f.toNat:Int)>(57:Int))),()),())
else
 some ((y.1.1,y.1.2.2.1,y.1.2.2.2.1,true,()),())
theorem akO:aV O (ap (di (ap (codeOf Tryz.f99) 1 58)) 116 7474) (aX Sa RS HD):=cm g0 (by kernel_rfl) ag fun y=>by kernel_rfl
abbrev B_:Shape:=⟨[am 0,aj 22,aj 23],[],49⟩
abbrev JI:List aR:=[(.ret,⟨[ar 2],[],49⟩),(.exit 0,⟨[],[],49⟩)]
noncomputable def Cz(y:B_.J):bP B_ JI:=
 bif(decide (y.1.2.2.1<y.1.2.1)) then
(HD ((y.1.1,y.1.2.2.1,y.1.2.1,y.1.2.2.1,()),())).bind fun a=>
 bif a.1.2.2.2.1 then
 some (.inr (.inl ((false,()),())))
else
 some (.inl ((a.1.1,a.1.2.1,(IntKind.i64.wrap (a.1.2.2.1+(1:Int))),()),()))
else
 some (.inr (.inr ((),())))
noncomputable def J5:B_.J->Option (aG JI):=bA Cz
theorem ao9:aV O (ap (codeOf Tryz.f99) 1 58) (aX B_ JI J5):=bR g0 (by kernel_rfl) (a7 akO ag) fun y=>by kernel_rfl
abbrev i99:Shape:=⟨[am 0],[],49⟩
abbrev abB:Shape:=⟨[ar 2],[],49⟩
noncomputable def f99(a:i99.J):Option abB.J:=
(Kj ((a.1.1,()),())).bind fun b=>
 bif b.1.2.1 then
 some ((false,()),())
else
(J5 ((b.1.1,(b.1.1.length:Int),(0:Int),()),())).bind fun c=>
(match c with
|.inl d=>
 some ((d.1.1,()),())
|.inr e=>
 some ((true,()),()))
noncomputable def NG:aH:=aL af Tryz.f99 i99 abB [] f99
theorem abi:aE O 99 NG:=aM g0 Tryz.func99 (by kernel_rfl) (a7 apa (a7 ao9 ag)) (fun y=>by kernel_rfl) fun a=>by kernel_rfl
def jn(b:UInt8):Bool:=decide ((97:Int)<=(b.toNat:Int))&&decide ((b.toNat:Int)<=122)
def c7(b:UInt8):Bool:=decide ((48:Int)<=(b.toNat:Int))&&decide ((b.toNat:Int)<=57)
def within(n de hi:Int):Bool:=decide (de<=n)&&decide (n<=hi)
theorem oI(a):f75 a=some ((within a.1.1 a.1.2.1 a.1.2.2.1,()),()):=by
 simp only[f75,within,ge_iff_le];cases decide (a.1.2.1<=a.1.1)<;>rfl
def iV(s:B):Bool:=allI (fun i x=>jn x||(!(i==0)&&c7 x)) 0 s&&within s.length 1 10
theorem RH(a)(hs:aA a.1.1.length):f87 a=some ((iV a.1.1,()),()):=by
 obtain⟨⟨s,u⟩,b7⟩:=a;have key:J' ((s,((0:Int),())),())=some (bif allI (fun i x=>jn x||(!(i==0)&&c7 x)) 0 s then .inr ((s,()),()) else .inl ((false,()),())):=by
  refine gv CF s (fun i=>((s,((i:Int),())),())) _ _ _ (fun i x hx=>?_) ?_
  ·have hi:=da hx;have hw:aA i:=by unfold aA at*;simp only at hs;omega
   simp only[CF,ct hi,ad,Jm,HE,cd,hx,Y,b9 hw,ge_iff_le,_g];unfold jn c7;by_cases h1:(97:Int)<=(x.toNat:Int)<;>by_cases h2:(x.toNat:Int)<=122<;>cases h3:(i==0)<;>by_cases aF:(48:Int)<=(x.toNat:Int)<;>by_cases bo:(x.toNat:Int)<=57<;>simp[h1,h2,h3,aF,bo,b9 hw,cd,hx,_g,pd,n',-beq_iff_eq]
  ·simp only[CF,dL,ak]
 simp only[f87,key,Y];unfold iV;cases allI (fun i x=>jn x||(!(i==0)&&c7 x)) 0 s with
 |false=>rfl
 |true=>simp only[ad,oI,Y,Bool.true_and]
theorem Pt(b:UInt8)(r:B):iV (b::r)=(jn b&&(b::r).all (fun x=>jn x||c7 x)&&decide (((b::r).length:Int)<=10)):=by
 unfold iV;simp only[allI,List.all_cons];have:allI (fun i x=>jn x||(!(i==0)&&c7 x)) (0+1) r=r.all (fun x=>jn x||c7 x):=by
  have hz:∀(i:Nat) (x:UInt8),1<=i->x∈r->(jn x||(!(i==0)&&c7 x))=(jn x||c7 x):=by
   intro i x hi _;have:(i==0)=false:=by simp;omega
   rw[this];simp
  rw[Qf (mX:=fun _ x=>jn x||c7 x) r 1 hz,hH]
 rw[this];unfold within;have:decide ((1:Int)<=((b::r).length:Int))=true:=by simp only[cW,dY];omega
 rw[this];cases jn b<;>simp
theorem OY(a)(hs:aA a.1.1.length):f99 a=some ((iV a.1.1,()),()):=by
 obtain⟨⟨s,u⟩,b7⟩:=a;have key:J5 ((s,((s.length:Int),((0:Int),()))),())=some (bif allI (fun _ x=>jn x||c7 x) 0 s then .inr ((),()) else .inl ((false,()),())):=by
  refine gv Cz s (fun i=>((s,((s.length:Int),((i:Int),()))),())) _ _ _ (fun i x hx=>?_) ?_
  ·have hi:=da hx;have hw:aA i:=by unfold aA at*;simp only at hs;omega
   simp only[Cz,ct hi,ad,HD,cd,hx,Y,b9 hw,pd,n'];unfold jn c7;by_cases h1:(97:Int)<=(x.toNat:Int)<;>by_cases h2:(x.toNat:Int)<=122<;>by_cases aF:(48:Int)<=(x.toNat:Int)<;>by_cases bo:(x.toNat:Int)<=57<;>simp[h1,h2,aF,bo,b9 hw,cd,hx,pd,n']
  ·simp only[Cz,dL,ak]
 rw[hH] at key;cases s with
 |nil=>rfl
 |cons b r=>
  have hb:aS (b::r) 0=some b:=rfl;simp only[f99,Kj,hb,Y,pd,n',Pt];have he:((b::r)==([]:B))=false:=rfl;have hl:jn b=(decide ((97:Int)<=(b.toNat:Int))&&decide ((b.toNat:Int)<=122)):=rfl;rw[he,hl];by_cases h1:(97:Int)<=(b.toNat:Int)<;>by_cases h2:(b.toNat:Int)<=122<;>by_cases h3:((b::r).length:Int)<=10<;>
   simp only[h1,h2,h3,decide_true,decide_false,bu,bJ,ad,ak,Y,Bool.true_and,Bool.and_true,Bool.false_and,Bool.and_false]
  rw[key];generalize List.all (b::r) (fun x=>jn x||c7 x)=q
  cases q<;>rfl
def eA(n:Int)(b:UInt8):Int:=n*10+((b.toNat:Int)-48)
def du(s:B):Int:=s.foldl eA 0
def iF:B->Bool
 |b::_::_=>(b.toNat:Int)==48
 |_=>false
def fS(s:B):Bool:=s.all c7&&!(s==[])&&!iF s&&decide (s.length<=6)&&decide (du s<=999)
theorem jf{b:UInt8}(h:c7 b=true):48<=(b.toNat:Int)/\(b.toNat:Int)<=57:=by
 simpa[c7] using h
theorem aoS{b:UInt8}(h:c7 b=true):IntKind.u8.wrap ((b.toNat:Int)-48)=(b.toNat:Int)-48:=by
 have:=jf h;rw[IntKind.wrap_u8];omega
theorem Fz{n:Int}{b:UInt8}{i:Nat}(h:c7 b=true)(h0:0<=n)(h1:n<10^i):0<=eA n b/\eA n b<10^(i+1):=by
 have:=jf h;unfold eA;rw[Int.pow_succ];omega
theorem anL{i:Nat}(h:i<=9):(10:Int)^i<=1000000000:=by
 have:i=0\/i=1\/i=2\/i=3\/i=4\/i=5\/i=6\/i=7\/i=8\/i=9:=by omega
 rcases this with rfl|rfl|rfl|rfl|rfl|rfl|rfl|rfl|rfl|rfl<;>decide
theorem Gd{n:Int}{b:UInt8}{i:Nat}(h:c7 b=true)(hi:i<=8)(h0:0<=n)(h1:n<10^i):
  IntKind.i64.wrap (IntKind.i64.wrap (n*10)+IntKind.i64.wrap (IntKind.u8.wrap ((b.toNat:Int)-48)))=eA n b:=by
 have aa:=jf h;have hp:=anL (show i<=9 by omega)
 rw[aoS h,c' (n:=n*10) (by omega) (by omega),c' (n:=(b.toNat:Int)-48) (by omega) (by omega),c' (by omega) (by omega)]
 rfl
theorem HX(a)(hs:aA a.1.1.length):f74 a=some ((bif a.1.1.all c7&&decide (a.1.1.length<=6)&&!(a.1.1==[])&&!iF a.1.1 then du a.1.1 else-1,()),()):=by
 obtain⟨⟨s,u⟩,b7⟩:=a;have key:Ka ((s,((0:Int),((0:Int),()))),())=some (bif allI (fun i x=>c7 x&&decide (i<6)) 0 s then .inr ((s,(du s,())),()) else .inl ((((-1):Int),()),())):=by
  have:=my CG s (fun i n=>((s,(n,((i:Int),()))),())) (fun i x n=>some (bif c7 x&&decide (i<6) then .inl (eA n x) else .inr (.inl ((((-1):Int),()),())))) (fun n=>.inr ((s,(n,())),()))
   (fun i n=>0<=n/\n<10^i/\(i<=6)) (0:Int) ⟨by decide,by decide,by decide⟩ (fun i x n hx dG=>?_) (fun n _=>?_)
  ·exact this.trans (by rw[y0];rfl)
  ·have hi:=da hx;have hw:aA i:=by unfold aA at*;simp only at hs;omega
   obtain⟨h0,h1,cp⟩:=dG;refine⟨?_,fun aQ an=>?_⟩
   ·simp only[CG,ct hi,ad,HF,cd,hx,Y,b9 hw,pd,n',Nx];have atX:decide ((6:Int)<=(i:Int))=!decide (i<6):=by by_cases h:i<6<;>simp[h]<;>omega
    rw[atX];cases aa:c7 x with
    |false=>
     unfold c7 at aa;by_cases aF:(48:Int)<=(x.toNat:Int)<;>by_cases bo:(x.toNat:Int)<=57<;>simp[aF,bo] at aa ⊢
    |true=>
     obtain⟨aF,bo⟩:=jf aa;cases aC:decide (i<6) with
     |false=>simp[aF,bo]
     |true=>
      have aC:i<6:=by simpa using aC
      have:=Gd (i:=i) aa (by omega) h0 h1
      simp only[aF,bo,decide_true,bu,bJ,ad,ak,Y,cd,hx,this,b9 hw,Bool.and_true,Option.map_some]
   ·simp only[bE] at an;cases aC:(c7 x&&decide (i<6)) with
    |false=>rw[aC] at an;cases an
    |true=>
     rw[aC] at an;simp only[ad,Sum.inl.injEq] at an;simp only[bC,dY] at aC;subst an;have:=Fz aC.1 h0 h1;exact⟨this.1,this.2,by omega⟩
  ·simp only[CG,dL,ak]
 rw[HR,hH,aoy] at key;simp only[f74,key,Y];cases s with
 |nil=>rfl
 |cons b r=>
  have hb:aS (b::r) 0=some b:=rfl;have he:((b::r)==([]:B))=false:=rfl;have hz:(((b::r).length:Int)==0)=false:=by simp only[cW,beq_eq_false_iff_ne,ne_eq];omega
  have hl:decide (((b::r).length:Int)>1)=!(r==[]):=by cases r<;>simp;omega
  simp only[List.isEmpty_cons,Bool.false_or,Nat.zero_add,he,bJ,Bool.and_true];cases aC:(List.all (b::r) c7&&decide ((b::r).length<=6)) with
  |false=>rfl
  |true=>
   simp only[ad,Kk,hz,bJ,hl,hb,Y,Bool.true_and];cases r with
   |nil=>rfl
   |cons c r=>
    have:((c::r)==([]:B))=false:=rfl;rw[this];simp only[bJ,ad,Y,iF];cases ((b.toNat:Int)==48)<;>rfl
theorem aie:∀(r:B) (n:Int) (k:Nat),r.all c7=true->0<=n->10^k<=n->10^(k+r.length)<=r.foldl eA n:=by
 intro r;induction r with
 |nil=>intro n k _ _ h;exact h
 |cons b r ih=>
  intro n k aa h0 h;simp only[List.all_cons,bC] at aa;have hb:=jf aa.1;have hs:10^(k+1)<=eA n b:=by unfold eA;rw[Int.pow_succ];omega
  have:=ih (eA n b) (k+1) aa.2 (by unfold eA;omega) hs
  simp only[cW,List.foldl_cons];rw[show k+(r.length+1)=k+1+r.length by omega]
  exact this
theorem alr{n:Nat}(h:6<=n):(1000000:Int)<=10^n:=by
 induction n with
 |zero=>omega
 |succ n ih=>
  by_cases cp:6<=n
  ·have:=ih cp;rw[Int.pow_succ];omega
  ·have:n=5:=by omega
   subst this;decide
theorem amp{s:B}(aa:s.all c7=true)(hl:iF s=false)(iA:7<=s.length):999<du s:=by
 match s,iA with
 |b::c::r,iA=>
  simp only[iF,beq_eq_false_iff_ne,ne_eq] at hl;simp only[List.all_cons,bC] at aa;have hb:=jf aa.1;have hc:=jf aa.2.1;have hs:(10:Int)^0<=eA 0 b:=by unfold eA;simp;omega
  have:=aie (c::r) (eA 0 b) 0 (by simp[aa.2.1,aa.2.2]) (by unfold eA;omega) hs
  have h2:(1000000:Int)<=10^(0+(c::r).length):=alr (by simp only[cW] at iA ⊢;omega)
  show 999<List.foldl eA (eA 0 b) (c::r);omega
theorem aj8(a)(hs:aA a.1.1.length)(iz:a.1.2.1=999):f115 a=some ((bif fS a.1.1 then du a.1.1 else 0,(fS a.1.1,())),()):=by
 obtain⟨⟨s,m,u⟩,b7⟩:=a;obtain rfl:m=999:=iz;have key:s.length<=9->s7 ((s,((999:Int),((0:Int),((s.length:Int),((0:Int),()))))),())=some (bif allI (fun i x=>c7 x) 0 s then .inr (((999:Int),(du s,())),()) else .inl (((0:Int),(false,())),())):=by
  intro iz;have:=my q5 s (fun i n=>((s,((999:Int),(n,((s.length:Int),((i:Int),()))))),())) (fun i x n=>some (bif c7 x then .inl (eA n x) else .inr (.inl (((0:Int),(false,())),())))) (fun n=>.inr (((999:Int),(n,())),()))
   (fun i n=>0<=n/\n<10^i/\(i<=9)) (0:Int) ⟨by decide,by decide,by decide⟩ (fun i x n hx dG=>?_) (fun n _=>?_)
  ·exact this.trans (by rw[y0];rfl)
  ·have hi:=da hx;have hw:aA i:=by unfold aA at*;simp only at hs;omega
   obtain⟨h0,h1,cp⟩:=dG;refine⟨?_,fun aQ an=>?_⟩
   ·simp only[q5,ct hi,ad,zc,cd,hx,Y,b9 hw,pd,n',Nx];cases aa:c7 x with
    |false=>
     unfold c7 at aa;by_cases aF:(48:Int)<=(x.toNat:Int)<;>by_cases bo:(x.toNat:Int)<=57<;>simp[aF,bo] at aa ⊢
    |true=>
     obtain⟨aF,bo⟩:=jf aa;have:=Gd (i:=i) aa (by omega) h0 h1
     simp only[aF,bo,decide_true,bu,bJ,ad,ak,Y,cd,hx,this,b9 hw,Bool.and_true,Option.map_some]
   ·simp only[bE] at an;cases aC:c7 x with
    |false=>rw[aC] at an;cases an
    |true=>
     rw[aC] at an;simp only[ad,Sum.inl.injEq] at an;subst an;have:=Fz aC h0 h1;exact⟨this.1,this.2,by omega⟩
  ·simp only[q5,dL,ak]
 rw[hH] at key;cases s with
 |nil=>rfl
 |cons b r=>
  have hb:aS (b::r) 0=some b:=rfl;have he:((b::r)==([]:B))=false:=rfl;have hl:decide (((b::r).length:Int)>1)=!(r==[]):=by cases r<;>simp;omega
  have iz:decide (((b::r).length:Int)>9)=!decide ((b::r).length<=9):=by by_cases h:(b::r).length<=9<;>simp only[h,decide_true,decide_false,bu,bJ,dY,decide_eq_false_iff_not]<;>omega
  have rz:iF (b::r)=(!(r==[])&&(b.toNat:Int)==48):=by cases r<;>rfl
  simp only[f115,BP,he,hl,iz,bJ,ad,Bool.not_not,hb,Y];have fin:(b::r).length<=9->iF (b::r)=false->((s7 ((b::r,((999:Int),((0:Int),(((b::r).length:Int),((0:Int),()))))),())).bind fun K8=>match K8 with
    |.inl xe=>some ((xe.1.1,(xe.1.2.1,())),())
    |.inr rG=>bif decide (rG.1.2.1>rG.1.1) then some (((0:Int),(false,())),()) else some ((rG.1.2.1,(true,())),()))=
    some ((bif fS (b::r) then du (b::r) else 0,(fS (b::r),())),()):=by
   intro iz kn;rw[key iz];unfold fS;rw[he,kn];cases aa:List.all (b::r) c7 with
   |false=>rfl
   |true=>
    simp only[ad,Y,bJ,Bool.true_and,n'];by_cases cp:(b::r).length<=6
    ·simp only[cp,decide_true,Bool.true_and];cases decide (du (b::r)<=999)<;>rfl
    ·have:=amp aa kn (by omega)
     have:decide (du (b::r)<=999)=false:=by simp only[decide_eq_false_iff_not];omega
     rw[this];simp only[cp,decide_false,Bool.false_and];rfl
  by_cases aC:(b::r).length<=9
  ·simp only[aC,decide_true,ad];cases hr:(r==[]) with
   |true=>
    simp only[bu,ak,Y];exact fin aC (by rw[rz,hr];rfl)
   |false=>
    simp only[bJ,ad,Y];cases qz:((b.toNat:Int)==48) with
    |true=>
     have:fS (b::r)=false:=by unfold fS;rw[rz,hr,qz];simp
     rw[this];rfl
    |false=>
     simp only[ak];exact fin aC (by rw[rz,hr,qz];rfl)
  ·have:fS (b::r)=false:=by
    unfold fS;have:decide ((b::r).length<=6)=false:=by simp only[decide_eq_false_iff_not];omega
    rw[this];simp
   simp only[aC,decide_false,ak,Y,ad,this]
abbrev AB:Shape:=⟨[am 0,(1,.aq (.d (.int .u8))),aj 2,bd 7 3000448,aj 8,aj 9],[bc 3000448 .str 7 0],43⟩
abbrev vV:List aR:=[(.exit 0,⟨[am 0,bd 7 3000448,aj 8],[bc 3000448 .str 7 0],43⟩)]
noncomputable def pL(y:AB.J):bP AB vV:=
 bif(decide (y.1.2.2.2.2.2.1<(y.1.1.length:Int))) then
 bif(decide ((y.2.1.length:Int)<y.1.2.2.1)) then
(aS y.1.1 y.1.2.2.2.2.2.1).bind fun a=>
 bif((a.toNat:Int)==y.1.2.1) then
(bq y.1.1 y.1.2.2.2.2.1 y.1.2.2.2.2.2.1).bind fun b=>
(cl 16 y.2.1 ([b]:List B)).bind fun c=>
 some (.inl ((y.1.1,y.1.2.1,y.1.2.2.1,(),(IntKind.i64.wrap (y.1.2.2.2.2.2.1+(1:Int))),(IntKind.i64.wrap (y.1.2.2.2.2.2.1+(1:Int))),()),c,()))
else
 some (.inl ((y.1.1,y.1.2.1,y.1.2.2.1,(),y.1.2.2.2.2.1,(IntKind.i64.wrap (y.1.2.2.2.2.2.1+(1:Int))),()),y.2.1,()))
else
 some (.inr ((y.1.1,(),y.1.2.2.2.2.1,()),y.2.1,()))
else
 some (.inr ((y.1.1,(),y.1.2.2.2.2.1,()),y.2.1,()))
noncomputable def wa:AB.J->Option (aG vV):=bA pL
theorem amG:aV O (ap (codeOf Tryz.f73) 1 122) (aX AB vV wa):=bR g0 (by kernel_rfl) ag fun y=>by kernel_rfl
abbrev i73:Shape:=⟨[am 0,(1,.aq (.d (.int .u8))),aj 2],[],43⟩
abbrev abP:Shape:=⟨[bd 6 3000384],[bc 3000384 .str 6 0],43⟩
noncomputable def f73(a:i73.J):Option abP.J:=
(wa ((a.1.1,a.1.2.1,a.1.2.2.1,(),(0:Int),(0:Int),()),([]:List B),())).bind fun b=>
(bq b.1.1 b.1.2.2.1 (b.1.1.length:Int)).bind fun c=>
(cl 16 b.2.1 ([c]:List B)).bind fun d=>
 some (((),()),d,())
noncomputable def pi:aH:=aL af Tryz.f73 i73 abP [] f73
theorem ql:aE O 73 pi:=aM g0 Tryz.func73 (by kernel_rfl) (a7 amG ag) (fun y=>by kernel_rfl) fun a=>by kernel_rfl
abbrev cw(n:Nat):Prop:=n<=2097152
theorem pz(c:UInt8):∀s,bN c s≠[]:=by
 intro s;induction s with
 |nil=>intro h;cases h
 |cons b r ih=>
  unfold bN;cases b==c with
  |true=>intro h;cases h
  |false=>
   simp only[ak];split<;>intro h<;>cases h
def uo(acc:B):List B->List B
 |x::xs=>(acc++x)::xs
 |[]=>[acc]
theorem SI{L:List B}(h:L≠[]):uo [] L=L:=by
 cases L with
 |nil=>exact absurd rfl h
 |cons x xs=>rfl
theorem ot(c:UInt8):∀s,(bN c s).length<=s.length+1:=by
 intro s;induction s with
 |nil=>exact Nat.le_refl _
 |cons b r ih=>
  unfold bN;cases b==c with
  |true=>simpa using ih
  |false=>
   simp only[ak];split
   ·rename_i x xs h;rw[h] at ih;simp at ih ⊢;omega
   ·simp
theorem qN(c:UInt8):∀s x,x∈bN c s->x.length<=s.length:=by
 intro s;induction s with
 |nil=>intro x h;simp[bN] at h;simp[h]
 |cons b r ih=>
  intro x h;unfold bN at h;cases hb:b==c with
  |true=>
   rw[hb,ad] at h;rcases bO.1 h with rfl|h
   ·simp
   ·have:=ih x h;simp;omega
  |false=>
   rw[hb,ak] at h;split at h
   ·rename_i y bm hy;rcases bO.1 h with rfl|h
    ·have:=ih y (by rw[hy];exact ci);simp;omega
    ·have:=ih x (by rw[hy];exact cf _ h);simp;omega
   ·simp at h;simp[h]
theorem al6{bx:Type}(c:UInt8)(s:B)(fin:Nat×List B->bx):∀(r:B) (k:Nat) (q:Nat×List B),r=s.drop k->k<=s.length->q.1<=k->
  ∃fT,fc (fun i x (q:Nat×List B)=>some (.inl (bif(x.toNat:Int)==(c.toNat:Int) then(i+1,q.2++[(s.take i).drop q.1]) else q):Sum (Nat×List B) bx)) fin k r q=some (fin fT)/\fT.1<=s.length/\
   fT.2++[s.drop fT.1]=q.2++uo ((s.take k).drop q.1) (bN c r):=by
 intro r;induction r with
 |nil=>
  intro k q hr hk aC;have hkl:k=s.length:=by
   have:=congrArg List.length hr;simp at this;omega
  refine⟨q,rfl,by omega,?_⟩
  rw[hkl,List.take_length];simp[bN,uo]
 |cons x r ih=>
  intro k q hr hk aC;have hlt:k<s.length:=by
   have:=congrArg List.length hr;simp at this;omega
  have dq:r=s.drop (k+1):=by
   have:=congrArg List.tail hr;simpa using this
  have hx:s[k]? =some x:=by
   have:=congrArg (fun l=>l[0]?) hr
   simpa using this.symm
  simp only[fc];cases hc:((x.toNat:Int)==(c.toNat:Int)) with
  |true=>
   have MQ:x=c:=by
    simp only[beq_iff_eq] at hc;exact UInt8.toNat_inj.1 (by omega)
   simp only[ad];obtain⟨fT,h1,h2,h3⟩:=ih (k+1) (k+1,q.2++[(s.take k).drop q.1]) dq hlt (Nat.le_refl _);refine⟨fT,h1,h2,h3.trans ?_⟩;have e1:(s.take (k+1)).drop (k+1)=[]:=List.drop_eq_nil_of_le (by rw[List.length_take];omega)
   simp only[e1];rw[SI (pz c r)];subst MQ;have:bN x (x::r)=[]::bN x r:=by simp[bN]
   rw[this];simp[uo]
  |false=>
   have MQ:(x==c)=false:=by
    cases h:x==c with
    |false=>rfl
    |true=>rw[eq_of_beq h] at hc;simp at hc
   simp only[ak];obtain⟨fT,h1,h2,h3⟩:=ih (k+1) q dq hlt (by omega)
   refine⟨fT,h1,h2,h3.trans ?_⟩;have e1:(s.take (k+1)).drop q.1=(s.take k).drop q.1++[x]:=by
    rw[List.take_add_one,hx];rw[List.drop_append_of_le_length (by rw[List.length_take];omega)]
    rfl
   rw[e1];have:bN c (x::r)=uo [x] (bN c r):=by
    rw[bN,MQ,ak];cases h:bN c r with
    |nil=>rfl
    |cons y bm=>rfl
   rw[this];cases h:bN c r with
   |nil=>exact absurd h (pz c r)
   |cons y bm=>simp[uo]
theorem vT(c:UInt8)(a)(hs:cw a.1.1.length)(hb:a.1.2.1=(c.toNat:Int))(hm:a.1.2.2.1=((a.1.1.length+1:Nat):Int)):f73 a=some (((),()),(bN c a.1.1,())):=by
 obtain⟨⟨s,b,m,u⟩,b7⟩:=a;obtain rfl:b=(c.toNat:Int):=hb;obtain rfl:m=((s.length+1:Nat):Int):=hm;have hs:s.length<=2097152:=hs;have key:=my pL s (fun i (q:Nat×List B)=>((s,((c.toNat:Int),(((s.length+1:Nat):Int),((),((q.1:Int),((i:Int),())))))),(q.2,())))
  (fun i x (q:Nat×List B)=>some (.inl (bif(x.toNat:Int)==(c.toNat:Int) then(i+1,q.2++[(s.take i).drop q.1]) else q))) (fun q=>(((s,((),((q.1:Int),()))),(q.2,())):aG vV))
  (fun i q=>q.1<=i/\q.2.length<=i) (0,[]) ⟨Nat.le_refl _,Nat.le_refl _⟩ (fun i x q hx dG=>?_) (fun q dG=>?_)
 ·obtain⟨fT,h1,h2,h3⟩:=al6 c s (fun q=>(((s,((),((q.1:Int),()))),(q.2,())):aG vV)) s 0 (0,[]) rfl (Nat.zero_le _) (Nat.le_refl _)
  have key:wa ((s,((c.toNat:Int),(((s.length+1:Nat):Int),((),((0:Int),((0:Int),())))))),(([]:List B),()))=some ((s,((),((fT.1:Int),()))),(fT.2,())):=key.trans h1;simp only[f73,key,Y];rw[fO h2];have h3:fT.2++[s.drop fT.1]=bN c s:=by
   rw[h3];simp only[List.take_zero,List.drop_nil,List.nil_append];exact SI (pz c s)
  have hl:fT.2.length<=s.length+1:=by
   have:=congrArg List.length h3;have aF:=ot c s;simp only[dx,cW,List.length_nil] at this;omega
  simp only[Y];rw[dy (by decide) (by unfold aA;simp only[cW,List.length_nil];omega)]
  simp only[Y,h3]
 ·have hi:=da hx;have hw:aA i:=by unfold aA;omega
  obtain⟨h0,h1⟩:=dG;have hlt:decide ((q.2.length:Int)<((s.length+1:Nat):Int))=true:=ct (by omega)
  refine⟨?_,fun fT o8=>?_⟩
  ·simp only[pL,ct hi,ad,hlt,cd,hx,Y];cases hc:((x.toNat:Int)==(c.toNat:Int)) with
   |true=>
    simp only[ad];rw[qY h0 (by omega)]
    simp only[Y];rw[dy (by decide) (by unfold aA;simp only[cW,List.length_nil];omega)]
    simp only[Y,Option.map_some,b9 hw]
   |false=>simp only[ak,Option.map_some,b9 hw]
  ·simp only[bE,Sum.inl.injEq] at o8;subst o8;cases (x.toNat:Int)==(c.toNat:Int) with
   |true=>simp only[ad,dx,cW,List.length_nil];omega
   |false=>simp only[ak];omega
 ·simp only[pL,dL,ak]
noncomputable def Xs:aH:=GB
theorem aqW:aE O 271 Xs:=af2 (fn:=Tryz.f271) (by kernel_rfl) (by kernel_rfl) (by kernel_rfl) (by kernel_rfl) (by kernel_rfl)
noncomputable abbrev auS:a8:=[(271,Xs)]
theorem awe:aT O (aZ af auS):=aY ⟨aqW,⟨⟩⟩
abbrev i244:Shape:=⟨[am 0,(1,.aq (.d (.int .u8)))],[],8⟩
abbrev Yg:Shape:=⟨[aj 4],[],8⟩
noncomputable def f244(a:i244.J):Option Yg.J:=
(some ()).bind fun gp=>
 some (((Lib.indexByte a.1.1 (a.1.2.1).toNat.toUInt8),()),())
noncomputable def _A:aH:=aL af Tryz.f244 i244 Yg [] f244
theorem asw:aE O 244 _A:=aM awe Tryz.func244 (by kernel_rfl) ag (fun y=>by kernel_rfl) fun a=>by kernel_rfl
noncomputable abbrev au7:a8:=[(244,_A)]
theorem aaR:aT O (aZ af au7):=aY ⟨asw,⟨⟩⟩
abbrev Ty:Shape:=⟨[am 0,am 1,aj 5],[],143⟩
abbrev Tc:List aR:=[(.norm,⟨[am 0,am 1,aj 5,ar 16],[],143⟩)]
noncomputable def Bx(y:Ty.J):Option (aG Tc):=
 bif(!(y.1.2.2.1==(0:Int))) then
 some ((y.1.1,y.1.2.1,y.1.2.2.1,(y.1.2.1==y.1.1),()),())
else
 some ((y.1.1,y.1.2.1,y.1.2.2.1,true,()),())
theorem am1:aV O (ap (codeOf Tryz.f209) 1 56) (aX Ty Tc Bx):=cm aaR (by kernel_rfl) ag fun y=>by kernel_rfl
abbrev i209:Shape:=⟨[am 0,am 1],[],143⟩
abbrev YA:Shape:=⟨[aj 4],[],143⟩
noncomputable def f209(a:i209.J):Option YA.J:=
(Bx ((a.1.1,a.1.2.1,(a.1.2.1.length:Int),()),())).bind fun sz=>
 bif sz.1.2.2.2.1 then
 some (((0:Int),()),())
else
 bif(sz.1.2.2.1==(1:Int)) then
(aS sz.1.2.1 (0:Int)).bind fun N3=>
(f244 ((sz.1.1,(N3.toNat:Int),()),())).bind fun r8=>
 some ((r8.1.1,()),())
else
 bif(decide (sz.1.2.2.1>=(sz.1.1.length:Int))) then
 some ((((-1):Int),()),())
else
 none
noncomputable def LX:aH:=aL af Tryz.f209 i209 YA [] f209
theorem XG:aE O 209 LX:=aM aaR Tryz.func209 (by kernel_rfl) (a7 am1 ag) (fun y=>by kernel_rfl) fun a=>by kernel_rfl
noncomputable abbrev au5:a8:=[(209,LX)]
theorem awn:aT O (aZ af au5):=aY ⟨XG,⟨⟩⟩
abbrev i212:Shape:=⟨[am 0,am 1],[],8⟩
abbrev Yy:Shape:=⟨[aj 4],[],8⟩
noncomputable def f212(a:i212.J):Option Yy.J:=
(f209 ((a.1.1,a.1.2.1,()),())).bind fun b=>
 some ((b.1.1,()),())
noncomputable def DR:aH:=aL af Tryz.f212 i212 Yy [] f212
theorem z212:aE O 212 DR:=aM awn Tryz.func212 (by kernel_rfl) ag (fun y=>by kernel_rfl) fun a=>by kernel_rfl
noncomputable abbrev LL:Ctx:=aZ af [(212,DR)]
noncomputable def DN:Code:=codeOf Tryz.f266
noncomputable def oU:Code:=di (ap DN 1 12)
noncomputable def C9(p j:Nat):Oper:=(opsOf (ap oU 24 p)).getD j default
noncomputable def KK(j:Nat):Oper:=(opsOf (ap DN 1 7)).getD j default
theorem apQ(c:UInt8)(r:B):f212 ((r,([c],())),())=some ((Lib.indexByte r c,()),()):=by
 have h0:aS ([c]:B) (0:Int)=some c:=rfl;have h1:((([c]:B).length:Int)==0)=false:=rfl;have h2:((([c]:B).length:Int)==1)=true:=rfl;have h3:((c.toNat:Int)).toNat.toUInt8=c:=by simp
 simp only[f212,f209,Bx,f244,h0,h1,h2,h3,bJ,ad,ak,Y,Option.bind];by_cases h:(([c]:B)==r)=true
 ·have:r=[c]:=(by simpa using h:[c]=r).symm
  subst this;simp[Lib.indexByte]<;>rfl
 ·simp[h]<;>rfl
theorem arU(c:UInt8)(r:B):exec (hJ LL []) (ap oU 24 96) 96 (nY 52 c r) (DE (hJ LL []) 52 7 8 (ap oU 24 194) (ap oU 24 390) 194 390)=
 (f212 ((r,([c],())),())).bind fun q=>bif decide (q.1.1<0) then some (.inl (ly 52 c r)) else(bq r 0 (IntKind.i64.wrap (q.1.1+0))).bind fun x=>some (.inr ((q.1.1,x),ly 52 c r)):=by kernel_rfl
theorem W':wQ O 266:=
 anY (C:=hJ LL []) (aY ⟨z212,⟨⟩⟩) (fn:=Tryz.f266) (k:=52) (A:=ap DN 1 2) (r5:=ap oU 24 96) (c6:=ap oU 24 194) (r7:=ap oU 24 390) (r9:=ap oU 24 783)
  (o0:=C9 1564 0) (o1:=C9 1564 1) (o2:=C9 1564 2) (o3:=C9 1564 3) (q0:=KK 0) (q1:=KK 1) (q2:=KK 2) (pA:=2) (p5:=96) (p6:=194) (p7:=390) (p9:=783) (t7:=7) (t8:=8) (a1:=39) (a2:=40)
  (t41:=41) (t42:=42) (u1:=49) (u2:=50) (ty:=#[9]) (Ee:=#[9])
  {ZS:=(by kernel_rfl),nt:=(by kernel_rfl),cY:=(by decide),fH:=(by kernel_rfl),ade:=enters_of Tryz.func266 (by kernel_rfl) rfl,body:=⟨tQ (ap oU 24 1564),tQ (ap DN 1 7),(by kernel_rfl)⟩,yz:=(by kernel_rfl),wr:=(by kernel_rfl),
   aY:=⟨(by kernel_rfl),(by kernel_rfl),(by kernel_rfl),(by kernel_rfl),(by kernel_rfl),(by kernel_rfl),(by kernel_rfl)⟩,aed:=(by kernel_rfl),aec:=(by kernel_rfl),d2:=(by kernel_rfl),Lj:=(by decide),c2:=(by kernel_rfl),d5:=(by kernel_rfl),
   k9:=⟨lK (by kernel_rfl) ag,lK (by kernel_rfl) ag,lK (by kernel_rfl) ag,lK (by kernel_rfl) ag,lK (by kernel_rfl) ag⟩,
   en:=fun c r=>(by kernel_rfl),hB:=fun c r=>(arU c r).trans (by rw[apQ];rfl),bn:=fun c r i x v=>(by kernel_rfl),h3:=fun c r b=>(by kernel_rfl),ac9:=(by kernel_rfl),yF:=fun c r i=>(by kernel_rfl),E5:=fun c r v=>(by kernel_rfl)}
  (by kernel_rfl) (by decide)
noncomputable abbrev avA:a8:=[(115,DU)]
theorem Mk:aT O (aZ af avA):=aY ⟨K1,⟨⟩⟩
abbrev QZ:Shape:=⟨[ax 2 2 0,ax 3 3 0,ax 4 4 0,aj 6,ar 7],[bv 5000128 .i64 2 0,aw 2 [.own 5000128],aw 3 [mm],bv 5000256 .i64 4 0,aw 4 [.own 5000256]],28⟩
abbrev QG:List aR:=[(.norm,⟨[ax 2 2 0,ax 3 3 0,ax 4 4 0,aj 6,ar 22],[bv 5000128 .i64 2 0,aw 2 [.own 5000128],aw 3 [mm],bv 5000256 .i64 4 0,aw 4 [.own 5000256]],28⟩)]
noncomputable def GG(y:QZ.J):Option (aG QG):=
 bif(!(!y.1.2.2.2.2.1)) then
 some (((),(),(),y.1.2.2.2.1,((y.2.2.2.2.1.length:Int)==(4:Int)),()),y.2.1,((),()),(y.2.2.2.1.1,()),y.2.2.2.2.1,((),()),())
else
 some (((),(),(),y.1.2.2.2.1,true,()),y.2.1,((),()),(y.2.2.2.1.1,()),y.2.2.2.2.1,((),()),())
theorem ajd:aV O (ap (ky (ap (codeOf Tryz.f151) 1 58)) 117 1876) (aX QZ QG GG):=cm Mk (by kernel_rfl) ag fun y=>by kernel_rfl
abbrev A4:Shape:=⟨[ax 2 2 0,ax 3 3 0,ax 4 4 0],[bv 5000128 .i64 2 0,aw 2 [.own 5000128],aw 3 [mm],bv 5000256 .i64 4 0,aw 4 [.own 5000256]],28⟩
abbrev Io:List aR:=[(.norm,⟨[ax 2 2 0,ax 3 3 0,ax 4 4 0],[bv 5000128 .i64 2 0,aw 2 [.own 5000128],aw 3 [mm],bv 5000256 .i64 4 0,aw 4 [.own 5000256]],28⟩),(.ret,⟨[ax 2 2 0,ax 3 3 0],[bv 5000128 .i64 2 0,aw 2 [.own 5000128],aw 3 [mm]],28⟩)]
noncomputable def tl(x:B)(y:A4.J):bP A4 Io:=
(f115 ((x,(999:Int),()),())).bind fun a=>
(GG (((),(),(),a.1.1,a.1.2.1,()),y.2.1,((),()),(y.2.2.2.1.1,()),y.2.2.2.2.1,((),()),())).bind fun b=>
 bif b.1.2.2.2.2.1 then
 some (.inr (.inr (((),(),()),([]:List Int),((),()),(false,()),())))
else
(cl 8 b.2.2.2.2.1 ([b.1.2.2.2.1]:List Int)).bind fun c=>
 some (.inl (((),(),(),()),b.2.1,((),()),(b.2.2.2.1.1,()),c,((),()),()))
noncomputable def wh(y:A4.J):Option (aG Io):=
 some (.inl (((),(),(),()),y.2.1,((),()),(y.2.2.2.1.1,()),y.2.2.2.2.1,((),()),()))
theorem ano:aV O (ap (codeOf Tryz.f151) 1 58) (s5 266 9 A4 Io tl wh):=Ps (fg:=10) Mk W' (by kernel_rfl) (a7 ajd ag) (by kernel_rfl) (fun x y=>by kernel_rfl) fun y=>by kernel_rfl
abbrev i151:Shape:=⟨[am 0],[],28⟩
abbrev Zb:Shape:=⟨[ax 2 2 0,ax 3 3 0],[bv 5000128 .i64 2 0,aw 2 [.own 5000128],aw 3 [mm]],28⟩
noncomputable def f151(a:i151.J):Option Zb.J:=
(bif Nat.ble a.1.1.length k2 then iZ tl wh (bN (46:UInt8) a.1.1) (((),(),(),()),([]:List Int),((),()),(false,()),([]:List Int),((),()),()) else none).bind fun b=>
(match b with
|.inl c=>
 some (((),(),()),c.2.2.2.2.1,((),()),(true,()),())
|.inr d=>
 some (((),(),()),d.2.1,((),()),(d.2.2.2.1.1,()),()))
noncomputable def L6:aH:=aL af Tryz.f151 i151 Zb [] f151
theorem XK:aE O 151 L6:=aM Mk Tryz.func151 (by kernel_rfl) (a7 ano ag) (fun y=>by kernel_rfl) fun a=>by kernel_rfl
noncomputable abbrev av7:a8:=[(151,L6)]
theorem awJ:aT O (aZ af av7):=aY ⟨XK,⟨⟩⟩
abbrev i100:Shape:=⟨[am 0],[],11⟩
abbrev ZM:Shape:=⟨[ar 2],[],11⟩
noncomputable def f100(a:i100.J):Option ZM.J:=
(f151 ((a.1.1,()),())).bind fun b=>
 some ((b.2.2.2.1.1,()),())
noncomputable def DV:aH:=aL af Tryz.f100 i100 ZM [] f100
theorem K2:aE O 100 DV:=aM awJ Tryz.func100 (by kernel_rfl) ag (fun y=>by kernel_rfl) fun a=>by kernel_rfl
noncomputable abbrev av6:a8:=[(99,NG),(100,DV)]
theorem abe:aT O (aZ af av6):=aY ⟨abi,K2,⟨⟩⟩
abbrev Sp:Shape:=⟨[ax 1 1 0,aj 8],[aw 1 [ah,ba,ah]],21⟩
abbrev R8:List aR:=[(.norm,⟨[ax 1 1 0,ar 14],[aw 1 [ah,ba,ah]],21⟩)]
noncomputable def HL(y:Sp.J):Option (aG R8):=
 bif(y.1.2.1==(1:Int)) then
 some (((),(y.1.2.1==(1:Int)),()),(y.2.1.1,y.2.1.2.1,y.2.1.2.2.1,()),())
else
 bif(y.1.2.1==(2:Int)) then
 some (((),(y.1.2.1==(2:Int)),()),(y.2.1.1,y.2.1.2.1,y.2.1.2.2.1,()),())
else
 some (((),(y.1.2.1==(3:Int)),()),(y.2.1.1,y.2.1.2.1,y.2.1.2.2.1,()),())
theorem alo:aV O (ap (codeOf Tryz.f102) 1 470) (aX Sp R8 HL):=cm abe (by kernel_rfl) ag fun y=>by kernel_rfl
abbrev i102:Shape:=⟨[ck 0 [ah,ba,ah]],[],21⟩
abbrev ZL:Shape:=⟨[ar 2],[],21⟩
noncomputable def f102(a:i102.J):Option ZL.J:=
(f99 ((a.1.1.1,()),())).bind fun b=>
 bif(!b.1.1) then
 some ((false,()),())
else
 bif(a.1.1.2.1==(0:Int)) then
 some (((a.1.1.2.2.1==([]:B)),()),())
else
(HL (((),a.1.1.2.1,()),(a.1.1.1,a.1.1.2.1,a.1.1.2.2.1,()),())).bind fun c=>
 bif c.1.2.1 then
(f100 ((c.2.1.2.2.1,()),())).bind fun d=>
 some ((d.1.1,()),())
else
 some ((false,()),())
noncomputable def xA:aH:=aL af Tryz.f102 i102 ZL [] f102
theorem Dv:aE O 102 xA:=aM abe Tryz.func102 (by kernel_rfl) (a7 alo ag) (fun y=>by kernel_rfl) fun a=>by kernel_rfl
noncomputable abbrev avH:a8:=[(73,pi),(74,yk),(75,ph)]
theorem aa2:aT O (aZ af avH):=aY ⟨ql,D7,z75,⟨⟩⟩
abbrev z_:Shape:=⟨[bd 4 3000256,bd 5 3000320,aj 6],[bc 3000256 .str 4 0,bc 3000320 .i64 5 0],37⟩
abbrev qX:List aR:=[(.ret,⟨[bd 2 3000128,ar 3],[bc 3000128 .i64 2 0],37⟩),(.exit 0,⟨[bd 4 3000256,bd 5 3000320],[bc 3000256 .str 4 0,bc 3000320 .i64 5 0],37⟩)]
noncomputable def Av(y:z_.J):bP z_ qX:=
 bif(decide (y.1.2.2.1<(y.2.1.length:Int))) then
(bh y.2.1.length y.1.2.2.1).bind fun a=>
(y.2.1[a]?).bind fun b=>
(f74 ((b,()),())).bind fun c=>
(f75 ((c.1.1,(0:Int),(999:Int),()),())).bind fun d=>
 bif(!d.1.1) then
 some (.inr (.inl (((),false,()),y.2.2.1,())))
else
(cl 8 y.2.2.1 ([c.1.1]:List Int)).bind fun e=>
 some (.inl (((),(),(IntKind.i64.wrap (y.1.2.2.1+(1:Int))),()),y.2.1,e,()))
else
 some (.inr (.inr (((),(),()),y.2.1,y.2.2.1,())))
noncomputable def Hu:z_.J->Option (aG qX):=bA Av
theorem alg:aV O (ap (codeOf Tryz.f140) 1 122) (aX z_ qX Hu):=bR aa2 (by kernel_rfl) ag fun y=>by kernel_rfl
abbrev i140:Shape:=⟨[am 0],[],37⟩
abbrev Zl:Shape:=⟨[bd 2 3000128,ar 3],[bc 3000128 .i64 2 0],37⟩
noncomputable def f140(a:i140.J):Option Zl.J:=
(f73 ((a.1.1,(46:Int),(IntKind.i64.wrap ((a.1.1.length:Int)+(1:Int))),()),())).bind fun b=>
(Hu (((),(),(0:Int),()),b.2.1,([]:List Int),())).bind fun c=>
(match c with
|.inl d=>
 some (((),d.1.2.1,()),d.2.1,())
|.inr e=>
 some (((),(decide ((e.2.1.length:Int)<=(4:Int))),()),e.2.2.1,()))
noncomputable def L_:aH:=aL af Tryz.f140 i140 Zl [] f140
theorem XM:aE O 140 L_:=aM aa2 Tryz.func140 (by kernel_rfl) (a7 alg ag) (fun y=>by kernel_rfl) fun a=>by kernel_rfl
noncomputable abbrev az4:a8:=[(140,L_)]
theorem aAP:aT O (aZ af az4):=aY ⟨XM,⟨⟩⟩
abbrev i88:Shape:=⟨[am 0],[],11⟩
abbrev abG:Shape:=⟨[ar 2],[],11⟩
noncomputable def f88(a:i88.J):Option abG.J:=
(f140 ((a.1.1,()),())).bind fun b=>
 some ((b.1.2.1,()),())
noncomputable def NH:aH:=aL af Tryz.f88 i88 abG [] f88
theorem abj:aE O 88 NH:=aM aAP Tryz.func88 (by kernel_rfl) ag (fun y=>by kernel_rfl) fun a=>by kernel_rfl
noncomputable abbrev ave:a8:=[(75,ph),(87,NI),(88,NH)]
theorem awq:aT O (aZ af ave):=aY ⟨z75,z87,abj,⟨⟩⟩
abbrev i192:Shape:=⟨[ck 0 [ah,ba,ah]],[],26⟩
abbrev YK:Shape:=⟨[ar 2],[],26⟩
noncomputable def f192(a:i192.J):Option YK.J:=
(f87 ((a.1.1.1,()),())).bind fun b=>
 bif b.1.1 then
 bif(a.1.1.2.1==(0:Int)) then
 bif(!(a.1.1.2.2.1==([]:B))) then
(f75 ((a.1.1.2.1,(1:Int),(3:Int),()),())).bind fun c=>
 bif c.1.1 then
(f88 ((a.1.1.2.2.1,()),())).bind fun d=>
 some ((d.1.1,()),())
else
 some ((false,()),())
else
 some ((true,()),())
else
(f75 ((a.1.1.2.1,(1:Int),(3:Int),()),())).bind fun e=>
 bif e.1.1 then
(f88 ((a.1.1.2.2.1,()),())).bind fun f=>
 some ((f.1.1,()),())
else
 some ((false,()),())
else
 some ((false,()),())
noncomputable def L1:aH:=aL af Tryz.f192 i192 YK [] f192
theorem XI:aE O 192 L1:=aM awq Tryz.func192 (by kernel_rfl) ag (fun y=>by kernel_rfl) fun a=>by kernel_rfl
theorem PJ:∀(r:B) (n:Int),r.all c7=true->0<=n->0<=r.foldl eA n:=by
 intro r;induction r with
 |nil=>intro n _ h;exact h
 |cons b r ih=>
  intro n aa h;simp only[List.all_cons,bC] at aa;have hb:=jf aa.1;exact ih _ aa.2 (by unfold eA;omega)
def iE(s:B):List B:=bN 46 s
def eD(s:B):Bool:=(iE s).all fS&&decide ((iE s).length<=4)
def ig(s:B):List Int:=(iE s).map du
theorem agI(x:B):within (bif x.all c7&&decide (x.length<=6)&&!(x==[])&&!iF x then du x else-1) 0 999=fS x:=by
 unfold fS within;cases h1:x.all c7 with
 |false=>simp
 |true=>
  have:=PJ x 0 h1 (Int.le_refl _);have hv:decide ((0:Int)<=du x)=true:=by simp only[dY];exact this
  cases h2:decide (x.length<=6)<;>cases h3:(x==[])<;>cases aF:iF x<;>simp[hv]
theorem F1(a)(hs:cw a.1.1.length):∃out,f140 a=some (((),(eD a.1.1,())),(out,()))/\(eD a.1.1=true->out=ig a.1.1):=by
 obtain⟨⟨s,u⟩,b7⟩:=a;have hs:s.length<=2097152:=hs;have hlen:=ot 46 s;have gl:f73 ((s,((46:Int),((IntKind.i64.wrap ((s.length:Int)+(1:Int))),()))),())=some (((),()),(iE s,())):=
  vT 46 _ hs rfl (b9 (by unfold aA;omega))
 have key:=my Av (iE s) (fun i (out:List Int)=>(((),((),((i:Int),()))),(iE s,(out,()))))
  (fun i x out=>some (bif fS x then .inl (out++[du x]) else .inr ((.inl (((),(false,())),(out,()))):aG qX))) (fun out=>((.inr (((),((),())),(iE s,(out,())))):aG qX))
  (fun i out=>out.length<=i) [] (Nat.le_refl _) (fun i x out hx dG=>?_) (fun out _=>?_)
 ·have fold:∀(r:List B) (k:Nat) (out:List Int),fc (fun i x out=>some (bif fS x then .inl (out++[du x]) else .inr ((.inl (((),(false,())),(out,()))):aG qX))) (fun out=>((.inr (((),((),())),(iE s,(out,())))):aG qX)) k r out=
    some (bif r.all fS then(.inr (((),((),())),(iE s,(out++r.map du,())))) else(.inl (((),(false,())),(out++(r.takeWhile fS).map du,())))):=by
   intro r;induction r with
   |nil=>intro k out;simp[fc]
   |cons x r ih=>
    intro k out;simp only[fc,List.all_cons];cases hn:fS x with
    |false=>simp[hn]
    |true=>simp only[ad,Bool.true_and];rw[ih];simp[hn,List.append_assoc]
  have key:Hu (((),((),((0:Int),()))),(iE s,(([]:List Int),())))=_:=key.trans (fold (iE s) 0 []);simp only[f140,gl,Y,key,List.nil_append];unfold eD;cases nR:(iE s).all fS with
  |false=>exact⟨_,rfl,fun h=>by cases h⟩
  |true=>
   simp only[ad,Bool.true_and];have:decide (((iE s).length:Int)<=4)=decide ((iE s).length<=4):=by by_cases h:(iE s).length<=4<;>simp[h]<;>omega
   rw[this];exact⟨_,rfl,fun _=>rfl⟩
 ·have hi:=da hx;have w0:(iE s).length<=s.length+1:=hlen;have hw:aA i:=by unfold aA;omega
  have hxl:x.length<=s.length:=qN 46 s x (eJ hx);refine⟨?_,fun aQ an=>?_⟩
  ·simp only[Av,ct hi,ad,fQ hi,hx,Y];rw[HX _ (show aA x.length by unfold aA;omega)]
   simp only[Y,oI,agI];cases hn:fS x with
   |false=>rfl
   |true=>
    have hv:(bif x.all c7&&decide (x.length<=6)&&!(x==[])&&!iF x then du x else-1)=du x:=by
     unfold fS at hn;simp only[bC] at hn;obtain⟨⟨⟨⟨h1,h2⟩,h3⟩,aF⟩,bo⟩:=hn;rw[h1,aF,h2,h3];rfl
    simp only[bu,ak,hv,ad];rw[dy (by decide) (by unfold aA;simp only[cW,List.length_nil];omega)]
    simp only[Y,b9 hw,Option.map_some]
  ·simp only[bE] at an;cases hn:fS x with
   |false=>rw[hn] at an;cases an
   |true=>
    rw[hn] at an;simp only[ad,Sum.inl.injEq] at an;subst an;simp only[dx,cW,List.length_nil];omega
 ·simp only[Av,dL,ak]
theorem Pc(a)(hs:cw a.1.1.length):f88 a=some ((eD a.1.1,()),()):=by
 obtain⟨out,h,_⟩:=F1 ((a.1.1,()),()) hs;simp only[f88,h,Y]
theorem Fk(a)(hs:cw a.1.1.length):f151 a=some (((),((),())),((bif eD a.1.1 then ig a.1.1 else []),(((),()),((eD a.1.1,()),())))):=by
 obtain⟨⟨s,u⟩,b7⟩:=a;have hs:s.length<=2097152:=hs;have LD:Nat.ble s.length k2=true:=Nat.ble_eq_true_of_le (by unfold k2;omega)
 have fold:∀(r:List B) (out:List Int),(∀x,x∈r->x.length<=s.length)->out.length<=4->
   iZ tl wh r (((),((),((),()))),(([]:List Int),(((),()),((false,()),(out,(((),()),()))))))=
    some (bif r.all fS&&decide (out.length+r.length<=4) then(.inl (((),((),((),()))),(([]:List Int),(((),()),((false,()),(out++r.map du,(((),()),()))))))) else(.inr (((),((),())),(([]:List Int),(((),()),((false,()),())))))):=by
  intro r;induction r with
  |nil=>
   intro out _ aP;have:decide (out.length+0<=4)=true:=by simpa using aP
   simp only[iZ,wh,List.all_nil,List.length_nil,this,Bool.and_self,ad,List.map_nil,List.append_nil]
  |cons x r ih=>
   intro out hr aP;have hx:=hr x ci;have at0:=aj8 ((x,((999:Int),())),()) (show aA x.length by unfold aA;omega) rfl
   have step:tl x (((),((),((),()))),(([]:List Int),(((),()),((false,()),(out,(((),()),()))))))=
     some (bif fS x&&decide (out.length+1<=4) then .inl (((),((),((),()))),(([]:List Int),(((),()),((false,()),(out++[du x],(((),()),())))))) else .inr (.inr (((),((),())),(([]:List Int),(((),()),((false,()),())))))):=by
    simp only[tl,at0,Y,GG,Bool.not_not];have aF:((out.length:Int)==4)=!decide (out.length+1<=4):=by
     by_cases h:out.length=4
     ·rw[h];rfl
     ·have bo:decide (out.length+1<=4)=true:=by simp only[dY];omega
      rw[bo];simp only[beq_eq_false_iff_ne,ne_eq,bu];omega
    rw[aF];cases hn:fS x with
    |false=>rfl
    |true=>
     simp only[ad,Y,Bool.true_and];cases aC:decide (out.length+1<=4) with
     |false=>rfl
     |true=>
      simp only[bu,ak,ad];rw[dy (by decide) (by unfold aA;simp only[cW,List.length_nil];omega)]
      rfl
   rw[iZ,step,List.all_cons];cases hn:fS x with
   |false=>rfl
   |true=>
    simp only[Bool.true_and];cases aC:decide (out.length+1<=4) with
    |false=>
     have:decide (out.length+(x::r).length<=4)=false:=by simp only[decide_eq_false_iff_not,cW] at aC ⊢;omega
     rw[this];simp
    |true=>
     simp only[ad];rw[ih (out++[du x]) (fun y hy=>hr y (cf _ hy)) (by simp only[dx,cW,List.length_nil];simpa using aC)]
     have e1:(out++[du x]).length+r.length=out.length+(x::r).length:=by simp only[dx,cW,List.length_nil];omega
     rw[e1,List.map_cons,List.append_assoc];rfl
 have key:=fold (bN (46:UInt8) s) [] (fun x hx=>qN 46 s x hx) (Nat.zero_le _)
 have Ln:iZ tl wh (bN (46:UInt8) s) (((),((),((),()))),(([]:List Int),(((),()),((false,()),(([]:List Int),(((),()),()))))))=
    some (bif eD s then(.inl (((),((),((),()))),(([]:List Int),(((),()),((false,()),(ig s,(((),()),()))))))) else(.inr (((),((),())),(([]:List Int),(((),()),((false,()),())))))):=by
  rw[key];unfold eD ig iE;simp only[List.length_nil,Nat.zero_add,List.nil_append]
 simp only[f151,LD,ad,Ln,Y];cases eD s<;>rfl
theorem Fp(a)(hs:cw a.1.1.length):f100 a=some ((eD a.1.1,()),()):=by
 simp only[f100,Fk ((a.1.1,()),()) hs,Y]
def dR(n:bF):Bool:=iV n.name&&(n.kind==0&&(n.a6==[])||within n.kind 1 3&&eD n.a6)
abbrev yu(n:bF):Prop:=cw n.name.length/\cw n.a6.length
theorem RM(a)(h1:cw a.1.1.1.length)(h2:cw a.1.1.2.2.1.length):f192 a=some ((dR ⟨a.1.1.1,a.1.1.2.1,a.1.1.2.2.1⟩,()),()):=by
 obtain⟨⟨⟨n,k,v,u⟩,b7⟩,nV⟩:=a;have h1:n.length<=2097152:=h1;have h2:v.length<=2097152:=h2;have e1:=RH ((n,()),()) (show aA n.length by unfold aA;omega)
 have e2:=Pc ((v,()),()) h2;simp only[f192,e1,e2,oI,Y,dR];cases iV n with
 |false=>rfl
 |true=>
  cases hk:(k==0) with
  |false=>
   simp only[ad,ak];cases within k 1 3<;>cases eD v<;>rfl
  |true=>
   have:within k 1 3=false:=by
    have:k=0:=by simpa using hk
    subst this;decide
   rw[this];cases (v==[])<;>rfl
theorem aid{k:Int}(mj:¬k=0)(aI:¬k=1)(aJ:¬k=2)(bS:¬k=3):within k 1 3=false:=by
 unfold within;cases h:(decide (1<=k)&&decide (k<=3)) with
 |false=>rfl
 |true=>simp only[bC,dY] at h;omega
theorem zi(a)(h1:cw a.1.1.1.length)(h2:cw a.1.1.2.2.1.length):f102 a=some ((dR ⟨a.1.1.1,a.1.1.2.1,a.1.1.2.2.1⟩,()),()):=by
 obtain⟨⟨⟨n,k,v,u⟩,b7⟩,nV⟩:=a;have h1:n.length<=2097152:=h1;have h2:v.length<=2097152:=h2;have e1:=OY ((n,()),()) (show aA n.length by unfold aA;omega)
 have e2:=Fp ((v,()),()) h2;simp only[f102,e1,e2,Y,dR,HL];cases iV n with
 |false=>rfl
 |true=>
  simp only[bu,ak,Bool.true_and];by_cases mj:k=0
  ·subst mj;cases (v==[])<;>rfl
  ·have qv:(k==0)=false:=by simpa using mj
   rw[qv];by_cases aI:k=1
   ·subst aI;cases hv:eD v<;>simp[within,e2,hv]
   ·have sa:(k==1)=false:=by simpa using aI
    rw[sa];by_cases aJ:k=2
    ·subst aJ;cases hv:eD v<;>simp[within,e2,hv]
    ·have hk2:(k==2)=false:=by simpa using aJ
     rw[hk2];by_cases bS:k=3
     ·subst bS;cases hv:eD v<;>simp[within,e2,hv]
     ·have ayD:(k==3)=false:=by simpa using bS
      rw[ayD];rw[aid mj aI aJ bS];rfl
noncomputable abbrev aqD:a8:=[(102,xA)]
theorem WJ:aT O (aZ af aqD):=aY ⟨Dv,⟨⟩⟩
abbrev zz:Shape:=⟨[(1,.aq (.fn 102 [])),aO 7 .need,aj 8,aj 9],[],18⟩
abbrev Gc:List aR:=[(.ret,⟨[ar 4],[],18⟩),(.exit 0,⟨[],[],18⟩)]
noncomputable def zM(y:zz.J):bP zz Gc:=
 bif(decide (y.1.2.2.2.1<y.1.2.2.1)) then
(aS y.1.2.1 y.1.2.2.2.1).bind fun a=>
(f102 (((a.name,a.kind,a.a6,()),()),())).bind fun b=>
 bif(!b.1.1) then
 some (.inr (.inl ((false,()),())))
else
 some (.inl (((),y.1.2.1,y.1.2.2.1,(IntKind.i64.wrap (y.1.2.2.2.1+(1:Int))),()),()))
else
 some (.inr (.inr ((),())))
noncomputable def Gy:zz.J->Option (aG Gc):=bA zM
theorem ajp:aV O (ap (codeOf Tryz.f101) 1 26) (aX zz Gc Gy):=bR WJ (by kernel_rfl) ag fun y=>by kernel_rfl
abbrev V':Shape:=⟨[aO 0 .need,(1,.aq (.fn 102 []))],[],18⟩
abbrev VG:Shape:=⟨[ar 4],[],18⟩
noncomputable def CW(a:V'.J):Option VG.J:=
(Gy (((),a.1.1,(a.1.1.length:Int),(0:Int),()),())).bind fun b=>
(match b with
|.inl c=>
 some ((c.1.1,()),())
|.inr d=>
 some ((true,()),()))
noncomputable def WE:aH:=aL af Tryz.f101 V' VG [] CW
theorem aoQ:aE O 101 WE:=aM WJ Tryz.func101 (by kernel_rfl) (a7 ajp ag) (fun y=>by kernel_rfl) fun a=>by kernel_rfl
abbrev i104:Shape:=⟨[ck 0 [ah,ba,ah]],[],5⟩
abbrev ZK:Shape:=⟨[am 2],[],5⟩
noncomputable def f104(a:i104.J):Option ZK.J:=
 some ((a.1.1.1,()),())
noncomputable def aaM:aH:=aL af Tryz.f104 i104 ZK [] f104
theorem ati:aE O 104 aaM:=aM g0 Tryz.func104 (by kernel_rfl) ag (fun y=>by kernel_rfl) fun a=>by kernel_rfl
abbrev i149:Shape:=⟨[aO 0 .str],[],8⟩
abbrev Lg:Shape:=⟨[bd 2 3000128],[bc 3000128 .str 2 0],8⟩
noncomputable def f149(a:i149.J):Option Lg.J:=
 qU (t:=.str) a.1.1 (some (((),()),([]:List B),())) ((cl 16 ([]:List B) a.1.1).bind fun b=>
 some (((),()),b,()))
noncomputable def aam:aH:=aL af Tryz.f149 i149 Lg [] f149
theorem as4:aE O 149 aam:=aM g0 Tryz.func149 (by kernel_rfl) ag (fun y=>by kernel_rfl) fun a=>by kernel_rfl
abbrev AS:Shape:=⟨[aO 0 .str,am 1,aj 7,aj 8],[],19⟩
abbrev s':List aR:=[(.ret,⟨[aj 4],[],19⟩),(.exit 0,⟨[],[],19⟩)]
noncomputable def By(y:AS.J):bP AS s':=
 bif(decide (y.1.2.2.2.1<y.1.2.2.1)) then
(aS y.1.1 y.1.2.2.2.1).bind fun a=>
 bif(y.1.2.1==a) then
 some (.inr (.inl ((y.1.2.2.2.1,()),())))
else
 some (.inl ((y.1.1,y.1.2.1,y.1.2.2.1,(IntKind.i64.wrap (y.1.2.2.2.1+(1:Int))),()),()))
else
 some (.inr (.inr ((),())))
noncomputable def IY:AS.J->Option (aG s'):=bA By
theorem am4:aV O (ap (codeOf Tryz.f197) 1 26) (aX AS s' IY):=bR g0 (by kernel_rfl) ag fun y=>by kernel_rfl
abbrev i197:Shape:=⟨[aO 0 .str,am 1],[],19⟩
abbrev Le:Shape:=⟨[aj 4],[],19⟩
noncomputable def f197(a:i197.J):Option Le.J:=
(IY ((a.1.1,a.1.2.1,(a.1.1.length:Int),(0:Int),()),())).bind fun b=>
(match b with
|.inl c=>
 some ((c.1.1,()),())
|.inr d=>
 some ((((-1):Int),()),()))
noncomputable def _T:aH:=aL af Tryz.f197 i197 Le [] f197
theorem asJ:aE O 197 _T:=aM g0 Tryz.func197 (by kernel_rfl) (a7 am4 ag) (fun y=>by kernel_rfl) fun a=>by kernel_rfl
noncomputable abbrev avB:a8:=[(197,_T)]
theorem awz:aT O (aZ af avB):=aY ⟨asJ,⟨⟩⟩
abbrev i150:Shape:=⟨[aO 0 .str,am 1],[],9⟩
abbrev Zc:Shape:=⟨[ar 4],[],9⟩
noncomputable def f150(a:i150.J):Option Zc.J:=
(f197 ((a.1.1,a.1.2.1,()),())).bind fun b=>
 some (((decide (b.1.1>=(0:Int))),()),())
noncomputable def aal:aH:=aL af Tryz.f150 i150 Zc [] f150
theorem as3:aE O 150 aal:=aM awz Tryz.func150 (by kernel_rfl) ag (fun y=>by kernel_rfl) fun a=>by kernel_rfl
noncomputable abbrev aqC:a8:=[(104,aaM),(149,aam),(150,aal)]
theorem WI:aT O (aZ af aqC):=aY ⟨ati,as4,as3,⟨⟩⟩
abbrev zy:Shape:=⟨[(1,.aq (.fn 104 [])),bd 7 3000448,aO 12 .need,aj 13,aj 14],[bc 3000448 .str 7 0],30⟩
abbrev sV:List aR:=[(.ret,⟨[ar 6],[],30⟩),(.exit 0,⟨[],[],30⟩)]
noncomputable def zL(y:zy.J):bP zy sV:=
 bif(decide (y.1.2.2.2.2.1<y.1.2.2.2.1)) then
(aS y.1.2.2.1 y.1.2.2.2.2.1).bind fun a=>
(f104 (((a.name,a.kind,a.a6,()),()),())).bind fun b=>
(f150 ((y.2.1,b.1.1,()),())).bind fun c=>
 bif c.1.1 then
 some (.inr (.inl ((true,()),())))
else
(f104 (((a.name,a.kind,a.a6,()),()),())).bind fun d=>
(cl 16 y.2.1 ([d.1.1]:List B)).bind fun e=>
 some (.inl (((),(),y.1.2.2.1,y.1.2.2.2.1,(IntKind.i64.wrap (y.1.2.2.2.2.1+(1:Int))),()),e,()))
else
 some (.inr (.inr ((),())))
noncomputable def Gx:zy.J->Option (aG sV):=bA zL
theorem ajo:aV O (ap (codeOf Tryz.f103) 1 58) (aX zy sV Gx):=bR WI (by kernel_rfl) ag fun y=>by kernel_rfl
abbrev V_:Shape:=⟨[aO 0 .need,(1,.aq (.fn 104 [])),aO 2 .str],[],30⟩
abbrev VF:Shape:=⟨[ar 6],[],30⟩
noncomputable def CV(a:V_.J):Option VF.J:=
(f149 ((a.1.2.2.1,()),())).bind fun b=>
(Gx (((),(),a.1.1,(a.1.1.length:Int),(0:Int),()),b.2.1,())).bind fun c=>
(match c with
|.inl d=>
 some ((d.1.1,()),())
|.inr e=>
 some ((false,()),()))
noncomputable def WD:aH:=aL af Tryz.f103 V_ VF [] CV
theorem aoP:aE O 103 WD:=aM WI Tryz.func103 (by kernel_rfl) (a7 ajo ag) (fun y=>by kernel_rfl) fun a=>by kernel_rfl
noncomputable abbrev avG:a8:=[(192,L1)]
theorem aa1:aT O (aZ af avG):=aY ⟨XI,⟨⟩⟩
abbrev A8:Shape:=⟨[aO 0 .need,aj 3],[],19⟩
abbrev Is:List aR:=[(.ret,⟨[ar 2],[],19⟩),(.exit 0,⟨[aO 0 .need],[],19⟩)]
noncomputable def BM(y:A8.J):bP A8 Is:=
 bif(decide (y.1.2.1<(y.1.1.length:Int))) then
(aS y.1.1 y.1.2.1).bind fun a=>
(f192 (((a.name,a.kind,a.a6,()),()),())).bind fun b=>
 bif(!b.1.1) then
 some (.inr (.inl ((false,()),())))
else
 some (.inl ((y.1.1,(IntKind.i64.wrap (y.1.2.1+(1:Int))),()),()))
else
 some (.inr (.inr ((y.1.1,()),())))
noncomputable def I_:A8.J->Option (aG Is):=bA BM
theorem ans:aV O (ap (codeOf Tryz.f141) 1 26) (aX A8 Is I_):=bR aa1 (by kernel_rfl) ag fun y=>by kernel_rfl
abbrev i141:Shape:=⟨[aO 0 .need],[],19⟩
abbrev Zk:Shape:=⟨[ar 2],[],19⟩
noncomputable def f141(a:i141.J):Option Zk.J:=
(I_ ((a.1.1,(0:Int),()),())).bind fun b=>
(match b with
|.inl c=>
 some ((c.1.1,()),())
|.inr d=>
 some (((decide ((d.1.1.length:Int)<=(6:Int))),()),()))
noncomputable def aaq:aH:=aL af Tryz.f141 i141 Zk [] f141
theorem z141:aE O 141 aaq:=aM aa1 Tryz.func141 (by kernel_rfl) (a7 ans ag) (fun y=>by kernel_rfl) fun a=>by kernel_rfl
abbrev zt:Shape:=⟨[aO 0 .str,aj 3,aj 4],[],25⟩
abbrev F9:List aR:=[(.ret,⟨[ar 2],[],25⟩),(.exit 2,⟨[aO 0 .str,aj 3],[],25⟩)]
noncomputable def zH(y:zt.J):bP zt F9:=
 bif(decide (y.1.2.2.1<y.1.2.1)) then
(aS y.1.1 y.1.2.2.1).bind fun a=>
(aS y.1.1 y.1.2.1).bind fun b=>
 bif(a==b) then
 some (.inr (.inl ((true,()),())))
else
 some (.inl ((y.1.1,y.1.2.1,(IntKind.i64.wrap (y.1.2.2.1+(1:Int))),()),()))
else
 some (.inr (.inr ((y.1.1,y.1.2.1,()),())))
noncomputable def Gs:zt.J->Option (aG F9):=bA zH
theorem ajf:aV O (ap (di (ap (codeOf Tryz.f142) 1 26)) 52 1682) (aX zt F9 Gs):=bR g0 (by kernel_rfl) ag fun y=>by kernel_rfl
abbrev A7:Shape:=⟨[aO 0 .str,aj 3],[],25⟩
abbrev Ir:List aR:=[(.ret,⟨[ar 2],[],25⟩),(.exit 0,⟨[],[],25⟩)]
noncomputable def BL(y:A7.J):bP A7 Ir:=
 bif(decide (y.1.2.1<(y.1.1.length:Int))) then
(Gs ((y.1.1,y.1.2.1,(0:Int),()),())).bind fun a=>
(match a with
|.inl b=>
 some (.inr (.inl ((b.1.1,()),())))
|.inr c=>
 some (.inl ((c.1.1,(IntKind.i64.wrap (c.1.2.1+(1:Int))),()),())))
else
 some (.inr (.inr ((),())))
noncomputable def I9:A7.J->Option (aG Ir):=bA BL
theorem anr:aV O (ap (codeOf Tryz.f142) 1 26) (aX A7 Ir I9):=bR g0 (by kernel_rfl) (a7 ajf ag) fun y=>by kernel_rfl
abbrev i142:Shape:=⟨[aO 0 .str],[],25⟩
abbrev Zj:Shape:=⟨[ar 2],[],25⟩
noncomputable def f142(a:i142.J):Option Zj.J:=
(I9 ((a.1.1,(0:Int),()),())).bind fun b=>
(match b with
|.inl c=>
 some ((c.1.1,()),())
|.inr d=>
 some ((false,()),()))
noncomputable def aap:aH:=aL af Tryz.f142 i142 Zj [] f142
theorem as6:aE O 142 aap:=aM g0 Tryz.func142 (by kernel_rfl) (a7 anr ag) (fun y=>by kernel_rfl) fun a=>by kernel_rfl
noncomputable abbrev az3:a8:=[(141,aaq),(142,aap)]
theorem adR:aT O (aZ af az3):=aY ⟨z141,as6,⟨⟩⟩
abbrev Cd:Shape:=⟨[aO 1 .need,bd 5 3000320,aj 6],[bc 3000320 .str 5 0],30⟩
abbrev B7:List aR:=[(.exit 0,⟨[aO 1 .need,bd 5 3000320],[bc 3000320 .str 5 0],30⟩)]
noncomputable def CE(y:Cd.J):bP Cd B7:=
 bif(decide (y.1.2.2.1<(y.1.1.length:Int))) then
(aS y.1.1 y.1.2.2.1).bind fun a=>
(cl 16 y.2.1 ([a.name]:List B)).bind fun b=>
 some (.inl ((y.1.1,(),(IntKind.i64.wrap (y.1.2.2.1+(1:Int))),()),b,()))
else
 some (.inr ((y.1.1,(),()),y.2.1,()))
noncomputable def J_:Cd.J->Option (aG B7):=bA CE
theorem apg:aV O (ap (codeOf Tryz.f89) 1 58) (aX Cd B7 J_):=bR adR (by kernel_rfl) ag fun y=>by kernel_rfl
abbrev i89:Shape:=⟨[am 0,aO 1 .need],[],30⟩
abbrev abF:Shape:=⟨[ar 4],[],30⟩
noncomputable def f89(a:i89.J):Option abF.J:=
(J_ ((a.1.2.1,(),(0:Int),()),([a.1.1]:List B),())).bind fun b=>
(f141 ((b.1.1,()),())).bind fun c=>
 bif c.1.1 then
(f142 ((b.2.1,()),())).bind fun d=>
 some (((!d.1.1),()),())
else
 some ((false,()),())
noncomputable def ado:aH:=aL af Tryz.f89 i89 abF [] f89
theorem awQ:aE O 89 ado:=aM adR Tryz.func89 (by kernel_rfl) (a7 apg ag) (fun y=>by kernel_rfl) fun a=>by kernel_rfl
abbrev ux(ns:List bF):Prop:=cw ns.length/\∀n,n∈ns->yu n
theorem DD(n:Nat)(k:Nat):decide ((n:Int)<=(k:Int))=decide (n<=k):=by by_cases h:n<=k<;>simp[h]<;>omega
theorem ail(a)(hs:ux a.1.1):f141 a=some ((a.1.1.all dR&&decide (a.1.1.length<=6),()),()):=by
 obtain⟨⟨ns,u⟩,b7⟩:=a;obtain⟨hl,hn⟩:=hs;have hl:ns.length<=2097152:=hl;have key:I_ ((ns,((0:Int),())),())=some (bif allI (fun _ n=>dR n) 0 ns then .inr ((ns,()),()) else .inl ((false,()),())):=by
  refine gv BM ns (fun i=>((ns,((i:Int),())),())) _ _ _ (fun i x hx=>?_) ?_
  ·have hi:=da hx;have hw:aA i:=by unfold aA;omega
   have hb:=hn x (eJ hx);simp only[BM,ct hi,ad,cd,hx,Y];rw[RM _ hb.1 hb.2];simp only[Y,b9 hw];cases dR x<;>rfl
  ·simp only[BM,dL,ak]
 rw[hH] at key;simp only[f141,key,Y];cases List.all ns dR with
 |false=>rfl
 |true=>have:=DD ns.length 6;simp only[ad,Bool.true_and];rw[<-this];rfl
theorem aiu(a)(hs:ux a.1.1):CW a=some ((a.1.1.all dR,()),()):=by
 obtain⟨⟨ns,u⟩,b7⟩:=a;obtain⟨hl,hn⟩:=hs;have hl:ns.length<=2097152:=hl;have key:Gy (((),(ns,((ns.length:Int),((0:Int),())))),())=some (bif allI (fun _ n=>dR n) 0 ns then .inr ((),()) else .inl ((false,()),())):=by
  refine gv zM ns (fun i=>(((),(ns,((ns.length:Int),((i:Int),())))),())) _ _ _ (fun i x hx=>?_) ?_
  ·have hi:=da hx;have hw:aA i:=by unfold aA;omega
   have hb:=hn x (eJ hx);simp only[zM,ct hi,ad,cd,hx,Y];rw[zi _ hb.1 hb.2];simp only[Y,b9 hw];cases dR x<;>rfl
  ·simp only[zM,dL,ak]
 rw[hH] at key;simp only[CW,key,Y];cases List.all ns dR<;>rfl
def kg:List B->List B->Bool
 |_,[]=>false
 |acc,x::r=>acc.contains x||kg (acc++[x]) r
theorem al3(xs:List B):∀(r:List B) (k:Nat),r=xs.drop k->allI (fun i x=>!((xs.take i).contains x)) k r=!kg (xs.take k) r:=by
 intro r;induction r with
 |nil=>intro k _;rfl
 |cons x r ih=>
  intro k hr;have dq:r=xs.drop (k+1):=by
   have:=congrArg List.tail hr;simpa using this
  have hx:xs[k]? =some x:=by
   have:=congrArg (fun l=>l[0]?) hr
   simpa using this.symm
  have e1:xs.take (k+1)=xs.take k++[x]:=by rw[List.take_add_one,hx];rfl
  simp only[allI,kg,ih (k+1) dq,e1,Bool.not_or]
theorem aox(bm:List B)(x:B):bm.all (fun y=>!(y==x))=!bm.contains x:=by
 induction bm with
 |nil=>rfl
 |cons y bm ih=>
  simp only[List.all_cons,ih,List.contains_cons,Bool.not_or];congr 2
  cases h:y==x with
  |true=>rw[eq_of_beq h];simp
  |false=>
   cases h2:x==y with
   |true=>rw[eq_of_beq h2] at h;simp at h
   |false=>rfl
theorem aik(a)(hs:cw a.1.1.length):f142 a=some ((kg [] a.1.1,()),()):=by
 obtain⟨⟨xs,u⟩,b7⟩:=a;have hs:xs.length<=2097152:=hs;have inner:∀(i:Nat) (x:B),xs[i]? =some x->Gs ((xs,((i:Int),((0:Int),()))),())=some (bif !((xs.take i).contains x) then .inr ((xs,((i:Int),())),()) else .inl ((true,()),())):=by
  intro i x hx;have hi:=da hx;have hl:(xs.take i).length=i:=by rw[List.length_take];omega
  have:=gv zH (xs.take i) (fun k=>((xs,((i:Int),((k:Int),()))),())) (fun _ y=>!(y==x)) (.inl ((true,()),())) (.inr ((xs,((i:Int),())),())) (fun k y hy=>?_) ?_
  ·have:=this;rw[hH,aox] at this;exact this
  ·have hk:=da hy;rw[hl] at hk;have hw:aA k:=by unfold aA;omega
   have ev:xs[k]? =some y:=by
    rw[List.getElem?_take,if_pos hk] at hy;exact hy
   simp only[zH,ct hk,ad,cd,ev,hx,Y,b9 hw];cases (y==x)<;>rfl
  ·simp only[zH,hl,dL,ak]
 have key:I9 ((xs,((0:Int),())),())=some (bif allI (fun i x=>!((xs.take i).contains x)) 0 xs then .inr ((),()) else .inl ((true,()),())):=by
  refine gv BL xs (fun i=>((xs,((i:Int),())),())) _ _ _ (fun i x hx=>?_) ?_
  ·have hi:=da hx;have hw:aA i:=by unfold aA;omega
   simp only[BL,ct hi,ad,inner i x hx,Y];cases (xs.take i).contains x
   ·simp only[bJ,ad,b9 hw]
   ·rfl
  ·simp only[BL,dL,ak]
 rw[al3 xs xs 0 rfl] at key;simp only[f142,key,Y,List.take_zero];cases kg [] xs<;>rfl
def rc(name:B)(ns:List bF):Bool:=ns.all dR&&decide (ns.length<=6)&&!kg [] (name::ns.map (·.name))
theorem aij(a)(hs:ux a.1.2.1)(hn:cw a.1.1.length):f89 a=some ((rc a.1.1 a.1.2.1,()),()):=by
 obtain⟨⟨name,ns,u⟩,b7⟩:=a;have hl:ns.length<=2097152:=hs.1;have key:J_ ((ns,((),((0:Int),()))),(([name]:List B),()))=some (((ns,((),())),((name::ns.map (·.name)),()))):=by
  have:=Rd CE ns (fun i (out:List B)=>((ns,((),((i:Int),()))),(out,()))) (fun(n:bF) out=>out++[n.name]) (fun out=>(((ns,((),())),(out,())):aG B7)) (fun i out=>out.length=i+1) [name] rfl (fun i x out hx dG=>?_) (fun out _=>?_)
  ·refine this.trans ?_
   have e:∀(r:List bF) (out:List B),r.foldl (fun s x=>s++[x.name]) out=out++r.map (·.name):=by
    intro r;induction r with
    |nil=>intro out;simp
    |cons n r ih=>intro out;simp[ih]
   rw[e];rfl
  ·have hi:=da hx;have hw:aA i:=by unfold aA;omega
   refine⟨?_,by simp[dG]⟩
   simp only[CE,ct hi,ad,cd,hx,Y];rw[dy (by decide) (by unfold aA;simp only[cW,List.length_nil];omega)]
   simp only[Y,b9 hw]
  ·simp only[CE,dL,ak]
 simp only[f89,key,Y];rw[ail _ hs];simp only[Y];unfold rc;cases aC:(List.all ns dR&&decide (ns.length<=6)) with
 |false=>rfl
 |true=>
  simp only[bC,dY] at aC;have aBp:=aik ((name::ns.map (·.name),()),()) (show(name::ns.map (·.name)).length<=2097152 by simp only[cW,List.length_map];omega)
  simp only[ad,Bool.true_and,aBp,Y]
theorem amt(a)(hs:cw a.1.1.length):∃n:Int,f197 a=some ((n,()),())/\decide (n>=0)=a.1.1.contains a.1.2.1:=by
 obtain⟨⟨xs,x,u⟩,b7⟩:=a;have hs:xs.length<=2097152:=hs;have key:IY ((xs,(x,((xs.length:Int),((0:Int),())))),())=_:=Gn By xs (fun i (_:Unit)=>((xs,(x,((xs.length:Int),((i:Int),())))),()))
  (fun i y _=>some (bif x==y then .inr ((.inl (((i:Int),()),())):aG s') else .inl ())) (fun _=>.inr ((),())) (fun i y s hy=>?_) (fun s=>?_) ()
 ·have fold:∀(r:List B) (k:Nat),∃n:Int,(fc (fun i y (_:Unit)=>some (bif x==y then .inr ((.inl (((i:Int),()),())):aG s') else .inl ())) (fun _=>(.inr ((),()):aG s')) k r ()).bind (fun atG=>
    (match atG with
    |.inl atF=>some ((atF.1.1,()),())
    |.inr aCF=>some ((((-1):Int),()),()):Option Le.J))=some ((n,()),())/\decide (n>=0)=r.contains x:=by
   intro r;induction r with
   |nil=>intro k;exact⟨-1,rfl,rfl⟩
   |cons y r ih=>
    intro k;simp only[fc,List.contains_cons];cases hxy:x==y with
    |true=>exact⟨k,rfl,by simp⟩
    |false=>
     obtain⟨n,h1,h2⟩:=ih (k+1);exact⟨n,h1,by simpa using h2⟩
  obtain⟨n,h1,h2⟩:=fold xs 0;refine⟨n,?_,h2⟩;simp only[f197];rw[key];exact h1
 ·have hi:=da hy;have hw:aA i:=by unfold aA;omega
  simp only[By,ct hi,ad,cd,hy,Y,b9 hw];cases x==y<;>rfl
 ·simp only[By,dL,ak]
theorem ahk(a)(hs:cw a.1.1.length):f150 a=some ((a.1.1.contains a.1.2.1,()),()):=by
 obtain⟨n,h1,h2⟩:=amt ((a.1.1,(a.1.2.1,())),()) hs;simp only[f150,h1,Y,h2]
theorem akr(a)(hs:cw a.1.1.length):f149 a=some (((),()),(a.1.1,())):=by
 obtain⟨⟨xs,u⟩,b7⟩:=a;have hs:xs.length<=2097152:=hs;have h2:(cl 16 ([]:List B) xs).bind (fun x=>some (((),()),(x,())))=(some (((),()),(xs,())):Option Lg.J):=by
  rw[dy (by decide) (by unfold aA;simp only[List.length_nil];omega)];rfl
 simp only[f149];rw[h2];unfold qU;split
 ·rfl
 ·rename_i h;exact absurd (fun he:xs=[]=>by subst he;rfl) h
theorem afy(a)(hs:ux a.1.1)(hm:a.1.2.2.1.length<=1):CV a=some ((kg a.1.2.2.1 (a.1.1.map (·.name)),()),()):=by
 obtain⟨⟨ns,od,more,u⟩,b7⟩:=a;have hl:ns.length<=2097152:=hs.1;have hm:more.length<=1:=hm;have hc:=akr ((more,()),()) (show more.length<=2097152 by omega)
 have key:(Gx (((),((),(ns,((ns.length:Int),((0:Int),()))))),(more,())))=_:=my zL ns (fun i (out:List B)=>(((),((),(ns,((ns.length:Int),((i:Int),()))))),(out,())))
  (fun i (n:bF) out=>some (bif out.contains n.name then .inr ((.inl ((true,()),())):aG sV) else .inl (out++[n.name]))) (fun _=>.inr ((),())) (fun i out=>out.length<=i+1) more (by omega) (fun i x out hx dG=>?_) (fun out _=>?_)
 ·have fold:∀(r:List bF) (k:Nat) (out:List B),(fc (fun i (n:bF) out=>some (bif out.contains n.name then .inr ((.inl ((true,()),())):aG sV) else .inl (out++[n.name]))) (fun _=>(.inr ((),()):aG sV)) k r out)=
    some (bif kg out (r.map (·.name)) then .inl ((true,()),()) else .inr ((),())):=by
   intro r;induction r with
   |nil=>intro k out;rfl
   |cons n r ih=>
    intro k out;simp only[fc,List.map_cons,kg];cases out.contains n.name with
    |true=>rfl
    |false=>simp only[ak,Bool.false_or];exact ih _ _
  rw[fold] at key;simp only[CV,hc,Y,key];cases kg more (ns.map (·.name))<;>rfl
 ·have hi:=da hx;have hw:aA i:=by unfold aA;omega
  refine⟨?_,fun aQ an=>?_⟩
  ·simp only[zL,ct hi,ad,cd,hx,Y,f104];rw[ahk _ (show cw out.length by show out.length<=2097152;omega)]
   simp only[Y];cases aC:out.contains x.name with
   |true=>rfl
   |false=>
    simp only[ak];rw[dy (by decide) (by unfold aA;simp only[cW,List.length_nil];omega)]
    simp only[Y,b9 hw,Option.map_some]
  ·simp only[bE] at an;cases aC:out.contains x.name with
   |true=>rw[aC] at an;cases an
   |false=>
    rw[aC] at an;simp only[ak,Sum.inl.injEq] at an;subst an;simp only[dx,cW,List.length_nil];omega
 ·simp only[zL,dL,ak]
abbrev i146:Shape:=⟨[(0,.aq (.d (.int .u8)))],[],29⟩
abbrev Zf:Shape:=⟨[ar 2],[],29⟩
noncomputable def f146(a:i146.J):Option Zf.J:=
 bif(decide (a.1.1>=(97:Int))) then
 bif(!(decide (a.1.1<=(122:Int)))) then
 bif(decide (a.1.1>=(48:Int))) then
 bif(!(decide (a.1.1<=(57:Int)))) then
 bif(!(a.1.1==(46:Int))) then
 bif(!(a.1.1==(95:Int))) then
 some (((a.1.1==(45:Int)),()),())
else
 some ((true,()),())
else
 some ((true,()),())
else
 some ((true,()),())
else
 bif(!(a.1.1==(46:Int))) then
 bif(!(a.1.1==(95:Int))) then
 some (((a.1.1==(45:Int)),()),())
else
 some ((true,()),())
else
 some ((true,()),())
else
 some ((true,()),())
else
 bif(decide (a.1.1>=(48:Int))) then
 bif(!(decide (a.1.1<=(57:Int)))) then
 bif(!(a.1.1==(46:Int))) then
 bif(!(a.1.1==(95:Int))) then
 some (((a.1.1==(45:Int)),()),())
else
 some ((true,()),())
else
 some ((true,()),())
else
 some ((true,()),())
else
 bif(!(a.1.1==(46:Int))) then
 bif(!(a.1.1==(95:Int))) then
 some (((a.1.1==(45:Int)),()),())
else
 some ((true,()),())
else
 some ((true,()),())
noncomputable def DT:aH:=aL af Tryz.f146 i146 Zf [] f146
theorem z146:aE O 146 DT:=aM g0 Tryz.func146 (by kernel_rfl) ag (fun y=>by kernel_rfl) fun a=>by kernel_rfl
noncomputable abbrev az1:a8:=[(75,ph),(146,DT)]
theorem adQ:aT O (aZ af az1):=aY ⟨z75,z146,⟨⟩⟩
abbrev Ca:Shape:=⟨[am 0,aj 3],[],26⟩
abbrev JK:List aR:=[(.ret,⟨[ar 2],[],26⟩),(.exit 0,⟨[am 0],[],26⟩)]
noncomputable def CB(y:Ca.J):bP Ca JK:=
 bif(decide (y.1.2.1<(y.1.1.length:Int))) then
(aS y.1.1 y.1.2.1).bind fun a=>
(f146 (((a.toNat:Int),()),())).bind fun b=>
 bif(!b.1.1) then
 some (.inr (.inl ((false,()),())))
else
 some (.inl ((y.1.1,(IntKind.i64.wrap (y.1.2.1+(1:Int))),()),()))
else
 some (.inr (.inr ((y.1.1,()),())))
noncomputable def J7:Ca.J->Option (aG JK):=bA CB
theorem apc:aV O (ap (codeOf Tryz.f91) 1 26) (aX Ca JK J7):=bR adQ (by kernel_rfl) ag fun y=>by kernel_rfl
abbrev i91:Shape:=⟨[am 0],[],26⟩
abbrev abD:Shape:=⟨[ar 2],[],26⟩
noncomputable def f91(a:i91.J):Option abD.J:=
(J7 ((a.1.1,(0:Int),()),())).bind fun b=>
(match b with
|.inl c=>
 some ((c.1.1,()),())
|.inr d=>
(f75 (((d.1.1.length:Int),(1:Int),(10:Int),()),())).bind fun e=>
 bif e.1.1 then
 bif(!(d.1.1==([46]:B))) then
 some (((!(d.1.1==([46,46]:B))),()),())
else
 some ((false,()),())
else
 some ((false,()),()))
noncomputable def adn:aH:=aL af Tryz.f91 i91 abD [] f91
theorem z91:aE O 91 adn:=aM adQ Tryz.func91 (by kernel_rfl) (a7 apc ag) (fun y=>by kernel_rfl) fun a=>by kernel_rfl
noncomputable abbrev avd:a8:=[(73,pi),(91,adn)]
theorem aaU:aT O (aZ af avd):=aY ⟨ql,z91,⟨⟩⟩
abbrev AV:Shape:=⟨[bd 3 3000192,aj 4],[bc 3000192 .str 3 0],25⟩
abbrev Ie:List aR:=[(.ret,⟨[ar 2],[],25⟩),(.exit 0,⟨[bd 3 3000192],[bc 3000192 .str 3 0],25⟩)]
noncomputable def BC(y:AV.J):bP AV Ie:=
 bif(decide (y.1.2.1<(y.2.1.length:Int))) then
(bh y.2.1.length y.1.2.1).bind fun a=>
(y.2.1[a]?).bind fun b=>
(f91 ((b,()),())).bind fun c=>
 bif(!c.1.1) then
 some (.inr (.inl ((false,()),())))
else
 some (.inl (((),(IntKind.i64.wrap (y.1.2.1+(1:Int))),()),y.2.1,()))
else
 some (.inr (.inr (((),()),y.2.1,())))
noncomputable def I1:AV.J->Option (aG Ie):=bA BC
theorem am7:aV O (ap (codeOf Tryz.f193) 1 58) (aX AV Ie I1):=bR aaU (by kernel_rfl) ag fun y=>by kernel_rfl
abbrev i193:Shape:=⟨[am 0],[],25⟩
abbrev YJ:Shape:=⟨[ar 2],[],25⟩
noncomputable def f193(a:i193.J):Option YJ.J:=
(f73 ((a.1.1,(47:Int),(IntKind.i64.wrap ((a.1.1.length:Int)+(1:Int))),()),())).bind fun b=>
(I1 (((),(0:Int),()),b.2.1,())).bind fun c=>
(match c with
|.inl d=>
 some ((d.1.1,()),())
|.inr e=>
 some (((decide ((e.2.1.length:Int)<=(5:Int))),()),()))
noncomputable def L0:aH:=aL af Tryz.f193 i193 YJ [] f193
theorem z193:aE O 193 L0:=aM aaU Tryz.func193 (by kernel_rfl) (a7 am7 ag) (fun y=>by kernel_rfl) fun a=>by kernel_rfl
noncomputable abbrev az0:a8:=[(75,ph)]
theorem NS:aT O (aZ af az0):=aY ⟨z75,⟨⟩⟩
abbrev Tp:Shape:=⟨[am 0,aj 3],[],25⟩
abbrev S5:List aR:=[(.norm,⟨[am 0,aj 3,ar 21],[],25⟩)]
noncomputable def Jj(y:Tp.J):Option (aG S5):=
(aS y.1.1 y.1.2.1).bind fun a=>
 bif((a.toNat:Int) !=(10:Int)) then
(aS y.1.1 y.1.2.1).bind fun b=>
(f75 (((IntKind.i64.wrap (b.toNat:Int)),(32:Int),(126:Int),()),())).bind fun c=>
 some ((y.1.1,y.1.2.1,(!c.1.1),()),())
else
 some ((y.1.1,y.1.2.1,false,()),())
theorem amC:aV O (ap (di (ap (codeOf Tryz.f92) 1 26)) 52 840) (aX Tp S5 Jj):=cm NS (by kernel_rfl) ag fun y=>by kernel_rfl
abbrev B':Shape:=⟨[am 0,aj 3],[],25⟩
abbrev JJ:List aR:=[(.ret,⟨[ar 2],[],25⟩),(.exit 0,⟨[am 0],[],25⟩)]
noncomputable def CA(y:B'.J):bP B' JJ:=
 bif(decide (y.1.2.1<(y.1.1.length:Int))) then
(Jj ((y.1.1,y.1.2.1,()),())).bind fun a=>
 bif a.1.2.2.1 then
 some (.inr (.inl ((false,()),())))
else
 some (.inl ((a.1.1,(IntKind.i64.wrap (a.1.2.1+(1:Int))),()),()))
else
 some (.inr (.inr ((y.1.1,()),())))
noncomputable def J6:B'.J->Option (aG JJ):=bA CA
theorem apb:aV O (ap (codeOf Tryz.f92) 1 26) (aX B' JJ J6):=bR NS (by kernel_rfl) (a7 amC ag) fun y=>by kernel_rfl
abbrev i92:Shape:=⟨[am 0],[],25⟩
abbrev abC:Shape:=⟨[ar 2],[],25⟩
noncomputable def f92(a:i92.J):Option abC.J:=
(J6 ((a.1.1,(0:Int),()),())).bind fun b=>
(match b with
|.inl c=>
 some ((c.1.1,()),())
|.inr d=>
 some (((decide ((d.1.1.length:Int)<=(80:Int))),()),()))
noncomputable def adm:aH:=aL af Tryz.f92 i92 abC [] f92
theorem awP:aE O 92 adm:=aM NS Tryz.func92 (by kernel_rfl) (a7 apb ag) (fun y=>by kernel_rfl) fun a=>by kernel_rfl
noncomputable abbrev avF:a8:=[(75,ph),(92,adm),(193,L0)]
theorem awC:aT O (aZ af avF):=aY ⟨z75,awP,z193,⟨⟩⟩
abbrev i143:Shape:=⟨[ck 0 [ah,ba,ba,ah]],[],42⟩
abbrev Zi:Shape:=⟨[ar 2],[],42⟩
noncomputable def f143(a:i143.J):Option Zi.J:=
(f193 ((a.1.1.1,()),())).bind fun b=>
 bif(!b.1.1) then
 some ((false,()),())
else
 bif(a.1.1.2.1==(1:Int)) then
(f75 ((a.1.1.2.2.1,(0:Int),(7:Int),()),())).bind fun c=>
 bif c.1.1 then
 some (((a.1.1.2.2.2.1==([]:B)),()),())
else
 some ((false,()),())
else
 bif(a.1.1.2.1==(2:Int)) then
(f75 ((a.1.1.2.2.1,(0:Int),(7:Int),()),())).bind fun d=>
 bif d.1.1 then
(f92 ((a.1.1.2.2.2.1,()),())).bind fun e=>
 some ((e.1.1,()),())
else
 some ((false,()),())
else
 bif(a.1.1.2.1==(3:Int)) then
 bif(a.1.1.2.2.1==(0:Int)) then
(f193 ((a.1.1.2.2.2.1,()),())).bind fun f=>
 some ((f.1.1,()),())
else
 some ((false,()),())
else
 some ((false,()),())
noncomputable def L9:aH:=aL af Tryz.f143 i143 Zi [] f143
theorem z143:aE O 143 L9:=aM awC Tryz.func143 (by kernel_rfl) ag (fun y=>by kernel_rfl) fun a=>by kernel_rfl
abbrev i231:Shape:=⟨[(0,.aq (.d (.int .u8)))],[],29⟩
abbrev Yk:Shape:=⟨[ar 2],[],29⟩
noncomputable def f231(a:i231.J):Option Yk.J:=
 bif(decide (a.1.1>=(97:Int))) then
 bif(!(decide (a.1.1<=(122:Int)))) then
 bif(decide (a.1.1>=(48:Int))) then
 bif(!(decide (a.1.1<=(57:Int)))) then
 bif(!(a.1.1==(46:Int))) then
 bif(!(a.1.1==(95:Int))) then
 some (((a.1.1==(45:Int)),()),())
else
 some ((true,()),())
else
 some ((true,()),())
else
 some ((true,()),())
else
 bif(!(a.1.1==(46:Int))) then
 bif(!(a.1.1==(95:Int))) then
 some (((a.1.1==(45:Int)),()),())
else
 some ((true,()),())
else
 some ((true,()),())
else
 some ((true,()),())
else
 bif(decide (a.1.1>=(48:Int))) then
 bif(!(decide (a.1.1<=(57:Int)))) then
 bif(!(a.1.1==(46:Int))) then
 bif(!(a.1.1==(95:Int))) then
 some (((a.1.1==(45:Int)),()),())
else
 some ((true,()),())
else
 some ((true,()),())
else
 some ((true,()),())
else
 bif(!(a.1.1==(46:Int))) then
 bif(!(a.1.1==(95:Int))) then
 some (((a.1.1==(45:Int)),()),())
else
 some ((true,()),())
else
 some ((true,()),())
noncomputable def _E:aH:=aL af Tryz.f231 i231 Yk [] f231
theorem asz:aE O 231 _E:=aM g0 Tryz.func231 (by kernel_rfl) ag (fun y=>by kernel_rfl) fun a=>by kernel_rfl
noncomputable abbrev avc:a8:=[(231,_E)]
theorem aaT:aT O (aZ af avc):=aY ⟨asz,⟨⟩⟩
abbrev AT:Shape:=⟨[am 0,aj 5,aj 6],[],17⟩
abbrev Ic:List aR:=[(.ret,⟨[ar 2],[],17⟩),(.exit 0,⟨[am 0],[],17⟩)]
noncomputable def Bz(y:AT.J):bP AT Ic:=
 bif(decide (y.1.2.2.1<y.1.2.1)) then
(aS y.1.1 y.1.2.2.1).bind fun a=>
(f231 (((a.toNat:Int),()),())).bind fun b=>
 bif(!b.1.1) then
 some (.inr (.inl ((false,()),())))
else
 some (.inl ((y.1.1,y.1.2.1,(IntKind.i64.wrap (y.1.2.2.1+(1:Int))),()),()))
else
 some (.inr (.inr ((y.1.1,()),())))
noncomputable def IZ:AT.J->Option (aG Ic):=bA Bz
theorem am5:aV O (ap (codeOf Tryz.f195) 1 26) (aX AT Ic IZ):=bR aaT (by kernel_rfl) ag fun y=>by kernel_rfl
abbrev i195:Shape:=⟨[am 0],[],17⟩
abbrev YH:Shape:=⟨[ar 2],[],17⟩
noncomputable def f195(a:i195.J):Option YH.J:=
(IZ ((a.1.1,(a.1.1.length:Int),(0:Int),()),())).bind fun b=>
(match b with
|.inl c=>
 some ((c.1.1,()),())
|.inr d=>
 some (((!(d.1.1==([]:B))),()),()))
noncomputable def _V:aH:=aL af Tryz.f195 i195 YH [] f195
theorem asK:aE O 195 _V:=aM aaT Tryz.func195 (by kernel_rfl) (a7 am5 ag) (fun y=>by kernel_rfl) fun a=>by kernel_rfl
noncomputable abbrev avD:a8:=[(195,_V)]
theorem awA:aT O (aZ af avD):=aY ⟨asK,⟨⟩⟩
abbrev i147:Shape:=⟨[am 0],[],18⟩
abbrev Ze:Shape:=⟨[ar 2],[],18⟩
noncomputable def f147(a:i147.J):Option Ze.J:=
 bif(decide ((a.1.1.length:Int)<=(10:Int))) then
 bif(!(a.1.1==([46]:B))) then
 bif(!(a.1.1==([46,46]:B))) then
(f195 ((a.1.1,()),())).bind fun b=>
 some ((b.1.1,()),())
else
 some ((false,()),())
else
 some ((false,()),())
else
 some ((false,()),())
noncomputable def aao:aH:=aL af Tryz.f147 i147 Ze [] f147
theorem as5:aE O 147 aao:=aM awA Tryz.func147 (by kernel_rfl) ag (fun y=>by kernel_rfl) fun a=>by kernel_rfl
abbrev i196:Shape:=⟨[(0,.aq (.d (.int .u8)))],[],9⟩
abbrev YG:Shape:=⟨[ar 2],[],9⟩
noncomputable def f196(a:i196.J):Option YG.J:=
 bif(decide (a.1.1>=(32:Int))) then
 some (((decide (a.1.1<=(126:Int))),()),())
else
 some ((false,()),())
noncomputable def _U:aH:=aL af Tryz.f196 i196 YG [] f196
theorem z196:aE O 196 _U:=aM g0 Tryz.func196 (by kernel_rfl) ag (fun y=>by kernel_rfl) fun a=>by kernel_rfl
noncomputable abbrev avC:a8:=[(196,_U)]
theorem Ml:aT O (aZ af avC):=aY ⟨z196,⟨⟩⟩
abbrev Q0:Shape:=⟨[am 0,aj 3,aj 8,aj 9],[],24⟩
abbrev QH:List aR:=[(.norm,⟨[am 0,aj 8,aj 9,ar 22],[],24⟩)]
noncomputable def GH(y:Q0.J):Option (aG QH):=
(aS y.1.1 y.1.2.1).bind fun a=>
(f196 (((a.toNat:Int),()),())).bind fun b=>
 bif(!b.1.1) then
(aS y.1.1 y.1.2.1).bind fun c=>
 some ((y.1.1,y.1.2.2.1,y.1.2.2.2.1,((c.toNat:Int) !=(10:Int)),()),())
else
 some ((y.1.1,y.1.2.2.1,y.1.2.2.2.1,false,()),())
theorem aje:aV O (ap (di (ap (codeOf Tryz.f148) 1 58)) 116 7474) (aX Q0 QH GH):=cm Ml (by kernel_rfl) ag fun y=>by kernel_rfl
abbrev A5:Shape:=⟨[am 0,aj 8,aj 9],[],24⟩
abbrev Ip:List aR:=[(.ret,⟨[ar 2],[],24⟩),(.exit 0,⟨[],[],24⟩)]
noncomputable def BK(y:A5.J):bP A5 Ip:=
 bif(decide (y.1.2.2.1<y.1.2.1)) then
(GH ((y.1.1,y.1.2.2.1,y.1.2.1,y.1.2.2.1,()),())).bind fun a=>
 bif a.1.2.2.2.1 then
 some (.inr (.inl ((false,()),())))
else
 some (.inl ((a.1.1,a.1.2.1,(IntKind.i64.wrap (a.1.2.2.1+(1:Int))),()),()))
else
 some (.inr (.inr ((),())))
noncomputable def I7:A5.J->Option (aG Ip):=bA BK
theorem anp:aV O (ap (codeOf Tryz.f148) 1 58) (aX A5 Ip I7):=bR Ml (by kernel_rfl) (a7 aje ag) fun y=>by kernel_rfl
abbrev i148:Shape:=⟨[am 0],[],24⟩
abbrev Zd:Shape:=⟨[ar 2],[],24⟩
noncomputable def f148(a:i148.J):Option Zd.J:=
 bif(decide ((a.1.1.length:Int)>(80:Int))) then
 some ((false,()),())
else
(I7 ((a.1.1,(a.1.1.length:Int),(0:Int),()),())).bind fun b=>
(match b with
|.inl c=>
 some ((c.1.1,()),())
|.inr d=>
 some ((true,()),()))
noncomputable def aan:aH:=aL af Tryz.f148 i148 Zd [] f148
theorem z148:aE O 148 aan:=aM Ml Tryz.func148 (by kernel_rfl) (a7 anp ag) (fun y=>by kernel_rfl) fun a=>by kernel_rfl
noncomputable abbrev avb:a8:=[(147,aao)]
theorem Mg:aT O (aZ af avb):=aY ⟨as5,⟨⟩⟩
abbrev Sm:Shape:=⟨[ax 2 2 0,ax 3 3 0,am 4],[aw 2 [mm],aw 3 [ba]],17⟩
abbrev R5:List aR:=[(.norm,⟨[ax 2 2 0,ax 3 3 0,ar 16],[aw 2 [mm],aw 3 [ba]],17⟩)]
noncomputable def HJ(y:Sm.J):Option (aG R5):=
 bif(!(decide (y.2.2.1.1>(5:Int)))) then
(f147 ((y.1.2.2.1,()),())).bind fun a=>
 some (((),(),(!a.1.1),()),(y.2.1.1,()),(y.2.2.1.1,()),())
else
 some (((),(),true,()),(y.2.1.1,()),(y.2.2.1.1,()),())
theorem alb:aV O (ap (ky (ap (codeOf Tryz.f199) 1 58)) 117 938) (aX Sm R5 HJ):=cm Mg (by kernel_rfl) ag fun y=>by kernel_rfl
abbrev AR:Shape:=⟨[ax 2 2 0,ax 3 3 0],[aw 2 [mm],aw 3 [ba]],17⟩
abbrev Ib:List aR:=[(.norm,⟨[ax 2 2 0],[aw 2 [mm]],17⟩),(.ret,⟨[ax 2 2 0],[aw 2 [mm]],17⟩)]
noncomputable def tk(x:B)(y:AR.J):bP AR Ib:=
(HJ (((),(),x,()),(y.2.1.1,()),((IntKind.i64.wrap (y.2.2.1.1+(1:Int))),()),())).bind fun a=>
 bif a.1.2.2.1 then
 some (.inr (.inr (((),()),(false,()),())))
else
 some (.inl (((),(),()),(a.2.1.1,()),(a.2.2.1.1,()),()))
noncomputable def wg(y:AR.J):Option (aG Ib):=
 some (.inl (((),()),(y.2.1.1,()),()))
theorem am3:aV O (ap (codeOf Tryz.f199) 1 58) (s5 266 6 AR Ib tk wg):=Ps (fg:=7) Mg W' (by kernel_rfl) (a7 alb ag) (by kernel_rfl) (fun x y=>by kernel_rfl) fun y=>by kernel_rfl
abbrev i199:Shape:=⟨[am 0],[],17⟩
abbrev YF:Shape:=⟨[ax 2 2 0],[aw 2 [mm]],17⟩
noncomputable def f199(a:i199.J):Option YF.J:=
(bif Nat.ble a.1.1.length k2 then iZ tk wg (bN (47:UInt8) a.1.1) (((),(),()),(false,()),((0:Int),()),()) else none).bind fun b=>
(match b with
|.inl c=>
 some (((),()),(true,()),())
|.inr d=>
 some (((),()),(d.2.1.1,()),()))
noncomputable def LZ:aH:=aL af Tryz.f199 i199 YF [] f199
theorem XH:aE O 199 LZ:=aM Mg Tryz.func199 (by kernel_rfl) (a7 am3 ag) (fun y=>by kernel_rfl) fun a=>by kernel_rfl
noncomputable abbrev avz:a8:=[(148,aan),(199,LZ)]
theorem aa0:aT O (aZ af avz):=aY ⟨z148,XH,⟨⟩⟩
abbrev TF:Shape:=⟨[ax 1 1 0],[aw 1 [ah,ba,ba,ah]],39⟩
abbrev Tj:List aR:=[(.norm,⟨[ax 1 1 0,ar 16],[aw 1 [ah,ba,ba,ah]],39⟩)]
noncomputable def Ju(y:TF.J):Option (aG Tj):=
(f199 ((y.2.1.1,()),())).bind fun a=>
 bif(!(!a.2.1.1)) then
 bif(!(decide (y.2.1.2.2.1<(0:Int)))) then
 some (((),(decide (y.2.1.2.2.1>(7:Int))),()),(y.2.1.1,y.2.1.2.1,y.2.1.2.2.1,y.2.1.2.2.2.1,()),())
else
 some (((),true,()),(y.2.1.1,y.2.1.2.1,y.2.1.2.2.1,y.2.1.2.2.2.1,()),())
else
 some (((),true,()),(y.2.1.1,y.2.1.2.1,y.2.1.2.2.1,y.2.1.2.2.2.1,()),())
theorem ann:aV O (ap (codeOf Tryz.f152) 1 12) (aX TF Tj Ju):=cm aa0 (by kernel_rfl) ag fun y=>by kernel_rfl
abbrev i152:Shape:=⟨[ck 0 [ah,ba,ba,ah]],[],39⟩
abbrev Za:Shape:=⟨[ar 2],[],39⟩
noncomputable def f152(a:i152.J):Option Za.J:=
(Ju (((),()),(a.1.1.1,a.1.1.2.1,a.1.1.2.2.1,a.1.1.2.2.2.1,()),())).bind fun b=>
 bif b.1.2.1 then
 some ((false,()),())
else
 bif(b.2.1.2.1==(1:Int)) then
 some (((b.2.1.2.2.2.1==([]:B)),()),())
else
 bif(b.2.1.2.1==(2:Int)) then
(f148 ((b.2.1.2.2.2.1,()),())).bind fun c=>
 some ((c.1.1,()),())
else
 bif(b.2.1.2.1==(3:Int)) then
 bif(b.2.1.2.2.1==(0:Int)) then
(f199 ((b.2.1.2.2.2.1,()),())).bind fun d=>
 some ((d.2.1.1,()),())
else
 some ((false,()),())
else
 some ((false,()),())
noncomputable def aak:aH:=aL af Tryz.f152 i152 Za [] f152
theorem z152:aE O 152 aak:=aM aa0 Tryz.func152 (by kernel_rfl) (a7 ann ag) (fun y=>by kernel_rfl) fun a=>by kernel_rfl
def kx(n:Int):Bool:=(decide (97<=n)&&decide (n<=122))||(decide (48<=n)&&decide (n<=57))||n==46||n==95||n==45
theorem Qm(a):f146 a=some ((kx a.1.1,()),()):=by
 obtain⟨⟨n,u⟩,b7⟩:=a;simp only[f146,kx,ge_iff_le];generalize decide ((97:Int)<=n)=b1;generalize decide (n<=(122:Int))=b2;generalize decide ((48:Int)<=n)=b3;generalize decide (n<=(57:Int))=yK;generalize(n==(46:Int))=yJ;generalize(n==(95:Int))=On;generalize(n==(45:Int))=Om;cases b1<;>cases b2<;>cases b3<;>cases yK<;>cases yJ<;>cases On<;>cases Om<;>rfl
theorem aha(a):f231 a=some ((kx a.1.1,()),()):=by
 obtain⟨⟨n,u⟩,b7⟩:=a;simp only[f231,kx,ge_iff_le];generalize decide ((97:Int)<=n)=b1;generalize decide (n<=(122:Int))=b2;generalize decide ((48:Int)<=n)=b3;generalize decide (n<=(57:Int))=yK;generalize(n==(46:Int))=yJ;generalize(n==(95:Int))=On;generalize(n==(45:Int))=Om;cases b1<;>cases b2<;>cases b3<;>cases yK<;>cases yJ<;>cases On<;>cases Om<;>rfl
def kE(s:B):Bool:=s.all (fun b=>kx b.toNat)&&within s.length 1 10&&!(s==[46])&&!(s==[46,46])
theorem akh(a)(hs:cw a.1.1.length):f91 a=some ((kE a.1.1,()),()):=by
 obtain⟨⟨s,u⟩,b7⟩:=a;have hs:s.length<=2097152:=hs;have key:J7 ((s,((0:Int),())),())=some (bif allI (fun _ b=>kx b.toNat) 0 s then .inr ((s,()),()) else .inl ((false,()),())):=by
  refine gv CB s (fun i=>((s,((i:Int),())),())) _ _ _ (fun i x hx=>?_) ?_
  ·have hi:=da hx;have hw:aA i:=by unfold aA;omega
   simp only[CB,ct hi,ad,cd,hx,Y,Qm,b9 hw];cases kx x.toNat<;>rfl
  ·simp only[CB,dL,ak]
 rw[hH] at key;simp only[f91,key,Y,kE];cases List.all s (fun b=>kx b.toNat) with
 |false=>rfl
 |true=>
  simp only[ad,oI,Y,Bool.true_and];cases within (s.length:Int) 1 10<;>cases (s==[46])<;>rfl
theorem aj9(a)(hs:cw a.1.1.length):f147 a=some ((kE a.1.1,()),()):=by
 obtain⟨⟨s,u⟩,b7⟩:=a;have hs:s.length<=2097152:=hs;have key:IZ ((s,((s.length:Int),((0:Int),()))),())=some (bif allI (fun _ b=>kx b.toNat) 0 s then .inr ((s,()),()) else .inl ((false,()),())):=by
  refine gv Bz s (fun i=>((s,((s.length:Int),((i:Int),()))),())) _ _ _ (fun i x hx=>?_) ?_
  ·have hi:=da hx;have hw:aA i:=by unfold aA;omega
   simp only[Bz,ct hi,ad,cd,hx,Y,aha,b9 hw];cases kx x.toNat<;>rfl
  ·simp only[Bz,dL,ak]
 rw[hH] at key;have x7:f195 ((s,()),())=some ((List.all s (fun b=>kx b.toNat)&&!(s==([]:B)),()),()):=by
  simp only[f195,key,Y];cases List.all s (fun b=>kx b.toNat)<;>rfl
 have h1:decide ((1:Int)<=(s.length:Int))=!(s==([]:B)):=by
  cases s with
  |nil=>rfl
  |cons b r=>
   have:((b::r)==([]:B))=false:=rfl;simp only[cW];rw[this];simp only[bJ,dY];omega
 simp only[f147,x7,Y,kE,within,h1];cases decide ((s.length:Int)<=10)<;>cases (s==[46])<;>cases (s==[46,46])<;>cases List.all s (fun b=>kx b.toNat)<;>cases (s==([]:B))<;>rfl
def gK(s:B):Bool:=(bN 47 s).all kE&&decide ((bN 47 s).length<=5)
theorem GQ(a)(hs:cw a.1.1.length):f193 a=some ((gK a.1.1,()),()):=by
 obtain⟨⟨s,u⟩,b7⟩:=a;have hs:s.length<=2097152:=hs;have hlen:=ot 47 s;have gl:f73 ((s,((47:Int),((IntKind.i64.wrap ((s.length:Int)+(1:Int))),()))),())=some (((),()),(bN 47 s,())):=
  vT 47 _ hs rfl (b9 (by unfold aA;omega))
 have key:I1 (((),((0:Int),())),(bN 47 s,()))=some (bif allI (fun _ x=>kE x) 0 (bN 47 s) then .inr (((),()),(bN 47 s,())) else .inl ((false,()),())):=by
  refine gv BC (bN 47 s) (fun i=>(((),((i:Int),())),(bN 47 s,()))) _ _ _ (fun i x hx=>?_) ?_
  ·have hi:=da hx;have hw:aA i:=by unfold aA;omega
   have hxl:x.length<=s.length:=qN 47 s x (eJ hx);simp only[BC,ct hi,ad,fQ hi,hx,Y];rw[akh _ (show x.length<=2097152 by omega)]
   simp only[Y,b9 hw];cases kE x<;>rfl
  ·simp only[BC,dL,ak]
 rw[hH] at key;simp only[f193,gl,Y,key,gK];cases List.all (bN 47 s) kE with
 |false=>rfl
 |true=>have:=DD (bN 47 s).length 5;simp only[ad,Bool.true_and];rw[<-this];rfl
theorem GS(a)(hs:cw a.1.1.length):f199 a=some (((),()),((gK a.1.1,()),())):=by
 obtain⟨⟨s,u⟩,b7⟩:=a;have hs:s.length<=2097152:=hs;have LD:Nat.ble s.length k2=true:=Nat.ble_eq_true_of_le (by unfold k2;omega)
 have fold:∀(r:List B) (k:Nat),(∀x,x∈r->x.length<=s.length)->k<=5->
   iZ tk wg r (((),((),())),((false,()),(((k:Int),()),())))=
    some (bif r.all kE&&decide (k+r.length<=5) then(.inl (((),()),((false,()),()))) else(.inr (((),()),((false,()),())))):=by
  intro r;induction r with
  |nil=>
   intro k _ hk;have:decide (k+0<=5)=true:=by simpa using hk
   simp only[iZ,wg,List.all_nil,List.length_nil,this,Bool.and_self,ad]
  |cons x r ih=>
   intro k hr hk;have hx:=hr x ci;have ll:=aj9 ((x,()),()) (show x.length<=2097152 by omega)
   have hw:=b9 (i:=k) (by unfold aA;omega)
   have x8:decide (((k+1:Nat):Int)>5)=!decide (k+1<=5):=by by_cases h:k+1<=5<;>simp only[h,decide_true,decide_false,bu,bJ,dY,decide_eq_false_iff_not]<;>omega
   have step:tk x (((),((),())),((false,()),(((k:Int),()),())))=
     some (bif kE x&&decide (k+1<=5) then .inl (((),((),())),((false,()),((((k+1:Nat):Int),()),()))) else .inr (.inr (((),()),((false,()),())))):=by
    simp only[tk,HJ,hw,x8,Bool.not_not,ll,Y];cases decide (k+1<=5) with
    |false=>cases kE x<;>rfl
    |true=>cases kE x<;>rfl
   rw[iZ,step,List.all_cons];cases hn:kE x with
   |false=>rfl
   |true=>
    simp only[Bool.true_and];cases aC:decide (k+1<=5) with
    |false=>
     have:decide (k+(x::r).length<=5)=false:=by simp only[decide_eq_false_iff_not,cW] at aC ⊢;omega
     rw[this];simp
    |true=>
     simp only[ad];rw[ih (k+1) (fun y hy=>hr y (cf _ hy)) (by simpa using aC)]
     have e1:k+1+r.length=k+(x::r).length:=by simp only[cW];omega
     rw[e1]
 have key:=fold (bN (47:UInt8) s) 0 (fun x hx=>qN 47 s x hx) (Nat.zero_le _)
 have Ln:iZ tk wg (bN (47:UInt8) s) (((),((),())),((false,()),(((0:Int),()),())))=some (bif gK s then(.inl (((),()),((false,()),()))) else(.inr (((),()),((false,()),())))):=by
  refine key.trans ?_
  unfold gK;rw[Nat.zero_add]
 simp only[f199,LD,ad,Ln,Y];cases gK s<;>rfl
def oJ(s:B):Bool:=s.all (fun b=>(b.toNat:Int)==10||within b.toNat 32 126)&&decide (s.length<=80)
theorem aic(b:UInt8):IntKind.i64.wrap (b.toNat:Int)=(b.toNat:Int):=by
 have:=b.toNat_lt;rw[c' (by omega) (by omega)]
theorem ake(a)(hs:cw a.1.1.length):f92 a=some ((oJ a.1.1,()),()):=by
 obtain⟨⟨s,u⟩,b7⟩:=a;have hs:s.length<=2097152:=hs;have key:J6 ((s,((0:Int),())),())=some (bif allI (fun _ b=>(b.toNat:Int)==10||within b.toNat 32 126) 0 s then .inr ((s,()),()) else .inl ((false,()),())):=by
  refine gv CA s (fun i=>((s,((i:Int),())),())) _ _ _ (fun i x hx=>?_) ?_
  ·have hi:=da hx;have hw:aA i:=by unfold aA;omega
   have hne:((x.toNat:Int) !=10)=!((x.toNat:Int)==10):=rfl;simp only[CA,ct hi,ad,Jj,cd,hx,Y,hne,oI,aic];cases ((x.toNat:Int)==10)<;>cases within (x.toNat:Int) 32 126<;>simp only[bu,bJ,ad,ak,Y,b9 hw,Bool.or_true,Bool.true_or,Bool.or_false]
  ·simp only[CA,dL,ak]
 rw[hH] at key;simp only[f92,key,Y,oJ];cases List.all s (fun b=>(b.toNat:Int)==10||within b.toNat 32 126) with
 |false=>rfl
 |true=>have:=DD s.length 80;simp only[ad,Bool.true_and];rw[<-this];rfl
theorem agd(a):f196 a=some ((within a.1.1 32 126,()),()):=by
 simp only[f196,within,ge_iff_le];cases decide ((32:Int)<=a.1.1)<;>rfl
theorem ahf(a)(hs:cw a.1.1.length):f148 a=some ((oJ a.1.1,()),()):=by
 obtain⟨⟨s,u⟩,b7⟩:=a;have hs:s.length<=2097152:=hs;have key:I7 ((s,((s.length:Int),((0:Int),()))),())=some (bif allI (fun _ b=>(b.toNat:Int)==10||within b.toNat 32 126) 0 s then .inr ((),()) else .inl ((false,()),())):=by
  refine gv BK s (fun i=>((s,((s.length:Int),((i:Int),()))),())) _ _ _ (fun i x hx=>?_) ?_
  ·have hi:=da hx;have hw:aA i:=by unfold aA;omega
   have hne:((x.toNat:Int) !=10)=!((x.toNat:Int)==10):=rfl;simp only[BK,ct hi,ad,GH,cd,hx,Y,hne,agd];cases ((x.toNat:Int)==10)<;>cases within (x.toNat:Int) 32 126<;>simp only[bu,bJ,ad,ak,Y,b9 hw,Bool.or_true,Bool.true_or,Bool.or_false]
  ·simp only[BK,dL,ak]
 rw[hH] at key;have azc:decide ((s.length:Int)>80)=!decide (s.length<=80):=by by_cases h:s.length<=80<;>simp only[h,decide_true,decide_false,bu,bJ,dY,decide_eq_false_iff_not]<;>omega
 simp only[f148,key,Y,oJ,azc];cases decide (s.length<=80)<;>cases List.all s (fun b=>(b.toNat:Int)==10||within b.toNat 32 126)<;>rfl
def e7(e:aB):Bool:=gK e.path&&(bif e.kind==1 then within e.mode 0 7&&e.text==[] else bif e.kind==2 then within e.mode 0 7&&oJ e.text else bif e.kind==3 then e.mode==0&&gK e.text else false)
abbrev mf(e:aB):Prop:=cw e.path.length/\cw e.text.length
theorem Ql(a)(h1:cw a.1.1.1.length)(h2:cw a.1.1.2.2.2.1.length):f143 a=some ((e7 ⟨a.1.1.1,a.1.1.2.1,a.1.1.2.2.1,a.1.1.2.2.2.1⟩,()),()):=by
 obtain⟨⟨⟨p,k,m,t,u⟩,b7⟩,nV⟩:=a;have e1:=GQ ((p,()),()) h1;have e2:=GQ ((t,()),()) h2;have bz:=ake ((t,()),()) h2;simp only[f143,e1,e2,bz,oI,Y,e7];cases gK p with
 |false=>rfl
 |true=>cases (k==1)<;>cases (k==2)<;>cases (k==3)<;>cases within m 0 7<;>cases (m==0)<;>rfl
theorem ais(a)(h1:cw a.1.1.1.length)(h2:cw a.1.1.2.2.2.1.length):f152 a=some ((e7 ⟨a.1.1.1,a.1.1.2.1,a.1.1.2.2.1,a.1.1.2.2.2.1⟩,()),()):=by
 obtain⟨⟨⟨p,k,m,t,u⟩,b7⟩,nV⟩:=a;have e1:=GS ((p,()),()) h1;have e2:=GS ((t,()),()) h2;have bz:=ahf ((t,()),()) h2;have hm:within m 0 7=true\/(m==0)=false:=by
  cases h:(m==0) with
  |false=>exact .inr rfl
  |true=>left;rw[show m=(0:Int) from eq_of_beq h];rfl
 simp only[f152,Ju,e1,e2,bz,Y,e7,pd,n',Bool.not_not];unfold within at hm ⊢;cases gK p with
 |false=>rfl
 |true=>
  cases h0:decide ((0:Int)<=m)<;>cases iA:decide (m<=7)<;>rw[h0,iA] at hm<;>cases ada:(m==0)<;>rw[ada] at hm<;>
   first|(simp at hm;done)|(simp only[bu,bJ,ad,ak,Y,ada,e2,bz,Bool.and_true,Bool.and_false,Bool.true_and,Bool.false_and];cases (k==1)<;>cases (k==2)<;>cases (k==3)<;>rfl)
abbrev AU:Shape:=⟨[aO 0 .entry,am 1,aj 4,ar 5,aj 6],[],36⟩
abbrev ta:List aR:=[(.exit 0,⟨[aO 0 .entry,am 1,aj 4,ar 5,aj 6],[],36⟩)]
noncomputable def BA(y:AU.J):bP AU ta:=
 bif(decide (y.1.2.2.2.2.1<(y.1.1.length:Int))) then
(aS y.1.1 y.1.2.2.2.2.1).bind fun a=>
 bif(Op.bytesLess a.path y.1.2.1) then
 some (.inl ((y.1.1,y.1.2.1,y.1.2.2.1,y.1.2.2.2.1,(IntKind.i64.wrap (y.1.2.2.2.2.1+(1:Int))),()),()))
else
 some (.inr ((y.1.1,y.1.2.1,y.1.2.2.1,y.1.2.2.2.1,y.1.2.2.2.2.1,()),()))
else
 some (.inr ((y.1.1,y.1.2.1,y.1.2.2.1,y.1.2.2.2.1,y.1.2.2.2.2.1,()),()))
noncomputable def I0:AU.J->Option (aG ta):=bA BA
theorem am6:aV O (ap (codeOf Tryz.f194) 1 28) (aX AU ta I0):=bR g0 (by kernel_rfl) ag fun y=>by kernel_rfl
abbrev i194:Shape:=⟨[aO 0 .entry,am 1],[],36⟩
abbrev YI:Shape:=⟨[aj 4,ar 5],[],36⟩
noncomputable def f194(a:i194.J):Option YI.J:=
(I0 ((a.1.1,a.1.2.1,(0:Int),false,(0:Int),()),())).bind fun b=>
 bif(decide (b.1.2.2.2.2.1<(b.1.1.length:Int))) then
(aS b.1.1 b.1.2.2.2.2.1).bind fun c=>
 some ((b.1.2.2.2.2.1,(c.path==b.1.2.1),()),())
else
 some ((b.1.2.2.2.2.1,false,()),())
noncomputable def DS:aH:=aL af Tryz.f194 i194 YI [] f194
theorem z194:aE O 194 DS:=aM g0 Tryz.func194 (by kernel_rfl) (a7 am6 ag) (fun y=>by kernel_rfl) fun a=>by kernel_rfl
noncomputable abbrev avE:a8:=[(194,DS)]
theorem awB:aT O (aZ af avE):=aY ⟨z194,⟨⟩⟩
abbrev i144:Shape:=⟨[aO 0 .entry,am 1],[],26⟩
abbrev Zh:Shape:=⟨[ar 4],[],26⟩
noncomputable def f144(a:i144.J):Option Zh.J:=
(f194 ((a.1.1,a.1.2.1,()),())).bind fun b=>
 bif(!(a.1.2.1==([]:B))) then
 bif b.1.2.1 then
(aS a.1.1 b.1.1).bind fun c=>
 some (((c.kind==(1:Int)),()),())
else
 some ((false,()),())
else
 some ((true,()),())
noncomputable def L8:aH:=aL af Tryz.f144 i144 Zh [] f144
theorem XL:aE O 144 L8:=aM awB Tryz.func144 (by kernel_rfl) ag (fun y=>by kernel_rfl) fun a=>by kernel_rfl
abbrev A6:Shape:=⟨[am 0,aj 3],[],18⟩
abbrev Iq:List aR:=[(.ret,⟨[am 2],[],18⟩),(.exit 0,⟨[],[],18⟩)]
noncomputable def Jv(y:A6.J):bP A6 Iq:=
 bif(decide (y.1.2.1>=(0:Int))) then
(aS y.1.1 y.1.2.1).bind fun a=>
 bif((a.toNat:Int)==(47:Int)) then
(bq y.1.1 (0:Int) y.1.2.1).bind fun b=>
 some (.inr (.inl ((b,()),())))
else
 some (.inl ((y.1.1,(IntKind.i64.wrap (y.1.2.1-(1:Int))),()),()))
else
 some (.inr (.inr ((),())))
noncomputable def I8:A6.J->Option (aG Iq):=bA Jv
theorem anq:aV O (ap (codeOf Tryz.f145) 1 26) (aX A6 Iq I8):=bR g0 (by kernel_rfl) ag fun y=>by kernel_rfl
abbrev i145:Shape:=⟨[am 0],[],18⟩
abbrev Zg:Shape:=⟨[am 2],[],18⟩
noncomputable def f145(a:i145.J):Option Zg.J:=
(I8 ((a.1.1,(IntKind.i64.wrap ((a.1.1.length:Int)-(1:Int))),()),())).bind fun b=>
(match b with
|.inl c=>
 some ((c.1.1,()),())
|.inr d=>
 some ((([]:B),()),()))
noncomputable def L7:aH:=aL af Tryz.f145 i145 Zg [] f145
theorem z145:aE O 145 L7:=aM g0 Tryz.func145 (by kernel_rfl) (a7 anq ag) (fun y=>by kernel_rfl) fun a=>by kernel_rfl
abbrev AK:Shape:=⟨[am 0,(1,.aq (.d (.int .u8))),aj 5],[],19⟩
abbrev H6:List aR:=[(.ret,⟨[aj 4],[],19⟩),(.exit 0,⟨[],[],19⟩)]
noncomputable def Jp(y:AK.J):bP AK H6:=
 bif(decide (y.1.2.2.1>=(0:Int))) then
(aS y.1.1 y.1.2.2.1).bind fun a=>
 bif((a.toNat:Int)==y.1.2.1) then
 some (.inr (.inl ((y.1.2.2.1,()),())))
else
 some (.inl ((y.1.1,y.1.2.1,(IntKind.i64.wrap (y.1.2.2.1-(1:Int))),()),()))
else
 some (.inr (.inr ((),())))
noncomputable def IV:AK.J->Option (aG H6):=bA Jp
theorem amT:aV O (ap (codeOf Tryz.f267) 1 26) (aX AK H6 IV):=bR g0 (by kernel_rfl) ag fun y=>by kernel_rfl
abbrev i267:Shape:=⟨[am 0,(1,.aq (.d (.int .u8)))],[],19⟩
abbrev X_:Shape:=⟨[aj 4],[],19⟩
noncomputable def f267(a:i267.J):Option X_.J:=
(IV ((a.1.1,a.1.2.1,(IntKind.i64.wrap ((a.1.1.length:Int)-(1:Int))),()),())).bind fun b=>
(match b with
|.inl c=>
 some ((c.1.1,()),())
|.inr d=>
 some ((((-1):Int),()),()))
noncomputable def _t:aH:=aL af Tryz.f267 i267 X_ [] f267
theorem asp:aE O 267 _t:=aM g0 Tryz.func267 (by kernel_rfl) (a7 amT ag) (fun y=>by kernel_rfl) fun a=>by kernel_rfl
noncomputable abbrev auU:a8:=[(267,_t)]
theorem awg:aT O (aZ af auU):=aY ⟨asp,⟨⟩⟩
abbrev i233:Shape:=⟨[am 0,(1,.aq (.d (.int .u8)))],[],8⟩
abbrev Yj:Shape:=⟨[aj 4],[],8⟩
noncomputable def f233(a:i233.J):Option Yj.J:=
(f267 ((a.1.1,a.1.2.1,()),())).bind fun b=>
 some ((b.1.1,()),())
noncomputable def _D:aH:=aL af Tryz.f233 i233 Yj [] f233
theorem z233:aE O 233 _D:=aM awg Tryz.func233 (by kernel_rfl) ag (fun y=>by kernel_rfl) fun a=>by kernel_rfl
noncomputable abbrev ava:a8:=[(199,LZ),(233,_D)]
theorem awp:aT O (aZ af ava):=aY ⟨XH,z233,⟨⟩⟩
abbrev i200:Shape:=⟨[am 0],[],11⟩
abbrev YE:Shape:=⟨[am 2],[],11⟩
noncomputable def f200(a:i200.J):Option YE.J:=
(f199 ((a.1.1,()),())).bind fun b=>
 bif(!b.2.1.1) then
 some ((([]:B),()),())
else
(f233 ((a.1.1,(47:Int),()),())).bind fun c=>
(bq a.1.1 (0:Int) (gB c.1.1 (0:Int))).bind fun d=>
 some ((d,()),())
noncomputable def _S:aH:=aL af Tryz.f200 i200 YE [] f200
theorem asI:aE O 200 _S:=aM awp Tryz.func200 (by kernel_rfl) ag (fun y=>by kernel_rfl) fun a=>by kernel_rfl
abbrev i283:Shape:=⟨[am 0],[],6⟩
abbrev X4:Shape:=⟨[ar 2],[],6⟩
noncomputable def f283(a:i283.J):Option X4.J:=
 some (((!(a.1.1==a.1.1)),()),())
noncomputable def _m:aH:=aL af Tryz.f283 i283 X4 [] f283
theorem ash:aE O 283 _m:=aM g0 Tryz.func283 (by kernel_rfl) ag (fun y=>by kernel_rfl) fun a=>by kernel_rfl
noncomputable abbrev auN:a8:=[(283,_m)]
theorem awb:aT O (aZ af auN):=aY ⟨ash,⟨⟩⟩
abbrev i268:Shape:=⟨[am 0,am 1],[],20⟩
abbrev X9:Shape:=⟨[aj 4],[],20⟩
noncomputable def f268(a:i268.J):Option X9.J:=
(f283 ((a.1.1,()),())).bind fun b=>
(f283 ((a.1.2.1,()),())).bind fun c=>
 bif b.1.1 then
 bif c.1.1 then
 some (((0:Int),()),())
else
 some ((((-1):Int),()),())
else
 bif c.1.1 then
 some (((1:Int),()),())
else
 bif(Op.bytesLess a.1.1 a.1.2.1) then
 some ((((-1):Int),()),())
else
 bif(!(Op.bytesLess a.1.1 a.1.2.1||a.1.1==a.1.2.1)) then
 some (((1:Int),()),())
else
 some (((0:Int),()),())
noncomputable def _s:aH:=aL af Tryz.f268 i268 X9 [] f268
theorem aso:aE O 268 _s:=aM awb Tryz.func268 (by kernel_rfl) ag (fun y=>by kernel_rfl) fun a=>by kernel_rfl
noncomputable abbrev auT:a8:=[(268,_s)]
theorem awf:aT O (aZ af auT):=aY ⟨aso,⟨⟩⟩
abbrev i235:Shape:=⟨[ck 0 [ah,ba,ba,ah],ck 1 [ah,ba,ba,ah]],[],10⟩
abbrev Yi:Shape:=⟨[aj 4],[],10⟩
noncomputable def f235(a:i235.J):Option Yi.J:=
(f268 ((a.1.1.1,a.1.2.1.1,()),())).bind fun b=>
 some ((b.1.1,()),())
noncomputable def _C:aH:=aL af Tryz.f235 i235 Yi [] f235
theorem asy:aE O 235 _C:=aM awf Tryz.func235 (by kernel_rfl) ag (fun y=>by kernel_rfl) fun a=>by kernel_rfl
noncomputable abbrev aql:a8:=[(235,_C)]
theorem WF:aT O (aZ af aql):=aY ⟨asy,⟨⟩⟩
abbrev zp:Shape:=⟨[aO 0 .entry,(2,.aq (.fn 235 [])),ax 4 4 0,aj 6,ar 7,aj 8,aj 9,aj 10],[aw 4 [ah,ba,ba,ah]],49⟩
abbrev F6:List aR:=[(.exit 0,⟨[aO 0 .entry,(2,.aq (.fn 235 [])),ax 4 4 0,aj 6,ar 7,aj 8,aj 9],[aw 4 [ah,ba,ba,ah]],49⟩)]
noncomputable def zD(y:zp.J):bP zp F6:=
 bif(decide (y.1.2.2.2.2.2.2.1<y.1.2.2.2.2.2.2.2.1)) then
(fC .u64 (IntKind.u64.wrap (IntKind.i64.wrap (y.1.2.2.2.2.2.2.1+y.1.2.2.2.2.2.2.2.1))) (1:Int)).bind fun a=>
(aS y.1.1 (IntKind.i64.wrap a)).bind fun b=>
(f235 (((b.path,b.kind,b.mode,b.text,()),(y.2.1.1,y.2.1.2.1,y.2.1.2.2.1,y.2.1.2.2.2.1,()),()),())).bind fun c=>
 bif(decide (c.1.1<(0:Int))) then
 some (.inl ((y.1.1,(),(),y.1.2.2.2.1,y.1.2.2.2.2.1,y.1.2.2.2.2.2.1,(IntKind.i64.wrap ((IntKind.i64.wrap a)+(1:Int))),y.1.2.2.2.2.2.2.2.1,()),(y.2.1.1,y.2.1.2.1,y.2.1.2.2.1,y.2.1.2.2.2.1,()),()))
else
 some (.inl ((y.1.1,(),(),y.1.2.2.2.1,y.1.2.2.2.2.1,y.1.2.2.2.2.2.1,y.1.2.2.2.2.2.2.1,(IntKind.i64.wrap a),()),(y.2.1.1,y.2.1.2.1,y.2.1.2.2.1,y.2.1.2.2.2.1,()),()))
else
 some (.inr ((y.1.1,(),(),y.1.2.2.2.1,y.1.2.2.2.2.1,y.1.2.2.2.2.2.1,y.1.2.2.2.2.2.2.1,()),(y.2.1.1,y.2.1.2.1,y.2.1.2.2.1,y.2.1.2.2.2.1,()),()))
noncomputable def zB:zp.J->Option (aG F6):=bA zD
theorem ai5:aV O (ap (codeOf Tryz.f234) 1 60) (aX zp F6 zB):=bR WF (by kernel_rfl) ag fun y=>by kernel_rfl
abbrev VR:Shape:=⟨[aO 0 .entry,ck 1 [ah,ba,ba,ah],(2,.aq (.fn 235 []))],[],49⟩
abbrev Vn:Shape:=⟨[aj 6,ar 7],[],49⟩
noncomputable def CP(a:VR.J):Option Vn.J:=
(zB ((a.1.1,(),(),(0:Int),false,(a.1.1.length:Int),(0:Int),(a.1.1.length:Int),()),(a.1.2.1.1,a.1.2.1.2.1,a.1.2.1.2.2.1,a.1.2.1.2.2.2.1,()),())).bind fun b=>
 bif(decide (b.1.2.2.2.2.2.2.1<b.1.2.2.2.2.2.1)) then
(aS b.1.1 b.1.2.2.2.2.2.2.1).bind fun c=>
(f235 (((c.path,c.kind,c.mode,c.text,()),(b.2.1.1,b.2.1.2.1,b.2.1.2.2.1,b.2.1.2.2.2.1,()),()),())).bind fun d=>
 some ((b.1.2.2.2.2.2.2.1,(d.1.1==(0:Int)),()),())
else
 some ((b.1.2.2.2.2.2.2.1,false,()),())
noncomputable def Wq:aH:=aL af Tryz.f234 VR Vn [] CP
theorem aoC:aE O 234 Wq:=aM WF Tryz.func234 (by kernel_rfl) (a7 ai5 ag) (fun y=>by kernel_rfl) fun a=>by kernel_rfl
noncomputable abbrev au9:a8:=[(234,Wq)]
theorem awo:aT O (aZ af au9):=aY ⟨aoC,⟨⟩⟩
abbrev i201:Shape:=⟨[aO 0 .entry,am 1],[],12⟩
abbrev YD:Shape:=⟨[aj 4,ar 5],[],12⟩
noncomputable def f201(a:i201.J):Option YD.J:=
(CP ((a.1.1,(a.1.2.1,(0:Int),(0:Int),([]:B),()),(),()),())).bind fun b=>
 some ((b.1.1,b.1.2.1,()),())
noncomputable def LY:aH:=aL af Tryz.f201 i201 YD [] f201
theorem z201:aE O 201 LY:=aM awo Tryz.func201 (by kernel_rfl) ag (fun y=>by kernel_rfl) fun a=>by kernel_rfl
theorem wM:∀a:B,Op.bytesLess a a=false:=by
 intro a;induction a with
 |nil=>rfl
 |cons b r ih=>simp[Op.bytesLess,ih]
theorem vS:∀a b c:B,Op.bytesLess a b=true->Op.bytesLess b c=true->Op.bytesLess a c=true:=by
 intro a;induction a with
 |nil=>intro b c h1 h2;cases c with
  |nil=>cases b<;>simp[Op.bytesLess] at h2
  |cons z c=>rfl
 |cons x a ih=>
  intro b c h1 h2;cases b with
  |nil=>simp[Op.bytesLess] at h1
  |cons y b=>
   cases c with
   |nil=>simp[Op.bytesLess] at h2
   |cons z c=>
    simp only[Op.bytesLess,Bool.or_eq_true,dY,bC,beq_iff_eq] at h1 h2 ⊢;rcases h1 with h1|⟨rfl,h1⟩
    ·rcases h2 with h2|⟨rfl,h2⟩
     ·exact .inl (UInt8.lt_trans h1 h2)
     ·exact .inl h1
    ·rcases h2 with h2|⟨rfl,h2⟩
     ·exact .inl h2
     ·exact .inr ⟨rfl,ih b c h1 h2⟩
theorem aqb:∀a b:B,Op.bytesLess a b=false->(a==b)=false->Op.bytesLess b a=true:=by
 intro a;induction a with
 |nil=>intro b h1 h2;cases b with
  |nil=>simp at h2
  |cons y b=>simp[Op.bytesLess] at h1
 |cons x a ih=>
  intro b h1 h2;cases b with
  |nil=>rfl
  |cons y b=>
   simp only[Op.bytesLess,Bool.or_eq_false_iff,decide_eq_false_iff_not,Bool.and_eq_false_iff,beq_eq_false_iff_ne,ne_eq] at h1;simp only[Op.bytesLess,Bool.or_eq_true,dY,bC,beq_iff_eq];by_cases hxy:x=y
   ·subst hxy;refine .inr ⟨rfl,ih b ?_ ?_⟩
    ·rcases h1.2 with h|h
     ·exact absurd rfl h
     ·exact h
    ·cases h:(a==b) with
     |false=>rfl
     |true=>rw[eq_of_beq h] at h2;simp at h2
   ·exact .inl (by
     have:=h1.1;rcases UInt8.lt_or_lt_of_ne (fun h=>hxy h) with h|h
     ·exact absurd h this
     ·exact h)
theorem aop{a b:B}(h:Op.bytesLess a b=true):Op.bytesLess b a=false:=by
 cases h2:Op.bytesLess b a with
 |false=>rfl
 |true=>have:=vS a b a h h2;rw[wM] at this;cases this
theorem arZ{a b:B}(h:Op.bytesLess a b=true):(a==b)=false:=by
 cases h2:(a==b) with
 |false=>rfl
 |true=>rw[eq_of_beq h2,wM] at h;cases h
theorem aoo:∀(s:B) (i:Nat),i<s.length->Op.bytesLess (s.take i) s=true:=by
 intro s;induction s with
 |nil=>intro i h;simp at h
 |cons b r ih=>
  intro i h;cases i with
  |zero=>rfl
  |succ i=>simp only[List.take_succ_cons,Op.bytesLess];simp[ih i (by simpa using h)]
def lM(c:UInt8)(s:B):Nat->Option Nat
 |0=>none
 |n+1=>match s[n]? with
  |some b=>bif(b.toNat:Int)==(c.toNat:Int) then some n else lM c s n
  |none=>none
theorem O5{c:UInt8}{s:B}:∀{n i:Nat},lM c s n=some i->i<n/\i<s.length:=by
 intro n;induction n with
 |zero=>intro i h;cases h
 |succ n ih=>
  intro i h;simp only[lM] at h;split at h
  ·rename_i b hb;cases hc:((b.toNat:Int)==(c.toNat:Int)) with
   |true=>rw[hc] at h;cases h;exact⟨Nat.lt_succ_self _,da hb⟩
   |false=>rw[hc] at h;have:=ih h;omega
  ·cases h
def jr(s:B):B:=match lM 47 s s.length with
 |some i=>s.take i
 |none=>[]
theorem akt{s:B}(h:(jr s==[])=false):Op.bytesLess (jr s) s=true:=by
 unfold jr at h ⊢;split
 ·rename_i i hi;exact aoo s i (O5 hi).2
 ·rename_i hi;rw[hi] at h;cases h
theorem UJ(a)(hs:cw a.1.1.length):f145 a=some ((jr a.1.1,()),()):=by
 obtain⟨⟨s,u⟩,b7⟩:=a;have hs:s.length<=2097152:=hs;have key:∀n,n<=s.length->I8 ((s,((n:Int)-1,())),())=some (match lM 47 s n with|some i=>.inl ((s.take i,()),())|none=>.inr ((),())):=by
  intro n;induction n with
  |zero=>intro _;exact cC (by rfl)
  |succ n ih=>
   intro hn;have e:((n+1:Nat):Int)-1=(n:Int):=by omega
   obtain⟨b,hb⟩:∃b,s[n]? =some b:=⟨s[n],dZ hn⟩;have h0:decide ((n:Int)>=0)=true:=by simp
   rw[e];simp only[lM,hb];cases hc:((b.toNat:Int)==((47:UInt8).toNat:Int)) with
   |true=>
    refine cC ?_
    simp only[Jv,h0,ad,cd,hb,Y];rw[show((b.toNat:Int)==47)=true from hc,gw (by omega)]
    rfl
   |false=>
    refine(d' ?_).trans (ih (by omega))
    simp only[Jv,h0,ad,cd,hb,Y];rw[show((b.toNat:Int)==47)=false from hc,c' (by omega) (by omega)]
    rfl
 have hw:IntKind.i64.wrap ((s.length:Int)-1)=(s.length:Int)-1:=c' (by omega) (by omega)
 simp only[f145,hw,key s.length (Nat.le_refl _),Y,jr];cases lM 47 s s.length<;>rfl
theorem agl(a)(hs:cw a.1.1.length)(azd:a.1.2.1=47):f267 a=some (((match lM 47 a.1.1 a.1.1.length with|some i=>(i:Int)|none=>-1),()),()):=by
 obtain⟨⟨s,c,u⟩,b7⟩:=a;obtain rfl:c=47:=azd;have hs:s.length<=2097152:=hs;have key:∀n,n<=s.length->IV ((s,((47:Int),((n:Int)-1,()))),())=some (match lM 47 s n with|some i=>.inl (((i:Int),()),())|none=>.inr ((),())):=by
  intro n;induction n with
  |zero=>intro _;exact cC (by rfl)
  |succ n ih=>
   intro hn;have e:((n+1:Nat):Int)-1=(n:Int):=by omega
   obtain⟨b,hb⟩:∃b,s[n]? =some b:=⟨s[n],dZ hn⟩;have h0:decide ((n:Int)>=0)=true:=by simp
   rw[e];simp only[lM,hb];cases hc:((b.toNat:Int)==((47:UInt8).toNat:Int)) with
   |true=>
    refine cC ?_
    simp only[Jp,h0,ad,cd,hb,Y];rw[show((b.toNat:Int)==47)=true from hc]
    rfl
   |false=>
    refine(d' ?_).trans (ih (by omega))
    simp only[Jp,h0,ad,cd,hb,Y];rw[show((b.toNat:Int)==47)=false from hc,c' (by omega) (by omega)]
    rfl
 have hw:IntKind.i64.wrap ((s.length:Int)-1)=(s.length:Int)-1:=c' (by omega) (by omega)
 simp only[f267,hw,key s.length (Nat.le_refl _),Y];cases lM 47 s s.length<;>rfl
theorem akp(a)(hs:cw a.1.1.length):f200 a=some (((bif gK a.1.1 then jr a.1.1 else []),()),()):=by
 obtain⟨⟨s,u⟩,b7⟩:=a;have hs:s.length<=2097152:=hs;have e1:=GS ((s,()),()) hs;have e2:=agl ((s,((47:Int),())),()) hs rfl;simp only[f200,e1,Y,f233,e2];cases gK s with
 |false=>rfl
 |true=>
  simp only[bu,ak,ad];unfold jr;cases hl:lM 47 s s.length with
  |none=>
   have:gB (-1) 0=0:=by decide
   simp only[this];have:=gw (xs:=s) (b:=0) (Nat.zero_le _);have this:bq s 0 0=some (s.take 0):=this;rw[this];rfl
  |some i=>
   have hi:=(O5 hl).2;have:gB (i:Int) 0=(i:Int):=by unfold gB;rw[if_neg (by omega)]
   simp only[this];rw[gw (by omega)];rfl
def bV(t:List aB)(p:B):Nat:=(t.takeWhile fun e=>Op.bytesLess e.path p).length
def hd(t:List aB)(p:B):Bool:=match t[bV t p]? with
 |some e=>e.path==p
 |none=>false
def k5(t:List aB)(p:B):Bool:=p==[]||match t[bV t p]? with
 |some e=>e.path==p&&e.kind==1
 |none=>false
theorem ra(t:List aB)(p:B):bV t p<=t.length:=(List.takeWhile_prefix _).length_le
theorem JH(a)(hs:cw a.1.1.length):f194 a=some (((bV a.1.1 a.1.2.1:Int),(hd a.1.1 a.1.2.1,())),()):=by
 obtain⟨⟨t,p,u⟩,b7⟩:=a;have hs:t.length<=2097152:=hs;have key:I0 ((t,(p,((0:Int),(false,((0:Int),()))))),())=_:=Gn BA t (fun i (_:Unit)=>((t,(p,((0:Int),(false,((i:Int),()))))),()))
  (fun i e _=>some (bif Op.bytesLess e.path p then .inl () else .inr ((((t,(p,((0:Int),(false,((i:Int),()))))),())):aG ta))) (fun _=>((t,(p,((0:Int),(false,((t.length:Int),()))))),())) (fun i e s he=>?_) (fun s=>?_) ()
 ·have fold:∀(r:List aB) (k:Nat),k+r.length=t.length->fc (fun i (e:aB) (_:Unit)=>some (bif Op.bytesLess e.path p then .inl () else .inr ((((t,(p,((0:Int),(false,((i:Int),()))))),())):aG ta))) (fun _=>(((t,(p,((0:Int),(false,((t.length:Int),()))))),()):aG ta)) k r ()=
    some ((t,(p,((0:Int),(false,(((k+(r.takeWhile fun e=>Op.bytesLess e.path p).length:Nat):Int),()))))),()):=by
   intro r;induction r with
   |nil=>intro k hk;simp only[fc,List.takeWhile_nil,List.length_nil,Nat.add_zero] at hk ⊢;rw[hk]
   |cons e r ih=>
    intro k hk;simp only[fc,List.takeWhile_cons];cases hl:Op.bytesLess e.path p with
    |false=>rfl
    |true=>
     simp only[ad,if_true,cW];rw[ih (k+1) (by simp only[cW] at hk;omega)]
     have:k+1+(r.takeWhile fun e=>Op.bytesLess e.path p).length=k+((r.takeWhile fun e=>Op.bytesLess e.path p).length+1):=by omega
     rw[this]
  rw[fold t 0 (Nat.zero_add _),Nat.zero_add] at key;have hk:(t.takeWhile fun e=>Op.bytesLess e.path p).length=bV t p:=rfl
  rw[hk] at key;simp only[f194,key,Y,hd,cd];cases ay:t[bV t p]? with
  |none=>
   have:=List.getElem?_eq_none_iff.1 ay;have:decide ((bV t p:Int)<(t.length:Int))=false:=by simp only[decide_eq_false_iff_not];omega
   rw[this];rfl
  |some e=>rw[ct (da ay)];rfl
 ·have hi:=da he;have hw:aA i:=by unfold aA;omega
  simp only[BA,ct hi,ad,cd,he,Y,b9 hw];cases Op.bytesLess e.path p<;>rfl
 ·simp only[BA,dL,ak]
theorem S1(a)(hs:cw a.1.1.length):f144 a=some ((k5 a.1.1 a.1.2.1,()),()):=by
 obtain⟨⟨t,p,u⟩,b7⟩:=a;have e1:=JH ((t,(p,())),()) hs;simp only[f144,e1,Y,k5,hd,cd];cases (p==[]) with
 |true=>rfl
 |false=>
  cases ay:t[bV t p]? with
  |none=>rfl
  |some e=>simp only[bJ,ad,Y,Bool.false_or];cases (e.path==p)<;>rfl
def f'(t:List aB):Prop:=t.Pairwise fun a b=>Op.bytesLess a.path b.path=true
theorem f'.take{t:List aB}(h:f' t)(i:Nat):f' (t.take i):=List.Pairwise.sublist (List.take_sublist i t) h
theorem kX:∀{t:List aB} {p:B},f' t->∀(h:Nat) (e:aB),t[h]? =some e->Op.bytesLess e.path p=decide (h<bV t p):=by
 intro t p;induction t with
 |nil=>intro _ h e he;simp at he
 |cons x t ih=>
  intro ha h e he;have fJ:=List.pairwise_cons.1 ha;unfold bV;rw[List.takeWhile_cons];cases hx:Op.bytesLess x.path p with
  |true=>
   simp only[if_true,cW];cases h with
   |zero=>simp only[List.getElem?_cons_zero,bE] at he;subst he;rw[hx];simp
   |succ h=>
    simp only[List.getElem?_cons_succ] at he;rw[ih fJ.2 h e he];unfold bV;congr 1;apply propext;omega
  |false=>
   have:(decide (h<(if false=true then x::t.takeWhile (fun e=>Op.bytesLess e.path p) else []).length))=false:=by simp
   rw[this];cases h with
   |zero=>simp only[List.getElem?_cons_zero,bE] at he;subst he;exact hx
   |succ h=>
    simp only[List.getElem?_cons_succ] at he;have h2:=fJ.1 e (eJ he);cases h3:Op.bytesLess e.path p with
    |false=>rfl
    |true=>have:=vS _ _ _ h2 h3;rw[hx] at this;cases this
def uu(a b:B):Int:=bif Op.bytesLess a b then-1 else bif a==b then 0 else 1
theorem GR(a):f235 a=some ((uu a.1.1.1 a.1.2.1.1,()),()):=by
 obtain⟨⟨⟨p,eC⟩,⟨⟨q,gn⟩,jY⟩⟩,aeb⟩:=a;have h1:(p==p)=true:=by simp
 have h2:(q==q)=true:=by simp
 simp only[f235,f268,f283,Y,h1,h2,bu,ak,uu];cases Op.bytesLess p q<;>cases (p==q)<;>rfl
theorem SS(a b:B):decide (uu a b<0)=Op.bytesLess a b:=by
 unfold uu;cases Op.bytesLess a b<;>cases (a==b)<;>rfl
theorem ajZ(a b:B):(uu a b==0)=(a==b):=by
 unfold uu;cases h:Op.bytesLess a b with
 |true=>rw[arZ h];rfl
 |false=>cases (a==b)<;>rfl
theorem atz{n:Nat}(h:n<=1099511627776):fC .u64 (IntKind.u64.wrap (IntKind.i64.wrap (n:Int))) 1=some (((n/2:Nat)):Int):=by
 rw[c' (by omega) (by omega)]
 have:IntKind.u64.wrap (n:Int)=(n:Int):=by
  simp[IntKind.wrap,IntKind.bits,IntKind.signed];omega
 rw[this];unfold fC;rw[if_neg (by decide)]
 congr 1
 show Int.fdiv (n:Int) 2=_;rw[Int.fdiv_eq_ediv_of_nonneg _ (by decide)]
 omega
theorem Pb(a)(hs:cw a.1.1.length)(ha:f' a.1.1):f201 a=some (((bV a.1.1 a.1.2.1:Int),(hd a.1.1 a.1.2.1,())),()):=by
 obtain⟨⟨t,p,u⟩,b7⟩:=a;have hs:t.length<=2097152:=hs;have vf:=ra t p;have key:∀d i j:Nat,j-i=d->i<=bV t p->bV t p<=j->j<=t.length->
   zB ((t,((),((),((0:Int),(false,((t.length:Int),((i:Int),((j:Int),())))))))),((p,((0:Int),((0:Int),(([]:B),())))),()))=
    some (((t,((),((),((0:Int),(false,((t.length:Int),((bV t p:Int),()))))))),((p,((0:Int),((0:Int),(([]:B),())))),()))):=by
  intro d;induction d using Nat.strongRecOn with
  |_ d ih=>
   intro i j aa hi hj hl;by_cases qw:i<j
   ·have bU:(i+j)/2<t.length:=by omega
    obtain⟨e,he⟩:∃e,t[(i+j)/2]? =some e:=⟨t[(i+j)/2],dZ bU⟩;have hsh:fC .u64 (IntKind.u64.wrap (IntKind.i64.wrap ((i:Int)+(j:Int)))) 1=some ((((i+j)/2:Nat)):Int):=by
     rw[<-atz (n:=i+j) (by omega)];rw[Int.natCast_add]
    have acG:IntKind.i64.wrap (((i+j)/2:Nat):Int)=(((i+j)/2:Nat):Int):=c' (by omega) (by omega)
    have o9:=kX (t:=t) (p:=p) ha ((i+j)/2) e he;cases hb:Op.bytesLess e.path p with
    |true=>
     rw[hb] at o9;have hlt:(i+j)/2<bV t p:=by simpa using o9.symm
     refine(d' ?_).trans (ih (j-((i+j)/2+1)) (by omega) ((i+j)/2+1) j rfl (by omega) hj hl)
     simp only[zD,ct qw,ad,hsh,acG,cd,he,Y,GR,SS,hb,b9 (i:=(i+j)/2) (by unfold aA;omega)]
    |false=>
     rw[hb] at o9;have hge:¬(i+j)/2<bV t p:=by simpa using o9.symm
     refine(d' ?_).trans (ih ((i+j)/2-i) (by omega) i ((i+j)/2) rfl hi (by omega) (by omega))
     simp only[zD,ct qw,ad,hsh,acG,cd,he,Y,GR,SS,hb,ak]
   ·have jV:i=bV t p:=by omega
    have hlt:decide ((i:Int)<(j:Int))=false:=by simp only[decide_eq_false_iff_not];omega
    refine cC ?_
    simp only[zD,hlt,ak];rw[jV]
 have mj:zB ((t,((),((),((0:Int),(false,((t.length:Int),((0:Int),((t.length:Int),())))))))),((p,((0:Int),((0:Int),(([]:B),())))),()))=_:=key t.length 0 t.length (Nat.sub_zero _) (Nat.zero_le _) vf (Nat.le_refl _);have Z:CP ((t,((p,((0:Int),((0:Int),(([]:B),())))),((),()))),())=some (((bV t p:Int),(hd t p,())),()):=by
  simp only[CP,mj,Y,hd,cd,GR,ajZ];cases ay:t[bV t p]? with
  |none=>
   have:=List.getElem?_eq_none_iff.1 ay;have:decide ((bV t p:Int)<(t.length:Int))=false:=by simp only[decide_eq_false_iff_not];omega
   rw[this];rfl
  |some e=>rw[ct (da ay)];rfl
 simp only[f201,Z,Y]
noncomputable abbrev avy:a8:=[(200,_S),(201,LY)]
theorem awy:aT O (aZ af avy):=aY ⟨asI,z201,⟨⟩⟩
abbrev i153:Shape:=⟨[aO 0 .entry,am 1],[],27⟩
abbrev Y':Shape:=⟨[ar 4],[],27⟩
noncomputable def f153(a:i153.J):Option Y'.J:=
(f200 ((a.1.2.1,()),())).bind fun b=>
 bif(b.1.1==([]:B)) then
 some ((true,()),())
else
(f201 ((a.1.1,b.1.1,()),())).bind fun c=>
 bif c.1.2.1 then
(aS a.1.1 c.1.1).bind fun d=>
 some (((d.kind==(1:Int)),()),())
else
 some ((false,()),())
noncomputable def aaj:aH:=aL af Tryz.f153 i153 Y' [] f153
theorem as2:aE O 153 aaj:=aM awy Tryz.func153 (by kernel_rfl) ag (fun y=>by kernel_rfl) fun a=>by kernel_rfl
noncomputable abbrev av5:a8:=[(152,aak),(153,aaj)]
theorem Mp:aT O (aZ af av5):=aY ⟨z152,as2,⟨⟩⟩
abbrev Q4:Shape:=⟨[aO 0 .entry,aj 3,ax 4 4 0,aO 8 .entry,aj 9,aj 10],[aw 4 [ah,ba,ba,ah]],43⟩
abbrev QL:List aR:=[(.norm,⟨[aO 0 .entry,aO 8 .entry,aj 9,aj 10,ck 15 [ah,ba,ba,ah],ar 16,ar 17,ar 18,ar 32,ar 33,ar 41],[],43⟩)]
noncomputable def GJ(y:Q4.J):Option (aG QL):=
(f152 (((y.2.1.1,y.2.1.2.1,y.2.1.2.2.1,y.2.1.2.2.2.1,()),()),())).bind fun a=>
 bif(!a.1.1) then
 some ((y.1.1,y.1.2.2.2.1,y.1.2.2.2.2.1,y.1.2.2.2.2.2.1,(y.2.1.1,y.2.1.2.1,y.2.1.2.2.1,y.2.1.2.2.2.1,()),a.1.1,(!a.1.1),true,true,true,true,()),())
else
 bif(decide (y.1.2.1>(0:Int))) then
(aS y.1.1 (IntKind.i64.wrap (y.1.2.1-(1:Int)))).bind fun b=>
 bif(!(Op.bytesLess b.path y.2.1.1)) then
 some ((y.1.1,y.1.2.2.2.1,y.1.2.2.2.2.1,y.1.2.2.2.2.2.1,(y.2.1.1,y.2.1.2.1,y.2.1.2.2.1,y.2.1.2.2.2.1,()),a.1.1,(!a.1.1),false,(!(Op.bytesLess b.path y.2.1.1)),true,true,()),())
else
(bq y.1.1 (0:Int) y.1.2.1).bind fun c=>
(f153 ((c,y.2.1.1,()),())).bind fun d=>
 some ((y.1.1,y.1.2.2.2.1,y.1.2.2.2.2.1,y.1.2.2.2.2.2.1,(y.2.1.1,y.2.1.2.1,y.2.1.2.2.1,y.2.1.2.2.2.1,()),a.1.1,(!a.1.1),false,(!(Op.bytesLess b.path y.2.1.1)),false,(!d.1.1),()),())
else
(bq y.1.1 (0:Int) y.1.2.1).bind fun e=>
(f153 ((e,y.2.1.1,()),())).bind fun f=>
 some ((y.1.1,y.1.2.2.2.1,y.1.2.2.2.2.1,y.1.2.2.2.2.2.1,(y.2.1.1,y.2.1.2.1,y.2.1.2.2.1,y.2.1.2.2.2.1,()),a.1.1,(!a.1.1),false,false,false,(!f.1.1),()),())
theorem ajn:aV O (ap (di (ap (codeOf Tryz.f105) 1 58)) 116 7474) (aX Q4 QL GJ):=cm Mp (by kernel_rfl) ag fun y=>by kernel_rfl
abbrev Bk:Shape:=⟨[aO 0 .entry,aO 8 .entry,aj 9,aj 10],[],43⟩
abbrev vW:List aR:=[(.ret,⟨[ar 2],[],43⟩),(.exit 0,⟨[],[],43⟩)]
noncomputable def BT(y:Bk.J):bP Bk vW:=
 bif(decide (y.1.2.2.2.1<y.1.2.2.1)) then
(aS y.1.2.1 y.1.2.2.2.1).bind fun a=>
(GJ ((y.1.1,y.1.2.2.2.1,(),y.1.2.1,y.1.2.2.1,y.1.2.2.2.1,()),(a.path,a.kind,a.mode,a.text,()),())).bind fun b=>
 bif b.1.2.2.2.2.2.2.2.2.2.2.1 then
 some (.inr (.inl ((false,()),())))
else
 some (.inl ((b.1.1,b.1.2.1,b.1.2.2.1,(IntKind.i64.wrap (b.1.2.2.2.1+(1:Int))),()),()))
else
 some (.inr (.inr ((),())))
noncomputable def Jf:Bk.J->Option (aG vW):=bA BT
theorem anJ:aV O (ap (codeOf Tryz.f105) 1 58) (aX Bk vW Jf):=bR Mp (by kernel_rfl) (a7 ajn ag) fun y=>by kernel_rfl
abbrev i105:Shape:=⟨[aO 0 .entry],[],43⟩
abbrev ZJ:Shape:=⟨[ar 2],[],43⟩
noncomputable def f105(a:i105.J):Option ZJ.J:=
 bif(decide ((a.1.1.length:Int)>(16:Int))) then
 some ((false,()),())
else
(Jf ((a.1.1,a.1.1,(a.1.1.length:Int),(0:Int),()),())).bind fun b=>
(match b with
|.inl c=>
 some ((c.1.1,()),())
|.inr d=>
 some ((true,()),()))
noncomputable def xz:aH:=aL af Tryz.f105 i105 ZJ [] f105
theorem z105:aE O 105 xz:=aM Mp Tryz.func105 (by kernel_rfl) (a7 anJ ag) (fun y=>by kernel_rfl) fun a=>by kernel_rfl
noncomputable abbrev az2:a8:=[(143,L9),(144,L8),(145,L7)]
theorem ET:aT O (aZ af az2):=aY ⟨z143,XL,z145,⟨⟩⟩
abbrev Tq:Shape:=⟨[aO 0 .entry,aj 3],[],53⟩
abbrev S6:List aR:=[(.norm,⟨[aO 0 .entry,aj 3,aO 11 .entry,aj 12,(13,.aq (.eV [.str,.int .i64,.int .i64,.str] 0)),ck 14 [ah,ba,ba,ah],ar 15,ar 16,ar 17,ar 34],[],53⟩)]
noncomputable def Jl(y:Tq.J):Option (aG S6):=
(aS y.1.1 y.1.2.1).bind fun a=>
(f143 (((a.path,a.kind,a.mode,a.text,()),()),())).bind fun b=>
 bif(!b.1.1) then
 some ((y.1.1,y.1.2.1,y.1.1,y.1.2.1,(a.path,a.kind,a.mode,a.text,()),(a.path,a.kind,a.mode,a.text,()),b.1.1,(!b.1.1),true,true,()),())
else
 bif(decide (y.1.2.1>(0:Int))) then
(aS y.1.1 (IntKind.i64.wrap (y.1.2.1-(1:Int)))).bind fun c=>
(aS y.1.1 y.1.2.1).bind fun d=>
 some ((y.1.1,y.1.2.1,y.1.1,y.1.2.1,(a.path,a.kind,a.mode,a.text,()),(a.path,a.kind,a.mode,a.text,()),b.1.1,(!b.1.1),false,(!(Op.bytesLess c.path d.path)),()),())
else
 some ((y.1.1,y.1.2.1,y.1.1,y.1.2.1,(a.path,a.kind,a.mode,a.text,()),(a.path,a.kind,a.mode,a.text,()),b.1.1,(!b.1.1),false,false,()),())
theorem amD:aV O (ap (di (ap (codeOf Tryz.f90) 1 26)) 52 840) (aX Tq S6 Jl):=cm ET (by kernel_rfl) ag fun y=>by kernel_rfl
abbrev Cc:Shape:=⟨[aO 0 .entry,aj 3],[],53⟩
abbrev JM:List aR:=[(.ret,⟨[ar 2],[],53⟩),(.exit 0,⟨[aO 0 .entry],[],53⟩)]
noncomputable def CD(y:Cc.J):bP Cc JM:=
 bif(decide (y.1.2.1<(y.1.1.length:Int))) then
(Jl ((y.1.1,y.1.2.1,()),())).bind fun a=>
 bif a.1.2.2.2.2.2.2.2.2.2.1 then
 some (.inr (.inl ((false,()),())))
else
 some (.inl ((a.1.1,(IntKind.i64.wrap (a.1.2.1+(1:Int))),()),()))
else
 some (.inr (.inr ((y.1.1,()),())))
noncomputable def J9:Cc.J->Option (aG JM):=bA CD
theorem ape:aV O (ap (codeOf Tryz.f90) 1 26) (aX Cc JM J9):=bR ET (by kernel_rfl) (a7 amD ag) fun y=>by kernel_rfl
abbrev Cb:Shape:=⟨[aO 0 .entry,aj 4],[],53⟩
abbrev JL:List aR:=[(.ret,⟨[ar 2],[],53⟩),(.exit 2,⟨[aO 0 .entry],[],53⟩)]
noncomputable def CC(y:Cb.J):bP Cb JL:=
 bif(decide (y.1.2.1<(y.1.1.length:Int))) then
(aS y.1.1 y.1.2.1).bind fun a=>
(f145 ((a.path,()),())).bind fun b=>
(f144 ((y.1.1,b.1.1,()),())).bind fun c=>
 bif(!c.1.1) then
 some (.inr (.inl ((false,()),())))
else
 some (.inl ((y.1.1,(IntKind.i64.wrap (y.1.2.1+(1:Int))),()),()))
else
 some (.inr (.inr ((y.1.1,()),())))
noncomputable def J8:Cb.J->Option (aG JL):=bA CC
theorem apd:aV O (ap (codeOf Tryz.f90) 1 58) (aX Cb JL J8):=bR ET (by kernel_rfl) ag fun y=>by kernel_rfl
abbrev i90:Shape:=⟨[aO 0 .entry],[],53⟩
abbrev abE:Shape:=⟨[ar 2],[],53⟩
noncomputable def f90(a:i90.J):Option abE.J:=
(J9 ((a.1.1,(0:Int),()),())).bind fun b=>
(match b with
|.inl c=>
 some ((c.1.1,()),())
|.inr d=>
(J8 ((d.1.1,(0:Int),()),())).bind fun e=>
(match e with
|.inl f=>
 some ((f.1.1,()),())
|.inr g=>
 some (((decide ((g.1.1.length:Int)<=(16:Int))),()),())))
noncomputable def yi:aH:=aL af Tryz.f90 i90 abE [] f90
theorem D5:aE O 90 yi:=aM ET Tryz.func90 (by kernel_rfl) (a7 ape (a7 apd ag)) (fun y=>by kernel_rfl) fun a=>by kernel_rfl
theorem ag5{aD:Type}{ok mX:Nat->aD->Bool}:∀(xs:List aD) (j:Nat),(∀i x,xs[i]? =some x->ok (j+i) x=mX (j+i) x)->allI ok j xs=allI mX j xs:=by
 intro xs;induction xs with
 |nil=>intro j _;rfl
 |cons x r ih=>
  intro j h;simp only[allI];rw[show ok j x=mX j x from h 0 x rfl,ih (j+1) (fun i y hy=>by have:=h (i+1) y (by simpa using hy);rw[show j+(i+1)=j+1+i by omega] at this;exact this)]
theorem Ay{aD:Type}{ok:Nat->aD->Bool}:∀(xs:List aD) (j:Nat),allI ok j xs=true->∀i x,xs[i]? =some x->ok (j+i) x=true:=by
 intro xs;induction xs with
 |nil=>intro j _ i x h;simp at h
 |cons y r ih=>
  intro j h i x hx;simp only[allI,bC] at h;cases i with
  |zero=>simp only[List.getElem?_cons_zero,bE] at hx;subst hx;exact h.1
  |succ i=>have:=ih (j+1) h.2 i x (by simpa using hx);rwa[show j+1+i=j+(i+1) by omega] at this
abbrev iL(t:List aB):Prop:=cw t.length/\∀e,e∈t->mf e
def wB(t:List aB)(i:Nat)(e:aB):Bool:=i==0||match t[i-1]? with
 |some q=>Op.bytesLess q.path e.path
 |none=>false
def jm(t:List aB)(i:Nat)(e:aB):Bool:=e7 e&&wB t i e
def dQ(t:List aB):Bool:=allI (jm t) 0 t&&t.all (fun e=>k5 t (jr e.path))&&decide (t.length<=16)
theorem DM(i:Nat):decide ((i:Int)>0)=!(i==0):=by
 cases i with
 |zero=>rfl
 |succ i=>simp
theorem vK(a)(hs:iL a.1.1):f90 a=some ((dQ a.1.1,()),()):=by
 obtain⟨⟨t,u⟩,b7⟩:=a;obtain⟨hl,he⟩:=hs;have hl:t.length<=2097152:=hl;have key:J9 ((t,((0:Int),())),())=some (bif allI (jm t) 0 t then .inr ((t,()),()) else .inl ((false,()),())):=by
  refine gv CD t (fun i=>((t,((i:Int),())),())) _ _ _ (fun i x hx=>?_) ?_
  ·have hi:=da hx;have hw:aA i:=by unfold aA;omega
   have hb:=he x (eJ hx);simp only[CD,ct hi,ad,Jl,cd,hx,Y];rw[Ql _ hb.1 hb.2];simp only[Y,jm,DM];cases e7 x with
   |false=>rfl
   |true=>
    simp only[bu,ak,Bool.true_and,wB];cases i with
    |zero=>simp only[beq_self_eq_true,bu,ak,Y,Bool.true_or,ad,b9 hw]
    |succ i=>
     have h0:(i+1==0)=false:=rfl;have jV:i<t.length:=by omega
     obtain⟨q,aC⟩:∃q,t[i]? =some q:=⟨t[i],dZ jV⟩;simp only[h0,bJ,ad,vA (i:=i) (by unfold aA;omega),cd,aC,hx,Y,Bool.false_or,Nat.add_sub_cancel]
     cases Op.bytesLess q.path x.path with
     |false=>rfl
     |true=>simp only[bu,ak,ad,b9 hw]
  ·simp only[CD,dL,ak]
 have ZP:J8 ((t,((0:Int),())),())=some (bif allI (fun _ e=>k5 t (jr e.path)) 0 t then .inr ((t,()),()) else .inl ((false,()),())):=by
  refine gv CC t (fun i=>((t,((i:Int),())),())) _ _ _ (fun i x hx=>?_) ?_
  ·have hi:=da hx;have hw:aA i:=by unfold aA;omega
   have hb:=he x (eJ hx);simp only[CC,ct hi,ad,cd,hx,Y];rw[UJ _ hb.1];simp only[Y];rw[S1 _ hl];simp only[Y,b9 hw];cases k5 t (jr x.path)<;>rfl
  ·simp only[CC,dL,ak]
 rw[hH] at ZP;simp only[f90,key,Y,dQ];cases allI (jm t) 0 t with
 |false=>rfl
 |true=>
  simp only[ad,ZP,Y,Bool.true_and];cases List.all t (fun e=>k5 t (jr e.path)) with
  |false=>rfl
  |true=>have:=DD t.length 16;simp only[ad,Bool.true_and];rw[<-this];rfl
theorem SX{t:List aB}{i:Nat}{e:aB}(he:t[i]? =some e)(h:f' (t.take i))(hl:wB t i e=true):f' (t.take (i+1)):=by
 rw[List.take_add_one,he];unfold f';refine List.pairwise_append.2 ⟨h,by simp,?_⟩
 intro a ha b hb;have hb:b=e:=by simpa using hb
 subst hb;obtain⟨k,hk⟩:=List.mem_iff_getElem?.1 ha;have EC:k<i:=by
  have:=da hk;rw[List.length_take] at this;omega
 unfold wB at hl;have h0:(i==0)=false:=by simp;omega
 rw[h0,Bool.false_or] at hl;split at hl
 ·rename_i q aC;by_cases hkl:k=i-1
  ·have:t[k]? =some a:=by rw[List.getElem?_take,if_pos EC] at hk;exact hk
   rw[hkl,aC] at this;cases this;exact hl
  ·have o8:(t.take i)[i-1]? =some q:=by rw[List.getElem?_take,if_pos (by omega)];exact aC
   have:=List.pairwise_iff_getElem.1 h k (i-1) (da hk) (da o8) (by omega)
   rw[(List.getElem?_eq_some_iff.1 hk).2,(List.getElem?_eq_some_iff.1 o8).2] at this;exact vS _ _ _ this hl
 ·cases hl
theorem Wn{t:List aB}(h:allI (jm t) 0 t=true):f' t:=by
 have:∀i,i<=t.length->f' (t.take i):=by
  intro i;induction i with
  |zero=>intro _;simp[f']
  |succ i ih=>
   intro hi;have he:t[i]? =some t[i]:=dZ hi;have:=Ay t 0 h i _ he;rw[Nat.zero_add] at this;simp only[jm,bC] at this;exact SX he (ih (by omega)) this.2
 have:=this t.length (Nat.le_refl _);rwa[List.take_length] at this
theorem ah1{t:List aB}{i:Nat}{e:aB}{p:B}(ha:f' t)(he:t[i]? =some e)(hp:Op.bytesLess p e.path=true):k5 (t.take i) p=k5 t p:=by
 have hi:=da he;have h1:=kX (p:=p) ha i e he;rw[aop hp] at h1;have hle:bV t p<=i:=by
  have:¬i<bV t p:=by simpa using h1.symm
  omega
 have nQ:bV (t.take i) p=bV t p:=by
  by_cases hlt:bV t p=i
  ·have hlen:(t.take i).length=i:=by rw[List.length_take];omega
   have h2:=ra (t.take i) p;rw[hlen] at h2;by_cases h3:bV (t.take i) p<i
   ·obtain⟨q,aC⟩:∃q,(t.take i)[bV (t.take i) p]? =some q:=⟨_,dZ (by rw[hlen];exact h3)⟩
    have aF:=kX (p:=p) (ha.take i) _ q aC;have o8:t[bV (t.take i) p]? =some q:=by rw[List.getElem?_take,if_pos h3] at aC;exact aC
    have bo:=kX (p:=p) ha _ q o8;rw[aF] at bo;have:decide (bV (t.take i) p<bV (t.take i) p)=false:=by simp
    rw[this] at bo;have:¬bV (t.take i) p<bV t p:=by simpa using bo.symm
    omega
   ·omega
  ·have hlt:bV t p<i:=by omega
   obtain⟨q,aC⟩:∃q,t[bV t p]? =some q:=⟨_,dZ (by omega)⟩
   have o8:(t.take i)[bV t p]? =some q:=by rw[List.getElem?_take,if_pos hlt];exact aC
   have aF:=kX (p:=p) ha _ q aC;have bo:=kX (p:=p) (ha.take i) _ q o8;have dn:decide (bV t p<bV t p)=false:=by simp
   rw[aF,dn] at bo;have cp:¬bV t p<bV (t.take i) p:=by simpa using bo.symm
   by_cases iA:bV (t.take i) p<bV t p
   ·obtain⟨r,hr⟩:∃r,t[bV (t.take i) p]? =some r:=⟨_,dZ (by omega)⟩
    have dq:(t.take i)[bV (t.take i) p]? =some r:=by rw[List.getElem?_take,if_pos (by omega)];exact hr
    have h8:=kX (p:=p) ha _ r hr;have iz:=kX (p:=p) (ha.take i) _ r dq;have sE:decide (bV (t.take i) p<bV (t.take i) p)=false:=by simp
    rw[h8,sE] at iz;have:¬bV (t.take i) p<bV t p:=by simpa using iz
    omega
   ·omega
 unfold k5;rw[nQ];congr 1
 by_cases hlt:bV t p<i
 ·rw[List.getElem?_take,if_pos hlt]
 ·have:bV t p=i:=by omega
  rw[this,he,List.getElem?_take,if_neg (by omega)]
  have:(e.path==p)=false:=by
   cases h:(e.path==p) with
   |false=>rfl
   |true=>rw[eq_of_beq h,wM] at hp;cases hp
  simp[this]
def lQ(t:List aB)(p:B):Bool:=k5 t (bif gK p then jr p else [])
theorem afe(a)(hs:cw a.1.1.length)(hp:cw a.1.2.1.length)(ha:f' a.1.1):f153 a=some ((lQ a.1.1 a.1.2.1,()),()):=by
 obtain⟨⟨t,p,u⟩,b7⟩:=a;have e1:=akp ((p,()),()) hp;have e2:=Pb ((t,((bif gK p then jr p else []),())),()) hs ha
 simp only[f153,e1,e2,Y,lQ,k5,hd,cd];generalize(bif gK p then jr p else [])=up
 cases (up==[]) with
 |true=>rfl
 |false=>
  cases ay:t[bV t up]? with
  |none=>rfl
  |some e=>simp only[ak,ad,Y,Bool.false_or];cases (e.path==up)<;>rfl
theorem aiD(t:List aB):dQ t=(decide (t.length<=16)&&allI (fun i e=>jm t i e&&lQ (t.take i) e.path) 0 t):=by
 unfold dQ;rw[HR];cases h:allI (jm t) 0 t with
 |false=>simp
 |true=>
  have ha:=Wn h;have:allI (fun i e=>lQ (t.take i) e.path) 0 t=t.all (fun e=>k5 t (jr e.path)):=by
   rw[<-hH _ 0 t];refine ag5 t 0 (fun i e he=>?_)
   rw[Nat.zero_add];have f_:=Ay t 0 h i e he;rw[Nat.zero_add] at f_;have ayt:gK e.path=true:=by
    unfold jm e7 at f_;simp only[bC] at f_;exact f_.1.1
   unfold lQ;rw[ayt,ad];cases hu:(jr e.path==[]) with
   |true=>unfold k5;rw[hu];rfl
   |false=>exact ah1 ha he (akt hu)
  rw[this];simp only[Bool.true_and];rw[Bool.and_comm]
theorem qP(a)(hs:iL a.1.1):f105 a=some ((dQ a.1.1,()),()):=by
 obtain⟨⟨t,u⟩,b7⟩:=a;obtain⟨hl,he⟩:=hs;have hl:t.length<=2097152:=hl;have key:Jf ((t,(t,((t.length:Int),((0:Int),())))),())=some (bif allI (fun i e=>jm t i e&&lQ (t.take i) e.path) 0 t then .inr ((),()) else .inl ((false,()),())):=by
  have:=my BT t (fun i (_:Unit)=>((t,(t,((t.length:Int),((i:Int),())))),())) (fun i e _=>some (bif jm t i e&&lQ (t.take i) e.path then .inl () else .inr ((.inl ((false,()),())):aG vW))) (fun _=>(.inr ((),()):aG vW))
   (fun i _=>f' (t.take i)) () (by simp[f']) (fun i x _ hx dG=>?_) (fun _ _=>?_)
  ·exact this.trans (y0 (fun i e=>jm t i e&&lQ (t.take i) e.path) (fun _ s=>s) _ _ t 0 ())
  ·have hi:=da hx;have hw:aA i:=by unfold aA;omega
   have hb:=he x (eJ hx);refine⟨?_,fun aQ an=>?_⟩
   ·have qq:=afe ((t.take i,(x.path,())),()) (show(t.take i).length<=2097152 by rw[List.length_take];omega) hb.1 dG
    simp only[BT,ct hi,ad,cd,hx,Y,GJ];rw[ais _ hb.1 hb.2];simp only[Y,jm,DM];cases e7 x with
    |false=>rfl
    |true=>
     simp only[bu,ak,Bool.true_and,wB];cases i with
     |zero=>
      have eF:bq t 0 0=some (t.take 0):=gw (b:=0) (Nat.zero_le _);have eF:bq t 0 ((0:Nat):Int)=some (t.take 0):=eF;simp only[beq_self_eq_true,bu,ak,eF,Y,qq,Bool.true_or,Bool.true_and];cases lQ (t.take 0) x.path with
      |false=>rfl
      |true=>simp only[bu,ak,ad,b9 hw];rfl
     |succ i=>
      have h0:(i+1==0)=false:=rfl;have jV:i<t.length:=by omega
      obtain⟨q,aC⟩:∃q,t[i]? =some q:=⟨t[i],dZ jV⟩;have eF:bq t 0 ((i+1:Nat):Int)=some (t.take (i+1)):=gw (by omega)
      simp only[h0,bJ,ad,vA (i:=i) (by unfold aA;omega),cd,aC,hx,Y,Bool.false_or,Nat.add_sub_cancel]
      cases Op.bytesLess q.path x.path with
      |false=>rfl
      |true=>
       simp only[bu,ak,ad,eF,Y,qq,Bool.true_and];cases lQ (t.take (i+1)) x.path with
       |false=>rfl
       |true=>simp only[bu,ak,ad,b9 hw];rfl
   ·simp only[bE] at an;cases aC:(jm t i x&&lQ (t.take i) x.path) with
    |false=>rw[aC] at an;cases an
    |true=>
     simp only[bC] at aC;have:=aC.1;simp only[jm,bC] at this;exact SX hx dG this.2
  ·simp only[BT,dL,ak]
 have yf:decide ((t.length:Int)>16)=!decide (t.length<=16):=by by_cases h:t.length<=16<;>simp only[h,decide_true,decide_false,bu,bJ,dY,decide_eq_false_iff_not]<;>omega
 simp only[f105,yf,key,Y];rw[aiD];cases decide (t.length<=16)<;>cases allI (fun i e=>jm t i e&&lQ (t.take i) e.path) 0 t<;>rfl
abbrev i202:Shape:=⟨[aO 0 .entry],[],6⟩
abbrev YC:Shape:=⟨[bd 2 3000128],[bc 3000128 .entry 2 0],6⟩
noncomputable def f202(a:i202.J):Option YC.J:=
(cl 48 ([]:List aB) a.1.1).bind fun b=>
 some (((),()),b,())
noncomputable def xx:aH:=aL af Tryz.f202 i202 YC [] f202
theorem Dt:aE O 202 xx:=aM g0 Tryz.func202 (by kernel_rfl) ag (fun y=>by kernel_rfl) fun a=>by kernel_rfl
noncomputable abbrev avw:a8:=[(90,yi),(194,DS),(202,xx)]
theorem Mj:aT O (aZ af avw):=aY ⟨D5,z194,Dt,⟨⟩⟩
abbrev QY:Shape:=⟨[aO 1 .entry,bd 6 3000384,aj 7,aj 8,ar 9],[bc 3000384 .entry 6 0],69⟩
abbrev QF:List aR:=[(.norm,⟨[aO 1 .entry,bd 6 3000384,aj 7,aj 8,ar 9,ar 28,ar 29,ar 47],[bc 3000384 .entry 6 0],69⟩)]
noncomputable def GF(y:QY.J):Option (aG QF):=
 bif y.1.2.2.2.2.1 then
(bh y.2.1.length y.1.2.2.2.1).bind fun a=>
(y.2.1[a]?).bind fun b=>
 bif(b.kind !=(1:Int)) then
 some ((y.1.1,(),y.1.2.2.1,y.1.2.2.2.1,y.1.2.2.2.2.1,y.1.2.2.2.2.1,true,true,()),y.2.1,())
else
(aS y.1.1 y.1.2.2.1).bind fun c=>
(bh y.2.1.length y.1.2.2.2.1).bind fun d=>
(y.2.1[d]?).bind fun e=>
 some ((y.1.1,(),y.1.2.2.1,y.1.2.2.2.1,y.1.2.2.2.2.1,y.1.2.2.2.2.1,true,(!((c.path==e.path)&&((c.kind==e.kind)&&((c.mode==e.mode)&&(c.text==e.text))))),()),y.2.1,())
else
 some ((y.1.1,(),y.1.2.2.1,y.1.2.2.2.1,y.1.2.2.2.2.1,y.1.2.2.2.2.1,false,false,()),y.2.1,())
theorem ajc:aV O (ap (di (ap (codeOf Tryz.f159) 1 58)) 116 7460) (aX QY QF GF):=cm Mj (by kernel_rfl) ag fun y=>by kernel_rfl
abbrev vX:Shape:=⟨[aO 1 .entry,bd 6 3000384,aj 7],[bc 3000384 .entry 6 0],69⟩
abbrev pH:List aR:=[(.ret,⟨[bd 4 3000256,ar 5],[bc 3000256 .entry 4 0],69⟩),(.exit 0,⟨[bd 6 3000384],[bc 3000384 .entry 6 0],69⟩)]
noncomputable def BJ(y:vX.J):bP vX pH:=
 bif(decide (y.1.2.2.1<(y.1.1.length:Int))) then
(aS y.1.1 y.1.2.2.1).bind fun a=>
(f194 ((y.2.1,a.path,()),())).bind fun b=>
(GF ((y.1.1,(),y.1.2.2.1,b.1.1,b.1.2.1,()),y.2.1,())).bind fun c=>
 bif c.1.2.2.2.2.2.2.2.1 then
 some (.inr (.inl (((),false,()),([]:List aB),())))
else
 bif(!c.1.2.2.2.2.1) then
(bq c.2.1 (0:Int) c.1.2.2.2.1).bind fun d=>
(cl 48 ([]:List aB) d).bind fun e=>
(aS c.1.1 c.1.2.2.1).bind fun f=>
(cl 48 e ([f]:List aB)).bind fun g=>
(bq c.2.1 c.1.2.2.2.1 (c.2.1.length:Int)).bind fun h=>
(cl 48 g h).bind fun i=>
 some (.inl ((c.1.1,(),(IntKind.i64.wrap (c.1.2.2.1+(1:Int))),()),i,()))
else
 some (.inl ((c.1.1,(),(IntKind.i64.wrap (c.1.2.2.1+(1:Int))),()),c.2.1,()))
else
 some (.inr (.inr (((),()),y.2.1,())))
noncomputable def I6:vX.J->Option (aG pH):=bA BJ
theorem anm:aV O (ap (codeOf Tryz.f159) 1 58) (aX vX pH I6):=bR Mj (by kernel_rfl) (a7 ajc ag) fun y=>by kernel_rfl
abbrev i159:Shape:=⟨[aO 0 .entry,aO 1 .entry],[],69⟩
abbrev Y9:Shape:=⟨[bd 4 3000256,ar 5],[bc 3000256 .entry 4 0],69⟩
noncomputable def f159(a:i159.J):Option Y9.J:=
(f202 ((a.1.1,()),())).bind fun b=>
(I6 ((a.1.2.1,(),(0:Int),()),b.2.1,())).bind fun c=>
(match c with
|.inl d=>
 some (((),d.1.2.1,()),d.2.1,())
|.inr e=>
(f90 ((e.2.1,()),())).bind fun f=>
 some (((),f.1.1,()),e.2.1,()))
noncomputable def aai:aH:=aL af Tryz.f159 i159 Y9 [] f159
theorem z159:aE O 159 aai:=aM Mj Tryz.func159 (by kernel_rfl) (a7 anm ag) (fun y=>by kernel_rfl) fun a=>by kernel_rfl
noncomputable abbrev aAl:a8:=[(87,NI),(88,NH),(89,ado),(90,yi)]
theorem aAU:aT O (aZ af aAl):=aY ⟨z87,abj,awQ,D5,⟨⟩⟩
abbrev i50:Shape:=⟨[ck 0 [ah,ah,br .need,br .entry]],[],23⟩
abbrev abZ:Shape:=⟨[ar 2],[],23⟩
noncomputable def f50(a:i50.J):Option abZ.J:=
(f87 ((a.1.1.1,()),())).bind fun b=>
 bif b.1.1 then
(f88 ((a.1.1.2.1,()),())).bind fun c=>
 bif c.1.1 then
(f89 ((a.1.1.1,a.1.1.2.2.1,()),())).bind fun d=>
 bif d.1.1 then
(f90 ((a.1.1.2.2.2.1,()),())).bind fun e=>
 some ((e.1.1,()),())
else
 some ((false,()),())
else
 some ((false,()),())
else
 some ((false,()),())
noncomputable def EP:aH:=aL af Tryz.f50 i50 abZ [] f50
theorem Mr:aE O 50 EP:=aM aAU Tryz.func50 (by kernel_rfl) ag (fun y=>by kernel_rfl) fun a=>by kernel_rfl
noncomputable abbrev aAk:a8:=[(99,NG),(100,DV),(101,WE),(103,WD),(105,xz)]
theorem ad0:aT O (aZ af aAk):=aY ⟨abi,K2,aoQ,aoP,z105,⟨⟩⟩
abbrev U_:Shape:=⟨[ax 1 1 0],[aw 1 [ah,ah,br .need,br .entry]],36⟩
abbrev UU:List aR:=[(.norm,⟨[ax 1 1 0,ar 18],[aw 1 [ah,ah,br .need,br .entry]],36⟩)]
noncomputable def Kl(y:U_.J):Option (aG UU):=
(f99 ((y.2.1.1,()),())).bind fun a=>
 bif(!(!a.1.1)) then
(f100 ((y.2.1.2.1,()),())).bind fun b=>
 bif(!(!b.1.1)) then
 some (((),(decide ((y.2.1.2.2.1.length:Int)>(6:Int))),()),(y.2.1.1,y.2.1.2.1,y.2.1.2.2.1,y.2.1.2.2.2.1,()),())
else
 some (((),true,()),(y.2.1.1,y.2.1.2.1,y.2.1.2.2.1,y.2.1.2.2.2.1,()),())
else
 some (((),true,()),(y.2.1.1,y.2.1.2.1,y.2.1.2.2.1,y.2.1.2.2.2.1,()),())
theorem apu:aV O (ap (codeOf Tryz.f55) 1 12) (aX U_ UU Kl):=cm ad0 (by kernel_rfl) ag fun y=>by kernel_rfl
abbrev i55:Shape:=⟨[ck 0 [ah,ah,br .need,br .entry]],[],36⟩
abbrev abY:Shape:=⟨[ar 2],[],36⟩
noncomputable def f55(a:i55.J):Option abY.J:=
(Kl (((),()),(a.1.1.1,a.1.1.2.1,a.1.1.2.2.1,a.1.1.2.2.2.1,()),())).bind fun b=>
 bif b.1.2.1 then
 some ((false,()),())
else
(CW ((b.2.1.2.2.1,(),()),())).bind fun c=>
 bif c.1.1 then
(CV ((b.2.1.2.2.1,(),([b.2.1.1]:List B),()),())).bind fun d=>
 bif(!d.1.1) then
(f105 ((b.2.1.2.2.2.1,()),())).bind fun e=>
 some ((e.1.1,()),())
else
 some ((false,()),())
else
 some ((false,()),())
noncomputable def EO:aH:=aL af Tryz.f55 i55 abY [] f55
theorem Mq:aE O 55 EO:=aM ad0 Tryz.func55 (by kernel_rfl) (a7 apu ag) (fun y=>by kernel_rfl) fun a=>by kernel_rfl
noncomputable abbrev ar5:a8:=[(55,EO)]
theorem Xy:aT O (aZ af ar5):=aY ⟨Mq,⟨⟩⟩
abbrev zU:Shape:=⟨[(1,.aq (.fn 55 [])),aO 7 .pack,aj 8,aj 9],[],18⟩
abbrev GX:List aR:=[(.ret,⟨[ar 4],[],18⟩),(.exit 0,⟨[],[],18⟩)]
noncomputable def An(y:zU.J):bP zU GX:=
 bif(decide (y.1.2.2.2.1<y.1.2.2.1)) then
(aS y.1.2.1 y.1.2.2.2.1).bind fun a=>
(f55 (((a.name,a.a6,a.bl,a.bI,()),()),())).bind fun b=>
 bif(!b.1.1) then
 some (.inr (.inl ((false,()),())))
else
 some (.inl (((),y.1.2.1,y.1.2.2.1,(IntKind.i64.wrap (y.1.2.2.2.1+(1:Int))),()),()))
else
 some (.inr (.inr ((),())))
noncomputable def Hl:zU.J->Option (aG GX):=bA An
theorem akV:aV O (ap (codeOf Tryz.f54) 1 26) (aX zU GX Hl):=bR Xy (by kernel_rfl) ag fun y=>by kernel_rfl
abbrev Xh:Shape:=⟨[aO 0 .pack,(1,.aq (.fn 55 []))],[],18⟩
abbrev W4:Shape:=⟨[ar 4],[],18⟩
noncomputable def Di(a:Xh.J):Option W4.J:=
(Hl (((),a.1.1,(a.1.1.length:Int),(0:Int),()),())).bind fun b=>
(match b with
|.inl c=>
 some ((c.1.1,()),())
|.inr d=>
 some ((true,()),()))
noncomputable def Xw:aH:=aL af Tryz.f54 Xh W4 [] Di
theorem aq0:aE O 54 Xw:=aM Xy Tryz.func54 (by kernel_rfl) (a7 akV ag) (fun y=>by kernel_rfl) fun a=>by kernel_rfl
abbrev Ck:Shape:=⟨[aO 0 .pack,aj 3],[],22⟩
abbrev JT:List aR:=[(.ret,⟨[ar 2],[],22⟩),(.exit 0,⟨[],[],22⟩)]
noncomputable def CL(y:Ck.J):bP Ck JT:=
 bif(decide (y.1.2.1<(y.1.1.length:Int))) then
(aS y.1.1 (IntKind.i64.wrap (y.1.2.1-(1:Int)))).bind fun a=>
(aS y.1.1 y.1.2.1).bind fun b=>
 bif(!(Op.bytesLess a.name b.name)) then
 some (.inr (.inl ((false,()),())))
else
 some (.inl ((y.1.1,(IntKind.i64.wrap (y.1.2.1+(1:Int))),()),()))
else
 some (.inr (.inr ((),())))
noncomputable def Ke:Ck.J->Option (aG JT):=bA CL
theorem apt:aV O (ap (codeOf Tryz.f56) 1 26) (aX Ck JT Ke):=bR g0 (by kernel_rfl) ag fun y=>by kernel_rfl
abbrev i56:Shape:=⟨[aO 0 .pack],[],22⟩
abbrev abX:Shape:=⟨[ar 2],[],22⟩
noncomputable def f56(a:i56.J):Option abX.J:=
(Ke ((a.1.1,(1:Int),()),())).bind fun b=>
(match b with
|.inl c=>
 some ((c.1.1,()),())
|.inr d=>
 some ((true,()),()))
noncomputable def adA:aH:=aL af Tryz.f56 i56 abX [] f56
theorem awZ:aE O 56 adA:=aM g0 Tryz.func56 (by kernel_rfl) (a7 apt ag) (fun y=>by kernel_rfl) fun a=>by kernel_rfl
abbrev jX(p:aK):Prop:=cw p.name.length/\cw p.a6.length/\ux p.bl/\iL p.bI
abbrev fu(ps:List aK):Prop:=cw ps.length/\∀p,p∈ps->jX p
def cx(p:aK):Bool:=iV p.name&&eD p.a6&&rc p.name p.bl&&dQ p.bI
theorem vM(a)(hb:jX ⟨a.1.1.1,a.1.1.2.1,a.1.1.2.2.1,a.1.1.2.2.2.1⟩):f50 a=some ((cx ⟨a.1.1.1,a.1.1.2.1,a.1.1.2.2.1,a.1.1.2.2.2.1⟩,()),()):=by
 obtain⟨⟨⟨n,v,ns,t,u⟩,b7⟩,nV⟩:=a;obtain⟨h1,h2,h3,aF⟩:=hb;have h1:n.length<=2097152:=h1;have e1:=RH ((n,()),()) (show n.length<=1099511627776 by omega)
 have e2:=Pc ((v,()),()) h2;have bz:=aij ((n,(ns,())),()) h3 h1;have dn:=vK ((t,()),()) aF;simp only[f50,e1,e2,bz,dn,Y,cx];cases iV n<;>cases eD v<;>cases rc n ns<;>rfl
theorem zh(a)(hb:jX ⟨a.1.1.1,a.1.1.2.1,a.1.1.2.2.1,a.1.1.2.2.2.1⟩):f55 a=some ((cx ⟨a.1.1.1,a.1.1.2.1,a.1.1.2.2.1,a.1.1.2.2.2.1⟩,()),()):=by
 obtain⟨⟨⟨n,v,ns,t,u⟩,b7⟩,nV⟩:=a;obtain⟨h1,h2,h3,aF⟩:=hb;have h1:n.length<=2097152:=h1;have e1:=OY ((n,()),()) (show n.length<=1099511627776 by omega)
 have e2:=Fp ((v,()),()) h2;have bz:=aiu ((ns,((),())),()) h3;have dn:=qP ((t,()),()) aF;have e5:=afy ((ns,((),(([n]:List B),()))),()) h3 (Nat.le_refl _);have cp:decide ((ns.length:Int)>6)=!decide (ns.length<=6):=by by_cases h:ns.length<=6<;>simp only[h,decide_true,decide_false,bu,bJ,dY,decide_eq_false_iff_not]<;>omega
 have aa:kg [] (n::ns.map (·.name))=kg [n] (ns.map (·.name)):=by simp[kg]
 simp only[f55,Kl,e1,e2,Y,cx,rc,aa,cp,Bool.not_not];cases iV n with
 |false=>rfl
 |true=>
  cases eD v with
  |false=>rfl
  |true=>
   cases decide (ns.length<=6) with
   |false=>simp only[ad,bJ,Y,Bool.and_false,Bool.false_and]
   |true=>
    simp only[ad,bu,ak,Y,bz,e5,dn,Bool.true_and,Bool.and_true];cases List.all ns dR<;>cases kg [n] (ns.map (·.name))<;>rfl
theorem ait(a)(hs:fu a.1.1):Di a=some ((a.1.1.all cx,()),()):=by
 obtain⟨⟨ps,u⟩,b7⟩:=a;obtain⟨hl,hn⟩:=hs;have hl:ps.length<=2097152:=hl;have key:Hl (((),(ps,((ps.length:Int),((0:Int),())))),())=some (bif allI (fun _ n=>cx n) 0 ps then .inr ((),()) else .inl ((false,()),())):=by
  refine gv An ps (fun i=>(((),(ps,((ps.length:Int),((i:Int),())))),())) _ _ _ (fun i x hx=>?_) ?_
  ·have hi:=da hx;have hw:aA i:=by unfold aA;omega
   have hb:=hn x (eJ hx);simp only[An,ct hi,ad,cd,hx,Y];rw[zh _ hb];simp only[Y,b9 hw];cases cx x<;>rfl
  ·simp only[An,dL,ak]
 rw[hH] at key;simp only[Di,key,Y];cases List.all ps cx<;>rfl
def nI(ps:List aK)(i:Nat)(x:aK):Bool:=match ps[i]? with
 |some q=>Op.bytesLess q.name x.name
 |none=>false
def ld(ps:List aK):Bool:=allI (nI ps) 0 ps.tail
theorem afd(a)(hs:cw a.1.1.length):f56 a=some ((ld a.1.1,()),()):=by
 obtain⟨⟨ps,u⟩,b7⟩:=a;have hs:ps.length<=2097152:=hs;have key:Ke ((ps,((1:Int),())),())=some (bif allI (nI ps) 0 ps.tail then .inr ((),()) else .inl ((false,()),())):=by
  refine gv CL ps.tail (fun i=>((ps,(((i+1:Nat):Int),())),())) _ _ _ (fun i x hx=>?_) ?_
  ·have qn:ps[i+1]? =some x:=by rw[List.getElem?_tail] at hx;exact hx
   have hi:=da qn;have hw:aA (i+1):=by unfold aA;omega
   obtain⟨q,aC⟩:∃q,ps[i]? =some q:=⟨ps[i],dZ (by omega)⟩
   simp only[CL,ct hi,ad,vA (i:=i) (by unfold aA;omega),cd,aC,qn,Y,b9 hw,nI]
   cases Op.bytesLess q.name x.name<;>rfl
  ·have:decide (((ps.tail.length+1:Nat):Int)<(ps.length:Int))=false:=by
    simp only[decide_eq_false_iff_not,List.length_tail];omega
   simp only[CL,this,ak]
 simp only[f56,key,Y,ld];cases allI (nI ps) 0 ps.tail<;>rfl
def kR(a b:aB):Bool:=a.path==b.path&&(a.kind==b.kind&&(a.mode==b.mode&&a.text==b.text))
def mT(e q:aB):Bool:=e.kind !=1||!kR e q
theorem al0(a b:aB):kR a b=kR b a:=by
 unfold kR;have h1:(a.path==b.path)=(b.path==a.path):=BEq.comm;have h2:(a.kind==b.kind)=(b.kind==a.kind):=BEq.comm;have h3:(a.mode==b.mode)=(b.mode==a.mode):=BEq.comm;have aF:(a.text==b.text)=(b.text==a.text):=BEq.comm;rw[h1,h2,h3,aF]
theorem aom(e q:aB):mT e q=(q.kind !=1||!kR e q):=by
 unfold mT;cases h:kR e q with
 |false=>simp
 |true=>
  unfold kR at h;simp only[bC] at h;rw[show e.kind=q.kind from eq_of_beq h.2.1]
def kc(t:List aB)(k:Nat)(e:aB):List aB:=t.take k++[e]++t.drop k
def g_(out:List aB):List aB->Option (List aB)
 |[]=>some out
 |e::r=>match out[bV out e.path]? with
  |some q=>bif q.path==e.path then(bif mT e q then none else g_ out r) else g_ (kc out (bV out e.path) e) r
  |none=>g_ (kc out (bV out e.path) e) r
theorem Rj(t:List aB)(k:Nat)(e:aB)(h:k<=t.length):(kc t k e).length=t.length+1:=by
 unfold kc;simp only[dx,List.length_take,cW,List.length_nil,List.length_drop];omega
theorem GA{t:List aB}{k:Nat}{e x:aB}(h:x∈kc t k e):x=e\/x∈t:=by
 unfold kc at h;rcases bp.1 h with h|h
 ·rcases bp.1 h with h|h
  ·exact .inr (List.mem_of_mem_take h)
  ·exact .inl (by simpa using h)
 ·exact .inr (List.mem_of_mem_drop h)
def ii(out:List aB)(e:aB):Option (List aB):=match out[bV out e.path]? with
 |some q=>bif q.path==e.path then(bif mT e q then none else some out) else some (kc out (bV out e.path) e)
 |none=>some (kc out (bV out e.path) e)
theorem vw(out:List aB)(e:aB)(r:List aB):g_ out (e::r)=(ii out e).bind fun D=>g_ D r:=by
 unfold ii;rw[g_];cases out[bV out e.path]? with
 |none=>rfl
 |some q=>
  simp only;cases (q.path==e.path) with
  |false=>rfl
  |true=>cases mT e q<;>rfl
theorem zk{out D:List aB}{e:aB}(h:ii out e=some D):D.length<=out.length+1:=by
 unfold ii at h;split at h
 ·rename_i q aC;cases hp:(q.path==e.path) with
  |true=>
   rw[hp] at h;cases hc:mT e q with
   |true=>rw[hc] at h;cases h
   |false=>rw[hc] at h;cases h;omega
  |false=>rw[hp] at h;cases h;rw[Rj _ _ _ (ra _ _)];omega
 ·cases h;rw[Rj _ _ _ (ra _ _)];omega
theorem Ge{out D:List aB}{e x:aB}(h:ii out e=some D)(hx:x∈D):x=e\/x∈out:=by
 unfold ii at h;split at h
 ·rename_i q aC;cases hp:(q.path==e.path) with
  |true=>
   rw[hp] at h;cases hc:mT e q with
   |true=>rw[hc] at h;cases h
   |false=>rw[hc] at h;cases h;exact .inr hx
  |false=>rw[hp] at h;cases h;exact GA hx
 ·cases h;exact GA hx
theorem aot{t:List aB}{e:aB}(ha:f' t)(hn:hd t e.path=false):f' (kc t (bV t e.path) e):=by
 have Z1:∀a,a∈t.take (bV t e.path)->Op.bytesLess a.path e.path=true:=by
  intro a h;obtain⟨k,hk⟩:=List.mem_iff_getElem?.1 h;have acQ:k<bV t e.path:=by have:=da hk;rw[List.length_take] at this;omega
  have M':t[k]? =some a:=by rw[List.getElem?_take,if_pos acQ] at hk;exact hk
  rw[kX ha k a M'];simpa using acQ
 have Xl:∀a,a∈t.drop (bV t e.path)->Op.bytesLess e.path a.path=true:=by
  intro a h;obtain⟨k,hk⟩:=List.mem_iff_getElem?.1 h;rw[List.getElem?_drop] at hk;have h1:=kX (p:=e.path) ha _ a hk;have h2:Op.bytesLess a.path e.path=false:=by rw[h1];simp
  refine aqb _ _ h2 ?_
  cases aC:(a.path==e.path) with
  |false=>rfl
  |true=>
   exfalso
   cases k with
   |zero=>
    unfold hd at hn;rw[Nat.add_zero] at hk;rw[hk] at hn;simp only[aC] at hn;cases hn
   |succ k=>
    have hlt:=da hk;obtain⟨q,x4⟩:∃q,t[bV t e.path]? =some q:=⟨_,dZ (by omega)⟩
    have h3:=List.pairwise_iff_getElem.1 ha (bV t e.path) (bV t e.path+(k+1)) (da x4) hlt (by omega)
    rw[(List.getElem?_eq_some_iff.1 x4).2,(List.getElem?_eq_some_iff.1 hk).2] at h3;have aF:=kX (p:=e.path) ha _ q x4;rw[<-eq_of_beq aC,h3] at aF;simp at aF
 unfold f' kc;refine List.pairwise_append.2 ⟨List.pairwise_append.2 ⟨ha.take _,by simp,?_⟩,List.Pairwise.sublist (List.drop_sublist _ _) ha,?_⟩
 ·intro a h b hb;have hb:b=e:=by simpa using hb
  subst hb;exact Z1 a h
 ·intro a h b hb;rcases bp.1 h with h|h
  ·exact vS _ _ _ (Z1 a h) (Xl b hb)
  ·have h:a=e:=by simpa using h
   subst h;exact Xl b hb
theorem aiG{out D:List aB}{e:aB}(ha:f' out)(h:ii out e=some D):f' D:=by
 unfold ii at h;have hno:∀{b:Bool},hd out e.path=b->b=false->f' (kc out (bV out e.path) e):=fun h1 h2=>aot ha (h1.trans h2)
 split at h
 ·rename_i q aC;cases hp:(q.path==e.path) with
  |true=>
   rw[hp] at h;cases hc:mT e q with
   |true=>rw[hc] at h;cases h
   |false=>rw[hc] at h;cases h;exact ha
  |false=>rw[hp] at h;cases h;exact hno (by unfold hd;rw[aC]) hp
 ·rename_i aC;cases h;exact hno (by unfold hd;rw[aC]) rfl
theorem akg(a)(ha:iL a.1.1)(hb:iL a.1.2.1)(hl:a.1.1.length+a.1.2.1.length<=2097152):f159 a=
  some (match g_ a.1.1 a.1.2.1 with|some out=>(((),(dQ out,())),(out,()))|none=>(((),(false,())),(([]:List aB),()))):=by
 obtain⟨⟨xs,bm,u⟩,b7⟩:=a;have hl:xs.length+bm.length<=2097152:=hl;have hc:f202 ((xs,()),())=some (((),()),(xs,())):=by
  simp only[f202];rw[dy (by decide) (by unfold aA;simp only[List.length_nil];omega)]
  rfl
 have key:I6 ((bm,((),((0:Int),()))),(xs,()))=_:=my BJ bm (fun i (out:List aB)=>((bm,((),((i:Int),()))),(out,())))
  (fun i e out=>some (match ii out e with|some D=>.inl D|none=>.inr ((.inl (((),(false,())),(([]:List aB),()))):aG pH))) (fun out=>((.inr (((),()),(out,()))):aG pH))
  (fun i out=>out.length<=xs.length+i/\∀e,e∈out->mf e) xs ⟨Nat.le_refl _,ha.2⟩ (fun i x out hx dG=>?_) (fun out _=>?_)
 ·have fold:∀(r:List aB) (k:Nat) (out:List aB),fc (fun i e out=>some (match ii out e with|some D=>.inl D|none=>.inr ((.inl (((),(false,())),(([]:List aB),()))):aG pH))) (fun out=>((.inr (((),()),(out,()))):aG pH)) k r out=
    some (match g_ out r with|some D=>.inr (((),()),(D,()))|none=>.inl (((),(false,())),(([]:List aB),()))):=by
   intro r;induction r with
   |nil=>intro k out;rfl
   |cons e r ih=>
    intro k out;rw[vw];simp only[fc];cases ii out e with
    |none=>rfl
    |some D=>simp only[Y];exact ih _ _
  have mem:∀(r:List aB) (out D:List aB),(∀e,e∈r->mf e)->(∀e,e∈out->mf e)->g_ out r=some D->D.length<=out.length+r.length/\∀e,e∈D->mf e:=by
   intro r;induction r with
   |nil=>intro out D _ h2 h;cases h;exact⟨Nat.le_refl _,h2⟩
   |cons e r ih=>
    intro out D h1 h2 h;rw[vw] at h;obtain⟨o1,h3,aF⟩:=Option.bind_eq_some_iff.1 h;have bo:=ih o1 D (fun x hx=>h1 x (cf _ hx)) (fun x hx=>by
     rcases Ge h3 hx with rfl|h
     ·exact h1 x ci
     ·exact h2 x h) aF
    have cp:=zk h3;exact⟨by simp only[cW];omega,bo.2⟩
  rw[fold] at key;simp only[f159,hc,Y,key];cases hj:g_ xs bm with
  |none=>rfl
  |some D=>
   have hm:=mem bm xs D hb.2 ha.2 hj;simp only[Y];rw[vK _ ⟨show D.length<=2097152 by omega,hm.2⟩]
   rfl
 ·have hi:=da hx;have hw:aA i:=by unfold aA;omega
  refine⟨?_,fun aQ an=>?_⟩
  ·have nf:=JH ((out,(x.path,())),()) (show out.length<=2097152 by omega)
   have qq:=ra out x.path;simp only[BJ,ct hi,ad,cd,hx,Y,nf,GF,hd,ii];have grow:((bq out 0 (bV out x.path:Int)).bind fun ato=>(cl 48 ([]:List aB) ato).bind fun atn=>(cl 48 atn ([x]:List aB)).bind fun atm=>(bq out (bV out x.path:Int) (out.length:Int)).bind fun atl=>(cl 48 atm atl).bind fun atk=>
     (some (.inl ((bm,((),((IntKind.i64.wrap ((i:Int)+(1:Int))),()))),(atk,()))):Option (Sum vX.J (aG pH))))=some (.inl ((bm,((),(((i+1:Nat):Int),()))),(kc out (bV out x.path) x,()))):=by
    have hlen:(out.take (bV out x.path)).length<=out.length:=by rw[List.length_take];omega
    have aCv:(out.drop (bV out x.path)).length<=out.length:=by rw[List.length_drop];omega
    rw[gw qq,Y,dy (by decide) (by unfold aA;simp only[List.length_nil];omega),Y,dy (by decide) (by unfold aA;simp only[List.length_nil,cW,List.nil_append];omega),Y,fO qq,Y,
     dy (by decide) (by unfold aA;simp only[dx,List.length_nil,cW,List.nil_append];omega),Y,b9 hw]
    rfl
   cases aC:out[bV out x.path]? with
   |none=>simp only[ak,Y,bJ,ad,cd,hx];exact grow
   |some q=>
    have hin:=fQ (da aC);simp only;cases hp:(q.path==x.path) with
    |false=>simp only[ak,Y,bJ,ad,cd,hx];exact grow
    |true=>
     have uV:((x.path==q.path)&&((x.kind==q.kind)&&((x.mode==q.mode)&&(x.text==q.text))))=kR x q:=rfl;rw[aom];simp only[ad,hin,aC,Y,cd,hx,uV];cases hk:(q.kind !=1) with
     |true=>rfl
     |false=>
      simp only[ak,Y,Bool.false_or];cases kR x q with
      |false=>rfl
      |true=>simp only[bu,ak,Y,b9 hw];rfl
  ·simp only[bE] at an;cases hs:ii out x with
   |none=>rw[hs] at an;cases an
   |some D=>
    rw[hs] at an;cases an;have cp:=zk hs;refine⟨by omega,fun e he=>?_⟩
    rcases Ge hs he with rfl|h
    ·exact hb.2 e (eJ hx)
    ·exact dG.2 e h
 ·simp only[BJ,dL,ak]
noncomputable abbrev av3:a8:=[(159,aai)]
theorem abc:aT O (aZ af av3):=aY ⟨z159,⟨⟩⟩
abbrev Bi:Shape:=⟨[aO 0 .pack,bd 4 3000256,aj 5],[bc 3000256 .entry 4 0],30⟩
abbrev q':List aR:=[(.ret,⟨[bd 2 3000128,ar 3],[bc 3000128 .entry 2 0],30⟩),(.exit 0,⟨[bd 4 3000256],[bc 3000256 .entry 4 0],30⟩)]
noncomputable def BR(y:Bi.J):bP Bi q':=
 bif(decide (y.1.2.2.1<(y.1.1.length:Int))) then
(aS y.1.1 y.1.2.2.1).bind fun a=>
(f159 ((y.2.1,a.bI,()),())).bind fun b=>
 bif(!b.1.2.1) then
 some (.inr (.inl (((),false,()),([]:List aB),())))
else
 some (.inl ((y.1.1,(),(IntKind.i64.wrap (y.1.2.2.1+(1:Int))),()),b.2.1,()))
else
 some (.inr (.inr (((),()),y.2.1,())))
noncomputable def Jd:Bi.J->Option (aG q'):=bA BR
theorem anH:aV O (ap (codeOf Tryz.f109) 1 58) (aX Bi q' Jd):=bR abc (by kernel_rfl) ag fun y=>by kernel_rfl
abbrev i109:Shape:=⟨[aO 0 .pack],[],30⟩
abbrev ZH:Shape:=⟨[bd 2 3000128,ar 3],[bc 3000128 .entry 2 0],30⟩
noncomputable def f109(a:i109.J):Option ZH.J:=
(Jd ((a.1.1,(),(0:Int),()),([]:List aB),())).bind fun b=>
(match b with
|.inl c=>
 some (((),c.1.2.1,()),c.2.1,())
|.inr d=>
 some (((),true,()),d.2.1,()))
noncomputable def aaK:aH:=aL af Tryz.f109 i109 ZH [] f109
theorem z109:aE O 109 aaK:=aM abc Tryz.func109 (by kernel_rfl) (a7 anH ag) (fun y=>by kernel_rfl) fun a=>by kernel_rfl
abbrev i229:Shape:=⟨[aO 0 .entry],[],8⟩
abbrev Ld:Shape:=⟨[bd 2 3000128],[bc 3000128 .entry 2 0],8⟩
noncomputable def f229(a:i229.J):Option Ld.J:=
 qU (t:=.entry) a.1.1 (some (((),()),([]:List aB),())) ((cl 48 ([]:List aB) a.1.1).bind fun b=>
 some (((),()),b,()))
noncomputable def _F:aH:=aL af Tryz.f229 i229 Ld [] f229
theorem z229:aE O 229 _F:=aM g0 Tryz.func229 (by kernel_rfl) ag (fun y=>by kernel_rfl) fun a=>by kernel_rfl
theorem ajH(g n c i vb m vc:Nat)(cur vcur:Array Value)(te ve:TypeId)(w:World)(hi:i<n)(hm:0<m)(hroom:n+m<=c)(hc63:c<=9223372036854775807)(hne:vb≠g)
  (hg:w.heap[g]? =some (.cells cur te (0,0))) (hv:w.heap[vb]? =some (.cells vcur ve (0,0))) (hcs:cur.size=c*4) (hvs:m*4<=vcur.size)
  (h1c:∀v∈cur.toList.take (n*4),v.oneCell'=true) (h1v:∀v∈vcur.toList.take (m*4),v.oneCell'=true):
  Calls O 230 #[.slice (some ⟨g,0,none⟩) n c,.int .i64 i,.slice (some ⟨vb,0,none⟩) m vc] w fun e w'=>
   e=.returned (.slice (some ⟨g,0,none⟩) (n+m) c)/\w'=w.drew.setRow g (bY (bY cur.toList ((i+m)*4) ((cur.toList.take (n*4)).drop (i*4))) (i*4) (vcur.toList.take (m*4))).toArray:=by
 have t33:O.underlying 64=some (.slice 178):=by kernel_rfl
 have hsz:(O.info? 178).map (·.size)=some 4:=by kernel_rfl
 have hz1:¬((m:Int)=0):=by omega
 have hz2:¬((i:Int)=(n:Int)):=by omega
 have hov:∀off lb cb,(callFunc 264 #[.slice (some ⟨vb,0,none⟩) m vc,.slice (some ⟨g,off,none⟩) lb cb]).run O w=.ok (.value (.bool false)) w:=fun off lb cb=>by
  rw[run_callFunc_extern Tryz.func264 (by kernel_rfl) (by kernel_rfl) (by kernel_rfl) (e:=Extern.SlicesOverlaps.overlaps #[64,64] #[4]) (by kernel_rfl),
   Lib.run_overlaps_apart w 64 4 178 t33 4 (fun w=>by kernel_rfl) ⟨vb,0,none⟩ ⟨g,off,none⟩ m vc lb cb hne ve te vcur.size cur.size (by simp[World.shape?,hv]) (by simp[World.shape?,hg]) (by omega) (by simp[World.frozen?,hv]) (by simp[World.frozen?,hv])]
  rfl
 have hdl:((cur.toList.take (n*4)).drop (i*4)).length=(n-i)*4:=by simp only[List.length_drop,List.length_take,Array.length_toList,hcs];rw[Nat.min_eq_left (by omega),Nat.sub_mul]
 have hcl:∀j v,(cur.toList.take (n*4))[j]? =some v->w.cell? ⟨g,j,none⟩=some v:=fun j v h=>by
  rw[List.getElem?_take] at h;split at h
  ·simpa[World.cell?,hg] using h
  ·cases h
 have hcv:∀j v,(vcur.toList.take (m*4))[j]? =some v->w.cell? ⟨vb,j,none⟩=some v:=fun j v h=>by
  rw[List.getElem?_take] at h;split at h
  ·simpa[World.cell?,hv] using h
  ·cases h
 have hcp1:∀ty dc sc,(Builtin.copy_ #[64,64] ty #[.slice (some ⟨g,(i+m)*4,none⟩) (n+m-(i+m)) dc,.slice (some ⟨g,i*4,none⟩) (n+m-i) sc]).run O w.drew=
   .ok (goInt (Nat.min (n+m-i) (n+m-(i+m)))) (w.drew.setRow g (bY cur.toList ((i+m)*4) ((cur.toList.take (n*4)).drop (i*4))).toArray):=fun ty dc sc=>
  y8 w.drew _ _ ty 178 4 g ((i+m)*4) (n+m-(i+m)) dc ⟨g,i*4,none⟩ (n+m-i) sc cur te _ t33 hsz hg (by rw[hdl];simp only[Nat.min_def];split<;>omega)
   (fun j v hj=>by rw[Addr.add_lit];exact hcl (i*4+j) v (by rwa[List.getElem?_drop] at hj)) (by rw[hdl,hcs];omega) (fun v hv=>h1c v (List.mem_of_mem_drop hv))
 obtain⟨cur1,hcur1⟩:∃cur1,cur1=(bY cur.toList ((i+m)*4) ((cur.toList.take (n*4)).drop (i*4))).toArray:=⟨_,rfl⟩;rw[<-hcur1] at hcp1;have hc1s:cur1.size=c*4:=by rw[hcur1];simp only[bY,List.size_toArray,dx,List.length_drop,List.length_take,Array.length_toList,hcs];omega
 have hcp2:∀(W:World),W.heap=(w.drew.setRow g cur1).heap->∀ty dc,(Builtin.copy_ #[64,64] ty #[.slice (some ⟨g,i*4,none⟩) (n+m-i) dc,.slice (some ⟨vb,0,none⟩) m vc]).run O W=
   .ok (goInt (Nat.min m (n+m-i))) (W.setRow g (bY cur1.toList (i*4) (vcur.toList.take (m*4))).toArray):=fun W hW ty dc=>
  y8 W _ _ ty 178 4 g (i*4) (n+m-i) dc ⟨vb,0,none⟩ m vc cur1 te _ t33 hsz (by rw[hW];exact setRow_heap w.drew g cur cur1 te (0,0) hg)
   (by simp only[List.length_take,Array.length_toList,Nat.min_def];split<;>split<;>omega)
   (fun j v hj=>by
    have:=hcv j v hj;rw[Addr.add_lit,Nat.zero_add];unfold World.cell? at this ⊢;rw[hW,show(w.drew.setRow g cur1).heap[vb]? =w.heap[vb]? from setRow_other w.drew g vb cur1 hne];exact this) (by simp only[List.length_take,Array.length_toList];omega) h1v
 have hE:w.drew.setRow g (bY (bY cur.toList ((i+m)*4) ((cur.toList.take (n*4)).drop (i*4))) (i*4) (vcur.toList.take (m*4))).toArray=(w.drew.setRow g cur1).setRow g (bY cur1.toList (i*4) (vcur.toList.take (m*4))).toArray:=by
  rw[setRow_setRow,hcur1]
 rw[hE];clear hE hcur1;have hw1:IntKind.i64.wrap ((i:Int)+(m:Int))=(i:Int)+(m:Int):=by rw[IntKind.wrap_i64];omega
 have hb1:(0:Int)<=(i:Int)+(m:Int):=by omega
 have hin:i<=n:=by omega
 have htn:((i:Int)+(m:Int)).toNat=i+m:=by omega
 have hb2:¬(c=i+m):=by omega
 have hb3:(i:Int)<=(n:Int)+(m:Int):=by omega
 have hb4:¬(c=i):=by omega
 go_enter Tryz.func230,Tryz.ntmps230
 go_wp2_with (simp only[hov])
 go_region_law (refine Pk rfl _ _ 64 64 rfl (.slice (some ⟨g,(i+m)*4,none⟩) (n+m-(i+m)) (c-(i+m))) (.slice (some ⟨g,i*4,none⟩) (n+m-i) (c-i)) (by simp[Act.eval,Act.put]) (by simp[Act.eval,Act.put]) (hcp1 _ _ _) ?_)
 go_wp2_with (at_builtin;refine OU _ rfl _ _ 64 64 rfl _ _ rfl rfl (hcp2 _ rfl _ _) ?_)
 go_ret
 exact⟨rfl,rfl⟩
theorem ajJ(xa:Option Addr)(vc:Nat)(w:World):
  Calls O 230 #[.slice none 0 0,.int .i64 0,.slice xa 0 vc] w fun e w'=>e=.returned (.slice none 0 0)/\w'=w:=by
 go_enter Tryz.func230,Tryz.ntmps230
 go_wp2
 go_ret
 exact⟨rfl,rfl⟩
theorem ajI(g n c i:Nat)(xa:Option Addr)(vc:Nat)(w:World)(hi:i<=n)(hnc:n<=c)(hc63:c<=9223372036854775807):
  Calls O 230 #[.slice (some ⟨g,0,none⟩) n c,.int .i64 i,.slice xa 0 vc] w fun e w'=>e=.returned (.slice (some ⟨g,0,none⟩) n c)/\w'=w:=by
 go_enter Tryz.func230,Tryz.ntmps230
 go_wp2
 all_goals(go_ret;exact⟨rfl,rfl⟩)
theorem alM(xa:Option Addr)(m vc:Nat)(w:World)(hm:0<m)(v':Value)(W:World)(hr:∀ty,(Builtin.append_ #[64,64] ty #[.slice none 0 0,.slice xa m vc]).run O w=.ok v' W):
  Calls O 230 #[.slice none 0 0,.int .i64 0,.slice xa m vc] w fun e w'=>e=.returned v'/\w'=W:=by
 have hz1:¬((m:Int)=0):=by omega
 go_enter Tryz.func230,Tryz.ntmps230
 go_wp2_with (at_builtin;refine Fh _ rfl _ _ 64 64 rfl _ _ rfl rfl (hr _) ?_)
 go_ret
 exact⟨rfl,rfl⟩
theorem alL(g n c:Nat)(xa:Option Addr)(m vc:Nat)(w:World)(hnc:n<=c)(hc63:c<=9223372036854775807)(hm:0<m)(v':Value)(W:World)(hr:∀ty,(Builtin.append_ #[64,64] ty #[.slice (some ⟨g,0,none⟩) n c,.slice xa m vc]).run O w=.ok v' W):
  Calls O 230 #[.slice (some ⟨g,0,none⟩) n c,.int .i64 n,.slice xa m vc] w fun e w'=>e=.returned v'/\w'=W:=by
 have hz1:¬((m:Int)=0):=by omega
 go_enter Tryz.func230,Tryz.ntmps230
 go_wp2_with (at_builtin;refine Fh _ rfl _ _ 64 64 rfl _ _ rfl rfl (hr _) ?_)
 all_goals(go_ret;exact⟨rfl,rfl⟩)
theorem alK(g n c i vb m vc:Nat)(cur vcur:Array Value)(te ve:TypeId)(w:World)(hi:i<n)(hm:0<m)(hnc:n<=c)(hroom:c<n+m)(hc63:c<=9223372036854775807)(hbig:(n+m)*48<=140737488355328)
  (hg:w.heap[g]? =some (.cells cur te (0,0))) (hv:w.heap[vb]? =some (.cells vcur ve (0,0))) (hcs:cur.size=c*4) (hvs:m*4<=vcur.size)
  (h1c:∀v∈cur.toList.take (n*4),v.oneCell'=true) (h1v:∀v∈vcur.toList.take (m*4),v.oneCell'=true):
  ∃G ROW,∃W:World,G<=maxLen/\n+m<=G/\ROW.size=G*4/\ROW.toList.take (i*4)=cur.toList.take (i*4)/\W.os=w.os/\W.tape=w.tape/\W.output=w.output/\W.heap=w.heap.push (.cells ROW 178 (0,0))/\
  Calls O 230 #[.slice (some ⟨g,0,none⟩) n c,.int .i64 i,.slice (some ⟨vb,0,none⟩) m vc] w fun e w'=>
   e=.returned (.slice (some ⟨w.heap.size,0,none⟩) (n+m) G)/\w'.os=w.os/\w'.tape=w.tape/\w'.output=w.output/\
    w'.heap=(W.setRow w.heap.size (bY (bY ROW.toList (i*4) (vcur.toList.take (m*4))) ((i+m)*4) ((cur.toList.take (n*4)).drop (i*4))).toArray).heap:=by
 have t33:O.underlying 64=some (.slice 178):=by kernel_rfl
 have t3:O.underlying 3=some (.int .i64):=by kernel_rfl
 have hsz:(O.info? 178).map (·.size)=some 4:=by kernel_rfl
 have hinfo:(O.info? 178).map (fun i=>(i.zero.map (·.cells.size),i.size,i.bytes))=some (some 4,4,48):=by kernel_rfl
 obtain⟨i0,hi0,hzz⟩:=Option.map_eq_some_iff.1 hinfo;simp only[Prod.mk.injEq] at hzz;obtain⟨hz0,hzs,hzb⟩:=hzz;obtain⟨z,hz,hzc⟩:=Option.map_eq_some_iff.1 hz0;have hz1:¬((m:Int)=0):=by omega
 have hz2:¬((i:Int)=(n:Int)):=by omega
 have hz3:(c:Int)<(n:Int)+(m:Int):=by omega
 have hgw:g<w.heap.size:=(Array.getElem?_eq_some_iff.1 hg).1;have hvw:vb<w.heap.size:=(Array.getElem?_eq_some_iff.1 hv).1;have hkk:(n:Int)+(m:Int)-(i:Int)=((n+m-i:Nat):Int):=by omega
 have hik:i+(n+m-i)=n+m:=by omega
 have hdl:((cur.toList.take (n*4)).drop (i*4)).length=(n-i)*4:=by simp only[List.length_drop,List.length_take,Array.length_toList,hcs];rw[Nat.min_eq_left (by omega),Nat.sub_mul]
 have hcl:∀j v,(cur.toList.take (n*4))[j]? =some v->w.cell? ⟨g,j,none⟩=some v:=fun j v h=>by
  rw[List.getElem?_take] at h;split at h
  ·simpa[World.cell?,hg] using h
  ·cases h
 have hcv:∀j v,(vcur.toList.take (m*4))[j]? =some v->w.cell? ⟨vb,j,none⟩=some v:=fun j v h=>by
  rw[List.getElem?_take] at h;split at h
  ·simpa[World.cell?,hv] using h
  ·cases h
 have hold:(Builtin.firstCells i0.size i (.slice (some ⟨g,0,none⟩) i c)).run O w.drew=.ok (cur.toList.take (i*4)).toArray w.drew:=by
  rw[hzs];exact run_firstCells_some w.drew 4 i ⟨g,0,none⟩ i c (cur.toList.take (i*4)) (by simp only[List.length_take,Array.length_toList,hcs];omega) (fun j v hj=>by
   rw[Addr.add_lit,Nat.zero_add];refine hcl j v ?_
   rw[List.getElem?_take] at hj ⊢;split at hj
   ·rw[if_pos (by omega)];exact hj
   ·cases hj)
 have hrz:∀ty,(Builtin.append_ #[64,3] ty #[.slice (some ⟨g,0,none⟩) i c,.int .i64 ((n:Int)+(m:Int)-(i:Int))]).run O w=
   .ok (.slice (some ⟨w.heap.size,0,none⟩) (n+m) (grownCap w (n+m) c 178)) (w.drew.alloc (.cells ((cur.toList.take (i*4)).toArray++Builtin.zeroCells z.cells (n+m-i)++Builtin.zeroCells z.cells (grownCap w (n+m) c 178-(n+m))) 178)):=fun ty=>by
  have h:=Lib.run_append_grow_zeros w 64 3 ty 178 i0 z .i64 .i64 t33 t3 hi0 hz (some ⟨g,0,none⟩) i c (cur.toList.take (i*4)) hold (n+m-i) (by omega) (by omega) (by omega) (by omega) (by rw[hzb];omega) (by rw[hzb,hik];exact growslice_fits hroom hbig)
  rw[hik] at h;rw[hkk];exact h
 obtain⟨G,hG⟩:∃G,G=grownCap w (n+m) c 178:=⟨_,rfl⟩;obtain⟨ROW,hROW⟩:∃ROW:Array Value,ROW=(cur.toList.take (i*4)).toArray++Builtin.zeroCells z.cells (n+m-i)++Builtin.zeroCells z.cells (G-(n+m)):=⟨_,rfl⟩;rw[<-hG] at hrz;rw[<-hROW] at hrz;have hGn:n+m<=G:=by rw[hG];exact grownCap_ge w _ _ _
 have hGm:G<=maxLen:=by rw[hG];exact grownCap_le_maxLen w (n+m) c 178 (by unfold maxLen;omega)
 have hG63:G<=9223372036854775807:=by unfold maxLen at hGm;omega
 have hRl:ROW.size=G*4:=by
  rw[hROW];simp only[Array.size_append,List.size_toArray,size_zeroCells,hzc,List.length_take,Array.length_toList,hcs];omega
 have hRt:ROW.toList.take (i*4)=cur.toList.take (i*4):=by
  rw[hROW];simp only[Array.toList_append,List.append_assoc];have:i*4=(cur.toList.take (i*4)).length:=by simp only[List.length_take,Array.length_toList,hcs];omega
  exact List.take_left' this.symm
 refine⟨G,ROW,w.drew.alloc (.cells ROW 178),hGm,hGn,hRl,hRt,rfl,rfl,rfl,rfl,?_⟩;obtain⟨W1,hW1⟩:∃W1,W1=w.drew.alloc (.cells ROW 178):=⟨_,rfl⟩;rw[<-hW1] at hrz ⊢;have hNew:W1.heap[w.heap.size]? =some (.cells ROW 178 (0,0)):=by rw[hW1];exact heap_alloc_new w.drew _
 have hOld:∀b,b<w.heap.size->W1.heap[b]? =w.heap[b]? :=fun b hb=>by rw[hW1];exact RowKit.Below.heap_alloc w.drew _ b hb
 have hos:W1.os=w.os/\W1.tape=w.tape/\W1.output=w.output:=by rw[hW1];exact⟨rfl,rfl,rfl⟩
 have hgN:g≠w.heap.size:=by omega
 have hvN:vb≠w.heap.size:=by omega
 have hcpA:∀(W:World),W.heap=W1.heap->∀ty dc,(Builtin.copy_ #[64,64] ty #[.slice (some ⟨w.heap.size,i*4,none⟩) (n+m-i) dc,.slice (some ⟨vb,0,none⟩) m vc]).run O W=
   .ok (goInt (Nat.min m (n+m-i))) (W.setRow w.heap.size (bY ROW.toList (i*4) (vcur.toList.take (m*4))).toArray):=fun W hW ty dc=>
  y8 W _ _ ty 178 4 w.heap.size (i*4) (n+m-i) dc ⟨vb,0,none⟩ m vc ROW 178 _ t33 hsz (by rw[hW];exact hNew)
   (by simp only[List.length_take,Array.length_toList,Nat.min_def];split<;>split<;>omega)
   (fun j v hj=>by
    have:=hcv j v hj;rw[Addr.add_lit,Nat.zero_add];unfold World.cell? at this ⊢;rw[hW,show W1.heap[vb]? =w.heap[vb]? from hOld vb hvw];exact this) (by simp only[List.length_take,Array.length_toList];omega) h1v
 obtain⟨R2,hR2⟩:∃R2,R2=(bY ROW.toList (i*4) (vcur.toList.take (m*4))).toArray:=⟨_,rfl⟩;have hE:W1.setRow w.heap.size (bY (bY ROW.toList (i*4) (vcur.toList.take (m*4))) ((i+m)*4) ((cur.toList.take (n*4)).drop (i*4))).toArray=
   (W1.setRow w.heap.size R2).setRow w.heap.size (bY R2.toList ((i+m)*4) ((cur.toList.take (n*4)).drop (i*4))).toArray:=by rw[setRow_setRow,hR2]
 rw[hE];have hR2s:R2.size=G*4:=by rw[hR2];simp only[bY,List.size_toArray,dx,List.length_drop,List.length_take,Array.length_toList,hRl];omega
 rw[<-hR2] at hcpA;clear hE hR2;have hcpB:∀(W:World),W.heap=(W1.setRow w.heap.size R2).heap->∀ty dc sc,(Builtin.copy_ #[64,64] ty #[.slice (some ⟨w.heap.size,(i+m)*4,none⟩) (n+m-(i+m)) dc,.slice (some ⟨g,i*4,none⟩) (n-i) sc]).run O W=
   .ok (goInt (Nat.min (n-i) (n+m-(i+m)))) (W.setRow w.heap.size (bY R2.toList ((i+m)*4) ((cur.toList.take (n*4)).drop (i*4))).toArray):=fun W hW ty dc sc=>
  y8 W _ _ ty 178 4 w.heap.size ((i+m)*4) (n+m-(i+m)) dc ⟨g,i*4,none⟩ (n-i) sc R2 178 _ t33 hsz (by rw[hW];exact setRow_heap W1 w.heap.size ROW R2 178 (0,0) hNew)
   (by rw[hdl];simp only[Nat.min_def];split<;>omega)
   (fun j v hj=>by
    have:=hcl (i*4+j) v (by rwa[List.getElem?_drop] at hj)
    rw[Addr.add_lit];unfold World.cell? at this ⊢;rw[hW,show(W1.setRow w.heap.size R2).heap[g]? =w.heap[g]? from(setRow_other W1 w.heap.size g R2 hgN).trans (hOld g hgw)];exact this) (by rw[hdl,hR2s];omega) (fun v hv=>h1c v (List.mem_of_mem_drop hv))
 have hGi:¬(G=i):=by omega
 have hGim:¬(G=i+m):=by omega
 have hci:¬(c=i):=by omega
 have hw1:IntKind.i64.wrap ((i:Int)+(m:Int))=(i:Int)+(m:Int):=by rw[IntKind.wrap_i64];omega
 have hb1:(0:Int)<=(i:Int)+(m:Int):=by omega
 have hin:i<=n:=by omega
 have htn:((i:Int)+(m:Int)).toNat=i+m:=by omega
 have hb3:(i:Int)<=(n:Int):=by omega
 clear hkk hik hold hROW hG hRl hW1;go_enter Tryz.func230,Tryz.ntmps230
 go_wp2_with (first
  |(at_builtin;refine Fh _ rfl _ _ 64 3 rfl _ _ rfl rfl (hrz _) ?_)
  |(at_builtin;refine OU _ rfl _ _ 64 64 rfl _ _ rfl rfl (hcpA _ rfl _ _) ?_))
 go_region_law (refine Pk rfl _ _ 64 64 rfl (.slice (some ⟨w.heap.size,(i+m)*4,none⟩) (n+m-(i+m)) (G-(i+m))) (.slice (some ⟨g,i*4,none⟩) (n-i) (c-i)) (by simp[Act.eval,Act.put]) (by simp[Act.eval,Act.put]) (hcpB (W1.setRow w.heap.size R2).drew rfl 3 (G-(i+m)) (c-i)) ?_)
 go_wp2
 go_ret
 exact⟨rfl,hos.1,hos.2.1,hos.2.2,rfl⟩
noncomputable def Xu:aH:=Jg .entry 48
theorem aqY:aE O 230 Xu:=ajG (t:=.entry) (bt:=48) rfl (by decide) (T:=64) (e:=178) ⟨ajJ,ajI,alM,alL,ajH,alK⟩ (fun vs w=>enters_of Tryz.func230 (by kernel_rfl) rfl _ _) (by kernel_rfl) (by kernel_rfl)
noncomputable abbrev avf:a8:=[(105,xz),(201,LY),(229,_F),(230,Xu)]
theorem DZ:aT O (aZ af avf):=aY ⟨z105,z201,z229,aqY,⟨⟩⟩
abbrev TA:Shape:=⟨[aO 0 .entry,aO 1 .entry],[],59⟩
abbrev Te:List aR:=[(.norm,⟨[aO 0 .entry,aO 1 .entry,ar 18],[],59⟩)]
noncomputable def Js(y:TA.J):Option (aG Te):=
(f105 ((y.1.1,()),())).bind fun a=>
 bif(!(!a.1.1)) then
(f105 ((y.1.2.1,()),())).bind fun b=>
 some ((y.1.1,y.1.2.1,(!b.1.1),()),())
else
 some ((y.1.1,y.1.2.1,true,()),())
theorem am8:aV O (ap (codeOf Tryz.f185) 1 12) (aX TA Te Js):=cm DZ (by kernel_rfl) ag fun y=>by kernel_rfl
abbrev Pn:Shape:=⟨[bd 6 3000384,ax 8 8 0,aj 9,aO 21 .entry,aj 22,aj 23],[bc 3000384 .entry 6 0,aw 8 [ah,ba,ba,ah]],59⟩
abbrev Pf:List aR:=[(.norm,⟨[bd 6 3000384,aO 21 .entry,aj 22,aj 23,ar 42,ax 43 8 1,aj 44,ar 45,ar 46,ar 53],[bc 3000384 .entry 6 0,aw 8 [ah,ba,ba,ah]],59⟩)]
noncomputable def FF(y:Pn.J):Option (aG Pf):=
 bif(y.2.2.1.2.1 !=(1:Int)) then
 some (((),y.1.2.2.2.1,y.1.2.2.2.2.1,y.1.2.2.2.2.2.1,true,(),y.2.2.1.2.1,(y.2.2.1.2.1 !=(1:Int)),true,true,()),y.2.1,(y.2.2.1.1,y.2.2.1.2.1,y.2.2.1.2.2.1,y.2.2.1.2.2.2.1,()),())
else
(bh y.2.1.length y.1.2.2.1).bind fun a=>
(y.2.1[a]?).bind fun b=>
 some (((),y.1.2.2.2.1,y.1.2.2.2.2.1,y.1.2.2.2.2.2.1,(!((b.path==y.2.2.1.1)&&((b.kind==y.2.2.1.2.1)&&((b.mode==y.2.2.1.2.2.1)&&(b.text==y.2.2.1.2.2.2.1))))),(),y.2.2.1.2.1,(y.2.2.1.2.1 !=(1:Int)),false,(!((b.path==y.2.2.1.1)&&((b.kind==y.2.2.1.2.1)&&((b.mode==y.2.2.1.2.2.1)&&(b.text==y.2.2.1.2.2.2.1))))),()),y.2.1,(y.2.2.1.1,y.2.2.1.2.1,y.2.2.1.2.2.1,y.2.2.1.2.2.2.1,()),())
theorem agA:aV O (ap (di (ap (codeOf Tryz.f185) 1 122)) 244 250678) (aX Pn Pf FF):=cm DZ (by kernel_rfl) ag fun y=>by kernel_rfl
abbrev z7:Shape:=⟨[bd 6 3000384,aO 21 .entry,aj 22,aj 23],[bc 3000384 .entry 6 0],59⟩
abbrev qW:List aR:=[(.ret,⟨[bd 4 3000256,ar 5],[bc 3000256 .entry 4 0],59⟩),(.exit 0,⟨[bd 6 3000384],[bc 3000384 .entry 6 0],59⟩)]
noncomputable def Au(y:z7.J):bP z7 qW:=
 bif(decide (y.1.2.2.2.1<y.1.2.2.1)) then
(aS y.1.2.1 y.1.2.2.2.1).bind fun a=>
(f201 ((y.2.1,a.path,()),())).bind fun b=>
 bif(!b.1.2.1) then
(uk 48 y.2.1 b.1.1 ([a]:List aB)).bind fun c=>
 some (.inl (((),y.1.2.1,y.1.2.2.1,(IntKind.i64.wrap (y.1.2.2.2.1+(1:Int))),()),c,()))
else
(FF (((),(),b.1.1,y.1.2.1,y.1.2.2.1,y.1.2.2.2.1,()),y.2.1,(a.path,a.kind,a.mode,a.text,()),())).bind fun d=>
 bif d.1.2.2.2.2.1 then
 some (.inr (.inl (((),false,()),([]:List aB),())))
else
 some (.inl (((),d.1.2.1,d.1.2.2.1,(IntKind.i64.wrap (d.1.2.2.2.1+(1:Int))),()),d.2.1,()))
else
 some (.inr (.inr (((),()),y.2.1,())))
noncomputable def Hs:z7.J->Option (aG qW):=bA Au
theorem alc:aV O (ap (codeOf Tryz.f185) 1 122) (aX z7 qW Hs):=bR DZ (by kernel_rfl) (a7 agA ag) fun y=>by kernel_rfl
abbrev i185:Shape:=⟨[aO 0 .entry,aO 1 .entry],[],59⟩
abbrev YR:Shape:=⟨[bd 4 3000256,ar 5],[bc 3000256 .entry 4 0],59⟩
noncomputable def f185(a:i185.J):Option YR.J:=
(Js ((a.1.1,a.1.2.1,()),())).bind fun b=>
 bif b.1.2.2.1 then
 some (((),false,()),([]:List aB),())
else
(f229 ((b.1.1,()),())).bind fun c=>
(Hs (((),b.1.2.1,(b.1.2.1.length:Int),(0:Int),()),c.2.1,())).bind fun d=>
(match d with
|.inl e=>
 some (((),e.1.2.1,()),e.2.1,())
|.inr f=>
(f105 ((f.2.1,()),())).bind fun g=>
 bif(!g.1.1) then
 some (((),false,()),([]:List aB),())
else
 some (((),true,()),f.2.1,()))
noncomputable def _2:aH:=aL af Tryz.f185 i185 YR [] f185
theorem asR:aE O 185 _2:=aM DZ Tryz.func185 (by kernel_rfl) (a7 am8 (a7 alc ag)) (fun y=>by kernel_rfl) fun a=>by kernel_rfl
noncomputable abbrev avO:a8:=[(185,_2)]
theorem aa9:aT O (aZ af avO):=aY ⟨asR,⟨⟩⟩
abbrev Bb:Shape:=⟨[bd 4 3000256,aO 9 .pack,aj 10,aj 11],[bc 3000256 .entry 4 0],27⟩
abbrev q_:List aR:=[(.ret,⟨[bd 2 3000128,ar 3],[bc 3000128 .entry 2 0],27⟩),(.exit 0,⟨[bd 4 3000256],[bc 3000256 .entry 4 0],27⟩)]
noncomputable def BN(y:Bb.J):bP Bb q_:=
 bif(decide (y.1.2.2.2.1<y.1.2.2.1)) then
(aS y.1.2.1 y.1.2.2.2.1).bind fun a=>
(f185 ((y.2.1,a.bI,()),())).bind fun b=>
 bif(!b.1.2.1) then
 some (.inr (.inl (((),false,()),([]:List aB),())))
else
 some (.inl (((),y.1.2.1,y.1.2.2.1,(IntKind.i64.wrap (y.1.2.2.2.1+(1:Int))),()),b.2.1,()))
else
 some (.inr (.inr (((),()),y.2.1,())))
noncomputable def I':Bb.J->Option (aG q_):=bA BN
theorem anx:aV O (ap (codeOf Tryz.f133) 1 58) (aX Bb q_ I'):=bR aa9 (by kernel_rfl) ag fun y=>by kernel_rfl
abbrev i133:Shape:=⟨[aO 0 .pack],[],27⟩
abbrev Zs:Shape:=⟨[bd 2 3000128,ar 3],[bc 3000128 .entry 2 0],27⟩
noncomputable def f133(a:i133.J):Option Zs.J:=
(I' (((),a.1.1,(a.1.1.length:Int),(0:Int),()),([]:List aB),())).bind fun b=>
(match b with
|.inl c=>
 some (((),c.1.2.1,()),c.2.1,())
|.inr d=>
 some (((),true,()),d.2.1,()))
noncomputable def aax:aH:=aL af Tryz.f133 i133 Zs [] f133
theorem atb:aE O 133 aax:=aM aa9 Tryz.func133 (by kernel_rfl) (a7 anx ag) (fun y=>by kernel_rfl) fun a=>by kernel_rfl
theorem Gz:∀(r:List aB) (out D:List aB),(∀e,e∈r->mf e)->(∀e,e∈out->mf e)->g_ out r=some D->D.length<=out.length+r.length/\∀e,e∈D->mf e:=by
 intro r;induction r with
 |nil=>intro out D _ h2 h;cases h;exact⟨Nat.le_refl _,h2⟩
 |cons e r ih=>
  intro out D h1 h2 h;rw[vw] at h;obtain⟨o1,h3,aF⟩:=Option.bind_eq_some_iff.1 h;have bo:=ih o1 D (fun x hx=>h1 x (cf _ hx)) (fun x hx=>by
   rcases Ge h3 hx with rfl|h
   ·exact h1 x ci
   ·exact h2 x h) aF
  have cp:=zk h3;exact⟨by simp only[cW];omega,bo.2⟩
theorem FI{t:List aB}(h:dQ t=true):f' t:=by
 unfold dQ at h;simp only[bC] at h;exact Wn h.1.1
theorem j3{t:List aB}(h:dQ t=true):t.length<=16:=by
 unfold dQ at h;simp only[bC,dY] at h;exact h.2
theorem aks(a)(hs:cw a.1.1.length):f229 a=some (((),()),(a.1.1,())):=by
 obtain⟨⟨xs,u⟩,b7⟩:=a;have hs:xs.length<=2097152:=hs;have h2:(cl 48 ([]:List aB) xs).bind (fun x=>some (((),()),(x,())))=(some (((),()),(xs,())):Option Ld.J):=by
  rw[dy (by decide) (by unfold aA;simp only[List.length_nil];omega)];rfl
 simp only[f229];rw[h2];unfold qU;split
 ·rfl
 ·rename_i h;exact absurd (fun he:xs=[]=>by subst he;rfl) h
theorem ahh(a)(ha:iL a.1.1)(hb:iL a.1.2.1)(h1:dQ a.1.1=true)(h2:dQ a.1.2.1=true):f185 a=
  some (match g_ a.1.1 a.1.2.1 with|some out=>(bif dQ out then(((),(true,())),(out,())) else(((),(false,())),(([]:List aB),())))|none=>(((),(false,())),(([]:List aB),()))):=by
 obtain⟨⟨xs,bm,u⟩,b7⟩:=a;have h1:dQ xs=true:=h1;have h2:dQ bm=true:=h2;have aCK:=j3 h1;have aCJ:=j3 h2;have e1:=qP ((xs,()),()) ha;have e2:=qP ((bm,()),()) hb;have bz:=aks ((xs,()),()) (show xs.length<=2097152 by omega)
 have key:Hs (((),(bm,((bm.length:Int),((0:Int),())))),(xs,()))=_:=my Au bm (fun i (out:List aB)=>(((),(bm,((bm.length:Int),((i:Int),())))),(out,())))
  (fun i e out=>some (match ii out e with|some D=>.inl D|none=>.inr ((.inl (((),(false,())),(([]:List aB),()))):aG qW))) (fun out=>((.inr (((),()),(out,()))):aG qW))
  (fun i out=>out.length<=xs.length+i/\f' out) xs ⟨Nat.le_refl _,FI h1⟩ (fun i x out hx dG=>?_) (fun out _=>?_)
 ·have fold:∀(r:List aB) (k:Nat) (out:List aB),fc (fun i e out=>some (match ii out e with|some D=>.inl D|none=>.inr ((.inl (((),(false,())),(([]:List aB),()))):aG qW))) (fun out=>((.inr (((),()),(out,()))):aG qW)) k r out=
    some (match g_ out r with|some D=>.inr (((),()),(D,()))|none=>.inl (((),(false,())),(([]:List aB),()))):=by
   intro r;induction r with
   |nil=>intro k out;rfl
   |cons e r ih=>
    intro k out;rw[vw];simp only[fc];cases ii out e with
    |none=>rfl
    |some D=>simp only[Y];exact ih _ _
  rw[fold] at key;simp only[f185,Js,e1,e2,h1,h2,bz,bu,bJ,ad,ak,Y,key];cases hj:g_ xs bm with
  |none=>rfl
  |some D=>
   have hm:=Gz bm xs D hb.2 ha.2 hj;simp only[Y];rw[qP _ ⟨show D.length<=2097152 by omega,hm.2⟩]
   simp only[Y];cases dQ D<;>rfl
 ·have hi:=da hx;have hw:aA i:=by unfold aA;omega
  refine⟨?_,fun aQ an=>?_⟩
  ·have nf:=Pb ((out,(x.path,())),()) (show out.length<=2097152 by omega) dG.2
   have qq:=ra out x.path;simp only[Au,ct hi,ad,cd,hx,Y,nf,hd,ii];have grow:uk 48 out (bV out x.path:Int) [x]=some (kc out (bV out x.path) x):=by
    unfold uk;rw[if_pos ⟨by omega,by omega,by unfold room;simp only[cW,List.length_nil];omega,by unfold maxLen;simp only[cW,List.length_nil];omega⟩,Int.toNat_natCast]
    rfl
   cases aC:out[bV out x.path]? with
   |none=>simp only[bJ,ad,grow,Y,b9 hw];rfl
   |some q=>
    have hin:=fQ (da aC);simp only;cases hp:(q.path==x.path) with
    |false=>simp only[bJ,ad,grow,Y,b9 hw,ak];rfl
    |true=>
     have uV:((q.path==x.path)&&((q.kind==x.kind)&&((q.mode==x.mode)&&(q.text==x.text))))=kR q x:=rfl;simp only[bu,ak,ad,FF,hin,aC,Y,mT,al0 x q];cases hk:(x.kind !=1) with
     |true=>rfl
     |false=>
      have auk:(kR q x)=((q.path==x.path)&&((q.kind==x.kind)&&((q.mode==x.mode)&&(q.text==x.text)))):=rfl;rw[auk];cases ((q.path==x.path)&&((q.kind==x.kind)&&((q.mode==x.mode)&&(q.text==x.text)))) with
      |false=>rfl
      |true=>simp only[bu,Bool.false_or,ak,Y,b9 hw];rfl
  ·simp only[bE] at an;cases hs:ii out x with
   |none=>rw[hs] at an;cases an
   |some D=>
    rw[hs] at an;cases an;have cp:=zk hs;exact⟨by omega,aiG dG.2 hs⟩
 ·simp only[Au,dL,ak]
def fR(out:List aB):List aK->Option (List aB)
 |[]=>some out
 |p::r=>match g_ out p.bI with
  |some D=>bif dQ D then fR D r else none
  |none=>none
def stepT(out:List aB)(p:aK):Option (List aB):=match g_ out p.bI with
 |some D=>bif dQ D then some D else none
 |none=>none
theorem yW(out:List aB)(p:aK)(r:List aK):fR out (p::r)=(stepT out p).bind fun D=>fR D r:=by
 unfold stepT;rw[fR];cases g_ out p.bI with
 |none=>rfl
 |some D=>simp only;cases dQ D<;>rfl
theorem zQ{out D:List aB}{p:aK}(h:stepT out p=some D):dQ D=true/\g_ out p.bI=some D:=by
 unfold stepT at h;split at h
 ·rename_i dk aP;cases ay:dQ dk with
  |true=>rw[ay] at h;cases h;exact⟨ay,aP⟩
  |false=>rw[ay] at h;cases h
 ·cases h
theorem aih(a)(hb:fu a.1.1)(hk:a.1.1.all cx=true):f109 a=some (((),((fR [] a.1.1).isSome,())),((fR [] a.1.1).getD [],())):=by
 obtain⟨⟨ps,u⟩,b7⟩:=a;have hl:ps.length<=2097152:=hb.1;have MW:∀p,p∈ps->dQ p.bI=true/\iL p.bI:=by
  intro p hp;have:=List.all_eq_true.1 hk p hp;unfold cx at this;simp only[bC] at this;exact⟨this.2,(hb.2 p hp).2.2.2⟩
 have key:Jd ((ps,((),((0:Int),()))),(([]:List aB),()))=_:=my BR ps (fun i (out:List aB)=>((ps,((),((i:Int),()))),(out,())))
  (fun i p out=>some (match stepT out p with|some D=>.inl D|none=>.inr ((.inl (((),(false,())),(([]:List aB),()))):aG q'))) (fun out=>((.inr (((),()),(out,()))):aG q'))
  (fun i out=>out.length<=16/\∀e,e∈out->mf e) [] ⟨Nat.zero_le _,fun e h=>by cases h⟩ (fun i x out hx dG=>?_) (fun out _=>?_)
 ·have fold:∀(r:List aK) (k:Nat) (out:List aB),fc (fun i p out=>some (match stepT out p with|some D=>.inl D|none=>.inr ((.inl (((),(false,())),(([]:List aB),()))):aG q'))) (fun out=>((.inr (((),()),(out,()))):aG q')) k r out=
    some (match fR out r with|some D=>.inr (((),()),(D,()))|none=>.inl (((),(false,())),(([]:List aB),()))):=by
   intro r;induction r with
   |nil=>intro k out;rfl
   |cons p r ih=>
    intro k out;rw[yW];simp only[fc];cases stepT out p with
    |none=>rfl
    |some D=>simp only[Y];exact ih _ _
  rw[fold] at key;simp only[f109,key,Y];cases fR [] ps with
  |none=>rfl
  |some D=>rfl
 ·have hi:=da hx;have hw:aA i:=by unfold aA;omega
  obtain⟨MX,pb⟩:=MW x (eJ hx);have yf:=j3 MX;have eI:iL out:=⟨show out.length<=2097152 by omega,dG.2⟩
  refine⟨?_,fun aQ an=>?_⟩
  ·have hj:=akg ((out,(x.bI,())),()) eI pb (show out.length+x.bI.length<=2097152 by omega)
   simp only[BR,ct hi,ad,cd,hx,Y,hj,stepT];cases g_ out x.bI with
   |none=>rfl
   |some D=>
    simp only;cases dQ D with
    |false=>rfl
    |true=>simp only[bu,ak,ad,b9 hw];rfl
  ·simp only[bE] at an;cases hs:stepT out x with
   |none=>rw[hs] at an;cases an
   |some D=>
    rw[hs] at an;cases an;obtain⟨bo,cp⟩:=zQ hs;exact⟨j3 bo,(Gz _ _ _ pb.2 dG.2 cp).2⟩
 ·simp only[BR,dL,ak]
theorem RD(a)(hb:fu a.1.1)(hk:a.1.1.all cx=true):∃out,f109 a=some (((),((fR [] a.1.1).isSome,())),(out,())):=⟨_,aih a hb hk⟩
theorem afG(a)(hb:fu a.1.1)(hk:a.1.1.all cx=true):f133 a=some (((),((fR [] a.1.1).isSome,())),((fR [] a.1.1).getD [],())):=by
 obtain⟨⟨ps,u⟩,b7⟩:=a;have hl:ps.length<=2097152:=hb.1;have MW:∀p,p∈ps->dQ p.bI=true/\iL p.bI:=by
  intro p hp;have:=List.all_eq_true.1 hk p hp;unfold cx at this;simp only[bC] at this;exact⟨this.2,(hb.2 p hp).2.2.2⟩
 have key:I' (((),(ps,((ps.length:Int),((0:Int),())))),(([]:List aB),()))=_:=my BN ps (fun i (out:List aB)=>(((),(ps,((ps.length:Int),((i:Int),())))),(out,())))
  (fun i p out=>some (match stepT out p with|some D=>.inl D|none=>.inr ((.inl (((),(false,())),(([]:List aB),()))):aG q_))) (fun out=>((.inr (((),()),(out,()))):aG q_))
  (fun i out=>dQ out=true/\∀e,e∈out->mf e) [] ⟨rfl,fun e h=>by cases h⟩ (fun i x out hx dG=>?_) (fun out _=>?_)
 ·have fold:∀(r:List aK) (k:Nat) (out:List aB),fc (fun i p out=>some (match stepT out p with|some D=>.inl D|none=>.inr ((.inl (((),(false,())),(([]:List aB),()))):aG q_))) (fun out=>((.inr (((),()),(out,()))):aG q_)) k r out=
    some (match fR out r with|some D=>.inr (((),()),(D,()))|none=>.inl (((),(false,())),(([]:List aB),()))):=by
   intro r;induction r with
   |nil=>intro k out;rfl
   |cons p r ih=>
    intro k out;rw[yW];simp only[fc];cases stepT out p with
    |none=>rfl
    |some D=>simp only[Y];exact ih _ _
  rw[fold] at key;simp only[f133,key,Y];cases fR [] ps with
  |none=>rfl
  |some D=>rfl
 ·have hi:=da hx;have hw:aA i:=by unfold aA;omega
  obtain⟨MX,pb⟩:=MW x (eJ hx);have yf:=j3 dG.1;have eI:iL out:=⟨show out.length<=2097152 by omega,dG.2⟩
  refine⟨?_,fun aQ an=>?_⟩
  ·have hj:=ahh ((out,(x.bI,())),()) eI pb dG.1 MX;simp only[BN,ct hi,ad,cd,hx,Y,hj,stepT];cases g_ out x.bI with
   |none=>rfl
   |some D=>
    simp only;cases dQ D with
    |false=>rfl
    |true=>simp only[bu,ak,ad,b9 hw];rfl
  ·simp only[bE] at an;cases hs:stepT out x with
   |none=>rw[hs] at an;cases an
   |some D=>
    rw[hs] at an;cases an;obtain⟨bo,cp⟩:=zQ hs;exact⟨bo,(Gz _ _ _ pb.2 dG.2 cp).2⟩
 ·simp only[BN,dL,ak]
theorem agj(a)(hb:fu a.1.1)(hk:a.1.1.all cx=true):∃out,f133 a=some (((),((fR [] a.1.1).isSome,())),(out,())):=⟨_,afG a hb hk⟩
abbrev Sh:Shape:=⟨[aO 0 .i64,aO 1 .i64,aj 5],[],42⟩
abbrev RZ:List aR:=[(.norm,⟨[aO 0 .i64,aO 1 .i64,aj 5],[],42⟩),(.exit 0,⟨[],[],42⟩)]
noncomputable def s8(y:Sh.J):Option (aG RZ):=
 bif(!(decide (y.1.2.2.1<(y.1.1.length:Int)))) then
 bif(decide (y.1.2.2.1<(y.1.2.1.length:Int))) then
 some (.inl ((y.1.1,y.1.2.1,y.1.2.2.1,()),()))
else
 some (.inr ((),()))
else
 some (.inl ((y.1.1,y.1.2.1,y.1.2.2.1,()),()))
theorem ak3:aV O (ap (di (ap (codeOf Tryz.f238) 1 26)) 52 104) (aX Sh RZ s8):=cm g0 (by kernel_rfl) ag fun y=>by kernel_rfl
abbrev QT:Shape:=⟨[aO 0 .i64,aO 1 .i64,aj 5,aj 6,aj 7],[],42⟩
abbrev QA:List aR:=[(.norm,⟨[aO 0 .i64,aO 1 .i64,aj 5,aj 6,aj 7],[],42⟩)]
noncomputable def vG(y:QT.J):Option (aG QA):=
 bif(decide (y.1.2.2.1<(y.1.1.length:Int))) then
(aS y.1.1 y.1.2.2.1).bind fun a=>
 some ((y.1.1,y.1.2.1,y.1.2.2.1,a,y.1.2.2.2.2.1,()),())
else
 some ((y.1.1,y.1.2.1,y.1.2.2.1,y.1.2.2.2.1,y.1.2.2.2.2.1,()),())
theorem ai4:aV O (ap (di (ap (codeOf Tryz.f238) 1 26)) 52 3366) (aX QT QA vG):=cm g0 (by kernel_rfl) ag fun y=>by kernel_rfl
abbrev QS:Shape:=⟨[aO 0 .i64,aO 1 .i64,aj 5,aj 6,aj 7],[],42⟩
abbrev Qz:List aR:=[(.norm,⟨[aO 0 .i64,aO 1 .i64,aj 5,aj 6,aj 7],[],42⟩)]
noncomputable def vF(y:QS.J):Option (aG Qz):=
 bif(decide (y.1.2.2.1<(y.1.2.1.length:Int))) then
(aS y.1.2.1 y.1.2.2.1).bind fun a=>
 some ((y.1.1,y.1.2.1,y.1.2.2.1,y.1.2.2.2.1,a,()),())
else
 some ((y.1.1,y.1.2.1,y.1.2.2.1,y.1.2.2.2.1,y.1.2.2.2.2.1,()),())
theorem ai3:aV O (ap (di (ap (codeOf Tryz.f238) 1 26)) 52 6734) (aX QS Qz vF):=cm g0 (by kernel_rfl) ag fun y=>by kernel_rfl
abbrev AN:Shape:=⟨[aO 0 .i64,aO 1 .i64,aj 5],[],42⟩
abbrev H9:List aR:=[(.ret,⟨[aj 4],[],42⟩),(.exit 0,⟨[],[],42⟩)]
noncomputable def tj(y:AN.J):bP AN H9:=
(s8 ((y.1.1,y.1.2.1,y.1.2.2.1,()),())).bind fun a=>
(match a with
|.inl b=>
(vG ((b.1.1,b.1.2.1,b.1.2.2.1,((-1):Int),((-1):Int),()),())).bind fun c=>
(vF ((c.1.1,c.1.2.1,c.1.2.2.1,c.1.2.2.2.1,c.1.2.2.2.2.1,()),())).bind fun d=>
 bif(decide (d.1.2.2.2.1<d.1.2.2.2.2.1)) then
 some (.inr (.inl ((((-1):Int),()),())))
else
 bif(decide (d.1.2.2.2.1>d.1.2.2.2.2.1)) then
 some (.inr (.inl (((1:Int),()),())))
else
 some (.inl ((d.1.1,d.1.2.1,(IntKind.i64.wrap (d.1.2.2.1+(1:Int))),()),()))
|.inr e=>
 some (.inr (.inr ((),()))))
noncomputable def oE:AN.J->Option (aG H9):=bA tj
theorem amW:aV O (ap (codeOf Tryz.f238) 1 26) (aX AN H9 oE):=bR g0 (by kernel_rfl) (a7 ak3 (a7 ai4 (a7 ai3 ag))) fun y=>by kernel_rfl
abbrev i238:Shape:=⟨[aO 0 .i64,aO 1 .i64],[],42⟩
abbrev Lc:Shape:=⟨[aj 4],[],42⟩
noncomputable def f238(a:i238.J):Option Lc.J:=
(oE ((a.1.1,a.1.2.1,(0:Int),()),())).bind fun b=>
(match b with
|.inl c=>
 some ((c.1.1,()),())
|.inr d=>
 some (((0:Int),()),()))
noncomputable def _B:aH:=aL af Tryz.f238 i238 Lc [] f238
theorem asx:aE O 238 _B:=aM g0 Tryz.func238 (by kernel_rfl) (a7 amW ag) (fun y=>by kernel_rfl) fun a=>by kernel_rfl
noncomputable abbrev au8:a8:=[(140,L_),(238,_B)]
theorem aaS:aT O (aZ af au8):=aY ⟨XM,asx,⟨⟩⟩
abbrev Tz:Shape:=⟨[bd 5 3000320,ar 6,bd 7 3000448,ar 8],[bc 3000320 .i64 5 0,bc 3000448 .i64 7 0],28⟩
abbrev Td:List aR:=[(.norm,⟨[bd 5 3000320,bd 7 3000448,ar 24],[bc 3000320 .i64 5 0,bc 3000448 .i64 7 0],28⟩)]
noncomputable def Jr(y:Tz.J):Option (aG Td):=
 bif(!(!y.1.2.1)) then
 some (((),(),(!y.1.2.2.2.1),()),y.2.1,y.2.2.1,())
else
 some (((),(),true,()),y.2.1,y.2.2.1,())
theorem am2:aV O (ap (codeOf Tryz.f204) 1 60) (aX Tz Td Jr):=cm aaS (by kernel_rfl) ag fun y=>by kernel_rfl
abbrev i204:Shape:=⟨[am 0,am 1],[],28⟩
abbrev YB:Shape:=⟨[aj 4],[],28⟩
noncomputable def f204(a:i204.J):Option YB.J:=
(f140 ((a.1.1,()),())).bind fun b=>
(f140 ((a.1.2.1,()),())).bind fun c=>
(Jr (((),b.1.2.1,(),c.1.2.1,()),b.2.1,c.2.1,())).bind fun d=>
 bif d.1.2.2.1 then
 some (((0:Int),()),())
else
(f238 ((d.2.1,d.2.2.1,()),())).bind fun e=>
 some ((e.1.1,()),())
noncomputable def _R:aH:=aL af Tryz.f204 i204 YB [] f204
theorem asH:aE O 204 _R:=aM aaS Tryz.func204 (by kernel_rfl) (a7 am2 ag) (fun y=>by kernel_rfl) fun a=>by kernel_rfl
noncomputable abbrev avv:a8:=[(204,_R)]
theorem aww:aT O (aZ af avv):=aY ⟨asH,⟨⟩⟩
abbrev i161:Shape:=⟨[ck 0 [ah,ba,ah],am 1,am 2],[],30⟩
abbrev Y7:Shape:=⟨[ar 6],[],30⟩
noncomputable def f161(a:i161.J):Option Y7.J:=
 bif(!(a.1.1.1==a.1.2.1)) then
 some ((false,()),())
else
(f204 ((a.1.2.2.1,a.1.1.2.2.1,()),())).bind fun b=>
 bif(a.1.1.2.1==(1:Int)) then
 some (((b.1.1==(0:Int)),()),())
else
 bif(a.1.1.2.1==(2:Int)) then
 some (((decide (b.1.1>=(0:Int))),()),())
else
 bif(a.1.1.2.1==(3:Int)) then
 some (((decide (b.1.1<(0:Int))),()),())
else
 some ((true,()),())
noncomputable def aah:aH:=aL af Tryz.f161 i161 Y7 [] f161
theorem as1:aE O 161 aah:=aM aww Tryz.func161 (by kernel_rfl) ag (fun y=>by kernel_rfl) fun a=>by kernel_rfl
abbrev i288:Shape:=⟨[aj 0],[],6⟩
abbrev X0:Shape:=⟨[ar 2],[],6⟩
noncomputable def f288(a:i288.J):Option X0.J:=
 some (((a.1.1 !=a.1.1),()),())
noncomputable def _j:aH:=aL af Tryz.f288 i288 X0 [] f288
theorem ase:aE O 288 _j:=aM g0 Tryz.func288 (by kernel_rfl) ag (fun y=>by kernel_rfl) fun a=>by kernel_rfl
noncomputable abbrev auH:a8:=[(288,_j)]
theorem av9:aT O (aZ af auH):=aY ⟨ase,⟨⟩⟩
abbrev i286:Shape:=⟨[aj 0,aj 1],[],20⟩
abbrev X1:Shape:=⟨[aj 4],[],20⟩
noncomputable def f286(a:i286.J):Option X1.J:=
(f288 ((a.1.1,()),())).bind fun b=>
(f288 ((a.1.2.1,()),())).bind fun c=>
 bif b.1.1 then
 bif c.1.1 then
 some (((0:Int),()),())
else
 some ((((-1):Int),()),())
else
 bif c.1.1 then
 some (((1:Int),()),())
else
 bif(decide (a.1.1<a.1.2.1)) then
 some ((((-1):Int),()),())
else
 bif(decide (a.1.1>a.1.2.1)) then
 some (((1:Int),()),())
else
 some (((0:Int),()),())
noncomputable def _k:aH:=aL af Tryz.f286 i286 X1 [] f286
theorem asf:aE O 286 _k:=aM av9 Tryz.func286 (by kernel_rfl) ag (fun y=>by kernel_rfl) fun a=>by kernel_rfl
noncomputable abbrev auJ:a8:=[(286,_k)]
theorem aaN:aT O (aZ af auJ):=aY ⟨asf,⟨⟩⟩
abbrev AH:Shape:=⟨[aO 0 .i64,aO 1 .i64,aO 9 .i64,aj 10,aj 11],[],36⟩
abbrev H3:List aR:=[(.ret,⟨[aj 4],[],36⟩),(.exit 0,⟨[aO 0 .i64,aO 1 .i64],[],36⟩)]
noncomputable def wj(y:AH.J):bP AH H3:=
 bif(decide (y.1.2.2.2.2.1<y.1.2.2.2.1)) then
(aS y.1.2.2.1 y.1.2.2.2.2.1).bind fun a=>
 bif(decide (y.1.2.2.2.2.1>=(y.1.2.1.length:Int))) then
 some (.inr (.inl (((1:Int),()),())))
else
(aS y.1.2.1 y.1.2.2.2.2.1).bind fun b=>
(f286 ((a,b,()),())).bind fun c=>
 bif(c.1.1 !=(0:Int)) then
 some (.inr (.inl ((c.1.1,()),())))
else
 some (.inl ((y.1.1,y.1.2.1,y.1.2.2.1,y.1.2.2.2.1,(IntKind.i64.wrap (y.1.2.2.2.2.1+(1:Int))),()),()))
else
 some (.inr (.inr ((y.1.1,y.1.2.1,()),())))
noncomputable def pJ:AH.J->Option (aG H3):=bA wj
theorem amQ:aV O (ap (codeOf Tryz.f281) 1 26) (aX AH H3 pJ):=bR aaN (by kernel_rfl) ag fun y=>by kernel_rfl
abbrev i281:Shape:=⟨[aO 0 .i64,aO 1 .i64],[],36⟩
abbrev Lb:Shape:=⟨[aj 4],[],36⟩
noncomputable def f281(a:i281.J):Option Lb.J:=
(pJ ((a.1.1,a.1.2.1,a.1.1,(a.1.1.length:Int),(0:Int),()),())).bind fun b=>
(match b with
|.inl c=>
 some ((c.1.1,()),())
|.inr d=>
 bif(decide ((d.1.1.length:Int)<(d.1.2.1.length:Int))) then
 some ((((-1):Int),()),())
else
 some (((0:Int),()),()))
noncomputable def _n:aH:=aL af Tryz.f281 i281 Lb [] f281
theorem asi:aE O 281 _n:=aM aaN Tryz.func281 (by kernel_rfl) (a7 amQ ag) (fun y=>by kernel_rfl) fun a=>by kernel_rfl
noncomputable abbrev auO:a8:=[(281,_n)]
theorem awc:aT O (aZ af auO):=aY ⟨asi,⟨⟩⟩
abbrev i263:Shape:=⟨[aO 0 .i64,aO 1 .i64],[],8⟩
abbrev Ya:Shape:=⟨[aj 4],[],8⟩
noncomputable def f263(a:i263.J):Option Ya.J:=
(f281 ((a.1.1,a.1.2.1,()),())).bind fun b=>
 some ((b.1.1,()),())
noncomputable def _u:aH:=aL af Tryz.f263 i263 Ya [] f263
theorem asq:aE O 263 _u:=aM awc Tryz.func263 (by kernel_rfl) ag (fun y=>by kernel_rfl) fun a=>by kernel_rfl
noncomputable abbrev auV:a8:=[(151,L6),(263,_u)]
theorem aaP:aT O (aZ af auV):=aY ⟨XK,asq,⟨⟩⟩
abbrev Tx:Shape:=⟨[bd 5 3000320,ar 6,bd 7 3000448,ar 8],[bc 3000320 .i64 5 0,bc 3000448 .i64 7 0],28⟩
abbrev Tb:List aR:=[(.norm,⟨[bd 5 3000320,bd 7 3000448,ar 24],[bc 3000320 .i64 5 0,bc 3000448 .i64 7 0],28⟩)]
noncomputable def Jq(y:Tx.J):Option (aG Tb):=
 bif(!(!y.1.2.1)) then
 some (((),(),(!y.1.2.2.2.1),()),y.2.1,y.2.2.1,())
else
 some (((),(),true,()),y.2.1,y.2.2.1,())
theorem amY:aV O (ap (codeOf Tryz.f227) 1 60) (aX Tx Tb Jq):=cm aaP (by kernel_rfl) ag fun y=>by kernel_rfl
abbrev i227:Shape:=⟨[am 0,am 1],[],28⟩
abbrev Yl:Shape:=⟨[aj 4],[],28⟩
noncomputable def f227(a:i227.J):Option Yl.J:=
(f151 ((a.1.1,()),())).bind fun b=>
(f151 ((a.1.2.1,()),())).bind fun c=>
(Jq (((),b.2.2.2.1.1,(),c.2.2.2.1.1,()),b.2.1,c.2.1,())).bind fun d=>
 bif d.1.2.2.1 then
 some (((0:Int),()),())
else
(f263 ((d.2.1,d.2.2.1,()),())).bind fun e=>
 some ((e.1.1,()),())
noncomputable def _G:aH:=aL af Tryz.f227 i227 Yl [] f227
theorem z227:aE O 227 _G:=aM aaP Tryz.func227 (by kernel_rfl) (a7 amY ag) (fun y=>by kernel_rfl) fun a=>by kernel_rfl
noncomputable abbrev avg:a8:=[(100,DV),(102,xA),(227,_G)]
theorem aaV:aT O (aZ af avg):=aY ⟨K2,Dv,z227,⟨⟩⟩
abbrev TB:Shape:=⟨[am 1,am 2,ax 3 3 0],[aw 3 [ah,ba,ah]],44⟩
abbrev Tf:List aR:=[(.norm,⟨[am 2,ax 3 3 0,ar 20],[aw 3 [ah,ba,ah]],44⟩)]
noncomputable def Jt(y:TB.J):Option (aG Tf):=
(f102 (((y.2.1.1,y.2.1.2.1,y.2.1.2.2.1,()),()),())).bind fun a=>
 bif(!(!a.1.1)) then
(f100 ((y.1.2.1,()),())).bind fun b=>
 bif(!(!b.1.1)) then
 some ((y.1.2.1,(),(!(y.1.1==y.2.1.1)),()),(y.2.1.1,y.2.1.2.1,y.2.1.2.2.1,()),())
else
 some ((y.1.2.1,(),true,()),(y.2.1.1,y.2.1.2.1,y.2.1.2.2.1,()),())
else
 some ((y.1.2.1,(),true,()),(y.2.1.1,y.2.1.2.1,y.2.1.2.2.1,()),())
theorem am9:aV O (ap (codeOf Tryz.f183) 1 12) (aX TB Tf Jt):=cm aaV (by kernel_rfl) ag fun y=>by kernel_rfl
abbrev i183:Shape:=⟨[ck 0 [ah,ba,ah],am 1,am 2],[],44⟩
abbrev YS:Shape:=⟨[ar 6],[],44⟩
noncomputable def f183(a:i183.J):Option YS.J:=
(Jt ((a.1.2.1,a.1.2.2.1,(),()),(a.1.1.1,a.1.1.2.1,a.1.1.2.2.1,()),())).bind fun b=>
 bif b.1.2.2.1 then
 some ((false,()),())
else
 bif(b.2.1.2.1==(1:Int)) then
(f227 ((b.1.1,b.2.1.2.2.1,()),())).bind fun c=>
 some (((c.1.1==(0:Int)),()),())
else
 bif(b.2.1.2.1==(2:Int)) then
(f227 ((b.1.1,b.2.1.2.2.1,()),())).bind fun d=>
 some (((decide (d.1.1>=(0:Int))),()),())
else
 bif(b.2.1.2.1==(3:Int)) then
(f227 ((b.1.1,b.2.1.2.2.1,()),())).bind fun e=>
 some (((decide (e.1.1<(0:Int))),()),())
else
 some ((true,()),())
noncomputable def _3:aH:=aL af Tryz.f183 i183 YS [] f183
theorem z183:aE O 183 _3:=aM aaV Tryz.func183 (by kernel_rfl) (a7 am9 ag) (fun y=>by kernel_rfl) fun a=>by kernel_rfl
def qb:List Int->List Int->Int
 |[],[]=>0
 |[],_::_=>-1
 |_::_,[]=>1
 |x::a,y::b=>bif decide (x<y) then-1 else bif decide (x>y) then 1 else qb a b
theorem drop_cons{aD:Type}{xs:List aD}{k:Nat}{x:aD}{r:List aD}(h:xs.drop k=x::r):xs[k]? =some x/\xs.drop (k+1)=r/\k<xs.length:=by
 have h1:xs[k]? =some x:=by
  have:=congrArg (fun l=>l[0]?) h
  simpa using this
 refine⟨h1,?_,da h1⟩;have:=congrArg List.tail h;simpa using this
theorem drop_nil{aD:Type}{xs:List aD}{k:Nat}(h:xs.drop k=[]):xs.length<=k:=by
 have:=congrArg List.length h;simp at this;omega
theorem aim(a)(h1:cw a.1.1.length)(h2:cw a.1.2.1.length)(iS:∀x,x∈a.1.1->0<=x)(jx:∀x,x∈a.1.2.1->0<=x):f238 a=some ((qb a.1.1 a.1.2.1,()),()):=by
 obtain⟨⟨xs,bm,u⟩,b7⟩:=a;have h1:xs.length<=2097152:=h1;have h2:bm.length<=2097152:=h2;have iS:∀x:Int,x∈xs->0<=x:=iS;have jx:∀x:Int,x∈bm->0<=x:=jx;have key:∀(n:Nat) (us ws:List Int) (k:Nat),us.length+ws.length=n->xs.drop k=us->bm.drop k=ws->k<=2097152->
   (oE ((xs,(bm,((k:Int),()))),())).bind (fun atI=>(match atI with|.inl atH=>some ((atH.1.1,()),())|.inr aCG=>some (((0:Int),()),()):Option Lc.J))=some ((qb us ws,()),()):=by
  intro n;induction n using Nat.strongRecOn with
  |_ n ih=>
   intro us ws k hn ha hb hk;have hw:aA k:=by unfold aA;omega
   match us,ws with
   |[],[]=>
    have c1:=drop_nil ha;have c2:=drop_nil hb;have d1:decide ((k:Int)<(xs.length:Int))=false:=by simp only[decide_eq_false_iff_not];omega
    have d2:decide ((k:Int)<(bm.length:Int))=false:=by simp only[decide_eq_false_iff_not];omega
    have:oE ((xs,(bm,((k:Int),()))),())=some (.inr ((),())):=by
     refine cC ?_
     simp only[tj,s8,d1,d2,bJ,ad,ak,Y]
    rw[this];rfl
   |[],y::ws=>
    have c1:=drop_nil ha;obtain⟨c2,c3,dv⟩:=drop_cons hb;have hy:=jx y (eJ c2);have d1:decide ((k:Int)<(xs.length:Int))=false:=by simp only[decide_eq_false_iff_not];omega
    have d3:decide ((-1:Int)<y)=true:=by simp only[dY];omega
    have:oE ((xs,(bm,((k:Int),()))),())=some (.inl ((((-1):Int),()),())):=by
     refine cC ?_
     simp only[tj,s8,vG,vF,d1,ct dv,cd,c2,bJ,ad,ak,Y,d3]
    rw[this];rfl
   |x::us,[]=>
    have c1:=drop_nil hb;obtain⟨c2,c3,dv⟩:=drop_cons ha;have hx:=iS x (eJ c2);have d1:decide ((k:Int)<(bm.length:Int))=false:=by simp only[decide_eq_false_iff_not];omega
    have d3:decide (x<(-1:Int))=false:=by simp only[decide_eq_false_iff_not];omega
    have d4:decide (x>(-1:Int))=true:=by simp only[dY];omega
    have:oE ((xs,(bm,((k:Int),()))),())=some (.inl (((1:Int),()),())):=by
     refine cC ?_
     simp only[tj,s8,vG,vF,d1,ct dv,cd,c2,bu,ad,ak,Y,d3,d4]
    rw[this];rfl
   |x::us,y::ws=>
    obtain⟨c2,c3,dv⟩:=drop_cons ha;obtain⟨e2,bz,dn⟩:=drop_cons hb;have step:tj ((xs,(bm,((k:Int),()))),())=some (bif decide (x<y) then .inr (.inl ((((-1):Int),()),())) else bif decide (x>y) then .inr (.inl (((1:Int),()),())) else .inl ((xs,(bm,(((k+1:Nat):Int),()))),())):=by
     simp only[tj,s8,vG,vF,ct dv,ct dn,cd,c2,e2,bu,ad,ak,Y,b9 hw];cases decide (x<y)<;>cases decide (x>y)<;>rfl
    rw[qb];cases hlt:decide (x<y) with
    |true=>rw[hlt,ad] at step;rw[show oE ((xs,(bm,((k:Int),()))),())=_ from cC step];rfl
    |false=>
     rw[hlt,ak] at step;cases sb:decide (x>y) with
     |true=>rw[sb,ad] at step;rw[show oE ((xs,(bm,((k:Int),()))),())=_ from cC step];rfl
     |false=>
      rw[sb,ak] at step;rw[show oE ((xs,(bm,((k:Int),()))),())=_ from d' step]
      exact ih (us.length+ws.length) (by simp only[cW] at hn;omega) us ws (k+1) rfl c3 bz (by omega)
 have:=key _ xs bm 0 rfl rfl rfl (Nat.zero_le _);simp only[f238];exact this
theorem ako(a):f286 a=some ((bif decide (a.1.1<a.1.2.1) then-1 else bif decide (a.1.1>a.1.2.1) then 1 else 0,()),()):=by
 obtain⟨⟨x,y,u⟩,b7⟩:=a;have hx:(x !=x)=false:=by simp
 have hy:(y !=y)=false:=by simp
 simp only[f286,f288,Y,hx,hy,ak];cases decide (x<y)<;>cases decide (x>y)<;>rfl
theorem aiz(a)(h1:cw a.1.1.length)(h2:cw a.1.2.1.length):f281 a=some ((qb a.1.1 a.1.2.1,()),()):=by
 obtain⟨⟨xs,bm,u⟩,b7⟩:=a;have h1:xs.length<=2097152:=h1;have h2:bm.length<=2097152:=h2;have key:∀(us ws:List Int) (k:Nat),xs.drop k=us->bm.drop k=ws->k<=xs.length->
   (pJ ((xs,(bm,(xs,((xs.length:Int),((k:Int),()))))),())).bind (fun arm=>(match arm with
    |.inl arl=>some ((arl.1.1,()),())
    |.inr WV=>bif(decide ((WV.1.1.length:Int)<(WV.1.2.1.length:Int))) then some ((((-1):Int),()),()) else some (((0:Int),()),()):Option Lb.J))=some ((qb us ws,()),()):=by
  intro us;induction us with
  |nil=>
   intro ws k ha hb hk;have c1:=drop_nil ha;have d1:decide ((k:Int)<(xs.length:Int))=false:=by simp only[decide_eq_false_iff_not];omega
   have:pJ ((xs,(bm,(xs,((xs.length:Int),((k:Int),()))))),())=some (.inr ((xs,(bm,())),())):=by
    refine cC ?_
    simp only[wj,d1,ak]
   rw[this];simp only[Y];cases ws with
   |nil=>
    have c2:=drop_nil hb;have:decide ((xs.length:Int)<(bm.length:Int))=false:=by simp only[decide_eq_false_iff_not];omega
    rw[this];rfl
   |cons y ws=>
    obtain⟨_,_,dv⟩:=drop_cons hb;rw[ct (show xs.length<bm.length by omega)];rfl
  |cons x us ih=>
   intro ws k ha hb hk;obtain⟨c2,c3,dv⟩:=drop_cons ha;have hw:aA k:=by unfold aA;omega
   cases ws with
   |nil=>
    have c1:=drop_nil hb;have d1:decide ((k:Int)>=(bm.length:Int))=true:=by simp only[dY];omega
    have:pJ ((xs,(bm,(xs,((xs.length:Int),((k:Int),()))))),())=some (.inl (((1:Int),()),())):=by
     refine cC ?_
     simp only[wj,ct dv,ad,cd,c2,Y,d1]
    rw[this];rfl
   |cons y ws=>
    obtain⟨e2,bz,dn⟩:=drop_cons hb;have d1:decide ((k:Int)>=(bm.length:Int))=false:=by simp only[decide_eq_false_iff_not];omega
    have step:wj ((xs,(bm,(xs,((xs.length:Int),((k:Int),()))))),())=some (bif decide (x<y) then .inr (.inl ((((-1):Int),()),())) else bif decide (x>y) then .inr (.inl (((1:Int),()),())) else .inl ((xs,(bm,(xs,((xs.length:Int),(((k+1:Nat):Int),()))))),())):=by
     simp only[wj,ct dv,cd,c2,e2,d1,ad,ak,Y,ako,b9 hw];cases decide (x<y)<;>cases decide (x>y)<;>rfl
    rw[qb];cases hlt:decide (x<y) with
    |true=>rw[hlt,ad] at step;rw[show pJ ((xs,(bm,(xs,((xs.length:Int),((k:Int),()))))),())=_ from cC step];rfl
    |false=>
     rw[hlt,ak] at step;cases sb:decide (x>y) with
     |true=>rw[sb,ad] at step;rw[show pJ ((xs,(bm,(xs,((xs.length:Int),((k:Int),()))))),())=_ from cC step];rfl
     |false=>
      rw[sb,ak] at step;rw[show pJ ((xs,(bm,(xs,((xs.length:Int),((k:Int),()))))),())=_ from d' step]
      exact ih ws (k+1) c3 bz (by omega)
 have:=key xs bm 0 rfl rfl (Nat.zero_le _);simp only[f281];exact this
def rH(a b:B):Int:=bif eD a&&eD b then qb (ig a) (ig b) else 0
theorem OX{s:B}(h:eD s=true):∀x,x∈ig s->0<=x:=by
 intro x hx;unfold ig at hx;obtain⟨p,hp,rfl⟩:=List.mem_map.1 hx;unfold eD at h;simp only[bC] at h;have:=List.all_eq_true.1 h.1 p hp;unfold fS at this;simp only[bC] at this;exact PJ p 0 this.1.1.1.1 (Int.le_refl _)
theorem ze(s:B):(ig s).length<=s.length+1:=by
 unfold ig iE;rw[List.length_map];exact ot 46 s
theorem ae5(a)(h1:a.1.1.length<=2097151)(h2:a.1.2.1.length<=2097151):f204 a=some ((rH a.1.1 a.1.2.1,()),()):=by
 obtain⟨⟨x,y,u⟩,b7⟩:=a;have h1:x.length<=2097151:=h1;have h2:y.length<=2097151:=h2;obtain⟨o1,e1,q1⟩:=F1 ((x,()),()) (show x.length<=2097152 by omega)
 obtain⟨o2,e2,q2⟩:=F1 ((y,()),()) (show y.length<=2097152 by omega)
 simp only[f204,e1,e2,Y,Jr,rH,Bool.not_not];cases hx:eD x with
 |false=>rfl
 |true=>
  cases hy:eD y with
  |false=>rfl
  |true=>
   have ayd:=ze x;have Er:=ze y;have a':o1=ig x:=q1 hx;have w2:o2=ig y:=q2 hy;subst a' w2;have bz:=aim ((ig x,(ig y,())),()) (show(ig x).length<=2097152 by omega) (show(ig y).length<=2097152 by omega) (OX hx) (OX hy)
   simp only[ad,bu,Y,ak,bz,Bool.and_self]
theorem ae0(a)(h1:a.1.1.length<=2097151)(h2:a.1.2.1.length<=2097151):f227 a=some ((rH a.1.1 a.1.2.1,()),()):=by
 obtain⟨⟨x,y,u⟩,b7⟩:=a;have h1:x.length<=2097151:=h1;have h2:y.length<=2097151:=h2;have e1:=Fk ((x,()),()) (show x.length<=2097152 by omega)
 have e2:=Fk ((y,()),()) (show y.length<=2097152 by omega)
 simp only[f227,e1,e2,Y,Jq,rH,Bool.not_not];cases hx:eD x with
 |false=>rfl
 |true=>
  cases hy:eD y with
  |false=>rfl
  |true=>
   have ayd:=ze x;have Er:=ze y;have bz:=aiz ((ig x,(ig y,())),()) (show(ig x).length<=2097152 by omega) (show(ig y).length<=2097152 by omega)
   simp only[ad,bu,Y,ak,f263,bz,Bool.and_self]
def t'(n:bF)(v:B):Bool:=bif n.kind==1 then rH v n.a6==0 else bif n.kind==2 then decide (rH v n.a6>=0) else bif n.kind==3 then decide (rH v n.a6<0) else true
theorem akd(a)(h1:a.1.1.2.2.1.length<=2097151)(h2:a.1.2.2.1.length<=2097151)(hn:a.1.2.1=a.1.1.1):f161 a=some ((t' ⟨a.1.1.1,a.1.1.2.1,a.1.1.2.2.1⟩ a.1.2.2.1,()),()):=by
 obtain⟨⟨⟨n,k,v,u⟩,m,w,b7⟩,nV⟩:=a;obtain rfl:m=n:=hn;have e1:=ae5 ((w,(v,())),()) h2 h1;have fa:(m==m)=true:=by simp
 simp only[f161,fa,e1,bu,ak,Y,t'];cases (k==1)<;>cases (k==2)<;>cases (k==3)<;>rfl
def lY(n:bF)(name v:B):Bool:=dR n&&eD v&&(name==n.name)&&t' n v
theorem ahi(a)(h0:cw a.1.1.1.length)(h1:a.1.1.2.2.1.length<=2097151)(h2:a.1.2.2.1.length<=2097151):f183 a=some ((lY ⟨a.1.1.1,a.1.1.2.1,a.1.1.2.2.1⟩ a.1.2.1 a.1.2.2.1,()),()):=by
 obtain⟨⟨⟨n,k,v,u⟩,m,w,b7⟩,nV⟩:=a;have h1:v.length<=2097151:=h1;have h2:w.length<=2097151:=h2;have e1:=ae0 ((w,(v,())),()) h2 h1;have e2:=zi (((n,(k,(v,()))),()),()) h0 (show v.length<=2097152 by omega)
 have bz:=Fp ((w,()),()) (show w.length<=2097152 by omega)
 simp only[f183,Jt,e1,e2,bz,Bool.not_not,Y,lY,t'];cases dR ⟨n,k,v⟩ with
 |false=>rfl
 |true=>
  cases eD w with
  |false=>rfl
  |true=>
   cases (m==n) with
   |false=>rfl
   |true=>
    simp only[ad,bu,Y,ak,Bool.true_and];cases (k==1)<;>cases (k==2)<;>cases (k==3)<;>simp only[ad,ak,Y,e1]
abbrev A3:Shape:=⟨[aO 0 .pack,am 1,aj 5],[],20⟩
abbrev Im:List aR:=[(.ret,⟨[aj 4],[],20⟩),(.exit 0,⟨[],[],20⟩)]
noncomputable def BI(y:A3.J):bP A3 Im:=
 bif(decide (y.1.2.2.1<(y.1.1.length:Int))) then
(aS y.1.1 y.1.2.2.1).bind fun a=>
 bif(a.name==y.1.2.1) then
 some (.inr (.inl ((y.1.2.2.1,()),())))
else
 some (.inl ((y.1.1,y.1.2.1,(IntKind.i64.wrap (y.1.2.2.1+(1:Int))),()),()))
else
 some (.inr (.inr ((),())))
noncomputable def td:A3.J->Option (aG Im):=bA BI
theorem anl:aV O (ap (codeOf Tryz.f160) 1 26) (aX A3 Im td):=bR g0 (by kernel_rfl) ag fun y=>by kernel_rfl
abbrev i160:Shape:=⟨[aO 0 .pack,am 1],[],20⟩
abbrev Y8:Shape:=⟨[aj 4],[],20⟩
noncomputable def f160(a:i160.J):Option Y8.J:=
(td ((a.1.1,a.1.2.1,(0:Int),()),())).bind fun b=>
(match b with
|.inl c=>
 some ((c.1.1,()),())
|.inr d=>
 some ((((-1):Int),()),()))
noncomputable def L4:aH:=aL af Tryz.f160 i160 Y8 [] f160
theorem z160:aE O 160 L4:=aM g0 Tryz.func160 (by kernel_rfl) (a7 anl ag) (fun y=>by kernel_rfl) fun a=>by kernel_rfl
noncomputable abbrev av2:a8:=[(160,L4),(161,aah)]
theorem D2:aT O (aZ af av2):=aY ⟨z160,as1,⟨⟩⟩
abbrev Pq:Shape:=⟨[aO 0 .pack,aj 3,aj 4,ax 5 5 0,aj 6],[aw 5 [ah,ba,ah]],49⟩
abbrev Pj:List aR:=[(.norm,⟨[aO 0 .pack,aj 3,aj 4,aj 35,ar 36,ar 37,ar 48],[],49⟩)]
noncomputable def yZ(y:Pq.J):Option (aG Pj):=
 bif(decide (y.1.2.2.2.2.1<(0:Int))) then
 some ((y.1.1,y.1.2.1,y.1.2.2.1,y.1.2.2.2.2.1,(decide (y.1.2.2.2.2.1<(0:Int))),true,true,()),())
else
(aS y.1.1 y.1.2.2.2.2.1).bind fun a=>
(f161 (((y.2.1.1,y.2.1.2.1,y.2.1.2.2.1,()),y.2.1.1,a.a6,()),())).bind fun b=>
 some ((y.1.1,y.1.2.1,y.1.2.2.1,y.1.2.2.2.2.1,(decide (y.1.2.2.2.2.1<(0:Int))),false,(!b.1.1),()),())
theorem agE:aV O (ap (di (ap (di (ap (codeOf Tryz.f110) 1 26)) 52 1682)) 3364 215334) (aX Pq Pj yZ):=cm D2 (by kernel_rfl) ag fun y=>by kernel_rfl
abbrev zx:Shape:=⟨[aO 0 .pack,aj 3,aj 4],[],49⟩
abbrev Gb:List aR:=[(.ret,⟨[ar 2],[],49⟩),(.exit 2,⟨[aO 0 .pack,aj 3],[],49⟩)]
noncomputable def zK(y:zx.J):bP zx Gb:=
(aS y.1.1 y.1.2.1).bind fun a=>
 bif(decide (y.1.2.2.1<(a.bl.length:Int))) then
(aS y.1.1 y.1.2.1).bind fun b=>
(aS b.bl y.1.2.2.1).bind fun c=>
(f160 ((y.1.1,c.name,()),())).bind fun d=>
(yZ ((y.1.1,y.1.2.1,y.1.2.2.1,(),d.1.1,()),(c.name,c.kind,c.a6,()),())).bind fun e=>
 bif e.1.2.2.2.2.2.2.1 then
 some (.inr (.inl ((false,()),())))
else
 some (.inl ((e.1.1,e.1.2.1,(IntKind.i64.wrap (e.1.2.2.1+(1:Int))),()),()))
else
 some (.inr (.inr ((y.1.1,y.1.2.1,()),())))
noncomputable def Gw:zx.J->Option (aG Gb):=bA zK
theorem ajm:aV O (ap (di (ap (codeOf Tryz.f110) 1 26)) 52 1682) (aX zx Gb Gw):=bR D2 (by kernel_rfl) (a7 agE ag) fun y=>by kernel_rfl
abbrev Bh:Shape:=⟨[aO 0 .pack,aj 3],[],49⟩
abbrev IC:List aR:=[(.ret,⟨[ar 2],[],49⟩),(.exit 0,⟨[],[],49⟩)]
noncomputable def BQ(y:Bh.J):bP Bh IC:=
 bif(decide (y.1.2.1<(y.1.1.length:Int))) then
(Gw ((y.1.1,y.1.2.1,(0:Int),()),())).bind fun a=>
(match a with
|.inl b=>
 some (.inr (.inl ((b.1.1,()),())))
|.inr c=>
 some (.inl ((c.1.1,(IntKind.i64.wrap (c.1.2.1+(1:Int))),()),())))
else
 some (.inr (.inr ((),())))
noncomputable def Jc:Bh.J->Option (aG IC):=bA BQ
theorem anF:aV O (ap (codeOf Tryz.f110) 1 26) (aX Bh IC Jc):=bR D2 (by kernel_rfl) (a7 ajm ag) fun y=>by kernel_rfl
abbrev i110:Shape:=⟨[aO 0 .pack],[],49⟩
abbrev ZG:Shape:=⟨[ar 2],[],49⟩
noncomputable def f110(a:i110.J):Option ZG.J:=
(Jc ((a.1.1,(0:Int),()),())).bind fun b=>
(match b with
|.inl c=>
 some ((c.1.1,()),())
|.inr d=>
 some ((true,()),()))
noncomputable def aaJ:aH:=aL af Tryz.f110 i110 ZG [] f110
theorem ath:aE O 110 aaJ:=aM D2 Tryz.func110 (by kernel_rfl) (a7 anF ag) (fun y=>by kernel_rfl) fun a=>by kernel_rfl
noncomputable abbrev aqz:a8:=[(54,Xw),(56,adA)]
theorem WH:aT O (aZ af aqz):=aY ⟨aq0,awZ,⟨⟩⟩
abbrev Q1:Shape:=⟨[(0,.aq (.eV [.sl .pack] 0))],[],10⟩
abbrev QI:List aR:=[(.norm,⟨[ar 9],[],10⟩)]
noncomputable def GI(y:Q1.J):Option (aG QI):=
(Di ((y.1.1.1,(),()),())).bind fun a=>
 bif(!(!a.1.1)) then
(f56 ((y.1.1.1,()),())).bind fun b=>
 some (((!b.1.1),()),())
else
 some ((true,()),())
theorem ajh:aV O (ap (codeOf Tryz.f128) 1 12) (aX Q1 QI GI):=cm WH (by kernel_rfl) ag fun y=>by kernel_rfl
abbrev V6:Shape:=⟨[(0,.aq (.eV [.sl .pack] 0))],[],10⟩
abbrev VB:Shape:=⟨[aj 1],[],10⟩
noncomputable def tJ(a:V6.J):Option VB.J:=
(GI (((a.1.1.1,()),()),())).bind fun b=>
 bif b.1.1 then
 some (((1:Int),()),())
else
 some (((0:Int),()),())
noncomputable def WA:aH:=aL af Tryz.f128 V6 VB [] tJ
theorem aoM:aE O 128 WA:=aM WH Tryz.func128 (by kernel_rfl) (a7 ajh ag) (fun y=>by kernel_rfl) fun a=>by kernel_rfl
abbrev V5:Shape:=⟨[(0,.aq (.eV [.sl .pack] 0))],[],5⟩
abbrev VA:Shape:=⟨[aj 1],[],5⟩
noncomputable def tI(a:V5.J):Option VA.J:=
 bif(decide ((a.1.1.1.length:Int)>(5:Int))) then
 some (((6:Int),()),())
else
 some (((0:Int),()),())
noncomputable def Wz:aH:=aL af Tryz.f129 V5 VA [] tI
theorem aoL:aE O 129 Wz:=aM g0 Tryz.func129 (by kernel_rfl) ag (fun y=>by kernel_rfl) fun a=>by kernel_rfl
noncomputable abbrev aqq:a8:=[(183,_3)]
theorem aqK:aT O (aZ af aqq):=aY ⟨z183,⟨⟩⟩
abbrev VW:Shape:=⟨[ck 0 [ah,ah,br .need,br .entry],(1,.aq (.eV [.str,.int .i64,.str] 0))],[],10⟩
abbrev Vr:Shape:=⟨[ar 3],[],10⟩
noncomputable def Kr(a:VW.J):Option Vr.J:=
(f183 (((a.1.2.1.1,a.1.2.1.2.1,a.1.2.1.2.2.1,()),a.1.1.1,a.1.1.2.1,()),())).bind fun b=>
 some ((b.1.1,()),())
noncomputable def Wu:aH:=aL af Tryz.f182 VW Vr [] Kr
theorem aoG:aE O 182 Wu:=aM aqK Tryz.func182 (by kernel_rfl) ag (fun y=>by kernel_rfl) fun a=>by kernel_rfl
noncomputable abbrev aqm:a8:=[(182,Wu)]
theorem WG:aT O (aZ af aqm):=aY ⟨aoG,⟨⟩⟩
abbrev zq:Shape:=⟨[aO 0 .pack,(1,.aq (.fn 182 [[.str,.int .i64,.str]])),aj 7,aj 8],[],19⟩
abbrev F7:List aR:=[(.ret,⟨[aj 4],[],19⟩),(.exit 0,⟨[],[],19⟩)]
noncomputable def zE(y:zq.J):bP zq F7:=
 bif(decide (y.1.2.2.2.1<y.1.2.2.1)) then
(aS y.1.1 y.1.2.2.2.1).bind fun a=>
(Kr (((a.name,a.a6,a.bl,a.bI,()),(y.1.2.1.1.1,y.1.2.1.1.2.1,y.1.2.1.1.2.2.1,()),()),())).bind fun b=>
 bif b.1.1 then
 some (.inr (.inl ((y.1.2.2.2.1,()),())))
else
 some (.inl ((y.1.1,((y.1.2.1.1.1,y.1.2.1.1.2.1,y.1.2.1.1.2.2.1,()),()),y.1.2.2.1,(IntKind.i64.wrap (y.1.2.2.2.1+(1:Int))),()),()))
else
 some (.inr (.inr ((),())))
noncomputable def sX:zq.J->Option (aG F7):=bA zE
theorem ai6:aV O (ap (codeOf Tryz.f228) 1 26) (aX zq F7 sX):=bR WG (by kernel_rfl) ag fun y=>by kernel_rfl
abbrev VS:Shape:=⟨[aO 0 .pack,(1,.aq (.fn 182 [[.str,.int .i64,.str]]))],[],19⟩
abbrev J1:Shape:=⟨[aj 4],[],19⟩
noncomputable def CQ(a:VS.J):Option J1.J:=
(sX ((a.1.1,((a.1.2.1.1.1,a.1.2.1.1.2.1,a.1.2.1.1.2.2.1,()),()),(a.1.1.length:Int),(0:Int),()),())).bind fun b=>
(match b with
|.inl c=>
 some ((c.1.1,()),())
|.inr d=>
 some ((((-1):Int),()),()))
noncomputable def Wr:aH:=aL af Tryz.f228 VS J1 [] CQ
theorem aoD:aE O 228 Wr:=aM WG Tryz.func228 (by kernel_rfl) (a7 ai6 ag) (fun y=>by kernel_rfl) fun a=>by kernel_rfl
noncomputable abbrev aqp:a8:=[(228,Wr)]
theorem aqJ:aT O (aZ af aqp):=aY ⟨aoD,⟨⟩⟩
abbrev VV:Shape:=⟨[aO 0 .pack,(1,.aq (.fn 182 [[.str,.int .i64,.str]]))],[],9⟩
abbrev Vq:Shape:=⟨[ar 4],[],9⟩
noncomputable def CR(a:VV.J):Option Vq.J:=
(CQ ((a.1.1,((a.1.2.1.1.1,a.1.2.1.1.2.1,a.1.2.1.1.2.2.1,()),()),()),())).bind fun b=>
 some (((decide (b.1.1>=(0:Int))),()),())
noncomputable def Wt:aH:=aL af Tryz.f184 VV Vq [] CR
theorem aoF:aE O 184 Wt:=aM aqJ Tryz.func184 (by kernel_rfl) ag (fun y=>by kernel_rfl) fun a=>by kernel_rfl
noncomputable abbrev avP:a8:=[(184,Wt)]
theorem Mm:aT O (aZ af avP):=aY ⟨aoF,⟨⟩⟩
abbrev zu:Shape:=⟨[aO 0 .pack,aO 8 .pack,aj 9,aj 10,aO 15 .need,aj 16,aj 17],[],28⟩
abbrev F_:List aR:=[(.ret,⟨[ar 2],[],28⟩),(.exit 2,⟨[aO 0 .pack,aO 8 .pack,aj 9,aj 10],[],28⟩)]
noncomputable def zI(y:zu.J):bP zu F_:=
 bif(decide (y.1.2.2.2.2.2.2.1<y.1.2.2.2.2.2.1)) then
(aS y.1.2.2.2.2.1 y.1.2.2.2.2.2.2.1).bind fun a=>
(CR ((y.1.1,((a.name,a.kind,a.a6,()),()),()),())).bind fun b=>
 bif(!b.1.1) then
 some (.inr (.inl ((false,()),())))
else
 some (.inl ((y.1.1,y.1.2.1,y.1.2.2.1,y.1.2.2.2.1,y.1.2.2.2.2.1,y.1.2.2.2.2.2.1,(IntKind.i64.wrap (y.1.2.2.2.2.2.2.1+(1:Int))),()),()))
else
 some (.inr (.inr ((y.1.1,y.1.2.1,y.1.2.2.1,y.1.2.2.2.1,()),())))
noncomputable def Gt:zu.J->Option (aG F_):=bA zI
theorem ajg:aV O (ap (di (ap (codeOf Tryz.f131) 1 26)) 52 6758) (aX zu F_ Gt):=bR Mm (by kernel_rfl) ag fun y=>by kernel_rfl
abbrev Bc:Shape:=⟨[aO 0 .pack,aO 8 .pack,aj 9,aj 10],[],28⟩
abbrev Ix:List aR:=[(.ret,⟨[ar 2],[],28⟩),(.exit 0,⟨[],[],28⟩)]
noncomputable def BO(y:Bc.J):bP Bc Ix:=
 bif(decide (y.1.2.2.2.1<y.1.2.2.1)) then
(aS y.1.2.1 y.1.2.2.2.1).bind fun a=>
(Gt ((y.1.1,y.1.2.1,y.1.2.2.1,y.1.2.2.2.1,a.bl,(a.bl.length:Int),(0:Int),()),())).bind fun b=>
(match b with
|.inl c=>
 some (.inr (.inl ((c.1.1,()),())))
|.inr d=>
 some (.inl ((d.1.1,d.1.2.1,d.1.2.2.1,(IntKind.i64.wrap (d.1.2.2.2.1+(1:Int))),()),())))
else
 some (.inr (.inr ((),())))
noncomputable def Ja:Bc.J->Option (aG Ix):=bA BO
theorem anz:aV O (ap (codeOf Tryz.f131) 1 26) (aX Bc Ix Ja):=bR Mm (by kernel_rfl) (a7 ajg ag) fun y=>by kernel_rfl
abbrev i131:Shape:=⟨[aO 0 .pack],[],28⟩
abbrev Zt:Shape:=⟨[ar 2],[],28⟩
noncomputable def f131(a:i131.J):Option Zt.J:=
(Ja ((a.1.1,a.1.1,(a.1.1.length:Int),(0:Int),()),())).bind fun b=>
(match b with
|.inl c=>
 some ((c.1.1,()),())
|.inr d=>
 some ((true,()),()))
noncomputable def aay:aH:=aL af Tryz.f131 i131 Zt [] f131
theorem z131:aE O 131 aay:=aM Mm Tryz.func131 (by kernel_rfl) (a7 anz ag) (fun y=>by kernel_rfl) fun a=>by kernel_rfl
noncomputable abbrev aqy:a8:=[(131,aay)]
theorem aqR:aT O (aZ af aqy):=aY ⟨z131,⟨⟩⟩
abbrev V4:Shape:=⟨[(0,.aq (.eV [.sl .pack] 0))],[],5⟩
abbrev Vz:Shape:=⟨[aj 1],[],5⟩
noncomputable def tH(a:V4.J):Option Vz.J:=
(f131 ((a.1.1.1,()),())).bind fun b=>
 bif(!b.1.1) then
 some (((4:Int),()),())
else
 some (((0:Int),()),())
noncomputable def Wy:aH:=aL af Tryz.f130 V4 Vz [] tH
theorem aoK:aE O 130 Wy:=aM aqR Tryz.func130 (by kernel_rfl) ag (fun y=>by kernel_rfl) fun a=>by kernel_rfl
noncomputable abbrev aqx:a8:=[(133,aax)]
theorem aqQ:aT O (aZ af aqx):=aY ⟨atb,⟨⟩⟩
abbrev V3:Shape:=⟨[(0,.aq (.eV [.sl .pack] 0))],[],11⟩
abbrev Vy:Shape:=⟨[aj 1],[],11⟩
noncomputable def tG(a:V3.J):Option Vy.J:=
(f133 ((a.1.1.1,()),())).bind fun b=>
 bif(!b.1.2.1) then
 some (((5:Int),()),())
else
 some (((0:Int),()),())
noncomputable def Wx:aH:=aL af Tryz.f132 V3 Vy [] tG
theorem aoJ:aE O 132 Wx:=aM aqQ Tryz.func132 (by kernel_rfl) ag (fun y=>by kernel_rfl) fun a=>by kernel_rfl
noncomputable abbrev aAj:a8:=[(50,EP),(109,aaK),(110,aaJ)]
theorem NU:aT O (aZ af aAj):=aY ⟨Mr,z109,ath,⟨⟩⟩
abbrev Tt:Shape:=⟨[aO 0 .pack,aj 3],[],52⟩
abbrev S9:List aR:=[(.norm,⟨[aO 0 .pack,aj 3,aO 12 .pack,aj 13,(14,.aq (.eV [.str,.str,.sl .need,.sl .entry] 0)),ck 15 [ah,ah,br .need,br .entry],ar 16,ar 17,ar 18,ar 35],[],52⟩)]
noncomputable def Bv(y:Tt.J):Option (aG S9):=
(aS y.1.1 y.1.2.1).bind fun a=>
(f50 (((a.name,a.a6,a.bl,a.bI,()),()),())).bind fun b=>
 bif(!b.1.1) then
 some ((y.1.1,y.1.2.1,y.1.1,y.1.2.1,(a.name,a.a6,a.bl,a.bI,()),(a.name,a.a6,a.bl,a.bI,()),b.1.1,(!b.1.1),true,true,()),())
else
 bif(decide (y.1.2.1>(0:Int))) then
(aS y.1.1 (IntKind.i64.wrap (y.1.2.1-(1:Int)))).bind fun c=>
(aS y.1.1 y.1.2.1).bind fun d=>
 some ((y.1.1,y.1.2.1,y.1.1,y.1.2.1,(a.name,a.a6,a.bl,a.bI,()),(a.name,a.a6,a.bl,a.bI,()),b.1.1,(!b.1.1),false,(!(Op.bytesLess c.name d.name)),()),())
else
 some ((y.1.1,y.1.2.1,y.1.1,y.1.2.1,(a.name,a.a6,a.bl,a.bI,()),(a.name,a.a6,a.bl,a.bI,()),b.1.1,(!b.1.1),false,false,()),())
theorem amJ:aV O (ap (di (ap (codeOf Tryz.f60) 1 26)) 52 840) (aX Tt S9 Bv):=cm NU (by kernel_rfl) ag fun y=>by kernel_rfl
abbrev Cj:Shape:=⟨[aO 0 .pack,aj 3],[],52⟩
abbrev JS:List aR:=[(.ret,⟨[aj 2],[],52⟩),(.exit 0,⟨[aO 0 .pack],[],52⟩)]
noncomputable def rp(y:Cj.J):bP Cj JS:=
 bif(decide (y.1.2.1<(y.1.1.length:Int))) then
(Bv ((y.1.1,y.1.2.1,()),())).bind fun a=>
 bif a.1.2.2.2.2.2.2.2.2.2.1 then
 some (.inr (.inl (((1:Int),()),())))
else
 some (.inl ((a.1.1,(IntKind.i64.wrap (a.1.2.1+(1:Int))),()),()))
else
 some (.inr (.inr ((y.1.1,()),())))
noncomputable def Ct:Cj.J->Option (aG JS):=bA rp
theorem aps:aV O (ap (codeOf Tryz.f60) 1 26) (aX Cj JS Ct):=bR NU (by kernel_rfl) (a7 amJ ag) fun y=>by kernel_rfl
abbrev i60:Shape:=⟨[aO 0 .pack],[],52⟩
abbrev abW:Shape:=⟨[aj 2],[],52⟩
noncomputable def f60(a:i60.J):Option abW.J:=
(Ct ((a.1.1,(0:Int),()),())).bind fun b=>
(match b with
|.inl c=>
 some ((c.1.1,()),())
|.inr d=>
(f109 ((d.1.1,()),())).bind fun e=>
 bif(decide ((d.1.1.length:Int)>(5:Int))) then
 some (((6:Int),()),())
else
(f110 ((d.1.1,()),())).bind fun f=>
 bif(!f.1.1) then
 some (((4:Int),()),())
else
 bif(!e.1.2.1) then
 some (((5:Int),()),())
else
 some (((0:Int),()),()))
noncomputable def NK:aH:=aL af Tryz.f60 i60 abW [] f60
theorem abl:aE O 60 NK:=aM NU Tryz.func60 (by kernel_rfl) (a7 aps ag) (fun y=>by kernel_rfl) fun a=>by kernel_rfl
noncomputable abbrev aAC:a8:=[(60,NK)]
theorem aA3:aT O (aZ af aAC):=aY ⟨abl,⟨⟩⟩
abbrev i30:Shape:=⟨[ck 0 [br .pack]],[],7⟩
abbrev ace:Shape:=⟨[ar 2],[],7⟩
noncomputable def f30(a:i30.J):Option ace.J:=
(f60 ((a.1.1.1,()),())).bind fun b=>
 some (((b.1.1==(0:Int)),()),())
noncomputable def sp:aH:=aL af Tryz.f30 i30 ace [] f30
theorem uA:aE O 30 sp:=aM aA3 Tryz.func30 (by kernel_rfl) ag (fun y=>by kernel_rfl) fun a=>by kernel_rfl
noncomputable abbrev u7:a8:=[(128,WA),(129,Wz),(130,Wy),(132,Wx)]
theorem adS:aT O (aZ af u7):=aY ⟨aoM,aoL,aoK,aoJ,⟨⟩⟩
abbrev WS:Shape:=⟨[ax 1 1 0],[aw 1 [br .pack]],24⟩
abbrev pW:List aR:=[(.ret,⟨[aj 2],[],24⟩)]
noncomputable def rs(c:Int):aG pW:=((c,()),())
noncomputable def KP(y:WS.J):Option (aG pW):=
 rq y.2.1.1 rs [fun ps=>tJ (((ps,()),()),()),fun ps=>tI (((ps,()),()),()),fun ps=>tH (((ps,()),()),()),fun ps=>tG (((ps,()),()),())]
theorem aq4:∀ps k i,exec (hJ (aZ af u7) []) (ap (di (ap (codeOf Tryz.f81) 1 58)) 116 3737) 3737 (((gR 24).st (hZ 24 ps k i)).set 5 (ch (.clo 128 [(1,0)]))) (ru 24 pW)=((fun ps=>tJ (((ps,()),()),())) ps).bind fun r=>bif(r.1.1 !=0) then some (.inr (rs r.1.1)) else some (.inl (hZ 24 ps k i)):=fun ps k i=>by kernel_rfl
theorem aq3:∀ps k i,exec (hJ (aZ af u7) []) (ap (di (ap (codeOf Tryz.f81) 1 58)) 116 3737) 3737 (((gR 24).st (hZ 24 ps k i)).set 5 (ch (.clo 129 [(1,0)]))) (ru 24 pW)=((fun ps=>tI (((ps,()),()),())) ps).bind fun r=>bif(r.1.1 !=0) then some (.inr (rs r.1.1)) else some (.inl (hZ 24 ps k i)):=fun ps k i=>by kernel_rfl
theorem aq2:∀ps k i,exec (hJ (aZ af u7) []) (ap (di (ap (codeOf Tryz.f81) 1 58)) 116 3737) 3737 (((gR 24).st (hZ 24 ps k i)).set 5 (ch (.clo 130 [(1,0)]))) (ru 24 pW)=((fun ps=>tH (((ps,()),()),())) ps).bind fun r=>bif(r.1.1 !=0) then some (.inr (rs r.1.1)) else some (.inl (hZ 24 ps k i)):=fun ps k i=>by kernel_rfl
theorem aq1:∀ps k i,exec (hJ (aZ af u7) []) (ap (di (ap (codeOf Tryz.f81) 1 58)) 116 3737) 3737 (((gR 24).st (hZ 24 ps k i)).set 5 (ch (.clo 132 [(1,0)]))) (ru 24 pW)=((fun ps=>tG (((ps,()),()),())) ps).bind fun r=>bif(r.1.1 !=0) then some (.inr (rs r.1.1)) else some (.inl (hZ 24 ps k i)):=fun ps k i=>by kernel_rfl
theorem arn:aV O (ap (codeOf Tryz.f81) 1 3) (aX WS pW KP):=
 ag1 (C:=hJ (aZ af u7) []) (os:=pW) (nt:=24) (T:=165) (e:=164) (m0:=((opsOf (ap (codeOf Tryz.f81) 1 6)).getD 0 default)) (m1:=((opsOf (ap (codeOf Tryz.f81) 1 6)).getD 1 default)) (m2:=((opsOf (ap (codeOf Tryz.f81) 1 6)).getD 2 default)) (m3:=((opsOf (ap (codeOf Tryz.f81) 1 6)).getD 3 default)) (m4:=((opsOf (ap (codeOf Tryz.f81) 1 6)).getD 4 default)) (m5:=((opsOf (ap (codeOf Tryz.f81) 1 6)).getD 5 default)) (n0:=((opsOf (ap (codeOf Tryz.f81) 1 28)).getD 0 default)) (n1:=((opsOf (ap (codeOf Tryz.f81) 1 28)).getD 1 default)) (n2:=((opsOf (ap (codeOf Tryz.f81) 1 28)).getD 2 default)) (q0:=((opsOf (ap (di (ap (codeOf Tryz.f81) 1 58)) 116 232)).getD 0 default)) (r0:=((opsOf (ap (di (ap (codeOf Tryz.f81) 1 58)) 116 3736)).getD 0 default)) (r1:=((opsOf (ap (di (ap (codeOf Tryz.f81) 1 58)) 116 3736)).getD 1 default)) (r2:=((opsOf (ap (di (ap (codeOf Tryz.f81) 1 58)) 116 3736)).getD 2 default))
  (i1:=tQ (ap (codeOf Tryz.f81) 1 6)) (i2:=tQ (ap (codeOf Tryz.f81) 1 28)) (i3:=tQ (ap (di (ap (codeOf Tryz.f81) 1 58)) 116 232)) (i4:=tQ (ap (di (ap (codeOf Tryz.f81) 1 58)) 116 3736)) (BB:=(ap (di (ap (codeOf Tryz.f81) 1 58)) 116 3737)) (r8:=(ap (di (ap (codeOf Tryz.f81) 1 58)) 116 935)) (E:=(ap (codeOf Tryz.f81) 1 15)) (p3:=232) (pB:=3737) (p8:=935) (pE:=15) (g0:=128) (g1:=129) (g2:=130) (g3:=132) (c0:=fun ps=>tJ (((ps,()),()),())) (c1:=fun ps=>tI (((ps,()),()),())) (c2:=fun ps=>tH (((ps,()),()),())) (c3:=fun ps=>tG (((ps,()),()),())) (mk:=rs) adS
  {rS:=(by kernel_rfl),Mw:=(by kernel_rfl),aY:=⟨(by kernel_rfl),(by kernel_rfl),(by kernel_rfl),(by kernel_rfl),(by kernel_rfl),(by kernel_rfl),(by kernel_rfl),(by kernel_rfl),(by kernel_rfl),(by kernel_rfl),(by kernel_rfl),(by kernel_rfl)⟩,N7:=⟨(by kernel_rfl),(by kernel_rfl)⟩,on:=⟨(by kernel_rfl),(by kernel_rfl),(by kernel_rfl)⟩,Ei:=⟨(by kernel_rfl),(by kernel_rfl),(by kernel_rfl)⟩,dst:=⟨(by kernel_rfl),(by kernel_rfl),(by kernel_rfl),(by kernel_rfl),(by kernel_rfl),(by kernel_rfl),(by kernel_rfl),(by kernel_rfl)⟩,Li:=(by decide),MD:=(by kernel_rfl),acu:=(by kernel_rfl),acs:=(by kernel_rfl),wr:=(by kernel_rfl),axk:=(by kernel_rfl),
   k9:=⟨(fun f hf=>by cases hf),lK (by kernel_rfl) ag,lK (by kernel_rfl) ag,lK (by kernel_rfl) ag⟩,hos:=(fun _ _=>rfl),aF:=(fun ps=>by kernel_rfl),xk:=(fun ps k i=>by kernel_rfl),hlt:=(fun ps k i=>by kernel_rfl),
   hB:=(fun gc h=>by
    simp only[bO,List.not_mem_nil,or_false] at h;rcases h with rfl|rfl|rfl|rfl
    ·exact aq4
    ·exact aq3
    ·exact aq2
    ·exact aq1),
   h8:=(fun ps k i=>by kernel_rfl),hE:=(fun ps k i=>by kernel_rfl)} (fun ps=>rfl) (by kernel_rfl)
abbrev i81:Shape:=⟨[aO 0 .pack],[],24⟩
abbrev abL:Shape:=⟨[aj 2],[],24⟩
noncomputable def f81(a:i81.J):Option abL.J:=
(KP (((),()),(a.1.1,()),())).bind fun b=>
 some ((b.1.1,()),())
noncomputable def ads:aH:=aL af Tryz.f81 i81 abL [] f81
theorem awT:aE O 81 ads:=aM adS Tryz.func81 (by kernel_rfl) (a7 arn ag) (fun y=>by kernel_rfl) fun a=>by kernel_rfl
noncomputable abbrev aAr:a8:=[(81,ads)]
theorem aAX:aT O (aZ af aAr):=aY ⟨awT,⟨⟩⟩
abbrev i43:Shape:=⟨[ck 0 [br .pack]],[],7⟩
abbrev ab5:Shape:=⟨[ar 2],[],7⟩
noncomputable def f43(a:i43.J):Option ab5.J:=
(f81 ((a.1.1.1,()),())).bind fun b=>
 some (((b.1.1==(0:Int)),()),())
noncomputable def yl:aH:=aL af Tryz.f43 i43 ab5 [] f43
theorem D8:aE O 43 yl:=aM aAX Tryz.func43 (by kernel_rfl) ag (fun y=>by kernel_rfl) fun a=>by kernel_rfl
theorem RF(a)(hs:cw a.1.1.length):(∃(k:Nat) (q:aK),f160 a=some (((k:Int),()),())/\a.1.1[k]? =some q/\a.1.1.find? (fun p=>p.name==a.1.2.1)=some q)\/
  (f160 a=some ((((-1):Int),()),())/\a.1.1.find? (fun p=>p.name==a.1.2.1)=none):=by
 obtain⟨⟨ps,name,u⟩,b7⟩:=a;have hs:ps.length<=2097152:=hs;have key:∀(r:List aK) (k:Nat),ps.drop k=r->k<=ps.length->(∃(j:Nat) (q:aK),td ((ps,(name,((k:Int),()))),())=some (.inl (((j:Int),()),()))/\ps[j]? =some q/\r.find? (fun p=>p.name==name)=some q)\/
   (td ((ps,(name,((k:Int),()))),())=some (.inr ((),()))/\r.find? (fun p=>p.name==name)=none):=by
  intro r;induction r with
  |nil=>
   intro k hr hk;have:=drop_nil hr;have d1:decide ((k:Int)<(ps.length:Int))=false:=by simp only[decide_eq_false_iff_not];omega
   refine .inr ⟨cC ?_,rfl⟩;simp only[BI,d1,ak]
  |cons q r ih=>
   intro k hr hk;obtain⟨c1,c2,c3⟩:=drop_cons hr;have hw:aA k:=by unfold aA;omega
   have step:BI ((ps,(name,((k:Int),()))),())=some (bif q.name==name then .inr (.inl (((k:Int),()),())) else .inl ((ps,(name,(((k+1:Nat):Int),()))),())):=by
    simp only[BI,ct c3,ad,cd,c1,Y,b9 hw];cases (q.name==name)<;>rfl
   cases aC:(q.name==name) with
   |true=>
    rw[aC,ad] at step;exact .inl ⟨k,q,cC step,c1,by simp[List.find?_cons,aC]⟩
   |false=>
    rw[aC,ak] at step;rcases ih (k+1) c2 c3 with⟨j,fT,h1,h2,h3⟩|⟨h1,h2⟩
    ·exact .inl ⟨j,fT,(d' step).trans h1,h2,by simp[List.find?_cons,aC];exact h3⟩
    ·exact .inr ⟨(d' step).trans h1,by simp only[List.find?_cons,aC];exact h2⟩
 rcases key ps 0 rfl (Nat.zero_le _) with⟨j,q,h1,h2,h3⟩|⟨h1,h2⟩
 ·have h1:td ((ps,(name,((0:Int),()))),())=some (.inl (((j:Int),()),())):=h1;exact .inl ⟨j,q,by simp only[f160,h1,Y],h2,h3⟩
 ·have h1:td ((ps,(name,((0:Int),()))),())=some (.inr ((),())):=h1;exact .inr ⟨by simp only[f160,h1,Y],h2⟩
abbrev j2(ps:List aK):Prop:=∀p,p∈ps->p.a6.length<=2097151/\∀n,n∈p.bl->n.a6.length<=2097151
def iY(ps:List aK)(n:bF):Bool:=match ps.find? (fun q=>q.name==n.name) with
 |some q=>t' n q.a6
 |none=>false
def ka(ps:List aK)(n:bF):Bool:=ps.any fun q=>lY n q.name q.a6
theorem Qk(a)(hb:fu a.1.1)(hv:j2 a.1.1):f110 a=some ((a.1.1.all (fun p=>p.bl.all (iY a.1.1)),()),()):=by
 obtain⟨⟨ps,u⟩,b7⟩:=a;have hl:ps.length<=2097152:=hb.1;have inner:∀(i:Nat) (p:aK),ps[i]? =some p->Gw ((ps,((i:Int),((0:Int),()))),())=some (bif p.bl.all (iY ps) then .inr ((ps,((i:Int),())),()) else .inl ((false,()),())):=by
  intro i p hp;have uM:=eJ hp;have Ez:p.bl.length<=2097152:=(hb.2 p uM).2.2.1.1;have:=gv zK p.bl (fun k=>((ps,((i:Int),((k:Int),()))),())) (fun _ n=>iY ps n) (.inl ((false,()),())) (.inr ((ps,((i:Int),())),())) (fun k n hn=>?_) ?_
  ·have:=this;rw[hH] at this;exact this
  ·have hk:=da hn;have hw:aA k:=by unfold aA;omega
   have ll:=eJ hn;have h8:=RF ((ps,(n.name,())),()) hl;simp only[zK,cd,hp,Y,ct hk,ad,hn];rcases h8 with⟨j,q,h1,h2,h3⟩|⟨h1,h2⟩
   ·have h2:ps[j]? =some q:=h2;have h3:ps.find? (fun p=>p.name==n.name)=some q:=h3
    have aC:=hv q (eJ h2);have hf:=akd (((n.name,(n.kind,(n.a6,()))),(n.name,(q.a6,()))),()) ((hv p uM).2 n ll) aC.1 rfl;have hj:decide ((j:Int)<0)=false:=by simp only[decide_eq_false_iff_not];omega
    simp only[h1,Y,yZ,hj,ak,cd,h2,hf,iY,h3,b9 hw];cases t' n q.a6<;>rfl
   ·have h2:ps.find? (fun p=>p.name==n.name)=none:=h2
    have hj:decide ((-1:Int)<0)=true:=rfl;simp only[h1,Y,yZ,hj,ad,iY,h2,ak]
  ·simp only[zK,cd,hp,Y,dL,ak]
 have key:Jc ((ps,((0:Int),())),())=some (bif allI (fun _ p=>p.bl.all (iY ps)) 0 ps then .inr ((),()) else .inl ((false,()),())):=by
  refine gv BQ ps (fun i=>((ps,((i:Int),())),())) _ _ _ (fun i x hx=>?_) ?_
  ·have hi:=da hx;have hw:aA i:=by unfold aA;omega
   simp only[BQ,ct hi,ad,inner i x hx,Y];cases x.bl.all (iY ps)
   ·rfl
   ·simp only[ad,b9 hw]
  ·simp only[BQ,dL,ak]
 rw[hH] at key;simp only[f110,key,Y];cases List.all ps (fun p=>p.bl.all (iY ps))<;>rfl
theorem afx(a)(hb:fu a.1.1)(hv:j2 a.1.1):f131 a=some ((a.1.1.all (fun p=>p.bl.all (ka a.1.1)),()),()):=by
 obtain⟨⟨ps,u⟩,b7⟩:=a;have hl:ps.length<=2097152:=hb.1;have hcon:∀n:bF,cw n.name.length->n.a6.length<=2097151->CR ((ps,(((n.name,(n.kind,(n.a6,()))),()),())),())=some ((ka ps n,()),()):=by
  intro n hn1 ayz;have key:∀(r:List aK) (k:Nat),ps.drop k=r->k<=ps.length->∃z:Int,(sX ((ps,(((n.name,(n.kind,(n.a6,()))),()),((ps.length:Int),((k:Int),())))),())).bind (fun ark=>(match ark with
    |.inl arj=>some ((arj.1.1,()),())
    |.inr aCu=>some ((((-1):Int),()),()):Option J1.J))=some ((z,()),())/\decide (z>=0)=r.any (fun q=>lY n q.name q.a6):=by
   intro r;induction r with
   |nil=>
    intro k hr hk;have:=drop_nil hr;have d1:decide ((k:Int)<(ps.length:Int))=false:=by simp only[decide_eq_false_iff_not];omega
    have:sX ((ps,(((n.name,(n.kind,(n.a6,()))),()),((ps.length:Int),((k:Int),())))),())=some (.inr ((),())):=by
     refine cC ?_
     simp only[zE,d1,ak]
    exact⟨-1,by rw[this];rfl,rfl⟩
   |cons q r ih=>
    intro k hr hk;obtain⟨c1,c2,c3⟩:=drop_cons hr;have hw:aA k:=by unfold aA;omega
    have aC:=hv q (eJ c1);have hf:=ahi (((n.name,(n.kind,(n.a6,()))),(q.name,(q.a6,()))),()) hn1 ayz aC.1;have step:zE ((ps,(((n.name,(n.kind,(n.a6,()))),()),((ps.length:Int),((k:Int),())))),())=some (bif lY n q.name q.a6 then .inr (.inl (((k:Int),()),())) else .inl ((ps,(((n.name,(n.kind,(n.a6,()))),()),((ps.length:Int),(((k+1:Nat):Int),())))),())):=by
     simp only[zE,ct c3,ad,cd,c1,Y,Kr,hf,b9 hw];cases lY n q.name q.a6<;>rfl
    rw[List.any_cons];cases acW:lY n q.name q.a6 with
    |true=>
     rw[acW,ad] at step;exact⟨k,by rw[show sX _=_ from cC step];rfl,by simp⟩
    |false=>
     rw[acW,ak] at step;obtain⟨z,h1,h2⟩:=ih (k+1) c2 c3;exact⟨z,by rw[show sX _=_ from d' step];exact h1,by rw[h2];rfl⟩
  obtain⟨z,h1,h2⟩:=key ps 0 rfl (Nat.zero_le _);have h3:CQ ((ps,(((n.name,(n.kind,(n.a6,()))),()),())),())=some ((z,()),()):=by
   simp only[CQ];exact h1
  simp only[CR,h3,Y,h2,ka]
 have inner:∀(i:Nat) (p:aK),ps[i]? =some p->Gt ((ps,(ps,((ps.length:Int),((i:Int),(p.bl,((p.bl.length:Int),((0:Int),()))))))),())=some (bif p.bl.all (ka ps) then .inr ((ps,(ps,((ps.length:Int),((i:Int),())))),()) else .inl ((false,()),())):=by
  intro i p hp;have uM:=eJ hp;have Ez:p.bl.length<=2097152:=(hb.2 p uM).2.2.1.1;have:=gv zI p.bl (fun k=>((ps,(ps,((ps.length:Int),((i:Int),(p.bl,((p.bl.length:Int),((k:Int),()))))))),())) (fun _ n=>ka ps n) (.inl ((false,()),())) (.inr ((ps,(ps,((ps.length:Int),((i:Int),())))),())) (fun k n hn=>?_) ?_
  ·have:=this;rw[hH] at this;exact this
  ·have hk:=da hn;have hw:aA k:=by unfold aA;omega
   have ll:=eJ hn;have hc:=hcon n ((hb.2 p uM).2.2.1.2 n ll).1 ((hv p uM).2 n ll);simp only[zI,ct hk,ad,cd,hn,Y,hc,b9 hw];cases ka ps n<;>rfl
  ·simp only[zI,dL,ak]
 have key:Ja ((ps,(ps,((ps.length:Int),((0:Int),())))),())=some (bif allI (fun _ p=>p.bl.all (ka ps)) 0 ps then .inr ((),()) else .inl ((false,()),())):=by
  refine gv BO ps (fun i=>((ps,(ps,((ps.length:Int),((i:Int),())))),())) _ _ _ (fun i x hx=>?_) ?_
  ·have hi:=da hx;have hw:aA i:=by unfold aA;omega
   simp only[BO,ct hi,ad,cd,hx,inner i x hx,Y];cases x.bl.all (ka ps)
   ·rfl
   ·simp only[ad,b9 hw]
  ·simp only[BO,dL,ak]
 rw[hH] at key;simp only[f131,key,Y];cases List.all ps (fun p=>p.bl.all (ka ps))<;>rfl
theorem aj2:∀ps:List aK,(∀i y,ps[i+1]? =some y->nI ps i y=true)->ps.Pairwise fun p q=>Op.bytesLess p.name q.name=true:=by
 intro ps;induction ps with
 |nil=>intro _;exact List.Pairwise.nil
 |cons x r ih=>
  intro h;have hr:=ih (fun i y hy=>by
   have:=h (i+1) y (by simpa using hy)
   unfold nI at this ⊢;simpa using this)
  refine List.pairwise_cons.2 ⟨fun y hy=>?_,hr⟩
  cases r with
  |nil=>cases hy
  |cons z r=>
   have hz:Op.bytesLess x.name z.name=true:=by
    have:=h 0 z rfl;unfold nI at this;simpa using this
   rcases bO.1 hy with rfl|hy
   ·exact hz
   ·exact vS _ _ _ hz ((List.pairwise_cons.1 hr).1 y hy)
theorem aou{ps:List aK}(h:ld ps=true):ps.Pairwise fun p q=>Op.bytesLess p.name q.name=true:=by
 refine aj2 ps (fun i y hy=>?_)
 have:=Ay ps.tail 0 h i y (by rw[List.getElem?_tail];exact hy)
 rwa[Nat.zero_add] at this
theorem agJ:∀(ps:List aK) (n:bF),(∀p,p∈ps->eD p.a6=true)->dR n=true->ps.Pairwise (fun p q=>Op.bytesLess p.name q.name=true)->ka ps n=iY ps n:=by
 intro ps n;induction ps with
 |nil=>intro _ _ _;rfl
 |cons q r ih=>
  intro hv hn hp;have Ey:=List.pairwise_cons.1 hp;have ih:=ih (fun p h=>hv p (cf _ h)) hn Ey.2
  unfold ka iY at ih ⊢;rw[List.any_cons,List.find?_cons];cases aC:(q.name==n.name) with
  |true=>
   have hno:r.any (fun q=>lY n q.name q.a6)=false:=by
    rw[List.any_eq_false];intro p ays;have h1:=Ey.1 p ays;rw[eq_of_beq aC] at h1;have:(p.name==n.name)=false:=by
     cases h:(p.name==n.name) with
     |false=>rfl
     |true=>rw[eq_of_beq h,wM] at h1;cases h1
    unfold lY;rw[this];simp
   rw[hno];unfold lY;rw[hv q ci,hn,aC];simp
  |false=>
   have:lY n q.name q.a6=false:=by unfold lY;rw[aC];simp
   rw[this,Bool.false_or];exact ih
def eE(ps:List aK):Bool:=ps.all cx&&ld ps&&decide (ps.length<=5)&&ps.all (fun p=>p.bl.all (iY ps))&&(fR [] ps).isSome
def ke(ps:List aK):Int:=bif ps.all cx&&ld ps then(bif decide (ps.length<=5) then(bif ps.all (fun p=>p.bl.all (iY ps)) then(bif(fR [] ps).isSome then 0 else 5) else 4) else 6) else 1
theorem agx(ps:List aK):eE ps=(ke ps==0):=by
 unfold eE ke;cases ps.all cx<;>cases ld ps<;>cases decide (ps.length<=5)<;>cases ps.all (fun p=>p.bl.all (iY ps))<;>cases (fR [] ps).isSome<;>rfl
theorem aib{aD:Type}(ok:Nat->aD->Bool):∀(xs:List aD) (j:Nat),allI ok (j+1) xs=allI (fun i=>ok (i+1)) j xs:=by
 intro xs;induction xs with
 |nil=>intro j;rfl
 |cons x r ih=>intro j;simp only[allI,ih]
def uE(ps:List aK)(i:Nat)(x:aK):Bool:=cx x&&(i==0||nI ps (i-1) x)
theorem TR(ps:List aK):allI (uE ps) 0 ps=(ps.all cx&&ld ps):=by
 unfold uE;rw[HR,hH];congr 1
 unfold ld;cases ps with
 |nil=>rfl
 |cons x r=>
  simp only[allI,beq_self_eq_true,Bool.true_or,Bool.true_and,List.tail_cons];rw[aib];refine Qf r 0 (fun i y _ _=>?_)
  have:(i+1==0)=false:=rfl;rw[this,Bool.false_or,Nat.add_sub_cancel]
theorem vL(a)(hb:fu a.1.1.1)(hv:j2 a.1.1.1):f30 a=some ((eE a.1.1.1,()),()):=by
 obtain⟨⟨⟨ps,u⟩,b7⟩,nV⟩:=a;have hl:ps.length<=2097152:=hb.1;have key:Ct ((ps,((0:Int),())),())=some (bif allI (uE ps) 0 ps then .inr ((ps,()),()) else .inl (((1:Int),()),())):=by
  refine gv rp ps (fun i=>((ps,((i:Int),())),())) _ _ _ (fun i x hx=>?_) ?_
  ·have hi:=da hx;have hw:aA i:=by unfold aA;omega
   have qy:=hb.2 x (eJ hx);simp only[rp,ct hi,ad,Bv,cd,hx,Y];rw[vM _ qy];simp only[Y,uE,DM];cases cx x with
   |false=>rfl
   |true=>
    simp only[bu,ak,Bool.true_and,nI];cases i with
    |zero=>simp only[beq_self_eq_true,bu,ak,Y,Bool.true_or,ad,b9 hw]
    |succ i=>
     have h0:(i+1==0)=false:=rfl;have jV:i<ps.length:=by omega
     obtain⟨q,aC⟩:∃q,ps[i]? =some q:=⟨ps[i],dZ jV⟩;simp only[h0,bJ,ad,vA (i:=i) (by unfold aA;omega),cd,aC,hx,Y,Bool.false_or,Nat.add_sub_cancel]
     cases Op.bytesLess q.name x.name with
     |false=>rfl
     |true=>simp only[bu,ak,ad,b9 hw]
  ·simp only[rp,dL,ak]
 rw[TR] at key;have bo:decide ((ps.length:Int)>5)=!decide (ps.length<=5):=by by_cases h:ps.length<=5<;>simp only[h,decide_true,decide_false,bu,bJ,dY,decide_eq_false_iff_not]<;>omega
 simp only[f30,f60,key,Y,eE];cases en:(ps.all cx&&ld ps) with
 |false=>rfl
 |true=>
  have hk:ps.all cx=true:=by simp only[bC] at en;exact en.1
  obtain⟨out,ay⟩:=RD ((ps,()),()) hb hk;have hn:=Qk ((ps,()),()) hb hv;simp only[ad,Y,ay,bo,Bool.true_and];cases decide (ps.length<=5) with
  |false=>rfl
  |true=>
   simp only[bu,ak,hn,Y,Bool.true_and];cases ps.all (fun p=>p.bl.all (iY ps))<;>cases (fR [] ps).isSome<;>rfl
theorem ag8(a)(hb:fu a.1.1)(hv:j2 a.1.1):f81 a=some ((ke a.1.1,()),()):=by
 obtain⟨⟨ps,u⟩,b7⟩:=a;have hl:ps.length<=2097152:=hb.1;have e1:=ait ((ps,((),())),()) hb;have e2:=afd ((ps,()),()) hl;have bz:=afx ((ps,()),()) hb hv;have bo:decide ((ps.length:Int)>5)=!decide (ps.length<=5):=by by_cases h:ps.length<=5<;>simp only[h,decide_true,decide_false,bu,bJ,dY,decide_eq_false_iff_not]<;>omega
 have c0:tJ (((ps,()),()),())=some (((bif ps.all cx&&ld ps then(0:Int) else 1),()),()):=by
  simp only[tJ,GI,e1,Bool.not_not,Y];cases ps.all cx with
  |false=>rfl
  |true=>simp only[ad,e2,Y,Bool.true_and];cases ld ps<;>rfl
 have c1:tI (((ps,()),()),())=some (((bif decide (ps.length<=5) then(0:Int) else 6),()),()):=by
  simp only[tI,bo];cases decide (ps.length<=5)<;>rfl
 have c2:tH (((ps,()),()),())=some (((bif ps.all (fun p=>p.bl.all (ka ps)) then(0:Int) else 4),()),()):=by
  simp only[tH,bz,Y];cases ps.all (fun p=>p.bl.all (ka ps))<;>rfl
 have c3:ps.all cx=true->tG (((ps,()),()),())=some (((bif(fR [] ps).isSome then(0:Int) else 5),()),()):=by
  intro hk;obtain⟨out,ay⟩:=agj ((ps,()),()) hb hk;simp only[tG,ay,Y];cases (fR [] ps).isSome<;>rfl
 have z:∀n:Int,((n:Int) !=0)=!(n==0):=fun n=>rfl
 simp only[f81,KP,rq,c0,c1,c2,rs,Y,ke];cases en:(ps.all cx&&ld ps) with
 |false=>rfl
 |true=>
  simp only[bC] at en;have apX:ps.all (fun p=>p.bl.all (ka ps))=ps.all (fun p=>p.bl.all (iY ps)):=by
   rw[Bool.eq_iff_iff];simp only[List.all_eq_true];have hvs:∀p,p∈ps->eD p.a6=true:=fun p hp=>by
    have:=List.all_eq_true.1 en.1 p hp;unfold cx at this;simp only[bC] at this;exact this.1.1.2
   have hns:∀p,p∈ps->∀n,n∈p.bl->ka ps n=iY ps n:=fun p hp n hn=>by
    have:=List.all_eq_true.1 en.1 p hp;unfold cx rc at this;simp only[bC] at this;exact agJ ps n hvs (List.all_eq_true.1 this.1.2.1.1 n hn) (aou en.2)
   constructor
   ·intro h p hp n hn;rw[<-hns p hp n hn];exact h p hp n hn
   ·intro h p hp n hn;rw[hns p hp n hn];exact h p hp n hn
  rw[apX,c3 en.1];cases decide (ps.length<=5)<;>cases ps.all (fun p=>p.bl.all (iY ps))<;>cases (fR [] ps).isSome<;>rfl
theorem zg(a)(hb:fu a.1.1.1)(hv:j2 a.1.1.1):f43 a=some ((eE a.1.1.1,()),()):=by
 obtain⟨⟨⟨ps,u⟩,b7⟩,nV⟩:=a;have e:=ag8 ((ps,()),()) hb hv;simp only[f43,e,Y,agx]
abbrev i217:Shape:=⟨[(0,.aq (.d (.int .u32))),aj 1],[],17⟩
abbrev Yu:Shape:=⟨[(4,.aq (.d (.int .u32)))],[],17⟩
noncomputable def f217(a:i217.J):Option Yu.J:=
(l4 .u32 a.1.1 (eW .u64 (IntKind.u64.wrap a.1.2.1) (31:Int))).bind fun b=>
(fC .u32 a.1.1 (IntKind.u64.wrap ((32:Int)-(eW .u64 (IntKind.u64.wrap a.1.2.1) (31:Int))))).bind fun c=>
 some (((is .u32 b c),()),())
noncomputable def _M:aH:=aL af Tryz.f217 i217 Yu [] f217
theorem asD:aE O 217 _M:=aM g0 Tryz.func217 (by kernel_rfl) ag (fun y=>by kernel_rfl) fun a=>by kernel_rfl
noncomputable abbrev avp:a8:=[(217,_M)]
theorem awt:aT O (aZ af avp):=aY ⟨asD,⟨⟩⟩
abbrev i171:Shape:=⟨[(0,.aq (.d (.int .u32))),aj 1],[],9⟩
abbrev Y0:Shape:=⟨[(4,.aq (.d (.int .u32)))],[],9⟩
noncomputable def f171(a:i171.J):Option Y0.J:=
(f217 ((a.1.1,(IntKind.i64.wrap (0-a.1.2.1)),()),())).bind fun b=>
 some ((b.1.1,()),())
noncomputable def aaa:aH:=aL af Tryz.f171 i171 Y0 [] f171
theorem z171:aE O 171 aaa:=aM awt Tryz.func171 (by kernel_rfl) ag (fun y=>by kernel_rfl) fun a=>by kernel_rfl
abbrev i278:Shape:=⟨[(0,.aq (.d (.int .u32))),aj 1],[],13⟩
abbrev X6:Shape:=⟨[(4,.aq (.d (.int .u32)))],[],13⟩
noncomputable def f278(a:i278.J):Option X6.J:=
(fC .u32 a.1.1 a.1.2.1).bind fun b=>
(l4 .u32 a.1.1 (IntKind.i64.wrap ((32:Int)-a.1.2.1))).bind fun c=>
 some (((is .u32 b c),()),())
noncomputable def LQ:aH:=aL af Tryz.f278 i278 X6 [] f278
theorem XB:aE O 278 LQ:=aM g0 Tryz.func278 (by kernel_rfl) ag (fun y=>by kernel_rfl) fun a=>by kernel_rfl
noncomputable abbrev auM:a8:=[(278,LQ)]
theorem Mc:aT O (aZ af auM):=aY ⟨XB,⟨⟩⟩
abbrev AJ:Shape:=⟨[aO 0 .u8,bd 3 3000192,aj 4],[bc 3000192 .u32 3 0],100⟩
abbrev H5:List aR:=[(.exit 0,⟨[bd 3 3000192],[bc 3000192 .u32 3 0],100⟩)]
noncomputable def Jo(y:AJ.J):bP AJ H5:=
 bif(decide (y.1.2.2.1<(16:Int))) then
(aS y.1.1 (IntKind.i64.wrap ((4:Int)*y.1.2.2.1))).bind fun a=>
(l4 .u32 (IntKind.u32.wrap a) (24:Int)).bind fun b=>
(aS y.1.1 (IntKind.i64.wrap ((IntKind.i64.wrap ((4:Int)*y.1.2.2.1))+(1:Int)))).bind fun c=>
(l4 .u32 (IntKind.u32.wrap c) (16:Int)).bind fun d=>
(aS y.1.1 (IntKind.i64.wrap ((IntKind.i64.wrap ((4:Int)*y.1.2.2.1))+(2:Int)))).bind fun e=>
(l4 .u32 (IntKind.u32.wrap e) (8:Int)).bind fun f=>
(aS y.1.1 (IntKind.i64.wrap ((IntKind.i64.wrap ((4:Int)*y.1.2.2.1))+(3:Int)))).bind fun g=>
(cl 4 y.2.1 ([(is .u32 (is .u32 (is .u32 b d) f) (IntKind.u32.wrap g))]:List Int)).bind fun h=>
 some (.inl ((y.1.1,(),(IntKind.i64.wrap (y.1.2.2.1+(1:Int))),()),h,()))
else
 some (.inr (((),()),y.2.1,()))
noncomputable def IU:AJ.J->Option (aG H5):=bA Jo
theorem amS:aV O (ap (codeOf Tryz.f276) 1 58) (aX AJ H5 IU):=bR Mc (by kernel_rfl) ag fun y=>by kernel_rfl
abbrev zW:Shape:=⟨[bd 3 3000192,aj 5],[bc 3000192 .u32 3 0],100⟩
abbrev GZ:List aR:=[(.exit 2,⟨[bd 3 3000192],[bc 3000192 .u32 3 0],100⟩)]
noncomputable def HG(y:zW.J):bP zW GZ:=
 bif(decide (y.1.2.1<(64:Int))) then
(bh y.2.1.length (IntKind.i64.wrap (y.1.2.1-(15:Int)))).bind fun a=>
(y.2.1[a]?).bind fun b=>
(bh y.2.1.length (IntKind.i64.wrap (y.1.2.1-(2:Int)))).bind fun c=>
(y.2.1[c]?).bind fun d=>
(f278 ((b,(7:Int),()),())).bind fun e=>
(f278 ((b,(18:Int),()),())).bind fun f=>
(fC .u32 b (3:Int)).bind fun g=>
(f278 ((d,(17:Int),()),())).bind fun h=>
(f278 ((d,(19:Int),()),())).bind fun i=>
(fC .u32 d (10:Int)).bind fun j=>
(bh y.2.1.length (IntKind.i64.wrap (y.1.2.1-(16:Int)))).bind fun k=>
(y.2.1[k]?).bind fun l=>
(bh y.2.1.length (IntKind.i64.wrap (y.1.2.1-(7:Int)))).bind fun m=>
(y.2.1[m]?).bind fun n=>
(cl 4 y.2.1 ([(IntKind.u32.wrap ((IntKind.u32.wrap ((IntKind.u32.wrap (l+(dB .u32 (dB .u32 e.1.1 f.1.1) g)))+n))+(dB .u32 (dB .u32 h.1.1 i.1.1) j)))]:List Int)).bind fun D=>
 some (.inl (((),(IntKind.i64.wrap (y.1.2.1+(1:Int))),()),D,()))
else
 some (.inr (((),()),y.2.1,()))
noncomputable def Hm:zW.J->Option (aG GZ):=bA HG
theorem ak0:aV O (ap (codeOf Tryz.f276) 1 122) (aX zW GZ Hm):=bR Mc (by kernel_rfl) ag fun y=>by kernel_rfl
abbrev i276:Shape:=⟨[aO 0 .u8],[],100⟩
abbrev X8:Shape:=⟨[bd 2 3000128],[bc 3000128 .u32 2 0],100⟩
noncomputable def f276(a:i276.J):Option X8.J:=
(kk 4 (0:Int) (64:Int) (0:Int)).bind fun b=>
(IU ((a.1.1,(),(0:Int),()),b,())).bind fun c=>
(Hm (((),(16:Int),()),c.2.1,())).bind fun d=>
 some (((),()),d.2.1,())
noncomputable def _r:aH:=aL af Tryz.f276 i276 X8 [] f276
theorem asn:aE O 276 _r:=aM Mc Tryz.func276 (by kernel_rfl) (a7 amS (a7 ak0 ag)) (fun y=>by kernel_rfl) fun a=>by kernel_rfl
theorem ga{J bx:Type}{g:J->Option (Sum J bx)}(st:Nat->J)(n:Nat){b:bx}(h:∀i,i<n->g (st i)=some (.inl (st (i+1))))(he:g (st n)=some (.inr b)):∀k i,i+k=n->bA g (st i)=some b:=by
 intro k;induction k with
 |zero=>
  intro i hi;obtain rfl:i=n:=by omega
  exact cC he
 |succ k ih=>
  intro i hi;rw[d' (h i (by omega))]
  exact ih (i+1) (by omega)
theorem alt(k:IntKind)(x y:Int):is k x y=is k y x:=by unfold is;rw[BitVec.or_comm]
def k8(x n:Int):Int:=is .u32 (x.fdiv (2^n.toNat)) (IntKind.u32.wrap (x*2^(32-n).toNat))
def e'(n:Int):Prop:=n=2\/n=6\/n=7\/n=11\/n=13\/n=17\/n=18\/n=19\/n=22\/n=25
theorem nu(x n:Int)(h:e' n):f278 ((x,(n,())),())=some ((k8 x n,()),()):=by
 rcases h with rfl|rfl|rfl|rfl|rfl|rfl|rfl|rfl|rfl|rfl<;>rfl
theorem ib(x n:Int)(h:e' n):f171 ((x,(n,())),())=some ((k8 x n,()),()):=by
 have a2:eW .u64 (IntKind.u64.wrap (IntKind.i64.wrap (0-2))) 31=30:=by decide
 have yM:eW .u64 (IntKind.u64.wrap (IntKind.i64.wrap (0-6))) 31=26:=by decide
 have yL:eW .u64 (IntKind.u64.wrap (IntKind.i64.wrap (0-7))) 31=25:=by decide
 have NC:eW .u64 (IntKind.u64.wrap (IntKind.i64.wrap (0-11))) 31=21:=by decide
 have azL:eW .u64 (IntKind.u64.wrap (IntKind.i64.wrap (0-13))) 31=19:=by decide
 have azJ:eW .u64 (IntKind.u64.wrap (IntKind.i64.wrap (0-17))) 31=15:=by decide
 have azI:eW .u64 (IntKind.u64.wrap (IntKind.i64.wrap (0-18))) 31=14:=by decide
 have azH:eW .u64 (IntKind.u64.wrap (IntKind.i64.wrap (0-19))) 31=13:=by decide
 have azG:eW .u64 (IntKind.u64.wrap (IntKind.i64.wrap (0-22))) 31=10:=by decide
 have azF:eW .u64 (IntKind.u64.wrap (IntKind.i64.wrap (0-25))) 31=7:=by decide
 unfold k8;rw[alt];rcases h with rfl|rfl|rfl|rfl|rfl|rfl|rfl|rfl|rfl|rfl<;>simp only[f171,f217,a2,yM,yL,NC,azL,azJ,azI,azH,azG,azF]<;>rfl
theorem pF{x:Int}(h0:0<=x)(h1:x<4294967296):IntKind.u32.wrap x=x:=by rw[IntKind.wrap_u32];omega
theorem Gk{a:Nat}(h:a<4294967296):(BitVec.ofInt IntKind.u32.bits (a:Int)).toNat=a:=by
 rw[BitVec.ofInt_natCast,BitVec.toNat_ofNat];exact Nat.mod_eq_of_lt h
theorem Bm{m y k:Nat}(hy:y<2^k)(h:m*2^k+y<4294967296):is .u32 ((m*2^k:Nat):Int) (y:Int)=((m*2^k+y:Nat):Int):=by
 unfold is;rw[BitVec.toNat_or,Gk (by omega),Gk (by omega),<-Nat.shiftLeft_eq,<-Nat.shiftLeft_add_eq_or_of_lt hy,Nat.shiftLeft_eq,pF (by omega) (by omega)]
abbrev kT(x:Int):Prop:=0<=x/\x<=255
def wd(a b c d:Int):Int:=a*16777216+b*65536+c*256+d
def hM(w c:Int):Int:=is .u32 (IntKind.u32.wrap (w*256)) (IntKind.u32.wrap c)
theorem zj{w c:Nat}(hw:w<16777216)(hc:c<256):hM w c=((w*256+c:Nat):Int):=by
 unfold hM;rw[pF (x:=(w:Int)*256) (by omega) (by omega),pF (x:=(c:Int)) (by omega) (by omega)]
 exact Bm (k:=8) (by omega) (by omega)
theorem pR{x:Int}(h:kT x):∃n:Nat,x=n/\n<256:=by
 obtain⟨n,rfl⟩:=Int.eq_ofNat_of_zero_le h.1;exact⟨n,rfl,by omega⟩
theorem amn{a b c d:Int}(ha:kT a)(hb:kT b)(hc:kT c)(aa:kT d):hM (hM (hM (hM 0 a) b) c) d=wd a b c d:=by
 obtain⟨a,rfl,sB⟩:=pR ha;obtain⟨b,rfl,sA⟩:=pR hb;obtain⟨c,rfl,yE⟩:=pR hc;obtain⟨d,rfl,yD⟩:=pR aa;have fa:hM 0 (a:Int)=((0*256+a:Nat):Int):=zj (w:=0) (by omega) sB
 rw[fa,zj (by omega) sA,zj (by omega) yE,zj (by omega) yD]
 unfold wd;omega
theorem amm{a b c d:Int}(ha:kT a)(hb:kT b)(hc:kT c)(aa:kT d):
  is .u32 (is .u32 (is .u32 (IntKind.u32.wrap (IntKind.u32.wrap a*16777216)) (IntKind.u32.wrap (IntKind.u32.wrap b*65536))) (IntKind.u32.wrap (IntKind.u32.wrap c*256))) (IntKind.u32.wrap d)=wd a b c d:=by
 obtain⟨a,rfl,sB⟩:=pR ha;obtain⟨b,rfl,sA⟩:=pR hb;obtain⟨c,rfl,yE⟩:=pR hc;obtain⟨d,rfl,yD⟩:=pR aa;have w:∀{x:Nat},x<256->IntKind.u32.wrap (x:Int)=x:=fun h=>pF (by omega) (by omega)
 rw[w sB,w sA,w yE,w yD,pF (x:=(a:Int)*16777216) (by omega) (by omega),pF (x:=(b:Int)*65536) (by omega) (by omega),pF (x:=(c:Int)*256) (by omega) (by omega)]
 have e1:is .u32 ((a:Int)*16777216) ((b:Int)*65536)=(((a*256+b)*2^16:Nat):Int):=by
  have:=Bm (m:=a) (y:=b*65536) (k:=24) (by omega) (by omega)
  rw[show((a:Int)*16777216)=((a*2^24:Nat):Int) by omega,show((b:Int)*65536)=((b*65536:Nat):Int) by omega,this];omega
 have e2:is .u32 (((a*256+b)*2^16:Nat):Int) ((c:Int)*256)=((((a*256+b)*256+c)*2^8:Nat):Int):=by
  have:=Bm (m:=a*256+b) (y:=c*256) (k:=16) (by omega) (by omega)
  rw[show((c:Int)*256)=((c*256:Nat):Int) by omega,this];omega
 have bz:=Bm (m:=(a*256+b)*256+c) (y:=d) (k:=8) (by omega) (by omega)
 rw[e1,e2,bz];unfold wd;omega
def gb(b:List Int)(i:Nat):Int:=b.getD i 0
def MA(x:Int):Int:=dB .u32 (dB .u32 (k8 x 7) (k8 x 18)) (x.fdiv 8)
def Mz(x:Int):Int:=dB .u32 (dB .u32 (k8 x 17) (k8 x 19)) (x.fdiv 1024)
def xg(w:List Int)(i:Nat):Int:=IntKind.u32.wrap (IntKind.u32.wrap (IntKind.u32.wrap (gb w (i-16)+MA (gb w (i-15)))+gb w (i-7))+Mz (gb w (i-2)))
def cG(b:List Int):Nat->List Int
 |0=>[]
 |i+1=>cG b i++[bif decide (i<16) then wd (gb b (4*i)) (gb b (4*i+1)) (gb b (4*i+2)) (gb b (4*i+3)) else xg (cG b i) i]
theorem oB(b:List Int):∀i,(cG b i).length=i
 |0=>rfl
 |i+1=>by simp[cG,oB b i]
theorem mE{b:List Int}{j:Nat}(h:j<b.length):b[j]? =some (gb b j):=by
 unfold gb;rw[List.getD_eq_getElem?_getD,dZ h];rfl
theorem wY{b:List Int}{j:Nat}(h:j<b.length):aS b (j:Int)=some (gb b j):=by rw[cd];exact mE h
theorem XS(x:Int):fC .u32 x 3=some (x.fdiv 8):=rfl
theorem WR(x:Int):fC .u32 x 10=some (x.fdiv 1024):=rfl
theorem ara(x:Int):l4 .u32 x 24=some (IntKind.u32.wrap (x*16777216)):=rfl
theorem arb(x:Int):l4 .u32 x 16=some (IntKind.u32.wrap (x*65536)):=rfl
theorem xc(x:Int):l4 .u32 x 8=some (IntKind.u32.wrap (x*256)):=rfl
abbrev sr(b:List Int):Prop:=b.length=64/\∀x,x∈b->kT x
theorem sr.qC{b:List Int}(h:sr b){j:Nat}(hj:j<64):kT (gb b j):=by
 refine h.2 _ ?_
 have:=mE (b:=b) (j:=j) (by rw[h.1];exact hj)
 exact eJ this
theorem lv{i:Nat}(h:i<=64)(j:Nat)(hj:j<=4):IntKind.i64.wrap (IntKind.i64.wrap ((4:Int)*(i:Int))+(j:Int))=((4*i+j:Nat):Int):=by
 rw[c' (n:=4*(i:Int)) (by omega) (by omega),c' (by omega) (by omega)];omega
theorem uB{i:Nat}(h:i<=64):IntKind.i64.wrap ((4:Int)*(i:Int))=((4*i:Nat):Int):=by
 rw[c' (n:=4*(i:Int)) (by omega) (by omega)];omega
theorem qF{i:Nat}{q:Int}(k:Nat)(e:q=(k:Int))(h:i<=64)(hk:k<=i):IntKind.i64.wrap ((i:Int)-q)=((i-k:Nat):Int):=by
 subst e;rw[c' (by omega) (by omega)];omega
theorem wp{i:Nat}(h:i<=64):IntKind.i64.wrap ((i:Int)+1)=((i+1:Nat):Int):=b9 (by unfold aA;omega)
theorem ain(b:List Int)(h:sr b):f276 ((b,()),())=some (((),()),(cG b 64,())):=by
 have aI:IU ((b,((),((0:Int),()))),(([]:List Int),()))=some (((),()),(cG b 16,())):=by
  refine ga (g:=Jo) (fun i=>((b,((),((i:Int),()))),(cG b i,()))) 16 (fun i hi=>?_) rfl 16 0 rfl
  have hl:decide ((i:Int)<16)=true:=by simp;omega
  have h0:=wY (b:=b) (j:=4*i) (by rw[h.1];omega)
  have h1:=wY (b:=b) (j:=4*i+1) (by rw[h.1];omega)
  have h2:=wY (b:=b) (j:=4*i+2) (by rw[h.1];omega)
  have h3:=wY (b:=b) (j:=4*i+3) (by rw[h.1];omega)
  have q1:IntKind.i64.wrap (((4*i:Nat):Int)+1)=((4*i+1:Nat):Int):=by have:=lv (i:=i) (by omega) 1 (by omega);rwa[uB (by omega)] at this
  have q2:IntKind.i64.wrap (((4*i:Nat):Int)+2)=((4*i+2:Nat):Int):=by have:=lv (i:=i) (by omega) 2 (by omega);rwa[uB (by omega)] at this
  have ec:IntKind.i64.wrap (((4*i:Nat):Int)+3)=((4*i+3:Nat):Int):=by have:=lv (i:=i) (by omega) 3 (by omega);rwa[uB (by omega)] at this
  have hw:=amm (h.qC (j:=4*i) (by omega)) (h.qC (j:=4*i+1) (by omega)) (h.qC (j:=4*i+2) (by omega)) (h.qC (j:=4*i+3) (by omega))
  have aa:decide (i<16)=true:=by simpa using hi
  simp only[Jo,hl,ad,uB (i:=i) (by omega),q1,q2,ec,h0,h1,h2,h3,Y,ara,arb,xc,hw,wp (i:=i) (by omega)]
  rw[dy (by decide) (by rw[oB];unfold aA;simp;omega)]
  simp only[Y,cG,aa,ad]
 have aJ:Hm (((),((16:Int),())),(cG b 16,()))=some (((),()),(cG b 64,())):=by
  refine ga (g:=HG) (fun i=>(((),(((16+i:Nat):Int),())),(cG b (16+i),()))) 48 (fun i hi=>?_) rfl 48 0 rfl
  have hl:decide (((16+i:Nat):Int)<64)=true:=by simp;omega
  have hlen:=oB b (16+i);have aa:decide (16+i<16)=false:=by simp
  have t7:=fun x=>nu x 7 (by simp[e']);have t18:=fun x=>nu x 18 (by simp[e'])
  have t17:=fun x=>nu x 17 (by simp[e']);have t19:=fun x=>nu x 19 (by simp[e'])
  have i15:bh (cG b (16+i)).length (IntKind.i64.wrap (((16+i:Nat):Int)-15))=some (16+i-15):=by rw[qF (i:=16+i) (q:=15) 15 rfl (by omega) (by omega)];exact fQ (by rw[hlen];omega)
  have i2:bh (cG b (16+i)).length (IntKind.i64.wrap (((16+i:Nat):Int)-2))=some (16+i-2):=by rw[qF (i:=16+i) (q:=2) 2 rfl (by omega) (by omega)];exact fQ (by rw[hlen];omega)
  have i16:bh (cG b (16+i)).length (IntKind.i64.wrap (((16+i:Nat):Int)-16))=some (16+i-16):=by rw[qF (i:=16+i) (q:=16) 16 rfl (by omega) (by omega)];exact fQ (by rw[hlen];omega)
  have i7:bh (cG b (16+i)).length (IntKind.i64.wrap (((16+i:Nat):Int)-7))=some (16+i-7):=by rw[qF (i:=16+i) (q:=7) 7 rfl (by omega) (by omega)];exact fQ (by rw[hlen];omega)
  have g15:=mE (b:=cG b (16+i)) (j:=16+i-15) (by rw[hlen];omega)
  have g2:=mE (b:=cG b (16+i)) (j:=16+i-2) (by rw[hlen];omega)
  have g16:=mE (b:=cG b (16+i)) (j:=16+i-16) (by rw[hlen];omega)
  have g7:=mE (b:=cG b (16+i)) (j:=16+i-7) (by rw[hlen];omega)
  simp only[HG,hl,ad,i15,i2,i16,i7,g15,g2,g16,g7,Y,t7,t18,t17,t19,XS,WR,wp (i:=16+i) (by omega)]
  rw[dy (by decide) (by rw[hlen];unfold aA;simp;omega)]
  have hs:cG b (16+(i+1))=cG b (16+i)++[xg (cG b (16+i)) (16+i)]:=by
   show cG b ((16+i)+1)=_;simp only[cG,aa,ak]
  simp only[Y,hs,xg,MA,Mz];rfl
 have hm:kk 4 (0:Int) (64:Int) (0:Int)=some ([]:List Int):=rfl;simp only[f276,hm,Y,aI,aJ]
abbrev i277:Shape:=⟨[],[],2⟩
abbrev X7:Shape:=⟨[bd 0 3000000],[bc 3000000 .u32 0 0],2⟩
noncomputable def f277(a:i277.J):Option X7.J:=
 some (((),()),([(1116352408:Int),(1899447441:Int),(3049323471:Int),(3921009573:Int),(961987163:Int),(1508970993:Int),(2453635748:Int),(2870763221:Int),(3624381080:Int),(310598401:Int),(607225278:Int),(1426881987:Int),(1925078388:Int),(2162078206:Int),(2614888103:Int),(3248222580:Int),(3835390401:Int),(4022224774:Int),(264347078:Int),(604807628:Int),(770255983:Int),(1249150122:Int),(1555081692:Int),(1996064986:Int),(2554220882:Int),(2821834349:Int),(2952996808:Int),(3210313671:Int),(3336571891:Int),(3584528711:Int),(113926993:Int),(338241895:Int),(666307205:Int),(773529912:Int),(1294757372:Int),(1396182291:Int),(1695183700:Int),(1986661051:Int),(2177026350:Int),(2456956037:Int),(2730485921:Int),(2820302411:Int),(3259730800:Int),(3345764771:Int),(3516065817:Int),(3600352804:Int),(4094571909:Int),(275423344:Int),(430227734:Int),(506948616:Int),(659060556:Int),(883997877:Int),(958139571:Int),(1322822218:Int),(1537002063:Int),(1747873779:Int),(1955562222:Int),(2024104815:Int),(2227730452:Int),(2361852424:Int),(2428436474:Int),(2756734187:Int),(3204031479:Int),(3329325298:Int)]:List Int),())
noncomputable def _q:aH:=aL af Tryz.f277 i277 X7 [] f277
theorem asm:aE O 277 _q:=aM g0 Tryz.func277 (by kernel_rfl) ag (fun y=>by kernel_rfl) fun a=>by kernel_rfl
end Go.Proofs
