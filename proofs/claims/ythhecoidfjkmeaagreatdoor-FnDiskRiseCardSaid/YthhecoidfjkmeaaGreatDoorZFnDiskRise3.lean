/- FnDiskRise: recovery is idempotent. (part 4 of 7: JkKTy, JkKSp, JkKOp, JkKBc, JkKEn, JkKF115, JkKF74, JkKF75, JkKF87, JkKF99, JkKPuA, JkKF73, JkKPuB, JkKFH271, JkKF244, JkKF209, JkKF212, JkKIt, JkKF151, JkKF100, JkKF102, JkKF140, JkKF88, JkKF192, JkK) Conditions: none beyond the statement. -/
import Derived.Test.YthhecoidfjkmeaaGreatDoorZFnDiskRise2
import Derived.Tactics
import Derived.Deep.RegionLaw
import Derived.Shelf.Abstract
import Derived.Test.YthhecoidfjkmeaaGreatDoorProg
import Derived.KernelRfl
import Derived.Lib.Builder
import Derived.Lib.UnsafeStr
import Derived.WalkKit
import Derived.Shelf.RegionOpenPlain
set_option linter.unusedSimpArgs false
set_option maxRecDepth 100000
set_option linter.unusedVariables false
namespace Go.Proofs
open Go.Jk
noncomputable abbrev O:Program:=Tryz.prog
noncomputable def axD:List (Nat×cu):=[
(2,.int .i64),
(3,.int .i64),
(4,.bool),
(5,.int .u8),
(6,.int .u8),
(7,.struct [(0,1),(1,1),(2,1),(3,1)] 4 [.d (.int .i64 0),.d (.int .i64 0),.d (.bool false),.d (.int .u8 0)] false),
(8,.struct [(0,1),(1,1),(2,1),(3,1)] 4 [.d (.int .i64 0),.d (.int .i64 0),.d (.bool false),.d (.int .u8 0)] false),
(9,.str),
(10,.str),
(11,.str),
(12,.int .u64),
(13,.struct [(0,1),(1,1)] 2 [.d (.str []),.d (.int .u64 0)] false),
(14,.struct [(0,1),(1,1)] 2 [.d (.str []),.d (.int .u64 0)] false),
(15,.ptr),
(16,.ptr),
(17,.ptr),
(18,.struct [(0,1)] 1 [.de (.pointer none)] false),
(19,.struct [(0,1)] 1 [.de (.pointer none)] false),
(20,.iface),
(21,.int .i32),
(22,.struct [(0,1),(1,1)] 2 [.d (.str []),.d (.str [])] false),
(23,.struct [(0,1),(1,1)] 2 [.d (.str []),.d (.str [])] false),
(26,.struct [(0,1),(1,1)] 2 [.d (.str []),.d (.str [])] false),
(29,.slice 115 .pack 80),
(30,.struct [(0,1)] 1 [.nil .pack] false),
(31,.struct [(0,1)] 1 [.nil .pack] false),
(34,.slice 66 .pack 80),
(35,.struct [(0,1)] 1 [.nil .pack] false),
(36,.struct [(0,1)] 1 [.nil .pack] false),
(41,.slice 120 .file 32),
(42,.struct [(0,1),(1,1),(2,2)] 4 [.nil .file,.nil .pack,.d (.str []),.d (.str [])] false),
(43,.struct [(0,1),(1,1),(2,2)] 4 [.nil .file,.nil .pack,.d (.str []),.d (.str [])] false),
(46,.slice 124 .file 32),
(47,.struct [(0,1),(1,1),(2,2)] 4 [.nil .file,.nil .pack,.d (.str []),.d (.str [])] false),
(48,.struct [(0,1),(1,1),(2,2)] 4 [.nil .file,.nil .pack,.d (.str []),.d (.str [])] false),
(52,.slice 5 .u8 1),
(63,.slice 133 .need 40),
(64,.slice 178 .entry 48),
(65,.struct [(0,1),(1,1),(2,1),(3,1)] 4 [.d (.str []),.d (.str []),.nil .need,.nil .entry] false),
(66,.struct [(0,1),(1,1),(2,1),(3,1)] 4 [.d (.str []),.d (.str []),.nil .need,.nil .entry] false),
(84,.ptr),
(89,.ptr),
(90,.struct [(0,1),(1,1)] 2 [.de (.pointer none),.nil .u8] false),
(91,.struct [(0,1),(1,1)] 2 [.de (.pointer none),.nil .u8] false),
(92,.iface),
(93,.iface),
(103,.slice 9 .str 16),
(109,.slice 3 .i64 8),
(112,.slice 209 .need 40),
(113,.slice 211 .entry 48),
(114,.struct [(0,1),(1,1),(2,1),(3,1)] 4 [.d (.str []),.d (.str []),.nil .need,.nil .entry] false),
(115,.struct [(0,1),(1,1),(2,1),(3,1)] 4 [.d (.str []),.d (.str []),.nil .need,.nil .entry] false),
(119,.struct [(0,1),(1,1)] 2 [.d (.str []),.d (.str [])] false),
(120,.struct [(0,1),(1,1)] 2 [.d (.str []),.d (.str [])] true),
(124,.struct [(0,1),(1,1)] 2 [.d (.str []),.d (.str [])] true),
(132,.struct [(0,1),(1,1),(2,1)] 3 [.d (.str []),.d (.int .i64 0),.d (.str [])] false),
(133,.struct [(0,1),(1,1),(2,1)] 3 [.d (.str []),.d (.int .i64 0),.d (.str [])] true),
(140,.struct [(0,1),(1,1)] 2 [.nil .u8,.d (.int .i64 0)] false),
(141,.struct [(0,1),(1,1)] 2 [.nil .u8,.d (.int .i64 0)] false),
(144,.ptr),
(153,.int .u32),
(154,.arr 153 .u32 8),
(155,.int .u64),
(157,.slice 153 .u32 4),
(164,.func),
(177,.struct [(0,1),(1,1),(2,1),(3,1)] 4 [.d (.str []),.d (.int .i64 0),.d (.int .i64 0),.d (.str [])] false),
(178,.struct [(0,1),(1,1),(2,1),(3,1)] 4 [.d (.str []),.d (.int .i64 0),.d (.int .i64 0),.d (.str [])] true),
(183,.slice 3 .i64 8),
(202,.arr 153 .u32 64),
(203,.int .u64),
(209,.struct [(0,1),(1,1),(2,1)] 3 [.d (.str []),.d (.int .i64 0),.d (.str [])] true),
(211,.struct [(0,1),(1,1),(2,1),(3,1)] 4 [.d (.str []),.d (.int .i64 0),.d (.int .i64 0),.d (.str [])] true),
(251,.arr 4 .bool 256),
(252,.arr 4 .bool 256),
(264,.ptr),
(271,.struct [(0,1),(1,1)] 2 [.d (.int .u8 0),.d (.int .u8 0)] false),
(272,.struct [(0,1),(1,1)] 2 [.d (.int .u8 0),.d (.int .u8 0)] false),
(277,.struct [(0,1),(1,1),(2,1),(3,1)] 4 [.de (.pointer none),.de (.pointer none),.de (.pointer none),.d (.str [])] false),
(278,.struct [(0,1),(1,1),(2,1),(3,1)] 4 [.de (.pointer none),.de (.pointer none),.de (.pointer none),.d (.str [])] false),
(282,.int .u8),
(283,.int .u8),
(285,.int .i32),
(286,.int .i32),
(287,.struct [(0,1),(1,1),(2,1),(3,1),(4,1),(5,1),(6,1),(7,1),(8,1),(9,1),(10,1)] 11 [.d (.int .u64 0),.d (.int .u64 0),.d (.int .u32 0),.d (.int .u8 0),.d (.int .u8 0),.d (.int .u8 0),.d (.int .u8 0),.de .nilFunc,.de (.pointer none),.d (.int .i32 0),.d (.int .i32 0)] false),
(288,.struct [(0,1),(1,1),(2,1),(3,1),(4,1),(5,1),(6,1),(7,1),(8,1),(9,1),(10,1)] 11 [.d (.int .u64 0),.d (.int .u64 0),.d (.int .u32 0),.d (.int .u8 0),.d (.int .u8 0),.d (.int .u8 0),.d (.int .u8 0),.de .nilFunc,.de (.pointer none),.d (.int .i32 0),.d (.int .i32 0)] false)]
noncomputable def tt:TypeId->cu:=Dq axD
noncomputable def af:Env:=⟨tt,[(198,266)],[230],[59],[112],[65],[(0,⟨.u32,i'⟩)]⟩
abbrev bQ(s:Shape)(t:List aR):=Option (Sum s.J (aH t))
theorem arc(s p:ByteArray)(k:Int)(w:World):Calls O 232 #[.string s,.string p,.int .i64 k] w fun e w'=>
  e=.returned (.func (.func 266) #[] #[.pointer (some ⟨w.heap.size+1,0,none⟩),.pointer (some ⟨w.heap.size,0,none⟩),.pointer (some ⟨w.heap.size+2,0,none⟩)])/\
  w'=((w.alloc (.cells #[.string s] 9)).alloc (.cells #[.string p] 9)).alloc (.cells #[.int .i64 k] 3):=by
 go_enter Tryz.func232,Tryz.ntmps232
 go_wp2
 go_ret
 exact⟨rfl,rfl⟩
theorem ard(s p:ByteArray)(w:World):Calls O 198 #[.string s,.string p] w fun e w'=>
  e=.returned (.func (.func 266) #[] #[.pointer (some ⟨w.heap.size+1,0,none⟩),.pointer (some ⟨w.heap.size,0,none⟩),.pointer (some ⟨w.heap.size+2,0,none⟩)])/\
  w'=((w.alloc (.cells #[.string s] 9)).alloc (.cells #[.string p] 9)).alloc (.cells #[.int .i64 0] 3):=by
 go_enter Tryz.func198,Tryz.ntmps198
 go_wp2_with (go_at_call 232;refine(arc _ _ _ _).mono ?_;rintro e w' ⟨rfl,rfl⟩)
 go_ret
 exact⟨rfl,rfl⟩
theorem atm:BT O 198 266:=fun a b w=>.inl ⟨enters_of Tryz.func198 (by kernel_rfl) rfl _ _,(ard a b w).mono fun e w' h=>by obtain⟨rfl,rfl⟩:=h;exact⟨9,3,rfl,rfl⟩⟩
theorem axS(w:World):Calls O 59 #[.slice none 0 0] w fun e w'=>e=.returned (.pointer (some ⟨w.heap.size,0,none⟩))/\w'=w.alloc (.cells #[.slice none 0 0,.int .i64 0] 141):=by
 go_enter Tryz.func59,Tryz.ntmps59
 go_wp2
 go_ret
 exact⟨rfl,rfl⟩
theorem axR(w:World)(a:Addr)(n c:Nat)(h:n<=2000):Calls O 59 #[.slice (some a) n c] w fun e w'=>e=.returned (.pointer (some ⟨w.heap.size,0,none⟩))/\w'=w.alloc (.cells #[.slice (some a) n c,.int .i64 0] 141):=by
 have h1:¬((n:Int)>2000):=by omega
 go_enter Tryz.func59,Tryz.ntmps59
 go_wp2
 go_ret
 exact⟨rfl,rfl⟩
theorem axT(w:World)(a:Addr)(n c:Nat)(h:2000<n)(hc:n<=c):Calls O 59 #[.slice (some a) n c] w fun e w'=>e=.returned (.pointer (some ⟨w.heap.size,0,none⟩))/\w'=w.alloc (.cells #[.slice (some a) 2000 c,.int .i64 0] 141):=by
 have h1:((n:Int)>2000):=by omega
 go_enter Tryz.func59,Tryz.ntmps59
 go_wp2
 go_ret
 exact⟨rfl,rfl⟩
theorem atS:CW O 59:=fun xs v w av hr=>.inl ⟨enters_of Tryz.func59 (by kernel_rfl) rfl _ _,by
 have fin:∀{v:Value} {u:Value},bU w av (.sl .u8 (xs.take 2000)) u->Calls O 59 #[v] w (fun e w'=>e=.returned (.pointer (some ⟨w.heap.size,0,none⟩))/\w'=w.alloc (.cells #[u,.int .i64 0] 141))->
   Calls O 59 #[v] w fun e w'=>match e,w' with
    |.returned v',w'=>∃u T,bU w av (.sl .u8 (xs.take 2000)) u/\v'=.pointer (some ⟨w.heap.size,0,none⟩)/\w'=w.alloc (.cells #[u,.int .i64 0] T)
    |_,_=>False:=fun hu hc=>hc.mono fun e w' h=>by obtain⟨rfl,rfl⟩:=h;exact⟨_,_,hu,rfl,rfl⟩
 cases hr with
 |nil=>exact fin (.nil .u8) (axS w)
 |sl t xs a cap cs n hn hcap hb hl hc hr=>
  by_cases h:2000<n
  ·refine fin (u:=.slice (some a) 2000 cap) ?_ (axT w a n cap h hcap);have hlen:(xs.take 2000).length=2000:=by simp only[List.length_take];omega
   have hf:flat .u8 (xs.take 2000)=(flat .u8 xs).take 2000:=by rw[np];rfl
   refine .sl .u8 (xs.take 2000) a cap (cs.take 2000) 2000 hlen.symm (by omega) (fun hx=>hb (fun e=>hx (by rw[e];rfl))) (by rw[hf,List.length_take,List.length_take,hl]) (fun j u hu=>?_) (fun j h1 h2=>?_)
   ·rw[List.getElem?_take] at hu;split at hu
    ·exact hc j u hu
    ·cases hu
   ·have h1':j<(flat .u8 xs).length:=by rw[hf,List.length_take] at h1;omega
    have h2':j<cs.length:=by rw[List.length_take] at h2;omega
    have e1:(flat .u8 (xs.take 2000))[j]=(flat .u8 xs)[j]:=by simp only[hf,List.getElem_take]
    have e2:(cs.take 2000)[j]=cs[j]:=List.getElem_take;rw[e1,e2];exact hr j h1' h2'
  ·refine fin (u:=.slice (some a) n cap) ?_ (axR w a n cap (by omega))
   rw[List.take_of_length_le (by omega)]
   exact .sl .u8 xs a cap cs n hn hcap hb hl hc hr⟩
set_option maxHeartbeats 1000000 in
theorem aqg(b:Nat)(w:World)(h0:w.cell? ⟨b,0,none⟩=some (.pointer (some ⟨b,0,none⟩))):
  Calls O 112 #[.pointer (some ⟨b,0,none⟩)] w fun e w'=>e=.returned (.tuple #[])/\w'=w:=by
 obtain⟨j,hj,_⟩:=Option.map_eq_some_iff.1 (show(O.info? 91).map (·.size)=some 2 by kernel_rfl)
 go_enter Tryz.func112,Tryz.ntmps112
 go_wp2
 rw[Lib.run_neq_ptr_same w _ (show O.underlying 89=some (.pointer 91) by kernel_rfl) hj]
 go_wp2
 go_end0
 exact⟨rfl,rfl⟩
set_option maxHeartbeats 1000000 in
theorem aot(b:Nat)(w:World)(h0:w.cell? ⟨b,0,none⟩=some (.pointer none))(hsh:w.shape? b=some (91,2))(hfz:w.frozen? ⟨b,0,none⟩=false):
  Calls O 112 #[.pointer (some ⟨b,0,none⟩)] w fun e w'=>e=.returned (.tuple #[])/\w'=w.setCell ⟨b,0,none⟩ (.pointer (some ⟨b,0,none⟩)):=by
 obtain⟨j,hj,hjs⟩:=Option.map_eq_some_iff.1 (show(O.info? 91).map (·.size)=some 2 by kernel_rfl)
 go_enter Tryz.func112,Tryz.ntmps112
 go_wp2
 rw[Lib.run_to_unsafe w ⟨b,0,none⟩ (show O.underlying 89=some (.pointer 91) by kernel_rfl) (show O.underlying 193=some .unsafePointer by kernel_rfl) hj (by rw[hjs];decide) hsh (Nat.zero_lt_succ 1)]
 simp only[Result.andThen];rw[Oper.upon_value]
 go_wp2
 rw[run_callFunc_extern Tryz.func164 (by kernel_rfl) (by kernel_rfl) (by kernel_rfl) (e:=Extern.AbiNoEscape.same) (by kernel_rfl)]
 rw[Lib.run_noEscape];simp only[Result.andThen];rw[Oper.upon_value]
 go_wp2
 rw[Lib.run_from_unsafe w ⟨b,0,none⟩ (show O.underlying 193=some .unsafePointer by kernel_rfl) (show O.underlying 89=some (.pointer 91) by kernel_rfl) hj hsh (by kernel_rfl)]
 simp only[Result.andThen];rw[Oper.upon_value]
 go_wp2
 go_end0
 exact⟨rfl,rfl⟩
theorem arY:CY O 112:=by
 intro b p v w hb hp;refine .inl ⟨enters_of Tryz.func112 (by kernel_rfl) rfl _ _,?_⟩
 rcases hp with rfl|rfl
 ·refine(aot b w (by rw[Lib.cell_of_heap hb];rfl) (by simp[World.shape?,hb];rfl) (by simp[World.frozen?,hb])).mono ?_
  rintro e w' ⟨rfl,rfl⟩;refine⟨rfl,?_⟩;rw[setCell_eq_setRow w b 0 _ _ _ _ hb];rfl
 ·refine(aqg b w (by rw[Lib.cell_of_heap hb];rfl)).mono ?_
  rintro e w' ⟨rfl,rfl⟩;exact⟨rfl,(setRow_self w' b _ _ _ hb).symm⟩
section
variable {P:Program}(w:World)
theorem OV:∀(xs:List Int) (a:Addr) (acc:ByteArray),(∀j x,xs[j]? =some x->w.cell? (a.add j)=some (.int .u8 x))->
  (loadBytes a acc xs.length).run P w=.ok ⟨acc.data++(strOf xs).toArray⟩ w
 |[],a,acc,_=>by simp[loadBytes,strOf]
 |x::l,a,acc,h=>by
  have h0:w.cell? a=some (.int .u8 x):=by
   have:=h 0 x rfl;simpa[Addr.add] using this
  have ih:=OV l (a.add 1) (acc.push (UInt8.ofNat x.toNat)) (fun j y hy=>by
   have:=h (j+1) y (by simpa using hy)
   have e:(a.add 1).add j=a.add (j+1):=by
    unfold Addr.add;by_cases hj:j=0
    ·subst hj;simp
    ·simp[hj];omega
   rw[e];exact this)
  have hx:(x.toNat).toUInt8=UInt8.ofNat x.toNat:=rfl;simp only[cY,loadBytes,Sem.run_bind,run_load,h0,Result.andThen,hx];rw[ih];congr 1
  apply ByteArray.ext;simp[ByteArray.push,strOf]
theorem aeN(pt it ty e:TypeId)(hp:P.underlying pt=some (.pointer e))(hc:P.cellsOf e=1)(g cells:Nat)(hsh:w.shape? g=some (e,cells))(l:List Int)(h0:l≠[])(hn:l.length<=cells)(h63:l.length<=9223372036854775807)
  (hcell:∀j x,l[j]? =some x->w.cell? ((⟨g,0,none⟩:Addr).add j)=some (.int .u8 x)):
  (Builtin.unsafeString_ #[pt,it] ty #[.pointer (some ⟨g,0,none⟩),.int .i64 l.length]).run P w=.ok (.string ⟨(strOf l).toArray⟩) (w.freeze ⟨g,0,none⟩ l.length):=by
 have hl:l.length≠0:=by simpa using h0
 have hlb:=OV (P:=P) w l ⟨g,0,none⟩ .empty hcell;have hlies:=Lib.liesAt_bytes (P:=P) hc (cells/P.cellsOf e) l.length (by rw[hc];simpa using hn)
 have h63':¬(9223372036854775807:Int)<(l.length:Int):=by omega
 have hmax:IntKind.i64.max=9223372036854775807:=rfl;have hneg:¬(l.length:Int)<0:=by omega
 change Sem.run P (bind (asInt (.int .i64 (l.length:Int))) _) w=_;simp[asInt,asIntOf,hmax,h63',hneg,hl,variablesAt,hsh,elemOf,run_underlying hp,hlies,hlb]
theorem agT(a:Addr)(n:Nat):(w.freeze a n).os=w.os/\(w.freeze a n).tape=w.tape/\(w.freeze a n).output=w.output/\(w.freeze a n).heap.size=w.heap.size/\
  (∀c,c≠a.block->(w.freeze a n).heap[c]? =w.heap[c]?)/\∀cur e fz,w.heap[a.block]? =some (.cells cur e fz)->∃fz',(w.freeze a n).heap[a.block]? =some (.cells cur e fz'):=by
 unfold World.freeze;split
 ·exact⟨rfl,rfl,rfl,rfl,fun _ _=>rfl,fun cur e fz h=>⟨fz,h⟩⟩
 ·refine⟨rfl,rfl,rfl,by simp,fun c hc=>?_,fun cur e fz h=>?_⟩
  ·simp only[Array.getElem?_modify];rw[if_neg (by omega)]
  ·simp only[Array.getElem?_modify,if_true,h,Option.map_some];exact⟨_,rfl⟩
end
abbrev ri(w:World)(v:Value)(xs:List Int)(e:Ending)(w':World):Prop:=e=.returned (.string ⟨(strOf xs).toArray⟩)/\w'.os=w.os/\w'.tape=w.tape/\w'.output=w.output/\w.heap.size<=w'.heap.size/\
   (∀c,c<w.heap.size->b0 v≠some c->w'.heap[c]? =w.heap[c]?)/\∀c cur e fz,b0 v=some c->w.heap[c]? =some (.cells cur e fz)->∃fz',w'.heap[c]? =some (.cells cur e fz')
set_option maxHeartbeats 2000000 in
theorem ar0(b:Nat)(p:Value)(T:TypeId)(w:World)(hbk:w.heap[b]? =some (.cells #[p,.slice none 0 0] T (0,0))):
  Calls O 65 #[.pointer (some ⟨b,0,none⟩)] w (ri w (.slice none 0 0) []):=by
 have hUS:∀W q,(Builtin.unsafeString_ #[144,3] 9 #[.pointer q,.int .i64 0]).run O W=.ok (.string .empty) W:=fun W q=>Lib.run_unsafeString_none W _ _ _ q
 have c1:w.drew.cell? ⟨b,1,none⟩=some (.slice none 0 0):=by
  have:w.drew.heap[b]? =some (.cells #[p,.slice none 0 0] T (0,0)):=hbk;rw[Lib.cell_of_heap this];rfl
 have mixed:O.follows .mixedOrders=true:=by kernel_rfl
 have hSD:(Builtin.unsafeSliceData_ #[52] 144 #[.slice none 0 0]).run O w.drew=.ok (.pointer none) w.drew:=rfl;go_enter Tryz.func65,Tryz.ntmps65
 go_wp2
 go_region_o
 all_goals(go_wp2;go_ret;exact⟨rfl,rfl,rfl,rfl,Nat.le_refl _,fun _ _ _=>rfl,fun c cur e fz h=>by cases h⟩)
set_option maxHeartbeats 2000000 in
theorem ame(b g:Nat)(p:Value)(T:TypeId)(cur:Array Value)(w:World)(hbk:w.heap[b]? =some (.cells #[p,.slice (some ⟨g,0,none⟩) 0 0] T (0,0)))(fz:Nat×Nat)(hg:w.heap[g]? =some (.cells cur 5 fz)):
  Calls O 65 #[.pointer (some ⟨b,0,none⟩)] w (ri w (.slice (some ⟨g,0,none⟩) 0 0) []):=by
 have hUS:∀W q,(Builtin.unsafeString_ #[144,3] 9 #[.pointer q,.int .i64 0]).run O W=.ok (.string .empty) W:=fun W q=>Lib.run_unsafeString_none W _ _ _ q
 have hlt:b<w.heap.size:=(Array.getElem?_eq_some_iff.1 hbk).1;have c1:w.drew.cell? ⟨b,1,none⟩=some (.slice (some ⟨g,0,none⟩) 0 0):=by
  have:w.drew.heap[b]? =some (.cells #[p,.slice (some ⟨g,0,none⟩) 0 0] T (0,0)):=hbk;rw[Lib.cell_of_heap this];rfl
 have mixed:O.follows .mixedOrders=true:=by kernel_rfl
 have t144:O.underlying 144=some (.pointer 5):=by kernel_rfl
 have hSD:(Builtin.unsafeSliceData_ #[52] 144 #[.slice (some ⟨g,0,none⟩) 0 0]).run O w.drew=.ok (.pointer (some ⟨w.drew.heap.size,0,none⟩)) (w.drew.alloc (.view ⟨g,0,none⟩ 5)):=
  Lib.run_unsafeSliceData_zero w.drew _ _ 5 t144 ⟨g,0,none⟩ 0 (5,cur.size) (by have hg':w.drew.heap[g]? =some (.cells cur 5 fz):=hg;simp[World.shape?,hg'])
 have c2:(w.drew.alloc (.view ⟨g,0,none⟩ 5)).cell? ⟨b,1,none⟩=some (.slice (some ⟨g,0,none⟩) 0 0):=by
  have:(w.drew.alloc (.view ⟨g,0,none⟩ 5)).heap[b]? =_:=(Lib.alloc_old w.drew _ b hlt).trans hbk;rw[Lib.cell_of_heap this];rfl
 have c3:(w.alloc (.view ⟨g,0,none⟩ 5)).drew.cell? ⟨b,1,none⟩=some (.slice (some ⟨g,0,none⟩) 0 0):=c2;have c0:w.cell? ⟨b,1,none⟩=some (.slice (some ⟨g,0,none⟩) 0 0):=c1;have fin:ri w (.slice (some ⟨g,0,none⟩) 0 0) [] (.returned (.string .empty)) (w.drew.alloc (.view ⟨g,0,none⟩ 5)):=by
  refine⟨rfl,rfl,rfl,rfl,by simp,fun c hc _=>Lib.alloc_old w.drew _ c hc,fun c cur' e fz' h h2=>?_⟩
  cases h;exact⟨fz',(Lib.alloc_old w.drew _ g (Array.getElem?_eq_some_iff.1 hg).1).trans h2⟩
 go_enter Tryz.func65,Tryz.ntmps65
 go_wp2
 go_region_o
 all_goals(go_wp2;go_ret;exact fin)
set_option maxHeartbeats 2000000 in
theorem aqd(b g cap:Nat)(p:Value)(T:TypeId)(w:World)(hc0:cap≠0)(hbk:w.heap[b]? =some (.cells #[p,.slice (some ⟨g,0,none⟩) 0 cap] T (0,0))):
  Calls O 65 #[.pointer (some ⟨b,0,none⟩)] w (ri w (.slice (some ⟨g,0,none⟩) 0 cap) []):=by
 have hUS:∀W q,(Builtin.unsafeString_ #[144,3] 9 #[.pointer q,.int .i64 0]).run O W=.ok (.string .empty) W:=fun W q=>Lib.run_unsafeString_none W _ _ _ q
 have c1:w.drew.cell? ⟨b,1,none⟩=some (.slice (some ⟨g,0,none⟩) 0 cap):=by
  have:w.drew.heap[b]? =some (.cells #[p,.slice (some ⟨g,0,none⟩) 0 cap] T (0,0)):=hbk;rw[Lib.cell_of_heap this];rfl
 have mixed:O.follows .mixedOrders=true:=by kernel_rfl
 have hSD:(Builtin.unsafeSliceData_ #[52] 144 #[.slice (some ⟨g,0,none⟩) 0 cap]).run O w.drew=.ok (.pointer (some ⟨g,0,none⟩)) w.drew:=
  Lib.run_unsafeSliceData_row _ _ _ _ _ _ hc0
 clear hc0;go_enter Tryz.func65,Tryz.ntmps65
 go_wp2
 go_region_o
 all_goals(go_wp2;go_ret;exact⟨rfl,rfl,rfl,rfl,Nat.le_refl _,fun _ _ _=>rfl,fun c cur e fz h h2=>⟨fz,h2⟩⟩)
set_option maxHeartbeats 2000000 in
theorem arZ(b g cap:Nat)(p:Value)(T:TypeId)(cur:Array Value)(fz:Nat×Nat)(xs:List Int)(w:World)(h0:xs≠[])(hbk:w.heap[b]? =some (.cells #[p,.slice (some ⟨g,0,none⟩) xs.length cap] T (0,0)))
  (hg:w.heap[g]? =some (.cells cur 5 fz)) (hnc:xs.length<=cap) (hcm:cap<=maxLen) (hcs:cur.size=cap) (htk:cur.toList.take xs.length=xs.map (Value.int .u8)):
  Calls O 65 #[.pointer (some ⟨b,0,none⟩)] w (ri w (.slice (some ⟨g,0,none⟩) xs.length cap) xs):=by
 have hl0:xs.length≠0:=by simpa using h0
 have c1:w.drew.cell? ⟨b,1,none⟩=some (.slice (some ⟨g,0,none⟩) xs.length cap):=by
  have:w.drew.heap[b]? =some (.cells #[p,.slice (some ⟨g,0,none⟩) xs.length cap] T (0,0)):=hbk;rw[Lib.cell_of_heap this];rfl
 have mixed:O.follows .mixedOrders=true:=by kernel_rfl
 have t144:O.underlying 144=some (.pointer 5):=by kernel_rfl
 have hg':w.drew.heap[g]? =some (.cells cur 5 fz):=hg;have hSD:(Builtin.unsafeSliceData_ #[52] 144 #[.slice (some ⟨g,0,none⟩) xs.length cap]).run O w.drew=.ok (.pointer (some ⟨g,0,none⟩)) w.drew:=
  Lib.run_unsafeSliceData_row _ _ _ _ _ _ (by omega)
 have hUS:(Builtin.unsafeString_ #[144,3] 9 #[.pointer (some ⟨g,0,none⟩),.int .i64 xs.length]).run O w.drew=.ok (.string ⟨(strOf xs).toArray⟩) (w.drew.freeze ⟨g,0,none⟩ xs.length):=by
  refine aeN w.drew 144 3 9 5 t144 (by kernel_rfl) g cur.size (by simp[World.shape?,hg']) xs h0 (by omega) (by unfold maxLen at hcm;omega) ?_
  intro j x hx;rw[hK,Nat.zero_add,cell_of_row w.drew g j cur 5 fz hg'];have hj:j<xs.length:=(List.getElem?_eq_some_iff.1 hx).1;have:=congrArg (fun l=>l[j]?) htk
  simp only[List.getElem?_take,List.getElem?_map,hx,Option.map_some,hj,if_true] at this;simpa using this
 have fin:ri w (.slice (some ⟨g,0,none⟩) xs.length cap) xs (.returned (.string ⟨(strOf xs).toArray⟩)) (w.drew.freeze ⟨g,0,none⟩ xs.length):=by
  obtain⟨f1,f2,f3,f4,f5,f6⟩:=agT w.drew ⟨g,0,none⟩ xs.length;refine⟨rfl,f1,f2,f3,Nat.le_of_eq f4.symm,fun c _ hc=>f5 c fun e=>hc (by rw[e];rfl),fun c cur' e fz' h h2=>?_⟩
  cases h;exact f6 cur' e fz' h2
 clear htk hg' hg hcs hcm hnc hl0 h0;go_enter Tryz.func65,Tryz.ntmps65
 go_wp2
 go_region_o
 all_goals(go_wp2;go_ret;exact fin)
theorem auK:Dg O 65:=by
 intro b p v T xs w hb hrow;refine .inl ⟨enters_of Tryz.func65 (by kernel_rfl) rfl _ _,?_⟩
 have key:Calls O 65 #[.pointer (some ⟨b,0,none⟩)] w (ri w v xs):=by
  rcases hrow.2 with⟨rfl,h0⟩|⟨g,cap,cur,fz,rfl,hu,hg,hnc,hcm,hcs,htk⟩
  ·have:xs=[]:=fO h0;subst this;exact ar0 b p T w hb
  ·by_cases h0:xs=[]
   ·subst h0;by_cases hc:cap=0
    ·subst hc;exact ame b g p T cur w hb fz hg
    ·exact aqd b g cap p T w hc hb
   ·exact arZ b g cap p T cur fz xs w h0 hb hg hnc hcm (by simpa using hcs) (by simpa using htk)
 refine key.mono fun e w' h=>?_
 obtain⟨rfl,h⟩:=h;exact⟨rfl,h⟩
theorem azi:DQ 0 .u32 i':=alR (by simp[lm]) fun w h=>h.1
theorem aCb:Xy O af:=⟨amx (S2 (by kernel_rfl)),by kernel_rfl,fun p h=>by
 simp only[af,bR,List.not_mem_nil,or_false] at h;subst h;exact atm,fun g h=>by
 simp only[af,bR,List.not_mem_nil,or_false] at h;subst h;exact atS,fun g h=>by
 simp only[af,bR,List.not_mem_nil,or_false] at h;subst h;exact arY,fun g h=>by
 simp only[af,bR,List.not_mem_nil,or_false] at h;subst h;exact auK,fun p h=>by
 simp only[af,bR,List.not_mem_nil,or_false] at h;subst h;exact azi⟩
theorem aY{L:a8}(h:DX O L):aT O (aZ af L):=aol aCb h
theorem g0:aT O (aZ af []):=aY ⟨⟩
abbrev TF:Shape:=⟨[am 0,aj 1],[],53⟩
abbrev Tj:List aR:=[(.norm,⟨[am 0,aj 1,ar 24],[],53⟩)]
noncomputable def BI(y:TF.J):Option (aH Tj):=
 bif(!(y.1.1==([]:B))) then
 bif(!(decide ((y.1.1.length:Int)>(9:Int)))) then
 bif(decide ((y.1.1.length:Int)>(1:Int))) then
(aS y.1.1 (0:Int)).bind fun a=>
 some ((y.1.1,y.1.2.1,((a.toNat:Int)==(48:Int)),()),())
else
 some ((y.1.1,y.1.2.1,false,()),())
else
 some ((y.1.1,y.1.2.1,true,()),())
else
 some ((y.1.1,y.1.2.1,true,()),())
theorem anG:aV O (ap (codeOf Tryz.f115) 1 12) (aX TF Tj BI):=cn g0 (by kernel_rfl) ag fun y=>by kernel_rfl
abbrev PZ:Shape:=⟨[am 0,aj 1,aj 6,aj 7,aj 26,aj 27],[],53⟩
abbrev PS:List aR:=[(.norm,⟨[am 0,aj 1,aj 6,aj 7,aj 26,aj 27,ar 39],[],53⟩)]
noncomputable def y7(y:PZ.J):Option (aH PS):=
(aS y.1.1 y.1.2.2.2.1).bind fun a=>
 bif(!(decide ((a.toNat:Int)<(48:Int)))) then
(aS y.1.1 y.1.2.2.2.1).bind fun b=>
 some ((y.1.1,y.1.2.1,y.1.2.2.1,y.1.2.2.2.1,y.1.2.2.2.2.1,y.1.2.2.2.2.2.1,(decide ((b.toNat:Int)>(57:Int))),()),())
else
 some ((y.1.1,y.1.2.1,y.1.2.2.1,y.1.2.2.2.1,y.1.2.2.2.2.1,y.1.2.2.2.2.2.1,true,()),())
theorem ahE:aV O (ap (dk (ap (codeOf Tryz.f115) 1 122)) 244 31332) (aX PZ PS y7):=cn g0 (by kernel_rfl) ag fun y=>by kernel_rfl
abbrev z8:Shape:=⟨[am 0,aj 1,aj 6,aj 26,aj 27],[],53⟩
abbrev G7:List aR:=[(.ret,⟨[aj 4,ar 5],[],53⟩),(.exit 0,⟨[aj 1,aj 6],[],53⟩)]
noncomputable def q3(y:z8.J):bQ z8 G7:=
 bif(decide (y.1.2.2.2.2.1<y.1.2.2.2.1)) then
(y7 ((y.1.1,y.1.2.1,y.1.2.2.1,y.1.2.2.2.2.1,y.1.2.2.2.1,y.1.2.2.2.2.1,()),())).bind fun a=>
 bif a.1.2.2.2.2.2.2.1 then
 some (.inr (.inl (((0:Int),false,()),())))
else
(aS a.1.1 a.1.2.2.2.1).bind fun b=>
 some (.inl ((a.1.1,a.1.2.1,(IntKind.i64.wrap ((IntKind.i64.wrap (a.1.2.2.1*(10:Int)))+(IntKind.i64.wrap (IntKind.u8.wrap ((b.toNat:Int)-(48:Int)))))),a.1.2.2.2.2.1,(IntKind.i64.wrap (a.1.2.2.2.2.2.1+(1:Int))),()),()))
else
 some (.inr (.inr ((y.1.2.1,y.1.2.2.1,()),())))
noncomputable def s5:z8.J->Option (aH G7):=bA q3
theorem aln:aV O (ap (codeOf Tryz.f115) 1 122) (aX z8 G7 s5):=bT g0 (by kernel_rfl) (a7 ahE ag) fun y=>by kernel_rfl
abbrev i115:Shape:=⟨[am 0,aj 1],[],53⟩
abbrev ZC:Shape:=⟨[aj 4,ar 5],[],53⟩
noncomputable def f115(a:i115.J):Option ZC.J:=
(BI ((a.1.1,a.1.2.1,()),())).bind fun b=>
 bif b.1.2.2.1 then
 some (((0:Int),false,()),())
else
(s5 ((b.1.1,b.1.2.1,(0:Int),(b.1.1.length:Int),(0:Int),()),())).bind fun c=>
(match c with
|.inl d=>
 some ((d.1.1,d.1.2.1,()),())
|.inr e=>
 bif(decide (e.1.2.1>e.1.1)) then
 some (((0:Int),false,()),())
else
 some ((e.1.2.1,true,()),()))
noncomputable def DN:aI:=aL af Tryz.f115 i115 ZC [] f115
theorem KZ:aF O 115 DN:=aM g0 Tryz.func115 (by kernel_rfl) (a7 anG (a7 aln ag)) (fun y=>by kernel_rfl) fun a=>by kernel_rfl
abbrev Sd:Shape:=⟨[am 0,aj 3,aj 4],[],47⟩
abbrev RV:List aR:=[(.norm,⟨[am 0,aj 3,aj 4,ar 24],[],47⟩)]
noncomputable def HD(y:Sd.J):Option (aH RV):=
(aS y.1.1 y.1.2.2.1).bind fun a=>
 bif(!(decide ((a.toNat:Int)<(48:Int)))) then
(aS y.1.1 y.1.2.2.1).bind fun b=>
 bif(!(decide ((b.toNat:Int)>(57:Int)))) then
 some ((y.1.1,y.1.2.1,y.1.2.2.1,(decide (y.1.2.2.1>=(6:Int))),()),())
else
 some ((y.1.1,y.1.2.1,y.1.2.2.1,true,()),())
else
 some ((y.1.1,y.1.2.1,y.1.2.2.1,true,()),())
theorem akR:aV O (ap (dk (ap (codeOf Tryz.f74) 1 58)) 116 3728) (aX Sd RV HD):=cn g0 (by kernel_rfl) ag fun y=>by kernel_rfl
abbrev B_:Shape:=⟨[am 0,aj 3,aj 4],[],47⟩
abbrev JM:List aR:=[(.ret,⟨[aj 2],[],47⟩),(.exit 0,⟨[am 0,aj 3],[],47⟩)]
noncomputable def Cz(y:B_.J):bQ B_ JM:=
 bif(decide (y.1.2.2.1<(y.1.1.length:Int))) then
(HD ((y.1.1,y.1.2.1,y.1.2.2.1,()),())).bind fun a=>
 bif a.1.2.2.2.1 then
 some (.inr (.inl ((((-1):Int),()),())))
else
(aS a.1.1 a.1.2.2.1).bind fun b=>
 some (.inl ((a.1.1,(IntKind.i64.wrap ((IntKind.i64.wrap (a.1.2.1*(10:Int)))+(IntKind.i64.wrap (IntKind.u8.wrap ((b.toNat:Int)-(48:Int)))))),(IntKind.i64.wrap (a.1.2.2.1+(1:Int))),()),()))
else
 some (.inr (.inr ((y.1.1,y.1.2.1,()),())))
noncomputable def J_:B_.J->Option (aH JM):=bA Cz
theorem apo:aV O (ap (codeOf Tryz.f74) 1 58) (aX B_ JM J_):=bT g0 (by kernel_rfl) (a7 akR ag) fun y=>by kernel_rfl
abbrev U5:Shape:=⟨[am 0,aj 3],[],47⟩
abbrev UP:List aR:=[(.norm,⟨[aj 3,ar 45],[],47⟩)]
noncomputable def Ki(y:U5.J):Option (aH UP):=
 bif(!((y.1.1.length:Int)==(0:Int))) then
 bif(decide ((y.1.1.length:Int)>(1:Int))) then
(aS y.1.1 (0:Int)).bind fun a=>
 some ((y.1.2.1,((a.toNat:Int)==(48:Int)),()),())
else
 some ((y.1.2.1,false,()),())
else
 some ((y.1.2.1,true,()),())
theorem apn:aV O (ap (codeOf Tryz.f74) 1 60) (aX U5 UP Ki):=cn g0 (by kernel_rfl) ag fun y=>by kernel_rfl
abbrev i74:Shape:=⟨[am 0],[],47⟩
abbrev abM:Shape:=⟨[aj 2],[],47⟩
noncomputable def f74(a:i74.J):Option abM.J:=
(J_ ((a.1.1,(0:Int),(0:Int),()),())).bind fun b=>
(match b with
|.inl c=>
 some ((c.1.1,()),())
|.inr d=>
(Ki ((d.1.1,d.1.2.1,()),())).bind fun e=>
 bif e.1.2.1 then
 some ((((-1):Int),()),())
else
 some ((e.1.1,()),()))
noncomputable def yd:aI:=aL af Tryz.f74 i74 abM [] f74
theorem D0:aF O 74 yd:=aM g0 Tryz.func74 (by kernel_rfl) (a7 apo (a7 apn ag)) (fun y=>by kernel_rfl) fun a=>by kernel_rfl
abbrev i75:Shape:=⟨[aj 0,aj 1,aj 2],[],15⟩
abbrev abL:Shape:=⟨[ar 6],[],15⟩
noncomputable def f75(a:i75.J):Option abL.J:=
 bif(decide (a.1.1>=a.1.2.1)) then
 some (((decide (a.1.1<=a.1.2.2.1)),()),())
else
 some ((false,()),())
noncomputable def pe:aI:=aL af Tryz.f75 i75 abL [] f75
theorem z75:aF O 75 pe:=aM g0 Tryz.func75 (by kernel_rfl) ag (fun y=>by kernel_rfl) fun a=>by kernel_rfl
noncomputable abbrev az5:a8:=[(75,pe)]
theorem EO:aT O (aZ af az5):=aY ⟨z75,⟨⟩⟩
abbrev Tq:Shape:=⟨[am 0,aj 3],[],42⟩
abbrev S6:List aR:=[(.norm,⟨[am 0,aj 3,ar 4],[],42⟩)]
noncomputable def Ji(y:Tq.J):Option (aH S6):=
(aS y.1.1 y.1.2.1).bind fun a=>
 bif(decide ((a.toNat:Int)>=(97:Int))) then
(aS y.1.1 y.1.2.1).bind fun b=>
 some ((y.1.1,y.1.2.1,(decide ((b.toNat:Int)<=(122:Int))),()),())
else
 some ((y.1.1,y.1.2.1,false,()),())
theorem amG:aV O (ap (dk (ap (codeOf Tryz.f87) 1 26)) 52 840) (aX Tq S6 Ji):=cn EO (by kernel_rfl) ag fun y=>by kernel_rfl
abbrev Sb:Shape:=⟨[am 0,aj 3,ar 4],[],42⟩
abbrev RT:List aR:=[(.norm,⟨[am 0,aj 3,ar 38],[],42⟩)]
noncomputable def HC(y:Sb.J):Option (aH RT):=
 bif(!y.1.2.2.1) then
 bif(!(y.1.2.1==(0:Int))) then
(aS y.1.1 y.1.2.1).bind fun a=>
 bif(!(decide ((a.toNat:Int)<(48:Int)))) then
(aS y.1.1 y.1.2.1).bind fun b=>
 some ((y.1.1,y.1.2.1,(decide ((b.toNat:Int)>(57:Int))),()),())
else
 some ((y.1.1,y.1.2.1,true,()),())
else
 some ((y.1.1,y.1.2.1,true,()),())
else
 some ((y.1.1,y.1.2.1,false,()),())
theorem akP:aV O (ap (dk (ap (codeOf Tryz.f87) 1 26)) 52 1682) (aX Sb RT HC):=cn EO (by kernel_rfl) ag fun y=>by kernel_rfl
abbrev B9:Shape:=⟨[am 0,aj 3],[],42⟩
abbrev JL:List aR:=[(.ret,⟨[ar 2],[],42⟩),(.exit 0,⟨[am 0],[],42⟩)]
noncomputable def Cy(y:B9.J):bQ B9 JL:=
 bif(decide (y.1.2.1<(y.1.1.length:Int))) then
(Ji ((y.1.1,y.1.2.1,()),())).bind fun a=>
(HC ((a.1.1,a.1.2.1,a.1.2.2.1,()),())).bind fun b=>
 bif b.1.2.2.1 then
 some (.inr (.inl ((false,()),())))
else
 some (.inl ((b.1.1,(IntKind.i64.wrap (b.1.2.1+(1:Int))),()),()))
else
 some (.inr (.inr ((y.1.1,()),())))
noncomputable def J9:B9.J->Option (aH JL):=bA Cy
theorem apk:aV O (ap (codeOf Tryz.f87) 1 26) (aX B9 JL J9):=bT EO (by kernel_rfl) (a7 amG (a7 akP ag)) fun y=>by kernel_rfl
abbrev i87:Shape:=⟨[am 0],[],42⟩
abbrev abF:Shape:=⟨[ar 2],[],42⟩
noncomputable def f87(a:i87.J):Option abF.J:=
(J9 ((a.1.1,(0:Int),()),())).bind fun b=>
(match b with
|.inl c=>
 some ((c.1.1,()),())
|.inr d=>
(f75 (((d.1.1.length:Int),(1:Int),(10:Int),()),())).bind fun e=>
 some ((e.1.1,()),()))
noncomputable def NK:aI:=aL af Tryz.f87 i87 abF [] f87
theorem z87:aF O 87 NK:=aM EO Tryz.func87 (by kernel_rfl) (a7 apk ag) (fun y=>by kernel_rfl) fun a=>by kernel_rfl
abbrev U1:Shape:=⟨[am 0],[],49⟩
abbrev UL:List aR:=[(.norm,⟨[am 0,ar 20],[],49⟩)]
noncomputable def Kh(y:U1.J):Option (aH UL):=
 bif(!(y.1.1==([]:B))) then
 bif(!(decide ((y.1.1.length:Int)>(10:Int)))) then
(aS y.1.1 (0:Int)).bind fun a=>
 bif(!(decide ((a.toNat:Int)<(97:Int)))) then
(aS y.1.1 (0:Int)).bind fun b=>
 some ((y.1.1,(decide ((b.toNat:Int)>(122:Int))),()),())
else
 some ((y.1.1,true,()),())
else
 some ((y.1.1,true,()),())
else
 some ((y.1.1,true,()),())
theorem apd:aV O (ap (codeOf Tryz.f99) 1 12) (aX U1 UL Kh):=cn g0 (by kernel_rfl) ag fun y=>by kernel_rfl
abbrev Sa:Shape:=⟨[am 0,aj 3,aj 22,aj 23],[],49⟩
abbrev RS:List aR:=[(.norm,⟨[am 0,aj 22,aj 23,ar 47],[],49⟩)]
noncomputable def HB(y:Sa.J):Option (aH RS):=
(aS y.1.1 y.1.2.1).bind fun a=>
 bif(!(decide ((a.toNat:Int)<(97:Int)))) then
(aS y.1.1 y.1.2.1).bind fun b=>
 bif(decide ((b.toNat:Int)>(122:Int))) then
(aS y.1.1 y.1.2.1).bind fun c=>
 bif(!(decide ((c.toNat:Int)<(48:Int)))) then
(aS y.1.1 y.1.2.1).bind fun d=>
 some ((y.1.1,y.1.2.2.1,y.1.2.2.2.1,(decide ((d.toNat:Int)>(57:Int))),()),())
else
 some ((y.1.1,y.1.2.2.1,y.1.2.2.2.1,true,()),())
else
 some ((y.1.1,y.1.2.2.1,y.1.2.2.2.1,false,()),())
else
(aS y.1.1 y.1.2.1).bind fun e=>
 bif(!(decide ((e.toNat:Int)<(48:Int)))) then
(aS y.1.1 y.1.2.1).bind fun f=>
 some ((y.1.1,y.1.2.2.1,y.1.2.2.2.1,(decide ((f.toNat:Int)>(57:Int))),()),())
else
 some ((y.1.1,y.1.2.2.1,y.1.2.2.2.1,true,()),())
theorem akO:aV O (ap (dk (ap (codeOf Tryz.f99) 1 58)) 116 7474) (aX Sa RS HB):=cn g0 (by kernel_rfl) ag fun y=>by kernel_rfl
abbrev B3:Shape:=⟨[am 0,aj 22,aj 23],[],49⟩
abbrev JG:List aR:=[(.ret,⟨[ar 2],[],49⟩),(.exit 0,⟨[],[],49⟩)]
noncomputable def Cs(y:B3.J):bQ B3 JG:=
 bif(decide (y.1.2.2.1<y.1.2.1)) then
(HB ((y.1.1,y.1.2.2.1,y.1.2.1,y.1.2.2.1,()),())).bind fun a=>
 bif a.1.2.2.2.1 then
 some (.inr (.inl ((false,()),())))
else
 some (.inl ((a.1.1,a.1.2.1,(IntKind.i64.wrap (a.1.2.2.1+(1:Int))),()),()))
else
 some (.inr (.inr ((),())))
noncomputable def J3:B3.J->Option (aH JG):=bA Cs
theorem apc:aV O (ap (codeOf Tryz.f99) 1 58) (aX B3 JG J3):=bT g0 (by kernel_rfl) (a7 akO ag) fun y=>by kernel_rfl
abbrev i99:Shape:=⟨[am 0],[],49⟩
abbrev abz:Shape:=⟨[ar 2],[],49⟩
noncomputable def f99(a:i99.J):Option abz.J:=
(Kh ((a.1.1,()),())).bind fun b=>
 bif b.1.2.1 then
 some ((false,()),())
else
(J3 ((b.1.1,(b.1.1.length:Int),(0:Int),()),())).bind fun c=>
(match c with
|.inl d=>
 some ((d.1.1,()),())
|.inr e=>
 some ((true,()),()))
noncomputable def NI:aI:=aL af Tryz.f99 i99 abz [] f99
theorem abh:aF O 99 NI:=aM g0 Tryz.func99 (by kernel_rfl) (a7 apd (a7 apc ag)) (fun y=>by kernel_rfl) fun a=>by kernel_rfl
def jn(b:UInt8):Bool:=decide ((97:Int)<=(b.toNat:Int))&&decide ((b.toNat:Int)<=122)
def cR(b:UInt8):Bool:=decide ((48:Int)<=(b.toNat:Int))&&decide ((b.toNat:Int)<=57)
def within(n df hi:Int):Bool:=decide (df<=n)&&decide (n<=hi)
theorem oF(a):f75 a=some ((within a.1.1 a.1.2.1 a.1.2.2.1,()),()):=by
 simp only[f75,within,ge_iff_le];cases decide (a.1.2.1<=a.1.1)<;>rfl
def iV(s:B):Bool:=allI (fun i x=>jn x||(!(i==0)&&cR x)) 0 s&&within s.length 1 10
theorem RI(a)(hs:aA a.1.1.length):f87 a=some ((iV a.1.1,()),()):=by
 obtain⟨⟨s,u⟩,b8⟩:=a;have key:J9 ((s,((0:Int),())),())=some (bif allI (fun i x=>jn x||(!(i==0)&&cR x)) 0 s then .inr ((s,()),()) else .inl ((false,()),())):=by
  refine gw Cy s (fun i=>((s,((i:Int),())),())) _ _ _ (fun i x hx=>?_) ?_
  ·have hi:=da hx;have hw:aA i:=by unfold aA at*;simp only at hs;omega
   simp only[Cy,ct hi,ad,Ji,HC,cd,hx,Y,b9 hw,ge_iff_le,_f];unfold jn cR;by_cases h1:(97:Int)<=(x.toNat:Int)<;>by_cases h2:(x.toNat:Int)<=122<;>cases h3:(i==0)<;>by_cases aD:(48:Int)<=(x.toNat:Int)<;>by_cases bn:(x.toNat:Int)<=57<;>simp[h1,h2,h3,aD,bn,b9 hw,cd,hx,_f,pa,n8,-beq_iff_eq]
  ·simp only[Cy,dK,ak]
 simp only[f87,key,Y];unfold iV;cases allI (fun i x=>jn x||(!(i==0)&&cR x)) 0 s with
 |false=>rfl
 |true=>simp only[ad,oF,Y,Bool.true_and]
theorem Pw(b:UInt8)(r:B):iV (b::r)=(jn b&&(b::r).all (fun x=>jn x||cR x)&&decide (((b::r).length:Int)<=10)):=by
 unfold iV;simp only[allI,List.all_cons];have:allI (fun i x=>jn x||(!(i==0)&&cR x)) (0+1) r=r.all (fun x=>jn x||cR x):=by
  have hz:∀(i:Nat) (x:UInt8),1<=i->x∈r->(jn x||(!(i==0)&&cR x))=(jn x||cR x):=by
   intro i x hi _;have:(i==0)=false:=by simp;omega
   rw[this];simp
  rw[Qh (mT:=fun _ x=>jn x||cR x) r 1 hz,hF]
 rw[this];unfold within;have:decide ((1:Int)<=((b::r).length:Int))=true:=by simp only[cY,dW];omega
 rw[this];cases jn b<;>simp
theorem O2(a)(hs:aA a.1.1.length):f99 a=some ((iV a.1.1,()),()):=by
 obtain⟨⟨s,u⟩,b8⟩:=a;have key:J3 ((s,((s.length:Int),((0:Int),()))),())=some (bif allI (fun _ x=>jn x||cR x) 0 s then .inr ((),()) else .inl ((false,()),())):=by
  refine gw Cs s (fun i=>((s,((s.length:Int),((i:Int),()))),())) _ _ _ (fun i x hx=>?_) ?_
  ·have hi:=da hx;have hw:aA i:=by unfold aA at*;simp only at hs;omega
   simp only[Cs,ct hi,ad,HB,cd,hx,Y,b9 hw,pa,n8];unfold jn cR;by_cases h1:(97:Int)<=(x.toNat:Int)<;>by_cases h2:(x.toNat:Int)<=122<;>by_cases aD:(48:Int)<=(x.toNat:Int)<;>by_cases bn:(x.toNat:Int)<=57<;>simp[h1,h2,aD,bn,b9 hw,cd,hx,pa,n8]
  ·simp only[Cs,dK,ak]
 rw[hF] at key;cases s with
 |nil=>rfl
 |cons b r=>
  have hb:aS (b::r) 0=some b:=rfl;simp only[f99,Kh,hb,Y,pa,n8,Pw];have he:((b::r)==([]:B))=false:=rfl;have hl:jn b=(decide ((97:Int)<=(b.toNat:Int))&&decide ((b.toNat:Int)<=122)):=rfl;rw[he,hl];by_cases h1:(97:Int)<=(b.toNat:Int)<;>by_cases h2:(b.toNat:Int)<=122<;>by_cases h3:((b::r).length:Int)<=10<;>
   simp only[h1,h2,h3,decide_true,decide_false,bu,bK,ad,ak,Y,Bool.true_and,Bool.and_true,Bool.false_and,Bool.and_false]
  rw[key];generalize List.all (b::r) (fun x=>jn x||cR x)=q
  cases q<;>rfl
def en(n:Int)(b:UInt8):Int:=n*10+((b.toNat:Int)-48)
def db(s:B):Int:=s.foldl en 0
def hN:B->Bool
 |b::_::_=>(b.toNat:Int)==48
 |_=>false
def fR(s:B):Bool:=s.all cR&&!(s==[])&&!hN s&&decide (s.length<=6)&&decide (db s<=999)
theorem jf{b:UInt8}(h:cR b=true):48<=(b.toNat:Int)/\(b.toNat:Int)<=57:=by
 simpa[cR] using h
theorem aoT{b:UInt8}(h:cR b=true):IntKind.u8.wrap ((b.toNat:Int)-48)=(b.toNat:Int)-48:=by
 have:=jf h;rw[IntKind.wrap_u8];omega
theorem yR{n:Int}{b:UInt8}{i:Nat}(h:cR b=true)(h0:0<=n)(h1:n<10^i):0<=en n b/\en n b<10^(i+1):=by
 have:=jf h;unfold en;rw[Int.pow_succ];omega
theorem anN{i:Nat}(h:i<=9):(10:Int)^i<=1000000000:=by
 have:i=0\/i=1\/i=2\/i=3\/i=4\/i=5\/i=6\/i=7\/i=8\/i=9:=by omega
 rcases this with rfl|rfl|rfl|rfl|rfl|rfl|rfl|rfl|rfl|rfl<;>decide
theorem F_{n:Int}{b:UInt8}{i:Nat}(h:cR b=true)(hi:i<=8)(h0:0<=n)(h1:n<10^i):
  IntKind.i64.wrap (IntKind.i64.wrap (n*10)+IntKind.i64.wrap (IntKind.u8.wrap ((b.toNat:Int)-48)))=en n b:=by
 have aa:=jf h;have hp:=anN (show i<=9 by omega)
 rw[aoT h,c5 (n:=n*10) (by omega) (by omega),c5 (n:=(b.toNat:Int)-48) (by omega) (by omega),c5 (by omega) (by omega)]
 rfl
theorem HV(a)(hs:aA a.1.1.length):f74 a=some ((bif a.1.1.all cR&&decide (a.1.1.length<=6)&&!(a.1.1==[])&&!hN a.1.1 then db a.1.1 else-1,()),()):=by
 obtain⟨⟨s,u⟩,b8⟩:=a;have key:J_ ((s,((0:Int),((0:Int),()))),())=some (bif allI (fun i x=>cR x&&decide (i<6)) 0 s then .inr ((s,(db s,())),()) else .inl ((((-1):Int),()),())):=by
  have:=mv Cz s (fun i n=>((s,(n,((i:Int),()))),())) (fun i x n=>some (bif cR x&&decide (i<6) then .inl (en n x) else .inr (.inl ((((-1):Int),()),())))) (fun n=>.inr ((s,(n,())),()))
   (fun i n=>0<=n/\n<10^i/\(i<=6)) (0:Int) ⟨by decide,by decide,by decide⟩ (fun i x n hx dH=>?_) (fun n _=>?_)
  ·exact this.trans (by rw[yV];rfl)
  ·have hi:=da hx;have hw:aA i:=by unfold aA at*;simp only at hs;omega
   obtain⟨h0,h1,cl⟩:=dH;refine⟨?_,fun aQ an=>?_⟩
   ·simp only[Cz,ct hi,ad,HD,cd,hx,Y,b9 hw,pa,n8,Nz];have at7:decide ((6:Int)<=(i:Int))=!decide (i<6):=by by_cases h:i<6<;>simp[h]<;>omega
    rw[at7];cases aa:cR x with
    |false=>
     unfold cR at aa;by_cases aD:(48:Int)<=(x.toNat:Int)<;>by_cases bn:(x.toNat:Int)<=57<;>simp[aD,bn] at aa ⊢
    |true=>
     obtain⟨aD,bn⟩:=jf aa;cases aC:decide (i<6) with
     |false=>simp[aD,bn]
     |true=>
      have aC:i<6:=by simpa using aC
      have:=F_ (i:=i) aa (by omega) h0 h1
      simp only[aD,bn,decide_true,bu,bK,ad,ak,Y,cd,hx,this,b9 hw,Bool.and_true,Option.map_some]
   ·simp only[bH] at an;cases aC:(cR x&&decide (i<6)) with
    |false=>rw[aC] at an;cases an
    |true=>
     rw[aC] at an;simp only[ad,Sum.inl.injEq] at an;simp only[bz,dW] at aC;subst an;have:=yR aC.1 h0 h1;exact⟨this.1,this.2,by omega⟩
  ·simp only[Cz,dK,ak]
 rw[HP,hF,aoz] at key;simp only[f74,key,Y];cases s with
 |nil=>rfl
 |cons b r=>
  have hb:aS (b::r) 0=some b:=rfl;have he:((b::r)==([]:B))=false:=rfl;have hz:(((b::r).length:Int)==0)=false:=by simp only[cY,beq_eq_false_iff_ne,ne_eq];omega
  have hl:decide (((b::r).length:Int)>1)=!(r==[]):=by cases r<;>simp;omega
  simp only[List.isEmpty_cons,Bool.false_or,Nat.zero_add,he,bK,Bool.and_true];cases aC:(List.all (b::r) cR&&decide ((b::r).length<=6)) with
  |false=>rfl
  |true=>
   simp only[ad,Ki,hz,bK,hl,hb,Y,Bool.true_and];cases r with
   |nil=>rfl
   |cons c r=>
    have:((c::r)==([]:B))=false:=rfl;rw[this];simp only[bK,ad,Y,hN];cases ((b.toNat:Int)==48)<;>rfl
theorem aig:∀(r:B) (n:Int) (k:Nat),r.all cR=true->0<=n->10^k<=n->10^(k+r.length)<=r.foldl en n:=by
 intro r;induction r with
 |nil=>intro n k _ _ h;exact h
 |cons b r ih=>
  intro n k aa h0 h;simp only[List.all_cons,bz] at aa;have hb:=jf aa.1;have hs:10^(k+1)<=en n b:=by unfold en;rw[Int.pow_succ];omega
  have:=ih (en n b) (k+1) aa.2 (by unfold en;omega) hs
  simp only[cY,List.foldl_cons];rw[show k+(r.length+1)=k+1+r.length by omega]
  exact this
theorem als{n:Nat}(h:6<=n):(1000000:Int)<=10^n:=by
 induction n with
 |zero=>omega
 |succ n ih=>
  by_cases cl:6<=n
  ·have:=ih cl;rw[Int.pow_succ];omega
  ·have:n=5:=by omega
   subst this;decide
theorem amr{s:B}(aa:s.all cR=true)(hl:hN s=false)(iB:7<=s.length):999<db s:=by
 match s,iB with
 |b::c::r,iB=>
  simp only[hN,beq_eq_false_iff_ne,ne_eq] at hl;simp only[List.all_cons,bz] at aa;have hb:=jf aa.1;have hc:=jf aa.2.1;have hs:(10:Int)^0<=en 0 b:=by unfold en;simp;omega
  have:=aig (c::r) (en 0 b) 0 (by simp[aa.2.1,aa.2.2]) (by unfold en;omega) hs
  have h2:(1000000:Int)<=10^(0+(c::r).length):=als (by simp only[cY] at iB ⊢;omega)
  show 999<List.foldl en (en 0 b) (c::r);omega
theorem aj9(a)(hs:aA a.1.1.length)(iA:a.1.2.1=999):f115 a=some ((bif fR a.1.1 then db a.1.1 else 0,(fR a.1.1,())),()):=by
 obtain⟨⟨s,m,u⟩,b8⟩:=a;obtain rfl:m=999:=iA;have key:s.length<=9->s5 ((s,((999:Int),((0:Int),((s.length:Int),((0:Int),()))))),())=some (bif allI (fun i x=>cR x) 0 s then .inr (((999:Int),(db s,())),()) else .inl (((0:Int),(false,())),())):=by
  intro iA;have:=mv q3 s (fun i n=>((s,((999:Int),(n,((s.length:Int),((i:Int),()))))),())) (fun i x n=>some (bif cR x then .inl (en n x) else .inr (.inl (((0:Int),(false,())),())))) (fun n=>.inr (((999:Int),(n,())),()))
   (fun i n=>0<=n/\n<10^i/\(i<=9)) (0:Int) ⟨by decide,by decide,by decide⟩ (fun i x n hx dH=>?_) (fun n _=>?_)
  ·exact this.trans (by rw[yV];rfl)
  ·have hi:=da hx;have hw:aA i:=by unfold aA at*;simp only at hs;omega
   obtain⟨h0,h1,cl⟩:=dH;refine⟨?_,fun aQ an=>?_⟩
   ·simp only[q3,ct hi,ad,y7,cd,hx,Y,b9 hw,pa,n8,Nz];cases aa:cR x with
    |false=>
     unfold cR at aa;by_cases aD:(48:Int)<=(x.toNat:Int)<;>by_cases bn:(x.toNat:Int)<=57<;>simp[aD,bn] at aa ⊢
    |true=>
     obtain⟨aD,bn⟩:=jf aa;have:=F_ (i:=i) aa (by omega) h0 h1
     simp only[aD,bn,decide_true,bu,bK,ad,ak,Y,cd,hx,this,b9 hw,Bool.and_true,Option.map_some]
   ·simp only[bH] at an;cases aC:cR x with
    |false=>rw[aC] at an;cases an
    |true=>
     rw[aC] at an;simp only[ad,Sum.inl.injEq] at an;subst an;have:=yR aC h0 h1;exact⟨this.1,this.2,by omega⟩
  ·simp only[q3,dK,ak]
 rw[hF] at key;cases s with
 |nil=>rfl
 |cons b r=>
  have hb:aS (b::r) 0=some b:=rfl;have he:((b::r)==([]:B))=false:=rfl;have hl:decide (((b::r).length:Int)>1)=!(r==[]):=by cases r<;>simp;omega
  have iA:decide (((b::r).length:Int)>9)=!decide ((b::r).length<=9):=by by_cases h:(b::r).length<=9<;>simp only[h,decide_true,decide_false,bu,bK,dW,decide_eq_false_iff_not]<;>omega
  have ru:hN (b::r)=(!(r==[])&&(b.toNat:Int)==48):=by cases r<;>rfl
  simp only[f115,BI,he,hl,iA,bK,ad,Bool.not_not,hb,Y];have fin:(b::r).length<=9->hN (b::r)=false->((s5 ((b::r,((999:Int),((0:Int),(((b::r).length:Int),((0:Int),()))))),())).bind fun K7=>match K7 with
    |.inl w6=>some ((w6.1.1,(w6.1.2.1,())),())
    |.inr rE=>bif decide (rE.1.2.1>rE.1.1) then some (((0:Int),(false,())),()) else some ((rE.1.2.1,(true,())),()))=
    some ((bif fR (b::r) then db (b::r) else 0,(fR (b::r),())),()):=by
   intro iA kk;rw[key iA];unfold fR;rw[he,kk];cases aa:List.all (b::r) cR with
   |false=>rfl
   |true=>
    simp only[ad,Y,bK,Bool.true_and,n8];by_cases cl:(b::r).length<=6
    ·simp only[cl,decide_true,Bool.true_and];cases decide (db (b::r)<=999)<;>rfl
    ·have:=amr aa kk (by omega)
     have:decide (db (b::r)<=999)=false:=by simp only[decide_eq_false_iff_not];omega
     rw[this];simp only[cl,decide_false,Bool.false_and];rfl
  by_cases aC:(b::r).length<=9
  ·simp only[aC,decide_true,ad];cases hr:(r==[]) with
   |true=>
    simp only[bu,ak,Y];exact fin aC (by rw[ru,hr];rfl)
   |false=>
    simp only[bK,ad,Y];cases qy:((b.toNat:Int)==48) with
    |true=>
     have:fR (b::r)=false:=by unfold fR;rw[ru,hr,qy];simp
     rw[this];rfl
    |false=>
     simp only[ak];exact fin aC (by rw[ru,hr,qy];rfl)
  ·have:fR (b::r)=false:=by
    unfold fR;have:decide ((b::r).length<=6)=false:=by simp only[decide_eq_false_iff_not];omega
    rw[this];simp
   simp only[aC,decide_false,ak,Y,ad,this]
abbrev Au:Shape:=⟨[am 0,(1,.aq (.d (.int .u8))),aj 2,bd 7 3000448,aj 8,aj 9],[bc 3000448 .str 7 0],43⟩
abbrev vP:List aR:=[(.exit 0,⟨[am 0,bd 7 3000448,aj 8],[bc 3000448 .str 7 0],43⟩)]
noncomputable def pJ(y:Au.J):bQ Au vP:=
 bif(decide (y.1.2.2.2.2.2.1<(y.1.1.length:Int))) then
 bif(decide ((y.2.1.length:Int)<y.1.2.2.1)) then
(aS y.1.1 y.1.2.2.2.2.2.1).bind fun a=>
 bif((a.toNat:Int)==y.1.2.1) then
(bq y.1.1 y.1.2.2.2.2.1 y.1.2.2.2.2.2.1).bind fun b=>
(cm 16 y.2.1 ([b]:List B)).bind fun c=>
 some (.inl ((y.1.1,y.1.2.1,y.1.2.2.1,(),(IntKind.i64.wrap (y.1.2.2.2.2.2.1+(1:Int))),(IntKind.i64.wrap (y.1.2.2.2.2.2.1+(1:Int))),()),c,()))
else
 some (.inl ((y.1.1,y.1.2.1,y.1.2.2.1,(),y.1.2.2.2.2.1,(IntKind.i64.wrap (y.1.2.2.2.2.2.1+(1:Int))),()),y.2.1,()))
else
 some (.inr ((y.1.1,(),y.1.2.2.2.2.1,()),y.2.1,()))
else
 some (.inr ((y.1.1,(),y.1.2.2.2.2.1,()),y.2.1,()))
noncomputable def vY:Au.J->Option (aH vP):=bA pJ
theorem amI:aV O (ap (codeOf Tryz.f73) 1 122) (aX Au vP vY):=bT g0 (by kernel_rfl) ag fun y=>by kernel_rfl
abbrev i73:Shape:=⟨[am 0,(1,.aq (.d (.int .u8))),aj 2],[],43⟩
abbrev abN:Shape:=⟨[bd 6 3000384],[bc 3000384 .str 6 0],43⟩
noncomputable def f73(a:i73.J):Option abN.J:=
(vY ((a.1.1,a.1.2.1,a.1.2.2.1,(),(0:Int),(0:Int),()),([]:List B),())).bind fun b=>
(bq b.1.1 b.1.2.2.1 (b.1.1.length:Int)).bind fun c=>
(cm 16 b.2.1 ([c]:List B)).bind fun d=>
 some (((),()),d,())
noncomputable def pf:aI:=aL af Tryz.f73 i73 abN [] f73
theorem ql:aF O 73 pf:=aM g0 Tryz.func73 (by kernel_rfl) (a7 amI ag) (fun y=>by kernel_rfl) fun a=>by kernel_rfl
abbrev cw(n:Nat):Prop:=n<=2097152
theorem px(c:UInt8):∀s,bO c s≠[]:=by
 intro s;induction s with
 |nil=>intro h;cases h
 |cons b r ih=>
  unfold bO;cases b==c with
  |true=>intro h;cases h
  |false=>
   simp only[ak];split<;>intro h<;>cases h
def uo(acc:B):List B->List B
 |x::xs=>(acc++x)::xs
 |[]=>[acc]
theorem SH{L:List B}(h:L≠[]):uo [] L=L:=by
 cases L with
 |nil=>exact absurd rfl h
 |cons x xs=>rfl
theorem om(c:UInt8):∀s,(bO c s).length<=s.length+1:=by
 intro s;induction s with
 |nil=>exact Nat.le_refl _
 |cons b r ih=>
  unfold bO;cases b==c with
  |true=>simpa using ih
  |false=>
   simp only[ak];split
   ·rename_i x xs h;rw[h] at ih;simp at ih ⊢;omega
   ·simp
theorem qL(c:UInt8):∀s x,x∈bO c s->x.length<=s.length:=by
 intro s;induction s with
 |nil=>intro x h;simp[bO] at h;simp[h]
 |cons b r ih=>
  intro x h;unfold bO at h;cases hb:b==c with
  |true=>
   rw[hb,ad] at h;rcases bR.1 h with rfl|h
   ·simp
   ·have:=ih x h;simp;omega
  |false=>
   rw[hb,ak] at h;split at h
   ·rename_i y bm hy;rcases bR.1 h with rfl|h
    ·have:=ih y (by rw[hy];exact cj);simp;omega
    ·have:=ih x (by rw[hy];exact ci _ h);simp;omega
   ·simp at h;simp[h]
theorem al8{bx:Type}(c:UInt8)(s:B)(fin:Nat×List B->bx):∀(r:B) (k:Nat) (q:Nat×List B),r=s.drop k->k<=s.length->q.1<=k->
  ∃fT,fh (fun i x (q:Nat×List B)=>some (.inl (bif(x.toNat:Int)==(c.toNat:Int) then(i+1,q.2++[(s.take i).drop q.1]) else q):Sum (Nat×List B) bx)) fin k r q=some (fin fT)/\fT.1<=s.length/\
   fT.2++[s.drop fT.1]=q.2++uo ((s.take k).drop q.1) (bO c r):=by
 intro r;induction r with
 |nil=>
  intro k q hr hk aC;have hkl:k=s.length:=by
   have:=congrArg List.length hr;simp at this;omega
  refine⟨q,rfl,by omega,?_⟩
  rw[hkl,List.take_length];simp[bO,uo]
 |cons x r ih=>
  intro k q hr hk aC;have hlt:k<s.length:=by
   have:=congrArg List.length hr;simp at this;omega
  have dq:r=s.drop (k+1):=by
   have:=congrArg List.tail hr;simpa using this
  have hx:s[k]? =some x:=by
   have:=congrArg (fun l=>l[0]?) hr
   simpa using this.symm
  simp only[fh];cases hc:((x.toNat:Int)==(c.toNat:Int)) with
  |true=>
   have MQ:x=c:=by
    simp only[beq_iff_eq] at hc;exact UInt8.toNat_inj.1 (by omega)
   simp only[ad];obtain⟨fT,h1,h2,h3⟩:=ih (k+1) (k+1,q.2++[(s.take k).drop q.1]) dq hlt (Nat.le_refl _);refine⟨fT,h1,h2,h3.trans ?_⟩;have e1:(s.take (k+1)).drop (k+1)=[]:=List.drop_eq_nil_of_le (by rw[List.length_take];omega)
   simp only[e1];rw[SH (px c r)];subst MQ;have:bO x (x::r)=[]::bO x r:=by simp[bO]
   rw[this];simp[uo]
  |false=>
   have MQ:(x==c)=false:=by
    cases h:x==c with
    |false=>rfl
    |true=>rw[eq_of_beq h] at hc;simp at hc
   simp only[ak];obtain⟨fT,h1,h2,h3⟩:=ih (k+1) q dq hlt (by omega)
   refine⟨fT,h1,h2,h3.trans ?_⟩;have e1:(s.take (k+1)).drop q.1=(s.take k).drop q.1++[x]:=by
    rw[List.take_add_one,hx];rw[List.drop_append_of_le_length (by rw[List.length_take];omega)]
    rfl
   rw[e1];have:bO c (x::r)=uo [x] (bO c r):=by
    rw[bO,MQ,ak];cases h:bO c r with
    |nil=>rfl
    |cons y bm=>rfl
   rw[this];cases h:bO c r with
   |nil=>exact absurd h (px c r)
   |cons y bm=>simp[uo]
theorem vN(c:UInt8)(a)(hs:cw a.1.1.length)(hb:a.1.2.1=(c.toNat:Int))(hm:a.1.2.2.1=((a.1.1.length+1:Nat):Int)):f73 a=some (((),()),(bO c a.1.1,())):=by
 obtain⟨⟨s,b,m,u⟩,b8⟩:=a;obtain rfl:b=(c.toNat:Int):=hb;obtain rfl:m=((s.length+1:Nat):Int):=hm;have hs:s.length<=2097152:=hs;have key:=mv pJ s (fun i (q:Nat×List B)=>((s,((c.toNat:Int),(((s.length+1:Nat):Int),((),((q.1:Int),((i:Int),())))))),(q.2,())))
  (fun i x (q:Nat×List B)=>some (.inl (bif(x.toNat:Int)==(c.toNat:Int) then(i+1,q.2++[(s.take i).drop q.1]) else q))) (fun q=>(((s,((),((q.1:Int),()))),(q.2,())):aH vP))
  (fun i q=>q.1<=i/\q.2.length<=i) (0,[]) ⟨Nat.le_refl _,Nat.le_refl _⟩ (fun i x q hx dH=>?_) (fun q dH=>?_)
 ·obtain⟨fT,h1,h2,h3⟩:=al8 c s (fun q=>(((s,((),((q.1:Int),()))),(q.2,())):aH vP)) s 0 (0,[]) rfl (Nat.zero_le _) (Nat.le_refl _)
  have key:vY ((s,((c.toNat:Int),(((s.length+1:Nat):Int),((),((0:Int),((0:Int),())))))),(([]:List B),()))=some ((s,((),((fT.1:Int),()))),(fT.2,())):=key.trans h1;simp only[f73,key,Y];rw[fC h2];have h3:fT.2++[s.drop fT.1]=bO c s:=by
   rw[h3];simp only[List.take_zero,List.drop_nil,List.nil_append];exact SH (px c s)
  have hl:fT.2.length<=s.length+1:=by
   have:=congrArg List.length h3;have aD:=om c s;simp only[dx,cY,List.length_nil] at this;omega
  simp only[Y];rw[dw (by decide) (by unfold aA;simp only[cY,List.length_nil];omega)]
  simp only[Y,h3]
 ·have hi:=da hx;have hw:aA i:=by unfold aA;omega
  obtain⟨h0,h1⟩:=dH;have hlt:decide ((q.2.length:Int)<((s.length+1:Nat):Int))=true:=ct (by omega)
  refine⟨?_,fun fT o5=>?_⟩
  ·simp only[pJ,ct hi,ad,hlt,cd,hx,Y];cases hc:((x.toNat:Int)==(c.toNat:Int)) with
   |true=>
    simp only[ad];rw[qV h0 (by omega)]
    simp only[Y];rw[dw (by decide) (by unfold aA;simp only[cY,List.length_nil];omega)]
    simp only[Y,Option.map_some,b9 hw]
   |false=>simp only[ak,Option.map_some,b9 hw]
  ·simp only[bH,Sum.inl.injEq] at o5;subst o5;cases (x.toNat:Int)==(c.toNat:Int) with
   |true=>simp only[ad,dx,cY,List.length_nil];omega
   |false=>simp only[ak];omega
 ·simp only[pJ,dK,ak]
noncomputable def Xr:aI:=Gy
theorem aq0:aF O 271 Xr:=af0 (fn:=Tryz.f271) (by kernel_rfl) (by kernel_rfl) (by kernel_rfl) (by kernel_rfl) (by kernel_rfl)
noncomputable abbrev au2:a8:=[(271,Xr)]
theorem awo:aT O (aZ af au2):=aY ⟨aq0,⟨⟩⟩
abbrev i244:Shape:=⟨[am 0,(1,.aq (.d (.int .u8)))],[],8⟩
abbrev Yf:Shape:=⟨[aj 4],[],8⟩
noncomputable def f244(a:i244.J):Option Yf.J:=
(some ()).bind fun gu=>
 some (((Lib.indexByte a.1.1 (a.1.2.1).toNat.toUInt8),()),())
noncomputable def _z:aI:=aL af Tryz.f244 i244 Yf [] f244
theorem asz:aF O 244 _z:=aM awo Tryz.func244 (by kernel_rfl) ag (fun y=>by kernel_rfl) fun a=>by kernel_rfl
noncomputable abbrev avh:a8:=[(244,_z)]
theorem aaQ:aT O (aZ af avh):=aY ⟨asz,⟨⟩⟩
abbrev Tx:Shape:=⟨[am 0,am 1,aj 5],[],143⟩
abbrev Tb:List aR:=[(.norm,⟨[am 0,am 1,aj 5,ar 16],[],143⟩)]
noncomputable def Bq(y:Tx.J):Option (aH Tb):=
 bif(!(y.1.2.2.1==(0:Int))) then
 some ((y.1.1,y.1.2.1,y.1.2.2.1,(y.1.2.1==y.1.1),()),())
else
 some ((y.1.1,y.1.2.1,y.1.2.2.1,true,()),())
theorem am3:aV O (ap (codeOf Tryz.f209) 1 56) (aX Tx Tb Bq):=cn aaQ (by kernel_rfl) ag fun y=>by kernel_rfl
abbrev i209:Shape:=⟨[am 0,am 1],[],143⟩
abbrev Yz:Shape:=⟨[aj 4],[],143⟩
noncomputable def f209(a:i209.J):Option Yz.J:=
(Bq ((a.1.1,a.1.2.1,(a.1.2.1.length:Int),()),())).bind fun sz=>
 bif sz.1.2.2.2.1 then
 some (((0:Int),()),())
else
 bif(sz.1.2.2.1==(1:Int)) then
(aS sz.1.2.1 (0:Int)).bind fun N6=>
(f244 ((sz.1.1,(N6.toNat:Int),()),())).bind fun r8=>
 some ((r8.1.1,()),())
else
 bif(decide (sz.1.2.2.1>=(sz.1.1.length:Int))) then
 some ((((-1):Int),()),())
else
 none
noncomputable def LW:aI:=aL af Tryz.f209 i209 Yz [] f209
theorem XF:aF O 209 LW:=aM aaQ Tryz.func209 (by kernel_rfl) (a7 am3 ag) (fun y=>by kernel_rfl) fun a=>by kernel_rfl
noncomputable abbrev avf:a8:=[(209,LW)]
theorem awx:aT O (aZ af avf):=aY ⟨XF,⟨⟩⟩
abbrev i212:Shape:=⟨[am 0,am 1],[],8⟩
abbrev Yx:Shape:=⟨[aj 4],[],8⟩
noncomputable def f212(a:i212.J):Option Yx.J:=
(f209 ((a.1.1,a.1.2.1,()),())).bind fun b=>
 some ((b.1.1,()),())
noncomputable def DK:aI:=aL af Tryz.f212 i212 Yx [] f212
theorem z212:aF O 212 DK:=aM awx Tryz.func212 (by kernel_rfl) ag (fun y=>by kernel_rfl) fun a=>by kernel_rfl
noncomputable abbrev LK:Ctx:=aZ af [(212,DK)]
noncomputable def DG:Code:=codeOf Tryz.f266
noncomputable def oR:Code:=dk (ap DG 1 12)
noncomputable def C2(p j:Nat):Oper:=(opsOf (ap oR 24 p)).getD j default
noncomputable def KI(j:Nat):Oper:=(opsOf (ap DG 1 7)).getD j default
theorem apU(c:UInt8)(r:B):f212 ((r,([c],())),())=some ((Lib.indexByte r c,()),()):=by
 have h0:aS ([c]:B) (0:Int)=some c:=rfl;have h1:((([c]:B).length:Int)==0)=false:=rfl;have h2:((([c]:B).length:Int)==1)=true:=rfl;have h3:((c.toNat:Int)).toNat.toUInt8=c:=by simp
 simp only[f212,f209,Bq,f244,h0,h1,h2,h3,bK,ad,ak,Y,Option.bind];by_cases h:(([c]:B)==r)=true
 ·have:r=[c]:=(by simpa using h:[c]=r).symm
  subst this;simp[Lib.indexByte]<;>rfl
 ·simp[h]<;>rfl
theorem arX(c:UInt8)(r:B):exec (hI LK []) (ap oR 24 96) 96 (nW 52 c r) (Dx (hI LK []) 52 7 8 (ap oR 24 194) (ap oR 24 390) 194 390)=
 (f212 ((r,([c],())),())).bind fun q=>bif decide (q.1.1<0) then some (.inl (lx 52 c r)) else(bq r 0 (IntKind.i64.wrap (q.1.1+0))).bind fun x=>some (.inr ((q.1.1,x),lx 52 c r)):=by kernel_rfl
theorem W_:wJ O 266:=
 an0 (C:=hI LK []) (aY ⟨z212,⟨⟩⟩) (fn:=Tryz.f266) (k:=52) (A:=ap DG 1 2) (r5:=ap oR 24 96) (c6:=ap oR 24 194) (r7:=ap oR 24 390) (r9:=ap oR 24 783)
  (o0:=C2 1564 0) (o1:=C2 1564 1) (o2:=C2 1564 2) (o3:=C2 1564 3) (q0:=KI 0) (q1:=KI 1) (q2:=KI 2) (pA:=2) (p5:=96) (p6:=194) (p7:=390) (p9:=783) (t7:=7) (t8:=8) (a1:=39) (a2:=40)
  (t41:=41) (t42:=42) (u1:=49) (u2:=50) (ty:=#[9]) (D9:=#[9])
  {ZR:=(by kernel_rfl),nt:=(by kernel_rfl),cU:=(by decide),fH:=(by kernel_rfl),ac8:=enters_of Tryz.func266 (by kernel_rfl) rfl,body:=⟨tQ (ap oR 24 1564),tQ (ap DG 1 7),(by kernel_rfl)⟩,yt:=(by kernel_rfl),wr:=(by kernel_rfl),
   aY:=⟨(by kernel_rfl),(by kernel_rfl),(by kernel_rfl),(by kernel_rfl),(by kernel_rfl),(by kernel_rfl),(by kernel_rfl)⟩,ad8:=(by kernel_rfl),ad7:=(by kernel_rfl),d2:=(by kernel_rfl),Li:=(by decide),c2:=(by kernel_rfl),d5:=(by kernel_rfl),
   k7:=⟨lJ (by kernel_rfl) ag,lJ (by kernel_rfl) ag,lJ (by kernel_rfl) ag,lJ (by kernel_rfl) ag,lJ (by kernel_rfl) ag⟩,
   er:=fun c r=>(by kernel_rfl),hB:=fun c r=>(arX c r).trans (by rw[apU];rfl),bp:=fun c r i x v=>(by kernel_rfl),h3:=fun c r b=>(by kernel_rfl),ac5:=(by kernel_rfl),yA:=fun c r i=>(by kernel_rfl),EZ:=fun c r v=>(by kernel_rfl)}
  (by kernel_rfl) (by decide)
noncomputable abbrev avK:a8:=[(115,DN)]
theorem Mj:aT O (aZ af avK):=aY ⟨KZ,⟨⟩⟩
abbrev Q1:Shape:=⟨[ax 2 2 0,ax 3 3 0,ax 4 4 0,aj 6,ar 7],[bv 5000128 .i64 2 0,aw 2 [.own 5000128],aw 3 [mn],bv 5000256 .i64 4 0,aw 4 [.own 5000256]],28⟩
abbrev QH:List aR:=[(.norm,⟨[ax 2 2 0,ax 3 3 0,ax 4 4 0,aj 6,ar 22],[bv 5000128 .i64 2 0,aw 2 [.own 5000128],aw 3 [mn],bv 5000256 .i64 4 0,aw 4 [.own 5000256]],28⟩)]
noncomputable def GC(y:Q1.J):Option (aH QH):=
 bif(!(!y.1.2.2.2.2.1)) then
 some (((),(),(),y.1.2.2.2.1,((y.2.2.2.2.1.length:Int)==(4:Int)),()),y.2.1,((),()),(y.2.2.2.1.1,()),y.2.2.2.2.1,((),()),())
else
 some (((),(),(),y.1.2.2.2.1,true,()),y.2.1,((),()),(y.2.2.2.1.1,()),y.2.2.2.2.1,((),()),())
theorem aje:aV O (ap (kx (ap (codeOf Tryz.f151) 1 58)) 117 1876) (aX Q1 QH GC):=cn Mj (by kernel_rfl) ag fun y=>by kernel_rfl
abbrev AX:Shape:=⟨[ax 2 2 0,ax 3 3 0,ax 4 4 0],[bv 5000128 .i64 2 0,aw 2 [.own 5000128],aw 3 [mn],bv 5000256 .i64 4 0,aw 4 [.own 5000256]],28⟩
abbrev Il:List aR:=[(.norm,⟨[ax 2 2 0,ax 3 3 0,ax 4 4 0],[bv 5000128 .i64 2 0,aw 2 [.own 5000128],aw 3 [mn],bv 5000256 .i64 4 0,aw 4 [.own 5000256]],28⟩),(.ret,⟨[ax 2 2 0,ax 3 3 0],[bv 5000128 .i64 2 0,aw 2 [.own 5000128],aw 3 [mn]],28⟩)]
noncomputable def tk(x:B)(y:AX.J):bQ AX Il:=
(f115 ((x,(999:Int),()),())).bind fun a=>
(GC (((),(),(),a.1.1,a.1.2.1,()),y.2.1,((),()),(y.2.2.2.1.1,()),y.2.2.2.2.1,((),()),())).bind fun b=>
 bif b.1.2.2.2.2.1 then
 some (.inr (.inr (((),(),()),([]:List Int),((),()),(false,()),())))
else
(cm 8 b.2.2.2.2.1 ([b.1.2.2.2.1]:List Int)).bind fun c=>
 some (.inl (((),(),(),()),b.2.1,((),()),(b.2.2.2.1.1,()),c,((),()),()))
noncomputable def v8(y:AX.J):Option (aH Il):=
 some (.inl (((),(),(),()),y.2.1,((),()),(y.2.2.2.1.1,()),y.2.2.2.2.1,((),()),()))
theorem anq:aV O (ap (codeOf Tryz.f151) 1 58) (s3 266 9 AX Il tk v8):=Pv (fj:=10) Mj W_ (by kernel_rfl) (a7 aje ag) (by kernel_rfl) (fun x y=>by kernel_rfl) fun y=>by kernel_rfl
abbrev i151:Shape:=⟨[am 0],[],28⟩
abbrev Za:Shape:=⟨[ax 2 2 0,ax 3 3 0],[bv 5000128 .i64 2 0,aw 2 [.own 5000128],aw 3 [mn]],28⟩
noncomputable def f151(a:i151.J):Option Za.J:=
(bif Nat.ble a.1.1.length kZ then iZ tk v8 (bO (46:UInt8) a.1.1) (((),(),(),()),([]:List Int),((),()),(false,()),([]:List Int),((),()),()) else none).bind fun b=>
(match b with
|.inl c=>
 some (((),(),()),c.2.2.2.2.1,((),()),(true,()),())
|.inr d=>
 some (((),(),()),d.2.1,((),()),(d.2.2.2.1.1,()),()))
noncomputable def L5:aI:=aL af Tryz.f151 i151 Za [] f151
theorem XJ:aF O 151 L5:=aM Mj Tryz.func151 (by kernel_rfl) (a7 anq ag) (fun y=>by kernel_rfl) fun a=>by kernel_rfl
noncomputable abbrev awh:a8:=[(151,L5)]
theorem awT:aT O (aZ af awh):=aY ⟨XJ,⟨⟩⟩
abbrev i100:Shape:=⟨[am 0],[],11⟩
abbrev ZL:Shape:=⟨[ar 2],[],11⟩
noncomputable def f100(a:i100.J):Option ZL.J:=
(f151 ((a.1.1,()),())).bind fun b=>
 some ((b.2.2.2.1.1,()),())
noncomputable def DO:aI:=aL af Tryz.f100 i100 ZL [] f100
theorem K0:aF O 100 DO:=aM awT Tryz.func100 (by kernel_rfl) ag (fun y=>by kernel_rfl) fun a=>by kernel_rfl
noncomputable abbrev awg:a8:=[(99,NI),(100,DO)]
theorem abd:aT O (aZ af awg):=aY ⟨abh,K0,⟨⟩⟩
abbrev Sp:Shape:=⟨[ax 1 1 0,aj 8],[aw 1 [ah,ba,ah]],21⟩
abbrev R8:List aR:=[(.norm,⟨[ax 1 1 0,ar 14],[aw 1 [ah,ba,ah]],21⟩)]
noncomputable def HJ(y:Sp.J):Option (aH R8):=
 bif(y.1.2.1==(1:Int)) then
 some (((),(y.1.2.1==(1:Int)),()),(y.2.1.1,y.2.1.2.1,y.2.1.2.2.1,()),())
else
 bif(y.1.2.1==(2:Int)) then
 some (((),(y.1.2.1==(2:Int)),()),(y.2.1.1,y.2.1.2.1,y.2.1.2.2.1,()),())
else
 some (((),(y.1.2.1==(3:Int)),()),(y.2.1.1,y.2.1.2.1,y.2.1.2.2.1,()),())
theorem alo:aV O (ap (codeOf Tryz.f102) 1 470) (aX Sp R8 HJ):=cn abd (by kernel_rfl) ag fun y=>by kernel_rfl
abbrev i102:Shape:=⟨[ck 0 [ah,ba,ah]],[],21⟩
abbrev ZK:Shape:=⟨[ar 2],[],21⟩
noncomputable def f102(a:i102.J):Option ZK.J:=
(f99 ((a.1.1.1,()),())).bind fun b=>
 bif(!b.1.1) then
 some ((false,()),())
else
 bif(a.1.1.2.1==(0:Int)) then
 some (((a.1.1.2.2.1==([]:B)),()),())
else
(HJ (((),a.1.1.2.1,()),(a.1.1.1,a.1.1.2.1,a.1.1.2.2.1,()),())).bind fun c=>
 bif c.1.2.1 then
(f100 ((c.2.1.2.2.1,()),())).bind fun d=>
 some ((d.1.1,()),())
else
 some ((false,()),())
noncomputable def xr:aI:=aL af Tryz.f102 i102 ZK [] f102
theorem Do:aF O 102 xr:=aM abd Tryz.func102 (by kernel_rfl) (a7 alo ag) (fun y=>by kernel_rfl) fun a=>by kernel_rfl
noncomputable abbrev avR:a8:=[(73,pf),(74,yd),(75,pe)]
theorem aa1:aT O (aZ af avR):=aY ⟨ql,D0,z75,⟨⟩⟩
abbrev zY:Shape:=⟨[bd 4 3000256,bd 5 3000320,aj 6],[bc 3000256 .str 4 0,bc 3000320 .i64 5 0],37⟩
abbrev qU:List aR:=[(.ret,⟨[bd 2 3000128,ar 3],[bc 3000128 .i64 2 0],37⟩),(.exit 0,⟨[bd 4 3000256,bd 5 3000320],[bc 3000256 .str 4 0,bc 3000320 .i64 5 0],37⟩)]
noncomputable def Ao(y:zY.J):bQ zY qU:=
 bif(decide (y.1.2.2.1<(y.2.1.length:Int))) then
(bf y.2.1.length y.1.2.2.1).bind fun a=>
(y.2.1[a]?).bind fun b=>
(f74 ((b,()),())).bind fun c=>
(f75 ((c.1.1,(0:Int),(999:Int),()),())).bind fun d=>
 bif(!d.1.1) then
 some (.inr (.inl (((),false,()),y.2.2.1,())))
else
(cm 8 y.2.2.1 ([c.1.1]:List Int)).bind fun e=>
 some (.inl (((),(),(IntKind.i64.wrap (y.1.2.2.1+(1:Int))),()),y.2.1,e,()))
else
 some (.inr (.inr (((),(),()),y.2.1,y.2.2.1,())))
noncomputable def Hs:zY.J->Option (aH qU):=bA Ao
theorem alg:aV O (ap (codeOf Tryz.f140) 1 122) (aX zY qU Hs):=bT aa1 (by kernel_rfl) ag fun y=>by kernel_rfl
abbrev i140:Shape:=⟨[am 0],[],37⟩
abbrev Zk:Shape:=⟨[bd 2 3000128,ar 3],[bc 3000128 .i64 2 0],37⟩
noncomputable def f140(a:i140.J):Option Zk.J:=
(f73 ((a.1.1,(46:Int),(IntKind.i64.wrap ((a.1.1.length:Int)+(1:Int))),()),())).bind fun b=>
(Hs (((),(),(0:Int),()),b.2.1,([]:List Int),())).bind fun c=>
(match c with
|.inl d=>
 some (((),d.1.2.1,()),d.2.1,())
|.inr e=>
 some (((),(decide ((e.2.1.length:Int)<=(4:Int))),()),e.2.2.1,()))
noncomputable def L9:aI:=aL af Tryz.f140 i140 Zk [] f140
theorem XL:aF O 140 L9:=aM aa1 Tryz.func140 (by kernel_rfl) (a7 alg ag) (fun y=>by kernel_rfl) fun a=>by kernel_rfl
noncomputable abbrev az4:a8:=[(140,L9)]
theorem aAP:aT O (aZ af az4):=aY ⟨XL,⟨⟩⟩
abbrev i88:Shape:=⟨[am 0],[],11⟩
abbrev abE:Shape:=⟨[ar 2],[],11⟩
noncomputable def f88(a:i88.J):Option abE.J:=
(f140 ((a.1.1,()),())).bind fun b=>
 some ((b.1.2.1,()),())
noncomputable def NJ:aI:=aL af Tryz.f88 i88 abE [] f88
theorem abi:aF O 88 NJ:=aM aAP Tryz.func88 (by kernel_rfl) ag (fun y=>by kernel_rfl) fun a=>by kernel_rfl
noncomputable abbrev avo:a8:=[(75,pe),(87,NK),(88,NJ)]
theorem awA:aT O (aZ af avo):=aY ⟨z75,z87,abi,⟨⟩⟩
abbrev i192:Shape:=⟨[ck 0 [ah,ba,ah]],[],26⟩
abbrev YJ:Shape:=⟨[ar 2],[],26⟩
noncomputable def f192(a:i192.J):Option YJ.J:=
(f87 ((a.1.1.1,()),())).bind fun b=>
 bif b.1.1 then
 bif(a.1.1.2.1==(0:Int)) then
 bif(!(a.1.1.2.2.1==([]:B))) then
(f75 ((a.1.1.2.1,(1:Int),(3:Int),()),())).bind fun c=>
 bif c.1.1 then
(f88 ((a.1.1.2.2.1,()),())).bind fun d=>
 some ((d.1.1,()),())
else
 some ((false,()),())
else
 some ((true,()),())
else
(f75 ((a.1.1.2.1,(1:Int),(3:Int),()),())).bind fun e=>
 bif e.1.1 then
(f88 ((a.1.1.2.2.1,()),())).bind fun f=>
 some ((f.1.1,()),())
else
 some ((false,()),())
else
 some ((false,()),())
noncomputable def L0:aI:=aL af Tryz.f192 i192 YJ [] f192
theorem XH:aF O 192 L0:=aM awA Tryz.func192 (by kernel_rfl) ag (fun y=>by kernel_rfl) fun a=>by kernel_rfl
theorem PM:∀(r:B) (n:Int),r.all cR=true->0<=n->0<=r.foldl en n:=by
 intro r;induction r with
 |nil=>intro n _ h;exact h
 |cons b r ih=>
  intro n aa h;simp only[List.all_cons,bz] at aa;have hb:=jf aa.1;exact ih _ aa.2 (by unfold en;omega)
def iF(s:B):List B:=bO 46 s
def eE(s:B):Bool:=(iF s).all fR&&decide ((iF s).length<=4)
def ii(s:B):List Int:=(iF s).map db
theorem agG(x:B):within (bif x.all cR&&decide (x.length<=6)&&!(x==[])&&!hN x then db x else-1) 0 999=fR x:=by
 unfold fR within;cases h1:x.all cR with
 |false=>simp
 |true=>
  have:=PM x 0 h1 (Int.le_refl _);have hv:decide ((0:Int)<=db x)=true:=by simp only[dW];exact this
  cases h2:decide (x.length<=6)<;>cases h3:(x==[])<;>cases aD:hN x<;>simp[hv]
theorem FW(a)(hs:cw a.1.1.length):∃out,f140 a=some (((),(eE a.1.1,())),(out,()))/\(eE a.1.1=true->out=ii a.1.1):=by
 obtain⟨⟨s,u⟩,b8⟩:=a;have hs:s.length<=2097152:=hs;have hlen:=om 46 s;have gn:f73 ((s,((46:Int),((IntKind.i64.wrap ((s.length:Int)+(1:Int))),()))),())=some (((),()),(iF s,())):=
  vN 46 _ hs rfl (b9 (by unfold aA;omega))
 have key:=mv Ao (iF s) (fun i (out:List Int)=>(((),((),((i:Int),()))),(iF s,(out,()))))
  (fun i x out=>some (bif fR x then .inl (out++[db x]) else .inr ((.inl (((),(false,())),(out,()))):aH qU))) (fun out=>((.inr (((),((),())),(iF s,(out,())))):aH qU))
  (fun i out=>out.length<=i) [] (Nat.le_refl _) (fun i x out hx dH=>?_) (fun out _=>?_)
 ·have fold:∀(r:List B) (k:Nat) (out:List Int),fh (fun i x out=>some (bif fR x then .inl (out++[db x]) else .inr ((.inl (((),(false,())),(out,()))):aH qU))) (fun out=>((.inr (((),((),())),(iF s,(out,())))):aH qU)) k r out=
    some (bif r.all fR then(.inr (((),((),())),(iF s,(out++r.map db,())))) else(.inl (((),(false,())),(out++(r.takeWhile fR).map db,())))):=by
   intro r;induction r with
   |nil=>intro k out;simp[fh]
   |cons x r ih=>
    intro k out;simp only[fh,List.all_cons];cases hn:fR x with
    |false=>simp[hn]
    |true=>simp only[ad,Bool.true_and];rw[ih];simp[hn,List.append_assoc]
  have key:Hs (((),((),((0:Int),()))),(iF s,(([]:List Int),())))=_:=key.trans (fold (iF s) 0 []);simp only[f140,gn,Y,key,List.nil_append];unfold eE;cases nP:(iF s).all fR with
  |false=>exact⟨_,rfl,fun h=>by cases h⟩
  |true=>
   simp only[ad,Bool.true_and];have:decide (((iF s).length:Int)<=4)=decide ((iF s).length<=4):=by by_cases h:(iF s).length<=4<;>simp[h]<;>omega
   rw[this];exact⟨_,rfl,fun _=>rfl⟩
 ·have hi:=da hx;have wT:(iF s).length<=s.length+1:=hlen;have hw:aA i:=by unfold aA;omega
  have hxl:x.length<=s.length:=qL 46 s x (eK hx);refine⟨?_,fun aQ an=>?_⟩
  ·simp only[Ao,ct hi,ad,fP hi,hx,Y];rw[HV _ (show aA x.length by unfold aA;omega)]
   simp only[Y,oF,agG];cases hn:fR x with
   |false=>rfl
   |true=>
    have hv:(bif x.all cR&&decide (x.length<=6)&&!(x==[])&&!hN x then db x else-1)=db x:=by
     unfold fR at hn;simp only[bz] at hn;obtain⟨⟨⟨⟨h1,h2⟩,h3⟩,aD⟩,bn⟩:=hn;rw[h1,aD,h2,h3];rfl
    simp only[bu,ak,hv,ad];rw[dw (by decide) (by unfold aA;simp only[cY,List.length_nil];omega)]
    simp only[Y,b9 hw,Option.map_some]
  ·simp only[bH] at an;cases hn:fR x with
   |false=>rw[hn] at an;cases an
   |true=>
    rw[hn] at an;simp only[ad,Sum.inl.injEq] at an;subst an;simp only[dx,cY,List.length_nil];omega
 ·simp only[Ao,dK,ak]
theorem Pf(a)(hs:cw a.1.1.length):f88 a=some ((eE a.1.1,()),()):=by
 obtain⟨out,h,_⟩:=FW ((a.1.1,()),()) hs;simp only[f88,h,Y]
theorem Ff(a)(hs:cw a.1.1.length):f151 a=some (((),((),())),((bif eE a.1.1 then ii a.1.1 else []),(((),()),((eE a.1.1,()),())))):=by
 obtain⟨⟨s,u⟩,b8⟩:=a;have hs:s.length<=2097152:=hs;have LC:Nat.ble s.length kZ=true:=Nat.ble_eq_true_of_le (by unfold kZ;omega)
 have fold:∀(r:List B) (out:List Int),(∀x,x∈r->x.length<=s.length)->out.length<=4->
   iZ tk v8 r (((),((),((),()))),(([]:List Int),(((),()),((false,()),(out,(((),()),()))))))=
    some (bif r.all fR&&decide (out.length+r.length<=4) then(.inl (((),((),((),()))),(([]:List Int),(((),()),((false,()),(out++r.map db,(((),()),()))))))) else(.inr (((),((),())),(([]:List Int),(((),()),((false,()),())))))):=by
  intro r;induction r with
  |nil=>
   intro out _ aP;have:decide (out.length+0<=4)=true:=by simpa using aP
   simp only[iZ,v8,List.all_nil,List.length_nil,this,Bool.and_self,ad,List.map_nil,List.append_nil]
  |cons x r ih=>
   intro out hr aP;have hx:=hr x cj;have auc:=aj9 ((x,((999:Int),())),()) (show aA x.length by unfold aA;omega) rfl
   have step:tk x (((),((),((),()))),(([]:List Int),(((),()),((false,()),(out,(((),()),()))))))=
     some (bif fR x&&decide (out.length+1<=4) then .inl (((),((),((),()))),(([]:List Int),(((),()),((false,()),(out++[db x],(((),()),())))))) else .inr (.inr (((),((),())),(([]:List Int),(((),()),((false,()),())))))):=by
    simp only[tk,auc,Y,GC,Bool.not_not];have aD:((out.length:Int)==4)=!decide (out.length+1<=4):=by
     by_cases h:out.length=4
     ·rw[h];rfl
     ·have bn:decide (out.length+1<=4)=true:=by simp only[dW];omega
      rw[bn];simp only[beq_eq_false_iff_ne,ne_eq,bu];omega
    rw[aD];cases hn:fR x with
    |false=>rfl
    |true=>
     simp only[ad,Y,Bool.true_and];cases aC:decide (out.length+1<=4) with
     |false=>rfl
     |true=>
      simp only[bu,ak,ad];rw[dw (by decide) (by unfold aA;simp only[cY,List.length_nil];omega)]
      rfl
   rw[iZ,step,List.all_cons];cases hn:fR x with
   |false=>rfl
   |true=>
    simp only[Bool.true_and];cases aC:decide (out.length+1<=4) with
    |false=>
     have:decide (out.length+(x::r).length<=4)=false:=by simp only[decide_eq_false_iff_not,cY] at aC ⊢;omega
     rw[this];simp
    |true=>
     simp only[ad];rw[ih (out++[db x]) (fun y hy=>hr y (ci _ hy)) (by simp only[dx,cY,List.length_nil];simpa using aC)]
     have e1:(out++[db x]).length+r.length=out.length+(x::r).length:=by simp only[dx,cY,List.length_nil];omega
     rw[e1,List.map_cons,List.append_assoc];rfl
 have key:=fold (bO (46:UInt8) s) [] (fun x hx=>qL 46 s x hx) (Nat.zero_le _)
 have Lm:iZ tk v8 (bO (46:UInt8) s) (((),((),((),()))),(([]:List Int),(((),()),((false,()),(([]:List Int),(((),()),()))))))=
    some (bif eE s then(.inl (((),((),((),()))),(([]:List Int),(((),()),((false,()),(ii s,(((),()),()))))))) else(.inr (((),((),())),(([]:List Int),(((),()),((false,()),())))))):=by
  rw[key];unfold eE ii iF;simp only[List.length_nil,Nat.zero_add,List.nil_append]
 simp only[f151,LC,ad,Lm,Y];cases eE s<;>rfl
theorem Fj(a)(hs:cw a.1.1.length):f100 a=some ((eE a.1.1,()),()):=by
 simp only[f100,Ff ((a.1.1,()),()) hs,Y]
def dR(n:bD):Bool:=iV n.name&&(n.kind==0&&(n.a6==[])||within n.kind 1 3&&eE n.a6)
abbrev yn(n:bD):Prop:=cw n.name.length/\cw n.a6.length
theorem RO(a)(h1:cw a.1.1.1.length)(h2:cw a.1.1.2.2.1.length):f192 a=some ((dR ⟨a.1.1.1,a.1.1.2.1,a.1.1.2.2.1⟩,()),()):=by
 obtain⟨⟨⟨n,k,v,u⟩,b8⟩,nT⟩:=a;have h1:n.length<=2097152:=h1;have h2:v.length<=2097152:=h2;have e1:=RI ((n,()),()) (show aA n.length by unfold aA;omega)
 have e2:=Pf ((v,()),()) h2;simp only[f192,e1,e2,oF,Y,dR];cases iV n with
 |false=>rfl
 |true=>
  cases hk:(k==0) with
  |false=>
   simp only[ad,ak];cases within k 1 3<;>cases eE v<;>rfl
  |true=>
   have:within k 1 3=false:=by
    have:k=0:=by simpa using hk
    subst this;decide
   rw[this];cases (v==[])<;>rfl
theorem aif{k:Int}(jZ:¬k=0)(aG:¬k=1)(aK:¬k=2)(bP:¬k=3):within k 1 3=false:=by
 unfold within;cases h:(decide (1<=k)&&decide (k<=3)) with
 |false=>rfl
 |true=>simp only[bz,dW] at h;omega
theorem zc(a)(h1:cw a.1.1.1.length)(h2:cw a.1.1.2.2.1.length):f102 a=some ((dR ⟨a.1.1.1,a.1.1.2.1,a.1.1.2.2.1⟩,()),()):=by
 obtain⟨⟨⟨n,k,v,u⟩,b8⟩,nT⟩:=a;have h1:n.length<=2097152:=h1;have h2:v.length<=2097152:=h2;have e1:=O2 ((n,()),()) (show aA n.length by unfold aA;omega)
 have e2:=Fj ((v,()),()) h2;simp only[f102,e1,e2,Y,dR,HJ];cases iV n with
 |false=>rfl
 |true=>
  simp only[bu,ak,Bool.true_and];by_cases jZ:k=0
  ·subst jZ;cases (v==[])<;>rfl
  ·have qu:(k==0)=false:=by simpa using jZ
   rw[qu];by_cases aG:k=1
   ·subst aG;cases hv:eE v<;>simp[within,e2,hv]
   ·have r_:(k==1)=false:=by simpa using aG
    rw[r_];by_cases aK:k=2
    ·subst aK;cases hv:eE v<;>simp[within,e2,hv]
    ·have hk2:(k==2)=false:=by simpa using aK
     rw[hk2];by_cases bP:k=3
     ·subst bP;cases hv:eE v<;>simp[within,e2,hv]
     ·have ayF:(k==3)=false:=by simpa using bP
      rw[ayF];rw[aif jZ aG aK bP];rfl
noncomputable abbrev aqH:a8:=[(102,xr)]
theorem WI:aT O (aZ af aqH):=aY ⟨Do,⟨⟩⟩
abbrev zr:Shape:=⟨[(1,.aq (.fn 102 [])),aO 7 .need,aj 8,aj 9],[],18⟩
abbrev F9:List aR:=[(.ret,⟨[ar 4],[],18⟩),(.exit 0,⟨[],[],18⟩)]
noncomputable def zF(y:zr.J):bQ zr F9:=
 bif(decide (y.1.2.2.2.1<y.1.2.2.1)) then
(aS y.1.2.1 y.1.2.2.2.1).bind fun a=>
(f102 (((a.name,a.kind,a.a6,()),()),())).bind fun b=>
 bif(!b.1.1) then
 some (.inr (.inl ((false,()),())))
else
 some (.inl (((),y.1.2.1,y.1.2.2.1,(IntKind.i64.wrap (y.1.2.2.2.1+(1:Int))),()),()))
else
 some (.inr (.inr ((),())))
noncomputable def Gv:zr.J->Option (aH F9):=bA zF
theorem ajq:aV O (ap (codeOf Tryz.f101) 1 26) (aX zr F9 Gv):=bT WI (by kernel_rfl) ag fun y=>by kernel_rfl
abbrev V_:Shape:=⟨[aO 0 .need,(1,.aq (.fn 102 []))],[],18⟩
abbrev VF:Shape:=⟨[ar 4],[],18⟩
noncomputable def CP(a:V_.J):Option VF.J:=
(Gv (((),a.1.1,(a.1.1.length:Int),(0:Int),()),())).bind fun b=>
(match b with
|.inl c=>
 some ((c.1.1,()),())
|.inr d=>
 some ((true,()),()))
noncomputable def WD:aI:=aL af Tryz.f101 V_ VF [] CP
theorem aoR:aF O 101 WD:=aM WI Tryz.func101 (by kernel_rfl) (a7 ajq ag) (fun y=>by kernel_rfl) fun a=>by kernel_rfl
abbrev i104:Shape:=⟨[ck 0 [ah,ba,ah]],[],5⟩
abbrev ZJ:Shape:=⟨[am 2],[],5⟩
noncomputable def f104(a:i104.J):Option ZJ.J:=
 some ((a.1.1.1,()),())
noncomputable def aaL:aI:=aL af Tryz.f104 i104 ZJ [] f104
theorem atl:aF O 104 aaL:=aM g0 Tryz.func104 (by kernel_rfl) ag (fun y=>by kernel_rfl) fun a=>by kernel_rfl
abbrev i149:Shape:=⟨[aO 0 .str],[],8⟩
abbrev Lf:Shape:=⟨[bd 2 3000128],[bc 3000128 .str 2 0],8⟩
noncomputable def f149(a:i149.J):Option Lf.J:=
 qR (t:=.str) a.1.1 (some (((),()),([]:List B),())) ((cm 16 ([]:List B) a.1.1).bind fun b=>
 some (((),()),b,()))
noncomputable def aal:aI:=aL af Tryz.f149 i149 Lf [] f149
theorem as7:aF O 149 aal:=aM g0 Tryz.func149 (by kernel_rfl) ag (fun y=>by kernel_rfl) fun a=>by kernel_rfl
abbrev AL:Shape:=⟨[aO 0 .str,am 1,aj 7,aj 8],[],19⟩
abbrev s9:List aR:=[(.ret,⟨[aj 4],[],19⟩),(.exit 0,⟨[],[],19⟩)]
noncomputable def Br(y:AL.J):bQ AL s9:=
 bif(decide (y.1.2.2.2.1<y.1.2.2.1)) then
(aS y.1.1 y.1.2.2.2.1).bind fun a=>
 bif(y.1.2.1==a) then
 some (.inr (.inl ((y.1.2.2.2.1,()),())))
else
 some (.inl ((y.1.1,y.1.2.1,y.1.2.2.1,(IntKind.i64.wrap (y.1.2.2.2.1+(1:Int))),()),()))
else
 some (.inr (.inr ((),())))
noncomputable def IV:AL.J->Option (aH s9):=bA Br
theorem am6:aV O (ap (codeOf Tryz.f197) 1 26) (aX AL s9 IV):=bT g0 (by kernel_rfl) ag fun y=>by kernel_rfl
abbrev i197:Shape:=⟨[aO 0 .str,am 1],[],19⟩
abbrev Ld:Shape:=⟨[aj 4],[],19⟩
noncomputable def f197(a:i197.J):Option Ld.J:=
(IV ((a.1.1,a.1.2.1,(a.1.1.length:Int),(0:Int),()),())).bind fun b=>
(match b with
|.inl c=>
 some ((c.1.1,()),())
|.inr d=>
 some ((((-1):Int),()),()))
noncomputable def _S:aI:=aL af Tryz.f197 i197 Ld [] f197
theorem asM:aF O 197 _S:=aM g0 Tryz.func197 (by kernel_rfl) (a7 am6 ag) (fun y=>by kernel_rfl) fun a=>by kernel_rfl
noncomputable abbrev avL:a8:=[(197,_S)]
theorem awJ:aT O (aZ af avL):=aY ⟨asM,⟨⟩⟩
abbrev i150:Shape:=⟨[aO 0 .str,am 1],[],9⟩
abbrev Zb:Shape:=⟨[ar 4],[],9⟩
noncomputable def f150(a:i150.J):Option Zb.J:=
(f197 ((a.1.1,a.1.2.1,()),())).bind fun b=>
 some (((decide (b.1.1>=(0:Int))),()),())
noncomputable def aak:aI:=aL af Tryz.f150 i150 Zb [] f150
theorem as6:aF O 150 aak:=aM awJ Tryz.func150 (by kernel_rfl) ag (fun y=>by kernel_rfl) fun a=>by kernel_rfl
noncomputable abbrev aqG:a8:=[(104,aaL),(149,aal),(150,aak)]
theorem WH:aT O (aZ af aqG):=aY ⟨atl,as7,as6,⟨⟩⟩
abbrev zq:Shape:=⟨[(1,.aq (.fn 104 [])),bd 7 3000448,aO 12 .need,aj 13,aj 14],[bc 3000448 .str 7 0],30⟩
abbrev sT:List aR:=[(.ret,⟨[ar 6],[],30⟩),(.exit 0,⟨[],[],30⟩)]
noncomputable def zE(y:zq.J):bQ zq sT:=
 bif(decide (y.1.2.2.2.2.1<y.1.2.2.2.1)) then
(aS y.1.2.2.1 y.1.2.2.2.2.1).bind fun a=>
(f104 (((a.name,a.kind,a.a6,()),()),())).bind fun b=>
(f150 ((y.2.1,b.1.1,()),())).bind fun c=>
 bif c.1.1 then
 some (.inr (.inl ((true,()),())))
else
(f104 (((a.name,a.kind,a.a6,()),()),())).bind fun d=>
(cm 16 y.2.1 ([d.1.1]:List B)).bind fun e=>
 some (.inl (((),(),y.1.2.2.1,y.1.2.2.2.1,(IntKind.i64.wrap (y.1.2.2.2.2.1+(1:Int))),()),e,()))
else
 some (.inr (.inr ((),())))
noncomputable def Gu:zq.J->Option (aH sT):=bA zE
theorem ajp:aV O (ap (codeOf Tryz.f103) 1 58) (aX zq sT Gu):=bT WH (by kernel_rfl) ag fun y=>by kernel_rfl
abbrev V9:Shape:=⟨[aO 0 .need,(1,.aq (.fn 104 [])),aO 2 .str],[],30⟩
abbrev VE:Shape:=⟨[ar 6],[],30⟩
noncomputable def CO(a:V9.J):Option VE.J:=
(f149 ((a.1.2.2.1,()),())).bind fun b=>
(Gu (((),(),a.1.1,(a.1.1.length:Int),(0:Int),()),b.2.1,())).bind fun c=>
(match c with
|.inl d=>
 some ((d.1.1,()),())
|.inr e=>
 some ((false,()),()))
noncomputable def WC:aI:=aL af Tryz.f103 V9 VE [] CO
theorem aoQ:aF O 103 WC:=aM WH Tryz.func103 (by kernel_rfl) (a7 ajp ag) (fun y=>by kernel_rfl) fun a=>by kernel_rfl
noncomputable abbrev avQ:a8:=[(192,L0)]
theorem aa0:aT O (aZ af avQ):=aY ⟨XH,⟨⟩⟩
abbrev A1:Shape:=⟨[aO 0 .need,aj 3],[],19⟩
abbrev Iq:List aR:=[(.ret,⟨[ar 2],[],19⟩),(.exit 0,⟨[aO 0 .need],[],19⟩)]
noncomputable def BF(y:A1.J):bQ A1 Iq:=
 bif(decide (y.1.2.1<(y.1.1.length:Int))) then
(aS y.1.1 y.1.2.1).bind fun a=>
(f192 (((a.name,a.kind,a.a6,()),()),())).bind fun b=>
 bif(!b.1.1) then
 some (.inr (.inl ((false,()),())))
else
 some (.inl ((y.1.1,(IntKind.i64.wrap (y.1.2.1+(1:Int))),()),()))
else
 some (.inr (.inr ((y.1.1,()),())))
noncomputable def I7:A1.J->Option (aH Iq):=bA BF
theorem anu:aV O (ap (codeOf Tryz.f141) 1 26) (aX A1 Iq I7):=bT aa0 (by kernel_rfl) ag fun y=>by kernel_rfl
abbrev i141:Shape:=⟨[aO 0 .need],[],19⟩
abbrev Zj:Shape:=⟨[ar 2],[],19⟩
noncomputable def f141(a:i141.J):Option Zj.J:=
(I7 ((a.1.1,(0:Int),()),())).bind fun b=>
(match b with
|.inl c=>
 some ((c.1.1,()),())
|.inr d=>
 some (((decide ((d.1.1.length:Int)<=(6:Int))),()),()))
noncomputable def aap:aI:=aL af Tryz.f141 i141 Zj [] f141
theorem z141:aF O 141 aap:=aM aa0 Tryz.func141 (by kernel_rfl) (a7 anu ag) (fun y=>by kernel_rfl) fun a=>by kernel_rfl
abbrev zl:Shape:=⟨[aO 0 .str,aj 3,aj 4],[],25⟩
abbrev F4:List aR:=[(.ret,⟨[ar 2],[],25⟩),(.exit 2,⟨[aO 0 .str,aj 3],[],25⟩)]
noncomputable def zA(y:zl.J):bQ zl F4:=
 bif(decide (y.1.2.2.1<y.1.2.1)) then
(aS y.1.1 y.1.2.2.1).bind fun a=>
(aS y.1.1 y.1.2.1).bind fun b=>
 bif(a==b) then
 some (.inr (.inl ((true,()),())))
else
 some (.inl ((y.1.1,y.1.2.1,(IntKind.i64.wrap (y.1.2.2.1+(1:Int))),()),()))
else
 some (.inr (.inr ((y.1.1,y.1.2.1,()),())))
noncomputable def Gp:zl.J->Option (aH F4):=bA zA
theorem ajg:aV O (ap (dk (ap (codeOf Tryz.f142) 1 26)) 52 1682) (aX zl F4 Gp):=bT g0 (by kernel_rfl) ag fun y=>by kernel_rfl
abbrev A0:Shape:=⟨[aO 0 .str,aj 3],[],25⟩
abbrev Ip:List aR:=[(.ret,⟨[ar 2],[],25⟩),(.exit 0,⟨[],[],25⟩)]
noncomputable def BE(y:A0.J):bQ A0 Ip:=
 bif(decide (y.1.2.1<(y.1.1.length:Int))) then
(Gp ((y.1.1,y.1.2.1,(0:Int),()),())).bind fun a=>
(match a with
|.inl b=>
 some (.inr (.inl ((b.1.1,()),())))
|.inr c=>
 some (.inl ((c.1.1,(IntKind.i64.wrap (c.1.2.1+(1:Int))),()),())))
else
 some (.inr (.inr ((),())))
noncomputable def I6:A0.J->Option (aH Ip):=bA BE
theorem ant:aV O (ap (codeOf Tryz.f142) 1 26) (aX A0 Ip I6):=bT g0 (by kernel_rfl) (a7 ajg ag) fun y=>by kernel_rfl
abbrev i142:Shape:=⟨[aO 0 .str],[],25⟩
abbrev Zi:Shape:=⟨[ar 2],[],25⟩
noncomputable def f142(a:i142.J):Option Zi.J:=
(I6 ((a.1.1,(0:Int),()),())).bind fun b=>
(match b with
|.inl c=>
 some ((c.1.1,()),())
|.inr d=>
 some ((false,()),()))
noncomputable def aao:aI:=aL af Tryz.f142 i142 Zi [] f142
theorem as9:aF O 142 aao:=aM g0 Tryz.func142 (by kernel_rfl) (a7 ant ag) (fun y=>by kernel_rfl) fun a=>by kernel_rfl
noncomputable abbrev az3:a8:=[(141,aap),(142,aao)]
theorem adL:aT O (aZ af az3):=aY ⟨z141,as9,⟨⟩⟩
abbrev B8:Shape:=⟨[aO 1 .need,bd 5 3000320,aj 6],[bc 3000320 .str 5 0],30⟩
abbrev B0:List aR:=[(.exit 0,⟨[aO 1 .need,bd 5 3000320],[bc 3000320 .str 5 0],30⟩)]
noncomputable def Cx(y:B8.J):bQ B8 B0:=
 bif(decide (y.1.2.2.1<(y.1.1.length:Int))) then
(aS y.1.1 y.1.2.2.1).bind fun a=>
(cm 16 y.2.1 ([a.name]:List B)).bind fun b=>
 some (.inl ((y.1.1,(),(IntKind.i64.wrap (y.1.2.2.1+(1:Int))),()),b,()))
else
 some (.inr ((y.1.1,(),()),y.2.1,()))
noncomputable def J8:B8.J->Option (aH B0):=bA Cx
theorem apj:aV O (ap (codeOf Tryz.f89) 1 58) (aX B8 B0 J8):=bT adL (by kernel_rfl) ag fun y=>by kernel_rfl
abbrev i89:Shape:=⟨[am 0,aO 1 .need],[],30⟩
abbrev abD:Shape:=⟨[ar 4],[],30⟩
noncomputable def f89(a:i89.J):Option abD.J:=
(J8 ((a.1.2.1,(),(0:Int),()),([a.1.1]:List B),())).bind fun b=>
(f141 ((b.1.1,()),())).bind fun c=>
 bif c.1.1 then
(f142 ((b.2.1,()),())).bind fun d=>
 some (((!d.1.1),()),())
else
 some ((false,()),())
noncomputable def adj:aI:=aL af Tryz.f89 i89 abD [] f89
theorem aw0:aF O 89 adj:=aM adL Tryz.func89 (by kernel_rfl) (a7 apj ag) (fun y=>by kernel_rfl) fun a=>by kernel_rfl
abbrev ux(ns:List bD):Prop:=cw ns.length/\∀n,n∈ns->yn n
theorem Dw(n:Nat)(k:Nat):decide ((n:Int)<=(k:Int))=decide (n<=k):=by by_cases h:n<=k<;>simp[h]<;>omega
theorem aim(a)(hs:ux a.1.1):f141 a=some ((a.1.1.all dR&&decide (a.1.1.length<=6),()),()):=by
 obtain⟨⟨ns,u⟩,b8⟩:=a;obtain⟨hl,hn⟩:=hs;have hl:ns.length<=2097152:=hl;have key:I7 ((ns,((0:Int),())),())=some (bif allI (fun _ n=>dR n) 0 ns then .inr ((ns,()),()) else .inl ((false,()),())):=by
  refine gw BF ns (fun i=>((ns,((i:Int),())),())) _ _ _ (fun i x hx=>?_) ?_
  ·have hi:=da hx;have hw:aA i:=by unfold aA;omega
   have hb:=hn x (eK hx);simp only[BF,ct hi,ad,cd,hx,Y];rw[RO _ hb.1 hb.2];simp only[Y,b9 hw];cases dR x<;>rfl
  ·simp only[BF,dK,ak]
 rw[hF] at key;simp only[f141,key,Y];cases List.all ns dR with
 |false=>rfl
 |true=>have:=Dw ns.length 6;simp only[ad,Bool.true_and];rw[<-this];rfl
theorem aiw(a)(hs:ux a.1.1):CP a=some ((a.1.1.all dR,()),()):=by
 obtain⟨⟨ns,u⟩,b8⟩:=a;obtain⟨hl,hn⟩:=hs;have hl:ns.length<=2097152:=hl;have key:Gv (((),(ns,((ns.length:Int),((0:Int),())))),())=some (bif allI (fun _ n=>dR n) 0 ns then .inr ((),()) else .inl ((false,()),())):=by
  refine gw zF ns (fun i=>(((),(ns,((ns.length:Int),((i:Int),())))),())) _ _ _ (fun i x hx=>?_) ?_
  ·have hi:=da hx;have hw:aA i:=by unfold aA;omega
   have hb:=hn x (eK hx);simp only[zF,ct hi,ad,cd,hx,Y];rw[zc _ hb.1 hb.2];simp only[Y,b9 hw];cases dR x<;>rfl
  ·simp only[zF,dK,ak]
 rw[hF] at key;simp only[CP,key,Y];cases List.all ns dR<;>rfl
def kd:List B->List B->Bool
 |_,[]=>false
 |acc,x::r=>acc.contains x||kd (acc++[x]) r
theorem al5(xs:List B):∀(r:List B) (k:Nat),r=xs.drop k->allI (fun i x=>!((xs.take i).contains x)) k r=!kd (xs.take k) r:=by
 intro r;induction r with
 |nil=>intro k _;rfl
 |cons x r ih=>
  intro k hr;have dq:r=xs.drop (k+1):=by
   have:=congrArg List.tail hr;simpa using this
  have hx:xs[k]? =some x:=by
   have:=congrArg (fun l=>l[0]?) hr
   simpa using this.symm
  have e1:xs.take (k+1)=xs.take k++[x]:=by rw[List.take_add_one,hx];rfl
  simp only[allI,kd,ih (k+1) dq,e1,Bool.not_or]
theorem aoy(bm:List B)(x:B):bm.all (fun y=>!(y==x))=!bm.contains x:=by
 induction bm with
 |nil=>rfl
 |cons y bm ih=>
  simp only[List.all_cons,ih,List.contains_cons,Bool.not_or];congr 2
  cases h:y==x with
  |true=>rw[eq_of_beq h];simp
  |false=>
   cases h2:x==y with
   |true=>rw[eq_of_beq h2] at h;simp at h
   |false=>rfl
theorem ail(a)(hs:cw a.1.1.length):f142 a=some ((kd [] a.1.1,()),()):=by
 obtain⟨⟨xs,u⟩,b8⟩:=a;have hs:xs.length<=2097152:=hs;have inner:∀(i:Nat) (x:B),xs[i]? =some x->Gp ((xs,((i:Int),((0:Int),()))),())=some (bif !((xs.take i).contains x) then .inr ((xs,((i:Int),())),()) else .inl ((true,()),())):=by
  intro i x hx;have hi:=da hx;have hl:(xs.take i).length=i:=by rw[List.length_take];omega
  have:=gw zA (xs.take i) (fun k=>((xs,((i:Int),((k:Int),()))),())) (fun _ y=>!(y==x)) (.inl ((true,()),())) (.inr ((xs,((i:Int),())),())) (fun k y hy=>?_) ?_
  ·have:=this;rw[hF,aoy] at this;exact this
  ·have hk:=da hy;rw[hl] at hk;have hw:aA k:=by unfold aA;omega
   have ez:xs[k]? =some y:=by
    rw[List.getElem?_take,if_pos hk] at hy;exact hy
   simp only[zA,ct hk,ad,cd,ez,hx,Y,b9 hw];cases (y==x)<;>rfl
  ·simp only[zA,hl,dK,ak]
 have key:I6 ((xs,((0:Int),())),())=some (bif allI (fun i x=>!((xs.take i).contains x)) 0 xs then .inr ((),()) else .inl ((true,()),())):=by
  refine gw BE xs (fun i=>((xs,((i:Int),())),())) _ _ _ (fun i x hx=>?_) ?_
  ·have hi:=da hx;have hw:aA i:=by unfold aA;omega
   simp only[BE,ct hi,ad,inner i x hx,Y];cases (xs.take i).contains x
   ·simp only[bK,ad,b9 hw]
   ·rfl
  ·simp only[BE,dK,ak]
 rw[al5 xs xs 0 rfl] at key;simp only[f142,key,Y,List.take_zero];cases kd [] xs<;>rfl
def ra(name:B)(ns:List bD):Bool:=ns.all dR&&decide (ns.length<=6)&&!kd [] (name::ns.map (·.name))
theorem aik(a)(hs:ux a.1.2.1)(hn:cw a.1.1.length):f89 a=some ((ra a.1.1 a.1.2.1,()),()):=by
 obtain⟨⟨name,ns,u⟩,b8⟩:=a;have hl:ns.length<=2097152:=hs.1;have key:J8 ((ns,((),((0:Int),()))),(([name]:List B),()))=some (((ns,((),())),((name::ns.map (·.name)),()))):=by
  have:=Re Cx ns (fun i (out:List B)=>((ns,((),((i:Int),()))),(out,()))) (fun(n:bD) out=>out++[n.name]) (fun out=>(((ns,((),())),(out,())):aH B0)) (fun i out=>out.length=i+1) [name] rfl (fun i x out hx dH=>?_) (fun out _=>?_)
  ·refine this.trans ?_
   have e:∀(r:List bD) (out:List B),r.foldl (fun s x=>s++[x.name]) out=out++r.map (·.name):=by
    intro r;induction r with
    |nil=>intro out;simp
    |cons n r ih=>intro out;simp[ih]
   rw[e];rfl
  ·have hi:=da hx;have hw:aA i:=by unfold aA;omega
   refine⟨?_,by simp[dH]⟩
   simp only[Cx,ct hi,ad,cd,hx,Y];rw[dw (by decide) (by unfold aA;simp only[cY,List.length_nil];omega)]
   simp only[Y,b9 hw]
  ·simp only[Cx,dK,ak]
 simp only[f89,key,Y];rw[aim _ hs];simp only[Y];unfold ra;cases aC:(List.all ns dR&&decide (ns.length<=6)) with
 |false=>rfl
 |true=>
  simp only[bz,dW] at aC;have aBq:=ail ((name::ns.map (·.name),()),()) (show(name::ns.map (·.name)).length<=2097152 by simp only[cY,List.length_map];omega)
  simp only[ad,Bool.true_and,aBq,Y]
theorem amv(a)(hs:cw a.1.1.length):∃n:Int,f197 a=some ((n,()),())/\decide (n>=0)=a.1.1.contains a.1.2.1:=by
 obtain⟨⟨xs,x,u⟩,b8⟩:=a;have hs:xs.length<=2097152:=hs;have key:IV ((xs,(x,((xs.length:Int),((0:Int),())))),())=_:=Gk Br xs (fun i (_:Unit)=>((xs,(x,((xs.length:Int),((i:Int),())))),()))
  (fun i y _=>some (bif x==y then .inr ((.inl (((i:Int),()),())):aH s9) else .inl ())) (fun _=>.inr ((),())) (fun i y s hy=>?_) (fun s=>?_) ()
 ·have fold:∀(r:List B) (k:Nat),∃n:Int,(fh (fun i y (_:Unit)=>some (bif x==y then .inr ((.inl (((i:Int),()),())):aH s9) else .inl ())) (fun _=>(.inr ((),()):aH s9)) k r ()).bind (fun atL=>
    (match atL with
    |.inl atK=>some ((atK.1.1,()),())
    |.inr aCE=>some ((((-1):Int),()),()):Option Ld.J))=some ((n,()),())/\decide (n>=0)=r.contains x:=by
   intro r;induction r with
   |nil=>intro k;exact⟨-1,rfl,rfl⟩
   |cons y r ih=>
    intro k;simp only[fh,List.contains_cons];cases hxy:x==y with
    |true=>exact⟨k,rfl,by simp⟩
    |false=>
     obtain⟨n,h1,h2⟩:=ih (k+1);exact⟨n,h1,by simpa using h2⟩
  obtain⟨n,h1,h2⟩:=fold xs 0;refine⟨n,?_,h2⟩;simp only[f197];rw[key];exact h1
 ·have hi:=da hy;have hw:aA i:=by unfold aA;omega
  simp only[Br,ct hi,ad,cd,hy,Y,b9 hw];cases x==y<;>rfl
 ·simp only[Br,dK,ak]
theorem ahn(a)(hs:cw a.1.1.length):f150 a=some ((a.1.1.contains a.1.2.1,()),()):=by
 obtain⟨n,h1,h2⟩:=amv ((a.1.1,(a.1.2.1,())),()) hs;simp only[f150,h1,Y,h2]
theorem aks(a)(hs:cw a.1.1.length):f149 a=some (((),()),(a.1.1,())):=by
 obtain⟨⟨xs,u⟩,b8⟩:=a;have hs:xs.length<=2097152:=hs;have h2:(cm 16 ([]:List B) xs).bind (fun x=>some (((),()),(x,())))=(some (((),()),(xs,())):Option Lf.J):=by
  rw[dw (by decide) (by unfold aA;simp only[List.length_nil];omega)];rfl
 simp only[f149];rw[h2];unfold qR;split
 ·rfl
 ·rename_i h;exact absurd (fun he:xs=[]=>by subst he;rfl) h
theorem afw(a)(hs:ux a.1.1)(hm:a.1.2.2.1.length<=1):CO a=some ((kd a.1.2.2.1 (a.1.1.map (·.name)),()),()):=by
 obtain⟨⟨ns,nh,more,u⟩,b8⟩:=a;have hl:ns.length<=2097152:=hs.1;have hm:more.length<=1:=hm;have hc:=aks ((more,()),()) (show more.length<=2097152 by omega)
 have key:(Gu (((),((),(ns,((ns.length:Int),((0:Int),()))))),(more,())))=_:=mv zE ns (fun i (out:List B)=>(((),((),(ns,((ns.length:Int),((i:Int),()))))),(out,())))
  (fun i (n:bD) out=>some (bif out.contains n.name then .inr ((.inl ((true,()),())):aH sT) else .inl (out++[n.name]))) (fun _=>.inr ((),())) (fun i out=>out.length<=i+1) more (by omega) (fun i x out hx dH=>?_) (fun out _=>?_)
 ·have fold:∀(r:List bD) (k:Nat) (out:List B),(fh (fun i (n:bD) out=>some (bif out.contains n.name then .inr ((.inl ((true,()),())):aH sT) else .inl (out++[n.name]))) (fun _=>(.inr ((),()):aH sT)) k r out)=
    some (bif kd out (r.map (·.name)) then .inl ((true,()),()) else .inr ((),())):=by
   intro r;induction r with
   |nil=>intro k out;rfl
   |cons n r ih=>
    intro k out;simp only[fh,List.map_cons,kd];cases out.contains n.name with
    |true=>rfl
    |false=>simp only[ak,Bool.false_or];exact ih _ _
  rw[fold] at key;simp only[CO,hc,Y,key];cases kd more (ns.map (·.name))<;>rfl
 ·have hi:=da hx;have hw:aA i:=by unfold aA;omega
  refine⟨?_,fun aQ an=>?_⟩
  ·simp only[zE,ct hi,ad,cd,hx,Y,f104];rw[ahn _ (show cw out.length by show out.length<=2097152;omega)]
   simp only[Y];cases aC:out.contains x.name with
   |true=>rfl
   |false=>
    simp only[ak];rw[dw (by decide) (by unfold aA;simp only[cY,List.length_nil];omega)]
    simp only[Y,b9 hw,Option.map_some]
  ·simp only[bH] at an;cases aC:out.contains x.name with
   |true=>rw[aC] at an;cases an
   |false=>
    rw[aC] at an;simp only[ak,Sum.inl.injEq] at an;subst an;simp only[dx,cY,List.length_nil];omega
 ·simp only[zE,dK,ak]
abbrev i146:Shape:=⟨[(0,.aq (.d (.int .u8)))],[],29⟩
abbrev Ze:Shape:=⟨[ar 2],[],29⟩
noncomputable def f146(a:i146.J):Option Ze.J:=
 bif(decide (a.1.1>=(97:Int))) then
 bif(!(decide (a.1.1<=(122:Int)))) then
 bif(decide (a.1.1>=(48:Int))) then
 bif(!(decide (a.1.1<=(57:Int)))) then
 bif(!(a.1.1==(46:Int))) then
 bif(!(a.1.1==(95:Int))) then
 some (((a.1.1==(45:Int)),()),())
else
 some ((true,()),())
else
 some ((true,()),())
else
 some ((true,()),())
else
 bif(!(a.1.1==(46:Int))) then
 bif(!(a.1.1==(95:Int))) then
 some (((a.1.1==(45:Int)),()),())
else
 some ((true,()),())
else
 some ((true,()),())
else
 some ((true,()),())
else
 bif(decide (a.1.1>=(48:Int))) then
 bif(!(decide (a.1.1<=(57:Int)))) then
 bif(!(a.1.1==(46:Int))) then
 bif(!(a.1.1==(95:Int))) then
 some (((a.1.1==(45:Int)),()),())
else
 some ((true,()),())
else
 some ((true,()),())
else
 some ((true,()),())
else
 bif(!(a.1.1==(46:Int))) then
 bif(!(a.1.1==(95:Int))) then
 some (((a.1.1==(45:Int)),()),())
else
 some ((true,()),())
else
 some ((true,()),())
noncomputable def DM:aI:=aL af Tryz.f146 i146 Ze [] f146
theorem z146:aF O 146 DM:=aM g0 Tryz.func146 (by kernel_rfl) ag (fun y=>by kernel_rfl) fun a=>by kernel_rfl
noncomputable abbrev az1:a8:=[(75,pe),(146,DM)]
theorem adK:aT O (aZ af az1):=aY ⟨z75,z146,⟨⟩⟩
abbrev B5:Shape:=⟨[am 0,aj 3],[],26⟩
abbrev JI:List aR:=[(.ret,⟨[ar 2],[],26⟩),(.exit 0,⟨[am 0],[],26⟩)]
noncomputable def Cu(y:B5.J):bQ B5 JI:=
 bif(decide (y.1.2.1<(y.1.1.length:Int))) then
(aS y.1.1 y.1.2.1).bind fun a=>
(f146 (((a.toNat:Int),()),())).bind fun b=>
 bif(!b.1.1) then
 some (.inr (.inl ((false,()),())))
else
 some (.inl ((y.1.1,(IntKind.i64.wrap (y.1.2.1+(1:Int))),()),()))
else
 some (.inr (.inr ((y.1.1,()),())))
noncomputable def J5:B5.J->Option (aH JI):=bA Cu
theorem apf:aV O (ap (codeOf Tryz.f91) 1 26) (aX B5 JI J5):=bT adK (by kernel_rfl) ag fun y=>by kernel_rfl
abbrev i91:Shape:=⟨[am 0],[],26⟩
abbrev abB:Shape:=⟨[ar 2],[],26⟩
noncomputable def f91(a:i91.J):Option abB.J:=
(J5 ((a.1.1,(0:Int),()),())).bind fun b=>
(match b with
|.inl c=>
 some ((c.1.1,()),())
|.inr d=>
(f75 (((d.1.1.length:Int),(1:Int),(10:Int),()),())).bind fun e=>
 bif e.1.1 then
 bif(!(d.1.1==([46]:B))) then
 some (((!(d.1.1==([46,46]:B))),()),())
else
 some ((false,()),())
else
 some ((false,()),()))
noncomputable def adi:aI:=aL af Tryz.f91 i91 abB [] f91
theorem z91:aF O 91 adi:=aM adK Tryz.func91 (by kernel_rfl) (a7 apf ag) (fun y=>by kernel_rfl) fun a=>by kernel_rfl
noncomputable abbrev avn:a8:=[(73,pf),(91,adi)]
theorem aaT:aT O (aZ af avn):=aY ⟨ql,z91,⟨⟩⟩
abbrev AO:Shape:=⟨[bd 3 3000192,aj 4],[bc 3000192 .str 3 0],25⟩
abbrev Ib:List aR:=[(.ret,⟨[ar 2],[],25⟩),(.exit 0,⟨[bd 3 3000192],[bc 3000192 .str 3 0],25⟩)]
noncomputable def Bu(y:AO.J):bQ AO Ib:=
 bif(decide (y.1.2.1<(y.2.1.length:Int))) then
(bf y.2.1.length y.1.2.1).bind fun a=>
(y.2.1[a]?).bind fun b=>
(f91 ((b,()),())).bind fun c=>
 bif(!c.1.1) then
 some (.inr (.inl ((false,()),())))
else
 some (.inl (((),(IntKind.i64.wrap (y.1.2.1+(1:Int))),()),y.2.1,()))
else
 some (.inr (.inr (((),()),y.2.1,())))
noncomputable def IY:AO.J->Option (aH Ib):=bA Bu
theorem am9:aV O (ap (codeOf Tryz.f193) 1 58) (aX AO Ib IY):=bT aaT (by kernel_rfl) ag fun y=>by kernel_rfl
abbrev i193:Shape:=⟨[am 0],[],25⟩
abbrev YI:Shape:=⟨[ar 2],[],25⟩
noncomputable def f193(a:i193.J):Option YI.J:=
(f73 ((a.1.1,(47:Int),(IntKind.i64.wrap ((a.1.1.length:Int)+(1:Int))),()),())).bind fun b=>
(IY (((),(0:Int),()),b.2.1,())).bind fun c=>
(match c with
|.inl d=>
 some ((d.1.1,()),())
|.inr e=>
 some (((decide ((e.2.1.length:Int)<=(5:Int))),()),()))
noncomputable def LZ:aI:=aL af Tryz.f193 i193 YI [] f193
theorem z193:aF O 193 LZ:=aM aaT Tryz.func193 (by kernel_rfl) (a7 am9 ag) (fun y=>by kernel_rfl) fun a=>by kernel_rfl
noncomputable abbrev az0:a8:=[(75,pe)]
theorem NW:aT O (aZ af az0):=aY ⟨z75,⟨⟩⟩
abbrev To:Shape:=⟨[am 0,aj 3],[],25⟩
abbrev S4:List aR:=[(.norm,⟨[am 0,aj 3,ar 21],[],25⟩)]
noncomputable def Jg(y:To.J):Option (aH S4):=
(aS y.1.1 y.1.2.1).bind fun a=>
 bif((a.toNat:Int) !=(10:Int)) then
(aS y.1.1 y.1.2.1).bind fun b=>
(f75 (((IntKind.i64.wrap (b.toNat:Int)),(32:Int),(126:Int),()),())).bind fun c=>
 some ((y.1.1,y.1.2.1,(!c.1.1),()),())
else
 some ((y.1.1,y.1.2.1,false,()),())
theorem amE:aV O (ap (dk (ap (codeOf Tryz.f92) 1 26)) 52 840) (aX To S4 Jg):=cn NW (by kernel_rfl) ag fun y=>by kernel_rfl
abbrev B4:Shape:=⟨[am 0,aj 3],[],25⟩
abbrev JH:List aR:=[(.ret,⟨[ar 2],[],25⟩),(.exit 0,⟨[am 0],[],25⟩)]
noncomputable def Ct(y:B4.J):bQ B4 JH:=
 bif(decide (y.1.2.1<(y.1.1.length:Int))) then
(Jg ((y.1.1,y.1.2.1,()),())).bind fun a=>
 bif a.1.2.2.1 then
 some (.inr (.inl ((false,()),())))
else
 some (.inl ((a.1.1,(IntKind.i64.wrap (a.1.2.1+(1:Int))),()),()))
else
 some (.inr (.inr ((y.1.1,()),())))
noncomputable def J4:B4.J->Option (aH JH):=bA Ct
theorem ape:aV O (ap (codeOf Tryz.f92) 1 26) (aX B4 JH J4):=bT NW (by kernel_rfl) (a7 amE ag) fun y=>by kernel_rfl
abbrev i92:Shape:=⟨[am 0],[],25⟩
abbrev abA:Shape:=⟨[ar 2],[],25⟩
noncomputable def f92(a:i92.J):Option abA.J:=
(J4 ((a.1.1,(0:Int),()),())).bind fun b=>
(match b with
|.inl c=>
 some ((c.1.1,()),())
|.inr d=>
 some (((decide ((d.1.1.length:Int)<=(80:Int))),()),()))
noncomputable def adh:aI:=aL af Tryz.f92 i92 abA [] f92
theorem awZ:aF O 92 adh:=aM NW Tryz.func92 (by kernel_rfl) (a7 ape ag) (fun y=>by kernel_rfl) fun a=>by kernel_rfl
noncomputable abbrev avP:a8:=[(75,pe),(92,adh),(193,LZ)]
theorem awM:aT O (aZ af avP):=aY ⟨z75,awZ,z193,⟨⟩⟩
abbrev i143:Shape:=⟨[ck 0 [ah,ba,ba,ah]],[],42⟩
abbrev Zh:Shape:=⟨[ar 2],[],42⟩
noncomputable def f143(a:i143.J):Option Zh.J:=
(f193 ((a.1.1.1,()),())).bind fun b=>
 bif(!b.1.1) then
 some ((false,()),())
else
 bif(a.1.1.2.1==(1:Int)) then
(f75 ((a.1.1.2.2.1,(0:Int),(7:Int),()),())).bind fun c=>
 bif c.1.1 then
 some (((a.1.1.2.2.2.1==([]:B)),()),())
else
 some ((false,()),())
else
 bif(a.1.1.2.1==(2:Int)) then
(f75 ((a.1.1.2.2.1,(0:Int),(7:Int),()),())).bind fun d=>
 bif d.1.1 then
(f92 ((a.1.1.2.2.2.1,()),())).bind fun e=>
 some ((e.1.1,()),())
else
 some ((false,()),())
else
 bif(a.1.1.2.1==(3:Int)) then
 bif(a.1.1.2.2.1==(0:Int)) then
(f193 ((a.1.1.2.2.2.1,()),())).bind fun f=>
 some ((f.1.1,()),())
else
 some ((false,()),())
else
 some ((false,()),())
noncomputable def L8:aI:=aL af Tryz.f143 i143 Zh [] f143
theorem z143:aF O 143 L8:=aM awM Tryz.func143 (by kernel_rfl) ag (fun y=>by kernel_rfl) fun a=>by kernel_rfl
abbrev i231:Shape:=⟨[(0,.aq (.d (.int .u8)))],[],29⟩
abbrev Yj:Shape:=⟨[ar 2],[],29⟩
noncomputable def f231(a:i231.J):Option Yj.J:=
 bif(decide (a.1.1>=(97:Int))) then
 bif(!(decide (a.1.1<=(122:Int)))) then
 bif(decide (a.1.1>=(48:Int))) then
 bif(!(decide (a.1.1<=(57:Int)))) then
 bif(!(a.1.1==(46:Int))) then
 bif(!(a.1.1==(95:Int))) then
 some (((a.1.1==(45:Int)),()),())
else
 some ((true,()),())
else
 some ((true,()),())
else
 some ((true,()),())
else
 bif(!(a.1.1==(46:Int))) then
 bif(!(a.1.1==(95:Int))) then
 some (((a.1.1==(45:Int)),()),())
else
 some ((true,()),())
else
 some ((true,()),())
else
 some ((true,()),())
else
 bif(decide (a.1.1>=(48:Int))) then
 bif(!(decide (a.1.1<=(57:Int)))) then
 bif(!(a.1.1==(46:Int))) then
 bif(!(a.1.1==(95:Int))) then
 some (((a.1.1==(45:Int)),()),())
else
 some ((true,()),())
else
 some ((true,()),())
else
 some ((true,()),())
else
 bif(!(a.1.1==(46:Int))) then
 bif(!(a.1.1==(95:Int))) then
 some (((a.1.1==(45:Int)),()),())
else
 some ((true,()),())
else
 some ((true,()),())
noncomputable def _D:aI:=aL af Tryz.f231 i231 Yj [] f231
theorem asC:aF O 231 _D:=aM g0 Tryz.func231 (by kernel_rfl) ag (fun y=>by kernel_rfl) fun a=>by kernel_rfl
noncomputable abbrev avm:a8:=[(231,_D)]
theorem aaS:aT O (aZ af avm):=aY ⟨asC,⟨⟩⟩
abbrev AM:Shape:=⟨[am 0,aj 5,aj 6],[],17⟩
abbrev Ia:List aR:=[(.ret,⟨[ar 2],[],17⟩),(.exit 0,⟨[am 0],[],17⟩)]
noncomputable def Bs(y:AM.J):bQ AM Ia:=
 bif(decide (y.1.2.2.1<y.1.2.1)) then
(aS y.1.1 y.1.2.2.1).bind fun a=>
(f231 (((a.toNat:Int),()),())).bind fun b=>
 bif(!b.1.1) then
 some (.inr (.inl ((false,()),())))
else
 some (.inl ((y.1.1,y.1.2.1,(IntKind.i64.wrap (y.1.2.2.1+(1:Int))),()),()))
else
 some (.inr (.inr ((y.1.1,()),())))
noncomputable def IW:AM.J->Option (aH Ia):=bA Bs
theorem am7:aV O (ap (codeOf Tryz.f195) 1 26) (aX AM Ia IW):=bT aaS (by kernel_rfl) ag fun y=>by kernel_rfl
abbrev i195:Shape:=⟨[am 0],[],17⟩
abbrev YG:Shape:=⟨[ar 2],[],17⟩
noncomputable def f195(a:i195.J):Option YG.J:=
(IW ((a.1.1,(a.1.1.length:Int),(0:Int),()),())).bind fun b=>
(match b with
|.inl c=>
 some ((c.1.1,()),())
|.inr d=>
 some (((!(d.1.1==([]:B))),()),()))
noncomputable def _U:aI:=aL af Tryz.f195 i195 YG [] f195
theorem asN:aF O 195 _U:=aM aaS Tryz.func195 (by kernel_rfl) (a7 am7 ag) (fun y=>by kernel_rfl) fun a=>by kernel_rfl
noncomputable abbrev avN:a8:=[(195,_U)]
theorem awK:aT O (aZ af avN):=aY ⟨asN,⟨⟩⟩
abbrev i147:Shape:=⟨[am 0],[],18⟩
abbrev Zd:Shape:=⟨[ar 2],[],18⟩
noncomputable def f147(a:i147.J):Option Zd.J:=
 bif(decide ((a.1.1.length:Int)<=(10:Int))) then
 bif(!(a.1.1==([46]:B))) then
 bif(!(a.1.1==([46,46]:B))) then
(f195 ((a.1.1,()),())).bind fun b=>
 some ((b.1.1,()),())
else
 some ((false,()),())
else
 some ((false,()),())
else
 some ((false,()),())
noncomputable def aan:aI:=aL af Tryz.f147 i147 Zd [] f147
theorem as8:aF O 147 aan:=aM awK Tryz.func147 (by kernel_rfl) ag (fun y=>by kernel_rfl) fun a=>by kernel_rfl
abbrev i196:Shape:=⟨[(0,.aq (.d (.int .u8)))],[],9⟩
abbrev YF:Shape:=⟨[ar 2],[],9⟩
noncomputable def f196(a:i196.J):Option YF.J:=
 bif(decide (a.1.1>=(32:Int))) then
 some (((decide (a.1.1<=(126:Int))),()),())
else
 some ((false,()),())
noncomputable def _T:aI:=aL af Tryz.f196 i196 YF [] f196
theorem z196:aF O 196 _T:=aM g0 Tryz.func196 (by kernel_rfl) ag (fun y=>by kernel_rfl) fun a=>by kernel_rfl
noncomputable abbrev avM:a8:=[(196,_T)]
theorem Mk:aT O (aZ af avM):=aY ⟨z196,⟨⟩⟩
abbrev Q2:Shape:=⟨[am 0,aj 3,aj 8,aj 9],[],24⟩
abbrev QI:List aR:=[(.norm,⟨[am 0,aj 8,aj 9,ar 22],[],24⟩)]
noncomputable def GD(y:Q2.J):Option (aH QI):=
(aS y.1.1 y.1.2.1).bind fun a=>
(f196 (((a.toNat:Int),()),())).bind fun b=>
 bif(!b.1.1) then
(aS y.1.1 y.1.2.1).bind fun c=>
 some ((y.1.1,y.1.2.2.1,y.1.2.2.2.1,((c.toNat:Int) !=(10:Int)),()),())
else
 some ((y.1.1,y.1.2.2.1,y.1.2.2.2.1,false,()),())
theorem ajf:aV O (ap (dk (ap (codeOf Tryz.f148) 1 58)) 116 7474) (aX Q2 QI GD):=cn Mk (by kernel_rfl) ag fun y=>by kernel_rfl
abbrev AY:Shape:=⟨[am 0,aj 8,aj 9],[],24⟩
abbrev Im:List aR:=[(.ret,⟨[ar 2],[],24⟩),(.exit 0,⟨[],[],24⟩)]
noncomputable def BD(y:AY.J):bQ AY Im:=
 bif(decide (y.1.2.2.1<y.1.2.1)) then
(GD ((y.1.1,y.1.2.2.1,y.1.2.1,y.1.2.2.1,()),())).bind fun a=>
 bif a.1.2.2.2.1 then
 some (.inr (.inl ((false,()),())))
else
 some (.inl ((a.1.1,a.1.2.1,(IntKind.i64.wrap (a.1.2.2.1+(1:Int))),()),()))
else
 some (.inr (.inr ((),())))
noncomputable def I4:AY.J->Option (aH Im):=bA BD
theorem anr:aV O (ap (codeOf Tryz.f148) 1 58) (aX AY Im I4):=bT Mk (by kernel_rfl) (a7 ajf ag) fun y=>by kernel_rfl
abbrev i148:Shape:=⟨[am 0],[],24⟩
abbrev Zc:Shape:=⟨[ar 2],[],24⟩
noncomputable def f148(a:i148.J):Option Zc.J:=
 bif(decide ((a.1.1.length:Int)>(80:Int))) then
 some ((false,()),())
else
(I4 ((a.1.1,(a.1.1.length:Int),(0:Int),()),())).bind fun b=>
(match b with
|.inl c=>
 some ((c.1.1,()),())
|.inr d=>
 some ((true,()),()))
noncomputable def aam:aI:=aL af Tryz.f148 i148 Zc [] f148
theorem z148:aF O 148 aam:=aM Mk Tryz.func148 (by kernel_rfl) (a7 anr ag) (fun y=>by kernel_rfl) fun a=>by kernel_rfl
noncomputable abbrev avl:a8:=[(147,aan)]
theorem Mf:aT O (aZ af avl):=aY ⟨as8,⟨⟩⟩
abbrev Sm:Shape:=⟨[ax 2 2 0,ax 3 3 0,am 4],[aw 2 [mn],aw 3 [ba]],17⟩
abbrev R5:List aR:=[(.norm,⟨[ax 2 2 0,ax 3 3 0,ar 16],[aw 2 [mn],aw 3 [ba]],17⟩)]
noncomputable def HH(y:Sm.J):Option (aH R5):=
 bif(!(decide (y.2.2.1.1>(5:Int)))) then
(f147 ((y.1.2.2.1,()),())).bind fun a=>
 some (((),(),(!a.1.1),()),(y.2.1.1,()),(y.2.2.1.1,()),())
else
 some (((),(),true,()),(y.2.1.1,()),(y.2.2.1.1,()),())
theorem alb:aV O (ap (kx (ap (codeOf Tryz.f199) 1 58)) 117 938) (aX Sm R5 HH):=cn Mf (by kernel_rfl) ag fun y=>by kernel_rfl
abbrev AK:Shape:=⟨[ax 2 2 0,ax 3 3 0],[aw 2 [mn],aw 3 [ba]],17⟩
abbrev H':List aR:=[(.norm,⟨[ax 2 2 0],[aw 2 [mn]],17⟩),(.ret,⟨[ax 2 2 0],[aw 2 [mn]],17⟩)]
noncomputable def tj(x:B)(y:AK.J):bQ AK H':=
(HH (((),(),x,()),(y.2.1.1,()),((IntKind.i64.wrap (y.2.2.1.1+(1:Int))),()),())).bind fun a=>
 bif a.1.2.2.1 then
 some (.inr (.inr (((),()),(false,()),())))
else
 some (.inl (((),(),()),(a.2.1.1,()),(a.2.2.1.1,()),()))
noncomputable def v7(y:AK.J):Option (aH H'):=
 some (.inl (((),()),(y.2.1.1,()),()))
theorem am5:aV O (ap (codeOf Tryz.f199) 1 58) (s3 266 6 AK H' tj v7):=Pv (fj:=7) Mf W_ (by kernel_rfl) (a7 alb ag) (by kernel_rfl) (fun x y=>by kernel_rfl) fun y=>by kernel_rfl
abbrev i199:Shape:=⟨[am 0],[],17⟩
abbrev YE:Shape:=⟨[ax 2 2 0],[aw 2 [mn]],17⟩
noncomputable def f199(a:i199.J):Option YE.J:=
(bif Nat.ble a.1.1.length kZ then iZ tj v7 (bO (47:UInt8) a.1.1) (((),(),()),(false,()),((0:Int),()),()) else none).bind fun b=>
(match b with
|.inl c=>
 some (((),()),(true,()),())
|.inr d=>
 some (((),()),(d.2.1.1,()),()))
noncomputable def LY:aI:=aL af Tryz.f199 i199 YE [] f199
theorem XG:aF O 199 LY:=aM Mf Tryz.func199 (by kernel_rfl) (a7 am5 ag) (fun y=>by kernel_rfl) fun a=>by kernel_rfl
noncomputable abbrev avJ:a8:=[(148,aam),(199,LY)]
theorem aaZ:aT O (aZ af avJ):=aY ⟨z148,XG,⟨⟩⟩
abbrev TE:Shape:=⟨[ax 1 1 0],[aw 1 [ah,ba,ba,ah]],39⟩
abbrev Ti:List aR:=[(.norm,⟨[ax 1 1 0,ar 16],[aw 1 [ah,ba,ba,ah]],39⟩)]
noncomputable def Jr(y:TE.J):Option (aH Ti):=
(f199 ((y.2.1.1,()),())).bind fun a=>
 bif(!(!a.2.1.1)) then
 bif(!(decide (y.2.1.2.2.1<(0:Int)))) then
 some (((),(decide (y.2.1.2.2.1>(7:Int))),()),(y.2.1.1,y.2.1.2.1,y.2.1.2.2.1,y.2.1.2.2.2.1,()),())
else
 some (((),true,()),(y.2.1.1,y.2.1.2.1,y.2.1.2.2.1,y.2.1.2.2.2.1,()),())
else
 some (((),true,()),(y.2.1.1,y.2.1.2.1,y.2.1.2.2.1,y.2.1.2.2.2.1,()),())
theorem anp:aV O (ap (codeOf Tryz.f152) 1 12) (aX TE Ti Jr):=cn aaZ (by kernel_rfl) ag fun y=>by kernel_rfl
abbrev i152:Shape:=⟨[ck 0 [ah,ba,ba,ah]],[],39⟩
abbrev Y':Shape:=⟨[ar 2],[],39⟩
noncomputable def f152(a:i152.J):Option Y'.J:=
(Jr (((),()),(a.1.1.1,a.1.1.2.1,a.1.1.2.2.1,a.1.1.2.2.2.1,()),())).bind fun b=>
 bif b.1.2.1 then
 some ((false,()),())
else
 bif(b.2.1.2.1==(1:Int)) then
 some (((b.2.1.2.2.2.1==([]:B)),()),())
else
 bif(b.2.1.2.1==(2:Int)) then
(f148 ((b.2.1.2.2.2.1,()),())).bind fun c=>
 some ((c.1.1,()),())
else
 bif(b.2.1.2.1==(3:Int)) then
 bif(b.2.1.2.2.1==(0:Int)) then
(f199 ((b.2.1.2.2.2.1,()),())).bind fun d=>
 some ((d.2.1.1,()),())
else
 some ((false,()),())
else
 some ((false,()),())
noncomputable def aaj:aI:=aL af Tryz.f152 i152 Y' [] f152
theorem z152:aF O 152 aaj:=aM aaZ Tryz.func152 (by kernel_rfl) (a7 anp ag) (fun y=>by kernel_rfl) fun a=>by kernel_rfl
def kw(n:Int):Bool:=(decide (97<=n)&&decide (n<=122))||(decide (48<=n)&&decide (n<=57))||n==46||n==95||n==45
theorem Qo(a):f146 a=some ((kw a.1.1,()),()):=by
 obtain⟨⟨n,u⟩,b8⟩:=a;simp only[f146,kw,ge_iff_le];generalize decide ((97:Int)<=n)=b1;generalize decide (n<=(122:Int))=b2;generalize decide ((48:Int)<=n)=b3;generalize decide (n<=(57:Int))=pm;generalize(n==(46:Int))=yE;generalize(n==(95:Int))=Ou;generalize(n==(45:Int))=Ot;cases b1<;>cases b2<;>cases b3<;>cases pm<;>cases yE<;>cases Ou<;>cases Ot<;>rfl
theorem ag9(a):f231 a=some ((kw a.1.1,()),()):=by
 obtain⟨⟨n,u⟩,b8⟩:=a;simp only[f231,kw,ge_iff_le];generalize decide ((97:Int)<=n)=b1;generalize decide (n<=(122:Int))=b2;generalize decide ((48:Int)<=n)=b3;generalize decide (n<=(57:Int))=pm;generalize(n==(46:Int))=yE;generalize(n==(95:Int))=Ou;generalize(n==(45:Int))=Ot;cases b1<;>cases b2<;>cases b3<;>cases pm<;>cases yE<;>cases Ou<;>cases Ot<;>rfl
def kC(s:B):Bool:=s.all (fun b=>kw b.toNat)&&within s.length 1 10&&!(s==[46])&&!(s==[46,46])
theorem aki(a)(hs:cw a.1.1.length):f91 a=some ((kC a.1.1,()),()):=by
 obtain⟨⟨s,u⟩,b8⟩:=a;have hs:s.length<=2097152:=hs;have key:J5 ((s,((0:Int),())),())=some (bif allI (fun _ b=>kw b.toNat) 0 s then .inr ((s,()),()) else .inl ((false,()),())):=by
  refine gw Cu s (fun i=>((s,((i:Int),())),())) _ _ _ (fun i x hx=>?_) ?_
  ·have hi:=da hx;have hw:aA i:=by unfold aA;omega
   simp only[Cu,ct hi,ad,cd,hx,Y,Qo,b9 hw];cases kw x.toNat<;>rfl
  ·simp only[Cu,dK,ak]
 rw[hF] at key;simp only[f91,key,Y,kC];cases List.all s (fun b=>kw b.toNat) with
 |false=>rfl
 |true=>
  simp only[ad,oF,Y,Bool.true_and];cases within (s.length:Int) 1 10<;>cases (s==[46])<;>rfl
theorem aka(a)(hs:cw a.1.1.length):f147 a=some ((kC a.1.1,()),()):=by
 obtain⟨⟨s,u⟩,b8⟩:=a;have hs:s.length<=2097152:=hs;have key:IW ((s,((s.length:Int),((0:Int),()))),())=some (bif allI (fun _ b=>kw b.toNat) 0 s then .inr ((s,()),()) else .inl ((false,()),())):=by
  refine gw Bs s (fun i=>((s,((s.length:Int),((i:Int),()))),())) _ _ _ (fun i x hx=>?_) ?_
  ·have hi:=da hx;have hw:aA i:=by unfold aA;omega
   simp only[Bs,ct hi,ad,cd,hx,Y,ag9,b9 hw];cases kw x.toNat<;>rfl
  ·simp only[Bs,dK,ak]
 rw[hF] at key;have xZ:f195 ((s,()),())=some ((List.all s (fun b=>kw b.toNat)&&!(s==([]:B)),()),()):=by
  simp only[f195,key,Y];cases List.all s (fun b=>kw b.toNat)<;>rfl
 have h1:decide ((1:Int)<=(s.length:Int))=!(s==([]:B)):=by
  cases s with
  |nil=>rfl
  |cons b r=>
   have:((b::r)==([]:B))=false:=rfl;simp only[cY];rw[this];simp only[bK,dW];omega
 simp only[f147,xZ,Y,kC,within,h1];cases decide ((s.length:Int)<=10)<;>cases (s==[46])<;>cases (s==[46,46])<;>cases List.all s (fun b=>kw b.toNat)<;>cases (s==([]:B))<;>rfl
def gJ(s:B):Bool:=(bO 47 s).all kC&&decide ((bO 47 s).length<=5)
theorem GN(a)(hs:cw a.1.1.length):f193 a=some ((gJ a.1.1,()),()):=by
 obtain⟨⟨s,u⟩,b8⟩:=a;have hs:s.length<=2097152:=hs;have hlen:=om 47 s;have gn:f73 ((s,((47:Int),((IntKind.i64.wrap ((s.length:Int)+(1:Int))),()))),())=some (((),()),(bO 47 s,())):=
  vN 47 _ hs rfl (b9 (by unfold aA;omega))
 have key:IY (((),((0:Int),())),(bO 47 s,()))=some (bif allI (fun _ x=>kC x) 0 (bO 47 s) then .inr (((),()),(bO 47 s,())) else .inl ((false,()),())):=by
  refine gw Bu (bO 47 s) (fun i=>(((),((i:Int),())),(bO 47 s,()))) _ _ _ (fun i x hx=>?_) ?_
  ·have hi:=da hx;have hw:aA i:=by unfold aA;omega
   have hxl:x.length<=s.length:=qL 47 s x (eK hx);simp only[Bu,ct hi,ad,fP hi,hx,Y];rw[aki _ (show x.length<=2097152 by omega)]
   simp only[Y,b9 hw];cases kC x<;>rfl
  ·simp only[Bu,dK,ak]
 rw[hF] at key;simp only[f193,gn,Y,key,gJ];cases List.all (bO 47 s) kC with
 |false=>rfl
 |true=>have:=Dw (bO 47 s).length 5;simp only[ad,Bool.true_and];rw[<-this];rfl
theorem GP(a)(hs:cw a.1.1.length):f199 a=some (((),()),((gJ a.1.1,()),())):=by
 obtain⟨⟨s,u⟩,b8⟩:=a;have hs:s.length<=2097152:=hs;have LC:Nat.ble s.length kZ=true:=Nat.ble_eq_true_of_le (by unfold kZ;omega)
 have fold:∀(r:List B) (k:Nat),(∀x,x∈r->x.length<=s.length)->k<=5->
   iZ tj v7 r (((),((),())),((false,()),(((k:Int),()),())))=
    some (bif r.all kC&&decide (k+r.length<=5) then(.inl (((),()),((false,()),()))) else(.inr (((),()),((false,()),())))):=by
  intro r;induction r with
  |nil=>
   intro k _ hk;have:decide (k+0<=5)=true:=by simpa using hk
   simp only[iZ,v7,List.all_nil,List.length_nil,this,Bool.and_self,ad]
  |cons x r ih=>
   intro k hr hk;have hx:=hr x cj;have lj:=aka ((x,()),()) (show x.length<=2097152 by omega)
   have hw:=b9 (i:=k) (by unfold aA;omega)
   have x0:decide (((k+1:Nat):Int)>5)=!decide (k+1<=5):=by by_cases h:k+1<=5<;>simp only[h,decide_true,decide_false,bu,bK,dW,decide_eq_false_iff_not]<;>omega
   have step:tj x (((),((),())),((false,()),(((k:Int),()),())))=
     some (bif kC x&&decide (k+1<=5) then .inl (((),((),())),((false,()),((((k+1:Nat):Int),()),()))) else .inr (.inr (((),()),((false,()),())))):=by
    simp only[tj,HH,hw,x0,Bool.not_not,lj,Y];cases decide (k+1<=5) with
    |false=>cases kC x<;>rfl
    |true=>cases kC x<;>rfl
   rw[iZ,step,List.all_cons];cases hn:kC x with
   |false=>rfl
   |true=>
    simp only[Bool.true_and];cases aC:decide (k+1<=5) with
    |false=>
     have:decide (k+(x::r).length<=5)=false:=by simp only[decide_eq_false_iff_not,cY] at aC ⊢;omega
     rw[this];simp
    |true=>
     simp only[ad];rw[ih (k+1) (fun y hy=>hr y (ci _ hy)) (by simpa using aC)]
     have e1:k+1+r.length=k+(x::r).length:=by simp only[cY];omega
     rw[e1]
 have key:=fold (bO (47:UInt8) s) 0 (fun x hx=>qL 47 s x hx) (Nat.zero_le _)
 have Lm:iZ tj v7 (bO (47:UInt8) s) (((),((),())),((false,()),(((0:Int),()),())))=some (bif gJ s then(.inl (((),()),((false,()),()))) else(.inr (((),()),((false,()),())))):=by
  refine key.trans ?_
  unfold gJ;rw[Nat.zero_add]
 simp only[f199,LC,ad,Lm,Y];cases gJ s<;>rfl
def oG(s:B):Bool:=s.all (fun b=>(b.toNat:Int)==10||within b.toNat 32 126)&&decide (s.length<=80)
theorem aie(b:UInt8):IntKind.i64.wrap (b.toNat:Int)=(b.toNat:Int):=by
 have:=b.toNat_lt;rw[c5 (by omega) (by omega)]
theorem akf(a)(hs:cw a.1.1.length):f92 a=some ((oG a.1.1,()),()):=by
 obtain⟨⟨s,u⟩,b8⟩:=a;have hs:s.length<=2097152:=hs;have key:J4 ((s,((0:Int),())),())=some (bif allI (fun _ b=>(b.toNat:Int)==10||within b.toNat 32 126) 0 s then .inr ((s,()),()) else .inl ((false,()),())):=by
  refine gw Ct s (fun i=>((s,((i:Int),())),())) _ _ _ (fun i x hx=>?_) ?_
  ·have hi:=da hx;have hw:aA i:=by unfold aA;omega
   have hne:((x.toNat:Int) !=10)=!((x.toNat:Int)==10):=rfl;simp only[Ct,ct hi,ad,Jg,cd,hx,Y,hne,oF,aie];cases ((x.toNat:Int)==10)<;>cases within (x.toNat:Int) 32 126<;>simp only[bu,bK,ad,ak,Y,b9 hw,Bool.or_true,Bool.true_or,Bool.or_false]
  ·simp only[Ct,dK,ak]
 rw[hF] at key;simp only[f92,key,Y,oG];cases List.all s (fun b=>(b.toNat:Int)==10||within b.toNat 32 126) with
 |false=>rfl
 |true=>have:=Dw s.length 80;simp only[ad,Bool.true_and];rw[<-this];rfl
theorem agb(a):f196 a=some ((within a.1.1 32 126,()),()):=by
 simp only[f196,within,ge_iff_le];cases decide ((32:Int)<=a.1.1)<;>rfl
theorem ahh(a)(hs:cw a.1.1.length):f148 a=some ((oG a.1.1,()),()):=by
 obtain⟨⟨s,u⟩,b8⟩:=a;have hs:s.length<=2097152:=hs;have key:I4 ((s,((s.length:Int),((0:Int),()))),())=some (bif allI (fun _ b=>(b.toNat:Int)==10||within b.toNat 32 126) 0 s then .inr ((),()) else .inl ((false,()),())):=by
  refine gw BD s (fun i=>((s,((s.length:Int),((i:Int),()))),())) _ _ _ (fun i x hx=>?_) ?_
  ·have hi:=da hx;have hw:aA i:=by unfold aA;omega
   have hne:((x.toNat:Int) !=10)=!((x.toNat:Int)==10):=rfl;simp only[BD,ct hi,ad,GD,cd,hx,Y,hne,agb];cases ((x.toNat:Int)==10)<;>cases within (x.toNat:Int) 32 126<;>simp only[bu,bK,ad,ak,Y,b9 hw,Bool.or_true,Bool.true_or,Bool.or_false]
  ·simp only[BD,dK,ak]
 rw[hF] at key;have azd:decide ((s.length:Int)>80)=!decide (s.length<=80):=by by_cases h:s.length<=80<;>simp only[h,decide_true,decide_false,bu,bK,dW,decide_eq_false_iff_not]<;>omega
 simp only[f148,key,Y,oG,azd];cases decide (s.length<=80)<;>cases List.all s (fun b=>(b.toNat:Int)==10||within b.toNat 32 126)<;>rfl
def e9(e:aB):Bool:=gJ e.path&&(bif e.kind==1 then within e.mode 0 7&&e.text==[] else bif e.kind==2 then within e.mode 0 7&&oG e.text else bif e.kind==3 then e.mode==0&&gJ e.text else false)
abbrev mh(e:aB):Prop:=cw e.path.length/\cw e.text.length
theorem Qn(a)(h1:cw a.1.1.1.length)(h2:cw a.1.1.2.2.2.1.length):f143 a=some ((e9 ⟨a.1.1.1,a.1.1.2.1,a.1.1.2.2.1,a.1.1.2.2.2.1⟩,()),()):=by
 obtain⟨⟨⟨p,k,m,t,u⟩,b8⟩,nT⟩:=a;have e1:=GN ((p,()),()) h1;have e2:=GN ((t,()),()) h2;have bE:=akf ((t,()),()) h2;simp only[f143,e1,e2,bE,oF,Y,e9];cases gJ p with
 |false=>rfl
 |true=>cases (k==1)<;>cases (k==2)<;>cases (k==3)<;>cases within m 0 7<;>cases (m==0)<;>rfl
theorem aiu(a)(h1:cw a.1.1.1.length)(h2:cw a.1.1.2.2.2.1.length):f152 a=some ((e9 ⟨a.1.1.1,a.1.1.2.1,a.1.1.2.2.1,a.1.1.2.2.2.1⟩,()),()):=by
 obtain⟨⟨⟨p,k,m,t,u⟩,b8⟩,nT⟩:=a;have e1:=GP ((p,()),()) h1;have e2:=GP ((t,()),()) h2;have bE:=ahh ((t,()),()) h2;have hm:within m 0 7=true\/(m==0)=false:=by
  cases h:(m==0) with
  |false=>exact .inr rfl
  |true=>left;rw[show m=(0:Int) from eq_of_beq h];rfl
 simp only[f152,Jr,e1,e2,bE,Y,e9,pa,n8,Bool.not_not];unfold within at hm ⊢;cases gJ p with
 |false=>rfl
 |true=>
  cases h0:decide ((0:Int)<=m)<;>cases iB:decide (m<=7)<;>rw[h0,iB] at hm<;>cases ac6:(m==0)<;>rw[ac6] at hm<;>
   first|(simp at hm;done)|(simp only[bu,bK,ad,ak,Y,ac6,e2,bE,Bool.and_true,Bool.and_false,Bool.true_and,Bool.false_and];cases (k==1)<;>cases (k==2)<;>cases (k==3)<;>rfl)
abbrev AN:Shape:=⟨[aO 0 .entry,am 1,aj 4,ar 5,aj 6],[],36⟩
abbrev s_:List aR:=[(.exit 0,⟨[aO 0 .entry,am 1,aj 4,ar 5,aj 6],[],36⟩)]
noncomputable def Bt(y:AN.J):bQ AN s_:=
 bif(decide (y.1.2.2.2.2.1<(y.1.1.length:Int))) then
(aS y.1.1 y.1.2.2.2.2.1).bind fun a=>
 bif(Op.bytesLess a.path y.1.2.1) then
 some (.inl ((y.1.1,y.1.2.1,y.1.2.2.1,y.1.2.2.2.1,(IntKind.i64.wrap (y.1.2.2.2.2.1+(1:Int))),()),()))
else
 some (.inr ((y.1.1,y.1.2.1,y.1.2.2.1,y.1.2.2.2.1,y.1.2.2.2.2.1,()),()))
else
 some (.inr ((y.1.1,y.1.2.1,y.1.2.2.1,y.1.2.2.2.1,y.1.2.2.2.2.1,()),()))
noncomputable def IX:AN.J->Option (aH s_):=bA Bt
theorem am8:aV O (ap (codeOf Tryz.f194) 1 28) (aX AN s_ IX):=bT g0 (by kernel_rfl) ag fun y=>by kernel_rfl
abbrev i194:Shape:=⟨[aO 0 .entry,am 1],[],36⟩
abbrev YH:Shape:=⟨[aj 4,ar 5],[],36⟩
noncomputable def f194(a:i194.J):Option YH.J:=
(IX ((a.1.1,a.1.2.1,(0:Int),false,(0:Int),()),())).bind fun b=>
 bif(decide (b.1.2.2.2.2.1<(b.1.1.length:Int))) then
(aS b.1.1 b.1.2.2.2.2.1).bind fun c=>
 some ((b.1.2.2.2.2.1,(c.path==b.1.2.1),()),())
else
 some ((b.1.2.2.2.2.1,false,()),())
noncomputable def DL:aI:=aL af Tryz.f194 i194 YH [] f194
theorem z194:aF O 194 DL:=aM g0 Tryz.func194 (by kernel_rfl) (a7 am8 ag) (fun y=>by kernel_rfl) fun a=>by kernel_rfl
noncomputable abbrev avO:a8:=[(194,DL)]
theorem awL:aT O (aZ af avO):=aY ⟨z194,⟨⟩⟩
abbrev i144:Shape:=⟨[aO 0 .entry,am 1],[],26⟩
abbrev Zg:Shape:=⟨[ar 4],[],26⟩
noncomputable def f144(a:i144.J):Option Zg.J:=
(f194 ((a.1.1,a.1.2.1,()),())).bind fun b=>
 bif(!(a.1.2.1==([]:B))) then
 bif b.1.2.1 then
(aS a.1.1 b.1.1).bind fun c=>
 some (((c.kind==(1:Int)),()),())
else
 some ((false,()),())
else
 some ((true,()),())
noncomputable def L7:aI:=aL af Tryz.f144 i144 Zg [] f144
theorem XK:aF O 144 L7:=aM awL Tryz.func144 (by kernel_rfl) ag (fun y=>by kernel_rfl) fun a=>by kernel_rfl
abbrev AZ:Shape:=⟨[am 0,aj 3],[],18⟩
abbrev Io:List aR:=[(.ret,⟨[am 2],[],18⟩),(.exit 0,⟨[],[],18⟩)]
noncomputable def Js(y:AZ.J):bQ AZ Io:=
 bif(decide (y.1.2.1>=(0:Int))) then
(aS y.1.1 y.1.2.1).bind fun a=>
 bif((a.toNat:Int)==(47:Int)) then
(bq y.1.1 (0:Int) y.1.2.1).bind fun b=>
 some (.inr (.inl ((b,()),())))
else
 some (.inl ((y.1.1,(IntKind.i64.wrap (y.1.2.1-(1:Int))),()),()))
else
 some (.inr (.inr ((),())))
noncomputable def I5:AZ.J->Option (aH Io):=bA Js
theorem ans:aV O (ap (codeOf Tryz.f145) 1 26) (aX AZ Io I5):=bT g0 (by kernel_rfl) ag fun y=>by kernel_rfl
abbrev i145:Shape:=⟨[am 0],[],18⟩
abbrev Zf:Shape:=⟨[am 2],[],18⟩
noncomputable def f145(a:i145.J):Option Zf.J:=
(I5 ((a.1.1,(IntKind.i64.wrap ((a.1.1.length:Int)-(1:Int))),()),())).bind fun b=>
(match b with
|.inl c=>
 some ((c.1.1,()),())
|.inr d=>
 some ((([]:B),()),()))
noncomputable def L6:aI:=aL af Tryz.f145 i145 Zf [] f145
theorem z145:aF O 145 L6:=aM g0 Tryz.func145 (by kernel_rfl) (a7 ans ag) (fun y=>by kernel_rfl) fun a=>by kernel_rfl
abbrev AD:Shape:=⟨[am 0,(1,.aq (.d (.int .u8))),aj 5],[],19⟩
abbrev H4:List aR:=[(.ret,⟨[aj 4],[],19⟩),(.exit 0,⟨[],[],19⟩)]
noncomputable def Jm(y:AD.J):bQ AD H4:=
 bif(decide (y.1.2.2.1>=(0:Int))) then
(aS y.1.1 y.1.2.2.1).bind fun a=>
 bif((a.toNat:Int)==y.1.2.1) then
 some (.inr (.inl ((y.1.2.2.1,()),())))
else
 some (.inl ((y.1.1,y.1.2.1,(IntKind.i64.wrap (y.1.2.2.1-(1:Int))),()),()))
else
 some (.inr (.inr ((),())))
noncomputable def IS:AD.J->Option (aH H4):=bA Jm
theorem amV:aV O (ap (codeOf Tryz.f267) 1 26) (aX AD H4 IS):=bT g0 (by kernel_rfl) ag fun y=>by kernel_rfl
abbrev i267:Shape:=⟨[am 0,(1,.aq (.d (.int .u8)))],[],19⟩
abbrev X9:Shape:=⟨[aj 4],[],19⟩
noncomputable def f267(a:i267.J):Option X9.J:=
(IS ((a.1.1,a.1.2.1,(IntKind.i64.wrap ((a.1.1.length:Int)-(1:Int))),()),())).bind fun b=>
(match b with
|.inl c=>
 some ((c.1.1,()),())
|.inr d=>
 some ((((-1):Int),()),()))
noncomputable def _s:aI:=aL af Tryz.f267 i267 X9 [] f267
theorem ass:aF O 267 _s:=aM g0 Tryz.func267 (by kernel_rfl) (a7 amV ag) (fun y=>by kernel_rfl) fun a=>by kernel_rfl
noncomputable abbrev au4:a8:=[(267,_s)]
theorem awq:aT O (aZ af au4):=aY ⟨ass,⟨⟩⟩
abbrev i233:Shape:=⟨[am 0,(1,.aq (.d (.int .u8)))],[],8⟩
abbrev Yi:Shape:=⟨[aj 4],[],8⟩
noncomputable def f233(a:i233.J):Option Yi.J:=
(f267 ((a.1.1,a.1.2.1,()),())).bind fun b=>
 some ((b.1.1,()),())
noncomputable def _C:aI:=aL af Tryz.f233 i233 Yi [] f233
theorem z233:aF O 233 _C:=aM awq Tryz.func233 (by kernel_rfl) ag (fun y=>by kernel_rfl) fun a=>by kernel_rfl
noncomputable abbrev avk:a8:=[(199,LY),(233,_C)]
theorem awz:aT O (aZ af avk):=aY ⟨XG,z233,⟨⟩⟩
abbrev i200:Shape:=⟨[am 0],[],11⟩
abbrev YD:Shape:=⟨[am 2],[],11⟩
noncomputable def f200(a:i200.J):Option YD.J:=
(f199 ((a.1.1,()),())).bind fun b=>
 bif(!b.2.1.1) then
 some ((([]:B),()),())
else
(f233 ((a.1.1,(47:Int),()),())).bind fun c=>
(bq a.1.1 (0:Int) (hd c.1.1 (0:Int))).bind fun d=>
 some ((d,()),())
noncomputable def _R:aI:=aL af Tryz.f200 i200 YD [] f200
theorem asL:aF O 200 _R:=aM awz Tryz.func200 (by kernel_rfl) ag (fun y=>by kernel_rfl) fun a=>by kernel_rfl
abbrev i283:Shape:=⟨[am 0],[],6⟩
abbrev X3:Shape:=⟨[ar 2],[],6⟩
noncomputable def f283(a:i283.J):Option X3.J:=
 some (((!(a.1.1==a.1.1)),()),())
noncomputable def _l:aI:=aL af Tryz.f283 i283 X3 [] f283
theorem asl:aF O 283 _l:=aM g0 Tryz.func283 (by kernel_rfl) ag (fun y=>by kernel_rfl) fun a=>by kernel_rfl
noncomputable abbrev auX:a8:=[(283,_l)]
theorem awl:aT O (aZ af auX):=aY ⟨asl,⟨⟩⟩
abbrev i268:Shape:=⟨[am 0,am 1],[],20⟩
abbrev X8:Shape:=⟨[aj 4],[],20⟩
noncomputable def f268(a:i268.J):Option X8.J:=
(f283 ((a.1.1,()),())).bind fun b=>
(f283 ((a.1.2.1,()),())).bind fun c=>
 bif b.1.1 then
 bif c.1.1 then
 some (((0:Int),()),())
else
 some ((((-1):Int),()),())
else
 bif c.1.1 then
 some (((1:Int),()),())
else
 bif(Op.bytesLess a.1.1 a.1.2.1) then
 some ((((-1):Int),()),())
else
 bif(!(Op.bytesLess a.1.1 a.1.2.1||a.1.1==a.1.2.1)) then
 some (((1:Int),()),())
else
 some (((0:Int),()),())
noncomputable def _r:aI:=aL af Tryz.f268 i268 X8 [] f268
theorem asr:aF O 268 _r:=aM awl Tryz.func268 (by kernel_rfl) ag (fun y=>by kernel_rfl) fun a=>by kernel_rfl
noncomputable abbrev au3:a8:=[(268,_r)]
theorem awp:aT O (aZ af au3):=aY ⟨asr,⟨⟩⟩
abbrev i235:Shape:=⟨[ck 0 [ah,ba,ba,ah],ck 1 [ah,ba,ba,ah]],[],10⟩
abbrev Yh:Shape:=⟨[aj 4],[],10⟩
noncomputable def f235(a:i235.J):Option Yh.J:=
(f268 ((a.1.1.1,a.1.2.1.1,()),())).bind fun b=>
 some ((b.1.1,()),())
noncomputable def _B:aI:=aL af Tryz.f235 i235 Yh [] f235
theorem asB:aF O 235 _B:=aM awp Tryz.func235 (by kernel_rfl) ag (fun y=>by kernel_rfl) fun a=>by kernel_rfl
noncomputable abbrev aqp:a8:=[(235,_B)]
theorem WE:aT O (aZ af aqp):=aY ⟨asB,⟨⟩⟩
abbrev zi:Shape:=⟨[aO 0 .entry,(2,.aq (.fn 235 [])),ax 4 4 0,aj 6,ar 7,aj 8,aj 9,aj 10],[aw 4 [ah,ba,ba,ah]],49⟩
abbrev F1:List aR:=[(.exit 0,⟨[aO 0 .entry,(2,.aq (.fn 235 [])),ax 4 4 0,aj 6,ar 7,aj 8,aj 9],[aw 4 [ah,ba,ba,ah]],49⟩)]
noncomputable def zw(y:zi.J):bQ zi F1:=
 bif(decide (y.1.2.2.2.2.2.2.1<y.1.2.2.2.2.2.2.2.1)) then
(fE .u64 (IntKind.u64.wrap (IntKind.i64.wrap (y.1.2.2.2.2.2.2.1+y.1.2.2.2.2.2.2.2.1))) (1:Int)).bind fun a=>
(aS y.1.1 (IntKind.i64.wrap a)).bind fun b=>
(f235 (((b.path,b.kind,b.mode,b.text,()),(y.2.1.1,y.2.1.2.1,y.2.1.2.2.1,y.2.1.2.2.2.1,()),()),())).bind fun c=>
 bif(decide (c.1.1<(0:Int))) then
 some (.inl ((y.1.1,(),(),y.1.2.2.2.1,y.1.2.2.2.2.1,y.1.2.2.2.2.2.1,(IntKind.i64.wrap ((IntKind.i64.wrap a)+(1:Int))),y.1.2.2.2.2.2.2.2.1,()),(y.2.1.1,y.2.1.2.1,y.2.1.2.2.1,y.2.1.2.2.2.1,()),()))
else
 some (.inl ((y.1.1,(),(),y.1.2.2.2.1,y.1.2.2.2.2.1,y.1.2.2.2.2.2.1,y.1.2.2.2.2.2.2.1,(IntKind.i64.wrap a),()),(y.2.1.1,y.2.1.2.1,y.2.1.2.2.1,y.2.1.2.2.2.1,()),()))
else
 some (.inr ((y.1.1,(),(),y.1.2.2.2.1,y.1.2.2.2.2.1,y.1.2.2.2.2.2.1,y.1.2.2.2.2.2.2.1,()),(y.2.1.1,y.2.1.2.1,y.2.1.2.2.1,y.2.1.2.2.2.1,()),()))
noncomputable def zu:zi.J->Option (aH F1):=bA zw
theorem ai6:aV O (ap (codeOf Tryz.f234) 1 60) (aX zi F1 zu):=bT WE (by kernel_rfl) ag fun y=>by kernel_rfl
abbrev VQ:Shape:=⟨[aO 0 .entry,ck 1 [ah,ba,ba,ah],(2,.aq (.fn 235 []))],[],49⟩
abbrev Vm:Shape:=⟨[aj 6,ar 7],[],49⟩
noncomputable def CI(a:VQ.J):Option Vm.J:=
(zu ((a.1.1,(),(),(0:Int),false,(a.1.1.length:Int),(0:Int),(a.1.1.length:Int),()),(a.1.2.1.1,a.1.2.1.2.1,a.1.2.1.2.2.1,a.1.2.1.2.2.2.1,()),())).bind fun b=>
 bif(decide (b.1.2.2.2.2.2.2.1<b.1.2.2.2.2.2.1)) then
(aS b.1.1 b.1.2.2.2.2.2.2.1).bind fun c=>
(f235 (((c.path,c.kind,c.mode,c.text,()),(b.2.1.1,b.2.1.2.1,b.2.1.2.2.1,b.2.1.2.2.2.1,()),()),())).bind fun d=>
 some ((b.1.2.2.2.2.2.2.1,(d.1.1==(0:Int)),()),())
else
 some ((b.1.2.2.2.2.2.2.1,false,()),())
noncomputable def Wp:aI:=aL af Tryz.f234 VQ Vm [] CI
theorem aoD:aF O 234 Wp:=aM WE Tryz.func234 (by kernel_rfl) (a7 ai6 ag) (fun y=>by kernel_rfl) fun a=>by kernel_rfl
noncomputable abbrev avj:a8:=[(234,Wp)]
theorem awy:aT O (aZ af avj):=aY ⟨aoD,⟨⟩⟩
abbrev i201:Shape:=⟨[aO 0 .entry,am 1],[],12⟩
abbrev YC:Shape:=⟨[aj 4,ar 5],[],12⟩
noncomputable def f201(a:i201.J):Option YC.J:=
(CI ((a.1.1,(a.1.2.1,(0:Int),(0:Int),([]:B),()),(),()),())).bind fun b=>
 some ((b.1.1,b.1.2.1,()),())
noncomputable def LX:aI:=aL af Tryz.f201 i201 YC [] f201
theorem z201:aF O 201 LX:=aM awy Tryz.func201 (by kernel_rfl) ag (fun y=>by kernel_rfl) fun a=>by kernel_rfl
theorem wF:∀a:B,Op.bytesLess a a=false:=by
 intro a;induction a with
 |nil=>rfl
 |cons b r ih=>simp[Op.bytesLess,ih]
theorem vM:∀a b c:B,Op.bytesLess a b=true->Op.bytesLess b c=true->Op.bytesLess a c=true:=by
 intro a;induction a with
 |nil=>intro b c h1 h2;cases c with
  |nil=>cases b<;>simp[Op.bytesLess] at h2
  |cons z c=>rfl
 |cons x a ih=>
  intro b c h1 h2;cases b with
  |nil=>simp[Op.bytesLess] at h1
  |cons y b=>
   cases c with
   |nil=>simp[Op.bytesLess] at h2
   |cons z c=>
    simp only[Op.bytesLess,Bool.or_eq_true,dW,bz,beq_iff_eq] at h1 h2 ⊢;rcases h1 with h1|⟨rfl,h1⟩
    ·rcases h2 with h2|⟨rfl,h2⟩
     ·exact .inl (UInt8.lt_trans h1 h2)
     ·exact .inl h1
    ·rcases h2 with h2|⟨rfl,h2⟩
     ·exact .inl h2
     ·exact .inr ⟨rfl,ih b c h1 h2⟩
theorem aqf:∀a b:B,Op.bytesLess a b=false->(a==b)=false->Op.bytesLess b a=true:=by
 intro a;induction a with
 |nil=>intro b h1 h2;cases b with
  |nil=>simp at h2
  |cons y b=>simp[Op.bytesLess] at h1
 |cons x a ih=>
  intro b h1 h2;cases b with
  |nil=>rfl
  |cons y b=>
   simp only[Op.bytesLess,Bool.or_eq_false_iff,decide_eq_false_iff_not,Bool.and_eq_false_iff,beq_eq_false_iff_ne,ne_eq] at h1;simp only[Op.bytesLess,Bool.or_eq_true,dW,bz,beq_iff_eq];by_cases hxy:x=y
   ·subst hxy;refine .inr ⟨rfl,ih b ?_ ?_⟩
    ·rcases h1.2 with h|h
     ·exact absurd rfl h
     ·exact h
    ·cases h:(a==b) with
     |false=>rfl
     |true=>rw[eq_of_beq h] at h2;simp at h2
   ·exact .inl (by
     have:=h1.1;rcases UInt8.lt_or_lt_of_ne (fun h=>hxy h) with h|h
     ·exact absurd h this
     ·exact h)
theorem aoq{a b:B}(h:Op.bytesLess a b=true):Op.bytesLess b a=false:=by
 cases h2:Op.bytesLess b a with
 |false=>rfl
 |true=>have:=vM a b a h h2;rw[wF] at this;cases this
theorem ar2{a b:B}(h:Op.bytesLess a b=true):(a==b)=false:=by
 cases h2:(a==b) with
 |false=>rfl
 |true=>rw[eq_of_beq h2,wF] at h;cases h
theorem aop:∀(s:B) (i:Nat),i<s.length->Op.bytesLess (s.take i) s=true:=by
 intro s;induction s with
 |nil=>intro i h;simp at h
 |cons b r ih=>
  intro i h;cases i with
  |zero=>rfl
  |succ i=>simp only[List.take_succ_cons,Op.bytesLess];simp[ih i (by simpa using h)]
def lL(c:UInt8)(s:B):Nat->Option Nat
 |0=>none
 |n+1=>match s[n]? with
  |some b=>bif(b.toNat:Int)==(c.toNat:Int) then some n else lL c s n
  |none=>none
theorem O9{c:UInt8}{s:B}:∀{n i:Nat},lL c s n=some i->i<n/\i<s.length:=by
 intro n;induction n with
 |zero=>intro i h;cases h
 |succ n ih=>
  intro i h;simp only[lL] at h;split at h
  ·rename_i b hb;cases hc:((b.toNat:Int)==(c.toNat:Int)) with
   |true=>rw[hc] at h;cases h;exact⟨Nat.lt_succ_self _,da hb⟩
   |false=>rw[hc] at h;have:=ih h;omega
  ·cases h
def jr(s:B):B:=match lL 47 s s.length with
 |some i=>s.take i
 |none=>[]
theorem aku{s:B}(h:(jr s==[])=false):Op.bytesLess (jr s) s=true:=by
 unfold jr at h ⊢;split
 ·rename_i i hi;exact aop s i (O9 hi).2
 ·rename_i hi;rw[hi] at h;cases h
theorem UI(a)(hs:cw a.1.1.length):f145 a=some ((jr a.1.1,()),()):=by
 obtain⟨⟨s,u⟩,b8⟩:=a;have hs:s.length<=2097152:=hs;have key:∀n,n<=s.length->I5 ((s,((n:Int)-1,())),())=some (match lL 47 s n with|some i=>.inl ((s.take i,()),())|none=>.inr ((),())):=by
  intro n;induction n with
  |zero=>intro _;exact cC (by rfl)
  |succ n ih=>
   intro hn;have e:((n+1:Nat):Int)-1=(n:Int):=by omega
   obtain⟨b,hb⟩:∃b,s[n]? =some b:=⟨s[n],d_ hn⟩;have h0:decide ((n:Int)>=0)=true:=by simp
   rw[e];simp only[lL,hb];cases hc:((b.toNat:Int)==((47:UInt8).toNat:Int)) with
   |true=>
    refine cC ?_
    simp only[Js,h0,ad,cd,hb,Y];rw[show((b.toNat:Int)==47)=true from hc,gx (by omega)]
    rfl
   |false=>
    refine(ea ?_).trans (ih (by omega))
    simp only[Js,h0,ad,cd,hb,Y];rw[show((b.toNat:Int)==47)=false from hc,c5 (by omega) (by omega)]
    rfl
 have hw:IntKind.i64.wrap ((s.length:Int)-1)=(s.length:Int)-1:=c5 (by omega) (by omega)
 simp only[f145,hw,key s.length (Nat.le_refl _),Y,jr];cases lL 47 s s.length<;>rfl
theorem agj(a)(hs:cw a.1.1.length)(aze:a.1.2.1=47):f267 a=some (((match lL 47 a.1.1 a.1.1.length with|some i=>(i:Int)|none=>-1),()),()):=by
 obtain⟨⟨s,c,u⟩,b8⟩:=a;obtain rfl:c=47:=aze;have hs:s.length<=2097152:=hs;have key:∀n,n<=s.length->IS ((s,((47:Int),((n:Int)-1,()))),())=some (match lL 47 s n with|some i=>.inl (((i:Int),()),())|none=>.inr ((),())):=by
  intro n;induction n with
  |zero=>intro _;exact cC (by rfl)
  |succ n ih=>
   intro hn;have e:((n+1:Nat):Int)-1=(n:Int):=by omega
   obtain⟨b,hb⟩:∃b,s[n]? =some b:=⟨s[n],d_ hn⟩;have h0:decide ((n:Int)>=0)=true:=by simp
   rw[e];simp only[lL,hb];cases hc:((b.toNat:Int)==((47:UInt8).toNat:Int)) with
   |true=>
    refine cC ?_
    simp only[Jm,h0,ad,cd,hb,Y];rw[show((b.toNat:Int)==47)=true from hc]
    rfl
   |false=>
    refine(ea ?_).trans (ih (by omega))
    simp only[Jm,h0,ad,cd,hb,Y];rw[show((b.toNat:Int)==47)=false from hc,c5 (by omega) (by omega)]
    rfl
 have hw:IntKind.i64.wrap ((s.length:Int)-1)=(s.length:Int)-1:=c5 (by omega) (by omega)
 simp only[f267,hw,key s.length (Nat.le_refl _),Y];cases lL 47 s s.length<;>rfl
theorem akp(a)(hs:cw a.1.1.length):f200 a=some (((bif gJ a.1.1 then jr a.1.1 else []),()),()):=by
 obtain⟨⟨s,u⟩,b8⟩:=a;have hs:s.length<=2097152:=hs;have e1:=GP ((s,()),()) hs;have e2:=agj ((s,((47:Int),())),()) hs rfl;simp only[f200,e1,Y,f233,e2];cases gJ s with
 |false=>rfl
 |true=>
  simp only[bu,ak,ad];unfold jr;cases hl:lL 47 s s.length with
  |none=>
   have:hd (-1) 0=0:=by decide
   simp only[this];have:=gx (xs:=s) (b:=0) (Nat.zero_le _);have this:bq s 0 0=some (s.take 0):=this;rw[this];rfl
  |some i=>
   have hi:=(O9 hl).2;have:hd (i:Int) 0=(i:Int):=by unfold hd;rw[if_neg (by omega)]
   simp only[this];rw[gx (by omega)];rfl
def bW(t:List aB)(p:B):Nat:=(t.takeWhile fun e=>Op.bytesLess e.path p).length
def g'(t:List aB)(p:B):Bool:=match t[bW t p]? with
 |some e=>e.path==p
 |none=>false
def k2(t:List aB)(p:B):Bool:=p==[]||match t[bW t p]? with
 |some e=>e.path==p&&e.kind==1
 |none=>false
theorem q_(t:List aB)(p:B):bW t p<=t.length:=(List.takeWhile_prefix _).length_le
theorem JF(a)(hs:cw a.1.1.length):f194 a=some (((bW a.1.1 a.1.2.1:Int),(g' a.1.1 a.1.2.1,())),()):=by
 obtain⟨⟨t,p,u⟩,b8⟩:=a;have hs:t.length<=2097152:=hs;have key:IX ((t,(p,((0:Int),(false,((0:Int),()))))),())=_:=Gk Bt t (fun i (_:Unit)=>((t,(p,((0:Int),(false,((i:Int),()))))),()))
  (fun i e _=>some (bif Op.bytesLess e.path p then .inl () else .inr ((((t,(p,((0:Int),(false,((i:Int),()))))),())):aH s_))) (fun _=>((t,(p,((0:Int),(false,((t.length:Int),()))))),())) (fun i e s he=>?_) (fun s=>?_) ()
 ·have fold:∀(r:List aB) (k:Nat),k+r.length=t.length->fh (fun i (e:aB) (_:Unit)=>some (bif Op.bytesLess e.path p then .inl () else .inr ((((t,(p,((0:Int),(false,((i:Int),()))))),())):aH s_))) (fun _=>(((t,(p,((0:Int),(false,((t.length:Int),()))))),()):aH s_)) k r ()=
    some ((t,(p,((0:Int),(false,(((k+(r.takeWhile fun e=>Op.bytesLess e.path p).length:Nat):Int),()))))),()):=by
   intro r;induction r with
   |nil=>intro k hk;simp only[fh,List.takeWhile_nil,List.length_nil,Nat.add_zero] at hk ⊢;rw[hk]
   |cons e r ih=>
    intro k hk;simp only[fh,List.takeWhile_cons];cases hl:Op.bytesLess e.path p with
    |false=>rfl
    |true=>
     simp only[ad,if_true,cY];rw[ih (k+1) (by simp only[cY] at hk;omega)]
     have:k+1+(r.takeWhile fun e=>Op.bytesLess e.path p).length=k+((r.takeWhile fun e=>Op.bytesLess e.path p).length+1):=by omega
     rw[this]
  rw[fold t 0 (Nat.zero_add _),Nat.zero_add] at key;have hk:(t.takeWhile fun e=>Op.bytesLess e.path p).length=bW t p:=rfl
  rw[hk] at key;simp only[f194,key,Y,g',cd];cases ay:t[bW t p]? with
  |none=>
   have:=List.getElem?_eq_none_iff.1 ay;have:decide ((bW t p:Int)<(t.length:Int))=false:=by simp only[decide_eq_false_iff_not];omega
   rw[this];rfl
  |some e=>rw[ct (da ay)];rfl
 ·have hi:=da he;have hw:aA i:=by unfold aA;omega
  simp only[Bt,ct hi,ad,cd,he,Y,b9 hw];cases Op.bytesLess e.path p<;>rfl
 ·simp only[Bt,dK,ak]
theorem S0(a)(hs:cw a.1.1.length):f144 a=some ((k2 a.1.1 a.1.2.1,()),()):=by
 obtain⟨⟨t,p,u⟩,b8⟩:=a;have e1:=JF ((t,(p,())),()) hs;simp only[f144,e1,Y,k2,g',cd];cases (p==[]) with
 |true=>rfl
 |false=>
  cases ay:t[bW t p]? with
  |none=>rfl
  |some e=>simp only[bK,ad,Y,Bool.false_or];cases (e.path==p)<;>rfl
def ga(t:List aB):Prop:=t.Pairwise fun a b=>Op.bytesLess a.path b.path=true
theorem ga.take{t:List aB}(h:ga t)(i:Nat):ga (t.take i):=List.Pairwise.sublist (List.take_sublist i t) h
theorem kU:∀{t:List aB} {p:B},ga t->∀(h:Nat) (e:aB),t[h]? =some e->Op.bytesLess e.path p=decide (h<bW t p):=by
 intro t p;induction t with
 |nil=>intro _ h e he;simp at he
 |cons x t ih=>
  intro ha h e he;have fJ:=List.pairwise_cons.1 ha;unfold bW;rw[List.takeWhile_cons];cases hx:Op.bytesLess x.path p with
  |true=>
   simp only[if_true,cY];cases h with
   |zero=>simp only[List.getElem?_cons_zero,bH] at he;subst he;rw[hx];simp
   |succ h=>
    simp only[List.getElem?_cons_succ] at he;rw[ih fJ.2 h e he];unfold bW;congr 1;apply propext;omega
  |false=>
   have:(decide (h<(if false=true then x::t.takeWhile (fun e=>Op.bytesLess e.path p) else []).length))=false:=by simp
   rw[this];cases h with
   |zero=>simp only[List.getElem?_cons_zero,bH] at he;subst he;exact hx
   |succ h=>
    simp only[List.getElem?_cons_succ] at he;have h2:=fJ.1 e (eK he);cases h3:Op.bytesLess e.path p with
    |false=>rfl
    |true=>have:=vM _ _ _ h2 h3;rw[hx] at this;cases this
def uu(a b:B):Int:=bif Op.bytesLess a b then-1 else bif a==b then 0 else 1
theorem GO(a):f235 a=some ((uu a.1.1.1 a.1.2.1.1,()),()):=by
 obtain⟨⟨⟨p,ep⟩,⟨⟨q,gr⟩,jX⟩⟩,ad6⟩:=a;have h1:(p==p)=true:=by simp
 have h2:(q==q)=true:=by simp
 simp only[f235,f268,f283,Y,h1,h2,bu,ak,uu];cases Op.bytesLess p q<;>cases (p==q)<;>rfl
theorem SR(a b:B):decide (uu a b<0)=Op.bytesLess a b:=by
 unfold uu;cases Op.bytesLess a b<;>cases (a==b)<;>rfl
theorem aj0(a b:B):(uu a b==0)=(a==b):=by
 unfold uu;cases h:Op.bytesLess a b with
 |true=>rw[ar2 h];rfl
 |false=>cases (a==b)<;>rfl
theorem atE{n:Nat}(h:n<=1099511627776):fE .u64 (IntKind.u64.wrap (IntKind.i64.wrap (n:Int))) 1=some (((n/2:Nat)):Int):=by
 rw[c5 (by omega) (by omega)]
 have:IntKind.u64.wrap (n:Int)=(n:Int):=by
  simp[IntKind.wrap,IntKind.bits,IntKind.signed];omega
 rw[this];unfold fE;rw[if_neg (by decide)]
 congr 1
 show Int.fdiv (n:Int) 2=_;rw[Int.fdiv_eq_ediv_of_nonneg _ (by decide)]
 omega
theorem Pe(a)(hs:cw a.1.1.length)(ha:ga a.1.1):f201 a=some (((bW a.1.1 a.1.2.1:Int),(g' a.1.1 a.1.2.1,())),()):=by
 obtain⟨⟨t,p,u⟩,b8⟩:=a;have hs:t.length<=2097152:=hs;have E0:=q_ t p;have key:∀d i j:Nat,j-i=d->i<=bW t p->bW t p<=j->j<=t.length->
   zu ((t,((),((),((0:Int),(false,((t.length:Int),((i:Int),((j:Int),())))))))),((p,((0:Int),((0:Int),(([]:B),())))),()))=
    some (((t,((),((),((0:Int),(false,((t.length:Int),((bW t p:Int),()))))))),((p,((0:Int),((0:Int),(([]:B),())))),()))):=by
  intro d;induction d using Nat.strongRecOn with
  |_ d ih=>
   intro i j aa hi hj hl;by_cases qv:i<j
   ·have bV:(i+j)/2<t.length:=by omega
    obtain⟨e,he⟩:∃e,t[(i+j)/2]? =some e:=⟨t[(i+j)/2],d_ bV⟩;have hsh:fE .u64 (IntKind.u64.wrap (IntKind.i64.wrap ((i:Int)+(j:Int)))) 1=some ((((i+j)/2:Nat)):Int):=by
     rw[<-atE (n:=i+j) (by omega)];rw[Int.natCast_add]
    have acC:IntKind.i64.wrap (((i+j)/2:Nat):Int)=(((i+j)/2:Nat):Int):=c5 (by omega) (by omega)
    have o6:=kU (t:=t) (p:=p) ha ((i+j)/2) e he;cases hb:Op.bytesLess e.path p with
    |true=>
     rw[hb] at o6;have hlt:(i+j)/2<bW t p:=by simpa using o6.symm
     refine(ea ?_).trans (ih (j-((i+j)/2+1)) (by omega) ((i+j)/2+1) j rfl (by omega) hj hl)
     simp only[zw,ct qv,ad,hsh,acC,cd,he,Y,GO,SR,hb,b9 (i:=(i+j)/2) (by unfold aA;omega)]
    |false=>
     rw[hb] at o6;have hge:¬(i+j)/2<bW t p:=by simpa using o6.symm
     refine(ea ?_).trans (ih ((i+j)/2-i) (by omega) i ((i+j)/2) rfl hi (by omega) (by omega))
     simp only[zw,ct qv,ad,hsh,acC,cd,he,Y,GO,SR,hb,ak]
   ·have jU:i=bW t p:=by omega
    have hlt:decide ((i:Int)<(j:Int))=false:=by simp only[decide_eq_false_iff_not];omega
    refine cC ?_
    simp only[zw,hlt,ak];rw[jU]
 have jZ:zu ((t,((),((),((0:Int),(false,((t.length:Int),((0:Int),((t.length:Int),())))))))),((p,((0:Int),((0:Int),(([]:B),())))),()))=_:=key t.length 0 t.length (Nat.sub_zero _) (Nat.zero_le _) E0 (Nat.le_refl _);have Z:CI ((t,((p,((0:Int),((0:Int),(([]:B),())))),((),()))),())=some (((bW t p:Int),(g' t p,())),()):=by
  simp only[CI,jZ,Y,g',cd,GO,aj0];cases ay:t[bW t p]? with
  |none=>
   have:=List.getElem?_eq_none_iff.1 ay;have:decide ((bW t p:Int)<(t.length:Int))=false:=by simp only[decide_eq_false_iff_not];omega
   rw[this];rfl
  |some e=>rw[ct (da ay)];rfl
 simp only[f201,Z,Y]
noncomputable abbrev avI:a8:=[(200,_R),(201,LX)]
theorem awI:aT O (aZ af avI):=aY ⟨asL,z201,⟨⟩⟩
abbrev i153:Shape:=⟨[aO 0 .entry,am 1],[],27⟩
abbrev Y_:Shape:=⟨[ar 4],[],27⟩
noncomputable def f153(a:i153.J):Option Y_.J:=
(f200 ((a.1.2.1,()),())).bind fun b=>
 bif(b.1.1==([]:B)) then
 some ((true,()),())
else
(f201 ((a.1.1,b.1.1,()),())).bind fun c=>
 bif c.1.2.1 then
(aS a.1.1 c.1.1).bind fun d=>
 some (((d.kind==(1:Int)),()),())
else
 some ((false,()),())
noncomputable def aai:aI:=aL af Tryz.f153 i153 Y_ [] f153
theorem as5:aF O 153 aai:=aM awI Tryz.func153 (by kernel_rfl) ag (fun y=>by kernel_rfl) fun a=>by kernel_rfl
noncomputable abbrev awf:a8:=[(152,aaj),(153,aai)]
theorem Mo:aT O (aZ af awf):=aY ⟨z152,as5,⟨⟩⟩
abbrev Q6:Shape:=⟨[aO 0 .entry,aj 3,ax 4 4 0,aO 8 .entry,aj 9,aj 10],[aw 4 [ah,ba,ba,ah]],43⟩
abbrev QM:List aR:=[(.norm,⟨[aO 0 .entry,aO 8 .entry,aj 9,aj 10,ck 15 [ah,ba,ba,ah],ar 16,ar 17,ar 18,ar 32,ar 33,ar 41],[],43⟩)]
noncomputable def GG(y:Q6.J):Option (aH QM):=
(f152 (((y.2.1.1,y.2.1.2.1,y.2.1.2.2.1,y.2.1.2.2.2.1,()),()),())).bind fun a=>
 bif(!a.1.1) then
 some ((y.1.1,y.1.2.2.2.1,y.1.2.2.2.2.1,y.1.2.2.2.2.2.1,(y.2.1.1,y.2.1.2.1,y.2.1.2.2.1,y.2.1.2.2.2.1,()),a.1.1,(!a.1.1),true,true,true,true,()),())
else
 bif(decide (y.1.2.1>(0:Int))) then
(aS y.1.1 (IntKind.i64.wrap (y.1.2.1-(1:Int)))).bind fun b=>
 bif(!(Op.bytesLess b.path y.2.1.1)) then
 some ((y.1.1,y.1.2.2.2.1,y.1.2.2.2.2.1,y.1.2.2.2.2.2.1,(y.2.1.1,y.2.1.2.1,y.2.1.2.2.1,y.2.1.2.2.2.1,()),a.1.1,(!a.1.1),false,(!(Op.bytesLess b.path y.2.1.1)),true,true,()),())
else
(bq y.1.1 (0:Int) y.1.2.1).bind fun c=>
(f153 ((c,y.2.1.1,()),())).bind fun d=>
 some ((y.1.1,y.1.2.2.2.1,y.1.2.2.2.2.1,y.1.2.2.2.2.2.1,(y.2.1.1,y.2.1.2.1,y.2.1.2.2.1,y.2.1.2.2.2.1,()),a.1.1,(!a.1.1),false,(!(Op.bytesLess b.path y.2.1.1)),false,(!d.1.1),()),())
else
(bq y.1.1 (0:Int) y.1.2.1).bind fun e=>
(f153 ((e,y.2.1.1,()),())).bind fun f=>
 some ((y.1.1,y.1.2.2.2.1,y.1.2.2.2.2.1,y.1.2.2.2.2.2.1,(y.2.1.1,y.2.1.2.1,y.2.1.2.2.1,y.2.1.2.2.2.1,()),a.1.1,(!a.1.1),false,false,false,(!f.1.1),()),())
theorem ajo:aV O (ap (dk (ap (codeOf Tryz.f105) 1 58)) 116 7474) (aX Q6 QM GG):=cn Mo (by kernel_rfl) ag fun y=>by kernel_rfl
abbrev Bd:Shape:=⟨[aO 0 .entry,aO 8 .entry,aj 9,aj 10],[],43⟩
abbrev vQ:List aR:=[(.ret,⟨[ar 2],[],43⟩),(.exit 0,⟨[],[],43⟩)]
noncomputable def BM(y:Bd.J):bQ Bd vQ:=
 bif(decide (y.1.2.2.2.1<y.1.2.2.1)) then
(aS y.1.2.1 y.1.2.2.2.1).bind fun a=>
(GG ((y.1.1,y.1.2.2.2.1,(),y.1.2.1,y.1.2.2.1,y.1.2.2.2.1,()),(a.path,a.kind,a.mode,a.text,()),())).bind fun b=>
 bif b.1.2.2.2.2.2.2.2.2.2.2.1 then
 some (.inr (.inl ((false,()),())))
else
 some (.inl ((b.1.1,b.1.2.1,b.1.2.2.1,(IntKind.i64.wrap (b.1.2.2.2.1+(1:Int))),()),()))
else
 some (.inr (.inr ((),())))
noncomputable def Jc:Bd.J->Option (aH vQ):=bA BM
theorem anL:aV O (ap (codeOf Tryz.f105) 1 58) (aX Bd vQ Jc):=bT Mo (by kernel_rfl) (a7 ajo ag) fun y=>by kernel_rfl
abbrev i105:Shape:=⟨[aO 0 .entry],[],43⟩
abbrev ZI:Shape:=⟨[ar 2],[],43⟩
noncomputable def f105(a:i105.J):Option ZI.J:=
 bif(decide ((a.1.1.length:Int)>(16:Int))) then
 some ((false,()),())
else
(Jc ((a.1.1,a.1.1,(a.1.1.length:Int),(0:Int),()),())).bind fun b=>
(match b with
|.inl c=>
 some ((c.1.1,()),())
|.inr d=>
 some ((true,()),()))
noncomputable def xq:aI:=aL af Tryz.f105 i105 ZI [] f105
theorem z105:aF O 105 xq:=aM Mo Tryz.func105 (by kernel_rfl) (a7 anL ag) (fun y=>by kernel_rfl) fun a=>by kernel_rfl
noncomputable abbrev az2:a8:=[(143,L8),(144,L7),(145,L6)]
theorem EN:aT O (aZ af az2):=aY ⟨z143,XK,z145,⟨⟩⟩
abbrev Tp:Shape:=⟨[aO 0 .entry,aj 3],[],53⟩
abbrev S5:List aR:=[(.norm,⟨[aO 0 .entry,aj 3,aO 11 .entry,aj 12,(13,.aq (.eZ [.str,.int .i64,.int .i64,.str] 0)),ck 14 [ah,ba,ba,ah],ar 15,ar 16,ar 17,ar 34],[],53⟩)]
noncomputable def Jh(y:Tp.J):Option (aH S5):=
(aS y.1.1 y.1.2.1).bind fun a=>
(f143 (((a.path,a.kind,a.mode,a.text,()),()),())).bind fun b=>
 bif(!b.1.1) then
 some ((y.1.1,y.1.2.1,y.1.1,y.1.2.1,(a.path,a.kind,a.mode,a.text,()),(a.path,a.kind,a.mode,a.text,()),b.1.1,(!b.1.1),true,true,()),())
else
 bif(decide (y.1.2.1>(0:Int))) then
(aS y.1.1 (IntKind.i64.wrap (y.1.2.1-(1:Int)))).bind fun c=>
(aS y.1.1 y.1.2.1).bind fun d=>
 some ((y.1.1,y.1.2.1,y.1.1,y.1.2.1,(a.path,a.kind,a.mode,a.text,()),(a.path,a.kind,a.mode,a.text,()),b.1.1,(!b.1.1),false,(!(Op.bytesLess c.path d.path)),()),())
else
 some ((y.1.1,y.1.2.1,y.1.1,y.1.2.1,(a.path,a.kind,a.mode,a.text,()),(a.path,a.kind,a.mode,a.text,()),b.1.1,(!b.1.1),false,false,()),())
theorem amF:aV O (ap (dk (ap (codeOf Tryz.f90) 1 26)) 52 840) (aX Tp S5 Jh):=cn EN (by kernel_rfl) ag fun y=>by kernel_rfl
abbrev B7:Shape:=⟨[aO 0 .entry,aj 3],[],53⟩
abbrev JK:List aR:=[(.ret,⟨[ar 2],[],53⟩),(.exit 0,⟨[aO 0 .entry],[],53⟩)]
noncomputable def Cw(y:B7.J):bQ B7 JK:=
 bif(decide (y.1.2.1<(y.1.1.length:Int))) then
(Jh ((y.1.1,y.1.2.1,()),())).bind fun a=>
 bif a.1.2.2.2.2.2.2.2.2.2.1 then
 some (.inr (.inl ((false,()),())))
else
 some (.inl ((a.1.1,(IntKind.i64.wrap (a.1.2.1+(1:Int))),()),()))
else
 some (.inr (.inr ((y.1.1,()),())))
noncomputable def J7:B7.J->Option (aH JK):=bA Cw
theorem aph:aV O (ap (codeOf Tryz.f90) 1 26) (aX B7 JK J7):=bT EN (by kernel_rfl) (a7 amF ag) fun y=>by kernel_rfl
abbrev B6:Shape:=⟨[aO 0 .entry,aj 4],[],53⟩
abbrev JJ:List aR:=[(.ret,⟨[ar 2],[],53⟩),(.exit 2,⟨[aO 0 .entry],[],53⟩)]
noncomputable def Cv(y:B6.J):bQ B6 JJ:=
 bif(decide (y.1.2.1<(y.1.1.length:Int))) then
(aS y.1.1 y.1.2.1).bind fun a=>
(f145 ((a.path,()),())).bind fun b=>
(f144 ((y.1.1,b.1.1,()),())).bind fun c=>
 bif(!c.1.1) then
 some (.inr (.inl ((false,()),())))
else
 some (.inl ((y.1.1,(IntKind.i64.wrap (y.1.2.1+(1:Int))),()),()))
else
 some (.inr (.inr ((y.1.1,()),())))
noncomputable def J6:B6.J->Option (aH JJ):=bA Cv
theorem apg:aV O (ap (codeOf Tryz.f90) 1 58) (aX B6 JJ J6):=bT EN (by kernel_rfl) ag fun y=>by kernel_rfl
abbrev i90:Shape:=⟨[aO 0 .entry],[],53⟩
abbrev abC:Shape:=⟨[ar 2],[],53⟩
noncomputable def f90(a:i90.J):Option abC.J:=
(J7 ((a.1.1,(0:Int),()),())).bind fun b=>
(match b with
|.inl c=>
 some ((c.1.1,()),())
|.inr d=>
(J6 ((d.1.1,(0:Int),()),())).bind fun e=>
(match e with
|.inl f=>
 some ((f.1.1,()),())
|.inr g=>
 some (((decide ((g.1.1.length:Int)<=(16:Int))),()),())))
noncomputable def yb:aI:=aL af Tryz.f90 i90 abC [] f90
theorem DY:aF O 90 yb:=aM EN Tryz.func90 (by kernel_rfl) (a7 aph (a7 apg ag)) (fun y=>by kernel_rfl) fun a=>by kernel_rfl
theorem ag3{aE:Type}{ok mT:Nat->aE->Bool}:∀(xs:List aE) (j:Nat),(∀i x,xs[i]? =some x->ok (j+i) x=mT (j+i) x)->allI ok j xs=allI mT j xs:=by
 intro xs;induction xs with
 |nil=>intro j _;rfl
 |cons x r ih=>
  intro j h;simp only[allI];rw[show ok j x=mT j x from h 0 x rfl,ih (j+1) (fun i y hy=>by have:=h (i+1) y (by simpa using hy);rw[show j+(i+1)=j+1+i by omega] at this;exact this)]
theorem Ar{aE:Type}{ok:Nat->aE->Bool}:∀(xs:List aE) (j:Nat),allI ok j xs=true->∀i x,xs[i]? =some x->ok (j+i) x=true:=by
 intro xs;induction xs with
 |nil=>intro j _ i x h;simp at h
 |cons y r ih=>
  intro j h i x hx;simp only[allI,bz] at h;cases i with
  |zero=>simp only[List.getElem?_cons_zero,bH] at hx;subst hx;exact h.1
  |succ i=>have:=ih (j+1) h.2 i x (by simpa using hx);rwa[show j+1+i=j+(i+1) by omega] at this
abbrev iL(t:List aB):Prop:=cw t.length/\∀e,e∈t->mh e
def wq(t:List aB)(i:Nat)(e:aB):Bool:=i==0||match t[i-1]? with
 |some q=>Op.bytesLess q.path e.path
 |none=>false
def jm(t:List aB)(i:Nat)(e:aB):Bool:=e9 e&&wq t i e
def dQ(t:List aB):Bool:=allI (jm t) 0 t&&t.all (fun e=>k2 t (jr e.path))&&decide (t.length<=16)
theorem DF(i:Nat):decide ((i:Int)>0)=!(i==0):=by
 cases i with
 |zero=>rfl
 |succ i=>simp
theorem vF(a)(hs:iL a.1.1):f90 a=some ((dQ a.1.1,()),()):=by
 obtain⟨⟨t,u⟩,b8⟩:=a;obtain⟨hl,he⟩:=hs;have hl:t.length<=2097152:=hl;have key:J7 ((t,((0:Int),())),())=some (bif allI (jm t) 0 t then .inr ((t,()),()) else .inl ((false,()),())):=by
  refine gw Cw t (fun i=>((t,((i:Int),())),())) _ _ _ (fun i x hx=>?_) ?_
  ·have hi:=da hx;have hw:aA i:=by unfold aA;omega
   have hb:=he x (eK hx);simp only[Cw,ct hi,ad,Jh,cd,hx,Y];rw[Qn _ hb.1 hb.2];simp only[Y,jm,DF];cases e9 x with
   |false=>rfl
   |true=>
    simp only[bu,ak,Bool.true_and,wq];cases i with
    |zero=>simp only[beq_self_eq_true,bu,ak,Y,Bool.true_or,ad,b9 hw]
    |succ i=>
     have h0:(i+1==0)=false:=rfl;have jU:i<t.length:=by omega
     obtain⟨q,aC⟩:∃q,t[i]? =some q:=⟨t[i],d_ jU⟩;simp only[h0,bK,ad,vw (i:=i) (by unfold aA;omega),cd,aC,hx,Y,Bool.false_or,Nat.add_sub_cancel]
     cases Op.bytesLess q.path x.path with
     |false=>rfl
     |true=>simp only[bu,ak,ad,b9 hw]
  ·simp only[Cw,dK,ak]
 have ZO:J6 ((t,((0:Int),())),())=some (bif allI (fun _ e=>k2 t (jr e.path)) 0 t then .inr ((t,()),()) else .inl ((false,()),())):=by
  refine gw Cv t (fun i=>((t,((i:Int),())),())) _ _ _ (fun i x hx=>?_) ?_
  ·have hi:=da hx;have hw:aA i:=by unfold aA;omega
   have hb:=he x (eK hx);simp only[Cv,ct hi,ad,cd,hx,Y];rw[UI _ hb.1];simp only[Y];rw[S0 _ hl];simp only[Y,b9 hw];cases k2 t (jr x.path)<;>rfl
  ·simp only[Cv,dK,ak]
 rw[hF] at ZO;simp only[f90,key,Y,dQ];cases allI (jm t) 0 t with
 |false=>rfl
 |true=>
  simp only[ad,ZO,Y,Bool.true_and];cases List.all t (fun e=>k2 t (jr e.path)) with
  |false=>rfl
  |true=>have:=Dw t.length 16;simp only[ad,Bool.true_and];rw[<-this];rfl
theorem SW{t:List aB}{i:Nat}{e:aB}(he:t[i]? =some e)(h:ga (t.take i))(hl:wq t i e=true):ga (t.take (i+1)):=by
 rw[List.take_add_one,he];unfold ga;refine List.pairwise_append.2 ⟨h,by simp,?_⟩
 intro a ha b hb;have hb:b=e:=by simpa using hb
 subst hb;obtain⟨k,hk⟩:=List.mem_iff_getElem?.1 ha;have Ew:k<i:=by
  have:=da hk;rw[List.length_take] at this;omega
 unfold wq at hl;have h0:(i==0)=false:=by simp;omega
 rw[h0,Bool.false_or] at hl;split at hl
 ·rename_i q aC;by_cases hkl:k=i-1
  ·have:t[k]? =some a:=by rw[List.getElem?_take,if_pos Ew] at hk;exact hk
   rw[hkl,aC] at this;cases this;exact hl
  ·have o5:(t.take i)[i-1]? =some q:=by rw[List.getElem?_take,if_pos (by omega)];exact aC
   have:=List.pairwise_iff_getElem.1 h k (i-1) (da hk) (da o5) (by omega)
   rw[(List.getElem?_eq_some_iff.1 hk).2,(List.getElem?_eq_some_iff.1 o5).2] at this;exact vM _ _ _ this hl
 ·cases hl
theorem Wm{t:List aB}(h:allI (jm t) 0 t=true):ga t:=by
 have:∀i,i<=t.length->ga (t.take i):=by
  intro i;induction i with
  |zero=>intro _;simp[ga]
  |succ i ih=>
   intro hi;have he:t[i]? =some t[i]:=d_ hi;have:=Ar t 0 h i _ he;rw[Nat.zero_add] at this;simp only[jm,bz] at this;exact SW he (ih (by omega)) this.2
 have:=this t.length (Nat.le_refl _);rwa[List.take_length] at this
theorem ah3{t:List aB}{i:Nat}{e:aB}{p:B}(ha:ga t)(he:t[i]? =some e)(hp:Op.bytesLess p e.path=true):k2 (t.take i) p=k2 t p:=by
 have hi:=da he;have h1:=kU (p:=p) ha i e he;rw[aoq hp] at h1;have hle:bW t p<=i:=by
  have:¬i<bW t p:=by simpa using h1.symm
  omega
 have nO:bW (t.take i) p=bW t p:=by
  by_cases hlt:bW t p=i
  ·have hlen:(t.take i).length=i:=by rw[List.length_take];omega
   have h2:=q_ (t.take i) p;rw[hlen] at h2;by_cases h3:bW (t.take i) p<i
   ·obtain⟨q,aC⟩:∃q,(t.take i)[bW (t.take i) p]? =some q:=⟨_,d_ (by rw[hlen];exact h3)⟩
    have aD:=kU (p:=p) (ha.take i) _ q aC;have o5:t[bW (t.take i) p]? =some q:=by rw[List.getElem?_take,if_pos h3] at aC;exact aC
    have bn:=kU (p:=p) ha _ q o5;rw[aD] at bn;have:decide (bW (t.take i) p<bW (t.take i) p)=false:=by simp
    rw[this] at bn;have:¬bW (t.take i) p<bW t p:=by simpa using bn.symm
    omega
   ·omega
  ·have hlt:bW t p<i:=by omega
   obtain⟨q,aC⟩:∃q,t[bW t p]? =some q:=⟨_,d_ (by omega)⟩
   have o5:(t.take i)[bW t p]? =some q:=by rw[List.getElem?_take,if_pos hlt];exact aC
   have aD:=kU (p:=p) ha _ q aC;have bn:=kU (p:=p) (ha.take i) _ q o5;have dN:decide (bW t p<bW t p)=false:=by simp
   rw[aD,dN] at bn;have cl:¬bW t p<bW (t.take i) p:=by simpa using bn.symm
   by_cases iB:bW (t.take i) p<bW t p
   ·obtain⟨r,hr⟩:∃r,t[bW (t.take i) p]? =some r:=⟨_,d_ (by omega)⟩
    have dq:(t.take i)[bW (t.take i) p]? =some r:=by rw[List.getElem?_take,if_pos (by omega)];exact hr
    have h8:=kU (p:=p) ha _ r hr;have iA:=kU (p:=p) (ha.take i) _ r dq;have Oi:decide (bW (t.take i) p<bW (t.take i) p)=false:=by simp
    rw[h8,Oi] at iA;have:¬bW (t.take i) p<bW t p:=by simpa using iA
    omega
   ·omega
 unfold k2;rw[nO];congr 1
 by_cases hlt:bW t p<i
 ·rw[List.getElem?_take,if_pos hlt]
 ·have:bW t p=i:=by omega
  rw[this,he,List.getElem?_take,if_neg (by omega)]
  have:(e.path==p)=false:=by
   cases h:(e.path==p) with
   |false=>rfl
   |true=>rw[eq_of_beq h,wF] at hp;cases hp
  simp[this]
def lQ(t:List aB)(p:B):Bool:=k2 t (bif gJ p then jr p else [])
theorem afc(a)(hs:cw a.1.1.length)(hp:cw a.1.2.1.length)(ha:ga a.1.1):f153 a=some ((lQ a.1.1 a.1.2.1,()),()):=by
 obtain⟨⟨t,p,u⟩,b8⟩:=a;have e1:=akp ((p,()),()) hp;have e2:=Pe ((t,((bif gJ p then jr p else []),())),()) hs ha
 simp only[f153,e1,e2,Y,lQ,k2,g',cd];generalize(bif gJ p then jr p else [])=up
 cases (up==[]) with
 |true=>rfl
 |false=>
  cases ay:t[bW t up]? with
  |none=>rfl
  |some e=>simp only[ak,ad,Y,Bool.false_or];cases (e.path==up)<;>rfl
theorem aiF(t:List aB):dQ t=(decide (t.length<=16)&&allI (fun i e=>jm t i e&&lQ (t.take i) e.path) 0 t):=by
 unfold dQ;rw[HP];cases h:allI (jm t) 0 t with
 |false=>simp
 |true=>
  have ha:=Wm h;have:allI (fun i e=>lQ (t.take i) e.path) 0 t=t.all (fun e=>k2 t (jr e.path)):=by
   rw[<-hF _ 0 t];refine ag3 t 0 (fun i e he=>?_)
   rw[Nat.zero_add];have f':=Ar t 0 h i e he;rw[Nat.zero_add] at f';have ayw:gJ e.path=true:=by
    unfold jm e9 at f';simp only[bz] at f';exact f'.1.1
   unfold lQ;rw[ayw,ad];cases hu:(jr e.path==[]) with
   |true=>unfold k2;rw[hu];rfl
   |false=>exact ah3 ha he (aku hu)
  rw[this];simp only[Bool.true_and];rw[Bool.and_comm]
theorem qN(a)(hs:iL a.1.1):f105 a=some ((dQ a.1.1,()),()):=by
 obtain⟨⟨t,u⟩,b8⟩:=a;obtain⟨hl,he⟩:=hs;have hl:t.length<=2097152:=hl;have key:Jc ((t,(t,((t.length:Int),((0:Int),())))),())=some (bif allI (fun i e=>jm t i e&&lQ (t.take i) e.path) 0 t then .inr ((),()) else .inl ((false,()),())):=by
  have:=mv BM t (fun i (_:Unit)=>((t,(t,((t.length:Int),((i:Int),())))),())) (fun i e _=>some (bif jm t i e&&lQ (t.take i) e.path then .inl () else .inr ((.inl ((false,()),())):aH vQ))) (fun _=>(.inr ((),()):aH vQ))
   (fun i _=>ga (t.take i)) () (by simp[ga]) (fun i x _ hx dH=>?_) (fun _ _=>?_)
  ·exact this.trans (yV (fun i e=>jm t i e&&lQ (t.take i) e.path) (fun _ s=>s) _ _ t 0 ())
  ·have hi:=da hx;have hw:aA i:=by unfold aA;omega
   have hb:=he x (eK hx);refine⟨?_,fun aQ an=>?_⟩
   ·have qq:=afc ((t.take i,(x.path,())),()) (show(t.take i).length<=2097152 by rw[List.length_take];omega) hb.1 dH
    simp only[BM,ct hi,ad,cd,hx,Y,GG];rw[aiu _ hb.1 hb.2];simp only[Y,jm,DF];cases e9 x with
    |false=>rfl
    |true=>
     simp only[bu,ak,Bool.true_and,wq];cases i with
     |zero=>
      have eF:bq t 0 0=some (t.take 0):=gx (b:=0) (Nat.zero_le _);have eF:bq t 0 ((0:Nat):Int)=some (t.take 0):=eF;simp only[beq_self_eq_true,bu,ak,eF,Y,qq,Bool.true_or,Bool.true_and];cases lQ (t.take 0) x.path with
      |false=>rfl
      |true=>simp only[bu,ak,ad,b9 hw];rfl
     |succ i=>
      have h0:(i+1==0)=false:=rfl;have jU:i<t.length:=by omega
      obtain⟨q,aC⟩:∃q,t[i]? =some q:=⟨t[i],d_ jU⟩;have eF:bq t 0 ((i+1:Nat):Int)=some (t.take (i+1)):=gx (by omega)
      simp only[h0,bK,ad,vw (i:=i) (by unfold aA;omega),cd,aC,hx,Y,Bool.false_or,Nat.add_sub_cancel]
      cases Op.bytesLess q.path x.path with
      |false=>rfl
      |true=>
       simp only[bu,ak,ad,eF,Y,qq,Bool.true_and];cases lQ (t.take (i+1)) x.path with
       |false=>rfl
       |true=>simp only[bu,ak,ad,b9 hw];rfl
   ·simp only[bH] at an;cases aC:(jm t i x&&lQ (t.take i) x.path) with
    |false=>rw[aC] at an;cases an
    |true=>
     simp only[bz] at aC;have:=aC.1;simp only[jm,bz] at this;exact SW hx dH this.2
  ·simp only[BM,dK,ak]
 have x9:decide ((t.length:Int)>16)=!decide (t.length<=16):=by by_cases h:t.length<=16<;>simp only[h,decide_true,decide_false,bu,bK,dW,decide_eq_false_iff_not]<;>omega
 simp only[f105,x9,key,Y];rw[aiF];cases decide (t.length<=16)<;>cases allI (fun i e=>jm t i e&&lQ (t.take i) e.path) 0 t<;>rfl
abbrev i202:Shape:=⟨[aO 0 .entry],[],6⟩
abbrev YB:Shape:=⟨[bd 2 3000128],[bc 3000128 .entry 2 0],6⟩
noncomputable def f202(a:i202.J):Option YB.J:=
(cm 48 ([]:List aB) a.1.1).bind fun b=>
 some (((),()),b,())
noncomputable def xo:aI:=aL af Tryz.f202 i202 YB [] f202
theorem Dm:aF O 202 xo:=aM g0 Tryz.func202 (by kernel_rfl) ag (fun y=>by kernel_rfl) fun a=>by kernel_rfl
noncomputable abbrev avG:a8:=[(90,yb),(194,DL),(202,xo)]
theorem Mi:aT O (aZ af avG):=aY ⟨DY,z194,Dm,⟨⟩⟩
abbrev Q0:Shape:=⟨[aO 1 .entry,bd 6 3000384,aj 7,aj 8,ar 9],[bc 3000384 .entry 6 0],69⟩
abbrev QG:List aR:=[(.norm,⟨[aO 1 .entry,bd 6 3000384,aj 7,aj 8,ar 9,ar 28,ar 29,ar 47],[bc 3000384 .entry 6 0],69⟩)]
noncomputable def GB(y:Q0.J):Option (aH QG):=
 bif y.1.2.2.2.2.1 then
(bf y.2.1.length y.1.2.2.2.1).bind fun a=>
(y.2.1[a]?).bind fun b=>
 bif(b.kind !=(1:Int)) then
 some ((y.1.1,(),y.1.2.2.1,y.1.2.2.2.1,y.1.2.2.2.2.1,y.1.2.2.2.2.1,true,true,()),y.2.1,())
else
(aS y.1.1 y.1.2.2.1).bind fun c=>
(bf y.2.1.length y.1.2.2.2.1).bind fun d=>
(y.2.1[d]?).bind fun e=>
 some ((y.1.1,(),y.1.2.2.1,y.1.2.2.2.1,y.1.2.2.2.2.1,y.1.2.2.2.2.1,true,(!((c.path==e.path)&&((c.kind==e.kind)&&((c.mode==e.mode)&&(c.text==e.text))))),()),y.2.1,())
else
 some ((y.1.1,(),y.1.2.2.1,y.1.2.2.2.1,y.1.2.2.2.2.1,y.1.2.2.2.2.1,false,false,()),y.2.1,())
theorem ajd:aV O (ap (dk (ap (codeOf Tryz.f159) 1 58)) 116 7460) (aX Q0 QG GB):=cn Mi (by kernel_rfl) ag fun y=>by kernel_rfl
abbrev vR:Shape:=⟨[aO 1 .entry,bd 6 3000384,aj 7],[bc 3000384 .entry 6 0],69⟩
abbrev pF:List aR:=[(.ret,⟨[bd 4 3000256,ar 5],[bc 3000256 .entry 4 0],69⟩),(.exit 0,⟨[bd 6 3000384],[bc 3000384 .entry 6 0],69⟩)]
noncomputable def BC(y:vR.J):bQ vR pF:=
 bif(decide (y.1.2.2.1<(y.1.1.length:Int))) then
(aS y.1.1 y.1.2.2.1).bind fun a=>
(f194 ((y.2.1,a.path,()),())).bind fun b=>
(GB ((y.1.1,(),y.1.2.2.1,b.1.1,b.1.2.1,()),y.2.1,())).bind fun c=>
 bif c.1.2.2.2.2.2.2.2.1 then
 some (.inr (.inl (((),false,()),([]:List aB),())))
else
 bif(!c.1.2.2.2.2.1) then
(bq c.2.1 (0:Int) c.1.2.2.2.1).bind fun d=>
(cm 48 ([]:List aB) d).bind fun e=>
(aS c.1.1 c.1.2.2.1).bind fun f=>
(cm 48 e ([f]:List aB)).bind fun g=>
(bq c.2.1 c.1.2.2.2.1 (c.2.1.length:Int)).bind fun h=>
(cm 48 g h).bind fun i=>
 some (.inl ((c.1.1,(),(IntKind.i64.wrap (c.1.2.2.1+(1:Int))),()),i,()))
else
 some (.inl ((c.1.1,(),(IntKind.i64.wrap (c.1.2.2.1+(1:Int))),()),c.2.1,()))
else
 some (.inr (.inr (((),()),y.2.1,())))
noncomputable def I3:vR.J->Option (aH pF):=bA BC
theorem ano:aV O (ap (codeOf Tryz.f159) 1 58) (aX vR pF I3):=bT Mi (by kernel_rfl) (a7 ajd ag) fun y=>by kernel_rfl
abbrev i159:Shape:=⟨[aO 0 .entry,aO 1 .entry],[],69⟩
abbrev Y8:Shape:=⟨[bd 4 3000256,ar 5],[bc 3000256 .entry 4 0],69⟩
noncomputable def f159(a:i159.J):Option Y8.J:=
(f202 ((a.1.1,()),())).bind fun b=>
(I3 ((a.1.2.1,(),(0:Int),()),b.2.1,())).bind fun c=>
(match c with
|.inl d=>
 some (((),d.1.2.1,()),d.2.1,())
|.inr e=>
(f90 ((e.2.1,()),())).bind fun f=>
 some (((),f.1.1,()),e.2.1,()))
noncomputable def aah:aI:=aL af Tryz.f159 i159 Y8 [] f159
theorem z159:aF O 159 aah:=aM Mi Tryz.func159 (by kernel_rfl) (a7 ano ag) (fun y=>by kernel_rfl) fun a=>by kernel_rfl
noncomputable abbrev aAl:a8:=[(87,NK),(88,NJ),(89,adj),(90,yb)]
theorem aAU:aT O (aZ af aAl):=aY ⟨z87,abi,aw0,DY,⟨⟩⟩
abbrev i50:Shape:=⟨[ck 0 [ah,ah,br .need,br .entry]],[],23⟩
abbrev abX:Shape:=⟨[ar 2],[],23⟩
noncomputable def f50(a:i50.J):Option abX.J:=
(f87 ((a.1.1.1,()),())).bind fun b=>
 bif b.1.1 then
(f88 ((a.1.1.2.1,()),())).bind fun c=>
 bif c.1.1 then
(f89 ((a.1.1.1,a.1.1.2.2.1,()),())).bind fun d=>
 bif d.1.1 then
(f90 ((a.1.1.2.2.2.1,()),())).bind fun e=>
 some ((e.1.1,()),())
else
 some ((false,()),())
else
 some ((false,()),())
else
 some ((false,()),())
noncomputable def EJ:aI:=aL af Tryz.f50 i50 abX [] f50
theorem Mq:aF O 50 EJ:=aM aAU Tryz.func50 (by kernel_rfl) ag (fun y=>by kernel_rfl) fun a=>by kernel_rfl
noncomputable abbrev aAk:a8:=[(99,NI),(100,DO),(101,WD),(103,WC),(105,xq)]
theorem adU:aT O (aZ af aAk):=aY ⟨abh,K0,aoR,aoQ,z105,⟨⟩⟩
abbrev U9:Shape:=⟨[ax 1 1 0],[aw 1 [ah,ah,br .need,br .entry]],36⟩
abbrev UT:List aR:=[(.norm,⟨[ax 1 1 0,ar 18],[aw 1 [ah,ah,br .need,br .entry]],36⟩)]
noncomputable def Kj(y:U9.J):Option (aH UT):=
(f99 ((y.2.1.1,()),())).bind fun a=>
 bif(!(!a.1.1)) then
(f100 ((y.2.1.2.1,()),())).bind fun b=>
 bif(!(!b.1.1)) then
 some (((),(decide ((y.2.1.2.2.1.length:Int)>(6:Int))),()),(y.2.1.1,y.2.1.2.1,y.2.1.2.2.1,y.2.1.2.2.2.1,()),())
else
 some (((),true,()),(y.2.1.1,y.2.1.2.1,y.2.1.2.2.1,y.2.1.2.2.2.1,()),())
else
 some (((),true,()),(y.2.1.1,y.2.1.2.1,y.2.1.2.2.1,y.2.1.2.2.2.1,()),())
theorem apx:aV O (ap (codeOf Tryz.f55) 1 12) (aX U9 UT Kj):=cn adU (by kernel_rfl) ag fun y=>by kernel_rfl
abbrev i55:Shape:=⟨[ck 0 [ah,ah,br .need,br .entry]],[],36⟩
abbrev abW:Shape:=⟨[ar 2],[],36⟩
noncomputable def f55(a:i55.J):Option abW.J:=
(Kj (((),()),(a.1.1.1,a.1.1.2.1,a.1.1.2.2.1,a.1.1.2.2.2.1,()),())).bind fun b=>
 bif b.1.2.1 then
 some ((false,()),())
else
(CP ((b.2.1.2.2.1,(),()),())).bind fun c=>
 bif c.1.1 then
(CO ((b.2.1.2.2.1,(),([b.2.1.1]:List B),()),())).bind fun d=>
 bif(!d.1.1) then
(f105 ((b.2.1.2.2.2.1,()),())).bind fun e=>
 some ((e.1.1,()),())
else
 some ((false,()),())
else
 some ((false,()),())
noncomputable def EI:aI:=aL af Tryz.f55 i55 abW [] f55
theorem Mp:aF O 55 EI:=aM adU Tryz.func55 (by kernel_rfl) (a7 apx ag) (fun y=>by kernel_rfl) fun a=>by kernel_rfl
noncomputable abbrev ar8:a8:=[(55,EI)]
theorem Xx:aT O (aZ af ar8):=aY ⟨Mp,⟨⟩⟩
abbrev zO:Shape:=⟨[(1,.aq (.fn 55 [])),aO 7 .pack,aj 8,aj 9],[],18⟩
abbrev GU:List aR:=[(.ret,⟨[ar 4],[],18⟩),(.exit 0,⟨[],[],18⟩)]
noncomputable def Ag(y:zO.J):bQ zO GU:=
 bif(decide (y.1.2.2.2.1<y.1.2.2.1)) then
(aS y.1.2.1 y.1.2.2.2.1).bind fun a=>
(f55 (((a.name,a.a6,a.bl,a.bI,()),()),())).bind fun b=>
 bif(!b.1.1) then
 some (.inr (.inl ((false,()),())))
else
 some (.inl (((),y.1.2.1,y.1.2.2.1,(IntKind.i64.wrap (y.1.2.2.2.1+(1:Int))),()),()))
else
 some (.inr (.inr ((),())))
noncomputable def Hj:zO.J->Option (aH GU):=bA Ag
theorem akV:aV O (ap (codeOf Tryz.f54) 1 26) (aX zO GU Hj):=bT Xx (by kernel_rfl) ag fun y=>by kernel_rfl
abbrev Xg:Shape:=⟨[aO 0 .pack,(1,.aq (.fn 55 []))],[],18⟩
abbrev W3:Shape:=⟨[ar 4],[],18⟩
noncomputable def Db(a:Xg.J):Option W3.J:=
(Hj (((),a.1.1,(a.1.1.length:Int),(0:Int),()),())).bind fun b=>
(match b with
|.inl c=>
 some ((c.1.1,()),())
|.inr d=>
 some ((true,()),()))
noncomputable def Xv:aI:=aL af Tryz.f54 Xg W3 [] Db
theorem aq4:aF O 54 Xv:=aM Xx Tryz.func54 (by kernel_rfl) (a7 akV ag) (fun y=>by kernel_rfl) fun a=>by kernel_rfl
abbrev Cd:Shape:=⟨[aO 0 .pack,aj 3],[],22⟩
abbrev JR:List aR:=[(.ret,⟨[ar 2],[],22⟩),(.exit 0,⟨[],[],22⟩)]
noncomputable def CE(y:Cd.J):bQ Cd JR:=
 bif(decide (y.1.2.1<(y.1.1.length:Int))) then
(aS y.1.1 (IntKind.i64.wrap (y.1.2.1-(1:Int)))).bind fun a=>
(aS y.1.1 y.1.2.1).bind fun b=>
 bif(!(Op.bytesLess a.name b.name)) then
 some (.inr (.inl ((false,()),())))
else
 some (.inl ((y.1.1,(IntKind.i64.wrap (y.1.2.1+(1:Int))),()),()))
else
 some (.inr (.inr ((),())))
noncomputable def Kc:Cd.J->Option (aH JR):=bA CE
theorem apw:aV O (ap (codeOf Tryz.f56) 1 26) (aX Cd JR Kc):=bT g0 (by kernel_rfl) ag fun y=>by kernel_rfl
abbrev i56:Shape:=⟨[aO 0 .pack],[],22⟩
abbrev abV:Shape:=⟨[ar 2],[],22⟩
noncomputable def f56(a:i56.J):Option abV.J:=
(Kc ((a.1.1,(1:Int),()),())).bind fun b=>
(match b with
|.inl c=>
 some ((c.1.1,()),())
|.inr d=>
 some ((true,()),()))
noncomputable def adv:aI:=aL af Tryz.f56 i56 abV [] f56
theorem aw9:aF O 56 adv:=aM g0 Tryz.func56 (by kernel_rfl) (a7 apw ag) (fun y=>by kernel_rfl) fun a=>by kernel_rfl
abbrev jW(p:aJ):Prop:=cw p.name.length/\cw p.a6.length/\ux p.bl/\iL p.bI
abbrev fS(ps:List aJ):Prop:=cw ps.length/\∀p,p∈ps->jW p
def cx(p:aJ):Bool:=iV p.name&&eE p.a6&&ra p.name p.bl&&dQ p.bI
theorem vG(a)(hb:jW ⟨a.1.1.1,a.1.1.2.1,a.1.1.2.2.1,a.1.1.2.2.2.1⟩):f50 a=some ((cx ⟨a.1.1.1,a.1.1.2.1,a.1.1.2.2.1,a.1.1.2.2.2.1⟩,()),()):=by
 obtain⟨⟨⟨n,v,ns,t,u⟩,b8⟩,nT⟩:=a;obtain⟨h1,h2,h3,aD⟩:=hb;have h1:n.length<=2097152:=h1;have e1:=RI ((n,()),()) (show n.length<=1099511627776 by omega)
 have e2:=Pf ((v,()),()) h2;have bE:=aik ((n,(ns,())),()) h3 h1;have dN:=vF ((t,()),()) aD;simp only[f50,e1,e2,bE,dN,Y,cx];cases iV n<;>cases eE v<;>cases ra n ns<;>rfl
theorem zb(a)(hb:jW ⟨a.1.1.1,a.1.1.2.1,a.1.1.2.2.1,a.1.1.2.2.2.1⟩):f55 a=some ((cx ⟨a.1.1.1,a.1.1.2.1,a.1.1.2.2.1,a.1.1.2.2.2.1⟩,()),()):=by
 obtain⟨⟨⟨n,v,ns,t,u⟩,b8⟩,nT⟩:=a;obtain⟨h1,h2,h3,aD⟩:=hb;have h1:n.length<=2097152:=h1;have e1:=O2 ((n,()),()) (show n.length<=1099511627776 by omega)
 have e2:=Fj ((v,()),()) h2;have bE:=aiw ((ns,((),())),()) h3;have dN:=qN ((t,()),()) aD;have fp:=afw ((ns,((),(([n]:List B),()))),()) h3 (Nat.le_refl _);have cl:decide ((ns.length:Int)>6)=!decide (ns.length<=6):=by by_cases h:ns.length<=6<;>simp only[h,decide_true,decide_false,bu,bK,dW,decide_eq_false_iff_not]<;>omega
 have aa:kd [] (n::ns.map (·.name))=kd [n] (ns.map (·.name)):=by simp[kd]
 simp only[f55,Kj,e1,e2,Y,cx,ra,aa,cl,Bool.not_not];cases iV n with
 |false=>rfl
 |true=>
  cases eE v with
  |false=>rfl
  |true=>
   cases decide (ns.length<=6) with
   |false=>simp only[ad,bK,Y,Bool.and_false,Bool.false_and]
   |true=>
    simp only[ad,bu,ak,Y,bE,fp,dN,Bool.true_and,Bool.and_true];cases List.all ns dR<;>cases kd [n] (ns.map (·.name))<;>rfl
theorem aiv(a)(hs:fS a.1.1):Db a=some ((a.1.1.all cx,()),()):=by
 obtain⟨⟨ps,u⟩,b8⟩:=a;obtain⟨hl,hn⟩:=hs;have hl:ps.length<=2097152:=hl;have key:Hj (((),(ps,((ps.length:Int),((0:Int),())))),())=some (bif allI (fun _ n=>cx n) 0 ps then .inr ((),()) else .inl ((false,()),())):=by
  refine gw Ag ps (fun i=>(((),(ps,((ps.length:Int),((i:Int),())))),())) _ _ _ (fun i x hx=>?_) ?_
  ·have hi:=da hx;have hw:aA i:=by unfold aA;omega
   have hb:=hn x (eK hx);simp only[Ag,ct hi,ad,cd,hx,Y];rw[zb _ hb];simp only[Y,b9 hw];cases cx x<;>rfl
  ·simp only[Ag,dK,ak]
 rw[hF] at key;simp only[Db,key,Y];cases List.all ps cx<;>rfl
def nG(ps:List aJ)(i:Nat)(x:aJ):Bool:=match ps[i]? with
 |some q=>Op.bytesLess q.name x.name
 |none=>false
def la(ps:List aJ):Bool:=allI (nG ps) 0 ps.tail
theorem afb(a)(hs:cw a.1.1.length):f56 a=some ((la a.1.1,()),()):=by
 obtain⟨⟨ps,u⟩,b8⟩:=a;have hs:ps.length<=2097152:=hs;have key:Kc ((ps,((1:Int),())),())=some (bif allI (nG ps) 0 ps.tail then .inr ((),()) else .inl ((false,()),())):=by
  refine gw CE ps.tail (fun i=>((ps,(((i+1:Nat):Int),())),())) _ _ _ (fun i x hx=>?_) ?_
  ·have qn:ps[i+1]? =some x:=by rw[List.getElem?_tail] at hx;exact hx
   have hi:=da qn;have hw:aA (i+1):=by unfold aA;omega
   obtain⟨q,aC⟩:∃q,ps[i]? =some q:=⟨ps[i],d_ (by omega)⟩
   simp only[CE,ct hi,ad,vw (i:=i) (by unfold aA;omega),cd,aC,qn,Y,b9 hw,nG]
   cases Op.bytesLess q.name x.name<;>rfl
  ·have:decide (((ps.tail.length+1:Nat):Int)<(ps.length:Int))=false:=by
    simp only[decide_eq_false_iff_not,List.length_tail];omega
   simp only[CE,this,ak]
 simp only[f56,key,Y,la];cases allI (nG ps) 0 ps.tail<;>rfl
def kP(a b:aB):Bool:=a.path==b.path&&(a.kind==b.kind&&(a.mode==b.mode&&a.text==b.text))
def mP(e q:aB):Bool:=e.kind !=1||!kP e q
theorem al2(a b:aB):kP a b=kP b a:=by
 unfold kP;have h1:(a.path==b.path)=(b.path==a.path):=BEq.comm;have h2:(a.kind==b.kind)=(b.kind==a.kind):=BEq.comm;have h3:(a.mode==b.mode)=(b.mode==a.mode):=BEq.comm;have aD:(a.text==b.text)=(b.text==a.text):=BEq.comm;rw[h1,h2,h3,aD]
theorem aon(e q:aB):mP e q=(q.kind !=1||!kP e q):=by
 unfold mP;cases h:kP e q with
 |false=>simp
 |true=>
  unfold kP at h;simp only[bz] at h;rw[show e.kind=q.kind from eq_of_beq h.2.1]
def j'(t:List aB)(k:Nat)(e:aB):List aB:=t.take k++[e]++t.drop k
def gZ(out:List aB):List aB->Option (List aB)
 |[]=>some out
 |e::r=>match out[bW out e.path]? with
  |some q=>bif q.path==e.path then(bif mP e q then none else gZ out r) else gZ (j' out (bW out e.path) e) r
  |none=>gZ (j' out (bW out e.path) e) r
theorem Rk(t:List aB)(k:Nat)(e:aB)(h:k<=t.length):(j' t k e).length=t.length+1:=by
 unfold j';simp only[dx,List.length_take,cY,List.length_nil,List.length_drop];omega
theorem Gx{t:List aB}{k:Nat}{e x:aB}(h:x∈j' t k e):x=e\/x∈t:=by
 unfold j' at h;rcases bo.1 h with h|h
 ·rcases bo.1 h with h|h
  ·exact .inr (List.mem_of_mem_take h)
  ·exact .inl (by simpa using h)
 ·exact .inr (List.mem_of_mem_drop h)
def ij(out:List aB)(e:aB):Option (List aB):=match out[bW out e.path]? with
 |some q=>bif q.path==e.path then(bif mP e q then none else some out) else some (j' out (bW out e.path) e)
 |none=>some (j' out (bW out e.path) e)
theorem vq(out:List aB)(e:aB)(r:List aB):gZ out (e::r)=(ij out e).bind fun D=>gZ D r:=by
 unfold ij;rw[gZ];cases out[bW out e.path]? with
 |none=>rfl
 |some q=>
  simp only;cases (q.path==e.path) with
  |false=>rfl
  |true=>cases mP e q<;>rfl
theorem ze{out D:List aB}{e:aB}(h:ij out e=some D):D.length<=out.length+1:=by
 unfold ij at h;split at h
 ·rename_i q aC;cases hp:(q.path==e.path) with
  |true=>
   rw[hp] at h;cases hc:mP e q with
   |true=>rw[hc] at h;cases h
   |false=>rw[hc] at h;cases h;omega
  |false=>rw[hp] at h;cases h;rw[Rk _ _ _ (q_ _ _)];omega
 ·cases h;rw[Rk _ _ _ (q_ _ _)];omega
theorem F'{out D:List aB}{e x:aB}(h:ij out e=some D)(hx:x∈D):x=e\/x∈out:=by
 unfold ij at h;split at h
 ·rename_i q aC;cases hp:(q.path==e.path) with
  |true=>
   rw[hp] at h;cases hc:mP e q with
   |true=>rw[hc] at h;cases h
   |false=>rw[hc] at h;cases h;exact .inr hx
  |false=>rw[hp] at h;cases h;exact Gx hx
 ·cases h;exact Gx hx
theorem aou{t:List aB}{e:aB}(ha:ga t)(hn:g' t e.path=false):ga (j' t (bW t e.path) e):=by
 have Z0:∀a,a∈t.take (bW t e.path)->Op.bytesLess a.path e.path=true:=by
  intro a h;obtain⟨k,hk⟩:=List.mem_iff_getElem?.1 h;have acM:k<bW t e.path:=by have:=da hk;rw[List.length_take] at this;omega
  have M':t[k]? =some a:=by rw[List.getElem?_take,if_pos acM] at hk;exact hk
  rw[kU ha k a M'];simpa using acM
 have Xk:∀a,a∈t.drop (bW t e.path)->Op.bytesLess e.path a.path=true:=by
  intro a h;obtain⟨k,hk⟩:=List.mem_iff_getElem?.1 h;rw[List.getElem?_drop] at hk;have h1:=kU (p:=e.path) ha _ a hk;have h2:Op.bytesLess a.path e.path=false:=by rw[h1];simp
  refine aqf _ _ h2 ?_
  cases aC:(a.path==e.path) with
  |false=>rfl
  |true=>
   exfalso
   cases k with
   |zero=>
    unfold g' at hn;rw[Nat.add_zero] at hk;rw[hk] at hn;simp only[aC] at hn;cases hn
   |succ k=>
    have hlt:=da hk;obtain⟨q,xW⟩:∃q,t[bW t e.path]? =some q:=⟨_,d_ (by omega)⟩
    have h3:=List.pairwise_iff_getElem.1 ha (bW t e.path) (bW t e.path+(k+1)) (da xW) hlt (by omega)
    rw[(List.getElem?_eq_some_iff.1 xW).2,(List.getElem?_eq_some_iff.1 hk).2] at h3;have aD:=kU (p:=e.path) ha _ q xW;rw[<-eq_of_beq aC,h3] at aD;simp at aD
 unfold ga j';refine List.pairwise_append.2 ⟨List.pairwise_append.2 ⟨ha.take _,by simp,?_⟩,List.Pairwise.sublist (List.drop_sublist _ _) ha,?_⟩
 ·intro a h b hb;have hb:b=e:=by simpa using hb
  subst hb;exact Z0 a h
 ·intro a h b hb;rcases bo.1 h with h|h
  ·exact vM _ _ _ (Z0 a h) (Xk b hb)
  ·have h:a=e:=by simpa using h
   subst h;exact Xk b hb
theorem aiI{out D:List aB}{e:aB}(ha:ga out)(h:ij out e=some D):ga D:=by
 unfold ij at h;have hno:∀{b:Bool},g' out e.path=b->b=false->ga (j' out (bW out e.path) e):=fun h1 h2=>aou ha (h1.trans h2)
 split at h
 ·rename_i q aC;cases hp:(q.path==e.path) with
  |true=>
   rw[hp] at h;cases hc:mP e q with
   |true=>rw[hc] at h;cases h
   |false=>rw[hc] at h;cases h;exact ha
  |false=>rw[hp] at h;cases h;exact hno (by unfold g';rw[aC]) hp
 ·rename_i aC;cases h;exact hno (by unfold g';rw[aC]) rfl
theorem akh(a)(ha:iL a.1.1)(hb:iL a.1.2.1)(hl:a.1.1.length+a.1.2.1.length<=2097152):f159 a=
  some (match gZ a.1.1 a.1.2.1 with|some out=>(((),(dQ out,())),(out,()))|none=>(((),(false,())),(([]:List aB),()))):=by
 obtain⟨⟨xs,bm,u⟩,b8⟩:=a;have hl:xs.length+bm.length<=2097152:=hl;have hc:f202 ((xs,()),())=some (((),()),(xs,())):=by
  simp only[f202];rw[dw (by decide) (by unfold aA;simp only[List.length_nil];omega)]
  rfl
 have key:I3 ((bm,((),((0:Int),()))),(xs,()))=_:=mv BC bm (fun i (out:List aB)=>((bm,((),((i:Int),()))),(out,())))
  (fun i e out=>some (match ij out e with|some D=>.inl D|none=>.inr ((.inl (((),(false,())),(([]:List aB),()))):aH pF))) (fun out=>((.inr (((),()),(out,()))):aH pF))
  (fun i out=>out.length<=xs.length+i/\∀e,e∈out->mh e) xs ⟨Nat.le_refl _,ha.2⟩ (fun i x out hx dH=>?_) (fun out _=>?_)
 ·have fold:∀(r:List aB) (k:Nat) (out:List aB),fh (fun i e out=>some (match ij out e with|some D=>.inl D|none=>.inr ((.inl (((),(false,())),(([]:List aB),()))):aH pF))) (fun out=>((.inr (((),()),(out,()))):aH pF)) k r out=
    some (match gZ out r with|some D=>.inr (((),()),(D,()))|none=>.inl (((),(false,())),(([]:List aB),()))):=by
   intro r;induction r with
   |nil=>intro k out;rfl
   |cons e r ih=>
    intro k out;rw[vq];simp only[fh];cases ij out e with
    |none=>rfl
    |some D=>simp only[Y];exact ih _ _
  have mem:∀(r:List aB) (out D:List aB),(∀e,e∈r->mh e)->(∀e,e∈out->mh e)->gZ out r=some D->D.length<=out.length+r.length/\∀e,e∈D->mh e:=by
   intro r;induction r with
   |nil=>intro out D _ h2 h;cases h;exact⟨Nat.le_refl _,h2⟩
   |cons e r ih=>
    intro out D h1 h2 h;rw[vq] at h;obtain⟨o1,h3,aD⟩:=Option.bind_eq_some_iff.1 h;have bn:=ih o1 D (fun x hx=>h1 x (ci _ hx)) (fun x hx=>by
     rcases F' h3 hx with rfl|h
     ·exact h1 x cj
     ·exact h2 x h) aD
    have cl:=ze h3;exact⟨by simp only[cY];omega,bn.2⟩
  rw[fold] at key;simp only[f159,hc,Y,key];cases hj:gZ xs bm with
  |none=>rfl
  |some D=>
   have hm:=mem bm xs D hb.2 ha.2 hj;simp only[Y];rw[vF _ ⟨show D.length<=2097152 by omega,hm.2⟩]
   rfl
 ·have hi:=da hx;have hw:aA i:=by unfold aA;omega
  refine⟨?_,fun aQ an=>?_⟩
  ·have nb:=JF ((out,(x.path,())),()) (show out.length<=2097152 by omega)
   have qq:=q_ out x.path;simp only[BC,ct hi,ad,cd,hx,Y,nb,GB,g',ij];have grow:((bq out 0 (bW out x.path:Int)).bind fun atr=>(cm 48 ([]:List aB) atr).bind fun atq=>(cm 48 atq ([x]:List aB)).bind fun atp=>(bq out (bW out x.path:Int) (out.length:Int)).bind fun ato=>(cm 48 atp ato).bind fun atn=>
     (some (.inl ((bm,((),((IntKind.i64.wrap ((i:Int)+(1:Int))),()))),(atn,()))):Option (Sum vR.J (aH pF))))=some (.inl ((bm,((),(((i+1:Nat):Int),()))),(j' out (bW out x.path) x,()))):=by
    have hlen:(out.take (bW out x.path)).length<=out.length:=by rw[List.length_take];omega
    have aCu:(out.drop (bW out x.path)).length<=out.length:=by rw[List.length_drop];omega
    rw[gx qq,Y,dw (by decide) (by unfold aA;simp only[List.length_nil];omega),Y,dw (by decide) (by unfold aA;simp only[List.length_nil,cY,List.nil_append];omega),Y,fC qq,Y,
     dw (by decide) (by unfold aA;simp only[dx,List.length_nil,cY,List.nil_append];omega),Y,b9 hw]
    rfl
   cases aC:out[bW out x.path]? with
   |none=>simp only[ak,Y,bK,ad,cd,hx];exact grow
   |some q=>
    have hin:=fP (da aC);simp only;cases hp:(q.path==x.path) with
    |false=>simp only[ak,Y,bK,ad,cd,hx];exact grow
    |true=>
     have uV:((x.path==q.path)&&((x.kind==q.kind)&&((x.mode==q.mode)&&(x.text==q.text))))=kP x q:=rfl;rw[aon];simp only[ad,hin,aC,Y,cd,hx,uV];cases hk:(q.kind !=1) with
     |true=>rfl
     |false=>
      simp only[ak,Y,Bool.false_or];cases kP x q with
      |false=>rfl
      |true=>simp only[bu,ak,Y,b9 hw];rfl
  ·simp only[bH] at an;cases hs:ij out x with
   |none=>rw[hs] at an;cases an
   |some D=>
    rw[hs] at an;cases an;have cl:=ze hs;refine⟨by omega,fun e he=>?_⟩
    rcases F' hs he with rfl|h
    ·exact hb.2 e (eK hx)
    ·exact dH.2 e h
 ·simp only[BC,dK,ak]
noncomputable abbrev awd:a8:=[(159,aah)]
theorem abb:aT O (aZ af awd):=aY ⟨z159,⟨⟩⟩
abbrev Bb:Shape:=⟨[aO 0 .pack,bd 4 3000256,aj 5],[bc 3000256 .entry 4 0],30⟩
abbrev q9:List aR:=[(.ret,⟨[bd 2 3000128,ar 3],[bc 3000128 .entry 2 0],30⟩),(.exit 0,⟨[bd 4 3000256],[bc 3000256 .entry 4 0],30⟩)]
noncomputable def BK(y:Bb.J):bQ Bb q9:=
 bif(decide (y.1.2.2.1<(y.1.1.length:Int))) then
(aS y.1.1 y.1.2.2.1).bind fun a=>
(f159 ((y.2.1,a.bI,()),())).bind fun b=>
 bif(!b.1.2.1) then
 some (.inr (.inl (((),false,()),([]:List aB),())))
else
 some (.inl ((y.1.1,(),(IntKind.i64.wrap (y.1.2.2.1+(1:Int))),()),b.2.1,()))
else
 some (.inr (.inr (((),()),y.2.1,())))
noncomputable def Ja:Bb.J->Option (aH q9):=bA BK
theorem anJ:aV O (ap (codeOf Tryz.f109) 1 58) (aX Bb q9 Ja):=bT abb (by kernel_rfl) ag fun y=>by kernel_rfl
abbrev i109:Shape:=⟨[aO 0 .pack],[],30⟩
abbrev ZG:Shape:=⟨[bd 2 3000128,ar 3],[bc 3000128 .entry 2 0],30⟩
noncomputable def f109(a:i109.J):Option ZG.J:=
(Ja ((a.1.1,(),(0:Int),()),([]:List aB),())).bind fun b=>
(match b with
|.inl c=>
 some (((),c.1.2.1,()),c.2.1,())
|.inr d=>
 some (((),true,()),d.2.1,()))
noncomputable def aaJ:aI:=aL af Tryz.f109 i109 ZG [] f109
theorem z109:aF O 109 aaJ:=aM abb Tryz.func109 (by kernel_rfl) (a7 anJ ag) (fun y=>by kernel_rfl) fun a=>by kernel_rfl
abbrev i229:Shape:=⟨[aO 0 .entry],[],8⟩
abbrev Lc:Shape:=⟨[bd 2 3000128],[bc 3000128 .entry 2 0],8⟩
noncomputable def f229(a:i229.J):Option Lc.J:=
 qR (t:=.entry) a.1.1 (some (((),()),([]:List aB),())) ((cm 48 ([]:List aB) a.1.1).bind fun b=>
 some (((),()),b,()))
noncomputable def _E:aI:=aL af Tryz.f229 i229 Lc [] f229
theorem z229:aF O 229 _E:=aM g0 Tryz.func229 (by kernel_rfl) ag (fun y=>by kernel_rfl) fun a=>by kernel_rfl
theorem ajI(g n c i vb m vc:Nat)(cur vcur:Array Value)(te ve:TypeId)(w:World)(hi:i<n)(hm:0<m)(hroom:n+m<=c)(hc63:c<=9223372036854775807)(hne:vb≠g)
  (hg:w.heap[g]? =some (.cells cur te (0,0))) (hv:w.heap[vb]? =some (.cells vcur ve (0,0))) (hcs:cur.size=c*4) (hvs:m*4<=vcur.size)
  (h1c:∀v∈cur.toList.take (n*4),v.oneCell'=true) (h1v:∀v∈vcur.toList.take (m*4),v.oneCell'=true):
  Calls O 230 #[.slice (some ⟨g,0,none⟩) n c,.int .i64 i,.slice (some ⟨vb,0,none⟩) m vc] w fun e w'=>
   e=.returned (.slice (some ⟨g,0,none⟩) (n+m) c)/\w'=w.drew.setRow g (bZ (bZ cur.toList ((i+m)*4) ((cur.toList.take (n*4)).drop (i*4))) (i*4) (vcur.toList.take (m*4))).toArray:=by
 have t33:O.underlying 64=some (.slice 178):=by kernel_rfl
 have hsz:(O.info? 178).map (·.size)=some 4:=by kernel_rfl
 have hz1:¬((m:Int)=0):=by omega
 have hz2:¬((i:Int)=(n:Int)):=by omega
 have hov:∀off lb cb,(callFunc 264 #[.slice (some ⟨vb,0,none⟩) m vc,.slice (some ⟨g,off,none⟩) lb cb]).run O w=.ok (.value (.bool false)) w:=fun off lb cb=>by
  rw[run_callFunc_extern Tryz.func264 (by kernel_rfl) (by kernel_rfl) (by kernel_rfl) (e:=Extern.SlicesOverlaps.overlaps #[64,64] #[4]) (by kernel_rfl),
   Lib.run_overlaps_apart w 64 4 178 t33 4 (fun w=>by kernel_rfl) ⟨vb,0,none⟩ ⟨g,off,none⟩ m vc lb cb hne ve te vcur.size cur.size (by simp[World.shape?,hv]) (by simp[World.shape?,hg]) (by omega) (by simp[World.frozen?,hv]) (by simp[World.frozen?,hv])]
  rfl
 have hdl:((cur.toList.take (n*4)).drop (i*4)).length=(n-i)*4:=by simp only[List.length_drop,List.length_take,Array.length_toList,hcs];rw[Nat.min_eq_left (by omega),Nat.sub_mul]
 have hcl:∀j v,(cur.toList.take (n*4))[j]? =some v->w.cell? ⟨g,j,none⟩=some v:=fun j v h=>by
  rw[List.getElem?_take] at h;split at h
  ·simpa[World.cell?,hg] using h
  ·cases h
 have hcv:∀j v,(vcur.toList.take (m*4))[j]? =some v->w.cell? ⟨vb,j,none⟩=some v:=fun j v h=>by
  rw[List.getElem?_take] at h;split at h
  ·simpa[World.cell?,hv] using h
  ·cases h
 have hcp1:∀ty dc sc,(Builtin.copy_ #[64,64] ty #[.slice (some ⟨g,(i+m)*4,none⟩) (n+m-(i+m)) dc,.slice (some ⟨g,i*4,none⟩) (n+m-i) sc]).run O w.drew=
   .ok (goInt (Nat.min (n+m-i) (n+m-(i+m)))) (w.drew.setRow g (bZ cur.toList ((i+m)*4) ((cur.toList.take (n*4)).drop (i*4))).toArray):=fun ty dc sc=>
  y3 w.drew _ _ ty 178 4 g ((i+m)*4) (n+m-(i+m)) dc ⟨g,i*4,none⟩ (n+m-i) sc cur te _ t33 hsz hg (by rw[hdl];simp only[Nat.min_def];split<;>omega)
   (fun j v hj=>by rw[Addr.add_lit];exact hcl (i*4+j) v (by rwa[List.getElem?_drop] at hj)) (by rw[hdl,hcs];omega) (fun v hv=>h1c v (List.mem_of_mem_drop hv))
 obtain⟨cur1,hcur1⟩:∃cur1,cur1=(bZ cur.toList ((i+m)*4) ((cur.toList.take (n*4)).drop (i*4))).toArray:=⟨_,rfl⟩;rw[<-hcur1] at hcp1;have hc1s:cur1.size=c*4:=by rw[hcur1];simp only[bZ,List.size_toArray,dx,List.length_drop,List.length_take,Array.length_toList,hcs];omega
 have hcp2:∀(W:World),W.heap=(w.drew.setRow g cur1).heap->∀ty dc,(Builtin.copy_ #[64,64] ty #[.slice (some ⟨g,i*4,none⟩) (n+m-i) dc,.slice (some ⟨vb,0,none⟩) m vc]).run O W=
   .ok (goInt (Nat.min m (n+m-i))) (W.setRow g (bZ cur1.toList (i*4) (vcur.toList.take (m*4))).toArray):=fun W hW ty dc=>
  y3 W _ _ ty 178 4 g (i*4) (n+m-i) dc ⟨vb,0,none⟩ m vc cur1 te _ t33 hsz (by rw[hW];exact setRow_heap w.drew g cur cur1 te (0,0) hg)
   (by simp only[List.length_take,Array.length_toList,Nat.min_def];split<;>split<;>omega)
   (fun j v hj=>by
    have:=hcv j v hj;rw[Addr.add_lit,Nat.zero_add];unfold World.cell? at this ⊢;rw[hW,show(w.drew.setRow g cur1).heap[vb]? =w.heap[vb]? from setRow_other w.drew g vb cur1 hne];exact this) (by simp only[List.length_take,Array.length_toList];omega) h1v
 have hE:w.drew.setRow g (bZ (bZ cur.toList ((i+m)*4) ((cur.toList.take (n*4)).drop (i*4))) (i*4) (vcur.toList.take (m*4))).toArray=(w.drew.setRow g cur1).setRow g (bZ cur1.toList (i*4) (vcur.toList.take (m*4))).toArray:=by
  rw[setRow_setRow,hcur1]
 rw[hE];clear hE hcur1;have hw1:IntKind.i64.wrap ((i:Int)+(m:Int))=(i:Int)+(m:Int):=by rw[IntKind.wrap_i64];omega
 have hb1:(0:Int)<=(i:Int)+(m:Int):=by omega
 have hin:i<=n:=by omega
 have htn:((i:Int)+(m:Int)).toNat=i+m:=by omega
 have hb2:¬(c=i+m):=by omega
 have hb3:(i:Int)<=(n:Int)+(m:Int):=by omega
 have hb4:¬(c=i):=by omega
 go_enter Tryz.func230,Tryz.ntmps230
 go_wp2_with (simp only[hov])
 go_region_law (refine Pn rfl _ _ 64 64 rfl (.slice (some ⟨g,(i+m)*4,none⟩) (n+m-(i+m)) (c-(i+m))) (.slice (some ⟨g,i*4,none⟩) (n+m-i) (c-i)) (by simp[Act.eval,Act.put]) (by simp[Act.eval,Act.put]) (hcp1 _ _ _) ?_)
 go_wp2_with (at_builtin;refine OY _ rfl _ _ 64 64 rfl _ _ rfl rfl (hcp2 _ rfl _ _) ?_)
 go_ret
 exact⟨rfl,rfl⟩
theorem ajK(xa:Option Addr)(vc:Nat)(w:World):
  Calls O 230 #[.slice none 0 0,.int .i64 0,.slice xa 0 vc] w fun e w'=>e=.returned (.slice none 0 0)/\w'=w:=by
 go_enter Tryz.func230,Tryz.ntmps230
 go_wp2
 go_ret
 exact⟨rfl,rfl⟩
theorem ajJ(g n c i:Nat)(xa:Option Addr)(vc:Nat)(w:World)(hi:i<=n)(hnc:n<=c)(hc63:c<=9223372036854775807):
  Calls O 230 #[.slice (some ⟨g,0,none⟩) n c,.int .i64 i,.slice xa 0 vc] w fun e w'=>e=.returned (.slice (some ⟨g,0,none⟩) n c)/\w'=w:=by
 go_enter Tryz.func230,Tryz.ntmps230
 go_wp2
 all_goals(go_ret;exact⟨rfl,rfl⟩)
theorem alO(xa:Option Addr)(m vc:Nat)(w:World)(hm:0<m)(v':Value)(W:World)(hr:∀ty,(Builtin.append_ #[64,64] ty #[.slice none 0 0,.slice xa m vc]).run O w=.ok v' W):
  Calls O 230 #[.slice none 0 0,.int .i64 0,.slice xa m vc] w fun e w'=>e=.returned v'/\w'=W:=by
 have hz1:¬((m:Int)=0):=by omega
 go_enter Tryz.func230,Tryz.ntmps230
 go_wp2_with (at_builtin;refine Fb _ rfl _ _ 64 64 rfl _ _ rfl rfl (hr _) ?_)
 go_ret
 exact⟨rfl,rfl⟩
theorem alN(g n c:Nat)(xa:Option Addr)(m vc:Nat)(w:World)(hnc:n<=c)(hc63:c<=9223372036854775807)(hm:0<m)(v':Value)(W:World)(hr:∀ty,(Builtin.append_ #[64,64] ty #[.slice (some ⟨g,0,none⟩) n c,.slice xa m vc]).run O w=.ok v' W):
  Calls O 230 #[.slice (some ⟨g,0,none⟩) n c,.int .i64 n,.slice xa m vc] w fun e w'=>e=.returned v'/\w'=W:=by
 have hz1:¬((m:Int)=0):=by omega
 go_enter Tryz.func230,Tryz.ntmps230
 go_wp2_with (at_builtin;refine Fb _ rfl _ _ 64 64 rfl _ _ rfl rfl (hr _) ?_)
 all_goals(go_ret;exact⟨rfl,rfl⟩)
theorem alM(g n c i vb m vc:Nat)(cur vcur:Array Value)(te ve:TypeId)(w:World)(hi:i<n)(hm:0<m)(hnc:n<=c)(hroom:c<n+m)(hc63:c<=9223372036854775807)(hbig:(n+m)*48<=140737488355328)
  (hg:w.heap[g]? =some (.cells cur te (0,0))) (hv:w.heap[vb]? =some (.cells vcur ve (0,0))) (hcs:cur.size=c*4) (hvs:m*4<=vcur.size)
  (h1c:∀v∈cur.toList.take (n*4),v.oneCell'=true) (h1v:∀v∈vcur.toList.take (m*4),v.oneCell'=true):
  ∃G ROW,∃W:World,G<=maxLen/\n+m<=G/\ROW.size=G*4/\ROW.toList.take (i*4)=cur.toList.take (i*4)/\W.os=w.os/\W.tape=w.tape/\W.output=w.output/\W.heap=w.heap.push (.cells ROW 178 (0,0))/\
  Calls O 230 #[.slice (some ⟨g,0,none⟩) n c,.int .i64 i,.slice (some ⟨vb,0,none⟩) m vc] w fun e w'=>
   e=.returned (.slice (some ⟨w.heap.size,0,none⟩) (n+m) G)/\w'.os=w.os/\w'.tape=w.tape/\w'.output=w.output/\
    w'.heap=(W.setRow w.heap.size (bZ (bZ ROW.toList (i*4) (vcur.toList.take (m*4))) ((i+m)*4) ((cur.toList.take (n*4)).drop (i*4))).toArray).heap:=by
 have t33:O.underlying 64=some (.slice 178):=by kernel_rfl
 have t3:O.underlying 3=some (.int .i64):=by kernel_rfl
 have hsz:(O.info? 178).map (·.size)=some 4:=by kernel_rfl
 have hinfo:(O.info? 178).map (fun i=>(i.zero.map (·.cells.size),i.size,i.bytes))=some (some 4,4,48):=by kernel_rfl
 obtain⟨i0,hi0,hzz⟩:=Option.map_eq_some_iff.1 hinfo;simp only[Prod.mk.injEq] at hzz;obtain⟨hz0,hzs,hzb⟩:=hzz;obtain⟨z,hz,hzc⟩:=Option.map_eq_some_iff.1 hz0;have hz1:¬((m:Int)=0):=by omega
 have hz2:¬((i:Int)=(n:Int)):=by omega
 have hz3:(c:Int)<(n:Int)+(m:Int):=by omega
 have hgw:g<w.heap.size:=(Array.getElem?_eq_some_iff.1 hg).1;have hvw:vb<w.heap.size:=(Array.getElem?_eq_some_iff.1 hv).1;have hkk:(n:Int)+(m:Int)-(i:Int)=((n+m-i:Nat):Int):=by omega
 have hik:i+(n+m-i)=n+m:=by omega
 have hdl:((cur.toList.take (n*4)).drop (i*4)).length=(n-i)*4:=by simp only[List.length_drop,List.length_take,Array.length_toList,hcs];rw[Nat.min_eq_left (by omega),Nat.sub_mul]
 have hcl:∀j v,(cur.toList.take (n*4))[j]? =some v->w.cell? ⟨g,j,none⟩=some v:=fun j v h=>by
  rw[List.getElem?_take] at h;split at h
  ·simpa[World.cell?,hg] using h
  ·cases h
 have hcv:∀j v,(vcur.toList.take (m*4))[j]? =some v->w.cell? ⟨vb,j,none⟩=some v:=fun j v h=>by
  rw[List.getElem?_take] at h;split at h
  ·simpa[World.cell?,hv] using h
  ·cases h
 have hold:(Builtin.firstCells i0.size i (.slice (some ⟨g,0,none⟩) i c)).run O w.drew=.ok (cur.toList.take (i*4)).toArray w.drew:=by
  rw[hzs];exact run_firstCells_some w.drew 4 i ⟨g,0,none⟩ i c (cur.toList.take (i*4)) (by simp only[List.length_take,Array.length_toList,hcs];omega) (fun j v hj=>by
   rw[Addr.add_lit,Nat.zero_add];refine hcl j v ?_
   rw[List.getElem?_take] at hj ⊢;split at hj
   ·rw[if_pos (by omega)];exact hj
   ·cases hj)
 have hrz:∀ty,(Builtin.append_ #[64,3] ty #[.slice (some ⟨g,0,none⟩) i c,.int .i64 ((n:Int)+(m:Int)-(i:Int))]).run O w=
   .ok (.slice (some ⟨w.heap.size,0,none⟩) (n+m) (grownCap w (n+m) c 178)) (w.drew.alloc (.cells ((cur.toList.take (i*4)).toArray++Builtin.zeroCells z.cells (n+m-i)++Builtin.zeroCells z.cells (grownCap w (n+m) c 178-(n+m))) 178)):=fun ty=>by
  have h:=Lib.run_append_grow_zeros w 64 3 ty 178 i0 z .i64 .i64 t33 t3 hi0 hz (some ⟨g,0,none⟩) i c (cur.toList.take (i*4)) hold (n+m-i) (by omega) (by omega) (by omega) (by omega) (by rw[hzb];omega) (by rw[hzb,hik];exact growslice_fits hroom hbig)
  rw[hik] at h;rw[hkk];exact h
 obtain⟨G,hG⟩:∃G,G=grownCap w (n+m) c 178:=⟨_,rfl⟩;obtain⟨ROW,hROW⟩:∃ROW:Array Value,ROW=(cur.toList.take (i*4)).toArray++Builtin.zeroCells z.cells (n+m-i)++Builtin.zeroCells z.cells (G-(n+m)):=⟨_,rfl⟩;rw[<-hG] at hrz;rw[<-hROW] at hrz;have hGn:n+m<=G:=by rw[hG];exact grownCap_ge w _ _ _
 have hGm:G<=maxLen:=by rw[hG];exact grownCap_le_maxLen w (n+m) c 178 (by unfold maxLen;omega)
 have hG63:G<=9223372036854775807:=by unfold maxLen at hGm;omega
 have hRl:ROW.size=G*4:=by
  rw[hROW];simp only[Array.size_append,List.size_toArray,size_zeroCells,hzc,List.length_take,Array.length_toList,hcs];omega
 have hRt:ROW.toList.take (i*4)=cur.toList.take (i*4):=by
  rw[hROW];simp only[Array.toList_append,List.append_assoc];have:i*4=(cur.toList.take (i*4)).length:=by simp only[List.length_take,Array.length_toList,hcs];omega
  exact List.take_left' this.symm
 refine⟨G,ROW,w.drew.alloc (.cells ROW 178),hGm,hGn,hRl,hRt,rfl,rfl,rfl,rfl,?_⟩;obtain⟨W1,hW1⟩:∃W1,W1=w.drew.alloc (.cells ROW 178):=⟨_,rfl⟩;rw[<-hW1] at hrz ⊢;have hNew:W1.heap[w.heap.size]? =some (.cells ROW 178 (0,0)):=by rw[hW1];exact heap_alloc_new w.drew _
 have hOld:∀b,b<w.heap.size->W1.heap[b]? =w.heap[b]? :=fun b hb=>by rw[hW1];exact RowKit.Below.heap_alloc w.drew _ b hb
 have hos:W1.os=w.os/\W1.tape=w.tape/\W1.output=w.output:=by rw[hW1];exact⟨rfl,rfl,rfl⟩
 have hgN:g≠w.heap.size:=by omega
 have hvN:vb≠w.heap.size:=by omega
 have hcpA:∀(W:World),W.heap=W1.heap->∀ty dc,(Builtin.copy_ #[64,64] ty #[.slice (some ⟨w.heap.size,i*4,none⟩) (n+m-i) dc,.slice (some ⟨vb,0,none⟩) m vc]).run O W=
   .ok (goInt (Nat.min m (n+m-i))) (W.setRow w.heap.size (bZ ROW.toList (i*4) (vcur.toList.take (m*4))).toArray):=fun W hW ty dc=>
  y3 W _ _ ty 178 4 w.heap.size (i*4) (n+m-i) dc ⟨vb,0,none⟩ m vc ROW 178 _ t33 hsz (by rw[hW];exact hNew)
   (by simp only[List.length_take,Array.length_toList,Nat.min_def];split<;>split<;>omega)
   (fun j v hj=>by
    have:=hcv j v hj;rw[Addr.add_lit,Nat.zero_add];unfold World.cell? at this ⊢;rw[hW,show W1.heap[vb]? =w.heap[vb]? from hOld vb hvw];exact this) (by simp only[List.length_take,Array.length_toList];omega) h1v
 obtain⟨R2,hR2⟩:∃R2,R2=(bZ ROW.toList (i*4) (vcur.toList.take (m*4))).toArray:=⟨_,rfl⟩;have hE:W1.setRow w.heap.size (bZ (bZ ROW.toList (i*4) (vcur.toList.take (m*4))) ((i+m)*4) ((cur.toList.take (n*4)).drop (i*4))).toArray=
   (W1.setRow w.heap.size R2).setRow w.heap.size (bZ R2.toList ((i+m)*4) ((cur.toList.take (n*4)).drop (i*4))).toArray:=by rw[setRow_setRow,hR2]
 rw[hE];have hR2s:R2.size=G*4:=by rw[hR2];simp only[bZ,List.size_toArray,dx,List.length_drop,List.length_take,Array.length_toList,hRl];omega
 rw[<-hR2] at hcpA;clear hE hR2;have hcpB:∀(W:World),W.heap=(W1.setRow w.heap.size R2).heap->∀ty dc sc,(Builtin.copy_ #[64,64] ty #[.slice (some ⟨w.heap.size,(i+m)*4,none⟩) (n+m-(i+m)) dc,.slice (some ⟨g,i*4,none⟩) (n-i) sc]).run O W=
   .ok (goInt (Nat.min (n-i) (n+m-(i+m)))) (W.setRow w.heap.size (bZ R2.toList ((i+m)*4) ((cur.toList.take (n*4)).drop (i*4))).toArray):=fun W hW ty dc sc=>
  y3 W _ _ ty 178 4 w.heap.size ((i+m)*4) (n+m-(i+m)) dc ⟨g,i*4,none⟩ (n-i) sc R2 178 _ t33 hsz (by rw[hW];exact setRow_heap W1 w.heap.size ROW R2 178 (0,0) hNew)
   (by rw[hdl];simp only[Nat.min_def];split<;>omega)
   (fun j v hj=>by
    have:=hcl (i*4+j) v (by rwa[List.getElem?_drop] at hj)
    rw[Addr.add_lit];unfold World.cell? at this ⊢;rw[hW,show(W1.setRow w.heap.size R2).heap[g]? =w.heap[g]? from(setRow_other W1 w.heap.size g R2 hgN).trans (hOld g hgw)];exact this) (by rw[hdl,hR2s];omega) (fun v hv=>h1c v (List.mem_of_mem_drop hv))
 have hGi:¬(G=i):=by omega
 have hGim:¬(G=i+m):=by omega
 have hci:¬(c=i):=by omega
 have hw1:IntKind.i64.wrap ((i:Int)+(m:Int))=(i:Int)+(m:Int):=by rw[IntKind.wrap_i64];omega
 have hb1:(0:Int)<=(i:Int)+(m:Int):=by omega
 have hin:i<=n:=by omega
 have htn:((i:Int)+(m:Int)).toNat=i+m:=by omega
 have hb3:(i:Int)<=(n:Int):=by omega
 clear hkk hik hold hROW hG hRl hW1;go_enter Tryz.func230,Tryz.ntmps230
 go_wp2_with (first
  |(at_builtin;refine Fb _ rfl _ _ 64 3 rfl _ _ rfl rfl (hrz _) ?_)
  |(at_builtin;refine OY _ rfl _ _ 64 64 rfl _ _ rfl rfl (hcpA _ rfl _ _) ?_))
 go_region_law (refine Pn rfl _ _ 64 64 rfl (.slice (some ⟨w.heap.size,(i+m)*4,none⟩) (n+m-(i+m)) (G-(i+m))) (.slice (some ⟨g,i*4,none⟩) (n-i) (c-i)) (by simp[Act.eval,Act.put]) (by simp[Act.eval,Act.put]) (hcpB (W1.setRow w.heap.size R2).drew rfl 3 (G-(i+m)) (c-i)) ?_)
 go_wp2
 go_ret
 exact⟨rfl,hos.1,hos.2.1,hos.2.2,rfl⟩
noncomputable def Xt:aI:=Jd .entry 48
theorem aq2:aF O 230 Xt:=ajH (t:=.entry) (bt:=48) rfl (by decide) (T:=64) (e:=178) ⟨ajK,ajJ,alO,alN,ajI,alM⟩ (fun vs w=>enters_of Tryz.func230 (by kernel_rfl) rfl _ _) (by kernel_rfl) (by kernel_rfl)
noncomputable abbrev avp:a8:=[(105,xq),(201,LX),(229,_E),(230,Xt)]
theorem DS:aT O (aZ af avp):=aY ⟨z105,z201,z229,aq2,⟨⟩⟩
abbrev Tz:Shape:=⟨[aO 0 .entry,aO 1 .entry],[],59⟩
abbrev Td:List aR:=[(.norm,⟨[aO 0 .entry,aO 1 .entry,ar 18],[],59⟩)]
noncomputable def Jp(y:Tz.J):Option (aH Td):=
(f105 ((y.1.1,()),())).bind fun a=>
 bif(!(!a.1.1)) then
(f105 ((y.1.2.1,()),())).bind fun b=>
 some ((y.1.1,y.1.2.1,(!b.1.1),()),())
else
 some ((y.1.1,y.1.2.1,true,()),())
theorem ana:aV O (ap (codeOf Tryz.f185) 1 12) (aX Tz Td Jp):=cn DS (by kernel_rfl) ag fun y=>by kernel_rfl
abbrev Pq:Shape:=⟨[bd 6 3000384,ax 8 8 0,aj 9,aO 21 .entry,aj 22,aj 23],[bc 3000384 .entry 6 0,aw 8 [ah,ba,ba,ah]],59⟩
abbrev Pj:List aR:=[(.norm,⟨[bd 6 3000384,aO 21 .entry,aj 22,aj 23,ar 42,ax 43 8 1,aj 44,ar 45,ar 46,ar 53],[bc 3000384 .entry 6 0,aw 8 [ah,ba,ba,ah]],59⟩)]
noncomputable def Fz(y:Pq.J):Option (aH Pj):=
 bif(y.2.2.1.2.1 !=(1:Int)) then
 some (((),y.1.2.2.2.1,y.1.2.2.2.2.1,y.1.2.2.2.2.2.1,true,(),y.2.2.1.2.1,(y.2.2.1.2.1 !=(1:Int)),true,true,()),y.2.1,(y.2.2.1.1,y.2.2.1.2.1,y.2.2.1.2.2.1,y.2.2.1.2.2.2.1,()),())
else
(bf y.2.1.length y.1.2.2.1).bind fun a=>
(y.2.1[a]?).bind fun b=>
 some (((),y.1.2.2.2.1,y.1.2.2.2.2.1,y.1.2.2.2.2.2.1,(!((b.path==y.2.2.1.1)&&((b.kind==y.2.2.1.2.1)&&((b.mode==y.2.2.1.2.2.1)&&(b.text==y.2.2.1.2.2.2.1))))),(),y.2.2.1.2.1,(y.2.2.1.2.1 !=(1:Int)),false,(!((b.path==y.2.2.1.1)&&((b.kind==y.2.2.1.2.1)&&((b.mode==y.2.2.1.2.2.1)&&(b.text==y.2.2.1.2.2.2.1))))),()),y.2.1,(y.2.2.1.1,y.2.2.1.2.1,y.2.2.1.2.2.1,y.2.2.1.2.2.2.1,()),())
theorem agy:aV O (ap (dk (ap (codeOf Tryz.f185) 1 122)) 244 250678) (aX Pq Pj Fz):=cn DS (by kernel_rfl) ag fun y=>by kernel_rfl
abbrev zW:Shape:=⟨[bd 6 3000384,aO 21 .entry,aj 22,aj 23],[bc 3000384 .entry 6 0],59⟩
abbrev qT:List aR:=[(.ret,⟨[bd 4 3000256,ar 5],[bc 3000256 .entry 4 0],59⟩),(.exit 0,⟨[bd 6 3000384],[bc 3000384 .entry 6 0],59⟩)]
noncomputable def An(y:zW.J):bQ zW qT:=
 bif(decide (y.1.2.2.2.1<y.1.2.2.1)) then
(aS y.1.2.1 y.1.2.2.2.1).bind fun a=>
(f201 ((y.2.1,a.path,()),())).bind fun b=>
 bif(!b.1.2.1) then
(uk 48 y.2.1 b.1.1 ([a]:List aB)).bind fun c=>
 some (.inl (((),y.1.2.1,y.1.2.2.1,(IntKind.i64.wrap (y.1.2.2.2.1+(1:Int))),()),c,()))
else
(Fz (((),(),b.1.1,y.1.2.1,y.1.2.2.1,y.1.2.2.2.1,()),y.2.1,(a.path,a.kind,a.mode,a.text,()),())).bind fun d=>
 bif d.1.2.2.2.2.1 then
 some (.inr (.inl (((),false,()),([]:List aB),())))
else
 some (.inl (((),d.1.2.1,d.1.2.2.1,(IntKind.i64.wrap (d.1.2.2.2.1+(1:Int))),()),d.2.1,()))
else
 some (.inr (.inr (((),()),y.2.1,())))
noncomputable def Hq:zW.J->Option (aH qT):=bA An
theorem alc:aV O (ap (codeOf Tryz.f185) 1 122) (aX zW qT Hq):=bT DS (by kernel_rfl) (a7 agy ag) fun y=>by kernel_rfl
abbrev i185:Shape:=⟨[aO 0 .entry,aO 1 .entry],[],59⟩
abbrev YQ:Shape:=⟨[bd 4 3000256,ar 5],[bc 3000256 .entry 4 0],59⟩
noncomputable def f185(a:i185.J):Option YQ.J:=
(Jp ((a.1.1,a.1.2.1,()),())).bind fun b=>
 bif b.1.2.2.1 then
 some (((),false,()),([]:List aB),())
else
(f229 ((b.1.1,()),())).bind fun c=>
(Hq (((),b.1.2.1,(b.1.2.1.length:Int),(0:Int),()),c.2.1,())).bind fun d=>
(match d with
|.inl e=>
 some (((),e.1.2.1,()),e.2.1,())
|.inr f=>
(f105 ((f.2.1,()),())).bind fun g=>
 bif(!g.1.1) then
 some (((),false,()),([]:List aB),())
else
 some (((),true,()),f.2.1,()))
noncomputable def _1:aI:=aL af Tryz.f185 i185 YQ [] f185
theorem asU:aF O 185 _1:=aM DS Tryz.func185 (by kernel_rfl) (a7 ana (a7 alc ag)) (fun y=>by kernel_rfl) fun a=>by kernel_rfl
noncomputable abbrev avY:a8:=[(185,_1)]
theorem aa8:aT O (aZ af avY):=aY ⟨asU,⟨⟩⟩
abbrev A6:Shape:=⟨[bd 4 3000256,aO 9 .pack,aj 10,aj 11],[bc 3000256 .entry 4 0],27⟩
abbrev q8:List aR:=[(.ret,⟨[bd 2 3000128,ar 3],[bc 3000128 .entry 2 0],27⟩),(.exit 0,⟨[bd 4 3000256],[bc 3000256 .entry 4 0],27⟩)]
noncomputable def BG(y:A6.J):bQ A6 q8:=
 bif(decide (y.1.2.2.2.1<y.1.2.2.1)) then
(aS y.1.2.1 y.1.2.2.2.1).bind fun a=>
(f185 ((y.2.1,a.bI,()),())).bind fun b=>
 bif(!b.1.2.1) then
 some (.inr (.inl (((),false,()),([]:List aB),())))
else
 some (.inl (((),y.1.2.1,y.1.2.2.1,(IntKind.i64.wrap (y.1.2.2.2.1+(1:Int))),()),b.2.1,()))
else
 some (.inr (.inr (((),()),y.2.1,())))
noncomputable def I8:A6.J->Option (aH q8):=bA BG
theorem anA:aV O (ap (codeOf Tryz.f133) 1 58) (aX A6 q8 I8):=bT aa8 (by kernel_rfl) ag fun y=>by kernel_rfl
abbrev i133:Shape:=⟨[aO 0 .pack],[],27⟩
abbrev Zr:Shape:=⟨[bd 2 3000128,ar 3],[bc 3000128 .entry 2 0],27⟩
noncomputable def f133(a:i133.J):Option Zr.J:=
(I8 (((),a.1.1,(a.1.1.length:Int),(0:Int),()),([]:List aB),())).bind fun b=>
(match b with
|.inl c=>
 some (((),c.1.2.1,()),c.2.1,())
|.inr d=>
 some (((),true,()),d.2.1,()))
noncomputable def aaw:aI:=aL af Tryz.f133 i133 Zr [] f133
theorem ate:aF O 133 aaw:=aM aa8 Tryz.func133 (by kernel_rfl) (a7 anA ag) (fun y=>by kernel_rfl) fun a=>by kernel_rfl
theorem Gw:∀(r:List aB) (out D:List aB),(∀e,e∈r->mh e)->(∀e,e∈out->mh e)->gZ out r=some D->D.length<=out.length+r.length/\∀e,e∈D->mh e:=by
 intro r;induction r with
 |nil=>intro out D _ h2 h;cases h;exact⟨Nat.le_refl _,h2⟩
 |cons e r ih=>
  intro out D h1 h2 h;rw[vq] at h;obtain⟨o1,h3,aD⟩:=Option.bind_eq_some_iff.1 h;have bn:=ih o1 D (fun x hx=>h1 x (ci _ hx)) (fun x hx=>by
   rcases F' h3 hx with rfl|h
   ·exact h1 x cj
   ·exact h2 x h) aD
  have cl:=ze h3;exact⟨by simp only[cY];omega,bn.2⟩
theorem FC{t:List aB}(h:dQ t=true):ga t:=by
 unfold dQ at h;simp only[bz] at h;exact Wm h.1.1
theorem j2{t:List aB}(h:dQ t=true):t.length<=16:=by
 unfold dQ at h;simp only[bz,dW] at h;exact h.2
theorem akt(a)(hs:cw a.1.1.length):f229 a=some (((),()),(a.1.1,())):=by
 obtain⟨⟨xs,u⟩,b8⟩:=a;have hs:xs.length<=2097152:=hs;have h2:(cm 48 ([]:List aB) xs).bind (fun x=>some (((),()),(x,())))=(some (((),()),(xs,())):Option Lc.J):=by
  rw[dw (by decide) (by unfold aA;simp only[List.length_nil];omega)];rfl
 simp only[f229];rw[h2];unfold qR;split
 ·rfl
 ·rename_i h;exact absurd (fun he:xs=[]=>by subst he;rfl) h
theorem ahj(a)(ha:iL a.1.1)(hb:iL a.1.2.1)(h1:dQ a.1.1=true)(h2:dQ a.1.2.1=true):f185 a=
  some (match gZ a.1.1 a.1.2.1 with|some out=>(bif dQ out then(((),(true,())),(out,())) else(((),(false,())),(([]:List aB),())))|none=>(((),(false,())),(([]:List aB),()))):=by
 obtain⟨⟨xs,bm,u⟩,b8⟩:=a;have h1:dQ xs=true:=h1;have h2:dQ bm=true:=h2;have aCJ:=j2 h1;have aCI:=j2 h2;have e1:=qN ((xs,()),()) ha;have e2:=qN ((bm,()),()) hb;have bE:=akt ((xs,()),()) (show xs.length<=2097152 by omega)
 have key:Hq (((),(bm,((bm.length:Int),((0:Int),())))),(xs,()))=_:=mv An bm (fun i (out:List aB)=>(((),(bm,((bm.length:Int),((i:Int),())))),(out,())))
  (fun i e out=>some (match ij out e with|some D=>.inl D|none=>.inr ((.inl (((),(false,())),(([]:List aB),()))):aH qT))) (fun out=>((.inr (((),()),(out,()))):aH qT))
  (fun i out=>out.length<=xs.length+i/\ga out) xs ⟨Nat.le_refl _,FC h1⟩ (fun i x out hx dH=>?_) (fun out _=>?_)
 ·have fold:∀(r:List aB) (k:Nat) (out:List aB),fh (fun i e out=>some (match ij out e with|some D=>.inl D|none=>.inr ((.inl (((),(false,())),(([]:List aB),()))):aH qT))) (fun out=>((.inr (((),()),(out,()))):aH qT)) k r out=
    some (match gZ out r with|some D=>.inr (((),()),(D,()))|none=>.inl (((),(false,())),(([]:List aB),()))):=by
   intro r;induction r with
   |nil=>intro k out;rfl
   |cons e r ih=>
    intro k out;rw[vq];simp only[fh];cases ij out e with
    |none=>rfl
    |some D=>simp only[Y];exact ih _ _
  rw[fold] at key;simp only[f185,Jp,e1,e2,h1,h2,bE,bu,bK,ad,ak,Y,key];cases hj:gZ xs bm with
  |none=>rfl
  |some D=>
   have hm:=Gw bm xs D hb.2 ha.2 hj;simp only[Y];rw[qN _ ⟨show D.length<=2097152 by omega,hm.2⟩]
   simp only[Y];cases dQ D<;>rfl
 ·have hi:=da hx;have hw:aA i:=by unfold aA;omega
  refine⟨?_,fun aQ an=>?_⟩
  ·have nb:=Pe ((out,(x.path,())),()) (show out.length<=2097152 by omega) dH.2
   have qq:=q_ out x.path;simp only[An,ct hi,ad,cd,hx,Y,nb,g',ij];have grow:uk 48 out (bW out x.path:Int) [x]=some (j' out (bW out x.path) x):=by
    unfold uk;rw[if_pos ⟨by omega,by omega,by unfold room;simp only[cY,List.length_nil];omega,by unfold maxLen;simp only[cY,List.length_nil];omega⟩,Int.toNat_natCast]
    rfl
   cases aC:out[bW out x.path]? with
   |none=>simp only[bK,ad,grow,Y,b9 hw];rfl
   |some q=>
    have hin:=fP (da aC);simp only;cases hp:(q.path==x.path) with
    |false=>simp only[bK,ad,grow,Y,b9 hw,ak];rfl
    |true=>
     have uV:((q.path==x.path)&&((q.kind==x.kind)&&((q.mode==x.mode)&&(q.text==x.text))))=kP q x:=rfl;simp only[bu,ak,ad,Fz,hin,aC,Y,mP,al2 x q];cases hk:(x.kind !=1) with
     |true=>rfl
     |false=>
      have auu:(kP q x)=((q.path==x.path)&&((q.kind==x.kind)&&((q.mode==x.mode)&&(q.text==x.text)))):=rfl;rw[auu];cases ((q.path==x.path)&&((q.kind==x.kind)&&((q.mode==x.mode)&&(q.text==x.text)))) with
      |false=>rfl
      |true=>simp only[bu,Bool.false_or,ak,Y,b9 hw];rfl
  ·simp only[bH] at an;cases hs:ij out x with
   |none=>rw[hs] at an;cases an
   |some D=>
    rw[hs] at an;cases an;have cl:=ze hs;exact⟨by omega,aiI dH.2 hs⟩
 ·simp only[An,dK,ak]
def fQ(out:List aB):List aJ->Option (List aB)
 |[]=>some out
 |p::r=>match gZ out p.bI with
  |some D=>bif dQ D then fQ D r else none
  |none=>none
def stepT(out:List aB)(p:aJ):Option (List aB):=match gZ out p.bI with
 |some D=>bif dQ D then some D else none
 |none=>none
theorem yQ(out:List aB)(p:aJ)(r:List aJ):fQ out (p::r)=(stepT out p).bind fun D=>fQ D r:=by
 unfold stepT;rw[fQ];cases gZ out p.bI with
 |none=>rfl
 |some D=>simp only;cases dQ D<;>rfl
theorem zK{out D:List aB}{p:aJ}(h:stepT out p=some D):dQ D=true/\gZ out p.bI=some D:=by
 unfold stepT at h;split at h
 ·rename_i dm aP;cases ay:dQ dm with
  |true=>rw[ay] at h;cases h;exact⟨ay,aP⟩
  |false=>rw[ay] at h;cases h
 ·cases h
theorem aii(a)(hb:fS a.1.1)(hk:a.1.1.all cx=true):f109 a=some (((),((fQ [] a.1.1).isSome,())),((fQ [] a.1.1).getD [],())):=by
 obtain⟨⟨ps,u⟩,b8⟩:=a;have hl:ps.length<=2097152:=hb.1;have MW:∀p,p∈ps->dQ p.bI=true/\iL p.bI:=by
  intro p hp;have:=List.all_eq_true.1 hk p hp;unfold cx at this;simp only[bz] at this;exact⟨this.2,(hb.2 p hp).2.2.2⟩
 have key:Ja ((ps,((),((0:Int),()))),(([]:List aB),()))=_:=mv BK ps (fun i (out:List aB)=>((ps,((),((i:Int),()))),(out,())))
  (fun i p out=>some (match stepT out p with|some D=>.inl D|none=>.inr ((.inl (((),(false,())),(([]:List aB),()))):aH q9))) (fun out=>((.inr (((),()),(out,()))):aH q9))
  (fun i out=>out.length<=16/\∀e,e∈out->mh e) [] ⟨Nat.zero_le _,fun e h=>by cases h⟩ (fun i x out hx dH=>?_) (fun out _=>?_)
 ·have fold:∀(r:List aJ) (k:Nat) (out:List aB),fh (fun i p out=>some (match stepT out p with|some D=>.inl D|none=>.inr ((.inl (((),(false,())),(([]:List aB),()))):aH q9))) (fun out=>((.inr (((),()),(out,()))):aH q9)) k r out=
    some (match fQ out r with|some D=>.inr (((),()),(D,()))|none=>.inl (((),(false,())),(([]:List aB),()))):=by
   intro r;induction r with
   |nil=>intro k out;rfl
   |cons p r ih=>
    intro k out;rw[yQ];simp only[fh];cases stepT out p with
    |none=>rfl
    |some D=>simp only[Y];exact ih _ _
  rw[fold] at key;simp only[f109,key,Y];cases fQ [] ps with
  |none=>rfl
  |some D=>rfl
 ·have hi:=da hx;have hw:aA i:=by unfold aA;omega
  obtain⟨MX,o_⟩:=MW x (eK hx);have x9:=j2 MX;have eI:iL out:=⟨show out.length<=2097152 by omega,dH.2⟩
  refine⟨?_,fun aQ an=>?_⟩
  ·have hj:=akh ((out,(x.bI,())),()) eI o_ (show out.length+x.bI.length<=2097152 by omega)
   simp only[BK,ct hi,ad,cd,hx,Y,hj,stepT];cases gZ out x.bI with
   |none=>rfl
   |some D=>
    simp only;cases dQ D with
    |false=>rfl
    |true=>simp only[bu,ak,ad,b9 hw];rfl
  ·simp only[bH] at an;cases hs:stepT out x with
   |none=>rw[hs] at an;cases an
   |some D=>
    rw[hs] at an;cases an;obtain⟨bn,cl⟩:=zK hs;exact⟨j2 bn,(Gw _ _ _ o_.2 dH.2 cl).2⟩
 ·simp only[BK,dK,ak]
theorem RE(a)(hb:fS a.1.1)(hk:a.1.1.all cx=true):∃out,f109 a=some (((),((fQ [] a.1.1).isSome,())),(out,())):=⟨_,aii a hb hk⟩
theorem afE(a)(hb:fS a.1.1)(hk:a.1.1.all cx=true):f133 a=some (((),((fQ [] a.1.1).isSome,())),((fQ [] a.1.1).getD [],())):=by
 obtain⟨⟨ps,u⟩,b8⟩:=a;have hl:ps.length<=2097152:=hb.1;have MW:∀p,p∈ps->dQ p.bI=true/\iL p.bI:=by
  intro p hp;have:=List.all_eq_true.1 hk p hp;unfold cx at this;simp only[bz] at this;exact⟨this.2,(hb.2 p hp).2.2.2⟩
 have key:I8 (((),(ps,((ps.length:Int),((0:Int),())))),(([]:List aB),()))=_:=mv BG ps (fun i (out:List aB)=>(((),(ps,((ps.length:Int),((i:Int),())))),(out,())))
  (fun i p out=>some (match stepT out p with|some D=>.inl D|none=>.inr ((.inl (((),(false,())),(([]:List aB),()))):aH q8))) (fun out=>((.inr (((),()),(out,()))):aH q8))
  (fun i out=>dQ out=true/\∀e,e∈out->mh e) [] ⟨rfl,fun e h=>by cases h⟩ (fun i x out hx dH=>?_) (fun out _=>?_)
 ·have fold:∀(r:List aJ) (k:Nat) (out:List aB),fh (fun i p out=>some (match stepT out p with|some D=>.inl D|none=>.inr ((.inl (((),(false,())),(([]:List aB),()))):aH q8))) (fun out=>((.inr (((),()),(out,()))):aH q8)) k r out=
    some (match fQ out r with|some D=>.inr (((),()),(D,()))|none=>.inl (((),(false,())),(([]:List aB),()))):=by
   intro r;induction r with
   |nil=>intro k out;rfl
   |cons p r ih=>
    intro k out;rw[yQ];simp only[fh];cases stepT out p with
    |none=>rfl
    |some D=>simp only[Y];exact ih _ _
  rw[fold] at key;simp only[f133,key,Y];cases fQ [] ps with
  |none=>rfl
  |some D=>rfl
 ·have hi:=da hx;have hw:aA i:=by unfold aA;omega
  obtain⟨MX,o_⟩:=MW x (eK hx);have x9:=j2 dH.1;have eI:iL out:=⟨show out.length<=2097152 by omega,dH.2⟩
  refine⟨?_,fun aQ an=>?_⟩
  ·have hj:=ahj ((out,(x.bI,())),()) eI o_ dH.1 MX;simp only[BG,ct hi,ad,cd,hx,Y,hj,stepT];cases gZ out x.bI with
   |none=>rfl
   |some D=>
    simp only;cases dQ D with
    |false=>rfl
    |true=>simp only[bu,ak,ad,b9 hw];rfl
  ·simp only[bH] at an;cases hs:stepT out x with
   |none=>rw[hs] at an;cases an
   |some D=>
    rw[hs] at an;cases an;obtain⟨bn,cl⟩:=zK hs;exact⟨bn,(Gw _ _ _ o_.2 dH.2 cl).2⟩
 ·simp only[BG,dK,ak]
theorem agh(a)(hb:fS a.1.1)(hk:a.1.1.all cx=true):∃out,f133 a=some (((),((fQ [] a.1.1).isSome,())),(out,())):=⟨_,afE a hb hk⟩
abbrev Sh:Shape:=⟨[aO 0 .i64,aO 1 .i64,aj 5],[],42⟩
abbrev RZ:List aR:=[(.norm,⟨[aO 0 .i64,aO 1 .i64,aj 5],[],42⟩),(.exit 0,⟨[],[],42⟩)]
noncomputable def s6(y:Sh.J):Option (aH RZ):=
 bif(!(decide (y.1.2.2.1<(y.1.1.length:Int)))) then
 bif(decide (y.1.2.2.1<(y.1.2.1.length:Int))) then
 some (.inl ((y.1.1,y.1.2.1,y.1.2.2.1,()),()))
else
 some (.inr ((),()))
else
 some (.inl ((y.1.1,y.1.2.1,y.1.2.2.1,()),()))
theorem ak3:aV O (ap (dk (ap (codeOf Tryz.f238) 1 26)) 52 104) (aX Sh RZ s6):=cn g0 (by kernel_rfl) ag fun y=>by kernel_rfl
abbrev QV:Shape:=⟨[aO 0 .i64,aO 1 .i64,aj 5,aj 6,aj 7],[],42⟩
abbrev QB:List aR:=[(.norm,⟨[aO 0 .i64,aO 1 .i64,aj 5,aj 6,aj 7],[],42⟩)]
noncomputable def vB(y:QV.J):Option (aH QB):=
 bif(decide (y.1.2.2.1<(y.1.1.length:Int))) then
(aS y.1.1 y.1.2.2.1).bind fun a=>
 some ((y.1.1,y.1.2.1,y.1.2.2.1,a,y.1.2.2.2.2.1,()),())
else
 some ((y.1.1,y.1.2.1,y.1.2.2.1,y.1.2.2.2.1,y.1.2.2.2.2.1,()),())
theorem ai5:aV O (ap (dk (ap (codeOf Tryz.f238) 1 26)) 52 3366) (aX QV QB vB):=cn g0 (by kernel_rfl) ag fun y=>by kernel_rfl
abbrev QU:Shape:=⟨[aO 0 .i64,aO 1 .i64,aj 5,aj 6,aj 7],[],42⟩
abbrev QA:List aR:=[(.norm,⟨[aO 0 .i64,aO 1 .i64,aj 5,aj 6,aj 7],[],42⟩)]
noncomputable def vA(y:QU.J):Option (aH QA):=
 bif(decide (y.1.2.2.1<(y.1.2.1.length:Int))) then
(aS y.1.2.1 y.1.2.2.1).bind fun a=>
 some ((y.1.1,y.1.2.1,y.1.2.2.1,y.1.2.2.2.1,a,()),())
else
 some ((y.1.1,y.1.2.1,y.1.2.2.1,y.1.2.2.2.1,y.1.2.2.2.2.1,()),())
theorem ai4:aV O (ap (dk (ap (codeOf Tryz.f238) 1 26)) 52 6734) (aX QU QA vA):=cn g0 (by kernel_rfl) ag fun y=>by kernel_rfl
abbrev AG:Shape:=⟨[aO 0 .i64,aO 1 .i64,aj 5],[],42⟩
abbrev H7:List aR:=[(.ret,⟨[aj 4],[],42⟩),(.exit 0,⟨[],[],42⟩)]
noncomputable def th(y:AG.J):bQ AG H7:=
(s6 ((y.1.1,y.1.2.1,y.1.2.2.1,()),())).bind fun a=>
(match a with
|.inl b=>
(vB ((b.1.1,b.1.2.1,b.1.2.2.1,((-1):Int),((-1):Int),()),())).bind fun c=>
(vA ((c.1.1,c.1.2.1,c.1.2.2.1,c.1.2.2.2.1,c.1.2.2.2.2.1,()),())).bind fun d=>
 bif(decide (d.1.2.2.2.1<d.1.2.2.2.2.1)) then
 some (.inr (.inl ((((-1):Int),()),())))
else
 bif(decide (d.1.2.2.2.1>d.1.2.2.2.2.1)) then
 some (.inr (.inl (((1:Int),()),())))
else
 some (.inl ((d.1.1,d.1.2.1,(IntKind.i64.wrap (d.1.2.2.1+(1:Int))),()),()))
|.inr e=>
 some (.inr (.inr ((),()))))
noncomputable def oB:AG.J->Option (aH H7):=bA th
theorem amY:aV O (ap (codeOf Tryz.f238) 1 26) (aX AG H7 oB):=bT g0 (by kernel_rfl) (a7 ak3 (a7 ai5 (a7 ai4 ag))) fun y=>by kernel_rfl
abbrev i238:Shape:=⟨[aO 0 .i64,aO 1 .i64],[],42⟩
abbrev Lb:Shape:=⟨[aj 4],[],42⟩
noncomputable def f238(a:i238.J):Option Lb.J:=
(oB ((a.1.1,a.1.2.1,(0:Int),()),())).bind fun b=>
(match b with
|.inl c=>
 some ((c.1.1,()),())
|.inr d=>
 some (((0:Int),()),()))
noncomputable def _A:aI:=aL af Tryz.f238 i238 Lb [] f238
theorem asA:aF O 238 _A:=aM g0 Tryz.func238 (by kernel_rfl) (a7 amY ag) (fun y=>by kernel_rfl) fun a=>by kernel_rfl
noncomputable abbrev avi:a8:=[(140,L9),(238,_A)]
theorem aaR:aT O (aZ af avi):=aY ⟨XL,asA,⟨⟩⟩
abbrev Ty:Shape:=⟨[bd 5 3000320,ar 6,bd 7 3000448,ar 8],[bc 3000320 .i64 5 0,bc 3000448 .i64 7 0],28⟩
abbrev Tc:List aR:=[(.norm,⟨[bd 5 3000320,bd 7 3000448,ar 24],[bc 3000320 .i64 5 0,bc 3000448 .i64 7 0],28⟩)]
noncomputable def Jo(y:Ty.J):Option (aH Tc):=
 bif(!(!y.1.2.1)) then
 some (((),(),(!y.1.2.2.2.1),()),y.2.1,y.2.2.1,())
else
 some (((),(),true,()),y.2.1,y.2.2.1,())
theorem am4:aV O (ap (codeOf Tryz.f204) 1 60) (aX Ty Tc Jo):=cn aaR (by kernel_rfl) ag fun y=>by kernel_rfl
abbrev i204:Shape:=⟨[am 0,am 1],[],28⟩
abbrev YA:Shape:=⟨[aj 4],[],28⟩
noncomputable def f204(a:i204.J):Option YA.J:=
(f140 ((a.1.1,()),())).bind fun b=>
(f140 ((a.1.2.1,()),())).bind fun c=>
(Jo (((),b.1.2.1,(),c.1.2.1,()),b.2.1,c.2.1,())).bind fun d=>
 bif d.1.2.2.1 then
 some (((0:Int),()),())
else
(f238 ((d.2.1,d.2.2.1,()),())).bind fun e=>
 some ((e.1.1,()),())
noncomputable def _Q:aI:=aL af Tryz.f204 i204 YA [] f204
theorem asK:aF O 204 _Q:=aM aaR Tryz.func204 (by kernel_rfl) (a7 am4 ag) (fun y=>by kernel_rfl) fun a=>by kernel_rfl
noncomputable abbrev avF:a8:=[(204,_Q)]
theorem awG:aT O (aZ af avF):=aY ⟨asK,⟨⟩⟩
abbrev i161:Shape:=⟨[ck 0 [ah,ba,ah],am 1,am 2],[],30⟩
abbrev Y6:Shape:=⟨[ar 6],[],30⟩
noncomputable def f161(a:i161.J):Option Y6.J:=
 bif(!(a.1.1.1==a.1.2.1)) then
 some ((false,()),())
else
(f204 ((a.1.2.2.1,a.1.1.2.2.1,()),())).bind fun b=>
 bif(a.1.1.2.1==(1:Int)) then
 some (((b.1.1==(0:Int)),()),())
else
 bif(a.1.1.2.1==(2:Int)) then
 some (((decide (b.1.1>=(0:Int))),()),())
else
 bif(a.1.1.2.1==(3:Int)) then
 some (((decide (b.1.1<(0:Int))),()),())
else
 some ((true,()),())
noncomputable def aag:aI:=aL af Tryz.f161 i161 Y6 [] f161
theorem as4:aF O 161 aag:=aM awG Tryz.func161 (by kernel_rfl) ag (fun y=>by kernel_rfl) fun a=>by kernel_rfl
abbrev i288:Shape:=⟨[aj 0],[],6⟩
abbrev XZ:Shape:=⟨[ar 2],[],6⟩
noncomputable def f288(a:i288.J):Option XZ.J:=
 some (((a.1.1 !=a.1.1),()),())
noncomputable def _i:aI:=aL af Tryz.f288 i288 XZ [] f288
theorem ash:aF O 288 _i:=aM g0 Tryz.func288 (by kernel_rfl) ag (fun y=>by kernel_rfl) fun a=>by kernel_rfl
noncomputable abbrev auR:a8:=[(288,_i)]
theorem awj:aT O (aZ af auR):=aY ⟨ash,⟨⟩⟩
abbrev i286:Shape:=⟨[aj 0,aj 1],[],20⟩
abbrev X0:Shape:=⟨[aj 4],[],20⟩
noncomputable def f286(a:i286.J):Option X0.J:=
(f288 ((a.1.1,()),())).bind fun b=>
(f288 ((a.1.2.1,()),())).bind fun c=>
 bif b.1.1 then
 bif c.1.1 then
 some (((0:Int),()),())
else
 some ((((-1):Int),()),())
else
 bif c.1.1 then
 some (((1:Int),()),())
else
 bif(decide (a.1.1<a.1.2.1)) then
 some ((((-1):Int),()),())
else
 bif(decide (a.1.1>a.1.2.1)) then
 some (((1:Int),()),())
else
 some (((0:Int),()),())
noncomputable def _j:aI:=aL af Tryz.f286 i286 X0 [] f286
theorem asi:aF O 286 _j:=aM awj Tryz.func286 (by kernel_rfl) ag (fun y=>by kernel_rfl) fun a=>by kernel_rfl
noncomputable abbrev auT:a8:=[(286,_j)]
theorem aaM:aT O (aZ af auT):=aY ⟨asi,⟨⟩⟩
abbrev AA:Shape:=⟨[aO 0 .i64,aO 1 .i64,aO 9 .i64,aj 10,aj 11],[],36⟩
abbrev H1:List aR:=[(.ret,⟨[aj 4],[],36⟩),(.exit 0,⟨[aO 0 .i64,aO 1 .i64],[],36⟩)]
noncomputable def wa(y:AA.J):bQ AA H1:=
 bif(decide (y.1.2.2.2.2.1<y.1.2.2.2.1)) then
(aS y.1.2.2.1 y.1.2.2.2.2.1).bind fun a=>
 bif(decide (y.1.2.2.2.2.1>=(y.1.2.1.length:Int))) then
 some (.inr (.inl (((1:Int),()),())))
else
(aS y.1.2.1 y.1.2.2.2.2.1).bind fun b=>
(f286 ((a,b,()),())).bind fun c=>
 bif(c.1.1 !=(0:Int)) then
 some (.inr (.inl ((c.1.1,()),())))
else
 some (.inl ((y.1.1,y.1.2.1,y.1.2.2.1,y.1.2.2.2.1,(IntKind.i64.wrap (y.1.2.2.2.2.1+(1:Int))),()),()))
else
 some (.inr (.inr ((y.1.1,y.1.2.1,()),())))
noncomputable def pH:AA.J->Option (aH H1):=bA wa
theorem amS:aV O (ap (codeOf Tryz.f281) 1 26) (aX AA H1 pH):=bT aaM (by kernel_rfl) ag fun y=>by kernel_rfl
abbrev i281:Shape:=⟨[aO 0 .i64,aO 1 .i64],[],36⟩
abbrev La:Shape:=⟨[aj 4],[],36⟩
noncomputable def f281(a:i281.J):Option La.J:=
(pH ((a.1.1,a.1.2.1,a.1.1,(a.1.1.length:Int),(0:Int),()),())).bind fun b=>
(match b with
|.inl c=>
 some ((c.1.1,()),())
|.inr d=>
 bif(decide ((d.1.1.length:Int)<(d.1.2.1.length:Int))) then
 some ((((-1):Int),()),())
else
 some (((0:Int),()),()))
noncomputable def _m:aI:=aL af Tryz.f281 i281 La [] f281
theorem asm:aF O 281 _m:=aM aaM Tryz.func281 (by kernel_rfl) (a7 amS ag) (fun y=>by kernel_rfl) fun a=>by kernel_rfl
noncomputable abbrev auY:a8:=[(281,_m)]
theorem awm:aT O (aZ af auY):=aY ⟨asm,⟨⟩⟩
abbrev i263:Shape:=⟨[aO 0 .i64,aO 1 .i64],[],8⟩
abbrev X_:Shape:=⟨[aj 4],[],8⟩
noncomputable def f263(a:i263.J):Option X_.J:=
(f281 ((a.1.1,a.1.2.1,()),())).bind fun b=>
 some ((b.1.1,()),())
noncomputable def _t:aI:=aL af Tryz.f263 i263 X_ [] f263
theorem ast:aF O 263 _t:=aM awm Tryz.func263 (by kernel_rfl) ag (fun y=>by kernel_rfl) fun a=>by kernel_rfl
noncomputable abbrev au5:a8:=[(151,L5),(263,_t)]
theorem aaO:aT O (aZ af au5):=aY ⟨XJ,ast,⟨⟩⟩
abbrev Tw:Shape:=⟨[bd 5 3000320,ar 6,bd 7 3000448,ar 8],[bc 3000320 .i64 5 0,bc 3000448 .i64 7 0],28⟩
abbrev Ta:List aR:=[(.norm,⟨[bd 5 3000320,bd 7 3000448,ar 24],[bc 3000320 .i64 5 0,bc 3000448 .i64 7 0],28⟩)]
noncomputable def Jn(y:Tw.J):Option (aH Ta):=
 bif(!(!y.1.2.1)) then
 some (((),(),(!y.1.2.2.2.1),()),y.2.1,y.2.2.1,())
else
 some (((),(),true,()),y.2.1,y.2.2.1,())
theorem am0:aV O (ap (codeOf Tryz.f227) 1 60) (aX Tw Ta Jn):=cn aaO (by kernel_rfl) ag fun y=>by kernel_rfl
abbrev i227:Shape:=⟨[am 0,am 1],[],28⟩
abbrev Yk:Shape:=⟨[aj 4],[],28⟩
noncomputable def f227(a:i227.J):Option Yk.J:=
(f151 ((a.1.1,()),())).bind fun b=>
(f151 ((a.1.2.1,()),())).bind fun c=>
(Jn (((),b.2.2.2.1.1,(),c.2.2.2.1.1,()),b.2.1,c.2.1,())).bind fun d=>
 bif d.1.2.2.1 then
 some (((0:Int),()),())
else
(f263 ((d.2.1,d.2.2.1,()),())).bind fun e=>
 some ((e.1.1,()),())
noncomputable def _F:aI:=aL af Tryz.f227 i227 Yk [] f227
theorem z227:aF O 227 _F:=aM aaO Tryz.func227 (by kernel_rfl) (a7 am0 ag) (fun y=>by kernel_rfl) fun a=>by kernel_rfl
noncomputable abbrev avq:a8:=[(100,DO),(102,xr),(227,_F)]
theorem aaU:aT O (aZ af avq):=aY ⟨K0,Do,z227,⟨⟩⟩
abbrev TA:Shape:=⟨[am 1,am 2,ax 3 3 0],[aw 3 [ah,ba,ah]],44⟩
abbrev Te:List aR:=[(.norm,⟨[am 2,ax 3 3 0,ar 20],[aw 3 [ah,ba,ah]],44⟩)]
noncomputable def Jq(y:TA.J):Option (aH Te):=
(f102 (((y.2.1.1,y.2.1.2.1,y.2.1.2.2.1,()),()),())).bind fun a=>
 bif(!(!a.1.1)) then
(f100 ((y.1.2.1,()),())).bind fun b=>
 bif(!(!b.1.1)) then
 some ((y.1.2.1,(),(!(y.1.1==y.2.1.1)),()),(y.2.1.1,y.2.1.2.1,y.2.1.2.2.1,()),())
else
 some ((y.1.2.1,(),true,()),(y.2.1.1,y.2.1.2.1,y.2.1.2.2.1,()),())
else
 some ((y.1.2.1,(),true,()),(y.2.1.1,y.2.1.2.1,y.2.1.2.2.1,()),())
theorem anb:aV O (ap (codeOf Tryz.f183) 1 12) (aX TA Te Jq):=cn aaU (by kernel_rfl) ag fun y=>by kernel_rfl
abbrev i183:Shape:=⟨[ck 0 [ah,ba,ah],am 1,am 2],[],44⟩
abbrev YR:Shape:=⟨[ar 6],[],44⟩
noncomputable def f183(a:i183.J):Option YR.J:=
(Jq ((a.1.2.1,a.1.2.2.1,(),()),(a.1.1.1,a.1.1.2.1,a.1.1.2.2.1,()),())).bind fun b=>
 bif b.1.2.2.1 then
 some ((false,()),())
else
 bif(b.2.1.2.1==(1:Int)) then
(f227 ((b.1.1,b.2.1.2.2.1,()),())).bind fun c=>
 some (((c.1.1==(0:Int)),()),())
else
 bif(b.2.1.2.1==(2:Int)) then
(f227 ((b.1.1,b.2.1.2.2.1,()),())).bind fun d=>
 some (((decide (d.1.1>=(0:Int))),()),())
else
 bif(b.2.1.2.1==(3:Int)) then
(f227 ((b.1.1,b.2.1.2.2.1,()),())).bind fun e=>
 some (((decide (e.1.1<(0:Int))),()),())
else
 some ((true,()),())
noncomputable def _2:aI:=aL af Tryz.f183 i183 YR [] f183
theorem z183:aF O 183 _2:=aM aaU Tryz.func183 (by kernel_rfl) (a7 anb ag) (fun y=>by kernel_rfl) fun a=>by kernel_rfl
def qb:List Int->List Int->Int
 |[],[]=>0
 |[],_::_=>-1
 |_::_,[]=>1
 |x::a,y::b=>bif decide (x<y) then-1 else bif decide (x>y) then 1 else qb a b
theorem drop_cons{aE:Type}{xs:List aE}{k:Nat}{x:aE}{r:List aE}(h:xs.drop k=x::r):xs[k]? =some x/\xs.drop (k+1)=r/\k<xs.length:=by
 have h1:xs[k]? =some x:=by
  have:=congrArg (fun l=>l[0]?) h
  simpa using this
 refine⟨h1,?_,da h1⟩;have:=congrArg List.tail h;simpa using this
theorem drop_nil{aE:Type}{xs:List aE}{k:Nat}(h:xs.drop k=[]):xs.length<=k:=by
 have:=congrArg List.length h;simp at this;omega
theorem ain(a)(h1:cw a.1.1.length)(h2:cw a.1.2.1.length)(iS:∀x,x∈a.1.1->0<=x)(jx:∀x,x∈a.1.2.1->0<=x):f238 a=some ((qb a.1.1 a.1.2.1,()),()):=by
 obtain⟨⟨xs,bm,u⟩,b8⟩:=a;have h1:xs.length<=2097152:=h1;have h2:bm.length<=2097152:=h2;have iS:∀x:Int,x∈xs->0<=x:=iS;have jx:∀x:Int,x∈bm->0<=x:=jx;have key:∀(n:Nat) (us ws:List Int) (k:Nat),us.length+ws.length=n->xs.drop k=us->bm.drop k=ws->k<=2097152->
   (oB ((xs,(bm,((k:Int),()))),())).bind (fun atN=>(match atN with|.inl atM=>some ((atM.1.1,()),())|.inr aCF=>some (((0:Int),()),()):Option Lb.J))=some ((qb us ws,()),()):=by
  intro n;induction n using Nat.strongRecOn with
  |_ n ih=>
   intro us ws k hn ha hb hk;have hw:aA k:=by unfold aA;omega
   match us,ws with
   |[],[]=>
    have c1:=drop_nil ha;have c2:=drop_nil hb;have d1:decide ((k:Int)<(xs.length:Int))=false:=by simp only[decide_eq_false_iff_not];omega
    have d2:decide ((k:Int)<(bm.length:Int))=false:=by simp only[decide_eq_false_iff_not];omega
    have:oB ((xs,(bm,((k:Int),()))),())=some (.inr ((),())):=by
     refine cC ?_
     simp only[th,s6,d1,d2,bK,ad,ak,Y]
    rw[this];rfl
   |[],y::ws=>
    have c1:=drop_nil ha;obtain⟨c2,c3,du⟩:=drop_cons hb;have hy:=jx y (eK c2);have d1:decide ((k:Int)<(xs.length:Int))=false:=by simp only[decide_eq_false_iff_not];omega
    have d3:decide ((-1:Int)<y)=true:=by simp only[dW];omega
    have:oB ((xs,(bm,((k:Int),()))),())=some (.inl ((((-1):Int),()),())):=by
     refine cC ?_
     simp only[th,s6,vB,vA,d1,ct du,cd,c2,bK,ad,ak,Y,d3]
    rw[this];rfl
   |x::us,[]=>
    have c1:=drop_nil hb;obtain⟨c2,c3,du⟩:=drop_cons ha;have hx:=iS x (eK c2);have d1:decide ((k:Int)<(bm.length:Int))=false:=by simp only[decide_eq_false_iff_not];omega
    have d3:decide (x<(-1:Int))=false:=by simp only[decide_eq_false_iff_not];omega
    have d4:decide (x>(-1:Int))=true:=by simp only[dW];omega
    have:oB ((xs,(bm,((k:Int),()))),())=some (.inl (((1:Int),()),())):=by
     refine cC ?_
     simp only[th,s6,vB,vA,d1,ct du,cd,c2,bu,ad,ak,Y,d3,d4]
    rw[this];rfl
   |x::us,y::ws=>
    obtain⟨c2,c3,du⟩:=drop_cons ha;obtain⟨e2,bE,dN⟩:=drop_cons hb;have step:th ((xs,(bm,((k:Int),()))),())=some (bif decide (x<y) then .inr (.inl ((((-1):Int),()),())) else bif decide (x>y) then .inr (.inl (((1:Int),()),())) else .inl ((xs,(bm,(((k+1:Nat):Int),()))),())):=by
     simp only[th,s6,vB,vA,ct du,ct dN,cd,c2,e2,bu,ad,ak,Y,b9 hw];cases decide (x<y)<;>cases decide (x>y)<;>rfl
    rw[qb];cases hlt:decide (x<y) with
    |true=>rw[hlt,ad] at step;rw[show oB ((xs,(bm,((k:Int),()))),())=_ from cC step];rfl
    |false=>
     rw[hlt,ak] at step;cases r':decide (x>y) with
     |true=>rw[r',ad] at step;rw[show oB ((xs,(bm,((k:Int),()))),())=_ from cC step];rfl
     |false=>
      rw[r',ak] at step;rw[show oB ((xs,(bm,((k:Int),()))),())=_ from ea step]
      exact ih (us.length+ws.length) (by simp only[cY] at hn;omega) us ws (k+1) rfl c3 bE (by omega)
 have:=key _ xs bm 0 rfl rfl rfl (Nat.zero_le _);simp only[f238];exact this
theorem ako(a):f286 a=some ((bif decide (a.1.1<a.1.2.1) then-1 else bif decide (a.1.1>a.1.2.1) then 1 else 0,()),()):=by
 obtain⟨⟨x,y,u⟩,b8⟩:=a;have hx:(x !=x)=false:=by simp
 have hy:(y !=y)=false:=by simp
 simp only[f286,f288,Y,hx,hy,ak];cases decide (x<y)<;>cases decide (x>y)<;>rfl
theorem aiB(a)(h1:cw a.1.1.length)(h2:cw a.1.2.1.length):f281 a=some ((qb a.1.1 a.1.2.1,()),()):=by
 obtain⟨⟨xs,bm,u⟩,b8⟩:=a;have h1:xs.length<=2097152:=h1;have h2:bm.length<=2097152:=h2;have key:∀(us ws:List Int) (k:Nat),xs.drop k=us->bm.drop k=ws->k<=xs.length->
   (pH ((xs,(bm,(xs,((xs.length:Int),((k:Int),()))))),())).bind (fun arq=>(match arq with
    |.inl arp=>some ((arp.1.1,()),())
    |.inr WU=>bif(decide ((WU.1.1.length:Int)<(WU.1.2.1.length:Int))) then some ((((-1):Int),()),()) else some (((0:Int),()),()):Option La.J))=some ((qb us ws,()),()):=by
  intro us;induction us with
  |nil=>
   intro ws k ha hb hk;have c1:=drop_nil ha;have d1:decide ((k:Int)<(xs.length:Int))=false:=by simp only[decide_eq_false_iff_not];omega
   have:pH ((xs,(bm,(xs,((xs.length:Int),((k:Int),()))))),())=some (.inr ((xs,(bm,())),())):=by
    refine cC ?_
    simp only[wa,d1,ak]
   rw[this];simp only[Y];cases ws with
   |nil=>
    have c2:=drop_nil hb;have:decide ((xs.length:Int)<(bm.length:Int))=false:=by simp only[decide_eq_false_iff_not];omega
    rw[this];rfl
   |cons y ws=>
    obtain⟨_,_,du⟩:=drop_cons hb;rw[ct (show xs.length<bm.length by omega)];rfl
  |cons x us ih=>
   intro ws k ha hb hk;obtain⟨c2,c3,du⟩:=drop_cons ha;have hw:aA k:=by unfold aA;omega
   cases ws with
   |nil=>
    have c1:=drop_nil hb;have d1:decide ((k:Int)>=(bm.length:Int))=true:=by simp only[dW];omega
    have:pH ((xs,(bm,(xs,((xs.length:Int),((k:Int),()))))),())=some (.inl (((1:Int),()),())):=by
     refine cC ?_
     simp only[wa,ct du,ad,cd,c2,Y,d1]
    rw[this];rfl
   |cons y ws=>
    obtain⟨e2,bE,dN⟩:=drop_cons hb;have d1:decide ((k:Int)>=(bm.length:Int))=false:=by simp only[decide_eq_false_iff_not];omega
    have step:wa ((xs,(bm,(xs,((xs.length:Int),((k:Int),()))))),())=some (bif decide (x<y) then .inr (.inl ((((-1):Int),()),())) else bif decide (x>y) then .inr (.inl (((1:Int),()),())) else .inl ((xs,(bm,(xs,((xs.length:Int),(((k+1:Nat):Int),()))))),())):=by
     simp only[wa,ct du,cd,c2,e2,d1,ad,ak,Y,ako,b9 hw];cases decide (x<y)<;>cases decide (x>y)<;>rfl
    rw[qb];cases hlt:decide (x<y) with
    |true=>rw[hlt,ad] at step;rw[show pH ((xs,(bm,(xs,((xs.length:Int),((k:Int),()))))),())=_ from cC step];rfl
    |false=>
     rw[hlt,ak] at step;cases r':decide (x>y) with
     |true=>rw[r',ad] at step;rw[show pH ((xs,(bm,(xs,((xs.length:Int),((k:Int),()))))),())=_ from cC step];rfl
     |false=>
      rw[r',ak] at step;rw[show pH ((xs,(bm,(xs,((xs.length:Int),((k:Int),()))))),())=_ from ea step]
      exact ih ws (k+1) c3 bE (by omega)
 have:=key xs bm 0 rfl rfl (Nat.zero_le _);simp only[f281];exact this
def rF(a b:B):Int:=bif eE a&&eE b then qb (ii a) (ii b) else 0
theorem O1{s:B}(h:eE s=true):∀x,x∈ii s->0<=x:=by
 intro x hx;unfold ii at hx;obtain⟨p,hp,rfl⟩:=List.mem_map.1 hx;unfold eE at h;simp only[bz] at h;have:=List.all_eq_true.1 h.1 p hp;unfold fR at this;simp only[bz] at this;exact PM p 0 this.1.1.1.1 (Int.le_refl _)
theorem y9(s:B):(ii s).length<=s.length+1:=by
 unfold ii iF;rw[List.length_map];exact om 46 s
theorem ae2(a)(h1:a.1.1.length<=2097151)(h2:a.1.2.1.length<=2097151):f204 a=some ((rF a.1.1 a.1.2.1,()),()):=by
 obtain⟨⟨x,y,u⟩,b8⟩:=a;have h1:x.length<=2097151:=h1;have h2:y.length<=2097151:=h2;obtain⟨o1,e1,q1⟩:=FW ((x,()),()) (show x.length<=2097152 by omega)
 obtain⟨o2,e2,q2⟩:=FW ((y,()),()) (show y.length<=2097152 by omega)
 simp only[f204,e1,e2,Y,Jo,rF,Bool.not_not];cases hx:eE x with
 |false=>rfl
 |true=>
  cases hy:eE y with
  |false=>rfl
  |true=>
   have ayf:=y9 x;have Ek:=y9 y;have a':o1=ii x:=q1 hx;have w2:o2=ii y:=q2 hy;subst a' w2;have bE:=ain ((ii x,(ii y,())),()) (show(ii x).length<=2097152 by omega) (show(ii y).length<=2097152 by omega) (O1 hx) (O1 hy)
   simp only[ad,bu,Y,ak,bE,Bool.and_self]
theorem aeX(a)(h1:a.1.1.length<=2097151)(h2:a.1.2.1.length<=2097151):f227 a=some ((rF a.1.1 a.1.2.1,()),()):=by
 obtain⟨⟨x,y,u⟩,b8⟩:=a;have h1:x.length<=2097151:=h1;have h2:y.length<=2097151:=h2;have e1:=Ff ((x,()),()) (show x.length<=2097152 by omega)
 have e2:=Ff ((y,()),()) (show y.length<=2097152 by omega)
 simp only[f227,e1,e2,Y,Jn,rF,Bool.not_not];cases hx:eE x with
 |false=>rfl
 |true=>
  cases hy:eE y with
  |false=>rfl
  |true=>
   have ayf:=y9 x;have Ek:=y9 y;have bE:=aiB ((ii x,(ii y,())),()) (show(ii x).length<=2097152 by omega) (show(ii y).length<=2097152 by omega)
   simp only[ad,bu,Y,ak,f263,bE,Bool.and_self]
def t'(n:bD)(v:B):Bool:=bif n.kind==1 then rF v n.a6==0 else bif n.kind==2 then decide (rF v n.a6>=0) else bif n.kind==3 then decide (rF v n.a6<0) else true
theorem ake(a)(h1:a.1.1.2.2.1.length<=2097151)(h2:a.1.2.2.1.length<=2097151)(hn:a.1.2.1=a.1.1.1):f161 a=some ((t' ⟨a.1.1.1,a.1.1.2.1,a.1.1.2.2.1⟩ a.1.2.2.1,()),()):=by
 obtain⟨⟨⟨n,k,v,u⟩,m,w,b8⟩,nT⟩:=a;obtain rfl:m=n:=hn;have e1:=ae2 ((w,(v,())),()) h2 h1;have fe:(m==m)=true:=by simp
 simp only[f161,fe,e1,bu,ak,Y,t'];cases (k==1)<;>cases (k==2)<;>cases (k==3)<;>rfl
def lZ(n:bD)(name v:B):Bool:=dR n&&eE v&&(name==n.name)&&t' n v
theorem ahk(a)(h0:cw a.1.1.1.length)(h1:a.1.1.2.2.1.length<=2097151)(h2:a.1.2.2.1.length<=2097151):f183 a=some ((lZ ⟨a.1.1.1,a.1.1.2.1,a.1.1.2.2.1⟩ a.1.2.1 a.1.2.2.1,()),()):=by
 obtain⟨⟨⟨n,k,v,u⟩,m,w,b8⟩,nT⟩:=a;have h1:v.length<=2097151:=h1;have h2:w.length<=2097151:=h2;have e1:=aeX ((w,(v,())),()) h2 h1;have e2:=zc (((n,(k,(v,()))),()),()) h0 (show v.length<=2097152 by omega)
 have bE:=Fj ((w,()),()) (show w.length<=2097152 by omega)
 simp only[f183,Jq,e1,e2,bE,Bool.not_not,Y,lZ,t'];cases dR ⟨n,k,v⟩ with
 |false=>rfl
 |true=>
  cases eE w with
  |false=>rfl
  |true=>
   cases (m==n) with
   |false=>rfl
   |true=>
    simp only[ad,bu,Y,ak,Bool.true_and];cases (k==1)<;>cases (k==2)<;>cases (k==3)<;>simp only[ad,ak,Y,e1]
abbrev AW:Shape:=⟨[aO 0 .pack,am 1,aj 5],[],20⟩
abbrev Ik:List aR:=[(.ret,⟨[aj 4],[],20⟩),(.exit 0,⟨[],[],20⟩)]
noncomputable def BA(y:AW.J):bQ AW Ik:=
 bif(decide (y.1.2.2.1<(y.1.1.length:Int))) then
(aS y.1.1 y.1.2.2.1).bind fun a=>
 bif(a.name==y.1.2.1) then
 some (.inr (.inl ((y.1.2.2.1,()),())))
else
 some (.inl ((y.1.1,y.1.2.1,(IntKind.i64.wrap (y.1.2.2.1+(1:Int))),()),()))
else
 some (.inr (.inr ((),())))
noncomputable def tb:AW.J->Option (aH Ik):=bA BA
theorem ann:aV O (ap (codeOf Tryz.f160) 1 26) (aX AW Ik tb):=bT g0 (by kernel_rfl) ag fun y=>by kernel_rfl
abbrev i160:Shape:=⟨[aO 0 .pack,am 1],[],20⟩
abbrev Y7:Shape:=⟨[aj 4],[],20⟩
noncomputable def f160(a:i160.J):Option Y7.J:=
(tb ((a.1.1,a.1.2.1,(0:Int),()),())).bind fun b=>
(match b with
|.inl c=>
 some ((c.1.1,()),())
|.inr d=>
 some ((((-1):Int),()),()))
noncomputable def L3:aI:=aL af Tryz.f160 i160 Y7 [] f160
theorem z160:aF O 160 L3:=aM g0 Tryz.func160 (by kernel_rfl) (a7 ann ag) (fun y=>by kernel_rfl) fun a=>by kernel_rfl
noncomputable abbrev awc:a8:=[(160,L3),(161,aag)]
theorem DV:aT O (aZ af awc):=aY ⟨z160,as4,⟨⟩⟩
abbrev Pt:Shape:=⟨[aO 0 .pack,aj 3,aj 4,ax 5 5 0,aj 6],[aw 5 [ah,ba,ah]],49⟩
abbrev Pm:List aR:=[(.norm,⟨[aO 0 .pack,aj 3,aj 4,aj 35,ar 36,ar 37,ar 48],[],49⟩)]
noncomputable def yU(y:Pt.J):Option (aH Pm):=
 bif(decide (y.1.2.2.2.2.1<(0:Int))) then
 some ((y.1.1,y.1.2.1,y.1.2.2.1,y.1.2.2.2.2.1,(decide (y.1.2.2.2.2.1<(0:Int))),true,true,()),())
else
(aS y.1.1 y.1.2.2.2.2.1).bind fun a=>
(f161 (((y.2.1.1,y.2.1.2.1,y.2.1.2.2.1,()),y.2.1.1,a.a6,()),())).bind fun b=>
 some ((y.1.1,y.1.2.1,y.1.2.2.1,y.1.2.2.2.2.1,(decide (y.1.2.2.2.2.1<(0:Int))),false,(!b.1.1),()),())
theorem agC:aV O (ap (dk (ap (dk (ap (codeOf Tryz.f110) 1 26)) 52 1682)) 3364 215334) (aX Pt Pm yU):=cn DV (by kernel_rfl) ag fun y=>by kernel_rfl
abbrev zp:Shape:=⟨[aO 0 .pack,aj 3,aj 4],[],49⟩
abbrev F8:List aR:=[(.ret,⟨[ar 2],[],49⟩),(.exit 2,⟨[aO 0 .pack,aj 3],[],49⟩)]
noncomputable def zD(y:zp.J):bQ zp F8:=
(aS y.1.1 y.1.2.1).bind fun a=>
 bif(decide (y.1.2.2.1<(a.bl.length:Int))) then
(aS y.1.1 y.1.2.1).bind fun b=>
(aS b.bl y.1.2.2.1).bind fun c=>
(f160 ((y.1.1,c.name,()),())).bind fun d=>
(yU ((y.1.1,y.1.2.1,y.1.2.2.1,(),d.1.1,()),(c.name,c.kind,c.a6,()),())).bind fun e=>
 bif e.1.2.2.2.2.2.2.1 then
 some (.inr (.inl ((false,()),())))
else
 some (.inl ((e.1.1,e.1.2.1,(IntKind.i64.wrap (e.1.2.2.1+(1:Int))),()),()))
else
 some (.inr (.inr ((y.1.1,y.1.2.1,()),())))
noncomputable def Gt:zp.J->Option (aH F8):=bA zD
theorem ajn:aV O (ap (dk (ap (codeOf Tryz.f110) 1 26)) 52 1682) (aX zp F8 Gt):=bT DV (by kernel_rfl) (a7 agC ag) fun y=>by kernel_rfl
abbrev Ba:Shape:=⟨[aO 0 .pack,aj 3],[],49⟩
abbrev IA:List aR:=[(.ret,⟨[ar 2],[],49⟩),(.exit 0,⟨[],[],49⟩)]
noncomputable def BJ(y:Ba.J):bQ Ba IA:=
 bif(decide (y.1.2.1<(y.1.1.length:Int))) then
(Gt ((y.1.1,y.1.2.1,(0:Int),()),())).bind fun a=>
(match a with
|.inl b=>
 some (.inr (.inl ((b.1.1,()),())))
|.inr c=>
 some (.inl ((c.1.1,(IntKind.i64.wrap (c.1.2.1+(1:Int))),()),())))
else
 some (.inr (.inr ((),())))
noncomputable def I':Ba.J->Option (aH IA):=bA BJ
theorem anH:aV O (ap (codeOf Tryz.f110) 1 26) (aX Ba IA I'):=bT DV (by kernel_rfl) (a7 ajn ag) fun y=>by kernel_rfl
abbrev i110:Shape:=⟨[aO 0 .pack],[],49⟩
abbrev ZF:Shape:=⟨[ar 2],[],49⟩
noncomputable def f110(a:i110.J):Option ZF.J:=
(I' ((a.1.1,(0:Int),()),())).bind fun b=>
(match b with
|.inl c=>
 some ((c.1.1,()),())
|.inr d=>
 some ((true,()),()))
noncomputable def aaI:aI:=aL af Tryz.f110 i110 ZF [] f110
theorem atk:aF O 110 aaI:=aM DV Tryz.func110 (by kernel_rfl) (a7 anH ag) (fun y=>by kernel_rfl) fun a=>by kernel_rfl
noncomputable abbrev aqD:a8:=[(54,Xv),(56,adv)]
theorem WG:aT O (aZ af aqD):=aY ⟨aq4,aw9,⟨⟩⟩
abbrev Q3:Shape:=⟨[(0,.aq (.eZ [.sl .pack] 0))],[],10⟩
abbrev QJ:List aR:=[(.norm,⟨[ar 9],[],10⟩)]
noncomputable def GF(y:Q3.J):Option (aH QJ):=
(Db ((y.1.1.1,(),()),())).bind fun a=>
 bif(!(!a.1.1)) then
(f56 ((y.1.1.1,()),())).bind fun b=>
 some (((!b.1.1),()),())
else
 some ((true,()),())
theorem aji:aV O (ap (codeOf Tryz.f128) 1 12) (aX Q3 QJ GF):=cn WG (by kernel_rfl) ag fun y=>by kernel_rfl
abbrev V5:Shape:=⟨[(0,.aq (.eZ [.sl .pack] 0))],[],10⟩
abbrev VA:Shape:=⟨[aj 1],[],10⟩
noncomputable def tJ(a:V5.J):Option VA.J:=
(GF (((a.1.1.1,()),()),())).bind fun b=>
 bif b.1.1 then
 some (((1:Int),()),())
else
 some (((0:Int),()),())
noncomputable def Wz:aI:=aL af Tryz.f128 V5 VA [] tJ
theorem aoN:aF O 128 Wz:=aM WG Tryz.func128 (by kernel_rfl) (a7 aji ag) (fun y=>by kernel_rfl) fun a=>by kernel_rfl
abbrev V4:Shape:=⟨[(0,.aq (.eZ [.sl .pack] 0))],[],5⟩
abbrev Vz:Shape:=⟨[aj 1],[],5⟩
noncomputable def tI(a:V4.J):Option Vz.J:=
 bif(decide ((a.1.1.1.length:Int)>(5:Int))) then
 some (((6:Int),()),())
else
 some (((0:Int),()),())
noncomputable def Wy:aI:=aL af Tryz.f129 V4 Vz [] tI
theorem aoM:aF O 129 Wy:=aM g0 Tryz.func129 (by kernel_rfl) ag (fun y=>by kernel_rfl) fun a=>by kernel_rfl
noncomputable abbrev aqu:a8:=[(183,_2)]
theorem aqO:aT O (aZ af aqu):=aY ⟨z183,⟨⟩⟩
abbrev VV:Shape:=⟨[ck 0 [ah,ah,br .need,br .entry],(1,.aq (.eZ [.str,.int .i64,.str] 0))],[],10⟩
abbrev Vq:Shape:=⟨[ar 3],[],10⟩
noncomputable def Kp(a:VV.J):Option Vq.J:=
(f183 (((a.1.2.1.1,a.1.2.1.2.1,a.1.2.1.2.2.1,()),a.1.1.1,a.1.1.2.1,()),())).bind fun b=>
 some ((b.1.1,()),())
noncomputable def Wt:aI:=aL af Tryz.f182 VV Vq [] Kp
theorem aoH:aF O 182 Wt:=aM aqO Tryz.func182 (by kernel_rfl) ag (fun y=>by kernel_rfl) fun a=>by kernel_rfl
noncomputable abbrev aqq:a8:=[(182,Wt)]
theorem WF:aT O (aZ af aqq):=aY ⟨aoH,⟨⟩⟩
abbrev zj:Shape:=⟨[aO 0 .pack,(1,.aq (.fn 182 [[.str,.int .i64,.str]])),aj 7,aj 8],[],19⟩
abbrev F2:List aR:=[(.ret,⟨[aj 4],[],19⟩),(.exit 0,⟨[],[],19⟩)]
noncomputable def zx(y:zj.J):bQ zj F2:=
 bif(decide (y.1.2.2.2.1<y.1.2.2.1)) then
(aS y.1.1 y.1.2.2.2.1).bind fun a=>
(Kp (((a.name,a.a6,a.bl,a.bI,()),(y.1.2.1.1.1,y.1.2.1.1.2.1,y.1.2.1.1.2.2.1,()),()),())).bind fun b=>
 bif b.1.1 then
 some (.inr (.inl ((y.1.2.2.2.1,()),())))
else
 some (.inl ((y.1.1,((y.1.2.1.1.1,y.1.2.1.1.2.1,y.1.2.1.1.2.2.1,()),()),y.1.2.2.1,(IntKind.i64.wrap (y.1.2.2.2.1+(1:Int))),()),()))
else
 some (.inr (.inr ((),())))
noncomputable def sV:zj.J->Option (aH F2):=bA zx
theorem ai7:aV O (ap (codeOf Tryz.f228) 1 26) (aX zj F2 sV):=bT WF (by kernel_rfl) ag fun y=>by kernel_rfl
abbrev VR:Shape:=⟨[aO 0 .pack,(1,.aq (.fn 182 [[.str,.int .i64,.str]]))],[],19⟩
abbrev JZ:Shape:=⟨[aj 4],[],19⟩
noncomputable def CJ(a:VR.J):Option JZ.J:=
(sV ((a.1.1,((a.1.2.1.1.1,a.1.2.1.1.2.1,a.1.2.1.1.2.2.1,()),()),(a.1.1.length:Int),(0:Int),()),())).bind fun b=>
(match b with
|.inl c=>
 some ((c.1.1,()),())
|.inr d=>
 some ((((-1):Int),()),()))
noncomputable def Wq:aI:=aL af Tryz.f228 VR JZ [] CJ
theorem aoE:aF O 228 Wq:=aM WF Tryz.func228 (by kernel_rfl) (a7 ai7 ag) (fun y=>by kernel_rfl) fun a=>by kernel_rfl
noncomputable abbrev aqt:a8:=[(228,Wq)]
theorem aqN:aT O (aZ af aqt):=aY ⟨aoE,⟨⟩⟩
abbrev VU:Shape:=⟨[aO 0 .pack,(1,.aq (.fn 182 [[.str,.int .i64,.str]]))],[],9⟩
abbrev Vp:Shape:=⟨[ar 4],[],9⟩
noncomputable def CK(a:VU.J):Option Vp.J:=
(CJ ((a.1.1,((a.1.2.1.1.1,a.1.2.1.1.2.1,a.1.2.1.1.2.2.1,()),()),()),())).bind fun b=>
 some (((decide (b.1.1>=(0:Int))),()),())
noncomputable def Ws:aI:=aL af Tryz.f184 VU Vp [] CK
theorem aoG:aF O 184 Ws:=aM aqN Tryz.func184 (by kernel_rfl) ag (fun y=>by kernel_rfl) fun a=>by kernel_rfl
noncomputable abbrev avZ:a8:=[(184,Ws)]
theorem Ml:aT O (aZ af avZ):=aY ⟨aoG,⟨⟩⟩
abbrev zm:Shape:=⟨[aO 0 .pack,aO 8 .pack,aj 9,aj 10,aO 15 .need,aj 16,aj 17],[],28⟩
abbrev F5:List aR:=[(.ret,⟨[ar 2],[],28⟩),(.exit 2,⟨[aO 0 .pack,aO 8 .pack,aj 9,aj 10],[],28⟩)]
noncomputable def zB(y:zm.J):bQ zm F5:=
 bif(decide (y.1.2.2.2.2.2.2.1<y.1.2.2.2.2.2.1)) then
(aS y.1.2.2.2.2.1 y.1.2.2.2.2.2.2.1).bind fun a=>
(CK ((y.1.1,((a.name,a.kind,a.a6,()),()),()),())).bind fun b=>
 bif(!b.1.1) then
 some (.inr (.inl ((false,()),())))
else
 some (.inl ((y.1.1,y.1.2.1,y.1.2.2.1,y.1.2.2.2.1,y.1.2.2.2.2.1,y.1.2.2.2.2.2.1,(IntKind.i64.wrap (y.1.2.2.2.2.2.2.1+(1:Int))),()),()))
else
 some (.inr (.inr ((y.1.1,y.1.2.1,y.1.2.2.1,y.1.2.2.2.1,()),())))
noncomputable def Gq:zm.J->Option (aH F5):=bA zB
theorem ajh:aV O (ap (dk (ap (codeOf Tryz.f131) 1 26)) 52 6758) (aX zm F5 Gq):=bT Ml (by kernel_rfl) ag fun y=>by kernel_rfl
abbrev A7:Shape:=⟨[aO 0 .pack,aO 8 .pack,aj 9,aj 10],[],28⟩
abbrev Iv:List aR:=[(.ret,⟨[ar 2],[],28⟩),(.exit 0,⟨[],[],28⟩)]
noncomputable def BH(y:A7.J):bQ A7 Iv:=
 bif(decide (y.1.2.2.2.1<y.1.2.2.1)) then
(aS y.1.2.1 y.1.2.2.2.1).bind fun a=>
(Gq ((y.1.1,y.1.2.1,y.1.2.2.1,y.1.2.2.2.1,a.bl,(a.bl.length:Int),(0:Int),()),())).bind fun b=>
(match b with
|.inl c=>
 some (.inr (.inl ((c.1.1,()),())))
|.inr d=>
 some (.inl ((d.1.1,d.1.2.1,d.1.2.2.1,(IntKind.i64.wrap (d.1.2.2.2.1+(1:Int))),()),())))
else
 some (.inr (.inr ((),())))
noncomputable def I9:A7.J->Option (aH Iv):=bA BH
theorem anB:aV O (ap (codeOf Tryz.f131) 1 26) (aX A7 Iv I9):=bT Ml (by kernel_rfl) (a7 ajh ag) fun y=>by kernel_rfl
abbrev i131:Shape:=⟨[aO 0 .pack],[],28⟩
abbrev Zs:Shape:=⟨[ar 2],[],28⟩
noncomputable def f131(a:i131.J):Option Zs.J:=
(I9 ((a.1.1,a.1.1,(a.1.1.length:Int),(0:Int),()),())).bind fun b=>
(match b with
|.inl c=>
 some ((c.1.1,()),())
|.inr d=>
 some ((true,()),()))
noncomputable def aax:aI:=aL af Tryz.f131 i131 Zs [] f131
theorem z131:aF O 131 aax:=aM Ml Tryz.func131 (by kernel_rfl) (a7 anB ag) (fun y=>by kernel_rfl) fun a=>by kernel_rfl
noncomputable abbrev aqC:a8:=[(131,aax)]
theorem aqV:aT O (aZ af aqC):=aY ⟨z131,⟨⟩⟩
abbrev V3:Shape:=⟨[(0,.aq (.eZ [.sl .pack] 0))],[],5⟩
abbrev Vy:Shape:=⟨[aj 1],[],5⟩
noncomputable def tH(a:V3.J):Option Vy.J:=
(f131 ((a.1.1.1,()),())).bind fun b=>
 bif(!b.1.1) then
 some (((4:Int),()),())
else
 some (((0:Int),()),())
noncomputable def Wx:aI:=aL af Tryz.f130 V3 Vy [] tH
theorem aoL:aF O 130 Wx:=aM aqV Tryz.func130 (by kernel_rfl) ag (fun y=>by kernel_rfl) fun a=>by kernel_rfl
noncomputable abbrev aqB:a8:=[(133,aaw)]
theorem aqU:aT O (aZ af aqB):=aY ⟨ate,⟨⟩⟩
abbrev V2:Shape:=⟨[(0,.aq (.eZ [.sl .pack] 0))],[],11⟩
abbrev Vx:Shape:=⟨[aj 1],[],11⟩
noncomputable def tG(a:V2.J):Option Vx.J:=
(f133 ((a.1.1.1,()),())).bind fun b=>
 bif(!b.1.2.1) then
 some (((5:Int),()),())
else
 some (((0:Int),()),())
noncomputable def Ww:aI:=aL af Tryz.f132 V2 Vx [] tG
theorem aoK:aF O 132 Ww:=aM aqU Tryz.func132 (by kernel_rfl) ag (fun y=>by kernel_rfl) fun a=>by kernel_rfl
noncomputable abbrev aAj:a8:=[(50,EJ),(109,aaJ),(110,aaI)]
theorem NY:aT O (aZ af aAj):=aY ⟨Mq,z109,atk,⟨⟩⟩
abbrev Ts:Shape:=⟨[aO 0 .pack,aj 3],[],52⟩
abbrev S8:List aR:=[(.norm,⟨[aO 0 .pack,aj 3,aO 12 .pack,aj 13,(14,.aq (.eZ [.str,.str,.sl .need,.sl .entry] 0)),ck 15 [ah,ah,br .need,br .entry],ar 16,ar 17,ar 18,ar 35],[],52⟩)]
noncomputable def Bo(y:Ts.J):Option (aH S8):=
(aS y.1.1 y.1.2.1).bind fun a=>
(f50 (((a.name,a.a6,a.bl,a.bI,()),()),())).bind fun b=>
 bif(!b.1.1) then
 some ((y.1.1,y.1.2.1,y.1.1,y.1.2.1,(a.name,a.a6,a.bl,a.bI,()),(a.name,a.a6,a.bl,a.bI,()),b.1.1,(!b.1.1),true,true,()),())
else
 bif(decide (y.1.2.1>(0:Int))) then
(aS y.1.1 (IntKind.i64.wrap (y.1.2.1-(1:Int)))).bind fun c=>
(aS y.1.1 y.1.2.1).bind fun d=>
 some ((y.1.1,y.1.2.1,y.1.1,y.1.2.1,(a.name,a.a6,a.bl,a.bI,()),(a.name,a.a6,a.bl,a.bI,()),b.1.1,(!b.1.1),false,(!(Op.bytesLess c.name d.name)),()),())
else
 some ((y.1.1,y.1.2.1,y.1.1,y.1.2.1,(a.name,a.a6,a.bl,a.bI,()),(a.name,a.a6,a.bl,a.bI,()),b.1.1,(!b.1.1),false,false,()),())
theorem amL:aV O (ap (dk (ap (codeOf Tryz.f60) 1 26)) 52 840) (aX Ts S8 Bo):=cn NY (by kernel_rfl) ag fun y=>by kernel_rfl
abbrev Cc:Shape:=⟨[aO 0 .pack,aj 3],[],52⟩
abbrev JQ:List aR:=[(.ret,⟨[aj 2],[],52⟩),(.exit 0,⟨[aO 0 .pack],[],52⟩)]
noncomputable def rk(y:Cc.J):bQ Cc JQ:=
 bif(decide (y.1.2.1<(y.1.1.length:Int))) then
(Bo ((y.1.1,y.1.2.1,()),())).bind fun a=>
 bif a.1.2.2.2.2.2.2.2.2.2.1 then
 some (.inr (.inl (((1:Int),()),())))
else
 some (.inl ((a.1.1,(IntKind.i64.wrap (a.1.2.1+(1:Int))),()),()))
else
 some (.inr (.inr ((y.1.1,()),())))
noncomputable def Cm:Cc.J->Option (aH JQ):=bA rk
theorem apv:aV O (ap (codeOf Tryz.f60) 1 26) (aX Cc JQ Cm):=bT NY (by kernel_rfl) (a7 amL ag) fun y=>by kernel_rfl
abbrev i60:Shape:=⟨[aO 0 .pack],[],52⟩
abbrev abU:Shape:=⟨[aj 2],[],52⟩
noncomputable def f60(a:i60.J):Option abU.J:=
(Cm ((a.1.1,(0:Int),()),())).bind fun b=>
(match b with
|.inl c=>
 some ((c.1.1,()),())
|.inr d=>
(f109 ((d.1.1,()),())).bind fun e=>
 bif(decide ((d.1.1.length:Int)>(5:Int))) then
 some (((6:Int),()),())
else
(f110 ((d.1.1,()),())).bind fun f=>
 bif(!f.1.1) then
 some (((4:Int),()),())
else
 bif(!e.1.2.1) then
 some (((5:Int),()),())
else
 some (((0:Int),()),()))
noncomputable def NM:aI:=aL af Tryz.f60 i60 abU [] f60
theorem abk:aF O 60 NM:=aM NY Tryz.func60 (by kernel_rfl) (a7 apv ag) (fun y=>by kernel_rfl) fun a=>by kernel_rfl
noncomputable abbrev aAC:a8:=[(60,NM)]
theorem aA3:aT O (aZ af aAC):=aY ⟨abk,⟨⟩⟩
abbrev i30:Shape:=⟨[ck 0 [br .pack]],[],7⟩
abbrev aca:Shape:=⟨[ar 2],[],7⟩
noncomputable def f30(a:i30.J):Option aca.J:=
(f60 ((a.1.1.1,()),())).bind fun b=>
 some (((b.1.1==(0:Int)),()),())
noncomputable def so:aI:=aL af Tryz.f30 i30 aca [] f30
theorem uA:aF O 30 so:=aM aA3 Tryz.func30 (by kernel_rfl) ag (fun y=>by kernel_rfl) fun a=>by kernel_rfl
noncomputable abbrev u6:a8:=[(128,Wz),(129,Wy),(130,Wx),(132,Ww)]
theorem adM:aT O (aZ af u6):=aY ⟨aoN,aoM,aoL,aoK,⟨⟩⟩
abbrev WR:Shape:=⟨[ax 1 1 0],[aw 1 [br .pack]],24⟩
abbrev pW:List aR:=[(.ret,⟨[aj 2],[],24⟩)]
noncomputable def rq(c:Int):aH pW:=((c,()),())
noncomputable def KN(y:WR.J):Option (aH pW):=
 rm y.2.1.1 rq [fun ps=>tJ (((ps,()),()),()),fun ps=>tI (((ps,()),()),()),fun ps=>tH (((ps,()),()),()),fun ps=>tG (((ps,()),()),())]
theorem aq8:∀ps k i,exec (hI (aZ af u6) []) (ap (dk (ap (codeOf Tryz.f81) 1 58)) 116 3737) 3737 (((gP 24).st (h4 24 ps k i)).set 5 (cf (.clo 128 [(1,0)]))) (rr 24 pW)=((fun ps=>tJ (((ps,()),()),())) ps).bind fun r=>bif(r.1.1 !=0) then some (.inr (rq r.1.1)) else some (.inl (h4 24 ps k i)):=fun ps k i=>by kernel_rfl
theorem aq7:∀ps k i,exec (hI (aZ af u6) []) (ap (dk (ap (codeOf Tryz.f81) 1 58)) 116 3737) 3737 (((gP 24).st (h4 24 ps k i)).set 5 (cf (.clo 129 [(1,0)]))) (rr 24 pW)=((fun ps=>tI (((ps,()),()),())) ps).bind fun r=>bif(r.1.1 !=0) then some (.inr (rq r.1.1)) else some (.inl (h4 24 ps k i)):=fun ps k i=>by kernel_rfl
theorem aq6:∀ps k i,exec (hI (aZ af u6) []) (ap (dk (ap (codeOf Tryz.f81) 1 58)) 116 3737) 3737 (((gP 24).st (h4 24 ps k i)).set 5 (cf (.clo 130 [(1,0)]))) (rr 24 pW)=((fun ps=>tH (((ps,()),()),())) ps).bind fun r=>bif(r.1.1 !=0) then some (.inr (rq r.1.1)) else some (.inl (h4 24 ps k i)):=fun ps k i=>by kernel_rfl
theorem aq5:∀ps k i,exec (hI (aZ af u6) []) (ap (dk (ap (codeOf Tryz.f81) 1 58)) 116 3737) 3737 (((gP 24).st (h4 24 ps k i)).set 5 (cf (.clo 132 [(1,0)]))) (rr 24 pW)=((fun ps=>tG (((ps,()),()),())) ps).bind fun r=>bif(r.1.1 !=0) then some (.inr (rq r.1.1)) else some (.inl (h4 24 ps k i)):=fun ps k i=>by kernel_rfl
theorem ars:aV O (ap (codeOf Tryz.f81) 1 3) (aX WR pW KN):=
 agZ (C:=hI (aZ af u6) []) (os:=pW) (nt:=24) (T:=165) (e:=164) (m0:=((opsOf (ap (codeOf Tryz.f81) 1 6)).getD 0 default)) (m1:=((opsOf (ap (codeOf Tryz.f81) 1 6)).getD 1 default)) (m2:=((opsOf (ap (codeOf Tryz.f81) 1 6)).getD 2 default)) (m3:=((opsOf (ap (codeOf Tryz.f81) 1 6)).getD 3 default)) (m4:=((opsOf (ap (codeOf Tryz.f81) 1 6)).getD 4 default)) (m5:=((opsOf (ap (codeOf Tryz.f81) 1 6)).getD 5 default)) (n0:=((opsOf (ap (codeOf Tryz.f81) 1 28)).getD 0 default)) (n1:=((opsOf (ap (codeOf Tryz.f81) 1 28)).getD 1 default)) (n2:=((opsOf (ap (codeOf Tryz.f81) 1 28)).getD 2 default)) (q0:=((opsOf (ap (dk (ap (codeOf Tryz.f81) 1 58)) 116 232)).getD 0 default)) (r0:=((opsOf (ap (dk (ap (codeOf Tryz.f81) 1 58)) 116 3736)).getD 0 default)) (r1:=((opsOf (ap (dk (ap (codeOf Tryz.f81) 1 58)) 116 3736)).getD 1 default)) (r2:=((opsOf (ap (dk (ap (codeOf Tryz.f81) 1 58)) 116 3736)).getD 2 default))
  (i1:=tQ (ap (codeOf Tryz.f81) 1 6)) (i2:=tQ (ap (codeOf Tryz.f81) 1 28)) (i3:=tQ (ap (dk (ap (codeOf Tryz.f81) 1 58)) 116 232)) (i4:=tQ (ap (dk (ap (codeOf Tryz.f81) 1 58)) 116 3736)) (BB:=(ap (dk (ap (codeOf Tryz.f81) 1 58)) 116 3737)) (r8:=(ap (dk (ap (codeOf Tryz.f81) 1 58)) 116 935)) (E:=(ap (codeOf Tryz.f81) 1 15)) (p3:=232) (pB:=3737) (p8:=935) (pE:=15) (g0:=128) (g1:=129) (g2:=130) (g3:=132) (c0:=fun ps=>tJ (((ps,()),()),())) (c1:=fun ps=>tI (((ps,()),()),())) (c2:=fun ps=>tH (((ps,()),()),())) (c3:=fun ps=>tG (((ps,()),()),())) (mk:=rq) adM
  {rQ:=(by kernel_rfl),Mw:=(by kernel_rfl),aY:=⟨(by kernel_rfl),(by kernel_rfl),(by kernel_rfl),(by kernel_rfl),(by kernel_rfl),(by kernel_rfl),(by kernel_rfl),(by kernel_rfl),(by kernel_rfl),(by kernel_rfl),(by kernel_rfl),(by kernel_rfl)⟩,N_:=⟨(by kernel_rfl),(by kernel_rfl)⟩,on:=⟨(by kernel_rfl),(by kernel_rfl),(by kernel_rfl)⟩,Eb:=⟨(by kernel_rfl),(by kernel_rfl),(by kernel_rfl)⟩,dst:=⟨(by kernel_rfl),(by kernel_rfl),(by kernel_rfl),(by kernel_rfl),(by kernel_rfl),(by kernel_rfl),(by kernel_rfl),(by kernel_rfl)⟩,Lh:=(by decide),MD:=(by kernel_rfl),acq:=(by kernel_rfl),acp:=(by kernel_rfl),wr:=(by kernel_rfl),axu:=(by kernel_rfl),
   k7:=⟨(fun f hf=>by cases hf),lJ (by kernel_rfl) ag,lJ (by kernel_rfl) ag,lJ (by kernel_rfl) ag⟩,hos:=(fun _ _=>rfl),aD:=(fun ps=>by kernel_rfl),xc:=(fun ps k i=>by kernel_rfl),hlt:=(fun ps k i=>by kernel_rfl),
   hB:=(fun gc h=>by
    simp only[bR,List.not_mem_nil,or_false] at h;rcases h with rfl|rfl|rfl|rfl
    ·exact aq8
    ·exact aq7
    ·exact aq6
    ·exact aq5),
   h8:=(fun ps k i=>by kernel_rfl),hE:=(fun ps k i=>by kernel_rfl)} (fun ps=>rfl) (by kernel_rfl)
abbrev i81:Shape:=⟨[aO 0 .pack],[],24⟩
abbrev abJ:Shape:=⟨[aj 2],[],24⟩
noncomputable def f81(a:i81.J):Option abJ.J:=
(KN (((),()),(a.1.1,()),())).bind fun b=>
 some ((b.1.1,()),())
noncomputable def adn:aI:=aL af Tryz.f81 i81 abJ [] f81
theorem aw3:aF O 81 adn:=aM adM Tryz.func81 (by kernel_rfl) (a7 ars ag) (fun y=>by kernel_rfl) fun a=>by kernel_rfl
noncomputable abbrev aAr:a8:=[(81,adn)]
theorem aAX:aT O (aZ af aAr):=aY ⟨aw3,⟨⟩⟩
abbrev i43:Shape:=⟨[ck 0 [br .pack]],[],7⟩
abbrev ab3:Shape:=⟨[ar 2],[],7⟩
noncomputable def f43(a:i43.J):Option ab3.J:=
(f81 ((a.1.1.1,()),())).bind fun b=>
 some (((b.1.1==(0:Int)),()),())
noncomputable def ye:aI:=aL af Tryz.f43 i43 ab3 [] f43
theorem D1:aF O 43 ye:=aM aAX Tryz.func43 (by kernel_rfl) ag (fun y=>by kernel_rfl) fun a=>by kernel_rfl
theorem RG(a)(hs:cw a.1.1.length):(∃(k:Nat) (q:aJ),f160 a=some (((k:Int),()),())/\a.1.1[k]? =some q/\a.1.1.find? (fun p=>p.name==a.1.2.1)=some q)\/
  (f160 a=some ((((-1):Int),()),())/\a.1.1.find? (fun p=>p.name==a.1.2.1)=none):=by
 obtain⟨⟨ps,name,u⟩,b8⟩:=a;have hs:ps.length<=2097152:=hs;have key:∀(r:List aJ) (k:Nat),ps.drop k=r->k<=ps.length->(∃(j:Nat) (q:aJ),tb ((ps,(name,((k:Int),()))),())=some (.inl (((j:Int),()),()))/\ps[j]? =some q/\r.find? (fun p=>p.name==name)=some q)\/
   (tb ((ps,(name,((k:Int),()))),())=some (.inr ((),()))/\r.find? (fun p=>p.name==name)=none):=by
  intro r;induction r with
  |nil=>
   intro k hr hk;have:=drop_nil hr;have d1:decide ((k:Int)<(ps.length:Int))=false:=by simp only[decide_eq_false_iff_not];omega
   refine .inr ⟨cC ?_,rfl⟩;simp only[BA,d1,ak]
  |cons q r ih=>
   intro k hr hk;obtain⟨c1,c2,c3⟩:=drop_cons hr;have hw:aA k:=by unfold aA;omega
   have step:BA ((ps,(name,((k:Int),()))),())=some (bif q.name==name then .inr (.inl (((k:Int),()),())) else .inl ((ps,(name,(((k+1:Nat):Int),()))),())):=by
    simp only[BA,ct c3,ad,cd,c1,Y,b9 hw];cases (q.name==name)<;>rfl
   cases aC:(q.name==name) with
   |true=>
    rw[aC,ad] at step;exact .inl ⟨k,q,cC step,c1,by simp[List.find?_cons,aC]⟩
   |false=>
    rw[aC,ak] at step;rcases ih (k+1) c2 c3 with⟨j,fT,h1,h2,h3⟩|⟨h1,h2⟩
    ·exact .inl ⟨j,fT,(ea step).trans h1,h2,by simp[List.find?_cons,aC];exact h3⟩
    ·exact .inr ⟨(ea step).trans h1,by simp only[List.find?_cons,aC];exact h2⟩
 rcases key ps 0 rfl (Nat.zero_le _) with⟨j,q,h1,h2,h3⟩|⟨h1,h2⟩
 ·have h1:tb ((ps,(name,((0:Int),()))),())=some (.inl (((j:Int),()),())):=h1;exact .inl ⟨j,q,by simp only[f160,h1,Y],h2,h3⟩
 ·have h1:tb ((ps,(name,((0:Int),()))),())=some (.inr ((),())):=h1;exact .inr ⟨by simp only[f160,h1,Y],h2⟩
abbrev ko(ps:List aJ):Prop:=∀p,p∈ps->p.a6.length<=2097151/\∀n,n∈p.bl->n.a6.length<=2097151
def iY(ps:List aJ)(n:bD):Bool:=match ps.find? (fun q=>q.name==n.name) with
 |some q=>t' n q.a6
 |none=>false
def j9(ps:List aJ)(n:bD):Bool:=ps.any fun q=>lZ n q.name q.a6
theorem Qm(a)(hb:fS a.1.1)(hv:ko a.1.1):f110 a=some ((a.1.1.all (fun p=>p.bl.all (iY a.1.1)),()),()):=by
 obtain⟨⟨ps,u⟩,b8⟩:=a;have hl:ps.length<=2097152:=hb.1;have inner:∀(i:Nat) (p:aJ),ps[i]? =some p->Gt ((ps,((i:Int),((0:Int),()))),())=some (bif p.bl.all (iY ps) then .inr ((ps,((i:Int),())),()) else .inl ((false,()),())):=by
  intro i p hp;have uM:=eK hp;have Et:p.bl.length<=2097152:=(hb.2 p uM).2.2.1.1;have:=gw zD p.bl (fun k=>((ps,((i:Int),((k:Int),()))),())) (fun _ n=>iY ps n) (.inl ((false,()),())) (.inr ((ps,((i:Int),())),())) (fun k n hn=>?_) ?_
  ·have:=this;rw[hF] at this;exact this
  ·have hk:=da hn;have hw:aA k:=by unfold aA;omega
   have lj:=eK hn;have h8:=RG ((ps,(n.name,())),()) hl;simp only[zD,cd,hp,Y,ct hk,ad,hn];rcases h8 with⟨j,q,h1,h2,h3⟩|⟨h1,h2⟩
   ·have h2:ps[j]? =some q:=h2;have h3:ps.find? (fun p=>p.name==n.name)=some q:=h3
    have aC:=hv q (eK h2);have hf:=ake (((n.name,(n.kind,(n.a6,()))),(n.name,(q.a6,()))),()) ((hv p uM).2 n lj) aC.1 rfl;have hj:decide ((j:Int)<0)=false:=by simp only[decide_eq_false_iff_not];omega
    simp only[h1,Y,yU,hj,ak,cd,h2,hf,iY,h3,b9 hw];cases t' n q.a6<;>rfl
   ·have h2:ps.find? (fun p=>p.name==n.name)=none:=h2
    have hj:decide ((-1:Int)<0)=true:=rfl;simp only[h1,Y,yU,hj,ad,iY,h2,ak]
  ·simp only[zD,cd,hp,Y,dK,ak]
 have key:I' ((ps,((0:Int),())),())=some (bif allI (fun _ p=>p.bl.all (iY ps)) 0 ps then .inr ((),()) else .inl ((false,()),())):=by
  refine gw BJ ps (fun i=>((ps,((i:Int),())),())) _ _ _ (fun i x hx=>?_) ?_
  ·have hi:=da hx;have hw:aA i:=by unfold aA;omega
   simp only[BJ,ct hi,ad,inner i x hx,Y];cases x.bl.all (iY ps)
   ·rfl
   ·simp only[ad,b9 hw]
  ·simp only[BJ,dK,ak]
 rw[hF] at key;simp only[f110,key,Y];cases List.all ps (fun p=>p.bl.all (iY ps))<;>rfl
theorem afv(a)(hb:fS a.1.1)(hv:ko a.1.1):f131 a=some ((a.1.1.all (fun p=>p.bl.all (j9 a.1.1)),()),()):=by
 obtain⟨⟨ps,u⟩,b8⟩:=a;have hl:ps.length<=2097152:=hb.1;have hcon:∀n:bD,cw n.name.length->n.a6.length<=2097151->CK ((ps,(((n.name,(n.kind,(n.a6,()))),()),())),())=some ((j9 ps n,()),()):=by
  intro n hn1 ayC;have key:∀(r:List aJ) (k:Nat),ps.drop k=r->k<=ps.length->∃z:Int,(sV ((ps,(((n.name,(n.kind,(n.a6,()))),()),((ps.length:Int),((k:Int),())))),())).bind (fun aro=>(match aro with
    |.inl arn=>some ((arn.1.1,()),())
    |.inr aCt=>some ((((-1):Int),()),()):Option JZ.J))=some ((z,()),())/\decide (z>=0)=r.any (fun q=>lZ n q.name q.a6):=by
   intro r;induction r with
   |nil=>
    intro k hr hk;have:=drop_nil hr;have d1:decide ((k:Int)<(ps.length:Int))=false:=by simp only[decide_eq_false_iff_not];omega
    have:sV ((ps,(((n.name,(n.kind,(n.a6,()))),()),((ps.length:Int),((k:Int),())))),())=some (.inr ((),())):=by
     refine cC ?_
     simp only[zx,d1,ak]
    exact⟨-1,by rw[this];rfl,rfl⟩
   |cons q r ih=>
    intro k hr hk;obtain⟨c1,c2,c3⟩:=drop_cons hr;have hw:aA k:=by unfold aA;omega
    have aC:=hv q (eK c1);have hf:=ahk (((n.name,(n.kind,(n.a6,()))),(q.name,(q.a6,()))),()) hn1 ayC aC.1;have step:zx ((ps,(((n.name,(n.kind,(n.a6,()))),()),((ps.length:Int),((k:Int),())))),())=some (bif lZ n q.name q.a6 then .inr (.inl (((k:Int),()),())) else .inl ((ps,(((n.name,(n.kind,(n.a6,()))),()),((ps.length:Int),(((k+1:Nat):Int),())))),())):=by
     simp only[zx,ct c3,ad,cd,c1,Y,Kp,hf,b9 hw];cases lZ n q.name q.a6<;>rfl
    rw[List.any_cons];cases acS:lZ n q.name q.a6 with
    |true=>
     rw[acS,ad] at step;exact⟨k,by rw[show sV _=_ from cC step];rfl,by simp⟩
    |false=>
     rw[acS,ak] at step;obtain⟨z,h1,h2⟩:=ih (k+1) c2 c3;exact⟨z,by rw[show sV _=_ from ea step];exact h1,by rw[h2];rfl⟩
  obtain⟨z,h1,h2⟩:=key ps 0 rfl (Nat.zero_le _);have h3:CJ ((ps,(((n.name,(n.kind,(n.a6,()))),()),())),())=some ((z,()),()):=by
   simp only[CJ];exact h1
  simp only[CK,h3,Y,h2,j9]
 have inner:∀(i:Nat) (p:aJ),ps[i]? =some p->Gq ((ps,(ps,((ps.length:Int),((i:Int),(p.bl,((p.bl.length:Int),((0:Int),()))))))),())=some (bif p.bl.all (j9 ps) then .inr ((ps,(ps,((ps.length:Int),((i:Int),())))),()) else .inl ((false,()),())):=by
  intro i p hp;have uM:=eK hp;have Et:p.bl.length<=2097152:=(hb.2 p uM).2.2.1.1;have:=gw zB p.bl (fun k=>((ps,(ps,((ps.length:Int),((i:Int),(p.bl,((p.bl.length:Int),((k:Int),()))))))),())) (fun _ n=>j9 ps n) (.inl ((false,()),())) (.inr ((ps,(ps,((ps.length:Int),((i:Int),())))),())) (fun k n hn=>?_) ?_
  ·have:=this;rw[hF] at this;exact this
  ·have hk:=da hn;have hw:aA k:=by unfold aA;omega
   have lj:=eK hn;have hc:=hcon n ((hb.2 p uM).2.2.1.2 n lj).1 ((hv p uM).2 n lj);simp only[zB,ct hk,ad,cd,hn,Y,hc,b9 hw];cases j9 ps n<;>rfl
  ·simp only[zB,dK,ak]
 have key:I9 ((ps,(ps,((ps.length:Int),((0:Int),())))),())=some (bif allI (fun _ p=>p.bl.all (j9 ps)) 0 ps then .inr ((),()) else .inl ((false,()),())):=by
  refine gw BH ps (fun i=>((ps,(ps,((ps.length:Int),((i:Int),())))),())) _ _ _ (fun i x hx=>?_) ?_
  ·have hi:=da hx;have hw:aA i:=by unfold aA;omega
   simp only[BH,ct hi,ad,cd,hx,inner i x hx,Y];cases x.bl.all (j9 ps)
   ·rfl
   ·simp only[ad,b9 hw]
  ·simp only[BH,dK,ak]
 rw[hF] at key;simp only[f131,key,Y];cases List.all ps (fun p=>p.bl.all (j9 ps))<;>rfl
theorem aj3:∀ps:List aJ,(∀i y,ps[i+1]? =some y->nG ps i y=true)->ps.Pairwise fun p q=>Op.bytesLess p.name q.name=true:=by
 intro ps;induction ps with
 |nil=>intro _;exact List.Pairwise.nil
 |cons x r ih=>
  intro h;have hr:=ih (fun i y hy=>by
   have:=h (i+1) y (by simpa using hy)
   unfold nG at this ⊢;simpa using this)
  refine List.pairwise_cons.2 ⟨fun y hy=>?_,hr⟩
  cases r with
  |nil=>cases hy
  |cons z r=>
   have hz:Op.bytesLess x.name z.name=true:=by
    have:=h 0 z rfl;unfold nG at this;simpa using this
   rcases bR.1 hy with rfl|hy
   ·exact hz
   ·exact vM _ _ _ hz ((List.pairwise_cons.1 hr).1 y hy)
theorem aov{ps:List aJ}(h:la ps=true):ps.Pairwise fun p q=>Op.bytesLess p.name q.name=true:=by
 refine aj3 ps (fun i y hy=>?_)
 have:=Ar ps.tail 0 h i y (by rw[List.getElem?_tail];exact hy)
 rwa[Nat.zero_add] at this
theorem agH:∀(ps:List aJ) (n:bD),(∀p,p∈ps->eE p.a6=true)->dR n=true->ps.Pairwise (fun p q=>Op.bytesLess p.name q.name=true)->j9 ps n=iY ps n:=by
 intro ps n;induction ps with
 |nil=>intro _ _ _;rfl
 |cons q r ih=>
  intro hv hn hp;have Es:=List.pairwise_cons.1 hp;have ih:=ih (fun p h=>hv p (ci _ h)) hn Es.2
  unfold j9 iY at ih ⊢;rw[List.any_cons,List.find?_cons];cases aC:(q.name==n.name) with
  |true=>
   have hno:r.any (fun q=>lZ n q.name q.a6)=false:=by
    rw[List.any_eq_false];intro p ayv;have h1:=Es.1 p ayv;rw[eq_of_beq aC] at h1;have:(p.name==n.name)=false:=by
     cases h:(p.name==n.name) with
     |false=>rfl
     |true=>rw[eq_of_beq h,wF] at h1;cases h1
    unfold lZ;rw[this];simp
   rw[hno];unfold lZ;rw[hv q cj,hn,aC];simp
  |false=>
   have:lZ n q.name q.a6=false:=by unfold lZ;rw[aC];simp
   rw[this,Bool.false_or];exact ih
def eY(ps:List aJ):Bool:=ps.all cx&&la ps&&decide (ps.length<=5)&&ps.all (fun p=>p.bl.all (iY ps))&&(fQ [] ps).isSome
def kb(ps:List aJ):Int:=bif ps.all cx&&la ps then(bif decide (ps.length<=5) then(bif ps.all (fun p=>p.bl.all (iY ps)) then(bif(fQ [] ps).isSome then 0 else 5) else 4) else 6) else 1
theorem agv(ps:List aJ):eY ps=(kb ps==0):=by
 unfold eY kb;cases ps.all cx<;>cases la ps<;>cases decide (ps.length<=5)<;>cases ps.all (fun p=>p.bl.all (iY ps))<;>cases (fQ [] ps).isSome<;>rfl
theorem aid{aE:Type}(ok:Nat->aE->Bool):∀(xs:List aE) (j:Nat),allI ok (j+1) xs=allI (fun i=>ok (i+1)) j xs:=by
 intro xs;induction xs with
 |nil=>intro j;rfl
 |cons x r ih=>intro j;simp only[allI,ih]
def uE(ps:List aJ)(i:Nat)(x:aJ):Bool:=cx x&&(i==0||nG ps (i-1) x)
theorem TR(ps:List aJ):allI (uE ps) 0 ps=(ps.all cx&&la ps):=by
 unfold uE;rw[HP,hF];congr 1
 unfold la;cases ps with
 |nil=>rfl
 |cons x r=>
  simp only[allI,beq_self_eq_true,Bool.true_or,Bool.true_and,List.tail_cons];rw[aid];refine Qh r 0 (fun i y _ _=>?_)
  have:(i+1==0)=false:=rfl;rw[this,Bool.false_or,Nat.add_sub_cancel]
theorem zH(a)(hb:fS a.1.1.1)(hv:ko a.1.1.1):f30 a=some ((eY a.1.1.1,()),()):=by
 obtain⟨⟨⟨ps,u⟩,b8⟩,nT⟩:=a;have hl:ps.length<=2097152:=hb.1;have key:Cm ((ps,((0:Int),())),())=some (bif allI (uE ps) 0 ps then .inr ((ps,()),()) else .inl (((1:Int),()),())):=by
  refine gw rk ps (fun i=>((ps,((i:Int),())),())) _ _ _ (fun i x hx=>?_) ?_
  ·have hi:=da hx;have hw:aA i:=by unfold aA;omega
   have qx:=hb.2 x (eK hx);simp only[rk,ct hi,ad,Bo,cd,hx,Y];rw[vG _ qx];simp only[Y,uE,DF];cases cx x with
   |false=>rfl
   |true=>
    simp only[bu,ak,Bool.true_and,nG];cases i with
    |zero=>simp only[beq_self_eq_true,bu,ak,Y,Bool.true_or,ad,b9 hw]
    |succ i=>
     have h0:(i+1==0)=false:=rfl;have jU:i<ps.length:=by omega
     obtain⟨q,aC⟩:∃q,ps[i]? =some q:=⟨ps[i],d_ jU⟩;simp only[h0,bK,ad,vw (i:=i) (by unfold aA;omega),cd,aC,hx,Y,Bool.false_or,Nat.add_sub_cancel]
     cases Op.bytesLess q.name x.name with
     |false=>rfl
     |true=>simp only[bu,ak,ad,b9 hw]
  ·simp only[rk,dK,ak]
 rw[TR] at key;have bn:decide ((ps.length:Int)>5)=!decide (ps.length<=5):=by by_cases h:ps.length<=5<;>simp only[h,decide_true,decide_false,bu,bK,dW,decide_eq_false_iff_not]<;>omega
 simp only[f30,f60,key,Y,eY];cases er:(ps.all cx&&la ps) with
 |false=>rfl
 |true=>
  have hk:ps.all cx=true:=by simp only[bz] at er;exact er.1
  obtain⟨out,ay⟩:=RE ((ps,()),()) hb hk;have hn:=Qm ((ps,()),()) hb hv;simp only[ad,Y,ay,bn,Bool.true_and];cases decide (ps.length<=5) with
  |false=>rfl
  |true=>
   simp only[bu,ak,hn,Y,Bool.true_and];cases ps.all (fun p=>p.bl.all (iY ps))<;>cases (fQ [] ps).isSome<;>rfl
theorem ag7(a)(hb:fS a.1.1)(hv:ko a.1.1):f81 a=some ((kb a.1.1,()),()):=by
 obtain⟨⟨ps,u⟩,b8⟩:=a;have hl:ps.length<=2097152:=hb.1;have e1:=aiv ((ps,((),())),()) hb;have e2:=afb ((ps,()),()) hl;have bE:=afv ((ps,()),()) hb hv;have bn:decide ((ps.length:Int)>5)=!decide (ps.length<=5):=by by_cases h:ps.length<=5<;>simp only[h,decide_true,decide_false,bu,bK,dW,decide_eq_false_iff_not]<;>omega
 have c0:tJ (((ps,()),()),())=some (((bif ps.all cx&&la ps then(0:Int) else 1),()),()):=by
  simp only[tJ,GF,e1,Bool.not_not,Y];cases ps.all cx with
  |false=>rfl
  |true=>simp only[ad,e2,Y,Bool.true_and];cases la ps<;>rfl
 have c1:tI (((ps,()),()),())=some (((bif decide (ps.length<=5) then(0:Int) else 6),()),()):=by
  simp only[tI,bn];cases decide (ps.length<=5)<;>rfl
 have c2:tH (((ps,()),()),())=some (((bif ps.all (fun p=>p.bl.all (j9 ps)) then(0:Int) else 4),()),()):=by
  simp only[tH,bE,Y];cases ps.all (fun p=>p.bl.all (j9 ps))<;>rfl
 have c3:ps.all cx=true->tG (((ps,()),()),())=some (((bif(fQ [] ps).isSome then(0:Int) else 5),()),()):=by
  intro hk;obtain⟨out,ay⟩:=agh ((ps,()),()) hb hk;simp only[tG,ay,Y];cases (fQ [] ps).isSome<;>rfl
 have z:∀n:Int,((n:Int) !=0)=!(n==0):=fun n=>rfl
 simp only[f81,KN,rm,c0,c1,c2,rq,Y,kb];cases er:(ps.all cx&&la ps) with
 |false=>rfl
 |true=>
  simp only[bz] at er;have ap1:ps.all (fun p=>p.bl.all (j9 ps))=ps.all (fun p=>p.bl.all (iY ps)):=by
   rw[Bool.eq_iff_iff];simp only[List.all_eq_true];have hvs:∀p,p∈ps->eE p.a6=true:=fun p hp=>by
    have:=List.all_eq_true.1 er.1 p hp;unfold cx at this;simp only[bz] at this;exact this.1.1.2
   have hns:∀p,p∈ps->∀n,n∈p.bl->j9 ps n=iY ps n:=fun p hp n hn=>by
    have:=List.all_eq_true.1 er.1 p hp;unfold cx ra at this;simp only[bz] at this;exact agH ps n hvs (List.all_eq_true.1 this.1.2.1.1 n hn) (aov er.2)
   constructor
   ·intro h p hp n hn;rw[<-hns p hp n hn];exact h p hp n hn
   ·intro h p hp n hn;rw[hns p hp n hn];exact h p hp n hn
  rw[ap1,c3 er.1];cases decide (ps.length<=5)<;>cases ps.all (fun p=>p.bl.all (iY ps))<;>cases (fQ [] ps).isSome<;>rfl
theorem za(a)(hb:fS a.1.1.1)(hv:ko a.1.1.1):f43 a=some ((eY a.1.1.1,()),()):=by
 obtain⟨⟨⟨ps,u⟩,b8⟩,nT⟩:=a;have e:=ag7 ((ps,()),()) hb hv;simp only[f43,e,Y,agv]
abbrev i217:Shape:=⟨[(0,.aq (.d (.int .u32))),aj 1],[],17⟩
abbrev Yt:Shape:=⟨[(4,.aq (.d (.int .u32)))],[],17⟩
noncomputable def f217(a:i217.J):Option Yt.J:=
(l4 .u32 a.1.1 (e0 .u64 (IntKind.u64.wrap a.1.2.1) (31:Int))).bind fun b=>
(fE .u32 a.1.1 (IntKind.u64.wrap ((32:Int)-(e0 .u64 (IntKind.u64.wrap a.1.2.1) (31:Int))))).bind fun c=>
 some (((iu .u32 b c),()),())
noncomputable def _L:aI:=aL af Tryz.f217 i217 Yt [] f217
theorem asG:aF O 217 _L:=aM g0 Tryz.func217 (by kernel_rfl) ag (fun y=>by kernel_rfl) fun a=>by kernel_rfl
noncomputable abbrev avz:a8:=[(217,_L)]
theorem awD:aT O (aZ af avz):=aY ⟨asG,⟨⟩⟩
abbrev i171:Shape:=⟨[(0,.aq (.d (.int .u32))),aj 1],[],9⟩
abbrev YZ:Shape:=⟨[(4,.aq (.d (.int .u32)))],[],9⟩
noncomputable def f171(a:i171.J):Option YZ.J:=
(f217 ((a.1.1,(IntKind.i64.wrap (0-a.1.2.1)),()),())).bind fun b=>
 some ((b.1.1,()),())
noncomputable def _':aI:=aL af Tryz.f171 i171 YZ [] f171
theorem z171:aF O 171 _':=aM awD Tryz.func171 (by kernel_rfl) ag (fun y=>by kernel_rfl) fun a=>by kernel_rfl
abbrev i278:Shape:=⟨[(0,.aq (.d (.int .u32))),aj 1],[],13⟩
abbrev X5:Shape:=⟨[(4,.aq (.d (.int .u32)))],[],13⟩
noncomputable def f278(a:i278.J):Option X5.J:=
(fE .u32 a.1.1 a.1.2.1).bind fun b=>
(l4 .u32 a.1.1 (IntKind.i64.wrap ((32:Int)-a.1.2.1))).bind fun c=>
 some (((iu .u32 b c),()),())
noncomputable def LP:aI:=aL af Tryz.f278 i278 X5 [] f278
theorem XA:aF O 278 LP:=aM g0 Tryz.func278 (by kernel_rfl) ag (fun y=>by kernel_rfl) fun a=>by kernel_rfl
noncomputable abbrev auW:a8:=[(278,LP)]
theorem Mb:aT O (aZ af auW):=aY ⟨XA,⟨⟩⟩
abbrev AC:Shape:=⟨[aO 0 .u8,bd 3 3000192,aj 4],[bc 3000192 .u32 3 0],100⟩
abbrev H3:List aR:=[(.exit 0,⟨[bd 3 3000192],[bc 3000192 .u32 3 0],100⟩)]
noncomputable def Jl(y:AC.J):bQ AC H3:=
 bif(decide (y.1.2.2.1<(16:Int))) then
(aS y.1.1 (IntKind.i64.wrap ((4:Int)*y.1.2.2.1))).bind fun a=>
(l4 .u32 (IntKind.u32.wrap a) (24:Int)).bind fun b=>
(aS y.1.1 (IntKind.i64.wrap ((IntKind.i64.wrap ((4:Int)*y.1.2.2.1))+(1:Int)))).bind fun c=>
(l4 .u32 (IntKind.u32.wrap c) (16:Int)).bind fun d=>
(aS y.1.1 (IntKind.i64.wrap ((IntKind.i64.wrap ((4:Int)*y.1.2.2.1))+(2:Int)))).bind fun e=>
(l4 .u32 (IntKind.u32.wrap e) (8:Int)).bind fun f=>
(aS y.1.1 (IntKind.i64.wrap ((IntKind.i64.wrap ((4:Int)*y.1.2.2.1))+(3:Int)))).bind fun g=>
(cm 4 y.2.1 ([(iu .u32 (iu .u32 (iu .u32 b d) f) (IntKind.u32.wrap g))]:List Int)).bind fun h=>
 some (.inl ((y.1.1,(),(IntKind.i64.wrap (y.1.2.2.1+(1:Int))),()),h,()))
else
 some (.inr (((),()),y.2.1,()))
noncomputable def IR:AC.J->Option (aH H3):=bA Jl
theorem amU:aV O (ap (codeOf Tryz.f276) 1 58) (aX AC H3 IR):=bT Mb (by kernel_rfl) ag fun y=>by kernel_rfl
abbrev zQ:Shape:=⟨[bd 3 3000192,aj 5],[bc 3000192 .u32 3 0],100⟩
abbrev GW:List aR:=[(.exit 2,⟨[bd 3 3000192],[bc 3000192 .u32 3 0],100⟩)]
noncomputable def HE(y:zQ.J):bQ zQ GW:=
 bif(decide (y.1.2.1<(64:Int))) then
(bf y.2.1.length (IntKind.i64.wrap (y.1.2.1-(15:Int)))).bind fun a=>
(y.2.1[a]?).bind fun b=>
(bf y.2.1.length (IntKind.i64.wrap (y.1.2.1-(2:Int)))).bind fun c=>
(y.2.1[c]?).bind fun d=>
(f278 ((b,(7:Int),()),())).bind fun e=>
(f278 ((b,(18:Int),()),())).bind fun f=>
(fE .u32 b (3:Int)).bind fun g=>
(f278 ((d,(17:Int),()),())).bind fun h=>
(f278 ((d,(19:Int),()),())).bind fun i=>
(fE .u32 d (10:Int)).bind fun j=>
(bf y.2.1.length (IntKind.i64.wrap (y.1.2.1-(16:Int)))).bind fun k=>
(y.2.1[k]?).bind fun l=>
(bf y.2.1.length (IntKind.i64.wrap (y.1.2.1-(7:Int)))).bind fun m=>
(y.2.1[m]?).bind fun n=>
(cm 4 y.2.1 ([(IntKind.u32.wrap ((IntKind.u32.wrap ((IntKind.u32.wrap (l+(dB .u32 (dB .u32 e.1.1 f.1.1) g)))+n))+(dB .u32 (dB .u32 h.1.1 i.1.1) j)))]:List Int)).bind fun D=>
 some (.inl (((),(IntKind.i64.wrap (y.1.2.1+(1:Int))),()),D,()))
else
 some (.inr (((),()),y.2.1,()))
noncomputable def Hk:zQ.J->Option (aH GW):=bA HE
theorem ak0:aV O (ap (codeOf Tryz.f276) 1 122) (aX zQ GW Hk):=bT Mb (by kernel_rfl) ag fun y=>by kernel_rfl
abbrev i276:Shape:=⟨[aO 0 .u8],[],100⟩
abbrev X7:Shape:=⟨[bd 2 3000128],[bc 3000128 .u32 2 0],100⟩
noncomputable def f276(a:i276.J):Option X7.J:=
(kh 4 (0:Int) (64:Int) (0:Int)).bind fun b=>
(IR ((a.1.1,(),(0:Int),()),b,())).bind fun c=>
(Hk (((),(16:Int),()),c.2.1,())).bind fun d=>
 some (((),()),d.2.1,())
noncomputable def _q:aI:=aL af Tryz.f276 i276 X7 [] f276
theorem asq:aF O 276 _q:=aM Mb Tryz.func276 (by kernel_rfl) (a7 amU (a7 ak0 ag)) (fun y=>by kernel_rfl) fun a=>by kernel_rfl
theorem gd{J bx:Type}{g:J->Option (Sum J bx)}(st:Nat->J)(n:Nat){b:bx}(h:∀i,i<n->g (st i)=some (.inl (st (i+1))))(he:g (st n)=some (.inr b)):∀k i,i+k=n->bA g (st i)=some b:=by
 intro k;induction k with
 |zero=>
  intro i hi;obtain rfl:i=n:=by omega
  exact cC he
 |succ k ih=>
  intro i hi;rw[ea (h i (by omega))]
  exact ih (i+1) (by omega)
theorem alu(k:IntKind)(x y:Int):iu k x y=iu k y x:=by unfold iu;rw[BitVec.or_comm]
def k6(x n:Int):Int:=iu .u32 (x.fdiv (2^n.toNat)) (IntKind.u32.wrap (x*2^(32-n).toNat))
def fc(n:Int):Prop:=n=2\/n=6\/n=7\/n=11\/n=13\/n=17\/n=18\/n=19\/n=22\/n=25
theorem nq(x n:Int)(h:fc n):f278 ((x,(n,())),())=some ((k6 x n,()),()):=by
 rcases h with rfl|rfl|rfl|rfl|rfl|rfl|rfl|rfl|rfl|rfl<;>rfl
theorem ie(x n:Int)(h:fc n):f171 ((x,(n,())),())=some ((k6 x n,()),()):=by
 have a2:e0 .u64 (IntKind.u64.wrap (IntKind.i64.wrap (0-2))) 31=30:=by decide
 have yG:e0 .u64 (IntKind.u64.wrap (IntKind.i64.wrap (0-6))) 31=26:=by decide
 have yF:e0 .u64 (IntKind.u64.wrap (IntKind.i64.wrap (0-7))) 31=25:=by decide
 have NE:e0 .u64 (IntKind.u64.wrap (IntKind.i64.wrap (0-11))) 31=21:=by decide
 have azK:e0 .u64 (IntKind.u64.wrap (IntKind.i64.wrap (0-13))) 31=19:=by decide
 have azI:e0 .u64 (IntKind.u64.wrap (IntKind.i64.wrap (0-17))) 31=15:=by decide
 have azH:e0 .u64 (IntKind.u64.wrap (IntKind.i64.wrap (0-18))) 31=14:=by decide
 have azG:e0 .u64 (IntKind.u64.wrap (IntKind.i64.wrap (0-19))) 31=13:=by decide
 have azF:e0 .u64 (IntKind.u64.wrap (IntKind.i64.wrap (0-22))) 31=10:=by decide
 have azE:e0 .u64 (IntKind.u64.wrap (IntKind.i64.wrap (0-25))) 31=7:=by decide
 unfold k6;rw[alu];rcases h with rfl|rfl|rfl|rfl|rfl|rfl|rfl|rfl|rfl|rfl<;>simp only[f171,f217,a2,yG,yF,NE,azK,azI,azH,azG,azF,azE]<;>rfl
theorem pC{x:Int}(h0:0<=x)(h1:x<4294967296):IntKind.u32.wrap x=x:=by rw[IntKind.wrap_u32];omega
theorem Gh{a:Nat}(h:a<4294967296):(BitVec.ofInt IntKind.u32.bits (a:Int)).toNat=a:=by
 rw[BitVec.ofInt_natCast,BitVec.toNat_ofNat];exact Nat.mod_eq_of_lt h
theorem Bf{m y k:Nat}(hy:y<2^k)(h:m*2^k+y<4294967296):iu .u32 ((m*2^k:Nat):Int) (y:Int)=((m*2^k+y:Nat):Int):=by
 unfold iu;rw[BitVec.toNat_or,Gh (by omega),Gh (by omega),<-Nat.shiftLeft_eq,<-Nat.shiftLeft_add_eq_or_of_lt hy,Nat.shiftLeft_eq,pC (by omega) (by omega)]
abbrev kQ(x:Int):Prop:=0<=x/\x<=255
def wd(a b c d:Int):Int:=a*16777216+b*65536+c*256+d
def hM(w c:Int):Int:=iu .u32 (IntKind.u32.wrap (w*256)) (IntKind.u32.wrap c)
theorem zd{w c:Nat}(hw:w<16777216)(hc:c<256):hM w c=((w*256+c:Nat):Int):=by
 unfold hM;rw[pC (x:=(w:Int)*256) (by omega) (by omega),pC (x:=(c:Int)) (by omega) (by omega)]
 exact Bf (k:=8) (by omega) (by omega)
theorem pQ{x:Int}(h:kQ x):∃n:Nat,x=n/\n<256:=by
 obtain⟨n,rfl⟩:=Int.eq_ofNat_of_zero_le h.1;exact⟨n,rfl,by omega⟩
theorem amp{a b c d:Int}(ha:kQ a)(hb:kQ b)(hc:kQ c)(aa:kQ d):hM (hM (hM (hM 0 a) b) c) d=wd a b c d:=by
 obtain⟨a,rfl,sB⟩:=pQ ha;obtain⟨b,rfl,sA⟩:=pQ hb;obtain⟨c,rfl,yy⟩:=pQ hc;obtain⟨d,rfl,yx⟩:=pQ aa;have fe:hM 0 (a:Int)=((0*256+a:Nat):Int):=zd (w:=0) (by omega) sB
 rw[fe,zd (by omega) sA,zd (by omega) yy,zd (by omega) yx]
 unfold wd;omega
theorem amo{a b c d:Int}(ha:kQ a)(hb:kQ b)(hc:kQ c)(aa:kQ d):
  iu .u32 (iu .u32 (iu .u32 (IntKind.u32.wrap (IntKind.u32.wrap a*16777216)) (IntKind.u32.wrap (IntKind.u32.wrap b*65536))) (IntKind.u32.wrap (IntKind.u32.wrap c*256))) (IntKind.u32.wrap d)=wd a b c d:=by
 obtain⟨a,rfl,sB⟩:=pQ ha;obtain⟨b,rfl,sA⟩:=pQ hb;obtain⟨c,rfl,yy⟩:=pQ hc;obtain⟨d,rfl,yx⟩:=pQ aa;have w:∀{x:Nat},x<256->IntKind.u32.wrap (x:Int)=x:=fun h=>pC (by omega) (by omega)
 rw[w sB,w sA,w yy,w yx,pC (x:=(a:Int)*16777216) (by omega) (by omega),pC (x:=(b:Int)*65536) (by omega) (by omega),pC (x:=(c:Int)*256) (by omega) (by omega)]
 have e1:iu .u32 ((a:Int)*16777216) ((b:Int)*65536)=(((a*256+b)*2^16:Nat):Int):=by
  have:=Bf (m:=a) (y:=b*65536) (k:=24) (by omega) (by omega)
  rw[show((a:Int)*16777216)=((a*2^24:Nat):Int) by omega,show((b:Int)*65536)=((b*65536:Nat):Int) by omega,this];omega
 have e2:iu .u32 (((a*256+b)*2^16:Nat):Int) ((c:Int)*256)=((((a*256+b)*256+c)*2^8:Nat):Int):=by
  have:=Bf (m:=a*256+b) (y:=c*256) (k:=16) (by omega) (by omega)
  rw[show((c:Int)*256)=((c*256:Nat):Int) by omega,this];omega
 have bE:=Bf (m:=(a*256+b)*256+c) (y:=d) (k:=8) (by omega) (by omega)
 rw[e1,e2,bE];unfold wd;omega
def gb(b:List Int)(i:Nat):Int:=b.getD i 0
def MA(x:Int):Int:=dB .u32 (dB .u32 (k6 x 7) (k6 x 18)) (x.fdiv 8)
def Mz(x:Int):Int:=dB .u32 (dB .u32 (k6 x 17) (k6 x 19)) (x.fdiv 1024)
def w8(w:List Int)(i:Nat):Int:=IntKind.u32.wrap (IntKind.u32.wrap (IntKind.u32.wrap (gb w (i-16)+MA (gb w (i-15)))+gb w (i-7))+Mz (gb w (i-2)))
def cG(b:List Int):Nat->List Int
 |0=>[]
 |i+1=>cG b i++[bif decide (i<16) then wd (gb b (4*i)) (gb b (4*i+1)) (gb b (4*i+2)) (gb b (4*i+3)) else w8 (cG b i) i]
theorem oy(b:List Int):∀i,(cG b i).length=i
 |0=>rfl
 |i+1=>by simp[cG,oy b i]
theorem mB{b:List Int}{j:Nat}(h:j<b.length):b[j]? =some (gb b j):=by
 unfold gb;rw[List.getD_eq_getElem?_getD,d_ h];rfl
theorem wR{b:List Int}{j:Nat}(h:j<b.length):aS b (j:Int)=some (gb b j):=by rw[cd];exact mB h
theorem XR(x:Int):fE .u32 x 3=some (x.fdiv 8):=rfl
theorem WQ(x:Int):fE .u32 x 10=some (x.fdiv 1024):=rfl
theorem arf(x:Int):l4 .u32 x 24=some (IntKind.u32.wrap (x*16777216)):=rfl
theorem arh(x:Int):l4 .u32 x 16=some (IntKind.u32.wrap (x*65536)):=rfl
theorem w4(x:Int):l4 .u32 x 8=some (IntKind.u32.wrap (x*256)):=rfl
abbrev sq(b:List Int):Prop:=b.length=64/\∀x,x∈b->kQ x
theorem sq.qA{b:List Int}(h:sq b){j:Nat}(hj:j<64):kQ (gb b j):=by
 refine h.2 _ ?_
 have:=mB (b:=b) (j:=j) (by rw[h.1];exact hj)
 exact eK this
theorem lu{i:Nat}(h:i<=64)(j:Nat)(hj:j<=4):IntKind.i64.wrap (IntKind.i64.wrap ((4:Int)*(i:Int))+(j:Int))=((4*i+j:Nat):Int):=by
 rw[c5 (n:=4*(i:Int)) (by omega) (by omega),c5 (by omega) (by omega)];omega
theorem uB{i:Nat}(h:i<=64):IntKind.i64.wrap ((4:Int)*(i:Int))=((4*i:Nat):Int):=by
 rw[c5 (n:=4*(i:Int)) (by omega) (by omega)];omega
theorem qD{i:Nat}{q:Int}(k:Nat)(e:q=(k:Int))(h:i<=64)(hk:k<=i):IntKind.i64.wrap ((i:Int)-q)=((i-k:Nat):Int):=by
 subst e;rw[c5 (by omega) (by omega)];omega
theorem wp{i:Nat}(h:i<=64):IntKind.i64.wrap ((i:Int)+1)=((i+1:Nat):Int):=b9 (by unfold aA;omega)
theorem aio(b:List Int)(h:sq b):f276 ((b,()),())=some (((),()),(cG b 64,())):=by
 have aG:IR ((b,((),((0:Int),()))),(([]:List Int),()))=some (((),()),(cG b 16,())):=by
  refine gd (g:=Jl) (fun i=>((b,((),((i:Int),()))),(cG b i,()))) 16 (fun i hi=>?_) rfl 16 0 rfl
  have hl:decide ((i:Int)<16)=true:=by simp;omega
  have h0:=wR (b:=b) (j:=4*i) (by rw[h.1];omega)
  have h1:=wR (b:=b) (j:=4*i+1) (by rw[h.1];omega)
  have h2:=wR (b:=b) (j:=4*i+2) (by rw[h.1];omega)
  have h3:=wR (b:=b) (j:=4*i+3) (by rw[h.1];omega)
  have q1:IntKind.i64.wrap (((4*i:Nat):Int)+1)=((4*i+1:Nat):Int):=by have:=lu (i:=i) (by omega) 1 (by omega);rwa[uB (by omega)] at this
  have q2:IntKind.i64.wrap (((4*i:Nat):Int)+2)=((4*i+2:Nat):Int):=by have:=lu (i:=i) (by omega) 2 (by omega);rwa[uB (by omega)] at this
  have dU:IntKind.i64.wrap (((4*i:Nat):Int)+3)=((4*i+3:Nat):Int):=by have:=lu (i:=i) (by omega) 3 (by omega);rwa[uB (by omega)] at this
  have hw:=amo (h.qA (j:=4*i) (by omega)) (h.qA (j:=4*i+1) (by omega)) (h.qA (j:=4*i+2) (by omega)) (h.qA (j:=4*i+3) (by omega))
  have aa:decide (i<16)=true:=by simpa using hi
  simp only[Jl,hl,ad,uB (i:=i) (by omega),q1,q2,dU,h0,h1,h2,h3,Y,arf,arh,w4,hw,wp (i:=i) (by omega)]
  rw[dw (by decide) (by rw[oy];unfold aA;simp;omega)]
  simp only[Y,cG,aa,ad]
 have aK:Hk (((),((16:Int),())),(cG b 16,()))=some (((),()),(cG b 64,())):=by
  refine gd (g:=HE) (fun i=>(((),(((16+i:Nat):Int),())),(cG b (16+i),()))) 48 (fun i hi=>?_) rfl 48 0 rfl
  have hl:decide (((16+i:Nat):Int)<64)=true:=by simp;omega
  have hlen:=oy b (16+i);have aa:decide (16+i<16)=false:=by simp
  have t7:=fun x=>nq x 7 (by simp[fc]);have t18:=fun x=>nq x 18 (by simp[fc])
  have t17:=fun x=>nq x 17 (by simp[fc]);have t19:=fun x=>nq x 19 (by simp[fc])
  have i15:bf (cG b (16+i)).length (IntKind.i64.wrap (((16+i:Nat):Int)-15))=some (16+i-15):=by rw[qD (i:=16+i) (q:=15) 15 rfl (by omega) (by omega)];exact fP (by rw[hlen];omega)
  have i2:bf (cG b (16+i)).length (IntKind.i64.wrap (((16+i:Nat):Int)-2))=some (16+i-2):=by rw[qD (i:=16+i) (q:=2) 2 rfl (by omega) (by omega)];exact fP (by rw[hlen];omega)
  have i16:bf (cG b (16+i)).length (IntKind.i64.wrap (((16+i:Nat):Int)-16))=some (16+i-16):=by rw[qD (i:=16+i) (q:=16) 16 rfl (by omega) (by omega)];exact fP (by rw[hlen];omega)
  have i7:bf (cG b (16+i)).length (IntKind.i64.wrap (((16+i:Nat):Int)-7))=some (16+i-7):=by rw[qD (i:=16+i) (q:=7) 7 rfl (by omega) (by omega)];exact fP (by rw[hlen];omega)
  have g15:=mB (b:=cG b (16+i)) (j:=16+i-15) (by rw[hlen];omega)
  have g2:=mB (b:=cG b (16+i)) (j:=16+i-2) (by rw[hlen];omega)
  have g16:=mB (b:=cG b (16+i)) (j:=16+i-16) (by rw[hlen];omega)
  have g7:=mB (b:=cG b (16+i)) (j:=16+i-7) (by rw[hlen];omega)
  simp only[HE,hl,ad,i15,i2,i16,i7,g15,g2,g16,g7,Y,t7,t18,t17,t19,XR,WQ,wp (i:=16+i) (by omega)]
  rw[dw (by decide) (by rw[hlen];unfold aA;simp;omega)]
  have hs:cG b (16+(i+1))=cG b (16+i)++[w8 (cG b (16+i)) (16+i)]:=by
   show cG b ((16+i)+1)=_;simp only[cG,aa,ak]
  simp only[Y,hs,w8,MA,Mz];rfl
 have hm:kh 4 (0:Int) (64:Int) (0:Int)=some ([]:List Int):=rfl;simp only[f276,hm,Y,aG,aK]
abbrev i277:Shape:=⟨[],[],2⟩
abbrev X6:Shape:=⟨[bd 0 3000000],[bc 3000000 .u32 0 0],2⟩
noncomputable def f277(a:i277.J):Option X6.J:=
 some (((),()),([(1116352408:Int),(1899447441:Int),(3049323471:Int),(3921009573:Int),(961987163:Int),(1508970993:Int),(2453635748:Int),(2870763221:Int),(3624381080:Int),(310598401:Int),(607225278:Int),(1426881987:Int),(1925078388:Int),(2162078206:Int),(2614888103:Int),(3248222580:Int),(3835390401:Int),(4022224774:Int),(264347078:Int),(604807628:Int),(770255983:Int),(1249150122:Int),(1555081692:Int),(1996064986:Int),(2554220882:Int),(2821834349:Int),(2952996808:Int),(3210313671:Int),(3336571891:Int),(3584528711:Int),(113926993:Int),(338241895:Int),(666307205:Int),(773529912:Int),(1294757372:Int),(1396182291:Int),(1695183700:Int),(1986661051:Int),(2177026350:Int),(2456956037:Int),(2730485921:Int),(2820302411:Int),(3259730800:Int),(3345764771:Int),(3516065817:Int),(3600352804:Int),(4094571909:Int),(275423344:Int),(430227734:Int),(506948616:Int),(659060556:Int),(883997877:Int),(958139571:Int),(1322822218:Int),(1537002063:Int),(1747873779:Int),(1955562222:Int),(2024104815:Int),(2227730452:Int),(2361852424:Int),(2428436474:Int),(2756734187:Int),(3204031479:Int),(3329325298:Int)]:List Int),())
noncomputable def _p:aI:=aL af Tryz.f277 i277 X6 [] f277
theorem asp:aF O 277 _p:=aM g0 Tryz.func277 (by kernel_rfl) ag (fun y=>by kernel_rfl) fun a=>by kernel_rfl
end Go.Proofs
