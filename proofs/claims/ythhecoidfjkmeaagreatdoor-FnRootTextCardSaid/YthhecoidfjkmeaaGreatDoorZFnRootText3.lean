/- FnRootText: decoding a root inverts encoding. (part 4 of 7: JkKTy, JkKSp, JkKOp, JkKBc, JkKEn, JkKF115, JkKF74, JkKF75, JkKF87, JkKF99, JkKPuA, JkKF73, JkKPuB, JkKFH271, JkKF244, JkKF209, JkKF212, JkKIt, JkKF151, JkKF100, JkKF102, JkKF140, JkKF88, JkKF192, JkK) Conditions: none beyond the statement. -/
import Derived.Test.YthhecoidfjkmeaaGreatDoorZFnRootText2
import Derived.Tactics
import Derived.Deep.RegionLaw
import Derived.Shelf.Abstract
import Derived.Test.YthhecoidfjkmeaaGreatDoorProg
import Derived.KernelRfl
import Derived.Lib.Builder
import Derived.Lib.UnsafeStr
import Derived.WalkKit
import Derived.Shelf.RegionOpenPlain
set_option linter.unusedSimpArgs false
set_option maxRecDepth 100000
set_option linter.unusedVariables false
namespace Go.Proofs
open Go.Jk
noncomputable abbrev O:Program:=Tryz.prog
noncomputable def awB:List (Nat×cg):=[
(2,.int .i64),
(3,.int .i64),
(4,.bool),
(5,.int .u8),
(6,.int .u8),
(7,.struct [(0,1),(1,1),(2,1),(3,1)] 4 [.d (.int .i64 0),.d (.int .i64 0),.d (.bool false),.d (.int .u8 0)] false),
(8,.struct [(0,1),(1,1),(2,1),(3,1)] 4 [.d (.int .i64 0),.d (.int .i64 0),.d (.bool false),.d (.int .u8 0)] false),
(9,.str),
(10,.str),
(11,.str),
(12,.int .u64),
(13,.struct [(0,1),(1,1)] 2 [.d (.str []),.d (.int .u64 0)] false),
(14,.struct [(0,1),(1,1)] 2 [.d (.str []),.d (.int .u64 0)] false),
(15,.ptr),
(16,.ptr),
(17,.ptr),
(18,.struct [(0,1)] 1 [.cV (.pointer none)] false),
(19,.struct [(0,1)] 1 [.cV (.pointer none)] false),
(20,.iface),
(21,.int .i32),
(22,.struct [(0,1),(1,1)] 2 [.d (.str []),.d (.str [])] false),
(23,.struct [(0,1),(1,1)] 2 [.d (.str []),.d (.str [])] false),
(26,.struct [(0,1),(1,1)] 2 [.d (.str []),.d (.str [])] false),
(29,.slice 115 .pack 80),
(30,.struct [(0,1)] 1 [.nil .pack] false),
(31,.struct [(0,1)] 1 [.nil .pack] false),
(34,.slice 66 .pack 80),
(35,.struct [(0,1)] 1 [.nil .pack] false),
(36,.struct [(0,1)] 1 [.nil .pack] false),
(41,.slice 120 .file 32),
(42,.struct [(0,1),(1,1),(2,2)] 4 [.nil .file,.nil .pack,.d (.str []),.d (.str [])] false),
(43,.struct [(0,1),(1,1),(2,2)] 4 [.nil .file,.nil .pack,.d (.str []),.d (.str [])] false),
(46,.slice 124 .file 32),
(47,.struct [(0,1),(1,1),(2,2)] 4 [.nil .file,.nil .pack,.d (.str []),.d (.str [])] false),
(48,.struct [(0,1),(1,1),(2,2)] 4 [.nil .file,.nil .pack,.d (.str []),.d (.str [])] false),
(52,.slice 5 .u8 1),
(63,.slice 133 .need 40),
(64,.slice 178 .entry 48),
(65,.struct [(0,1),(1,1),(2,1),(3,1)] 4 [.d (.str []),.d (.str []),.nil .need,.nil .entry] false),
(66,.struct [(0,1),(1,1),(2,1),(3,1)] 4 [.d (.str []),.d (.str []),.nil .need,.nil .entry] false),
(84,.ptr),
(89,.ptr),
(90,.struct [(0,1),(1,1)] 2 [.cV (.pointer none),.nil .u8] false),
(91,.struct [(0,1),(1,1)] 2 [.cV (.pointer none),.nil .u8] false),
(92,.iface),
(93,.iface),
(103,.slice 9 .str 16),
(109,.slice 3 .i64 8),
(112,.slice 209 .need 40),
(113,.slice 211 .entry 48),
(114,.struct [(0,1),(1,1),(2,1),(3,1)] 4 [.d (.str []),.d (.str []),.nil .need,.nil .entry] false),
(115,.struct [(0,1),(1,1),(2,1),(3,1)] 4 [.d (.str []),.d (.str []),.nil .need,.nil .entry] false),
(119,.struct [(0,1),(1,1)] 2 [.d (.str []),.d (.str [])] false),
(120,.struct [(0,1),(1,1)] 2 [.d (.str []),.d (.str [])] true),
(124,.struct [(0,1),(1,1)] 2 [.d (.str []),.d (.str [])] true),
(132,.struct [(0,1),(1,1),(2,1)] 3 [.d (.str []),.d (.int .i64 0),.d (.str [])] false),
(133,.struct [(0,1),(1,1),(2,1)] 3 [.d (.str []),.d (.int .i64 0),.d (.str [])] true),
(140,.struct [(0,1),(1,1)] 2 [.nil .u8,.d (.int .i64 0)] false),
(141,.struct [(0,1),(1,1)] 2 [.nil .u8,.d (.int .i64 0)] false),
(144,.ptr),
(153,.int .u32),
(154,.arr 153 .u32 8),
(155,.int .u64),
(157,.slice 153 .u32 4),
(164,.func),
(177,.struct [(0,1),(1,1),(2,1),(3,1)] 4 [.d (.str []),.d (.int .i64 0),.d (.int .i64 0),.d (.str [])] false),
(178,.struct [(0,1),(1,1),(2,1),(3,1)] 4 [.d (.str []),.d (.int .i64 0),.d (.int .i64 0),.d (.str [])] true),
(183,.slice 3 .i64 8),
(202,.arr 153 .u32 64),
(203,.int .u64),
(209,.struct [(0,1),(1,1),(2,1)] 3 [.d (.str []),.d (.int .i64 0),.d (.str [])] true),
(211,.struct [(0,1),(1,1),(2,1),(3,1)] 4 [.d (.str []),.d (.int .i64 0),.d (.int .i64 0),.d (.str [])] true),
(251,.arr 4 .bool 256),
(252,.arr 4 .bool 256),
(264,.ptr),
(271,.struct [(0,1),(1,1)] 2 [.d (.int .u8 0),.d (.int .u8 0)] false),
(272,.struct [(0,1),(1,1)] 2 [.d (.int .u8 0),.d (.int .u8 0)] false),
(277,.struct [(0,1),(1,1),(2,1),(3,1)] 4 [.cV (.pointer none),.cV (.pointer none),.cV (.pointer none),.d (.str [])] false),
(278,.struct [(0,1),(1,1),(2,1),(3,1)] 4 [.cV (.pointer none),.cV (.pointer none),.cV (.pointer none),.d (.str [])] false),
(282,.int .u8),
(283,.int .u8),
(285,.int .i32),
(286,.int .i32),
(287,.struct [(0,1),(1,1),(2,1),(3,1),(4,1),(5,1),(6,1),(7,1),(8,1),(9,1),(10,1)] 11 [.d (.int .u64 0),.d (.int .u64 0),.d (.int .u32 0),.d (.int .u8 0),.d (.int .u8 0),.d (.int .u8 0),.d (.int .u8 0),.cV .nilFunc,.cV (.pointer none),.d (.int .i32 0),.d (.int .i32 0)] false),
(288,.struct [(0,1),(1,1),(2,1),(3,1),(4,1),(5,1),(6,1),(7,1),(8,1),(9,1),(10,1)] 11 [.d (.int .u64 0),.d (.int .u64 0),.d (.int .u32 0),.d (.int .u8 0),.d (.int .u8 0),.d (.int .u8 0),.d (.int .u8 0),.cV .nilFunc,.cV (.pointer none),.d (.int .i32 0),.d (.int .i32 0)] false)]
noncomputable def tt:TypeId->cg:=CX awB
noncomputable def ad:Env:=⟨tt,[(198,266)],[230],[59],[112],[65],[(0,⟨.u32,iF⟩)]⟩
abbrev bG(s:Shape)(t:List aP):=Option (Sum s.J (aB t))
theorem ap4(s p:ByteArray)(k:Int)(w:World):Calls O 232 #[.string s,.string p,.int .i64 k] w fun e w'=>
  e=.returned (.func (.func 266) #[] #[.pointer (some ⟨w.heap.size+1,0,none⟩),.pointer (some ⟨w.heap.size,0,none⟩),.pointer (some ⟨w.heap.size+2,0,none⟩)])/\
  w'=((w.alloc (.cells #[.string s] 9)).alloc (.cells #[.string p] 9)).alloc (.cells #[.int .i64 k] 3):=by
 go_enter Tryz.func232,Tryz.ntmps232
 go_wp2
 go_ret
 exact⟨rfl,rfl⟩
theorem ap5(s p:ByteArray)(w:World):Calls O 198 #[.string s,.string p] w fun e w'=>
  e=.returned (.func (.func 266) #[] #[.pointer (some ⟨w.heap.size+1,0,none⟩),.pointer (some ⟨w.heap.size,0,none⟩),.pointer (some ⟨w.heap.size+2,0,none⟩)])/\
  w'=((w.alloc (.cells #[.string s] 9)).alloc (.cells #[.string p] 9)).alloc (.cells #[.int .i64 0] 3):=by
 go_enter Tryz.func198,Tryz.ntmps198
 go_wp2_with (go_at_call 232;refine(ap4 _ _ _ _).mono ?_;rintro e w' ⟨rfl,rfl⟩)
 go_ret
 exact⟨rfl,rfl⟩
theorem asi:Bn O 198 266:=fun a b w=>.inl ⟨enters_of Tryz.func198 (by kernel_rfl) rfl _ _,(ap5 a b w).mono fun e w' h=>by obtain⟨rfl,rfl⟩:=h;exact⟨9,3,rfl,rfl⟩⟩
theorem awQ(w:World):Calls O 59 #[.slice none 0 0] w fun e w'=>e=.returned (.pointer (some ⟨w.heap.size,0,none⟩))/\w'=w.alloc (.cells #[.slice none 0 0,.int .i64 0] 141):=by
 go_enter Tryz.func59,Tryz.ntmps59
 go_wp2
 go_ret
 exact⟨rfl,rfl⟩
theorem awP(w:World)(a:Addr)(n c:Nat)(h:n<=2000):Calls O 59 #[.slice (some a) n c] w fun e w'=>e=.returned (.pointer (some ⟨w.heap.size,0,none⟩))/\w'=w.alloc (.cells #[.slice (some a) n c,.int .i64 0] 141):=by
 have h1:¬((n:Int)>2000):=by omega
 go_enter Tryz.func59,Tryz.ntmps59
 go_wp2
 go_ret
 exact⟨rfl,rfl⟩
theorem awR(w:World)(a:Addr)(n c:Nat)(h:2000<n)(hc:n<=c):Calls O 59 #[.slice (some a) n c] w fun e w'=>e=.returned (.pointer (some ⟨w.heap.size,0,none⟩))/\w'=w.alloc (.cells #[.slice (some a) 2000 c,.int .i64 0] 141):=by
 have h1:((n:Int)>2000):=by omega
 go_enter Tryz.func59,Tryz.ntmps59
 go_wp2
 go_ret
 exact⟨rfl,rfl⟩
theorem asN:Cq O 59:=fun xs v w av hr=>.inl ⟨enters_of Tryz.func59 (by kernel_rfl) rfl _ _,by
 have fin:∀{v:Value} {u:Value},bK w av (.sl .u8 (xs.take 2000)) u->Calls O 59 #[v] w (fun e w'=>e=.returned (.pointer (some ⟨w.heap.size,0,none⟩))/\w'=w.alloc (.cells #[u,.int .i64 0] 141))->
   Calls O 59 #[v] w fun e w'=>match e,w' with
    |.returned v',w'=>∃u T,bK w av (.sl .u8 (xs.take 2000)) u/\v'=.pointer (some ⟨w.heap.size,0,none⟩)/\w'=w.alloc (.cells #[u,.int .i64 0] T)
    |_,_=>False:=fun hu hc=>hc.mono fun e w' h=>by obtain⟨rfl,rfl⟩:=h;exact⟨_,_,hu,rfl,rfl⟩
 cases hr with
 |nil=>exact fin (.nil .u8) (awQ w)
 |sl t xs a cap cs n hn hcap hb hl hc hr=>
  by_cases h:2000<n
  ·refine fin (u:=.slice (some a) 2000 cap) ?_ (awR w a n cap h hcap);have hlen:(xs.take 2000).length=2000:=by simp only[List.length_take];omega
   have hf:flat .u8 (xs.take 2000)=(flat .u8 xs).take 2000:=by rw[mR];rfl
   refine .sl .u8 (xs.take 2000) a cap (cs.take 2000) 2000 hlen.symm (by omega) (fun hx=>hb (fun e=>hx (by rw[e];rfl))) (by rw[hf,List.length_take,List.length_take,hl]) (fun j u hu=>?_) (fun j h1 h2=>?_)
   ·rw[List.getElem?_take] at hu;split at hu
    ·exact hc j u hu
    ·cases hu
   ·have h1':j<(flat .u8 xs).length:=by rw[hf,List.length_take] at h1;omega
    have h2':j<cs.length:=by rw[List.length_take] at h2;omega
    have e1:(flat .u8 (xs.take 2000))[j]=(flat .u8 xs)[j]:=by simp only[hf,List.getElem_take]
    have e2:(cs.take 2000)[j]=cs[j]:=List.getElem_take;rw[e1,e2];exact hr j h1' h2'
  ·refine fin (u:=.slice (some a) n cap) ?_ (awP w a n cap (by omega))
   rw[List.take_of_length_le (by omega)]
   exact .sl .u8 xs a cap cs n hn hcap hb hl hc hr⟩
set_option maxHeartbeats 1000000 in
theorem ao8(b:Nat)(w:World)(h0:w.cell? ⟨b,0,none⟩=some (.pointer (some ⟨b,0,none⟩))):
  Calls O 112 #[.pointer (some ⟨b,0,none⟩)] w fun e w'=>e=.returned (.tuple #[])/\w'=w:=by
 obtain⟨j,hj,_⟩:=Option.map_eq_some_iff.1 (show(O.info? 91).map (·.size)=some 2 by kernel_rfl)
 go_enter Tryz.func112,Tryz.ntmps112
 go_wp2
 rw[Lib.run_neq_ptr_same w _ (show O.underlying 89=some (.pointer 91) by kernel_rfl) hj]
 go_wp2
 go_end0
 exact⟨rfl,rfl⟩
set_option maxHeartbeats 1000000 in
theorem anq(b:Nat)(w:World)(h0:w.cell? ⟨b,0,none⟩=some (.pointer none))(hsh:w.shape? b=some (91,2))(hfz:w.frozen? ⟨b,0,none⟩=false):
  Calls O 112 #[.pointer (some ⟨b,0,none⟩)] w fun e w'=>e=.returned (.tuple #[])/\w'=w.setCell ⟨b,0,none⟩ (.pointer (some ⟨b,0,none⟩)):=by
 obtain⟨j,hj,hjs⟩:=Option.map_eq_some_iff.1 (show(O.info? 91).map (·.size)=some 2 by kernel_rfl)
 go_enter Tryz.func112,Tryz.ntmps112
 go_wp2
 rw[Lib.run_to_unsafe w ⟨b,0,none⟩ (show O.underlying 89=some (.pointer 91) by kernel_rfl) (show O.underlying 193=some .unsafePointer by kernel_rfl) hj (by rw[hjs];decide) hsh (Nat.zero_lt_succ 1)]
 simp only[Result.andThen];rw[Oper.upon_value]
 go_wp2
 rw[run_callFunc_extern Tryz.func164 (by kernel_rfl) (by kernel_rfl) (by kernel_rfl) (e:=Extern.AbiNoEscape.same) (by kernel_rfl)]
 rw[Lib.run_noEscape];simp only[Result.andThen];rw[Oper.upon_value]
 go_wp2
 rw[Lib.run_from_unsafe w ⟨b,0,none⟩ (show O.underlying 193=some .unsafePointer by kernel_rfl) (show O.underlying 89=some (.pointer 91) by kernel_rfl) hj hsh (by kernel_rfl)]
 simp only[Result.andThen];rw[Oper.upon_value]
 go_wp2
 go_end0
 exact⟨rfl,rfl⟩
theorem aqR:Cs O 112:=by
 intro b p v w hb hp;refine .inl ⟨enters_of Tryz.func112 (by kernel_rfl) rfl _ _,?_⟩
 rcases hp with rfl|rfl
 ·refine(anq b w (by rw[Lib.cell_of_heap hb];rfl) (by simp[World.shape?,hb];rfl) (by simp[World.frozen?,hb])).mono ?_
  rintro e w' ⟨rfl,rfl⟩;refine⟨rfl,?_⟩;rw[setCell_eq_setRow w b 0 _ _ _ _ hb];rfl
 ·refine(ao8 b w (by rw[Lib.cell_of_heap hb];rfl)).mono ?_
  rintro e w' ⟨rfl,rfl⟩;exact⟨rfl,(setRow_self w' b _ _ _ hb).symm⟩
section
variable {P:Program}(w:World)
theorem N9:∀(xs:List Int) (a:Addr) (acc:ByteArray),(∀j x,xs[j]? =some x->w.cell? (a.add j)=some (.int .u8 x))->
  (loadBytes a acc xs.length).run P w=.ok ⟨acc.data++(strOf xs).toArray⟩ w
 |[],a,acc,_=>by simp[loadBytes,strOf]
 |x::l,a,acc,h=>by
  have h0:w.cell? a=some (.int .u8 x):=by
   have:=h 0 x rfl;simpa[Addr.add] using this
  have ih:=N9 l (a.add 1) (acc.push (UInt8.ofNat x.toNat)) (fun j y hy=>by
   have:=h (j+1) y (by simpa using hy)
   have e:(a.add 1).add j=a.add (j+1):=by
    unfold Addr.add;by_cases hj:j=0
    ·subst hj;simp
    ·simp[hj];omega
   rw[e];exact this)
  have hx:(x.toNat).toUInt8=UInt8.ofNat x.toNat:=rfl;simp only[List.length_cons,loadBytes,Sem.run_bind,run_load,h0,Result.andThen,hx];rw[ih];congr 1
  apply ByteArray.ext;simp[ByteArray.push,strOf]
theorem adZ(pt it ty e:TypeId)(hp:P.underlying pt=some (.pointer e))(hc:P.cellsOf e=1)(g cells:Nat)(hsh:w.shape? g=some (e,cells))(l:List Int)(h0:l≠[])(hn:l.length<=cells)(h63:l.length<=9223372036854775807)
  (hcell:∀j x,l[j]? =some x->w.cell? ((⟨g,0,none⟩:Addr).add j)=some (.int .u8 x)):
  (Builtin.unsafeString_ #[pt,it] ty #[.pointer (some ⟨g,0,none⟩),.int .i64 l.length]).run P w=.ok (.string ⟨(strOf l).toArray⟩) (w.freeze ⟨g,0,none⟩ l.length):=by
 have hl:l.length≠0:=by simpa using h0
 have hlb:=N9 (P:=P) w l ⟨g,0,none⟩ .empty hcell;have hlies:=Lib.liesAt_bytes (P:=P) hc (cells/P.cellsOf e) l.length (by rw[hc];simpa using hn)
 have h63':¬(9223372036854775807:Int)<(l.length:Int):=by omega
 have hmax:IntKind.i64.max=9223372036854775807:=rfl;have hneg:¬(l.length:Int)<0:=by omega
 change Sem.run P (bind (asInt (.int .i64 (l.length:Int))) _) w=_;simp[asInt,asIntOf,hmax,h63',hneg,hl,variablesAt,hsh,elemOf,run_underlying hp,hlies,hlb]
theorem af4(a:Addr)(n:Nat):(w.freeze a n).os=w.os/\(w.freeze a n).tape=w.tape/\(w.freeze a n).output=w.output/\(w.freeze a n).heap.size=w.heap.size/\
  (∀c,c≠a.block->(w.freeze a n).heap[c]? =w.heap[c]?)/\∀cur e fz,w.heap[a.block]? =some (.cells cur e fz)->∃fz',(w.freeze a n).heap[a.block]? =some (.cells cur e fz'):=by
 unfold World.freeze;split
 ·exact⟨rfl,rfl,rfl,rfl,fun _ _=>rfl,fun cur e fz h=>⟨fz,h⟩⟩
 ·refine⟨rfl,rfl,rfl,by simp,fun c hc=>?_,fun cur e fz h=>?_⟩
  ·simp only[Array.getElem?_modify];rw[if_neg (by omega)]
  ·simp only[Array.getElem?_modify,if_true,h,Option.map_some];exact⟨_,rfl⟩
end
abbrev qM(w:World)(v:Value)(xs:List Int)(e:Ending)(w':World):Prop:=e=.returned (.string ⟨(strOf xs).toArray⟩)/\w'.os=w.os/\w'.tape=w.tape/\w'.output=w.output/\w.heap.size<=w'.heap.size/\
   (∀c,c<w.heap.size->bQ v≠some c->w'.heap[c]? =w.heap[c]?)/\∀c cur e fz,bQ v=some c->w.heap[c]? =some (.cells cur e fz)->∃fz',w'.heap[c]? =some (.cells cur e fz')
set_option maxHeartbeats 2000000 in
theorem aqT(b:Nat)(p:Value)(T:TypeId)(w:World)(hbk:w.heap[b]? =some (.cells #[p,.slice none 0 0] T (0,0))):
  Calls O 65 #[.pointer (some ⟨b,0,none⟩)] w (qM w (.slice none 0 0) []):=by
 have hUS:∀W q,(Builtin.unsafeString_ #[144,3] 9 #[.pointer q,.int .i64 0]).run O W=.ok (.string .empty) W:=fun W q=>Lib.run_unsafeString_none W _ _ _ q
 have c1:w.drew.cell? ⟨b,1,none⟩=some (.slice none 0 0):=by
  have:w.drew.heap[b]? =some (.cells #[p,.slice none 0 0] T (0,0)):=hbk;rw[Lib.cell_of_heap this];rfl
 have mixed:O.follows .mixedOrders=true:=by kernel_rfl
 have hSD:(Builtin.unsafeSliceData_ #[52] 144 #[.slice none 0 0]).run O w.drew=.ok (.pointer none) w.drew:=rfl;go_enter Tryz.func65,Tryz.ntmps65
 go_wp2
 go_region_o
 all_goals(go_wp2;go_ret;exact⟨rfl,rfl,rfl,rfl,Nat.le_refl _,fun _ _ _=>rfl,fun c cur e fz h=>by cases h⟩)
set_option maxHeartbeats 2000000 in
theorem alb(b g:Nat)(p:Value)(T:TypeId)(cur:Array Value)(w:World)(hbk:w.heap[b]? =some (.cells #[p,.slice (some ⟨g,0,none⟩) 0 0] T (0,0)))(fz:Nat×Nat)(hg:w.heap[g]? =some (.cells cur 5 fz)):
  Calls O 65 #[.pointer (some ⟨b,0,none⟩)] w (qM w (.slice (some ⟨g,0,none⟩) 0 0) []):=by
 have hUS:∀W q,(Builtin.unsafeString_ #[144,3] 9 #[.pointer q,.int .i64 0]).run O W=.ok (.string .empty) W:=fun W q=>Lib.run_unsafeString_none W _ _ _ q
 have hlt:b<w.heap.size:=(Array.getElem?_eq_some_iff.1 hbk).1;have c1:w.drew.cell? ⟨b,1,none⟩=some (.slice (some ⟨g,0,none⟩) 0 0):=by
  have:w.drew.heap[b]? =some (.cells #[p,.slice (some ⟨g,0,none⟩) 0 0] T (0,0)):=hbk;rw[Lib.cell_of_heap this];rfl
 have mixed:O.follows .mixedOrders=true:=by kernel_rfl
 have t144:O.underlying 144=some (.pointer 5):=by kernel_rfl
 have hSD:(Builtin.unsafeSliceData_ #[52] 144 #[.slice (some ⟨g,0,none⟩) 0 0]).run O w.drew=.ok (.pointer (some ⟨w.drew.heap.size,0,none⟩)) (w.drew.alloc (.view ⟨g,0,none⟩ 5)):=
  Lib.run_unsafeSliceData_zero w.drew _ _ 5 t144 ⟨g,0,none⟩ 0 (5,cur.size) (by have hg':w.drew.heap[g]? =some (.cells cur 5 fz):=hg;simp[World.shape?,hg'])
 have c2:(w.drew.alloc (.view ⟨g,0,none⟩ 5)).cell? ⟨b,1,none⟩=some (.slice (some ⟨g,0,none⟩) 0 0):=by
  have:(w.drew.alloc (.view ⟨g,0,none⟩ 5)).heap[b]? =_:=(Lib.alloc_old w.drew _ b hlt).trans hbk;rw[Lib.cell_of_heap this];rfl
 have c3:(w.alloc (.view ⟨g,0,none⟩ 5)).drew.cell? ⟨b,1,none⟩=some (.slice (some ⟨g,0,none⟩) 0 0):=c2;have c0:w.cell? ⟨b,1,none⟩=some (.slice (some ⟨g,0,none⟩) 0 0):=c1;have fin:qM w (.slice (some ⟨g,0,none⟩) 0 0) [] (.returned (.string .empty)) (w.drew.alloc (.view ⟨g,0,none⟩ 5)):=by
  refine⟨rfl,rfl,rfl,rfl,by simp,fun c hc _=>Lib.alloc_old w.drew _ c hc,fun c cur' e fz' h h2=>?_⟩
  cases h;exact⟨fz',(Lib.alloc_old w.drew _ g (Array.getElem?_eq_some_iff.1 hg).1).trans h2⟩
 go_enter Tryz.func65,Tryz.ntmps65
 go_wp2
 go_region_o
 all_goals(go_wp2;go_ret;exact fin)
set_option maxHeartbeats 2000000 in
theorem ao5(b g cap:Nat)(p:Value)(T:TypeId)(w:World)(hc0:cap≠0)(hbk:w.heap[b]? =some (.cells #[p,.slice (some ⟨g,0,none⟩) 0 cap] T (0,0))):
  Calls O 65 #[.pointer (some ⟨b,0,none⟩)] w (qM w (.slice (some ⟨g,0,none⟩) 0 cap) []):=by
 have hUS:∀W q,(Builtin.unsafeString_ #[144,3] 9 #[.pointer q,.int .i64 0]).run O W=.ok (.string .empty) W:=fun W q=>Lib.run_unsafeString_none W _ _ _ q
 have c1:w.drew.cell? ⟨b,1,none⟩=some (.slice (some ⟨g,0,none⟩) 0 cap):=by
  have:w.drew.heap[b]? =some (.cells #[p,.slice (some ⟨g,0,none⟩) 0 cap] T (0,0)):=hbk;rw[Lib.cell_of_heap this];rfl
 have mixed:O.follows .mixedOrders=true:=by kernel_rfl
 have hSD:(Builtin.unsafeSliceData_ #[52] 144 #[.slice (some ⟨g,0,none⟩) 0 cap]).run O w.drew=.ok (.pointer (some ⟨g,0,none⟩)) w.drew:=
  Lib.run_unsafeSliceData_row _ _ _ _ _ _ hc0
 clear hc0;go_enter Tryz.func65,Tryz.ntmps65
 go_wp2
 go_region_o
 all_goals(go_wp2;go_ret;exact⟨rfl,rfl,rfl,rfl,Nat.le_refl _,fun _ _ _=>rfl,fun c cur e fz h h2=>⟨fz,h2⟩⟩)
set_option maxHeartbeats 2000000 in
theorem aqS(b g cap:Nat)(p:Value)(T:TypeId)(cur:Array Value)(fz:Nat×Nat)(xs:List Int)(w:World)(h0:xs≠[])(hbk:w.heap[b]? =some (.cells #[p,.slice (some ⟨g,0,none⟩) xs.length cap] T (0,0)))
  (hg:w.heap[g]? =some (.cells cur 5 fz)) (hnc:xs.length<=cap) (hcm:cap<=maxLen) (hcs:cur.size=cap) (htk:cur.toList.take xs.length=xs.map (Value.int .u8)):
  Calls O 65 #[.pointer (some ⟨b,0,none⟩)] w (qM w (.slice (some ⟨g,0,none⟩) xs.length cap) xs):=by
 have hl0:xs.length≠0:=by simpa using h0
 have c1:w.drew.cell? ⟨b,1,none⟩=some (.slice (some ⟨g,0,none⟩) xs.length cap):=by
  have:w.drew.heap[b]? =some (.cells #[p,.slice (some ⟨g,0,none⟩) xs.length cap] T (0,0)):=hbk;rw[Lib.cell_of_heap this];rfl
 have mixed:O.follows .mixedOrders=true:=by kernel_rfl
 have t144:O.underlying 144=some (.pointer 5):=by kernel_rfl
 have hg':w.drew.heap[g]? =some (.cells cur 5 fz):=hg;have hSD:(Builtin.unsafeSliceData_ #[52] 144 #[.slice (some ⟨g,0,none⟩) xs.length cap]).run O w.drew=.ok (.pointer (some ⟨g,0,none⟩)) w.drew:=
  Lib.run_unsafeSliceData_row _ _ _ _ _ _ (by omega)
 have hUS:(Builtin.unsafeString_ #[144,3] 9 #[.pointer (some ⟨g,0,none⟩),.int .i64 xs.length]).run O w.drew=.ok (.string ⟨(strOf xs).toArray⟩) (w.drew.freeze ⟨g,0,none⟩ xs.length):=by
  refine adZ w.drew 144 3 9 5 t144 (by kernel_rfl) g cur.size (by simp[World.shape?,hg']) xs h0 (by omega) (by unfold maxLen at hcm;omega) ?_
  intro j x hx;rw[gV,Nat.zero_add,cell_of_row w.drew g j cur 5 fz hg'];have hj:j<xs.length:=(List.getElem?_eq_some_iff.1 hx).1;have:=congrArg (fun l=>l[j]?) htk
  simp only[List.getElem?_take,List.getElem?_map,hx,Option.map_some,hj,if_true] at this;simpa using this
 have fin:qM w (.slice (some ⟨g,0,none⟩) xs.length cap) xs (.returned (.string ⟨(strOf xs).toArray⟩)) (w.drew.freeze ⟨g,0,none⟩ xs.length):=by
  obtain⟨f1,f2,f3,f4,f5,f6⟩:=af4 w.drew ⟨g,0,none⟩ xs.length;refine⟨rfl,f1,f2,f3,Nat.le_of_eq f4.symm,fun c _ hc=>f5 c fun e=>hc (by rw[e];rfl),fun c cur' e fz' h h2=>?_⟩
  cases h;exact f6 cur' e fz' h2
 clear htk hg' hg hcs hcm hnc hl0 h0;go_enter Tryz.func65,Tryz.ntmps65
 go_wp2
 go_region_o
 all_goals(go_wp2;go_ret;exact fin)
theorem atx:CO O 65:=by
 intro b p v T xs w hb hrow;refine .inl ⟨enters_of Tryz.func65 (by kernel_rfl) rfl _ _,?_⟩
 have key:Calls O 65 #[.pointer (some ⟨b,0,none⟩)] w (qM w v xs):=by
  rcases hrow.2 with⟨rfl,h0⟩|⟨g,cap,cur,fz,rfl,hu,hg,hnc,hcm,hcs,htk⟩
  ·have:xs=[]:=List.eq_nil_of_length_eq_zero h0;subst this;exact aqT b p T w hb
  ·by_cases h0:xs=[]
   ·subst h0;by_cases hc:cap=0
    ·subst hc;exact alb b g p T cur w hb fz hg
    ·exact ao5 b g cap p T w hc hb
   ·exact aqS b g cap p T cur fz xs w h0 hb hg hnc hcm (by simpa using hcs) (by simpa using htk)
 refine key.mono fun e w' h=>?_
 obtain⟨rfl,h⟩:=h;exact⟨rfl,h⟩
theorem ayj:Dl 0 .u32 iF:=akO (by simp[kW]) fun w h=>h.1
theorem aA9:WS O ad:=⟨alw (Si (by kernel_rfl)),by kernel_rfl,fun p h=>by
 simp only[ad,List.mem_cons,List.not_mem_nil,or_false] at h;subst h;exact asi,fun g h=>by
 simp only[ad,List.mem_cons,List.not_mem_nil,or_false] at h;subst h;exact asN,fun g h=>by
 simp only[ad,List.mem_cons,List.not_mem_nil,or_false] at h;subst h;exact aqR,fun g h=>by
 simp only[ad,List.mem_cons,List.not_mem_nil,or_false] at h;subst h;exact atx,fun p h=>by
 simp only[ad,List.mem_cons,List.not_mem_nil,or_false] at h;subst h;exact ayj⟩
theorem aV{L:a_}(h:Ds O L):aQ O (aW ad L):=ani aA9 h
theorem g0:aQ O (aW ad []):=aV ⟨⟩
abbrev SZ:Shape:=⟨[aj 0,ag 1],[],53⟩
abbrev SC:List aP:=[(.norm,⟨[aj 0,ag 1,ao 24],[],53⟩)]
noncomputable def Bc(y:SZ.J):Option (aB SC):=
 bif(!(y.1.1==([]:B))) then
 bif(!(decide ((y.1.1.length:Int)>(9:Int)))) then
 bif(decide ((y.1.1.length:Int)>(1:Int))) then
(aO y.1.1 (0:Int)).bind fun a=>
 some ((y.1.1,y.1.2.1,((a.toNat:Int)==(48:Int)),()),())
else
 some ((y.1.1,y.1.2.1,false,()),())
else
 some ((y.1.1,y.1.2.1,true,()),())
else
 some ((y.1.1,y.1.2.1,true,()),())
theorem amE:aS O (am (codeOf Tryz.f115) 1 12) (aU SZ SC Bc):=cd g0 (by kernel_rfl) ae fun y=>by kernel_rfl
abbrev Pe:Shape:=⟨[aj 0,ag 1,ag 6,ag 7,ag 26,ag 27],[],53⟩
abbrev O9:List aP:=[(.norm,⟨[aj 0,ag 1,ag 6,ag 7,ag 26,ag 27,ao 39],[],53⟩)]
noncomputable def yD(y:Pe.J):Option (aB O9):=
(aO y.1.1 y.1.2.2.2.1).bind fun a=>
 bif(!(decide ((a.toNat:Int)<(48:Int)))) then
(aO y.1.1 y.1.2.2.2.1).bind fun b=>
 some ((y.1.1,y.1.2.1,y.1.2.2.1,y.1.2.2.2.1,y.1.2.2.2.2.1,y.1.2.2.2.2.2.1,(decide ((b.toNat:Int)>(57:Int))),()),())
else
 some ((y.1.1,y.1.2.1,y.1.2.2.1,y.1.2.2.2.1,y.1.2.2.2.2.1,y.1.2.2.2.2.2.1,true,()),())
theorem agL:aS O (am (c4 (am (codeOf Tryz.f115) 1 122)) 244 31332) (aU Pe O9 yD):=cd g0 (by kernel_rfl) ae fun y=>by kernel_rfl
abbrev zx:Shape:=⟨[aj 0,ag 1,ag 6,ag 26,ag 27],[],53⟩
abbrev Gs:List aP:=[(.ret,⟨[ag 4,ao 5],[],53⟩),(.exit 0,⟨[ag 1,ag 6],[],53⟩)]
noncomputable def qx(y:zx.J):bG zx Gs:=
 bif(decide (y.1.2.2.2.2.1<y.1.2.2.2.1)) then
(yD ((y.1.1,y.1.2.1,y.1.2.2.1,y.1.2.2.2.2.1,y.1.2.2.2.1,y.1.2.2.2.2.1,()),())).bind fun a=>
 bif a.1.2.2.2.2.2.2.1 then
 some (.inr (.inl (((0:Int),false,()),())))
else
(aO a.1.1 a.1.2.2.2.1).bind fun b=>
 some (.inl ((a.1.1,a.1.2.1,(IntKind.i64.wrap ((IntKind.i64.wrap (a.1.2.2.1*(10:Int)))+(IntKind.i64.wrap (IntKind.u8.wrap ((b.toNat:Int)-(48:Int)))))),a.1.2.2.2.2.1,(IntKind.i64.wrap (a.1.2.2.2.2.2.1+(1:Int))),()),()))
else
 some (.inr (.inr ((y.1.2.1,y.1.2.2.1,()),())))
noncomputable def sB:zx.J->Option (aB Gs):=br qx
theorem akm:aS O (am (codeOf Tryz.f115) 1 122) (aU zx Gs sB):=bH g0 (by kernel_rfl) (a7 agL ae) fun y=>by kernel_rfl
abbrev i115:Shape:=⟨[aj 0,ag 1],[],53⟩
abbrev YX:Shape:=⟨[ag 4,ao 5],[],53⟩
noncomputable def f115(a:i115.J):Option YX.J:=
(Bc ((a.1.1,a.1.2.1,()),())).bind fun b=>
 bif b.1.2.2.1 then
 some (((0:Int),false,()),())
else
(sB ((b.1.1,b.1.2.1,(0:Int),(b.1.1.length:Int),(0:Int),()),())).bind fun c=>
(match c with
|.inl d=>
 some ((d.1.1,d.1.2.1,()),())
|.inr e=>
 bif(decide (e.1.2.1>e.1.1)) then
 some (((0:Int),false,()),())
else
 some ((e.1.2.1,true,()),()))
noncomputable def Di:aD:=aG ad Tryz.f115 i115 YX [] f115
theorem Kj:aA O 115 Di:=aK g0 Tryz.func115 (by kernel_rfl) (a7 amE (a7 akm ae)) (fun y=>by kernel_rfl) fun a=>by kernel_rfl
abbrev Ru:Shape:=⟨[aj 0,ag 3,ag 4],[],47⟩
abbrev Rb:List aP:=[(.norm,⟨[aj 0,ag 3,ag 4,ao 24],[],47⟩)]
noncomputable def G0(y:Ru.J):Option (aB Rb):=
(aO y.1.1 y.1.2.2.1).bind fun a=>
 bif(!(decide ((a.toNat:Int)<(48:Int)))) then
(aO y.1.1 y.1.2.2.1).bind fun b=>
 bif(!(decide ((b.toNat:Int)>(57:Int)))) then
 some ((y.1.1,y.1.2.1,y.1.2.2.1,(decide (y.1.2.2.1>=(6:Int))),()),())
else
 some ((y.1.1,y.1.2.1,y.1.2.2.1,true,()),())
else
 some ((y.1.1,y.1.2.1,y.1.2.2.1,true,()),())
theorem ajR:aS O (am (c4 (am (codeOf Tryz.f74) 1 58)) 116 3728) (aU Ru Rb G0):=cd g0 (by kernel_rfl) ae fun y=>by kernel_rfl
abbrev BF:Shape:=⟨[aj 0,ag 3,ag 4],[],47⟩
abbrev Jc:List aP:=[(.ret,⟨[ag 2],[],47⟩),(.exit 0,⟨[aj 0,ag 3],[],47⟩)]
noncomputable def B6(y:BF.J):bG BF Jc:=
 bif(decide (y.1.2.2.1<(y.1.1.length:Int))) then
(G0 ((y.1.1,y.1.2.1,y.1.2.2.1,()),())).bind fun a=>
 bif a.1.2.2.2.1 then
 some (.inr (.inl ((((-1):Int),()),())))
else
(aO a.1.1 a.1.2.2.1).bind fun b=>
 some (.inl ((a.1.1,(IntKind.i64.wrap ((IntKind.i64.wrap (a.1.2.1*(10:Int)))+(IntKind.i64.wrap (IntKind.u8.wrap ((b.toNat:Int)-(48:Int)))))),(IntKind.i64.wrap (a.1.2.2.1+(1:Int))),()),()))
else
 some (.inr (.inr ((y.1.1,y.1.2.1,()),())))
noncomputable def JB:BF.J->Option (aB Jc):=br B6
theorem aoh:aS O (am (codeOf Tryz.f74) 1 58) (aU BF Jc JB):=bH g0 (by kernel_rfl) (a7 ajR ae) fun y=>by kernel_rfl
abbrev Ug:Shape:=⟨[aj 0,ag 3],[],47⟩
abbrev T6:List aP:=[(.norm,⟨[ag 3,ao 45],[],47⟩)]
noncomputable def JL(y:Ug.J):Option (aB T6):=
 bif(!((y.1.1.length:Int)==(0:Int))) then
 bif(decide ((y.1.1.length:Int)>(1:Int))) then
(aO y.1.1 (0:Int)).bind fun a=>
 some ((y.1.2.1,((a.toNat:Int)==(48:Int)),()),())
else
 some ((y.1.2.1,false,()),())
else
 some ((y.1.2.1,true,()),())
theorem aog:aS O (am (codeOf Tryz.f74) 1 60) (aU Ug T6 JL):=cd g0 (by kernel_rfl) ae fun y=>by kernel_rfl
abbrev i74:Shape:=⟨[aj 0],[],47⟩
abbrev aa2:Shape:=⟨[ag 2],[],47⟩
noncomputable def f74(a:i74.J):Option aa2.J:=
(JB ((a.1.1,(0:Int),(0:Int),()),())).bind fun b=>
(match b with
|.inl c=>
 some ((c.1.1,()),())
|.inr d=>
(JL ((d.1.1,d.1.2.1,()),())).bind fun e=>
 bif e.1.2.1 then
 some ((((-1):Int),()),())
else
 some ((e.1.1,()),()))
noncomputable def D9:aD:=aG ad Tryz.f74 i74 aa2 [] f74
theorem LI:aA O 74 D9:=aK g0 Tryz.func74 (by kernel_rfl) (a7 aoh (a7 aog ae)) (fun y=>by kernel_rfl) fun a=>by kernel_rfl
abbrev i75:Shape:=⟨[ag 0,ag 1,ag 2],[],15⟩
abbrev aa1:Shape:=⟨[ao 6],[],15⟩
noncomputable def f75(a:i75.J):Option aa1.J:=
 bif(decide (a.1.1>=a.1.2.1)) then
 some (((decide (a.1.1<=a.1.2.2.1)),()),())
else
 some ((false,()),())
noncomputable def oL:aD:=aG ad Tryz.f75 i75 aa1 [] f75
theorem z75:aA O 75 oL:=aK g0 Tryz.func75 (by kernel_rfl) ae (fun y=>by kernel_rfl) fun a=>by kernel_rfl
noncomputable abbrev ay4:a_:=[(75,oL)]
theorem Eh:aQ O (aW ad ay4):=aV ⟨z75,⟨⟩⟩
abbrev SI:Shape:=⟨[aj 0,ag 3],[],42⟩
abbrev Sm:List aP:=[(.norm,⟨[aj 0,ag 3,ao 4],[],42⟩)]
noncomputable def IK(y:SI.J):Option (aB Sm):=
(aO y.1.1 y.1.2.1).bind fun a=>
 bif(decide ((a.toNat:Int)>=(97:Int))) then
(aO y.1.1 y.1.2.1).bind fun b=>
 some ((y.1.1,y.1.2.1,(decide ((b.toNat:Int)<=(122:Int))),()),())
else
 some ((y.1.1,y.1.2.1,false,()),())
theorem alE:aS O (am (c4 (am (codeOf Tryz.f87) 1 26)) 52 840) (aU SI Sm IK):=cd Eh (by kernel_rfl) ae fun y=>by kernel_rfl
abbrev Rs:Shape:=⟨[aj 0,ag 3,ao 4],[],42⟩
abbrev Q':List aP:=[(.norm,⟨[aj 0,ag 3,ao 38],[],42⟩)]
noncomputable def GZ(y:Rs.J):Option (aB Q'):=
 bif(!y.1.2.2.1) then
 bif(!(y.1.2.1==(0:Int))) then
(aO y.1.1 y.1.2.1).bind fun a=>
 bif(!(decide ((a.toNat:Int)<(48:Int)))) then
(aO y.1.1 y.1.2.1).bind fun b=>
 some ((y.1.1,y.1.2.1,(decide ((b.toNat:Int)>(57:Int))),()),())
else
 some ((y.1.1,y.1.2.1,true,()),())
else
 some ((y.1.1,y.1.2.1,true,()),())
else
 some ((y.1.1,y.1.2.1,false,()),())
theorem ajP:aS O (am (c4 (am (codeOf Tryz.f87) 1 26)) 52 1682) (aU Rs Q' GZ):=cd Eh (by kernel_rfl) ae fun y=>by kernel_rfl
abbrev BE:Shape:=⟨[aj 0,ag 3],[],42⟩
abbrev Jb:List aP:=[(.ret,⟨[ao 2],[],42⟩),(.exit 0,⟨[aj 0],[],42⟩)]
noncomputable def B5(y:BE.J):bG BE Jb:=
 bif(decide (y.1.2.1<(y.1.1.length:Int))) then
(IK ((y.1.1,y.1.2.1,()),())).bind fun a=>
(GZ ((a.1.1,a.1.2.1,a.1.2.2.1,()),())).bind fun b=>
 bif b.1.2.2.1 then
 some (.inr (.inl ((false,()),())))
else
 some (.inl ((b.1.1,(IntKind.i64.wrap (b.1.2.1+(1:Int))),()),()))
else
 some (.inr (.inr ((y.1.1,()),())))
noncomputable def JA:BE.J->Option (aB Jb):=br B5
theorem aoe:aS O (am (codeOf Tryz.f87) 1 26) (aU BE Jb JA):=bH Eh (by kernel_rfl) (a7 alE (a7 ajP ae)) fun y=>by kernel_rfl
abbrev i87:Shape:=⟨[aj 0],[],42⟩
abbrev aaW:Shape:=⟨[ao 2],[],42⟩
noncomputable def f87(a:i87.J):Option aaW.J:=
(JA ((a.1.1,(0:Int),()),())).bind fun b=>
(match b with
|.inl c=>
 some ((c.1.1,()),())
|.inr d=>
(f75 (((d.1.1.length:Int),(1:Int),(10:Int),()),())).bind fun e=>
 some ((e.1.1,()),()))
noncomputable def M5:aD:=aG ad Tryz.f87 i87 aaW [] f87
theorem z87:aA O 87 M5:=aK Eh Tryz.func87 (by kernel_rfl) (a7 aoe ae) (fun y=>by kernel_rfl) fun a=>by kernel_rfl
abbrev Ue:Shape:=⟨[aj 0],[],49⟩
abbrev T4:List aP:=[(.norm,⟨[aj 0,ao 20],[],49⟩)]
noncomputable def JK(y:Ue.J):Option (aB T4):=
 bif(!(y.1.1==([]:B))) then
 bif(!(decide ((y.1.1.length:Int)>(10:Int)))) then
(aO y.1.1 (0:Int)).bind fun a=>
 bif(!(decide ((a.toNat:Int)<(97:Int)))) then
(aO y.1.1 (0:Int)).bind fun b=>
 some ((y.1.1,(decide ((b.toNat:Int)>(122:Int))),()),())
else
 some ((y.1.1,true,()),())
else
 some ((y.1.1,true,()),())
else
 some ((y.1.1,true,()),())
theorem an8:aS O (am (codeOf Tryz.f99) 1 12) (aU Ue T4 JK):=cd g0 (by kernel_rfl) ae fun y=>by kernel_rfl
abbrev Rr:Shape:=⟨[aj 0,ag 3,ag 22,ag 23],[],49⟩
abbrev Q_:List aP:=[(.norm,⟨[aj 0,ag 22,ag 23,ao 47],[],49⟩)]
noncomputable def GY(y:Rr.J):Option (aB Q_):=
(aO y.1.1 y.1.2.1).bind fun a=>
 bif(!(decide ((a.toNat:Int)<(97:Int)))) then
(aO y.1.1 y.1.2.1).bind fun b=>
 bif(decide ((b.toNat:Int)>(122:Int))) then
(aO y.1.1 y.1.2.1).bind fun c=>
 bif(!(decide ((c.toNat:Int)<(48:Int)))) then
(aO y.1.1 y.1.2.1).bind fun d=>
 some ((y.1.1,y.1.2.2.1,y.1.2.2.2.1,(decide ((d.toNat:Int)>(57:Int))),()),())
else
 some ((y.1.1,y.1.2.2.1,y.1.2.2.2.1,true,()),())
else
 some ((y.1.1,y.1.2.2.1,y.1.2.2.2.1,false,()),())
else
(aO y.1.1 y.1.2.1).bind fun e=>
 bif(!(decide ((e.toNat:Int)<(48:Int)))) then
(aO y.1.1 y.1.2.1).bind fun f=>
 some ((y.1.1,y.1.2.2.1,y.1.2.2.2.1,(decide ((f.toNat:Int)>(57:Int))),()),())
else
 some ((y.1.1,y.1.2.2.1,y.1.2.2.2.1,true,()),())
theorem ajO:aS O (am (c4 (am (codeOf Tryz.f99) 1 58)) 116 7474) (aU Rr Q_ GY):=cd g0 (by kernel_rfl) ae fun y=>by kernel_rfl
abbrev Bx:Shape:=⟨[aj 0,ag 22,ag 23],[],49⟩
abbrev I8:List aP:=[(.ret,⟨[ao 2],[],49⟩),(.exit 0,⟨[],[],49⟩)]
noncomputable def BZ(y:Bx.J):bG Bx I8:=
 bif(decide (y.1.2.2.1<y.1.2.1)) then
(GY ((y.1.1,y.1.2.2.1,y.1.2.1,y.1.2.2.1,()),())).bind fun a=>
 bif a.1.2.2.2.1 then
 some (.inr (.inl ((false,()),())))
else
 some (.inl ((a.1.1,a.1.2.1,(IntKind.i64.wrap (a.1.2.2.1+(1:Int))),()),()))
else
 some (.inr (.inr ((),())))
noncomputable def Ju:Bx.J->Option (aB I8):=br BZ
theorem an7:aS O (am (codeOf Tryz.f99) 1 58) (aU Bx I8 Ju):=bH g0 (by kernel_rfl) (a7 ajO ae) fun y=>by kernel_rfl
abbrev i99:Shape:=⟨[aj 0],[],49⟩
abbrev aaQ:Shape:=⟨[ao 2],[],49⟩
noncomputable def f99(a:i99.J):Option aaQ.J:=
(JK ((a.1.1,()),())).bind fun b=>
 bif b.1.2.1 then
 some ((false,()),())
else
(Ju ((b.1.1,(b.1.1.length:Int),(0:Int),()),())).bind fun c=>
(match c with
|.inl d=>
 some ((d.1.1,()),())
|.inr e=>
 some ((true,()),()))
noncomputable def M3:aD:=aG ad Tryz.f99 i99 aaQ [] f99
theorem aaA:aA O 99 M3:=aK g0 Tryz.func99 (by kernel_rfl) (a7 an8 (a7 an7 ae)) (fun y=>by kernel_rfl) fun a=>by kernel_rfl
def iU(b:UInt8):Bool:=decide ((97:Int)<=(b.toNat:Int))&&decide ((b.toNat:Int)<=122)
def cO(b:UInt8):Bool:=decide ((48:Int)<=(b.toNat:Int))&&decide ((b.toNat:Int)<=57)
def within(n cW hi:Int):Bool:=decide (cW<=n)&&decide (n<=hi)
theorem n_(a):f75 a=some ((within a.1.1 a.1.2.1 a.1.2.2.1,()),()):=by
 simp only[f75,within,ge_iff_le];cases decide (a.1.2.1<=a.1.1)<;>rfl
def iz(s:B):Bool:=allI (fun i x=>iU x||(!(i==0)&&cO x)) 0 s&&within s.length 1 10
theorem Q3(a)(hs:ar a.1.1.length):f87 a=some ((iz a.1.1,()),()):=by
 obtain⟨⟨s,u⟩,bV⟩:=a;have key:JA ((s,((0:Int),())),())=some (bif allI (fun i x=>iU x||(!(i==0)&&cO x)) 0 s then .inr ((s,()),()) else .inl ((false,()),())):=by
  refine fV B5 s (fun i=>((s,((i:Int),())),())) _ _ _ (fun i x hx=>?_) ?_
  ·have hi:=cT hx;have hw:ar i:=by unfold ar at*;simp only at hs;omega
   simp only[B5,ce hi,cond_true,IK,GZ,b4,hx,Option.bind_some,bU hw,ge_iff_le,ZA];unfold iU cO;by_cases h1:(97:Int)<=(x.toNat:Int)<;>by_cases h2:(x.toNat:Int)<=122<;>cases h3:(i==0)<;>by_cases aC:(48:Int)<=(x.toNat:Int)<;>by_cases bk:(x.toNat:Int)<=57<;>simp[h1,h2,h3,aC,bk,bU hw,b4,hx,ZA,oH,nH,-beq_iff_eq]
  ·simp only[B5,du,cond_false]
 simp only[f87,key,Option.bind_some];unfold iz;cases allI (fun i x=>iU x||(!(i==0)&&cO x)) 0 s with
 |false=>rfl
 |true=>simp only[cond_true,n_,Option.bind_some,Bool.true_and]
theorem OM(b:UInt8)(r:B):iz (b::r)=(iU b&&(b::r).all (fun x=>iU x||cO x)&&decide (((b::r).length:Int)<=10)):=by
 unfold iz;simp only[allI,List.all_cons];have:allI (fun i x=>iU x||(!(i==0)&&cO x)) (0+1) r=r.all (fun x=>iU x||cO x):=by
  have hz:∀(i:Nat) (x:UInt8),1<=i->x∈r->(iU x||(!(i==0)&&cO x))=(iU x||cO x):=by
   intro i x hi _;have:(i==0)=false:=by simp;omega
   rw[this];simp
  rw[Pz (mu:=fun _ x=>iU x||cO x) r 1 hz,gR]
 rw[this];unfold within;have:decide ((1:Int)<=((b::r).length:Int))=true:=by simp only[List.length_cons,decide_eq_true_eq];omega
 rw[this];cases iU b<;>simp
theorem Oe(a)(hs:ar a.1.1.length):f99 a=some ((iz a.1.1,()),()):=by
 obtain⟨⟨s,u⟩,bV⟩:=a;have key:Ju ((s,((s.length:Int),((0:Int),()))),())=some (bif allI (fun _ x=>iU x||cO x) 0 s then .inr ((),()) else .inl ((false,()),())):=by
  refine fV BZ s (fun i=>((s,((s.length:Int),((i:Int),()))),())) _ _ _ (fun i x hx=>?_) ?_
  ·have hi:=cT hx;have hw:ar i:=by unfold ar at*;simp only at hs;omega
   simp only[BZ,ce hi,cond_true,GY,b4,hx,Option.bind_some,bU hw,oH,nH];unfold iU cO;by_cases h1:(97:Int)<=(x.toNat:Int)<;>by_cases h2:(x.toNat:Int)<=122<;>by_cases aC:(48:Int)<=(x.toNat:Int)<;>by_cases bk:(x.toNat:Int)<=57<;>simp[h1,h2,aC,bk,bU hw,b4,hx,oH,nH]
  ·simp only[BZ,du,cond_false]
 rw[gR] at key;cases s with
 |nil=>rfl
 |cons b r=>
  have hb:aO (b::r) 0=some b:=rfl;simp only[f99,JK,hb,Option.bind_some,oH,nH,OM];have he:((b::r)==([]:B))=false:=rfl;have hl:iU b=(decide ((97:Int)<=(b.toNat:Int))&&decide ((b.toNat:Int)<=122)):=rfl;rw[he,hl];by_cases h1:(97:Int)<=(b.toNat:Int)<;>by_cases h2:(b.toNat:Int)<=122<;>by_cases h3:((b::r).length:Int)<=10<;>
   simp only[h1,h2,h3,decide_true,decide_false,Bool.not_true,Bool.not_false,cond_true,cond_false,Option.bind_some,Bool.true_and,Bool.and_true,Bool.false_and,Bool.and_false]
  rw[key];generalize List.all (b::r) (fun x=>iU x||cO x)=q
  cases q<;>rfl
def eg(n:Int)(b:UInt8):Int:=n*10+((b.toNat:Int)-48)
def db(s:B):Int:=s.foldl eg 0
def ii:B->Bool
 |b::_::_=>(b.toNat:Int)==48
 |_=>false
def fv(s:B):Bool:=s.all cO&&!(s==[])&&!ii s&&decide (s.length<=6)&&decide (db s<=999)
theorem iO{b:UInt8}(h:cO b=true):48<=(b.toNat:Int)/\(b.toNat:Int)<=57:=by
 simpa[cO] using h
theorem anR{b:UInt8}(h:cO b=true):IntKind.u8.wrap ((b.toNat:Int)-48)=(b.toNat:Int)-48:=by
 have:=iO h;rw[IntKind.wrap_u8];omega
theorem ER{n:Int}{b:UInt8}{i:Nat}(h:cO b=true)(h0:0<=n)(h1:n<10^i):0<=eg n b/\eg n b<10^(i+1):=by
 have:=iO h;unfold eg;rw[Int.pow_succ];omega
theorem amL{i:Nat}(h:i<=9):(10:Int)^i<=1000000000:=by
 have:i=0\/i=1\/i=2\/i=3\/i=4\/i=5\/i=6\/i=7\/i=8\/i=9:=by omega
 rcases this with rfl|rfl|rfl|rfl|rfl|rfl|rfl|rfl|rfl|rfl<;>decide
theorem Fy{n:Int}{b:UInt8}{i:Nat}(h:cO b=true)(hi:i<=8)(h0:0<=n)(h1:n<10^i):
  IntKind.i64.wrap (IntKind.i64.wrap (n*10)+IntKind.i64.wrap (IntKind.u8.wrap ((b.toNat:Int)-48)))=eg n b:=by
 have aa:=iO h;have hp:=amL (show i<=9 by omega)
 rw[anR h,cS (n:=n*10) (by omega) (by omega),cS (n:=(b.toNat:Int)-48) (by omega) (by omega),cS (by omega) (by omega)]
 rfl
theorem Hg(a)(hs:ar a.1.1.length):f74 a=some ((bif a.1.1.all cO&&decide (a.1.1.length<=6)&&!(a.1.1==[])&&!ii a.1.1 then db a.1.1 else-1,()),()):=by
 obtain⟨⟨s,u⟩,bV⟩:=a;have key:JB ((s,((0:Int),((0:Int),()))),())=some (bif allI (fun i x=>cO x&&decide (i<6)) 0 s then .inr ((s,(db s,())),()) else .inl ((((-1):Int),()),())):=by
  have:=l4 B6 s (fun i n=>((s,(n,((i:Int),()))),())) (fun i x n=>some (bif cO x&&decide (i<6) then .inl (eg n x) else .inr (.inl ((((-1):Int),()),())))) (fun n=>.inr ((s,(n,())),()))
   (fun i n=>0<=n/\n<10^i/\(i<=6)) (0:Int) ⟨by decide,by decide,by decide⟩ (fun i x n hx dq=>?_) (fun n _=>?_)
  ·exact this.trans (by rw[yq];rfl)
  ·have hi:=cT hx;have hw:ar i:=by unfold ar at*;simp only at hs;omega
   obtain⟨h0,h1,ca⟩:=dq;refine⟨?_,fun aN ak=>?_⟩
   ·simp only[B6,ce hi,cond_true,G0,b4,hx,Option.bind_some,bU hw,oH,nH,MU];have asX:decide ((6:Int)<=(i:Int))=!decide (i<6):=by by_cases h:i<6<;>simp[h]<;>omega
    rw[asX];cases aa:cO x with
    |false=>
     unfold cO at aa;by_cases aC:(48:Int)<=(x.toNat:Int)<;>by_cases bk:(x.toNat:Int)<=57<;>simp[aC,bk] at aa ⊢
    |true=>
     obtain⟨aC,bk⟩:=iO aa;cases az:decide (i<6) with
     |false=>simp[aC,bk]
     |true=>
      have az:i<6:=by simpa using az
      have:=Fy (i:=i) aa (by omega) h0 h1
      simp only[aC,bk,decide_true,Bool.not_true,Bool.not_false,cond_true,cond_false,Option.bind_some,b4,hx,this,bU hw,Bool.and_true,Option.map_some]
   ·simp only[Option.some.injEq] at ak;cases az:(cO x&&decide (i<6)) with
    |false=>rw[az] at ak;cases ak
    |true=>
     rw[az] at ak;simp only[cond_true,Sum.inl.injEq] at ak;simp only[Bool.and_eq_true,decide_eq_true_eq] at az;subst ak;have:=ER az.1 h0 h1;exact⟨this.1,this.2,by omega⟩
  ·simp only[B6,du,cond_false]
 rw[G',gR,anw] at key;simp only[f74,key,Option.bind_some];cases s with
 |nil=>rfl
 |cons b r=>
  have hb:aO (b::r) 0=some b:=rfl;have he:((b::r)==([]:B))=false:=rfl;have hz:(((b::r).length:Int)==0)=false:=by simp only[List.length_cons,beq_eq_false_iff_ne,ne_eq];omega
  have hl:decide (((b::r).length:Int)>1)=!(r==[]):=by cases r<;>simp;omega
  simp only[List.isEmpty_cons,Bool.false_or,Nat.zero_add,he,Bool.not_false,Bool.and_true];cases az:(List.all (b::r) cO&&decide ((b::r).length<=6)) with
  |false=>rfl
  |true=>
   simp only[cond_true,JL,hz,Bool.not_false,hl,hb,Option.bind_some,Bool.true_and];cases r with
   |nil=>rfl
   |cons c r=>
    have:((c::r)==([]:B))=false:=rfl;rw[this];simp only[Bool.not_false,cond_true,Option.bind_some,ii];cases ((b.toNat:Int)==48)<;>rfl
theorem ahn:∀(r:B) (n:Int) (k:Nat),r.all cO=true->0<=n->10^k<=n->10^(k+r.length)<=r.foldl eg n:=by
 intro r;induction r with
 |nil=>intro n k _ _ h;exact h
 |cons b r ih=>
  intro n k aa h0 h;simp only[List.all_cons,Bool.and_eq_true] at aa;have hb:=iO aa.1;have hs:10^(k+1)<=eg n b:=by unfold eg;rw[Int.pow_succ];omega
  have:=ih (eg n b) (k+1) aa.2 (by unfold eg;omega) hs
  simp only[List.length_cons,List.foldl_cons];rw[show k+(r.length+1)=k+1+r.length by omega]
  exact this
theorem akq{n:Nat}(h:6<=n):(1000000:Int)<=10^n:=by
 induction n with
 |zero=>omega
 |succ n ih=>
  by_cases ca:6<=n
  ·have:=ih ca;rw[Int.pow_succ];omega
  ·have:n=5:=by omega
   subst this;decide
theorem alq{s:B}(aa:s.all cO=true)(hl:ii s=false)(ia:7<=s.length):999<db s:=by
 match s,ia with
 |b::c::r,ia=>
  simp only[ii,beq_eq_false_iff_ne,ne_eq] at hl;simp only[List.all_cons,Bool.and_eq_true] at aa;have hb:=iO aa.1;have hc:=iO aa.2.1;have hs:(10:Int)^0<=eg 0 b:=by unfold eg;simp;omega
  have:=ahn (c::r) (eg 0 b) 0 (by simp[aa.2.1,aa.2.2]) (by unfold eg;omega) hs
  have h2:(1000000:Int)<=10^(0+(c::r).length):=akq (by simp only[List.length_cons] at ia ⊢;omega)
  show 999<List.foldl eg (eg 0 b) (c::r);omega
theorem ajb(a)(hs:ar a.1.1.length)(h':a.1.2.1=999):f115 a=some ((bif fv a.1.1 then db a.1.1 else 0,(fv a.1.1,())),()):=by
 obtain⟨⟨s,m,u⟩,bV⟩:=a;obtain rfl:m=999:=h';have key:s.length<=9->sB ((s,((999:Int),((0:Int),((s.length:Int),((0:Int),()))))),())=some (bif allI (fun i x=>cO x) 0 s then .inr (((999:Int),(db s,())),()) else .inl (((0:Int),(false,())),())):=by
  intro h';have:=l4 qx s (fun i n=>((s,((999:Int),(n,((s.length:Int),((i:Int),()))))),())) (fun i x n=>some (bif cO x then .inl (eg n x) else .inr (.inl (((0:Int),(false,())),())))) (fun n=>.inr (((999:Int),(n,())),()))
   (fun i n=>0<=n/\n<10^i/\(i<=9)) (0:Int) ⟨by decide,by decide,by decide⟩ (fun i x n hx dq=>?_) (fun n _=>?_)
  ·exact this.trans (by rw[yq];rfl)
  ·have hi:=cT hx;have hw:ar i:=by unfold ar at*;simp only at hs;omega
   obtain⟨h0,h1,ca⟩:=dq;refine⟨?_,fun aN ak=>?_⟩
   ·simp only[qx,ce hi,cond_true,yD,b4,hx,Option.bind_some,bU hw,oH,nH,MU];cases aa:cO x with
    |false=>
     unfold cO at aa;by_cases aC:(48:Int)<=(x.toNat:Int)<;>by_cases bk:(x.toNat:Int)<=57<;>simp[aC,bk] at aa ⊢
    |true=>
     obtain⟨aC,bk⟩:=iO aa;have:=Fy (i:=i) aa (by omega) h0 h1
     simp only[aC,bk,decide_true,Bool.not_true,Bool.not_false,cond_true,cond_false,Option.bind_some,b4,hx,this,bU hw,Bool.and_true,Option.map_some]
   ·simp only[Option.some.injEq] at ak;cases az:cO x with
    |false=>rw[az] at ak;cases ak
    |true=>
     rw[az] at ak;simp only[cond_true,Sum.inl.injEq] at ak;subst ak;have:=ER az h0 h1;exact⟨this.1,this.2,by omega⟩
  ·simp only[qx,du,cond_false]
 rw[gR] at key;cases s with
 |nil=>rfl
 |cons b r=>
  have hb:aO (b::r) 0=some b:=rfl;have he:((b::r)==([]:B))=false:=rfl;have hl:decide (((b::r).length:Int)>1)=!(r==[]):=by cases r<;>simp;omega
  have h':decide (((b::r).length:Int)>9)=!decide ((b::r).length<=9):=by by_cases h:(b::r).length<=9<;>simp only[h,decide_true,decide_false,Bool.not_true,Bool.not_false,decide_eq_true_eq,decide_eq_false_iff_not]<;>omega
  have qW:ii (b::r)=(!(r==[])&&(b.toNat:Int)==48):=by cases r<;>rfl
  simp only[f115,Bc,he,hl,h',Bool.not_false,cond_true,Bool.not_not,hb,Option.bind_some];have fin:(b::r).length<=9->ii (b::r)=false->((sB ((b::r,((999:Int),((0:Int),(((b::r).length:Int),((0:Int),()))))),())).bind fun Kq=>match Kq with
    |.inl wH=>some ((wH.1.1,(wH.1.2.1,())),())
    |.inr q6=>bif decide (q6.1.2.1>q6.1.1) then some (((0:Int),(false,())),()) else some ((q6.1.2.1,(true,())),()))=
    some ((bif fv (b::r) then db (b::r) else 0,(fv (b::r),())),()):=by
   intro h' j1;rw[key h'];unfold fv;rw[he,j1];cases aa:List.all (b::r) cO with
   |false=>rfl
   |true=>
    simp only[cond_true,Option.bind_some,Bool.not_false,Bool.true_and,nH];by_cases ca:(b::r).length<=6
    ·simp only[ca,decide_true,Bool.true_and];cases decide (db (b::r)<=999)<;>rfl
    ·have:=alq aa j1 (by omega)
     have:decide (db (b::r)<=999)=false:=by simp only[decide_eq_false_iff_not];omega
     rw[this];simp only[ca,decide_false,Bool.false_and];rfl
  by_cases az:(b::r).length<=9
  ·simp only[az,decide_true,cond_true];cases hr:(r==[]) with
   |true=>
    simp only[Bool.not_true,cond_false,Option.bind_some];exact fin az (by rw[qW,hr];rfl)
   |false=>
    simp only[Bool.not_false,cond_true,Option.bind_some];cases pW:((b.toNat:Int)==48) with
    |true=>
     have:fv (b::r)=false:=by unfold fv;rw[qW,hr,pW];simp
     rw[this];rfl
    |false=>
     simp only[cond_false];exact fin az (by rw[qW,hr,pW];rfl)
  ·have:fv (b::r)=false:=by
    unfold fv;have:decide ((b::r).length<=6)=false:=by simp only[decide_eq_false_iff_not];omega
    rw[this];simp
   simp only[az,decide_false,cond_false,Option.bind_some,cond_true,this]
abbrev zT:Shape:=⟨[aj 0,(1,.an (.d (.int .u8))),ag 2,ba 7 3000448,ag 8,ag 9],[a' 3000448 .str 7 0],43⟩
abbrev vo:List aP:=[(.exit 0,⟨[aj 0,ba 7 3000448,ag 8],[a' 3000448 .str 7 0],43⟩)]
noncomputable def o'(y:zT.J):bG zT vo:=
 bif(decide (y.1.2.2.2.2.2.1<(y.1.1.length:Int))) then
 bif(decide ((y.2.1.length:Int)<y.1.2.2.1)) then
(aO y.1.1 y.1.2.2.2.2.2.1).bind fun a=>
 bif((a.toNat:Int)==y.1.2.1) then
(bm y.1.1 y.1.2.2.2.2.1 y.1.2.2.2.2.2.1).bind fun b=>
(b9 16 y.2.1 ([b]:List B)).bind fun c=>
 some (.inl ((y.1.1,y.1.2.1,y.1.2.2.1,(),(IntKind.i64.wrap (y.1.2.2.2.2.2.1+(1:Int))),(IntKind.i64.wrap (y.1.2.2.2.2.2.1+(1:Int))),()),c,()))
else
 some (.inl ((y.1.1,y.1.2.1,y.1.2.2.1,(),y.1.2.2.2.2.1,(IntKind.i64.wrap (y.1.2.2.2.2.2.1+(1:Int))),()),y.2.1,()))
else
 some (.inr ((y.1.1,(),y.1.2.2.2.2.1,()),y.2.1,()))
else
 some (.inr ((y.1.1,(),y.1.2.2.2.2.1,()),y.2.1,()))
noncomputable def vz:zT.J->Option (aB vo):=br o'
theorem alI:aS O (am (codeOf Tryz.f73) 1 122) (aU zT vo vz):=bH g0 (by kernel_rfl) ae fun y=>by kernel_rfl
abbrev i73:Shape:=⟨[aj 0,(1,.an (.d (.int .u8))),ag 2],[],43⟩
abbrev aa3:Shape:=⟨[ba 6 3000384],[a' 3000384 .str 6 0],43⟩
noncomputable def f73(a:i73.J):Option aa3.J:=
(vz ((a.1.1,a.1.2.1,a.1.2.2.1,(),(0:Int),(0:Int),()),([]:List B),())).bind fun b=>
(bm b.1.1 b.1.2.2.1 (b.1.1.length:Int)).bind fun c=>
(b9 16 b.2.1 ([c]:List B)).bind fun d=>
 some (((),()),d,())
noncomputable def p0:aD:=aG ad Tryz.f73 i73 aa3 [] f73
theorem ri:aA O 73 p0:=aK g0 Tryz.func73 (by kernel_rfl) (a7 alI ae) (fun y=>by kernel_rfl) fun a=>by kernel_rfl
abbrev cj(n:Nat):Prop:=n<=2097152
theorem oY(c:UInt8):∀s,bF c s≠[]:=by
 intro s;induction s with
 |nil=>intro h;cases h
 |cons b r ih=>
  unfold bF;cases b==c with
  |true=>intro h;cases h
  |false=>
   simp only[cond_false];split<;>intro h<;>cases h
def tK(acc:B):List B->List B
 |x::xs=>(acc++x)::xs
 |[]=>[acc]
theorem RZ{L:List B}(h:L≠[]):tK [] L=L:=by
 cases L with
 |nil=>exact absurd rfl h
 |cons x xs=>rfl
theorem nS(c:UInt8):∀s,(bF c s).length<=s.length+1:=by
 intro s;induction s with
 |nil=>exact Nat.le_refl _
 |cons b r ih=>
  unfold bF;cases b==c with
  |true=>simpa using ih
  |false=>
   simp only[cond_false];split
   ·rename_i x xs h;rw[h] at ih;simp at ih ⊢;omega
   ·simp
theorem qg(c:UInt8):∀s x,x∈bF c s->x.length<=s.length:=by
 intro s;induction s with
 |nil=>intro x h;simp[bF] at h;simp[h]
 |cons b r ih=>
  intro x h;unfold bF at h;cases hb:b==c with
  |true=>
   rw[hb,cond_true] at h;rcases List.mem_cons.1 h with rfl|h
   ·simp
   ·have:=ih x h;simp;omega
  |false=>
   rw[hb,cond_false] at h;split at h
   ·rename_i y bj hy;rcases List.mem_cons.1 h with rfl|h
    ·have:=ih y (by rw[hy];exact List.mem_cons_self);simp;omega
    ·have:=ih x (by rw[hy];exact List.mem_cons_of_mem _ h);simp;omega
   ·simp at h;simp[h]
theorem ak5{bq:Type}(c:UInt8)(s:B)(fin:Nat×List B->bq):∀(r:B) (k:Nat) (q:Nat×List B),r=s.drop k->k<=s.length->q.1<=k->
  ∃fx,eT (fun i x (q:Nat×List B)=>some (.inl (bif(x.toNat:Int)==(c.toNat:Int) then(i+1,q.2++[(s.take i).drop q.1]) else q):Sum (Nat×List B) bq)) fin k r q=some (fin fx)/\fx.1<=s.length/\
   fx.2++[s.drop fx.1]=q.2++tK ((s.take k).drop q.1) (bF c r):=by
 intro r;induction r with
 |nil=>
  intro k q hr hk az;have hkl:k=s.length:=by
   have:=congrArg List.length hr;simp at this;omega
  refine⟨q,rfl,by omega,?_⟩
  rw[hkl,List.take_length];simp[bF,tK]
 |cons x r ih=>
  intro k q hr hk az;have hlt:k<s.length:=by
   have:=congrArg List.length hr;simp at this;omega
  have c_:r=s.drop (k+1):=by
   have:=congrArg List.tail hr;simpa using this
  have hx:s[k]? =some x:=by
   have:=congrArg (fun l=>l[0]?) hr
   simpa using this.symm
  simp only[eT];cases hc:((x.toNat:Int)==(c.toNat:Int)) with
  |true=>
   have Mc:x=c:=by
    simp only[beq_iff_eq] at hc;exact UInt8.toNat_inj.1 (by omega)
   simp only[cond_true];obtain⟨fx,h1,h2,h3⟩:=ih (k+1) (k+1,q.2++[(s.take k).drop q.1]) c_ hlt (Nat.le_refl _);refine⟨fx,h1,h2,h3.trans ?_⟩;have e1:(s.take (k+1)).drop (k+1)=[]:=List.drop_eq_nil_of_le (by rw[List.length_take];omega)
   simp only[e1];rw[RZ (oY c r)];subst Mc;have:bF x (x::r)=[]::bF x r:=by simp[bF]
   rw[this];simp[tK]
  |false=>
   have Mc:(x==c)=false:=by
    cases h:x==c with
    |false=>rfl
    |true=>rw[eq_of_beq h] at hc;simp at hc
   simp only[cond_false];obtain⟨fx,h1,h2,h3⟩:=ih (k+1) q c_ hlt (by omega)
   refine⟨fx,h1,h2,h3.trans ?_⟩;have e1:(s.take (k+1)).drop q.1=(s.take k).drop q.1++[x]:=by
    rw[List.take_add_one,hx];rw[List.drop_append_of_le_length (by rw[List.length_take];omega)]
    rfl
   rw[e1];have:bF c (x::r)=tK [x] (bF c r):=by
    rw[bF,Mc,cond_false];cases h:bF c r with
    |nil=>rfl
    |cons y bj=>rfl
   rw[this];cases h:bF c r with
   |nil=>exact absurd h (oY c r)
   |cons y bj=>simp[tK]
theorem vm(c:UInt8)(a)(hs:cj a.1.1.length)(hb:a.1.2.1=(c.toNat:Int))(hm:a.1.2.2.1=((a.1.1.length+1:Nat):Int)):f73 a=some (((),()),(bF c a.1.1,())):=by
 obtain⟨⟨s,b,m,u⟩,bV⟩:=a;obtain rfl:b=(c.toNat:Int):=hb;obtain rfl:m=((s.length+1:Nat):Int):=hm;have hs:s.length<=2097152:=hs;have key:=l4 o' s (fun i (q:Nat×List B)=>((s,((c.toNat:Int),(((s.length+1:Nat):Int),((),((q.1:Int),((i:Int),())))))),(q.2,())))
  (fun i x (q:Nat×List B)=>some (.inl (bif(x.toNat:Int)==(c.toNat:Int) then(i+1,q.2++[(s.take i).drop q.1]) else q))) (fun q=>(((s,((),((q.1:Int),()))),(q.2,())):aB vo))
  (fun i q=>q.1<=i/\q.2.length<=i) (0,[]) ⟨Nat.le_refl _,Nat.le_refl _⟩ (fun i x q hx dq=>?_) (fun q dq=>?_)
 ·obtain⟨fx,h1,h2,h3⟩:=ak5 c s (fun q=>(((s,((),((q.1:Int),()))),(q.2,())):aB vo)) s 0 (0,[]) rfl (Nat.zero_le _) (Nat.le_refl _)
  have key:vz ((s,((c.toNat:Int),(((s.length+1:Nat):Int),((),((0:Int),((0:Int),())))))),(([]:List B),()))=some ((s,((),((fx.1:Int),()))),(fx.2,())):=key.trans h1;simp only[f73,key,Option.bind_some];rw[fc h2];have h3:fx.2++[s.drop fx.1]=bF c s:=by
   rw[h3];simp only[List.take_zero,List.drop_nil,List.nil_append];exact RZ (oY c s)
  have hl:fx.2.length<=s.length+1:=by
   have:=congrArg List.length h3;have aC:=nS c s;simp only[List.length_append,List.length_cons,List.length_nil] at this;omega
  simp only[Option.bind_some];rw[dh (by decide) (by unfold ar;simp only[List.length_cons,List.length_nil];omega)]
  simp only[Option.bind_some,h3]
 ·have hi:=cT hx;have hw:ar i:=by unfold ar;omega
  obtain⟨h0,h1⟩:=dq;have hlt:decide ((q.2.length:Int)<((s.length+1:Nat):Int))=true:=ce (by omega)
  refine⟨?_,fun fx oA=>?_⟩
  ·simp only[o',ce hi,cond_true,hlt,b4,hx,Option.bind_some];cases hc:((x.toNat:Int)==(c.toNat:Int)) with
   |true=>
    simp only[cond_true];rw[qs h0 (by omega)]
    simp only[Option.bind_some];rw[dh (by decide) (by unfold ar;simp only[List.length_cons,List.length_nil];omega)]
    simp only[Option.bind_some,Option.map_some,bU hw]
   |false=>simp only[cond_false,Option.map_some,bU hw]
  ·simp only[Option.some.injEq,Sum.inl.injEq] at oA;subst oA;cases (x.toNat:Int)==(c.toNat:Int) with
   |true=>simp only[cond_true,List.length_append,List.length_cons,List.length_nil];omega
   |false=>simp only[cond_false];omega
 ·simp only[o',du,cond_false]
noncomputable def WK:aD:=FV
theorem apS:aA O 271 WK:=afc (fn:=Tryz.f271) (by kernel_rfl) (by kernel_rfl) (by kernel_rfl) (by kernel_rfl) (by kernel_rfl)
noncomputable abbrev atP:a_:=[(271,WK)]
theorem avf:aQ O (aW ad atP):=aV ⟨apS,⟨⟩⟩
abbrev i244:Shape:=⟨[aj 0,(1,.an (.d (.int .u8)))],[],8⟩
abbrev Xz:Shape:=⟨[ag 4],[],8⟩
noncomputable def f244(a:i244.J):Option Xz.J:=
(some ()).bind fun gg=>
 some (((Lib.indexByte a.1.1 (a.1.2.1).toNat.toUInt8),()),())
noncomputable def ZU:aD:=aG ad Tryz.f244 i244 Xz [] f244
theorem arv:aA O 244 ZU:=aK avf Tryz.func244 (by kernel_rfl) ae (fun y=>by kernel_rfl) fun a=>by kernel_rfl
noncomputable abbrev at5:a_:=[(244,ZU)]
theorem _':aQ O (aW ad at5):=aV ⟨arv,⟨⟩⟩
abbrev SQ:Shape:=⟨[aj 0,aj 1,ag 5],[],143⟩
abbrev Su:List aP:=[(.norm,⟨[aj 0,aj 1,ag 5,ao 16],[],143⟩)]
noncomputable def AX(y:SQ.J):Option (aB Su):=
 bif(!(y.1.2.2.1==(0:Int))) then
 some ((y.1.1,y.1.2.1,y.1.2.2.1,(y.1.2.1==y.1.1),()),())
else
 some ((y.1.1,y.1.2.1,y.1.2.2.1,true,()),())
theorem al3:aS O (am (codeOf Tryz.f209) 1 56) (aU SQ Su AX):=cd _' (by kernel_rfl) ae fun y=>by kernel_rfl
abbrev i209:Shape:=⟨[aj 0,aj 1],[],143⟩
abbrev XT:Shape:=⟨[ag 4],[],143⟩
noncomputable def f209(a:i209.J):Option XT.J:=
(AX ((a.1.1,a.1.2.1,(a.1.2.1.length:Int),()),())).bind fun rV=>
 bif rV.1.2.2.2.1 then
 some (((0:Int),()),())
else
 bif(rV.1.2.2.1==(1:Int)) then
(aO rV.1.2.1 (0:Int)).bind fun No=>
(f244 ((rV.1.1,(No.toNat:Int),()),())).bind fun r8=>
 some ((r8.1.1,()),())
else
 bif(decide (rV.1.2.2.1>=(rV.1.1.length:Int))) then
 some ((((-1):Int),()),())
else
 none
noncomputable def Ld:aD:=aG ad Tryz.f209 i209 XT [] f209
theorem WZ:aA O 209 Ld:=aK _' Tryz.func209 (by kernel_rfl) (a7 al3 ae) (fun y=>by kernel_rfl) fun a=>by kernel_rfl
noncomputable abbrev at3:a_:=[(209,Ld)]
theorem avo:aQ O (aW ad at3):=aV ⟨WZ,⟨⟩⟩
abbrev i212:Shape:=⟨[aj 0,aj 1],[],8⟩
abbrev XR:Shape:=⟨[ag 4],[],8⟩
noncomputable def f212(a:i212.J):Option XR.J:=
(f209 ((a.1.1,a.1.2.1,()),())).bind fun b=>
 some ((b.1.1,()),())
noncomputable def Df:aD:=aG ad Tryz.f212 i212 XR [] f212
theorem z212:aA O 212 Df:=aK avo Tryz.func212 (by kernel_rfl) ae (fun y=>by kernel_rfl) fun a=>by kernel_rfl
noncomputable abbrev K4:Ctx:=aW ad [(212,Df)]
noncomputable def Db:Code:=codeOf Tryz.f266
noncomputable def om:Code:=c4 (am Db 1 12)
noncomputable def Cw(p j:Nat):Oper:=(opsOf (am om 24 p)).getD j default
noncomputable def J3(j:Nat):Oper:=(opsOf (am Db 1 7)).getD j default
theorem aoM(c:UInt8)(r:B):f212 ((r,([c],())),())=some ((Lib.indexByte r c,()),()):=by
 have h0:aO ([c]:B) (0:Int)=some c:=rfl;have h1:((([c]:B).length:Int)==0)=false:=rfl;have h2:((([c]:B).length:Int)==1)=true:=rfl;have h3:((c.toNat:Int)).toNat.toUInt8=c:=by simp
 simp only[f212,f209,AX,f244,h0,h1,h2,h3,Bool.not_false,cond_true,cond_false,Option.bind_some,Option.bind];by_cases h:(([c]:B)==r)=true
 ·have:r=[c]:=(by simpa using h:[c]=r).symm
  subst this;simp[Lib.indexByte]<;>rfl
 ·simp[h]<;>rfl
theorem aqQ(c:UInt8)(r:B):exec (gT K4 []) (am om 24 96) 96 (nx 52 c r) (C4 (gT K4 []) 52 7 8 (am om 24 194) (am om 24 390) 194 390)=
 (f212 ((r,([c],())),())).bind fun q=>bif decide (q.1.1<0) then some (.inl (k4 52 c r)) else(bm r 0 (IntKind.i64.wrap (q.1.1+0))).bind fun x=>some (.inr ((q.1.1,x),k4 52 c r)):=by kernel_rfl
theorem Wq:wc O 266:=
 amX (C:=gT K4 []) (aV ⟨z212,⟨⟩⟩) (fn:=Tryz.f266) (k:=52) (A:=am Db 1 2) (r5:=am om 24 96) (c6:=am om 24 194) (r7:=am om 24 390) (r9:=am om 24 783)
  (o0:=Cw 1564 0) (o1:=Cw 1564 1) (o2:=Cw 1564 2) (o3:=Cw 1564 3) (q0:=J3 0) (q1:=J3 1) (q2:=J3 2) (pA:=2) (p5:=96) (p6:=194) (p7:=390) (p9:=783) (t7:=7) (t8:=8) (a1:=39) (a2:=40)
  (t41:=41) (t42:=42) (u1:=49) (u2:=50) (ty:=#[9]) (Dz:=#[9])
  {Za:=(by kernel_rfl),nt:=(by kernel_rfl),cB:=(by decide),fl:=(by kernel_rfl),aco:=enters_of Tryz.func266 (by kernel_rfl) rfl,body:=⟨tj (am om 24 1564),tj (am Db 1 7),(by kernel_rfl)⟩,x0:=(by kernel_rfl),wr:=(by kernel_rfl),
   aV:=⟨(by kernel_rfl),(by kernel_rfl),(by kernel_rfl),(by kernel_rfl),(by kernel_rfl),(by kernel_rfl),(by kernel_rfl)⟩,ado:=(by kernel_rfl),adn:=(by kernel_rfl),d2:=(by kernel_rfl),KD:=(by decide),c2:=(by kernel_rfl),d5:=(by kernel_rfl),
   kI:=⟨lh (by kernel_rfl) ae,lh (by kernel_rfl) ae,lh (by kernel_rfl) ae,lh (by kernel_rfl) ae,lh (by kernel_rfl) ae⟩,
   dY:=fun c r=>(by kernel_rfl),hB:=fun c r=>(aqQ c r).trans (by rw[aoM];rfl),bl:=fun c r i x v=>(by kernel_rfl),h3:=fun c r b=>(by kernel_rfl),acl:=(by kernel_rfl),x7:=fun c r i=>(by kernel_rfl),Er:=fun c r v=>(by kernel_rfl)}
  (by kernel_rfl) (by decide)
noncomputable abbrev auB:a_:=[(115,Di)]
theorem LB:aQ O (aW ad auB):=aV ⟨Kj,⟨⟩⟩
abbrev Qi:Shape:=⟨[ay 2 2 0,ay 3 3 0,ay 4 4 0,ag 6,ao 7],[bp 5000128 .i64 2 0,ax 2 [.own 5000128],ax 3 [lW],bp 5000256 .i64 4 0,ax 4 [.own 5000256]],28⟩
abbrev PZ:List aP:=[(.norm,⟨[ay 2 2 0,ay 3 3 0,ay 4 4 0,ag 6,ao 22],[bp 5000128 .i64 2 0,ax 2 [.own 5000128],ax 3 [lW],bp 5000256 .i64 4 0,ax 4 [.own 5000256]],28⟩)]
noncomputable def FZ(y:Qi.J):Option (aB PZ):=
 bif(!(!y.1.2.2.2.2.1)) then
 some (((),(),(),y.1.2.2.2.1,((y.2.2.2.2.1.length:Int)==(4:Int)),()),y.2.1,((),()),(y.2.2.2.1.1,()),y.2.2.2.2.1,((),()),())
else
 some (((),(),(),y.1.2.2.2.1,true,()),y.2.1,((),()),(y.2.2.2.1.1,()),y.2.2.2.2.1,((),()),())
theorem aih:aS O (am (ka (am (codeOf Tryz.f151) 1 58)) 117 1876) (aU Qi PZ FZ):=cd LB (by kernel_rfl) ae fun y=>by kernel_rfl
abbrev Aq:Shape:=⟨[ay 2 2 0,ay 3 3 0,ay 4 4 0],[bp 5000128 .i64 2 0,ax 2 [.own 5000128],ax 3 [lW],bp 5000256 .i64 4 0,ax 4 [.own 5000256]],28⟩
abbrev HL:List aP:=[(.norm,⟨[ay 2 2 0,ay 3 3 0,ay 4 4 0],[bp 5000128 .i64 2 0,ax 2 [.own 5000128],ax 3 [lW],bp 5000256 .i64 4 0,ax 4 [.own 5000256]],28⟩),(.ret,⟨[ay 2 2 0,ay 3 3 0],[bp 5000128 .i64 2 0,ax 2 [.own 5000128],ax 3 [lW]],28⟩)]
noncomputable def sP(x:B)(y:Aq.J):bG Aq HL:=
(f115 ((x,(999:Int),()),())).bind fun a=>
(FZ (((),(),(),a.1.1,a.1.2.1,()),y.2.1,((),()),(y.2.2.2.1.1,()),y.2.2.2.2.1,((),()),())).bind fun b=>
 bif b.1.2.2.2.2.1 then
 some (.inr (.inr (((),(),()),([]:List Int),((),()),(false,()),())))
else
(b9 8 b.2.2.2.2.1 ([b.1.2.2.2.1]:List Int)).bind fun c=>
 some (.inl (((),(),(),()),b.2.1,((),()),(b.2.2.2.1.1,()),c,((),()),()))
noncomputable def vE(y:Aq.J):Option (aB HL):=
 some (.inl (((),(),(),()),y.2.1,((),()),(y.2.2.2.1.1,()),y.2.2.2.2.1,((),()),()))
theorem amp:aS O (am (codeOf Tryz.f151) 1 58) (sz 266 9 Aq HL sP vE):=OL (eV:=10) LB Wq (by kernel_rfl) (a7 aih ae) (by kernel_rfl) (fun x y=>by kernel_rfl) fun y=>by kernel_rfl
abbrev i151:Shape:=⟨[aj 0],[],28⟩
abbrev Yv:Shape:=⟨[ay 2 2 0,ay 3 3 0],[bp 5000128 .i64 2 0,ax 2 [.own 5000128],ax 3 [lW]],28⟩
noncomputable def f151(a:i151.J):Option Yv.J:=
(bif Nat.ble a.1.1.length kA then iD sP vE (bF (46:UInt8) a.1.1) (((),(),(),()),([]:List Int),((),()),(false,()),([]:List Int),((),()),()) else none).bind fun b=>
(match b with
|.inl c=>
 some (((),(),()),c.2.2.2.2.1,((),()),(true,()),())
|.inr d=>
 some (((),(),()),d.2.1,((),()),(d.2.2.2.1.1,()),()))
noncomputable def Lm:aD:=aG ad Tryz.f151 i151 Yv [] f151
theorem W4:aA O 151 Lm:=aK LB Tryz.func151 (by kernel_rfl) (a7 amp ae) (fun y=>by kernel_rfl) fun a=>by kernel_rfl
noncomputable abbrev au8:a_:=[(151,Lm)]
theorem avK:aQ O (aW ad au8):=aV ⟨W4,⟨⟩⟩
abbrev i100:Shape:=⟨[aj 0],[],11⟩
abbrev Y6:Shape:=⟨[ao 2],[],11⟩
noncomputable def f100(a:i100.J):Option Y6.J:=
(f151 ((a.1.1,()),())).bind fun b=>
 some ((b.2.2.2.1.1,()),())
noncomputable def Dj:aD:=aG ad Tryz.f100 i100 Y6 [] f100
theorem Kk:aA O 100 Dj:=aK avK Tryz.func100 (by kernel_rfl) ae (fun y=>by kernel_rfl) fun a=>by kernel_rfl
noncomputable abbrev au7:a_:=[(99,M3),(100,Dj)]
theorem aaw:aQ O (aW ad au7):=aV ⟨aaA,Kk,⟨⟩⟩
abbrev RG:Shape:=⟨[ay 1 1 0,ag 8],[ax 1 [ah,aZ,ah]],21⟩
abbrev Rn:List aP:=[(.norm,⟨[ay 1 1 0,ao 14],[ax 1 [ah,aZ,ah]],21⟩)]
noncomputable def G6(y:RG.J):Option (aB Rn):=
 bif(y.1.2.1==(1:Int)) then
 some (((),(y.1.2.1==(1:Int)),()),(y.2.1.1,y.2.1.2.1,y.2.1.2.2.1,()),())
else
 bif(y.1.2.1==(2:Int)) then
 some (((),(y.1.2.1==(2:Int)),()),(y.2.1.1,y.2.1.2.1,y.2.1.2.2.1,()),())
else
 some (((),(y.1.2.1==(3:Int)),()),(y.2.1.1,y.2.1.2.1,y.2.1.2.2.1,()),())
theorem akn:aS O (am (codeOf Tryz.f102) 1 470) (aU RG Rn G6):=cd aaw (by kernel_rfl) ae fun y=>by kernel_rfl
abbrev i102:Shape:=⟨[b_ 0 [ah,aZ,ah]],[],21⟩
abbrev Y5:Shape:=⟨[ao 2],[],21⟩
noncomputable def f102(a:i102.J):Option Y5.J:=
(f99 ((a.1.1.1,()),())).bind fun b=>
 bif(!b.1.1) then
 some ((false,()),())
else
 bif(a.1.1.2.1==(0:Int)) then
 some (((a.1.1.2.2.1==([]:B)),()),())
else
(G6 (((),a.1.1.2.1,()),(a.1.1.1,a.1.1.2.1,a.1.1.2.2.1,()),())).bind fun c=>
 bif c.1.2.1 then
(f100 ((c.2.1.2.2.1,()),())).bind fun d=>
 some ((d.1.1,()),())
else
 some ((false,()),())
noncomputable def w3:aD:=aG ad Tryz.f102 i102 Y5 [] f102
theorem CV:aA O 102 w3:=aK aaw Tryz.func102 (by kernel_rfl) (a7 akn ae) (fun y=>by kernel_rfl) fun a=>by kernel_rfl
noncomputable abbrev auI:a_:=[(73,p0),(74,D9),(75,oL)]
theorem aak:aQ O (aW ad auI):=aV ⟨ri,LI,z75,⟨⟩⟩
abbrev zr:Shape:=⟨[ba 4 3000256,ba 5 3000320,ag 6],[a' 3000256 .str 4 0,a' 3000320 .i64 5 0],37⟩
abbrev qq:List aP:=[(.ret,⟨[ba 2 3000128,ao 3],[a' 3000128 .i64 2 0],37⟩),(.exit 0,⟨[ba 4 3000256,ba 5 3000320],[a' 3000256 .str 4 0,a' 3000320 .i64 5 0],37⟩)]
noncomputable def zO(y:zr.J):bG zr qq:=
 bif(decide (y.1.2.2.1<(y.2.1.length:Int))) then
(be y.2.1.length y.1.2.2.1).bind fun a=>
(y.2.1[a]?).bind fun b=>
(f74 ((b,()),())).bind fun c=>
(f75 ((c.1.1,(0:Int),(999:Int),()),())).bind fun d=>
 bif(!d.1.1) then
 some (.inr (.inl (((),false,()),y.2.2.1,())))
else
(b9 8 y.2.2.1 ([c.1.1]:List Int)).bind fun e=>
 some (.inl (((),(),(IntKind.i64.wrap (y.1.2.2.1+(1:Int))),()),y.2.1,e,()))
else
 some (.inr (.inr (((),(),()),y.2.1,y.2.2.1,())))
noncomputable def GQ:zr.J->Option (aB qq):=br zO
theorem akg:aS O (am (codeOf Tryz.f140) 1 122) (aU zr qq GQ):=bH aak (by kernel_rfl) ae fun y=>by kernel_rfl
abbrev i140:Shape:=⟨[aj 0],[],37⟩
abbrev YF:Shape:=⟨[ba 2 3000128,ao 3],[a' 3000128 .i64 2 0],37⟩
noncomputable def f140(a:i140.J):Option YF.J:=
(f73 ((a.1.1,(46:Int),(IntKind.i64.wrap ((a.1.1.length:Int)+(1:Int))),()),())).bind fun b=>
(GQ (((),(),(0:Int),()),b.2.1,([]:List Int),())).bind fun c=>
(match c with
|.inl d=>
 some (((),d.1.2.1,()),d.2.1,())
|.inr e=>
 some (((),(decide ((e.2.1.length:Int)<=(4:Int))),()),e.2.2.1,()))
noncomputable def Lq:aD:=aG ad Tryz.f140 i140 YF [] f140
theorem W6:aA O 140 Lq:=aK aak Tryz.func140 (by kernel_rfl) (a7 akg ae) (fun y=>by kernel_rfl) fun a=>by kernel_rfl
noncomputable abbrev ay3:a_:=[(140,Lq)]
theorem azL:aQ O (aW ad ay3):=aV ⟨W6,⟨⟩⟩
abbrev i88:Shape:=⟨[aj 0],[],11⟩
abbrev aaV:Shape:=⟨[ao 2],[],11⟩
noncomputable def f88(a:i88.J):Option aaV.J:=
(f140 ((a.1.1,()),())).bind fun b=>
 some ((b.1.2.1,()),())
noncomputable def M4:aD:=aG ad Tryz.f88 i88 aaV [] f88
theorem aaB:aA O 88 M4:=aK azL Tryz.func88 (by kernel_rfl) ae (fun y=>by kernel_rfl) fun a=>by kernel_rfl
noncomputable abbrev aue:a_:=[(75,oL),(87,M5),(88,M4)]
theorem avr:aQ O (aW ad aue):=aV ⟨z75,z87,aaB,⟨⟩⟩
abbrev i192:Shape:=⟨[b_ 0 [ah,aZ,ah]],[],26⟩
abbrev X3:Shape:=⟨[ao 2],[],26⟩
noncomputable def f192(a:i192.J):Option X3.J:=
(f87 ((a.1.1.1,()),())).bind fun b=>
 bif b.1.1 then
 bif(a.1.1.2.1==(0:Int)) then
 bif(!(a.1.1.2.2.1==([]:B))) then
(f75 ((a.1.1.2.1,(1:Int),(3:Int),()),())).bind fun c=>
 bif c.1.1 then
(f88 ((a.1.1.2.2.1,()),())).bind fun d=>
 some ((d.1.1,()),())
else
 some ((false,()),())
else
 some ((true,()),())
else
(f75 ((a.1.1.2.1,(1:Int),(3:Int),()),())).bind fun e=>
 bif e.1.1 then
(f88 ((a.1.1.2.2.1,()),())).bind fun f=>
 some ((f.1.1,()),())
else
 some ((false,()),())
else
 some ((false,()),())
noncomputable def Lh:aD:=aG ad Tryz.f192 i192 X3 [] f192
theorem W2:aA O 192 Lh:=aK avr Tryz.func192 (by kernel_rfl) ae (fun y=>by kernel_rfl) fun a=>by kernel_rfl
theorem O2:∀(r:B) (n:Int),r.all cO=true->0<=n->0<=r.foldl eg n:=by
 intro r;induction r with
 |nil=>intro n _ h;exact h
 |cons b r ih=>
  intro n aa h;simp only[List.all_cons,Bool.and_eq_true] at aa;have hb:=iO aa.1;exact ih _ aa.2 (by unfold eg;omega)
def ig(s:B):List B:=bF 46 s
def ej(s:B):Bool:=(ig s).all fv&&decide ((ig s).length<=4)
def hP(s:B):List Int:=(ig s).map db
theorem afR(x:B):within (bif x.all cO&&decide (x.length<=6)&&!(x==[])&&!ii x then db x else-1) 0 999=fv x:=by
 unfold fv within;cases h1:x.all cO with
 |false=>simp
 |true=>
  have:=O2 x 0 h1 (Int.le_refl _);have hv:decide ((0:Int)<=db x)=true:=by simp only[decide_eq_true_eq];exact this
  cases h2:decide (x.length<=6)<;>cases h3:(x==[])<;>cases aC:ii x<;>simp[hv]
theorem Fh(a)(hs:cj a.1.1.length):∃out,f140 a=some (((),(ej a.1.1,())),(out,()))/\(ej a.1.1=true->out=hP a.1.1):=by
 obtain⟨⟨s,u⟩,bV⟩:=a;have hs:s.length<=2097152:=hs;have hlen:=nS 46 s;have fO:f73 ((s,((46:Int),((IntKind.i64.wrap ((s.length:Int)+(1:Int))),()))),())=some (((),()),(ig s,())):=
  vm 46 _ hs rfl (bU (by unfold ar;omega))
 have key:=l4 zO (ig s) (fun i (out:List Int)=>(((),((),((i:Int),()))),(ig s,(out,()))))
  (fun i x out=>some (bif fv x then .inl (out++[db x]) else .inr ((.inl (((),(false,())),(out,()))):aB qq))) (fun out=>((.inr (((),((),())),(ig s,(out,())))):aB qq))
  (fun i out=>out.length<=i) [] (Nat.le_refl _) (fun i x out hx dq=>?_) (fun out _=>?_)
 ·have fold:∀(r:List B) (k:Nat) (out:List Int),eT (fun i x out=>some (bif fv x then .inl (out++[db x]) else .inr ((.inl (((),(false,())),(out,()))):aB qq))) (fun out=>((.inr (((),((),())),(ig s,(out,())))):aB qq)) k r out=
    some (bif r.all fv then(.inr (((),((),())),(ig s,(out++r.map db,())))) else(.inl (((),(false,())),(out++(r.takeWhile fv).map db,())))):=by
   intro r;induction r with
   |nil=>intro k out;simp[eT]
   |cons x r ih=>
    intro k out;simp only[eT,List.all_cons];cases hn:fv x with
    |false=>simp[hn]
    |true=>simp only[cond_true,Bool.true_and];rw[ih];simp[hn,List.append_assoc]
  have key:GQ (((),((),((0:Int),()))),(ig s,(([]:List Int),())))=_:=key.trans (fold (ig s) 0 []);simp only[f140,fO,Option.bind_some,key,List.nil_append];unfold ej;cases nm:(ig s).all fv with
  |false=>exact⟨_,rfl,fun h=>by cases h⟩
  |true=>
   simp only[cond_true,Bool.true_and];have:decide (((ig s).length:Int)<=4)=decide ((ig s).length<=4):=by by_cases h:(ig s).length<=4<;>simp[h]<;>omega
   rw[this];exact⟨_,rfl,fun _=>rfl⟩
 ·have hi:=cT hx;have wq:(ig s).length<=s.length+1:=hlen;have hw:ar i:=by unfold ar;omega
  have hxl:x.length<=s.length:=qg 46 s x (List.mem_of_getElem? hx);refine⟨?_,fun aN ak=>?_⟩
  ·simp only[zO,ce hi,cond_true,ft hi,hx,Option.bind_some];rw[Hg _ (show ar x.length by unfold ar;omega)]
   simp only[Option.bind_some,n_,afR];cases hn:fv x with
   |false=>rfl
   |true=>
    have hv:(bif x.all cO&&decide (x.length<=6)&&!(x==[])&&!ii x then db x else-1)=db x:=by
     unfold fv at hn;simp only[Bool.and_eq_true] at hn;obtain⟨⟨⟨⟨h1,h2⟩,h3⟩,aC⟩,bk⟩:=hn;rw[h1,aC,h2,h3];rfl
    simp only[Bool.not_true,cond_false,hv,cond_true];rw[dh (by decide) (by unfold ar;simp only[List.length_cons,List.length_nil];omega)]
    simp only[Option.bind_some,bU hw,Option.map_some]
  ·simp only[Option.some.injEq] at ak;cases hn:fv x with
   |false=>rw[hn] at ak;cases ak
   |true=>
    rw[hn] at ak;simp only[cond_true,Sum.inl.injEq] at ak;subst ak;simp only[List.length_append,List.length_cons,List.length_nil];omega
 ·simp only[zO,du,cond_false]
theorem Ow(a)(hs:cj a.1.1.length):f88 a=some ((ej a.1.1,()),()):=by
 obtain⟨out,h,_⟩:=Fh ((a.1.1,()),()) hs;simp only[f88,h,Option.bind_some]
theorem EF(a)(hs:cj a.1.1.length):f151 a=some (((),((),())),((bif ej a.1.1 then hP a.1.1 else []),(((),()),((ej a.1.1,()),())))):=by
 obtain⟨⟨s,u⟩,bV⟩:=a;have hs:s.length<=2097152:=hs;have KX:Nat.ble s.length kA=true:=Nat.ble_eq_true_of_le (by unfold kA;omega)
 have fold:∀(r:List B) (out:List Int),(∀x,x∈r->x.length<=s.length)->out.length<=4->
   iD sP vE r (((),((),((),()))),(([]:List Int),(((),()),((false,()),(out,(((),()),()))))))=
    some (bif r.all fv&&decide (out.length+r.length<=4) then(.inl (((),((),((),()))),(([]:List Int),(((),()),((false,()),(out++r.map db,(((),()),()))))))) else(.inr (((),((),())),(([]:List Int),(((),()),((false,()),())))))):=by
  intro r;induction r with
  |nil=>
   intro out _ aM;have:decide (out.length+0<=4)=true:=by simpa using aM
   simp only[iD,vE,List.all_nil,List.length_nil,this,Bool.and_self,cond_true,List.map_nil,List.append_nil]
  |cons x r ih=>
   intro out hr aM;have hx:=hr x List.mem_cons_self;have as0:=ajb ((x,((999:Int),())),()) (show ar x.length by unfold ar;omega) rfl
   have step:sP x (((),((),((),()))),(([]:List Int),(((),()),((false,()),(out,(((),()),()))))))=
     some (bif fv x&&decide (out.length+1<=4) then .inl (((),((),((),()))),(([]:List Int),(((),()),((false,()),(out++[db x],(((),()),())))))) else .inr (.inr (((),((),())),(([]:List Int),(((),()),((false,()),())))))):=by
    simp only[sP,as0,Option.bind_some,FZ,Bool.not_not];have aC:((out.length:Int)==4)=!decide (out.length+1<=4):=by
     by_cases h:out.length=4
     ·rw[h];rfl
     ·have bk:decide (out.length+1<=4)=true:=by simp only[decide_eq_true_eq];omega
      rw[bk];simp only[beq_eq_false_iff_ne,ne_eq,Bool.not_true];omega
    rw[aC];cases hn:fv x with
    |false=>rfl
    |true=>
     simp only[cond_true,Option.bind_some,Bool.true_and];cases az:decide (out.length+1<=4) with
     |false=>rfl
     |true=>
      simp only[Bool.not_true,cond_false,cond_true];rw[dh (by decide) (by unfold ar;simp only[List.length_cons,List.length_nil];omega)]
      rfl
   rw[iD,step,List.all_cons];cases hn:fv x with
   |false=>rfl
   |true=>
    simp only[Bool.true_and];cases az:decide (out.length+1<=4) with
    |false=>
     have:decide (out.length+(x::r).length<=4)=false:=by simp only[decide_eq_false_iff_not,List.length_cons] at az ⊢;omega
     rw[this];simp
    |true=>
     simp only[cond_true];rw[ih (out++[db x]) (fun y hy=>hr y (List.mem_cons_of_mem _ hy)) (by simp only[List.length_append,List.length_cons,List.length_nil];simpa using az)]
     have e1:(out++[db x]).length+r.length=out.length+(x::r).length:=by simp only[List.length_append,List.length_cons,List.length_nil];omega
     rw[e1,List.map_cons,List.append_assoc];rfl
 have key:=fold (bF (46:UInt8) s) [] (fun x hx=>qg 46 s x hx) (Nat.zero_le _)
 have KH:iD sP vE (bF (46:UInt8) s) (((),((),((),()))),(([]:List Int),(((),()),((false,()),(([]:List Int),(((),()),()))))))=
    some (bif ej s then(.inl (((),((),((),()))),(([]:List Int),(((),()),((false,()),(hP s,(((),()),()))))))) else(.inr (((),((),())),(([]:List Int),(((),()),((false,()),())))))):=by
  rw[key];unfold ej hP ig;simp only[List.length_nil,Nat.zero_add,List.nil_append]
 simp only[f151,KX,cond_true,KH,Option.bind_some];cases ej s<;>rfl
theorem EJ(a)(hs:cj a.1.1.length):f100 a=some ((ej a.1.1,()),()):=by
 simp only[f100,EF ((a.1.1,()),()) hs,Option.bind_some]
def dC(n:bv):Bool:=iz n.name&&(n.kind==0&&(n.aX==[])||within n.kind 1 3&&ej n.aX)
abbrev xV(n:bv):Prop:=cj n.name.length/\cj n.aX.length
theorem Q6(a)(h1:cj a.1.1.1.length)(h2:cj a.1.1.2.2.1.length):f192 a=some ((dC ⟨a.1.1.1,a.1.1.2.1,a.1.1.2.2.1⟩,()),()):=by
 obtain⟨⟨⟨n,k,v,u⟩,bV⟩,nr⟩:=a;have h1:n.length<=2097152:=h1;have h2:v.length<=2097152:=h2;have e1:=Q3 ((n,()),()) (show ar n.length by unfold ar;omega)
 have e2:=Ow ((v,()),()) h2;simp only[f192,e1,e2,n_,Option.bind_some,dC];cases iz n with
 |false=>rfl
 |true=>
  cases hk:(k==0) with
  |false=>
   simp only[cond_true,cond_false];cases within k 1 3<;>cases ej v<;>rfl
  |true=>
   have:within k 1 3=false:=by
    have:k=0:=by simpa using hk
    subst this;decide
   rw[this];cases (v==[])<;>rfl
theorem ahm{k:Int}(lU:¬k=0)(aE:¬k=1)(aF:¬k=2)(bJ:¬k=3):within k 1 3=false:=by
 unfold within;cases h:(decide (1<=k)&&decide (k<=3)) with
 |false=>rfl
 |true=>simp only[Bool.and_eq_true,decide_eq_true_eq] at h;omega
theorem yI(a)(h1:cj a.1.1.1.length)(h2:cj a.1.1.2.2.1.length):f102 a=some ((dC ⟨a.1.1.1,a.1.1.2.1,a.1.1.2.2.1⟩,()),()):=by
 obtain⟨⟨⟨n,k,v,u⟩,bV⟩,nr⟩:=a;have h1:n.length<=2097152:=h1;have h2:v.length<=2097152:=h2;have e1:=Oe ((n,()),()) (show ar n.length by unfold ar;omega)
 have e2:=EJ ((v,()),()) h2;simp only[f102,e1,e2,Option.bind_some,dC,G6];cases iz n with
 |false=>rfl
 |true=>
  simp only[Bool.not_true,cond_false,Bool.true_and];by_cases lU:k=0
  ·subst lU;cases (v==[])<;>rfl
  ·have pS:(k==0)=false:=by simpa using lU
   rw[pS];by_cases aE:k=1
   ·subst aE;cases hv:ej v<;>simp[within,e2,hv]
   ·have rC:(k==1)=false:=by simpa using aE
    rw[rC];by_cases aF:k=2
    ·subst aF;cases hv:ej v<;>simp[within,e2,hv]
    ·have hk2:(k==2)=false:=by simpa using aF
     rw[hk2];by_cases bJ:k=3
     ·subst bJ;cases hv:ej v<;>simp[within,e2,hv]
     ·have axH:(k==3)=false:=by simpa using bJ
      rw[axH];rw[ahm lU aE aF bJ];rfl
noncomputable abbrev apz:a_:=[(102,w3)]
theorem VX:aQ O (aW ad apz):=aV ⟨CV,⟨⟩⟩
abbrev yX:Shape:=⟨[(1,.an (.fn 102 [])),aI 7 .need,ag 8,ag 9],[],18⟩
abbrev Fx:List aP:=[(.ret,⟨[ao 4],[],18⟩),(.exit 0,⟨[],[],18⟩)]
noncomputable def y9(y:yX.J):bG yX Fx:=
 bif(decide (y.1.2.2.2.1<y.1.2.2.1)) then
(aO y.1.2.1 y.1.2.2.2.1).bind fun a=>
(f102 (((a.name,a.kind,a.aX,()),()),())).bind fun b=>
 bif(!b.1.1) then
 some (.inr (.inl ((false,()),())))
else
 some (.inl (((),y.1.2.1,y.1.2.2.1,(IntKind.i64.wrap (y.1.2.2.2.1+(1:Int))),()),()))
else
 some (.inr (.inr ((),())))
noncomputable def FS:yX.J->Option (aB Fx):=br y9
theorem ait:aS O (am (codeOf Tryz.f101) 1 26) (aU yX Fx FS):=bH VX (by kernel_rfl) ae fun y=>by kernel_rfl
abbrev Vk:Shape:=⟨[aI 0 .need,(1,.an (.fn 102 []))],[],18⟩
abbrev UR:Shape:=⟨[ao 4],[],18⟩
noncomputable def Cj(a:Vk.J):Option UR.J:=
(FS (((),a.1.1,(a.1.1.length:Int),(0:Int),()),())).bind fun b=>
(match b with
|.inl c=>
 some ((c.1.1,()),())
|.inr d=>
 some ((true,()),()))
noncomputable def VS:aD:=aG ad Tryz.f101 Vk UR [] Cj
theorem anP:aA O 101 VS:=aK VX Tryz.func101 (by kernel_rfl) (a7 ait ae) (fun y=>by kernel_rfl) fun a=>by kernel_rfl
abbrev i104:Shape:=⟨[b_ 0 [ah,aZ,ah]],[],5⟩
abbrev Y4:Shape:=⟨[aj 2],[],5⟩
noncomputable def f104(a:i104.J):Option Y4.J:=
 some ((a.1.1.1,()),())
noncomputable def _5:aD:=aG ad Tryz.f104 i104 Y4 [] f104
theorem ash:aA O 104 _5:=aK g0 Tryz.func104 (by kernel_rfl) ae (fun y=>by kernel_rfl) fun a=>by kernel_rfl
abbrev i149:Shape:=⟨[aI 0 .str],[],8⟩
abbrev KA:Shape:=⟨[ba 2 3000128],[a' 3000128 .str 2 0],8⟩
noncomputable def f149(a:i149.J):Option KA.J:=
 qn (t:=.str) a.1.1 (some (((),()),([]:List B),())) ((b9 16 ([]:List B) a.1.1).bind fun b=>
 some (((),()),b,()))
noncomputable def _F:aD:=aG ad Tryz.f149 i149 KA [] f149
theorem ar3:aA O 149 _F:=aK g0 Tryz.func149 (by kernel_rfl) ae (fun y=>by kernel_rfl) fun a=>by kernel_rfl
abbrev Ae:Shape:=⟨[aI 0 .str,aj 1,ag 7,ag 8],[],19⟩
abbrev sF:List aP:=[(.ret,⟨[ag 4],[],19⟩),(.exit 0,⟨[],[],19⟩)]
noncomputable def AY(y:Ae.J):bG Ae sF:=
 bif(decide (y.1.2.2.2.1<y.1.2.2.1)) then
(aO y.1.1 y.1.2.2.2.1).bind fun a=>
 bif(y.1.2.1==a) then
 some (.inr (.inl ((y.1.2.2.2.1,()),())))
else
 some (.inl ((y.1.1,y.1.2.1,y.1.2.2.1,(IntKind.i64.wrap (y.1.2.2.2.1+(1:Int))),()),()))
else
 some (.inr (.inr ((),())))
noncomputable def Ik:Ae.J->Option (aB sF):=br AY
theorem al6:aS O (am (codeOf Tryz.f197) 1 26) (aU Ae sF Ik):=bH g0 (by kernel_rfl) ae fun y=>by kernel_rfl
abbrev i197:Shape:=⟨[aI 0 .str,aj 1],[],19⟩
abbrev Ky:Shape:=⟨[ag 4],[],19⟩
noncomputable def f197(a:i197.J):Option Ky.J:=
(Ik ((a.1.1,a.1.2.1,(a.1.1.length:Int),(0:Int),()),())).bind fun b=>
(match b with
|.inl c=>
 some ((c.1.1,()),())
|.inr d=>
 some ((((-1):Int),()),()))
noncomputable def _b:aD:=aG ad Tryz.f197 i197 Ky [] f197
theorem arI:aA O 197 _b:=aK g0 Tryz.func197 (by kernel_rfl) (a7 al6 ae) (fun y=>by kernel_rfl) fun a=>by kernel_rfl
noncomputable abbrev auC:a_:=[(197,_b)]
theorem avA:aQ O (aW ad auC):=aV ⟨arI,⟨⟩⟩
abbrev i150:Shape:=⟨[aI 0 .str,aj 1],[],9⟩
abbrev Yw:Shape:=⟨[ao 4],[],9⟩
noncomputable def f150(a:i150.J):Option Yw.J:=
(f197 ((a.1.1,a.1.2.1,()),())).bind fun b=>
 some (((decide (b.1.1>=(0:Int))),()),())
noncomputable def _E:aD:=aG ad Tryz.f150 i150 Yw [] f150
theorem ar2:aA O 150 _E:=aK avA Tryz.func150 (by kernel_rfl) ae (fun y=>by kernel_rfl) fun a=>by kernel_rfl
noncomputable abbrev apy:a_:=[(104,_5),(149,_F),(150,_E)]
theorem VW:aQ O (aW ad apy):=aV ⟨ash,ar3,ar2,⟨⟩⟩
abbrev yW:Shape:=⟨[(1,.an (.fn 104 [])),ba 7 3000448,aI 12 .need,ag 13,ag 14],[a' 3000448 .str 7 0],30⟩
abbrev sq:List aP:=[(.ret,⟨[ao 6],[],30⟩),(.exit 0,⟨[],[],30⟩)]
noncomputable def y8(y:yW.J):bG yW sq:=
 bif(decide (y.1.2.2.2.2.1<y.1.2.2.2.1)) then
(aO y.1.2.2.1 y.1.2.2.2.2.1).bind fun a=>
(f104 (((a.name,a.kind,a.aX,()),()),())).bind fun b=>
(f150 ((y.2.1,b.1.1,()),())).bind fun c=>
 bif c.1.1 then
 some (.inr (.inl ((true,()),())))
else
(f104 (((a.name,a.kind,a.aX,()),()),())).bind fun d=>
(b9 16 y.2.1 ([d.1.1]:List B)).bind fun e=>
 some (.inl (((),(),y.1.2.2.1,y.1.2.2.2.1,(IntKind.i64.wrap (y.1.2.2.2.2.1+(1:Int))),()),e,()))
else
 some (.inr (.inr ((),())))
noncomputable def FR:yW.J->Option (aB sq):=br y8
theorem ais:aS O (am (codeOf Tryz.f103) 1 58) (aU yW sq FR):=bH VW (by kernel_rfl) ae fun y=>by kernel_rfl
abbrev Vj:Shape:=⟨[aI 0 .need,(1,.an (.fn 104 [])),aI 2 .str],[],30⟩
abbrev UQ:Shape:=⟨[ao 6],[],30⟩
noncomputable def Ci(a:Vj.J):Option UQ.J:=
(f149 ((a.1.2.2.1,()),())).bind fun b=>
(FR (((),(),a.1.1,(a.1.1.length:Int),(0:Int),()),b.2.1,())).bind fun c=>
(match c with
|.inl d=>
 some ((d.1.1,()),())
|.inr e=>
 some ((false,()),()))
noncomputable def VR:aD:=aG ad Tryz.f103 Vj UQ [] Ci
theorem anO:aA O 103 VR:=aK VW Tryz.func103 (by kernel_rfl) (a7 ais ae) (fun y=>by kernel_rfl) fun a=>by kernel_rfl
noncomputable abbrev auH:a_:=[(192,Lh)]
theorem aaj:aQ O (aW ad auH):=aV ⟨W2,⟨⟩⟩
abbrev Au:Shape:=⟨[aI 0 .need,ag 3],[],19⟩
abbrev HQ:List aP:=[(.ret,⟨[ao 2],[],19⟩),(.exit 0,⟨[aI 0 .need],[],19⟩)]
noncomputable def A'(y:Au.J):bG Au HQ:=
 bif(decide (y.1.2.1<(y.1.1.length:Int))) then
(aO y.1.1 y.1.2.1).bind fun a=>
(f192 (((a.name,a.kind,a.aX,()),()),())).bind fun b=>
 bif(!b.1.1) then
 some (.inr (.inl ((false,()),())))
else
 some (.inl ((y.1.1,(IntKind.i64.wrap (y.1.2.1+(1:Int))),()),()))
else
 some (.inr (.inr ((y.1.1,()),())))
noncomputable def Ix:Au.J->Option (aB HQ):=br A'
theorem amt:aS O (am (codeOf Tryz.f141) 1 26) (aU Au HQ Ix):=bH aaj (by kernel_rfl) ae fun y=>by kernel_rfl
abbrev i141:Shape:=⟨[aI 0 .need],[],19⟩
abbrev YE:Shape:=⟨[ao 2],[],19⟩
noncomputable def f141(a:i141.J):Option YE.J:=
(Ix ((a.1.1,(0:Int),()),())).bind fun b=>
(match b with
|.inl c=>
 some ((c.1.1,()),())
|.inr d=>
 some (((decide ((d.1.1.length:Int)<=(6:Int))),()),()))
noncomputable def _J:aD:=aG ad Tryz.f141 i141 YE [] f141
theorem z141:aA O 141 _J:=aK aaj Tryz.func141 (by kernel_rfl) (a7 amt ae) (fun y=>by kernel_rfl) fun a=>by kernel_rfl
abbrev yR:Shape:=⟨[aI 0 .str,ag 3,ag 4],[],25⟩
abbrev Fs:List aP:=[(.ret,⟨[ao 2],[],25⟩),(.exit 2,⟨[aI 0 .str,ag 3],[],25⟩)]
noncomputable def y4(y:yR.J):bG yR Fs:=
 bif(decide (y.1.2.2.1<y.1.2.1)) then
(aO y.1.1 y.1.2.2.1).bind fun a=>
(aO y.1.1 y.1.2.1).bind fun b=>
 bif(a==b) then
 some (.inr (.inl ((true,()),())))
else
 some (.inl ((y.1.1,y.1.2.1,(IntKind.i64.wrap (y.1.2.2.1+(1:Int))),()),()))
else
 some (.inr (.inr ((y.1.1,y.1.2.1,()),())))
noncomputable def FM:yR.J->Option (aB Fs):=br y4
theorem aij:aS O (am (c4 (am (codeOf Tryz.f142) 1 26)) 52 1682) (aU yR Fs FM):=bH g0 (by kernel_rfl) ae fun y=>by kernel_rfl
abbrev At:Shape:=⟨[aI 0 .str,ag 3],[],25⟩
abbrev HP:List aP:=[(.ret,⟨[ao 2],[],25⟩),(.exit 0,⟨[],[],25⟩)]
noncomputable def A_(y:At.J):bG At HP:=
 bif(decide (y.1.2.1<(y.1.1.length:Int))) then
(FM ((y.1.1,y.1.2.1,(0:Int),()),())).bind fun a=>
(match a with
|.inl b=>
 some (.inr (.inl ((b.1.1,()),())))
|.inr c=>
 some (.inl ((c.1.1,(IntKind.i64.wrap (c.1.2.1+(1:Int))),()),())))
else
 some (.inr (.inr ((),())))
noncomputable def Iw:At.J->Option (aB HP):=br A_
theorem ams:aS O (am (codeOf Tryz.f142) 1 26) (aU At HP Iw):=bH g0 (by kernel_rfl) (a7 aij ae) fun y=>by kernel_rfl
abbrev i142:Shape:=⟨[aI 0 .str],[],25⟩
abbrev YD:Shape:=⟨[ao 2],[],25⟩
noncomputable def f142(a:i142.J):Option YD.J:=
(Iw ((a.1.1,(0:Int),()),())).bind fun b=>
(match b with
|.inl c=>
 some ((c.1.1,()),())
|.inr d=>
 some ((false,()),()))
noncomputable def _I:aD:=aG ad Tryz.f142 i142 YD [] f142
theorem ar5:aA O 142 _I:=aK g0 Tryz.func142 (by kernel_rfl) (a7 ams ae) (fun y=>by kernel_rfl) fun a=>by kernel_rfl
noncomputable abbrev ay2:a_:=[(141,_J),(142,_I)]
theorem ac2:aQ O (aW ad ay2):=aV ⟨z141,ar5,⟨⟩⟩
abbrev BD:Shape:=⟨[aI 1 .need,ba 5 3000320,ag 6],[a' 3000320 .str 5 0],30⟩
abbrev Bu:List aP:=[(.exit 0,⟨[aI 1 .need,ba 5 3000320],[a' 3000320 .str 5 0],30⟩)]
noncomputable def B4(y:BD.J):bG BD Bu:=
 bif(decide (y.1.2.2.1<(y.1.1.length:Int))) then
(aO y.1.1 y.1.2.2.1).bind fun a=>
(b9 16 y.2.1 ([a.name]:List B)).bind fun b=>
 some (.inl ((y.1.1,(),(IntKind.i64.wrap (y.1.2.2.1+(1:Int))),()),b,()))
else
 some (.inr ((y.1.1,(),()),y.2.1,()))
noncomputable def Jz:BD.J->Option (aB Bu):=br B4
theorem aod:aS O (am (codeOf Tryz.f89) 1 58) (aU BD Bu Jz):=bH ac2 (by kernel_rfl) ae fun y=>by kernel_rfl
abbrev i89:Shape:=⟨[aj 0,aI 1 .need],[],30⟩
abbrev aaU:Shape:=⟨[ao 4],[],30⟩
noncomputable def f89(a:i89.J):Option aaU.J:=
(Jz ((a.1.2.1,(),(0:Int),()),([a.1.1]:List B),())).bind fun b=>
(f141 ((b.1.1,()),())).bind fun c=>
 bif c.1.1 then
(f142 ((b.2.1,()),())).bind fun d=>
 some (((!d.1.1),()),())
else
 some ((false,()),())
noncomputable def acy:aD:=aG ad Tryz.f89 i89 aaU [] f89
theorem avR:aA O 89 acy:=aK ac2 Tryz.func89 (by kernel_rfl) (a7 aod ae) (fun y=>by kernel_rfl) fun a=>by kernel_rfl
abbrev tR(ns:List bv):Prop:=cj ns.length/\∀n,n∈ns->xV n
theorem C3(n:Nat)(k:Nat):decide ((n:Int)<=(k:Int))=decide (n<=k):=by by_cases h:n<=k<;>simp[h]<;>omega
theorem ahs(a)(hs:tR a.1.1):f141 a=some ((a.1.1.all dC&&decide (a.1.1.length<=6),()),()):=by
 obtain⟨⟨ns,u⟩,bV⟩:=a;obtain⟨hl,hn⟩:=hs;have hl:ns.length<=2097152:=hl;have key:Ix ((ns,((0:Int),())),())=some (bif allI (fun _ n=>dC n) 0 ns then .inr ((ns,()),()) else .inl ((false,()),())):=by
  refine fV A' ns (fun i=>((ns,((i:Int),())),())) _ _ _ (fun i x hx=>?_) ?_
  ·have hi:=cT hx;have hw:ar i:=by unfold ar;omega
   have hb:=hn x (List.mem_of_getElem? hx);simp only[A',ce hi,cond_true,b4,hx,Option.bind_some];rw[Q6 _ hb.1 hb.2];simp only[Option.bind_some,bU hw];cases dC x<;>rfl
  ·simp only[A',du,cond_false]
 rw[gR] at key;simp only[f141,key,Option.bind_some];cases List.all ns dC with
 |false=>rfl
 |true=>have:=C3 ns.length 6;simp only[cond_true,Bool.true_and];rw[<-this];rfl
theorem ahB(a)(hs:tR a.1.1):Cj a=some ((a.1.1.all dC,()),()):=by
 obtain⟨⟨ns,u⟩,bV⟩:=a;obtain⟨hl,hn⟩:=hs;have hl:ns.length<=2097152:=hl;have key:FS (((),(ns,((ns.length:Int),((0:Int),())))),())=some (bif allI (fun _ n=>dC n) 0 ns then .inr ((),()) else .inl ((false,()),())):=by
  refine fV y9 ns (fun i=>(((),(ns,((ns.length:Int),((i:Int),())))),())) _ _ _ (fun i x hx=>?_) ?_
  ·have hi:=cT hx;have hw:ar i:=by unfold ar;omega
   have hb:=hn x (List.mem_of_getElem? hx);simp only[y9,ce hi,cond_true,b4,hx,Option.bind_some];rw[yI _ hb.1 hb.2];simp only[Option.bind_some,bU hw];cases dC x<;>rfl
  ·simp only[y9,du,cond_false]
 rw[gR] at key;simp only[Cj,key,Option.bind_some];cases List.all ns dC<;>rfl
def jU:List B->List B->Bool
 |_,[]=>false
 |acc,x::r=>acc.contains x||jU (acc++[x]) r
theorem ak2(xs:List B):∀(r:List B) (k:Nat),r=xs.drop k->allI (fun i x=>!((xs.take i).contains x)) k r=!jU (xs.take k) r:=by
 intro r;induction r with
 |nil=>intro k _;rfl
 |cons x r ih=>
  intro k hr;have c_:r=xs.drop (k+1):=by
   have:=congrArg List.tail hr;simpa using this
  have hx:xs[k]? =some x:=by
   have:=congrArg (fun l=>l[0]?) hr
   simpa using this.symm
  have e1:xs.take (k+1)=xs.take k++[x]:=by rw[List.take_add_one,hx];rfl
  simp only[allI,jU,ih (k+1) c_,e1,Bool.not_or]
theorem anv(bj:List B)(x:B):bj.all (fun y=>!(y==x))=!bj.contains x:=by
 induction bj with
 |nil=>rfl
 |cons y bj ih=>
  simp only[List.all_cons,ih,List.contains_cons,Bool.not_or];congr 2
  cases h:y==x with
  |true=>rw[eq_of_beq h];simp
  |false=>
   cases h2:x==y with
   |true=>rw[eq_of_beq h2] at h;simp at h
   |false=>rfl
theorem ahr(a)(hs:cj a.1.1.length):f142 a=some ((jU [] a.1.1,()),()):=by
 obtain⟨⟨xs,u⟩,bV⟩:=a;have hs:xs.length<=2097152:=hs;have inner:∀(i:Nat) (x:B),xs[i]? =some x->FM ((xs,((i:Int),((0:Int),()))),())=some (bif !((xs.take i).contains x) then .inr ((xs,((i:Int),())),()) else .inl ((true,()),())):=by
  intro i x hx;have hi:=cT hx;have hl:(xs.take i).length=i:=by rw[List.length_take];omega
  have:=fV y4 (xs.take i) (fun k=>((xs,((i:Int),((k:Int),()))),())) (fun _ y=>!(y==x)) (.inl ((true,()),())) (.inr ((xs,((i:Int),())),())) (fun k y hy=>?_) ?_
  ·have:=this;rw[gR,anv] at this;exact this
  ·have hk:=cT hy;rw[hl] at hk;have hw:ar k:=by unfold ar;omega
   have ec:xs[k]? =some y:=by
    rw[List.getElem?_take,if_pos hk] at hy;exact hy
   simp only[y4,ce hk,cond_true,b4,ec,hx,Option.bind_some,bU hw];cases (y==x)<;>rfl
  ·simp only[y4,hl,du,cond_false]
 have key:Iw ((xs,((0:Int),())),())=some (bif allI (fun i x=>!((xs.take i).contains x)) 0 xs then .inr ((),()) else .inl ((true,()),())):=by
  refine fV A_ xs (fun i=>((xs,((i:Int),())),())) _ _ _ (fun i x hx=>?_) ?_
  ·have hi:=cT hx;have hw:ar i:=by unfold ar;omega
   simp only[A_,ce hi,cond_true,inner i x hx,Option.bind_some];cases (xs.take i).contains x
   ·simp only[Bool.not_false,cond_true,bU hw]
   ·rfl
  ·simp only[A_,du,cond_false]
 rw[ak2 xs xs 0 rfl] at key;simp only[f142,key,Option.bind_some,List.take_zero];cases jU [] xs<;>rfl
def qG(name:B)(ns:List bv):Bool:=ns.all dC&&decide (ns.length<=6)&&!jU [] (name::ns.map (·.name))
theorem ahq(a)(hs:tR a.1.2.1)(hn:cj a.1.1.length):f89 a=some ((qG a.1.1 a.1.2.1,()),()):=by
 obtain⟨⟨name,ns,u⟩,bV⟩:=a;have hl:ns.length<=2097152:=hs.1;have key:Jz ((ns,((),((0:Int),()))),(([name]:List B),()))=some (((ns,((),())),((name::ns.map (·.name)),()))):=by
  have:=Qy B4 ns (fun i (out:List B)=>((ns,((),((i:Int),()))),(out,()))) (fun(n:bv) out=>out++[n.name]) (fun out=>(((ns,((),())),(out,())):aB Bu)) (fun i out=>out.length=i+1) [name] rfl (fun i x out hx dq=>?_) (fun out _=>?_)
  ·refine this.trans ?_
   have e:∀(r:List bv) (out:List B),r.foldl (fun s x=>s++[x.name]) out=out++r.map (·.name):=by
    intro r;induction r with
    |nil=>intro out;simp
    |cons n r ih=>intro out;simp[ih]
   rw[e];rfl
  ·have hi:=cT hx;have hw:ar i:=by unfold ar;omega
   refine⟨?_,by simp[dq]⟩
   simp only[B4,ce hi,cond_true,b4,hx,Option.bind_some];rw[dh (by decide) (by unfold ar;simp only[List.length_cons,List.length_nil];omega)]
   simp only[Option.bind_some,bU hw]
  ·simp only[B4,du,cond_false]
 simp only[f89,key,Option.bind_some];rw[ahs _ hs];simp only[Option.bind_some];unfold qG;cases az:(List.all ns dC&&decide (ns.length<=6)) with
 |false=>rfl
 |true=>
  simp only[Bool.and_eq_true,decide_eq_true_eq] at az;have aAo:=ahr ((name::ns.map (·.name),()),()) (show(name::ns.map (·.name)).length<=2097152 by simp only[List.length_cons,List.length_map];omega)
  simp only[cond_true,Bool.true_and,aAo,Option.bind_some]
theorem alu(a)(hs:cj a.1.1.length):∃n:Int,f197 a=some ((n,()),())/\decide (n>=0)=a.1.1.contains a.1.2.1:=by
 obtain⟨⟨xs,x,u⟩,bV⟩:=a;have hs:xs.length<=2097152:=hs;have key:Ik ((xs,(x,((xs.length:Int),((0:Int),())))),())=_:=FI AY xs (fun i (_:Unit)=>((xs,(x,((xs.length:Int),((i:Int),())))),()))
  (fun i y _=>some (bif x==y then .inr ((.inl (((i:Int),()),())):aB sF) else .inl ())) (fun _=>.inr ((),())) (fun i y s hy=>?_) (fun s=>?_) ()
 ·have fold:∀(r:List B) (k:Nat),∃n:Int,(eT (fun i y (_:Unit)=>some (bif x==y then .inr ((.inl (((i:Int),()),())):aB sF) else .inl ())) (fun _=>(.inr ((),()):aB sF)) k r ()).bind (fun asH=>
    (match asH with
    |.inl asG=>some ((asG.1.1,()),())
    |.inr aBC=>some ((((-1):Int),()),()):Option Ky.J))=some ((n,()),())/\decide (n>=0)=r.contains x:=by
   intro r;induction r with
   |nil=>intro k;exact⟨-1,rfl,rfl⟩
   |cons y r ih=>
    intro k;simp only[eT,List.contains_cons];cases hxy:x==y with
    |true=>exact⟨k,rfl,by simp⟩
    |false=>
     obtain⟨n,h1,h2⟩:=ih (k+1);exact⟨n,h1,by simpa using h2⟩
  obtain⟨n,h1,h2⟩:=fold xs 0;refine⟨n,?_,h2⟩;simp only[f197];rw[key];exact h1
 ·have hi:=cT hy;have hw:ar i:=by unfold ar;omega
  simp only[AY,ce hi,cond_true,b4,hy,Option.bind_some,bU hw];cases x==y<;>rfl
 ·simp only[AY,du,cond_false]
theorem agt(a)(hs:cj a.1.1.length):f150 a=some ((a.1.1.contains a.1.2.1,()),()):=by
 obtain⟨n,h1,h2⟩:=alu ((a.1.1,(a.1.2.1,())),()) hs;simp only[f150,h1,Option.bind_some,h2]
theorem ajt(a)(hs:cj a.1.1.length):f149 a=some (((),()),(a.1.1,())):=by
 obtain⟨⟨xs,u⟩,bV⟩:=a;have hs:xs.length<=2097152:=hs;have h2:(b9 16 ([]:List B) xs).bind (fun x=>some (((),()),(x,())))=(some (((),()),(xs,())):Option KA.J):=by
  rw[dh (by decide) (by unfold ar;simp only[List.length_nil];omega)];rfl
 simp only[f149];rw[h2];unfold qn;split
 ·rfl
 ·rename_i h;exact absurd (fun he:xs=[]=>by subst he;rfl) h
theorem aeI(a)(hs:tR a.1.1)(hm:a.1.2.2.1.length<=1):Ci a=some ((jU a.1.2.2.1 (a.1.1.map (·.name)),()),()):=by
 obtain⟨⟨ns,mJ,more,u⟩,bV⟩:=a;have hl:ns.length<=2097152:=hs.1;have hm:more.length<=1:=hm;have hc:=ajt ((more,()),()) (show more.length<=2097152 by omega)
 have key:(FR (((),((),(ns,((ns.length:Int),((0:Int),()))))),(more,())))=_:=l4 y8 ns (fun i (out:List B)=>(((),((),(ns,((ns.length:Int),((i:Int),()))))),(out,())))
  (fun i (n:bv) out=>some (bif out.contains n.name then .inr ((.inl ((true,()),())):aB sq) else .inl (out++[n.name]))) (fun _=>.inr ((),())) (fun i out=>out.length<=i+1) more (by omega) (fun i x out hx dq=>?_) (fun out _=>?_)
 ·have fold:∀(r:List bv) (k:Nat) (out:List B),(eT (fun i (n:bv) out=>some (bif out.contains n.name then .inr ((.inl ((true,()),())):aB sq) else .inl (out++[n.name]))) (fun _=>(.inr ((),()):aB sq)) k r out)=
    some (bif jU out (r.map (·.name)) then .inl ((true,()),()) else .inr ((),())):=by
   intro r;induction r with
   |nil=>intro k out;rfl
   |cons n r ih=>
    intro k out;simp only[eT,List.map_cons,jU];cases out.contains n.name with
    |true=>rfl
    |false=>simp only[cond_false,Bool.false_or];exact ih _ _
  rw[fold] at key;simp only[Ci,hc,Option.bind_some,key];cases jU more (ns.map (·.name))<;>rfl
 ·have hi:=cT hx;have hw:ar i:=by unfold ar;omega
  refine⟨?_,fun aN ak=>?_⟩
  ·simp only[y8,ce hi,cond_true,b4,hx,Option.bind_some,f104];rw[agt _ (show cj out.length by show out.length<=2097152;omega)]
   simp only[Option.bind_some];cases az:out.contains x.name with
   |true=>rfl
   |false=>
    simp only[cond_false];rw[dh (by decide) (by unfold ar;simp only[List.length_cons,List.length_nil];omega)]
    simp only[Option.bind_some,bU hw,Option.map_some]
  ·simp only[Option.some.injEq] at ak;cases az:out.contains x.name with
   |true=>rw[az] at ak;cases ak
   |false=>
    rw[az] at ak;simp only[cond_false,Sum.inl.injEq] at ak;subst ak;simp only[List.length_append,List.length_cons,List.length_nil];omega
 ·simp only[y8,du,cond_false]
abbrev i146:Shape:=⟨[(0,.an (.d (.int .u8)))],[],29⟩
abbrev Yz:Shape:=⟨[ao 2],[],29⟩
noncomputable def f146(a:i146.J):Option Yz.J:=
 bif(decide (a.1.1>=(97:Int))) then
 bif(!(decide (a.1.1<=(122:Int)))) then
 bif(decide (a.1.1>=(48:Int))) then
 bif(!(decide (a.1.1<=(57:Int)))) then
 bif(!(a.1.1==(46:Int))) then
 bif(!(a.1.1==(95:Int))) then
 some (((a.1.1==(45:Int)),()),())
else
 some ((true,()),())
else
 some ((true,()),())
else
 some ((true,()),())
else
 bif(!(a.1.1==(46:Int))) then
 bif(!(a.1.1==(95:Int))) then
 some (((a.1.1==(45:Int)),()),())
else
 some ((true,()),())
else
 some ((true,()),())
else
 some ((true,()),())
else
 bif(decide (a.1.1>=(48:Int))) then
 bif(!(decide (a.1.1<=(57:Int)))) then
 bif(!(a.1.1==(46:Int))) then
 bif(!(a.1.1==(95:Int))) then
 some (((a.1.1==(45:Int)),()),())
else
 some ((true,()),())
else
 some ((true,()),())
else
 some ((true,()),())
else
 bif(!(a.1.1==(46:Int))) then
 bif(!(a.1.1==(95:Int))) then
 some (((a.1.1==(45:Int)),()),())
else
 some ((true,()),())
else
 some ((true,()),())
noncomputable def Dh:aD:=aG ad Tryz.f146 i146 Yz [] f146
theorem z146:aA O 146 Dh:=aK g0 Tryz.func146 (by kernel_rfl) ae (fun y=>by kernel_rfl) fun a=>by kernel_rfl
noncomputable abbrev ay0:a_:=[(75,oL),(146,Dh)]
theorem ac1:aQ O (aW ad ay0):=aV ⟨z75,z146,⟨⟩⟩
abbrev Bz:Shape:=⟨[aj 0,ag 3],[],26⟩
abbrev I_:List aP:=[(.ret,⟨[ao 2],[],26⟩),(.exit 0,⟨[aj 0],[],26⟩)]
noncomputable def B1(y:Bz.J):bG Bz I_:=
 bif(decide (y.1.2.1<(y.1.1.length:Int))) then
(aO y.1.1 y.1.2.1).bind fun a=>
(f146 (((a.toNat:Int),()),())).bind fun b=>
 bif(!b.1.1) then
 some (.inr (.inl ((false,()),())))
else
 some (.inl ((y.1.1,(IntKind.i64.wrap (y.1.2.1+(1:Int))),()),()))
else
 some (.inr (.inr ((y.1.1,()),())))
noncomputable def Jw:Bz.J->Option (aB I_):=br B1
theorem aoa:aS O (am (codeOf Tryz.f91) 1 26) (aU Bz I_ Jw):=bH ac1 (by kernel_rfl) ae fun y=>by kernel_rfl
abbrev i91:Shape:=⟨[aj 0],[],26⟩
abbrev aaS:Shape:=⟨[ao 2],[],26⟩
noncomputable def f91(a:i91.J):Option aaS.J:=
(Jw ((a.1.1,(0:Int),()),())).bind fun b=>
(match b with
|.inl c=>
 some ((c.1.1,()),())
|.inr d=>
(f75 (((d.1.1.length:Int),(1:Int),(10:Int),()),())).bind fun e=>
 bif e.1.1 then
 bif(!(d.1.1==([46]:B))) then
 some (((!(d.1.1==([46,46]:B))),()),())
else
 some ((false,()),())
else
 some ((false,()),()))
noncomputable def acx:aD:=aG ad Tryz.f91 i91 aaS [] f91
theorem z91:aA O 91 acx:=aK ac1 Tryz.func91 (by kernel_rfl) (a7 aoa ae) (fun y=>by kernel_rfl) fun a=>by kernel_rfl
noncomputable abbrev aud:a_:=[(73,p0),(91,acx)]
theorem aac:aQ O (aW ad aud):=aV ⟨ri,z91,⟨⟩⟩
abbrev Ah:Shape:=⟨[ba 3 3000192,ag 4],[a' 3000192 .str 3 0],25⟩
abbrev HC:List aP:=[(.ret,⟨[ao 2],[],25⟩),(.exit 0,⟨[ba 3 3000192],[a' 3000192 .str 3 0],25⟩)]
noncomputable def A1(y:Ah.J):bG Ah HC:=
 bif(decide (y.1.2.1<(y.2.1.length:Int))) then
(be y.2.1.length y.1.2.1).bind fun a=>
(y.2.1[a]?).bind fun b=>
(f91 ((b,()),())).bind fun c=>
 bif(!c.1.1) then
 some (.inr (.inl ((false,()),())))
else
 some (.inl (((),(IntKind.i64.wrap (y.1.2.1+(1:Int))),()),y.2.1,()))
else
 some (.inr (.inr (((),()),y.2.1,())))
noncomputable def Io:Ah.J->Option (aB HC):=br A1
theorem al9:aS O (am (codeOf Tryz.f193) 1 58) (aU Ah HC Io):=bH aac (by kernel_rfl) ae fun y=>by kernel_rfl
abbrev i193:Shape:=⟨[aj 0],[],25⟩
abbrev X2:Shape:=⟨[ao 2],[],25⟩
noncomputable def f193(a:i193.J):Option X2.J:=
(f73 ((a.1.1,(47:Int),(IntKind.i64.wrap ((a.1.1.length:Int)+(1:Int))),()),())).bind fun b=>
(Io (((),(0:Int),()),b.2.1,())).bind fun c=>
(match c with
|.inl d=>
 some ((d.1.1,()),())
|.inr e=>
 some (((decide ((e.2.1.length:Int)<=(5:Int))),()),()))
noncomputable def Lg:aD:=aG ad Tryz.f193 i193 X2 [] f193
theorem z193:aA O 193 Lg:=aK aac Tryz.func193 (by kernel_rfl) (a7 al9 ae) (fun y=>by kernel_rfl) fun a=>by kernel_rfl
noncomputable abbrev ayZ:a_:=[(75,oL)]
theorem Nc:aQ O (aW ad ayZ):=aV ⟨z75,⟨⟩⟩
abbrev SG:Shape:=⟨[aj 0,ag 3],[],25⟩
abbrev Sk:List aP:=[(.norm,⟨[aj 0,ag 3,ao 21],[],25⟩)]
noncomputable def II(y:SG.J):Option (aB Sk):=
(aO y.1.1 y.1.2.1).bind fun a=>
 bif((a.toNat:Int) !=(10:Int)) then
(aO y.1.1 y.1.2.1).bind fun b=>
(f75 (((IntKind.i64.wrap (b.toNat:Int)),(32:Int),(126:Int),()),())).bind fun c=>
 some ((y.1.1,y.1.2.1,(!c.1.1),()),())
else
 some ((y.1.1,y.1.2.1,false,()),())
theorem alC:aS O (am (c4 (am (codeOf Tryz.f92) 1 26)) 52 840) (aU SG Sk II):=cd Nc (by kernel_rfl) ae fun y=>by kernel_rfl
abbrev By:Shape:=⟨[aj 0,ag 3],[],25⟩
abbrev I9:List aP:=[(.ret,⟨[ao 2],[],25⟩),(.exit 0,⟨[aj 0],[],25⟩)]
noncomputable def B0(y:By.J):bG By I9:=
 bif(decide (y.1.2.1<(y.1.1.length:Int))) then
(II ((y.1.1,y.1.2.1,()),())).bind fun a=>
 bif a.1.2.2.1 then
 some (.inr (.inl ((false,()),())))
else
 some (.inl ((a.1.1,(IntKind.i64.wrap (a.1.2.1+(1:Int))),()),()))
else
 some (.inr (.inr ((y.1.1,()),())))
noncomputable def Jv:By.J->Option (aB I9):=br B0
theorem an9:aS O (am (codeOf Tryz.f92) 1 26) (aU By I9 Jv):=bH Nc (by kernel_rfl) (a7 alC ae) fun y=>by kernel_rfl
abbrev i92:Shape:=⟨[aj 0],[],25⟩
abbrev aaR:Shape:=⟨[ao 2],[],25⟩
noncomputable def f92(a:i92.J):Option aaR.J:=
(Jv ((a.1.1,(0:Int),()),())).bind fun b=>
(match b with
|.inl c=>
 some ((c.1.1,()),())
|.inr d=>
 some (((decide ((d.1.1.length:Int)<=(80:Int))),()),()))
noncomputable def acw:aD:=aG ad Tryz.f92 i92 aaR [] f92
theorem avQ:aA O 92 acw:=aK Nc Tryz.func92 (by kernel_rfl) (a7 an9 ae) (fun y=>by kernel_rfl) fun a=>by kernel_rfl
noncomputable abbrev auG:a_:=[(75,oL),(92,acw),(193,Lg)]
theorem avD:aQ O (aW ad auG):=aV ⟨z75,avQ,z193,⟨⟩⟩
abbrev i143:Shape:=⟨[b_ 0 [ah,aZ,aZ,ah]],[],42⟩
abbrev YC:Shape:=⟨[ao 2],[],42⟩
noncomputable def f143(a:i143.J):Option YC.J:=
(f193 ((a.1.1.1,()),())).bind fun b=>
 bif(!b.1.1) then
 some ((false,()),())
else
 bif(a.1.1.2.1==(1:Int)) then
(f75 ((a.1.1.2.2.1,(0:Int),(7:Int),()),())).bind fun c=>
 bif c.1.1 then
 some (((a.1.1.2.2.2.1==([]:B)),()),())
else
 some ((false,()),())
else
 bif(a.1.1.2.1==(2:Int)) then
(f75 ((a.1.1.2.2.1,(0:Int),(7:Int),()),())).bind fun d=>
 bif d.1.1 then
(f92 ((a.1.1.2.2.2.1,()),())).bind fun e=>
 some ((e.1.1,()),())
else
 some ((false,()),())
else
 bif(a.1.1.2.1==(3:Int)) then
 bif(a.1.1.2.2.1==(0:Int)) then
(f193 ((a.1.1.2.2.2.1,()),())).bind fun f=>
 some ((f.1.1,()),())
else
 some ((false,()),())
else
 some ((false,()),())
noncomputable def Lp:aD:=aG ad Tryz.f143 i143 YC [] f143
theorem z143:aA O 143 Lp:=aK avD Tryz.func143 (by kernel_rfl) ae (fun y=>by kernel_rfl) fun a=>by kernel_rfl
abbrev i231:Shape:=⟨[(0,.an (.d (.int .u8)))],[],29⟩
abbrev XD:Shape:=⟨[ao 2],[],29⟩
noncomputable def f231(a:i231.J):Option XD.J:=
 bif(decide (a.1.1>=(97:Int))) then
 bif(!(decide (a.1.1<=(122:Int)))) then
 bif(decide (a.1.1>=(48:Int))) then
 bif(!(decide (a.1.1<=(57:Int)))) then
 bif(!(a.1.1==(46:Int))) then
 bif(!(a.1.1==(95:Int))) then
 some (((a.1.1==(45:Int)),()),())
else
 some ((true,()),())
else
 some ((true,()),())
else
 some ((true,()),())
else
 bif(!(a.1.1==(46:Int))) then
 bif(!(a.1.1==(95:Int))) then
 some (((a.1.1==(45:Int)),()),())
else
 some ((true,()),())
else
 some ((true,()),())
else
 some ((true,()),())
else
 bif(decide (a.1.1>=(48:Int))) then
 bif(!(decide (a.1.1<=(57:Int)))) then
 bif(!(a.1.1==(46:Int))) then
 bif(!(a.1.1==(95:Int))) then
 some (((a.1.1==(45:Int)),()),())
else
 some ((true,()),())
else
 some ((true,()),())
else
 some ((true,()),())
else
 bif(!(a.1.1==(46:Int))) then
 bif(!(a.1.1==(95:Int))) then
 some (((a.1.1==(45:Int)),()),())
else
 some ((true,()),())
else
 some ((true,()),())
noncomputable def ZY:aD:=aG ad Tryz.f231 i231 XD [] f231
theorem ary:aA O 231 ZY:=aK g0 Tryz.func231 (by kernel_rfl) ae (fun y=>by kernel_rfl) fun a=>by kernel_rfl
noncomputable abbrev auc:a_:=[(231,ZY)]
theorem aab:aQ O (aW ad auc):=aV ⟨ary,⟨⟩⟩
abbrev Af:Shape:=⟨[aj 0,ag 5,ag 6],[],17⟩
abbrev HB:List aP:=[(.ret,⟨[ao 2],[],17⟩),(.exit 0,⟨[aj 0],[],17⟩)]
noncomputable def AZ(y:Af.J):bG Af HB:=
 bif(decide (y.1.2.2.1<y.1.2.1)) then
(aO y.1.1 y.1.2.2.1).bind fun a=>
(f231 (((a.toNat:Int),()),())).bind fun b=>
 bif(!b.1.1) then
 some (.inr (.inl ((false,()),())))
else
 some (.inl ((y.1.1,y.1.2.1,(IntKind.i64.wrap (y.1.2.2.1+(1:Int))),()),()))
else
 some (.inr (.inr ((y.1.1,()),())))
noncomputable def Il:Af.J->Option (aB HB):=br AZ
theorem al7:aS O (am (codeOf Tryz.f195) 1 26) (aU Af HB Il):=bH aab (by kernel_rfl) ae fun y=>by kernel_rfl
abbrev i195:Shape:=⟨[aj 0],[],17⟩
abbrev X0:Shape:=⟨[ao 2],[],17⟩
noncomputable def f195(a:i195.J):Option X0.J:=
(Il ((a.1.1,(a.1.1.length:Int),(0:Int),()),())).bind fun b=>
(match b with
|.inl c=>
 some ((c.1.1,()),())
|.inr d=>
 some (((!(d.1.1==([]:B))),()),()))
noncomputable def _d:aD:=aG ad Tryz.f195 i195 X0 [] f195
theorem arJ:aA O 195 _d:=aK aab Tryz.func195 (by kernel_rfl) (a7 al7 ae) (fun y=>by kernel_rfl) fun a=>by kernel_rfl
noncomputable abbrev auE:a_:=[(195,_d)]
theorem avB:aQ O (aW ad auE):=aV ⟨arJ,⟨⟩⟩
abbrev i147:Shape:=⟨[aj 0],[],18⟩
abbrev Yy:Shape:=⟨[ao 2],[],18⟩
noncomputable def f147(a:i147.J):Option Yy.J:=
 bif(decide ((a.1.1.length:Int)<=(10:Int))) then
 bif(!(a.1.1==([46]:B))) then
 bif(!(a.1.1==([46,46]:B))) then
(f195 ((a.1.1,()),())).bind fun b=>
 some ((b.1.1,()),())
else
 some ((false,()),())
else
 some ((false,()),())
else
 some ((false,()),())
noncomputable def _H:aD:=aG ad Tryz.f147 i147 Yy [] f147
theorem ar4:aA O 147 _H:=aK avB Tryz.func147 (by kernel_rfl) ae (fun y=>by kernel_rfl) fun a=>by kernel_rfl
abbrev i196:Shape:=⟨[(0,.an (.d (.int .u8)))],[],9⟩
abbrev XZ:Shape:=⟨[ao 2],[],9⟩
noncomputable def f196(a:i196.J):Option XZ.J:=
 bif(decide (a.1.1>=(32:Int))) then
 some (((decide (a.1.1<=(126:Int))),()),())
else
 some ((false,()),())
noncomputable def _c:aD:=aG ad Tryz.f196 i196 XZ [] f196
theorem z196:aA O 196 _c:=aK g0 Tryz.func196 (by kernel_rfl) ae (fun y=>by kernel_rfl) fun a=>by kernel_rfl
noncomputable abbrev auD:a_:=[(196,_c)]
theorem LC:aQ O (aW ad auD):=aV ⟨z196,⟨⟩⟩
abbrev Qj:Shape:=⟨[aj 0,ag 3,ag 8,ag 9],[],24⟩
abbrev P0:List aP:=[(.norm,⟨[aj 0,ag 8,ag 9,ao 22],[],24⟩)]
noncomputable def F0(y:Qj.J):Option (aB P0):=
(aO y.1.1 y.1.2.1).bind fun a=>
(f196 (((a.toNat:Int),()),())).bind fun b=>
 bif(!b.1.1) then
(aO y.1.1 y.1.2.1).bind fun c=>
 some ((y.1.1,y.1.2.2.1,y.1.2.2.2.1,((c.toNat:Int) !=(10:Int)),()),())
else
 some ((y.1.1,y.1.2.2.1,y.1.2.2.2.1,false,()),())
theorem aii:aS O (am (c4 (am (codeOf Tryz.f148) 1 58)) 116 7474) (aU Qj P0 F0):=cd LC (by kernel_rfl) ae fun y=>by kernel_rfl
abbrev Ar:Shape:=⟨[aj 0,ag 8,ag 9],[],24⟩
abbrev HM:List aP:=[(.ret,⟨[ao 2],[],24⟩),(.exit 0,⟨[],[],24⟩)]
noncomputable def A9(y:Ar.J):bG Ar HM:=
 bif(decide (y.1.2.2.1<y.1.2.1)) then
(F0 ((y.1.1,y.1.2.2.1,y.1.2.1,y.1.2.2.1,()),())).bind fun a=>
 bif a.1.2.2.2.1 then
 some (.inr (.inl ((false,()),())))
else
 some (.inl ((a.1.1,a.1.2.1,(IntKind.i64.wrap (a.1.2.2.1+(1:Int))),()),()))
else
 some (.inr (.inr ((),())))
noncomputable def Iu:Ar.J->Option (aB HM):=br A9
theorem amq:aS O (am (codeOf Tryz.f148) 1 58) (aU Ar HM Iu):=bH LC (by kernel_rfl) (a7 aii ae) fun y=>by kernel_rfl
abbrev i148:Shape:=⟨[aj 0],[],24⟩
abbrev Yx:Shape:=⟨[ao 2],[],24⟩
noncomputable def f148(a:i148.J):Option Yx.J:=
 bif(decide ((a.1.1.length:Int)>(80:Int))) then
 some ((false,()),())
else
(Iu ((a.1.1,(a.1.1.length:Int),(0:Int),()),())).bind fun b=>
(match b with
|.inl c=>
 some ((c.1.1,()),())
|.inr d=>
 some ((true,()),()))
noncomputable def _G:aD:=aG ad Tryz.f148 i148 Yx [] f148
theorem z148:aA O 148 _G:=aK LC Tryz.func148 (by kernel_rfl) (a7 amq ae) (fun y=>by kernel_rfl) fun a=>by kernel_rfl
noncomputable abbrev aub:a_:=[(147,_H)]
theorem Lx:aQ O (aW ad aub):=aV ⟨ar4,⟨⟩⟩
abbrev RD:Shape:=⟨[ay 2 2 0,ay 3 3 0,aj 4],[ax 2 [lW],ax 3 [aZ]],17⟩
abbrev Rk:List aP:=[(.norm,⟨[ay 2 2 0,ay 3 3 0,ao 16],[ax 2 [lW],ax 3 [aZ]],17⟩)]
noncomputable def G4(y:RD.J):Option (aB Rk):=
 bif(!(decide (y.2.2.1.1>(5:Int)))) then
(f147 ((y.1.2.2.1,()),())).bind fun a=>
 some (((),(),(!a.1.1),()),(y.2.1.1,()),(y.2.2.1.1,()),())
else
 some (((),(),true,()),(y.2.1.1,()),(y.2.2.1.1,()),())
theorem akb:aS O (am (ka (am (codeOf Tryz.f199) 1 58)) 117 938) (aU RD Rk G4):=cd Lx (by kernel_rfl) ae fun y=>by kernel_rfl
abbrev Ad:Shape:=⟨[ay 2 2 0,ay 3 3 0],[ax 2 [lW],ax 3 [aZ]],17⟩
abbrev Hz:List aP:=[(.norm,⟨[ay 2 2 0],[ax 2 [lW]],17⟩),(.ret,⟨[ay 2 2 0],[ax 2 [lW]],17⟩)]
noncomputable def sO(x:B)(y:Ad.J):bG Ad Hz:=
(G4 (((),(),x,()),(y.2.1.1,()),((IntKind.i64.wrap (y.2.2.1.1+(1:Int))),()),())).bind fun a=>
 bif a.1.2.2.1 then
 some (.inr (.inr (((),()),(false,()),())))
else
 some (.inl (((),(),()),(a.2.1.1,()),(a.2.2.1.1,()),()))
noncomputable def vD(y:Ad.J):Option (aB Hz):=
 some (.inl (((),()),(y.2.1.1,()),()))
theorem al5:aS O (am (codeOf Tryz.f199) 1 58) (sz 266 6 Ad Hz sO vD):=OL (eV:=7) Lx Wq (by kernel_rfl) (a7 akb ae) (by kernel_rfl) (fun x y=>by kernel_rfl) fun y=>by kernel_rfl
abbrev i199:Shape:=⟨[aj 0],[],17⟩
abbrev XY:Shape:=⟨[ay 2 2 0],[ax 2 [lW]],17⟩
noncomputable def f199(a:i199.J):Option XY.J:=
(bif Nat.ble a.1.1.length kA then iD sO vD (bF (47:UInt8) a.1.1) (((),(),()),(false,()),((0:Int),()),()) else none).bind fun b=>
(match b with
|.inl c=>
 some (((),()),(true,()),())
|.inr d=>
 some (((),()),(d.2.1.1,()),()))
noncomputable def Lf:aD:=aG ad Tryz.f199 i199 XY [] f199
theorem W0:aA O 199 Lf:=aK Lx Tryz.func199 (by kernel_rfl) (a7 al5 ae) (fun y=>by kernel_rfl) fun a=>by kernel_rfl
noncomputable abbrev auA:a_:=[(148,_G),(199,Lf)]
theorem aai:aQ O (aW ad auA):=aV ⟨z148,W0,⟨⟩⟩
abbrev SY:Shape:=⟨[ay 1 1 0],[ax 1 [ah,aZ,aZ,ah]],39⟩
abbrev SB:List aP:=[(.norm,⟨[ay 1 1 0,ao 16],[ax 1 [ah,aZ,aZ,ah]],39⟩)]
noncomputable def IT(y:SY.J):Option (aB SB):=
(f199 ((y.2.1.1,()),())).bind fun a=>
 bif(!(!a.2.1.1)) then
 bif(!(decide (y.2.1.2.2.1<(0:Int)))) then
 some (((),(decide (y.2.1.2.2.1>(7:Int))),()),(y.2.1.1,y.2.1.2.1,y.2.1.2.2.1,y.2.1.2.2.2.1,()),())
else
 some (((),true,()),(y.2.1.1,y.2.1.2.1,y.2.1.2.2.1,y.2.1.2.2.2.1,()),())
else
 some (((),true,()),(y.2.1.1,y.2.1.2.1,y.2.1.2.2.1,y.2.1.2.2.2.1,()),())
theorem amo:aS O (am (codeOf Tryz.f152) 1 12) (aU SY SB IT):=cd aai (by kernel_rfl) ae fun y=>by kernel_rfl
abbrev i152:Shape:=⟨[b_ 0 [ah,aZ,aZ,ah]],[],39⟩
abbrev Yu:Shape:=⟨[ao 2],[],39⟩
noncomputable def f152(a:i152.J):Option Yu.J:=
(IT (((),()),(a.1.1.1,a.1.1.2.1,a.1.1.2.2.1,a.1.1.2.2.2.1,()),())).bind fun b=>
 bif b.1.2.1 then
 some ((false,()),())
else
 bif(b.2.1.2.1==(1:Int)) then
 some (((b.2.1.2.2.2.1==([]:B)),()),())
else
 bif(b.2.1.2.1==(2:Int)) then
(f148 ((b.2.1.2.2.2.1,()),())).bind fun c=>
 some ((c.1.1,()),())
else
 bif(b.2.1.2.1==(3:Int)) then
 bif(b.2.1.2.2.1==(0:Int)) then
(f199 ((b.2.1.2.2.2.1,()),())).bind fun d=>
 some ((d.2.1.1,()),())
else
 some ((false,()),())
else
 some ((false,()),())
noncomputable def _D:aD:=aG ad Tryz.f152 i152 Yu [] f152
theorem z152:aA O 152 _D:=aK aai Tryz.func152 (by kernel_rfl) (a7 amo ae) (fun y=>by kernel_rfl) fun a=>by kernel_rfl
def j'(n:Int):Bool:=(decide (97<=n)&&decide (n<=122))||(decide (48<=n)&&decide (n<=57))||n==46||n==95||n==45
theorem PG(a):f146 a=some ((j' a.1.1,()),()):=by
 obtain⟨⟨n,u⟩,bV⟩:=a;simp only[f146,j',ge_iff_le];generalize decide ((97:Int)<=n)=b1;generalize decide (n<=(122:Int))=b2;generalize decide ((48:Int)<=n)=b3;generalize decide (n<=(57:Int))=yb;generalize(n==(46:Int))=ya;generalize(n==(95:Int))=NH;generalize(n==(45:Int))=NG;cases b1<;>cases b2<;>cases b3<;>cases yb<;>cases ya<;>cases NH<;>cases NG<;>rfl
theorem agk(a):f231 a=some ((j' a.1.1,()),()):=by
 obtain⟨⟨n,u⟩,bV⟩:=a;simp only[f231,j',ge_iff_le];generalize decide ((97:Int)<=n)=b1;generalize decide (n<=(122:Int))=b2;generalize decide ((48:Int)<=n)=b3;generalize decide (n<=(57:Int))=yb;generalize(n==(46:Int))=ya;generalize(n==(95:Int))=NH;generalize(n==(45:Int))=NG;cases b1<;>cases b2<;>cases b3<;>cases yb<;>cases ya<;>cases NH<;>cases NG<;>rfl
def kf(s:B):Bool:=s.all (fun b=>j' b.toNat)&&within s.length 1 10&&!(s==[46])&&!(s==[46,46])
theorem ajk(a)(hs:cj a.1.1.length):f91 a=some ((kf a.1.1,()),()):=by
 obtain⟨⟨s,u⟩,bV⟩:=a;have hs:s.length<=2097152:=hs;have key:Jw ((s,((0:Int),())),())=some (bif allI (fun _ b=>j' b.toNat) 0 s then .inr ((s,()),()) else .inl ((false,()),())):=by
  refine fV B1 s (fun i=>((s,((i:Int),())),())) _ _ _ (fun i x hx=>?_) ?_
  ·have hi:=cT hx;have hw:ar i:=by unfold ar;omega
   simp only[B1,ce hi,cond_true,b4,hx,Option.bind_some,PG,bU hw];cases j' x.toNat<;>rfl
  ·simp only[B1,du,cond_false]
 rw[gR] at key;simp only[f91,key,Option.bind_some,kf];cases List.all s (fun b=>j' b.toNat) with
 |false=>rfl
 |true=>
  simp only[cond_true,n_,Option.bind_some,Bool.true_and];cases within (s.length:Int) 1 10<;>cases (s==[46])<;>rfl
theorem ajc(a)(hs:cj a.1.1.length):f147 a=some ((kf a.1.1,()),()):=by
 obtain⟨⟨s,u⟩,bV⟩:=a;have hs:s.length<=2097152:=hs;have key:Il ((s,((s.length:Int),((0:Int),()))),())=some (bif allI (fun _ b=>j' b.toNat) 0 s then .inr ((s,()),()) else .inl ((false,()),())):=by
  refine fV AZ s (fun i=>((s,((s.length:Int),((i:Int),()))),())) _ _ _ (fun i x hx=>?_) ?_
  ·have hi:=cT hx;have hw:ar i:=by unfold ar;omega
   simp only[AZ,ce hi,cond_true,b4,hx,Option.bind_some,agk,bU hw];cases j' x.toNat<;>rfl
  ·simp only[AZ,du,cond_false]
 rw[gR] at key;have xA:f195 ((s,()),())=some ((List.all s (fun b=>j' b.toNat)&&!(s==([]:B)),()),()):=by
  simp only[f195,key,Option.bind_some];cases List.all s (fun b=>j' b.toNat)<;>rfl
 have h1:decide ((1:Int)<=(s.length:Int))=!(s==([]:B)):=by
  cases s with
  |nil=>rfl
  |cons b r=>
   have:((b::r)==([]:B))=false:=rfl;simp only[List.length_cons];rw[this];simp only[Bool.not_false,decide_eq_true_eq];omega
 simp only[f147,xA,Option.bind_some,kf,within,h1];cases decide ((s.length:Int)<=10)<;>cases (s==[46])<;>cases (s==[46,46])<;>cases List.all s (fun b=>j' b.toNat)<;>cases (s==([]:B))<;>rfl
def gl(s:B):Bool:=(bF 47 s).all kf&&decide ((bF 47 s).length<=5)
theorem F9(a)(hs:cj a.1.1.length):f193 a=some ((gl a.1.1,()),()):=by
 obtain⟨⟨s,u⟩,bV⟩:=a;have hs:s.length<=2097152:=hs;have hlen:=nS 47 s;have fO:f73 ((s,((47:Int),((IntKind.i64.wrap ((s.length:Int)+(1:Int))),()))),())=some (((),()),(bF 47 s,())):=
  vm 47 _ hs rfl (bU (by unfold ar;omega))
 have key:Io (((),((0:Int),())),(bF 47 s,()))=some (bif allI (fun _ x=>kf x) 0 (bF 47 s) then .inr (((),()),(bF 47 s,())) else .inl ((false,()),())):=by
  refine fV A1 (bF 47 s) (fun i=>(((),((i:Int),())),(bF 47 s,()))) _ _ _ (fun i x hx=>?_) ?_
  ·have hi:=cT hx;have hw:ar i:=by unfold ar;omega
   have hxl:x.length<=s.length:=qg 47 s x (List.mem_of_getElem? hx);simp only[A1,ce hi,cond_true,ft hi,hx,Option.bind_some];rw[ajk _ (show x.length<=2097152 by omega)]
   simp only[Option.bind_some,bU hw];cases kf x<;>rfl
  ·simp only[A1,du,cond_false]
 rw[gR] at key;simp only[f193,fO,Option.bind_some,key,gl];cases List.all (bF 47 s) kf with
 |false=>rfl
 |true=>have:=C3 (bF 47 s).length 5;simp only[cond_true,Bool.true_and];rw[<-this];rfl
theorem Ga(a)(hs:cj a.1.1.length):f199 a=some (((),()),((gl a.1.1,()),())):=by
 obtain⟨⟨s,u⟩,bV⟩:=a;have hs:s.length<=2097152:=hs;have KX:Nat.ble s.length kA=true:=Nat.ble_eq_true_of_le (by unfold kA;omega)
 have fold:∀(r:List B) (k:Nat),(∀x,x∈r->x.length<=s.length)->k<=5->
   iD sO vD r (((),((),())),((false,()),(((k:Int),()),())))=
    some (bif r.all kf&&decide (k+r.length<=5) then(.inl (((),()),((false,()),()))) else(.inr (((),()),((false,()),())))):=by
  intro r;induction r with
  |nil=>
   intro k _ hk;have:decide (k+0<=5)=true:=by simpa using hk
   simp only[iD,vD,List.all_nil,List.length_nil,this,Bool.and_self,cond_true]
  |cons x r ih=>
   intro k hr hk;have hx:=hr x List.mem_cons_self;have kT:=ajc ((x,()),()) (show x.length<=2097152 by omega)
   have hw:=bU (i:=k) (by unfold ar;omega)
   have xB:decide (((k+1:Nat):Int)>5)=!decide (k+1<=5):=by by_cases h:k+1<=5<;>simp only[h,decide_true,decide_false,Bool.not_true,Bool.not_false,decide_eq_true_eq,decide_eq_false_iff_not]<;>omega
   have step:sO x (((),((),())),((false,()),(((k:Int),()),())))=
     some (bif kf x&&decide (k+1<=5) then .inl (((),((),())),((false,()),((((k+1:Nat):Int),()),()))) else .inr (.inr (((),()),((false,()),())))):=by
    simp only[sO,G4,hw,xB,Bool.not_not,kT,Option.bind_some];cases decide (k+1<=5) with
    |false=>cases kf x<;>rfl
    |true=>cases kf x<;>rfl
   rw[iD,step,List.all_cons];cases hn:kf x with
   |false=>rfl
   |true=>
    simp only[Bool.true_and];cases az:decide (k+1<=5) with
    |false=>
     have:decide (k+(x::r).length<=5)=false:=by simp only[decide_eq_false_iff_not,List.length_cons] at az ⊢;omega
     rw[this];simp
    |true=>
     simp only[cond_true];rw[ih (k+1) (fun y hy=>hr y (List.mem_cons_of_mem _ hy)) (by simpa using az)]
     have e1:k+1+r.length=k+(x::r).length:=by simp only[List.length_cons];omega
     rw[e1]
 have key:=fold (bF (47:UInt8) s) 0 (fun x hx=>qg 47 s x hx) (Nat.zero_le _)
 have KH:iD sO vD (bF (47:UInt8) s) (((),((),())),((false,()),(((0:Int),()),())))=some (bif gl s then(.inl (((),()),((false,()),()))) else(.inr (((),()),((false,()),())))):=by
  refine key.trans ?_
  unfold gl;rw[Nat.zero_add]
 simp only[f199,KX,cond_true,KH,Option.bind_some];cases gl s<;>rfl
def n'(s:B):Bool:=s.all (fun b=>(b.toNat:Int)==10||within b.toNat 32 126)&&decide (s.length<=80)
theorem ahl(b:UInt8):IntKind.i64.wrap (b.toNat:Int)=(b.toNat:Int):=by
 have:=b.toNat_lt;rw[cS (by omega) (by omega)]
theorem ajh(a)(hs:cj a.1.1.length):f92 a=some ((n' a.1.1,()),()):=by
 obtain⟨⟨s,u⟩,bV⟩:=a;have hs:s.length<=2097152:=hs;have key:Jv ((s,((0:Int),())),())=some (bif allI (fun _ b=>(b.toNat:Int)==10||within b.toNat 32 126) 0 s then .inr ((s,()),()) else .inl ((false,()),())):=by
  refine fV B0 s (fun i=>((s,((i:Int),())),())) _ _ _ (fun i x hx=>?_) ?_
  ·have hi:=cT hx;have hw:ar i:=by unfold ar;omega
   have hne:((x.toNat:Int) !=10)=!((x.toNat:Int)==10):=rfl;simp only[B0,ce hi,cond_true,II,b4,hx,Option.bind_some,hne,n_,ahl];cases ((x.toNat:Int)==10)<;>cases within (x.toNat:Int) 32 126<;>simp only[Bool.not_true,Bool.not_false,cond_true,cond_false,Option.bind_some,bU hw,Bool.or_true,Bool.true_or,Bool.or_false]
  ·simp only[B0,du,cond_false]
 rw[gR] at key;simp only[f92,key,Option.bind_some,n'];cases List.all s (fun b=>(b.toNat:Int)==10||within b.toNat 32 126) with
 |false=>rfl
 |true=>have:=C3 s.length 80;simp only[cond_true,Bool.true_and];rw[<-this];rfl
theorem afn(a):f196 a=some ((within a.1.1 32 126,()),()):=by
 simp only[f196,within,ge_iff_le];cases decide ((32:Int)<=a.1.1)<;>rfl
theorem agp(a)(hs:cj a.1.1.length):f148 a=some ((n' a.1.1,()),()):=by
 obtain⟨⟨s,u⟩,bV⟩:=a;have hs:s.length<=2097152:=hs;have key:Iu ((s,((s.length:Int),((0:Int),()))),())=some (bif allI (fun _ b=>(b.toNat:Int)==10||within b.toNat 32 126) 0 s then .inr ((),()) else .inl ((false,()),())):=by
  refine fV A9 s (fun i=>((s,((s.length:Int),((i:Int),()))),())) _ _ _ (fun i x hx=>?_) ?_
  ·have hi:=cT hx;have hw:ar i:=by unfold ar;omega
   have hne:((x.toNat:Int) !=10)=!((x.toNat:Int)==10):=rfl;simp only[A9,ce hi,cond_true,F0,b4,hx,Option.bind_some,hne,afn];cases ((x.toNat:Int)==10)<;>cases within (x.toNat:Int) 32 126<;>simp only[Bool.not_true,Bool.not_false,cond_true,cond_false,Option.bind_some,bU hw,Bool.or_true,Bool.true_or,Bool.or_false]
  ·simp only[A9,du,cond_false]
 rw[gR] at key;have aye:decide ((s.length:Int)>80)=!decide (s.length<=80):=by by_cases h:s.length<=80<;>simp only[h,decide_true,decide_false,Bool.not_true,Bool.not_false,decide_eq_true_eq,decide_eq_false_iff_not]<;>omega
 simp only[f148,key,Option.bind_some,n',aye];cases decide (s.length<=80)<;>cases List.all s (fun b=>(b.toNat:Int)==10||within b.toNat 32 126)<;>rfl
def eN(e:aw):Bool:=gl e.path&&(bif e.kind==1 then within e.mode 0 7&&e.text==[] else bif e.kind==2 then within e.mode 0 7&&n' e.text else bif e.kind==3 then e.mode==0&&gl e.text else false)
abbrev lQ(e:aw):Prop:=cj e.path.length/\cj e.text.length
theorem PF(a)(h1:cj a.1.1.1.length)(h2:cj a.1.1.2.2.2.1.length):f143 a=some ((eN ⟨a.1.1.1,a.1.1.2.1,a.1.1.2.2.1,a.1.1.2.2.2.1⟩,()),()):=by
 obtain⟨⟨⟨p,k,m,t,u⟩,bV⟩,nr⟩:=a;have e1:=F9 ((p,()),()) h1;have e2:=F9 ((t,()),()) h2;have bC:=ajh ((t,()),()) h2;simp only[f143,e1,e2,bC,n_,Option.bind_some,eN];cases gl p with
 |false=>rfl
 |true=>cases (k==1)<;>cases (k==2)<;>cases (k==3)<;>cases within m 0 7<;>cases (m==0)<;>rfl
theorem ahz(a)(h1:cj a.1.1.1.length)(h2:cj a.1.1.2.2.2.1.length):f152 a=some ((eN ⟨a.1.1.1,a.1.1.2.1,a.1.1.2.2.1,a.1.1.2.2.2.1⟩,()),()):=by
 obtain⟨⟨⟨p,k,m,t,u⟩,bV⟩,nr⟩:=a;have e1:=Ga ((p,()),()) h1;have e2:=Ga ((t,()),()) h2;have bC:=agp ((t,()),()) h2;have hm:within m 0 7=true\/(m==0)=false:=by
  cases h:(m==0) with
  |false=>exact .inr rfl
  |true=>left;rw[show m=(0:Int) from eq_of_beq h];rfl
 simp only[f152,IT,e1,e2,bC,Option.bind_some,eN,oH,nH,Bool.not_not];unfold within at hm ⊢;cases gl p with
 |false=>rfl
 |true=>
  cases h0:decide ((0:Int)<=m)<;>cases ia:decide (m<=7)<;>rw[h0,ia] at hm<;>cases acm:(m==0)<;>rw[acm] at hm<;>
   first|(simp at hm;done)|(simp only[Bool.not_true,Bool.not_false,cond_true,cond_false,Option.bind_some,acm,e2,bC,Bool.and_true,Bool.and_false,Bool.true_and,Bool.false_and];cases (k==1)<;>cases (k==2)<;>cases (k==3)<;>rfl)
abbrev Ag:Shape:=⟨[aI 0 .entry,aj 1,ag 4,ao 5,ag 6],[],36⟩
abbrev sG:List aP:=[(.exit 0,⟨[aI 0 .entry,aj 1,ag 4,ao 5,ag 6],[],36⟩)]
noncomputable def A0(y:Ag.J):bG Ag sG:=
 bif(decide (y.1.2.2.2.2.1<(y.1.1.length:Int))) then
(aO y.1.1 y.1.2.2.2.2.1).bind fun a=>
 bif(Op.bytesLess a.path y.1.2.1) then
 some (.inl ((y.1.1,y.1.2.1,y.1.2.2.1,y.1.2.2.2.1,(IntKind.i64.wrap (y.1.2.2.2.2.1+(1:Int))),()),()))
else
 some (.inr ((y.1.1,y.1.2.1,y.1.2.2.1,y.1.2.2.2.1,y.1.2.2.2.2.1,()),()))
else
 some (.inr ((y.1.1,y.1.2.1,y.1.2.2.1,y.1.2.2.2.1,y.1.2.2.2.2.1,()),()))
noncomputable def Im:Ag.J->Option (aB sG):=br A0
theorem al8:aS O (am (codeOf Tryz.f194) 1 28) (aU Ag sG Im):=bH g0 (by kernel_rfl) ae fun y=>by kernel_rfl
abbrev i194:Shape:=⟨[aI 0 .entry,aj 1],[],36⟩
abbrev X1:Shape:=⟨[ag 4,ao 5],[],36⟩
noncomputable def f194(a:i194.J):Option X1.J:=
(Im ((a.1.1,a.1.2.1,(0:Int),false,(0:Int),()),())).bind fun b=>
 bif(decide (b.1.2.2.2.2.1<(b.1.1.length:Int))) then
(aO b.1.1 b.1.2.2.2.2.1).bind fun c=>
 some ((b.1.2.2.2.2.1,(c.path==b.1.2.1),()),())
else
 some ((b.1.2.2.2.2.1,false,()),())
noncomputable def Dg:aD:=aG ad Tryz.f194 i194 X1 [] f194
theorem z194:aA O 194 Dg:=aK g0 Tryz.func194 (by kernel_rfl) (a7 al8 ae) (fun y=>by kernel_rfl) fun a=>by kernel_rfl
noncomputable abbrev auF:a_:=[(194,Dg)]
theorem avC:aQ O (aW ad auF):=aV ⟨z194,⟨⟩⟩
abbrev i144:Shape:=⟨[aI 0 .entry,aj 1],[],26⟩
abbrev YB:Shape:=⟨[ao 4],[],26⟩
noncomputable def f144(a:i144.J):Option YB.J:=
(f194 ((a.1.1,a.1.2.1,()),())).bind fun b=>
 bif(!(a.1.2.1==([]:B))) then
 bif b.1.2.1 then
(aO a.1.1 b.1.1).bind fun c=>
 some (((c.kind==(1:Int)),()),())
else
 some ((false,()),())
else
 some ((true,()),())
noncomputable def Lo:aD:=aG ad Tryz.f144 i144 YB [] f144
theorem W5:aA O 144 Lo:=aK avC Tryz.func144 (by kernel_rfl) ae (fun y=>by kernel_rfl) fun a=>by kernel_rfl
abbrev As:Shape:=⟨[aj 0,ag 3],[],18⟩
abbrev HO:List aP:=[(.ret,⟨[aj 2],[],18⟩),(.exit 0,⟨[],[],18⟩)]
noncomputable def IU(y:As.J):bG As HO:=
 bif(decide (y.1.2.1>=(0:Int))) then
(aO y.1.1 y.1.2.1).bind fun a=>
 bif((a.toNat:Int)==(47:Int)) then
(bm y.1.1 (0:Int) y.1.2.1).bind fun b=>
 some (.inr (.inl ((b,()),())))
else
 some (.inl ((y.1.1,(IntKind.i64.wrap (y.1.2.1-(1:Int))),()),()))
else
 some (.inr (.inr ((),())))
noncomputable def Iv:As.J->Option (aB HO):=br IU
theorem amr:aS O (am (codeOf Tryz.f145) 1 26) (aU As HO Iv):=bH g0 (by kernel_rfl) ae fun y=>by kernel_rfl
abbrev i145:Shape:=⟨[aj 0],[],18⟩
abbrev YA:Shape:=⟨[aj 2],[],18⟩
noncomputable def f145(a:i145.J):Option YA.J:=
(Iv ((a.1.1,(IntKind.i64.wrap ((a.1.1.length:Int)-(1:Int))),()),())).bind fun b=>
(match b with
|.inl c=>
 some ((c.1.1,()),())
|.inr d=>
 some ((([]:B),()),()))
noncomputable def Ln:aD:=aG ad Tryz.f145 i145 YA [] f145
theorem z145:aA O 145 Ln:=aK g0 Tryz.func145 (by kernel_rfl) (a7 amr ae) (fun y=>by kernel_rfl) fun a=>by kernel_rfl
abbrev z7:Shape:=⟨[aj 0,(1,.an (.d (.int .u8))),ag 5],[],19⟩
abbrev Hr:List aP:=[(.ret,⟨[ag 4],[],19⟩),(.exit 0,⟨[],[],19⟩)]
noncomputable def IN(y:z7.J):bG z7 Hr:=
 bif(decide (y.1.2.2.1>=(0:Int))) then
(aO y.1.1 y.1.2.2.1).bind fun a=>
 bif((a.toNat:Int)==y.1.2.1) then
 some (.inr (.inl ((y.1.2.2.1,()),())))
else
 some (.inl ((y.1.1,y.1.2.1,(IntKind.i64.wrap (y.1.2.2.1-(1:Int))),()),()))
else
 some (.inr (.inr ((),())))
noncomputable def Ih:z7.J->Option (aB Hr):=br IN
theorem alV:aS O (am (codeOf Tryz.f267) 1 26) (aU z7 Hr Ih):=bH g0 (by kernel_rfl) ae fun y=>by kernel_rfl
abbrev i267:Shape:=⟨[aj 0,(1,.an (.d (.int .u8)))],[],19⟩
abbrev Xs:Shape:=⟨[ag 4],[],19⟩
noncomputable def f267(a:i267.J):Option Xs.J:=
(Ih ((a.1.1,a.1.2.1,(IntKind.i64.wrap ((a.1.1.length:Int)-(1:Int))),()),())).bind fun b=>
(match b with
|.inl c=>
 some ((c.1.1,()),())
|.inr d=>
 some ((((-1):Int),()),()))
noncomputable def ZN:aD:=aG ad Tryz.f267 i267 Xs [] f267
theorem arn:aA O 267 ZN:=aK g0 Tryz.func267 (by kernel_rfl) (a7 alV ae) (fun y=>by kernel_rfl) fun a=>by kernel_rfl
noncomputable abbrev atS:a_:=[(267,ZN)]
theorem avh:aQ O (aW ad atS):=aV ⟨arn,⟨⟩⟩
abbrev i233:Shape:=⟨[aj 0,(1,.an (.d (.int .u8)))],[],8⟩
abbrev XC:Shape:=⟨[ag 4],[],8⟩
noncomputable def f233(a:i233.J):Option XC.J:=
(f267 ((a.1.1,a.1.2.1,()),())).bind fun b=>
 some ((b.1.1,()),())
noncomputable def ZX:aD:=aG ad Tryz.f233 i233 XC [] f233
theorem z233:aA O 233 ZX:=aK avh Tryz.func233 (by kernel_rfl) ae (fun y=>by kernel_rfl) fun a=>by kernel_rfl
noncomputable abbrev aua:a_:=[(199,Lf),(233,ZX)]
theorem avq:aQ O (aW ad aua):=aV ⟨W0,z233,⟨⟩⟩
abbrev i200:Shape:=⟨[aj 0],[],11⟩
abbrev XX:Shape:=⟨[aj 2],[],11⟩
noncomputable def f200(a:i200.J):Option XX.J:=
(f199 ((a.1.1,()),())).bind fun b=>
 bif(!b.2.1.1) then
 some ((([]:B),()),())
else
(f233 ((a.1.1,(47:Int),()),())).bind fun c=>
(bm a.1.1 (0:Int) (gJ c.1.1 (0:Int))).bind fun d=>
 some ((d,()),())
noncomputable def _a:aD:=aG ad Tryz.f200 i200 XX [] f200
theorem arH:aA O 200 _a:=aK avq Tryz.func200 (by kernel_rfl) ae (fun y=>by kernel_rfl) fun a=>by kernel_rfl
abbrev i283:Shape:=⟨[aj 0],[],6⟩
abbrev Xm:Shape:=⟨[ao 2],[],6⟩
noncomputable def f283(a:i283.J):Option Xm.J:=
 some (((!(a.1.1==a.1.1)),()),())
noncomputable def ZG:aD:=aG ad Tryz.f283 i283 Xm [] f283
theorem arf:aA O 283 ZG:=aK g0 Tryz.func283 (by kernel_rfl) ae (fun y=>by kernel_rfl) fun a=>by kernel_rfl
noncomputable abbrev atK:a_:=[(283,ZG)]
theorem avc:aQ O (aW ad atK):=aV ⟨arf,⟨⟩⟩
abbrev i268:Shape:=⟨[aj 0,aj 1],[],20⟩
abbrev Xr:Shape:=⟨[ag 4],[],20⟩
noncomputable def f268(a:i268.J):Option Xr.J:=
(f283 ((a.1.1,()),())).bind fun b=>
(f283 ((a.1.2.1,()),())).bind fun c=>
 bif b.1.1 then
 bif c.1.1 then
 some (((0:Int),()),())
else
 some ((((-1):Int),()),())
else
 bif c.1.1 then
 some (((1:Int),()),())
else
 bif(Op.bytesLess a.1.1 a.1.2.1) then
 some ((((-1):Int),()),())
else
 bif(!(Op.bytesLess a.1.1 a.1.2.1||a.1.1==a.1.2.1)) then
 some (((1:Int),()),())
else
 some (((0:Int),()),())
noncomputable def ZM:aD:=aG ad Tryz.f268 i268 Xr [] f268
theorem arm:aA O 268 ZM:=aK avc Tryz.func268 (by kernel_rfl) ae (fun y=>by kernel_rfl) fun a=>by kernel_rfl
noncomputable abbrev atQ:a_:=[(268,ZM)]
theorem avg:aQ O (aW ad atQ):=aV ⟨arm,⟨⟩⟩
abbrev i235:Shape:=⟨[b_ 0 [ah,aZ,aZ,ah],b_ 1 [ah,aZ,aZ,ah]],[],10⟩
abbrev XB:Shape:=⟨[ag 4],[],10⟩
noncomputable def f235(a:i235.J):Option XB.J:=
(f268 ((a.1.1.1,a.1.2.1.1,()),())).bind fun b=>
 some ((b.1.1,()),())
noncomputable def ZW:aD:=aG ad Tryz.f235 i235 XB [] f235
theorem arx:aA O 235 ZW:=aK avg Tryz.func235 (by kernel_rfl) ae (fun y=>by kernel_rfl) fun a=>by kernel_rfl
noncomputable abbrev aph:a_:=[(235,ZW)]
theorem VT:aQ O (aW ad aph):=aV ⟨arx,⟨⟩⟩
abbrev yO:Shape:=⟨[aI 0 .entry,(2,.an (.fn 235 [])),ay 4 4 0,ag 6,ao 7,ag 8,ag 9,ag 10],[ax 4 [ah,aZ,aZ,ah]],49⟩
abbrev Fo:List aP:=[(.exit 0,⟨[aI 0 .entry,(2,.an (.fn 235 [])),ay 4 4 0,ag 6,ao 7,ag 8,ag 9],[ax 4 [ah,aZ,aZ,ah]],49⟩)]
noncomputable def y0(y:yO.J):bG yO Fo:=
 bif(decide (y.1.2.2.2.2.2.2.1<y.1.2.2.2.2.2.2.2.1)) then
(fh .u64 (IntKind.u64.wrap (IntKind.i64.wrap (y.1.2.2.2.2.2.2.1+y.1.2.2.2.2.2.2.2.1))) (1:Int)).bind fun a=>
(aO y.1.1 (IntKind.i64.wrap a)).bind fun b=>
(f235 (((b.path,b.kind,b.mode,b.text,()),(y.2.1.1,y.2.1.2.1,y.2.1.2.2.1,y.2.1.2.2.2.1,()),()),())).bind fun c=>
 bif(decide (c.1.1<(0:Int))) then
 some (.inl ((y.1.1,(),(),y.1.2.2.2.1,y.1.2.2.2.2.1,y.1.2.2.2.2.2.1,(IntKind.i64.wrap ((IntKind.i64.wrap a)+(1:Int))),y.1.2.2.2.2.2.2.2.1,()),(y.2.1.1,y.2.1.2.1,y.2.1.2.2.1,y.2.1.2.2.2.1,()),()))
else
 some (.inl ((y.1.1,(),(),y.1.2.2.2.1,y.1.2.2.2.2.1,y.1.2.2.2.2.2.1,y.1.2.2.2.2.2.2.1,(IntKind.i64.wrap a),()),(y.2.1.1,y.2.1.2.1,y.2.1.2.2.1,y.2.1.2.2.2.1,()),()))
else
 some (.inr ((y.1.1,(),(),y.1.2.2.2.1,y.1.2.2.2.2.1,y.1.2.2.2.2.2.1,y.1.2.2.2.2.2.2.1,()),(y.2.1.1,y.2.1.2.1,y.2.1.2.2.1,y.2.1.2.2.2.1,()),()))
noncomputable def yY:yO.J->Option (aB Fo):=br y0
theorem ah9:aS O (am (codeOf Tryz.f234) 1 60) (aU yO Fo yY):=bH VT (by kernel_rfl) ae fun y=>by kernel_rfl
abbrev U2:Shape:=⟨[aI 0 .entry,b_ 1 [ah,aZ,aZ,ah],(2,.an (.fn 235 []))],[],49⟩
abbrev Uy:Shape:=⟨[ag 6,ao 7],[],49⟩
noncomputable def Cc(a:U2.J):Option Uy.J:=
(yY ((a.1.1,(),(),(0:Int),false,(a.1.1.length:Int),(0:Int),(a.1.1.length:Int),()),(a.1.2.1.1,a.1.2.1.2.1,a.1.2.1.2.2.1,a.1.2.1.2.2.2.1,()),())).bind fun b=>
 bif(decide (b.1.2.2.2.2.2.2.1<b.1.2.2.2.2.2.1)) then
(aO b.1.1 b.1.2.2.2.2.2.2.1).bind fun c=>
(f235 (((c.path,c.kind,c.mode,c.text,()),(b.2.1.1,b.2.1.2.1,b.2.1.2.2.1,b.2.1.2.2.2.1,()),()),())).bind fun d=>
 some ((b.1.2.2.2.2.2.2.1,(d.1.1==(0:Int)),()),())
else
 some ((b.1.2.2.2.2.2.2.1,false,()),())
noncomputable def VE:aD:=aG ad Tryz.f234 U2 Uy [] Cc
theorem anB:aA O 234 VE:=aK VT Tryz.func234 (by kernel_rfl) (a7 ah9 ae) (fun y=>by kernel_rfl) fun a=>by kernel_rfl
noncomputable abbrev at7:a_:=[(234,VE)]
theorem avp:aQ O (aW ad at7):=aV ⟨anB,⟨⟩⟩
abbrev i201:Shape:=⟨[aI 0 .entry,aj 1],[],12⟩
abbrev XW:Shape:=⟨[ag 4,ao 5],[],12⟩
noncomputable def f201(a:i201.J):Option XW.J:=
(Cc ((a.1.1,(a.1.2.1,(0:Int),(0:Int),([]:B),()),(),()),())).bind fun b=>
 some ((b.1.1,b.1.2.1,()),())
noncomputable def Le:aD:=aG ad Tryz.f201 i201 XW [] f201
theorem z201:aA O 201 Le:=aK avp Tryz.func201 (by kernel_rfl) ae (fun y=>by kernel_rfl) fun a=>by kernel_rfl
theorem v8:∀a:B,Op.bytesLess a a=false:=by
 intro a;induction a with
 |nil=>rfl
 |cons b r ih=>simp[Op.bytesLess,ih]
theorem vl:∀a b c:B,Op.bytesLess a b=true->Op.bytesLess b c=true->Op.bytesLess a c=true:=by
 intro a;induction a with
 |nil=>intro b c h1 h2;cases c with
  |nil=>cases b<;>simp[Op.bytesLess] at h2
  |cons z c=>rfl
 |cons x a ih=>
  intro b c h1 h2;cases b with
  |nil=>simp[Op.bytesLess] at h1
  |cons y b=>
   cases c with
   |nil=>simp[Op.bytesLess] at h2
   |cons z c=>
    simp only[Op.bytesLess,Bool.or_eq_true,decide_eq_true_eq,Bool.and_eq_true,beq_iff_eq] at h1 h2 ⊢;rcases h1 with h1|⟨rfl,h1⟩
    ·rcases h2 with h2|⟨rfl,h2⟩
     ·exact .inl (UInt8.lt_trans h1 h2)
     ·exact .inl h1
    ·rcases h2 with h2|⟨rfl,h2⟩
     ·exact .inl h2
     ·exact .inr ⟨rfl,ih b c h1 h2⟩
theorem ao7:∀a b:B,Op.bytesLess a b=false->(a==b)=false->Op.bytesLess b a=true:=by
 intro a;induction a with
 |nil=>intro b h1 h2;cases b with
  |nil=>simp at h2
  |cons y b=>simp[Op.bytesLess] at h1
 |cons x a ih=>
  intro b h1 h2;cases b with
  |nil=>rfl
  |cons y b=>
   simp only[Op.bytesLess,Bool.or_eq_false_iff,decide_eq_false_iff_not,Bool.and_eq_false_iff,beq_eq_false_iff_ne,ne_eq] at h1;simp only[Op.bytesLess,Bool.or_eq_true,decide_eq_true_eq,Bool.and_eq_true,beq_iff_eq];by_cases hxy:x=y
   ·subst hxy;refine .inr ⟨rfl,ih b ?_ ?_⟩
    ·rcases h1.2 with h|h
     ·exact absurd rfl h
     ·exact h
    ·cases h:(a==b) with
     |false=>rfl
     |true=>rw[eq_of_beq h] at h2;simp at h2
   ·exact .inl (by
     have:=h1.1;rcases UInt8.lt_or_lt_of_ne (fun h=>hxy h) with h|h
     ·exact absurd h this
     ·exact h)
theorem ann{a b:B}(h:Op.bytesLess a b=true):Op.bytesLess b a=false:=by
 cases h2:Op.bytesLess b a with
 |false=>rfl
 |true=>have:=vl a b a h h2;rw[v8] at this;cases this
theorem aqV{a b:B}(h:Op.bytesLess a b=true):(a==b)=false:=by
 cases h2:(a==b) with
 |false=>rfl
 |true=>rw[eq_of_beq h2,v8] at h;cases h
theorem anm:∀(s:B) (i:Nat),i<s.length->Op.bytesLess (s.take i) s=true:=by
 intro s;induction s with
 |nil=>intro i h;simp at h
 |cons b r ih=>
  intro i h;cases i with
  |zero=>rfl
  |succ i=>simp only[List.take_succ_cons,Op.bytesLess];simp[ih i (by simpa using h)]
def lj(c:UInt8)(s:B):Nat->Option Nat
 |0=>none
 |n+1=>match s[n]? with
  |some b=>bif(b.toNat:Int)==(c.toNat:Int) then some n else lj c s n
  |none=>none
theorem Ol{c:UInt8}{s:B}:∀{n i:Nat},lj c s n=some i->i<n/\i<s.length:=by
 intro n;induction n with
 |zero=>intro i h;cases h
 |succ n ih=>
  intro i h;simp only[lj] at h;split at h
  ·rename_i b hb;cases hc:((b.toNat:Int)==(c.toNat:Int)) with
   |true=>rw[hc] at h;cases h;exact⟨Nat.lt_succ_self _,cT hb⟩
   |false=>rw[hc] at h;have:=ih h;omega
  ·cases h
def iY(s:B):B:=match lj 47 s s.length with
 |some i=>s.take i
 |none=>[]
theorem ajv{s:B}(h:(iY s==[])=false):Op.bytesLess (iY s) s=true:=by
 unfold iY at h ⊢;split
 ·rename_i i hi;exact anm s i (Ol hi).2
 ·rename_i hi;rw[hi] at h;cases h
theorem T2(a)(hs:cj a.1.1.length):f145 a=some ((iY a.1.1,()),()):=by
 obtain⟨⟨s,u⟩,bV⟩:=a;have hs:s.length<=2097152:=hs;have key:∀n,n<=s.length->Iv ((s,((n:Int)-1,())),())=some (match lj 47 s n with|some i=>.inl ((s.take i,()),())|none=>.inr ((),())):=by
  intro n;induction n with
  |zero=>intro _;exact cp (by rfl)
  |succ n ih=>
   intro hn;have e:((n+1:Nat):Int)-1=(n:Int):=by omega
   obtain⟨b,hb⟩:∃b,s[n]? =some b:=⟨s[n],List.getElem?_eq_getElem hn⟩;have h0:decide ((n:Int)>=0)=true:=by simp
   rw[e];simp only[lj,hb];cases hc:((b.toNat:Int)==((47:UInt8).toNat:Int)) with
   |true=>
    refine cp ?_
    simp only[IU,h0,cond_true,b4,hb,Option.bind_some];rw[show((b.toNat:Int)==47)=true from hc,gj (by omega)]
    rfl
   |false=>
    refine(dN ?_).trans (ih (by omega))
    simp only[IU,h0,cond_true,b4,hb,Option.bind_some];rw[show((b.toNat:Int)==47)=false from hc,cS (by omega) (by omega)]
    rfl
 have hw:IntKind.i64.wrap ((s.length:Int)-1)=(s.length:Int)-1:=cS (by omega) (by omega)
 simp only[f145,hw,key s.length (Nat.le_refl _),Option.bind_some,iY];cases lj 47 s s.length<;>rfl
theorem afu(a)(hs:cj a.1.1.length)(ayf:a.1.2.1=47):f267 a=some (((match lj 47 a.1.1 a.1.1.length with|some i=>(i:Int)|none=>-1),()),()):=by
 obtain⟨⟨s,c,u⟩,bV⟩:=a;obtain rfl:c=47:=ayf;have hs:s.length<=2097152:=hs;have key:∀n,n<=s.length->Ih ((s,((47:Int),((n:Int)-1,()))),())=some (match lj 47 s n with|some i=>.inl (((i:Int),()),())|none=>.inr ((),())):=by
  intro n;induction n with
  |zero=>intro _;exact cp (by rfl)
  |succ n ih=>
   intro hn;have e:((n+1:Nat):Int)-1=(n:Int):=by omega
   obtain⟨b,hb⟩:∃b,s[n]? =some b:=⟨s[n],List.getElem?_eq_getElem hn⟩;have h0:decide ((n:Int)>=0)=true:=by simp
   rw[e];simp only[lj,hb];cases hc:((b.toNat:Int)==((47:UInt8).toNat:Int)) with
   |true=>
    refine cp ?_
    simp only[IN,h0,cond_true,b4,hb,Option.bind_some];rw[show((b.toNat:Int)==47)=true from hc]
    rfl
   |false=>
    refine(dN ?_).trans (ih (by omega))
    simp only[IN,h0,cond_true,b4,hb,Option.bind_some];rw[show((b.toNat:Int)==47)=false from hc,cS (by omega) (by omega)]
    rfl
 have hw:IntKind.i64.wrap ((s.length:Int)-1)=(s.length:Int)-1:=cS (by omega) (by omega)
 simp only[f267,hw,key s.length (Nat.le_refl _),Option.bind_some];cases lj 47 s s.length<;>rfl
theorem ajr(a)(hs:cj a.1.1.length):f200 a=some (((bif gl a.1.1 then iY a.1.1 else []),()),()):=by
 obtain⟨⟨s,u⟩,bV⟩:=a;have hs:s.length<=2097152:=hs;have e1:=Ga ((s,()),()) hs;have e2:=afu ((s,((47:Int),())),()) hs rfl;simp only[f200,e1,Option.bind_some,f233,e2];cases gl s with
 |false=>rfl
 |true=>
  simp only[Bool.not_true,cond_false,cond_true];unfold iY;cases hl:lj 47 s s.length with
  |none=>
   have:gJ (-1) 0=0:=by decide
   simp only[this];have:=gj (xs:=s) (b:=0) (Nat.zero_le _);have this:bm s 0 0=some (s.take 0):=this;rw[this];rfl
  |some i=>
   have hi:=(Ol hl).2;have:gJ (i:Int) 0=(i:Int):=by unfold gJ;rw[if_neg (by omega)]
   simp only[this];rw[gj (by omega)];rfl
def bM(t:List aw)(p:B):Nat:=(t.takeWhile fun e=>Op.bytesLess e.path p).length
def gH(t:List aw)(p:B):Bool:=match t[bM t p]? with
 |some e=>e.path==p
 |none=>false
def kD(t:List aw)(p:B):Bool:=p==[]||match t[bM t p]? with
 |some e=>e.path==p&&e.kind==1
 |none=>false
theorem qE(t:List aw)(p:B):bM t p<=t.length:=(List.takeWhile_prefix _).length_le
theorem I7(a)(hs:cj a.1.1.length):f194 a=some (((bM a.1.1 a.1.2.1:Int),(gH a.1.1 a.1.2.1,())),()):=by
 obtain⟨⟨t,p,u⟩,bV⟩:=a;have hs:t.length<=2097152:=hs;have key:Im ((t,(p,((0:Int),(false,((0:Int),()))))),())=_:=FI A0 t (fun i (_:Unit)=>((t,(p,((0:Int),(false,((i:Int),()))))),()))
  (fun i e _=>some (bif Op.bytesLess e.path p then .inl () else .inr ((((t,(p,((0:Int),(false,((i:Int),()))))),())):aB sG))) (fun _=>((t,(p,((0:Int),(false,((t.length:Int),()))))),())) (fun i e s he=>?_) (fun s=>?_) ()
 ·have fold:∀(r:List aw) (k:Nat),k+r.length=t.length->eT (fun i (e:aw) (_:Unit)=>some (bif Op.bytesLess e.path p then .inl () else .inr ((((t,(p,((0:Int),(false,((i:Int),()))))),())):aB sG))) (fun _=>(((t,(p,((0:Int),(false,((t.length:Int),()))))),()):aB sG)) k r ()=
    some ((t,(p,((0:Int),(false,(((k+(r.takeWhile fun e=>Op.bytesLess e.path p).length:Nat):Int),()))))),()):=by
   intro r;induction r with
   |nil=>intro k hk;simp only[eT,List.takeWhile_nil,List.length_nil,Nat.add_zero] at hk ⊢;rw[hk]
   |cons e r ih=>
    intro k hk;simp only[eT,List.takeWhile_cons];cases hl:Op.bytesLess e.path p with
    |false=>rfl
    |true=>
     simp only[cond_true,if_true,List.length_cons];rw[ih (k+1) (by simp only[List.length_cons] at hk;omega)]
     have:k+1+(r.takeWhile fun e=>Op.bytesLess e.path p).length=k+((r.takeWhile fun e=>Op.bytesLess e.path p).length+1):=by omega
     rw[this]
  rw[fold t 0 (Nat.zero_add _),Nat.zero_add] at key;have hk:(t.takeWhile fun e=>Op.bytesLess e.path p).length=bM t p:=rfl
  rw[hk] at key;simp only[f194,key,Option.bind_some,gH,b4];cases au:t[bM t p]? with
  |none=>
   have:=List.getElem?_eq_none_iff.1 au;have:decide ((bM t p:Int)<(t.length:Int))=false:=by simp only[decide_eq_false_iff_not];omega
   rw[this];rfl
  |some e=>rw[ce (cT au)];rfl
 ·have hi:=cT he;have hw:ar i:=by unfold ar;omega
  simp only[A0,ce hi,cond_true,b4,he,Option.bind_some,bU hw];cases Op.bytesLess e.path p<;>rfl
 ·simp only[A0,du,cond_false]
theorem Sg(a)(hs:cj a.1.1.length):f144 a=some ((kD a.1.1 a.1.2.1,()),()):=by
 obtain⟨⟨t,p,u⟩,bV⟩:=a;have e1:=I7 ((t,(p,())),()) hs;simp only[f144,e1,Option.bind_some,kD,gH,b4];cases (p==[]) with
 |true=>rfl
 |false=>
  cases au:t[bM t p]? with
  |none=>rfl
  |some e=>simp only[Bool.not_false,cond_true,Option.bind_some,Bool.false_or];cases (e.path==p)<;>rfl
def fH(t:List aw):Prop:=t.Pairwise fun a b=>Op.bytesLess a.path b.path=true
theorem fH.take{t:List aw}(h:fH t)(i:Nat):fH (t.take i):=List.Pairwise.sublist (List.take_sublist i t) h
theorem kv:∀{t:List aw} {p:B},fH t->∀(h:Nat) (e:aw),t[h]? =some e->Op.bytesLess e.path p=decide (h<bM t p):=by
 intro t p;induction t with
 |nil=>intro _ h e he;simp at he
 |cons x t ih=>
  intro ha h e he;have fo:=List.pairwise_cons.1 ha;unfold bM;rw[List.takeWhile_cons];cases hx:Op.bytesLess x.path p with
  |true=>
   simp only[if_true,List.length_cons];cases h with
   |zero=>simp only[List.getElem?_cons_zero,Option.some.injEq] at he;subst he;rw[hx];simp
   |succ h=>
    simp only[List.getElem?_cons_succ] at he;rw[ih fo.2 h e he];unfold bM;congr 1;apply propext;omega
  |false=>
   have:(decide (h<(if false=true then x::t.takeWhile (fun e=>Op.bytesLess e.path p) else []).length))=false:=by simp
   rw[this];cases h with
   |zero=>simp only[List.getElem?_cons_zero,Option.some.injEq] at he;subst he;exact hx
   |succ h=>
    simp only[List.getElem?_cons_succ] at he;have h2:=fo.1 e (List.mem_of_getElem? he);cases h3:Op.bytesLess e.path p with
    |false=>rfl
    |true=>have:=vl _ _ _ h2 h3;rw[hx] at this;cases this
def tO(a b:B):Int:=bif Op.bytesLess a b then-1 else bif a==b then 0 else 1
theorem F'(a):f235 a=some ((tO a.1.1.1 a.1.2.1.1,()),()):=by
 obtain⟨⟨⟨p,ei⟩,⟨⟨q,fR⟩,jC⟩⟩,adm⟩:=a;have h1:(p==p)=true:=by simp
 have h2:(q==q)=true:=by simp
 simp only[f235,f268,f283,Option.bind_some,h1,h2,Bool.not_true,cond_false,tO];cases Op.bytesLess p q<;>cases (p==q)<;>rfl
theorem R_(a b:B):decide (tO a b<0)=Op.bytesLess a b:=by
 unfold tO;cases Op.bytesLess a b<;>cases (a==b)<;>rfl
theorem ai3(a b:B):(tO a b==0)=(a==b):=by
 unfold tO;cases h:Op.bytesLess a b with
 |true=>rw[aqV h];rfl
 |false=>cases (a==b)<;>rfl
theorem asA{n:Nat}(h:n<=1099511627776):fh .u64 (IntKind.u64.wrap (IntKind.i64.wrap (n:Int))) 1=some (((n/2:Nat)):Int):=by
 rw[cS (by omega) (by omega)]
 have:IntKind.u64.wrap (n:Int)=(n:Int):=by
  simp[IntKind.wrap,IntKind.bits,IntKind.signed];omega
 rw[this];unfold fh;rw[if_neg (by decide)]
 congr 1
 show Int.fdiv (n:Int) 2=_;rw[Int.fdiv_eq_ediv_of_nonneg _ (by decide)]
 omega
theorem Ov(a)(hs:cj a.1.1.length)(ha:fH a.1.1):f201 a=some (((bM a.1.1 a.1.2.1:Int),(gH a.1.1 a.1.2.1,())),()):=by
 obtain⟨⟨t,p,u⟩,bV⟩:=a;have hs:t.length<=2097152:=hs;have Es:=qE t p;have key:∀d i j:Nat,j-i=d->i<=bM t p->bM t p<=j->j<=t.length->
   yY ((t,((),((),((0:Int),(false,((t.length:Int),((i:Int),((j:Int),())))))))),((p,((0:Int),((0:Int),(([]:B),())))),()))=
    some (((t,((),((),((0:Int),(false,((t.length:Int),((bM t p:Int),()))))))),((p,((0:Int),((0:Int),(([]:B),())))),()))):=by
  intro d;induction d using Nat.strongRecOn with
  |_ d ih=>
   intro i j aa hi hj hl;by_cases pT:i<j
   ·have bL:(i+j)/2<t.length:=by omega
    obtain⟨e,he⟩:∃e,t[(i+j)/2]? =some e:=⟨t[(i+j)/2],List.getElem?_eq_getElem bL⟩;have hsh:fh .u64 (IntKind.u64.wrap (IntKind.i64.wrap ((i:Int)+(j:Int)))) 1=some ((((i+j)/2:Nat)):Int):=by
     rw[<-asA (n:=i+j) (by omega)];rw[Int.natCast_add]
    have abR:IntKind.i64.wrap (((i+j)/2:Nat):Int)=(((i+j)/2:Nat):Int):=cS (by omega) (by omega)
    have oB:=kv (t:=t) (p:=p) ha ((i+j)/2) e he;cases hb:Op.bytesLess e.path p with
    |true=>
     rw[hb] at oB;have hlt:(i+j)/2<bM t p:=by simpa using oB.symm
     refine(dN ?_).trans (ih (j-((i+j)/2+1)) (by omega) ((i+j)/2+1) j rfl (by omega) hj hl)
     simp only[y0,ce pT,cond_true,hsh,abR,b4,he,Option.bind_some,F',R_,hb,bU (i:=(i+j)/2) (by unfold ar;omega)]
    |false=>
     rw[hb] at oB;have hge:¬(i+j)/2<bM t p:=by simpa using oB.symm
     refine(dN ?_).trans (ih ((i+j)/2-i) (by omega) i ((i+j)/2) rfl hi (by omega) (by omega))
     simp only[y0,ce pT,cond_true,hsh,abR,b4,he,Option.bind_some,F',R_,hb,cond_false]
   ·have jz:i=bM t p:=by omega
    have hlt:decide ((i:Int)<(j:Int))=false:=by simp only[decide_eq_false_iff_not];omega
    refine cp ?_
    simp only[y0,hlt,cond_false];rw[jz]
 have lU:yY ((t,((),((),((0:Int),(false,((t.length:Int),((0:Int),((t.length:Int),())))))))),((p,((0:Int),((0:Int),(([]:B),())))),()))=_:=key t.length 0 t.length (Nat.sub_zero _) (Nat.zero_le _) Es (Nat.le_refl _);have Y:Cc ((t,((p,((0:Int),((0:Int),(([]:B),())))),((),()))),())=some (((bM t p:Int),(gH t p,())),()):=by
  simp only[Cc,lU,Option.bind_some,gH,b4,F',ai3];cases au:t[bM t p]? with
  |none=>
   have:=List.getElem?_eq_none_iff.1 au;have:decide ((bM t p:Int)<(t.length:Int))=false:=by simp only[decide_eq_false_iff_not];omega
   rw[this];rfl
  |some e=>rw[ce (cT au)];rfl
 simp only[f201,Y,Option.bind_some]
noncomputable abbrev auz:a_:=[(200,_a),(201,Le)]
theorem avz:aQ O (aW ad auz):=aV ⟨arH,z201,⟨⟩⟩
abbrev i153:Shape:=⟨[aI 0 .entry,aj 1],[],27⟩
abbrev Yt:Shape:=⟨[ao 4],[],27⟩
noncomputable def f153(a:i153.J):Option Yt.J:=
(f200 ((a.1.2.1,()),())).bind fun b=>
 bif(b.1.1==([]:B)) then
 some ((true,()),())
else
(f201 ((a.1.1,b.1.1,()),())).bind fun c=>
 bif c.1.2.1 then
(aO a.1.1 c.1.1).bind fun d=>
 some (((d.kind==(1:Int)),()),())
else
 some ((false,()),())
noncomputable def _C:aD:=aG ad Tryz.f153 i153 Yt [] f153
theorem ar1:aA O 153 _C:=aK avz Tryz.func153 (by kernel_rfl) ae (fun y=>by kernel_rfl) fun a=>by kernel_rfl
noncomputable abbrev au6:a_:=[(152,_D),(153,_C)]
theorem LH:aQ O (aW ad au6):=aV ⟨z152,ar1,⟨⟩⟩
abbrev Qn:Shape:=⟨[aI 0 .entry,ag 3,ay 4 4 0,aI 8 .entry,ag 9,ag 10],[ax 4 [ah,aZ,aZ,ah]],43⟩
abbrev P4:List aP:=[(.norm,⟨[aI 0 .entry,aI 8 .entry,ag 9,ag 10,b_ 15 [ah,aZ,aZ,ah],ao 16,ao 17,ao 18,ao 32,ao 33,ao 41],[],43⟩)]
noncomputable def F2(y:Qn.J):Option (aB P4):=
(f152 (((y.2.1.1,y.2.1.2.1,y.2.1.2.2.1,y.2.1.2.2.2.1,()),()),())).bind fun a=>
 bif(!a.1.1) then
 some ((y.1.1,y.1.2.2.2.1,y.1.2.2.2.2.1,y.1.2.2.2.2.2.1,(y.2.1.1,y.2.1.2.1,y.2.1.2.2.1,y.2.1.2.2.2.1,()),a.1.1,(!a.1.1),true,true,true,true,()),())
else
 bif(decide (y.1.2.1>(0:Int))) then
(aO y.1.1 (IntKind.i64.wrap (y.1.2.1-(1:Int)))).bind fun b=>
 bif(!(Op.bytesLess b.path y.2.1.1)) then
 some ((y.1.1,y.1.2.2.2.1,y.1.2.2.2.2.1,y.1.2.2.2.2.2.1,(y.2.1.1,y.2.1.2.1,y.2.1.2.2.1,y.2.1.2.2.2.1,()),a.1.1,(!a.1.1),false,(!(Op.bytesLess b.path y.2.1.1)),true,true,()),())
else
(bm y.1.1 (0:Int) y.1.2.1).bind fun c=>
(f153 ((c,y.2.1.1,()),())).bind fun d=>
 some ((y.1.1,y.1.2.2.2.1,y.1.2.2.2.2.1,y.1.2.2.2.2.2.1,(y.2.1.1,y.2.1.2.1,y.2.1.2.2.1,y.2.1.2.2.2.1,()),a.1.1,(!a.1.1),false,(!(Op.bytesLess b.path y.2.1.1)),false,(!d.1.1),()),())
else
(bm y.1.1 (0:Int) y.1.2.1).bind fun e=>
(f153 ((e,y.2.1.1,()),())).bind fun f=>
 some ((y.1.1,y.1.2.2.2.1,y.1.2.2.2.2.1,y.1.2.2.2.2.2.1,(y.2.1.1,y.2.1.2.1,y.2.1.2.2.1,y.2.1.2.2.2.1,()),a.1.1,(!a.1.1),false,false,false,(!f.1.1),()),())
theorem air:aS O (am (c4 (am (codeOf Tryz.f105) 1 58)) 116 7474) (aU Qn P4 F2):=cd LH (by kernel_rfl) ae fun y=>by kernel_rfl
abbrev AI:Shape:=⟨[aI 0 .entry,aI 8 .entry,ag 9,ag 10],[],43⟩
abbrev vp:List aP:=[(.ret,⟨[ao 2],[],43⟩),(.exit 0,⟨[],[],43⟩)]
noncomputable def Bg(y:AI.J):bG AI vp:=
 bif(decide (y.1.2.2.2.1<y.1.2.2.1)) then
(aO y.1.2.1 y.1.2.2.2.1).bind fun a=>
(F2 ((y.1.1,y.1.2.2.2.1,(),y.1.2.1,y.1.2.2.1,y.1.2.2.2.1,()),(a.path,a.kind,a.mode,a.text,()),())).bind fun b=>
 bif b.1.2.2.2.2.2.2.2.2.2.2.1 then
 some (.inr (.inl ((false,()),())))
else
 some (.inl ((b.1.1,b.1.2.1,b.1.2.2.1,(IntKind.i64.wrap (b.1.2.2.2.1+(1:Int))),()),()))
else
 some (.inr (.inr ((),())))
noncomputable def IE:AI.J->Option (aB vp):=br Bg
theorem amI:aS O (am (codeOf Tryz.f105) 1 58) (aU AI vp IE):=bH LH (by kernel_rfl) (a7 air ae) fun y=>by kernel_rfl
abbrev i105:Shape:=⟨[aI 0 .entry],[],43⟩
abbrev Y3:Shape:=⟨[ao 2],[],43⟩
noncomputable def f105(a:i105.J):Option Y3.J:=
 bif(decide ((a.1.1.length:Int)>(16:Int))) then
 some ((false,()),())
else
(IE ((a.1.1,a.1.1,(a.1.1.length:Int),(0:Int),()),())).bind fun b=>
(match b with
|.inl c=>
 some ((c.1.1,()),())
|.inr d=>
 some ((true,()),()))
noncomputable def w1:aD:=aG ad Tryz.f105 i105 Y3 [] f105
theorem z105:aA O 105 w1:=aK LH Tryz.func105 (by kernel_rfl) (a7 amI ae) (fun y=>by kernel_rfl) fun a=>by kernel_rfl
noncomputable abbrev ay1:a_:=[(143,Lp),(144,Lo),(145,Ln)]
theorem Eg:aQ O (aW ad ay1):=aV ⟨z143,W5,z145,⟨⟩⟩
abbrev SH:Shape:=⟨[aI 0 .entry,ag 3],[],53⟩
abbrev Sl:List aP:=[(.norm,⟨[aI 0 .entry,ag 3,aI 11 .entry,ag 12,(13,.an (.eE [.str,.int .i64,.int .i64,.str] 0)),b_ 14 [ah,aZ,aZ,ah],ao 15,ao 16,ao 17,ao 34],[],53⟩)]
noncomputable def IJ(y:SH.J):Option (aB Sl):=
(aO y.1.1 y.1.2.1).bind fun a=>
(f143 (((a.path,a.kind,a.mode,a.text,()),()),())).bind fun b=>
 bif(!b.1.1) then
 some ((y.1.1,y.1.2.1,y.1.1,y.1.2.1,(a.path,a.kind,a.mode,a.text,()),(a.path,a.kind,a.mode,a.text,()),b.1.1,(!b.1.1),true,true,()),())
else
 bif(decide (y.1.2.1>(0:Int))) then
(aO y.1.1 (IntKind.i64.wrap (y.1.2.1-(1:Int)))).bind fun c=>
(aO y.1.1 y.1.2.1).bind fun d=>
 some ((y.1.1,y.1.2.1,y.1.1,y.1.2.1,(a.path,a.kind,a.mode,a.text,()),(a.path,a.kind,a.mode,a.text,()),b.1.1,(!b.1.1),false,(!(Op.bytesLess c.path d.path)),()),())
else
 some ((y.1.1,y.1.2.1,y.1.1,y.1.2.1,(a.path,a.kind,a.mode,a.text,()),(a.path,a.kind,a.mode,a.text,()),b.1.1,(!b.1.1),false,false,()),())
theorem alD:aS O (am (c4 (am (codeOf Tryz.f90) 1 26)) 52 840) (aU SH Sl IJ):=cd Eg (by kernel_rfl) ae fun y=>by kernel_rfl
abbrev BC:Shape:=⟨[aI 0 .entry,ag 3],[],53⟩
abbrev Ja:List aP:=[(.ret,⟨[ao 2],[],53⟩),(.exit 0,⟨[aI 0 .entry],[],53⟩)]
noncomputable def B3(y:BC.J):bG BC Ja:=
 bif(decide (y.1.2.1<(y.1.1.length:Int))) then
(IJ ((y.1.1,y.1.2.1,()),())).bind fun a=>
 bif a.1.2.2.2.2.2.2.2.2.2.1 then
 some (.inr (.inl ((false,()),())))
else
 some (.inl ((a.1.1,(IntKind.i64.wrap (a.1.2.1+(1:Int))),()),()))
else
 some (.inr (.inr ((y.1.1,()),())))
noncomputable def Jy:BC.J->Option (aB Ja):=br B3
theorem aoc:aS O (am (codeOf Tryz.f90) 1 26) (aU BC Ja Jy):=bH Eg (by kernel_rfl) (a7 alD ae) fun y=>by kernel_rfl
abbrev BA:Shape:=⟨[aI 0 .entry,ag 4],[],53⟩
abbrev I':List aP:=[(.ret,⟨[ao 2],[],53⟩),(.exit 2,⟨[aI 0 .entry],[],53⟩)]
noncomputable def B2(y:BA.J):bG BA I':=
 bif(decide (y.1.2.1<(y.1.1.length:Int))) then
(aO y.1.1 y.1.2.1).bind fun a=>
(f145 ((a.path,()),())).bind fun b=>
(f144 ((y.1.1,b.1.1,()),())).bind fun c=>
 bif(!c.1.1) then
 some (.inr (.inl ((false,()),())))
else
 some (.inl ((y.1.1,(IntKind.i64.wrap (y.1.2.1+(1:Int))),()),()))
else
 some (.inr (.inr ((y.1.1,()),())))
noncomputable def Jx:BA.J->Option (aB I'):=br B2
theorem aob:aS O (am (codeOf Tryz.f90) 1 58) (aU BA I' Jx):=bH Eg (by kernel_rfl) ae fun y=>by kernel_rfl
abbrev i90:Shape:=⟨[aI 0 .entry],[],53⟩
abbrev aaT:Shape:=⟨[ao 2],[],53⟩
noncomputable def f90(a:i90.J):Option aaT.J:=
(Jy ((a.1.1,(0:Int),()),())).bind fun b=>
(match b with
|.inl c=>
 some ((c.1.1,()),())
|.inr d=>
(Jx ((d.1.1,(0:Int),()),())).bind fun e=>
(match e with
|.inl f=>
 some ((f.1.1,()),())
|.inr g=>
 some (((decide ((g.1.1.length:Int)<=(16:Int))),()),())))
noncomputable def xP:aD:=aG ad Tryz.f90 i90 aaT [] f90
theorem Dt:aA O 90 xP:=aK Eg Tryz.func90 (by kernel_rfl) (a7 aoc (a7 aob ae)) (fun y=>by kernel_rfl) fun a=>by kernel_rfl
theorem age{aH:Type}{ok mu:Nat->aH->Bool}:∀(xs:List aH) (j:Nat),(∀i x,xs[i]? =some x->ok (j+i) x=mu (j+i) x)->allI ok j xs=allI mu j xs:=by
 intro xs;induction xs with
 |nil=>intro j _;rfl
 |cons x r ih=>
  intro j h;simp only[allI];rw[show ok j x=mu j x from h 0 x rfl,ih (j+1) (fun i y hy=>by have:=h (i+1) y (by simpa using hy);rw[show j+(i+1)=j+1+i by omega] at this;exact this)]
theorem zR{aH:Type}{ok:Nat->aH->Bool}:∀(xs:List aH) (j:Nat),allI ok j xs=true->∀i x,xs[i]? =some x->ok (j+i) x=true:=by
 intro xs;induction xs with
 |nil=>intro j _ i x h;simp at h
 |cons y r ih=>
  intro j h i x hx;simp only[allI,Bool.and_eq_true] at h;cases i with
  |zero=>simp only[List.getElem?_cons_zero,Option.some.injEq] at hx;subst hx;exact h.1
  |succ i=>have:=ih (j+1) h.2 i x (by simpa using hx);rwa[show j+1+i=j+(i+1) by omega] at this
abbrev iq(t:List aw):Prop:=cj t.length/\∀e,e∈t->lQ e
def vR(t:List aw)(i:Nat)(e:aw):Bool:=i==0||match t[i-1]? with
 |some q=>Op.bytesLess q.path e.path
 |none=>false
def iT(t:List aw)(i:Nat)(e:aw):Bool:=eN e&&vR t i e
def dB(t:List aw):Bool:=allI (iT t) 0 t&&t.all (fun e=>kD t (iY e.path))&&decide (t.length<=16)
theorem Da(i:Nat):decide ((i:Int)>0)=!(i==0):=by
 cases i with
 |zero=>rfl
 |succ i=>simp
theorem vd(a)(hs:iq a.1.1):f90 a=some ((dB a.1.1,()),()):=by
 obtain⟨⟨t,u⟩,bV⟩:=a;obtain⟨hl,he⟩:=hs;have hl:t.length<=2097152:=hl;have key:Jy ((t,((0:Int),())),())=some (bif allI (iT t) 0 t then .inr ((t,()),()) else .inl ((false,()),())):=by
  refine fV B3 t (fun i=>((t,((i:Int),())),())) _ _ _ (fun i x hx=>?_) ?_
  ·have hi:=cT hx;have hw:ar i:=by unfold ar;omega
   have hb:=he x (List.mem_of_getElem? hx);simp only[B3,ce hi,cond_true,IJ,b4,hx,Option.bind_some];rw[PF _ hb.1 hb.2];simp only[Option.bind_some,iT,Da];cases eN x with
   |false=>rfl
   |true=>
    simp only[Bool.not_true,cond_false,Bool.true_and,vR];cases i with
    |zero=>simp only[beq_self_eq_true,Bool.not_true,cond_false,Option.bind_some,Bool.true_or,cond_true,bU hw]
    |succ i=>
     have h0:(i+1==0)=false:=rfl;have jz:i<t.length:=by omega
     obtain⟨q,az⟩:∃q,t[i]? =some q:=⟨t[i],List.getElem?_eq_getElem jz⟩;simp only[h0,Bool.not_false,cond_true,u3 (i:=i) (by unfold ar;omega),b4,az,hx,Option.bind_some,Bool.false_or,Nat.add_sub_cancel]
     cases Op.bytesLess q.path x.path with
     |false=>rfl
     |true=>simp only[Bool.not_true,cond_false,cond_true,bU hw]
  ·simp only[B3,du,cond_false]
 have Y9:Jx ((t,((0:Int),())),())=some (bif allI (fun _ e=>kD t (iY e.path)) 0 t then .inr ((t,()),()) else .inl ((false,()),())):=by
  refine fV B2 t (fun i=>((t,((i:Int),())),())) _ _ _ (fun i x hx=>?_) ?_
  ·have hi:=cT hx;have hw:ar i:=by unfold ar;omega
   have hb:=he x (List.mem_of_getElem? hx);simp only[B2,ce hi,cond_true,b4,hx,Option.bind_some];rw[T2 _ hb.1];simp only[Option.bind_some];rw[Sg _ hl];simp only[Option.bind_some,bU hw];cases kD t (iY x.path)<;>rfl
  ·simp only[B2,du,cond_false]
 rw[gR] at Y9;simp only[f90,key,Option.bind_some,dB];cases allI (iT t) 0 t with
 |false=>rfl
 |true=>
  simp only[cond_true,Y9,Option.bind_some,Bool.true_and];cases List.all t (fun e=>kD t (iY e.path)) with
  |false=>rfl
  |true=>have:=C3 t.length 16;simp only[cond_true,Bool.true_and];rw[<-this];rfl
theorem Sc{t:List aw}{i:Nat}{e:aw}(he:t[i]? =some e)(h:fH (t.take i))(hl:vR t i e=true):fH (t.take (i+1)):=by
 rw[List.take_add_one,he];unfold fH;refine List.pairwise_append.2 ⟨h,by simp,?_⟩
 intro a ha b hb;have hb:b=e:=by simpa using hb
 subst hb;obtain⟨k,hk⟩:=List.mem_iff_getElem?.1 ha;have DX:k<i:=by
  have:=cT hk;rw[List.length_take] at this;omega
 unfold vR at hl;have h0:(i==0)=false:=by simp;omega
 rw[h0,Bool.false_or] at hl;split at hl
 ·rename_i q az;by_cases hkl:k=i-1
  ·have:t[k]? =some a:=by rw[List.getElem?_take,if_pos DX] at hk;exact hk
   rw[hkl,az] at this;cases this;exact hl
  ·have oA:(t.take i)[i-1]? =some q:=by rw[List.getElem?_take,if_pos (by omega)];exact az
   have:=List.pairwise_iff_getElem.1 h k (i-1) (cT hk) (cT oA) (by omega)
   rw[(List.getElem?_eq_some_iff.1 hk).2,(List.getElem?_eq_some_iff.1 oA).2] at this;exact vl _ _ _ this hl
 ·cases hl
theorem VB{t:List aw}(h:allI (iT t) 0 t=true):fH t:=by
 have:∀i,i<=t.length->fH (t.take i):=by
  intro i;induction i with
  |zero=>intro _;simp[fH]
  |succ i ih=>
   intro hi;have he:t[i]? =some t[i]:=List.getElem?_eq_getElem hi;have:=zR t 0 h i _ he;rw[Nat.zero_add] at this;simp only[iT,Bool.and_eq_true] at this;exact Sc he (ih (by omega)) this.2
 have:=this t.length (Nat.le_refl _);rwa[List.take_length] at this
theorem aha{t:List aw}{i:Nat}{e:aw}{p:B}(ha:fH t)(he:t[i]? =some e)(hp:Op.bytesLess p e.path=true):kD (t.take i) p=kD t p:=by
 have hi:=cT he;have h1:=kv (p:=p) ha i e he;rw[ann hp] at h1;have hle:bM t p<=i:=by
  have:¬i<bM t p:=by simpa using h1.symm
  omega
 have nl:bM (t.take i) p=bM t p:=by
  by_cases hlt:bM t p=i
  ·have hlen:(t.take i).length=i:=by rw[List.length_take];omega
   have h2:=qE (t.take i) p;rw[hlen] at h2;by_cases h3:bM (t.take i) p<i
   ·obtain⟨q,az⟩:∃q,(t.take i)[bM (t.take i) p]? =some q:=⟨_,List.getElem?_eq_getElem (by rw[hlen];exact h3)⟩
    have aC:=kv (p:=p) (ha.take i) _ q az;have oA:t[bM (t.take i) p]? =some q:=by rw[List.getElem?_take,if_pos h3] at az;exact az
    have bk:=kv (p:=p) ha _ q oA;rw[aC] at bk;have:decide (bM (t.take i) p<bM (t.take i) p)=false:=by simp
    rw[this] at bk;have:¬bM (t.take i) p<bM t p:=by simpa using bk.symm
    omega
   ·omega
  ·have hlt:bM t p<i:=by omega
   obtain⟨q,az⟩:∃q,t[bM t p]? =some q:=⟨_,List.getElem?_eq_getElem (by omega)⟩
   have oA:(t.take i)[bM t p]? =some q:=by rw[List.getElem?_take,if_pos hlt];exact az
   have aC:=kv (p:=p) ha _ q az;have bk:=kv (p:=p) (ha.take i) _ q oA;have dy:decide (bM t p<bM t p)=false:=by simp
   rw[aC,dy] at bk;have ca:¬bM t p<bM (t.take i) p:=by simpa using bk.symm
   by_cases ia:bM (t.take i) p<bM t p
   ·obtain⟨r,hr⟩:∃r,t[bM (t.take i) p]? =some r:=⟨_,List.getElem?_eq_getElem (by omega)⟩
    have c_:(t.take i)[bM (t.take i) p]? =some r:=by rw[List.getElem?_take,if_pos (by omega)];exact hr
    have h8:=kv (p:=p) ha _ r hr;have h':=kv (p:=p) (ha.take i) _ r c_;have uI:decide (bM (t.take i) p<bM (t.take i) p)=false:=by simp
    rw[h8,uI] at h';have:¬bM (t.take i) p<bM t p:=by simpa using h'
    omega
   ·omega
 unfold kD;rw[nl];congr 1
 by_cases hlt:bM t p<i
 ·rw[List.getElem?_take,if_pos hlt]
 ·have:bM t p=i:=by omega
  rw[this,he,List.getElem?_take,if_neg (by omega)]
  have:(e.path==p)=false:=by
   cases h:(e.path==p) with
   |false=>rfl
   |true=>rw[eq_of_beq h,v8] at hp;cases hp
  simp[this]
def lo(t:List aw)(p:B):Bool:=kD t (bif gl p then iY p else [])
theorem aem(a)(hs:cj a.1.1.length)(hp:cj a.1.2.1.length)(ha:fH a.1.1):f153 a=some ((lo a.1.1 a.1.2.1,()),()):=by
 obtain⟨⟨t,p,u⟩,bV⟩:=a;have e1:=ajr ((p,()),()) hp;have e2:=Ov ((t,((bif gl p then iY p else []),())),()) hs ha
 simp only[f153,e1,e2,Option.bind_some,lo,kD,gH,b4];generalize(bif gl p then iY p else [])=up
 cases (up==[]) with
 |true=>rfl
 |false=>
  cases au:t[bM t up]? with
  |none=>rfl
  |some e=>simp only[cond_false,cond_true,Option.bind_some,Bool.false_or];cases (e.path==up)<;>rfl
theorem ahJ(t:List aw):dB t=(decide (t.length<=16)&&allI (fun i e=>iT t i e&&lo (t.take i) e.path) 0 t):=by
 unfold dB;rw[G'];cases h:allI (iT t) 0 t with
 |false=>simp
 |true=>
  have ha:=VB h;have:allI (fun i e=>lo (t.take i) e.path) 0 t=t.all (fun e=>kD t (iY e.path)):=by
   rw[<-gR _ 0 t];refine age t 0 (fun i e he=>?_)
   rw[Nat.zero_add];have fG:=zR t 0 h i e he;rw[Nat.zero_add] at fG;have axy:gl e.path=true:=by
    unfold iT eN at fG;simp only[Bool.and_eq_true] at fG;exact fG.1.1
   unfold lo;rw[axy,cond_true];cases hu:(iY e.path==[]) with
   |true=>unfold kD;rw[hu];rfl
   |false=>exact aha ha he (ajv hu)
  rw[this];simp only[Bool.true_and];rw[Bool.and_comm]
theorem qi(a)(hs:iq a.1.1):f105 a=some ((dB a.1.1,()),()):=by
 obtain⟨⟨t,u⟩,bV⟩:=a;obtain⟨hl,he⟩:=hs;have hl:t.length<=2097152:=hl;have key:IE ((t,(t,((t.length:Int),((0:Int),())))),())=some (bif allI (fun i e=>iT t i e&&lo (t.take i) e.path) 0 t then .inr ((),()) else .inl ((false,()),())):=by
  have:=l4 Bg t (fun i (_:Unit)=>((t,(t,((t.length:Int),((i:Int),())))),())) (fun i e _=>some (bif iT t i e&&lo (t.take i) e.path then .inl () else .inr ((.inl ((false,()),())):aB vp))) (fun _=>(.inr ((),()):aB vp))
   (fun i _=>fH (t.take i)) () (by simp[fH]) (fun i x _ hx dq=>?_) (fun _ _=>?_)
  ·exact this.trans (yq (fun i e=>iT t i e&&lo (t.take i) e.path) (fun _ s=>s) _ _ t 0 ())
  ·have hi:=cT hx;have hw:ar i:=by unfold ar;omega
   have hb:=he x (List.mem_of_getElem? hx);refine⟨?_,fun aN ak=>?_⟩
   ·have pP:=aem ((t.take i,(x.path,())),()) (show(t.take i).length<=2097152 by rw[List.length_take];omega) hb.1 dq
    simp only[Bg,ce hi,cond_true,b4,hx,Option.bind_some,F2];rw[ahz _ hb.1 hb.2];simp only[Option.bind_some,iT,Da];cases eN x with
    |false=>rfl
    |true=>
     simp only[Bool.not_true,cond_false,Bool.true_and,vR];cases i with
     |zero=>
      have ek:bm t 0 0=some (t.take 0):=gj (b:=0) (Nat.zero_le _);have ek:bm t 0 ((0:Nat):Int)=some (t.take 0):=ek;simp only[beq_self_eq_true,Bool.not_true,cond_false,ek,Option.bind_some,pP,Bool.true_or,Bool.true_and];cases lo (t.take 0) x.path with
      |false=>rfl
      |true=>simp only[Bool.not_true,cond_false,cond_true,bU hw];rfl
     |succ i=>
      have h0:(i+1==0)=false:=rfl;have jz:i<t.length:=by omega
      obtain⟨q,az⟩:∃q,t[i]? =some q:=⟨t[i],List.getElem?_eq_getElem jz⟩;have ek:bm t 0 ((i+1:Nat):Int)=some (t.take (i+1)):=gj (by omega)
      simp only[h0,Bool.not_false,cond_true,u3 (i:=i) (by unfold ar;omega),b4,az,hx,Option.bind_some,Bool.false_or,Nat.add_sub_cancel]
      cases Op.bytesLess q.path x.path with
      |false=>rfl
      |true=>
       simp only[Bool.not_true,cond_false,cond_true,ek,Option.bind_some,pP,Bool.true_and];cases lo (t.take (i+1)) x.path with
       |false=>rfl
       |true=>simp only[Bool.not_true,cond_false,cond_true,bU hw];rfl
   ·simp only[Option.some.injEq] at ak;cases az:(iT t i x&&lo (t.take i) x.path) with
    |false=>rw[az] at ak;cases ak
    |true=>
     simp only[Bool.and_eq_true] at az;have:=az.1;simp only[iT,Bool.and_eq_true] at this;exact Sc hx dq this.2
  ·simp only[Bg,du,cond_false]
 have xK:decide ((t.length:Int)>16)=!decide (t.length<=16):=by by_cases h:t.length<=16<;>simp only[h,decide_true,decide_false,Bool.not_true,Bool.not_false,decide_eq_true_eq,decide_eq_false_iff_not]<;>omega
 simp only[f105,xK,key,Option.bind_some];rw[ahJ];cases decide (t.length<=16)<;>cases allI (fun i e=>iT t i e&&lo (t.take i) e.path) 0 t<;>rfl
abbrev i202:Shape:=⟨[aI 0 .entry],[],6⟩
abbrev XV:Shape:=⟨[ba 2 3000128],[a' 3000128 .entry 2 0],6⟩
noncomputable def f202(a:i202.J):Option XV.J:=
(b9 48 ([]:List aw) a.1.1).bind fun b=>
 some (((),()),b,())
noncomputable def wZ:aD:=aG ad Tryz.f202 i202 XV [] f202
theorem CT:aA O 202 wZ:=aK g0 Tryz.func202 (by kernel_rfl) ae (fun y=>by kernel_rfl) fun a=>by kernel_rfl
noncomputable abbrev auw:a_:=[(90,xP),(194,Dg),(202,wZ)]
theorem LA:aQ O (aW ad auw):=aV ⟨Dt,z194,CT,⟨⟩⟩
abbrev Qh:Shape:=⟨[aI 1 .entry,ba 6 3000384,ag 7,ag 8,ao 9],[a' 3000384 .entry 6 0],69⟩
abbrev PY:List aP:=[(.norm,⟨[aI 1 .entry,ba 6 3000384,ag 7,ag 8,ao 9,ao 28,ao 29,ao 47],[a' 3000384 .entry 6 0],69⟩)]
noncomputable def FY(y:Qh.J):Option (aB PY):=
 bif y.1.2.2.2.2.1 then
(be y.2.1.length y.1.2.2.2.1).bind fun a=>
(y.2.1[a]?).bind fun b=>
 bif(b.kind !=(1:Int)) then
 some ((y.1.1,(),y.1.2.2.1,y.1.2.2.2.1,y.1.2.2.2.2.1,y.1.2.2.2.2.1,true,true,()),y.2.1,())
else
(aO y.1.1 y.1.2.2.1).bind fun c=>
(be y.2.1.length y.1.2.2.2.1).bind fun d=>
(y.2.1[d]?).bind fun e=>
 some ((y.1.1,(),y.1.2.2.1,y.1.2.2.2.1,y.1.2.2.2.2.1,y.1.2.2.2.2.1,true,(!((c.path==e.path)&&((c.kind==e.kind)&&((c.mode==e.mode)&&(c.text==e.text))))),()),y.2.1,())
else
 some ((y.1.1,(),y.1.2.2.1,y.1.2.2.2.1,y.1.2.2.2.2.1,y.1.2.2.2.2.1,false,false,()),y.2.1,())
theorem aig:aS O (am (c4 (am (codeOf Tryz.f159) 1 58)) 116 7460) (aU Qh PY FY):=cd LA (by kernel_rfl) ae fun y=>by kernel_rfl
abbrev vq:Shape:=⟨[aI 1 .entry,ba 6 3000384,ag 7],[a' 3000384 .entry 6 0],69⟩
abbrev o7:List aP:=[(.ret,⟨[ba 4 3000256,ao 5],[a' 3000256 .entry 4 0],69⟩),(.exit 0,⟨[ba 6 3000384],[a' 3000384 .entry 6 0],69⟩)]
noncomputable def A8(y:vq.J):bG vq o7:=
 bif(decide (y.1.2.2.1<(y.1.1.length:Int))) then
(aO y.1.1 y.1.2.2.1).bind fun a=>
(f194 ((y.2.1,a.path,()),())).bind fun b=>
(FY ((y.1.1,(),y.1.2.2.1,b.1.1,b.1.2.1,()),y.2.1,())).bind fun c=>
 bif c.1.2.2.2.2.2.2.2.1 then
 some (.inr (.inl (((),false,()),([]:List aw),())))
else
 bif(!c.1.2.2.2.2.1) then
(bm c.2.1 (0:Int) c.1.2.2.2.1).bind fun d=>
(b9 48 ([]:List aw) d).bind fun e=>
(aO c.1.1 c.1.2.2.1).bind fun f=>
(b9 48 e ([f]:List aw)).bind fun g=>
(bm c.2.1 c.1.2.2.2.1 (c.2.1.length:Int)).bind fun h=>
(b9 48 g h).bind fun i=>
 some (.inl ((c.1.1,(),(IntKind.i64.wrap (c.1.2.2.1+(1:Int))),()),i,()))
else
 some (.inl ((c.1.1,(),(IntKind.i64.wrap (c.1.2.2.1+(1:Int))),()),c.2.1,()))
else
 some (.inr (.inr (((),()),y.2.1,())))
noncomputable def It:vq.J->Option (aB o7):=br A8
theorem amn:aS O (am (codeOf Tryz.f159) 1 58) (aU vq o7 It):=bH LA (by kernel_rfl) (a7 aig ae) fun y=>by kernel_rfl
abbrev i159:Shape:=⟨[aI 0 .entry,aI 1 .entry],[],69⟩
abbrev Yr:Shape:=⟨[ba 4 3000256,ao 5],[a' 3000256 .entry 4 0],69⟩
noncomputable def f159(a:i159.J):Option Yr.J:=
(f202 ((a.1.1,()),())).bind fun b=>
(It ((a.1.2.1,(),(0:Int),()),b.2.1,())).bind fun c=>
(match c with
|.inl d=>
 some (((),d.1.2.1,()),d.2.1,())
|.inr e=>
(f90 ((e.2.1,()),())).bind fun f=>
 some (((),f.1.1,()),e.2.1,()))
noncomputable def _B:aD:=aG ad Tryz.f159 i159 Yr [] f159
theorem z159:aA O 159 _B:=aK LA Tryz.func159 (by kernel_rfl) (a7 amn ae) (fun y=>by kernel_rfl) fun a=>by kernel_rfl
noncomputable abbrev azj:a_:=[(87,M5),(88,M4),(89,acy),(90,xP)]
theorem azQ:aQ O (aW ad azj):=aV ⟨z87,aaB,avR,Dt,⟨⟩⟩
abbrev i50:Shape:=⟨[b_ 0 [ah,ah,bn .need,bn .entry]],[],23⟩
abbrev abd:Shape:=⟨[ao 2],[],23⟩
noncomputable def f50(a:i50.J):Option abd.J:=
(f87 ((a.1.1.1,()),())).bind fun b=>
 bif b.1.1 then
(f88 ((a.1.1.2.1,()),())).bind fun c=>
 bif c.1.1 then
(f89 ((a.1.1.1,a.1.1.2.2.1,()),())).bind fun d=>
 bif d.1.1 then
(f90 ((a.1.1.2.2.2.1,()),())).bind fun e=>
 some ((e.1.1,()),())
else
 some ((false,()),())
else
 some ((false,()),())
else
 some ((false,()),())
noncomputable def Ea:aD:=aG ad Tryz.f50 i50 abd [] f50
theorem LK:aA O 50 Ea:=aK azQ Tryz.func50 (by kernel_rfl) ae (fun y=>by kernel_rfl) fun a=>by kernel_rfl
noncomputable abbrev azi:a_:=[(99,M3),(100,Dj),(101,VS),(103,VR),(105,w1)]
theorem ada:aQ O (aW ad azi):=aV ⟨aaA,Kk,anP,anO,z105,⟨⟩⟩
abbrev Uk:Shape:=⟨[ay 1 1 0],[ax 1 [ah,ah,bn .need,bn .entry]],36⟩
abbrev T_:List aP:=[(.norm,⟨[ay 1 1 0,ao 18],[ax 1 [ah,ah,bn .need,bn .entry]],36⟩)]
noncomputable def JM(y:Uk.J):Option (aB T_):=
(f99 ((y.2.1.1,()),())).bind fun a=>
 bif(!(!a.1.1)) then
(f100 ((y.2.1.2.1,()),())).bind fun b=>
 bif(!(!b.1.1)) then
 some (((),(decide ((y.2.1.2.2.1.length:Int)>(6:Int))),()),(y.2.1.1,y.2.1.2.1,y.2.1.2.2.1,y.2.1.2.2.2.1,()),())
else
 some (((),true,()),(y.2.1.1,y.2.1.2.1,y.2.1.2.2.1,y.2.1.2.2.2.1,()),())
else
 some (((),true,()),(y.2.1.1,y.2.1.2.1,y.2.1.2.2.1,y.2.1.2.2.2.1,()),())
theorem aoq:aS O (am (codeOf Tryz.f55) 1 12) (aU Uk T_ JM):=cd ada (by kernel_rfl) ae fun y=>by kernel_rfl
abbrev i55:Shape:=⟨[b_ 0 [ah,ah,bn .need,bn .entry]],[],36⟩
abbrev abc:Shape:=⟨[ao 2],[],36⟩
noncomputable def f55(a:i55.J):Option abc.J:=
(JM (((),()),(a.1.1.1,a.1.1.2.1,a.1.1.2.2.1,a.1.1.2.2.2.1,()),())).bind fun b=>
 bif b.1.2.1 then
 some ((false,()),())
else
(Cj ((b.2.1.2.2.1,(),()),())).bind fun c=>
 bif c.1.1 then
(Ci ((b.2.1.2.2.1,(),([b.2.1.1]:List B),()),())).bind fun d=>
 bif(!d.1.1) then
(f105 ((b.2.1.2.2.2.1,()),())).bind fun e=>
 some ((e.1.1,()),())
else
 some ((false,()),())
else
 some ((false,()),())
noncomputable def D':aD:=aG ad Tryz.f55 i55 abc [] f55
theorem LJ:aA O 55 D':=aK ada Tryz.func55 (by kernel_rfl) (a7 aoq ae) (fun y=>by kernel_rfl) fun a=>by kernel_rfl
noncomputable abbrev aq2:a_:=[(55,D')]
theorem WR:aQ O (aW ad aq2):=aV ⟨LJ,⟨⟩⟩
abbrev zh:Shape:=⟨[(1,.an (.fn 55 [])),aI 7 .pack,ag 8,ag 9],[],18⟩
abbrev Ge:List aP:=[(.ret,⟨[ao 4],[],18⟩),(.exit 0,⟨[],[],18⟩)]
noncomputable def zG(y:zh.J):bG zh Ge:=
 bif(decide (y.1.2.2.2.1<y.1.2.2.1)) then
(aO y.1.2.1 y.1.2.2.2.1).bind fun a=>
(f55 (((a.name,a.aX,a.bi,a.bx,()),()),())).bind fun b=>
 bif(!b.1.1) then
 some (.inr (.inl ((false,()),())))
else
 some (.inl (((),y.1.2.1,y.1.2.2.1,(IntKind.i64.wrap (y.1.2.2.2.1+(1:Int))),()),()))
else
 some (.inr (.inr ((),())))
noncomputable def GH:zh.J->Option (aB Ge):=br zG
theorem ajV:aS O (am (codeOf Tryz.f54) 1 26) (aU zh Ge GH):=bH WR (by kernel_rfl) ae fun y=>by kernel_rfl
abbrev Wz:Shape:=⟨[aI 0 .pack,(1,.an (.fn 55 []))],[],18⟩
abbrev Wj:Shape:=⟨[ao 4],[],18⟩
noncomputable def CJ(a:Wz.J):Option Wj.J:=
(GH (((),a.1.1,(a.1.1.length:Int),(0:Int),()),())).bind fun b=>
(match b with
|.inl c=>
 some ((c.1.1,()),())
|.inr d=>
 some ((true,()),()))
noncomputable def WP:aD:=aG ad Tryz.f54 Wz Wj [] CJ
theorem apX:aA O 54 WP:=aK WR Tryz.func54 (by kernel_rfl) (a7 ajV ae) (fun y=>by kernel_rfl) fun a=>by kernel_rfl
abbrev BK:Shape:=⟨[aI 0 .pack,ag 3],[],22⟩
abbrev Jh:List aP:=[(.ret,⟨[ao 2],[],22⟩),(.exit 0,⟨[],[],22⟩)]
noncomputable def B_(y:BK.J):bG BK Jh:=
 bif(decide (y.1.2.1<(y.1.1.length:Int))) then
(aO y.1.1 (IntKind.i64.wrap (y.1.2.1-(1:Int)))).bind fun a=>
(aO y.1.1 y.1.2.1).bind fun b=>
 bif(!(Op.bytesLess a.name b.name)) then
 some (.inr (.inl ((false,()),())))
else
 some (.inl ((y.1.1,(IntKind.i64.wrap (y.1.2.1+(1:Int))),()),()))
else
 some (.inr (.inr ((),())))
noncomputable def JF:BK.J->Option (aB Jh):=br B_
theorem aop:aS O (am (codeOf Tryz.f56) 1 26) (aU BK Jh JF):=bH g0 (by kernel_rfl) ae fun y=>by kernel_rfl
abbrev i56:Shape:=⟨[aI 0 .pack],[],22⟩
abbrev abb:Shape:=⟨[ao 2],[],22⟩
noncomputable def f56(a:i56.J):Option abb.J:=
(JF ((a.1.1,(1:Int),()),())).bind fun b=>
(match b with
|.inl c=>
 some ((c.1.1,()),())
|.inr d=>
 some ((true,()),()))
noncomputable def acJ:aD:=aG ad Tryz.f56 i56 abb [] f56
theorem av0:aA O 56 acJ:=aK g0 Tryz.func56 (by kernel_rfl) (a7 aop ae) (fun y=>by kernel_rfl) fun a=>by kernel_rfl
abbrev jB(p:aL):Prop:=cj p.name.length/\cj p.aX.length/\tR p.bi/\iq p.bx
abbrev gp(ps:List aL):Prop:=cj ps.length/\∀p,p∈ps->jB p
def ch(p:aL):Bool:=iz p.name&&ej p.aX&&qG p.name p.bi&&dB p.bx
theorem vf(a)(hb:jB ⟨a.1.1.1,a.1.1.2.1,a.1.1.2.2.1,a.1.1.2.2.2.1⟩):f50 a=some ((ch ⟨a.1.1.1,a.1.1.2.1,a.1.1.2.2.1,a.1.1.2.2.2.1⟩,()),()):=by
 obtain⟨⟨⟨n,v,ns,t,u⟩,bV⟩,nr⟩:=a;obtain⟨h1,h2,h3,aC⟩:=hb;have h1:n.length<=2097152:=h1;have e1:=Q3 ((n,()),()) (show n.length<=1099511627776 by omega)
 have e2:=Ow ((v,()),()) h2;have bC:=ahq ((n,(ns,())),()) h3 h1;have dy:=vd ((t,()),()) aC;simp only[f50,e1,e2,bC,dy,Option.bind_some,ch];cases iz n<;>cases ej v<;>cases qG n ns<;>rfl
theorem yH(a)(hb:jB ⟨a.1.1.1,a.1.1.2.1,a.1.1.2.2.1,a.1.1.2.2.2.1⟩):f55 a=some ((ch ⟨a.1.1.1,a.1.1.2.1,a.1.1.2.2.1,a.1.1.2.2.2.1⟩,()),()):=by
 obtain⟨⟨⟨n,v,ns,t,u⟩,bV⟩,nr⟩:=a;obtain⟨h1,h2,h3,aC⟩:=hb;have h1:n.length<=2097152:=h1;have e1:=Oe ((n,()),()) (show n.length<=1099511627776 by omega)
 have e2:=EJ ((v,()),()) h2;have bC:=ahB ((ns,((),())),()) h3;have dy:=qi ((t,()),()) aC;have fT:=aeI ((ns,((),(([n]:List B),()))),()) h3 (Nat.le_refl _);have ca:decide ((ns.length:Int)>6)=!decide (ns.length<=6):=by by_cases h:ns.length<=6<;>simp only[h,decide_true,decide_false,Bool.not_true,Bool.not_false,decide_eq_true_eq,decide_eq_false_iff_not]<;>omega
 have aa:jU [] (n::ns.map (·.name))=jU [n] (ns.map (·.name)):=by simp[jU]
 simp only[f55,JM,e1,e2,Option.bind_some,ch,qG,aa,ca,Bool.not_not];cases iz n with
 |false=>rfl
 |true=>
  cases ej v with
  |false=>rfl
  |true=>
   cases decide (ns.length<=6) with
   |false=>simp only[cond_true,Bool.not_false,Option.bind_some,Bool.and_false,Bool.false_and]
   |true=>
    simp only[cond_true,Bool.not_true,cond_false,Option.bind_some,bC,fT,dy,Bool.true_and,Bool.and_true];cases List.all ns dC<;>cases jU [n] (ns.map (·.name))<;>rfl
theorem ahA(a)(hs:gp a.1.1):CJ a=some ((a.1.1.all ch,()),()):=by
 obtain⟨⟨ps,u⟩,bV⟩:=a;obtain⟨hl,hn⟩:=hs;have hl:ps.length<=2097152:=hl;have key:GH (((),(ps,((ps.length:Int),((0:Int),())))),())=some (bif allI (fun _ n=>ch n) 0 ps then .inr ((),()) else .inl ((false,()),())):=by
  refine fV zG ps (fun i=>(((),(ps,((ps.length:Int),((i:Int),())))),())) _ _ _ (fun i x hx=>?_) ?_
  ·have hi:=cT hx;have hw:ar i:=by unfold ar;omega
   have hb:=hn x (List.mem_of_getElem? hx);simp only[zG,ce hi,cond_true,b4,hx,Option.bind_some];rw[yH _ hb];simp only[Option.bind_some,bU hw];cases ch x<;>rfl
  ·simp only[zG,du,cond_false]
 rw[gR] at key;simp only[CJ,key,Option.bind_some];cases List.all ps ch<;>rfl
def nc(ps:List aL)(i:Nat)(x:aL):Bool:=match ps[i]? with
 |some q=>Op.bytesLess q.name x.name
 |none=>false
def kM(ps:List aL):Bool:=allI (nc ps) 0 ps.tail
theorem ael(a)(hs:cj a.1.1.length):f56 a=some ((kM a.1.1,()),()):=by
 obtain⟨⟨ps,u⟩,bV⟩:=a;have hs:ps.length<=2097152:=hs;have key:JF ((ps,((1:Int),())),())=some (bif allI (nc ps) 0 ps.tail then .inr ((),()) else .inl ((false,()),())):=by
  refine fV B_ ps.tail (fun i=>((ps,(((i+1:Nat):Int),())),())) _ _ _ (fun i x hx=>?_) ?_
  ·have pN:ps[i+1]? =some x:=by rw[List.getElem?_tail] at hx;exact hx
   have hi:=cT pN;have hw:ar (i+1):=by unfold ar;omega
   obtain⟨q,az⟩:∃q,ps[i]? =some q:=⟨ps[i],List.getElem?_eq_getElem (by omega)⟩
   simp only[B_,ce hi,cond_true,u3 (i:=i) (by unfold ar;omega),b4,az,pN,Option.bind_some,bU hw,nc]
   cases Op.bytesLess q.name x.name<;>rfl
  ·have:decide (((ps.tail.length+1:Nat):Int)<(ps.length:Int))=false:=by
    simp only[decide_eq_false_iff_not,List.length_tail];omega
   simp only[B_,this,cond_false]
 simp only[f56,key,Option.bind_some,kM];cases allI (nc ps) 0 ps.tail<;>rfl
def kr(a b:aw):Bool:=a.path==b.path&&(a.kind==b.kind&&(a.mode==b.mode&&a.text==b.text))
def mo(e q:aw):Bool:=e.kind !=1||!kr e q
theorem akZ(a b:aw):kr a b=kr b a:=by
 unfold kr;have h1:(a.path==b.path)=(b.path==a.path):=BEq.comm;have h2:(a.kind==b.kind)=(b.kind==a.kind):=BEq.comm;have h3:(a.mode==b.mode)=(b.mode==a.mode):=BEq.comm;have aC:(a.text==b.text)=(b.text==a.text):=BEq.comm;rw[h1,h2,h3,aC]
theorem ank(e q:aw):mo e q=(q.kind !=1||!kr e q):=by
 unfold mo;cases h:kr e q with
 |false=>simp
 |true=>
  unfold kr at h;simp only[Bool.and_eq_true] at h;rw[show e.kind=q.kind from eq_of_beq h.2.1]
def jQ(t:List aw)(k:Nat)(e:aw):List aw:=t.take k++[e]++t.drop k
def gF(out:List aw):List aw->Option (List aw)
 |[]=>some out
 |e::r=>match out[bM out e.path]? with
  |some q=>bif q.path==e.path then(bif mo e q then none else gF out r) else gF (jQ out (bM out e.path) e) r
  |none=>gF (jQ out (bM out e.path) e) r
theorem QE(t:List aw)(k:Nat)(e:aw)(h:k<=t.length):(jQ t k e).length=t.length+1:=by
 unfold jQ;simp only[List.length_append,List.length_take,List.length_cons,List.length_nil,List.length_drop];omega
theorem FU{t:List aw}{k:Nat}{e x:aw}(h:x∈jQ t k e):x=e\/x∈t:=by
 unfold jQ at h;rcases List.mem_append.1 h with h|h
 ·rcases List.mem_append.1 h with h|h
  ·exact .inr (List.mem_of_mem_take h)
  ·exact .inl (by simpa using h)
 ·exact .inr (List.mem_of_mem_drop h)
def hQ(out:List aw)(e:aw):Option (List aw):=match out[bM out e.path]? with
 |some q=>bif q.path==e.path then(bif mo e q then none else some out) else some (jQ out (bM out e.path) e)
 |none=>some (jQ out (bM out e.path) e)
theorem uX(out:List aw)(e:aw)(r:List aw):gF out (e::r)=(hQ out e).bind fun D=>gF D r:=by
 unfold hQ;rw[gF];cases out[bM out e.path]? with
 |none=>rfl
 |some q=>
  simp only;cases (q.path==e.path) with
  |false=>rfl
  |true=>cases mo e q<;>rfl
theorem yK{out D:List aw}{e:aw}(h:hQ out e=some D):D.length<=out.length+1:=by
 unfold hQ at h;split at h
 ·rename_i q az;cases hp:(q.path==e.path) with
  |true=>
   rw[hp] at h;cases hc:mo e q with
   |true=>rw[hc] at h;cases h
   |false=>rw[hc] at h;cases h;omega
  |false=>rw[hp] at h;cases h;rw[QE _ _ _ (qE _ _)];omega
 ·cases h;rw[QE _ _ _ (qE _ _)];omega
theorem Fz{out D:List aw}{e x:aw}(h:hQ out e=some D)(hx:x∈D):x=e\/x∈out:=by
 unfold hQ at h;split at h
 ·rename_i q az;cases hp:(q.path==e.path) with
  |true=>
   rw[hp] at h;cases hc:mo e q with
   |true=>rw[hc] at h;cases h
   |false=>rw[hc] at h;cases h;exact .inr hx
  |false=>rw[hp] at h;cases h;exact FU hx
 ·cases h;exact FU hx
theorem anr{t:List aw}{e:aw}(ha:fH t)(hn:gH t e.path=false):fH (jQ t (bM t e.path) e):=by
 have Zj:∀a,a∈t.take (bM t e.path)->Op.bytesLess a.path e.path=true:=by
  intro a h;obtain⟨k,hk⟩:=List.mem_iff_getElem?.1 h;have ab1:k<bM t e.path:=by have:=cT hk;rw[List.length_take] at this;omega
  have Mx:t[k]? =some a:=by rw[List.getElem?_take,if_pos ab1] at hk;exact hk
  rw[kv ha k a Mx];simpa using ab1
 have WD:∀a,a∈t.drop (bM t e.path)->Op.bytesLess e.path a.path=true:=by
  intro a h;obtain⟨k,hk⟩:=List.mem_iff_getElem?.1 h;rw[List.getElem?_drop] at hk;have h1:=kv (p:=e.path) ha _ a hk;have h2:Op.bytesLess a.path e.path=false:=by rw[h1];simp
  refine ao7 _ _ h2 ?_
  cases az:(a.path==e.path) with
  |false=>rfl
  |true=>
   exfalso
   cases k with
   |zero=>
    unfold gH at hn;rw[Nat.add_zero] at hk;rw[hk] at hn;simp only[az] at hn;cases hn
   |succ k=>
    have hlt:=cT hk;obtain⟨q,xx⟩:∃q,t[bM t e.path]? =some q:=⟨_,List.getElem?_eq_getElem (by omega)⟩
    have h3:=List.pairwise_iff_getElem.1 ha (bM t e.path) (bM t e.path+(k+1)) (cT xx) hlt (by omega)
    rw[(List.getElem?_eq_some_iff.1 xx).2,(List.getElem?_eq_some_iff.1 hk).2] at h3;have aC:=kv (p:=e.path) ha _ q xx;rw[<-eq_of_beq az,h3] at aC;simp at aC
 unfold fH jQ;refine List.pairwise_append.2 ⟨List.pairwise_append.2 ⟨ha.take _,by simp,?_⟩,List.Pairwise.sublist (List.drop_sublist _ _) ha,?_⟩
 ·intro a h b hb;have hb:b=e:=by simpa using hb
  subst hb;exact Zj a h
 ·intro a h b hb;rcases List.mem_append.1 h with h|h
  ·exact vl _ _ _ (Zj a h) (WD b hb)
  ·have h:a=e:=by simpa using h
   subst h;exact WD b hb
theorem ahM{out D:List aw}{e:aw}(ha:fH out)(h:hQ out e=some D):fH D:=by
 unfold hQ at h;have hno:∀{b:Bool},gH out e.path=b->b=false->fH (jQ out (bM out e.path) e):=fun h1 h2=>anr ha (h1.trans h2)
 split at h
 ·rename_i q az;cases hp:(q.path==e.path) with
  |true=>
   rw[hp] at h;cases hc:mo e q with
   |true=>rw[hc] at h;cases h
   |false=>rw[hc] at h;cases h;exact ha
  |false=>rw[hp] at h;cases h;exact hno (by unfold gH;rw[az]) hp
 ·rename_i az;cases h;exact hno (by unfold gH;rw[az]) rfl
theorem ajj(a)(ha:iq a.1.1)(hb:iq a.1.2.1)(hl:a.1.1.length+a.1.2.1.length<=2097152):f159 a=
  some (match gF a.1.1 a.1.2.1 with|some out=>(((),(dB out,())),(out,()))|none=>(((),(false,())),(([]:List aw),()))):=by
 obtain⟨⟨xs,bj,u⟩,bV⟩:=a;have hl:xs.length+bj.length<=2097152:=hl;have hc:f202 ((xs,()),())=some (((),()),(xs,())):=by
  simp only[f202];rw[dh (by decide) (by unfold ar;simp only[List.length_nil];omega)]
  rfl
 have key:It ((bj,((),((0:Int),()))),(xs,()))=_:=l4 A8 bj (fun i (out:List aw)=>((bj,((),((i:Int),()))),(out,())))
  (fun i e out=>some (match hQ out e with|some D=>.inl D|none=>.inr ((.inl (((),(false,())),(([]:List aw),()))):aB o7))) (fun out=>((.inr (((),()),(out,()))):aB o7))
  (fun i out=>out.length<=xs.length+i/\∀e,e∈out->lQ e) xs ⟨Nat.le_refl _,ha.2⟩ (fun i x out hx dq=>?_) (fun out _=>?_)
 ·have fold:∀(r:List aw) (k:Nat) (out:List aw),eT (fun i e out=>some (match hQ out e with|some D=>.inl D|none=>.inr ((.inl (((),(false,())),(([]:List aw),()))):aB o7))) (fun out=>((.inr (((),()),(out,()))):aB o7)) k r out=
    some (match gF out r with|some D=>.inr (((),()),(D,()))|none=>.inl (((),(false,())),(([]:List aw),()))):=by
   intro r;induction r with
   |nil=>intro k out;rfl
   |cons e r ih=>
    intro k out;rw[uX];simp only[eT];cases hQ out e with
    |none=>rfl
    |some D=>simp only[Option.bind_some];exact ih _ _
  have mem:∀(r:List aw) (out D:List aw),(∀e,e∈r->lQ e)->(∀e,e∈out->lQ e)->gF out r=some D->D.length<=out.length+r.length/\∀e,e∈D->lQ e:=by
   intro r;induction r with
   |nil=>intro out D _ h2 h;cases h;exact⟨Nat.le_refl _,h2⟩
   |cons e r ih=>
    intro out D h1 h2 h;rw[uX] at h;obtain⟨o1,h3,aC⟩:=Option.bind_eq_some_iff.1 h;have bk:=ih o1 D (fun x hx=>h1 x (List.mem_cons_of_mem _ hx)) (fun x hx=>by
     rcases Fz h3 hx with rfl|h
     ·exact h1 x List.mem_cons_self
     ·exact h2 x h) aC
    have ca:=yK h3;exact⟨by simp only[List.length_cons];omega,bk.2⟩
  rw[fold] at key;simp only[f159,hc,Option.bind_some,key];cases hj:gF xs bj with
  |none=>rfl
  |some D=>
   have hm:=mem bj xs D hb.2 ha.2 hj;simp only[Option.bind_some];rw[vd _ ⟨show D.length<=2097152 by omega,hm.2⟩]
   rfl
 ·have hi:=cT hx;have hw:ar i:=by unfold ar;omega
  refine⟨?_,fun aN ak=>?_⟩
  ·have mD:=I7 ((out,(x.path,())),()) (show out.length<=2097152 by omega)
   have pP:=qE out x.path;simp only[A8,ce hi,cond_true,b4,hx,Option.bind_some,mD,FY,gH,hQ];have grow:((bm out 0 (bM out x.path:Int)).bind fun aso=>(b9 48 ([]:List aw) aso).bind fun asn=>(b9 48 asn ([x]:List aw)).bind fun asm=>(bm out (bM out x.path:Int) (out.length:Int)).bind fun asl=>(b9 48 asm asl).bind fun asj=>
     (some (.inl ((bj,((),((IntKind.i64.wrap ((i:Int)+(1:Int))),()))),(asj,()))):Option (Sum vq.J (aB o7))))=some (.inl ((bj,((),(((i+1:Nat):Int),()))),(jQ out (bM out x.path) x,()))):=by
    have hlen:(out.take (bM out x.path)).length<=out.length:=by rw[List.length_take];omega
    have aBs:(out.drop (bM out x.path)).length<=out.length:=by rw[List.length_drop];omega
    rw[gj pP,Option.bind_some,dh (by decide) (by unfold ar;simp only[List.length_nil];omega),Option.bind_some,dh (by decide) (by unfold ar;simp only[List.length_nil,List.length_cons,List.nil_append];omega),Option.bind_some,fc pP,Option.bind_some,
     dh (by decide) (by unfold ar;simp only[List.length_append,List.length_nil,List.length_cons,List.nil_append];omega),Option.bind_some,bU hw]
    rfl
   cases az:out[bM out x.path]? with
   |none=>simp only[cond_false,Option.bind_some,Bool.not_false,cond_true,b4,hx];exact grow
   |some q=>
    have hin:=ft (cT az);simp only;cases hp:(q.path==x.path) with
    |false=>simp only[cond_false,Option.bind_some,Bool.not_false,cond_true,b4,hx];exact grow
    |true=>
     have un:((x.path==q.path)&&((x.kind==q.kind)&&((x.mode==q.mode)&&(x.text==q.text))))=kr x q:=rfl;rw[ank];simp only[cond_true,hin,az,Option.bind_some,b4,hx,un];cases hk:(q.kind !=1) with
     |true=>rfl
     |false=>
      simp only[cond_false,Option.bind_some,Bool.false_or];cases kr x q with
      |false=>rfl
      |true=>simp only[Bool.not_true,cond_false,Option.bind_some,bU hw];rfl
  ·simp only[Option.some.injEq] at ak;cases hs:hQ out x with
   |none=>rw[hs] at ak;cases ak
   |some D=>
    rw[hs] at ak;cases ak;have ca:=yK hs;refine⟨by omega,fun e he=>?_⟩
    rcases Fz hs he with rfl|h
    ·exact hb.2 e (List.mem_of_getElem? hx)
    ·exact dq.2 e h
 ·simp only[A8,du,cond_false]
noncomputable abbrev au4:a_:=[(159,_B)]
theorem aau:aQ O (aW ad au4):=aV ⟨z159,⟨⟩⟩
abbrev AG:Shape:=⟨[aI 0 .pack,ba 4 3000256,ag 5],[a' 3000256 .entry 4 0],30⟩
abbrev qD:List aP:=[(.ret,⟨[ba 2 3000128,ao 3],[a' 3000128 .entry 2 0],30⟩),(.exit 0,⟨[ba 4 3000256],[a' 3000256 .entry 4 0],30⟩)]
noncomputable def Be(y:AG.J):bG AG qD:=
 bif(decide (y.1.2.2.1<(y.1.1.length:Int))) then
(aO y.1.1 y.1.2.2.1).bind fun a=>
(f159 ((y.2.1,a.bx,()),())).bind fun b=>
 bif(!b.1.2.1) then
 some (.inr (.inl (((),false,()),([]:List aw),())))
else
 some (.inl ((y.1.1,(),(IntKind.i64.wrap (y.1.2.2.1+(1:Int))),()),b.2.1,()))
else
 some (.inr (.inr (((),()),y.2.1,())))
noncomputable def IC:AG.J->Option (aB qD):=br Be
theorem amG:aS O (am (codeOf Tryz.f109) 1 58) (aU AG qD IC):=bH aau (by kernel_rfl) ae fun y=>by kernel_rfl
abbrev i109:Shape:=⟨[aI 0 .pack],[],30⟩
abbrev Y1:Shape:=⟨[ba 2 3000128,ao 3],[a' 3000128 .entry 2 0],30⟩
noncomputable def f109(a:i109.J):Option Y1.J:=
(IC ((a.1.1,(),(0:Int),()),([]:List aw),())).bind fun b=>
(match b with
|.inl c=>
 some (((),c.1.2.1,()),c.2.1,())
|.inr d=>
 some (((),true,()),d.2.1,()))
noncomputable def _3:aD:=aG ad Tryz.f109 i109 Y1 [] f109
theorem z109:aA O 109 _3:=aK aau Tryz.func109 (by kernel_rfl) (a7 amG ae) (fun y=>by kernel_rfl) fun a=>by kernel_rfl
abbrev i229:Shape:=⟨[aI 0 .entry],[],8⟩
abbrev Kx:Shape:=⟨[ba 2 3000128],[a' 3000128 .entry 2 0],8⟩
noncomputable def f229(a:i229.J):Option Kx.J:=
 qn (t:=.entry) a.1.1 (some (((),()),([]:List aw),())) ((b9 48 ([]:List aw) a.1.1).bind fun b=>
 some (((),()),b,()))
noncomputable def ZZ:aD:=aG ad Tryz.f229 i229 Kx [] f229
theorem z229:aA O 229 ZZ:=aK g0 Tryz.func229 (by kernel_rfl) ae (fun y=>by kernel_rfl) fun a=>by kernel_rfl
theorem aiL(g n c i vb m vc:Nat)(cur vcur:Array Value)(te ve:TypeId)(w:World)(hi:i<n)(hm:0<m)(hroom:n+m<=c)(hc63:c<=9223372036854775807)(hne:vb≠g)
  (hg:w.heap[g]? =some (.cells cur te (0,0))) (hv:w.heap[vb]? =some (.cells vcur ve (0,0))) (hcs:cur.size=c*4) (hvs:m*4<=vcur.size)
  (h1c:∀v∈cur.toList.take (n*4),v.oneCell'=true) (h1v:∀v∈vcur.toList.take (m*4),v.oneCell'=true):
  Calls O 230 #[.slice (some ⟨g,0,none⟩) n c,.int .i64 i,.slice (some ⟨vb,0,none⟩) m vc] w fun e w'=>
   e=.returned (.slice (some ⟨g,0,none⟩) (n+m) c)/\w'=w.drew.setRow g (bP (bP cur.toList ((i+m)*4) ((cur.toList.take (n*4)).drop (i*4))) (i*4) (vcur.toList.take (m*4))).toArray:=by
 have t33:O.underlying 64=some (.slice 178):=by kernel_rfl
 have hsz:(O.info? 178).map (·.size)=some 4:=by kernel_rfl
 have hz1:¬((m:Int)=0):=by omega
 have hz2:¬((i:Int)=(n:Int)):=by omega
 have hov:∀off lb cb,(callFunc 264 #[.slice (some ⟨vb,0,none⟩) m vc,.slice (some ⟨g,off,none⟩) lb cb]).run O w=.ok (.value (.bool false)) w:=fun off lb cb=>by
  rw[run_callFunc_extern Tryz.func264 (by kernel_rfl) (by kernel_rfl) (by kernel_rfl) (e:=Extern.SlicesOverlaps.overlaps #[64,64] #[4]) (by kernel_rfl),
   Lib.run_overlaps_apart w 64 4 178 t33 4 (fun w=>by kernel_rfl) ⟨vb,0,none⟩ ⟨g,off,none⟩ m vc lb cb hne ve te vcur.size cur.size (by simp[World.shape?,hv]) (by simp[World.shape?,hg]) (by omega) (by simp[World.frozen?,hv]) (by simp[World.frozen?,hv])]
  rfl
 have hdl:((cur.toList.take (n*4)).drop (i*4)).length=(n-i)*4:=by simp only[List.length_drop,List.length_take,Array.length_toList,hcs];rw[Nat.min_eq_left (by omega),Nat.sub_mul]
 have hcl:∀j v,(cur.toList.take (n*4))[j]? =some v->w.cell? ⟨g,j,none⟩=some v:=fun j v h=>by
  rw[List.getElem?_take] at h;split at h
  ·simpa[World.cell?,hg] using h
  ·cases h
 have hcv:∀j v,(vcur.toList.take (m*4))[j]? =some v->w.cell? ⟨vb,j,none⟩=some v:=fun j v h=>by
  rw[List.getElem?_take] at h;split at h
  ·simpa[World.cell?,hv] using h
  ·cases h
 have hcp1:∀ty dc sc,(Builtin.copy_ #[64,64] ty #[.slice (some ⟨g,(i+m)*4,none⟩) (n+m-(i+m)) dc,.slice (some ⟨g,i*4,none⟩) (n+m-i) sc]).run O w.drew=
   .ok (goInt (Nat.min (n+m-i) (n+m-(i+m)))) (w.drew.setRow g (bP cur.toList ((i+m)*4) ((cur.toList.take (n*4)).drop (i*4))).toArray):=fun ty dc sc=>
  yz w.drew _ _ ty 178 4 g ((i+m)*4) (n+m-(i+m)) dc ⟨g,i*4,none⟩ (n+m-i) sc cur te _ t33 hsz hg (by rw[hdl];simp only[Nat.min_def];split<;>omega)
   (fun j v hj=>by rw[Addr.add_lit];exact hcl (i*4+j) v (by rwa[List.getElem?_drop] at hj)) (by rw[hdl,hcs];omega) (fun v hv=>h1c v (List.mem_of_mem_drop hv))
 obtain⟨cur1,hcur1⟩:∃cur1,cur1=(bP cur.toList ((i+m)*4) ((cur.toList.take (n*4)).drop (i*4))).toArray:=⟨_,rfl⟩;rw[<-hcur1] at hcp1;have hc1s:cur1.size=c*4:=by rw[hcur1];simp only[bP,List.size_toArray,List.length_append,List.length_drop,List.length_take,Array.length_toList,hcs];omega
 have hcp2:∀(W:World),W.heap=(w.drew.setRow g cur1).heap->∀ty dc,(Builtin.copy_ #[64,64] ty #[.slice (some ⟨g,i*4,none⟩) (n+m-i) dc,.slice (some ⟨vb,0,none⟩) m vc]).run O W=
   .ok (goInt (Nat.min m (n+m-i))) (W.setRow g (bP cur1.toList (i*4) (vcur.toList.take (m*4))).toArray):=fun W hW ty dc=>
  yz W _ _ ty 178 4 g (i*4) (n+m-i) dc ⟨vb,0,none⟩ m vc cur1 te _ t33 hsz (by rw[hW];exact setRow_heap w.drew g cur cur1 te (0,0) hg)
   (by simp only[List.length_take,Array.length_toList,Nat.min_def];split<;>split<;>omega)
   (fun j v hj=>by
    have:=hcv j v hj;rw[Addr.add_lit,Nat.zero_add];unfold World.cell? at this ⊢;rw[hW,show(w.drew.setRow g cur1).heap[vb]? =w.heap[vb]? from setRow_other w.drew g vb cur1 hne];exact this) (by simp only[List.length_take,Array.length_toList];omega) h1v
 have hE:w.drew.setRow g (bP (bP cur.toList ((i+m)*4) ((cur.toList.take (n*4)).drop (i*4))) (i*4) (vcur.toList.take (m*4))).toArray=(w.drew.setRow g cur1).setRow g (bP cur1.toList (i*4) (vcur.toList.take (m*4))).toArray:=by
  rw[setRow_setRow,hcur1]
 rw[hE];clear hE hcur1;have hw1:IntKind.i64.wrap ((i:Int)+(m:Int))=(i:Int)+(m:Int):=by rw[IntKind.wrap_i64];omega
 have hb1:(0:Int)<=(i:Int)+(m:Int):=by omega
 have hin:i<=n:=by omega
 have htn:((i:Int)+(m:Int)).toNat=i+m:=by omega
 have hb2:¬(c=i+m):=by omega
 have hb3:(i:Int)<=(n:Int)+(m:Int):=by omega
 have hb4:¬(c=i):=by omega
 go_enter Tryz.func230,Tryz.ntmps230
 go_wp2_with (simp only[hov])
 go_region_law (refine OD rfl _ _ 64 64 rfl (.slice (some ⟨g,(i+m)*4,none⟩) (n+m-(i+m)) (c-(i+m))) (.slice (some ⟨g,i*4,none⟩) (n+m-i) (c-i)) (by simp[Act.eval,Act.put]) (by simp[Act.eval,Act.put]) (hcp1 _ _ _) ?_)
 go_wp2_with (at_builtin;refine Oa _ rfl _ _ 64 64 rfl _ _ rfl rfl (hcp2 _ rfl _ _) ?_)
 go_ret
 exact⟨rfl,rfl⟩
theorem aiN(xa:Option Addr)(vc:Nat)(w:World):
  Calls O 230 #[.slice none 0 0,.int .i64 0,.slice xa 0 vc] w fun e w'=>e=.returned (.slice none 0 0)/\w'=w:=by
 go_enter Tryz.func230,Tryz.ntmps230
 go_wp2
 go_ret
 exact⟨rfl,rfl⟩
theorem aiM(g n c i:Nat)(xa:Option Addr)(vc:Nat)(w:World)(hi:i<=n)(hnc:n<=c)(hc63:c<=9223372036854775807):
  Calls O 230 #[.slice (some ⟨g,0,none⟩) n c,.int .i64 i,.slice xa 0 vc] w fun e w'=>e=.returned (.slice (some ⟨g,0,none⟩) n c)/\w'=w:=by
 go_enter Tryz.func230,Tryz.ntmps230
 go_wp2
 all_goals(go_ret;exact⟨rfl,rfl⟩)
theorem akL(xa:Option Addr)(m vc:Nat)(w:World)(hm:0<m)(v':Value)(W:World)(hr:∀ty,(Builtin.append_ #[64,64] ty #[.slice none 0 0,.slice xa m vc]).run O w=.ok v' W):
  Calls O 230 #[.slice none 0 0,.int .i64 0,.slice xa m vc] w fun e w'=>e=.returned v'/\w'=W:=by
 have hz1:¬((m:Int)=0):=by omega
 go_enter Tryz.func230,Tryz.ntmps230
 go_wp2_with (at_builtin;refine EC _ rfl _ _ 64 64 rfl _ _ rfl rfl (hr _) ?_)
 go_ret
 exact⟨rfl,rfl⟩
theorem akK(g n c:Nat)(xa:Option Addr)(m vc:Nat)(w:World)(hnc:n<=c)(hc63:c<=9223372036854775807)(hm:0<m)(v':Value)(W:World)(hr:∀ty,(Builtin.append_ #[64,64] ty #[.slice (some ⟨g,0,none⟩) n c,.slice xa m vc]).run O w=.ok v' W):
  Calls O 230 #[.slice (some ⟨g,0,none⟩) n c,.int .i64 n,.slice xa m vc] w fun e w'=>e=.returned v'/\w'=W:=by
 have hz1:¬((m:Int)=0):=by omega
 go_enter Tryz.func230,Tryz.ntmps230
 go_wp2_with (at_builtin;refine EC _ rfl _ _ 64 64 rfl _ _ rfl rfl (hr _) ?_)
 all_goals(go_ret;exact⟨rfl,rfl⟩)
theorem akJ(g n c i vb m vc:Nat)(cur vcur:Array Value)(te ve:TypeId)(w:World)(hi:i<n)(hm:0<m)(hnc:n<=c)(hroom:c<n+m)(hc63:c<=9223372036854775807)(hbig:(n+m)*48<=140737488355328)
  (hg:w.heap[g]? =some (.cells cur te (0,0))) (hv:w.heap[vb]? =some (.cells vcur ve (0,0))) (hcs:cur.size=c*4) (hvs:m*4<=vcur.size)
  (h1c:∀v∈cur.toList.take (n*4),v.oneCell'=true) (h1v:∀v∈vcur.toList.take (m*4),v.oneCell'=true):
  ∃G ROW,∃W:World,G<=maxLen/\n+m<=G/\ROW.size=G*4/\ROW.toList.take (i*4)=cur.toList.take (i*4)/\W.os=w.os/\W.tape=w.tape/\W.output=w.output/\W.heap=w.heap.push (.cells ROW 178 (0,0))/\
  Calls O 230 #[.slice (some ⟨g,0,none⟩) n c,.int .i64 i,.slice (some ⟨vb,0,none⟩) m vc] w fun e w'=>
   e=.returned (.slice (some ⟨w.heap.size,0,none⟩) (n+m) G)/\w'.os=w.os/\w'.tape=w.tape/\w'.output=w.output/\
    w'.heap=(W.setRow w.heap.size (bP (bP ROW.toList (i*4) (vcur.toList.take (m*4))) ((i+m)*4) ((cur.toList.take (n*4)).drop (i*4))).toArray).heap:=by
 have t33:O.underlying 64=some (.slice 178):=by kernel_rfl
 have t3:O.underlying 3=some (.int .i64):=by kernel_rfl
 have hsz:(O.info? 178).map (·.size)=some 4:=by kernel_rfl
 have hinfo:(O.info? 178).map (fun i=>(i.zero.map (·.cells.size),i.size,i.bytes))=some (some 4,4,48):=by kernel_rfl
 obtain⟨i0,hi0,hzz⟩:=Option.map_eq_some_iff.1 hinfo;simp only[Prod.mk.injEq] at hzz;obtain⟨hz0,hzs,hzb⟩:=hzz;obtain⟨z,hz,hzc⟩:=Option.map_eq_some_iff.1 hz0;have hz1:¬((m:Int)=0):=by omega
 have hz2:¬((i:Int)=(n:Int)):=by omega
 have hz3:(c:Int)<(n:Int)+(m:Int):=by omega
 have hgw:g<w.heap.size:=(Array.getElem?_eq_some_iff.1 hg).1;have hvw:vb<w.heap.size:=(Array.getElem?_eq_some_iff.1 hv).1;have hkk:(n:Int)+(m:Int)-(i:Int)=((n+m-i:Nat):Int):=by omega
 have hik:i+(n+m-i)=n+m:=by omega
 have hdl:((cur.toList.take (n*4)).drop (i*4)).length=(n-i)*4:=by simp only[List.length_drop,List.length_take,Array.length_toList,hcs];rw[Nat.min_eq_left (by omega),Nat.sub_mul]
 have hcl:∀j v,(cur.toList.take (n*4))[j]? =some v->w.cell? ⟨g,j,none⟩=some v:=fun j v h=>by
  rw[List.getElem?_take] at h;split at h
  ·simpa[World.cell?,hg] using h
  ·cases h
 have hcv:∀j v,(vcur.toList.take (m*4))[j]? =some v->w.cell? ⟨vb,j,none⟩=some v:=fun j v h=>by
  rw[List.getElem?_take] at h;split at h
  ·simpa[World.cell?,hv] using h
  ·cases h
 have hold:(Builtin.firstCells i0.size i (.slice (some ⟨g,0,none⟩) i c)).run O w.drew=.ok (cur.toList.take (i*4)).toArray w.drew:=by
  rw[hzs];exact run_firstCells_some w.drew 4 i ⟨g,0,none⟩ i c (cur.toList.take (i*4)) (by simp only[List.length_take,Array.length_toList,hcs];omega) (fun j v hj=>by
   rw[Addr.add_lit,Nat.zero_add];refine hcl j v ?_
   rw[List.getElem?_take] at hj ⊢;split at hj
   ·rw[if_pos (by omega)];exact hj
   ·cases hj)
 have hrz:∀ty,(Builtin.append_ #[64,3] ty #[.slice (some ⟨g,0,none⟩) i c,.int .i64 ((n:Int)+(m:Int)-(i:Int))]).run O w=
   .ok (.slice (some ⟨w.heap.size,0,none⟩) (n+m) (grownCap w (n+m) c 178)) (w.drew.alloc (.cells ((cur.toList.take (i*4)).toArray++Builtin.zeroCells z.cells (n+m-i)++Builtin.zeroCells z.cells (grownCap w (n+m) c 178-(n+m))) 178)):=fun ty=>by
  have h:=Lib.run_append_grow_zeros w 64 3 ty 178 i0 z .i64 .i64 t33 t3 hi0 hz (some ⟨g,0,none⟩) i c (cur.toList.take (i*4)) hold (n+m-i) (by omega) (by omega) (by omega) (by omega) (by rw[hzb];omega) (by rw[hzb,hik];exact growslice_fits hroom hbig)
  rw[hik] at h;rw[hkk];exact h
 obtain⟨G,hG⟩:∃G,G=grownCap w (n+m) c 178:=⟨_,rfl⟩;obtain⟨ROW,hROW⟩:∃ROW:Array Value,ROW=(cur.toList.take (i*4)).toArray++Builtin.zeroCells z.cells (n+m-i)++Builtin.zeroCells z.cells (G-(n+m)):=⟨_,rfl⟩;rw[<-hG] at hrz;rw[<-hROW] at hrz;have hGn:n+m<=G:=by rw[hG];exact grownCap_ge w _ _ _
 have hGm:G<=maxLen:=by rw[hG];exact grownCap_le_maxLen w (n+m) c 178 (by unfold maxLen;omega)
 have hG63:G<=9223372036854775807:=by unfold maxLen at hGm;omega
 have hRl:ROW.size=G*4:=by
  rw[hROW];simp only[Array.size_append,List.size_toArray,size_zeroCells,hzc,List.length_take,Array.length_toList,hcs];omega
 have hRt:ROW.toList.take (i*4)=cur.toList.take (i*4):=by
  rw[hROW];simp only[Array.toList_append,List.append_assoc];have:i*4=(cur.toList.take (i*4)).length:=by simp only[List.length_take,Array.length_toList,hcs];omega
  exact List.take_left' this.symm
 refine⟨G,ROW,w.drew.alloc (.cells ROW 178),hGm,hGn,hRl,hRt,rfl,rfl,rfl,rfl,?_⟩;obtain⟨W1,hW1⟩:∃W1,W1=w.drew.alloc (.cells ROW 178):=⟨_,rfl⟩;rw[<-hW1] at hrz ⊢;have hNew:W1.heap[w.heap.size]? =some (.cells ROW 178 (0,0)):=by rw[hW1];exact heap_alloc_new w.drew _
 have hOld:∀b,b<w.heap.size->W1.heap[b]? =w.heap[b]? :=fun b hb=>by rw[hW1];exact RowKit.Below.heap_alloc w.drew _ b hb
 have hos:W1.os=w.os/\W1.tape=w.tape/\W1.output=w.output:=by rw[hW1];exact⟨rfl,rfl,rfl⟩
 have hgN:g≠w.heap.size:=by omega
 have hvN:vb≠w.heap.size:=by omega
 have hcpA:∀(W:World),W.heap=W1.heap->∀ty dc,(Builtin.copy_ #[64,64] ty #[.slice (some ⟨w.heap.size,i*4,none⟩) (n+m-i) dc,.slice (some ⟨vb,0,none⟩) m vc]).run O W=
   .ok (goInt (Nat.min m (n+m-i))) (W.setRow w.heap.size (bP ROW.toList (i*4) (vcur.toList.take (m*4))).toArray):=fun W hW ty dc=>
  yz W _ _ ty 178 4 w.heap.size (i*4) (n+m-i) dc ⟨vb,0,none⟩ m vc ROW 178 _ t33 hsz (by rw[hW];exact hNew)
   (by simp only[List.length_take,Array.length_toList,Nat.min_def];split<;>split<;>omega)
   (fun j v hj=>by
    have:=hcv j v hj;rw[Addr.add_lit,Nat.zero_add];unfold World.cell? at this ⊢;rw[hW,show W1.heap[vb]? =w.heap[vb]? from hOld vb hvw];exact this) (by simp only[List.length_take,Array.length_toList];omega) h1v
 obtain⟨R2,hR2⟩:∃R2,R2=(bP ROW.toList (i*4) (vcur.toList.take (m*4))).toArray:=⟨_,rfl⟩;have hE:W1.setRow w.heap.size (bP (bP ROW.toList (i*4) (vcur.toList.take (m*4))) ((i+m)*4) ((cur.toList.take (n*4)).drop (i*4))).toArray=
   (W1.setRow w.heap.size R2).setRow w.heap.size (bP R2.toList ((i+m)*4) ((cur.toList.take (n*4)).drop (i*4))).toArray:=by rw[setRow_setRow,hR2]
 rw[hE];have hR2s:R2.size=G*4:=by rw[hR2];simp only[bP,List.size_toArray,List.length_append,List.length_drop,List.length_take,Array.length_toList,hRl];omega
 rw[<-hR2] at hcpA;clear hE hR2;have hcpB:∀(W:World),W.heap=(W1.setRow w.heap.size R2).heap->∀ty dc sc,(Builtin.copy_ #[64,64] ty #[.slice (some ⟨w.heap.size,(i+m)*4,none⟩) (n+m-(i+m)) dc,.slice (some ⟨g,i*4,none⟩) (n-i) sc]).run O W=
   .ok (goInt (Nat.min (n-i) (n+m-(i+m)))) (W.setRow w.heap.size (bP R2.toList ((i+m)*4) ((cur.toList.take (n*4)).drop (i*4))).toArray):=fun W hW ty dc sc=>
  yz W _ _ ty 178 4 w.heap.size ((i+m)*4) (n+m-(i+m)) dc ⟨g,i*4,none⟩ (n-i) sc R2 178 _ t33 hsz (by rw[hW];exact setRow_heap W1 w.heap.size ROW R2 178 (0,0) hNew)
   (by rw[hdl];simp only[Nat.min_def];split<;>omega)
   (fun j v hj=>by
    have:=hcl (i*4+j) v (by rwa[List.getElem?_drop] at hj)
    rw[Addr.add_lit];unfold World.cell? at this ⊢;rw[hW,show(W1.setRow w.heap.size R2).heap[g]? =w.heap[g]? from(setRow_other W1 w.heap.size g R2 hgN).trans (hOld g hgw)];exact this) (by rw[hdl,hR2s];omega) (fun v hv=>h1c v (List.mem_of_mem_drop hv))
 have hGi:¬(G=i):=by omega
 have hGim:¬(G=i+m):=by omega
 have hci:¬(c=i):=by omega
 have hw1:IntKind.i64.wrap ((i:Int)+(m:Int))=(i:Int)+(m:Int):=by rw[IntKind.wrap_i64];omega
 have hb1:(0:Int)<=(i:Int)+(m:Int):=by omega
 have hin:i<=n:=by omega
 have htn:((i:Int)+(m:Int)).toNat=i+m:=by omega
 have hb3:(i:Int)<=(n:Int):=by omega
 clear hkk hik hold hROW hG hRl hW1;go_enter Tryz.func230,Tryz.ntmps230
 go_wp2_with (first
  |(at_builtin;refine EC _ rfl _ _ 64 3 rfl _ _ rfl rfl (hrz _) ?_)
  |(at_builtin;refine Oa _ rfl _ _ 64 64 rfl _ _ rfl rfl (hcpA _ rfl _ _) ?_))
 go_region_law (refine OD rfl _ _ 64 64 rfl (.slice (some ⟨w.heap.size,(i+m)*4,none⟩) (n+m-(i+m)) (G-(i+m))) (.slice (some ⟨g,i*4,none⟩) (n-i) (c-i)) (by simp[Act.eval,Act.put]) (by simp[Act.eval,Act.put]) (hcpB (W1.setRow w.heap.size R2).drew rfl 3 (G-(i+m)) (c-i)) ?_)
 go_wp2
 go_ret
 exact⟨rfl,hos.1,hos.2.1,hos.2.2,rfl⟩
noncomputable def WM:aD:=IF .entry 48
theorem apU:aA O 230 WM:=aiK (t:=.entry) (bt:=48) rfl (by decide) (T:=64) (e:=178) ⟨aiN,aiM,akL,akK,aiL,akJ⟩ (fun vs w=>enters_of Tryz.func230 (by kernel_rfl) rfl _ _) (by kernel_rfl) (by kernel_rfl)
noncomputable abbrev auf:a_:=[(105,w1),(201,Le),(229,ZZ),(230,WM)]
theorem Dn:aQ O (aW ad auf):=aV ⟨z105,z201,z229,apU,⟨⟩⟩
abbrev SS:Shape:=⟨[aI 0 .entry,aI 1 .entry],[],59⟩
abbrev Sw:List aP:=[(.norm,⟨[aI 0 .entry,aI 1 .entry,ao 18],[],59⟩)]
noncomputable def IR(y:SS.J):Option (aB Sw):=
(f105 ((y.1.1,()),())).bind fun a=>
 bif(!(!a.1.1)) then
(f105 ((y.1.2.1,()),())).bind fun b=>
 some ((y.1.1,y.1.2.1,(!b.1.1),()),())
else
 some ((y.1.1,y.1.2.1,true,()),())
theorem ama:aS O (am (codeOf Tryz.f185) 1 12) (aU SS Sw IR):=cd Dn (by kernel_rfl) ae fun y=>by kernel_rfl
abbrev OG:Shape:=⟨[ba 6 3000384,ay 8 8 0,ag 9,aI 21 .entry,ag 22,ag 23],[a' 3000384 .entry 6 0,ax 8 [ah,aZ,aZ,ah]],59⟩
abbrev Oz:List aP:=[(.norm,⟨[ba 6 3000384,aI 21 .entry,ag 22,ag 23,ao 42,ay 43 8 1,ag 44,ao 45,ao 46,ao 53],[a' 3000384 .entry 6 0,ax 8 [ah,aZ,aZ,ah]],59⟩)]
noncomputable def EX(y:OG.J):Option (aB Oz):=
 bif(y.2.2.1.2.1 !=(1:Int)) then
 some (((),y.1.2.2.2.1,y.1.2.2.2.2.1,y.1.2.2.2.2.2.1,true,(),y.2.2.1.2.1,(y.2.2.1.2.1 !=(1:Int)),true,true,()),y.2.1,(y.2.2.1.1,y.2.2.1.2.1,y.2.2.1.2.2.1,y.2.2.1.2.2.2.1,()),())
else
(be y.2.1.length y.1.2.2.1).bind fun a=>
(y.2.1[a]?).bind fun b=>
 some (((),y.1.2.2.2.1,y.1.2.2.2.2.1,y.1.2.2.2.2.2.1,(!((b.path==y.2.2.1.1)&&((b.kind==y.2.2.1.2.1)&&((b.mode==y.2.2.1.2.2.1)&&(b.text==y.2.2.1.2.2.2.1))))),(),y.2.2.1.2.1,(y.2.2.1.2.1 !=(1:Int)),false,(!((b.path==y.2.2.1.1)&&((b.kind==y.2.2.1.2.1)&&((b.mode==y.2.2.1.2.2.1)&&(b.text==y.2.2.1.2.2.2.1))))),()),y.2.1,(y.2.2.1.1,y.2.2.1.2.1,y.2.2.1.2.2.1,y.2.2.1.2.2.2.1,()),())
theorem afJ:aS O (am (c4 (am (codeOf Tryz.f185) 1 122)) 244 250678) (aU OG Oz EX):=cd Dn (by kernel_rfl) ae fun y=>by kernel_rfl
abbrev zp:Shape:=⟨[ba 6 3000384,aI 21 .entry,ag 22,ag 23],[a' 3000384 .entry 6 0],59⟩
abbrev qp:List aP:=[(.ret,⟨[ba 4 3000256,ao 5],[a' 3000256 .entry 4 0],59⟩),(.exit 0,⟨[ba 6 3000384],[a' 3000384 .entry 6 0],59⟩)]
noncomputable def zN(y:zp.J):bG zp qp:=
 bif(decide (y.1.2.2.2.1<y.1.2.2.1)) then
(aO y.1.2.1 y.1.2.2.2.1).bind fun a=>
(f201 ((y.2.1,a.path,()),())).bind fun b=>
 bif(!b.1.2.1) then
(tG 48 y.2.1 b.1.1 ([a]:List aw)).bind fun c=>
 some (.inl (((),y.1.2.1,y.1.2.2.1,(IntKind.i64.wrap (y.1.2.2.2.1+(1:Int))),()),c,()))
else
(EX (((),(),b.1.1,y.1.2.1,y.1.2.2.1,y.1.2.2.2.1,()),y.2.1,(a.path,a.kind,a.mode,a.text,()),())).bind fun d=>
 bif d.1.2.2.2.2.1 then
 some (.inr (.inl (((),false,()),([]:List aw),())))
else
 some (.inl (((),d.1.2.1,d.1.2.2.1,(IntKind.i64.wrap (d.1.2.2.2.1+(1:Int))),()),d.2.1,()))
else
 some (.inr (.inr (((),()),y.2.1,())))
noncomputable def GO:zp.J->Option (aB qp):=br zN
theorem akc:aS O (am (codeOf Tryz.f185) 1 122) (aU zp qp GO):=bH Dn (by kernel_rfl) (a7 afJ ae) fun y=>by kernel_rfl
abbrev i185:Shape:=⟨[aI 0 .entry,aI 1 .entry],[],59⟩
abbrev X_:Shape:=⟨[ba 4 3000256,ao 5],[a' 3000256 .entry 4 0],59⟩
noncomputable def f185(a:i185.J):Option X_.J:=
(IR ((a.1.1,a.1.2.1,()),())).bind fun b=>
 bif b.1.2.2.1 then
 some (((),false,()),([]:List aw),())
else
(f229 ((b.1.1,()),())).bind fun c=>
(GO (((),b.1.2.1,(b.1.2.1.length:Int),(0:Int),()),c.2.1,())).bind fun d=>
(match d with
|.inl e=>
 some (((),e.1.2.1,()),e.2.1,())
|.inr f=>
(f105 ((f.2.1,()),())).bind fun g=>
 bif(!g.1.1) then
 some (((),false,()),([]:List aw),())
else
 some (((),true,()),f.2.1,()))
noncomputable def _k:aD:=aG ad Tryz.f185 i185 X_ [] f185
theorem arQ:aA O 185 _k:=aK Dn Tryz.func185 (by kernel_rfl) (a7 ama (a7 akc ae)) (fun y=>by kernel_rfl) fun a=>by kernel_rfl
noncomputable abbrev auP:a_:=[(185,_k)]
theorem aar:aQ O (aW ad auP):=aV ⟨arQ,⟨⟩⟩
abbrev Az:Shape:=⟨[ba 4 3000256,aI 9 .pack,ag 10,ag 11],[a' 3000256 .entry 4 0],27⟩
abbrev qC:List aP:=[(.ret,⟨[ba 2 3000128,ao 3],[a' 3000128 .entry 2 0],27⟩),(.exit 0,⟨[ba 4 3000256],[a' 3000256 .entry 4 0],27⟩)]
noncomputable def Ba(y:Az.J):bG Az qC:=
 bif(decide (y.1.2.2.2.1<y.1.2.2.1)) then
(aO y.1.2.1 y.1.2.2.2.1).bind fun a=>
(f185 ((y.2.1,a.bx,()),())).bind fun b=>
 bif(!b.1.2.1) then
 some (.inr (.inl (((),false,()),([]:List aw),())))
else
 some (.inl (((),y.1.2.1,y.1.2.2.1,(IntKind.i64.wrap (y.1.2.2.2.1+(1:Int))),()),b.2.1,()))
else
 some (.inr (.inr (((),()),y.2.1,())))
noncomputable def Iy:Az.J->Option (aB qC):=br Ba
theorem amy:aS O (am (codeOf Tryz.f133) 1 58) (aU Az qC Iy):=bH aar (by kernel_rfl) ae fun y=>by kernel_rfl
abbrev i133:Shape:=⟨[aI 0 .pack],[],27⟩
abbrev YM:Shape:=⟨[ba 2 3000128,ao 3],[a' 3000128 .entry 2 0],27⟩
noncomputable def f133(a:i133.J):Option YM.J:=
(Iy (((),a.1.1,(a.1.1.length:Int),(0:Int),()),([]:List aw),())).bind fun b=>
(match b with
|.inl c=>
 some (((),c.1.2.1,()),c.2.1,())
|.inr d=>
 some (((),true,()),d.2.1,()))
noncomputable def _Q:aD:=aG ad Tryz.f133 i133 YM [] f133
theorem asa:aA O 133 _Q:=aK aar Tryz.func133 (by kernel_rfl) (a7 amy ae) (fun y=>by kernel_rfl) fun a=>by kernel_rfl
theorem FT:∀(r:List aw) (out D:List aw),(∀e,e∈r->lQ e)->(∀e,e∈out->lQ e)->gF out r=some D->D.length<=out.length+r.length/\∀e,e∈D->lQ e:=by
 intro r;induction r with
 |nil=>intro out D _ h2 h;cases h;exact⟨Nat.le_refl _,h2⟩
 |cons e r ih=>
  intro out D h1 h2 h;rw[uX] at h;obtain⟨o1,h3,aC⟩:=Option.bind_eq_some_iff.1 h;have bk:=ih o1 D (fun x hx=>h1 x (List.mem_cons_of_mem _ hx)) (fun x hx=>by
   rcases Fz h3 hx with rfl|h
   ·exact h1 x List.mem_cons_self
   ·exact h2 x h) aC
  have ca:=yK h3;exact⟨by simp only[List.length_cons];omega,bk.2⟩
theorem EZ{t:List aw}(h:dB t=true):fH t:=by
 unfold dB at h;simp only[Bool.and_eq_true] at h;exact VB h.1.1
theorem jG{t:List aw}(h:dB t=true):t.length<=16:=by
 unfold dB at h;simp only[Bool.and_eq_true,decide_eq_true_eq] at h;exact h.2
theorem aju(a)(hs:cj a.1.1.length):f229 a=some (((),()),(a.1.1,())):=by
 obtain⟨⟨xs,u⟩,bV⟩:=a;have hs:xs.length<=2097152:=hs;have h2:(b9 48 ([]:List aw) xs).bind (fun x=>some (((),()),(x,())))=(some (((),()),(xs,())):Option Kx.J):=by
  rw[dh (by decide) (by unfold ar;simp only[List.length_nil];omega)];rfl
 simp only[f229];rw[h2];unfold qn;split
 ·rfl
 ·rename_i h;exact absurd (fun he:xs=[]=>by subst he;rfl) h
theorem agr(a)(ha:iq a.1.1)(hb:iq a.1.2.1)(h1:dB a.1.1=true)(h2:dB a.1.2.1=true):f185 a=
  some (match gF a.1.1 a.1.2.1 with|some out=>(bif dB out then(((),(true,())),(out,())) else(((),(false,())),(([]:List aw),())))|none=>(((),(false,())),(([]:List aw),()))):=by
 obtain⟨⟨xs,bj,u⟩,bV⟩:=a;have h1:dB xs=true:=h1;have h2:dB bj=true:=h2;have aBH:=jG h1;have aBG:=jG h2;have e1:=qi ((xs,()),()) ha;have e2:=qi ((bj,()),()) hb;have bC:=aju ((xs,()),()) (show xs.length<=2097152 by omega)
 have key:GO (((),(bj,((bj.length:Int),((0:Int),())))),(xs,()))=_:=l4 zN bj (fun i (out:List aw)=>(((),(bj,((bj.length:Int),((i:Int),())))),(out,())))
  (fun i e out=>some (match hQ out e with|some D=>.inl D|none=>.inr ((.inl (((),(false,())),(([]:List aw),()))):aB qp))) (fun out=>((.inr (((),()),(out,()))):aB qp))
  (fun i out=>out.length<=xs.length+i/\fH out) xs ⟨Nat.le_refl _,EZ h1⟩ (fun i x out hx dq=>?_) (fun out _=>?_)
 ·have fold:∀(r:List aw) (k:Nat) (out:List aw),eT (fun i e out=>some (match hQ out e with|some D=>.inl D|none=>.inr ((.inl (((),(false,())),(([]:List aw),()))):aB qp))) (fun out=>((.inr (((),()),(out,()))):aB qp)) k r out=
    some (match gF out r with|some D=>.inr (((),()),(D,()))|none=>.inl (((),(false,())),(([]:List aw),()))):=by
   intro r;induction r with
   |nil=>intro k out;rfl
   |cons e r ih=>
    intro k out;rw[uX];simp only[eT];cases hQ out e with
    |none=>rfl
    |some D=>simp only[Option.bind_some];exact ih _ _
  rw[fold] at key;simp only[f185,IR,e1,e2,h1,h2,bC,Bool.not_true,Bool.not_false,cond_true,cond_false,Option.bind_some,key];cases hj:gF xs bj with
  |none=>rfl
  |some D=>
   have hm:=FT bj xs D hb.2 ha.2 hj;simp only[Option.bind_some];rw[qi _ ⟨show D.length<=2097152 by omega,hm.2⟩]
   simp only[Option.bind_some];cases dB D<;>rfl
 ·have hi:=cT hx;have hw:ar i:=by unfold ar;omega
  refine⟨?_,fun aN ak=>?_⟩
  ·have mD:=Ov ((out,(x.path,())),()) (show out.length<=2097152 by omega) dq.2
   have pP:=qE out x.path;simp only[zN,ce hi,cond_true,b4,hx,Option.bind_some,mD,gH,hQ];have grow:tG 48 out (bM out x.path:Int) [x]=some (jQ out (bM out x.path) x):=by
    unfold tG;rw[if_pos ⟨by omega,by omega,by unfold room;simp only[List.length_cons,List.length_nil];omega,by unfold maxLen;simp only[List.length_cons,List.length_nil];omega⟩,Int.toNat_natCast]
    rfl
   cases az:out[bM out x.path]? with
   |none=>simp only[Bool.not_false,cond_true,grow,Option.bind_some,bU hw];rfl
   |some q=>
    have hin:=ft (cT az);simp only;cases hp:(q.path==x.path) with
    |false=>simp only[Bool.not_false,cond_true,grow,Option.bind_some,bU hw,cond_false];rfl
    |true=>
     have un:((q.path==x.path)&&((q.kind==x.kind)&&((q.mode==x.mode)&&(q.text==x.text))))=kr q x:=rfl;simp only[Bool.not_true,cond_false,cond_true,EX,hin,az,Option.bind_some,mo,akZ x q];cases hk:(x.kind !=1) with
     |true=>rfl
     |false=>
      have ati:(kr q x)=((q.path==x.path)&&((q.kind==x.kind)&&((q.mode==x.mode)&&(q.text==x.text)))):=rfl;rw[ati];cases ((q.path==x.path)&&((q.kind==x.kind)&&((q.mode==x.mode)&&(q.text==x.text)))) with
      |false=>rfl
      |true=>simp only[Bool.not_true,Bool.false_or,cond_false,Option.bind_some,bU hw];rfl
  ·simp only[Option.some.injEq] at ak;cases hs:hQ out x with
   |none=>rw[hs] at ak;cases ak
   |some D=>
    rw[hs] at ak;cases ak;have ca:=yK hs;exact⟨by omega,ahM dq.2 hs⟩
 ·simp only[zN,du,cond_false]
def fu(out:List aw):List aL->Option (List aw)
 |[]=>some out
 |p::r=>match gF out p.bx with
  |some D=>bif dB D then fu D r else none
  |none=>none
def stepT(out:List aw)(p:aL):Option (List aw):=match gF out p.bx with
 |some D=>bif dB D then some D else none
 |none=>none
theorem ym(out:List aw)(p:aL)(r:List aL):fu out (p::r)=(stepT out p).bind fun D=>fu D r:=by
 unfold stepT;rw[fu];cases gF out p.bx with
 |none=>rfl
 |some D=>simp only;cases dB D<;>rfl
theorem zd{out D:List aw}{p:aL}(h:stepT out p=some D):dB D=true/\gF out p.bx=some D:=by
 unfold stepT at h;split at h
 ·rename_i c8 aM;cases au:dB c8 with
  |true=>rw[au] at h;cases h;exact⟨au,aM⟩
  |false=>rw[au] at h;cases h
 ·cases h
theorem aho(a)(hb:gp a.1.1)(hk:a.1.1.all ch=true):f109 a=some (((),((fu [] a.1.1).isSome,())),((fu [] a.1.1).getD [],())):=by
 obtain⟨⟨ps,u⟩,bV⟩:=a;have hl:ps.length<=2097152:=hb.1;have Mi:∀p,p∈ps->dB p.bx=true/\iq p.bx:=by
  intro p hp;have:=List.all_eq_true.1 hk p hp;unfold ch at this;simp only[Bool.and_eq_true] at this;exact⟨this.2,(hb.2 p hp).2.2.2⟩
 have key:IC ((ps,((),((0:Int),()))),(([]:List aw),()))=_:=l4 Be ps (fun i (out:List aw)=>((ps,((),((i:Int),()))),(out,())))
  (fun i p out=>some (match stepT out p with|some D=>.inl D|none=>.inr ((.inl (((),(false,())),(([]:List aw),()))):aB qD))) (fun out=>((.inr (((),()),(out,()))):aB qD))
  (fun i out=>out.length<=16/\∀e,e∈out->lQ e) [] ⟨Nat.zero_le _,fun e h=>by cases h⟩ (fun i x out hx dq=>?_) (fun out _=>?_)
 ·have fold:∀(r:List aL) (k:Nat) (out:List aw),eT (fun i p out=>some (match stepT out p with|some D=>.inl D|none=>.inr ((.inl (((),(false,())),(([]:List aw),()))):aB qD))) (fun out=>((.inr (((),()),(out,()))):aB qD)) k r out=
    some (match fu out r with|some D=>.inr (((),()),(D,()))|none=>.inl (((),(false,())),(([]:List aw),()))):=by
   intro r;induction r with
   |nil=>intro k out;rfl
   |cons p r ih=>
    intro k out;rw[ym];simp only[eT];cases stepT out p with
    |none=>rfl
    |some D=>simp only[Option.bind_some];exact ih _ _
  rw[fold] at key;simp only[f109,key,Option.bind_some];cases fu [] ps with
  |none=>rfl
  |some D=>rfl
 ·have hi:=cT hx;have hw:ar i:=by unfold ar;omega
  obtain⟨Mj,oF⟩:=Mi x (List.mem_of_getElem? hx);have xK:=jG Mj;have ep:iq out:=⟨show out.length<=2097152 by omega,dq.2⟩
  refine⟨?_,fun aN ak=>?_⟩
  ·have hj:=ajj ((out,(x.bx,())),()) ep oF (show out.length+x.bx.length<=2097152 by omega)
   simp only[Be,ce hi,cond_true,b4,hx,Option.bind_some,hj,stepT];cases gF out x.bx with
   |none=>rfl
   |some D=>
    simp only;cases dB D with
    |false=>rfl
    |true=>simp only[Bool.not_true,cond_false,cond_true,bU hw];rfl
  ·simp only[Option.some.injEq] at ak;cases hs:stepT out x with
   |none=>rw[hs] at ak;cases ak
   |some D=>
    rw[hs] at ak;cases ak;obtain⟨bk,ca⟩:=zd hs;exact⟨jG bk,(FT _ _ _ oF.2 dq.2 ca).2⟩
 ·simp only[Be,du,cond_false]
theorem QZ(a)(hb:gp a.1.1)(hk:a.1.1.all ch=true):∃out,f109 a=some (((),((fu [] a.1.1).isSome,())),(out,())):=⟨_,aho a hb hk⟩
theorem aeQ(a)(hb:gp a.1.1)(hk:a.1.1.all ch=true):f133 a=some (((),((fu [] a.1.1).isSome,())),((fu [] a.1.1).getD [],())):=by
 obtain⟨⟨ps,u⟩,bV⟩:=a;have hl:ps.length<=2097152:=hb.1;have Mi:∀p,p∈ps->dB p.bx=true/\iq p.bx:=by
  intro p hp;have:=List.all_eq_true.1 hk p hp;unfold ch at this;simp only[Bool.and_eq_true] at this;exact⟨this.2,(hb.2 p hp).2.2.2⟩
 have key:Iy (((),(ps,((ps.length:Int),((0:Int),())))),(([]:List aw),()))=_:=l4 Ba ps (fun i (out:List aw)=>(((),(ps,((ps.length:Int),((i:Int),())))),(out,())))
  (fun i p out=>some (match stepT out p with|some D=>.inl D|none=>.inr ((.inl (((),(false,())),(([]:List aw),()))):aB qC))) (fun out=>((.inr (((),()),(out,()))):aB qC))
  (fun i out=>dB out=true/\∀e,e∈out->lQ e) [] ⟨rfl,fun e h=>by cases h⟩ (fun i x out hx dq=>?_) (fun out _=>?_)
 ·have fold:∀(r:List aL) (k:Nat) (out:List aw),eT (fun i p out=>some (match stepT out p with|some D=>.inl D|none=>.inr ((.inl (((),(false,())),(([]:List aw),()))):aB qC))) (fun out=>((.inr (((),()),(out,()))):aB qC)) k r out=
    some (match fu out r with|some D=>.inr (((),()),(D,()))|none=>.inl (((),(false,())),(([]:List aw),()))):=by
   intro r;induction r with
   |nil=>intro k out;rfl
   |cons p r ih=>
    intro k out;rw[ym];simp only[eT];cases stepT out p with
    |none=>rfl
    |some D=>simp only[Option.bind_some];exact ih _ _
  rw[fold] at key;simp only[f133,key,Option.bind_some];cases fu [] ps with
  |none=>rfl
  |some D=>rfl
 ·have hi:=cT hx;have hw:ar i:=by unfold ar;omega
  obtain⟨Mj,oF⟩:=Mi x (List.mem_of_getElem? hx);have xK:=jG dq.1;have ep:iq out:=⟨show out.length<=2097152 by omega,dq.2⟩
  refine⟨?_,fun aN ak=>?_⟩
  ·have hj:=agr ((out,(x.bx,())),()) ep oF dq.1 Mj;simp only[Ba,ce hi,cond_true,b4,hx,Option.bind_some,hj,stepT];cases gF out x.bx with
   |none=>rfl
   |some D=>
    simp only;cases dB D with
    |false=>rfl
    |true=>simp only[Bool.not_true,cond_false,cond_true,bU hw];rfl
  ·simp only[Option.some.injEq] at ak;cases hs:stepT out x with
   |none=>rw[hs] at ak;cases ak
   |some D=>
    rw[hs] at ak;cases ak;obtain⟨bk,ca⟩:=zd hs;exact⟨bk,(FT _ _ _ oF.2 dq.2 ca).2⟩
 ·simp only[Ba,du,cond_false]
theorem afs(a)(hb:gp a.1.1)(hk:a.1.1.all ch=true):∃out,f133 a=some (((),((fu [] a.1.1).isSome,())),(out,())):=⟨_,aeQ a hb hk⟩
abbrev Ry:Shape:=⟨[aI 0 .i64,aI 1 .i64,ag 5],[],42⟩
abbrev Rf:List aP:=[(.norm,⟨[aI 0 .i64,aI 1 .i64,ag 5],[],42⟩),(.exit 0,⟨[],[],42⟩)]
noncomputable def sC(y:Ry.J):Option (aB Rf):=
 bif(!(decide (y.1.2.2.1<(y.1.1.length:Int)))) then
 bif(decide (y.1.2.2.1<(y.1.2.1.length:Int))) then
 some (.inl ((y.1.1,y.1.2.1,y.1.2.2.1,()),()))
else
 some (.inr ((),()))
else
 some (.inl ((y.1.1,y.1.2.1,y.1.2.2.1,()),()))
theorem aj3:aS O (am (c4 (am (codeOf Tryz.f238) 1 26)) 52 104) (aU Ry Rf sC):=cd g0 (by kernel_rfl) ae fun y=>by kernel_rfl
abbrev Qc:Shape:=⟨[aI 0 .i64,aI 1 .i64,ag 5,ag 6,ag 7],[],42⟩
abbrev PT:List aP:=[(.norm,⟨[aI 0 .i64,aI 1 .i64,ag 5,ag 6,ag 7],[],42⟩)]
noncomputable def u9(y:Qc.J):Option (aB PT):=
 bif(decide (y.1.2.2.1<(y.1.1.length:Int))) then
(aO y.1.1 y.1.2.2.1).bind fun a=>
 some ((y.1.1,y.1.2.1,y.1.2.2.1,a,y.1.2.2.2.2.1,()),())
else
 some ((y.1.1,y.1.2.1,y.1.2.2.1,y.1.2.2.2.1,y.1.2.2.2.2.1,()),())
theorem ah8:aS O (am (c4 (am (codeOf Tryz.f238) 1 26)) 52 3366) (aU Qc PT u9):=cd g0 (by kernel_rfl) ae fun y=>by kernel_rfl
abbrev Qb:Shape:=⟨[aI 0 .i64,aI 1 .i64,ag 5,ag 6,ag 7],[],42⟩
abbrev PS:List aP:=[(.norm,⟨[aI 0 .i64,aI 1 .i64,ag 5,ag 6,ag 7],[],42⟩)]
noncomputable def u7(y:Qb.J):Option (aB PS):=
 bif(decide (y.1.2.2.1<(y.1.2.1.length:Int))) then
(aO y.1.2.1 y.1.2.2.1).bind fun a=>
 some ((y.1.1,y.1.2.1,y.1.2.2.1,y.1.2.2.2.1,a,()),())
else
 some ((y.1.1,y.1.2.1,y.1.2.2.1,y.1.2.2.2.1,y.1.2.2.2.2.1,()),())
theorem ah7:aS O (am (c4 (am (codeOf Tryz.f238) 1 26)) 52 6734) (aU Qb PS u7):=cd g0 (by kernel_rfl) ae fun y=>by kernel_rfl
abbrev z':Shape:=⟨[aI 0 .i64,aI 1 .i64,ag 5],[],42⟩
abbrev Hu:List aP:=[(.ret,⟨[ag 4],[],42⟩),(.exit 0,⟨[],[],42⟩)]
noncomputable def sN(y:z'.J):bG z' Hu:=
(sC ((y.1.1,y.1.2.1,y.1.2.2.1,()),())).bind fun a=>
(match a with
|.inl b=>
(u9 ((b.1.1,b.1.2.1,b.1.2.2.1,((-1):Int),((-1):Int),()),())).bind fun c=>
(u7 ((c.1.1,c.1.2.1,c.1.2.2.1,c.1.2.2.2.1,c.1.2.2.2.2.1,()),())).bind fun d=>
 bif(decide (d.1.2.2.2.1<d.1.2.2.2.2.1)) then
 some (.inr (.inl ((((-1):Int),()),())))
else
 bif(decide (d.1.2.2.2.1>d.1.2.2.2.2.1)) then
 some (.inr (.inl (((1:Int),()),())))
else
 some (.inl ((d.1.1,d.1.2.1,(IntKind.i64.wrap (d.1.2.2.1+(1:Int))),()),()))
|.inr e=>
 some (.inr (.inr ((),()))))
noncomputable def n6:z'.J->Option (aB Hu):=br sN
theorem alY:aS O (am (codeOf Tryz.f238) 1 26) (aU z' Hu n6):=bH g0 (by kernel_rfl) (a7 aj3 (a7 ah8 (a7 ah7 ae))) fun y=>by kernel_rfl
abbrev i238:Shape:=⟨[aI 0 .i64,aI 1 .i64],[],42⟩
abbrev Kw:Shape:=⟨[ag 4],[],42⟩
noncomputable def f238(a:i238.J):Option Kw.J:=
(n6 ((a.1.1,a.1.2.1,(0:Int),()),())).bind fun b=>
(match b with
|.inl c=>
 some ((c.1.1,()),())
|.inr d=>
 some (((0:Int),()),()))
noncomputable def ZV:aD:=aG ad Tryz.f238 i238 Kw [] f238
theorem arw:aA O 238 ZV:=aK g0 Tryz.func238 (by kernel_rfl) (a7 alY ae) (fun y=>by kernel_rfl) fun a=>by kernel_rfl
noncomputable abbrev at6:a_:=[(140,Lq),(238,ZV)]
theorem aaa:aQ O (aW ad at6):=aV ⟨W6,arw,⟨⟩⟩
abbrev SR:Shape:=⟨[ba 5 3000320,ao 6,ba 7 3000448,ao 8],[a' 3000320 .i64 5 0,a' 3000448 .i64 7 0],28⟩
abbrev Sv:List aP:=[(.norm,⟨[ba 5 3000320,ba 7 3000448,ao 24],[a' 3000320 .i64 5 0,a' 3000448 .i64 7 0],28⟩)]
noncomputable def IQ(y:SR.J):Option (aB Sv):=
 bif(!(!y.1.2.1)) then
 some (((),(),(!y.1.2.2.2.1),()),y.2.1,y.2.2.1,())
else
 some (((),(),true,()),y.2.1,y.2.2.1,())
theorem al4:aS O (am (codeOf Tryz.f204) 1 60) (aU SR Sv IQ):=cd aaa (by kernel_rfl) ae fun y=>by kernel_rfl
abbrev i204:Shape:=⟨[aj 0,aj 1],[],28⟩
abbrev XU:Shape:=⟨[ag 4],[],28⟩
noncomputable def f204(a:i204.J):Option XU.J:=
(f140 ((a.1.1,()),())).bind fun b=>
(f140 ((a.1.2.1,()),())).bind fun c=>
(IQ (((),b.1.2.1,(),c.1.2.1,()),b.2.1,c.2.1,())).bind fun d=>
 bif d.1.2.2.1 then
 some (((0:Int),()),())
else
(f238 ((d.2.1,d.2.2.1,()),())).bind fun e=>
 some ((e.1.1,()),())
noncomputable def Z':aD:=aG ad Tryz.f204 i204 XU [] f204
theorem arG:aA O 204 Z':=aK aaa Tryz.func204 (by kernel_rfl) (a7 al4 ae) (fun y=>by kernel_rfl) fun a=>by kernel_rfl
noncomputable abbrev auv:a_:=[(204,Z')]
theorem avx:aQ O (aW ad auv):=aV ⟨arG,⟨⟩⟩
abbrev i161:Shape:=⟨[b_ 0 [ah,aZ,ah],aj 1,aj 2],[],30⟩
abbrev Yp:Shape:=⟨[ao 6],[],30⟩
noncomputable def f161(a:i161.J):Option Yp.J:=
 bif(!(a.1.1.1==a.1.2.1)) then
 some ((false,()),())
else
(f204 ((a.1.2.2.1,a.1.1.2.2.1,()),())).bind fun b=>
 bif(a.1.1.2.1==(1:Int)) then
 some (((b.1.1==(0:Int)),()),())
else
 bif(a.1.1.2.1==(2:Int)) then
 some (((decide (b.1.1>=(0:Int))),()),())
else
 bif(a.1.1.2.1==(3:Int)) then
 some (((decide (b.1.1<(0:Int))),()),())
else
 some ((true,()),())
noncomputable def _A:aD:=aG ad Tryz.f161 i161 Yp [] f161
theorem ar0:aA O 161 _A:=aK avx Tryz.func161 (by kernel_rfl) ae (fun y=>by kernel_rfl) fun a=>by kernel_rfl
abbrev i288:Shape:=⟨[ag 0],[],6⟩
abbrev Xi:Shape:=⟨[ao 2],[],6⟩
noncomputable def f288(a:i288.J):Option Xi.J:=
 some (((a.1.1 !=a.1.1),()),())
noncomputable def ZD:aD:=aG ad Tryz.f288 i288 Xi [] f288
theorem arc:aA O 288 ZD:=aK g0 Tryz.func288 (by kernel_rfl) ae (fun y=>by kernel_rfl) fun a=>by kernel_rfl
noncomputable abbrev atE:a_:=[(288,ZD)]
theorem ava:aQ O (aW ad atE):=aV ⟨arc,⟨⟩⟩
abbrev i286:Shape:=⟨[ag 0,ag 1],[],20⟩
abbrev Xj:Shape:=⟨[ag 4],[],20⟩
noncomputable def f286(a:i286.J):Option Xj.J:=
(f288 ((a.1.1,()),())).bind fun b=>
(f288 ((a.1.2.1,()),())).bind fun c=>
 bif b.1.1 then
 bif c.1.1 then
 some (((0:Int),()),())
else
 some ((((-1):Int),()),())
else
 bif c.1.1 then
 some (((1:Int),()),())
else
 bif(decide (a.1.1<a.1.2.1)) then
 some ((((-1):Int),()),())
else
 bif(decide (a.1.1>a.1.2.1)) then
 some (((1:Int),()),())
else
 some (((0:Int),()),())
noncomputable def ZE:aD:=aG ad Tryz.f286 i286 Xj [] f286
theorem ard:aA O 286 ZE:=aK ava Tryz.func286 (by kernel_rfl) ae (fun y=>by kernel_rfl) fun a=>by kernel_rfl
noncomputable abbrev atG:a_:=[(286,ZE)]
theorem _6:aQ O (aW ad atG):=aV ⟨ard,⟨⟩⟩
abbrev zZ:Shape:=⟨[aI 0 .i64,aI 1 .i64,aI 9 .i64,ag 10,ag 11],[],36⟩
abbrev Ho:List aP:=[(.ret,⟨[ag 4],[],36⟩),(.exit 0,⟨[aI 0 .i64,aI 1 .i64],[],36⟩)]
noncomputable def vG(y:zZ.J):bG zZ Ho:=
 bif(decide (y.1.2.2.2.2.1<y.1.2.2.2.1)) then
(aO y.1.2.2.1 y.1.2.2.2.2.1).bind fun a=>
 bif(decide (y.1.2.2.2.2.1>=(y.1.2.1.length:Int))) then
 some (.inr (.inl (((1:Int),()),())))
else
(aO y.1.2.1 y.1.2.2.2.2.1).bind fun b=>
(f286 ((a,b,()),())).bind fun c=>
 bif(c.1.1 !=(0:Int)) then
 some (.inr (.inl ((c.1.1,()),())))
else
 some (.inl ((y.1.1,y.1.2.1,y.1.2.2.1,y.1.2.2.2.1,(IntKind.i64.wrap (y.1.2.2.2.2.1+(1:Int))),()),()))
else
 some (.inr (.inr ((y.1.1,y.1.2.1,()),())))
noncomputable def o9:zZ.J->Option (aB Ho):=br vG
theorem alS:aS O (am (codeOf Tryz.f281) 1 26) (aU zZ Ho o9):=bH _6 (by kernel_rfl) ae fun y=>by kernel_rfl
abbrev i281:Shape:=⟨[aI 0 .i64,aI 1 .i64],[],36⟩
abbrev Kv:Shape:=⟨[ag 4],[],36⟩
noncomputable def f281(a:i281.J):Option Kv.J:=
(o9 ((a.1.1,a.1.2.1,a.1.1,(a.1.1.length:Int),(0:Int),()),())).bind fun b=>
(match b with
|.inl c=>
 some ((c.1.1,()),())
|.inr d=>
 bif(decide ((d.1.1.length:Int)<(d.1.2.1.length:Int))) then
 some ((((-1):Int),()),())
else
 some (((0:Int),()),()))
noncomputable def ZH:aD:=aG ad Tryz.f281 i281 Kv [] f281
theorem arh:aA O 281 ZH:=aK _6 Tryz.func281 (by kernel_rfl) (a7 alS ae) (fun y=>by kernel_rfl) fun a=>by kernel_rfl
noncomputable abbrev atL:a_:=[(281,ZH)]
theorem avd:aQ O (aW ad atL):=aV ⟨arh,⟨⟩⟩
abbrev i263:Shape:=⟨[aI 0 .i64,aI 1 .i64],[],8⟩
abbrev Xt:Shape:=⟨[ag 4],[],8⟩
noncomputable def f263(a:i263.J):Option Xt.J:=
(f281 ((a.1.1,a.1.2.1,()),())).bind fun b=>
 some ((b.1.1,()),())
noncomputable def ZO:aD:=aG ad Tryz.f263 i263 Xt [] f263
theorem aro:aA O 263 ZO:=aK avd Tryz.func263 (by kernel_rfl) ae (fun y=>by kernel_rfl) fun a=>by kernel_rfl
noncomputable abbrev atT:a_:=[(151,Lm),(263,ZO)]
theorem _8:aQ O (aW ad atT):=aV ⟨W4,aro,⟨⟩⟩
abbrev SP:Shape:=⟨[ba 5 3000320,ao 6,ba 7 3000448,ao 8],[a' 3000320 .i64 5 0,a' 3000448 .i64 7 0],28⟩
abbrev St:List aP:=[(.norm,⟨[ba 5 3000320,ba 7 3000448,ao 24],[a' 3000320 .i64 5 0,a' 3000448 .i64 7 0],28⟩)]
noncomputable def IP(y:SP.J):Option (aB St):=
 bif(!(!y.1.2.1)) then
 some (((),(),(!y.1.2.2.2.1),()),y.2.1,y.2.2.1,())
else
 some (((),(),true,()),y.2.1,y.2.2.1,())
theorem al0:aS O (am (codeOf Tryz.f227) 1 60) (aU SP St IP):=cd _8 (by kernel_rfl) ae fun y=>by kernel_rfl
abbrev i227:Shape:=⟨[aj 0,aj 1],[],28⟩
abbrev XE:Shape:=⟨[ag 4],[],28⟩
noncomputable def f227(a:i227.J):Option XE.J:=
(f151 ((a.1.1,()),())).bind fun b=>
(f151 ((a.1.2.1,()),())).bind fun c=>
(IP (((),b.2.2.2.1.1,(),c.2.2.2.1.1,()),b.2.1,c.2.1,())).bind fun d=>
 bif d.1.2.2.1 then
 some (((0:Int),()),())
else
(f263 ((d.2.1,d.2.2.1,()),())).bind fun e=>
 some ((e.1.1,()),())
noncomputable def Z0:aD:=aG ad Tryz.f227 i227 XE [] f227
theorem z227:aA O 227 Z0:=aK _8 Tryz.func227 (by kernel_rfl) (a7 al0 ae) (fun y=>by kernel_rfl) fun a=>by kernel_rfl
noncomputable abbrev aug:a_:=[(100,Dj),(102,w3),(227,Z0)]
theorem aad:aQ O (aW ad aug):=aV ⟨Kk,CV,z227,⟨⟩⟩
abbrev SU:Shape:=⟨[aj 1,aj 2,ay 3 3 0],[ax 3 [ah,aZ,ah]],44⟩
abbrev Sx:List aP:=[(.norm,⟨[aj 2,ay 3 3 0,ao 20],[ax 3 [ah,aZ,ah]],44⟩)]
noncomputable def IS(y:SU.J):Option (aB Sx):=
(f102 (((y.2.1.1,y.2.1.2.1,y.2.1.2.2.1,()),()),())).bind fun a=>
 bif(!(!a.1.1)) then
(f100 ((y.1.2.1,()),())).bind fun b=>
 bif(!(!b.1.1)) then
 some ((y.1.2.1,(),(!(y.1.1==y.2.1.1)),()),(y.2.1.1,y.2.1.2.1,y.2.1.2.2.1,()),())
else
 some ((y.1.2.1,(),true,()),(y.2.1.1,y.2.1.2.1,y.2.1.2.2.1,()),())
else
 some ((y.1.2.1,(),true,()),(y.2.1.1,y.2.1.2.1,y.2.1.2.2.1,()),())
theorem amb:aS O (am (codeOf Tryz.f183) 1 12) (aU SU Sx IS):=cd aad (by kernel_rfl) ae fun y=>by kernel_rfl
abbrev i183:Shape:=⟨[b_ 0 [ah,aZ,ah],aj 1,aj 2],[],44⟩
abbrev Ya:Shape:=⟨[ao 6],[],44⟩
noncomputable def f183(a:i183.J):Option Ya.J:=
(IS ((a.1.2.1,a.1.2.2.1,(),()),(a.1.1.1,a.1.1.2.1,a.1.1.2.2.1,()),())).bind fun b=>
 bif b.1.2.2.1 then
 some ((false,()),())
else
 bif(b.2.1.2.1==(1:Int)) then
(f227 ((b.1.1,b.2.1.2.2.1,()),())).bind fun c=>
 some (((c.1.1==(0:Int)),()),())
else
 bif(b.2.1.2.1==(2:Int)) then
(f227 ((b.1.1,b.2.1.2.2.1,()),())).bind fun d=>
 some (((decide (d.1.1>=(0:Int))),()),())
else
 bif(b.2.1.2.1==(3:Int)) then
(f227 ((b.1.1,b.2.1.2.2.1,()),())).bind fun e=>
 some (((decide (e.1.1<(0:Int))),()),())
else
 some ((true,()),())
noncomputable def _l:aD:=aG ad Tryz.f183 i183 Ya [] f183
theorem z183:aA O 183 _l:=aK aad Tryz.func183 (by kernel_rfl) (a7 amb ae) (fun y=>by kernel_rfl) fun a=>by kernel_rfl
def pC:List Int->List Int->Int
 |[],[]=>0
 |[],_::_=>-1
 |_::_,[]=>1
 |x::a,y::b=>bif decide (x<y) then-1 else bif decide (x>y) then 1 else pC a b
theorem drop_cons{aH:Type}{xs:List aH}{k:Nat}{x:aH}{r:List aH}(h:xs.drop k=x::r):xs[k]? =some x/\xs.drop (k+1)=r/\k<xs.length:=by
 have h1:xs[k]? =some x:=by
  have:=congrArg (fun l=>l[0]?) h
  simpa using this
 refine⟨h1,?_,cT h1⟩;have:=congrArg List.tail h;simpa using this
theorem drop_nil{aH:Type}{xs:List aH}{k:Nat}(h:xs.drop k=[]):xs.length<=k:=by
 have:=congrArg List.length h;simp at this;omega
theorem aht(a)(h1:cj a.1.1.length)(h2:cj a.1.2.1.length)(h9:∀x,x∈a.1.1->0<=x)(iM:∀x,x∈a.1.2.1->0<=x):f238 a=some ((pC a.1.1 a.1.2.1,()),()):=by
 obtain⟨⟨xs,bj,u⟩,bV⟩:=a;have h1:xs.length<=2097152:=h1;have h2:bj.length<=2097152:=h2;have h9:∀x:Int,x∈xs->0<=x:=h9;have iM:∀x:Int,x∈bj->0<=x:=iM;have key:∀(n:Nat) (us ws:List Int) (k:Nat),us.length+ws.length=n->xs.drop k=us->bj.drop k=ws->k<=2097152->
   (n6 ((xs,(bj,((k:Int),()))),())).bind (fun asJ=>(match asJ with|.inl asI=>some ((asI.1.1,()),())|.inr aBD=>some (((0:Int),()),()):Option Kw.J))=some ((pC us ws,()),()):=by
  intro n;induction n using Nat.strongRecOn with
  |_ n ih=>
   intro us ws k hn ha hb hk;have hw:ar k:=by unfold ar;omega
   match us,ws with
   |[],[]=>
    have c1:=drop_nil ha;have c2:=drop_nil hb;have d1:decide ((k:Int)<(xs.length:Int))=false:=by simp only[decide_eq_false_iff_not];omega
    have d2:decide ((k:Int)<(bj.length:Int))=false:=by simp only[decide_eq_false_iff_not];omega
    have:n6 ((xs,(bj,((k:Int),()))),())=some (.inr ((),())):=by
     refine cp ?_
     simp only[sN,sC,d1,d2,Bool.not_false,cond_true,cond_false,Option.bind_some]
    rw[this];rfl
   |[],y::ws=>
    have c1:=drop_nil ha;obtain⟨c2,c3,de⟩:=drop_cons hb;have hy:=iM y (List.mem_of_getElem? c2);have d1:decide ((k:Int)<(xs.length:Int))=false:=by simp only[decide_eq_false_iff_not];omega
    have d3:decide ((-1:Int)<y)=true:=by simp only[decide_eq_true_eq];omega
    have:n6 ((xs,(bj,((k:Int),()))),())=some (.inl ((((-1):Int),()),())):=by
     refine cp ?_
     simp only[sN,sC,u9,u7,d1,ce de,b4,c2,Bool.not_false,cond_true,cond_false,Option.bind_some,d3]
    rw[this];rfl
   |x::us,[]=>
    have c1:=drop_nil hb;obtain⟨c2,c3,de⟩:=drop_cons ha;have hx:=h9 x (List.mem_of_getElem? c2);have d1:decide ((k:Int)<(bj.length:Int))=false:=by simp only[decide_eq_false_iff_not];omega
    have d3:decide (x<(-1:Int))=false:=by simp only[decide_eq_false_iff_not];omega
    have d4:decide (x>(-1:Int))=true:=by simp only[decide_eq_true_eq];omega
    have:n6 ((xs,(bj,((k:Int),()))),())=some (.inl (((1:Int),()),())):=by
     refine cp ?_
     simp only[sN,sC,u9,u7,d1,ce de,b4,c2,Bool.not_true,cond_true,cond_false,Option.bind_some,d3,d4]
    rw[this];rfl
   |x::us,y::ws=>
    obtain⟨c2,c3,de⟩:=drop_cons ha;obtain⟨e2,bC,dy⟩:=drop_cons hb;have step:sN ((xs,(bj,((k:Int),()))),())=some (bif decide (x<y) then .inr (.inl ((((-1):Int),()),())) else bif decide (x>y) then .inr (.inl (((1:Int),()),())) else .inl ((xs,(bj,(((k+1:Nat):Int),()))),())):=by
     simp only[sN,sC,u9,u7,ce de,ce dy,b4,c2,e2,Bool.not_true,cond_true,cond_false,Option.bind_some,bU hw];cases decide (x<y)<;>cases decide (x>y)<;>rfl
    rw[pC];cases hlt:decide (x<y) with
    |true=>rw[hlt,cond_true] at step;rw[show n6 ((xs,(bj,((k:Int),()))),())=_ from cp step];rfl
    |false=>
     rw[hlt,cond_false] at step;cases rD:decide (x>y) with
     |true=>rw[rD,cond_true] at step;rw[show n6 ((xs,(bj,((k:Int),()))),())=_ from cp step];rfl
     |false=>
      rw[rD,cond_false] at step;rw[show n6 ((xs,(bj,((k:Int),()))),())=_ from dN step]
      exact ih (us.length+ws.length) (by simp only[List.length_cons] at hn;omega) us ws (k+1) rfl c3 bC (by omega)
 have:=key _ xs bj 0 rfl rfl rfl (Nat.zero_le _);simp only[f238];exact this
theorem ajq(a):f286 a=some ((bif decide (a.1.1<a.1.2.1) then-1 else bif decide (a.1.1>a.1.2.1) then 1 else 0,()),()):=by
 obtain⟨⟨x,y,u⟩,bV⟩:=a;have hx:(x !=x)=false:=by simp
 have hy:(y !=y)=false:=by simp
 simp only[f286,f288,Option.bind_some,hx,hy,cond_false];cases decide (x<y)<;>cases decide (x>y)<;>rfl
theorem ahF(a)(h1:cj a.1.1.length)(h2:cj a.1.2.1.length):f281 a=some ((pC a.1.1 a.1.2.1,()),()):=by
 obtain⟨⟨xs,bj,u⟩,bV⟩:=a;have h1:xs.length<=2097152:=h1;have h2:bj.length<=2097152:=h2;have key:∀(us ws:List Int) (k:Nat),xs.drop k=us->bj.drop k=ws->k<=xs.length->
   (o9 ((xs,(bj,(xs,((xs.length:Int),((k:Int),()))))),())).bind (fun aqi=>(match aqi with
    |.inl aqh=>some ((aqh.1.1,()),())
    |.inr Wa=>bif(decide ((Wa.1.1.length:Int)<(Wa.1.2.1.length:Int))) then some ((((-1):Int),()),()) else some (((0:Int),()),()):Option Kv.J))=some ((pC us ws,()),()):=by
  intro us;induction us with
  |nil=>
   intro ws k ha hb hk;have c1:=drop_nil ha;have d1:decide ((k:Int)<(xs.length:Int))=false:=by simp only[decide_eq_false_iff_not];omega
   have:o9 ((xs,(bj,(xs,((xs.length:Int),((k:Int),()))))),())=some (.inr ((xs,(bj,())),())):=by
    refine cp ?_
    simp only[vG,d1,cond_false]
   rw[this];simp only[Option.bind_some];cases ws with
   |nil=>
    have c2:=drop_nil hb;have:decide ((xs.length:Int)<(bj.length:Int))=false:=by simp only[decide_eq_false_iff_not];omega
    rw[this];rfl
   |cons y ws=>
    obtain⟨_,_,de⟩:=drop_cons hb;rw[ce (show xs.length<bj.length by omega)];rfl
  |cons x us ih=>
   intro ws k ha hb hk;obtain⟨c2,c3,de⟩:=drop_cons ha;have hw:ar k:=by unfold ar;omega
   cases ws with
   |nil=>
    have c1:=drop_nil hb;have d1:decide ((k:Int)>=(bj.length:Int))=true:=by simp only[decide_eq_true_eq];omega
    have:o9 ((xs,(bj,(xs,((xs.length:Int),((k:Int),()))))),())=some (.inl (((1:Int),()),())):=by
     refine cp ?_
     simp only[vG,ce de,cond_true,b4,c2,Option.bind_some,d1]
    rw[this];rfl
   |cons y ws=>
    obtain⟨e2,bC,dy⟩:=drop_cons hb;have d1:decide ((k:Int)>=(bj.length:Int))=false:=by simp only[decide_eq_false_iff_not];omega
    have step:vG ((xs,(bj,(xs,((xs.length:Int),((k:Int),()))))),())=some (bif decide (x<y) then .inr (.inl ((((-1):Int),()),())) else bif decide (x>y) then .inr (.inl (((1:Int),()),())) else .inl ((xs,(bj,(xs,((xs.length:Int),(((k+1:Nat):Int),()))))),())):=by
     simp only[vG,ce de,b4,c2,e2,d1,cond_true,cond_false,Option.bind_some,ajq,bU hw];cases decide (x<y)<;>cases decide (x>y)<;>rfl
    rw[pC];cases hlt:decide (x<y) with
    |true=>rw[hlt,cond_true] at step;rw[show o9 ((xs,(bj,(xs,((xs.length:Int),((k:Int),()))))),())=_ from cp step];rfl
    |false=>
     rw[hlt,cond_false] at step;cases rD:decide (x>y) with
     |true=>rw[rD,cond_true] at step;rw[show o9 ((xs,(bj,(xs,((xs.length:Int),((k:Int),()))))),())=_ from cp step];rfl
     |false=>
      rw[rD,cond_false] at step;rw[show o9 ((xs,(bj,(xs,((xs.length:Int),((k:Int),()))))),())=_ from dN step]
      exact ih ws (k+1) c3 bC (by omega)
 have:=key xs bj 0 rfl rfl (Nat.zero_le _);simp only[f281];exact this
def q7(a b:B):Int:=bif ej a&&ej b then pC (hP a) (hP b) else 0
theorem Od{s:B}(h:ej s=true):∀x,x∈hP s->0<=x:=by
 intro x hx;unfold hP at hx;obtain⟨p,hp,rfl⟩:=List.mem_map.1 hx;unfold ej at h;simp only[Bool.and_eq_true] at h;have:=List.all_eq_true.1 h.1 p hp;unfold fv at this;simp only[Bool.and_eq_true] at this;exact O2 p 0 this.1.1.1.1 (Int.le_refl _)
theorem yF(s:B):(hP s).length<=s.length+1:=by
 unfold hP ig;rw[List.length_map];exact nS 46 s
theorem aee(a)(h1:a.1.1.length<=2097151)(h2:a.1.2.1.length<=2097151):f204 a=some ((q7 a.1.1 a.1.2.1,()),()):=by
 obtain⟨⟨x,y,u⟩,bV⟩:=a;have h1:x.length<=2097151:=h1;have h2:y.length<=2097151:=h2;obtain⟨o1,e1,q1⟩:=Fh ((x,()),()) (show x.length<=2097152 by omega)
 obtain⟨o2,e2,q2⟩:=Fh ((y,()),()) (show y.length<=2097152 by omega)
 simp only[f204,e1,e2,Option.bind_some,IQ,q7,Bool.not_not];cases hx:ej x with
 |false=>rfl
 |true=>
  cases hy:ej y with
  |false=>rfl
  |true=>
   have axi:=yF x;have DM:=yF y;have aY:o1=hP x:=q1 hx;have w2:o2=hP y:=q2 hy;subst aY w2;have bC:=aht ((hP x,(hP y,())),()) (show(hP x).length<=2097152 by omega) (show(hP y).length<=2097152 by omega) (Od hx) (Od hy)
   simp only[cond_true,Bool.not_true,Option.bind_some,cond_false,bC,Bool.and_self]
theorem ad9(a)(h1:a.1.1.length<=2097151)(h2:a.1.2.1.length<=2097151):f227 a=some ((q7 a.1.1 a.1.2.1,()),()):=by
 obtain⟨⟨x,y,u⟩,bV⟩:=a;have h1:x.length<=2097151:=h1;have h2:y.length<=2097151:=h2;have e1:=EF ((x,()),()) (show x.length<=2097152 by omega)
 have e2:=EF ((y,()),()) (show y.length<=2097152 by omega)
 simp only[f227,e1,e2,Option.bind_some,IP,q7,Bool.not_not];cases hx:ej x with
 |false=>rfl
 |true=>
  cases hy:ej y with
  |false=>rfl
  |true=>
   have axi:=yF x;have DM:=yF y;have bC:=ahF ((hP x,(hP y,())),()) (show(hP x).length<=2097152 by omega) (show(hP y).length<=2097152 by omega)
   simp only[cond_true,Bool.not_true,Option.bind_some,cond_false,f263,bC,Bool.and_self]
def tv(n:bv)(v:B):Bool:=bif n.kind==1 then q7 v n.aX==0 else bif n.kind==2 then decide (q7 v n.aX>=0) else bif n.kind==3 then decide (q7 v n.aX<0) else true
theorem ajg(a)(h1:a.1.1.2.2.1.length<=2097151)(h2:a.1.2.2.1.length<=2097151)(hn:a.1.2.1=a.1.1.1):f161 a=some ((tv ⟨a.1.1.1,a.1.1.2.1,a.1.1.2.2.1⟩ a.1.2.2.1,()),()):=by
 obtain⟨⟨⟨n,k,v,u⟩,m,w,bV⟩,nr⟩:=a;obtain rfl:m=n:=hn;have e1:=aee ((w,(v,())),()) h2 h1;have e4:(m==m)=true:=by simp
 simp only[f161,e4,e1,Bool.not_true,cond_false,Option.bind_some,tv];cases (k==1)<;>cases (k==2)<;>cases (k==3)<;>rfl
def ly(n:bv)(name v:B):Bool:=dC n&&ej v&&(name==n.name)&&tv n v
theorem ags(a)(h0:cj a.1.1.1.length)(h1:a.1.1.2.2.1.length<=2097151)(h2:a.1.2.2.1.length<=2097151):f183 a=some ((ly ⟨a.1.1.1,a.1.1.2.1,a.1.1.2.2.1⟩ a.1.2.1 a.1.2.2.1,()),()):=by
 obtain⟨⟨⟨n,k,v,u⟩,m,w,bV⟩,nr⟩:=a;have h1:v.length<=2097151:=h1;have h2:w.length<=2097151:=h2;have e1:=ad9 ((w,(v,())),()) h2 h1;have e2:=yI (((n,(k,(v,()))),()),()) h0 (show v.length<=2097152 by omega)
 have bC:=EJ ((w,()),()) (show w.length<=2097152 by omega)
 simp only[f183,IS,e1,e2,bC,Bool.not_not,Option.bind_some,ly,tv];cases dC ⟨n,k,v⟩ with
 |false=>rfl
 |true=>
  cases ej w with
  |false=>rfl
  |true=>
   cases (m==n) with
   |false=>rfl
   |true=>
    simp only[cond_true,Bool.not_true,Option.bind_some,cond_false,Bool.true_and];cases (k==1)<;>cases (k==2)<;>cases (k==3)<;>simp only[cond_true,cond_false,Option.bind_some,e1]
abbrev Ap:Shape:=⟨[aI 0 .pack,aj 1,ag 5],[],20⟩
abbrev HK:List aP:=[(.ret,⟨[ag 4],[],20⟩),(.exit 0,⟨[],[],20⟩)]
noncomputable def A7(y:Ap.J):bG Ap HK:=
 bif(decide (y.1.2.2.1<(y.1.1.length:Int))) then
(aO y.1.1 y.1.2.2.1).bind fun a=>
 bif(a.name==y.1.2.1) then
 some (.inr (.inl ((y.1.2.2.1,()),())))
else
 some (.inl ((y.1.1,y.1.2.1,(IntKind.i64.wrap (y.1.2.2.1+(1:Int))),()),()))
else
 some (.inr (.inr ((),())))
noncomputable def sJ:Ap.J->Option (aB HK):=br A7
theorem amm:aS O (am (codeOf Tryz.f160) 1 26) (aU Ap HK sJ):=bH g0 (by kernel_rfl) ae fun y=>by kernel_rfl
abbrev i160:Shape:=⟨[aI 0 .pack,aj 1],[],20⟩
abbrev Yq:Shape:=⟨[ag 4],[],20⟩
noncomputable def f160(a:i160.J):Option Yq.J:=
(sJ ((a.1.1,a.1.2.1,(0:Int),()),())).bind fun b=>
(match b with
|.inl c=>
 some ((c.1.1,()),())
|.inr d=>
 some ((((-1):Int),()),()))
noncomputable def Lk:aD:=aG ad Tryz.f160 i160 Yq [] f160
theorem z160:aA O 160 Lk:=aK g0 Tryz.func160 (by kernel_rfl) (a7 amm ae) (fun y=>by kernel_rfl) fun a=>by kernel_rfl
noncomputable abbrev au3:a_:=[(160,Lk),(161,_A)]
theorem Dq:aQ O (aW ad au3):=aV ⟨z160,ar0,⟨⟩⟩
abbrev OJ:Shape:=⟨[aI 0 .pack,ag 3,ag 4,ay 5 5 0,ag 6],[ax 5 [ah,aZ,ah]],49⟩
abbrev OC:List aP:=[(.norm,⟨[aI 0 .pack,ag 3,ag 4,ag 35,ao 36,ao 37,ao 48],[],49⟩)]
noncomputable def yp(y:OJ.J):Option (aB OC):=
 bif(decide (y.1.2.2.2.2.1<(0:Int))) then
 some ((y.1.1,y.1.2.1,y.1.2.2.1,y.1.2.2.2.2.1,(decide (y.1.2.2.2.2.1<(0:Int))),true,true,()),())
else
(aO y.1.1 y.1.2.2.2.2.1).bind fun a=>
(f161 (((y.2.1.1,y.2.1.2.1,y.2.1.2.2.1,()),y.2.1.1,a.aX,()),())).bind fun b=>
 some ((y.1.1,y.1.2.1,y.1.2.2.1,y.1.2.2.2.2.1,(decide (y.1.2.2.2.2.1<(0:Int))),false,(!b.1.1),()),())
theorem afN:aS O (am (c4 (am (c4 (am (codeOf Tryz.f110) 1 26)) 52 1682)) 3364 215334) (aU OJ OC yp):=cd Dq (by kernel_rfl) ae fun y=>by kernel_rfl
abbrev yV:Shape:=⟨[aI 0 .pack,ag 3,ag 4],[],49⟩
abbrev Fw:List aP:=[(.ret,⟨[ao 2],[],49⟩),(.exit 2,⟨[aI 0 .pack,ag 3],[],49⟩)]
noncomputable def y7(y:yV.J):bG yV Fw:=
(aO y.1.1 y.1.2.1).bind fun a=>
 bif(decide (y.1.2.2.1<(a.bi.length:Int))) then
(aO y.1.1 y.1.2.1).bind fun b=>
(aO b.bi y.1.2.2.1).bind fun c=>
(f160 ((y.1.1,c.name,()),())).bind fun d=>
(yp ((y.1.1,y.1.2.1,y.1.2.2.1,(),d.1.1,()),(c.name,c.kind,c.aX,()),())).bind fun e=>
 bif e.1.2.2.2.2.2.2.1 then
 some (.inr (.inl ((false,()),())))
else
 some (.inl ((e.1.1,e.1.2.1,(IntKind.i64.wrap (e.1.2.2.1+(1:Int))),()),()))
else
 some (.inr (.inr ((y.1.1,y.1.2.1,()),())))
noncomputable def FQ:yV.J->Option (aB Fw):=br y7
theorem aiq:aS O (am (c4 (am (codeOf Tryz.f110) 1 26)) 52 1682) (aU yV Fw FQ):=bH Dq (by kernel_rfl) (a7 afN ae) fun y=>by kernel_rfl
abbrev AF:Shape:=⟨[aI 0 .pack,ag 3],[],49⟩
abbrev H0:List aP:=[(.ret,⟨[ao 2],[],49⟩),(.exit 0,⟨[],[],49⟩)]
noncomputable def Bd(y:AF.J):bG AF H0:=
 bif(decide (y.1.2.1<(y.1.1.length:Int))) then
(FQ ((y.1.1,y.1.2.1,(0:Int),()),())).bind fun a=>
(match a with
|.inl b=>
 some (.inr (.inl ((b.1.1,()),())))
|.inr c=>
 some (.inl ((c.1.1,(IntKind.i64.wrap (c.1.2.1+(1:Int))),()),())))
else
 some (.inr (.inr ((),())))
noncomputable def IB:AF.J->Option (aB H0):=br Bd
theorem amF:aS O (am (codeOf Tryz.f110) 1 26) (aU AF H0 IB):=bH Dq (by kernel_rfl) (a7 aiq ae) fun y=>by kernel_rfl
abbrev i110:Shape:=⟨[aI 0 .pack],[],49⟩
abbrev Y0:Shape:=⟨[ao 2],[],49⟩
noncomputable def f110(a:i110.J):Option Y0.J:=
(IB ((a.1.1,(0:Int),()),())).bind fun b=>
(match b with
|.inl c=>
 some ((c.1.1,()),())
|.inr d=>
 some ((true,()),()))
noncomputable def _2:aD:=aG ad Tryz.f110 i110 Y0 [] f110
theorem asg:aA O 110 _2:=aK Dq Tryz.func110 (by kernel_rfl) (a7 amF ae) (fun y=>by kernel_rfl) fun a=>by kernel_rfl
noncomputable abbrev apv:a_:=[(54,WP),(56,acJ)]
theorem VV:aQ O (aW ad apv):=aV ⟨apX,av0,⟨⟩⟩
abbrev Qk:Shape:=⟨[(0,.an (.eE [.sl .pack] 0))],[],10⟩
abbrev P1:List aP:=[(.norm,⟨[ao 9],[],10⟩)]
noncomputable def F1(y:Qk.J):Option (aB P1):=
(CJ ((y.1.1.1,(),()),())).bind fun a=>
 bif(!(!a.1.1)) then
(f56 ((y.1.1.1,()),())).bind fun b=>
 some (((!b.1.1),()),())
else
 some ((true,()),())
theorem ail:aS O (am (codeOf Tryz.f128) 1 12) (aU Qk P1 F1):=cd VV (by kernel_rfl) ae fun y=>by kernel_rfl
abbrev Vf:Shape:=⟨[(0,.an (.eE [.sl .pack] 0))],[],10⟩
abbrev UM:Shape:=⟨[ag 1],[],10⟩
noncomputable def ta(a:Vf.J):Option UM.J:=
(F1 (((a.1.1.1,()),()),())).bind fun b=>
 bif b.1.1 then
 some (((1:Int),()),())
else
 some (((0:Int),()),())
noncomputable def VO:aD:=aG ad Tryz.f128 Vf UM [] ta
theorem anL:aA O 128 VO:=aK VV Tryz.func128 (by kernel_rfl) (a7 ail ae) (fun y=>by kernel_rfl) fun a=>by kernel_rfl
abbrev Ve:Shape:=⟨[(0,.an (.eE [.sl .pack] 0))],[],5⟩
abbrev UL:Shape:=⟨[ag 1],[],5⟩
noncomputable def s'(a:Ve.J):Option UL.J:=
 bif(decide ((a.1.1.1.length:Int)>(5:Int))) then
 some (((6:Int),()),())
else
 some (((0:Int),()),())
noncomputable def VN:aD:=aG ad Tryz.f129 Ve UL [] s'
theorem anK:aA O 129 VN:=aK g0 Tryz.func129 (by kernel_rfl) ae (fun y=>by kernel_rfl) fun a=>by kernel_rfl
noncomputable abbrev apm:a_:=[(183,_l)]
theorem apG:aQ O (aW ad apm):=aV ⟨z183,⟨⟩⟩
abbrev U7:Shape:=⟨[b_ 0 [ah,ah,bn .need,bn .entry],(1,.an (.eE [.str,.int .i64,.str] 0))],[],10⟩
abbrev UC:Shape:=⟨[ao 3],[],10⟩
noncomputable def JN(a:U7.J):Option UC.J:=
(f183 (((a.1.2.1.1,a.1.2.1.2.1,a.1.2.1.2.2.1,()),a.1.1.1,a.1.1.2.1,()),())).bind fun b=>
 some ((b.1.1,()),())
noncomputable def VI:aD:=aG ad Tryz.f182 U7 UC [] JN
theorem anF:aA O 182 VI:=aK apG Tryz.func182 (by kernel_rfl) ae (fun y=>by kernel_rfl) fun a=>by kernel_rfl
noncomputable abbrev api:a_:=[(182,VI)]
theorem VU:aQ O (aW ad api):=aV ⟨anF,⟨⟩⟩
abbrev yP:Shape:=⟨[aI 0 .pack,(1,.an (.fn 182 [[.str,.int .i64,.str]])),ag 7,ag 8],[],19⟩
abbrev Fp:List aP:=[(.ret,⟨[ag 4],[],19⟩),(.exit 0,⟨[],[],19⟩)]
noncomputable def y1(y:yP.J):bG yP Fp:=
 bif(decide (y.1.2.2.2.1<y.1.2.2.1)) then
(aO y.1.1 y.1.2.2.2.1).bind fun a=>
(JN (((a.name,a.aX,a.bi,a.bx,()),(y.1.2.1.1.1,y.1.2.1.1.2.1,y.1.2.1.1.2.2.1,()),()),())).bind fun b=>
 bif b.1.1 then
 some (.inr (.inl ((y.1.2.2.2.1,()),())))
else
 some (.inl ((y.1.1,((y.1.2.1.1.1,y.1.2.1.1.2.1,y.1.2.1.1.2.2.1,()),()),y.1.2.2.1,(IntKind.i64.wrap (y.1.2.2.2.1+(1:Int))),()),()))
else
 some (.inr (.inr ((),())))
noncomputable def ss:yP.J->Option (aB Fp):=br y1
theorem aia:aS O (am (codeOf Tryz.f228) 1 26) (aU yP Fp ss):=bH VU (by kernel_rfl) ae fun y=>by kernel_rfl
abbrev U3:Shape:=⟨[aI 0 .pack,(1,.an (.fn 182 [[.str,.int .i64,.str]]))],[],19⟩
abbrev Jq:Shape:=⟨[ag 4],[],19⟩
noncomputable def Cd(a:U3.J):Option Jq.J:=
(ss ((a.1.1,((a.1.2.1.1.1,a.1.2.1.1.2.1,a.1.2.1.1.2.2.1,()),()),(a.1.1.length:Int),(0:Int),()),())).bind fun b=>
(match b with
|.inl c=>
 some ((c.1.1,()),())
|.inr d=>
 some ((((-1):Int),()),()))
noncomputable def VF:aD:=aG ad Tryz.f228 U3 Jq [] Cd
theorem anC:aA O 228 VF:=aK VU Tryz.func228 (by kernel_rfl) (a7 aia ae) (fun y=>by kernel_rfl) fun a=>by kernel_rfl
noncomputable abbrev apl:a_:=[(228,VF)]
theorem apF:aQ O (aW ad apl):=aV ⟨anC,⟨⟩⟩
abbrev U6:Shape:=⟨[aI 0 .pack,(1,.an (.fn 182 [[.str,.int .i64,.str]]))],[],9⟩
abbrev UB:Shape:=⟨[ao 4],[],9⟩
noncomputable def Ce(a:U6.J):Option UB.J:=
(Cd ((a.1.1,((a.1.2.1.1.1,a.1.2.1.1.2.1,a.1.2.1.1.2.2.1,()),()),()),())).bind fun b=>
 some (((decide (b.1.1>=(0:Int))),()),())
noncomputable def VH:aD:=aG ad Tryz.f184 U6 UB [] Ce
theorem anE:aA O 184 VH:=aK apF Tryz.func184 (by kernel_rfl) ae (fun y=>by kernel_rfl) fun a=>by kernel_rfl
noncomputable abbrev auQ:a_:=[(184,VH)]
theorem LD:aQ O (aW ad auQ):=aV ⟨anE,⟨⟩⟩
abbrev yS:Shape:=⟨[aI 0 .pack,aI 8 .pack,ag 9,ag 10,aI 15 .need,ag 16,ag 17],[],28⟩
abbrev Ft:List aP:=[(.ret,⟨[ao 2],[],28⟩),(.exit 2,⟨[aI 0 .pack,aI 8 .pack,ag 9,ag 10],[],28⟩)]
noncomputable def y5(y:yS.J):bG yS Ft:=
 bif(decide (y.1.2.2.2.2.2.2.1<y.1.2.2.2.2.2.1)) then
(aO y.1.2.2.2.2.1 y.1.2.2.2.2.2.2.1).bind fun a=>
(Ce ((y.1.1,((a.name,a.kind,a.aX,()),()),()),())).bind fun b=>
 bif(!b.1.1) then
 some (.inr (.inl ((false,()),())))
else
 some (.inl ((y.1.1,y.1.2.1,y.1.2.2.1,y.1.2.2.2.1,y.1.2.2.2.2.1,y.1.2.2.2.2.2.1,(IntKind.i64.wrap (y.1.2.2.2.2.2.2.1+(1:Int))),()),()))
else
 some (.inr (.inr ((y.1.1,y.1.2.1,y.1.2.2.1,y.1.2.2.2.1,()),())))
noncomputable def FN:yS.J->Option (aB Ft):=br y5
theorem aik:aS O (am (c4 (am (codeOf Tryz.f131) 1 26)) 52 6758) (aU yS Ft FN):=bH LD (by kernel_rfl) ae fun y=>by kernel_rfl
abbrev AA:Shape:=⟨[aI 0 .pack,aI 8 .pack,ag 9,ag 10],[],28⟩
abbrev HV:List aP:=[(.ret,⟨[ao 2],[],28⟩),(.exit 0,⟨[],[],28⟩)]
noncomputable def Bb(y:AA.J):bG AA HV:=
 bif(decide (y.1.2.2.2.1<y.1.2.2.1)) then
(aO y.1.2.1 y.1.2.2.2.1).bind fun a=>
(FN ((y.1.1,y.1.2.1,y.1.2.2.1,y.1.2.2.2.1,a.bi,(a.bi.length:Int),(0:Int),()),())).bind fun b=>
(match b with
|.inl c=>
 some (.inr (.inl ((c.1.1,()),())))
|.inr d=>
 some (.inl ((d.1.1,d.1.2.1,d.1.2.2.1,(IntKind.i64.wrap (d.1.2.2.2.1+(1:Int))),()),())))
else
 some (.inr (.inr ((),())))
noncomputable def Iz:AA.J->Option (aB HV):=br Bb
theorem amz:aS O (am (codeOf Tryz.f131) 1 26) (aU AA HV Iz):=bH LD (by kernel_rfl) (a7 aik ae) fun y=>by kernel_rfl
abbrev i131:Shape:=⟨[aI 0 .pack],[],28⟩
abbrev YN:Shape:=⟨[ao 2],[],28⟩
noncomputable def f131(a:i131.J):Option YN.J:=
(Iz ((a.1.1,a.1.1,(a.1.1.length:Int),(0:Int),()),())).bind fun b=>
(match b with
|.inl c=>
 some ((c.1.1,()),())
|.inr d=>
 some ((true,()),()))
noncomputable def _R:aD:=aG ad Tryz.f131 i131 YN [] f131
theorem z131:aA O 131 _R:=aK LD Tryz.func131 (by kernel_rfl) (a7 amz ae) (fun y=>by kernel_rfl) fun a=>by kernel_rfl
noncomputable abbrev apu:a_:=[(131,_R)]
theorem apN:aQ O (aW ad apu):=aV ⟨z131,⟨⟩⟩
abbrev Vd:Shape:=⟨[(0,.an (.eE [.sl .pack] 0))],[],5⟩
abbrev UK:Shape:=⟨[ag 1],[],5⟩
noncomputable def s_(a:Vd.J):Option UK.J:=
(f131 ((a.1.1.1,()),())).bind fun b=>
 bif(!b.1.1) then
 some (((4:Int),()),())
else
 some (((0:Int),()),())
noncomputable def VM:aD:=aG ad Tryz.f130 Vd UK [] s_
theorem anJ:aA O 130 VM:=aK apN Tryz.func130 (by kernel_rfl) ae (fun y=>by kernel_rfl) fun a=>by kernel_rfl
noncomputable abbrev apt:a_:=[(133,_Q)]
theorem apM:aQ O (aW ad apt):=aV ⟨asa,⟨⟩⟩
abbrev Vc:Shape:=⟨[(0,.an (.eE [.sl .pack] 0))],[],11⟩
abbrev UJ:Shape:=⟨[ag 1],[],11⟩
noncomputable def s9(a:Vc.J):Option UJ.J:=
(f133 ((a.1.1.1,()),())).bind fun b=>
 bif(!b.1.2.1) then
 some (((5:Int),()),())
else
 some (((0:Int),()),())
noncomputable def VL:aD:=aG ad Tryz.f132 Vc UJ [] s9
theorem anI:aA O 132 VL:=aK apM Tryz.func132 (by kernel_rfl) ae (fun y=>by kernel_rfl) fun a=>by kernel_rfl
noncomputable abbrev azh:a_:=[(50,Ea),(109,_3),(110,_2)]
theorem Nf:aQ O (aW ad azh):=aV ⟨LK,z109,asg,⟨⟩⟩
abbrev SL:Shape:=⟨[aI 0 .pack,ag 3],[],52⟩
abbrev Sp:List aP:=[(.norm,⟨[aI 0 .pack,ag 3,aI 12 .pack,ag 13,(14,.an (.eE [.str,.str,.sl .need,.sl .entry] 0)),b_ 15 [ah,ah,bn .need,bn .entry],ao 16,ao 17,ao 18,ao 35],[],52⟩)]
noncomputable def AV(y:SL.J):Option (aB Sp):=
(aO y.1.1 y.1.2.1).bind fun a=>
(f50 (((a.name,a.aX,a.bi,a.bx,()),()),())).bind fun b=>
 bif(!b.1.1) then
 some ((y.1.1,y.1.2.1,y.1.1,y.1.2.1,(a.name,a.aX,a.bi,a.bx,()),(a.name,a.aX,a.bi,a.bx,()),b.1.1,(!b.1.1),true,true,()),())
else
 bif(decide (y.1.2.1>(0:Int))) then
(aO y.1.1 (IntKind.i64.wrap (y.1.2.1-(1:Int)))).bind fun c=>
(aO y.1.1 y.1.2.1).bind fun d=>
 some ((y.1.1,y.1.2.1,y.1.1,y.1.2.1,(a.name,a.aX,a.bi,a.bx,()),(a.name,a.aX,a.bi,a.bx,()),b.1.1,(!b.1.1),false,(!(Op.bytesLess c.name d.name)),()),())
else
 some ((y.1.1,y.1.2.1,y.1.1,y.1.2.1,(a.name,a.aX,a.bi,a.bx,()),(a.name,a.aX,a.bi,a.bx,()),b.1.1,(!b.1.1),false,false,()),())
theorem alL:aS O (am (c4 (am (codeOf Tryz.f60) 1 26)) 52 840) (aU SL Sp AV):=cd Nf (by kernel_rfl) ae fun y=>by kernel_rfl
abbrev BJ:Shape:=⟨[aI 0 .pack,ag 3],[],52⟩
abbrev Jg:List aP:=[(.ret,⟨[ag 2],[],52⟩),(.exit 0,⟨[aI 0 .pack],[],52⟩)]
noncomputable def qP(y:BJ.J):bG BJ Jg:=
 bif(decide (y.1.2.1<(y.1.1.length:Int))) then
(AV ((y.1.1,y.1.2.1,()),())).bind fun a=>
 bif a.1.2.2.2.2.2.2.2.2.2.1 then
 some (.inr (.inl (((1:Int),()),())))
else
 some (.inl ((a.1.1,(IntKind.i64.wrap (a.1.2.1+(1:Int))),()),()))
else
 some (.inr (.inr ((y.1.1,()),())))
noncomputable def BT:BJ.J->Option (aB Jg):=br qP
theorem aoo:aS O (am (codeOf Tryz.f60) 1 26) (aU BJ Jg BT):=bH Nf (by kernel_rfl) (a7 alL ae) fun y=>by kernel_rfl
abbrev i60:Shape:=⟨[aI 0 .pack],[],52⟩
abbrev aba:Shape:=⟨[ag 2],[],52⟩
noncomputable def f60(a:i60.J):Option aba.J:=
(BT ((a.1.1,(0:Int),()),())).bind fun b=>
(match b with
|.inl c=>
 some ((c.1.1,()),())
|.inr d=>
(f109 ((d.1.1,()),())).bind fun e=>
 bif(decide ((d.1.1.length:Int)>(5:Int))) then
 some (((6:Int),()),())
else
(f110 ((d.1.1,()),())).bind fun f=>
 bif(!f.1.1) then
 some (((4:Int),()),())
else
 bif(!e.1.2.1) then
 some (((5:Int),()),())
else
 some (((0:Int),()),()))
noncomputable def M7:aD:=aG ad Tryz.f60 i60 aba [] f60
theorem aaD:aA O 60 M7:=aK Nf Tryz.func60 (by kernel_rfl) (a7 aoo ae) (fun y=>by kernel_rfl) fun a=>by kernel_rfl
noncomputable abbrev azz:a_:=[(60,M7)]
theorem azZ:aQ O (aW ad azz):=aV ⟨aaD,⟨⟩⟩
abbrev i30:Shape:=⟨[b_ 0 [bn .pack]],[],7⟩
abbrev abr:Shape:=⟨[ao 2],[],7⟩
noncomputable def f30(a:i30.J):Option abr.J:=
(f60 ((a.1.1.1,()),())).bind fun b=>
 some (((b.1.1==(0:Int)),()),())
noncomputable def ux:aD:=aG ad Tryz.f30 i30 abr [] f30
theorem w9:aA O 30 ux:=aK azZ Tryz.func30 (by kernel_rfl) ae (fun y=>by kernel_rfl) fun a=>by kernel_rfl
noncomputable abbrev uA:a_:=[(128,VO),(129,VN),(130,VM),(132,VL)]
theorem ac3:aQ O (aW ad uA):=aV ⟨anL,anK,anJ,anI,⟨⟩⟩
abbrev V9:Shape:=⟨[ay 1 1 0],[ax 1 [bn .pack]],24⟩
abbrev pm:List aP:=[(.ret,⟨[ag 2],[],24⟩)]
noncomputable def qT(c:Int):aB pm:=((c,()),())
noncomputable def J8(y:V9.J):Option (aB pm):=
 qR y.2.1.1 qT [fun ps=>ta (((ps,()),()),()),fun ps=>s' (((ps,()),()),()),fun ps=>s_ (((ps,()),()),()),fun ps=>s9 (((ps,()),()),())]
theorem ap1:∀ps k i,exec (gT (aW ad uA) []) (am (c4 (am (codeOf Tryz.f81) 1 58)) 116 3737) 3737 (((gv 24).st (hC 24 ps k i)).set 5 (b7 (.clo 128 [(1,0)]))) (qU 24 pm)=((fun ps=>ta (((ps,()),()),())) ps).bind fun r=>bif(r.1.1 !=0) then some (.inr (qT r.1.1)) else some (.inl (hC 24 ps k i)):=fun ps k i=>by kernel_rfl
theorem ap0:∀ps k i,exec (gT (aW ad uA) []) (am (c4 (am (codeOf Tryz.f81) 1 58)) 116 3737) 3737 (((gv 24).st (hC 24 ps k i)).set 5 (b7 (.clo 129 [(1,0)]))) (qU 24 pm)=((fun ps=>s' (((ps,()),()),())) ps).bind fun r=>bif(r.1.1 !=0) then some (.inr (qT r.1.1)) else some (.inl (hC 24 ps k i)):=fun ps k i=>by kernel_rfl
theorem apZ:∀ps k i,exec (gT (aW ad uA) []) (am (c4 (am (codeOf Tryz.f81) 1 58)) 116 3737) 3737 (((gv 24).st (hC 24 ps k i)).set 5 (b7 (.clo 130 [(1,0)]))) (qU 24 pm)=((fun ps=>s_ (((ps,()),()),())) ps).bind fun r=>bif(r.1.1 !=0) then some (.inr (qT r.1.1)) else some (.inl (hC 24 ps k i)):=fun ps k i=>by kernel_rfl
theorem apY:∀ps k i,exec (gT (aW ad uA) []) (am (c4 (am (codeOf Tryz.f81) 1 58)) 116 3737) 3737 (((gv 24).st (hC 24 ps k i)).set 5 (b7 (.clo 132 [(1,0)]))) (qU 24 pm)=((fun ps=>s9 (((ps,()),()),())) ps).bind fun r=>bif(r.1.1 !=0) then some (.inr (qT r.1.1)) else some (.inl (hC 24 ps k i)):=fun ps k i=>by kernel_rfl
theorem aqj:aS O (am (codeOf Tryz.f81) 1 3) (aU V9 pm J8):=
 aga (C:=gT (aW ad uA) []) (os:=pm) (nt:=24) (T:=165) (e:=164) (m0:=((opsOf (am (codeOf Tryz.f81) 1 6)).getD 0 default)) (m1:=((opsOf (am (codeOf Tryz.f81) 1 6)).getD 1 default)) (m2:=((opsOf (am (codeOf Tryz.f81) 1 6)).getD 2 default)) (m3:=((opsOf (am (codeOf Tryz.f81) 1 6)).getD 3 default)) (m4:=((opsOf (am (codeOf Tryz.f81) 1 6)).getD 4 default)) (m5:=((opsOf (am (codeOf Tryz.f81) 1 6)).getD 5 default)) (n0:=((opsOf (am (codeOf Tryz.f81) 1 28)).getD 0 default)) (n1:=((opsOf (am (codeOf Tryz.f81) 1 28)).getD 1 default)) (n2:=((opsOf (am (codeOf Tryz.f81) 1 28)).getD 2 default)) (q0:=((opsOf (am (c4 (am (codeOf Tryz.f81) 1 58)) 116 232)).getD 0 default)) (r0:=((opsOf (am (c4 (am (codeOf Tryz.f81) 1 58)) 116 3736)).getD 0 default)) (r1:=((opsOf (am (c4 (am (codeOf Tryz.f81) 1 58)) 116 3736)).getD 1 default)) (r2:=((opsOf (am (c4 (am (codeOf Tryz.f81) 1 58)) 116 3736)).getD 2 default))
  (i1:=tj (am (codeOf Tryz.f81) 1 6)) (i2:=tj (am (codeOf Tryz.f81) 1 28)) (i3:=tj (am (c4 (am (codeOf Tryz.f81) 1 58)) 116 232)) (i4:=tj (am (c4 (am (codeOf Tryz.f81) 1 58)) 116 3736)) (BB:=(am (c4 (am (codeOf Tryz.f81) 1 58)) 116 3737)) (r8:=(am (c4 (am (codeOf Tryz.f81) 1 58)) 116 935)) (E:=(am (codeOf Tryz.f81) 1 15)) (p3:=232) (pB:=3737) (p8:=935) (pE:=15) (g0:=128) (g1:=129) (g2:=130) (g3:=132) (c0:=fun ps=>ta (((ps,()),()),())) (c1:=fun ps=>s' (((ps,()),()),())) (c2:=fun ps=>s_ (((ps,()),()),())) (c3:=fun ps=>s9 (((ps,()),()),())) (mk:=qT) ac3
  {rj:=(by kernel_rfl),LS:=(by kernel_rfl),aV:=⟨(by kernel_rfl),(by kernel_rfl),(by kernel_rfl),(by kernel_rfl),(by kernel_rfl),(by kernel_rfl),(by kernel_rfl),(by kernel_rfl),(by kernel_rfl),(by kernel_rfl),(by kernel_rfl),(by kernel_rfl)⟩,Ns:=⟨(by kernel_rfl),(by kernel_rfl)⟩,on:=⟨(by kernel_rfl),(by kernel_rfl),(by kernel_rfl)⟩,DD:=⟨(by kernel_rfl),(by kernel_rfl),(by kernel_rfl)⟩,dst:=⟨(by kernel_rfl),(by kernel_rfl),(by kernel_rfl),(by kernel_rfl),(by kernel_rfl),(by kernel_rfl),(by kernel_rfl),(by kernel_rfl)⟩,KC:=(by decide),L0:=(by kernel_rfl),abG:=(by kernel_rfl),abF:=(by kernel_rfl),wr:=(by kernel_rfl),awp:=(by kernel_rfl),
   kI:=⟨(fun f hf=>by cases hf),lh (by kernel_rfl) ae,lh (by kernel_rfl) ae,lh (by kernel_rfl) ae⟩,hos:=(fun _ _=>rfl),aC:=(fun ps=>by kernel_rfl),wN:=(fun ps k i=>by kernel_rfl),hlt:=(fun ps k i=>by kernel_rfl),
   hB:=(fun gc h=>by
    simp only[List.mem_cons,List.not_mem_nil,or_false] at h;rcases h with rfl|rfl|rfl|rfl
    ·exact ap1
    ·exact ap0
    ·exact apZ
    ·exact apY),
   h8:=(fun ps k i=>by kernel_rfl),hE:=(fun ps k i=>by kernel_rfl)} (fun ps=>rfl) (by kernel_rfl)
abbrev i81:Shape:=⟨[aI 0 .pack],[],24⟩
abbrev aa0:Shape:=⟨[ag 2],[],24⟩
noncomputable def f81(a:i81.J):Option aa0.J:=
(J8 (((),()),(a.1.1,()),())).bind fun b=>
 some ((b.1.1,()),())
noncomputable def acC:aD:=aG ad Tryz.f81 i81 aa0 [] f81
theorem avU:aA O 81 acC:=aK ac3 Tryz.func81 (by kernel_rfl) (a7 aqj ae) (fun y=>by kernel_rfl) fun a=>by kernel_rfl
noncomputable abbrev azp:a_:=[(81,acC)]
theorem azT:aQ O (aW ad azp):=aV ⟨avU,⟨⟩⟩
abbrev i43:Shape:=⟨[b_ 0 [bn .pack]],[],7⟩
abbrev abj:Shape:=⟨[ao 2],[],7⟩
noncomputable def f43(a:i43.J):Option abj.J:=
(f81 ((a.1.1.1,()),())).bind fun b=>
 some (((b.1.1==(0:Int)),()),())
noncomputable def Eb:aD:=aG ad Tryz.f43 i43 abj [] f43
theorem LL:aA O 43 Eb:=aK azT Tryz.func43 (by kernel_rfl) ae (fun y=>by kernel_rfl) fun a=>by kernel_rfl
theorem Q1(a)(hs:cj a.1.1.length):(∃(k:Nat) (q:aL),f160 a=some (((k:Int),()),())/\a.1.1[k]? =some q/\a.1.1.find? (fun p=>p.name==a.1.2.1)=some q)\/
  (f160 a=some ((((-1):Int),()),())/\a.1.1.find? (fun p=>p.name==a.1.2.1)=none):=by
 obtain⟨⟨ps,name,u⟩,bV⟩:=a;have hs:ps.length<=2097152:=hs;have key:∀(r:List aL) (k:Nat),ps.drop k=r->k<=ps.length->(∃(j:Nat) (q:aL),sJ ((ps,(name,((k:Int),()))),())=some (.inl (((j:Int),()),()))/\ps[j]? =some q/\r.find? (fun p=>p.name==name)=some q)\/
   (sJ ((ps,(name,((k:Int),()))),())=some (.inr ((),()))/\r.find? (fun p=>p.name==name)=none):=by
  intro r;induction r with
  |nil=>
   intro k hr hk;have:=drop_nil hr;have d1:decide ((k:Int)<(ps.length:Int))=false:=by simp only[decide_eq_false_iff_not];omega
   refine .inr ⟨cp ?_,rfl⟩;simp only[A7,d1,cond_false]
  |cons q r ih=>
   intro k hr hk;obtain⟨c1,c2,c3⟩:=drop_cons hr;have hw:ar k:=by unfold ar;omega
   have step:A7 ((ps,(name,((k:Int),()))),())=some (bif q.name==name then .inr (.inl (((k:Int),()),())) else .inl ((ps,(name,(((k+1:Nat):Int),()))),())):=by
    simp only[A7,ce c3,cond_true,b4,c1,Option.bind_some,bU hw];cases (q.name==name)<;>rfl
   cases az:(q.name==name) with
   |true=>
    rw[az,cond_true] at step;exact .inl ⟨k,q,cp step,c1,by simp[List.find?_cons,az]⟩
   |false=>
    rw[az,cond_false] at step;rcases ih (k+1) c2 c3 with⟨j,fx,h1,h2,h3⟩|⟨h1,h2⟩
    ·exact .inl ⟨j,fx,(dN step).trans h1,h2,by simp[List.find?_cons,az];exact h3⟩
    ·exact .inr ⟨(dN step).trans h1,by simp only[List.find?_cons,az];exact h2⟩
 rcases key ps 0 rfl (Nat.zero_le _) with⟨j,q,h1,h2,h3⟩|⟨h1,h2⟩
 ·have h1:sJ ((ps,(name,((0:Int),()))),())=some (.inl (((j:Int),()),())):=h1;exact .inl ⟨j,q,by simp only[f160,h1,Option.bind_some],h2,h3⟩
 ·have h1:sJ ((ps,(name,((0:Int),()))),())=some (.inr ((),())):=h1;exact .inr ⟨by simp only[f160,h1,Option.bind_some],h2⟩
abbrev lX(ps:List aL):Prop:=∀p,p∈ps->p.aX.length<=2097151/\∀n,n∈p.bi->n.aX.length<=2097151
def iC(ps:List aL)(n:bv):Bool:=match ps.find? (fun q=>q.name==n.name) with
 |some q=>tv n q.aX
 |none=>false
def jO(ps:List aL)(n:bv):Bool:=ps.any fun q=>ly n q.name q.aX
theorem PE(a)(hb:gp a.1.1)(hv:lX a.1.1):f110 a=some ((a.1.1.all (fun p=>p.bi.all (iC a.1.1)),()),()):=by
 obtain⟨⟨ps,u⟩,bV⟩:=a;have hl:ps.length<=2097152:=hb.1;have inner:∀(i:Nat) (p:aL),ps[i]? =some p->FQ ((ps,((i:Int),((0:Int),()))),())=some (bif p.bi.all (iC ps) then .inr ((ps,((i:Int),())),()) else .inl ((false,()),())):=by
  intro i p hp;have ue:=List.mem_of_getElem? hp;have DU:p.bi.length<=2097152:=(hb.2 p ue).2.2.1.1;have:=fV y7 p.bi (fun k=>((ps,((i:Int),((k:Int),()))),())) (fun _ n=>iC ps n) (.inl ((false,()),())) (.inr ((ps,((i:Int),())),())) (fun k n hn=>?_) ?_
  ·have:=this;rw[gR] at this;exact this
  ·have hk:=cT hn;have hw:ar k:=by unfold ar;omega
   have kT:=List.mem_of_getElem? hn;have h8:=Q1 ((ps,(n.name,())),()) hl;simp only[y7,b4,hp,Option.bind_some,ce hk,cond_true,hn];rcases h8 with⟨j,q,h1,h2,h3⟩|⟨h1,h2⟩
   ·have h2:ps[j]? =some q:=h2;have h3:ps.find? (fun p=>p.name==n.name)=some q:=h3
    have az:=hv q (List.mem_of_getElem? h2);have hf:=ajg (((n.name,(n.kind,(n.aX,()))),(n.name,(q.aX,()))),()) ((hv p ue).2 n kT) az.1 rfl;have hj:decide ((j:Int)<0)=false:=by simp only[decide_eq_false_iff_not];omega
    simp only[h1,Option.bind_some,yp,hj,cond_false,b4,h2,hf,iC,h3,bU hw];cases tv n q.aX<;>rfl
   ·have h2:ps.find? (fun p=>p.name==n.name)=none:=h2
    have hj:decide ((-1:Int)<0)=true:=rfl;simp only[h1,Option.bind_some,yp,hj,cond_true,iC,h2,cond_false]
  ·simp only[y7,b4,hp,Option.bind_some,du,cond_false]
 have key:IB ((ps,((0:Int),())),())=some (bif allI (fun _ p=>p.bi.all (iC ps)) 0 ps then .inr ((),()) else .inl ((false,()),())):=by
  refine fV Bd ps (fun i=>((ps,((i:Int),())),())) _ _ _ (fun i x hx=>?_) ?_
  ·have hi:=cT hx;have hw:ar i:=by unfold ar;omega
   simp only[Bd,ce hi,cond_true,inner i x hx,Option.bind_some];cases x.bi.all (iC ps)
   ·rfl
   ·simp only[cond_true,bU hw]
  ·simp only[Bd,du,cond_false]
 rw[gR] at key;simp only[f110,key,Option.bind_some];cases List.all ps (fun p=>p.bi.all (iC ps))<;>rfl
theorem aeH(a)(hb:gp a.1.1)(hv:lX a.1.1):f131 a=some ((a.1.1.all (fun p=>p.bi.all (jO a.1.1)),()),()):=by
 obtain⟨⟨ps,u⟩,bV⟩:=a;have hl:ps.length<=2097152:=hb.1;have hcon:∀n:bv,cj n.name.length->n.aX.length<=2097151->Ce ((ps,(((n.name,(n.kind,(n.aX,()))),()),())),())=some ((jO ps n,()),()):=by
  intro n hn1 axE;have key:∀(r:List aL) (k:Nat),ps.drop k=r->k<=ps.length->∃z:Int,(ss ((ps,(((n.name,(n.kind,(n.aX,()))),()),((ps.length:Int),((k:Int),())))),())).bind (fun aqg=>(match aqg with
    |.inl aqf=>some ((aqf.1.1,()),())
    |.inr aBr=>some ((((-1):Int),()),()):Option Jq.J))=some ((z,()),())/\decide (z>=0)=r.any (fun q=>ly n q.name q.aX):=by
   intro r;induction r with
   |nil=>
    intro k hr hk;have:=drop_nil hr;have d1:decide ((k:Int)<(ps.length:Int))=false:=by simp only[decide_eq_false_iff_not];omega
    have:ss ((ps,(((n.name,(n.kind,(n.aX,()))),()),((ps.length:Int),((k:Int),())))),())=some (.inr ((),())):=by
     refine cp ?_
     simp only[y1,d1,cond_false]
    exact⟨-1,by rw[this];rfl,rfl⟩
   |cons q r ih=>
    intro k hr hk;obtain⟨c1,c2,c3⟩:=drop_cons hr;have hw:ar k:=by unfold ar;omega
    have az:=hv q (List.mem_of_getElem? c1);have hf:=ags (((n.name,(n.kind,(n.aX,()))),(q.name,(q.aX,()))),()) hn1 axE az.1;have step:y1 ((ps,(((n.name,(n.kind,(n.aX,()))),()),((ps.length:Int),((k:Int),())))),())=some (bif ly n q.name q.aX then .inr (.inl (((k:Int),()),())) else .inl ((ps,(((n.name,(n.kind,(n.aX,()))),()),((ps.length:Int),(((k+1:Nat):Int),())))),())):=by
     simp only[y1,ce c3,cond_true,b4,c1,Option.bind_some,JN,hf,bU hw];cases ly n q.name q.aX<;>rfl
    rw[List.any_cons];cases ab7:ly n q.name q.aX with
    |true=>
     rw[ab7,cond_true] at step;exact⟨k,by rw[show ss _=_ from cp step];rfl,by simp⟩
    |false=>
     rw[ab7,cond_false] at step;obtain⟨z,h1,h2⟩:=ih (k+1) c2 c3;exact⟨z,by rw[show ss _=_ from dN step];exact h1,by rw[h2];rfl⟩
  obtain⟨z,h1,h2⟩:=key ps 0 rfl (Nat.zero_le _);have h3:Cd ((ps,(((n.name,(n.kind,(n.aX,()))),()),())),())=some ((z,()),()):=by
   simp only[Cd];exact h1
  simp only[Ce,h3,Option.bind_some,h2,jO]
 have inner:∀(i:Nat) (p:aL),ps[i]? =some p->FN ((ps,(ps,((ps.length:Int),((i:Int),(p.bi,((p.bi.length:Int),((0:Int),()))))))),())=some (bif p.bi.all (jO ps) then .inr ((ps,(ps,((ps.length:Int),((i:Int),())))),()) else .inl ((false,()),())):=by
  intro i p hp;have ue:=List.mem_of_getElem? hp;have DU:p.bi.length<=2097152:=(hb.2 p ue).2.2.1.1;have:=fV y5 p.bi (fun k=>((ps,(ps,((ps.length:Int),((i:Int),(p.bi,((p.bi.length:Int),((k:Int),()))))))),())) (fun _ n=>jO ps n) (.inl ((false,()),())) (.inr ((ps,(ps,((ps.length:Int),((i:Int),())))),())) (fun k n hn=>?_) ?_
  ·have:=this;rw[gR] at this;exact this
  ·have hk:=cT hn;have hw:ar k:=by unfold ar;omega
   have kT:=List.mem_of_getElem? hn;have hc:=hcon n ((hb.2 p ue).2.2.1.2 n kT).1 ((hv p ue).2 n kT);simp only[y5,ce hk,cond_true,b4,hn,Option.bind_some,hc,bU hw];cases jO ps n<;>rfl
  ·simp only[y5,du,cond_false]
 have key:Iz ((ps,(ps,((ps.length:Int),((0:Int),())))),())=some (bif allI (fun _ p=>p.bi.all (jO ps)) 0 ps then .inr ((),()) else .inl ((false,()),())):=by
  refine fV Bb ps (fun i=>((ps,(ps,((ps.length:Int),((i:Int),())))),())) _ _ _ (fun i x hx=>?_) ?_
  ·have hi:=cT hx;have hw:ar i:=by unfold ar;omega
   simp only[Bb,ce hi,cond_true,b4,hx,inner i x hx,Option.bind_some];cases x.bi.all (jO ps)
   ·rfl
   ·simp only[cond_true,bU hw]
  ·simp only[Bb,du,cond_false]
 rw[gR] at key;simp only[f131,key,Option.bind_some];cases List.all ps (fun p=>p.bi.all (jO ps))<;>rfl
theorem ai6:∀ps:List aL,(∀i y,ps[i+1]? =some y->nc ps i y=true)->ps.Pairwise fun p q=>Op.bytesLess p.name q.name=true:=by
 intro ps;induction ps with
 |nil=>intro _;exact List.Pairwise.nil
 |cons x r ih=>
  intro h;have hr:=ih (fun i y hy=>by
   have:=h (i+1) y (by simpa using hy)
   unfold nc at this ⊢;simpa using this)
  refine List.pairwise_cons.2 ⟨fun y hy=>?_,hr⟩
  cases r with
  |nil=>cases hy
  |cons z r=>
   have hz:Op.bytesLess x.name z.name=true:=by
    have:=h 0 z rfl;unfold nc at this;simpa using this
   rcases List.mem_cons.1 hy with rfl|hy
   ·exact hz
   ·exact vl _ _ _ hz ((List.pairwise_cons.1 hr).1 y hy)
theorem ans{ps:List aL}(h:kM ps=true):ps.Pairwise fun p q=>Op.bytesLess p.name q.name=true:=by
 refine ai6 ps (fun i y hy=>?_)
 have:=zR ps.tail 0 h i y (by rw[List.getElem?_tail];exact hy)
 rwa[Nat.zero_add] at this
theorem afS:∀(ps:List aL) (n:bv),(∀p,p∈ps->ej p.aX=true)->dC n=true->ps.Pairwise (fun p q=>Op.bytesLess p.name q.name=true)->jO ps n=iC ps n:=by
 intro ps n;induction ps with
 |nil=>intro _ _ _;rfl
 |cons q r ih=>
  intro hv hn hp;have DT:=List.pairwise_cons.1 hp;have ih:=ih (fun p h=>hv p (List.mem_cons_of_mem _ h)) hn DT.2
  unfold jO iC at ih ⊢;rw[List.any_cons,List.find?_cons];cases az:(q.name==n.name) with
  |true=>
   have hno:r.any (fun q=>ly n q.name q.aX)=false:=by
    rw[List.any_eq_false];intro p axx;have h1:=DT.1 p axx;rw[eq_of_beq az] at h1;have:(p.name==n.name)=false:=by
     cases h:(p.name==n.name) with
     |false=>rfl
     |true=>rw[eq_of_beq h,v8] at h1;cases h1
    unfold ly;rw[this];simp
   rw[hno];unfold ly;rw[hv q List.mem_cons_self,hn,az];simp
  |false=>
   have:ly n q.name q.aX=false:=by unfold ly;rw[az];simp
   rw[this,Bool.false_or];exact ih
def fe(ps:List aL):Bool:=ps.all ch&&kM ps&&decide (ps.length<=5)&&ps.all (fun p=>p.bi.all (iC ps))&&(fu [] ps).isSome
def jS(ps:List aL):Int:=bif ps.all ch&&kM ps then(bif decide (ps.length<=5) then(bif ps.all (fun p=>p.bi.all (iC ps)) then(bif(fu [] ps).isSome then 0 else 5) else 4) else 6) else 1
theorem afG(ps:List aL):fe ps=(jS ps==0):=by
 unfold fe jS;cases ps.all ch<;>cases kM ps<;>cases decide (ps.length<=5)<;>cases ps.all (fun p=>p.bi.all (iC ps))<;>cases (fu [] ps).isSome<;>rfl
theorem ahk{aH:Type}(ok:Nat->aH->Bool):∀(xs:List aH) (j:Nat),allI ok (j+1) xs=allI (fun i=>ok (i+1)) j xs:=by
 intro xs;induction xs with
 |nil=>intro j;rfl
 |cons x r ih=>intro j;simp only[allI,ih]
def tX(ps:List aL)(i:Nat)(x:aL):Bool:=ch x&&(i==0||nc ps (i-1) x)
theorem S_(ps:List aL):allI (tX ps) 0 ps=(ps.all ch&&kM ps):=by
 unfold tX;rw[G',gR];congr 1
 unfold kM;cases ps with
 |nil=>rfl
 |cons x r=>
  simp only[allI,beq_self_eq_true,Bool.true_or,Bool.true_and,List.tail_cons];rw[ahk];refine Pz r 0 (fun i y _ _=>?_)
  have:(i+1==0)=false:=rfl;rw[this,Bool.false_or,Nat.add_sub_cancel]
theorem za(a)(hb:gp a.1.1.1)(hv:lX a.1.1.1):f30 a=some ((fe a.1.1.1,()),()):=by
 obtain⟨⟨⟨ps,u⟩,bV⟩,nr⟩:=a;have hl:ps.length<=2097152:=hb.1;have key:BT ((ps,((0:Int),())),())=some (bif allI (tX ps) 0 ps then .inr ((ps,()),()) else .inl (((1:Int),()),())):=by
  refine fV qP ps (fun i=>((ps,((i:Int),())),())) _ _ _ (fun i x hx=>?_) ?_
  ·have hi:=cT hx;have hw:ar i:=by unfold ar;omega
   have pV:=hb.2 x (List.mem_of_getElem? hx);simp only[qP,ce hi,cond_true,AV,b4,hx,Option.bind_some];rw[vf _ pV];simp only[Option.bind_some,tX,Da];cases ch x with
   |false=>rfl
   |true=>
    simp only[Bool.not_true,cond_false,Bool.true_and,nc];cases i with
    |zero=>simp only[beq_self_eq_true,Bool.not_true,cond_false,Option.bind_some,Bool.true_or,cond_true,bU hw]
    |succ i=>
     have h0:(i+1==0)=false:=rfl;have jz:i<ps.length:=by omega
     obtain⟨q,az⟩:∃q,ps[i]? =some q:=⟨ps[i],List.getElem?_eq_getElem jz⟩;simp only[h0,Bool.not_false,cond_true,u3 (i:=i) (by unfold ar;omega),b4,az,hx,Option.bind_some,Bool.false_or,Nat.add_sub_cancel]
     cases Op.bytesLess q.name x.name with
     |false=>rfl
     |true=>simp only[Bool.not_true,cond_false,cond_true,bU hw]
  ·simp only[qP,du,cond_false]
 rw[S_] at key;have bk:decide ((ps.length:Int)>5)=!decide (ps.length<=5):=by by_cases h:ps.length<=5<;>simp only[h,decide_true,decide_false,Bool.not_true,Bool.not_false,decide_eq_true_eq,decide_eq_false_iff_not]<;>omega
 simp only[f30,f60,key,Option.bind_some,fe];cases dY:(ps.all ch&&kM ps) with
 |false=>rfl
 |true=>
  have hk:ps.all ch=true:=by simp only[Bool.and_eq_true] at dY;exact dY.1
  obtain⟨out,au⟩:=QZ ((ps,()),()) hb hk;have hn:=PE ((ps,()),()) hb hv;simp only[cond_true,Option.bind_some,au,bk,Bool.true_and];cases decide (ps.length<=5) with
  |false=>rfl
  |true=>
   simp only[Bool.not_true,cond_false,hn,Option.bind_some,Bool.true_and];cases ps.all (fun p=>p.bi.all (iC ps))<;>cases (fu [] ps).isSome<;>rfl
theorem agi(a)(hb:gp a.1.1)(hv:lX a.1.1):f81 a=some ((jS a.1.1,()),()):=by
 obtain⟨⟨ps,u⟩,bV⟩:=a;have hl:ps.length<=2097152:=hb.1;have e1:=ahA ((ps,((),())),()) hb;have e2:=ael ((ps,()),()) hl;have bC:=aeH ((ps,()),()) hb hv;have bk:decide ((ps.length:Int)>5)=!decide (ps.length<=5):=by by_cases h:ps.length<=5<;>simp only[h,decide_true,decide_false,Bool.not_true,Bool.not_false,decide_eq_true_eq,decide_eq_false_iff_not]<;>omega
 have c0:ta (((ps,()),()),())=some (((bif ps.all ch&&kM ps then(0:Int) else 1),()),()):=by
  simp only[ta,F1,e1,Bool.not_not,Option.bind_some];cases ps.all ch with
  |false=>rfl
  |true=>simp only[cond_true,e2,Option.bind_some,Bool.true_and];cases kM ps<;>rfl
 have c1:s' (((ps,()),()),())=some (((bif decide (ps.length<=5) then(0:Int) else 6),()),()):=by
  simp only[s',bk];cases decide (ps.length<=5)<;>rfl
 have c2:s_ (((ps,()),()),())=some (((bif ps.all (fun p=>p.bi.all (jO ps)) then(0:Int) else 4),()),()):=by
  simp only[s_,bC,Option.bind_some];cases ps.all (fun p=>p.bi.all (jO ps))<;>rfl
 have c3:ps.all ch=true->s9 (((ps,()),()),())=some (((bif(fu [] ps).isSome then(0:Int) else 5),()),()):=by
  intro hk;obtain⟨out,au⟩:=afs ((ps,()),()) hb hk;simp only[s9,au,Option.bind_some];cases (fu [] ps).isSome<;>rfl
 have z:∀n:Int,((n:Int) !=0)=!(n==0):=fun n=>rfl
 simp only[f81,J8,qR,c0,c1,c2,qT,Option.bind_some,jS];cases dY:(ps.all ch&&kM ps) with
 |false=>rfl
 |true=>
  simp only[Bool.and_eq_true] at dY;have aoT:ps.all (fun p=>p.bi.all (jO ps))=ps.all (fun p=>p.bi.all (iC ps)):=by
   rw[Bool.eq_iff_iff];simp only[List.all_eq_true];have hvs:∀p,p∈ps->ej p.aX=true:=fun p hp=>by
    have:=List.all_eq_true.1 dY.1 p hp;unfold ch at this;simp only[Bool.and_eq_true] at this;exact this.1.1.2
   have hns:∀p,p∈ps->∀n,n∈p.bi->jO ps n=iC ps n:=fun p hp n hn=>by
    have:=List.all_eq_true.1 dY.1 p hp;unfold ch qG at this;simp only[Bool.and_eq_true] at this;exact afS ps n hvs (List.all_eq_true.1 this.1.2.1.1 n hn) (ans dY.2)
   constructor
   ·intro h p hp n hn;rw[<-hns p hp n hn];exact h p hp n hn
   ·intro h p hp n hn;rw[hns p hp n hn];exact h p hp n hn
  rw[aoT,c3 dY.1];cases decide (ps.length<=5)<;>cases ps.all (fun p=>p.bi.all (iC ps))<;>cases (fu [] ps).isSome<;>rfl
theorem Fl(a)(hb:gp a.1.1.1)(hv:lX a.1.1.1):f43 a=some ((fe a.1.1.1,()),()):=by
 obtain⟨⟨⟨ps,u⟩,bV⟩,nr⟩:=a;have e:=agi ((ps,()),()) hb hv;simp only[f43,e,Option.bind_some,afG]
abbrev i217:Shape:=⟨[(0,.an (.d (.int .u32))),ag 1],[],17⟩
abbrev XN:Shape:=⟨[(4,.an (.d (.int .u32)))],[],17⟩
noncomputable def f217(a:i217.J):Option XN.J:=
(lD .u32 a.1.1 (eF .u64 (IntKind.u64.wrap a.1.2.1) (31:Int))).bind fun b=>
(fh .u32 a.1.1 (IntKind.u64.wrap ((32:Int)-(eF .u64 (IntKind.u64.wrap a.1.2.1) (31:Int))))).bind fun c=>
 some (((h4 .u32 b c),()),())
noncomputable def Z6:aD:=aG ad Tryz.f217 i217 XN [] f217
theorem arC:aA O 217 Z6:=aK g0 Tryz.func217 (by kernel_rfl) ae (fun y=>by kernel_rfl) fun a=>by kernel_rfl
noncomputable abbrev aup:a_:=[(217,Z6)]
theorem avu:aQ O (aW ad aup):=aV ⟨arC,⟨⟩⟩
abbrev i171:Shape:=⟨[(0,.an (.d (.int .u32))),ag 1],[],9⟩
abbrev Yi:Shape:=⟨[(4,.an (.d (.int .u32)))],[],9⟩
noncomputable def f171(a:i171.J):Option Yi.J:=
(f217 ((a.1.1,(IntKind.i64.wrap (0-a.1.2.1)),()),())).bind fun b=>
 some ((b.1.1,()),())
noncomputable def _t:aD:=aG ad Tryz.f171 i171 Yi [] f171
theorem z171:aA O 171 _t:=aK avu Tryz.func171 (by kernel_rfl) ae (fun y=>by kernel_rfl) fun a=>by kernel_rfl
abbrev i278:Shape:=⟨[(0,.an (.d (.int .u32))),ag 1],[],13⟩
abbrev Xo:Shape:=⟨[(4,.an (.d (.int .u32)))],[],13⟩
noncomputable def f278(a:i278.J):Option Xo.J:=
(fh .u32 a.1.1 a.1.2.1).bind fun b=>
(lD .u32 a.1.1 (IntKind.i64.wrap ((32:Int)-a.1.2.1))).bind fun c=>
 some (((h4 .u32 b c),()),())
noncomputable def K9:aD:=aG ad Tryz.f278 i278 Xo [] f278
theorem WU:aA O 278 K9:=aK g0 Tryz.func278 (by kernel_rfl) ae (fun y=>by kernel_rfl) fun a=>by kernel_rfl
noncomputable abbrev atJ:a_:=[(278,K9)]
theorem Lt:aQ O (aW ad atJ):=aV ⟨WU,⟨⟩⟩
abbrev z6:Shape:=⟨[aI 0 .u8,ba 3 3000192,ag 4],[a' 3000192 .u32 3 0],100⟩
abbrev Hq:List aP:=[(.exit 0,⟨[ba 3 3000192],[a' 3000192 .u32 3 0],100⟩)]
noncomputable def IM(y:z6.J):bG z6 Hq:=
 bif(decide (y.1.2.2.1<(16:Int))) then
(aO y.1.1 (IntKind.i64.wrap ((4:Int)*y.1.2.2.1))).bind fun a=>
(lD .u32 (IntKind.u32.wrap a) (24:Int)).bind fun b=>
(aO y.1.1 (IntKind.i64.wrap ((IntKind.i64.wrap ((4:Int)*y.1.2.2.1))+(1:Int)))).bind fun c=>
(lD .u32 (IntKind.u32.wrap c) (16:Int)).bind fun d=>
(aO y.1.1 (IntKind.i64.wrap ((IntKind.i64.wrap ((4:Int)*y.1.2.2.1))+(2:Int)))).bind fun e=>
(lD .u32 (IntKind.u32.wrap e) (8:Int)).bind fun f=>
(aO y.1.1 (IntKind.i64.wrap ((IntKind.i64.wrap ((4:Int)*y.1.2.2.1))+(3:Int)))).bind fun g=>
(b9 4 y.2.1 ([(h4 .u32 (h4 .u32 (h4 .u32 b d) f) (IntKind.u32.wrap g))]:List Int)).bind fun h=>
 some (.inl ((y.1.1,(),(IntKind.i64.wrap (y.1.2.2.1+(1:Int))),()),h,()))
else
 some (.inr (((),()),y.2.1,()))
noncomputable def Ig:z6.J->Option (aB Hq):=br IM
theorem alU:aS O (am (codeOf Tryz.f276) 1 58) (aU z6 Hq Ig):=bH Lt (by kernel_rfl) ae fun y=>by kernel_rfl
abbrev zj:Shape:=⟨[ba 3 3000192,ag 5],[a' 3000192 .u32 3 0],100⟩
abbrev Gg:List aP:=[(.exit 2,⟨[ba 3 3000192],[a' 3000192 .u32 3 0],100⟩)]
noncomputable def G1(y:zj.J):bG zj Gg:=
 bif(decide (y.1.2.1<(64:Int))) then
(be y.2.1.length (IntKind.i64.wrap (y.1.2.1-(15:Int)))).bind fun a=>
(y.2.1[a]?).bind fun b=>
(be y.2.1.length (IntKind.i64.wrap (y.1.2.1-(2:Int)))).bind fun c=>
(y.2.1[c]?).bind fun d=>
(f278 ((b,(7:Int),()),())).bind fun e=>
(f278 ((b,(18:Int),()),())).bind fun f=>
(fh .u32 b (3:Int)).bind fun g=>
(f278 ((d,(17:Int),()),())).bind fun h=>
(f278 ((d,(19:Int),()),())).bind fun i=>
(fh .u32 d (10:Int)).bind fun j=>
(be y.2.1.length (IntKind.i64.wrap (y.1.2.1-(16:Int)))).bind fun k=>
(y.2.1[k]?).bind fun l=>
(be y.2.1.length (IntKind.i64.wrap (y.1.2.1-(7:Int)))).bind fun m=>
(y.2.1[m]?).bind fun n=>
(b9 4 y.2.1 ([(IntKind.u32.wrap ((IntKind.u32.wrap ((IntKind.u32.wrap (l+(dl .u32 (dl .u32 e.1.1 f.1.1) g)))+n))+(dl .u32 (dl .u32 h.1.1 i.1.1) j)))]:List Int)).bind fun D=>
 some (.inl (((),(IntKind.i64.wrap (y.1.2.1+(1:Int))),()),D,()))
else
 some (.inr (((),()),y.2.1,()))
noncomputable def GI:zj.J->Option (aB Gg):=br G1
theorem aj0:aS O (am (codeOf Tryz.f276) 1 122) (aU zj Gg GI):=bH Lt (by kernel_rfl) ae fun y=>by kernel_rfl
abbrev i276:Shape:=⟨[aI 0 .u8],[],100⟩
abbrev Xq:Shape:=⟨[ba 2 3000128],[a' 3000128 .u32 2 0],100⟩
noncomputable def f276(a:i276.J):Option Xq.J:=
(jY 4 (0:Int) (64:Int) (0:Int)).bind fun b=>
(Ig ((a.1.1,(),(0:Int),()),b,())).bind fun c=>
(GI (((),(16:Int),()),c.2.1,())).bind fun d=>
 some (((),()),d.2.1,())
noncomputable def ZL:aD:=aG ad Tryz.f276 i276 Xq [] f276
theorem arl:aA O 276 ZL:=aK Lt Tryz.func276 (by kernel_rfl) (a7 alU (a7 aj0 ae)) (fun y=>by kernel_rfl) fun a=>by kernel_rfl
end Go.Proofs
