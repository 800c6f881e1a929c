/- disk.Blank. -/
import Derived.Test.YtjafmhgkfkfimaaGreatDoorEx3
import Derived.Shelf.Strings.Repeat
import Derived.KernelRfl
import Derived.Test.YtjafmhgkfkfimaaGreatDoorProg
import Derived.WalkKit
import Derived.BigCall
import Derived.Shelf.Strings.FuncGrows
import Derived.Shelf.Utf8.RuneCount
set_option linter.unusedVariables false
set_option linter.unusedSimpArgs false
namespace Go.AE
open Go
variable {P:Program}
def startS (H:Heap) (T:Nat) (args:List AV):St:={s:=fun t=>args.getD t (.c (.raw undef)),H:=H,T:=T}
def finG (P:Program) (fn:Func) (R:AV→Heap→Prop) (e:AEx) (st:St):Prop:=
 (match e with|.normal|.ret=>True|_=>False)∧∃res,resA P st fn.results.toList=some res∧R res st.H
theorem callK_gc {calm:Array Oper→Bool} (hcalm:CalmOK P calm) {f:FuncId} {fn:Func} {c:Code} {st:St} {dst:Option Nat} {args:List AV} {us:List (Id×OK)} {ret:AV} (hf:P.funcs[f]?=some fn) (hb:fn.body=some c)
  (hok:fnOK calm fn args.length=true) (hret:∀c∈ret.flat,RetC c) (hun:adUn (nmOf st dst) st.H 0 ret.flat) (hub:∀q∈us,q.2≠.unborn∧st.H q.1≠.unborn)
  (hcl:∀q∈us,∀e sz f rows,q.2=.arr e sz f rows→∀r∈rows,∀c∈r,∀id,idD id c→st.H id≠.unborn)
  (h:∀T,Fresh st.H T→awp P c (finG P fn fun res H=>exV H res ret∧(soIds res.flat).Nodup∧(∀id∈soIds res.flat,st.H id=.unborn)∧∀i,st.H i≠.unborn→H i=upH st.H us i) (startS st.H T args)) :
  CallK P st f args fun r H T=>r=ret.ad (nmOf st dst)∧H=adH (nmOf st dst) 0 ret.flat (upH st.H us)∧T=st.T:=by
 simp only [fnOK,hb,Bool.and_eq_true,decide_eq_true_eq,bne_iff_ne,ne_eq] at hok
 obtain ⟨⟨hname,hcode⟩,hle⟩:=hok
 refine ⟨by simp [okCall,hf,hb,hname],fun C ρ a w vs hr hsz hargs=>?_⟩
 obtain ⟨N,hN⟩:=hr.heap.fin
 let X:World→(Tag→Nat→Prop)→Heap→Lies→Prop:=fun w' F' H' ρ'=>Keeps w w' (Fr C st.H ρ) F' st.H H' ρ ρ'
 let C':Ctx P:=⟨C.w0,C.hI,C.G,X,fun k q=>q.trans k⟩
 have h0:Rel C' ρ (startS st.H N args) {tmps:=vs++Array.replicate (fn.ntmps-vs.size) undef,defers:=[]} w:=by
  refine ⟨hr.heap.ctx X _,fun t=>?_,rfl,Keeps.refl _ _ _ _⟩
  simp only [startS]
  by_cases ht:t<args.length
  ·have h1:args[t]?=some (args.getD t (.c (.raw undef))):=by simp [ht]
   have h2:(vs++Array.replicate (fn.ntmps-vs.size) undef).getD t undef=vs.getD t undef:=by
    simp [Array.getD_eq_getD_getElem?,Array.getElem?_append,show t<vs.size by omega]
   rw [h2];exact hargs t _ h1
  ·have h1:args.getD t (.c (.raw undef))=.c (.raw undef):=by simp [List.getD,List.getElem?_eq_none (Nat.le_of_not_lt ht)]
   have h2:(vs++Array.replicate (fn.ntmps-vs.size) undef).getD t undef=undef:=by
    simp only [Array.getD_eq_getD_getElem?,Array.getElem?_append,show ¬t<vs.size by omega,if_false,Array.getElem?_replicate]
    split<;>rfl
   rw [h1,h2];exact .c _ _ (.raw _)
 refine calls_of_wp hf hb (Code.wp_mono (fun e a' w' q=>?_) (awp_sound calm hcalm c fn.ntmps _ ρ (startS st.H N args) _ w hcode (by simp;omega) h0 (h N hN)))
 have fin:SemK C' fn.ntmps (fun st'=>∃res,resA P st' fn.results.toList=some res∧exV st'.H res ret∧(soIds res.flat).Nodup∧(∀id∈soIds res.flat,st.H id=.unborn)∧∀i,st.H i≠.unborn→st'.H i=upH st.H us i) a' w'→
   a'.defers=[]∧∃v,(results fn a'.tmps).run P w'=.ok v w'∧(∃v',Ending.returned v=.returned v'∧∃ρ' r H' T',Rel C ρ' (st.back H' T') a w'∧RelV w' (Fr C H' ρ') H' ρ' r v'∧
    r=ret.ad (nmOf st dst)∧H'=adH (nmOf st dst) 0 ret.flat (upH st.H us)∧T'=st.T):=
  fun ⟨_,ρ',st',hr',res,g1,g2,g3,g4,g5⟩=>by
   obtain ⟨v,h1,h2⟩:=resA_sound hr' g1
   obtain ⟨ρ2,k1,k2⟩:=gc hr (hr'.heap.unctx) hr'.ghost h2 hret g2 g3 g4 (nmOf st dst) (nmOf_inj st dst) hun g5 hub hcl
   exact ⟨hr'.nodef,v,h1,v,rfl,ρ2,_,_,_,k1,k2,rfl,rfl,rfl⟩
 cases e with
 |normal=>exact fin (SemK.mono q fun st hs=>hs.2)
 |ret=>exact fin (SemK.mono q fun st hs=>hs.2)
 |exit id=>
  obtain ⟨_,_,_,_,hs⟩:=q
  exact hs.1.elim
 |_=>exact q.elim
def mh1 (e sz:Nat) (g:List AC→List AV→Option (Prop×List AC×AV)):MH:=fun H args=>
 match args with
 |.c (.pt id 0 0)::rest=>match H id with
  |.arr e' sz' false [row]=>if e'=e∧sz'=sz then (g row rest).map fun r=>(r.1,[(id,.arr e sz false [r.2.1])],r.2.2) else none
  |_=>none
 |_=>none
def mhAt (e sz:Nat) (g:List AC→List AV→Option (Prop×List AC×AV)) (id:Id) (rest:List AV) (o:OK):Option (Prop×List (Id×OK)×AV):=
 match o with
 |.arr e' sz' false [row]=>if e'=e∧sz'=sz then (g row rest).map fun r=>(r.1,[(id,.arr e sz false [r.2.1])],r.2.2) else none
 |_=>none
@[simp] theorem mh1_go {e sz:Nat} {g:List AC→List AV→Option (Prop×List AC×AV)} {H:Heap} {id:Id} {rest:List AV}:mh1 e sz g H (.c (.pt id 0 0)::rest)=mhAt e sz g id rest (H id):=rfl
@[simp] theorem mhAt_go {e sz:Nat} {g:List AC→List AV→Option (Prop×List AC×AV)} {id:Id} {rest:List AV} {row:List AC}:mhAt e sz g id rest (.arr e sz false [row])=(g row rest).map fun r=>(r.1,[(id,.arr e sz false [r.2.1])],r.2.2):=by simp [mhAt]
theorem mh1_inv {e sz:Nat} {g:List AC→List AV→Option (Prop×List AC×AV)} {H:Heap} {args:List AV} {r} (h:mh1 e sz g H args=some r) :
  ∃id rest row q,args=.c (.pt id 0 0)::rest∧H id=.arr e sz false [row]∧g row rest=some q∧r=(q.1,[(id,.arr e sz false [q.2.1])],q.2.2):=by
 unfold mh1 at h
 split at h
 ·rename_i id rest
  split at h
  ·rename_i e' sz' row hid
   split at h
   ·rename_i he
    obtain ⟨rfl,rfl⟩:=he
    rw [Option.map_eq_some_iff] at h
    obtain ⟨q,hq,rfl⟩:=h
    exact ⟨id,rest,row,q,rfl,hid,hq,rfl⟩
   ·cases h
  ·cases h
 ·cases h
theorem mtells1 (hm:P.follows .mixedOrders=true) {F:CT} (hF:CTok P F) {f:FuncId} {fn:Func} {s:SC} {e sz:Nat} {g:List AC→List AV→Option (Prop×List AC×AV)} (hf:P.funcs[f]?=some fn) (hs:slimK fn.body s=some (unK s,true))
  (hok:fnOK calmB fn 0=true)
  (hlo:∀row rest q,g row rest=some q→Nat.ble (rest.length+1) fn.ntmps=true∧(∀c∈q.2.2.flat,RetC c)∧(∀c∈q.2.1,∀id,¬idD id c))
  (h:∀(H:Heap) (T:Nat) (id:Id) row rest q,H id=.arr e sz false [row]→Fresh H T→g row rest=some q→q.1→
   awpS P F s (finG P fn fun res H'=>exV H' res q.2.2∧(soIds res.flat).Nodup∧(∀i∈soIds res.flat,H i=.unborn)∧SameBut [id] H H'∧H' id=.arr e sz false [q.2.1]) (startS H T (.c (.pt id 0 0)::rest))) :
  MTells P f (mh1 e sz g):=by
 refine ⟨fun {H H' args r} hr hH=>?_,fun {H args C us ret} hr=>?_,fun {st dst args C us ret} hr hC hun=>?_⟩
 ·obtain ⟨id,rest,row,q,rfl,h2,h3,rfl⟩:=mh1_inv hr
  have h4:H' id=.arr e sz false [row]:=by rw [hH id ⟨_,List.mem_cons_self,by simp⟩ (by rw [h2];simp),h2]
  simp [h4,h3]
 ·obtain ⟨id,rest,row,q,rfl,h2,h3,h4⟩:=mh1_inv hr
  simp only [Prod.mk.injEq] at h4
  obtain ⟨_,rfl,_⟩:=h4
  intro p hp
  simp only [List.mem_singleton] at hp
  subst hp
  exact ⟨by simp,by rw [h2];simp,_,List.mem_cons_self,by simp⟩
 ·obtain ⟨id,rest,row,q,rfl,h2,h3,h4⟩:=mh1_inv hr
  simp only [Prod.mk.injEq] at h4
  obtain ⟨rfl,rfl,rfl⟩:=h4
  obtain ⟨l1,l2,l3⟩:=hlo row rest q h3
  cases hb:fn.body with
  |none=>rw [hb] at hs;cases hs
  |some c=>
   rw [hb] at hs
   simp only [slimK,Option.map_some,Option.some.injEq,Prod.mk.injEq] at hs
   refine callK_gc (calm_ok hm) hf hb ?_ l2 hun (fun p hp=>?_) (fun p hp e' sz' f' rows he r hr c hc id' hid'=>?_) fun T hT=>?_
   ·simp only [fnOK,hb,Bool.and_eq_true] at hok ⊢
    exact ⟨hok.1,by simpa using Nat.le_of_ble_eq_true l1⟩
   ·simp only [List.mem_singleton] at hp
    subst hp
    exact ⟨by simp,by rw [h2];simp⟩
   ·simp only [List.mem_singleton] at hp
    subst hp
    cases he
    simp only [List.mem_singleton] at hr
    subst hr
    exact (l3 c hc id' hid').elim
   ·refine awp_mono (fun e st' hq=>?_) (awpS_sound hF hs.1 hs.2 (h st.H T id row rest q h2 hT h3 hC))
    obtain ⟨q1,res,q2,q3,q4,q5,q6,q7⟩:=hq
    refine ⟨q1,res,q2,q3,q4,q5,fun i hi=>?_⟩
    simp only [upH]
    by_cases hid:i=id
    ·subst hid;simp [hset,q7]
    ·simp only [hset,if_neg hid]
     exact q6 i hi (by simpa using hid)
section
variable {st:St} {H:Heap} {T:Nat} {args:List AV} {k:Nat}
@[simp] theorem startS_s:(startS H T args).s k=args.getD k (.c (.raw undef)):=rfl
@[simp] theorem startS_H:(startS H T args).H=H:=rfl
@[simp] theorem startS_T:(startS H T args).T=T:=rfl
@[simp] theorem finG_ret {fn:Func} {R:AV→Heap→Prop}:finG P fn R .ret st=∃res,resA P st fn.results.toList=some res∧R res st.H:=by simp [finG]
@[simp] theorem finG_normal {fn:Func} {R:AV→Heap→Prop}:finG P fn R .normal st=∃res,resA P st fn.results.toList=some res∧R res st.H:=by simp [finG]
end
@[simp] theorem idD_raw {id:Id} {v:Value}:idD id (.raw v)↔False:=⟨(fun h=>nomatch h),(fun h=>h.elim)⟩
@[simp] theorem idD_str {id:Id} {l:List UInt8}:idD id (.str l)↔False:=⟨(fun h=>nomatch h),(fun h=>h.elim)⟩
theorem RetOK.noD {c:AC} (h:RetOK c) {id:Id}:¬idD id c:=by
 induction h with
 |raw v=>simp
 |str l=>simp
 |sl t cl xs ht h ih=>
  intro hi
  cases hi with
  |sl _ _ _ r c hr hc hi=>exact ih r hr c hc hi
@[simp] theorem idD_rows {α:Type} [Enc α] {id:Id} {t:Tag} {cl:Bool} {l:List α}:idD id (.sl t cl (rowsE l))↔False:=by
 refine ⟨fun h=>?_,fun h=>h.elim⟩
 cases h with
 |sl _ _ _ r c hr hc h=>
  simp only [rowsE,List.mem_map] at hr
  obtain ⟨a,_,rfl⟩:=hr
  exact (Enc.ret a c hc).noD h
theorem SameBut.ext {S:List Id} {H0 H:Heap} {T0 T:Nat} (h:ExtH S H0 T0 H T):SameBut S H0 H:=h.1
end Go.AE
set_option linter.unusedVariables false
namespace Go.AE
open Go
def bytesF:Nat→Nat→List UInt8
 |0,n=>[UInt8.ofNat n]
 |k+1,n=>if n<128 then [UInt8.ofNat n] else UInt8.ofNat (n%128+128)::bytesF k (n/128)
def bytesN (n:Nat):List UInt8:=bytesF 9 n
def takeF:Nat→Nat→Nat→List UInt8→Option (Nat×List UInt8)
 |0,_,_,_=>none
 |_+1,_,_,[]=>none
 |k+1,m,acc,b::s=>
  if 128≤b.toNat then takeF k (m*128) (acc+(b.toNat%128)*m) s
  else if 268435456<acc+(b.toNat%128)*m∨(1<m∧b.toNat=0) then none else some (acc+(b.toNat%128)*m,s)
def takeN (s:List UInt8):Option (Nat×List UInt8):=takeF 5 1 0 s
def takeR (s:List UInt8):Nat×List UInt8×Int:=match takeN s with|some (n,r)=>(n,r,0)|none=>(0,[],7)
def takeTextR (s:List UInt8):List UInt8×List UInt8×Int:=
 match takeN s with
 |some (n,r)=>if n≤r.length then (r.take n,r.drop n,0) else ([],[],7)
 |none=>([],[],7)
def ofF:Nat→List UInt8→Nat
 |h,[]=>h
 |h,b::s=>ofF ((h*263+b.toNat+7)%4294967291) s
def ofN (s:List UInt8):Nat:=ofF 1 s
def speltN (h:Nat):List UInt8:=[UInt8.ofNat (h/16777216),UInt8.ofNat (h/65536),UInt8.ofNat (h/256),UInt8.ofNat h]
def sealA (s:List UInt8):List UInt8:=if 700<s.length then [] else bytesN s.length++speltN (ofN (bytesN s.length++s))++s
def sealT (s:List UInt8):Option (List UInt8×List UInt8):=
 match takeN s with
 |some (n,r)=>if 700<n∨r.length<n+4 then none else
  if r.take 4=speltN (ofN (s.take (s.length-r.length)++(r.take (4+n)).drop 4)) then some ((r.take (4+n)).drop 4,r.drop (4+n)) else none
 |none=>none
instance encU8:Enc UInt8 where
 w:=1
 row b:=[.raw (.int .u8 b.toNat)]
 dec|[.raw (.int .u8 n)]=>if 0≤n∧n<256 then some (UInt8.ofNat n.toNat) else none|_=>none
 dec_row a:=by
  have:=a.toNat_lt
  simp
  omega
 row_dec {r a} h:=by
  split at h
  ·split at h
   ·rename_i n hn
    cases h
    simp
    omega
   ·cases h
  ·cases h
 len _:=rfl
 old a c hc:=by simp at hc;subst hc;exact .raw _
 ret a c hc:=by simp at hc;subst hc;exact .raw _
@[simp] theorem row_U8 (b:UInt8):Enc.row b=[AC.raw (.int .u8 b.toNat)]:=rfl
@[simp] theorem w_U8:Enc.w UInt8=1:=rfl
theorem bytesAC_snoc:∀(l:List UInt8) (v:Int),bytesAC (rowsE l++[[.raw (.int .u8 v)]])=some (l++[UInt8.ofNat v.toNat])
 |[],v=>rfl
 |b::l,v=>by
  show ((bytesAC (rowsE l++[[.raw (.int .u8 v)]])).map fun x=>UInt8.ofNat ((b.toNat:Int)).toNat::x)=_
  rw [bytesAC_snoc l v]
  simp
theorem bytesAC_rowsU:∀(l:List UInt8),bytesAC (rowsE l)=some l
 |[]=>rfl
 |b::l=>by
  show ((bytesAC (rowsE l)).map fun x=>UInt8.ofNat ((b.toNat:Int)).toNat::x)=_
  rw [bytesAC_rowsU l]
  simp
theorem rowsU8_snoc (l:List UInt8) (v:Int) (h0:0≤v) (h1:v<256):rowsE l++[[.raw (.int .u8 v)]]=rowsE (l++[UInt8.ofNat v.toNat]):=by
 rw [←rowsE_snoc]
 congr 1
 simp
 omega
theorem rowsU8_one (v:Int) (h0:0≤v) (h1:v<256):[[AC.raw (.int .u8 v)]]=rowsE [UInt8.ofNat v.toNat]:=by
 have:=rowsU8_snoc [] v h0 h1
 simpa using this
attribute [simp] bytesAC_snoc bytesAC_rowsU
theorem wrap8_id {n:Int} (h1:0≤n) (h2:n≤255):IntKind.wrap .u8 n=n:=by
 simp [IntKind.wrap,IntKind.bits,IntKind.signed]
 omega
theorem wrap8_mod {n:Int} (h1:0≤n):IntKind.wrap .u8 n=n%256:=by
 simp [IntKind.wrap,IntKind.bits,IntKind.signed]
theorem wrap32_mod {n:Int}:IntKind.wrap .u32 n=n%4294967296:=by
 simp [IntKind.wrap,IntKind.bits,IntKind.signed]
theorem wrap64u_mod {n:Int}:IntKind.wrap .u64 n=n%18446744073709551616:=by
 simp [IntKind.wrap,IntKind.bits,IntKind.signed]
end Go.AE
set_option maxRecDepth 100000
set_option maxHeartbeats 4000000
set_option linter.unusedVariables false
namespace Go.AE
open Go Go.Proofs
def kf3:List Nat:=[118,129,130,131,132,139,140,141]
def s3L0:SC:=(⟨_,by cbv⟩:{x//slB kf3 Tryz.f3.body [] 0=x}).1
def s3L1:SC:=(⟨_,fun a=>by cbv⟩:{x:SC→SC//∀a,slB kf3 Tryz.f3.body [a] 1=x a}).1 s3L0
def s3:SC:=(⟨_,fun a b=>by cbv⟩:{x:SC→SC→SC//∀a b,slW kf3 Tryz.f3.body [a,b]=x a b}).1 s3L0 s3L1
theorem sl3:slimK Tryz.f3.body s3=some (unK s3,true):=by kernel_rfl
theorem ok3:fnOK calmB Tryz.f3 0=true:=by kernel_rfl
def s4L0:SC:=(⟨_,by cbv⟩:{x//slB kf3 Tryz.f4.body [] 0=x}).1
def s4L1:SC:=(⟨_,fun a=>by cbv⟩:{x:SC→SC//∀a,slB kf3 Tryz.f4.body [a] 1=x a}).1 s4L0
def s4L2:SC:=(⟨_,fun a b=>by cbv⟩:{x:SC→SC→SC//∀a b,slB kf3 Tryz.f4.body [a,b] 2=x a b}).1 s4L0 s4L1
def s4:SC:=(⟨_,fun a b c=>by cbv⟩:{x:SC→SC→SC→SC//∀a b c,slW kf3 Tryz.f4.body [a,b,c]=x a b c}).1 s4L0 s4L1 s4L2
theorem sl4:slimK Tryz.f4.body s4=some (unK s4,true):=by kernel_rfl
theorem ok4:fnOK calmB Tryz.f4 0=true:=by kernel_rfl
def s5L0:SC:=(⟨_,by cbv⟩:{x//slB kf3 Tryz.f5.body [] 0=x}).1
def s5:SC:=(⟨_,fun a=>by cbv⟩:{x:SC→SC//∀a,slW kf3 Tryz.f5.body [a]=x a}).1 s5L0
theorem sl5:slimK Tryz.f5.body s5=some (unK s5,true):=by kernel_rfl
theorem ok5:fnOK calmB Tryz.f5 0=true:=by kernel_rfl
def s7L0:SC:=(⟨_,by cbv⟩:{x//slB kf3 Tryz.f7.body [] 0=x}).1
def s7:SC:=(⟨_,fun a=>by cbv⟩:{x:SC→SC//∀a,slW kf3 Tryz.f7.body [a]=x a}).1 s7L0
theorem sl7:slimK Tryz.f7.body s7=some (unK s7,true):=by kernel_rfl
theorem ok7:fnOK calmB Tryz.f7 0=true:=by kernel_rfl
def s8L0:SC:=(⟨_,by cbv⟩:{x//slB kf3 Tryz.f8.body [] 0=x}).1
def s8:SC:=(⟨_,fun a=>by cbv⟩:{x:SC→SC//∀a,slW kf3 Tryz.f8.body [a]=x a}).1 s8L0
theorem sl8:slimK Tryz.f8.body s8=some (unK s8,true):=by kernel_rfl
theorem ok8:fnOK calmB Tryz.f8 0=true:=by kernel_rfl
def s9:SC:=(⟨_,by cbv⟩:{x//slW kf3 Tryz.f9.body []=x}).1
theorem sl9:slimK Tryz.f9.body s9=some (unK s9,true):=by kernel_rfl
theorem ok9:fnOK calmB Tryz.f9 0=true:=by kernel_rfl
def s12L0:SC:=(⟨_,by cbv⟩:{x//slB kf3 Tryz.f12.body [] 0=x}).1
def s12:SC:=(⟨_,fun a=>by cbv⟩:{x:SC→SC//∀a,slW kf3 Tryz.f12.body [a]=x a}).1 s12L0
theorem sl12:slimK Tryz.f12.body s12=some (unK s12,true):=by kernel_rfl
theorem ok12:fnOK calmB Tryz.f12 0=true:=by kernel_rfl
def s13L0:SC:=(⟨_,by cbv⟩:{x//slB kf3 Tryz.f13.body [] 0=x}).1
def s13:SC:=(⟨_,fun a=>by cbv⟩:{x:SC→SC//∀a,slW kf3 Tryz.f13.body [a]=x a}).1 s13L0
theorem sl13:slimK Tryz.f13.body s13=some (unK s13,true):=by kernel_rfl
theorem ok13:fnOK calmB Tryz.f13 0=true:=by kernel_rfl
def s14L0:SC:=(⟨_,by cbv⟩:{x//slB kf3 Tryz.f14.body [] 0=x}).1
def s14:SC:=(⟨_,fun a=>by cbv⟩:{x:SC→SC//∀a,slW kf3 Tryz.f14.body [a]=x a}).1 s14L0
theorem sl14:slimK Tryz.f14.body s14=some (unK s14,true):=by kernel_rfl
theorem ok14:fnOK calmB Tryz.f14 0=true:=by kernel_rfl
def s15L0:SC:=(⟨_,by cbv⟩:{x//slB kf3 Tryz.f15.body [] 0=x}).1
def s15:SC:=(⟨_,fun a=>by cbv⟩:{x:SC→SC//∀a,slW kf3 Tryz.f15.body [a]=x a}).1 s15L0
theorem sl15:slimK Tryz.f15.body s15=some (unK s15,true):=by kernel_rfl
theorem ok15:fnOK calmB Tryz.f15 0=true:=by kernel_rfl
def s16:SC:=(⟨_,by cbv⟩:{x//slW kf3 Tryz.f16.body []=x}).1
theorem sl16:slimK Tryz.f16.body s16=some (unK s16,true):=by kernel_rfl
theorem ok16:fnOK calmB Tryz.f16 0=true:=by kernel_rfl
def s17:SC:=(⟨_,by cbv⟩:{x//slW kf3 Tryz.f17.body []=x}).1
theorem sl17:slimK Tryz.f17.body s17=some (unK s17,true):=by kernel_rfl
theorem ok17:fnOK calmB Tryz.f17 0=true:=by kernel_rfl
def s18:SC:=(⟨_,by cbv⟩:{x//slW kf3 Tryz.f18.body []=x}).1
theorem sl18:slimK Tryz.f18.body s18=some (unK s18,true):=by kernel_rfl
theorem ok18:fnOK calmB Tryz.f18 0=true:=by kernel_rfl
def s19:SC:=(⟨_,by cbv⟩:{x//slW kf3 Tryz.f19.body []=x}).1
theorem sl19:slimK Tryz.f19.body s19=some (unK s19,true):=by kernel_rfl
theorem ok19:fnOK calmB Tryz.f19 0=true:=by kernel_rfl
def s20:SC:=(⟨_,by cbv⟩:{x//slW kf3 Tryz.f20.body []=x}).1
theorem sl20:slimK Tryz.f20.body s20=some (unK s20,true):=by kernel_rfl
theorem ok20:fnOK calmB Tryz.f20 0=true:=by kernel_rfl
def s21:SC:=(⟨_,by cbv⟩:{x//slW kf3 Tryz.f21.body []=x}).1
theorem sl21:slimK Tryz.f21.body s21=some (unK s21,true):=by kernel_rfl
theorem ok21:fnOK calmB Tryz.f21 0=true:=by kernel_rfl
def s22L0:SC:=(⟨_,by cbv⟩:{x//slB kf3 Tryz.f22.body [] 0=x}).1
def s22L1:SC:=(⟨_,fun a=>by cbv⟩:{x:SC→SC//∀a,slB kf3 Tryz.f22.body [a] 1=x a}).1 s22L0
def s22:SC:=(⟨_,fun a b=>by cbv⟩:{x:SC→SC→SC//∀a b,slW kf3 Tryz.f22.body [a,b]=x a b}).1 s22L0 s22L1
theorem sl22:slimK Tryz.f22.body s22=some (unK s22,true):=by kernel_rfl
theorem ok22:fnOK calmB Tryz.f22 0=true:=by kernel_rfl
def s25L0:SC:=(⟨_,by cbv⟩:{x//slB kf3 Tryz.f25.body [] 0=x}).1
def s25L1:SC:=(⟨_,fun a=>by cbv⟩:{x:SC→SC//∀a,slB kf3 Tryz.f25.body [a] 1=x a}).1 s25L0
def s25:SC:=(⟨_,fun a b=>by cbv⟩:{x:SC→SC→SC//∀a b,slW kf3 Tryz.f25.body [a,b]=x a b}).1 s25L0 s25L1
theorem sl25:slimK Tryz.f25.body s25=some (unK s25,true):=by kernel_rfl
theorem ok25:fnOK calmB Tryz.f25 0=true:=by kernel_rfl
def s26L0:SC:=(⟨_,by cbv⟩:{x//slB kf3 Tryz.f26.body [] 0=x}).1
def s26:SC:=(⟨_,fun a=>by cbv⟩:{x:SC→SC//∀a,slW kf3 Tryz.f26.body [a]=x a}).1 s26L0
theorem sl26:slimK Tryz.f26.body s26=some (unK s26,true):=by kernel_rfl
theorem ok26:fnOK calmB Tryz.f26 0=true:=by kernel_rfl
def s28L0:SC:=(⟨_,by cbv⟩:{x//slB kf3 Tryz.f28.body [] 0=x}).1
def s28:SC:=(⟨_,fun a=>by cbv⟩:{x:SC→SC//∀a,slW kf3 Tryz.f28.body [a]=x a}).1 s28L0
theorem sl28:slimK Tryz.f28.body s28=some (unK s28,true):=by kernel_rfl
theorem ok28:fnOK calmB Tryz.f28 0=true:=by kernel_rfl
def s30:SC:=(⟨_,by cbv⟩:{x//slW kf3 Tryz.f30.body []=x}).1
theorem sl30:slimK Tryz.f30.body s30=some (unK s30,true):=by kernel_rfl
theorem ok30:fnOK calmB Tryz.f30 0=true:=by kernel_rfl
def s31:SC:=(⟨_,by cbv⟩:{x//slW kf3 Tryz.f31.body []=x}).1
theorem sl31:slimK Tryz.f31.body s31=some (unK s31,true):=by kernel_rfl
theorem ok31:fnOK calmB Tryz.f31 0=true:=by kernel_rfl
def s34L0:SC:=(⟨_,by cbv⟩:{x//slB kf3 Tryz.f34.body [] 0=x}).1
def s34:SC:=(⟨_,fun a=>by cbv⟩:{x:SC→SC//∀a,slW kf3 Tryz.f34.body [a]=x a}).1 s34L0
theorem sl34:slimK Tryz.f34.body s34=some (unK s34,true):=by kernel_rfl
theorem ok34:fnOK calmB Tryz.f34 0=true:=by kernel_rfl
def s35:SC:=(⟨_,by cbv⟩:{x//slW kf3 Tryz.f35.body []=x}).1
theorem sl35:slimK Tryz.f35.body s35=some (unK s35,true):=by kernel_rfl
theorem ok35:fnOK calmB Tryz.f35 0=true:=by kernel_rfl
def s37:SC:=(⟨_,by cbv⟩:{x//slW kf3 Tryz.f37.body []=x}).1
theorem sl37:slimK Tryz.f37.body s37=some (unK s37,true):=by kernel_rfl
theorem ok37:fnOK calmB Tryz.f37 0=true:=by kernel_rfl
def s38:SC:=(⟨_,by cbv⟩:{x//slW kf3 Tryz.f38.body []=x}).1
theorem sl38:slimK Tryz.f38.body s38=some (unK s38,true):=by kernel_rfl
theorem ok38:fnOK calmB Tryz.f38 0=true:=by kernel_rfl
def s42:SC:=(⟨_,by cbv⟩:{x//slW kf3 Tryz.f42.body []=x}).1
theorem sl42:slimK Tryz.f42.body s42=some (unK s42,true):=by kernel_rfl
theorem ok42:fnOK calmB Tryz.f42 0=true:=by kernel_rfl
def s44:SC:=(⟨_,by cbv⟩:{x//slW kf3 Tryz.f44.body []=x}).1
theorem sl44:slimK Tryz.f44.body s44=some (unK s44,true):=by kernel_rfl
theorem ok44:fnOK calmB Tryz.f44 0=true:=by kernel_rfl
def s46:SC:=(⟨_,by cbv⟩:{x//slW kf3 Tryz.f46.body []=x}).1
theorem sl46:slimK Tryz.f46.body s46=some (unK s46,true):=by kernel_rfl
theorem ok46:fnOK calmB Tryz.f46 0=true:=by kernel_rfl
def s47L0:SC:=(⟨_,by cbv⟩:{x//slB kf3 Tryz.f47.body [] 0=x}).1
def s47:SC:=(⟨_,fun a=>by cbv⟩:{x:SC→SC//∀a,slW kf3 Tryz.f47.body [a]=x a}).1 s47L0
theorem sl47:slimK Tryz.f47.body s47=some (unK s47,true):=by kernel_rfl
theorem ok47:fnOK calmB Tryz.f47 0=true:=by kernel_rfl
def s48:SC:=(⟨_,by cbv⟩:{x//slW kf3 Tryz.f48.body []=x}).1
theorem sl48:slimK Tryz.f48.body s48=some (unK s48,true):=by kernel_rfl
theorem ok48:fnOK calmB Tryz.f48 0=true:=by kernel_rfl
def s49:SC:=(⟨_,by cbv⟩:{x//slW kf3 Tryz.f49.body []=x}).1
theorem sl49:slimK Tryz.f49.body s49=some (unK s49,true):=by kernel_rfl
theorem ok49:fnOK calmB Tryz.f49 0=true:=by kernel_rfl
def s50:SC:=(⟨_,by cbv⟩:{x//slW kf3 Tryz.f50.body []=x}).1
theorem sl50:slimK Tryz.f50.body s50=some (unK s50,true):=by kernel_rfl
theorem ok50:fnOK calmB Tryz.f50 0=true:=by kernel_rfl
def s52:SC:=(⟨_,by cbv⟩:{x//slW kf3 Tryz.f52.body []=x}).1
theorem sl52:slimK Tryz.f52.body s52=some (unK s52,true):=by kernel_rfl
theorem ok52:fnOK calmB Tryz.f52 0=true:=by kernel_rfl
def s53:SC:=(⟨_,by cbv⟩:{x//slW kf3 Tryz.f53.body []=x}).1
theorem sl53:slimK Tryz.f53.body s53=some (unK s53,true):=by kernel_rfl
theorem ok53:fnOK calmB Tryz.f53 0=true:=by kernel_rfl
def s54:SC:=(⟨_,by cbv⟩:{x//slW kf3 Tryz.f54.body []=x}).1
theorem sl54:slimK Tryz.f54.body s54=some (unK s54,true):=by kernel_rfl
theorem ok54:fnOK calmB Tryz.f54 0=true:=by kernel_rfl
def s60:SC:=(⟨_,by cbv⟩:{x//slW kf3 Tryz.f60.body []=x}).1
theorem sl60:slimK Tryz.f60.body s60=some (unK s60,true):=by kernel_rfl
theorem ok60:fnOK calmB Tryz.f60 0=true:=by kernel_rfl
def s64L0:SC:=(⟨_,by cbv⟩:{x//slB kf3 Tryz.f64.body [] 0=x}).1
def s64:SC:=(⟨_,fun a=>by cbv⟩:{x:SC→SC//∀a,slW kf3 Tryz.f64.body [a]=x a}).1 s64L0
theorem sl64:slimK Tryz.f64.body s64=some (unK s64,true):=by kernel_rfl
theorem ok64:fnOK calmB Tryz.f64 0=true:=by kernel_rfl
def s66L0:SC:=(⟨_,by cbv⟩:{x//slB kf3 Tryz.f66.body [] 0=x}).1
def s66:SC:=(⟨_,fun a=>by cbv⟩:{x:SC→SC//∀a,slW kf3 Tryz.f66.body [a]=x a}).1 s66L0
theorem sl66:slimK Tryz.f66.body s66=some (unK s66,true):=by kernel_rfl
theorem ok66:fnOK calmB Tryz.f66 0=true:=by kernel_rfl
def s72:SC:=(⟨_,by cbv⟩:{x//slW kf3 Tryz.f72.body []=x}).1
theorem sl72:slimK Tryz.f72.body s72=some (unK s72,true):=by kernel_rfl
theorem ok72:fnOK calmB Tryz.f72 0=true:=by kernel_rfl
def s73:SC:=(⟨_,by cbv⟩:{x//slW kf3 Tryz.f73.body []=x}).1
theorem sl73:slimK Tryz.f73.body s73=some (unK s73,true):=by kernel_rfl
theorem ok73:fnOK calmB Tryz.f73 0=true:=by kernel_rfl
def s74L0:SC:=(⟨_,by cbv⟩:{x//slB kf3 Tryz.f74.body [] 0=x}).1
def s74:SC:=(⟨_,fun a=>by cbv⟩:{x:SC→SC//∀a,slW kf3 Tryz.f74.body [a]=x a}).1 s74L0
theorem sl74:slimK Tryz.f74.body s74=some (unK s74,true):=by kernel_rfl
theorem ok74:fnOK calmB Tryz.f74 0=true:=by kernel_rfl
def s75L0:SC:=(⟨_,by cbv⟩:{x//slB kf3 Tryz.f75.body [] 0=x}).1
def s75:SC:=(⟨_,fun a=>by cbv⟩:{x:SC→SC//∀a,slW kf3 Tryz.f75.body [a]=x a}).1 s75L0
theorem sl75:slimK Tryz.f75.body s75=some (unK s75,true):=by kernel_rfl
theorem ok75:fnOK calmB Tryz.f75 0=true:=by kernel_rfl
def s76:SC:=(⟨_,by cbv⟩:{x//slW kf3 Tryz.f76.body []=x}).1
theorem sl76:slimK Tryz.f76.body s76=some (unK s76,true):=by kernel_rfl
theorem ok76:fnOK calmB Tryz.f76 0=true:=by kernel_rfl
def s77:SC:=(⟨_,by cbv⟩:{x//slW kf3 Tryz.f77.body []=x}).1
theorem sl77:slimK Tryz.f77.body s77=some (unK s77,true):=by kernel_rfl
theorem ok77:fnOK calmB Tryz.f77 0=true:=by kernel_rfl
def s81:SC:=(⟨_,by cbv⟩:{x//slW kf3 Tryz.f81.body []=x}).1
theorem sl81:slimK Tryz.f81.body s81=some (unK s81,true):=by kernel_rfl
theorem ok81:fnOK calmB Tryz.f81 0=true:=by kernel_rfl
def s82:SC:=(⟨_,by cbv⟩:{x//slW kf3 Tryz.f82.body []=x}).1
theorem sl82:slimK Tryz.f82.body s82=some (unK s82,true):=by kernel_rfl
theorem ok82:fnOK calmB Tryz.f82 0=true:=by kernel_rfl
def s86:SC:=(⟨_,by cbv⟩:{x//slW kf3 Tryz.f86.body []=x}).1
theorem sl86:slimK Tryz.f86.body s86=some (unK s86,true):=by kernel_rfl
theorem ok86:fnOK calmB Tryz.f86 0=true:=by kernel_rfl
def s87L0:SC:=(⟨_,by cbv⟩:{x//slB kf3 Tryz.f87.body [] 0=x}).1
def s87:SC:=(⟨_,fun a=>by cbv⟩:{x:SC→SC//∀a,slW kf3 Tryz.f87.body [a]=x a}).1 s87L0
theorem sl87:slimK Tryz.f87.body s87=some (unK s87,true):=by kernel_rfl
theorem ok87:fnOK calmB Tryz.f87 0=true:=by kernel_rfl
def s88L0:SC:=(⟨_,by cbv⟩:{x//slB kf3 Tryz.f88.body [] 0=x}).1
def s88:SC:=(⟨_,fun a=>by cbv⟩:{x:SC→SC//∀a,slW kf3 Tryz.f88.body [a]=x a}).1 s88L0
theorem sl88:slimK Tryz.f88.body s88=some (unK s88,true):=by kernel_rfl
theorem ok88:fnOK calmB Tryz.f88 0=true:=by kernel_rfl
def s89L0:SC:=(⟨_,by cbv⟩:{x//slB kf3 Tryz.f89.body [] 0=x}).1
def s89:SC:=(⟨_,fun a=>by cbv⟩:{x:SC→SC//∀a,slW kf3 Tryz.f89.body [a]=x a}).1 s89L0
theorem sl89:slimK Tryz.f89.body s89=some (unK s89,true):=by kernel_rfl
theorem ok89:fnOK calmB Tryz.f89 0=true:=by kernel_rfl
def s90L0:SC:=(⟨_,by cbv⟩:{x//slB kf3 Tryz.f90.body [] 0=x}).1
def s90:SC:=(⟨_,fun a=>by cbv⟩:{x:SC→SC//∀a,slW kf3 Tryz.f90.body [a]=x a}).1 s90L0
theorem sl90:slimK Tryz.f90.body s90=some (unK s90,true):=by kernel_rfl
theorem ok90:fnOK calmB Tryz.f90 0=true:=by kernel_rfl
def s91:SC:=(⟨_,by cbv⟩:{x//slW kf3 Tryz.f91.body []=x}).1
theorem sl91:slimK Tryz.f91.body s91=some (unK s91,true):=by kernel_rfl
theorem ok91:fnOK calmB Tryz.f91 0=true:=by kernel_rfl
def s92L0:SC:=(⟨_,by cbv⟩:{x//slB kf3 Tryz.f92.body [] 0=x}).1
def s92:SC:=(⟨_,fun a=>by cbv⟩:{x:SC→SC//∀a,slW kf3 Tryz.f92.body [a]=x a}).1 s92L0
theorem sl92:slimK Tryz.f92.body s92=some (unK s92,true):=by kernel_rfl
theorem ok92:fnOK calmB Tryz.f92 0=true:=by kernel_rfl
def s93:SC:=(⟨_,by cbv⟩:{x//slW kf3 Tryz.f93.body []=x}).1
theorem sl93:slimK Tryz.f93.body s93=some (unK s93,true):=by kernel_rfl
theorem ok93:fnOK calmB Tryz.f93 0=true:=by kernel_rfl
def s96:SC:=(⟨_,by cbv⟩:{x//slW kf3 Tryz.f96.body []=x}).1
theorem sl96:slimK Tryz.f96.body s96=some (unK s96,true):=by kernel_rfl
theorem ok96:fnOK calmB Tryz.f96 0=true:=by kernel_rfl
def s97:SC:=(⟨_,by cbv⟩:{x//slW kf3 Tryz.f97.body []=x}).1
theorem sl97:slimK Tryz.f97.body s97=some (unK s97,true):=by kernel_rfl
theorem ok97:fnOK calmB Tryz.f97 0=true:=by kernel_rfl
def s98:SC:=(⟨_,by cbv⟩:{x//slW kf3 Tryz.f98.body []=x}).1
theorem sl98:slimK Tryz.f98.body s98=some (unK s98,true):=by kernel_rfl
theorem ok98:fnOK calmB Tryz.f98 0=true:=by kernel_rfl
def s99:SC:=(⟨_,by cbv⟩:{x//slW kf3 Tryz.f99.body []=x}).1
theorem sl99:slimK Tryz.f99.body s99=some (unK s99,true):=by kernel_rfl
theorem ok99:fnOK calmB Tryz.f99 0=true:=by kernel_rfl
def s101:SC:=(⟨_,by cbv⟩:{x//slW kf3 Tryz.f101.body []=x}).1
theorem sl101:slimK Tryz.f101.body s101=some (unK s101,true):=by kernel_rfl
theorem ok101:fnOK calmB Tryz.f101 0=true:=by kernel_rfl
def s102:SC:=(⟨_,by cbv⟩:{x//slW kf3 Tryz.f102.body []=x}).1
theorem sl102:slimK Tryz.f102.body s102=some (unK s102,true):=by kernel_rfl
theorem ok102:fnOK calmB Tryz.f102 0=true:=by kernel_rfl
def s103:SC:=(⟨_,by cbv⟩:{x//slW kf3 Tryz.f103.body []=x}).1
theorem sl103:slimK Tryz.f103.body s103=some (unK s103,true):=by kernel_rfl
theorem ok103:fnOK calmB Tryz.f103 0=true:=by kernel_rfl
def s104L0:SC:=(⟨_,by cbv⟩:{x//slB kf3 Tryz.f104.body [] 0=x}).1
def s104:SC:=(⟨_,fun a=>by cbv⟩:{x:SC→SC//∀a,slW kf3 Tryz.f104.body [a]=x a}).1 s104L0
theorem sl104:slimK Tryz.f104.body s104=some (unK s104,true):=by kernel_rfl
theorem ok104:fnOK calmB Tryz.f104 0=true:=by kernel_rfl
def s111L0:SC:=(⟨_,by cbv⟩:{x//slB kf3 Tryz.f111.body [] 0=x}).1
def s111:SC:=(⟨_,fun a=>by cbv⟩:{x:SC→SC//∀a,slW kf3 Tryz.f111.body [a]=x a}).1 s111L0
theorem sl111:slimK Tryz.f111.body s111=some (unK s111,true):=by kernel_rfl
theorem ok111:fnOK calmB Tryz.f111 0=true:=by kernel_rfl
def s112:SC:=(⟨_,by cbv⟩:{x//slW kf3 Tryz.f112.body []=x}).1
theorem sl112:slimK Tryz.f112.body s112=some (unK s112,true):=by kernel_rfl
theorem ok112:fnOK calmB Tryz.f112 0=true:=by kernel_rfl
def s116:SC:=(⟨_,by cbv⟩:{x//slW kf3 Tryz.f116.body []=x}).1
theorem sl116:slimK Tryz.f116.body s116=some (unK s116,true):=by kernel_rfl
theorem ok116:fnOK calmB Tryz.f116 0=true:=by kernel_rfl
def s117:SC:=(⟨_,by cbv⟩:{x//slW kf3 Tryz.f117.body []=x}).1
theorem sl117:slimK Tryz.f117.body s117=some (unK s117,true):=by kernel_rfl
theorem ok117:fnOK calmB Tryz.f117 0=true:=by kernel_rfl
def s118L0:SC:=(⟨_,by cbv⟩:{x//slB kf3 Tryz.f118.body [] 0=x}).1
def s118:SC:=(⟨_,fun a=>by cbv⟩:{x:SC→SC//∀a,slW kf3 Tryz.f118.body [a]=x a}).1 s118L0
theorem sl118:slimK Tryz.f118.body s118=some (unK s118,true):=by kernel_rfl
theorem ok118:fnOK calmB Tryz.f118 0=true:=by kernel_rfl
def s119L0:SC:=(⟨_,by cbv⟩:{x//slB kf3 Tryz.f119.body [] 0=x}).1
def s119:SC:=(⟨_,fun a=>by cbv⟩:{x:SC→SC//∀a,slW kf3 Tryz.f119.body [a]=x a}).1 s119L0
theorem sl119:slimK Tryz.f119.body s119=some (unK s119,true):=by kernel_rfl
theorem ok119:fnOK calmB Tryz.f119 0=true:=by kernel_rfl
def s120:SC:=(⟨_,by cbv⟩:{x//slW kf3 Tryz.f120.body []=x}).1
theorem sl120:slimK Tryz.f120.body s120=some (unK s120,true):=by kernel_rfl
theorem ok120:fnOK calmB Tryz.f120 0=true:=by kernel_rfl
def s121:SC:=(⟨_,by cbv⟩:{x//slW kf3 Tryz.f121.body []=x}).1
theorem sl121:slimK Tryz.f121.body s121=some (unK s121,true):=by kernel_rfl
theorem ok121:fnOK calmB Tryz.f121 0=true:=by kernel_rfl
def s122:SC:=(⟨_,by cbv⟩:{x//slW kf3 Tryz.f122.body []=x}).1
theorem sl122:slimK Tryz.f122.body s122=some (unK s122,true):=by kernel_rfl
theorem ok122:fnOK calmB Tryz.f122 0=true:=by kernel_rfl
def s123:SC:=(⟨_,by cbv⟩:{x//slW kf3 Tryz.f123.body []=x}).1
theorem sl123:slimK Tryz.f123.body s123=some (unK s123,true):=by kernel_rfl
theorem ok123:fnOK calmB Tryz.f123 0=true:=by kernel_rfl
def s124:SC:=(⟨_,by cbv⟩:{x//slW kf3 Tryz.f124.body []=x}).1
theorem sl124:slimK Tryz.f124.body s124=some (unK s124,true):=by kernel_rfl
theorem ok124:fnOK calmB Tryz.f124 0=true:=by kernel_rfl
def s125L0:SC:=(⟨_,by cbv⟩:{x//slB kf3 Tryz.f125.body [] 0=x}).1
def s125:SC:=(⟨_,fun a=>by cbv⟩:{x:SC→SC//∀a,slW kf3 Tryz.f125.body [a]=x a}).1 s125L0
theorem sl125:slimK Tryz.f125.body s125=some (unK s125,true):=by kernel_rfl
theorem ok125:fnOK calmB Tryz.f125 0=true:=by kernel_rfl
def s128:SC:=(⟨_,by cbv⟩:{x//slW kf3 Tryz.f128.body []=x}).1
theorem sl128:slimK Tryz.f128.body s128=some (unK s128,true):=by kernel_rfl
theorem ok128:fnOK calmB Tryz.f128 0=true:=by kernel_rfl
def s129L0:SC:=(⟨_,by cbv⟩:{x//slB kf3 Tryz.f129.body [] 0=x}).1
def s129:SC:=(⟨_,fun a=>by cbv⟩:{x:SC→SC//∀a,slW kf3 Tryz.f129.body [a]=x a}).1 s129L0
theorem sl129:slimK Tryz.f129.body s129=some (unK s129,true):=by kernel_rfl
theorem ok129:fnOK calmB Tryz.f129 0=true:=by kernel_rfl
def s130:SC:=(⟨_,by cbv⟩:{x//slW kf3 Tryz.f130.body []=x}).1
theorem sl130:slimK Tryz.f130.body s130=some (unK s130,true):=by kernel_rfl
theorem ok130:fnOK calmB Tryz.f130 0=true:=by kernel_rfl
def s131:SC:=(⟨_,by cbv⟩:{x//slW kf3 Tryz.f131.body []=x}).1
theorem sl131:slimK Tryz.f131.body s131=some (unK s131,true):=by kernel_rfl
theorem ok131:fnOK calmB Tryz.f131 0=true:=by kernel_rfl
def s132:SC:=(⟨_,by cbv⟩:{x//slW kf3 Tryz.f132.body []=x}).1
theorem sl132:slimK Tryz.f132.body s132=some (unK s132,true):=by kernel_rfl
theorem ok132:fnOK calmB Tryz.f132 0=true:=by kernel_rfl
def s134:SC:=(⟨_,by cbv⟩:{x//slW kf3 Tryz.f134.body []=x}).1
theorem sl134:slimK Tryz.f134.body s134=some (unK s134,true):=by kernel_rfl
theorem ok134:fnOK calmB Tryz.f134 0=true:=by kernel_rfl
def s136:SC:=(⟨_,by cbv⟩:{x//slW kf3 Tryz.f136.body []=x}).1
theorem sl136:slimK Tryz.f136.body s136=some (unK s136,true):=by kernel_rfl
theorem ok136:fnOK calmB Tryz.f136 0=true:=by kernel_rfl
def s139:SC:=(⟨_,by cbv⟩:{x//slW kf3 Tryz.f139.body []=x}).1
theorem sl139:slimK Tryz.f139.body s139=some (unK s139,true):=by kernel_rfl
theorem ok139:fnOK calmB Tryz.f139 0=true:=by kernel_rfl
def s140:SC:=(⟨_,by cbv⟩:{x//slW kf3 Tryz.f140.body []=x}).1
theorem sl140:slimK Tryz.f140.body s140=some (unK s140,true):=by kernel_rfl
theorem ok140:fnOK calmB Tryz.f140 0=true:=by kernel_rfl
def s141:SC:=(⟨_,by cbv⟩:{x//slW kf3 Tryz.f141.body []=x}).1
theorem sl141:slimK Tryz.f141.body s141=some (unK s141,true):=by kernel_rfl
theorem ok141:fnOK calmB Tryz.f141 0=true:=by kernel_rfl
def s142:SC:=(⟨_,by cbv⟩:{x//slW kf3 Tryz.f142.body []=x}).1
theorem sl142:slimK Tryz.f142.body s142=some (unK s142,true):=by kernel_rfl
theorem ok142:fnOK calmB Tryz.f142 0=true:=by kernel_rfl
def s144:SC:=(⟨_,by cbv⟩:{x//slW kf3 Tryz.f144.body []=x}).1
theorem sl144:slimK Tryz.f144.body s144=some (unK s144,true):=by kernel_rfl
theorem ok144:fnOK calmB Tryz.f144 0=true:=by kernel_rfl
def s145:SC:=(⟨_,by cbv⟩:{x//slW kf3 Tryz.f145.body []=x}).1
theorem sl145:slimK Tryz.f145.body s145=some (unK s145,true):=by kernel_rfl
theorem ok145:fnOK calmB Tryz.f145 0=true:=by kernel_rfl
def s146:SC:=(⟨_,by cbv⟩:{x//slW kf3 Tryz.f146.body []=x}).1
theorem sl146:slimK Tryz.f146.body s146=some (unK s146,true):=by kernel_rfl
theorem ok146:fnOK calmB Tryz.f146 0=true:=by kernel_rfl
def s148L0:SC:=(⟨_,by cbv⟩:{x//slB kf3 Tryz.f148.body [] 0=x}).1
def s148:SC:=(⟨_,fun a=>by cbv⟩:{x:SC→SC//∀a,slW kf3 Tryz.f148.body [a]=x a}).1 s148L0
theorem sl148:slimK Tryz.f148.body s148=some (unK s148,true):=by kernel_rfl
theorem ok148:fnOK calmB Tryz.f148 0=true:=by kernel_rfl
def s149:SC:=(⟨_,by cbv⟩:{x//slW kf3 Tryz.f149.body []=x}).1
theorem sl149:slimK Tryz.f149.body s149=some (unK s149,true):=by kernel_rfl
theorem ok149:fnOK calmB Tryz.f149 0=true:=by kernel_rfl
def s150:SC:=(⟨_,by cbv⟩:{x//slW kf3 Tryz.f150.body []=x}).1
theorem sl150:slimK Tryz.f150.body s150=some (unK s150,true):=by kernel_rfl
theorem ok150:fnOK calmB Tryz.f150 0=true:=by kernel_rfl
attribute [simp] Tryz.results3 Tryz.results4 Tryz.results5 Tryz.results7 Tryz.results8 Tryz.results9 Tryz.results12 Tryz.results13 Tryz.results14 Tryz.results15 Tryz.results16 Tryz.results17 Tryz.results18 Tryz.results19 Tryz.results20 Tryz.results21 Tryz.results22 Tryz.results25 Tryz.results26 Tryz.results28 Tryz.results30 Tryz.results31 Tryz.results34 Tryz.results35 Tryz.results37 Tryz.results38 Tryz.results42 Tryz.results44 Tryz.results46 Tryz.results47 Tryz.results48 Tryz.results49 Tryz.results50 Tryz.results52 Tryz.results53 Tryz.results54 Tryz.results60 Tryz.results64 Tryz.results66 Tryz.results72 Tryz.results73 Tryz.results74 Tryz.results75 Tryz.results76 Tryz.results77 Tryz.results81 Tryz.results82 Tryz.results86 Tryz.results87 Tryz.results88 Tryz.results89 Tryz.results90 Tryz.results91 Tryz.results92 Tryz.results93 Tryz.results96 Tryz.results97 Tryz.results98 Tryz.results99 Tryz.results101 Tryz.results102 Tryz.results103 Tryz.results104 Tryz.results111 Tryz.results112 Tryz.results116 Tryz.results117 Tryz.results118 Tryz.results119 Tryz.results120 Tryz.results121 Tryz.results122 Tryz.results123 Tryz.results124 Tryz.results125 Tryz.results128 Tryz.results129 Tryz.results130 Tryz.results131 Tryz.results132 Tryz.results134 Tryz.results136 Tryz.results139 Tryz.results140 Tryz.results141 Tryz.results142 Tryz.results144 Tryz.results145 Tryz.results146 Tryz.results148 Tryz.results149 Tryz.results150
end Go.AE
set_option linter.unusedVariables false
set_option linter.unusedSimpArgs false
set_option maxHeartbeats 2000000
set_option maxRecDepth 100000
namespace Go.AE
open Go Go.Proofs
theorem numIs_ev (n:Int):PEv Tryz.prog 128 [.c (.raw (.int .i64 n))] (.c (.raw (.bool (decide (0≤n∧n≤268435456))))):=by
 refine tells_of mixed (F:=[]) trivial Tryz.func128 sl128 ok128 (by kernel_rfl) (by simp -implicitDefEqProofs (maxSteps:=400000) (maxDischargeDepth:=6)) (by simp -implicitDefEqProofs (maxSteps:=400000) (maxDischargeDepth:=6)) ?_
 by_cases h1:0≤n
 ·by_cases h2:n≤268435456
  ·simp -implicitDefEqProofs (maxSteps:=400000) (maxDischargeDepth:=6) [s128,h1,h2]
  ·simp -implicitDefEqProofs (maxSteps:=400000) (maxDischargeDepth:=6) [s128,h1,h2]
 ·simp -implicitDefEqProofs (maxSteps:=400000) (maxDischargeDepth:=6) [s128,h1]
theorem bytesF_step {k n:Nat} (h:128≤n):bytesF (k+1) n=UInt8.ofNat (n%128+128)::bytesF k (n/128):=by
 rw [bytesF,if_neg (by omega)]
theorem bytesF_last {k n:Nat} (h:n<128):bytesF k n=[UInt8.ofNat n]:=by
 cases k with
 |zero=>rfl
 |succ k=>rw [bytesF,if_pos h]
theorem numBytes_ev (n:Nat) (hn:n<9223372036854775808):PEv Tryz.prog 74 [.c (.raw (.int .i64 n))] (.c (.str (bytesN n))):=by
 refine tells_of mixed (F:=[]) trivial Tryz.func74 sl74 ok74 (by kernel_rfl) (by simp -implicitDefEqProofs (maxSteps:=400000) (maxDischargeDepth:=6)) (by simp -implicitDefEqProofs (maxSteps:=400000) (maxDischargeDepth:=6)) ?_
 simp -implicitDefEqProofs (maxSteps:=400000) (maxDischargeDepth:=6) [s74]
 refine loop_n (fun q st=>∃(k m:Nat) (L:List UInt8) (c:AC),q=k∧k≤9∧m<128^k∧L++bytesF k m=bytesN n∧st.s 0=.c (.raw (.int .i64 m))∧st.s 3=.c c∧OwnL st.H 5 1 0 c L∧L.length+k≤9∧Fresh st.H st.T) 9
  ⟨9,n,[],.raw (.slice none 0 0),rfl,by omega,by omega,rfl,by simp -implicitDefEqProofs (maxSteps:=400000) (maxDischargeDepth:=6),by simp -implicitDefEqProofs (maxSteps:=400000) (maxDischargeDepth:=6),OwnL.nil,by simp -implicitDefEqProofs (maxSteps:=400000) (maxDischargeDepth:=6),by simp -implicitDefEqProofs (maxSteps:=400000) (maxDischargeDepth:=6);exact fresh_no.mono (by omega)⟩ ?_
 rintro q st ⟨k,m,L,c,hq,hk,hm,hL,k0,k3,hc,hl,hf⟩
 have hfu:∀k d,st.T≤k→st.H (k,d)=.unborn:=hf
 have hm9:m<9223372036854775808:=Nat.lt_of_lt_of_le hm (Nat.le_trans (Nat.pow_le_pow_right (by omega) hk) (by decide))
 by_cases hlt:128≤m
 ·have hlt':(128:Int)≤m:=by omega
  cases k with
  |zero=>simp -implicitDefEqProofs (maxSteps:=400000) (maxDischargeDepth:=6) at hm;omega
  |succ k=>
   have c1:(m:Int).tmod 128=((m%128:Nat):Int):=by rw [Int.tmod_eq_emod_of_nonneg (by omega)];omega
   have c2:(m:Int).tdiv 128=((m/128:Nat):Int):=by rw [Int.tdiv_eq_ediv_of_nonneg (by omega)];omega
   obtain ⟨r,hr,hr2⟩:∃r:Nat,m%128=r∧r<128:=⟨m%128,rfl,by omega⟩
   obtain ⟨p,hp⟩:∃p:Nat,m/128=p:=⟨m/128,rfl⟩
   rw [hr] at c1
   rw [hp] at c2
   have e1:IntKind.wrap .i64 ((r:Int)+128)=(r:Int)+128:=by rw [wrap64_id]<;>omega
   have e2:IntKind.wrap .u8 ((r:Int)+128)=(r:Int)+128:=wrap8_id (by omega) (by omega)
   have e4:((r:Int)+128).toNat=r+128:=by omega
   have e3:IntKind.wrap .i64 (p:Int)=p:=by rw [wrap64_id]<;>omega
   have hm2:p<128^k:=by rw [Nat.pow_succ] at hm;omega
   have hL2:(L++[UInt8.ofNat (r+128)])++bytesF k p=bytesN n:=by rw [←hL,bytesF_step hlt,hr,hp];simp -implicitDefEqProofs (maxSteps:=400000) (maxDischargeDepth:=6)
   rcases hc with ⟨rfl,rfl⟩|⟨id,rfl,hid0,hid⟩
   ·simp -implicitDefEqProofs (maxSteps:=400000) (maxDischargeDepth:=6) [s74L0,k0,k3,hlt',hfu,c1,c2,e1,e2,e3,Nat.le_add_right_of_le]
    refine ⟨k,by omega,by omega,p,hm2,[UInt8.ofNat (r+128)],by simpa using hL2,rfl,OwnL.so rfl (Nat.zero_le _) ?_,(by have:=hl;simp -implicitDefEqProofs (maxSteps:=400000) (maxDischargeDepth:=6) at this ⊢;omega),?_⟩
    ·simp -implicitDefEqProofs (maxSteps:=400000) (maxDischargeDepth:=6) [rowsU8_one ((r:Int)+128) (by omega) (by omega),e4]
    ·repeat' (first|exact hf.mono (by first|omega|(simp<;>omega))|(refine Fresh.set' ?_ (by first|omega|(simp<;>omega))))
   ·obtain ⟨f1,f2,f3⟩:=hf.arr hid
    simp -implicitDefEqProofs (maxSteps:=400000) (maxDischargeDepth:=6) [s74L0,k0,k3,hlt',hfu,c1,c2,e1,e2,e3,f1,f2,hid,Nat.le_add_right_of_le]
    refine ⟨⟨by omega,by omega⟩,k,by omega,by omega,p,hm2,L++[UInt8.ofNat (r+128)],hL2,rfl,OwnL.so (by simp -implicitDefEqProofs (maxSteps:=400000) (maxDischargeDepth:=6)) (Nat.zero_le _) ?_,by simp -implicitDefEqProofs (maxSteps:=400000) (maxDischargeDepth:=6);omega,?_⟩
    ·simp -implicitDefEqProofs (maxSteps:=400000) (maxDischargeDepth:=6) [rowsU8_snoc L ((r:Int)+128) (by omega) (by omega),e4]
    ·repeat' (first|exact hf.mono (by first|omega|(simp<;>omega))|(refine Fresh.set' ?_ (by first|omega|(simp<;>omega))))
 ·have hlt':¬(128:Int)≤m:=by omega
  have e2:IntKind.wrap .u8 (m:Int)=m:=wrap8_id (by omega) (by omega)
  rw [bytesF_last (by omega)] at hL
  rcases hc with ⟨rfl,rfl⟩|⟨id,rfl,hid0,hid⟩
  ·simp -implicitDefEqProofs (maxSteps:=400000) (maxDischargeDepth:=6) [s74L0,k0,k3,hlt',hfu,e2,Nat.le_add_right_of_le]
   simpa using hL
  ·obtain ⟨f1,f2,f3⟩:=hf.arr hid
   simp -implicitDefEqProofs (maxSteps:=400000) (maxDischargeDepth:=6) [s74L0,k0,k3,hlt',hfu,e2,f1,f2,hid,List.take_of_length_le,hL,Nat.le_add_right_of_le]
   omega
def FN0_h128:List AV→Option (Prop×AV):=t1 (fun _=>True) fun n:Int=>.c (.raw (.bool (decide (0≤n∧n≤268435456))))
@[simp] theorem FN0_ap128 {l:List AV}:FN0_h128 l=(t1 (fun _=>True) fun n:Int=>.c (.raw (.bool (decide (0≤n∧n≤268435456))))) l:=rfl
def FN0_h74:List AV→Option (Prop×AV):=t1 (fun n=>0≤n∧n<9223372036854775808) fun n:Int=>.c (.str (bytesN n.toNat))
@[simp] theorem FN0_ap74 {l:List AV}:FN0_h74 l=(t1 (fun n=>0≤n∧n<9223372036854775808) fun n:Int=>.c (.str (bytesN n.toNat))) l:=rfl
def FN0:CT:=(128,.pu FN0_h128)::(74,.pu FN0_h74)::[]
theorem FN0_ok:CTok Tryz.prog FN0:=⟨tells1 fun n _=>numIs_ev n,
 tells1 fun n h=>by have:=numBytes_ev n.toNat (by omega);rwa [Int.toNat_of_nonneg h.1] at this,trivial⟩
@[simp] theorem FN0_get128:ctGet FN0 128=some (.pu FN0_h128):=rfl
@[simp] theorem FN0_get74:ctGet FN0 74=some (.pu FN0_h74):=rfl
@[simp] theorem FN0_skip {n:Nat} (h:(n==128||n==74)=false):ctGet FN0 n=ctGet ([]:CT) n:=by
 simp only [Bool.or_eq_false_iff,beq_eq_false_iff_ne,ne_eq] at h
 simp [FN0,ctGet,h]
theorem bts_at (l:List UInt8) (i:Nat) (h:i<l.length):bts l (i:Int)=(l[i].toNat:Int):=by simp -implicitDefEqProofs (maxSteps:=400000) (maxDischargeDepth:=6) [bts,List.getD,h]
theorem and127 (b:UInt8):iand .u8 (b.toNat:Int) 127=((b.toNat%128:Nat):Int):=by
 have hb:=b.toNat_lt
 have h1:((BitVec.ofInt 8 (b.toNat:Int)) &&&(BitVec.ofInt 8 127)).toNat=b.toNat%128:=by
  rw [BitVec.toNat_and]
  have e1:(BitVec.ofInt 8 (b.toNat:Int)).toNat=b.toNat:=by simp -implicitDefEqProofs (maxSteps:=400000) (maxDischargeDepth:=6)
  have e2:(BitVec.ofInt 8 127).toNat=2^7-1:=by decide
  rw [e1,e2,Nat.and_two_pow_sub_one_eq_mod]
 show IntKind.wrap .u8 (((BitVec.ofInt 8 (b.toNat:Int)) &&&(BitVec.ofInt 8 127)).toNat:Int)=_
 rw [h1]
 exact wrap8_id (by omega) (by omega)
theorem or_add {acc x i:Nat} (ha:acc<128^i) (hi:i≤4) (hx:x<128):ior .i64 (acc:Int) ((x*128^i:Nat):Int)=((acc+x*128^i:Nat):Int):=by
 have hp:128^i≤128^4:=Nat.pow_le_pow_right (by omega) hi
 have h4:(128:Nat)^4=268435456:=by decide
 have hxi:x*128^i≤127*268435456:=Nat.mul_le_mul (by omega) (by omega)
 have e1:(BitVec.ofInt 64 (acc:Int)).toNat=acc:=by simp -implicitDefEqProofs (maxSteps:=400000) (maxDischargeDepth:=6);omega
 have e2:(BitVec.ofInt 64 ((x*128^i:Nat):Int)).toNat=x*128^i:=by
  generalize x*128^i=y at hxi
  simp -implicitDefEqProofs (maxSteps:=400000) (maxDischargeDepth:=6);omega
 have h1:((BitVec.ofInt 64 (acc:Int)) |||(BitVec.ofInt 64 ((x*128^i:Nat):Int))).toNat=acc+x*128^i:=by
  rw [BitVec.toNat_or,e1,e2]
  have h7:(128:Nat)^i=2^(7*i):=by rw [show (128:Nat)=2^7 from rfl,←Nat.pow_mul]
  rw [h7] at ha ⊢
  rw [Nat.mul_comm x,Nat.or_comm,←Nat.two_pow_add_eq_or_of_lt ha,Nat.add_comm]
 show IntKind.wrap .i64 (((BitVec.ofInt 64 (acc:Int)) |||(BitVec.ofInt 64 ((x*128^i:Nat):Int))).toNat:Int)=_
 rw [h1]
 exact wrap64_id (by omega) (by omega)
theorem take_at {k m acc:Nat} {s:List UInt8} {i:Nat} (h:i<s.length):takeF (k+1) m acc (s.drop i) =
  if 128≤s[i].toNat then takeF k (m*128) (acc+(s[i].toNat%128)*m) (s.drop (i+1))
  else if 268435456<acc+(s[i].toNat%128)*m∨(1<m∧s[i].toNat=0) then none else some (acc+(s[i].toNat%128)*m,s.drop (i+1)):=by
 rw [List.drop_eq_getElem_cons h,takeF]
def takeAV (s:List UInt8):AV:=.t [(false,[.raw (.int .i64 (takeR s).1)]),(false,[.str (takeR s).2.1]),(false,[.raw (.int .i64 (takeR s).2.2)])]
theorem takeAV_some {s r:List UInt8} {n:Nat} (h:some (n,r)=takeN s):takeAV s=.t [(false,[.raw (.int .i64 n)]),(false,[.str r]),(false,[.raw (.int .i64 0)])]:=by simp -implicitDefEqProofs (maxSteps:=400000) (maxDischargeDepth:=6) [takeAV,takeR,←h]
theorem takeAV_none {s:List UInt8} (h:none=takeN s):takeAV s=.t [(false,[.raw (.int .i64 0)]),(false,[.str []]),(false,[.raw (.int .i64 7)])]:=by simp -implicitDefEqProofs (maxSteps:=400000) (maxDischargeDepth:=6) [takeAV,takeR,←h]
theorem numTake_ev (s:List UInt8) (hs:s.length<4611686018427387904):PEv Tryz.prog 111 [.c (.str s)] (takeAV s):=by
 refine tells_of mixed FN0_ok Tryz.func111 sl111 ok111 (by kernel_rfl) (by simp -implicitDefEqProofs (maxSteps:=400000) (maxDischargeDepth:=6) [takeAV]) (by simp -implicitDefEqProofs (maxSteps:=400000) (maxDischargeDepth:=6)) ?_
 have hmin:(if (5:Int)<s.length then (5:Int) else s.length)=((min s.length 5:Nat):Int):=by split<;>omega
 simp -implicitDefEqProofs (maxSteps:=400000) (maxDischargeDepth:=6) [s111,hmin]
 refine loop_n (fun q st=>∃(i acc:Nat),i≤min s.length 5∧q=5-i∧acc<128^i∧st.s 0=.c (.str s)∧st.s 2=.c (.raw (.int .i64 acc))∧st.s 8=.c (.raw (.int .i64 (min s.length 5:Nat)))∧st.s 9=.c (.raw (.int .i64 i))∧
   takeF (5-i) (128^i) acc (s.drop i)=takeN s∧Fresh st.H st.T) 5 ⟨0,0,by omega,rfl,by simp -implicitDefEqProofs (maxSteps:=400000) (maxDischargeDepth:=6),by simp -implicitDefEqProofs (maxSteps:=400000) (maxDischargeDepth:=6),by simp -implicitDefEqProofs (maxSteps:=400000) (maxDischargeDepth:=6),by simp -implicitDefEqProofs (maxSteps:=400000) (maxDischargeDepth:=6),by simp -implicitDefEqProofs (maxSteps:=400000) (maxDischargeDepth:=6),rfl,by simp -implicitDefEqProofs (maxSteps:=400000) (maxDischargeDepth:=6);exact fresh_no.mono (by omega)⟩ ?_
 rintro q st ⟨i,acc,hi,rfl,hacc,k0,k2,k8,k9,hT,hf⟩
 have hfu:∀k d,st.T≤k→st.H (k,d)=.unborn:=hf
 by_cases hlt:i<min s.length 5
 ·have hlt2:i<s.length:=by omega
  have hlt':((i:Int)<(min s.length 5:Nat)):=by omega
  have hk:5-i=(4-i)+1:=by omega
  rw [hk,take_at hlt2] at hT
  have hb:=s[i].toNat_lt
  obtain ⟨x,hx,hx2⟩:∃x:Nat,s[i].toNat%128=x∧x<128:=⟨_,rfl,by omega⟩
  have c1:=bts_at s i hlt2
  have c2:=and127 s[i]
  rw [hx] at c2 hT
  have c3:IntKind.wrap .i64 (x:Int)=x:=by rw [wrap64_id]<;>omega
  have c4:IntKind.wrap .i64 (7*(i:Int))=7*(i:Int):=by rw [wrap64_id]<;>omega
  have h7:(128:Nat)^i=2^(7*i):=by rw [show (128:Nat)=2^7 from rfl,←Nat.pow_mul]
  have hmin2:min (7*(i:Int)).toNat (IntKind.bits .i64)=7*i:=by
   have:IntKind.bits .i64=64:=rfl
   omega
  have hp:128^i≤128^4:=Nat.pow_le_pow_right (by omega) (by omega)
  have h4:(128:Nat)^4=268435456:=by decide
  have hxi:x*128^i≤127*268435456:=Nat.mul_le_mul (by omega) (by omega)
  have c5:=or_add hacc (i:=i) (by omega) hx2
  have c6:IntKind.wrap .i64 ((x:Int)*2^(7*i))=((x*128^i:Nat):Int):=by
   rw [h7]
   have:((x:Int)*2^(7*i))=((x*2^(7*i):Nat):Int):=by push_cast;rfl
   rw [this,←h7]
   exact wrap64_id (by omega) (by omega)
  have e2:IntKind.wrap .i64 ((i:Int)+1)=(i:Int)+1:=by rw [wrap64_id]<;>omega
  obtain ⟨y,hy⟩:∃y,x*128^i=y:=⟨_,rfl⟩
  rw [hy] at c5 c6 hT hxi
  obtain ⟨z,hz⟩:∃z,acc+y=z:=⟨_,rfl⟩
  rw [hz] at c5 hT
  simp -implicitDefEqProofs (maxSteps:=400000) (maxDischargeDepth:=6) [s111L0,k0,k2,k8,k9,hlt',hlt2,hfu,c1,c2,c3,c4,hmin2,c5,c6,e2]
  have hp1:0<i→1<128^i:=fun h=>Nat.one_lt_pow (by omega) (by omega)
  refine ⟨by omega,fun hge=>?_,fun hl3=>?_⟩
  ·rw [if_pos (by omega)] at hT
   refine ⟨5-(i+1),by omega,i+1,by omega,rfl,z,?_,rfl,rfl,?_,hf.mono (by omega)⟩
   ·rw [Nat.pow_succ,←hz,←hy]
    have:x*128^i≤127*128^i:=Nat.mul_le_mul_right _ (by omega)
    omega
   ·rw [show 5-(i+1)=4-i by omega,Nat.pow_succ]
    exact hT
  ·rw [if_neg (by omega)] at hT
   refine ⟨fun h1=>⟨fun h2=>⟨fun h3=>?_,fun h3=>⟨by omega,?_⟩⟩,fun h2=>⟨by omega,?_⟩⟩,fun h1=>?_⟩
   ·rw [if_pos (.inr ⟨hp1 h2,h3⟩)] at hT
    rw [takeAV_none hT]
    simp -implicitDefEqProofs (maxSteps:=400000) (maxDischargeDepth:=6)
   ·rw [if_neg (by omega)] at hT
    rw [takeAV_some hT]
    simp -implicitDefEqProofs (maxSteps:=400000) (maxDischargeDepth:=6)
   ·subst h2
    rw [if_neg (by simp -implicitDefEqProofs (maxSteps:=400000) (maxDischargeDepth:=6);omega)] at hT
    rw [takeAV_some hT]
    simp -implicitDefEqProofs (maxSteps:=400000) (maxDischargeDepth:=6)
   ·rw [if_pos (.inl (by omega))] at hT
    rw [takeAV_none hT]
    simp -implicitDefEqProofs (maxSteps:=400000) (maxDischargeDepth:=6)
 ·have hlt':¬((i:Int)<(min s.length 5:Nat)):=by omega
  have hi2:i=min s.length 5:=by omega
  have hn:none=takeN s:=by
   rw [←hT]
   by_cases h5:s.length<5
   ·rw [List.drop_eq_nil_of_le (by omega),show 5-i=(4-i)+1 by omega,takeF]
   ·rw [show 5-i=0 by omega,takeF]
  simp -implicitDefEqProofs (maxSteps:=400000) (maxDischargeDepth:=6) [s111L0,k0,k2,k8,k9,hlt']
  rw [takeAV_none hn]
  simp -implicitDefEqProofs (maxSteps:=400000) (maxDischargeDepth:=6)
def takeTextAV (s:List UInt8):AV:=.t [(false,[.str (takeTextR s).1]),(false,[.str (takeTextR s).2.1]),(false,[.raw (.int .i64 (takeTextR s).2.2)])]
def FN1_h111:List AV→Option (Prop×AV):=t1 (fun s=>s.length<4611686018427387904) fun s:List UInt8=>takeAV s
@[simp] theorem FN1_ap111 {l:List AV}:FN1_h111 l=(t1 (fun s=>s.length<4611686018427387904) fun s:List UInt8=>takeAV s) l:=rfl
def FN1:CT:=(111,.pu FN1_h111)::FN0
theorem FN1_ok:CTok Tryz.prog FN1:=⟨tells1 fun s h=>numTake_ev s h,FN0_ok⟩
@[simp] theorem FN1_get111:ctGet FN1 111=some (.pu FN1_h111):=rfl
@[simp] theorem FN1_skip {n:Nat} (h:(n==111)=false):ctGet FN1 n=ctGet FN0 n:=by
 simp only [Bool.or_eq_false_iff,beq_eq_false_iff_ne,ne_eq] at h
 simp [FN1,ctGet,h]
theorem takeN_len {s r:List UInt8} {n:Nat} (h:takeN s=some (n,r)):n≤268435456∧r.length<s.length:=by
 have go:∀(k m acc:Nat) (s r:List UInt8) (n:Nat),takeF k m acc s=some (n,r)→n≤268435456∧r.length<s.length:=by
  intro k
  induction k with
  |zero=>intro m acc s r n h;cases h
  |succ k ih=>
   intro m acc s r n h
   cases s with
   |nil=>cases h
   |cons b s=>
    rw [takeF] at h
    split at h
    ·have:=ih _ _ _ _ _ h
     simp -implicitDefEqProofs (maxSteps:=400000) (maxDischargeDepth:=6);omega
    ·split at h
     ·cases h
     ·cases h
      simp -implicitDefEqProofs (maxSteps:=400000) (maxDischargeDepth:=6);omega
 exact go _ _ _ _ _ _ h
theorem numTakeText_ev (s:List UInt8) (hs:s.length<4611686018427387904):PEv Tryz.prog 146 [.c (.str s)] (takeTextAV s):=by
 refine tells_of mixed FN1_ok Tryz.func146 sl146 ok146 (by kernel_rfl) (by simp -implicitDefEqProofs (maxSteps:=400000) (maxDischargeDepth:=6) [takeTextAV]) (by simp -implicitDefEqProofs (maxSteps:=400000) (maxDischargeDepth:=6)) ?_
 cases hn:takeN s with
 |none=>
  simp -implicitDefEqProofs (maxSteps:=400000) (maxDischargeDepth:=6) [s146,hs,takeAV_none hn.symm]
  simp -implicitDefEqProofs (maxSteps:=400000) (maxDischargeDepth:=6) [takeTextAV,takeTextR,hn]
 |some q=>
  obtain ⟨n,r⟩:=q
  obtain ⟨h1,h2⟩:=takeN_len hn
  by_cases hl:n≤r.length
  ·simp -implicitDefEqProofs (maxSteps:=400000) (maxDischargeDepth:=6) [s146,hs,takeAV_some hn.symm,hl]
   simp -implicitDefEqProofs (maxSteps:=400000) (maxDischargeDepth:=6) [takeTextAV,takeTextR,hn,hl]
  ·simp -implicitDefEqProofs (maxSteps:=400000) (maxDischargeDepth:=6) [s146,hs,takeAV_some hn.symm,hl]
   simp -implicitDefEqProofs (maxSteps:=400000) (maxDischargeDepth:=6) [takeTextAV,takeTextR,hn,hl]
theorem numText_ev (s:List UInt8) (hs:s.length<140737488355328):PEv Tryz.prog 102 [.c (.str s)] (.c (.str (bytesN s.length++s))):=by
 refine tells_of mixed FN1_ok Tryz.func102 sl102 ok102 (by kernel_rfl) (by simp -implicitDefEqProofs (maxSteps:=400000) (maxDischargeDepth:=6)) (by simp -implicitDefEqProofs (maxSteps:=400000) (maxDischargeDepth:=6)) ?_
 have h9:∀(k n:Nat),(bytesF k n).length≤k+1:=by
  intro k
  induction k with
  |zero=>intro n;simp -implicitDefEqProofs (maxSteps:=400000) (maxDischargeDepth:=6) [bytesF]
  |succ k ih=>
   intro n
   rw [bytesF]
   split
   ·simp -implicitDefEqProofs (maxSteps:=400000) (maxDischargeDepth:=6)
   ·have:=ih (n/128);simp -implicitDefEqProofs (maxSteps:=400000) (maxDischargeDepth:=6);omega
 have:=h9 9 s.length
 simp -implicitDefEqProofs (maxSteps:=400000) (maxDischargeDepth:=6) [s102,show s.length<9223372036854775808 by omega]
 unfold bytesN
 omega
end Go.AE
namespace Go.AE
open Go Go.Proofs Go.Shelf
def lays105_ren:Go.Shelf.Ren:=⟨fun|105=>84|212=>79|99=>83|165=>108|166=>109|170=>114|169=>110|263=>106|264=>107|206=>113|240=>126|241=>127|276=>137|277=>138|n=>n,fun|9=>9|3=>3|4=>4|20=>20|0=>0|46=>120|109=>121|5=>5|72=>152|76=>156|51=>134|146=>145|53=>147|148=>148|70=>150|37=>104|75=>155|127=>168|164=>179|80=>81|n=>n,fun  |n=>n⟩
theorem lays105:Lays.n105 Tryz.prog lays105_ren where
 mixed:=by kernel_rfl
 f99:=Tryz.func83.trans (congrArg some (by kernel_rfl))
 f105:=Tryz.func84.trans (congrArg some (by kernel_rfl))
 f165:=Tryz.func108.trans (congrArg some (by kernel_rfl))
 f166:=Tryz.func109.trans (congrArg some (by kernel_rfl))
 f169:=Tryz.func110.trans (congrArg some (by kernel_rfl))
 f170:=Tryz.func114.trans (congrArg some (by kernel_rfl))
 f206:=Tryz.func113.trans (congrArg some (by kernel_rfl))
 f212:=Tryz.func79.trans (congrArg some (by kernel_rfl))
 f240:=Tryz.func126.trans (congrArg some (by kernel_rfl))
 f241:=Tryz.func127.trans (congrArg some (by kernel_rfl))
 f263:=Tryz.func106.trans (congrArg some (by kernel_rfl))
 f264:=Tryz.func107.trans (congrArg some (by kernel_rfl))
 f276:=Tryz.func137.trans (congrArg some (by kernel_rfl))
 f277:=Tryz.func138.trans (congrArg some (by kernel_rfl))
 t0:=Tryz.underlying0
 a0:=Tryz.isAgg0
 z0:=Tryz.sizeOf0
 v0:=Tryz.zeroValue0
 t3:=Tryz.underlying3
 a3:=Tryz.isAgg3
 z3:=Tryz.sizeOf3
 v3:=Tryz.zeroValue3
 t4:=Tryz.underlying4
 a4:=Tryz.isAgg4
 z4:=Tryz.sizeOf4
 v4:=Tryz.zeroValue4
 t5:=Tryz.underlying5
 a5:=Tryz.isAgg5
 z5:=Tryz.sizeOf5
 v5:=Tryz.zeroValue5
 t9:=Tryz.underlying9
 a9:=Tryz.isAgg9
 z9:=Tryz.sizeOf9
 v9:=Tryz.zeroValue9
 t20:=Tryz.underlying20
 a20:=Tryz.isAgg20
 z20:=Tryz.sizeOf20
 v20:=Tryz.zeroValue20
 t37:=Tryz.underlying104
 a37:=Tryz.isAgg104
 z37:=Tryz.sizeOf104
 v37:=Tryz.zeroValue104
 t46:=Tryz.underlying120
 a46:=Tryz.isAgg120
 z46:=Tryz.sizeOf120
 v46:=Tryz.zeroValue120
 t51:=Tryz.underlying134
 a51:=Tryz.isAgg134
 z51:=Tryz.sizeOf134
 v51:=Tryz.zeroValue134
 t53:=Tryz.underlying147
 a53:=Tryz.isAgg147
 z53:=Tryz.sizeOf147
 v53:=Tryz.zeroValue147
 t70:=Tryz.underlying150
 a70:=Tryz.isAgg150
 z70:=Tryz.sizeOf150
 v70:=Tryz.zeroValue150
 t72:=Tryz.underlying152
 a72:=Tryz.isAgg152
 z72:=Tryz.sizeOf152
 v72:=Tryz.zeroValue152
 t75:=Tryz.underlying155
 a75:=Tryz.isAgg155
 z75:=Tryz.sizeOf155
 v75:=Tryz.zeroValue155
 t76:=Tryz.underlying156
 a76:=Tryz.isAgg156
 z76:=Tryz.sizeOf156
 v76:=Tryz.zeroValue156
 t109:=Tryz.underlying121
 a109:=Tryz.isAgg121
 z109:=Tryz.sizeOf121
 v109:=Tryz.zeroValue121
 t127:=Tryz.underlying168
 a127:=Tryz.isAgg168
 z127:=Tryz.sizeOf168
 v127:=Tryz.zeroValue168
 t146:=Tryz.underlying145
 a146:=Tryz.isAgg145
 z146:=Tryz.sizeOf145
 v146:=Tryz.zeroValue145
 t148:=Tryz.underlying148
 a148:=Tryz.isAgg148
 z148:=Tryz.sizeOf148
 v148:=Tryz.zeroValue148
 t164:=Tryz.underlying179
 a164:=Tryz.isAgg179
 z164:=Tryz.sizeOf179
 v164:=Tryz.zeroValue179
theorem lays105X:Builder.Extra Tryz.prog lays105_ren where
 sizeBuilder:=by kernel_rfl
 liesBuilder:=by kernel_rfl
 t5:=Tryz.underlying5
 a5:=Tryz.isAgg5
 z5:=Tryz.sizeOf5
 v5:=Tryz.zeroValue5
 infoByte:=by kernel_rfl
 cellsByte:=by kernel_rfl
 sizeByte:=by kernel_rfl
 neB5:=by decide
end Go.AE
set_option linter.unusedVariables false
set_option linter.unusedSimpArgs false
set_option maxHeartbeats 4000000
set_option maxRecDepth 1000000
namespace Go.AE
open Go Go.Proofs Go.RowKit
def numsN (l:List Int):List UInt8:=l.flatMap fun n=>bytesN n.toNat
theorem pev_str_calls {f:FuncId} {args:List AV} {b:List UInt8} (hp:PEv Tryz.prog f args (.c (.str b))) {w:World} (hI:Inv Tryz.prog w) {vs:Array Value} (hs:vs.size=args.length)
  (hr:∀(k:Nat) x,args[k]?=some x→RelV w (Fr (Ctx.of w hI fun _ _=>True) noHeap noLies) noHeap noLies x (vs.getD k undef)) :
  Calls Tryz.prog f vs w fun e w'=>e=.returned (.string ⟨b.toArray⟩)∧RowKit.Below w.heap.size w w':=by
 refine (hp.2 w hI (fun _ _=>True) vs hs hr (fun k=>(0,k)) (fun i j h=>by simpa using h)).mono ?_
 rintro e w' ⟨v,rfl,ρ,hH,hR⟩
 have hv:=relC_str (relV_c hR)
 subst hv
 exact ⟨rfl,hH.below⟩
theorem bytes_calls (n:Int) (h0:0≤n) (h1:n<9223372036854775808) {w:World} (hI:Inv Tryz.prog w) :
  Calls Tryz.prog 74 #[.int .i64 n] w fun e w'=>e=.returned (.string ⟨(bytesN n.toNat).toArray⟩)∧RowKit.Below w.heap.size w w':=by
 have:=numBytes_ev n.toNat (by omega)
 rw [Int.toNat_of_nonneg h0] at this
 refine pev_str_calls this hI rfl fun k y hk=>by
  match k,hk with
  |0,hk=>
   simp -implicitDefEqProofs (maxSteps:=400000) (maxDischargeDepth:=6) at hk
   subst hk
   exact .c _ _ (.raw _)
theorem bytesN_len' (n:Nat):(bytesN n).length≤10:=by
 have h9:∀(k n:Nat),(bytesF k n).length≤k+1:=by
  intro k
  induction k with
  |zero=>intro n;simp -implicitDefEqProofs (maxSteps:=400000) (maxDischargeDepth:=6) [bytesF]
  |succ k ih=>
   intro n
   rw [bytesF]
   split
   ·simp -implicitDefEqProofs (maxSteps:=400000) (maxDischargeDepth:=6)
   ·have:=ih (n/128);simp -implicitDefEqProofs (maxSteps:=400000) (maxDischargeDepth:=6);omega
 exact h9 9 n
theorem numsN_len (l:List Int):(numsN l).length≤10*l.length:=by
 induction l with
 |nil=>simp -implicitDefEqProofs (maxSteps:=400000) (maxDischargeDepth:=6) [numsN]
 |cons x l ih=>
  have:=bytesN_len' x.toNat
  simp -implicitDefEqProofs (maxSteps:=400000) (maxDischargeDepth:=6) [numsN] at ih ⊢
  omega
theorem bldF_below {T e:TypeId} {B b:Nat} {p:Value} {bs:List Value} {W W':World} (h:Lib.BuilderAtF T e B b p bs W) (hb:Below W.heap.size W W'):Lib.BuilderAtF T e B b p bs W':=by
 have hlt:b<W.heap.size:=by
  obtain ⟨_,v,hv,_⟩:=h
  exact (Array.getElem?_eq_some_iff.1 hv).1
 obtain ⟨h1,v,hv,hown,hne⟩:=h
 refine ⟨h1,v,by rw [hb.block b hlt];exact hv,?_,hne⟩
 refine hown.kept (row:=none) ⟨hb.os,hb.tape,hb.output,hb.size,fun k hk _=>hb.block k hk⟩ (Classical.em _)
theorem isBld_below {T e:TypeId} {B b:Nat} {bs:List Value} {W W':World} (h:Lib.IsBuilderF T e B b bs W) (hb:Below W.heap.size W W'):Lib.IsBuilderF T e B b bs W':=
 h.elim (fun x=>.inl (bldF_below x hb)) (fun x=>.inr (bldF_below x hb))
theorem numbers_walk (l:List Int) (hl:l.length<1000000) (h0:∀n∈l,0≤n∧n<9223372036854775808) (w:World) (hI:Inv Tryz.prog w) (v:Value) (a:Option Addr) (c:Nat) (hv:v=.slice a l.length c)
  (ha:∀(i:Nat) (hi:i<l.length),∃b o:Nat,a=some ⟨b,o,none⟩∧b<w.heap.size∧w.cell? ⟨b,o+i,none⟩=some (.int .i64 l[i])) :
  Calls Tryz.prog 100 #[v] w fun e w'=>e=.returned (.string ⟨(numsN l).toArray⟩)∧RowKit.Below w.heap.size w w':=by
 subst hv
 go_enter Tryz.func100,Tryz.ntmps100
 go_wp2
 go_loopw [8] (fun i wr=>∃k:Nat,k≤l.length∧i=.int .i64 k∧Lib.IsBuilderF 152 5 w.heap.size w.heap.size (Lib.byteCells (numsN (l.take k))) wr∧Below w.heap.size w wr) (fun i _=>l.length-(Go.RowKit.intOf i).toNat)
 case atStart=>
  exact ⟨0,Nat.zero_le _,rfl,Lib.IsBuilderF.of (Lib.fresh_isBuilder 152 5 w),(Below.refl _ w).alloc (Nat.le_refl _) _⟩
 case round=>
  obtain ⟨k,hk,rfl,hB,hbw⟩:=hrel
  by_cases hlt:k<l.length
  ·obtain ⟨b,o,rfl,hb,hc⟩:=ha k hlt
   have hc':wr.cell? ⟨b,o+k,none⟩=some (.int .i64 l[k]):=by
    rw [hbw.cell (p:=⟨b,o+k,none⟩) hb];exact hc
   have hm:l[k]∈l:=List.getElem_mem hlt
   obtain ⟨hn0,hn1⟩:=h0 _ hm
   go_wp2_with (go_at_call 74;refine (bytes_calls l[k] hn0 hn1 (hI.keep hbw)).mono ?_)
   rintro e W1 ⟨rfl,b1⟩
   have hlen:=numsN_len (l.take k)
   rw [List.length_take] at hlen
   have hb10:=bytesN_len' l[k].toNat
   have hsz:wr.heap.size≤W1.heap.size:=b1.size
   have hsz0:w.heap.size≤wr.heap.size:=hbw.size
   go_wp2_with (go_at_call 109;refine (Any.Builder_WriteString_f {lays105 with} lays105X w.heap.size w.heap.size _ ⟨(bytesN l[k].toNat).toArray⟩ W1 (isBld_below hB b1) (by rw [Lib.byteCells_length];show _+(bytesN l[k].toNat).length≤_;omega) (by omega)).mono ?_)
   rintro e W2 ⟨rfl,h2,b2⟩
   go_wp2
   go_roundw
   case rel=>
    refine ⟨_,_,_,_,_,_,_,_,_,?_,rfl⟩
    refine ⟨k+1,by omega,by go_num,?_,(hbw.trans (b1.mono hsz0)).trans b2⟩
    have:numsN (l.take (k+1))=numsN (l.take k)++bytesN l[k].toNat:=by
     rw [←List.take_append_getElem hlt,numsN,List.flatMap_append]
     simp -implicitDefEqProofs (maxSteps:=400000) (maxDischargeDepth:=6) [numsN]
    rw [this,Lib.byteCells_append]
    exact Or.inr h2
   case measure=>
    simp -implicitDefEqProofs (maxSteps:=400000) (maxDischargeDepth:=6) [Go.RowKit.intOf]
    omega
  ·have hke:k=l.length:=by omega
   subst hke
   rw [List.take_length] at hB
   have hsz0:w.heap.size≤wr.heap.size:=hbw.size
   go_wp2_with (go_at_call 110;refine (Any.Builder_String_any_f {lays105 with} lays105X w.heap.size w.heap.size _ wr hB hsz0).mono ?_)
   rintro e W1 ⟨rfl,_,b1⟩
   go_wp2
   go_ret
   exact ⟨rfl,hbw.trans b1⟩
theorem numbers_ev (l:List Int) (hl:l.length<1000000) (h0:∀n∈l,0≤n∧n<9223372036854775808):PEv Tryz.prog 100 [Arg.enc l] (.c (.str (numsN l))):=by
 refine pev_str (by kernel_rfl) (by simp -implicitDefEqProofs (maxSteps:=400000) (maxDischargeDepth:=6)) fun w hI F vs hs hr=>?_
 have h1:=relV_c (hr 0 _ rfl)
 generalize hv:vs.getD 0 undef=v at h1
 rw [vs1 hs hv]
 generalize hx:rowsE l=xs at h1
 cases h1 with
 |slNil _ _ _ hn=>
  cases l with
  |cons=>cases hx
  |nil=>
   rcases hn with rfl|⟨a,rfl⟩
   ·exact numbers_walk [] hl h0 w hI _ none 0 rfl (fun i hi=>by simp -implicitDefEqProofs (maxSteps:=400000) (maxDischargeDepth:=6) at hi)
   ·exact numbers_walk [] hl h0 w hI _ (some a) 0 rfl (fun i hi=>by simp -implicitDefEqProofs (maxSteps:=400000) (maxDischargeDepth:=6) at hi)
 |sl _ _ _ b o cap sz us hb hF hcap hcl hrow hcell hone hrel=>
  subst hx
  have hlen:(rowsE l).length=l.length:=by simp -implicitDefEqProofs (maxSteps:=400000) (maxDischargeDepth:=6) [rowsE]
  refine numbers_walk l hl h0 w hI _ (some ⟨b,o,none⟩) cap (by rw [hlen]) fun i hi=>⟨b,o,rfl,hb,?_⟩
  have hri:(rowsE l)[i]?=some [AC.raw (.int .i64 l[i])]:=by simp -implicitDefEqProofs (maxSteps:=400000) (maxDischargeDepth:=6) [rowsE,hi]
  have hsz:1=sz:=hrow i _ hri
  subst hsz
  rw [hcell i (by rw [hlen];omega)]
  have:=relC_raw (hrel i 0 _ _ hri rfl)
  simp -implicitDefEqProofs (maxSteps:=400000) (maxDischargeDepth:=6) at this
  rw [this]
end Go.AE
set_option linter.unusedVariables false
set_option linter.unusedSimpArgs false
set_option maxHeartbeats 2000000
set_option maxRecDepth 100000
namespace Go.AE
open Go Go.Proofs
structure W32 where
 n:Nat
instance argW32:Arg W32 where
 enc w:=.c (.raw (.int .u32 w.n))
 dec|.c (.raw (.int .u32 (.ofNat n)))=>some ⟨n⟩|_=>none
 dec_some {x a} h:=by split at h<;>simp_all;subst h;rfl
@[simp] theorem enc_W32 (w:W32):Arg.enc w=.c (.raw (.int .u32 w.n)):=rfl
@[simp] theorem dec_W32 (n:Nat):(Arg.dec (.c (.raw (.int .u32 (n:Int)))):Option W32)=some ⟨n⟩:=rfl
theorem ofF_step {h i:Nat} {s:List UInt8} (hi:i<s.length):ofF h (s.drop i)=ofF ((h*263+s[i].toNat+7)%4294967291) (s.drop (i+1)):=by
 rw [List.drop_eq_getElem_cons hi,ofF]
theorem ofF_lt:∀(s:List UInt8) (h:Nat),h<4294967291→ofF h s<4294967291
 |[],h,hh=>hh
 |b::s,h,hh=>ofF_lt s _ (Nat.mod_lt _ (by omega))
theorem sealOf_ev (s:List UInt8) (hs:s.length<4611686018427387904):PEv Tryz.prog 104 [.c (.str s)] (.c (.raw (.int .u32 (ofN s)))):=by
 refine tells_of mixed (F:=[]) trivial Tryz.func104 sl104 ok104 (by kernel_rfl) (by simp -implicitDefEqProofs (maxSteps:=400000) (maxDischargeDepth:=6)) (by simp -implicitDefEqProofs (maxSteps:=400000) (maxDischargeDepth:=6)) ?_
 simp -implicitDefEqProofs (maxSteps:=400000) (maxDischargeDepth:=6) [s104]
 refine loop_n (fun q st=>∃(i h:Nat),i≤s.length∧q=s.length-i∧h<4294967291∧st.s 0=.c (.str s)∧st.s 3=.c (.raw (.int .u64 h))∧st.s 6=.c (.raw (.int .i64 s.length))∧st.s 7=.c (.raw (.int .i64 i))∧ofF h (s.drop i)=ofN s) s.length
  ⟨0,1,by omega,rfl,by omega,by simp -implicitDefEqProofs (maxSteps:=400000) (maxDischargeDepth:=6),by simp -implicitDefEqProofs (maxSteps:=400000) (maxDischargeDepth:=6),by simp -implicitDefEqProofs (maxSteps:=400000) (maxDischargeDepth:=6),by simp -implicitDefEqProofs (maxSteps:=400000) (maxDischargeDepth:=6),rfl⟩ ?_
 rintro q st ⟨i,h,hi,rfl,hh,k0,k3,k6,k7,hT⟩
 by_cases hlt:i<s.length
 ·have hlt':(i:Int)<s.length:=by omega
  have hb:=s[i].toNat_lt
  rw [ofF_step hlt] at hT
  have c1:=bts_at s i hlt
  obtain ⟨b,hb2,hb3⟩:∃b:Nat,s[i].toNat=b∧b<256:=⟨_,rfl,hb⟩
  rw [hb2] at c1 hT
  have c2:IntKind.wrap .u64 ((h:Int)*263)=(h:Int)*263:=by rw [wrap64u_mod];omega
  have c3:IntKind.wrap .u64 (b:Int)=b:=by rw [wrap64u_mod];omega
  have c4:IntKind.wrap .u64 ((h:Int)*263+b)=(h:Int)*263+b:=by rw [wrap64u_mod];omega
  have c5:IntKind.wrap .u64 ((h:Int)*263+b+7)=(h:Int)*263+b+7:=by rw [wrap64u_mod];omega
  obtain ⟨z,hz,hz2⟩:∃z:Nat,(h*263+b+7)%4294967291=z∧z<4294967291:=⟨_,rfl,Nat.mod_lt _ (by omega)⟩
  have c6:((h:Int)*263+b+7).tmod 4294967291=z:=by rw [Int.tmod_eq_emod_of_nonneg (by omega)];omega
  have e2:IntKind.wrap .i64 ((i:Int)+1)=(i:Int)+1:=by rw [wrap64_id]<;>omega
  rw [hz] at hT
  simp -implicitDefEqProofs (maxSteps:=400000) (maxDischargeDepth:=6) [s104L0,k0,k3,k6,k7,hlt,c1,c2,c3,c4,c5,c6,e2]
  exact ⟨s.length-(i+1),by omega,i+1,by omega,rfl,z,hz2,rfl,rfl,hT⟩
 ·have:i=s.length:=by omega
  subst this
  have hr:h=ofN s:=by rw [←hT];simp -implicitDefEqProofs (maxSteps:=400000) (maxDischargeDepth:=6) [ofF]
  have c7:IntKind.wrap .u32 (h:Int)=h:=by rw [wrap32_mod];omega
  rw [hr] at c7 k3
  simp -implicitDefEqProofs (maxSteps:=400000) (maxDischargeDepth:=6) [s104L0,k0,k3,k6,k7,c7]
theorem spelt_ev (h:Nat) (hh:h<4294967296):PEv Tryz.prog 103 [.c (.raw (.int .u32 h))] (.c (.str (speltN h))):=by
 refine tells_of mixed (F:=[]) trivial Tryz.func103 sl103 ok103 (by kernel_rfl) (by simp -implicitDefEqProofs (maxSteps:=400000) (maxDischargeDepth:=6)) (by simp -implicitDefEqProofs (maxSteps:=400000) (maxDischargeDepth:=6)) ?_
 have c:∀k:Nat,(h:Int).fdiv (2^k)=((h/2^k:Nat):Int):=fun k=>by
  rw [Int.fdiv_eq_ediv_of_nonneg _ (by exact Int.pow_nonneg (by omega))]
  push_cast
  rfl
 have w8:∀n:Nat,IntKind.wrap .u8 (n:Int)=((n%256:Nat):Int):=fun n=>by rw [wrap8_mod (by omega)];omega
 have u8:∀n:Nat,UInt8.ofNat (n%256)=UInt8.ofNat n:=fun n=>by
  apply UInt8.toNat_inj.1
  simp -implicitDefEqProofs (maxSteps:=400000) (maxDischargeDepth:=6)
 have b:IntKind.bits .u32=32:=rfl
 have c1:=c 24
 have c2:=c 16
 have c3:=c 8
 simp only [show (2:Nat)^24=16777216 from rfl,show (2:Nat)^16=65536 from rfl,show (2:Nat)^8=256 from rfl,show (2:Int)^24=16777216 from rfl,show (2:Int)^16=65536 from rfl,show (2:Int)^8=256 from rfl] at c1 c2 c3
 obtain ⟨x1,h1⟩:∃x,h/16777216=x:=⟨_,rfl⟩
 obtain ⟨x2,h2⟩:∃x,h/65536=x:=⟨_,rfl⟩
 obtain ⟨x3,h3⟩:∃x,h/256=x:=⟨_,rfl⟩
 rw [h1] at c1
 rw [h2] at c2
 rw [h3] at c3
 have v0:=w8 h
 have v1:=w8 x1
 have v2:=w8 x2
 have v3:=w8 x3
 obtain ⟨y0,g0⟩:∃x,h%256=x:=⟨_,rfl⟩
 obtain ⟨y1,g1⟩:∃x,x1%256=x:=⟨_,rfl⟩
 obtain ⟨y2,g2⟩:∃x,x2%256=x:=⟨_,rfl⟩
 obtain ⟨y3,g3⟩:∃x,x3%256=x:=⟨_,rfl⟩
 rw [g0] at v0
 rw [g1] at v1
 rw [g2] at v2
 rw [g3] at v3
 simp -implicitDefEqProofs (maxSteps:=400000) (maxDischargeDepth:=6) [s103,b,c1,c2,c3,v0,v1,v2,v3]
 rw [speltN,h1,h2,h3,←u8 x1,←u8 x2,←u8 x3,←u8 h,g0,g1,g2,g3]
def FS0_h146:List AV→Option (Prop×AV):=t1 (fun s=>s.length<4611686018427387904) fun s:List UInt8=>takeTextAV s
@[simp] theorem FS0_ap146 {l:List AV}:FS0_h146 l=(t1 (fun s=>s.length<4611686018427387904) fun s:List UInt8=>takeTextAV s) l:=rfl
def FS0_h102:List AV→Option (Prop×AV):=t1 (fun s=>s.length<140737488355328) fun s:List UInt8=>.c (.str (bytesN s.length++s))
@[simp] theorem FS0_ap102 {l:List AV}:FS0_h102 l=(t1 (fun s=>s.length<140737488355328) fun s:List UInt8=>.c (.str (bytesN s.length++s))) l:=rfl
def FS0_h104:List AV→Option (Prop×AV):=t1 (fun s=>s.length<4611686018427387904) fun s:List UInt8=>.c (.raw (.int .u32 (ofN s)))
@[simp] theorem FS0_ap104 {l:List AV}:FS0_h104 l=(t1 (fun s=>s.length<4611686018427387904) fun s:List UInt8=>.c (.raw (.int .u32 (ofN s)))) l:=rfl
def FS0_h103:List AV→Option (Prop×AV):=t1 (fun w=>w.n<4294967296) fun w:W32=>.c (.str (speltN w.n))
@[simp] theorem FS0_ap103 {l:List AV}:FS0_h103 l=(t1 (fun w=>w.n<4294967296) fun w:W32=>.c (.str (speltN w.n))) l:=rfl
def FS0:CT:=(146,.pu FS0_h146)::(102,.pu FS0_h102)::(104,.pu FS0_h104)::(103,.pu FS0_h103)::FN1
theorem FS0_ok:CTok Tryz.prog FS0:=⟨tells1 fun s h=>numTakeText_ev s h,
 tells1 fun s h=>numText_ev s h,
 tells1 fun s h=>sealOf_ev s h,
 tells1 fun w h=>spelt_ev w.n h,FN1_ok⟩
@[simp] theorem FS0_get146:ctGet FS0 146=some (.pu FS0_h146):=rfl
@[simp] theorem FS0_get102:ctGet FS0 102=some (.pu FS0_h102):=rfl
@[simp] theorem FS0_get104:ctGet FS0 104=some (.pu FS0_h104):=rfl
@[simp] theorem FS0_get103:ctGet FS0 103=some (.pu FS0_h103):=rfl
@[simp] theorem FS0_skip {n:Nat} (h:(n==146||n==102||n==104||n==103)=false):ctGet FS0 n=ctGet FN1 n:=by
 simp only [Bool.or_eq_false_iff,beq_eq_false_iff_ne,ne_eq] at h
 simp [FS0,ctGet,h]
theorem ofN_lt (s:List UInt8):ofN s<4294967296:=Nat.lt_trans (ofF_lt s 1 (by omega)) (by omega)
theorem bytesN_len (n:Nat):(bytesN n).length≤10:=by
 have h9:∀(k n:Nat),(bytesF k n).length≤k+1:=by
  intro k
  induction k with
  |zero=>intro n;simp -implicitDefEqProofs (maxSteps:=400000) (maxDischargeDepth:=6) [bytesF]
  |succ k ih=>
   intro n
   rw [bytesF]
   split
   ·simp -implicitDefEqProofs (maxSteps:=400000) (maxDischargeDepth:=6)
   ·have:=ih (n/128);simp -implicitDefEqProofs (maxSteps:=400000) (maxDischargeDepth:=6);omega
 exact h9 9 n
theorem sealAdd_ev (s:List UInt8) (hs:s.length<4611686018427387904):PEv Tryz.prog 77 [.c (.str s)] (.c (.str (sealA s))):=by
 refine tells_of mixed FS0_ok Tryz.func77 sl77 ok77 (by kernel_rfl) (by simp -implicitDefEqProofs (maxSteps:=400000) (maxDischargeDepth:=6)) (by simp -implicitDefEqProofs (maxSteps:=400000) (maxDischargeDepth:=6)) ?_
 have hb:=bytesN_len s.length
 by_cases h7:700<s.length
 ·have h7':(700:Int)<s.length:=by omega
  simp -implicitDefEqProofs (maxSteps:=400000) (maxDischargeDepth:=6) [s77,h7',sealA,h7]
 ·have h7':¬(700:Int)<s.length:=by omega
  have l1:(speltN (ofN (bytesN s.length++s))).length=4:=rfl
  simp -implicitDefEqProofs (maxSteps:=400000) (maxDischargeDepth:=6) [s77,h7',sealA,h7,ofN_lt,l1,show s.length<9223372036854775808 by omega]
  omega
def sealTAV (s:List UInt8):AV:=match sealT s with
 |some (t,r)=>.t [(false,[.str t]),(false,[.str r]),(false,[.raw (.bool true)])]
 |none=>.t [(false,[.str []]),(false,[.str []]),(false,[.raw (.bool false)])]
theorem sealTake_ev (s:List UInt8) (hs:s.length<4611686018427387904):PEv Tryz.prog 81 [.c (.str s)] (sealTAV s):=by
 refine tells_of mixed FS0_ok Tryz.func81 sl81 ok81 (by kernel_rfl) (by unfold sealTAV;split<;>simp -implicitDefEqProofs (maxSteps:=400000) (maxDischargeDepth:=6)) (by simp -implicitDefEqProofs (maxSteps:=400000) (maxDischargeDepth:=6)) ?_
 cases hn:takeN s with
 |none=>
  simp -implicitDefEqProofs (maxSteps:=400000) (maxDischargeDepth:=6) [s81,hs,takeAV_none hn.symm]
  simp -implicitDefEqProofs (maxSteps:=400000) (maxDischargeDepth:=6) [sealTAV,sealT,hn]
 |some q=>
  obtain ⟨n,r⟩:=q
  obtain ⟨h1,h2⟩:=takeN_len hn
  by_cases h7:700<n
  ·have h7':(700:Int)<n:=by omega
   simp -implicitDefEqProofs (maxSteps:=400000) (maxDischargeDepth:=6) [s81,hs,takeAV_some hn.symm,h7']
   simp -implicitDefEqProofs (maxSteps:=400000) (maxDischargeDepth:=6) [sealTAV,sealT,hn,h7]
  ·have h7':¬(700:Int)<n:=by omega
   have e1:IntKind.wrap .i64 ((r.length:Int)-4)=(r.length:Int)-4:=by rw [wrap64_id]<;>omega
   by_cases h8:r.length<n+4
   ·have h8':(r.length:Int)-4<n:=by omega
    simp -implicitDefEqProofs (maxSteps:=400000) (maxDischargeDepth:=6) [s81,hs,takeAV_some hn.symm,h7',e1,h8']
    simp -implicitDefEqProofs (maxSteps:=400000) (maxDischargeDepth:=6) [sealTAV,sealT,hn,h7,h8]
   ·have h8':¬(r.length:Int)-4<n:=by omega
    have e2:IntKind.wrap .i64 ((s.length:Int)-r.length)=((s.length-r.length:Nat):Int):=by rw [wrap64_id]<;>omega
    have e3:IntKind.wrap .i64 (4+(n:Int))=((4+n:Nat):Int):=by rw [wrap64_id]<;>omega
    obtain ⟨a,ha⟩:∃a,s.length-r.length=a:=⟨_,rfl⟩
    obtain ⟨b,hb⟩:∃b,4+n=b:=⟨_,rfl⟩
    rw [ha] at e2
    rw [hb] at e3
    have e4:a≤s.length:=by omega
    have e5:b≤r.length:=by omega
    have e6:4≤b:=by omega
    have e7:4≤r.length:=by omega
    by_cases hc:r.take 4=speltN (ofN (s.take a++(r.take b).drop 4))
    ·simp -implicitDefEqProofs (maxSteps:=400000) (maxDischargeDepth:=6) [s81,hs,takeAV_some hn.symm,h7',e1,h8',e2,e3,e4,e5,e6,e7,ofN_lt,hc]
     refine ⟨by omega,by omega,by omega,by omega,?_⟩
     simp -implicitDefEqProofs (maxSteps:=400000) (maxDischargeDepth:=6) [sealTAV,sealT,hn,h7,h8,ha,hb,hc]
    ·simp -implicitDefEqProofs (maxSteps:=400000) (maxDischargeDepth:=6) [s81,hs,takeAV_some hn.symm,h7',e1,h8',e2,e3,e4,e5,e6,e7,ofN_lt,hc]
     refine ⟨by omega,by omega,by omega,by omega,?_⟩
     simp -implicitDefEqProofs (maxSteps:=400000) (maxDischargeDepth:=6) [sealTAV,sealT,hn,h7,h8,ha,hb,hc]
def FS1_h77:List AV→Option (Prop×AV):=t1 (fun s=>s.length<4611686018427387904) fun s:List UInt8=>.c (.str (sealA s))
@[simp] theorem FS1_ap77 {l:List AV}:FS1_h77 l=(t1 (fun s=>s.length<4611686018427387904) fun s:List UInt8=>.c (.str (sealA s))) l:=rfl
def FS1_h81:List AV→Option (Prop×AV):=t1 (fun s=>s.length<4611686018427387904) fun s:List UInt8=>sealTAV s
@[simp] theorem FS1_ap81 {l:List AV}:FS1_h81 l=(t1 (fun s=>s.length<4611686018427387904) fun s:List UInt8=>sealTAV s) l:=rfl
def FS1:CT:=(77,.pu FS1_h77)::(81,.pu FS1_h81)::FS0
theorem FS1_ok:CTok Tryz.prog FS1:=⟨tells1 fun s h=>sealAdd_ev s h,
 tells1 fun s h=>sealTake_ev s h,FS0_ok⟩
@[simp] theorem FS1_get77:ctGet FS1 77=some (.pu FS1_h77):=rfl
@[simp] theorem FS1_get81:ctGet FS1 81=some (.pu FS1_h81):=rfl
@[simp] theorem FS1_skip {n:Nat} (h:(n==77||n==81)=false):ctGet FS1 n=ctGet FS0 n:=by
 simp only [Bool.or_eq_false_iff,beq_eq_false_iff_ne,ne_eq] at h
 simp [FS1,ctGet,h]
end Go.AE
set_option maxRecDepth 100000
namespace Go.AE
open Go Go.Proofs Go.Shelf
def lays17_ren:Go.Shelf.Ren:=⟨fun|15=>143|17=>133|20=>147|n=>n,fun|0=>0|3=>3|4=>4|9=>9|21=>21|23=>132|n=>n,fun n=>n⟩
theorem lays17:LaysGw.n17 Tryz.prog lays17_ren where
 mixed:=by kernel_rfl
 f15:=Tryz.func143.trans (congrArg some (by kernel_rfl))
 f17:=Tryz.func133.trans (congrArg some (by kernel_rfl))
 f20:=Tryz.func147.trans (congrArg some (by kernel_rfl))
 t0:=Tryz.underlying0
 a0:=Tryz.isAgg0
 z0:=Tryz.sizeOf0
 v0:=Tryz.zeroValue0
 i0:=by kernel_rfl
 t3:=Tryz.underlying3
 a3:=Tryz.isAgg3
 z3:=Tryz.sizeOf3
 v3:=Tryz.zeroValue3
 i3:=by kernel_rfl
 t4:=Tryz.underlying4
 a4:=Tryz.isAgg4
 z4:=Tryz.sizeOf4
 v4:=Tryz.zeroValue4
 i4:=by kernel_rfl
 t9:=Tryz.underlying9
 a9:=Tryz.isAgg9
 z9:=Tryz.sizeOf9
 v9:=Tryz.zeroValue9
 i9:=by kernel_rfl
 t21:=Tryz.underlying21
 a21:=Tryz.isAgg21
 z21:=Tryz.sizeOf21
 v21:=Tryz.zeroValue21
 i21:=by kernel_rfl
 t23:=Tryz.underlying132
 a23:=Tryz.isAgg132
 z23:=Tryz.sizeOf132
 v23:=Tryz.zeroValue132
 i23:=by kernel_rfl
end Go.AE
namespace Go.AE
open Go Go.Proofs Go.Shelf
def lays195_ren:Go.Shelf.Ren:=⟨fun|195=>135|n=>n,fun|9=>9|3=>3|0=>0|4=>4|n=>n,fun  |n=>n⟩
theorem lays195:Lays.n195 Tryz.prog lays195_ren where
 mixed:=by kernel_rfl
 f195:=Tryz.func135.trans (congrArg some (by kernel_rfl))
 t0:=Tryz.underlying0
 a0:=Tryz.isAgg0
 z0:=Tryz.sizeOf0
 v0:=Tryz.zeroValue0
 t3:=Tryz.underlying3
 a3:=Tryz.isAgg3
 z3:=Tryz.sizeOf3
 v3:=Tryz.zeroValue3
 t4:=Tryz.underlying4
 a4:=Tryz.isAgg4
 z4:=Tryz.sizeOf4
 v4:=Tryz.zeroValue4
 t9:=Tryz.underlying9
 a9:=Tryz.isAgg9
 z9:=Tryz.sizeOf9
 v9:=Tryz.zeroValue9
end Go.AE
set_option linter.unusedVariables false
set_option linter.unusedSimpArgs false
set_option maxHeartbeats 2000000
set_option maxRecDepth 100000
namespace Go.AE
open Go Go.Proofs
def runeB (r:Int):Bool:=r==10||(decide (32≤r)&&decide (r≤1114111)&&r != 127&&r != 65533&&(decide (r≤55295)||decide (57344≤r)))
instance argR:Arg (Int×Unit) where
 enc r:=.c (.raw (.int .i32 r.1))
 dec|.c (.raw (.int .i32 n))=>some (n,())|_=>none
 dec_some {x a} h:=by split at h<;>simp_all;subst h;rfl
@[simp] theorem dec_R (n:Int):(Arg.dec (.c (.raw (.int .i32 n))):Option (Int×Unit))=some (n,()):=rfl
@[simp] theorem enc_R (r:Int×Unit):Arg.enc r=.c (.raw (.int .i32 r.1)):=rfl
theorem textIs_ev (r:Int):PEv Tryz.prog 144 [.c (.raw (.int .i32 r))] (.c (.raw (.bool (runeB r)))):=by
 refine tells_of mixed (F:=[]) trivial Tryz.func144 sl144 ok144 (by kernel_rfl) (by simp -implicitDefEqProofs (maxSteps:=400000) (maxDischargeDepth:=6)) (by simp -implicitDefEqProofs (maxSteps:=400000) (maxDischargeDepth:=6)) ?_
 by_cases h0:r=10
 ·simp -implicitDefEqProofs (maxSteps:=400000) (maxDischargeDepth:=6) [s144,h0,runeB]
 ·by_cases h1:r<32
  ·simp -implicitDefEqProofs (maxSteps:=400000) (maxDischargeDepth:=6) [s144,h0,h1,runeB,show ¬32≤r by omega]
  ·by_cases h2:1114111<r
   ·simp -implicitDefEqProofs (maxSteps:=400000) (maxDischargeDepth:=6) [s144,h0,h1,h2,runeB,show ¬r≤1114111 by omega]
   ·by_cases h3:r=127
    ·subst h3;simp -implicitDefEqProofs (maxSteps:=400000) (maxDischargeDepth:=6) [s144,runeB]
    ·by_cases h4:r=65533
     ·subst h4;simp -implicitDefEqProofs (maxSteps:=400000) (maxDischargeDepth:=6) [s144,runeB]
     ·by_cases h5:r≤55295
      ·simp -implicitDefEqProofs (maxSteps:=400000) (maxDischargeDepth:=6) [s144,h0,h1,h2,h3,h4,h5,runeB]
       omega
      ·by_cases h6:57344≤r
       ·simp -implicitDefEqProofs (maxSteps:=400000) (maxDischargeDepth:=6) [s144,h0,h1,h2,h3,h4,h5,h6,runeB]
        omega
       ·simp -implicitDefEqProofs (maxSteps:=400000) (maxDischargeDepth:=6) [s144,h0,h1,h2,h3,h4,h5,h6,runeB]
def FO0_h144:List AV→Option (Prop×AV):=t1 (fun _=>True) fun r:Int×Unit=>.c (.raw (.bool (runeB r.1)))
@[simp] theorem FO0_ap144 {l:List AV}:FO0_h144 l=(t1 (fun _=>True) fun r:Int×Unit=>.c (.raw (.bool (runeB r.1)))) l:=rfl
def FO0:CT:=(144,.pu FO0_h144)::FS1
theorem FO0_ok:CTok Tryz.prog FO0:=⟨tells1 fun r _=>textIs_ev r.1,FS1_ok⟩
@[simp] theorem FO0_get144:ctGet FO0 144=some (.pu FO0_h144):=rfl
@[simp] theorem FO0_skip {n:Nat} (h:(n==144)=false):ctGet FO0 n=ctGet FS1 n:=by
 simp only [Bool.or_eq_false_iff,beq_eq_false_iff_ne,ne_eq] at h
 simp [FO0,ctGet,h]
theorem textBad_ev (r:Int):PEv Tryz.prog 134 [.c (.raw (.int .i32 r))] (.c (.raw (.bool (!runeB r)))):=by
 refine tells_of mixed FO0_ok Tryz.func134 sl134 ok134 (by kernel_rfl) (by simp -implicitDefEqProofs (maxSteps:=400000) (maxDischargeDepth:=6)) (by simp -implicitDefEqProofs (maxSteps:=400000) (maxDischargeDepth:=6)) ?_
 simp -implicitDefEqProofs (maxSteps:=400000) (maxDischargeDepth:=6) [s134]
def textB (s:List UInt8):Bool:=!decide (0≤Lib.idxFunc (fun r=>!runeB (r:Int)) true ⟨s.toArray⟩)
theorem pev_bool_calls {f:FuncId} {args:List AV} {b:Bool} (hp:PEv Tryz.prog f args (.c (.raw (.bool b)))) {w:World} (hI:Inv Tryz.prog w) {vs:Array Value} (hs:vs.size=args.length)
  (hr:∀(k:Nat) x,args[k]?=some x→RelV w (Fr (Ctx.of w hI fun _ _=>True) noHeap noLies) noHeap noLies x (vs.getD k undef)) :
  Calls Tryz.prog f vs w fun e w'=>e=.returned (.bool b)∧RowKit.Below w.heap.size w w':=by
 refine (hp.2 w hI (fun _ _=>True) vs hs hr (fun k=>(0,k)) (fun i j h=>by simpa using h)).mono ?_
 rintro e w' ⟨v,rfl,ρ,hH,hR⟩
 have hv:=relC_raw (relV_c hR)
 subst hv
 exact ⟨rfl,hH.below⟩
theorem containsBad_ev (s:List UInt8):PEv Tryz.prog 133 [.c (.str s),.c (.fn 134 [])] (.c (.raw (.bool (decide (0≤Lib.idxFunc (fun r=>!runeB (r:Int)) true ⟨s.toArray⟩))))):=by
 refine pev_raw (by kernel_rfl) (by simp -implicitDefEqProofs (maxSteps:=400000) (maxDischargeDepth:=6)) fun w hI F vs hs hr=>?_
 have h0:=relC_str (relV_c (hr 0 _ rfl))
 have h1:vs.getD 1 undef=.func (.func 134) #[] #[]:=by
  have:=relV_c (hr 1 _ rfl)
  generalize vs.getD 1 undef=u at this
  cases this with
  |fn _ _ us hl _=>
   obtain rfl:us=#[]:=by
    cases us;simp -implicitDefEqProofs (maxSteps:=400000) (maxDischargeDepth:=6) at hl;subst hl;rfl
   rfl
 rw [vs2 hs h0 h1]
 refine Any.strings_ContainsFunc_grows lays17 134 #[] (fun args w=>callFunc_run (by kernel_rfl) args w) (fun r=>!runeB (r:Int)) ⟨s.toArray⟩ w ?_
 intro W x _ hb
 exact pev_bool_calls (textBad_ev (x:Int)) (hI.keep hb) rfl fun k y hk=>by
  match k,hk with
  |0,hk=>
   simp -implicitDefEqProofs (maxSteps:=400000) (maxDischargeDepth:=6) at hk
   subst hk
   exact .c _ _ (.raw _)
theorem textMay_ev (s:List UInt8):PEv Tryz.prog 123 [.c (.str s)] (.c (.raw (.bool (textB s)))):=by
 refine tells_of mixed FO0_ok Tryz.func123 sl123 ok123 (by kernel_rfl) (by simp -implicitDefEqProofs (maxSteps:=400000) (maxDischargeDepth:=6)) (by simp -implicitDefEqProofs (maxSteps:=400000) (maxDischargeDepth:=6)) ?_
 simp -implicitDefEqProofs (maxSteps:=400000) (maxDischargeDepth:=6) [s123]
 refine acall_pure (containsBad_ev s) (by simp -implicitDefEqProofs (maxSteps:=400000) (maxDischargeDepth:=6)) (by simp -implicitDefEqProofs (maxSteps:=400000) (maxDischargeDepth:=6)) (by simp -implicitDefEqProofs (maxSteps:=400000) (maxDischargeDepth:=6)) ?_
 simp -implicitDefEqProofs (maxSteps:=400000) (maxDischargeDepth:=6) [textB]
def runesN (s:List UInt8):Nat:=Lib.runeCount ⟨s.toArray⟩
theorem runeCount_ev (s:List UInt8) (hs:s.length<9223372036854775807):PEv Tryz.prog 135 [.c (.str s)] (.c (.raw (.int .i64 (runesN s)))):=by
 refine pev_raw (by kernel_rfl) (by simp -implicitDefEqProofs (maxSteps:=400000) (maxDischargeDepth:=6)) fun w hI F vs hs' hr=>?_
 have h0:=relC_str (relV_c (hr 0 _ rfl))
 rw [vs1 hs' h0]
 refine (Any.utf8_RuneCountInString lays195 ⟨s.toArray⟩ w (by simpa [ByteArray.size] using hs)).mono ?_
 rintro e w' ⟨he,pos,rfl⟩
 exact ⟨he,(RowKit.Below.refl _ w).alloc (Nat.le_refl _) _⟩
def FO1_h123:List AV→Option (Prop×AV):=t1 (fun _=>True) fun s:List UInt8=>.c (.raw (.bool (textB s)))
@[simp] theorem FO1_ap123 {l:List AV}:FO1_h123 l=(t1 (fun _=>True) fun s:List UInt8=>.c (.raw (.bool (textB s)))) l:=rfl
def FO1_h135:List AV→Option (Prop×AV):=t1 (fun s=>s.length<9223372036854775807) fun s:List UInt8=>.c (.raw (.int .i64 (runesN s)))
@[simp] theorem FO1_ap135 {l:List AV}:FO1_h135 l=(t1 (fun s=>s.length<9223372036854775807) fun s:List UInt8=>.c (.raw (.int .i64 (runesN s)))) l:=rfl
def FO1:CT:=(123,.pu FO1_h123)::(135,.pu FO1_h135)::FO0
theorem FO1_ok:CTok Tryz.prog FO1:=⟨tells1 fun s _=>textMay_ev s,
 tells1 fun s h=>runeCount_ev s h,FO0_ok⟩
@[simp] theorem FO1_get123:ctGet FO1 123=some (.pu FO1_h123):=rfl
@[simp] theorem FO1_get135:ctGet FO1 135=some (.pu FO1_h135):=rfl
@[simp] theorem FO1_skip {n:Nat} (h:(n==123||n==135)=false):ctGet FO1 n=ctGet FO0 n:=by
 simp only [Bool.or_eq_false_iff,beq_eq_false_iff_ne,ne_eq] at h
 simp [FO1,ctGet,h]
theorem isSite_ev (n:Int):PEv Tryz.prog 120 [.c (.raw (.int .i64 n))] (.c (.raw (.bool (decide (1≤n∧n≤8))))):=by
 refine tells_of mixed (F:=[]) trivial Tryz.func120 sl120 ok120 (by kernel_rfl) (by simp -implicitDefEqProofs (maxSteps:=400000) (maxDischargeDepth:=6)) (by simp -implicitDefEqProofs (maxSteps:=400000) (maxDischargeDepth:=6)) ?_
 by_cases h1:1≤n
 ·by_cases h2:n≤8
  ·simp -implicitDefEqProofs (maxSteps:=400000) (maxDischargeDepth:=6) [s120,h1,h2]
  ·simp -implicitDefEqProofs (maxSteps:=400000) (maxDischargeDepth:=6) [s120,h1,h2]
 ·simp -implicitDefEqProofs (maxSteps:=400000) (maxDischargeDepth:=6) [s120,h1]
theorem cmpNaN_ev (n:Int):PEv Tryz.prog 150 [.c (.raw (.int .i64 n))] (.c (.raw (.bool false))):=by
 refine tells_of mixed (F:=[]) trivial Tryz.func150 sl150 ok150 (by kernel_rfl) (by simp -implicitDefEqProofs (maxSteps:=400000) (maxDischargeDepth:=6)) (by simp -implicitDefEqProofs (maxSteps:=400000) (maxDischargeDepth:=6)) ?_
 simp -implicitDefEqProofs (maxSteps:=400000) (maxDischargeDepth:=6) [s150]
def cmpI (a b:Int):Int:=if a<b then -1 else if b<a then 1 else 0
def nameB (site seq:Int):Bool:=decide (1≤site∧site≤8)&&decide (1≤seq∧seq≤268435456)
def FO2_h120:List AV→Option (Prop×AV):=t1 (fun _=>True) fun n:Int=>.c (.raw (.bool (decide (1≤n∧n≤8))))
@[simp] theorem FO2_ap120 {l:List AV}:FO2_h120 l=(t1 (fun _=>True) fun n:Int=>.c (.raw (.bool (decide (1≤n∧n≤8))))) l:=rfl
def FO2_h150:List AV→Option (Prop×AV):=t1 (fun _=>True) fun n:Int=>.c (.raw (.bool false))
@[simp] theorem FO2_ap150 {l:List AV}:FO2_h150 l=(t1 (fun _=>True) fun n:Int=>.c (.raw (.bool false))) l:=rfl
def FO2:CT:=(120,.pu FO2_h120)::(150,.pu FO2_h150)::FO1
theorem FO2_ok:CTok Tryz.prog FO2:=⟨tells1 fun n _=>isSite_ev n,
 tells1 fun n _=>cmpNaN_ev n,FO1_ok⟩
@[simp] theorem FO2_get120:ctGet FO2 120=some (.pu FO2_h120):=rfl
@[simp] theorem FO2_get150:ctGet FO2 150=some (.pu FO2_h150):=rfl
@[simp] theorem FO2_skip {n:Nat} (h:(n==120||n==150)=false):ctGet FO2 n=ctGet FO1 n:=by
 simp only [Bool.or_eq_false_iff,beq_eq_false_iff_ne,ne_eq] at h
 simp [FO2,ctGet,h]
theorem cmp_ev (a b:Int):PEv Tryz.prog 149 [.c (.raw (.int .i64 a)),.c (.raw (.int .i64 b))] (.c (.raw (.int .i64 (cmpI a b)))):=by
 refine tells_of mixed FO2_ok Tryz.func149 sl149 ok149 (by kernel_rfl) (by simp -implicitDefEqProofs (maxSteps:=400000) (maxDischargeDepth:=6)) (by simp -implicitDefEqProofs (maxSteps:=400000) (maxDischargeDepth:=6)) ?_
 by_cases h1:a<b
 ·simp -implicitDefEqProofs (maxSteps:=400000) (maxDischargeDepth:=6) [s149,h1,cmpI]
 ·by_cases h2:b<a
  ·simp -implicitDefEqProofs (maxSteps:=400000) (maxDischargeDepth:=6) [s149,h1,h2,cmpI]
  ·simp -implicitDefEqProofs (maxSteps:=400000) (maxDischargeDepth:=6) [s149,h1,h2,cmpI]
theorem opName_ev (a b:Int):PEv Tryz.prog 97 [.c (.raw (.int .i64 a)),.c (.raw (.int .i64 b))] (.c (.raw (.bool (nameB a b)))):=by
 refine tells_of mixed FO2_ok Tryz.func97 sl97 ok97 (by kernel_rfl) (by simp -implicitDefEqProofs (maxSteps:=400000) (maxDischargeDepth:=6)) (by simp -implicitDefEqProofs (maxSteps:=400000) (maxDischargeDepth:=6)) ?_
 by_cases h1:1≤a∧a≤8
 ·by_cases h2:1≤b
  ·by_cases h3:b≤268435456
   ·simp -implicitDefEqProofs (maxSteps:=400000) (maxDischargeDepth:=6) [s97,h1,h2,h3,nameB]
   ·simp -implicitDefEqProofs (maxSteps:=400000) (maxDischargeDepth:=6) [s97,h1,h2,h3,nameB]
  ·simp -implicitDefEqProofs (maxSteps:=400000) (maxDischargeDepth:=6) [s97,h1,h2,nameB]
 ·simp -implicitDefEqProofs (maxSteps:=400000) (maxDischargeDepth:=6) [s97,h1,nameB]
end Go.AE
set_option linter.unusedVariables false
set_option linter.unusedSimpArgs false
set_option maxHeartbeats 4000000
set_option maxRecDepth 100000
namespace Go.AE
open Go Go.Proofs
def FO3_h149:List AV→Option (Prop×AV):=t2 (fun _ _=>True) fun a b:Int=>.c (.raw (.int .i64 (cmpI a b)))
@[simp] theorem FO3_ap149 {l:List AV}:FO3_h149 l=(t2 (fun _ _=>True) fun a b:Int=>.c (.raw (.int .i64 (cmpI a b)))) l:=rfl
def FO3_h97:List AV→Option (Prop×AV):=t2 (fun _ _=>True) fun a b:Int=>.c (.raw (.bool (nameB a b)))
@[simp] theorem FO3_ap97 {l:List AV}:FO3_h97 l=(t2 (fun _ _=>True) fun a b:Int=>.c (.raw (.bool (nameB a b)))) l:=rfl
def FO3:CT:=(149,.pu FO3_h149)::(97,.pu FO3_h97)::FO2
theorem FO3_ok:CTok Tryz.prog FO3:=⟨tells2 fun a b _=>cmp_ev a b,
 tells2 fun a b _=>opName_ev a b,FO2_ok⟩
@[simp] theorem FO3_get149:ctGet FO3 149=some (.pu FO3_h149):=rfl
@[simp] theorem FO3_get97:ctGet FO3 97=some (.pu FO3_h97):=rfl
@[simp] theorem FO3_skip {n:Nat} (h:(n==149||n==97)=false):ctGet FO3 n=ctGet FO2 n:=by
 simp only [Bool.or_eq_false_iff,beq_eq_false_iff_ne,ne_eq] at h
 simp [FO3,ctGet,h]
def orI:List Int→Int
 |[]=>0
 |x::l=>if x=0 then orI l else x
theorem cmpOr_ev (l:List Int) (hl:l.length<4611686018427387904):PEv Tryz.prog 148 [.c (.sl .brw false (rowsE l))] (.c (.raw (.int .i64 (orI l)))):=by
 refine tells_of mixed (F:=[]) trivial Tryz.func148 sl148 ok148 (by kernel_rfl) (by simp -implicitDefEqProofs (maxSteps:=400000) (maxDischargeDepth:=6)) (by simp -implicitDefEqProofs (maxSteps:=400000) (maxDischargeDepth:=6)) ?_
 simp -implicitDefEqProofs (maxSteps:=400000) (maxDischargeDepth:=6) [s148]
 refine loop_n (fun n st=>∃i:Nat,i≤l.length∧n=l.length-i∧st.s 6=.c (.sl .brw false (rowsE l))∧st.s 3=.c (.raw (.int .i64 0))∧st.s 2=.c (.raw (.int .i64 0))∧st.s 7=.c (.raw (.int .i64 l.length))∧st.s 8=.c (.raw (.int .i64 i))∧orI (l.drop i)=orI l) l.length ⟨0,by simp -implicitDefEqProofs (maxSteps:=400000) (maxDischargeDepth:=6)⟩ ?_
 rintro n st ⟨i,hi,rfl,h6,h3,h2,h7,h8,hp⟩
 by_cases hlt:i<l.length
 ·have hlt':(i:Int)<l.length:=by omega
  have hw:IntKind.wrap .i64 ((i:Int)+1)=((i+1:Nat):Int):=by rw [wrap64_id]<;>omega
  have hd:l.drop i=l[i]::l.drop (i+1):=by rw [List.drop_eq_getElem_cons hlt]
  by_cases h0:l[i]=0
  ·simp -implicitDefEqProofs (maxSteps:=400000) (maxDischargeDepth:=6) [s148L0,h6,h3,h2,h7,h8,hlt,hlt',hw,h0]
   refine ⟨_,?_,i+1,by omega,rfl,by simp -implicitDefEqProofs (maxSteps:=400000) (maxDischargeDepth:=6),?_⟩
   ·omega
   ·rw [←hp,hd,orI,if_pos h0]
  ·simp -implicitDefEqProofs (maxSteps:=400000) (maxDischargeDepth:=6) [s148L0,h6,h3,h2,h7,h8,hlt,hlt',hw,h0]
   rw [←hp,hd,orI,if_neg h0]
 ·have:i=l.length:=by omega
  subst this
  simp -implicitDefEqProofs (maxSteps:=400000) (maxDischargeDepth:=6) [s148L0,h6,h3,h2,h7,h8]
  rw [←hp]
  simp -implicitDefEqProofs (maxSteps:=400000) (maxDischargeDepth:=6) [orI]
def elemB (e:ElemV):Bool:=decide (e=⟨0,0,0⟩)||(nameB e.site e.seq&&decide (0≤e.i)&&decide (e.i<12))
theorem isElem_ev (e:ElemV):PEv Tryz.prog 121 [Arg.enc e] (.c (.raw (.bool (elemB e)))):=by
 refine tells_of mixed FO3_ok Tryz.func121 sl121 ok121 (by kernel_rfl) (by simp -implicitDefEqProofs (maxSteps:=400000) (maxDischargeDepth:=6)) (by simp -implicitDefEqProofs (maxSteps:=400000) (maxDischargeDepth:=6)) ?_
 obtain ⟨a,b,c⟩:=e
 by_cases h0:a=0∧b=0∧c=0
 ·obtain ⟨rfl,rfl,rfl⟩:=h0
  simp -implicitDefEqProofs (maxSteps:=400000) (maxDischargeDepth:=6) [s121,elemB]
 ·have h0':(decide (a=0)&&(decide (b=0)&&decide (c=0)))=false:=by simpa using h0
  have h0'':(decide ((⟨a,b,c⟩:ElemV)=⟨0,0,0⟩))=false:=by simpa using h0
  cases h1:nameB a b
  ·simp -implicitDefEqProofs (maxSteps:=400000) (maxDischargeDepth:=6) [s121,h0',h1,elemB,h0'']
  ·by_cases h2:0≤c
   ·simp -implicitDefEqProofs (maxSteps:=400000) (maxDischargeDepth:=6) [s121,h0',h1,h2,elemB,h0'']
   ·simp -implicitDefEqProofs (maxSteps:=400000) (maxDischargeDepth:=6) [s121,h0',h1,h2,elemB,h0'']
def ownB (o:OpV) (e:ElemV):Bool:=decide (e.site=o.site)&&decide (e.seq=o.seq)
theorem own_ev (o:OpV) (e:ElemV):PEv Tryz.prog 122 [Arg.enc o,Arg.enc e] (.c (.raw (.bool (ownB o e)))):=by
 refine tells_of mixed (F:=[]) trivial Tryz.func122 sl122 ok122 (by kernel_rfl) (by simp -implicitDefEqProofs (maxSteps:=400000) (maxDischargeDepth:=6)) (by simp -implicitDefEqProofs (maxSteps:=400000) (maxDischargeDepth:=6) [opRow]) ?_
 obtain ⟨o1,o2,o3,o4,o5,o6,o7,o8,o9⟩:=o
 obtain ⟨a,b,c⟩:=e
 by_cases h1:a=o1
 ·simp -implicitDefEqProofs (maxSteps:=400000) (maxDischargeDepth:=6) [s122,h1,ownB,opRow]
 ·simp -implicitDefEqProofs (maxSteps:=400000) (maxDischargeDepth:=6) [s122,h1,ownB,opRow]
def compareE (a b:ElemV):Int:=orI [cmpI a.site b.site,cmpI a.seq b.seq,cmpI a.i b.i]
def FO4_h148:List AV→Option (Prop×AV):=t1 (fun l=>l.length<4611686018427387904) fun l:List Int=>.c (.raw (.int .i64 (orI l)))
@[simp] theorem FO4_ap148 {l:List AV}:FO4_h148 l=(t1 (fun l=>l.length<4611686018427387904) fun l:List Int=>.c (.raw (.int .i64 (orI l)))) l:=rfl
def FO4_h121:List AV→Option (Prop×AV):=t1 (fun _=>True) fun e:ElemV=>.c (.raw (.bool (elemB e)))
@[simp] theorem FO4_ap121 {l:List AV}:FO4_h121 l=(t1 (fun _=>True) fun e:ElemV=>.c (.raw (.bool (elemB e)))) l:=rfl
def FO4_h122:List AV→Option (Prop×AV):=t2 (fun _ _=>True) fun (o:OpV) (e:ElemV)=>.c (.raw (.bool (ownB o e)))
@[simp] theorem FO4_ap122 {l:List AV}:FO4_h122 l=(t2 (fun _ _=>True) fun (o:OpV) (e:ElemV)=>.c (.raw (.bool (ownB o e)))) l:=rfl
def FO4:CT:=(148,.pu FO4_h148)::(121,.pu FO4_h121)::(122,.pu FO4_h122)::FO3
theorem FO4_ok:CTok Tryz.prog FO4:=⟨tells1 fun l h=>cmpOr_ev l h,
 tells1 fun e _=>isElem_ev e,
 tells2 fun o e _=>own_ev o e,FO3_ok⟩
@[simp] theorem FO4_get148:ctGet FO4 148=some (.pu FO4_h148):=rfl
@[simp] theorem FO4_get121:ctGet FO4 121=some (.pu FO4_h121):=rfl
@[simp] theorem FO4_get122:ctGet FO4 122=some (.pu FO4_h122):=rfl
@[simp] theorem FO4_skip {n:Nat} (h:(n==148||n==121||n==122)=false):ctGet FO4 n=ctGet FO3 n:=by
 simp only [Bool.or_eq_false_iff,beq_eq_false_iff_ne,ne_eq] at h
 simp [FO4,ctGet,h]
theorem rows3 (a b c:Int):[[AC.raw (.int .i64 a)],[AC.raw (.int .i64 b)],[AC.raw (.int .i64 c)]]=rowsE [a,b,c]:=rfl
theorem take3 (a b c:Int):List.take 3 (rowsE [a,b,c])=rowsE [a,b,c]:=rfl
theorem compare_ev (a b:ElemV):PEv Tryz.prog 145 [Arg.enc a,Arg.enc b] (.c (.raw (.int .i64 (compareE a b)))):=by
 refine tells_of mixed FO4_ok Tryz.func145 sl145 ok145 (by kernel_rfl) (by simp -implicitDefEqProofs (maxSteps:=400000) (maxDischargeDepth:=6)) (by simp -implicitDefEqProofs (maxSteps:=400000) (maxDischargeDepth:=6)) ?_
 simp -implicitDefEqProofs (maxSteps:=400000) (maxDischargeDepth:=6) [s145,rows3,take3,compareE]
def FO5_h145:List AV→Option (Prop×AV):=t2 (fun _ _=>True) fun (a b:ElemV)=>.c (.raw (.int .i64 (compareE a b)))
@[simp] theorem FO5_ap145 {l:List AV}:FO5_h145 l=(t2 (fun _ _=>True) fun (a b:ElemV)=>.c (.raw (.int .i64 (compareE a b)))) l:=rfl
def FO5:CT:=(145,.pu FO5_h145)::FO4
theorem FO5_ok:CTok Tryz.prog FO5:=⟨tells2 fun a b _=>compare_ev a b,FO4_ok⟩
@[simp] theorem FO5_get145:ctGet FO5 145=some (.pu FO5_h145):=rfl
@[simp] theorem FO5_skip {n:Nat} (h:(n==145)=false):ctGet FO5 n=ctGet FO4 n:=by
 simp only [Bool.or_eq_false_iff,beq_eq_false_iff_ne,ne_eq] at h
 simp [FO5,ctGet,h]
def lessB (a b:ElemV):Bool:=decide (compareE a b<0)
theorem less_ev (a b:ElemV):PEv Tryz.prog 136 [Arg.enc a,Arg.enc b] (.c (.raw (.bool (lessB a b)))):=by
 refine tells_of mixed FO5_ok Tryz.func136 sl136 ok136 (by kernel_rfl) (by simp -implicitDefEqProofs (maxSteps:=400000) (maxDischargeDepth:=6)) (by simp -implicitDefEqProofs (maxSteps:=400000) (maxDischargeDepth:=6)) ?_
 simp -implicitDefEqProofs (maxSteps:=400000) (maxDischargeDepth:=6) [s136,lessB]
theorem size_ev (o:OpV) (h:o.text.length<9223372036854775807):PEv Tryz.prog 124 [Arg.enc o] (.c (.raw (.int .i64 (runesN o.text)))):=by
 refine tells_of mixed FO5_ok Tryz.func124 sl124 ok124 (by kernel_rfl) (by simp -implicitDefEqProofs (maxSteps:=400000) (maxDischargeDepth:=6)) (by simp -implicitDefEqProofs (maxSteps:=400000) (maxDischargeDepth:=6) [opRow]) ?_
 simp -implicitDefEqProofs (maxSteps:=400000) (maxDischargeDepth:=6) [s124,opRow,h]
def goneG (o:OpV):Option ElemV→List ElemV→Bool
 |_,[]=>true
 |p,e::l=>if decide (e=⟨0,0,0⟩)||!elemB e||ownB o e||(match p with|none=>false|some q=>!lessB q e) then false else goneG o (some e) l
def goneB (o:OpV):Bool:=goneG o none o.gone&&decide (o.gone.length≤200)
def FO6_h136:List AV→Option (Prop×AV):=t2 (fun _ _=>True) fun (a b:ElemV)=>.c (.raw (.bool (lessB a b)))
@[simp] theorem FO6_ap136 {l:List AV}:FO6_h136 l=(t2 (fun _ _=>True) fun (a b:ElemV)=>.c (.raw (.bool (lessB a b)))) l:=rfl
def FO6_h124:List AV→Option (Prop×AV):=t1 (fun o=>o.text.length<9223372036854775807) fun o:OpV=>.c (.raw (.int .i64 (runesN o.text)))
@[simp] theorem FO6_ap124 {l:List AV}:FO6_h124 l=(t1 (fun o=>o.text.length<9223372036854775807) fun o:OpV=>.c (.raw (.int .i64 (runesN o.text)))) l:=rfl
def FO6:CT:=(136,.pu FO6_h136)::(124,.pu FO6_h124)::FO5
theorem FO6_ok:CTok Tryz.prog FO6:=⟨tells2 fun a b _=>less_ev a b,
 tells1 fun o h=>size_ev o h,FO5_ok⟩
@[simp] theorem FO6_get136:ctGet FO6 136=some (.pu FO6_h136):=rfl
@[simp] theorem FO6_get124:ctGet FO6 124=some (.pu FO6_h124):=rfl
@[simp] theorem FO6_skip {n:Nat} (h:(n==136||n==124)=false):ctGet FO6 n=ctGet FO5 n:=by
 simp only [Bool.or_eq_false_iff,beq_eq_false_iff_ne,ne_eq] at h
 simp [FO6,ctGet,h]
end Go.AE
set_option linter.unusedVariables false
set_option linter.unusedSimpArgs false
set_option maxHeartbeats 4000000
set_option maxRecDepth 100000
namespace Go.AE
open Go Go.Proofs
def prevE (l:List ElemV):Nat→Option ElemV
 |0=>none
 |i+1=>l[i]?
theorem elem0 (e:ElemV):(decide (e.site=0)&&(decide (e.seq=0)&&decide (e.i=0)))=decide (e=⟨0,0,0⟩):=by
 obtain ⟨a,b,c⟩:=e
 by_cases h1:a=0<;>by_cases h2:b=0<;>by_cases h3:c=0<;>simp -implicitDefEqProofs (maxSteps:=400000) (maxDischargeDepth:=6) [h1,h2,h3]
theorem goneG_step (o:OpV) {i:Nat} (hi:i<o.gone.length):goneG o (prevE o.gone i) (o.gone.drop i) =
  if decide (o.gone[i]=⟨0,0,0⟩)||!elemB o.gone[i]||ownB o o.gone[i]||(match prevE o.gone i with|none=>false|some q=>!lessB q o.gone[i]) then false else goneG o (prevE o.gone (i+1)) (o.gone.drop (i+1)):=by
 rw [List.drop_eq_getElem_cons hi]
 have e:prevE o.gone (i+1)=some o.gone[i]:=by simp -implicitDefEqProofs (maxSteps:=400000) (maxDischargeDepth:=6) [prevE,hi]
 rw [e]
 cases prevE o.gone i<;>rfl
theorem gone_ev (o:OpV) (hl:o.gone.length<4611686018427387904):PEv Tryz.prog 125 [Arg.enc o] (.c (.raw (.bool (goneB o)))):=by
 refine tells_of mixed FO6_ok Tryz.func125 sl125 ok125 (by kernel_rfl) (by simp -implicitDefEqProofs (maxSteps:=400000) (maxDischargeDepth:=6)) (by simp -implicitDefEqProofs (maxSteps:=400000) (maxDischargeDepth:=6) [opRow]) ?_
 simp -implicitDefEqProofs (maxSteps:=400000) (maxDischargeDepth:=6) [s125,opRow]
 refine loop_n (fun n st=>∃i:Nat,i≤o.gone.length∧n=o.gone.length-i∧st.s 1=.c (.pt (0,1) 0 0)∧st.s 6=.c (.sl .brw false (rowsE o.gone))∧st.s 7=.c (.raw (.int .i64 o.gone.length))∧st.s 8=.c (.raw (.int .i64 i))∧st.H (0,1)=.arr 46 11 false [opRow .brw o]∧0<st.T∧Fresh st.H st.T∧goneG o (prevE o.gone i) (o.gone.drop i)=goneG o none o.gone) o.gone.length ⟨0,by simp -implicitDefEqProofs (maxSteps:=400000) (maxDischargeDepth:=6) [prevE,opRow];exact Fresh.set' (fresh_no.mono (Nat.zero_le _)) (by simp -implicitDefEqProofs (maxSteps:=400000) (maxDischargeDepth:=6))⟩ ?_
 rintro n st ⟨i,hi,rfl,h1,h6,h7,h8,hH,hT,hf,hp⟩
 have hfu:∀k d,st.T≤k→st.H (k,d)=.unborn:=hf
 by_cases hlt:i<o.gone.length
 ·have hlt':(i:Int)<o.gone.length:=by omega
  have hw:IntKind.wrap .i64 ((i:Int)+1)=((i+1:Nat):Int):=by rw [wrap64_id]<;>omega
  rw [goneG_step o hlt] at hp
  have hz:=elem0 o.gone[i]
  cases z:decide (o.gone[i]=⟨0,0,0⟩)
  ·rw [z] at hz hp
   cases he:elemB o.gone[i]
   ·have hg:goneB o=false:=by simp -implicitDefEqProofs (maxSteps:=400000) (maxDischargeDepth:=6) [goneB,←hp,he]
    simp -implicitDefEqProofs (maxSteps:=400000) (maxDischargeDepth:=6) [s125L0,h1,h6,h7,h8,hH,opRow,hlt,hlt',hw,hfu,hz,he,hg]
   ·cases hw':ownB o o.gone[i]
    ·by_cases h0:i=0
     ·subst h0
      have hp':goneG o (prevE o.gone 1) (o.gone.drop 1)=goneG o none o.gone:=by rw [←hp];simp -implicitDefEqProofs (maxSteps:=400000) (maxDischargeDepth:=6) [he,hw',prevE]
      simp -implicitDefEqProofs (maxSteps:=400000) (maxDischargeDepth:=6) [s125L0,h1,h6,h7,h8,hH,opRow,hlt,hlt',hw,hfu,hz,he,hw']
      refine ⟨_,?_,1,by omega,rfl,rfl,?_,hp'⟩
      ·omega
      ·repeat' (first|exact hf.mono (by first|omega|(simp<;>omega))|(refine Fresh.set' ?_ (by first|omega|(simp<;>omega))))
     ·obtain ⟨j,hj⟩:∃j,j+1=i:=⟨i-1,by omega⟩
      have hjl:j<o.gone.length:=by omega
      have hpe:prevE o.gone i=some o.gone[j]:=by subst hj;simp -implicitDefEqProofs (maxSteps:=400000) (maxDischargeDepth:=6) [prevE,hjl]
      have hs:IntKind.wrap .i64 ((i:Int)-1)=(j:Int):=by rw [wrap64_id]<;>omega
      have hpos:0<i:=by omega
      cases hl':lessB o.gone[j] o.gone[i]
      ·have hg:goneB o=false:=by simp -implicitDefEqProofs (maxSteps:=400000) (maxDischargeDepth:=6) [goneB,←hp,he,hpe,hl']
       simp -implicitDefEqProofs (maxSteps:=400000) (maxDischargeDepth:=6) [s125L0,h1,h6,h7,h8,hH,opRow,hlt,hlt',hw,hfu,hz,he,hw',hl',hs,hjl,hpos,h0,hg]
      ·have hp':goneG o (prevE o.gone (i+1)) (o.gone.drop (i+1))=goneG o none o.gone:=by rw [←hp];simp -implicitDefEqProofs (maxSteps:=400000) (maxDischargeDepth:=6) [he,hw',hpe,hl']
       simp -implicitDefEqProofs (maxSteps:=400000) (maxDischargeDepth:=6) [s125L0,h1,h6,h7,h8,hH,opRow,hlt,hlt',hw,hfu,hz,he,hw',hl',hs,hjl,hpos,h0]
       refine ⟨_,?_,i+1,by omega,rfl,rfl,?_,hp'⟩
       ·omega
       ·repeat' (first|exact hf.mono (by first|omega|(simp<;>omega))|(refine Fresh.set' ?_ (by first|omega|(simp<;>omega))))
    ·have hg:goneB o=false:=by simp -implicitDefEqProofs (maxSteps:=400000) (maxDischargeDepth:=6) [goneB,←hp,he,hw']
     simp -implicitDefEqProofs (maxSteps:=400000) (maxDischargeDepth:=6) [s125L0,h1,h6,h7,h8,hH,opRow,hlt,hlt',hw,hfu,hz,he,hw',hg]
  ·rw [z] at hz hp
   have hg:goneB o=false:=by simp -implicitDefEqProofs (maxSteps:=400000) (maxDischargeDepth:=6) [goneB,←hp]
   simp -implicitDefEqProofs (maxSteps:=400000) (maxDischargeDepth:=6) [s125L0,h1,h6,h7,h8,hH,opRow,hlt,hlt',hw,hfu,hz,hg]
 ·have:i=o.gone.length:=by omega
  subst this
  simp -implicitDefEqProofs (maxSteps:=400000) (maxDischargeDepth:=6) at hp
  simp -implicitDefEqProofs (maxSteps:=400000) (maxDischargeDepth:=6) [s125L0,h1,h6,h7,h8,hH,opRow]
  have:goneG o none o.gone=true:=by rw [←hp];cases prevE o.gone o.gone.length<;>rfl
  simp -implicitDefEqProofs (maxSteps:=400000) (maxDischargeDepth:=6) [goneB,this]
  omega
end Go.AE
set_option linter.unusedVariables false
set_option linter.unusedSimpArgs false
set_option maxHeartbeats 4000000
set_option maxRecDepth 100000
namespace Go.AE
open Go Go.Proofs
def FO7_h125:List AV→Option (Prop×AV):=t1 (fun o=>o.gone.length<4611686018427387904) fun o:OpV=>.c (.raw (.bool (goneB o)))
@[simp] theorem FO7_ap125 {l:List AV}:FO7_h125 l=(t1 (fun o=>o.gone.length<4611686018427387904) fun o:OpV=>.c (.raw (.bool (goneB o)))) l:=rfl
def FO7_h123:List AV→Option (Prop×AV):=t1 (fun _=>True) fun s:List UInt8=>.c (.raw (.bool (textB s)))
@[simp] theorem FO7_ap123 {l:List AV}:FO7_h123 l=(t1 (fun _=>True) fun s:List UInt8=>.c (.raw (.bool (textB s)))) l:=rfl
def FO7:CT:=(125,.pu FO7_h125)::(123,.pu FO7_h123)::FO6
theorem FO7_ok:CTok Tryz.prog FO7:=⟨tells1 fun o h=>gone_ev o h,
 tells1 fun s _=>textMay_ev s,FO6_ok⟩
@[simp] theorem FO7_get125:ctGet FO7 125=some (.pu FO7_h125):=rfl
@[simp] theorem FO7_get123:ctGet FO7 123=some (.pu FO7_h123):=rfl
@[simp] theorem FO7_skip {n:Nat} (h:(n==125||n==123)=false):ctGet FO7 n=ctGet FO6 n:=by
 simp only [Bool.or_eq_false_iff,beq_eq_false_iff_ne,ne_eq] at h
 simp [FO7,ctGet,h]
def okO (o:OpV):Prop:=o.text.length<4611686018427387904∧o.gone.length<4611686018427387904
def editB (o:OpV):Bool:=
 elemB o.after&&!ownB o o.after&&!(decide (o.text=[])&&!decide (o.after=⟨0,0,0⟩))&&!(decide (o.text=[])&&decide (o.gone.length=0))&&
 textB o.text&&decide (runesN o.text≤12)&&goneB o&&decide (o.of_=0)&&decide (o.num=0)&&decide (o.gen=0)
theorem edit_ev (o:OpV) (ho:okO o):PEv Tryz.prog 98 [Arg.enc o] (.c (.raw (.bool (editB o)))):=by
 refine tells_of mixed FO7_ok Tryz.func98 sl98 ok98 (by kernel_rfl) (by simp -implicitDefEqProofs (maxSteps:=400000) (maxDischargeDepth:=6)) (by simp -implicitDefEqProofs (maxSteps:=400000) (maxDischargeDepth:=6) [opRow]) ?_
 have hz:=elem0 o.after
 have b1:o.text.length<9223372036854775807:=by have:=ho.1;omega
 have b2:=ho.2
 have er:decide ((runesN o.text:Int)≤12)=decide (runesN o.text≤12):=by
  by_cases h:runesN o.text≤12<;>simp -implicitDefEqProofs (maxSteps:=400000) (maxDischargeDepth:=6) [h]<;>omega
 cases c1:elemB o.after
 ·simp -implicitDefEqProofs (maxSteps:=400000) (maxDischargeDepth:=6) [s98,opRow,editB,c1]
 cases c2:ownB o o.after
 rotate_left
 ·simp -implicitDefEqProofs (maxSteps:=400000) (maxDischargeDepth:=6) [s98,opRow,editB,c1,c2]
 cases c3:decide (o.text=[])
 rotate_left
 ·cases c4:decide (o.after=⟨0,0,0⟩)
  ·rw [c4] at hz
   simp -implicitDefEqProofs (maxSteps:=400000) (maxDischargeDepth:=6) [s98,opRow,editB,hz,c1,c2,c3,c4]
  rw [c4] at hz
  cases c5:decide (o.gone=[])
  rotate_left
  ·simp -implicitDefEqProofs (maxSteps:=400000) (maxDischargeDepth:=6) [s98,opRow,editB,hz,c1,c2,c3,c4,c5]
  cases c6:textB o.text
  ·simp -implicitDefEqProofs (maxSteps:=400000) (maxDischargeDepth:=6) [s98,opRow,editB,hz,b1,b2,c1,c2,c3,c4,c5,c6]
  cases c7:decide (runesN o.text≤12)
  ·have c7':decide ((runesN o.text:Int)≤12)=false:=by rw [er,c7]
   simp -implicitDefEqProofs (maxSteps:=400000) (maxDischargeDepth:=6) [s98,opRow,editB,hz,b1,b2,c1,c2,c3,c4,c5,c6,c7,c7']
  have c7':decide ((runesN o.text:Int)≤12)=true:=by rw [er,c7]
  cases c8:goneB o
  ·simp -implicitDefEqProofs (maxSteps:=400000) (maxDischargeDepth:=6) [s98,opRow,editB,hz,b1,b2,c1,c2,c3,c4,c5,c6,c7,c7',c8]
  cases c9:decide (o.of_=0)
  ·simp -implicitDefEqProofs (maxSteps:=400000) (maxDischargeDepth:=6) [s98,opRow,editB,hz,b1,b2,c1,c2,c3,c4,c5,c6,c7,c7',c8,c9]
  cases c10:decide (o.num=0)
  ·simp -implicitDefEqProofs (maxSteps:=400000) (maxDischargeDepth:=6) [s98,opRow,editB,hz,b1,b2,c1,c2,c3,c4,c5,c6,c7,c7',c8,c9,c10]
  ·simp -implicitDefEqProofs (maxSteps:=400000) (maxDischargeDepth:=6) [s98,opRow,editB,hz,b1,b2,c1,c2,c3,c4,c5,c6,c7,c7',c8,c9,c10]
 ·skip
  cases c6:textB o.text
  ·simp -implicitDefEqProofs (maxSteps:=400000) (maxDischargeDepth:=6) [s98,opRow,editB,hz,b1,b2,c1,c2,c3,c6]
  cases c7:decide (runesN o.text≤12)
  ·have c7':decide ((runesN o.text:Int)≤12)=false:=by rw [er,c7]
   simp -implicitDefEqProofs (maxSteps:=400000) (maxDischargeDepth:=6) [s98,opRow,editB,hz,b1,b2,c1,c2,c3,c6,c7,c7']
  have c7':decide ((runesN o.text:Int)≤12)=true:=by rw [er,c7]
  cases c8:goneB o
  ·simp -implicitDefEqProofs (maxSteps:=400000) (maxDischargeDepth:=6) [s98,opRow,editB,hz,b1,b2,c1,c2,c3,c6,c7,c7',c8]
  cases c9:decide (o.of_=0)
  ·simp -implicitDefEqProofs (maxSteps:=400000) (maxDischargeDepth:=6) [s98,opRow,editB,hz,b1,b2,c1,c2,c3,c6,c7,c7',c8,c9]
  cases c10:decide (o.num=0)
  ·simp -implicitDefEqProofs (maxSteps:=400000) (maxDischargeDepth:=6) [s98,opRow,editB,hz,b1,b2,c1,c2,c3,c6,c7,c7',c8,c9,c10]
  ·simp -implicitDefEqProofs (maxSteps:=400000) (maxDischargeDepth:=6) [s98,opRow,editB,hz,b1,b2,c1,c2,c3,c6,c7,c7',c8,c9,c10]
end Go.AE
set_option linter.unusedVariables false
set_option linter.unusedSimpArgs false
set_option maxHeartbeats 4000000
set_option maxRecDepth 100000
namespace Go.AE
open Go Go.Proofs
theorem ElemV.ext_iff' {a b:ElemV}:a=b↔a.site=b.site∧a.seq=b.seq∧a.i=b.i:=by
 obtain ⟨a1,a2,a3⟩:=a
 obtain ⟨b1,b2,b3⟩:=b
 simp -implicitDefEqProofs (maxSteps:=400000) (maxDischargeDepth:=6)
theorem equalE_ev (a b:List ElemV) (ha:a.length<4611686018427387904):PEv Tryz.prog 119 [Arg.enc a,Arg.enc b] (.c (.raw (.bool (decide (a=b))))):=by
 refine tells_of mixed (F:=[]) trivial Tryz.func119 sl119 ok119 (by kernel_rfl) (by simp -implicitDefEqProofs (maxSteps:=400000) (maxDischargeDepth:=6)) (by simp -implicitDefEqProofs (maxSteps:=400000) (maxDischargeDepth:=6)) ?_
 simp -implicitDefEqProofs (maxSteps:=400000) (maxDischargeDepth:=6) [s119]
 refine ⟨fun h e=>h (by rw [e]),fun hl=>?_⟩
 have hl:a.length=b.length:=by omega
 refine loop_n (fun n st=>∃i:Nat,i≤a.length∧n=a.length-i∧st.s 0=.c (.sl .brw false (rowsE a))∧st.s 1=.c (.sl .brw false (rowsE b))∧st.s 12=.c (.raw (.int .i64 a.length))∧st.s 13=.c (.raw (.int .i64 i))∧a.take i=b.take i) a.length ⟨0,by simp -implicitDefEqProofs (maxSteps:=400000) (maxDischargeDepth:=6)⟩ ?_
 rintro n st ⟨i,hi,rfl,h0,h1,h12,h5,hp⟩
 by_cases hlt:i<a.length
 ·have hb:i<b.length:=by omega
  have hw:IntKind.wrap .i64 ((i:Int)+1)=((i+1:Nat):Int):=by rw [wrap64_id]<;>omega
  simp -implicitDefEqProofs (maxSteps:=400000) (maxDischargeDepth:=6) [s119L0,h0,h1,h5,h12,hlt,hb]
  refine ⟨?_,?_⟩
  ·intro hne e
   subst e
   simp -implicitDefEqProofs (maxSteps:=400000) (maxDischargeDepth:=6) at hne
  ·intro e1 e2 e3
   refine ⟨a.length-(i+1),by omega,i+1,by omega,rfl,?_,?_⟩
   ·rw [wrap64_id (by omega) (by omega)];rfl
   ·exact eq_step hp hlt hb (ElemV.ext_iff'.2 ⟨e1,e2,e3⟩)
 ·have:i=a.length:=by omega
  subst this
  simp -implicitDefEqProofs (maxSteps:=400000) (maxDischargeDepth:=6) [s119L0,h0,h1,h5,h12]
  rw [List.take_length,hl,List.take_length] at hp
  exact hp
theorem eqElems_ev (a b:List ElemV) (ha:a.length<4611686018427387904):PEv Tryz.prog 87 [Arg.enc a,Arg.enc b] (.c (.raw (.bool (decide (a=b))))):=by
 refine tells_of mixed (F:=[]) trivial Tryz.func87 sl87 ok87 (by kernel_rfl) (by simp -implicitDefEqProofs (maxSteps:=400000) (maxDischargeDepth:=6)) (by simp -implicitDefEqProofs (maxSteps:=400000) (maxDischargeDepth:=6)) ?_
 simp -implicitDefEqProofs (maxSteps:=400000) (maxDischargeDepth:=6) [s87]
 refine ⟨fun h e=>h (by rw [e]),fun hl=>?_⟩
 have hl:a.length=b.length:=by omega
 refine loop_n (fun n st=>∃i:Nat,i≤a.length∧n=a.length-i∧st.s 0=.c (.sl .brw false (rowsE a))∧st.s 1=.c (.sl .brw false (rowsE b))∧st.s 5=.c (.raw (.int .i64 i))∧a.take i=b.take i) a.length ⟨0,by simp -implicitDefEqProofs (maxSteps:=400000) (maxDischargeDepth:=6)⟩ ?_
 rintro n st ⟨i,hi,rfl,h0,h1,h5,hp⟩
 by_cases hlt:i<a.length
 ·have hb:i<b.length:=by omega
  simp -implicitDefEqProofs (maxSteps:=400000) (maxDischargeDepth:=6) [s87L0,h0,h1,h5,hlt,hb]
  refine ⟨?_,?_⟩
  ·intro hne e
   subst e
   simp -implicitDefEqProofs (maxSteps:=400000) (maxDischargeDepth:=6) at hne
  ·intro e1 e2 e3
   refine ⟨a.length-(i+1),by omega,i+1,by omega,rfl,?_,?_⟩
   ·rw [wrap64_id (by omega) (by omega)];rfl
   ·exact eq_step hp hlt hb (ElemV.ext_iff'.2 ⟨e1,e2,e3⟩)
 ·have:i=a.length:=by omega
  subst this
  simp -implicitDefEqProofs (maxSteps:=400000) (maxDischargeDepth:=6) [s87L0,h0,h1,h5]
  rw [List.take_length,hl,List.take_length] at hp
  exact hp
def FQ0_h119:List AV→Option (Prop×AV):=t2 (fun a _=>a.length<4611686018427387904) fun a b:List ElemV=>.c (.raw (.bool (decide (a=b))))
@[simp] theorem FQ0_ap119 {l:List AV}:FQ0_h119 l=(t2 (fun a _=>a.length<4611686018427387904) fun a b:List ElemV=>.c (.raw (.bool (decide (a=b))))) l:=rfl
def FQ0_h87:List AV→Option (Prop×AV):=t2 (fun a _=>a.length<4611686018427387904) fun a b:List ElemV=>.c (.raw (.bool (decide (a=b))))
@[simp] theorem FQ0_ap87 {l:List AV}:FQ0_h87 l=(t2 (fun a _=>a.length<4611686018427387904) fun a b:List ElemV=>.c (.raw (.bool (decide (a=b))))) l:=rfl
def FQ0:CT:=(119,.pu FQ0_h119)::(87,.pu FQ0_h87)::FO6
theorem FQ0_ok:CTok Tryz.prog FQ0:=⟨tells2 fun a b h=>equalE_ev a b h,
 tells2 fun a b h=>eqElems_ev a b h,FO6_ok⟩
@[simp] theorem FQ0_get119:ctGet FQ0 119=some (.pu FQ0_h119):=rfl
@[simp] theorem FQ0_get87:ctGet FQ0 87=some (.pu FQ0_h87):=rfl
@[simp] theorem FQ0_skip {n:Nat} (h:(n==119||n==87)=false):ctGet FQ0 n=ctGet FO6 n:=by
 simp only [Bool.or_eq_false_iff,beq_eq_false_iff_ne,ne_eq] at h
 simp [FQ0,ctGet,h]
end Go.AE
set_option linter.unusedVariables false
set_option linter.unusedSimpArgs false
set_option maxHeartbeats 4000000
set_option maxRecDepth 100000
namespace Go.AE
open Go Go.Proofs
def toggleB (o:OpV):Bool:=
 nameB o.of_ o.num&&!(decide (o.of_=o.site)&&decide (o.num=o.seq))&&!decide (o.gen<0)&&!decide (268435456<o.gen)&&
 decide (o.after=⟨0,0,0⟩)&&decide (o.text=[])&&decide (o.gone=[])
theorem toggle_ev (o:OpV) (ho:okO o):PEv Tryz.prog 99 [Arg.enc o] (.c (.raw (.bool (toggleB o)))):=by
 refine tells_of mixed FO7_ok Tryz.func99 sl99 ok99 (by kernel_rfl) (by simp -implicitDefEqProofs (maxSteps:=400000) (maxDischargeDepth:=6)) (by simp -implicitDefEqProofs (maxSteps:=400000) (maxDischargeDepth:=6) [opRow]) ?_
 have hz:=elem0 o.after
 cases c1:nameB o.of_ o.num
 ·simp -implicitDefEqProofs (maxSteps:=400000) (maxDischargeDepth:=6) [s99,opRow,toggleB,hz,c1]
 cases c2:decide (o.of_=o.site)
 ·cases c4:decide (o.gen<0)
  rotate_left
  ·simp -implicitDefEqProofs (maxSteps:=400000) (maxDischargeDepth:=6) [s99,opRow,toggleB,hz,c1,c2,c4]
  cases c5:decide (268435456<o.gen)
  rotate_left
  ·simp -implicitDefEqProofs (maxSteps:=400000) (maxDischargeDepth:=6) [s99,opRow,toggleB,hz,c1,c2,c4,c5]
  cases c6:decide (o.after=⟨0,0,0⟩)
  ·rw [c6] at hz
   simp -implicitDefEqProofs (maxSteps:=400000) (maxDischargeDepth:=6) [s99,opRow,toggleB,hz,c1,c2,c4,c5,c6]
  rw [c6] at hz
  cases c7:decide (o.text=[])
  ·simp -implicitDefEqProofs (maxSteps:=400000) (maxDischargeDepth:=6) [s99,opRow,toggleB,hz,c1,c2,c4,c5,c6,c7]
  ·simp -implicitDefEqProofs (maxSteps:=400000) (maxDischargeDepth:=6) [s99,opRow,toggleB,hz,c1,c2,c4,c5,c6,c7]
 cases c3:decide (o.num=o.seq)
 rotate_left
 ·simp -implicitDefEqProofs (maxSteps:=400000) (maxDischargeDepth:=6) [s99,opRow,toggleB,hz,c1,c2,c3]
 cases c4:decide (o.gen<0)
 rotate_left
 ·simp -implicitDefEqProofs (maxSteps:=400000) (maxDischargeDepth:=6) [s99,opRow,toggleB,hz,c1,c2,c3,c4]
 cases c5:decide (268435456<o.gen)
 rotate_left
 ·simp -implicitDefEqProofs (maxSteps:=400000) (maxDischargeDepth:=6) [s99,opRow,toggleB,hz,c1,c2,c3,c4,c5]
 cases c6:decide (o.after=⟨0,0,0⟩)
 ·rw [c6] at hz
  simp -implicitDefEqProofs (maxSteps:=400000) (maxDischargeDepth:=6) [s99,opRow,toggleB,hz,c1,c2,c3,c4,c5,c6]
 rw [c6] at hz
 cases c7:decide (o.text=[])
 ·simp -implicitDefEqProofs (maxSteps:=400000) (maxDischargeDepth:=6) [s99,opRow,toggleB,hz,c1,c2,c3,c4,c5,c6,c7]
 ·simp -implicitDefEqProofs (maxSteps:=400000) (maxDischargeDepth:=6) [s99,opRow,toggleB,hz,c1,c2,c3,c4,c5,c6,c7]
end Go.AE
set_option linter.unusedVariables false
set_option linter.unusedSimpArgs false
set_option maxHeartbeats 4000000
set_option maxRecDepth 100000
namespace Go.AE
open Go Go.Proofs
def FQ1_h119:List AV→Option (Prop×AV):=t2 (fun a _=>a.length<4611686018427387904) fun a b:List ElemV=>.c (.raw (.bool (decide (a=b))))
@[simp] theorem FQ1_ap119 {l:List AV}:FQ1_h119 l=(t2 (fun a _=>a.length<4611686018427387904) fun a b:List ElemV=>.c (.raw (.bool (decide (a=b))))) l:=rfl
def FQ1_h87:List AV→Option (Prop×AV):=t2 (fun a _=>a.length<4611686018427387904) fun a b:List ElemV=>.c (.raw (.bool (decide (a=b))))
@[simp] theorem FQ1_ap87 {l:List AV}:FQ1_h87 l=(t2 (fun a _=>a.length<4611686018427387904) fun a b:List ElemV=>.c (.raw (.bool (decide (a=b))))) l:=rfl
def FQ1:CT:=(119,.pu FQ1_h119)::(87,.pu FQ1_h87)::FO7
theorem FQ1_ok:CTok Tryz.prog FQ1:=⟨tells2 fun a b h=>equalE_ev a b h,
 tells2 fun a b h=>eqElems_ev a b h,FO7_ok⟩
@[simp] theorem FQ1_get119:ctGet FQ1 119=some (.pu FQ1_h119):=rfl
@[simp] theorem FQ1_get87:ctGet FQ1 87=some (.pu FQ1_h87):=rfl
@[simp] theorem FQ1_skip {n:Nat} (h:(n==119||n==87)=false):ctGet FQ1 n=ctGet FO7 n:=by
 simp only [Bool.or_eq_false_iff,beq_eq_false_iff_ne,ne_eq] at h
 simp [FQ1,ctGet,h]
theorem elemEq (a b:ElemV):(decide (a.site=b.site)&&(decide (a.seq=b.seq)&&decide (a.i=b.i)))=decide (a=b):=by
 obtain ⟨a1,a2,a3⟩:=a
 obtain ⟨b1,b2,b3⟩:=b
 by_cases h1:a1=b1<;>by_cases h2:a2=b2<;>by_cases h3:a3=b3<;>simp -implicitDefEqProofs (maxSteps:=400000) (maxDischargeDepth:=6) [h1,h2,h3]
def sameB (a b:OpV):Bool:=
 decide (a.gone=b.gone)&&decide (a.site=b.site)&&decide (a.seq=b.seq)&&decide (a.kind=b.kind)&&decide (a.after=b.after)&&decide (a.text=b.text)&&decide (a.of_=b.of_)&&decide (a.num=b.num)&&decide (a.gen=b.gen)
theorem sameB_eq (a b:OpV):sameB a b=decide (a=b):=by
 obtain ⟨a1,a2,a3,a4,a5,a6,a7,a8,a9⟩:=a
 obtain ⟨b1,b2,b3,b4,b5,b6,b7,b8,b9⟩:=b
 rw [Bool.eq_iff_iff]
 simp -implicitDefEqProofs (maxSteps:=400000) (maxDischargeDepth:=6) [sameB]
 constructor
 ·rintro ⟨⟨⟨⟨⟨⟨⟨⟨rfl,rfl⟩,rfl⟩,rfl⟩,rfl⟩,rfl⟩,rfl⟩,rfl⟩,rfl⟩
  simp -implicitDefEqProofs (maxSteps:=400000) (maxDischargeDepth:=6)
 ·rintro ⟨rfl,rfl,rfl,rfl,rfl,rfl,rfl,rfl,rfl⟩
  simp -implicitDefEqProofs (maxSteps:=400000) (maxDischargeDepth:=6)
theorem same_ev (a b:OpV) (ha:a.gone.length<4611686018427387904):PEv Tryz.prog 96 [Arg.enc a,Arg.enc b] (.c (.raw (.bool (sameB a b)))):=by
 refine tells_of mixed FQ1_ok Tryz.func96 sl96 ok96 (by kernel_rfl) (by simp -implicitDefEqProofs (maxSteps:=400000) (maxDischargeDepth:=6)) (by simp -implicitDefEqProofs (maxSteps:=400000) (maxDischargeDepth:=6) [opRow]) ?_
 have hz:=elemEq a.after b.after
 cases c1:decide (a.gone=b.gone)
 ·simp -implicitDefEqProofs (maxSteps:=400000) (maxDischargeDepth:=6) [s96,opRow,sameB,hz,c1,ha]
 cases c2:decide (a.site=b.site)
 ·simp -implicitDefEqProofs (maxSteps:=400000) (maxDischargeDepth:=6) [s96,opRow,sameB,hz,c1,c2,ha]
 cases c3:decide (a.seq=b.seq)
 ·simp -implicitDefEqProofs (maxSteps:=400000) (maxDischargeDepth:=6) [s96,opRow,sameB,hz,c1,c2,c3,ha]
 cases c4:decide (a.kind=b.kind)
 ·simp -implicitDefEqProofs (maxSteps:=400000) (maxDischargeDepth:=6) [s96,opRow,sameB,hz,c1,c2,c3,c4,ha]
 cases c5:decide (a.after=b.after)
 ·rw [c5] at hz
  simp -implicitDefEqProofs (maxSteps:=400000) (maxDischargeDepth:=6) [s96,opRow,sameB,hz,c1,c2,c3,c4,c5,ha]
 rw [c5] at hz
 cases c6:decide (a.text=b.text)
 ·simp -implicitDefEqProofs (maxSteps:=400000) (maxDischargeDepth:=6) [s96,opRow,sameB,hz,c1,c2,c3,c4,c5,c6,ha]
 cases c7:decide (a.of_=b.of_)
 ·simp -implicitDefEqProofs (maxSteps:=400000) (maxDischargeDepth:=6) [s96,opRow,sameB,hz,c1,c2,c3,c4,c5,c6,c7,ha]
 cases c8:decide (a.num=b.num)
 ·simp -implicitDefEqProofs (maxSteps:=400000) (maxDischargeDepth:=6) [s96,opRow,sameB,hz,c1,c2,c3,c4,c5,c6,c7,c8,ha]
 ·simp -implicitDefEqProofs (maxSteps:=400000) (maxDischargeDepth:=6) [s96,opRow,sameB,hz,c1,c2,c3,c4,c5,c6,c7,c8,ha]
end Go.AE
set_option linter.unusedVariables false
set_option linter.unusedSimpArgs false
set_option maxHeartbeats 4000000
set_option maxRecDepth 100000
namespace Go.AE
open Go Go.Proofs
def FM0_h98:List AV→Option (Prop×AV):=t1 okO fun o:OpV=>.c (.raw (.bool (editB o)))
@[simp] theorem FM0_ap98 {l:List AV}:FM0_h98 l=(t1 okO fun o:OpV=>.c (.raw (.bool (editB o)))) l:=rfl
def FM0_h99:List AV→Option (Prop×AV):=t1 okO fun o:OpV=>.c (.raw (.bool (toggleB o)))
@[simp] theorem FM0_ap99 {l:List AV}:FM0_h99 l=(t1 okO fun o:OpV=>.c (.raw (.bool (toggleB o)))) l:=rfl
def FM0_h96:List AV→Option (Prop×AV):=t2 (fun a _=>a.gone.length<4611686018427387904) fun a b:OpV=>.c (.raw (.bool (sameB a b)))
@[simp] theorem FM0_ap96 {l:List AV}:FM0_h96 l=(t2 (fun a _=>a.gone.length<4611686018427387904) fun a b:OpV=>.c (.raw (.bool (sameB a b)))) l:=rfl
def FM0:CT:=(98,.pu FM0_h98)::(99,.pu FM0_h99)::(96,.pu FM0_h96)::FQ1
theorem FM0_ok:CTok Tryz.prog FM0:=⟨tells1 fun o h=>edit_ev o h,
 tells1 fun o h=>toggle_ev o h,
 tells2 fun a b h=>same_ev a b h,FQ1_ok⟩
@[simp] theorem FM0_get98:ctGet FM0 98=some (.pu FM0_h98):=rfl
@[simp] theorem FM0_get99:ctGet FM0 99=some (.pu FM0_h99):=rfl
@[simp] theorem FM0_get96:ctGet FM0 96=some (.pu FM0_h96):=rfl
@[simp] theorem FM0_skip {n:Nat} (h:(n==98||n==99||n==96)=false):ctGet FM0 n=ctGet FQ1 n:=by
 simp only [Bool.or_eq_false_iff,beq_eq_false_iff_ne,ne_eq] at h
 simp [FM0,ctGet,h]
def opMayB (o:OpV):Bool:=nameB o.site o.seq&&(if o.kind=1 then editB o else decide (o.kind=2)&&toggleB o)
theorem opMay_ev (o:OpV) (ho:okO o):PEv Tryz.prog 73 [Arg.enc o] (.c (.raw (.bool (opMayB o)))):=by
 refine tells_of mixed FM0_ok Tryz.func73 sl73 ok73 (by kernel_rfl) (by simp -implicitDefEqProofs (maxSteps:=400000) (maxDischargeDepth:=6)) (by simp -implicitDefEqProofs (maxSteps:=400000) (maxDischargeDepth:=6) [opRow]) ?_
 cases c1:nameB o.site o.seq
 ·simp -implicitDefEqProofs (maxSteps:=400000) (maxDischargeDepth:=6) [s73,opRow,opMayB,c1,ho]
 cases c2:decide (o.kind=1)
 rotate_left
 ·have c2':=of_decide_eq_true c2
  simp -implicitDefEqProofs (maxSteps:=400000) (maxDischargeDepth:=6) [s73,opRow,opMayB,c1,c2,ho]
  exact fun h=>absurd c2' h
 cases c3:decide (o.kind=2)
 ·simp -implicitDefEqProofs (maxSteps:=400000) (maxDischargeDepth:=6) [s73,opRow,opMayB,c1,c2,c3,ho]
 ·simp -implicitDefEqProofs (maxSteps:=400000) (maxDischargeDepth:=6) [s73,opRow,opMayB,c1,c2,c3,ho]
  exact fun h=>absurd h (of_decide_eq_false c2)
def zeroO:OpV:=⟨0,0,0,⟨0,0,0⟩,[],[],0,0,0⟩
theorem nothing_ev (o:OpV) (ho:okO o):PEv Tryz.prog 72 [Arg.enc o] (.c (.raw (.bool (sameB o zeroO)))):=by
 refine tells_of mixed FM0_ok Tryz.func72 sl72 ok72 (by kernel_rfl) (by simp -implicitDefEqProofs (maxSteps:=400000) (maxDischargeDepth:=6)) (by simp -implicitDefEqProofs (maxSteps:=400000) (maxDischargeDepth:=6) [opRow]) ?_
 have:=ho.2
 simp -implicitDefEqProofs (maxSteps:=400000) (maxDischargeDepth:=6) [s72,opRow,this,zeroO]
def FM1_h73:List AV→Option (Prop×AV):=t1 okO fun o:OpV=>.c (.raw (.bool (opMayB o)))
@[simp] theorem FM1_ap73 {l:List AV}:FM1_h73 l=(t1 okO fun o:OpV=>.c (.raw (.bool (opMayB o)))) l:=rfl
def FM1_h72:List AV→Option (Prop×AV):=t1 okO fun o:OpV=>.c (.raw (.bool (sameB o zeroO)))
@[simp] theorem FM1_ap72 {l:List AV}:FM1_h72 l=(t1 okO fun o:OpV=>.c (.raw (.bool (sameB o zeroO)))) l:=rfl
def FM1:CT:=(73,.pu FM1_h73)::(72,.pu FM1_h72)::FM0
theorem FM1_ok:CTok Tryz.prog FM1:=⟨tells1 fun o h=>opMay_ev o h,
 tells1 fun o h=>nothing_ev o h,FM0_ok⟩
@[simp] theorem FM1_get73:ctGet FM1 73=some (.pu FM1_h73):=rfl
@[simp] theorem FM1_get72:ctGet FM1 72=some (.pu FM1_h72):=rfl
@[simp] theorem FM1_skip {n:Nat} (h:(n==73||n==72)=false):ctGet FM1 n=ctGet FM0 n:=by
 simp only [Bool.or_eq_false_iff,beq_eq_false_iff_ne,ne_eq] at h
 simp [FM1,ctGet,h]
def entMayB (e:EntryV):Bool:=if e.join then decide (1≤e.nonce)&&decide (e.nonce≤268435456)&&sameB e.op zeroO else decide (e.nonce=0)&&opMayB e.op
theorem entMay_ev (e:EntryV) (ho:okO e.op):PEv Tryz.prog 37 [Arg.enc e] (.c (.raw (.bool (entMayB e)))):=by
 refine tells_of mixed FM1_ok Tryz.func37 sl37 ok37 (by kernel_rfl) (by simp -implicitDefEqProofs (maxSteps:=400000) (maxDischargeDepth:=6)) (by simp -implicitDefEqProofs (maxSteps:=400000) (maxDischargeDepth:=6) [entRow,opRow]) ?_
 cases c1:e.join
 ·cases c2:decide (e.nonce=0)
  ·simp -implicitDefEqProofs (maxSteps:=400000) (maxDischargeDepth:=6) [s37,entRow,opRow,entMayB,c1,c2,ho]
  ·simp -implicitDefEqProofs (maxSteps:=400000) (maxDischargeDepth:=6) [s37,entRow,opRow,entMayB,c1,c2,ho]
 ·cases c2:decide (1≤e.nonce)
  ·simp -implicitDefEqProofs (maxSteps:=400000) (maxDischargeDepth:=6) [s37,entRow,opRow,entMayB,c1,c2,ho]
  cases c3:decide (e.nonce≤268435456)
  ·simp -implicitDefEqProofs (maxSteps:=400000) (maxDischargeDepth:=6) [s37,entRow,opRow,entMayB,c1,c2,c3,ho]
  ·simp -implicitDefEqProofs (maxSteps:=400000) (maxDischargeDepth:=6) [s37,entRow,opRow,entMayB,c1,c2,c3,ho]
theorem nameB_b {a b:Int} (h:nameB a b=true):1≤a∧a≤8∧1≤b∧b≤268435456:=by
 simp -implicitDefEqProofs (maxSteps:=400000) (maxDischargeDepth:=6) [nameB] at h
 omega
theorem elemB_b {e:ElemV} (h:elemB e=true):0≤e.site∧e.site≤8∧0≤e.seq∧e.seq≤268435456∧0≤e.i∧e.i<12:=by
 simp -implicitDefEqProofs (maxSteps:=400000) (maxDischargeDepth:=6) [elemB] at h
 rcases h with rfl|⟨⟨h1,h2⟩,h3⟩
 ·simp -implicitDefEqProofs (maxSteps:=400000) (maxDischargeDepth:=6)
 ·have:=nameB_b h1
  omega
def okN (n:Int):Prop:=0≤n∧n<9223372036854775808
def okE (e:ElemV):Prop:=okN e.site∧okN e.seq∧okN e.i
theorem elemB_ok {e:ElemV} (h:elemB e=true):okE e:=by
 have:=elemB_b h
 refine ⟨⟨?_,?_⟩,⟨?_,?_⟩,?_,?_⟩<;>omega
def FP0_h37:List AV→Option (Prop×AV):=t1 (fun e=>okO e.op) fun e:EntryV=>.c (.raw (.bool (entMayB e)))
@[simp] theorem FP0_ap37 {l:List AV}:FP0_h37 l=(t1 (fun e=>okO e.op) fun e:EntryV=>.c (.raw (.bool (entMayB e)))) l:=rfl
def FP0_h100:List AV→Option (Prop×AV):=t1 (fun l=>l.length<1000000∧∀n∈l,okN n) fun l:List Int=>.c (.str (numsN l))
@[simp] theorem FP0_ap100 {l:List AV}:FP0_h100 l=(t1 (fun l=>l.length<1000000∧∀n∈l,okN n) fun l:List Int=>.c (.str (numsN l))) l:=rfl
def FP0_h102:List AV→Option (Prop×AV):=t1 (fun s=>s.length<140737488355328) fun s:List UInt8=>.c (.str (bytesN s.length++s))
@[simp] theorem FP0_ap102 {l:List AV}:FP0_h102 l=(t1 (fun s=>s.length<140737488355328) fun s:List UInt8=>.c (.str (bytesN s.length++s))) l:=rfl
def FP0:CT:=(37,.pu FP0_h37)::(100,.pu FP0_h100)::(102,.pu FP0_h102)::FM1
theorem FP0_ok:CTok Tryz.prog FP0:=⟨tells1 fun e h=>entMay_ev e h,
 tells1 fun l h=>numbers_ev l h.1 h.2,
 tells1 fun s h=>numText_ev s h,FM1_ok⟩
@[simp] theorem FP0_get37:ctGet FP0 37=some (.pu FP0_h37):=rfl
@[simp] theorem FP0_get100:ctGet FP0 100=some (.pu FP0_h100):=rfl
@[simp] theorem FP0_get102:ctGet FP0 102=some (.pu FP0_h102):=rfl
@[simp] theorem FP0_skip {n:Nat} (h:(n==37||n==100||n==102)=false):ctGet FP0 n=ctGet FM1 n:=by
 simp only [Bool.or_eq_false_iff,beq_eq_false_iff_ne,ne_eq] at h
 simp [FP0,ctGet,h]
def elemN (e:ElemV):List UInt8:=numsN [e.site,e.seq,e.i]
theorem elemN_ev (e:ElemV) (h:okE e):PEv Tryz.prog 101 [Arg.enc e] (.c (.str (elemN e))):=by
 refine tells_of mixed FP0_ok Tryz.func101 sl101 ok101 (by kernel_rfl) (by simp -implicitDefEqProofs (maxSteps:=400000) (maxDischargeDepth:=6)) (by simp -implicitDefEqProofs (maxSteps:=400000) (maxDischargeDepth:=6)) ?_
 obtain ⟨h1,h2,h3⟩:=h
 simp -implicitDefEqProofs (maxSteps:=400000) (maxDischargeDepth:=6) [s101,rows3,take3,h1,h2,h3,elemN]
end Go.AE
set_option linter.unusedVariables false
set_option linter.unusedSimpArgs false
set_option maxHeartbeats 4000000
set_option maxRecDepth 100000
namespace Go.AE
open Go Go.Proofs
def FP1_h101:List AV→Option (Prop×AV):=t1 okE fun e:ElemV=>.c (.str (elemN e))
@[simp] theorem FP1_ap101 {l:List AV}:FP1_h101 l=(t1 okE fun e:ElemV=>.c (.str (elemN e))) l:=rfl
def FP1:CT:=(101,.pu FP1_h101)::FP0
theorem FP1_ok:CTok Tryz.prog FP1:=⟨tells1 fun e h=>elemN_ev e h,FP0_ok⟩
@[simp] theorem FP1_get101:ctGet FP1 101=some (.pu FP1_h101):=rfl
@[simp] theorem FP1_skip {n:Nat} (h:(n==101)=false):ctGet FP1 n=ctGet FP0 n:=by
 simp only [Bool.or_eq_false_iff,beq_eq_false_iff_ne,ne_eq] at h
 simp [FP1,ctGet,h]
structure okP (o:OpV):Prop where
 site:okN o.site
 seq:okN o.seq
 kind:okN o.kind
 of_:okN o.of_
 num:okN o.num
 gen:okN o.gen
 after:okE o.after
 gone:∀e∈o.gone,okE e
 text:o.text.length<1000000
 len:o.gone.length<1000000
def headN (o:OpV):List UInt8:=numsN [o.site,o.seq,o.kind]
def midN (o:OpV):List UInt8:=elemN o.after++((bytesN o.text.length++o.text)++numsN [(o.gone.length:Int)])
def spellN (o:OpV):List UInt8:=if o.kind=2 then headN o++numsN [o.of_,o.num,o.gen] else headN o++midN o++o.gone.flatMap elemN
theorem elemN_len (e:ElemV):(elemN e).length≤30:=by
 have:=numsN_len [e.site,e.seq,e.i]
 simpa [elemN] using this
theorem dec_n1 (a:Int):(Arg.dec (.c (.sl .brw false [[AC.raw (.int .i64 a)]])):Option (List Int))=some [a]:=decE_rows [a]
theorem dec_n3 (a b c:Int):(Arg.dec (.c (.sl .brw false [[AC.raw (.int .i64 a)],[AC.raw (.int .i64 b)],[AC.raw (.int .i64 c)]])):Option (List Int))=some [a,b,c]:=decE_rows [a,b,c]
theorem flat_len (l:List ElemV):(l.flatMap elemN).length≤30*l.length:=by
 induction l with
 |nil=>simp -implicitDefEqProofs (maxSteps:=400000) (maxDischargeDepth:=6)
 |cons x l ih=>
  have:=elemN_len x
  simp -implicitDefEqProofs (maxSteps:=400000) (maxDischargeDepth:=6) at ih ⊢
  omega
theorem spell_ev (o:OpV) (h:okP o):PEv Tryz.prog 75 [Arg.enc o] (.c (.str (spellN o))):=by
 refine tells_of mixed FP1_ok Tryz.func75 sl75 ok75 (by kernel_rfl) (by simp -implicitDefEqProofs (maxSteps:=400000) (maxDischargeDepth:=6)) (by simp -implicitDefEqProofs (maxSteps:=400000) (maxDischargeDepth:=6) [opRow]) ?_
 have hl1:=numsN_len [o.site,o.seq,o.kind]
 have hl2:=numsN_len [o.of_,o.num,o.gen]
 have hl3:=elemN_len o.after
 have hl4:=bytesN_len' o.text.length
 have hl5:=numsN_len [(o.gone.length:Int)]
 have hl6:=h.text
 have hl7:=h.len
 simp only [List.length_cons,List.length_nil] at hl1 hl2 hl5
 have e1:=h.site;have e2:=h.seq;have e3:=h.kind;have e4:=h.of_;have e5:=h.num;have e6:=h.gen;have e7:=h.after
 have e8:okN (o.gone.length:Int):=⟨by omega,by omega⟩
 have l1:(numsN [o.site,o.seq,o.kind]).length+(numsN [o.of_,o.num,o.gen]).length≤9223372036854775807:=by omega
 have l2:o.text.length<140737488355328:=by omega
 have e9:elemN {site:=o.after.site,seq:=o.after.seq,i:=o.after.i}=elemN o.after:=rfl
 cases c:decide (o.kind=2)
 rotate_left
 ·have e10:spellN o=headN o++numsN [o.of_,o.num,o.gen]:=by rw [spellN,if_pos (of_decide_eq_true c)]
  simp -implicitDefEqProofs (maxSteps:=400000) (maxDischargeDepth:=6) [s75,opRow,dec_n3,e1,e2,e3,e4,e5,e6,c,l1,e10,headN]
 ·have e10:spellN o=headN o++midN o++o.gone.flatMap elemN:=by rw [spellN,if_neg (of_decide_eq_false c)]
  have l3:(elemN o.after).length+((bytesN o.text.length).length+o.text.length)≤9223372036854775807:=by omega
  have l4:(elemN o.after).length+((bytesN o.text.length).length+(o.text.length+(numsN [(o.gone.length:Int)]).length))≤9223372036854775807:=by omega
  have l5:(numsN [o.site,o.seq,o.kind]).length+((elemN o.after).length+((bytesN o.text.length).length+(o.text.length+(numsN [(o.gone.length:Int)]).length)))≤9223372036854775807:=by omega
  simp -implicitDefEqProofs (maxSteps:=400000) (maxDischargeDepth:=6) [s75,opRow,dec_n3,dec_n1,e1,e2,e3,e7,e8,c,l2,l3,l4,l5,e9]
  refine ⟨by omega,?_⟩
  have lm:(headN o++midN o).length≤1000200:=by simp -implicitDefEqProofs (maxSteps:=400000) (maxDischargeDepth:=6) [headN,midN];omega
  refine loop_n (fun n st=>∃i:Nat,i≤o.gone.length∧n=o.gone.length-i∧st.s 3=.c (.str (headN o++midN o++(o.gone.take i).flatMap elemN))∧st.s 43=.c (.sl .brw false (rowsE o.gone))∧st.s 44=.c (.raw (.int .i64 o.gone.length))∧st.s 45=.c (.raw (.int .i64 i))∧Fresh st.H st.T) o.gone.length ?_ ?_
  ·refine ⟨0,by omega,by omega,?_⟩
   simp -implicitDefEqProofs (maxSteps:=400000) (maxDischargeDepth:=6) [headN,midN]
   (repeat' (first|exact fresh_no.mono (Nat.zero_le _)|(refine Fresh.set' ?_ (by simp))))
  rintro n st ⟨i,hi,rfl,h3,h43,h44,h45,hf⟩
  have hfu:∀k d,st.T≤k→st.H (k,d)=.unborn:=hf
  by_cases hlt:i<o.gone.length
  ·have hlt':(i:Int)<o.gone.length:=by omega
   have hw:IntKind.wrap .i64 ((i:Int)+1)=((i+1:Nat):Int):=by rw [wrap64_id]<;>omega
   have hg:okE o.gone[i]:=h.gone _ (List.getElem_mem hlt)
   have hg':elemN {site:=o.gone[i].site,seq:=o.gone[i].seq,i:=o.gone[i].i}=elemN o.gone[i]:=rfl
   have hg2:okE {site:=o.gone[i].site,seq:=o.gone[i].seq,i:=o.gone[i].i}:=hg
   have g1:=flat_len (o.gone.take i)
   rw [List.length_take] at g1
   have g2:=elemN_len o.gone[i]
   generalize hX:headN o++midN o++(o.gone.take i).flatMap elemN=X at h3
   have hXl:X.length+(elemN o.gone[i]).length≤9223372036854775807:=by rw [←hX,List.length_append];omega
   simp -implicitDefEqProofs (maxSteps:=400000) (maxDischargeDepth:=6) [s75L0,h3,h43,h44,h45,hlt,hlt',hw,hfu,hg2,hg',hXl]
   refine ⟨_,?_,i+1,by omega,rfl,?_,rfl,?_⟩
   ·omega
   ·rw [←hX,←List.take_append_getElem hlt,List.flatMap_append]
    simp -implicitDefEqProofs (maxSteps:=400000) (maxDischargeDepth:=6)
   ·repeat' (first|exact hf.mono (by first|omega|(simp<;>omega))|(refine Fresh.set' ?_ (by first|omega|(simp<;>omega))))
  ·have:i=o.gone.length:=by omega
   subst this
   simp -implicitDefEqProofs (maxSteps:=400000) (maxDischargeDepth:=6) [s75L0,h3,h43,h44,h45,e10]
end Go.AE
set_option linter.unusedVariables false
set_option linter.unusedSimpArgs false
set_option maxHeartbeats 4000000
set_option maxRecDepth 100000
namespace Go.AE
open Go Go.Proofs
structure RdV where
 s:List UInt8
 bad:Bool
def rdrRow (r:RdV):List AC:=[.str r.s,.raw (.bool r.bad)]
def rdG {α:Type} (C:RdV→Prop) (f:RdV→α×RdV) (out:α→AV):List AC→List AV→Option (Prop×List AC×AV):=fun row rest=>
 match row,rest with
 |[.str s,.raw (.bool b)],[]=>some (C ⟨s,b⟩,rdrRow (f ⟨s,b⟩).2,out (f ⟨s,b⟩).1)
 |_,_=>none
@[simp] theorem rdG_go {α:Type} {C:RdV→Prop} {f:RdV→α×RdV} {out:α→AV} {s:List UInt8} {b:Bool} :
  rdG C f out [.str s,.raw (.bool b)] []=some (C ⟨s,b⟩,rdrRow (f ⟨s,b⟩).2,out (f ⟨s,b⟩).1):=rfl
theorem rd_tells {F:CT} (hF:CTok Tryz.prog F) {e:TypeId} {f:FuncId} {fn:Func} {s:SC} {α:Type} {C:RdV→Prop} {g:RdV→α×RdV} {out:α→AV} (hf:Tryz.prog.funcs[f]?=some fn) (hs:slimK fn.body s=some (unK s,true))
  (hok:fnOK calmB fn 0=true) (hn:Nat.ble 1 fn.ntmps=true) (hout:∀a,∀c∈(out a).flat,RetC c)
  (h:∀(H:Heap) (T:Nat) (id:Id) (r:RdV),H id=.arr e 2 false [rdrRow r]→Fresh H T→C r→
   awpS Tryz.prog F s (finG Tryz.prog fn fun res H'=>exV H' res (out (g r).1)∧(soIds res.flat).Nodup∧(∀i∈soIds res.flat,H i=.unborn)∧SameBut [id] H H'∧H' id=.arr e 2 false [rdrRow (g r).2]) (startS H T [.c (.pt id 0 0)])) :
  MTells Tryz.prog f (mh1 e 2 (rdG C g out)):=by
 have inv:∀{row rest q},rdG C g out row rest=some q→∃r:RdV,row=rdrRow r∧rest=[]∧q=(C r,rdrRow (g r).2,out (g r).1):=by
  intro row rest q hq
  unfold rdG at hq
  split at hq
  ·cases hq
   exact ⟨⟨_,_⟩,rfl,rfl,rfl⟩
  ·cases hq
 refine mtells1 mixed hF hf hs hok (fun row rest q hq=>?_) fun H T id row rest q hid hfr hq hC=>?_
 ·obtain ⟨r,rfl,rfl,rfl⟩:=inv hq
  refine ⟨hn,hout _,fun c hc id=>?_⟩
  simp -implicitDefEqProofs (maxSteps:=400000) (maxDischargeDepth:=6) [rdrRow] at hc
  rcases hc with rfl|rfl<;>simp -implicitDefEqProofs (maxSteps:=400000) (maxDischargeDepth:=6)
 ·obtain ⟨r,rfl,rfl,rfl⟩:=inv hq
  exact h H T id r hid hfr hC
def rdNum (r:RdV):Int×RdV:=((takeR r.s).1,⟨(takeR r.s).2.1,r.bad||!decide ((takeR r.s).2.2=0)⟩)
def rdText (r:RdV):List UInt8×RdV:=((takeTextR r.s).1,⟨(takeTextR r.s).2.1,r.bad||!decide ((takeTextR r.s).2.2=0)⟩)
def okR (r:RdV):Prop:=r.s.length<4611686018427387904
def outN (n:Int):AV:=.c (.raw (.int .i64 n))
def outS (s:List UInt8):AV:=.c (.str s)
def FR0_h111:List AV→Option (Prop×AV):=t1 (fun s=>s.length<4611686018427387904) fun s:List UInt8=>takeAV s
@[simp] theorem FR0_ap111 {l:List AV}:FR0_h111 l=(t1 (fun s=>s.length<4611686018427387904) fun s:List UInt8=>takeAV s) l:=rfl
def FR0_h146:List AV→Option (Prop×AV):=t1 (fun s=>s.length<4611686018427387904) fun s:List UInt8=>takeTextAV s
@[simp] theorem FR0_ap146 {l:List AV}:FR0_h146 l=(t1 (fun s=>s.length<4611686018427387904) fun s:List UInt8=>takeTextAV s) l:=rfl
def FR0:CT:=(111,.pu FR0_h111)::(146,.pu FR0_h146)::FP1
theorem FR0_ok:CTok Tryz.prog FR0:=⟨tells1 fun s h=>numTake_ev s h,
 tells1 fun s h=>numTakeText_ev s h,FP1_ok⟩
@[simp] theorem FR0_get111:ctGet FR0 111=some (.pu FR0_h111):=rfl
@[simp] theorem FR0_get146:ctGet FR0 146=some (.pu FR0_h146):=rfl
@[simp] theorem FR0_skip {n:Nat} (h:(n==111||n==146)=false):ctGet FR0 n=ctGet FP1 n:=by
 simp only [Bool.or_eq_false_iff,beq_eq_false_iff_ne,ne_eq] at h
 simp [FR0,ctGet,h]
theorem sameBut_set {id:Id} {H:Heap} {o o':OK}:SameBut [id] H (hset (hset H id o) id o'):=by
 intro i hi hn
 simp -implicitDefEqProofs (maxSteps:=400000) (maxDischargeDepth:=6) at hn
 simp -implicitDefEqProofs (maxSteps:=400000) (maxDischargeDepth:=6) [hset,hn]
theorem rdNum_ev:MTells Tryz.prog 139 (mh1 171 2 (rdG okR rdNum outN)):=by
 refine rd_tells FR0_ok Tryz.func139 sl139 ok139 (by kernel_rfl) (by simp -implicitDefEqProofs (maxSteps:=400000) (maxDischargeDepth:=6) [outN]) fun H T id r hid hf hr=>?_
 obtain ⟨s,bad⟩:=r
 have hr':s.length<4611686018427387904:=hr
 have hfu:∀k d,T≤k→H (k,d)=.unborn:=hf
 cases bad
 ·simp -implicitDefEqProofs (maxSteps:=400000) (maxDischargeDepth:=6) [s139,hid,hfu,hr',rdrRow,takeAV]
  refine ⟨by simp -implicitDefEqProofs (maxSteps:=400000) (maxDischargeDepth:=6) [outN,rdNum],sameBut_set,rfl,by simp -implicitDefEqProofs (maxSteps:=400000) (maxDischargeDepth:=6) [rdNum]⟩
 ·simp -implicitDefEqProofs (maxSteps:=400000) (maxDischargeDepth:=6) [s139,hid,hfu,hr',rdrRow,takeAV]
  refine ⟨by simp -implicitDefEqProofs (maxSteps:=400000) (maxDischargeDepth:=6) [outN,rdNum],sameBut_set,rfl,by simp -implicitDefEqProofs (maxSteps:=400000) (maxDischargeDepth:=6) [rdNum]⟩
theorem rdText_ev:MTells Tryz.prog 141 (mh1 171 2 (rdG okR rdText outS)):=by
 refine rd_tells FR0_ok Tryz.func141 sl141 ok141 (by kernel_rfl) (by simp -implicitDefEqProofs (maxSteps:=400000) (maxDischargeDepth:=6) [outS]) fun H T id r hid hf hr=>?_
 obtain ⟨s,bad⟩:=r
 have hr':s.length<4611686018427387904:=hr
 have hfu:∀k d,T≤k→H (k,d)=.unborn:=hf
 cases bad
 ·simp -implicitDefEqProofs (maxSteps:=400000) (maxDischargeDepth:=6) [s141,hid,hfu,hr',rdrRow,takeTextAV]
  refine ⟨by simp -implicitDefEqProofs (maxSteps:=400000) (maxDischargeDepth:=6) [outS,rdText],sameBut_set,rfl,by simp -implicitDefEqProofs (maxSteps:=400000) (maxDischargeDepth:=6) [rdText]⟩
 ·simp -implicitDefEqProofs (maxSteps:=400000) (maxDischargeDepth:=6) [s141,hid,hfu,hr',rdrRow,takeTextAV]
  refine ⟨by simp -implicitDefEqProofs (maxSteps:=400000) (maxDischargeDepth:=6) [outS,rdText],sameBut_set,rfl,by simp -implicitDefEqProofs (maxSteps:=400000) (maxDischargeDepth:=6) [rdText]⟩
def FR1_h139:MH:=mh1 171 2 (rdG okR rdNum outN)
@[simp] theorem FR1_ap139 {H:Heap} {l:List AV}:FR1_h139 H l=(mh1 171 2 (rdG okR rdNum outN)) H l:=rfl
def FR1_h141:MH:=mh1 171 2 (rdG okR rdText outS)
@[simp] theorem FR1_ap141 {H:Heap} {l:List AV}:FR1_h141 H l=(mh1 171 2 (rdG okR rdText outS)) H l:=rfl
def FR1:CT:=(139,.mu FR1_h139)::(141,.mu FR1_h141)::FR0
theorem FR1_ok:CTok Tryz.prog FR1:=⟨rdNum_ev,
 rdText_ev,FR0_ok⟩
@[simp] theorem FR1_get139:ctGet FR1 139=some (.mu FR1_h139):=rfl
@[simp] theorem FR1_get141:ctGet FR1 141=some (.mu FR1_h141):=rfl
@[simp] theorem FR1_skip {n:Nat} (h:(n==139||n==141)=false):ctGet FR1 n=ctGet FR0 n:=by
 simp only [Bool.or_eq_false_iff,beq_eq_false_iff_ne,ne_eq] at h
 simp [FR1,ctGet,h]
def rdElem (r:RdV):ElemV×RdV:=
 let a:=rdNum r
 let b:=rdNum a.2
 let c:=rdNum b.2
 (⟨a.1,b.1,c.1⟩,c.2)
def outE (e:ElemV):AV:=.g (Enc.row e)
theorem rdNum_ok {r:RdV} (h:okR r):okR (rdNum r).2:=by
 show (takeR r.s).2.1.length<_
 have h':r.s.length<4611686018427387904:=h
 cases hn:takeN r.s with
 |none=>simp -implicitDefEqProofs (maxSteps:=400000) (maxDischargeDepth:=6) [takeR,hn]
 |some q=>
  obtain ⟨n,t⟩:=q
  have:=(takeN_len hn).2
  simp -implicitDefEqProofs (maxSteps:=400000) (maxDischargeDepth:=6) [takeR,hn]
  omega
theorem rdText_ok {r:RdV} (h:okR r):okR (rdText r).2:=by
 show (takeTextR r.s).2.1.length<_
 have h':r.s.length<4611686018427387904:=h
 cases hn:takeN r.s with
 |none=>simp -implicitDefEqProofs (maxSteps:=400000) (maxDischargeDepth:=6) [takeTextR,hn]
 |some q=>
  obtain ⟨n,t⟩:=q
  have:=(takeN_len hn).2
  simp only [takeTextR,hn]
  split
  ·simp -implicitDefEqProofs (maxSteps:=400000) (maxDischargeDepth:=6);omega
  ·simp -implicitDefEqProofs (maxSteps:=400000) (maxDischargeDepth:=6)
theorem rdElem_ok {r:RdV} (h:okR r):okR (rdElem r).2:=rdNum_ok (rdNum_ok (rdNum_ok h))
theorem rdElem_ev:MTells Tryz.prog 140 (mh1 171 2 (rdG okR rdElem outE)):=by
 refine rd_tells FR1_ok Tryz.func140 sl140 ok140 (by kernel_rfl) (by simp -implicitDefEqProofs (maxSteps:=400000) (maxDischargeDepth:=6) [outE]) fun H T id r hid hf hr=>?_
 obtain ⟨n1,n2,n3⟩:=hf.arr hid
 have hfu:∀k d,T≤k→H (k,d)=.unborn:=hf
 have c1:=rdNum_ok hr
 have c2:=rdNum_ok c1
 obtain ⟨s,bad⟩:=r
 rcases e1:rdNum ⟨s,bad⟩ with ⟨a1,s1,b1⟩
 rw [e1] at c1 c2
 simp only at c1 c2
 rcases e2:rdNum ⟨s1,b1⟩ with ⟨a2,s2,b2⟩
 rw [e2] at c2
 simp only at c2
 rcases e3:rdNum ⟨s2,b2⟩ with ⟨a3,s3,b3⟩
 have e4:rdElem ⟨s,bad⟩=(⟨a1,a2,a3⟩,⟨s3,b3⟩):=by simp -implicitDefEqProofs (maxSteps:=400000) (maxDischargeDepth:=6) [rdElem,e1,e2,e3]
 simp -implicitDefEqProofs (maxSteps:=400000) (maxDischargeDepth:=6) [s140,hid,hfu,hr,c1,c2,e1,e2,e3,e4,rdrRow,outN,outE,n1,n2]
 (repeat' (first|exact SameBut.refl _ _|assumption|(refine SameBut.set ?_ (by first|(right;simp;done)|(left;simp [hfu];done)|(left;exact hfu _ _ (by omega))|(left;assumption)))))
end Go.AE
set_option linter.unusedVariables false
set_option linter.unusedSimpArgs false
set_option maxHeartbeats 4000000
set_option maxRecDepth 100000
namespace Go.AE
open Go Go.Proofs
def rdElems:Nat→RdV→List ElemV×RdV
 |0,r=>([],r)
 |n+1,r=>((rdElems n r).1++[(rdElem (rdElems n r).2).1],(rdElem (rdElems n r).2).2)
def rdOp (r:RdV):OpV×RdV:=
 let a:=rdNum r
 let b:=rdNum a.2
 let c:=rdNum b.2
 if c.1=2 then
  let d:=rdNum c.2
  let e:=rdNum d.2
  let f:=rdNum e.2
  (⟨a.1,b.1,c.1,⟨0,0,0⟩,[],[],d.1,e.1,f.1⟩,⟨f.2.s,f.2.bad||!opMayB ⟨a.1,b.1,c.1,⟨0,0,0⟩,[],[],d.1,e.1,f.1⟩⟩)
 else
  let d:=rdElem c.2
  let e:=rdText d.2
  let f:=rdNum e.2
  let g:=rdElems (min f.1.toNat 200) f.2
  (⟨a.1,b.1,c.1,d.1,e.1,g.1,0,0,0⟩,⟨g.2.s,g.2.bad||decide (200<f.1)||!opMayB ⟨a.1,b.1,c.1,d.1,e.1,g.1,0,0,0⟩⟩)
def opRowW (c:AC) (o:OpV):List AC:=
 [.raw (.int .i64 o.site),.raw (.int .i64 o.seq),.raw (.int .i64 o.kind),.raw (.int .i64 o.after.site),.raw (.int .i64 o.after.seq),.raw (.int .i64 o.after.i),.str o.text,c,.raw (.int .i64 o.of_),.raw (.int .i64 o.num),.raw (.int .i64 o.gen)]
def outO (o:OpV):AV:=.g (opRowW (.nw 44 3 (rowsE o.gone)) o)
def FR2_h140:MH:=mh1 171 2 (rdG okR rdElem outE)
@[simp] theorem FR2_ap140 {H:Heap} {l:List AV}:FR2_h140 H l=(mh1 171 2 (rdG okR rdElem outE)) H l:=rfl
def FR2:CT:=(140,.mu FR2_h140)::FR1
theorem FR2_ok:CTok Tryz.prog FR2:=⟨rdElem_ev,FR1_ok⟩
@[simp] theorem FR2_get140:ctGet FR2 140=some (.mu FR2_h140):=rfl
@[simp] theorem FR2_skip {n:Nat} (h:(n==140)=false):ctGet FR2 n=ctGet FR1 n:=by
 simp only [Bool.or_eq_false_iff,beq_eq_false_iff_ne,ne_eq] at h
 simp [FR2,ctGet,h]
theorem rdElems_ok {r:RdV} (h:okR r):∀n,okR (rdElems n r).2∧(rdElems n r).1.length=n
 |0=>⟨h,rfl⟩
 |n+1=>by
  obtain ⟨h1,h2⟩:=rdElems_ok h n
  exact ⟨rdElem_ok h1,by simp -implicitDefEqProofs (maxSteps:=400000) (maxDischargeDepth:=6) [rdElems,h2]⟩
theorem rdNum_nn (r:RdV):0≤(rdNum r).1∧(rdNum r).1≤268435456:=by
 simp only [rdNum,takeR]
 cases hn:takeN r.s with
 |none=>simp -implicitDefEqProofs (maxSteps:=400000) (maxDischargeDepth:=6)
 |some q=>
  obtain ⟨n,t⟩:=q
  have:=(takeN_len hn).1
  simp -implicitDefEqProofs (maxSteps:=400000) (maxDischargeDepth:=6)
  omega
theorem rdText_len {r:RdV} (h:okR r):(rdText r).1.length<4611686018427387904:=by
 show (takeTextR r.s).1.length<_
 have h':r.s.length<4611686018427387904:=h
 cases hn:takeN r.s with
 |none=>simp -implicitDefEqProofs (maxSteps:=400000) (maxDischargeDepth:=6) [takeTextR,hn]
 |some q=>
  obtain ⟨n,t⟩:=q
  have:=(takeN_len hn).2
  simp only [takeTextR,hn]
  split
  ·simp -implicitDefEqProofs (maxSteps:=400000) (maxDischargeDepth:=6);omega
  ·simp -implicitDefEqProofs (maxSteps:=400000) (maxDischargeDepth:=6)
theorem rdOp_ev:MTells Tryz.prog 129 (mh1 171 2 (rdG okR rdOp outO)):=by
 refine rd_tells FR2_ok Tryz.func129 sl129 ok129 (by kernel_rfl) (by simp -implicitDefEqProofs (maxSteps:=400000) (maxDischargeDepth:=6) [outO,opRowW]) fun H T id r hid hf hr=>?_
 obtain ⟨n1,n2,n3⟩:=hf.arr hid
 have hfu:∀k d,T≤k→H (k,d)=.unborn:=hf
 have c1:=rdNum_ok hr
 have c2:=rdNum_ok c1
 have c3:=rdNum_ok c2
 obtain ⟨s,bad⟩:=r
 rcases e1:rdNum ⟨s,bad⟩ with ⟨a1,s1,b1⟩
 rw [e1] at c1 c2 c3
 simp only at c1 c2 c3
 rcases e2:rdNum ⟨s1,b1⟩ with ⟨a2,s2,b2⟩
 rw [e2] at c2 c3
 simp only at c2 c3
 rcases e3:rdNum ⟨s2,b2⟩ with ⟨a3,s3,b3⟩
 rw [e3] at c3
 simp only at c3
 cases k:decide (a3=2)
 rotate_left
 ·have k':=of_decide_eq_true k
  have c4:=rdNum_ok c3
  have c5:=rdNum_ok c4
  rcases e4:rdNum ⟨s3,b3⟩ with ⟨a4,s4,b4⟩
  rw [e4] at c4 c5
  simp only at c4 c5
  rcases e5:rdNum ⟨s4,b4⟩ with ⟨a5,s5,b5⟩
  rw [e5] at c5
  simp only at c5
  rcases e6:rdNum ⟨s5,b5⟩ with ⟨a6,s6,b6⟩
  generalize ho:(⟨a1,a2,a3,⟨0,0,0⟩,[],[],a4,a5,a6⟩:OpV)=o
  have hoo:okO o:=by subst ho;exact ⟨by simp -implicitDefEqProofs (maxSteps:=400000) (maxDischargeDepth:=6),by simp -implicitDefEqProofs (maxSteps:=400000) (maxDischargeDepth:=6)⟩
  have e7:rdOp ⟨s,bad⟩=(o,⟨s6,b6||!opMayB o⟩):=by subst ho;simp -implicitDefEqProofs (maxSteps:=400000) (maxDischargeDepth:=6) [rdOp,e1,e2,e3,e4,e5,e6,k']
  cases b6
  ·simp -implicitDefEqProofs (maxSteps:=400000) (maxDischargeDepth:=6) [s129,hid,hfu,hr,c1,c2,c3,c4,c5,e1,e2,e3,e4,e5,e6,e7,rdrRow,outN,outE,outO,n1,n2,k,ho,hoo]
   refine ⟨by subst ho;simp -implicitDefEqProofs (maxSteps:=400000) (maxDischargeDepth:=6) [opRowW],?_⟩
   (repeat' (first|exact SameBut.refl _ _|assumption|(refine SameBut.set ?_ (by first|(right;simp;done)|(left;simp [hfu];done)|(left;exact hfu _ _ (by omega))|(left;assumption)))))
  ·simp -implicitDefEqProofs (maxSteps:=400000) (maxDischargeDepth:=6) [s129,hid,hfu,hr,c1,c2,c3,c4,c5,e1,e2,e3,e4,e5,e6,e7,rdrRow,outN,outE,outO,n1,n2,k,ho,hoo]
   refine ⟨by subst ho;simp -implicitDefEqProofs (maxSteps:=400000) (maxDischargeDepth:=6) [opRowW],?_⟩
   (repeat' (first|exact SameBut.refl _ _|assumption|(refine SameBut.set ?_ (by first|(right;simp;done)|(left;simp [hfu];done)|(left;exact hfu _ _ (by omega))|(left;assumption)))))
 ·have k':¬a3=2:=of_decide_eq_false k
  have c4:=rdElem_ok c3
  have c5:=rdText_ok c4
  have c6:=rdNum_ok c5
  have lt:=rdText_len c4
  rcases e4:rdElem ⟨s3,b3⟩ with ⟨⟨x1,x2,x3⟩,s4,b4⟩
  rw [e4] at c4 c5 c6 lt
  simp only at c4 c5 c6 lt
  rcases e5:rdText ⟨s4,b4⟩ with ⟨tx,s5,b5⟩
  rw [e5] at c5 c6 lt
  simp only at c5 c6 lt
  obtain ⟨hn0,hn1⟩:=rdNum_nn ⟨s5,b5⟩
  rcases e6:rdNum ⟨s5,b5⟩ with ⟨n,s6,b6⟩
  rw [e6] at c6 hn0 hn1
  simp only at c6 hn0 hn1
  obtain ⟨m,hm⟩:∃m,m=min n.toNat 200:=⟨_,rfl⟩
  have hmi:(if 200<n then (200:Int) else n)=(m:Int):=by split<;>omega
  have hm2:m≤200:=by omega
  generalize ho:(⟨a1,a2,a3,⟨x1,x2,x3⟩,tx,(rdElems m ⟨s6,b6⟩).1,0,0,0⟩:OpV)=o
  obtain ⟨cm,lm⟩:=rdElems_ok c6 m
  have hoo:okO o:=by subst ho;exact ⟨lt,by show (rdElems m ⟨s6,b6⟩).1.length<_;omega⟩
  have e7:rdOp ⟨s,bad⟩=(o,⟨(rdElems m ⟨s6,b6⟩).2.s,(rdElems m ⟨s6,b6⟩).2.bad||decide (200<n)||!opMayB o⟩):=by simp -implicitDefEqProofs (maxSteps:=400000) (maxDischargeDepth:=6) [rdOp,e1,e2,e3,e4,e5,e6,k',ho,←hm]
  simp -implicitDefEqProofs (maxSteps:=400000) (maxDischargeDepth:=6) [s129,hid,hfu,hr,c1,c2,c3,c4,c5,c6,e1,e2,e3,e4,e5,e6,e7,rdrRow,outN,outE,outO,outS,n1,n2,k,hmi]
  obtain ⟨r6,hr6⟩:∃r6:RdV,r6=⟨s6,b6⟩:=⟨_,rfl⟩
  rw [←hr6] at ho cm lm e7 c6 ⊢
  refine loop_n (fun q st=>∃(i:Nat) (g:AC),i≤m∧q=m-i∧st.s 0=.c (.pt id 0 0)∧st.s 2=.c (.pt (T,2) 0 0)∧st.s 3=.c (.pt (T+1,3) 0 0)∧st.s 4=.c (.raw (.int .i64 n))∧st.s 33=.c (.raw (.int .i64 m))∧st.s 34=.c (.raw (.int .i64 i))∧
   st.H id=.arr 171 2 false [rdrRow (rdElems i r6).2]∧st.H (T,2)=.arr 46 11 false [opRowW (.raw (.slice none 0 0)) ⟨0,0,0,⟨0,0,0⟩,[],[],0,0,0⟩]∧st.H (T+1,3)=.arr 46 11 false [opRowW g ⟨a1,a2,a3,⟨x1,x2,x3⟩,tx,[],0,0,0⟩]∧
   ((g=.raw (.slice none 0 0)∧i=0)∨∃j,g=.so j 0 i∧H j=.unborn∧st.H j=.arr 44 3 false (rowsE (rdElems i r6).1))∧SameBut [id] H st.H∧T+1<st.T∧Fresh st.H st.T) m ?_ ?_
  ·refine ⟨0,.raw (.slice none 0 0),by omega,by omega,?_⟩
   simp -implicitDefEqProofs (maxSteps:=400000) (maxDischargeDepth:=6) [n1,n2,hid,rdElems,rdrRow,opRowW,hr6]
   refine ⟨?_,?_⟩
   ·(repeat' (first|exact SameBut.refl _ _|assumption|(refine SameBut.set ?_ (by first|(right;simp;done)|(left;simp [hfu];done)|(left;exact hfu _ _ (by omega))|(left;assumption)))))
   ·repeat' (first|exact hf.mono (by first|omega|(simp<;>omega))|(refine Fresh.set' ?_ (by first|omega|(simp<;>omega))))
  rintro q st ⟨i,g,hi,rfl,q0,q2,q3,q4,q33,q34,h1,h2,h3,hg,hsb,hT,hf'⟩
  have hfu':∀k d,st.T≤k→st.H (k,d)=.unborn:=hf'
  obtain ⟨ci,li⟩:=rdElems_ok c6 i
  rcases er:(rdElems i r6).2 with ⟨si,bi⟩
  rw [er] at h1 ci
  by_cases hlt:i<m
  ·have hlt':(i:Int)<m:=by omega
   have hw:IntKind.wrap .i64 ((i:Int)+1)=((i+1:Nat):Int):=by rw [wrap64_id]<;>omega
   rcases e8:rdElem ⟨si,bi⟩ with ⟨⟨y1,y2,y3⟩,s9,b9⟩
   obtain ⟨p1,p2,p3⟩:=hf'.arr h1
   obtain ⟨p4,p5,p6⟩:=hf'.arr h3
   have e9:(rdElems (i+1) r6)=((rdElems i r6).1++[⟨y1,y2,y3⟩],⟨s9,b9⟩):=by simp -implicitDefEqProofs (maxSteps:=400000) (maxDischargeDepth:=6) [rdElems,er,e8]
   have ht:rowsE (rdElems (i+1) r6).1=rowsE (rdElems i r6).1++[Enc.row (⟨y1,y2,y3⟩:ElemV)]:=by rw [e9,rowsE_snoc]
   have d1:=n2 (T+1) 3 (by omega)
   have d2:=n1 (T+1) 3 (by omega)
   rcases hg with ⟨rfl,rfl⟩|⟨j,rfl,hju,hj⟩
   ·simp -implicitDefEqProofs (maxSteps:=400000) (maxDischargeDepth:=6) [s129L0,q0,q2,q3,q4,q33,q34,h1,h2,h3,hlt,hlt',hw,hfu',ci,e8,outE,rdrRow,opRowW,p1,p2,p4,p5,d1,d2]
    refine ⟨fun a a1 b ha hid=>?_,m-1,by omega,1,by omega,rfl,rfl,?_,by rw [n1 T 2 (Nat.le_refl _)];simp -implicitDefEqProofs (maxSteps:=400000) (maxDischargeDepth:=6),⟨_,_,⟨⟨rfl,rfl⟩,rfl⟩,hfu _ _ (by omega),?_⟩,?_⟩
    ·subst hid
     simp only at n3
     refine ⟨by omega,?_⟩
     rintro u v (⟨rfl,rfl⟩|⟨rfl,rfl⟩) _<;>simp -implicitDefEqProofs (maxSteps:=400000) (maxDischargeDepth:=6)<;>omega
    ·have:=e9
     simp -implicitDefEqProofs (maxSteps:=400000) (maxDischargeDepth:=6) at this
     rw [this]
     exact ⟨rfl,rfl⟩
    ·simp -implicitDefEqProofs (maxSteps:=400000) (maxDischargeDepth:=6) at ht
     rw [ht]
     simp -implicitDefEqProofs (maxSteps:=400000) (maxDischargeDepth:=6) [rdElems]
    ·refine ⟨?_,by omega,?_⟩
     ·(repeat' (first|exact SameBut.refl _ _|assumption|(refine SameBut.set ?_ (by first|(right;simp;done)|(left;simp [hfu];done)|(left;exact hfu _ _ (by omega))|(left;assumption)))))
     ·have hf:=hf'
      repeat' (first|exact hf.mono (by first|omega|(simp<;>omega))|(refine Fresh.set' ?_ (by first|omega|(simp<;>omega))))
   ·obtain ⟨p7,p8,p9⟩:=hf'.arr hj
    have ne:∀{x:Id} {e sz:Nat} {f:Bool} {rows:List (List AC)},st.H x=.arr e sz f rows→e≠44→(j=x)=False∧(x=j)=False:=by
     intro x e sz f rows hx he
     constructor
     ·simp -implicitDefEqProofs (maxSteps:=400000) (maxDischargeDepth:=6);rintro rfl;rw [hx] at hj;simp -implicitDefEqProofs (maxSteps:=400000) (maxDischargeDepth:=6) at hj;exact he hj.1
     ·simp -implicitDefEqProofs (maxSteps:=400000) (maxDischargeDepth:=6);rintro rfl;rw [hx] at hj;simp -implicitDefEqProofs (maxSteps:=400000) (maxDischargeDepth:=6) at hj;exact he hj.1
    obtain ⟨g1,g2⟩:=ne h1 (by decide)
    obtain ⟨g3,g4⟩:=ne h2 (by decide)
    obtain ⟨g5,g6⟩:=ne h3 (by decide)
    simp -implicitDefEqProofs (maxSteps:=400000) (maxDischargeDepth:=6) [s129L0,q0,q2,q3,q4,q33,q34,h1,h2,h3,hlt,hlt',hw,hfu',ci,e8,outE,rdrRow,opRowW,p1,p2,p4,p5,d1,d2,hj,p7,p8,g1,g2,g3,g4,g5,g6,li]
    refine ⟨⟨by omega,by omega⟩,fun a a1 b ha hid=>?_,m-(i+1),by omega,i+1,by omega,rfl,rfl,?_,by rw [n1 T 2 (Nat.le_refl _)];simp -implicitDefEqProofs (maxSteps:=400000) (maxDischargeDepth:=6),⟨_,_,⟨⟨rfl,rfl⟩,rfl⟩,hfu _ _ (by omega),?_⟩,?_⟩
    ·subst hid
     simp only at n3
     refine ⟨by omega,?_⟩
     rintro u v (⟨rfl,rfl⟩|⟨rfl,rfl⟩) _<;>simp -implicitDefEqProofs (maxSteps:=400000) (maxDischargeDepth:=6)<;>omega
    ·rw [e9]
     exact ⟨rfl,rfl⟩
    ·rw [ht]
     simp -implicitDefEqProofs (maxSteps:=400000) (maxDischargeDepth:=6)
    ·refine ⟨?_,by omega,?_⟩
     ·(repeat' (first|exact SameBut.refl _ _|assumption|(refine SameBut.set ?_ (by first|(right;simp;done)|(left;simp [hfu];done)|(left;exact hfu _ _ (by omega))|(left;assumption)))))
     ·have hf:=hf'
      repeat' (first|exact hf.mono (by first|omega|(simp<;>omega))|(refine Fresh.set' ?_ (by first|omega|(simp<;>omega))))
  ·have:i=m:=by omega
   subst this
   have hf0:=hf
   have d3:((T,2)=id)=False:=n1 T 2 (Nat.le_refl _)
   have d4:(id=(T,2))=False:=n2 T 2 (Nat.le_refl _)
   obtain ⟨p1,p2,p3⟩:=hf'.arr h1
   have d1:=n2 (T+1) 3 (by omega)
   have d2:=n1 (T+1) 3 (by omega)
   rw [er] at e7
   have og:o.gone=(rdElems i r6).1:=by rw [←ho]
   rcases hg with ⟨rfl,rfl⟩|⟨j,rfl,hju,hj⟩
   ·have ho':(⟨a1,a2,a3,⟨x1,x2,x3⟩,tx,[],0,0,0⟩:OpV)=o:=by rw [←ho];rfl
    have hx:(rowsE o.gone)=[]:=by rw [og];rfl
    cases c:(bi||decide (200<n))
    ·obtain ⟨c1,c2⟩:=Bool.or_eq_false_iff.1 c
     subst c1
     simp -implicitDefEqProofs (maxSteps:=400000) (maxDischargeDepth:=6) [s129L0,er,q0,q2,q3,q4,q33,q34,h1,h2,h3,hfu',rdrRow,opRowW,p1,p2,d1,d2,d3,d4,c2,ho',hoo,hx]
     refine ⟨by rw [←ho];simp -implicitDefEqProofs (maxSteps:=400000) (maxDischargeDepth:=6),?_⟩
     (repeat' (first|exact SameBut.refl _ _|assumption|(refine SameBut.set ?_ (by first|(right;simp;done)|(left;simp [hfu];done)|(left;exact hfu _ _ (by omega))|(left;assumption)))))
    ·cases bi
     ·simp only [Bool.false_or] at c
      simp -implicitDefEqProofs (maxSteps:=400000) (maxDischargeDepth:=6) [s129L0,er,q0,q2,q3,q4,q33,q34,h1,h2,h3,hfu',rdrRow,opRowW,p1,p2,d1,d2,d3,d4,c,ho',hoo,hx]
      refine ⟨by rw [←ho];simp -implicitDefEqProofs (maxSteps:=400000) (maxDischargeDepth:=6),?_⟩
      (repeat' (first|exact SameBut.refl _ _|assumption|(refine SameBut.set ?_ (by first|(right;simp;done)|(left;simp [hfu];done)|(left;exact hfu _ _ (by omega))|(left;assumption)))))
     ·simp -implicitDefEqProofs (maxSteps:=400000) (maxDischargeDepth:=6) [s129L0,er,q0,q2,q3,q4,q33,q34,h1,h2,h3,hfu',rdrRow,opRowW,p1,p2,d1,d2,d3,d4,ho',hoo,hx]
      refine ⟨by rw [←ho];simp -implicitDefEqProofs (maxSteps:=400000) (maxDischargeDepth:=6),?_⟩
      (repeat' (first|exact SameBut.refl _ _|assumption|(refine SameBut.set ?_ (by first|(right;simp;done)|(left;simp [hfu];done)|(left;exact hfu _ _ (by omega))|(left;assumption)))))
   ·have ho':(⟨a1,a2,a3,⟨x1,x2,x3⟩,tx,(rdElems i r6).1,0,0,0⟩:OpV)=o:=ho
    obtain ⟨p7,p8,p9⟩:=hf'.arr hj
    have ne:∀{x:Id} {e sz:Nat} {f:Bool} {rows:List (List AC)},st.H x=.arr e sz f rows→e≠44→(j=x)=False∧(x=j)=False:=by
     intro x e sz f rows hx he
     constructor
     ·simp -implicitDefEqProofs (maxSteps:=400000) (maxDischargeDepth:=6);rintro rfl;rw [hx] at hj;simp -implicitDefEqProofs (maxSteps:=400000) (maxDischargeDepth:=6) at hj;exact he hj.1
     ·simp -implicitDefEqProofs (maxSteps:=400000) (maxDischargeDepth:=6);rintro rfl;rw [hx] at hj;simp -implicitDefEqProofs (maxSteps:=400000) (maxDischargeDepth:=6) at hj;exact he hj.1
    have htk:List.take i (rowsE (rdElems i r6).1)=rowsE (rdElems i r6).1:=List.take_of_length_le (by simp -implicitDefEqProofs (maxSteps:=400000) (maxDischargeDepth:=6) [rowsE,li])
    obtain ⟨g1,g2⟩:=ne h1 (by decide)
    obtain ⟨g3,g4⟩:=ne h2 (by decide)
    obtain ⟨g5,g6⟩:=ne h3 (by decide)
    cases c:(bi||decide (200<n))
    ·obtain ⟨c1,c2⟩:=Bool.or_eq_false_iff.1 c
     subst c1
     simp -implicitDefEqProofs (maxSteps:=400000) (maxDischargeDepth:=6) [s129L0,er,q0,q2,q3,q4,q33,q34,h1,h2,h3,hfu',rdrRow,opRowW,p1,p2,d1,d2,d3,d4,c2,ho',hoo,hj,p7,p8,g1,g2,g3,g4,g5,g6,li,og,htk]
     refine ⟨by rw [←ho];simp -implicitDefEqProofs (maxSteps:=400000) (maxDischargeDepth:=6),fun a b h=>by rw [h];exact hju,?_⟩
     (repeat' (first|exact SameBut.refl _ _|assumption|(refine SameBut.set ?_ (by first|(right;simp;done)|(left;simp [hfu];done)|(left;exact hfu _ _ (by omega))|(left;assumption)))))
    ·cases bi
     ·simp only [Bool.false_or] at c
      simp -implicitDefEqProofs (maxSteps:=400000) (maxDischargeDepth:=6) [s129L0,er,q0,q2,q3,q4,q33,q34,h1,h2,h3,hfu',rdrRow,opRowW,p1,p2,d1,d2,d3,d4,c,ho',hoo,hj,p7,p8,g1,g2,g3,g4,g5,g6,li,og,htk]
      refine ⟨by rw [←ho];simp -implicitDefEqProofs (maxSteps:=400000) (maxDischargeDepth:=6),fun a b h=>by rw [h];exact hju,?_⟩
      (repeat' (first|exact SameBut.refl _ _|assumption|(refine SameBut.set ?_ (by first|(right;simp;done)|(left;simp [hfu];done)|(left;exact hfu _ _ (by omega))|(left;assumption)))))
     ·simp -implicitDefEqProofs (maxSteps:=400000) (maxDischargeDepth:=6) [s129L0,er,q0,q2,q3,q4,q33,q34,h1,h2,h3,hfu',rdrRow,opRowW,p1,p2,d1,d2,d3,d4,ho',hoo,hj,p7,p8,g1,g2,g3,g4,g5,g6,li,og,htk]
      refine ⟨by rw [←ho];simp -implicitDefEqProofs (maxSteps:=400000) (maxDischargeDepth:=6),fun a b h=>by rw [h];exact hju,?_⟩
      (repeat' (first|exact SameBut.refl _ _|assumption|(refine SameBut.set ?_ (by first|(right;simp;done)|(left;simp [hfu];done)|(left;exact hfu _ _ (by omega))|(left;assumption)))))
end Go.AE
set_option linter.unusedVariables false
set_option linter.unusedSimpArgs false
set_option maxHeartbeats 2000000
namespace Go.AE
open Go Go.Proofs
theorem num31_ev (n hi:Int):PEv Tryz.prog 45 [.c (.raw (.int .i64 n)),.c (.raw (.int .i64 hi))] (.c (.raw (.bool (decide (0≤n)&&decide (n≤hi))))):=by
 refine tells_of mixed F1_ok Tryz.func45 sl45 ok45 (by kernel_rfl) (by simp -implicitDefEqProofs) (by simp -implicitDefEqProofs) ?_
 simp -implicitDefEqProofs [s45]
 omega
def within (i n:Int):Int:=(i%18446744073709551616)%n
theorem wrapU_id {n:Int} (h1:0≤n) (h2:n<18446744073709551616):IntKind.wrap .u64 n=n:=by
 have:IntKind.wrap .u64 n=n%18446744073709551616:=by simp -implicitDefEqProofs [IntKind.wrap,IntKind.bits,IntKind.signed]
 rw [this];omega
theorem wrapU {n:Int}:IntKind.wrap .u64 n=n%18446744073709551616:=by simp -implicitDefEqProofs [IntKind.wrap,IntKind.bits,IntKind.signed]
theorem within_ev (i n:Int) (h1:0<n) (h2:n≤9223372036854775807):PEv Tryz.prog 57 [.c (.raw (.int .i64 i)),.c (.raw (.int .i64 n))] (.c (.raw (.int .i64 (within i n)))):=by
 refine tells_of mixed F1_ok Tryz.func57 sl57 ok57 (by kernel_rfl) (by simp -implicitDefEqProofs) (by simp -implicitDefEqProofs) ?_
 simp -implicitDefEqProofs [s57,wrapU]
 have e:n%18446744073709551616=n:=by omega
 rw [e]
 refine ⟨by omega,?_⟩
 have h3:0≤i%18446744073709551616:=by omega
 rw [Int.tmod_eq_emod_of_nonneg h3]
 unfold within
 have h4:=Int.emod_nonneg (i%18446744073709551616) (by omega:n≠0)
 have h5:=Int.emod_lt_of_pos (i%18446744073709551616) h1
 exact wrap64_id (by omega) (by omega)
theorem bytes_zero (n:Nat):bytesAC (List.replicate n [AC.raw (.int .u8 0)])=some (List.replicate n 0):=by
 induction n with
 |zero=>rfl
 |succ n ih=>simp -implicitDefEqProofs [List.replicate_succ,ih]
def blank:List UInt8:=List.replicate 32 0
theorem zeros_ev (n:Nat) (h:n≤1000000):PEv Tryz.prog 55 [.c (.raw (.int .i64 n))] (.c (.str (List.replicate n 0))):=by
 refine tells_of mixed F1_ok Tryz.func55 sl55 ok55 (by kernel_rfl) (by simp -implicitDefEqProofs) (by simp -implicitDefEqProofs) ?_
 simp -implicitDefEqProofs [s55,bytes_zero]
 omega
theorem zerosI_ev (n:Int) (h:0≤n∧n≤1000000):PEv Tryz.prog 55 [.c (.raw (.int .i64 n))] (.c (.str (List.replicate n.toNat 0))):=by
 have:=zeros_ev n.toNat (by omega)
 rw [Int.toNat_of_nonneg h.1] at this
 exact this
def F2_h45:List AV→Option (Prop×AV):=t2 (fun _ _=>True) fun n hi:Int=>.c (.raw (.bool (decide (0≤n)&&decide (n≤hi))))
@[simp] theorem F2_ap45 {l:List AV}:F2_h45 l=(t2 (fun _ _=>True) fun n hi:Int=>.c (.raw (.bool (decide (0≤n)&&decide (n≤hi))))) l:=rfl
def F2_h57:List AV→Option (Prop×AV):=t2 (fun _ n=>0<n∧n≤9223372036854775807) fun i n:Int=>.c (.raw (.int .i64 (within i n)))
@[simp] theorem F2_ap57 {l:List AV}:F2_h57 l=(t2 (fun _ n=>0<n∧n≤9223372036854775807) fun i n:Int=>.c (.raw (.int .i64 (within i n)))) l:=rfl
def F2_h55:List AV→Option (Prop×AV):=t1 (fun n=>0≤n∧n≤1000000) fun n:Int=>.c (.str (List.replicate n.toNat 0))
@[simp] theorem F2_ap55 {l:List AV}:F2_h55 l=(t1 (fun n=>0≤n∧n≤1000000) fun n:Int=>.c (.str (List.replicate n.toNat 0))) l:=rfl
def F2_h27:List AV→Option (Prop×AV):=t2 (fun a b=>a.safe.length<4611686018427387904∧a.wait.length<4611686018427387904) fun a b:DiskV=>.c (.raw (.bool (decide (a=b))))
@[simp] theorem F2_ap27 {l:List AV}:F2_h27 l=(t2 (fun a b=>a.safe.length<4611686018427387904∧a.wait.length<4611686018427387904) fun a b:DiskV=>.c (.raw (.bool (decide (a=b))))) l:=rfl
def F2_h23:List AV→Option (Prop×AV):=t1 (fun d=>d.safe.length<1000000∧d.wait.length<1000000) fun d:DiskV=>.g (diskNw d)
@[simp] theorem F2_ap23 {l:List AV}:F2_h23 l=(t1 (fun d=>d.safe.length<1000000∧d.wait.length<1000000) fun d:DiskV=>.g (diskNw d)) l:=rfl
def F2:CT:=(45,.pu F2_h45)::(57,.pu F2_h57)::(55,.pu F2_h55)::(27,.pu F2_h27)::(23,.pu F2_h23)::F1
theorem F2_ok:CTok Tryz.prog F2:=⟨tells2 fun n hi _=>num31_ev n hi,
 tells2 fun i n h=>within_ev i n h.1 h.2,
 tells1 fun n h=>zerosI_ev n h,
 tells2 fun a b h=>eqDisk_ev a b h.1 h.2,
 tells1 fun d h=>copyDisk_ev d h.1 h.2,F1_ok⟩
@[simp] theorem F2_get45:ctGet F2 45=some (.pu F2_h45):=rfl
@[simp] theorem F2_get57:ctGet F2 57=some (.pu F2_h57):=rfl
@[simp] theorem F2_get55:ctGet F2 55=some (.pu F2_h55):=rfl
@[simp] theorem F2_get27:ctGet F2 27=some (.pu F2_h27):=rfl
@[simp] theorem F2_get23:ctGet F2 23=some (.pu F2_h23):=rfl
@[simp] theorem F2_skip {n:Nat} (h:(n==45||n==57||n==55||n==27||n==23)=false):ctGet F2 n=ctGet F1 n:=by
 simp only [Bool.or_eq_false_iff,beq_eq_false_iff_ne,ne_eq] at h
 simp [F2,ctGet,h]
theorem blank26_ev:PEv Tryz.prog 33 [] (.c (.str blank)):=by
 refine tells_of mixed F2_ok Tryz.func33 sl33 ok33 (by kernel_rfl) (by simp -implicitDefEqProofs) (by simp -implicitDefEqProofs) ?_
 simp -implicitDefEqProofs [s33,blank]
end Go.AE
set_option linter.unusedVariables false
set_option linter.unusedSimpArgs false
set_option maxHeartbeats 2000000
namespace Go.AE
open Go Go.Proofs
def wSum {α:Type} (f:α→Int):Int→List α→Int
 |n,[]=>n
 |n,x::r=>if n<1048576 then wSum f (n+f x) r else n
def diskWeight (d:DiskV):Int:=wSum (fun s:Sect=>(s.text.length:Int)/16) (wSum (fun s:List UInt8=>(s.length:Int)/64) ((d.safe.length:Int)/4+d.wait.length) d.safe) d.wait
theorem wSum_drop {α:Type} (f:α→Int) (n:Int) (l:List α) (i:Nat) (h:i<l.length) (hn:n<1048576):wSum f n (l.drop i)=wSum f (n+f l[i]) (l.drop (i+1)):=by
 rw [List.drop_eq_getElem_cons h,wSum,if_pos hn]
theorem wSum_stop {α:Type} (f:α→Int) (n:Int) (l:List α) (h:¬n<1048576):wSum f n l=n:=by
 cases l with
 |nil=>rfl
 |cons x r=>rw [wSum,if_neg h]
theorem tdiv_nat (n k:Nat):Int.tdiv (n:Int) (k:Int)=(n:Int)/(k:Int):=by
 rw [Int.tdiv_eq_ediv_of_nonneg (by omega)]
theorem diskWeight_ev (d:DiskV) (h1:d.safe.length<281474976710656) (h2:d.wait.length<281474976710656) (h3:∀s∈d.safe,s.length<281474976710656) (h4:∀s∈d.wait,s.text.length<281474976710656) :
  PEv Tryz.prog 65 [Arg.enc d] (.c (.raw (.int .i64 (diskWeight d)))):=by
 have hF:CTok Tryz.prog []:=trivial
 refine tells_of mixed hF Tryz.func65 sl65 ok65 (by kernel_rfl) (by simp -implicitDefEqProofs) (by simp -implicitDefEqProofs) ?_
 have e0:IntKind.wrap .i64 (IntKind.wrap .i64 ((d.safe.length:Int)/4)+d.wait.length)=(d.safe.length:Int)/4+d.wait.length:=by
  rw [wrap64_id (n:=(d.safe.length:Int)/4) (by omega) (by omega),wrap64_id (by omega) (by omega)]
 simp -implicitDefEqProofs [s65,e0]
 generalize hW:wSum (fun s:List UInt8=>(s.length:Int)/64) ((d.safe.length:Int)/4+d.wait.length) d.safe=W
 refine loop_cut (fun st=>st.s 1=.c (.pt (0,1) 0 0)∧st.H (0,1)=.arr 30 2 false [[.sl .brw false (rowsE d.safe),.sl .brw false (rowsE d.wait)]]∧st.s 3=.c (.raw (.int .i64 W))∧0≤W∧W<1125899906842624) ?_ ?_
 ·refine loop_n (fun n st=>∃(i:Nat) (m:Int),i≤d.safe.length∧n=d.safe.length-i∧st.s 1=.c (.pt (0,1) 0 0)∧st.H (0,1)=.arr 30 2 false [[.sl .brw false (rowsE d.safe),.sl .brw false (rowsE d.wait)]]∧
   st.s 3=.c (.raw (.int .i64 m))∧st.s 4=.c (.raw (.int .i64 i))∧0≤m∧m<1125899906842624∧wSum (fun s:List UInt8=>(s.length:Int)/64) m (d.safe.drop i)=W)
   d.safe.length ⟨0,(d.safe.length:Int)/4+d.wait.length,by simp -implicitDefEqProofs [hW];omega⟩ ?_
  rintro n st ⟨i,m,hi,rfl,g1,gH,g3,g4,hm0,hm1,hw⟩
  by_cases hlt:i<d.safe.length
  ·by_cases hm:m<1048576
   ·have hl:=h3 d.safe[i] (List.getElem_mem hlt)
    have e1:IntKind.wrap .i64 (m+IntKind.wrap .i64 ((d.safe[i].length:Int)/64))=m+(d.safe[i].length:Int)/64:=by
     rw [wrap64_id (n:=(d.safe[i].length:Int)/64) (by omega) (by omega),wrap64_id (by omega) (by omega)]
    have e2:IntKind.wrap .i64 ((i:Int)+1)=((i+1:Nat):Int):=by rw [wrap64_id]<;>omega
    simp -implicitDefEqProofs [s65L0,s65L1,g1,gH,g3,g4,hlt,hm,e1,e2]
    refine ⟨_,?_,i+1,?_,rfl,rfl,?_,?_,?_⟩
    ·omega
    ·omega
    ·omega
    ·omega
    ·rw [←hw,wSum_drop _ _ _ _ hlt hm]
   ·rw [wSum_stop _ _ _ hm] at hw
    subst hw
    simp -implicitDefEqProofs [s65L0,s65L1,g1,gH,g3,g4,hlt,hm]
    omega
  ·have:d.safe.drop i=[]:=List.drop_eq_nil_of_le (by omega)
   rw [this,wSum] at hw
   subst hw
   simp -implicitDefEqProofs [s65L0,s65L1,g1,gH,g3,g4,hlt]
   omega
 ·rintro st ⟨g1,gH,g3,hW0,hW1⟩
  simp -implicitDefEqProofs [s65L0,s65L1,g1,gH,g3]
  have hV:diskWeight d=wSum (fun s:Sect=>(s.text.length:Int)/16) W d.wait:=by rw [←hW];rfl
  refine loop_n (fun n st=>∃(i:Nat) (m:Int),i≤d.wait.length∧n=d.wait.length-i∧st.s 1=.c (.pt (0,1) 0 0)∧st.H (0,1)=.arr 30 2 false [[.sl .brw false (rowsE d.safe),.sl .brw false (rowsE d.wait)]]∧
   st.s 3=.c (.raw (.int .i64 m))∧st.s 5=.c (.raw (.int .i64 i))∧0≤m∧m<2251799813685248∧wSum (fun s:Sect=>(s.text.length:Int)/16) m (d.wait.drop i)=diskWeight d)
   d.wait.length ⟨0,W,by simp -implicitDefEqProofs [hV,g1,gH,g3];omega⟩ ?_
  rintro n st ⟨i,m,hi,rfl,g1,gH,g3,g4,hm0,hm1,hw⟩
  by_cases hlt:i<d.wait.length
  ·by_cases hm:m<1048576
   ·have hl:=h4 d.wait[i] (List.getElem_mem hlt)
    have e1:IntKind.wrap .i64 (m+IntKind.wrap .i64 ((d.wait[i].text.length:Int)/16))=m+(d.wait[i].text.length:Int)/16:=by
     rw [wrap64_id (n:=(d.wait[i].text.length:Int)/16) (by omega) (by omega),wrap64_id (by omega) (by omega)]
    have e2:IntKind.wrap .i64 ((i:Int)+1)=((i+1:Nat):Int):=by rw [wrap64_id]<;>omega
    simp -implicitDefEqProofs [s65L0,s65L1,g1,gH,g3,g4,hlt,hm,e1,e2]
    refine ⟨_,?_,i+1,?_,rfl,rfl,?_,?_,?_⟩
    ·omega
    ·omega
    ·omega
    ·omega
    ·rw [←hw,wSum_drop _ _ _ _ hlt hm]
   ·rw [wSum_stop _ _ _ hm] at hw
    subst hw
    simp -implicitDefEqProofs [s65L0,s65L1,g1,gH,g3,g4,hlt,hm]
  ·have:d.wait.drop i=[]:=List.drop_eq_nil_of_le (by omega)
   rw [this,wSum] at hw
   subst hw
   simp -implicitDefEqProofs [s65L0,s65L1,g1,gH,g3,g4,hlt]
end Go.AE
set_option linter.unusedVariables false
set_option linter.unusedSimpArgs false
set_option maxHeartbeats 2000000
namespace Go.AE
open Go Go.Proofs
theorem clone32_ev (l:List (List UInt8)) (hl:l.length<1000000):PEv Tryz.prog 41 [.c (.sl .brw false (rowsE l))] (.c (.nw 9 1 (rowsE l))):=by
 have hF:CTok Tryz.prog []:=trivial
 refine tells_of mixed hF Tryz.func41 sl41 ok41 (by kernel_rfl) (by simp -implicitDefEqProofs) (by simp -implicitDefEqProofs) ?_
 simp -implicitDefEqProofs [s41]
 omega
theorem clone50_ev (l:List Sect) (hl:l.length<1000000):PEv Tryz.prog 105 [.c (.sl .brw false (rowsE l))] (.c (.nw 88 2 (rowsE l))):=by
 have hF:CTok Tryz.prog []:=trivial
 refine tells_of mixed hF Tryz.func105 sl105 ok105 (by kernel_rfl) (by simp -implicitDefEqProofs) (by simp -implicitDefEqProofs) ?_
 simp -implicitDefEqProofs [s105]
 omega
def F3_h41:List AV→Option (Prop×AV):=t1 (fun l=>l.length<1000000) fun l:List (List UInt8)=>.c (.nw 9 1 (rowsE l))
@[simp] theorem F3_ap41 {l:List AV}:F3_h41 l=(t1 (fun l=>l.length<1000000) fun l:List (List UInt8)=>.c (.nw 9 1 (rowsE l))) l:=rfl
def F3_h105:List AV→Option (Prop×AV):=t1 (fun l=>l.length<1000000) fun l:List Sect=>.c (.nw 88 2 (rowsE l))
@[simp] theorem F3_ap105 {l:List AV}:F3_h105 l=(t1 (fun l=>l.length<1000000) fun l:List Sect=>.c (.nw 88 2 (rowsE l))) l:=rfl
def F3:CT:=(41,.pu F3_h41)::(105,.pu F3_h105)::F2
theorem F3_ok:CTok Tryz.prog F3:=⟨tells1 fun l h=>clone32_ev l h,
 tells1 fun l h=>clone50_ev l h,F2_ok⟩
@[simp] theorem F3_get41:ctGet F3 41=some (.pu F3_h41):=rfl
@[simp] theorem F3_get105:ctGet F3 105=some (.pu F3_h105):=rfl
@[simp] theorem F3_skip {n:Nat} (h:(n==41||n==105)=false):ctGet F3 n=ctGet F2 n:=by
 simp only [Bool.or_eq_false_iff,beq_eq_false_iff_ne,ne_eq] at h
 simp [F3,ctGet,h]
theorem own29_ev (d:DiskV) (h1:d.safe.length<1000000) (h2:d.wait.length<1000000):PEv Tryz.prog 78 [Arg.enc d] (.g (diskNw d)):=by
 refine tells_of mixed F3_ok Tryz.func78 sl78 ok78 (by kernel_rfl) (by simp -implicitDefEqProofs [diskNw]) (by simp -implicitDefEqProofs) ?_
 simp -implicitDefEqProofs [s78,h1,h2,diskNw]
end Go.AE
set_option linter.unusedVariables false
set_option linter.unusedSimpArgs false
set_option maxHeartbeats 2000000
namespace Go.AE
open Go Go.Proofs
def idxOf {α:Type} (p:α→Bool):Nat→List α→Int
 |_,[]=>-1
 |i,x::r=>if p x=true then i else idxOf p (i+1) r
theorem indexFunc53_ev (g:FuncId) (caps:List AC) (p:List UInt8→Bool) (l:List (List UInt8)) (hl:l.length<1000000) (hcaps:∀c∈caps,VOK1 c) (hview:viewA noHeap (caps.map .c)=some (caps.map .c))
  (hp:∀s∈l,PEv Tryz.prog g (.c (.str s)::caps.map .c) (.c (.raw (.bool (p s))))) :
  PEv Tryz.prog 94 [.c (.sl .brw false (rowsE l)),.c (.fn g caps)] (.c (.raw (.int .i64 (idxOf p 0 l)))):=by
 have hF:CTok Tryz.prog []:=trivial
 refine tells_of mixed hF Tryz.func94 sl94 ok94 (by kernel_rfl) (by simp -implicitDefEqProofs) (by simpa using hcaps) ?_
 simp -implicitDefEqProofs [s94]
 refine loop_n (fun n st=>∃i:Nat,i≤l.length∧n=l.length-i∧st.s 0=.c (.sl .brw false (rowsE l))∧st.s 1=.c (.fn g caps)∧st.s 7=.c (.raw (.int .i64 l.length))∧st.s 8=.c (.raw (.int .i64 i))∧st.H=noHeap∧
  idxOf p i (l.drop i)=idxOf p 0 l) l.length ⟨0,by simp -implicitDefEqProofs⟩ ?_
 rintro n st ⟨i,hi,rfl,h0,h1,h7,h8,hH,hx⟩
 by_cases hlt:i<l.length
 ·have hw:IntKind.wrap .i64 ((i:Int)+1)=((i+1:Nat):Int):=by rw [wrap64_id]<;>omega
  have hev:=hp l[i] (List.getElem_mem hlt)
  simp -implicitDefEqProofs [s94L0,h0,h1,h7,h8,hH,hlt]
  refine acall_pure hev ?_ (by simp -implicitDefEqProofs) (by simp -implicitDefEqProofs) ?_
  ·simp -implicitDefEqProofs [hH,hview]
  ·rw [List.drop_eq_getElem_cons hlt,idxOf] at hx
   simp -implicitDefEqProofs [s94L0,h0,h1,h7,h8,hH,hlt,hw]
   refine ⟨fun e=>by rw [if_pos e] at hx;exact hx,fun e=>⟨_,?_,i+1,?_,rfl,rfl,?_⟩⟩
   ·omega
   ·omega
   ·rw [if_neg (by simp -implicitDefEqProofs [e])] at hx;exact hx
 ·simp -implicitDefEqProofs [s94L0,h0,h1,h7,h8,hH,hlt]
  rw [←hx,List.drop_eq_nil_of_le (by omega)]
  rfl
theorem indexFunc54_ev (g:FuncId) (caps:List AC) (p:Sect→Bool) (l:List Sect) (hl:l.length<1000000) (hcaps:∀c∈caps,VOK1 c) (hview:viewA noHeap (caps.map .c)=some (caps.map .c))
  (hp:∀s∈l,PEv Tryz.prog g (.g [.raw (.int .i64 s.at_),.str s.text]::caps.map .c) (.c (.raw (.bool (p s))))) :
  PEv Tryz.prog 95 [.c (.sl .brw false (rowsE l)),.c (.fn g caps)] (.c (.raw (.int .i64 (idxOf p 0 l)))):=by
 have hF:CTok Tryz.prog []:=trivial
 refine tells_of mixed hF Tryz.func95 sl95 ok95 (by kernel_rfl) (by simp -implicitDefEqProofs) (by simpa using hcaps) ?_
 simp -implicitDefEqProofs [s95]
 refine loop_n (fun n st=>∃i:Nat,i≤l.length∧n=l.length-i∧st.s 0=.c (.sl .brw false (rowsE l))∧st.s 1=.c (.fn g caps)∧st.s 7=.c (.raw (.int .i64 l.length))∧st.s 8=.c (.raw (.int .i64 i))∧st.H=noHeap∧
  idxOf p i (l.drop i)=idxOf p 0 l) l.length ⟨0,by simp -implicitDefEqProofs⟩ ?_
 rintro n st ⟨i,hi,rfl,h0,h1,h7,h8,hH,hx⟩
 by_cases hlt:i<l.length
 ·have hw:IntKind.wrap .i64 ((i:Int)+1)=((i+1:Nat):Int):=by rw [wrap64_id]<;>omega
  have hev:=hp l[i] (List.getElem_mem hlt)
  simp -implicitDefEqProofs [s95L0,h0,h1,h7,h8,hH,hlt]
  refine acall_pure hev ?_ (by simp -implicitDefEqProofs) (by simp -implicitDefEqProofs) ?_
  ·simp -implicitDefEqProofs [hH,hview]
  ·rw [List.drop_eq_getElem_cons hlt,idxOf] at hx
   simp -implicitDefEqProofs [s95L0,h0,h1,h7,h8,hH,hlt,hw]
   refine ⟨fun e=>by rw [if_pos e] at hx;exact hx,fun e=>⟨_,?_,i+1,?_,rfl,rfl,?_⟩⟩
   ·omega
   ·omega
   ·rw [if_neg (by simp -implicitDefEqProofs [e])] at hx;exact hx
 ·simp -implicitDefEqProofs [s95L0,h0,h1,h7,h8,hH,hlt]
  rw [←hx,List.drop_eq_nil_of_le (by omega)]
  rfl
theorem idxOf_any {α:Type} (p:α→Bool):∀(l:List α) (i:Nat),(0≤idxOf p i l)↔l.any p=true
 |[],i=>by simp -implicitDefEqProofs [idxOf]
 |x::r,i=>by
  rw [idxOf,List.any_cons]
  by_cases h:p x=true
  ·simp -implicitDefEqProofs [h]
  ·rw [if_neg h,idxOf_any p r (i+1)]
   simp -implicitDefEqProofs [h]
end Go.AE
set_option linter.unusedVariables false
set_option linter.unusedSimpArgs false
set_option maxHeartbeats 2000000
namespace Go.AE
open Go Go.Proofs
theorem contains46_ev (g:FuncId) (caps:List AC) (p:List UInt8→Bool) (l:List (List UInt8)) (hl:l.length<1000000) (hcaps:∀c∈caps,VOK1 c) (hview:viewA noHeap (caps.map .c)=some (caps.map .c)) (hview2:viewPL noHeap caps=some caps)
  (hp:∀s∈l,PEv Tryz.prog g (.c (.str s)::caps.map .c) (.c (.raw (.bool (p s))))) :
  PEv Tryz.prog 67 [.c (.sl .brw false (rowsE l)),.c (.fn g caps)] (.c (.raw (.bool (l.any p)))):=by
 have hF:CTok Tryz.prog []:=trivial
 refine tells_of mixed hF Tryz.func67 sl67 ok67 (by kernel_rfl) (by simp -implicitDefEqProofs) (by simpa using hcaps) ?_
 simp -implicitDefEqProofs [s67]
 refine acall_pure (indexFunc53_ev g caps p l hl hcaps hview hp) (by simp -implicitDefEqProofs [hview2]) (by simp -implicitDefEqProofs) (by simp -implicitDefEqProofs) ?_
 simp -implicitDefEqProofs
 rw [Bool.eq_iff_iff,decide_eq_true_iff]
 exact idxOf_any p l 0
theorem contains48_ev (g:FuncId) (caps:List AC) (p:Sect→Bool) (l:List Sect) (hl:l.length<1000000) (hcaps:∀c∈caps,VOK1 c) (hview:viewA noHeap (caps.map .c)=some (caps.map .c)) (hview2:viewPL noHeap caps=some caps)
  (hp:∀s∈l,PEv Tryz.prog g (.g [.raw (.int .i64 s.at_),.str s.text]::caps.map .c) (.c (.raw (.bool (p s))))) :
  PEv Tryz.prog 70 [.c (.sl .brw false (rowsE l)),.c (.fn g caps)] (.c (.raw (.bool (l.any p)))):=by
 have hF:CTok Tryz.prog []:=trivial
 refine tells_of mixed hF Tryz.func70 sl70 ok70 (by kernel_rfl) (by simp -implicitDefEqProofs) (by simpa using hcaps) ?_
 simp -implicitDefEqProofs [s70]
 refine acall_pure (indexFunc54_ev g caps p l hl hcaps hview hp) (by simp -implicitDefEqProofs [hview2]) (by simp -implicitDefEqProofs) (by simp -implicitDefEqProofs) ?_
 simp -implicitDefEqProofs
 rw [Bool.eq_iff_iff,decide_eq_true_iff]
 exact idxOf_any p l 0
def isSec (s:List UInt8):Bool:=decide (s.length=32)
theorem may1_ev (s:List UInt8):PEv Tryz.prog 68 [.c (.str s)] (.c (.raw (.bool (!isSec s)))):=by
 refine tells_of mixed F1_ok Tryz.func68 sl68 ok68 (by kernel_rfl) (by simp -implicitDefEqProofs) (by simp -implicitDefEqProofs) ?_
 simp -implicitDefEqProofs [s68,isSec]
def badSect (n:Nat) (x:Sect):Bool:=!isSec x.text||decide (x.at_<0)||decide ((n:Int)≤x.at_)
theorem may2_ev (d:DiskV) (x:Sect):PEv Tryz.prog 71 [.g [.raw (.int .i64 x.at_),.str x.text],.c (.pv .brw [.sl .brw false (rowsE d.safe),.sl .brw false (rowsE d.wait)] 0)] (.c (.raw (.bool (badSect d.safe.length x)))):=by
 refine tells_of mixed F1_ok Tryz.func71 sl71 ok71 (by kernel_rfl) (by simp -implicitDefEqProofs) (by simp -implicitDefEqProofs) ?_
 simp -implicitDefEqProofs [s71,badSect,isSec]
 omega
end Go.AE
set_option linter.unusedVariables false
set_option linter.unusedSimpArgs false
set_option maxHeartbeats 2000000
namespace Go.AE
open Go Go.Proofs
def mayB (d:DiskV):Bool:=decide (1≤d.safe.length)&&decide (d.safe.length≤400)&&decide (d.wait.length≤400)&&d.safe.all isSec&&d.wait.all fun x=>!badSect d.safe.length x
theorem any_not {α:Type} (p:α→Bool) (l:List α):(l.any fun x=>!p x)=!l.all p:=by
 induction l with
 |nil=>rfl
 |cons x r ih=>simp -implicitDefEqProofs [ih]
theorem may_ev (d:DiskV) (h1:d.safe.length<1000000) (h2:d.wait.length<1000000):PEv Tryz.prog 36 [Arg.enc d] (.c (.raw (.bool (mayB d)))):=by
 refine tells_of mixed F1_ok Tryz.func36 sl36 ok36 (by kernel_rfl) (by simp) (by simp) ?_
 simp -implicitDefEqProofs [s36]
 refine ⟨fun g1=>⟨fun g2=>⟨fun g3=>?_,fun g3=>?_⟩,fun g2=>?_⟩,fun g1=>?_⟩
 ·simp -implicitDefEqProofs [mayB];omega
 ·refine acall_pure (contains46_ev 68 [] (fun s=>!isSec s) d.safe h1 (by simp -implicitDefEqProofs) (by simp -implicitDefEqProofs) (by simp -implicitDefEqProofs) fun s _=>may1_ev s) ?_ (by simp -implicitDefEqProofs) (by simp -implicitDefEqProofs) ?_
  ·simp -implicitDefEqProofs
  ·simp -implicitDefEqProofs
   refine ⟨fun s hs hx=>?_,fun hs=>?_⟩
   ·simp -implicitDefEqProofs [mayB];intro _ _ _ ha;rw [ha s hs] at hx;cases hx
   ·refine acall_pure (contains48_ev 71 [.pv .brw [.sl .brw false (rowsE d.safe),.sl .brw false (rowsE d.wait)] 0] (badSect d.safe.length) d.wait h2 (by simp -implicitDefEqProofs) (by simp -implicitDefEqProofs) (by simp -implicitDefEqProofs) fun x _=>may2_ev d x) ?_ (by simp -implicitDefEqProofs) (by simp -implicitDefEqProofs) ?_
    ·simp -implicitDefEqProofs
    ·simp -implicitDefEqProofs
     have e:d.safe.all isSec=true:=List.all_eq_true.2 hs
     have e2:d.wait.any (badSect d.safe.length)=!d.wait.all fun x=>!badSect d.safe.length x:=by rw [←any_not];simp -implicitDefEqProofs
     rw [e2,mayB,e]
     simp -implicitDefEqProofs [show 1≤d.safe.length by omega,show d.safe.length≤400 by omega,show d.wait.length≤400 by omega]
 ·simp -implicitDefEqProofs [mayB];omega
 ·simp -implicitDefEqProofs [mayB];omega
theorem all_take_step {α:Type} {p:α→Bool} {l:List α} {i:Nat} (h:(l.take i).all p=true) (hi:i<l.length) (hp:p l[i]=true):(l.take (i+1)).all p=true:=by
 rw [List.take_add_one,List.all_append,h];simp -implicitDefEqProofs [hi,hp]
theorem all_false_at {α:Type} {p:α→Bool} {l:List α} {i:Nat} (hi:i<l.length) (hp:p l[i]=false):l.all p=false:=by
 rw [List.all_eq_false];exact ⟨l[i],List.getElem_mem hi,by simp -implicitDefEqProofs [hp]⟩
def diskVar (d:DiskV) (H:Heap) (i:Id):Prop:=H i=.arr 30 2 false [[.sl .brw false (rowsE d.safe),.sl .brw false (rowsE d.wait)]]
theorem refDisk_l0 {F:CT} (d:DiskV) (h1:d.safe.length<281474976710656) {Q:AEx→St→Prop} {st:St} (k1:st.s 1=.c (.pt (0,1) 0 0)) (kH:diskVar d st.H (0,1)) (k3:st.s 3=.c (.raw (.int .i64 0)))
  (hn:∀st',st'.s 1=.c (.pt (0,1) 0 0)→diskVar d st'.H (0,1)→d.safe.all isSec=true→Q (.exit 0) st') (hr:∀st',st'.s 2=.c (.raw (.bool false))→d.safe.all isSec=false→Q .ret st') :
  awpS Tryz.prog F (.loop s24L0) Q st:=by
 refine loop_n (fun n st=>∃i:Nat,i≤d.safe.length∧n=d.safe.length-i∧st.s 1=.c (.pt (0,1) 0 0)∧diskVar d st.H (0,1)∧st.s 3=.c (.raw (.int .i64 i))∧(d.safe.take i).all isSec=true) d.safe.length ⟨0,by simp -implicitDefEqProofs [k1,kH,k3]⟩ ?_
 rintro n st ⟨i,hi,rfl,k1,kH',k3,ha⟩
 have kH:=kH'
 unfold diskVar at kH
 by_cases hlt:i<d.safe.length
 ·have e2:IntKind.wrap .i64 ((i:Int)+1)=((i+1:Nat):Int):=by rw [wrap64_id]<;>omega
  simp -implicitDefEqProofs [s24L0,k1,kH,k3,hlt,e2]
  refine ⟨fun hne=>hr _ (by simp -implicitDefEqProofs) (all_false_at (p:=isSec) hlt (by simp -implicitDefEqProofs [isSec];omega)),fun he=>⟨d.safe.length-(i+1),by omega,i+1,by omega,rfl,kH',rfl,?_⟩⟩
  have:=all_take_step ha hlt (by simp -implicitDefEqProofs [isSec];omega)
  simpa using this
 ·have:i=d.safe.length:=by omega
  subst this
  rw [List.take_length] at ha
  simp -implicitDefEqProofs [s24L0,k1,kH,k3,hlt]
  exact hn _ (by simp -implicitDefEqProofs [k1]) (by simp -implicitDefEqProofs [kH']) ha
theorem refDisk_l1 {F:CT} (d:DiskV) (h0:1≤d.safe.length) (h1:d.safe.length<281474976710656) (h2:d.wait.length<281474976710656) {Q:AEx→St→Prop} {st:St} (k1:st.s 1=.c (.pt (0,1) 0 0)) (kH:diskVar d st.H (0,1)) (k3:st.s 4=.c (.raw (.int .i64 0)))
  (hF:ctGet F 45=ctGet F2 45)
  (hn:∀st',(d.wait.all fun x=>!badSect d.safe.length x)=true→Q (.exit 2) st') (hr:∀st',st'.s 2=.c (.raw (.bool false))→(d.wait.all fun x=>!badSect d.safe.length x)=false→Q .ret st') :
  awpS Tryz.prog F (.loop s24L1) Q st:=by
 refine loop_n (fun n st=>∃i:Nat,i≤d.wait.length∧n=d.wait.length-i∧st.s 1=.c (.pt (0,1) 0 0)∧diskVar d st.H (0,1)∧st.s 4=.c (.raw (.int .i64 i))∧(d.wait.take i).all (fun x=>!badSect d.safe.length x)=true) d.wait.length ⟨0,by simp -implicitDefEqProofs [k1,kH,k3]⟩ ?_
 rintro n st ⟨i,hi,rfl,k1,kH',k3,ha⟩
 have kH:=kH'
 unfold diskVar at kH
 by_cases hlt:i<d.wait.length
 ·have e2:IntKind.wrap .i64 ((i:Int)+1)=((i+1:Nat):Int):=by rw [wrap64_id]<;>omega
  have e3:IntKind.wrap .i64 ((d.safe.length:Int)-1)=(d.safe.length:Int)-1:=by rw [wrap64_id]<;>omega
  simp -implicitDefEqProofs [s24L1,k1,kH,k3,hlt,e2,e3,hF]
  refine ⟨fun a b=>⟨fun hne=>hr _ (by simp -implicitDefEqProofs) (all_false_at (p:=fun x=>!badSect d.safe.length x) hlt (by simp -implicitDefEqProofs [badSect,isSec];omega)),fun he=>⟨d.wait.length-(i+1),by omega,i+1,by omega,rfl,kH',rfl,?_⟩⟩,fun a=>hr _ (by simp -implicitDefEqProofs) (all_false_at (p:=fun x=>!badSect d.safe.length x) hlt (by simp -implicitDefEqProofs [badSect,isSec];omega))⟩
  have:=all_take_step ha hlt (by simp -implicitDefEqProofs [badSect,isSec];omega)
  simpa using this
 ·have:i=d.wait.length:=by omega
  subst this
  rw [List.take_length] at ha
  simp -implicitDefEqProofs [s24L1,k1,kH,k3,hlt]
  exact hn _ ha
theorem refDisk_ev (d:DiskV) (h1:d.safe.length<281474976710656) (h2:d.wait.length<281474976710656):PEv Tryz.prog 24 [Arg.enc d] (.c (.raw (.bool (mayB d)))):=by
 refine tells_of mixed F2_ok Tryz.func24 sl24 ok24 (by kernel_rfl) (by simp) (by simp) ?_
 simp -implicitDefEqProofs [s24]
 repeat' (first|(intro _)|(with_reducible apply And.intro))
 ·simp -implicitDefEqProofs [mayB];omega
 ·refine refDisk_l0 d h1 (by simp -implicitDefEqProofs) (by simp -implicitDefEqProofs [diskVar]) (by simp -implicitDefEqProofs) ?_ ?_
  ·intro st' k1 kH hs
   simp -implicitDefEqProofs [k1]
   refine refDisk_l1 d (by omega) h1 h2 (by simp -implicitDefEqProofs [k1]) kH (by simp -implicitDefEqProofs) rfl ?_ ?_
   ·intro st' hw
    simp -implicitDefEqProofs
    rw [mayB,hs,hw]
    simp -implicitDefEqProofs [show 1≤d.safe.length by omega,show d.safe.length≤400 by omega,show d.wait.length≤400 by omega]
   ·intro st' k2 hw
    simp -implicitDefEqProofs [k2]
    rw [mayB,hw];simp -implicitDefEqProofs
  ·intro st' k2 hs
   simp -implicitDefEqProofs [k2]
   rw [mayB,hs];simp -implicitDefEqProofs
 all_goals (simp -implicitDefEqProofs [mayB];omega)
def actBad (n:Nat):Prop:=True
end Go.AE
set_option linter.unusedVariables false
set_option linter.unusedSimpArgs false
set_option maxHeartbeats 2000000
namespace Go.AE
open Go Go.Proofs
def tear (safe:List (List UInt8)) (w:Sect) (k:Int):List (List UInt8):=
 if k=1 then safe.set w.at_.toNat w.text else if k=2 then safe.set w.at_.toNat (w.text.take 16++(safe.getD w.at_.toNat []).drop 16) else safe
def keepAt (keep:List Int) (i:Nat):Int:=if (keep.getD i 0)<0 then 0 else (keep.getD i 0)%3
def crashGo (keep:List Int):Nat→List (List UInt8)→List Sect→List (List UInt8)
 |_,safe,[]=>safe
 |i,safe,w::r=>crashGo keep (i+1) (tear safe w (keepAt keep i)) r
def syncGo:List (List UInt8)→List Sect→List (List UInt8)
 |safe,[]=>safe
 |safe,w::r=>syncGo (safe.set w.at_.toNat w.text) r
theorem tear_length (safe:List (List UInt8)) (w:Sect) (k:Int):(tear safe w k).length=safe.length:=by
 unfold tear;split<;>(try split)<;>simp -implicitDefEqProofs
theorem crashGo_length (keep:List Int):∀(l:List Sect) (i:Nat) (safe:List (List UInt8)),(crashGo keep i safe l).length=safe.length
 |[],_,_=>rfl
 |w::r,i,safe=>by rw [crashGo,crashGo_length,tear_length]
theorem mayB_of {d:DiskV} (h:mayB d=true):1≤d.safe.length∧d.safe.length≤400∧d.wait.length≤400∧(∀s∈d.safe,s.length=32)∧∀x∈d.wait,x.text.length=32∧0≤x.at_∧x.at_<d.safe.length:=by
 simp only [mayB,Bool.and_eq_true,decide_eq_true_eq,List.all_eq_true] at h
 obtain ⟨⟨⟨⟨h1,h2⟩,h3⟩,h4⟩,h5⟩:=h
 refine ⟨h1,h2,h3,fun s hs=>by simpa [isSec] using h4 s hs,fun x hx=>?_⟩
 have:=h5 x hx
 simp -implicitDefEqProofs [badSect,isSec] at this
 omega
theorem all_set {α:Type} {p:α→Prop} {l:List α} {i:Nat} {x:α} (h:∀s∈l,p s) (hx:p x):∀s∈l.set i x,p s:=fun s hs=>by
 rcases List.mem_or_eq_of_mem_set hs with q|q
 ·exact h s q
 ·rw [q];exact hx
theorem tear_sec {safe:List (List UInt8)} {w:Sect} {k:Int} (h:∀s∈safe,s.length=32) (hw:w.text.length=32) (h0:0≤w.at_) (h1:w.at_<safe.length):∀s∈tear safe w k,s.length=32:=by
 unfold tear
 split
 ·exact all_set h hw
 ·split
  ·refine all_set h ?_
   have:w.at_.toNat<safe.length:=by omega
   have:=h (safe.getD w.at_.toNat []) (by simp -implicitDefEqProofs [List.getD,this])
   simp -implicitDefEqProofs [hw] at this ⊢
   omega
  ·exact h
theorem crashGo_sec {keep:List Int}:∀(l:List Sect) (i:Nat) (safe:List (List UInt8)),(∀s∈safe,s.length=32)→(∀x∈l,x.text.length=32∧0≤x.at_∧x.at_<safe.length)→∀s∈crashGo keep i safe l,s.length=32
 |[],_,_,h,_=>h
 |w::r,i,safe,h,hl=>by
  rw [crashGo]
  have hw:=hl w (by simp -implicitDefEqProofs)
  exact crashGo_sec r (i+1) _ (tear_sec h hw.1 hw.2.1 hw.2.2) fun x hx=>by
   rw [tear_length];exact hl x (by simp -implicitDefEqProofs [hx])
def boxDisk (d:DiskV):OK:=.arr 30 2 false [[.sl .brw false (rowsE d.safe),.sl .brw false (rowsE d.wait)]]
def ownDisk (H:Heap) (v i:Id) (safe:List (List UInt8)):Prop:=H v=.arr 30 2 false [[.so i 0 safe.length,.raw (.slice none 0 0)]]∧H i=.arr 9 1 false (rowsE safe)∧v≠i
theorem keepAt_id {keep:List Int} {i:Nat} (hk:i<keep.length):keep.getD i 0=keep[i]:=by simp -implicitDefEqProofs [List.getD,hk]
theorem rowsE_set' {l:List (List UInt8)} {i:Nat} {a:List UInt8}:rowsE (l.set i a)=(rowsE l).set i [AC.str a]:=(rowsE_set l i a).symm
theorem diskCrash_l0 {F:CT} (d:DiskV) (keep:List Int) (hd:mayB d=true) (hkl:keep.length<281474976710656) {Q:AEx→St→Prop} {st:St} (b v i:Id) (k6:st.s 6=.c (.pt v 0 0)) (b4:Id) (k4:st.s 4=.c (.pt b4 0 0))
  (k1:st.s 1=.c (.sl .brw false (rowsE keep))) (kv:ownDisk st.H v i d.safe) (k18:st.s 18=.c (.sl .brw false (rowsE d.wait))) (k19:st.s 19=.c (.raw (.int .i64 d.wait.length))) (k20:st.s 20=.c (.raw (.int .i64 0)))
  (hf:Fresh st.H st.T)
  (hn:∀st',st'.s 6=.c (.pt v 0 0)→st'.s 4=.c (.pt b4 0 0)→st'.H i=.arr 9 1 false (rowsE (crashGo keep 0 d.safe d.wait))→ExtH [i] st.H st.T st'.H st'.T→Q (.exit 0) st') :
  awpS Tryz.prog F (.loop s11L0) Q st:=by
 obtain ⟨hd1,hd2,hd3,hd4,hd5⟩:=mayB_of hd
 obtain ⟨kv,ki,hvi⟩:=kv
 refine loop_n (fun n st'=>∃(j:Nat) (safe:List (List UInt8)),j≤d.wait.length∧n=d.wait.length-j∧safe.length=d.safe.length∧(∀s∈safe,s.length=32)∧st'.s 6=.c (.pt v 0 0)∧st'.s 4=.c (.pt b4 0 0)∧
  st'.s 1=.c (.sl .brw false (rowsE keep))∧st'.H i=.arr 9 1 false (rowsE safe)∧st'.s 18=.c (.sl .brw false (rowsE d.wait))∧st'.s 19=.c (.raw (.int .i64 d.wait.length))∧st'.s 20=.c (.raw (.int .i64 j))∧ExtH [i] st.H st.T st'.H st'.T∧
  crashGo keep j safe (d.wait.drop j)=crashGo keep 0 d.safe d.wait) d.wait.length ⟨0,d.safe,by simp -implicitDefEqProofs [k6,k4,k1,ki,k18,k19,k20,ExtH.refl hf];exact hd4⟩ ?_
 rintro n st' ⟨j,safe,hj,rfl,hl,hs,k6,k4,k1,ki,k18,k19,k20,he,hc⟩
 have hf':=he.fresh
 have kv:=he.arr kv (by simpa using hvi)
 obtain ⟨f4,f5,f6⟩:=hf'.arr kv
 obtain ⟨f7,f8,f9⟩:=hf'.arr ki
 have hfu:∀k d,st'.T≤k→st'.H (k,d)=.unborn:=hf'
 have hT:=he.2.2.1
 have hiv:(i=v)=False:=by simp only [eq_iff_iff,iff_false];exact fun e=>hvi e.symm
 by_cases hlt:j<d.wait.length
 ·have e2:IntKind.wrap .i64 ((j:Int)+1)=((j+1:Nat):Int):=by rw [wrap64_id]<;>omega
  obtain ⟨w1,w2,w3⟩:=hd5 d.wait[j] (List.getElem_mem hlt)
  have w4:d.wait[j].at_.toNat<safe.length:=by omega
  have w5:d.wait[j].at_<safe.length:=by omega
  have w5':d.wait[j].at_<d.safe.length:=w3
  have w6:=hs safe[d.wait[j].at_.toNat] (List.getElem_mem w4)
  rw [List.drop_eq_getElem_cons hlt,crashGo] at hc
  have hlen:(tear safe d.wait[j] (keepAt keep j)).length=d.safe.length:=by rw [tear_length,hl]
  have hsec:=tear_sec (k:=keepAt keep j) hs w1 w2 w5
  by_cases hk:j<keep.length
  ·have t3:0≤keep[j]→keep[j].tmod 3=keep[j]%3:=fun h=>Int.tmod_eq_emod_of_nonneg h
   have kA:keepAt keep j=if keep[j]<0 then 0 else keep[j]%3:=by rw [keepAt,keepAt_id hk]
   have hk':(keep.length≤j)=False:=by simp -implicitDefEqProofs;omega
   by_cases g:keep[j]<0
   ·simp -implicitDefEqProofs [s11L0,k6,k4,k1,kv,ki,k18,k19,k20,hlt,e2,f4,f5,f7,f8,hfu,hk,hk',w1,w2,w4,w5',hiv,w6,g]
    refine ⟨d.wait.length-(j+1),by omega,j+1,by omega,rfl,_,hlen,hsec,?_,rfl,?_,hc⟩
    ·rw [kA,if_pos g];simp -implicitDefEqProofs [tear]
    ·repeat' (first|exact he.tick (by first|omega|(simp<;>omega))|(refine ExtH.new ?_ (by first|omega|(simp<;>omega)) (by first|omega|(simp<;>omega)))|(refine ExtH.set ?_ (by simp) (by first|omega|(simp<;>omega))))
   ·have g':(keep[j]<0)=False:=by simp -implicitDefEqProofs;omega
    by_cases g1:keep[j].tmod 3=1
    ·simp -implicitDefEqProofs [s11L0,k6,k4,k1,kv,ki,k18,k19,k20,hlt,e2,f4,f5,f7,f8,hfu,hk,hk',w1,w2,w4,w5',hiv,w6,g',g1]
     refine ⟨d.wait.length-(j+1),by omega,j+1,by omega,rfl,_,hlen,hsec,?_,rfl,?_,hc⟩
     ·rw [kA,if_neg (by omega),←t3 (by omega),g1];simp -implicitDefEqProofs [tear,rowsE_set']
     ·repeat' (first|exact he.tick (by first|omega|(simp<;>omega))|(refine ExtH.new ?_ (by first|omega|(simp<;>omega)) (by first|omega|(simp<;>omega)))|(refine ExtH.set ?_ (by simp) (by first|omega|(simp<;>omega))))
    ·by_cases g2:keep[j].tmod 3=2
     ·simp -implicitDefEqProofs [s11L0,k6,k4,k1,kv,ki,k18,k19,k20,hlt,e2,f4,f5,f7,f8,hfu,hk,hk',w1,w2,w4,w5',hiv,w6,g',g1,g2]
      refine ⟨d.wait.length-(j+1),by omega,j+1,by omega,rfl,_,hlen,hsec,?_,rfl,?_,hc⟩
      ·rw [kA,if_neg (by omega),←t3 (by omega),g2];simp -implicitDefEqProofs [tear,rowsE_set',w4,List.take_of_length_le (Nat.le_of_eq w6)]
      ·repeat' (first|exact he.tick (by first|omega|(simp<;>omega))|(refine ExtH.new ?_ (by first|omega|(simp<;>omega)) (by first|omega|(simp<;>omega)))|(refine ExtH.set ?_ (by simp) (by first|omega|(simp<;>omega))))
     ·simp -implicitDefEqProofs [s11L0,k6,k4,k1,kv,ki,k18,k19,k20,hlt,e2,f4,f5,f7,f8,hfu,hk,hk',w1,w2,w4,w5',hiv,w6,g',g1,g2]
      refine ⟨d.wait.length-(j+1),by omega,j+1,by omega,rfl,_,hlen,hsec,?_,rfl,?_,hc⟩
      ·rw [kA,if_neg (by omega),←t3 (by omega)];simp -implicitDefEqProofs [tear,g1,g2]
      ·repeat' (first|exact he.tick (by first|omega|(simp<;>omega))|(refine ExtH.new ?_ (by first|omega|(simp<;>omega)) (by first|omega|(simp<;>omega)))|(refine ExtH.set ?_ (by simp) (by first|omega|(simp<;>omega))))
  ·have kA:keepAt keep j=0:=by simp -implicitDefEqProofs [keepAt,List.getD,hk]
   simp -implicitDefEqProofs [s11L0,k6,k4,k1,kv,ki,k18,k19,k20,hlt,e2,f4,f5,f7,f8,hfu,hk,w1,w2,w4,w5',hiv,w6]
   refine fun _=>⟨d.wait.length-(j+1),by omega,j+1,by omega,rfl,_,hlen,hsec,?_,rfl,?_,hc⟩
   ·rw [kA];simp -implicitDefEqProofs [tear]
   ·repeat' (first|exact he.tick (by first|omega|(simp<;>omega))|(refine ExtH.new ?_ (by first|omega|(simp<;>omega)) (by first|omega|(simp<;>omega)))|(refine ExtH.set ?_ (by simp) (by first|omega|(simp<;>omega))))
 ·have:j=d.wait.length:=by omega
  subst this
  simp -implicitDefEqProofs [s11L0,k6,k1,kv,ki,k18,k19,k20,hlt]
  rw [List.drop_length,crashGo] at hc
  exact hn _ (by simp -implicitDefEqProofs [k6]) (by simp -implicitDefEqProofs [k4]) (by rw [←hc];simpa using ki) (he.tick (by simp -implicitDefEqProofs))
end Go.AE
set_option linter.unusedVariables false
set_option linter.unusedSimpArgs false
set_option maxHeartbeats 2000000
namespace Go.AE
open Go Go.Proofs
def F4_h36:List AV→Option (Prop×AV):=t1 (fun d:DiskV=>d.safe.length<1000000∧d.wait.length<1000000) fun d:DiskV=>.c (.raw (.bool (mayB d)))
@[simp] theorem F4_ap36 {l:List AV}:F4_h36 l=(t1 (fun d:DiskV=>d.safe.length<1000000∧d.wait.length<1000000) fun d:DiskV=>.c (.raw (.bool (mayB d)))) l:=rfl
def F4_h78:List AV→Option (Prop×AV):=t1 (fun d:DiskV=>d.safe.length<1000000∧d.wait.length<1000000) fun d:DiskV=>.g (diskNw d)
@[simp] theorem F4_ap78 {l:List AV}:F4_h78 l=(t1 (fun d:DiskV=>d.safe.length<1000000∧d.wait.length<1000000) fun d:DiskV=>.g (diskNw d)) l:=rfl
def F4_h24:List AV→Option (Prop×AV):=t1 (fun d:DiskV=>d.safe.length<281474976710656∧d.wait.length<281474976710656) fun d:DiskV=>.c (.raw (.bool (mayB d)))
@[simp] theorem F4_ap24 {l:List AV}:F4_h24 l=(t1 (fun d:DiskV=>d.safe.length<281474976710656∧d.wait.length<281474976710656) fun d:DiskV=>.c (.raw (.bool (mayB d)))) l:=rfl
def F4_h33:List AV→Option (Prop×AV):=t0 (.c (.str blank))
@[simp] theorem F4_ap33 {l:List AV}:F4_h33 l=(t0 (.c (.str blank))) l:=rfl
def F4:CT:=(36,.pu F4_h36)::(78,.pu F4_h78)::(24,.pu F4_h24)::(33,.pu F4_h33)::F3
theorem F4_ok:CTok Tryz.prog F4:=⟨tells1 fun d h=>may_ev d h.1 h.2,
 tells1 fun d h=>own29_ev d h.1 h.2,
 tells1 fun d h=>refDisk_ev d h.1 h.2,
 tells0 blank26_ev,F3_ok⟩
@[simp] theorem F4_get36:ctGet F4 36=some (.pu F4_h36):=rfl
@[simp] theorem F4_get78:ctGet F4 78=some (.pu F4_h78):=rfl
@[simp] theorem F4_get24:ctGet F4 24=some (.pu F4_h24):=rfl
@[simp] theorem F4_get33:ctGet F4 33=some (.pu F4_h33):=rfl
@[simp] theorem F4_skip {n:Nat} (h:(n==36||n==78||n==24||n==33)=false):ctGet F4 n=ctGet F3 n:=by
 simp only [Bool.or_eq_false_iff,beq_eq_false_iff_ne,ne_eq] at h
 simp [F4,ctGet,h]
theorem crashGo_may {keep:List Int} {d:DiskV} (h:mayB d=true):(crashGo keep 0 d.safe d.wait).length=d.safe.length:=crashGo_length keep d.wait 0 d.safe
def crashR (d:DiskV) (keep:List Int):DiskV×Int:=if mayB d=true then (⟨crashGo keep 0 d.safe d.wait,[]⟩,0) else (⟨[],[]⟩,1)
def diskE (r:DiskV×Int):AV:=.t [(true,diskNw r.1),(false,[.raw (.int .i64 r.2)])]
theorem diskCrash_ev (d:DiskV) (keep:List Int) (h1:d.safe.length<1000000) (h2:d.wait.length<1000000) (h3:keep.length<281474976710656) :
  PEv Tryz.prog 11 [Arg.enc d,.c (.sl .brw false (rowsE keep))] (diskE (crashR d keep)):=by
 refine tells_of mixed F4_ok Tryz.func11 sl11 ok11 (by kernel_rfl) (by simp [diskE,diskNw]) (by simp) ?_
 unfold crashR
 by_cases hm:mayB d=true
 ·simp -implicitDefEqProofs [s11,h1,h2,hm]
  refine diskCrash_l0 d keep hm h3 (0,2) (2,6) (2,16384) (by simp -implicitDefEqProofs) (0,4) (by simp -implicitDefEqProofs) (by simp -implicitDefEqProofs) ⟨by simp -implicitDefEqProofs,by simp -implicitDefEqProofs,by simp -implicitDefEqProofs⟩ (by simp -implicitDefEqProofs) (by simp -implicitDefEqProofs) (by simp -implicitDefEqProofs) (by (simp;repeat' (first|exact fresh_no.mono (Nat.zero_le _)|(refine Fresh.set' ?_ (by simp))))) ?_
  intro st' k6 k4 ki he
  have kv:=he.1 (2,6)
  have k4':=he.1 (0,4)
  simp -implicitDefEqProofs at kv k4'
  simp -implicitDefEqProofs [k6,k4,kv,k4',ki,crashGo_length,diskE,diskNw]
 ·simp -implicitDefEqProofs [s11,h1,h2,hm]
  simp -implicitDefEqProofs [diskE,diskNw]
theorem refSync_l0 {F:CT} (d:DiskV) (hd:mayB d=true) {Q:AEx→St→Prop} {st:St} (b v i b4:Id) (k3:st.s 3=.c (.pt v 0 0)) (k2:st.s 2=.c (.pt b4 0 0))
  (k1:st.s 1=.c (.pt b 0 0)) (kb:st.H b=boxDisk d) (hib:b≠i) (kv:ownDisk st.H v i d.safe) (k4:st.s 4=.c (.raw (.int .i64 0)))
  (hf:Fresh st.H st.T)
  (hn:∀st',st'.s 3=.c (.pt v 0 0)→st'.s 2=.c (.pt b4 0 0)→st'.H i=.arr 9 1 false (rowsE (syncGo d.safe d.wait))→ExtH [i] st.H st.T st'.H st'.T→Q (.exit 0) st') :
  awpS Tryz.prog F (.loop s56L0) Q st:=by
 obtain ⟨hd1,hd2,hd3,hd4,hd5⟩:=mayB_of hd
 obtain ⟨kv,ki,hvi⟩:=kv
 unfold boxDisk at kb
 refine loop_n (fun n st'=>∃(j:Nat) (safe:List (List UInt8)),j≤d.wait.length∧n=d.wait.length-j∧safe.length=d.safe.length∧st'.s 3=.c (.pt v 0 0)∧st'.s 2=.c (.pt b4 0 0)∧st'.s 1=.c (.pt b 0 0)∧
  st'.H i=.arr 9 1 false (rowsE safe)∧st'.s 4=.c (.raw (.int .i64 j))∧ExtH [i] st.H st.T st'.H st'.T∧
  syncGo safe (d.wait.drop j)=syncGo d.safe d.wait) d.wait.length ⟨0,d.safe,by simp -implicitDefEqProofs [k4,k3,k2,k1,ki,ExtH.refl hf]⟩ ?_
 rintro n st' ⟨j,safe,hj,rfl,hl,k3,k2,k1,ki,k4,he,hc⟩
 have hf':=he.fresh
 have kv:=he.arr kv (by simpa using hvi)
 have kb:=he.arr kb (by simpa using hib)
 obtain ⟨f7,f8,f9⟩:=hf'.arr ki
 by_cases hlt:j<d.wait.length
 ·have e2:IntKind.wrap .i64 ((j:Int)+1)=((j+1:Nat):Int):=by rw [wrap64_id]<;>omega
  obtain ⟨w1,w2,w3⟩:=hd5 d.wait[j] (List.getElem_mem hlt)
  have w4:d.wait[j].at_.toNat<safe.length:=by omega
  rw [List.drop_eq_getElem_cons hlt,syncGo] at hc
  simp -implicitDefEqProofs [s56L0,k4,k3,k2,k1,kv,ki,kb,hlt,e2,w2,w3,w4]
  refine ⟨d.wait.length-(j+1),by omega,j+1,by omega,rfl,_,by rw [List.length_set,hl],rowsE_set'.symm,rfl,?_,hc⟩
  repeat' (first|exact he.tick (by first|omega|(simp<;>omega))|(refine ExtH.new ?_ (by first|omega|(simp<;>omega)) (by first|omega|(simp<;>omega)))|(refine ExtH.set ?_ (by simp) (by first|omega|(simp<;>omega))))
 ·have:j=d.wait.length:=by omega
  subst this
  simp -implicitDefEqProofs [s56L0,k4,k3,k2,k1,kv,ki,kb,hlt]
  rw [List.drop_length,syncGo] at hc
  exact hn _ (by simp -implicitDefEqProofs [k3]) (by simp -implicitDefEqProofs [k2]) (by rw [←hc];simpa using ki) (he.tick (by simp -implicitDefEqProofs))
theorem syncGo_length:∀(l:List Sect) (safe:List (List UInt8)),(syncGo safe l).length=safe.length
 |[],_=>rfl
 |w::r,safe=>by rw [syncGo,syncGo_length,List.length_set]
theorem refSync_ev (d:DiskV) (hm:mayB d=true):PEv Tryz.prog 56 [Arg.enc d] (.g (diskNw ⟨syncGo d.safe d.wait,[]⟩)):=by
 obtain ⟨hd1,hd2,hd3,hd4,hd5⟩:=mayB_of hm
 have h1:d.safe.length<1000000:=by omega
 refine tells_of mixed F4_ok Tryz.func56 sl56 ok56 (by kernel_rfl) (by simp [diskNw]) (by simp) ?_
 simp -implicitDefEqProofs [s56,h1]
 refine refSync_l0 d hm (0,1) (1,3) (1,8192) (0,2) (by simp -implicitDefEqProofs) (by simp -implicitDefEqProofs) (by simp -implicitDefEqProofs) (by simp -implicitDefEqProofs [boxDisk]) (by simp -implicitDefEqProofs) ⟨by simp -implicitDefEqProofs,by simp -implicitDefEqProofs,by simp -implicitDefEqProofs⟩ (by simp -implicitDefEqProofs) (by (simp;repeat' (first|exact fresh_no.mono (Nat.zero_le _)|(refine Fresh.set' ?_ (by simp))))) ?_
 intro st' k3 k2 ki he
 have kv:=he.1 (1,3)
 have k4':=he.1 (0,2)
 simp -implicitDefEqProofs at kv k4'
 simp -implicitDefEqProofs [k3,k2,kv,k4',ki,syncGo_length,diskNw]
end Go.AE
set_option linter.unusedVariables false
set_option linter.unusedSimpArgs false
set_option maxHeartbeats 2000000
namespace Go.AE
open Go Go.Proofs
theorem and_mask32 {n:Int} (h0:0≤n) (h1:n<4294967296):(((n%2^IntKind.u64.bits).toNat &&&4294967295%2^IntKind.u64.bits:Nat):Int)=n:=by
 obtain ⟨k,rfl⟩:=Int.eq_ofNat_of_zero_le h0
 have e:((k:Int)%2^IntKind.u64.bits).toNat=k:=by
  show ((k:Int)%18446744073709551616).toNat=k
  omega
 have e2:(4294967295%2^IntKind.u64.bits:Nat)=2^32-1:=rfl
 rw [e,e2,Nat.and_two_pow_sub_one_eq_mod]
 omega
theorem pow32:(2:Int)^min 32 IntKind.u64.bits=4294967296:=rfl
theorem mul64_ev {F:CT} (hF:CTok Tryz.prog F) (a b:Int) (ha0:0≤a) (ha:a<4294967296) (hb0:0≤b) (hb:b<4294967296) (hm:a*b<4294967296) :
  PEv Tryz.prog 107 [.c (.raw (.int .u64 a)),.c (.raw (.int .u64 b))] (.t [(false,[.raw (.int .u64 0)]),(false,[.raw (.int .u64 (a*b))])]):=by
 refine tells_of mixed hF Tryz.func107 sl107 ok107 (by kernel_rfl) (by simp) (by simp) ?_
 have hm0:0≤a*b:=Int.mul_nonneg ha0 hb0
 have e1:a.fdiv 4294967296=0:=by rw [Int.fdiv_eq_ediv_of_nonneg _ (by omega)];exact Int.ediv_eq_zero_of_lt ha0 (by omega)
 have e2:b.fdiv 4294967296=0:=by rw [Int.fdiv_eq_ediv_of_nonneg _ (by omega)];exact Int.ediv_eq_zero_of_lt hb0 (by omega)
 have e3:(a*b).fdiv 4294967296=0:=by rw [Int.fdiv_eq_ediv_of_nonneg _ (by omega)];exact Int.ediv_eq_zero_of_lt hm0 (by omega)
 have m1:=and_mask32 ha0 (by omega)
 have m2:=and_mask32 hb0 (by omega)
 have w1:IntKind.wrap .u64 a=a:=wrapU_id ha0 (by omega)
 have w2:IntKind.wrap .u64 b=b:=wrapU_id hb0 (by omega)
 have w3:IntKind.wrap .u64 (a*b)=a*b:=wrapU_id hm0 (by omega)
 have w0:IntKind.wrap .u64 0=0:=wrapU_id (by omega) (by omega)
 have m0:=and_mask32 (n:=0) (by omega) (by omega)
 simp -implicitDefEqProofs [s107,iand,pow32,m1,m2,m0,w1,w2,w3,w0,e1,e2,e3]
theorem mul_ev (a b:Int) (ha0:0≤a) (ha:a<4294967296) (hb0:0≤b) (hb:b<4294967296) (hm:a*b<4294967296) :
  PEv Tryz.prog 79 [.c (.raw (.int .u64 a)),.c (.raw (.int .u64 b))] (.t [(false,[.raw (.int .u64 0)]),(false,[.raw (.int .u64 (a*b))])]):=by
 refine tells_of mixed F4_ok Tryz.func79 sl79 ok79 (by kernel_rfl) (by simp) (by simp) ?_
 simp -implicitDefEqProofs [s79]
 refine acall_pure (mul64_ev F4_ok a b ha0 ha hb0 hb hm) (by simp -implicitDefEqProofs) (by simp -implicitDefEqProofs) (by simp -implicitDefEqProofs) ?_
 simp -implicitDefEqProofs
section
variable {α:Type} [Enc α]
theorem rep_take (j k:Nat) (a:α) (z:List AC):(rowsE (List.replicate j a)++List.replicate k z).take j=rowsE (List.replicate j a):=by
 rw [List.take_append_of_le_length (by simp -implicitDefEqProofs)]
 rw [List.take_of_length_le (by simp -implicitDefEqProofs)]
end
theorem repI_l0 {F:CT} (a:Int) (n:Nat) {Q:AEx→St→Prop} {st:St} (id:Id) (hn1:1≤n) (hn2:n<1000000) (k7:st.s 7=.c (.so id 0 n)) (k8:st.s 8=.c (.raw (.int .i64 1)))
  (kid:st.H id=.arr 3 1 false (rowsE [a]++List.replicate (n-1) [.raw (.int .i64 0)])) (hn:∀st',st'.s 7=.c (.so id 0 n)→st'.H id=.arr 3 1 false (rowsE (List.replicate n a))→Q (.exit 0) st') :
  awpS Tryz.prog F (.loop s40L0) Q st:=by
 refine loop_n (fun m st=>∃j:Nat,1≤j∧j≤n∧m=n-j∧st.s 7=.c (.so id 0 n)∧st.s 8=.c (.raw (.int .i64 j))∧st.H id=.arr 3 1 false (rowsE (List.replicate j a)++List.replicate (n-j) [.raw (.int .i64 0)])) (n-1)
  ⟨1,by omega,by omega,rfl,k7,by simpa using k8,by simpa using kid⟩ ?_
 rintro m st ⟨j,h1,h2,rfl,k7,k8,kid⟩
 by_cases hlt:j<n
 ·have e1:IntKind.wrap .i64 ((j:Int)+((min (n-j) j:Nat):Int))=((j+min (n-j) j:Nat):Int):=by rw [wrap64_id]<;>omega
  simp -implicitDefEqProofs [s40L0,k7,k8,kid,hlt]
  refine ⟨h2,n-(j+min (n-j) j),by omega,j+min (n-j) j,by omega,by omega,rfl,e1,?_⟩
  have t1:List.take (n-j) (rowsE (List.replicate j a))=rowsE (List.replicate (min (n-j) j) a):=by rw [rowsE_take,List.take_replicate]
  have t2:List.drop (j+min (n-j) j) (rowsE (List.replicate j a)++List.replicate (n-j) [AC.raw (Value.int IntKind.i64 0)])=List.replicate (n-(j+min (n-j) j)) [AC.raw (Value.int IntKind.i64 0)]:=by
   rw [List.drop_append,List.drop_eq_nil_of_le (by simp -implicitDefEqProofs),List.nil_append,List.drop_replicate]
   congr 1;simp -implicitDefEqProofs;omega
  rw [t1,t2,←List.append_assoc,←rowsE_append,List.replicate_append_replicate]
 ·have:j=n:=by omega
  subst this
  simp -implicitDefEqProofs [s40L0,k7,k8,kid,hlt]
  exact hn _ (by simp -implicitDefEqProofs [k7]) (by simpa using kid)
theorem repI_ev (a:Int) (n:Int) (h0:0≤n) (h1:n<1000000) :
  PEv Tryz.prog 40 [.c (.sl .brw false (rowsE [a])),.c (.raw (.int .i64 n))] (.c (.nw 3 1 (rowsE (List.replicate n.toNat a)))):=by
 refine tells_of mixed F4_ok Tryz.func40 sl40 ok40 (by kernel_rfl) (by simp) (by simp) ?_
 have w1:IntKind.wrap .u64 1=1:=wrapU_id (by omega) (by omega)
 have w2:IntKind.wrap .u64 n=n:=wrapU_id h0 (by omega)
 have w3:IntKind.wrap .i64 n=n:=wrap64_id (by omega) (by omega)
 have n0:¬n<0:=by omega
 simp -implicitDefEqProofs [s40,n0,w1,w2]
 refine acall_pure (mul_ev 1 n (by omega) (by omega) h0 (by omega) (by omega)) (by simp -implicitDefEqProofs) (by simp -implicitDefEqProofs) (by simp -implicitDefEqProofs) ?_
 simp -implicitDefEqProofs [n0,w1,w2,w3,show n≤9223372036854775807 by omega,show ¬9223372036854775807<n by omega,h0]
 by_cases hz:n=0
 ·subst hz
  simp -implicitDefEqProofs
  refine loop_n (fun m st=>st.s 7=.c (.so (4,30) 0 0)∧st.s 8=.c (.raw (.int .i64 0))∧st.H (4,30)=.arr 3 1 false []) 0 (by simp -implicitDefEqProofs) ?_
  rintro m st ⟨k7,k8,kH⟩
  simp -implicitDefEqProofs [s40L0,k7,k8,kH]
 ·obtain ⟨k,rfl⟩:∃k:Nat,n=(k:Int):=⟨n.toNat,by omega⟩
  have hk:1≤k:=by omega
  have e1:min k 1=1:=by omega
  refine ⟨by omega,repI_l0 a k (4,30) hk (by omega) (by simp -implicitDefEqProofs) (by simp -implicitDefEqProofs [e1]) ?_ ?_⟩
  ·simp -implicitDefEqProofs [e1]
   rw [List.take_of_length_le (by simp -implicitDefEqProofs;omega)]
  ·intro st' k7 kH
   simp -implicitDefEqProofs [k7,kH]
end Go.AE
set_option linter.unusedVariables false
set_option linter.unusedSimpArgs false
set_option maxHeartbeats 2000000
namespace Go.AE
open Go Go.Proofs
theorem repeat_ev (s:List UInt8) (n:Nat) (h:s.length*n≤140737488355328) (hn:n≤1000000):PEv Tryz.prog 84 [.c (.str s),.c (.raw (.int .i64 n))] (.c (.str (Lib.repeatL s n))):=by
 refine pev_str (by kernel_rfl) (by simp -implicitDefEqProofs) fun w hI F vs hs hr=>?_
 have h0:=relC_str (relV_c (hr 0 _ rfl))
 have h1:=relC_raw (relV_c (hr 1 _ rfl))
 rw [vs2 hs h0 h1]
 exact Any.strings_Repeat lays105 lays105X ⟨s.toArray⟩ n w (by omega) (by simpa [ByteArray.size] using h)
theorem blank37_ev:PEv Tryz.prog 43 [] (.c (.str blank)):=by
 refine tells_of mixed F4_ok Tryz.func43 sl43 ok43 (by kernel_rfl) (by simp) (by simp) ?_
 simp -implicitDefEqProofs [s43]
 refine acall_pure (repeat_ev [0] 32 (by simp -implicitDefEqProofs) (by omega)) (by simp -implicitDefEqProofs) (by simp -implicitDefEqProofs) (by simp -implicitDefEqProofs) ?_
 simp -implicitDefEqProofs [blank]
 decide
end Go.AE
