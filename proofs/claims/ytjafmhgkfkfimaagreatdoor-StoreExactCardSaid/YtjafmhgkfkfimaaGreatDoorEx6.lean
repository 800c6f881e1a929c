/- The store's script's disks: the walk. -/
import Derived.Test.YtjafmhgkfkfimaaGreatDoorEx3
import Derived.Test.YtjafmhgkfkfimaaGreatDoorEx5
set_option linter.unusedVariables false
set_option linter.unusedSimpArgs false
set_option maxHeartbeats 4000000
set_option maxRecDepth 100000
namespace Go.AE
open Go Go.Proofs
def FH6_h15:List AV→Option (Prop×AV):=t1 (fun o=>o.text.length<1000000∧o.gone.length<4611686018427387904) fun o:OpV=>.c (.raw (.bool (opMayB o)))
@[simp] theorem FH6_ap15 {l:List AV}:FH6_h15 l=(t1 (fun o=>o.text.length<1000000∧o.gone.length<4611686018427387904) fun o:OpV=>.c (.raw (.bool (opMayB o)))) l:=rfl
def FH6:CT:=(15,.pu FH6_h15)::FH5
theorem FH6_ok:CTok Tryz.prog FH6:=⟨tells1 fun o h=>refOp4_ev o h.1 h.2,FH5_ok⟩
@[simp] theorem FH6_get15:ctGet FH6 15=some (.pu FH6_h15):=rfl
@[simp] theorem FH6_skip {n:Nat} (h:(n==15)=false):ctGet FH6 n=ctGet FH5 n:=by
 simp only [Bool.or_eq_false_iff,beq_eq_false_iff_ne,ne_eq] at h
 simp [FH6,ctGet,h]
theorem refEntry_ev (e:EntryV) (h1:e.op.text.length<1000000) (h2:e.op.gone.length<4611686018427387904):PEv Tryz.prog 19 [Arg.enc e] (.c (.raw (.bool (entMayB e)))):=by
 refine tells_of mixed FH6_ok Tryz.func19 sl19 ok19 (by kernel_rfl) (by simp -implicitDefEqProofs (maxSteps:=400000) (maxDischargeDepth:=6)) (by simp -implicitDefEqProofs (maxSteps:=400000) (maxDischargeDepth:=6) [entRow,opRow]) ?_
 have hz:sameB e.op ⟨0,0,0,⟨0,0,0⟩,[],[],0,0,0⟩=sameB e.op zeroO:=rfl
 cases c1:e.join
 ·have hm:entMayB e=(decide (e.nonce=0)&&opMayB e.op):=by simp -implicitDefEqProofs (maxSteps:=400000) (maxDischargeDepth:=6) [entMayB,c1]
  cases c2:decide (e.nonce=0)
  ·simp -implicitDefEqProofs (maxSteps:=400000) (maxDischargeDepth:=6) [s19,entRow,opRow,c1,c2,hm]
  ·simp -implicitDefEqProofs (maxSteps:=400000) (maxDischargeDepth:=6) [s19,entRow,opRow,c1,c2,hm,h1,h2]
 ·have hm:entMayB e=(decide (1≤e.nonce)&&decide (e.nonce≤268435456)&&sameB e.op zeroO):=by simp -implicitDefEqProofs (maxSteps:=400000) (maxDischargeDepth:=6) [entMayB,c1]
  cases c2:decide (1≤e.nonce)
  ·simp -implicitDefEqProofs (maxSteps:=400000) (maxDischargeDepth:=6) [s19,entRow,opRow,c1,c2,hm]
  cases c3:decide (e.nonce≤268435456)
  ·simp -implicitDefEqProofs (maxSteps:=400000) (maxDischargeDepth:=6) [s19,entRow,opRow,c1,c2,c3,hm]
  ·simp -implicitDefEqProofs (maxSteps:=400000) (maxDischargeDepth:=6) [s19,entRow,opRow,c1,c2,c3,hm,h2,hz]
def tkNum (r:RdV):Int×RdV:=match r.bad,takeN r.s with
 |false,some (n,t)=>((n:Int),⟨t,false⟩)
 |_,_=>(0,⟨r.s,true⟩)
def tkText (r:RdV):List UInt8×RdV:=match r.bad,decide ((takeTextR r.s).2.2=0) with
 |false,true=>((takeTextR r.s).1,⟨(takeTextR r.s).2.1,false⟩)
 |_,_=>([],⟨r.s,true⟩)
theorem tkNum_ev:MTells Tryz.prog 130 (mh1 165 2 (rdG okR tkNum outN)):=by
 refine rd_tells FH1_ok Tryz.func130 sl130 ok130 (by kernel_rfl) (by simp -implicitDefEqProofs (maxSteps:=400000) (maxDischargeDepth:=6) [outN]) fun H T id r hid hf hr=>?_
 obtain ⟨s,bad⟩:=r
 have hr':s.length<4611686018427387904:=hr
 have hfu:∀k d,T≤k→H (k,d)=.unborn:=hf
 cases hn:takeN s with
 |none=>
  have hav:=refTakeAV_none hn
  cases bad
  ·simp -implicitDefEqProofs (maxSteps:=400000) (maxDischargeDepth:=6) [s130,hid,hfu,hr',rdrRow,hav]
   refine ⟨by simp -implicitDefEqProofs (maxSteps:=400000) (maxDischargeDepth:=6) [outN,tkNum,hn],?_,by simp -implicitDefEqProofs (maxSteps:=400000) (maxDischargeDepth:=6) [tkNum,hn]⟩
   (repeat' (first|exact SameBut.refl _ _|assumption|(refine SameBut.set ?_ (by first|(right;simp;done)|(left;simp [hfu];done)|(left;exact hfu _ _ (by omega))|(left;assumption)))))
  ·simp -implicitDefEqProofs (maxSteps:=400000) (maxDischargeDepth:=6) [s130,hid,hfu,hr',rdrRow,hav]
   refine ⟨by simp -implicitDefEqProofs (maxSteps:=400000) (maxDischargeDepth:=6) [outN,tkNum,hn],?_,by simp -implicitDefEqProofs (maxSteps:=400000) (maxDischargeDepth:=6) [tkNum,hn]⟩
   (repeat' (first|exact SameBut.refl _ _|assumption|(refine SameBut.set ?_ (by first|(right;simp;done)|(left;simp [hfu];done)|(left;exact hfu _ _ (by omega))|(left;assumption)))))
 |some q=>
  obtain ⟨n,t⟩:=q
  have hav:=refTakeAV_some hn
  cases bad
  ·simp -implicitDefEqProofs (maxSteps:=400000) (maxDischargeDepth:=6) [s130,hid,hfu,hr',rdrRow,hav]
   refine ⟨by simp -implicitDefEqProofs (maxSteps:=400000) (maxDischargeDepth:=6) [outN,tkNum,hn],?_,by simp -implicitDefEqProofs (maxSteps:=400000) (maxDischargeDepth:=6) [tkNum,hn]⟩
   (repeat' (first|exact SameBut.refl _ _|assumption|(refine SameBut.set ?_ (by first|(right;simp;done)|(left;simp [hfu];done)|(left;exact hfu _ _ (by omega))|(left;assumption)))))
  ·simp -implicitDefEqProofs (maxSteps:=400000) (maxDischargeDepth:=6) [s130,hid,hfu,hr',rdrRow,hav]
   refine ⟨by simp -implicitDefEqProofs (maxSteps:=400000) (maxDischargeDepth:=6) [outN,tkNum,hn],?_,by simp -implicitDefEqProofs (maxSteps:=400000) (maxDischargeDepth:=6) [tkNum,hn]⟩
   (repeat' (first|exact SameBut.refl _ _|assumption|(refine SameBut.set ?_ (by first|(right;simp;done)|(left;simp [hfu];done)|(left;exact hfu _ _ (by omega))|(left;assumption)))))
theorem tkText_ev:MTells Tryz.prog 132 (mh1 165 2 (rdG okR tkText outS)):=by
 refine rd_tells FH1_ok Tryz.func132 sl132 ok132 (by kernel_rfl) (by simp -implicitDefEqProofs (maxSteps:=400000) (maxDischargeDepth:=6) [outS]) fun H T id r hid hf hr=>?_
 obtain ⟨s,bad⟩:=r
 have hr':s.length<4611686018427387904:=hr
 have hfu:∀k d,T≤k→H (k,d)=.unborn:=hf
 cases hn:decide ((takeTextR s).2.2=0)
 ·cases bad
  ·simp -implicitDefEqProofs (maxSteps:=400000) (maxDischargeDepth:=6) [s132,hid,hfu,hr',rdrRow,refTakeTextAV,hn]
   refine ⟨by simp -implicitDefEqProofs (maxSteps:=400000) (maxDischargeDepth:=6) [outS,tkText,hn],?_,by simp -implicitDefEqProofs (maxSteps:=400000) (maxDischargeDepth:=6) [tkText,hn]⟩
   (repeat' (first|exact SameBut.refl _ _|assumption|(refine SameBut.set ?_ (by first|(right;simp;done)|(left;simp [hfu];done)|(left;exact hfu _ _ (by omega))|(left;assumption)))))
  ·simp -implicitDefEqProofs (maxSteps:=400000) (maxDischargeDepth:=6) [s132,hid,hfu,hr',rdrRow,refTakeTextAV,hn]
   refine ⟨by simp -implicitDefEqProofs (maxSteps:=400000) (maxDischargeDepth:=6) [outS,tkText,hn],?_,by simp -implicitDefEqProofs (maxSteps:=400000) (maxDischargeDepth:=6) [tkText,hn]⟩
   (repeat' (first|exact SameBut.refl _ _|assumption|(refine SameBut.set ?_ (by first|(right;simp;done)|(left;simp [hfu];done)|(left;exact hfu _ _ (by omega))|(left;assumption)))))
 ·cases bad
  ·simp -implicitDefEqProofs (maxSteps:=400000) (maxDischargeDepth:=6) [s132,hid,hfu,hr',rdrRow,refTakeTextAV,hn]
   refine ⟨by simp -implicitDefEqProofs (maxSteps:=400000) (maxDischargeDepth:=6) [outS,tkText,hn],?_,by simp -implicitDefEqProofs (maxSteps:=400000) (maxDischargeDepth:=6) [tkText,hn]⟩
   (repeat' (first|exact SameBut.refl _ _|assumption|(refine SameBut.set ?_ (by first|(right;simp;done)|(left;simp [hfu];done)|(left;exact hfu _ _ (by omega))|(left;assumption)))))
  ·simp -implicitDefEqProofs (maxSteps:=400000) (maxDischargeDepth:=6) [s132,hid,hfu,hr',rdrRow,refTakeTextAV,hn]
   refine ⟨by simp -implicitDefEqProofs (maxSteps:=400000) (maxDischargeDepth:=6) [outS,tkText,hn],?_,by simp -implicitDefEqProofs (maxSteps:=400000) (maxDischargeDepth:=6) [tkText,hn]⟩
   (repeat' (first|exact SameBut.refl _ _|assumption|(refine SameBut.set ?_ (by first|(right;simp;done)|(left;simp [hfu];done)|(left;exact hfu _ _ (by omega))|(left;assumption)))))
def FJ0_h130:MH:=mh1 165 2 (rdG okR tkNum outN)
@[simp] theorem FJ0_ap130 {H:Heap} {l:List AV}:FJ0_h130 H l=(mh1 165 2 (rdG okR tkNum outN)) H l:=rfl
def FJ0_h132:MH:=mh1 165 2 (rdG okR tkText outS)
@[simp] theorem FJ0_ap132 {H:Heap} {l:List AV}:FJ0_h132 H l=(mh1 165 2 (rdG okR tkText outS)) H l:=rfl
def FJ0:CT:=(130,.mu FJ0_h130)::(132,.mu FJ0_h132)::FH6
theorem FJ0_ok:CTok Tryz.prog FJ0:=⟨tkNum_ev,
 tkText_ev,FH6_ok⟩
@[simp] theorem FJ0_get130:ctGet FJ0 130=some (.mu FJ0_h130):=rfl
@[simp] theorem FJ0_get132:ctGet FJ0 132=some (.mu FJ0_h132):=rfl
@[simp] theorem FJ0_skip {n:Nat} (h:(n==130||n==132)=false):ctGet FJ0 n=ctGet FH6 n:=by
 simp only [Bool.or_eq_false_iff,beq_eq_false_iff_ne,ne_eq] at h
 simp [FJ0,ctGet,h]
def tkElem (r:RdV):ElemV×RdV:=
 let a:=tkNum r
 let b:=tkNum a.2
 let c:=tkNum b.2
 (⟨a.1,b.1,c.1⟩,c.2)
theorem tkNum_le (r:RdV):(tkNum r).2.s.length≤r.s.length:=by
 obtain ⟨s,bad⟩:=r
 cases hn:takeN s with
 |none=>cases bad<;>simp -implicitDefEqProofs (maxSteps:=400000) (maxDischargeDepth:=6) [tkNum,hn]
 |some q=>
  obtain ⟨n,t⟩:=q
  have:=(takeN_len hn).2
  cases bad<;>simp -implicitDefEqProofs (maxSteps:=400000) (maxDischargeDepth:=6) [tkNum,hn]<;>omega
theorem tkText_le (r:RdV):(tkText r).2.s.length≤r.s.length∧(tkText r).1.length≤r.s.length:=by
 obtain ⟨s,bad⟩:=r
 have:=takeTextR_len s
 cases hn:decide ((takeTextR s).2.2=0)<;>cases bad<;>simp -implicitDefEqProofs (maxSteps:=400000) (maxDischargeDepth:=6) [tkText,hn]<;>omega
theorem tkNum_ok {r:RdV} (h:okR r):okR (tkNum r).2:=Nat.lt_of_le_of_lt (tkNum_le r) h
theorem tkText_ok {r:RdV} (h:okR r):okR (tkText r).2:=Nat.lt_of_le_of_lt (tkText_le r).1 h
theorem tkElem_ok {r:RdV} (h:okR r):okR (tkElem r).2:=tkNum_ok (tkNum_ok (tkNum_ok h))
theorem tkElem_ev:MTells Tryz.prog 131 (mh1 165 2 (rdG okR tkElem outE)):=by
 refine rd_tells FJ0_ok Tryz.func131 sl131 ok131 (by kernel_rfl) (by simp -implicitDefEqProofs (maxSteps:=400000) (maxDischargeDepth:=6) [outE]) fun H T id r hid hf hr=>?_
 obtain ⟨n1,n2,n3⟩:=hf.arr hid
 have hfu:∀k d,T≤k→H (k,d)=.unborn:=hf
 have c1:=tkNum_ok hr
 have c2:=tkNum_ok c1
 obtain ⟨s,bad⟩:=r
 rcases e1:tkNum ⟨s,bad⟩ with ⟨a1,s1,b1⟩
 rw [e1] at c1 c2
 simp only at c1 c2
 rcases e2:tkNum ⟨s1,b1⟩ with ⟨a2,s2,b2⟩
 rw [e2] at c2
 simp only at c2
 rcases e3:tkNum ⟨s2,b2⟩ with ⟨a3,s3,b3⟩
 have e4:tkElem ⟨s,bad⟩=(⟨a1,a2,a3⟩,⟨s3,b3⟩):=by simp -implicitDefEqProofs (maxSteps:=400000) (maxDischargeDepth:=6) [tkElem,e1,e2,e3]
 simp -implicitDefEqProofs (maxSteps:=400000) (maxDischargeDepth:=6) [s131,hid,hfu,hr,c1,c2,e1,e2,e3,e4,rdrRow,outN,outE,n1,n2]
 (repeat' (first|exact SameBut.refl _ _|assumption|(refine SameBut.set ?_ (by first|(right;simp;done)|(left;simp [hfu];done)|(left;exact hfu _ _ (by omega))|(left;assumption)))))
def FJ1_h131:MH:=mh1 165 2 (rdG okR tkElem outE)
@[simp] theorem FJ1_ap131 {H:Heap} {l:List AV}:FJ1_h131 H l=(mh1 165 2 (rdG okR tkElem outE)) H l:=rfl
def FJ1:CT:=(131,.mu FJ1_h131)::FJ0
theorem FJ1_ok:CTok Tryz.prog FJ1:=⟨tkElem_ev,FJ0_ok⟩
@[simp] theorem FJ1_get131:ctGet FJ1 131=some (.mu FJ1_h131):=rfl
@[simp] theorem FJ1_skip {n:Nat} (h:(n==131)=false):ctGet FJ1 n=ctGet FJ0 n:=by
 simp only [Bool.or_eq_false_iff,beq_eq_false_iff_ne,ne_eq] at h
 simp [FJ1,ctGet,h]
end Go.AE
set_option linter.unusedVariables false
set_option linter.unusedSimpArgs false
set_option maxHeartbeats 4000000
set_option maxRecDepth 100000
namespace Go.AE
open Go Go.Proofs
def tkElems:Nat→RdV→List ElemV×RdV
 |0,r=>([],r)
 |n+1,r=>if (tkElems n r).2.bad=true then tkElems n r else ((tkElems n r).1++[(tkElem (tkElems n r).2).1],(tkElem (tkElems n r).2).2)
theorem tkElems_bad {r:RdV} {i:Nat} (h:(tkElems i r).2.bad=true):∀k,tkElems (i+k) r=tkElems i r
 |0=>rfl
 |k+1=>by
  rw [←Nat.add_assoc,tkElems,tkElems_bad h k,if_pos h]
theorem tkElems_go {r:RdV} {i:Nat} (h:(tkElems i r).2.bad=false):tkElems (i+1) r=((tkElems i r).1++[(tkElem (tkElems i r).2).1],(tkElem (tkElems i r).2).2):=by
 rw [tkElems,h];rfl
theorem tkNum_bad {r:RdV} (h:(tkNum r).2.bad=false):r.bad=false∧(tkNum r).2.s.length<r.s.length:=by
 obtain ⟨s,bad⟩:=r
 cases hn:takeN s with
 |none=>cases bad<;>simp -implicitDefEqProofs (maxSteps:=400000) (maxDischargeDepth:=6) [tkNum,hn] at h
 |some q=>
  obtain ⟨n,t⟩:=q
  have:=(takeN_len hn).2
  cases bad<;>simp -implicitDefEqProofs (maxSteps:=400000) (maxDischargeDepth:=6) [tkNum,hn] at h ⊢
  exact this
theorem tkElem_le (r:RdV):(tkElem r).2.s.length≤r.s.length:=
 Nat.le_trans (tkNum_le _) (Nat.le_trans (tkNum_le _) (tkNum_le _))
theorem tkElem_bad {r:RdV} (h:(tkElem r).2.bad=false):r.bad=false∧(tkElem r).2.s.length<r.s.length:=by
 have h1:=tkNum_bad h
 have h2:=tkNum_bad h1.1
 have h3:=tkNum_bad h2.1
 exact ⟨h3.1,Nat.lt_trans h1.2 (Nat.lt_trans h2.2 h3.2)⟩
theorem tkElems_le (r:RdV):∀i,(tkElems i r).2.s.length≤r.s.length
 |0=>Nat.le_refl _
 |i+1=>by
  rw [tkElems]
  split
  ·exact tkElems_le r i
  ·exact Nat.le_trans (tkElem_le _) (tkElems_le r i)
theorem tkElems_len (r:RdV):∀i,(tkElems i r).2.bad=false→(tkElems i r).1.length=i∧(tkElems i r).2.s.length+i≤r.s.length
 |0,_=>⟨rfl,Nat.le_refl _⟩
 |i+1,h=>by
  cases hb:(tkElems i r).2.bad
  ·rw [tkElems_go hb] at h ⊢
   obtain ⟨h1,h2⟩:=tkElems_len r i hb
   have h3:=(tkElem_bad h).2
   simp only at h3 ⊢
   refine ⟨by simp -implicitDefEqProofs (maxSteps:=400000) (maxDischargeDepth:=6) [h1],by omega⟩
  ·rw [tkElems_bad hb 1,hb] at h
   cases h
def tkOp (r:RdV):OpV×RdV:=
 let a:=tkNum r
 let b:=tkNum a.2
 let c:=tkNum b.2
 if c.1=2 then
  let d:=tkNum c.2
  let e:=tkNum d.2
  let f:=tkNum e.2
  (⟨a.1,b.1,c.1,⟨0,0,0⟩,[],[],d.1,e.1,f.1⟩,⟨f.2.s,f.2.bad||!opMayB ⟨a.1,b.1,c.1,⟨0,0,0⟩,[],[],d.1,e.1,f.1⟩⟩)
 else
  let d:=tkElem c.2
  let e:=tkText d.2
  let f:=tkNum e.2
  let g:=tkElems f.1.toNat f.2
  (⟨a.1,b.1,c.1,d.1,e.1,g.1,0,0,0⟩,⟨g.2.s,g.2.bad||!opMayB ⟨a.1,b.1,c.1,d.1,e.1,g.1,0,0,0⟩⟩)
theorem tkNum_nn (r:RdV):0≤(tkNum r).1∧(tkNum r).1≤268435456:=by
 obtain ⟨s,bad⟩:=r
 cases hn:takeN s with
 |none=>cases bad<;>simp -implicitDefEqProofs (maxSteps:=400000) (maxDischargeDepth:=6) [tkNum,hn]
 |some q=>
  obtain ⟨n,t⟩:=q
  have:=(takeN_len hn).1
  cases bad<;>simp -implicitDefEqProofs (maxSteps:=400000) (maxDischargeDepth:=6) [tkNum,hn]<;>omega
def TkI (H:Heap) (T:Nat) (id:Id) (m:Nat) (r6:RdV) (a1 a2 a3 x1 x2 x3:Int) (tx:List UInt8) (q:Nat) (st:St):Prop:=∃(i:Nat) (g:AC),i≤m∧q=m-i∧(tkElems i r6).1.length=i∧i≤r6.s.length+1∧
 st.s 0=.c (.pt id 0 0)∧st.s 2=.c (.pt (T,2) 0 0)∧st.s 3=.c (.pt (T+1,3) 0 0)∧st.s 4=.c (.raw (.int .i64 m))∧st.s 5=.c (.raw (.int .i64 i))∧
 st.H id=.arr 165 2 false [rdrRow (tkElems i r6).2]∧st.H (T,2)=.arr 46 11 false [opRowW (.raw (.slice none 0 0)) ⟨0,0,0,⟨0,0,0⟩,[],[],0,0,0⟩]∧st.H (T+1,3)=.arr 46 11 false [opRowW g ⟨a1,a2,a3,⟨x1,x2,x3⟩,tx,[],0,0,0⟩]∧
 ((g=.raw (.slice none 0 0)∧i=0)∨∃j,g=.so j 0 i∧H j=.unborn∧st.H j=.arr 44 3 false (rowsE (tkElems i r6).1))∧SameBut [id] H st.H∧T+1<st.T∧Fresh st.H st.T
def okT (r:RdV):Prop:=r.s.length<1000000
theorem tkOp_ev:MTells Tryz.prog 118 (mh1 165 2 (rdG okT tkOp outO)):=by
 refine rd_tells FJ1_ok Tryz.func118 sl118 ok118 (by kernel_rfl) (by simp -implicitDefEqProofs (maxSteps:=400000) (maxDischargeDepth:=6) [outO,opRowW]) fun H T id r hid hf hrT=>?_
 obtain ⟨n1,n2,n3⟩:=hf.arr hid
 have hfu:∀k d,T≤k→H (k,d)=.unborn:=hf
 have hr:okR r:=Nat.lt_of_lt_of_le hrT (by decide)
 have c1:=tkNum_ok hr
 have c2:=tkNum_ok c1
 have c3:=tkNum_ok c2
 have w1:=tkNum_le r
 have w2:=tkNum_le (tkNum r).2
 have w3:=tkNum_le (tkNum (tkNum r).2).2
 have hrT':r.s.length<1000000:=hrT
 obtain ⟨s,bad⟩:=r
 rcases e1:tkNum ⟨s,bad⟩ with ⟨a1,s1,b1⟩
 rw [e1] at c1 c2 c3 w1 w2 w3
 simp only at c1 c2 c3 w1 w2 w3
 rcases e2:tkNum ⟨s1,b1⟩ with ⟨a2,s2,b2⟩
 rw [e2] at c2 c3 w2 w3
 simp only at c2 c3 w2 w3
 rcases e3:tkNum ⟨s2,b2⟩ with ⟨a3,s3,b3⟩
 rw [e3] at c3 w3
 simp only at c3 w3 hrT'
 cases k:decide (a3=2)
 rotate_left
 ·have k':=of_decide_eq_true k
  have c4:=tkNum_ok c3
  have c5:=tkNum_ok c4
  rcases e4:tkNum ⟨s3,b3⟩ with ⟨a4,s4,b4⟩
  rw [e4] at c4 c5
  simp only at c4 c5
  rcases e5:tkNum ⟨s4,b4⟩ with ⟨a5,s5,b5⟩
  rw [e5] at c5
  simp only at c5
  rcases e6:tkNum ⟨s5,b5⟩ with ⟨a6,s6,b6⟩
  generalize ho:(⟨a1,a2,a3,⟨0,0,0⟩,[],[],a4,a5,a6⟩:OpV)=o
  have ho1:o.text.length<1000000:=by subst ho;simp -implicitDefEqProofs (maxSteps:=400000) (maxDischargeDepth:=6)
  have ho2:o.gone.length<4611686018427387904:=by subst ho;simp -implicitDefEqProofs (maxSteps:=400000) (maxDischargeDepth:=6)
  have e7:tkOp ⟨s,bad⟩=(o,⟨s6,b6||!opMayB o⟩):=by subst ho;simp -implicitDefEqProofs (maxSteps:=400000) (maxDischargeDepth:=6) [tkOp,e1,e2,e3,e4,e5,e6,k']
  cases hmay:opMayB o
  ·simp -implicitDefEqProofs (maxSteps:=400000) (maxDischargeDepth:=6) [s118,hid,hfu,hr,c1,c2,c3,c4,c5,e1,e2,e3,e4,e5,e6,e7,rdrRow,outN,outE,outO,n1,n2,k,ho,ho1,ho2,hmay]
   refine ⟨by subst ho;simp -implicitDefEqProofs (maxSteps:=400000) (maxDischargeDepth:=6) [opRowW],?_⟩
   (repeat' (first|exact SameBut.refl _ _|assumption|(refine SameBut.set ?_ (by first|(right;simp;done)|(left;simp [hfu];done)|(left;exact hfu _ _ (by omega))|(left;assumption)))))
  ·simp -implicitDefEqProofs (maxSteps:=400000) (maxDischargeDepth:=6) [s118,hid,hfu,hr,c1,c2,c3,c4,c5,e1,e2,e3,e4,e5,e6,e7,rdrRow,outN,outE,outO,n1,n2,k,ho,ho1,ho2,hmay]
   refine ⟨by subst ho;simp -implicitDefEqProofs (maxSteps:=400000) (maxDischargeDepth:=6) [opRowW],?_⟩
   (repeat' (first|exact SameBut.refl _ _|assumption|(refine SameBut.set ?_ (by first|(right;simp;done)|(left;simp [hfu];done)|(left;exact hfu _ _ (by omega))|(left;assumption)))))
 ·have k':¬a3=2:=of_decide_eq_false k
  have c4:=tkElem_ok c3
  have c5:=tkText_ok c4
  have c6:=tkNum_ok c5
  have w4:=tkElem_le ⟨s3,b3⟩
  have w5:=tkText_le (tkElem ⟨s3,b3⟩).2
  have w6:=tkNum_le (tkText (tkElem ⟨s3,b3⟩).2).2
  rcases e4:tkElem ⟨s3,b3⟩ with ⟨⟨x1,x2,x3⟩,s4,b4⟩
  rw [e4] at c4 c5 c6 w4 w5 w6
  simp only at c4 c5 c6 w4 w5 w6
  rcases e5:tkText ⟨s4,b4⟩ with ⟨tx,s5,b5⟩
  rw [e5] at c5 c6 w5 w6
  simp only at c5 c6 w5 w6
  obtain ⟨hn0,hn1⟩:=tkNum_nn ⟨s5,b5⟩
  rcases e6:tkNum ⟨s5,b5⟩ with ⟨n,s6,b6⟩
  rw [e6] at c6 hn0 hn1 w6
  simp only at c6 hn0 hn1 w6
  obtain ⟨m,hm⟩:∃m,m=n.toNat:=⟨_,rfl⟩
  have hmi:n=(m:Int):=by omega
  have htx:tx.length<1000000:=by omega
  have hs6:s6.length<1000000:=by omega
  generalize ho:(⟨a1,a2,a3,⟨x1,x2,x3⟩,tx,(tkElems m ⟨s6,b6⟩).1,0,0,0⟩:OpV)=o
  have e7:tkOp ⟨s,bad⟩=(o,⟨(tkElems m ⟨s6,b6⟩).2.s,(tkElems m ⟨s6,b6⟩).2.bad||!opMayB o⟩):=by simp -implicitDefEqProofs (maxSteps:=400000) (maxDischargeDepth:=6) [tkOp,e1,e2,e3,e4,e5,e6,k',ho,←hm]
  simp -implicitDefEqProofs (maxSteps:=400000) (maxDischargeDepth:=6) [s118,hid,hfu,hr,c1,c2,c3,c4,c5,c6,e1,e2,e3,e4,e5,e6,e7,rdrRow,outN,outE,outO,outS,n1,n2,k,hmi]
  obtain ⟨r6,hr6⟩:∃r6:RdV,r6=⟨s6,b6⟩:=⟨_,rfl⟩
  have hl6:r6.s.length<1000000:=by rw [hr6];exact hs6
  rw [←hr6] at ho e7 c6 ⊢
  refine loop_c (TkI H T id m r6 a1 a2 a3 x1 x2 x3 tx) m ?_ ?_
  ·refine ⟨0,.raw (.slice none 0 0),by omega,by omega,?_⟩
   simp -implicitDefEqProofs (maxSteps:=400000) (maxDischargeDepth:=6) [n1,n2,hid,tkElems,rdrRow,opRowW,hr6]
   refine ⟨?_,?_⟩
   ·(repeat' (first|exact SameBut.refl _ _|assumption|(refine SameBut.set ?_ (by first|(right;simp;done)|(left;simp [hfu];done)|(left;exact hfu _ _ (by omega))|(left;assumption)))))
   ·repeat' (first|exact hf.mono (by first|omega|(simp<;>omega))|(refine Fresh.set' ?_ (by first|omega|(simp<;>omega))))
  rintro q st ⟨i,g,hi,rfl,li,lr,q0,q2,q3,q4,q5,h1,h2,h3,hg,hsb,hT,hf'⟩ J hJ
  have hfu':∀k d,st.T≤k→st.H (k,d)=.unborn:=hf'
  have ci:okR (tkElems i r6).2:=Nat.lt_of_le_of_lt (tkElems_le r6 i) (Nat.lt_of_lt_of_le hl6 (by decide))
  have hbad:=fun h=>tkElems_bad (r:=r6) (i:=i) h (m-i)
  rw [show i+(m-i)=m by omega] at hbad
  have hgo:=tkElems_go (r:=r6) (i:=i)
  have hlen:=tkElems_len r6 i
  rcases er:(tkElems i r6).2 with ⟨si,bi⟩
  rw [er] at h1 ci hbad hgo hlen
  simp only at hbad hgo hlen
  have more:(i<m∧bi=false)∨((i=m∨bi=true)∧tkElems m r6=tkElems i r6):=by
   by_cases hlt:i<m
   ·cases hb:bi
    ·exact .inl ⟨hlt,rfl⟩
    ·exact .inr ⟨.inr rfl,hbad hb⟩
   ·exact .inr ⟨.inl (by omega),by rw [show m=i by omega]⟩
  rcases more with ⟨hlt,rfl⟩|⟨hend,hme⟩
  ·have hlt':(i:Int)<m:=by omega
   have hw:IntKind.wrap .i64 ((i:Int)+1)=((i+1:Nat):Int):=by rw [wrap64_id]<;>omega
   obtain ⟨li1,li2⟩:=hlen rfl
   have hgo:=hgo rfl
   rcases e8:tkElem ⟨si,false⟩ with ⟨⟨y1,y2,y3⟩,s9,b9⟩
   rw [e8] at hgo
   have ht:rowsE (tkElems (i+1) r6).1=rowsE (tkElems i r6).1++[Enc.row (⟨y1,y2,y3⟩:ElemV)]:=by rw [hgo,rowsE_snoc]
   have lnew:(tkElems (i+1) r6).1.length=i+1:=by rw [hgo];simp -implicitDefEqProofs (maxSteps:=400000) (maxDischargeDepth:=6) [li]
   obtain ⟨p1,p2,p3⟩:=hf'.arr h1
   obtain ⟨p4,p5,p6⟩:=hf'.arr h3
   have d1:=n2 (T+1) 3 (by omega)
   have d2:=n1 (T+1) 3 (by omega)
   rcases hg with ⟨rfl,rfl⟩|⟨j,rfl,hju,hj⟩
   ·simp -implicitDefEqProofs (maxSteps:=400000) (maxDischargeDepth:=6) [s118L0,q0,q2,q3,q4,q5,h1,h2,h3,hlt,hlt',hw,hfu',ci,e8,outE,rdrRow,opRowW,p1,p2,p4,p5,d1,d2]
    refine ⟨fun a a1 b ha hid=>?_,m-1,by omega,hJ _ _ ⟨1,.so (st.T+1,50) 0 1,by omega,rfl,lnew,by omega,by simp -implicitDefEqProofs (maxSteps:=400000) (maxDischargeDepth:=6) [q0],by simp -implicitDefEqProofs (maxSteps:=400000) (maxDischargeDepth:=6) [q2],by simp -implicitDefEqProofs (maxSteps:=400000) (maxDischargeDepth:=6) [q3],by simp -implicitDefEqProofs (maxSteps:=400000) (maxDischargeDepth:=6) [q4],by simp -implicitDefEqProofs (maxSteps:=400000) (maxDischargeDepth:=6);decide,?_,?_,?_,.inr ⟨(st.T+1,50),rfl,hfu _ _ (by omega),?_⟩,?_,by simp -implicitDefEqProofs (maxSteps:=400000) (maxDischargeDepth:=6);omega,?_⟩⟩
    ·subst hid
     simp only at n3
     refine ⟨by omega,?_⟩
     rintro u v (⟨rfl,rfl⟩|⟨rfl,rfl⟩) _<;>simp -implicitDefEqProofs (maxSteps:=400000) (maxDischargeDepth:=6)<;>omega
    ·simp -implicitDefEqProofs (maxSteps:=400000) (maxDischargeDepth:=6) [p1,p2,d1,d2,rdrRow,hgo]
    ·simp -implicitDefEqProofs (maxSteps:=400000) (maxDischargeDepth:=6) [h2,n1,n2,hT,p1,p2]
    ·simp -implicitDefEqProofs (maxSteps:=400000) (maxDischargeDepth:=6) [opRowW]
    ·show _=OK.arr _ _ _ (rowsE (tkElems (0+1) r6).1)
     rw [ht]
     simp -implicitDefEqProofs (maxSteps:=400000) (maxDischargeDepth:=6) [p1,p2,p4,p5,tkElems]
    ·simp -implicitDefEqProofs (maxSteps:=400000) (maxDischargeDepth:=6)
     (repeat' (first|exact SameBut.refl _ _|assumption|(refine SameBut.set ?_ (by first|(right;simp;done)|(left;simp [hfu];done)|(left;exact hfu _ _ (by omega))|(left;assumption)))))
    ·simp -implicitDefEqProofs (maxSteps:=400000) (maxDischargeDepth:=6)
     have hf:=hf'
     repeat' (first|exact hf.mono (by first|omega|(simp<;>omega))|(refine Fresh.set' ?_ (by first|omega|(simp<;>omega))))
   ·obtain ⟨p7,p8,p9⟩:=hf'.arr hj
    have ne:∀{x:Id} {e sz:Nat} {f:Bool} {rows:List (List AC)},st.H x=.arr e sz f rows→e≠44→(j=x)=False∧(x=j)=False:=by
     intro x e sz f rows hx he
     constructor
     ·simp -implicitDefEqProofs (maxSteps:=400000) (maxDischargeDepth:=6);rintro rfl;rw [hx] at hj;simp -implicitDefEqProofs (maxSteps:=400000) (maxDischargeDepth:=6) at hj;exact he hj.1
     ·simp -implicitDefEqProofs (maxSteps:=400000) (maxDischargeDepth:=6);rintro rfl;rw [hx] at hj;simp -implicitDefEqProofs (maxSteps:=400000) (maxDischargeDepth:=6) at hj;exact he hj.1
    obtain ⟨g1,g2⟩:=ne h1 (by decide)
    obtain ⟨g3,g4⟩:=ne h2 (by decide)
    obtain ⟨g5,g6⟩:=ne h3 (by decide)
    simp -implicitDefEqProofs (maxSteps:=400000) (maxDischargeDepth:=6) [s118L0,q0,q2,q3,q4,q5,h1,h2,h3,hlt,hlt',hw,hfu',ci,e8,outE,rdrRow,opRowW,p1,p2,p4,p5,d1,d2,hj,p7,p8,g1,g2,g3,g4,g5,g6,li]
    refine ⟨⟨by omega,by omega⟩,fun a a1 b ha hid=>?_,m-(i+1),by omega,hJ _ _ ⟨i+1,.so (st.T+1,50) 0 (i+1),by omega,rfl,lnew,by omega,by simp -implicitDefEqProofs (maxSteps:=400000) (maxDischargeDepth:=6) [q0],by simp -implicitDefEqProofs (maxSteps:=400000) (maxDischargeDepth:=6) [q2],by simp -implicitDefEqProofs (maxSteps:=400000) (maxDischargeDepth:=6) [q3],by simp -implicitDefEqProofs (maxSteps:=400000) (maxDischargeDepth:=6) [q4],by simp -implicitDefEqProofs (maxSteps:=400000) (maxDischargeDepth:=6),?_,?_,?_,.inr ⟨(st.T+1,50),rfl,hfu _ _ (by omega),?_⟩,?_,by simp -implicitDefEqProofs (maxSteps:=400000) (maxDischargeDepth:=6);omega,?_⟩⟩
    ·subst hid
     simp only at n3
     refine ⟨by omega,?_⟩
     rintro u v (⟨rfl,rfl⟩|⟨rfl,rfl⟩) _<;>simp -implicitDefEqProofs (maxSteps:=400000) (maxDischargeDepth:=6)<;>omega
    ·simp -implicitDefEqProofs (maxSteps:=400000) (maxDischargeDepth:=6) [p1,p2,d1,d2,rdrRow,hgo,g1,g2]
    ·simp -implicitDefEqProofs (maxSteps:=400000) (maxDischargeDepth:=6) [h2,n1,n2,hT,p1,p2,g3,g4]
    ·simp -implicitDefEqProofs (maxSteps:=400000) (maxDischargeDepth:=6) [opRowW]
    ·simp -implicitDefEqProofs (maxSteps:=400000) (maxDischargeDepth:=6) [p1,p2,p4,p5,ht]
    ·simp -implicitDefEqProofs (maxSteps:=400000) (maxDischargeDepth:=6)
     (repeat' (first|exact SameBut.refl _ _|assumption|(refine SameBut.set ?_ (by first|(right;simp;done)|(left;simp [hfu];done)|(left;exact hfu _ _ (by omega))|(left;assumption)))))
    ·simp -implicitDefEqProofs (maxSteps:=400000) (maxDischargeDepth:=6)
     have hf:=hf'
     repeat' (first|exact hf.mono (by first|omega|(simp<;>omega))|(refine Fresh.set' ?_ (by first|omega|(simp<;>omega))))
  ·have hex:∀K:AEx→St→Prop,(∀st',st'.s 0=.c (.pt id 0 0)→st'.s 2=.c (.pt (T,2) 0 0)→st'.s 3=.c (.pt (T+1,3) 0 0)→st'.H=st.H→st.T≤st'.T→K (.exit 0) st')→awpS Tryz.prog FJ1 s118L0 K st:=by
    intro K hK
    refine seq_e 0 (fun st'=>st'.s 0=.c (.pt id 0 0)∧st'.s 2=.c (.pt (T,2) 0 0)∧st'.s 3=.c (.pt (T+1,3) 0 0)∧st'.H=st.H∧st.T≤st'.T) ?_ fun st' ⟨a,b,c,d,e⟩=>hK st' a b c d e
    intro R' hR
    by_cases hlt:i<m
    ·have hb:bi=true:=by rcases hend with h|h;omega;exact h
     subst hb
     have hlt':(i:Int)<m:=by omega
     simp -implicitDefEqProofs (maxSteps:=400000) (maxDischargeDepth:=6) [q0,q2,q3,q4,q5,h1,rdrRow,hlt,hlt']
     exact hR _ ⟨by simp -implicitDefEqProofs (maxSteps:=400000) (maxDischargeDepth:=6) [q0],by simp -implicitDefEqProofs (maxSteps:=400000) (maxDischargeDepth:=6) [q2],by simp -implicitDefEqProofs (maxSteps:=400000) (maxDischargeDepth:=6) [q3],by simp -implicitDefEqProofs (maxSteps:=400000) (maxDischargeDepth:=6),by simp -implicitDefEqProofs (maxSteps:=400000) (maxDischargeDepth:=6)⟩
    ·have hlt':¬(i:Int)<m:=by omega
     simp -implicitDefEqProofs (maxSteps:=400000) (maxDischargeDepth:=6) [q0,q2,q3,q4,q5,h1,rdrRow,hlt,hlt']
     exact hR _ ⟨by simp -implicitDefEqProofs (maxSteps:=400000) (maxDischargeDepth:=6) [q0],by simp -implicitDefEqProofs (maxSteps:=400000) (maxDischargeDepth:=6) [q2],by simp -implicitDefEqProofs (maxSteps:=400000) (maxDischargeDepth:=6) [q3],by simp -implicitDefEqProofs (maxSteps:=400000) (maxDischargeDepth:=6),by simp -implicitDefEqProofs (maxSteps:=400000) (maxDischargeDepth:=6)⟩
   refine hex _ fun st' q0 q2 q3 hHe hTe=>?_
   have hfs:Fresh st'.H st'.T:=by rw [hHe];exact hf'.mono hTe
   clear hex q4 q5
   rw [←hHe] at h1 h2 h3 hg hsb
   have hTs:T+1<st'.T:=Nat.lt_of_lt_of_le hT hTe
   clear hHe hTe hf' hfu' hT
   have hfu':∀k d,st'.T≤k→st'.H (k,d)=.unborn:=hfs
   have d3:((T,2)=id)=False:=n1 T 2 (Nat.le_refl _)
   have d4:(id=(T,2))=False:=n2 T 2 (Nat.le_refl _)
   obtain ⟨p1,p2,p3⟩:=hfs.arr h1
   have d1:=n2 (T+1) 3 (by omega)
   have d2:=n1 (T+1) 3 (by omega)
   rw [hme,er] at e7
   simp only at e7
   rw [hme] at ho ⊢
   have og:o.gone=(tkElems i r6).1:=by rw [←ho]
   have ho1:o.text.length<1000000:=by rw [←ho];exact htx
   have ho2:o.gone.length<4611686018427387904:=by rw [og,li];omega
   rcases hg with ⟨rfl,rfl⟩|⟨j,rfl,hju,hj⟩
   ·have ho':(⟨a1,a2,a3,⟨x1,x2,x3⟩,tx,[],0,0,0⟩:OpV)=o:=by rw [←ho];rfl
    have hx:(rowsE o.gone)=[]:=by rw [og];rfl
    cases hmay:opMayB o
    ·simp -implicitDefEqProofs (maxSteps:=400000) (maxDischargeDepth:=6) [er,q0,q2,q3,h1,h2,h3,hfu',rdrRow,opRowW,p1,p2,d1,d2,d3,d4,ho',ho1,ho2,hx,hmay]
     refine ⟨by rw [←ho];simp -implicitDefEqProofs (maxSteps:=400000) (maxDischargeDepth:=6),?_⟩
     (repeat' (first|exact SameBut.refl _ _|assumption|(refine SameBut.set ?_ (by first|(right;simp;done)|(left;simp [hfu];done)|(left;exact hfu _ _ (by omega))|(left;assumption)))))
    ·simp -implicitDefEqProofs (maxSteps:=400000) (maxDischargeDepth:=6) [er,q0,q2,q3,h1,h2,h3,hfu',rdrRow,opRowW,p1,p2,d1,d2,d3,d4,ho',ho1,ho2,hx,hmay]
     refine ⟨by rw [←ho];simp -implicitDefEqProofs (maxSteps:=400000) (maxDischargeDepth:=6),?_⟩
     (repeat' (first|exact SameBut.refl _ _|assumption|(refine SameBut.set ?_ (by first|(right;simp;done)|(left;simp [hfu];done)|(left;exact hfu _ _ (by omega))|(left;assumption)))))
   ·have ho':(⟨a1,a2,a3,⟨x1,x2,x3⟩,tx,(tkElems i r6).1,0,0,0⟩:OpV)=o:=ho
    obtain ⟨p7,p8,p9⟩:=hfs.arr hj
    have ne:∀{x:Id} {e sz:Nat} {f:Bool} {rows:List (List AC)},st'.H x=.arr e sz f rows→e≠44→(j=x)=False∧(x=j)=False:=by
     intro x e sz f rows hx he
     constructor
     ·simp -implicitDefEqProofs (maxSteps:=400000) (maxDischargeDepth:=6);rintro rfl;rw [hx] at hj;simp -implicitDefEqProofs (maxSteps:=400000) (maxDischargeDepth:=6) at hj;exact he hj.1
     ·simp -implicitDefEqProofs (maxSteps:=400000) (maxDischargeDepth:=6);rintro rfl;rw [hx] at hj;simp -implicitDefEqProofs (maxSteps:=400000) (maxDischargeDepth:=6) at hj;exact he hj.1
    have htk:List.take i (rowsE (tkElems i r6).1)=rowsE (tkElems i r6).1:=List.take_of_length_le (by simp -implicitDefEqProofs (maxSteps:=400000) (maxDischargeDepth:=6) [rowsE,li])
    obtain ⟨g1,g2⟩:=ne h1 (by decide)
    obtain ⟨g3,g4⟩:=ne h2 (by decide)
    obtain ⟨g5,g6⟩:=ne h3 (by decide)
    have hi62:i<4611686018427387904:=by omega
    cases hmay:opMayB o
    ·simp -implicitDefEqProofs (maxSteps:=400000) (maxDischargeDepth:=6) [er,q0,q2,q3,h1,h2,h3,hfu',rdrRow,opRowW,p1,p2,d1,d2,d3,d4,ho',ho1,ho2,hi62,hj,p7,p8,g1,g2,g3,g4,g5,g6,li,og,htk,hmay]
     refine ⟨by rw [←ho];simp -implicitDefEqProofs (maxSteps:=400000) (maxDischargeDepth:=6),fun a b h=>by rw [h];exact hju,?_⟩
     (repeat' (first|exact SameBut.refl _ _|assumption|(refine SameBut.set ?_ (by first|(right;simp;done)|(left;simp [hfu];done)|(left;exact hfu _ _ (by omega))|(left;assumption)))))
    ·simp -implicitDefEqProofs (maxSteps:=400000) (maxDischargeDepth:=6) [er,q0,q2,q3,h1,h2,h3,hfu',rdrRow,opRowW,p1,p2,d1,d2,d3,d4,ho',ho1,ho2,hi62,hj,p7,p8,g1,g2,g3,g4,g5,g6,li,og,htk,hmay]
     refine ⟨by rw [←ho];simp -implicitDefEqProofs (maxSteps:=400000) (maxDischargeDepth:=6),fun a b h=>by rw [h];exact hju,?_⟩
     (repeat' (first|exact SameBut.refl _ _|assumption|(refine SameBut.set ?_ (by first|(right;simp;done)|(left;simp [hfu];done)|(left;exact hfu _ _ (by omega))|(left;assumption)))))
end Go.AE
set_option linter.unusedVariables false
set_option linter.unusedSimpArgs false
set_option maxHeartbeats 2000000
namespace Go.AE
open Go
def Sim (a b:RdV):Prop:=(a.bad=true∧b.bad=true)∨(a.bad=false∧b=a)
def SimV {α:Type} (x y:α×RdV):Prop:=(x.2.bad=true∧y.2.bad=true)∨(x.2.bad=false∧y=x)
theorem SimV.sim {α:Type} {x y:α×RdV} (h:SimV x y):Sim x.2 y.2:=by
 rcases h with h|⟨h,rfl⟩
 ·exact .inl h
 ·exact .inr ⟨h,rfl⟩
theorem rdNum_mono {r:RdV} (h:r.bad=true):(rdNum r).2.bad=true:=by simp [rdNum,h]
theorem rdText_mono {r:RdV} (h:r.bad=true):(rdText r).2.bad=true:=by simp [rdText,h]
theorem rdElem_mono {r:RdV} (h:r.bad=true):(rdElem r).2.bad=true:=rdNum_mono (rdNum_mono (rdNum_mono h))
theorem tkNum_mono {r:RdV} (h:r.bad=true):(tkNum r).2.bad=true:=by simp [tkNum,h]
theorem tkText_mono {r:RdV} (h:r.bad=true):(tkText r).2.bad=true:=by simp [tkText,h]
theorem tkElem_mono {r:RdV} (h:r.bad=true):(tkElem r).2.bad=true:=tkNum_mono (tkNum_mono (tkNum_mono h))
theorem simNum {a b:RdV} (h:Sim a b):SimV (rdNum a) (tkNum b):=by
 rcases h with ⟨h1,h2⟩|⟨h1,rfl⟩
 ·exact .inl ⟨rdNum_mono h1,tkNum_mono h2⟩
 ·obtain ⟨s,bad⟩:=b
  simp only at h1
  subst h1
  cases hn:takeN s with
  |none=>left;simp [rdNum,tkNum,takeR,hn]
  |some q=>right;simp [rdNum,tkNum,takeR,hn]
theorem simText {a b:RdV} (h:Sim a b):SimV (rdText a) (tkText b):=by
 rcases h with ⟨h1,h2⟩|⟨h1,rfl⟩
 ·exact .inl ⟨rdText_mono h1,tkText_mono h2⟩
 ·obtain ⟨s,bad⟩:=b
  simp only at h1
  subst h1
  cases hn:decide ((takeTextR s).2.2=0)
  ·left;simp [rdText,tkText,hn]
  ·right;simp [rdText,tkText,hn]
theorem simElem {a b:RdV} (h:Sim a b):SimV (rdElem a) (tkElem b):=by
 have s1:=simNum h
 have s2:=simNum s1.sim
 have s3:=simNum s2.sim
 rcases s3 with ⟨x,y⟩|⟨x,e3⟩
 ·exact .inl ⟨x,y⟩
 ·right
  refine ⟨x,?_⟩
  rcases s2 with ⟨y,_⟩|⟨y,e2⟩
  ·have:=rdNum_mono y;rw [this] at x;cases x
  rcases s1 with ⟨z,_⟩|⟨z,e1⟩
  ·have:=rdNum_mono z;rw [this] at y;cases y
  rw [e2] at e3
  simp only [tkElem,rdElem]
  rw [e2,e3,e1]
theorem simElems {a b:RdV} (h:Sim a b):∀n,SimV (rdElems n a) (tkElems n b)
 |0=>by
  rcases h with ⟨h1,h2⟩|⟨h1,rfl⟩
  ·exact .inl ⟨h1,h2⟩
  ·exact .inr ⟨h1,rfl⟩
 |n+1=>by
  rcases simElems h n with ⟨h1,h2⟩|⟨h1,h2⟩
  ·left
   refine ⟨rdElem_mono h1,?_⟩
   rw [tkElems,if_pos h2]
   exact h2
  ·have hb:(tkElems n b).2.bad=false:=by rw [h2];exact h1
   have h3:SimV (rdElem (rdElems n a).2) (tkElem (rdElems n a).2):=simElem (.inr ⟨h1,rfl⟩)
   rw [show rdElems (n+1) a=((rdElems n a).1++[(rdElem (rdElems n a).2).1],(rdElem (rdElems n a).2).2) from rfl,tkElems_go hb,h2]
   rcases h3 with ⟨h4,h5⟩|⟨h4,h5⟩
   ·exact .inl ⟨h4,h5⟩
   ·right
    rw [h5]
    exact ⟨h4,rfl⟩
theorem rdElems_mono {r:RdV} (h:r.bad=true):∀n,(rdElems n r).2.bad=true
 |0=>h
 |n+1=>rdElem_mono (rdElems_mono h n)
theorem tkElems_mono {r:RdV} (h:r.bad=true):∀n,(tkElems n r).2.bad=true
 |0=>h
 |n+1=>by rw [tkElems,if_pos (tkElems_mono h n)];exact tkElems_mono h n
theorem opMayB_gone {o:OpV} (h:opMayB o=true):o.gone.length≤200:=by
 unfold opMayB at h
 simp only [Bool.and_eq_true] at h
 obtain ⟨_,h⟩:=h
 split at h
 ·simp only [editB,goneB,Bool.and_eq_true,decide_eq_true_eq] at h
  exact h.1.1.1.2.2
 ·simp only [toggleB,Bool.and_eq_true,decide_eq_true_eq] at h
  rw [h.2.2];simp
theorem simOp {a b:RdV} (h:Sim a b):SimV (rdOp a) (tkOp b):=by
 have s1:=simNum h
 have s2:=simNum s1.sim
 have s3:=simNum s2.sim
 rcases s3 with ⟨x,y⟩|⟨x,e3⟩
 ·left
  have hx:(rdOp a).2.bad=true:=by
   simp only [rdOp]
   split
   ·have:=rdNum_mono (rdNum_mono (rdNum_mono x))
    simp [this]
   ·have:=rdElems_mono (rdNum_mono (rdText_mono (rdElem_mono x))) (min (rdNum (rdText (rdElem (rdNum (rdNum (rdNum a).2).2).2).2).2).1.toNat 200)
    simp [this]
  have hy:(tkOp b).2.bad=true:=by
   simp only [tkOp]
   split
   ·have:=tkNum_mono (tkNum_mono (tkNum_mono y))
    simp [this]
   ·have:=tkElems_mono (tkNum_mono (tkText_mono (tkElem_mono y))) (tkNum (tkText (tkElem (tkNum (tkNum (tkNum b).2).2).2).2).2).1.toNat
    simp [this]
  exact ⟨hx,hy⟩
 rcases s2 with ⟨y,_⟩|⟨y,e2⟩
 ·have:=rdNum_mono y;rw [this] at x;cases x
 rcases s1 with ⟨z,_⟩|⟨z,e1⟩
 ·have:=rdNum_mono z;rw [this] at y;cases y
 have e2':tkNum (rdNum a).2=rdNum (rdNum a).2:=by rw [e1] at e2;exact e2
 have e3':tkNum (rdNum (rdNum a).2).2=rdNum (rdNum (rdNum a).2).2:=by rw [e1,e2'] at e3;exact e3
 have h3:Sim (rdNum (rdNum (rdNum a).2).2).2 (rdNum (rdNum (rdNum a).2).2).2:=.inr ⟨x,rfl⟩
 unfold SimV
 simp only [rdOp,tkOp,e1,e2',e3']
 generalize hA:(rdNum a).1=A1
 generalize hB:(rdNum (rdNum a).2).1=B1
 generalize hC:rdNum (rdNum (rdNum a).2).2=C at h3
 by_cases hk:C.1=2
 ·simp only [if_pos hk]
  have s4:=simNum h3
  have s5:=simNum s4.sim
  have s6:=simNum s5.sim
  rcases s6 with ⟨u,v⟩|⟨u,e6⟩
  ·left;simp [u,v]
  rcases s5 with ⟨v,_⟩|⟨v,e5⟩
  ·have:=rdNum_mono v;rw [this] at u;cases u
  rcases s4 with ⟨w,_⟩|⟨w,e4⟩
  ·have:=rdNum_mono w;rw [this] at v;cases v
  have e5':tkNum (rdNum C.2).2=rdNum (rdNum C.2).2:=by rw [e4] at e5;exact e5
  have e6':tkNum (rdNum (rdNum C.2).2).2=rdNum (rdNum (rdNum C.2).2).2:=by rw [e4,e5'] at e6;exact e6
  simp only [e4,e5',e6']
  rw [u]
  cases hm:opMayB ⟨A1,B1,C.1,⟨0,0,0⟩,[],[],(rdNum C.2).1,(rdNum (rdNum C.2).2).1,(rdNum (rdNum (rdNum C.2).2).2).1⟩
  ·left;simp
  ·right;simp
 ·simp only [if_neg hk]
  have s4:=simElem h3
  have s5:=simText s4.sim
  have s6:=simNum s5.sim
  rcases s6 with ⟨u,v⟩|⟨u,e6⟩
  ·left
   rw [rdElems_mono u,tkElems_mono v]
   simp
  rcases s5 with ⟨v,_⟩|⟨v,e5⟩
  ·have:=rdNum_mono v;rw [this] at u;cases u
  rcases s4 with ⟨w,_⟩|⟨w,e4⟩
  ·have:=rdText_mono w;rw [this] at v;cases v
  have e5':tkText (rdElem C.2).2=rdText (rdElem C.2).2:=by rw [e4] at e5;exact e5
  have e6':tkNum (rdText (rdElem C.2).2).2=rdNum (rdText (rdElem C.2).2).2:=by rw [e4,e5'] at e6;exact e6
  simp only [e4,e5',e6']
  have hn:=rdNum_nn (rdText (rdElem C.2).2).2
  generalize hF:rdNum (rdText (rdElem C.2).2).2=F at u hn
  have h6:Sim F.2 F.2:=.inr ⟨u,rfl⟩
  by_cases h200:200<F.1
  ·left
   refine ⟨by simp [h200],?_⟩
   cases hb:(tkElems F.1.toNat F.2).2.bad
   ·have hl:=(tkElems_len F.2 F.1.toNat hb).1
    cases hm:opMayB ⟨A1,B1,C.1,(rdElem C.2).1,(rdText (rdElem C.2).2).1,(tkElems F.1.toNat F.2).1,0,0,0⟩
    ·simp
    ·have:=opMayB_gone hm
     simp only at this
     omega
   ·simp
  ·rw [show min F.1.toNat 200=F.1.toNat by omega]
   rcases simElems h6 F.1.toNat with ⟨v1,v2⟩|⟨v1,v2⟩
   ·left;simp [v1,v2]
   ·rw [v2,v1]
    simp only [h200,decide_false,Bool.false_or]
    cases hm:opMayB ⟨A1,B1,C.1,(rdElem C.2).1,(rdText (rdElem C.2).2).1,(rdElems F.1.toNat F.2).1,0,0,0⟩
    ·left;simp
    ·right;simp
theorem tkOp_take (s:List UInt8):(if (tkOp ⟨s,false⟩).2.bad=true then (zeroO,[],(7:Int)) else ((tkOp ⟨s,false⟩).1,(tkOp ⟨s,false⟩).2.s,0))=takeOpR s:=by
 unfold takeOpR
 rcases simOp (a:=⟨s,false⟩) (b:=⟨s,false⟩) (.inr ⟨rfl,rfl⟩) with ⟨h1,h2⟩|⟨h1,h2⟩
 ·rw [if_pos h1,if_pos h2]
 ·rw [h2]
end Go.AE
set_option linter.unusedVariables false
set_option linter.unusedSimpArgs false
set_option maxHeartbeats 4000000
set_option maxRecDepth 100000
namespace Go.AE
open Go Go.Proofs
def FJ2_h118:MH:=mh1 165 2 (rdG okT tkOp outO)
@[simp] theorem FJ2_ap118 {H:Heap} {l:List AV}:FJ2_h118 H l=(mh1 165 2 (rdG okT tkOp outO)) H l:=rfl
def FJ2:CT:=(118,.mu FJ2_h118)::FJ1
theorem FJ2_ok:CTok Tryz.prog FJ2:=⟨tkOp_ev,FJ1_ok⟩
@[simp] theorem FJ2_get118:ctGet FJ2 118=some (.mu FJ2_h118):=rfl
@[simp] theorem FJ2_skip {n:Nat} (h:(n==118)=false):ctGet FJ2 n=ctGet FJ1 n:=by
 simp only [Bool.or_eq_false_iff,beq_eq_false_iff_ne,ne_eq] at h
 simp [FJ2,ctGet,h]
def refTakeOpAV (s:List UInt8):AV:=.t [(true,opRow .old (takeOpR s).1),(false,[.str (takeOpR s).2.1]),(false,[.raw (.bool (decide ((takeOpR s).2.2=0)))])]
theorem refTakeOp_ev (s:List UInt8) (hs:s.length<1000000):PEv Tryz.prog 93 [.c (.str s)] (refTakeOpAV s):=by
 refine tells_of mixed FJ2_ok Tryz.func93 sl93 ok93 (by kernel_rfl) (by simp -implicitDefEqProofs (maxSteps:=400000) (maxDischargeDepth:=6) [refTakeOpAV,opRow]) (by simp -implicitDefEqProofs (maxSteps:=400000) (maxDischargeDepth:=6)) ?_
 have hr:okT ⟨s,false⟩:=hs
 have ht:=tkOp_take s
 rcases e:tkOp ⟨s,false⟩ with ⟨o,s1,b1⟩
 rw [e] at ht
 cases b1
 ·have e2:takeOpR s=(o,s1,0):=by rw [←ht];rfl
  simp -implicitDefEqProofs (maxSteps:=400000) (maxDischargeDepth:=6) [s93,e,hr,rdrRow,outO,opRowW,refTakeOpAV,e2,opRow]
 ·have e2:takeOpR s=(zeroO,[],7):=by rw [←ht];rfl
  simp -implicitDefEqProofs (maxSteps:=400000) (maxDischargeDepth:=6) [s93,e,hr,rdrRow,outO,opRowW,refTakeOpAV,e2,opRow,zeroO]
def FJ3_h93:List AV→Option (Prop×AV):=t1 (fun s=>s.length<1000000) fun s:List UInt8=>refTakeOpAV s
@[simp] theorem FJ3_ap93 {l:List AV}:FJ3_h93 l=(t1 (fun s=>s.length<1000000) fun s:List UInt8=>refTakeOpAV s) l:=rfl
def FJ3_h19:List AV→Option (Prop×AV):=t1 (fun e=>e.op.text.length<1000000∧e.op.gone.length<4611686018427387904) fun e:EntryV=>.c (.raw (.bool (entMayB e)))
@[simp] theorem FJ3_ap19 {l:List AV}:FJ3_h19 l=(t1 (fun e=>e.op.text.length<1000000∧e.op.gone.length<4611686018427387904) fun e:EntryV=>.c (.raw (.bool (entMayB e)))) l:=rfl
def FJ3:CT:=(93,.pu FJ3_h93)::(19,.pu FJ3_h19)::FJ2
theorem FJ3_ok:CTok Tryz.prog FJ3:=⟨tells1 fun s h=>refTakeOp_ev s h,
 tells1 fun e h=>refEntry_ev e h.1 h.2,FJ2_ok⟩
@[simp] theorem FJ3_get93:ctGet FJ3 93=some (.pu FJ3_h93):=rfl
@[simp] theorem FJ3_get19:ctGet FJ3 19=some (.pu FJ3_h19):=rfl
@[simp] theorem FJ3_skip {n:Nat} (h:(n==93||n==19)=false):ctGet FJ3 n=ctGet FJ2 n:=by
 simp only [Bool.or_eq_false_iff,beq_eq_false_iff_ne,ne_eq] at h
 simp [FJ3,ctGet,h]
def refTakeE (s:List UInt8):EntryV×Nat×Bool:=if (firstR s).2.2=true then firstR s else (zeroE,0,false)
def entRowC (c:AC) (e:EntryV):List AC:=.raw (.bool e.join)::.raw (.int .i64 e.nonce)::opRowW c e.op
def EntAt (H:Heap) (v:Id) (e:EntryV):Prop:=∃c,H v=.arr 48 13 false [entRowC c e]∧((c=.raw (.slice none 0 0)∧e.op.gone=[])∨c=.sl .old false (rowsE e.op.gone))
theorem takeR_none {t:List UInt8} (h:takeN t=none):takeR t=(0,[],7):=by simp -implicitDefEqProofs (maxSteps:=400000) (maxDischargeDepth:=6) [takeR,h]
theorem takeR_some {t r:List UInt8} {n:Nat} (h:takeN t=some (n,r)):takeR t=(n,r,0):=by simp -implicitDefEqProofs (maxSteps:=400000) (maxDischargeDepth:=6) [takeR,h]
theorem prefB_iff {s b:List UInt8}:prefB s b=true↔s.take b.length=b:=by
 show List.isPrefixOf b s=true↔_
 rw [List.isPrefixOf_iff_prefix,List.prefix_iff_eq_take]
 exact eq_comm
def RefRead (t:List UInt8) (e:EntryV) (ok:Bool):Prop:=(readE t).2=(ok&&entMayB e)∧(ok=true→(readE t).1=e)∧e.op.text.length<1000000∧e.op.gone.length<1000000
def TkB (s:List UInt8) (st:St):Prop:=st.s 0=.c (.str s)∧st.s 2=.c (.pt (0,2) 0 0)∧st.H (0,2)=.arr 48 13 false [entRowC (.raw (.slice none 0 0)) zeroE]∧Fresh st.H st.T
theorem refTake14_ev (s:List UInt8) (hs:s.length<100000):PEv Tryz.prog 60 [.c (.str s)] (firstAV (refTakeE s)):=by
 refine tells_of mixed FJ3_ok Tryz.func60 sl60 ok60 (by kernel_rfl) (by simp -implicitDefEqProofs (maxSteps:=400000) (maxDischargeDepth:=6) [firstAV,entRow,opRow]) (by simp -implicitDefEqProofs (maxSteps:=400000) (maxDischargeDepth:=6)) ?_
 have hfin:∀st' (e:EntryV) (n:Nat) (ok:Bool),refTakeE s=(e,n,ok)→st'.s 2=.c (.pt (0,2) 0 0)→EntAt st'.H (0,2) e→st'.s 3=.c (.raw (.int .i64 n))→st'.s 4=.c (.raw (.bool ok))→finK Tryz.prog Tryz.f60 (firstAV (refTakeE s)) .ret st':=by
  rintro st' e n ok hR h2 ⟨c,hc,hcc⟩ h3 h4
  rw [hR]
  rcases hcc with ⟨rfl,hg⟩|rfl
  ·simp -implicitDefEqProofs (maxSteps:=400000) (maxDischargeDepth:=6) [h2,hc,h3,h4,firstAV,entRowC,opRowW,entRow,opRow,hg]
  ·simp -implicitDefEqProofs (maxSteps:=400000) (maxDischargeDepth:=6) [h2,hc,h3,h4,firstAV,entRowC,opRowW,entRow,opRow]
 have hno:refTakeE s=(zeroE,0,false)→∀st',(st'.s 2=.c (.pt (0,2) 0 0)∧st'.H (0,2)=.arr 48 13 false [entRowC (.raw (.slice none 0 0)) zeroE]∧st'.s 3=.c (.raw (.int .i64 0))∧st'.s 4=.c (.raw (.bool false)))→finK Tryz.prog Tryz.f60 (firstAV (refTakeE s)) .ret st':=
  fun hR st' ⟨h2,hc,h3,h4⟩=>hfin st' zeroE 0 false hR h2 ⟨_,hc,.inl ⟨rfl,rfl⟩⟩ h3 h4
 refine seq_c (TkB s) ?_ ?_
 ·intro R' hR
  simp -implicitDefEqProofs (maxSteps:=400000) (maxDischargeDepth:=6)
  exact hR _ ⟨by simp -implicitDefEqProofs (maxSteps:=400000) (maxDischargeDepth:=6),by simp -implicitDefEqProofs (maxSteps:=400000) (maxDischargeDepth:=6),by simp -implicitDefEqProofs (maxSteps:=400000) (maxDischargeDepth:=6) [entRowC,opRowW,zeroE,zeroO],by simp -implicitDefEqProofs (maxSteps:=400000) (maxDischargeDepth:=6);(repeat' (first|exact fresh_no.mono (Nat.zero_le _)|(refine Fresh.set' ?_ (by simp))))⟩
 rintro st ⟨k0,k2,hH,hf⟩
 have hfu:∀k d,st.T≤k→st.H (k,d)=.unborn:=hf
 have hs1:s.length<4611686018427387904:=by omega
 cases hq:sealT s with
 |none=>
  have hav:sealTAV s=.t [(false,[.str []]),(false,[.str []]),(false,[.raw (.bool false)])]:=by simp -implicitDefEqProofs (maxSteps:=400000) (maxDischargeDepth:=6) [sealTAV,hq]
  have hR0:refTakeE s=(zeroE,0,false):=by simp -implicitDefEqProofs (maxSteps:=400000) (maxDischargeDepth:=6) [refTakeE,firstR,hq]
  refine seq_c (fun st'=>TkB s st'∧st'.s 7=.c (.raw (.bool false))) ?_ ?_
  ·intro R' hR
   simp -implicitDefEqProofs (maxSteps:=400000) (maxDischargeDepth:=6) [k0,hs1,hav]
   exact hR _ ⟨⟨by simp -implicitDefEqProofs (maxSteps:=400000) (maxDischargeDepth:=6) [k0],by simp -implicitDefEqProofs (maxSteps:=400000) (maxDischargeDepth:=6) [k2],by simpa using hH,by simp -implicitDefEqProofs (maxSteps:=400000) (maxDischargeDepth:=6);exact hf.mono (by omega)⟩,by simp -implicitDefEqProofs (maxSteps:=400000) (maxDischargeDepth:=6)⟩
  clear k0 k2 hH hf hfu
  rintro st ⟨⟨k0,k2,hH,hf⟩,k7⟩
  refine seq_r _ ?_ (hno hR0)
  intro R' hR
  simp -implicitDefEqProofs (maxSteps:=400000) (maxDischargeDepth:=6) [k2,k7,hH,entRowC,opRowW]
  exact hR _ ⟨by simp -implicitDefEqProofs (maxSteps:=400000) (maxDischargeDepth:=6) [k2],by simp -implicitDefEqProofs (maxSteps:=400000) (maxDischargeDepth:=6) [entRowC,opRowW,zeroE,zeroO],by simp -implicitDefEqProofs (maxSteps:=400000) (maxDischargeDepth:=6),by simp -implicitDefEqProofs (maxSteps:=400000) (maxDischargeDepth:=6)⟩
 |some q=>
  obtain ⟨t,r⟩:=q
  obtain ⟨hsp,ht7⟩:=sealT_sp hq
  have hav:sealTAV s=.t [(false,[.str t]),(false,[.str r]),(false,[.raw (.bool true)])]:=by simp -implicitDefEqProofs (maxSteps:=400000) (maxDischargeDepth:=6) [sealTAV,hq]
  refine seq_c (fun st'=>TkB s st'∧st'.s 7=.c (.raw (.bool true))∧st'.s 5=.c (.str t)) ?_ ?_
  ·intro R' hR
   simp -implicitDefEqProofs (maxSteps:=400000) (maxDischargeDepth:=6) [k0,hs1,hav]
   exact hR _ ⟨⟨by simp -implicitDefEqProofs (maxSteps:=400000) (maxDischargeDepth:=6) [k0],by simp -implicitDefEqProofs (maxSteps:=400000) (maxDischargeDepth:=6) [k2],by simpa using hH,by simp -implicitDefEqProofs (maxSteps:=400000) (maxDischargeDepth:=6);exact hf.mono (by omega)⟩,by simp -implicitDefEqProofs (maxSteps:=400000) (maxDischargeDepth:=6),by simp -implicitDefEqProofs (maxSteps:=400000) (maxDischargeDepth:=6)⟩
  clear k0 k2 hH hf hfu
  rintro st ⟨⟨k0,k2,hH,hf⟩,k7,k5⟩
  refine seq_c (fun st'=>TkB s st'∧st'.s 5=.c (.str t)) ?_ ?_
  ·intro R' hR
   simp -implicitDefEqProofs (maxSteps:=400000) (maxDischargeDepth:=6) [k7]
   exact hR _ ⟨⟨by simp -implicitDefEqProofs (maxSteps:=400000) (maxDischargeDepth:=6) [k0],by simp -implicitDefEqProofs (maxSteps:=400000) (maxDischargeDepth:=6) [k2],by simpa using hH,by simp -implicitDefEqProofs (maxSteps:=400000) (maxDischargeDepth:=6);exact hf.mono (by omega)⟩,by simp -implicitDefEqProofs (maxSteps:=400000) (maxDischargeDepth:=6) [k5]⟩
  clear k0 k2 hH hf k7 k5
  rintro st ⟨⟨k0,k2,hH,hf⟩,k5⟩
  have ht1:t.length<4611686018427387904:=by omega
  obtain ⟨n,t1,b,hn⟩:∃(n:Nat) (t1:List UInt8) (b:Bool),refTakeAV t=.t [(false,[.raw (.int .i64 n)]),(false,[.str t1]),(false,[.raw (.bool b)])]∧takeR t=(n,t1,if b=true then 0 else 7)∧t1.length≤t.length∧(b=false→n=0):=by
   cases h:takeN t with
   |none=>exact ⟨0,[],false,refTakeAV_none h,takeR_none h,by simp -implicitDefEqProofs (maxSteps:=400000) (maxDischargeDepth:=6),fun _=>rfl⟩
   |some q=>exact ⟨q.1,q.2,true,refTakeAV_some h,takeR_some h,by have:=(takeN_len h).2;omega,by simp -implicitDefEqProofs (maxSteps:=400000) (maxDischargeDepth:=6)⟩
  obtain ⟨hn1,hn2,hn3,hn4⟩:=hn
  refine seq_c (fun st'=>TkB s st'∧st'.s 7=.c (.raw (.bool b))∧st'.s 8=.c (.raw (.int .i64 n))∧st'.s 9=.c (.str t1)) ?_ ?_
  ·intro R' hR
   simp -implicitDefEqProofs (maxSteps:=400000) (maxDischargeDepth:=6) [k5,ht1,hn1]
   exact hR _ ⟨⟨by simp -implicitDefEqProofs (maxSteps:=400000) (maxDischargeDepth:=6) [k0],by simp -implicitDefEqProofs (maxSteps:=400000) (maxDischargeDepth:=6) [k2],by simpa using hH,by simp -implicitDefEqProofs (maxSteps:=400000) (maxDischargeDepth:=6);exact hf.mono (by omega)⟩,by simp -implicitDefEqProofs (maxSteps:=400000) (maxDischargeDepth:=6),by simp -implicitDefEqProofs (maxSteps:=400000) (maxDischargeDepth:=6),by simp -implicitDefEqProofs (maxSteps:=400000) (maxDischargeDepth:=6)⟩
  clear k0 k2 hH hf k5
  rintro st ⟨⟨k0,k2,hH,hf⟩,k7,k8,k9⟩
  have hfu:∀k d,st.T≤k→st.H (k,d)=.unborn:=hf
  obtain ⟨p1,p2,p3⟩:=hf.arr hH
  refine seq_c (fun st'=>TkB s st'∧st'.s 7=.c (.raw (.bool b))∧st'.s 8=.c (.raw (.int .i64 n))∧st'.s 9=.c (.str t1)∧∃v,v≠(0,2)∧st'.s 10=.c (.pt v 0 0)∧st'.H v=.arr 48 13 false [entRowC (.raw (.slice none 0 0)) zeroE]) ?_ ?_
  ·intro R' hR
   simp -implicitDefEqProofs (maxSteps:=400000) (maxDischargeDepth:=6) [hfu]
   exact hR _ ⟨⟨by simp -implicitDefEqProofs (maxSteps:=400000) (maxDischargeDepth:=6) [k0],by simp -implicitDefEqProofs (maxSteps:=400000) (maxDischargeDepth:=6) [k2],by simpa [p2] using hH,by simp -implicitDefEqProofs (maxSteps:=400000) (maxDischargeDepth:=6);repeat' (first|exact hf.mono (by first|omega|(simp<;>omega))|(refine Fresh.set' ?_ (by first|omega|(simp<;>omega))))⟩,by simp -implicitDefEqProofs (maxSteps:=400000) (maxDischargeDepth:=6) [k7],by simp -implicitDefEqProofs (maxSteps:=400000) (maxDischargeDepth:=6) [k8],by simp -implicitDefEqProofs (maxSteps:=400000) (maxDischargeDepth:=6) [k9],(st.T,10),by simp -implicitDefEqProofs (maxSteps:=400000) (maxDischargeDepth:=6) [p1],by simp -implicitDefEqProofs (maxSteps:=400000) (maxDischargeDepth:=6),by simp -implicitDefEqProofs (maxSteps:=400000) (maxDischargeDepth:=6) [entRowC,opRowW,zeroE,zeroO]⟩
  clear k0 k2 hH hf k7 k8 k9 hfu p1 p2 p3
  rintro st ⟨⟨k0,k2,hH,hf⟩,k7,k8,k9,v,hv,k10,hV⟩
  have hfu:∀k d,st.T≤k→st.H (k,d)=.unborn:=hf
  obtain ⟨p1,p2,p3⟩:=hf.arr hH
  obtain ⟨p4,p5,p6⟩:=hf.arr hV
  have hv':((0,2)=v)=False:=by simpa using fun h=>hv h.symm
  have hv'':(v=(0,2))=False:=by simpa using hv
  have ht4:t1.length<1000000:=by omega
  have ht5:t1.length<4611686018427387904:=by omega
  refine seq_c (fun st'=>TkB s st'∧∃e ok,RefRead t e ok∧st'.s 7=.c (.raw (.bool ok))∧st'.s 10=.c (.pt v 0 0)∧EntAt st'.H v e) ?_ ?_
  ·intro R' hR
   by_cases c1:b=true∧n=1
   ·obtain ⟨rfl,rfl⟩:=c1
    obtain ⟨m,t2,b2,hm⟩:∃(m:Nat) (t2:List UInt8) (b2:Bool),refTakeAV t1=.t [(false,[.raw (.int .i64 m)]),(false,[.str t2]),(false,[.raw (.bool b2)])]∧takeR t1=(m,t2,if b2=true then 0 else 7)∧(b2=false→m=0):=by
     cases h:takeN t1 with
     |none=>exact ⟨0,[],false,refTakeAV_none h,takeR_none h,fun _=>rfl⟩
     |some q=>exact ⟨q.1,q.2,true,refTakeAV_some h,takeR_some h,by simp -implicitDefEqProofs (maxSteps:=400000) (maxDischargeDepth:=6)⟩
    obtain ⟨hm1,hm2,hm3⟩:=hm
    have key:RefRead t ⟨true,m,zeroO⟩ (b2&&decide (t2=[])):=by
     refine ⟨?_,?_,by simp -implicitDefEqProofs (maxSteps:=400000) (maxDischargeDepth:=6) [zeroO],by simp -implicitDefEqProofs (maxSteps:=400000) (maxDischargeDepth:=6) [zeroO]⟩
     ·unfold readE
      simp -implicitDefEqProofs (maxSteps:=400000) (maxDischargeDepth:=6) [hn2,hm2]
     ·unfold readE
      simp -implicitDefEqProofs (maxSteps:=400000) (maxDischargeDepth:=6) [hn2,hm2]
    cases b2
    ·simp -implicitDefEqProofs (maxSteps:=400000) (maxDischargeDepth:=6) [k7,k8,k9,k10,hV,ht5,hm1,entRowC,opRowW]
     refine hR _ ⟨⟨by simp -implicitDefEqProofs (maxSteps:=400000) (maxDischargeDepth:=6) [k0],by simp -implicitDefEqProofs (maxSteps:=400000) (maxDischargeDepth:=6) [k2],by simpa [hv'] using hH,by simp -implicitDefEqProofs (maxSteps:=400000) (maxDischargeDepth:=6);repeat' (first|exact hf.mono (by first|omega|(simp<;>omega))|(refine Fresh.set' ?_ (by first|omega|(simp<;>omega))))⟩,_,_,key,by simp -implicitDefEqProofs (maxSteps:=400000) (maxDischargeDepth:=6),by simp -implicitDefEqProofs (maxSteps:=400000) (maxDischargeDepth:=6) [k10],_,by simp -implicitDefEqProofs (maxSteps:=400000) (maxDischargeDepth:=6) [entRowC,opRowW,zeroO],.inl ⟨rfl,rfl⟩⟩
    ·cases c2:decide (t2=[])
     ·rw [c2] at key
      simp -implicitDefEqProofs (maxSteps:=400000) (maxDischargeDepth:=6) [k7,k8,k9,k10,hV,ht5,hm1,c2,entRowC,opRowW]
      refine hR _ ⟨⟨by simp -implicitDefEqProofs (maxSteps:=400000) (maxDischargeDepth:=6) [k0],by simp -implicitDefEqProofs (maxSteps:=400000) (maxDischargeDepth:=6) [k2],by simpa [hv'] using hH,by simp -implicitDefEqProofs (maxSteps:=400000) (maxDischargeDepth:=6);repeat' (first|exact hf.mono (by first|omega|(simp<;>omega))|(refine Fresh.set' ?_ (by first|omega|(simp<;>omega))))⟩,_,_,key,by simp -implicitDefEqProofs (maxSteps:=400000) (maxDischargeDepth:=6),by simp -implicitDefEqProofs (maxSteps:=400000) (maxDischargeDepth:=6) [k10],_,by simp -implicitDefEqProofs (maxSteps:=400000) (maxDischargeDepth:=6) [entRowC,opRowW,zeroO],.inl ⟨rfl,rfl⟩⟩
     ·rw [c2] at key
      simp -implicitDefEqProofs (maxSteps:=400000) (maxDischargeDepth:=6) [k7,k8,k9,k10,hV,ht5,hm1,c2,entRowC,opRowW]
      refine hR _ ⟨⟨by simp -implicitDefEqProofs (maxSteps:=400000) (maxDischargeDepth:=6) [k0],by simp -implicitDefEqProofs (maxSteps:=400000) (maxDischargeDepth:=6) [k2],by simpa [hv'] using hH,by simp -implicitDefEqProofs (maxSteps:=400000) (maxDischargeDepth:=6);repeat' (first|exact hf.mono (by first|omega|(simp<;>omega))|(refine Fresh.set' ?_ (by first|omega|(simp<;>omega))))⟩,_,_,key,by simp -implicitDefEqProofs (maxSteps:=400000) (maxDischargeDepth:=6),by simp -implicitDefEqProofs (maxSteps:=400000) (maxDischargeDepth:=6) [k10],_,by simp -implicitDefEqProofs (maxSteps:=400000) (maxDischargeDepth:=6) [entRowC,opRowW,zeroO],.inl ⟨rfl,rfl⟩⟩
   by_cases c2:b=true∧n=0
   ·obtain ⟨rfl,rfl⟩:=c2
    obtain ⟨g1,g2,g3⟩:=takeOpR_len t1
    rcases ho:takeOpR t1 with ⟨o,t2,x⟩
    rw [ho] at g1 g2 g3
    simp only at g1 g2 g3
    have hav:refTakeOpAV t1=.t [(true,opRow .old o),(false,[.str t2]),(false,[.raw (.bool (decide (x=0)))])]:=by rw [refTakeOpAV,ho]
    have key:RefRead t ⟨false,0,o⟩ (decide (x=0)&&decide (t2=[])):=by
     refine ⟨?_,?_,by show o.text.length<_;omega,by show o.gone.length<_;omega⟩
     ·unfold readE
      simp -implicitDefEqProofs (maxSteps:=400000) (maxDischargeDepth:=6) [hn2,ho]
     ·unfold readE
      simp -implicitDefEqProofs (maxSteps:=400000) (maxDischargeDepth:=6) [hn2,ho]
    cases c4:decide (x=0)
    ·rw [c4] at key hav
     simp -implicitDefEqProofs (maxSteps:=400000) (maxDischargeDepth:=6) [k7,k8,k9,k10,hV,hfu,ht4,hav,entRowC,opRowW,opRow,p5,Nat.le_add_right_of_le]
     refine hR _ ⟨⟨by simp -implicitDefEqProofs (maxSteps:=400000) (maxDischargeDepth:=6) [k0],by simp -implicitDefEqProofs (maxSteps:=400000) (maxDischargeDepth:=6) [k2],by simpa [hv',p2,Nat.le_add_right_of_le] using hH,by simp -implicitDefEqProofs (maxSteps:=400000) (maxDischargeDepth:=6);repeat' (first|exact hf.mono (by first|omega|(simp<;>omega))|(refine Fresh.set' ?_ (by first|omega|(simp<;>omega))))⟩,_,_,key,by simp -implicitDefEqProofs (maxSteps:=400000) (maxDischargeDepth:=6),by simp -implicitDefEqProofs (maxSteps:=400000) (maxDischargeDepth:=6) [k10],_,by simp -implicitDefEqProofs (maxSteps:=400000) (maxDischargeDepth:=6) [entRowC,opRowW,opRow],.inr rfl⟩
    ·cases c5:decide (t2=[])
     ·rw [c4,c5] at key
      rw [c4] at hav
      simp -implicitDefEqProofs (maxSteps:=400000) (maxDischargeDepth:=6) [k7,k8,k9,k10,hV,hfu,ht4,hav,c5,entRowC,opRowW,opRow,p5,Nat.le_add_right_of_le]
      refine hR _ ⟨⟨by simp -implicitDefEqProofs (maxSteps:=400000) (maxDischargeDepth:=6) [k0],by simp -implicitDefEqProofs (maxSteps:=400000) (maxDischargeDepth:=6) [k2],by simpa [hv',p2,Nat.le_add_right_of_le] using hH,by simp -implicitDefEqProofs (maxSteps:=400000) (maxDischargeDepth:=6);repeat' (first|exact hf.mono (by first|omega|(simp<;>omega))|(refine Fresh.set' ?_ (by first|omega|(simp<;>omega))))⟩,_,_,key,by simp -implicitDefEqProofs (maxSteps:=400000) (maxDischargeDepth:=6),by simp -implicitDefEqProofs (maxSteps:=400000) (maxDischargeDepth:=6) [k10],_,by simp -implicitDefEqProofs (maxSteps:=400000) (maxDischargeDepth:=6) [entRowC,opRowW,opRow],.inr rfl⟩
     ·rw [c4,c5] at key
      rw [c4] at hav
      simp -implicitDefEqProofs (maxSteps:=400000) (maxDischargeDepth:=6) [k7,k8,k9,k10,hV,hfu,ht4,hav,c5,entRowC,opRowW,opRow,p5,Nat.le_add_right_of_le]
      refine hR _ ⟨⟨by simp -implicitDefEqProofs (maxSteps:=400000) (maxDischargeDepth:=6) [k0],by simp -implicitDefEqProofs (maxSteps:=400000) (maxDischargeDepth:=6) [k2],by simpa [hv',p2,Nat.le_add_right_of_le] using hH,by simp -implicitDefEqProofs (maxSteps:=400000) (maxDischargeDepth:=6);repeat' (first|exact hf.mono (by first|omega|(simp<;>omega))|(refine Fresh.set' ?_ (by first|omega|(simp<;>omega))))⟩,_,_,key,by simp -implicitDefEqProofs (maxSteps:=400000) (maxDischargeDepth:=6),by simp -implicitDefEqProofs (maxSteps:=400000) (maxDischargeDepth:=6) [k10],_,by simp -implicitDefEqProofs (maxSteps:=400000) (maxDischargeDepth:=6) [entRowC,opRowW,opRow],.inr rfl⟩
   have key:RefRead t zeroE false:=by
    refine ⟨?_,by simp -implicitDefEqProofs (maxSteps:=400000) (maxDischargeDepth:=6),by simp -implicitDefEqProofs (maxSteps:=400000) (maxDischargeDepth:=6) [zeroE,zeroO],by simp -implicitDefEqProofs (maxSteps:=400000) (maxDischargeDepth:=6) [zeroE,zeroO]⟩
    unfold readE
    cases b
    ·simp -implicitDefEqProofs (maxSteps:=400000) (maxDischargeDepth:=6) [hn2]
    ·have:1<n:=by
      rcases Nat.lt_or_ge 1 n with h|h
      ·exact h
      ·exfalso
       have:n=0∨n=1:=by omega
       rcases this with h|h
       ·exact c2 ⟨rfl,h⟩
       ·exact c1 ⟨rfl,h⟩
     simp -implicitDefEqProofs (maxSteps:=400000) (maxDischargeDepth:=6) [hn2,this]
   cases b
   ·simp -implicitDefEqProofs (maxSteps:=400000) (maxDischargeDepth:=6) [k7,k8]
    exact hR _ ⟨⟨by simp -implicitDefEqProofs (maxSteps:=400000) (maxDischargeDepth:=6) [k0],by simp -implicitDefEqProofs (maxSteps:=400000) (maxDischargeDepth:=6) [k2],by simpa using hH,by simp -implicitDefEqProofs (maxSteps:=400000) (maxDischargeDepth:=6);exact hf.mono (by omega)⟩,_,_,key,by simp -implicitDefEqProofs (maxSteps:=400000) (maxDischargeDepth:=6),by simp -implicitDefEqProofs (maxSteps:=400000) (maxDischargeDepth:=6) [k10],_,by simpa using hV,.inl ⟨rfl,rfl⟩⟩
   ·have d1:¬(n:Int)=1:=fun h=>c1 ⟨rfl,by omega⟩
    have d2:¬n=0:=fun h=>c2 ⟨rfl,h⟩
    have d3:¬n=1:=fun h=>c1 ⟨rfl,h⟩
    simp -implicitDefEqProofs (maxSteps:=400000) (maxDischargeDepth:=6) [k7,k8,d1,d2,d3]
    exact hR _ ⟨⟨by simp -implicitDefEqProofs (maxSteps:=400000) (maxDischargeDepth:=6) [k0],by simp -implicitDefEqProofs (maxSteps:=400000) (maxDischargeDepth:=6) [k2],by simpa using hH,by simp -implicitDefEqProofs (maxSteps:=400000) (maxDischargeDepth:=6);exact hf.mono (by omega)⟩,_,_,key,by simp -implicitDefEqProofs (maxSteps:=400000) (maxDischargeDepth:=6),by simp -implicitDefEqProofs (maxSteps:=400000) (maxDischargeDepth:=6) [k10],_,by simpa using hV,.inl ⟨rfl,rfl⟩⟩
  clear k0 k2 hH hf k7 k8 k9 hfu p1 p2 p3 p4 p5 p6 k10 hV
  rintro st ⟨⟨k0,k2,hH,hf⟩,e,ok,⟨hr1,hr2,hr3,hr4⟩,k7,k10,c,hV,hcc⟩
  have hr5:e.op.gone.length<4611686018427387904:=by omega
  have hR1:(readE t).2=false→refTakeE s=(zeroE,0,false):=fun h=>by simp -implicitDefEqProofs (maxSteps:=400000) (maxDischargeDepth:=6) [refTakeE,firstR,hq,h]
  cases hok:ok
  ·have hR0:=hR1 (by rw [hr1,hok];rfl)
   refine seq_r _ ?_ (hno hR0)
   intro R' hR
   rw [hok] at k7
   simp -implicitDefEqProofs (maxSteps:=400000) (maxDischargeDepth:=6) [k2,k7,hH,entRowC,opRowW]
   exact hR _ ⟨by simp -implicitDefEqProofs (maxSteps:=400000) (maxDischargeDepth:=6) [k2],by simp -implicitDefEqProofs (maxSteps:=400000) (maxDischargeDepth:=6) [entRowC,opRowW,zeroE,zeroO],by simp -implicitDefEqProofs (maxSteps:=400000) (maxDischargeDepth:=6),by simp -implicitDefEqProofs (maxSteps:=400000) (maxDischargeDepth:=6)⟩
  cases hm:entMayB e
  ·have hR0:=hR1 (by rw [hr1,hm];simp -implicitDefEqProofs (maxSteps:=400000) (maxDischargeDepth:=6))
   refine seq_r _ ?_ (hno hR0)
   intro R' hR
   rw [hok] at k7
   rcases hcc with ⟨rfl,hg⟩|rfl
   ·have hm':entMayB ⟨e.join,e.nonce,e.op.site,e.op.seq,e.op.kind,⟨e.op.after.site,e.op.after.seq,e.op.after.i⟩,e.op.text,[],e.op.of_,e.op.num,e.op.gen⟩=false:=by rw [←hm,←hg]
    simp -implicitDefEqProofs (maxSteps:=400000) (maxDischargeDepth:=6) [k2,k7,k10,hH,hV,entRowC,opRowW,hr3,hm']
    exact hR _ ⟨by simp -implicitDefEqProofs (maxSteps:=400000) (maxDischargeDepth:=6) [k2],by simp -implicitDefEqProofs (maxSteps:=400000) (maxDischargeDepth:=6) [entRowC,opRowW,zeroE,zeroO],by simp -implicitDefEqProofs (maxSteps:=400000) (maxDischargeDepth:=6),by simp -implicitDefEqProofs (maxSteps:=400000) (maxDischargeDepth:=6)⟩
   ·simp -implicitDefEqProofs (maxSteps:=400000) (maxDischargeDepth:=6) [k2,k7,k10,hH,hV,entRowC,opRowW,hr3,hr5,hm]
    exact hR _ ⟨by simp -implicitDefEqProofs (maxSteps:=400000) (maxDischargeDepth:=6) [k2],by simp -implicitDefEqProofs (maxSteps:=400000) (maxDischargeDepth:=6) [entRowC,opRowW,zeroE,zeroO],by simp -implicitDefEqProofs (maxSteps:=400000) (maxDischargeDepth:=6),by simp -implicitDefEqProofs (maxSteps:=400000) (maxDischargeDepth:=6)⟩
  have he:=hr2 hok
  have hrt:(readE t).2=true:=by rw [hr1,hok,hm];rfl
  have hp:=readE_sp hrt
  rw [he] at hp
  have hF:=entMayB_ok hm hr3 hr4
  have hb1:framedR e=(padN (sealA t),0):=by rw [framedR,hp,if_neg (by omega)]
  have hb2:refBytesR e=(padN (sealA t),true):=by rw [refBytesR,hp,if_neg (by omega)]
  have hbl:=framedR_len e
  rw [hb1] at hbl
  simp only at hbl
  have hfr:firstR s=(e,(padN (sealA t)).length/32,prefB s (padN (sealA t))):=by simp -implicitDefEqProofs (maxSteps:=400000) (maxDischargeDepth:=6) [firstR,hq,hrt,he,hb1]
  have hb3:refBytesAV e=.t [(false,[.str (padN (sealA t))]),(false,[.raw (.bool true)])]:=by rw [refBytesAV,hb2]
  generalize padN (sealA t)=B at hb1 hb2 hb3 hbl hfr
  have hmF:∀(x:Bool),e.op.gone=[]→entMayB ⟨e.join,e.nonce,e.op.site,e.op.seq,e.op.kind,⟨e.op.after.site,e.op.after.seq,e.op.after.i⟩,e.op.text,[],e.op.of_,e.op.num,e.op.gen⟩=true∧okF ⟨e.join,e.nonce,e.op.site,e.op.seq,e.op.kind,⟨e.op.after.site,e.op.after.seq,e.op.after.i⟩,e.op.text,[],e.op.of_,e.op.num,e.op.gen⟩∧
    refBytesAV ⟨e.join,e.nonce,e.op.site,e.op.seq,e.op.kind,⟨e.op.after.site,e.op.after.seq,e.op.after.i⟩,e.op.text,[],e.op.of_,e.op.num,e.op.gen⟩=.t [(false,[.str B]),(false,[.raw (.bool true)])]:=fun _ hg=>by
   rw [←hg]
   exact ⟨hm,hF,hb3⟩
  rw [hok] at k7
  have eH:EntAt st.H v e:=⟨c,hV,hcc⟩
  have ext:∀{H':Heap},H' v=st.H v→EntAt H' v e:=fun h=>⟨c,by rw [h,hV],hcc⟩
  refine seq_c (fun st'=>TkB s st'∧st'.s 10=.c (.pt v 0 0)∧EntAt st'.H v e) ?_ ?_
  ·intro R' hR
   rcases hcc with ⟨rfl,hg⟩|rfl
   ·obtain ⟨m1,m2,m3⟩:=hmF true hg
    simp -implicitDefEqProofs (maxSteps:=400000) (maxDischargeDepth:=6) [k7,k10,hV,entRowC,opRowW,hr3,m1]
    exact hR _ ⟨⟨by simp -implicitDefEqProofs (maxSteps:=400000) (maxDischargeDepth:=6) [k0],by simp -implicitDefEqProofs (maxSteps:=400000) (maxDischargeDepth:=6) [k2],by simpa using hH,by simp -implicitDefEqProofs (maxSteps:=400000) (maxDischargeDepth:=6);exact hf.mono (by omega)⟩,by simp -implicitDefEqProofs (maxSteps:=400000) (maxDischargeDepth:=6) [k10],ext (by simp -implicitDefEqProofs (maxSteps:=400000) (maxDischargeDepth:=6))⟩
   ·simp -implicitDefEqProofs (maxSteps:=400000) (maxDischargeDepth:=6) [k7,k10,hV,entRowC,opRowW,hr3,hr5,hm]
    exact hR _ ⟨⟨by simp -implicitDefEqProofs (maxSteps:=400000) (maxDischargeDepth:=6) [k0],by simp -implicitDefEqProofs (maxSteps:=400000) (maxDischargeDepth:=6) [k2],by simpa using hH,by simp -implicitDefEqProofs (maxSteps:=400000) (maxDischargeDepth:=6);exact hf.mono (by omega)⟩,by simp -implicitDefEqProofs (maxSteps:=400000) (maxDischargeDepth:=6) [k10],ext (by simp -implicitDefEqProofs (maxSteps:=400000) (maxDischargeDepth:=6))⟩
  clear k0 k2 hH hf k7 k10 hV hcc eH ext c
  rintro st ⟨⟨k0,k2,hH,hf⟩,k10,c,hV,hcc⟩
  have ext:∀{H':Heap},H' v=st.H v→EntAt H' v e:=fun h=>⟨c,by rw [h,hV],hcc⟩
  refine seq_c (fun st'=>TkB s st'∧st'.s 10=.c (.pt v 0 0)∧EntAt st'.H v e∧st'.s 17=.c (.str B)∧st'.s 18=.c (.raw (.bool true))) ?_ ?_
  ·intro R' hR
   rcases hcc with ⟨rfl,hg⟩|rfl
   ·obtain ⟨m1,m2,m3⟩:=hmF true hg
    simp -implicitDefEqProofs (maxSteps:=400000) (maxDischargeDepth:=6) [k10,hV,entRowC,opRowW,m2,m3]
    exact hR _ ⟨⟨by simp -implicitDefEqProofs (maxSteps:=400000) (maxDischargeDepth:=6) [k0],by simp -implicitDefEqProofs (maxSteps:=400000) (maxDischargeDepth:=6) [k2],by simpa using hH,by simp -implicitDefEqProofs (maxSteps:=400000) (maxDischargeDepth:=6);exact hf.mono (by omega)⟩,by simp -implicitDefEqProofs (maxSteps:=400000) (maxDischargeDepth:=6) [k10],ext (by simp -implicitDefEqProofs (maxSteps:=400000) (maxDischargeDepth:=6)),by simp -implicitDefEqProofs (maxSteps:=400000) (maxDischargeDepth:=6),by simp -implicitDefEqProofs (maxSteps:=400000) (maxDischargeDepth:=6)⟩
   ·simp -implicitDefEqProofs (maxSteps:=400000) (maxDischargeDepth:=6) [k10,hV,entRowC,opRowW,hF,hb3]
    exact hR _ ⟨⟨by simp -implicitDefEqProofs (maxSteps:=400000) (maxDischargeDepth:=6) [k0],by simp -implicitDefEqProofs (maxSteps:=400000) (maxDischargeDepth:=6) [k2],by simpa using hH,by simp -implicitDefEqProofs (maxSteps:=400000) (maxDischargeDepth:=6);exact hf.mono (by omega)⟩,by simp -implicitDefEqProofs (maxSteps:=400000) (maxDischargeDepth:=6) [k10],ext (by simp -implicitDefEqProofs (maxSteps:=400000) (maxDischargeDepth:=6)),by simp -implicitDefEqProofs (maxSteps:=400000) (maxDischargeDepth:=6),by simp -implicitDefEqProofs (maxSteps:=400000) (maxDischargeDepth:=6)⟩
  clear k0 k2 hH hf k10 hV hcc ext c
  rintro st ⟨⟨k0,k2,hH,hf⟩,k10,⟨c,hV,hcc⟩,k17,k18⟩
  have ext:∀{H':Heap},H' v=st.H v→EntAt H' v e:=fun h=>⟨c,by rw [h,hV],hcc⟩
  cases hpre:prefB s B
  ·have hR0:refTakeE s=(zeroE,0,false):=by simp -implicitDefEqProofs (maxSteps:=400000) (maxDischargeDepth:=6) [refTakeE,hfr,hpre]
   refine seq_r _ ?_ (hno hR0)
   intro R' hR
   by_cases hlen:s.length<B.length
   ·have hlen':(s.length:Int)<B.length:=by omega
    simp -implicitDefEqProofs (maxSteps:=400000) (maxDischargeDepth:=6) [k0,k2,k17,k18,hH,entRowC,opRowW,hlen']
    exact hR _ ⟨by simp -implicitDefEqProofs (maxSteps:=400000) (maxDischargeDepth:=6) [k2],by simp -implicitDefEqProofs (maxSteps:=400000) (maxDischargeDepth:=6) [entRowC,opRowW,zeroE,zeroO],by simp -implicitDefEqProofs (maxSteps:=400000) (maxDischargeDepth:=6),by simp -implicitDefEqProofs (maxSteps:=400000) (maxDischargeDepth:=6)⟩
   ·have hlen':¬(s.length:Int)<B.length:=by omega
    have hle:B.length≤s.length:=by omega
    have hd:decide (List.take B.length s=B)=false:=by
     apply decide_eq_false
     rw [←prefB_iff,hpre]
     simp -implicitDefEqProofs (maxSteps:=400000) (maxDischargeDepth:=6)
    simp -implicitDefEqProofs (maxSteps:=400000) (maxDischargeDepth:=6) [k0,k2,k17,k18,hH,entRowC,opRowW,hlen',hle,hd]
    exact hR _ ⟨by simp -implicitDefEqProofs (maxSteps:=400000) (maxDischargeDepth:=6) [k2],by simp -implicitDefEqProofs (maxSteps:=400000) (maxDischargeDepth:=6) [entRowC,opRowW,zeroE,zeroO],by simp -implicitDefEqProofs (maxSteps:=400000) (maxDischargeDepth:=6),by simp -implicitDefEqProofs (maxSteps:=400000) (maxDischargeDepth:=6)⟩
  have hR1:refTakeE s=(e,B.length/32,true):=by simp -implicitDefEqProofs (maxSteps:=400000) (maxDischargeDepth:=6) [refTakeE,hfr,hpre]
  have htk:=prefB_iff.1 hpre
  have hle:B.length≤s.length:=by have:=congrArg List.length htk;rw [List.length_take] at this;omega
  have hlen':¬(s.length:Int)<B.length:=by omega
  have hd:decide (List.take B.length s=B)=true:=decide_eq_true htk
  refine seq_c (fun st'=>TkB s st'∧st'.s 10=.c (.pt v 0 0)∧EntAt st'.H v e∧st'.s 17=.c (.str B)) ?_ ?_
  ·intro R' hR
   simp -implicitDefEqProofs (maxSteps:=400000) (maxDischargeDepth:=6) [k0,k17,k18,hlen',hle,hd]
   exact hR _ ⟨⟨by simp -implicitDefEqProofs (maxSteps:=400000) (maxDischargeDepth:=6) [k0],by simp -implicitDefEqProofs (maxSteps:=400000) (maxDischargeDepth:=6) [k2],by simpa using hH,by simp -implicitDefEqProofs (maxSteps:=400000) (maxDischargeDepth:=6);exact hf.mono (by omega)⟩,by simp -implicitDefEqProofs (maxSteps:=400000) (maxDischargeDepth:=6) [k10],ext (by simp -implicitDefEqProofs (maxSteps:=400000) (maxDischargeDepth:=6)),by simp -implicitDefEqProofs (maxSteps:=400000) (maxDischargeDepth:=6) [k17]⟩
  clear k0 k2 hH hf k10 hV hcc ext c k17 k18
  rintro st ⟨⟨k0,k2,hH,hf⟩,k10,⟨c,hV,hcc⟩,k17⟩
  obtain ⟨qn,hqn,hqb⟩:∃q,B.length/32=q∧q≤100:=⟨_,rfl,by omega⟩
  have w0:(B.length:Int).tdiv 32=(qn:Int):=by rw [Int.tdiv_eq_ediv_of_nonneg (by omega)];omega
  have w1:IntKind.wrap .i64 (qn:Int)=qn:=by rw [wrap64_id]<;>omega
  rw [hqn] at hR1
  refine seq_c (fun st'=>st'.s 2=.c (.pt (0,2) 0 0)∧EntAt st'.H (0,2) e∧st'.s 3=.c (.raw (.int .i64 qn))∧st'.s 4=.c (.raw (.bool true))) ?_ fun st' ⟨a,b,c,d⟩=>hfin st' e _ true hR1 a b c d
  intro R' hR
  rcases hcc with ⟨rfl,hg⟩|rfl
  ·simp -implicitDefEqProofs (maxSteps:=400000) (maxDischargeDepth:=6) [k2,k10,k17,hH,hV,entRowC,opRowW,w0,w1]
   exact hR _ ⟨by simp -implicitDefEqProofs (maxSteps:=400000) (maxDischargeDepth:=6) [k2],⟨_,by simp -implicitDefEqProofs (maxSteps:=400000) (maxDischargeDepth:=6) [entRowC,opRowW],.inl ⟨rfl,hg⟩⟩,by simp -implicitDefEqProofs (maxSteps:=400000) (maxDischargeDepth:=6),by simp -implicitDefEqProofs (maxSteps:=400000) (maxDischargeDepth:=6)⟩
  ·simp -implicitDefEqProofs (maxSteps:=400000) (maxDischargeDepth:=6) [k2,k10,k17,hH,hV,entRowC,opRowW,w0,w1]
   exact hR _ ⟨by simp -implicitDefEqProofs (maxSteps:=400000) (maxDischargeDepth:=6) [k2],⟨_,by simp -implicitDefEqProofs (maxSteps:=400000) (maxDischargeDepth:=6) [entRowC,opRowW],.inr rfl⟩,by simp -implicitDefEqProofs (maxSteps:=400000) (maxDischargeDepth:=6),by simp -implicitDefEqProofs (maxSteps:=400000) (maxDischargeDepth:=6)⟩
end Go.AE
set_option linter.unusedVariables false
set_option linter.unusedSimpArgs false
set_option maxHeartbeats 2000000
namespace Go.AE
open Go
theorem takeF_take:∀(k m acc:Nat) (s:List UInt8) (j:Nat),k≤j→takeF k m acc (s.take j)=(takeF k m acc s).map fun q=>(q.1,q.2.take (j-(s.length-q.2.length)))
 |0,m,acc,s,j,_=>rfl
 |k+1,m,acc,s,j,hj=>by
  cases s with
  |nil=>simp [takeF]
  |cons b s=>
   obtain ⟨j,rfl⟩:∃i,j=i+1:=⟨j-1,by omega⟩
   rw [List.take_succ_cons,takeF,takeF]
   split
   ·rw [takeF_take k _ _ s j (by omega)]
    cases h:takeF k (m*128) (acc+b.toNat%128*m) s with
    |none=>rfl
    |some q=>
     obtain ⟨n,r⟩:=q
     have hr:r.length≤s.length:=by
      have go:∀(k m acc:Nat) (s r:List UInt8) (n:Nat),takeF k m acc s=some (n,r)→r.length≤s.length:=by
       intro k
       induction k with
       |zero=>intro m acc s r n h;cases h
       |succ k ih=>
        intro m acc s r n h
        cases s with
        |nil=>cases h
        |cons b s=>
         rw [takeF] at h
         split at h
         ·have:=ih _ _ _ _ _ h
          simp;omega
         ·split at h
          ·cases h
          ·cases h
           simp
      exact go _ _ _ _ _ _ h
     simp
     congr 1
     omega
   ·split
    ·rfl
    ·simp
theorem bytesN_le2 {n:Nat} (h:n≤700):(bytesN n).length≤2:=bytesF_short 9 2 n (by omega) (by omega)
theorem sealT_take {s:List UInt8} (h:736≤s.length):(sealT (s.take 736)).map (·.1)=(sealT s).map (·.1):=by
 have ht:takeN (s.take 736)=(takeN s).map fun q=>(q.1,q.2.take (736-(s.length-q.2.length))):=takeF_take 5 1 0 s 736 (by omega)
 unfold sealT
 rw [ht]
 cases hn:takeN s with
 |none=>rfl
 |some q=>
  obtain ⟨n,r⟩:=q
  have hsp:=takeN_sp hn
  have hsl:s.length=(bytesN n).length+r.length:=by rw [hsp,List.length_append]
  simp only [Option.map_some]
  by_cases h7:700<n
  ·rw [if_pos (.inl h7),if_pos (.inl h7)]
  ·have hb:=bytesN_le2 (n:=n) (by omega)
   have e1:s.length-r.length=(bytesN n).length:=by omega
   rw [e1]
   have l1:(r.take (736-(bytesN n).length)).length=736-(bytesN n).length:=by rw [List.length_take];omega
   rw [if_neg (show ¬(700<n∨(r.take (736-(bytesN n).length)).length<n+4) by rw [l1];omega),if_neg (show ¬(700<n∨r.length<n+4) by omega)]
   have e2:(s.take 736).length-(r.take (736-(bytesN n).length)).length=(bytesN n).length:=by rw [l1,List.length_take];omega
   rw [e2]
   have e3:(s.take 736).take (bytesN n).length=s.take (bytesN n).length:=by rw [List.take_take,Nat.min_eq_left (by omega)]
   have e4:(r.take (736-(bytesN n).length)).take 4=r.take 4:=by rw [List.take_take,Nat.min_eq_left (by omega)]
   have e5:(r.take (736-(bytesN n).length)).take (4+n)=r.take (4+n):=by rw [List.take_take,Nat.min_eq_left (by omega)]
   rw [e3,e4,e5]
   split<;>rfl
theorem padN_sealA_len {t:List UInt8} (h:t.length≤700):(padN (sealA t)).length≤736:=by
 have h1:=bytesN_le2 h
 have l1:(speltN (ofN (bytesN t.length++t))).length=4:=rfl
 simp only [padN,sealA,if_neg (show ¬700<t.length by omega),List.length_append,List.length_replicate,l1,padL]
 omega
theorem prefB_take {s b:List UInt8} {n:Nat} (h:b.length≤n):prefB (s.take n) b=prefB s b:=by
 cases hp:prefB s b
 ·cases hq:prefB (s.take n) b
  ·rfl
  ·exfalso
   have:=prefB_iff.1 hq
   rw [List.take_take,Nat.min_eq_left h] at this
   rw [prefB_iff.2 this] at hp
   cases hp
 ·have:=prefB_iff.1 hp
  apply prefB_iff.2
  rw [List.take_take,Nat.min_eq_left h]
  exact this
theorem refTakeE_take (s:List UInt8):refTakeE (s.take 736)=refTakeE s:=by
 by_cases h:s.length≤736
 ·rw [List.take_of_length_le h]
 have ht:=sealT_take (s:=s) (by omega)
 have hf:firstR (s.take 736)=firstR s:=by
  unfold firstR
  cases h1:sealT (s.take 736) with
  |none=>
   rw [h1] at ht
   cases h2:sealT s with
   |none=>rfl
   |some q=>rw [h2] at ht;simp at ht
  |some q=>
   rw [h1] at ht
   cases h2:sealT s with
   |none=>rw [h2] at ht;simp at ht
   |some q2=>
    rw [h2] at ht
    obtain ⟨t,r⟩:=q
    obtain ⟨t2,r2⟩:=q2
    simp at ht
    subst ht
    simp only
    obtain ⟨_,ht7⟩:=sealT_sp h2
    cases hr:(readE t).2
    ·rfl
    ·simp only [if_true]
     have hp:=readE_sp hr
     have hb1:(framedR (readE t).1).1=padN (sealA t):=by rw [framedR,hp,if_neg (by omega)]
     rw [hb1,prefB_take (padN_sealA_len ht7)]
 unfold refTakeE
 rw [hf]
def refLoadF:Nat→List (List UInt8)→Nat→List EntryV×List Int×Nat
 |0,_,a=>([],[],a)
 |k+1,l,a=>if (refTakeE l.flatten).2.2=true then
   ((refTakeE l.flatten).1::(refLoadF k (l.drop (refTakeE l.flatten).2.1) (a+(refTakeE l.flatten).2.1)).1,(a:Int)::(refLoadF k (l.drop (refTakeE l.flatten).2.1) (a+(refTakeE l.flatten).2.1)).2.1,(refLoadF k (l.drop (refTakeE l.flatten).2.1) (a+(refTakeE l.flatten).2.1)).2.2)
  else ([],[],a)
theorem flatten_take {l:List (List UInt8)} (h:∀x∈l,x.length=32) (n:Nat):(l.take n).flatten=l.flatten.take (32*n):=by
 induction n generalizing l with
 |zero=>simp
 |succ n ih=>
  cases l with
  |nil=>simp
  |cons x l=>
   have hx:=h x List.mem_cons_self
   rw [List.take_succ_cons,List.flatten_cons,List.flatten_cons,ih fun y hy=>h y (List.mem_cons_of_mem _ hy),List.take_append,List.take_of_length_le (show x.length≤32*(n+1) by omega),hx,show 32*(n+1)-32=32*n by omega]
theorem flatten_drop {l:List (List UInt8)} (h:∀x∈l,x.length=32) (n:Nat):(l.drop n).flatten=l.flatten.drop (32*n):=by
 induction n generalizing l with
 |zero=>simp
 |succ n ih=>
  cases l with
  |nil=>simp
  |cons x l=>
   have hx:=h x List.mem_cons_self
   rw [List.drop_succ_cons,List.flatten_cons,ih fun y hy=>h y (List.mem_cons_of_mem _ hy),List.drop_append,List.drop_of_length_le (show x.length≤32*(n+1) by omega),hx,List.nil_append,show 32*(n+1)-32=32*n by omega]
theorem refTakeE_nil:refTakeE []=(zeroE,0,false):=by simp [refTakeE,firstR,sealT,takeN,takeF]
theorem refTakeE_first {l:List (List UInt8)} (h:secs l):refTakeE l.flatten=if (firstR (l.take 23).flatten).2.2=true then firstR (l.take 23).flatten else (zeroE,0,false):=by
 rw [←refTakeE_take,flatten_take h 23]
 rfl
theorem refLoad_same:∀(k:Nat) (l:List (List UInt8)) (a:Nat),secs l→(refLoadF k l a).1=(loadF k l a).1∧(refLoadF k l a).2.2=(loadF k l a).2
 |0,l,a,_=>⟨rfl,rfl⟩
 |k+1,l,a,h=>by
  unfold refLoadF loadF
  by_cases hl:l=[]
  ·subst hl
   simp [refTakeE_nil]
  ·rw [if_neg hl,refTakeE_first h]
   cases hf:(firstR (l.take 23).flatten).2.2
   ·simp
   ·have ih:=refLoad_same k (l.drop (firstR (l.take 23).flatten).2.1) (a+(firstR (l.take 23).flatten).2.1) fun x hx=>h x (List.mem_of_mem_drop hx)
    simp [hf,ih.1,ih.2]
end Go.AE
set_option linter.unusedVariables false
set_option linter.unusedSimpArgs false
set_option maxHeartbeats 4000000
set_option maxRecDepth 100000
namespace Go.AE
open Go Go.Proofs
def FJ4_h60:List AV→Option (Prop×AV):=t1 (fun s=>s.length<100000) fun s:List UInt8=>firstAV (refTakeE s)
@[simp] theorem FJ4_ap60 {l:List AV}:FJ4_h60 l=(t1 (fun s=>s.length<100000) fun s:List UInt8=>firstAV (refTakeE s)) l:=rfl
def FJ4:CT:=(60,.pu FJ4_h60)::FJ3
theorem FJ4_ok:CTok Tryz.prog FJ4:=⟨tells1 fun s h=>refTake14_ev s h,FJ3_ok⟩
@[simp] theorem FJ4_get60:ctGet FJ4 60=some (.pu FJ4_h60):=rfl
@[simp] theorem FJ4_skip {n:Nat} (h:(n==60)=false):ctGet FJ4 n=ctGet FJ3 n:=by
 simp only [Bool.or_eq_false_iff,beq_eq_false_iff_ne,ne_eq] at h
 simp [FJ4,ctGet,h]
def refLoadR (d:DiskV):List EntryV×List Int×Nat:=refLoadF d.safe.length d.safe 0
def refLoadAV (r:List EntryV×List Int×Nat):AV:=.t [(false,[.nw 48 13 (rowsE r.1)]),(false,[.nw 3 1 (rowsE r.2.1)]),(false,[.raw (.int .i64 r.2.2)])]
def RefLoadI (d:DiskV) (q:Nat) (st:St):Prop:=∃i:Nat,i≤d.safe.length∧q=d.safe.length-i∧st.s 1=.c (.pt (0,1) 0 0)∧st.s 5=.c (.str (d.safe.take i).flatten)∧st.s 6=.c (.raw (.int .i64 i))∧
 st.H (0,1)=.arr 30 2 false [[.sl .brw false (rowsE d.safe),.sl .brw false (rowsE d.wait)]]∧Fresh st.H st.T
def RefLoadJ (d:DiskV) (q:Nat) (st:St):Prop:=∃(a k:Nat) (accE:List EntryV) (accI:List Int),a≤d.safe.length∧q=d.safe.length-a∧d.safe.length-a≤k∧accE.length≤a∧accI.length≤a∧
 accE++(refLoadF k (d.safe.drop a) a).1=(refLoadR d).1∧accI++(refLoadF k (d.safe.drop a) a).2.1=(refLoadR d).2.1∧(refLoadF k (d.safe.drop a) a).2.2=(refLoadR d).2.2∧
 st.s 5=.c (.str d.safe.flatten)∧st.s 9=.c (.raw (.int .i64 a))∧Fresh st.H st.T∧
 ((st.s 7=.c (.raw (.slice none 0 0))∧st.s 8=.c (.raw (.slice none 0 0))∧accE=[]∧accI=[])∨
  ∃g h,st.s 7=.c (.so g 0 accE.length)∧st.s 8=.c (.so h 0 accI.length)∧st.H g=.arr 48 13 false (rowsE accE)∧st.H h=.arr 3 1 false (rowsE accI))
theorem refLoad_l0 {Q:AEx→St→Prop} {st:St} (d:DiskV) (hs:secs d.safe) (hl:d.safe.length<1000) (k1:st.s 1=.c (.pt (0,1) 0 0)) (k5:st.s 5=.c (.str [])) (k6:st.s 6=.c (.raw (.int .i64 0)))
  (hH:st.H (0,1)=.arr 30 2 false [[.sl .brw false (rowsE d.safe),.sl .brw false (rowsE d.wait)]]) (hf:Fresh st.H st.T)
  (hn:∀st',st'.s 5=.c (.str d.safe.flatten)→Fresh st'.H st'.T→Q (.exit 0) st') :
  awpS Tryz.prog FJ4 (.loop s25L0) Q st:=by
 refine loop_c (RefLoadI d) d.safe.length ⟨0,by omega,rfl,k1,by simpa using k5,k6,hH,hf⟩ ?_
 rintro q st ⟨i,hi,rfl,k1,k5,k6,hH,hf⟩ J hJ
 have hfu:∀k d,st.T≤k→st.H (k,d)=.unborn:=hf
 by_cases hlt:i<d.safe.length
 ·have hlt':(i:Int)<d.safe.length:=by omega
  have hw:IntKind.wrap .i64 ((i:Int)+1)=((i+1:Nat):Int):=by rw [wrap64_id]<;>omega
  have hfl:(d.safe.take i).flatten.length=32*i:=by
   rw [flat32 fun x hx=>hs x (List.mem_of_mem_take hx),List.length_take,Nat.min_eq_left hi]
  have h32:d.safe[i].length=32:=hs _ (List.getElem_mem hlt)
  generalize hX:(d.safe.take i).flatten=X at k5 hfl
  have hle:X.length+d.safe[i].length≤9223372036854775807:=by omega
  simp -implicitDefEqProofs (maxSteps:=400000) (maxDischargeDepth:=6) [s25L0,k1,k5,k6,hH,hlt,hlt',hw,hle]
  refine ⟨d.safe.length-(i+1),by omega,hJ _ _ ⟨i+1,by omega,rfl,by simp -implicitDefEqProofs (maxSteps:=400000) (maxDischargeDepth:=6) [k1],?_,by simp -implicitDefEqProofs (maxSteps:=400000) (maxDischargeDepth:=6),by simpa using hH,by simp -implicitDefEqProofs (maxSteps:=400000) (maxDischargeDepth:=6);exact hf.mono (by omega)⟩⟩
  rw [←List.take_append_getElem hlt,List.flatten_append,hX]
  simp -implicitDefEqProofs (maxSteps:=400000) (maxDischargeDepth:=6)
 ·have hlt':¬(i:Int)<d.safe.length:=by omega
  have hi2:i=d.safe.length:=by omega
  simp -implicitDefEqProofs (maxSteps:=400000) (maxDischargeDepth:=6) [s25L0,k1,k5,k6,hH,hlt,hlt']
  refine hn _ ?_ (by simp -implicitDefEqProofs (maxSteps:=400000) (maxDischargeDepth:=6);exact hf.mono (by omega))
  simp -implicitDefEqProofs (maxSteps:=400000) (maxDischargeDepth:=6) [k5]
  rw [hi2,List.take_length]
theorem refLoad_ev (d:DiskV) (hs:secs d.safe) (hl:d.safe.length<1000) (hw:d.wait.length<1000000):PEv Tryz.prog 25 [Arg.enc d] (refLoadAV (refLoadR d)):=by
 refine tells_of mixed FJ4_ok Tryz.func25 sl25 ok25 (by kernel_rfl) (by simp -implicitDefEqProofs (maxSteps:=400000) (maxDischargeDepth:=6) [refLoadAV]) (by simp -implicitDefEqProofs (maxSteps:=400000) (maxDischargeDepth:=6)) ?_
 simp -implicitDefEqProofs (maxSteps:=400000) (maxDischargeDepth:=6) [s25]
 refine refLoad_l0 d hs hl (by simp -implicitDefEqProofs (maxSteps:=400000) (maxDischargeDepth:=6)) (by simp -implicitDefEqProofs (maxSteps:=400000) (maxDischargeDepth:=6)) (by simp -implicitDefEqProofs (maxSteps:=400000) (maxDischargeDepth:=6)) (by simp -implicitDefEqProofs (maxSteps:=400000) (maxDischargeDepth:=6)) (by simp -implicitDefEqProofs (maxSteps:=400000) (maxDischargeDepth:=6);(repeat' (first|exact fresh_no.mono (Nat.zero_le _)|(refine Fresh.set' ?_ (by simp))))) ?_
 intro st k5 hf
 simp -implicitDefEqProofs (maxSteps:=400000) (maxDischargeDepth:=6)
 refine loop_c (RefLoadJ d) d.safe.length ⟨0,d.safe.length,[],[],by omega,rfl,by omega,by simp -implicitDefEqProofs (maxSteps:=400000) (maxDischargeDepth:=6),by simp -implicitDefEqProofs (maxSteps:=400000) (maxDischargeDepth:=6),by simp -implicitDefEqProofs (maxSteps:=400000) (maxDischargeDepth:=6) [refLoadR],by simp -implicitDefEqProofs (maxSteps:=400000) (maxDischargeDepth:=6) [refLoadR],by simp -implicitDefEqProofs (maxSteps:=400000) (maxDischargeDepth:=6) [refLoadR],by simp -implicitDefEqProofs (maxSteps:=400000) (maxDischargeDepth:=6) [k5],by simp -implicitDefEqProofs (maxSteps:=400000) (maxDischargeDepth:=6),by simp -implicitDefEqProofs (maxSteps:=400000) (maxDischargeDepth:=6);exact hf.mono (by omega),.inl ⟨by simp -implicitDefEqProofs (maxSteps:=400000) (maxDischargeDepth:=6),by simp -implicitDefEqProofs (maxSteps:=400000) (maxDischargeDepth:=6),rfl,rfl⟩⟩ ?_
 rintro q st ⟨a,k,accE,accI,ha,rfl,hk,hlE,hlI,hr1,hr2,hr3,k5,k9,hf,hown⟩ J hJ
 have hfu:∀k d,st.T≤k→st.H (k,d)=.unborn:=hf
 have hs2:secs (d.safe.drop a):=fun x hx=>hs x (List.mem_of_mem_drop hx)
 have hfl:d.safe.flatten.length=32*d.safe.length:=flat32 hs
 have hdr:d.safe.flatten.drop (32*a)=(d.safe.drop a).flatten:=(flatten_drop hs a).symm
 have hfl2:(d.safe.drop a).flatten.length=32*(d.safe.length-a):=by rw [flat32 hs2,List.length_drop]
 have w1:IntKind.wrap .i64 ((a:Int)*32)=((32*a:Nat):Int):=by rw [wrap64_id]<;>omega
 have hle:((32*a:Nat):Int)≤d.safe.flatten.length:=by omega
 have hle':32*a≤d.safe.flatten.length:=by omega
 have hl5:(d.safe.drop a).flatten.length<100000:=by omega
 obtain ⟨b,hb⟩:∃b,32*a=b:=⟨_,rfl⟩
 obtain ⟨S,hS⟩:∃S,S=d.safe.flatten:=⟨_,rfl⟩
 rw [←hS] at hle hle' hdr hfl k5
 rw [hb] at w1 hle hle' hdr
 rcases hx:refTakeE (d.safe.drop a).flatten with ⟨e,n,ok⟩
 rw [←hdr] at hl5
 have hx':=hx
 rw [←hdr] at hx'
 have gt:∀t:Nat,t<10→∀d,10≤d→(t=d)=False:=fun t ht d hd=>by simp -implicitDefEqProofs (maxSteps:=400000) (maxDischargeDepth:=6);omega
 have hn:ok=true→1≤n∧a+n≤d.safe.length:=fun hok=>by
  rw [refTakeE_first hs2] at hx
  split at hx
  ·rename_i hf1
   have:=firstR_ok hf1
   rw [hx] at this
   simp only at this
   have h3:(((d.safe.drop a).take 23).flatten).length≤32*(d.safe.length-a):=by
    rw [flat32 fun x hx=>hs2 x (List.mem_of_mem_take hx),List.length_take,List.length_drop]
    omega
   omega
  ·cases hx;cases hok
 have hacc:accE.length<1000000:=by omega
 refine seq_c (fun st'=>st'.s 12=.c (.raw (.bool ok))∧st'.s 11=.c (.raw (.int .i64 n))∧(∃v,st'.s 10=.c (.pt v 0 0)∧st'.H v=.arr 48 13 false [entRow .old e])∧(∀t,t<10→st'.s t=st.s t)∧ExtH [] st.H st.T st'.H st'.T) ?_ ?_
 ·intro R' hR
  have hl5':S.length-b<100000:=by simpa using hl5
  simp -implicitDefEqProofs (maxSteps:=400000) (maxDischargeDepth:=6) [k5,k9,w1,hle,hle',hl5',hx',firstAV,entRow,opRow,hfu]
  refine hR _ ⟨by simp -implicitDefEqProofs (maxSteps:=400000) (maxDischargeDepth:=6),by simp -implicitDefEqProofs (maxSteps:=400000) (maxDischargeDepth:=6),⟨(st.T,10),by simp -implicitDefEqProofs (maxSteps:=400000) (maxDischargeDepth:=6),by simp -implicitDefEqProofs (maxSteps:=400000) (maxDischargeDepth:=6) [entRow,opRow]⟩,fun t ht=>by simp -implicitDefEqProofs (maxSteps:=400000) (maxDischargeDepth:=6) [gt t ht],?_⟩
  have he:=ExtH.refl (S:=[]) hf
  repeat' (first|exact he.tick (by first|omega|(simp<;>omega))|(refine ExtH.new ?_ (by first|omega|(simp<;>omega)) (by first|omega|(simp<;>omega)))|(refine ExtH.set ?_ (by simp) (by first|omega|(simp<;>omega))))
 rintro st2 ⟨k12,k11,⟨v,k10,hv⟩,hs3,he⟩
 have q7:=hs3 7 (by omega)
 have q8:=hs3 8 (by omega)
 have q9:=(hs3 9 (by omega)).trans k9
 have q5:=(hs3 5 (by omega)).trans k5
 have hf2:=he.fresh
 have hfu2:∀k d,st2.T≤k→st2.H (k,d)=.unborn:=hf2
 have hown2:(st2.s 7=.c (.raw (.slice none 0 0))∧st2.s 8=.c (.raw (.slice none 0 0))∧accE=[]∧accI=[])∨
  ∃g h,st2.s 7=.c (.so g 0 accE.length)∧st2.s 8=.c (.so h 0 accI.length)∧st2.H g=.arr 48 13 false (rowsE accE)∧st2.H h=.arr 3 1 false (rowsE accI):=by
  rcases hown with ⟨a,b,c,d⟩|⟨g,h,a,b,c,d⟩
  ·exact .inl ⟨q7.trans a,q8.trans b,c,d⟩
  ·exact .inr ⟨g,h,q7.trans a,q8.trans b,he.arr c (by simp -implicitDefEqProofs (maxSteps:=400000) (maxDischargeDepth:=6)),he.arr d (by simp -implicitDefEqProofs (maxSteps:=400000) (maxDischargeDepth:=6))⟩
 clear hown q7 q8 hs3 hfu k9 k5 hf
 cases ok
 ·have hz:refLoadF k (d.safe.drop a) a=([],[],a):=by
   cases k with
   |zero=>rfl
   |succ k=>rw [refLoadF,hx];simp -implicitDefEqProofs (maxSteps:=400000) (maxDischargeDepth:=6)
  rw [hz] at hr1 hr2 hr3
  simp -implicitDefEqProofs (maxSteps:=400000) (maxDischargeDepth:=6) at hr1 hr2 hr3
  have hav:refLoadAV (refLoadR d)=.t [(false,[.nw 48 13 (rowsE accE)]),(false,[.nw 3 1 (rowsE accI)]),(false,[.raw (.int .i64 a)])]:=by rw [refLoadAV,←hr1,←hr2,←hr3]
  rw [hav]
  rcases hown2 with ⟨q7,q8,rfl,rfl⟩|⟨g,h,q7,q8,hg,hh⟩
  ·simp -implicitDefEqProofs (maxSteps:=400000) (maxDischargeDepth:=6) [k12,q7,q8,q9]
  ·have n1:(g=h)=False:=by simp -implicitDefEqProofs (maxSteps:=400000) (maxDischargeDepth:=6);rintro rfl;rw [hg] at hh;simp -implicitDefEqProofs (maxSteps:=400000) (maxDischargeDepth:=6) at hh
   have n2:(h=g)=False:=by simp -implicitDefEqProofs (maxSteps:=400000) (maxDischargeDepth:=6);rintro rfl;rw [hg] at hh;simp -implicitDefEqProofs (maxSteps:=400000) (maxDischargeDepth:=6) at hh
   simp -implicitDefEqProofs (maxSteps:=400000) (maxDischargeDepth:=6) [k12,q7,q8,q9,hg,hh,n1,n2]
 obtain ⟨hn1,hn2⟩:=hn rfl
 obtain ⟨k,rfl⟩:∃j,k=j+1:=⟨k-1,by omega⟩
 rw [refLoadF,hx] at hr1 hr2 hr3
 simp only [if_true] at hr1 hr2 hr3
 rw [List.drop_drop] at hr1 hr2 hr3
 have w2:IntKind.wrap .i64 ((a:Int)+n)=((a+n:Nat):Int):=by rw [wrap64_id]<;>omega
 have gt13:∀t,t<13→∀d,13≤d→(t=d)=False:=fun t ht d hd=>by simp -implicitDefEqProofs (maxSteps:=400000) (maxDischargeDepth:=6);omega
 refine seq_c (fun st'=>(∀t,t<13→st'.s t=st2.s t)∧st'.H=st2.H∧st2.T≤st'.T) ?_ ?_
 ·intro R' hR
  simp -implicitDefEqProofs (maxSteps:=400000) (maxDischargeDepth:=6) [k12]
  exact hR _ ⟨fun t ht=>by simp -implicitDefEqProofs (maxSteps:=400000) (maxDischargeDepth:=6) [gt13 t ht],by simp -implicitDefEqProofs (maxSteps:=400000) (maxDischargeDepth:=6),by simp -implicitDefEqProofs (maxSteps:=400000) (maxDischargeDepth:=6)⟩
 rintro st3 ⟨hs3,hH3,hT3⟩
 have k10:=(hs3 10 (by omega)).trans k10
 have k11:=(hs3 11 (by omega)).trans k11
 have q9:=(hs3 9 (by omega)).trans q9
 have q5:=(hs3 5 (by omega)).trans q5
 have hf3:Fresh st3.H st3.T:=by rw [hH3];exact hf2.mono hT3
 rw [←hH3] at hv hown2
 have hfu:∀k d,st3.T≤k→st3.H (k,d)=.unborn:=hf3
 obtain ⟨p1,p2,p3⟩:=hf3.arr hv
 have lE:(accE++[e]).length≤a+n:=by simp -implicitDefEqProofs (maxSteps:=400000) (maxDischargeDepth:=6);omega
 have lI:(accI++[(a:Int)]).length≤a+n:=by simp -implicitDefEqProofs (maxSteps:=400000) (maxDischargeDepth:=6);omega
 have hfin:∀st':St,st'.s 5=.c (.str d.safe.flatten)→st'.s 9=.c (.raw (.int .i64 ((a+n:Nat):Int)))→Fresh st'.H st'.T→
   (∃g h,st'.s 7=.c (.so g 0 (accE++[e]).length)∧st'.s 8=.c (.so h 0 (accI++[(a:Int)]).length)∧st'.H g=.arr 48 13 false (rowsE (accE++[e]))∧st'.H h=.arr 3 1 false (rowsE (accI++[(a:Int)])))→∃m,m<d.safe.length-a∧J m st':=
  fun st' h5 h9 hf ho=>⟨d.safe.length-(a+n),by omega,hJ _ _ ⟨a+n,k,accE++[e],accI++[(a:Int)],hn2,rfl,by omega,lE,lI,by rw [List.append_assoc];exact hr1,by rw [List.append_assoc];exact hr2,hr3,h5,h9,hf,.inr ho⟩⟩
 rw [hS] at q5
 rcases hown2 with ⟨q7,q8,rfl,rfl⟩|⟨g,h,q7,q8,hg,hh⟩
 ·have q7:=(hs3 7 (by omega)).trans q7
  have q8:=(hs3 8 (by omega)).trans q8
  simp -implicitDefEqProofs (maxSteps:=400000) (maxDischargeDepth:=6) [q7,q8,q9,k10,k11,hv,entRow,opRow,hfu,p1,p2,w2]
  refine hfin _ (by simp -implicitDefEqProofs (maxSteps:=400000) (maxDischargeDepth:=6) [q5]) (by simp -implicitDefEqProofs (maxSteps:=400000) (maxDischargeDepth:=6)) (by simp -implicitDefEqProofs (maxSteps:=400000) (maxDischargeDepth:=6);have hf:=hf3;repeat' (first|exact hf.mono (by first|omega|(simp<;>omega))|(refine Fresh.set' ?_ (by first|omega|(simp<;>omega))))) ⟨(st3.T,44),(st3.T,48),by simp -implicitDefEqProofs (maxSteps:=400000) (maxDischargeDepth:=6),by simp -implicitDefEqProofs (maxSteps:=400000) (maxDischargeDepth:=6),?_,?_⟩
  ·simp -implicitDefEqProofs (maxSteps:=400000) (maxDischargeDepth:=6)
   rfl
  ·simp -implicitDefEqProofs (maxSteps:=400000) (maxDischargeDepth:=6)
   rfl
 ·have q7:=(hs3 7 (by omega)).trans q7
  have q8:=(hs3 8 (by omega)).trans q8
  obtain ⟨p4,p5,p6⟩:=hf3.arr hg
  obtain ⟨p7,p8,p9⟩:=hf3.arr hh
  have n1:(g=h)=False:=by simp -implicitDefEqProofs (maxSteps:=400000) (maxDischargeDepth:=6);rintro rfl;rw [hg] at hh;simp -implicitDefEqProofs (maxSteps:=400000) (maxDischargeDepth:=6) at hh
  have n2:(h=g)=False:=by simp -implicitDefEqProofs (maxSteps:=400000) (maxDischargeDepth:=6);rintro rfl;rw [hg] at hh;simp -implicitDefEqProofs (maxSteps:=400000) (maxDischargeDepth:=6) at hh
  simp -implicitDefEqProofs (maxSteps:=400000) (maxDischargeDepth:=6) [q7,q8,q9,k10,k11,hv,hg,hh,entRow,opRow,hfu,p1,p2,p4,p5,p7,p8,n1,n2,w2]
  refine ⟨⟨by omega,by omega⟩,⟨by omega,by omega⟩,hfin _ (by simp -implicitDefEqProofs (maxSteps:=400000) (maxDischargeDepth:=6) [q5]) (by simp -implicitDefEqProofs (maxSteps:=400000) (maxDischargeDepth:=6)) ?_ ⟨(st3.T,44),(st3.T,48),by simp -implicitDefEqProofs (maxSteps:=400000) (maxDischargeDepth:=6),by simp -implicitDefEqProofs (maxSteps:=400000) (maxDischargeDepth:=6),by simp -implicitDefEqProofs (maxSteps:=400000) (maxDischargeDepth:=6) [rowsE,entRow,opRow,p4,p5,p7,p8],by simp -implicitDefEqProofs (maxSteps:=400000) (maxDischargeDepth:=6) [rowsE,p4,p5,p7,p8]⟩⟩
  simp -implicitDefEqProofs (maxSteps:=400000) (maxDischargeDepth:=6)
  have hf:=hf3
  repeat' (first|exact hf.mono (by first|omega|(simp<;>omega))|(refine Fresh.set' ?_ (by first|omega|(simp<;>omega))))
def FJ5_h25:List AV→Option (Prop×AV):=t1 (fun d=>secs d.safe∧d.safe.length<1000∧d.wait.length<1000000) fun d:DiskV=>refLoadAV (refLoadR d)
@[simp] theorem FJ5_ap25 {l:List AV}:FJ5_h25 l=(t1 (fun d=>secs d.safe∧d.safe.length<1000∧d.wait.length<1000000) fun d:DiskV=>refLoadAV (refLoadR d)) l:=rfl
def FJ5:CT:=(25,.pu FJ5_h25)::FJ4
theorem FJ5_ok:CTok Tryz.prog FJ5:=⟨tells1 fun d h=>refLoad_ev d h.1 h.2.1 h.2.2,FJ4_ok⟩
@[simp] theorem FJ5_get25:ctGet FJ5 25=some (.pu FJ5_h25):=rfl
@[simp] theorem FJ5_skip {n:Nat} (h:(n==25)=false):ctGet FJ5 n=ctGet FJ4 n:=by
 simp only [Bool.or_eq_false_iff,beq_eq_false_iff_ne,ne_eq] at h
 simp [FJ5,ctGet,h]
end Go.AE
set_option linter.unusedVariables false
set_option linter.unusedSimpArgs false
set_option maxHeartbeats 2000000
namespace Go.AE
open Go
theorem mayB_put {d:DiskV} (h:mayB d=true) {n:Int} {s:List UInt8} (hs:s.length=32) (h0:0≤n) (h1:n<d.safe.length) (h2:d.wait.length<400):mayB ⟨d.safe,d.wait++[⟨n,s⟩]⟩=true∧putR d n s=(⟨d.safe,d.wait++[⟨n,s⟩]⟩,0):=by
 constructor
 ·simp only [mayB,Bool.and_eq_true,decide_eq_true_eq,List.all_append,List.length_append,List.length_cons,List.length_nil] at h ⊢
  obtain ⟨⟨⟨⟨a1,a2⟩,a3⟩,a4⟩,a5⟩:=h
  refine ⟨⟨⟨⟨a1,a2⟩,by omega⟩,a4⟩,a5,?_⟩
  simp [badSect,hs,isSec]
  omega
 ·rw [putR,if_neg (by simp [h,hs]),if_neg (by omega),if_neg (by omega)]
def wsF (B:List UInt8) (at_:Int) (i k:Nat):List Sect:=(List.range k).map fun j=>⟨at_+((i+j:Nat):Int),sect B (i+j)⟩
theorem wsF_cons (B:List UInt8) (at_:Int) (i k:Nat):wsF B at_ i (k+1)=⟨at_+(i:Int),sect B i⟩::wsF B at_ (i+1) k:=by
 simp only [wsF,List.range_succ_eq_map,List.map_cons,List.map_map,Nat.add_zero]
 congr 1
 apply List.map_congr_left
 intro j _
 simp only [Function.comp,Nat.succ_eq_add_one]
 rw [show i+(j+1)=i+1+j by omega]
theorem wsF_snoc (B:List UInt8) (at_:Int) (k:Nat):wsF B at_ 0 (k+1)=wsF B at_ 0 k++[⟨at_+(k:Int),sect B k⟩]:=by
 simp [wsF,List.range_succ]
theorem wsF_len (B:List UInt8) (at_:Int) (i k:Nat):(wsF B at_ i k).length=k:=by simp [wsF]
theorem sect_len {B:List UInt8} {i:Nat} (h:32*(i+1)≤B.length):(sect B i).length=32:=by
 simp only [sect,List.length_take,List.length_drop]
 omega
theorem appF_ok {B:List UInt8} {at_:Int} (h0:0≤at_):∀(k i:Nat) (d:DiskV),mayB d=true→at_+((i+k:Nat):Int)≤d.safe.length→32*(i+k)≤B.length→d.wait.length+k≤400→appF B at_ k i d=(⟨d.safe,d.wait++wsF B at_ i k⟩,0)∧mayB ⟨d.safe,d.wait++wsF B at_ i k⟩=true
 |0,i,d,hm,h1,h2,h3=>by
  simp [appF,wsF]
  exact hm
 |k+1,i,d,hm,h1,h2,h3=>by
  obtain ⟨m1,m2⟩:=mayB_put hm (n:=at_+(i:Int)) (s:=sect B i) (sect_len (by omega)) (by omega) (by omega) (by omega)
  have ih:=appF_ok (B:=B) h0 k (i+1) ⟨d.safe,d.wait++[⟨at_+(i:Int),sect B i⟩]⟩ m1 (by simp only;omega) (by omega) (by simp;omega)
  rw [appF,m2,if_pos rfl,ih.1,wsF_cons]
  simp only [List.append_assoc,List.singleton_append] at ih ⊢
  exact ⟨trivial,ih.2⟩
theorem appF_full {B:List UInt8} {at_:Int} (h0:0≤at_):∀(k i:Nat) (d:DiskV),mayB d=true→at_+((i+k:Nat):Int)≤d.safe.length→32*(i+k)≤B.length→400<d.wait.length+k→appF B at_ k i d=(noD,6)
 |0,i,d,hm,h1,h2,h3=>by have:=mayB_wait hm;omega
 |k+1,i,d,hm,h1,h2,h3=>by
  by_cases h4:d.wait.length=400
  ·have hp:putR d (at_+(i:Int)) (sect B i)=(⟨[],[]⟩,6):=by
    rw [putR,if_neg (by simp [hm,sect_len (B:=B) (i:=i) (by omega)]),if_neg (by omega),if_pos (by omega)]
   rw [appF,hp,if_neg (by simp)]
  ·have:=mayB_wait hm
   obtain ⟨m1,m2⟩:=mayB_put hm (n:=at_+(i:Int)) (s:=sect B i) (sect_len (by omega)) (by omega) (by omega) (by omega)
   rw [appF,m2,if_pos rfl]
   exact appF_full (B:=B) h0 k (i+1) _ m1 (by simp only;omega) (by omega) (by simp;omega)
def refAppR (d:DiskV) (at_:Int) (e:EntryV):DiskV×Int×Int:=
 if (framedR e).2=0 then
  if (d.safe.length:Int)<at_∨(d.safe.length:Int)-at_<((framedR e).1.length/32:Nat)∨(400:Int)-d.wait.length<((framedR e).1.length/32:Nat) then (noD,0,6)
  else (⟨d.safe,d.wait++wsF (framedR e).1 at_ 0 ((framedR e).1.length/32)⟩,at_+((framedR e).1.length/32:Nat),0)
 else (noD,0,2)
theorem refAppR_eq {d:DiskV} {at_:Int} {e:EntryV} (hm:mayB d=true) (he:entMayB e=true) (h0:0≤at_):refAppR d at_ e=appendR d at_ e:=by
 unfold refAppR appendR
 rw [if_pos (show mayB d=true∧entMayB e=true∧0≤at_ from ⟨hm,he,h0⟩)]
 by_cases hf:(framedR e).2=0
 ·obtain ⟨f1,f2,f3⟩:=framedR_ok hf
  rw [if_pos hf,if_pos hf]
  generalize (framedR e).1.length/32=n at f1 f2 f3
  have hw:=mayB_wait hm
  by_cases h1:(n:Int)>(d.safe.length:Int)-min at_ (d.safe.length:Int)
  ·rw [if_pos h1,if_pos (by omega)]
  ·rw [if_neg h1]
   by_cases h2:d.wait.length+n≤400
   ·obtain ⟨a1,a2⟩:=appF_ok (B:=(framedR e).1) h0 n 0 d hm (by omega) (by omega) h2
    rw [if_neg (by omega),a1,if_pos rfl]
   ·have a1:=appF_full (B:=(framedR e).1) h0 n 0 d hm (by omega) (by omega) (by omega)
    rw [if_pos (by omega),a1,if_neg (by simp)]
 ·rw [if_neg hf,if_neg hf]
  congr 2
  unfold framedR at hf ⊢
  split at hf
  ·rename_i h7;rw [if_pos h7]
  ·exact absurd rfl hf
end Go.AE
set_option linter.unusedVariables false
set_option linter.unusedSimpArgs false
set_option maxHeartbeats 4000000
set_option maxRecDepth 100000
namespace Go.AE
open Go Go.Proofs
def DiskAt (H:Heap) (v:Id) (d:DiskV):Prop:=H v=.arr 30 2 false [[.sl .brw false (rowsE d.safe),.sl .brw false (rowsE d.wait)]]∨
 ∃j1 j2,j1≠j2∧H v=.arr 30 2 false [[.so j1 0 d.safe.length,.so j2 0 d.wait.length]]∧H j1=.arr 9 1 false (rowsE d.safe)∧H j2=.arr 88 2 false (rowsE d.wait)
def ApB (at_:Int) (st:St):Prop:=st.s 1=.c (.raw (.int .i64 at_))∧st.s 3=.c (.pt (0,3) 0 0)∧st.s 6=.c (.pt (0,6) 0 0)∧st.H (0,6)=.arr 30 2 false [[.raw (.slice none 0 0),.raw (.slice none 0 0)]]∧Fresh st.H st.T
def RefAppI (d:DiskV) (at_:Int) (b:List UInt8) (n:Nat) (q:Nat) (st:St):Prop:=∃i:Nat,i≤n∧q=n-i∧ApB at_ st∧st.s 9=.c (.str b)∧st.s 11=.c (.raw (.int .i64 n))∧st.s 12=.c (.raw (.int .i64 i))∧
 DiskAt st.H (0,3) ⟨d.safe,d.wait++wsF b at_ 0 i⟩∧(0<i→∃j1 j2,st.H (0,3)=.arr 30 2 false [[.so j1 0 d.safe.length,.so j2 0 (d.wait++wsF b at_ 0 i).length]])
theorem refPutR_ok {d:DiskV} {n:Int} {s:List UInt8} (h0:0≤n) (h1:n<d.safe.length) (h2:d.wait.length<400):refPutR d n s=(⟨d.safe,d.wait++[⟨n,s⟩]⟩,0):=by
 rw [refPutR,if_neg (by omega),if_neg (by omega)]
theorem refApp_l0 {Q:AEx→St→Prop} {st:St} (d:DiskV) (at_:Int) (b:List UInt8) (n:Nat) (h0:0≤at_) (h1:at_+n≤d.safe.length) (hl:d.safe.length≤400) (h2:d.wait.length+n≤400) (hb:b.length=32*n) (hB:ApB at_ st) (k9:st.s 9=.c (.str b)) (k11:st.s 11=.c (.raw (.int .i64 n))) (k12:st.s 12=.c (.raw (.int .i64 0)))
  (hD:DiskAt st.H (0,3) d)
  (hn:∀st',ApB at_ st'→st'.s 11=.c (.raw (.int .i64 n))→DiskAt st'.H (0,3) ⟨d.safe,d.wait++wsF b at_ 0 n⟩→(0<n→∃j1 j2,st'.H (0,3)=.arr 30 2 false [[.so j1 0 d.safe.length,.so j2 0 (d.wait++wsF b at_ 0 n).length]])→Q (.exit 0) st') :
  awpS Tryz.prog FJ5 (.loop s28L0) Q st:=by
 refine loop_c (RefAppI d at_ b n) n ⟨0,by omega,rfl,hB,k9,k11,k12,by simpa [wsF] using hD,by simp -implicitDefEqProofs (maxSteps:=400000) (maxDischargeDepth:=6)⟩ ?_
 rintro q st ⟨i,hi,rfl,⟨q1,q3,q6,hH6,hf⟩,q9,q11,q12,hD,hso⟩ J hJ
 have hfu:∀k d,st.T≤k→st.H (k,d)=.unborn:=hf
 by_cases hlt:i<n
 ·have hlt':(i:Int)<n:=by omega
  have w1:IntKind.wrap .i64 (at_+i)=at_+i:=by rw [wrap64_id]<;>omega
  have w2:IntKind.wrap .i64 ((i:Int)*32)=((32*i:Nat):Int):=by rw [wrap64_id]<;>omega
  have w3:IntKind.wrap .i64 ((i:Int)+1)=((i+1:Nat):Int):=by rw [wrap64_id]<;>omega
  have w4:IntKind.wrap .i64 (((i:Int)+1)*32)=((32*i+32:Nat):Int):=by rw [wrap64_id]<;>omega
  obtain ⟨lo,hlo⟩:∃x,x=32*i:=⟨_,rfl⟩
  obtain ⟨hi2,hhi⟩:∃x,x=32*i+32:=⟨_,rfl⟩
  rw [←hlo] at w2
  rw [←hhi] at w4
  have w5:lo≤hi2:=by omega
  have w6:hi2≤b.length:=by omega
  have hsec:(b.take hi2).drop lo=sect b i:=by
   rw [sect,List.drop_take,←hlo,hhi,hlo]
   congr 1
   omega
  obtain ⟨W,hW⟩:∃W,W=d.wait++wsF b at_ 0 i:=⟨_,rfl⟩
  have hWl:W.length=d.wait.length+i:=by rw [hW,List.length_append,wsF_len]
  have hW2:W++[⟨at_+(i:Int),sect b i⟩]=d.wait++wsF b at_ 0 (i+1):=by rw [hW,wsF_snoc];simp -implicitDefEqProofs (maxSteps:=400000) (maxDischargeDepth:=6)
  rw [←hW] at hD hso
  have b1:d.safe.length<1000000:=by omega
  have b2:W.length<1000000:=by omega
  have hp:refPutR ⟨d.safe,W⟩ (at_+(i:Int)) (sect b i)=(⟨d.safe,W++[⟨at_+(i:Int),sect b i⟩]⟩,0):=refPutR_ok (by omega) (by simp only;omega) (by simp only;omega)
  have hWW:(d.wait++wsF b at_ 0 (i+1)).length=W.length+1:=by rw [←hW2];simp -implicitDefEqProofs (maxSteps:=400000) (maxDischargeDepth:=6)
  have fin:∀st':St,ApB at_ st'→st'.s 9=.c (.str b)→st'.s 11=.c (.raw (.int .i64 n))→st'.s 12=.c (.raw (.int .i64 ((i+1:Nat):Int)))→(∃j1 j2,j1≠j2∧st'.H (0,3)=.arr 30 2 false [[.so j1 0 d.safe.length,.so j2 0 (W.length+1)]]∧st'.H j1=.arr 9 1 false (rowsE d.safe)∧st'.H j2=.arr 88 2 false (rowsE (W++[⟨at_+(i:Int),sect b i⟩])))→
    ∃m,m<n-i∧J m st':=by
   rintro st' a1 a2 a3 a4 ⟨j1,j2,b1,b2,b3,b4⟩
   rw [hW2] at b4
   exact ⟨n-(i+1),by omega,hJ _ _ ⟨i+1,by omega,rfl,a1,a2,a3,a4,.inr ⟨j1,j2,b1,by rw [hWW];exact b2,b3,b4⟩,fun _=>⟨j1,j2,by rw [hWW];exact b2⟩⟩⟩
  rcases hD with hH3|⟨j1,j2,hjj,hH3,hj1,hj2⟩
  ·obtain ⟨p1,p2,p3⟩:=hf.arr hH3
   obtain ⟨p4,p5,p6⟩:=hf.arr hH6
   simp -implicitDefEqProofs (maxSteps:=400000) (maxDischargeDepth:=6) [s28L0,q1,q3,q6,q9,q11,q12,hH6,hH3,hlt',w1,w2,w3,w4,w5,w6,b1,b2,hsec,hp,diskE,diskNw,hfu,p1,p2,p4,p5]
   refine fin _ ⟨by simp -implicitDefEqProofs (maxSteps:=400000) (maxDischargeDepth:=6) [q1],by simp -implicitDefEqProofs (maxSteps:=400000) (maxDischargeDepth:=6) [q3],by simp -implicitDefEqProofs (maxSteps:=400000) (maxDischargeDepth:=6) [q6],by simp -implicitDefEqProofs (maxSteps:=400000) (maxDischargeDepth:=6) [hH6,p1,p2,p4,p5,Nat.le_add_right_of_le],?_⟩ (by simp -implicitDefEqProofs (maxSteps:=400000) (maxDischargeDepth:=6) [q9]) (by simp -implicitDefEqProofs (maxSteps:=400000) (maxDischargeDepth:=6) [q11]) (by simp -implicitDefEqProofs (maxSteps:=400000) (maxDischargeDepth:=6)) ⟨(st.T+1,66560),(st.T+1,66561),by simp -implicitDefEqProofs (maxSteps:=400000) (maxDischargeDepth:=6),by simp -implicitDefEqProofs (maxSteps:=400000) (maxDischargeDepth:=6) [p1,p2,Nat.le_add_right_of_le],by simp -implicitDefEqProofs (maxSteps:=400000) (maxDischargeDepth:=6) [p1,p2,Nat.le_add_right_of_le],by simp -implicitDefEqProofs (maxSteps:=400000) (maxDischargeDepth:=6) [p1,p2,Nat.le_add_right_of_le]⟩
   simp -implicitDefEqProofs (maxSteps:=400000) (maxDischargeDepth:=6)
   repeat' (first|exact hf.mono (by first|omega|(simp<;>omega))|(refine Fresh.set' ?_ (by first|omega|(simp<;>omega))))
  ·obtain ⟨p1,p2,p3⟩:=hf.arr hH3
   obtain ⟨p4,p5,p6⟩:=hf.arr hH6
   obtain ⟨p7,p8,p9⟩:=hf.arr hj1
   obtain ⟨p10,p11,p12⟩:=hf.arr hj2
   simp -implicitDefEqProofs (maxSteps:=400000) (maxDischargeDepth:=6) [s28L0,q1,q3,q6,q9,q11,q12,hH6,hH3,hj1,hj2,hlt',w1,w2,w3,w4,w5,w6,b1,b2,hsec,hp,diskE,diskNw,hfu,p1,p2,p4,p5]
   refine fin _ ⟨by simp -implicitDefEqProofs (maxSteps:=400000) (maxDischargeDepth:=6) [q1],by simp -implicitDefEqProofs (maxSteps:=400000) (maxDischargeDepth:=6) [q3],by simp -implicitDefEqProofs (maxSteps:=400000) (maxDischargeDepth:=6) [q6],by simp -implicitDefEqProofs (maxSteps:=400000) (maxDischargeDepth:=6) [hH6,p1,p2,p4,p5,Nat.le_add_right_of_le],?_⟩ (by simp -implicitDefEqProofs (maxSteps:=400000) (maxDischargeDepth:=6) [q9]) (by simp -implicitDefEqProofs (maxSteps:=400000) (maxDischargeDepth:=6) [q11]) (by simp -implicitDefEqProofs (maxSteps:=400000) (maxDischargeDepth:=6)) ⟨(st.T+1,66560),(st.T+1,66561),by simp -implicitDefEqProofs (maxSteps:=400000) (maxDischargeDepth:=6),by simp -implicitDefEqProofs (maxSteps:=400000) (maxDischargeDepth:=6) [p1,p2,Nat.le_add_right_of_le],by simp -implicitDefEqProofs (maxSteps:=400000) (maxDischargeDepth:=6) [p1,p2,Nat.le_add_right_of_le],by simp -implicitDefEqProofs (maxSteps:=400000) (maxDischargeDepth:=6) [p1,p2,Nat.le_add_right_of_le]⟩
   simp -implicitDefEqProofs (maxSteps:=400000) (maxDischargeDepth:=6)
   repeat' (first|exact hf.mono (by first|omega|(simp<;>omega))|(refine Fresh.set' ?_ (by first|omega|(simp<;>omega))))
 ·have hin:i=n:=by omega
  subst hin
  have hlt':¬(i:Int)<i:=by omega
  simp -implicitDefEqProofs (maxSteps:=400000) (maxDischargeDepth:=6) [s28L0,q1,q3,q6,q9,q11,q12]
  exact hn _ ⟨by simp -implicitDefEqProofs (maxSteps:=400000) (maxDischargeDepth:=6) [q1],by simp -implicitDefEqProofs (maxSteps:=400000) (maxDischargeDepth:=6) [q3],by simp -implicitDefEqProofs (maxSteps:=400000) (maxDischargeDepth:=6) [q6],by simpa using hH6,by simp -implicitDefEqProofs (maxSteps:=400000) (maxDischargeDepth:=6);exact hf.mono (by omega)⟩ (by simp -implicitDefEqProofs (maxSteps:=400000) (maxDischargeDepth:=6) [q11]) (by simpa using hD) (by simpa using hso)
theorem refAppend_ev (d:DiskV) (at_:Int) (e:EntryV) (hm:mayB d=true) (he:okF e) (h0:0≤at_) (h1:at_<9223372036854775808) :
  PEv Tryz.prog 28 [Arg.enc d,.c (.raw (.int .i64 at_)),Arg.enc e] (appendAV (refAppR d at_ e)):=by
 refine tells_of mixed FJ5_ok Tryz.func28 sl28 ok28 (by kernel_rfl) (by simp -implicitDefEqProofs (maxSteps:=400000) (maxDischargeDepth:=6) [appendAV,diskNw]) (by simp -implicitDefEqProofs (maxSteps:=400000) (maxDischargeDepth:=6) [entRow,opRow]) ?_
 obtain ⟨_,_,hl400⟩:=mayB_secs hm
 have hw400:=mayB_wait hm
 have hno:∀c:Int,refAppR d at_ e=(noD,0,c)→∀st',(st'.s 6=.c (.pt (0,6) 0 0)∧st'.H (0,6)=.arr 30 2 false [[.raw (.slice none 0 0),.raw (.slice none 0 0)]]∧st'.s 7=.c (.raw (.int .i64 0))∧st'.s 8=.c (.raw (.int .i64 c)))→finK Tryz.prog Tryz.f28 (appendAV (refAppR d at_ e)) .ret st':=by
  rintro c hR st' ⟨h6,hH,h7,h8⟩
  rw [hR]
  simp -implicitDefEqProofs (maxSteps:=400000) (maxDischargeDepth:=6) [h6,hH,h7,h8,appendAV,noD,diskNw]
 refine seq_c (fun st'=>ApB at_ st'∧st'.s 5=.c (.pt (0,5) 0 0)∧st'.H (0,5)=.arr 48 13 false [entRow .brw e]∧DiskAt st'.H (0,3) d) ?_ ?_
 ·intro R' hR
  simp -implicitDefEqProofs (maxSteps:=400000) (maxDischargeDepth:=6) [entRow,opRow]
  exact hR _ ⟨⟨by simp -implicitDefEqProofs (maxSteps:=400000) (maxDischargeDepth:=6),by simp -implicitDefEqProofs (maxSteps:=400000) (maxDischargeDepth:=6),by simp -implicitDefEqProofs (maxSteps:=400000) (maxDischargeDepth:=6),by simp -implicitDefEqProofs (maxSteps:=400000) (maxDischargeDepth:=6),by simp -implicitDefEqProofs (maxSteps:=400000) (maxDischargeDepth:=6);(repeat' (first|exact fresh_no.mono (Nat.zero_le _)|(refine Fresh.set' ?_ (by simp))))⟩,by simp -implicitDefEqProofs (maxSteps:=400000) (maxDischargeDepth:=6),by simp -implicitDefEqProofs (maxSteps:=400000) (maxDischargeDepth:=6) [entRow,opRow],.inl (by simp -implicitDefEqProofs (maxSteps:=400000) (maxDischargeDepth:=6))⟩
 rintro st ⟨⟨q1,q3,q6,hH6,hf⟩,q5,hH5,hD⟩
 have hR1:refAppR d at_ e=if (framedR e).2=0 then
  if (d.safe.length:Int)<at_∨(d.safe.length:Int)-at_<((framedR e).1.length/32:Nat)∨(400:Int)-d.wait.length<((framedR e).1.length/32:Nat) then (noD,0,6)
  else (⟨d.safe,d.wait++wsF (framedR e).1 at_ 0 ((framedR e).1.length/32)⟩,at_+((framedR e).1.length/32:Nat),0)
 else (noD,0,2):=rfl
 have hfk:=@framedR_ok e
 have hb:∃b ok,refBytesAV e=.t [(false,[.str b]),(false,[.raw (.bool ok)])]∧(ok=true→framedR e=(b,0))∧(ok=false→(framedR e).2=2):=by
  by_cases h7:700<(plainN e).length
  ·exact ⟨[],false,by rw [refBytesAV,refBytesR,if_pos h7],by simp -implicitDefEqProofs (maxSteps:=400000) (maxDischargeDepth:=6),fun _=>by rw [framedR,if_pos h7]⟩
  ·exact ⟨_,true,by rw [refBytesAV,refBytesR,if_neg h7],fun _=>by rw [framedR,if_neg h7],by simp -implicitDefEqProofs (maxSteps:=400000) (maxDischargeDepth:=6)⟩
 obtain ⟨b,ok,hb1,hb2,hb3⟩:=hb
 refine seq_c (fun st'=>ApB at_ st'∧DiskAt st'.H (0,3) d∧st'.s 9=.c (.str b)∧st'.s 10=.c (.raw (.bool ok))) ?_ ?_
 ·intro R' hR
  simp -implicitDefEqProofs (maxSteps:=400000) (maxDischargeDepth:=6) [q5,hH5,entRow,opRow,he,hb1]
  exact hR _ ⟨⟨by simp -implicitDefEqProofs (maxSteps:=400000) (maxDischargeDepth:=6) [q1],by simp -implicitDefEqProofs (maxSteps:=400000) (maxDischargeDepth:=6) [q3],by simp -implicitDefEqProofs (maxSteps:=400000) (maxDischargeDepth:=6) [q6],by simpa using hH6,by simp -implicitDefEqProofs (maxSteps:=400000) (maxDischargeDepth:=6);exact hf.mono (by omega)⟩,by simpa using hD,by simp -implicitDefEqProofs (maxSteps:=400000) (maxDischargeDepth:=6),by simp -implicitDefEqProofs (maxSteps:=400000) (maxDischargeDepth:=6)⟩
 clear q1 q3 q6 hH6 hf q5 hH5 hD
 rintro st ⟨⟨q1,q3,q6,hH6,hf⟩,hD,q9,q10⟩
 cases ok
 ·rw [if_neg (by rw [hb3 rfl];simp -implicitDefEqProofs (maxSteps:=400000) (maxDischargeDepth:=6))] at hR1
  refine seq_r _ ?_ (hno 2 hR1)
  intro R' hR
  simp -implicitDefEqProofs (maxSteps:=400000) (maxDischargeDepth:=6) [q6,q10,hH6]
  exact hR _ ⟨by simp -implicitDefEqProofs (maxSteps:=400000) (maxDischargeDepth:=6) [q6],by simp -implicitDefEqProofs (maxSteps:=400000) (maxDischargeDepth:=6),by simp -implicitDefEqProofs (maxSteps:=400000) (maxDischargeDepth:=6),by simp -implicitDefEqProofs (maxSteps:=400000) (maxDischargeDepth:=6)⟩
 have hfr:=hb2 rfl
 obtain ⟨f1,f2,f3⟩:=hfk (by rw [hfr])
 rw [if_pos (by rw [hfr])] at hR1
 rw [hfr] at hR1 f1 f2 f3
 simp only at hR1 f1 f2 f3
 obtain ⟨n,hn⟩:∃n,b.length/32=n:=⟨_,rfl⟩
 rw [hn] at hR1 f1 f2 f3
 refine seq_c (fun st'=>ApB at_ st'∧DiskAt st'.H (0,3) d∧st'.s 9=.c (.str b)) ?_ ?_
 ·intro R' hR
  simp -implicitDefEqProofs (maxSteps:=400000) (maxDischargeDepth:=6) [q10]
  exact hR _ ⟨⟨by simp -implicitDefEqProofs (maxSteps:=400000) (maxDischargeDepth:=6) [q1],by simp -implicitDefEqProofs (maxSteps:=400000) (maxDischargeDepth:=6) [q3],by simp -implicitDefEqProofs (maxSteps:=400000) (maxDischargeDepth:=6) [q6],by simpa using hH6,by simp -implicitDefEqProofs (maxSteps:=400000) (maxDischargeDepth:=6);exact hf.mono (by omega)⟩,by simpa using hD,by simp -implicitDefEqProofs (maxSteps:=400000) (maxDischargeDepth:=6) [q9]⟩
 clear q1 q3 q6 hH6 hf hD q9 q10
 rintro st ⟨⟨q1,q3,q6,hH6,hf⟩,hD,q9⟩
 have w0:(b.length:Int).tdiv 32=(n:Int):=by rw [Int.tdiv_eq_ediv_of_nonneg (by omega)];omega
 have w1:IntKind.wrap .i64 (n:Int)=n:=by rw [wrap64_id]<;>omega
 refine seq_c (fun st'=>ApB at_ st'∧DiskAt st'.H (0,3) d∧st'.s 9=.c (.str b)∧st'.s 11=.c (.raw (.int .i64 n))) ?_ ?_
 ·intro R' hR
  simp -implicitDefEqProofs (maxSteps:=400000) (maxDischargeDepth:=6) [q9,w0,w1]
  exact hR _ ⟨⟨by simp -implicitDefEqProofs (maxSteps:=400000) (maxDischargeDepth:=6) [q1],by simp -implicitDefEqProofs (maxSteps:=400000) (maxDischargeDepth:=6) [q3],by simp -implicitDefEqProofs (maxSteps:=400000) (maxDischargeDepth:=6) [q6],by simpa using hH6,by simp -implicitDefEqProofs (maxSteps:=400000) (maxDischargeDepth:=6);exact hf.mono (by omega)⟩,by simpa using hD,by simp -implicitDefEqProofs (maxSteps:=400000) (maxDischargeDepth:=6) [q9],by simp -implicitDefEqProofs (maxSteps:=400000) (maxDischargeDepth:=6)⟩
 clear q1 q3 q6 hH6 hf hD q9
 rintro st ⟨⟨q1,q3,q6,hH6,hf⟩,hD,q9,q11⟩
 have w3:IntKind.wrap .i64 ((400:Int)-d.wait.length)=(400:Int)-d.wait.length:=by rw [wrap64_id]<;>omega
 have w2:IntKind.wrap .i64 ((d.safe.length:Int)-at_)=(d.safe.length:Int)-at_:=by rw [wrap64_id]<;>omega
 by_cases c1:(d.safe.length:Int)<at_
 ·rw [if_pos (.inl c1)] at hR1
  refine seq_r _ ?_ (hno 6 hR1)
  intro R' hR
  rcases hD with hH3|⟨j1,j2,hjj,hH3,hj1,hj2⟩
  ·simp -implicitDefEqProofs (maxSteps:=400000) (maxDischargeDepth:=6) [q1,q3,q6,q11,hH6,hH3,c1]
   exact hR _ ⟨by simp -implicitDefEqProofs (maxSteps:=400000) (maxDischargeDepth:=6) [q6],by simp -implicitDefEqProofs (maxSteps:=400000) (maxDischargeDepth:=6),by simp -implicitDefEqProofs (maxSteps:=400000) (maxDischargeDepth:=6),by simp -implicitDefEqProofs (maxSteps:=400000) (maxDischargeDepth:=6)⟩
  ·simp -implicitDefEqProofs (maxSteps:=400000) (maxDischargeDepth:=6) [q1,q3,q6,q11,hH6,hH3,hj1,hj2,c1]
   exact hR _ ⟨by simp -implicitDefEqProofs (maxSteps:=400000) (maxDischargeDepth:=6) [q6],by simp -implicitDefEqProofs (maxSteps:=400000) (maxDischargeDepth:=6),by simp -implicitDefEqProofs (maxSteps:=400000) (maxDischargeDepth:=6),by simp -implicitDefEqProofs (maxSteps:=400000) (maxDischargeDepth:=6)⟩
 by_cases c2:(d.safe.length:Int)-at_<n
 ·rw [if_pos (.inr (.inl c2))] at hR1
  refine seq_r _ ?_ (hno 6 hR1)
  intro R' hR
  rcases hD with hH3|⟨j1,j2,hjj,hH3,hj1,hj2⟩
  ·simp -implicitDefEqProofs (maxSteps:=400000) (maxDischargeDepth:=6) [q1,q3,q6,q11,hH6,hH3,c1,c2,w2]
   exact hR _ ⟨by simp -implicitDefEqProofs (maxSteps:=400000) (maxDischargeDepth:=6) [q6],by simp -implicitDefEqProofs (maxSteps:=400000) (maxDischargeDepth:=6),by simp -implicitDefEqProofs (maxSteps:=400000) (maxDischargeDepth:=6),by simp -implicitDefEqProofs (maxSteps:=400000) (maxDischargeDepth:=6)⟩
  ·simp -implicitDefEqProofs (maxSteps:=400000) (maxDischargeDepth:=6) [q1,q3,q6,q11,hH6,hH3,hj1,hj2,c1,c2,w2]
   exact hR _ ⟨by simp -implicitDefEqProofs (maxSteps:=400000) (maxDischargeDepth:=6) [q6],by simp -implicitDefEqProofs (maxSteps:=400000) (maxDischargeDepth:=6),by simp -implicitDefEqProofs (maxSteps:=400000) (maxDischargeDepth:=6),by simp -implicitDefEqProofs (maxSteps:=400000) (maxDischargeDepth:=6)⟩
 by_cases c3:(400:Int)-d.wait.length<n
 ·rw [if_pos (.inr (.inr c3))] at hR1
  refine seq_r _ ?_ (hno 6 hR1)
  intro R' hR
  rcases hD with hH3|⟨j1,j2,hjj,hH3,hj1,hj2⟩
  ·simp -implicitDefEqProofs (maxSteps:=400000) (maxDischargeDepth:=6) [q1,q3,q6,q11,hH6,hH3,c1,c2,c3,w2,w3]
   exact hR _ ⟨by simp -implicitDefEqProofs (maxSteps:=400000) (maxDischargeDepth:=6) [q6],by simp -implicitDefEqProofs (maxSteps:=400000) (maxDischargeDepth:=6),by simp -implicitDefEqProofs (maxSteps:=400000) (maxDischargeDepth:=6),by simp -implicitDefEqProofs (maxSteps:=400000) (maxDischargeDepth:=6)⟩
  ·simp -implicitDefEqProofs (maxSteps:=400000) (maxDischargeDepth:=6) [q1,q3,q6,q11,hH6,hH3,hj1,hj2,c1,c2,c3,w2,w3]
   exact hR _ ⟨by simp -implicitDefEqProofs (maxSteps:=400000) (maxDischargeDepth:=6) [q6],by simp -implicitDefEqProofs (maxSteps:=400000) (maxDischargeDepth:=6),by simp -implicitDefEqProofs (maxSteps:=400000) (maxDischargeDepth:=6),by simp -implicitDefEqProofs (maxSteps:=400000) (maxDischargeDepth:=6)⟩
 rw [if_neg (by omega)] at hR1
 refine seq_c (fun st'=>ApB at_ st'∧DiskAt st'.H (0,3) d∧st'.s 9=.c (.str b)∧st'.s 11=.c (.raw (.int .i64 n))) ?_ ?_
 ·intro R' hR
  rcases hD with hH3|⟨j1,j2,hjj,hH3,hj1,hj2⟩
  ·simp -implicitDefEqProofs (maxSteps:=400000) (maxDischargeDepth:=6) [q1,q3,q6,q11,hH3,c1,c2,c3,w2,w3]
   exact hR _ ⟨⟨by simp -implicitDefEqProofs (maxSteps:=400000) (maxDischargeDepth:=6) [q1],by simp -implicitDefEqProofs (maxSteps:=400000) (maxDischargeDepth:=6) [q3],by simp -implicitDefEqProofs (maxSteps:=400000) (maxDischargeDepth:=6) [q6],by simpa using hH6,by simp -implicitDefEqProofs (maxSteps:=400000) (maxDischargeDepth:=6);exact hf.mono (by omega)⟩,.inl (by simpa using hH3),by simp -implicitDefEqProofs (maxSteps:=400000) (maxDischargeDepth:=6) [q9],by simp -implicitDefEqProofs (maxSteps:=400000) (maxDischargeDepth:=6) [q11]⟩
  ·simp -implicitDefEqProofs (maxSteps:=400000) (maxDischargeDepth:=6) [q1,q3,q6,q11,hH3,hj1,hj2,c1,c2,c3,w2,w3]
   exact hR _ ⟨⟨by simp -implicitDefEqProofs (maxSteps:=400000) (maxDischargeDepth:=6) [q1],by simp -implicitDefEqProofs (maxSteps:=400000) (maxDischargeDepth:=6) [q3],by simp -implicitDefEqProofs (maxSteps:=400000) (maxDischargeDepth:=6) [q6],by simpa using hH6,by simp -implicitDefEqProofs (maxSteps:=400000) (maxDischargeDepth:=6);exact hf.mono (by omega)⟩,.inr ⟨j1,j2,hjj,by simpa using hH3,by simpa using hj1,by simpa using hj2⟩,by simp -implicitDefEqProofs (maxSteps:=400000) (maxDischargeDepth:=6) [q9],by simp -implicitDefEqProofs (maxSteps:=400000) (maxDischargeDepth:=6) [q11]⟩
 clear q1 q3 q6 hH6 hf hD q9 q11
 rintro st ⟨⟨q1,q3,q6,hH6,hf⟩,hD,q9,q11⟩
 simp -implicitDefEqProofs (maxSteps:=400000) (maxDischargeDepth:=6)
 refine refApp_l0 d at_ b n h0 (by omega) hl400 (by omega) (by omega) ⟨by simp -implicitDefEqProofs (maxSteps:=400000) (maxDischargeDepth:=6) [q1],by simp -implicitDefEqProofs (maxSteps:=400000) (maxDischargeDepth:=6) [q3],by simp -implicitDefEqProofs (maxSteps:=400000) (maxDischargeDepth:=6) [q6],by simpa using hH6,by simp -implicitDefEqProofs (maxSteps:=400000) (maxDischargeDepth:=6);exact hf.mono (by omega)⟩ (by simp -implicitDefEqProofs (maxSteps:=400000) (maxDischargeDepth:=6) [q9]) (by simp -implicitDefEqProofs (maxSteps:=400000) (maxDischargeDepth:=6) [q11]) (by simp -implicitDefEqProofs (maxSteps:=400000) (maxDischargeDepth:=6)) (by simpa using hD) ?_
 clear q1 q3 q6 hH6 hf hD q9 q11
 rintro st ⟨q1,q3,q6,hH6,hf⟩ q11 hD hso
 obtain ⟨i1,i2,hso⟩:=hso (by omega)
 rw [hR1]
 have w4:IntKind.wrap .i64 (at_+n)=at_+n:=by rw [wrap64_id]<;>omega
 rcases hD with hH3|⟨j1,j2,hjj,hH3,hj1,hj2⟩
 ·rw [hH3] at hso;simp -implicitDefEqProofs (maxSteps:=400000) (maxDischargeDepth:=6) at hso
 ·obtain ⟨W,hW⟩:∃W,W=d.wait++wsF b at_ 0 n:=⟨_,rfl⟩
  rw [←hW] at hH3 hj2 ⊢
  have n1:((0,6)=j1)=False:=by simp -implicitDefEqProofs (maxSteps:=400000) (maxDischargeDepth:=6);rintro rfl;rw [hH6] at hj1;simp -implicitDefEqProofs (maxSteps:=400000) (maxDischargeDepth:=6) at hj1
  have n2:((0,6)=j2)=False:=by simp -implicitDefEqProofs (maxSteps:=400000) (maxDischargeDepth:=6);rintro rfl;rw [hH6] at hj2;simp -implicitDefEqProofs (maxSteps:=400000) (maxDischargeDepth:=6) at hj2
  have n3:(j1=(0,6))=False:=by simp -implicitDefEqProofs (maxSteps:=400000) (maxDischargeDepth:=6);rintro rfl;rw [hH6] at hj1;simp -implicitDefEqProofs (maxSteps:=400000) (maxDischargeDepth:=6) at hj1
  have n4:(j2=(0,6))=False:=by simp -implicitDefEqProofs (maxSteps:=400000) (maxDischargeDepth:=6);rintro rfl;rw [hH6] at hj2;simp -implicitDefEqProofs (maxSteps:=400000) (maxDischargeDepth:=6) at hj2
  simp -implicitDefEqProofs (maxSteps:=400000) (maxDischargeDepth:=6) [q1,q3,q6,q11,hH6,hH3,hj1,hj2,w4,appendAV,diskNw,n1,n2,n3,n4]
  exact hjj
end Go.AE
set_option linter.unusedVariables false
set_option linter.unusedSimpArgs false
set_option maxHeartbeats 4000000
set_option maxRecDepth 100000
namespace Go.AE
open Go Go.Proofs
theorem crashGo_ones2:∀(l:List Sect) (n i:Nat) (safe:List (List UInt8)),i+l.length≤n→crashGo (List.replicate n 1) i safe l=syncGo safe l
 |[],_,_,_,_=>rfl
 |w::r,n,i,safe,h=>by
  have hk:keepAt (List.replicate n 1) i=1:=by
   unfold keepAt
   have:i<n:=by simp -implicitDefEqProofs (maxSteps:=400000) (maxDischargeDepth:=6) at h;omega
   simp -implicitDefEqProofs (maxSteps:=400000) (maxDischargeDepth:=6) [List.getD,this]
  rw [crashGo,syncGo,crashGo_ones2 r n (i+1) _ (by simp -implicitDefEqProofs (maxSteps:=400000) (maxDischargeDepth:=6) at h;omega),hk]
  rfl
theorem syncR_may2 {d:DiskV} (h:mayB d=true):syncR d=(⟨syncGo d.safe d.wait,[]⟩,0):=by
 rw [syncR,crashR,if_pos h,crashGo_ones2 _ _ _ _ (by omega)]
theorem cleanF_skip {at_:Int}:∀(l:List (List UInt8)) (i k:Nat) (d:DiskV),(i+k:Nat)≤at_→cleanF at_ l i d=cleanF at_ (l.drop k) (i+k) d
 |l,i,0,d,_=>rfl
 |[],i,k+1,d,_=>by simp -implicitDefEqProofs (maxSteps:=400000) (maxDischargeDepth:=6) [cleanF]
 |s::l,i,k+1,d,h=>by
  rw [cleanF,if_pos (.inl (by omega)),cleanF_skip l (i+1) k d (by omega),List.drop_succ_cons,show i+1+k=i+(k+1) by omega]
theorem putR_ref {d:DiskV} {n:Int} {s:List UInt8} (hm:mayB d=true) (hs:s.length=32):putR d n s=refPutR d n s:=by
 rw [putR,refPutR,if_neg (by simp -implicitDefEqProofs (maxSteps:=400000) (maxDischargeDepth:=6) [hm,hs])]
def ClB (st:St):Prop:=st.s 2=.c (.pt (0,2) 0 0)∧st.s 4=.c (.pt (0,4) 0 0)∧st.H (0,4)=.arr 30 2 false [[.raw (.slice none 0 0),.raw (.slice none 0 0)]]∧Fresh st.H st.T
def DiskOwn (H:Heap) (v:Id) (d:DiskV):Prop:=∃j1 j2,j1≠j2∧H v=.arr 30 2 false [[.so j1 0 d.safe.length,.so j2 0 d.wait.length]]∧H j1=.arr 9 1 false (rowsE d.safe)∧H j2=.arr 88 2 false (rowsE d.wait)
def RefClI (d:DiskV) (k:Nat) (q:Nat) (st:St):Prop:=∃(i:Nat) (W:List Sect),(i≤d.safe.length∨i=k)∧q=d.safe.length-i∧ClB st∧st.s 6=.c (.raw (.int .i64 i))∧k≤i∧
 cleanF k (d.safe.drop i) i ⟨d.safe,W⟩=cleanF k d.safe 0 d∧mayB ⟨d.safe,W⟩=true∧DiskOwn st.H (0,2) ⟨d.safe,W⟩
theorem blank_len:blank.length=32:=by decide
theorem refClean_l0 {Q:AEx→St→Prop} {st:St} (d:DiskV) (k:Nat) (hk:k<9223372036854775808) (hm:mayB d=true) (hB:ClB st) (k6:st.s 6=.c (.raw (.int .i64 k))) (hD:DiskOwn st.H (0,2) d)
  (hn:∀st' W,ClB st'→cleanF k d.safe 0 d=(⟨d.safe,W⟩,0)→mayB ⟨d.safe,W⟩=true→DiskOwn st'.H (0,2) ⟨d.safe,W⟩→Q (.exit 0) st')
  (hr:∀st' c,c≠0→cleanF k d.safe 0 d=(noD,c)→st'.s 4=.c (.pt (0,4) 0 0)→st'.H (0,4)=.arr 30 2 false [[.raw (.slice none 0 0),.raw (.slice none 0 0)]]→st'.s 5=.c (.raw (.int .i64 c))→Q .ret st') :
  awpS Tryz.prog FJ5 (.loop s26L0) Q st:=by
 obtain ⟨_,_,hl400⟩:=mayB_secs hm
 refine loop_c (RefClI d k) (d.safe.length-k) ⟨k,d.wait,by omega,rfl,hB,k6,by omega,?_,hm,hD⟩ ?_
 ·have:=cleanF_skip (at_:=(k:Int)) d.safe 0 k d (by omega)
  rw [this]
  simp -implicitDefEqProofs (maxSteps:=400000) (maxDischargeDepth:=6)
 rintro q st ⟨i,W,hi,rfl,⟨q2,q4,hH4,hf⟩,q6,hki,hcl,hmW,j1,j2,hjj,hH2,hj1,hj2⟩ J hJ
 have hfu:∀k d,st.T≤k→st.H (k,d)=.unborn:=hf
 have hi0:(0:Int)≤(i:Int):=by omega
 have hw400:=mayB_wait hmW
 simp only at hw400 hH2 hj1 hj2
 by_cases hlt:i<d.safe.length
 ·have hlt':(i:Int)<d.safe.length:=by omega
  have w3:IntKind.wrap .i64 ((i:Int)+1)=((i+1:Nat):Int):=by rw [wrap64_id]<;>omega
  obtain ⟨p1,p2,p3⟩:=hf.arr hH2
  obtain ⟨p4,p5,p6⟩:=hf.arr hH4
  obtain ⟨p7,p8,p9⟩:=hf.arr hj1
  obtain ⟨p10,p11,p12⟩:=hf.arr hj2
  have b1:d.safe.length<1000000:=by omega
  have b2:W.length<1000000:=by omega
  have h0:¬(i:Int)<k:=by omega
  rw [List.drop_eq_getElem_cons hlt,cleanF] at hcl
  refine seq_c (fun st'=>ClB st'∧st'.s 6=.c (.raw (.int .i64 i))∧st'.H=st.H∧st.T≤st'.T) ?_ ?_
  ·intro R' hR
   simp -implicitDefEqProofs (maxSteps:=400000) (maxDischargeDepth:=6) [q2,q6,hH2,hj1,hlt',hi0]
   exact hR _ ⟨⟨by simp -implicitDefEqProofs (maxSteps:=400000) (maxDischargeDepth:=6) [q2],by simp -implicitDefEqProofs (maxSteps:=400000) (maxDischargeDepth:=6) [q4],by simpa using hH4,by simp -implicitDefEqProofs (maxSteps:=400000) (maxDischargeDepth:=6);exact hf.mono (by omega)⟩,by simp -implicitDefEqProofs (maxSteps:=400000) (maxDischargeDepth:=6) [q6],by simp -implicitDefEqProofs (maxSteps:=400000) (maxDischargeDepth:=6),by simp -implicitDefEqProofs (maxSteps:=400000) (maxDischargeDepth:=6)⟩
  rintro st2 ⟨⟨r2,r4,hH4',hf2⟩,r6,hHe,hTe⟩
  rw [←hHe] at hH2 hj1 hj2
  clear hHe hTe hfu p1 p2 p3 p4 p5 p6 p7 p8 p9 p10 p11 p12 hf q2 q4 q6 hH4
  obtain ⟨p1,p2,p3⟩:=hf2.arr hH2
  obtain ⟨p4,p5,p6⟩:=hf2.arr hH4'
  obtain ⟨p7,p8,p9⟩:=hf2.arr hj1
  obtain ⟨p10,p11,p12⟩:=hf2.arr hj2
  have hfu:∀k d,st2.T≤k→st2.H (k,d)=.unborn:=hf2
  cases c2:decide (d.safe[i]=blank)
  rotate_left
  ·rw [if_pos (Or.inr (of_decide_eq_true c2))] at hcl
   simp -implicitDefEqProofs (maxSteps:=400000) (maxDischargeDepth:=6) [r2,r6,hH2,hj1,hlt,hlt',c2,w3]
   exact ⟨d.safe.length-(i+1),by omega,hJ _ _ ⟨i+1,W,by omega,rfl,⟨by simp -implicitDefEqProofs (maxSteps:=400000) (maxDischargeDepth:=6) [r2],by simp -implicitDefEqProofs (maxSteps:=400000) (maxDischargeDepth:=6) [r4],by simpa using hH4',by simp -implicitDefEqProofs (maxSteps:=400000) (maxDischargeDepth:=6);exact hf2.mono (by omega)⟩,by simp -implicitDefEqProofs (maxSteps:=400000) (maxDischargeDepth:=6),by omega,hcl,hmW,j1,j2,hjj,by simpa using hH2,by simpa using hj1,by simpa using hj2⟩⟩
  rw [if_neg (by have:=of_decide_eq_false c2;simp -implicitDefEqProofs (maxSteps:=400000) (maxDischargeDepth:=6) [h0,this])] at hcl
  rw [putR_ref hmW blank_len] at hcl
  by_cases hful:400≤W.length
  ·have hp:refPutR ⟨d.safe,W⟩ i blank=(⟨[],[]⟩,6):=by rw [refPutR,if_neg (by simp only;omega),if_pos hful]
   rw [hp,if_neg (by simp -implicitDefEqProofs (maxSteps:=400000) (maxDischargeDepth:=6))] at hcl
   simp -implicitDefEqProofs (maxSteps:=400000) (maxDischargeDepth:=6) [r2,r4,r6,hH2,hH4',hj1,hj2,hlt,hlt',c2,hp,b1,b2,diskE,diskNw,hfu,p1,p2,p4,p5,p7,p8,p10,p11,Nat.le_add_right_of_le]
   exact hr _ 6 (by decide) (by rw [←hcl]) (by simp -implicitDefEqProofs (maxSteps:=400000) (maxDischargeDepth:=6) [r4]) (by simp -implicitDefEqProofs (maxSteps:=400000) (maxDischargeDepth:=6) [hH4',p1,p2,p4,p5,Nat.le_add_right_of_le]) (by simp -implicitDefEqProofs (maxSteps:=400000) (maxDischargeDepth:=6))
  ·obtain ⟨m1,m2⟩:=mayB_put hmW (n:=(i:Int)) (s:=blank) blank_len (by omega) (by simp only;omega) (by simp only;omega)
   have hp:refPutR ⟨d.safe,W⟩ i blank=(⟨d.safe,W++[⟨i,blank⟩]⟩,0):=by rw [←putR_ref hmW blank_len];exact m2
   rw [hp,if_pos rfl] at hcl
   simp -implicitDefEqProofs (maxSteps:=400000) (maxDischargeDepth:=6) [r2,r4,r6,hH2,hH4',hj1,hj2,hlt,hlt',c2,hp,b1,b2,diskE,diskNw,hfu,w3,p1,p2,p4,p5,p7,p8,p10,p11,Nat.le_add_right_of_le]
   refine ⟨d.safe.length-(i+1),by omega,hJ _ _ ⟨i+1,W++[⟨i,blank⟩],by omega,rfl,⟨by simp -implicitDefEqProofs (maxSteps:=400000) (maxDischargeDepth:=6) [r2],by simp -implicitDefEqProofs (maxSteps:=400000) (maxDischargeDepth:=6) [r4],by simp -implicitDefEqProofs (maxSteps:=400000) (maxDischargeDepth:=6) [hH4',p1,p2,p4,p5,Nat.le_add_right_of_le],?_⟩,by simp -implicitDefEqProofs (maxSteps:=400000) (maxDischargeDepth:=6),by omega,hcl,m1,(st2.T+1,35840),(st2.T+1,35841),by simp -implicitDefEqProofs (maxSteps:=400000) (maxDischargeDepth:=6),by simp -implicitDefEqProofs (maxSteps:=400000) (maxDischargeDepth:=6) [p1,p2,p4,p5,Nat.le_add_right_of_le],by simp -implicitDefEqProofs (maxSteps:=400000) (maxDischargeDepth:=6) [p1,p2,p4,p5,Nat.le_add_right_of_le],by simp -implicitDefEqProofs (maxSteps:=400000) (maxDischargeDepth:=6) [p1,p2,p4,p5,Nat.le_add_right_of_le]⟩⟩
   simp -implicitDefEqProofs (maxSteps:=400000) (maxDischargeDepth:=6)
   have hf:=hf2
   repeat' (first|exact hf.mono (by first|omega|(simp<;>omega))|(refine Fresh.set' ?_ (by first|omega|(simp<;>omega))))
 ·have hlt':¬(i:Int)<d.safe.length:=by omega
  have hcl2:cleanF k d.safe 0 d=(⟨d.safe,W⟩,0):=by rw [←hcl,List.drop_eq_nil_of_le (by omega),cleanF]
  refine seq_e 0 (fun st'=>ClB st'∧st'.H=st.H) ?_ ?_
  ·intro R' hR
   simp -implicitDefEqProofs (maxSteps:=400000) (maxDischargeDepth:=6) [q2,q6,hH2,hj1,hlt',hi0]
   exact hR _ ⟨⟨by simp -implicitDefEqProofs (maxSteps:=400000) (maxDischargeDepth:=6) [q2],by simp -implicitDefEqProofs (maxSteps:=400000) (maxDischargeDepth:=6) [q4],by simpa using hH4,by simp -implicitDefEqProofs (maxSteps:=400000) (maxDischargeDepth:=6);exact hf.mono (by omega)⟩,by simp -implicitDefEqProofs (maxSteps:=400000) (maxDischargeDepth:=6)⟩
  rintro st2 ⟨hB2,hHe⟩
  exact hn st2 W hB2 hcl2 hmW ⟨j1,j2,hjj,by rw [hHe];exact hH2,by rw [hHe];exact hj1,by rw [hHe];exact hj2⟩
theorem refClean_ev (d:DiskV) (at_:Int) (hm:mayB d=true) (h0:0≤at_) (h1:at_<9223372036854775808) :
  PEv Tryz.prog 26 [Arg.enc d,.c (.raw (.int .i64 at_))] (diskE (cleanR d at_)):=by
 refine tells_of mixed FJ5_ok Tryz.func26 sl26 ok26 (by kernel_rfl) (by simp -implicitDefEqProofs (maxSteps:=400000) (maxDischargeDepth:=6) [diskE,diskNw]) (by simp -implicitDefEqProofs (maxSteps:=400000) (maxDischargeDepth:=6)) ?_
 obtain ⟨k,rfl⟩:∃k:Nat,at_=(k:Int):=⟨at_.toNat,by omega⟩
 obtain ⟨_,_,hl400⟩:=mayB_secs hm
 have hw400:=mayB_wait hm
 have b1:d.safe.length<1000000:=by omega
 have b2:d.wait.length<1000000:=by omega
 have hc:cleanR d k=if (cleanF k d.safe 0 d).2=0 then syncR (cleanF k d.safe 0 d).1 else (noD,(cleanF k d.safe 0 d).2):=by rw [cleanR,if_pos ⟨hm,h0⟩]
 refine seq_c (fun st'=>ClB st'∧st'.s 1=.c (.raw (.int .i64 k))∧st'.H (0,2)=.arr 30 2 false [[.sl .brw false (rowsE d.safe),.sl .brw false (rowsE d.wait)]]) ?_ ?_
 ·intro R' hR
  simp -implicitDefEqProofs (maxSteps:=400000) (maxDischargeDepth:=6)
  exact hR _ ⟨⟨by simp -implicitDefEqProofs (maxSteps:=400000) (maxDischargeDepth:=6),by simp -implicitDefEqProofs (maxSteps:=400000) (maxDischargeDepth:=6),by simp -implicitDefEqProofs (maxSteps:=400000) (maxDischargeDepth:=6),by simp -implicitDefEqProofs (maxSteps:=400000) (maxDischargeDepth:=6);(repeat' (first|exact fresh_no.mono (Nat.zero_le _)|(refine Fresh.set' ?_ (by simp))))⟩,by simp -implicitDefEqProofs (maxSteps:=400000) (maxDischargeDepth:=6),by simp -implicitDefEqProofs (maxSteps:=400000) (maxDischargeDepth:=6)⟩
 rintro st ⟨⟨q2,q4,hH4,hf⟩,q1,hH2⟩
 have hfu:∀k d,st.T≤k→st.H (k,d)=.unborn:=hf
 obtain ⟨p1,p2,p3⟩:=hf.arr hH2
 obtain ⟨p4,p5,p6⟩:=hf.arr hH4
 refine seq_c (fun st'=>ClB st'∧st'.s 1=.c (.raw (.int .i64 k))∧DiskOwn st'.H (0,2) d) ?_ ?_
 ·intro R' hR
  simp -implicitDefEqProofs (maxSteps:=400000) (maxDischargeDepth:=6) [q2,hH2,b1,b2,hfu,diskNw,p1,p2]
  exact hR _ ⟨⟨by simp -implicitDefEqProofs (maxSteps:=400000) (maxDischargeDepth:=6) [q2],by simp -implicitDefEqProofs (maxSteps:=400000) (maxDischargeDepth:=6) [q4],by simp -implicitDefEqProofs (maxSteps:=400000) (maxDischargeDepth:=6) [hH4,p4,p5],by simp -implicitDefEqProofs (maxSteps:=400000) (maxDischargeDepth:=6);repeat' (first|exact hf.mono (by first|omega|(simp<;>omega))|(refine Fresh.set' ?_ (by first|omega|(simp<;>omega))))⟩,by simp -implicitDefEqProofs (maxSteps:=400000) (maxDischargeDepth:=6) [q1],(st.T,11264),(st.T,11265),by simp -implicitDefEqProofs (maxSteps:=400000) (maxDischargeDepth:=6),by simp -implicitDefEqProofs (maxSteps:=400000) (maxDischargeDepth:=6) [p1,p2],by simp -implicitDefEqProofs (maxSteps:=400000) (maxDischargeDepth:=6) [p1,p2],by simp -implicitDefEqProofs (maxSteps:=400000) (maxDischargeDepth:=6) [p1,p2]⟩
 clear q2 q4 hH4 hf q1 hH2 hfu p1 p2 p3 p4 p5 p6
 rintro st ⟨⟨q2,q4,hH4,hf⟩,q1,hD⟩
 simp -implicitDefEqProofs (maxSteps:=400000) (maxDischargeDepth:=6) [q1]
 refine refClean_l0 d k (by omega) hm ⟨by simp -implicitDefEqProofs (maxSteps:=400000) (maxDischargeDepth:=6) [q2],by simp -implicitDefEqProofs (maxSteps:=400000) (maxDischargeDepth:=6) [q4],by simpa using hH4,by simp -implicitDefEqProofs (maxSteps:=400000) (maxDischargeDepth:=6);exact hf.mono (by omega)⟩ (by simp -implicitDefEqProofs (maxSteps:=400000) (maxDischargeDepth:=6)) (by simpa [DiskOwn] using hD) ?_ ?_
 ·clear q2 q4 hH4 hf q1 hD
  rintro st W ⟨q2,q4,hH4,hf⟩ hcl hmW ⟨j1,j2,hjj,hH2,hj1,hj2⟩
  have hfu:∀k d,st.T≤k→st.H (k,d)=.unborn:=hf
  obtain ⟨p4,p5,p6⟩:=hf.arr hH4
  rw [hc,hcl,if_pos rfl]
  simp only
  rw [syncR_may2 hmW]
  simp only at hH2 hj1 hj2 ⊢
  simp -implicitDefEqProofs (maxSteps:=400000) (maxDischargeDepth:=6) [q2,q4,hH2,hH4,hj1,hj2,hmW,hfu,p4,p5,diskE,diskNw]
 ·intro st' c hc0 hcl h4 hH h5
  rw [hc,hcl,if_neg hc0]
  simp -implicitDefEqProofs (maxSteps:=400000) (maxDischargeDepth:=6) [h4,hH,h5,diskE,diskNw,noD]
def FJ6_h28:List AV→Option (Prop×AV):=t3 (fun (d:DiskV) (n:Int) (e:EntryV)=>mayB d=true∧okF e∧0≤n∧n<9223372036854775808) fun (d:DiskV) (n:Int) (e:EntryV)=>appendAV (refAppR d n e)
@[simp] theorem FJ6_ap28 {l:List AV}:FJ6_h28 l=(t3 (fun (d:DiskV) (n:Int) (e:EntryV)=>mayB d=true∧okF e∧0≤n∧n<9223372036854775808) fun (d:DiskV) (n:Int) (e:EntryV)=>appendAV (refAppR d n e)) l:=rfl
def FJ6_h26:List AV→Option (Prop×AV):=t2 (fun (d:DiskV) n=>mayB d=true∧0≤n∧n<9223372036854775808) fun (d:DiskV) (n:Int)=>diskE (cleanR d n)
@[simp] theorem FJ6_ap26 {l:List AV}:FJ6_h26 l=(t2 (fun (d:DiskV) n=>mayB d=true∧0≤n∧n<9223372036854775808) fun (d:DiskV) (n:Int)=>diskE (cleanR d n)) l:=rfl
def FJ6:CT:=(28,.pu FJ6_h28)::(26,.pu FJ6_h26)::FJ5
theorem FJ6_ok:CTok Tryz.prog FJ6:=⟨tells3 fun d n e h=>refAppend_ev d n e h.1 h.2.1 h.2.2.1 h.2.2.2,
 tells2 fun d n h=>refClean_ev d n h.1 h.2.1 h.2.2,FJ5_ok⟩
@[simp] theorem FJ6_get28:ctGet FJ6 28=some (.pu FJ6_h28):=rfl
@[simp] theorem FJ6_get26:ctGet FJ6 26=some (.pu FJ6_h26):=rfl
@[simp] theorem FJ6_skip {n:Nat} (h:(n==28||n==26)=false):ctGet FJ6 n=ctGet FJ5 n:=by
 simp only [Bool.or_eq_false_iff,beq_eq_false_iff_ne,ne_eq] at h
 simp [FJ6,ctGet,h]
end Go.AE
set_option linter.unusedVariables false
set_option linter.unusedSimpArgs false
set_option maxHeartbeats 4000000
set_option maxRecDepth 100000
namespace Go.AE
open Go Go.Proofs
def CopyI {α:Type} [Enc α] (e sz:Nat) (l:List α) (q:Nat) (st:St):Prop:=∃(i:Nat) (c:AC),i≤l.length∧q=l.length-i∧st.s 0=.c (.sl .brw false (rowsE l))∧st.s 3=.c c∧st.s 4=.c (.raw (.int .i64 i))∧Fresh st.H st.T∧OwnL st.H e sz 0 c (l.take i)
theorem copyElems_ev (l:List ElemV) (hl:l.length<1000000):PEv Tryz.prog 66 [.c (.sl .brw false (rowsE l))] (.c (.nw 44 3 (rowsE l))):=by
 refine tells_of mixed (F:=[]) trivial Tryz.func66 sl66 ok66 (by kernel_rfl) (by simp -implicitDefEqProofs (maxSteps:=400000) (maxDischargeDepth:=6)) (by simp -implicitDefEqProofs (maxSteps:=400000) (maxDischargeDepth:=6)) ?_
 simp -implicitDefEqProofs (maxSteps:=400000) (maxDischargeDepth:=6) [s66]
 refine loop_c (CopyI 44 3 l) l.length ⟨0,_,by omega,rfl,by simp -implicitDefEqProofs (maxSteps:=400000) (maxDischargeDepth:=6),by simp -implicitDefEqProofs (maxSteps:=400000) (maxDischargeDepth:=6),by simp -implicitDefEqProofs (maxSteps:=400000) (maxDischargeDepth:=6),by simp -implicitDefEqProofs (maxSteps:=400000) (maxDischargeDepth:=6);exact fresh_no.mono (by omega),.inl ⟨rfl,rfl⟩⟩ ?_
 rintro q st ⟨i,c,hi,rfl,k0,k3,k4,hf,hc⟩ J hJ
 have hfu:∀k d,st.T≤k→st.H (k,d)=.unborn:=hf
 by_cases hlt:i<l.length
 ·have hlt':(i:Int)<l.length:=by omega
  have hw:IntKind.wrap .i64 ((i:Int)+1)=((i+1:Nat):Int):=by rw [wrap64_id]<;>omega
  have ht:l.take (i+1)=l.take i++[l[i]]:=(List.take_append_getElem hlt).symm
  have hti:(l.take i).length=i:=by rw [List.length_take];omega
  rcases hc with ⟨rfl,hc0⟩|⟨g,rfl,hg0,hg⟩
  ·simp -implicitDefEqProofs (maxSteps:=400000) (maxDischargeDepth:=6) [s66L0,k0,k3,k4,hlt,hlt',hw,hfu]
   refine ⟨l.length-(i+1),by omega,hJ _ _ ⟨i+1,.so (st.T+1,17) 0 1,by omega,rfl,by simp -implicitDefEqProofs (maxSteps:=400000) (maxDischargeDepth:=6) [k0],by simp -implicitDefEqProofs (maxSteps:=400000) (maxDischargeDepth:=6),by simp -implicitDefEqProofs (maxSteps:=400000) (maxDischargeDepth:=6),by simp -implicitDefEqProofs (maxSteps:=400000) (maxDischargeDepth:=6);repeat' (first|exact hf.mono (by first|omega|(simp<;>omega))|(refine Fresh.set' ?_ (by first|omega|(simp<;>omega)))),?_⟩⟩
   rw [ht,hc0]
   exact OwnL.so rfl (Nat.zero_le _) (by simp -implicitDefEqProofs (maxSteps:=400000) (maxDischargeDepth:=6) [rowsE])
  ·obtain ⟨f1,f2,f3⟩:=hf.arr hg
   rw [hti] at k3
   simp -implicitDefEqProofs (maxSteps:=400000) (maxDischargeDepth:=6) [s66L0,k0,k3,k4,hlt,hlt',hw,hfu,hg,f1,f2,hti]
   refine ⟨⟨by omega,by omega⟩,l.length-(i+1),by omega,hJ _ _ ⟨i+1,.so (st.T+1,17) 0 (i+1),by omega,rfl,by simp -implicitDefEqProofs (maxSteps:=400000) (maxDischargeDepth:=6) [k0],by simp -implicitDefEqProofs (maxSteps:=400000) (maxDischargeDepth:=6),by simp -implicitDefEqProofs (maxSteps:=400000) (maxDischargeDepth:=6),by simp -implicitDefEqProofs (maxSteps:=400000) (maxDischargeDepth:=6);repeat' (first|exact hf.mono (by first|omega|(simp<;>omega))|(refine Fresh.set' ?_ (by first|omega|(simp<;>omega)))),?_⟩⟩
   rw [ht]
   generalize List.take i l=A at hg hti ⊢
   exact OwnL.so (by simp -implicitDefEqProofs (maxSteps:=400000) (maxDischargeDepth:=6) [hti]) (Nat.zero_le _) (by simp -implicitDefEqProofs (maxSteps:=400000) (maxDischargeDepth:=6) [rowsE])
 ·have hlt':¬(i:Int)<l.length:=by omega
  have hi2:i=l.length:=by omega
  rw [hi2,List.take_length] at hc
  rcases hc with ⟨rfl,rfl⟩|⟨g,rfl,hg0,hg⟩
  ·simp -implicitDefEqProofs (maxSteps:=400000) (maxDischargeDepth:=6) [s66L0,k0,k3,k4,hlt,hlt']
  ·simp -implicitDefEqProofs (maxSteps:=400000) (maxDischargeDepth:=6) [s66L0,k0,k3,k4,hlt,hlt',hg]
def FK0_h66:List AV→Option (Prop×AV):=t1 (fun l=>l.length<1000000) fun l:List ElemV=>.c (.nw 44 3 (rowsE l))
@[simp] theorem FK0_ap66 {l:List AV}:FK0_h66 l=(t1 (fun l=>l.length<1000000) fun l:List ElemV=>.c (.nw 44 3 (rowsE l))) l:=rfl
def FK0:CT:=(66,.pu FK0_h66)::FJ6
theorem FK0_ok:CTok Tryz.prog FK0:=⟨tells1 fun l h=>copyElems_ev l h,FJ6_ok⟩
@[simp] theorem FK0_get66:ctGet FK0 66=some (.pu FK0_h66):=rfl
@[simp] theorem FK0_skip {n:Nat} (h:(n==66)=false):ctGet FK0 n=ctGet FJ6 n:=by
 simp only [Bool.or_eq_false_iff,beq_eq_false_iff_ne,ne_eq] at h
 simp [FK0,ctGet,h]
theorem copyOp_ev (o:OpV) (h:o.gone.length<1000000):PEv Tryz.prog 35 [Arg.enc o] (.g (opRowW (.nw 44 3 (rowsE o.gone)) o)):=by
 refine tells_of mixed FK0_ok Tryz.func35 sl35 ok35 (by kernel_rfl) (by simp -implicitDefEqProofs (maxSteps:=400000) (maxDischargeDepth:=6) [opRowW]) (by simp -implicitDefEqProofs (maxSteps:=400000) (maxDischargeDepth:=6) [opRow]) ?_
 simp -implicitDefEqProofs (maxSteps:=400000) (maxDischargeDepth:=6) [s35,opRow,opRowW,h]
theorem copyOpF_ev (o:OpV) (h:o.gone.length<1000000):PEv Tryz.prog 35 [Arg.enc o] (.g (opRow .old o)):=
 (copyOp_ev o h).frz .old (by simp -implicitDefEqProofs (maxSteps:=400000) (maxDischargeDepth:=6))
def FK1_h35:List AV→Option (Prop×AV):=t1 (fun o=>o.gone.length<1000000) fun o:OpV=>.g (opRow .old o)
@[simp] theorem FK1_ap35 {l:List AV}:FK1_h35 l=(t1 (fun o=>o.gone.length<1000000) fun o:OpV=>.g (opRow .old o)) l:=rfl
def FK1:CT:=(35,.pu FK1_h35)::FK0
theorem FK1_ok:CTok Tryz.prog FK1:=⟨tells1 fun o h=>copyOpF_ev o h,FK0_ok⟩
@[simp] theorem FK1_get35:ctGet FK1 35=some (.pu FK1_h35):=rfl
@[simp] theorem FK1_skip {n:Nat} (h:(n==35)=false):ctGet FK1 n=ctGet FK0 n:=by
 simp only [Bool.or_eq_false_iff,beq_eq_false_iff_ne,ne_eq] at h
 simp [FK1,ctGet,h]
theorem copyEntry_ev (e:EntryV) (h:e.op.gone.length<1000000):PEv Tryz.prog 17 [Arg.enc e] (.g (entRow .old e)):=by
 refine tells_of mixed FK1_ok Tryz.func17 sl17 ok17 (by kernel_rfl) (by simp -implicitDefEqProofs (maxSteps:=400000) (maxDischargeDepth:=6) [entRow,opRow]) (by simp -implicitDefEqProofs (maxSteps:=400000) (maxDischargeDepth:=6) [entRow,opRow]) ?_
 simp -implicitDefEqProofs (maxSteps:=400000) (maxDischargeDepth:=6) [s17,entRow,opRow,h]
def FK2_h17:List AV→Option (Prop×AV):=t1 (fun e=>e.op.gone.length<1000000) fun e:EntryV=>.g (entRow .old e)
@[simp] theorem FK2_ap17 {l:List AV}:FK2_h17 l=(t1 (fun e=>e.op.gone.length<1000000) fun e:EntryV=>.g (entRow .old e)) l:=rfl
def FK2:CT:=(17,.pu FK2_h17)::FK1
theorem FK2_ok:CTok Tryz.prog FK2:=⟨tells1 fun e h=>copyEntry_ev e h,FK1_ok⟩
@[simp] theorem FK2_get17:ctGet FK2 17=some (.pu FK2_h17):=rfl
@[simp] theorem FK2_skip {n:Nat} (h:(n==17)=false):ctGet FK2 n=ctGet FK1 n:=by
 simp only [Bool.or_eq_false_iff,beq_eq_false_iff_ne,ne_eq] at h
 simp [FK2,ctGet,h]
theorem copyEntries_ev (l:List EntryV) (hl:l.length<1000000) (hg:∀e∈l,e.op.gone.length<1000000):PEv Tryz.prog 34 [.c (.sl .brw false (rowsE l))] (.c (.nw 48 13 (rowsE l))):=by
 refine tells_of mixed FK2_ok Tryz.func34 sl34 ok34 (by kernel_rfl) (by simp -implicitDefEqProofs (maxSteps:=400000) (maxDischargeDepth:=6)) (by simp -implicitDefEqProofs (maxSteps:=400000) (maxDischargeDepth:=6)) ?_
 simp -implicitDefEqProofs (maxSteps:=400000) (maxDischargeDepth:=6) [s34]
 refine loop_c (CopyI 48 13 l) l.length ⟨0,_,by omega,rfl,by simp -implicitDefEqProofs (maxSteps:=400000) (maxDischargeDepth:=6),by simp -implicitDefEqProofs (maxSteps:=400000) (maxDischargeDepth:=6),by simp -implicitDefEqProofs (maxSteps:=400000) (maxDischargeDepth:=6),by simp -implicitDefEqProofs (maxSteps:=400000) (maxDischargeDepth:=6);exact fresh_no.mono (by omega),.inl ⟨rfl,rfl⟩⟩ ?_
 rintro q st ⟨i,c,hi,rfl,k0,k3,k4,hf,hc⟩ J hJ
 have hfu:∀k d,st.T≤k→st.H (k,d)=.unborn:=hf
 by_cases hlt:i<l.length
 ·have hlt':(i:Int)<l.length:=by omega
  have hw:IntKind.wrap .i64 ((i:Int)+1)=((i+1:Nat):Int):=by rw [wrap64_id]<;>omega
  have ht:l.take (i+1)=l.take i++[l[i]]:=(List.take_append_getElem hlt).symm
  have hti:(l.take i).length=i:=by rw [List.length_take];omega
  have hge:l[i].op.gone.length<1000000:=hg _ (List.getElem_mem hlt)
  rcases hc with ⟨rfl,hc0⟩|⟨g,rfl,hg0,hg⟩
  ·simp -implicitDefEqProofs (maxSteps:=400000) (maxDischargeDepth:=6) [s34L0,k0,k3,k4,hlt,hlt',hw,hfu,hge,entRow,opRow]
   refine ⟨l.length-(i+1),by omega,hJ _ _ ⟨i+1,.so (st.T+1,18) 0 1,by omega,rfl,by simp -implicitDefEqProofs (maxSteps:=400000) (maxDischargeDepth:=6) [k0],by simp -implicitDefEqProofs (maxSteps:=400000) (maxDischargeDepth:=6),by simp -implicitDefEqProofs (maxSteps:=400000) (maxDischargeDepth:=6),by simp -implicitDefEqProofs (maxSteps:=400000) (maxDischargeDepth:=6);repeat' (first|exact hf.mono (by first|omega|(simp<;>omega))|(refine Fresh.set' ?_ (by first|omega|(simp<;>omega)))),?_⟩⟩
   rw [ht,hc0]
   exact OwnL.so rfl (Nat.zero_le _) (by simp -implicitDefEqProofs (maxSteps:=400000) (maxDischargeDepth:=6) [rowsE,entRow,opRow])
  ·obtain ⟨f1,f2,f3⟩:=hf.arr hg
   rw [hti] at k3
   simp -implicitDefEqProofs (maxSteps:=400000) (maxDischargeDepth:=6) [s34L0,k0,k3,k4,hlt,hlt',hw,hfu,hg,f1,f2,hti,hge,entRow,opRow]
   refine ⟨⟨by omega,by omega⟩,l.length-(i+1),by omega,hJ _ _ ⟨i+1,.so (st.T+1,18) 0 (i+1),by omega,rfl,by simp -implicitDefEqProofs (maxSteps:=400000) (maxDischargeDepth:=6) [k0],by simp -implicitDefEqProofs (maxSteps:=400000) (maxDischargeDepth:=6),by simp -implicitDefEqProofs (maxSteps:=400000) (maxDischargeDepth:=6),by simp -implicitDefEqProofs (maxSteps:=400000) (maxDischargeDepth:=6);repeat' (first|exact hf.mono (by first|omega|(simp<;>omega))|(refine Fresh.set' ?_ (by first|omega|(simp<;>omega)))),?_⟩⟩
   rw [ht]
   generalize List.take i l=A at hg hti ⊢
   exact OwnL.so (by simp -implicitDefEqProofs (maxSteps:=400000) (maxDischargeDepth:=6) [hti]) (Nat.zero_le _) (by simp -implicitDefEqProofs (maxSteps:=400000) (maxDischargeDepth:=6) [rowsE,entRow,opRow])
 ·have hlt':¬(i:Int)<l.length:=by omega
  have hi2:i=l.length:=by omega
  rw [hi2,List.take_length] at hc
  rcases hc with ⟨rfl,rfl⟩|⟨g,rfl,hg0,hg⟩
  ·simp -implicitDefEqProofs (maxSteps:=400000) (maxDischargeDepth:=6) [s34L0,k0,k3,k4,hlt,hlt']
  ·simp -implicitDefEqProofs (maxSteps:=400000) (maxDischargeDepth:=6) [s34L0,k0,k3,k4,hlt,hlt',hg]
def opWeight (o:OpV):Int:=2+((o.text.length/4:Nat):Int)+o.gone.length
theorem opWeight_ev (o:OpV) (h1:o.text.length<4611686018427387904) (h2:o.gone.length<4611686018427387904):PEv Tryz.prog 30 [Arg.enc o] (.c (.raw (.int .i64 (opWeight o)))):=by
 refine tells_of mixed (F:=[]) trivial Tryz.func30 sl30 ok30 (by kernel_rfl) (by simp -implicitDefEqProofs (maxSteps:=400000) (maxDischargeDepth:=6)) (by simp -implicitDefEqProofs (maxSteps:=400000) (maxDischargeDepth:=6) [opRow]) ?_
 obtain ⟨q,hq⟩:∃q,o.text.length/4=q:=⟨_,rfl⟩
 have w0:(o.text.length:Int).tdiv 4=(q:Int):=by rw [Int.tdiv_eq_ediv_of_nonneg (by omega)];omega
 have w1:IntKind.wrap .i64 (q:Int)=q:=by rw [wrap64_id]<;>omega
 have w2:IntKind.wrap .i64 (2+(q:Int))=2+(q:Int):=by rw [wrap64_id]<;>omega
 have w3:IntKind.wrap .i64 (2+(q:Int)+o.gone.length)=2+(q:Int)+o.gone.length:=by rw [wrap64_id]<;>omega
 simp -implicitDefEqProofs (maxSteps:=400000) (maxDischargeDepth:=6) [s30,opRow,w0,w1,w2,w3,opWeight,hq]
end Go.AE
set_option linter.unusedVariables false
set_option linter.unusedSimpArgs false
set_option maxHeartbeats 2000000
set_option maxRecDepth 100000
namespace Go.AE
open Go Go.Proofs
theorem opens_Sect:Opens Sect Tryz.prog 88 (fun s=>s.text.length≤reachBytes):=by
 intro H enc w F fuel cs x hF h
 obtain ⟨xs,n,_,rfl,hl,hlen,hf⟩:=DataW.trod_struct Tryz.underlying88 h
 rw [show Tryz.prog.cellsOf 88=2 from by kernel_rfl] at hl
 match cs,hl,xs,hlen with
 |[c0,c1],_,[x0,x1],_=>
  have h0:=hf 0 _ rfl
  change DataW.trod enc Tryz.prog w 0 _ true _ 3 (List.take (Tryz.prog.cellsOf 3) [c0,c1])=some x0 at h0
  rw [show Tryz.prog.cellsOf 3=1 from by kernel_rfl] at h0
  have h1:=hf 1 _ rfl
  change DataW.trod enc Tryz.prog w 0 _ true _ 9 (List.take (Tryz.prog.cellsOf 9) [c1])=some x1 at h1
  rw [show Tryz.prog.cellsOf 9=1 from by kernel_rfl] at h1
  obtain ⟨a0,_,o0,r0,s0⟩:=opens_int Tryz.underlying3 enc w F n _ _ hF h0
  obtain ⟨a1,_,o1,r1,s1⟩:=opens_str Tryz.underlying9 enc w F n _ _ hF h1
  refine ⟨⟨a0,a1⟩,rfl,?_,?_,fun hw=>?_⟩
  ·intro v hv
   simp -implicitDefEqProofs at hv o0 o1
   rcases hv with rfl|rfl
   ·exact o0
   ·exact o1
  ·intro k c hk
   match k,hk with
   |0,hk=>exact r0 0 c (by simpa using hk)
   |1,hk=>exact r1 0 c (by simpa using hk)
  ·simp only [DataW.weights,Tryz.underlying88,DataW.weightsEach,List.map_cons,List.map_nil,List.append_nil,List.all_append,Bool.and_eq_true] at hw
   exact s1 hw.2
theorem opens_Ints:OpensL Int Tryz.prog 24 (fun l=>l.length*Tryz.prog.bytesOf 3≤reachBytes∧∀a∈l,-9223372036854775808≤a∧a≤9223372036854775807):=
 opens_slice Tryz.underlying24 (opens_int Tryz.underlying3) (by kernel_rfl) (by decide)
theorem opens_Strs:OpensL (List UInt8) Tryz.prog 27 (fun l=>l.length*Tryz.prog.bytesOf 9≤reachBytes∧∀a∈l,a.length≤reachBytes):=
 opens_slice Tryz.underlying27 (opens_str Tryz.underlying9) (by kernel_rfl) (by decide)
theorem opens_Sects:OpensL Sect Tryz.prog 28 (fun l=>l.length*Tryz.prog.bytesOf 88≤reachBytes∧∀a∈l,a.text.length≤reachBytes):=
 opens_slice Tryz.underlying28 opens_Sect (by kernel_rfl) (by decide)
theorem opens_ActD:Opens ActD Tryz.prog 113 (fun a=>a.s.length≤reachBytes∧a.k.length*8≤reachBytes):=by
 intro H enc w F fuel cs x hF h
 obtain ⟨xs,n,_,rfl,hl,hlen,hf⟩:=DataW.trod_struct Tryz.underlying113 h
 rw [show Tryz.prog.cellsOf 113=4 from by kernel_rfl] at hl
 match cs,hl,xs,hlen with
 |[c0,c1,c2,c3],_,[x0,x1,x2,x3],_=>
  have h0:=hf 0 _ rfl
  change DataW.trod enc Tryz.prog w 0 _ true _ 3 (List.take (Tryz.prog.cellsOf 3) [c0,c1,c2,c3])=some x0 at h0
  rw [show Tryz.prog.cellsOf 3=1 from by kernel_rfl] at h0
  have h1:=hf 1 _ rfl
  change DataW.trod enc Tryz.prog w 0 _ true _ 3 (List.take (Tryz.prog.cellsOf 3) [c1,c2,c3])=some x1 at h1
  rw [show Tryz.prog.cellsOf 3=1 from by kernel_rfl] at h1
  have h2:=hf 2 _ rfl
  change DataW.trod enc Tryz.prog w 0 _ true _ 9 (List.take (Tryz.prog.cellsOf 9) [c2,c3])=some x2 at h2
  rw [show Tryz.prog.cellsOf 9=1 from by kernel_rfl] at h2
  have h3:=hf 3 _ rfl
  change DataW.trod enc Tryz.prog w 0 _ true _ 24 (List.take (Tryz.prog.cellsOf 24) [c3])=some x3 at h3
  rw [show Tryz.prog.cellsOf 24=1 from by kernel_rfl] at h3
  obtain ⟨a0,_,o0,r0,s0⟩:=opens_int Tryz.underlying3 enc w F n _ _ hF h0
  obtain ⟨a1,_,o1,r1,s1⟩:=opens_int Tryz.underlying3 enc w F n _ _ hF h1
  obtain ⟨a2,_,o2,r2,s2⟩:=opens_str Tryz.underlying9 enc w F n _ _ hF h2
  obtain ⟨a3,_,o3,r3,s3⟩:=opens_Ints enc w F n _ _ hF h3
  refine ⟨⟨a0,a1,a2,a3⟩,rfl,?_,?_,fun hw=>?_⟩
  ·intro v hv
   simp -implicitDefEqProofs at hv o0 o1 o2 o3
   rcases hv with rfl|rfl|rfl|rfl
   ·exact o0
   ·exact o1
   ·exact o2
   ·exact o3
  ·intro k c hk
   match k,hk with
   |0,hk=>exact r0 0 c (by simpa using hk)
   |1,hk=>exact r1 0 c (by simpa using hk)
   |2,hk=>exact r2 0 c (by simpa using hk)
   |3,hk=>
    simp -implicitDefEqProofs at hk
    subst hk
    exact r3
  ·simp only [DataW.weights,Tryz.underlying113,DataW.weightsEach,List.map_cons,List.map_nil,List.append_nil,List.all_append,Bool.and_eq_true] at hw
   refine ⟨s2 hw.2.2.1,?_⟩
   have:=(s3 hw.2.2.2).1
   rwa [show Tryz.prog.bytesOf 3=8 from by kernel_rfl] at this
theorem opens_Acts:OpensL ActD Tryz.prog 31 (fun l=>l.length*Tryz.prog.bytesOf 113≤reachBytes∧∀a∈l,a.s.length≤reachBytes∧a.k.length*8≤reachBytes):=
 opens_slice Tryz.underlying31 opens_ActD (by kernel_rfl) (by decide)
structure ScriptD where
 d:DiskV
 n:Int
 l:List ActD
def scriptA (p:ScriptD):AV:=.g [.sl .brw false (rowsE p.d.safe),.sl .brw false (rowsE p.d.wait),.raw (.int .i64 p.n),.sl .brw false (rowsE p.l)]
structure ScriptS (p:ScriptD):Prop where
 safe:p.d.safe.length<281474976710656
 wait:p.d.wait.length<281474976710656
 safeS:∀s∈p.d.safe,s.length<281474976710656
 waitS:∀s∈p.d.wait,s.text.length<281474976710656
 acts:p.l.length<2513169434844
 actS:∀a∈p.l,a.s.length<281474976710656∧a.k.length<281474976710656
theorem RelC.brw {w:World} {F:Tag→Nat→Prop} {H:Heap} {ρ:Lies} {cl:Bool} {xs:List (List AC)} {v:Value} (h:RelC w F H ρ (.sl .old cl xs) v) (hF:∀b,F .old b→F .brw b):RelC w F H ρ (.sl .brw cl xs) v:=by
 cases h with
 |slNil _ _ _ h=>exact .slNil _ _ _ h
 |sl _ _ _ b o cap sz vs hb hf hcap hcl hr hcell hone hrel=>exact .sl _ _ _ b o cap sz vs hb (hF b hf) hcap hcl hr hcell hone hrel
theorem opens_Script {H:Type} (enc:TypeId×Value→H) (w:World) (F:Tag→Nat→Prop) (fuel:Nat) (cs:List Value) (x:DataW H×List MemPlace) (hF:∀b,b<w.heap.size→F .old b) (hF2:∀b,F .old b→F .brw b)
  (h:DataW.trod enc Tryz.prog w 0 (fun _=>true) true fuel 33 cs=some x) (hw:(x.1.weights Tryz.prog 33).all (·≤reachBytes)=true) :
  ∃p:ScriptD,ScriptS p∧RelV w F noHeap noLies (scriptA p) (.agg cs.toArray):=by
 obtain ⟨xs,n,_,rfl,hl,hlen,hf⟩:=DataW.trod_struct Tryz.underlying33 h
 rw [show Tryz.prog.cellsOf 33=4 from by kernel_rfl] at hl
 match cs,hl,xs,hlen with
 |[c0,c1,c2,c3],_,[x0,x1,x2],_=>
  have h0:=hf 0 _ rfl
  change DataW.trod enc Tryz.prog w 0 _ true _ 30 (List.take (Tryz.prog.cellsOf 30) [c0,c1,c2,c3])=some x0 at h0
  rw [show Tryz.prog.cellsOf 30=2 from by kernel_rfl] at h0
  have h1:=hf 1 _ rfl
  change DataW.trod enc Tryz.prog w 0 _ true _ 3 (List.take (Tryz.prog.cellsOf 3) [c2,c3])=some x1 at h1
  rw [show Tryz.prog.cellsOf 3=1 from by kernel_rfl] at h1
  have h2:=hf 2 _ rfl
  change DataW.trod enc Tryz.prog w 0 _ true _ 31 (List.take (Tryz.prog.cellsOf 31) [c3])=some x2 at h2
  rw [show Tryz.prog.cellsOf 31=1 from by kernel_rfl] at h2
  obtain ⟨ys,m,_,hx0,hl',hlen',hf'⟩:=DataW.trod_struct Tryz.underlying30 h0
  obtain ⟨a1,_,o1,r1,s1⟩:=opens_int Tryz.underlying3 enc w F n _ _ hF h1
  obtain ⟨a2,_,o2,r2,s2⟩:=opens_Acts enc w F n _ _ hF h2
  match ys,hlen' with
  |[y0,y1],_=>
   have g0:=hf' 0 _ rfl
   change DataW.trod enc Tryz.prog w 0 _ true _ 27 (List.take (Tryz.prog.cellsOf 27) [c0,c1])=some y0 at g0
   rw [show Tryz.prog.cellsOf 27=1 from by kernel_rfl] at g0
   have g1:=hf' 1 _ rfl
   change DataW.trod enc Tryz.prog w 0 _ true _ 28 (List.take (Tryz.prog.cellsOf 28) [c1])=some y1 at g1
   rw [show Tryz.prog.cellsOf 28=1 from by kernel_rfl] at g1
   obtain ⟨b0,_,p0,q0,z0⟩:=opens_Strs enc w F m _ _ hF g0
   obtain ⟨b1,_,p1,q1,z1⟩:=opens_Sects enc w F m _ _ hF g1
   simp only [DataW.weights,Tryz.underlying33,Tryz.underlying30,DataW.weightsEach,List.map_cons,List.map_nil,List.append_nil,List.all_append,Bool.and_eq_true,hx0] at hw
   obtain ⟨⟨w0,w1⟩,_,w2⟩:=hw
   obtain ⟨i0,j0⟩:=z0 w0
   obtain ⟨i1,j1⟩:=z1 w1
   obtain ⟨i2,j2⟩:=s2 w2
   rw [show Tryz.prog.bytesOf 9=16 from by kernel_rfl] at i0
   rw [show Tryz.prog.bytesOf 88=24 from by kernel_rfl] at i1
   rw [show Tryz.prog.bytesOf 113=56 from by kernel_rfl] at i2
   have hr:reachBytes=140737488351232:=rfl
   rw [hr] at i0 i1 i2 j0 j1 j2
   refine ⟨⟨⟨b0,b1⟩,a1,a2⟩,⟨by simp -implicitDefEqProofs;omega,by simp -implicitDefEqProofs;omega,fun s hs=>by have:=j0 s hs;omega,fun s hs=>by have:=j1 s hs;omega,by simp -implicitDefEqProofs;omega,fun a ha=>by have:=j2 a ha;omega⟩,?_⟩
   refine .g _ _ rfl fun k c hk=>?_
   match k,hk with
   |0,hk=>simp -implicitDefEqProofs at hk;subst hk;exact q0.brw hF2
   |1,hk=>simp -implicitDefEqProofs at hk;subst hk;exact q1.brw hF2
   |2,hk=>simp -implicitDefEqProofs at hk;subst hk;exact r1 0 _ rfl
   |3,hk=>simp -implicitDefEqProofs at hk;subst hk;exact r2.brw hF2
end Go.AE
set_option linter.unusedVariables false
set_option linter.unusedSimpArgs false
set_option maxHeartbeats 2000000
set_option maxRecDepth 100000
namespace Go.AE
open Go Go.Proofs
def textI (i:Nat):List UInt8:=List.replicate 32 (UInt8.ofNat (97+i))
def tornD:Nat→DiskV
 |0=>⟨List.replicate 3 blank,[]⟩
 |i+1=>⟨(tornD i).safe,(tornD i).wait++[⟨(i:Int)%2,textI i⟩]⟩
theorem torn_put {i:Nat} (h:i<5):putR ⟨(tornD i).safe,(tornD i).wait⟩ ((i:Int)%2) (textI i)=(tornD (i+1),0):=by
 match i,h with
 |0,_=>decide
 |1,_=>decide
 |2,_=>decide
 |3,_=>decide
 |4,_=>decide
theorem torn_may:mayB (tornD 5)=true:=by decide
theorem torn_len {i:Nat} (h:i≤5):(tornD i).safe.length=3∧(tornD i).wait.length=i:=by
 match i,h with
 |0,_=>decide
 |1,_=>decide
 |2,_=>decide
 |3,_=>decide
 |4,_=>decide
 |5,_=>decide
def VarDisk (H:Heap) (v:Id) (d:DiskV):Prop:=∃j1 j2,H v=.arr 30 2 false [[.so j1 0 d.safe.length,.so j2 0 d.wait.length]]∧H j1=.arr 9 1 false (rowsE d.safe)∧H j2=.arr 88 2 false (rowsE d.wait)
theorem VarDisk.ext {S:List Id} {H0 H:Heap} {T0 T:Nat} {v:Id} {d:DiskV} (h:VarDisk H0 v d) (he:ExtH S H0 T0 H T) (hS:∀i∈S,H0 i=.unborn):VarDisk H v d:=by
 obtain ⟨j1,j2,h1,h2,h3⟩:=h
 have no:∀{i e sz f rows},H0 i=OK.arr e sz f rows→i ∉ S:=fun h hi=>by rw [hS _ hi] at h;cases h
 exact ⟨j1,j2,he.arr h1 (no h1),he.arr h2 (no h2),he.arr h3 (no h3)⟩
theorem ExtH.trans {S S':List Id} {H0 H1 H2:Heap} {T0 T1 T1' T2:Nat} (h:ExtH S H0 T0 H1 T1) (h':ExtH S' H1 T1' H2 T2) (hT:T1≤T1') (hS:∀i∈S',i∈S):ExtH S H0 T0 H2 T2:=by
 refine ⟨fun i hi hn=>?_,h'.2.1,by have:=h.2.2.1;have:=h'.2.2.1;omega,h.2.2.2⟩
 have e1:=h.1 i hi hn
 rw [h'.1 i (by rw [e1];exact hi) (fun q=>hn (hS i q)),e1]
theorem torn_may':mayB ⟨(tornD 5).safe,(tornD 5).wait⟩=true:=torn_may
theorem dec_I5 (a b c d e:Int):(Arg.dec (AV.c (AC.sl .brw false [[.raw (.int .i64 a)],[.raw (.int .i64 b)],[.raw (.int .i64 c)],[.raw (.int .i64 d)],[.raw (.int .i64 e)]])):Option (List Int))=some [a,b,c,d,e]:=rfl
theorem row5 (a b c d e:Int):rowsE [a,b,c,d,e]=[[.raw (.int .i64 a)],[.raw (.int .i64 b)],[.raw (.int .i64 c)],[.raw (.int .i64 d)],[.raw (.int .i64 e)]]:=rfl
def F6:CT:=F5
theorem F6_ok:CTok Tryz.prog F6:=F5_ok
attribute [simp] F6
theorem awpS_F {F F':CT} (hF:∀f,ctGet F' f=none→ctGet F f=none):True:=trivial
end Go.AE
set_option linter.unusedVariables false
set_option linter.unusedSimpArgs false
set_option maxHeartbeats 2000000
set_option maxRecDepth 100000
namespace Go.AE
open Go Go.Proofs
def actsW:Int→List ActD→Int
 |n,[]=>n
 |n,a::r=>if n<1048576 then actsW (n+(a.s.length:Int)/16+a.k.length) r else n
def heavyW (p:ScriptD):Int:=actsW (diskWeight p.d+p.l.length) p.l
theorem wSum_ge {α:Type} (f:α→Int):∀(l:List α) (n:Int),(∀x∈l,0≤f x)→n≤wSum f n l
 |[],n,_=>Int.le_refl _
 |x::r,n,h=>by
  unfold wSum
  split
  ·have:=wSum_ge f r (n+f x) fun y hy=>h y (by simp -implicitDefEqProofs [hy])
   have:=h x (by simp -implicitDefEqProofs)
   omega
  ·exact Int.le_refl _
theorem wSum_bound {α:Type} (f:α→Int) (B:Int):∀(l:List α) (n:Int),(∀x∈l,0≤f x∧f x≤B)→0≤B→n≤1048576+B→wSum f n l≤max n (1048576+B)
 |[],n,_,_,_=>by rw [wSum];omega
 |x::r,n,h,hB,hn=>by
  unfold wSum
  split
  ·have:=wSum_bound f B r (n+f x) (fun y hy=>h y (by simp -implicitDefEqProofs [hy])) hB (by have:=h x (by simp -implicitDefEqProofs);omega)
   have:=h x (by simp -implicitDefEqProofs)
   omega
  ·omega
theorem actsW_ge:∀(l:List ActD) (n:Int),n≤actsW n l
 |[],n=>Int.le_refl _
 |a::r,n=>by
  unfold actsW
  split
  ·have:=actsW_ge r (n+(a.s.length:Int)/16+a.k.length)
   omega
  ·exact Int.le_refl _
theorem actsW_mem:∀(l:List ActD) (n:Int),actsW n l<1048576→∀a∈l,n+(a.s.length:Int)/16+a.k.length≤actsW n l
 |[],n,_,a,ha=>by simp -implicitDefEqProofs at ha
 |b::r,n,h,a,ha=>by
  unfold actsW at h ⊢
  split at h
  ·rename_i hn
   rw [if_pos hn]
   rcases List.mem_cons.1 ha with rfl|ha
   ·exact actsW_ge r _
   ·have:=actsW_mem r _ h a ha
    omega
  ·omega
theorem diskWeight_bound (d:DiskV) (h1:d.safe.length<281474976710656) (h2:d.wait.length<281474976710656) (h3:∀s∈d.safe,s.length<281474976710656) (h4:∀s∈d.wait,s.text.length<281474976710656) :
  (d.safe.length:Int)/4+d.wait.length≤diskWeight d∧diskWeight d≤562949954469888:=by
 have a1:=wSum_bound (fun s:List UInt8=>(s.length:Int)/64) 562949953421312 d.safe ((d.safe.length:Int)/4+d.wait.length) (fun x hx=>by have:=h3 x hx;omega) (by omega) (by omega)
 have a2:=wSum_ge (fun s:List UInt8=>(s.length:Int)/64) d.safe ((d.safe.length:Int)/4+d.wait.length) (fun x hx=>by have:=h3 x hx;simp -implicitDefEqProofs;omega)
 have b1:=wSum_bound (fun s:Sect=>(s.text.length:Int)/16) 562949953421312 d.wait _ (fun x hx=>by have:=h4 x hx;omega) (by omega) (Int.le_trans a1 (by omega))
 have b2:=wSum_ge (fun s:Sect=>(s.text.length:Int)/16) d.wait (wSum (fun s:List UInt8=>(s.length:Int)/64) ((d.safe.length:Int)/4+d.wait.length) d.safe) (fun x hx=>by have:=h4 x hx;simp -implicitDefEqProofs;omega)
 unfold diskWeight
 constructor
 ·exact Int.le_trans a2 b2
 ·omega
theorem actsW_drop (n:Int) (l:List ActD) (i:Nat) (h:i<l.length) (hn:n<1048576):actsW n (l.drop i)=actsW (n+(l[i].s.length:Int)/16+l[i].k.length) (l.drop (i+1)):=by
 rw [List.drop_eq_getElem_cons h,actsW,if_pos hn]
theorem actsW_stop (n:Int) (l:List ActD) (h:¬n<1048576):actsW n l=n:=by
 cases l with
 |nil=>rfl
 |cons x r=>rw [actsW,if_neg h]
theorem heavy_ev (p:ScriptD) (hp:ScriptS p):PEv Tryz.prog 32 [scriptA p] (.c (.raw (.bool (decide (700<heavyW p))))):=by
 refine tells_of mixed F5_ok Tryz.func32 sl32 ok32 (by kernel_rfl) (by simp -implicitDefEqProofs) (by simp -implicitDefEqProofs [scriptA]) ?_
 obtain ⟨b1,b2⟩:=diskWeight_bound p.d hp.safe hp.wait hp.safeS hp.waitS
 have hacts:=hp.acts
 simp -implicitDefEqProofs [s32,scriptA]
 refine acall_pure (diskWeight_ev p.d hp.safe hp.wait hp.safeS hp.waitS) (by simp -implicitDefEqProofs) (by simp -implicitDefEqProofs) (by simp -implicitDefEqProofs) ?_
 have e0:IntKind.wrap .i64 (diskWeight p.d+p.l.length)=diskWeight p.d+p.l.length:=by rw [wrap64_id]<;>omega
 simp -implicitDefEqProofs [e0]
 refine loop_n (fun n st=>∃(i:Nat) (m:Int),i≤p.l.length∧n=p.l.length-i∧st.s 1=.c (.pt (0,1) 0 0)∧st.H (0,1)=.arr 33 4 false [[.sl .brw false (rowsE p.d.safe),.sl .brw false (rowsE p.d.wait),.raw (.int .i64 p.n),.sl .brw false (rowsE p.l)]]∧
   st.s 3=.c (.raw (.int .i64 m))∧st.s 4=.c (.raw (.int .i64 i))∧0≤m∧m<2251799813685248∧actsW m (p.l.drop i)=heavyW p)
   p.l.length ⟨0,diskWeight p.d+p.l.length,by simp -implicitDefEqProofs [heavyW];omega⟩ ?_
 rintro n st ⟨i,m,hi,rfl,g1,gH,g3,g4,hm0,hm1,hw⟩
 by_cases hlt:i<p.l.length
 ·by_cases hm:m<1048576
  ·have hl:=hp.actS p.l[i] (List.getElem_mem hlt)
   have e1:IntKind.wrap .i64 (IntKind.wrap .i64 (m+IntKind.wrap .i64 ((p.l[i].s.length:Int)/16))+p.l[i].k.length)=m+(p.l[i].s.length:Int)/16+p.l[i].k.length:=by
    rw [wrap64_id (n:=(p.l[i].s.length:Int)/16) (by omega) (by omega),wrap64_id (n:=m+(p.l[i].s.length:Int)/16) (by omega) (by omega),wrap64_id (by omega) (by omega)]
   have e2:IntKind.wrap .i64 ((i:Int)+1)=((i+1:Nat):Int):=by rw [wrap64_id]<;>omega
   simp -implicitDefEqProofs [s32L0,g1,gH,g3,g4,hlt,hm,e1,e2]
   refine ⟨_,?_,i+1,?_,rfl,rfl,?_,?_,?_⟩
   ·omega
   ·omega
   ·omega
   ·omega
   ·rw [←hw,actsW_drop _ _ _ hlt hm]
  ·rw [actsW_stop _ _ hm] at hw
   subst hw
   simp -implicitDefEqProofs [s32L0,g1,gH,g3,g4,hlt,hm]
 ·have:p.l.drop i=[]:=List.drop_eq_nil_of_le (by omega)
  rw [this,actsW] at hw
  subst hw
  simp -implicitDefEqProofs [s32L0,g1,gH,g3,g4,hlt]
instance argScript:Arg ScriptD where
 enc p:=scriptA p
 dec|.g [.sl .brw false a,.sl .brw false b,.raw (.int .i64 n),.sl .brw false l]=>(match decE a,decE b,decE l with|some a,some b,some l=>some ⟨⟨a,b⟩,n,l⟩|_,_,_=>none)|_=>none
 dec_some {x p} h:=by
  split at h
  ·split at h
   ·rename_i h1 h2 h3
    cases h
    rw [decE_some h1,decE_some h2,decE_some h3]
    rfl
   ·cases h
  ·cases h
@[simp] theorem enc_Script (p:ScriptD):Arg.enc p=scriptA p:=rfl
@[simp] theorem dec_Script0 (a:List (List UInt8)) (b:List Sect) (n:Int) (l:List ActD):Arg.dec (.g [.sl .brw false (rowsE a),.sl .brw false (rowsE b),.raw (.int .i64 n),.sl .brw false (rowsE l)])=some (ScriptD.mk ⟨a,b⟩ n l):=by
 show (match decE (rowsE a),decE (rowsE b),decE (rowsE l) with|some a,some b,some l=>some (ScriptD.mk ⟨a,b⟩ n l)|_,_,_=>none)=_
 simp -implicitDefEqProofs
@[simp high] theorem dec_Script (p:ScriptD):Arg.dec (.g [.sl .brw false (rowsE p.d.safe),.sl .brw false (rowsE p.d.wait),.raw (.int .i64 p.n),.sl .brw false (rowsE p.l)])=some p:=dec_Script0 _ _ _ _
def F5h_h32:List AV→Option (Prop×AV):=t1 (fun p:ScriptD=>ScriptS p) fun p:ScriptD=>.c (.raw (.bool (decide (700<heavyW p))))
@[simp] theorem F5h_ap32 {l:List AV}:F5h_h32 l=(t1 (fun p:ScriptD=>ScriptS p) fun p:ScriptD=>.c (.raw (.bool (decide (700<heavyW p))))) l:=rfl
def F5h:CT:=(32,.pu F5h_h32)::F5
theorem F5h_ok:CTok Tryz.prog F5h:=⟨tells1 fun p h=>heavy_ev p h,F5_ok⟩
@[simp] theorem F5h_get32:ctGet F5h 32=some (.pu F5h_h32):=rfl
@[simp] theorem F5h_skip {n:Nat} (h:(n==32)=false):ctGet F5h n=ctGet F5 n:=by
 simp only [Bool.or_eq_false_iff,beq_eq_false_iff_ne,ne_eq] at h
 simp [F5h,ctGet,h]
end Go.AE
set_option linter.unusedVariables false
set_option linter.unusedSimpArgs false
set_option maxHeartbeats 4000000
set_option maxRecDepth 100000
namespace Go.AE
open Go Go.Proofs
theorem opWeight_b (o:OpV) (h1:o.text.length<281474976710656) (h2:o.gone.length<281474976710656):0≤opWeight o∧opWeight o≤562949953421312:=by
 unfold opWeight
 omega
def opsW (l:List OpV):Int:=wSum opWeight l.length l
theorem opsW_b (l:List OpV) (hl:l.length<281474976710656) (h:∀o∈l,o.text.length<281474976710656∧o.gone.length<281474976710656):(l.length:Int)≤opsW l∧opsW l≤562949954469888:=by
 have a1:=wSum_ge opWeight l l.length fun o ho=>(opWeight_b o (h o ho).1 (h o ho).2).1
 have a2:=wSum_bound opWeight 562949953421312 l l.length (fun o ho=>opWeight_b o (h o ho).1 (h o ho).2) (by omega) (by omega)
 unfold opsW
 omega
def OpsWI (l:List OpV) (q:Nat) (st:St):Prop:=∃(i:Nat) (m:Int),i≤l.length∧q=l.length-i∧st.s 0=.c (.sl .brw false (rowsE l))∧st.s 3=.c (.raw (.int .i64 m))∧st.s 4=.c (.raw (.int .i64 i))∧0≤m∧m<1125899906842624∧wSum opWeight m (l.drop i)=opsW l
def FK3_h34:List AV→Option (Prop×AV):=t1 (fun l=>l.length<1000000∧∀e∈l,e.op.gone.length<1000000) fun l:List EntryV=>.c (.nw 48 13 (rowsE l))
@[simp] theorem FK3_ap34 {l:List AV}:FK3_h34 l=(t1 (fun l=>l.length<1000000∧∀e∈l,e.op.gone.length<1000000) fun l:List EntryV=>.c (.nw 48 13 (rowsE l))) l:=rfl
def FK3_h30:List AV→Option (Prop×AV):=t1 (fun o=>o.text.length<4611686018427387904∧o.gone.length<4611686018427387904) fun o:OpV=>.c (.raw (.int .i64 (opWeight o)))
@[simp] theorem FK3_ap30 {l:List AV}:FK3_h30 l=(t1 (fun o=>o.text.length<4611686018427387904∧o.gone.length<4611686018427387904) fun o:OpV=>.c (.raw (.int .i64 (opWeight o)))) l:=rfl
def FK3_h32:List AV→Option (Prop×AV):=t1 (fun p:ScriptD=>ScriptS p) fun p:ScriptD=>.c (.raw (.bool (decide (700<heavyW p))))
@[simp] theorem FK3_ap32 {l:List AV}:FK3_h32 l=(t1 (fun p:ScriptD=>ScriptS p) fun p:ScriptD=>.c (.raw (.bool (decide (700<heavyW p))))) l:=rfl
def FK3:CT:=(34,.pu FK3_h34)::(30,.pu FK3_h30)::(32,.pu FK3_h32)::FK2
theorem FK3_ok:CTok Tryz.prog FK3:=⟨tells1 fun l h=>copyEntries_ev l h.1 h.2,
 tells1 fun o h=>opWeight_ev o h.1 h.2,
 tells1 fun p h=>heavy_ev p h,FK2_ok⟩
@[simp] theorem FK3_get34:ctGet FK3 34=some (.pu FK3_h34):=rfl
@[simp] theorem FK3_get30:ctGet FK3 30=some (.pu FK3_h30):=rfl
@[simp] theorem FK3_get32:ctGet FK3 32=some (.pu FK3_h32):=rfl
@[simp] theorem FK3_skip {n:Nat} (h:(n==34||n==30||n==32)=false):ctGet FK3 n=ctGet FK2 n:=by
 simp only [Bool.or_eq_false_iff,beq_eq_false_iff_ne,ne_eq] at h
 simp [FK3,ctGet,h]
theorem opsWeight_ev (l:List OpV) (hl:l.length<281474976710656) (h:∀o∈l,o.text.length<281474976710656∧o.gone.length<281474976710656):PEv Tryz.prog 64 [.c (.sl .brw false (rowsE l))] (.c (.raw (.int .i64 (opsW l)))):=by
 refine tells_of mixed FK3_ok Tryz.func64 sl64 ok64 (by kernel_rfl) (by simp -implicitDefEqProofs (maxSteps:=400000) (maxDischargeDepth:=6)) (by simp -implicitDefEqProofs (maxSteps:=400000) (maxDischargeDepth:=6)) ?_
 simp -implicitDefEqProofs (maxSteps:=400000) (maxDischargeDepth:=6) [s64]
 refine loop_c (OpsWI l) l.length ⟨0,l.length,by omega,rfl,by simp -implicitDefEqProofs (maxSteps:=400000) (maxDischargeDepth:=6),by simp -implicitDefEqProofs (maxSteps:=400000) (maxDischargeDepth:=6),by simp -implicitDefEqProofs (maxSteps:=400000) (maxDischargeDepth:=6),by omega,by omega,by simp -implicitDefEqProofs (maxSteps:=400000) (maxDischargeDepth:=6) [opsW]⟩ ?_
 rintro q st ⟨i,m,hi,rfl,k0,k3,k4,hm0,hm1,hw⟩ J hJ
 by_cases hlt:i<l.length
 ·have hlt':(i:Int)<l.length:=by omega
  by_cases hm:m<1048576
  ·obtain ⟨t1,t2⟩:=h l[i] (List.getElem_mem hlt)
   obtain ⟨w1,w2⟩:=opWeight_b l[i] t1 t2
   have t3:l[i].text.length<4611686018427387904:=by omega
   have t4:l[i].gone.length<4611686018427387904:=by omega
   have e1:IntKind.wrap .i64 (m+opWeight l[i])=m+opWeight l[i]:=by rw [wrap64_id]<;>omega
   have e2:IntKind.wrap .i64 ((i:Int)+1)=((i+1:Nat):Int):=by rw [wrap64_id]<;>omega
   simp -implicitDefEqProofs (maxSteps:=400000) (maxDischargeDepth:=6) [s64L0,k0,k3,k4,hlt,hlt',hm,e1,e2,t3,t4,opRow]
   exact ⟨l.length-(i+1),by omega,hJ _ _ ⟨i+1,m+opWeight l[i],by omega,rfl,by simp -implicitDefEqProofs (maxSteps:=400000) (maxDischargeDepth:=6) [k0],by simp -implicitDefEqProofs (maxSteps:=400000) (maxDischargeDepth:=6),by simp -implicitDefEqProofs (maxSteps:=400000) (maxDischargeDepth:=6),by omega,by omega,by rw [←hw,wSum_drop _ _ _ _ hlt hm]⟩⟩
  ·rw [wSum_stop _ _ _ hm] at hw
   subst hw
   simp -implicitDefEqProofs (maxSteps:=400000) (maxDischargeDepth:=6) [s64L0,k0,k3,k4,hlt,hlt',hm]
 ·have hlt':¬(i:Int)<l.length:=by omega
  have:l.drop i=[]:=List.drop_eq_nil_of_le (by omega)
  rw [this,wSum] at hw
  subst hw
  simp -implicitDefEqProofs (maxSteps:=400000) (maxDischargeDepth:=6) [s64L0,k0,k3,k4,hlt,hlt']
structure Ask4 where
 ops:List OpV
 elems:List ElemV
 nums:List Int
structure Ask4S (p:Ask4):Prop where
 ops:p.ops.length<281474976710656
 opS:∀o∈p.ops,o.text.length<281474976710656∧o.gone.length<281474976710656
 elems:p.elems.length<281474976710656
 nums:p.nums.length<281474976710656
instance argAsk4:Arg Ask4 where
 enc p:=.g [.sl .brw false (rowsE p.ops),.sl .brw false (rowsE p.elems),.sl .brw false (rowsE p.nums)]
 dec|.g [.sl .brw false a,.sl .brw false b,.sl .brw false l]=>(match decE a,decE b,decE l with|some a,some b,some l=>some ⟨a,b,l⟩|_,_,_=>none)|_=>none
 dec_some {x p} h:=by
  split at h
  ·split at h
   ·rename_i h1 h2 h3
    cases h
    rw [decE_some h1,decE_some h2,decE_some h3]
   ·cases h
  ·cases h
@[simp] theorem enc_Ask4 (p:Ask4):Arg.enc p=.g [.sl .brw false (rowsE p.ops),.sl .brw false (rowsE p.elems),.sl .brw false (rowsE p.nums)]:=rfl
@[simp] theorem dec_Ask4 (a:List OpV) (b:List ElemV) (l:List Int):Arg.dec (.g [.sl .brw false (rowsE a),.sl .brw false (rowsE b),.sl .brw false (rowsE l)])=some (Ask4.mk a b l):=by
 show (match decE (rowsE a),decE (rowsE b),decE (rowsE l) with|some a,some b,some l=>some (Ask4.mk a b l)|_,_,_=>none)=_
 simp -implicitDefEqProofs (maxSteps:=400000) (maxDischargeDepth:=6)
def heavy4 (p:Ask4):Int:=opsW p.ops+p.elems.length+p.nums.length
def FK4_h64:List AV→Option (Prop×AV):=t1 (fun l=>l.length<281474976710656∧∀o∈l,o.text.length<281474976710656∧o.gone.length<281474976710656) fun l:List OpV=>.c (.raw (.int .i64 (opsW l)))
@[simp] theorem FK4_ap64 {l:List AV}:FK4_h64 l=(t1 (fun l=>l.length<281474976710656∧∀o∈l,o.text.length<281474976710656∧o.gone.length<281474976710656) fun l:List OpV=>.c (.raw (.int .i64 (opsW l)))) l:=rfl
def FK4:CT:=(64,.pu FK4_h64)::FK3
theorem FK4_ok:CTok Tryz.prog FK4:=⟨tells1 fun l h=>opsWeight_ev l h.1 h.2,FK3_ok⟩
@[simp] theorem FK4_get64:ctGet FK4 64=some (.pu FK4_h64):=rfl
@[simp] theorem FK4_skip {n:Nat} (h:(n==64)=false):ctGet FK4 n=ctGet FK3 n:=by
 simp only [Bool.or_eq_false_iff,beq_eq_false_iff_ne,ne_eq] at h
 simp [FK4,ctGet,h]
theorem heavy4_ev (p:Ask4) (hp:Ask4S p):PEv Tryz.prog 31 [Arg.enc p] (.c (.raw (.bool (decide (900<heavy4 p))))):=by
 refine tells_of mixed FK4_ok Tryz.func31 sl31 ok31 (by kernel_rfl) (by simp -implicitDefEqProofs (maxSteps:=400000) (maxDischargeDepth:=6)) (by simp -implicitDefEqProofs (maxSteps:=400000) (maxDischargeDepth:=6)) ?_
 obtain ⟨h1,h2,h3,h4⟩:=hp
 obtain ⟨b1,b2⟩:=opsW_b p.ops h1 h2
 have h2':∀o∈p.ops,o.text.length<281474976710656∧o.gone.length<281474976710656:=h2
 have e1:IntKind.wrap .i64 (opsW p.ops+p.elems.length)=opsW p.ops+p.elems.length:=by rw [wrap64_id]<;>omega
 have e2:IntKind.wrap .i64 (opsW p.ops+p.elems.length+p.nums.length)=opsW p.ops+p.elems.length+p.nums.length:=by rw [wrap64_id]<;>omega
 simp only [heavy4]
 simp -implicitDefEqProofs (maxSteps:=400000) (maxDischargeDepth:=6) [s31,h1,e1,e2]
 exact ⟨h2',rfl⟩
end Go.AE
set_option linter.unusedVariables false
set_option linter.unusedSimpArgs false
set_option maxHeartbeats 4000000
set_option maxRecDepth 100000
namespace Go.AE
open Go Go.Proofs
theorem light_d {p:ScriptD} (hp:ScriptS p) (h:¬700<heavyW p):p.d.safe.length≤3000∧p.d.wait.length≤1000:=by
 obtain ⟨b1,b2⟩:=diskWeight_bound p.d hp.safe hp.wait hp.safeS hp.waitS
 have g:=actsW_ge p.l (diskWeight p.d+p.l.length)
 unfold heavyW at h
 omega
structure AskD where
 o:Ask4
 d:ScriptD
 ents:List EntryV
 nums:List Int
structure AskS (p:AskD):Prop where
 o:Ask4S p.o
 d:ScriptS p.d
 ents:p.ents.length<281474976710656
 entS:∀e∈p.ents,e.op.text.length<281474976710656∧e.op.gone.length<281474976710656
 nums:p.nums.length<281474976710656
 numS:∀n∈p.nums,-9223372036854775808≤n∧n≤9223372036854775807
def askRow (p:AskD):List AC:=[.sl .brw false (rowsE p.o.ops),.sl .brw false (rowsE p.o.elems),.sl .brw false (rowsE p.o.nums),.sl .brw false (rowsE p.d.d.safe),.sl .brw false (rowsE p.d.d.wait),.raw (.int .i64 p.d.n),.sl .brw false (rowsE p.d.l),
 .sl .brw false (rowsE p.ents),.sl .brw false (rowsE p.nums)]
instance argAsk:Arg AskD where
 enc p:=.g (askRow p)
 dec|.g [.sl .brw false a,.sl .brw false b,.sl .brw false c,.sl .brw false d,.sl .brw false e,.raw (.int .i64 n),.sl .brw false f,.sl .brw false g,.sl .brw false h]=>
    (match decE a,decE b,decE c,decE d,decE e,decE f,decE g,decE h with
     |some a,some b,some c,some d,some e,some f,some g,some h=>some ⟨⟨a,b,c⟩,⟨⟨d,e⟩,n,f⟩,g,h⟩|_,_,_,_,_,_,_,_=>none)|_=>none
 dec_some {x p} h:=by
  split at h
  ·split at h
   ·rename_i h1 h2 h3 h4 h5 h6 h7 h8
    cases h
    rw [decE_some h1,decE_some h2,decE_some h3,decE_some h4,decE_some h5,decE_some h6,decE_some h7,decE_some h8]
    rfl
   ·cases h
  ·cases h
@[simp] theorem enc_Ask (p:AskD):Arg.enc p=.g (askRow p):=rfl
@[simp] theorem dec_Ask (p:AskD):Arg.dec (.g (askRow p))=some p:=by
 show (match decE (rowsE p.o.ops),decE (rowsE p.o.elems),decE (rowsE p.o.nums),decE (rowsE p.d.d.safe),decE (rowsE p.d.d.wait),decE (rowsE p.d.l),decE (rowsE p.ents),decE (rowsE p.nums) with
     |some a,some b,some c,some d,some e,some f,some g,some h=>some (AskD.mk ⟨a,b,c⟩ ⟨⟨d,e⟩,p.d.n,f⟩ g h)|_,_,_,_,_,_,_,_=>none)=_
 simp -implicitDefEqProofs (maxSteps:=400000) (maxDischargeDepth:=6)
@[simp high] theorem dec_Askp (p:AskD):Arg.dec (.g [.sl .brw false (rowsE p.o.ops),.sl .brw false (rowsE p.o.elems),.sl .brw false (rowsE p.o.nums),.sl .brw false (rowsE p.d.d.safe),.sl .brw false (rowsE p.d.d.wait),.raw (.int .i64 p.d.n),.sl .brw false (rowsE p.d.l),
 .sl .brw false (rowsE p.ents),.sl .brw false (rowsE p.nums)])=some p:=dec_Ask p
def entW (e:EntryV):Int:=opWeight e.op
def entsW (p:AskD):Int:=wSum entW (p.ents.length+p.nums.length) p.ents
def heavy15 (p:AskD):Bool:=decide (500<entsW p)||decide (900<heavy4 p.o)||decide (700<heavyW p.d)
def FK5_h31:List AV→Option (Prop×AV):=t1 Ask4S fun p:Ask4=>.c (.raw (.bool (decide (900<heavy4 p))))
@[simp] theorem FK5_ap31 {l:List AV}:FK5_h31 l=(t1 Ask4S fun p:Ask4=>.c (.raw (.bool (decide (900<heavy4 p))))) l:=rfl
def FK5:CT:=(31,.pu FK5_h31)::FK4
theorem FK5_ok:CTok Tryz.prog FK5:=⟨tells1 fun p h=>heavy4_ev p h,FK4_ok⟩
@[simp] theorem FK5_get31:ctGet FK5 31=some (.pu FK5_h31):=rfl
@[simp] theorem FK5_skip {n:Nat} (h:(n==31)=false):ctGet FK5 n=ctGet FK4 n:=by
 simp only [Bool.or_eq_false_iff,beq_eq_false_iff_ne,ne_eq] at h
 simp [FK5,ctGet,h]
def H15I (p:AskD) (q:Nat) (st:St):Prop:=∃(i:Nat) (m:Int),i≤p.ents.length∧q=p.ents.length-i∧st.s 1=.c (.pt (0,1) 0 0)∧st.H (0,1)=.arr 36 9 false [askRow p]∧
 st.s 3=.c (.raw (.int .i64 m))∧st.s 4=.c (.raw (.int .i64 i))∧0≤m∧m<1125899906842624∧wSum entW m (p.ents.drop i)=entsW p
theorem heavy15_ev (p:AskD) (hp:AskS p):PEv Tryz.prog 5 [Arg.enc p] (.c (.raw (.bool (heavy15 p)))):=by
 refine tells_of mixed FK5_ok Tryz.func5 sl5 ok5 (by kernel_rfl) (by simp -implicitDefEqProofs (maxSteps:=400000) (maxDischargeDepth:=6)) (by simp -implicitDefEqProofs (maxSteps:=400000) (maxDischargeDepth:=6) [askRow]) ?_
 obtain ⟨h1,h2,h3,h4,h5,h6⟩:=hp
 have e0:IntKind.wrap .i64 ((p.ents.length:Int)+p.nums.length)=(p.ents.length:Int)+p.nums.length:=by rw [wrap64_id]<;>omega
 refine seq_c (fun st'=>st'.s 1=.c (.pt (0,1) 0 0)∧st'.H (0,1)=.arr 36 9 false [askRow p]) ?_ ?_
 ·intro R' hR
  simp -implicitDefEqProofs (maxSteps:=400000) (maxDischargeDepth:=6) [askRow]
  exact hR _ ⟨by simp -implicitDefEqProofs (maxSteps:=400000) (maxDischargeDepth:=6),by simp -implicitDefEqProofs (maxSteps:=400000) (maxDischargeDepth:=6) [askRow]⟩
 rintro st ⟨k1,kH⟩
 refine seq_c (fun st'=>st'.s 1=.c (.pt (0,1) 0 0)∧st'.H (0,1)=.arr 36 9 false [askRow p]∧st'.s 3=.c (.raw (.int .i64 ((p.ents.length:Int)+p.nums.length)))) ?_ ?_
 ·intro R' hR
  simp -implicitDefEqProofs (maxSteps:=400000) (maxDischargeDepth:=6) [k1,kH,askRow,e0]
  exact hR _ ⟨by simp -implicitDefEqProofs (maxSteps:=400000) (maxDischargeDepth:=6) [k1],by simp -implicitDefEqProofs (maxSteps:=400000) (maxDischargeDepth:=6) [kH,askRow],by simp -implicitDefEqProofs (maxSteps:=400000) (maxDischargeDepth:=6)⟩
 clear k1 kH
 rintro st ⟨k1,kH,k3⟩
 refine seq_c (fun st'=>st'.s 1=.c (.pt (0,1) 0 0)∧st'.H (0,1)=.arr 36 9 false [askRow p]∧st'.s 3=.c (.raw (.int .i64 (entsW p)))) ?_ ?_
 ·intro R' hR
  simp -implicitDefEqProofs (maxSteps:=400000) (maxDischargeDepth:=6)
  refine loop_c (H15I p) p.ents.length ⟨0,p.ents.length+p.nums.length,by omega,rfl,by simp -implicitDefEqProofs (maxSteps:=400000) (maxDischargeDepth:=6) [k1],by simp -implicitDefEqProofs (maxSteps:=400000) (maxDischargeDepth:=6) [kH],by simp -implicitDefEqProofs (maxSteps:=400000) (maxDischargeDepth:=6) [k3],by simp -implicitDefEqProofs (maxSteps:=400000) (maxDischargeDepth:=6),by omega,by omega,by simp -implicitDefEqProofs (maxSteps:=400000) (maxDischargeDepth:=6) [entsW]⟩ ?_
  clear k1 kH k3
  rintro q st ⟨i,m,hi,rfl,k1,kH,k3,k4,hm0,hm1,hw⟩ J hJ
  by_cases hlt:i<p.ents.length
  ·have hlt':(i:Int)<p.ents.length:=by omega
   by_cases hm:m<1048576
   ·obtain ⟨t1,t2⟩:=h4 p.ents[i] (List.getElem_mem hlt)
    obtain ⟨w1,w2⟩:=opWeight_b p.ents[i].op t1 t2
    have t3:p.ents[i].op.text.length<4611686018427387904:=by omega
    have t4:p.ents[i].op.gone.length<4611686018427387904:=by omega
    have e1:IntKind.wrap .i64 (m+opWeight p.ents[i].op)=m+opWeight p.ents[i].op:=by rw [wrap64_id]<;>omega
    have e2:IntKind.wrap .i64 ((i:Int)+1)=((i+1:Nat):Int):=by rw [wrap64_id]<;>omega
    simp -implicitDefEqProofs (maxSteps:=400000) (maxDischargeDepth:=6) [s5L0,askRow,k1,kH,k3,k4,hlt,hlt',hm,e1,e2,t3,t4,entRow,opRow]
    exact ⟨p.ents.length-(i+1),by omega,hJ _ _ ⟨i+1,m+opWeight p.ents[i].op,by omega,rfl,by simp -implicitDefEqProofs (maxSteps:=400000) (maxDischargeDepth:=6) [k1],by simp -implicitDefEqProofs (maxSteps:=400000) (maxDischargeDepth:=6) [kH,askRow],by simp -implicitDefEqProofs (maxSteps:=400000) (maxDischargeDepth:=6),by simp -implicitDefEqProofs (maxSteps:=400000) (maxDischargeDepth:=6),by omega,by omega,by rw [←hw,wSum_drop _ _ _ _ hlt hm];rfl⟩⟩
   ·rw [wSum_stop _ _ _ hm] at hw
    subst hw
    simp -implicitDefEqProofs (maxSteps:=400000) (maxDischargeDepth:=6) [s5L0,askRow,k1,kH,k3,k4,hlt,hlt',hm]
    exact hR _ ⟨by simp -implicitDefEqProofs (maxSteps:=400000) (maxDischargeDepth:=6) [k1],by simp -implicitDefEqProofs (maxSteps:=400000) (maxDischargeDepth:=6) [kH,askRow],by simp -implicitDefEqProofs (maxSteps:=400000) (maxDischargeDepth:=6) [k3]⟩
  ·have hlt':¬(i:Int)<p.ents.length:=by omega
   have:p.ents.drop i=[]:=List.drop_eq_nil_of_le (by omega)
   rw [this,wSum] at hw
   subst hw
   simp -implicitDefEqProofs (maxSteps:=400000) (maxDischargeDepth:=6) [s5L0,askRow,k1,kH,k3,k4,hlt,hlt']
   exact hR _ ⟨by simp -implicitDefEqProofs (maxSteps:=400000) (maxDischargeDepth:=6) [k1],by simp -implicitDefEqProofs (maxSteps:=400000) (maxDischargeDepth:=6) [kH,askRow],by simp -implicitDefEqProofs (maxSteps:=400000) (maxDischargeDepth:=6) [k3]⟩
 ·clear k1 kH k3
  rintro st ⟨k1,kH,k3⟩
  unfold heavy15
  by_cases c1:500<entsW p
  ·simp -implicitDefEqProofs (maxSteps:=400000) (maxDischargeDepth:=6) [askRow,k1,kH,k3,c1]
  ·by_cases c2:900<heavy4 p.o
   ·simp -implicitDefEqProofs (maxSteps:=400000) (maxDischargeDepth:=6) [askRow,k1,kH,k3,c1,c2,h1]
   ·simp -implicitDefEqProofs (maxSteps:=400000) (maxDischargeDepth:=6) [askRow,k1,kH,k3,c1,c2,h1,h2]
theorem wSum_mem {α:Type} (f:α→Int):∀(l:List α) (n:Int),(∀x∈l,0≤f x)→wSum f n l<1048576→∀a∈l,n+f a≤wSum f n l
 |[],n,_,_,a,ha=>by simp -implicitDefEqProofs (maxSteps:=400000) (maxDischargeDepth:=6) at ha
 |b::r,n,h0,h,a,ha=>by
  unfold wSum at h ⊢
  split at h
  ·rename_i hn
   rw [if_pos hn]
   rcases List.mem_cons.1 ha with rfl|ha
   ·exact wSum_ge f r _ fun x hx=>h0 x (by simp -implicitDefEqProofs (maxSteps:=400000) (maxDischargeDepth:=6) [hx])
   ·have:=wSum_mem f r _ (fun x hx=>h0 x (by simp -implicitDefEqProofs (maxSteps:=400000) (maxDischargeDepth:=6) [hx])) h a ha
    have:=h0 b (by simp -implicitDefEqProofs (maxSteps:=400000) (maxDischargeDepth:=6))
    omega
  ·omega
theorem light15 {p:AskD} (hp:AskS p) (h:heavy15 p=false):p.ents.length≤500∧p.nums.length≤500∧(∀e∈p.ents,e.op.text.length≤4000∧e.op.gone.length≤1000)∧
  p.o.ops.length≤900∧(∀o∈p.o.ops,o.text.length≤4000∧o.gone.length≤1000)∧p.d.d.safe.length≤3000∧p.d.d.wait.length≤1000:=by
 obtain ⟨h1,h2,h3,h4,h5,h6⟩:=hp
 simp only [heavy15,Bool.or_eq_false_iff,decide_eq_false_iff_not] at h
 obtain ⟨⟨a1,a2⟩,a3⟩:=h
 have b0:∀x∈p.ents,0≤entW x:=fun x hx=>(opWeight_b x.op (h4 x hx).1 (h4 x hx).2).1
 have b1:=wSum_ge entW p.ents (p.ents.length+p.nums.length) b0
 have b2:=wSum_mem entW p.ents (p.ents.length+p.nums.length) b0 (by unfold entsW at a1;omega)
 have c0:∀x∈p.o.ops,0≤opWeight x:=fun x hx=>(opWeight_b x (h1.opS x hx).1 (h1.opS x hx).2).1
 have c1:=wSum_ge opWeight p.o.ops p.o.ops.length c0
 have c2:=wSum_mem opWeight p.o.ops p.o.ops.length c0 (by unfold heavy4 opsW at a2;omega)
 unfold entsW at a1
 unfold heavy4 opsW at a2
 obtain ⟨d1,d2⟩:=light_d h2 a3
 refine ⟨by omega,by omega,fun e he=>?_,by omega,fun o ho=>?_,d1,d2⟩
 ·have:=b2 e he
  have hw:entW e=2+((e.op.text.length/4:Nat):Int)+e.op.gone.length:=rfl
  omega
 ·have:=c2 o ho
  have hw:opWeight o=2+((o.text.length/4:Nat):Int)+o.gone.length:=rfl
  omega
end Go.AE
set_option linter.unusedVariables false
set_option linter.unusedSimpArgs false
set_option maxHeartbeats 4000000
set_option maxRecDepth 100000
namespace Go.AE
open Go Go.Proofs
def opE (o:OpV):EntryV:=⟨false,0,o⟩
def entsI (p:AskD) (i:Nat):List EntryV:=p.ents.take 6++(p.o.ops.take i).map opE
def joinRow (n:Int):List AC:=[.raw (.bool true),.raw (.int .i64 n),.raw (.int .i64 0),.raw (.int .i64 0),.raw (.int .i64 0),.raw (.int .i64 0),.raw (.int .i64 0),.raw (.int .i64 0),.str [],.raw (.slice none 0 0),.raw (.int .i64 0),.raw (.int .i64 0),.raw (.int .i64 0)]
def entsR (p:AskD):List EntryV:=entsI p 4++[joinE (1+p.nums.length)]
def EntQ (p:AskD) (i:Nat) (st:St):Prop:=∃(id:Id) (n:Nat) (X:List (List AC)),st.s 1=.c (.pt (0,1) 0 0)∧st.H (0,1)=.arr 36 9 false [askRow p]∧st.s 3=.c (.so id 0 n)∧st.H id=.arr 48 13 false X∧
 cutTo n X=rowsE (entsI p i)∧(entsI p i).length=n∧n≤6+i∧((0,1)=id)=False∧Fresh st.H st.T∧0<st.T
def EntI (p:AskD) (q:Nat) (st:St):Prop:=∃i:Nat,i≤p.o.ops.length∧i≤4∧q=4-i∧st.s 4=.c (.raw (.int .i64 i))∧EntQ p i st
def FK6_h5:List AV→Option (Prop×AV):=t1 AskS fun p:AskD=>.c (.raw (.bool (heavy15 p)))
@[simp] theorem FK6_ap5 {l:List AV}:FK6_h5 l=(t1 AskS fun p:AskD=>.c (.raw (.bool (heavy15 p)))) l:=rfl
def FK6:CT:=(5,.pu FK6_h5)::FK5
theorem FK6_ok:CTok Tryz.prog FK6:=⟨tells1 fun p h=>heavy15_ev p h,FK5_ok⟩
@[simp] theorem FK6_get5:ctGet FK6 5=some (.pu FK6_h5):=rfl
@[simp] theorem FK6_skip {n:Nat} (h:(n==5)=false):ctGet FK6 n=ctGet FK5 n:=by
 simp only [Bool.or_eq_false_iff,beq_eq_false_iff_ne,ne_eq] at h
 simp [FK6,ctGet,h]
theorem entsI_succ (p:AskD) (i:Nat) (h:i<p.o.ops.length):entsI p (i+1)=entsI p i++[opE p.o.ops[i]]:=by
 unfold entsI
 rw [(List.take_append_getElem h).symm,List.map_append,List.map_singleton,List.append_assoc]
theorem entries_ev (p:AskD) (hp:AskS p) (hl:heavy15 p=false):PEv Tryz.prog 7 [Arg.enc p] (.c (.nw 48 13 (rowsE (entsR p)))):=by
 refine tells_frz mixed FK6_ok Tryz.func7 sl7 ok7 (by kernel_rfl) (by simp -implicitDefEqProofs (maxSteps:=400000) (maxDischargeDepth:=6)) (by simp -implicitDefEqProofs (maxSteps:=400000) (maxDischargeDepth:=6) [askRow]) ?_
 obtain ⟨l1,l2,l3,l4,l5,l6,l7⟩:=light15 hp hl
 have g1:p.ents.length<1000000:=by omega
 have g2:∀e∈p.ents,e.op.gone.length<1000000:=fun e he=>by have:=l3 e he;omega
 refine seq_c (fun st'=>st'.s 1=.c (.pt (0,1) 0 0)∧st'.H (0,1)=.arr 36 9 false [askRow p]∧Fresh st'.H st'.T∧0<st'.T) ?_ ?_
 ·intro R' hR
  simp -implicitDefEqProofs (maxSteps:=400000) (maxDischargeDepth:=6) [askRow]
  exact hR _ ⟨by simp -implicitDefEqProofs (maxSteps:=400000) (maxDischargeDepth:=6),by simp -implicitDefEqProofs (maxSteps:=400000) (maxDischargeDepth:=6) [askRow],by simp -implicitDefEqProofs (maxSteps:=400000) (maxDischargeDepth:=6);(repeat' (first|exact fresh_no.mono (Nat.zero_le _)|(refine Fresh.set' ?_ (by simp)))),by simp -implicitDefEqProofs (maxSteps:=400000) (maxDischargeDepth:=6)⟩
 rintro st ⟨k1,kH,hf,hT⟩
 have hfu:∀k d,st.T≤k→st.H (k,d)=.unborn:=hf
 obtain ⟨p1,p2,p3⟩:=hf.arr kH
 refine seq_c (fun st'=>st'.s 1=.c (.pt (0,1) 0 0)∧st'.H (0,1)=.arr 36 9 false [askRow p]∧Fresh st'.H st'.T∧0<st'.T∧∃id,st'.s 3=.c (.so id 0 p.ents.length)∧st'.H id=.arr 48 13 false (rowsE p.ents)∧((0,1)=id)=False) ?_ ?_
 ·intro R' hR
  simp -implicitDefEqProofs (maxSteps:=400000) (maxDischargeDepth:=6) [k1,kH,askRow,g1,g2,hfu,p1,p2]
  refine ⟨g2,hR _ ⟨by first|exact k1|simp -implicitDefEqProofs (maxSteps:=400000) (maxDischargeDepth:=6) [k1],by simp -implicitDefEqProofs (maxSteps:=400000) (maxDischargeDepth:=6) [kH,askRow,p1,p2,Nat.le_add_right_of_le],by simp -implicitDefEqProofs (maxSteps:=400000) (maxDischargeDepth:=6);repeat' (first|exact hf.mono (by first|omega|(simp<;>omega))|(refine Fresh.set' ?_ (by first|omega|(simp<;>omega)))),by first|(simp -implicitDefEqProofs (maxSteps:=400000) (maxDischargeDepth:=6);done)|(simp -implicitDefEqProofs (maxSteps:=400000) (maxDischargeDepth:=6);omega)|omega,(st.T,8192),by simp -implicitDefEqProofs (maxSteps:=400000) (maxDischargeDepth:=6),by simp -implicitDefEqProofs (maxSteps:=400000) (maxDischargeDepth:=6),by first|(simp -implicitDefEqProofs (maxSteps:=400000) (maxDischargeDepth:=6);done)|(simp -implicitDefEqProofs (maxSteps:=400000) (maxDischargeDepth:=6);omega)|omega⟩⟩
 clear k1 kH hf hT hfu p1 p2 p3
 rintro st ⟨k1,kH,hf,hT,id,k3,kX,hne⟩
 refine seq_c (EntQ p 0) ?_ ?_
 ·intro R' hR
  by_cases h6:6<p.ents.length
  ·have h6':(6:Int)<p.ents.length:=by omega
   simp -implicitDefEqProofs (maxSteps:=400000) (maxDischargeDepth:=6) [k3,kX,h6,h6']
   refine ⟨by omega,hR _ ⟨id,6,_,by first|exact k1|simp -implicitDefEqProofs (maxSteps:=400000) (maxDischargeDepth:=6) [k1],by first|exact kH|simp -implicitDefEqProofs (maxSteps:=400000) (maxDischargeDepth:=6) [kH],by simp -implicitDefEqProofs (maxSteps:=400000) (maxDischargeDepth:=6),by first|exact kX|simpa using kX,?_,by simp -implicitDefEqProofs (maxSteps:=400000) (maxDischargeDepth:=6) [entsI];omega,by omega,hne,by first|exact hf|exact hf.mono (by first|omega|(simp -implicitDefEqProofs (maxSteps:=400000) (maxDischargeDepth:=6);omega))|(simp -implicitDefEqProofs (maxSteps:=400000) (maxDischargeDepth:=6);exact hf.mono (by omega)),by first|(simp -implicitDefEqProofs (maxSteps:=400000) (maxDischargeDepth:=6);done)|(simp -implicitDefEqProofs (maxSteps:=400000) (maxDischargeDepth:=6);omega)|omega⟩⟩
   simp -implicitDefEqProofs (maxSteps:=400000) (maxDischargeDepth:=6) [entsI,cutTo,h6,rowsE_take]
  ·have h6':¬(6:Int)<p.ents.length:=by omega
   simp -implicitDefEqProofs (maxSteps:=400000) (maxDischargeDepth:=6) [k3,kX,h6,h6']
   have ht:p.ents.take 6=p.ents:=List.take_of_length_le (by omega)
   refine hR _ ⟨id,_,_,by first|exact k1|simp -implicitDefEqProofs (maxSteps:=400000) (maxDischargeDepth:=6) [k1],by first|exact kH|simp -implicitDefEqProofs (maxSteps:=400000) (maxDischargeDepth:=6) [kH],by first|exact k3|simpa using k3,by first|exact kX|simpa using kX,?_,by simp -implicitDefEqProofs (maxSteps:=400000) (maxDischargeDepth:=6) [entsI,ht],by omega,hne,by first|exact hf|exact hf.mono (by first|omega|(simp -implicitDefEqProofs (maxSteps:=400000) (maxDischargeDepth:=6);omega))|(simp -implicitDefEqProofs (maxSteps:=400000) (maxDischargeDepth:=6);exact hf.mono (by omega)),by first|(simp -implicitDefEqProofs (maxSteps:=400000) (maxDischargeDepth:=6);done)|(simp -implicitDefEqProofs (maxSteps:=400000) (maxDischargeDepth:=6);omega)|omega⟩
   simp -implicitDefEqProofs (maxSteps:=400000) (maxDischargeDepth:=6) [entsI,cutTo,ht]
 clear k1 kH hf hT k3 kX hne
 rintro st hQ
 refine seq_c (EntQ p 4) ?_ ?_
 ·intro R' hR
  simp -implicitDefEqProofs (maxSteps:=400000) (maxDischargeDepth:=6)
  refine loop_c (EntI p) 4 ⟨0,by omega,by omega,rfl,by simp -implicitDefEqProofs (maxSteps:=400000) (maxDischargeDepth:=6),?_⟩ ?_
  ·obtain ⟨id,n,X,k1,kH,k3,kX,hc,hn,hn6,hne,hf,hT⟩:=hQ
   exact ⟨id,n,X,by first|exact k1|simp -implicitDefEqProofs (maxSteps:=400000) (maxDischargeDepth:=6) [k1],by first|exact kH|simp -implicitDefEqProofs (maxSteps:=400000) (maxDischargeDepth:=6) [kH],by first|exact k3|simp -implicitDefEqProofs (maxSteps:=400000) (maxDischargeDepth:=6) [k3],by first|exact kX|simp -implicitDefEqProofs (maxSteps:=400000) (maxDischargeDepth:=6) [kX],hc,hn,hn6,hne,by first|exact hf|exact hf.mono (by first|omega|(simp -implicitDefEqProofs (maxSteps:=400000) (maxDischargeDepth:=6);omega))|(simp -implicitDefEqProofs (maxSteps:=400000) (maxDischargeDepth:=6);exact hf.mono (by omega)),by first|(simp -implicitDefEqProofs (maxSteps:=400000) (maxDischargeDepth:=6);done)|(simp -implicitDefEqProofs (maxSteps:=400000) (maxDischargeDepth:=6);omega)|omega⟩
  clear hQ st
  rintro q st ⟨i,hi,hi4,rfl,k4,id,n,X,k1,kH,k3,kX,hc,hn,hn6,hne,hf,hT⟩ J hJ
  have hfu:∀k d,st.T≤k→st.H (k,d)=.unborn:=hf
  obtain ⟨p1,p2,p3⟩:=hf.arr kH
  obtain ⟨f1,f2,f3⟩:=hf.arr kX
  have hcl:(cutTo n X).length=n:=by rw [hc];simp -implicitDefEqProofs (maxSteps:=400000) (maxDischargeDepth:=6) [hn]
  by_cases hlt:i<p.o.ops.length
  ·have hlt':(i:Int)<p.o.ops.length:=by omega
   by_cases h4:i<4
   ·have h4':(i:Int)<4:=by omega
    have hw:IntKind.wrap .i64 ((i:Int)+1)=((i+1:Nat):Int):=by rw [wrap64_id]<;>omega
    have hge:p.o.ops[i].gone.length<1000000:=by have:=l5 p.o.ops[i] (List.getElem_mem hlt);omega
    simp -implicitDefEqProofs (maxSteps:=400000) (maxDischargeDepth:=6) [s7L0,k1,kH,k3,k4,kX,askRow,hlt,hlt',h4,h4',hw,hge,hfu,p1,p2,f1,f2,hcl,hne,opRow]
    refine ⟨⟨by omega,by omega⟩,4-(i+1),by omega,hJ _ _ ⟨i+1,by omega,by omega,rfl,by simp -implicitDefEqProofs (maxSteps:=400000) (maxDischargeDepth:=6),(st.T+1,35),n+1,_,by first|exact k1|simp -implicitDefEqProofs (maxSteps:=400000) (maxDischargeDepth:=6) [k1],by simp -implicitDefEqProofs (maxSteps:=400000) (maxDischargeDepth:=6) [kH,askRow,p1,p2,hne,Nat.le_add_right_of_le],by simp -implicitDefEqProofs (maxSteps:=400000) (maxDischargeDepth:=6),by simp -implicitDefEqProofs (maxSteps:=400000) (maxDischargeDepth:=6);rfl,?_,?_,by omega,by first|(simp -implicitDefEqProofs (maxSteps:=400000) (maxDischargeDepth:=6);done)|(simp -implicitDefEqProofs (maxSteps:=400000) (maxDischargeDepth:=6);omega)|omega,by simp -implicitDefEqProofs (maxSteps:=400000) (maxDischargeDepth:=6);repeat' (first|exact hf.mono (by first|omega|(simp<;>omega))|(refine Fresh.set' ?_ (by first|omega|(simp<;>omega)))),by first|(simp -implicitDefEqProofs (maxSteps:=400000) (maxDischargeDepth:=6);done)|(simp -implicitDefEqProofs (maxSteps:=400000) (maxDischargeDepth:=6);omega)|omega⟩⟩
    ·rw [cutTo_self (by simp -implicitDefEqProofs (maxSteps:=400000) (maxDischargeDepth:=6) [hcl]),hc,entsI_succ p i hlt]
     simp -implicitDefEqProofs (maxSteps:=400000) (maxDischargeDepth:=6) [rowsE,opE,entRow,opRow]
    ·rw [entsI_succ p i hlt];simp -implicitDefEqProofs (maxSteps:=400000) (maxDischargeDepth:=6) [hn]
   ·have h4':¬(i:Int)<4:=by omega
    have:i=4:=by omega
    subst this
    have hlt2:(4:Int)<p.o.ops.length:=by omega
    simp -implicitDefEqProofs (maxSteps:=400000) (maxDischargeDepth:=6) [s7L0,k1,kH,k3,k4,kX,askRow,hlt2]
    exact hR _ ⟨id,n,X,by first|exact k1|simp -implicitDefEqProofs (maxSteps:=400000) (maxDischargeDepth:=6) [k1],by first|exact kH|simp -implicitDefEqProofs (maxSteps:=400000) (maxDischargeDepth:=6) [kH],by first|exact k3|simp -implicitDefEqProofs (maxSteps:=400000) (maxDischargeDepth:=6) [k3],by first|exact kX|simp -implicitDefEqProofs (maxSteps:=400000) (maxDischargeDepth:=6) [kX],hc,hn,hn6,hne,by first|exact hf|exact hf.mono (by first|omega|(simp -implicitDefEqProofs (maxSteps:=400000) (maxDischargeDepth:=6);omega))|(simp -implicitDefEqProofs (maxSteps:=400000) (maxDischargeDepth:=6);exact hf.mono (by omega)),by first|(simp -implicitDefEqProofs (maxSteps:=400000) (maxDischargeDepth:=6);done)|(simp -implicitDefEqProofs (maxSteps:=400000) (maxDischargeDepth:=6);omega)|omega⟩
  ·have hlt':¬(i:Int)<p.o.ops.length:=by omega
   have he:entsI p 4=entsI p i:=by
    unfold entsI
    rw [List.take_of_length_le (show p.o.ops.length≤4 by omega),List.take_of_length_le (show p.o.ops.length≤i by omega)]
   simp -implicitDefEqProofs (maxSteps:=400000) (maxDischargeDepth:=6) [s7L0,k1,kH,k3,k4,kX,askRow,hlt,hlt']
   exact hR _ ⟨id,n,X,by first|exact k1|simp -implicitDefEqProofs (maxSteps:=400000) (maxDischargeDepth:=6) [k1],by first|exact kH|simp -implicitDefEqProofs (maxSteps:=400000) (maxDischargeDepth:=6) [kH],by first|exact k3|simp -implicitDefEqProofs (maxSteps:=400000) (maxDischargeDepth:=6) [k3],by first|exact kX|simp -implicitDefEqProofs (maxSteps:=400000) (maxDischargeDepth:=6) [kX],by rw [he];exact hc,by rw [he];exact hn,by omega,hne,by first|exact hf|exact hf.mono (by first|omega|(simp -implicitDefEqProofs (maxSteps:=400000) (maxDischargeDepth:=6);omega))|(simp -implicitDefEqProofs (maxSteps:=400000) (maxDischargeDepth:=6);exact hf.mono (by omega)),by first|(simp -implicitDefEqProofs (maxSteps:=400000) (maxDischargeDepth:=6);done)|(simp -implicitDefEqProofs (maxSteps:=400000) (maxDischargeDepth:=6);omega)|omega⟩
 clear hQ
 rintro st ⟨id,n,X,k1,kH,k3,kX,hc,hn,hn6,hne,hf,hT⟩
 have hfu:∀k d,st.T≤k→st.H (k,d)=.unborn:=hf
 obtain ⟨f1,f2,f3⟩:=hf.arr kX
 have hcl:(cutTo n X).length=n:=by rw [hc];simp -implicitDefEqProofs (maxSteps:=400000) (maxDischargeDepth:=6) [hn]
 have hw:IntKind.wrap .i64 (1+(p.nums.length:Int))=1+(p.nums.length:Int):=by rw [wrap64_id]<;>omega
 simp -implicitDefEqProofs (maxSteps:=400000) (maxDischargeDepth:=6) [k1,kH,k3,kX,askRow,hw,hfu,f1,f2,hcl,hc]
 have hset9:(rowsE (entsI p 4)++[joinRow (1+p.nums.length)]).set n ((joinRow (1+p.nums.length)).set 9 (.sl .old false []))=rowsE (entsR p):=by
  rw [List.set_append_right _ _ (by simp -implicitDefEqProofs (maxSteps:=400000) (maxDischargeDepth:=6) [hn])]
  simp -implicitDefEqProofs (maxSteps:=400000) (maxDischargeDepth:=6) [hn,entsR,rowsE,joinRow,joinE,zeroO,entRow,opRow]
 refine ⟨⟨hn.symm,by omega,by omega⟩,_,.nil (o:=(st.T,43)) (e2:=48) (sz2:=13) (rows:=rowsE (entsI p 4)++[joinRow (1+p.nums.length)]) (k:=n) (j:=9) (r:=joinRow (1+p.nums.length)) (by simp -implicitDefEqProofs (maxSteps:=400000) (maxDischargeDepth:=6) [joinRow])
  (by rw [List.getElem?_append_right (by simp -implicitDefEqProofs (maxSteps:=400000) (maxDischargeDepth:=6) [hn])];simp -implicitDefEqProofs (maxSteps:=400000) (maxDischargeDepth:=6) [hn]) rfl (.refl _),?_,by simp -implicitDefEqProofs (maxSteps:=400000) (maxDischargeDepth:=6) [entsR]⟩
 simp -implicitDefEqProofs (maxSteps:=400000) (maxDischargeDepth:=6) [frzN]
 exact hset9
end Go.AE
set_option linter.unusedVariables false
set_option linter.unusedSimpArgs false
set_option maxHeartbeats 2000000
namespace Go.AE
open Go
theorem refAppR_may {d:DiskV} {at_:Int} {e:EntryV} (hm:mayB d=true) (h0:0≤at_) (h:(refAppR d at_ e).2.2=0) :
  mayB (refAppR d at_ e).1=true∧(refAppR d at_ e).1.safe=d.safe∧0≤(refAppR d at_ e).2.1∧(refAppR d at_ e).2.1≤d.safe.length:=by
 unfold refAppR at h ⊢
 by_cases hf:(framedR e).2=0
 ·obtain ⟨f1,f2,f3⟩:=framedR_ok hf
  rw [if_pos hf] at h ⊢
  generalize (framedR e).1.length/32=n at f1 f2 f3 h ⊢
  by_cases h1:(d.safe.length:Int)<at_∨(d.safe.length:Int)-at_<(n:Nat)∨(400:Int)-d.wait.length<(n:Nat)
  ·rw [if_pos h1] at h;cases h
  ·rw [if_neg h1]
   have a:=appF_ok (B:=(framedR e).1) h0 n 0 d hm (by omega) (by omega) (by omega)
   exact ⟨a.2,rfl,by simp only;omega,by simp only;omega⟩
 ·rw [if_neg hf] at h;cases h
theorem blank_may {n:Nat} (h1:1≤n) (h2:n≤400):mayB ⟨List.replicate n blank,[]⟩=true:=by
 simp only [mayB,Bool.and_eq_true,decide_eq_true_eq,List.length_replicate,List.length_nil,List.all_eq_true]
 refine ⟨⟨⟨⟨h1,h2⟩,by omega⟩,fun x hx=>?_⟩,by simp⟩
 rw [List.eq_of_mem_replicate hx]
 rfl
theorem syncGo_all:∀(l:List Sect) (safe:List (List UInt8)),(∀s∈safe,s.length=32)→(∀x∈l,x.text.length=32)→∀s∈syncGo safe l,s.length=32
 |[],safe,h1,h2=>h1
 |x::r,safe,h1,h2=>by
  unfold syncGo
  refine syncGo_all r _ (fun s hs=>?_) fun y hy=>h2 y (by simp [hy])
  rcases List.mem_or_eq_of_mem_set hs with q|q
  ·exact h1 s q
  ·rw [q];exact h2 x (by simp)
theorem syncGo_may {d:DiskV} (h:mayB d=true):mayB ⟨syncGo d.safe d.wait,[]⟩=true:=by
 obtain ⟨m1,m2,m3,m4,m5⟩:=mayB_of h
 simp only [mayB,Bool.and_eq_true,decide_eq_true_eq,List.length_nil,List.all_eq_true,syncGo_length]
 exact ⟨⟨⟨⟨m1,m2⟩,by omega⟩,fun x hx=>by simpa [isSec] using syncGo_all d.wait d.safe m4 (fun x hx=>(m5 x hx).1) x hx⟩,by simp⟩
end Go.AE
set_option linter.unusedVariables false
set_option linter.unusedSimpArgs false
set_option maxHeartbeats 4000000
set_option maxRecDepth 100000
namespace Go.AE
open Go Go.Proofs
theorem block_c {P:Program} {F:CT} {id:Nat} {x:SC} {Q:AEx→St→Prop} {st:St} (h:awpS P F x (ablock id Q) st):awpS P F (.block id x) Q st:=h
def SeesC (H:Heap) (c:AC) (xs:List (List AC)):Prop:=(∃t cl,c=.sl t cl xs)∨(c=.raw (.slice none 0 0)∧xs=[])∨∃id e sz X,c=.so id 0 xs.length∧H id=.arr e sz false X∧xs.length≤X.length∧X.take xs.length=xs∧(e==30)=false
theorem SeesC.view {H:Heap} {c:AC} {xs:List (List AC)} (h:SeesC H c xs):viewC H c=some (.sl .brw false xs):=by
 rcases h with ⟨t,cl,rfl⟩|⟨rfl,rfl⟩|⟨id,e,sz,X,rfl,h1,h2,h3,_⟩
 ·rfl
 ·rfl
 ·rw [viewC_so]
  have:rowsOf H (.so id 0 xs.length)=some xs:=by
   unfold rowsOf
   simp only [h1]
   rw [if_pos (by omega),List.drop_zero,h3]
  rw [this];rfl
theorem SeesC.ext {H H':Heap} {T T':Nat} {c:AC} {xs:List (List AC)} (h:SeesC H c xs) (he:ExtH [] H T H' T'):SeesC H' c xs:=by
 rcases h with h|h|⟨id,e,sz,X,h0,h1,h2,h3⟩
 ·exact .inl h
 ·exact .inr (.inl h)
 ·exact .inr (.inr ⟨id,e,sz,X,h0,he.arr h1 (by simp -implicitDefEqProofs (maxSteps:=400000) (maxDischargeDepth:=6)),h2,h3⟩)
theorem SeesC.ext1 {H H':Heap} {T T':Nat} {c:AC} {xs:List (List AC)} {G:Id} {sz:Nat} {f:Bool} {r:List (List AC)} (h:SeesC H c xs) (he:ExtH [G] H T H' T') (hG:H G=.arr 30 sz f r):SeesC H' c xs:=by
 rcases h with h|h|⟨id,e,sz,X,h0,h1,h2,h3,h4⟩
 ·exact .inl h
 ·exact .inr (.inl h)
 ·refine .inr (.inr ⟨id,e,sz,X,h0,he.arr h1 ?_,h2,h3,h4⟩)
  simp only [List.mem_singleton]
  rintro rfl
  rw [hG] at h1
  injection h1 with h1
  subst h1
  simp -implicitDefEqProofs (maxSteps:=400000) (maxDischargeDepth:=6) at h4
def SeesD (H:Heap) (r:List AC) (d:DiskV):Prop:=∃c1 c2,r=[c1,c2]∧SeesC H c1 (rowsE d.safe)∧SeesC H c2 (rowsE d.wait)
theorem SeesD.ext {H H':Heap} {T T':Nat} {r:List AC} {d:DiskV} (h:SeesD H r d) (he:ExtH [] H T H' T'):SeesD H' r d:=by
 obtain ⟨c1,c2,h1,h2,h3⟩:=h
 exact ⟨c1,c2,h1,h2.ext he,h3.ext he⟩
theorem SeesD.ext1 {H H':Heap} {T T':Nat} {rw_:List AC} {d:DiskV} {G:Id} {sz:Nat} {f:Bool} {r:List (List AC)} (h:SeesD H rw_ d) (he:ExtH [G] H T H' T') (hG:H G=.arr 30 sz f r):SeesD H' rw_ d:=by
 obtain ⟨c1,c2,h1,h2,h3⟩:=h
 exact ⟨c1,c2,h1,h2.ext1 he hG,h3.ext1 he hG⟩
def smallD (d:DiskV):Prop:=d.safe.length≤3000∧d.wait.length≤1000
def SeesL (H:Heap) (rows:List (List AC)) (ds:List DiskV):Prop:=rows.length=ds.length∧∀(k:Nat) r d,rows[k]?=some r→ds[k]?=some d→SeesD H r d∧smallD d
theorem SeesL.ext {H H':Heap} {T T':Nat} {rows:List (List AC)} {ds:List DiskV} (h:SeesL H rows ds) (he:ExtH [] H T H' T'):SeesL H' rows ds:=
 ⟨h.1,fun k r d h1 h2=>⟨(h.2 k r d h1 h2).1.ext he,(h.2 k r d h1 h2).2⟩⟩
theorem SeesL.ext1 {H H':Heap} {T T':Nat} {rows:List (List AC)} {ds:List DiskV} {G:Id} {sz:Nat} {f:Bool} {r:List (List AC)} (h:SeesL H rows ds) (he:ExtH [G] H T H' T') (hG:H G=.arr 30 sz f r):SeesL H' rows ds:=
 ⟨h.1,fun k r d h1 h2=>⟨(h.2 k r d h1 h2).1.ext1 he hG,(h.2 k r d h1 h2).2⟩⟩
theorem SeesL.nil {H:Heap}:SeesL H [] []:=⟨rfl,by simp -implicitDefEqProofs (maxSteps:=400000) (maxDischargeDepth:=6)⟩
theorem SeesL.snoc {H:Heap} {rows:List (List AC)} {ds:List DiskV} {r:List AC} {d:DiskV} (h:SeesL H rows ds) (h1:SeesD H r d) (h2:smallD d):SeesL H (rows++[r]) (ds++[d]):=by
 obtain ⟨a,b⟩:=h
 refine ⟨by simp -implicitDefEqProofs (maxSteps:=400000) (maxDischargeDepth:=6) [a],fun k r' d' g1 g2=>?_⟩
 by_cases hk:k<rows.length
 ·rw [List.getElem?_append_left hk] at g1
  rw [List.getElem?_append_left (by omega)] at g2
  exact b k r' d' g1 g2
 ·rw [List.getElem?_append_right (by omega)] at g1
  rw [List.getElem?_append_right (by omega)] at g2
  have e1:k-rows.length=0:=by
   have:=(List.getElem?_eq_some_iff.1 g1).1
   simp -implicitDefEqProofs (maxSteps:=400000) (maxDischargeDepth:=6) at this;omega
  rw [e1] at g1
  rw [←a,e1] at g2
  simp -implicitDefEqProofs (maxSteps:=400000) (maxDischargeDepth:=6) at g1 g2
  subst g1 g2
  exact ⟨h1,h2⟩
def u8R (l:List UInt8):List (List AC):=l.map fun b=>[.raw (.int .u8 (b.toNat:Int))]
@[simp] theorem u8R_len (l:List UInt8):(u8R l).length=l.length:=by simp -implicitDefEqProofs (maxSteps:=400000) (maxDischargeDepth:=6) [u8R]
theorem u8R_bytes:∀l:List UInt8,bytesAC (u8R l)=some l
 |[]=>rfl
 |b::r=>by
  have ih:=u8R_bytes r
  unfold u8R at ih ⊢
  rw [List.map_cons,bytesAC_cons,ih]
  simp -implicitDefEqProofs (maxSteps:=400000) (maxDischargeDepth:=6)
theorem u8R_set (l:List UInt8) (i:Nat) (h:i<l.length):(u8R l).set i [.raw (.int .u8 (IntKind.wrap .u8 ((l[i].toNat:Int)+1)))]=u8R (l.set i (l[i]+1)):=by
 have e:IntKind.wrap .u8 ((l[i].toNat:Int)+1)=(((l[i]+1:UInt8)).toNat:Int):=by
  rw [UInt8.toNat_add]
  simp -implicitDefEqProofs (maxSteps:=400000) (maxDischargeDepth:=6) [IntKind.wrap,IntKind.bits,IntKind.signed]
 rw [e,u8R,u8R,List.map_set]
def diskN (d:DiskV):List AC:=[.sl .new false (rowsE d.safe),.sl .new false (rowsE d.wait)]
def appendN (r:DiskV×Int×Int):AV:=.t [(true,diskN r.1),(false,[.raw (.int .i64 r.2.1)]),(false,[.raw (.int .i64 r.2.2)])]
def FK7_h7:List AV→Option (Prop×AV):=t1 (fun p=>AskS p∧heavy15 p=false) fun p:AskD=>.c (.sl .new false (rowsE (entsR p)))
@[simp] theorem FK7_ap7 {l:List AV}:FK7_h7 l=(t1 (fun p=>AskS p∧heavy15 p=false) fun p:AskD=>.c (.sl .new false (rowsE (entsR p)))) l:=rfl
def FK7_h6:List AV→Option (Prop×AV):=t1 (fun n:Int=>0≤n∧n≤1000) fun n:Int=>.g (diskN ⟨List.replicate n.toNat blank,[]⟩)
@[simp] theorem FK7_ap6 {l:List AV}:FK7_h6 l=(t1 (fun n:Int=>0≤n∧n≤1000) fun n:Int=>.g (diskN ⟨List.replicate n.toNat blank,[]⟩)) l:=rfl
def FK7_h56:List AV→Option (Prop×AV):=t1 (fun d:DiskV=>mayB d=true) fun d:DiskV=>.g (diskN ⟨syncGo d.safe d.wait,[]⟩)
@[simp] theorem FK7_ap56 {l:List AV}:FK7_h56 l=(t1 (fun d:DiskV=>mayB d=true) fun d:DiskV=>.g (diskN ⟨syncGo d.safe d.wait,[]⟩)) l:=rfl
def FK7_h28:List AV→Option (Prop×AV):=t3 (fun (d:DiskV) (n:Int) (e:EntryV)=>mayB d=true∧okF e∧0≤n∧n<9223372036854775808) fun (d:DiskV) (n:Int) (e:EntryV)=>appendN (refAppR d n e)
@[simp] theorem FK7_ap28 {l:List AV}:FK7_h28 l=(t3 (fun (d:DiskV) (n:Int) (e:EntryV)=>mayB d=true∧okF e∧0≤n∧n<9223372036854775808) fun (d:DiskV) (n:Int) (e:EntryV)=>appendN (refAppR d n e)) l:=rfl
def FK7:CT:=(7,.pu FK7_h7)::(6,.pu FK7_h6)::(56,.pu FK7_h56)::(28,.pu FK7_h28)::FK6
theorem FK7_ok:CTok Tryz.prog FK7:=⟨tells1 fun p h=>(entries_ev p h.1 h.2).frz .new (by simp -implicitDefEqProofs (maxSteps:=400000) (maxDischargeDepth:=6)),
 tells1 fun n h=>(refNewI_ev n h).frz .new (by simp -implicitDefEqProofs (maxSteps:=400000) (maxDischargeDepth:=6)),
 tells1 fun d h=>(refSync_ev d h).frz .new (by simp -implicitDefEqProofs (maxSteps:=400000) (maxDischargeDepth:=6)),
 tells3 fun d n e h=>(refAppend_ev d n e h.1 h.2.1 h.2.2.1 h.2.2.2).frz .new (by simp -implicitDefEqProofs (maxSteps:=400000) (maxDischargeDepth:=6)),FK6_ok⟩
@[simp] theorem FK7_get7:ctGet FK7 7=some (.pu FK7_h7):=rfl
@[simp] theorem FK7_get6:ctGet FK7 6=some (.pu FK7_h6):=rfl
@[simp] theorem FK7_get56:ctGet FK7 56=some (.pu FK7_h56):=rfl
@[simp] theorem FK7_get28:ctGet FK7 28=some (.pu FK7_h28):=rfl
@[simp] theorem FK7_skip {n:Nat} (h:(n==7||n==6||n==56||n==28)=false):ctGet FK7 n=ctGet FK6 n:=by
 simp only [Bool.or_eq_false_iff,beq_eq_false_iff_ne,ne_eq] at h
 simp [FK7,ctGet,h]
end Go.AE
set_option linter.unusedVariables false
set_option linter.unusedSimpArgs false
set_option maxHeartbeats 4000000
set_option maxRecDepth 100000
namespace Go.AE
open Go Go.Proofs
theorem entsR_small {p:AskD} (hp:AskS p) (hl:heavy15 p=false):(entsR p).length≤11∧∀e∈entsR p,e.op.text.length≤4000∧e.op.gone.length≤1000:=by
 obtain ⟨l1,l2,l3,l4,l5,l6,l7⟩:=light15 hp hl
 constructor
 ·simp only [entsR,entsI,List.length_append,List.length_take,List.length_map,List.length_singleton]
  omega
 ·intro e he
  simp only [entsR,entsI,List.mem_append,List.mem_map,List.mem_singleton] at he
  rcases he with (he|⟨o,ho,rfl⟩)|rfl
  ·exact l3 e (List.mem_of_mem_take he)
  ·exact l5 o (List.mem_of_mem_take ho)
  ·exact ⟨by simp -implicitDefEqProofs (maxSteps:=400000) (maxDischargeDepth:=6) [joinE,zeroO],by simp -implicitDefEqProofs (maxSteps:=400000) (maxDischargeDepth:=6) [joinE,zeroO]⟩
def DkB (p:AskD) (H0:Heap) (T0:Nat) (v:Id) (d:DiskV) (st:St):Prop:=
 st.s 1=.c (.pt (T0+1,1) 0 0)∧st.H (T0+1,1)=.arr 36 9 false [askRow p]∧st.s 3=.c (.pt v 0 0)∧st.H v=.arr 30 2 false [diskN d]∧mayB d=true∧d.safe.length=60∧
 (((T0+1,1):Id)=v)=False∧(v=((T0+1,1):Id))=False∧T0≤v.1∧ExtH [] H0 T0 st.H st.T∧T0+1<st.T
def DkI0 (p:AskD) (H0:Heap) (T0:Nat) (v:Id) (L:List EntryV) (q:Nat) (st:St):Prop:=∃(i a:Nat) (d:DiskV),i≤L.length∧q=L.length-i∧a≤60∧DkB p H0 T0 v d st∧st.s 4=.c (.raw (.int .i64 a))∧st.s 5=.c (.sl .new false (rowsE L))∧st.s 6=.c (.raw (.int .i64 i))
theorem disks_l0 {Q:AEx→St→Prop} {st:St} (p:AskD) (H0:Heap) (T0:Nat) (v:Id) (L:List EntryV) (hL:L.length≤11) (hE:∀e∈L,e.op.text.length≤4000∧e.op.gone.length≤1000) (h0:DkI0 p H0 T0 v L L.length st)
  (hn:∀st' (a:Nat) d,a≤60→DkB p H0 T0 v d st'→st'.s 4=.c (.raw (.int .i64 a))→Q (.exit 0) st'):awpS Tryz.prog FK7 (.loop s22L0) Q st:=by
 refine loop_c (DkI0 p H0 T0 v L) L.length h0 ?_
 clear h0 st
 rintro q st ⟨i,a,d,hi,rfl,ha,⟨k1,kH,k3,kv,hm,hs,n1,n2,hv,he,hT⟩,k4,k5,k6⟩ J hJ
 have hf:=he.fresh
 have hfu:∀k d,st.T≤k→st.H (k,d)=.unborn:=hf
 obtain ⟨p1,p2,p3⟩:=hf.arr kH
 obtain ⟨f1,f2,f3⟩:=hf.arr kv
 have hT0:=he.2.2.1
 by_cases hlt:i<L.length
 ·have hlt':(i:Int)<L.length:=by omega
  have hw:IntKind.wrap .i64 ((i:Int)+1)=((i+1:Nat):Int):=by rw [wrap64_id]<;>omega
  obtain ⟨q1,q2⟩:=hE L[i] (List.getElem_mem hlt)
  have q3:L[i].op.text.length<1000000:=by omega
  have q4:L[i].op.gone.length<4611686018427387904:=by omega
  have a0:(0:Int)≤(a:Int):=by omega
  have a1:(a:Int)<9223372036854775808:=by omega
  cases c1:entMayB L[i]
  ·simp -implicitDefEqProofs (maxSteps:=400000) (maxDischargeDepth:=6) [s22L0,k1,k3,k4,k5,k6,kv,hlt,hlt',hw,q3,q4,c1,entRow,opRow]
   exact ⟨L.length-(i+1),by omega,hJ _ _ ⟨i+1,a,d,by omega,rfl,ha,⟨by simp -implicitDefEqProofs (maxSteps:=400000) (maxDischargeDepth:=6) [k1],by simp -implicitDefEqProofs (maxSteps:=400000) (maxDischargeDepth:=6) [kH],by simp -implicitDefEqProofs (maxSteps:=400000) (maxDischargeDepth:=6) [k3],by simp -implicitDefEqProofs (maxSteps:=400000) (maxDischargeDepth:=6) [kv],hm,hs,n1,n2,hv,by simp -implicitDefEqProofs (maxSteps:=400000) (maxDischargeDepth:=6);exact he.tick (by omega),by simp -implicitDefEqProofs (maxSteps:=400000) (maxDischargeDepth:=6);omega⟩,by simp -implicitDefEqProofs (maxSteps:=400000) (maxDischargeDepth:=6) [k4],by simp -implicitDefEqProofs (maxSteps:=400000) (maxDischargeDepth:=6) [k5],by simp -implicitDefEqProofs (maxSteps:=400000) (maxDischargeDepth:=6)⟩⟩
  ·have hok:okF L[i]:=entMayB_ok c1 q3 (by omega)
   obtain ⟨x,nx,c,hr⟩:∃x nx c,refAppR d a L[i]=(x,nx,c):=⟨_,_,_,rfl⟩
   have hmay:=refAppR_may (e:=L[i]) hm a0
   rw [hr] at hmay
   by_cases c2:c=0
   ·obtain ⟨m1,m2,m3,m4⟩:=hmay c2
    simp only at m1 m2 m3 m4
    obtain ⟨b,rfl⟩:=Int.eq_ofNat_of_zero_le m3
    subst c2
    simp -implicitDefEqProofs (maxSteps:=400000) (maxDischargeDepth:=6) [s22L0,k1,k3,k4,k5,k6,kv,hlt,hlt',hw,q3,q4,c1,entRow,opRow,hok,hm,hr,appendN,diskN,hfu,p1,p2,f1,f2,a1,Nat.le_add_right_of_le]
    refine ⟨L.length-(i+1),by omega,hJ _ _ ⟨i+1,b,x,by omega,rfl,by omega,⟨by simp -implicitDefEqProofs (maxSteps:=400000) (maxDischargeDepth:=6) [k1],by simp -implicitDefEqProofs (maxSteps:=400000) (maxDischargeDepth:=6) [kH,p1,p2,n1,n2,Nat.le_add_right_of_le],by simp -implicitDefEqProofs (maxSteps:=400000) (maxDischargeDepth:=6) [k3],by simp -implicitDefEqProofs (maxSteps:=400000) (maxDischargeDepth:=6) [diskN,f1,f2,Nat.le_add_right_of_le],m1,by rw [m2,hs],n1,n2,hv,?_,by simp -implicitDefEqProofs (maxSteps:=400000) (maxDischargeDepth:=6);omega⟩,by simp -implicitDefEqProofs (maxSteps:=400000) (maxDischargeDepth:=6),by simp -implicitDefEqProofs (maxSteps:=400000) (maxDischargeDepth:=6) [k5],by simp -implicitDefEqProofs (maxSteps:=400000) (maxDischargeDepth:=6)⟩⟩
    simp -implicitDefEqProofs (maxSteps:=400000) (maxDischargeDepth:=6)
    repeat' (first|exact he.tick (by first|omega|(simp<;>omega))|(refine ExtH.new ?_ (by first|omega|(simp<;>omega)) (by first|omega|(simp<;>omega)))|(refine ExtH.set ?_ (by simp) (by first|omega|(simp<;>omega))))
   ·simp -implicitDefEqProofs (maxSteps:=400000) (maxDischargeDepth:=6) [s22L0,k1,k3,k4,k5,k6,kv,hlt,hlt',hw,q3,q4,c1,c2,entRow,opRow,hok,hm,hr,appendN,diskN,hfu,p1,p2,f1,f2,a1,Nat.le_add_right_of_le]
    refine ⟨L.length-(i+1),by omega,hJ _ _ ⟨i+1,a,d,by omega,rfl,ha,⟨by simp -implicitDefEqProofs (maxSteps:=400000) (maxDischargeDepth:=6) [k1],by simp -implicitDefEqProofs (maxSteps:=400000) (maxDischargeDepth:=6) [kH,p1,p2,n1,n2,Nat.le_add_right_of_le],by simp -implicitDefEqProofs (maxSteps:=400000) (maxDischargeDepth:=6) [k3],by simp -implicitDefEqProofs (maxSteps:=400000) (maxDischargeDepth:=6) [kv,diskN,f1,f2,Nat.le_add_right_of_le],hm,hs,n1,n2,hv,?_,by simp -implicitDefEqProofs (maxSteps:=400000) (maxDischargeDepth:=6);omega⟩,by simp -implicitDefEqProofs (maxSteps:=400000) (maxDischargeDepth:=6) [k4],by simp -implicitDefEqProofs (maxSteps:=400000) (maxDischargeDepth:=6) [k5],by simp -implicitDefEqProofs (maxSteps:=400000) (maxDischargeDepth:=6)⟩⟩
    simp -implicitDefEqProofs (maxSteps:=400000) (maxDischargeDepth:=6)
    repeat' (first|exact he.tick (by first|omega|(simp<;>omega))|(refine ExtH.new ?_ (by first|omega|(simp<;>omega)) (by first|omega|(simp<;>omega)))|(refine ExtH.set ?_ (by simp) (by first|omega|(simp<;>omega))))
 ·have hlt':¬(i:Int)<L.length:=by omega
  simp -implicitDefEqProofs (maxSteps:=400000) (maxDischargeDepth:=6) [s22L0,k5,k6,hlt,hlt']
  exact hn _ a d ha ⟨by simp -implicitDefEqProofs (maxSteps:=400000) (maxDischargeDepth:=6) [k1],by simp -implicitDefEqProofs (maxSteps:=400000) (maxDischargeDepth:=6) [kH],by simp -implicitDefEqProofs (maxSteps:=400000) (maxDischargeDepth:=6) [k3],by simp -implicitDefEqProofs (maxSteps:=400000) (maxDischargeDepth:=6) [kv],hm,hs,n1,n2,hv,by simp -implicitDefEqProofs (maxSteps:=400000) (maxDischargeDepth:=6);exact he.tick (by omega),by simp -implicitDefEqProofs (maxSteps:=400000) (maxDischargeDepth:=6);omega⟩ (by simp -implicitDefEqProofs (maxSteps:=400000) (maxDischargeDepth:=6) [k4])
end Go.AE
