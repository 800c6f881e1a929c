/- StoreExact: the walk and the reading. -/
import Derived.Test.YtjafmhgkfkfimaaGreatDoorEx3
import Derived.Test.YtjafmhgkfkfimaaGreatDoorEx6
set_option linter.unusedVariables false
set_option linter.unusedSimpArgs false
set_option maxHeartbeats 4000000
set_option maxRecDepth 100000
namespace Go.AE
open Go Go.Proofs
def DkA (T0:Nat) (v G:Id) (n:Nat) (st:St):Prop:=∃rows ds,st.s 10=.c (.so G 0 n)∧st.H G=.arr 30 2 false rows∧rows.length=n∧SeesL st.H rows ds∧(v=G)=False∧(G=v)=False∧(((T0+1,1):Id)=G)=False∧(G=((T0+1,1):Id))=False∧T0≤G.1
def DkI1 (p:AskD) (H0:Heap) (T0:Nat) (v:Id) (d:DiskV) (a:Nat) (q:Nat) (st:St):Prop:=∃(k:Nat) (G:Id),k≤5∧q=5-k∧DkB p H0 T0 v d st∧st.s 4=.c (.raw (.int .i64 a))∧st.s 11=.c (.raw (.int .i64 k))∧DkA T0 v G (3+k) st
def DkW (p:AskD) (T0:Nat) (v G:Id) (d:DiskV) (a k:Nat) (H1:Heap) (T1:Nat) (rows:List (List AC)) (st:St):Prop:=
 st.s 1=.c (.pt (T0+1,1) 0 0)∧st.s 3=.c (.pt v 0 0)∧st.s 4=.c (.raw (.int .i64 a))∧st.s 10=.c (.so G 0 (3+k))∧st.s 11=.c (.raw (.int .i64 k))∧ExtH [] H1 T1 st.H st.T∧
 st.H (T0+1,1)=.arr 36 9 false [askRow p]∧st.H v=.arr 30 2 false [diskN d]∧st.H G=.arr 30 2 false rows
def DkX (T1:Nat) (y i j:Id) (S:List (List UInt8)) (W:List Sect) (m:Nat) (st:St):Prop:=
 st.s 12=.c (.pt y 0 0)∧st.H y=.arr 30 2 false [[.so i 0 m,.so j 0 W.length]]∧st.H i=.arr 9 1 false (rowsE S)∧st.H j=.arr 88 2 false (rowsE W)∧T1≤y.1∧T1≤i.1∧T1≤j.1
@[simp] theorem u8R_elem {l:List UInt8} {i:Nat} (h:i<(u8R l).length):(u8R l)[i]=[.raw (.int .u8 (((l[i]'(by simpa using h)).toNat:Nat):Int))]:=by simp -implicitDefEqProofs (maxSteps:=400000) (maxDischargeDepth:=6) [u8R]
theorem ne_arr {H:Heap} {x z:Id} {e e' sz sz':Nat} {f f':Bool} {r r':List (List AC)} (hx:H x=.arr e sz f r) (hz:H z=.arr e' sz' f' r') (h:(e==e')=false):(x=z)=False∧(z=x)=False:=by
 have a1:¬x=z:=by
  rintro rfl
  rw [hx] at hz
  injection hz with h1
  subst h1
  simp -implicitDefEqProofs (maxSteps:=400000) (maxDischargeDepth:=6) at h
 exact ⟨by simp -implicitDefEqProofs (maxSteps:=400000) (maxDischargeDepth:=6) [a1],by simp -implicitDefEqProofs (maxSteps:=400000) (maxDischargeDepth:=6);exact fun h=>a1 h.symm⟩
theorem ne_id {x z:Id} {T:Nat} (hx:x.1<T) (hz:T≤z.1):(x=z)=False∧(z=x)=False:=by
 have a1:¬x=z:=by rintro rfl;omega
 exact ⟨by simp -implicitDefEqProofs (maxSteps:=400000) (maxDischargeDepth:=6) [a1],by simp -implicitDefEqProofs (maxSteps:=400000) (maxDischargeDepth:=6);exact fun h=>a1 h.symm⟩
theorem DkX_ne {H:Heap} {y i j:Id} {r1:List (List AC)} {S:List (List UInt8)} {W:List Sect} (hy:H y=.arr 30 2 false r1) (hi:H i=.arr 9 1 false (rowsE S)) (hj:H j=.arr 88 2 false (rowsE W)) :
  ((y=i)=False∧(i=y)=False)∧((y=j)=False∧(j=y)=False)∧((i=j)=False∧(j=i)=False):=by
 have a1:¬y=i:=by rintro rfl;rw [hy] at hi;simp -implicitDefEqProofs (maxSteps:=400000) (maxDischargeDepth:=6) at hi
 have a2:¬y=j:=by rintro rfl;rw [hy] at hj;simp -implicitDefEqProofs (maxSteps:=400000) (maxDischargeDepth:=6) at hj
 have a3:¬i=j:=by rintro rfl;rw [hi] at hj;simp -implicitDefEqProofs (maxSteps:=400000) (maxDischargeDepth:=6) at hj
 exact ⟨⟨by simp -implicitDefEqProofs (maxSteps:=400000) (maxDischargeDepth:=6) [a1],by simp -implicitDefEqProofs (maxSteps:=400000) (maxDischargeDepth:=6);exact fun h=>a1 h.symm⟩,⟨by simp -implicitDefEqProofs (maxSteps:=400000) (maxDischargeDepth:=6) [a2],by simp -implicitDefEqProofs (maxSteps:=400000) (maxDischargeDepth:=6);exact fun h=>a2 h.symm⟩,⟨by simp -implicitDefEqProofs (maxSteps:=400000) (maxDischargeDepth:=6) [a3],by simp -implicitDefEqProofs (maxSteps:=400000) (maxDischargeDepth:=6);exact fun h=>a3 h.symm⟩⟩
theorem disks_l1 {Q:AEx→St→Prop} {st:St} (p:AskD) (hnums:p.nums.length≤500) (H0:Heap) (T0:Nat) (v:Id) (d:DiskV) (a:Nat) (ha:a≤60) (h0:DkI1 p H0 T0 v d a 5 st)
  (hn:∀st' G,DkB p H0 T0 v d st'→DkA T0 v G 8 st'→Q (.exit 2) st'):awpS Tryz.prog FK7 (.loop s22L1) Q st:=by
 refine loop_c (DkI1 p H0 T0 v d a) 5 h0 ?_
 clear h0 st
 rintro q st ⟨k,G,hk,rfl,⟨k1,kH,k3,kv,hm,hs,n1,n2,hv,he,hT⟩,k4,k11,rows,ds,k10,kG,hrl,hS,g1,g2,g3,g4,g5⟩ J hJ
 obtain ⟨m1,m2,m3,m4,m5⟩:=mayB_of hm
 by_cases hlt:k<5
 ·have hlt':(k:Int)<5:=by omega
  refine seq_c (DkW p T0 v G d a k st.H st.T rows) ?_ ?_
  ·intro R' hR
   simp -implicitDefEqProofs (maxSteps:=400000) (maxDischargeDepth:=6) [k11,hlt']
   refine hR _ ⟨by simp -implicitDefEqProofs (maxSteps:=400000) (maxDischargeDepth:=6) [k1],by simp -implicitDefEqProofs (maxSteps:=400000) (maxDischargeDepth:=6) [k3],by simp -implicitDefEqProofs (maxSteps:=400000) (maxDischargeDepth:=6) [k4],by simp -implicitDefEqProofs (maxSteps:=400000) (maxDischargeDepth:=6) [k10],by simp -implicitDefEqProofs (maxSteps:=400000) (maxDischargeDepth:=6) [k11],by simp -implicitDefEqProofs (maxSteps:=400000) (maxDischargeDepth:=6);exact (ExtH.refl he.fresh).tick (by omega),by simp -implicitDefEqProofs (maxSteps:=400000) (maxDischargeDepth:=6) [kH],by simp -implicitDefEqProofs (maxSteps:=400000) (maxDischargeDepth:=6) [kv],by simp -implicitDefEqProofs (maxSteps:=400000) (maxDischargeDepth:=6) [kG]⟩
  have he0:=he
  have hS0:=hS
  have hv1:=(he.fresh.arr kv).2.2
  have hg1:=(he.fresh.arr kG).2.2
  have kG0:=kG
  clear k1 kH k3 kv he k4 k11 k10 kG hS
  generalize hH1:st.H=H1 at he0 hS0 kG0 ⊢
  generalize hT1:st.T=T1 at he0 hT hv1 hg1 ⊢
  clear hH1 hT1 st
  rintro st hW
  refine seq_c (fun st'=>∃G',DkB p H0 T0 v d st'∧st'.s 4=.c (.raw (.int .i64 a))∧st'.s 11=.c (.raw (.int .i64 k))∧DkA T0 v G' (3+k+1) st') ?_ ?_
  ·intro R' hR
   refine block_c ?_
   refine seq_c (fun st'=>∃y i j,DkW p T0 v G d a k H1 T1 rows st'∧DkX T1 y i j d.safe d.wait d.safe.length st') ?_ ?_
   ·intro R' hR
    obtain ⟨k1,k3,k4,k10,k11,he,kH,kv,kG⟩:=hW
    have hf:=he.fresh
    have hfu:∀k d,st.T≤k→st.H (k,d)=.unborn:=hf
    obtain ⟨p1,p2,p3⟩:=hf.arr kH
    obtain ⟨f1,f2,f3⟩:=hf.arr kv
    obtain ⟨f4,f5,f6⟩:=hf.arr kG
    have hT0:=he.2.2.1
    have l1:d.safe.length<1000000:=by omega
    have l2:d.wait.length<1000000:=by omega
    simp -implicitDefEqProofs (maxSteps:=400000) (maxDischargeDepth:=6) [k3,kv,diskN,diskNw,l1,l2,hfu,f1,f2]
    exact hR _ ⟨(st.T,12),(st.T,60416),(st.T,60417),⟨by simp -implicitDefEqProofs (maxSteps:=400000) (maxDischargeDepth:=6) [k1],by simp -implicitDefEqProofs (maxSteps:=400000) (maxDischargeDepth:=6) [k3],by simp -implicitDefEqProofs (maxSteps:=400000) (maxDischargeDepth:=6) [k4],by simp -implicitDefEqProofs (maxSteps:=400000) (maxDischargeDepth:=6) [k10],by simp -implicitDefEqProofs (maxSteps:=400000) (maxDischargeDepth:=6) [k11],by simp -implicitDefEqProofs (maxSteps:=400000) (maxDischargeDepth:=6);repeat' (first|exact he.tick (by first|omega|(simp<;>omega))|(refine ExtH.new ?_ (by first|omega|(simp<;>omega)) (by first|omega|(simp<;>omega)))|(refine ExtH.set ?_ (by simp) (by first|omega|(simp<;>omega)))),by simp -implicitDefEqProofs (maxSteps:=400000) (maxDischargeDepth:=6) [kH,p1,p2,Nat.le_add_right_of_le],by simp -implicitDefEqProofs (maxSteps:=400000) (maxDischargeDepth:=6) [kv,f1,f2,diskN,Nat.le_add_right_of_le],by simp -implicitDefEqProofs (maxSteps:=400000) (maxDischargeDepth:=6) [kG,f4,f5,Nat.le_add_right_of_le]⟩,by simp -implicitDefEqProofs (maxSteps:=400000) (maxDischargeDepth:=6),by simp -implicitDefEqProofs (maxSteps:=400000) (maxDischargeDepth:=6),by simp -implicitDefEqProofs (maxSteps:=400000) (maxDischargeDepth:=6),by simp -implicitDefEqProofs (maxSteps:=400000) (maxDischargeDepth:=6),hT0,hT0,hT0⟩
   clear hW st
   rintro st ⟨y,i,j,hW,hX⟩
   refine seq_c (fun st'=>∃jj:Nat,jj<60∧st'.s 13=.c (.raw (.int .i64 jj))∧DkW p T0 v G d a k H1 T1 rows st'∧DkX T1 y i j d.safe d.wait d.safe.length st') ?_ ?_
   ·intro R' hR
    obtain ⟨k1,k3,k4,k10,k11,he,kH,kv,kG⟩:=hW
    have hf:=he.fresh
    have hfu:∀k d,st.T≤k→st.H (k,d)=.unborn:=hf
    obtain ⟨p1,p2,p3⟩:=hf.arr kH
    obtain ⟨f1,f2,f3⟩:=hf.arr kv
    obtain ⟨f4,f5,f6⟩:=hf.arr kG
    have hT0:=he.2.2.1
    obtain ⟨x12,hy,hi,hj,y1,y2,y3⟩:=hX
    obtain ⟨u1,u2,u3⟩:=hf.arr hy
    obtain ⟨u4,u5,u6⟩:=hf.arr hi
    obtain ⟨u7,u8,u9⟩:=hf.arr hj
    obtain ⟨ne1,ne2,ne3⟩:=DkX_ne hy hi hj
    obtain ⟨M,hM,hM1,hM2⟩:∃M:Int,(if (a:Int)<1 then 1 else (a:Int))=M∧1≤M∧M≤60:=⟨_,rfl,by split<;>omega,by split<;>omega⟩
    have e1:IntKind.wrap .i64 ((k:Int)*3)=(k:Int)*3:=by rw [wrap64_id]<;>omega
    have e2:IntKind.wrap .i64 ((k:Int)*3+p.nums.length)=(k:Int)*3+p.nums.length:=by rw [wrap64_id]<;>omega
    obtain ⟨jj,hjj⟩:=Int.eq_ofNat_of_zero_le (show 0≤within ((k:Int)*3+p.nums.length) M from Int.emod_nonneg _ (by omega))
    have hjl:within ((k:Int)*3+p.nums.length) M<M:=Int.emod_lt_of_pos _ (by omega)
    have c1:0<M:=by omega
    have c2:M≤9223372036854775807:=by omega
    simp -implicitDefEqProofs (maxSteps:=400000) (maxDischargeDepth:=6) [k1,kH,askRow,k4,k11,e1,e2,hM,hjj,c1,c2]
    exact hR _ ⟨jj,by omega,by simp -implicitDefEqProofs (maxSteps:=400000) (maxDischargeDepth:=6),⟨by simp -implicitDefEqProofs (maxSteps:=400000) (maxDischargeDepth:=6) [k1],by simp -implicitDefEqProofs (maxSteps:=400000) (maxDischargeDepth:=6) [k3],by simp -implicitDefEqProofs (maxSteps:=400000) (maxDischargeDepth:=6) [k4],by simp -implicitDefEqProofs (maxSteps:=400000) (maxDischargeDepth:=6) [k10],by simp -implicitDefEqProofs (maxSteps:=400000) (maxDischargeDepth:=6) [k11],by simp -implicitDefEqProofs (maxSteps:=400000) (maxDischargeDepth:=6);repeat' (first|exact he.tick (by first|omega|(simp<;>omega))|(refine ExtH.new ?_ (by first|omega|(simp<;>omega)) (by first|omega|(simp<;>omega)))|(refine ExtH.set ?_ (by simp) (by first|omega|(simp<;>omega)))),by simp -implicitDefEqProofs (maxSteps:=400000) (maxDischargeDepth:=6) [kH,p1,p2,Nat.le_add_right_of_le],by simp -implicitDefEqProofs (maxSteps:=400000) (maxDischargeDepth:=6) [kv,f1,f2,diskN,Nat.le_add_right_of_le],by simp -implicitDefEqProofs (maxSteps:=400000) (maxDischargeDepth:=6) [kG,f4,f5,Nat.le_add_right_of_le]⟩,⟨by simp -implicitDefEqProofs (maxSteps:=400000) (maxDischargeDepth:=6) [x12],by simp -implicitDefEqProofs (maxSteps:=400000) (maxDischargeDepth:=6) [hy,u1,u2,Nat.le_add_right_of_le],by simp -implicitDefEqProofs (maxSteps:=400000) (maxDischargeDepth:=6) [hi,u4,u5,Nat.le_add_right_of_le],by simp -implicitDefEqProofs (maxSteps:=400000) (maxDischargeDepth:=6) [hj,u7,u8,Nat.le_add_right_of_le],y1,y2,y3⟩⟩
   clear hW hX st
   rintro st ⟨jj,hjj,k13,hW,hX⟩
   have hjs:jj<d.safe.length:=by omega
   have hs32:d.safe[jj].length=32:=m4 _ (List.getElem_mem hjs)
   refine seq_c (fun st'=>∃u:Id,st'.s 13=.c (.raw (.int .i64 jj))∧st'.s 14=.c (.so u 0 32)∧st'.H u=.arr 5 1 false (u8R d.safe[jj])∧T1≤u.1∧DkW p T0 v G d a k H1 T1 rows st'∧DkX T1 y i j d.safe d.wait d.safe.length st') ?_ ?_
   ·intro R' hR
    obtain ⟨k1,k3,k4,k10,k11,he,kH,kv,kG⟩:=hW
    have hf:=he.fresh
    have hfu:∀k d,st.T≤k→st.H (k,d)=.unborn:=hf
    obtain ⟨p1,p2,p3⟩:=hf.arr kH
    obtain ⟨f1,f2,f3⟩:=hf.arr kv
    obtain ⟨f4,f5,f6⟩:=hf.arr kG
    have hT0:=he.2.2.1
    obtain ⟨x12,hy,hi,hj,y1,y2,y3⟩:=hX
    obtain ⟨u1,u2,u3⟩:=hf.arr hy
    obtain ⟨u4,u5,u6⟩:=hf.arr hi
    obtain ⟨u7,u8,u9⟩:=hf.arr hj
    obtain ⟨ne1,ne2,ne3⟩:=DkX_ne hy hi hj
    have hjs':(jj:Int)<d.safe.length:=by omega
    simp -implicitDefEqProofs (maxSteps:=400000) (maxDischargeDepth:=6) [x12,hy,hi,k13,hjs,hjs',hs32,hfu]
    exact hR _ ⟨(st.T,73),by simp -implicitDefEqProofs (maxSteps:=400000) (maxDischargeDepth:=6) [k13],by simp -implicitDefEqProofs (maxSteps:=400000) (maxDischargeDepth:=6),by simp -implicitDefEqProofs (maxSteps:=400000) (maxDischargeDepth:=6) [u8R],hT0,⟨by simp -implicitDefEqProofs (maxSteps:=400000) (maxDischargeDepth:=6) [k1],by simp -implicitDefEqProofs (maxSteps:=400000) (maxDischargeDepth:=6) [k3],by simp -implicitDefEqProofs (maxSteps:=400000) (maxDischargeDepth:=6) [k4],by simp -implicitDefEqProofs (maxSteps:=400000) (maxDischargeDepth:=6) [k10],by simp -implicitDefEqProofs (maxSteps:=400000) (maxDischargeDepth:=6) [k11],by simp -implicitDefEqProofs (maxSteps:=400000) (maxDischargeDepth:=6);repeat' (first|exact he.tick (by first|omega|(simp<;>omega))|(refine ExtH.new ?_ (by first|omega|(simp<;>omega)) (by first|omega|(simp<;>omega)))|(refine ExtH.set ?_ (by simp) (by first|omega|(simp<;>omega)))),by simp -implicitDefEqProofs (maxSteps:=400000) (maxDischargeDepth:=6) [kH,p1,p2,Nat.le_add_right_of_le],by simp -implicitDefEqProofs (maxSteps:=400000) (maxDischargeDepth:=6) [kv,f1,f2,diskN,Nat.le_add_right_of_le],by simp -implicitDefEqProofs (maxSteps:=400000) (maxDischargeDepth:=6) [kG,f4,f5,Nat.le_add_right_of_le]⟩,⟨by simp -implicitDefEqProofs (maxSteps:=400000) (maxDischargeDepth:=6) [x12],by simp -implicitDefEqProofs (maxSteps:=400000) (maxDischargeDepth:=6) [hy,u1,u2,Nat.le_add_right_of_le],by simp -implicitDefEqProofs (maxSteps:=400000) (maxDischargeDepth:=6) [hi,u4,u5,Nat.le_add_right_of_le],by simp -implicitDefEqProofs (maxSteps:=400000) (maxDischargeDepth:=6) [hj,u7,u8,Nat.le_add_right_of_le],y1,y2,y3⟩⟩
   clear k13 hW hX st
   rintro st ⟨u,k13,k14,hu,hu0,hW,hX⟩
   generalize d.safe[jj]=s at hs32 hu
   refine seq_c (fun st'=>∃s':List UInt8,s'.length=32∧st'.s 13=.c (.raw (.int .i64 jj))∧st'.s 14=.c (.so u 0 32)∧st'.H u=.arr 5 1 false (u8R s')∧DkW p T0 v G d a k H1 T1 rows st'∧DkX T1 y i j d.safe d.wait d.safe.length st') ?_ ?_
   ·intro R' hR
    obtain ⟨k1,k3,k4,k10,k11,he,kH,kv,kG⟩:=hW
    have hf:=he.fresh
    have hfu:∀k d,st.T≤k→st.H (k,d)=.unborn:=hf
    obtain ⟨p1,p2,p3⟩:=hf.arr kH
    obtain ⟨f1,f2,f3⟩:=hf.arr kv
    obtain ⟨f4,f5,f6⟩:=hf.arr kG
    have hT0:=he.2.2.1
    obtain ⟨x12,hy,hi,hj,y1,y2,y3⟩:=hX
    obtain ⟨u1,u2,u3⟩:=hf.arr hy
    obtain ⟨u4,u5,u6⟩:=hf.arr hi
    obtain ⟨u7,u8,u9⟩:=hf.arr hj
    obtain ⟨ne1,ne2,ne3⟩:=DkX_ne hy hi hj
    have e1:IntKind.wrap .i64 ((k:Int)*7)=(k:Int)*7:=by rw [wrap64_id]<;>omega
    have e2:IntKind.wrap .i64 ((k:Int)*7+p.nums.length)=(k:Int)*7+p.nums.length:=by rw [wrap64_id]<;>omega
    obtain ⟨ii,hii⟩:=Int.eq_ofNat_of_zero_le (show 0≤within ((k:Int)*7+p.nums.length) 32 from Int.emod_nonneg _ (by omega))
    have hil:within ((k:Int)*7+p.nums.length) 32<32:=Int.emod_lt_of_pos _ (by omega)
    have hi32:ii<32:=by omega
    have his:ii<s.length:=by omega
    have hi32':(ii:Int)<32:=by omega
    obtain ⟨w1,w2,w3⟩:=hf.arr hu
    have z1:=ne_arr kH hu rfl
    have z2:=ne_arr kv hu rfl
    have z3:=ne_arr kG hu rfl
    have z4:=ne_arr hy hu rfl
    have z5:=ne_arr hi hu rfl
    have z6:=ne_arr hj hu rfl
    simp -implicitDefEqProofs (maxSteps:=400000) (maxDischargeDepth:=6) [k1,kH,askRow,k11,k14,hu,e1,e2,hii,hi32,hi32',his,hs32,z1]
    exact hR _ ⟨s.set ii (s[ii]+1),by simp -implicitDefEqProofs (maxSteps:=400000) (maxDischargeDepth:=6) [hs32],by simp -implicitDefEqProofs (maxSteps:=400000) (maxDischargeDepth:=6) [k13],by simp -implicitDefEqProofs (maxSteps:=400000) (maxDischargeDepth:=6) [k14],by simp -implicitDefEqProofs (maxSteps:=400000) (maxDischargeDepth:=6);exact u8R_set s ii his,⟨by simp -implicitDefEqProofs (maxSteps:=400000) (maxDischargeDepth:=6) [k1],by simp -implicitDefEqProofs (maxSteps:=400000) (maxDischargeDepth:=6) [k3],by simp -implicitDefEqProofs (maxSteps:=400000) (maxDischargeDepth:=6) [k4],by simp -implicitDefEqProofs (maxSteps:=400000) (maxDischargeDepth:=6) [k10],by simp -implicitDefEqProofs (maxSteps:=400000) (maxDischargeDepth:=6) [k11],by simp -implicitDefEqProofs (maxSteps:=400000) (maxDischargeDepth:=6);repeat' (first|exact he.tick (by first|omega|(simp<;>omega))|(refine ExtH.new ?_ (by first|omega|(simp<;>omega)) (by first|omega|(simp<;>omega)))|(refine ExtH.set ?_ (by simp) (by first|omega|(simp<;>omega)))),by simp -implicitDefEqProofs (maxSteps:=400000) (maxDischargeDepth:=6) [kH,p1,p2,Nat.le_add_right_of_le,z1,z2,z3],by simp -implicitDefEqProofs (maxSteps:=400000) (maxDischargeDepth:=6) [kv,f1,f2,diskN,Nat.le_add_right_of_le,z1,z2,z3],by simp -implicitDefEqProofs (maxSteps:=400000) (maxDischargeDepth:=6) [kG,f4,f5,Nat.le_add_right_of_le,z1,z2,z3]⟩,⟨by simp -implicitDefEqProofs (maxSteps:=400000) (maxDischargeDepth:=6) [x12],by simp -implicitDefEqProofs (maxSteps:=400000) (maxDischargeDepth:=6) [hy,u1,u2,Nat.le_add_right_of_le,ne1,ne2,z4,z5,z6],by simp -implicitDefEqProofs (maxSteps:=400000) (maxDischargeDepth:=6) [hi,u4,u5,Nat.le_add_right_of_le,ne1,ne3,z4,z5,z6],by simp -implicitDefEqProofs (maxSteps:=400000) (maxDischargeDepth:=6) [hj,u7,u8,Nat.le_add_right_of_le,ne2,ne3,z4,z5,z6],y1,y2,y3⟩⟩
   clear hu hs32 s k13 k14 hW hX st
   rintro st ⟨s,hs32,k13,k14,hu,hW,hX⟩
   refine seq_c (fun st'=>∃S,S.length=60∧st'.s 13=.c (.raw (.int .i64 jj))∧DkW p T0 v G d a k H1 T1 rows st'∧DkX T1 y i j S d.wait S.length st') ?_ ?_
   ·intro R' hR
    obtain ⟨k1,k3,k4,k10,k11,he,kH,kv,kG⟩:=hW
    have hf:=he.fresh
    have hfu:∀k d,st.T≤k→st.H (k,d)=.unborn:=hf
    obtain ⟨p1,p2,p3⟩:=hf.arr kH
    obtain ⟨f1,f2,f3⟩:=hf.arr kv
    obtain ⟨f4,f5,f6⟩:=hf.arr kG
    have hT0:=he.2.2.1
    obtain ⟨x12,hy,hi,hj,y1,y2,y3⟩:=hX
    obtain ⟨u1,u2,u3⟩:=hf.arr hy
    obtain ⟨u4,u5,u6⟩:=hf.arr hi
    obtain ⟨u7,u8,u9⟩:=hf.arr hj
    obtain ⟨ne1,ne2,ne3⟩:=DkX_ne hy hi hj
    have hjs':(jj:Int)<d.safe.length:=by omega
    have z1:=ne_arr kH hi rfl
    have z2:=ne_arr kv hi rfl
    have z3:=ne_arr kG hi rfl
    have z4:=ne_arr hu hi rfl
    have ht:List.take 32 (u8R s)=u8R s:=List.take_of_length_le (by simp -implicitDefEqProofs (maxSteps:=400000) (maxDischargeDepth:=6) [hs32])
    simp -implicitDefEqProofs (maxSteps:=400000) (maxDischargeDepth:=6) [x12,hy,hi,k13,k14,hu,hjs,hjs',hs32,ht,u8R_bytes,ne1]
    refine hR _ ⟨d.safe.set jj s,by simp -implicitDefEqProofs (maxSteps:=400000) (maxDischargeDepth:=6) [hs],by simp -implicitDefEqProofs (maxSteps:=400000) (maxDischargeDepth:=6) [k13],⟨by simp -implicitDefEqProofs (maxSteps:=400000) (maxDischargeDepth:=6) [k1],by simp -implicitDefEqProofs (maxSteps:=400000) (maxDischargeDepth:=6) [k3],by simp -implicitDefEqProofs (maxSteps:=400000) (maxDischargeDepth:=6) [k4],by simp -implicitDefEqProofs (maxSteps:=400000) (maxDischargeDepth:=6) [k10],by simp -implicitDefEqProofs (maxSteps:=400000) (maxDischargeDepth:=6) [k11],by simp -implicitDefEqProofs (maxSteps:=400000) (maxDischargeDepth:=6);repeat' (first|exact he.tick (by first|omega|(simp<;>omega))|(refine ExtH.new ?_ (by first|omega|(simp<;>omega)) (by first|omega|(simp<;>omega)))|(refine ExtH.set ?_ (by simp) (by first|omega|(simp<;>omega)))),by simp -implicitDefEqProofs (maxSteps:=400000) (maxDischargeDepth:=6) [kH,p1,p2,Nat.le_add_right_of_le,z1,z2,z3],by simp -implicitDefEqProofs (maxSteps:=400000) (maxDischargeDepth:=6) [kv,f1,f2,diskN,Nat.le_add_right_of_le,z1,z2,z3],by simp -implicitDefEqProofs (maxSteps:=400000) (maxDischargeDepth:=6) [kG,f4,f5,Nat.le_add_right_of_le,z1,z2,z3]⟩,⟨by simp -implicitDefEqProofs (maxSteps:=400000) (maxDischargeDepth:=6) [x12],by simp -implicitDefEqProofs (maxSteps:=400000) (maxDischargeDepth:=6) [hy,u1,u2,Nat.le_add_right_of_le,ne1,ne2,rowsE_set'],by simp -implicitDefEqProofs (maxSteps:=400000) (maxDischargeDepth:=6) [hi,u4,u5,Nat.le_add_right_of_le,ne1,ne3,rowsE_set'],by simp -implicitDefEqProofs (maxSteps:=400000) (maxDischargeDepth:=6) [hj,u7,u8,Nat.le_add_right_of_le,ne2,ne3,rowsE_set'],y1,y2,y3⟩⟩
   clear hu hs32 s k13 k14 hW hX st
   rintro st ⟨S,hS,k13,hW,hX⟩
   refine seq_c (fun st'=>∃m,m≤S.length∧DkW p T0 v G d a k H1 T1 rows st'∧DkX T1 y i j S d.wait m st') ?_ ?_
   ·intro R' hR
    obtain ⟨k1,k3,k4,k10,k11,he,kH,kv,kG⟩:=hW
    have hf:=he.fresh
    have hfu:∀k d,st.T≤k→st.H (k,d)=.unborn:=hf
    obtain ⟨p1,p2,p3⟩:=hf.arr kH
    obtain ⟨f1,f2,f3⟩:=hf.arr kv
    obtain ⟨f4,f5,f6⟩:=hf.arr kG
    have hT0:=he.2.2.1
    obtain ⟨x12,hy,hi,hj,y1,y2,y3⟩:=hX
    obtain ⟨u1,u2,u3⟩:=hf.arr hy
    obtain ⟨u4,u5,u6⟩:=hf.arr hi
    obtain ⟨u7,u8,u9⟩:=hf.arr hj
    obtain ⟨ne1,ne2,ne3⟩:=DkX_ne hy hi hj
    have z1:=ne_arr kH hy rfl
    have z2:=ne_id hv1 y1
    have z3:=ne_id hg1 y1
    by_cases c4:k=4
    ·subst c4
     have e1:IntKind.wrap .i64 ((jj:Int)+1)=((jj+1:Nat):Int):=by rw [wrap64_id]<;>omega
     have h1:jj+1≤S.length:=by omega
     have h1':(jj:Int)+1≤S.length:=by omega
     simp -implicitDefEqProofs (maxSteps:=400000) (maxDischargeDepth:=6) [k11,x12,hy,hi,k13,e1,h1,h1',ne1]
     refine ⟨by omega,hR _ ⟨jj+1,h1,⟨by simp -implicitDefEqProofs (maxSteps:=400000) (maxDischargeDepth:=6) [k1],by simp -implicitDefEqProofs (maxSteps:=400000) (maxDischargeDepth:=6) [k3],by simp -implicitDefEqProofs (maxSteps:=400000) (maxDischargeDepth:=6) [k4],by simp -implicitDefEqProofs (maxSteps:=400000) (maxDischargeDepth:=6) [k10],by simp -implicitDefEqProofs (maxSteps:=400000) (maxDischargeDepth:=6) [k11],by simp -implicitDefEqProofs (maxSteps:=400000) (maxDischargeDepth:=6);repeat' (first|exact he.tick (by first|omega|(simp<;>omega))|(refine ExtH.new ?_ (by first|omega|(simp<;>omega)) (by first|omega|(simp<;>omega)))|(refine ExtH.set ?_ (by simp) (by first|omega|(simp<;>omega)))),by simp -implicitDefEqProofs (maxSteps:=400000) (maxDischargeDepth:=6) [kH,p1,p2,Nat.le_add_right_of_le,z1,z2,z3],by simp -implicitDefEqProofs (maxSteps:=400000) (maxDischargeDepth:=6) [kv,f1,f2,diskN,Nat.le_add_right_of_le,z1,z2,z3],by simp -implicitDefEqProofs (maxSteps:=400000) (maxDischargeDepth:=6) [kG,f4,f5,Nat.le_add_right_of_le,z1,z2,z3]⟩,⟨by simp -implicitDefEqProofs (maxSteps:=400000) (maxDischargeDepth:=6) [x12],by simp -implicitDefEqProofs (maxSteps:=400000) (maxDischargeDepth:=6) [hy,u1,u2,Nat.le_add_right_of_le,ne1,ne2],by simp -implicitDefEqProofs (maxSteps:=400000) (maxDischargeDepth:=6) [hi,u4,u5,Nat.le_add_right_of_le,ne1,ne3],by simp -implicitDefEqProofs (maxSteps:=400000) (maxDischargeDepth:=6) [hj,u7,u8,Nat.le_add_right_of_le,ne2,ne3],y1,y2,y3⟩⟩⟩
    ·have c4':¬(k:Int)=4:=by omega
     simp -implicitDefEqProofs (maxSteps:=400000) (maxDischargeDepth:=6) [k11,c4,c4']
     refine hR _ ⟨S.length,Nat.le_refl _,⟨by simp -implicitDefEqProofs (maxSteps:=400000) (maxDischargeDepth:=6) [k1],by simp -implicitDefEqProofs (maxSteps:=400000) (maxDischargeDepth:=6) [k3],by simp -implicitDefEqProofs (maxSteps:=400000) (maxDischargeDepth:=6) [k4],by simp -implicitDefEqProofs (maxSteps:=400000) (maxDischargeDepth:=6) [k10],by simp -implicitDefEqProofs (maxSteps:=400000) (maxDischargeDepth:=6) [k11],by simp -implicitDefEqProofs (maxSteps:=400000) (maxDischargeDepth:=6);repeat' (first|exact he.tick (by first|omega|(simp<;>omega))|(refine ExtH.new ?_ (by first|omega|(simp<;>omega)) (by first|omega|(simp<;>omega)))|(refine ExtH.set ?_ (by simp) (by first|omega|(simp<;>omega)))),by simp -implicitDefEqProofs (maxSteps:=400000) (maxDischargeDepth:=6) [kH,p1,p2,Nat.le_add_right_of_le],by simp -implicitDefEqProofs (maxSteps:=400000) (maxDischargeDepth:=6) [kv,f1,f2,diskN,Nat.le_add_right_of_le],by simp -implicitDefEqProofs (maxSteps:=400000) (maxDischargeDepth:=6) [kG,f4,f5,Nat.le_add_right_of_le]⟩,⟨by simp -implicitDefEqProofs (maxSteps:=400000) (maxDischargeDepth:=6) [x12],by simp -implicitDefEqProofs (maxSteps:=400000) (maxDischargeDepth:=6) [hy,u1,u2,Nat.le_add_right_of_le,ne1,ne2],by simp -implicitDefEqProofs (maxSteps:=400000) (maxDischargeDepth:=6) [hi,u4,u5,Nat.le_add_right_of_le,ne1,ne3],by simp -implicitDefEqProofs (maxSteps:=400000) (maxDischargeDepth:=6) [hj,u7,u8,Nat.le_add_right_of_le,ne2,ne3],y1,y2,y3⟩⟩
   clear k13 hW hX st
   rintro st ⟨m,hmS,hW,hX⟩
   obtain ⟨k1,k3,k4,k10,k11,he,kH,kv,kG⟩:=hW
   have hf:=he.fresh
   have hfu:∀k d,st.T≤k→st.H (k,d)=.unborn:=hf
   obtain ⟨p1,p2,p3⟩:=hf.arr kH
   obtain ⟨f1,f2,f3⟩:=hf.arr kv
   obtain ⟨f4,f5,f6⟩:=hf.arr kG
   have hT0:=he.2.2.1
   obtain ⟨x12,hy,hi,hj,y1,y2,y3⟩:=hX
   obtain ⟨u4,u5,u6⟩:=hf.arr hi
   obtain ⟨u7,u8,u9⟩:=hf.arr hj
   simp -implicitDefEqProofs (maxSteps:=400000) (maxDischargeDepth:=6) [k10,x12,kG,hy,hi,hj,hrl,hfu,f4,f5]
   have z1:=ne_arr hi kG rfl
   have z2:=ne_arr hj kG rfl
   have z3:=ne_arr kH kG rfl
   have heA:ExtH [G] H1 T1 (hset (hset (hset st.H (st.T,102) (.arr 30 2 false [[.so i 0 m,.so j 0 d.wait.length]])) G .dead) (st.T,103) (.arr 30 2 false (rows++[[.so i 0 m,.so j 0 d.wait.length]]))) (st.T+1):=by
    have he:ExtH [G] H1 T1 st.H st.T:=⟨fun i h1 _=>he.1 i h1 (by simp -implicitDefEqProofs (maxSteps:=400000) (maxDischargeDepth:=6)),he.2⟩
    repeat' (first|exact he.tick (by first|omega|(simp<;>omega))|(refine ExtH.new ?_ (by first|omega|(simp<;>omega)) (by first|omega|(simp<;>omega)))|(refine ExtH.set ?_ (by simp) (by first|omega|(simp<;>omega))))
   have heB:ExtH [] H0 T0 (hset (hset (hset st.H (st.T,102) (.arr 30 2 false [[.so i 0 m,.so j 0 d.wait.length]])) G .dead) (st.T,103) (.arr 30 2 false (rows++[[.so i 0 m,.so j 0 d.wait.length]]))) (st.T+1):=by
    have he:=extH_tr he0 he
    repeat' (first|exact he.tick (by first|omega|(simp<;>omega))|(refine ExtH.new ?_ (by first|omega|(simp<;>omega)) (by first|omega|(simp<;>omega)))|(refine ExtH.set ?_ (by simp) (by first|omega|(simp<;>omega))))
   have hml:(List.take m S).length=m:=by rw [List.length_take];omega
   have hT0':T0≤st.T:=by have:=he0.2.2.1;omega
   refine ⟨⟨by omega,by omega⟩,hR _ ⟨(st.T,103),⟨by simp -implicitDefEqProofs (maxSteps:=400000) (maxDischargeDepth:=6) [k1],by simp -implicitDefEqProofs (maxSteps:=400000) (maxDischargeDepth:=6) [kH,p1,p2,z3,Nat.le_add_right_of_le],by simp -implicitDefEqProofs (maxSteps:=400000) (maxDischargeDepth:=6) [k3],by simp -implicitDefEqProofs (maxSteps:=400000) (maxDischargeDepth:=6) [kv,diskN,f1,f2,g1,Nat.le_add_right_of_le],hm,hs,n1,n2,hv,by simpa using heB,by simp -implicitDefEqProofs (maxSteps:=400000) (maxDischargeDepth:=6);omega⟩,by simp -implicitDefEqProofs (maxSteps:=400000) (maxDischargeDepth:=6) [k4],by simp -implicitDefEqProofs (maxSteps:=400000) (maxDischargeDepth:=6) [k11],
    rows++[[.so i 0 m,.so j 0 d.wait.length]],ds++[⟨S.take m,d.wait⟩],by simp -implicitDefEqProofs (maxSteps:=400000) (maxDischargeDepth:=6),by simp -implicitDefEqProofs (maxSteps:=400000) (maxDischargeDepth:=6),by simp -implicitDefEqProofs (maxSteps:=400000) (maxDischargeDepth:=6) [hrl],?_,by simp -implicitDefEqProofs (maxSteps:=400000) (maxDischargeDepth:=6) [f2],by simp -implicitDefEqProofs (maxSteps:=400000) (maxDischargeDepth:=6) [f1],by simp -implicitDefEqProofs (maxSteps:=400000) (maxDischargeDepth:=6) [p2],by simp -implicitDefEqProofs (maxSteps:=400000) (maxDischargeDepth:=6) [p1],hT0'⟩⟩
   simp only [tick_H,put_H,hto_H]
   refine (hS0.ext1 heA kG0).snoc ⟨_,_,rfl,.inr (.inr ⟨i,9,1,rowsE S,by simp -implicitDefEqProofs (maxSteps:=400000) (maxDischargeDepth:=6) [hml],by simp -implicitDefEqProofs (maxSteps:=400000) (maxDischargeDepth:=6) [hi,u5,z1],by simp -implicitDefEqProofs (maxSteps:=400000) (maxDischargeDepth:=6);omega,by rw [rowsE_length,hml,rowsE_take],rfl⟩),.inr (.inr ⟨j,88,2,rowsE d.wait,by simp -implicitDefEqProofs (maxSteps:=400000) (maxDischargeDepth:=6),by simp -implicitDefEqProofs (maxSteps:=400000) (maxDischargeDepth:=6) [hj,u8,z2],by simp -implicitDefEqProofs (maxSteps:=400000) (maxDischargeDepth:=6),by simp -implicitDefEqProofs (maxSteps:=400000) (maxDischargeDepth:=6),rfl⟩)⟩ ⟨by simp only [hml];omega,by simp only;omega⟩
  ·clear hW st
   rintro st ⟨G',⟨k1,kH,k3,kv,hm,hs,n1,n2,hv,he,hT⟩,k4,k11,rows',ds',k10,kG,hrl,hS,g1,g2,g3,g4,g5⟩
   have hw:IntKind.wrap .i64 ((k:Int)+1)=((k+1:Nat):Int):=by rw [wrap64_id]<;>omega
   simp -implicitDefEqProofs (maxSteps:=400000) (maxDischargeDepth:=6) [k11,hw]
   exact ⟨5-(k+1),by omega,hJ _ _ ⟨k+1,G',by omega,rfl,⟨by simp -implicitDefEqProofs (maxSteps:=400000) (maxDischargeDepth:=6) [k1],by simp -implicitDefEqProofs (maxSteps:=400000) (maxDischargeDepth:=6) [kH],by simp -implicitDefEqProofs (maxSteps:=400000) (maxDischargeDepth:=6) [k3],by simp -implicitDefEqProofs (maxSteps:=400000) (maxDischargeDepth:=6) [kv],hm,hs,n1,n2,hv,by simp -implicitDefEqProofs (maxSteps:=400000) (maxDischargeDepth:=6);exact he.tick (by omega),by simp -implicitDefEqProofs (maxSteps:=400000) (maxDischargeDepth:=6);omega⟩,by simp -implicitDefEqProofs (maxSteps:=400000) (maxDischargeDepth:=6) [k4],by simp -implicitDefEqProofs (maxSteps:=400000) (maxDischargeDepth:=6),rows',ds',by simp -implicitDefEqProofs (maxSteps:=400000) (maxDischargeDepth:=6) [k10];omega,by simp -implicitDefEqProofs (maxSteps:=400000) (maxDischargeDepth:=6) [kG],by omega,by simpa using hS,g1,g2,g3,g4,g5⟩⟩
 ·have h5:k=5:=by omega
  subst h5
  simp -implicitDefEqProofs (maxSteps:=400000) (maxDischargeDepth:=6) [s22L1,k11]
  exact hn _ G ⟨by simp -implicitDefEqProofs (maxSteps:=400000) (maxDischargeDepth:=6) [k1],by simp -implicitDefEqProofs (maxSteps:=400000) (maxDischargeDepth:=6) [kH],by simp -implicitDefEqProofs (maxSteps:=400000) (maxDischargeDepth:=6) [k3],by simp -implicitDefEqProofs (maxSteps:=400000) (maxDischargeDepth:=6) [kv],hm,hs,n1,n2,hv,by simp -implicitDefEqProofs (maxSteps:=400000) (maxDischargeDepth:=6);exact he.tick (by omega),by simp -implicitDefEqProofs (maxSteps:=400000) (maxDischargeDepth:=6);omega⟩ ⟨rows,ds,by simp -implicitDefEqProofs (maxSteps:=400000) (maxDischargeDepth:=6) [k10],by simp -implicitDefEqProofs (maxSteps:=400000) (maxDischargeDepth:=6) [kG],hrl,by simpa using hS,g1,g2,g3,g4,g5⟩
end Go.AE
set_option linter.unusedVariables false
set_option linter.unusedSimpArgs false
set_option maxHeartbeats 4000000
set_option maxRecDepth 100000
namespace Go.AE
open Go Go.Proofs
def DisksR (H0:Heap) (T0:Nat) (ret:AV) (H:Heap) (T:Nat):Prop:=∃D rows ds,ret=.c (.so D 0 8)∧H D=.arr 30 2 false rows∧rows.length=8∧SeesL H rows ds∧ExtH [] H0 T0 H T∧T0≤D.1
theorem disks_k {st:St} (p:AskD) (hp:AskS p) (hl:heavy15 p=false) (hf:Fresh st.H st.T):CallK Tryz.prog st 22 [.g (askRow p)] (DisksR st.H st.T):=by
 refine callK_slim mixed FK7_ok Tryz.func22 sl22 ok22 (by kernel_rfl) ?_
 obtain ⟨l1,l2,l3,l4,l5,l6,l7⟩:=light15 hp hl
 obtain ⟨sL,sE⟩:=entsR_small hp hl
 have he0:=ExtH.refl (S:=[]) hf
 generalize hH0:st.H=H0 at he0
 generalize hT0:st.T=T0 at he0
 obtain ⟨d0,hd0⟩:∃d0:DiskV,d0=⟨List.replicate 60 blank,[]⟩:=⟨_,rfl⟩
 have hd1:mayB d0=true:=by rw [hd0];exact blank_may (by omega) (by omega)
 have hd2:d0.safe.length=60:=by rw [hd0];simp -implicitDefEqProofs (maxSteps:=400000) (maxDischargeDepth:=6) [-List.reduceReplicate]
 refine seq_c (fun st'=>st'.s 1=.c (.pt (T0+1,1) 0 0)∧st'.H (T0+1,1)=.arr 36 9 false [askRow p]∧ExtH [] H0 T0 st'.H st'.T∧T0+1<st'.T) ?_ ?_
 ·intro R' hR
  subst hH0 hT0
  have he:=he0
  have hfu:∀k d,st.T≤k→st.H (k,d)=.unborn:=hf
  simp -implicitDefEqProofs (maxSteps:=400000) (maxDischargeDepth:=6) [askRow,hfu]
  exact hR _ ⟨by simp -implicitDefEqProofs (maxSteps:=400000) (maxDischargeDepth:=6),by simp -implicitDefEqProofs (maxSteps:=400000) (maxDischargeDepth:=6) [askRow],by simp -implicitDefEqProofs (maxSteps:=400000) (maxDischargeDepth:=6);repeat' (first|exact he.tick (by first|omega|(simp<;>omega))|(refine ExtH.new ?_ (by first|omega|(simp<;>omega)) (by first|omega|(simp<;>omega)))|(refine ExtH.set ?_ (by simp) (by first|omega|(simp<;>omega)))),by simp -implicitDefEqProofs (maxSteps:=400000) (maxDischargeDepth:=6)⟩
 clear hH0 hT0 hf st
 rintro st ⟨k1,kH,he,hT⟩
 refine seq_c (fun st'=>∃v,DkB p H0 T0 v d0 st') ?_ ?_
 ·intro R' hR
  have hf:=he.fresh
  have hfu:∀k d,st.T≤k→st.H (k,d)=.unborn:=hf
  obtain ⟨p1,p2,p3⟩:=hf.arr kH
  have hT0:=he.2.2.1
  simp -implicitDefEqProofs (maxSteps:=400000) (maxDischargeDepth:=6) [-List.reduceReplicate,diskN,hfu,p1,p2]
  refine hR _ ⟨(st.T,3),by simp -implicitDefEqProofs (maxSteps:=400000) (maxDischargeDepth:=6) [k1],by simp -implicitDefEqProofs (maxSteps:=400000) (maxDischargeDepth:=6) [kH,p1,p2],by simp -implicitDefEqProofs (maxSteps:=400000) (maxDischargeDepth:=6),by simp -implicitDefEqProofs (maxSteps:=400000) (maxDischargeDepth:=6) [-List.reduceReplicate,diskN,hd0],hd1,hd2,by simp -implicitDefEqProofs (maxSteps:=400000) (maxDischargeDepth:=6) [p2],by simp -implicitDefEqProofs (maxSteps:=400000) (maxDischargeDepth:=6) [p1],hT0,by simp -implicitDefEqProofs (maxSteps:=400000) (maxDischargeDepth:=6);repeat' (first|exact he.tick (by first|omega|(simp<;>omega))|(refine ExtH.new ?_ (by first|omega|(simp<;>omega)) (by first|omega|(simp<;>omega)))|(refine ExtH.set ?_ (by simp) (by first|omega|(simp<;>omega)))),by simp -implicitDefEqProofs (maxSteps:=400000) (maxDischargeDepth:=6);omega⟩
 clear k1 kH he hT st
 rintro st ⟨v,hB⟩
 refine seq_c (fun st'=>DkB p H0 T0 v d0 st'∧st'.s 4=.c (.raw (.int .i64 (0:Nat)))) ?_ ?_
 ·intro R' hR
  obtain ⟨k1,kH,k3,kv,hm,hs,n1,n2,hv,he,hT⟩:=hB
  simp -implicitDefEqProofs (maxSteps:=400000) (maxDischargeDepth:=6)
  exact hR _ ⟨⟨by simp -implicitDefEqProofs (maxSteps:=400000) (maxDischargeDepth:=6) [k1],by simp -implicitDefEqProofs (maxSteps:=400000) (maxDischargeDepth:=6) [kH],by simp -implicitDefEqProofs (maxSteps:=400000) (maxDischargeDepth:=6) [k3],by simp -implicitDefEqProofs (maxSteps:=400000) (maxDischargeDepth:=6) [kv],hm,hs,n1,n2,hv,by simp -implicitDefEqProofs (maxSteps:=400000) (maxDischargeDepth:=6);exact he.tick (by omega),by simp -implicitDefEqProofs (maxSteps:=400000) (maxDischargeDepth:=6);omega⟩,by simp -implicitDefEqProofs (maxSteps:=400000) (maxDischargeDepth:=6)⟩
 clear hB st
 rintro st ⟨hB,k4⟩
 refine seq_c (fun st'=>DkB p H0 T0 v d0 st'∧st'.s 4=.c (.raw (.int .i64 (0:Nat)))∧st'.s 5=.c (.sl .new false (rowsE (entsR p)))) ?_ ?_
 ·intro R' hR
  obtain ⟨k1,kH,k3,kv,hm,hs,n1,n2,hv,he,hT⟩:=hB
  simp -implicitDefEqProofs (maxSteps:=400000) (maxDischargeDepth:=6) [k1,kH,askRow,hp,hl]
  exact hR _ ⟨⟨by simp -implicitDefEqProofs (maxSteps:=400000) (maxDischargeDepth:=6) [k1],by simp -implicitDefEqProofs (maxSteps:=400000) (maxDischargeDepth:=6) [kH],by simp -implicitDefEqProofs (maxSteps:=400000) (maxDischargeDepth:=6) [k3],by simp -implicitDefEqProofs (maxSteps:=400000) (maxDischargeDepth:=6) [kv],hm,hs,n1,n2,hv,by simp -implicitDefEqProofs (maxSteps:=400000) (maxDischargeDepth:=6);exact he.tick (by omega),by simp -implicitDefEqProofs (maxSteps:=400000) (maxDischargeDepth:=6);omega⟩,by simp -implicitDefEqProofs (maxSteps:=400000) (maxDischargeDepth:=6) [k4],by simp -implicitDefEqProofs (maxSteps:=400000) (maxDischargeDepth:=6)⟩
 clear hB k4 st
 rintro st ⟨hB,k4,k5⟩
 refine seq_c (fun st'=>∃(a:Nat) (d:DiskV),a≤60∧DkB p H0 T0 v d st'∧st'.s 4=.c (.raw (.int .i64 a))) ?_ ?_
 ·intro R' hR
  obtain ⟨k1,kH,k3,kv,hm,hs,n1,n2,hv,he,hT⟩:=hB
  simp -implicitDefEqProofs (maxSteps:=400000) (maxDischargeDepth:=6)
  refine disks_l0 p H0 T0 v (entsR p) sL sE ⟨0,0,d0,by omega,rfl,by omega,⟨by simp -implicitDefEqProofs (maxSteps:=400000) (maxDischargeDepth:=6) [k1],by simp -implicitDefEqProofs (maxSteps:=400000) (maxDischargeDepth:=6) [kH],by simp -implicitDefEqProofs (maxSteps:=400000) (maxDischargeDepth:=6) [k3],by simp -implicitDefEqProofs (maxSteps:=400000) (maxDischargeDepth:=6) [kv],hm,hs,n1,n2,hv,by simp -implicitDefEqProofs (maxSteps:=400000) (maxDischargeDepth:=6);exact he.tick (by omega),by simp -implicitDefEqProofs (maxSteps:=400000) (maxDischargeDepth:=6);omega⟩,by simp -implicitDefEqProofs (maxSteps:=400000) (maxDischargeDepth:=6) [k4],by simp -implicitDefEqProofs (maxSteps:=400000) (maxDischargeDepth:=6) [k5],by simp -implicitDefEqProofs (maxSteps:=400000) (maxDischargeDepth:=6)⟩ ?_
  intro st' a d ha hB k4
  simp -implicitDefEqProofs (maxSteps:=400000) (maxDischargeDepth:=6)
  exact hR _ ⟨a,d,ha,hB,k4⟩
 clear hB k4 k5 hd0 hd1 hd2 st d0
 rintro st ⟨a,d0,ha,hB,k4⟩
 obtain ⟨d,hd⟩:∃d:DiskV,d=⟨syncGo d0.safe d0.wait,[]⟩:=⟨_,rfl⟩
 refine seq_c (fun st'=>DkB p H0 T0 v d st'∧st'.s 4=.c (.raw (.int .i64 a))) ?_ ?_
 ·intro R' hR
  obtain ⟨k1,kH,k3,kv,hm,hs,n1,n2,hv,he,hT⟩:=hB
  have hf:=he.fresh
  have hfu:∀k d,st.T≤k→st.H (k,d)=.unborn:=hf
  obtain ⟨p1,p2,p3⟩:=hf.arr kH
  obtain ⟨f1,f2,f3⟩:=hf.arr kv
  simp -implicitDefEqProofs (maxSteps:=400000) (maxDischargeDepth:=6) [k3,kv,diskN,hm,f1,f2]
  refine hR _ ⟨⟨by simp -implicitDefEqProofs (maxSteps:=400000) (maxDischargeDepth:=6) [k1],by simp -implicitDefEqProofs (maxSteps:=400000) (maxDischargeDepth:=6) [kH,n1,n2],by simp -implicitDefEqProofs (maxSteps:=400000) (maxDischargeDepth:=6) [k3],by simp -implicitDefEqProofs (maxSteps:=400000) (maxDischargeDepth:=6) [hd,diskN],by rw [hd];exact syncGo_may hm,by rw [hd];simp -implicitDefEqProofs (maxSteps:=400000) (maxDischargeDepth:=6) [syncGo_length,hs],n1,n2,hv,by simp -implicitDefEqProofs (maxSteps:=400000) (maxDischargeDepth:=6);repeat' (first|exact he.tick (by first|omega|(simp<;>omega))|(refine ExtH.new ?_ (by first|omega|(simp<;>omega)) (by first|omega|(simp<;>omega)))|(refine ExtH.set ?_ (by simp) (by first|omega|(simp<;>omega)))),by simp -implicitDefEqProofs (maxSteps:=400000) (maxDischargeDepth:=6);omega⟩,by simp -implicitDefEqProofs (maxSteps:=400000) (maxDischargeDepth:=6) [k4]⟩
 clear hB k4 hd st d0
 rintro st ⟨hB,k4⟩
 refine seq_c (fun st'=>∃G,DkB p H0 T0 v d st'∧st'.s 4=.c (.raw (.int .i64 a))∧DkA T0 v G 3 st') ?_ ?_
 ·intro R' hR
  obtain ⟨k1,kH,k3,kv,hm,hs,n1,n2,hv,he,hT⟩:=hB
  have hf:=he.fresh
  have hfu:∀k d,st.T≤k→st.H (k,d)=.unborn:=hf
  obtain ⟨p1,p2,p3⟩:=hf.arr kH
  obtain ⟨f1,f2,f3⟩:=hf.arr kv
  have hT0:=he.2.2.1
  obtain ⟨m1,m2,m3,m4,m5⟩:=mayB_of hm
  simp -implicitDefEqProofs (maxSteps:=400000) (maxDischargeDepth:=6) [-List.reduceReplicate,k1,kH,askRow,k3,kv,diskN,hfu,p1,p2,f1,f2]
  refine hR _ ⟨(st.T,52),⟨by simp -implicitDefEqProofs (maxSteps:=400000) (maxDischargeDepth:=6) [k1],by simp -implicitDefEqProofs (maxSteps:=400000) (maxDischargeDepth:=6) [kH,p1,p2,askRow],by simp -implicitDefEqProofs (maxSteps:=400000) (maxDischargeDepth:=6) [k3],by simp -implicitDefEqProofs (maxSteps:=400000) (maxDischargeDepth:=6) [kv,f1,f2,diskN],hm,hs,n1,n2,hv,by simp -implicitDefEqProofs (maxSteps:=400000) (maxDischargeDepth:=6);repeat' (first|exact he.tick (by first|omega|(simp<;>omega))|(refine ExtH.new ?_ (by first|omega|(simp<;>omega)) (by first|omega|(simp<;>omega)))|(refine ExtH.set ?_ (by simp) (by first|omega|(simp<;>omega)))),by simp -implicitDefEqProofs (maxSteps:=400000) (maxDischargeDepth:=6);omega⟩,by simp -implicitDefEqProofs (maxSteps:=400000) (maxDischargeDepth:=6) [k4],
   [[.sl .brw false (rowsE p.d.d.safe),.sl .brw false (rowsE p.d.d.wait)],diskN ⟨List.replicate 2 blank,[]⟩,diskN d],[p.d.d,⟨List.replicate 2 blank,[]⟩,d],by simp -implicitDefEqProofs (maxSteps:=400000) (maxDischargeDepth:=6),by simp -implicitDefEqProofs (maxSteps:=400000) (maxDischargeDepth:=6) [diskN,-List.reduceReplicate],rfl,?_,by simp -implicitDefEqProofs (maxSteps:=400000) (maxDischargeDepth:=6) [f2],by simp -implicitDefEqProofs (maxSteps:=400000) (maxDischargeDepth:=6) [f1],by simp -implicitDefEqProofs (maxSteps:=400000) (maxDischargeDepth:=6) [p2],by simp -implicitDefEqProofs (maxSteps:=400000) (maxDischargeDepth:=6) [p1],hT0⟩
  exact ((SeesL.nil.snoc ⟨_,_,rfl,.inl ⟨_,_,rfl⟩,.inl ⟨_,_,rfl⟩⟩ ⟨l6,l7⟩).snoc ⟨_,_,rfl,.inl ⟨_,_,rfl⟩,.inl ⟨_,_,rfl⟩⟩ ⟨by simp -implicitDefEqProofs (maxSteps:=400000) (maxDischargeDepth:=6),by simp -implicitDefEqProofs (maxSteps:=400000) (maxDischargeDepth:=6)⟩).snoc ⟨_,_,rfl,.inl ⟨_,_,rfl⟩,.inl ⟨_,_,rfl⟩⟩ ⟨by omega,by omega⟩
 clear hB k4 st
 rintro st ⟨G,hB,k4,hA⟩
 refine seq_c (fun st'=>∃G,DkB p H0 T0 v d st'∧DkA T0 v G 8 st') ?_ ?_
 ·intro R' hR
  obtain ⟨k1,kH,k3,kv,hm,hs,n1,n2,hv,he,hT⟩:=hB
  obtain ⟨rows,ds,k10,kG,hrl,hS,g1,g2,g3,g4,g5⟩:=hA
  simp -implicitDefEqProofs (maxSteps:=400000) (maxDischargeDepth:=6)
  refine disks_l1 p l2 H0 T0 v d a ha ⟨0,G,by omega,rfl,⟨by simp -implicitDefEqProofs (maxSteps:=400000) (maxDischargeDepth:=6) [k1],by simp -implicitDefEqProofs (maxSteps:=400000) (maxDischargeDepth:=6) [kH],by simp -implicitDefEqProofs (maxSteps:=400000) (maxDischargeDepth:=6) [k3],by simp -implicitDefEqProofs (maxSteps:=400000) (maxDischargeDepth:=6) [kv],hm,hs,n1,n2,hv,by simp -implicitDefEqProofs (maxSteps:=400000) (maxDischargeDepth:=6);exact he.tick (by omega),by simp -implicitDefEqProofs (maxSteps:=400000) (maxDischargeDepth:=6);omega⟩,by simp -implicitDefEqProofs (maxSteps:=400000) (maxDischargeDepth:=6) [k4],by simp -implicitDefEqProofs (maxSteps:=400000) (maxDischargeDepth:=6),rows,ds,by simp -implicitDefEqProofs (maxSteps:=400000) (maxDischargeDepth:=6) [k10],by simp -implicitDefEqProofs (maxSteps:=400000) (maxDischargeDepth:=6) [kG],hrl,by simpa using hS,g1,g2,g3,g4,g5⟩ ?_
  intro st' G hB hA
  simp -implicitDefEqProofs (maxSteps:=400000) (maxDischargeDepth:=6)
  exact hR _ ⟨G,hB,hA⟩
 clear hB hA k4 st
 rintro st ⟨G,⟨k1,kH,k3,kv,hm,hs,n1,n2,hv,he,hT⟩,rows,ds,k10,kG,hrl,hS,g1,g2,g3,g4,g5⟩
 simp -implicitDefEqProofs (maxSteps:=400000) (maxDischargeDepth:=6) [k10]
 exact ⟨G,rows,ds,rfl,kG,hrl,hS,he.tick (by omega),g5⟩
end Go.AE
set_option linter.unusedVariables false
set_option linter.unusedSimpArgs false
set_option maxHeartbeats 2000000
namespace Go.AE
open Go
theorem readE_gone (s:List UInt8):(readE s).1.op.gone.length≤200:=by
 obtain ⟨g1,g2,g3⟩:=takeOpR_len (takeR s).2.1
 unfold readE
 split
 ·simp [zeroE,zeroO]
 ·split
  ·simp [zeroO]
  ·exact g2
theorem firstR_gone (s:List UInt8):(firstR s).1.op.gone.length≤200:=by
 unfold firstR
 split
 ·simp [zeroE,zeroO]
 ·split
  ·exact readE_gone _
  ·exact readE_gone _
theorem loadF_small:∀(k:Nat) (l:List (List UInt8)) (a:Nat),(loadF k l a).1.length≤k∧∀e∈(loadF k l a).1,e.op.gone.length≤200
 |0,l,a=>by simp [loadF]
 |k+1,l,a=>by
  unfold loadF
  split
  ·simp
  ·split
   ·have ih:=loadF_small k (l.drop (firstR (l.take 23).flatten).2.1) (a+(firstR (l.take 23).flatten).2.1)
    refine ⟨by simp;exact ih.1,fun e he=>?_⟩
    rcases List.mem_cons.1 he with rfl|he
    ·exact firstR_gone _
    ·exact ih.2 e he
   ·simp
theorem loadR_small (d:DiskV):(loadR d).1.length≤d.safe.length∧∀e∈(loadR d).1,e.op.gone.length≤200:=by
 unfold loadR
 split
 ·exact loadF_small _ _ _
 ·simp
end Go.AE
set_option linter.unusedVariables false
set_option linter.unusedSimpArgs false
set_option maxHeartbeats 4000000
set_option maxRecDepth 100000
namespace Go.AE
open Go Go.Proofs
def FK8_h7:List AV→Option (Prop×AV):=t1 (fun p=>AskS p∧heavy15 p=false) fun p:AskD=>.c (.sl .new false (rowsE (entsR p)))
@[simp] theorem FK8_ap7 {l:List AV}:FK8_h7 l=(t1 (fun p=>AskS p∧heavy15 p=false) fun p:AskD=>.c (.sl .new false (rowsE (entsR p)))) l:=rfl
def FK8_h23:List AV→Option (Prop×AV):=t1 (fun d=>d.safe.length<1000000∧d.wait.length<1000000) fun d:DiskV=>.g (diskN d)
@[simp] theorem FK8_ap23 {l:List AV}:FK8_h23 l=(t1 (fun d=>d.safe.length<1000000∧d.wait.length<1000000) fun d:DiskV=>.g (diskN d)) l:=rfl
def FK8:CT:=(7,.pu FK8_h7)::(23,.pu FK8_h23)::FK6
theorem FK8_ok:CTok Tryz.prog FK8:=⟨tells1 fun p h=>(entries_ev p h.1 h.2).frz .new (by simp -implicitDefEqProofs (maxSteps:=400000) (maxDischargeDepth:=6)),
 tells1 fun d h=>(copyDisk_ev d h.1 h.2).frz .new (by simp -implicitDefEqProofs (maxSteps:=400000) (maxDischargeDepth:=6)),FK6_ok⟩
@[simp] theorem FK8_get7:ctGet FK8 7=some (.pu FK8_h7):=rfl
@[simp] theorem FK8_get23:ctGet FK8 23=some (.pu FK8_h23):=rfl
@[simp] theorem FK8_skip {n:Nat} (h:(n==7||n==23)=false):ctGet FK8 n=ctGet FK6 n:=by
 simp only [Bool.or_eq_false_iff,beq_eq_false_iff_ne,ne_eq] at h
 simp [FK8,ctGet,h]
def ExB (p:AskD) (L:List EntryV) (st:St):Prop:=st.s 1=.c (.pt (0,1) 0 0)∧st.H (0,1)=.arr 36 9 false [askRow p]∧st.s 3=.c (.sl .new false (rowsE L))∧Fresh st.H st.T
def ExI0 (p:AskD) (L:List EntryV) (q:Nat) (st:St):Prop:=∃i:Nat,i≤L.length∧q=L.length-i∧ExB p L st∧st.s 4=.c (.raw (.int .i64 i))
theorem exact_l0 {Q:AEx→St→Prop} {st:St} (p:AskD) (L:List EntryV) (hL:L.length≤11) (hE:∀e∈L,e.op.text.length≤4000∧e.op.gone.length≤1000) (h0:ExI0 p L L.length st)
  (hn:∀st',ExB p L st'→Q (.exit 0) st'):awpS Tryz.prog FK8 (.loop s4L0) Q st:=by
 refine loop_c (ExI0 p L) L.length h0 ?_
 clear h0 st
 rintro q st ⟨i,hi,rfl,⟨k1,kH,k3,hf⟩,k4⟩ J hJ
 by_cases hlt:i<L.length
 ·have hlt':(i:Int)<L.length:=by omega
  obtain ⟨q1,q2⟩:=hE L[i] (List.getElem_mem hlt)
  generalize hLi:L[i]=e at q1 q2
  have hrow:(rowsE L)[i]?.getD []=entRow .old e:=by rw [rowsE_at hlt,hLi];rfl
  refine seq_c (fun st'=>ExB p L st'∧st'.s 4=.c (.raw (.int .i64 i))) ?_ ?_
  ·intro R' hR
   simp -implicitDefEqProofs (maxSteps:=400000) (maxDischargeDepth:=6) [k3,k4,hlt,hlt']
   exact hR _ ⟨⟨by simp -implicitDefEqProofs (maxSteps:=400000) (maxDischargeDepth:=6) [k1],by simp -implicitDefEqProofs (maxSteps:=400000) (maxDischargeDepth:=6) [kH],by simp -implicitDefEqProofs (maxSteps:=400000) (maxDischargeDepth:=6) [k3],by simp -implicitDefEqProofs (maxSteps:=400000) (maxDischargeDepth:=6);exact hf.mono (by omega)⟩,by simp -implicitDefEqProofs (maxSteps:=400000) (maxDischargeDepth:=6) [k4]⟩
  clear k1 kH k3 hf k4 st
  rintro st ⟨hB,k4⟩
  refine seq_c (fun st'=>ExB p L st'∧st'.s 4=.c (.raw (.int .i64 i))) ?_ ?_
  ·intro R' hR
   refine block_c ?_
   refine seq_c (fun st'=>ExB p L st'∧st'.s 4=.c (.raw (.int .i64 i))∧∃y,st'.s 5=.c (.pt y 0 0)∧st'.H y=.arr 48 13 false [entRow .old e]) ?_ ?_
   ·intro R' hR
    obtain ⟨k1,kH,k3,hf⟩:=hB
    have hfu:∀k d,st.T≤k→st.H (k,d)=.unborn:=hf
    obtain ⟨p1,p2,p3⟩:=hf.arr kH
    have q3:e.op.gone.length<1000000:=by omega
    simp -implicitDefEqProofs (maxSteps:=400000) (maxDischargeDepth:=6) [k3,k4,hlt,hlt',hLi,entRow,opRow,q3,hfu]
    exact hR _ ⟨⟨by simp -implicitDefEqProofs (maxSteps:=400000) (maxDischargeDepth:=6) [k1],by simp -implicitDefEqProofs (maxSteps:=400000) (maxDischargeDepth:=6) [kH,p1,p2],by simp -implicitDefEqProofs (maxSteps:=400000) (maxDischargeDepth:=6) [k3],by simp -implicitDefEqProofs (maxSteps:=400000) (maxDischargeDepth:=6);repeat' (first|exact hf.mono (by first|omega|(simp<;>omega))|(refine Fresh.set' ?_ (by first|omega|(simp<;>omega))))⟩,by simp -implicitDefEqProofs (maxSteps:=400000) (maxDischargeDepth:=6) [k4],(st.T,5),by simp -implicitDefEqProofs (maxSteps:=400000) (maxDischargeDepth:=6),by simp -implicitDefEqProofs (maxSteps:=400000) (maxDischargeDepth:=6) [entRow,opRow]⟩
   clear hB k4 st
   rintro st ⟨hB,k4,y,k5,hy⟩
   obtain ⟨s,c,hsb⟩:∃s c,storeBytesAV e=.t [(false,[.str s]),(false,[.raw (.int .i64 c)])]:=by
    unfold storeBytesAV framedAV
    split
    ·exact ⟨_,_,rfl⟩
    ·exact ⟨_,_,rfl⟩
   have q3:e.op.text.length<1000000:=by omega
   have q4:e.op.gone.length<1000000:=by omega
   have q5:e.op.gone.length<4611686018427387904:=by omega
   refine seq_c (fun st'=>ExB p L st'∧st'.s 4=.c (.raw (.int .i64 i))∧st'.s 5=.c (.pt y 0 0)∧st'.H y=.arr 48 13 false [entRow .old e]∧st'.s 6=.c (.str s)∧st'.s 7=.c (.raw (.int .i64 c))) ?_ ?_
   ·intro R' hR
    obtain ⟨k1,kH,k3,hf⟩:=hB
    simp -implicitDefEqProofs (maxSteps:=400000) (maxDischargeDepth:=6) [k5,hy,entRow,opRow,q3,q4,hsb]
    exact hR _ ⟨⟨by simp -implicitDefEqProofs (maxSteps:=400000) (maxDischargeDepth:=6) [k1],by simp -implicitDefEqProofs (maxSteps:=400000) (maxDischargeDepth:=6) [kH],by simp -implicitDefEqProofs (maxSteps:=400000) (maxDischargeDepth:=6) [k3],by simp -implicitDefEqProofs (maxSteps:=400000) (maxDischargeDepth:=6);exact hf.mono (by omega)⟩,by simp -implicitDefEqProofs (maxSteps:=400000) (maxDischargeDepth:=6) [k4],by simp -implicitDefEqProofs (maxSteps:=400000) (maxDischargeDepth:=6) [k5],by simp -implicitDefEqProofs (maxSteps:=400000) (maxDischargeDepth:=6) [hy,entRow,opRow],by simp -implicitDefEqProofs (maxSteps:=400000) (maxDischargeDepth:=6),by simp -implicitDefEqProofs (maxSteps:=400000) (maxDischargeDepth:=6)⟩
   clear hB k4 k5 hy st
   rintro st ⟨hB,k4,k5,hy,k6,k7⟩
   refine seq_c (fun st'=>ExB p L st'∧st'.s 4=.c (.raw (.int .i64 i))∧st'.s 5=.c (.pt y 0 0)∧st'.H y=.arr 48 13 false [entRow .old e]∧st'.s 6=.c (.str s)∧st'.s 7=.c (.raw (.int .i64 c))∧st'.s 8=.c (.raw (.int .i64 1))∧st'.s 9=.c (.str [])) ?_ ?_
   ·intro R' hR
    obtain ⟨k1,kH,k3,hf⟩:=hB
    simp -implicitDefEqProofs (maxSteps:=400000) (maxDischargeDepth:=6)
    exact hR _ ⟨⟨by simp -implicitDefEqProofs (maxSteps:=400000) (maxDischargeDepth:=6) [k1],by simp -implicitDefEqProofs (maxSteps:=400000) (maxDischargeDepth:=6) [kH],by simp -implicitDefEqProofs (maxSteps:=400000) (maxDischargeDepth:=6) [k3],by simp -implicitDefEqProofs (maxSteps:=400000) (maxDischargeDepth:=6);exact hf.mono (by omega)⟩,by simp -implicitDefEqProofs (maxSteps:=400000) (maxDischargeDepth:=6) [k4],by simp -implicitDefEqProofs (maxSteps:=400000) (maxDischargeDepth:=6) [k5],by simp -implicitDefEqProofs (maxSteps:=400000) (maxDischargeDepth:=6) [hy],by simp -implicitDefEqProofs (maxSteps:=400000) (maxDischargeDepth:=6) [k6],by simp -implicitDefEqProofs (maxSteps:=400000) (maxDischargeDepth:=6) [k7],by simp -implicitDefEqProofs (maxSteps:=400000) (maxDischargeDepth:=6),by simp -implicitDefEqProofs (maxSteps:=400000) (maxDischargeDepth:=6)⟩
   clear hB k4 k5 hy k6 k7 st
   rintro st ⟨hB,k4,k5,hy,k6,k7,k8,k9⟩
   refine seq_c (fun st'=>ExB p L st'∧st'.s 4=.c (.raw (.int .i64 i))∧st'.s 5=.c (.pt y 0 0)∧st'.H y=.arr 48 13 false [entRow .old e]∧st'.s 6=.c (.str s)∧st'.s 7=.c (.raw (.int .i64 c))∧st'.s 8=.c (.raw (.int .i64 c))∧st'.s 9=.c (.str s)) ?_ ?_
   ·intro R' hR
    obtain ⟨k1,kH,k3,hf⟩:=hB
    unfold storeBytesAV framedAV at hsb
    cases c1:entMayB e
    ·rw [if_neg (by simp -implicitDefEqProofs (maxSteps:=400000) (maxDischargeDepth:=6) [c1])] at hsb
     simp -implicitDefEqProofs (maxSteps:=400000) (maxDischargeDepth:=6) at hsb
     obtain ⟨rfl,rfl⟩:=hsb
     simp -implicitDefEqProofs (maxSteps:=400000) (maxDischargeDepth:=6) [k5,hy,entRow,opRow,q3,q5,c1]
     exact hR _ ⟨⟨by simp -implicitDefEqProofs (maxSteps:=400000) (maxDischargeDepth:=6) [k1],by simp -implicitDefEqProofs (maxSteps:=400000) (maxDischargeDepth:=6) [kH],by simp -implicitDefEqProofs (maxSteps:=400000) (maxDischargeDepth:=6) [k3],by simp -implicitDefEqProofs (maxSteps:=400000) (maxDischargeDepth:=6);exact hf.mono (by omega)⟩,by simp -implicitDefEqProofs (maxSteps:=400000) (maxDischargeDepth:=6) [k4],by simp -implicitDefEqProofs (maxSteps:=400000) (maxDischargeDepth:=6) [k5],by simp -implicitDefEqProofs (maxSteps:=400000) (maxDischargeDepth:=6) [hy,entRow,opRow],by simp -implicitDefEqProofs (maxSteps:=400000) (maxDischargeDepth:=6) [k6],by simp -implicitDefEqProofs (maxSteps:=400000) (maxDischargeDepth:=6) [k7],by simp -implicitDefEqProofs (maxSteps:=400000) (maxDischargeDepth:=6) [k8],by simp -implicitDefEqProofs (maxSteps:=400000) (maxDischargeDepth:=6) [k9]⟩
    ·rw [if_pos c1] at hsb
     have hok:okF e:=entMayB_ok c1 q3 q4
     unfold framedR at hsb
     by_cases h7:700<(plainN e).length
     ·rw [if_pos h7] at hsb
      simp -implicitDefEqProofs (maxSteps:=400000) (maxDischargeDepth:=6) at hsb
      obtain ⟨rfl,rfl⟩:=hsb
      have hrb:refBytesR e=([],false):=by rw [refBytesR,if_pos h7]
      simp -implicitDefEqProofs (maxSteps:=400000) (maxDischargeDepth:=6) [k5,hy,entRow,opRow,q3,q5,c1,hok,refBytesAV,hrb]
      exact hR _ ⟨⟨by simp -implicitDefEqProofs (maxSteps:=400000) (maxDischargeDepth:=6) [k1],by simp -implicitDefEqProofs (maxSteps:=400000) (maxDischargeDepth:=6) [kH],by simp -implicitDefEqProofs (maxSteps:=400000) (maxDischargeDepth:=6) [k3],by simp -implicitDefEqProofs (maxSteps:=400000) (maxDischargeDepth:=6);exact hf.mono (by omega)⟩,by simp -implicitDefEqProofs (maxSteps:=400000) (maxDischargeDepth:=6) [k4],by simp -implicitDefEqProofs (maxSteps:=400000) (maxDischargeDepth:=6) [k5],by simp -implicitDefEqProofs (maxSteps:=400000) (maxDischargeDepth:=6) [hy,entRow,opRow],by simp -implicitDefEqProofs (maxSteps:=400000) (maxDischargeDepth:=6) [k6],by simp -implicitDefEqProofs (maxSteps:=400000) (maxDischargeDepth:=6) [k7],by simp -implicitDefEqProofs (maxSteps:=400000) (maxDischargeDepth:=6),by simp -implicitDefEqProofs (maxSteps:=400000) (maxDischargeDepth:=6) [k9]⟩
     ·rw [if_neg h7] at hsb
      simp only [AV.t.injEq,List.cons.injEq,Prod.mk.injEq,AC.str.injEq,AC.raw.injEq,Value.int.injEq,true_and,and_true] at hsb
      obtain ⟨hs1,rfl⟩:=hsb
      have hrb:refBytesR e=(padN (sealA (plainN e)),true):=by rw [refBytesR,if_neg h7]
      rw [hs1] at hrb
      simp -implicitDefEqProofs (maxSteps:=400000) (maxDischargeDepth:=6) [k5,hy,entRow,opRow,q3,q5,c1,hok,refBytesAV,hrb]
      exact hR _ ⟨⟨by simp -implicitDefEqProofs (maxSteps:=400000) (maxDischargeDepth:=6) [k1],by simp -implicitDefEqProofs (maxSteps:=400000) (maxDischargeDepth:=6) [kH],by simp -implicitDefEqProofs (maxSteps:=400000) (maxDischargeDepth:=6) [k3],by simp -implicitDefEqProofs (maxSteps:=400000) (maxDischargeDepth:=6);exact hf.mono (by omega)⟩,by simp -implicitDefEqProofs (maxSteps:=400000) (maxDischargeDepth:=6) [k4],by simp -implicitDefEqProofs (maxSteps:=400000) (maxDischargeDepth:=6) [k5],by simp -implicitDefEqProofs (maxSteps:=400000) (maxDischargeDepth:=6) [hy,entRow,opRow],by simp -implicitDefEqProofs (maxSteps:=400000) (maxDischargeDepth:=6) [k6],by simp -implicitDefEqProofs (maxSteps:=400000) (maxDischargeDepth:=6) [k7],by simp -implicitDefEqProofs (maxSteps:=400000) (maxDischargeDepth:=6),by simp -implicitDefEqProofs (maxSteps:=400000) (maxDischargeDepth:=6)⟩
   clear hB k4 k5 hy k6 k7 k8 k9 hsb st
   rintro st ⟨hB,k4,k5,hy,k6,k7,k8,k9⟩
   obtain ⟨k1,kH,k3,hf⟩:=hB
   simp -implicitDefEqProofs (maxSteps:=400000) (maxDischargeDepth:=6) [k3,k4,k5,hy,k6,k7,k8,k9,entRow,opRow,q5,hlt,hlt',hLi,sameE_eq]
   exact hR _ ⟨⟨by simp -implicitDefEqProofs (maxSteps:=400000) (maxDischargeDepth:=6) [k1],by simp -implicitDefEqProofs (maxSteps:=400000) (maxDischargeDepth:=6) [kH],by simp -implicitDefEqProofs (maxSteps:=400000) (maxDischargeDepth:=6) [k3],by simp -implicitDefEqProofs (maxSteps:=400000) (maxDischargeDepth:=6);exact hf.mono (by omega)⟩,by simp -implicitDefEqProofs (maxSteps:=400000) (maxDischargeDepth:=6) [k4]⟩
  clear hB k4 st
  rintro st ⟨⟨k1,kH,k3,hf⟩,k4⟩
  have hw:IntKind.wrap .i64 ((i:Int)+1)=((i+1:Nat):Int):=by rw [wrap64_id]<;>omega
  simp -implicitDefEqProofs (maxSteps:=400000) (maxDischargeDepth:=6) [k4,hw]
  exact ⟨L.length-(i+1),by omega,hJ _ _ ⟨i+1,by omega,rfl,⟨by simp -implicitDefEqProofs (maxSteps:=400000) (maxDischargeDepth:=6) [k1],by simp -implicitDefEqProofs (maxSteps:=400000) (maxDischargeDepth:=6) [kH],by simp -implicitDefEqProofs (maxSteps:=400000) (maxDischargeDepth:=6) [k3],by simp -implicitDefEqProofs (maxSteps:=400000) (maxDischargeDepth:=6);exact hf.mono (by omega)⟩,by simp -implicitDefEqProofs (maxSteps:=400000) (maxDischargeDepth:=6)⟩⟩
 ·have hlt':¬(i:Int)<L.length:=by omega
  simp -implicitDefEqProofs (maxSteps:=400000) (maxDischargeDepth:=6) [s4L0,k3,k4,hlt,hlt']
  exact hn _ ⟨by simp -implicitDefEqProofs (maxSteps:=400000) (maxDischargeDepth:=6) [k1],by simp -implicitDefEqProofs (maxSteps:=400000) (maxDischargeDepth:=6) [kH],by simp -implicitDefEqProofs (maxSteps:=400000) (maxDischargeDepth:=6) [k3],by simp -implicitDefEqProofs (maxSteps:=400000) (maxDischargeDepth:=6);exact hf.mono (by omega)⟩
end Go.AE
set_option linter.unusedVariables false
set_option linter.unusedSimpArgs false
set_option maxHeartbeats 4000000
set_option maxRecDepth 100000
namespace Go.AE
open Go Go.Proofs
theorem SeesC.one {H:Heap} {c:AC} {xs:List (List AC)} (h:SeesC H c xs):AC.one H c=true:=by
 rcases h with ⟨t,cl,rfl⟩|⟨rfl,rfl⟩|⟨id,e,sz,X,rfl,h1,h2,h3,_⟩
 ·rfl
 ·rfl
 ·simp -implicitDefEqProofs (maxSteps:=400000) (maxDischargeDepth:=6) [AC.one,h1,OK.live]
theorem extH_tr2 {S':List Id} {H0 H1 H2:Heap} {T0 T1 T2:Nat} (h:ExtH [] H0 T0 H1 T1) (h':ExtH S' H1 T1 H2 T2) (hS:∀i∈S',T0≤i.1):ExtH [] H0 T0 H2 T2:=by
 refine ⟨fun i hi hn=>?_,h'.2.1,Nat.le_trans h.2.2.1 h'.2.2.1,h.2.2.2⟩
 have e1:=h.1 i hi hn
 rw [h'.1 i (by rw [e1];exact hi) (fun q=>hi (h.2.2.2 _ _ (hS i q))),e1]
def VarD (H:Heap) (v:Id) (x:DiskV):Prop:=∃c1 c2,H v=.arr 30 2 false [[c1,c2]]∧SeesC H c1 (rowsE x.safe)∧SeesC H c2 (rowsE x.wait)
theorem VarD.ext {H H':Heap} {T T':Nat} {v:Id} {x:DiskV} (h:VarD H v x) (he:ExtH [] H T H' T'):VarD H' v x:=by
 obtain ⟨c1,c2,h1,h2,h3⟩:=h
 exact ⟨c1,c2,he.arr h1 (by simp -implicitDefEqProofs (maxSteps:=400000) (maxDischargeDepth:=6)),h2.ext he,h3.ext he⟩
theorem VarD.ext1 {H H':Heap} {T T':Nat} {v G:Id} {x:DiskV} {sz:Nat} {f:Bool} {r:List (List AC)} (h:VarD H v x) (he:ExtH [G] H T H' T') (hG:H G=.arr 30 sz f r) (hne:¬v=G):VarD H' v x:=by
 obtain ⟨c1,c2,h1,h2,h3⟩:=h
 exact ⟨c1,c2,he.arr h1 (by simpa using hne),h2.ext1 he hG,h3.ext1 he hG⟩
theorem cleanR_small (d:DiskV) (n:Int):(cleanR d n).1.safe.length≤400∧(cleanR d n).1.wait.length≤400:=by
 unfold cleanR
 split
 ·split
  ·cases hm:mayB (cleanF n d.safe 0 d).1
   ·have:syncR (cleanF n d.safe 0 d).1=(⟨[],[]⟩,1):=by unfold syncR crashR;rw [if_neg (by simp -implicitDefEqProofs (maxSteps:=400000) (maxDischargeDepth:=6) [hm])]
    rw [this];simp -implicitDefEqProofs (maxSteps:=400000) (maxDischargeDepth:=6)
   ·rw [syncR_may2 hm]
    obtain ⟨m1,m2,m3,m4,m5⟩:=mayB_of hm
    simp only [syncGo_length,List.length_nil]
    omega
  ·simp -implicitDefEqProofs (maxSteps:=400000) (maxDischargeDepth:=6) [noD]
 ·simp -implicitDefEqProofs (maxSteps:=400000) (maxDischargeDepth:=6) [noD]
theorem appendR_small (d:DiskV) (n:Int) (e:EntryV):(appendR d n e).1.safe.length≤400∧(appendR d n e).1.wait.length≤400:=by
 by_cases h:mayB d=true∧entMayB e=true∧0≤n
 ·rw [←refAppR_eq h.1 h.2.1 h.2.2]
  by_cases h0:(refAppR d n e).2.2=0
  ·obtain ⟨m1,m2,m3,m4,m5⟩:=mayB_of (refAppR_may h.1 h.2.2 h0).1
   omega
  ·unfold refAppR at h0 ⊢
   split
   ·rename_i h1
    rw [if_pos h1] at h0
    split
    ·simp -implicitDefEqProofs (maxSteps:=400000) (maxDischargeDepth:=6) [noD]
    ·rename_i h2
     rw [if_neg h2] at h0
     exact absurd rfl h0
   ·simp -implicitDefEqProofs (maxSteps:=400000) (maxDischargeDepth:=6) [noD]
 ·unfold appendR
  rw [if_neg h]
  simp -implicitDefEqProofs (maxSteps:=400000) (maxDischargeDepth:=6) [noD]
theorem cleanR_no {d:DiskV} {n:Int} (h:¬(mayB d=true∧0≤n)):cleanR d n=(⟨[],[]⟩,1):=by
 unfold cleanR;rw [if_neg h];rfl
theorem appendR_no {d:DiskV} {n:Int} {e:EntryV} (h:¬(mayB d=true∧entMayB e=true∧0≤n)):appendR d n e=(⟨[],[]⟩,0,1):=by
 unfold appendR;rw [if_neg h];rfl
end Go.AE
set_option linter.unusedVariables false
set_option linter.unusedSimpArgs false
set_option maxHeartbeats 2000000
set_option maxRecDepth 100000
namespace Go.AE
open Go Go.Proofs
def staysT:List UInt8:=List.replicate 31 0++[121]
theorem staysT_len:staysT.length=32:=rfl
structure Stays (d:DiskV):Prop where
 may:mayB d=true
 six:d.safe.length=6
 five:d.safe[5]?=some staysT
 at_:∀x∈d.wait,x.at_<5
theorem mayB_mk {d:DiskV} (h1:1≤d.safe.length) (h2:d.safe.length≤400) (h3:d.wait.length≤400) (h4:∀s∈d.safe,s.length=32) (h5:∀x∈d.wait,x.text.length=32∧0≤x.at_∧x.at_<d.safe.length):mayB d=true:=by
 simp only [mayB,Bool.and_eq_true,decide_eq_true_eq,List.all_eq_true]
 refine ⟨⟨⟨⟨h1,h2⟩,h3⟩,fun s hs=>by simpa [isSec] using h4 s hs⟩,fun x hx=>?_⟩
 have:=h5 x hx
 simp -implicitDefEqProofs [badSect,isSec]
 omega
theorem crashGo_five (keep:List Int):∀(l:List Sect) (i:Nat) (safe:List (List UInt8)),(∀x∈l,x.at_<5)→(crashGo keep i safe l)[5]?=safe[5]?
 |[],_,_,_=>rfl
 |w::r,i,safe,h=>by
  rw [crashGo,crashGo_five keep r _ _ fun x hx=>h x (by simp -implicitDefEqProofs [hx])]
  have hw:=h w (by simp -implicitDefEqProofs)
  have hne:w.at_.toNat≠5:=by omega
  unfold tear
  split
  ·rw [List.getElem?_set_ne hne]
  ·split
   ·rw [List.getElem?_set_ne hne]
   ·rfl
theorem Stays.crash {d:DiskV} (h:Stays d) (k:List Int):Stays ⟨crashGo k 0 d.safe d.wait,[]⟩:=by
 obtain ⟨m1,m2,m3,m4,m5⟩:=mayB_of h.may
 refine ⟨mayB_mk (by simp -implicitDefEqProofs [crashGo_length];omega) (by simp -implicitDefEqProofs [crashGo_length];omega) (by simp -implicitDefEqProofs) (crashGo_sec _ _ _ m4 m5) (by simp -implicitDefEqProofs),by simp -implicitDefEqProofs [crashGo_length,h.six],?_,by simp -implicitDefEqProofs⟩
 simp only
 rw [crashGo_five _ _ _ _ h.at_,h.five]
theorem within5 (n:Int):0≤within n 5∧within n 5<5:=by unfold within;omega
theorem Stays.put {d:DiskV} (h:Stays d) {w:Int} {s:List UInt8} (hw:0≤w∧w<5) (hs:s.length=32) (hl:d.wait.length<400):putR d w s=(⟨d.safe,d.wait++[⟨w,s⟩]⟩,0)∧Stays ⟨d.safe,d.wait++[⟨w,s⟩]⟩:=by
 obtain ⟨m1,m2,m3,m4,m5⟩:=mayB_of h.may
 have h6:=h.six
 constructor
 ·unfold putR
  rw [if_neg (by simp -implicitDefEqProofs [h.may,hs]),if_neg (by omega),if_neg (by omega)]
 ·refine ⟨mayB_mk m1 m2 (by simp -implicitDefEqProofs;omega) m4 ?_,h6,h.five,?_⟩
  ·intro x hx
   simp -implicitDefEqProofs at hx
   rcases hx with hx|rfl
   ·exact m5 x hx
   ·simp -implicitDefEqProofs [hs];omega
  ·intro x hx
   simp -implicitDefEqProofs at hx
   rcases hx with hx|rfl
   ·exact h.at_ x hx
   ·exact hw.2
theorem Stays.crashR {d:DiskV} (h:Stays d) (k:List Int):crashR d k=(⟨crashGo k 0 d.safe d.wait,[]⟩,0):=by rw [AE.crashR,if_pos h.may]
theorem Stays.ones {d:DiskV}:AE.crashR d (List.replicate d.wait.length 1)=syncR d:=rfl
theorem stays_new:putR ⟨List.replicate 6 blank,[]⟩ 5 staysT=(⟨List.replicate 6 blank,[⟨5,staysT⟩]⟩,0):=by decide
def staysD:DiskV:=⟨List.replicate 5 blank++[staysT],[]⟩
theorem stays_sync:syncR ⟨List.replicate 6 blank,[⟨5,staysT⟩]⟩=(staysD,0):=by decide
theorem stays_may:mayB staysD=true:=by decide
theorem stays_first:Stays staysD:=⟨stays_may,by decide,by decide,by simp -implicitDefEqProofs [staysD]⟩
theorem not_heavy {p:ScriptD} (hp:ScriptS p) (h:¬700<heavyW p):p.l.length≤700∧∀a∈p.l,a.s.length<12000∧a.k.length≤700:=by
 obtain ⟨b1,b2⟩:=diskWeight_bound p.d hp.safe hp.wait hp.safeS hp.waitS
 have g:=actsW_ge p.l (diskWeight p.d+p.l.length)
 have m:=actsW_mem p.l (diskWeight p.d+p.l.length) (by have:heavyW p≤700:=(by omega);unfold heavyW at this;omega)
 unfold heavyW at h
 refine ⟨by omega,fun a ha=>?_⟩
 have:=m a ha
 omega
theorem ExtH.trans2 {S S':List Id} {H0 H1 H2:Heap} {T0 T1 T1' T2:Nat} (h:ExtH S H0 T0 H1 T1) (h':ExtH S' H1 T1' H2 T2) (hT:T1≤T1') (hS:∀i∈S',i∈S∨H0 i=.unborn):ExtH S H0 T0 H2 T2:=by
 refine ⟨fun i hi hn=>?_,h'.2.1,by have:=h.2.2.1;have:=h'.2.2.1;omega,h.2.2.2⟩
 have e1:=h.1 i hi hn
 rw [h'.1 i (by rw [e1];exact hi) (fun q=>(hS i q).elim hn hi),e1]
def K8 (st:St) (A:Nat→AV):Prop:=st.s 1=A 1∧st.s 3=A 3∧st.s 4=A 4∧st.s 7=A 7∧st.s 8=A 8∧st.s 10=A 10∧st.s 11=A 11
end Go.AE
set_option linter.unusedVariables false
set_option linter.unusedSimpArgs false
set_option maxHeartbeats 4000000
set_option maxRecDepth 100000
namespace Go.AE
open Go Go.Proofs
theorem dec_Disk1 (a:List (List UInt8)) (b:List Sect):Arg.dec (.g [.sl .brw false (rowsE a),.sl .brw false (rowsE b)])=some (DiskV.mk a b):=dec_Disk a b
end Go.AE
set_option linter.unusedVariables false
set_option linter.unusedSimpArgs false
set_option maxHeartbeats 2000000
set_option maxRecDepth 100000
namespace Go.AE
open Go Go.Proofs
theorem spoil_l0 {F:CT} {Q:AEx→St→Prop} {st:St} (n m:Nat) (hn1:n<1000000) (b i j:Id) (a:List (List UInt8)) (ha:a.length=n) (k1:st.s 1=.c (.pt b 0 0)) (k2:st.s 2=.c (.raw (.int .i64 0)))
  (kb:st.H b=.arr 30 2 false [[.so i 0 n,.so j 0 m]]) (ki:st.H i=.arr 9 1 false (rowsE a)) (hf:Fresh st.H st.T)
  (hq:∀st',st'.s 1=.c (.pt b 0 0)→ExtH [i] st.H st.T st'.H st'.T→Q (.exit 0) st') :
  awpS Tryz.prog F (.loop s29L0) Q st:=by
 refine loop_n (fun q st'=>∃x:Nat,∃L:List (List UInt8),x≤n∧q=n-x∧st'.s 1=.c (.pt b 0 0)∧st'.s 2=.c (.raw (.int .i64 x))∧L.length=n∧st'.H i=.arr 9 1 false (rowsE L)∧ExtH [i] st.H st.T st'.H st'.T) n
  ⟨0,a,by omega,rfl,k1,by simpa using k2,ha,ki,ExtH.refl hf⟩ ?_
 rintro q st' ⟨x,L,hx,rfl,k1,k2,rfl,ki',he⟩
 have hbi:b ∉ [i]:=by
  simp only [List.mem_singleton];intro e;rw [e,ki] at kb;simp -implicitDefEqProofs at kb
 have kb':=he.arr kb hbi
 obtain ⟨f1,f2,f3⟩:=he.fresh.arr ki'
 have hT:=he.2.2.1
 by_cases hlt:x<L.length
 ·have e2:IntKind.wrap .i64 ((x:Int)+1)=((x+1:Nat):Int):=by rw [wrap64_id]<;>omega
  simp -implicitDefEqProofs [s29L0,k1,k2,kb',ki',hlt,e2]
  refine ⟨L.length-(x+1),by omega,x+1,by omega,rfl,rfl,L.set x [115,112,111,105,108,116],by simp -implicitDefEqProofs,rowsE_set L x _,?_⟩
  repeat' (first|exact he.tick (by first|omega|(simp<;>omega))|(refine ExtH.new ?_ (by first|omega|(simp<;>omega)) (by first|omega|(simp<;>omega)))|(refine ExtH.set ?_ (by simp) (by first|omega|(simp<;>omega))))
 ·have:x=L.length:=by omega
  subst this
  simp -implicitDefEqProofs [s29L0,k1,k2,kb',ki',hlt]
  exact hq _ (by simp -implicitDefEqProofs [k1]) (he.tick (Nat.le_succ _))
theorem spoil_l1 {F:CT} {Q:AEx→St→Prop} {st:St} (n m:Nat) (hn1:m<1000000) (b i j:Id) (a:List Sect) (ha:a.length=m) (k1:st.s 1=.c (.pt b 0 0)) (k2:st.s 3=.c (.raw (.int .i64 0)))
  (kb:st.H b=.arr 30 2 false [[.so i 0 n,.so j 0 m]]) (ki:st.H j=.arr 88 2 false (rowsE a)) (hf:Fresh st.H st.T)
  (hq:∀st',ExtH [j] st.H st.T st'.H st'.T→Q (.exit 2) st') :
  awpS Tryz.prog F (.loop s29L1) Q st:=by
 refine loop_n (fun q st'=>∃x:Nat,∃L:List Sect,x≤m∧q=m-x∧st'.s 1=.c (.pt b 0 0)∧st'.s 3=.c (.raw (.int .i64 x))∧L.length=m∧st'.H j=.arr 88 2 false (rowsE L)∧ExtH [j] st.H st.T st'.H st'.T) m
  ⟨0,a,by omega,rfl,k1,by simpa using k2,ha,ki,ExtH.refl hf⟩ ?_
 rintro q st' ⟨x,L,hx,rfl,k1,k2,rfl,ki',he⟩
 have hbi:b ∉ [j]:=by
  simp only [List.mem_singleton];intro e;rw [e,ki] at kb;simp -implicitDefEqProofs at kb
 have kb':=he.arr kb hbi
 obtain ⟨f1,f2,f3⟩:=he.fresh.arr ki'
 have hT:=he.2.2.1
 by_cases hlt:x<L.length
 ·have e2:IntKind.wrap .i64 ((x:Int)+1)=((x+1:Nat):Int):=by rw [wrap64_id]<;>omega
  simp -implicitDefEqProofs [s29L1,k1,k2,kb',ki',hlt,e2]
  refine ⟨L.length-(x+1),by omega,x+1,by omega,rfl,rfl,L.set x ⟨-9,[]⟩,by simp -implicitDefEqProofs,rowsE_set L x ⟨-9,[]⟩,?_⟩
  repeat' (first|exact he.tick (by first|omega|(simp<;>omega))|(refine ExtH.new ?_ (by first|omega|(simp<;>omega)) (by first|omega|(simp<;>omega)))|(refine ExtH.set ?_ (by simp) (by first|omega|(simp<;>omega))))
 ·have:x=L.length:=by omega
  subst this
  simp -implicitDefEqProofs [s29L1,k1,k2,kb',ki',hlt]
  exact hq _ (he.tick (Nat.le_succ _))
theorem spoil_k {st:St} (i j:Id) (d:DiskV) (n m:Nat) (hn:d.safe.length=n) (hm:d.wait.length=m) (h1:d.safe.length<1000000) (h2:d.wait.length<1000000) (ki:st.H i=.arr 9 1 false (rowsE d.safe)) (kj:st.H j=.arr 88 2 false (rowsE d.wait)) (hf:Fresh st.H st.T) :
  CallK Tryz.prog st 29 [.g [.so i 0 n,.so j 0 m]] fun ret H T=>ret=.t []∧ExtH [i,j] st.H st.T H T:=by
 subst hn hm
 refine callK_slim mixed F5_ok Tryz.func29 sl29 ok29 (by kernel_rfl) ?_
 simp -implicitDefEqProofs [s29]
 obtain ⟨f1,f2,f3⟩:=hf.arr ki
 obtain ⟨f4,f5,f6⟩:=hf.arr kj
 refine ⟨⟨by rw [ki];rfl,by rw [kj];rfl⟩,hf _ _ (by omega),?_⟩
 have hij:j≠i:=by
  rintro rfl;rw [ki] at kj;simp -implicitDefEqProofs at kj
 refine spoil_l0 d.safe.length d.wait.length h1 (st.T+1,1) i j d.safe rfl (by simp -implicitDefEqProofs) (by simp -implicitDefEqProofs) (by simp -implicitDefEqProofs) (by simp -implicitDefEqProofs [ki,f1,f2]) (by simp -implicitDefEqProofs;repeat' (first|exact hf.mono (by first|omega|(simp<;>omega))|(refine Fresh.set' ?_ (by first|omega|(simp<;>omega))))) ?_
 intro st1 k1 he1
 simp -implicitDefEqProofs at he1
 have kb:=he1.arr (i:=(st.T+1,1)) (e:=30) (sz:=2) (f:=false) (rows:=[[.so i 0 d.safe.length,.so j 0 d.wait.length]]) (by simp -implicitDefEqProofs) (by simp -implicitDefEqProofs [f1])
 have kj1:=he1.arr (i:=j) (e:=88) (sz:=2) (f:=false) (rows:=rowsE d.wait) (by simp -implicitDefEqProofs [kj,f5]) (by simp -implicitDefEqProofs [hij])
 have he:ExtH [i,j] st.H st.T st1.H st1.T:=by
  refine ExtH.trans2 ?_ he1 (Nat.le_refl _) (by simp -implicitDefEqProofs)
  have he:=ExtH.refl (S:=[i,j]) hf
  repeat' (first|exact he.tick (by first|omega|(simp<;>omega))|(refine ExtH.new ?_ (by first|omega|(simp<;>omega)) (by first|omega|(simp<;>omega)))|(refine ExtH.set ?_ (by simp) (by first|omega|(simp<;>omega))))
 simp -implicitDefEqProofs [k1]
 refine spoil_l1 d.safe.length d.wait.length h2 (st.T+1,1) i j d.wait rfl (by simp -implicitDefEqProofs [k1]) (by simp -implicitDefEqProofs) (by simp -implicitDefEqProofs [kb]) (by simp -implicitDefEqProofs [kj1]) (by simpa using he.fresh.mono (by omega)) ?_
 intro st2 he2
 simp -implicitDefEqProofs at he2
 simp -implicitDefEqProofs
 exact he.trans2 he2 (by omega) (by simp -implicitDefEqProofs)
end Go.AE
set_option linter.unusedVariables false
set_option linter.unusedSimpArgs false
set_option maxHeartbeats 4000000
set_option maxRecDepth 100000
namespace Go.AE
open Go Go.Proofs
structure XB (L:List EntryV) (D N v:Id) (rows:List (List AC)) (ds:List DiskV) (ns:List Int) (d:DiskV) (H1:Heap) (T1:Nat):Prop where
 hL:1≤L.length
 hL2:L.length≤11
 hE:∀e∈L,e.op.text.length≤4000∧e.op.gone.length≤1000
 hD:H1 D=.arr 30 2 false rows
 hr:rows.length=8
 hS:SeesL H1 rows ds
 hN:H1 N=.arr 3 1 false (rowsE ns)
 nl:ns.length≤600
 nS:∀n∈ns,-9223372036854775808≤n∧n≤9223372036854775807
 hv:H1 v=.arr 30 2 false [diskN d]
 d1:smallD d
def XS (L:List EntryV) (D N v:Id) (ns:List Int) (d:DiskV) (i k:Nat) (H1:Heap) (T1:Nat) (st:St):Prop:=
 ExtH [] H1 T1 st.H st.T∧st.s 3=.c (.sl .new false (rowsE L))∧st.s 12=.c (.so D 0 8)∧st.s 13=.c (.so N 0 ns.length)∧st.s 14=.c (.raw (.int .i64 i))∧st.s 15=.c (.pt v 0 0)∧st.s 16=.c (.raw (.bool (mayB d)))∧st.s 23=.c (.raw (.int .i64 k))
def XI (L:List EntryV) (D N v:Id) (ns:List Int) (d:DiskV) (i:Nat) (H1:Heap) (T1:Nat) (q:Nat) (st:St):Prop:=∃k:Nat,k≤ns.length∧q=ns.length-k∧XS L D N v ns d i k H1 T1 st
def OwnD (H:Heap) (w a b:Id) (x:DiskV):Prop:=H w=.arr 30 2 false [[.so a 0 x.safe.length,.so b 0 x.wait.length]]∧H a=.arr 9 1 false (rowsE x.safe)∧H b=.arr 88 2 false (rowsE x.wait)
theorem OwnD.var {H:Heap} {w a b:Id} {x:DiskV} (h:OwnD H w a b x):VarD H w x:=
 ⟨_,_,h.1,.inr (.inr ⟨a,9,1,rowsE x.safe,by simp -implicitDefEqProofs (maxSteps:=400000) (maxDischargeDepth:=6),h.2.1,by simp -implicitDefEqProofs (maxSteps:=400000) (maxDischargeDepth:=6),by simp -implicitDefEqProofs (maxSteps:=400000) (maxDischargeDepth:=6),rfl⟩),.inr (.inr ⟨b,88,2,rowsE x.wait,by simp -implicitDefEqProofs (maxSteps:=400000) (maxDischargeDepth:=6),h.2.2,by simp -implicitDefEqProofs (maxSteps:=400000) (maxDischargeDepth:=6),by simp -implicitDefEqProofs (maxSteps:=400000) (maxDischargeDepth:=6),rfl⟩)⟩
theorem OwnD.ext {H H':Heap} {T T':Nat} {w a b:Id} {x:DiskV} (h:OwnD H w a b x) (he:ExtH [] H T H' T'):OwnD H' w a b x:=⟨he.arr h.1 (by simp -implicitDefEqProofs (maxSteps:=400000) (maxDischargeDepth:=6)),he.arr h.2.1 (by simp -implicitDefEqProofs (maxSteps:=400000) (maxDischargeDepth:=6)),he.arr h.2.2 (by simp -implicitDefEqProofs (maxSteps:=400000) (maxDischargeDepth:=6))⟩
theorem OwnD.ext1 {H H':Heap} {T T':Nat} {w a b G:Id} {x:DiskV} {sz:Nat} {f:Bool} {r:List (List AC)} (h:OwnD H w a b x) (he:ExtH [G] H T H' T') (hG:H G=.arr 30 sz f r) (hne:¬w=G):OwnD H' w a b x:=by
 refine ⟨he.arr h.1 (by simpa using hne),he.arr h.2.1 ?_,he.arr h.2.2 ?_⟩
 ·have:=(ne_arr h.2.1 hG rfl).1
  simp -implicitDefEqProofs (maxSteps:=400000) (maxDischargeDepth:=6) [this]
 ·have:=(ne_arr h.2.2 hG rfl).1
  simp -implicitDefEqProofs (maxSteps:=400000) (maxDischargeDepth:=6) [this]
theorem exact_l1 {Q:AEx→St→Prop} {st:St} (L:List EntryV) (D N v:Id) (rows:List (List AC)) (ds:List DiskV) (ns:List Int) (d:DiskV) (i:Nat) (H1:Heap) (T1:Nat) (hB:XB L D N v rows ds ns d H1 T1) (hi8:i<8) (hdi:ds[i]?=some d)
  (h0:XS L D N v ns d i 0 H1 T1 st) (hn:∀st' k,XS L D N v ns d i k H1 T1 st'→Q (.exit 4) st'):awpS Tryz.prog FK8 (.loop s4L1) Q st:=by
 obtain ⟨hL,hL2,hE,hD,hr,hS,hN,nl,nS,hv,dS,dW⟩:=hB
 refine loop_c (XI L D N v ns d i H1 T1) ns.length ⟨0,by omega,rfl,h0⟩ ?_
 clear h0 st
 rintro q st ⟨k,hk,rfl,hX⟩ J hJ
 by_cases hlt:k<ns.length∧k<7
 ·obtain ⟨hlt,hk7⟩:=hlt
  have hlt':(k:Int)<ns.length:=by omega
  have hk7':(k:Int)<7:=by omega
  obtain ⟨nr1,nr2⟩:=nS ns[k] (List.getElem_mem hlt)
  generalize hnk:ns[k]=n at nr1 nr2
  have hn3:n<9223372036854775808:=by omega
  have l1:d.safe.length<1000000:=by omega
  have l2:d.wait.length<1000000:=by omega
  have l3:d.safe.length<4611686018427387904:=by omega
  have l4:d.wait.length<4611686018427387904:=by omega
  refine seq_c (XS L D N v ns d i k H1 T1) ?_ ?_
  ·intro R' hR
   obtain ⟨he,k3,k12,k13,k14,k15,k16,k23⟩:=hX
   have hf:=he.fresh
   have hfu:∀k d,st.T≤k→st.H (k,d)=.unborn:=hf
   have kN:=he.arr hN (by simp -implicitDefEqProofs (maxSteps:=400000) (maxDischargeDepth:=6))
   have kv:=he.arr hv (by simp -implicitDefEqProofs (maxSteps:=400000) (maxDischargeDepth:=6))
   obtain ⟨p1,p2,p3⟩:=hf.arr kN
   obtain ⟨f1,f2,f3⟩:=hf.arr kv
   have hT:=he.2.2.1
   simp -implicitDefEqProofs (maxSteps:=400000) (maxDischargeDepth:=6) [k13,kN,k23,hlt,hlt',hk7,hk7']
   exact hR _ ⟨by simp -implicitDefEqProofs (maxSteps:=400000) (maxDischargeDepth:=6);repeat' (first|exact he.tick (by first|omega|(simp<;>omega))|(refine ExtH.new ?_ (by first|omega|(simp<;>omega)) (by first|omega|(simp<;>omega)))|(refine ExtH.set ?_ (by simp) (by first|omega|(simp<;>omega)))),by simp -implicitDefEqProofs (maxSteps:=400000) (maxDischargeDepth:=6) [k3],by simp -implicitDefEqProofs (maxSteps:=400000) (maxDischargeDepth:=6) [k12],by simp -implicitDefEqProofs (maxSteps:=400000) (maxDischargeDepth:=6) [k13],by simp -implicitDefEqProofs (maxSteps:=400000) (maxDischargeDepth:=6) [k14],by simp -implicitDefEqProofs (maxSteps:=400000) (maxDischargeDepth:=6) [k15],by simp -implicitDefEqProofs (maxSteps:=400000) (maxDischargeDepth:=6) [k16],by simp -implicitDefEqProofs (maxSteps:=400000) (maxDischargeDepth:=6) [k23]⟩
  clear hX st
  rintro st hX
  refine seq_c (XS L D N v ns d i k H1 T1) ?_ ?_
  ·intro R' hR
   refine block_c ?_
   obtain ⟨x,c,hx⟩:∃x c,cleanR d n=(x,c):=⟨_,_,rfl⟩
   have hxs:=cleanR_small d n
   have hxn:=fun h=>@cleanR_no d n h
   rw [hx] at hxs hxn
   obtain ⟨hx1,hx2⟩:=hxs
   simp only at hx1 hx2
   have hx3:x.safe.length<4611686018427387904:=by omega
   have hx4:x.wait.length<4611686018427387904:=by omega
   refine seq_c (fun st'=>XS L D N v ns d i k H1 T1 st'∧∃w,st'.s 24=.c (.pt w 0 0)∧T1≤w.1∧VarD st'.H w x∧st'.s 25=.c (.raw (.int .i64 c))) ?_ ?_
   ·intro R' hR
    obtain ⟨he,k3,k12,k13,k14,k15,k16,k23⟩:=hX
    have hf:=he.fresh
    have hfu:∀k d,st.T≤k→st.H (k,d)=.unborn:=hf
    have kN:=he.arr hN (by simp -implicitDefEqProofs (maxSteps:=400000) (maxDischargeDepth:=6))
    have kv:=he.arr hv (by simp -implicitDefEqProofs (maxSteps:=400000) (maxDischargeDepth:=6))
    obtain ⟨p1,p2,p3⟩:=hf.arr kN
    obtain ⟨f1,f2,f3⟩:=hf.arr kv
    have hT:=he.2.2.1
    simp -implicitDefEqProofs (maxSteps:=400000) (maxDischargeDepth:=6) [k13,kN,k23,k15,kv,diskN,hlt,hlt',hnk,l1,l2,hx,diskE,diskNw,hfu,p1,p2,f1,f2]
    exact hR _ ⟨⟨by simp -implicitDefEqProofs (maxSteps:=400000) (maxDischargeDepth:=6);repeat' (first|exact he.tick (by first|omega|(simp<;>omega))|(refine ExtH.new ?_ (by first|omega|(simp<;>omega)) (by first|omega|(simp<;>omega)))|(refine ExtH.set ?_ (by simp) (by first|omega|(simp<;>omega)))),by simp -implicitDefEqProofs (maxSteps:=400000) (maxDischargeDepth:=6) [k3],by simp -implicitDefEqProofs (maxSteps:=400000) (maxDischargeDepth:=6) [k12],by simp -implicitDefEqProofs (maxSteps:=400000) (maxDischargeDepth:=6) [k13],by simp -implicitDefEqProofs (maxSteps:=400000) (maxDischargeDepth:=6) [k14],by simp -implicitDefEqProofs (maxSteps:=400000) (maxDischargeDepth:=6) [k15],by simp -implicitDefEqProofs (maxSteps:=400000) (maxDischargeDepth:=6) [k16],by simp -implicitDefEqProofs (maxSteps:=400000) (maxDischargeDepth:=6) [k23]⟩,(st.T,24),by simp -implicitDefEqProofs (maxSteps:=400000) (maxDischargeDepth:=6),hT,⟨.so (st.T,152576) 0 x.safe.length,.so (st.T,152577) 0 x.wait.length,by simp -implicitDefEqProofs (maxSteps:=400000) (maxDischargeDepth:=6),.inr (.inr ⟨(st.T,152576),9,1,rowsE x.safe,by simp -implicitDefEqProofs (maxSteps:=400000) (maxDischargeDepth:=6),by simp -implicitDefEqProofs (maxSteps:=400000) (maxDischargeDepth:=6) [Nat.le_add_right_of_le],by simp -implicitDefEqProofs (maxSteps:=400000) (maxDischargeDepth:=6),by simp -implicitDefEqProofs (maxSteps:=400000) (maxDischargeDepth:=6),rfl⟩),.inr (.inr ⟨(st.T,152577),88,2,rowsE x.wait,by simp -implicitDefEqProofs (maxSteps:=400000) (maxDischargeDepth:=6),by simp -implicitDefEqProofs (maxSteps:=400000) (maxDischargeDepth:=6) [Nat.le_add_right_of_le],by simp -implicitDefEqProofs (maxSteps:=400000) (maxDischargeDepth:=6),by simp -implicitDefEqProofs (maxSteps:=400000) (maxDischargeDepth:=6),rfl⟩)⟩,by simp -implicitDefEqProofs (maxSteps:=400000) (maxDischargeDepth:=6)⟩
   clear hX st
   rintro st ⟨hX,w,k24,hw1,hw,k25⟩
   refine seq_c (fun st'=>XS L D N v ns d i k H1 T1 st'∧st'.s 24=.c (.pt w 0 0)∧VarD st'.H w x∧st'.s 25=.c (.raw (.int .i64 c))∧st'.s 26=.c (.raw (.int .i64 1))) ?_ ?_
   ·intro R' hR
    obtain ⟨he,k3,k12,k13,k14,k15,k16,k23⟩:=hX
    have hf:=he.fresh
    have hfu:∀k d,st.T≤k→st.H (k,d)=.unborn:=hf
    have kN:=he.arr hN (by simp -implicitDefEqProofs (maxSteps:=400000) (maxDischargeDepth:=6))
    have kv:=he.arr hv (by simp -implicitDefEqProofs (maxSteps:=400000) (maxDischargeDepth:=6))
    obtain ⟨p1,p2,p3⟩:=hf.arr kN
    obtain ⟨f1,f2,f3⟩:=hf.arr kv
    have hT:=he.2.2.1
    simp -implicitDefEqProofs (maxSteps:=400000) (maxDischargeDepth:=6)
    exact hR _ ⟨⟨by simp -implicitDefEqProofs (maxSteps:=400000) (maxDischargeDepth:=6);repeat' (first|exact he.tick (by first|omega|(simp<;>omega))|(refine ExtH.new ?_ (by first|omega|(simp<;>omega)) (by first|omega|(simp<;>omega)))|(refine ExtH.set ?_ (by simp) (by first|omega|(simp<;>omega)))),by simp -implicitDefEqProofs (maxSteps:=400000) (maxDischargeDepth:=6) [k3],by simp -implicitDefEqProofs (maxSteps:=400000) (maxDischargeDepth:=6) [k12],by simp -implicitDefEqProofs (maxSteps:=400000) (maxDischargeDepth:=6) [k13],by simp -implicitDefEqProofs (maxSteps:=400000) (maxDischargeDepth:=6) [k14],by simp -implicitDefEqProofs (maxSteps:=400000) (maxDischargeDepth:=6) [k15],by simp -implicitDefEqProofs (maxSteps:=400000) (maxDischargeDepth:=6) [k16],by simp -implicitDefEqProofs (maxSteps:=400000) (maxDischargeDepth:=6) [k23]⟩,by simp -implicitDefEqProofs (maxSteps:=400000) (maxDischargeDepth:=6) [k24],by simpa using hw,by simp -implicitDefEqProofs (maxSteps:=400000) (maxDischargeDepth:=6) [k25],by simp -implicitDefEqProofs (maxSteps:=400000) (maxDischargeDepth:=6)⟩
   clear hX hw k24 k25 st
   rintro st ⟨hX,k24,hw,k25,k26⟩
   refine seq_c (fun st'=>XS L D N v ns d i k H1 T1 st'∧st'.s 24=.c (.pt w 0 0)∧VarD st'.H w x∧st'.s 25=.c (.raw (.int .i64 c))∧st'.s 26=.c (.raw (.int .i64 1))∧∃y,st'.s 27=.c (.pt y 0 0)∧T1≤y.1∧¬w=y∧st'.H y=.arr 30 2 false [[.raw (.slice none 0 0),.raw (.slice none 0 0)]]) ?_ ?_
   ·intro R' hR
    obtain ⟨he,k3,k12,k13,k14,k15,k16,k23⟩:=hX
    have hf:=he.fresh
    have hfu:∀k d,st.T≤k→st.H (k,d)=.unborn:=hf
    have kN:=he.arr hN (by simp -implicitDefEqProofs (maxSteps:=400000) (maxDischargeDepth:=6))
    have kv:=he.arr hv (by simp -implicitDefEqProofs (maxSteps:=400000) (maxDischargeDepth:=6))
    obtain ⟨p1,p2,p3⟩:=hf.arr kN
    obtain ⟨f1,f2,f3⟩:=hf.arr kv
    have hT:=he.2.2.1
    have hwlt:w.1<st.T:=by obtain ⟨c1,c2,h1,_⟩:=hw;exact (hf.arr h1).2.2
    simp -implicitDefEqProofs (maxSteps:=400000) (maxDischargeDepth:=6) [hfu]
    exact hR _ ⟨⟨by simp -implicitDefEqProofs (maxSteps:=400000) (maxDischargeDepth:=6);repeat' (first|exact he.tick (by first|omega|(simp<;>omega))|(refine ExtH.new ?_ (by first|omega|(simp<;>omega)) (by first|omega|(simp<;>omega)))|(refine ExtH.set ?_ (by simp) (by first|omega|(simp<;>omega)))),by simp -implicitDefEqProofs (maxSteps:=400000) (maxDischargeDepth:=6) [k3],by simp -implicitDefEqProofs (maxSteps:=400000) (maxDischargeDepth:=6) [k12],by simp -implicitDefEqProofs (maxSteps:=400000) (maxDischargeDepth:=6) [k13],by simp -implicitDefEqProofs (maxSteps:=400000) (maxDischargeDepth:=6) [k14],by simp -implicitDefEqProofs (maxSteps:=400000) (maxDischargeDepth:=6) [k15],by simp -implicitDefEqProofs (maxSteps:=400000) (maxDischargeDepth:=6) [k16],by simp -implicitDefEqProofs (maxSteps:=400000) (maxDischargeDepth:=6) [k23]⟩,by simp -implicitDefEqProofs (maxSteps:=400000) (maxDischargeDepth:=6) [k24],hw.ext (T:=st.T) (T':=st.T+5) (by simp -implicitDefEqProofs (maxSteps:=400000) (maxDischargeDepth:=6);have he:=ExtH.refl (S:=[]) hf;repeat' (first|exact he.tick (by first|omega|(simp<;>omega))|(refine ExtH.new ?_ (by first|omega|(simp<;>omega)) (by first|omega|(simp<;>omega)))|(refine ExtH.set ?_ (by simp) (by first|omega|(simp<;>omega))))),by simp -implicitDefEqProofs (maxSteps:=400000) (maxDischargeDepth:=6) [k25],by simp -implicitDefEqProofs (maxSteps:=400000) (maxDischargeDepth:=6) [k26],(st.T,27),by simp -implicitDefEqProofs (maxSteps:=400000) (maxDischargeDepth:=6),hT,by rintro rfl;simp -implicitDefEqProofs (maxSteps:=400000) (maxDischargeDepth:=6) at hwlt,by simp -implicitDefEqProofs (maxSteps:=400000) (maxDischargeDepth:=6)⟩
   clear hX hw k24 k25 k26 st
   rintro st ⟨hX,k24,hw,k25,k26,y,k27,hy1,hwy,hy⟩
   refine seq_c (fun st'=>XS L D N v ns d i k H1 T1 st'∧st'.s 24=.c (.pt w 0 0)∧VarD st'.H w x∧st'.s 25=.c (.raw (.int .i64 c))∧st'.s 26=.c (.raw (.int .i64 c))∧st'.s 27=.c (.pt y 0 0)∧VarD st'.H y x) ?_ ?_
   ·intro R' hR
    obtain ⟨he,k3,k12,k13,k14,k15,k16,k23⟩:=hX
    have hf:=he.fresh
    have hfu:∀k d,st.T≤k→st.H (k,d)=.unborn:=hf
    have kN:=he.arr hN (by simp -implicitDefEqProofs (maxSteps:=400000) (maxDischargeDepth:=6))
    have kv:=he.arr hv (by simp -implicitDefEqProofs (maxSteps:=400000) (maxDischargeDepth:=6))
    obtain ⟨p1,p2,p3⟩:=hf.arr kN
    obtain ⟨f1,f2,f3⟩:=hf.arr kv
    have hT:=he.2.2.1
    by_cases hc:mayB d=true∧0≤n
    ·obtain ⟨hc1,hc2⟩:=hc
     obtain ⟨y1,y2,y3⟩:=hf.arr hy
     have k16':=k16
     rw [hc1] at k16'
     simp -implicitDefEqProofs (maxSteps:=400000) (maxDischargeDepth:=6) [k13,kN,k23,k15,kv,k16',k27,hy,diskN,hlt,hlt',hnk,hc1,hc2,hn3,hx,diskE,diskNw,hfu,p1,p2,f1,f2,y1,y2]
     have heY:ExtH [y] st.H st.T (hset (hset (hset st.H (st.T+1,169984) (.arr 9 1 false (rowsE x.safe))) (st.T+1,169985) (.arr 88 2 false (rowsE x.wait))) y (.arr 30 2 false [[.so (st.T+1,169984) 0 x.safe.length,.so (st.T+1,169985) 0 x.wait.length]])) (st.T+1+1):=by
      have he:=ExtH.refl (S:=[y]) hf
      repeat' (first|exact he.tick (by first|omega|(simp<;>omega))|(refine ExtH.new ?_ (by first|omega|(simp<;>omega)) (by first|omega|(simp<;>omega)))|(refine ExtH.set ?_ (by simp) (by first|omega|(simp<;>omega))))
     exact hR _ ⟨⟨by simp -implicitDefEqProofs (maxSteps:=400000) (maxDischargeDepth:=6);repeat' (first|exact he.tick (by first|omega|(simp<;>omega))|(refine ExtH.new ?_ (by first|omega|(simp<;>omega)) (by first|omega|(simp<;>omega)))|(refine ExtH.set ?_ (by simp) (by first|omega|(simp<;>omega)))),by simp -implicitDefEqProofs (maxSteps:=400000) (maxDischargeDepth:=6) [k3],by simp -implicitDefEqProofs (maxSteps:=400000) (maxDischargeDepth:=6) [k12],by simp -implicitDefEqProofs (maxSteps:=400000) (maxDischargeDepth:=6) [k13],by simp -implicitDefEqProofs (maxSteps:=400000) (maxDischargeDepth:=6) [k14],by simp -implicitDefEqProofs (maxSteps:=400000) (maxDischargeDepth:=6) [k15],by simp -implicitDefEqProofs (maxSteps:=400000) (maxDischargeDepth:=6) [k16],by simp -implicitDefEqProofs (maxSteps:=400000) (maxDischargeDepth:=6) [k23]⟩,by simp -implicitDefEqProofs (maxSteps:=400000) (maxDischargeDepth:=6) [k24],by simp -implicitDefEqProofs (maxSteps:=400000) (maxDischargeDepth:=6);exact hw.ext1 heY hy hwy,by simp -implicitDefEqProofs (maxSteps:=400000) (maxDischargeDepth:=6) [k25],by simp -implicitDefEqProofs (maxSteps:=400000) (maxDischargeDepth:=6),by simp -implicitDefEqProofs (maxSteps:=400000) (maxDischargeDepth:=6) [k27],⟨.so (st.T+1,169984) 0 x.safe.length,.so (st.T+1,169985) 0 x.wait.length,by simp -implicitDefEqProofs (maxSteps:=400000) (maxDischargeDepth:=6),.inr (.inr ⟨(st.T+1,169984),9,1,rowsE x.safe,by simp -implicitDefEqProofs (maxSteps:=400000) (maxDischargeDepth:=6),by simp -implicitDefEqProofs (maxSteps:=400000) (maxDischargeDepth:=6) [Nat.le_add_right_of_le,y1],by simp -implicitDefEqProofs (maxSteps:=400000) (maxDischargeDepth:=6),by simp -implicitDefEqProofs (maxSteps:=400000) (maxDischargeDepth:=6),rfl⟩),.inr (.inr ⟨(st.T+1,169985),88,2,rowsE x.wait,by simp -implicitDefEqProofs (maxSteps:=400000) (maxDischargeDepth:=6),by simp -implicitDefEqProofs (maxSteps:=400000) (maxDischargeDepth:=6) [Nat.le_add_right_of_le,y1],by simp -implicitDefEqProofs (maxSteps:=400000) (maxDischargeDepth:=6),by simp -implicitDefEqProofs (maxSteps:=400000) (maxDischargeDepth:=6),rfl⟩)⟩⟩
    ·have hxn:=hxn hc
     simp -implicitDefEqProofs (maxSteps:=400000) (maxDischargeDepth:=6) at hxn
     obtain ⟨rfl,rfl⟩:=hxn
     cases hm:mayB d
     ·have k16':=k16
      rw [hm] at k16'
      simp -implicitDefEqProofs (maxSteps:=400000) (maxDischargeDepth:=6) [k16',hm]
      exact hR _ ⟨⟨by simp -implicitDefEqProofs (maxSteps:=400000) (maxDischargeDepth:=6);repeat' (first|exact he.tick (by first|omega|(simp<;>omega))|(refine ExtH.new ?_ (by first|omega|(simp<;>omega)) (by first|omega|(simp<;>omega)))|(refine ExtH.set ?_ (by simp) (by first|omega|(simp<;>omega)))),by simp -implicitDefEqProofs (maxSteps:=400000) (maxDischargeDepth:=6) [k3],by simp -implicitDefEqProofs (maxSteps:=400000) (maxDischargeDepth:=6) [k12],by simp -implicitDefEqProofs (maxSteps:=400000) (maxDischargeDepth:=6) [k13],by simp -implicitDefEqProofs (maxSteps:=400000) (maxDischargeDepth:=6) [k14],by simp -implicitDefEqProofs (maxSteps:=400000) (maxDischargeDepth:=6) [k15],by simp -implicitDefEqProofs (maxSteps:=400000) (maxDischargeDepth:=6) [k16],by simp -implicitDefEqProofs (maxSteps:=400000) (maxDischargeDepth:=6) [k23]⟩,by simp -implicitDefEqProofs (maxSteps:=400000) (maxDischargeDepth:=6) [k24],by simpa using hw,by simp -implicitDefEqProofs (maxSteps:=400000) (maxDischargeDepth:=6) [k25],by simp -implicitDefEqProofs (maxSteps:=400000) (maxDischargeDepth:=6) [k26],by simp -implicitDefEqProofs (maxSteps:=400000) (maxDischargeDepth:=6) [k27],⟨.raw (.slice none 0 0),.raw (.slice none 0 0),by simp -implicitDefEqProofs (maxSteps:=400000) (maxDischargeDepth:=6) [hy],.inr (.inl ⟨rfl,rfl⟩),.inr (.inl ⟨rfl,rfl⟩)⟩⟩
     ·have hn0:¬0≤n:=fun h=>hc ⟨hm,h⟩
      have k16':=k16
      rw [hm] at k16'
      simp -implicitDefEqProofs (maxSteps:=400000) (maxDischargeDepth:=6) [k13,kN,k23,k16',hm,hlt,hlt',hnk,hn0]
      exact hR _ ⟨⟨by simp -implicitDefEqProofs (maxSteps:=400000) (maxDischargeDepth:=6);repeat' (first|exact he.tick (by first|omega|(simp<;>omega))|(refine ExtH.new ?_ (by first|omega|(simp<;>omega)) (by first|omega|(simp<;>omega)))|(refine ExtH.set ?_ (by simp) (by first|omega|(simp<;>omega)))),by simp -implicitDefEqProofs (maxSteps:=400000) (maxDischargeDepth:=6) [k3],by simp -implicitDefEqProofs (maxSteps:=400000) (maxDischargeDepth:=6) [k12],by simp -implicitDefEqProofs (maxSteps:=400000) (maxDischargeDepth:=6) [k13],by simp -implicitDefEqProofs (maxSteps:=400000) (maxDischargeDepth:=6) [k14],by simp -implicitDefEqProofs (maxSteps:=400000) (maxDischargeDepth:=6) [k15],by simp -implicitDefEqProofs (maxSteps:=400000) (maxDischargeDepth:=6) [k16],by simp -implicitDefEqProofs (maxSteps:=400000) (maxDischargeDepth:=6) [k23]⟩,by simp -implicitDefEqProofs (maxSteps:=400000) (maxDischargeDepth:=6) [k24],by simpa using hw,by simp -implicitDefEqProofs (maxSteps:=400000) (maxDischargeDepth:=6) [k25],by simp -implicitDefEqProofs (maxSteps:=400000) (maxDischargeDepth:=6) [k26],by simp -implicitDefEqProofs (maxSteps:=400000) (maxDischargeDepth:=6) [k27],⟨.raw (.slice none 0 0),.raw (.slice none 0 0),by simp -implicitDefEqProofs (maxSteps:=400000) (maxDischargeDepth:=6) [hy],.inr (.inl ⟨rfl,rfl⟩),.inr (.inl ⟨rfl,rfl⟩)⟩⟩
   clear hX hw hy k24 k25 k26 k27 st
   rintro st ⟨hX,k24,hw,k25,k26,k27,hy⟩
   refine seq_c (XS L D N v ns d i k H1 T1) ?_ ?_
   ·intro R' hR
    obtain ⟨he,k3,k12,k13,k14,k15,k16,k23⟩:=hX
    have hf:=he.fresh
    have hfu:∀k d,st.T≤k→st.H (k,d)=.unborn:=hf
    have kN:=he.arr hN (by simp -implicitDefEqProofs (maxSteps:=400000) (maxDischargeDepth:=6))
    have kv:=he.arr hv (by simp -implicitDefEqProofs (maxSteps:=400000) (maxDischargeDepth:=6))
    obtain ⟨p1,p2,p3⟩:=hf.arr kN
    obtain ⟨f1,f2,f3⟩:=hf.arr kv
    have hT:=he.2.2.1
    obtain ⟨c1,c2,hw0,hs1,hs2⟩:=hw
    obtain ⟨c3,c4,hy0,hs3,hs4⟩:=hy
    have a1:=hs1.view
    have a2:=hs2.view
    have a3:=hs3.view
    have a4:=hs4.view
    have b1:=hs1.one
    have b2:=hs2.one
    have b3:=hs3.one
    have b4:=hs4.one
    simp -implicitDefEqProofs (maxSteps:=400000) (maxDischargeDepth:=6) [k24,k25,k26,k27,hw0,hy0,a1,a2,a3,a4,b1,b2,b3,b4,hx3,hx4]
    exact hR _ ⟨by simp -implicitDefEqProofs (maxSteps:=400000) (maxDischargeDepth:=6);repeat' (first|exact he.tick (by first|omega|(simp<;>omega))|(refine ExtH.new ?_ (by first|omega|(simp<;>omega)) (by first|omega|(simp<;>omega)))|(refine ExtH.set ?_ (by simp) (by first|omega|(simp<;>omega)))),by simp -implicitDefEqProofs (maxSteps:=400000) (maxDischargeDepth:=6) [k3],by simp -implicitDefEqProofs (maxSteps:=400000) (maxDischargeDepth:=6) [k12],by simp -implicitDefEqProofs (maxSteps:=400000) (maxDischargeDepth:=6) [k13],by simp -implicitDefEqProofs (maxSteps:=400000) (maxDischargeDepth:=6) [k14],by simp -implicitDefEqProofs (maxSteps:=400000) (maxDischargeDepth:=6) [k15],by simp -implicitDefEqProofs (maxSteps:=400000) (maxDischargeDepth:=6) [k16],by simp -implicitDefEqProofs (maxSteps:=400000) (maxDischargeDepth:=6) [k23]⟩
   clear hX hw hy k24 k25 k26 k27 hx1 hx2 hx3 hx4 hxn hx hwy hy1 hw1 st x c y w
   rintro st hX
   refine seq_c (fun st'=>XS L D N v ns d i k H1 T1 st'∧∃e z,e∈L∧st'.s 28=.c (.pt z 0 0)∧st'.H z=.arr 48 13 false [entRow .old e]) ?_ ?_
   ·intro R' hR
    obtain ⟨he,k3,k12,k13,k14,k15,k16,k23⟩:=hX
    have hf:=he.fresh
    have hfu:∀k d,st.T≤k→st.H (k,d)=.unborn:=hf
    have kN:=he.arr hN (by simp -implicitDefEqProofs (maxSteps:=400000) (maxDischargeDepth:=6))
    have kv:=he.arr hv (by simp -implicitDefEqProofs (maxSteps:=400000) (maxDischargeDepth:=6))
    obtain ⟨p1,p2,p3⟩:=hf.arr kN
    obtain ⟨f1,f2,f3⟩:=hf.arr kv
    have hT:=he.2.2.1
    have w1:IntKind.wrap .i64 ((i:Int)+k)=((i+k:Nat):Int):=by rw [wrap64_id]<;>omega
    have hml:(i+k)%L.length<L.length:=Nat.mod_lt _ (by omega)
    have w2:((i:Int)+k).tmod (L.length:Int)=(((i+k)%L.length:Nat):Int):=by rw [Int.tmod_eq_emod_of_nonneg (by omega)];simp -implicitDefEqProofs (maxSteps:=400000) (maxDischargeDepth:=6)
    generalize hm:(i+k)%L.length=m at hml w2
    have w3:IntKind.wrap .i64 (m:Int)=m:=by rw [wrap64_id]<;>omega
    have hml':(m:Int)<L.length:=by omega
    have hL0:¬(L.length:Int)=0:=by omega
    have hL1:¬L.length=0:=by omega
    simp -implicitDefEqProofs (maxSteps:=400000) (maxDischargeDepth:=6) [k3,k14,k23,w1,w2,w3,hml,hml',hL0,hL1,hfu,entRow,opRow]
    exact hR _ ⟨⟨by simp -implicitDefEqProofs (maxSteps:=400000) (maxDischargeDepth:=6);repeat' (first|exact he.tick (by first|omega|(simp<;>omega))|(refine ExtH.new ?_ (by first|omega|(simp<;>omega)) (by first|omega|(simp<;>omega)))|(refine ExtH.set ?_ (by simp) (by first|omega|(simp<;>omega)))),by simp -implicitDefEqProofs (maxSteps:=400000) (maxDischargeDepth:=6) [k3],by simp -implicitDefEqProofs (maxSteps:=400000) (maxDischargeDepth:=6) [k12],by simp -implicitDefEqProofs (maxSteps:=400000) (maxDischargeDepth:=6) [k13],by simp -implicitDefEqProofs (maxSteps:=400000) (maxDischargeDepth:=6) [k14],by simp -implicitDefEqProofs (maxSteps:=400000) (maxDischargeDepth:=6) [k15],by simp -implicitDefEqProofs (maxSteps:=400000) (maxDischargeDepth:=6) [k16],by simp -implicitDefEqProofs (maxSteps:=400000) (maxDischargeDepth:=6) [k23]⟩,L[m],(st.T,28),List.getElem_mem hml,by simp -implicitDefEqProofs (maxSteps:=400000) (maxDischargeDepth:=6),by simp -implicitDefEqProofs (maxSteps:=400000) (maxDischargeDepth:=6) [entRow,opRow]⟩
   clear hX st
   rintro st ⟨hX,e,z,heL,k28,hz⟩
   obtain ⟨q1,q2⟩:=hE e heL
   have q3:e.op.text.length<1000000:=by omega
   have q4:e.op.gone.length<1000000:=by omega
   have q5:e.op.gone.length<4611686018427387904:=by omega
   obtain ⟨x,nx,c,hx⟩:∃x nx c,appendR d n e=(x,nx,c):=⟨_,_,_,rfl⟩
   have hxs:=appendR_small d n e
   have hxn:=fun h=>@appendR_no d n e h
   have hxr:=fun h1 h2 h3=>@refAppR_eq d n e h1 h2 h3
   rw [hx] at hxs hxn hxr
   obtain ⟨hx1,hx2⟩:=hxs
   simp only at hx1 hx2
   have hx3:x.safe.length<4611686018427387904:=by omega
   have hx4:x.wait.length<4611686018427387904:=by omega
   refine seq_c (fun st'=>XS L D N v ns d i k H1 T1 st'∧st'.s 28=.c (.pt z 0 0)∧st'.H z=.arr 48 13 false [entRow .old e]∧∃w a b,st'.s 29=.c (.pt w 0 0)∧T1≤w.1∧OwnD st'.H w a b x∧T1≤a.1∧T1≤b.1∧st'.s 30=.c (.raw (.int .i64 nx))∧st'.s 31=.c (.raw (.int .i64 c))) ?_ ?_
   ·intro R' hR
    obtain ⟨he,k3,k12,k13,k14,k15,k16,k23⟩:=hX
    have hf:=he.fresh
    have hfu:∀k d,st.T≤k→st.H (k,d)=.unborn:=hf
    have kN:=he.arr hN (by simp -implicitDefEqProofs (maxSteps:=400000) (maxDischargeDepth:=6))
    have kv:=he.arr hv (by simp -implicitDefEqProofs (maxSteps:=400000) (maxDischargeDepth:=6))
    obtain ⟨p1,p2,p3⟩:=hf.arr kN
    obtain ⟨f1,f2,f3⟩:=hf.arr kv
    have hT:=he.2.2.1
    obtain ⟨z1,z2,z3⟩:=hf.arr hz
    simp -implicitDefEqProofs (maxSteps:=400000) (maxDischargeDepth:=6) [k13,kN,k23,k15,kv,k28,hz,diskN,entRow,opRow,hlt,hlt',hnk,l1,l2,q3,q4,hn3,hx,appendAV,diskNw,hfu,p1,p2,f1,f2,z1,z2]
    exact hR _ ⟨⟨by simp -implicitDefEqProofs (maxSteps:=400000) (maxDischargeDepth:=6);repeat' (first|exact he.tick (by first|omega|(simp<;>omega))|(refine ExtH.new ?_ (by first|omega|(simp<;>omega)) (by first|omega|(simp<;>omega)))|(refine ExtH.set ?_ (by simp) (by first|omega|(simp<;>omega)))),by simp -implicitDefEqProofs (maxSteps:=400000) (maxDischargeDepth:=6) [k3],by simp -implicitDefEqProofs (maxSteps:=400000) (maxDischargeDepth:=6) [k12],by simp -implicitDefEqProofs (maxSteps:=400000) (maxDischargeDepth:=6) [k13],by simp -implicitDefEqProofs (maxSteps:=400000) (maxDischargeDepth:=6) [k14],by simp -implicitDefEqProofs (maxSteps:=400000) (maxDischargeDepth:=6) [k15],by simp -implicitDefEqProofs (maxSteps:=400000) (maxDischargeDepth:=6) [k16],by simp -implicitDefEqProofs (maxSteps:=400000) (maxDischargeDepth:=6) [k23]⟩,by simp -implicitDefEqProofs (maxSteps:=400000) (maxDischargeDepth:=6) [k28],by simp -implicitDefEqProofs (maxSteps:=400000) (maxDischargeDepth:=6) [hz,z1,z2,entRow,opRow],(st.T,29),(st.T,199680),(st.T,199681),by simp -implicitDefEqProofs (maxSteps:=400000) (maxDischargeDepth:=6),hT,⟨by simp -implicitDefEqProofs (maxSteps:=400000) (maxDischargeDepth:=6),by simp -implicitDefEqProofs (maxSteps:=400000) (maxDischargeDepth:=6),by simp -implicitDefEqProofs (maxSteps:=400000) (maxDischargeDepth:=6)⟩,hT,hT,by simp -implicitDefEqProofs (maxSteps:=400000) (maxDischargeDepth:=6),by simp -implicitDefEqProofs (maxSteps:=400000) (maxDischargeDepth:=6)⟩
   clear hX k28 hz st
   rintro st ⟨hX,k28,hz,w,a,b,k29,hw1,hw,ha1,hb1,k30,k31⟩
   refine seq_c (fun st'=>XS L D N v ns d i k H1 T1 st'∧st'.s 28=.c (.pt z 0 0)∧st'.H z=.arr 48 13 false [entRow .old e]∧st'.s 29=.c (.pt w 0 0)∧OwnD st'.H w a b x∧st'.s 30=.c (.raw (.int .i64 nx))∧st'.s 31=.c (.raw (.int .i64 c))∧st'.s 32=.c (.raw (.int .i64 1))∧st'.s 33=.c (.raw (.int .i64 0))) ?_ ?_
   ·intro R' hR
    obtain ⟨he,k3,k12,k13,k14,k15,k16,k23⟩:=hX
    have hf:=he.fresh
    have hfu:∀k d,st.T≤k→st.H (k,d)=.unborn:=hf
    have kN:=he.arr hN (by simp -implicitDefEqProofs (maxSteps:=400000) (maxDischargeDepth:=6))
    have kv:=he.arr hv (by simp -implicitDefEqProofs (maxSteps:=400000) (maxDischargeDepth:=6))
    obtain ⟨p1,p2,p3⟩:=hf.arr kN
    obtain ⟨f1,f2,f3⟩:=hf.arr kv
    have hT:=he.2.2.1
    simp -implicitDefEqProofs (maxSteps:=400000) (maxDischargeDepth:=6)
    exact hR _ ⟨⟨by simp -implicitDefEqProofs (maxSteps:=400000) (maxDischargeDepth:=6);repeat' (first|exact he.tick (by first|omega|(simp<;>omega))|(refine ExtH.new ?_ (by first|omega|(simp<;>omega)) (by first|omega|(simp<;>omega)))|(refine ExtH.set ?_ (by simp) (by first|omega|(simp<;>omega)))),by simp -implicitDefEqProofs (maxSteps:=400000) (maxDischargeDepth:=6) [k3],by simp -implicitDefEqProofs (maxSteps:=400000) (maxDischargeDepth:=6) [k12],by simp -implicitDefEqProofs (maxSteps:=400000) (maxDischargeDepth:=6) [k13],by simp -implicitDefEqProofs (maxSteps:=400000) (maxDischargeDepth:=6) [k14],by simp -implicitDefEqProofs (maxSteps:=400000) (maxDischargeDepth:=6) [k15],by simp -implicitDefEqProofs (maxSteps:=400000) (maxDischargeDepth:=6) [k16],by simp -implicitDefEqProofs (maxSteps:=400000) (maxDischargeDepth:=6) [k23]⟩,by simp -implicitDefEqProofs (maxSteps:=400000) (maxDischargeDepth:=6) [k28],by simp -implicitDefEqProofs (maxSteps:=400000) (maxDischargeDepth:=6) [hz],by simp -implicitDefEqProofs (maxSteps:=400000) (maxDischargeDepth:=6) [k29],by simpa using hw,by simp -implicitDefEqProofs (maxSteps:=400000) (maxDischargeDepth:=6) [k30],by simp -implicitDefEqProofs (maxSteps:=400000) (maxDischargeDepth:=6) [k31],by simp -implicitDefEqProofs (maxSteps:=400000) (maxDischargeDepth:=6),by simp -implicitDefEqProofs (maxSteps:=400000) (maxDischargeDepth:=6)⟩
   clear hX k28 hz k29 hw k30 k31 st
   rintro st ⟨hX,k28,hz,k29,hw,k30,k31,k32,k33⟩
   refine seq_c (fun st'=>XS L D N v ns d i k H1 T1 st'∧st'.s 28=.c (.pt z 0 0)∧st'.H z=.arr 48 13 false [entRow .old e]∧st'.s 29=.c (.pt w 0 0)∧OwnD st'.H w a b x∧st'.s 30=.c (.raw (.int .i64 nx))∧st'.s 31=.c (.raw (.int .i64 c))∧st'.s 32=.c (.raw (.int .i64 1))∧st'.s 33=.c (.raw (.int .i64 0))∧∃y,st'.s 34=.c (.pt y 0 0)∧T1≤y.1∧¬w=y∧st'.H y=.arr 30 2 false [[.raw (.slice none 0 0),.raw (.slice none 0 0)]]) ?_ ?_
   ·intro R' hR
    obtain ⟨he,k3,k12,k13,k14,k15,k16,k23⟩:=hX
    have hf:=he.fresh
    have hfu:∀k d,st.T≤k→st.H (k,d)=.unborn:=hf
    have kN:=he.arr hN (by simp -implicitDefEqProofs (maxSteps:=400000) (maxDischargeDepth:=6))
    have kv:=he.arr hv (by simp -implicitDefEqProofs (maxSteps:=400000) (maxDischargeDepth:=6))
    obtain ⟨p1,p2,p3⟩:=hf.arr kN
    obtain ⟨f1,f2,f3⟩:=hf.arr kv
    have hT:=he.2.2.1
    have hwlt:w.1<st.T:=(hf.arr hw.1).2.2
    obtain ⟨z1,z2,z3⟩:=hf.arr hz
    simp -implicitDefEqProofs (maxSteps:=400000) (maxDischargeDepth:=6) [hfu]
    exact hR _ ⟨⟨by simp -implicitDefEqProofs (maxSteps:=400000) (maxDischargeDepth:=6);repeat' (first|exact he.tick (by first|omega|(simp<;>omega))|(refine ExtH.new ?_ (by first|omega|(simp<;>omega)) (by first|omega|(simp<;>omega)))|(refine ExtH.set ?_ (by simp) (by first|omega|(simp<;>omega)))),by simp -implicitDefEqProofs (maxSteps:=400000) (maxDischargeDepth:=6) [k3],by simp -implicitDefEqProofs (maxSteps:=400000) (maxDischargeDepth:=6) [k12],by simp -implicitDefEqProofs (maxSteps:=400000) (maxDischargeDepth:=6) [k13],by simp -implicitDefEqProofs (maxSteps:=400000) (maxDischargeDepth:=6) [k14],by simp -implicitDefEqProofs (maxSteps:=400000) (maxDischargeDepth:=6) [k15],by simp -implicitDefEqProofs (maxSteps:=400000) (maxDischargeDepth:=6) [k16],by simp -implicitDefEqProofs (maxSteps:=400000) (maxDischargeDepth:=6) [k23]⟩,by simp -implicitDefEqProofs (maxSteps:=400000) (maxDischargeDepth:=6) [k28],by simp -implicitDefEqProofs (maxSteps:=400000) (maxDischargeDepth:=6) [hz,z1,z2],by simp -implicitDefEqProofs (maxSteps:=400000) (maxDischargeDepth:=6) [k29],hw.ext (T:=st.T) (T':=st.T+5) (by simp -implicitDefEqProofs (maxSteps:=400000) (maxDischargeDepth:=6);have he:=ExtH.refl (S:=[]) hf;repeat' (first|exact he.tick (by first|omega|(simp<;>omega))|(refine ExtH.new ?_ (by first|omega|(simp<;>omega)) (by first|omega|(simp<;>omega)))|(refine ExtH.set ?_ (by simp) (by first|omega|(simp<;>omega))))),by simp -implicitDefEqProofs (maxSteps:=400000) (maxDischargeDepth:=6) [k30],by simp -implicitDefEqProofs (maxSteps:=400000) (maxDischargeDepth:=6) [k31],by simp -implicitDefEqProofs (maxSteps:=400000) (maxDischargeDepth:=6) [k32],by simp -implicitDefEqProofs (maxSteps:=400000) (maxDischargeDepth:=6) [k33],(st.T,34),by simp -implicitDefEqProofs (maxSteps:=400000) (maxDischargeDepth:=6),hT,by rintro rfl;simp -implicitDefEqProofs (maxSteps:=400000) (maxDischargeDepth:=6) at hwlt,by simp -implicitDefEqProofs (maxSteps:=400000) (maxDischargeDepth:=6)⟩
   clear hX k28 hz k29 hw k30 k31 k32 k33 st
   rintro st ⟨hX,k28,hz,k29,hw,k30,k31,k32,k33,y,k34,hy1,hwy,hy⟩
   refine seq_c (fun st'=>XS L D N v ns d i k H1 T1 st'∧st'.s 29=.c (.pt w 0 0)∧OwnD st'.H w a b x∧st'.s 30=.c (.raw (.int .i64 nx))∧st'.s 31=.c (.raw (.int .i64 c))∧st'.s 32=.c (.raw (.int .i64 c))∧st'.s 33=.c (.raw (.int .i64 nx))∧st'.s 34=.c (.pt y 0 0)∧VarD st'.H y x) ?_ ?_
   ·intro R' hR
    obtain ⟨he,k3,k12,k13,k14,k15,k16,k23⟩:=hX
    have hf:=he.fresh
    have hfu:∀k d,st.T≤k→st.H (k,d)=.unborn:=hf
    have kN:=he.arr hN (by simp -implicitDefEqProofs (maxSteps:=400000) (maxDischargeDepth:=6))
    have kv:=he.arr hv (by simp -implicitDefEqProofs (maxSteps:=400000) (maxDischargeDepth:=6))
    obtain ⟨p1,p2,p3⟩:=hf.arr kN
    obtain ⟨f1,f2,f3⟩:=hf.arr kv
    have hT:=he.2.2.1
    by_cases hc:mayB d=true∧entMayB e=true∧0≤n
    ·obtain ⟨hc1,hc2,hc3⟩:=hc
     have hrr:=hxr hc1 hc2 hc3
     have hok:okF e:=entMayB_ok hc2 q3 q4
     obtain ⟨y1,y2,y3⟩:=hf.arr hy
     have k16':=k16
     rw [hc1] at k16'
     simp -implicitDefEqProofs (maxSteps:=400000) (maxDischargeDepth:=6) [k13,kN,k23,k15,kv,k16',k28,hz,k34,hy,diskN,hlt,hlt',hnk,hc1,hc2,hc3,hn3,hrr,hok,q3,q5,entRow,opRow,appendAV,diskNw,hfu,p1,p2,f1,f2,y1,y2]
     have heY:ExtH [y] st.H st.T (hset (hset (hset st.H (st.T+1,223232) (.arr 9 1 false (rowsE x.safe))) (st.T+1,223233) (.arr 88 2 false (rowsE x.wait))) y (.arr 30 2 false [[.so (st.T+1,223232) 0 x.safe.length,.so (st.T+1,223233) 0 x.wait.length]])) (st.T+1+1):=by
      have he:=ExtH.refl (S:=[y]) hf
      repeat' (first|exact he.tick (by first|omega|(simp<;>omega))|(refine ExtH.new ?_ (by first|omega|(simp<;>omega)) (by first|omega|(simp<;>omega)))|(refine ExtH.set ?_ (by simp) (by first|omega|(simp<;>omega))))
     exact hR _ ⟨⟨by simp -implicitDefEqProofs (maxSteps:=400000) (maxDischargeDepth:=6);repeat' (first|exact he.tick (by first|omega|(simp<;>omega))|(refine ExtH.new ?_ (by first|omega|(simp<;>omega)) (by first|omega|(simp<;>omega)))|(refine ExtH.set ?_ (by simp) (by first|omega|(simp<;>omega)))),by simp -implicitDefEqProofs (maxSteps:=400000) (maxDischargeDepth:=6) [k3],by simp -implicitDefEqProofs (maxSteps:=400000) (maxDischargeDepth:=6) [k12],by simp -implicitDefEqProofs (maxSteps:=400000) (maxDischargeDepth:=6) [k13],by simp -implicitDefEqProofs (maxSteps:=400000) (maxDischargeDepth:=6) [k14],by simp -implicitDefEqProofs (maxSteps:=400000) (maxDischargeDepth:=6) [k15],by simp -implicitDefEqProofs (maxSteps:=400000) (maxDischargeDepth:=6) [k16],by simp -implicitDefEqProofs (maxSteps:=400000) (maxDischargeDepth:=6) [k23]⟩,by simp -implicitDefEqProofs (maxSteps:=400000) (maxDischargeDepth:=6) [k29],by simp -implicitDefEqProofs (maxSteps:=400000) (maxDischargeDepth:=6);exact hw.ext1 heY hy hwy,by simp -implicitDefEqProofs (maxSteps:=400000) (maxDischargeDepth:=6) [k30],by simp -implicitDefEqProofs (maxSteps:=400000) (maxDischargeDepth:=6) [k31],by simp -implicitDefEqProofs (maxSteps:=400000) (maxDischargeDepth:=6),by simp -implicitDefEqProofs (maxSteps:=400000) (maxDischargeDepth:=6),by simp -implicitDefEqProofs (maxSteps:=400000) (maxDischargeDepth:=6) [k34],⟨.so (st.T+1,223232) 0 x.safe.length,.so (st.T+1,223233) 0 x.wait.length,by simp -implicitDefEqProofs (maxSteps:=400000) (maxDischargeDepth:=6),.inr (.inr ⟨(st.T+1,223232),9,1,rowsE x.safe,by simp -implicitDefEqProofs (maxSteps:=400000) (maxDischargeDepth:=6),by simp -implicitDefEqProofs (maxSteps:=400000) (maxDischargeDepth:=6) [Nat.le_add_right_of_le,y1],by simp -implicitDefEqProofs (maxSteps:=400000) (maxDischargeDepth:=6),by simp -implicitDefEqProofs (maxSteps:=400000) (maxDischargeDepth:=6),rfl⟩),.inr (.inr ⟨(st.T+1,223233),88,2,rowsE x.wait,by simp -implicitDefEqProofs (maxSteps:=400000) (maxDischargeDepth:=6),by simp -implicitDefEqProofs (maxSteps:=400000) (maxDischargeDepth:=6) [Nat.le_add_right_of_le,y1],by simp -implicitDefEqProofs (maxSteps:=400000) (maxDischargeDepth:=6),by simp -implicitDefEqProofs (maxSteps:=400000) (maxDischargeDepth:=6),rfl⟩)⟩⟩
    ·have hxn:=hxn hc
     simp -implicitDefEqProofs (maxSteps:=400000) (maxDischargeDepth:=6) at hxn
     obtain ⟨rfl,rfl,rfl⟩:=hxn
     have hfin:∀st',XS L D N v ns d i k H1 T1 st'→st'.s 29=st.s 29→st'.s 30=st.s 30→st'.s 31=st.s 31→st'.s 32=st.s 32→st'.s 33=st.s 33→st'.s 34=st.s 34→st'.H=st.H→R' st':=fun st' h1 h2 h3 h4 h5 h6 h7 h8=>
      hR _ ⟨h1,by rw [h2,k29],by rw [h8];exact hw,by rw [h3,k30],by rw [h4,k31],by rw [h5,k32],by rw [h6,k33],by rw [h7,k34],by rw [h8];exact ⟨.raw (.slice none 0 0),.raw (.slice none 0 0),by simp -implicitDefEqProofs (maxSteps:=400000) (maxDischargeDepth:=6) [hy],.inr (.inl ⟨rfl,rfl⟩),.inr (.inl ⟨rfl,rfl⟩)⟩⟩
     by_cases hc1:mayB d=true
     ·have k16':=k16
      rw [hc1] at k16'
      by_cases hc2:entMayB e=true
      ·have hn0:¬0≤n:=fun h=>hc ⟨hc1,hc2,h⟩
       simp -implicitDefEqProofs (maxSteps:=400000) (maxDischargeDepth:=6) [k13,kN,k23,k16',k28,hz,hlt,hlt',hnk,hn0,hc2,q3,q5,entRow,opRow]
       exact hfin _ ⟨by simp -implicitDefEqProofs (maxSteps:=400000) (maxDischargeDepth:=6);repeat' (first|exact he.tick (by first|omega|(simp<;>omega))|(refine ExtH.new ?_ (by first|omega|(simp<;>omega)) (by first|omega|(simp<;>omega)))|(refine ExtH.set ?_ (by simp) (by first|omega|(simp<;>omega)))),by simp -implicitDefEqProofs (maxSteps:=400000) (maxDischargeDepth:=6) [k3],by simp -implicitDefEqProofs (maxSteps:=400000) (maxDischargeDepth:=6) [k12],by simp -implicitDefEqProofs (maxSteps:=400000) (maxDischargeDepth:=6) [k13],by simp -implicitDefEqProofs (maxSteps:=400000) (maxDischargeDepth:=6) [k14],by simp -implicitDefEqProofs (maxSteps:=400000) (maxDischargeDepth:=6) [k15],by simp -implicitDefEqProofs (maxSteps:=400000) (maxDischargeDepth:=6) [k16],by simp -implicitDefEqProofs (maxSteps:=400000) (maxDischargeDepth:=6) [k23]⟩ (by simp -implicitDefEqProofs (maxSteps:=400000) (maxDischargeDepth:=6)) (by simp -implicitDefEqProofs (maxSteps:=400000) (maxDischargeDepth:=6)) (by simp -implicitDefEqProofs (maxSteps:=400000) (maxDischargeDepth:=6)) (by simp -implicitDefEqProofs (maxSteps:=400000) (maxDischargeDepth:=6)) (by simp -implicitDefEqProofs (maxSteps:=400000) (maxDischargeDepth:=6)) (by simp -implicitDefEqProofs (maxSteps:=400000) (maxDischargeDepth:=6)) (by simp -implicitDefEqProofs (maxSteps:=400000) (maxDischargeDepth:=6))
      ·simp -implicitDefEqProofs (maxSteps:=400000) (maxDischargeDepth:=6) [k13,kN,k23,k16',k28,hz,hlt,hlt',hnk,hc2,q3,q5,entRow,opRow]
       exact hfin _ ⟨by simp -implicitDefEqProofs (maxSteps:=400000) (maxDischargeDepth:=6);repeat' (first|exact he.tick (by first|omega|(simp<;>omega))|(refine ExtH.new ?_ (by first|omega|(simp<;>omega)) (by first|omega|(simp<;>omega)))|(refine ExtH.set ?_ (by simp) (by first|omega|(simp<;>omega)))),by simp -implicitDefEqProofs (maxSteps:=400000) (maxDischargeDepth:=6) [k3],by simp -implicitDefEqProofs (maxSteps:=400000) (maxDischargeDepth:=6) [k12],by simp -implicitDefEqProofs (maxSteps:=400000) (maxDischargeDepth:=6) [k13],by simp -implicitDefEqProofs (maxSteps:=400000) (maxDischargeDepth:=6) [k14],by simp -implicitDefEqProofs (maxSteps:=400000) (maxDischargeDepth:=6) [k15],by simp -implicitDefEqProofs (maxSteps:=400000) (maxDischargeDepth:=6) [k16],by simp -implicitDefEqProofs (maxSteps:=400000) (maxDischargeDepth:=6) [k23]⟩ (by simp -implicitDefEqProofs (maxSteps:=400000) (maxDischargeDepth:=6)) (by simp -implicitDefEqProofs (maxSteps:=400000) (maxDischargeDepth:=6)) (by simp -implicitDefEqProofs (maxSteps:=400000) (maxDischargeDepth:=6)) (by simp -implicitDefEqProofs (maxSteps:=400000) (maxDischargeDepth:=6)) (by simp -implicitDefEqProofs (maxSteps:=400000) (maxDischargeDepth:=6)) (by simp -implicitDefEqProofs (maxSteps:=400000) (maxDischargeDepth:=6)) (by simp -implicitDefEqProofs (maxSteps:=400000) (maxDischargeDepth:=6))
     ·have k16':=k16
      rw [Bool.eq_false_iff.2 hc1] at k16'
      simp -implicitDefEqProofs (maxSteps:=400000) (maxDischargeDepth:=6) [k16']
      exact hfin _ ⟨by simp -implicitDefEqProofs (maxSteps:=400000) (maxDischargeDepth:=6);repeat' (first|exact he.tick (by first|omega|(simp<;>omega))|(refine ExtH.new ?_ (by first|omega|(simp<;>omega)) (by first|omega|(simp<;>omega)))|(refine ExtH.set ?_ (by simp) (by first|omega|(simp<;>omega)))),by simp -implicitDefEqProofs (maxSteps:=400000) (maxDischargeDepth:=6) [k3],by simp -implicitDefEqProofs (maxSteps:=400000) (maxDischargeDepth:=6) [k12],by simp -implicitDefEqProofs (maxSteps:=400000) (maxDischargeDepth:=6) [k13],by simp -implicitDefEqProofs (maxSteps:=400000) (maxDischargeDepth:=6) [k14],by simp -implicitDefEqProofs (maxSteps:=400000) (maxDischargeDepth:=6) [k15],by simp -implicitDefEqProofs (maxSteps:=400000) (maxDischargeDepth:=6) [k16],by simp -implicitDefEqProofs (maxSteps:=400000) (maxDischargeDepth:=6) [k23]⟩ (by simp -implicitDefEqProofs (maxSteps:=400000) (maxDischargeDepth:=6)) (by simp -implicitDefEqProofs (maxSteps:=400000) (maxDischargeDepth:=6)) (by simp -implicitDefEqProofs (maxSteps:=400000) (maxDischargeDepth:=6)) (by simp -implicitDefEqProofs (maxSteps:=400000) (maxDischargeDepth:=6)) (by simp -implicitDefEqProofs (maxSteps:=400000) (maxDischargeDepth:=6)) (by simp -implicitDefEqProofs (maxSteps:=400000) (maxDischargeDepth:=6)) (by simp -implicitDefEqProofs (maxSteps:=400000) (maxDischargeDepth:=6))
   clear hX k28 hz k29 hw k30 k31 k32 k33 k34 hy hxn hxr st
   rintro st ⟨hX,k29,hw,k30,k31,k32,k33,k34,hy⟩
   refine seq_c (fun st'=>XS L D N v ns d i k H1 T1 st'∧st'.s 29=.c (.pt w 0 0)∧OwnD st'.H w a b x) ?_ ?_
   ·intro R' hR
    obtain ⟨he,k3,k12,k13,k14,k15,k16,k23⟩:=hX
    have hf:=he.fresh
    have hfu:∀k d,st.T≤k→st.H (k,d)=.unborn:=hf
    have kN:=he.arr hN (by simp -implicitDefEqProofs (maxSteps:=400000) (maxDischargeDepth:=6))
    have kv:=he.arr hv (by simp -implicitDefEqProofs (maxSteps:=400000) (maxDischargeDepth:=6))
    obtain ⟨p1,p2,p3⟩:=hf.arr kN
    obtain ⟨f1,f2,f3⟩:=hf.arr kv
    have hT:=he.2.2.1
    obtain ⟨c1,c2,hw0,hs1,hs2⟩:=hw.var
    obtain ⟨c3,c4,hy0,hs3,hs4⟩:=hy
    have a1:=hs1.view
    have a2:=hs2.view
    have a3:=hs3.view
    have a4:=hs4.view
    have b1:=hs1.one
    have b2:=hs2.one
    have b3:=hs3.one
    have b4:=hs4.one
    simp -implicitDefEqProofs (maxSteps:=400000) (maxDischargeDepth:=6) [k29,k30,k31,k32,k33,k34,hw0,hy0,a1,a2,a3,a4,b1,b2,b3,b4,hx3,hx4]
    exact hR _ ⟨⟨by simp -implicitDefEqProofs (maxSteps:=400000) (maxDischargeDepth:=6);repeat' (first|exact he.tick (by first|omega|(simp<;>omega))|(refine ExtH.new ?_ (by first|omega|(simp<;>omega)) (by first|omega|(simp<;>omega)))|(refine ExtH.set ?_ (by simp) (by first|omega|(simp<;>omega)))),by simp -implicitDefEqProofs (maxSteps:=400000) (maxDischargeDepth:=6) [k3],by simp -implicitDefEqProofs (maxSteps:=400000) (maxDischargeDepth:=6) [k12],by simp -implicitDefEqProofs (maxSteps:=400000) (maxDischargeDepth:=6) [k13],by simp -implicitDefEqProofs (maxSteps:=400000) (maxDischargeDepth:=6) [k14],by simp -implicitDefEqProofs (maxSteps:=400000) (maxDischargeDepth:=6) [k15],by simp -implicitDefEqProofs (maxSteps:=400000) (maxDischargeDepth:=6) [k16],by simp -implicitDefEqProofs (maxSteps:=400000) (maxDischargeDepth:=6) [k23]⟩,by simp -implicitDefEqProofs (maxSteps:=400000) (maxDischargeDepth:=6) [k29],by simpa using hw⟩
   clear hX k29 hw k30 k31 k32 k33 k34 hy hx3 hx4 hy1 hwy y st
   rintro st ⟨hX,k29,hw⟩
   refine seq_c (XS L D N v ns d i k H1 T1) ?_ ?_
   ·intro R' hR
    obtain ⟨he,k3,k12,k13,k14,k15,k16,k23⟩:=hX
    have hf:=he.fresh
    have hfu:∀k d,st.T≤k→st.H (k,d)=.unborn:=hf
    have kN:=he.arr hN (by simp -implicitDefEqProofs (maxSteps:=400000) (maxDischargeDepth:=6))
    have kv:=he.arr hv (by simp -implicitDefEqProofs (maxSteps:=400000) (maxDischargeDepth:=6))
    obtain ⟨p1,p2,p3⟩:=hf.arr kN
    obtain ⟨f1,f2,f3⟩:=hf.arr kv
    have hT:=he.2.2.1
    obtain ⟨o1,o2,o3⟩:=hw
    simp -implicitDefEqProofs (maxSteps:=400000) (maxDischargeDepth:=6) [k29,o1,o2,o3]
    refine acall_k (spoil_k a b x _ _ rfl rfl (by omega) (by omega) (by simp -implicitDefEqProofs (maxSteps:=400000) (maxDischargeDepth:=6) [o2]) (by simp -implicitDefEqProofs (maxSteps:=400000) (maxDischargeDepth:=6) [o3]) (by simp -implicitDefEqProofs (maxSteps:=400000) (maxDischargeDepth:=6);exact hf)) ?_
    rintro ret H T ⟨rfl,heS⟩
    simp -implicitDefEqProofs (maxSteps:=400000) (maxDischargeDepth:=6) at heS
    have heF:=extH_tr2 he heS (by simp -implicitDefEqProofs (maxSteps:=400000) (maxDischargeDepth:=6);exact ⟨ha1,hb1⟩)
    simp -implicitDefEqProofs (maxSteps:=400000) (maxDischargeDepth:=6)
    exact hR _ ⟨by simp -implicitDefEqProofs (maxSteps:=400000) (maxDischargeDepth:=6);exact heF.tick (by omega),by simp -implicitDefEqProofs (maxSteps:=400000) (maxDischargeDepth:=6) [k3],by simp -implicitDefEqProofs (maxSteps:=400000) (maxDischargeDepth:=6) [k12],by simp -implicitDefEqProofs (maxSteps:=400000) (maxDischargeDepth:=6) [k13],by simp -implicitDefEqProofs (maxSteps:=400000) (maxDischargeDepth:=6) [k14],by simp -implicitDefEqProofs (maxSteps:=400000) (maxDischargeDepth:=6) [k15],by simp -implicitDefEqProofs (maxSteps:=400000) (maxDischargeDepth:=6) [k16],by simp -implicitDefEqProofs (maxSteps:=400000) (maxDischargeDepth:=6) [k23]⟩
   clear hX k29 hw st
   rintro st hX
   obtain ⟨he,k3,k12,k13,k14,k15,k16,k23⟩:=hX
   have hf:=he.fresh
   have hfu:∀k d,st.T≤k→st.H (k,d)=.unborn:=hf
   have kN:=he.arr hN (by simp -implicitDefEqProofs (maxSteps:=400000) (maxDischargeDepth:=6))
   have kv:=he.arr hv (by simp -implicitDefEqProofs (maxSteps:=400000) (maxDischargeDepth:=6))
   obtain ⟨p1,p2,p3⟩:=hf.arr kN
   obtain ⟨f1,f2,f3⟩:=hf.arr kv
   have hT:=he.2.2.1
   have kD:=he.arr hD (by simp -implicitDefEqProofs (maxSteps:=400000) (maxDischargeDepth:=6))
   obtain ⟨r,hri⟩:∃r,rows[i]?=some r:=⟨rows[i],List.getElem?_eq_getElem (by omega)⟩
   obtain ⟨⟨c1,c2,rfl,hs1,hs2⟩,_⟩:=hS.2 i r d hri hdi
   have a1:=(hs1.ext he).view
   have a2:=(hs2.ext he).view
   have b1:=(hs1.ext he).one
   have b2:=(hs2.ext he).one
   have hi8':(i:Int)<8:=by omega
   have hb:i<rows.length:=by omega
   have hrg:rows[i]=[c1,c2]:=by rw [List.getElem?_eq_getElem hb] at hri;exact Option.some.inj hri
   simp -implicitDefEqProofs (maxSteps:=400000) (maxDischargeDepth:=6) [k15,kv,diskN,k12,kD,k14,hr,hrg,hri,hi8,hi8',a1,a2,b1,b2,l3,l4]
   exact hR _ ⟨by simp -implicitDefEqProofs (maxSteps:=400000) (maxDischargeDepth:=6);repeat' (first|exact he.tick (by first|omega|(simp<;>omega))|(refine ExtH.new ?_ (by first|omega|(simp<;>omega)) (by first|omega|(simp<;>omega)))|(refine ExtH.set ?_ (by simp) (by first|omega|(simp<;>omega)))),by simp -implicitDefEqProofs (maxSteps:=400000) (maxDischargeDepth:=6) [k3],by simp -implicitDefEqProofs (maxSteps:=400000) (maxDischargeDepth:=6) [k12],by simp -implicitDefEqProofs (maxSteps:=400000) (maxDischargeDepth:=6) [k13],by simp -implicitDefEqProofs (maxSteps:=400000) (maxDischargeDepth:=6) [k14],by simp -implicitDefEqProofs (maxSteps:=400000) (maxDischargeDepth:=6) [k15],by simp -implicitDefEqProofs (maxSteps:=400000) (maxDischargeDepth:=6) [k16],by simp -implicitDefEqProofs (maxSteps:=400000) (maxDischargeDepth:=6) [k23]⟩
  clear hX st
  rintro st ⟨he,k3,k12,k13,k14,k15,k16,k23⟩
  have hw:IntKind.wrap .i64 ((k:Int)+1)=((k+1:Nat):Int):=by rw [wrap64_id]<;>omega
  simp -implicitDefEqProofs (maxSteps:=400000) (maxDischargeDepth:=6) [k23,hw]
  exact ⟨ns.length-(k+1),by omega,hJ _ _ ⟨k+1,by omega,rfl,by simp -implicitDefEqProofs (maxSteps:=400000) (maxDischargeDepth:=6);exact he.tick (by omega),by simp -implicitDefEqProofs (maxSteps:=400000) (maxDischargeDepth:=6) [k3],by simp -implicitDefEqProofs (maxSteps:=400000) (maxDischargeDepth:=6) [k12],by simp -implicitDefEqProofs (maxSteps:=400000) (maxDischargeDepth:=6) [k13],by simp -implicitDefEqProofs (maxSteps:=400000) (maxDischargeDepth:=6) [k14],by simp -implicitDefEqProofs (maxSteps:=400000) (maxDischargeDepth:=6) [k15],by simp -implicitDefEqProofs (maxSteps:=400000) (maxDischargeDepth:=6) [k16],by simp -implicitDefEqProofs (maxSteps:=400000) (maxDischargeDepth:=6)⟩⟩
 ·obtain ⟨he,k3,k12,k13,k14,k15,k16,k23⟩:=hX
  have kN:=he.arr hN (by simp -implicitDefEqProofs (maxSteps:=400000) (maxDischargeDepth:=6))
  refine seq_e 4 (XS L D N v ns d i k H1 T1) ?_ (fun st' h=>by simp -implicitDefEqProofs (maxSteps:=400000) (maxDischargeDepth:=6);exact hn _ k h)
  intro R' hR
  by_cases h1:k<ns.length
  ·have h1':(k:Int)<ns.length:=by omega
   have h2:¬k<7:=fun h=>hlt ⟨h1,h⟩
   have h2':¬(k:Int)<7:=by omega
   simp -implicitDefEqProofs (maxSteps:=400000) (maxDischargeDepth:=6) [k13,kN,k23,h1,h1',h2,h2']
   exact hR _ ⟨by simp -implicitDefEqProofs (maxSteps:=400000) (maxDischargeDepth:=6);exact he.tick (by omega),by simp -implicitDefEqProofs (maxSteps:=400000) (maxDischargeDepth:=6) [k3],by simp -implicitDefEqProofs (maxSteps:=400000) (maxDischargeDepth:=6) [k12],by simp -implicitDefEqProofs (maxSteps:=400000) (maxDischargeDepth:=6) [k13],by simp -implicitDefEqProofs (maxSteps:=400000) (maxDischargeDepth:=6) [k14],by simp -implicitDefEqProofs (maxSteps:=400000) (maxDischargeDepth:=6) [k15],by simp -implicitDefEqProofs (maxSteps:=400000) (maxDischargeDepth:=6) [k16],by simp -implicitDefEqProofs (maxSteps:=400000) (maxDischargeDepth:=6) [k23]⟩
  ·have h1':¬(k:Int)<ns.length:=by omega
   simp -implicitDefEqProofs (maxSteps:=400000) (maxDischargeDepth:=6) [k13,kN,k23,h1,h1']
   exact hR _ ⟨by simp -implicitDefEqProofs (maxSteps:=400000) (maxDischargeDepth:=6);exact he.tick (by omega),by simp -implicitDefEqProofs (maxSteps:=400000) (maxDischargeDepth:=6) [k3],by simp -implicitDefEqProofs (maxSteps:=400000) (maxDischargeDepth:=6) [k12],by simp -implicitDefEqProofs (maxSteps:=400000) (maxDischargeDepth:=6) [k13],by simp -implicitDefEqProofs (maxSteps:=400000) (maxDischargeDepth:=6) [k14],by simp -implicitDefEqProofs (maxSteps:=400000) (maxDischargeDepth:=6) [k15],by simp -implicitDefEqProofs (maxSteps:=400000) (maxDischargeDepth:=6) [k16],by simp -implicitDefEqProofs (maxSteps:=400000) (maxDischargeDepth:=6) [k23]⟩
end Go.AE
set_option linter.unusedVariables false
set_option linter.unusedSimpArgs false
set_option maxHeartbeats 4000000
set_option maxRecDepth 100000
namespace Go.AE
open Go Go.Proofs
structure YB (L:List EntryV) (D N:Id) (rows:List (List AC)) (ds:List DiskV) (ns:List Int) (H:Heap):Prop where
 hL:1≤L.length
 hL2:L.length≤11
 hE:∀e∈L,e.op.text.length≤4000∧e.op.gone.length≤1000
 hD:H D=.arr 30 2 false rows
 hr:rows.length=8
 hS:SeesL H rows ds
 hN:H N=.arr 3 1 false (rowsE ns)
 nl:ns.length≤600
 nS:∀n∈ns,-9223372036854775808≤n∧n≤9223372036854775807
theorem YB.ext {L:List EntryV} {D N:Id} {rows:List (List AC)} {ds:List DiskV} {ns:List Int} {H H':Heap} {T T':Nat} (h:YB L D N rows ds ns H) (he:ExtH [] H T H' T'):YB L D N rows ds ns H':=by
 obtain ⟨a1,a2,a3,a4,a5,a6,a7,a8,a9⟩:=h
 exact ⟨a1,a2,a3,he.arr a4 (by simp -implicitDefEqProofs (maxSteps:=400000) (maxDischargeDepth:=6)),a5,a6.ext he,he.arr a7 (by simp -implicitDefEqProofs (maxSteps:=400000) (maxDischargeDepth:=6)),a8,a9⟩
def YS (L:List EntryV) (D N:Id) (rows:List (List AC)) (ds:List DiskV) (ns:List Int) (i:Nat) (st:St):Prop:=
 YB L D N rows ds ns st.H∧Fresh st.H st.T∧st.s 3=.c (.sl .new false (rowsE L))∧st.s 12=.c (.so D 0 8)∧st.s 13=.c (.so N 0 ns.length)∧st.s 14=.c (.raw (.int .i64 i))
def YI (L:List EntryV) (D N:Id) (rows:List (List AC)) (ds:List DiskV) (ns:List Int) (q:Nat) (st:St):Prop:=∃i:Nat,i≤8∧q=8-i∧YS L D N rows ds ns i st
theorem exact_l2 {Q:AEx→St→Prop} {st:St} (L:List EntryV) (D N:Id) (rows:List (List AC)) (ds:List DiskV) (ns:List Int) (h0:YS L D N rows ds ns 0 st) (hn:∀st',Q (.exit 2) st'):awpS Tryz.prog FK8 (.loop s4L2) Q st:=by
 refine loop_c (YI L D N rows ds ns) 8 ⟨0,by omega,rfl,h0⟩ ?_
 clear h0 st
 rintro q st ⟨i,hi,rfl,hX⟩ J hJ
 by_cases hlt:i<8
 ·have hlt':(i:Int)<8:=by omega
  obtain ⟨d,hdi⟩:∃d,ds[i]?=some d:=by
   have:=hX.1.hS.1
   have:=hX.1.hr
   exact ⟨ds[i],List.getElem?_eq_getElem (by omega)⟩
  refine seq_c (YS L D N rows ds ns i) ?_ ?_
  ·intro R' hR
   obtain ⟨hB,hf,k3,k12,k13,k14⟩:=hX
   have kD:=hB.hD
   simp -implicitDefEqProofs (maxSteps:=400000) (maxDischargeDepth:=6) [k12,k14,kD,hlt,hlt']
   exact hR _ ⟨by simpa using hB,by simp -implicitDefEqProofs (maxSteps:=400000) (maxDischargeDepth:=6);exact hf.mono (by omega),by simp -implicitDefEqProofs (maxSteps:=400000) (maxDischargeDepth:=6) [k3],by simp -implicitDefEqProofs (maxSteps:=400000) (maxDischargeDepth:=6) [k12],by simp -implicitDefEqProofs (maxSteps:=400000) (maxDischargeDepth:=6) [k13],by simp -implicitDefEqProofs (maxSteps:=400000) (maxDischargeDepth:=6) [k14]⟩
  clear hX st
  rintro st hX
  have hsm:smallD d:=by
   have h1:=hX.1.hr
   exact (hX.1.hS.2 i rows[i] d (List.getElem?_eq_getElem (by omega)) hdi).2
  obtain ⟨dS,dW⟩:=hsm
  have l1:d.safe.length<1000000:=by omega
  have l2:d.wait.length<1000000:=by omega
  have l5:d.safe.length<281474976710656:=by omega
  have l6:d.wait.length<281474976710656:=by omega
  have hri:∀st:St,YS L D N rows ds ns i st→∃c1 c2,∃hb:i<rows.length,rows[i]=[c1,c2]∧viewC st.H c1=some (.sl .brw false (rowsE d.safe))∧viewC st.H c2=some (.sl .brw false (rowsE d.wait))∧AC.one st.H c1=true∧AC.one st.H c2=true:=by
   intro st hX
   have h1:=hX.1.hr
   have hb:i<rows.length:=by omega
   obtain ⟨⟨c1,c2,hrr,hs1,hs2⟩,_⟩:=hX.1.hS.2 i rows[i] d (List.getElem?_eq_getElem hb) hdi
   exact ⟨c1,c2,hb,hrr,hs1.view,hs2.view,hs1.one,hs2.one⟩
  refine seq_c (YS L D N rows ds ns i) ?_ ?_
  ·intro R' hR
   refine block_c ?_
   refine seq_c (fun st'=>YS L D N rows ds ns i st'∧∃v,st'.s 15=.c (.pt v 0 0)∧st'.H v=.arr 30 2 false [diskN d]) ?_ ?_
   ·intro R' hR
    obtain ⟨c1,c2,hb,hrg,a1,a2,b1,b2⟩:=hri st hX
    obtain ⟨hB,hf,k3,k12,k13,k14⟩:=hX
    have kD:=hB.hD
    have hr:=hB.hr
    have hfu:∀k d,st.T≤k→st.H (k,d)=.unborn:=hf
    simp -implicitDefEqProofs (maxSteps:=400000) (maxDischargeDepth:=6) [k12,k14,kD,hr,hrg,hlt,hlt',a1,a2,b1,b2,l1,l2,diskN,hfu]
    exact hR _ ⟨⟨hB.ext (T:=st.T) (T':=st.T+5) (by simp -implicitDefEqProofs (maxSteps:=400000) (maxDischargeDepth:=6);have he:=ExtH.refl (S:=[]) hf;repeat' (first|exact he.tick (by first|omega|(simp<;>omega))|(refine ExtH.new ?_ (by first|omega|(simp<;>omega)) (by first|omega|(simp<;>omega)))|(refine ExtH.set ?_ (by simp) (by first|omega|(simp<;>omega))))),by simp -implicitDefEqProofs (maxSteps:=400000) (maxDischargeDepth:=6);repeat' (first|exact hf.mono (by first|omega|(simp<;>omega))|(refine Fresh.set' ?_ (by first|omega|(simp<;>omega)))),by simp -implicitDefEqProofs (maxSteps:=400000) (maxDischargeDepth:=6) [k3],by simp -implicitDefEqProofs (maxSteps:=400000) (maxDischargeDepth:=6) [k12],by simp -implicitDefEqProofs (maxSteps:=400000) (maxDischargeDepth:=6) [k13],by simp -implicitDefEqProofs (maxSteps:=400000) (maxDischargeDepth:=6) [k14]⟩,(st.T,15),by simp -implicitDefEqProofs (maxSteps:=400000) (maxDischargeDepth:=6),by simp -implicitDefEqProofs (maxSteps:=400000) (maxDischargeDepth:=6) [diskN]⟩
   clear hX st
   rintro st ⟨hX,v,k15,kv⟩
   refine seq_c (fun st'=>YS L D N rows ds ns i st'∧st'.s 15=.c (.pt v 0 0)∧st'.H v=.arr 30 2 false [diskN d]∧st'.s 16=.c (.raw (.bool (mayB d)))) ?_ ?_
   ·intro R' hR
    obtain ⟨c1,c2,hb,hrg,a1,a2,b1,b2⟩:=hri st hX
    obtain ⟨hB,hf,k3,k12,k13,k14⟩:=hX
    have kD:=hB.hD
    have hr:=hB.hr
    simp -implicitDefEqProofs (maxSteps:=400000) (maxDischargeDepth:=6) [k12,k14,kD,hr,hrg,hlt,hlt',a1,a2,b1,b2,l5,l6]
    exact hR _ ⟨⟨by simpa using hB,by simp -implicitDefEqProofs (maxSteps:=400000) (maxDischargeDepth:=6);exact hf.mono (by omega),by simp -implicitDefEqProofs (maxSteps:=400000) (maxDischargeDepth:=6) [k3],by simp -implicitDefEqProofs (maxSteps:=400000) (maxDischargeDepth:=6) [k12],by simp -implicitDefEqProofs (maxSteps:=400000) (maxDischargeDepth:=6) [k13],by simp -implicitDefEqProofs (maxSteps:=400000) (maxDischargeDepth:=6) [k14]⟩,by simp -implicitDefEqProofs (maxSteps:=400000) (maxDischargeDepth:=6) [k15],by simp -implicitDefEqProofs (maxSteps:=400000) (maxDischargeDepth:=6) [kv],by simp -implicitDefEqProofs (maxSteps:=400000) (maxDischargeDepth:=6)⟩
   clear hX k15 kv st
   rintro st ⟨hX,k15,kv,k16⟩
   obtain ⟨E,n,c,hl⟩:∃E n c,loadR d=(E,n,c):=⟨_,_,_,rfl⟩
   have hls:=loadR_small d
   rw [hl] at hls
   obtain ⟨hls1,hls2⟩:=hls
   simp only at hls1 hls2
   refine seq_c (fun st'=>YS L D N rows ds ns i st'∧st'.s 15=.c (.pt v 0 0)∧st'.H v=.arr 30 2 false [diskN d]∧st'.s 16=.c (.raw (.bool (mayB d)))∧∃g,st'.s 17=.c (.so g 0 E.length)∧st'.H g=.arr 48 13 false (rowsE E)∧st'.s 18=.c (.raw (.int .i64 n))∧st'.s 19=.c (.raw (.int .i64 c))) ?_ ?_
   ·intro R' hR
    obtain ⟨hB,hf,k3,k12,k13,k14⟩:=hX
    obtain ⟨f1,f2,f3⟩:=hf.arr kv
    have hfu:∀k d,st.T≤k→st.H (k,d)=.unborn:=hf
    simp -implicitDefEqProofs (maxSteps:=400000) (maxDischargeDepth:=6) [k15,kv,diskN,l1,l2,hl,loadAV,hfu,f1,f2]
    exact hR _ ⟨⟨hB.ext (T:=st.T) (T':=st.T+5) (by simp -implicitDefEqProofs (maxSteps:=400000) (maxDischargeDepth:=6);have he:=ExtH.refl (S:=[]) hf;repeat' (first|exact he.tick (by first|omega|(simp<;>omega))|(refine ExtH.new ?_ (by first|omega|(simp<;>omega)) (by first|omega|(simp<;>omega)))|(refine ExtH.set ?_ (by simp) (by first|omega|(simp<;>omega))))),by simp -implicitDefEqProofs (maxSteps:=400000) (maxDischargeDepth:=6);repeat' (first|exact hf.mono (by first|omega|(simp<;>omega))|(refine Fresh.set' ?_ (by first|omega|(simp<;>omega)))),by simp -implicitDefEqProofs (maxSteps:=400000) (maxDischargeDepth:=6) [k3],by simp -implicitDefEqProofs (maxSteps:=400000) (maxDischargeDepth:=6) [k12],by simp -implicitDefEqProofs (maxSteps:=400000) (maxDischargeDepth:=6) [k13],by simp -implicitDefEqProofs (maxSteps:=400000) (maxDischargeDepth:=6) [k14]⟩,by simp -implicitDefEqProofs (maxSteps:=400000) (maxDischargeDepth:=6) [k15],by simp -implicitDefEqProofs (maxSteps:=400000) (maxDischargeDepth:=6) [kv,f1,f2,diskN],by simp -implicitDefEqProofs (maxSteps:=400000) (maxDischargeDepth:=6) [k16],(st.T,109568),by simp -implicitDefEqProofs (maxSteps:=400000) (maxDischargeDepth:=6),by simp -implicitDefEqProofs (maxSteps:=400000) (maxDischargeDepth:=6),by simp -implicitDefEqProofs (maxSteps:=400000) (maxDischargeDepth:=6),by simp -implicitDefEqProofs (maxSteps:=400000) (maxDischargeDepth:=6)⟩
   clear hX k15 kv k16 st
   rintro st ⟨hX,k15,kv,k16,g,k17,kg,k18,k19⟩
   refine seq_c (fun st'=>YS L D N rows ds ns i st'∧st'.s 15=.c (.pt v 0 0)∧st'.H v=.arr 30 2 false [diskN d]∧st'.s 16=.c (.raw (.bool (mayB d)))∧st'.s 17=.c (.so g 0 E.length)∧st'.H g=.arr 48 13 false (rowsE E)∧st'.s 18=.c (.raw (.int .i64 n))∧st'.s 19=.c (.raw (.int .i64 c))∧st'.s 20=.c (.raw (.int .i64 1))∧st'.s 21=.c (.raw (.int .i64 0))) ?_ ?_
   ·intro R' hR
    obtain ⟨hB,hf,k3,k12,k13,k14⟩:=hX
    simp -implicitDefEqProofs (maxSteps:=400000) (maxDischargeDepth:=6)
    exact hR _ ⟨⟨by simpa using hB,by simp -implicitDefEqProofs (maxSteps:=400000) (maxDischargeDepth:=6);exact hf.mono (by omega),by simp -implicitDefEqProofs (maxSteps:=400000) (maxDischargeDepth:=6) [k3],by simp -implicitDefEqProofs (maxSteps:=400000) (maxDischargeDepth:=6) [k12],by simp -implicitDefEqProofs (maxSteps:=400000) (maxDischargeDepth:=6) [k13],by simp -implicitDefEqProofs (maxSteps:=400000) (maxDischargeDepth:=6) [k14]⟩,by simp -implicitDefEqProofs (maxSteps:=400000) (maxDischargeDepth:=6) [k15],by simp -implicitDefEqProofs (maxSteps:=400000) (maxDischargeDepth:=6) [kv],by simp -implicitDefEqProofs (maxSteps:=400000) (maxDischargeDepth:=6) [k16],by simp -implicitDefEqProofs (maxSteps:=400000) (maxDischargeDepth:=6) [k17],by simp -implicitDefEqProofs (maxSteps:=400000) (maxDischargeDepth:=6) [kg],by simp -implicitDefEqProofs (maxSteps:=400000) (maxDischargeDepth:=6) [k18],by simp -implicitDefEqProofs (maxSteps:=400000) (maxDischargeDepth:=6) [k19],by simp -implicitDefEqProofs (maxSteps:=400000) (maxDischargeDepth:=6),by simp -implicitDefEqProofs (maxSteps:=400000) (maxDischargeDepth:=6)⟩
   clear hX k15 kv k16 k17 kg k18 k19 st
   rintro st ⟨hX,k15,kv,k16,k17,kg,k18,k19,k20,k21⟩
   refine seq_c (fun st'=>YS L D N rows ds ns i st'∧st'.s 15=.c (.pt v 0 0)∧st'.H v=.arr 30 2 false [diskN d]∧st'.s 16=.c (.raw (.bool (mayB d)))∧st'.s 17=.c (.so g 0 E.length)∧st'.H g=.arr 48 13 false (rowsE E)∧st'.s 18=.c (.raw (.int .i64 n))∧st'.s 19=.c (.raw (.int .i64 c))∧st'.s 20=.c (.raw (.int .i64 1))∧st'.s 21=.c (.raw (.int .i64 0))∧st'.s 22=.c (.raw (.slice none 0 0))) ?_ ?_
   ·intro R' hR
    obtain ⟨hB,hf,k3,k12,k13,k14⟩:=hX
    simp -implicitDefEqProofs (maxSteps:=400000) (maxDischargeDepth:=6)
    exact hR _ ⟨⟨by simpa using hB,by simp -implicitDefEqProofs (maxSteps:=400000) (maxDischargeDepth:=6);exact hf.mono (by omega),by simp -implicitDefEqProofs (maxSteps:=400000) (maxDischargeDepth:=6) [k3],by simp -implicitDefEqProofs (maxSteps:=400000) (maxDischargeDepth:=6) [k12],by simp -implicitDefEqProofs (maxSteps:=400000) (maxDischargeDepth:=6) [k13],by simp -implicitDefEqProofs (maxSteps:=400000) (maxDischargeDepth:=6) [k14]⟩,by simp -implicitDefEqProofs (maxSteps:=400000) (maxDischargeDepth:=6) [k15],by simp -implicitDefEqProofs (maxSteps:=400000) (maxDischargeDepth:=6) [kv],by simp -implicitDefEqProofs (maxSteps:=400000) (maxDischargeDepth:=6) [k16],by simp -implicitDefEqProofs (maxSteps:=400000) (maxDischargeDepth:=6) [k17],by simp -implicitDefEqProofs (maxSteps:=400000) (maxDischargeDepth:=6) [kg],by simp -implicitDefEqProofs (maxSteps:=400000) (maxDischargeDepth:=6) [k18],by simp -implicitDefEqProofs (maxSteps:=400000) (maxDischargeDepth:=6) [k19],by simp -implicitDefEqProofs (maxSteps:=400000) (maxDischargeDepth:=6) [k20],by simp -implicitDefEqProofs (maxSteps:=400000) (maxDischargeDepth:=6) [k21],by simp -implicitDefEqProofs (maxSteps:=400000) (maxDischargeDepth:=6)⟩
   clear hX k15 kv k16 k17 kg k18 k19 k20 k21 st
   rintro st ⟨hX,k15,kv,k16,k17,kg,k18,k19,k20,k21,k22⟩
   refine seq_c (fun st'=>YS L D N rows ds ns i st'∧st'.s 15=.c (.pt v 0 0)∧st'.H v=.arr 30 2 false [diskN d]∧st'.s 16=.c (.raw (.bool (mayB d)))∧st'.s 17=.c (.so g 0 E.length)∧st'.H g=.arr 48 13 false (rowsE E)∧st'.s 18=.c (.raw (.int .i64 n))∧st'.s 19=.c (.raw (.int .i64 c))∧st'.s 20=.c (.raw (.int .i64 c))∧st'.s 21=.c (.raw (.int .i64 n))∧((st'.s 22=.c (.raw (.slice none 0 0))∧E=[])∨∃h,st'.s 22=.c (.so h 0 E.length)∧st'.H h=.arr 48 13 false (rowsE E))) ?_ ?_
   ·intro R' hR
    obtain ⟨hB,hf,k3,k12,k13,k14⟩:=hX
    obtain ⟨f1,f2,f3⟩:=hf.arr kv
    obtain ⟨f4,f5,f6⟩:=hf.arr kg
    have hfu:∀k d,st.T≤k→st.H (k,d)=.unborn:=hf
    by_cases hm:mayB d=true
    ·have k16':=k16
     rw [hm] at k16'
     obtain ⟨hsec,hs1,hs4⟩:=mayB_secs hm
     obtain ⟨e1,e2⟩:=refLoad_same d.safe.length d.safe 0 hsec
     have hl2:=hl
     unfold loadR at hl2
     rw [if_pos hm] at hl2
     simp only [Prod.mk.injEq] at hl2
     obtain ⟨g1,g2,rfl⟩:=hl2
     obtain ⟨I,hrl⟩:∃I,refLoadR d=(E,I,n):=⟨(refLoadR d).2.1,by
      unfold refLoadR
      rw [←g1,←g2,←e1,←e2]⟩
     have hs5:d.safe.length<1000:=by omega
     simp -implicitDefEqProofs (maxSteps:=400000) (maxDischargeDepth:=6) [k15,kv,diskN,k16',hsec,hs5,l2,hrl,refLoadAV,hfu,f1,f2,Nat.le_add_right_of_le]
     exact hR _ ⟨⟨hB.ext (T:=st.T) (T':=st.T+5) (by simp -implicitDefEqProofs (maxSteps:=400000) (maxDischargeDepth:=6);have he:=ExtH.refl (S:=[]) hf;repeat' (first|exact he.tick (by first|omega|(simp<;>omega))|(refine ExtH.new ?_ (by first|omega|(simp<;>omega)) (by first|omega|(simp<;>omega)))|(refine ExtH.set ?_ (by simp) (by first|omega|(simp<;>omega))))),by simp -implicitDefEqProofs (maxSteps:=400000) (maxDischargeDepth:=6);repeat' (first|exact hf.mono (by first|omega|(simp<;>omega))|(refine Fresh.set' ?_ (by first|omega|(simp<;>omega)))),by simp -implicitDefEqProofs (maxSteps:=400000) (maxDischargeDepth:=6) [k3],by simp -implicitDefEqProofs (maxSteps:=400000) (maxDischargeDepth:=6) [k12],by simp -implicitDefEqProofs (maxSteps:=400000) (maxDischargeDepth:=6) [k13],by simp -implicitDefEqProofs (maxSteps:=400000) (maxDischargeDepth:=6) [k14]⟩,by simp -implicitDefEqProofs (maxSteps:=400000) (maxDischargeDepth:=6) [k15],by simp -implicitDefEqProofs (maxSteps:=400000) (maxDischargeDepth:=6) [kv,f1,f2,diskN,Nat.le_add_right_of_le],by simp -implicitDefEqProofs (maxSteps:=400000) (maxDischargeDepth:=6) [k16],by simp -implicitDefEqProofs (maxSteps:=400000) (maxDischargeDepth:=6) [k17],by simp -implicitDefEqProofs (maxSteps:=400000) (maxDischargeDepth:=6) [kg,f4,f5,Nat.le_add_right_of_le],by simp -implicitDefEqProofs (maxSteps:=400000) (maxDischargeDepth:=6) [k18],by simp -implicitDefEqProofs (maxSteps:=400000) (maxDischargeDepth:=6) [k19],by simp -implicitDefEqProofs (maxSteps:=400000) (maxDischargeDepth:=6),by simp -implicitDefEqProofs (maxSteps:=400000) (maxDischargeDepth:=6),.inr ⟨(st.T+1+1,116736),by simp -implicitDefEqProofs (maxSteps:=400000) (maxDischargeDepth:=6),by simp -implicitDefEqProofs (maxSteps:=400000) (maxDischargeDepth:=6)⟩⟩
    ·have k16':=k16
     rw [Bool.eq_false_iff.2 hm] at k16'
     have hl2:=hl
     unfold loadR at hl2
     rw [if_neg hm] at hl2
     simp only [Prod.mk.injEq] at hl2
     obtain ⟨rfl,rfl,rfl⟩:=hl2
     simp -implicitDefEqProofs (maxSteps:=400000) (maxDischargeDepth:=6) [k16']
     exact hR _ ⟨⟨by simpa using hB,by simp -implicitDefEqProofs (maxSteps:=400000) (maxDischargeDepth:=6);exact hf.mono (by omega),by simp -implicitDefEqProofs (maxSteps:=400000) (maxDischargeDepth:=6) [k3],by simp -implicitDefEqProofs (maxSteps:=400000) (maxDischargeDepth:=6) [k12],by simp -implicitDefEqProofs (maxSteps:=400000) (maxDischargeDepth:=6) [k13],by simp -implicitDefEqProofs (maxSteps:=400000) (maxDischargeDepth:=6) [k14]⟩,by simp -implicitDefEqProofs (maxSteps:=400000) (maxDischargeDepth:=6) [k15],by simp -implicitDefEqProofs (maxSteps:=400000) (maxDischargeDepth:=6) [kv],by simp -implicitDefEqProofs (maxSteps:=400000) (maxDischargeDepth:=6) [k16],by simp -implicitDefEqProofs (maxSteps:=400000) (maxDischargeDepth:=6) [k17],by simp -implicitDefEqProofs (maxSteps:=400000) (maxDischargeDepth:=6) [kg],by simp -implicitDefEqProofs (maxSteps:=400000) (maxDischargeDepth:=6) [k18],by simp -implicitDefEqProofs (maxSteps:=400000) (maxDischargeDepth:=6) [k19],by simp -implicitDefEqProofs (maxSteps:=400000) (maxDischargeDepth:=6) [k20],by simp -implicitDefEqProofs (maxSteps:=400000) (maxDischargeDepth:=6) [k21],.inl ⟨by simp -implicitDefEqProofs (maxSteps:=400000) (maxDischargeDepth:=6) [k22],rfl⟩⟩
   clear hX k15 kv k16 k17 kg k18 k19 k20 k21 k22 st
   rintro st ⟨hX,k15,kv,k16,k17,kg,k18,k19,k20,k21,k22⟩
   have hEl:E.length<4611686018427387904:=by omega
   have hok:okL E:=fun e he=>by have:=hls2 e he;omega
   refine seq_c (fun st'=>YS L D N rows ds ns i st'∧st'.s 15=.c (.pt v 0 0)∧st'.H v=.arr 30 2 false [diskN d]∧st'.s 16=.c (.raw (.bool (mayB d)))) ?_ ?_
   ·intro R' hR
    obtain ⟨hB,hf,k3,k12,k13,k14⟩:=hX
    rcases k22 with ⟨k22,rfl⟩|⟨h,k22,kh⟩
    ·simp -implicitDefEqProofs (maxSteps:=400000) (maxDischargeDepth:=6) [k17,kg,k18,k19,k20,k21,k22,hok]
     exact hR _ ⟨⟨by simpa using hB,by simp -implicitDefEqProofs (maxSteps:=400000) (maxDischargeDepth:=6);exact hf.mono (by omega),by simp -implicitDefEqProofs (maxSteps:=400000) (maxDischargeDepth:=6) [k3],by simp -implicitDefEqProofs (maxSteps:=400000) (maxDischargeDepth:=6) [k12],by simp -implicitDefEqProofs (maxSteps:=400000) (maxDischargeDepth:=6) [k13],by simp -implicitDefEqProofs (maxSteps:=400000) (maxDischargeDepth:=6) [k14]⟩,by simp -implicitDefEqProofs (maxSteps:=400000) (maxDischargeDepth:=6) [k15],by simp -implicitDefEqProofs (maxSteps:=400000) (maxDischargeDepth:=6) [kv],by simp -implicitDefEqProofs (maxSteps:=400000) (maxDischargeDepth:=6) [k16]⟩
    ·simp -implicitDefEqProofs (maxSteps:=400000) (maxDischargeDepth:=6) [k17,kg,k18,k19,k20,k21,k22,kh,hok,hEl]
     exact hR _ ⟨⟨by simpa using hB,by simp -implicitDefEqProofs (maxSteps:=400000) (maxDischargeDepth:=6);exact hf.mono (by omega),by simp -implicitDefEqProofs (maxSteps:=400000) (maxDischargeDepth:=6) [k3],by simp -implicitDefEqProofs (maxSteps:=400000) (maxDischargeDepth:=6) [k12],by simp -implicitDefEqProofs (maxSteps:=400000) (maxDischargeDepth:=6) [k13],by simp -implicitDefEqProofs (maxSteps:=400000) (maxDischargeDepth:=6) [k14]⟩,by simp -implicitDefEqProofs (maxSteps:=400000) (maxDischargeDepth:=6) [k15],by simp -implicitDefEqProofs (maxSteps:=400000) (maxDischargeDepth:=6) [kv],by simp -implicitDefEqProofs (maxSteps:=400000) (maxDischargeDepth:=6) [k16]⟩
   clear hX k15 kv k16 k17 kg k18 k19 k20 k21 k22 st
   rintro st ⟨hX,k15,kv,k16⟩
   obtain ⟨hB,hf,k3,k12,k13,k14⟩:=hX
   simp -implicitDefEqProofs (maxSteps:=400000) (maxDischargeDepth:=6)
   refine exact_l1 L D N v rows ds ns d i st.H (st.T+1) ⟨hB.hL,hB.hL2,hB.hE,hB.hD,hB.hr,hB.hS,hB.hN,hB.nl,hB.nS,kv,dS,dW⟩ hlt hdi ⟨by simp -implicitDefEqProofs (maxSteps:=400000) (maxDischargeDepth:=6);exact ExtH.refl (hf.mono (by omega)),by simp -implicitDefEqProofs (maxSteps:=400000) (maxDischargeDepth:=6) [k3],by simp -implicitDefEqProofs (maxSteps:=400000) (maxDischargeDepth:=6) [k12],by simp -implicitDefEqProofs (maxSteps:=400000) (maxDischargeDepth:=6) [k13],by simp -implicitDefEqProofs (maxSteps:=400000) (maxDischargeDepth:=6) [k14],by simp -implicitDefEqProofs (maxSteps:=400000) (maxDischargeDepth:=6) [k15],by simp -implicitDefEqProofs (maxSteps:=400000) (maxDischargeDepth:=6) [k16],by simp -implicitDefEqProofs (maxSteps:=400000) (maxDischargeDepth:=6)⟩ ?_
   rintro st' k ⟨he,q3,q12,q13,q14,q15,q16,q23⟩
   simp -implicitDefEqProofs (maxSteps:=400000) (maxDischargeDepth:=6)
   exact hR _ ⟨hB.ext he,he.fresh,q3,q12,q13,q14⟩
  clear hX st
  rintro st ⟨hB,hf,k3,k12,k13,k14⟩
  have hw:IntKind.wrap .i64 ((i:Int)+1)=((i+1:Nat):Int):=by rw [wrap64_id]<;>omega
  simp -implicitDefEqProofs (maxSteps:=400000) (maxDischargeDepth:=6) [k14,hw]
  exact ⟨8-(i+1),by omega,hJ _ _ ⟨i+1,by omega,rfl,by simpa using hB,by simp -implicitDefEqProofs (maxSteps:=400000) (maxDischargeDepth:=6);exact hf.mono (by omega),by simp -implicitDefEqProofs (maxSteps:=400000) (maxDischargeDepth:=6) [k3],by simp -implicitDefEqProofs (maxSteps:=400000) (maxDischargeDepth:=6) [k12],by simp -implicitDefEqProofs (maxSteps:=400000) (maxDischargeDepth:=6) [k13],by simp -implicitDefEqProofs (maxSteps:=400000) (maxDischargeDepth:=6)⟩⟩
 ·have h8:i=8:=by omega
  subst h8
  refine seq_e 2 (fun _=>True) ?_ (fun st' h=>by simp -implicitDefEqProofs (maxSteps:=400000) (maxDischargeDepth:=6);exact hn _)
  intro R' hR
  obtain ⟨hB,hf,k3,k12,k13,k14⟩:=hX
  have kD:=hB.hD
  simp -implicitDefEqProofs (maxSteps:=400000) (maxDischargeDepth:=6) [k12,k14,kD]
  exact hR _ trivial
end Go.AE
set_option linter.unusedVariables false
set_option linter.unusedSimpArgs false
set_option maxHeartbeats 4000000
set_option maxRecDepth 100000
namespace Go.AE
open Go Go.Proofs
theorem storeExact_ev (p:AskD) (hp:AskS p):PEv Tryz.prog 4 [Arg.enc p] (.c (.raw (.bool true))):=by
 refine tells_of mixed FK8_ok Tryz.func4 sl4 ok4 (by kernel_rfl) (by simp -implicitDefEqProofs (maxSteps:=400000) (maxDischargeDepth:=6)) (by simp -implicitDefEqProofs (maxSteps:=400000) (maxDischargeDepth:=6) [askRow]) ?_
 refine seq_c (fun st'=>st'.s 1=.c (.pt (0,1) 0 0)∧st'.H (0,1)=.arr 36 9 false [askRow p]∧Fresh st'.H st'.T) ?_ ?_
 ·intro R' hR
  simp -implicitDefEqProofs (maxSteps:=400000) (maxDischargeDepth:=6) [askRow]
  exact hR _ ⟨by simp -implicitDefEqProofs (maxSteps:=400000) (maxDischargeDepth:=6),by simp -implicitDefEqProofs (maxSteps:=400000) (maxDischargeDepth:=6) [askRow],by simp -implicitDefEqProofs (maxSteps:=400000) (maxDischargeDepth:=6);(repeat' (first|exact fresh_no.mono (Nat.zero_le _)|(refine Fresh.set' ?_ (by simp))))⟩
 rintro st ⟨k1,kH,hf⟩
 by_cases hl:heavy15 p=true
 ·refine seq_r (fun st'=>st'.s 2=.c (.raw (.bool true))) ?_ ?_
  ·intro R' hR
   simp -implicitDefEqProofs (maxSteps:=400000) (maxDischargeDepth:=6) [k1,kH,askRow,hp,hl]
   exact hR _ (by simp -implicitDefEqProofs (maxSteps:=400000) (maxDischargeDepth:=6))
  ·rintro st' k2
   simp -implicitDefEqProofs (maxSteps:=400000) (maxDischargeDepth:=6) [k2]
 have hl:heavy15 p=false:=Bool.eq_false_iff.2 hl
 obtain ⟨l1,l2,l3,l4,l5,l6,l7⟩:=light15 hp hl
 obtain ⟨sL,sE⟩:=entsR_small hp hl
 have sL1:1≤(entsR p).length:=by simp -implicitDefEqProofs (maxSteps:=400000) (maxDischargeDepth:=6) [entsR]
 refine seq_c (fun st'=>st'.s 1=.c (.pt (0,1) 0 0)∧st'.H (0,1)=.arr 36 9 false [askRow p]∧Fresh st'.H st'.T) ?_ ?_
 ·intro R' hR
  simp -implicitDefEqProofs (maxSteps:=400000) (maxDischargeDepth:=6) [k1,kH,askRow,hp,hl]
  exact hR _ ⟨by simp -implicitDefEqProofs (maxSteps:=400000) (maxDischargeDepth:=6) [k1],by simp -implicitDefEqProofs (maxSteps:=400000) (maxDischargeDepth:=6) [kH,askRow],by simp -implicitDefEqProofs (maxSteps:=400000) (maxDischargeDepth:=6);exact hf.mono (by omega)⟩
 clear k1 kH hf st
 rintro st ⟨k1,kH,hf⟩
 refine seq_c (ExB p (entsR p)) ?_ ?_
 ·intro R' hR
  simp -implicitDefEqProofs (maxSteps:=400000) (maxDischargeDepth:=6) [k1,kH,askRow,hp,hl]
  exact hR _ ⟨by simp -implicitDefEqProofs (maxSteps:=400000) (maxDischargeDepth:=6) [k1],by simp -implicitDefEqProofs (maxSteps:=400000) (maxDischargeDepth:=6) [kH,askRow],by simp -implicitDefEqProofs (maxSteps:=400000) (maxDischargeDepth:=6),by simp -implicitDefEqProofs (maxSteps:=400000) (maxDischargeDepth:=6);exact hf.mono (by omega)⟩
 clear k1 kH hf st
 rintro st hB
 refine seq_c (ExB p (entsR p)) ?_ ?_
 ·intro R' hR
  obtain ⟨k1,kH,k3,hf⟩:=hB
  simp -implicitDefEqProofs (maxSteps:=400000) (maxDischargeDepth:=6)
  refine exact_l0 p (entsR p) sL sE ⟨0,by omega,rfl,⟨by simp -implicitDefEqProofs (maxSteps:=400000) (maxDischargeDepth:=6) [k1],by simp -implicitDefEqProofs (maxSteps:=400000) (maxDischargeDepth:=6) [kH],by simp -implicitDefEqProofs (maxSteps:=400000) (maxDischargeDepth:=6) [k3],by simp -implicitDefEqProofs (maxSteps:=400000) (maxDischargeDepth:=6);exact hf.mono (by omega)⟩,by simp -implicitDefEqProofs (maxSteps:=400000) (maxDischargeDepth:=6)⟩ ?_
  intro st' hB
  simp -implicitDefEqProofs (maxSteps:=400000) (maxDischargeDepth:=6)
  exact hR _ hB
 clear hB st
 rintro st hB
 refine seq_c (fun st'=>ExB p (entsR p) st'∧∃D rows ds,st'.s 12=.c (.so D 0 8)∧st'.H D=.arr 30 2 false rows∧rows.length=8∧SeesL st'.H rows ds) ?_ ?_
 ·intro R' hR
  obtain ⟨k1,kH,k3,hf⟩:=hB
  simp -implicitDefEqProofs (maxSteps:=400000) (maxDischargeDepth:=6) [k1,kH,askRow]
  refine acall_k (disks_k p hp hl (by simp -implicitDefEqProofs (maxSteps:=400000) (maxDischargeDepth:=6);exact hf)) ?_
  rintro ret H T ⟨D,rows,ds,rfl,kD,hr,hS,he,hD0⟩
  simp -implicitDefEqProofs (maxSteps:=400000) (maxDischargeDepth:=6) at he
  simp -implicitDefEqProofs (maxSteps:=400000) (maxDischargeDepth:=6)
  exact hR _ ⟨⟨by simp -implicitDefEqProofs (maxSteps:=400000) (maxDischargeDepth:=6) [k1],by simpa using he.arr kH (by simp -implicitDefEqProofs (maxSteps:=400000) (maxDischargeDepth:=6)),by simp -implicitDefEqProofs (maxSteps:=400000) (maxDischargeDepth:=6) [k3],by simpa using he.fresh.mono (by omega)⟩,D,rows,ds,by simp -implicitDefEqProofs (maxSteps:=400000) (maxDischargeDepth:=6),by simpa using kD,hr,by simpa using hS⟩
 clear hB st
 rintro st ⟨hB,D,rows,ds,k12,kD,hr,hS⟩
 obtain ⟨ns,hns⟩:∃ns:List Int,ns=[0,1,2,-1,60]++p.nums:=⟨_,rfl⟩
 have hnl:ns.length=5+p.nums.length:=by rw [hns];simp -implicitDefEqProofs (maxSteps:=400000) (maxDischargeDepth:=6);omega
 have hnS:∀n∈ns,-9223372036854775808≤n∧n≤9223372036854775807:=by
  intro n hn
  rw [hns] at hn
  simp -implicitDefEqProofs (maxSteps:=400000) (maxDischargeDepth:=6) at hn
  rcases hn with rfl|rfl|rfl|rfl|rfl|hn
  ·omega
  ·omega
  ·omega
  ·omega
  ·omega
  ·exact hp.numS n hn
 refine seq_c (fun st'=>∃N,YB (entsR p) D N rows ds ns st'.H∧Fresh st'.H st'.T∧st'.s 3=.c (.sl .new false (rowsE (entsR p)))∧st'.s 12=.c (.so D 0 8)∧st'.s 13=.c (.so N 0 ns.length)) ?_ ?_
 ·intro R' hR
  obtain ⟨k1,kH,k3,hf⟩:=hB
  have hfu:∀k d,st.T≤k→st.H (k,d)=.unborn:=hf
  obtain ⟨p1,p2,p3⟩:=hf.arr kH
  obtain ⟨f1,f2,f3⟩:=hf.arr kD
  simp -implicitDefEqProofs (maxSteps:=400000) (maxDischargeDepth:=6) [k1,kH,askRow,hfu,p1,p2]
  have heA:ExtH [] st.H st.T (hset (hset (hset st.H (st.T,84) (.arr 3 1 false [[.raw (.int .i64 0)],[.raw (.int .i64 1)],[.raw (.int .i64 2)],[.raw (.int .i64 (-1))],[.raw (.int .i64 60)]])) (st.T,84) .dead) (st.T,87) (.arr 3 1 false (rowsE ns))) (st.T+5):=by
   have he:=ExtH.refl (S:=[]) hf
   repeat' (first|exact he.tick (by first|omega|(simp<;>omega))|(refine ExtH.new ?_ (by first|omega|(simp<;>omega)) (by first|omega|(simp<;>omega)))|(refine ExtH.set ?_ (by simp) (by first|omega|(simp<;>omega))))
  refine ⟨⟨by omega,by omega⟩,hR _ ⟨(st.T,87),⟨sL1,sL,sE,by simp -implicitDefEqProofs (maxSteps:=400000) (maxDischargeDepth:=6) [kD,f2],hr,?_,by simp -implicitDefEqProofs (maxSteps:=400000) (maxDischargeDepth:=6) [hns,rowsE],by omega,hnS⟩,by simp -implicitDefEqProofs (maxSteps:=400000) (maxDischargeDepth:=6);repeat' (first|exact hf.mono (by first|omega|(simp<;>omega))|(refine Fresh.set' ?_ (by first|omega|(simp<;>omega)))),by simp -implicitDefEqProofs (maxSteps:=400000) (maxDischargeDepth:=6) [k3],by simp -implicitDefEqProofs (maxSteps:=400000) (maxDischargeDepth:=6) [k12],by simp -implicitDefEqProofs (maxSteps:=400000) (maxDischargeDepth:=6) [hnl];omega⟩⟩
  simp -implicitDefEqProofs (maxSteps:=400000) (maxDischargeDepth:=6)
  have:=hS.ext heA
  simpa [hns,rowsE] using this
 clear hB k12 kD hS st
 rintro st ⟨N,hB,hf,k3,k12,k13⟩
 refine seq_c (fun _=>True) ?_ ?_
 ·intro R' hR
  simp -implicitDefEqProofs (maxSteps:=400000) (maxDischargeDepth:=6)
  refine exact_l2 (entsR p) D N rows ds ns ⟨by simpa using hB,by simp -implicitDefEqProofs (maxSteps:=400000) (maxDischargeDepth:=6);exact hf.mono (by omega),by simp -implicitDefEqProofs (maxSteps:=400000) (maxDischargeDepth:=6) [k3],by simp -implicitDefEqProofs (maxSteps:=400000) (maxDischargeDepth:=6) [k12],by simp -implicitDefEqProofs (maxSteps:=400000) (maxDischargeDepth:=6) [k13],by simp -implicitDefEqProofs (maxSteps:=400000) (maxDischargeDepth:=6)⟩ ?_
  intro st'
  simp -implicitDefEqProofs (maxSteps:=400000) (maxDischargeDepth:=6)
  exact hR _ trivial
 rintro st' _
 simp -implicitDefEqProofs (maxSteps:=400000) (maxDischargeDepth:=6)
end Go.AE
set_option linter.unusedVariables false
set_option linter.unusedSimpArgs false
set_option maxHeartbeats 4000000
set_option maxRecDepth 100000
namespace Go.AE
open Go Go.Proofs
theorem opens_Elem:Opens ElemV Tryz.prog 44 (fun _=>True):=by
 intro H enc w F fuel cs x hF h
 obtain ⟨xs,n,_,rfl,hl,hlen,hf⟩:=DataW.trod_struct Tryz.underlying44 h
 rw [show Tryz.prog.cellsOf 44=3 from by kernel_rfl] at hl
 match cs,hl,xs,hlen with
 |[c0,c1,c2],_,[x0,x1,x2],_=>
  have h0:=hf 0 _ rfl
  change DataW.trod enc Tryz.prog w 0 _ true _ 3 (List.take (Tryz.prog.cellsOf 3) [c0,c1,c2])=some x0 at h0
  rw [show Tryz.prog.cellsOf 3=1 from by kernel_rfl] at h0
  have h1:=hf 1 _ rfl
  change DataW.trod enc Tryz.prog w 0 _ true _ 3 (List.take (Tryz.prog.cellsOf 3) [c1,c2])=some x1 at h1
  rw [show Tryz.prog.cellsOf 3=1 from by kernel_rfl] at h1
  have h2:=hf 2 _ rfl
  change DataW.trod enc Tryz.prog w 0 _ true _ 3 (List.take (Tryz.prog.cellsOf 3) [c2])=some x2 at h2
  rw [show Tryz.prog.cellsOf 3=1 from by kernel_rfl] at h2
  obtain ⟨a0,_,o0,r0,_⟩:=opens_int Tryz.underlying3 enc w F n _ _ hF h0
  obtain ⟨a1,_,o1,r1,_⟩:=opens_int Tryz.underlying3 enc w F n _ _ hF h1
  obtain ⟨a2,_,o2,r2,_⟩:=opens_int Tryz.underlying3 enc w F n _ _ hF h2
  refine ⟨⟨a0,a1,a2⟩,rfl,?_,?_,fun hw=>trivial⟩
  ·intro v hv
   simp -implicitDefEqProofs (maxSteps:=400000) (maxDischargeDepth:=6) at hv o0 o1 o2
   rcases hv with rfl|rfl|rfl
   ·exact o0
   ·exact o1
   ·exact o2
  ·intro k c hk
   match k,hk with
   |0,hk=>exact r0 0 c (by simpa using hk)
   |1,hk=>exact r1 0 c (by simpa using hk)
   |2,hk=>exact r2 0 c (by simpa using hk)
theorem opens_Elems:OpensL ElemV Tryz.prog 23 (fun l=>l.length*Tryz.prog.bytesOf 44≤reachBytes∧∀a∈l,True):=
 opens_slice Tryz.underlying23 opens_Elem (by kernel_rfl) (by decide)
theorem opens_bool {P:Program} {t:TypeId} (ht:P.underlying t=some .bool) {H:Type} (enc:TypeId×Value→H) (w:World) (F:Tag→Nat→Prop) (fuel:Nat) (cs:List Value) (x:DataW H×List MemPlace)
  (h:DataW.trod enc P w 0 (fun _=>true) true fuel t cs=some x):∃b:Bool,cs=[.bool b]:=by
 obtain ⟨b,rfl,_⟩:=DataW.trod_bool ht h
 exact ⟨b,rfl⟩
end Go.AE
set_option linter.unusedVariables false
set_option linter.unusedSimpArgs false
set_option maxHeartbeats 4000000
set_option maxRecDepth 100000
namespace Go.AE
open Go Go.Proofs
theorem opens_Op:Opens OpV Tryz.prog 46 (fun o=>o.text.length≤reachBytes∧o.gone.length*24≤reachBytes):=by
 intro H enc w F fuel cs x hF h
 obtain ⟨xs,n,_,rfl,hl,hlen,hf⟩:=DataW.trod_struct Tryz.underlying46 h
 rw [show Tryz.prog.cellsOf 46=11 from by kernel_rfl] at hl
 match cs,hl,xs,hlen with
 |[c0,c1,c2,c3,c4,c5,c6,c7,c8,c9,c10],_,[x0,x1,x2,x3,x4,x5,x6,x7,x8],_=>
  have e1:Tryz.prog.cellsOf 3=1:=by kernel_rfl
  have h0:=hf 0 _ rfl
  change DataW.trod enc Tryz.prog w 0 _ true _ 3 (List.take (Tryz.prog.cellsOf 3) [c0,c1,c2,c3,c4,c5,c6,c7,c8,c9,c10])=some x0 at h0
  rw [e1] at h0
  have h1:=hf 1 _ rfl
  change DataW.trod enc Tryz.prog w 0 _ true _ 3 (List.take (Tryz.prog.cellsOf 3) [c1,c2,c3,c4,c5,c6,c7,c8,c9,c10])=some x1 at h1
  rw [e1] at h1
  have h2:=hf 2 _ rfl
  change DataW.trod enc Tryz.prog w 0 _ true _ 3 (List.take (Tryz.prog.cellsOf 3) [c2,c3,c4,c5,c6,c7,c8,c9,c10])=some x2 at h2
  rw [e1] at h2
  have h3:=hf 3 _ rfl
  change DataW.trod enc Tryz.prog w 0 _ true _ 44 (List.take (Tryz.prog.cellsOf 44) [c3,c4,c5,c6,c7,c8,c9,c10])=some x3 at h3
  rw [show Tryz.prog.cellsOf 44=3 from by kernel_rfl] at h3
  have h4:=hf 4 _ rfl
  change DataW.trod enc Tryz.prog w 0 _ true _ 9 (List.take (Tryz.prog.cellsOf 9) [c6,c7,c8,c9,c10])=some x4 at h4
  rw [show Tryz.prog.cellsOf 9=1 from by kernel_rfl] at h4
  have h5:=hf 5 _ rfl
  change DataW.trod enc Tryz.prog w 0 _ true _ 23 (List.take (Tryz.prog.cellsOf 23) [c7,c8,c9,c10])=some x5 at h5
  rw [show Tryz.prog.cellsOf 23=1 from by kernel_rfl] at h5
  have h6:=hf 6 _ rfl
  change DataW.trod enc Tryz.prog w 0 _ true _ 3 (List.take (Tryz.prog.cellsOf 3) [c8,c9,c10])=some x6 at h6
  rw [e1] at h6
  have h7:=hf 7 _ rfl
  change DataW.trod enc Tryz.prog w 0 _ true _ 3 (List.take (Tryz.prog.cellsOf 3) [c9,c10])=some x7 at h7
  rw [e1] at h7
  have h8:=hf 8 _ rfl
  change DataW.trod enc Tryz.prog w 0 _ true _ 3 (List.take (Tryz.prog.cellsOf 3) [c10])=some x8 at h8
  rw [e1] at h8
  obtain ⟨a0,_,o0,r0,_⟩:=opens_int Tryz.underlying3 enc w F n _ _ hF h0
  obtain ⟨a1,_,o1,r1,_⟩:=opens_int Tryz.underlying3 enc w F n _ _ hF h1
  obtain ⟨a2,_,o2,r2,_⟩:=opens_int Tryz.underlying3 enc w F n _ _ hF h2
  obtain ⟨a3,_,o3,r3,_⟩:=opens_Elem enc w F n _ _ hF h3
  obtain ⟨a4,_,o4,r4,s4⟩:=opens_str Tryz.underlying9 enc w F n _ _ hF h4
  obtain ⟨a5,_,o5,r5,s5⟩:=opens_Elems enc w F n _ _ hF h5
  obtain ⟨a6,_,o6,r6,_⟩:=opens_int Tryz.underlying3 enc w F n _ _ hF h6
  obtain ⟨a7,_,o7,r7,_⟩:=opens_int Tryz.underlying3 enc w F n _ _ hF h7
  obtain ⟨a8,_,o8,r8,_⟩:=opens_int Tryz.underlying3 enc w F n _ _ hF h8
  refine ⟨⟨a0,a1,a2,a3,a4,a5,a6,a7,a8⟩,rfl,?_,?_,fun hw=>?_⟩
  ·intro v hv
   simp -implicitDefEqProofs (maxSteps:=400000) (maxDischargeDepth:=6) at hv o0 o1 o2 o3 o4 o5 o6 o7 o8
   rcases hv with rfl|rfl|rfl|rfl|rfl|rfl|rfl|rfl|rfl|rfl|rfl
   ·exact o0
   ·exact o1
   ·exact o2
   ·exact o3.1
   ·exact o3.2.1
   ·exact o3.2.2
   ·exact o4
   ·exact o5
   ·exact o6
   ·exact o7
   ·exact o8
  ·intro k c hk
   match k,hk with
   |0,hk=>exact r0 0 c (by simpa [opRow] using hk)
   |1,hk=>exact r1 0 c (by simpa [opRow] using hk)
   |2,hk=>exact r2 0 c (by simpa [opRow] using hk)
   |3,hk=>exact r3 0 c (by simpa [opRow] using hk)
   |4,hk=>exact r3 1 c (by simpa [opRow] using hk)
   |5,hk=>exact r3 2 c (by simpa [opRow] using hk)
   |6,hk=>exact r4 0 c (by simpa [opRow] using hk)
   |7,hk=>
    simp -implicitDefEqProofs (maxSteps:=400000) (maxDischargeDepth:=6) [opRow] at hk
    subst hk
    exact r5
   |8,hk=>exact r6 0 c (by simpa [opRow] using hk)
   |9,hk=>exact r7 0 c (by simpa [opRow] using hk)
   |10,hk=>exact r8 0 c (by simpa [opRow] using hk)
  ·simp only [DataW.weights,Tryz.underlying46,DataW.weightsEach,List.map_cons,List.map_nil,List.append_nil,List.all_append,Bool.and_eq_true] at hw
   refine ⟨s4 hw.2.2.2.2.1,?_⟩
   have:=(s5 hw.2.2.2.2.2.1).1
   rwa [show Tryz.prog.bytesOf 44=24 from by kernel_rfl] at this
theorem opens_Ops:OpensL OpV Tryz.prog 22 (fun l=>l.length*Tryz.prog.bytesOf 46≤reachBytes∧∀o∈l,o.text.length≤reachBytes∧o.gone.length*24≤reachBytes):=
 opens_slice Tryz.underlying22 opens_Op (by kernel_rfl) (by decide)
theorem opens_Entry:Opens EntryV Tryz.prog 48 (fun e=>e.op.text.length≤reachBytes∧e.op.gone.length*24≤reachBytes):=by
 intro H enc w F fuel cs x hF h
 obtain ⟨xs,n,_,rfl,hl,hlen,hf⟩:=DataW.trod_struct Tryz.underlying48 h
 rw [show Tryz.prog.cellsOf 48=13 from by kernel_rfl] at hl
 match cs,hl,xs,hlen with
 |[b0,b1,c0,c1,c2,c3,c4,c5,c6,c7,c8,c9,c10],_,[x0,x1,x2],_=>
  have h0:=hf 0 _ rfl
  change DataW.trod enc Tryz.prog w 0 _ true _ 4 (List.take (Tryz.prog.cellsOf 4) [b0,b1,c0,c1,c2,c3,c4,c5,c6,c7,c8,c9,c10])=some x0 at h0
  rw [show Tryz.prog.cellsOf 4=1 from by kernel_rfl] at h0
  have h1:=hf 1 _ rfl
  change DataW.trod enc Tryz.prog w 0 _ true _ 3 (List.take (Tryz.prog.cellsOf 3) [b1,c0,c1,c2,c3,c4,c5,c6,c7,c8,c9,c10])=some x1 at h1
  rw [show Tryz.prog.cellsOf 3=1 from by kernel_rfl] at h1
  have h2:=hf 2 _ rfl
  change DataW.trod enc Tryz.prog w 0 _ true _ 46 (List.take (Tryz.prog.cellsOf 46) [c0,c1,c2,c3,c4,c5,c6,c7,c8,c9,c10])=some x2 at h2
  rw [show Tryz.prog.cellsOf 46=11 from by kernel_rfl] at h2
  obtain ⟨j,hj⟩:=opens_bool Tryz.underlying4 enc w F n _ _ h0
  obtain ⟨a1,_,o1,r1,_⟩:=opens_int Tryz.underlying3 enc w F n _ _ hF h1
  obtain ⟨o,_,o2,r2,s2⟩:=opens_Op enc w F n _ _ hF h2
  simp -implicitDefEqProofs (maxSteps:=400000) (maxDischargeDepth:=6) at hj
  subst hj
  refine ⟨⟨j,a1,o⟩,rfl,?_,?_,fun hw=>?_⟩
  ·intro v hv
   rcases List.mem_cons.1 hv with rfl|hv
   ·rfl
   rcases List.mem_cons.1 hv with rfl|hv
   ·simp -implicitDefEqProofs (maxSteps:=400000) (maxDischargeDepth:=6) at o1;exact o1
   ·exact o2 v hv
  ·intro k c hk
   match k,hk with
   |0,hk=>
    simp -implicitDefEqProofs (maxSteps:=400000) (maxDischargeDepth:=6) [entRow] at hk
    subst hk
    exact .raw _
   |1,hk=>exact r1 0 c (by simpa [entRow] using hk)
   |k+2,hk=>exact r2 k c (by simpa [entRow] using hk)
  ·simp only [DataW.weights,Tryz.underlying48,DataW.weightsEach,List.map_cons,List.map_nil,List.append_nil,List.all_append,Bool.and_eq_true] at hw
   exact s2 hw.2.2
theorem opens_Entries:OpensL EntryV Tryz.prog 34 (fun l=>l.length*Tryz.prog.bytesOf 48≤reachBytes∧∀e∈l,e.op.text.length≤reachBytes∧e.op.gone.length*24≤reachBytes):=
 opens_slice Tryz.underlying34 opens_Entry (by kernel_rfl) (by decide)
end Go.AE
set_option linter.unusedVariables false
set_option linter.unusedSimpArgs false
set_option maxHeartbeats 4000000
set_option maxRecDepth 100000
namespace Go.AE
open Go Go.Proofs
theorem opens_Ask4 {H:Type} (enc:TypeId×Value→H) (w:World) (F:Tag→Nat→Prop) (fuel:Nat) (cs:List Value) (x:DataW H×List MemPlace) (hF:∀b,b<w.heap.size→F .old b) (hF2:∀b,F .old b→F .brw b)
  (h:DataW.trod enc Tryz.prog w 0 (fun _=>true) true fuel 26 cs=some x) :
  ∃(c0 c1 c2:Value) (p:Ask4),cs=[c0,c1,c2]∧RelC w F noHeap noLies (.sl .brw false (rowsE p.ops)) c0∧RelC w F noHeap noLies (.sl .brw false (rowsE p.elems)) c1∧RelC w F noHeap noLies (.sl .brw false (rowsE p.nums)) c2∧
   ((x.1.weights Tryz.prog 26).all (·≤reachBytes)=true→Ask4S p):=by
 obtain ⟨xs,n,_,rfl,hl,hlen,hf⟩:=DataW.trod_struct Tryz.underlying26 h
 rw [show Tryz.prog.cellsOf 26=3 from by kernel_rfl] at hl
 match cs,hl,xs,hlen with
 |[c0,c1,c2],_,[x0,x1,x2],_=>
  have h0:=hf 0 _ rfl
  change DataW.trod enc Tryz.prog w 0 _ true _ 22 (List.take (Tryz.prog.cellsOf 22) [c0,c1,c2])=some x0 at h0
  rw [show Tryz.prog.cellsOf 22=1 from by kernel_rfl] at h0
  have h1:=hf 1 _ rfl
  change DataW.trod enc Tryz.prog w 0 _ true _ 23 (List.take (Tryz.prog.cellsOf 23) [c1,c2])=some x1 at h1
  rw [show Tryz.prog.cellsOf 23=1 from by kernel_rfl] at h1
  have h2:=hf 2 _ rfl
  change DataW.trod enc Tryz.prog w 0 _ true _ 24 (List.take (Tryz.prog.cellsOf 24) [c2])=some x2 at h2
  rw [show Tryz.prog.cellsOf 24=1 from by kernel_rfl] at h2
  obtain ⟨a0,_,_,r0,s0⟩:=opens_Ops enc w F n _ _ hF h0
  obtain ⟨a1,_,_,r1,s1⟩:=opens_Elems enc w F n _ _ hF h1
  obtain ⟨a2,_,_,r2,s2⟩:=opens_Ints enc w F n _ _ hF h2
  refine ⟨c0,c1,c2,⟨a0,a1,a2⟩,rfl,r0.brw hF2,r1.brw hF2,r2.brw hF2,fun hw=>?_⟩
  simp only [DataW.weights,Tryz.underlying26,DataW.weightsEach,List.map_cons,List.map_nil,List.append_nil,List.all_append,Bool.and_eq_true] at hw
  obtain ⟨w0,w1,w2⟩:=hw
  obtain ⟨i0,j0⟩:=s0 w0
  obtain ⟨i1,_⟩:=s1 w1
  obtain ⟨i2,_⟩:=s2 w2
  rw [show Tryz.prog.bytesOf 46=112 from by kernel_rfl] at i0
  rw [show Tryz.prog.bytesOf 44=24 from by kernel_rfl] at i1
  rw [show Tryz.prog.bytesOf 3=8 from by kernel_rfl] at i2
  have hr:reachBytes=140737488351232:=rfl
  rw [hr] at i0 i1 i2 j0
  exact ⟨by simp -implicitDefEqProofs (maxSteps:=400000) (maxDischargeDepth:=6);omega,fun o ho=>by have:=j0 o ho;omega,by simp -implicitDefEqProofs (maxSteps:=400000) (maxDischargeDepth:=6);omega,by simp -implicitDefEqProofs (maxSteps:=400000) (maxDischargeDepth:=6);omega⟩
theorem opens_AskD {H:Type} (enc:TypeId×Value→H) (w:World) (F:Tag→Nat→Prop) (fuel:Nat) (cs:List Value) (x:DataW H×List MemPlace) (hF:∀b,b<w.heap.size→F .old b) (hF2:∀b,F .old b→F .brw b)
  (h:DataW.trod enc Tryz.prog w 0 (fun _=>true) true fuel 36 cs=some x) (hw:(x.1.weights Tryz.prog 36).all (·≤reachBytes)=true) :
  ∃p:AskD,AskS p∧RelV w F noHeap noLies (.g (askRow p)) (.agg cs.toArray):=by
 obtain ⟨xs,n,_,rfl,hl,hlen,hf⟩:=DataW.trod_struct Tryz.underlying36 h
 rw [show Tryz.prog.cellsOf 36=9 from by kernel_rfl] at hl
 match cs,hl,xs,hlen with
 |[c0,c1,c2,c3,c4,c5,c6,c7,c8],_,[x0,x1,x2,x3],_=>
  have h0:=hf 0 _ rfl
  change DataW.trod enc Tryz.prog w 0 _ true _ 26 (List.take (Tryz.prog.cellsOf 26) [c0,c1,c2,c3,c4,c5,c6,c7,c8])=some x0 at h0
  rw [show Tryz.prog.cellsOf 26=3 from by kernel_rfl] at h0
  have h1:=hf 1 _ rfl
  change DataW.trod enc Tryz.prog w 0 _ true _ 33 (List.take (Tryz.prog.cellsOf 33) [c3,c4,c5,c6,c7,c8])=some x1 at h1
  rw [show Tryz.prog.cellsOf 33=4 from by kernel_rfl] at h1
  have h2:=hf 2 _ rfl
  change DataW.trod enc Tryz.prog w 0 _ true _ 34 (List.take (Tryz.prog.cellsOf 34) [c7,c8])=some x2 at h2
  rw [show Tryz.prog.cellsOf 34=1 from by kernel_rfl] at h2
  have h3:=hf 3 _ rfl
  change DataW.trod enc Tryz.prog w 0 _ true _ 24 (List.take (Tryz.prog.cellsOf 24) [c8])=some x3 at h3
  rw [show Tryz.prog.cellsOf 24=1 from by kernel_rfl] at h3
  simp only [DataW.weights,Tryz.underlying36,DataW.weightsEach,List.map_cons,List.map_nil,List.append_nil,List.all_append,Bool.and_eq_true] at hw
  obtain ⟨w0,w1,w2,w3⟩:=hw
  obtain ⟨q0,q1,q2,p4,hq,r0,r1,r2,s4⟩:=opens_Ask4 enc w F n _ _ hF hF2 h0
  simp -implicitDefEqProofs (maxSteps:=400000) (maxDischargeDepth:=6) at hq
  obtain ⟨rfl,rfl,rfl⟩:=hq
  obtain ⟨ps,sS,rS⟩:=opens_Script enc w F n _ _ hF hF2 h1 w1
  obtain ⟨es,_,_,r7,s7⟩:=opens_Entries enc w F n _ _ hF h2
  obtain ⟨ns,_,_,r8,s8⟩:=opens_Ints enc w F n _ _ hF h3
  obtain ⟨i7,j7⟩:=s7 w2
  obtain ⟨i8,j8⟩:=s8 w3
  rw [show Tryz.prog.bytesOf 48=128 from by kernel_rfl] at i7
  rw [show Tryz.prog.bytesOf 3=8 from by kernel_rfl] at i8
  have hr:reachBytes=140737488351232:=rfl
  rw [hr] at i7 i8 j7
  refine ⟨⟨p4,ps,es,ns⟩,⟨s4 w0,sS,by simp -implicitDefEqProofs (maxSteps:=400000) (maxDischargeDepth:=6);omega,fun e he=>by have:=j7 e he;omega,by simp -implicitDefEqProofs (maxSteps:=400000) (maxDischargeDepth:=6);omega,j8⟩,?_⟩
  have gS:∀(k:Nat) c,[AC.sl .brw false (rowsE ps.d.safe),.sl .brw false (rowsE ps.d.wait),.raw (.int .i64 ps.n),.sl .brw false (rowsE ps.l)][k]?=some c→RelC w F noHeap noLies c ((List.take 4 [c3,c4,c5,c6,c7,c8]).getD k undef):=by
   cases rS with
   |g _ _ hlen hrel=>simpa using hrel
  refine .g _ _ rfl fun k c hk=>?_
  match k,hk with
  |0,hk=>simp -implicitDefEqProofs (maxSteps:=400000) (maxDischargeDepth:=6) [askRow] at hk;subst hk;exact r0
  |1,hk=>simp -implicitDefEqProofs (maxSteps:=400000) (maxDischargeDepth:=6) [askRow] at hk;subst hk;exact r1
  |2,hk=>simp -implicitDefEqProofs (maxSteps:=400000) (maxDischargeDepth:=6) [askRow] at hk;subst hk;exact r2
  |3,hk=>simp -implicitDefEqProofs (maxSteps:=400000) (maxDischargeDepth:=6) [askRow] at hk;subst hk;exact gS 0 _ rfl
  |4,hk=>simp -implicitDefEqProofs (maxSteps:=400000) (maxDischargeDepth:=6) [askRow] at hk;subst hk;exact gS 1 _ rfl
  |5,hk=>simp -implicitDefEqProofs (maxSteps:=400000) (maxDischargeDepth:=6) [askRow] at hk;subst hk;exact gS 2 _ rfl
  |6,hk=>simp -implicitDefEqProofs (maxSteps:=400000) (maxDischargeDepth:=6) [askRow] at hk;subst hk;exact gS 3 _ rfl
  |7,hk=>simp -implicitDefEqProofs (maxSteps:=400000) (maxDischargeDepth:=6) [askRow] at hk;subst hk;exact r7.brw hF2
  |8,hk=>simp -implicitDefEqProofs (maxSteps:=400000) (maxDischargeDepth:=6) [askRow] at hk;subst hk;exact r8.brw hF2
end Go.AE
namespace Go.AE
end Go.AE
