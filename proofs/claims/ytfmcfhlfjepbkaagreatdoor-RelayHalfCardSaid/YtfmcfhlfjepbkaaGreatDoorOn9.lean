/- RelayHalf: crashed ahead of its sync. -/
import Derived.Test.YtfmcfhlfjepbkaaGreatDoorOn8
set_option linter.unusedVariables false
set_option linter.unusedSimpArgs false
set_option maxHeartbeats 4000000
set_option maxRecDepth 100000
namespace Go.AE
open Go Go.Proofs
instance f3i:Enc a1A where
 w:=7
 row m:=[.raw (.int .i64 m.kind),.raw (.int .i64 m.site),.raw (.int .i64 m.a0N),.raw (.int .i64 m.known),.raw (.int .i64 m.seq),.raw (.int .i64 m.err),.sl .old false (a0a m.ops)]
 dec|[.raw (.int .i64 m1),.raw (.int .i64 m2),.raw (.int .i64 m3),.raw (.int .i64 m4),.raw (.int .i64 m5),.raw (.int .i64 m6),.sl .old false l]=>(match a3T l with|some l=>some ⟨m1,m2,m3,m4,m5,m6,l⟩|_=>none)|_=>none
 a3J a:=by simp
 a3x {r a} h:=by
  split at h
  ·split at h
   ·rename_i h1
    cases h
    rw [a0K h1]
   ·cases h
  ·cases h
 len _:=rfl
 old a c hc:=by
  simp at hc
  rcases hc with rfl|rfl|rfl|rfl|rfl|rfl|rfl
  iterate 6 exact .raw _
  all_goals rw [a5c];simp
 ret a c hc:=by
  simp at hc
  rcases hc with rfl|rfl|rfl|rfl|rfl|rfl|rfl
  iterate 6 exact .raw _
  all_goals rw [a30];simp
@[simp] theorem f06 (m:a1A):Enc.row m=[AC.raw (.int .i64 m.kind),.raw (.int .i64 m.site),.raw (.int .i64 m.a0N),.raw (.int .i64 m.known),.raw (.int .i64 m.seq),.raw (.int .i64 m.err),.sl .old false (a0a m.ops)]:=rfl
@[simp] theorem f7p:Enc.w a1A=7:=rfl
theorem c4W:b5v a1A Tryz.prog 38 (fun a=>a.ops.length*112<=reachBytes/\∀o∈a.ops,o.text.length<=reachBytes/\o.gone.length*24<=reachBytes):=by
 intro H enc w F fuel cs x hF h
 obtain ⟨xs,n,_,rfl,hl,hlen,hf⟩:=DataW.trod_struct Tryz.underlying38 h
 rw [show Tryz.prog.cellsOf 38=7 from by kernel_rfl] at hl
 match cs,hl,xs,hlen with
 |[c0,c1,c2,c3,c4,c5,c6],_,[x0,x1,x2,x3,x4,x5,x6],_=>
  have h0:=hf 0 _ rfl
  change DataW.trod enc Tryz.prog w 0 _ true _ 3 (List.take (Tryz.prog.cellsOf 3) [c0,c1,c2,c3,c4,c5,c6])=some x0 at h0
  rw [show Tryz.prog.cellsOf 3=1 from by kernel_rfl] at h0
  have h1:=hf 1 _ rfl
  change DataW.trod enc Tryz.prog w 0 _ true _ 3 (List.take (Tryz.prog.cellsOf 3) [c1,c2,c3,c4,c5,c6])=some x1 at h1
  rw [show Tryz.prog.cellsOf 3=1 from by kernel_rfl] at h1
  have h2:=hf 2 _ rfl
  change DataW.trod enc Tryz.prog w 0 _ true _ 3 (List.take (Tryz.prog.cellsOf 3) [c2,c3,c4,c5,c6])=some x2 at h2
  rw [show Tryz.prog.cellsOf 3=1 from by kernel_rfl] at h2
  have h3:=hf 3 _ rfl
  change DataW.trod enc Tryz.prog w 0 _ true _ 3 (List.take (Tryz.prog.cellsOf 3) [c3,c4,c5,c6])=some x3 at h3
  rw [show Tryz.prog.cellsOf 3=1 from by kernel_rfl] at h3
  have h4:=hf 4 _ rfl
  change DataW.trod enc Tryz.prog w 0 _ true _ 3 (List.take (Tryz.prog.cellsOf 3) [c4,c5,c6])=some x4 at h4
  rw [show Tryz.prog.cellsOf 3=1 from by kernel_rfl] at h4
  have h5:=hf 5 _ rfl
  change DataW.trod enc Tryz.prog w 0 _ true _ 36 (List.take (Tryz.prog.cellsOf 36) [c5,c6])=some x5 at h5
  rw [show Tryz.prog.cellsOf 36=1 from by kernel_rfl] at h5
  have h6:=hf 6 _ rfl
  change DataW.trod enc Tryz.prog w 0 _ true _ 26 (List.take (Tryz.prog.cellsOf 26) [c6])=some x6 at h6
  rw [show Tryz.prog.cellsOf 26=1 from by kernel_rfl] at h6
  obtain ⟨a0,_,o0,r0,s0⟩:=a1h Tryz.underlying3 enc w F n _ _ hF h0
  obtain ⟨a1,_,o1,r1,s1⟩:=a1h Tryz.underlying3 enc w F n _ _ hF h1
  obtain ⟨a2,_,o2,r2,s2⟩:=a1h Tryz.underlying3 enc w F n _ _ hF h2
  obtain ⟨a3,_,o3,r3,s3⟩:=a1h Tryz.underlying3 enc w F n _ _ hF h3
  obtain ⟨a4,_,o4,r4,s4⟩:=a1h Tryz.underlying3 enc w F n _ _ hF h4
  obtain ⟨a5,_,o5,r5,s5⟩:=a1h Tryz.underlying36 enc w F n _ _ hF h5
  obtain ⟨a6,_,o6,r6,s6⟩:=b0l enc w F n _ _ hF h6
  refine ⟨⟨a0,a1,a2,a3,a4,a5,a6⟩,rfl,?_,?_,fun hw=>?_⟩
  ·intro v hv
   simp at hv o0 o1 o2 o3 o4 o5 o6
   rcases hv with rfl|rfl|rfl|rfl|rfl|rfl|rfl
   ·exact o0
   ·exact o1
   ·exact o2
   ·exact o3
   ·exact o4
   ·exact o5
   ·exact o6
  ·intro k c hk
   match k,hk with
   |0,hk=>exact r0 0 c (by simpa using hk)
   |1,hk=>exact r1 0 c (by simpa using hk)
   |2,hk=>exact r2 0 c (by simpa using hk)
   |3,hk=>exact r3 0 c (by simpa using hk)
   |4,hk=>exact r4 0 c (by simpa using hk)
   |5,hk=>exact r5 0 c (by simpa using hk)
   |6,hk=>
    simp at hk
    subst hk
    exact r6
  ·simp only [DataW.weights,Tryz.underlying38,DataW.weightsEach,List.map_cons,List.map_nil,List.append_nil,List.all_append,Bool.and_eq_true] at hw
   have:=s6 hw.2.2.2.2.2.2
   rw [show Tryz.prog.bytesOf 53=112 from by kernel_rfl] at this
   exact this
theorem c1p:b5v b0J Tryz.prog 42 (fun a=>(a.m.ops.length*112<=reachBytes/\∀o∈a.m.ops,o.text.length<=reachBytes/\o.gone.length*24<=reachBytes)/\a.k.length*8<=reachBytes):=by
 intro H enc w F fuel cs x hF h
 obtain ⟨xs,n,_,rfl,hl,hlen,hf⟩:=DataW.trod_struct Tryz.underlying42 h
 rw [show Tryz.prog.cellsOf 42=9 from by kernel_rfl] at hl
 match cs,hl,xs,hlen with
 |[c0,c1,c2,c3,c4,c5,c6,c7,c8],_,[x0,x1,x2],_=>
  have h0:=hf 0 _ rfl
  change DataW.trod enc Tryz.prog w 0 _ true _ 3 (List.take (Tryz.prog.cellsOf 3) [c0,c1,c2,c3,c4,c5,c6,c7,c8])=some x0 at h0
  rw [show Tryz.prog.cellsOf 3=1 from by kernel_rfl] at h0
  have h1:=hf 1 _ rfl
  change DataW.trod enc Tryz.prog w 0 _ true _ 38 (List.take (Tryz.prog.cellsOf 38) [c1,c2,c3,c4,c5,c6,c7,c8])=some x1 at h1
  rw [show Tryz.prog.cellsOf 38=7 from by kernel_rfl] at h1
  have h2:=hf 2 _ rfl
  change DataW.trod enc Tryz.prog w 0 _ true _ 27 (List.take (Tryz.prog.cellsOf 27) [c8])=some x2 at h2
  rw [show Tryz.prog.cellsOf 27=1 from by kernel_rfl] at h2
  obtain ⟨a0,_,o0,r0,s0⟩:=a1h Tryz.underlying3 enc w F n _ _ hF h0
  obtain ⟨a1,_,o1,r1,s1⟩:=c4W enc w F n _ _ hF h1
  obtain ⟨a2,_,o2,r2,s2⟩:=a8o enc w F n _ _ hF h2
  refine ⟨⟨a0,a1,a2⟩,rfl,?_,?_,fun hw=>?_⟩
  ·intro v hv
   simp at hv o0 o1 o2
   rcases hv with rfl|rfl|rfl|rfl|rfl|rfl|rfl|rfl|rfl
   ·exact o0
   ·simp [o1]
   ·simp [o1]
   ·simp [o1]
   ·simp [o1]
   ·simp [o1]
   ·simp [o1]
   ·simp [o1]
   ·exact o2
  ·intro k c hk
   match k,hk with
   |0,hk=>exact r0 0 c (by simpa using hk)
   |1,hk=>exact r1 0 c (by simpa using hk)
   |2,hk=>exact r1 1 c (by simpa using hk)
   |3,hk=>exact r1 2 c (by simpa using hk)
   |4,hk=>exact r1 3 c (by simpa using hk)
   |5,hk=>exact r1 4 c (by simpa using hk)
   |6,hk=>exact r1 5 c (by simpa using hk)
   |7,hk=>exact r1 6 c (by simpa using hk)
   |8,hk=>
    simp at hk
    subst hk
    exact r2
  ·simp only [DataW.weights,Tryz.underlying42,DataW.weightsEach,List.map_cons,List.map_nil,List.append_nil,List.all_append,Bool.and_eq_true] at hw
   have:=(s2 hw.2.2).1
   rw [show Tryz.prog.bytesOf 3=8 from by kernel_rfl] at this
   exact ⟨s1 hw.2.1,this⟩
theorem b0m:a9G b0J Tryz.prog 30 (fun l=>l.length*Tryz.prog.bytesOf 42<=reachBytes/\∀a∈l,(a.m.ops.length*112<=reachBytes/\∀o∈a.m.ops,o.text.length<=reachBytes/\o.gone.length*24<=reachBytes)/\a.k.length*8<=reachBytes):=
 a3F Tryz.underlying30 c1p (by kernel_rfl) (by decide)
theorem b1Q {H:Type} (enc:TypeId×Value->H) (w:World) (F:Tag->Nat->Prop) (fuel:Nat) (cs:List Value) (x:DataW H×List MemPlace) (hF:∀b,b<w.heap.size->F .old b) (hF2:∀b,F .old b->F .brw b)
  (h:DataW.trod enc Tryz.prog w 0 (fun _=>true) true fuel 32 cs=some x) (hw:(x.1.weights Tryz.prog 32).all (·<=reachBytes)=true) :
  ∃p:a3n,a48 p/\a3o w F a0t a0Q (.g (a0i p)) (.agg cs.toArray):=by
 obtain ⟨xs,n,_,rfl,hl,hlen,hf⟩:=DataW.trod_struct Tryz.underlying32 h
 rw [show Tryz.prog.cellsOf 32=6 from by kernel_rfl] at hl
 match cs,hl,xs,hlen with
 |[c0,c1,c2,c3,c4,c5],_,[x0,x1,x2],_=>
  have h0:=hf 0 _ rfl
  change DataW.trod enc Tryz.prog w 0 _ true _ 29 (List.take (Tryz.prog.cellsOf 29) [c0,c1,c2,c3,c4,c5])=some x0 at h0
  rw [show Tryz.prog.cellsOf 29=4 from by kernel_rfl] at h0
  have h1:=hf 1 _ rfl
  change DataW.trod enc Tryz.prog w 0 _ true _ 3 (List.take (Tryz.prog.cellsOf 3) [c4,c5])=some x1 at h1
  rw [show Tryz.prog.cellsOf 3=1 from by kernel_rfl] at h1
  have h2:=hf 2 _ rfl
  change DataW.trod enc Tryz.prog w 0 _ true _ 30 (List.take (Tryz.prog.cellsOf 30) [c5])=some x2 at h2
  rw [show Tryz.prog.cellsOf 30=1 from by kernel_rfl] at h2
  obtain ⟨ys,m,_,hx0,hl',hlen',hf'⟩:=DataW.trod_struct Tryz.underlying29 h0
  obtain ⟨a1,_,o1,r1,s1⟩:=a1h Tryz.underlying3 enc w F n _ _ hF h1
  obtain ⟨a2,_,o2,r2,s2⟩:=b0m enc w F n _ _ hF h2
  match ys,hlen' with
  |[y0,y1,y2],_=>
   have g0:=hf' 0 _ rfl
   change DataW.trod enc Tryz.prog w 0 _ true _ 25 (List.take (Tryz.prog.cellsOf 25) [c0,c1,c2,c3])=some y0 at g0
   rw [show Tryz.prog.cellsOf 25=2 from by kernel_rfl] at g0
   have g1:=hf' 1 _ rfl
   change DataW.trod enc Tryz.prog w 0 _ true _ 26 (List.take (Tryz.prog.cellsOf 26) [c2,c3])=some y1 at g1
   rw [show Tryz.prog.cellsOf 26=1 from by kernel_rfl] at g1
   have g2:=hf' 2 _ rfl
   change DataW.trod enc Tryz.prog w 0 _ true _ 27 (List.take (Tryz.prog.cellsOf 27) [c3])=some y2 at g2
   rw [show Tryz.prog.cellsOf 27=1 from by kernel_rfl] at g2
   obtain ⟨zs,m',_,hy0,hl2,hlen2,hf2⟩:=DataW.trod_struct Tryz.underlying25 g0
   obtain ⟨b2,_,p2,q2,z2⟩:=b0l enc w F m _ _ hF g1
   obtain ⟨b3,_,p3,q3,z3⟩:=a8o enc w F m _ _ hF g2
   match zs,hlen2 with
   |[u0,u1],_=>
    have k0:=hf2 0 _ rfl
    change DataW.trod enc Tryz.prog w 0 _ true _ 22 (List.take (Tryz.prog.cellsOf 22) [c0,c1])=some u0 at k0
    rw [show Tryz.prog.cellsOf 22=1 from by kernel_rfl] at k0
    have k1:=hf2 1 _ rfl
    change DataW.trod enc Tryz.prog w 0 _ true _ 23 (List.take (Tryz.prog.cellsOf 23) [c1])=some u1 at k1
    rw [show Tryz.prog.cellsOf 23=1 from by kernel_rfl] at k1
    obtain ⟨b0,_,p0,q0,z0⟩:=b1M enc w F m' _ _ hF k0
    obtain ⟨b1,_,p1,q1,z1⟩:=b0f enc w F m' _ _ hF k1
    simp only [DataW.weights,Tryz.underlying32,Tryz.underlying29,Tryz.underlying25,DataW.weightsEach,List.map_cons,List.map_nil,List.append_nil,List.all_append,Bool.and_eq_true,hx0,hy0] at hw
    obtain ⟨⟨⟨w0,w1⟩,w2,w3⟩,_,w5⟩:=hw
    obtain ⟨i0,j0⟩:=z0 w0
    obtain ⟨i1,j1⟩:=z1 w1
    obtain ⟨i2,j2⟩:=z2 w2
    obtain ⟨i3,j3⟩:=z3 w3
    obtain ⟨i5,j5⟩:=s2 w5
    rw [show Tryz.prog.bytesOf 9=16 from by kernel_rfl] at i0
    rw [show Tryz.prog.bytesOf 125=24 from by kernel_rfl] at i1
    rw [show Tryz.prog.bytesOf 53=112 from by kernel_rfl] at i2
    rw [show Tryz.prog.bytesOf 3=8 from by kernel_rfl] at i3
    rw [show Tryz.prog.bytesOf 42=104 from by kernel_rfl] at i5
    have hr:reachBytes=140737488351232:=rfl
    rw [hr] at i0 i1 i2 i3 i5 j0 j1 j2 j5
    refine ⟨⟨⟨⟨b0,b1⟩,b2,b3⟩,a1,a2⟩,⟨⟨by simp;omega,fun s hs=>by have:=j0 s hs;omega⟩,⟨by simp;omega,fun s hs=>by have:=j1 s hs;omega⟩,⟨by simp;omega,fun s hs=>by have:=j2 s hs;omega⟩,by simp;omega,by simp;omega,fun a ha=>?_⟩,?_⟩
    ·obtain ⟨⟨t1,t2⟩,t3⟩:=j5 a ha
     exact ⟨⟨by omega,fun o ho=>by have:=t2 o ho;omega⟩,by omega⟩
    ·refine .g _ _ rfl fun k c hk=>?_
     match k,hk with
     |0,hk=>simp [a0i] at hk;subst hk;exact q0.brw hF2
     |1,hk=>simp [a0i] at hk;subst hk;exact q1.brw hF2
     |2,hk=>simp [a0i] at hk;subst hk;exact q2.brw hF2
     |3,hk=>simp [a0i] at hk;subst hk;exact q3.brw hF2
     |4,hk=>exact r1 0 c (by simpa [a0i] using hk)
     |5,hk=>simp [a0i] at hk;subst hk;exact r2.brw hF2
open Go Go.Proofs
theorem b0n {H:Type} (enc:TypeId×Value->H) (w:World) (F:Tag->Nat->Prop) (fuel:Nat) (cs:List Value) (x:DataW H×List MemPlace) (hF:∀b,b<w.heap.size->F .old b) (hF2:∀b,F .old b->F .brw b)
  (h:DataW.trod enc Tryz.prog w 0 (fun _=>true) true fuel 32 cs=some x) (hw:(x.1.weights Tryz.prog 32).all (·<=reachBytes)=true) :
  ∃p:a3n,(a48 p/\p.l.length*104<=140737488351232)/\a3o w F a0t a0Q (.g (a2u p)) (.agg cs.toArray):=by
 obtain ⟨xs,n,_,rfl,hl,hlen,hf⟩:=DataW.trod_struct Tryz.underlying32 h
 rw [show Tryz.prog.cellsOf 32=6 from by kernel_rfl] at hl
 match cs,hl,xs,hlen with
 |[c0,c1,c2,c3,c4,c5],_,[x0,x1,x2],_=>
  have h0:=hf 0 _ rfl
  change DataW.trod enc Tryz.prog w 0 _ true _ 29 (List.take (Tryz.prog.cellsOf 29) [c0,c1,c2,c3,c4,c5])=some x0 at h0
  rw [show Tryz.prog.cellsOf 29=4 from by kernel_rfl] at h0
  have h1:=hf 1 _ rfl
  change DataW.trod enc Tryz.prog w 0 _ true _ 3 (List.take (Tryz.prog.cellsOf 3) [c4,c5])=some x1 at h1
  rw [show Tryz.prog.cellsOf 3=1 from by kernel_rfl] at h1
  have h2:=hf 2 _ rfl
  change DataW.trod enc Tryz.prog w 0 _ true _ 30 (List.take (Tryz.prog.cellsOf 30) [c5])=some x2 at h2
  rw [show Tryz.prog.cellsOf 30=1 from by kernel_rfl] at h2
  obtain ⟨ys,m,_,hx0,hl',hlen',hf'⟩:=DataW.trod_struct Tryz.underlying29 h0
  obtain ⟨a1,_,o1,r1,s1⟩:=a1h Tryz.underlying3 enc w F n _ _ hF h1
  obtain ⟨a2,_,o2,r2,s2⟩:=b0m enc w F n _ _ hF h2
  match ys,hlen' with
  |[y0,y1,y2],_=>
   have g0:=hf' 0 _ rfl
   change DataW.trod enc Tryz.prog w 0 _ true _ 25 (List.take (Tryz.prog.cellsOf 25) [c0,c1,c2,c3])=some y0 at g0
   rw [show Tryz.prog.cellsOf 25=2 from by kernel_rfl] at g0
   have g1:=hf' 1 _ rfl
   change DataW.trod enc Tryz.prog w 0 _ true _ 26 (List.take (Tryz.prog.cellsOf 26) [c2,c3])=some y1 at g1
   rw [show Tryz.prog.cellsOf 26=1 from by kernel_rfl] at g1
   have g2:=hf' 2 _ rfl
   change DataW.trod enc Tryz.prog w 0 _ true _ 27 (List.take (Tryz.prog.cellsOf 27) [c3])=some y2 at g2
   rw [show Tryz.prog.cellsOf 27=1 from by kernel_rfl] at g2
   obtain ⟨zs,m',_,hy0,hl2,hlen2,hf2⟩:=DataW.trod_struct Tryz.underlying25 g0
   obtain ⟨b2,_,p2,q2,z2⟩:=b0l enc w F m _ _ hF g1
   obtain ⟨b3,_,p3,q3,z3⟩:=a8o enc w F m _ _ hF g2
   match zs,hlen2 with
   |[u0,u1],_=>
    have k0:=hf2 0 _ rfl
    change DataW.trod enc Tryz.prog w 0 _ true _ 22 (List.take (Tryz.prog.cellsOf 22) [c0,c1])=some u0 at k0
    rw [show Tryz.prog.cellsOf 22=1 from by kernel_rfl] at k0
    have k1:=hf2 1 _ rfl
    change DataW.trod enc Tryz.prog w 0 _ true _ 23 (List.take (Tryz.prog.cellsOf 23) [c1])=some u1 at k1
    rw [show Tryz.prog.cellsOf 23=1 from by kernel_rfl] at k1
    obtain ⟨b0,_,p0,q0,z0⟩:=b1M enc w F m' _ _ hF k0
    obtain ⟨b1,_,p1,q1,z1⟩:=b0f enc w F m' _ _ hF k1
    simp only [DataW.weights,Tryz.underlying32,Tryz.underlying29,Tryz.underlying25,DataW.weightsEach,List.map_cons,List.map_nil,List.append_nil,List.all_append,Bool.and_eq_true,hx0,hy0] at hw
    obtain ⟨⟨⟨w0,w1⟩,w2,w3⟩,_,w5⟩:=hw
    obtain ⟨i0,j0⟩:=z0 w0
    obtain ⟨i1,j1⟩:=z1 w1
    obtain ⟨i2,j2⟩:=z2 w2
    obtain ⟨i3,j3⟩:=z3 w3
    obtain ⟨i5,j5⟩:=s2 w5
    rw [show Tryz.prog.bytesOf 9=16 from by kernel_rfl] at i0
    rw [show Tryz.prog.bytesOf 125=24 from by kernel_rfl] at i1
    rw [show Tryz.prog.bytesOf 53=112 from by kernel_rfl] at i2
    rw [show Tryz.prog.bytesOf 3=8 from by kernel_rfl] at i3
    rw [show Tryz.prog.bytesOf 42=104 from by kernel_rfl] at i5
    have hr:reachBytes=140737488351232:=rfl
    rw [hr] at i0 i1 i2 i3 i5 j0 j1 j2 j5
    refine ⟨⟨⟨⟨b0,b1⟩,b2,b3⟩,a1,a2⟩,⟨⟨⟨by simp;omega,fun s hs=>by have:=j0 s hs;omega⟩,⟨by simp;omega,fun s hs=>by have:=j1 s hs;omega⟩,⟨by simp;omega,fun s hs=>by have:=j2 s hs;omega⟩,by simp;omega,by simp;omega,fun a ha=>?_⟩,by simpa using i5⟩,?_⟩
    ·obtain ⟨⟨t1,t2⟩,t3⟩:=j5 a ha
     exact ⟨⟨by omega,fun o ho=>by have:=t2 o ho;omega⟩,by omega⟩
    ·refine .g _ _ rfl fun k c hk=>?_
     match k,hk with
     |0,hk=>simp [a2u] at hk;subst hk;exact q0
     |1,hk=>simp [a2u] at hk;subst hk;exact q1
     |2,hk=>simp [a2u] at hk;subst hk;exact q2
     |3,hk=>simp [a2u] at hk;subst hk;exact q3
     |4,hk=>exact r1 0 c (by simpa [a2u] using hk)
     |5,hk=>simp [a2u] at hk;subst hk;exact r2
theorem c8D (p:a3n) (ks:List Int) (h:a48 p):a48 (c1o p ks):=
 ⟨h.safe,h.wait,h.ops,h.ends,Nat.lt_of_le_of_lt (List.length_filter_le _ _) h.l,fun a ha=>h.acts a (List.mem_filter.1 ha).1⟩
def c4X:List AV->Option (Prop×AV):=t1 (fun p:a3n=>a48 p) fun _=>bv true
@[simp] theorem f07 {l:List AV}:c4X l=(t1 (fun p:a3n=>a48 p) fun _=>bv true) l:=(rfl)
def FY3:CT:=(3,.pu c4X)::FY2
theorem d9y:a1k Tryz.prog FY3:=⟨a0n fun p h=>a8P p h,c4U⟩
@[simp] theorem e38:a0b FY3 3=some (.pu c4X):=(rfl)
@[simp] theorem e39 {n:Nat} (h:(n==3)=false):a0b FY3 n=a0b FY2 n:=by
 simp only [Bool.or_eq_false_iff,beq_eq_false_iff_ne,ne_eq] at h
 simp [FY3,a0b,h]
theorem b0K (p:a3n) (hp:a48 p/\p.l.length*104<=140737488351232):PEv Tryz.prog 4 [.g (a2u p)] (bv true):=by
 have h1:=c4V p [4] hp.2 (by simp)
 have h2:=c8D p [4] hp.1
 generalize hq:c1o p [4]=q at *
 refine a6h mixed d9y Tryz.func4 sl4 ok4 (by kernel_rfl) (by simp [a2u]) (by simp [a2u]) ?_
 unfold s4
 simp only [a2u]
 refine a1t ?_
 simp
 refine a1f (args':=[.g (a0i p),.c (.sl .brw false (a0a [(4:Int)]))]) ?_ h1 (by simp [a2u]) (by simp [a2u]) ?_
 ·simp [a0i,a4G]
 ·simp [a2u]
  refine ⟨h2,a0A (mkS [(2,bv true)] []) (a0c rfl ?_) ?_⟩<;>simp
open Go
structure Half (r:a0r) (m:a1A):Prop where
 err:(a5p r m).2=0
 safe:(a5p r m).1.safe.length<=400/\(a5p r m).1.wait.length<=400
 f7K:∀keep,∃y:a0l,a4W (a5p r m).1 keep=(y,0)/\y.safe.length<=400/\y.wait.length<=400/\(a6u y=(r,0)\/a6u y=((a1s r m).1,0))
theorem half {r:a0r} {m:a1A} (hf:a4j r m=true) {es:List a0k} {k:Nat} (hI:a6D r es k):Half r m:=by
 have hd:=hI.disk
 have hsz:=hI.sz
 have hl:r.disk.safe.length<=400:=by rw [hd];simp;omega
 have hw:r.disk.wait=[]:=by rw [hd]
 have same:∀keep,a4W r.disk keep=(r.disk,0):=fun keep=>by
  rw [a7I hI.may,hw]
  simp only [a1D]
  rw [<-hw]
 have no:a5p r m=(r.disk,0)->Half r m:=fun e=>by
  refine ⟨by rw [e],by rw [e];exact ⟨hl,by simp [hw]⟩,fun keep=>⟨r.disk,by rw [e];exact same keep,hl,by simp [hw],.inl (b6m hI)⟩⟩
 rcases took hf hI with ⟨g1,e,e2⟩|⟨g1,hp,e,e2⟩|⟨g1,hp,hx,hc,hs,hI',e0,e,e2⟩
 ·exact no e2
 ·exact no e2
 ·have hsx:=(a5X hx.2).2.1
  obtain ⟨c1,c2,_⟩:=a8m hf g1
  have hcr:=b6k hI hx.2 hc
  have ho:=c4D hI hx hc c2
  rw [hp] at e2
  refine ⟨by rw [e2],by rw [e2];exact ⟨hl,by simp only [b3P];omega⟩,fun keep=>⟨_,by rw [e2];exact hcr keep,?_,by simp,?_⟩⟩
  ·simp only [List.length_append,a45,a4J,List.length_replicate]
   omega
  ·rcases ho keep with h|h
   ·exact .inl h
   ·right;rw [h,e0]
open Go Go.Proofs
instance f7q:Enc (List Int) where
 w:=1
 row l:=[.sl .old false (a0a l)]
 dec|[.sl .old false l]=>a3T l|_=>none
 a3J l:=by simp
 a3x {r l} h:=by
  split at h
  ·rw [a0K h]
  ·cases h
 len _:=rfl
 old l c hc:=by
  simp at hc
  subst hc
  rw [a5c];simp
 ret l c hc:=by
  simp at hc
  subst hc
  rw [a30];simp
@[simp] theorem f3j (l:List Int):Enc.row l=[AC.sl .old false (a0a l)]:=rfl
@[simp] theorem f8z:Enc.w (List Int)=1:=rfl
theorem c7w (r:a0r) (m:a1A):(a5p r m).2=(a1s r m).2.2:=by
 unfold a5p a1s
 cases a4j r m
 ·rfl
 ·simp only [if_true]
  by_cases h1:(a0x r m).2.1=true<;>by_cases h2:(a62 r (a0x r m).1).2=0<;>simp [h1,h2]
theorem c4Y:PEv Tryz.prog 87 [.c (.sl .brw false [])] (iv 0):=by
 refine a0e mixed (F:=[]) trivial Tryz.func87 f6Y f6Z (by kernel_rfl) (by simp) (by simp [VOK,b6K,c1v]) ?_
 simp [s87]
 refine vl (fun _:Unit=>True) (fun _=>mkS [(0,.c (.sl .brw false [])),(3,iv 0),(4,iv 0)] []) (fun _=>0) () trivial (a0c rfl ?_) ?_
 ·simp
 intro _ _ J hJ
 simp [d5f]
theorem c1q:PEv Tryz.prog 88 [.g [.sl .brw false [],.sl .brw false [],.sl .brw false []]] (bv false):=by
 refine a0e mixed (F:=[]) trivial Tryz.func88 f7a f7b (by kernel_rfl) (by simp) (by simp [VOK,b6K,c1v]) ?_
 simp [s88]
 refine a0T (args':=[Arg.enc ([]:List OpV)]) (a8O [] (by simp) (by simp)) ?_ (by simp) (by simp) ?_
 ·simp
 have e1:IntKind.wrap .i64 (IntKind.wrap .i64 0)=0:=by decide
 simp [a88,a65,e1]
theorem b8R:PEv Tryz.prog 41 [.g [.sl .brw false [],.sl .brw false [],.sl .brw false [],.sl .brw false [],.sl .brw false []]] (bv false):=by
 refine a0e mixed (F:=[]) trivial Tryz.func41 f5Q f5R (by kernel_rfl) (by simp) (by simp [VOK,b6K,c1v]) ?_
 simp [s41]
 refine a0T c4Y ?_ (by simp) (by simp) ?_
 ·simp
 have e1:IntKind.wrap .i64 (IntKind.wrap .i64 0)=0:=by decide
 simp [e1]
 refine vl (fun _:Unit=>True) (fun _=>mkS [(1,.c (.pt (1,1) 0 0)),(3,iv 0),(4,iv 0)] [.var (1,1) 79 [.sl .brw false [],.sl .brw false [],.sl .brw false [],.sl .brw false [],.sl .brw false []]]) (fun _=>0) () trivial (a0c rfl ?_) ?_
 ·simp
 intro _ _ J hJ
 simp [d5b]
 refine a0T c1q ?_ (by simp) (by simp) ?_
 ·simp
 simp
def b8S:List AV->Option (Prop×AV):=t1 (fun d:a0l=>d.safe.length<1000000/\d.wait.length<1000000) fun d:a0l=>.t [(true,a0u .old (a6u d).1),(false,[.raw (.int .i64 (a6u d).2)])]
@[simp] theorem e4a {l:List AV}:b8S l=(t1 (fun d:a0l=>d.safe.length<1000000/\d.wait.length<1000000) fun d:a0l=>.t [(true,a0u .old (a6u d).1),(false,[.raw (.int .i64 (a6u d).2)])]) l:=(rfl)
def b8T:List AV->Option (Prop×AV):=t2 (fun (d:a0l) (k:List Int)=>d.safe.length<1000000/\d.wait.length<1000000/\k.length<281474976710656) fun (d:a0l) (k:List Int)=>a1F (a4W d k)
@[simp] theorem e4b {l:List AV}:b8T l=(t2 (fun (d:a0l) (k:List Int)=>d.safe.length<1000000/\d.wait.length<1000000/\k.length<281474976710656) fun (d:a0l) (k:List Int)=>a1F (a4W d k)) l:=(rfl)
def FY4:CT:=(32,.pu b8S)::(40,.pu b8T)::FY2
theorem c8E:a1k Tryz.prog FY4:=⟨a0n fun d h=>d0G d h.1 h.2,
 a0R fun d k h=>PEv.frz .old (by simp) (a5S d k h.1 h.2.1 h.2.2),c4U⟩
@[simp] theorem d9z:a0b FY4 32=some (.pu b8S):=(rfl)
@[simp] theorem d9A:a0b FY4 40=some (.pu b8T):=(rfl)
@[simp] theorem e4c {n:Nat} (h:(n==32||n==40)=false):a0b FY4 n=a0b FY2 n:=by
 simp only [Bool.or_eq_false_iff,beq_eq_false_iff_ne,ne_eq] at h
 simp [FY4,a0b,h]
def c1r (K:List Int):List (List Int):=[[],K,[1,1,1,1,1,1,1,1,1,1,1,1,1,1,1,1,1,1,1,1,1,1,1,1],[1,2,1],[2],[0,1,1]]
theorem a8Q (p:a3n) (hp:a48 p):PEv Tryz.prog 8 [Arg.enc p] (bv true):=by
 refine a6h mixed c8E Tryz.func8 sl8 ok8 (by kernel_rfl) (by simp) (by simp [a0i]) ?_
 unfold s8
 refine v1 (mkS [(1,.c (.pt (1,1) 0 0)),(2,bv false)] [.var (1,1) 32 (a0i p)]) (fun J hJ=>?_) ?_
 ·simp only [b4s,a0i]
  simp
  refine hJ _ (a0c rfl ?_)
  simp [a0i,a0u,a0p,a0y]
 refine vs (ι:=Unit) (fun _=>a8S p.r/\a1P p.r=true/\∀a∈p.l,okM a.m/\a.k.length<=700) (fun _=>mkS [(1,.c (.pt (1,1) 0 0))] [.var (1,1) 32 (a0i p)]) (fun J hJ=>?_) (fun _ hq=>?_)
 ·simp only [a0i]
  cases c1:decide (700<a6F p)
  ·obtain ⟨g1,g2,g3⟩:=c4L hp (of_decide_eq_false c1)
   cases c2:a1P p.r
   ·simp [hp,c1,g1,c2]
    refine a0A (mkS [(2,bv true)] []) (a0c rfl ?_) ?_<;>simp [a0i]
   ·simp [hp,c1,g1,c2]
    refine hJ () ⟨g1,c2,g3⟩ _ (a0c rfl ?_)
    simp [a0i]
  ·simp [hp,c1]
   refine a0A (mkS [(2,bv true)] []) (a0c rfl ?_) ?_<;>simp [a0i]
 obtain ⟨g1,g2,g3⟩:=hq
 refine v1 (mkS [(1,.c (.pt (1,1) 0 0)),(3,.c (.pt (1,2) 0 0))] [.var (1,1) 32 (a0i p),.var (1,2) 29 (a0u .old p.r)]) (fun J hJ=>?_) ?_
 ·simp only [a0i]
  simp [g1,a0u]
  refine hJ _ (a0c rfl ?_)
  simp [a0i,a0u,a0p,a0y]
 refine v1C (mkS [] []) (fun J0 hJ0=>?_) ?_
 rotate_left
 ·refine a1t ?_
  simp
  refine a0T b8R ?_ (by simp) (by simp) ?_
  ·simp
  simp
  refine a0A (mkS [(2,bv true)] []) (a0c rfl ?_) ?_<;>simp [a0i]
 refine v1 (mkS [(1,.c (.pt (1,1) 0 0)),(3,.c (.pt (1,2) 0 0)),(4,iv 0)] [.var (1,1) 32 (a0i p),.var (1,2) 29 (a0u .old p.r)]) (fun J hJ=>?_) ?_
 ·simp
  refine hJ _ (a0c rfl ?_)
  simp [a0i,a0u,a0p,a0y]
 refine a5Y ?_
 refine a1t ?_
 refine vlc (fun q:Nat×a0r=>q.1<=p.l.length/\∃es k,a6D q.2 es k) (fun q=>mkS [(1,.c (.pt (1,1) 0 0)),(3,.c (.pt (1,2) 0 0)),(4,iv q.1)] [.var (1,1) 32 (a0i p),.var (1,2) 29 (a0u .old q.2)]) (fun q=>p.l.length-q.1) (0,p.r) ⟨by simp,a47 g2⟩ (a0c rfl ?_) ?_
 ·simp [a0i,a0u]
 rintro ⟨i,r⟩ ⟨hi,es,k,hI⟩ J3 hJ3
 simp only at hi hI hJ3
 unfold f2S
 refine vs (ι:=Unit) (fun _=>i<p.l.length/\i<16) (fun _=>mkS [(1,.c (.pt (1,1) 0 0)),(3,.c (.pt (1,2) 0 0)),(4,iv i)] [.var (1,1) 32 (a0i p),.var (1,2) 29 (a0u .old r)]) (fun J hJ=>?_) (fun _ hq=>?_)
 ·simp only [a0i,a0u]
  by_cases hlt:i<p.l.length
  ·by_cases h16:(i:Int)<16
   ·simp [hlt,h16]
    refine hJ () ⟨hlt,by omega⟩ _ (a0c rfl ?_)
    simp [a0i,a0u]
   ·simp [hlt,h16]
    exact hJ0 _ (a0c rfl (by simp))
  ·simp [hlt]
   exact hJ0 _ (a0c rfl (by simp))
 obtain ⟨hlt,h16⟩:=hq
 have hw:IntKind.wrap .i64 ((i:Int)+1)=((i+1:Nat):Int):=by rw [a0d]<;>omega
 refine vsC (ι:=a0r) (fun r2=>∃es k,a6D r2 es k) (fun r2=>mkS [(1,.c (.pt (1,1) 0 0)),(3,.c (.pt (1,2) 0 0)),(4,iv i)] [.var (1,1) 32 (a0i p),.var (1,2) 29 (a0u .old r2)]) (fun J5 hJ5=>?_) (fun r2 hr2=>?_)
 rotate_left
 ·refine a1t ?_
  simp [hw]
  refine hJ3 (i+1,r2) ⟨by simp;omega,hr2⟩ (by simp;omega) _ (a0c rfl ?_)
  simp [a0i,a0u]
 refine a5Y ?_
 obtain ⟨okr,_⟩:=a8n hI
 obtain ⟨okm,okk⟩:=g3 _ (List.getElem_mem hlt)
 have htk:=b4q r p.l[i].m okr okm
 have hhf:=d0F r p.l[i].m okr okm
 have hE:=c7w r p.l[i].m
 have hH:(a1s r p.l[i].m).2.2=0->Half r p.l[i].m/\∃es k,a6D (a1s r p.l[i].m).1 es k:=fun h0=>⟨half (b4A h0) hI,(once (b4A h0) hI).may⟩
 generalize hK:p.l[i].k=K at *
 generalize hT:a1s r p.l[i].m=T at *
 obtain ⟨x,a,e⟩:=T
 simp only at htk hH hE
 generalize hD:a5p r p.l[i].m=D at *
 obtain ⟨⟨ds,dw⟩,f⟩:=D
 simp only at hE
 subst hE
 refine v1 (mkS [(1,.c (.pt (1,1) 0 0)),(3,.c (.pt (1,2) 0 0)),(4,iv i),(5,.c (.pt (1,3) 0 0)),(7,iv f)] [.var (1,1) 32 (a0i p),.var (1,2) 29 (a0u .old r),.var (1,3) 29 (a0u .old x)]) (fun J hJ=>?_) ?_
 ·simp only [a0i,a0u]
  simp [hlt]
  refine a1f (args':=[.g (a0u .brw r),.g (a0p .brw p.l[i].m)]) ?_ htk (by simp [a0u,a0p,a0y]) (by simp [a0u,a0p,a0y]) ?_
  ·simp [a0u,a0p,a0y]
  simp [a0u,a0p,a0y]
  refine hJ _ (a0c rfl ?_)
  simp [a0i,a0u,a0p,a0y]
 refine v1 (mkS [(1,.c (.pt (1,1) 0 0)),(3,.c (.pt (1,2) 0 0)),(4,iv i),(5,.c (.pt (1,3) 0 0)),(7,iv f),(8,.c (.pt (1,4) 0 0)),(9,iv f)] [.var (1,1) 32 (a0i p),.var (1,2) 29 (a0u .old r),.var (1,3) 29 (a0u .old x),.var (1,4) 25 (a1n ⟨ds,dw⟩)]) (fun J hJ=>?_) ?_
 ·simp only [a0i,a0u]
  simp [hlt]
  refine a1f (args':=[.g (a0u .brw r),.g (a0p .brw p.l[i].m)]) ?_ hhf (by simp [a1F,a1n]) (by simp [a1F,a1n]) ?_
  ·simp [a0u,a0p,a0y]
  simp [a1F,a1n]
  refine hJ _ (a0c rfl ?_)
  simp [a0i,a0u,a1n]
 refine v1 (mkS [(1,.c (.pt (1,1) 0 0)),(3,.c (.pt (1,2) 0 0)),(4,iv i),(5,.c (.pt (1,3) 0 0)),(7,iv f),(8,.c (.pt (1,4) 0 0))] [.var (1,1) 32 (a0i p),.var (1,2) 29 (a0u .old r),.var (1,3) 29 (a0u .old x),.var (1,4) 25 (a1n ⟨ds,dw⟩)]) (fun J hJ=>?_) ?_
 ·simp
  refine hJ _ (a0c rfl ?_)
  simp [a0i,a0u,a1n]
 refine vs (ι:=Unit) (fun _=>f=0) (fun _=>mkS [(1,.c (.pt (1,1) 0 0)),(3,.c (.pt (1,2) 0 0)),(4,iv i),(5,.c (.pt (1,3) 0 0)),(8,.c (.pt (1,4) 0 0))] [.var (1,1) 32 (a0i p),.var (1,2) 29 (a0u .old r),.var (1,3) 29 (a0u .old x),.var (1,4) 25 (a1n ⟨ds,dw⟩)]) (fun J hJ=>?_) (fun _ h0=>?_)
 ·by_cases h0:f=0
  ·subst h0
   simp
   refine hJ () rfl _ (a0c rfl ?_)
   simp [a0i,a0u,a1n]
  ·simp [h0]
   refine hJ5 r ⟨es,k,hI⟩ _ (a0c rfl ?_)
   simp [a0i,a0u]
 obtain ⟨hHf,hRx⟩:=hH h0
 subst h0
 obtain ⟨_,⟨l1,l2⟩,hcr⟩:=hHf
 rw [hD] at l1 l2 hcr
 rw [hT] at hcr
 simp only at l1 l2 hcr hRx
 obtain ⟨es2,k2,hI2⟩:=hRx
 obtain ⟨okx,_⟩:=a8n hI2
 refine v1 (mkS [(1,.c (.pt (1,1) 0 0)),(3,.c (.pt (1,2) 0 0)),(4,iv i),(5,.c (.pt (1,3) 0 0)),(8,.c (.pt (1,4) 0 0)),(10,.c (.so (1,5) 0 6))] [.var (1,1) 32 (a0i p),.var (1,2) 29 (a0u .old r),.var (1,3) 29 (a0u .old x),.var (1,4) 25 (a1n ⟨ds,dw⟩),.tab (1,5) 27 1 (a0a (c1r K))]) (fun J hJ=>?_) ?_
 ·simp only [a0i]
  simp [hlt,hK]
  refine hJ _ (a0c rfl ?_)
  simp [a0i,a0u,a1n,c1r,a4G]
 have hL6:(c1r K).length=6:=rfl
 have hLk:∀l∈c1r K,l.length<281474976710656:=fun l hl=>by
  simp only [c1r,List.mem_cons,List.not_mem_nil,or_false] at hl
  rcases hl with rfl|rfl|rfl|rfl|rfl|rfl<;>first|(simp;done)|omega
 generalize c1r K=L at *
 refine v1C (mkS [(1,.c (.pt (1,1) 0 0)),(3,.c (.pt (1,2) 0 0)),(4,iv i),(5,.c (.pt (1,3) 0 0))] [.var (1,1) 32 (a0i p),.var (1,2) 29 (a0u .old r),.var (1,3) 29 (a0u .old x)]) (fun J7 hJ7=>?_) ?_
 rotate_left
 ·refine a1t ?_
  simp [a0u]
  refine hJ5 x ⟨es2,k2,hI2⟩ _ (a0c rfl ?_)
  simp [a0i,a0u]
 refine v1 (mkS [(1,.c (.pt (1,1) 0 0)),(3,.c (.pt (1,2) 0 0)),(4,iv i),(5,.c (.pt (1,3) 0 0)),(8,.c (.pt (1,4) 0 0)),(10,.c (.so (1,5) 0 6)),(11,iv 0)] [.var (1,1) 32 (a0i p),.var (1,2) 29 (a0u .old r),.var (1,3) 29 (a0u .old x),.var (1,4) 25 (a1n ⟨ds,dw⟩),.rows (1,5) 27 1 (a0a L)]) (fun J hJ=>?_) ?_
 ·simp
  refine hJ _ (a0c rfl ?_)
  simp [a0i,a0u,a1n]
 refine a5Y ?_
 refine a1t ?_
 refine vlc (fun n:Nat=>n<=6) (fun n=>mkS [(1,.c (.pt (1,1) 0 0)),(3,.c (.pt (1,2) 0 0)),(4,iv i),(5,.c (.pt (1,3) 0 0)),(8,.c (.pt (1,4) 0 0)),(10,.c (.so (1,5) 0 6)),(11,iv n)] [.var (1,1) 32 (a0i p),.var (1,2) 29 (a0u .old r),.var (1,3) 29 (a0u .old x),.var (1,4) 25 (a1n ⟨ds,dw⟩),.rows (1,5) 27 1 (a0a L)]) (fun n=>6-n) 0 (by simp) (a0c rfl ?_) ?_
 ·simp [a0i,a0u,a1n]
 intro n hn J8 hJ8
 unfold e6n
 refine vs (ι:=Unit) (fun _=>n<6) (fun _=>mkS [(1,.c (.pt (1,1) 0 0)),(3,.c (.pt (1,2) 0 0)),(4,iv i),(5,.c (.pt (1,3) 0 0)),(8,.c (.pt (1,4) 0 0)),(10,.c (.so (1,5) 0 6)),(11,iv n)] [.var (1,1) 32 (a0i p),.var (1,2) 29 (a0u .old r),.var (1,3) 29 (a0u .old x),.var (1,4) 25 (a1n ⟨ds,dw⟩),.rows (1,5) 27 1 (a0a L)]) (fun J hJ=>?_) (fun _ hln=>?_)
 ·by_cases hln:(n:Int)<6
  ·simp [hln]
   refine hJ () (by omega) _ (a0c rfl ?_)
   simp [a0i,a0u,a1n]
  ·simp [hln]
   refine hJ7 _ (a0c rfl ?_)
   simp [a0i,a0u]
 have hwn:IntKind.wrap .i64 ((n:Int)+1)=((n+1:Nat):Int):=by rw [a0d]<;>omega
 refine v1C (mkS [(1,.c (.pt (1,1) 0 0)),(3,.c (.pt (1,2) 0 0)),(4,iv i),(5,.c (.pt (1,3) 0 0)),(8,.c (.pt (1,4) 0 0)),(10,.c (.so (1,5) 0 6)),(11,iv n)] [.var (1,1) 32 (a0i p),.var (1,2) 29 (a0u .old r),.var (1,3) 29 (a0u .old x),.var (1,4) 25 (a1n ⟨ds,dw⟩),.rows (1,5) 27 1 (a0a L)]) (fun J9 hJ9=>?_) ?_
 rotate_left
 ·refine a1t ?_
  simp [hwn]
  refine hJ8 (n+1) (by omega) (by omega) _ (a0c rfl ?_)
  simp [a0i,a0u,a1n]
 refine a5Y ?_
 have hnL:n<L.length:=by omega
 have hnl:=hLk _ (List.getElem_mem hnL)
 obtain ⟨⟨ys,yw⟩,hc,y1,y2,ho⟩:=hcr L[n]
 simp only at y1 y2
 have b1:ds.length<1000000/\dw.length<1000000:=⟨by omega,by omega⟩
 have b2:ys.length<1000000/\yw.length<1000000:=⟨by omega,by omega⟩
 refine v1 (mkS [(1,.c (.pt (1,1) 0 0)),(3,.c (.pt (1,2) 0 0)),(4,iv i),(5,.c (.pt (1,3) 0 0)),(8,.c (.pt (1,4) 0 0)),(10,.c (.so (1,5) 0 6)),(11,iv n),(12,.c (.pt (1,6) 0 0)),(13,iv 0)] [.var (1,1) 32 (a0i p),.var (1,2) 29 (a0u .old r),.var (1,3) 29 (a0u .old x),.var (1,4) 25 (a1n ⟨ds,dw⟩),.rows (1,5) 27 1 (a0a L),.var (1,6) 25 (a1n ⟨ys,yw⟩)]) (fun J hJ=>?_) ?_
 ·simp only [a1n]
  simp [hnL,hln,hL6,b1,hnl,hc,a1F,a1n]
  refine ⟨by omega,hJ _ (a0c rfl ?_)⟩
  simp [a0i,a0u,a1n]
 obtain ⟨w,hw1,hw2⟩:∃w,a6u ⟨ys,yw⟩=(w,0)/\(w=r\/w=x):=by
  rcases ho with h|h
  ·exact ⟨r,h,.inl rfl⟩
  ·exact ⟨x,h,.inr rfl⟩
 have okw:a8S w:=by rcases hw2 with rfl|rfl<;>assumption
 refine v1 (mkS [(1,.c (.pt (1,1) 0 0)),(3,.c (.pt (1,2) 0 0)),(4,iv i),(5,.c (.pt (1,3) 0 0)),(8,.c (.pt (1,4) 0 0)),(10,.c (.so (1,5) 0 6)),(11,iv n),(13,iv 0),(14,.c (.pt (1,7) 0 0)),(15,iv 0)] [.var (1,1) 32 (a0i p),.var (1,2) 29 (a0u .old r),.var (1,3) 29 (a0u .old x),.var (1,4) 25 (a1n ⟨ds,dw⟩),.rows (1,5) 27 1 (a0a L),.var (1,7) 29 (a0u .old w)]) (fun J hJ=>?_) ?_
 ·simp only [a1n]
  simp [b2,hw1,a0u]
  refine hJ _ (a0c rfl ?_)
  simp [a0i,a0u,a1n]
 refine a1t ?_
 simp only [a0u]
 rcases hw2 with rfl|rfl
 ·simp [okw]
  refine hJ9 _ (a0c rfl ?_)
  simp [a0i,a0u,a1n]
 ·simp [okw]
  refine ⟨fun _=>hJ9 _ (a0c rfl ?_),fun _ _ _ _=>hJ9 _ (a0c rfl ?_)⟩
  ·simp [a0i,a0u,a1n]
  ·simp [a0i,a0u,a1n]
def c4Z:List AV->Option (Prop×AV):=t1 (fun p:a3n=>a48 p) fun _=>bv true
@[simp] theorem f08 {l:List AV}:c4Z l=(t1 (fun p:a3n=>a48 p) fun _=>bv true) l:=(rfl)
def FY5:CT:=(8,.pu c4Z)::FY4
theorem d9B:a1k Tryz.prog FY5:=⟨a0n fun p h=>a8Q p h,c8E⟩
@[simp] theorem e4d:a0b FY5 8=some (.pu c4Z):=(rfl)
@[simp] theorem e4e {n:Nat} (h:(n==8)=false):a0b FY5 n=a0b FY4 n:=by
 simp only [Bool.or_eq_false_iff,beq_eq_false_iff_ne,ne_eq] at h
 simp [FY5,a0b,h]
theorem b0L (p:a3n) (hp:a48 p/\p.l.length*104<=140737488351232):PEv Tryz.prog 9 [.g (a2u p)] (bv true):=by
 have h1:=c4V p [4] hp.2 (by simp)
 have h2:=c8D p [4] hp.1
 generalize hq:c1o p [4]=q at *
 refine a6h mixed d9B Tryz.func9 sl9 ok9 (by kernel_rfl) (by simp [a2u]) (by simp [a2u]) ?_
 unfold s9
 simp only [a2u]
 refine a1t ?_
 simp
 refine a1f (args':=[.g (a0i p),.c (.sl .brw false (a0a [(4:Int)]))]) ?_ h1 (by simp [a2u]) (by simp [a2u]) ?_
 ·simp [a0i,a4G]
 ·simp [a2u]
  refine ⟨h2,a0A (mkS [(2,bv true)] []) (a0c rfl ?_) ?_⟩<;>simp
end Go.AE
