/- What was spelt is read; how zeros stand in what is spelt. No program in sight. -/
import Derived.Test.YtfmcfhlfjepbkaaGreatDoorFu6
set_option linter.unusedVariables false
set_option linter.unusedSimpArgs false
set_option maxHeartbeats 4000000
set_option maxRecDepth 100000
namespace Go.AE
open Go Go.Proofs
def b35:MH:=mh1 220 2 (rdG okT b71 b48)
@[simp] theorem d9c {H:Heap} {l:List AV}:b35 H l=(mh1 220 2 (rdG okT b71 b48)) H l:=(rfl)
def FJ2:CT:=(185,.mu b35)::FJ1
theorem c9m:a1k Tryz.prog FJ2:=⟨d1k,c9l⟩
@[simp] theorem d4k:a0c FJ2 185=some (.mu b35):=(rfl)
@[simp] theorem e4s {n:Nat} (h:(n==185)=false):a0c FJ2 n=a0c FJ1 n:=by
 simp only [Bool.or_eq_false_iff,beq_eq_false_iff_ne,ne_eq] at h
 simp [FJ2,a0c,h]
def a2P (s:List UInt8):AV:=.t [(true,a0e .old (a06 s).1),(false,[.str (a06 s).2.1]),(false,[.raw (.bool (decide ((a06 s).2.2=0)))])]
theorem b6p (s:List UInt8) (hs:s.length<1000000):PEv Tryz.prog 144 [.c (.str s)] (a2P s):=by
 refine a0f mixed c9m Tryz.func144 e9Z e90 (by kernel_rfl) (by simp [a2P,a0e]) (by simp) ?_
 have hr:okT ⟨s,false⟩:=hs
 have ht:=c44 s
 rcases e:b71 ⟨s,false⟩ with ⟨o,s1,b1⟩
 rw [e] at ht
 cases b1
 ·have e2:a06 s=(o,s1,0):=by rw [<-ht];rfl
  simp [e29,e,hr,a0Z,b48,a0K,a2P,e2,a0e]
 ·have e2:a06 s=(a0C,[],7):=by rw [<-ht];rfl
  simp [e29,e,hr,a0Z,b48,a0K,a2P,e2,a0e,a0C]
def b36:List AV->Option (Prop×AV):=t1 (fun s=>s.length<1000000) fun s:List UInt8=>a2P s
@[simp] theorem d9d {l:List AV}:b36 l=(t1 (fun s=>s.length<1000000) fun s:List UInt8=>a2P s) l:=(rfl)
def b37:List AV->Option (Prop×AV):=t1 (fun e=>e.op.text.length<1000000/\e.op.gone.length<4611686018427387904) fun e:a0i=>.c (.raw (.bool (a0J e)))
@[simp] theorem d9e {l:List AV}:b37 l=(t1 (fun e=>e.op.text.length<1000000/\e.op.gone.length<4611686018427387904) fun e:a0i=>.c (.raw (.bool (a0J e)))) l:=(rfl)
def FJ3:CT:=(144,.pu b36)::(145,.pu b37)::FJ2
theorem c9n:a1k Tryz.prog FJ3:=⟨a0n fun s h=>b6p s h,
 a0n fun e h=>b70 e h.1 h.2,c9m⟩
@[simp] theorem d4l:a0c FJ3 144=some (.pu b36):=(rfl)
@[simp] theorem d4m:a0c FJ3 145=some (.pu b37):=(rfl)
@[simp] theorem e4t {n:Nat} (h:(n==144||n==145)=false):a0c FJ3 n=a0c FJ2 n:=by
 simp only [Bool.or_eq_false_iff,beq_eq_false_iff_ne,ne_eq] at h
 simp [FJ3,a0c,h]
def a00 (s:List UInt8):a0i×Nat×Bool:=if (a0U s).2.2=true then a0U s else (zeroE,0,false)
def a0X (c:AC) (e:a0i):List AC:=.raw (.bool e.join)::.raw (.int .i64 e.a0H)::a0K c e.op
def b0W (H:Heap) (v:Id) (e:a0i):Prop:=∃c,H v=.arr 97 13 false [a0X c e]/\((c=.raw (.slice none 0 0)/\e.op.gone=[])\/c=.sl .old false (a0a e.op.gone))
theorem b1P {t:List UInt8} (h:takeN t=none):a1i t=(0,[],7):=by simp [a1i,h]
theorem b1Q {t r:List UInt8} {n:Nat} (h:takeN t=some (n,r)):a1i t=(n,r,0):=by simp [a1i,h]
theorem a5g {s b:List UInt8}:a8m s b=true↔s.take b.length=b:=by
 show List.isPrefixOf b s=true↔_
 rw [List.isPrefixOf_iff_prefix,List.prefix_iff_eq_take]
 exact eq_comm
def b38 (t:List UInt8) (e:a0i) (ok:Bool):Prop:=(a2i t).2=(ok&&a0J e)/\(ok=true->(a2i t).1=e)/\e.op.text.length<1000000/\e.op.gone.length<1000000
def TkB (s:List UInt8) (st:St):Prop:=st.s 0=.c (.str s)/\st.s 2=.c (.pt (0,2) 0 0)/\st.H (0,2)=.arr 97 13 false [a0X (.raw (.slice none 0 0)) zeroE]/\a0E st.H st.T
theorem b6q (s:List UInt8) (hs:s.length<100000):PEv Tryz.prog 98 [.c (.str s)] (a2f (a00 s)):=by
 refine a0f mixed c9n Tryz.func98 f9R f9S (by kernel_rfl) (by simp [a2f,a0m,a0e]) (by simp) ?_
 have hfin:∀st' (e:a0i) (n:Nat) (ok:Bool),a00 s=(e,n,ok)->st'.s 2=.c (.pt (0,2) 0 0)->b0W st'.H (0,2) e->st'.s 3=.c (.raw (.int .i64 n))->st'.s 4=.c (.raw (.bool ok))->c2B Tryz.prog Tryz.f98 (a2f (a00 s)) .ret st':=by
  rintro st' e n ok hR h2 ⟨c,hc,hcc⟩ h3 h4
  rw [hR]
  rcases hcc with ⟨rfl,hg⟩|rfl
  ·simp [h2,hc,h3,h4,a2f,a0X,a0K,a0m,a0e,hg]
  ·simp [h2,hc,h3,h4,a2f,a0X,a0K,a0m,a0e]
 have hno:a00 s=(zeroE,0,false)->∀st',(st'.s 2=.c (.pt (0,2) 0 0)/\st'.H (0,2)=.arr 97 13 false [a0X (.raw (.slice none 0 0)) zeroE]/\st'.s 3=.c (.raw (.int .i64 0))/\st'.s 4=.c (.raw (.bool false)))->c2B Tryz.prog Tryz.f98 (a2f (a00 s)) .ret st':=
  fun hR st' ⟨h2,hc,h3,h4⟩=>hfin st' zeroE 0 false hR h2 ⟨_,hc,.inl ⟨rfl,rfl⟩⟩ h3 h4
 refine a3z (TkB s) ?_ ?_
 ·intro R' hR
  simp
  exact hR _ ⟨by simp,by simp,by simp [a0X,a0K,zeroE,a0C],by simp;(repeat' (first|exact a1n.mono (Nat.zero_le _)|(refine a0E.set' ?_ (by simp))))⟩
 rintro st ⟨k0,k2,hH,hf⟩
 have hfu:∀k d,st.T<=k->st.H (k,d)=.a0g:=hf
 have hs1:s.length<4611686018427387904:=by omega
 cases hq:a2Y s with
 |none=>
  have hav:a1y s=.t [(false,[.str []]),(false,[.str []]),(false,[.raw (.bool false)])]:=by simp [a1y,hq]
  have hR0:a00 s=(zeroE,0,false):=by simp [a00,a0U,hq]
  refine a3z (fun st'=>TkB s st'/\st'.s 7=.c (.raw (.bool false))) ?_ ?_
  ·intro R' hR
   simp [k0,hs1,hav]
   exact hR _ ⟨⟨by simp [k0],by simp [k2],by simpa using hH,by simp;exact hf.mono (by omega)⟩,by simp⟩
  clear k0 k2 hH hf hfu
  rintro st ⟨⟨k0,k2,hH,hf⟩,k7⟩
  refine a4X _ ?_ (hno hR0)
  intro R' hR
  simp [k2,k7,hH,a0X,a0K]
  exact hR _ ⟨by simp [k2],by simp [a0X,a0K,zeroE,a0C],by simp,by simp⟩
 |some q=>
  obtain ⟨t,r⟩:=q
  obtain ⟨hsp,ht7⟩:=a6r hq
  have hav:a1y s=.t [(false,[.str t]),(false,[.str r]),(false,[.raw (.bool true)])]:=by simp [a1y,hq]
  refine a3z (fun st'=>TkB s st'/\st'.s 7=.c (.raw (.bool true))/\st'.s 5=.c (.str t)) ?_ ?_
  ·intro R' hR
   simp [k0,hs1,hav]
   exact hR _ ⟨⟨by simp [k0],by simp [k2],by simpa using hH,by simp;exact hf.mono (by omega)⟩,by simp,by simp⟩
  clear k0 k2 hH hf hfu
  rintro st ⟨⟨k0,k2,hH,hf⟩,k7,k5⟩
  refine a3z (fun st'=>TkB s st'/\st'.s 5=.c (.str t)) ?_ ?_
  ·intro R' hR
   simp [k7]
   exact hR _ ⟨⟨by simp [k0],by simp [k2],by simpa using hH,by simp;exact hf.mono (by omega)⟩,by simp [k5]⟩
  clear k0 k2 hH hf k7 k5
  rintro st ⟨⟨k0,k2,hH,hf⟩,k5⟩
  have ht1:t.length<4611686018427387904:=by omega
  obtain ⟨n,t1,b,hn⟩:∃(n:Nat) (t1:List UInt8) (b:Bool),a1S t=.t [(false,[.raw (.int .i64 n)]),(false,[.str t1]),(false,[.raw (.bool b)])]/\a1i t=(n,t1,if b=true then 0 else 7)/\t1.length<=t.length/\(b=false->n=0):=by
   cases h:takeN t with
   |none=>exact ⟨0,[],false,a3a h,b1P h,by simp,fun _=>rfl⟩
   |some q=>exact ⟨q.1,q.2,true,a1C h,b1Q h,by have:=(a16 h).2;omega,by simp⟩
  obtain ⟨hn1,hn2,hn3,hn4⟩:=hn
  refine a3z (fun st'=>TkB s st'/\st'.s 7=.c (.raw (.bool b))/\st'.s 8=.c (.raw (.int .i64 n))/\st'.s 9=.c (.str t1)) ?_ ?_
  ·intro R' hR
   simp [k5,ht1,hn1]
   exact hR _ ⟨⟨by simp [k0],by simp [k2],by simpa using hH,by simp;exact hf.mono (by omega)⟩,by simp,by simp,by simp⟩
  clear k0 k2 hH hf k5
  rintro st ⟨⟨k0,k2,hH,hf⟩,k7,k8,k9⟩
  have hfu:∀k d,st.T<=k->st.H (k,d)=.a0g:=hf
  obtain ⟨p1,p2,p3⟩:=hf.arr hH
  refine a3z (fun st'=>TkB s st'/\st'.s 7=.c (.raw (.bool b))/\st'.s 8=.c (.raw (.int .i64 n))/\st'.s 9=.c (.str t1)/\∃v,v≠(0,2)/\st'.s 10=.c (.pt v 0 0)/\st'.H v=.arr 97 13 false [a0X (.raw (.slice none 0 0)) zeroE]) ?_ ?_
  ·intro R' hR
   simp [hfu]
   exact hR _ ⟨⟨by simp [k0],by simp [k2],by simpa [p2] using hH,by simp;repeat' (first|exact hf.mono (by first|omega|(simp<;>omega))|(refine a0E.set' ?_ (by first|omega|(simp<;>omega))))⟩,by simp [k7],by simp [k8],by simp [k9],(st.T,10),by simp [p1],by simp,by simp [a0X,a0K,zeroE,a0C]⟩
  clear k0 k2 hH hf k7 k8 k9 hfu p1 p2 p3
  rintro st ⟨⟨k0,k2,hH,hf⟩,k7,k8,k9,v,hv,k10,hV⟩
  have hfu:∀k d,st.T<=k->st.H (k,d)=.a0g:=hf
  obtain ⟨p1,p2,p3⟩:=hf.arr hH
  obtain ⟨p4,p5,p6⟩:=hf.arr hV
  have hv':((0,2)=v)=False:=by simpa using fun h=>hv h.symm
  have g09:(v=(0,2))=False:=by simpa using hv
  have ht4:t1.length<1000000:=by omega
  have ht5:t1.length<4611686018427387904:=by omega
  refine a3z (fun st'=>TkB s st'/\∃e ok,b38 t e ok/\st'.s 7=.c (.raw (.bool ok))/\st'.s 10=.c (.pt v 0 0)/\b0W st'.H v e) ?_ ?_
  ·intro R' hR
   by_cases c1:b=true/\n=1
   ·obtain ⟨rfl,rfl⟩:=c1
    obtain ⟨m,t2,b2,hm⟩:∃(m:Nat) (t2:List UInt8) (b2:Bool),a1S t1=.t [(false,[.raw (.int .i64 m)]),(false,[.str t2]),(false,[.raw (.bool b2)])]/\a1i t1=(m,t2,if b2=true then 0 else 7)/\(b2=false->m=0):=by
     cases h:takeN t1 with
     |none=>exact ⟨0,[],false,a3a h,b1P h,fun _=>rfl⟩
     |some q=>exact ⟨q.1,q.2,true,a1C h,b1Q h,by simp⟩
    obtain ⟨hm1,hm2,hm3⟩:=hm
    have key:b38 t ⟨true,m,a0C⟩ (b2&&decide (t2=[])):=by
     refine ⟨?_,?_,by simp [a0C],by simp [a0C]⟩
     ·unfold a2i
      simp [hn2,hm2]
     ·unfold a2i
      simp [hn2,hm2]
    cases b2
    ·simp [k7,k8,k9,k10,hV,ht5,hm1,a0X,a0K]
     refine hR _ ⟨⟨by simp [k0],by simp [k2],by simpa [hv'] using hH,by simp;repeat' (first|exact hf.mono (by first|omega|(simp<;>omega))|(refine a0E.set' ?_ (by first|omega|(simp<;>omega))))⟩,_,_,key,by simp,by simp [k10],_,by simp [a0X,a0K,a0C],.inl ⟨rfl,rfl⟩⟩
    ·cases c2:decide (t2=[])
     ·rw [c2] at key
      simp [k7,k8,k9,k10,hV,ht5,hm1,c2,a0X,a0K]
      refine hR _ ⟨⟨by simp [k0],by simp [k2],by simpa [hv'] using hH,by simp;repeat' (first|exact hf.mono (by first|omega|(simp<;>omega))|(refine a0E.set' ?_ (by first|omega|(simp<;>omega))))⟩,_,_,key,by simp,by simp [k10],_,by simp [a0X,a0K,a0C],.inl ⟨rfl,rfl⟩⟩
     ·rw [c2] at key
      simp [k7,k8,k9,k10,hV,ht5,hm1,c2,a0X,a0K]
      refine hR _ ⟨⟨by simp [k0],by simp [k2],by simpa [hv'] using hH,by simp;repeat' (first|exact hf.mono (by first|omega|(simp<;>omega))|(refine a0E.set' ?_ (by first|omega|(simp<;>omega))))⟩,_,_,key,by simp,by simp [k10],_,by simp [a0X,a0K,a0C],.inl ⟨rfl,rfl⟩⟩
   by_cases c2:b=true/\n=0
   ·obtain ⟨rfl,rfl⟩:=c2
    obtain ⟨g1,g2,g3⟩:=a5w t1
    rcases ho:a06 t1 with ⟨o,t2,x⟩
    rw [ho] at g1 g2 g3
    simp only at g1 g2 g3
    have hav:a2P t1=.t [(true,a0e .old o),(false,[.str t2]),(false,[.raw (.bool (decide (x=0)))])]:=by rw [a2P,ho]
    have key:b38 t ⟨false,0,o⟩ (decide (x=0)&&decide (t2=[])):=by
     refine ⟨?_,?_,by show o.text.length<_;omega,by show o.gone.length<_;omega⟩
     ·unfold a2i
      simp [hn2,ho]
     ·unfold a2i
      simp [hn2,ho]
    cases c4:decide (x=0)
    ·rw [c4] at key hav
     simp (maxDischargeDepth:=8) [k7,k8,k9,k10,hV,hfu,ht4,hav,a0X,a0K,a0e,p5,Nat.le_add_right_of_le]
     refine hR _ ⟨⟨by simp (maxDischargeDepth:=8) [k0],by simp [k2],by simpa [hv',p2,Nat.le_add_right_of_le] using hH,by simp;repeat' (first|exact hf.mono (by first|omega|(simp<;>omega))|(refine a0E.set' ?_ (by first|omega|(simp<;>omega))))⟩,_,_,key,by simp,by simp [k10],_,by simp [a0X,a0K,a0e],.inr rfl⟩
    ·cases c5:decide (t2=[])
     ·rw [c4,c5] at key
      rw [c4] at hav
      simp (maxDischargeDepth:=8) [k7,k8,k9,k10,hV,hfu,ht4,hav,c5,a0X,a0K,a0e,p5,Nat.le_add_right_of_le]
      refine hR _ ⟨⟨by simp (maxDischargeDepth:=8) [k0],by simp [k2],by simpa [hv',p2,Nat.le_add_right_of_le] using hH,by simp;repeat' (first|exact hf.mono (by first|omega|(simp<;>omega))|(refine a0E.set' ?_ (by first|omega|(simp<;>omega))))⟩,_,_,key,by simp,by simp [k10],_,by simp [a0X,a0K,a0e],.inr rfl⟩
     ·rw [c4,c5] at key
      rw [c4] at hav
      simp (maxDischargeDepth:=8) [k7,k8,k9,k10,hV,hfu,ht4,hav,c5,a0X,a0K,a0e,p5,Nat.le_add_right_of_le]
      refine hR _ ⟨⟨by simp (maxDischargeDepth:=8) [k0],by simp [k2],by simpa [hv',p2,Nat.le_add_right_of_le] using hH,by simp;repeat' (first|exact hf.mono (by first|omega|(simp<;>omega))|(refine a0E.set' ?_ (by first|omega|(simp<;>omega))))⟩,_,_,key,by simp,by simp [k10],_,by simp [a0X,a0K,a0e],.inr rfl⟩
   have key:b38 t zeroE false:=by
    refine ⟨?_,by simp,by simp [zeroE,a0C],by simp [zeroE,a0C]⟩
    unfold a2i
    cases b
    ·simp [hn2]
    ·have:1<n:=by
      rcases Nat.lt_or_ge 1 n with h|h
      ·exact h
      ·exfalso
       have:n=0\/n=1:=by omega
       rcases this with h|h
       ·exact c2 ⟨rfl,h⟩
       ·exact c1 ⟨rfl,h⟩
     simp [hn2,this]
   cases b
   ·simp [k7,k8]
    exact hR _ ⟨⟨by simp [k0],by simp [k2],by simpa using hH,by simp;exact hf.mono (by omega)⟩,_,_,key,by simp,by simp [k10],_,by simpa using hV,.inl ⟨rfl,rfl⟩⟩
   ·have d1:¬(n:Int)=1:=fun h=>c1 ⟨rfl,by omega⟩
    have d2:¬n=0:=fun h=>c2 ⟨rfl,h⟩
    have d3:¬n=1:=fun h=>c1 ⟨rfl,h⟩
    simp [k7,k8,d1,d2,d3]
    exact hR _ ⟨⟨by simp [k0],by simp [k2],by simpa using hH,by simp;exact hf.mono (by omega)⟩,_,_,key,by simp,by simp [k10],_,by simpa using hV,.inl ⟨rfl,rfl⟩⟩
  clear k0 k2 hH hf k7 k8 k9 hfu p1 p2 p3 p4 p5 p6 k10 hV
  rintro st ⟨⟨k0,k2,hH,hf⟩,e,ok,⟨hr1,hr2,hr3,hr4⟩,k7,k10,c,hV,hcc⟩
  have hr5:e.op.gone.length<4611686018427387904:=by omega
  have hR1:(a2i t).2=false->a00 s=(zeroE,0,false):=fun h=>by simp [a00,a0U,hq,h]
  cases hok:ok
  ·have hR0:=hR1 (by rw [hr1,hok];rfl)
   refine a4X _ ?_ (hno hR0)
   intro R' hR
   rw [hok] at k7
   simp [k2,k7,hH,a0X,a0K]
   exact hR _ ⟨by simp [k2],by simp [a0X,a0K,zeroE,a0C],by simp,by simp⟩
  cases hm:a0J e
  ·have hR0:=hR1 (by rw [hr1,hm];simp)
   refine a4X _ ?_ (hno hR0)
   intro R' hR
   rw [hok] at k7
   rcases hcc with ⟨rfl,hg⟩|rfl
   ·have hm':a0J ⟨e.join,e.a0H,e.op.site,e.op.seq,e.op.kind,⟨e.op.after.site,e.op.after.seq,e.op.after.i⟩,e.op.text,[],e.op.of_,e.op.num,e.op.gen⟩=false:=by rw [<-hm,<-hg]
    simp [k2,k7,k10,hH,hV,a0X,a0K,hr3,hm']
    exact hR _ ⟨by simp [k2],by simp [a0X,a0K,zeroE,a0C],by simp,by simp⟩
   ·simp [k2,k7,k10,hH,hV,a0X,a0K,hr3,hr5,hm]
    exact hR _ ⟨by simp [k2],by simp [a0X,a0K,zeroE,a0C],by simp,by simp⟩
  have he:=hr2 hok
  have hrt:(a2i t).2=true:=by rw [hr1,hok,hm];rfl
  have hp:=a9j hrt
  rw [he] at hp
  have hF:=a3L hm hr3 hr4
  have hb1:a0j e=(a8n (a1e t),0):=by rw [a0j,hp,if_neg (by omega)]
  have hb2:a29 e=(a8n (a1e t),true):=by rw [a29,hp,if_neg (by omega)]
  have hbl:=a4s e
  rw [hb1] at hbl
  simp only at hbl
  have hfr:a0U s=(e,(a8n (a1e t)).length/32,a8m s (a8n (a1e t))):=by simp [a0U,hq,hrt,he,hb1]
  have hb3:a11 e=.t [(false,[.str (a8n (a1e t))]),(false,[.raw (.bool true)])]:=by rw [a11,hb2]
  generalize a8n (a1e t)=B at hb1 hb2 hb3 hbl hfr
  have hmF:∀(x:Bool),e.op.gone=[]->a0J ⟨e.join,e.a0H,e.op.site,e.op.seq,e.op.kind,⟨e.op.after.site,e.op.after.seq,e.op.after.i⟩,e.op.text,[],e.op.of_,e.op.num,e.op.gen⟩=true/\okF ⟨e.join,e.a0H,e.op.site,e.op.seq,e.op.kind,⟨e.op.after.site,e.op.after.seq,e.op.after.i⟩,e.op.text,[],e.op.of_,e.op.num,e.op.gen⟩/\
    a11 ⟨e.join,e.a0H,e.op.site,e.op.seq,e.op.kind,⟨e.op.after.site,e.op.after.seq,e.op.after.i⟩,e.op.text,[],e.op.of_,e.op.num,e.op.gen⟩=.t [(false,[.str B]),(false,[.raw (.bool true)])]:=fun _ hg=>by
   rw [<-hg]
   exact ⟨hm,hF,hb3⟩
  rw [hok] at k7
  have eH:b0W st.H v e:=⟨c,hV,hcc⟩
  have ext:∀{H':Heap},H' v=st.H v->b0W H' v e:=fun h=>⟨c,by rw [h,hV],hcc⟩
  refine a3z (fun st'=>TkB s st'/\st'.s 10=.c (.pt v 0 0)/\b0W st'.H v e) ?_ ?_
  ·intro R' hR
   rcases hcc with ⟨rfl,hg⟩|rfl
   ·obtain ⟨m1,m2,m3⟩:=hmF true hg
    simp [k7,k10,hV,a0X,a0K,hr3,m1]
    exact hR _ ⟨⟨by simp [k0],by simp [k2],by simpa using hH,by simp;exact hf.mono (by omega)⟩,by simp [k10],ext (by simp)⟩
   ·simp [k7,k10,hV,a0X,a0K,hr3,hr5,hm]
    exact hR _ ⟨⟨by simp [k0],by simp [k2],by simpa using hH,by simp;exact hf.mono (by omega)⟩,by simp [k10],ext (by simp)⟩
  clear k0 k2 hH hf k7 k10 hV hcc eH ext c
  rintro st ⟨⟨k0,k2,hH,hf⟩,k10,c,hV,hcc⟩
  have ext:∀{H':Heap},H' v=st.H v->b0W H' v e:=fun h=>⟨c,by rw [h,hV],hcc⟩
  refine a3z (fun st'=>TkB s st'/\st'.s 10=.c (.pt v 0 0)/\b0W st'.H v e/\st'.s 17=.c (.str B)/\st'.s 18=.c (.raw (.bool true))) ?_ ?_
  ·intro R' hR
   rcases hcc with ⟨rfl,hg⟩|rfl
   ·obtain ⟨m1,m2,m3⟩:=hmF true hg
    simp [k10,hV,a0X,a0K,m2,m3]
    exact hR _ ⟨⟨by simp [k0],by simp [k2],by simpa using hH,by simp;exact hf.mono (by omega)⟩,by simp [k10],ext (by simp),by simp,by simp⟩
   ·simp [k10,hV,a0X,a0K,hF,hb3]
    exact hR _ ⟨⟨by simp [k0],by simp [k2],by simpa using hH,by simp;exact hf.mono (by omega)⟩,by simp [k10],ext (by simp),by simp,by simp⟩
  clear k0 k2 hH hf k10 hV hcc ext c
  rintro st ⟨⟨k0,k2,hH,hf⟩,k10,⟨c,hV,hcc⟩,k17,k18⟩
  have ext:∀{H':Heap},H' v=st.H v->b0W H' v e:=fun h=>⟨c,by rw [h,hV],hcc⟩
  cases hpre:a8m s B
  ·have hR0:a00 s=(zeroE,0,false):=by simp [a00,hfr,hpre]
   refine a4X _ ?_ (hno hR0)
   intro R' hR
   by_cases hlen:s.length<B.length
   ·have hlen':(s.length:Int)<B.length:=by omega
    simp [k0,k2,k17,k18,hH,a0X,a0K,hlen']
    exact hR _ ⟨by simp [k2],by simp [a0X,a0K,zeroE,a0C],by simp,by simp⟩
   ·have hlen':¬(s.length:Int)<B.length:=by omega
    have hle:B.length<=s.length:=by omega
    have hd:decide (List.take B.length s=B)=false:=by
     apply decide_eq_false
     rw [<-a5g,hpre]
     simp
    simp [k0,k2,k17,k18,hH,a0X,a0K,hlen',hle,hd]
    exact hR _ ⟨by simp [k2],by simp [a0X,a0K,zeroE,a0C],by simp,by simp⟩
  have hR1:a00 s=(e,B.length/32,true):=by simp [a00,hfr,hpre]
  have htk:=a5g.1 hpre
  have hle:B.length<=s.length:=by have:=congrArg List.length htk;rw [List.length_take] at this;omega
  have hlen':¬(s.length:Int)<B.length:=by omega
  have hd:decide (List.take B.length s=B)=true:=decide_eq_true htk
  refine a3z (fun st'=>TkB s st'/\st'.s 10=.c (.pt v 0 0)/\b0W st'.H v e/\st'.s 17=.c (.str B)) ?_ ?_
  ·intro R' hR
   simp [k0,k17,k18,hlen',hle,hd]
   exact hR _ ⟨⟨by simp [k0],by simp [k2],by simpa using hH,by simp;exact hf.mono (by omega)⟩,by simp [k10],ext (by simp),by simp [k17]⟩
  clear k0 k2 hH hf k10 hV hcc ext c k17 k18
  rintro st ⟨⟨k0,k2,hH,hf⟩,k10,⟨c,hV,hcc⟩,k17⟩
  obtain ⟨qn,hqn,hqb⟩:∃q,B.length/32=q/\q<=100:=⟨_,rfl,by omega⟩
  have w0:(B.length:Int).tdiv 32=(qn:Int):=by rw [Int.tdiv_eq_ediv_of_nonneg (by omega)];omega
  have w1:IntKind.wrap .i64 (qn:Int)=qn:=by rw [a0d]<;>omega
  rw [hqn] at hR1
  refine a3z (fun st'=>st'.s 2=.c (.pt (0,2) 0 0)/\b0W st'.H (0,2) e/\st'.s 3=.c (.raw (.int .i64 qn))/\st'.s 4=.c (.raw (.bool true))) ?_ fun st' ⟨a,b,c,d⟩=>hfin st' e _ true hR1 a b c d
  intro R' hR
  rcases hcc with ⟨rfl,hg⟩|rfl
  ·simp [k2,k10,k17,hH,hV,a0X,a0K,w0,w1]
   exact hR _ ⟨by simp [k2],⟨_,by simp [a0X,a0K],.inl ⟨rfl,hg⟩⟩,by simp,by simp⟩
  ·simp [k2,k10,k17,hH,hV,a0X,a0K,w0,w1]
   exact hR _ ⟨by simp [k2],⟨_,by simp [a0X,a0K],.inr rfl⟩,by simp,by simp⟩
open Go
theorem b1R:∀(k m acc:Nat) (s:List UInt8) (j:Nat),k<=j->a3D k m acc (s.take j)=(a3D k m acc s).map fun q=>(q.1,q.2.take (j-(s.length-q.2.length)))
 |0,m,acc,s,j,_=>rfl
 |k+1,m,acc,s,j,hj=>by
  cases s with
  |nil=>simp [a3D]
  |cons b s=>
   obtain ⟨j,rfl⟩:∃i,j=i+1:=⟨j-1,by omega⟩
   rw [List.take_succ_cons,a3D,a3D]
   split
   ·rw [b1R k _ _ s j (by omega)]
    cases h:a3D k (m*128) (acc+b.toNat%128*m) s with
    |none=>rfl
    |some q=>
     obtain ⟨n,r⟩:=q
     have hr:r.length<=s.length:=by
      have go:∀(k m acc:Nat) (s r:List UInt8) (n:Nat),a3D k m acc s=some (n,r)->r.length<=s.length:=by
       intro k
       induction k with
       |zero=>intro m acc s r n h;cases h
       |succ k ih=>
        intro m acc s r n h
        cases s with
        |nil=>cases h
        |cons b s=>
         rw [a3D] at h
         split at h
         ·have:=ih _ _ _ _ _ h
          simp;omega
         ·split at h
          ·cases h
          ·cases h
           simp
      exact go _ _ _ _ _ _ h
     simp
     congr 1
     omega
   ·split
    ·rfl
    ·simp
theorem b1S {n:Nat} (h:n<=700):(a0h n).length<=2:=a6b 9 2 n (by omega) (by omega)
theorem c1P {s:List UInt8} (h:736<=s.length):(a2Y (s.take 736)).map (·.1)=(a2Y s).map (·.1):=by
 have ht:takeN (s.take 736)=(takeN s).map fun q=>(q.1,q.2.take (736-(s.length-q.2.length))):=b1R 5 1 0 s 736 (by omega)
 unfold a2Y
 rw [ht]
 cases hn:takeN s with
 |none=>rfl
 |some q=>
  obtain ⟨n,r⟩:=q
  have hsp:=a6q hn
  have hsl:s.length=(a0h n).length+r.length:=by rw [hsp,List.length_append]
  simp only [Option.map_some]
  by_cases h7:700<n
  ·rw [if_pos (.inl h7),if_pos (.inl h7)]
  ·have hb:=b1S (n:=n) (by omega)
   have e1:s.length-r.length=(a0h n).length:=by omega
   rw [e1]
   have l1:(r.take (736-(a0h n).length)).length=736-(a0h n).length:=by rw [List.length_take];omega
   rw [if_neg (show ¬(700<n\/(r.take (736-(a0h n).length)).length<n+4) by rw [l1];omega),if_neg (show ¬(700<n\/r.length<n+4) by omega)]
   have e2:(s.take 736).length-(r.take (736-(a0h n).length)).length=(a0h n).length:=by rw [l1,List.length_take];omega
   rw [e2]
   have e3:(s.take 736).take (a0h n).length=s.take (a0h n).length:=by rw [List.take_take,Nat.min_eq_left (by omega)]
   have e4:(r.take (736-(a0h n).length)).take 4=r.take 4:=by rw [List.take_take,Nat.min_eq_left (by omega)]
   have e5:(r.take (736-(a0h n).length)).take (4+n)=r.take (4+n):=by rw [List.take_take,Nat.min_eq_left (by omega)]
   rw [e3,e4,e5]
   split<;>rfl
theorem a6L {t:List UInt8} (h:t.length<=700):(a8n (a1e t)).length<=736:=by
 have h1:=b1S h
 have l1:(a2H (ofN (a0h t.length++t))).length=4:=rfl
 simp only [a8n,a1e,if_neg (show ¬700<t.length by omega),List.length_append,List.length_replicate,l1,b1I]
 omega
theorem c1Q {s b:List UInt8} {n:Nat} (h:b.length<=n):a8m (s.take n) b=a8m s b:=by
 cases hp:a8m s b
 ·cases hq:a8m (s.take n) b
  ·rfl
  ·exfalso
   have:=a5g.1 hq
   rw [List.take_take,Nat.min_eq_left h] at this
   rw [a5g.2 this] at hp
   cases hp
 ·have:=a5g.1 hp
  apply a5g.2
  rw [List.take_take,Nat.min_eq_left h]
  exact this
theorem b39 (s:List UInt8):a00 (s.take 736)=a00 s:=by
 by_cases h:s.length<=736
 ·rw [List.take_of_length_le h]
 have ht:=c1P (s:=s) (by omega)
 have hf:a0U (s.take 736)=a0U s:=by
  unfold a0U
  cases h1:a2Y (s.take 736) with
  |none=>
   rw [h1] at ht
   cases h2:a2Y s with
   |none=>rfl
   |some q=>rw [h2] at ht;simp at ht
  |some q=>
   rw [h1] at ht
   cases h2:a2Y s with
   |none=>rw [h2] at ht;simp at ht
   |some q2=>
    rw [h2] at ht
    obtain ⟨t,r⟩:=q
    obtain ⟨t2,r2⟩:=q2
    simp at ht
    subst ht
    simp only
    obtain ⟨_,ht7⟩:=a6r h2
    cases hr:(a2i t).2
    ·rfl
    ·simp only [if_true]
     have hp:=a9j hr
     have hb1:(a0j (a2i t).1).1=a8n (a1e t):=by rw [a0j,hp,if_neg (by omega)]
     rw [hb1,c1Q (a6L ht7)]
 unfold a00
 rw [hf]
def a1H:Nat->List (List UInt8)->Nat->List a0i×List Int×Nat
 |0,_,a=>([],[],a)
 |k+1,l,a=>if (a00 l.flatten).2.2=true then
   ((a00 l.flatten).1::(a1H k (l.drop (a00 l.flatten).2.1) (a+(a00 l.flatten).2.1)).1,(a:Int)::(a1H k (l.drop (a00 l.flatten).2.1) (a+(a00 l.flatten).2.1)).2.1,(a1H k (l.drop (a00 l.flatten).2.1) (a+(a00 l.flatten).2.1)).2.2)
  else ([],[],a)
theorem a81 {l:List (List UInt8)} (h:∀x∈l,x.length=32) (n:Nat):(l.take n).flatten=l.flatten.take (32*n):=by
 induction n generalizing l with
 |zero=>simp
 |succ n ih=>
  cases l with
  |nil=>simp
  |cons x l=>
   have hx:=h x List.mem_cons_self
   rw [List.take_succ_cons,List.flatten_cons,List.flatten_cons,ih fun y hy=>h y (List.mem_cons_of_mem _ hy),List.take_append,List.take_of_length_le (show x.length<=32*(n+1) by omega),hx,show 32*(n+1)-32=32*n by omega]
theorem b6r {l:List (List UInt8)} (h:∀x∈l,x.length=32) (n:Nat):(l.drop n).flatten=l.flatten.drop (32*n):=by
 induction n generalizing l with
 |zero=>simp
 |succ n ih=>
  cases l with
  |nil=>simp
  |cons x l=>
   have hx:=h x List.mem_cons_self
   rw [List.drop_succ_cons,List.flatten_cons,ih fun y hy=>h y (List.mem_cons_of_mem _ hy),List.drop_append,List.drop_of_length_le (show x.length<=32*(n+1) by omega),hx,List.nil_append,show 32*(n+1)-32=32*n by omega]
theorem b6s:a00 []=(zeroE,0,false):=by simp [a00,a0U,a2Y,takeN,a3D]
theorem a4Z {l:List (List UInt8)} (h:secs l):a00 l.flatten=if (a0U (l.take 23).flatten).2.2=true then a0U (l.take 23).flatten else (zeroE,0,false):=by
 rw [<-b39,a81 h 23]
 rfl
theorem a83:∀(k:Nat) (l:List (List UInt8)) (a:Nat),secs l->(a1H k l a).1=(a1R k l a).1/\(a1H k l a).2.2=(a1R k l a).2
 |0,l,a,_=>⟨rfl,rfl⟩
 |k+1,l,a,h=>by
  unfold a1H a1R
  by_cases hl:l=[]
  ·subst hl
   simp [b6s]
  ·rw [if_neg hl,a4Z h]
   cases hf:(a0U (l.take 23).flatten).2.2
   ·simp
   ·have ih:=a83 k (l.drop (a0U (l.take 23).flatten).2.1) (a+(a0U (l.take 23).flatten).2.1) fun x hx=>h x (List.mem_of_mem_drop hx)
    simp [hf,ih.1,ih.2]
open Go Go.Proofs
def b74:List AV->Option (Prop×AV):=t1 (fun s=>s.length<100000) fun s:List UInt8=>a2f (a00 s)
@[simp] theorem e4u {l:List AV}:b74 l=(t1 (fun s=>s.length<100000) fun s:List UInt8=>a2f (a00 s)) l:=(rfl)
def FJ4:CT:=(98,.pu b74)::FJ3
theorem c9o:a1k Tryz.prog FJ4:=⟨a0n fun s h=>b6q s h,c9n⟩
@[simp] theorem d9f:a0c FJ4 98=some (.pu b74):=(rfl)
@[simp] theorem e4v {n:Nat} (h:(n==98)=false):a0c FJ4 n=a0c FJ3 n:=by
 simp only [Bool.or_eq_false_iff,beq_eq_false_iff_ne,ne_eq] at h
 simp [FJ4,a0c,h]
def a0I (d:a0k):List a0i×List Int×Nat:=a1H d.safe.length d.safe 0
def a1F (r:List a0i×List Int×Nat):AV:=.t [(false,[.nw 97 13 (a0a r.1)]),(false,[.nw 3 1 (a0a r.2.1)]),(false,[.raw (.int .i64 r.2.2)])]
def c7R (d:a0k) (q:Nat) (st:St):Prop:=∃i:Nat,i<=d.safe.length/\q=d.safe.length-i/\st.s 1=.c (.pt (0,1) 0 0)/\st.s 5=.c (.str (d.safe.take i).flatten)/\st.s 6=.c (.raw (.int .i64 i))/\
 st.H (0,1)=.arr 25 2 false [[.sl .brw false (a0a d.safe),.sl .brw false (a0a d.wait)]]/\a0E st.H st.T
def c7S (d:a0k) (q:Nat) (st:St):Prop:=∃(a k:Nat) (b9I:List a0i) (c0Y:List Int),a<=d.safe.length/\q=d.safe.length-a/\d.safe.length-a<=k/\b9I.length<=a/\c0Y.length<=a/\
 b9I++(a1H k (d.safe.drop a) a).1=(a0I d).1/\c0Y++(a1H k (d.safe.drop a) a).2.1=(a0I d).2.1/\(a1H k (d.safe.drop a) a).2.2=(a0I d).2.2/\
 st.s 5=.c (.str d.safe.flatten)/\st.s 9=.c (.raw (.int .i64 a))/\a0E st.H st.T/\
 ((st.s 7=.c (.raw (.slice none 0 0))/\st.s 8=.c (.raw (.slice none 0 0))/\b9I=[]/\c0Y=[])\/
  ∃g h,st.s 7=.c (.so g 0 b9I.length)/\st.s 8=.c (.so h 0 c0Y.length)/\st.H g=.arr 97 13 false (a0a b9I)/\st.H h=.arr 3 1 false (a0a c0Y))
theorem c1R {Q:AEx->St->Prop} {st:St} (d:a0k) (hs:secs d.safe) (hl:d.safe.length<1000) (k1:st.s 1=.c (.pt (0,1) 0 0)) (k5:st.s 5=.c (.str [])) (k6:st.s 6=.c (.raw (.int .i64 0)))
  (hH:st.H (0,1)=.arr 25 2 false [[.sl .brw false (a0a d.safe),.sl .brw false (a0a d.wait)]]) (hf:a0E st.H st.T)
  (hn:∀st',st'.s 5=.c (.str d.safe.flatten)->a0E st'.H st'.T->Q (.exit 0) st') :
  a2S Tryz.prog FJ4 (.loop c3M) Q st:=by
 refine a6I (c7R d) d.safe.length ⟨0,by omega,rfl,k1,by simpa using k5,k6,hH,hf⟩ ?_
 rintro q st ⟨i,hi,rfl,k1,k5,k6,hH,hf⟩ J hJ
 have hfu:∀k d,st.T<=k->st.H (k,d)=.a0g:=hf
 by_cases hlt:i<d.safe.length
 ·have hlt':(i:Int)<d.safe.length:=by omega
  have hw:IntKind.wrap .i64 ((i:Int)+1)=((i+1:Nat):Int):=by rw [a0d]<;>omega
  have hfl:(d.safe.take i).flatten.length=32*i:=by
   rw [a7H fun x hx=>hs x (List.mem_of_mem_take hx),List.length_take,Nat.min_eq_left hi]
  have h32:d.safe[i].length=32:=hs _ (List.getElem_mem hlt)
  generalize hX:(d.safe.take i).flatten=X at k5 hfl
  have hle:X.length+d.safe[i].length<=9223372036854775807:=by omega
  simp [c3M,k1,k5,k6,hH,hlt,hlt',hw,hle]
  refine ⟨d.safe.length-(i+1),by omega,hJ _ _ ⟨i+1,by omega,rfl,by simp [k1],?_,by simp,by simpa using hH,by simp;exact hf.mono (by omega)⟩⟩
  rw [<-List.take_append_getElem hlt,List.flatten_append,hX]
  simp
 ·have hlt':¬(i:Int)<d.safe.length:=by omega
  have hi2:i=d.safe.length:=by omega
  simp [c3M,k1,k5,k6,hH,hlt,hlt']
  refine hn _ ?_ (by simp;exact hf.mono (by omega))
  simp [k5]
  rw [hi2,List.take_length]
theorem a6t (d:a0k) (hs:secs d.safe) (hl:d.safe.length<1000) (hw:d.wait.length<1000000):PEv Tryz.prog 48 [Arg.enc d] (a1F (a0I d)):=by
 refine a0f mixed c9o Tryz.func48 f9w f9x (by kernel_rfl) (by simp [a1F]) (by simp) ?_
 simp [s48]
 refine c1R d hs hl (by simp) (by simp) (by simp) (by simp) (by simp;(repeat' (first|exact a1n.mono (Nat.zero_le _)|(refine a0E.set' ?_ (by simp))))) ?_
 intro st k5 hf
 simp
 refine a6I (c7S d) d.safe.length ⟨0,d.safe.length,[],[],by omega,rfl,by omega,by simp,by simp,by simp [a0I],by simp [a0I],by simp [a0I],by simp [k5],by simp,by simp;exact hf.mono (by omega),.inl ⟨by simp,by simp,rfl,rfl⟩⟩ ?_
 rintro q st ⟨a,k,b9I,c0Y,ha,rfl,hk,hlE,hlI,hr1,hr2,hr3,k5,k9,hf,hown⟩ J hJ
 have hfu:∀k d,st.T<=k->st.H (k,d)=.a0g:=hf
 have hs2:secs (d.safe.drop a):=fun x hx=>hs x (List.mem_of_mem_drop hx)
 have hfl:d.safe.flatten.length=32*d.safe.length:=a7H hs
 have hdr:d.safe.flatten.drop (32*a)=(d.safe.drop a).flatten:=(b6r hs a).symm
 have g1a:(d.safe.drop a).flatten.length=32*(d.safe.length-a):=by rw [a7H hs2,List.length_drop]
 have w1:IntKind.wrap .i64 ((a:Int)*32)=((32*a:Nat):Int):=by rw [a0d]<;>omega
 have hle:((32*a:Nat):Int)<=d.safe.flatten.length:=by omega
 have f3W:32*a<=d.safe.flatten.length:=by omega
 have hl5:(d.safe.drop a).flatten.length<100000:=by omega
 obtain ⟨b,hb⟩:∃b,32*a=b:=⟨_,rfl⟩
 obtain ⟨S,hS⟩:∃S,S=d.safe.flatten:=⟨_,rfl⟩
 rw [<-hS] at hle f3W hdr hfl k5
 rw [hb] at w1 hle f3W hdr
 rcases hx:a00 (d.safe.drop a).flatten with ⟨e,n,ok⟩
 rw [<-hdr] at hl5
 have hx':=hx
 rw [<-hdr] at hx'
 have gt:∀t:Nat,t<10->∀d,10<=d->(t=d)=False:=fun t ht d hd=>by simp;omega
 have hn:ok=true->1<=n/\a+n<=d.safe.length:=fun hok=>by
  rw [a4Z hs2] at hx
  split at hx
  ·rename_i hf1
   have:=a57 hf1
   rw [hx] at this
   simp only at this
   have h3:(((d.safe.drop a).take 23).flatten).length<=32*(d.safe.length-a):=by
    rw [a7H fun x hx=>hs2 x (List.mem_of_mem_take hx),List.length_take,List.length_drop]
    omega
   omega
  ·cases hx;cases hok
 have hacc:b9I.length<1000000:=by omega
 refine a3z (fun st'=>st'.s 12=.c (.raw (.bool ok))/\st'.s 11=.c (.raw (.int .i64 n))/\(∃v,st'.s 10=.c (.pt v 0 0)/\st'.H v=.arr 97 13 false [a0m .old e])/\(∀t,t<10->st'.s t=st.s t)/\a3f [] st.H st.T st'.H st'.T) ?_ ?_
 ·intro R' hR
  have g0q:S.length-b<100000:=by simpa using hl5
  simp [k5,k9,w1,hle,f3W,g0q,hx',a2f,a0m,a0e,hfu]
  refine hR _ ⟨by simp,by simp,⟨(st.T,10),by simp,by simp [a0m,a0e]⟩,fun t ht=>by simp [gt t ht],?_⟩
  have he:=a3f.refl (S:=[]) hf
  repeat' (first|exact he.tick (by first|omega|(simp<;>omega))|(refine a3f.new ?_ (by first|omega|(simp<;>omega)) (by first|omega|(simp<;>omega)))|(refine a3f.set ?_ (by simp) (by first|omega|(simp<;>omega))))
 rintro st2 ⟨k12,k11,⟨v,k10,hv⟩,hs3,he⟩
 have q7:=hs3 7 (by omega)
 have q8:=hs3 8 (by omega)
 have q9:=(hs3 9 (by omega)).trans k9
 have q5:=(hs3 5 (by omega)).trans k5
 have hf2:=he.fresh
 have hfu2:∀k d,st2.T<=k->st2.H (k,d)=.a0g:=hf2
 have hown2:(st2.s 7=.c (.raw (.slice none 0 0))/\st2.s 8=.c (.raw (.slice none 0 0))/\b9I=[]/\c0Y=[])\/
  ∃g h,st2.s 7=.c (.so g 0 b9I.length)/\st2.s 8=.c (.so h 0 c0Y.length)/\st2.H g=.arr 97 13 false (a0a b9I)/\st2.H h=.arr 3 1 false (a0a c0Y):=by
  rcases hown with ⟨a,b,c,d⟩|⟨g,h,a,b,c,d⟩
  ·exact .inl ⟨q7.trans a,q8.trans b,c,d⟩
  ·exact .inr ⟨g,h,q7.trans a,q8.trans b,he.arr c (by simp),he.arr d (by simp)⟩
 clear hown q7 q8 hs3 hfu k9 k5 hf
 cases ok
 ·have hz:a1H k (d.safe.drop a) a=([],[],a):=by
   cases k with
   |zero=>rfl
   |succ k=>rw [a1H,hx];simp
  rw [hz] at hr1 hr2 hr3
  simp at hr1 hr2 hr3
  have hav:a1F (a0I d)=.t [(false,[.nw 97 13 (a0a b9I)]),(false,[.nw 3 1 (a0a c0Y)]),(false,[.raw (.int .i64 a)])]:=by rw [a1F,<-hr1,<-hr2,<-hr3]
  rw [hav]
  rcases hown2 with ⟨q7,q8,rfl,rfl⟩|⟨g,h,q7,q8,hg,hh⟩
  ·simp [k12,q7,q8,q9]
  ·have n1:(g=h)=False:=by simp;rintro rfl;rw [hg] at hh;simp at hh
   have n2:(h=g)=False:=by simp;rintro rfl;rw [hg] at hh;simp at hh
   simp [k12,q7,q8,q9,hg,hh,n1,n2]
 obtain ⟨hn1,hn2⟩:=hn rfl
 obtain ⟨k,rfl⟩:∃j,k=j+1:=⟨k-1,by omega⟩
 rw [a1H,hx] at hr1 hr2 hr3
 simp only [if_true] at hr1 hr2 hr3
 rw [List.drop_drop] at hr1 hr2 hr3
 have w2:IntKind.wrap .i64 ((a:Int)+n)=((a+n:Nat):Int):=by rw [a0d]<;>omega
 have g0r:∀t,t<13->∀d,13<=d->(t=d)=False:=fun t ht d hd=>by simp;omega
 refine a3z (fun st'=>(∀t,t<13->st'.s t=st2.s t)/\st'.H=st2.H/\st2.T<=st'.T) ?_ ?_
 ·intro R' hR
  simp [k12]
  exact hR _ ⟨fun t ht=>by simp [g0r t ht],by simp,by simp⟩
 rintro st3 ⟨hs3,hH3,hT3⟩
 have k10:=(hs3 10 (by omega)).trans k10
 have k11:=(hs3 11 (by omega)).trans k11
 have q9:=(hs3 9 (by omega)).trans q9
 have q5:=(hs3 5 (by omega)).trans q5
 have hf3:a0E st3.H st3.T:=by rw [hH3];exact hf2.mono hT3
 rw [<-hH3] at hv hown2
 have hfu:∀k d,st3.T<=k->st3.H (k,d)=.a0g:=hf3
 obtain ⟨p1,p2,p3⟩:=hf3.arr hv
 have lE:(b9I++[e]).length<=a+n:=by simp;omega
 have lI:(c0Y++[(a:Int)]).length<=a+n:=by simp;omega
 have hfin:∀st':St,st'.s 5=.c (.str d.safe.flatten)->st'.s 9=.c (.raw (.int .i64 ((a+n:Nat):Int)))->a0E st'.H st'.T->
   (∃g h,st'.s 7=.c (.so g 0 (b9I++[e]).length)/\st'.s 8=.c (.so h 0 (c0Y++[(a:Int)]).length)/\st'.H g=.arr 97 13 false (a0a (b9I++[e]))/\st'.H h=.arr 3 1 false (a0a (c0Y++[(a:Int)])))->∃m,m<d.safe.length-a/\J m st':=
  fun st' h5 h9 hf ho=>⟨d.safe.length-(a+n),by omega,hJ _ _ ⟨a+n,k,b9I++[e],c0Y++[(a:Int)],hn2,rfl,by omega,lE,lI,by rw [List.append_assoc];exact hr1,by rw [List.append_assoc];exact hr2,hr3,h5,h9,hf,.inr ho⟩⟩
 rw [hS] at q5
 rcases hown2 with ⟨q7,q8,rfl,rfl⟩|⟨g,h,q7,q8,hg,hh⟩
 ·have q7:=(hs3 7 (by omega)).trans q7
  have q8:=(hs3 8 (by omega)).trans q8
  simp [q7,q8,q9,k10,k11,hv,a0m,a0e,hfu,p1,p2,w2]
  refine hfin _ (by simp [q5]) (by simp) (by simp;have hf:=hf3;repeat' (first|exact hf.mono (by first|omega|(simp<;>omega))|(refine a0E.set' ?_ (by first|omega|(simp<;>omega))))) ⟨(st3.T,44),(st3.T,48),by simp,by simp,?_,?_⟩
  ·simp
   rfl
  ·simp
   rfl
 ·have q7:=(hs3 7 (by omega)).trans q7
  have q8:=(hs3 8 (by omega)).trans q8
  obtain ⟨p4,p5,p6⟩:=hf3.arr hg
  obtain ⟨p7,p8,p9⟩:=hf3.arr hh
  have n1:(g=h)=False:=by simp;rintro rfl;rw [hg] at hh;simp at hh
  have n2:(h=g)=False:=by simp;rintro rfl;rw [hg] at hh;simp at hh
  simp [q7,q8,q9,k10,k11,hv,hg,hh,a0m,a0e,hfu,p1,p2,p4,p5,p7,p8,n1,n2,w2]
  refine ⟨⟨by omega,by omega⟩,⟨by omega,by omega⟩,hfin _ (by simp [q5]) (by simp) ?_ ⟨(st3.T,44),(st3.T,48),by simp,by simp,by simp [a0a,a0m,a0e,p4,p5,p7,p8],by simp [a0a,p4,p5,p7,p8]⟩⟩
  simp
  have hf:=hf3
  repeat' (first|exact hf.mono (by first|omega|(simp<;>omega))|(refine a0E.set' ?_ (by first|omega|(simp<;>omega))))
def d1m:List AV->Option (Prop×AV):=t1 (fun d=>secs d.safe/\d.safe.length<1000/\d.wait.length<1000000) fun d:a0k=>a1F (a0I d)
def FJ5:CT:=(48,.pu d1m)::FJ4
theorem c45:a1k Tryz.prog FJ5:=⟨a0n fun d h=>a6t d h.1 h.2.1 h.2.2,c9o⟩
@[simp] theorem e4w {n:Nat} (h:(n==48)=false):a0c FJ5 n=a0c FJ4 n:=by
 simp only [Bool.or_eq_false_iff,beq_eq_false_iff_ne,ne_eq] at h
 simp [FJ5,a0c,h]
open Go
theorem a9k {d:a0k} (h:a1N d=true) {n:Int} {s:List UInt8} (hs:s.length=32) (h0:0<=n) (h1:n<d.safe.length) (h2:d.wait.length<400):a1N ⟨d.safe,d.wait++[⟨n,s⟩]⟩=true/\a9i d n s=(⟨d.safe,d.wait++[⟨n,s⟩]⟩,0):=by
 constructor
 ·simp only [a1N,Bool.and_eq_true,decide_eq_true_eq,List.all_append,List.length_append,List.length_cons,List.length_nil] at h ⊢
  obtain ⟨⟨⟨⟨a1,a2⟩,a3⟩,a4⟩,a5⟩:=h
  refine ⟨⟨⟨⟨a1,a2⟩,by omega⟩,a4⟩,a5,?_⟩
  simp [a2Z,hs,a4Y]
  omega
 ·rw [a9i,if_neg (by simp [h,hs]),if_neg (by omega),if_neg (by omega)]
def wsF (B:List UInt8) (at_:Int) (i k:Nat):List a4M:=(List.range k).map fun j=>⟨at_+((i+j:Nat):Int),a7c B (i+j)⟩
theorem c0z (B:List UInt8) (at_:Int) (i k:Nat):wsF B at_ i (k+1)=⟨at_+(i:Int),a7c B i⟩::wsF B at_ (i+1) k:=by
 simp only [wsF,List.range_succ_eq_map,List.map_cons,List.map_map,Nat.add_zero]
 congr 1
 apply List.map_congr_left
 intro j _
 simp only [Function.comp,Nat.succ_eq_add_one]
 rw [show i+(j+1)=i+1+j by omega]
theorem c7T (B:List UInt8) (at_:Int) (k:Nat):wsF B at_ 0 (k+1)=wsF B at_ 0 k++[⟨at_+(k:Int),a7c B k⟩]:=by
 simp [wsF,List.range_succ]
theorem b75 (B:List UInt8) (at_:Int) (i k:Nat):(wsF B at_ i k).length=k:=by simp [wsF]
theorem a9l {B:List UInt8} {i:Nat} (h:32*(i+1)<=B.length):(a7c B i).length=32:=by
 simp only [a7c,List.length_take,List.length_drop]
 omega
theorem b4a {B:List UInt8} {at_:Int} (h0:0<=at_):∀(k i:Nat) (d:a0k),a1N d=true->at_+((i+k:Nat):Int)<=d.safe.length->32*(i+k)<=B.length->d.wait.length+k<=400->b6j B at_ k i d=(⟨d.safe,d.wait++wsF B at_ i k⟩,0)/\a1N ⟨d.safe,d.wait++wsF B at_ i k⟩=true
 |0,i,d,hm,h1,h2,h3=>by
  simp [b6j,wsF]
  exact hm
 |k+1,i,d,hm,h1,h2,h3=>by
  obtain ⟨m1,m2⟩:=a9k hm (n:=at_+(i:Int)) (s:=a7c B i) (a9l (by omega)) (by omega) (by omega) (by omega)
  have ih:=b4a (B:=B) h0 k (i+1) ⟨d.safe,d.wait++[⟨at_+(i:Int),a7c B i⟩]⟩ m1 (by simp only;omega) (by omega) (by simp;omega)
  rw [b6j,m2,if_pos rfl,ih.1,c0z]
  simp only [List.append_assoc,List.singleton_append] at ih ⊢
  exact ⟨trivial,ih.2⟩
theorem b6t {B:List UInt8} {at_:Int} (h0:0<=at_):∀(k i:Nat) (d:a0k),a1N d=true->at_+((i+k:Nat):Int)<=d.safe.length->32*(i+k)<=B.length->400<d.wait.length+k->b6j B at_ k i d=(noD,6)
 |0,i,d,hm,h1,h2,h3=>by have:=a2M hm;omega
 |k+1,i,d,hm,h1,h2,h3=>by
  by_cases h4:d.wait.length=400
  ·have hp:a9i d (at_+(i:Int)) (a7c B i)=(⟨[],[]⟩,6):=by
    rw [a9i,if_neg (by simp [hm,a9l (B:=B) (i:=i) (by omega)]),if_neg (by omega),if_pos (by omega)]
   rw [b6j,hp,if_neg (by simp)]
  ·have:=a2M hm
   obtain ⟨m1,m2⟩:=a9k hm (n:=at_+(i:Int)) (s:=a7c B i) (a9l (by omega)) (by omega) (by omega) (by omega)
   rw [b6j,m2,if_pos rfl]
   exact b6t (B:=B) h0 k (i+1) _ m1 (by simp only;omega) (by omega) (by simp;omega)
def a42 (d:a0k) (at_:Int) (e:a0i):a0k×Int×Int:=
 if (a0j e).2=0 then
  if (d.safe.length:Int)<at_\/(d.safe.length:Int)-at_<((a0j e).1.length/32:Nat)\/(400:Int)-d.wait.length<((a0j e).1.length/32:Nat) then (noD,0,6)
  else (⟨d.safe,d.wait++wsF (a0j e).1 at_ 0 ((a0j e).1.length/32)⟩,at_+((a0j e).1.length/32:Nat),0)
 else (noD,0,2)
theorem c1S {d:a0k} {at_:Int} {e:a0i} (hm:a1N d=true) (he:a0J e=true) (h0:0<=at_):a42 d at_ e=a1v d at_ e:=by
 unfold a42 a1v
 rw [if_pos (show a1N d=true/\a0J e=true/\0<=at_ from ⟨hm,he,h0⟩)]
 by_cases hf:(a0j e).2=0
 ·obtain ⟨f1,f2,f3⟩:=a6s hf
  rw [if_pos hf,if_pos hf]
  generalize (a0j e).1.length/32=n at f1 f2 f3
  have hw:=a2M hm
  by_cases h1:(n:Int)>(d.safe.length:Int)-min at_ (d.safe.length:Int)
  ·rw [if_pos h1,if_pos (by omega)]
  ·rw [if_neg h1]
   by_cases h2:d.wait.length+n<=400
   ·obtain ⟨a1,a2⟩:=b4a (B:=(a0j e).1) h0 n 0 d hm (by omega) (by omega) h2
    rw [if_neg (by omega),a1,if_pos rfl]
   ·have a1:=b6t (B:=(a0j e).1) h0 n 0 d hm (by omega) (by omega) (by omega)
    rw [if_pos (by omega),a1,if_neg (by simp)]
 ·rw [if_neg hf,if_neg hf]
  congr 2
  unfold a0j at hf ⊢
  split at hf
  ·rename_i h7;rw [if_pos h7]
  ·exact absurd rfl hf
open Go Go.Proofs
def a84 (H:Heap) (v:Id) (d:a0k):Prop:=H v=.arr 25 2 false [[.sl .brw false (a0a d.safe),.sl .brw false (a0a d.wait)]]\/
 ∃j1 j2,j1≠j2/\H v=.arr 25 2 false [[.so j1 0 d.safe.length,.so j2 0 d.wait.length]]/\H j1=.arr 9 1 false (a0a d.safe)/\H j2=.arr 125 2 false (a0a d.wait)
def ApB (at_:Int) (st:St):Prop:=st.s 1=.c (.raw (.int .i64 at_))/\st.s 3=.c (.pt (0,3) 0 0)/\st.s 6=.c (.pt (0,6) 0 0)/\st.H (0,6)=.arr 25 2 false [[.raw (.slice none 0 0),.raw (.slice none 0 0)]]/\a0E st.H st.T
def d1n (d:a0k) (at_:Int) (b:List UInt8) (n:Nat) (q:Nat) (st:St):Prop:=∃i:Nat,i<=n/\q=n-i/\ApB at_ st/\st.s 9=.c (.str b)/\st.s 11=.c (.raw (.int .i64 n))/\st.s 12=.c (.raw (.int .i64 i))/\
 a84 st.H (0,3) ⟨d.safe,d.wait++wsF b at_ 0 i⟩/\(0<i->∃j1 j2,st.H (0,3)=.arr 25 2 false [[.so j1 0 d.safe.length,.so j2 0 (d.wait++wsF b at_ 0 i).length]])
theorem c1T {d:a0k} {n:Int} {s:List UInt8} (h0:0<=n) (h1:n<d.safe.length) (h2:d.wait.length<400):a3Y d n s=(⟨d.safe,d.wait++[⟨n,s⟩]⟩,0):=by
 rw [a3Y,if_neg (by omega),if_neg (by omega)]
theorem c46 {Q:AEx->St->Prop} {st:St} (d:a0k) (at_:Int) (b:List UInt8) (n:Nat) (h0:0<=at_) (h1:at_+n<=d.safe.length) (hl:d.safe.length<=400) (h2:d.wait.length+n<=400) (hb:b.length=32*n) (hB:ApB at_ st) (k9:st.s 9=.c (.str b)) (k11:st.s 11=.c (.raw (.int .i64 n))) (k12:st.s 12=.c (.raw (.int .i64 0)))
  (hD:a84 st.H (0,3) d)
  (hn:∀st',ApB at_ st'->st'.s 11=.c (.raw (.int .i64 n))->a84 st'.H (0,3) ⟨d.safe,d.wait++wsF b at_ 0 n⟩->(0<n->∃j1 j2,st'.H (0,3)=.arr 25 2 false [[.so j1 0 d.safe.length,.so j2 0 (d.wait++wsF b at_ 0 n).length]])->Q (.exit 0) st') :
  a2S Tryz.prog FJ5 (.loop b51) Q st:=by
 refine a6I (d1n d at_ b n) n ⟨0,by omega,rfl,hB,k9,k11,k12,by simpa [wsF] using hD,by simp⟩ ?_
 rintro q st ⟨i,hi,rfl,⟨q1,q3,q6,hH6,hf⟩,q9,q11,q12,hD,hso⟩ J hJ
 have hfu:∀k d,st.T<=k->st.H (k,d)=.a0g:=hf
 by_cases hlt:i<n
 ·have hlt':(i:Int)<n:=by omega
  have w1:IntKind.wrap .i64 (at_+i)=at_+i:=by rw [a0d]<;>omega
  have w2:IntKind.wrap .i64 ((i:Int)*32)=((32*i:Nat):Int):=by rw [a0d]<;>omega
  have w3:IntKind.wrap .i64 ((i:Int)+1)=((i+1:Nat):Int):=by rw [a0d]<;>omega
  have w4:IntKind.wrap .i64 (((i:Int)+1)*32)=((32*i+32:Nat):Int):=by rw [a0d]<;>omega
  obtain ⟨lo,hlo⟩:∃x,x=32*i:=⟨_,rfl⟩
  obtain ⟨hi2,hhi⟩:∃x,x=32*i+32:=⟨_,rfl⟩
  rw [<-hlo] at w2
  rw [<-hhi] at w4
  have w5:lo<=hi2:=by omega
  have w6:hi2<=b.length:=by omega
  have b02:(b.take hi2).drop lo=a7c b i:=by
   rw [a7c,List.drop_take,<-hlo,hhi,hlo]
   congr 1
   omega
  obtain ⟨W,hW⟩:∃W,W=d.wait++wsF b at_ 0 i:=⟨_,rfl⟩
  have hWl:W.length=d.wait.length+i:=by rw [hW,List.length_append,b75]
  have hW2:W++[⟨at_+(i:Int),a7c b i⟩]=d.wait++wsF b at_ 0 (i+1):=by rw [hW,c7T];simp
  rw [<-hW] at hD hso
  have b1:d.safe.length<1000000:=by omega
  have b2:W.length<1000000:=by omega
  have hp:a3Y ⟨d.safe,W⟩ (at_+(i:Int)) (a7c b i)=(⟨d.safe,W++[⟨at_+(i:Int),a7c b i⟩]⟩,0):=c1T (by omega) (by simp only;omega) (by simp only;omega)
  have hWW:(d.wait++wsF b at_ 0 (i+1)).length=W.length+1:=by rw [<-hW2];simp
  have fin:∀st':St,ApB at_ st'->st'.s 9=.c (.str b)->st'.s 11=.c (.raw (.int .i64 n))->st'.s 12=.c (.raw (.int .i64 ((i+1:Nat):Int)))->(∃j1 j2,j1≠j2/\st'.H (0,3)=.arr 25 2 false [[.so j1 0 d.safe.length,.so j2 0 (W.length+1)]]/\st'.H j1=.arr 9 1 false (a0a d.safe)/\st'.H j2=.arr 125 2 false (a0a (W++[⟨at_+(i:Int),a7c b i⟩])))->
    ∃m,m<n-i/\J m st':=by
   rintro st' a1 a2 a3 a4 ⟨j1,j2,b1,b2,b3,b4⟩
   rw [hW2] at b4
   exact ⟨n-(i+1),by omega,hJ _ _ ⟨i+1,by omega,rfl,a1,a2,a3,a4,.inr ⟨j1,j2,b1,by rw [hWW];exact b2,b3,b4⟩,fun _=>⟨j1,j2,by rw [hWW];exact b2⟩⟩⟩
  rcases hD with hH3|⟨j1,j2,hjj,hH3,hj1,hj2⟩
  ·obtain ⟨p1,p2,p3⟩:=hf.arr hH3
   obtain ⟨p4,p5,p6⟩:=hf.arr hH6
   simp [b51,q1,q3,q6,q9,q11,q12,hH6,hH3,hlt',w1,w2,w3,w4,w5,w6,b1,b2,b02,hp,a1j,a0y,hfu,p1,p2,p4,p5]
   refine fin _ ⟨by simp (maxDischargeDepth:=8) [q1],by simp [q3],by simp [q6],by simp [hH6,p1,p2,p4,p5,Nat.le_add_right_of_le],?_⟩ (by simp [q9]) (by simp [q11]) (by simp) ⟨(st.T+1,66560),(st.T+1,66561),by simp,by simp [p1,p2,Nat.le_add_right_of_le],by simp [p1,p2,Nat.le_add_right_of_le],by simp [p1,p2,Nat.le_add_right_of_le]⟩
   simp
   repeat' (first|exact hf.mono (by first|omega|(simp<;>omega))|(refine a0E.set' ?_ (by first|omega|(simp<;>omega))))
  ·obtain ⟨p1,p2,p3⟩:=hf.arr hH3
   obtain ⟨p4,p5,p6⟩:=hf.arr hH6
   obtain ⟨p7,p8,p9⟩:=hf.arr hj1
   obtain ⟨p10,p11,p12⟩:=hf.arr hj2
   simp [b51,q1,q3,q6,q9,q11,q12,hH6,hH3,hj1,hj2,hlt',w1,w2,w3,w4,w5,w6,b1,b2,b02,hp,a1j,a0y,hfu,p1,p2,p4,p5]
   refine fin _ ⟨by simp (maxDischargeDepth:=8) [q1],by simp [q3],by simp [q6],by simp [hH6,p1,p2,p4,p5,Nat.le_add_right_of_le],?_⟩ (by simp [q9]) (by simp [q11]) (by simp) ⟨(st.T+1,66560),(st.T+1,66561),by simp,by simp [p1,p2,Nat.le_add_right_of_le],by simp [p1,p2,Nat.le_add_right_of_le],by simp [p1,p2,Nat.le_add_right_of_le]⟩
   simp
   repeat' (first|exact hf.mono (by first|omega|(simp<;>omega))|(refine a0E.set' ?_ (by first|omega|(simp<;>omega))))
 ·have hin:i=n:=by omega
  subst hin
  have hlt':¬(i:Int)<i:=by omega
  simp [b51,q1,q3,q6,q9,q11,q12]
  exact hn _ ⟨by simp [q1],by simp [q3],by simp [q6],by simpa using hH6,by simp;exact hf.mono (by omega)⟩ (by simp [q11]) (by simpa using hD) (by simpa using hso)
theorem a86 (d:a0k) (at_:Int) (e:a0i) (hm:a1N d=true) (he:okF e) (h0:0<=at_) (h1:at_<9223372036854775808) :
  PEv Tryz.prog 124 [Arg.enc d,.c (.raw (.int .i64 at_)),Arg.enc e] (a2l (a42 d at_ e)):=by
 refine a0f mixed c45 Tryz.func124 e9I e9J (by kernel_rfl) (by simp [a2l,a0y]) (by simp [a0m,a0e]) ?_
 obtain ⟨_,_,c8C⟩:=a1f hm
 have c5Z:=a2M hm
 have hno:∀c:Int,a42 d at_ e=(noD,0,c)->∀st',(st'.s 6=.c (.pt (0,6) 0 0)/\st'.H (0,6)=.arr 25 2 false [[.raw (.slice none 0 0),.raw (.slice none 0 0)]]/\st'.s 7=.c (.raw (.int .i64 0))/\st'.s 8=.c (.raw (.int .i64 c)))->c2B Tryz.prog Tryz.f124 (a2l (a42 d at_ e)) .ret st':=by
  rintro c hR st' ⟨h6,hH,h7,h8⟩
  rw [hR]
  simp [h6,hH,h7,h8,a2l,noD,a0y]
 refine a3z (fun st'=>ApB at_ st'/\st'.s 5=.c (.pt (0,5) 0 0)/\st'.H (0,5)=.arr 97 13 false [a0m .brw e]/\a84 st'.H (0,3) d) ?_ ?_
 ·intro R' hR
  simp [a0m,a0e]
  exact hR _ ⟨⟨by simp,by simp,by simp,by simp,by simp;(repeat' (first|exact a1n.mono (Nat.zero_le _)|(refine a0E.set' ?_ (by simp))))⟩,by simp,by simp [a0m,a0e],.inl (by simp)⟩
 rintro st ⟨⟨q1,q3,q6,hH6,hf⟩,q5,hH5,hD⟩
 have hR1:a42 d at_ e=if (a0j e).2=0 then
  if (d.safe.length:Int)<at_\/(d.safe.length:Int)-at_<((a0j e).1.length/32:Nat)\/(400:Int)-d.wait.length<((a0j e).1.length/32:Nat) then (noD,0,6)
  else (⟨d.safe,d.wait++wsF (a0j e).1 at_ 0 ((a0j e).1.length/32)⟩,at_+((a0j e).1.length/32:Nat),0)
 else (noD,0,2):=rfl
 have hfk:=@a6s e
 have hb:∃b ok,a11 e=.t [(false,[.str b]),(false,[.raw (.bool ok)])]/\(ok=true->a0j e=(b,0))/\(ok=false->(a0j e).2=2):=by
  by_cases h7:700<(a0V e).length
  ·exact ⟨[],false,by rw [a11,a29,if_pos h7],by simp,fun _=>by rw [a0j,if_pos h7]⟩
  ·exact ⟨_,true,by rw [a11,a29,if_neg h7],fun _=>by rw [a0j,if_neg h7],by simp⟩
 obtain ⟨b,ok,hb1,hb2,hb3⟩:=hb
 refine a3z (fun st'=>ApB at_ st'/\a84 st'.H (0,3) d/\st'.s 9=.c (.str b)/\st'.s 10=.c (.raw (.bool ok))) ?_ ?_
 ·intro R' hR
  simp [q5,hH5,a0m,a0e,he,hb1]
  exact hR _ ⟨⟨by simp [q1],by simp [q3],by simp [q6],by simpa using hH6,by simp;exact hf.mono (by omega)⟩,by simpa using hD,by simp,by simp⟩
 clear q1 q3 q6 hH6 hf q5 hH5 hD
 rintro st ⟨⟨q1,q3,q6,hH6,hf⟩,hD,q9,q10⟩
 cases ok
 ·rw [if_neg (by rw [hb3 rfl];simp)] at hR1
  refine a4X _ ?_ (hno 2 hR1)
  intro R' hR
  simp [q6,q10,hH6]
  exact hR _ ⟨by simp [q6],by simp,by simp,by simp⟩
 have hfr:=hb2 rfl
 obtain ⟨f1,f2,f3⟩:=hfk (by rw [hfr])
 rw [if_pos (by rw [hfr])] at hR1
 rw [hfr] at hR1 f1 f2 f3
 simp only at hR1 f1 f2 f3
 obtain ⟨n,hn⟩:∃n,b.length/32=n:=⟨_,rfl⟩
 rw [hn] at hR1 f1 f2 f3
 refine a3z (fun st'=>ApB at_ st'/\a84 st'.H (0,3) d/\st'.s 9=.c (.str b)) ?_ ?_
 ·intro R' hR
  simp [q10]
  exact hR _ ⟨⟨by simp [q1],by simp [q3],by simp [q6],by simpa using hH6,by simp;exact hf.mono (by omega)⟩,by simpa using hD,by simp [q9]⟩
 clear q1 q3 q6 hH6 hf hD q9 q10
 rintro st ⟨⟨q1,q3,q6,hH6,hf⟩,hD,q9⟩
 have w0:(b.length:Int).tdiv 32=(n:Int):=by rw [Int.tdiv_eq_ediv_of_nonneg (by omega)];omega
 have w1:IntKind.wrap .i64 (n:Int)=n:=by rw [a0d]<;>omega
 refine a3z (fun st'=>ApB at_ st'/\a84 st'.H (0,3) d/\st'.s 9=.c (.str b)/\st'.s 11=.c (.raw (.int .i64 n))) ?_ ?_
 ·intro R' hR
  simp [q9,w0,w1]
  exact hR _ ⟨⟨by simp [q1],by simp [q3],by simp [q6],by simpa using hH6,by simp;exact hf.mono (by omega)⟩,by simpa using hD,by simp [q9],by simp⟩
 clear q1 q3 q6 hH6 hf hD q9
 rintro st ⟨⟨q1,q3,q6,hH6,hf⟩,hD,q9,q11⟩
 have w3:IntKind.wrap .i64 ((400:Int)-d.wait.length)=(400:Int)-d.wait.length:=by rw [a0d]<;>omega
 have w2:IntKind.wrap .i64 ((d.safe.length:Int)-at_)=(d.safe.length:Int)-at_:=by rw [a0d]<;>omega
 by_cases c1:(d.safe.length:Int)<at_
 ·rw [if_pos (.inl c1)] at hR1
  refine a4X _ ?_ (hno 6 hR1)
  intro R' hR
  rcases hD with hH3|⟨j1,j2,hjj,hH3,hj1,hj2⟩
  ·simp [q1,q3,q6,q11,hH6,hH3,c1]
   exact hR _ ⟨by simp [q6],by simp,by simp,by simp⟩
  ·simp [q1,q3,q6,q11,hH6,hH3,hj1,hj2,c1]
   exact hR _ ⟨by simp [q6],by simp,by simp,by simp⟩
 by_cases c2:(d.safe.length:Int)-at_<n
 ·rw [if_pos (.inr (.inl c2))] at hR1
  refine a4X _ ?_ (hno 6 hR1)
  intro R' hR
  rcases hD with hH3|⟨j1,j2,hjj,hH3,hj1,hj2⟩
  ·simp [q1,q3,q6,q11,hH6,hH3,c1,c2,w2]
   exact hR _ ⟨by simp [q6],by simp,by simp,by simp⟩
  ·simp [q1,q3,q6,q11,hH6,hH3,hj1,hj2,c1,c2,w2]
   exact hR _ ⟨by simp [q6],by simp,by simp,by simp⟩
 by_cases c3:(400:Int)-d.wait.length<n
 ·rw [if_pos (.inr (.inr c3))] at hR1
  refine a4X _ ?_ (hno 6 hR1)
  intro R' hR
  rcases hD with hH3|⟨j1,j2,hjj,hH3,hj1,hj2⟩
  ·simp [q1,q3,q6,q11,hH6,hH3,c1,c2,c3,w2,w3]
   exact hR _ ⟨by simp [q6],by simp,by simp,by simp⟩
  ·simp [q1,q3,q6,q11,hH6,hH3,hj1,hj2,c1,c2,c3,w2,w3]
   exact hR _ ⟨by simp [q6],by simp,by simp,by simp⟩
 rw [if_neg (by omega)] at hR1
 refine a3z (fun st'=>ApB at_ st'/\a84 st'.H (0,3) d/\st'.s 9=.c (.str b)/\st'.s 11=.c (.raw (.int .i64 n))) ?_ ?_
 ·intro R' hR
  rcases hD with hH3|⟨j1,j2,hjj,hH3,hj1,hj2⟩
  ·simp [q1,q3,q6,q11,hH3,c1,c2,c3,w2,w3]
   exact hR _ ⟨⟨by simp [q1],by simp [q3],by simp [q6],by simpa using hH6,by simp;exact hf.mono (by omega)⟩,.inl (by simpa using hH3),by simp [q9],by simp [q11]⟩
  ·simp [q1,q3,q6,q11,hH3,hj1,hj2,c1,c2,c3,w2,w3]
   exact hR _ ⟨⟨by simp [q1],by simp [q3],by simp [q6],by simpa using hH6,by simp;exact hf.mono (by omega)⟩,.inr ⟨j1,j2,hjj,by simpa using hH3,by simpa using hj1,by simpa using hj2⟩,by simp [q9],by simp [q11]⟩
 clear q1 q3 q6 hH6 hf hD q9 q11
 rintro st ⟨⟨q1,q3,q6,hH6,hf⟩,hD,q9,q11⟩
 simp
 refine c46 d at_ b n h0 (by omega) c8C (by omega) (by omega) ⟨by simp [q1],by simp [q3],by simp [q6],by simpa using hH6,by simp;exact hf.mono (by omega)⟩ (by simp [q9]) (by simp [q11]) (by simp) (by simpa using hD) ?_
 clear q1 q3 q6 hH6 hf hD q9 q11
 rintro st ⟨q1,q3,q6,hH6,hf⟩ q11 hD hso
 obtain ⟨i1,i2,hso⟩:=hso (by omega)
 rw [hR1]
 have w4:IntKind.wrap .i64 (at_+n)=at_+n:=by rw [a0d]<;>omega
 rcases hD with hH3|⟨j1,j2,hjj,hH3,hj1,hj2⟩
 ·rw [hH3] at hso;simp at hso
 ·obtain ⟨W,hW⟩:∃W,W=d.wait++wsF b at_ 0 n:=⟨_,rfl⟩
  rw [<-hW] at hH3 hj2 ⊢
  have n1:((0,6)=j1)=False:=by simp;rintro rfl;rw [hH6] at hj1;simp at hj1
  have n2:((0,6)=j2)=False:=by simp;rintro rfl;rw [hH6] at hj2;simp at hj2
  have n3:(j1=(0,6))=False:=by simp;rintro rfl;rw [hH6] at hj1;simp at hj1
  have n4:(j2=(0,6))=False:=by simp;rintro rfl;rw [hH6] at hj2;simp at hj2
  simp [q1,q3,q6,q11,hH6,hH3,hj1,hj2,w4,a2l,a0y,n1,n2,n3,n4]
  exact hjj
open Go Go.Proofs
theorem a7M:∀(l:List a4M) (n i:Nat) (safe:List (List UInt8)),i+l.length<=n->a1O (List.replicate n 1) i safe l=a39 safe l
 |[],_,_,_,_=>rfl
 |w::r,n,i,safe,h=>by
  have hk:a3n (List.replicate n 1) i=1:=by
   unfold a3n
   have:i<n:=by simp at h;omega
   simp [List.getD,this]
  rw [a1O,a39,a7M r n (i+1) _ (by simp at h;omega),hk]
  rfl
theorem b1T {d:a0k} (h:a1N d=true):a3E d=(⟨a39 d.safe d.wait,[]⟩,0):=by
 rw [a3E,a7E,if_pos h,a7M _ _ _ _ (by omega)]
theorem b0d {at_:Int}:∀(l:List (List UInt8)) (i k:Nat) (d:a0k),(i+k:Nat)<=at_->a1W at_ l i d=a1W at_ (l.drop k) (i+k) d
 |l,i,0,d,_=>rfl
 |[],i,k+1,d,_=>by simp [a1W]
 |s::l,i,k+1,d,h=>by
  rw [a1W,if_pos (.inl (by omega)),b0d l (i+1) k d (by omega),List.drop_succ_cons,show i+1+k=i+(k+1) by omega]
theorem c0A {d:a0k} {n:Int} {s:List UInt8} (hm:a1N d=true) (hs:s.length=32):a9i d n s=a3Y d n s:=by
 rw [a9i,a3Y,if_neg (by simp [hm,hs])]
def ClB (st:St):Prop:=st.s 2=.c (.pt (0,2) 0 0)/\st.s 4=.c (.pt (0,4) 0 0)/\st.H (0,4)=.arr 25 2 false [[.raw (.slice none 0 0),.raw (.slice none 0 0)]]/\a0E st.H st.T
def b0e (H:Heap) (v:Id) (d:a0k):Prop:=∃j1 j2,j1≠j2/\H v=.arr 25 2 false [[.so j1 0 d.safe.length,.so j2 0 d.wait.length]]/\H j1=.arr 9 1 false (a0a d.safe)/\H j2=.arr 125 2 false (a0a d.wait)
def d9g (d:a0k) (k:Nat) (q:Nat) (st:St):Prop:=∃(i:Nat) (W:List a4M),(i<=d.safe.length\/i=k)/\q=d.safe.length-i/\ClB st/\st.s 6=.c (.raw (.int .i64 i))/\k<=i/\
 a1W k (d.safe.drop i) i ⟨d.safe,W⟩=a1W k d.safe 0 d/\a1N ⟨d.safe,W⟩=true/\b0e st.H (0,2) ⟨d.safe,W⟩
theorem b0f:blank.length=32:=by decide
theorem b76 {Q:AEx->St->Prop} {st:St} (d:a0k) (k:Nat) (hk:k<9223372036854775808) (hm:a1N d=true) (hB:ClB st) (k6:st.s 6=.c (.raw (.int .i64 k))) (hD:b0e st.H (0,2) d)
  (hn:∀st' W,ClB st'->a1W k d.safe 0 d=(⟨d.safe,W⟩,0)->a1N ⟨d.safe,W⟩=true->b0e st'.H (0,2) ⟨d.safe,W⟩->Q (.exit 0) st')
  (hr:∀st' c,c≠0->a1W k d.safe 0 d=(noD,c)->st'.s 4=.c (.pt (0,4) 0 0)->st'.H (0,4)=.arr 25 2 false [[.raw (.slice none 0 0),.raw (.slice none 0 0)]]->st'.s 5=.c (.raw (.int .i64 c))->Q .ret st') :
  a2S Tryz.prog FJ5 (.loop d6M) Q st:=by
 obtain ⟨_,_,c8C⟩:=a1f hm
 refine a6I (d9g d k) (d.safe.length-k) ⟨k,d.wait,by omega,rfl,hB,k6,by omega,?_,hm,hD⟩ ?_
 ·have:=b0d (at_:=(k:Int)) d.safe 0 k d (by omega)
  rw [this]
  simp
 rintro q st ⟨i,W,hi,rfl,⟨q2,q4,hH4,hf⟩,q6,hki,hcl,hmW,j1,j2,hjj,hH2,hj1,hj2⟩ J hJ
 have hfu:∀k d,st.T<=k->st.H (k,d)=.a0g:=hf
 have hi0:(0:Int)<=(i:Int):=by omega
 have c5Z:=a2M hmW
 simp only at c5Z hH2 hj1 hj2
 by_cases hlt:i<d.safe.length
 ·have hlt':(i:Int)<d.safe.length:=by omega
  have w3:IntKind.wrap .i64 ((i:Int)+1)=((i+1:Nat):Int):=by rw [a0d]<;>omega
  obtain ⟨p1,p2,p3⟩:=hf.arr hH2
  obtain ⟨p4,p5,p6⟩:=hf.arr hH4
  obtain ⟨p7,p8,p9⟩:=hf.arr hj1
  obtain ⟨p10,p11,p12⟩:=hf.arr hj2
  have b1:d.safe.length<1000000:=by omega
  have b2:W.length<1000000:=by omega
  have h0:¬(i:Int)<k:=by omega
  rw [List.drop_eq_getElem_cons hlt,a1W] at hcl
  refine a3z (fun st'=>ClB st'/\st'.s 6=.c (.raw (.int .i64 i))/\st'.H=st.H/\st.T<=st'.T) ?_ ?_
  ·intro R' hR
   simp [q2,q6,hH2,hj1,hlt',hi0]
   exact hR _ ⟨⟨by simp [q2],by simp [q4],by simpa using hH4,by simp;exact hf.mono (by omega)⟩,by simp [q6],by simp,by simp⟩
  rintro st2 ⟨⟨r2,r4,d5c,hf2⟩,r6,hHe,hTe⟩
  rw [<-hHe] at hH2 hj1 hj2
  clear hHe hTe hfu p1 p2 p3 p4 p5 p6 p7 p8 p9 p10 p11 p12 hf q2 q4 q6 hH4
  obtain ⟨p1,p2,p3⟩:=hf2.arr hH2
  obtain ⟨p4,p5,p6⟩:=hf2.arr d5c
  obtain ⟨p7,p8,p9⟩:=hf2.arr hj1
  obtain ⟨p10,p11,p12⟩:=hf2.arr hj2
  have hfu:∀k d,st2.T<=k->st2.H (k,d)=.a0g:=hf2
  cases c2:decide (d.safe[i]=blank)
  rotate_left
  ·rw [if_pos (Or.inr (of_decide_eq_true c2))] at hcl
   simp [r2,r6,hH2,hj1,hlt,hlt',c2,w3]
   exact ⟨d.safe.length-(i+1),by omega,hJ _ _ ⟨i+1,W,by omega,rfl,⟨by simp [r2],by simp [r4],by simpa using d5c,by simp;exact hf2.mono (by omega)⟩,by simp,by omega,hcl,hmW,j1,j2,hjj,by simpa using hH2,by simpa using hj1,by simpa using hj2⟩⟩
  rw [if_neg (by have:=of_decide_eq_false c2;simp [h0,this])] at hcl
  rw [c0A hmW b0f] at hcl
  by_cases g0s:400<=W.length
  ·have hp:a3Y ⟨d.safe,W⟩ i blank=(⟨[],[]⟩,6):=by rw [a3Y,if_neg (by simp only;omega),if_pos g0s]
   rw [hp,if_neg (by simp)] at hcl
   simp (maxDischargeDepth:=8) [r2,r4,r6,hH2,d5c,hj1,hj2,hlt,hlt',c2,hp,b1,b2,a1j,a0y,hfu,p1,p2,p4,p5,p7,p8,p10,p11,Nat.le_add_right_of_le]
   exact hr _ 6 (by decide) (by rw [<-hcl]) (by simp (maxDischargeDepth:=8) [r4]) (by simp [d5c,p1,p2,p4,p5,Nat.le_add_right_of_le]) (by simp)
  ·obtain ⟨m1,m2⟩:=a9k hmW (n:=(i:Int)) (s:=blank) b0f (by omega) (by simp only;omega) (by simp only;omega)
   have hp:a3Y ⟨d.safe,W⟩ i blank=(⟨d.safe,W++[⟨i,blank⟩]⟩,0):=by rw [<-c0A hmW b0f];exact m2
   rw [hp,if_pos rfl] at hcl
   simp (maxDischargeDepth:=8) [r2,r4,r6,hH2,d5c,hj1,hj2,hlt,hlt',c2,hp,b1,b2,a1j,a0y,hfu,w3,p1,p2,p4,p5,p7,p8,p10,p11,Nat.le_add_right_of_le]
   refine ⟨d.safe.length-(i+1),by omega,hJ _ _ ⟨i+1,W++[⟨i,blank⟩],by omega,rfl,⟨by simp (maxDischargeDepth:=8) [r2],by simp [r4],by simp [d5c,p1,p2,p4,p5,Nat.le_add_right_of_le],?_⟩,by simp,by omega,hcl,m1,(st2.T+1,35840),(st2.T+1,35841),by simp,by simp [p1,p2,p4,p5,Nat.le_add_right_of_le],by simp [p1,p2,p4,p5,Nat.le_add_right_of_le],by simp [p1,p2,p4,p5,Nat.le_add_right_of_le]⟩⟩
   simp
   have hf:=hf2
   repeat' (first|exact hf.mono (by first|omega|(simp<;>omega))|(refine a0E.set' ?_ (by first|omega|(simp<;>omega))))
 ·have hlt':¬(i:Int)<d.safe.length:=by omega
  have e1E:a1W k d.safe 0 d=(⟨d.safe,W⟩,0):=by rw [<-hcl,List.drop_eq_nil_of_le (by omega),a1W]
  refine d0C 0 (fun st'=>ClB st'/\st'.H=st.H) ?_ ?_
  ·intro R' hR
   simp [q2,q6,hH2,hj1,hlt',hi0]
   exact hR _ ⟨⟨by simp [q2],by simp [q4],by simpa using hH4,by simp;exact hf.mono (by omega)⟩,by simp⟩
  rintro st2 ⟨hB2,hHe⟩
  exact hn st2 W hB2 e1E hmW ⟨j1,j2,hjj,by rw [hHe];exact hH2,by rw [hHe];exact hj1,by rw [hHe];exact hj2⟩
theorem b0g (d:a0k) (at_:Int) (hm:a1N d=true) (h0:0<=at_) (h1:at_<9223372036854775808) :
  PEv Tryz.prog 80 [Arg.enc d,.c (.raw (.int .i64 at_))] (a1j (a1G d at_)):=by
 refine a0f mixed c45 Tryz.func80 f9L f9M (by kernel_rfl) (by simp [a1j,a0y]) (by simp) ?_
 obtain ⟨k,rfl⟩:∃k:Nat,at_=(k:Int):=⟨at_.toNat,by omega⟩
 obtain ⟨_,_,c8C⟩:=a1f hm
 have c5Z:=a2M hm
 have b1:d.safe.length<1000000:=by omega
 have b2:d.wait.length<1000000:=by omega
 have hc:a1G d k=if (a1W k d.safe 0 d).2=0 then a3E (a1W k d.safe 0 d).1 else (noD,(a1W k d.safe 0 d).2):=by rw [a1G,if_pos ⟨hm,h0⟩]
 refine a3z (fun st'=>ClB st'/\st'.s 1=.c (.raw (.int .i64 k))/\st'.H (0,2)=.arr 25 2 false [[.sl .brw false (a0a d.safe),.sl .brw false (a0a d.wait)]]) ?_ ?_
 ·intro R' hR
  simp
  exact hR _ ⟨⟨by simp,by simp,by simp,by simp;(repeat' (first|exact a1n.mono (Nat.zero_le _)|(refine a0E.set' ?_ (by simp))))⟩,by simp,by simp⟩
 rintro st ⟨⟨q2,q4,hH4,hf⟩,q1,hH2⟩
 have hfu:∀k d,st.T<=k->st.H (k,d)=.a0g:=hf
 obtain ⟨p1,p2,p3⟩:=hf.arr hH2
 obtain ⟨p4,p5,p6⟩:=hf.arr hH4
 refine a3z (fun st'=>ClB st'/\st'.s 1=.c (.raw (.int .i64 k))/\b0e st'.H (0,2) d) ?_ ?_
 ·intro R' hR
  simp [q2,hH2,b1,b2,hfu,a0y,p1,p2]
  exact hR _ ⟨⟨by simp [q2],by simp [q4],by simp [hH4,p4,p5],by simp;repeat' (first|exact hf.mono (by first|omega|(simp<;>omega))|(refine a0E.set' ?_ (by first|omega|(simp<;>omega))))⟩,by simp [q1],(st.T,11264),(st.T,11265),by simp,by simp [p1,p2],by simp [p1,p2],by simp [p1,p2]⟩
 clear q2 q4 hH4 hf q1 hH2 hfu p1 p2 p3 p4 p5 p6
 rintro st ⟨⟨q2,q4,hH4,hf⟩,q1,hD⟩
 simp [q1]
 refine b76 d k (by omega) hm ⟨by simp [q2],by simp [q4],by simpa using hH4,by simp;exact hf.mono (by omega)⟩ (by simp) (by simpa [b0e] using hD) ?_ ?_
 ·clear q2 q4 hH4 hf q1 hD
  rintro st W ⟨q2,q4,hH4,hf⟩ hcl hmW ⟨j1,j2,hjj,hH2,hj1,hj2⟩
  have hfu:∀k d,st.T<=k->st.H (k,d)=.a0g:=hf
  obtain ⟨p4,p5,p6⟩:=hf.arr hH4
  rw [hc,hcl,if_pos rfl]
  simp only
  rw [b1T hmW]
  simp only at hH2 hj1 hj2 ⊢
  simp [q2,q4,hH2,hH4,hj1,hj2,hmW,hfu,p4,p5,a1j,a0y]
 ·intro st' c hc0 hcl h4 hH h5
  rw [hc,hcl,if_neg hc0]
  simp [h4,hH,h5,a1j,a0y,noD]
def c7U:List AV->Option (Prop×AV):=t3 (fun (d:a0k) (n:Int) (e:a0i)=>a1N d=true/\okF e/\0<=n/\n<9223372036854775808) fun (d:a0k) (n:Int) (e:a0i)=>a2l (a42 d n e)
def d1o:List AV->Option (Prop×AV):=t2 (fun (d:a0k) n=>a1N d=true/\0<=n/\n<9223372036854775808) fun (d:a0k) (n:Int)=>a1j (a1G d n)
def FJ6:CT:=(124,.pu c7U)::(80,.pu d1o)::FJ5
theorem d9h:a1k Tryz.prog FJ6:=⟨a4L fun d n e h=>a86 d n e h.1 h.2.1 h.2.2.1 h.2.2.2,
 a0P fun d n h=>b0g d n h.1 h.2.1 h.2.2,c45⟩
open Go Go.Proofs
def f3l {α:Type} [Enc α] (e sz:Nat) (l:List α) (q:Nat) (st:St):Prop:=∃(i:Nat) (c:AC),i<=l.length/\q=l.length-i/\st.s 0=.c (.sl .brw false (a0a l))/\st.s 3=.c c/\st.s 4=.c (.raw (.int .i64 i))/\a0E st.H st.T/\a9h st.H e sz 0 c (l.take i)
theorem b6u (l:List a0F) (hl:l.length<1000000):PEv Tryz.prog 150 [.c (.sl .brw false (a0a l))] (.c (.nw 50 3 (a0a l))):=by
 refine a0f mixed (F:=[]) trivial Tryz.func150 f0d f0e (by kernel_rfl) (by simp) (by simp) ?_
 simp [f0c]
 refine a6I (f3l 50 3 l) l.length ⟨0,_,by omega,rfl,by simp,by simp,by simp,by simp;exact a1n.mono (by omega),.inl ⟨rfl,rfl⟩⟩ ?_
 rintro q st ⟨i,c,hi,rfl,k0,k3,k4,hf,hc⟩ J hJ
 have hfu:∀k d,st.T<=k->st.H (k,d)=.a0g:=hf
 by_cases hlt:i<l.length
 ·have hlt':(i:Int)<l.length:=by omega
  have hw:IntKind.wrap .i64 ((i:Int)+1)=((i+1:Nat):Int):=by rw [a0d]<;>omega
  have ht:l.take (i+1)=l.take i++[l[i]]:=(List.take_append_getElem hlt).symm
  have hti:(l.take i).length=i:=by rw [List.length_take];omega
  rcases hc with ⟨rfl,hc0⟩|⟨g,rfl,hg0,hg⟩
  ·simp [b52,k0,k3,k4,hlt,hlt',hw,hfu]
   refine ⟨l.length-(i+1),by omega,hJ _ _ ⟨i+1,.so (st.T+1,17) 0 1,by omega,rfl,by simp [k0],by simp,by simp,by simp;repeat' (first|exact hf.mono (by first|omega|(simp<;>omega))|(refine a0E.set' ?_ (by first|omega|(simp<;>omega)))),?_⟩⟩
   rw [ht,hc0]
   exact a9h.so rfl (Nat.zero_le _) (by simp [a0a])
  ·obtain ⟨f1,f2,f3⟩:=hf.arr hg
   rw [hti] at k3
   simp [b52,k0,k3,k4,hlt,hlt',hw,hfu,hg,f1,f2,hti]
   refine ⟨⟨by omega,by omega⟩,l.length-(i+1),by omega,hJ _ _ ⟨i+1,.so (st.T+1,17) 0 (i+1),by omega,rfl,by simp [k0],by simp,by simp,by simp;repeat' (first|exact hf.mono (by first|omega|(simp<;>omega))|(refine a0E.set' ?_ (by first|omega|(simp<;>omega)))),?_⟩⟩
   rw [ht]
   generalize List.take i l=A at hg hti ⊢
   exact a9h.so (by simp [hti]) (Nat.zero_le _) (by simp [a0a])
 ·have hlt':¬(i:Int)<l.length:=by omega
  have hi2:i=l.length:=by omega
  rw [hi2,List.take_length] at hc
  rcases hc with ⟨rfl,rfl⟩|⟨g,rfl,hg0,hg⟩
  ·simp [b52,k0,k3,k4,hlt,hlt']
  ·simp [b52,k0,k3,k4,hlt,hlt',hg]
def b4b:List AV->Option (Prop×AV):=t1 (fun l=>l.length<1000000) fun l:List a0F=>.c (.nw 50 3 (a0a l))
@[simp] theorem d9i {l:List AV}:b4b l=(t1 (fun l=>l.length<1000000) fun l:List a0F=>.c (.nw 50 3 (a0a l))) l:=(rfl)
def FK0:CT:=(150,.pu b4b)::FJ6
theorem c9p:a1k Tryz.prog FK0:=⟨a0n fun l h=>b6u l h,d9h⟩
@[simp] theorem d4n:a0c FK0 150=some (.pu b4b):=(rfl)
theorem c47 (o:OpV) (h:o.gone.length<1000000):PEv Tryz.prog 101 [Arg.enc o] (.g (a0K (.nw 50 3 (a0a o.gone)) o)):=by
 refine a0f mixed c9p Tryz.func101 e80 e81 (by kernel_rfl) (by simp [a0K]) (by simp [a0e]) ?_
 simp [e8Z,a0e,a0K,h]
theorem a6u (o:OpV) (h:o.gone.length<1000000):PEv Tryz.prog 101 [Arg.enc o] (.g (a0e .old o)):=
 (c47 o h).frz .old (by simp)
def c7V:List AV->Option (Prop×AV):=t1 (fun o=>o.gone.length<1000000) fun o:OpV=>.g (a0e .old o)
def FK1:CT:=(101,.pu c7V)::FK0
theorem d9j:a1k Tryz.prog FK1:=⟨a0n fun o h=>a6u o h,c9p⟩
def FK2:CT:=FK1
theorem d9k:a1k Tryz.prog FK2:=d9j
attribute [simp] FK2
def a2y (o:OpV):Int:=2+((o.text.length/4:Nat):Int)+o.gone.length
theorem b77 (o:OpV) (h1:o.text.length<4611686018427387904) (h2:o.gone.length<4611686018427387904):PEv Tryz.prog 97 [Arg.enc o] (.c (.raw (.int .i64 (a2y o)))):=by
 refine a0f mixed (F:=[]) trivial Tryz.func97 f9P f9Q (by kernel_rfl) (by simp) (by simp [a0e]) ?_
 obtain ⟨q,hq⟩:∃q,o.text.length/4=q:=⟨_,rfl⟩
 have w0:(o.text.length:Int).tdiv 4=(q:Int):=by rw [Int.tdiv_eq_ediv_of_nonneg (by omega)];omega
 have w1:IntKind.wrap .i64 (q:Int)=q:=by rw [a0d]<;>omega
 have w2:IntKind.wrap .i64 (2+(q:Int))=2+(q:Int):=by rw [a0d]<;>omega
 have w3:IntKind.wrap .i64 (2+(q:Int)+o.gone.length)=2+(q:Int)+o.gone.length:=by rw [a0d]<;>omega
 simp [s97,a0e,w0,w1,w2,w3,a2y,hq]
open Go
open Go
theorem b1U (s:List UInt8):(a2i s).1.op.gone.length<=200:=by
 obtain ⟨g1,g2,g3⟩:=a5w (a1i s).2.1
 unfold a2i
 split
 ·simp [zeroE,a0C]
 ·split
  ·simp [a0C]
  ·exact g2
theorem b78 (s:List UInt8):(a0U s).1.op.gone.length<=200:=by
 unfold a0U
 split
 ·simp [zeroE,a0C]
 ·split
  ·exact b1U _
  ·exact b1U _
theorem b0h:∀(k:Nat) (l:List (List UInt8)) (a:Nat),(a1R k l a).1.length<=k/\∀e∈(a1R k l a).1,e.op.gone.length<=200
 |0,l,a=>by simp [a1R]
 |k+1,l,a=>by
  unfold a1R
  split
  ·simp
  ·split
   ·have ih:=b0h k (l.drop (a0U (l.take 23).flatten).2.1) (a+(a0U (l.take 23).flatten).2.1)
    refine ⟨by simp;exact ih.1,fun e he=>?_⟩
    rcases List.mem_cons.1 he with rfl|he
    ·exact b78 _
    ·exact ih.2 e he
   ·simp
theorem a65 (d:a0k):(a2v d).1.length<=d.safe.length/\∀e∈(a2v d).1,e.op.gone.length<=200:=by
 unfold a2v
 split
 ·exact b0h _ _ _
 ·simp
open Go Go.Proofs
theorem c48 {s:List UInt8} (h:(a2i s).2=true):a0J (a2i s).1=true:=by
 unfold a2i at h ⊢
 split at h
 ·cases h
 ·rename_i c1
  rw [if_neg c1]
  split at h
  ·rename_i c2
   rw [if_pos c2]
   simp only [Bool.and_eq_true] at h
   exact h.2
  ·rename_i c2
   rw [if_neg c2]
   simp only [Bool.and_eq_true] at h
   exact h.2
theorem b1V {s:List UInt8} (h:(a0U s).2.2=true):a0J (a0U s).1=true/\okF (a0U s).1:=by
 unfold a0U at h ⊢
 cases hq:a2Y s with
 |none=>simp [hq] at h
 |some q=>
  obtain ⟨t,r⟩:=q
  obtain ⟨_,ht7⟩:=a6r hq
  simp only [hq] at h ⊢
  split
  ·rename_i hr
   exact ⟨c48 hr,c0r (by omega) hr⟩
  ·rename_i hr
   rw [if_neg hr] at h
   cases h
theorem b6v:∀(k:Nat) (l:List (List UInt8)) (a:Nat),∀e∈(a1R k l a).1,a0J e=true/\okF e
 |0,l,a=>by simp [a1R]
 |k+1,l,a=>by
  unfold a1R
  split
  ·simp
  ·split
   ·rename_i h
    intro e he
    rcases List.mem_cons.1 he with rfl|he
    ·exact b1V h
    ·exact b6v k _ _ e he
   ·simp
theorem b0i (d:a0k):∀e∈(a2v d).1,a0J e=true/\okF e:=by
 unfold a2v
 split
 ·exact b6v _ _ _
 ·simp
theorem a8q {e:a0i} (h:a0J e=true) (hf:okF e):e.op.text.length<1000000/\e.op.gone.length<1000000:=by
 cases hj:e.join
 ·have:=hf.op hj
  exact ⟨this.text,this.len⟩
 ·rw [a0J,if_pos hj,a5u] at h
  simp only [Bool.and_eq_true,decide_eq_true_eq] at h
  rw [h.2];simp [a0C]
def a3U:a0o->Nat->List a0i->a0o×Nat
 |r,a,[]=>(r,a)
 |r,a,x::l=>if (a04 r x).2=true then a3U (a04 r x).1 (a+(a0j x).1.length/32) l else (r,a)
def a18:a0k:=⟨[],[]⟩
def a2q:a0o:=⟨a18,[],[]⟩
def a1A (d:a0k):a0o×Nat:=a3U a2q 0 (a2v d).1
def inR (r:a0o) (n:Nat):Prop:=r.disk=a18/\r.ops.length<=n/\r.ends.length<=n/\∀o∈r.ops,okO o
theorem c0B {r:a0o} {x:a0i} {n:Nat} (h:inR r n) (hx:okO x.op):inR (a04 r x).1 (n+1):=by
 obtain ⟨h1,h2,h3,h4⟩:=h
 have base:inR r (n+1):=⟨h1,by omega,by omega,h4⟩
 unfold a04
 split
 ·split
  ·exact base
  ·exact ⟨h1,by simp;omega,by simp;omega,h4⟩
 ·split
  ·exact base
  ·refine ⟨h1,by simp;omega,by simp;omega,fun o ho=>?_⟩
   rcases List.mem_append.1 ho with ho|ho
   ·exact h4 o ho
   ·rw [List.mem_singleton.1 ho];exact hx
def b4c:List AV->Option (Prop×AV):=t1 (fun d:a0k=>d.safe.length<1000000/\d.wait.length<1000000) fun d:a0k=>a8Z (a2v d)
@[simp] theorem d9l {l:List AV}:b4c l=(t1 (fun d:a0k=>d.safe.length<1000000/\d.wait.length<1000000) fun d:a0k=>a8Z (a2v d)) l:=(rfl)
def b4d:List AV->Option (Prop×AV):=t1 (fun e=>e.op.text.length<1000000/\e.op.gone.length<1000000) fun e:a0i=>a2N e
@[simp] theorem d9m {l:List AV}:b4d l=(t1 (fun e=>e.op.text.length<1000000/\e.op.gone.length<1000000) fun e:a0i=>a2N e) l:=(rfl)
def FW0:CT:=(130,.pu b4c)::(131,.pu b4d)::[]
theorem c9q:a1k Tryz.prog FW0:=⟨a0n fun d h=>c4I d h.1 h.2,
 a0n fun e h=>a7K e h.1 h.2,trivial⟩
@[simp] theorem d4o:a0c FW0 130=some (.pu b4c):=(rfl)
@[simp] theorem d4p:a0c FW0 131=some (.pu b4d):=(rfl)
@[simp] theorem e4x {n:Nat} (h:(n==130||n==131)=false):a0c FW0 n=a0c ([]:CT) n:=by
 simp only [Bool.or_eq_false_iff,beq_eq_false_iff_ne,ne_eq] at h
 simp [FW0,a0c,h]
theorem c49 (d:a0k) (h1:d.safe.length<1000000) (h2:d.wait.length<1000000):PEv Tryz.prog 75 [Arg.enc d] (.t [(true,a0r .old (a1A d).1),(false,[.raw (.int .i64 (a1A d).2)])]):=by
 refine a2w mixed c9q Tryz.func75 f9b f9c (by kernel_rfl) (by simp [a0r]) (by simp) ?_
 generalize hR:a1A d=R
 unfold a1A at hR
 have hs:=(a65 d).1
 have hm:=b0i d
 simp [s75,h1,h2,a8Z]
 generalize (a2v d).1=l at *
 refine vl (fun p:Nat×a0o×Nat=>p.1<=l.length/\a3U p.2.1 p.2.2 (l.drop p.1)=R/\inR p.2.1 p.1/\p.2.2<=25*p.1)
  (fun p=>mkS [(2,.c (.pt (1,1) 0 0)),(3,iv p.2.2),(19,.c (.sl .old false (a0a l))),(20,iv l.length),(21,iv p.1)] [.var (1,1) 29 (a0r .old p.2.1)]) (fun p=>l.length-p.1) (0,a2q,0) ?_ (a0b rfl ?_) ?_
 ·exact ⟨by simp,by simpa using hR,⟨rfl,by simp [a2q],by simp [a2q],by simp [a2q]⟩,by simp⟩
 ·simp [a0r,a2q,a18]
 rintro ⟨i,r,a⟩ ⟨hi,hx,hin,ha⟩ J hJ
 simp only at hi hx hin ha
 by_cases hlt:i<l.length
 ·have hw:IntKind.wrap .i64 ((i:Int)+1)=((i+1:Nat):Int):=by rw [a0d]<;>omega
  obtain ⟨em,ef⟩:=hm l[i] (List.getElem_mem hlt)
  obtain ⟨e1,e2⟩:=a8q em ef
  have eo:okO l[i].op:=⟨by omega,by omega⟩
  have er:a98 r:=⟨by simp [hin.1,a18],by simp [hin.1,a18],by have:=hin.2.1;omega,by have:=hin.2.2.1;omega,hin.2.2.2⟩
  have hn:=c0B hin eo
  rw [List.drop_eq_getElem_cons hlt,a3U] at hx
  simp [c3H,hlt,a0r,a0m,a0e]
  refine a1x (args':=[.g (a0r .brw r),.g (a0m .brw l[i])]) ?_ (c0w r l[i] er eo) (by simp [a0r]) (by simp [a0r]) ?_
  ·simp [a0r,a0m,a0e]
  have hfl:=a4s l[i]
  generalize a04 r l[i]=G at hx hn ⊢
  obtain ⟨r',b⟩:=G
  cases b
  ·simp at hx
   subst hx
   simp [c3H,a0r]
   refine a0w (mkS [(2,.c (.pt (1,1) 0 0)),(3,iv a)] [.var (1,1) 29 (a0r .old r)]) (a0b rfl ?_) ?_<;>simp [a0r]
  ·simp only [if_true] at hx hn
   have hb:a2N l[i]=.t [(false,[.str (a0j l[i]).1]),(false,[.raw (.int .i64 (a0j l[i]).2)])]:=by rw [a2N,if_pos em];rfl
   generalize a0j l[i]=fr at hb hfl hx
   obtain ⟨q,hq⟩:∃q,fr.1.length/32=q:=⟨_,rfl⟩
   rw [hq] at hx
   have d1:((fr.1.length:Int)).tdiv 32=(q:Int):=by rw [Int.tdiv_eq_ediv_of_nonneg (by omega)];omega
   have w1:IntKind.wrap .i64 (q:Int)=q:=by rw [a0d]<;>omega
   have w2:IntKind.wrap .i64 ((a:Int)+q)=((a+q:Nat):Int):=by rw [a0d]<;>omega
   simp [c3H,a0r,hb,e1,e2,d1,w1,w2,hw]
   refine hJ (i+1,r',a+q) ⟨by simp;omega,by simpa using hx,hn,by simp;omega⟩ (by simp;omega) _ (a0b rfl ?_)
   simp [a0r]
 ·obtain rfl:i=l.length:=by omega
  simp [a3U] at hx
  subst hx
  simp [c3H,a0r]
  refine a0w (mkS [(2,.c (.pt (1,1) 0 0)),(3,iv a)] [.var (1,1) 29 (a0r .old r)]) (a0b rfl ?_) ?_<;>simp [a0r]
open Go Go.Proofs
theorem c5a (l:List Int) (hl:l.length<1000000):PEv Tryz.prog 104 [Arg.enc l] (.c (.nw 3 1 (a0a l))):=by
 refine a0f mixed (F:=[]) trivial Tryz.func104 e89 e9a (by kernel_rfl) (by simp) (by simp) ?_
 simp [e88]
 omega
theorem c5b (l:List a0F) (hl:l.length<1000000):PEv Tryz.prog 159 [Arg.enc l] (.c (.sl .old false (a0a l))):=by
 refine PEv.frz (ret:=.c (.nw 50 3 (a0a l))) .old (by simp) ?_
 refine a0f mixed (F:=[]) trivial Tryz.func159 f0y f0z (by kernel_rfl) (by simp) (by simp) ?_
 simp [f0x]
 omega
theorem c5c (l:List OpV) (hl:l.length<1000000):PEv Tryz.prog 158 [Arg.enc l] (.c (.nw 53 11 (a0a l))):=by
 refine a0f mixed (F:=[]) trivial Tryz.func158 f0v f0w (by kernel_rfl) (by simp) (by simp) ?_
 simp [f0u]
 omega
def b4e:List AV->Option (Prop×AV):=t1 (fun l=>l.length<1000000) fun l:List Int=>.c (.nw 3 1 (a0a l))
@[simp] theorem d9n {l:List AV}:b4e l=(t1 (fun l=>l.length<1000000) fun l:List Int=>.c (.nw 3 1 (a0a l))) l:=(rfl)
def b4f:List AV->Option (Prop×AV):=t1 (fun l=>l.length<1000000) fun l:List a0F=>.c (.sl .old false (a0a l))
@[simp] theorem d9o {l:List AV}:b4f l=(t1 (fun l=>l.length<1000000) fun l:List a0F=>.c (.sl .old false (a0a l))) l:=(rfl)
def b4g:List AV->Option (Prop×AV):=t1 (fun l=>l.length<1000000) fun l:List OpV=>.c (.nw 53 11 (a0a l))
@[simp] theorem d9p {l:List AV}:b4g l=(t1 (fun l=>l.length<1000000) fun l:List OpV=>.c (.nw 53 11 (a0a l))) l:=(rfl)
def b79:List AV->Option (Prop×AV):=t1 (fun d:a0k=>d.safe.length<1000000/\d.wait.length<1000000) fun d:a0k=>bv (a1N d)
@[simp] theorem e4y {l:List AV}:b79 l=(t1 (fun d:a0k=>d.safe.length<1000000/\d.wait.length<1000000) fun d:a0k=>bv (a1N d)) l:=(rfl)
def b8a:List AV->Option (Prop×AV):=t1 (fun d:a0k=>d.safe.length<1000000/\d.wait.length<1000000) fun d:a0k=>.g (a0y d)
@[simp] theorem e4z {l:List AV}:b8a l=(t1 (fun d:a0k=>d.safe.length<1000000/\d.wait.length<1000000) fun d:a0k=>.g (a0y d)) l:=(rfl)
def b8b:List AV->Option (Prop×AV):=t0 (.c (.str blank))
@[simp] theorem e4A {l:List AV}:b8b l=(t0 (.c (.str blank))) l:=(rfl)
def b8c:List AV->Option (Prop×AV):=t1 (fun d:a0k=>d.safe.length<1000000/\d.wait.length<1000000) fun d:a0k=>.t [(true,a0r .old (a1A d).1),(false,[.raw (.int .i64 (a1A d).2)])]
@[simp] theorem e4B {l:List AV}:b8c l=(t1 (fun d:a0k=>d.safe.length<1000000/\d.wait.length<1000000) fun d:a0k=>.t [(true,a0r .old (a1A d).1),(false,[.raw (.int .i64 (a1A d).2)])]) l:=(rfl)
def FW1:CT:=(104,.pu b4e)::(159,.pu b4f)::(158,.pu b4g)::(74,.pu b79)::(84,.pu b8a)::(82,.pu b8b)::(75,.pu b8c)::FW0
theorem c5d:a1k Tryz.prog FW1:=⟨a0n fun l h=>c5a l h,
 a0n fun l h=>c5b l h,
 a0n fun l h=>c5c l h,
 a0n fun d h=>c4r d h.1 h.2,
 a0n fun d h=>b2K d h.1 h.2,
 b1i a8l,
 a0n fun d h=>c49 d h.1 h.2,c9q⟩
@[simp] theorem d4q:a0c FW1 104=some (.pu b4e):=(rfl)
@[simp] theorem d4r:a0c FW1 159=some (.pu b4f):=(rfl)
@[simp] theorem d4s:a0c FW1 158=some (.pu b4g):=(rfl)
@[simp] theorem d9q:a0c FW1 74=some (.pu b79):=(rfl)
@[simp] theorem d9r:a0c FW1 84=some (.pu b8a):=(rfl)
@[simp] theorem d9s:a0c FW1 82=some (.pu b8b):=(rfl)
@[simp] theorem d9t:a0c FW1 75=some (.pu b8c):=(rfl)
@[simp] theorem e4C {n:Nat} (h:(n==104||n==159||n==158||n==74||n==84||n==82||n==75)=false):a0c FW1 n=a0c FW0 n:=by
 simp only [Bool.or_eq_false_iff,beq_eq_false_iff_ne,ne_eq] at h
 simp [FW1,a0c,h]
theorem d1p {α:Type} (l:List α) (i:Nat) (h:i<l.length):l.set i l[i]=l:=by simp
theorem c5e (l:List OpV) (hl:l.length<1000000) (hg:∀o∈l,o.gone.length<1000000):PEv Tryz.prog 103 [Arg.enc l] (.c (.nw 53 11 (a0a l))):=by
 refine a0f mixed c5d Tryz.func103 e86 e87 (by kernel_rfl) (by simp) (by simp) ?_
 simp [e85,hl]
 refine vl (fun i:Nat=>i<=l.length) (fun i=>mkS [(0,.c (.so (1,0) 0 l.length)),(7,iv l.length),(8,iv i)] [.rows (1,0) 53 11 (a0a l)]) (fun i=>l.length-i) 0 (by simp) (a0b rfl ?_) ?_
 ·simp
 rintro i hi J hJ
 by_cases hlt:i<l.length
 ·have hw:IntKind.wrap .i64 ((i:Int)+1)=((i+1:Nat):Int):=by rw [a0d]<;>omega
  have hs:(a0a l).set i (a0e .old l[i])=a0a l:=by
   have:a0e .old l[i]=(a0a l)[i]'(by simpa using hlt):=by simp [a0a]
   rw [this];exact d1p _ _ _
  have hgi:=hg _ (List.getElem_mem hlt)
  simp only [a0e] at hs
  simp [c3O,hlt,a0e,hw,hgi,hs]
  refine hJ (i+1) (by omega) (by omega) _ (a0b rfl ?_)
  simp
 ·obtain rfl:i=l.length:=by omega
  simp [c3O]
theorem c5f (a b:List Int) (ha:a.length<4611686018427387904):PEv Tryz.prog 132 [Arg.enc a,Arg.enc b] (bv (decide (a=b))):=by
 refine a0f mixed (F:=[]) trivial Tryz.func132 e9N e9O (by kernel_rfl) (by simp) (by simp) ?_
 simp [e9M]
 refine ⟨fun h e=>h (by rw [e]),fun hl=>?_⟩
 have hl:a.length=b.length:=by omega
 refine vl (fun i:Nat=>i<=a.length/\a.take i=b.take i) (fun i=>mkS [(0,.c (.sl .brw false (a0a a))),(1,.c (.sl .brw false (a0a b))),(12,iv a.length),(13,iv i)] []) (fun i=>a.length-i) 0 (by simp) (a0b rfl ?_) ?_
 ·simp
 rintro i ⟨hi,hp⟩ J hJ
 by_cases hlt:i<a.length
 ·have hb:i<b.length:=by omega
  have hw:IntKind.wrap .i64 ((i:Int)+1)=((i+1:Nat):Int):=by rw [a0d]<;>omega
  simp [c3R,hlt,hb,hw]
  refine ⟨?_,fun e=>hJ (i+1) ⟨by omega,a5W hp hlt hb e⟩ (by omega) _ (a0b rfl ?_)⟩
  ·intro hne e
   subst e
   simp at hne
  ·simp
 ·obtain rfl:i=a.length:=by omega
  simp [c3R]
  rw [List.take_length,hl,List.take_length] at hp
  exact hp
theorem c7W (a b:List OpV) (ha:a.length<1000000) (hg:∀o∈a,okO o):PEv Tryz.prog 133 [Arg.enc a,Arg.enc b,.c (.fn 134 [])] (bv (decide (a=b))):=by
 refine a0f mixed c0m Tryz.func133 e9Q e9R (by kernel_rfl) (by simp) (by simp) ?_
 simp [e9P]
 refine ⟨fun h e=>h (by rw [e]),fun hl=>?_⟩
 have hl:a.length=b.length:=by omega
 refine vl (fun i:Nat=>i<=a.length/\a.take i=b.take i) (fun i=>mkS [(1,.c (.sl .brw false (a0a b))),(2,.c (.fn 134 [])),(15,.c (.sl .brw false (a0a a))),(16,iv a.length),(17,iv i)] []) (fun i=>a.length-i) 0 (by simp) (a0b rfl ?_) ?_
 ·simp
 rintro i ⟨hi,hp⟩ J hJ
 by_cases hlt:i<a.length
 ·have hb:i<b.length:=by omega
  have hw:IntKind.wrap .i64 ((i:Int)+1)=((i+1:Nat):Int):=by rw [a0d]<;>omega
  have hgi:=(hg _ (List.getElem_mem hlt)).2
  simp [c3S,hlt,hb,hw,a0e,hgi,a5u]
  refine ⟨?_,fun e=>hJ (i+1) ⟨by omega,a5W hp hlt hb e⟩ (by omega) _ (a0b rfl ?_)⟩
  ·intro hne e
   subst e
   simp at hne
  ·simp
 ·obtain rfl:i=a.length:=by omega
  simp [c3S]
  rw [List.take_length,hl,List.take_length] at hp
  exact hp
theorem c7X (s:List UInt8):PEv Tryz.prog 135 [.c (.str s)] (bv (!decide (s=blank))):=by
 refine a0f mixed c5d Tryz.func135 e8A e8B (by kernel_rfl) (by simp) (by simp) ?_
 simp [e8z]
instance f5I:Arg a0o where
 enc r:=.g (a0r .brw r)
 dec|.g [.sl .brw false a,.sl .brw false b,.sl .brw false c,.sl .brw false d]=>(match a4A a,a4A b,a4A c,a4A d with|some a,some b,some c,some d=>some ⟨⟨a,b⟩,c,d⟩|_,_,_,_=>none)|_=>none
 a1o {x d} h:=by
  split at h
  ·split at h
   ·rename_i h1 h2 h3 h4
    cases h
    rw [a0O h1,a0O h2,a0O h3,a0O h4]
    rfl
   ·cases h
  ·cases h
@[simp] theorem d1q (r:a0o):Arg.enc r=.g (a0r .brw r):=rfl
@[simp] theorem d1r (a:List (List UInt8)) (b:List a4M) (c:List OpV) (d:List Int):Arg.dec (.g [.sl .brw false (a0a a),.sl .brw false (a0a b),.sl .brw false (a0a c),.sl .brw false (a0a d)])=some (a0o.mk ⟨a,b⟩ c d):=by
 show (match a4A (a0a a),a4A (a0a b),a4A (a0a c),a4A (a0a d) with|some a,some b,some c,some d=>some (a0o.mk ⟨a,b⟩ c d)|_,_,_,_=>none)=_
 simp
def b4h:List AV->Option (Prop×AV):=t2 (fun a _=>a.length<4611686018427387904) fun a b:List Int=>bv (decide (a=b))
@[simp] theorem d9u {l:List AV}:b4h l=(t2 (fun a _=>a.length<4611686018427387904) fun a b:List Int=>bv (decide (a=b))) l:=(rfl)
def b4i:List AV->Option (Prop×AV):=t1 (fun l=>l.length<1000000/\∀o∈l,o.gone.length<1000000) fun l:List OpV=>.c (.nw 53 11 (a0a l))
@[simp] theorem d9v {l:List AV}:b4i l=(t1 (fun l=>l.length<1000000/\∀o∈l,o.gone.length<1000000) fun l:List OpV=>.c (.nw 53 11 (a0a l))) l:=(rfl)
def FW2:CT:=(132,.pu b4h)::(103,.pu b4i)::FW1
theorem c9r:a1k Tryz.prog FW2:=⟨a0P fun a b h=>c5f a b h,
 a0n fun l h=>c5e l h.1 h.2,c5d⟩
@[simp] theorem d4t:a0c FW2 132=some (.pu b4h):=(rfl)
@[simp] theorem d4u:a0c FW2 103=some (.pu b4i):=(rfl)
@[simp] theorem e4D {n:Nat} (h:(n==132||n==103)=false):a0c FW2 n=a0c FW1 n:=by
 simp only [Bool.or_eq_false_iff,beq_eq_false_iff_ne,ne_eq] at h
 simp [FW2,a0c,h]
def a1P (r:a0o):Bool:=a1N r.disk&&decide (r.disk.wait=[])&&decide ((a1A r.disk).1.ends=r.ends)&&decide ((a1A r.disk).1.ops=r.ops)&&!((r.disk.safe.drop (a1A r.disk).2).any fun s=>!decide (s=blank))
open Go Go.Proofs
theorem b0j {s:List UInt8} (h:(a0U s).2.2=true):(a0j (a0U s).1).1.length/32=(a0U s).2.1:=by
 unfold a0U at h ⊢
 cases hq:a2Y s with
 |none=>simp [hq] at h
 |some q=>
  obtain ⟨t,r⟩:=q
  simp only [hq] at h ⊢
  split
  ·rfl
  ·rename_i hr
   rw [if_neg hr] at h
   cases h
theorem b6w {l:List (List UInt8)} (h:secs l) (n:Nat):secs (l.drop n):=fun x hx=>h x (List.mem_of_mem_drop hx)
theorem b4j:∀(k:Nat) (l:List (List UInt8)) (a:Nat) (r:a0o),secs l->(a1R k l a).2<=a+l.length/\(a3U r a (a1R k l a).1).2<=(a1R k l a).2
 |0,l,a,r,h=>by simp [a1R,a3U]
 |k+1,l,a,r,h=>by
  unfold a1R
  split
  ·simp [a3U]
  ·split
   ·rename_i hne hf
    obtain ⟨n1,n2,n3⟩:=a57 hf
    have hz:=b0j hf
    rw [a7H fun x hx=>h x (List.mem_of_mem_take hx),List.length_take] at n2
    generalize a0U (l.take 23).flatten=q at *
    obtain ⟨i1,i2⟩:=b4j k (l.drop q.2.1) (a+q.2.1) (a04 r q.1).1 (b6w h _)
    simp only [List.length_drop] at i1
    refine ⟨by simp only;omega,?_⟩
    simp only [a3U]
    rw [hz]
    split
    ·exact i2
    ·have:=(b4j k (l.drop q.2.1) (a+q.2.1) r (b6w h _)).2
     have base:∀(k:Nat) (l:List (List UInt8)) (a:Nat),a<=(a1R k l a).2:=fun k=>by
      induction k with
      |zero=>intro l a;simp [a1R]
      |succ k ih=>
       intro l a
       unfold a1R
       split
       ·simp
       ·split
        ·exact Nat.le_trans (Nat.le_add_right _ _) (ih _ _)
        ·simp
     exact Nat.le_trans (Nat.le_add_right _ _) (base _ _ _)
   ·simp [a3U]
theorem c0C:∀(l:List a0i) (r:a0o) (a n:Nat),inR r n->(∀x∈l,okO x.op)->inR (a3U r a l).1 (n+l.length)
 |[],r,a,n,h,_=>h
 |x::l,r,a,n,h,hx=>by
  unfold a3U
  split
  ·have:=c0C l (a04 r x).1 (a+(a0j x).1.length/32) (n+1) (c0B h (hx x (by simp))) fun y hy=>hx y (by simp [hy])
   rw [List.length_cons,show n+(l.length+1)=n+1+l.length by omega]
   exact this
  ·obtain ⟨h1,h2,h3,h4⟩:=h
   exact ⟨h1,by simp;omega,by simp;omega,h4⟩
theorem a9m (d:a0k):inR (a1A d).1 d.safe.length:=by
 have h:=c0C (a2v d).1 a2q 0 0 ⟨rfl,by simp [a2q],by simp [a2q],by simp [a2q]⟩ fun x hx=>by
  obtain ⟨h1,h2⟩:=b0i d x hx
  obtain ⟨e1,e2⟩:=a8q h1 h2
  exact ⟨by omega,by omega⟩
 have hl:=(a65 d).1
 obtain ⟨h1,h2,h3,h4⟩:=h
 exact ⟨h1,by unfold a1A;omega,by unfold a1A;omega,h4⟩
theorem b4k (d:a0k):(a1A d).2<=d.safe.length:=by
 unfold a1A a2v
 split
 ·rename_i h
  have:=b4j d.safe.length d.safe 0 a2q (a1f h).1
  simp only
  omega
 ·simp [a3U]
theorem d1s (r:a0o) (h:a98 r):PEv Tryz.prog 77 [Arg.enc r] (bv (a1P r)):=by
 obtain ⟨⟨sf,wt⟩,ops,ends⟩:=r
 obtain ⟨h1,h2,h3,h4,h5⟩:=h
 simp only at h1 h2 h3 h4 h5
 refine a0f mixed c9r Tryz.func77 f9d f9e (by kernel_rfl) (by simp) (by simp [a0r]) ?_
 generalize hB:a1P ⟨⟨sf,wt⟩,ops,ends⟩=B
 unfold a1P at hB
 simp only at hB
 cases c1:a1N ⟨sf,wt⟩
 ·obtain rfl:B=false:=by rw [<-hB,c1];rfl
  simp [s77,a0r,c1,h1,h2]
 by_cases c2:wt=[]
 rotate_left
 ·obtain rfl:B=false:=by rw [<-hB];simp [c2]
  simp [s77,a0r,c1,c2,h1,h2]
 subst c2
 obtain ⟨hin1,hin2,f5Z,f3X⟩:=a9m ⟨sf,[]⟩
 have hat:=b4k ⟨sf,[]⟩
 rcases hT:a1A ⟨sf,[]⟩ with ⟨x,at_⟩
 rw [hT] at hin1 hin2 f5Z f3X hat hB
 simp only at hin1 hin2 f5Z f3X hat hB
 have h6:x.ends.length<4611686018427387904:=by omega
 rw [c1] at hB
 simp only [decide_true,Bool.true_and] at hB
 cases c3:decide (x.ends=ends)
 ·obtain rfl:B=false:=by rw [<-hB,c3];rfl
  simp [s77,a0r,c1,c3,h1,h2,hT,h6]
 rw [c3,Bool.true_and] at hB
 simp [s77,a0r,c1,c3,h1,h2,hT,h6]
 refine a0R (c7W x.ops ops (by omega) f3X) (by simp) (by simp) (by simp) ?_
 cases c4:decide (x.ops=ops)
 ·obtain rfl:B=false:=by rw [<-hB,c4];rfl
  simp [c4]
 rw [c4,Bool.true_and] at hB
 simp [c4,hat]
 refine a0R (a7B 135 [] (fun s=>!decide (s=blank)) (sf.drop at_) (by simp;omega) (by simp) rfl rfl fun s _=>c7X s) ?_ (by simp) (by simp) ?_
 ·simp [a0a]
 rw [<-hB]
 simp
open Go Go.Proofs
theorem d1t (l:List Int) (n:Int) (hl:l.length<4611686018427387904):PEv Tryz.prog 66 [Arg.enc l,Arg.enc n] (iv (idxOf (fun x=>decide (x=n)) 0 l)):=by
 refine a0f mixed (F:=[]) trivial Tryz.func66 f9F f9G (by kernel_rfl) (by simp) (by simp) ?_
 simp [s66]
 refine vl (fun i:Nat=>i<=l.length/\idxOf (fun x=>decide (x=n)) i (l.drop i)=idxOf (fun x=>decide (x=n)) 0 l)
  (fun i=>mkS [(0,.c (.sl .brw false (a0a l))),(1,iv n),(5,iv i)] []) (fun i=>l.length-i) 0 (by simp) (a0b rfl ?_) ?_
 ·simp
 rintro i ⟨hi,hx⟩ J hJ
 by_cases hlt:i<l.length
 ·have hw:IntKind.wrap .i64 ((i:Int)+1)=((i+1:Nat):Int):=by rw [a0d]<;>omega
  rw [List.drop_eq_getElem_cons hlt,idxOf] at hx
  simp [d0L,hlt,hw]
  refine ⟨fun e=>by rw [<-hx,if_pos (by simp [e])],fun e=>hJ (i+1) ⟨by omega,by rw [<-hx,if_neg (by simp [e])]⟩ (by omega) _ (a0b rfl ?_)⟩
  simp
 ·simp [d0L,hlt]
  rw [<-hx,List.drop_eq_nil_of_le (by omega)]
  rfl
theorem b6x (a b:List Int) (ha:a.length<4611686018427387904):PEv Tryz.prog 50 [Arg.enc a,Arg.enc b] (bv (decide (a=b))):=by
 refine a0f mixed (F:=[]) trivial Tryz.func50 f9y f9z (by kernel_rfl) (by simp) (by simp) ?_
 simp [s50]
 refine ⟨fun h e=>h (by rw [e]),fun hl=>?_⟩
 have hl:a.length=b.length:=by omega
 refine vl (fun i:Nat=>i<=a.length/\a.take i=b.take i) (fun i=>mkS [(0,.c (.sl .brw false (a0a a))),(1,.c (.sl .brw false (a0a b))),(5,iv i)] []) (fun i=>a.length-i) 0 (by simp) (a0b rfl ?_) ?_
 ·simp
 rintro i ⟨hi,hp⟩ J hJ
 by_cases hlt:i<a.length
 ·have hb:i<b.length:=by omega
  have hw:IntKind.wrap .i64 ((i:Int)+1)=((i+1:Nat):Int):=by rw [a0d]<;>omega
  simp [d0I,hlt,hb,hw]
  refine ⟨?_,fun e=>hJ (i+1) ⟨by omega,a5W hp hlt hb e⟩ (by omega) _ (a0b rfl ?_)⟩
  ·intro hne e
   subst e
   simp at hne
  ·simp
 ·obtain rfl:i=a.length:=by omega
  simp [d0I]
  rw [List.take_length,hl,List.take_length] at hp
  exact hp
def b8d:List AV->Option (Prop×AV):=t2 (fun a _=>a.gone.length<4611686018427387904) fun a b:OpV=>bv (decide (a=b))
@[simp] theorem e4E {l:List AV}:b8d l=(t2 (fun a _=>a.gone.length<4611686018427387904) fun a b:OpV=>bv (decide (a=b))) l:=(rfl)
def b4l:List AV->Option (Prop×AV):=t1 (fun o=>o.gone.length<1000000) fun o:OpV=>.g (a0e .old o)
@[simp] theorem d9w {l:List AV}:b4l l=(t1 (fun o=>o.gone.length<1000000) fun o:OpV=>.g (a0e .old o)) l:=(rfl)
def b8e:List AV->Option (Prop×AV):=t2 (fun a _=>a.safe.length<4611686018427387904/\a.wait.length<4611686018427387904) fun a b:a0k=>bv (decide (a=b))
@[simp] theorem e4F {l:List AV}:b8e l=(t2 (fun a _=>a.safe.length<4611686018427387904/\a.wait.length<4611686018427387904) fun a b:a0k=>bv (decide (a=b))) l:=(rfl)
def b8f:List AV->Option (Prop×AV):=t1 (fun d:a0k=>d.safe.length<1000000/\d.wait.length<1000000) fun d:a0k=>.g (a0y d)
@[simp] theorem e4G {l:List AV}:b8f l=(t1 (fun d:a0k=>d.safe.length<1000000/\d.wait.length<1000000) fun d:a0k=>.g (a0y d)) l:=(rfl)
def b8g:List AV->Option (Prop×AV):=t1 (fun l=>l.length<1000000) fun l:List Int=>.c (.nw 3 1 (a0a l))
@[simp] theorem e4H {l:List AV}:b8g l=(t1 (fun l=>l.length<1000000) fun l:List Int=>.c (.nw 3 1 (a0a l))) l:=(rfl)
def b8h:List AV->Option (Prop×AV):=t2 (fun a _=>a.length<4611686018427387904) fun a b:List Int=>bv (decide (a=b))
@[simp] theorem e4I {l:List AV}:b8h l=(t2 (fun a _=>a.length<4611686018427387904) fun a b:List Int=>bv (decide (a=b))) l:=(rfl)
def d1u:List AV->Option (Prop×AV):=t2 (fun l _=>l.length<4611686018427387904) fun (l:List Int) (n:Int)=>iv (idxOf (fun x=>decide (x=n)) 0 l)
def FW3:CT:=(24,.pu b8d)::(101,.pu b4l)::(62,.pu b8e)::(34,.pu b8f)::(52,.pu b8g)::(50,.pu b8h)::(66,.pu d1u)::FW2
theorem c5g:a1k Tryz.prog FW3:=⟨a0P fun a b h=>(by rw [show bv (decide (a=b))=bv (a2L a b) by rw [a5u]];exact b7S a b h),
 a0n fun o h=>a6u o h,
 a0P fun a b h=>b5T a b h.1 h.2,
 a0n fun d h=>a5r d h.1 h.2,
 a0n fun l h=>a6H (F:=[]) trivial l h,
 a0P fun a b h=>b6x a b h,
 a0P fun l n h=>d1t l n h,c9r⟩
@[simp] theorem d9x:a0c FW3 24=some (.pu b8d):=(rfl)
@[simp] theorem d4v:a0c FW3 101=some (.pu b4l):=(rfl)
@[simp] theorem d9y:a0c FW3 62=some (.pu b8e):=(rfl)
@[simp] theorem d9z:a0c FW3 34=some (.pu b8f):=(rfl)
@[simp] theorem d9A:a0c FW3 52=some (.pu b8g):=(rfl)
@[simp] theorem d9B:a0c FW3 50=some (.pu b8h):=(rfl)
@[simp] theorem e4J {n:Nat} (h:(n==24||n==101||n==62||n==34||n==52||n==50||n==66)=false):a0c FW3 n=a0c FW2 n:=by
 simp only [Bool.or_eq_false_iff,beq_eq_false_iff_ne,ne_eq] at h
 simp [FW3,a0c,h]
theorem b4m (a b:List OpV) (ha:a.length<4611686018427387904) (hg:∀o∈a,o.gone.length<4611686018427387904):PEv Tryz.prog 20 [Arg.enc a,Arg.enc b] (bv (decide (a=b))):=by
 refine a0f mixed c5g Tryz.func20 f9h f9i (by kernel_rfl) (by simp) (by simp) ?_
 simp [s20]
 refine ⟨fun h e=>h (by rw [e]),fun hl=>?_⟩
 have hl:a.length=b.length:=by omega
 refine vl (fun i:Nat=>i<=a.length/\a.take i=b.take i) (fun i=>mkS [(0,.c (.sl .brw false (a0a a))),(1,.c (.sl .brw false (a0a b))),(5,iv i)] []) (fun i=>a.length-i) 0 (by simp) (a0b rfl ?_) ?_
 ·simp
 rintro i ⟨hi,hp⟩ J hJ
 by_cases hlt:i<a.length
 ·have hb:i<b.length:=by omega
  have hw:IntKind.wrap .i64 ((i:Int)+1)=((i+1:Nat):Int):=by rw [a0d]<;>omega
  have hgi:=hg _ (List.getElem_mem hlt)
  simp [d0G,hlt,hb,hw,a0e,hgi]
  refine ⟨?_,fun e=>hJ (i+1) ⟨by omega,a5W hp hlt hb e⟩ (by omega) _ (a0b rfl ?_)⟩
  ·intro hne e
   subst e
   simp at hne
  ·simp
 ·obtain rfl:i=a.length:=by omega
  simp [d0G]
  rw [List.take_length,hl,List.take_length] at hp
  exact hp
theorem b1W (l:List OpV) (hl:l.length<1000000) (hg:∀o∈l,o.gone.length<1000000):PEv Tryz.prog 51 [Arg.enc l] (.c (.nw 53 11 (a0a l))):=by
 refine a0f mixed c5g Tryz.func51 f9A f9B (by kernel_rfl) (by simp) (by simp) ?_
 simp [s51]
 refine vl (fun i:Nat=>i<=l.length) (fun i=>mkS [(0,.c (.sl .brw false (a0a l))),(3,.c (.so (1,0) 0 i)),(4,iv i)] [.rows (1,0) 53 11 (a0a (l.take i))]) (fun i=>l.length-i) 0 (by simp) (a0b rfl ?_) ?_
 ·simp
 rintro i hi J hJ
 by_cases hlt:i<l.length
 ·have hw:IntKind.wrap .i64 ((i:Int)+1)=((i+1:Nat):Int):=by rw [a0d]<;>omega
  have hgi:=hg _ (List.getElem_mem hlt)
  have hm:min i l.length=i:=by omega
  have ht:a0a (l.take (i+1))=a0a (l.take i)++[a0e .old l[i]]:=by rw [<-List.take_append_getElem hlt,a1l];rfl
  simp only [a0e] at ht
  have hc:a2C i (a0a (l.take i))=a0a (l.take i):=a4f (by simp;omega)
  simp [d0J,hlt,a0e,hw,hgi,hc,hm]
  refine ⟨⟨by omega,by omega⟩,hJ (i+1) (by omega) (by omega) _ (a0b rfl ?_)⟩
  simp [ht]
 ·obtain rfl:i=l.length:=by omega
  simp [d0J]
structure a02 where
 kind:Int
 site:Int
 a0H:Int
 known:Int
 seq:Int
 err:Int
 ops:List OpV
 deriving DecidableEq
def a0u (c:AC) (m:a02):List AC:=[.raw (.int .i64 m.kind),.raw (.int .i64 m.site),.raw (.int .i64 m.a0H),.raw (.int .i64 m.known),.raw (.int .i64 m.seq),.raw (.int .i64 m.err),c]
def a0l (t:Tag) (m:a02):List AC:=a0u (.sl t false (a0a m.ops)) m
instance f5J:Arg a02 where
 enc m:=.g (a0l .brw m)
 dec|.g [.raw (.int .i64 a),.raw (.int .i64 b),.raw (.int .i64 c),.raw (.int .i64 d),.raw (.int .i64 e),.raw (.int .i64 f),.sl .brw false l]=>(a4A l).map fun l=>⟨a,b,c,d,e,f,l⟩|_=>none
 a1o {x m} h:=by
  split at h
  ·rw [Option.map_eq_some_iff] at h
   obtain ⟨l,hl,rfl⟩:=h
   rw [a0O hl]
   rfl
  ·cases h
@[simp] theorem a2b (m:a02):Arg.enc m=.g (a0l .brw m):=rfl
@[simp] theorem d1v (a b c d e f:Int) (l:List OpV):Arg.dec (.g [.raw (.int .i64 a),.raw (.int .i64 b),.raw (.int .i64 c),.raw (.int .i64 d),.raw (.int .i64 e),.raw (.int .i64 f),.sl .brw false (a0a l)])=some (a02.mk a b c d e f l):=by
 show (a4A (a0a l)).map _=_
 simp
def b8i:List AV->Option (Prop×AV):=t2 (fun a _=>a.length<4611686018427387904/\∀o∈a,o.gone.length<4611686018427387904) fun a b:List OpV=>bv (decide (a=b))
@[simp] theorem e4K {l:List AV}:b8i l=(t2 (fun a _=>a.length<4611686018427387904/\∀o∈a,o.gone.length<4611686018427387904) fun a b:List OpV=>bv (decide (a=b))) l:=(rfl)
def b8j:List AV->Option (Prop×AV):=t1 (fun l=>l.length<1000000/\∀o∈l,o.gone.length<1000000) fun l:List OpV=>.c (.nw 53 11 (a0a l))
@[simp] theorem e4L {l:List AV}:b8j l=(t1 (fun l=>l.length<1000000/\∀o∈l,o.gone.length<1000000) fun l:List OpV=>.c (.nw 53 11 (a0a l))) l:=(rfl)
def FW4:CT:=(20,.pu b8i)::(51,.pu b8j)::FW3
theorem b0k:a1k Tryz.prog FW4:=⟨a0P fun a b h=>b4m a b h.1 h.2,
 a0n fun l h=>b1W l h.1 h.2,c5g⟩
@[simp] theorem d9C:a0c FW4 20=some (.pu b8i):=(rfl)
@[simp] theorem d9D:a0c FW4 51=some (.pu b8j):=(rfl)
@[simp] theorem e4M {n:Nat} (h:(n==20||n==51)=false):a0c FW4 n=a0c FW3 n:=by
 simp only [Bool.or_eq_false_iff,beq_eq_false_iff_ne,ne_eq] at h
 simp [FW4,a0c,h]
def okM (m:a02):Prop:=m.ops.length<1000000/\∀o∈m.ops,o.text.length<1000000/\o.gone.length<1000000
theorem c1U (m:a02) (h:okM m):PEv Tryz.prog 89 [Arg.enc m] (.g (a0u (.nw 53 11 (a0a m.ops)) m)):=by
 have hg:∀o∈m.ops,o.gone.length<1000000:=fun o ho=>(h.2 o ho).2
 refine a0f mixed b0k Tryz.func89 f9N f9O (by kernel_rfl) (by simp [a0u]) (by simp [a0l,a0u]) ?_
 simp [s89,a0l,a0u,h.1]
 exact hg
def a8r (r:a0o):List AC:=[.nw 9 1 (a0a r.disk.safe),.nw 125 2 (a0a r.disk.wait),.nw 53 11 (a0a r.ops),.nw 3 1 (a0a r.ends)]
def a7N (r:a0o):Prop:=r.disk.safe.length<1000000/\r.disk.wait.length<1000000/\r.ops.length<1000000/\r.ends.length<1000000/\∀o∈r.ops,o.text.length<1000000/\o.gone.length<1000000
theorem a7N.l {r:a0o} (h:a7N r):a98 r:=⟨h.1,h.2.1,h.2.2.1,h.2.2.2.1,fun o ho=>⟨Nat.lt_trans (h.2.2.2.2 o ho).1 (by omega),Nat.lt_trans (h.2.2.2.2 o ho).2 (by omega)⟩⟩
theorem b1X (r:a0o) (h:a7N r):PEv Tryz.prog 17 [Arg.enc r] (.g (a8r r)):=by
 obtain ⟨h1,h2,h3,h4,h5⟩:=h
 have hg:∀o∈r.ops,o.gone.length<1000000:=fun o ho=>(h5 o ho).2
 refine a0f mixed b0k Tryz.func17 f9f f9g (by kernel_rfl) (by simp [a8r]) (by simp [a0r]) ?_
 simp [s17,a0r,a8r,a0y,h1,h2,h3,h4]
 exact hg
theorem c7Y (a b:a0o) (h:a7N a):PEv Tryz.prog 21 [Arg.enc a,Arg.enc b] (bv (decide (a=b))):=by
 obtain ⟨h1,h2,h3,h4,h5⟩:=h
 have h1':a.disk.safe.length<4611686018427387904:=by omega
 have h2':a.disk.wait.length<4611686018427387904:=by omega
 have h3':a.ops.length<4611686018427387904:=by omega
 have h4':a.ends.length<4611686018427387904:=by omega
 have hg:∀o∈a.ops,o.gone.length<4611686018427387904:=fun o ho=>Nat.lt_trans (h5 o ho).2 (by omega)
 refine a0f mixed b0k Tryz.func21 f9j f9k (by kernel_rfl) (by simp) (by simp [a0r]) ?_
 obtain ⟨⟨ay,aw⟩,ao,ae⟩:=a
 obtain ⟨⟨bs,bw⟩,bo,be⟩:=b
 simp only at h1' h2' h3' h4' hg
 simp [s21,a0r,h1',h2',h3',h4']
 by_cases e1:ay=bs<;>by_cases e2:aw=bw<;>by_cases e3:ao=bo<;>by_cases e4:ae=be<;>simp [e1,e2,e3,e4]<;>first|exact hg|(rw [<-e3];exact hg)
theorem d1w (r:a0o) (h:a7N r):PEv Tryz.prog 54 [Arg.enc r] (.g (a8r r)):=by
 obtain ⟨h1,h2,h3,h4,h5⟩:=h
 have hg:∀o∈r.ops,o.gone.length<1000000:=fun o ho=>(h5 o ho).2
 refine a0f mixed b0k Tryz.func54 f8F f8G (by kernel_rfl) (by simp [a8r]) (by simp [a0r]) ?_
 simp [s54,a0r,a8r,a0y,h1,h2,h3,h4]
 exact hg
open Go Go.Proofs
theorem c0D (a b:a02) (h:okM a):PEv Tryz.prog 22 [Arg.enc a,Arg.enc b] (bv (decide (a=b))):=by
 have hg:∀o∈a.ops,o.gone.length<4611686018427387904:=fun o ho=>Nat.lt_trans (h.2 o ho).2 (by omega)
 have h3':a.ops.length<4611686018427387904:=Nat.lt_trans h.1 (by omega)
 refine a0f mixed b0k Tryz.func22 f9l f9m (by kernel_rfl) (by simp) (by simp [a0l,a0u]) ?_
 obtain ⟨a1,a2,a3,a4,a5,a6,a7⟩:=a
 obtain ⟨b1,b2,b3,b4,b5,b6,b7⟩:=b
 simp only at h3' hg
 simp [s22,a0l,a0u,h3']
 refine ⟨fun e1=>⟨fun e2=>⟨fun e3=>⟨fun e4=>⟨fun e5=>⟨fun e6=>⟨hg,by simp [e1,e2,e3,e4,e5,e6]⟩,fun n _ _ _ _ _ e=>(n e).elim⟩,fun n _ _ _ _ e=>(n e).elim⟩,fun n _ _ _ e=>(n e).elim⟩,fun n _ _ e=>(n e).elim⟩,fun n _ e=>(n e).elim⟩,fun n e=>(n e).elim⟩
def a2A (m:a02) (e:Int):a02:=⟨6,if m.kind=1 then 1 else m.site,0,0,if m.ops≠[]/\e≠3 then (m.ops.headD a0C).seq else 1,e,[]⟩
theorem d1x (m:a02) (e:Int):PEv Tryz.prog 57 [Arg.enc m,Arg.enc e] (.g (a0l .old (a2A m e))):=by
 refine a2w mixed b0k Tryz.func57 f8L f8M (by kernel_rfl) (by simp [a0l,a0u]) (by simp [a0l,a0u]) ?_
 generalize hR:a2A m e=R
 obtain ⟨a1,a2,a3,a4,a5,a6,a7⟩:=m
 unfold a2A at hR
 simp only at hR
 cases c1:decide (a1=1)<;>cases c2:decide (e=3)<;>rcases a7 with _|⟨o,l⟩
 all_goals
  simp [s57,a0l,a0u,c1,c2,a2G,a0e]
  refine a0w (mkS [(4,.c (.pt (1,1) 0 0))] [.var (1,1) 38 (a0l .old R)]) (a0b rfl ?_) ?_<;>(first|have c1':=of_decide_eq_true c1|have c1':=of_decide_eq_false c1)<;>(first|have c2':=of_decide_eq_true c2|have c2':=of_decide_eq_false c2)<;>simp [<-hR,a0l,a0u,c1',c2']
def a1I (r:a0o) (n:Int):a02:=⟨2,w64 (idxOf (fun x=>decide (n=x)) 0 r.ends+1),n,0,0,0,[]⟩
def b4n:List AV->Option (Prop×AV):=t2 (fun l _=>l.length<4611686018427387904) fun (l:List Int) (n:Int)=>iv (idxOf (fun x=>decide (n=x)) 0 l)
@[simp] theorem d9E {l:List AV}:b4n l=(t2 (fun l _=>l.length<4611686018427387904) fun (l:List Int) (n:Int)=>iv (idxOf (fun x=>decide (n=x)) 0 l)) l:=(rfl)
def b4o:List AV->Option (Prop×AV):=t2 (fun l _=>l.length<4611686018427387904) fun (l:List Int) (n:Int)=>bv (decide (n∈l))
@[simp] theorem d9F {l:List AV}:b4o l=(t2 (fun l _=>l.length<4611686018427387904) fun (l:List Int) (n:Int)=>bv (decide (n∈l))) l:=(rfl)
def b4p:List AV->Option (Prop×AV):=t1 (fun o=>o.text.length<9223372036854775807) fun o:OpV=>iv (a07 o.text)
@[simp] theorem d9G {l:List AV}:b4p l=(t1 (fun o=>o.text.length<9223372036854775807) fun o:OpV=>iv (a07 o.text)) l:=(rfl)
def b4q:List AV->Option (Prop×AV):=t1 (fun l=>l.length<1000000/\∀n∈l,okN n) fun l:List Int=>.c (.str (a2d l))
@[simp] theorem d9H {l:List AV}:b4q l=(t1 (fun l=>l.length<1000000/\∀n∈l,okN n) fun l:List Int=>.c (.str (a2d l))) l:=(rfl)
def b4r:List AV->Option (Prop×AV):=t1 okP fun o:OpV=>.c (.str (a05 o))
@[simp] theorem d9I {l:List AV}:b4r l=(t1 okP fun o:OpV=>.c (.str (a05 o))) l:=(rfl)
def b4s:List AV->Option (Prop×AV):=t1 (fun l=>l.length<4611686018427387904/\∀o∈l,okO o) fun l:List OpV=>bv (a0L l)
@[simp] theorem d9J {l:List AV}:b4s l=(t1 (fun l=>l.length<4611686018427387904/\∀o∈l,okO o) fun l:List OpV=>bv (a0L l)) l:=(rfl)
def b4t:List AV->Option (Prop×AV):=t2 (fun l _=>l.length<1000000) fun (l:List OpV) (n:Int)=>iv (1+a1g n l)
@[simp] theorem d9K {l:List AV}:b4t l=(t2 (fun l _=>l.length<1000000) fun (l:List OpV) (n:Int)=>iv (1+a1g n l)) l:=(rfl)
def FW5:CT:=(112,.pu b4n)::(105,.pu b4o)::(162,.pu b4p)::(167,.pu b4q)::(168,.pu b4r)::(110,.pu b4s)::(160,.pu b4t)::FW4
theorem b1Y:a1k Tryz.prog FW5:=⟨a0P fun l n h=>c0u l n h,
 a0P fun l n h=>c0v l n h,
 a0n fun o h=>c4i o h,
 a0n fun l h=>b1w l h.1 h.2,
 a0n fun o h=>c0p o h,
 a0n fun l h=>b1M l h.1 h.2,
 a0P fun l n h=>d1c l n h,b0k⟩
@[simp] theorem d4w:a0c FW5 112=some (.pu b4n):=(rfl)
@[simp] theorem d4x:a0c FW5 105=some (.pu b4o):=(rfl)
@[simp] theorem d4y:a0c FW5 162=some (.pu b4p):=(rfl)
@[simp] theorem d4z:a0c FW5 167=some (.pu b4q):=(rfl)
@[simp] theorem d4A:a0c FW5 168=some (.pu b4r):=(rfl)
@[simp] theorem d4B:a0c FW5 110=some (.pu b4s):=(rfl)
@[simp] theorem d4C:a0c FW5 160=some (.pu b4t):=(rfl)
@[simp] theorem e4N {n:Nat} (h:(n==112||n==105||n==162||n==167||n==168||n==110||n==160)=false):a0c FW5 n=a0c FW4 n:=by
 simp only [Bool.or_eq_false_iff,beq_eq_false_iff_ne,ne_eq] at h
 simp [FW5,a0c,h]
theorem c1V (r:a0o) (n:Int) (h:a98 r):PEv Tryz.prog 60 [Arg.enc r,Arg.enc n] (.g (a0l .old (a1I r n))):=by
 have h4:r.ends.length<4611686018427387904:=Nat.lt_trans h.2.2.2.1 (by omega)
 refine a2w mixed b1Y Tryz.func60 f8P f8Q (by kernel_rfl) (by simp [a0l,a0u]) (by simp [a0r]) ?_
 simp [s60,a0r,a0l,a0u,h4]
 refine a0w (mkS [(4,.c (.pt (1,1) 0 0))] [.var (1,1) 38 (a0l .old (a1I r n))]) (a0b rfl ?_) ?_<;>simp [a0l,a0u,a1I]
def a3Z:List OpV->Nat
 |[]=>0
 |o::r=>a07 o.text+a3Z r
theorem d9L (n:Int):PEv Tryz.prog 154 [Arg.enc n] (bv (decide (1<=n)&&decide (n<=268435456))):=by
 refine a0f mixed b1Y Tryz.func154 f0l f0m (by kernel_rfl) (by simp) (by simp) ?_
 cases c1:decide (1<=n)<;>simp [f0k,c1]
theorem c7Z (n:Int):PEv Tryz.prog 156 [Arg.enc n] (bv (decide (0<=n)&&decide (n<=40))):=by
 refine a0f mixed b1Y Tryz.func156 f0q f0r (by kernel_rfl) (by simp) (by simp) ?_
 cases c1:decide (0<=n)<;>simp [f0p,c1]
def b6Z (m:a02):List UInt8:=a2d [m.kind,m.site,m.a0H,m.known,m.seq,m.err,(m.ops.length:Int)]++m.ops.flatMap a05
open Go Go.Proofs
theorem a7O (l:List OpV) (o:OpV):a3Z (l++[o])=a3Z l+a07 o.text:=by
 induction l with
 |nil=>simp [a3Z]
 |cons a r ih=>simp [a3Z,ih,Nat.add_assoc]
theorem c70 (l:List OpV) (hl:l.length<1000000) (ht:∀o∈l,o.text.length<9223372036854775807) (hs:a3Z l<9223372036854775807):PEv Tryz.prog 161 [Arg.enc l] (iv (a3Z l)):=by
 refine a0f mixed b1Y Tryz.func161 e8G e8H (by kernel_rfl) (by simp) (by simp) ?_
 simp [e8F]
 refine vl (fun i:Nat=>i<=l.length) (fun i=>mkS [(3,iv (a3Z (l.take i))),(6,.c (.sl .brw false (a0a l))),(7,iv l.length),(8,iv i)] []) (fun i=>l.length-i) 0 (by simp) (a0b rfl ?_) ?_
 ·simp [a3Z]
 rintro i hi J hJ
 have mono:∀(l:List OpV) (i:Nat),a3Z (l.take i)<=a3Z l:=fun l=>by
  induction l with
  |nil=>intro i;simp [a3Z]
  |cons a r ih=>
   intro i
   cases i with
   |zero=>simp [a3Z]
   |succ i=>simp only [List.take_succ_cons,a3Z];have:=ih i;omega
 by_cases hlt:i<l.length
 ·have hw:IntKind.wrap .i64 ((i:Int)+1)=((i+1:Nat):Int):=by rw [a0d]<;>omega
  have hti:=ht _ (List.getElem_mem hlt)
  have h1:a3Z (l.take (i+1))=a3Z (l.take i)+a07 l[i].text:=by rw [<-a7O,List.take_append_getElem hlt]
  have h2:=mono l (i+1)
  have hw2:IntKind.wrap .i64 ((a3Z (l.take i):Int)+a07 l[i].text)=((a3Z (l.take (i+1)):Nat):Int):=by rw [h1,a0d]<;>omega
  simp [c3K,hlt,a0e,hw,hti]
  refine hJ (i+1) (by omega) (by omega) _ (a0b rfl ?_)
  simp [hw2]
 ·obtain rfl:i=l.length:=by omega
  simp [c3K]
def c9s (m:a02):Prop:=okN m.kind/\okN m.site/\okN m.a0H/\okN m.known/\okN m.seq/\okN m.err/\m.ops.length<1000/\(∀o∈m.ops,okP o)/\(b6Z m).length<9223372036854775807
theorem f3m (a b c d e f g:Int):[[AC.raw (.int .i64 a)],[AC.raw (.int .i64 b)],[AC.raw (.int .i64 c)],[AC.raw (.int .i64 d)],[AC.raw (.int .i64 e)],[AC.raw (.int .i64 f)],[AC.raw (.int .i64 g)]]=a0a [a,b,c,d,e,f,g]:=rfl
theorem f3n (a b c d e f g:Int):List.take 7 (a0a [a,b,c,d,e,f,g])=a0a [a,b,c,d,e,f,g]:=rfl
theorem b8k (m:a02) (h:c9s m):PEv Tryz.prog 114 [Arg.enc m] (.c (.str (b6Z m))):=by
 obtain ⟨h1,h2,h3,h4,h5,h6,h7,h8,h9⟩:=h
 refine a0f mixed b1Y Tryz.func114 e9q e9r (by kernel_rfl) (by simp) (by simp [a0l,a0u]) ?_
 have hn:okN (m.ops.length:Int):=⟨by omega,by omega⟩
 obtain ⟨a1,a2,a3,a4,a5,a6,l⟩:=m
 simp only at h1 h2 h3 h4 h5 h6 h7 h8 hn
 generalize hM:b6Z ⟨a1,a2,a3,a4,a5,a6,l⟩=M
 unfold b6Z at hM
 simp only at hM
 simp [e9p,a0l,a0u,f3m,f3n,h1,h2,h3,h4,h5,h6,hn]
 have hh:=a2K [a1,a2,a3,a4,a5,a6,(l.length:Int)]
 simp only [List.length_cons,List.length_nil] at hh
 generalize a2d [a1,a2,a3,a4,a5,a6,(l.length:Int)]=h0 at *
 refine vl (fun p:Nat×List UInt8=>p.1<=l.length/\p.2++(l.drop p.1).flatMap a05=M/\p.2.length<=70+40000000*p.1) (fun p=>mkS [(3,.c (.str p.2)),(24,.c (.sl .brw false (a0a l))),(25,iv l.length),(26,iv p.1)] []) (fun p=>l.length-p.1) (0,h0) ⟨by simp,by simpa using hM,by simp;omega⟩ (a0b rfl ?_) ?_
 ·simp
 rintro ⟨i,acc⟩ ⟨hi,hx,ha⟩ J hJ
 simp only at hi hx ha
 by_cases hlt:i<l.length
 ·have hw:IntKind.wrap .i64 ((i:Int)+1)=((i+1:Nat):Int):=by rw [a0d]<;>omega
  have hp:=h8 _ (List.getElem_mem hlt)
  have hs:=a4j hp
  rw [List.drop_eq_getElem_cons hlt,List.flatMap_cons,<-List.append_assoc] at hx
  simp [c3Q,hlt,a0e,hw,hp]
  refine ⟨by omega,hJ (i+1,acc++a05 l[i]) ⟨by simp;omega,hx,by simp;omega⟩ (by simp;omega) _ (a0b rfl ?_)⟩
  simp
 ·obtain rfl:i=l.length:=by omega
  simp at hx
  subst hx
  simp [c3Q]
open Go
def ckF:CkV->List OpV->Option CkV
 |c,[]=>some c
 |c,o::r=>if (a4E c o).1=true then ckF (a4E c o).2 r else none
theorem c9t:∀(l:List OpV) (c:CkV) (k:Nat),(0<=(ixG c k l).1)↔ckF c l=none
 |[],c,k=>by simp [ixG,ckF]
 |o::r,c,k=>by
  unfold ixG ckF
  split
  ·exact c9t r _ _
  ·simp
theorem b4u:∀(l:List OpV) (c:CkV) (o:OpV),ckF c (l++[o])=(ckF c l).bind fun c'=>if (a4E c' o).1=true then some (a4E c' o).2 else none
 |[],c,o=>by simp [ckF]
 |a::r,c,o=>by
  rw [List.cons_append,ckF,ckF]
  split
  ·exact b4u r _ o
  ·rfl
def ck0:CkV:=⟨[],[],0⟩
theorem a4k (l:List OpV):a0L l=true↔l.length<=40/\(ckF ck0 l).isSome=true:=by
 unfold a0L
 have h:=c9t l ck0 0
 rw [Bool.and_eq_true,decide_eq_true_eq,Bool.not_eq_true',decide_eq_false_iff_not]
 rw [show (⟨[],[],0⟩:CkV)=ck0 from rfl]
 rw [h]
 cases ckF ck0 l<;>simp
def isN (a b:Int) (o:OpV):Bool:=decide (o.site=a)&&decide (o.seq=b)
def a8s (l:List OpV) (a b:Int):Option OpV:=l.find? (isN a b)
theorem c5h {a b:Int} {o:OpV}:isN a b o=true↔o.site=a/\o.seq=b:=by simp [isN]
theorem b6y (l:List OpV) (o:OpV) (a b:Int):a8s (l++[o]) a b=(a8s l a b).or (if o.site=a/\o.seq=b then some o else none):=by
 unfold a8s
 rw [List.find?_append]
 congr 1
 simp only [List.find?_cons,List.find?_nil]
 by_cases h:o.site=a/\o.seq=b
 ·rw [if_pos h,c5h.2 h]
 ·rw [if_neg h]
  have:isN a b o=false:=by rw [Bool.eq_false_iff,ne_eq,c5h];exact h
  rw [this]
theorem d9M (l:List (List Int×Int)) (k k':List Int) (n:Int):lk (pt l k n) k'=if k'=k then some n else lk l k':=by
 unfold lk pt
 cases hx:l.findIdx? fun q=>q.1==k with
 |none=>
  rw [List.findIdx?_eq_none_iff] at hx
  simp only [List.find?_append,List.find?_cons,List.find?_nil]
  by_cases h:k'=k
  ·subst h
   rw [if_pos rfl]
   have:(l.find? fun q=>q.1==k')=none:=by
    rw [List.find?_eq_none]
    intro q hq
    have:=hx q hq
    simp_all
   rw [this]
   simp
  ·rw [if_neg h]
   have:(k==k')=false:=by simpa using fun e=>h e.symm
   rw [this]
   simp
 |some i=>
  simp only
  rw [List.findIdx?_eq_some_iff_getElem] at hx
  obtain ⟨hi,h1,h2⟩:=hx
  have hk:l[i].1=k:=by simpa using h1
  induction l generalizing i with
  |nil=>simp at hi
  |cons a r ih=>
   cases i with
   |zero=>
    simp only [List.getElem_cons_zero] at hk h1
    simp only [List.set_cons_zero,List.find?_cons]
    by_cases h:k'=k
    ·subst h;simp
    ·rw [if_neg h]
     have h3:(k==k')=false:=by simpa using fun e=>h e.symm
     have h4:(a.1==k')=false:=by rw [hk];exact h3
     rw [h3,h4]
   |succ i=>
    simp only [List.set_cons_succ,List.find?_cons]
    have h0:=h2 0 (by omega)
    simp only [List.getElem_cons_zero] at h0
    have ih:=ih i (by simpa using hi) (by simpa using h1) (fun j hj=>by have:=h2 (j+1) (by omega);simpa using this) (by simpa using hk)
    cases ha:a.1==k'
    ·simp only
     exact ih
    ·simp only
     by_cases h:k'=k
     ·subst h;rw [ha] at h0;simp at h0
     ·rw [if_neg h]
structure CkI (c:CkV) (l:List OpV):Prop where
 ah:∀s,(lk c.ah [s]).getD 0=(a1g s l:Int)
 sz:∀a b,lk c.sz [a,b]=(a8s l a b).bind fun o=>if o.kind=2 then none else some (a07 o.text:Int)
 all:c.all=(a3Z l:Int)
 le:a3Z l<=200
 nm:∀o∈l,1<=o.seq/\o.seq<=(a1g o.site l:Int)
 may:∀o∈l,a0v o=true
theorem c0E:a07 []=0:=by decide +kernel
theorem a6v {o:OpV} (h:a0v o=true) (hk:o.kind=1):a07 o.text<=12/\a2o o.after=true/\a4r o=true/\o.of_=0/\o.num=0/\o.gen=0:=by
 simp only [a0v,Bool.and_eq_true,hk,if_true,a3X,decide_eq_true_eq] at h
 obtain ⟨_,⟨⟨⟨⟨⟨⟨⟨⟨⟨e1,_⟩,_⟩,_⟩,_⟩,e6⟩,e2⟩,e3⟩,e4⟩,e5⟩⟩:=h
 exact ⟨e6,e1,e2,e3,e4,e5⟩
theorem a1m {o:OpV} (h:a0v o=true) (hk:o.kind≠1):o.kind=2/\o.after=⟨0,0,0⟩/\o.text=[]/\o.gone=[]:=by
 simp only [a0v,Bool.and_eq_true,if_neg hk,a1M,decide_eq_true_eq] at h
 obtain ⟨_,hk2,⟨⟨_,e2⟩,e3⟩,e4⟩:=h
 exact ⟨hk2,e2,e3,e4⟩
theorem a8t {o:OpV} (h:a0v o=true):1<=o.site/\o.site<=8/\1<=o.seq/\o.seq<=268435456:=by
 simp only [a0v,Bool.and_eq_true] at h
 exact a8h h.1
theorem b0l {o:OpV} (h:a0v o=true):a07 o.text<=12:=by
 by_cases hk:o.kind=1
 ·exact (a6v h hk).1
 ·rw [(a1m h hk).2.2.1]
  decide +kernel
theorem a8u {o:OpV}:∀{l:List a0F} {p:Option a0F},a3g o p l=true->∀e∈l,a2o e=true
 |[],_,_,e,he=>by simp at he
 |x::l,p,h,e,he=>by
  obtain ⟨k1,k2⟩:=b1K h
  rcases List.mem_cons.1 he with rfl|he
  ·exact k1
  ·exact a8u k2 e he
theorem c1W {o:OpV} (h:a0v o=true):a2o o.after=true/\∀e∈o.gone,a2o e=true:=by
 by_cases hk:o.kind=1
 ·obtain ⟨_,h1,h2,_⟩:=a6v h hk
  simp only [a4r,Bool.and_eq_true] at h2
  exact ⟨h1,a8u h2.1⟩
 ·obtain ⟨_,h1,_,h2⟩:=a1m h hk
  rw [h1,h2]
  exact ⟨by decide,by simp⟩
def wrN (l:List OpV) (e:a0F):Bool:=decide (e=⟨0,0,0⟩)||(match a8s l e.site e.seq with|some o=>decide (0<=e.i)&&decide (e.i<(a07 o.text:Int))|none=>false)
def a88 (l:List OpV) (a b:Int):Bool:=match a8s l a b with|some o=>decide (o.kind=1)|none=>false
def a4t (l:List OpV) (o:OpV):Bool:=a0v o&&decide (o.seq=(a1g o.site l:Int)+1)&&wrN l o.after&&!(o.gone.any fun e=>!wrN l e)&&(decide (o.kind=1)||a88 l o.of_ o.num)
def a3r (l:List OpV):Bool:=decide (l.length<=40)&&decide (a3Z l<=200)
theorem d1y {e:a0F} (h:a2o e=true):e=⟨0,0,0⟩\/0<=e.i:=by
 simp only [a2o,Bool.or_eq_true,Bool.and_eq_true,decide_eq_true_eq] at h
 rcases h with h|h
 ·exact .inl h
 ·exact .inr h.1.2
theorem c5i {c:CkV} {l:List OpV} (h:CkI c l) {e:a0F} (he:a2o e=true):wrB c.sz e=wrN l e:=by
 unfold wrB wrN
 by_cases h0:e=⟨0,0,0⟩
 ·simp [h0]
 have hi:0<=e.i:=(d1y he).resolve_left h0
 rw [decide_eq_false h0,Bool.false_or,Bool.false_or,h.sz]
 cases hf:a8s l e.site e.seq with
 |none=>simp;omega
 |some o=>
  have hm:=h.may o (List.mem_of_find?_eq_some hf)
  by_cases hk:o.kind=2
  ·have:=(a1m hm (by omega)).2.2.1
   simp [hk,this,c0E]
   omega
  ·simp [hk,hi]
theorem b1Z {n:Int} (h1:-9223372036854775808<=n) (h2:n<=9223372036854775807):w64 n=n:=by
 unfold w64;exact a0d h1 h2
theorem a8v (s:Int) (l:List OpV) (o:OpV):a1g s (l++[o])=a1g s l+(if o.site=s then 1 else 0):=a7I s l o
theorem c0F {c:CkV} {l:List OpV} (h:CkI c l) (hl:l.length<=1000000) (o:OpV):((a4E c o).1=true↔a4t l o=true/\a3Z (l++[o])<=200)/\((a4E c o).1=true->CkI (a4E c o).2 (l++[o])):=by
 have hnl:=a7J o.site l
 have hw:w64 (c.ahead o.site+1)=(a1g o.site l:Int)+1:=by
  rw [CkV.ahead,h.ah,b1Z]<;>omega
 have hsum:a3Z (l++[o])=a3Z l+a07 o.text:=a7O l o
 unfold a4E a4t
 rw [hw]
 cases c1:a0v o
 ·simp
 obtain ⟨ea,eg⟩:=c1W c1
 rw [c5i h ea]
 have hany:(o.gone.any fun e=>!wrB c.sz e)=o.gone.any fun e=>!wrN l e:=by
  rw [Bool.eq_iff_iff,List.any_eq_true,List.any_eq_true]
  constructor
  ·rintro ⟨e,he,h1⟩;exact ⟨e,he,by rw [<-c5i h (eg e he)];exact h1⟩
  ·rintro ⟨e,he,h1⟩;exact ⟨e,he,by rw [c5i h (eg e he)];exact h1⟩
 rw [hany]
 cases c2:decide (o.seq=(a1g o.site l:Int)+1)
 ·have:=of_decide_eq_false c2
  simp [this]
 have c2':=of_decide_eq_true c2
 cases c3:wrN l o.after
 ·simp
 cases c4:o.gone.any fun e=>!wrN l e
 rotate_left
 ·simp
 rw [if_neg (by simp [c2']),if_neg (by simp)]
 obtain ⟨n1,n2,n3,n4⟩:=a8t c1
 have hr:=b0l c1
 have hle:=h.le
 have hnew:a8s l o.site o.seq=none:=by
  unfold a8s
  rw [List.find?_eq_none]
  intro x hx hxn
  obtain ⟨e1,e2⟩:=c5h.1 hxn
  have:=(h.nm x hx).2
  rw [e1,e2,c2'] at this
  omega
 have hah:∀s,(lk (pt c.ah [o.site] (w64 (c.ahead o.site+1))) [s]).getD 0=(a1g s (l++[o]):Int):=by
  intro s
  rw [d9M,a8v,hw]
  by_cases hs:s=o.site
  ·subst hs;simp
  ·rw [if_neg (by simpa using hs),h.ah,if_neg (fun e=>hs e.symm)];simp
 have hnm:∀x∈l++[o],1<=x.seq/\x.seq<=(a1g x.site (l++[o]):Int):=by
  intro x hx
  rcases List.mem_append.1 hx with hx|hx
  ·obtain ⟨e1,e2⟩:=h.nm x hx
   rw [a8v]
   exact ⟨e1,by omega⟩
  ·obtain rfl:=List.mem_singleton.1 hx
   rw [a8v,if_pos rfl]
   exact ⟨n3,by omega⟩
 have hmay:∀x∈l++[o],a0v x=true:=by
  intro x hx
  rcases List.mem_append.1 hx with hx|hx
  ·exact h.may x hx
  ·obtain rfl:=List.mem_singleton.1 hx;exact c1
 by_cases ck:o.kind=2
 ·rw [if_pos ck,h.sz]
  obtain ⟨_,_,t3,_⟩:=a1m c1 (by omega)
  have hs:a3Z (l++[o])=a3Z l:=by rw [hsum,t3,c0E];rfl
  have he:((a8s l o.of_ o.num).bind fun o=>if o.kind=2 then none else some (a07 o.text:Int)).isSome=a88 l o.of_ o.num:=by
   unfold a88
   cases hf:a8s l o.of_ o.num with
   |none=>rfl
   |some x=>
    have hm:=h.may x (List.mem_of_find?_eq_some hf)
    simp only [Option.bind_some]
    by_cases hk:x.kind=2
    ·rw [if_pos hk,hk];rfl
    ·have:x.kind=1:=Classical.byContradiction fun hk1=>hk (a1m hm hk1).1
     rw [if_neg hk,this];rfl
  rw [he]
  refine ⟨by simp [ck];intro _;omega,fun _=>⟨hah,fun a b=>?_,by rw [hs];exact h.all,by omega,hnm,hmay⟩⟩
  show lk c.sz [a,b]=_
  rw [h.sz,b6y]
  by_cases hn:o.site=a/\o.seq=b
  ·obtain ⟨rfl,rfl⟩:=hn
   rw [hnew]
   simp [ck]
  ·rw [if_neg hn];simp
 ·have hk1:o.kind=1:=Classical.byContradiction fun hk1=>ck (a1m c1 hk1).1
  have hall:(c.add o).all=(a3Z (l++[o]):Int):=by
   show w64 (c.all+a07 o.text)=_
   rw [h.all,hsum,b1Z]<;>omega
  rw [if_neg ck]
  refine ⟨by simp [hk1,hall];omega,fun hgo=>⟨hah,fun a b=>?_,hall,by simp [hall] at hgo;omega,hnm,hmay⟩⟩
  show lk (pt c.sz [o.site,o.seq] (a07 o.text)) [a,b]=_
  rw [d9M,b6y,h.sz]
  by_cases hn:o.site=a/\o.seq=b
  ·obtain ⟨rfl,rfl⟩:=hn
   rw [hnew]
   simp [ck]
  ·rw [if_neg (by rintro e;simp only [List.cons.injEq,and_true] at e;exact hn ⟨e.1.symm,e.2.symm⟩),if_neg hn];simp
theorem f3o:CkI ck0 []:=⟨fun s=>rfl,fun a b=>rfl,rfl,by simp [a3Z],by simp,by simp⟩
theorem b4v {α:Type} {p:List α->Prop} (h0:p []) (h1:∀l a,p l->p (l++[a])) (l:List α):p l:=by
 have:∀r:List α,p r.reverse:=fun r=>by
  induction r with
  |nil=>exact h0
  |cons a r ih=>rw [List.reverse_cons];exact h1 _ _ ih
 have:=this l.reverse
 rwa [List.reverse_reverse] at this
theorem d9N (l:List OpV):l.length<=1000000->∀c,ckF ck0 l=some c->CkI c l:=by
 refine b4v (p:=fun l=>l.length<=1000000->∀c,ckF ck0 l=some c->CkI c l) ?_ ?_ l
 ·intro _ c h;simp [ckF] at h;subst h;exact f3o
 ·intro l o ih hl c h
  simp only [List.length_append,List.length_singleton] at hl
  rw [b4u] at h
  cases hc:ckF ck0 l with
  |none=>rw [hc] at h;cases h
  |some c'=>
   rw [hc] at h
   simp only [Option.bind_some] at h
   split at h
   ·rename_i hg
    cases h
    exact (c0F (ih (by omega) c' hc) (by omega) o).2 hg
   ·cases h
theorem a4u {l:List OpV} (h:a0L l=true) (o:OpV):a0L (l++[o])=(a4t l o&&a3r (l++[o])):=by
 rw [a4k] at h
 obtain ⟨h1,h2⟩:=h
 cases hc:ckF ck0 l with
 |none=>rw [hc] at h2;cases h2
 |some c=>
  have hI:=d9N l (by omega) c hc
  have hs:=(c0F hI (by omega) o).1
  rw [Bool.eq_iff_iff,a4k,b4u,hc]
  simp only [Option.bind_some,a3r,Bool.and_eq_true,decide_eq_true_eq]
  by_cases hg:(a4E c o).1=true
  ·rw [if_pos hg]
   have:=hs.1 hg
   simp [this]
  ·rw [if_neg hg]
   have:¬(a4t l o=true/\a3Z (l++[o])<=200):=fun hx=>hg (hs.2 hx)
   simp only [Option.isSome_none,Bool.false_eq_true,and_false,false_iff]
   intro hx
   exact this ⟨hx.1,hx.2.2⟩
theorem a5y:a0L []=true:=by rw [a4k];simp [ckF]
theorem a4T {l:List OpV} (h:a0L l=true):l.length<=40/\a3Z l<=200/\(∀o∈l,a0v o=true)/\∀o∈l,1<=o.seq/\o.seq<=(a1g o.site l:Int):=by
 rw [a4k] at h
 obtain ⟨h1,h2⟩:=h
 cases hc:ckF ck0 l with
 |none=>rw [hc] at h2;cases h2
 |some c=>
  have hI:=d9N l (by omega) c hc
  exact ⟨h1,hI.le,hI.may,hI.nm⟩
open Go Go.Proofs
theorem a8w {o:OpV} (h:a0v o=true):a3W o.text=true:=by
 by_cases hk:o.kind=1
 ·simp only [a0v,Bool.and_eq_true,hk,if_true,a3X,decide_eq_true_eq] at h
  exact h.2.1.1.1.1.1.2
 ·rw [(a1m h hk).2.2.1];decide +kernel
theorem c5j (s:List UInt8):a07 s<=s.length:=by
 have key:∀(s:ByteArray) (f p:Nat),Lib.runeCountFrom s f p<=f:=fun s f=>by
  induction f with
  |zero=>intro p;simp [Lib.runeCountFrom]
  |succ f ih=>
   intro p
   rw [Lib.runeCountFrom]
   split
   ·have:=ih (p+(Utf8.decode s p).2);omega
   ·omega
 exact key ⟨s.toArray⟩ _ 0
theorem b8l (l:List OpV) (s:Int) (hl:l.length<1000000):PEv Tryz.prog 31 [Arg.enc l,Arg.enc s] (iv (a1g s l)):=by
 refine a0f mixed (F:=[]) trivial Tryz.func31 sl31 f9r (by kernel_rfl) (by simp) (by simp) ?_
 simp [s31]
 refine vl (fun i:Nat=>i<=l.length) (fun i=>mkS [(0,.c (.sl .brw false (a0a l))),(1,iv s),(5,iv (a1g s (l.take i))),(6,iv i)] []) (fun i=>l.length-i) 0 (by simp) (a0b rfl ?_) ?_
 ·simp [a1g]
 rintro i hi J hJ
 by_cases hlt:i<l.length
 ·have hw:IntKind.wrap .i64 ((i:Int)+1)=((i+1:Nat):Int):=by rw [a0d]<;>omega
  have ht:a1g s (l.take (i+1))=a1g s (l.take i)+(if l[i].site=s then 1 else 0):=by rw [<-a7I,List.take_append_getElem hlt]
  have hn:=a7J s (l.take i)
  have hn2:(l.take i).length<=i:=by simp;omega
  have hw2:IntKind.wrap .i64 ((a1g s (l.take i):Int)+1)=((a1g s (l.take i)+1:Nat):Int):=by rw [a0d]<;>omega
  simp [d0H,hlt,a0e,hw]
  refine ⟨fun e=>hJ (i+1) (by omega) (by omega) _ (a0b rfl ?_),fun e=>hJ (i+1) (by omega) (by omega) _ (a0b rfl ?_)⟩
  ·simp [hw,hw2,ht,e]
  ·simp [hw,ht,e]
 ·obtain rfl:i=l.length:=by omega
  simp [d0H]
theorem c5k (l:List OpV) (a b:Int) (hl:l.length<1000000):PEv Tryz.prog 25 [Arg.enc l,Arg.enc a,Arg.enc b] (iv (idxOf (isN a b) 0 l)):=by
 refine a0f mixed (F:=[]) trivial Tryz.func25 f9p f9q (by kernel_rfl) (by simp) (by simp) ?_
 generalize hR:idxOf (isN a b) 0 l=R
 simp [s25]
 refine vl (fun i:Nat=>i<=l.length/\idxOf (isN a b) i (l.drop i)=R)
  (fun i=>mkS [(0,.c (.sl .brw false (a0a l))),(1,iv a),(2,iv b),(7,iv i)] []) (fun i=>l.length-i) 0 (by simpa using hR) (a0b rfl ?_) ?_
 ·simp
 rintro i ⟨hi,hx⟩ J hJ
 by_cases hlt:i<l.length
 ·have hw:IntKind.wrap .i64 ((i:Int)+1)=((i+1:Nat):Int):=by rw [a0d]<;>omega
  rw [List.drop_eq_getElem_cons hlt,idxOf] at hx
  cases c1:decide (l[i].site=a)
  ·rw [if_neg (by simp [isN,c1])] at hx
   simp [c3L,hlt,a0e,hw,c1]
   refine hJ (i+1) ⟨by omega,hx⟩ (by omega) _ (a0b rfl ?_)
   simp
  ·cases c2:decide (l[i].seq=b)
   ·rw [if_neg (by simp [isN,c2])] at hx
    simp [c3L,hlt,a0e,hw,c1,c2]
    refine hJ (i+1) ⟨by omega,hx⟩ (by omega) _ (a0b rfl ?_)
    simp
   ·rw [if_pos (by simp only [isN,c1,c2];rfl)] at hx
    subst hx
    simp [c3L,hlt,a0e,hw,c1,c2]
 ·simp [c3L,hlt]
  rw [<-hx,List.drop_eq_nil_of_le (by omega)]
  rfl
theorem a6w {α:Type} (p:α->Bool):∀(l:List α) (n:Nat),(idxOf p n l=-1/\l.find? p=none)\/∃(k:Nat) (h:k<l.length),idxOf p n l=((n+k:Nat):Int)/\l.find? p=some l[k]
 |[],n=>.inl ⟨rfl,rfl⟩
 |x::l,n=>by
  rw [idxOf,List.find?_cons]
  cases hp:p x
  ·rcases a6w p l (n+1) with ⟨h1,h2⟩|⟨k,h,h1,h2⟩
   ·exact .inl ⟨by simpa using h1,by simpa using h2⟩
   ·refine .inr ⟨k+1,by simpa using h,?_,by simpa using h2⟩
    rw [if_neg (by simp)]
    rw [h1];congr 1;omega
  ·exact .inr ⟨0,by simp,by simp,by simp⟩
def b4w:List AV->Option (Prop×AV):=t1 (fun s=>s.length<1000000) fun s:List UInt8=>a1c s
@[simp] theorem d9O {l:List AV}:b4w l=(t1 (fun s=>s.length<1000000) fun s:List UInt8=>a1c s) l:=(rfl)
def b4x:List AV->Option (Prop×AV):=t1 (fun _=>True) fun e:a0F=>bv (a2V e)
@[simp] theorem d9P {l:List AV}:b4x l=(t1 (fun _=>True) fun e:a0F=>bv (a2V e)) l:=(rfl)
def b8m:List AV->Option (Prop×AV):=t1 (fun o=>o.text.length<1000000/\o.gone.length<4611686018427387904) fun o:OpV=>bv (a0v o)
@[simp] theorem e4O {l:List AV}:b8m l=(t1 (fun o=>o.text.length<1000000/\o.gone.length<4611686018427387904) fun o:OpV=>bv (a0v o)) l:=(rfl)
def b8n:List AV->Option (Prop×AV):=t2 (fun l _=>l.length<1000000) fun (l:List OpV) (s:Int)=>iv (a1g s l)
@[simp] theorem e4P {l:List AV}:b8n l=(t2 (fun l _=>l.length<1000000) fun (l:List OpV) (s:Int)=>iv (a1g s l)) l:=(rfl)
def b8o:List AV->Option (Prop×AV):=t3 (fun l _ _=>l.length<1000000) fun (l:List OpV) (a b:Int)=>iv (idxOf (isN a b) 0 l)
@[simp] theorem e4Q {l:List AV}:b8o l=(t3 (fun l _ _=>l.length<1000000) fun (l:List OpV) (a b:Int)=>iv (idxOf (isN a b) 0 l)) l:=(rfl)
def b4y:List AV->Option (Prop×AV):=t1 (fun o=>o.gone.length<1000000) fun o:OpV=>.g (a0e .old o)
@[simp] theorem d9Q {l:List AV}:b4y l=(t1 (fun o=>o.gone.length<1000000) fun o:OpV=>.g (a0e .old o)) l:=(rfl)
def b8p:List AV->Option (Prop×AV):=t1 (fun l=>l.length<1000000/\∀o∈l,o.gone.length<1000000) fun l:List OpV=>.c (.nw 53 11 (a0a l))
@[simp] theorem e4R {l:List AV}:b8p l=(t1 (fun l=>l.length<1000000/\∀o∈l,o.gone.length<1000000) fun l:List OpV=>.c (.nw 53 11 (a0a l))) l:=(rfl)
def FX0:CT:=(119,.pu b4w)::(118,.pu b4x)::(64,.pu b8m)::(31,.pu b8n)::(25,.pu b8o)::(101,.pu b4y)::(51,.pu b8p)::[]
theorem c9u:a1k Tryz.prog FX0:=⟨a0n fun s h=>b0a s h,
 a0n fun e _=>c0x e,
 a0n fun o h=>b6m o h.1 h.2,
 a0P fun l s h=>b8l l s h,
 a4L fun l a b h=>c5k l a b h,
 a0n fun o h=>a6u o h,
 a0n fun l h=>b1W l h.1 h.2,trivial⟩
@[simp] theorem d4D:a0c FX0 119=some (.pu b4w):=(rfl)
@[simp] theorem d4E:a0c FX0 118=some (.pu b4x):=(rfl)
@[simp] theorem d9R:a0c FX0 64=some (.pu b8m):=(rfl)
@[simp] theorem d9S:a0c FX0 31=some (.pu b8n):=(rfl)
@[simp] theorem d9T:a0c FX0 25=some (.pu b8o):=(rfl)
@[simp] theorem d4F:a0c FX0 101=some (.pu b4y):=(rfl)
@[simp] theorem d9U:a0c FX0 51=some (.pu b8p):=(rfl)
@[simp] theorem e4S {n:Nat} (h:(n==119||n==118||n==64||n==31||n==25||n==101||n==51)=false):a0c FX0 n=a0c ([]:CT) n:=by
 simp only [Bool.or_eq_false_iff,beq_eq_false_iff_ne,ne_eq] at h
 simp [FX0,a0c,h]
theorem c5l (o:OpV) (ht:a3W o.text=true) (hl:o.text.length<1000000):PEv Tryz.prog 149 [Arg.enc o] (iv (a07 o.text)):=by
 refine a0f mixed c9u Tryz.func149 f0a f0b (by kernel_rfl) (by simp) (by simp [a0e]) ?_
 rw [a99] at ht
 obtain ⟨X,hX⟩:=Option.isSome_iff_exists.1 ht
 have hav:a1c o.text=.t [(false,[.nw 21 1 (a0a X)]),(false,[.raw (.bool true)])]:=by rw [a1c,hX]
 rw [b1O hX]
 simp [e99,a0e,hl,hav]
def b4z:List AV->Option (Prop×AV):=t1 (fun o=>a3W o.text=true/\o.text.length<1000000) fun o:OpV=>iv (a07 o.text)
@[simp] theorem d9V {l:List AV}:b4z l=(t1 (fun o=>a3W o.text=true/\o.text.length<1000000) fun o:OpV=>iv (a07 o.text)) l:=(rfl)
def FX1:CT:=(149,.pu b4z)::FX0
theorem b6z:a1k Tryz.prog FX1:=⟨a0n fun o h=>c5l o h.1 h.2,c9u⟩
@[simp] theorem d4G:a0c FX1 149=some (.pu b4z):=(rfl)
@[simp] theorem e4T {n:Nat} (h:(n==149)=false):a0c FX1 n=a0c FX0 n:=by
 simp only [Bool.or_eq_false_iff,beq_eq_false_iff_ne,ne_eq] at h
 simp [FX1,a0c,h]
def b10 (l:List OpV):Prop:=l.length<1000000/\∀o∈l,a3W o.text=true/\o.text.length<1000000/\o.gone.length<1000000
theorem b10.take {l:List OpV} (h:b10 l) (n:Nat):b10 (l.take n):=⟨by have:=h.1;simp;omega,fun o ho=>h.2 o (List.mem_of_mem_take ho)⟩
theorem b8q (l:List OpV) (e:a0F) (h:b10 l):PEv Tryz.prog 147 [Arg.enc l,Arg.enc e] (bv (wrN l e)):=by
 refine a0f mixed b6z Tryz.func147 e95 e96 (by kernel_rfl) (by simp) (by simp) ?_
 generalize hB:wrN l e=B
 unfold wrN a8s at hB
 have h1:=h.1
 have hb0:decide (e=⟨0,0,0⟩)=a2V e:=rfl
 rw [hb0] at hB
 cases c0:a2V e
 rotate_left
 ·rw [c0] at hB;subst hB
  simp [d2I,c0]
 rw [c0,Bool.false_or] at hB
 rcases a6w (isN e.site e.seq) l 0 with ⟨q1,q2⟩|⟨k,hk,q1,q2⟩
 ·rw [q2] at hB;subst hB
  simp [d2I,c0,h1,q1]
 ·rw [q2] at hB
  simp only at hB
  rw [Nat.zero_add] at q1
  have ho:=h.2 _ (List.getElem_mem hk)
  cases c1:decide (0<=e.i)
  ·rw [c1] at hB;subst hB
   simp [d2I,c0,h1,q1,c1]
  ·rw [c1,Bool.true_and] at hB;subst hB
   simp [d2I,c0,h1,q1,c1,hk,a0e,ho.1,ho.2.1]
theorem c71 (l:List OpV) (a b:Int) (h:l.length<1000000):PEv Tryz.prog 148 [Arg.enc l,Arg.enc a,Arg.enc b] (bv (a88 l a b)):=by
 refine a0f mixed b6z Tryz.func148 e97 e98 (by kernel_rfl) (by simp) (by simp) ?_
 generalize hB:a88 l a b=B
 unfold a88 a8s at hB
 rcases a6w (isN a b) l 0 with ⟨q1,q2⟩|⟨k,hk,q1,q2⟩
 ·rw [q2] at hB;subst hB
  simp [e3b,h,q1]
 ·rw [q2] at hB
  simp only at hB
  subst hB
  rw [Nat.zero_add] at q1
  simp [e3b,h,q1,hk,a0e]
theorem b0m (l:List OpV) (o:OpV) (hl:l.length<1000000) (hg:∀o∈l,o.gone.length<1000000) (ho:o.gone.length<1000000):PEv Tryz.prog 72 [Arg.enc l,Arg.enc o] (.c (.sl .old false (a0a (l++[o])))):=by
 refine PEv.frz (ret:=.c (.nw 53 11 (a0a (l++[o])))) .old (by simp) ?_
 refine a0f mixed b6z Tryz.func72 f9H f9I (by kernel_rfl) (by simp) (by simp [a0e]) ?_
 have hg':(∀o∈l,o.gone.length<1000000)=True:=by simp;exact hg
 have hc:a2C l.length (a0a l)=a0a l:=a4f (by simp)
 simp [s72,a0e,hl,hg',ho,hc,a1l,a2G]
 exact ⟨by omega,by omega⟩
theorem c5m (l:List OpV) (h:b10 l):PEv Tryz.prog 100 [Arg.enc l] (bv (a3r l)):=by
 refine a0f mixed b6z Tryz.func100 e8X e8Y (by kernel_rfl) (by simp) (by simp) ?_
 obtain ⟨h1,h2⟩:=h
 generalize hB:a3r l=B
 unfold a3r at hB
 have hle:∀i,a3Z (l.take i)<=1000000*i:=fun i=>by
  have key:∀(l:List OpV) (i:Nat),(∀o∈l,a07 o.text<=1000000)->a3Z (l.take i)<=1000000*i:=fun l=>by
   induction l with
   |nil=>intro i _;simp [a3Z]
   |cons x r ih=>
    intro i hx
    cases i with
    |zero=>simp [a3Z]
    |succ i=>
     have:=ih i fun o ho=>hx o (by simp [ho])
     have:=hx x (by simp)
     simp only [List.take_succ_cons,a3Z];omega
  exact key l i fun o ho=>by
   obtain ⟨t1,t2,_⟩:=h2 o ho
   have:=c5j o.text
   omega
 simp [e8W]
 refine vl (fun i:Nat=>i<=l.length/\i<=41) (fun i=>mkS [(0,.c (.sl .brw false (a0a l))),(3,iv (a3Z (l.take i))),(4,iv i)] []) (fun i=>l.length-i) 0 (by simp) (a0b rfl ?_) ?_
 ·simp [a3Z]
 rintro i ⟨hi,hi2⟩ J hJ
 by_cases hlt:i<l.length
 ·by_cases h40:i<=40
  ·have hw:IntKind.wrap .i64 ((i:Int)+1)=((i+1:Nat):Int):=by rw [a0d]<;>omega
   have ho:=h2 _ (List.getElem_mem hlt)
   have e1:a3Z (l.take (i+1))=a3Z (l.take i)+a07 l[i].text:=by rw [<-a7O,List.take_append_getElem hlt]
   have e2:=hle (i+1)
   have hw2:IntKind.wrap .i64 ((a3Z (l.take i):Int)+a07 l[i].text)=((a3Z (l.take (i+1)):Nat):Int):=by rw [e1,a0d]<;>omega
   have f3Y:(i:Int)<=40:=by omega
   simp [b50,hlt,f3Y,a0e,hw,ho.1,ho.2.1]
   refine hJ (i+1) ⟨by omega,by omega⟩ (by omega) _ (a0b rfl ?_)
   simp [hw2]
  ·have f3Y:¬(i:Int)<=40:=by omega
   have hL:¬(l.length:Int)<=40:=by omega
   have hL2:¬l.length<=40:=by omega
   subst hB
   simp [b50,hlt,f3Y,hL,hL2]
 ·obtain rfl:i=l.length:=by omega
  subst hB
  cases c1:decide ((l.length:Int)<=40)
  ·have:¬l.length<=40:=by have:=of_decide_eq_false c1;omega
   simp [b50,c1,this]
  ·have:l.length<=40:=by have:=of_decide_eq_true c1;omega
   simp [b50,c1,this]
   omega
open Go Go.Proofs
def b4A:List AV->Option (Prop×AV):=t2 (fun l _=>b10 l) fun (l:List OpV) (e:a0F)=>bv (wrN l e)
@[simp] theorem d9W {l:List AV}:b4A l=(t2 (fun l _=>b10 l) fun (l:List OpV) (e:a0F)=>bv (wrN l e)) l:=(rfl)
def b4B:List AV->Option (Prop×AV):=t3 (fun l _ _=>l.length<1000000) fun (l:List OpV) (a b:Int)=>bv (a88 l a b)
@[simp] theorem d9X {l:List AV}:b4B l=(t3 (fun l _ _=>l.length<1000000) fun (l:List OpV) (a b:Int)=>bv (a88 l a b)) l:=(rfl)
def b4C:List AV->Option (Prop×AV):=t1 b10 fun l:List OpV=>bv (a3r l)
@[simp] theorem d9Y {l:List AV}:b4C l=(t1 b10 fun l:List OpV=>bv (a3r l)) l:=(rfl)
def b8r:List AV->Option (Prop×AV):=t2 (fun l o=>l.length<1000000/\(∀o∈l,o.gone.length<1000000)/\o.gone.length<1000000) fun (l:List OpV) (o:OpV)=>.c (.sl .old false (a0a (l++[o])))
@[simp] theorem e4U {l:List AV}:b8r l=(t2 (fun l o=>l.length<1000000/\(∀o∈l,o.gone.length<1000000)/\o.gone.length<1000000) fun (l:List OpV) (o:OpV)=>.c (.sl .old false (a0a (l++[o])))) l:=(rfl)
def FX2:CT:=(147,.pu b4A)::(148,.pu b4B)::(100,.pu b4C)::(72,.pu b8r)::FX1
theorem c9v:a1k Tryz.prog FX2:=⟨a0P fun l e h=>b8q l e h,
 a4L fun l a b h=>c71 l a b h,
 a0n fun l h=>c5m l h,
 a0P fun l o h=>b0m l o h.1 h.2.1 h.2.2,b6z⟩
@[simp] theorem d4H:a0c FX2 147=some (.pu b4A):=(rfl)
@[simp] theorem d4I:a0c FX2 148=some (.pu b4B):=(rfl)
@[simp] theorem d4J:a0c FX2 100=some (.pu b4C):=(rfl)
@[simp] theorem d9Z:a0c FX2 72=some (.pu b8r):=(rfl)
@[simp] theorem e4V {n:Nat} (h:(n==147||n==148||n==100||n==72)=false):a0c FX2 n=a0c FX1 n:=by
 simp only [Bool.or_eq_false_iff,beq_eq_false_iff_ne,ne_eq] at h
 simp [FX2,a0c,h]
theorem c72 (l:List OpV) (o:OpV) (h:b10 l) (ht:o.text.length<1000000) (hg:o.gone.length<1000000):PEv Tryz.prog 99 [Arg.enc l,Arg.enc o] (bv (a4t l o)):=by
 have hg':o.gone.length<4611686018427387904:=by omega
 refine a0f mixed c9v Tryz.func99 f9T f9U (by kernel_rfl) (by simp) (by simp [a0e]) ?_
 have h1:=h.1
 have hn:=a7J o.site l
 have hw1:IntKind.wrap .i64 ((a1g o.site l:Int)+1)=(a1g o.site l:Int)+1:=by rw [a0d]<;>omega
 generalize hB:a4t l o=B
 unfold a4t at hB
 cases c1:a0v o
 ·rw [c1] at hB;subst hB
  simp [s99,a0e,ht,hg',h1,h,hw1,c1]
 cases c2:decide (o.seq=(a1g o.site l:Int)+1)
 ·rw [c1,c2] at hB;subst hB
  simp [s99,a0e,ht,hg',h1,h,hw1,c1,c2]
 cases c3:wrN l o.after
 ·rw [c1,c2,c3] at hB;subst hB
  simp [s99,a0e,ht,hg',h1,h,hw1,c1,c2,c3]
 rw [c1,c2,c3] at hB
 simp only [Bool.true_and] at hB
 simp [s99,a0e,ht,hg',h1,h,hw1,c1,c2,c3]
 refine vl (fun i:Nat=>i<=o.gone.length/\∀j (hj:j<o.gone.length),j<i->wrN l o.gone[j]=true) (fun i=>mkS [(0,.c (.sl .brw false (a0a l))),(3,.c (.pt (1,1) 0 0)),(5,iv i)] [.var (1,1) 53 (a0e .brw o)]) (fun i=>o.gone.length-i) 0 (by simp) (a0b rfl ?_) ?_
 ·simp [a0e]
 rintro i ⟨hi,hp⟩ J hJ
 by_cases hlt:i<o.gone.length
 ·have hw:IntKind.wrap .i64 ((i:Int)+1)=((i+1:Nat):Int):=by rw [a0d]<;>omega
  cases c4:wrN l o.gone[i]
  ·have:(o.gone.any fun e=>!wrN l e)=true:=List.any_eq_true.2 ⟨_,List.getElem_mem hlt,by simp [c4]⟩
   rw [this] at hB
   simp only [Bool.not_true,Bool.false_and] at hB
   subst hB
   simp [c3N,a0e,hlt,hw,h,c4]
  ·simp [c3N,a0e,hlt,hw,h,c4]
   refine hJ (i+1) ⟨by omega,fun j hj hji=>?_⟩ (by omega) _ (a0b rfl ?_)
   ·by_cases g0t:j<i
    ·exact hp j hj g0t
    ·obtain rfl:j=i:=by omega
     exact c4
   ·simp [a0e]
 ·obtain rfl:i=o.gone.length:=by omega
  have:(o.gone.any fun e=>!wrN l e)=false:=by
   rw [List.any_eq_false]
   intro e he
   obtain ⟨j,hj,rfl⟩:=List.mem_iff_getElem.1 he
   simp [hp j hj hj]
  rw [this] at hB
  simp only [Bool.not_false,Bool.true_and] at hB
  subst hB
  cases c5:decide (o.kind=1)
  ·simp [c3N,a0e,h1,c5]
  ·simp [c3N,a0e,h1,c5]
def b8s:List AV->Option (Prop×AV):=t2 (fun l o=>b10 l/\o.text.length<1000000/\o.gone.length<1000000) fun (l:List OpV) (o:OpV)=>bv (a4t l o)
@[simp] theorem e4W {l:List AV}:b8s l=(t2 (fun l o=>b10 l/\o.text.length<1000000/\o.gone.length<1000000) fun (l:List OpV) (o:OpV)=>bv (a4t l o)) l:=(rfl)
def b8t:List AV->Option (Prop×AV):=t2 (fun l _=>l.length<4611686018427387904) fun (l:List Int) (n:Int)=>iv (idxOf (fun x=>decide (x=n)) 0 l)
@[simp] theorem e4X {l:List AV}:b8t l=(t2 (fun l _=>l.length<4611686018427387904) fun (l:List Int) (n:Int)=>iv (idxOf (fun x=>decide (x=n)) 0 l)) l:=(rfl)
def FX3:CT:=(99,.pu b8s)::(66,.pu b8t)::FX2
theorem c5n:a1k Tryz.prog FX3:=⟨a0P fun l o h=>c72 l o h.1 h.2.1 h.2.2,
 a0P fun l n h=>d1t l n h,c9v⟩
@[simp] theorem e0a:a0c FX3 99=some (.pu b8s):=(rfl)
@[simp] theorem e0b:a0c FX3 66=some (.pu b8t):=(rfl)
@[simp] theorem e4Y {n:Nat} (h:(n==99||n==66)=false):a0c FX3 n=a0c FX2 n:=by
 simp only [Bool.or_eq_false_iff,beq_eq_false_iff_ne,ne_eq] at h
 simp [FX3,a0c,h]
def c9w (l:List OpV):Nat->Nat->Bool
 |0,_=>a3r l
 |k+1,i=>if h:i<l.length then a4t (l.take i) l[i]&&c9w l k (i+1) else a3r l
def d4K (l:List OpV):Bool:=decide ((l.length:Int)<=40)&&c9w l l.length 0
theorem d1z (l:List OpV) (h:b10 l):PEv Tryz.prog 123 [Arg.enc l] (bv (d4K l)):=by
 refine a0f mixed c5n Tryz.func123 e9G e9H (by kernel_rfl) (by simp) (by simp) ?_
 generalize hB:d4K l=B
 unfold d4K at hB
 by_cases c1:(l.length:Int)<=40
 rotate_left
 ·rw [decide_eq_false c1] at hB;subst hB
  have:(40:Int)<l.length:=by omega
  simp [e26,this]
 rw [decide_eq_true c1,Bool.true_and] at hB
 have c1':¬(40:Int)<l.length:=by omega
 simp [e26,c1']
 refine vl (fun i:Nat=>i<=l.length/\c9w l (l.length-i) i=B) (fun i=>mkS [(0,.c (.sl .brw false (a0a l))),(3,iv i)] []) (fun i=>l.length-i) 0 (by simpa using hB) (a0b rfl ?_) ?_
 ·simp
 rintro i ⟨hi,hx⟩ J hJ
 by_cases hlt:i<l.length
 ·have hw:IntKind.wrap .i64 ((i:Int)+1)=((i+1:Nat):Int):=by rw [a0d]<;>omega
  obtain ⟨k,hk⟩:∃k,l.length-i=k+1:=⟨l.length-i-1,by omega⟩
  rw [hk,c9w,dif_pos hlt] at hx
  have htk:=h.take i
  have ho:=h.2 _ (List.getElem_mem hlt)
  have hrt:List.take i (a0a l)=a0a (l.take i):=by simp [a0a]
  cases c2:a4t (l.take i) l[i]
  ·rw [c2] at hx
   simp only [Bool.false_and] at hx
   subst hx
   simp [c0c,hlt,hi,hrt,htk,a0e,ho.2.1,ho.2.2,c2]
  ·rw [c2,Bool.true_and] at hx
   simp [c0c,hlt,hi,hrt,htk,a0e,ho.2.1,ho.2.2,c2,hw]
   refine hJ (i+1) ⟨by omega,by rw [show l.length-(i+1)=k by omega];exact hx⟩ (by omega) _ (a0b rfl ?_)
   simp
 ·obtain rfl:i=l.length:=by omega
  rw [Nat.sub_self,c9w] at hx
  subst hx
  simp [c0c,h]
def a1X:List Int->List OpV->Nat->List a0i->List Int×List OpV×Nat
 |ends,ops,k,[]=>(ends,ops,k)
 |ends,ops,k,x::l=>
  if x.join=true then (if x.a0H∈ends\/(8:Int)<=ends.length then (ends,ops,k) else a1X (ends++[x.a0H]) ops (k+1) l)
  else if (ends.length:Int)<x.op.site\/a4t ops x.op=false\/a3r (ops++[x.op])=false then (ends,ops,k) else a1X ends (ops++[x.op]) (k+1) l
def a1T (r:List Int×List OpV×Nat):AV:=.t [(false,[.sl .old false (a0a r.1)]),(false,[.sl .old false (a0a r.2.1)]),(false,[.raw (.int .i64 r.2.2)])]
theorem a7P (n:Int) (l:List Int):(0<=idxOf (fun x=>decide (x=n)) 0 l)↔n∈l:=by
 rw [a3T];simp
theorem c0G (l:List a0i) (hl:l.length<1000) (h:∀e∈l,a3W e.op.text=true/\e.op.text.length<1000000/\e.op.gone.length<1000000):PEv Tryz.prog 49 [Arg.enc l] (a1T (a1X [] [] 0 l)):=by
 refine a2w mixed c5n Tryz.func49 f8B f8C (by kernel_rfl) (by simp [a1T]) (by simp) ?_
 generalize hR:a1X [] [] 0 l=R
 simp [s49]
 refine vl (fun p:Nat×List Int×List OpV=>p.1<=l.length/\a1X p.2.1 p.2.2 p.1 (l.drop p.1)=R/\p.2.1.length<=p.1/\b10 p.2.2/\p.2.2.length<=p.1)
  (fun p=>mkS [(0,.c (.sl .brw false (a0a l))),(5,.c (.so (1,0) 0 p.2.1.length)),(6,.c (.sl .old false (a0a p.2.2))),(7,iv p.1)] [.rows (1,0) 3 1 (a0a p.2.1)]) (fun p=>l.length-p.1) (0,[],[]) ⟨by simp,by simpa using hR,by simp,⟨by simp,by simp⟩,by simp⟩ (a0b rfl ?_) ?_
 ·simp
 rintro ⟨i,ends,ops⟩ ⟨hi,hx,he,ho,hol⟩ J hJ
 simp only at hi hx he ho hol
 by_cases hlt:i<l.length
 ·have hw:IntKind.wrap .i64 ((i:Int)+1)=((i+1:Nat):Int):=by rw [a0d]<;>omega
  obtain ⟨e1,e2,e3⟩:=h _ (List.getElem_mem hlt)
  have hel:ends.length<4611686018427387904:=by omega
  have hc:a2C ends.length (a0a ends)=a0a ends:=a4f (by simp)
  rw [List.drop_eq_getElem_cons hlt,a1X] at hx
  cases cj:l[i].join
  ·rw [if_neg (by simp [cj])] at hx
   have hog:(∀o∈ops,o.gone.length<1000000)=True:=by simp;exact fun o hm=>(ho.2 o hm).2.2
   have hb:b10 (ops++[l[i].op]):=⟨by simp;omega,fun o hm=>by
    rcases List.mem_append.1 hm with hm|hm
    ·exact ho.2 o hm
    ·rw [List.mem_singleton.1 hm];exact ⟨e1,e2,e3⟩⟩
   cases c1:decide ((ends.length:Int)<l[i].op.site)
   rotate_left
   ·rw [if_pos (.inl (of_decide_eq_true c1))] at hx
    subst hx
    simp [b2H,hlt,a0m,a0e,cj,ho.1,hog,e3,c1,a1T]
    refine a0w (mkS [(2,.c (.so (1,0) 0 ends.length)),(3,.c (.sl .old false (a0a ops))),(4,iv i)] [.rows (1,0) 3 1 (a0a ends)]) (a0b rfl ?_) ?_<;>simp [a1T]
   cases c2:a4t ops l[i].op
   ·rw [if_pos (.inr (.inl c2))] at hx
    subst hx
    simp [b2H,hlt,a0m,a0e,cj,ho,ho.1,hog,e2,e3,c1,c2,a1T]
    refine a0w (mkS [(2,.c (.so (1,0) 0 ends.length)),(3,.c (.sl .old false (a0a ops))),(4,iv i)] [.rows (1,0) 3 1 (a0a ends)]) (a0b rfl ?_) ?_<;>simp [a1T]
   cases c3:a3r (ops++[l[i].op])
   ·rw [if_pos (.inr (.inr c3))] at hx
    subst hx
    simp [b2H,hlt,a0m,a0e,cj,ho,ho.1,hog,e2,e3,c1,c2,c3,hb,a1T]
    refine a0w (mkS [(2,.c (.so (1,0) 0 ends.length)),(3,.c (.sl .old false (a0a ops))),(4,iv i)] [.rows (1,0) 3 1 (a0a ends)]) (a0b rfl ?_) ?_<;>simp [a1T]
   ·rw [if_neg (by have:=of_decide_eq_false c1;rintro (q|q|q)<;>first|contradiction|(rw [c2] at q;cases q)|(rw [c3] at q;cases q))] at hx
    simp [b2H,hlt,a0m,a0e,cj,ho,ho.1,hog,e2,e3,c1,c2,c3,hb,hw]
    refine hJ (i+1,ends,ops++[l[i].op]) ⟨by simp;omega,hx,by simp;omega,hb,by simp;omega⟩ (by simp;omega) _ (a0b rfl ?_)
    simp
  ·rw [if_pos cj] at hx
   cases c1:decide (0<=idxOf (fun x=>decide (x=l[i].a0H)) 0 ends)
   rotate_left
   ·have c1':=(a7P _ _).1 (of_decide_eq_true c1)
    rw [if_pos (.inl c1')] at hx
    subst hx
    simp [b2H,hlt,a0m,a0e,cj,hel,c1,a1T]
    refine a0w (mkS [(2,.c (.so (1,0) 0 ends.length)),(3,.c (.sl .old false (a0a ops))),(4,iv i)] [.rows (1,0) 3 1 (a0a ends)]) (a0b rfl ?_) ?_<;>simp [a1T]
   have c1':l[i].a0H ∉ ends:=fun q=>of_decide_eq_false c1 ((a7P _ _).2 q)
   cases c2:decide ((8:Int)<=ends.length)
   rotate_left
   ·rw [if_pos (.inr (of_decide_eq_true c2))] at hx
    subst hx
    simp [b2H,hlt,a0m,a0e,cj,hel,c1,c2,a1T]
    refine a0w (mkS [(2,.c (.so (1,0) 0 ends.length)),(3,.c (.sl .old false (a0a ops))),(4,iv i)] [.rows (1,0) 3 1 (a0a ends)]) (a0b rfl ?_) ?_<;>simp [a1T]
   ·rw [if_neg (by have:=of_decide_eq_false c2;rintro (q|q)<;>contradiction)] at hx
    simp [b2H,hlt,a0m,a0e,cj,hel,c1,c2,hw,hc]
    refine ⟨⟨by omega,by omega⟩,hJ (i+1,ends++[l[i].a0H],ops) ⟨by simp;omega,hx,by simp;omega,ho,by simp;omega⟩ (by simp;omega) _ (a0b rfl ?_)⟩
    simp [a1l,a2G]
 ·obtain rfl:i=l.length:=by omega
  simp [a1X] at hx
  subst hx
  simp [b2H,a1T]
  refine a0w (mkS [(2,.c (.so (1,0) 0 ends.length)),(3,.c (.sl .old false (a0a ops))),(4,iv l.length)] [.rows (1,0) 3 1 (a0a ends)]) (a0b rfl ?_) ?_<;>simp [a1T]
open Go Go.Proofs
def a02.more (y:a02) (o:OpV):a02:={y with ops:=y.ops++[o]}
def a8x:a02->List OpV->a02
 |y,[]=>y
 |y,o::l=>if 4<y.ops.length+1\/700<(b6Z (y.more o)).length then y else a8x (y.more o) l
def a1B (r:a0o) (known:Int):a02:=a8x ⟨5,0,0,(min known.toNat r.ops.length:Nat),0,0,[]⟩ (r.ops.drop (min known.toNat r.ops.length))
theorem b11:∀{l:List OpV},(∀o∈l,okP o)->(l.flatMap a05).length<=40000000*l.length
 |[],_=>by simp
 |o::r,h=>by
  have h1:=a4j (h o (by simp))
  have h2:=b11 (l:=r) fun x hx=>h x (by simp [hx])
  simp only [List.flatMap_cons,List.length_append,List.length_cons]
  omega
theorem c0H {m:a02} (h:∀o∈m.ops,okP o):(b6Z m).length<=70+40000000*m.ops.length:=by
 have h1:=a2K [m.kind,m.site,m.a0H,m.known,m.seq,m.err,(m.ops.length:Int)]
 have h2:=b11 h
 simp only [List.length_cons,List.length_nil] at h1
 simp only [b6Z,List.length_append]
 omega
def b4D:List AV->Option (Prop×AV):=t1 c9s fun m:a02=>.c (.str (b6Z m))
@[simp] theorem e0c {l:List AV}:b4D l=(t1 c9s fun m:a02=>.c (.str (b6Z m))) l:=(rfl)
def b4E:List AV->Option (Prop×AV):=t1 (fun l=>l.length<1000000/\(∀o∈l,o.text.length<9223372036854775807)/\a3Z l<9223372036854775807) fun l:List OpV=>iv (a3Z l)
@[simp] theorem e0d {l:List AV}:b4E l=(t1 (fun l=>l.length<1000000/\(∀o∈l,o.text.length<9223372036854775807)/\a3Z l<9223372036854775807) fun l:List OpV=>iv (a3Z l)) l:=(rfl)
def b8u:List AV->Option (Prop×AV):=t2 (fun _ _=>True) fun (m:a02) (e:Int)=>.g (a0l .old (a2A m e))
@[simp] theorem e4Z {l:List AV}:b8u l=(t2 (fun _ _=>True) fun (m:a02) (e:Int)=>.g (a0l .old (a2A m e))) l:=(rfl)
def b8v:List AV->Option (Prop×AV):=t2 (fun r _=>a98 r) fun (r:a0o) (n:Int)=>.g (a0l .old (a1I r n))
@[simp] theorem e40 {l:List AV}:b8v l=(t2 (fun r _=>a98 r) fun (r:a0o) (n:Int)=>.g (a0l .old (a1I r n))) l:=(rfl)
def FW6:CT:=(114,.pu b4D)::(161,.pu b4E)::(57,.pu b8u)::(60,.pu b8v)::FW5
theorem c9x:a1k Tryz.prog FW6:=⟨a0n fun m h=>b8k m h,
 a0n fun l h=>c70 l h.1 h.2.1 h.2.2,
 a0P fun m e _=>d1x m e,
 a0P fun r n h=>c1V r n h,b1Y⟩
@[simp] theorem d4L:a0c FW6 114=some (.pu b4D):=(rfl)
@[simp] theorem d4M:a0c FW6 161=some (.pu b4E):=(rfl)
@[simp] theorem e0e:a0c FW6 57=some (.pu b8u):=(rfl)
@[simp] theorem e0f:a0c FW6 60=some (.pu b8v):=(rfl)
@[simp] theorem e41 {n:Nat} (h:(n==114||n==161||n==57||n==60)=false):a0c FW6 n=a0c FW5 n:=by
 simp only [Bool.or_eq_false_iff,beq_eq_false_iff_ne,ne_eq] at h
 simp [FW6,a0c,h]
theorem c73 (r:a0o) (known:Int) (h:a98 r) (hp:∀o∈r.ops,okP o) (hk:0<=known):PEv Tryz.prog 61 [Arg.enc r,Arg.enc known] (.g (a0l .old (a1B r known))):=by
 obtain ⟨h1,h2,h3,h4,h5⟩:=h
 refine a2w mixed c9x Tryz.func61 f8R f8S (by kernel_rfl) (by simp [a0l,a0u]) (by simp [a0r]) ?_
 obtain ⟨k,rfl⟩:=Int.eq_ofNat_of_zero_le hk
 generalize hR:a1B r (k:Int)=R
 unfold a1B at hR
 simp only [Int.toNat_natCast] at hR
 obtain ⟨q,hq⟩:∃q,min k r.ops.length=q:=⟨_,rfl⟩
 have hql:q<=r.ops.length:=by omega
 have hmin:(if r.ops.length<k then (r.ops.length:Int) else (k:Int))=(q:Int):=by split<;>omega
 rw [hq] at hR
 have hpd:∀o∈r.ops.drop q,okP o:=fun o ho=>hp o (List.mem_of_mem_drop ho)
 have hrd:List.drop q (a0a r.ops)=a0a (r.ops.drop q):=by simp [a0a]
 have hld:r.ops.length-q=(r.ops.drop q).length:=by simp
 simp [s61,a0r,hmin,hql,hrd]
 have hl3:(r.ops.drop q).length<1000000:=by simp;omega
 generalize hL:r.ops.drop q=l at *
 refine vl (fun p:Nat×a02=>p.1<=l.length/\a8x p.2 (l.drop p.1)=R/\p.2.ops.length<=4/\(∀o∈p.2.ops,okP o)/\p.2=⟨5,0,0,q,0,0,p.2.ops⟩)
  (fun p=>mkS [(4,.c (.pt (1,2) 0 0)),(5,.c (.pt (1,1) 0 0)),(19,.c (.sl .brw false (a0a l))),(20,iv l.length),(21,iv p.1)] [.var (1,1) 38 (a0l .old p.2),.var (1,2) 38 [.a0x,.a0x,.a0x,.a0x,.a0x,.a0x,.a0x]]) (fun p=>l.length-p.1) (0,⟨5,0,0,q,0,0,[]⟩) ⟨by simp,by simpa using hR,by simp,by simp,rfl⟩ (a0b rfl ?_) ?_
 ·simp [a0l,a0u]
  exact hld.symm
 rintro ⟨i,y⟩ ⟨hi,hx,hy,hyp,hye⟩ J hJ
 simp only at hi hx hy hyp hye
 by_cases hlt:i<l.length
 ·have hw:IntKind.wrap .i64 ((i:Int)+1)=((i+1:Nat):Int):=by rw [a0d]<;>omega
  have hpi:=hpd _ (List.getElem_mem hlt)
  rw [List.drop_eq_getElem_cons hlt,a8x] at hx
  simp [c1q,hlt,a0e,a0l,a0u]
  refine a1x (args':=[.c (.sl .brw false (a0a y.ops))]) ?_ (b6l y.ops (by omega)) (by simp) (by simp) ?_
  ·simp
  have hyg:∀o∈y.ops,o.gone.length<1000000:=fun o ho=>(hyp o ho).len
  have hyl:y.ops.length<1000000:=by omega
  have hrow:a0a y.ops++[a0e .old l[i]]=a0a (y.ops++[l[i]]):=by rw [a1l];rfl
  have htk:List.take (y.ops.length+1) (a0a (y.ops++[l[i]]))=a0a (y.ops++[l[i]]):=by rw [List.take_of_length_le];simp
  have b1:y.ops.length<=9223372036854775806/\(y.ops.length+1)*112<=140737488355328:=⟨by omega,by omega⟩
  have hmp:∀o∈y.ops++[l[i]],okP o:=fun o ho=>by
   rcases List.mem_append.1 ho with ho|ho
   ·exact hyp o ho
   ·rw [List.mem_singleton.1 ho];exact hpi
  simp only [a0e] at hrow
  cases c1:decide ((4:Int)<y.ops.length+1)
  ·have c1':¬4<y.ops.length+1:=by have:=of_decide_eq_false c1;omega
   have hm:c9s (y.more l[i]):=by
    have hb:=c0H (m:=y.more l[i]) hmp
    have hlen:(y.more l[i]).ops.length=y.ops.length+1:=by simp [a02.more]
    rw [hye]
    refine ⟨⟨by simp [a02.more],by simp [a02.more]⟩,⟨by simp [a02.more],by simp [a02.more]⟩,⟨by simp [a02.more],by simp [a02.more]⟩,⟨by simp [a02.more],by simp [a02.more];omega⟩,⟨by simp [a02.more],by simp [a02.more]⟩,⟨by simp [a02.more],by simp [a02.more]⟩,by simp [a02.more];omega,hmp,?_⟩
    rw [<-hye]
    omega
   obtain ⟨N,hN⟩:∃N,b6Z (y.more l[i])=N:=⟨_,rfl⟩
   rw [hN] at hx
   simp only [a02.more] at hm hN
   cases c2:decide ((700:Int)<N.length)
   ·have c2':¬700<N.length:=by have:=of_decide_eq_false c2;omega
    rw [if_neg (by omega)] at hx
    simp [c1q,a0l,a0u,a0e,c1,hrow,htk,hm,hN,c2,hw,b1]
    refine hJ (i+1,y.more l[i]) ⟨by simp;omega,hx,by simp [a02.more];omega,hmp,congrArg (fun m=>m.more l[i]) hye⟩ (by simp;omega) _ (a0b rfl ?_)
    simp [a0l,a0u,a02.more]
   ·have c2':700<N.length:=by have:=of_decide_eq_true c2;omega
    rw [if_pos (.inr c2')] at hx
    subst hx
    simp [c1q,a0l,a0u,a0e,c1,hrow,htk,hm,hN,c2,hyl,b1]
    refine ⟨hyg,a0w (mkS [(4,.c (.pt (1,1) 0 0))] [.var (1,1) 38 (a0l .old y)]) (a0b rfl ?_) ?_⟩<;>simp [a0l,a0u]
  ·have c1':4<y.ops.length+1:=by have:=of_decide_eq_true c1;omega
   rw [if_pos (.inl c1')] at hx
   subst hx
   simp [c1q,a0l,a0u,a0e,c1,hrow,htk,hyl,b1]
   refine ⟨hyg,a0w (mkS [(4,.c (.pt (1,1) 0 0))] [.var (1,1) 38 (a0l .old y)]) (a0b rfl ?_) ?_⟩<;>simp [a0l,a0u]
 ·obtain rfl:i=l.length:=by omega
  simp [a8x] at hx
  subst hx
  have hyg:∀o∈y.ops,o.gone.length<1000000:=fun o ho=>(hyp o ho).len
  have hyl:y.ops.length<1000000:=by omega
  simp [c1q,a0l,a0u,hyl]
  refine ⟨hyg,a0w (mkS [(4,.c (.pt (1,1) 0 0))] [.var (1,1) 38 (a0l .old y)]) (a0b rfl ?_) ?_⟩<;>simp [a0l,a0u]
open Go Go.Proofs
def b8w:List AV->Option (Prop×AV):=t2 (fun r k=>a98 r/\(∀o∈r.ops,okP o)/\0<=k) fun (r:a0o) (k:Int)=>.g (a0l .old (a1B r k))
@[simp] theorem e42 {l:List AV}:b8w l=(t2 (fun r k=>a98 r/\(∀o∈r.ops,okP o)/\0<=k) fun (r:a0o) (k:Int)=>.g (a0l .old (a1B r k))) l:=(rfl)
def FW7:CT:=(61,.pu b8w)::FW6
theorem c9y:a1k Tryz.prog FW7:=⟨a0P fun r k h=>c73 r k h.1 h.2.1 h.2.2,c9x⟩
@[simp] theorem e0g:a0c FW7 61=some (.pu b8w):=(rfl)
@[simp] theorem e43 {n:Nat} (h:(n==61)=false):a0c FW7 n=a0c FW6 n:=by
 simp only [Bool.or_eq_false_iff,beq_eq_false_iff_ne,ne_eq] at h
 simp [FW7,a0c,h]
def a6d:a02:=⟨0,0,0,0,0,0,[]⟩
def b0n (r:a0o) (m:a02) (o:OpV):Bool×a02:=
 if o.site=m.site then
  if o.seq<1+a1g m.site r.ops then (false,a1B r m.known)
  else if 1+(a1g m.site r.ops:Int)<o.seq then (false,a2A m 8)
  else if a0L (r.ops++[o])=true then (true,a6d)
  else if (40:Int)<=r.ops.length\/200<w64 ((a3Z r.ops:Int)+a07 o.text) then (false,a2A m 6) else (false,a2A m 1)
 else (false,a2A m 1)
def b4F (r:a0o) (m:a02):Bool×a02:=b0n r m (m.ops.headD a0C)
theorem d1A (r:a0o) (m:a02) (h:a98 r) (hp:∀o∈r.ops,okP o) (hs:a3Z r.ops<9223372036854775807) (hm:okM m) (hn:m.ops≠[]) (hk:0<=m.known):PEv Tryz.prog 106 [.g (a0r .old r),.g (a0l .brw m)] (.t [(false,[.raw (.bool (b4F r m).1)]),(true,a0l .old (b4F r m).2)]):=by
 have hr:=h
 obtain ⟨h1,h2,h3,h4,h5⟩:=h
 refine a2w mixed c9y Tryz.func106 e8q e8r (by kernel_rfl) (by simp [a0l,a0u]) (by simp [a0r,a0l,a0u]) ?_
 obtain ⟨m1,m2,m3,m4,m5,m6,l⟩:=m
 have h0:0<l.length:=List.length_pos_iff.2 hn
 have hmo:=hm.2 l[0] (List.getElem_mem h0)
 have ho:okO l[0]:=⟨Nat.lt_trans hmo.1 (by omega),Nat.lt_trans hmo.2 (by omega)⟩
 have hot:l[0].text.length<9223372036854775807:=Nat.lt_trans ho.1 (by omega)
 have htr:∀x∈r.ops,x.text.length<9223372036854775807:=fun x hx=>Nat.lt_trans (h5 x hx).1 (by omega)
 have hl:r.ops.length+1<4611686018427387904/\∀x,x∈r.ops\/x=l[0]->okO x:=⟨by omega,fun x hx=>by
  rcases hx with hx|rfl
  ·exact h5 x hx
  ·exact ho⟩
 generalize hR:b4F r ⟨m1,m2,m3,m4,m5,m6,l⟩=R
 have hhd:l.headD a0C=l[0]:=by cases l with|nil=>simp at h0|cons x l=>rfl
 replace hR:b0n r ⟨m1,m2,m3,m4,m5,m6,l⟩ l[0]=R:=by rw [<-hhd];exact hR
 unfold b0n at hR
 cases c1:decide (l[0].site=m2)
 ·rw [if_neg (of_decide_eq_false c1)] at hR
  subst hR
  simp [d2H,a0r,a0l,a0u,h0,a0e,c1,h3]
  refine a0w (mkS [(4,bv false),(5,.c (.pt (1,1) 0 0))] [.var (1,1) 38 (a0l .old (a2A ⟨m1,m2,m3,m4,m5,m6,l⟩ 1))]) (a0b rfl ?_) ?_<;>simp [a0l,a0u]
 rw [if_pos (of_decide_eq_true c1)] at hR
 cases c2:decide (l[0].seq<1+a1g m2 r.ops)
 rotate_left
 ·rw [if_pos (of_decide_eq_true c2)] at hR
  subst hR
  simp [d2H,a0r,a0l,a0u,h0,a0e,c1,c2,h3]
  refine ⟨⟨hr,hp,hk⟩,?_⟩
  refine a0w (mkS [(4,bv false),(5,.c (.pt (1,1) 0 0))] [.var (1,1) 38 (a0l .old (a1B r m4))]) (a0b rfl ?_) ?_<;>simp [a0l,a0u]
 rw [if_neg (of_decide_eq_false c2)] at hR
 cases c3:decide ((1:Int)+(a1g m2 r.ops:Int)<l[0].seq)
 rotate_left
 ·rw [if_pos (of_decide_eq_true c3)] at hR
  subst hR
  simp [d2H,a0r,a0l,a0u,h0,a0e,c1,c2,c3,h3]
  refine a0w (mkS [(4,bv false),(5,.c (.pt (1,1) 0 0))] [.var (1,1) 38 (a0l .old (a2A ⟨m1,m2,m3,m4,m5,m6,l⟩ 8))]) (a0b rfl ?_) ?_<;>simp [a0l,a0u]
 rw [if_neg (of_decide_eq_false c3)] at hR
 simp [d2H,a0r,a0l,a0u,h0,a0e,c1,c2,c3,h3]
 refine a1x (args':=[.c (.sl .brw false (a0a r.ops)),.g (a0e .brw l[0])]) ?_ (c4J r.ops l[0] h3) (by simp) (by simp) ?_
 ·simp [a0e]
 cases c4:a0L (r.ops++[l[0]])
 rotate_left
 ·rw [if_pos c4] at hR
  subst hR
  simp [c4]
  refine ⟨hl,?_⟩
  refine a0w (mkS [(4,bv true),(5,.c (.pt (1,1) 0 0))] [.var (1,1) 38 (a0l .old a6d)]) (a0b rfl ?_) ?_<;>simp [a0l,a0u,a6d]
 rw [if_neg (by rw [c4];simp)] at hR
 cases c5:decide ((40:Int)<=r.ops.length)
 rotate_left
 ·rw [if_pos (.inl (of_decide_eq_true c5))] at hR
  subst hR
  simp [c4,c5,a0l,a0u]
  refine ⟨hl,?_⟩
  refine a0w (mkS [(4,bv false),(5,.c (.pt (1,1) 0 0))] [.var (1,1) 38 (a0l .old (a2A ⟨m1,m2,m3,m4,m5,m6,l⟩ 6))]) (a0b rfl ?_) ?_<;>simp [a0l,a0u]
 cases c6:decide (200<IntKind.wrap .i64 ((a3Z r.ops:Int)+a07 l[0].text))
 ·rw [if_neg (by have:=of_decide_eq_false c5;have:=of_decide_eq_false c6;rintro (h|h)<;>contradiction)] at hR
  subst hR
  simp [c4,c5,a0e,h3,hs,hot,a0l,a0u]
  refine ⟨hl,htr,fun q=>absurd q (of_decide_eq_false c6),fun _=>?_⟩
  refine a0w (mkS [(4,bv false),(5,.c (.pt (1,1) 0 0))] [.var (1,1) 38 (a0l .old (a2A ⟨m1,m2,m3,m4,m5,m6,l⟩ 1))]) (a0b rfl ?_) ?_<;>simp [a0l,a0u]
 ·rw [if_pos (.inr (of_decide_eq_true c6))] at hR
  subst hR
  simp [c4,c5,a0e,h3,hs,hot,a0l,a0u]
  refine ⟨hl,htr,fun _=>?_,fun q=>by have:=of_decide_eq_true c6;omega⟩
  refine a0w (mkS [(4,bv false),(5,.c (.pt (1,1) 0 0))] [.var (1,1) 38 (a0l .old (a2A ⟨m1,m2,m3,m4,m5,m6,l⟩ 6))]) (a0b rfl ?_) ?_<;>simp [a0l,a0u]
open Go
variable {P:Program}
theorem a6x (hm:P.follows .mixedOrders=true) {F:CT} (hF:a1k P F) {f:FuncId} {fn:Func} {s:SC} {args:List AV} {ret:AV} (hf:P.funcs[f]?=some fn) (hs:a0q fn.body s=some (unK s,true))
  (hok:a0M a0p fn 0=true) (hle:Nat.ble args.length fn.ntmps=true) (hret:∀c∈ret.flat,b0J c) (harg:∀x∈args,∀c∈x.flat,VOK c) (h:a6G P F s (d8z P fn ret) (a74 args)):PEv P f args ret:=by
 cases hb:fn.body with
 |none=>rw [hb] at hs;cases hs
 |some c=>
  rw [hb] at hs
  simp only [a0q,Option.map_some,Option.some.injEq,Prod.mk.injEq] at hs
  simp only [a0M,hb,Bool.and_eq_true,decide_eq_true_eq,bne_iff_ne,ne_eq] at hok
  obtain ⟨⟨hname,hcode⟩,_⟩:=hok
  have hle:=Nat.le_of_ble_eq_true hle
  refine ⟨⟨by simp [a4H,hf,hb,hname],hret,harg⟩,fun w hI G vs hsz hargs nm inj=>?_⟩
  refine calls_of_wp hf hb (Code.wp_mono (fun e a w' q=>?_) (a2E a0p (a9O hm) c fn.ntmps _ a0G (a74 args) _ w hcode (by simp;omega) (b7g hsz hargs) (a2r hF hs.1 hs.2 h)))
  have fin:a2h (Ctx.of w hI G) fn.ntmps (fun st=>∃res,c08 P st fn.results.toList=some res/\exV st.H res ret/\(a2u res.flat).Nodup) a w'->
    a.defers=[]/\∃v,(results fn a.tmps).run P w'=.ok v w'/\(∃v',Ending.returned v=.returned v'/\∃ρ,a2B (Ctx.of w hI G) (adH nm 0 ret.flat a0s) ρ w'/\
     a3u w' (Fr (Ctx.of w hI G) (adH nm 0 ret.flat a0s) ρ) (adH nm 0 ret.flat a0s) ρ (ret.ad nm) v'):=fun ⟨_,ρ,st,hr,res,g1,g2,g3⟩=>by
   obtain ⟨v,h1,h2⟩:=a5a hr g1
   obtain ⟨ρ',h3,h4⟩:=a73 hr h2 hret g2 g3 nm inj
   exact ⟨hr.a7T,v,h1,v,rfl,ρ',h3,h4⟩
  cases e with
  |normal=>exact fin (a2h.mono (e38 q) fun st hs=>hs.2)
  |ret=>exact fin (a2h.mono (e38 q) fun st hs=>hs.2)
  |exit id=>
   obtain ⟨_,_,_,_,hs⟩:=q
   obtain ⟨v,_,hs⟩:=hs
   exact hs.1.elim
  |_=>exact q.elim
theorem v1 {F:CT} (v:St) {x y:SC} {Q:AEx->St->Prop} {st:St} (h1:∀J:St->Prop,(∀s,a9c P v s->J s)->a2S P F x (a4C J Q) st) (h2:a6G P F y Q v):a6G P F (.seq x y) Q st:=
 vs (ι:=Unit) (fun _=>True) (fun _=>v) (fun J hJ=>h1 J fun s hs=>hJ () trivial s hs) fun _ _=>h2
open Go Go.Proofs
@[simp] theorem d4N {b:Builtin} {xs:Array Operand} {ts:Array TypeId}:({callee:=.builtin b,args:=xs,argTypes:=ts}:Call).operands=xs:=by simp [Call.operands]
theorem c74 (g:FuncId) (p:OpV->Bool) (l:List OpV) (hl:l.length<4611686018427387904) (hp:∀o∈l,PEv Tryz.prog g [Arg.enc o] (bv (p o))):PEv Tryz.prog 187 [Arg.enc l,.c (.fn g [])] (iv (idxOf p 0 l)):=by
 refine a0f mixed (F:=[]) trivial Tryz.func187 d6Y d6Z (by kernel_rfl) (by simp) (by simp) ?_
 generalize hR:idxOf p 0 l=R
 simp [e3h]
 refine vl (fun i:Nat=>i<=l.length/\idxOf p i (l.drop i)=R)
  (fun i=>mkS [(0,.c (.sl .brw false (a0a l))),(1,.c (.fn g [])),(7,iv l.length),(8,iv i)] []) (fun i=>l.length-i) 0 (by simpa using hR) (a0b rfl ?_) ?_
 ·simp
 rintro i ⟨hi,hx⟩ J hJ
 by_cases hlt:i<l.length
 ·have hw:IntKind.wrap .i64 ((i:Int)+1)=((i+1:Nat):Int):=by rw [a0d]<;>omega
  rw [List.drop_eq_getElem_cons hlt,idxOf] at hx
  simp [a7w,hlt,a0e]
  refine a0R (hp _ (List.getElem_mem hlt)) (by simp [a0e]) (by simp) (by simp) ?_
  cases hg:p l[i]
  ·rw [if_neg (by simp [hg])] at hx
   simp [a7w,hw,hg]
   refine hJ (i+1) ⟨by omega,hx⟩ (by omega) _ (a0b rfl ?_)
   simp
  ·rw [if_pos hg] at hx
   simp [a7w,hw,hg,hx]
 ·simp [a7w,hlt]
  rw [<-hx,List.drop_eq_nil_of_le (by omega)]
  simp [idxOf]
theorem c75 (g:FuncId) (p:OpV->Bool) (l:List OpV) (hl:l.length<4611686018427387904) (hp:∀o∈l,PEv Tryz.prog g [Arg.enc o] (bv (p o))):PEv Tryz.prog 151 [Arg.enc l,.c (.fn g [])] (bv (l.any p)):=by
 refine a0f mixed (F:=[]) trivial Tryz.func151 d6S d6T (by kernel_rfl) (by simp) (by simp) ?_
 simp [e3c]
 refine a0R (c74 g p l hl hp) (by simp) (by simp) (by simp) ?_
 simp
 rw [Bool.eq_iff_iff,decide_eq_true_iff,a3T]
def b0X (n:Int):Bool:=decide (1<=n)&&decide (n<=268435456)
def countB (n:Int):Bool:=decide (0<=n)&&decide (n<=40)
def a3h (n:Int):Bool:=decide (1<=n/\n<=8)
def b4G:List AV->Option (Prop×AV):=t1 okO fun o:OpV=>bv (a0v o)
@[simp] theorem e0h {l:List AV}:b4G l=(t1 okO fun o:OpV=>bv (a0v o)) l:=(rfl)
def b4H:List AV->Option (Prop×AV):=t1 (fun _=>True) fun n:Int=>bv (a3h n)
@[simp] theorem e0i {l:List AV}:b4H l=(t1 (fun _=>True) fun n:Int=>bv (a3h n)) l:=(rfl)
def b4I:List AV->Option (Prop×AV):=t2 (fun _ _=>True) fun a b:Int=>bv (nameB a b)
@[simp] theorem e0j {l:List AV}:b4I l=(t2 (fun _ _=>True) fun a b:Int=>bv (nameB a b)) l:=(rfl)
def b4J:List AV->Option (Prop×AV):=t1 (fun _=>True) fun n:Int=>bv (b0X n)
@[simp] theorem e0k {l:List AV}:b4J l=(t1 (fun _=>True) fun n:Int=>bv (b0X n)) l:=(rfl)
def b4K:List AV->Option (Prop×AV):=t1 (fun _=>True) fun n:Int=>bv (countB n)
@[simp] theorem e0l {l:List AV}:b4K l=(t1 (fun _=>True) fun n:Int=>bv (countB n)) l:=(rfl)
def FW8:CT:=(153,.pu b4G)::(155,.pu b4H)::(157,.pu b4I)::(154,.pu b4J)::(156,.pu b4K)::FW7
theorem c5o:a1k Tryz.prog FW8:=⟨a0n fun o h=>c0n o h,
 a0n fun n _=>b57 n,
 a0P fun a b _=>b58 a b,
 a0n fun n _=>d9L n,
 a0n fun n _=>c7Z n,c9y⟩
@[simp] theorem d4O:a0c FW8 153=some (.pu b4G):=(rfl)
@[simp] theorem d4P:a0c FW8 155=some (.pu b4H):=(rfl)
@[simp] theorem d4Q:a0c FW8 157=some (.pu b4I):=(rfl)
@[simp] theorem d4R:a0c FW8 154=some (.pu b4J):=(rfl)
@[simp] theorem d4S:a0c FW8 156=some (.pu b4K):=(rfl)
@[simp] theorem e44 {n:Nat} (h:(n==153||n==155||n==157||n==154||n==156)=false):a0c FW8 n=a0c FW7 n:=by
 simp only [Bool.or_eq_false_iff,beq_eq_false_iff_ne,ne_eq] at h
 simp [FW8,a0c,h]
theorem c76 (o:OpV) (h:okO o):PEv Tryz.prog 152 [Arg.enc o] (bv (!a0v o)):=by
 refine a0f mixed c5o Tryz.func152 f0g f0h (by kernel_rfl) (by simp) (by simp [a0e]) ?_
 simp [f0f,a0e,h]
def b0o (m:a02):Bool:=
 if m.kind=1 then b0X m.a0H&&decide (m.ops=[])&&decide (m.site=0)&&decide (m.known=0)&&decide (m.seq=0)&&decide (m.err=0)
 else if m.kind=2 then b0X m.a0H&&a3h m.site&&decide (m.ops=[])&&decide (m.known=0)&&decide (m.seq=0)&&decide (m.err=0)
 else if m.kind=3 then a3h m.site&&countB m.known&&decide (m.ops=[])&&decide (m.a0H=0)&&decide (m.seq=0)&&decide (m.err=0)
 else if m.kind=4 then a3h m.site&&countB m.known&&decide ((m.ops.length:Int)=1)&&decide (m.a0H=0)&&decide (m.seq=0)&&decide (m.err=0)
 else if m.kind=5 then countB m.known&&decide ((m.ops.length:Int)<=4)&&decide (m.site=0)&&decide (m.a0H=0)&&decide (m.seq=0)&&decide (m.err=0)
 else if m.kind=6 then nameB m.site m.seq&&decide (1<=m.err)&&decide (m.err<=8)&&decide (m.ops=[])&&decide (m.a0H=0)&&decide (m.known=0)
 else false
def a2Q (m:a02):Bool:=!(m.ops.any fun o=>!a0v o)&&b0o m
def c77 (m:a02):Bool×Int×a02:=
 if m.kind=1 then (b0X m.a0H,0,⟨m.kind,0,m.a0H,0,0,0,[]⟩)
 else if m.kind=2 then (b0X m.a0H&&a3h m.site,0,⟨m.kind,m.site,m.a0H,0,0,0,[]⟩)
 else if m.kind=3 then (a3h m.site&&countB m.known,0,⟨m.kind,m.site,0,m.known,0,0,[]⟩)
 else if m.kind=4 then (a3h m.site&&countB m.known,1,⟨m.kind,m.site,0,m.known,0,0,[]⟩)
 else if m.kind=5 then (countB m.known&&decide ((m.ops.length:Int)<=4),m.ops.length,⟨m.kind,0,0,m.known,0,0,[]⟩)
 else if m.kind=6 then (nameB m.site m.seq&&decide (1<=m.err)&&decide (m.err<=8),0,⟨m.kind,m.site,0,0,m.seq,m.err,[]⟩)
 else (false,0,⟨m.kind,0,0,0,0,0,[]⟩)
def lastB (m:a02) (q:Bool×Int×a02):Bool:=q.1&&decide ((m.ops.length:Int)=q.2.1)&&decide (m.site=q.2.2.site)&&decide (m.a0H=q.2.2.a0H)&&decide (m.known=q.2.2.known)&&decide (m.seq=q.2.2.seq)&&decide (m.err=q.2.2.err)
theorem c5p (m:a02):b0o m=lastB m (c77 m):=by
 have hz:decide ((m.ops.length:Int)=0)=decide (m.ops=[]):=by
  rw [Bool.eq_iff_iff]
  simp
 unfold b0o lastB c77
 by_cases k1:m.kind=1
 ·simp only [if_pos k1];rw [hz];cases b0X m.a0H<;>cases decide (m.ops=[])<;>simp
 by_cases k2:m.kind=2
 ·simp only [if_neg k1,if_pos k2];rw [hz];cases b0X m.a0H<;>cases a3h m.site<;>cases decide (m.ops=[])<;>simp
 by_cases k3:m.kind=3
 ·simp only [if_neg k1,if_neg k2,if_pos k3];rw [hz];cases a3h m.site<;>cases countB m.known<;>cases decide (m.ops=[])<;>simp
 by_cases k4:m.kind=4
 ·simp only [if_neg k1,if_neg k2,if_neg k3,if_pos k4];cases a3h m.site<;>cases countB m.known<;>cases decide ((m.ops.length:Int)=1)<;>simp
 by_cases k5:m.kind=5
 ·simp only [if_neg k1,if_neg k2,if_neg k3,if_neg k4,if_pos k5];cases countB m.known<;>cases decide ((m.ops.length:Int)<=4)<;>simp
 by_cases k6:m.kind=6
 ·simp only [if_neg k1,if_neg k2,if_neg k3,if_neg k4,if_neg k5,if_pos k6];rw [hz];cases nameB m.site m.seq<;>cases decide (1<=m.err)<;>cases decide (m.err<=8)<;>cases decide (m.ops=[])<;>simp
 ·simp only [if_neg k1,if_neg k2,if_neg k3,if_neg k4,if_neg k5,if_neg k6];rfl
structure FnV where
 g:FuncId
instance g0a:Arg FnV where
 enc x:=.c (.fn x.g [])
 dec|.c (.fn g [])=>some ⟨g⟩|_=>none
 a1o {x d} h:=by
  split at h
  ·cases h;rfl
  ·cases h
@[simp] theorem f5K (g:FuncId):Arg.dec (.c (.fn g []))=some (FnV.mk g):=(rfl)
def b4L:List AV->Option (Prop×AV):=t2 (fun l g=>(l.length<4611686018427387904/\∀o∈l,okO o)/\g.g=152) fun (l:List OpV) (g:FnV)=>bv (l.any fun o=>!a0v o)
@[simp] theorem e0m {l:List AV}:b4L l=(t2 (fun l g=>(l.length<4611686018427387904/\∀o∈l,okO o)/\g.g=152) fun (l:List OpV) (g:FnV)=>bv (l.any fun o=>!a0v o)) l:=(rfl)
def FW9:CT:=(151,.pu b4L)::FW8
theorem c9z:a1k Tryz.prog FW9:=⟨a0P fun l g h=>(by obtain ⟨g⟩:=g;obtain ⟨⟨h1,h2⟩,rfl⟩:=h;exact c75 _ (fun o=>!a0v o) l h1 fun o ho=>c76 o (h2 o ho)),c5o⟩
@[simp] theorem d4T:a0c FW9 151=some (.pu b4L):=(rfl)
@[simp] theorem e45 {n:Nat} (h:(n==151)=false):a0c FW9 n=a0c FW8 n:=by
 simp only [Bool.or_eq_false_iff,beq_eq_false_iff_ne,ne_eq] at h
 simp [FW9,a0c,h]
theorem c1X (m:a02) (h:okM m):PEv Tryz.prog 102 [Arg.enc m] (bv (a2Q m)):=by
 refine a6x mixed c9z Tryz.func102 e83 e84 (by kernel_rfl) (by simp) (by simp [a0l,a0u]) ?_
 have hl:m.ops.length<4611686018427387904:=Nat.lt_trans h.1 (by omega)
 have ho:(∀o∈m.ops,okO o)=True:=by simp;exact fun o ho=>⟨Nat.lt_trans (h.2 o ho).1 (by omega),Nat.lt_trans (h.2 o ho).2 (by omega)⟩
 unfold a2Q
 rw [c5p]
 obtain ⟨a1,a2,a3,a4,a5,a6,l⟩:=m
 simp only at hl ho ⊢
 unfold e82
 refine v1 (mkS [(1,.c (.pt (1,1) 0 0)),(2,bv false)] [.var (1,1) 38 (a0l .brw ⟨a1,a2,a3,a4,a5,a6,l⟩)]) (fun J hJ=>?_) ?_
 ·simp [a0l,a0u]
  refine hJ _ (a0b rfl ?_)
  simp [a0l,a0u]
 refine vs (ι:=Unit) (fun _=>(l.any fun o=>!a0v o)=false) (fun _=>mkS [(1,.c (.pt (1,1) 0 0))] [.var (1,1) 38 (a0l .brw ⟨a1,a2,a3,a4,a5,a6,l⟩)]) (fun J hJ=>?_) (fun _ c0=>?_)
 ·cases c0:l.any fun o=>!a0v o
  ·simp only [a0l,a0u]
   simp (maxSteps:=9^60) [hl,ho,c0]
   refine hJ () c0 _ (a0b rfl ?_)
   simp [a0l,a0u]
  ·simp only [a0l,a0u]
   simp (maxSteps:=9^60) [hl,ho,c0]
   refine a0w (mkS [(2,bv false)] []) (a0b rfl ?_) ?_<;>simp [a0l,a0u]
 rw [c0]
 simp only [Bool.not_false,Bool.true_and]
 refine v1 (mkS [(1,.c (.pt (1,1) 0 0)),(3,.c (.pt (1,2) 0 0))] [.var (1,1) 38 (a0l .brw ⟨a1,a2,a3,a4,a5,a6,l⟩),.var (1,2) 38 (a0l .brw ⟨a1,0,0,0,0,0,[]⟩)]) (fun J hJ=>?_) ?_
 ·simp [a0l,a0u]
  refine hJ _ (a0b rfl ?_)
  simp [a0l,a0u]
 refine v1 (mkS [(1,.c (.pt (1,1) 0 0)),(3,.c (.pt (1,2) 0 0)),(4,iv 0)] [.var (1,1) 38 (a0l .brw ⟨a1,a2,a3,a4,a5,a6,l⟩),.var (1,2) 38 (a0l .brw ⟨a1,0,0,0,0,0,[]⟩)]) (fun J hJ=>?_) ?_
 ·simp [a0l,a0u]
  refine hJ _ (a0b rfl ?_)
  simp [a0l,a0u]
 refine v1 (mkS [(1,.c (.pt (1,1) 0 0)),(3,.c (.pt (1,2) 0 0)),(4,iv 0),(5,bv false)] [.var (1,1) 38 (a0l .brw ⟨a1,a2,a3,a4,a5,a6,l⟩),.var (1,2) 38 (a0l .brw ⟨a1,0,0,0,0,0,[]⟩)]) (fun J hJ=>?_) ?_
 ·simp [a0l,a0u]
  refine hJ _ (a0b rfl ?_)
  simp [a0l,a0u]
 refine vs (ι:=Bool×Int×a02) (fun q=>q=c77 ⟨a1,a2,a3,a4,a5,a6,l⟩) (fun q=>mkS [(1,.c (.pt (1,1) 0 0)),(3,.c (.pt (1,2) 0 0)),(4,iv q.2.1),(5,bv q.1)] [.var (1,1) 38 (a0l .brw ⟨a1,a2,a3,a4,a5,a6,l⟩),.var (1,2) 38 (a0l .brw q.2.2)]) (fun J hJ=>?_) ?_
 ·replace hJ:=hJ _ rfl
  unfold c77 at hJ
  simp only at hJ
  by_cases k1:a1=1
  ·subst k1
   rw [if_pos rfl] at hJ
   simp [a0l,a0u]
   refine hJ _ (a0b rfl ?_)
   simp [a0l,a0u]
  rw [if_neg k1] at hJ
  by_cases k2:a1=2
  ·subst k2
   rw [if_pos rfl] at hJ
   cases d1:b0X a3
   ·rw [d1] at hJ
    simp only [a0l,a0u]
    simp (maxSteps:=9^60) [d1]
    refine hJ _ (a0b rfl ?_)
    simp [a0l,a0u]
   cases d2:a3h a2
   ·rw [d1,d2] at hJ
    simp only [a0l,a0u]
    simp (maxSteps:=9^60) [d1,d2]
    refine hJ _ (a0b rfl ?_)
    simp [a0l,a0u]
   rw [d1,d2] at hJ
   simp only [a0l,a0u]
   simp (maxSteps:=9^60) [d1,d2]
   refine hJ _ (a0b rfl ?_)
   simp [a0l,a0u]
  rw [if_neg k2] at hJ
  by_cases k3:a1=3
  ·subst k3
   rw [if_pos rfl] at hJ
   cases d1:a3h a2
   ·rw [d1] at hJ
    simp only [a0l,a0u]
    simp (maxSteps:=9^60) [d1]
    refine hJ _ (a0b rfl ?_)
    simp [a0l,a0u]
   cases d2:countB a4
   ·rw [d1,d2] at hJ
    simp only [a0l,a0u]
    simp (maxSteps:=9^60) [d1,d2]
    refine hJ _ (a0b rfl ?_)
    simp [a0l,a0u]
   rw [d1,d2] at hJ
   simp only [a0l,a0u]
   simp (maxSteps:=9^60) [d1,d2]
   refine hJ _ (a0b rfl ?_)
   simp [a0l,a0u]
  rw [if_neg k3] at hJ
  by_cases k4:a1=4
  ·subst k4
   rw [if_pos rfl] at hJ
   cases d1:a3h a2
   ·rw [d1] at hJ
    simp only [a0l,a0u]
    simp (maxSteps:=9^60) [d1]
    refine hJ _ (a0b rfl ?_)
    simp [a0l,a0u]
   cases d2:countB a4
   ·rw [d1,d2] at hJ
    simp only [a0l,a0u]
    simp (maxSteps:=9^60) [d1,d2]
    refine hJ _ (a0b rfl ?_)
    simp [a0l,a0u]
   rw [d1,d2] at hJ
   simp only [a0l,a0u]
   simp (maxSteps:=9^60) [d1,d2]
   refine hJ _ (a0b rfl ?_)
   simp [a0l,a0u]
  rw [if_neg k4] at hJ
  by_cases k5:a1=5
  ·subst k5
   rw [if_pos rfl] at hJ
   cases d1:countB a4
   ·rw [d1] at hJ
    simp only [a0l,a0u]
    simp (maxSteps:=9^60) [d1]
    refine hJ _ (a0b rfl ?_)
    simp [a0l,a0u]
   cases d2:decide ((l.length:Int)<=4)
   ·rw [d1,d2] at hJ
    simp only [a0l,a0u]
    simp (maxSteps:=9^60) [d1,d2]
    refine hJ _ (a0b rfl ?_)
    simp [a0l,a0u]
   rw [d1,d2] at hJ
   simp only [a0l,a0u]
   simp (maxSteps:=9^60) [d1,d2]
   refine hJ _ (a0b rfl ?_)
   simp [a0l,a0u]
  rw [if_neg k5] at hJ
  by_cases k6:a1=6
  ·subst k6
   rw [if_pos rfl] at hJ
   cases d1:nameB a2 a5
   ·rw [d1] at hJ
    simp only [a0l,a0u]
    simp (maxSteps:=9^60) [d1]
    refine hJ _ (a0b rfl ?_)
    simp [a0l,a0u]
   cases d2:decide (1<=a6)
   ·rw [d1,d2] at hJ
    simp only [a0l,a0u]
    simp (maxSteps:=9^60) [d1,d2]
    refine hJ _ (a0b rfl ?_)
    simp [a0l,a0u]
   cases d3:decide (a6<=8)
   ·rw [d1,d2,d3] at hJ
    simp only [a0l,a0u]
    simp (maxSteps:=9^60) [d1,d2,d3]
    refine hJ _ (a0b rfl ?_)
    simp [a0l,a0u]
   rw [d1,d2,d3] at hJ
   simp only [a0l,a0u]
   simp (maxSteps:=9^60) [d1,d2,d3]
   refine hJ _ (a0b rfl ?_)
   simp [a0l,a0u]
  rw [if_neg k6] at hJ
  simp only [a0l,a0u]
  simp (maxSteps:=9^60) [k1,k2,k3,k4,k5,k6]
  refine hJ _ (a0b rfl ?_)
  simp [a0l,a0u]
 ·rintro ⟨b,n,⟨b1,b2,b3,b4,b5,b6,b7⟩⟩ hq
  rw [<-hq]
  unfold lastB
  simp only
  refine a1p ?_
  cases b
  ·simp only [a0l,a0u]
   simp (maxSteps:=9^60)
   refine a0w (mkS [(2,bv false)] []) (a0b rfl ?_) ?_<;>simp [a0l,a0u]
  cases e1:decide ((l.length:Int)=n)
  ·simp only [a0l,a0u]
   simp (maxSteps:=9^60) [e1]
   refine a0w (mkS [(2,bv false)] []) (a0b rfl ?_) ?_<;>simp [a0l,a0u]
  cases e2:decide (a2=b2)
  ·simp only [a0l,a0u]
   simp (maxSteps:=9^60) [e1,e2]
   refine a0w (mkS [(2,bv false)] []) (a0b rfl ?_) ?_<;>simp [a0l,a0u]
  cases e3:decide (a3=b3)
  ·simp only [a0l,a0u]
   simp (maxSteps:=9^60) [e1,e2,e3]
   refine a0w (mkS [(2,bv false)] []) (a0b rfl ?_) ?_<;>simp [a0l,a0u]
  cases e4:decide (a4=b4)
  ·simp only [a0l,a0u]
   simp (maxSteps:=9^60) [e1,e2,e3,e4]
   refine a0w (mkS [(2,bv false)] []) (a0b rfl ?_) ?_<;>simp [a0l,a0u]
  cases e5:decide (a5=b5)
  ·simp only [a0l,a0u]
   simp (maxSteps:=9^60) [e1,e2,e3,e4,e5]
   refine a0w (mkS [(2,bv false)] []) (a0b rfl ?_) ?_<;>simp [a0l,a0u]
  simp only [a0l,a0u]
  simp (maxSteps:=9^60) [e1,e2,e3,e4,e5]
  refine a0w (mkS [(2,bv (decide (a6=b6)))] []) (a0b rfl ?_) ?_<;>simp [a0l,a0u]
open Go Go.Proofs
def a0t (r:a0o) (m:a02):a0i×Bool×a02:=
 if m.kind=1 then
  if m.a0H∈r.ends then (zeroE,false,a1I r m.a0H)
  else if (8:Int)<=r.ends.length then (zeroE,false,a2A m 6)
  else (⟨true,m.a0H,a0C⟩,true,a6d)
 else if (r.ends.length:Int)<m.site then (zeroE,false,a2A m 3)
 else if m.kind=3 then (zeroE,false,a1B r m.known)
 else (⟨false,0,m.ops.headD a0C⟩,b4F r m)
theorem c78 (r:a0o) (m:a02) (h:a98 r) (hp:∀o∈r.ops,okP o) (hs:a3Z r.ops<9223372036854775807) (hm:okM m) (hn:m.kind≠1->m.kind≠3->m.ops≠[]) (hk:0<=m.known) :
  PEv Tryz.prog 55 [.g (a0r .old r),.g (a0l .brw m)] (.t [(true,a0m .old (a0t r m).1),(false,[.raw (.bool (a0t r m).2.1)]),(true,a0l .old (a0t r m).2.2)]):=by
 have hr:=h
 have h4:r.ends.length<4611686018427387904:=Nat.lt_trans h.2.2.2.1 (by omega)
 refine a2w mixed c5o Tryz.func55 f8H f8I (by kernel_rfl) (by simp [a0m,a0e,a0l,a0u]) (by simp [a0r,a0l,a0u]) ?_
 have hsub:=fun hne=>d1A r m h hp hs hm hne hk
 obtain ⟨a1,a2,a3,a4,a5,a6,l⟩:=m
 simp only at hn hk
 generalize hR:a0t r ⟨a1,a2,a3,a4,a5,a6,l⟩=R
 unfold a0t at hR
 simp only at hR
 by_cases k1:a1=1
 ·subst k1
  rw [if_pos rfl] at hR
  cases c1:decide (a3∈r.ends)
  ·rw [if_neg (of_decide_eq_false c1)] at hR
   cases c2:decide ((8:Int)<=r.ends.length)
   ·rw [if_neg (of_decide_eq_false c2)] at hR
    subst hR
    simp [s55,a0r,a0l,a0u,c1,c2,h4]
    refine a0w (mkS [(4,.c (.pt (1,1) 0 0)),(5,bv true),(6,.c (.pt (1,2) 0 0))] [.var (1,1) 97 (a0m .old ⟨true,a3,a0C⟩),.var (1,2) 38 (a0l .old a6d)]) (a0b rfl ?_) ?_<;>simp [a0m,a0e,a0C,a6d,a0l,a0u]
   ·rw [if_pos (of_decide_eq_true c2)] at hR
    subst hR
    simp [s55,a0r,a0l,a0u,c1,c2,h4]
    refine a0w (mkS [(4,.c (.pt (1,1) 0 0)),(5,bv false),(6,.c (.pt (1,2) 0 0))] [.var (1,1) 97 (a0m .old zeroE),.var (1,2) 38 (a0l .old (a2A ⟨1,a2,a3,a4,a5,a6,l⟩ 6))]) (a0b rfl ?_) ?_<;>simp [a0m,a0e,a0C,zeroE,a0l,a0u]
  ·rw [if_pos (of_decide_eq_true c1)] at hR
   subst hR
   simp [s55,a0r,a0l,a0u,c1,h4]
   refine ⟨hr,?_⟩
   refine a0w (mkS [(4,.c (.pt (1,1) 0 0)),(5,bv false),(6,.c (.pt (1,2) 0 0))] [.var (1,1) 97 (a0m .old zeroE),.var (1,2) 38 (a0l .old (a1I r a3))]) (a0b rfl ?_) ?_<;>simp [a0m,a0e,a0C,zeroE,a0l,a0u]
 rw [if_neg k1] at hR
 cases c1:decide ((r.ends.length:Int)<a2)
 rotate_left
 ·rw [if_pos (of_decide_eq_true c1)] at hR
  subst hR
  simp [s55,a0r,a0l,a0u,k1,c1,h4]
  refine a0w (mkS [(4,.c (.pt (1,1) 0 0)),(5,bv false),(6,.c (.pt (1,2) 0 0))] [.var (1,1) 97 (a0m .old zeroE),.var (1,2) 38 (a0l .old (a2A ⟨a1,a2,a3,a4,a5,a6,l⟩ 3))]) (a0b rfl ?_) ?_<;>simp [a0m,a0e,a0C,zeroE,a0l,a0u]
 rw [if_neg (of_decide_eq_false c1)] at hR
 by_cases k3:a1=3
 ·subst k3
  rw [if_pos rfl] at hR
  subst hR
  simp [s55,a0r,a0l,a0u,c1,h4]
  refine ⟨⟨hr,hp,hk⟩,?_⟩
  refine a0w (mkS [(4,.c (.pt (1,1) 0 0)),(5,bv false),(6,.c (.pt (1,2) 0 0))] [.var (1,1) 97 (a0m .old zeroE),.var (1,2) 38 (a0l .old (a1B r a4))]) (a0b rfl ?_) ?_<;>simp [a0m,a0e,a0C,zeroE,a0l,a0u]
 rw [if_neg k3] at hR
 have hne:=hn k1 k3
 have h0:0<l.length:=List.length_pos_iff.2 hne
 have hhd:l.headD a0C=l[0]:=by cases l with|nil=>simp at h0|cons x l=>rfl
 have hsub:=hsub hne
 generalize b4F r ⟨a1,a2,a3,a4,a5,a6,l⟩=V at hR hsub
 rw [hhd] at hR
 subst hR
 simp [s55,a0r,a0l,a0u,k1,k3,c1,h4]
 refine a1x (args':=[.g (a0r .brw r),.g (a0l .brw ⟨a1,a2,a3,a4,a5,a6,l⟩)]) ?_ hsub (by simp [a0r,a0l,a0u]) (by simp [a0r,a0l,a0u]) ?_
 ·simp [a0r,a0l,a0u]
 obtain ⟨b,y⟩:=V
 simp [a0l,a0u,h0,a0e]
 refine a0w (mkS [(4,.c (.pt (1,1) 0 0)),(5,bv b),(6,.c (.pt (1,2) 0 0))] [.var (1,1) 97 (a0m .old ⟨false,0,l[0]⟩),.var (1,2) 38 (a0l .old y)]) (a0b rfl ?_) ?_<;>simp [a0m,a0e,a0l,a0u]
def b8x:List AV->Option (Prop×AV):=t1 a98 fun r:a0o=>bv (a1P r)
@[simp] theorem e46 {l:List AV}:b8x l=(t1 a98 fun r:a0o=>bv (a1P r)) l:=(rfl)
def b4M:List AV->Option (Prop×AV):=t1 okM fun m:a02=>bv (a2Q m)
@[simp] theorem e0n {l:List AV}:b4M l=(t1 okM fun m:a02=>bv (a2Q m)) l:=(rfl)
def FWa:CT:=(77,.pu b8x)::(102,.pu b4M)::FW9
theorem c9A:a1k Tryz.prog FWa:=⟨a0n fun r h=>d1s r h,
 a0n fun m h=>c1X m h,c9z⟩
@[simp] theorem e0o:a0c FWa 77=some (.pu b8x):=(rfl)
@[simp] theorem d4U:a0c FWa 102=some (.pu b4M):=(rfl)
@[simp] theorem e47 {n:Nat} (h:(n==77||n==102)=false):a0c FWa n=a0c FW9 n:=by
 simp only [Bool.or_eq_false_iff,beq_eq_false_iff_ne,ne_eq] at h
 simp [FWa,a0c,h]
def a30 (r:a0o) (m:a02):Bool:=a1P r&&a2Q m&&(decide (m.kind=1)||decide (m.kind=3)||decide (m.kind=4))
theorem d1B (r:a0o) (m:a02) (h:a98 r) (hm:okM m):PEv Tryz.prog 53 [Arg.enc r,Arg.enc m] (bv (a30 r m)):=by
 refine a0f mixed c9A Tryz.func53 f8D f8E (by kernel_rfl) (by simp) (by simp [a0r,a0l,a0u]) ?_
 generalize hB:a30 r m=B
 unfold a30 at hB
 cases c1:a1P r
 ·rw [c1] at hB;subst hB
  simp [s53,a0r,a0l,a0u,h,hm,c1]
 cases c2:a2Q m
 ·rw [c1,c2] at hB;subst hB
  simp [s53,a0r,a0l,a0u,h,hm,c1,c2]
 rw [c1,c2] at hB;subst hB
 obtain ⟨a1,a2,a3,a4,a5,a6,l⟩:=m
 by_cases k1:a1=1
 ·subst k1
  simp [s53,a0r,a0l,a0u,h,hm,c1,c2]
 by_cases k3:a1=3
 ·subst k3
  simp [s53,a0r,a0l,a0u,h,hm,c1,c2]
 ·simp [s53,a0r,a0l,a0u,h,hm,c1,c2,k1,k3]
open Go
theorem c79:∀(k j m acc q:Nat) (r:List UInt8),q<128^(k+1)->k<=j->acc+q*m<=268435456->(1<m->1<=q)->1<=m->a3D (k+1) m acc (a1d j q++r)=some (acc+q*m,r):=by
 have one:∀(k m acc q:Nat) (r:List UInt8),q<128->acc+q*m<=268435456->(1<m->1<=q)->a3D (k+1) m acc (UInt8.ofNat q::r)=some (acc+q*m,r):=fun k m acc q r h1 h2 h3=>by
  have e:(UInt8.ofNat q).toNat=q:=by simp;omega
  have e2:q%128=q:=Nat.mod_eq_of_lt h1
  rw [a3D,e,if_neg (by omega),e2,if_neg (by omega)]
 intro k
 induction k with
 |zero=>
  intro j m acc q r h1 _ h2 h3 h4
  have hq:q<128:=by simpa using h1
  have:a1d j q=[UInt8.ofNat q]:=by cases j<;>simp [a1d,hq]
  rw [this]
  exact one 0 m acc q r hq h2 h3
 |succ k ih=>
  intro j m acc q r h1 hj h2 h3 h4
  by_cases hq:q<128
  ·have:a1d j q=[UInt8.ofNat q]:=by cases j<;>simp [a1d,hq]
   rw [this]
   exact one _ m acc q r hq h2 h3
  ·obtain ⟨j,rfl⟩:∃i,j=i+1:=⟨j-1,by omega⟩
   have e:(UInt8.ofNat (q%128+128)).toNat=q%128+128:=by simp;omega
   have e2:(q%128+128)%128=q%128:=by omega
   have hd:q=128*(q/128)+q%128:=by omega
   have hm:q*m=(q/128)*(m*128)+(q%128)*m:=by
    conv=>lhs;rw [hd,Nat.add_mul]
    rw [Nat.mul_comm m 128,<-Nat.mul_assoc,Nat.mul_comm (q/128) 128]
   rw [a1d,if_neg hq,List.cons_append,a3D,e,if_pos (by omega),e2,ih j (m*128) (acc+q%128*m) (q/128) r (by rw [Nat.pow_succ] at h1;omega) (by omega) (by omega) (fun _=>by omega) (by omega)]
   congr 2
   omega
theorem a5z {n:Nat} (hn:n<=268435456) (r:List UInt8):takeN (a0h n++r)=some (n,r):=by
 have:=c79 4 9 1 0 n r (by simp;omega) (by omega) (by omega) (fun h=>by omega) (by omega)
 simpa [takeN,a0h] using this
theorem a2U {n:Int} (h0:0<=n) (hn:n<=268435456) (r:List UInt8) (b:Bool):rdNum ⟨a0h n.toNat++r,b⟩=(n,⟨r,b⟩):=by
 simp [rdNum,a1i,a5z (show n.toNat<=268435456 by omega)]
 omega
theorem c5q {t:List UInt8} (hn:t.length<=268435456) (r:List UInt8) (b:Bool):a1h ⟨a0h t.length++(t++r),b⟩=(t,⟨r,b⟩):=by
 simp [a1h,a0Q,a5z hn]
structure okB (e:a0F):Prop where
 a:0<=e.site/\e.site<=268435456
 b:0<=e.seq/\e.seq<=268435456
 c:0<=e.i/\e.i<=268435456
theorem b6A {e:a0F} (h:a2o e=true):okB e:=by
 simp only [a2o,Bool.or_eq_true,Bool.and_eq_true,decide_eq_true_eq] at h
 rcases h with rfl|⟨⟨h1,h2⟩,h3⟩
 ·exact ⟨by simp,by simp,by simp⟩
 ·have:=a8h h1
  exact ⟨by omega,by omega,by omega⟩
theorem b6B {e:a0F} (h:okB e) (r:List UInt8) (b:Bool):a1a ⟨a1V e++r,b⟩=(e,⟨r,b⟩):=by
 have:a1V e++r=a0h e.site.toNat++(a0h e.seq.toNat++(a0h e.i.toNat++r)):=by simp [a1V,a2d]
 rw [this]
 simp only [a1a,a2U h.a.1 h.a.2,a2U h.b.1 h.b.2,a2U h.c.1 h.c.2]
theorem c1Y (l:List a0F):(∀e∈l,okB e)->∀(r:List UInt8) (b:Bool),a0T l.length ⟨l.flatMap a1V++r,b⟩=(l,⟨r,b⟩):=by
 refine b4v (p:=fun l=>(∀e∈l,okB e)->∀(r:List UInt8) (b:Bool),a0T l.length ⟨l.flatMap a1V++r,b⟩=(l,⟨r,b⟩)) ?_ ?_ l
 ·intro _ r b;rfl
 ·intro l e ih h r b
  have h1:=ih (fun x hx=>h x (List.mem_append_left _ hx)) (a1V e++r) b
  rw [List.length_append,List.length_singleton,a0T,List.flatMap_append,List.append_assoc]
  simp only [List.flatMap_cons,List.flatMap_nil,List.append_nil]
  rw [h1]
  simp only [b6B (h e (by simp))]
theorem d1C {o:OpV} (h:a4r o=true):(∀e∈o.gone,a2o e=true)/\o.gone.length<=200:=by
 simp only [a4r,Bool.and_eq_true,decide_eq_true_eq] at h
 exact ⟨a8u h.1,h.2⟩
theorem c8a {o:OpV} (h:a0v o=true) (hk:o.kind=2):1<=o.of_/\o.of_<=8/\1<=o.num/\o.num<=268435456/\0<=o.gen/\o.gen<=268435456:=by
 simp only [a0v,Bool.and_eq_true,if_neg (show ¬o.kind=1 by omega),a1M,decide_eq_true_eq,Bool.not_eq_true',decide_eq_false_iff_not] at h
 obtain ⟨_,_,⟨⟨⟨⟨⟨e1,_⟩,e2⟩,e3⟩,_⟩,_⟩,_⟩:=h
 have:=a8h e1
 omega
theorem d1D {o:OpV} (h:a0v o=true) (ht:o.text.length<=268435456) (r:List UInt8):a7V ⟨a05 o++r,false⟩=(o,⟨r,false⟩):=by
 obtain ⟨n1,n2,n3,n4⟩:=a8t h
 by_cases hk:o.kind=2
 ·obtain ⟨_,t1,t2,t3⟩:=a1m h (by omega)
  obtain ⟨b1,b2,b3,b4,b5,b6⟩:=c8a h hk
  have:a05 o++r=a0h o.site.toNat++(a0h o.seq.toNat++(a0h o.kind.toNat++(a0h o.of_.toNat++(a0h o.num.toNat++(a0h o.gen.toNat++r))))):=by simp [a05,hk,a4c,a2d]
  obtain ⟨a1,a2,a3,a4,a5,a6,a7,a8,a9⟩:=o
  simp only at *
  subst hk t1 t2 t3
  rw [this]
  simp only [a7V,a2U (show 0<=a1 by omega) (by omega),a2U (show 0<=a2 by omega) (by omega),a2U (show (0:Int)<=2 by omega) (by omega),a2U (show 0<=a7 by omega) (by omega),a2U (show 0<=a8 by omega) (by omega),a2U (show 0<=a9 by omega) (by omega),if_true,h]
  rfl
 ·have hk1:o.kind=1:=Classical.byContradiction fun hk1=>hk (a1m h hk1).1
  obtain ⟨e1,e2,e3,e4,e5,e6⟩:=a6v h hk1
  obtain ⟨g1,g2⟩:=d1C e3
  have:a05 o++r=a0h o.site.toNat++(a0h o.seq.toNat++(a0h o.kind.toNat++(a1V o.after++(a0h o.text.length++(o.text++(a0h (o.gone.length:Int).toNat++(o.gone.flatMap a1V++r))))))):=by simp [a05,hk,a4c,b6a,a2d]
  obtain ⟨a1,a2,a3,a4,a5,a6,a7,a8,a9⟩:=o
  simp only at *
  subst hk1 e4 e5 e6
  rw [this]
  have hg:min (a6.length:Int).toNat 200=a6.length:=by omega
  simp only [a7V,a2U (show 0<=a1 by omega) (by omega),a2U (show 0<=a2 by omega) (by omega),a2U (show (0:Int)<=1 by omega) (by omega),b6B (b6A e2),c5q ht,a2U (show 0<=(a6.length:Int) by omega) (show (a6.length:Int)<=268435456 by omega),hg,c1Y a6 fun e he=>b6A (g1 e he),h]
  rw [if_neg (by decide)]
  simp
  omega
theorem a8y {e:a0i} (hj:e.join=false):e.op.kind=1->e.op.text.length<=(a0V e).length:=fun hk=>by
 rw [a0V,if_neg (by simp [hj]),a05,if_neg (by omega)]
 simp [b6a]
 omega
theorem c8b {e:a0i} (h:a0J e=true) (hl:(a0V e).length<=700):a2i (a0V e)=(e,true):=by
 cases hj:e.join
 ·have h':=h
  rw [a0J,if_neg (by simp [hj])] at h'
  simp only [Bool.and_eq_true,decide_eq_true_eq] at h'
  obtain ⟨hn,hm⟩:=h'
  have ht:e.op.text.length<=268435456:=by
   by_cases hk:e.op.kind=1
   ·have:=a8y hj hk;omega
   ·rw [(a1m hm hk).2.2.1];simp
  have hr:=d1D hm ht []
  rw [List.append_nil] at hr
  have ht1:a1i (a0V e)=(0,a05 e.op,0):=by
   rw [a0V,if_neg (by simp [hj]),a1i,a5z (by omega)]
  have he:(⟨false,0,e.op⟩:a0i)=e:=by obtain ⟨x,y,z⟩:=e;simp only at hj hn;subst hj hn;rfl
  have ho:a06 (a05 e.op)=(e.op,[],0):=by
   rw [a06,hr];rfl
  rw [a2i,ht1]
  simp only
  rw [if_neg (by omega),if_neg (by omega),ho]
  simp only [he,h]
  rfl
 ·have h':=h
  rw [a0J,if_pos hj,a5u] at h'
  simp only [Bool.and_eq_true,decide_eq_true_eq] at h'
  obtain ⟨⟨h1,h2⟩,h3⟩:=h'
  have ht1:a1i (a0V e)=(1,a0h e.a0H.toNat,0):=by
   rw [a0V,if_pos hj,a1i,a5z (by omega)]
  have ht2:a1i (a0h e.a0H.toNat)=(e.a0H.toNat,[],0):=by
   have:=a5z (show e.a0H.toNat<=268435456 by omega) []
   rw [List.append_nil] at this
   rw [a1i,this]
  have he:(⟨true,(e.a0H.toNat:Int),a0C⟩:a0i)=e:=by
   obtain ⟨x,y,z⟩:=e;simp only at hj h1 h3;subst hj h3
   rw [Int.toNat_of_nonneg (by simp only;omega)]
  rw [a2i,ht1]
  simp only
  rw [if_neg (by omega),if_pos trivial,ht2]
  simp only [he,h]
  rfl
theorem c8c {t:List UInt8} (hl:t.length<=700) (r:List UInt8):a2Y (a1e t++r)=some (t,r):=by
 have e:a1e t++r=a0h t.length++(a2H (ofN (a0h t.length++t))++(t++r)):=by rw [a1e,if_neg (by omega)];simp
 generalize hc:a2H (ofN (a0h t.length++t))=c at e
 have hc4:c.length=4:=by rw [<-hc];rfl
 rw [e,a2Y,a5z (by omega)]
 simp only
 have e1:(c++(t++r)).take 4=c:=by rw [List.take_left' hc4]
 have e2:(c++(t++r)).take (4+t.length)=c++t:=by rw [<-List.append_assoc];exact List.take_left' (by simp [hc4])
 have e3:(c++(t++r)).drop (4+t.length)=r:=by rw [<-List.append_assoc];exact List.drop_left' (by simp [hc4])
 have e4:(c++t).drop 4=t:=List.drop_left' hc4
 have e5:(a0h t.length++(c++(t++r))).take ((a0h t.length++(c++(t++r))).length-(c++(t++r)).length)=a0h t.length:=by
  apply List.take_left'
  simp
 rw [if_neg (by simp [hc4];omega),e1,e2,e3,e4,e5,hc,if_pos rfl]
theorem c5r {e:a0i} (h:a0J e=true) (hf:(a0j e).2=0) (z:List UInt8):a0U ((a0j e).1++z)=(e,(a0j e).1.length/32,true):=by
 have hl:(a0V e).length<=700:=by
  unfold a0j at hf
  split at hf
  ·cases hf
  ·omega
 have hfr:(a0j e).1=a1e (a0V e)++List.replicate (b1I (a1e (a0V e)).length) 0:=by
  rw [a0j,if_neg (by omega)];rfl
 have hs:a2Y ((a0j e).1++z)=some (a0V e,List.replicate (b1I (a1e (a0V e)).length) 0++z):=by
  rw [hfr,List.append_assoc,c8c hl]
 unfold a0U
 rw [hs]
 simp only [c8b h hl,if_true]
 have:a8m ((a0j e).1++z) (a0j e).1=true:=by
  show List.isPrefixOf _ _=true
  rw [List.isPrefixOf_iff_prefix]
  exact List.prefix_append _ _
 rw [this]
def zr:Nat->List UInt8->Option Nat
 |c,[]=>some c
 |c,b::s=>if b=0 then (if 4<=c then none else zr (c+1) s) else zr 0 s
theorem c8d:a0h 0=[0]:=by decide +kernel
end Go.AE
