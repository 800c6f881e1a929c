/- A frame that was torn is none. No program in sight. -/
import Derived.Test.YtfmcfhlfjepbkaaGreatDoorOn6
set_option linter.unusedVariables false
set_option linter.unusedSimpArgs false
set_option maxHeartbeats 4000000
set_option maxRecDepth 100000
namespace Go.AE
open Go Go.Proofs
def b3J:MH:=mh1 220 2 (rdG okT b7B b4H)
@[simp] theorem d7v {H:Heap} {l:List AV}:b3J H l=(mh1 220 2 (rdG okT b7B b4H)) H l:=(rfl)
def FJ2:CT:=(185,.mu b3J)::FJ1
theorem c8j:a1k Tryz.prog FJ2:=⟨d0h,c8i⟩
@[simp] theorem d2J:a0b FJ2 185=some (.mu b3J):=(rfl)
@[simp] theorem e2E {n:Nat} (h:(n==185)=false):a0b FJ2 n=a0b FJ1 n:=by
 simp only [Bool.or_eq_false_iff,beq_eq_false_iff_ne,ne_eq] at h
 simp [FJ2,a0b,h]
def a2F (s:List UInt8):AV:=.t [(true,a0f .old (a01 s).1),(false,[.str (a01 s).2.1]),(false,[.raw (.bool (decide ((a01 s).2.2=0)))])]
theorem b5Y (s:List UInt8) (hs:s.length<1000000):PEv Tryz.prog 144 [.c (.str s)] (a2F s):=by
 refine a0e mixed c8j Tryz.func144 e7S e7T (by kernel_rfl) (by simp [a2F,a0f]) (by simp) ?_
 have hr:okT ⟨s,false⟩:=hs
 have ht:=c4e s
 rcases e:b7B ⟨s,false⟩ with ⟨o,s1,b1⟩
 rw [e] at ht
 cases b1
 ·have e2:a01 s=(o,s1,0):=by rw [<-ht];rfl
  simp [e1k,e,hr,a0W,b4H,a0F,a2F,e2,a0f]
 ·have e2:a01 s=(a0V,[],7):=by rw [<-ht];rfl
  simp [e1k,e,hr,a0W,b4H,a0F,a2F,e2,a0f,a0V]
def b3K:List AV->Option (Prop×AV):=t1 (fun s=>s.length<1000000) fun s:List UInt8=>a2F s
@[simp] theorem d7w {l:List AV}:b3K l=(t1 (fun s=>s.length<1000000) fun s:List UInt8=>a2F s) l:=(rfl)
def b3L:List AV->Option (Prop×AV):=t1 (fun e=>e.op.text.length<1000000/\e.op.gone.length<4611686018427387904) fun e:a0k=>.c (.raw (.bool (a0H e)))
@[simp] theorem d7x {l:List AV}:b3L l=(t1 (fun e=>e.op.text.length<1000000/\e.op.gone.length<4611686018427387904) fun e:a0k=>.c (.raw (.bool (a0H e)))) l:=(rfl)
def FJ3:CT:=(144,.pu b3K)::(145,.pu b3L)::FJ2
theorem c8k:a1k Tryz.prog FJ3:=⟨a0n fun s h=>b5Y s h,
 a0n fun e h=>b7A e h.1 h.2,c8j⟩
@[simp] theorem d2K:a0b FJ3 144=some (.pu b3K):=(rfl)
@[simp] theorem d2L:a0b FJ3 145=some (.pu b3L):=(rfl)
@[simp] theorem e2F {n:Nat} (h:(n==144||n==145)=false):a0b FJ3 n=a0b FJ2 n:=by
 simp only [Bool.or_eq_false_iff,beq_eq_false_iff_ne,ne_eq] at h
 simp [FJ3,a0b,h]
def a0Y (s:List UInt8):a0k×Nat×Bool:=if (a0P s).2.2=true then a0P s else (zeroE,0,false)
def a0U (c:AC) (e:a0k):List AC:=.raw (.bool e.join)::.raw (.int .i64 e.a0N)::a0F c e.op
def b0F (H:Heap) (v:Id) (e:a0k):Prop:=∃c,H v=.arr 97 13 false [a0U c e]/\((c=.raw (.slice none 0 0)/\e.op.gone=[])\/c=.sl .old false (a0a e.op.gone))
theorem b1w {t:List UInt8} (h:takeN t=none):a1e t=(0,[],7):=by simp [a1e,h]
theorem b1x {t r:List UInt8} {n:Nat} (h:takeN t=some (n,r)):a1e t=(n,r,0):=by simp [a1e,h]
theorem a43 {s b:List UInt8}:a8a s b=true↔s.take b.length=b:=by
 show List.isPrefixOf b s=true↔_
 rw [List.isPrefixOf_iff_prefix,List.prefix_iff_eq_take]
 exact eq_comm
def b3M (t:List UInt8) (e:a0k) (ok:Bool):Prop:=(a2b t).2=(ok&&a0H e)/\(ok=true->(a2b t).1=e)/\e.op.text.length<1000000/\e.op.gone.length<1000000
def TkB (s:List UInt8) (st:St):Prop:=st.s 0=.c (.str s)/\st.s 2=.c (.pt (0,2) 0 0)/\st.H (0,2)=.arr 97 13 false [a0U (.raw (.slice none 0 0)) zeroE]/\a0D st.H st.T
theorem b5Z (s:List UInt8) (hs:s.length<100000):PEv Tryz.prog 98 [.c (.str s)] (a18 (a0Y s)):=by
 refine a0e mixed c8k Tryz.func98 f7e f7f (by kernel_rfl) (by simp [a18,a0q,a0f]) (by simp) ?_
 have hfin:∀st' (e:a0k) (n:Nat) (ok:Bool),a0Y s=(e,n,ok)->st'.s 2=.c (.pt (0,2) 0 0)->b0F st'.H (0,2) e->st'.s 3=.c (.raw (.int .i64 n))->st'.s 4=.c (.raw (.bool ok))->c1N Tryz.prog Tryz.f98 (a18 (a0Y s)) .ret st':=by
  rintro st' e n ok hR h2 ⟨c,hc,hcc⟩ h3 h4
  rw [hR]
  rcases hcc with ⟨rfl,hg⟩|rfl
  ·simp [h2,hc,h3,h4,a18,a0U,a0F,a0q,a0f,hg]
  ·simp [h2,hc,h3,h4,a18,a0U,a0F,a0q,a0f]
 have hno:a0Y s=(zeroE,0,false)->∀st',(st'.s 2=.c (.pt (0,2) 0 0)/\st'.H (0,2)=.arr 97 13 false [a0U (.raw (.slice none 0 0)) zeroE]/\st'.s 3=.c (.raw (.int .i64 0))/\st'.s 4=.c (.raw (.bool false)))->c1N Tryz.prog Tryz.f98 (a18 (a0Y s)) .ret st':=
  fun hR st' ⟨h2,hc,h3,h4⟩=>hfin st' zeroE 0 false hR h2 ⟨_,hc,.inl ⟨rfl,rfl⟩⟩ h3 h4
 refine a3t (TkB s) ?_ ?_
 ·intro R' hR
  simp
  exact hR _ ⟨by simp,by simp,by simp [a0U,a0F,zeroE,a0V],by simp;(repeat' (first|exact a1i.mono (Nat.zero_le _)|(refine a0D.set' ?_ (by simp))))⟩
 rintro st ⟨k0,k2,hH,hf⟩
 have hfu:∀k d,st.T<=k->st.H (k,d)=.a0h:=hf
 have hs1:s.length<4611686018427387904:=by omega
 cases hq:a2L s with
 |none=>
  have hav:a1v s=.t [(false,[.str []]),(false,[.str []]),(false,[.raw (.bool false)])]:=by simp [a1v,hq]
  have hR0:a0Y s=(zeroE,0,false):=by simp [a0Y,a0P,hq]
  refine a3t (fun st'=>TkB s st'/\st'.s 7=.c (.raw (.bool false))) ?_ ?_
  ·intro R' hR
   simp [k0,hs1,hav]
   exact hR _ ⟨⟨by simp [k0],by simp [k2],by simpa using hH,by simp;exact hf.mono (by omega)⟩,by simp⟩
  clear k0 k2 hH hf hfu
  rintro st ⟨⟨k0,k2,hH,hf⟩,k7⟩
  refine a4F _ ?_ (hno hR0)
  intro R' hR
  simp [k2,k7,hH,a0U,a0F]
  exact hR _ ⟨by simp [k2],by simp [a0U,a0F,zeroE,a0V],by simp,by simp⟩
 |some q=>
  obtain ⟨t,r⟩:=q
  obtain ⟨hsp,ht7⟩:=a5m hq
  have hav:a1v s=.t [(false,[.str t]),(false,[.str r]),(false,[.raw (.bool true)])]:=by simp [a1v,hq]
  refine a3t (fun st'=>TkB s st'/\st'.s 7=.c (.raw (.bool true))/\st'.s 5=.c (.str t)) ?_ ?_
  ·intro R' hR
   simp [k0,hs1,hav]
   exact hR _ ⟨⟨by simp [k0],by simp [k2],by simpa using hH,by simp;exact hf.mono (by omega)⟩,by simp,by simp⟩
  clear k0 k2 hH hf hfu
  rintro st ⟨⟨k0,k2,hH,hf⟩,k7,k5⟩
  refine a3t (fun st'=>TkB s st'/\st'.s 5=.c (.str t)) ?_ ?_
  ·intro R' hR
   simp [k7]
   exact hR _ ⟨⟨by simp [k0],by simp [k2],by simpa using hH,by simp;exact hf.mono (by omega)⟩,by simp [k5]⟩
  clear k0 k2 hH hf k7 k5
  rintro st ⟨⟨k0,k2,hH,hf⟩,k5⟩
  have ht1:t.length<4611686018427387904:=by omega
  obtain ⟨n,t1,b,hn⟩:∃(n:Nat) (t1:List UInt8) (b:Bool),a1L t=.t [(false,[.raw (.int .i64 n)]),(false,[.str t1]),(false,[.raw (.bool b)])]/\a1e t=(n,t1,if b=true then 0 else 7)/\t1.length<=t.length/\(b=false->n=0):=by
   cases h:takeN t with
   |none=>exact ⟨0,[],false,a2X h,b1w h,by simp,fun _=>rfl⟩
   |some q=>exact ⟨q.1,q.2,true,a1z h,b1x h,by have:=(a1W h).2;omega,by simp⟩
  obtain ⟨hn1,hn2,hn3,hn4⟩:=hn
  refine a3t (fun st'=>TkB s st'/\st'.s 7=.c (.raw (.bool b))/\st'.s 8=.c (.raw (.int .i64 n))/\st'.s 9=.c (.str t1)) ?_ ?_
  ·intro R' hR
   simp [k5,ht1,hn1]
   exact hR _ ⟨⟨by simp [k0],by simp [k2],by simpa using hH,by simp;exact hf.mono (by omega)⟩,by simp,by simp,by simp⟩
  clear k0 k2 hH hf k5
  rintro st ⟨⟨k0,k2,hH,hf⟩,k7,k8,k9⟩
  have hfu:∀k d,st.T<=k->st.H (k,d)=.a0h:=hf
  obtain ⟨p1,p2,p3⟩:=hf.arr hH
  refine a3t (fun st'=>TkB s st'/\st'.s 7=.c (.raw (.bool b))/\st'.s 8=.c (.raw (.int .i64 n))/\st'.s 9=.c (.str t1)/\∃v,v≠(0,2)/\st'.s 10=.c (.pt v 0 0)/\st'.H v=.arr 97 13 false [a0U (.raw (.slice none 0 0)) zeroE]) ?_ ?_
  ·intro R' hR
   simp [hfu]
   exact hR _ ⟨⟨by simp [k0],by simp [k2],by simpa [p2] using hH,by simp;repeat' (first|exact hf.mono (by first|omega|(simp<;>omega))|(refine a0D.set' ?_ (by first|omega|(simp<;>omega))))⟩,by simp [k7],by simp [k8],by simp [k9],(st.T,10),by simp [p1],by simp,by simp [a0U,a0F,zeroE,a0V]⟩
  clear k0 k2 hH hf k7 k8 k9 hfu p1 p2 p3
  rintro st ⟨⟨k0,k2,hH,hf⟩,k7,k8,k9,v,hv,k10,hV⟩
  have hfu:∀k d,st.T<=k->st.H (k,d)=.a0h:=hf
  obtain ⟨p1,p2,p3⟩:=hf.arr hH
  obtain ⟨p4,p5,p6⟩:=hf.arr hV
  have hv':((0,2)=v)=False:=by simpa using fun h=>hv h.symm
  have f8E:(v=(0,2))=False:=by simpa using hv
  have ht4:t1.length<1000000:=by omega
  have ht5:t1.length<4611686018427387904:=by omega
  refine a3t (fun st'=>TkB s st'/\∃e ok,b3M t e ok/\st'.s 7=.c (.raw (.bool ok))/\st'.s 10=.c (.pt v 0 0)/\b0F st'.H v e) ?_ ?_
  ·intro R' hR
   by_cases c1:b=true/\n=1
   ·obtain ⟨rfl,rfl⟩:=c1
    obtain ⟨m,t2,b2,hm⟩:∃(m:Nat) (t2:List UInt8) (b2:Bool),a1L t1=.t [(false,[.raw (.int .i64 m)]),(false,[.str t2]),(false,[.raw (.bool b2)])]/\a1e t1=(m,t2,if b2=true then 0 else 7)/\(b2=false->m=0):=by
     cases h:takeN t1 with
     |none=>exact ⟨0,[],false,a2X h,b1w h,fun _=>rfl⟩
     |some q=>exact ⟨q.1,q.2,true,a1z h,b1x h,by simp⟩
    obtain ⟨hm1,hm2,hm3⟩:=hm
    have key:b3M t ⟨true,m,a0V⟩ (b2&&decide (t2=[])):=by
     refine ⟨?_,?_,by simp [a0V],by simp [a0V]⟩
     ·unfold a2b
      simp [hn2,hm2]
     ·unfold a2b
      simp [hn2,hm2]
    cases b2
    ·simp [k7,k8,k9,k10,hV,ht5,hm1,a0U,a0F]
     refine hR _ ⟨⟨by simp [k0],by simp [k2],by simpa [hv'] using hH,by simp;repeat' (first|exact hf.mono (by first|omega|(simp<;>omega))|(refine a0D.set' ?_ (by first|omega|(simp<;>omega))))⟩,_,_,key,by simp,by simp [k10],_,by simp [a0U,a0F,a0V],.inl ⟨rfl,rfl⟩⟩
    ·cases c2:decide (t2=[])
     ·rw [c2] at key
      simp [k7,k8,k9,k10,hV,ht5,hm1,c2,a0U,a0F]
      refine hR _ ⟨⟨by simp [k0],by simp [k2],by simpa [hv'] using hH,by simp;repeat' (first|exact hf.mono (by first|omega|(simp<;>omega))|(refine a0D.set' ?_ (by first|omega|(simp<;>omega))))⟩,_,_,key,by simp,by simp [k10],_,by simp [a0U,a0F,a0V],.inl ⟨rfl,rfl⟩⟩
     ·rw [c2] at key
      simp [k7,k8,k9,k10,hV,ht5,hm1,c2,a0U,a0F]
      refine hR _ ⟨⟨by simp [k0],by simp [k2],by simpa [hv'] using hH,by simp;repeat' (first|exact hf.mono (by first|omega|(simp<;>omega))|(refine a0D.set' ?_ (by first|omega|(simp<;>omega))))⟩,_,_,key,by simp,by simp [k10],_,by simp [a0U,a0F,a0V],.inl ⟨rfl,rfl⟩⟩
   by_cases c2:b=true/\n=0
   ·obtain ⟨rfl,rfl⟩:=c2
    obtain ⟨g1,g2,g3⟩:=a5l t1
    rcases ho:a01 t1 with ⟨o,t2,x⟩
    rw [ho] at g1 g2 g3
    simp only at g1 g2 g3
    have hav:a2F t1=.t [(true,a0f .old o),(false,[.str t2]),(false,[.raw (.bool (decide (x=0)))])]:=by rw [a2F,ho]
    have key:b3M t ⟨false,0,o⟩ (decide (x=0)&&decide (t2=[])):=by
     refine ⟨?_,?_,by show o.text.length<_;omega,by show o.gone.length<_;omega⟩
     ·unfold a2b
      simp [hn2,ho]
     ·unfold a2b
      simp [hn2,ho]
    cases c4:decide (x=0)
    ·rw [c4] at key hav
     simp (maxDischargeDepth:=8) [k7,k8,k9,k10,hV,hfu,ht4,hav,a0U,a0F,a0f,p5,Nat.le_add_right_of_le]
     refine hR _ ⟨⟨by simp (maxDischargeDepth:=8) [k0],by simp [k2],by simpa [hv',p2,Nat.le_add_right_of_le] using hH,by simp;repeat' (first|exact hf.mono (by first|omega|(simp<;>omega))|(refine a0D.set' ?_ (by first|omega|(simp<;>omega))))⟩,_,_,key,by simp,by simp [k10],_,by simp [a0U,a0F,a0f],.inr rfl⟩
    ·cases c5:decide (t2=[])
     ·rw [c4,c5] at key
      rw [c4] at hav
      simp (maxDischargeDepth:=8) [k7,k8,k9,k10,hV,hfu,ht4,hav,c5,a0U,a0F,a0f,p5,Nat.le_add_right_of_le]
      refine hR _ ⟨⟨by simp (maxDischargeDepth:=8) [k0],by simp [k2],by simpa [hv',p2,Nat.le_add_right_of_le] using hH,by simp;repeat' (first|exact hf.mono (by first|omega|(simp<;>omega))|(refine a0D.set' ?_ (by first|omega|(simp<;>omega))))⟩,_,_,key,by simp,by simp [k10],_,by simp [a0U,a0F,a0f],.inr rfl⟩
     ·rw [c4,c5] at key
      rw [c4] at hav
      simp (maxDischargeDepth:=8) [k7,k8,k9,k10,hV,hfu,ht4,hav,c5,a0U,a0F,a0f,p5,Nat.le_add_right_of_le]
      refine hR _ ⟨⟨by simp (maxDischargeDepth:=8) [k0],by simp [k2],by simpa [hv',p2,Nat.le_add_right_of_le] using hH,by simp;repeat' (first|exact hf.mono (by first|omega|(simp<;>omega))|(refine a0D.set' ?_ (by first|omega|(simp<;>omega))))⟩,_,_,key,by simp,by simp [k10],_,by simp [a0U,a0F,a0f],.inr rfl⟩
   have key:b3M t zeroE false:=by
    refine ⟨?_,by simp,by simp [zeroE,a0V],by simp [zeroE,a0V]⟩
    unfold a2b
    cases b
    ·simp [hn2]
    ·have:1<n:=by
      rcases Nat.lt_or_ge 1 n with h|h
      ·exact h
      ·exfalso
       have:n=0\/n=1:=by omega
       rcases this with h|h
       ·exact c2 ⟨rfl,h⟩
       ·exact c1 ⟨rfl,h⟩
     simp [hn2,this]
   cases b
   ·simp [k7,k8]
    exact hR _ ⟨⟨by simp [k0],by simp [k2],by simpa using hH,by simp;exact hf.mono (by omega)⟩,_,_,key,by simp,by simp [k10],_,by simpa using hV,.inl ⟨rfl,rfl⟩⟩
   ·have d1:¬(n:Int)=1:=fun h=>c1 ⟨rfl,by omega⟩
    have d2:¬n=0:=fun h=>c2 ⟨rfl,h⟩
    have d3:¬n=1:=fun h=>c1 ⟨rfl,h⟩
    simp [k7,k8,d1,d2,d3]
    exact hR _ ⟨⟨by simp [k0],by simp [k2],by simpa using hH,by simp;exact hf.mono (by omega)⟩,_,_,key,by simp,by simp [k10],_,by simpa using hV,.inl ⟨rfl,rfl⟩⟩
  clear k0 k2 hH hf k7 k8 k9 hfu p1 p2 p3 p4 p5 p6 k10 hV
  rintro st ⟨⟨k0,k2,hH,hf⟩,e,ok,⟨hr1,hr2,hr3,hr4⟩,k7,k10,c,hV,hcc⟩
  have hr5:e.op.gone.length<4611686018427387904:=by omega
  have hR1:(a2b t).2=false->a0Y s=(zeroE,0,false):=fun h=>by simp [a0Y,a0P,hq,h]
  cases hok:ok
  ·have hR0:=hR1 (by rw [hr1,hok];rfl)
   refine a4F _ ?_ (hno hR0)
   intro R' hR
   rw [hok] at k7
   simp [k2,k7,hH,a0U,a0F]
   exact hR _ ⟨by simp [k2],by simp [a0U,a0F,zeroE,a0V],by simp,by simp⟩
  cases hm:a0H e
  ·have hR0:=hR1 (by rw [hr1,hm];simp)
   refine a4F _ ?_ (hno hR0)
   intro R' hR
   rw [hok] at k7
   rcases hcc with ⟨rfl,hg⟩|rfl
   ·have hm':a0H ⟨e.join,e.a0N,e.op.site,e.op.seq,e.op.kind,⟨e.op.after.site,e.op.after.seq,e.op.after.i⟩,e.op.text,[],e.op.of_,e.op.num,e.op.gen⟩=false:=by rw [<-hm,<-hg]
    simp [k2,k7,k10,hH,hV,a0U,a0F,hr3,hm']
    exact hR _ ⟨by simp [k2],by simp [a0U,a0F,zeroE,a0V],by simp,by simp⟩
   ·simp [k2,k7,k10,hH,hV,a0U,a0F,hr3,hr5,hm]
    exact hR _ ⟨by simp [k2],by simp [a0U,a0F,zeroE,a0V],by simp,by simp⟩
  have he:=hr2 hok
  have hrt:(a2b t).2=true:=by rw [hr1,hok,hm];rfl
  have hp:=a7z hrt
  rw [he] at hp
  have hF:=a4Y hm hr3 hr4
  have hb1:a0j e=(a8b (a03 t),0):=by rw [a0j,hp,if_neg (by omega)]
  have hb2:a2W e=(a8b (a03 t),true):=by rw [a2W,hp,if_neg (by omega)]
  have hbl:=a4i e
  rw [hb1] at hbl
  simp only at hbl
  have hfr:a0P s=(e,(a8b (a03 t)).length/32,a8a s (a8b (a03 t))):=by simp [a0P,hq,hrt,he,hb1]
  have hb3:a1S e=.t [(false,[.str (a8b (a03 t))]),(false,[.raw (.bool true)])]:=by rw [a1S,hb2]
  generalize a8b (a03 t)=B at hb1 hb2 hb3 hbl hfr
  have hmF:∀(x:Bool),e.op.gone=[]->a0H ⟨e.join,e.a0N,e.op.site,e.op.seq,e.op.kind,⟨e.op.after.site,e.op.after.seq,e.op.after.i⟩,e.op.text,[],e.op.of_,e.op.num,e.op.gen⟩=true/\okF ⟨e.join,e.a0N,e.op.site,e.op.seq,e.op.kind,⟨e.op.after.site,e.op.after.seq,e.op.after.i⟩,e.op.text,[],e.op.of_,e.op.num,e.op.gen⟩/\
    a1S ⟨e.join,e.a0N,e.op.site,e.op.seq,e.op.kind,⟨e.op.after.site,e.op.after.seq,e.op.after.i⟩,e.op.text,[],e.op.of_,e.op.num,e.op.gen⟩=.t [(false,[.str B]),(false,[.raw (.bool true)])]:=fun _ hg=>by
   rw [<-hg]
   exact ⟨hm,hF,hb3⟩
  rw [hok] at k7
  have eH:b0F st.H v e:=⟨c,hV,hcc⟩
  have ext:∀{H':Heap},H' v=st.H v->b0F H' v e:=fun h=>⟨c,by rw [h,hV],hcc⟩
  refine a3t (fun st'=>TkB s st'/\st'.s 10=.c (.pt v 0 0)/\b0F st'.H v e) ?_ ?_
  ·intro R' hR
   rcases hcc with ⟨rfl,hg⟩|rfl
   ·obtain ⟨m1,m2,m3⟩:=hmF true hg
    simp [k7,k10,hV,a0U,a0F,hr3,m1]
    exact hR _ ⟨⟨by simp [k0],by simp [k2],by simpa using hH,by simp;exact hf.mono (by omega)⟩,by simp [k10],ext (by simp)⟩
   ·simp [k7,k10,hV,a0U,a0F,hr3,hr5,hm]
    exact hR _ ⟨⟨by simp [k0],by simp [k2],by simpa using hH,by simp;exact hf.mono (by omega)⟩,by simp [k10],ext (by simp)⟩
  clear k0 k2 hH hf k7 k10 hV hcc eH ext c
  rintro st ⟨⟨k0,k2,hH,hf⟩,k10,c,hV,hcc⟩
  have ext:∀{H':Heap},H' v=st.H v->b0F H' v e:=fun h=>⟨c,by rw [h,hV],hcc⟩
  refine a3t (fun st'=>TkB s st'/\st'.s 10=.c (.pt v 0 0)/\b0F st'.H v e/\st'.s 17=.c (.str B)/\st'.s 18=.c (.raw (.bool true))) ?_ ?_
  ·intro R' hR
   rcases hcc with ⟨rfl,hg⟩|rfl
   ·obtain ⟨m1,m2,m3⟩:=hmF true hg
    simp [k10,hV,a0U,a0F,m2,m3]
    exact hR _ ⟨⟨by simp [k0],by simp [k2],by simpa using hH,by simp;exact hf.mono (by omega)⟩,by simp [k10],ext (by simp),by simp,by simp⟩
   ·simp [k10,hV,a0U,a0F,hF,hb3]
    exact hR _ ⟨⟨by simp [k0],by simp [k2],by simpa using hH,by simp;exact hf.mono (by omega)⟩,by simp [k10],ext (by simp),by simp,by simp⟩
  clear k0 k2 hH hf k10 hV hcc ext c
  rintro st ⟨⟨k0,k2,hH,hf⟩,k10,⟨c,hV,hcc⟩,k17,k18⟩
  have ext:∀{H':Heap},H' v=st.H v->b0F H' v e:=fun h=>⟨c,by rw [h,hV],hcc⟩
  cases hpre:a8a s B
  ·have hR0:a0Y s=(zeroE,0,false):=by simp [a0Y,hfr,hpre]
   refine a4F _ ?_ (hno hR0)
   intro R' hR
   by_cases hlen:s.length<B.length
   ·have hlen':(s.length:Int)<B.length:=by omega
    simp [k0,k2,k17,k18,hH,a0U,a0F,hlen']
    exact hR _ ⟨by simp [k2],by simp [a0U,a0F,zeroE,a0V],by simp,by simp⟩
   ·have hlen':¬(s.length:Int)<B.length:=by omega
    have hle:B.length<=s.length:=by omega
    have hd:decide (List.take B.length s=B)=false:=by
     apply decide_eq_false
     rw [<-a43,hpre]
     simp
    simp [k0,k2,k17,k18,hH,a0U,a0F,hlen',hle,hd]
    exact hR _ ⟨by simp [k2],by simp [a0U,a0F,zeroE,a0V],by simp,by simp⟩
  have hR1:a0Y s=(e,B.length/32,true):=by simp [a0Y,hfr,hpre]
  have htk:=a43.1 hpre
  have hle:B.length<=s.length:=by have:=congrArg List.length htk;rw [List.length_take] at this;omega
  have hlen':¬(s.length:Int)<B.length:=by omega
  have hd:decide (List.take B.length s=B)=true:=decide_eq_true htk
  refine a3t (fun st'=>TkB s st'/\st'.s 10=.c (.pt v 0 0)/\b0F st'.H v e/\st'.s 17=.c (.str B)) ?_ ?_
  ·intro R' hR
   simp [k0,k17,k18,hlen',hle,hd]
   exact hR _ ⟨⟨by simp [k0],by simp [k2],by simpa using hH,by simp;exact hf.mono (by omega)⟩,by simp [k10],ext (by simp),by simp [k17]⟩
  clear k0 k2 hH hf k10 hV hcc ext c k17 k18
  rintro st ⟨⟨k0,k2,hH,hf⟩,k10,⟨c,hV,hcc⟩,k17⟩
  obtain ⟨qn,hqn,hqb⟩:∃q,B.length/32=q/\q<=100:=⟨_,rfl,by omega⟩
  have w0:(B.length:Int).tdiv 32=(qn:Int):=by rw [Int.tdiv_eq_ediv_of_nonneg (by omega)];omega
  have w1:IntKind.wrap .i64 (qn:Int)=qn:=by rw [a0d]<;>omega
  rw [hqn] at hR1
  refine a3t (fun st'=>st'.s 2=.c (.pt (0,2) 0 0)/\b0F st'.H (0,2) e/\st'.s 3=.c (.raw (.int .i64 qn))/\st'.s 4=.c (.raw (.bool true))) ?_ fun st' ⟨a,b,c,d⟩=>hfin st' e _ true hR1 a b c d
  intro R' hR
  rcases hcc with ⟨rfl,hg⟩|rfl
  ·simp [k2,k10,k17,hH,hV,a0U,a0F,w0,w1]
   exact hR _ ⟨by simp [k2],⟨_,by simp [a0U,a0F],.inl ⟨rfl,hg⟩⟩,by simp,by simp⟩
  ·simp [k2,k10,k17,hH,hV,a0U,a0F,w0,w1]
   exact hR _ ⟨by simp [k2],⟨_,by simp [a0U,a0F],.inr rfl⟩,by simp,by simp⟩
open Go
theorem b1y:∀(k m acc:Nat) (s:List UInt8) (j:Nat),k<=j->a3y k m acc (s.take j)=(a3y k m acc s).map fun q=>(q.1,q.2.take (j-(s.length-q.2.length)))
 |0,m,acc,s,j,_=>rfl
 |k+1,m,acc,s,j,hj=>by
  cases s with
  |nil=>simp [a3y]
  |cons b s=>
   obtain ⟨j,rfl⟩:∃i,j=i+1:=⟨j-1,by omega⟩
   rw [List.take_succ_cons,a3y,a3y]
   split
   ·rw [b1y k _ _ s j (by omega)]
    cases h:a3y k (m*128) (acc+b.toNat%128*m) s with
    |none=>rfl
    |some q=>
     obtain ⟨n,r⟩:=q
     have hr:r.length<=s.length:=by
      have go:∀(k m acc:Nat) (s r:List UInt8) (n:Nat),a3y k m acc s=some (n,r)->r.length<=s.length:=by
       intro k
       induction k with
       |zero=>intro m acc s r n h;cases h
       |succ k ih=>
        intro m acc s r n h
        cases s with
        |nil=>cases h
        |cons b s=>
         rw [a3y] at h
         split at h
         ·have:=ih _ _ _ _ _ h
          simp;omega
         ·split at h
          ·cases h
          ·cases h
           simp
      exact go _ _ _ _ _ _ h
     simp
     congr 1
     omega
   ·split
    ·rfl
    ·simp
theorem b1z {n:Nat} (h:n<=700):(a0g n).length<=2:=a5U 9 2 n (by omega) (by omega)
theorem c02 {s:List UInt8} (h:736<=s.length):(a2L (s.take 736)).map (·.1)=(a2L s).map (·.1):=by
 have ht:takeN (s.take 736)=(takeN s).map fun q=>(q.1,q.2.take (736-(s.length-q.2.length))):=b1y 5 1 0 s 736 (by omega)
 unfold a2L
 rw [ht]
 cases hn:takeN s with
 |none=>rfl
 |some q=>
  obtain ⟨n,r⟩:=q
  have hsp:=a6g hn
  have hsl:s.length=(a0g n).length+r.length:=by rw [hsp,List.length_append]
  simp only [Option.map_some]
  by_cases h7:700<n
  ·rw [if_pos (.inl h7),if_pos (.inl h7)]
  ·have hb:=b1z (n:=n) (by omega)
   have e1:s.length-r.length=(a0g n).length:=by omega
   rw [e1]
   have l1:(r.take (736-(a0g n).length)).length=736-(a0g n).length:=by rw [List.length_take];omega
   rw [if_neg (show ¬(700<n\/(r.take (736-(a0g n).length)).length<n+4) by rw [l1];omega),if_neg (show ¬(700<n\/r.length<n+4) by omega)]
   have e2:(s.take 736).length-(r.take (736-(a0g n).length)).length=(a0g n).length:=by rw [l1,List.length_take];omega
   rw [e2]
   have e3:(s.take 736).take (a0g n).length=s.take (a0g n).length:=by rw [List.take_take,Nat.min_eq_left (by omega)]
   have e4:(r.take (736-(a0g n).length)).take 4=r.take 4:=by rw [List.take_take,Nat.min_eq_left (by omega)]
   have e5:(r.take (736-(a0g n).length)).take (4+n)=r.take (4+n):=by rw [List.take_take,Nat.min_eq_left (by omega)]
   rw [e3,e4,e5]
   split<;>rfl
theorem a6B {t:List UInt8} (h:t.length<=700):(a8b (a03 t)).length<=736:=by
 have h1:=b1z h
 have l1:(a1x (ofN (a0g t.length++t))).length=4:=rfl
 simp only [a8b,a03,if_neg (show ¬700<t.length by omega),List.length_append,List.length_replicate,l1,b0t]
 omega
theorem c03 {s b:List UInt8} {n:Nat} (h:b.length<=n):a8a (s.take n) b=a8a s b:=by
 cases hp:a8a s b
 ·cases hq:a8a (s.take n) b
  ·rfl
  ·exfalso
   have:=a43.1 hq
   rw [List.take_take,Nat.min_eq_left h] at this
   rw [a43.2 this] at hp
   cases hp
 ·have:=a43.1 hp
  apply a43.2
  rw [List.take_take,Nat.min_eq_left h]
  exact this
theorem b3N (s:List UInt8):a0Y (s.take 736)=a0Y s:=by
 by_cases h:s.length<=736
 ·rw [List.take_of_length_le h]
 have ht:=c02 (s:=s) (by omega)
 have hf:a0P (s.take 736)=a0P s:=by
  unfold a0P
  cases h1:a2L (s.take 736) with
  |none=>
   rw [h1] at ht
   cases h2:a2L s with
   |none=>rfl
   |some q=>rw [h2] at ht;simp at ht
  |some q=>
   rw [h1] at ht
   cases h2:a2L s with
   |none=>rw [h2] at ht;simp at ht
   |some q2=>
    rw [h2] at ht
    obtain ⟨t,r⟩:=q
    obtain ⟨t2,r2⟩:=q2
    simp at ht
    subst ht
    simp only
    obtain ⟨_,ht7⟩:=a5m h2
    cases hr:(a2b t).2
    ·rfl
    ·simp only [if_true]
     have hp:=a7z hr
     have hb1:(a0j (a2b t).1).1=a8b (a03 t):=by rw [a0j,hp,if_neg (by omega)]
     rw [hb1,c03 (a6B ht7)]
 unfold a0Y
 rw [hf]
def a2N:Nat->List (List UInt8)->Nat->List a0k×List Int×Nat
 |0,_,a=>([],[],a)
 |k+1,l,a=>if (a0Y l.flatten).2.2=true then
   ((a0Y l.flatten).1::(a2N k (l.drop (a0Y l.flatten).2.1) (a+(a0Y l.flatten).2.1)).1,(a:Int)::(a2N k (l.drop (a0Y l.flatten).2.1) (a+(a0Y l.flatten).2.1)).2.1,(a2N k (l.drop (a0Y l.flatten).2.1) (a+(a0Y l.flatten).2.1)).2.2)
  else ([],[],a)
theorem a8J {l:List (List UInt8)} (h:∀x∈l,x.length=32) (n:Nat):(l.take n).flatten=l.flatten.take (32*n):=by
 induction n generalizing l with
 |zero=>simp
 |succ n ih=>
  cases l with
  |nil=>simp
  |cons x l=>
   have hx:=h x List.mem_cons_self
   rw [List.take_succ_cons,List.flatten_cons,List.flatten_cons,ih fun y hy=>h y (List.mem_cons_of_mem _ hy),List.take_append,List.take_of_length_le (show x.length<=32*(n+1) by omega),hx,show 32*(n+1)-32=32*n by omega]
theorem b50 {l:List (List UInt8)} (h:∀x∈l,x.length=32) (n:Nat):(l.drop n).flatten=l.flatten.drop (32*n):=by
 induction n generalizing l with
 |zero=>simp
 |succ n ih=>
  cases l with
  |nil=>simp
  |cons x l=>
   have hx:=h x List.mem_cons_self
   rw [List.drop_succ_cons,List.flatten_cons,ih fun y hy=>h y (List.mem_cons_of_mem _ hy),List.drop_append,List.drop_of_length_le (show x.length<=32*(n+1) by omega),hx,List.nil_append,show 32*(n+1)-32=32*n by omega]
theorem b51:a0Y []=(zeroE,0,false):=by simp [a0Y,a0P,a2L,takeN,a3y]
theorem a6C {l:List (List UInt8)} (h:secs l):a0Y l.flatten=if (a0P (l.take 23).flatten).2.2=true then a0P (l.take 23).flatten else (zeroE,0,false):=by
 rw [<-b3N,a8J h 23]
 rfl
theorem a8K:∀(k:Nat) (l:List (List UInt8)) (a:Nat),secs l->(a2N k l a).1=(a1J k l a).1/\(a2N k l a).2.2=(a1J k l a).2
 |0,l,a,_=>⟨rfl,rfl⟩
 |k+1,l,a,h=>by
  unfold a2N a1J
  by_cases hl:l=[]
  ·subst hl
   simp [b51]
  ·rw [if_neg hl,a6C h]
   cases hf:(a0P (l.take 23).flatten).2.2
   ·simp
   ·have ih:=a8K k (l.drop (a0P (l.take 23).flatten).2.1) (a+(a0P (l.take 23).flatten).2.1) fun x hx=>h x (List.mem_of_mem_drop hx)
    simp [hf,ih.1,ih.2]
open Go Go.Proofs
def b7E:List AV->Option (Prop×AV):=t1 (fun s=>s.length<100000) fun s:List UInt8=>a18 (a0Y s)
@[simp] theorem e2G {l:List AV}:b7E l=(t1 (fun s=>s.length<100000) fun s:List UInt8=>a18 (a0Y s)) l:=(rfl)
def FJ4:CT:=(98,.pu b7E)::FJ3
theorem c8l:a1k Tryz.prog FJ4:=⟨a0n fun s h=>b5Z s h,c8k⟩
@[simp] theorem d7y:a0b FJ4 98=some (.pu b7E):=(rfl)
@[simp] theorem e2H {n:Nat} (h:(n==98)=false):a0b FJ4 n=a0b FJ3 n:=by
 simp only [Bool.or_eq_false_iff,beq_eq_false_iff_ne,ne_eq] at h
 simp [FJ4,a0b,h]
def a09 (d:a0l):List a0k×List Int×Nat:=a2N d.safe.length d.safe 0
def a2G (r:List a0k×List Int×Nat):AV:=.t [(false,[.nw 97 13 (a0a r.1)]),(false,[.nw 3 1 (a0a r.2.1)]),(false,[.raw (.int .i64 r.2.2)])]
def c6V (d:a0l) (q:Nat) (st:St):Prop:=∃i:Nat,i<=d.safe.length/\q=d.safe.length-i/\st.s 1=.c (.pt (0,1) 0 0)/\st.s 5=.c (.str (d.safe.take i).flatten)/\st.s 6=.c (.raw (.int .i64 i))/\
 st.H (0,1)=.arr 25 2 false [[.sl .brw false (a0a d.safe),.sl .brw false (a0a d.wait)]]/\a0D st.H st.T
def c6W (d:a0l) (q:Nat) (st:St):Prop:=∃(a k:Nat) (b8W:List a0k) (b97:List Int),a<=d.safe.length/\q=d.safe.length-a/\d.safe.length-a<=k/\b8W.length<=a/\b97.length<=a/\
 b8W++(a2N k (d.safe.drop a) a).1=(a09 d).1/\b97++(a2N k (d.safe.drop a) a).2.1=(a09 d).2.1/\(a2N k (d.safe.drop a) a).2.2=(a09 d).2.2/\
 st.s 5=.c (.str d.safe.flatten)/\st.s 9=.c (.raw (.int .i64 a))/\a0D st.H st.T/\
 ((st.s 7=.c (.raw (.slice none 0 0))/\st.s 8=.c (.raw (.slice none 0 0))/\b8W=[]/\b97=[])\/
  ∃g h,st.s 7=.c (.so g 0 b8W.length)/\st.s 8=.c (.so h 0 b97.length)/\st.H g=.arr 97 13 false (a0a b8W)/\st.H h=.arr 3 1 false (a0a b97))
theorem c04 {Q:AEx->St->Prop} {st:St} (d:a0l) (hs:secs d.safe) (hl:d.safe.length<1000) (k1:st.s 1=.c (.pt (0,1) 0 0)) (k5:st.s 5=.c (.str [])) (k6:st.s 6=.c (.raw (.int .i64 0)))
  (hH:st.H (0,1)=.arr 25 2 false [[.sl .brw false (a0a d.safe),.sl .brw false (a0a d.wait)]]) (hf:a0D st.H st.T)
  (hn:∀st',st'.s 5=.c (.str d.safe.flatten)->a0D st'.H st'.T->Q (.exit 0) st') :
  a2K Tryz.prog FJ4 (.loop c2X) Q st:=by
 refine a6y (c6V d) d.safe.length ⟨0,by omega,rfl,k1,by simpa using k5,k6,hH,hf⟩ ?_
 rintro q st ⟨i,hi,rfl,k1,k5,k6,hH,hf⟩ J hJ
 have hfu:∀k d,st.T<=k->st.H (k,d)=.a0h:=hf
 by_cases hlt:i<d.safe.length
 ·have hlt':(i:Int)<d.safe.length:=by omega
  have hw:IntKind.wrap .i64 ((i:Int)+1)=((i+1:Nat):Int):=by rw [a0d]<;>omega
  have hfl:(d.safe.take i).flatten.length=32*i:=by
   rw [a4Z fun x hx=>hs x (List.mem_of_mem_take hx),List.length_take,Nat.min_eq_left hi]
  have h32:d.safe[i].length=32:=hs _ (List.getElem_mem hlt)
  generalize hX:(d.safe.take i).flatten=X at k5 hfl
  have hle:X.length+d.safe[i].length<=9223372036854775807:=by omega
  simp [c2X,k1,k5,k6,hH,hlt,hlt',hw,hle]
  refine ⟨d.safe.length-(i+1),by omega,hJ _ _ ⟨i+1,by omega,rfl,by simp [k1],?_,by simp,by simpa using hH,by simp;exact hf.mono (by omega)⟩⟩
  rw [<-List.take_append_getElem hlt,List.flatten_append,hX]
  simp
 ·have hlt':¬(i:Int)<d.safe.length:=by omega
  have hi2:i=d.safe.length:=by omega
  simp [c2X,k1,k5,k6,hH,hlt,hlt']
  refine hn _ ?_ (by simp;exact hf.mono (by omega))
  simp [k5]
  rw [hi2,List.take_length]
theorem b1A (d:a0l) (hs:secs d.safe) (hl:d.safe.length<1000) (hw:d.wait.length<1000000):PEv Tryz.prog 48 [Arg.enc d] (a2G (a09 d)):=by
 refine a0e mixed c8l Tryz.func48 f6H f6I (by kernel_rfl) (by simp [a2G]) (by simp) ?_
 simp [s48]
 refine c04 d hs hl (by simp) (by simp) (by simp) (by simp) (by simp;(repeat' (first|exact a1i.mono (Nat.zero_le _)|(refine a0D.set' ?_ (by simp))))) ?_
 intro st k5 hf
 simp
 refine a6y (c6W d) d.safe.length ⟨0,d.safe.length,[],[],by omega,rfl,by omega,by simp,by simp,by simp [a09],by simp [a09],by simp [a09],by simp [k5],by simp,by simp;exact hf.mono (by omega),.inl ⟨by simp,by simp,rfl,rfl⟩⟩ ?_
 rintro q st ⟨a,k,b8W,b97,ha,rfl,hk,hlE,hlI,hr1,hr2,hr3,k5,k9,hf,hown⟩ J hJ
 have hfu:∀k d,st.T<=k->st.H (k,d)=.a0h:=hf
 have hs2:secs (d.safe.drop a):=fun x hx=>hs x (List.mem_of_mem_drop hx)
 have hfl:d.safe.flatten.length=32*d.safe.length:=a4Z hs
 have hdr:d.safe.flatten.drop (32*a)=(d.safe.drop a).flatten:=(b50 hs a).symm
 have f8F:(d.safe.drop a).flatten.length=32*(d.safe.length-a):=by rw [a4Z hs2,List.length_drop]
 have w1:IntKind.wrap .i64 ((a:Int)*32)=((32*a:Nat):Int):=by rw [a0d]<;>omega
 have hle:((32*a:Nat):Int)<=d.safe.flatten.length:=by omega
 have f1t:32*a<=d.safe.flatten.length:=by omega
 have hl5:(d.safe.drop a).flatten.length<100000:=by omega
 obtain ⟨b,hb⟩:∃b,32*a=b:=⟨_,rfl⟩
 obtain ⟨S,hS⟩:∃S,S=d.safe.flatten:=⟨_,rfl⟩
 rw [<-hS] at hle f1t hdr hfl k5
 rw [hb] at w1 hle f1t hdr
 rcases hx:a0Y (d.safe.drop a).flatten with ⟨e,n,ok⟩
 rw [<-hdr] at hl5
 have hx':=hx
 rw [<-hdr] at hx'
 have gt:∀t:Nat,t<10->∀d,10<=d->(t=d)=False:=fun t ht d hd=>by simp;omega
 have hn:ok=true->1<=n/\a+n<=d.safe.length:=fun hok=>by
  rw [a6C hs2] at hx
  split at hx
  ·rename_i hf1
   have:=a7A hf1
   rw [hx] at this
   simp only at this
   have h3:(((d.safe.drop a).take 23).flatten).length<=32*(d.safe.length-a):=by
    rw [a4Z fun x hx=>hs2 x (List.mem_of_mem_take hx),List.length_take,List.length_drop]
    omega
   omega
  ·cases hx;cases hok
 have hacc:b8W.length<1000000:=by omega
 refine a3t (fun st'=>st'.s 12=.c (.raw (.bool ok))/\st'.s 11=.c (.raw (.int .i64 n))/\(∃v,st'.s 10=.c (.pt v 0 0)/\st'.H v=.arr 97 13 false [a0q .old e])/\(∀t,t<10->st'.s t=st.s t)/\a3b [] st.H st.T st'.H st'.T) ?_ ?_
 ·intro R' hR
  have f7E:S.length-b<100000:=by simpa using hl5
  simp [k5,k9,w1,hle,f1t,f7E,hx',a18,a0q,a0f,hfu]
  refine hR _ ⟨by simp,by simp,⟨(st.T,10),by simp,by simp [a0q,a0f]⟩,fun t ht=>by simp [gt t ht],?_⟩
  have he:=a3b.refl (S:=[]) hf
  repeat' (first|exact he.tick (by first|omega|(simp<;>omega))|(refine a3b.new ?_ (by first|omega|(simp<;>omega)) (by first|omega|(simp<;>omega)))|(refine a3b.set ?_ (by simp) (by first|omega|(simp<;>omega))))
 rintro st2 ⟨k12,k11,⟨v,k10,hv⟩,hs3,he⟩
 have q7:=hs3 7 (by omega)
 have q8:=hs3 8 (by omega)
 have q9:=(hs3 9 (by omega)).trans k9
 have q5:=(hs3 5 (by omega)).trans k5
 have hf2:=he.fresh
 have hfu2:∀k d,st2.T<=k->st2.H (k,d)=.a0h:=hf2
 have hown2:(st2.s 7=.c (.raw (.slice none 0 0))/\st2.s 8=.c (.raw (.slice none 0 0))/\b8W=[]/\b97=[])\/
  ∃g h,st2.s 7=.c (.so g 0 b8W.length)/\st2.s 8=.c (.so h 0 b97.length)/\st2.H g=.arr 97 13 false (a0a b8W)/\st2.H h=.arr 3 1 false (a0a b97):=by
  rcases hown with ⟨a,b,c,d⟩|⟨g,h,a,b,c,d⟩
  ·exact .inl ⟨q7.trans a,q8.trans b,c,d⟩
  ·exact .inr ⟨g,h,q7.trans a,q8.trans b,he.arr c (by simp),he.arr d (by simp)⟩
 clear hown q7 q8 hs3 hfu k9 k5 hf
 cases ok
 ·have hz:a2N k (d.safe.drop a) a=([],[],a):=by
   cases k with
   |zero=>rfl
   |succ k=>rw [a2N,hx];simp
  rw [hz] at hr1 hr2 hr3
  simp at hr1 hr2 hr3
  have hav:a2G (a09 d)=.t [(false,[.nw 97 13 (a0a b8W)]),(false,[.nw 3 1 (a0a b97)]),(false,[.raw (.int .i64 a)])]:=by rw [a2G,<-hr1,<-hr2,<-hr3]
  rw [hav]
  rcases hown2 with ⟨q7,q8,rfl,rfl⟩|⟨g,h,q7,q8,hg,hh⟩
  ·simp [k12,q7,q8,q9]
  ·have n1:(g=h)=False:=by simp;rintro rfl;rw [hg] at hh;simp at hh
   have n2:(h=g)=False:=by simp;rintro rfl;rw [hg] at hh;simp at hh
   simp [k12,q7,q8,q9,hg,hh,n1,n2]
 obtain ⟨hn1,hn2⟩:=hn rfl
 obtain ⟨k,rfl⟩:∃j,k=j+1:=⟨k-1,by omega⟩
 rw [a2N,hx] at hr1 hr2 hr3
 simp only [if_true] at hr1 hr2 hr3
 rw [List.drop_drop] at hr1 hr2 hr3
 have w2:IntKind.wrap .i64 ((a:Int)+n)=((a+n:Nat):Int):=by rw [a0d]<;>omega
 have f7F:∀t,t<13->∀d,13<=d->(t=d)=False:=fun t ht d hd=>by simp;omega
 refine a3t (fun st'=>(∀t,t<13->st'.s t=st2.s t)/\st'.H=st2.H/\st2.T<=st'.T) ?_ ?_
 ·intro R' hR
  simp [k12]
  exact hR _ ⟨fun t ht=>by simp [f7F t ht],by simp,by simp⟩
 rintro st3 ⟨hs3,hH3,hT3⟩
 have k10:=(hs3 10 (by omega)).trans k10
 have k11:=(hs3 11 (by omega)).trans k11
 have q9:=(hs3 9 (by omega)).trans q9
 have q5:=(hs3 5 (by omega)).trans q5
 have hf3:a0D st3.H st3.T:=by rw [hH3];exact hf2.mono hT3
 rw [<-hH3] at hv hown2
 have hfu:∀k d,st3.T<=k->st3.H (k,d)=.a0h:=hf3
 obtain ⟨p1,p2,p3⟩:=hf3.arr hv
 have lE:(b8W++[e]).length<=a+n:=by simp;omega
 have lI:(b97++[(a:Int)]).length<=a+n:=by simp;omega
 have hfin:∀st':St,st'.s 5=.c (.str d.safe.flatten)->st'.s 9=.c (.raw (.int .i64 ((a+n:Nat):Int)))->a0D st'.H st'.T->
   (∃g h,st'.s 7=.c (.so g 0 (b8W++[e]).length)/\st'.s 8=.c (.so h 0 (b97++[(a:Int)]).length)/\st'.H g=.arr 97 13 false (a0a (b8W++[e]))/\st'.H h=.arr 3 1 false (a0a (b97++[(a:Int)])))->∃m,m<d.safe.length-a/\J m st':=
  fun st' h5 h9 hf ho=>⟨d.safe.length-(a+n),by omega,hJ _ _ ⟨a+n,k,b8W++[e],b97++[(a:Int)],hn2,rfl,by omega,lE,lI,by rw [List.append_assoc];exact hr1,by rw [List.append_assoc];exact hr2,hr3,h5,h9,hf,.inr ho⟩⟩
 rw [hS] at q5
 rcases hown2 with ⟨q7,q8,rfl,rfl⟩|⟨g,h,q7,q8,hg,hh⟩
 ·have q7:=(hs3 7 (by omega)).trans q7
  have q8:=(hs3 8 (by omega)).trans q8
  simp [q7,q8,q9,k10,k11,hv,a0q,a0f,hfu,p1,p2,w2]
  refine hfin _ (by simp [q5]) (by simp) (by simp;have hf:=hf3;repeat' (first|exact hf.mono (by first|omega|(simp<;>omega))|(refine a0D.set' ?_ (by first|omega|(simp<;>omega))))) ⟨(st3.T,44),(st3.T,48),by simp,by simp,?_,?_⟩
  ·simp
   rfl
  ·simp
   rfl
 ·have q7:=(hs3 7 (by omega)).trans q7
  have q8:=(hs3 8 (by omega)).trans q8
  obtain ⟨p4,p5,p6⟩:=hf3.arr hg
  obtain ⟨p7,p8,p9⟩:=hf3.arr hh
  have n1:(g=h)=False:=by simp;rintro rfl;rw [hg] at hh;simp at hh
  have n2:(h=g)=False:=by simp;rintro rfl;rw [hg] at hh;simp at hh
  simp [q7,q8,q9,k10,k11,hv,hg,hh,a0q,a0f,hfu,p1,p2,p4,p5,p7,p8,n1,n2,w2]
  refine ⟨⟨by omega,by omega⟩,⟨by omega,by omega⟩,hfin _ (by simp [q5]) (by simp) ?_ ⟨(st3.T,44),(st3.T,48),by simp,by simp,by simp [a0a,a0q,a0f,p4,p5,p7,p8],by simp [a0a,p4,p5,p7,p8]⟩⟩
  simp
  have hf:=hf3
  repeat' (first|exact hf.mono (by first|omega|(simp<;>omega))|(refine a0D.set' ?_ (by first|omega|(simp<;>omega))))
def d0j:List AV->Option (Prop×AV):=t1 (fun d=>secs d.safe/\d.safe.length<1000/\d.wait.length<1000000) fun d:a0l=>a2G (a09 d)
def FJ5:CT:=(48,.pu d0j)::FJ4
theorem c4f:a1k Tryz.prog FJ5:=⟨a0n fun d h=>b1A d h.1 h.2.1 h.2.2,c8l⟩
@[simp] theorem e2I {n:Nat} (h:(n==48)=false):a0b FJ5 n=a0b FJ4 n:=by
 simp only [Bool.or_eq_false_iff,beq_eq_false_iff_ne,ne_eq] at h
 simp [FJ5,a0b,h]
open Go
theorem b3O {d:a0l} (h:a2d d=true) {n:Int} {s:List UInt8} (hs:s.length=32) (h0:0<=n) (h1:n<d.safe.length) (h2:d.wait.length<400):a2d ⟨d.safe,d.wait++[⟨n,s⟩]⟩=true/\b21 d n s=(⟨d.safe,d.wait++[⟨n,s⟩]⟩,0):=by
 constructor
 ·simp only [a2d,Bool.and_eq_true,decide_eq_true_eq,List.all_append,List.length_append,List.length_cons,List.length_nil] at h ⊢
  obtain ⟨⟨⟨⟨a1,a2⟩,a3⟩,a4⟩,a5⟩:=h
  refine ⟨⟨⟨⟨a1,a2⟩,by omega⟩,a4⟩,a5,?_⟩
  simp [a2T,hs,a4H]
  omega
 ·rw [b21,if_neg (by simp [h,hs]),if_neg (by omega),if_neg (by omega)]
def wsF (B:List UInt8) (at_:Int) (i k:Nat):List a4o:=(List.range k).map fun j=>⟨at_+((i+j:Nat):Int),a7N B (i+j)⟩
theorem b9M (B:List UInt8) (at_:Int) (i k:Nat):wsF B at_ i (k+1)=⟨at_+(i:Int),a7N B i⟩::wsF B at_ (i+1) k:=by
 simp only [wsF,List.range_succ_eq_map,List.map_cons,List.map_map,Nat.add_zero]
 congr 1
 apply List.map_congr_left
 intro j _
 simp only [Function.comp,Nat.succ_eq_add_one]
 rw [show i+(j+1)=i+1+j by omega]
theorem c6X (B:List UInt8) (at_:Int) (k:Nat):wsF B at_ 0 (k+1)=wsF B at_ 0 k++[⟨at_+(k:Int),a7N B k⟩]:=by
 simp [wsF,List.range_succ]
theorem b3P (B:List UInt8) (at_:Int) (i k:Nat):(wsF B at_ i k).length=k:=by simp [wsF]
theorem b9N {B:List UInt8} {i:Nat} (h:32*(i+1)<=B.length):(a7N B i).length=32:=by
 simp only [a7N,List.length_take,List.length_drop]
 omega
theorem b7F {B:List UInt8} {at_:Int} (h0:0<=at_):∀(k i:Nat) (d:a0l),a2d d=true->at_+((i+k:Nat):Int)<=d.safe.length->32*(i+k)<=B.length->d.wait.length+k<=400->b9F B at_ k i d=(⟨d.safe,d.wait++wsF B at_ i k⟩,0)/\a2d ⟨d.safe,d.wait++wsF B at_ i k⟩=true
 |0,i,d,hm,h1,h2,h3=>by
  simp [b9F,wsF]
  exact hm
 |k+1,i,d,hm,h1,h2,h3=>by
  obtain ⟨m1,m2⟩:=b3O hm (n:=at_+(i:Int)) (s:=a7N B i) (b9N (by omega)) (by omega) (by omega) (by omega)
  have ih:=b7F (B:=B) h0 k (i+1) ⟨d.safe,d.wait++[⟨at_+(i:Int),a7N B i⟩]⟩ m1 (by simp only;omega) (by omega) (by simp;omega)
  rw [b9F,m2,if_pos rfl,ih.1,b9M]
  simp only [List.append_assoc,List.singleton_append] at ih ⊢
  exact ⟨trivial,ih.2⟩
def a9X (d:a0l) (at_:Int) (e:a0k):a0l×Int×Int:=
 if (a0j e).2=0 then
  if (d.safe.length:Int)<at_\/(d.safe.length:Int)-at_<((a0j e).1.length/32:Nat)\/(400:Int)-d.wait.length<((a0j e).1.length/32:Nat) then (noD,0,6)
  else (⟨d.safe,d.wait++wsF (a0j e).1 at_ 0 ((a0j e).1.length/32)⟩,at_+((a0j e).1.length/32:Nat),0)
 else (noD,0,2)
open Go Go.Proofs
def a8L (H:Heap) (v:Id) (d:a0l):Prop:=H v=.arr 25 2 false [[.sl .brw false (a0a d.safe),.sl .brw false (a0a d.wait)]]\/
 ∃j1 j2,j1≠j2/\H v=.arr 25 2 false [[.so j1 0 d.safe.length,.so j2 0 d.wait.length]]/\H j1=.arr 9 1 false (a0a d.safe)/\H j2=.arr 125 2 false (a0a d.wait)
def ApB (at_:Int) (st:St):Prop:=st.s 1=.c (.raw (.int .i64 at_))/\st.s 3=.c (.pt (0,3) 0 0)/\st.s 6=.c (.pt (0,6) 0 0)/\st.H (0,6)=.arr 25 2 false [[.raw (.slice none 0 0),.raw (.slice none 0 0)]]/\a0D st.H st.T
def d0k (d:a0l) (at_:Int) (b:List UInt8) (n:Nat) (q:Nat) (st:St):Prop:=∃i:Nat,i<=n/\q=n-i/\ApB at_ st/\st.s 9=.c (.str b)/\st.s 11=.c (.raw (.int .i64 n))/\st.s 12=.c (.raw (.int .i64 i))/\
 a8L st.H (0,3) ⟨d.safe,d.wait++wsF b at_ 0 i⟩/\(0<i->∃j1 j2,st.H (0,3)=.arr 25 2 false [[.so j1 0 d.safe.length,.so j2 0 (d.wait++wsF b at_ 0 i).length]])
theorem c05 {d:a0l} {n:Int} {s:List UInt8} (h0:0<=n) (h1:n<d.safe.length) (h2:d.wait.length<400):a3V d n s=(⟨d.safe,d.wait++[⟨n,s⟩]⟩,0):=by
 rw [a3V,if_neg (by omega),if_neg (by omega)]
theorem c4g {Q:AEx->St->Prop} {st:St} (d:a0l) (at_:Int) (b:List UInt8) (n:Nat) (h0:0<=at_) (h1:at_+n<=d.safe.length) (hl:d.safe.length<=400) (h2:d.wait.length+n<=400) (hb:b.length=32*n) (hB:ApB at_ st) (k9:st.s 9=.c (.str b)) (k11:st.s 11=.c (.raw (.int .i64 n))) (k12:st.s 12=.c (.raw (.int .i64 0)))
  (hD:a8L st.H (0,3) d)
  (hn:∀st',ApB at_ st'->st'.s 11=.c (.raw (.int .i64 n))->a8L st'.H (0,3) ⟨d.safe,d.wait++wsF b at_ 0 n⟩->(0<n->∃j1 j2,st'.H (0,3)=.arr 25 2 false [[.so j1 0 d.safe.length,.so j2 0 (d.wait++wsF b at_ 0 n).length]])->Q (.exit 0) st') :
  a2K Tryz.prog FJ5 (.loop b5C) Q st:=by
 refine a6y (d0k d at_ b n) n ⟨0,by omega,rfl,hB,k9,k11,k12,by simpa [wsF] using hD,by simp⟩ ?_
 rintro q st ⟨i,hi,rfl,⟨q1,q3,q6,hH6,hf⟩,q9,q11,q12,hD,hso⟩ J hJ
 have hfu:∀k d,st.T<=k->st.H (k,d)=.a0h:=hf
 by_cases hlt:i<n
 ·have hlt':(i:Int)<n:=by omega
  have w1:IntKind.wrap .i64 (at_+i)=at_+i:=by rw [a0d]<;>omega
  have w2:IntKind.wrap .i64 ((i:Int)*32)=((32*i:Nat):Int):=by rw [a0d]<;>omega
  have w3:IntKind.wrap .i64 ((i:Int)+1)=((i+1:Nat):Int):=by rw [a0d]<;>omega
  have w4:IntKind.wrap .i64 (((i:Int)+1)*32)=((32*i+32:Nat):Int):=by rw [a0d]<;>omega
  obtain ⟨lo,hlo⟩:∃x,x=32*i:=⟨_,rfl⟩
  obtain ⟨hi2,hhi⟩:∃x,x=32*i+32:=⟨_,rfl⟩
  rw [<-hlo] at w2
  rw [<-hhi] at w4
  have w5:lo<=hi2:=by omega
  have w6:hi2<=b.length:=by omega
  have b0M:(b.take hi2).drop lo=a7N b i:=by
   rw [a7N,List.drop_take,<-hlo,hhi,hlo]
   congr 1
   omega
  obtain ⟨W,hW⟩:∃W,W=d.wait++wsF b at_ 0 i:=⟨_,rfl⟩
  have hWl:W.length=d.wait.length+i:=by rw [hW,List.length_append,b3P]
  have hW2:W++[⟨at_+(i:Int),a7N b i⟩]=d.wait++wsF b at_ 0 (i+1):=by rw [hW,c6X];simp
  rw [<-hW] at hD hso
  have b1:d.safe.length<1000000:=by omega
  have b2:W.length<1000000:=by omega
  have hp:a3V ⟨d.safe,W⟩ (at_+(i:Int)) (a7N b i)=(⟨d.safe,W++[⟨at_+(i:Int),a7N b i⟩]⟩,0):=c05 (by omega) (by simp only;omega) (by simp only;omega)
  have hWW:(d.wait++wsF b at_ 0 (i+1)).length=W.length+1:=by rw [<-hW2];simp
  have fin:∀st':St,ApB at_ st'->st'.s 9=.c (.str b)->st'.s 11=.c (.raw (.int .i64 n))->st'.s 12=.c (.raw (.int .i64 ((i+1:Nat):Int)))->(∃j1 j2,j1≠j2/\st'.H (0,3)=.arr 25 2 false [[.so j1 0 d.safe.length,.so j2 0 (W.length+1)]]/\st'.H j1=.arr 9 1 false (a0a d.safe)/\st'.H j2=.arr 125 2 false (a0a (W++[⟨at_+(i:Int),a7N b i⟩])))->
    ∃m,m<n-i/\J m st':=by
   rintro st' a1 a2 a3 a4 ⟨j1,j2,b1,b2,b3,b4⟩
   rw [hW2] at b4
   exact ⟨n-(i+1),by omega,hJ _ _ ⟨i+1,by omega,rfl,a1,a2,a3,a4,.inr ⟨j1,j2,b1,by rw [hWW];exact b2,b3,b4⟩,fun _=>⟨j1,j2,by rw [hWW];exact b2⟩⟩⟩
  rcases hD with hH3|⟨j1,j2,hjj,hH3,hj1,hj2⟩
  ·obtain ⟨p1,p2,p3⟩:=hf.arr hH3
   obtain ⟨p4,p5,p6⟩:=hf.arr hH6
   simp [b5C,q1,q3,q6,q9,q11,q12,hH6,hH3,hlt',w1,w2,w3,w4,w5,w6,b1,b2,b0M,hp,a1l,a0z,hfu,p1,p2,p4,p5]
   refine fin _ ⟨by simp (maxDischargeDepth:=8) [q1],by simp [q3],by simp [q6],by simp [hH6,p1,p2,p4,p5,Nat.le_add_right_of_le],?_⟩ (by simp [q9]) (by simp [q11]) (by simp) ⟨(st.T+1,66560),(st.T+1,66561),by simp,by simp [p1,p2,Nat.le_add_right_of_le],by simp [p1,p2,Nat.le_add_right_of_le],by simp [p1,p2,Nat.le_add_right_of_le]⟩
   simp
   repeat' (first|exact hf.mono (by first|omega|(simp<;>omega))|(refine a0D.set' ?_ (by first|omega|(simp<;>omega))))
  ·obtain ⟨p1,p2,p3⟩:=hf.arr hH3
   obtain ⟨p4,p5,p6⟩:=hf.arr hH6
   obtain ⟨p7,p8,p9⟩:=hf.arr hj1
   obtain ⟨p10,p11,p12⟩:=hf.arr hj2
   simp [b5C,q1,q3,q6,q9,q11,q12,hH6,hH3,hj1,hj2,hlt',w1,w2,w3,w4,w5,w6,b1,b2,b0M,hp,a1l,a0z,hfu,p1,p2,p4,p5]
   refine fin _ ⟨by simp (maxDischargeDepth:=8) [q1],by simp [q3],by simp [q6],by simp [hH6,p1,p2,p4,p5,Nat.le_add_right_of_le],?_⟩ (by simp [q9]) (by simp [q11]) (by simp) ⟨(st.T+1,66560),(st.T+1,66561),by simp,by simp [p1,p2,Nat.le_add_right_of_le],by simp [p1,p2,Nat.le_add_right_of_le],by simp [p1,p2,Nat.le_add_right_of_le]⟩
   simp
   repeat' (first|exact hf.mono (by first|omega|(simp<;>omega))|(refine a0D.set' ?_ (by first|omega|(simp<;>omega))))
 ·have hin:i=n:=by omega
  subst hin
  have hlt':¬(i:Int)<i:=by omega
  simp [b5C,q1,q3,q6,q9,q11,q12]
  exact hn _ ⟨by simp [q1],by simp [q3],by simp [q6],by simpa using hH6,by simp;exact hf.mono (by omega)⟩ (by simp [q11]) (by simpa using hD) (by simpa using hso)
theorem b52 (d:a0l) (at_:Int) (e:a0k) (hm:a2d d=true) (he:okF e) (h0:0<=at_) (h1:at_<9223372036854775808) :
  PEv Tryz.prog 124 [Arg.enc d,.c (.raw (.int .i64 at_)),Arg.enc e] (a2i (a9X d at_ e)):=by
 refine a0e mixed c4f Tryz.func124 e7B e7C (by kernel_rfl) (by simp [a2i,a0z]) (by simp [a0q,a0f]) ?_
 obtain ⟨_,_,c7y⟩:=a1Y hm
 have c47:=a42 hm
 have hno:∀c:Int,a9X d at_ e=(noD,0,c)->∀st',(st'.s 6=.c (.pt (0,6) 0 0)/\st'.H (0,6)=.arr 25 2 false [[.raw (.slice none 0 0),.raw (.slice none 0 0)]]/\st'.s 7=.c (.raw (.int .i64 0))/\st'.s 8=.c (.raw (.int .i64 c)))->c1N Tryz.prog Tryz.f124 (a2i (a9X d at_ e)) .ret st':=by
  rintro c hR st' ⟨h6,hH,h7,h8⟩
  rw [hR]
  simp [h6,hH,h7,h8,a2i,noD,a0z]
 refine a3t (fun st'=>ApB at_ st'/\st'.s 5=.c (.pt (0,5) 0 0)/\st'.H (0,5)=.arr 97 13 false [a0q .brw e]/\a8L st'.H (0,3) d) ?_ ?_
 ·intro R' hR
  simp [a0q,a0f]
  exact hR _ ⟨⟨by simp,by simp,by simp,by simp,by simp;(repeat' (first|exact a1i.mono (Nat.zero_le _)|(refine a0D.set' ?_ (by simp))))⟩,by simp,by simp [a0q,a0f],.inl (by simp)⟩
 rintro st ⟨⟨q1,q3,q6,hH6,hf⟩,q5,hH5,hD⟩
 have hR1:a9X d at_ e=if (a0j e).2=0 then
  if (d.safe.length:Int)<at_\/(d.safe.length:Int)-at_<((a0j e).1.length/32:Nat)\/(400:Int)-d.wait.length<((a0j e).1.length/32:Nat) then (noD,0,6)
  else (⟨d.safe,d.wait++wsF (a0j e).1 at_ 0 ((a0j e).1.length/32)⟩,at_+((a0j e).1.length/32:Nat),0)
 else (noD,0,2):=rfl
 have hfk:=@a8c e
 have hb:∃b ok,a1S e=.t [(false,[.str b]),(false,[.raw (.bool ok)])]/\(ok=true->a0j e=(b,0))/\(ok=false->(a0j e).2=2):=by
  by_cases h7:700<(a0E e).length
  ·exact ⟨[],false,by rw [a1S,a2W,if_pos h7],by simp,fun _=>by rw [a0j,if_pos h7]⟩
  ·exact ⟨_,true,by rw [a1S,a2W,if_neg h7],fun _=>by rw [a0j,if_neg h7],by simp⟩
 obtain ⟨b,ok,hb1,hb2,hb3⟩:=hb
 refine a3t (fun st'=>ApB at_ st'/\a8L st'.H (0,3) d/\st'.s 9=.c (.str b)/\st'.s 10=.c (.raw (.bool ok))) ?_ ?_
 ·intro R' hR
  simp [q5,hH5,a0q,a0f,he,hb1]
  exact hR _ ⟨⟨by simp [q1],by simp [q3],by simp [q6],by simpa using hH6,by simp;exact hf.mono (by omega)⟩,by simpa using hD,by simp,by simp⟩
 clear q1 q3 q6 hH6 hf q5 hH5 hD
 rintro st ⟨⟨q1,q3,q6,hH6,hf⟩,hD,q9,q10⟩
 cases ok
 ·rw [if_neg (by rw [hb3 rfl];simp)] at hR1
  refine a4F _ ?_ (hno 2 hR1)
  intro R' hR
  simp [q6,q10,hH6]
  exact hR _ ⟨by simp [q6],by simp,by simp,by simp⟩
 have hfr:=hb2 rfl
 obtain ⟨f1,f2,f3⟩:=hfk (by rw [hfr])
 rw [if_pos (by rw [hfr])] at hR1
 rw [hfr] at hR1 f1 f2 f3
 simp only at hR1 f1 f2 f3
 obtain ⟨n,hn⟩:∃n,b.length/32=n:=⟨_,rfl⟩
 rw [hn] at hR1 f1 f2 f3
 refine a3t (fun st'=>ApB at_ st'/\a8L st'.H (0,3) d/\st'.s 9=.c (.str b)) ?_ ?_
 ·intro R' hR
  simp [q10]
  exact hR _ ⟨⟨by simp [q1],by simp [q3],by simp [q6],by simpa using hH6,by simp;exact hf.mono (by omega)⟩,by simpa using hD,by simp [q9]⟩
 clear q1 q3 q6 hH6 hf hD q9 q10
 rintro st ⟨⟨q1,q3,q6,hH6,hf⟩,hD,q9⟩
 have w0:(b.length:Int).tdiv 32=(n:Int):=by rw [Int.tdiv_eq_ediv_of_nonneg (by omega)];omega
 have w1:IntKind.wrap .i64 (n:Int)=n:=by rw [a0d]<;>omega
 refine a3t (fun st'=>ApB at_ st'/\a8L st'.H (0,3) d/\st'.s 9=.c (.str b)/\st'.s 11=.c (.raw (.int .i64 n))) ?_ ?_
 ·intro R' hR
  simp [q9,w0,w1]
  exact hR _ ⟨⟨by simp [q1],by simp [q3],by simp [q6],by simpa using hH6,by simp;exact hf.mono (by omega)⟩,by simpa using hD,by simp [q9],by simp⟩
 clear q1 q3 q6 hH6 hf hD q9
 rintro st ⟨⟨q1,q3,q6,hH6,hf⟩,hD,q9,q11⟩
 have w3:IntKind.wrap .i64 ((400:Int)-d.wait.length)=(400:Int)-d.wait.length:=by rw [a0d]<;>omega
 have w2:IntKind.wrap .i64 ((d.safe.length:Int)-at_)=(d.safe.length:Int)-at_:=by rw [a0d]<;>omega
 by_cases c1:(d.safe.length:Int)<at_
 ·rw [if_pos (.inl c1)] at hR1
  refine a4F _ ?_ (hno 6 hR1)
  intro R' hR
  rcases hD with hH3|⟨j1,j2,hjj,hH3,hj1,hj2⟩
  ·simp [q1,q3,q6,q11,hH6,hH3,c1]
   exact hR _ ⟨by simp [q6],by simp,by simp,by simp⟩
  ·simp [q1,q3,q6,q11,hH6,hH3,hj1,hj2,c1]
   exact hR _ ⟨by simp [q6],by simp,by simp,by simp⟩
 by_cases c2:(d.safe.length:Int)-at_<n
 ·rw [if_pos (.inr (.inl c2))] at hR1
  refine a4F _ ?_ (hno 6 hR1)
  intro R' hR
  rcases hD with hH3|⟨j1,j2,hjj,hH3,hj1,hj2⟩
  ·simp [q1,q3,q6,q11,hH6,hH3,c1,c2,w2]
   exact hR _ ⟨by simp [q6],by simp,by simp,by simp⟩
  ·simp [q1,q3,q6,q11,hH6,hH3,hj1,hj2,c1,c2,w2]
   exact hR _ ⟨by simp [q6],by simp,by simp,by simp⟩
 by_cases c3:(400:Int)-d.wait.length<n
 ·rw [if_pos (.inr (.inr c3))] at hR1
  refine a4F _ ?_ (hno 6 hR1)
  intro R' hR
  rcases hD with hH3|⟨j1,j2,hjj,hH3,hj1,hj2⟩
  ·simp [q1,q3,q6,q11,hH6,hH3,c1,c2,c3,w2,w3]
   exact hR _ ⟨by simp [q6],by simp,by simp,by simp⟩
  ·simp [q1,q3,q6,q11,hH6,hH3,hj1,hj2,c1,c2,c3,w2,w3]
   exact hR _ ⟨by simp [q6],by simp,by simp,by simp⟩
 rw [if_neg (by omega)] at hR1
 refine a3t (fun st'=>ApB at_ st'/\a8L st'.H (0,3) d/\st'.s 9=.c (.str b)/\st'.s 11=.c (.raw (.int .i64 n))) ?_ ?_
 ·intro R' hR
  rcases hD with hH3|⟨j1,j2,hjj,hH3,hj1,hj2⟩
  ·simp [q1,q3,q6,q11,hH3,c1,c2,c3,w2,w3]
   exact hR _ ⟨⟨by simp [q1],by simp [q3],by simp [q6],by simpa using hH6,by simp;exact hf.mono (by omega)⟩,.inl (by simpa using hH3),by simp [q9],by simp [q11]⟩
  ·simp [q1,q3,q6,q11,hH3,hj1,hj2,c1,c2,c3,w2,w3]
   exact hR _ ⟨⟨by simp [q1],by simp [q3],by simp [q6],by simpa using hH6,by simp;exact hf.mono (by omega)⟩,.inr ⟨j1,j2,hjj,by simpa using hH3,by simpa using hj1,by simpa using hj2⟩,by simp [q9],by simp [q11]⟩
 clear q1 q3 q6 hH6 hf hD q9 q11
 rintro st ⟨⟨q1,q3,q6,hH6,hf⟩,hD,q9,q11⟩
 simp
 refine c4g d at_ b n h0 (by omega) c7y (by omega) (by omega) ⟨by simp [q1],by simp [q3],by simp [q6],by simpa using hH6,by simp;exact hf.mono (by omega)⟩ (by simp [q9]) (by simp [q11]) (by simp) (by simpa using hD) ?_
 clear q1 q3 q6 hH6 hf hD q9 q11
 rintro st ⟨q1,q3,q6,hH6,hf⟩ q11 hD hso
 obtain ⟨i1,i2,hso⟩:=hso (by omega)
 rw [hR1]
 have w4:IntKind.wrap .i64 (at_+n)=at_+n:=by rw [a0d]<;>omega
 rcases hD with hH3|⟨j1,j2,hjj,hH3,hj1,hj2⟩
 ·rw [hH3] at hso;simp at hso
 ·obtain ⟨W,hW⟩:∃W,W=d.wait++wsF b at_ 0 n:=⟨_,rfl⟩
  rw [<-hW] at hH3 hj2 ⊢
  have n1:((0,6)=j1)=False:=by simp;rintro rfl;rw [hH6] at hj1;simp at hj1
  have n2:((0,6)=j2)=False:=by simp;rintro rfl;rw [hH6] at hj2;simp at hj2
  have n3:(j1=(0,6))=False:=by simp;rintro rfl;rw [hH6] at hj1;simp at hj1
  have n4:(j2=(0,6))=False:=by simp;rintro rfl;rw [hH6] at hj2;simp at hj2
  simp [q1,q3,q6,q11,hH6,hH3,hj1,hj2,w4,a2i,a0z,n1,n2,n3,n4]
  exact hjj
open Go Go.Proofs
theorem a7E:∀(l:List a4o) (n i:Nat) (safe:List (List UInt8)),i+l.length<=n->a1D (List.replicate n 1) i safe l=a4A safe l
 |[],_,_,_,_=>rfl
 |w::r,n,i,safe,h=>by
  have hk:a2r (List.replicate n 1) i=1:=by
   unfold a2r
   have:i<n:=by simp at h;omega
   simp [List.getD,this]
  rw [a1D,a4A,a7E r n (i+1) _ (by simp at h;omega),hk]
  rfl
theorem c06 {d:a0l} (h:a2d d=true):a3z d=(⟨a4A d.safe d.wait,[]⟩,0):=by
 rw [a3z,a4W,if_pos h,a7E _ _ _ _ (by omega)]
theorem a9Y {at_:Int}:∀(l:List (List UInt8)) (i k:Nat) (d:a0l),(i+k:Nat)<=at_->a1N at_ l i d=a1N at_ (l.drop k) (i+k) d
 |l,i,0,d,_=>rfl
 |[],i,k+1,d,_=>by simp [a1N]
 |s::l,i,k+1,d,h=>by
  rw [a1N,if_pos (.inl (by omega)),a9Y l (i+1) k d (by omega),List.drop_succ_cons,show i+1+k=i+(k+1) by omega]
theorem b9O {d:a0l} {n:Int} {s:List UInt8} (hm:a2d d=true) (hs:s.length=32):b21 d n s=a3V d n s:=by
 rw [b21,a3V,if_neg (by simp [hm,hs])]
def ClB (st:St):Prop:=st.s 2=.c (.pt (0,2) 0 0)/\st.s 4=.c (.pt (0,4) 0 0)/\st.H (0,4)=.arr 25 2 false [[.raw (.slice none 0 0),.raw (.slice none 0 0)]]/\a0D st.H st.T
def a9Z (H:Heap) (v:Id) (d:a0l):Prop:=∃j1 j2,j1≠j2/\H v=.arr 25 2 false [[.so j1 0 d.safe.length,.so j2 0 d.wait.length]]/\H j1=.arr 9 1 false (a0a d.safe)/\H j2=.arr 125 2 false (a0a d.wait)
def d7z (d:a0l) (k:Nat) (q:Nat) (st:St):Prop:=∃(i:Nat) (W:List a4o),(i<=d.safe.length\/i=k)/\q=d.safe.length-i/\ClB st/\st.s 6=.c (.raw (.int .i64 i))/\k<=i/\
 a1N k (d.safe.drop i) i ⟨d.safe,W⟩=a1N k d.safe 0 d/\a2d ⟨d.safe,W⟩=true/\a9Z st.H (0,2) ⟨d.safe,W⟩
theorem a90:blank.length=32:=by decide
theorem b7G {Q:AEx->St->Prop} {st:St} (d:a0l) (k:Nat) (hk:k<9223372036854775808) (hm:a2d d=true) (hB:ClB st) (k6:st.s 6=.c (.raw (.int .i64 k))) (hD:a9Z st.H (0,2) d)
  (hn:∀st' W,ClB st'->a1N k d.safe 0 d=(⟨d.safe,W⟩,0)->a2d ⟨d.safe,W⟩=true->a9Z st'.H (0,2) ⟨d.safe,W⟩->Q (.exit 0) st')
  (hr:∀st' c,c≠0->a1N k d.safe 0 d=(noD,c)->st'.s 4=.c (.pt (0,4) 0 0)->st'.H (0,4)=.arr 25 2 false [[.raw (.slice none 0 0),.raw (.slice none 0 0)]]->st'.s 5=.c (.raw (.int .i64 c))->Q .ret st') :
  a2K Tryz.prog FJ5 (.loop d5e) Q st:=by
 obtain ⟨_,_,c7y⟩:=a1Y hm
 refine a6y (d7z d k) (d.safe.length-k) ⟨k,d.wait,by omega,rfl,hB,k6,by omega,?_,hm,hD⟩ ?_
 ·have:=a9Y (at_:=(k:Int)) d.safe 0 k d (by omega)
  rw [this]
  simp
 rintro q st ⟨i,W,hi,rfl,⟨q2,q4,hH4,hf⟩,q6,hki,hcl,hmW,j1,j2,hjj,hH2,hj1,hj2⟩ J hJ
 have hfu:∀k d,st.T<=k->st.H (k,d)=.a0h:=hf
 have hi0:(0:Int)<=(i:Int):=by omega
 have c47:=a42 hmW
 simp only at c47 hH2 hj1 hj2
 by_cases hlt:i<d.safe.length
 ·have hlt':(i:Int)<d.safe.length:=by omega
  have w3:IntKind.wrap .i64 ((i:Int)+1)=((i+1:Nat):Int):=by rw [a0d]<;>omega
  obtain ⟨p1,p2,p3⟩:=hf.arr hH2
  obtain ⟨p4,p5,p6⟩:=hf.arr hH4
  obtain ⟨p7,p8,p9⟩:=hf.arr hj1
  obtain ⟨p10,p11,p12⟩:=hf.arr hj2
  have b1:d.safe.length<1000000:=by omega
  have b2:W.length<1000000:=by omega
  have h0:¬(i:Int)<k:=by omega
  rw [List.drop_eq_getElem_cons hlt,a1N] at hcl
  refine a3t (fun st'=>ClB st'/\st'.s 6=.c (.raw (.int .i64 i))/\st'.H=st.H/\st.T<=st'.T) ?_ ?_
  ·intro R' hR
   simp [q2,q6,hH2,hj1,hlt',hi0]
   exact hR _ ⟨⟨by simp [q2],by simp [q4],by simpa using hH4,by simp;exact hf.mono (by omega)⟩,by simp [q6],by simp,by simp⟩
  rintro st2 ⟨⟨r2,r4,d3v,hf2⟩,r6,hHe,hTe⟩
  rw [<-hHe] at hH2 hj1 hj2
  clear hHe hTe hfu p1 p2 p3 p4 p5 p6 p7 p8 p9 p10 p11 p12 hf q2 q4 q6 hH4
  obtain ⟨p1,p2,p3⟩:=hf2.arr hH2
  obtain ⟨p4,p5,p6⟩:=hf2.arr d3v
  obtain ⟨p7,p8,p9⟩:=hf2.arr hj1
  obtain ⟨p10,p11,p12⟩:=hf2.arr hj2
  have hfu:∀k d,st2.T<=k->st2.H (k,d)=.a0h:=hf2
  cases c2:decide (d.safe[i]=blank)
  rotate_left
  ·rw [if_pos (Or.inr (of_decide_eq_true c2))] at hcl
   simp [r2,r6,hH2,hj1,hlt,hlt',c2,w3]
   exact ⟨d.safe.length-(i+1),by omega,hJ _ _ ⟨i+1,W,by omega,rfl,⟨by simp [r2],by simp [r4],by simpa using d3v,by simp;exact hf2.mono (by omega)⟩,by simp,by omega,hcl,hmW,j1,j2,hjj,by simpa using hH2,by simpa using hj1,by simpa using hj2⟩⟩
  rw [if_neg (by have:=of_decide_eq_false c2;simp [h0,this])] at hcl
  rw [b9O hmW a90] at hcl
  by_cases f7G:400<=W.length
  ·have hp:a3V ⟨d.safe,W⟩ i blank=(⟨[],[]⟩,6):=by rw [a3V,if_neg (by simp only;omega),if_pos f7G]
   rw [hp,if_neg (by simp)] at hcl
   simp (maxDischargeDepth:=8) [r2,r4,r6,hH2,d3v,hj1,hj2,hlt,hlt',c2,hp,b1,b2,a1l,a0z,hfu,p1,p2,p4,p5,p7,p8,p10,p11,Nat.le_add_right_of_le]
   exact hr _ 6 (by decide) (by rw [<-hcl]) (by simp (maxDischargeDepth:=8) [r4]) (by simp [d3v,p1,p2,p4,p5,Nat.le_add_right_of_le]) (by simp)
  ·obtain ⟨m1,m2⟩:=b3O hmW (n:=(i:Int)) (s:=blank) a90 (by omega) (by simp only;omega) (by simp only;omega)
   have hp:a3V ⟨d.safe,W⟩ i blank=(⟨d.safe,W++[⟨i,blank⟩]⟩,0):=by rw [<-b9O hmW a90];exact m2
   rw [hp,if_pos rfl] at hcl
   simp (maxDischargeDepth:=8) [r2,r4,r6,hH2,d3v,hj1,hj2,hlt,hlt',c2,hp,b1,b2,a1l,a0z,hfu,w3,p1,p2,p4,p5,p7,p8,p10,p11,Nat.le_add_right_of_le]
   refine ⟨d.safe.length-(i+1),by omega,hJ _ _ ⟨i+1,W++[⟨i,blank⟩],by omega,rfl,⟨by simp (maxDischargeDepth:=8) [r2],by simp [r4],by simp [d3v,p1,p2,p4,p5,Nat.le_add_right_of_le],?_⟩,by simp,by omega,hcl,m1,(st2.T+1,35840),(st2.T+1,35841),by simp,by simp [p1,p2,p4,p5,Nat.le_add_right_of_le],by simp [p1,p2,p4,p5,Nat.le_add_right_of_le],by simp [p1,p2,p4,p5,Nat.le_add_right_of_le]⟩⟩
   simp
   have hf:=hf2
   repeat' (first|exact hf.mono (by first|omega|(simp<;>omega))|(refine a0D.set' ?_ (by first|omega|(simp<;>omega))))
 ·have hlt':¬(i:Int)<d.safe.length:=by omega
  have d9F:a1N k d.safe 0 d=(⟨d.safe,W⟩,0):=by rw [<-hcl,List.drop_eq_nil_of_le (by omega),a1N]
  refine c9z 0 (fun st'=>ClB st'/\st'.H=st.H) ?_ ?_
  ·intro R' hR
   simp [q2,q6,hH2,hj1,hlt',hi0]
   exact hR _ ⟨⟨by simp [q2],by simp [q4],by simpa using hH4,by simp;exact hf.mono (by omega)⟩,by simp⟩
  rintro st2 ⟨hB2,hHe⟩
  exact hn st2 W hB2 d9F hmW ⟨j1,j2,hjj,by rw [hHe];exact hH2,by rw [hHe];exact hj1,by rw [hHe];exact hj2⟩
theorem b7H (d:a0l) (at_:Int) (hm:a2d d=true) (h0:0<=at_) (h1:at_<9223372036854775808) :
  PEv Tryz.prog 80 [Arg.enc d,.c (.raw (.int .i64 at_))] (a1l (a10 d at_)):=by
 refine a0e mixed c4f Tryz.func80 f6W f6X (by kernel_rfl) (by simp [a1l,a0z]) (by simp) ?_
 obtain ⟨k,rfl⟩:∃k:Nat,at_=(k:Int):=⟨at_.toNat,by omega⟩
 obtain ⟨_,_,c7y⟩:=a1Y hm
 have c47:=a42 hm
 have b1:d.safe.length<1000000:=by omega
 have b2:d.wait.length<1000000:=by omega
 have hc:a10 d k=if (a1N k d.safe 0 d).2=0 then a3z (a1N k d.safe 0 d).1 else (noD,(a1N k d.safe 0 d).2):=by rw [a10,if_pos ⟨hm,h0⟩]
 refine a3t (fun st'=>ClB st'/\st'.s 1=.c (.raw (.int .i64 k))/\st'.H (0,2)=.arr 25 2 false [[.sl .brw false (a0a d.safe),.sl .brw false (a0a d.wait)]]) ?_ ?_
 ·intro R' hR
  simp
  exact hR _ ⟨⟨by simp,by simp,by simp,by simp;(repeat' (first|exact a1i.mono (Nat.zero_le _)|(refine a0D.set' ?_ (by simp))))⟩,by simp,by simp⟩
 rintro st ⟨⟨q2,q4,hH4,hf⟩,q1,hH2⟩
 have hfu:∀k d,st.T<=k->st.H (k,d)=.a0h:=hf
 obtain ⟨p1,p2,p3⟩:=hf.arr hH2
 obtain ⟨p4,p5,p6⟩:=hf.arr hH4
 refine a3t (fun st'=>ClB st'/\st'.s 1=.c (.raw (.int .i64 k))/\a9Z st'.H (0,2) d) ?_ ?_
 ·intro R' hR
  simp [q2,hH2,b1,b2,hfu,a0z,p1,p2]
  exact hR _ ⟨⟨by simp [q2],by simp [q4],by simp [hH4,p4,p5],by simp;repeat' (first|exact hf.mono (by first|omega|(simp<;>omega))|(refine a0D.set' ?_ (by first|omega|(simp<;>omega))))⟩,by simp [q1],(st.T,11264),(st.T,11265),by simp,by simp [p1,p2],by simp [p1,p2],by simp [p1,p2]⟩
 clear q2 q4 hH4 hf q1 hH2 hfu p1 p2 p3 p4 p5 p6
 rintro st ⟨⟨q2,q4,hH4,hf⟩,q1,hD⟩
 simp [q1]
 refine b7G d k (by omega) hm ⟨by simp [q2],by simp [q4],by simpa using hH4,by simp;exact hf.mono (by omega)⟩ (by simp) (by simpa [a9Z] using hD) ?_ ?_
 ·clear q2 q4 hH4 hf q1 hD
  rintro st W ⟨q2,q4,hH4,hf⟩ hcl hmW ⟨j1,j2,hjj,hH2,hj1,hj2⟩
  have hfu:∀k d,st.T<=k->st.H (k,d)=.a0h:=hf
  obtain ⟨p4,p5,p6⟩:=hf.arr hH4
  rw [hc,hcl,if_pos rfl]
  simp only
  rw [c06 hmW]
  simp only at hH2 hj1 hj2 ⊢
  simp [q2,q4,hH2,hH4,hj1,hj2,hmW,hfu,p4,p5,a1l,a0z]
 ·intro st' c hc0 hcl h4 hH h5
  rw [hc,hcl,if_neg hc0]
  simp [h4,hH,h5,a1l,a0z,noD]
def c6Y:List AV->Option (Prop×AV):=t3 (fun (d:a0l) (n:Int) (e:a0k)=>a2d d=true/\okF e/\0<=n/\n<9223372036854775808) fun (d:a0l) (n:Int) (e:a0k)=>a2i (a9X d n e)
def d0l:List AV->Option (Prop×AV):=t2 (fun (d:a0l) n=>a2d d=true/\0<=n/\n<9223372036854775808) fun (d:a0l) (n:Int)=>a1l (a10 d n)
def FJ6:CT:=(124,.pu c6Y)::(80,.pu d0l)::FJ5
theorem d7A:a1k Tryz.prog FJ6:=⟨a6w fun d n e h=>b52 d n e h.1 h.2.1 h.2.2.1 h.2.2.2,
 a0R fun d n h=>b7H d n h.1 h.2.1 h.2.2,c4f⟩
open Go Go.Proofs
def f0U {α:Type} [Enc α] (e sz:Nat) (l:List α) (q:Nat) (st:St):Prop:=∃(i:Nat) (c:AC),i<=l.length/\q=l.length-i/\st.s 0=.c (.sl .brw false (a0a l))/\st.s 3=.c c/\st.s 4=.c (.raw (.int .i64 i))/\a0D st.H st.T/\a8Y st.H e sz 0 c (l.take i)
theorem b53 (l:List a0B) (hl:l.length<1000000):PEv Tryz.prog 150 [.c (.sl .brw false (a0a l))] (.c (.nw 50 3 (a0a l))):=by
 refine a0e mixed (F:=[]) trivial Tryz.func150 e76 e77 (by kernel_rfl) (by simp) (by simp) ?_
 simp [e75]
 refine a6y (f0U 50 3 l) l.length ⟨0,_,by omega,rfl,by simp,by simp,by simp,by simp;exact a1i.mono (by omega),.inl ⟨rfl,rfl⟩⟩ ?_
 rintro q st ⟨i,c,hi,rfl,k0,k3,k4,hf,hc⟩ J hJ
 have hfu:∀k d,st.T<=k->st.H (k,d)=.a0h:=hf
 by_cases hlt:i<l.length
 ·have hlt':(i:Int)<l.length:=by omega
  have hw:IntKind.wrap .i64 ((i:Int)+1)=((i+1:Nat):Int):=by rw [a0d]<;>omega
  have ht:l.take (i+1)=l.take i++[l[i]]:=(List.take_append_getElem hlt).symm
  have hti:(l.take i).length=i:=by rw [List.length_take];omega
  rcases hc with ⟨rfl,hc0⟩|⟨g,rfl,hg0,hg⟩
  ·simp [b5D,k0,k3,k4,hlt,hlt',hw,hfu]
   refine ⟨l.length-(i+1),by omega,hJ _ _ ⟨i+1,.so (st.T+1,17) 0 1,by omega,rfl,by simp [k0],by simp,by simp,by simp;repeat' (first|exact hf.mono (by first|omega|(simp<;>omega))|(refine a0D.set' ?_ (by first|omega|(simp<;>omega)))),?_⟩⟩
   rw [ht,hc0]
   exact a8Y.so rfl (Nat.zero_le _) (by simp [a0a])
  ·obtain ⟨f1,f2,f3⟩:=hf.arr hg
   rw [hti] at k3
   simp [b5D,k0,k3,k4,hlt,hlt',hw,hfu,hg,f1,f2,hti]
   refine ⟨⟨by omega,by omega⟩,l.length-(i+1),by omega,hJ _ _ ⟨i+1,.so (st.T+1,17) 0 (i+1),by omega,rfl,by simp [k0],by simp,by simp,by simp;repeat' (first|exact hf.mono (by first|omega|(simp<;>omega))|(refine a0D.set' ?_ (by first|omega|(simp<;>omega)))),?_⟩⟩
   rw [ht]
   generalize List.take i l=A at hg hti ⊢
   exact a8Y.so (by simp [hti]) (Nat.zero_le _) (by simp [a0a])
 ·have hlt':¬(i:Int)<l.length:=by omega
  have hi2:i=l.length:=by omega
  rw [hi2,List.take_length] at hc
  rcases hc with ⟨rfl,rfl⟩|⟨g,rfl,hg0,hg⟩
  ·simp [b5D,k0,k3,k4,hlt,hlt']
  ·simp [b5D,k0,k3,k4,hlt,hlt',hg]
def b3Q:List AV->Option (Prop×AV):=t1 (fun l=>l.length<1000000) fun l:List a0B=>.c (.nw 50 3 (a0a l))
@[simp] theorem d7B {l:List AV}:b3Q l=(t1 (fun l=>l.length<1000000) fun l:List a0B=>.c (.nw 50 3 (a0a l))) l:=(rfl)
def FK0:CT:=(150,.pu b3Q)::FJ6
theorem c8m:a1k Tryz.prog FK0:=⟨a0n fun l h=>b53 l h,d7A⟩
@[simp] theorem d2M:a0b FK0 150=some (.pu b3Q):=(rfl)
theorem c4h (o:OpV) (h:o.gone.length<1000000):PEv Tryz.prog 101 [Arg.enc o] (.g (a0F (.nw 50 3 (a0a o.gone)) o)):=by
 refine a0e mixed c8m Tryz.func101 e6V e6W (by kernel_rfl) (by simp [a0F]) (by simp [a0f]) ?_
 simp [e6U,a0f,a0F,h]
theorem a8f (o:OpV) (h:o.gone.length<1000000):PEv Tryz.prog 101 [Arg.enc o] (.g (a0f .old o)):=
 (c4h o h).frz .old (by simp)
def c6Z:List AV->Option (Prop×AV):=t1 (fun o=>o.gone.length<1000000) fun o:OpV=>.g (a0f .old o)
def FK1:CT:=(101,.pu c6Z)::FK0
theorem d7C:a1k Tryz.prog FK1:=⟨a0n fun o h=>a8f o h,c8m⟩
def FK2:CT:=FK1
theorem d7D:a1k Tryz.prog FK2:=d7C
attribute [simp] FK2
def a13 (o:OpV):Int:=2+((o.text.length/4:Nat):Int)+o.gone.length
theorem b7I (o:OpV) (h1:o.text.length<4611686018427387904) (h2:o.gone.length<4611686018427387904):PEv Tryz.prog 97 [Arg.enc o] (.c (.raw (.int .i64 (a13 o)))):=by
 refine a0e mixed (F:=[]) trivial Tryz.func97 f7c f7d (by kernel_rfl) (by simp) (by simp [a0f]) ?_
 obtain ⟨q,hq⟩:∃q,o.text.length/4=q:=⟨_,rfl⟩
 have w0:(o.text.length:Int).tdiv 4=(q:Int):=by rw [Int.tdiv_eq_ediv_of_nonneg (by omega)];omega
 have w1:IntKind.wrap .i64 (q:Int)=q:=by rw [a0d]<;>omega
 have w2:IntKind.wrap .i64 (2+(q:Int))=2+(q:Int):=by rw [a0d]<;>omega
 have w3:IntKind.wrap .i64 (2+(q:Int)+o.gone.length)=2+(q:Int)+o.gone.length:=by rw [a0d]<;>omega
 simp [s97,a0f,w0,w1,w2,w3,a13,hq]
open Go
open Go
theorem b1B (s:List UInt8):(a2b s).1.op.gone.length<=200:=by
 obtain ⟨g1,g2,g3⟩:=a5l (a1e s).2.1
 unfold a2b
 split
 ·simp [zeroE,a0V]
 ·split
  ·simp [a0V]
  ·exact g2
theorem b7J (s:List UInt8):(a0P s).1.op.gone.length<=200:=by
 unfold a0P
 split
 ·simp [zeroE,a0V]
 ·split
  ·exact b1B _
  ·exact b1B _
theorem a92:∀(k:Nat) (l:List (List UInt8)) (a:Nat),(a1J k l a).1.length<=k/\∀e∈(a1J k l a).1,e.op.gone.length<=200
 |0,l,a=>by simp [a1J]
 |k+1,l,a=>by
  unfold a1J
  split
  ·simp
  ·split
   ·have ih:=a92 k (l.drop (a0P (l.take 23).flatten).2.1) (a+(a0P (l.take 23).flatten).2.1)
    refine ⟨by simp;exact ih.1,fun e he=>?_⟩
    rcases List.mem_cons.1 he with rfl|he
    ·exact b7J _
    ·exact ih.2 e he
   ·simp
theorem a6Y (d:a0l):(a2C d).1.length<=d.safe.length/\∀e∈(a2C d).1,e.op.gone.length<=200:=by
 unfold a2C
 split
 ·exact a92 _ _ _
 ·simp
open Go Go.Proofs
theorem b54 {s:List UInt8} (h:(a2b s).2=true):a0H (a2b s).1=true:=by
 unfold a2b at h ⊢
 split at h
 ·cases h
 ·rename_i c1
  rw [if_neg c1]
  split at h
  ·rename_i c2
   rw [if_pos c2]
   simp only [Bool.and_eq_true] at h
   exact h.2
  ·rename_i c2
   rw [if_neg c2]
   simp only [Bool.and_eq_true] at h
   exact h.2
theorem b1C {s:List UInt8} (h:(a0P s).2.2=true):a0H (a0P s).1=true/\okF (a0P s).1:=by
 unfold a0P at h ⊢
 cases hq:a2L s with
 |none=>simp [hq] at h
 |some q=>
  obtain ⟨t,r⟩:=q
  obtain ⟨_,ht7⟩:=a5m hq
  simp only [hq] at h ⊢
  split
  ·rename_i hr
   exact ⟨b54 hr,b9D (by omega) hr⟩
  ·rename_i hr
   rw [if_neg hr] at h
   cases h
theorem b55:∀(k:Nat) (l:List (List UInt8)) (a:Nat),∀e∈(a1J k l a).1,a0H e=true/\okF e
 |0,l,a=>by simp [a1J]
 |k+1,l,a=>by
  unfold a1J
  split
  ·simp
  ·split
   ·rename_i h
    intro e he
    rcases List.mem_cons.1 he with rfl|he
    ·exact b1C h
    ·exact b55 k _ _ e he
   ·simp
theorem a94 (d:a0l):∀e∈(a2C d).1,a0H e=true/\okF e:=by
 unfold a2C
 split
 ·exact b55 _ _ _
 ·simp
theorem a8g {e:a0k} (h:a0H e=true) (hf:okF e):e.op.text.length<1000000/\e.op.gone.length<1000000:=by
 cases hj:e.join
 ·have:=hf.op hj
  exact ⟨this.text,this.len⟩
 ·rw [a0H,if_pos hj,a4y] at h
  simp only [Bool.and_eq_true,decide_eq_true_eq] at h
  rw [h.2];simp [a0V]
def a4I:a0r->Nat->List a0k->a0r×Nat
 |r,a,[]=>(r,a)
 |r,a,x::l=>if (a1y r x).2=true then a4I (a1y r x).1 (a+(a0j x).1.length/32) l else (r,a)
def a3c:a0l:=⟨[],[]⟩
def a2t:a0r:=⟨a3c,[],[]⟩
def a2c (d:a0l):a0r×Nat:=a4I a2t 0 (a2C d).1
def inR (r:a0r) (n:Nat):Prop:=r.disk=a3c/\r.ops.length<=n/\r.ends.length<=n/\∀o∈r.ops,okO o
theorem b9P {r:a0r} {x:a0k} {n:Nat} (h:inR r n) (hx:okO x.op):inR (a1y r x).1 (n+1):=by
 obtain ⟨h1,h2,h3,h4⟩:=h
 have base:inR r (n+1):=⟨h1,by omega,by omega,h4⟩
 unfold a1y
 split
 ·split
  ·exact base
  ·exact ⟨h1,by simp;omega,by simp;omega,h4⟩
 ·split
  ·exact base
  ·refine ⟨h1,by simp;omega,by simp;omega,fun o ho=>?_⟩
   rcases List.mem_append.1 ho with ho|ho
   ·exact h4 o ho
   ·rw [List.mem_singleton.1 ho];exact hx
def b3R:List AV->Option (Prop×AV):=t1 (fun d:a0l=>d.safe.length<1000000/\d.wait.length<1000000) fun d:a0l=>a8I (a2C d)
@[simp] theorem d7E {l:List AV}:b3R l=(t1 (fun d:a0l=>d.safe.length<1000000/\d.wait.length<1000000) fun d:a0l=>a8I (a2C d)) l:=(rfl)
def b3S:List AV->Option (Prop×AV):=t1 (fun e=>e.op.text.length<1000000/\e.op.gone.length<1000000) fun e:a0k=>a2D e
@[simp] theorem d7F {l:List AV}:b3S l=(t1 (fun e=>e.op.text.length<1000000/\e.op.gone.length<1000000) fun e:a0k=>a2D e) l:=(rfl)
def FW0:CT:=(130,.pu b3R)::(131,.pu b3S)::[]
theorem c8n:a1k Tryz.prog FW0:=⟨a0n fun d h=>c3T d h.1 h.2,
 a0n fun e h=>a7C e h.1 h.2,trivial⟩
@[simp] theorem d2N:a0b FW0 130=some (.pu b3R):=(rfl)
@[simp] theorem d2O:a0b FW0 131=some (.pu b3S):=(rfl)
@[simp] theorem e2J {n:Nat} (h:(n==130||n==131)=false):a0b FW0 n=a0b ([]:CT) n:=by
 simp only [Bool.or_eq_false_iff,beq_eq_false_iff_ne,ne_eq] at h
 simp [FW0,a0b,h]
theorem c4i (d:a0l) (h1:d.safe.length<1000000) (h2:d.wait.length<1000000):PEv Tryz.prog 75 [Arg.enc d] (.t [(true,a0u .old (a2c d).1),(false,[.raw (.int .i64 (a2c d).2)])]):=by
 refine a3G mixed c8n Tryz.func75 f6m f6n (by kernel_rfl) (by simp [a0u]) (by simp) ?_
 generalize hR:a2c d=R
 unfold a2c at hR
 have hs:=(a6Y d).1
 have hm:=a94 d
 simp [s75,h1,h2,a8I]
 generalize (a2C d).1=l at *
 refine vl (fun p:Nat×a0r×Nat=>p.1<=l.length/\a4I p.2.1 p.2.2 (l.drop p.1)=R/\inR p.2.1 p.1/\p.2.2<=25*p.1)
  (fun p=>mkS [(2,.c (.pt (1,1) 0 0)),(3,iv p.2.2),(19,.c (.sl .old false (a0a l))),(20,iv l.length),(21,iv p.1)] [.var (1,1) 29 (a0u .old p.2.1)]) (fun p=>l.length-p.1) (0,a2t,0) ?_ (a0c rfl ?_) ?_
 ·exact ⟨by simp,by simpa using hR,⟨rfl,by simp [a2t],by simp [a2t],by simp [a2t]⟩,by simp⟩
 ·simp [a0u,a2t,a3c]
 rintro ⟨i,r,a⟩ ⟨hi,hx,hin,ha⟩ J hJ
 simp only at hi hx hin ha
 by_cases hlt:i<l.length
 ·have hw:IntKind.wrap .i64 ((i:Int)+1)=((i+1:Nat):Int):=by rw [a0d]<;>omega
  obtain ⟨em,ef⟩:=hm l[i] (List.getElem_mem hlt)
  obtain ⟨e1,e2⟩:=a8g em ef
  have eo:okO l[i].op:=⟨by omega,by omega⟩
  have er:b1t r:=⟨by simp [hin.1,a3c],by simp [hin.1,a3c],by have:=hin.2.1;omega,by have:=hin.2.2.1;omega,hin.2.2.2⟩
  have hn:=b9P hin eo
  rw [List.drop_eq_getElem_cons hlt,a4I] at hx
  simp [c2T,hlt,a0u,a0q,a0f]
  refine a1f (args':=[.g (a0u .brw r),.g (a0q .brw l[i])]) ?_ (b9J r l[i] er eo) (by simp [a0u]) (by simp [a0u]) ?_
  ·simp [a0u,a0q,a0f]
  have hfl:=a4i l[i]
  generalize a1y r l[i]=G at hx hn ⊢
  obtain ⟨r',b⟩:=G
  cases b
  ·simp at hx
   subst hx
   simp [c2T,a0u]
   refine a0A (mkS [(2,.c (.pt (1,1) 0 0)),(3,iv a)] [.var (1,1) 29 (a0u .old r)]) (a0c rfl ?_) ?_<;>simp [a0u]
  ·simp only [if_true] at hx hn
   have hb:a2D l[i]=.t [(false,[.str (a0j l[i]).1]),(false,[.raw (.int .i64 (a0j l[i]).2)])]:=by rw [a2D,if_pos em];rfl
   generalize a0j l[i]=fr at hb hfl hx
   obtain ⟨q,hq⟩:∃q,fr.1.length/32=q:=⟨_,rfl⟩
   rw [hq] at hx
   have d1:((fr.1.length:Int)).tdiv 32=(q:Int):=by rw [Int.tdiv_eq_ediv_of_nonneg (by omega)];omega
   have w1:IntKind.wrap .i64 (q:Int)=q:=by rw [a0d]<;>omega
   have w2:IntKind.wrap .i64 ((a:Int)+q)=((a+q:Nat):Int):=by rw [a0d]<;>omega
   simp [c2T,a0u,hb,e1,e2,d1,w1,w2,hw]
   refine hJ (i+1,r',a+q) ⟨by simp;omega,by simpa using hx,hn,by simp;omega⟩ (by simp;omega) _ (a0c rfl ?_)
   simp [a0u]
 ·obtain rfl:i=l.length:=by omega
  simp [a4I] at hx
  subst hx
  simp [c2T,a0u]
  refine a0A (mkS [(2,.c (.pt (1,1) 0 0)),(3,iv a)] [.var (1,1) 29 (a0u .old r)]) (a0c rfl ?_) ?_<;>simp [a0u]
open Go Go.Proofs
theorem c4j (l:List Int) (hl:l.length<1000000):PEv Tryz.prog 104 [Arg.enc l] (.c (.nw 3 1 (a0a l))):=by
 refine a0e mixed (F:=[]) trivial Tryz.func104 e64 e65 (by kernel_rfl) (by simp) (by simp) ?_
 simp [e63]
 omega
theorem c4k (l:List a0B) (hl:l.length<1000000):PEv Tryz.prog 159 [Arg.enc l] (.c (.sl .old false (a0a l))):=by
 refine PEv.frz (ret:=.c (.nw 50 3 (a0a l))) .old (by simp) ?_
 refine a0e mixed (F:=[]) trivial Tryz.func159 e8r e8s (by kernel_rfl) (by simp) (by simp) ?_
 simp [e8q]
 omega
theorem c4l (l:List OpV) (hl:l.length<1000000):PEv Tryz.prog 158 [Arg.enc l] (.c (.nw 53 11 (a0a l))):=by
 refine a0e mixed (F:=[]) trivial Tryz.func158 e8o e8p (by kernel_rfl) (by simp) (by simp) ?_
 simp [e8n]
 omega
def b3T:List AV->Option (Prop×AV):=t1 (fun l=>l.length<1000000) fun l:List Int=>.c (.nw 3 1 (a0a l))
@[simp] theorem d7G {l:List AV}:b3T l=(t1 (fun l=>l.length<1000000) fun l:List Int=>.c (.nw 3 1 (a0a l))) l:=(rfl)
def b3U:List AV->Option (Prop×AV):=t1 (fun l=>l.length<1000000) fun l:List a0B=>.c (.sl .old false (a0a l))
@[simp] theorem d7H {l:List AV}:b3U l=(t1 (fun l=>l.length<1000000) fun l:List a0B=>.c (.sl .old false (a0a l))) l:=(rfl)
def b3V:List AV->Option (Prop×AV):=t1 (fun l=>l.length<1000000) fun l:List OpV=>.c (.nw 53 11 (a0a l))
@[simp] theorem d7I {l:List AV}:b3V l=(t1 (fun l=>l.length<1000000) fun l:List OpV=>.c (.nw 53 11 (a0a l))) l:=(rfl)
def b7K:List AV->Option (Prop×AV):=t1 (fun d:a0l=>d.safe.length<1000000/\d.wait.length<1000000) fun d:a0l=>bv (a2d d)
@[simp] theorem e2K {l:List AV}:b7K l=(t1 (fun d:a0l=>d.safe.length<1000000/\d.wait.length<1000000) fun d:a0l=>bv (a2d d)) l:=(rfl)
def b7L:List AV->Option (Prop×AV):=t1 (fun d:a0l=>d.safe.length<1000000/\d.wait.length<1000000) fun d:a0l=>.g (a0z d)
@[simp] theorem e2L {l:List AV}:b7L l=(t1 (fun d:a0l=>d.safe.length<1000000/\d.wait.length<1000000) fun d:a0l=>.g (a0z d)) l:=(rfl)
def b7M:List AV->Option (Prop×AV):=t0 (.c (.str blank))
@[simp] theorem e2M {l:List AV}:b7M l=(t0 (.c (.str blank))) l:=(rfl)
def b7N:List AV->Option (Prop×AV):=t1 (fun d:a0l=>d.safe.length<1000000/\d.wait.length<1000000) fun d:a0l=>.t [(true,a0u .old (a2c d).1),(false,[.raw (.int .i64 (a2c d).2)])]
@[simp] theorem e2N {l:List AV}:b7N l=(t1 (fun d:a0l=>d.safe.length<1000000/\d.wait.length<1000000) fun d:a0l=>.t [(true,a0u .old (a2c d).1),(false,[.raw (.int .i64 (a2c d).2)])]) l:=(rfl)
def FW1:CT:=(104,.pu b3T)::(159,.pu b3U)::(158,.pu b3V)::(74,.pu b7K)::(84,.pu b7L)::(82,.pu b7M)::(75,.pu b7N)::FW0
theorem c4m:a1k Tryz.prog FW1:=⟨a0n fun l h=>c4j l h,
 a0n fun l h=>c4k l h,
 a0n fun l h=>c4l l h,
 a0n fun d h=>c3C d h.1 h.2,
 a0n fun d h=>b2n d h.1 h.2,
 b5s a74,
 a0n fun d h=>c4i d h.1 h.2,c8n⟩
@[simp] theorem d2P:a0b FW1 104=some (.pu b3T):=(rfl)
@[simp] theorem d2Q:a0b FW1 159=some (.pu b3U):=(rfl)
@[simp] theorem d2R:a0b FW1 158=some (.pu b3V):=(rfl)
@[simp] theorem d7J:a0b FW1 74=some (.pu b7K):=(rfl)
@[simp] theorem d7K:a0b FW1 84=some (.pu b7L):=(rfl)
@[simp] theorem d7L:a0b FW1 82=some (.pu b7M):=(rfl)
@[simp] theorem d7M:a0b FW1 75=some (.pu b7N):=(rfl)
@[simp] theorem e2O {n:Nat} (h:(n==104||n==159||n==158||n==74||n==84||n==82||n==75)=false):a0b FW1 n=a0b FW0 n:=by
 simp only [Bool.or_eq_false_iff,beq_eq_false_iff_ne,ne_eq] at h
 simp [FW1,a0b,h]
theorem d0m {α:Type} (l:List α) (i:Nat) (h:i<l.length):l.set i l[i]=l:=by simp
theorem c4n (l:List OpV) (hl:l.length<1000000) (hg:∀o∈l,o.gone.length<1000000):PEv Tryz.prog 103 [Arg.enc l] (.c (.nw 53 11 (a0a l))):=by
 refine a0e mixed c4m Tryz.func103 e61 e62 (by kernel_rfl) (by simp) (by simp) ?_
 simp [e60,hl]
 refine vl (fun i:Nat=>i<=l.length) (fun i=>mkS [(0,.c (.so (1,0) 0 l.length)),(7,iv l.length),(8,iv i)] [.rows (1,0) 53 11 (a0a l)]) (fun i=>l.length-i) 0 (by simp) (a0c rfl ?_) ?_
 ·simp
 rintro i hi J hJ
 by_cases hlt:i<l.length
 ·have hw:IntKind.wrap .i64 ((i:Int)+1)=((i+1:Nat):Int):=by rw [a0d]<;>omega
  have hs:(a0a l).set i (a0f .old l[i])=a0a l:=by
   have:a0f .old l[i]=(a0a l)[i]'(by simpa using hlt):=by simp [a0a]
   rw [this];exact d0m _ _ _
  have hgi:=hg _ (List.getElem_mem hlt)
  simp only [a0f] at hs
  simp [c2Z,hlt,a0f,hw,hgi,hs]
  refine hJ (i+1) (by omega) (by omega) _ (a0c rfl ?_)
  simp
 ·obtain rfl:i=l.length:=by omega
  simp [c2Z]
theorem c4o (a b:List Int) (ha:a.length<4611686018427387904):PEv Tryz.prog 132 [Arg.enc a,Arg.enc b] (bv (decide (a=b))):=by
 refine a0e mixed (F:=[]) trivial Tryz.func132 e7G e7H (by kernel_rfl) (by simp) (by simp) ?_
 simp [e7F]
 refine ⟨fun h e=>h (by rw [e]),fun hl=>?_⟩
 have hl:a.length=b.length:=by omega
 refine vl (fun i:Nat=>i<=a.length/\a.take i=b.take i) (fun i=>mkS [(0,.c (.sl .brw false (a0a a))),(1,.c (.sl .brw false (a0a b))),(12,iv a.length),(13,iv i)] []) (fun i=>a.length-i) 0 (by simp) (a0c rfl ?_) ?_
 ·simp
 rintro i ⟨hi,hp⟩ J hJ
 by_cases hlt:i<a.length
 ·have hb:i<b.length:=by omega
  have hw:IntKind.wrap .i64 ((i:Int)+1)=((i+1:Nat):Int):=by rw [a0d]<;>omega
  simp [c22,hlt,hb,hw]
  refine ⟨?_,fun e=>hJ (i+1) ⟨by omega,a5K hp hlt hb e⟩ (by omega) _ (a0c rfl ?_)⟩
  ·intro hne e
   subst e
   simp at hne
  ·simp
 ·obtain rfl:i=a.length:=by omega
  simp [c22]
  rw [List.take_length,hl,List.take_length] at hp
  exact hp
theorem c60 (a b:List OpV) (ha:a.length<1000000) (hg:∀o∈a,okO o):PEv Tryz.prog 133 [Arg.enc a,Arg.enc b,.c (.fn 134 [])] (bv (decide (a=b))):=by
 refine a0e mixed b9y Tryz.func133 e7J e7K (by kernel_rfl) (by simp) (by simp) ?_
 simp [e7I]
 refine ⟨fun h e=>h (by rw [e]),fun hl=>?_⟩
 have hl:a.length=b.length:=by omega
 refine vl (fun i:Nat=>i<=a.length/\a.take i=b.take i) (fun i=>mkS [(1,.c (.sl .brw false (a0a b))),(2,.c (.fn 134 [])),(15,.c (.sl .brw false (a0a a))),(16,iv a.length),(17,iv i)] []) (fun i=>a.length-i) 0 (by simp) (a0c rfl ?_) ?_
 ·simp
 rintro i ⟨hi,hp⟩ J hJ
 by_cases hlt:i<a.length
 ·have hb:i<b.length:=by omega
  have hw:IntKind.wrap .i64 ((i:Int)+1)=((i+1:Nat):Int):=by rw [a0d]<;>omega
  have hgi:=(hg _ (List.getElem_mem hlt)).2
  simp [c23,hlt,hb,hw,a0f,hgi,a4y]
  refine ⟨?_,fun e=>hJ (i+1) ⟨by omega,a5K hp hlt hb e⟩ (by omega) _ (a0c rfl ?_)⟩
  ·intro hne e
   subst e
   simp at hne
  ·simp
 ·obtain rfl:i=a.length:=by omega
  simp [c23]
  rw [List.take_length,hl,List.take_length] at hp
  exact hp
theorem c61 (s:List UInt8):PEv Tryz.prog 135 [.c (.str s)] (bv (!decide (s=blank))):=by
 refine a0e mixed c4m Tryz.func135 e6v e6w (by kernel_rfl) (by simp) (by simp) ?_
 simp [e6u]
instance f3b:Arg a0r where
 enc r:=.g (a0u .brw r)
 dec|.g [.sl .brw false a,.sl .brw false b,.sl .brw false c,.sl .brw false d]=>(match a3T a,a3T b,a3T c,a3T d with|some a,some b,some c,some d=>some ⟨⟨a,b⟩,c,d⟩|_,_,_,_=>none)|_=>none
 a1j {x d} h:=by
  split at h
  ·split at h
   ·rename_i h1 h2 h3 h4
    cases h
    rw [a0K h1,a0K h2,a0K h3,a0K h4]
    rfl
   ·cases h
  ·cases h
@[simp] theorem d0n (r:a0r):Arg.enc r=.g (a0u .brw r):=rfl
@[simp] theorem d0o (a:List (List UInt8)) (b:List a4o) (c:List OpV) (d:List Int):Arg.dec (.g [.sl .brw false (a0a a),.sl .brw false (a0a b),.sl .brw false (a0a c),.sl .brw false (a0a d)])=some (a0r.mk ⟨a,b⟩ c d):=by
 show (match a3T (a0a a),a3T (a0a b),a3T (a0a c),a3T (a0a d) with|some a,some b,some c,some d=>some (a0r.mk ⟨a,b⟩ c d)|_,_,_,_=>none)=_
 simp
def b3W:List AV->Option (Prop×AV):=t2 (fun a _=>a.length<4611686018427387904) fun a b:List Int=>bv (decide (a=b))
@[simp] theorem d7N {l:List AV}:b3W l=(t2 (fun a _=>a.length<4611686018427387904) fun a b:List Int=>bv (decide (a=b))) l:=(rfl)
def b3X:List AV->Option (Prop×AV):=t1 (fun l=>l.length<1000000/\∀o∈l,o.gone.length<1000000) fun l:List OpV=>.c (.nw 53 11 (a0a l))
@[simp] theorem d7O {l:List AV}:b3X l=(t1 (fun l=>l.length<1000000/\∀o∈l,o.gone.length<1000000) fun l:List OpV=>.c (.nw 53 11 (a0a l))) l:=(rfl)
def FW2:CT:=(132,.pu b3W)::(103,.pu b3X)::FW1
theorem c8o:a1k Tryz.prog FW2:=⟨a0R fun a b h=>c4o a b h,
 a0n fun l h=>c4n l h.1 h.2,c4m⟩
@[simp] theorem d2S:a0b FW2 132=some (.pu b3W):=(rfl)
@[simp] theorem d2T:a0b FW2 103=some (.pu b3X):=(rfl)
@[simp] theorem e2P {n:Nat} (h:(n==132||n==103)=false):a0b FW2 n=a0b FW1 n:=by
 simp only [Bool.or_eq_false_iff,beq_eq_false_iff_ne,ne_eq] at h
 simp [FW2,a0b,h]
def a1P (r:a0r):Bool:=a2d r.disk&&decide (r.disk.wait=[])&&decide ((a2c r.disk).1.ends=r.ends)&&decide ((a2c r.disk).1.ops=r.ops)&&!((r.disk.safe.drop (a2c r.disk).2).any fun s=>!decide (s=blank))
open Go Go.Proofs
theorem b56 {s:List UInt8} (h:(a0P s).2.2=true):(a0j (a0P s).1).1.length/32=(a0P s).2.1:=by
 unfold a0P at h ⊢
 cases hq:a2L s with
 |none=>simp [hq] at h
 |some q=>
  obtain ⟨t,r⟩:=q
  simp only [hq] at h ⊢
  split
  ·rfl
  ·rename_i hr
   rw [if_neg hr] at h
   cases h
theorem b57 {l:List (List UInt8)} (h:secs l) (n:Nat):secs (l.drop n):=fun x hx=>h x (List.mem_of_mem_drop hx)
theorem b3Y:∀(k:Nat) (l:List (List UInt8)) (a:Nat) (r:a0r),secs l->(a1J k l a).2<=a+l.length/\(a4I r a (a1J k l a).1).2<=(a1J k l a).2
 |0,l,a,r,h=>by simp [a1J,a4I]
 |k+1,l,a,r,h=>by
  unfold a1J
  split
  ·simp [a4I]
  ·split
   ·rename_i hne hf
    obtain ⟨n1,n2,n3⟩:=a7A hf
    have hz:=b56 hf
    rw [a4Z fun x hx=>h x (List.mem_of_mem_take hx),List.length_take] at n2
    generalize a0P (l.take 23).flatten=q at *
    obtain ⟨i1,i2⟩:=b3Y k (l.drop q.2.1) (a+q.2.1) (a1y r q.1).1 (b57 h _)
    simp only [List.length_drop] at i1
    refine ⟨by simp only;omega,?_⟩
    simp only [a4I]
    rw [hz]
    split
    ·exact i2
    ·have:=(b3Y k (l.drop q.2.1) (a+q.2.1) r (b57 h _)).2
     have base:∀(k:Nat) (l:List (List UInt8)) (a:Nat),a<=(a1J k l a).2:=fun k=>by
      induction k with
      |zero=>intro l a;simp [a1J]
      |succ k ih=>
       intro l a
       unfold a1J
       split
       ·simp
       ·split
        ·exact Nat.le_trans (Nat.le_add_right _ _) (ih _ _)
        ·simp
     exact Nat.le_trans (Nat.le_add_right _ _) (base _ _ _)
   ·simp [a4I]
theorem b9Q:∀(l:List a0k) (r:a0r) (a n:Nat),inR r n->(∀x∈l,okO x.op)->inR (a4I r a l).1 (n+l.length)
 |[],r,a,n,h,_=>h
 |x::l,r,a,n,h,hx=>by
  unfold a4I
  split
  ·have:=b9Q l (a1y r x).1 (a+(a0j x).1.length/32) (n+1) (b9P h (hx x (by simp))) fun y hy=>hx y (by simp [hy])
   rw [List.length_cons,show n+(l.length+1)=n+1+l.length by omega]
   exact this
  ·obtain ⟨h1,h2,h3,h4⟩:=h
   exact ⟨h1,by simp;omega,by simp;omega,h4⟩
theorem b3Z (d:a0l):inR (a2c d).1 d.safe.length:=by
 have h:=b9Q (a2C d).1 a2t 0 0 ⟨rfl,by simp [a2t],by simp [a2t],by simp [a2t]⟩ fun x hx=>by
  obtain ⟨h1,h2⟩:=a94 d x hx
  obtain ⟨e1,e2⟩:=a8g h1 h2
  exact ⟨by omega,by omega⟩
 have hl:=(a6Y d).1
 obtain ⟨h1,h2,h3,h4⟩:=h
 exact ⟨h1,by unfold a2c;omega,by unfold a2c;omega,h4⟩
theorem b9R (d:a0l):(a2c d).2<=d.safe.length:=by
 unfold a2c a2C
 split
 ·rename_i h
  have:=b3Y d.safe.length d.safe 0 a2t (a1Y h).1
  simp only
  omega
 ·simp [a4I]
theorem d0p (r:a0r) (h:b1t r):PEv Tryz.prog 77 [Arg.enc r] (bv (a1P r)):=by
 obtain ⟨⟨sf,wt⟩,ops,ends⟩:=r
 obtain ⟨h1,h2,h3,h4,h5⟩:=h
 simp only at h1 h2 h3 h4 h5
 refine a0e mixed c8o Tryz.func77 f6o f6p (by kernel_rfl) (by simp) (by simp [a0u]) ?_
 generalize hB:a1P ⟨⟨sf,wt⟩,ops,ends⟩=B
 unfold a1P at hB
 simp only at hB
 cases c1:a2d ⟨sf,wt⟩
 ·obtain rfl:B=false:=by rw [<-hB,c1];rfl
  simp [s77,a0u,c1,h1,h2]
 by_cases c2:wt=[]
 rotate_left
 ·obtain rfl:B=false:=by rw [<-hB];simp [c2]
  simp [s77,a0u,c1,c2,h1,h2]
 subst c2
 obtain ⟨hin1,hin2,f3u,f1u⟩:=b3Z ⟨sf,[]⟩
 have hat:=b9R ⟨sf,[]⟩
 rcases hT:a2c ⟨sf,[]⟩ with ⟨x,at_⟩
 rw [hT] at hin1 hin2 f3u f1u hat hB
 simp only at hin1 hin2 f3u f1u hat hB
 have h6:x.ends.length<4611686018427387904:=by omega
 rw [c1] at hB
 simp only [decide_true,Bool.true_and] at hB
 cases c3:decide (x.ends=ends)
 ·obtain rfl:B=false:=by rw [<-hB,c3];rfl
  simp [s77,a0u,c1,c3,h1,h2,hT,h6]
 rw [c3,Bool.true_and] at hB
 simp [s77,a0u,c1,c3,h1,h2,hT,h6]
 refine a0T (c60 x.ops ops (by omega) f1u) (by simp) (by simp) (by simp) ?_
 cases c4:decide (x.ops=ops)
 ·obtain rfl:B=false:=by rw [<-hB,c4];rfl
  simp [c4]
 rw [c4,Bool.true_and] at hB
 simp [c4,hat]
 refine a0T (a7u 135 [] (fun s=>!decide (s=blank)) (sf.drop at_) (by simp;omega) (by simp) rfl rfl fun s _=>c61 s) ?_ (by simp) (by simp) ?_
 ·simp [a0a]
 rw [<-hB]
 simp
open Go Go.Proofs
theorem d0q (l:List Int) (n:Int) (hl:l.length<4611686018427387904):PEv Tryz.prog 66 [Arg.enc l,Arg.enc n] (iv (idxOf (fun x=>decide (x=n)) 0 l)):=by
 refine a0e mixed (F:=[]) trivial Tryz.func66 f6Q f6R (by kernel_rfl) (by simp) (by simp) ?_
 simp [s66]
 refine vl (fun i:Nat=>i<=l.length/\idxOf (fun x=>decide (x=n)) i (l.drop i)=idxOf (fun x=>decide (x=n)) 0 l)
  (fun i=>mkS [(0,.c (.sl .brw false (a0a l))),(1,iv n),(5,iv i)] []) (fun i=>l.length-i) 0 (by simp) (a0c rfl ?_) ?_
 ·simp
 rintro i ⟨hi,hx⟩ J hJ
 by_cases hlt:i<l.length
 ·have hw:IntKind.wrap .i64 ((i:Int)+1)=((i+1:Nat):Int):=by rw [a0d]<;>omega
  rw [List.drop_eq_getElem_cons hlt,idxOf] at hx
  simp [c9I,hlt,hw]
  refine ⟨fun e=>by rw [<-hx,if_pos (by simp [e])],fun e=>hJ (i+1) ⟨by omega,by rw [<-hx,if_neg (by simp [e])]⟩ (by omega) _ (a0c rfl ?_)⟩
  simp
 ·simp [c9I,hlt]
  rw [<-hx,List.drop_eq_nil_of_le (by omega)]
  rfl
theorem b58 (a b:List Int) (ha:a.length<4611686018427387904):PEv Tryz.prog 50 [Arg.enc a,Arg.enc b] (bv (decide (a=b))):=by
 refine a0e mixed (F:=[]) trivial Tryz.func50 f6J f6K (by kernel_rfl) (by simp) (by simp) ?_
 simp [s50]
 refine ⟨fun h e=>h (by rw [e]),fun hl=>?_⟩
 have hl:a.length=b.length:=by omega
 refine vl (fun i:Nat=>i<=a.length/\a.take i=b.take i) (fun i=>mkS [(0,.c (.sl .brw false (a0a a))),(1,.c (.sl .brw false (a0a b))),(5,iv i)] []) (fun i=>a.length-i) 0 (by simp) (a0c rfl ?_) ?_
 ·simp
 rintro i ⟨hi,hp⟩ J hJ
 by_cases hlt:i<a.length
 ·have hb:i<b.length:=by omega
  have hw:IntKind.wrap .i64 ((i:Int)+1)=((i+1:Nat):Int):=by rw [a0d]<;>omega
  simp [c9F,hlt,hb,hw]
  refine ⟨?_,fun e=>hJ (i+1) ⟨by omega,a5K hp hlt hb e⟩ (by omega) _ (a0c rfl ?_)⟩
  ·intro hne e
   subst e
   simp at hne
  ·simp
 ·obtain rfl:i=a.length:=by omega
  simp [c9F]
  rw [List.take_length,hl,List.take_length] at hp
  exact hp
def b7O:List AV->Option (Prop×AV):=t2 (fun a _=>a.gone.length<4611686018427387904) fun a b:OpV=>bv (decide (a=b))
@[simp] theorem e2Q {l:List AV}:b7O l=(t2 (fun a _=>a.gone.length<4611686018427387904) fun a b:OpV=>bv (decide (a=b))) l:=(rfl)
def b30:List AV->Option (Prop×AV):=t1 (fun o=>o.gone.length<1000000) fun o:OpV=>.g (a0f .old o)
@[simp] theorem d7P {l:List AV}:b30 l=(t1 (fun o=>o.gone.length<1000000) fun o:OpV=>.g (a0f .old o)) l:=(rfl)
def b7P:List AV->Option (Prop×AV):=t2 (fun a _=>a.safe.length<4611686018427387904/\a.wait.length<4611686018427387904) fun a b:a0l=>bv (decide (a=b))
@[simp] theorem e2R {l:List AV}:b7P l=(t2 (fun a _=>a.safe.length<4611686018427387904/\a.wait.length<4611686018427387904) fun a b:a0l=>bv (decide (a=b))) l:=(rfl)
def b7Q:List AV->Option (Prop×AV):=t1 (fun d:a0l=>d.safe.length<1000000/\d.wait.length<1000000) fun d:a0l=>.g (a0z d)
@[simp] theorem e2S {l:List AV}:b7Q l=(t1 (fun d:a0l=>d.safe.length<1000000/\d.wait.length<1000000) fun d:a0l=>.g (a0z d)) l:=(rfl)
def b7R:List AV->Option (Prop×AV):=t1 (fun l=>l.length<1000000) fun l:List Int=>.c (.nw 3 1 (a0a l))
@[simp] theorem e2T {l:List AV}:b7R l=(t1 (fun l=>l.length<1000000) fun l:List Int=>.c (.nw 3 1 (a0a l))) l:=(rfl)
def b7S:List AV->Option (Prop×AV):=t2 (fun a _=>a.length<4611686018427387904) fun a b:List Int=>bv (decide (a=b))
@[simp] theorem e2U {l:List AV}:b7S l=(t2 (fun a _=>a.length<4611686018427387904) fun a b:List Int=>bv (decide (a=b))) l:=(rfl)
def d0r:List AV->Option (Prop×AV):=t2 (fun l _=>l.length<4611686018427387904) fun (l:List Int) (n:Int)=>iv (idxOf (fun x=>decide (x=n)) 0 l)
def FW3:CT:=(24,.pu b7O)::(101,.pu b30)::(62,.pu b7P)::(34,.pu b7Q)::(52,.pu b7R)::(50,.pu b7S)::(66,.pu d0r)::FW2
theorem c4p:a1k Tryz.prog FW3:=⟨a0R fun a b h=>(by rw [show bv (decide (a=b))=bv (a2B a b) by rw [a4y]];exact b7s a b h),
 a0n fun o h=>a8f o h,
 a0R fun a b h=>b5u a b h.1 h.2,
 a0n fun d h=>a9D d h.1 h.2,
 a0n fun l h=>a6x (F:=[]) trivial l h,
 a0R fun a b h=>b58 a b h,
 a0R fun l n h=>d0q l n h,c8o⟩
@[simp] theorem d7Q:a0b FW3 24=some (.pu b7O):=(rfl)
@[simp] theorem d2U:a0b FW3 101=some (.pu b30):=(rfl)
@[simp] theorem d7R:a0b FW3 62=some (.pu b7P):=(rfl)
@[simp] theorem d7S:a0b FW3 34=some (.pu b7Q):=(rfl)
@[simp] theorem d7T:a0b FW3 52=some (.pu b7R):=(rfl)
@[simp] theorem d7U:a0b FW3 50=some (.pu b7S):=(rfl)
@[simp] theorem e2V {n:Nat} (h:(n==24||n==101||n==62||n==34||n==52||n==50||n==66)=false):a0b FW3 n=a0b FW2 n:=by
 simp only [Bool.or_eq_false_iff,beq_eq_false_iff_ne,ne_eq] at h
 simp [FW3,a0b,h]
theorem b31 (a b:List OpV) (ha:a.length<4611686018427387904) (hg:∀o∈a,o.gone.length<4611686018427387904):PEv Tryz.prog 20 [Arg.enc a,Arg.enc b] (bv (decide (a=b))):=by
 refine a0e mixed c4p Tryz.func20 f6s f6t (by kernel_rfl) (by simp) (by simp) ?_
 simp [s20]
 refine ⟨fun h e=>h (by rw [e]),fun hl=>?_⟩
 have hl:a.length=b.length:=by omega
 refine vl (fun i:Nat=>i<=a.length/\a.take i=b.take i) (fun i=>mkS [(0,.c (.sl .brw false (a0a a))),(1,.c (.sl .brw false (a0a b))),(5,iv i)] []) (fun i=>a.length-i) 0 (by simp) (a0c rfl ?_) ?_
 ·simp
 rintro i ⟨hi,hp⟩ J hJ
 by_cases hlt:i<a.length
 ·have hb:i<b.length:=by omega
  have hw:IntKind.wrap .i64 ((i:Int)+1)=((i+1:Nat):Int):=by rw [a0d]<;>omega
  have hgi:=hg _ (List.getElem_mem hlt)
  simp [c9D,hlt,hb,hw,a0f,hgi]
  refine ⟨?_,fun e=>hJ (i+1) ⟨by omega,a5K hp hlt hb e⟩ (by omega) _ (a0c rfl ?_)⟩
  ·intro hne e
   subst e
   simp at hne
  ·simp
 ·obtain rfl:i=a.length:=by omega
  simp [c9D]
  rw [List.take_length,hl,List.take_length] at hp
  exact hp
theorem b1D (l:List OpV) (hl:l.length<1000000) (hg:∀o∈l,o.gone.length<1000000):PEv Tryz.prog 51 [Arg.enc l] (.c (.nw 53 11 (a0a l))):=by
 refine a0e mixed c4p Tryz.func51 f6L f6M (by kernel_rfl) (by simp) (by simp) ?_
 simp [s51]
 refine vl (fun i:Nat=>i<=l.length) (fun i=>mkS [(0,.c (.sl .brw false (a0a l))),(3,.c (.so (1,0) 0 i)),(4,iv i)] [.rows (1,0) 53 11 (a0a (l.take i))]) (fun i=>l.length-i) 0 (by simp) (a0c rfl ?_) ?_
 ·simp
 rintro i hi J hJ
 by_cases hlt:i<l.length
 ·have hw:IntKind.wrap .i64 ((i:Int)+1)=((i+1:Nat):Int):=by rw [a0d]<;>omega
  have hgi:=hg _ (List.getElem_mem hlt)
  have hm:min i l.length=i:=by omega
  have ht:a0a (l.take (i+1))=a0a (l.take i)++[a0f .old l[i]]:=by rw [<-List.take_append_getElem hlt,a1g];rfl
  simp only [a0f] at ht
  have hc:a2I i (a0a (l.take i))=a0a (l.take i):=a4L (by simp;omega)
  simp [c9G,hlt,a0f,hw,hgi,hc,hm]
  refine ⟨⟨by omega,by omega⟩,hJ (i+1) (by omega) (by omega) _ (a0c rfl ?_)⟩
  simp [ht]
 ·obtain rfl:i=l.length:=by omega
  simp [c9G]
structure a1A where
 kind:Int
 site:Int
 a0N:Int
 known:Int
 seq:Int
 err:Int
 ops:List OpV
 deriving DecidableEq
def a0y (c:AC) (m:a1A):List AC:=[.raw (.int .i64 m.kind),.raw (.int .i64 m.site),.raw (.int .i64 m.a0N),.raw (.int .i64 m.known),.raw (.int .i64 m.seq),.raw (.int .i64 m.err),c]
def a0p (t:Tag) (m:a1A):List AC:=a0y (.sl t false (a0a m.ops)) m
instance f3c:Arg a1A where
 enc m:=.g (a0p .brw m)
 dec|.g [.raw (.int .i64 a),.raw (.int .i64 b),.raw (.int .i64 c),.raw (.int .i64 d),.raw (.int .i64 e),.raw (.int .i64 f),.sl .brw false l]=>(a3T l).map fun l=>⟨a,b,c,d,e,f,l⟩|_=>none
 a1j {x m} h:=by
  split at h
  ·rw [Option.map_eq_some_iff] at h
   obtain ⟨l,hl,rfl⟩:=h
   rw [a0K hl]
   rfl
  ·cases h
@[simp] theorem a1Z (m:a1A):Arg.enc m=.g (a0p .brw m):=rfl
@[simp] theorem d0s (a b c d e f:Int) (l:List OpV):Arg.dec (.g [.raw (.int .i64 a),.raw (.int .i64 b),.raw (.int .i64 c),.raw (.int .i64 d),.raw (.int .i64 e),.raw (.int .i64 f),.sl .brw false (a0a l)])=some (a1A.mk a b c d e f l):=by
 show (a3T (a0a l)).map _=_
 simp
def b7T:List AV->Option (Prop×AV):=t2 (fun a _=>a.length<4611686018427387904/\∀o∈a,o.gone.length<4611686018427387904) fun a b:List OpV=>bv (decide (a=b))
@[simp] theorem e2W {l:List AV}:b7T l=(t2 (fun a _=>a.length<4611686018427387904/\∀o∈a,o.gone.length<4611686018427387904) fun a b:List OpV=>bv (decide (a=b))) l:=(rfl)
def b7U:List AV->Option (Prop×AV):=t1 (fun l=>l.length<1000000/\∀o∈l,o.gone.length<1000000) fun l:List OpV=>.c (.nw 53 11 (a0a l))
@[simp] theorem e2X {l:List AV}:b7U l=(t1 (fun l=>l.length<1000000/\∀o∈l,o.gone.length<1000000) fun l:List OpV=>.c (.nw 53 11 (a0a l))) l:=(rfl)
def FW4:CT:=(20,.pu b7T)::(51,.pu b7U)::FW3
theorem b1E:a1k Tryz.prog FW4:=⟨a0R fun a b h=>b31 a b h.1 h.2,
 a0n fun l h=>b1D l h.1 h.2,c4p⟩
@[simp] theorem d7V:a0b FW4 20=some (.pu b7T):=(rfl)
@[simp] theorem d7W:a0b FW4 51=some (.pu b7U):=(rfl)
@[simp] theorem e2Y {n:Nat} (h:(n==20||n==51)=false):a0b FW4 n=a0b FW3 n:=by
 simp only [Bool.or_eq_false_iff,beq_eq_false_iff_ne,ne_eq] at h
 simp [FW4,a0b,h]
def okM (m:a1A):Prop:=m.ops.length<1000000/\∀o∈m.ops,o.text.length<1000000/\o.gone.length<1000000
def c07 (r:a0r):List AC:=[.nw 9 1 (a0a r.disk.safe),.nw 125 2 (a0a r.disk.wait),.nw 53 11 (a0a r.ops),.nw 3 1 (a0a r.ends)]
def a8S (r:a0r):Prop:=r.disk.safe.length<1000000/\r.disk.wait.length<1000000/\r.ops.length<1000000/\r.ends.length<1000000/\∀o∈r.ops,o.text.length<1000000/\o.gone.length<1000000
theorem a8S.l {r:a0r} (h:a8S r):b1t r:=⟨h.1,h.2.1,h.2.2.1,h.2.2.2.1,fun o ho=>⟨Nat.lt_trans (h.2.2.2.2 o ho).1 (by omega),Nat.lt_trans (h.2.2.2.2 o ho).2 (by omega)⟩⟩
theorem c08 (r:a0r) (h:a8S r):PEv Tryz.prog 17 [Arg.enc r] (.g (c07 r)):=by
 obtain ⟨h1,h2,h3,h4,h5⟩:=h
 have hg:∀o∈r.ops,o.gone.length<1000000:=fun o ho=>(h5 o ho).2
 refine a0e mixed b1E Tryz.func17 f6q f6r (by kernel_rfl) (by simp [c07]) (by simp [a0u]) ?_
 simp [s17,a0u,c07,a0z,h1,h2,h3,h4]
 exact hg
theorem c62 (a b:a0r) (h:a8S a):PEv Tryz.prog 21 [Arg.enc a,Arg.enc b] (bv (decide (a=b))):=by
 obtain ⟨h1,h2,h3,h4,h5⟩:=h
 have h1':a.disk.safe.length<4611686018427387904:=by omega
 have h2':a.disk.wait.length<4611686018427387904:=by omega
 have h3':a.ops.length<4611686018427387904:=by omega
 have h4':a.ends.length<4611686018427387904:=by omega
 have hg:∀o∈a.ops,o.gone.length<4611686018427387904:=fun o ho=>Nat.lt_trans (h5 o ho).2 (by omega)
 refine a0e mixed b1E Tryz.func21 f6u f6v (by kernel_rfl) (by simp) (by simp [a0u]) ?_
 obtain ⟨⟨ay,aw⟩,ao,ae⟩:=a
 obtain ⟨⟨bs,bw⟩,bo,be⟩:=b
 simp only at h1' h2' h3' h4' hg
 simp [s21,a0u,h1',h2',h3',h4']
 by_cases e1:ay=bs<;>by_cases e2:aw=bw<;>by_cases e3:ao=bo<;>by_cases e4:ae=be<;>simp [e1,e2,e3,e4]<;>first|exact hg|(rw [<-e3];exact hg)
theorem d0t (r:a0r) (h:a8S r):PEv Tryz.prog 54 [Arg.enc r] (.g (c07 r)):=by
 obtain ⟨h1,h2,h3,h4,h5⟩:=h
 have hg:∀o∈r.ops,o.gone.length<1000000:=fun o ho=>(h5 o ho).2
 refine a0e mixed b1E Tryz.func54 f5Y f5Z (by kernel_rfl) (by simp [c07]) (by simp [a0u]) ?_
 simp [s54,a0u,c07,a0z,h1,h2,h3,h4]
 exact hg
open Go Go.Proofs
theorem b9S (a b:a1A) (h:okM a):PEv Tryz.prog 22 [Arg.enc a,Arg.enc b] (bv (decide (a=b))):=by
 have hg:∀o∈a.ops,o.gone.length<4611686018427387904:=fun o ho=>Nat.lt_trans (h.2 o ho).2 (by omega)
 have h3':a.ops.length<4611686018427387904:=Nat.lt_trans h.1 (by omega)
 refine a0e mixed b1E Tryz.func22 f6w f6x (by kernel_rfl) (by simp) (by simp [a0p,a0y]) ?_
 obtain ⟨a1,a2,a3,a4,a5,a6,a7⟩:=a
 obtain ⟨b1,b2,b3,b4,b5,b6,b7⟩:=b
 simp only at h3' hg
 simp [s22,a0p,a0y,h3']
 refine ⟨fun e1=>⟨fun e2=>⟨fun e3=>⟨fun e4=>⟨fun e5=>⟨fun e6=>⟨hg,by simp [e1,e2,e3,e4,e5,e6]⟩,fun n _ _ _ _ _ e=>(n e).elim⟩,fun n _ _ _ _ e=>(n e).elim⟩,fun n _ _ _ e=>(n e).elim⟩,fun n _ _ e=>(n e).elim⟩,fun n _ e=>(n e).elim⟩,fun n e=>(n e).elim⟩
def a3H (m:a1A) (e:Int):a1A:=⟨6,if m.kind=1 then 1 else m.site,0,0,if m.ops≠[]/\e≠3 then (m.ops.headD a0V).seq else 1,e,[]⟩
theorem d0u (m:a1A) (e:Int):PEv Tryz.prog 57 [Arg.enc m,Arg.enc e] (.g (a0p .old (a3H m e))):=by
 refine a3G mixed b1E Tryz.func57 f6e f6f (by kernel_rfl) (by simp [a0p,a0y]) (by simp [a0p,a0y]) ?_
 generalize hR:a3H m e=R
 obtain ⟨a1,a2,a3,a4,a5,a6,a7⟩:=m
 unfold a3H at hR
 simp only at hR
 cases c1:decide (a1=1)<;>cases c2:decide (e=3)<;>rcases a7 with _|⟨o,l⟩
 all_goals
  simp [s57,a0p,a0y,c1,c2,a4G,a0f]
  refine a0A (mkS [(4,.c (.pt (1,1) 0 0))] [.var (1,1) 38 (a0p .old R)]) (a0c rfl ?_) ?_<;>(first|have c1':=of_decide_eq_true c1|have c1':=of_decide_eq_false c1)<;>(first|have c2':=of_decide_eq_true c2|have c2':=of_decide_eq_false c2)<;>simp [<-hR,a0p,a0y,c1',c2']
def a14 (r:a0r) (n:Int):a1A:=⟨2,w64 (idxOf (fun x=>decide (n=x)) 0 r.ends+1),n,0,0,0,[]⟩
def b32:List AV->Option (Prop×AV):=t2 (fun l _=>l.length<4611686018427387904) fun (l:List Int) (n:Int)=>iv (idxOf (fun x=>decide (n=x)) 0 l)
@[simp] theorem d7X {l:List AV}:b32 l=(t2 (fun l _=>l.length<4611686018427387904) fun (l:List Int) (n:Int)=>iv (idxOf (fun x=>decide (n=x)) 0 l)) l:=(rfl)
def b33:List AV->Option (Prop×AV):=t2 (fun l _=>l.length<4611686018427387904) fun (l:List Int) (n:Int)=>bv (decide (n∈l))
@[simp] theorem d7Y {l:List AV}:b33 l=(t2 (fun l _=>l.length<4611686018427387904) fun (l:List Int) (n:Int)=>bv (decide (n∈l))) l:=(rfl)
def b34:List AV->Option (Prop×AV):=t1 (fun o=>o.text.length<9223372036854775807) fun o:OpV=>iv (a05 o.text)
@[simp] theorem d7Z {l:List AV}:b34 l=(t1 (fun o=>o.text.length<9223372036854775807) fun o:OpV=>iv (a05 o.text)) l:=(rfl)
def b35:List AV->Option (Prop×AV):=t1 (fun l=>l.length<1000000/\∀n∈l,okN n) fun l:List Int=>.c (.str (a1X l))
@[simp] theorem d8a {l:List AV}:b35 l=(t1 (fun l=>l.length<1000000/\∀n∈l,okN n) fun l:List Int=>.c (.str (a1X l))) l:=(rfl)
def b36:List AV->Option (Prop×AV):=t1 okP fun o:OpV=>.c (.str (a0Z o))
@[simp] theorem d8b {l:List AV}:b36 l=(t1 okP fun o:OpV=>.c (.str (a0Z o))) l:=(rfl)
def b37:List AV->Option (Prop×AV):=t1 (fun l=>l.length<4611686018427387904/\∀o∈l,okO o) fun l:List OpV=>bv (a04 l)
@[simp] theorem d8c {l:List AV}:b37 l=(t1 (fun l=>l.length<4611686018427387904/\∀o∈l,okO o) fun l:List OpV=>bv (a04 l)) l:=(rfl)
def b38:List AV->Option (Prop×AV):=t2 (fun l _=>l.length<1000000) fun (l:List OpV) (n:Int)=>iv (1+a1K n l)
@[simp] theorem d8d {l:List AV}:b38 l=(t2 (fun l _=>l.length<1000000) fun (l:List OpV) (n:Int)=>iv (1+a1K n l)) l:=(rfl)
def FW5:CT:=(112,.pu b32)::(105,.pu b33)::(162,.pu b34)::(167,.pu b35)::(168,.pu b36)::(110,.pu b37)::(160,.pu b38)::FW4
theorem b1F:a1k Tryz.prog FW5:=⟨a0R fun l n h=>b9H l n h,
 a0R fun l n h=>b9I l n h,
 a0n fun o h=>c3t o h,
 a0n fun l h=>b1g l h.1 h.2,
 a0n fun o h=>b9B o h,
 a0n fun l h=>b1s l h.1 h.2,
 a0R fun l n h=>c99 l n h,b1E⟩
@[simp] theorem d2V:a0b FW5 112=some (.pu b32):=(rfl)
@[simp] theorem d2W:a0b FW5 105=some (.pu b33):=(rfl)
@[simp] theorem d2X:a0b FW5 162=some (.pu b34):=(rfl)
@[simp] theorem d2Y:a0b FW5 167=some (.pu b35):=(rfl)
@[simp] theorem d2Z:a0b FW5 168=some (.pu b36):=(rfl)
@[simp] theorem d3a:a0b FW5 110=some (.pu b37):=(rfl)
@[simp] theorem d3b:a0b FW5 160=some (.pu b38):=(rfl)
@[simp] theorem e2Z {n:Nat} (h:(n==112||n==105||n==162||n==167||n==168||n==110||n==160)=false):a0b FW5 n=a0b FW4 n:=by
 simp only [Bool.or_eq_false_iff,beq_eq_false_iff_ne,ne_eq] at h
 simp [FW5,a0b,h]
theorem c09 (r:a0r) (n:Int) (h:b1t r):PEv Tryz.prog 60 [Arg.enc r,Arg.enc n] (.g (a0p .old (a14 r n))):=by
 have h4:r.ends.length<4611686018427387904:=Nat.lt_trans h.2.2.2.1 (by omega)
 refine a3G mixed b1F Tryz.func60 f6i f6j (by kernel_rfl) (by simp [a0p,a0y]) (by simp [a0u]) ?_
 simp [s60,a0u,a0p,a0y,h4]
 refine a0A (mkS [(4,.c (.pt (1,1) 0 0))] [.var (1,1) 38 (a0p .old (a14 r n))]) (a0c rfl ?_) ?_<;>simp [a0p,a0y,a14]
def a3Y:List OpV->Nat
 |[]=>0
 |o::r=>a05 o.text+a3Y r
theorem d8e (n:Int):PEv Tryz.prog 154 [Arg.enc n] (bv (decide (1<=n)&&decide (n<=268435456))):=by
 refine a0e mixed b1F Tryz.func154 e8e e8f (by kernel_rfl) (by simp) (by simp) ?_
 cases c1:decide (1<=n)<;>simp [e8d,c1]
theorem c63 (n:Int):PEv Tryz.prog 156 [Arg.enc n] (bv (decide (0<=n)&&decide (n<=40))):=by
 refine a0e mixed b1F Tryz.func156 e8j e8k (by kernel_rfl) (by simp) (by simp) ?_
 cases c1:decide (0<=n)<;>simp [e8i,c1]
def c5h (m:a1A):List UInt8:=a1X [m.kind,m.site,m.a0N,m.known,m.seq,m.err,(m.ops.length:Int)]++m.ops.flatMap a0Z
open Go Go.Proofs
theorem b39 (l:List OpV) (o:OpV):a3Y (l++[o])=a3Y l+a05 o.text:=by
 induction l with
 |nil=>simp [a3Y]
 |cons a r ih=>simp [a3Y,ih,Nat.add_assoc]
theorem c64 (l:List OpV) (hl:l.length<1000000) (ht:∀o∈l,o.text.length<9223372036854775807) (hs:a3Y l<9223372036854775807):PEv Tryz.prog 161 [Arg.enc l] (iv (a3Y l)):=by
 refine a0e mixed b1F Tryz.func161 e6B e6C (by kernel_rfl) (by simp) (by simp) ?_
 simp [e6A]
 refine vl (fun i:Nat=>i<=l.length) (fun i=>mkS [(3,iv (a3Y (l.take i))),(6,.c (.sl .brw false (a0a l))),(7,iv l.length),(8,iv i)] []) (fun i=>l.length-i) 0 (by simp) (a0c rfl ?_) ?_
 ·simp [a3Y]
 rintro i hi J hJ
 have mono:∀(l:List OpV) (i:Nat),a3Y (l.take i)<=a3Y l:=fun l=>by
  induction l with
  |nil=>intro i;simp [a3Y]
  |cons a r ih=>
   intro i
   cases i with
   |zero=>simp [a3Y]
   |succ i=>simp only [List.take_succ_cons,a3Y];have:=ih i;omega
 by_cases hlt:i<l.length
 ·have hw:IntKind.wrap .i64 ((i:Int)+1)=((i+1:Nat):Int):=by rw [a0d]<;>omega
  have hti:=ht _ (List.getElem_mem hlt)
  have h1:a3Y (l.take (i+1))=a3Y (l.take i)+a05 l[i].text:=by rw [<-b39,List.take_append_getElem hlt]
  have h2:=mono l (i+1)
  have hw2:IntKind.wrap .i64 ((a3Y (l.take i):Int)+a05 l[i].text)=((a3Y (l.take (i+1)):Nat):Int):=by rw [h1,a0d]<;>omega
  simp [c2V,hlt,a0f,hw,hti]
  refine hJ (i+1) (by omega) (by omega) _ (a0c rfl ?_)
  simp [hw2]
 ·obtain rfl:i=l.length:=by omega
  simp [c2V]
def e20 (m:a1A):Prop:=okN m.kind/\okN m.site/\okN m.a0N/\okN m.known/\okN m.seq/\okN m.err/\m.ops.length<1000/\(∀o∈m.ops,okP o)/\(c5h m).length<9223372036854775807
theorem f0V (a b c d e f g:Int):[[AC.raw (.int .i64 a)],[AC.raw (.int .i64 b)],[AC.raw (.int .i64 c)],[AC.raw (.int .i64 d)],[AC.raw (.int .i64 e)],[AC.raw (.int .i64 f)],[AC.raw (.int .i64 g)]]=a0a [a,b,c,d,e,f,g]:=rfl
theorem f0W (a b c d e f g:Int):List.take 7 (a0a [a,b,c,d,e,f,g])=a0a [a,b,c,d,e,f,g]:=rfl
theorem b7V (m:a1A) (h:e20 m):PEv Tryz.prog 114 [Arg.enc m] (.c (.str (c5h m))):=by
 obtain ⟨h1,h2,h3,h4,h5,h6,h7,h8,h9⟩:=h
 refine a0e mixed b1F Tryz.func114 e7l e7m (by kernel_rfl) (by simp) (by simp [a0p,a0y]) ?_
 have hn:okN (m.ops.length:Int):=⟨by omega,by omega⟩
 obtain ⟨a1,a2,a3,a4,a5,a6,l⟩:=m
 simp only at h1 h2 h3 h4 h5 h6 h7 h8 hn
 generalize hM:c5h ⟨a1,a2,a3,a4,a5,a6,l⟩=M
 unfold c5h at hM
 simp only at hM
 simp [e7k,a0p,a0y,f0V,f0W,h1,h2,h3,h4,h5,h6,hn]
 have hh:=a2U [a1,a2,a3,a4,a5,a6,(l.length:Int)]
 simp only [List.length_cons,List.length_nil] at hh
 generalize a1X [a1,a2,a3,a4,a5,a6,(l.length:Int)]=h0 at *
 refine vl (fun p:Nat×List UInt8=>p.1<=l.length/\p.2++(l.drop p.1).flatMap a0Z=M/\p.2.length<=70+40000000*p.1) (fun p=>mkS [(3,.c (.str p.2)),(24,.c (.sl .brw false (a0a l))),(25,iv l.length),(26,iv p.1)] []) (fun p=>l.length-p.1) (0,h0) ⟨by simp,by simpa using hM,by simp;omega⟩ (a0c rfl ?_) ?_
 ·simp
 rintro ⟨i,acc⟩ ⟨hi,hx,ha⟩ J hJ
 simp only at hi hx ha
 by_cases hlt:i<l.length
 ·have hw:IntKind.wrap .i64 ((i:Int)+1)=((i+1:Nat):Int):=by rw [a0d]<;>omega
  have hp:=h8 _ (List.getElem_mem hlt)
  have hs:=a4X hp
  rw [List.drop_eq_getElem_cons hlt,List.flatMap_cons,<-List.append_assoc] at hx
  simp [c21,hlt,a0f,hw,hp]
  refine ⟨by omega,hJ (i+1,acc++a0Z l[i]) ⟨by simp;omega,hx,by simp;omega⟩ (by simp;omega) _ (a0c rfl ?_)⟩
  simp
 ·obtain rfl:i=l.length:=by omega
  simp at hx
  subst hx
  simp [c21]
open Go Go.Proofs
def a1A.more (y:a1A) (o:OpV):a1A:={y with ops:=y.ops++[o]}
def b0G:a1A->List OpV->a1A
 |y,[]=>y
 |y,o::l=>if 4<y.ops.length+1\/700<(c5h (y.more o)).length then y else b0G (y.more o) l
def a2s (r:a0r) (known:Int):a1A:=b0G ⟨5,0,0,(min known.toNat r.ops.length:Nat),0,0,[]⟩ (r.ops.drop (min known.toNat r.ops.length))
theorem b1G:∀{l:List OpV},(∀o∈l,okP o)->(l.flatMap a0Z).length<=40000000*l.length
 |[],_=>by simp
 |o::r,h=>by
  have h1:=a4X (h o (by simp))
  have h2:=b1G (l:=r) fun x hx=>h x (by simp [hx])
  simp only [List.flatMap_cons,List.length_append,List.length_cons]
  omega
theorem c65 {m:a1A} (h:∀o∈m.ops,okP o):(c5h m).length<=70+40000000*m.ops.length:=by
 have h1:=a2U [m.kind,m.site,m.a0N,m.known,m.seq,m.err,(m.ops.length:Int)]
 have h2:=b1G h
 simp only [List.length_cons,List.length_nil] at h1
 simp only [c5h,List.length_append]
 omega
def b4a:List AV->Option (Prop×AV):=t1 e20 fun m:a1A=>.c (.str (c5h m))
@[simp] theorem d8f {l:List AV}:b4a l=(t1 e20 fun m:a1A=>.c (.str (c5h m))) l:=(rfl)
def b4b:List AV->Option (Prop×AV):=t1 (fun l=>l.length<1000000/\(∀o∈l,o.text.length<9223372036854775807)/\a3Y l<9223372036854775807) fun l:List OpV=>iv (a3Y l)
@[simp] theorem d8g {l:List AV}:b4b l=(t1 (fun l=>l.length<1000000/\(∀o∈l,o.text.length<9223372036854775807)/\a3Y l<9223372036854775807) fun l:List OpV=>iv (a3Y l)) l:=(rfl)
def b7W:List AV->Option (Prop×AV):=t2 (fun _ _=>True) fun (m:a1A) (e:Int)=>.g (a0p .old (a3H m e))
@[simp] theorem e21 {l:List AV}:b7W l=(t2 (fun _ _=>True) fun (m:a1A) (e:Int)=>.g (a0p .old (a3H m e))) l:=(rfl)
def b7X:List AV->Option (Prop×AV):=t2 (fun r _=>b1t r) fun (r:a0r) (n:Int)=>.g (a0p .old (a14 r n))
@[simp] theorem e22 {l:List AV}:b7X l=(t2 (fun r _=>b1t r) fun (r:a0r) (n:Int)=>.g (a0p .old (a14 r n))) l:=(rfl)
def FW6:CT:=(114,.pu b4a)::(161,.pu b4b)::(57,.pu b7W)::(60,.pu b7X)::FW5
theorem c8p:a1k Tryz.prog FW6:=⟨a0n fun m h=>b7V m h,
 a0n fun l h=>c64 l h.1 h.2.1 h.2.2,
 a0R fun m e _=>d0u m e,
 a0R fun r n h=>c09 r n h,b1F⟩
@[simp] theorem d3c:a0b FW6 114=some (.pu b4a):=(rfl)
@[simp] theorem d3d:a0b FW6 161=some (.pu b4b):=(rfl)
@[simp] theorem d8h:a0b FW6 57=some (.pu b7W):=(rfl)
@[simp] theorem d8i:a0b FW6 60=some (.pu b7X):=(rfl)
@[simp] theorem e23 {n:Nat} (h:(n==114||n==161||n==57||n==60)=false):a0b FW6 n=a0b FW5 n:=by
 simp only [Bool.or_eq_false_iff,beq_eq_false_iff_ne,ne_eq] at h
 simp [FW6,a0b,h]
theorem c66 (r:a0r) (known:Int) (h:b1t r) (hp:∀o∈r.ops,okP o) (hk:0<=known):PEv Tryz.prog 61 [Arg.enc r,Arg.enc known] (.g (a0p .old (a2s r known))):=by
 obtain ⟨h1,h2,h3,h4,h5⟩:=h
 refine a3G mixed c8p Tryz.func61 f6k f6l (by kernel_rfl) (by simp [a0p,a0y]) (by simp [a0u]) ?_
 obtain ⟨k,rfl⟩:=Int.eq_ofNat_of_zero_le hk
 generalize hR:a2s r (k:Int)=R
 unfold a2s at hR
 simp only [Int.toNat_natCast] at hR
 obtain ⟨q,hq⟩:∃q,min k r.ops.length=q:=⟨_,rfl⟩
 have hql:q<=r.ops.length:=by omega
 have hmin:(if r.ops.length<k then (r.ops.length:Int) else (k:Int))=(q:Int):=by split<;>omega
 rw [hq] at hR
 have hpd:∀o∈r.ops.drop q,okP o:=fun o ho=>hp o (List.mem_of_mem_drop ho)
 have hrd:List.drop q (a0a r.ops)=a0a (r.ops.drop q):=by simp [a0a]
 have hld:r.ops.length-q=(r.ops.drop q).length:=by simp
 simp [s61,a0u,hmin,hql,hrd]
 have hl3:(r.ops.drop q).length<1000000:=by simp;omega
 generalize hL:r.ops.drop q=l at *
 refine vl (fun p:Nat×a1A=>p.1<=l.length/\b0G p.2 (l.drop p.1)=R/\p.2.ops.length<=4/\(∀o∈p.2.ops,okP o)/\p.2=⟨5,0,0,q,0,0,p.2.ops⟩)
  (fun p=>mkS [(4,.c (.pt (1,2) 0 0)),(5,.c (.pt (1,1) 0 0)),(19,.c (.sl .brw false (a0a l))),(20,iv l.length),(21,iv p.1)] [.var (1,1) 38 (a0p .old p.2),.var (1,2) 38 [.a29,.a29,.a29,.a29,.a29,.a29,.a29]]) (fun p=>l.length-p.1) (0,⟨5,0,0,q,0,0,[]⟩) ⟨by simp,by simpa using hR,by simp,by simp,rfl⟩ (a0c rfl ?_) ?_
 ·simp [a0p,a0y]
  exact hld.symm
 rintro ⟨i,y⟩ ⟨hi,hx,hy,hyp,hye⟩ J hJ
 simp only at hi hx hy hyp hye
 by_cases hlt:i<l.length
 ·have hw:IntKind.wrap .i64 ((i:Int)+1)=((i+1:Nat):Int):=by rw [a0d]<;>omega
  have hpi:=hpd _ (List.getElem_mem hlt)
  rw [List.drop_eq_getElem_cons hlt,b0G] at hx
  simp [c0A,hlt,a0f,a0p,a0y]
  refine a1f (args':=[.c (.sl .brw false (a0a y.ops))]) ?_ (b5U y.ops (by omega)) (by simp) (by simp) ?_
  ·simp
  have hyg:∀o∈y.ops,o.gone.length<1000000:=fun o ho=>(hyp o ho).len
  have hyl:y.ops.length<1000000:=by omega
  have hrow:a0a y.ops++[a0f .old l[i]]=a0a (y.ops++[l[i]]):=by rw [a1g];rfl
  have htk:List.take (y.ops.length+1) (a0a (y.ops++[l[i]]))=a0a (y.ops++[l[i]]):=by rw [List.take_of_length_le];simp
  have b1:y.ops.length<=9223372036854775806/\(y.ops.length+1)*112<=140737488355328:=⟨by omega,by omega⟩
  have hmp:∀o∈y.ops++[l[i]],okP o:=fun o ho=>by
   rcases List.mem_append.1 ho with ho|ho
   ·exact hyp o ho
   ·rw [List.mem_singleton.1 ho];exact hpi
  simp only [a0f] at hrow
  cases c1:decide ((4:Int)<y.ops.length+1)
  ·have c1':¬4<y.ops.length+1:=by have:=of_decide_eq_false c1;omega
   have hm:e20 (y.more l[i]):=by
    have hb:=c65 (m:=y.more l[i]) hmp
    have hlen:(y.more l[i]).ops.length=y.ops.length+1:=by simp [a1A.more]
    rw [hye]
    refine ⟨⟨by simp [a1A.more],by simp [a1A.more]⟩,⟨by simp [a1A.more],by simp [a1A.more]⟩,⟨by simp [a1A.more],by simp [a1A.more]⟩,⟨by simp [a1A.more],by simp [a1A.more];omega⟩,⟨by simp [a1A.more],by simp [a1A.more]⟩,⟨by simp [a1A.more],by simp [a1A.more]⟩,by simp [a1A.more];omega,hmp,?_⟩
    rw [<-hye]
    omega
   obtain ⟨N,hN⟩:∃N,c5h (y.more l[i])=N:=⟨_,rfl⟩
   rw [hN] at hx
   simp only [a1A.more] at hm hN
   cases c2:decide ((700:Int)<N.length)
   ·have c2':¬700<N.length:=by have:=of_decide_eq_false c2;omega
    rw [if_neg (by omega)] at hx
    simp [c0A,a0p,a0y,a0f,c1,hrow,htk,hm,hN,c2,hw,b1]
    refine hJ (i+1,y.more l[i]) ⟨by simp;omega,hx,by simp [a1A.more];omega,hmp,congrArg (fun m=>m.more l[i]) hye⟩ (by simp;omega) _ (a0c rfl ?_)
    simp [a0p,a0y,a1A.more]
   ·have c2':700<N.length:=by have:=of_decide_eq_true c2;omega
    rw [if_pos (.inr c2')] at hx
    subst hx
    simp [c0A,a0p,a0y,a0f,c1,hrow,htk,hm,hN,c2,hyl,b1]
    refine ⟨hyg,a0A (mkS [(4,.c (.pt (1,1) 0 0))] [.var (1,1) 38 (a0p .old y)]) (a0c rfl ?_) ?_⟩<;>simp [a0p,a0y]
  ·have c1':4<y.ops.length+1:=by have:=of_decide_eq_true c1;omega
   rw [if_pos (.inl c1')] at hx
   subst hx
   simp [c0A,a0p,a0y,a0f,c1,hrow,htk,hyl,b1]
   refine ⟨hyg,a0A (mkS [(4,.c (.pt (1,1) 0 0))] [.var (1,1) 38 (a0p .old y)]) (a0c rfl ?_) ?_⟩<;>simp [a0p,a0y]
 ·obtain rfl:i=l.length:=by omega
  simp [b0G] at hx
  subst hx
  have hyg:∀o∈y.ops,o.gone.length<1000000:=fun o ho=>(hyp o ho).len
  have hyl:y.ops.length<1000000:=by omega
  simp [c0A,a0p,a0y,hyl]
  refine ⟨hyg,a0A (mkS [(4,.c (.pt (1,1) 0 0))] [.var (1,1) 38 (a0p .old y)]) (a0c rfl ?_) ?_⟩<;>simp [a0p,a0y]
open Go Go.Proofs
def b7Y:List AV->Option (Prop×AV):=t2 (fun r k=>b1t r/\(∀o∈r.ops,okP o)/\0<=k) fun (r:a0r) (k:Int)=>.g (a0p .old (a2s r k))
@[simp] theorem e24 {l:List AV}:b7Y l=(t2 (fun r k=>b1t r/\(∀o∈r.ops,okP o)/\0<=k) fun (r:a0r) (k:Int)=>.g (a0p .old (a2s r k))) l:=(rfl)
def FW7:CT:=(61,.pu b7Y)::FW6
theorem c8q:a1k Tryz.prog FW7:=⟨a0R fun r k h=>c66 r k h.1 h.2.1 h.2.2,c8p⟩
@[simp] theorem d8j:a0b FW7 61=some (.pu b7Y):=(rfl)
@[simp] theorem e25 {n:Nat} (h:(n==61)=false):a0b FW7 n=a0b FW6 n:=by
 simp only [Bool.or_eq_false_iff,beq_eq_false_iff_ne,ne_eq] at h
 simp [FW7,a0b,h]
def b0H:a1A:=⟨0,0,0,0,0,0,[]⟩
def b59 (r:a0r) (m:a1A) (o:OpV):Bool×a1A:=
 if o.site=m.site then
  if o.seq<1+a1K m.site r.ops then (false,a2s r m.known)
  else if 1+(a1K m.site r.ops:Int)<o.seq then (false,a3H m 8)
  else if a04 (r.ops++[o])=true then (true,b0H)
  else if (40:Int)<=r.ops.length\/200<w64 ((a3Y r.ops:Int)+a05 o.text) then (false,a3H m 6) else (false,a3H m 1)
 else (false,a3H m 1)
def b6a (r:a0r) (m:a1A):Bool×a1A:=b59 r m (m.ops.headD a0V)
theorem d0v (r:a0r) (m:a1A) (h:b1t r) (hp:∀o∈r.ops,okP o) (hs:a3Y r.ops<9223372036854775807) (hm:okM m) (hn:m.ops≠[]) (hk:0<=m.known):PEv Tryz.prog 106 [.g (a0u .old r),.g (a0p .old m)] (.t [(false,[.raw (.bool (b6a r m).1)]),(true,a0p .old (b6a r m).2)]):=by
 have hr:=h
 obtain ⟨h1,h2,h3,h4,h5⟩:=h
 refine a3G mixed c8q Tryz.func106 e6o e6p (by kernel_rfl) (by simp [a0p,a0y]) (by simp [a0u,a0p,a0y]) ?_
 obtain ⟨m1,m2,m3,m4,m5,m6,l⟩:=m
 have h0:0<l.length:=List.length_pos_iff.2 hn
 have hmo:=hm.2 l[0] (List.getElem_mem h0)
 have ho:okO l[0]:=⟨Nat.lt_trans hmo.1 (by omega),Nat.lt_trans hmo.2 (by omega)⟩
 have hot:l[0].text.length<9223372036854775807:=Nat.lt_trans ho.1 (by omega)
 have htr:∀x∈r.ops,x.text.length<9223372036854775807:=fun x hx=>Nat.lt_trans (h5 x hx).1 (by omega)
 have hl:r.ops.length+1<4611686018427387904/\∀x,x∈r.ops\/x=l[0]->okO x:=⟨by omega,fun x hx=>by
  rcases hx with hx|rfl
  ·exact h5 x hx
  ·exact ho⟩
 generalize hR:b6a r ⟨m1,m2,m3,m4,m5,m6,l⟩=R
 have hhd:l.headD a0V=l[0]:=by cases l with|nil=>simp at h0|cons x l=>rfl
 replace hR:b59 r ⟨m1,m2,m3,m4,m5,m6,l⟩ l[0]=R:=by rw [<-hhd];exact hR
 unfold b59 at hR
 cases c1:decide (l[0].site=m2)
 ·rw [if_neg (of_decide_eq_false c1)] at hR
  subst hR
  simp [d1g,a0u,a0p,a0y,h0,a0f,c1,h3]
  refine a0A (mkS [(4,bv false),(5,.c (.pt (1,1) 0 0))] [.var (1,1) 38 (a0p .old (a3H ⟨m1,m2,m3,m4,m5,m6,l⟩ 1))]) (a0c rfl ?_) ?_<;>simp [a0p,a0y]
 rw [if_pos (of_decide_eq_true c1)] at hR
 cases c2:decide (l[0].seq<1+a1K m2 r.ops)
 rotate_left
 ·rw [if_pos (of_decide_eq_true c2)] at hR
  subst hR
  simp [d1g,a0u,a0p,a0y,h0,a0f,c1,c2,h3]
  refine ⟨⟨hr,hp,hk⟩,?_⟩
  refine a0A (mkS [(4,bv false),(5,.c (.pt (1,1) 0 0))] [.var (1,1) 38 (a0p .old (a2s r m4))]) (a0c rfl ?_) ?_<;>simp [a0p,a0y]
 rw [if_neg (of_decide_eq_false c2)] at hR
 cases c3:decide ((1:Int)+(a1K m2 r.ops:Int)<l[0].seq)
 rotate_left
 ·rw [if_pos (of_decide_eq_true c3)] at hR
  subst hR
  simp [d1g,a0u,a0p,a0y,h0,a0f,c1,c2,c3,h3]
  refine a0A (mkS [(4,bv false),(5,.c (.pt (1,1) 0 0))] [.var (1,1) 38 (a0p .old (a3H ⟨m1,m2,m3,m4,m5,m6,l⟩ 8))]) (a0c rfl ?_) ?_<;>simp [a0p,a0y]
 rw [if_neg (of_decide_eq_false c3)] at hR
 simp [d1g,a0u,a0p,a0y,h0,a0f,c1,c2,c3,h3]
 refine a1f (args':=[.c (.sl .brw false (a0a r.ops)),.g (a0f .brw l[0])]) ?_ (c3U r.ops l[0] h3) (by simp) (by simp) ?_
 ·simp [a0f]
 cases c4:a04 (r.ops++[l[0]])
 rotate_left
 ·rw [if_pos c4] at hR
  subst hR
  simp [c4]
  refine ⟨hl,?_⟩
  refine a0A (mkS [(4,bv true),(5,.c (.pt (1,1) 0 0))] [.var (1,1) 38 (a0p .old b0H)]) (a0c rfl ?_) ?_<;>simp [a0p,a0y,b0H]
 rw [if_neg (by rw [c4];simp)] at hR
 cases c5:decide ((40:Int)<=r.ops.length)
 rotate_left
 ·rw [if_pos (.inl (of_decide_eq_true c5))] at hR
  subst hR
  simp [c4,c5,a0p,a0y]
  refine ⟨hl,?_⟩
  refine a0A (mkS [(4,bv false),(5,.c (.pt (1,1) 0 0))] [.var (1,1) 38 (a0p .old (a3H ⟨m1,m2,m3,m4,m5,m6,l⟩ 6))]) (a0c rfl ?_) ?_<;>simp [a0p,a0y]
 cases c6:decide (200<IntKind.wrap .i64 ((a3Y r.ops:Int)+a05 l[0].text))
 ·rw [if_neg (by have:=of_decide_eq_false c5;have:=of_decide_eq_false c6;rintro (h|h)<;>contradiction)] at hR
  subst hR
  simp [c4,c5,a0f,h3,hs,hot,a0p,a0y]
  refine ⟨hl,htr,fun q=>absurd q (of_decide_eq_false c6),fun _=>?_⟩
  refine a0A (mkS [(4,bv false),(5,.c (.pt (1,1) 0 0))] [.var (1,1) 38 (a0p .old (a3H ⟨m1,m2,m3,m4,m5,m6,l⟩ 1))]) (a0c rfl ?_) ?_<;>simp [a0p,a0y]
 ·rw [if_pos (.inr (of_decide_eq_true c6))] at hR
  subst hR
  simp [c4,c5,a0f,h3,hs,hot,a0p,a0y]
  refine ⟨hl,htr,fun _=>?_,fun q=>by have:=of_decide_eq_true c6;omega⟩
  refine a0A (mkS [(4,bv false),(5,.c (.pt (1,1) 0 0))] [.var (1,1) 38 (a0p .old (a3H ⟨m1,m2,m3,m4,m5,m6,l⟩ 6))]) (a0c rfl ?_) ?_<;>simp [a0p,a0y]
open Go
variable {P:Program}
theorem a6h (hm:P.follows .mixedOrders=true) {F:CT} (hF:a1k P F) {f:FuncId} {fn:Func} {s:SC} {args:List AV} {ret:AV} (hf:P.funcs[f]?=some fn) (hs:a0o fn.body s=some (unK s,true))
  (hok:a0I a0m fn 0=true) (hle:Nat.ble args.length fn.ntmps=true) (hret:∀c∈ret.flat,b0r c) (harg:∀x∈args,∀c∈x.flat,VOK c) (h:a6v P F s (d6S P fn ret) (a7U args)):PEv P f args ret:=by
 cases hb:fn.body with
 |none=>rw [hb] at hs;cases hs
 |some c=>
  rw [hb] at hs
  simp only [a0o,Option.map_some,Option.some.injEq,Prod.mk.injEq] at hs
  simp only [a0I,hb,Bool.and_eq_true,decide_eq_true_eq,bne_iff_ne,ne_eq] at hok
  obtain ⟨⟨hname,hcode⟩,_⟩:=hok
  have hle:=Nat.le_of_ble_eq_true hle
  refine ⟨⟨by simp [a4s,hf,hb,hname],hret,harg⟩,fun w hI G vs hsz hargs nm inj=>?_⟩
  refine calls_of_wp hf hb (Code.wp_mono (fun e a w' q=>?_) (a2x a0m (a9z hm) c fn.ntmps _ a0Q (a7U args) _ w hcode (by simp;omega) (b6P hsz hargs) (a2m hF hs.1 hs.2 h)))
  have fin:a2a (Ctx.of w hI G) fn.ntmps (fun st=>∃res,c0h P st fn.results.toList=some res/\exV st.H res ret/\(a2p res.flat).Nodup) a w'->
    a.defers=[]/\∃v,(results fn a.tmps).run P w'=.ok v w'/\(∃v',Ending.returned v=.returned v'/\∃ρ,a2v (Ctx.of w hI G) (adH nm 0 ret.flat a0t) ρ w'/\
     a3o w' (Fr (Ctx.of w hI G) (adH nm 0 ret.flat a0t) ρ) (adH nm 0 ret.flat a0t) ρ (ret.ad nm) v'):=fun ⟨_,ρ,st,hr,res,g1,g2,g3⟩=>by
   obtain ⟨v,h1,h2⟩:=a4P hr g1
   obtain ⟨ρ',h3,h4⟩:=a7T hr h2 hret g2 g3 nm inj
   exact ⟨hr.a7K,v,h1,v,rfl,ρ',h3,h4⟩
  cases e with
  |normal=>exact fin (a2a.mono (e2k q) fun st hs=>hs.2)
  |ret=>exact fin (a2a.mono (e2k q) fun st hs=>hs.2)
  |exit id=>
   obtain ⟨_,_,_,_,hs⟩:=q
   obtain ⟨v,_,hs⟩:=hs
   exact hs.1.elim
  |_=>exact q.elim
theorem v1 {F:CT} (v:St) {x y:SC} {Q:AEx->St->Prop} {st:St} (h1:∀J:St->Prop,(∀s,a8T P v s->J s)->a2K P F x (a4n J Q) st) (h2:a6v P F y Q v):a6v P F (.seq x y) Q st:=
 vs (ι:=Unit) (fun _=>True) (fun _=>v) (fun J hJ=>h1 J fun s hs=>hJ () trivial s hs) fun _ _=>h2
open Go Go.Proofs
@[simp] theorem d3e {b:Builtin} {xs:Array Operand} {ts:Array TypeId}:({callee:=.builtin b,args:=xs,argTypes:=ts}:Call).operands=xs:=by simp [Call.operands]
theorem c67 (g:FuncId) (p:OpV->Bool) (l:List OpV) (hl:l.length<4611686018427387904) (hp:∀o∈l,PEv Tryz.prog g [Arg.enc o] (bv (p o))):PEv Tryz.prog 187 [Arg.enc l,.c (.fn g [])] (iv (idxOf p 0 l)):=by
 refine a0e mixed (F:=[]) trivial Tryz.func187 d5r d5s (by kernel_rfl) (by simp) (by simp) ?_
 generalize hR:idxOf p 0 l=R
 simp [e1s]
 refine vl (fun i:Nat=>i<=l.length/\idxOf p i (l.drop i)=R)
  (fun i=>mkS [(0,.c (.sl .brw false (a0a l))),(1,.c (.fn g [])),(7,iv l.length),(8,iv i)] []) (fun i=>l.length-i) 0 (by simpa using hR) (a0c rfl ?_) ?_
 ·simp
 rintro i ⟨hi,hx⟩ J hJ
 by_cases hlt:i<l.length
 ·have hw:IntKind.wrap .i64 ((i:Int)+1)=((i+1:Nat):Int):=by rw [a0d]<;>omega
  rw [List.drop_eq_getElem_cons hlt,idxOf] at hx
  simp [a7p,hlt,a0f]
  refine a0T (hp _ (List.getElem_mem hlt)) (by simp [a0f]) (by simp) (by simp) ?_
  cases hg:p l[i]
  ·rw [if_neg (by simp [hg])] at hx
   simp [a7p,hw,hg]
   refine hJ (i+1) ⟨by omega,hx⟩ (by omega) _ (a0c rfl ?_)
   simp
  ·rw [if_pos hg] at hx
   simp [a7p,hw,hg,hx]
 ·simp [a7p,hlt]
  rw [<-hx,List.drop_eq_nil_of_le (by omega)]
  simp [idxOf]
theorem c68 (g:FuncId) (p:OpV->Bool) (l:List OpV) (hl:l.length<4611686018427387904) (hp:∀o∈l,PEv Tryz.prog g [Arg.enc o] (bv (p o))):PEv Tryz.prog 151 [Arg.enc l,.c (.fn g [])] (bv (l.any p)):=by
 refine a0e mixed (F:=[]) trivial Tryz.func151 d5l d5m (by kernel_rfl) (by simp) (by simp) ?_
 simp [e1n]
 refine a0T (c67 g p l hl hp) (by simp) (by simp) (by simp) ?_
 simp
 rw [Bool.eq_iff_iff,decide_eq_true_iff,a3P]
def b0I (n:Int):Bool:=decide (1<=n)&&decide (n<=268435456)
def countB (n:Int):Bool:=decide (0<=n)&&decide (n<=40)
def a3d (n:Int):Bool:=decide (1<=n/\n<=8)
def b4c:List AV->Option (Prop×AV):=t1 okO fun o:OpV=>bv (a0s o)
@[simp] theorem d8k {l:List AV}:b4c l=(t1 okO fun o:OpV=>bv (a0s o)) l:=(rfl)
def b4d:List AV->Option (Prop×AV):=t1 (fun _=>True) fun n:Int=>bv (a3d n)
@[simp] theorem d8l {l:List AV}:b4d l=(t1 (fun _=>True) fun n:Int=>bv (a3d n)) l:=(rfl)
def b4e:List AV->Option (Prop×AV):=t2 (fun _ _=>True) fun a b:Int=>bv (nameB a b)
@[simp] theorem d8m {l:List AV}:b4e l=(t2 (fun _ _=>True) fun a b:Int=>bv (nameB a b)) l:=(rfl)
def b4f:List AV->Option (Prop×AV):=t1 (fun _=>True) fun n:Int=>bv (b0I n)
@[simp] theorem d8n {l:List AV}:b4f l=(t1 (fun _=>True) fun n:Int=>bv (b0I n)) l:=(rfl)
def b4g:List AV->Option (Prop×AV):=t1 (fun _=>True) fun n:Int=>bv (countB n)
@[simp] theorem d8o {l:List AV}:b4g l=(t1 (fun _=>True) fun n:Int=>bv (countB n)) l:=(rfl)
def FW8:CT:=(153,.pu b4c)::(155,.pu b4d)::(157,.pu b4e)::(154,.pu b4f)::(156,.pu b4g)::FW7
theorem c4q:a1k Tryz.prog FW8:=⟨a0n fun o h=>b9z o h,
 a0n fun n _=>b5I n,
 a0R fun a b _=>b5J a b,
 a0n fun n _=>d8e n,
 a0n fun n _=>c63 n,c8q⟩
@[simp] theorem d3f:a0b FW8 153=some (.pu b4c):=(rfl)
@[simp] theorem d3g:a0b FW8 155=some (.pu b4d):=(rfl)
@[simp] theorem d3h:a0b FW8 157=some (.pu b4e):=(rfl)
@[simp] theorem d3i:a0b FW8 154=some (.pu b4f):=(rfl)
@[simp] theorem d3j:a0b FW8 156=some (.pu b4g):=(rfl)
@[simp] theorem e26 {n:Nat} (h:(n==153||n==155||n==157||n==154||n==156)=false):a0b FW8 n=a0b FW7 n:=by
 simp only [Bool.or_eq_false_iff,beq_eq_false_iff_ne,ne_eq] at h
 simp [FW8,a0b,h]
theorem c69 (o:OpV) (h:okO o):PEv Tryz.prog 152 [Arg.enc o] (bv (!a0s o)):=by
 refine a0e mixed c4q Tryz.func152 e79 e8a (by kernel_rfl) (by simp) (by simp [a0f]) ?_
 simp [e78,a0f,h]
def a95 (m:a1A):Bool:=
 if m.kind=1 then b0I m.a0N&&decide (m.ops=[])&&decide (m.site=0)&&decide (m.known=0)&&decide (m.seq=0)&&decide (m.err=0)
 else if m.kind=2 then b0I m.a0N&&a3d m.site&&decide (m.ops=[])&&decide (m.known=0)&&decide (m.seq=0)&&decide (m.err=0)
 else if m.kind=3 then a3d m.site&&countB m.known&&decide (m.ops=[])&&decide (m.a0N=0)&&decide (m.seq=0)&&decide (m.err=0)
 else if m.kind=4 then a3d m.site&&countB m.known&&decide ((m.ops.length:Int)=1)&&decide (m.a0N=0)&&decide (m.seq=0)&&decide (m.err=0)
 else if m.kind=5 then countB m.known&&decide ((m.ops.length:Int)<=4)&&decide (m.site=0)&&decide (m.a0N=0)&&decide (m.seq=0)&&decide (m.err=0)
 else if m.kind=6 then nameB m.site m.seq&&decide (1<=m.err)&&decide (m.err<=8)&&decide (m.ops=[])&&decide (m.a0N=0)&&decide (m.known=0)
 else false
def a6Z (m:a1A):Bool:=!(m.ops.any fun o=>!a0s o)&&a95 m
def c7a (m:a1A):Bool×Int×a1A:=
 if m.kind=1 then (b0I m.a0N,0,⟨m.kind,0,m.a0N,0,0,0,[]⟩)
 else if m.kind=2 then (b0I m.a0N&&a3d m.site,0,⟨m.kind,m.site,m.a0N,0,0,0,[]⟩)
 else if m.kind=3 then (a3d m.site&&countB m.known,0,⟨m.kind,m.site,0,m.known,0,0,[]⟩)
 else if m.kind=4 then (a3d m.site&&countB m.known,1,⟨m.kind,m.site,0,m.known,0,0,[]⟩)
 else if m.kind=5 then (countB m.known&&decide ((m.ops.length:Int)<=4),m.ops.length,⟨m.kind,0,0,m.known,0,0,[]⟩)
 else if m.kind=6 then (nameB m.site m.seq&&decide (1<=m.err)&&decide (m.err<=8),0,⟨m.kind,m.site,0,0,m.seq,m.err,[]⟩)
 else (false,0,⟨m.kind,0,0,0,0,0,[]⟩)
def lastB (m:a1A) (q:Bool×Int×a1A):Bool:=q.1&&decide ((m.ops.length:Int)=q.2.1)&&decide (m.site=q.2.2.site)&&decide (m.a0N=q.2.2.a0N)&&decide (m.known=q.2.2.known)&&decide (m.seq=q.2.2.seq)&&decide (m.err=q.2.2.err)
theorem c4r (m:a1A):a95 m=lastB m (c7a m):=by
 have hz:decide ((m.ops.length:Int)=0)=decide (m.ops=[]):=by
  rw [Bool.eq_iff_iff]
  simp
 unfold a95 lastB c7a
 by_cases k1:m.kind=1
 ·simp only [if_pos k1];rw [hz];cases b0I m.a0N<;>cases decide (m.ops=[])<;>simp
 by_cases k2:m.kind=2
 ·simp only [if_neg k1,if_pos k2];rw [hz];cases b0I m.a0N<;>cases a3d m.site<;>cases decide (m.ops=[])<;>simp
 by_cases k3:m.kind=3
 ·simp only [if_neg k1,if_neg k2,if_pos k3];rw [hz];cases a3d m.site<;>cases countB m.known<;>cases decide (m.ops=[])<;>simp
 by_cases k4:m.kind=4
 ·simp only [if_neg k1,if_neg k2,if_neg k3,if_pos k4];cases a3d m.site<;>cases countB m.known<;>cases decide ((m.ops.length:Int)=1)<;>simp
 by_cases k5:m.kind=5
 ·simp only [if_neg k1,if_neg k2,if_neg k3,if_neg k4,if_pos k5];cases countB m.known<;>cases decide ((m.ops.length:Int)<=4)<;>simp
 by_cases k6:m.kind=6
 ·simp only [if_neg k1,if_neg k2,if_neg k3,if_neg k4,if_neg k5,if_pos k6];rw [hz];cases nameB m.site m.seq<;>cases decide (1<=m.err)<;>cases decide (m.err<=8)<;>cases decide (m.ops=[])<;>simp
 ·simp only [if_neg k1,if_neg k2,if_neg k3,if_neg k4,if_neg k5,if_neg k6];rfl
structure FnV where
 g:FuncId
instance f7n:Arg FnV where
 enc x:=.c (.fn x.g [])
 dec|.c (.fn g [])=>some ⟨g⟩|_=>none
 a1j {x d} h:=by
  split at h
  ·cases h;rfl
  ·cases h
@[simp] theorem f3d (g:FuncId):Arg.dec (.c (.fn g []))=some (FnV.mk g):=(rfl)
def b4h:List AV->Option (Prop×AV):=t2 (fun l g=>(l.length<4611686018427387904/\∀o∈l,okO o)/\g.g=152) fun (l:List OpV) (g:FnV)=>bv (l.any fun o=>!a0s o)
@[simp] theorem d8p {l:List AV}:b4h l=(t2 (fun l g=>(l.length<4611686018427387904/\∀o∈l,okO o)/\g.g=152) fun (l:List OpV) (g:FnV)=>bv (l.any fun o=>!a0s o)) l:=(rfl)
def FW9:CT:=(151,.pu b4h)::FW8
theorem c8r:a1k Tryz.prog FW9:=⟨a0R fun l g h=>(by obtain ⟨g⟩:=g;obtain ⟨⟨h1,h2⟩,rfl⟩:=h;exact c68 _ (fun o=>!a0s o) l h1 fun o ho=>c69 o (h2 o ho)),c4q⟩
@[simp] theorem d3k:a0b FW9 151=some (.pu b4h):=(rfl)
@[simp] theorem e27 {n:Nat} (h:(n==151)=false):a0b FW9 n=a0b FW8 n:=by
 simp only [Bool.or_eq_false_iff,beq_eq_false_iff_ne,ne_eq] at h
 simp [FW9,a0b,h]
theorem c1a (m:a1A) (h:okM m):PEv Tryz.prog 102 [Arg.enc m] (bv (a6Z m)):=by
 refine a6h mixed c8r Tryz.func102 e6Y e6Z (by kernel_rfl) (by simp) (by simp [a0p,a0y]) ?_
 have hl:m.ops.length<4611686018427387904:=Nat.lt_trans h.1 (by omega)
 have ho:(∀o∈m.ops,okO o)=True:=by simp;exact fun o ho=>⟨Nat.lt_trans (h.2 o ho).1 (by omega),Nat.lt_trans (h.2 o ho).2 (by omega)⟩
 unfold a6Z
 rw [c4r]
 obtain ⟨a1,a2,a3,a4,a5,a6,l⟩:=m
 simp only at hl ho ⊢
 unfold e6X
 refine v1 (mkS [(1,.c (.pt (1,1) 0 0)),(2,bv false)] [.var (1,1) 38 (a0p .brw ⟨a1,a2,a3,a4,a5,a6,l⟩)]) (fun J hJ=>?_) ?_
 ·simp [a0p,a0y]
  refine hJ _ (a0c rfl ?_)
  simp [a0p,a0y]
 refine vs (ι:=Unit) (fun _=>(l.any fun o=>!a0s o)=false) (fun _=>mkS [(1,.c (.pt (1,1) 0 0))] [.var (1,1) 38 (a0p .brw ⟨a1,a2,a3,a4,a5,a6,l⟩)]) (fun J hJ=>?_) (fun _ c0=>?_)
 ·cases c0:l.any fun o=>!a0s o
  ·simp only [a0p,a0y]
   simp (maxSteps:=9^60) [hl,ho,c0]
   refine hJ () c0 _ (a0c rfl ?_)
   simp [a0p,a0y]
  ·simp only [a0p,a0y]
   simp (maxSteps:=9^60) [hl,ho,c0]
   refine a0A (mkS [(2,bv false)] []) (a0c rfl ?_) ?_<;>simp [a0p,a0y]
 rw [c0]
 simp only [Bool.not_false,Bool.true_and]
 refine v1 (mkS [(1,.c (.pt (1,1) 0 0)),(3,.c (.pt (1,2) 0 0))] [.var (1,1) 38 (a0p .brw ⟨a1,a2,a3,a4,a5,a6,l⟩),.var (1,2) 38 (a0p .brw ⟨a1,0,0,0,0,0,[]⟩)]) (fun J hJ=>?_) ?_
 ·simp [a0p,a0y]
  refine hJ _ (a0c rfl ?_)
  simp [a0p,a0y]
 refine v1 (mkS [(1,.c (.pt (1,1) 0 0)),(3,.c (.pt (1,2) 0 0)),(4,iv 0)] [.var (1,1) 38 (a0p .brw ⟨a1,a2,a3,a4,a5,a6,l⟩),.var (1,2) 38 (a0p .brw ⟨a1,0,0,0,0,0,[]⟩)]) (fun J hJ=>?_) ?_
 ·simp [a0p,a0y]
  refine hJ _ (a0c rfl ?_)
  simp [a0p,a0y]
 refine v1 (mkS [(1,.c (.pt (1,1) 0 0)),(3,.c (.pt (1,2) 0 0)),(4,iv 0),(5,bv false)] [.var (1,1) 38 (a0p .brw ⟨a1,a2,a3,a4,a5,a6,l⟩),.var (1,2) 38 (a0p .brw ⟨a1,0,0,0,0,0,[]⟩)]) (fun J hJ=>?_) ?_
 ·simp [a0p,a0y]
  refine hJ _ (a0c rfl ?_)
  simp [a0p,a0y]
 refine vs (ι:=Bool×Int×a1A) (fun q=>q=c7a ⟨a1,a2,a3,a4,a5,a6,l⟩) (fun q=>mkS [(1,.c (.pt (1,1) 0 0)),(3,.c (.pt (1,2) 0 0)),(4,iv q.2.1),(5,bv q.1)] [.var (1,1) 38 (a0p .brw ⟨a1,a2,a3,a4,a5,a6,l⟩),.var (1,2) 38 (a0p .brw q.2.2)]) (fun J hJ=>?_) ?_
 ·replace hJ:=hJ _ rfl
  unfold c7a at hJ
  simp only at hJ
  by_cases k1:a1=1
  ·subst k1
   rw [if_pos rfl] at hJ
   simp [a0p,a0y]
   refine hJ _ (a0c rfl ?_)
   simp [a0p,a0y]
  rw [if_neg k1] at hJ
  by_cases k2:a1=2
  ·subst k2
   rw [if_pos rfl] at hJ
   cases d1:b0I a3
   ·rw [d1] at hJ
    simp only [a0p,a0y]
    simp (maxSteps:=9^60) [d1]
    refine hJ _ (a0c rfl ?_)
    simp [a0p,a0y]
   cases d2:a3d a2
   ·rw [d1,d2] at hJ
    simp only [a0p,a0y]
    simp (maxSteps:=9^60) [d1,d2]
    refine hJ _ (a0c rfl ?_)
    simp [a0p,a0y]
   rw [d1,d2] at hJ
   simp only [a0p,a0y]
   simp (maxSteps:=9^60) [d1,d2]
   refine hJ _ (a0c rfl ?_)
   simp [a0p,a0y]
  rw [if_neg k2] at hJ
  by_cases k3:a1=3
  ·subst k3
   rw [if_pos rfl] at hJ
   cases d1:a3d a2
   ·rw [d1] at hJ
    simp only [a0p,a0y]
    simp (maxSteps:=9^60) [d1]
    refine hJ _ (a0c rfl ?_)
    simp [a0p,a0y]
   cases d2:countB a4
   ·rw [d1,d2] at hJ
    simp only [a0p,a0y]
    simp (maxSteps:=9^60) [d1,d2]
    refine hJ _ (a0c rfl ?_)
    simp [a0p,a0y]
   rw [d1,d2] at hJ
   simp only [a0p,a0y]
   simp (maxSteps:=9^60) [d1,d2]
   refine hJ _ (a0c rfl ?_)
   simp [a0p,a0y]
  rw [if_neg k3] at hJ
  by_cases k4:a1=4
  ·subst k4
   rw [if_pos rfl] at hJ
   cases d1:a3d a2
   ·rw [d1] at hJ
    simp only [a0p,a0y]
    simp (maxSteps:=9^60) [d1]
    refine hJ _ (a0c rfl ?_)
    simp [a0p,a0y]
   cases d2:countB a4
   ·rw [d1,d2] at hJ
    simp only [a0p,a0y]
    simp (maxSteps:=9^60) [d1,d2]
    refine hJ _ (a0c rfl ?_)
    simp [a0p,a0y]
   rw [d1,d2] at hJ
   simp only [a0p,a0y]
   simp (maxSteps:=9^60) [d1,d2]
   refine hJ _ (a0c rfl ?_)
   simp [a0p,a0y]
  rw [if_neg k4] at hJ
  by_cases k5:a1=5
  ·subst k5
   rw [if_pos rfl] at hJ
   cases d1:countB a4
   ·rw [d1] at hJ
    simp only [a0p,a0y]
    simp (maxSteps:=9^60) [d1]
    refine hJ _ (a0c rfl ?_)
    simp [a0p,a0y]
   cases d2:decide ((l.length:Int)<=4)
   ·rw [d1,d2] at hJ
    simp only [a0p,a0y]
    simp (maxSteps:=9^60) [d1,d2]
    refine hJ _ (a0c rfl ?_)
    simp [a0p,a0y]
   rw [d1,d2] at hJ
   simp only [a0p,a0y]
   simp (maxSteps:=9^60) [d1,d2]
   refine hJ _ (a0c rfl ?_)
   simp [a0p,a0y]
  rw [if_neg k5] at hJ
  by_cases k6:a1=6
  ·subst k6
   rw [if_pos rfl] at hJ
   cases d1:nameB a2 a5
   ·rw [d1] at hJ
    simp only [a0p,a0y]
    simp (maxSteps:=9^60) [d1]
    refine hJ _ (a0c rfl ?_)
    simp [a0p,a0y]
   cases d2:decide (1<=a6)
   ·rw [d1,d2] at hJ
    simp only [a0p,a0y]
    simp (maxSteps:=9^60) [d1,d2]
    refine hJ _ (a0c rfl ?_)
    simp [a0p,a0y]
   cases d3:decide (a6<=8)
   ·rw [d1,d2,d3] at hJ
    simp only [a0p,a0y]
    simp (maxSteps:=9^60) [d1,d2,d3]
    refine hJ _ (a0c rfl ?_)
    simp [a0p,a0y]
   rw [d1,d2,d3] at hJ
   simp only [a0p,a0y]
   simp (maxSteps:=9^60) [d1,d2,d3]
   refine hJ _ (a0c rfl ?_)
   simp [a0p,a0y]
  rw [if_neg k6] at hJ
  simp only [a0p,a0y]
  simp (maxSteps:=9^60) [k1,k2,k3,k4,k5,k6]
  refine hJ _ (a0c rfl ?_)
  simp [a0p,a0y]
 ·rintro ⟨b,n,⟨b1,b2,b3,b4,b5,b6,b7⟩⟩ hq
  rw [<-hq]
  unfold lastB
  simp only
  refine a1t ?_
  cases b
  ·simp only [a0p,a0y]
   simp (maxSteps:=9^60)
   refine a0A (mkS [(2,bv false)] []) (a0c rfl ?_) ?_<;>simp [a0p,a0y]
  cases e1:decide ((l.length:Int)=n)
  ·simp only [a0p,a0y]
   simp (maxSteps:=9^60) [e1]
   refine a0A (mkS [(2,bv false)] []) (a0c rfl ?_) ?_<;>simp [a0p,a0y]
  cases e2:decide (a2=b2)
  ·simp only [a0p,a0y]
   simp (maxSteps:=9^60) [e1,e2]
   refine a0A (mkS [(2,bv false)] []) (a0c rfl ?_) ?_<;>simp [a0p,a0y]
  cases e3:decide (a3=b3)
  ·simp only [a0p,a0y]
   simp (maxSteps:=9^60) [e1,e2,e3]
   refine a0A (mkS [(2,bv false)] []) (a0c rfl ?_) ?_<;>simp [a0p,a0y]
  cases e4:decide (a4=b4)
  ·simp only [a0p,a0y]
   simp (maxSteps:=9^60) [e1,e2,e3,e4]
   refine a0A (mkS [(2,bv false)] []) (a0c rfl ?_) ?_<;>simp [a0p,a0y]
  cases e5:decide (a5=b5)
  ·simp only [a0p,a0y]
   simp (maxSteps:=9^60) [e1,e2,e3,e4,e5]
   refine a0A (mkS [(2,bv false)] []) (a0c rfl ?_) ?_<;>simp [a0p,a0y]
  simp only [a0p,a0y]
  simp (maxSteps:=9^60) [e1,e2,e3,e4,e5]
  refine a0A (mkS [(2,bv (decide (a6=b6)))] []) (a0c rfl ?_) ?_<;>simp [a0p,a0y]
open Go Go.Proofs
def a0x (r:a0r) (m:a1A):a0k×Bool×a1A:=
 if m.kind=1 then
  if m.a0N∈r.ends then (zeroE,false,a14 r m.a0N)
  else if (8:Int)<=r.ends.length then (zeroE,false,a3H m 6)
  else (⟨true,m.a0N,a0V⟩,true,b0H)
 else if (r.ends.length:Int)<m.site then (zeroE,false,a3H m 3)
 else if m.kind=3 then (zeroE,false,a2s r m.known)
 else (⟨false,0,m.ops.headD a0V⟩,b6a r m)
theorem c7b (r:a0r) (m:a1A) (h:b1t r) (hp:∀o∈r.ops,okP o) (hs:a3Y r.ops<9223372036854775807) (hm:okM m) (hn:m.kind≠1->m.kind≠3->m.ops≠[]) (hk:0<=m.known) :
  PEv Tryz.prog 55 [.g (a0u .old r),.g (a0p .old m)] (.t [(true,a0q .old (a0x r m).1),(false,[.raw (.bool (a0x r m).2.1)]),(true,a0p .old (a0x r m).2.2)]):=by
 have hr:=h
 have h4:r.ends.length<4611686018427387904:=Nat.lt_trans h.2.2.2.1 (by omega)
 refine a3G mixed c4q Tryz.func55 f6a f6b (by kernel_rfl) (by simp [a0q,a0f,a0p,a0y]) (by simp [a0u,a0p,a0y]) ?_
 have hsub:=fun hne=>d0v r m h hp hs hm hne hk
 obtain ⟨a1,a2,a3,a4,a5,a6,l⟩:=m
 simp only at hn hk
 generalize hR:a0x r ⟨a1,a2,a3,a4,a5,a6,l⟩=R
 unfold a0x at hR
 simp only at hR
 by_cases k1:a1=1
 ·subst k1
  rw [if_pos rfl] at hR
  cases c1:decide (a3∈r.ends)
  ·rw [if_neg (of_decide_eq_false c1)] at hR
   cases c2:decide ((8:Int)<=r.ends.length)
   ·rw [if_neg (of_decide_eq_false c2)] at hR
    subst hR
    simp [s55,a0u,a0p,a0y,c1,c2,h4]
    refine a0A (mkS [(4,.c (.pt (1,1) 0 0)),(5,bv true),(6,.c (.pt (1,2) 0 0))] [.var (1,1) 97 (a0q .old ⟨true,a3,a0V⟩),.var (1,2) 38 (a0p .old b0H)]) (a0c rfl ?_) ?_<;>simp [a0q,a0f,a0V,b0H,a0p,a0y]
   ·rw [if_pos (of_decide_eq_true c2)] at hR
    subst hR
    simp [s55,a0u,a0p,a0y,c1,c2,h4]
    refine a0A (mkS [(4,.c (.pt (1,1) 0 0)),(5,bv false),(6,.c (.pt (1,2) 0 0))] [.var (1,1) 97 (a0q .old zeroE),.var (1,2) 38 (a0p .old (a3H ⟨1,a2,a3,a4,a5,a6,l⟩ 6))]) (a0c rfl ?_) ?_<;>simp [a0q,a0f,a0V,zeroE,a0p,a0y]
  ·rw [if_pos (of_decide_eq_true c1)] at hR
   subst hR
   simp [s55,a0u,a0p,a0y,c1,h4]
   refine ⟨hr,?_⟩
   refine a0A (mkS [(4,.c (.pt (1,1) 0 0)),(5,bv false),(6,.c (.pt (1,2) 0 0))] [.var (1,1) 97 (a0q .old zeroE),.var (1,2) 38 (a0p .old (a14 r a3))]) (a0c rfl ?_) ?_<;>simp [a0q,a0f,a0V,zeroE,a0p,a0y]
 rw [if_neg k1] at hR
 cases c1:decide ((r.ends.length:Int)<a2)
 rotate_left
 ·rw [if_pos (of_decide_eq_true c1)] at hR
  subst hR
  simp [s55,a0u,a0p,a0y,k1,c1,h4]
  refine a0A (mkS [(4,.c (.pt (1,1) 0 0)),(5,bv false),(6,.c (.pt (1,2) 0 0))] [.var (1,1) 97 (a0q .old zeroE),.var (1,2) 38 (a0p .old (a3H ⟨a1,a2,a3,a4,a5,a6,l⟩ 3))]) (a0c rfl ?_) ?_<;>simp [a0q,a0f,a0V,zeroE,a0p,a0y]
 rw [if_neg (of_decide_eq_false c1)] at hR
 by_cases k3:a1=3
 ·subst k3
  rw [if_pos rfl] at hR
  subst hR
  simp [s55,a0u,a0p,a0y,c1,h4]
  refine ⟨⟨hr,hp,hk⟩,?_⟩
  refine a0A (mkS [(4,.c (.pt (1,1) 0 0)),(5,bv false),(6,.c (.pt (1,2) 0 0))] [.var (1,1) 97 (a0q .old zeroE),.var (1,2) 38 (a0p .old (a2s r a4))]) (a0c rfl ?_) ?_<;>simp [a0q,a0f,a0V,zeroE,a0p,a0y]
 rw [if_neg k3] at hR
 have hne:=hn k1 k3
 have h0:0<l.length:=List.length_pos_iff.2 hne
 have hhd:l.headD a0V=l[0]:=by cases l with|nil=>simp at h0|cons x l=>rfl
 have hsub:=hsub hne
 generalize b6a r ⟨a1,a2,a3,a4,a5,a6,l⟩=V at hR hsub
 rw [hhd] at hR
 subst hR
 simp [s55,a0u,a0p,a0y,k1,k3,c1,h4]
 refine a1f (args':=[.g (a0u .brw r),.g (a0p .brw ⟨a1,a2,a3,a4,a5,a6,l⟩)]) ?_ hsub (by simp [a0u,a0p,a0y]) (by simp [a0u,a0p,a0y]) ?_
 ·simp [a0u,a0p,a0y]
 obtain ⟨b,y⟩:=V
 simp [a0p,a0y,h0,a0f]
 refine a0A (mkS [(4,.c (.pt (1,1) 0 0)),(5,bv b),(6,.c (.pt (1,2) 0 0))] [.var (1,1) 97 (a0q .old ⟨false,0,l[0]⟩),.var (1,2) 38 (a0p .old y)]) (a0c rfl ?_) ?_<;>simp [a0q,a0f,a0p,a0y]
def b7Z:List AV->Option (Prop×AV):=t1 b1t fun r:a0r=>bv (a1P r)
@[simp] theorem e28 {l:List AV}:b7Z l=(t1 b1t fun r:a0r=>bv (a1P r)) l:=(rfl)
def b4i:List AV->Option (Prop×AV):=t1 okM fun m:a1A=>bv (a6Z m)
@[simp] theorem d8q {l:List AV}:b4i l=(t1 okM fun m:a1A=>bv (a6Z m)) l:=(rfl)
def FWa:CT:=(77,.pu b7Z)::(102,.pu b4i)::FW9
theorem c8s:a1k Tryz.prog FWa:=⟨a0n fun r h=>d0p r h,
 a0n fun m h=>c1a m h,c8r⟩
@[simp] theorem d8r:a0b FWa 77=some (.pu b7Z):=(rfl)
@[simp] theorem d3l:a0b FWa 102=some (.pu b4i):=(rfl)
@[simp] theorem e29 {n:Nat} (h:(n==77||n==102)=false):a0b FWa n=a0b FW9 n:=by
 simp only [Bool.or_eq_false_iff,beq_eq_false_iff_ne,ne_eq] at h
 simp [FWa,a0b,h]
def a4j (r:a0r) (m:a1A):Bool:=a1P r&&a6Z m&&(decide (m.kind=1)||decide (m.kind=3)||decide (m.kind=4))
theorem d0w (r:a0r) (m:a1A) (h:b1t r) (hm:okM m):PEv Tryz.prog 53 [Arg.enc r,Arg.enc m] (bv (a4j r m)):=by
 refine a0e mixed c8s Tryz.func53 f5W f5X (by kernel_rfl) (by simp) (by simp [a0u,a0p,a0y]) ?_
 generalize hB:a4j r m=B
 unfold a4j at hB
 cases c1:a1P r
 ·rw [c1] at hB;subst hB
  simp [s53,a0u,a0p,a0y,h,hm,c1]
 cases c2:a6Z m
 ·rw [c1,c2] at hB;subst hB
  simp [s53,a0u,a0p,a0y,h,hm,c1,c2]
 rw [c1,c2] at hB;subst hB
 obtain ⟨a1,a2,a3,a4,a5,a6,l⟩:=m
 by_cases k1:a1=1
 ·subst k1
  simp [s53,a0u,a0p,a0y,h,hm,c1,c2]
 by_cases k3:a1=3
 ·subst k3
  simp [s53,a0u,a0p,a0y,h,hm,c1,c2]
 ·simp [s53,a0u,a0p,a0y,h,hm,c1,c2,k1,k3]
open Go
def ckF:CkV->List OpV->Option CkV
 |c,[]=>some c
 |c,o::r=>if (a4q c o).1=true then ckF (a4q c o).2 r else none
theorem c8t:∀(l:List OpV) (c:CkV) (k:Nat),(0<=(ixG c k l).1)↔ckF c l=none
 |[],c,k=>by simp [ixG,ckF]
 |o::r,c,k=>by
  unfold ixG ckF
  split
  ·exact c8t r _ _
  ·simp
theorem b4j:∀(l:List OpV) (c:CkV) (o:OpV),ckF c (l++[o])=(ckF c l).bind fun c'=>if (a4q c' o).1=true then some (a4q c' o).2 else none
 |[],c,o=>by simp [ckF]
 |a::r,c,o=>by
  rw [List.cons_append,ckF,ckF]
  split
  ·exact b4j r _ o
  ·rfl
def ck0:CkV:=⟨[],[],0⟩
theorem a4c (l:List OpV):a04 l=true↔l.length<=40/\(ckF ck0 l).isSome=true:=by
 unfold a04
 have h:=c8t l ck0 0
 rw [Bool.and_eq_true,decide_eq_true_eq,Bool.not_eq_true',decide_eq_false_iff_not]
 rw [show (⟨[],[],0⟩:CkV)=ck0 from rfl]
 rw [h]
 cases ckF ck0 l<;>simp
def isN (a b:Int) (o:OpV):Bool:=decide (o.site=a)&&decide (o.seq=b)
def a6t (l:List OpV) (a b:Int):Option OpV:=l.find? (isN a b)
theorem b9T {a b:Int} {o:OpV}:isN a b o=true↔o.site=a/\o.seq=b:=by simp [isN]
theorem b6b (l:List OpV) (o:OpV) (a b:Int):a6t (l++[o]) a b=(a6t l a b).or (if o.site=a/\o.seq=b then some o else none):=by
 unfold a6t
 rw [List.find?_append]
 congr 1
 simp only [List.find?_cons,List.find?_nil]
 by_cases h:o.site=a/\o.seq=b
 ·rw [if_pos h,b9T.2 h]
 ·rw [if_neg h]
  have:isN a b o=false:=by rw [Bool.eq_false_iff,ne_eq,b9T];exact h
  rw [this]
theorem d8s (l:List (List Int×Int)) (k k':List Int) (n:Int):lk (pt l k n) k'=if k'=k then some n else lk l k':=by
 unfold lk pt
 cases hx:l.findIdx? fun q=>q.1==k with
 |none=>
  rw [List.findIdx?_eq_none_iff] at hx
  simp only [List.find?_append,List.find?_cons,List.find?_nil]
  by_cases h:k'=k
  ·subst h
   rw [if_pos rfl]
   have:(l.find? fun q=>q.1==k')=none:=by
    rw [List.find?_eq_none]
    intro q hq
    have:=hx q hq
    simp_all
   rw [this]
   simp
  ·rw [if_neg h]
   have:(k==k')=false:=by simpa using fun e=>h e.symm
   rw [this]
   simp
 |some i=>
  simp only
  rw [List.findIdx?_eq_some_iff_getElem] at hx
  obtain ⟨hi,h1,h2⟩:=hx
  have hk:l[i].1=k:=by simpa using h1
  induction l generalizing i with
  |nil=>simp at hi
  |cons a r ih=>
   cases i with
   |zero=>
    simp only [List.getElem_cons_zero] at hk h1
    simp only [List.set_cons_zero,List.find?_cons]
    by_cases h:k'=k
    ·subst h;simp
    ·rw [if_neg h]
     have h3:(k==k')=false:=by simpa using fun e=>h e.symm
     have h4:(a.1==k')=false:=by rw [hk];exact h3
     rw [h3,h4]
   |succ i=>
    simp only [List.set_cons_succ,List.find?_cons]
    have h0:=h2 0 (by omega)
    simp only [List.getElem_cons_zero] at h0
    have ih:=ih i (by simpa using hi) (by simpa using h1) (fun j hj=>by have:=h2 (j+1) (by omega);simpa using this) (by simpa using hk)
    cases ha:a.1==k'
    ·simp only
     exact ih
    ·simp only
     by_cases h:k'=k
     ·subst h;rw [ha] at h0;simp at h0
     ·rw [if_neg h]
structure CkI (c:CkV) (l:List OpV):Prop where
 ah:∀s,(lk c.ah [s]).getD 0=(a1K s l:Int)
 sz:∀a b,lk c.sz [a,b]=(a6t l a b).bind fun o=>if o.kind=2 then none else some (a05 o.text:Int)
 all:c.all=(a3Y l:Int)
 le:a3Y l<=200
 nm:∀o∈l,1<=o.seq/\o.seq<=(a1K o.site l:Int)
 may:∀o∈l,a0s o=true
theorem b9U:a05 []=0:=by decide +kernel
theorem a6i {o:OpV} (h:a0s o=true) (hk:o.kind=1):a05 o.text<=12/\a16 o.after=true/\a38 o=true/\o.of_=0/\o.num=0/\o.gen=0:=by
 simp only [a0s,Bool.and_eq_true,hk,if_true,a3Q,decide_eq_true_eq] at h
 obtain ⟨_,⟨⟨⟨⟨⟨⟨⟨⟨⟨e1,_⟩,_⟩,_⟩,_⟩,e6⟩,e2⟩,e3⟩,e4⟩,e5⟩⟩:=h
 exact ⟨e6,e1,e2,e3,e4,e5⟩
theorem a1a {o:OpV} (h:a0s o=true) (hk:o.kind≠1):o.kind=2/\o.after=⟨0,0,0⟩/\o.text=[]/\o.gone=[]:=by
 simp only [a0s,Bool.and_eq_true,if_neg hk,a1H,decide_eq_true_eq] at h
 obtain ⟨_,hk2,⟨⟨_,e2⟩,e3⟩,e4⟩:=h
 exact ⟨hk2,e2,e3,e4⟩
theorem a6j {o:OpV} (h:a0s o=true):1<=o.site/\o.site<=8/\1<=o.seq/\o.seq<=268435456:=by
 simp only [a0s,Bool.and_eq_true] at h
 exact a6Q h.1
theorem b70 {o:OpV} (h:a0s o=true):a05 o.text<=12:=by
 by_cases hk:o.kind=1
 ·exact (a6i h hk).1
 ·rw [(a1a h hk).2.2.1]
  decide +kernel
theorem a8h {o:OpV}:∀{l:List a0B} {p:Option a0B},a2S o p l=true->∀e∈l,a16 e=true
 |[],_,_,e,he=>by simp at he
 |x::l,p,h,e,he=>by
  obtain ⟨k1,k2⟩:=a6f h
  rcases List.mem_cons.1 he with rfl|he
  ·exact k1
  ·exact a8h k2 e he
theorem c1b {o:OpV} (h:a0s o=true):a16 o.after=true/\∀e∈o.gone,a16 e=true:=by
 by_cases hk:o.kind=1
 ·obtain ⟨_,h1,h2,_⟩:=a6i h hk
  simp only [a38,Bool.and_eq_true] at h2
  exact ⟨h1,a8h h2.1⟩
 ·obtain ⟨_,h1,_,h2⟩:=a1a h hk
  rw [h1,h2]
  exact ⟨by decide,by simp⟩
def wrN (l:List OpV) (e:a0B):Bool:=decide (e=⟨0,0,0⟩)||(match a6t l e.site e.seq with|some o=>decide (0<=e.i)&&decide (e.i<(a05 o.text:Int))|none=>false)
def a8M (l:List OpV) (a b:Int):Bool:=match a6t l a b with|some o=>decide (o.kind=1)|none=>false
def a61 (l:List OpV) (o:OpV):Bool:=a0s o&&decide (o.seq=(a1K o.site l:Int)+1)&&wrN l o.after&&!(o.gone.any fun e=>!wrN l e)&&(decide (o.kind=1)||a8M l o.of_ o.num)
def a96 (l:List OpV):Bool:=decide (l.length<=40)&&decide (a3Y l<=200)
theorem d0x {e:a0B} (h:a16 e=true):e=⟨0,0,0⟩\/0<=e.i:=by
 simp only [a16,Bool.or_eq_true,Bool.and_eq_true,decide_eq_true_eq] at h
 rcases h with h|h
 ·exact .inl h
 ·exact .inr h.1.2
theorem c4s {c:CkV} {l:List OpV} (h:CkI c l) {e:a0B} (he:a16 e=true):wrB c.sz e=wrN l e:=by
 unfold wrB wrN
 by_cases h0:e=⟨0,0,0⟩
 ·simp [h0]
 have hi:0<=e.i:=(d0x he).resolve_left h0
 rw [decide_eq_false h0,Bool.false_or,Bool.false_or,h.sz]
 cases hf:a6t l e.site e.seq with
 |none=>simp;omega
 |some o=>
  have hm:=h.may o (List.mem_of_find?_eq_some hf)
  by_cases hk:o.kind=2
  ·have:=(a1a hm (by omega)).2.2.1
   simp [hk,this,b9U]
   omega
  ·simp [hk,hi]
theorem c4t {n:Int} (h1:-9223372036854775808<=n) (h2:n<=9223372036854775807):w64 n=n:=by
 unfold w64;exact a0d h1 h2
theorem a8i (s:Int) (l:List OpV) (o:OpV):a1K s (l++[o])=a1K s l+(if o.site=s then 1 else 0):=a7B s l o
theorem b9V {c:CkV} {l:List OpV} (h:CkI c l) (hl:l.length<=1000000) (o:OpV):((a4q c o).1=true↔a61 l o=true/\a3Y (l++[o])<=200)/\((a4q c o).1=true->CkI (a4q c o).2 (l++[o])):=by
 have hnl:=a8Z o.site l
 have hw:w64 (c.ahead o.site+1)=(a1K o.site l:Int)+1:=by
  rw [CkV.ahead,h.ah,c4t]<;>omega
 have hsum:a3Y (l++[o])=a3Y l+a05 o.text:=b39 l o
 unfold a4q a61
 rw [hw]
 cases c1:a0s o
 ·simp
 obtain ⟨ea,eg⟩:=c1b c1
 rw [c4s h ea]
 have hany:(o.gone.any fun e=>!wrB c.sz e)=o.gone.any fun e=>!wrN l e:=by
  rw [Bool.eq_iff_iff,List.any_eq_true,List.any_eq_true]
  constructor
  ·rintro ⟨e,he,h1⟩;exact ⟨e,he,by rw [<-c4s h (eg e he)];exact h1⟩
  ·rintro ⟨e,he,h1⟩;exact ⟨e,he,by rw [c4s h (eg e he)];exact h1⟩
 rw [hany]
 cases c2:decide (o.seq=(a1K o.site l:Int)+1)
 ·have:=of_decide_eq_false c2
  simp [this]
 have c2':=of_decide_eq_true c2
 cases c3:wrN l o.after
 ·simp
 cases c4:o.gone.any fun e=>!wrN l e
 rotate_left
 ·simp
 rw [if_neg (by simp [c2']),if_neg (by simp)]
 obtain ⟨n1,n2,n3,n4⟩:=a6j c1
 have hr:=b70 c1
 have hle:=h.le
 have hnew:a6t l o.site o.seq=none:=by
  unfold a6t
  rw [List.find?_eq_none]
  intro x hx hxn
  obtain ⟨e1,e2⟩:=b9T.1 hxn
  have:=(h.nm x hx).2
  rw [e1,e2,c2'] at this
  omega
 have hah:∀s,(lk (pt c.ah [o.site] (w64 (c.ahead o.site+1))) [s]).getD 0=(a1K s (l++[o]):Int):=by
  intro s
  rw [d8s,a8i,hw]
  by_cases hs:s=o.site
  ·subst hs;simp
  ·rw [if_neg (by simpa using hs),h.ah,if_neg (fun e=>hs e.symm)];simp
 have hnm:∀x∈l++[o],1<=x.seq/\x.seq<=(a1K x.site (l++[o]):Int):=by
  intro x hx
  rcases List.mem_append.1 hx with hx|hx
  ·obtain ⟨e1,e2⟩:=h.nm x hx
   rw [a8i]
   exact ⟨e1,by omega⟩
  ·obtain rfl:=List.mem_singleton.1 hx
   rw [a8i,if_pos rfl]
   exact ⟨n3,by omega⟩
 have hmay:∀x∈l++[o],a0s x=true:=by
  intro x hx
  rcases List.mem_append.1 hx with hx|hx
  ·exact h.may x hx
  ·obtain rfl:=List.mem_singleton.1 hx;exact c1
 by_cases ck:o.kind=2
 ·rw [if_pos ck,h.sz]
  obtain ⟨_,_,t3,_⟩:=a1a c1 (by omega)
  have hs:a3Y (l++[o])=a3Y l:=by rw [hsum,t3,b9U];rfl
  have he:((a6t l o.of_ o.num).bind fun o=>if o.kind=2 then none else some (a05 o.text:Int)).isSome=a8M l o.of_ o.num:=by
   unfold a8M
   cases hf:a6t l o.of_ o.num with
   |none=>rfl
   |some x=>
    have hm:=h.may x (List.mem_of_find?_eq_some hf)
    simp only [Option.bind_some]
    by_cases hk:x.kind=2
    ·rw [if_pos hk,hk];rfl
    ·have:x.kind=1:=Classical.byContradiction fun hk1=>hk (a1a hm hk1).1
     rw [if_neg hk,this];rfl
  rw [he]
  refine ⟨by simp [ck];intro _;omega,fun _=>⟨hah,fun a b=>?_,by rw [hs];exact h.all,by omega,hnm,hmay⟩⟩
  show lk c.sz [a,b]=_
  rw [h.sz,b6b]
  by_cases hn:o.site=a/\o.seq=b
  ·obtain ⟨rfl,rfl⟩:=hn
   rw [hnew]
   simp [ck]
  ·rw [if_neg hn];simp
 ·have hk1:o.kind=1:=Classical.byContradiction fun hk1=>ck (a1a c1 hk1).1
  have hall:(c.add o).all=(a3Y (l++[o]):Int):=by
   show w64 (c.all+a05 o.text)=_
   rw [h.all,hsum,c4t]<;>omega
  rw [if_neg ck]
  refine ⟨by simp [hk1,hall];omega,fun hgo=>⟨hah,fun a b=>?_,hall,by simp [hall] at hgo;omega,hnm,hmay⟩⟩
  show lk (pt c.sz [o.site,o.seq] (a05 o.text)) [a,b]=_
  rw [d8s,b6b,h.sz]
  by_cases hn:o.site=a/\o.seq=b
  ·obtain ⟨rfl,rfl⟩:=hn
   rw [hnew]
   simp [ck]
  ·rw [if_neg (by rintro e;simp only [List.cons.injEq,and_true] at e;exact hn ⟨e.1.symm,e.2.symm⟩),if_neg hn];simp
theorem f0X:CkI ck0 []:=⟨fun s=>rfl,fun a b=>rfl,rfl,by simp [a3Y],by simp,by simp⟩
theorem b4k {α:Type} {p:List α->Prop} (h0:p []) (h1:∀l a,p l->p (l++[a])) (l:List α):p l:=by
 have:∀r:List α,p r.reverse:=fun r=>by
  induction r with
  |nil=>exact h0
  |cons a r ih=>rw [List.reverse_cons];exact h1 _ _ ih
 have:=this l.reverse
 rwa [List.reverse_reverse] at this
theorem d8t (l:List OpV):l.length<=1000000->∀c,ckF ck0 l=some c->CkI c l:=by
 refine b4k (p:=fun l=>l.length<=1000000->∀c,ckF ck0 l=some c->CkI c l) ?_ ?_ l
 ·intro _ c h;simp [ckF] at h;subst h;exact f0X
 ·intro l o ih hl c h
  simp only [List.length_append,List.length_singleton] at hl
  rw [b4j] at h
  cases hc:ckF ck0 l with
  |none=>rw [hc] at h;cases h
  |some c'=>
   rw [hc] at h
   simp only [Option.bind_some] at h
   split at h
   ·rename_i hg
    cases h
    exact (b9V (ih (by omega) c' hc) (by omega) o).2 hg
   ·cases h
theorem a97 {l:List OpV} (h:a04 l=true) (o:OpV):a04 (l++[o])=(a61 l o&&a96 (l++[o])):=by
 rw [a4c] at h
 obtain ⟨h1,h2⟩:=h
 cases hc:ckF ck0 l with
 |none=>rw [hc] at h2;cases h2
 |some c=>
  have hI:=d8t l (by omega) c hc
  have hs:=(b9V hI (by omega) o).1
  rw [Bool.eq_iff_iff,a4c,b4j,hc]
  simp only [Option.bind_some,a96,Bool.and_eq_true,decide_eq_true_eq]
  by_cases hg:(a4q c o).1=true
  ·rw [if_pos hg]
   have:=hs.1 hg
   simp [this]
  ·rw [if_neg hg]
   have:¬(a61 l o=true/\a3Y (l++[o])<=200):=fun hx=>hg (hs.2 hx)
   simp only [Option.isSome_none,Bool.false_eq_true,and_false,false_iff]
   intro hx
   exact this ⟨hx.1,hx.2.2⟩
theorem a98:a04 []=true:=by rw [a4c];simp [ckF]
theorem a5W {l:List OpV} (h:a04 l=true):l.length<=40/\a3Y l<=200/\(∀o∈l,a0s o=true)/\∀o∈l,1<=o.seq/\o.seq<=(a1K o.site l:Int):=by
 rw [a4c] at h
 obtain ⟨h1,h2⟩:=h
 cases hc:ckF ck0 l with
 |none=>rw [hc] at h2;cases h2
 |some c=>
  have hI:=d8t l (by omega) c hc
  exact ⟨h1,hI.le,hI.may,hI.nm⟩
open Go
theorem c7c:∀(k j m acc q:Nat) (r:List UInt8),q<128^(k+1)->k<=j->acc+q*m<=268435456->(1<m->1<=q)->1<=m->a3y (k+1) m acc (a00 j q++r)=some (acc+q*m,r):=by
 have one:∀(k m acc q:Nat) (r:List UInt8),q<128->acc+q*m<=268435456->(1<m->1<=q)->a3y (k+1) m acc (UInt8.ofNat q::r)=some (acc+q*m,r):=fun k m acc q r h1 h2 h3=>by
  have e:(UInt8.ofNat q).toNat=q:=by simp;omega
  have e2:q%128=q:=Nat.mod_eq_of_lt h1
  rw [a3y,e,if_neg (by omega),e2,if_neg (by omega)]
 intro k
 induction k with
 |zero=>
  intro j m acc q r h1 _ h2 h3 h4
  have hq:q<128:=by simpa using h1
  have:a00 j q=[UInt8.ofNat q]:=by cases j<;>simp [a00,hq]
  rw [this]
  exact one 0 m acc q r hq h2 h3
 |succ k ih=>
  intro j m acc q r h1 hj h2 h3 h4
  by_cases hq:q<128
  ·have:a00 j q=[UInt8.ofNat q]:=by cases j<;>simp [a00,hq]
   rw [this]
   exact one _ m acc q r hq h2 h3
  ·obtain ⟨j,rfl⟩:∃i,j=i+1:=⟨j-1,by omega⟩
   have e:(UInt8.ofNat (q%128+128)).toNat=q%128+128:=by simp;omega
   have e2:(q%128+128)%128=q%128:=by omega
   have hd:q=128*(q/128)+q%128:=by omega
   have hm:q*m=(q/128)*(m*128)+(q%128)*m:=by
    conv=>lhs;rw [hd,Nat.add_mul]
    rw [Nat.mul_comm m 128,<-Nat.mul_assoc,Nat.mul_comm (q/128) 128]
   rw [a00,if_neg hq,List.cons_append,a3y,e,if_pos (by omega),e2,ih j (m*128) (acc+q%128*m) (q/128) r (by rw [Nat.pow_succ] at h1;omega) (by omega) (by omega) (fun _=>by omega) (by omega)]
   congr 2
   omega
theorem a5o {n:Nat} (hn:n<=268435456) (r:List UInt8):takeN (a0g n++r)=some (n,r):=by
 have:=c7c 4 9 1 0 n r (by simp;omega) (by omega) (by omega) (fun h=>by omega) (by omega)
 simpa [takeN,a0g] using this
theorem a2O {n:Int} (h0:0<=n) (hn:n<=268435456) (r:List UInt8) (b:Bool):rdNum ⟨a0g n.toNat++r,b⟩=(n,⟨r,b⟩):=by
 simp [rdNum,a1e,a5o (show n.toNat<=268435456 by omega)]
 omega
theorem c4u {t:List UInt8} (hn:t.length<=268435456) (r:List UInt8) (b:Bool):a1d ⟨a0g t.length++(t++r),b⟩=(t,⟨r,b⟩):=by
 simp [a1d,a0L,a5o hn]
structure okB (e:a0B):Prop where
 a:0<=e.site/\e.site<=268435456
 b:0<=e.seq/\e.seq<=268435456
 c:0<=e.i/\e.i<=268435456
theorem b6c {e:a0B} (h:a16 e=true):okB e:=by
 simp only [a16,Bool.or_eq_true,Bool.and_eq_true,decide_eq_true_eq] at h
 rcases h with rfl|⟨⟨h1,h2⟩,h3⟩
 ·exact ⟨by simp,by simp,by simp⟩
 ·have:=a6Q h1
  exact ⟨by omega,by omega,by omega⟩
theorem b6d {e:a0B} (h:okB e) (r:List UInt8) (b:Bool):a07 ⟨a1p e++r,b⟩=(e,⟨r,b⟩):=by
 have:a1p e++r=a0g e.site.toNat++(a0g e.seq.toNat++(a0g e.i.toNat++r)):=by simp [a1p,a1X]
 rw [this]
 simp only [a07,a2O h.a.1 h.a.2,a2O h.b.1 h.b.2,a2O h.c.1 h.c.2]
theorem c1c (l:List a0B):(∀e∈l,okB e)->∀(r:List UInt8) (b:Bool),a0O l.length ⟨l.flatMap a1p++r,b⟩=(l,⟨r,b⟩):=by
 refine b4k (p:=fun l=>(∀e∈l,okB e)->∀(r:List UInt8) (b:Bool),a0O l.length ⟨l.flatMap a1p++r,b⟩=(l,⟨r,b⟩)) ?_ ?_ l
 ·intro _ r b;rfl
 ·intro l e ih h r b
  have h1:=ih (fun x hx=>h x (List.mem_append_left _ hx)) (a1p e++r) b
  rw [List.length_append,List.length_singleton,a0O,List.flatMap_append,List.append_assoc]
  simp only [List.flatMap_cons,List.flatMap_nil,List.append_nil]
  rw [h1]
  simp only [b6d (h e (by simp))]
theorem d0y {o:OpV} (h:a38 o=true):(∀e∈o.gone,a16 e=true)/\o.gone.length<=200:=by
 simp only [a38,Bool.and_eq_true,decide_eq_true_eq] at h
 exact ⟨a8h h.1,h.2⟩
theorem b9W {o:OpV} (h:a0s o=true) (hk:o.kind=2):1<=o.of_/\o.of_<=8/\1<=o.num/\o.num<=268435456/\0<=o.gen/\o.gen<=268435456:=by
 simp only [a0s,Bool.and_eq_true,if_neg (show ¬o.kind=1 by omega),a1H,decide_eq_true_eq,Bool.not_eq_true',decide_eq_false_iff_not] at h
 obtain ⟨_,_,⟨⟨⟨⟨⟨e1,_⟩,e2⟩,e3⟩,_⟩,_⟩,_⟩:=h
 have:=a6Q e1
 omega
theorem d0z {o:OpV} (h:a0s o=true) (ht:o.text.length<=268435456) (r:List UInt8):a7M ⟨a0Z o++r,false⟩=(o,⟨r,false⟩):=by
 obtain ⟨n1,n2,n3,n4⟩:=a6j h
 by_cases hk:o.kind=2
 ·obtain ⟨_,t1,t2,t3⟩:=a1a h (by omega)
  obtain ⟨b1,b2,b3,b4,b5,b6⟩:=b9W h hk
  have:a0Z o++r=a0g o.site.toNat++(a0g o.seq.toNat++(a0g o.kind.toNat++(a0g o.of_.toNat++(a0g o.num.toNat++(a0g o.gen.toNat++r))))):=by simp [a0Z,hk,a3R,a1X]
  obtain ⟨a1,a2,a3,a4,a5,a6,a7,a8,a9⟩:=o
  simp only at *
  subst hk t1 t2 t3
  rw [this]
  simp only [a7M,a2O (show 0<=a1 by omega) (by omega),a2O (show 0<=a2 by omega) (by omega),a2O (show (0:Int)<=2 by omega) (by omega),a2O (show 0<=a7 by omega) (by omega),a2O (show 0<=a8 by omega) (by omega),a2O (show 0<=a9 by omega) (by omega),if_true,h]
  rfl
 ·have hk1:o.kind=1:=Classical.byContradiction fun hk1=>hk (a1a h hk1).1
  obtain ⟨e1,e2,e3,e4,e5,e6⟩:=a6i h hk1
  obtain ⟨g1,g2⟩:=d0y e3
  have:a0Z o++r=a0g o.site.toNat++(a0g o.seq.toNat++(a0g o.kind.toNat++(a1p o.after++(a0g o.text.length++(o.text++(a0g (o.gone.length:Int).toNat++(o.gone.flatMap a1p++r))))))):=by simp [a0Z,hk,a3R,b4G,a1X]
  obtain ⟨a1,a2,a3,a4,a5,a6,a7,a8,a9⟩:=o
  simp only at *
  subst hk1 e4 e5 e6
  rw [this]
  have hg:min (a6.length:Int).toNat 200=a6.length:=by omega
  simp only [a7M,a2O (show 0<=a1 by omega) (by omega),a2O (show 0<=a2 by omega) (by omega),a2O (show (0:Int)<=1 by omega) (by omega),b6d (b6c e2),c4u ht,a2O (show 0<=(a6.length:Int) by omega) (show (a6.length:Int)<=268435456 by omega),hg,c1c a6 fun e he=>b6c (g1 e he),h]
  rw [if_neg (by decide)]
  simp
  omega
theorem a6k {e:a0k} (hj:e.join=false):e.op.kind=1->e.op.text.length<=(a0E e).length:=fun hk=>by
 rw [a0E,if_neg (by simp [hj]),a0Z,if_neg (by omega)]
 simp [b4G]
 omega
theorem c7d {e:a0k} (h:a0H e=true) (hl:(a0E e).length<=700):a2b (a0E e)=(e,true):=by
 cases hj:e.join
 ·have h':=h
  rw [a0H,if_neg (by simp [hj])] at h'
  simp only [Bool.and_eq_true,decide_eq_true_eq] at h'
  obtain ⟨hn,hm⟩:=h'
  have ht:e.op.text.length<=268435456:=by
   by_cases hk:e.op.kind=1
   ·have:=a6k hj hk;omega
   ·rw [(a1a hm hk).2.2.1];simp
  have hr:=d0z hm ht []
  rw [List.append_nil] at hr
  have ht1:a1e (a0E e)=(0,a0Z e.op,0):=by
   rw [a0E,if_neg (by simp [hj]),a1e,a5o (by omega)]
  have he:(⟨false,0,e.op⟩:a0k)=e:=by obtain ⟨x,y,z⟩:=e;simp only at hj hn;subst hj hn;rfl
  have ho:a01 (a0Z e.op)=(e.op,[],0):=by
   rw [a01,hr];rfl
  rw [a2b,ht1]
  simp only
  rw [if_neg (by omega),if_neg (by omega),ho]
  simp only [he,h]
  rfl
 ·have h':=h
  rw [a0H,if_pos hj,a4y] at h'
  simp only [Bool.and_eq_true,decide_eq_true_eq] at h'
  obtain ⟨⟨h1,h2⟩,h3⟩:=h'
  have ht1:a1e (a0E e)=(1,a0g e.a0N.toNat,0):=by
   rw [a0E,if_pos hj,a1e,a5o (by omega)]
  have ht2:a1e (a0g e.a0N.toNat)=(e.a0N.toNat,[],0):=by
   have:=a5o (show e.a0N.toNat<=268435456 by omega) []
   rw [List.append_nil] at this
   rw [a1e,this]
  have he:(⟨true,(e.a0N.toNat:Int),a0V⟩:a0k)=e:=by
   obtain ⟨x,y,z⟩:=e;simp only at hj h1 h3;subst hj h3
   rw [Int.toNat_of_nonneg (by simp only;omega)]
  rw [a2b,ht1]
  simp only
  rw [if_neg (by omega),if_pos trivial,ht2]
  simp only [he,h]
  rfl
theorem a3I (h:Nat):(a1x h).length=4:=rfl
theorem c7e {t:List UInt8} (hl:t.length<=700) (r:List UInt8):a2L (a03 t++r)=some (t,r):=by
 have e:a03 t++r=a0g t.length++(a1x (ofN (a0g t.length++t))++(t++r)):=by rw [a03,if_neg (by omega)];simp
 generalize hc:a1x (ofN (a0g t.length++t))=c at e
 have hc4:c.length=4:=by rw [<-hc];rfl
 rw [e,a2L,a5o (by omega)]
 simp only
 have e1:(c++(t++r)).take 4=c:=by rw [List.take_left' hc4]
 have e2:(c++(t++r)).take (4+t.length)=c++t:=by rw [<-List.append_assoc];exact List.take_left' (by simp [hc4])
 have e3:(c++(t++r)).drop (4+t.length)=r:=by rw [<-List.append_assoc];exact List.drop_left' (by simp [hc4])
 have e4:(c++t).drop 4=t:=List.drop_left' hc4
 have e5:(a0g t.length++(c++(t++r))).take ((a0g t.length++(c++(t++r))).length-(c++(t++r)).length)=a0g t.length:=by
  apply List.take_left'
  simp
 rw [if_neg (by simp [hc4];omega),e1,e2,e3,e4,e5,hc,if_pos rfl]
theorem c4v {e:a0k} (h:a0H e=true) (hf:(a0j e).2=0) (z:List UInt8):a0P ((a0j e).1++z)=(e,(a0j e).1.length/32,true):=by
 have hl:(a0E e).length<=700:=by
  unfold a0j at hf
  split at hf
  ·cases hf
  ·omega
 have hfr:(a0j e).1=a03 (a0E e)++List.replicate (b0t (a03 (a0E e)).length) 0:=by
  rw [a0j,if_neg (by omega)];rfl
 have hs:a2L ((a0j e).1++z)=some (a0E e,List.replicate (b0t (a03 (a0E e)).length) 0++z):=by
  rw [hfr,List.append_assoc,c7e hl]
 unfold a0P
 rw [hs]
 simp only [c7d h hl,if_true]
 have:a8a ((a0j e).1++z) (a0j e).1=true:=by
  show List.isPrefixOf _ _=true
  rw [List.isPrefixOf_iff_prefix]
  exact List.prefix_append _ _
 rw [this]
def zr:Nat->List UInt8->Option Nat
 |c,[]=>some c
 |c,b::s=>if b=0 then (if 4<=c then none else zr (c+1) s) else zr 0 s
theorem b1H:∀(s t:List UInt8) (c:Nat),zr c (s++t)=(zr c s).bind fun d=>zr d t
 |[],t,c=>rfl
 |b::s,t,c=>by
  rw [List.cons_append,zr,zr]
  split
  ·split
   ·rfl
   ·exact b1H s t _
  ·exact b1H s t _
theorem d0A:∀(s:List UInt8) (c:Nat),s≠[]->(∀b∈s,b≠0)->zr c s=some 0
 |[],c,h,_=>(h rfl).elim
 |[b],c,_,h=>by rw [zr,if_neg (h b (by simp)),zr]
 |b::b2::s,c,_,h=>by rw [zr,if_neg (h b (by simp))];exact d0A (b2::s) 0 (by simp) fun x hx=>h x (List.mem_cons_of_mem _ hx)
theorem b6e:∀(k n:Nat),1<=n->n<128^(k+1)->a00 k n≠[]/\∀b∈a00 k n,b≠0
 |0,n,h1,h2=>by
  refine ⟨by simp [a00],fun b hb e=>?_⟩
  simp only [a00,List.mem_singleton] at hb
  subst hb
  have:=congrArg UInt8.toNat e
  simp at this h2
  omega
 |k+1,n,h1,h2=>by
  rw [a00]
  split
  ·refine ⟨by simp,fun b hb e=>?_⟩
   rw [List.mem_singleton] at hb
   subst hb
   have:=congrArg UInt8.toNat e
   simp at this
   omega
  ·refine ⟨by simp,fun b hb e=>?_⟩
   rcases List.mem_cons.1 hb with rfl|hb
   ·have:=congrArg UInt8.toNat e
    simp at this
    omega
   ·exact (b6e k (n/128) (by omega) (by rw [Nat.pow_succ] at h2;omega)).2 b hb e
theorem a3S {n:Int} (h1:1<=n) (h2:n<=268435456) (c:Nat) (r:List UInt8):zr c (a0g n.toNat++r)=zr 0 r:=by
 obtain ⟨e1,e2⟩:=b6e 9 n.toNat (by omega) (by simp;omega)
 rw [b1H,show a0g n.toNat=a00 9 n.toNat from rfl,d0A _ c e1 e2]
 rfl
theorem b9X:a0g 0=[0]:=by decide +kernel
theorem a3W {c:Nat} (h:c<4) (r:List UInt8):zr c (a0g (0:Int).toNat++r)=zr (c+1) r:=by
 rw [show (0:Int).toNat=0 from rfl,b9X,List.cons_append,zr,if_pos rfl,if_neg (by omega)]
 rfl
theorem c4w:∀(n c:Nat) (r:List UInt8),c<=4->5<=c+n->zr c (List.replicate n 0++r)=none
 |0,c,r,h1,h2=>by omega
 |n+1,c,r,h1,h2=>by
  rw [List.replicate_succ,List.cons_append,zr,if_pos rfl]
  split
  ·rfl
  ·exact c4w n (c+1) r (by omega) (by omega)
theorem c7f:∀(s:List UInt8) (c d:Nat),c<=4->zr c s=some d->d<=4
 |[],c,d,h,e=>by simp only [zr,Option.some.injEq] at e;omega
 |b::s,c,d,h,e=>by
  rw [zr] at e
  split at e
  ·split at e
   ·cases e
   ·exact c7f s _ d (by omega) e
  ·exact c7f s 0 d (by omega) e
theorem d8u (s:ByteArray) (i:Nat) (hi:i<s.size) (h1:(Utf8.decode s i).1≠0) (h2:(Utf8.decode s i).1≠65533):1<=(Utf8.decode s i).2/\∀j,j<(Utf8.decode s i).2->(s.get! (i+j)).toNat≠0:=by
 unfold Utf8.decode at h1 h2 ⊢
 simp only [Nat.add_zero,Bool.and_eq_true,decide_eq_true_eq,beq_iff_eq,ge_iff_le,Utf8.runeError] at h1 h2 ⊢
 split at h1
 ·rename_i c
  rw [if_pos c] at h2 ⊢
  refine ⟨Nat.le_refl 1,fun j hj=>?_⟩
  obtain rfl:j=0:=by simp only at hj;omega
  simpa using h1
 rename_i c0
 rw [if_neg c0] at h2 ⊢
 split at h1
 ·rename_i c
  rw [if_pos c] at h2 ⊢
  split at h1
  ·rename_i c2
   rw [if_pos c2]
   refine ⟨by simp,fun j hj=>?_⟩
   simp only at hj
   have:j=0\/j=1:=by omega
   rcases this with rfl|rfl
   ·simp only [Nat.add_zero];omega
   ·omega
  ·rename_i c2
   rw [if_neg c2] at h2
   exact (h2 rfl).elim
 rename_i c1
 rw [if_neg c1] at h2 ⊢
 split at h1
 ·rename_i c
  rw [if_pos c] at h2 ⊢
  split at h1
  ·rename_i c2
   rw [if_pos c2]
   refine ⟨by simp,fun j hj=>?_⟩
   simp only at hj
   have:j=0\/j=1\/j=2:=by omega
   rcases this with rfl|rfl|rfl
   ·simp only [Nat.add_zero];omega
   ·omega
   ·omega
  ·rename_i c2
   rw [if_neg c2] at h2
   exact (h2 rfl).elim
 rename_i c3
 rw [if_neg c3] at h2 ⊢
 split at h1
 ·rename_i c
  rw [if_pos c] at h2 ⊢
  split at h1
  ·rename_i c2
   rw [if_pos c2]
   refine ⟨by simp,fun j hj=>?_⟩
   simp only at hj
   have:j=0\/j=1\/j=2\/j=3:=by omega
   rcases this with rfl|rfl|rfl|rfl
   ·simp only [Nat.add_zero];omega
   ·omega
   ·omega
   ·omega
  ·rename_i c2
   rw [if_neg c2] at h2
   exact (h2 rfl).elim
 ·rename_i c
  rw [if_neg c] at h2
  exact (h2 rfl).elim
theorem c8u (s:ByteArray):∀(f pos:Nat),s.size<=pos+f->Lib.idxFuncFrom (fun r=>!a2h (r:Int)) true s f pos=-1->∀j,pos<=j->j<s.size->(s.get! j).toNat≠0
 |0,pos,h,_,j,h1,h2=>by omega
 |f+1,pos,h,e,j,h1,h2=>by
  rw [Lib.idxFuncFrom,if_pos (by omega)] at e
  split at e
  ·omega
  ·rename_i c
   have hr:a2h ((Utf8.decode s pos).1:Int)=true:=by simpa using c
   have r0:(Utf8.decode s pos).1≠0:=fun e0=>by rw [e0] at hr;exact absurd hr (by decide)
   have r1:(Utf8.decode s pos).1≠65533:=fun e0=>by rw [e0] at hr;exact absurd hr (by decide)
   obtain ⟨w1,w2⟩:=d8u s pos (by omega) r0 r1
   by_cases hj:j<pos+(Utf8.decode s pos).2
   ·have:=w2 (j-pos) (by omega)
    rwa [show pos+(j-pos)=j by omega] at this
   ·exact c8u s f _ (by omega) e j (by omega) h2
theorem c7g {s:List UInt8} (h:a36 s=true):∀b∈s,b≠0:=by
 intro b hb e
 subst e
 obtain ⟨j,hj,hbj⟩:=List.mem_iff_getElem.1 hb
 simp only [a36,Bool.not_eq_true',decide_eq_false_iff_not] at h
 rcases Lib.idxFunc_range (fun r=>!a2h (r:Int)) true ⟨s.toArray⟩ with h1|h1
 ·have:=c8u ⟨s.toArray⟩ _ 0 (by simp) h1 j (Nat.zero_le _) (by simpa [ByteArray.size] using hj)
  apply this
  have e2:(⟨s.toArray⟩:ByteArray).get! j=s[j]:=by
   show (⟨s.toArray⟩:ByteArray).data[j]! = _
   simp [hj]
  rw [e2,hbj];rfl
 ·exact (h h1.1).elim
open Go
theorem c7h {o:OpV} {p:Option a0B} {x:a0B} {l:List a0B} (h:a2S o p (x::l)=true):x≠⟨0,0,0⟩:=by
 have key:∀(B:Bool) (X:Bool),(if decide (x=⟨0,0,0⟩)||!a16 x||ownB o x||B then false else X)=true->x≠⟨0,0,0⟩:=by
  intro B X h e
  rw [decide_eq_true e] at h
  simp at h
 cases p with
 |none=>exact key _ _ h
 |some q=>exact key _ _ h
theorem b9Y {o:OpV}:∀{l:List a0B} {p:Option a0B},a2S o p l=true->∀e∈l,nameB e.site e.seq=true/\0<=e.i/\e.i<12
 |[],_,_,e,he=>by simp at he
 |x::l,p,h,e,he=>by
  rcases List.mem_cons.1 he with rfl|he
  ·have hb:=(a6f h).1
   simp only [a16,Bool.or_eq_true,Bool.and_eq_true,decide_eq_true_eq] at hb
   rcases hb with hb|hb
   ·exact (c7h h hb).elim
   ·exact ⟨hb.1.1,hb.1.2,hb.2⟩
  ·exact b9Y (a6f h).2 e he
theorem c4x {e:a0B} (h:nameB e.site e.seq=true/\0<=e.i/\e.i<12) (c:Nat) (r:List UInt8):∃d,d<=1/\zr c (a1p e++r)=zr d r:=by
 have hn:=a6Q h.1
 have e1:a1p e++r=a0g e.site.toNat++(a0g e.seq.toNat++(a0g e.i.toNat++r)):=by simp [a1p,a1X]
 rw [e1,a3S (by omega) (by omega),a3S (by omega) (by omega)]
 by_cases hi:e.i=0
 ·rw [hi,a3W (by omega)];exact ⟨1,by omega,rfl⟩
 ·rw [a3S (by omega) (by omega)];exact ⟨0,by omega,rfl⟩
theorem a81:∀(l:List a0B) (c:Nat),c<=1->(∀e∈l,nameB e.site e.seq=true/\0<=e.i/\e.i<12)->∃d,d<=1/\zr c (l.flatMap a1p)=some d
 |[],c,hc,_=>⟨c,hc,rfl⟩
 |e::l,c,hc,h=>by
  obtain ⟨d,hd,e1⟩:=c4x (h e (by simp)) c (l.flatMap a1p)
  obtain ⟨d2,hd2,e2⟩:=a81 l d hd fun x hx=>h x (List.mem_cons_of_mem _ hx)
  exact ⟨d2,hd2,by rw [List.flatMap_cons,e1,e2]⟩
theorem b9Z {e:a0k} (h:a0H e=true) (hl:(a0E e).length<=700):∃d,d<=1/\zr 0 (a0E e)=some d:=by
 cases hj:e.join
 ·have h':=h
  rw [a0H,if_neg (by simp [hj])] at h'
  simp only [Bool.and_eq_true,decide_eq_true_eq] at h'
  obtain ⟨hn,hm⟩:=h'
  obtain ⟨n1,n2,n3,n4⟩:=a6j hm
  by_cases hk:e.op.kind=2
  ·obtain ⟨b1,b2,b3,b4,b5,b6⟩:=b9W hm hk
   have e1:a0E e=a0g (0:Int).toNat++(a0g e.op.site.toNat++(a0g e.op.seq.toNat++(a0g (2:Int).toNat++(a0g e.op.of_.toNat++(a0g e.op.num.toNat++(a0g e.op.gen.toNat++[])))))):=by simp [a0E,hj,a0Z,hk,a3R,a1X]
   rw [e1,a3W (by omega),a3S (by omega) (by omega),a3S (by omega) (by omega),a3S (by omega) (by omega),a3S (by omega) (by omega),a3S (by omega) (by omega)]
   by_cases hg:e.op.gen=0
   ·rw [hg,a3W (by omega)];exact ⟨1,by omega,rfl⟩
   ·rw [a3S (by omega) (by omega)];exact ⟨0,by omega,rfl⟩
  ·have hk1:e.op.kind=1:=Classical.byContradiction fun hk1=>hk (a1a hm hk1).1
   have hm':=hm
   simp only [a0s,Bool.and_eq_true,hk1,if_true,a3Q,decide_eq_true_eq,Bool.not_eq_true',Bool.and_eq_false_iff,decide_eq_false_iff_not] at hm'
   obtain ⟨_,⟨⟨⟨⟨⟨⟨⟨⟨⟨e1,_⟩,e3⟩,e4⟩,e5⟩,e6⟩,e7⟩,_⟩,_⟩,_⟩⟩:=hm'
   simp only [a38,Bool.and_eq_true,decide_eq_true_eq] at e7
   have hg:=b9Y e7.1
   have hs:a0E e=a0g (0:Int).toNat++(a0g e.op.site.toNat++(a0g e.op.seq.toNat++(a0g (1:Int).toNat++(a1p e.op.after++(a0g (e.op.text.length:Int).toNat++(e.op.text++(a0g (e.op.gone.length:Int).toNat++e.op.gone.flatMap a1p))))))):=by simp [a0E,hj,a0Z,hk1,a3R,b4G,a1X]
   rw [hs,a3W (by omega),a3S (by omega) (by omega),a3S (by omega) (by omega),a3S (by omega) (by omega)]
   by_cases ht:e.op.text=[]
   ·have ha:e.op.after=⟨0,0,0⟩:=Classical.byContradiction fun q=>by simp [ht,q] at e3
    have hgl:e.op.gone.length≠0:=fun q=>by simp [ht,q] at e4
    have ea:∀r,a1p (⟨0,0,0⟩:a0B)++r=a0g (0:Int).toNat++(a0g (0:Int).toNat++(a0g (0:Int).toNat++r)):=by intro r;simp [a1p,a1X]
    rw [ha,ea,ht,a3W (by omega),a3W (by omega),a3W (by omega)]
    simp only [List.length_nil,List.nil_append]
    rw [show ((0:Nat):Int)=0 from rfl,a3W (by omega),a3S (by omega) (by omega)]
    exact a81 _ 0 (by omega) hg
   ·have ht0:0<e.op.text.length:=List.length_pos_iff.2 ht
    have hpt:=a6k hj hk1
    have ea:∀r,∃d,d<=3/\zr 0 (a1p e.op.after++r)=zr d r:=by
     intro r
     simp only [a16,Bool.or_eq_true,Bool.and_eq_true,decide_eq_true_eq] at e1
     rcases e1 with e1|e1
     ·have ea:a1p (⟨0,0,0⟩:a0B)++r=a0g (0:Int).toNat++(a0g (0:Int).toNat++(a0g (0:Int).toNat++r)):=by simp [a1p,a1X]
      rw [e1,ea,a3W (by omega),a3W (by omega),a3W (by omega)]
      exact ⟨3,by omega,rfl⟩
     ·obtain ⟨d,hd,e2⟩:=c4x ⟨e1.1.1,e1.1.2,e1.2⟩ 0 r
      exact ⟨d,by omega,e2⟩
    obtain ⟨d,_,e2⟩:=ea (a0g (e.op.text.length:Int).toNat++(e.op.text++(a0g (e.op.gone.length:Int).toNat++e.op.gone.flatMap a1p)))
    rw [e2,a3S (by omega) (by omega),b1H,d0A _ _ ht (c7g e5),Option.bind_some]
    by_cases hg0:e.op.gone.length=0
    ·rw [hg0,show ((0:Nat):Int)=0 from rfl,a3W (by omega)]
     exact a81 _ 1 (by omega) hg
    ·rw [a3S (by omega) (by omega)]
     exact a81 _ 0 (by omega) hg
 ·have h':=h
  rw [a0H,if_pos hj,a4y] at h'
  simp only [Bool.and_eq_true,decide_eq_true_eq] at h'
  obtain ⟨⟨h1,h2⟩,h3⟩:=h'
  have e1:a0E e=a0g (1:Int).toNat++(a0g e.a0N.toNat++[]):=by simp [a0E,hj]
  rw [e1,a3S (by omega) (by omega),a3S (by omega) (by omega)]
  exact ⟨0,by omega,rfl⟩
theorem a8j {e:a0k}:2<=(a0E e).length:=by
 have one:∀n,1<=(a0g n).length:=fun n=>by
  show 1<=(a00 9 n).length
  rw [a00];split<;>simp
 unfold a0E
 split
 ·have:=one 1;have:=one e.a0N.toNat
  simp only [List.length_append];omega
 ·have:=one 0
  have:1<=(a0Z e.op).length:=by
   have:=one e.op.site.toNat
   unfold a0Z
   split<;>simp [a3R,a1X]<;>omega
  simp only [List.length_append];omega
def f3e (s s':List UInt8):Prop:=s'.length=s.length/\∀i,s'[i]?=s[i]?\/∀j,j<s.length->j/16=i/16->s'[j]?=some 0
theorem a3l {n:Nat} (h:n<=700):a0g n=if n<128 then [UInt8.ofNat n] else [UInt8.ofNat (n%128+128),UInt8.ofNat (n/128)]:=by
 show a00 9 n=_
 rw [a00]
 split
 ·rfl
 ·rw [a00,if_pos (by omega)]
theorem f3f (B C D:List UInt8) (i:Nat) (h:i<C.length):(B++(C++D))[B.length+i]?=C[i]?:=by
 rw [List.getElem?_append_right (by omega),show B.length+i-B.length=i by omega,List.getElem?_append_left h]
theorem get4 (B C D E:List UInt8) (i:Nat) (h:i<D.length):(B++(C++(D++E)))[B.length+C.length+i]?=D[i]?:=by
 rw [List.getElem?_append_right (by omega),List.getElem?_append_right (by omega),show B.length+C.length+i-B.length-C.length=i by omega,List.getElem?_append_left h]
theorem c4y {e:a0k} (h:a0H e=true) (hf:(a0j e).2=0) {z:Nat} {s':List UInt8} (hlo:f3e ((a0j e).1++List.replicate z 0) s') (hr:(a0P s').2.2=true):s'=(a0j e).1++List.replicate z 0:=by
 have hl:(a0E e).length<=700:=by
  unfold a0j at hf
  split at hf
  ·cases hf
  ·omega
 have hfr:(a0j e).1=a03 (a0E e)++List.replicate (b0t (a03 (a0E e)).length) 0:=by
  rw [a0j,if_neg (by omega)];rfl
 rw [hfr,List.append_assoc,List.replicate_append_replicate] at hlo ⊢
 generalize b0t (a03 (a0E e)).length+z=zz at hlo ⊢
 have hp2:=a8j (e:=e)
 obtain ⟨dz,hdz,hz⟩:=b9Z h hl
 unfold a0P at hr
 cases hq:a2L s' with
 |none=>simp [hq] at hr
 |some q=>
  obtain ⟨t',r'⟩:=q
  obtain ⟨hsp,ht7⟩:=a5m hq
  simp only [hq] at hr
  split at hr
  rotate_left
  ·cases hr
  rename_i hre
  have hpt:=a7z hre
  have hmay:=b54 hre
  have ht2:2<=t'.length:=by rw [<-hpt];exact a8j
  obtain ⟨dz',f8G,hz'⟩:=b9Z hmay (by rw [hpt];exact ht7)
  rw [hpt] at hz'
  generalize a0E e=t at *
  have es:a03 t++List.replicate zz 0=a0g t.length++(a1x (ofN (a0g t.length++t))++(t++List.replicate zz 0)):=by rw [a03,if_neg (by omega)];simp
  have es':s'=a0g t'.length++(a1x (ofN (a0g t'.length++t'))++(t'++r')):=by rw [hsp,a03,if_neg (by omega)];simp
  generalize hS:a03 t++List.replicate zz 0=s at *
  obtain ⟨hlen,c1u⟩:=hlo
  have hb1:(a0g t.length).length<=2/\1<=(a0g t.length).length:=by rw [a3l hl];split<;>simp
  have hb1':(a0g t'.length).length<=2/\1<=(a0g t'.length).length:=by rw [a3l ht7];split<;>simp
  have f7H:s.length=(a0g t.length).length+(4+(t.length+zz)):=by rw [es];simp [a3I]
  have h00:s'[0]?≠some 0:=by
   rw [es',a3l ht7]
   intro hx
   split at hx
   ·simp only [List.cons_append,List.getElem?_cons_zero,Option.some.injEq] at hx
    have:=congrArg UInt8.toNat hx
    simp at this
    omega
   ·simp only [List.cons_append,List.getElem?_cons_zero,Option.some.injEq] at hx
    have:=congrArg UInt8.toNat hx
    simp at this
    omega
  have hfirst:∀i,i<16->s'[i]?=s[i]?:=fun i hi=>by
   rcases c1u i with hx|hx
   ·exact hx
   ·exact (h00 (hx 0 (by omega) (by omega))).elim
  have hn:t'.length=t.length:=by
   have g0:=hfirst 0 (by omega)
   have g1:=hfirst 1 (by omega)
   rw [es,es',a3l hl,a3l ht7] at g0 g1
   by_cases c1:t.length<128<;>by_cases c2:t'.length<128
   ·simp only [if_pos c1,if_pos c2,List.cons_append,List.getElem?_cons_zero,Option.some.injEq] at g0
    have:=congrArg UInt8.toNat g0
    simp at this;omega
   ·simp only [if_pos c1,if_neg c2,List.cons_append,List.getElem?_cons_zero,Option.some.injEq] at g0
    have:=congrArg UInt8.toNat g0
    simp at this;omega
   ·simp only [if_neg c1,if_pos c2,List.cons_append,List.getElem?_cons_zero,Option.some.injEq] at g0
    have:=congrArg UInt8.toNat g0
    simp at this;omega
   ·simp only [if_neg c1,if_neg c2,List.cons_append,List.getElem?_cons_zero,List.getElem?_cons_succ,Option.some.injEq] at g0 g1
    have a0:=congrArg UInt8.toNat g0
    have a1:=congrArg UInt8.toNat g1
    simp at a0 a1;omega
  generalize hB:a0g t.length=B at *
  rw [hn,hB] at es' hb1'
  have hck:a1x (ofN (B++t'))=a1x (ofN (B++t)):=by
   apply List.ext_getElem?
   intro i
   by_cases hi:i<4
   ·have:=hfirst (B.length+i) (by omega)
    have g1:=f3f B (a1x (ofN (B++t))) (t++List.replicate zz 0) i hi
    have g2:=f3f B (a1x (ofN (B++t'))) (t'++r') i hi
    rw [<-es] at g1
    rw [<-es'] at g2
    rw [<-g1,<-g2]
    exact this
   ·rw [List.getElem?_eq_none (by rw [a3I];omega),List.getElem?_eq_none (by rw [a3I];omega)]
  have hof:ofN (B++t')=ofN (B++t):=by
   have l1:=b1h (B++t')
   have l2:=b1h (B++t)
   generalize ofN (B++t')=x at *
   generalize ofN (B++t)=y at *
   simp only [a1x,List.cons.injEq,and_true] at hck
   obtain ⟨k1,k2,k3,k4⟩:=hck
   have a1:=congrArg UInt8.toNat k1
   have a2:=congrArg UInt8.toNat k2
   have a3:=congrArg UInt8.toNat k3
   have a4:=congrArg UInt8.toNat k4
   simp at a1 a2 a3 a4
   omega
  have gt:∀i,i<t.length->s[B.length+4+i]?=t[i]?:=fun i hi=>by
   have:=get4 B (a1x (ofN (B++t))) t (List.replicate zz 0) i hi
   rwa [<-es] at this
  have gt':∀i,i<t.length->s'[B.length+4+i]?=t'[i]?:=fun i hi=>by
   have:=get4 B (a1x (ofN (B++t'))) t' r' i (by omega)
   rwa [<-es'] at this
  have c8H:∀i,i<t.length->t'[i]?≠t[i]?->t.length=i+1/\15<B.length+4+i/\t'[i]?=some 0:=by
   intro i hi hne
   have hz0:∀j,j<s.length->j/16=(B.length+4+i)/16->s'[j]?=some 0:=by
    rcases c1u (B.length+4+i) with hx|hx
    ·exact (hne (by rw [<-gt i hi,<-gt' i hi];exact hx)).elim
    ·exact hx
   have h16:15<B.length+4+i:=by
    refine Classical.byContradiction fun q=>hne ?_
    rw [<-gt i hi,<-gt' i hi]
    exact hfirst _ (by omega)
   obtain ⟨c,hc⟩:∃c,(B.length+4+i)/16=c:=⟨_,rfl⟩
   obtain ⟨a,ha⟩:∃a,B.length+4+a=16*c:=⟨16*c-(B.length+4),by omega⟩
   have hzt:∀j,a<=j->j<a+16->j<t.length->t'[j]?=some 0:=fun j h1 h2 h3=>by
    rw [<-gt' j h3]
    exact hz0 _ (by omega) (by omega)
   have hrep:∀m,m<=16->a+m<=t.length->t'=t'.take a++(List.replicate m 0++t'.drop (a+m)):=fun m hm hml=>by
    have:(t'.drop a).take m=List.replicate m 0:=by
     apply List.ext_getElem?
     intro j
     rw [List.getElem?_take]
     by_cases hj:j<m
     ·rw [if_pos hj,List.getElem?_drop,hzt _ (by omega) (by omega) (by omega),List.getElem?_replicate,if_pos hj]
     ·rw [if_neg hj,List.getElem?_replicate,if_neg hj]
    rw [<-this,<-List.drop_drop,List.take_append_drop,List.take_append_drop]
   by_cases hfull:a+5<=t.length
   ·exfalso
    have:=hrep 5 (by omega) hfull
    rw [this,b1H] at hz'
    cases h5:zr 0 (t'.take a) with
    |none=>rw [h5] at hz';cases hz'
    |some d=>
     rw [h5,Option.bind_some,c4w 5 d _ (c7f _ 0 d (by omega) h5) (by omega)] at hz'
     cases hz'
   ·
    have hend:=hrep (t.length-a) (by omega) (by omega)
    rw [show a+(t.length-a)=t.length by omega,<-hn,List.drop_length,List.append_nil,hn] at hend
    have hone:t.length-a=1:=by
     refine Classical.byContradiction fun q=>?_
     rw [hend,b1H] at hz'
     cases h5:zr 0 (t'.take a) with
     |none=>rw [h5] at hz';cases hz'
     |some d=>
      have hd4:=c7f _ 0 d (by omega) h5
      rw [h5,Option.bind_some] at hz'
      obtain ⟨m,hm⟩:∃m,t.length-a=m+2:=⟨t.length-a-2,by omega⟩
      have run:∀(m d:Nat),d<=4->∀x,zr d (List.replicate m 0)=some x->d+m<=x:=fun m=>by
       induction m with
       |zero=>intro d _ x hx;simp [zr] at hx;omega
       |succ m ih=>
        intro d hd x hx
        rw [List.replicate_succ,zr,if_pos rfl] at hx
        split at hx
        ·cases hx
        ·have:=ih (d+1) (by omega) x hx;omega
      have:=run _ d hd4 _ hz'
      omega
    exact ⟨by omega,h16,hzt i (by omega) (by omega) hi⟩
  have htt:t'=t:=by
   refine Classical.byContradiction fun hne=>?_
   have:∃i,t'[i]?≠t[i]?:=Classical.byContradiction fun q=>hne (List.ext_getElem? fun i=>Classical.byContradiction fun q2=>q ⟨i,q2⟩)
   obtain ⟨i,hi⟩:=this
   have hil:i<t.length:=by
    refine Classical.byContradiction fun q=>hi ?_
    rw [List.getElem?_eq_none (by omega),List.getElem?_eq_none (by omega)]
   obtain ⟨p1,_,p3⟩:=c8H i hil hi
   have hsame:t'.take i=t.take i:=by
    apply List.ext_getElem?
    intro j
    rw [List.getElem?_take,List.getElem?_take]
    by_cases hj:j<i
    ·rw [if_pos hj,if_pos hj]
     refine Classical.byContradiction fun q=>?_
     have:=(c8H j (by omega) q).1
     omega
    ·rw [if_neg hj,if_neg hj]
   have hti:t[i]?=some t[i]:=List.getElem?_eq_getElem hil
   have e1:t=t.take i++[t[i]]:=by
    have:t.take (i+1)=t:=by rw [<-p1];exact List.take_length
    conv=>lhs;rw [<-this]
    rw [List.take_add_one,hti];rfl
   have e2:t'=t.take i++[0]:=by
    have:t'.take (i+1)=t':=by rw [<-p1,<-hn];exact List.take_length
    conv=>lhs;rw [<-this]
    rw [List.take_add_one,p3,hsame];rfl
   have hnz:t[i]≠0:=fun q=>hi (by rw [p3,hti,q])
   rw [e1,e2,<-List.append_assoc,<-List.append_assoc] at hof
   have snoc:∀(l:List UInt8) (b:UInt8) (h:Nat),ofF h (l++[b])=((ofF h l)*263+b.toNat+7)%4294967291:=fun l b=>by
    induction l with
    |nil=>intro h;rfl
    |cons x l ih=>intro h;rw [List.cons_append,ofF,ih,ofF]
   simp only [ofN,snoc] at hof
   have hlt:=UInt8.toNat_lt t[i]
   have:t[i].toNat≠0:=fun q=>hnz (by apply UInt8.toNat_inj.1;rw [q];rfl)
   have z0:(0:UInt8).toNat=0:=rfl
   rw [z0] at hof
   omega
  subst htt
  apply List.ext_getElem?
  intro i
  by_cases hi:i<B.length+4+t'.length
  ·have e1:s=(B++(a1x (ofN (B++t'))++t'))++List.replicate zz 0:=by rw [es];simp
   have e2:s'=(B++(a1x (ofN (B++t'))++t'))++r':=by rw [es'];simp
   have hlt:i<(B++(a1x (ofN (B++t'))++t')).length:=by simp [a3I];omega
   rw [e1,e2,List.getElem?_append_left hlt,List.getElem?_append_left hlt]
  ·by_cases hi2:i<s.length
   ·rcases c1u i with hx|hx
    ·exact hx
    ·rw [hx i hi2 rfl,es,List.getElem?_append_right (by omega),List.getElem?_append_right (by rw [a3I];omega),List.getElem?_append_right (by rw [a3I];omega),List.getElem?_replicate,if_pos (by rw [a3I];omega)]
   ·rw [List.getElem?_eq_none (by omega),List.getElem?_eq_none (by omega)]
end Go.AE
