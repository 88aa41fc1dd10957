/- What each function hands back, and that the law answers true, part 3. -/
import Derived.Test.YtmhmcamcenidaaaGreatHum2
set_option linter.unusedVariables false
set_option linter.unusedSimpArgs false
set_option maxHeartbeats 4000000
set_option maxRecDepth 8000
namespace Go.Ev
open Go.Proofs
theorem xtF {m:PV→Int→Option (PV×Int)} {p p':PV} {k k':Int} (h:m p k=some (p',k')) (hk:rg64 k=true) (K):call (gS m) [.one p,.one (I k)] K=K [p',I k']:=xaa (fun K=>by
 simp only [gS,hk,true_and,h]) K
theorem xrE {m:List PV→Int→Option (List PV×Int)} {ps ps':List PV} {k k':Int} (h:m ps k=some (ps',k')) (hk:rg64 k=true) (K):call (gT m) [.agg ps,.one (I k)] K=K (ps'++[I k']):=xaa (fun K=>by
 simp only [gT,hk,true_and,h]) K
theorem xf3 (l:List Int) (h:l.length≤4000000000) (k):call Qgo [.one (ints l),.one (ints l)] k=k [.bool true]:=xaa (fun k=>by
 have hm:=h
 simp [Qgo]
 refine xdw l rI 1 (.bool false) rfl (fun i x hx hi K=>?_) fun K=>?_
 ·simp [-getElem?_pos,Qgo_r0,hx,hi,xal (show i<1000000000000000000 by omega)]
 ·simp [Qgo_r0]) k
theorem xg5 (l:List ByteArray) (h:(l.length+xbd ByteArray.size l)≤4000000000) (k):call Qgv [.one (strs l),.one (strs l)] k=k [.bool true]:=xaa (fun k=>by
 have hm:=h
 simp [Qgv]
 refine xdw l rS 1 (.bool false) rfl (fun i x hx hi K=>?_) fun K=>?_
 ·simp [-getElem?_pos,Qgv_r0,hx,hi,xal (show i<1000000000000000000 by omega)]
 ·simp [Qgv_r0]) k
theorem xel (a:xb1) (h:xbm a≤4000000000) (k):call Qgp [.agg (xcS a),.agg (xcS a)] k=k [.bool true]:=xaa (fun k=>by
 unfold xbm at h
 simp [Qgp,xf3 a.Lst (by omega)]) k
theorem xiJ (a:xav) (h:xaz a≤4000000000) (k):call Qgw [.agg (xaF a),.agg (xaF a)] k=k [.bool true]:=xaa (fun k=>by
 unfold xaz at h
 simp [Qgw,xg5 a.Path (by omega)]) k
theorem xjX (a:xa8) (h:xbB a≤4000000000) (k):call Qgq [.agg (xbt a),.agg (xbt a)] k=k [.bool true]:=xaa (fun k=>by
 unfold xbB at h
 simp [Qgq,xel a.Keys (by omega),xel a.Heirs (by omega),xel a.Judge (by omega)]) k
theorem xjV (l:List xfP) (h:l.length≤4000000000) (k):call Qgs [.one (.list 2 (l.map xcp)),.one (.list 2 (l.map xcp))] k=k [.bool true]:=xaa (fun k=>by
 have hm:=h
 simp [Qgs]
 refine xdw l xcp 2 (.bool false) rfl (fun i x hx hi K=>?_) fun K=>?_
 ·simp [-getElem?_pos,Qgs_r0,hx,hi,xtX x,xal (show i<1000000000000000000 by omega)]
 ·simp [Qgs_r0]) k
theorem xcQ (a:xaf) (h:xar a≤4000000000) (k):call Qgt [.agg (xam a),.agg (xam a)] k=k [.bool true]:=xaa (fun k=>by
 unfold xar at h
 simp [Qgt,xjX a.Head (by omega),xjV a.Sigs (by omega)]) k
theorem xjY (a:xcb) (h:xcu a≤4000000000) (k):call Qhd [.agg (xbk a),.agg (xbk a)] k=k [.bool true]:=xaa (fun k=>by
 unfold xcu at h
 simp [Qhd,xcQ a.Before (by omega),xcQ a.A (by omega),xcQ a.B (by omega)]) k
theorem xg6 (l:List xaf) (h:xan l≤4000000000) (k):call Qgu [.one (.list 17 (l.map xam)),.one (.list 17 (l.map xam))] k=k [.bool true]:=xaa (fun k=>by
 have hm:=h
 unfold xan at hm
 simp [Qgu]
 refine xdw l xam 17 (.bool false) rfl (fun i x hx hi K=>?_) fun K=>?_
 ·have hs:xar x≤xbd xar l:=xaZ (s:=xar) (List.mem_of_getElem? hx)
  simp [-getElem?_pos,Qgu_r0,hx,hi,xcQ x (by omega),xal (show i<1000000000000000000 by omega)]
 ·simp [Qgu_r0]) k
theorem xgB (l:List (List xaf)) (h:xbw l≤4000000000) (k):call Qhc [.one (.list 1 (l.map (fun l:List xaf=>[.list 17 (l.map xam)]))),.one (.list 1 (l.map (fun l:List xaf=>[.list 17 (l.map xam)])))] k=k [.bool true]:=xaa (fun k=>by
 have hm:=h
 unfold xbw at hm
 simp [Qhc]
 refine xdw l (fun l:List xaf=>[.list 17 (l.map xam)]) 1 (.bool false) rfl (fun i x hx hi K=>?_) fun K=>?_
 ·have hs:xan x≤xbd xan l:=xaZ (s:=xan) (List.mem_of_getElem? hx)
  simp [-getElem?_pos,Qhc_r0,hx,hi,xg6 x (by omega),xal (show i<1000000000000000000 by omega)]
 ·simp [Qhc_r0]) k
theorem xiI (l:List xcb) (h:xdH l≤4000000000) (k):call Qhe [.one (.list 51 (l.map xbk)),.one (.list 51 (l.map xbk))] k=k [.bool true]:=xaa (fun k=>by
 have hm:=h
 unfold xdH at hm
 simp [Qhe]
 refine xdw l xbk 51 (.bool false) rfl (fun i x hx hi K=>?_) fun K=>?_
 ·have hs:xcu x≤xbd xcu l:=xaZ (s:=xcu) (List.mem_of_getElem? hx)
  simp [-getElem?_pos,Qhe_r0,hx,hi,xjY x (by omega),xal (show i<1000000000000000000 by omega)]
 ·simp [Qhe_r0]) k
theorem xiH (a:xaR) (h:xbK a≤4000000000) (k):call Qhf [.agg (xbN a),.agg (xbN a)] k=k [.bool true]:=xaa (fun k=>by
 unfold xbK at h
 simp [Qhf,xgB a.Chains (by omega),xiI a.Forks (by omega)]) k
theorem xjW (a:xn2) (h:xnC a≤4000000000) (k):call Qkt [.agg (xga a),.agg (xga a)] k=k [.bool true]:=xaa (fun k=>by
 unfold xnC at h
 simp [Qkt,xiH a.Known (by omega),xiJ a.Entry (by omega),xf3 a.Codes (by omega)]) k
theorem xgD (l:List xaJ) (s:ByteArray) (hl:l.length≤33554432) (hm:∀x∈l,xbn x≤33554432) (k):call Qjl [.one (.list 21 (l.map xax)),.one (.str s)] k=k (xoB (xg3 s l)):=xaa (fun k=>by
 simp only [Qjl,xay,List.length_map]
 refine (xfE l (fun i=>[.str s,.bool false,.list 21 (l.map xax),I l.length,I i,.bool false,.str ⟨#[]⟩,I 0,I 0,I 0,I 0,.str ⟨#[]⟩,I 0,I 0,.str ⟨#[]⟩,I 0,I 0,I 0,I 0,.list 1 [],.list 1 [],.list 1 [],.list 1 [],.list 1 [],.list 1 [],.list 17 []]) (fun _ x=>picks s x) (fun _ x=>k (xax x++[.bool true])) rfl (fun i x hx K=>?_) fun K=>?_).trans (by
  rw [xgG s k 0 l])
 ·have hxm:=List.mem_of_getElem? hx
  have hi:=xaM hx
  have e:=xwc x (hm x hxm)
  unfold picks
  cases hf:x.Found
  ·simp [-getElem?_pos,Qjl_r0,hx,hi,hf,xal (show i<1000000000000000000 by omega)]
  ·by_cases hs:x.Entry.Label=s
   ·subst hs
    simp only [xax,hf] at e
    simp [-getElem?_pos,Qjl_r0,hx,hi,hf,e]
   ·simp [-getElem?_pos,Qjl_r0,hx,hi,hf,hs,xal (show i<1000000000000000000 by omega)]
 ·simp [Qjl_r0,xtk]
  try exact Iff.rfl) k
theorem xgo (l:List xaJ) (s:ByteArray) (hl:l.length≤33554432) (hm:∀x∈l,xbn x≤33554432) (k):call Qhy [.one (.list 21 (l.map xax)),.one (.str s)] k=k (xoB (xg3 s l)):=xaa (fun k=>by
 simp only [Qhy]
 refine (xfE l (fun i=>[.list 21 (l.map xax),.str s,.bool false,I i,.bool false,.str ⟨#[]⟩,I 0,I 0,I 0,I 0,.str ⟨#[]⟩,I 0,I 0,.str ⟨#[]⟩,I 0,I 0,I 0,I 0,.list 1 [],.list 1 [],.list 1 [],.list 1 [],.list 1 [],.list 1 [],.list 17 []]) (fun _ x=>picks s x) (fun _ x=>k (xax x++[.bool true])) rfl (fun i x hx K=>?_) fun K=>?_).trans (by
  rw [xgG s k 0 l])
 ·have hxm:=List.mem_of_getElem? hx
  have hi:=xaM hx
  have e:=xww x (hm x hxm)
  unfold picks
  cases hf:x.Found
  ·simp [-getElem?_pos,Qhy_r0,hx,hi,hf,xal (show i<1000000000000000000 by omega)]
  ·by_cases hs:x.Entry.Label=s
   ·subst hs
    simp only [xax,hf] at e
    simp [-getElem?_pos,Qhy_r0,hx,hi,hf,e]
   ·simp [-getElem?_pos,Qhy_r0,hx,hi,hf,hs,xal (show i<1000000000000000000 by omega)]
 ·simp [Qhy_r0,xtk]
  try exact Iff.rfl) k
theorem xhv {α:Type} (f:α→Nat):∀(l m:List α),xbd f (l++m)=xbd f l+xbd f m
 | [],m=>by simp [xbd]
 | x::l,m=>by simp [xbd,xhv f l m];omega
theorem xkv {α:Type} (f:α→Nat) (z:α):∀(l:List α) (i:Nat),xbd f (l.set i z)≤xbd f l+f z
 | [],i=>by simp [xbd]
 | x::l,0=>by simp [xbd];omega
 | x::l,i+1=>by have:=xkv f z l i;simp [xbd];omega
theorem xmE {α:Type} {f:α→Nat} {b:Nat}:∀{l:List α},(∀x∈l,f x≤b)→xbd f l≤l.length*b
 | [],_=>by simp [xbd]
 | x::l,h=>by
  have h1:=h x List.mem_cons_self
  have h2:=xmE (l:=l) fun y hy=>h y (List.mem_cons_of_mem _ hy)
  simp only [xbd,List.length_cons,Nat.add_mul,Nat.one_mul];omega
theorem mKn (k:xaR):xbK k=(k.Chains.length+xbd xan k.Chains)+(k.Forks.length+xbd xcu k.Forks):=rfl
theorem xsb {k:xaR} {c:List xaf} (hk:KB k) (hc:xan c≤33554432):xbK (xc2 k c).1≤xbK k+100663297:=by
 unfold xc2
 split
 ·split
  ·show xbK k≤_
   omega
  ·have:=xhv xan k.Chains [c]
   rw [mKn,mKn]
   simp only [List.length_append,this,xbd,List.length_cons,List.length_nil]
   omega
 split
 ·have:=xkv xan c k.Chains (kI k c).toNat
  rw [mKn,mKn]
  simp only [List.length_set]
  omega
 split
 ·split
  ·rename_i f hf
   split
   ·have hm:xan (kC k c)≤33554432:=by
     unfold kC
     rw [List.getD_eq_getElem?_getD]
     cases hq:k.Chains[(kI k c).toNat]? with
     | none=>simp [xan,xbd]
     | some q=>exact hk.2.1 q (List.mem_of_getElem? hq)
    obtain ⟨f1,f2,f3⟩:=xo7 hm hc hf
    have e:xcu f=xar f.Before+(xar f.A+xar f.B):=rfl
    have:=xhv xcu k.Forks [f]
    rw [mKn,mKn]
    simp only [List.length_append,this,xbd,List.length_cons,List.length_nil]
    omega
   ·simp only;omega
  ·simp only;omega
 ·simp only;omega
theorem xuR {k:xaR} {a:xaJ} {z:Int} (hk:KB k) (ha:xbn a≤33554432):xbK (xlU k a z).1≤xbK k+100663297:=by
 unfold xlU
 split
 ·exact xsb hk (xbO ha).1
 ·simp only;omega
theorem xrv {z:Int} {s:ByteArray} {now:Int}:∀{l:List xaJ} {k:xaR} {cs:List Int} {i:Nat},KB k→(∀a∈l,xbn a≤33554432)→xbK (xeC z s now k cs i l).1≤xbK k+xbd (fun _=>100663297) l∧(xeC z s now k cs i l).2.1.length≤cs.length+l.length
 | [],k,cs,i,hk,_=>⟨Nat.le_add_right _ _,Nat.le_add_right _ _⟩
 | a::r,k,cs,i,hk,hl=>by
  rw [xeC]
  have h1:=xuR (z:=z) hk (hl a List.mem_cons_self)
  have hk1:=xrM (z:=z) hk (hl a List.mem_cons_self)
  have e:xbd (fun _=>100663297) (a::r)=100663297+xbd (fun _=>100663297) r:=rfl
  have e2:(cs++[xlO k a z s now]).length=cs.length+1:=by simp
  have e3:(a::r).length=r.length+1:=rfl
  rw [e,e3]
  split
  ·exact ⟨by show xbK (xlU k a z).1≤_;omega,by show (cs++[xlO k a z s now]).length≤_;omega⟩
  ·obtain ⟨h2,h3⟩:=xrv (z:=z) (s:=s) (now:=now) (cs:=cs++[xlO k a z s now]) (i:=i+1) hk1 (fun x hx=>hl x (List.mem_cons_of_mem _ hx))
   rw [e2] at h3
   exact ⟨by omega,by omega⟩
def pvF (z:Int) (s:ByteArray) (x:xaS):Option xaJ:=xg3 s (xfg x z (xbe s))
def pvA (l:List xaS) (z:Int) (s:ByteArray):List xaJ:=(l.take 4).filterMap (pvF z s)
theorem xo8 {l:List xaS} {f:xaS→Option xaJ} {i:Nat} {x:xaS} (h:l[i]? = some x):(l.take (i+1)).filterMap f=(l.take i).filterMap f++(f x).toList:=by
 rw [xaY h,List.filterMap_append]
 cases hf:f x<;>simp [hf]
theorem xtp {z:Int} {s:ByteArray} {x:xaS} {a:xaJ} (hm:xaX x≤1048576) (h:pvF z s x=some a):xbn a≤33554432:=by
 have:=(xgq hm z (xbe s)).2 a (xkK h)
 omega
theorem xmR {l:List xaS} (h:∀x∈l,xaX x≤1048576) (z:Int) (s:ByteArray):∀a∈pvA l z s,xbn a≤33554432:=by
 intro a ha
 unfold pvA at ha
 obtain ⟨x,hx,hf⟩:=List.mem_filterMap.1 ha
 exact xtp (h x (List.mem_of_mem_take hx)) hf
theorem xlW (l:List xaS) (z:Int) (s:ByteArray):(pvA l z s).length≤4:=by
 unfold pvA
 have:=List.length_filterMap_le (pvF z s) (l.take 4)
 have h4:(l.take 4).length≤4:=by simp;omega
 omega
theorem xj3 (k0:xaR) (l:List xaJ) (z:Int) (s:ByteArray) (now:Int) (hk:KB k0) (hl:l.length≤33554432) (ha:∀a∈l,xbn a≤33554432) (hs:s.size≤33554432) (k) :
 call Qkr [.agg (xbN k0),.one (.list 21 (l.map xax)),.one (I z),.one (.str s),.one (I now)] k=k (xga (xg4 (xeC z s now k0 [] 0 l))):=xaa (fun k=>by
 have e:=xj1 k0 l z s now hk hl ha hs
 simp [Qkr,e,xga]) k
def sPv (k0:xaR) (l:List xaS) (z:Int) (s:ByteArray) (now:Int):xn2:=xg4 (xeC z s now k0 [] 0 (pvA l z s))
theorem xi8 (a:xaJ):xoB (some a)=xax a++[.bool true]:=rfl
theorem xi9:xoB none=xax xtk++[.bool false]:=rfl
theorem xfi (k0:xaR) (l:List xaS) (z:Int) (s:ByteArray) (now:Int) (hk:KB k0) (h:∀x∈l,xaX x≤1048576) (hl:l.length≤1048576) (hs:s.size≤1048576) (k) :
 call Qks [.agg (xbN k0),.one (.list 2 (l.map xaU)),.one (I z),.one (.str s),.one (I now)] k=k (xga (sPv k0 l z s now)):=xaa (fun k=>by
 have hmin:(if (l.length:Int)<4 then (l.length:Int) else 4)=((l.take 4).length:Nat):=by
  rw [List.length_take];split<;>omega
 simp only [Qks,un,cur0]
 simp only [xay,List.length_map,xtu,xsa,hmin,Int.toNat_natCast,Int.natCast_nonneg,true_and,show (0:Nat)≤16777216 by omega,xsp,Option.getD_none,Option.getD_some,List.drop_zero]
 have ht:List.take (l.take 4).length (l.map xaU)=(l.take 4).map xaU:=by
  rw [List.length_take,List.map_take]
  rcases Nat.le_total 4 l.length with q | q
  ·rw [Nat.min_eq_left q]
  ·rw [Nat.min_eq_right q,List.take_of_length_le (by simp),List.take_of_length_le (by simpa using q)]
 rw [ht]
 have h4:(l.take 4).length≤l.length:=by rw [List.length_take];omega
 simp only [h4,Nat.zero_le,true_and,List.length_map]
 refine xbD (l.take 4) (fun i=>[I z,.str s,I now,.list 2 ((l.take 4).map xaU),I (l.take 4).length,I i,.bool false,.str ⟨#[]⟩,I 0,I 0,.bool false,chains k0.Chains,.list 51 (k0.Forks.map xbk),.list 1 [],.list 1 [],.list 51 [],.list 1 [],.list 21 (((l.take 4).take i).filterMap (pvF z s) |>.map xax)]) (by simp) (fun i x hx hi K=>?_) fun K=>?_
 ·have hmx:=h x (List.mem_of_mem_take (List.mem_of_getElem? hx))
  have e1:∀k,call Qix [.one (I z),.one (.str s)] k=k [I z,I (xbe s)]:=xaa (fun k=>by simp [Qix,xtT s (by omega)])
  have e2:=xvf x z (xbe s) (by omega)
  have hb:=xgq hmx z (xbe s)
  have hl4:(l.take 4).length≤4:=by rw [List.length_take];omega
  have hi18:i<1000000000000000000:=by omega
  have e3:=xgD (xfg x z (xbe s)) s (by omega) (fun a ha=>by have:=hb.2 a ha;omega)
  rw [xo8 hx]
  have hlen:(((l.take 4).take i).filterMap (pvF z s)).length≤4:=by
   have q1:=List.length_filterMap_le (pvF z s) ((l.take 4).take i)
   have q2:((l.take 4).take i).length≤4:=by simp;omega
   omega
  generalize ((l.take 4).take i).filterMap (pvF z s)=acc at hlen ⊢
  cases hp:pvF z s x with
  | none =>
   rw [show xg3 s (xfg x z (xbe s))=none from hp,xi9] at e3
   simp [-getElem?_pos,-List.map_take,-List.length_take,Qks_r0,hx,hi,e1,e2,e3,xal hi18]
  | some a =>
   rw [show xg3 s (xfg x z (xbe s))=some a from hp,xi8] at e3
   simp [-getElem?_pos,-List.map_take,-List.length_take,Qks_r0,hx,hi,e1,e2,e3,show acc.length+1<1073741824 by omega,xal hi18]
 ·have e:=xj3 k0 (pvA l z s) z s now hk (by have:=xlW l z s;omega) (xmR h z s) (by omega)
  rw [show ((l.take 4).take (l.take 4).length).filterMap (pvF z s)=pvA l z s by rw [List.take_length];rfl]
  simp [-List.map_take,-List.length_take,Qks_r0,e,sPv]) k
theorem xfe (k0:xaR) (l:List xaS) (z:Int) (s:ByteArray) (now:Int) (hk:KB k0) (h:∀x∈l,xaX x≤1048576) (hl:l.length≤1048576) (hs:s.size≤1048576) (k) :
 call Qiv [.agg (xbN k0),.one (.list 2 (l.map xaU)),.one (I z),.one (.str s),.one (I now)] k=k (xga (sPv k0 l z s now)):=xaa (fun k=>by
 simp only [Qiv,un,cur0]
 simp only [true_and,show (0:Nat)≤16777216 by omega]
 refine xmW (l.take 4).length (fun i=>[.list 2 (l.map xaU),I z,.str s,I now,I i,.bool false,.str ⟨#[]⟩,I 0,I 0,.bool false,chains k0.Chains,.list 51 (k0.Forks.map xbk),.list 1 [],.list 1 [],.list 51 [],.list 1 [],.list 21 (((l.take 4).take i).filterMap (pvF z s) |>.map xax)]) (by simp) (fun i hi K=>?_) fun K=>?_
 ·have hx4:(l.take 4)[i]? = some ((l.take 4)[i]'hi):=List.getElem?_eq_getElem hi
  generalize (l.take 4)[i]'hi=x at hx4
  have hi4:i<4:=by simp at hi;omega
  have hil:i<l.length:=by simp at hi;omega
  have hx:l[i]? = some x:=by rw [List.getElem?_take_of_lt hi4] at hx4;exact hx4
  have hmx:=h x (List.mem_of_getElem? hx)
  have e1:∀k,call Qho [.one (I z),.one (.str s)] k=k [I z,I (xbe s)]:=xaa (fun k=>by simp [Qho,xtV s (by omega)])
  have e2:=xvu x z (xbe s) (by omega)
  have hb:=xgq hmx z (xbe s)
  have e3:=xgo (xfg x z (xbe s)) s (by omega) (fun a ha=>by have:=hb.2 a ha;omega)
  rw [xo8 hx4]
  have hlen:(((l.take 4).take i).filterMap (pvF z s)).length≤4:=by
   have q1:=List.length_filterMap_le (pvF z s) ((l.take 4).take i)
   have q2:((l.take 4).take i).length≤4:=by simp;omega
   omega
  generalize ((l.take 4).take i).filterMap (pvF z s)=acc at hlen ⊢
  cases hp:pvF z s x with
  | none =>
   rw [show xg3 s (xfg x z (xbe s))=none from hp,xi9] at e3
   simp [-getElem?_pos,-List.map_take,-List.length_take,Qiv_r0,hx,hil,show (i:Int)<4 by omega,e1,e2,e3,xal (show i<1000000000000000000 by omega)]
  | some a =>
   rw [show xg3 s (xfg x z (xbe s))=some a from hp,xi8] at e3
   simp [-getElem?_pos,-List.map_take,-List.length_take,Qiv_r0,hx,hil,show (i:Int)<4 by omega,e1,e2,e3,show acc.length+1<1073741824 by omega,xal (show i<1000000000000000000 by omega)]
 ·have e:=xjI k0 (pvA l z s) z s now hk (by have:=xlW l z s;omega) (xmR h z s) (by omega)
  rw [show ((l.take 4).take (l.take 4).length).filterMap (pvF z s)=pvA l z s by rw [List.take_length];rfl]
  by_cases q:l.length≤4
  ·have hq:(l.take 4).length=l.length:=by simp;omega
   rw [hq]
   by_cases q2:l.length<4<;>simp [Qiv_r0,q2,e,sPv]
  ·have hq:(l.take 4).length=4:=by simp;omega
   rw [hq]
   simp [Qiv_r0,show (4:Int)<(l.length:Int) by omega,e,sPv]) k
theorem mPv {k0:xaR} {l:List xaS} {z:Int} {s:ByteArray} {now:Int} (hk:KB k0) (hm:xbK k0≤1048576) (h:∀x∈l,xaX x≤1048576):xnC (sPv k0 l z s now)≤4000000000:=by
 have h1:=xrv (z:=z) (s:=s) (now:=now) (cs:=[]) (i:=0) hk (xmR h z s)
 have h2:=xlW l z s
 have h3:=xmE (f:=fun _:xaJ=>100663297) (b:=100663297) (l:=pvA l z s) (fun _ _=>Nat.le_refl _)
 have h3':(pvA l z s).length*100663297≤4*100663297:=Nat.mul_le_mul_right _ h2
 have hat:∀i a,(xeC z s now k0 [] 0 (pvA l z s)).2.2=some (i,a)→xbn a≤33554432:=fun i a hq=>xmR h z s a (List.mem_of_getElem? (xoQ hq).2.1)
 unfold sPv
 generalize xeC z s now k0 [] 0 (pvA l z s)=q at *
 obtain ⟨k1,cs,o⟩:=q
 simp only [List.length_nil,Nat.zero_add] at h1
 unfold xg4
 cases o with
 | none =>
  show xbK k1+(xaz xc1+cs.length)≤4000000000
  have:xaz xc1=0:=rfl
  omega
 | some ia =>
  obtain ⟨i,a⟩:=ia
  have:=(xbO (hat i a rfl)).2.1
  show xbK k1+(xaz a.Entry+cs.length)≤4000000000
  omega
theorem laws_FnExactPrivateLookUp_law (pvss:List (List PV)) (h:xdd [[.list [.list [.int .i64,.int .i64,.int .i64,.int .i64,.int .i64,.int .i64,.int .i64,.int .i64,.list [.int .i64],.int .i64,.list [.int .i64],.int .i64,.int .i64,.list [.int .i64],.int .i64,.bool,.list [.int .i64,.int .i64]]],.list [.int .i64,.int .i64,.int .i64,.int .i64,.int .i64,.int .i64,.int .i64,.int .i64,.list [.int .i64],.int .i64,.list [.int .i64],.int .i64,.int .i64,.list [.int .i64],.int .i64,.bool,.list [.int .i64,.int .i64],.int .i64,.int .i64,.int .i64,.int .i64,.int .i64,.int .i64,.int .i64,.int .i64,.list [.int .i64],.int .i64,.list [.int .i64],.int .i64,.int .i64,.list [.int .i64],.int .i64,.bool,.list [.int .i64,.int .i64],.int .i64,.int .i64,.int .i64,.int .i64,.int .i64,.int .i64,.int .i64,.int .i64,.list [.int .i64],.int .i64,.list [.int .i64],.int .i64,.int .i64,.list [.int .i64],.int .i64,.bool,.list [.int .i64,.int .i64]]],[.list [.list [.list [.int .i64,.int .i64,.int .i64,.int .i64,.int .i64,.int .i64,.int .i64,.int .i64,.list [.int .i64],.int .i64,.list [.int .i64],.int .i64,.int .i64,.list [.int .i64],.int .i64,.bool,.list [.int .i64,.int .i64]],.list [.str,.int .i64,.int .i64,.list [.str]]],.int .i64]],[.int .i64],[.str],[.int .i64]] pvss):laws_FnExactPrivateLookUp (xiO Tryz.prog Tryz.f5.params.toList pvss) (fun o=>o=[PV.bool true]):=by
 obtain ⟨p0,r0,rfl,h0,hq0⟩:=xeP h
 obtain ⟨p1,r1,rfl,h1,hq1⟩:=xeP hq0
 obtain ⟨p2,r2,rfl,h2,hq2⟩:=xeP hq1
 obtain ⟨p3,r3,rfl,h3,hq3⟩:=xeP hq2
 obtain ⟨p4,r4,rfl,h4,hq4⟩:=xeP hq3
 rw [xqE hq4]
 obtain ⟨x0,rfl,w0⟩:=xqH _ h0
 obtain ⟨v1,rfl,g1⟩:=xcV h1
 obtain ⟨x1,rfl,w1⟩:=xnN g1
 obtain ⟨v2,rfl,g2⟩:=xcV h2
 obtain ⟨zone,rfl⟩:=xaE g2
 obtain ⟨v3,rfl,g3⟩:=xcV h3
 obtain ⟨x3,rfl,w3⟩:=xmg g3
 obtain ⟨v4,rfl,g4⟩:=xcV h4
 obtain ⟨now,rfl⟩:=xaE g4
 rw [show xiO Tryz.prog Tryz.f5.params.toList [xbN x0,[.list 2 (x1.map xaU)],[I zone],[.str x3],[I now]]=[.agg (xbN x0),.one (.list 2 (x1.map xaU)),.one (I zone),.one (.str x3),.one (I now)] by kernel_rfl]
 by_cases cs:(1048576:Int)<(x3.size:Int)
 ·simp only [laws_FnExactPrivateLookUp,un,cur0,xdy,xbp,xah,cs,decide_true,if_true,xau,xap,xaj,xaq,true_and]
 have t1:=xwO x0 1048576 w0 (by omega) (by omega)
 by_cases c0:((xbK x0:Nat):Int)≤1048576
 rotate_left
 ·simp only [laws_FnExactPrivateLookUp,un,cur0,xdy,xbp,cs,t1,xaw c0,xao,xah,xag,xbq,show ((-1:Int)<0) by omega,decide_true,decide_false,Bool.false_eq_true,if_false,if_true,xau,xap,xaj,xaq,true_and]
 have t2:=xwS x1 (1048576-((xbK x0:Nat):Int)) w1 (by omega) (by omega)
 by_cases c1:((xcl x1:Nat):Int)≤1048576-((xbK x0:Nat):Int)
 rotate_left
 ·simp only [laws_FnExactPrivateLookUp,un,cur0,xdy,xbp,cs,t1,t2,xa7 c0,xaw c1,xao,xah,xag,xbq,show ¬(1048576-((xbK x0:Nat):Int)<0) by omega,show ((-1:Int)<0) by omega,decide_true,decide_false,Bool.false_eq_true,if_false,if_true,xau,xap,xaj,xaq,true_and]
 have s0:xbK x0≤1048576:=by omega
 have s1:xcl x1≤1048576:=by omega
 have s3:x3.size≤1048576:=by omega
 have q1:=xwD x1 s1
 have q2:=xvE x1 s1
 have q3:=xwz x0 s0
 have q4:=xvA x0 s0
 obtain ⟨hx0,hx1⟩:x1.length≤1048576∧∀x∈x1,xaX x≤1048576:=by
  have e:xcl x1=x1.length+xbd xaX x1:=rfl
  refine ⟨by omega,fun x hx=>?_⟩
  have:=xaZ (s:=xaX) hx
  omega
 have hkb:KB x0:=by
  have e:=mKn x0
  refine ⟨by omega,fun c hc=>?_,by omega,fun f hf=>?_⟩
  ·have:=xaZ (s:=xan) hc;omega
  ·have:=xaZ (s:=xcu) hf
   have e2:xcu f=xar f.Before+(xar f.A+xar f.B):=rfl
   exact ⟨by omega,by omega,by omega⟩
 obtain ⟨c_1,c_2,kz,e1,b1,b2,_⟩:=xhW x0 1 (by omega) (by omega)
 obtain ⟨d_1,kx,e2,b3,b4,_⟩:=xjU x1 kz (by omega) (by omega)
 have mz:∀K,call laws_markKnown [.agg (xbN x0),.one (I 1)] K=K [c_1,c_2,I kz]:=xrE e1 (by decide)
 have mx:∀K,call laws_markServerS [.one (.list 2 (x1.map xaU)),.one (I kz)] K=K [d_1,I kx]:=xtF e2 (xcO (by omega) (by omega))
 have n1:¬(kx<0):=by omega
 have sp:=xfe x0 x1 zone x3 now hkb hx1 hx0 s3
 have im:=xfi x0 x1 zone x3 now hkb hx1 hx0 s3
 have hA:=mPv (z:=zone) (s:=x3) (now:=now) hkb s0 hx1
 generalize sPv x0 x1 zone x3 now=A at *
 have q5:=xjW A (by omega)
 obtain ⟨a_1,a_2,a_3,a_4,kA,e3,b5,b6,hh⟩:=xnB A 1 (by omega) (by omega)
 have mA:∀K,call laws_markLook [.agg (xga A),.one (I 1)] K=K [a_1,a_2,.bool A.Found,.str A.Entry.Label,I A.Entry.Kind,I A.Entry.Value,a_3,.bool A.Done,a_4,I kA]:=xrE e3 (by decide)
 have n2:¬(kA<0):=by omega
 have n0:¬(1048576-((xbK x0:Nat):Int)<0):=by omega
 have n3:¬(1048576-((xbK x0:Nat):Int)-((xcl x1:Nat):Int)<0):=by omega
 simp only [laws_FnExactPrivateLookUp,un,cur0,xdy,xbp,cs,t1,t2,xa7 c0,xa7 c1,n0,n3,q1,q2,q3,q4,q5,sp,im,List.cons_append,List.nil_append,xag,xbq,xbg,Bool.not_true,xah,Bool.false_eq_true,if_false,xnI,xmk,xk7,xas,xaq,xm3,true_and,mx,mz,xao,n1,n2,decide_false,mA,hh,xbU,xdB,bne_self_eq_false,xau,xap,xaj,and_true,and_self]
end Go.Ev
