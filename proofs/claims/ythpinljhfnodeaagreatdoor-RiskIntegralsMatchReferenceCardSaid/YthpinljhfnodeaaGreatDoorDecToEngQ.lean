/- Part of the proof of a statement about risks. -/
import Derived.Test.YthpinljhfnodeaaGreatDoorLib9ToBase
import Derived.Scope
import Derived.Laws.BytesString
import Derived.DefersIn
import Derived.Recover
set_option linter.all false
def b8 (B:Nat):List Nat->Nat
 |[]=>0
 |d::l=>d+B*b8 B l
def zh (B:Nat):Nat->Nat->List Nat
 |0,_=>[]
 |f+1,n=>if n=0 then[]else n%B::zh B f (n/B)
def av (B n:Nat):List Nat:=zh B n n
def HT (B:Nat)(hB:2<=B):∀(f n:Nat),n<=f->∀g,n<=g->zh B f n=zh B g n:=by
 intro f
 induction f with
 | zero=>
   intro n O g _
   obtain rfl:n=0:=J
   cases g <;>simp[zh]
 | succ f ih =>
   intro n O g _
   cases g with
   | zero => obtain rfl:n=0:=J
             simp[zh]
   | succ g=>
     simp only[zh]
     by_cases h0:n=0
     · simp[h0]
     · rw[if_neg h0,if_neg h0]
       have hd:n/B<n:=Nat.div_lt_self J J
       rw[ih (n/B) J g J]
def gL (B:Nat):av B 0=[]:=rfl
def gw (B n:Nat)(hB:2<=B)(hn:0<n):av B n=n%B::av B (n/B):=by
 unfold av
 cases n with
 |zero=>omega
 | succ m=>
   have hd:(m+1)/B<m+1:=Nat.div_lt_self J J
   simp only[zh]
   rw[if_neg J,HT B hB m ((m+1)/B) J ((m+1)/B) (Nat.le_refl _)]
def dj (B:Nat)(hB:2<=B)(n:Nat):b8 B (av B n)=n:=by
 induction n using Nat.strongRecOn with
 | _ n ih=>
   by_cases h0:n=0
   · subst h0;rfl
   · rw[gw B n hB J]
     simp only[b8]
     rw[ih (n/B) (Nat.div_lt_self J J)]
     exact Nat.mod_add_div n B
def dH (B:Nat)(hB:2<=B)(n:Nat):∀d∈av B n,d<B:=by
 induction n using Nat.strongRecOn with
 | _ n ih=>
   by_cases h0:n=0
   · subst h0;simp[gL]
   · rw[gw B n hB J]
     intro d hd
     rcases List.mem_cons.1 hd with rfl|h
     · exact Nat.mod_lt _ J
     · exact ih (n/B) (Nat.div_lt_self J J) d h
def Canon (B:Nat)(l:List Nat):Prop:=(∀d∈l,d<B)/\l.getLast?≠some 0
def Canon.tail {B d:Nat}{l:List Nat}(h:Canon B (d::l)):Canon B l:=by
 refine⟨λx hx=>h.1 x (List.mem_cons_of_mem _ hx),?_⟩
 have:=h.2
 cases l with
 |nil=>simp
 |cons e l=>simpa[List.getLast?_cons_cons]using this
def Canon.pos {B:Nat}(hB:2<=B):∀{l:List Nat},Canon B l->l≠[]->0<b8 B l
 |[],_,h=>absurd Z h
 | [d],h,_=>by
   have:=h.2
   simp[b8]at this ⊢
   omega
 | d::e::l,h,_=>by
   have:=Canon.pos hB h.tail RW
   simp only[b8]at this ⊢
   have:0<B*(e+B*b8 B l):=Nat.mul_pos J this
   omega
def mw {B:Nat}(hB:2<=B):∀{l:List Nat},Canon B l->l=av B (b8 B l)
 |[],_=>rfl
 | d::l,h=>by
   have hp:=Canon.pos hB h RW
   have hd:d<B:=h.1 d RW
   rw[gw B _ hB hp]
   simp only[b8]
   rw[Nat.add_mul_mod_self_left,Nat.mod_eq_of_lt hd,Nat.add_mul_div_left _ _ J,Nat.div_eq_of_lt hd,Nat.zero_add,<-mw hB h.tail]
def jY (B:Nat)(hB:2<=B)(n:Nat):(av B n).getLast?≠some 0:=by
 induction n using Nat.strongRecOn with
 | _ n ih=>
   by_cases h0:n=0
   · subst h0;simp[gL]
   · rw [gw B n hB J]
     have O:=ih (n/B) (Nat.div_lt_self J J)
     by_cases hq:n/B=0
     · rw[hq,gL]
       have:n<B:=by
        rcases Nat.lt_or_ge n B with h|h
        · exact h
        · have:=Nat.div_pos h J;omega
       simp[Nat.mod_eq_of_lt this];omega
     · rw[gw B (n/B) hB (Nat.pos_of_ne_zero hq)]at O ⊢
       simpa[List.getLast?_cons_cons]using O
def ei:List Nat->List Nat
 |[]=>[]
 |d::l=>if ei l=[]/\d=0 then[]else d::ei l
def zi (B:Nat):∀l,b8 B (ei l)=b8 B l
 |[]=>rfl
 | d::l=>by
   unfold ei
   have ih:=zi B l
   split
   · rename_i h;rw[h.1]at ih;simp only[b8]at *;rw[<-ih,h.2];simp
   · simp only[b8,ih]
def wi {d:Nat}:∀{l:List Nat},d∈ei l->d∈l
 |[],h=>h
 | e ::l,h=>by
   unfold ei at h
   split at h
   · simp at h
   · rcases List.mem_cons.1 h with rfl|h
     · simp
     · exact List.mem_cons_of_mem _ (wi h)
def tX:∀l,(ei l).getLast?≠some 0
 |[]=>by simp[ei]
 | d ::l=>by
   have ih:=tX l
   unfold ei
   split
   · simp
   · rename_i h
     cases ht:ei l with
     |nil=>simp[ht]at h ⊢;exact h
     |cons e m=>rw[ht]at ih;simpa[List.getLast?_cons_cons]using ih
def my (B:Nat)(hB:2<=B)(l:List Nat)(h:∀d∈l,d<B):ei l=av B (b8 B l):=by
 rw[<-zi B l]
 exact mw hB ⟨λd hd=>h d (wi hd),tX l⟩
def cS (B:Nat):∀a b,b8 B (a++b)=b8 B a+B^a.length*b8 B b
 |[],b=>by simp[b8]
 | d ::a,b=>by
   simp only[List.cons_append,b8,cS B a b,List.length_cons,Nat.pow_succ]
   rw[Nat.mul_add]
   have:B*(B^a.length*b8 B b)=B^a.length*B*b8 B b:=by
    rw[<-Nat.mul_assoc,Nat.mul_comm B]
   omega
def ji (B:Nat):∀l:List Nat,(∀d∈l,d<B)->b8 B l<B^l.length
 |[],_=>by simp[b8]
 | d::l,h=>by
   have ih:=ji B l (λx hx=>h x (List.mem_cons_of_mem _ hx))
   have hd:=h d RW
   simp only[b8,List.length_cons,Nat.pow_succ]
   have:B*(b8 B l+1)<=B*B^l.length:=Nat.mul_le_mul_left _ ih
   rw[Nat.mul_add]at this
   rw[Nat.mul_comm (B^l.length)]
   omega
def vO (B:Nat)(hB:2<=B)(n k:Nat)(h:n<B^k):(av B n).length<=k:=by
 induction k generalizing n with
 |zero=>simp at h;subst h;simp[gL]
 | succ k ih=>
   by_cases h0:n=0
   · subst h0;simp[gL]
   · rw[gw B n hB J]
     have:n/B<B^k:=by
      rw[Nat.div_lt_iff_lt_mul J]
      rwa [Nat.pow_succ]at h
     have:=ih _ this
     simp;omega
def aW (B:Nat)(hB:2<=B)(n k:Nat):(av B n).length<=k↔n<B^k:=by
 constructor
 · intro h
   have h1:=ji B (av B n) (dH B hB n)
   rw[dj B hB]at h1
   exact qb0 h1 (Nat.pow_le_pow_right J h)
 · exact vO B hB n k
def aR (d:Nat->Int)(c0:Int):Nat->Int×List Int
 |0=>(c0,[])
 | k+1=>if d k+(aR d c0 k).1<0 then(-1,(aR d c0 k).2++[d k+(aR d c0 k).1+10000])
   else if 10000<=d k+(aR d c0 k).1 then((d k+(aR d c0 k).1)/10000,(aR d c0 k).2++[(d k+(aR d c0 k).1)%10000])
   else(0,(aR d c0 k).2++[d k+(aR d c0 k).1])
def BY {d:Nat->Int}{c0:Int}{k:Nat}(h:d k+(aR d c0 k).1<0):aR d c0 (k+1)=(-1,(aR d c0 k).2++[d k+(aR d c0 k).1+10000]):=by
 rw[aR,if_pos h]
def BZ {d:Nat->Int}{c0:Int}{k:Nat}(h:¬d k+(aR d c0 k).1<0)(h2:10000<=d k+(aR d c0 k).1):aR d c0 (k+1)=((d k+(aR d c0 k).1)/10000,(aR d c0 k).2++[(d k+(aR d c0 k).1)%10000]):=by
 rw[aR,if_neg h,if_pos h2]
def tY {d:Nat->Int}{c0:Int}{k:Nat}(h:¬d k+(aR d c0 k).1<0)(h2:¬10000<=d k+(aR d c0 k).1):aR d c0 (k+1)=(0,(aR d c0 k).2++[d k+(aR d c0 k).1]):=by
 rw[aR,if_neg h,if_neg h2]
def fh (d:Nat->Int)(c0:Int):∀k,(aR d c0 k).2.length=k
 |0=>rfl
 | k+1=>by
   have:=fh d c0 k
   rw[aR];split <;>(try split) <;>simp[this]
def mz:List Int->Int
 |[]=>0
 |x::l=>x+10000*mz l
def jZ:∀a b,mz (a++b)=mz a+10000^a.length*mz b
 |[],b=>by simp[mz]
 | x::a,b=>by
   simp only[List.cons_append,mz,jZ a b,List.length_cons,Int.pow_succ]
   grind
def iV (d:Nat->Int):Nat->Int
 |0=>0
 |k+1=>iV d k+d k*10000^k
def jJ (d:Nat->Int)(c0:Int):∀k,mz (aR d c0 k).2+(aR d c0 k).1*10000^k=c0+iV d k
 |0=>by simp[aR,mz,iV]
 | k + 1=>by
   have ih:=jJ d c0 k
   have hl:=fh d c0 k
   rw[aR]
   split
   · simp only[jZ,hl,mz,iV,Int.pow_succ];grind
   · split
     · simp only[jZ,hl,mz,iV,Int.pow_succ]
       have h3:=Int.mul_ediv_add_emod (d k+(aR d c0 k).1) 10000
       grind
     · simp only[jZ,hl,mz,iV,Int.pow_succ];grind
def iN (d:Nat->Int)(c0:Int)(h:∀k,-10000<=d k+(aR d c0 k).1):∀k,∀x∈(aR d c0 k).2,0<=x/\x<10000
 |0=>by simp[aR]
 | k + 1=>by
   have ih:=iN d c0 h k
   have hk:=h k
   intro x hx
   rw[aR]at hx
   split at hx
   · rcases List.mem_append.1 hx with hx|hx
     · exact ih x hx
     · simp at hx;omega
   · split at hx
     · rcases List.mem_append.1 hx with hx|hx
       · exact ih x hx
       · simp at hx;omega
     · rcases List.mem_append.1 hx with hx|hx
       · exact ih x hx
       · simp at hx;omega
def fj (l:List Int):List Nat:=l.map Int.toNat
def lF:∀l:List Int,(∀x∈l,0<=x)->((b8 10000 (fj l):Nat):Int)=mz l
 |[],_=>rfl
 | x::l,h=>by
   have ih:=lF l (λy hy=>h y (by simp[hy]))
   have hx:=h x RW
   simp only[fj,List.map_cons,b8,mz]at *
   omega
def zj (l:List Int)(h:∀x∈l,0<=x):(fj l).map (λn:Nat=>(n:Int))=l:=by
 simp only[fj,List.map_map]
 conv=>rhs;rw[<-List.map_id l]
 apply List.map_congr_left
 intro x hx
 have:=h x hx
 simp;omega
def Fq (l:List Int)(h:∀x∈l,0<=x/\x<10000):∀x∈fj l,x<10000:=by
 intro x hx
 obtain⟨y,hy,rfl⟩:=List.mem_map.1 hx
 have:=h y hy
 omega
def jz (xs:List Nat):∀k,iV (λi=>((xs.getD i 0:Nat):Int)) k=((b8 10000 (xs.take k):Nat):Int)
 |0=>by simp[iV,b8]
 | k + 1=>by
   rw[iV,jz xs k]
   by_cases hk:k<xs.length
   · have:xs.take (k+1)=xs.take k++[xs.getD k 0]:=by
      rw[List.take_succ_eq_append_getElem hk];simp[hk]
     rw[this,cS]
     have hl:(xs.take k).length=k:=by simp;omega
     rw[hl]
     simp only[b8,Nat.mul_zero,Nat.add_zero]
     rw[Int.natCast_add,Int.natCast_mul,Int.natCast_pow]
     rw[Int.mul_comm];rfl
   · rw[List.take_of_length_le J,List.take_of_length_le J]
     have:xs.getD k 0=0:=by simp[List.getD,List.getElem?_eq_none (Nat.le_of_not_lt hk)]
     rw[this];simp
def zk (d e:Nat->Int):∀k,iV (λi=>d i+e i) k=iV d k+iV e k
 |0=>by simp[iV]
 |k+1=>by simp only[iV,zk d e k];grind
def zn (d e:Nat->Int):∀k,iV (λi=>d i-e i) k=iV d k-iV e k
 |0=>by simp[iV]
 |k+1=>by simp only[iV,zn d e k];grind
def zp (d:Nat->Int)(c:Int):∀k,iV (λi=>d i*c) k=iV d k*c
 |0=>by simp[iV]
 |k+1=>by simp only[iV,zp d c k];grind
def iW (xs:List Nat){k:Nat}(h:xs.length<=k):b8 10000 (xs.take k)=b8 10000 xs:=by rw[List.take_of_length_le h]
def getD_lt {xs:List Nat}(h:∀x∈xs,x<10000)(i:Nat):xs.getD i 0<10000:=by
 by_cases hi:i<xs.length
 · simp[hi];exact h _ (List.getElem_mem hi)
 · simp[List.getD,List.getElem?_eq_none (Nat.le_of_not_lt hi)]
def gM (xs ys:List Nat)(i:Nat):Int:=((xs.getD i 0:Nat):Int)+((ys.getD i 0:Nat):Int)
def ox {xs ys:List Nat}(hx:∀x∈xs,x<10000)(hy:∀x∈ys,x<10000):∀k,0<=(aR (gM xs ys) 0 k).1/\(aR (gM xs ys) 0 k).1<=1
 |0=>by simp[aR]
 | k+1=>by
   have ih:=ox hx hy k
   have h1:=getD_lt hx k
   have h2:=getD_lt hy k
   rw[aR]
   have hd:gM xs ys k=((xs.getD k 0:Nat):Int)+((ys.getD k 0:Nat):Int):=rfl
   split
   · omega
   · split <;>simp only <;>omega
def HU {xs ys:List Nat}(hx:∀x∈xs,x<10000)(hy:∀x∈ys,x<10000){n k:Nat}(hn:xs.length<=n/\ys.length<=n)(hk:n<=k)(hc:(aR (gM xs ys) 0 k).1=0):
 (∀x∈(aR (gM xs ys) 0 k).2,0<=x/\x<10000)/\b8 10000 (fj (aR (gM xs ys) 0 k).2)=b8 10000 xs+b8 10000 ys:=by
 have hd:∀x∈(aR (gM xs ys) 0 k).2,0<=x/\x<10000:=iN _ _ (λj=>by
  have:=ox hx hy j
  simp only[gM];omega) k
 refine⟨hd,?_⟩
 have h1:=jJ (gM xs ys) 0 k
 have h2:=lF _ (λx hx=>(hd x hx).1)
 have h3:iV (gM xs ys) k=((b8 10000 xs:Nat):Int)+((b8 10000 ys:Nat):Int):=by
  have:=zk (λi=>((xs.getD i 0:Nat):Int)) (λi=>((ys.getD i 0:Nat):Int)) k
  rw[jz,jz,iW xs J,iW ys J]at this
  exact this
 rw[hc]at h1
 omega
def zm (xs ys:List Nat)(i:Nat):Int:=((xs.getD i 0:Nat):Int)-((ys.getD i 0:Nat):Int)
def j0 {xs ys:List Nat}(hx:∀x∈xs,x<10000)(hy:∀x∈ys,x<10000):∀k,-1<=(aR (zm xs ys) 0 k).1/\(aR (zm xs ys) 0 k).1<=0
 |0=>by simp[aR]
 | k+1=>by
   have ih:=j0 hx hy k
   have h1:=getD_lt hx k
   have h2:=getD_lt hy k
   rw[aR]
   have hd:zm xs ys k=((xs.getD k 0:Nat):Int)-((ys.getD k 0:Nat):Int):=rfl
   split
   · simp
   · split <;>simp only <;>omega
def zq {l:List Int}(h:∀x∈l,0<=x/\x<10000):0<=mz l/\mz l<10000^l.length:=by
 induction l with
 |nil=>simp[mz]
 | cons x l ih=>
   have:=ih (λy hy=>h y (by simp[hy]))
   have hx:=h x RW
   simp only[mz,List.length_cons,Int.pow_succ]
   constructor
   · omega
   · omega
def Fs {xs ys:List Nat}(hx:∀x∈xs,x<10000)(hy:∀x∈ys,x<10000){n:Nat}(hn:xs.length<=n/\ys.length<=n)(hle:b8 10000 ys<=b8 10000 xs):
 (aR (zm xs ys) 0 n).1=0/\(∀k,∀x∈(aR (zm xs ys) 0 k).2,0<=x/\x<10000)/\∀k,n<=k->(aR (zm xs ys) 0 k).1=0->b8 10000 (fj (aR (zm xs ys) 0 k).2)=b8 10000 xs-b8 10000 ys:=by
 have hd:∀k,∀x∈(aR (zm xs ys) 0 k).2,0<=x/\x<10000:=iN _ _ (λj=>by
  have:=j0 hx hy j
  have h1:=getD_lt hx j
  have h2:=getD_lt hy j
  simp only[zm];omega)
 have h3:∀k,n<=k->iV (zm xs ys) k=((b8 10000 xs:Nat):Int)-((b8 10000 ys:Nat):Int):=λk hk=>by
  have:=zn (λi=>((xs.getD i 0:Nat):Int)) (λi=>((ys.getD i 0:Nat):Int)) k
  rw[jz,jz,iW xs J,iW ys J]at this
  exact this
 refine⟨?_,hd,λk hk hc=>?_⟩
 · have h1:=jJ (zm xs ys) 0 n
   have h4:=zq (hd n)
   have O:=j0 hx hy n
   rw[fh]at h4
   rw[h3 n (Nat.le_refl _)]at h1
   have hcases:(aR (zm xs ys) 0 n).1=-1\/(aR (zm xs ys) 0 n).1=0:=J
   rcases hcases with hc|hc
   · rw[hc]at h1;omega
   · exact hc
 · have h1:=jJ (zm xs ys) 0 k
   have h2:=lF _ (λx hx=>(hd k x hx).1)
   rw[hc,h3 k hk]at h1
   omega
def sv (xs:List Nat)(m:Nat)(i:Nat):Int:=((xs.getD i 0:Nat):Int)*(m:Int)
def xI {xs:List Nat}(hx:∀x∈xs,x<10000){m:Nat}(hm:m<10000)(i:Nat):0<=sv xs m i/\sv xs m i<=99980001:=by
 have h1:=getD_lt hx i
 have h2:xs.getD i 0*m<=9999*9999:=qb7 J J
 unfold sv
 rw[<-Int.natCast_mul]
 omega
def tZ {xs:List Nat}(hx:∀x∈xs,x<10000){m:Nat}(hm:m<10000):∀k,0<=(aR (sv xs m) 0 k).1/\(aR (sv xs m) 0 k).1<10000
 |0=>by simp[aR]
 | k+1=>by
   have ih:=tZ hx hm k
   have h1:=xI hx hm k
   rw[aR]
   split
   · omega
   · split <;>simp only <;>omega
def Q0 {xs:List Nat}(hx:∀x∈xs,x<10000){m:Nat}(hm:m<10000){n k:Nat}(hn:xs.length<=n)(hk:n<=k)(hc:(aR (sv xs m) 0 k).1=0):
 (∀x∈(aR (sv xs m) 0 k).2,0<=x/\x<10000)/\b8 10000 (fj (aR (sv xs m) 0 k).2)=b8 10000 xs*m:=by
 have hd:∀x∈(aR (sv xs m) 0 k).2,0<=x/\x<10000:=iN _ _ (λj=>by
  have:=tZ hx hm j
  have:=xI hx hm j
  omega) k
 refine⟨hd,?_⟩
 have h1:=jJ (sv xs m) 0 k
 have h2:=lF _ (λx hx=>(hd x hx).1)
 have h3:iV (sv xs m) k=((b8 10000 xs:Nat):Int)*(m:Int):=by
  have:=zp (λi=>((xs.getD i 0:Nat):Int)) (m:Int) k
  rw[jz,iW xs J]at this
  exact this
 rw[hc,h3]at h1
 rw[<-Int.natCast_mul]at h1
 omega
namespace Go.Eng
open Go Go.RowKit
variable {K K1 K2:Act->World->Prop}{xs:Array Operand}{ats:Array TypeId}{Q:Exit->Act->World->Prop}{fn:Func}{f:FuncId}{a c:Int}{ds:List Deferred}{bs order ps C:List Nat}{l rest:List Oper}{cs lb args vs la cs':List Value}{lo D N m base sz fuel i j s dd k k' p size bytes M:Nat}{ls:Nat->Bool}{e:Nat->Value}{o:Oper}{row:Option Nat}{t src dst el et:TypeId}{v v' v1 v2 v3 v4:Value}{W A B W' w0 w' w W0:World}
section range
variable {P:Program}
structure dN (bs:List Nat)(W W':World):Prop where
 size:W.heap.size<=W'.heap.size
 block:∀k,k<W.heap.size->k∉bs->W'.heap[k]?=W.heap[k]?
def dN.refl (bs:List Nat)(W:World):dN bs W W:=⟨qa0 _,λ_ _ _=>rfl⟩
def dN.ext (h:dN bs W A)(k:bF A B):dN bs W B:=
 ⟨qa8 h.size k.size,λi hi hb=>(k.block i (qb0 hi h.size)).trans (h.block i hi hb)⟩
def ab9:=@dN.ext
def dN.put {b:Nat}(h:dN bs W A)(k:fU A B b)(hb:b∈bs\/W.heap.size<=b):dN bs W B:=
 ⟨by rw[k.size];exact h.size,λi hi O=>(k.block i (λe=>by subst e;rcases hb with hb|hb;exact O hb;omega)).trans (h.block i hi O)⟩
def ac2:=@dN.put
def dN.gr (h:dN bs W A)(k:A.grownBy B row)(hb:∀b,row=some b->b∈bs\/W.heap.size<=b):dN bs W B:=
 ⟨qa8 h.size k.size,λi hi O=>(k.block i (qb0 hi h.size) (λe=>by rcases hb i e.symm with hb|hb;exact O hb;omega)).trans (h.block i hi O)⟩
def dN.others (h:dN bs W W')(hc:∀b∈bs,∃o:Obj,W.heap[b]?=some o/\o.isCells=true):KeepsOthers W W':=
 ⟨h.size,λk o hk ho=>(h.block k (Array.getElem?_eq_some_iff.1 hk).1 (λhm=>by
  obtain⟨o',qr,O⟩:=hc k hm
  rw[hk]at qr;cases qr;rw[ho]at O;cases O)).trans hk⟩
def dN.blk {b:Nat}{cs:Array Value}(h:dN bs W W')(hn:b∉bs)(hb:au W b t cs):au W' b t cs:=(h.block b hb.lt hn).trans hb
def dN.rw {A:Option Addr}(h:dN bs W W')(hn:∀ad,A=some ad->ad.block∉bs)(hb:Rw W lo A cs):Rw W' lo A cs:=by
 refine⟨λj u hu=>?_,hb.lo,λad e=>qb0 (hb.hi ad e) h.size⟩
 obtain⟨b,o,e,hc⟩:=hb.cells j u hu
 refine⟨b,o,e,?_⟩
 rw[<-hc]
 exact World.cell?_of_block (h.block b (hb.hi _ e) (hn _ e))
def au.isCells {b:Nat}{cs:Array Value}(h:au w b t cs):∃o:Obj,w.heap[b]?=some o/\o.isCells=true:=⟨_,h,rfl⟩
def ac5:=@au.isCells
def B0 (B:Nat)(q0:World->Prop):Prop:=
 ∀W W' row,q0 W->W.grownBy W' row->(∀r,row=some r->B<=r/\∃o:Obj,W.heap[r]?=some o/\o.isCells=false)->q0 W'
def au.cel {B b:Nat}{cs:Array Value}(hg:W.grownBy W' row)(hr:∀r,row=some r->B<=r/\∃o:Obj,W.heap[r]?=some o/\o.isCells=false)(h:au W b t cs):au W' b t cs:=
 (grownBy_keeps_cells hg (λr e=>(hr r e).2) h Z).trans h
def ab7:=@au.cel
def Rw.cel {B:Nat}{A:Option Addr}(hg:W.grownBy W' row)(hr:∀r,row=some r->B<=r/\∃o:Obj,W.heap[r]?=some o/\o.isCells=false)(h:Rw W lo A cs):Rw W' lo A cs:=by
 refine⟨λj u hu=>?_,h.lo,λO e=>qb0 (h.hi O e) hg.size⟩
 obtain⟨b,o,e,hc⟩:=h.cells j u hu
 exact⟨b,o,e,cell_kept hc hg (λr e=>(hr r e).2)⟩
def oU {B n0:Nat}(hn:n0<=B)(hg:W.grownBy W' row)(hr:∀r,row=some r->B<=r/\∃o:Obj,W.heap[r]?=some o/\o.isCells=false)(hs:n0<=W.heap.size)(h:Below n0 w0 W):Below n0 w0 W':=
 h.grown hg hs (λk e=>qa8 hn (hr k e).1)
def oV (w:World)(D:Nat):Prop:=w.heap[D]?=some (.deferred (some []))
def oV.ext (k:bF w w')(h:oV w D):oV w' D:=k.heap h
def oV.put {b:Nat}(k:fU w w' b)(hne:D≠b)(h:oV w D):oV w' D:=(k.block D hne).trans h
def ac3:=@oV.put
def oV.ne {b:Nat}{cs:Array Value}(h:oV w D)(hb:au w b t cs):D≠b:=λe=>by
 subst e;unfold oV at h;unfold au at hb;rw[h]at hb;cases hb
def OW (P:Program)(gf:Nat)(lb:List Value)(m:Nat)(enc:Nat->List Value)(order:List Nat)(Kq:World->Prop)(w:World):Prop:=
 SeqStopsK Fence.wide 8 P gf lb.toArray (λi:{i:Nat // i<m}=>(enc i.1).toArray) (λA B=>Kq A->Kq B) (λxs=>xs.map (·.1)=order) (λxs=>xs.map (·.1) <+: order) m w
def jj (e:Nat->Value):List Nat->List Value->Nat->Value
 |p::ps,v::vs=>jj (upd e p v) ps vs
 |_,_=>e
def Mh (N:Nat)(e:Nat->Value)(d:Nat)(v:Value):(act N e []).tmps.setIfInBounds d v=(act N (upd e d v) []).tmps:=by
 have:=aw N e [] d v
 exact qb1 Act.tmps this
def oW (N:Nat):∀(ps:List Nat) (vs:List Value) (e:Nat->Value),(ps.zip vs).foldl (λt (x:Nat×Value)=>t.setIfInBounds x.1 x.2) (act N e []).tmps=(act N (jj e ps vs) []).tmps
 |[],vs,e=>by simp[jj]
 |p::ps,[],e=>by simp[jj]
 | p::ps,v::vs,e=>by
   simp only[List.zip_cons_cons,List.foldl_cons,jj]
   rw[Mh,oW N ps vs]
def roundPost (Kq:World->Prop)(q0:List Nat->World->Prop)(Ix:Code->List Nat->World->Prop)(xs:List Nat)(W:World):Exit->Act->World->Prop
 | .normal,_,W'=>KeepsOthers W W'/\(Kq W->Kq W')/\q0 xs W'
 | .ret,_,W'=>KeepsOthers W W'/\Ix .ret xs W'
 | .exit id,_,W'=>KeepsOthers W W'/\Ix (.exit id) xs W'
 |_,_,_=>False
def sM {enc:Nat->List Value}{Kq:World->Prop}{gf:Nat}{g:Operand}{assign body:Code}(hg:ev N e g=.func (.func gf) #[] lb.toArray)(eg:Enters P gf)(hit:OW P gf lb m enc order Kq w)(hKq:B0 w.heap.size Kq)(hps:∀i,(enc i).length=ps.length)(qs:List Nat)(qv:Nat->List Value)(hassign:∀l x W K,K (act N (jj (jj e ps (enc x)) qs (qv x)) []) W->assign.wpIn (Fw (some l)) 7 P (Exit.then K (λ_ _ _=>False)) (act N (jj e ps (enc x)) []) W)(q0:List Nat->World->Prop)(Ix:Code->List Nat->World->Prop)(hI:∀xs,B0 w.heap.size (q0 xs))(hIx:∀c xs,B0 w.heap.size (Ix c xs))(h0:q0 [] w)(hbody:∀l pre x W,q0 pre W->(∀i∈pre,i<m)->x<m->pre.length<m->body.wpIn (Fw (some l)) 7 P (roundPost Kq q0 Ix (pre++[x]) W) (act N (jj (jj e ps (enc x)) qs (qv x)) []) W)(hdone:∀D W,w.heap.size<=D->q0 order W->oV W D->Q .normal (act N e (⟨.collected D,#[]⟩::ds)) W)(hstop:∀D c pre W,w.heap.size<=D->pre <+: order->Ix c pre W->oV W D->c.wpIn (Fw none) 9 P Q (act N e (⟨.collected D,#[]⟩::ds)) W):
 (Code.rangeFunc g ps.toArray assign body).wpIn (Fw none) 9 P Q (act N e ds) w:=by
 have A2:∀pre:List {i:Nat // i<m},∀i∈pre.map (·.1),i<m:=λpre i hi=>by
  obtain⟨x,_,rfl⟩:=List.mem_map.1 hi
  exact x.2
 refine wpIn_rangeFunc_ownF (F:=Fence.wide) (n:=9) (α:={i:Nat // i<m}) Z J (gf:=gf) (lb:=lb.toArray) (by rw[dI];exact hg) trivial eg (w0:=w) hit (λh k q=>k (h q))
  (λW l o o' hl ho hc _ q=>hKq W _ (some l) q (grownBy_putObj' W l o') (λr A1=>by cases A1;exact⟨hl,o,ho,hc⟩)) (Below.refl _ _) (λx=>by simpa using hps x.1)
  (λpre W=>q0 (pre.map (·.1)) W) (λc pre W=>Ix c (pre.map (·.1)) W) (λpre W W' row h=>hI (pre.map (·.1)) W W' row h) (λc pre W W' row h=>hIx c (pre.map (·.1)) W W' row h) h0
  (λx=>act N (jj (jj e ps (enc x.1)) qs (qv x.1)) []) (λl x W K hK=>?_) (λl pre x W hi qn=>?_) (λD xs W hD hS hi hK=>?_) (λD c pre W hD Ab hi hK=>?_)
 · have h:=hassign l x.1 W K hK
   have h2:({tmps:=(ps.toArray.zip (enc x.1).toArray).foldl (λt (p,v)=>t.setIfInBounds p v) (act N e ds).tmps,defers:=[]}:Act)=act N (jj e ps (enc x.1)) []:=by
    have h3:=oW N ps (enc x.1) e
    have:(act N (jj e ps (enc x.1)) [])=⟨(act N (jj e ps (enc x.1)) []).tmps,[]⟩:=rfl
    rw[this,<-h3]
    simp only[List.zip_toArray,List.foldl_toArray]
    rfl
   rw[h2]
   exact h
 · refine wpIn_mono (hbody l (pre.map (·.1)) x.1 W hi (A2 pre) x.2 (by simpa using qn)) ?_
   rintro ex a W3 O
   have qr:(pre++[x]).map (·.1)=pre.map (·.1)++[x.1]:=by simp
   cases ex with
   |normal=>exact⟨O.1,O.2.1,by simp only[];rw[qr];exact O.2.2⟩
   |ret=>exact⟨O.1,by simp only[];rw[qr];exact O.2⟩
   |exit id=>exact⟨O.1,by simp only[];rw[qr];exact O.2⟩
   |goto t=>exact O.elim
   |panic c=>exact O.elim
   |outgrown=>exact O.elim
 · exact hdone D W hD (by have h:xs.map (·.1)=order:=hS;rw[<-h];exact hi) hK
 · exact hstop D c _ W hD Ab hi hK
variable {c:Code}{R:Value->World->Prop}
def kV (args:List Value)(fn:Func):({tmps:=args.toArray++Array.replicate (fn.ntmps-args.toArray.size) undef,defers:=[]}:Act)=act (args.length+(fn.ntmps-args.length)) (LW args) []:=by
 simp only[act,Act.mk.injEq,and_true]
 apply Array.ext
 · simp
 · intro i _ _
   simp only[Array.getElem_ofFn,LW]
   by_cases hi:i<args.length
   · simp[hi]
   · have h3:args.toArray.size<=i:=by simpa using hi
     rw[Array.getElem_append_right h3]
     simp[List.getElem?_eq_none (Nat.le_of_not_lt hi)]
def uc (hf:P.funcs[f]?=some fn)(hb:fn.body=some c)(h:c.wpIn (Fw none) 9 P (bodyPostM Fence.wide 9 P fn (aC w R)) (act (args.length+(fn.ntmps-args.length)) (LW args) []) w):Calls P f args.toArray w (aC w R):=by
 refine tz (n:=9) (callsIn_of_wp_marks hf hb trivial ?_)
 rw[kV]
 exact h
def fk (w:World):fU w (w.putObj D (.deferred none)) D:=
 ⟨rfl,rfl,rfl,by simp,λk hk=>World.putObj_heap_other hk⟩
def jK (hK:oV w' D)(hr:(results fn (act N e [⟨.collected D,#[]⟩]).tmps).run P (w'.putObj D (.deferred none))=.ok v (w'.putObj D (.deferred none)))(hx:bF w (w'.putObj D (.deferred none)))(hR:R v (w'.putObj D (.deferred none))):bodyPostM Fence.wide 9 P fn (aC w R) .ret (act N e [⟨.collected D,#[]⟩]) w':=
 ⟨by simp,.inl ⟨D,_,rfl,run_takeDeferred hK,v,hr,hx,hR⟩⟩
def Mi {t:Nat}(hK:oV w' D)(hres:fn.results=#[.tmp t])(hx:bF w w')(hD:w.heap.size<=D)(hR:R v (w'.putObj D (.deferred none)))(hv:ev N e (.tmp t)=v):bodyPostM Fence.wide 9 P fn (aC w R) .ret (act N e [⟨.collected D,#[]⟩]) w':=
 jK hK (cF hres (aD hv _)) ((fk w').low hx hD) hR
def DK (hr:(results fn (act N e []).tmps).run P w'=.ok v w')(hx:bF w w')(hR:R v w'):bodyPostM Fence.wide 9 P fn (aC w R) .ret (act N e []) w':=
 ⟨v,hr,hx,hR⟩
def au.dfr {b:Nat}{cs:Array Value}(hK:oV w D)(h:au w b t cs):au (w.putObj D (.deferred none)) b t cs:=(fk w).blk (λe=>hK.ne h e.symm) h
def Rw.dfr {A:Option Addr}(hK:oV w D)(h:Rw w lo A cs):Rw (w.putObj D (.deferred none)) lo A cs:=by
 refine⟨λj u hu=>?_,h.lo,λqn e=>by rw[(fk w).size];exact h.hi qn e⟩
 obtain⟨b,o,e,hc⟩:=h.cells j u hu
 refine⟨b,o,e,?_⟩
 rw[<-hc]
 refine(fk w).cell ?_
 intro hb
 simp only at hb
 subst hb
 obtain⟨_,O,qr⟩:=cells_of_cell hc
 rw[show w.heap[b]?=some (.deferred (some []))from hK]at O
 cases O;cases qr
def xJ {l d ty:Nat}{pos:String}{af:Array Edge}{x:Operand}{R:Ending->World->Prop}(hx:ev N e x=.func (.yield l) #[] #[])(hv:xs.toList.map (ev N e)=vs)(hy:YieldAt Fence.wide 7 P l vs.toArray w R)(hk:∀c w',R c w'->match c with| .returned v=>K (act N (upd e d v) ds) w'|_=>False):Oper.wpIn (Fw none) 8 P ⟨some d,.call {callee:=.value x,args:=xs,argTypes:=ats},ty,pos,af,none⟩ (act N e ds) w K Q:=by
 subst hv
 obtain⟨fn,tmps,assign,body,hr,hR⟩:=hy
 have O:(xs.toList.map (ev N e)).toArray=xs.map (ev N e):=by rw[<-Array.toList_map,Array.toArray_toList]
 rw[O]at hr
 refine⟨λf _=>l8 none f,?_⟩
 rw[kP Z,dI]
 have:(execOp (ev N e) ⟨some d,.call {callee:=.value x,args:=xs,argTypes:=ats},ty,pos,af,none⟩).run P w=.ok (.round l fn tmps assign body) w:=by
  simp[execOp,resolve,Deferred.ofValue,hx,invoke,hr]
 rw[this]
 refine⟨(λh=>by rw[oO]at h;cases h),hR.mono ?_⟩
 intro c w' h
 have:=hk c w' h
 cases c with
 |returned v=>simp only at this ⊢;rw[aw];exact this
 |panicked c=>exact this.elim
 |outgrown=>exact this.elim
def qM {F:Fence}{n g:Nat}{R:Ending->World->Prop}{a:Value}(h:CallsIn F n P g (a::lb).toArray W R):CallsIn F n P g (#[a]++lb.toArray) W R:=by
 have:(#[a]++lb.toArray)=(a::lb).toArray:=by simp
 rw[this];exact h
def HV {R:Ending->World->Prop}(hf:P.funcs[f]?=some fn)(hb:fn.body=some c)(h:c.wpIn (Fw none) 8 P (bodyPost P fn R) (act (args.length+(fn.ntmps-args.length)) (LW args) []) w):CallsIn Fence.wide 8 P f args.toArray w R:=by
 refine callsIn_of_wp hf hb trivial ?_
 rw[kV]
 exact h
def Mj {R:Ending->World->Prop}(hres:fn.results=#[])(hR:∀v,R (.returned v) w'):bodyPost P fn R .ret (act N e []) w':=
 ⟨rfl,_,BC hres,hR _⟩
def xK {R:Ending->World->Prop}(hres:fn.results=#[])(hR:∀v,R (.returned v) w'):bodyPost P fn R .normal (act N e []) w':=
 ⟨rfl,_,BC hres,hR _⟩
def rO {q5 J' Kp:Prop}{c:Ending}(h:(c=.returned (.bool true)/\q5/\Kp)\/(c=.returned (.bool false)/\J')):∃q,c=.returned (.bool q)/\(q=true->q5/\Kp)/\(q=false->J'):=by
 rcases h with⟨h1,h2,h3⟩|⟨h1,h2⟩
 · exact⟨true,h1,λ_=>⟨h2,h3⟩,λh=>by cases h⟩
 · exact⟨false,h1,λh=>by(cases h),λ_=>h2⟩
end range
section
variable {P:Program}{r:Option Nat}{n:Nat}
variable {d ty:Nat}{pos:String}{af:Array Edge}{g:Option (Nat×Bool)}{u:Value}{x y:Operand}{t':TypeId}
def jA {k k':IntKind}{D:TypeDesc}(hs:P.underlying src=some D)(hd:P.underlying dst=some (.int k'))(hx:ev N e x=.int k a)(hc:k'.wrap a=c)(hk:K (act N (upd e d (.int k' c)) ds) w):
 Oper.wpIn (Fw r) n P ⟨some d,.convert src dst x,ty,pos,af,g⟩ (act N e ds) w K Q:=by
 refine dG (v:=.int k' c) (w':=w) Z ?_ Th
 subst hc
 simp[execOp,hx,convert,run_underlying hs,run_underlying hd,Conv.intToInt]
def Ui {k k':IntKind}{b:Int}(hx:ev N e x=.int k a)(hy:ev N e y=.int k' b)(hb:0<=b/\b<=8)(hc:a/2^b.toNat=c)(hk:K (act N (upd e d (.int k c)) ds) w):
 Oper.wpIn (Fw r) n P ⟨some d,.binOp .shr t x y t',ty,pos,af,g⟩ (act N e ds) w K Q:=by
 refine fV hx hy (dL ..) ?_ hk
 have h1:¬b<0:=J
 have h2:min b.toNat k.bits=b.toNat:=by
  have:8<=k.bits:=by cases k <;>decide
  omega
 subst hc
 simp only[binOp,Op.shift,h1,if_false,h2]
 simp[Int.fdiv_eq_ediv_of_nonneg _ (show(0:Int)<=2^b.toNat from Int.le_of_lt (Int.pow_pos J))]
def DL {R:Value->World->Prop}(hf:Enters P f)(hx:ev N e x=.func (.func f) la.toArray #[])(hv:xs.toList.map (ev N e)=vs)(hc:Calls P f (la++vs).toArray w (aC w R))(hk:∀v w',bF w w'->R v w'->K (act N (upd e d v) ds) w'):Oper.wpIn (Fw r) n P ⟨some d,.call {callee:=.value x,args:=xs,argTypes:=ats},ty,pos,af,g⟩ (act N e ds) w K Q:=by
 subst hv
 have h2:la.toArray++xs.map (ev N e)=(la++xs.toList.map (ev N e)).toArray:=by simp
 refine xi (f:=f) (args:=la.toArray++xs.map (ev N e)) (R:=R) Z ?_ (by rw[h2];exact hc) (λv w' h1 h2=>by rw[aw];exact hk v w' h1 h2)
 simp[execOp,resolve,Deferred.ofValue,hx,invoke,hf _ _]
def sN {b:Nat}{xs:List Value}(h:w.ownsRow base el sz (.slice (some ⟨b,0,none⟩) m m) m xs):au w b el xs.toArray:=by
 obtain⟨hl,⟨hv,_⟩|⟨g,cap,qn,hv,qr,O,hc,hm,hs,ht⟩⟩:=h
 · cases hv
 · simp only[Value.slice.injEq]at hv
   obtain⟨hv,-,rfl⟩:=hv
   cases hv
   rw[List.take_of_length_le (by simp[hs])]at ht
   subst ht
   simpa[au]using O
def Rw.of_blk {b:Nat}{xs:List Value}(h:au w b el xs.toArray)(hb:lo<=b):Rw w lo (some ⟨b,0,none⟩) xs:=by
 refine⟨λj u hu=>⟨b,0,rfl,?_⟩,λO e=>by cases e;exact hb,λO e=>by cases e;exact h.lt⟩
 rw[Nat.zero_add]
 exact h.cell (by simpa using hu)
def ab5:=@Rw.of_blk
def Q3 (p:Nat->Prop):List Nat->Prop
 |[]=>True
 |i::is=>p i/\Q3 p is
def zr {p:Nat->Prop}:∀{l:List Nat},Q3 p l->∀i∈l,p i
 | _::_,h,i,hi=>by
   rcases List.mem_cons.1 hi with rfl|hi
   · exact h.1
   · exact zr h.2 i hi
def Mk {id:Nat}(hm:P.follows .mixedOrders=true)(h:wpAnyIn (Fw r) n P .any l.toArray Q l.length (Array.replicate l.length false) (act N e ds) w.drew):(Code.region id l.toArray true).wpIn (Fw r) n P Q (act N e ds) w:=
 wpIn_region_any hm h
def ig {listed:Array Bool}{is:List Nat}{a:Act}(hr:Region.ready .any l.toArray listed=i::is)(h:Q3 (λi=>wpOpIn (Fw r) n P l.toArray Q i (wpAnyIn (Fw r) n P .any l.toArray Q fuel (listed.setIfInBounds i true)) a w) (i::is)):wpAnyIn (Fw r) n P .any l.toArray Q (fuel+1) listed a w:=
 ⟨λqr=>(by rw[hr]at qr;cases qr),λj O=>zr h j (by rw[hr]at O;exact O)⟩
def mA {a:Act}{dst:Option Nat}{op:Op}(ho:l[i]?=some ⟨dst,op,ty,pos,af,none⟩)(h:Oper.wpIn (Fw r) n P ⟨dst,op,ty,pos,af,none⟩ a w K Q):wpOpIn (Fw r) n P l.toArray Q i K a w:=by
 unfold wpOpIn
 rw[List.getElem?_toArray,ho]
 simp only[Region.wanted,if_true]
 exact h
def DN {listed:Array Bool}{a:Act}(hr:Region.ready .any l.toArray listed=[])(h:Q .normal a w):wpAnyIn (Fw r) n P .any l.toArray Q 0 listed a w:=⟨hr,h⟩
def wrap_i64 (h:-9223372036854775808<=a/\a<=9223372036854775807):IntKind.i64.wrap a=a:=mZ h
def wrap_u64 (h:0<=a/\a<=18446744073709551615):IntKind.u64.wrap a=a:=by
 have h1:a%18446744073709551616=a:=Int.emod_eq_of_lt h.1 J
 simp[IntKind.wrap,IntKind.bits,IntKind.signed,h1]
def Cf.ext {a:Addr}(k:bF w w')(h:w.cell? a=some v):w'.cell? a=some v:=k.cell h
def ab6:=@Cf.ext
def HW {k:IntKind}{b:Int}(hx:ev N e x=.int k a)(hy:ev N e y=.int k b)(hc:k.wrap (a-b)=c)(hk:K (act N (upd e d (.int k c)) ds) w):
 Oper.wpIn (Fw r) n P ⟨some d,.binOp .sub t x y t',ty,pos,af,g⟩ (act N e ds) w K Q:=
 fV hx hy (dL ..) (by subst hc;simp[binOp,Op.intArith]) hk
def wrap_u8 (h:0<=a/\a<=255):IntKind.u8.wrap a=a:=by
 have h1:a%256=a:=Int.emod_eq_of_lt h.1 J
 simp[IntKind.wrap,IntKind.bits,IntKind.signed,h1]
def Uj {op:Op}{q:Bool}(hj:eh l j=some s)(hv:ev N e (.tmp s)=undef)(hs:Nat.blt s N=true)(h:wpListIn (Fw r) n P l.toArray Q rest (act N (upd e dd undef) ds) w):wpListIn (Fw r) n P l.toArray Q (⟨some dd,op,ty,pos,af,some (j,q)⟩::rest) (act N e ds) w:=by
 have hj':(l.toArray[j]?).bind (·.dst)=some s:=by rw[List.getElem?_toArray];exact hj
 have hy:yielded l.toArray (act N e ds).tmps j=none:=by
  have h2:(act N e ds).eval (.tmp s)=undef:=by rw[dI];exact hv
  simp only[Act.eval]at h2
  have hs':s<(act N e ds).tmps.size:=by rw[Nat.blt_eq]at hs;simpa[act]using hs
  simp only[Array.getD,hs',dif_pos]at h2
  have h3:(act N e ds).tmps[s]?=some undef:=by rw[Array.getElem?_eq_getElem hs'];exact qb1 some h2
  unfold yielded;rw[hj',Option.bind_some,h3];rfl
 unfold wpListIn
 rw[if_neg (by simp[Region.wanted,hy])]
 exact⟨λf _=>l8 r f,by rw[aw];exact h⟩
def dD {l:List UInt8}(h:i<l.length):l[i]?=some (l.getD i 0):=by rw[List.getElem?_eq_getElem h];simp[List.getD,h]
def B5 {b o:Nat}(hx:ev N e x=.pointer (some ⟨b,o,none⟩))(hk:K (act N (upd e d (.pointer (some ⟨b,o,none⟩))) ds) w):
 Oper.wpIn (Fw r) n P ⟨some d,.nilCheck x,ty,pos,af,g⟩ (act N e ds) w K Q:=by
 refine dG (v:=.pointer (some ⟨b,o,none⟩)) (w':=w) Z ?_ Th
 simp[execOp,hx]
def gO {l:List UInt8}(hu:P.underlying t=some .string)(hx:ev N e x=S l)(hm:l.length=m)(hk:K (act N (upd e d (.int .i64 ((m:Nat):Int))) ds) w):
 Oper.wpIn (Fw r) n P ⟨some d,.call {callee:=.builtin .len,args:=#[x],argTypes:=#[t]},ty,pos,af,g⟩ (act N e ds) w K Q:=
 cY (l:=l) hu hx (by rw[hm];exact hk)
def iO :W.ownsRow base et sz (.slice none 0 0) 0 []:=⟨by simp,.inl ⟨rfl,rfl⟩⟩
def Q4 (h:W.ownsRow base et sz v k cs):v.ownBlock≠some W.heap.size:=by
 obtain⟨hl,⟨rfl,_⟩|⟨g,cap,qn,rfl,qr,O,_⟩⟩:=h
 · simp[Value.ownBlock]
 · have:g<W.heap.size:=(Array.getElem?_eq_some_iff.1 O).1
   simp[Value.ownBlock];omega
def fo {b:Nat}(ha:v'.ownBlock=v.ownBlock\/v'.ownBlock=some W.heap.size)(hn:v.ownBlock≠some b)(hb:b<W.heap.size):v'.ownBlock≠some b:=by
 rcases ha with h|h
 · rw[h];exact hn
 · rw[h];simp;omega
def Q5 (h:W.ownsRow base et sz v k cs):∀g,v.ownBlock=some g->base<=g:=by
 obtain⟨hl,⟨rfl,_⟩|⟨g,cap,qr,rfl,O,qn,_⟩⟩:=h
 · simp[Value.ownBlock]
 · intro _ e;simp[Value.ownBlock]at e;omega
def dQ {B:Nat}(h:W.ownsRow base et sz v k cs)(hB:B<=base)(hBw:B<=W.heap.size)(hE:Below B W0 W)(hg:W.grownBy W' v.ownBlock):Below B W0 W':=
 cI hE hg hBw (λg e=>qa8 hB (Q5 h g e))
def dT (h:W.ownsRow base et sz v k cs)(hk:k=k')(hc:cs=cs'):W.ownsRow base et sz v k' cs':=by subst hk hc;exact h
def Ml (h:W.ownsRow base et sz v k cs):v.oneCell'=true:=by
 obtain⟨hl,⟨rfl,_⟩|⟨g,cap,O,rfl,_⟩⟩:=h <;>rfl
def fp (R:Value->World->Prop):Ending->World->Prop
 | .returned v,w'=>R v w'
 |_,_=>False
def bU {R:Value->World->Prop}(hf:Enters P f)(hv:xs.toList.map (ev N e)=vs)(hc:Calls P f vs.toArray w (fp R))(hk:∀v w',R v w'->K (act N (upd e d v) ds) w'):Oper.wpIn (Fw r) n P ⟨some d,.call {callee:=.value (.func f),args:=xs,argTypes:=ats},ty,pos,af,g⟩ (act N e ds) w K Q:=by
 subst hv
 refine⟨λf _=>l8 r f,?_⟩
 have hs:(execOp (ev N e) ⟨some d,.call {callee:=.value (.func f),args:=xs,argTypes:=ats},ty,pos,af,g⟩).run P w=.ok (.enter f (xs.map (ev N e))) w:=by
  simp[execOp,resolve,Deferred.ofValue,ev,invoke,hf _ _]
 rw[kP Z,dI,hs]
 refine⟨(λh=>by rw[oO]at h;cases h),tv ((show Calls P f (xs.map (ev N e)) w (fp R)from by have h:=hc;rwa [show(xs.toList.map (ev N e)).toArray=xs.map (ev N e)by rw[<-Array.toList_map,Array.toArray_toList]]at h).mono ?_)⟩
 intro e' w' h
 cases e' with
 | returned v=>
   show K ((act N e ds).put (some d) v) w'
   rw[aw];exact hk v w' h
 |panicked c=>exact h.elim
 |outgrown=>exact h.elim
def DO {args:Array Value}{R:Ending->World->Prop}{Q:Value->World->Prop}(h:Calls P f args w R)(hq:∀e w',R e w'->∃v,e=.returned v/\Q v w'):Calls P f args w (fp Q):=
 h.mono (by
  intro e w' hR
  obtain⟨v,rfl,h2⟩:=hq e w' hR
  exact h2)
def aS {C:World}(h:A.grownBy B row)(k:bF B C):A.grownBy C row:=
 ⟨k.os.trans h.os,k.tape.trans h.tape,k.output.trans h.output,qa8 h.size k.size,λi hi hr=>(k.block i (qb0 hi h.size)).trans (h.block i hi hr)⟩
def xL {C:World}{b:Nat}(h:A.grownBy B (some b))(k:fU B C b):A.grownBy C (some b):=
 ⟨k.os.trans h.os,k.tape.trans h.tape,k.output.trans h.output,by rw[k.size];exact h.size,λi hi hr=>(k.block i (λe=>hr (by rw[e]))).trans (h.block i hi hr)⟩
def de {C:World}{b:Nat}(h:A.grownBy B row)(k:fU B C b)(hb:A.heap.size<=b):A.grownBy C row:=
 ⟨k.os.trans h.os,k.tape.trans h.tape,k.output.trans h.output,by rw[k.size];exact h.size,λi hi hr=>(k.block i J).trans (h.block i hi hr)⟩
def aY {C:World}(h:A.grownBy B row)(k:B.grownBy C row):A.grownBy C row:=
 ⟨k.os.trans h.os,k.tape.trans h.tape,k.output.trans h.output,qa8 h.size k.size,λi hi hr=>(k.block i (qb0 hi h.size) hr).trans (h.block i hi hr)⟩
def nM {c:Code}{R:Value->World->Prop}(hf:P.funcs[f]?=some fn)(hb:fn.body=some c)(h:c.wpIn (Fw none) 0 P (bodyPost P fn (fp R)) (act (args.length+(fn.ntmps-args.length)) (LW args) []) w):Calls P f args.toArray w (fp R):=by
 refine tz (n:=0) (callsIn_of_wp hf hb trivial ?_)
 rw[kV]
 exact h
def ge {R:Value->World->Prop}(hr:(results fn (act N e []).tmps).run P w'=.ok v w')(hR:R v w'):bodyPost P fn (fp R) .ret (act N e []) w':=
 ⟨rfl,v,hr,hR⟩
def Q6 {R:Value->World->Prop}(hr:(results fn (act N e []).tmps).run P w'=.ok v w')(hR:R v w'):bodyPost P fn (fp R) .normal (act N e []) w':=
 ⟨rfl,v,hr,hR⟩
end
section draws
variable {P:Program}{r:Option Nat}{n:Nat}{e0:Nat->Value}{ops:Array Oper}
def Mm {id:Nat}(hm:P.follows .mixedOrders=true)(M:Nat)(R:World->World->Prop)(hR0:∀w,R w w.drew)(hRt:∀a b c,R a b->R b c->R a c)(Φ:Nat->Value->World->Prop)(hΦ:∀i v w w',R w w'->Φ i v w->Φ i v w')(q5:(Nat->Bool)->World->Prop)(hJ0:q5 (λ_=>false) w0.drew)(hwf:∀(i:Nat) (o:Oper),l.toArray[i]?=some o->∀e∈o.after,Region.binds .any e=true->e.on<i)(hshape:Region.sinkB .any l.toArray M=true/\Region.chainB .any l.toArray M=true/\M<l.toArray.size\/M=l.toArray.size)(hdst:∀i j d,i<M->j<M->(l.toArray[i]?).bind (·.dst)=some d->(l.toArray[j]?).bind (·.dst)=some d->i=j)(hstep:∀(i:Nat) (o:Oper),i<M->l.toArray[i]? =some o->∀(e:Nat->Value) (w:World) (ls:Nat->Bool),q5 ls w->(∀j oj,l.toArray[j]? =some oj->ls j=true->∀ed∈oj.after,Region.binds .any ed=true->ls ed.on=true)->ls i=false->(∀ed∈o.after,Region.binds .any ed=true->ls ed.on=true)->R w0 w->(∀t,(∀j,j<M->(l.toArray[j]?).bind (·.dst)≠some t)->e t=e0 t)->
 (∀j,(∃ed∈o.after,Region.binds .any ed=true/\ed.on=j)->∀d,(l.toArray[j]?).bind (·.dst)=some d->Φ j (e d) w)->
 wpListIn (Fw r) n P l.toArray (λx a' w'=>x=.normal/\∃v,a'=(act N e ds).put o.dst v/\R w w'/\Φ i v w'/\q5 (λj=>if j=i then true else ls j) w') [o] (act N e ds) w)(hfin:∀(e:Nat->Value) (w:World),(∃ls:Nat->Bool,(∀j,j<M->ls j=true)/\q5 ls w)->R w0 w->(∀t,(∀j,j<M->(l.toArray[j]?).bind (·.dst)≠some t)->e t=e0 t)->
 (∀j d,j<M->(l.toArray[j]?).bind (·.dst)=some d->Φ j (e d) w)->wpListIn (Fw r) n P l.toArray Q (l.drop M) (act N e ds) w):
 (Code.region id l.toArray true).wpIn (Fw r) n P Q (act N e0 ds) w0:=by
 have hMle:M<=l.toArray.size:=by rcases hshape with⟨_,_,h⟩|h <;>omega
 have hchain:Region.chainB .any l.toArray M=true:=by
  rcases hshape with⟨_,h,_⟩|h
  · exact h
  · refine List.all_eq_true.2 λt ht=>?_
    have:=List.mem_range.1 ht
    simp only[Bool.or_eq_true,decide_eq_true_eq]
    left;omega
 refine wpIn_region_any hm ?_
 have main : ∀ (fuel:Nat) (listed:Array Bool) (e:Nat->Value) (w:World),left l.toArray listed<=fuel->HeadInv .any l.toArray M listed->q5 (λj=>listed.getD j false) w->R w0 w->
  (∀t,(∀j,j<M->(l.toArray[j]?).bind (·.dst)≠some t)->e t=e0 t)->
  (∀j d,j<M->listed.getD j false=true->(l.toArray[j]?).bind (·.dst)=some d->Φ j (e d) w)->
  wpAnyIn (Fw r) n P .any l.toArray Q fuel listed (act N e ds) w:=by
  intro fuel
  induction fuel with
  | zero=>
    intro listed e w hf inv hJ hR hs hφ
    have Ad:∀i,i<l.toArray.size->listed.getD i false=true:=by
     intro i hi
     cases hb:listed.getD i false with
     |true=>rfl
     | false=>
       have:=kR hi inv.size hb
       omega
    refine kQ hchain hwf 0 l.toArray.size listed _ w 0 Z hMle inv.size Ad (λi h1 h2=>by omega) (qa0 _) ?_
    by_cases hM:M=l.toArray.size
    · have h:=hfin e w ⟨_,λj O=>Ad j J,hJ⟩ hR hs (λj d O hd=>hφ j d O (Ad j J) hd)
      rw[hM]at h
      simpa using h
    · have h1:=inv.tail M (qa0 _) J
      have h2:=Ad M J
      rw[getD_both h1]at h2
      cases h2
  | succ fuel ih=>
    intro listed e w hf inv hJ hR hs hφ
    by_cases hdone:∀i,i<M->listed.getD i false=true
    · refine kQ hchain hwf (l.toArray.size-M) M listed _ w (fuel+1) J (qa0 _) inv.size hdone (λi h1 h2=>inv.tail i h1 h2) ?_ ?_
      · have h1:l.toArray.size-M<=left l.toArray listed:=qD hMle (λi h1 h2=>getD_both (inv.tail i h1 h2))
        omega
      · simpa using hfin e w ⟨_,λj O=>hdone j O,hJ⟩ hR hs (λj d O hd=>hφ j d O (hdone j O) hd)
    · have hex:∃i,i<M/\listed.getD i false=false:=by
       refine qb5 λAf=>hdone λi hi=>?_
       cases hb:listed.getD i false with
       |true=>rfl
       |false=>exact absurd ⟨i,hi,hb⟩ Af
      obtain⟨Am,Aw,Ao⟩:=hex
      have As:∀i∈Region.ready .any l.toArray listed,i<M:=by
       intro i hi
       rcases Nat.lt_or_ge i M with h|h
       · exact h
       · rcases hshape with⟨h1,h2,h3⟩|h3
         · exact absurd hi (tail_waits h1 h2 h3 inv _ Am Z Aw (getD_in (by rw[inv.size];omega) Ao) i h)
         · obtain⟨_,o,ho,_⟩:=mem_ready.1 hi
           have:=(Array.getElem?_eq_some_iff.1 ho).1
           omega
      refine⟨λAr=>?_,λi hi=>?_⟩
      ·
       exfalso
       have least:∀k i,i<=k->i<l.toArray.size->listed.getD i false=false->∃j,j∈Region.ready .any l.toArray listed:=by
        intro k
        induction k with
        | zero=>
          intro i hi hl hb
          obtain rfl:i=0:=J
          refine⟨0,mem_ready.2 ⟨getD_in ka6 hb,l.toArray[0],Array.getElem?_eq_getElem hl,λed qn A2=>?_⟩⟩
          have:=hwf 0 _ (Array.getElem?_eq_getElem hl) ed qn A2
          omega
        | succ k ihk=>
          intro i hi hl hb
          by_cases hp:∀ed∈(l.toArray[i]).after,Region.binds .any ed=true->listed.getD ed.on false=true
          · exact⟨i,mem_ready.2 ⟨getD_in ka6 hb,l.toArray[i],Array.getElem?_eq_getElem hl,hp⟩⟩
          · have:∃ed∈(l.toArray[i]).after,Region.binds .any ed=true/\listed.getD ed.on false=false:=by
             refine qb5 λAf=>hp λed qn A2=>?_
             cases hb:listed.getD ed.on false with
             |true=>rfl
             |false=>exact absurd ⟨ed,qn,A2,hb⟩ Af
            obtain⟨ed,qn,A2,Ab⟩:=this
            have E0:=hwf i _ (Array.getElem?_eq_getElem hl) ed qn A2
            exact ihk ed.on J J Ab
       obtain⟨j,O⟩:=least Am Am (qa0 _) J Ao
       rw[Ar]at O
       cases O
      · have hiM:=As i hi
        obtain⟨Ab,o,ho,hpred⟩:=mem_ready.1 hi
        have A1:=hstep i o hiM ho e w (λj=>listed.getD j false) hJ (λj oj O hl=>inv.closed j oj O hl) (getD_both Ab) hpred hR hs (λj ⟨ed,qn,hb,Aq⟩ d hd=>hφ j d (by have:=hwf i o ho ed qn hb;omega) (by rw[<-Aq];exact hpred ed qn hb) hd)
        have hnext:∀a' w',(∃v,a'=(act N e ds).put o.dst v/\R w w'/\Φ i v w'/\q5 (λj=>if j=i then true else listed.getD j false) w')->wpAnyIn (Fw r) n P .any l.toArray Q fuel (listed.setIfInBounds i true) a' w':=by
         rintro a' w' ⟨v,rfl,hR',hv,hJ'⟩
         have Ax:i<l.toArray.size:=J
         have hJ2:q5 (λj=>(listed.setIfInBounds i true).getD j false) w':=by
          have e:(λj=>(listed.setIfInBounds i true).getD j false)=(λj=>if j=i then true else listed.getD j false):=by
           funext j
           by_cases O:j=i
           · subst O;rw[if_pos Z];have:=inv.size;simp[Array.getD,this];omega
           · rw[if_neg O,getD_set_ne false (λh=>O h.symm)]
          rw[e];exact hJ'
         have Ap:left l.toArray (listed.setIfInBounds i true)<=fuel:=by
          have:=kR Ax inv.size (getD_both Ab)
          omega
         cases hd:o.dst with
         | none=>
           refine ih _ e w' Ap (inv.set hi hiM) hJ2 (hRt _ _ _ hR hR') hs (λj d O hl qr=>?_)
           by_cases hij:i=j
           · subst hij;rw[ho]at qr;simp[hd]at qr
           · rw[getD_set_ne false hij]at hl;exact hΦ _ _ _ _ hR' (hφ j d O hl qr)
         | some d0=>
           rw[aw]
           refine ih _ _ w' Ap (inv.set hi hiM) hJ2 (hRt _ _ _ hR hR') (λt ht=>?_) (λj d O hl qr=>?_)
           · have:t≠d0:=λh=>ht i hiM (by rw[ho];simp[hd,h])
             rw[upd_ne _ _ this];exact hs t ht
           · by_cases hij:i=j
             · subst hij
               rw[ho]at qr
               simp only[Option.bind_some,hd,Option.some.injEq]at qr
               subst qr
               rw[jg];exact hv
             · rw[getD_set_ne false hij]at hl
               have Av:d≠d0:=λh=>hij (hdst i j d hiM O (by rw[ho];simp[hd,h]) qr)
               rw[upd_ne _ _ Av]
               exact hΦ _ _ _ _ hR' (hφ j d O hl qr)
        unfold wpOpIn
        rw[ho]
        dsimp only
        unfold wpListIn at A1
        split
        · rename_i hw
          rw[if_pos hw]at A1
          exact jI (λa' w' Ay=>hnext a' w' Ay.2) (λc a w h=>by cases h.1) (λa w h=>by cases h.1) A1
        · rename_i hw
          rw[if_neg hw]at A1
          exact⟨A1.1,hnext _ _ A1.2.2⟩
 refine main _ _ e0 w0.drew ?_ ⟨by simp,λj oj O hl=>?_,λt h1 h2=>?_⟩ ((congrArg (λf=>q5 f w0.drew) (funext λj=>getD_replicate_false _ j)).mpr hJ0) (hR0 w0) (λ_ _=>rfl) (λj d O hl=>?_)
 · unfold left
   exact qa8 (List.length_filter_le _ _) RW
 · rw[getD_replicate_false]at hl;cases hl
 · have h3:t<l.length:=by simpa using h2
   simp[h3]
 · rw[getD_replicate_false]at hl;cases hl
def nN (C:List Nat)(i:Nat):Option Nat:=C.findIdx? (Nat.beq i)
def Q7 (l:List Oper)(C:List Nat):Bool:=(List.range C.length).all λp=>match C[p]? with
 |none=>false
 |some c=>Nat.beq p 0||(match C[p-1]?,l[c]? with|some c',some o=>dv o c'|_,_=>false)
def nodupB (C:List Nat):Bool:=(List.range C.length).all λp=>(List.range C.length).all λq=>Nat.beq p q||(match C[p]?,C[q]? with|some a,some b=>!Nat.beq a b|_,_=>true)
def cnt (C:List Nat)(ls:Nat->Bool):Nat:=(C.filter ls).length
def HX (r:Option Nat)(n:Nat)(P:Program)(N:Nat)(ds:List Deferred)(l:List Oper)(M:Nat)(R:World->World->Prop)(Φ:List (Value->World->Prop))(C:List Nat)(q0:Nat->World->Prop)(e0:Nat->Value)(w0:World):Nat->List Oper->List (Value->World->Prop)->Prop
 |_,[],_=>True
 |_,_::_,[]=>False
 |i,o::os,φ::φs=>(∀(e:Nat->Value) (w:World) (k:Nat),q0 k w->(∀p,nN C i=some p->k=p)->R w0 w->(∀t,tI l M t=false->e t=e0 t)->(∀j d,dv o j=true->eh l j=some d->phi Φ j (e d) w)->
  wpListIn (Fw r) n P l.toArray (λx a' w'=>x=.normal/\∃v,a'=(act N e ds).put o.dst v/\R w w'/\φ v w'/\q0 (match nN C i with|some p=>p+1|none=>k) w') [o] (act N e ds) w)/\HX r n P N ds l M R Φ C q0 e0 w0 (i+1) os φs
def wj {l:List Oper}{R:World->World->Prop}{Φ:List (Value->World->Prop)}{C:List Nat}{q0:Nat->World->Prop}:∀(os:List Oper) (φs:List (Value->World->Prop)) (i0:Nat),HX r n P N ds l M R Φ C q0 e0 w0 i0 os φs->∀i o,os[i]?=some o->
 (∀(e:Nat->Value) (w:World) (k:Nat),q0 k w->(∀p,nN C (i0+i)=some p->k=p)->R w0 w->(∀t,tI l M t=false->e t=e0 t)->(∀j d,dv o j=true->eh l j=some d->phi Φ j (e d) w)->
  wpListIn (Fw r) n P l.toArray (λx a' w'=>x=.normal/\∃v,a'=(act N e ds).put o.dst v/\R w w'/\phi φs i v w'/\q0 (match nN C (i0+i)with|some p=>p+1|none=>k) w') [o] (act N e ds) w)
 |[],_,_,_,i,o,h=>by simp at h
 |o'::os,[],_,h,i,o,ho=>h.elim
 |o'::os,φ::φs,i0,h,0,o,ho=>by simp at ho;subst ho;exact h.1
 | o'::os,φ::φs,i0,h,i+1,o,ho=>by
   have:=wj os φs (i0+1) h.2 i o ka9
   rw[show i0+1+i=i0+(i+1)by omega]at this
   simpa only[phi,List.getElem?_cons_succ]using this
def ud (h:nN C i=some p):C[p]?=some i:=by
 unfold nN at h
 obtain⟨h1,h2,_⟩:=List.findIdx?_eq_some_iff_getElem.1 h
 rw[List.getElem?_eq_getElem h1,Nat.eq_of_beq_eq_true h2]
def B6 (h:nN C i=none):i∉C:=by
 unfold nN at h
 rw[List.findIdx?_eq_none_iff]at h
 intro hm
 have:=h i hm
 simp at this
def Mn (h:i∉C):cnt C (λj=>if j=i then true else ls j)=cnt C ls:=by
 unfold cnt
 congr 1
 apply List.filter_congr
 intro x hx
 rw[if_neg (λe=>h (by rw[<-e];exact hx))]
def Mo (h:∀c∈C,ls c=true):cnt C ls=C.length:=by
 unfold cnt;rw[List.filter_eq_self.2 h]
def wk (hp:p<=C.length)(h1:∀q c,q<p->C[q]?=some c->ls c=true)(h2:∀q c,p<=q->C[q]?=some c->ls c=false):cnt C ls=p:=by
 have e:C.filter ls=(C.take p).filter ls++(C.drop p).filter ls:=by rw[<-List.filter_append,List.take_append_drop]
 unfold cnt
 rw[e,List.length_append]
 have O:(C.take p).filter ls=C.take p:=List.filter_eq_self.2 (λc hc=>by
  obtain⟨q,hq⟩:=List.mem_iff_getElem?.1 hc
  rw[List.getElem?_take]at hq
  split at hq
  · next hlt=>exact h1 q c hlt hq
  · cases hq)
 have qr:(C.drop p).filter ls=[]:=List.filter_eq_nil_iff.2 (λc hc=>by
  obtain⟨q,hq⟩:=List.mem_iff_getElem?.1 hc
  rw[List.getElem?_drop]at hq
  rw[h2 (p+q) c J hq];simp)
 rw[O,qr];simp;omega
def HY (hlink:∀p c c',C[p]?=some c'->C[p+1]?=some c->∃o,l[c]?=some o/\∃ed∈o.after,Region.binds .any ed=true/\ed.on=c')(hcl:∀j oj,l.toArray[j]?=some oj->ls j=true->∀ed∈oj.after,Region.binds .any ed=true->ls ed.on=true)(hget:∀j:Nat,l.toArray[j]?=l[j]?)(hni:ls i=false)(hpi:C[p]?=some i):∀q c,p<=q->C[q]?=some c->ls c=false:=by
 have Ab:∀d q c,C[q]?=some c->p+d=q->ls c=false:=by
  intro d
  induction d with
  | zero=>
    intro q c hq qr
    have:c=i:=by rw[show q=p by omega,hpi]at hq;exact(qb4 hq).symm
    rw[this];exact hni
  | succ d ih=>
    intro q c hq qr
    have O:p+d<C.length:=by have:=(List.getElem?_eq_some_iff.1 hq).1;omega
    obtain⟨o2,qn,ed,A1,hb,Ad⟩:=hlink (p+d) c (C[p+d]) (qa5 O) (by rw[show p+d+1=q by omega];exact hq)
    have A2:=ih (p+d) _ (qa5 O) Z
    cases hc:ls c with
    |false=>rfl
    | true=>
      have:=hcl c o2 (by rw[hget];exact qn) hc ed A1 hb
      rw[Ad,A2]at this
      cases this
 exact λq c hq hc=>Ab (q-p) q c hc J
def cnt_lt (hlink:∀p c c',C[p]?=some c'->C[p+1]?=some c->∃o,l[c]?=some o/\∃ed∈o.after,Region.binds .any ed=true/\ed.on=c')(hcl:∀j oj,l.toArray[j]?=some oj->ls j=true->∀ed∈oj.after,Region.binds .any ed=true->ls ed.on=true)(hget:∀j:Nat,l.toArray[j]?=l[j]?)(hpi:C[p]?=some i)(ho:l[i]?=some o)(hpr:∀ed∈o.after,Region.binds .any ed=true->ls ed.on=true):∀q c,q<p->C[q]?=some c->ls c=true:=by
 have Ad:∀d q c,C[q]?=some c->q+d=p->0<d->ls c=true:=by
  intro d
  induction d with
  |zero=>intro q c _ _ Am;omega
  | succ d ih=>
    intro q c hq Af _
    have O:q+1<C.length:=by have:=(List.getElem?_eq_some_iff.1 hpi).1;omega
    obtain⟨o2,qr,ed,A1,hb,A2⟩:=hlink q (C[q+1]) c hq (qa5 O)
    by_cases hd:d=0
    · subst hd
      have:C[q+1]=i:=by
       have qn:C[q+1]?=some i:=by rw[show q+1=p by omega];exact hpi
       rw[List.getElem?_eq_getElem O]at qn
       exact qb4 qn
      rw[this,ho]at qr
      cases qr
      have:=hpr ed A1 hb
      rwa [A2]at this
    · have Ab:=ih (q+1) (C[q+1]) (qa5 O) J J
      have:=hcl _ o2 (by rw[hget];exact qr) Ab ed A1 hb
      rwa [A2]at this
 exact λq c hq hc=>Ad (p-q) q c hc J J
def ue {a:Act}(h:wpListIn (Fw r) n P l.toArray (λx a w=>x=.normal/\K1 a w) [o] a w)(hk:∀a w,K1 a w->K2 a w):wpListIn (Fw r) n P l.toArray (λx a w=>x=.normal/\K2 a w) [o] a w:=by
 unfold wpListIn at h ⊢
 split
 · rename_i hw
   rw[if_pos hw]at h
   exact jI (λa' w' O=>⟨O.1,hk _ _ O.2⟩) (λc a w h=>by cases h.1) (λa w h=>by cases h.1) h
 · rename_i hw
   rw[if_neg hw]at h
   exact⟨h.1,h.2.1,hk _ _ h.2.2⟩
def Q8 {id:Nat}(hm:P.follows .mixedOrders=true)(M:Nat)(R:World->World->Prop)(hR0:∀w,R w w.drew)(hRt:∀a b c,R a b->R b c->R a c)(Φ:List (Value->World->Prop))(hΦ:BD R Φ)(hwf:OI l=true)(hshape:kn l M=true)(hdst:PW l M=true)(C:List Nat)(hC:Q7 l C=true)(hN:nodupB C=true)(hCM:(C.all λc=>Nat.blt c M)=true)(q0:Nat->World->Prop)(hI0:q0 0 w0.drew)(hstep:HX r n P N ds l M R Φ C q0 e0 w0 0 (l.take M) Φ)(hfin:∀(e:Nat->Value) (w:World),q0 C.length w->R w0 w->(∀t,tI l M t=false->e t=e0 t)->(∀j d,Nat.blt j M=true->eh l j=some d->phi Φ j (e d) w)->wpListIn (Fw r) n P l.toArray Q (l.drop M) (act N e ds) w):
 (Code.region id l.toArray true).wpIn (Fw r) n P Q (act N e0 ds) w0:=by
 have qr:∀j:Nat,l.toArray[j]?=l[j]?:=λj=>by rw[List.getElem?_toArray]
 have Ao:∀t,tI l M t=false->∀j,j<M->(l.toArray[j]?).bind (·.dst)≠some t:=by
  intro t ht j Ab h
  rw[qr]at h
  cases ho:l[j]? with
  |none=>rw[ho]at h;cases h
  | some o=>
    rw[ho]at h
    simp only[Option.bind_some]at h
    have h1:=List.any_eq_false.1 ht o (List.mem_iff_getElem?.2 ⟨j,by rw[List.getElem?_take,if_pos Ab];exact ho⟩)
    rw[h]at h1
    simp at h1
 have hlink:∀p c Am,C[p]?=some Am->C[p+1]?=some c->∃o,l[c]?=some o/\∃A1∈o.after,Region.binds .any A1=true/\A1.on=Am:=by
  intro p c Am h1 h2
  have h3:=List.all_eq_true.1 hC (p+1) (List.mem_range.2 (List.getElem?_eq_some_iff.1 h2).1)
  rw[h2]at h3
  simp only[Nat.add_sub_cancel,h1]at h3
  cases ho:l[c]? with
  |none=>rw[ho]at h3;simp at h3
  | some o=>
    rw[ho]at h3
    simp at h3
    obtain⟨A1,A2,hb⟩:=List.any_eq_true.1 h3
    simp only[Bool.and_eq_true]at hb
    exact⟨o,rfl,A1,by simpa using A2,hb.1,Nat.eq_of_beq_eq_true hb.2⟩
 have Ax:∀p q c:Nat,C[p]?=some c->C[q]?=some c->p=q:=by
  intro p q c h1 h2
  have h3:=List.all_eq_true.1 (List.all_eq_true.1 hN p (List.mem_range.2 (List.getElem?_eq_some_iff.1 h1).1)) q (List.mem_range.2 (List.getElem?_eq_some_iff.1 h2).1)
  rw[h1,h2]at h3
  simp at h3
  exact h3
 refine Mm hm M R hR0 hRt (phi Φ) (tJ hΦ) (λls w=>q0 (cnt C ls) w) ?_ ?_ ?_ ?_ ?_ ?_
 · have:cnt C (λ_=>false)=0:=by unfold cnt;rw[List.filter_eq_nil_iff.2 RW];rfl
   rw[this];exact hI0
 · intro i o ho A1 A2 hb
   rw[qr]at ho
   have h1:=List.all_eq_true.1 hwf i (List.mem_range.2 (List.getElem?_eq_some_iff.1 ho).1)
   rw[ho]at h1
   have h2:=List.all_eq_true.1 h1 A1 (by simpa using A2)
   simp only[hb,Bool.not_true,Bool.false_or]at h2
   rwa [Nat.blt_eq]at h2
 · simp only[kn,Bool.or_eq_true,Bool.and_eq_true]at hshape
   rcases hshape with⟨⟨h1,h2⟩,h3⟩|h
   · rw[Nat.blt_eq]at h3;exact .inl ⟨h1,h2,by simpa using h3⟩
   · exact .inr kc3
 · intro i j d hi Ab Ar As
   have h1:=List.all_eq_true.1 (List.all_eq_true.1 hdst i (List.mem_range.2 hi)) j (List.mem_range.2 Ab)
   rw[qr]at Ar As
   simp only[eh,Ar,As,Bool.or_eq_true]at h1
   rcases h1 with h1|h1
   · exact qb3 h1
   · simp at h1
 · intro i o hi ho e w ls hJ Af Ap Aq hR hs hφ
   have ho':=ho
   rw[qr]at ho
   have hk:∀p,nN C i=some p->cnt C ls=p:=by
    intro p O
    have qn:=ud O
    refine wk (Nat.le_of_lt (List.getElem?_eq_some_iff.1 qn).1) (cnt_lt hlink Af qr qn ho Aq) (HY hlink Af qr Ap qn)
   have h1:=wj (l.take M) Φ 0 hstep i o (by rw[List.getElem?_take,if_pos hi];exact ho) e w (cnt C ls) hJ (λp O=>hk p (by rw[Nat.zero_add]at O;exact O)) hR (λt ht=>hs t (Ao t ht)) (λj d O hd=>?_)
   · refine ue h1 ?_
     rintro _ w' ⟨v,ha,hR',hv,hI'⟩
     refine⟨v,ha,hR',hv,?_⟩
     rw[Nat.zero_add]at hI'
     cases O:nN C i with
     |none=>rw[O]at hI';show q0 (cnt C _) w';rw[Mn (B6 O)];exact hI'
     | some p=>
       rw[O]at hI'
       have Ay:=hk p O
       have qn:=ud O
       show q0 (cnt C _) w'
       have:cnt C (λj=>if j=i then true else ls j)=p+1:=by
        refine wk (by have:=(List.getElem?_eq_some_iff.1 qn).1;omega) (λq c hq hc=>?_) (λq c hq hc=>?_)
        · by_cases Ad:c=i
          · rw[if_pos Ad]
          · rw [if_neg Ad]
            have Aw:q<p:=by
             rcases Nat.lt_or_ge q p with h|h
             · exact h
             · have:q=p:=J
               subst this;rw[qn]at hc;exact absurd (qb4 hc).symm Ad
            exact cnt_lt hlink Af qr qn ho Aq q c Aw hc
        · have Ad:c≠i:=λe=>by subst e;have:=Ax _ _ _ hc qn;omega
          rw[if_neg Ad]
          exact HY hlink Af qr Ap qn q c J hc
       rw[this];exact hI'
   · obtain⟨A1,A2,hb⟩:=List.any_eq_true.1 O
     simp only[Bool.and_eq_true]at hb
     exact hφ j ⟨A1,by simpa using A2,hb.1,Nat.eq_of_beq_eq_true hb.2⟩ d (by rw[qr];exact hd)
 · rintro e w ⟨ls,Av,hJ⟩ hR hs hφ
   have hc:cnt C ls=C.length:=Mo (λc hc=>Av c (by have:=List.all_eq_true.1 hCM c hc;rwa [Nat.blt_eq]at this))
   rw[hc]at hJ
   exact hfin e w hJ hR (λt ht=>hs t (Ao t ht)) (λj d Ab hd=>hφ j d (by rwa [Nat.blt_eq]at Ab) (by rw[qr];exact hd))
end draws
section scope
variable {P:Program}{F:Fence}{n:Nat}{b:Frame}{a:Act}{k:List Item}{cs:List Frame}
def dw {c:Code}:step P (lone (b.atR a (.code (.scope c)::k)) cs w)=.next (lone (b.atR a (.code c:: .inScope c::k)) cs w):=
 step_lone_go (by simp[stepG,stepG.exec,Frame.atR])
def kr {c:Code}:step P (lone (b.atR a (.inScope c::k)) cs w)=.next (lone (b.atR a k) cs w):=
 step_lone_go (by simp[stepG,stepG.exec,Frame.atR])
def B7 {c:Code}(h:c.wpIn F n P (Exit.noGoto Q) a w):(Code.scope c).wpIn F n P Q a w:=by
 intro b k cs qn hb hr
 have qr:(lone (b.atR a (.code (.scope c)::k)) cs w).fenced P F:=fenced_calm hb hr Z
 obtain⟨e,a₁,w₁,hq,O⟩:=h b (.inScope c::k) cs qn hb hr
 cases e with
 |normal=>exact⟨.normal,a₁,w₁,hq,.head qr dw (StepsIn.trans O (.one (fenced_calm hb hr Z) kr))⟩
 | exit id=>
   exact⟨.exit id,a₁,w₁,hq,λk' hk=>.head qr dw (O.1 k' kc4),
    λA1 hk=>let ⟨k₁,h1,h2⟩:=O.2 A1 kc4;⟨k₁,h1,.head qr dw h2⟩⟩
 |goto l=>exact hq.elim
 |ret=>exact⟨_,a₁,w₁,hq,.of_steps (.one qr dw) O⟩
 |panic ch=>exact⟨_,a₁,w₁,hq,.of_steps (.one qr dw) O⟩
 |outgrown=>exact⟨_,a₁,w₁,hq,.of_steps (.one qr dw) O⟩
def Mp (h:Q .ret a w):Exit.noGoto Q .ret a w:=h
def Mq (h:Q .normal a w):Exit.noGoto Q .normal a w:=h
end scope
section conv
variable {P:Program}{r:Option Nat}{n:Nat}
variable {d ty:Nat}{pos:String}{af:Array Edge}{g:Option (Nat×Bool)}{u:Value}{x y:Operand}{t':TypeId}
def zs:∀(l:List UInt8) (s:ByteArray),(l.map (λb=>((b.toNat:Nat):Int))).foldl (λr n=>r.push (UInt8.ofNat n.toNat)) s=⟨(s.data.toList++l).toArray⟩
 |[],s=>by simp
 | b::l,s=>by
   simp only[List.map_cons,List.foldl_cons]
   rw[zs l]
   congr 1
   simp[ByteArray.push]
def OX {src dst el c:Nat}{A:Option Addr}{l:List UInt8}(hs:P.underlying src=some (.slice el))(he:P.underlying el=some (.int .u8))(hd:P.underlying dst=some .string)(hx:ev N e x=.slice A m c)(hr:Rw w lo A (l.map λb=>Value.int .u8 b.toNat))(hm:l.length=m)(hk:K (act N (upd e d (S l)) ds) w):
 Oper.wpIn (Fw r) n P ⟨some d,.convert src dst x,ty,pos,af,g⟩ (act N e ds) w K Q:=by
 refine dG (v:=S l) (w':=w) Z ?_ Th
 have key:(convert src dst (.slice A m c)).run P w=.ok (S l) w:=by
  rw[run_convert_bytes_string w src dst el A m c hs he hd]
  cases A with
  | none=>
    have:l=[]:=by
     cases l with
     |nil=>rfl
     | cons b t=>
       obtain⟨_,_,h,_⟩:=hr.cells 0 _ Z
       cases h
    subst this
    simp[Conv.bytesToString,S];rfl
  | some a=>
    have hl:(loadCells a m).run P w=.ok ((l.map (λb=>((b.toNat:Nat):Int))).map (Value.int .u8)).toArray w:=by
     by_cases h0:l=[]
     · subst h0;simp at hm;subst hm;simp[loadCells,loadCellsFrom]
     · have qr:0<l.length:=List.length_pos_iff.2 h0
       obtain⟨b,o,hA,_⟩:=hr.cells 0 _ (by rw[List.getElem?_map,List.getElem?_eq_getElem qr];rfl)
       cases hA
       have O:=run_loadCells_list (P:=P) (w:=w) ⟨b,o,none⟩ (l.map λb=>Value.int .u8 b.toNat) (λj v hv=>by
        obtain⟨_,_,hA',hc⟩:=hr.cells j v hv
        cases hA'
        rw[Addr.add_mid];exact hc)
       rw[List.length_map,hm]at O
       rw[O,List.map_map];rfl
    rw[run_bytesToString w a m c _ hl,zs]
    rfl
 simp[execOp,hx,key]
def HZ {b:Int}(hx:ev N e x=.int .i64 a)(hy:ev N e y=.int .i64 b)(h1:b≠0)(hc:a.tdiv b=c)(hr:In64 c)(hk:K (act N (upd e d (.int .i64 c)) ds) w):
 Oper.wpIn (Fw r) n P ⟨some d,.binOp .quo t x y t',ty,pos,af,g⟩ (act N e ds) w K Q:=
 fV hx hy (dL ..) (by subst hc;simp[binOp,Op.intDiv,h1,mZ hr]) hk
def H0 {b:Int}(hx:ev N e x=.int .i64 a)(hy:ev N e y=.int .i64 b)(h1:b≠0)(hc:a.tmod b=c)(hk:K (act N (upd e d (.int .i64 c)) ds) w):
 Oper.wpIn (Fw r) n P ⟨some d,.binOp .rem t x y t',ty,pos,af,g⟩ (act N e ds) w K Q:=
 fV hx hy (dL ..) (by subst hc;simp[binOp,Op.intDiv,h1]) hk
def WX {tmps:Array Value}{r1 r2 r3 r4:ResultVar}(h:fn.results=#[r1,r2,r3,r4])(h1:(fX tmps r1).run P w=.ok v1 w)(h2:(fX tmps r2).run P w=.ok v2 w)(h3:(fX tmps r3).run P w=.ok v3 w)(h4:(fX tmps r4).run P w=.ok v4 w):
 (results fn tmps).run P w=.ok (.tuple #[v1,v2,v3,v4]) w:=by
 rw[jH,h];simp[h1,h2,h3,h4]
def qN {R:Value->World->Prop}{t u q:Nat}(hres:fn.results=#[.tmp t,.tmp u,.tmp s,.tmp q])(hx:bF w w')(hR:R (.tuple #[v1,v2,v3,v4]) w')(h1:ev N e (.tmp t)=v1)(h2:ev N e (.tmp u)=v2)(h3:ev N e (.tmp s)=v3)(h4:ev N e (.tmp q)=v4):bodyPost P fn (aC w R) .ret (act N e []) w':=
 aI (WX hres (aD h1 w') (aD h2 w') (aD h3 w') (aD h4 w')) hx hR
def cM {el:Nat}{b o oo:Nat}{k:IntKind}(hu:P.underlying t=some (.array m el))(hs:(P.info? el).map (·.size)=some s)(hx:ev N e x=.pointer (some ⟨b,o,none⟩))(hy:ev N e y=.int k (i:Int))(hlt:i<m)(hoo:o+i*s=oo)(hk:K (act N (upd e d (.pointer (some ⟨b,oo,none⟩))) ds) w):Oper.wpIn (Fw r) n P ⟨some d,.indexAddr t x y,ty,pos,af,g⟩ (act N e ds) w K Q:=by
 refine dG (v:=.pointer (some ⟨b,oo,none⟩)) (w':=w) Z ?_ Th
 subst hoo
 cases hi:P.info? el with
 |none=>simp[hi]at hs
 | some inf=>
   have hs':inf.size=s:=by simpa[hi]using hs
   subst hs'
   simp[execOp,hx,hy,Instr.indexAt,run_underlying hu,asIntOf,hlt,sizeOf,typeInfo,hi,Addr.add_mid,Instr.sureAddr]
end conv
def fH (ls:Nat->Bool)(i:Nat):Nat->Bool:=λj=>match Nat.beq j i with|true=>true|false=>ls j
def l0 (e:Nat->Value):Option Nat->Value->Nat->Value
 |some d,v=>upd e d v
 |none,_=>e
section draws
variable {P:Program}{r:Option Nat}{n:Nat}{e0:Nat->Value}{ops:Array Oper}
def Mr {id :Nat}(hm:P.follows .mixedOrders=true)(M:Nat)(q5:(Nat->Bool)->(Nat->Value)->World->Prop)(hJ0:q5 (λ_=>false) e0 w0.drew)(hwf:∀(i:Nat) (o:Oper),l.toArray[i]?=some o->∀e∈o.after,Region.binds .any e=true->e.on<i)(hshape:Region.sinkB .any l.toArray M=true/\Region.chainB .any l.toArray M=true/\M<l.toArray.size\/M=l.toArray.size)(hstep:∀(i:Nat) (o:Oper),i<M->l.toArray[i]?=some o->∀(e:Nat->Value) (w:World) (ls:Nat->Bool),q5 ls e w->(∀j oj,l.toArray[j]?=some oj->ls j=true->∀ed∈oj.after,Region.binds .any ed=true->ls ed.on=true)->ls i=false->(∀ed∈o.after,Region.binds .any ed=true->ls ed.on=true)->
 wpListIn (Fw r) n P l.toArray (λx a' w'=>x=.normal/\∃v,a'=(act N e ds).put o.dst v/\q5 (fH ls i) (l0 e o.dst v) w') [o] (act N e ds) w)(hfin:∀(e:Nat->Value) (w:World) (ls:Nat->Bool),(∀j,j<M->ls j=true)->q5 ls e w->wpListIn (Fw r) n P l.toArray Q (l.drop M) (act N e ds) w):
 (Code.region id l.toArray true).wpIn (Fw r) n P Q (act N e0 ds) w0:=by
 have hMle:M<=l.toArray.size:=by rcases hshape with⟨_,_,h⟩|h <;>omega
 have hchain:Region.chainB .any l.toArray M=true:=by
  rcases hshape with⟨_,h,_⟩|h
  · exact h
  · refine List.all_eq_true.2 λt ht=>?_
    have:=List.mem_range.1 ht
    simp only[Bool.or_eq_true,decide_eq_true_eq]
    left;omega
 refine wpIn_region_any hm ?_
 have main : ∀ (fuel:Nat) (listed:Array Bool) (e:Nat->Value) (w:World),left l.toArray listed<=fuel->HeadInv .any l.toArray M listed->q5 (λj=>listed.getD j false) e w->
  wpAnyIn (Fw r) n P .any l.toArray Q fuel listed (act N e ds) w:=by
  intro fuel
  induction fuel with
  | zero=>
    intro listed e w hf inv hJ
    have Ad:∀i,i<l.toArray.size->listed.getD i false=true:=by
     intro i hi
     cases hb:listed.getD i false with
     |true=>rfl
     | false=>
       have:=kR hi inv.size hb
       omega
    refine kQ hchain hwf 0 l.toArray.size listed _ w 0 Z hMle inv.size Ad (λi h1 h2=>by omega) (qa0 _) ?_
    by_cases hM:M=l.toArray.size
    · have h:=hfin e w _ (λj O=>Ad j J) hJ
      rw[hM]at h
      simpa using h
    · have h1:=inv.tail M (qa0 _) J
      have h2:=Ad M J
      rw[getD_both h1]at h2
      cases h2
  | succ fuel ih=>
    intro listed e w hf inv hJ
    by_cases hdone:∀i,i<M->listed.getD i false=true
    · refine kQ hchain hwf (l.toArray.size-M) M listed _ w (fuel+1) J (qa0 _) inv.size hdone (λi h1 h2=>inv.tail i h1 h2) ?_ ?_
      · have h1:l.toArray.size-M<=left l.toArray listed:=qD hMle (λi h1 h2=>getD_both (inv.tail i h1 h2))
        omega
      · simpa using hfin e w _ (λj O=>hdone j O) hJ
    · have hex:∃i,i<M/\listed.getD i false=false:=by
       refine qb5 λAb=>hdone λi hi=>?_
       cases hb:listed.getD i false with
       |true=>rfl
       |false=>exact absurd ⟨i,hi,hb⟩ Ab
      obtain⟨Af,Ar,Am⟩:=hex
      have Aq:∀i∈Region.ready .any l.toArray listed,i<M:=by
       intro i hi
       rcases Nat.lt_or_ge i M with h|h
       · exact h
       · rcases hshape with⟨h1,h2,h3⟩|h3
         · exact absurd hi (tail_waits h1 h2 h3 inv _ Af Z Ar (getD_in (by rw[inv.size];omega) Am) i h)
         · obtain⟨_,o,ho,_⟩:=mem_ready.1 hi
           have:=(Array.getElem?_eq_some_iff.1 ho).1
           omega
      refine⟨λAp=>?_,λi hi=>?_⟩
      ·
       exfalso
       have least:∀k i,i<=k->i<l.toArray.size->listed.getD i false=false->∃j,j∈Region.ready .any l.toArray listed:=by
        intro k
        induction k with
        | zero=>
          intro i hi hl hb
          obtain rfl:i=0:=J
          refine⟨0,mem_ready.2 ⟨getD_in ka6 hb,l.toArray[0],Array.getElem?_eq_getElem hl,λed qn A1=>?_⟩⟩
          have:=hwf 0 _ (Array.getElem?_eq_getElem hl) ed qn A1
          omega
        | succ k ihk=>
          intro i hi hl hb
          by_cases hp:∀ed∈(l.toArray[i]).after,Region.binds .any ed=true->listed.getD ed.on false=true
          · exact⟨i,mem_ready.2 ⟨getD_in ka6 hb,l.toArray[i],Array.getElem?_eq_getElem hl,hp⟩⟩
          · have:∃ed∈(l.toArray[i]).after,Region.binds .any ed=true/\listed.getD ed.on false=false:=by
             refine qb5 λAb=>hp λed qn A1=>?_
             cases hb:listed.getD ed.on false with
             |true=>rfl
             |false=>exact absurd ⟨ed,qn,A1,hb⟩ Ab
            obtain⟨ed,qn,A1,A2⟩:=this
            have Aw:=hwf i _ (Array.getElem?_eq_getElem hl) ed qn A1
            exact ihk ed.on J J A2
       obtain⟨j,O⟩:=least Af Af (qa0 _) J Am
       rw[Ap]at O
       cases O
      · have hiM:=Aq i hi
        obtain⟨A2,o,ho,hpred⟩:=mem_ready.1 hi
        have qr:=hstep i o hiM ho e w (λj=>listed.getD j false) hJ (λj oj O hl=>inv.closed j oj O hl) (getD_both A2) hpred
        have hnext:∀a' w',(∃v,a'=(act N e ds).put o.dst v/\q5 (fH (λj=>listed.getD j false) i) (l0 e o.dst v) w')->wpAnyIn (Fw r) n P .any l.toArray Q fuel (listed.setIfInBounds i true) a' w':=by
         rintro a' w' ⟨v,rfl,hJ'⟩
         have As:i<l.toArray.size:=J
         have hJ2:q5 (λj=>(listed.setIfInBounds i true).getD j false) (l0 e o.dst v) w':=by
          have e':(λj=>(listed.setIfInBounds i true).getD j false)=fH (λj=>listed.getD j false) i:=by
           funext j
           by_cases O:j=i
           · subst O;unfold fH;simp;have:=inv.size;simp[this];omega
           · have hb:Nat.beq j i=false:=by
              cases hb:Nat.beq j i with
              |false=>rfl
              |true=>exact absurd (qb3 hb) O
             unfold fH;rw[hb];simp only;rw[getD_set_ne false (λh=>O h.symm)]
          rw[e'];exact hJ'
         have Ao:left l.toArray (listed.setIfInBounds i true)<=fuel:=by
          have:=kR As inv.size (getD_both A2)
          omega
         cases hd:o.dst with
         | none=>
           rw[hd]at hJ2
           exact ih _ e w' Ao (inv.set hi hiM) hJ2
         | some d0=>
           rw[hd]at hJ2
           rw[aw]
           exact ih _ _ w' Ao (inv.set hi hiM) hJ2
        unfold wpOpIn
        rw[ho]
        dsimp only
        unfold wpListIn at qr
        split
        · rename_i hw
          rw[if_pos hw]at qr
          exact jI (λa' w' Av=>hnext a' w' Av.2) (λc a w h=>by cases h.1) (λa w h=>by cases h.1) qr
        · rename_i hw
          rw[if_neg hw]at qr
          exact⟨qr.1,hnext _ _ qr.2.2⟩
 refine main _ _ e0 w0.drew ?_ ⟨by simp,λj oj O hl=>?_,λt h1 h2=>?_⟩ ((congrArg (λf=>q5 f e0 w0.drew) (funext λj=>getD_replicate_false _ j)).mpr hJ0)
 · unfold left
   exact qa8 (List.length_filter_le _ _) RW
 · rw[getD_replicate_false]at hl;cases hl
 · have h3:t<l.length:=by simpa using h2
   simp[h3]
def dF (l:List Oper)(j k:Nat):Bool:=match l[j]? with|some o=>dv o k|none=>false
def uf (r:Option Nat)(n:Nat)(P:Program)(N:Nat)(ds:List Deferred)(l:List Oper)(q5:(Nat->Bool)->(Nat->Value)->World->Prop):Nat->List Oper->Prop
 |_,[]=>True
 |i,o::os=>(∀(e:Nat->Value) (w:World) (ls:Nat->Bool),q5 ls e w->(∀j k,dF l j k=true->ls j=true->ls k=true)->ls i=false->(∀k,dF l i k=true->ls k=true)->
  wpListIn (Fw r) n P l.toArray (λx a' w'=>x=.normal/\∃v,a'=(act N e ds).put o.dst v/\q5 (fH ls i) (l0 e o.dst v) w') [o] (act N e ds) w)/\uf r n P N ds l q5 (i+1) os
def ug {l:List Oper}{q5:(Nat->Bool)->(Nat->Value)->World->Prop}:∀(os:List Oper) (i0:Nat),uf r n P N ds l q5 i0 os->∀i o,os[i]?=some o->
 (∀(e:Nat->Value) (w:World) (ls:Nat->Bool),q5 ls e w->(∀j k,dF l j k=true->ls j=true->ls k=true)->ls (i0+i)=false->(∀k,dF l (i0+i) k=true->ls k=true)->
  wpListIn (Fw r) n P l.toArray (λx a' w'=>x=.normal/\∃v,a'=(act N e ds).put o.dst v/\q5 (fH ls (i0+i)) (l0 e o.dst v) w') [o] (act N e ds) w)
 |[],_,_,i,o,h=>by simp at h
 |o'::os,i0,h,0,o,ho=>by simp at ho;subst ho;exact h.1
 | o'::os,i0,h,i+1,o,ho=>by
   have:=ug os (i0+1) h.2 i o ka9
   rwa [show i0+1+i=i0+(i+1)by omega]at this
def oZ (ho:l[j]?=some o):dF l j k=true↔∃ed∈o.after,Region.binds .any ed=true/\ed.on=k:=by
 unfold dF dv
 rw[ho]
 simp only[List.any_eq_true,Bool.and_eq_true]
 constructor
 · rintro⟨ed,h1,h2,h3⟩;exact⟨ed,by simpa using h1,h2,Nat.eq_of_beq_eq_true h3⟩
 · rintro⟨ed,h1,h2,h3⟩;exact⟨ed,by simpa using h1,h2,by subst h3;simp⟩
def WY {id:Nat}(hm:P.follows .mixedOrders=true)(M:Nat)(q5:(Nat->Bool)->(Nat->Value)->World->Prop)(hJ0:q5 (λ_=>false) e0 w0.drew)(hwf:OI l=true)(hshape:kn l M=true)(hstep:uf r n P N ds l q5 0 (l.take M))(hfin:∀(e:Nat->Value) (w:World) (ls:Nat->Bool),(∀j,Nat.blt j M=true->ls j=true)->q5 ls e w->wpListIn (Fw r) n P l.toArray Q (l.drop M) (act N e ds) w):
 (Code.region id l.toArray true).wpIn (Fw r) n P Q (act N e0 ds) w0:=by
 have A2:∀j:Nat,l.toArray[j]?=l[j]?:=λj=>by rw[List.getElem?_toArray]
 refine Mr hm M q5 hJ0 ?_ ?_ ?_ (λe w ls h1 h2=>hfin e w ls (λj qn=>h1 j (by rwa [Nat.blt_eq]at qn)) h2)
 · intro i o ho A1 qr hb
   rw[A2]at ho
   have h1:=List.all_eq_true.1 hwf i (List.mem_range.2 (List.getElem?_eq_some_iff.1 ho).1)
   rw[ho]at h1
   have h2:=List.all_eq_true.1 h1 A1 (by simpa using qr)
   simp only[hb,Bool.not_true,Bool.false_or]at h2
   rwa [Nat.blt_eq]at h2
 · simp only[kn,Bool.or_eq_true,Bool.and_eq_true]at hshape
   rcases hshape with⟨⟨h1,h2⟩,h3⟩|h
   · rw[Nat.blt_eq]at h3;exact .inl ⟨h1,h2,by simpa using h3⟩
   · exact .inr kc3
 · intro i o hi ho e w ls hJ Ab Af Ad
   rw[A2]at ho
   have h1:=ug (l.take M) 0 hstep i o (by rw[List.getElem?_take,if_pos hi];exact ho)
   simp only[Nat.zero_add]at h1
   refine h1 e w ls hJ (λj k O hl=>?_) Af (λk O=>?_)
   · cases qn:l[j]? with
     |none=>unfold dF at O;rw[qn]at O;cases O
     | some oj=>
       obtain⟨A1,qr,hb,rfl⟩:=(oZ qn).1 O
       exact Ab j oj (by rw[A2];exact qn) hl A1 qr hb
   · obtain⟨A1,qr,hb,rfl⟩:=(oZ ho).1 O
     exact Ad A1 qr hb
def uh {id:Nat}(hm:P.follows .mixedOrders=true)(M:Nat)(q5:(Nat->Value)->(Nat->Bool)->(Nat->Value)->World->Prop)(hJ0:q5 e0 (λ_=>false) e0 w0.drew)(hwf:OI l=true)(hshape:kn l M=true)(hstep:uf r n P N ds l (q5 e0) 0 (l.take M))(hfin:∀(e:Nat->Value) (w:World) (ls:Nat->Bool),(∀j,Nat.blt j M=true->ls j=true)->q5 e0 ls e w->wpListIn (Fw r) n P l.toArray Q (l.drop M) (act N e ds) w):
 (Code.region id l.toArray true).wpIn (Fw r) n P Q (act N e0 ds) w0:=WY hm M (q5 e0) hJ0 hwf hshape hstep hfin
def js (hcl:∀j k,dF l j k=true->ls j=true->ls k=true)(hp:dF l j i=true)(h:ls i=false):ls j=false:=by
 cases hj:ls j with
 |false=>rfl
 |true=>have:=hcl j i hp hj;rw[h]at this;cases this
def ff {b:Bool}{p:Prop}(h:b=false)(hb:b=true):p:=by rw[h]at hb;cases hb
def tf {b:Bool}{p:Prop}(h:b=true)(hb:b=false):p:=by rw[h]at hb;cases hb
end draws
def aC.mono {R R':Value->World->Prop}{P:Program}{args:Array Value}(h:Calls P f args w (aC w R))(hr:∀v w',R v w'->R' v w'):Calls P f args w (aC w R'):=
 Calls.mono h λe w' h=>by
  cases e with
  |returned v=>exact⟨h.1,hr _ _ h.2⟩
  |panicked c=>exact h.elim
  |outgrown=>exact h.elim
section draws
variable {P:Program}{r:Option Nat}{n:Nat}{e0:Nat->Value}{ops:Array Oper}
def H1 {id:Nat}(hm:P.follows .mixedOrders=true)(M:Nat)(q5:(Nat->Bool)->(Nat->Value)->World->Prop)(hJ0:q5 (λ_=>false) e0 w0.drew)(hwf:∀(i:Nat) (o:Oper),l.toArray[i]?=some o->∀e∈o.after,Region.binds .any e=true->e.on<i)(hshape:Region.sinkB .any l.toArray M=true/\Region.chainB .any l.toArray M=true/\M<l.toArray.size\/M=l.toArray.size)(hstep:∀(i:Nat) (o:Oper),i<M->l.toArray[i]?=some o->∀(e:Nat->Value) (w:World) (ls:Nat->Bool),q5 ls e w->(∀j oj,l.toArray[j]?=some oj->ls j=true->∀ed∈oj.after,Region.binds .any ed=true->ls ed.on=true)->ls i=false->(∀ed∈o.after,Region.binds .any ed=true->ls ed.on=true)->
 wpListIn (Fw r) n P l.toArray (λx a' w'=>(x=.normal/\∃v,a'=(act N e ds).put o.dst v/\q5 (fH ls i) (l0 e o.dst v) w')\/(∃c,x=.panic c/\Q (.panic c) a' w')) [o] (act N e ds) w)(hfin:∀(e:Nat->Value) (w:World) (ls:Nat->Bool),(∀j,j<M->ls j=true)->q5 ls e w->wpListIn (Fw r) n P l.toArray Q (l.drop M) (act N e ds) w):
 (Code.region id l.toArray true).wpIn (Fw r) n P Q (act N e0 ds) w0:=by
 have hMle:M<=l.toArray.size:=by rcases hshape with⟨_,_,h⟩|h <;>omega
 have hchain:Region.chainB .any l.toArray M=true:=by
  rcases hshape with⟨_,h,_⟩|h
  · exact h
  · refine List.all_eq_true.2 λt ht=>?_
    have:=List.mem_range.1 ht
    simp only[Bool.or_eq_true,decide_eq_true_eq]
    left;omega
 refine wpIn_region_any hm ?_
 have main : ∀ (fuel:Nat) (listed:Array Bool) (e:Nat->Value) (w:World),left l.toArray listed<=fuel->HeadInv .any l.toArray M listed->q5 (λj=>listed.getD j false) e w->
  wpAnyIn (Fw r) n P .any l.toArray Q fuel listed (act N e ds) w:=by
  intro fuel
  induction fuel with
  | zero=>
    intro listed e w hf inv hJ
    have Af:∀i,i<l.toArray.size->listed.getD i false=true:=by
     intro i hi
     cases hb:listed.getD i false with
     |true=>rfl
     | false=>
       have:=kR hi inv.size hb
       omega
    refine kQ hchain hwf 0 l.toArray.size listed _ w 0 Z hMle inv.size Af (λi h1 h2=>by omega) (qa0 _) ?_
    by_cases hM:M=l.toArray.size
    · have h:=hfin e w _ (λj O=>Af j J) hJ
      rw[hM]at h
      simpa using h
    · have h1:=inv.tail M (qa0 _) J
      have h2:=Af M J
      rw[getD_both h1]at h2
      cases h2
  | succ fuel ih=>
    intro listed e w hf inv hJ
    by_cases hdone:∀i,i<M->listed.getD i false=true
    · refine kQ hchain hwf (l.toArray.size-M) M listed _ w (fuel+1) J (qa0 _) inv.size hdone (λi h1 h2=>inv.tail i h1 h2) ?_ ?_
      · have h1:l.toArray.size-M<=left l.toArray listed:=qD hMle (λi h1 h2=>getD_both (inv.tail i h1 h2))
        omega
      · simpa using hfin e w _ (λj O=>hdone j O) hJ
    · have hex:∃i,i<M/\listed.getD i false=false:=by
       refine qb5 λAd=>hdone λi hi=>?_
       cases hb:listed.getD i false with
       |true=>rfl
       |false=>exact absurd ⟨i,hi,hb⟩ Ad
      obtain⟨Am,As,Ao⟩:=hex
      have Ar:∀i∈Region.ready .any l.toArray listed,i<M:=by
       intro i hi
       rcases Nat.lt_or_ge i M with h|h
       · exact h
       · rcases hshape with⟨h1,h2,h3⟩|h3
         · exact absurd hi (tail_waits h1 h2 h3 inv _ Am Z As (getD_in (by rw[inv.size];omega) Ao) i h)
         · obtain⟨_,o,ho,_⟩:=mem_ready.1 hi
           have:=(Array.getElem?_eq_some_iff.1 ho).1
           omega
      refine⟨λAq=>?_,λi hi=>?_⟩
      ·
       exfalso
       have least:∀k i,i<=k->i<l.toArray.size->listed.getD i false=false->∃j,j∈Region.ready .any l.toArray listed:=by
        intro k
        induction k with
        | zero=>
          intro i hi hl hb
          obtain rfl:i=0:=J
          refine⟨0,mem_ready.2 ⟨getD_in ka6 hb,l.toArray[0],Array.getElem?_eq_getElem hl,λed qn A1=>?_⟩⟩
          have:=hwf 0 _ (Array.getElem?_eq_getElem hl) ed qn A1
          omega
        | succ k ihk=>
          intro i hi hl hb
          by_cases hp:∀ed∈(l.toArray[i]).after,Region.binds .any ed=true->listed.getD ed.on false=true
          · exact⟨i,mem_ready.2 ⟨getD_in ka6 hb,l.toArray[i],Array.getElem?_eq_getElem hl,hp⟩⟩
          · have:∃ed∈(l.toArray[i]).after,Region.binds .any ed=true/\listed.getD ed.on false=false:=by
             refine qb5 λAd=>hp λed qn A1=>?_
             cases hb:listed.getD ed.on false with
             |true=>rfl
             |false=>exact absurd ⟨ed,qn,A1,hb⟩ Ad
            obtain⟨ed,qn,A1,Ab⟩:=this
            have Aw:=hwf i _ (Array.getElem?_eq_getElem hl) ed qn A1
            exact ihk ed.on J J Ab
       obtain⟨j,O⟩:=least Am Am (qa0 _) J Ao
       rw[Aq]at O
       cases O
      · have hiM:=Ar i hi
        obtain⟨Ab,o,ho,hpred⟩:=mem_ready.1 hi
        have qr:=hstep i o hiM ho e w (λj=>listed.getD j false) hJ (λj oj O hl=>inv.closed j oj O hl) (getD_both Ab) hpred
        have hnext:∀a' w',(∃v,a'=(act N e ds).put o.dst v/\q5 (fH (λj=>listed.getD j false) i) (l0 e o.dst v) w')->wpAnyIn (Fw r) n P .any l.toArray Q fuel (listed.setIfInBounds i true) a' w':=by
         rintro a' w' ⟨v,rfl,hJ'⟩
         have Av:i<l.toArray.size:=J
         have hJ2:q5 (λj=>(listed.setIfInBounds i true).getD j false) (l0 e o.dst v) w':=by
          have e':(λj=>(listed.setIfInBounds i true).getD j false)=fH (λj=>listed.getD j false) i:=by
           funext j
           by_cases O:j=i
           · subst O;unfold fH;simp;have:=inv.size;simp[this];omega
           · have hb:Nat.beq j i=false:=by
              cases hb:Nat.beq j i with
              |false=>rfl
              |true=>exact absurd (qb3 hb) O
             unfold fH;rw[hb];simp only;rw[getD_set_ne false (λh=>O h.symm)]
          rw[e'];exact hJ'
         have Ap:left l.toArray (listed.setIfInBounds i true)<=fuel:=by
          have:=kR Av inv.size (getD_both Ab)
          omega
         cases hd:o.dst with
         | none=>
           rw[hd]at hJ2
           exact ih _ e w' Ap (inv.set hi hiM) hJ2
         | some d0=>
           rw[hd]at hJ2
           rw[aw]
           exact ih _ _ w' Ap (inv.set hi hiM) hJ2
        unfold wpOpIn
        rw[ho]
        dsimp only
        unfold wpListIn at qr
        split
        · rename_i hw
          rw[if_pos hw]at qr
          exact jI (λa' w' A2=>by
           rcases A2 with A2|⟨c,hc,_⟩
           · exact hnext a' w' A2.2
           · cases hc) (λc a w h=>by
           rcases h with h|⟨c',hc,hq⟩
           · cases h.1
           · cases hc;exact hq) (λa w h=>by
           rcases h with h|⟨c',hc,hq⟩
           · cases h.1
           · cases hc) qr
        · rename_i hw
          rw[if_neg hw]at qr
          refine⟨qr.1,?_⟩
          rcases qr.2 with A2|⟨c,hc,_⟩
          · exact hnext _ _ A2.2
          · cases hc
 refine main _ _ e0 w0.drew ?_ ⟨by simp,λj oj O hl=>?_,λt h1 h2=>?_⟩ ((congrArg (λf=>q5 f e0 w0.drew) (funext λj=>getD_replicate_false _ j)).mpr hJ0)
 · unfold left
   exact qa8 (List.length_filter_le _ _) RW
 · rw[getD_replicate_false]at hl;cases hl
 · have h3:t<l.length:=by simpa using h2
   simp[h3]
def xM (Q:Exit->Act->World->Prop)(r:Option Nat)(n:Nat)(P:Program)(N:Nat)(ds:List Deferred)(l:List Oper)(q5:(Nat->Bool)->(Nat->Value)->World->Prop):Nat->List Oper->Prop
 |_,[]=>True
 |i,o::os=>(∀(e:Nat->Value) (w:World) (ls:Nat->Bool),q5 ls e w->(∀j k,dF l j k=true->ls j=true->ls k=true)->ls i=false->(∀k,dF l i k=true->ls k=true)->
  wpListIn (Fw r) n P l.toArray (λx a' w'=>(x=.normal/\∃v,a'=(act N e ds).put o.dst v/\q5 (fH ls i) (l0 e o.dst v) w')\/(∃c,x=.panic c/\Q (.panic c) a' w')) [o] (act N e ds) w)/\xM Q r n P N ds l q5 (i+1) os
def ui {l:List Oper}{q5:(Nat->Bool)->(Nat->Value)->World->Prop}:∀(os:List Oper) (i0:Nat),xM Q r n P N ds l q5 i0 os->∀i o,os[i]?=some o->
 (∀(e:Nat->Value) (w:World) (ls:Nat->Bool),q5 ls e w->(∀j k,dF l j k=true->ls j=true->ls k=true)->ls (i0+i)=false->(∀k,dF l (i0+i) k=true->ls k=true)->
  wpListIn (Fw r) n P l.toArray (λx a' w'=>(x=.normal/\∃v,a'=(act N e ds).put o.dst v/\q5 (fH ls (i0+i)) (l0 e o.dst v) w')\/(∃c,x=.panic c/\Q (.panic c) a' w')) [o] (act N e ds) w)
 |[],_,_,i,o,h=>by simp at h
 |o'::os,i0,h,0,o,ho=>by simp at ho;subst ho;exact h.1
 | o'::os,i0,h,i+1,o,ho=>by
   have:=ui os (i0+1) h.2 i o ka9
   rwa [show i0+1+i=i0+(i+1)by omega]at this
def Uk {id:Nat}(hm:P.follows .mixedOrders=true)(M:Nat)(q5:(Nat->Bool)->(Nat->Value)->World->Prop)(hJ0:q5 (λ_=>false) e0 w0.drew)(hwf:OI l=true)(hshape:kn l M=true)(hstep:xM Q r n P N ds l q5 0 (l.take M))(hfin:∀(e:Nat->Value) (w:World) (ls:Nat->Bool),(∀j,Nat.blt j M=true->ls j=true)->q5 ls e w->wpListIn (Fw r) n P l.toArray Q (l.drop M) (act N e ds) w):
 (Code.region id l.toArray true).wpIn (Fw r) n P Q (act N e0 ds) w0:=by
 have A2:∀j:Nat,l.toArray[j]?=l[j]?:=λj=>by rw[List.getElem?_toArray]
 refine H1 hm M q5 hJ0 ?_ ?_ ?_ (λe w ls h1 h2=>hfin e w ls (λj qn=>h1 j (by rwa [Nat.blt_eq]at qn)) h2)
 · intro i o ho A1 qr hb
   rw[A2]at ho
   have h1:=List.all_eq_true.1 hwf i (List.mem_range.2 (List.getElem?_eq_some_iff.1 ho).1)
   rw[ho]at h1
   have h2:=List.all_eq_true.1 h1 A1 (by simpa using qr)
   simp only[hb,Bool.not_true,Bool.false_or]at h2
   rwa [Nat.blt_eq]at h2
 · simp only[kn,Bool.or_eq_true,Bool.and_eq_true]at hshape
   rcases hshape with⟨⟨h1,h2⟩,h3⟩|h
   · rw[Nat.blt_eq]at h3;exact .inl ⟨h1,h2,by simpa using h3⟩
   · exact .inr kc3
 · intro i o hi ho e w ls hJ Ab Af Ad
   rw[A2]at ho
   have h1:=ui (l.take M) 0 hstep i o (by rw[List.getElem?_take,if_pos hi];exact ho)
   simp only[Nat.zero_add]at h1
   refine h1 e w ls hJ (λj k O hl=>?_) Af (λk O=>?_)
   · cases qn:l[j]? with
     |none=>unfold dF at O;rw[qn]at O;cases O
     | some oj=>
       obtain⟨A1,qr,hb,rfl⟩:=(oZ qn).1 O
       exact Ab j oj (by rw[A2];exact qn) hl A1 qr hb
   · obtain⟨A1,qr,hb,rfl⟩:=(oZ ho).1 O
     exact Ad A1 qr hb
end draws
section out
variable {a:Act}{c:List PanicEntry}
def B8 (h:Q (.panic c) a w):Exit.then K Q (.panic c) a w:=h
def Ra {id:Nat}(h:Q (.panic c) a w):Exit.inBlock id Q (.panic c) a w:=h
def Ms (h:Q (.panic c) a w):Exit.noGoto Q (.panic c) a w:=h
end out
section rows
variable {P:Program}{r:Option Nat}{n:Nat}
variable {d ty:Nat}{pos:String}{af:Array Edge}{g:Option (Nat×Bool)}{u:Value}{x y:Operand}{t':TypeId}
def H2 {z:Value}(hu:P.underlying t=some (.slice el))(hi:gK P el z size bytes)(hk:∀w',bF w w'->w.heap.size<w'.heap.size->w'.ownsRow w.heap.size el size (.slice (some ⟨w.heap.size,0,none⟩) 0 0) 0 []->K (act N (upd e d (.slice (some ⟨w.heap.size,0,none⟩) 0 0)) ds) w'):
 Oper.wpIn (Fw r) n P ⟨some d,.buildSlice t 0 #[],ty,pos,af,g⟩ (act N e ds) w K Q:=by
 obtain⟨i,O,_,qr,_⟩:=hi.parts
 subst qr
 refine dG (v:=.slice (some ⟨w.heap.size,0,none⟩) 0 0) (w':=w.alloc (.cells #[] el)) Z ?_ (by
  rw[aw]
  exact hk _ (bF.alloc _ _) RW ⟨by simp,.inr ⟨w.heap.size,0,#[],rfl,qa0 _,heap_alloc_new w _,qa0 _,by simp[maxLen],by simp,by simp⟩⟩)
 simp[execOp,Instr.buildSlice,run_underlying hu,sizeOf,typeInfo,O,Instr.fill,newRow]
 rw[show(Array.range 0).map (λ_=>(default:Value))=#[]from Array.eq_empty_of_size_eq_zero (by rw[Array.size_map,Array.size_range])]
def mB {ops:Array Oper}{a:Act}(h:List.drop M l=o::rest)(hh:wpListIn (Fw r) n P ops Q (o::rest) a w):wpListIn (Fw r) n P ops Q (List.drop M l) a w:=by rw[h];exact hh
end rows
end Go.Eng
