/- Part of the proof of a statement about special functions. -/
import Derived.Test.YtgcfffdpcefifaaGreatDoorLib9ToBase
import Derived.Scope
import Derived.Laws.BytesString
import Derived.DefersIn
import Derived.Recover
set_option linter.all false
def bg (B:Nat):List Nat->Nat
 |[]=>0
 |d::l=>d+B*bg B l
def sB (B:Nat):Nat->Nat->List Nat
 |0,_=>[]
 |f+1,n=>if n=0 then[]else n%B::sB B f (n/B)
def aj (B n:Nat):List Nat:=sB B n n
def yH (B:Nat)(hB:2<=B):∀(f n:Nat),n<=f->∀g,n<=g->sB B f n=sB B g n:=by
 intro f
 induction f with
 | zero=>
   intro n D g _
   obtain rfl:n=0:=J
   cases g <;>simp[sB]
 | succ f ih =>
   intro n D g _
   cases g with
   | zero => obtain rfl:n=0:=J
             simp[sB]
   | succ g=>
     simp only[sB]
     by_cases h0:n=0
     · simp[h0]
     · rw[if_neg h0,if_neg h0]
       have hd:n/B<n:=Nat.div_lt_self J J
       rw[ih (n/B) J g J]
def eH (B:Nat):aj B 0=[]:=rfl
def eo (B n:Nat)(hB:2<=B)(hn:0<n):aj B n=n%B::aj B (n/B):=by
 unfold aj
 cases n with
 |zero=>omega
 | succ m=>
   have hd:(m+1)/B<m+1:=Nat.div_lt_self J J
   simp only[sB]
   rw[if_neg J,yH B hB m ((m+1)/B) J ((m+1)/B) (Nat.le_refl _)]
def bU (B:Nat)(hB:2<=B)(n:Nat):bg B (aj B n)=n:=by
 induction n using Nat.strongRecOn with
 | _ n ih=>
   by_cases h0:n=0
   · subst h0;rfl
   · rw[eo B n hB J]
     simp only[bg]
     rw[ih (n/B) (Nat.div_lt_self J J)]
     exact Nat.mod_add_div n B
def cu (B:Nat)(hB:2<=B)(n:Nat):∀d∈aj B n,d<B:=by
 induction n using Nat.strongRecOn with
 | _ n ih=>
   by_cases h0:n=0
   · subst h0;simp[eH]
   · rw[eo B n hB J]
     intro d hd
     rcases List.mem_cons.1 hd with rfl|h
     · exact Nat.mod_lt _ J
     · exact ih (n/B) (Nat.div_lt_self J J) d h
def Canon (B:Nat)(l:List Nat):Prop:=(∀d∈l,d<B)/\l.getLast?≠some 0
def Canon.tail {B d:Nat}{l:List Nat}(h:Canon B (d::l)):Canon B l:=by
 refine⟨λx hx=>h.1 x (List.mem_cons_of_mem _ hx),?_⟩
 have:=h.2
 cases l with
 |nil=>simp
 |cons e l=>simpa[List.getLast?_cons_cons]using this
def Canon.pos {B:Nat}(hB:2<=B):∀{l:List Nat},Canon B l->l≠[]->0<bg B l
 |[],_,h=>absurd Z h
 | [d],h,_=>by
   have:=h.2
   simp[bg]at this ⊢
   omega
 | d::e::l,h,_=>by
   have:=Canon.pos hB h.tail Vk
   simp only[bg]at this ⊢
   have:0<B*(e+B*bg B l):=Nat.mul_pos J this
   omega
def jK {B:Nat}(hB:2<=B):∀{l:List Nat},Canon B l->l=aj B (bg B l)
 |[],_=>rfl
 | d::l,h=>by
   have hp:=Canon.pos hB h Vk
   have hd:d<B:=h.1 d Vk
   rw[eo B _ hB hp]
   simp only[bg]
   rw[Nat.add_mul_mod_self_left,Nat.mod_eq_of_lt hd,Nat.add_mul_div_left _ _ J,Nat.div_eq_of_lt hd,Nat.zero_add,<-jK hB h.tail]
def hU (B:Nat)(hB:2<=B)(n:Nat):(aj B n).getLast?≠some 0:=by
 induction n using Nat.strongRecOn with
 | _ n ih=>
   by_cases h0:n=0
   · subst h0;simp[eH]
   · rw [eo B n hB J]
     have D:=ih (n/B) (Nat.div_lt_self J J)
     by_cases hq:n/B=0
     · rw[hq,eH]
       have:n<B:=by
        rcases Nat.lt_or_ge n B with h|h
        · exact h
        · have:=Nat.div_pos h J;omega
       simp[Nat.mod_eq_of_lt this];omega
     · rw[eo B (n/B) hB (Nat.pos_of_ne_zero hq)]at D ⊢
       simpa[List.getLast?_cons_cons]using D
def cV:List Nat->List Nat
 |[]=>[]
 |d::l=>if cV l=[]/\d=0 then[]else d::cV l
def sC (B:Nat):∀l,bg B (cV l)=bg B l
 |[]=>rfl
 | d::l=>by
   unfold cV
   have ih:=sC B l
   split
   · rename_i h;rw[h.1]at ih;simp only[bg]at *;rw[<-ih,h.2];simp
   · simp only[bg,ih]
def qb {d:Nat}:∀{l:List Nat},d∈cV l->d∈l
 |[],h=>h
 | e ::l,h=>by
   unfold cV at h
   split at h
   · simp at h
   · rcases List.mem_cons.1 h with rfl|h
     · simp
     · exact List.mem_cons_of_mem _ (qb h)
def oF:∀l,(cV l).getLast?≠some 0
 |[]=>by simp[cV]
 | d ::l=>by
   have ih:=oF l
   unfold cV
   split
   · simp
   · rename_i h
     cases ht:cV l with
     |nil=>simp[ht]at h ⊢;exact h
     |cons e m=>rw[ht]at ih;simpa[List.getLast?_cons_cons]using ih
def jL (B:Nat)(hB:2<=B)(l:List Nat)(h:∀d∈l,d<B):cV l=aj B (bg B l):=by
 rw[<-sC B l]
 exact jK hB ⟨λd hd=>h d (qb hd),oF l⟩
def bH (B:Nat):∀a b,bg B (a++b)=bg B a+B^a.length*bg B b
 |[],b=>by simp[bg]
 | d ::a,b=>by
   simp only[List.cons_append,bg,bH B a b,List.length_cons,Nat.pow_succ]
   rw[Nat.mul_add]
   have:B*(B^a.length*bg B b)=B^a.length*B*bg B b:=by
    rw[<-Nat.mul_assoc,Nat.mul_comm B]
   omega
def fK (B:Nat):∀l:List Nat,(∀d∈l,d<B)->bg B l<B^l.length
 |[],_=>by simp[bg]
 | d::l,h=>by
   have ih:=fK B l (λx hx=>h x (List.mem_cons_of_mem _ hx))
   have hd:=h d Vk
   simp only[bg,List.length_cons,Nat.pow_succ]
   have:B*(bg B l+1)<=B*B^l.length:=Nat.mul_le_mul_left _ ih
   rw[Nat.mul_add]at this
   rw[Nat.mul_comm (B^l.length)]
   omega
def pI (B:Nat)(hB:2<=B)(n k:Nat)(h:n<B^k):(aj B n).length<=k:=by
 induction k generalizing n with
 |zero=>simp at h;subst h;simp[eH]
 | succ k ih=>
   by_cases h0:n=0
   · subst h0;simp[eH]
   · rw[eo B n hB J]
     have:n/B<B^k:=by
      rw[Nat.div_lt_iff_lt_mul J]
      rwa [Nat.pow_succ]at h
     have:=ih _ this
     simp;omega
def aF (B:Nat)(hB:2<=B)(n k:Nat):(aj B n).length<=k↔n<B^k:=by
 constructor
 · intro h
   have h1:=fK B (aj B n) (cu B hB n)
   rw[bU B hB]at h1
   exact qb0 h1 (Nat.pow_le_pow_right J h)
 · exact pI B hB n k
def az (d:Nat->Int)(c0:Int):Nat->Int×List Int
 |0=>(c0,[])
 | k+1=>if d k+(az d c0 k).1<0 then(-1,(az d c0 k).2++[d k+(az d c0 k).1+10000])
   else if 10000<=d k+(az d c0 k).1 then((d k+(az d c0 k).1)/10000,(az d c0 k).2++[(d k+(az d c0 k).1)%10000])
   else(0,(az d c0 k).2++[d k+(az d c0 k).1])
def uy {d:Nat->Int}{c0:Int}{k:Nat}(h:d k+(az d c0 k).1<0):az d c0 (k+1)=(-1,(az d c0 k).2++[d k+(az d c0 k).1+10000]):=by
 rw[az,if_pos h]
def uz {d:Nat->Int}{c0:Int}{k:Nat}(h:¬d k+(az d c0 k).1<0)(h2:10000<=d k+(az d c0 k).1):az d c0 (k+1)=((d k+(az d c0 k).1)/10000,(az d c0 k).2++[(d k+(az d c0 k).1)%10000]):=by
 rw[az,if_neg h,if_pos h2]
def oG {d:Nat->Int}{c0:Int}{k:Nat}(h:¬d k+(az d c0 k).1<0)(h2:¬10000<=d k+(az d c0 k).1):az d c0 (k+1)=(0,(az d c0 k).2++[d k+(az d c0 k).1]):=by
 rw[az,if_neg h,if_neg h2]
def dG (d:Nat->Int)(c0:Int):∀k,(az d c0 k).2.length=k
 |0=>rfl
 | k+1=>by
   have:=dG d c0 k
   rw[az];split <;>(try split) <;>simp[this]
def jM:List Int->Int
 |[]=>0
 |x::l=>x+10000*jM l
def hZ:∀a b,jM (a++b)=jM a+10000^a.length*jM b
 |[],b=>by simp[jM]
 | x::a,b=>by
   simp only[List.cons_append,jM,hZ a b,List.length_cons,Int.pow_succ]
   grind
def qc (d:Nat->Int):Nat->Int
 |0=>0
 |k+1=>qc d k+d k*10000^k
def gY (d:Nat->Int)(c0:Int):∀k,jM (az d c0 k).2+(az d c0 k).1*10000^k=c0+qc d k
 |0=>by simp[az,jM,qc]
 | k + 1=>by
   have ih:=gY d c0 k
   have hl:=dG d c0 k
   rw[az]
   split
   · simp only[hZ,hl,jM,qc,Int.pow_succ];grind
   · split
     · simp only[hZ,hl,jM,qc,Int.pow_succ]
       have D:=Int.mul_ediv_add_emod (d k+(az d c0 k).1) 10000
       grind
     · simp only[hZ,hl,jM,qc,Int.pow_succ];grind
def fX (d:Nat->Int)(c0:Int)(h:∀k,-10000<=d k+(az d c0 k).1):∀k,∀x∈(az d c0 k).2,0<=x/\x<10000
 |0=>by simp[az]
 | k + 1=>by
   have ih:=fX d c0 h k
   have hk:=h k
   intro x hx
   rw[az]at hx
   split at hx
   · rcases List.mem_append.1 hx with hx|hx
     · exact ih x hx
     · simp at hx;omega
   · split at hx
     · rcases List.mem_append.1 hx with hx|hx
       · exact ih x hx
       · simp at hx;omega
     · rcases List.mem_append.1 hx with hx|hx
       · exact ih x hx
       · simp at hx;omega
def dH (l:List Int):List Nat:=l.map Int.toNat
def jb:∀l:List Int,(∀x∈l,0<=x)->((bg 10000 (dH l):Nat):Int)=jM l
 |[],_=>rfl
 | x::l,h=>by
   have ih:=jb l (λy hy=>h y (by simp[hy]))
   have hx:=h x Vk
   simp only[dH,List.map_cons,bg,jM]at *
   omega
def sD (l:List Int)(h:∀x∈l,0<=x):(dH l).map (λn:Nat=>(n:Int))=l:=by
 simp only[dH,List.map_map]
 conv=>rhs;rw[<-List.map_id l]
 apply List.map_congr_left
 intro x hx
 have:=h x hx
 simp;omega
def xf (l:List Int)(h:∀x∈l,0<=x/\x<10000):∀x∈dH l,x<10000:=by
 intro x hx
 obtain⟨y,hy,rfl⟩:=List.mem_map.1 hx
 have:=h y hy
 omega
def gL (xs:List Nat):∀k,qc (λi=>((xs.getD i 0:Nat):Int)) k=((bg 10000 (xs.take k):Nat):Int)
 |0=>by simp[qc,bg]
 | k + 1=>by
   rw[qc,gL xs k]
   by_cases hk:k<xs.length
   · have:xs.take (k+1)=xs.take k++[xs.getD k 0]:=by
      rw[List.take_succ_eq_append_getElem hk];simp[hk]
     rw[this,bH]
     have hl:(xs.take k).length=k:=by simp;omega
     rw[hl]
     simp only[bg,Nat.mul_zero,Nat.add_zero]
     rw[Int.natCast_add,Int.natCast_mul,Int.natCast_pow]
     rw[Int.mul_comm];rfl
   · rw[List.take_of_length_le J,List.take_of_length_le J]
     have:xs.getD k 0=0:=by simp[List.getD,List.getElem?_eq_none (Nat.le_of_not_lt hk)]
     rw[this];simp
def sE (d e:Nat->Int):∀k,qc (λi=>d i+e i) k=qc d k+qc e k
 |0=>by simp[qc]
 |k+1=>by simp only[qc,sE d e k];grind
def sF (d e:Nat->Int):∀k,qc (λi=>d i-e i) k=qc d k-qc e k
 |0=>by simp[qc]
 |k+1=>by simp only[qc,sF d e k];grind
def sG (d:Nat->Int)(c:Int):∀k,qc (λi=>d i*c) k=qc d k*c
 |0=>by simp[qc]
 |k+1=>by simp only[qc,sG d c k];grind
def qr (xs:List Nat){k:Nat}(h:xs.length<=k):bg 10000 (xs.take k)=bg 10000 xs:=by rw[List.take_of_length_le h]
def getD_lt {xs:List Nat}(h:∀x∈xs,x<10000)(i:Nat):xs.getD i 0<10000:=by
 by_cases hi:i<xs.length
 · simp[hi];exact h _ (List.getElem_mem hi)
 · simp[List.getD,List.getElem?_eq_none (Nat.le_of_not_lt hi)]
def eI (xs ys:List Nat)(i:Nat):Int:=((xs.getD i 0:Nat):Int)+((ys.getD i 0:Nat):Int)
def kJ {xs ys:List Nat}(hx:∀x∈xs,x<10000)(hy:∀x∈ys,x<10000):∀k,0<=(az (eI xs ys) 0 k).1/\(az (eI xs ys) 0 k).1<=1
 |0=>by simp[az]
 | k+1=>by
   have ih:=kJ hx hy k
   have h1:=getD_lt hx k
   have D:=getD_lt hy k
   rw[az]
   have hd:eI xs ys k=((xs.getD k 0:Nat):Int)+((ys.getD k 0:Nat):Int):=rfl
   split
   · omega
   · split <;>simp only <;>omega
def yI {xs ys:List Nat}(hx:∀x∈xs,x<10000)(hy:∀x∈ys,x<10000){n k:Nat}(hn:xs.length<=n/\ys.length<=n)(hk:n<=k)(hc:(az (eI xs ys) 0 k).1=0):
 (∀x∈(az (eI xs ys) 0 k).2,0<=x/\x<10000)/\bg 10000 (dH (az (eI xs ys) 0 k).2)=bg 10000 xs+bg 10000 ys:=by
 have hd:∀x∈(az (eI xs ys) 0 k).2,0<=x/\x<10000:=fX _ _ (λj=>by
  have:=kJ hx hy j
  simp only[eI];omega) k
 refine⟨hd,?_⟩
 have h1:=gY (eI xs ys) 0 k
 have D:=jb _ (λx hx=>(hd x hx).1)
 have E:qc (eI xs ys) k=((bg 10000 xs:Nat):Int)+((bg 10000 ys:Nat):Int):=by
  have:=sE (λi=>((xs.getD i 0:Nat):Int)) (λi=>((ys.getD i 0:Nat):Int)) k
  rw[gL,gL,qr xs J,qr ys J]at this
  exact this
 rw[hc]at h1
 omega
def cQ (xs ys:List Nat)(i:Nat):Int:=((xs.getD i 0:Nat):Int)-((ys.getD i 0:Nat):Int)
def ia {xs ys:List Nat}(hx:∀x∈xs,x<10000)(hy:∀x∈ys,x<10000):∀k,-1<=(az (cQ xs ys) 0 k).1/\(az (cQ xs ys) 0 k).1<=0
 |0=>by simp[az]
 | k+1=>by
   have ih:=ia hx hy k
   have h1:=getD_lt hx k
   have D:=getD_lt hy k
   rw[az]
   have hd:cQ xs ys k=((xs.getD k 0:Nat):Int)-((ys.getD k 0:Nat):Int):=rfl
   split
   · simp
   · split <;>simp only <;>omega
def sH {l:List Int}(h:∀x∈l,0<=x/\x<10000):0<=jM l/\jM l<10000^l.length:=by
 induction l with
 |nil=>simp[jM]
 | cons x l ih=>
   have:=ih (λy hy=>h y (by simp[hy]))
   have hx:=h x Vk
   simp only[jM,List.length_cons,Int.pow_succ]
   constructor
   · omega
   · omega
def xg {xs ys:List Nat}(hx:∀x∈xs,x<10000)(hy:∀x∈ys,x<10000){n:Nat}(hn:xs.length<=n/\ys.length<=n)(hle:bg 10000 ys<=bg 10000 xs):
 (az (cQ xs ys) 0 n).1=0/\(∀k,∀x∈(az (cQ xs ys) 0 k).2,0<=x/\x<10000)/\∀k,n<=k->(az (cQ xs ys) 0 k).1=0->bg 10000 (dH (az (cQ xs ys) 0 k).2)=bg 10000 xs-bg 10000 ys:=by
 have hd:∀k,∀x∈(az (cQ xs ys) 0 k).2,0<=x/\x<10000:=fX _ _ (λj=>by
  have:=ia hx hy j
  have h1:=getD_lt hx j
  have E:=getD_lt hy j
  simp only[cQ];omega)
 have D:∀k,n<=k->qc (cQ xs ys) k=((bg 10000 xs:Nat):Int)-((bg 10000 ys:Nat):Int):=λk hk=>by
  have:=sF (λi=>((xs.getD i 0:Nat):Int)) (λi=>((ys.getD i 0:Nat):Int)) k
  rw[gL,gL,qr xs J,qr ys J]at this
  exact this
 refine⟨?_,hd,λk hk hc=>?_⟩
 · have h1:=gY (cQ xs ys) 0 n
   have G:=sH (hd n)
   have H:=ia hx hy n
   rw[dG]at G
   rw[D n (Nat.le_refl _)]at h1
   have hcases:(az (cQ xs ys) 0 n).1=-1\/(az (cQ xs ys) 0 n).1=0:=J
   rcases hcases with hc|hc
   · rw[hc]at h1;omega
   · exact hc
 · have h1:=gY (cQ xs ys) 0 k
   have E:=jb _ (λx hx=>(hd k x hx).1)
   rw[hc,D k hk]at h1
   omega
def nj (xs:List Nat)(m:Nat)(i:Nat):Int:=((xs.getD i 0:Nat):Int)*(m:Int)
def rj {xs:List Nat}(hx:∀x∈xs,x<10000){m:Nat}(hm:m<10000)(i:Nat):0<=nj xs m i/\nj xs m i<=99980001:=by
 have h1:=getD_lt hx i
 have D:xs.getD i 0*m<=9999*9999:=qb7 J J
 unfold nj
 rw[<-Int.natCast_mul]
 omega
def oH {xs:List Nat}(hx:∀x∈xs,x<10000){m:Nat}(hm:m<10000):∀k,0<=(az (nj xs m) 0 k).1/\(az (nj xs m) 0 k).1<10000
 |0=>by simp[az]
 | k+1=>by
   have ih:=oH hx hm k
   have h1:=rj hx hm k
   rw[az]
   split
   · omega
   · split <;>simp only <;>omega
def Gj {xs:List Nat}(hx:∀x∈xs,x<10000){m:Nat}(hm:m<10000){n k:Nat}(hn:xs.length<=n)(hk:n<=k)(hc:(az (nj xs m) 0 k).1=0):
 (∀x∈(az (nj xs m) 0 k).2,0<=x/\x<10000)/\bg 10000 (dH (az (nj xs m) 0 k).2)=bg 10000 xs*m:=by
 have hd:∀x∈(az (nj xs m) 0 k).2,0<=x/\x<10000:=fX _ _ (λj=>by
  have:=oH hx hm j
  have:=rj hx hm j
  omega) k
 refine⟨hd,?_⟩
 have h1:=gY (nj xs m) 0 k
 have E:=jb _ (λx hx=>(hd x hx).1)
 have D:qc (nj xs m) k=((bg 10000 xs:Nat):Int)*(m:Int):=by
  have:=sG (λi=>((xs.getD i 0:Nat):Int)) (m:Int) k
  rw[gL,qr xs J]at this
  exact this
 rw[hc,D]at h1
 rw[<-Int.natCast_mul]at h1
 omega
namespace Go.Eng
open Go Go.RowKit
variable {K K1 K2:Act->World->Prop}{xs:Array Operand}{ats:Array TypeId}{Q:Exit->Act->World->Prop}{fn:Func}{f:FuncId}{a c:Int}{ds:List Deferred}{bs order ps C:List Nat}{l rest:List Oper}{cs lb args vs la cs':List Value}{b lo D N m gf base sz fuel i j s dd k k' p size bytes M:Nat}{ls:Nat->Bool}{e:Nat->Value}{o:Oper}{row:Option Nat}{t src dst el et:TypeId}{v v':Value}{W A B W' w0 w' w W0:World}
section range
variable {P:Program}
structure dD (bs:List Nat)(W W':World):Prop where
 size:W.heap.size<=W'.heap.size
 block:∀k,k<W.heap.size->k∉bs->W'.heap[k]?=W.heap[k]?
def dD.refl (bs:List Nat)(W:World):dD bs W W:=⟨qa0 _,λ_ _ _=>rfl⟩
def dD.ext (h:dD bs W A)(k:a8 A B):dD bs W B:=
 ⟨qa8 h.size k.size,λi hi hb=>(k.block i (qb0 hi h.size)).trans (h.block i hi hb)⟩
def ab5:=@dD.ext
def dD.put (h:dD bs W A)(k:fe A B b)(hb:b∈bs\/W.heap.size<=b):dD bs W B:=
 ⟨by rw[k.size];exact h.size,λi hi E=>(k.block i (λe=>by subst e;rcases hb with hb|hb;exact E hb;omega)).trans (h.block i hi E)⟩
def ab6:=@dD.put
def dD.gr (h:dD bs W A)(k:A.grownBy B row)(hb:∀b,row=some b->b∈bs\/W.heap.size<=b):dD bs W B:=
 ⟨qa8 h.size k.size,λi hi E=>(k.block i (qb0 hi h.size) (λe=>by rcases hb i e.symm with hb|hb;exact E hb;omega)).trans (h.block i hi E)⟩
def dD.others (h:dD bs W W')(hc:∀b∈bs,∃o:Obj,W.heap[b]?=some o/\o.isCells=true):KeepsOthers W W':=
 ⟨h.size,λk o hk ho=>(h.block k (Array.getElem?_eq_some_iff.1 hk).1 (λhm=>by
  obtain⟨o',E,G⟩:=hc k hm
  rw[hk]at E;cases E;rw[ho]at G;cases G)).trans hk⟩
def dD.blk {cs:Array Value}(h:dD bs W W')(hn:b∉bs)(hb:ae W b t cs):ae W' b t cs:=(h.block b hb.lt hn).trans hb
def dD.rw {A:Option Addr}(h:dD bs W W')(hn:∀ad,A=some ad->ad.block∉bs)(hb:Rw W lo A cs):Rw W' lo A cs:=by
 refine⟨λj u hu=>?_,hb.lo,λad e=>qb0 (hb.hi ad e) h.size⟩
 obtain⟨b,o,e,hc⟩:=hb.cells j u hu
 refine⟨b,o,e,?_⟩
 rw[<-hc]
 exact World.cell?_of_block (h.block b (hb.hi _ e) (hn _ e))
def ae.isCells {cs:Array Value}(h:ae w b t cs):∃o:Obj,w.heap[b]?=some o/\o.isCells=true:=⟨_,h,rfl⟩
def ab7:=@ae.isCells
def uA (B:Nat)(kx:World->Prop):Prop:=
 ∀W W' row,kx W->W.grownBy W' row->(∀r,row=some r->B<=r/\∃o:Obj,W.heap[r]?=some o/\o.isCells=false)->kx W'
def ae.cel {B:Nat}{cs:Array Value}(hg:W.grownBy W' row)(hr:∀r,row=some r->B<=r/\∃o:Obj,W.heap[r]?=some o/\o.isCells=false)(h:ae W b t cs):ae W' b t cs:=
 (grownBy_keeps_cells hg (λr e=>(hr r e).2) h Z).trans h
def ab4:=@ae.cel
def Rw.cel {B:Nat}{A:Option Addr}(hg:W.grownBy W' row)(hr:∀r,row=some r->B<=r/\∃o:Obj,W.heap[r]?=some o/\o.isCells=false)(h:Rw W lo A cs):Rw W' lo A cs:=by
 refine⟨λj u hu=>?_,h.lo,λE e=>qb0 (h.hi E e) hg.size⟩
 obtain⟨b,o,e,hc⟩:=h.cells j u hu
 exact⟨b,o,e,cell_kept hc hg (λr e=>(hr r e).2)⟩
def li {B n0:Nat}(hn:n0<=B)(hg:W.grownBy W' row)(hr:∀r,row=some r->B<=r/\∃o:Obj,W.heap[r]?=some o/\o.isCells=false)(hs:n0<=W.heap.size)(h:Below n0 w0 W):Below n0 w0 W':=
 h.grown hg hs (λk e=>qa8 hn (hr k e).1)
def j9 (w:World)(D:Nat):Prop:=w.heap[D]?=some (.deferred (some []))
def j9.ext (k:a8 w w')(h:j9 w D):j9 w' D:=k.heap h
def j9.put (k:fe w w' b)(hne:D≠b)(h:j9 w D):j9 w' D:=(k.block D hne).trans h
def j9.ne {cs:Array Value}(h:j9 w D)(hb:ae w b t cs):D≠b:=λe=>by
 subst e;unfold j9 at h;unfold ae at hb;rw[h]at hb;cases hb
def EB (P:Program)(gf:Nat)(lb:List Value)(m:Nat)(enc:Nat->List Value)(order:List Nat)(Kq:World->Prop)(w:World):Prop:=
 SeqStopsK Fence.wide 8 P gf lb.toArray (λi:{i:Nat // i<m}=>(enc i.1).toArray) (λA B=>Kq A->Kq B) (λxs=>xs.map (·.1)=order) (λxs=>xs.map (·.1) <+: order) m w
def iJ (e:Nat->Value):List Nat->List Value->Nat->Value
 |p::ps,v::vs=>iJ (upd e p v) ps vs
 |_,_=>e
def B4 (N:Nat)(e:Nat->Value)(d:Nat)(v:Value):(act N e []).tmps.setIfInBounds d v=(act N (upd e d v) []).tmps:=by
 have:=ai N e [] d v
 exact qb1 Act.tmps this
def oI (N:Nat):∀(ps:List Nat) (vs:List Value) (e:Nat->Value),(ps.zip vs).foldl (λt (x:Nat×Value)=>t.setIfInBounds x.1 x.2) (act N e []).tmps=(act N (iJ e ps vs) []).tmps
 |[],vs,e=>by simp[iJ]
 |p::ps,[],e=>by simp[iJ]
 | p::ps,v::vs,e=>by
   simp only[List.zip_cons_cons,List.foldl_cons,iJ]
   rw[B4,oI N ps vs]
def roundPost (Kq:World->Prop)(kx:List Nat->World->Prop)(Ix:Code->List Nat->World->Prop)(xs:List Nat)(W:World):Exit->Act->World->Prop
 | .normal,_,W'=>KeepsOthers W W'/\(Kq W->Kq W')/\kx xs W'
 | .ret,_,W'=>KeepsOthers W W'/\Ix .ret xs W'
 | .exit id,_,W'=>KeepsOthers W W'/\Ix (.exit id) xs W'
 |_,_,_=>False
def nA {enc:Nat->List Value}{Kq:World->Prop}{g:Operand}{assign body:Code}(hg:ev N e g=.func (.func gf) #[] lb.toArray)(eg:Enters P gf)(hit:EB P gf lb m enc order Kq w)(hKq:uA w.heap.size Kq)(hps:∀i,(enc i).length=ps.length)(qs:List Nat)(qv:Nat->List Value)(hassign:∀l x W K,K (act N (iJ (iJ e ps (enc x)) qs (qv x)) []) W->assign.wpIn (Fw (some l)) 7 P (Exit.then K (λ_ _ _=>False)) (act N (iJ e ps (enc x)) []) W)(kx:List Nat->World->Prop)(Ix:Code->List Nat->World->Prop)(hI:∀xs,uA w.heap.size (kx xs))(hIx:∀c xs,uA w.heap.size (Ix c xs))(h0:kx [] w)(hbody:∀l pre x W,kx pre W->(∀i∈pre,i<m)->x<m->pre.length<m->body.wpIn (Fw (some l)) 7 P (roundPost Kq kx Ix (pre++[x]) W) (act N (iJ (iJ e ps (enc x)) qs (qv x)) []) W)(hdone:∀D W,w.heap.size<=D->kx order W->j9 W D->Q .normal (act N e (⟨.collected D,#[]⟩::ds)) W)(hstop:∀D c pre W,w.heap.size<=D->pre <+: order->Ix c pre W->j9 W D->c.wpIn (Fw none) 9 P Q (act N e (⟨.collected D,#[]⟩::ds)) W):
 (Code.rangeFunc g ps.toArray assign body).wpIn (Fw none) 9 P Q (act N e ds) w:=by
 have A1:∀pre:List {i:Nat // i<m},∀i∈pre.map (·.1),i<m:=λpre i hi=>by
  obtain⟨x,_,rfl⟩:=List.mem_map.1 hi
  exact x.2
 refine wpIn_rangeFunc_ownF (F:=Fence.wide) (n:=9) (α:={i:Nat // i<m}) Z J (gf:=gf) (lb:=lb.toArray) (by rw[c6];exact hg) trivial eg (w0:=w) hit (λh k q=>k (h q))
  (λW l o o' hl ho hc _ q=>hKq W _ (some l) q (grownBy_putObj' W l o') (λr kd=>by cases kd;exact⟨hl,o,ho,hc⟩)) (Below.refl _ _) (λx=>by simpa using hps x.1)
  (λpre W=>kx (pre.map (·.1)) W) (λc pre W=>Ix c (pre.map (·.1)) W) (λpre W W' row h=>hI (pre.map (·.1)) W W' row h) (λc pre W W' row h=>hIx c (pre.map (·.1)) W W' row h) h0
  (λx=>act N (iJ (iJ e ps (enc x.1)) qs (qv x.1)) []) (λl x W K hK=>?_) (λl pre x W hi A2=>?_) (λD xs W hD hS hi hK=>?_) (λD c pre W hD H hi hK=>?_)
 · have h:=hassign l x.1 W K hK
   have O:({tmps:=(ps.toArray.zip (enc x.1).toArray).foldl (λt (p,v)=>t.setIfInBounds p v) (act N e ds).tmps,defers:=[]}:Act)=act N (iJ e ps (enc x.1)) []:=by
    have kk:=oI N ps (enc x.1) e
    have:(act N (iJ e ps (enc x.1)) [])=⟨(act N (iJ e ps (enc x.1)) []).tmps,[]⟩:=rfl
    rw[this,<-kk]
    simp only[List.zip_toArray,List.foldl_toArray]
    rfl
   rw[O]
   exact h
 · refine wpIn_mono (hbody l (pre.map (·.1)) x.1 W hi (A1 pre) x.2 (by simpa using A2)) ?_
   rintro ex a W3 E
   have G:(pre++[x]).map (·.1)=pre.map (·.1)++[x.1]:=by simp
   cases ex with
   |normal=>exact⟨E.1,E.2.1,by simp only[];rw[G];exact E.2.2⟩
   |ret=>exact⟨E.1,by simp only[];rw[G];exact E.2⟩
   |exit id=>exact⟨E.1,by simp only[];rw[G];exact E.2⟩
   |goto t=>exact E.elim
   |panic c=>exact E.elim
   |outgrown=>exact E.elim
 · exact hdone D W hD (by have h:xs.map (·.1)=order:=hS;rw[<-h];exact hi) hK
 · exact hstop D c _ W hD H hi hK
variable {c:Code}{R:Value->World->Prop}
def iK (args:List Value)(fn:Func):({tmps:=args.toArray++Array.replicate (fn.ntmps-args.toArray.size) undef,defers:=[]}:Act)=act (args.length+(fn.ntmps-args.length)) (BP args) []:=by
 simp only[act,Act.mk.injEq,and_true]
 apply Array.ext
 · simp
 · intro i _ _
   simp only[Array.getElem_ofFn,BP]
   by_cases hi:i<args.length
   · simp[hi]
   · have E:args.toArray.size<=i:=by simpa using hi
     rw[Array.getElem_append_right E]
     simp[List.getElem?_eq_none (Nat.le_of_not_lt hi)]
def qd (hf:P.funcs[f]?=some fn)(hb:fn.body=some c)(h:c.wpIn (Fw none) 9 P (bodyPostM Fence.wide 9 P fn (aH w R)) (act (args.length+(fn.ntmps-args.length)) (BP args) []) w):Calls P f args.toArray w (aH w R):=by
 refine nX (n:=9) (callsIn_of_wp_marks hf hb trivial ?_)
 rw[iK]
 exact h
def dU (w:World):fe w (w.putObj D (.deferred none)) D:=
 ⟨rfl,rfl,rfl,by simp,λk hk=>World.putObj_heap_other hk⟩
def gZ (hK:j9 w' D)(hr:(results fn (act N e [⟨.collected D,#[]⟩]).tmps).run P (w'.putObj D (.deferred none))=.ok v (w'.putObj D (.deferred none)))(hx:a8 w (w'.putObj D (.deferred none)))(hR:R v (w'.putObj D (.deferred none))):bodyPostM Fence.wide 9 P fn (aH w R) .ret (act N e [⟨.collected D,#[]⟩]) w':=
 ⟨by simp,.inl ⟨D,_,rfl,run_takeDeferred hK,v,hr,hx,hR⟩⟩
def B5 {t:Nat}(hK:j9 w' D)(hres:fn.results=#[.tmp t])(hx:a8 w w')(hD:w.heap.size<=D)(hR:R v (w'.putObj D (.deferred none)))(hv:ev N e (.tmp t)=v):bodyPostM Fence.wide 9 P fn (aH w R) .ret (act N e [⟨.collected D,#[]⟩]) w':=
 gZ hK (cn hres (aE hv _)) ((dU w').low hx hD) hR
def vC (hr:(results fn (act N e []).tmps).run P w'=.ok v w')(hx:a8 w w')(hR:R v w'):bodyPostM Fence.wide 9 P fn (aH w R) .ret (act N e []) w':=
 ⟨v,hr,hx,hR⟩
def ae.dfr {cs:Array Value}(hK:j9 w D)(h:ae w b t cs):ae (w.putObj D (.deferred none)) b t cs:=(dU w).blk (λe=>hK.ne h e.symm) h
def Rw.dfr {A:Option Addr}(hK:j9 w D)(h:Rw w lo A cs):Rw (w.putObj D (.deferred none)) lo A cs:=by
 refine⟨λj u hu=>?_,h.lo,λG e=>by rw[(dU w).size];exact h.hi G e⟩
 obtain⟨b,o,e,hc⟩:=h.cells j u hu
 refine⟨b,o,e,?_⟩
 rw[<-hc]
 refine(dU w).cell ?_
 intro hb
 simp only at hb
 subst hb
 obtain⟨_,E,H⟩:=cells_of_cell hc
 rw[show w.heap[b]?=some (.deferred (some []))from hK]at E
 cases E;cases H
def vD {l d ty:Nat}{pos:String}{af:Array Edge}{x:Operand}{R:Ending->World->Prop}(hx:ev N e x=.func (.yield l) #[] #[])(hv:xs.toList.map (ev N e)=vs)(hy:YieldAt Fence.wide 7 P l vs.toArray w R)(hk:∀c w',R c w'->match c with| .returned v=>K (act N (upd e d v) ds) w'|_=>False):Oper.wpIn (Fw none) 8 P ⟨some d,.call {callee:=.value x,args:=xs,argTypes:=ats},ty,pos,af,none⟩ (act N e ds) w K Q:=by
 subst hv
 obtain⟨fn,tmps,assign,body,hr,hR⟩:=hy
 have E:(xs.toList.map (ev N e)).toArray=xs.map (ev N e):=by rw[<-Array.toList_map,Array.toArray_toList]
 rw[E]at hr
 refine⟨λf _=>k5 none f,?_⟩
 rw[jy Z,c6]
 have:(execOp (ev N e) ⟨some d,.call {callee:=.value x,args:=xs,argTypes:=ats},ty,pos,af,none⟩).run P w=.ok (.round l fn tmps assign body) w:=by
  simp[execOp,resolve,Deferred.ofValue,hx,invoke,hr]
 rw[this]
 refine⟨(λh=>by rw[nW]at h;cases h),hR.mono ?_⟩
 intro c w' h
 have:=hk c w' h
 cases c with
 |returned v=>simp only at this ⊢;rw[ai];exact this
 |panicked c=>exact this.elim
 |outgrown=>exact this.elim
def qe {F:Fence}{n g:Nat}{R:Ending->World->Prop}{a:Value}(h:CallsIn F n P g (a::lb).toArray W R):CallsIn F n P g (#[a]++lb.toArray) W R:=by
 have:(#[a]++lb.toArray)=(a::lb).toArray:=by simp
 rw[this];exact h
def EC {R:Ending->World->Prop}(hf:P.funcs[f]?=some fn)(hb:fn.body=some c)(h:c.wpIn (Fw none) 8 P (bodyPost P fn R) (act (args.length+(fn.ntmps-args.length)) (BP args) []) w):CallsIn Fence.wide 8 P f args.toArray w R:=by
 refine callsIn_of_wp hf hb trivial ?_
 rw[iK]
 exact h
def B6 {R:Ending->World->Prop}(hres:fn.results=#[])(hR:∀v,R (.returned v) w'):bodyPost P fn R .ret (act N e []) w':=
 ⟨rfl,_,xc hres,hR _⟩
def vE {R:Ending->World->Prop}(hres:fn.results=#[])(hR:∀v,R (.returned v) w'):bodyPost P fn R .normal (act N e []) w':=
 ⟨rfl,_,xc hres,hR _⟩
def mR {k3 J' Kp:Prop}{c:Ending}(h:(c=.returned (.bool true)/\k3/\Kp)\/(c=.returned (.bool false)/\J')):∃q,c=.returned (.bool q)/\(q=true->k3/\Kp)/\(q=false->J'):=by
 rcases h with⟨h1,h2,h3⟩|⟨h1,h2⟩
 · exact⟨true,h1,λ_=>⟨h2,h3⟩,λh=>by cases h⟩
 · exact⟨false,h1,λh=>by(cases h),λ_=>h2⟩
end range
section
variable {P:Program}{r:Option Nat}{n:Nat}
variable {d ty:Nat}{pos:String}{af:Array Edge}{g:Option (Nat×Bool)}{u:Value}{x y:Operand}{t':TypeId}
def gM {k k':IntKind}{D:TypeDesc}(hs:P.underlying src=some D)(hd:P.underlying dst=some (.int k'))(hx:ev N e x=.int k a)(hc:k'.wrap a=c)(hk:K (act N (upd e d (.int k' c)) ds) w):
 Oper.wpIn (Fw r) n P ⟨some d,.convert src dst x,ty,pos,af,g⟩ (act N e ds) w K Q:=by
 refine cX (v:=.int k' c) (w':=w) Z ?_ Vl
 subst hc
 simp[execOp,hx,convert,run_underlying hs,run_underlying hd,Conv.intToInt]
def IK {k k':IntKind}{b:Int}(hx:ev N e x=.int k a)(hy:ev N e y=.int k' b)(hb:0<=b/\b<=8)(hc:a/2^b.toNat=c)(hk:K (act N (upd e d (.int k c)) ds) w):
 Oper.wpIn (Fw r) n P ⟨some d,.binOp .shr t x y t',ty,pos,af,g⟩ (act N e ds) w K Q:=by
 refine dY hx hy (cG ..) ?_ hk
 have h1:¬b<0:=J
 have E:min b.toNat k.bits=b.toNat:=by
  have:8<=k.bits:=by cases k <;>decide
  omega
 subst hc
 simp only[binOp,Op.shift,h1,if_false,E]
 simp[Int.fdiv_eq_ediv_of_nonneg _ (show(0:Int)<=2^b.toNat from Int.le_of_lt (Int.pow_pos J))]
def vF {R:Value->World->Prop}(hf:Enters P f)(hx:ev N e x=.func (.func f) la.toArray #[])(hv:xs.toList.map (ev N e)=vs)(hc:Calls P f (la++vs).toArray w (aH w R))(hk:∀v w',a8 w w'->R v w'->K (act N (upd e d v) ds) w'):Oper.wpIn (Fw r) n P ⟨some d,.call {callee:=.value x,args:=xs,argTypes:=ats},ty,pos,af,g⟩ (act N e ds) w K Q:=by
 subst hv
 have E:la.toArray++xs.map (ev N e)=(la++xs.toList.map (ev N e)).toArray:=by simp
 refine qV (f:=f) (args:=la.toArray++xs.map (ev N e)) (R:=R) Z ?_ (by rw[E];exact hc) (λv w' h1 E=>by rw[ai];exact hk v w' h1 E)
 simp[execOp,resolve,Deferred.ofValue,hx,invoke,hf _ _]
def nB {xs:List Value}(h:w.ownsRow base el sz (.slice (some ⟨b,0,none⟩) m m) m xs):ae w b el xs.toArray:=by
 obtain⟨hl,⟨hv,_⟩|⟨g,cap,G,hv,H,E,hc,hm,hs,ht⟩⟩:=h
 · cases hv
 · simp only[Value.slice.injEq]at hv
   obtain⟨hv,-,rfl⟩:=hv
   cases hv
   rw[List.take_of_length_le (by simp[hs])]at ht
   subst ht
   simpa[ae]using E
def Rw.of_blk {xs:List Value}(h:ae w b el xs.toArray)(hb:lo<=b):Rw w lo (some ⟨b,0,none⟩) xs:=by
 refine⟨λj u hu=>⟨b,0,rfl,?_⟩,λE e=>by cases e;exact hb,λE e=>by cases e;exact h.lt⟩
 rw[Nat.zero_add]
 exact h.cell (by simpa using hu)
def ab2:=@Rw.of_blk
def Gk (p:Nat->Prop):List Nat->Prop
 |[]=>True
 |i::is=>p i/\Gk p is
def sI {p:Nat->Prop}:∀{l:List Nat},Gk p l->∀i∈l,p i
 | _::_,h,i,hi=>by
   rcases List.mem_cons.1 hi with rfl|hi
   · exact h.1
   · exact sI h.2 i hi
def B7 {id:Nat}(hm:P.follows .mixedOrders=true)(h:wpAnyIn (Fw r) n P .any l.toArray Q l.length (Array.replicate l.length false) (act N e ds) w.drew):(Code.region id l.toArray true).wpIn (Fw r) n P Q (act N e ds) w:=
 wpIn_region_any hm h
def fp {listed:Array Bool}{is:List Nat}{a:Act}(hr:Region.ready .any l.toArray listed=i::is)(h:Gk (λi=>wpOpIn (Fw r) n P l.toArray Q i (wpAnyIn (Fw r) n P .any l.toArray Q fuel (listed.setIfInBounds i true)) a w) (i::is)):wpAnyIn (Fw r) n P .any l.toArray Q (fuel+1) listed a w:=
 ⟨λE=>(by rw[hr]at E;cases E),λj G=>sI h j (by rw[hr]at G;exact G)⟩
def jN {a:Act}{dst:Option Nat}{op:Op}(ho:l[i]?=some ⟨dst,op,ty,pos,af,none⟩)(h:Oper.wpIn (Fw r) n P ⟨dst,op,ty,pos,af,none⟩ a w K Q):wpOpIn (Fw r) n P l.toArray Q i K a w:=by
 unfold wpOpIn
 rw[List.getElem?_toArray,ho]
 simp only[Region.wanted,if_true]
 exact h
def vG {listed:Array Bool}{a:Act}(hr:Region.ready .any l.toArray listed=[])(h:Q .normal a w):wpAnyIn (Fw r) n P .any l.toArray Q 0 listed a w:=⟨hr,h⟩
def wrap_i64 (h:-9223372036854775808<=a/\a<=9223372036854775807):IntKind.i64.wrap a=a:=j7 h
def wrap_u64 (h:0<=a/\a<=18446744073709551615):IntKind.u64.wrap a=a:=by
 have h1:a%18446744073709551616=a:=Int.emod_eq_of_lt h.1 J
 simp[IntKind.wrap,IntKind.bits,IntKind.signed,h1]
def Cf.ext {a:Addr}(k:a8 w w')(h:w.cell? a=some v):w'.cell? a=some v:=k.cell h
def ab3:=@Cf.ext
def yJ {k:IntKind}{b:Int}(hx:ev N e x=.int k a)(hy:ev N e y=.int k b)(hc:k.wrap (a-b)=c)(hk:K (act N (upd e d (.int k c)) ds) w):
 Oper.wpIn (Fw r) n P ⟨some d,.binOp .sub t x y t',ty,pos,af,g⟩ (act N e ds) w K Q:=
 dY hx hy (cG ..) (by subst hc;simp[binOp,Op.intArith]) hk
def wrap_u8 (h:0<=a/\a<=255):IntKind.u8.wrap a=a:=by
 have h1:a%256=a:=Int.emod_eq_of_lt h.1 J
 simp[IntKind.wrap,IntKind.bits,IntKind.signed,h1]
def IL {op:Op}{q:Bool}(hj:cT l j=some s)(hv:ev N e (.tmp s)=undef)(hs:Nat.blt s N=true)(h:wpListIn (Fw r) n P l.toArray Q rest (act N (upd e dd undef) ds) w):wpListIn (Fw r) n P l.toArray Q (⟨some dd,op,ty,pos,af,some (j,q)⟩::rest) (act N e ds) w:=by
 have hj':(l.toArray[j]?).bind (·.dst)=some s:=by rw[List.getElem?_toArray];exact hj
 have hy:yielded l.toArray (act N e ds).tmps j=none:=by
  have E:(act N e ds).eval (.tmp s)=undef:=by rw[c6];exact hv
  simp only[Act.eval]at E
  have hs':s<(act N e ds).tmps.size:=by rw[Nat.blt_eq]at hs;simpa[act]using hs
  simp only[Array.getD,hs',dif_pos]at E
  have G:(act N e ds).tmps[s]?=some undef:=by rw[Array.getElem?_eq_getElem hs'];exact qb1 some E
  unfold yielded;rw[hj',Option.bind_some,G];rfl
 unfold wpListIn
 rw[if_neg (by simp[Region.wanted,hy])]
 exact⟨λf _=>k5 r f,by rw[ai];exact h⟩
def cj {l:List UInt8}(h:i<l.length):l[i]?=some (l.getD i 0):=by rw[List.getElem?_eq_getElem h];simp[List.getD,h]
def uB {o:Nat}(hx:ev N e x=.pointer (some ⟨b,o,none⟩))(hk:K (act N (upd e d (.pointer (some ⟨b,o,none⟩))) ds) w):
 Oper.wpIn (Fw r) n P ⟨some d,.nilCheck x,ty,pos,af,g⟩ (act N e ds) w K Q:=by
 refine cX (v:=.pointer (some ⟨b,o,none⟩)) (w':=w) Z ?_ Vl
 simp[execOp,hx]
def eO {l:List UInt8}(hu:P.underlying t=some .string)(hx:ev N e x=S l)(hm:l.length=m)(hk:K (act N (upd e d (.int .i64 ((m:Nat):Int))) ds) w):
 Oper.wpIn (Fw r) n P ⟨some d,.call {callee:=.builtin .len,args:=#[x],argTypes:=#[t]},ty,pos,af,g⟩ (act N e ds) w K Q:=
 bF (l:=l) hu hx (by rw[hm];exact hk)
def ic :W.ownsRow base et sz (.slice none 0 0) 0 []:=⟨by simp,.inl ⟨rfl,rfl⟩⟩
def bO (h:W.ownsRow base et sz v k cs):v.ownBlock≠some W.heap.size:=by
 obtain⟨hl,⟨rfl,_⟩|⟨g,cap,G,rfl,H,E,_⟩⟩:=h
 · simp[Value.ownBlock]
 · have:g<W.heap.size:=(Array.getElem?_eq_some_iff.1 E).1
   simp[Value.ownBlock];omega
def jc (ha:v'.ownBlock=v.ownBlock\/v'.ownBlock=some W.heap.size)(hn:v.ownBlock≠some b)(hb:b<W.heap.size):v'.ownBlock≠some b:=by
 rcases ha with h|h
 · rw[h];exact hn
 · rw[h];simp;omega
def Gl (h:W.ownsRow base et sz v k cs):∀g,v.ownBlock=some g->base<=g:=by
 obtain⟨hl,⟨rfl,_⟩|⟨g,cap,G,rfl,H,E,_⟩⟩:=h
 · simp[Value.ownBlock]
 · intro _ e;simp[Value.ownBlock]at e;omega
def de {B:Nat}(h:W.ownsRow base et sz v k cs)(hB:B<=base)(hBw:B<=W.heap.size)(hE:Below B W0 W)(hg:W.grownBy W' v.ownBlock):Below B W0 W':=
 cK hE hg hBw (λg e=>qa8 hB (Gl h g e))
def cL (h:W.ownsRow base et sz v k cs)(hk:k=k')(hc:cs=cs'):W.ownsRow base et sz v k' cs':=by subst hk hc;exact h
def B8 (h:W.ownsRow base et sz v k cs):v.oneCell'=true:=by
 obtain⟨hl,⟨rfl,_⟩|⟨g,cap,E,rfl,_⟩⟩:=h <;>rfl
def jv (R:Value->World->Prop):Ending->World->Prop
 | .returned v,w'=>R v w'
 |_,_=>False
def bG {R:Value->World->Prop}(hf:Enters P f)(hv:xs.toList.map (ev N e)=vs)(hc:Calls P f vs.toArray w (jv R))(hk:∀v w',R v w'->K (act N (upd e d v) ds) w'):Oper.wpIn (Fw r) n P ⟨some d,.call {callee:=.value (.func f),args:=xs,argTypes:=ats},ty,pos,af,g⟩ (act N e ds) w K Q:=by
 subst hv
 refine⟨λf _=>k5 r f,?_⟩
 have hs:(execOp (ev N e) ⟨some d,.call {callee:=.value (.func f),args:=xs,argTypes:=ats},ty,pos,af,g⟩).run P w=.ok (.enter f (xs.map (ev N e))) w:=by
  simp[execOp,resolve,Deferred.ofValue,ev,invoke,hf _ _]
 rw[jy Z,c6,hs]
 refine⟨(λh=>by rw[nW]at h;cases h),so ((show Calls P f (xs.map (ev N e)) w (jv R)from by have h:=hc;rwa [show(xs.toList.map (ev N e)).toArray=xs.map (ev N e)by rw[<-Array.toList_map,Array.toArray_toList]]at h).mono ?_)⟩
 intro e' w' h
 cases e' with
 | returned v=>
   show K ((act N e ds).put (some d) v) w'
   rw[ai];exact hk v w' h
 |panicked c=>exact h.elim
 |outgrown=>exact h.elim
def vH {args:Array Value}{R:Ending->World->Prop}{Q:Value->World->Prop}(h:Calls P f args w R)(hq:∀e w',R e w'->∃v,e=.returned v/\Q v w'):Calls P f args w (jv Q):=
 h.mono (by
  intro e w' hR
  obtain⟨v,rfl,E⟩:=hq e w' hR
  exact E)
def jO {C:World}(h:A.grownBy B row)(k:a8 B C):A.grownBy C row:=
 ⟨k.os.trans h.os,k.tape.trans h.tape,k.output.trans h.output,qa8 h.size k.size,λi hi hr=>(k.block i (qb0 hi h.size)).trans (h.block i hi hr)⟩
def uC {C:World}(h:A.grownBy B (some b))(k:fe B C b):A.grownBy C (some b):=
 ⟨k.os.trans h.os,k.tape.trans h.tape,k.output.trans h.output,by rw[k.size];exact h.size,λi hi hr=>(k.block i (λe=>hr (by rw[e]))).trans (h.block i hi hr)⟩
def gG {C:World}(h:A.grownBy B row)(k:fe B C b)(hb:A.heap.size<=b):A.grownBy C row:=
 ⟨k.os.trans h.os,k.tape.trans h.tape,k.output.trans h.output,by rw[k.size];exact h.size,λi hi hr=>(k.block i J).trans (h.block i hi hr)⟩
def eJ {C:World}(h:A.grownBy B row)(k:B.grownBy C row):A.grownBy C row:=
 ⟨k.os.trans h.os,k.tape.trans h.tape,k.output.trans h.output,qa8 h.size k.size,λi hi hr=>(k.block i (qb0 hi h.size) hr).trans (h.block i hi hr)⟩
def sJ {c:Code}{R:Value->World->Prop}(hf:P.funcs[f]?=some fn)(hb:fn.body=some c)(h:c.wpIn (Fw none) 0 P (bodyPost P fn (jv R)) (act (args.length+(fn.ntmps-args.length)) (BP args) []) w):Calls P f args.toArray w (jv R):=by
 refine nX (n:=0) (callsIn_of_wp hf hb trivial ?_)
 rw[iK]
 exact h
def iv {R:Value->World->Prop}(hr:(results fn (act N e []).tmps).run P w'=.ok v w')(hR:R v w'):bodyPost P fn (jv R) .ret (act N e []) w':=
 ⟨rfl,v,hr,hR⟩
def Gm {R:Value->World->Prop}(hr:(results fn (act N e []).tmps).run P w'=.ok v w')(hR:R v w'):bodyPost P fn (jv R) .normal (act N e []) w':=
 ⟨rfl,v,hr,hR⟩
end
section draws
variable {P:Program}{r:Option Nat}{n:Nat}{e0:Nat->Value}{ops:Array Oper}
def B9 {id:Nat}(hm:P.follows .mixedOrders=true)(M:Nat)(R:World->World->Prop)(hR0:∀w,R w w.drew)(hRt:∀a b c,R a b->R b c->R a c)(Φ:Nat->Value->World->Prop)(hΦ:∀i v w w',R w w'->Φ i v w->Φ i v w')(k3:(Nat->Bool)->World->Prop)(hJ0:k3 (λ_=>false) w0.drew)(hwf:∀(i:Nat) (o:Oper),l.toArray[i]?=some o->∀e∈o.after,Region.binds .any e=true->e.on<i)(hshape:Region.sinkB .any l.toArray M=true/\Region.chainB .any l.toArray M=true/\M<l.toArray.size\/M=l.toArray.size)(hdst:∀i j d,i<M->j<M->(l.toArray[i]?).bind (·.dst)=some d->(l.toArray[j]?).bind (·.dst)=some d->i=j)(hstep:∀(i:Nat) (o:Oper),i<M->l.toArray[i]? =some o->∀(e:Nat->Value) (w:World) (ls:Nat->Bool),k3 ls w->(∀j oj,l.toArray[j]? =some oj->ls j=true->∀ed∈oj.after,Region.binds .any ed=true->ls ed.on=true)->ls i=false->(∀ed∈o.after,Region.binds .any ed=true->ls ed.on=true)->R w0 w->(∀t,(∀j,j<M->(l.toArray[j]?).bind (·.dst)≠some t)->e t=e0 t)->
 (∀j,(∃ed∈o.after,Region.binds .any ed=true/\ed.on=j)->∀d,(l.toArray[j]?).bind (·.dst)=some d->Φ j (e d) w)->
 wpListIn (Fw r) n P l.toArray (λx a' w'=>x=.normal/\∃v,a'=(act N e ds).put o.dst v/\R w w'/\Φ i v w'/\k3 (λj=>if j=i then true else ls j) w') [o] (act N e ds) w)(hfin:∀(e:Nat->Value) (w:World),(∃ls:Nat->Bool,(∀j,j<M->ls j=true)/\k3 ls w)->R w0 w->(∀t,(∀j,j<M->(l.toArray[j]?).bind (·.dst)≠some t)->e t=e0 t)->
 (∀j d,j<M->(l.toArray[j]?).bind (·.dst)=some d->Φ j (e d) w)->wpListIn (Fw r) n P l.toArray Q (l.drop M) (act N e ds) w):
 (Code.region id l.toArray true).wpIn (Fw r) n P Q (act N e0 ds) w0:=by
 have hMle:M<=l.toArray.size:=by rcases hshape with⟨_,_,h⟩|h <;>omega
 have hchain:Region.chainB .any l.toArray M=true:=by
  rcases hshape with⟨_,h,_⟩|h
  · exact h
  · refine List.all_eq_true.2 λt ht=>?_
    have:=List.mem_range.1 ht
    simp only[Bool.or_eq_true,decide_eq_true_eq]
    left;omega
 refine wpIn_region_any hm ?_
 have main : ∀ (fuel:Nat) (listed:Array Bool) (e:Nat->Value) (w:World),left l.toArray listed<=fuel->HeadInv .any l.toArray M listed->k3 (λj=>listed.getD j false) w->R w0 w->
  (∀t,(∀j,j<M->(l.toArray[j]?).bind (·.dst)≠some t)->e t=e0 t)->
  (∀j d,j<M->listed.getD j false=true->(l.toArray[j]?).bind (·.dst)=some d->Φ j (e d) w)->
  wpAnyIn (Fw r) n P .any l.toArray Q fuel listed (act N e ds) w:=by
  intro fuel
  induction fuel with
  | zero=>
    intro listed e w hf inv hJ hR hs hφ
    have Ab:∀i,i<l.toArray.size->listed.getD i false=true:=by
     intro i hi
     cases hb:listed.getD i false with
     |true=>rfl
     | false=>
       have:=iG hi inv.size hb
       omega
    refine iF hchain hwf 0 l.toArray.size listed _ w 0 Z hMle inv.size Ab (λi h1 G=>by omega) (qa0 _) ?_
    by_cases hM:M=l.toArray.size
    · have h:=hfin e w ⟨_,λj E=>Ab j J,hJ⟩ hR hs (λj d E hd=>hφ j d E (Ab j J) hd)
      rw[hM]at h
      simpa using h
    · have h1:=inv.tail M (qa0 _) J
      have G:=Ab M J
      rw[getD_both h1]at G
      cases G
  | succ fuel ih=>
    intro listed e w hf inv hJ hR hs hφ
    by_cases hdone:∀i,i<M->listed.getD i false=true
    · refine iF hchain hwf (l.toArray.size-M) M listed _ w (fuel+1) J (qa0 _) inv.size hdone (λi h1 G=>inv.tail i h1 G) ?_ ?_
      · have h1:l.toArray.size-M<=left l.toArray listed:=mg hMle (λi h1 G=>getD_both (inv.tail i h1 G))
        omega
      · simpa using hfin e w ⟨_,λj E=>hdone j E,hJ⟩ hR hs (λj d E hd=>hφ j d E (hdone j E) hd)
    · have hex:∃i,i<M/\listed.getD i false=false:=by
       refine qb5 λAf=>hdone λi hi=>?_
       cases hb:listed.getD i false with
       |true=>rfl
       |false=>exact absurd ⟨i,hi,hb⟩ Af
      obtain⟨Ad,As,Am⟩:=hex
      have Ap:∀i∈Region.ready .any l.toArray listed,i<M:=by
       intro i hi
       rcases Nat.lt_or_ge i M with h|h
       · exact h
       · rcases hshape with⟨h1,G,A2⟩|A2
         · exact absurd hi (tail_waits h1 G A2 inv _ Ad Z As (getD_in (by rw[inv.size];omega) Am) i h)
         · obtain⟨_,o,ho,_⟩:=mem_ready.1 hi
           have:=(Array.getElem?_eq_some_iff.1 ho).1
           omega
      refine⟨λAv=>?_,λi hi=>?_⟩
      ·
       exfalso
       have least:∀k i,i<=k->i<l.toArray.size->listed.getD i false=false->∃j,j∈Region.ready .any l.toArray listed:=by
        intro k
        induction k with
        | zero=>
          intro i hi hl hb
          obtain rfl:i=0:=J
          refine⟨0,mem_ready.2 ⟨getD_in VE hb,l.toArray[0],Array.getElem?_eq_getElem hl,λed O kd=>?_⟩⟩
          have:=hwf 0 _ (Array.getElem?_eq_getElem hl) ed O kd
          omega
        | succ k ihk=>
          intro i hi hl hb
          by_cases hp:∀ed∈(l.toArray[i]).after,Region.binds .any ed=true->listed.getD ed.on false=true
          · exact⟨i,mem_ready.2 ⟨getD_in VE hb,l.toArray[i],Array.getElem?_eq_getElem hl,hp⟩⟩
          · have:∃ed∈(l.toArray[i]).after,Region.binds .any ed=true/\listed.getD ed.on false=false:=by
             refine qb5 λAf=>hp λed O kd=>?_
             cases hb:listed.getD ed.on false with
             |true=>rfl
             |false=>exact absurd ⟨ed,O,kd,hb⟩ Af
            obtain⟨ed,O,kd,A1⟩:=this
            have Ay:=hwf i _ (Array.getElem?_eq_getElem hl) ed O kd
            exact ihk ed.on J J A1
       obtain⟨j,E⟩:=least Ad Ad (qa0 _) J Am
       rw[Av]at E
       cases E
      · have hiM:=Ap i hi
        obtain⟨A1,o,ho,hpred⟩:=mem_ready.1 hi
        have kk:=hstep i o hiM ho e w (λj=>listed.getD j false) hJ (λj oj E hl=>inv.closed j oj E hl) (getD_both A1) hpred hR hs (λj ⟨ed,O,hb,Aw⟩ d hd=>hφ j d (by have:=hwf i o ho ed O hb;omega) (by rw[<-Aw];exact hpred ed O hb) hd)
        have hnext:∀a' w',(∃v,a'=(act N e ds).put o.dst v/\R w w'/\Φ i v w'/\k3 (λj=>if j=i then true else listed.getD j false) w')->wpAnyIn (Fw r) n P .any l.toArray Q fuel (listed.setIfInBounds i true) a' w':=by
         rintro a' w' ⟨v,rfl,hR',hv,hJ'⟩
         have Ar:i<l.toArray.size:=J
         have hJ2:k3 (λj=>(listed.setIfInBounds i true).getD j false) w':=by
          have e:(λj=>(listed.setIfInBounds i true).getD j false)=(λj=>if j=i then true else listed.getD j false):=by
           funext j
           by_cases E:j=i
           · subst E;rw[if_pos Z];have:=inv.size;simp[Array.getD,this];omega
           · rw[if_neg E,getD_set_ne false (λh=>E h.symm)]
          rw[e];exact hJ'
         have Ao:left l.toArray (listed.setIfInBounds i true)<=fuel:=by
          have:=iG Ar inv.size (getD_both A1)
          omega
         cases hd:o.dst with
         | none=>
           refine ih _ e w' Ao (inv.set hi hiM) hJ2 (hRt _ _ _ hR hR') hs (λj d E hl H=>?_)
           by_cases hij:i=j
           · subst hij;rw[ho]at H;simp[hd]at H
           · rw[getD_set_ne false hij]at hl;exact hΦ _ _ _ _ hR' (hφ j d E hl H)
         | some d0=>
           rw[ai]
           refine ih _ _ w' Ao (inv.set hi hiM) hJ2 (hRt _ _ _ hR hR') (λt ht=>?_) (λj d E hl H=>?_)
           · have:t≠d0:=λh=>ht i hiM (by rw[ho];simp[hd,h])
             rw[upd_ne _ _ this];exact hs t ht
           · by_cases hij:i=j
             · subst hij
               rw[ho]at H
               simp only[Option.bind_some,hd,Option.some.injEq]at H
               subst H
               rw[qU];exact hv
             · rw[getD_set_ne false hij]at hl
               have Ax:d≠d0:=λh=>hij (hdst i j d hiM E (by rw[ho];simp[hd,h]) H)
               rw[upd_ne _ _ Ax]
               exact hΦ _ _ _ _ hR' (hφ j d E hl H)
        unfold wpOpIn
        rw[ho]
        dsimp only
        unfold wpListIn at kk
        split
        · rename_i hw
          rw[if_pos hw]at kk
          exact gX (λa' w' Aq=>hnext a' w' Aq.2) (λc a w h=>by cases h.1) (λa w h=>by cases h.1) kk
        · rename_i hw
          rw[if_neg hw]at kk
          exact⟨kk.1,hnext _ _ kk.2.2⟩
 refine main _ _ e0 w0.drew ?_ ⟨by simp,λj oj E hl=>?_,λt h1 G=>?_⟩ ((congrArg (λf=>k3 f w0.drew) (funext λj=>getD_replicate_false _ j)).mpr hJ0) (hR0 w0) (λ_ _=>rfl) (λj d E hl=>?_)
 · unfold left
   exact qa8 (List.length_filter_le _ _) Vk
 · rw[getD_replicate_false]at hl;cases hl
 · have A2:t<l.length:=by simpa using G
   simp[A2]
 · rw[getD_replicate_false]at hl;cases hl
def kz (C:List Nat)(i:Nat):Option Nat:=C.findIdx? (Nat.beq i)
def Gn (l:List Oper)(C:List Nat):Bool:=(List.range C.length).all λp=>match C[p]? with
 |none=>false
 |some c=>Nat.beq p 0||(match C[p-1]?,l[c]? with|some c',some o=>ca o c'|_,_=>false)
def nodupB (C:List Nat):Bool:=(List.range C.length).all λp=>(List.range C.length).all λq=>Nat.beq p q||(match C[p]?,C[q]? with|some a,some b=>!Nat.beq a b|_,_=>true)
def cnt (C:List Nat)(ls:Nat->Bool):Nat:=(C.filter ls).length
def yK (r:Option Nat)(n:Nat)(P:Program)(N:Nat)(ds:List Deferred)(l:List Oper)(M:Nat)(R:World->World->Prop)(Φ:List (Value->World->Prop))(C:List Nat)(kx:Nat->World->Prop)(e0:Nat->Value)(w0:World):Nat->List Oper->List (Value->World->Prop)->Prop
 |_,[],_=>True
 |_,_::_,[]=>False
 |i,o::os,φ::φs=>(∀(e:Nat->Value) (w:World) (k:Nat),kx k w->(∀p,kz C i=some p->k=p)->R w0 w->(∀t,ot l M t=false->e t=e0 t)->(∀j d,ca o j=true->cT l j=some d->phi Φ j (e d) w)->
  wpListIn (Fw r) n P l.toArray (λx a' w'=>x=.normal/\∃v,a'=(act N e ds).put o.dst v/\R w w'/\φ v w'/\kx (match kz C i with|some p=>p+1|none=>k) w') [o] (act N e ds) w)/\yK r n P N ds l M R Φ C kx e0 w0 (i+1) os φs
def qf {l:List Oper}{R:World->World->Prop}{Φ:List (Value->World->Prop)}{C:List Nat}{kx:Nat->World->Prop}:∀(os:List Oper) (φs:List (Value->World->Prop)) (i0:Nat),yK r n P N ds l M R Φ C kx e0 w0 i0 os φs->∀i o,os[i]?=some o->
 (∀(e:Nat->Value) (w:World) (k:Nat),kx k w->(∀p,kz C (i0+i)=some p->k=p)->R w0 w->(∀t,ot l M t=false->e t=e0 t)->(∀j d,ca o j=true->cT l j=some d->phi Φ j (e d) w)->
  wpListIn (Fw r) n P l.toArray (λx a' w'=>x=.normal/\∃v,a'=(act N e ds).put o.dst v/\R w w'/\phi φs i v w'/\kx (match kz C (i0+i)with|some p=>p+1|none=>k) w') [o] (act N e ds) w)
 |[],_,_,_,i,o,h=>by simp at h
 |o'::os,[],_,h,i,o,ho=>h.elim
 |o'::os,φ::φs,i0,h,0,o,ho=>by simp at ho;subst ho;exact h.1
 | o'::os,φ::φs,i0,h,i+1,o,ho=>by
   have:=qf os φs (i0+1) h.2 i o VG
   rw[show i0+1+i=i0+(i+1)by omega]at this
   simpa only[phi,List.getElem?_cons_succ]using this
def oJ (h:kz C i=some p):C[p]?=some i:=by
 unfold kz at h
 obtain⟨h1,E,_⟩:=List.findIdx?_eq_some_iff_getElem.1 h
 rw[List.getElem?_eq_getElem h1,Nat.eq_of_beq_eq_true E]
def uD (h:kz C i=none):i∉C:=by
 unfold kz at h
 rw[List.findIdx?_eq_none_iff]at h
 intro hm
 have:=h i hm
 simp at this
def Ca (h:i∉C):cnt C (λj=>if j=i then true else ls j)=cnt C ls:=by
 unfold cnt
 congr 1
 apply List.filter_congr
 intro x hx
 rw[if_neg (λe=>h (by rw[<-e];exact hx))]
def Cb (h:∀c∈C,ls c=true):cnt C ls=C.length:=by
 unfold cnt;rw[List.filter_eq_self.2 h]
def qg (hp:p<=C.length)(h1:∀q c,q<p->C[q]?=some c->ls c=true)(h2:∀q c,p<=q->C[q]?=some c->ls c=false):cnt C ls=p:=by
 have e:C.filter ls=(C.take p).filter ls++(C.drop p).filter ls:=by rw[<-List.filter_append,List.take_append_drop]
 unfold cnt
 rw[e,List.length_append]
 have E:(C.take p).filter ls=C.take p:=List.filter_eq_self.2 (λc hc=>by
  obtain⟨q,hq⟩:=List.mem_iff_getElem?.1 hc
  rw[List.getElem?_take]at hq
  split at hq
  · next hlt=>exact h1 q c hlt hq
  · cases hq)
 have G:(C.drop p).filter ls=[]:=List.filter_eq_nil_iff.2 (λc hc=>by
  obtain⟨q,hq⟩:=List.mem_iff_getElem?.1 hc
  rw[List.getElem?_drop]at hq
  rw[h2 (p+q) c J hq];simp)
 rw[E,G];simp;omega
def yL (hlink:∀p c c',C[p]?=some c'->C[p+1]?=some c->∃o,l[c]?=some o/\∃ed∈o.after,Region.binds .any ed=true/\ed.on=c')(hcl:∀j oj,l.toArray[j]?=some oj->ls j=true->∀ed∈oj.after,Region.binds .any ed=true->ls ed.on=true)(hget:∀j:Nat,l.toArray[j]?=l[j]?)(hni:ls i=false)(hpi:C[p]?=some i):∀q c,p<=q->C[q]?=some c->ls c=false:=by
 have G:∀d q c,C[q]?=some c->p+d=q->ls c=false:=by
  intro d
  induction d with
  | zero=>
    intro q c hq A2
    have:c=i:=by rw[show q=p by omega,hpi]at hq;exact(qb4 hq).symm
    rw[this];exact hni
  | succ d ih=>
    intro q c hq A2
    have E:p+d<C.length:=by have:=(List.getElem?_eq_some_iff.1 hq).1;omega
    obtain⟨kk,H,ed,A1,hb,kd⟩:=hlink (p+d) c (C[p+d]) (qa5 E) (by rw[show p+d+1=q by omega];exact hq)
    have O:=ih (p+d) _ (qa5 E) Z
    cases hc:ls c with
    |false=>rfl
    | true=>
      have:=hcl c kk (by rw[hget];exact H) hc ed A1 hb
      rw[kd,O]at this
      cases this
 exact λq c hq hc=>G (q-p) q c hc J
def cnt_lt (hlink:∀p c c',C[p]?=some c'->C[p+1]?=some c->∃o,l[c]?=some o/\∃ed∈o.after,Region.binds .any ed=true/\ed.on=c')(hcl:∀j oj,l.toArray[j]?=some oj->ls j=true->∀ed∈oj.after,Region.binds .any ed=true->ls ed.on=true)(hget:∀j:Nat,l.toArray[j]?=l[j]?)(hpi:C[p]?=some i)(ho:l[i]?=some o)(hpr:∀ed∈o.after,Region.binds .any ed=true->ls ed.on=true):∀q c,q<p->C[q]?=some c->ls c=true:=by
 have A2:∀d q c,C[q]?=some c->q+d=p->0<d->ls c=true:=by
  intro d
  induction d with
  |zero=>intro q c _ _ Ab;omega
  | succ d ih=>
    intro q c hq Ad _
    have G:q+1<C.length:=by have:=(List.getElem?_eq_some_iff.1 hpi).1;omega
    obtain⟨A1,E,ed,kk,hb,H⟩:=hlink q (C[q+1]) c hq (qa5 G)
    by_cases hd:d=0
    · subst hd
      have:C[q+1]=i:=by
       have O:C[q+1]?=some i:=by rw[show q+1=p by omega];exact hpi
       rw[List.getElem?_eq_getElem G]at O
       exact qb4 O
      rw[this,ho]at E
      cases E
      have:=hpr ed kk hb
      rwa [H]at this
    · have kd:=ih (q+1) (C[q+1]) (qa5 G) J J
      have:=hcl _ A1 (by rw[hget];exact E) kd ed kk hb
      rwa [H]at this
 exact λq c hq hc=>A2 (p-q) q c hc J J
def oK {a:Act}(h:wpListIn (Fw r) n P l.toArray (λx a w=>x=.normal/\K1 a w) [o] a w)(hk:∀a w,K1 a w->K2 a w):wpListIn (Fw r) n P l.toArray (λx a w=>x=.normal/\K2 a w) [o] a w:=by
 unfold wpListIn at h ⊢
 split
 · rename_i hw
   rw[if_pos hw]at h
   exact gX (λG w' E=>⟨E.1,hk _ _ E.2⟩) (λc a w h=>by cases h.1) (λa w h=>by cases h.1) h
 · rename_i hw
   rw[if_neg hw]at h
   exact⟨h.1,h.2.1,hk _ _ h.2.2⟩
def Gp {id:Nat}(hm:P.follows .mixedOrders=true)(M:Nat)(R:World->World->Prop)(hR0:∀w,R w w.drew)(hRt:∀a b c,R a b->R b c->R a c)(Φ:List (Value->World->Prop))(hΦ:uk R Φ)(hwf:El l=true)(hshape:it l M=true)(hdst:FD l M=true)(C:List Nat)(hC:Gn l C=true)(hN:nodupB C=true)(hCM:(C.all λc=>Nat.blt c M)=true)(kx:Nat->World->Prop)(hI0:kx 0 w0.drew)(hstep:yK r n P N ds l M R Φ C kx e0 w0 0 (l.take M) Φ)(hfin:∀(e:Nat->Value) (w:World),kx C.length w->R w0 w->(∀t,ot l M t=false->e t=e0 t)->(∀j d,Nat.blt j M=true->cT l j=some d->phi Φ j (e d) w)->wpListIn (Fw r) n P l.toArray Q (l.drop M) (act N e ds) w):
 (Code.region id l.toArray true).wpIn (Fw r) n P Q (act N e0 ds) w0:=by
 have O:∀j:Nat,l.toArray[j]?=l[j]?:=λj=>by rw[List.getElem?_toArray]
 have Ar:∀t,ot l M t=false->∀j,j<M->(l.toArray[j]?).bind (·.dst)≠some t:=by
  intro t ht j A2 h
  rw[O]at h
  cases ho:l[j]? with
  |none=>rw[ho]at h;cases h
  | some o=>
    rw[ho]at h
    simp only[Option.bind_some]at h
    have h1:=List.any_eq_false.1 ht o (List.mem_iff_getElem?.2 ⟨j,by rw[List.getElem?_take,if_pos A2];exact ho⟩)
    rw[h]at h1
    simp at h1
 have hlink:∀p c Af,C[p]?=some Af->C[p+1]?=some c->∃o,l[c]?=some o/\∃kd∈o.after,Region.binds .any kd=true/\kd.on=Af:=by
  intro p c Af h1 H
  have E:=List.all_eq_true.1 hC (p+1) (List.mem_range.2 (List.getElem?_eq_some_iff.1 H).1)
  rw[H]at E
  simp only[Nat.add_sub_cancel,h1]at E
  cases ho:l[c]? with
  |none=>rw[ho]at E;simp at E
  | some o=>
    rw[ho]at E
    simp at E
    obtain⟨kd,Ab,hb⟩:=List.any_eq_true.1 E
    simp only[Bool.and_eq_true]at hb
    exact⟨o,rfl,kd,by simpa using Ab,hb.1,Nat.eq_of_beq_eq_true hb.2⟩
 have Aw:∀p q c:Nat,C[p]?=some c->C[q]?=some c->p=q:=by
  intro p q c h1 H
  have E:=List.all_eq_true.1 (List.all_eq_true.1 hN p (List.mem_range.2 (List.getElem?_eq_some_iff.1 h1).1)) q (List.mem_range.2 (List.getElem?_eq_some_iff.1 H).1)
  rw[h1,H]at E
  simp at E
  exact E
 refine B9 hm M R hR0 hRt (phi Φ) (ou hΦ) (λls w=>kx (cnt C ls) w) ?_ ?_ ?_ ?_ ?_ ?_
 · have:cnt C (λ_=>false)=0:=by unfold cnt;rw[List.filter_eq_nil_iff.2 Vk];rfl
   rw[this];exact hI0
 · intro i o ho kd Ab hb
   rw[O]at ho
   have h1:=List.all_eq_true.1 hwf i (List.mem_range.2 (List.getElem?_eq_some_iff.1 ho).1)
   rw[ho]at h1
   have H:=List.all_eq_true.1 h1 kd (by simpa using Ab)
   simp only[hb,Bool.not_true,Bool.false_or]at H
   rwa [Nat.blt_eq]at H
 · simp only[it,Bool.or_eq_true,Bool.and_eq_true]at hshape
   rcases hshape with⟨⟨h1,H⟩,E⟩|h
   · rw[Nat.blt_eq]at E;exact .inl ⟨h1,H,by simpa using E⟩
   · exact .inr VU
 · intro i j d hi A2 Am Ao
   have h1:=List.all_eq_true.1 (List.all_eq_true.1 hdst i (List.mem_range.2 hi)) j (List.mem_range.2 A2)
   rw[O]at Am Ao
   simp only[cT,Am,Ao,Bool.or_eq_true]at h1
   rcases h1 with h1|h1
   · exact qb3 h1
   · simp at h1
 · intro i o hi ho e w ls hJ Ad Aq Ap hR hs hφ
   have ho':=ho
   rw[O]at ho
   have hk:∀p,kz C i=some p->cnt C ls=p:=by
    intro p G
    have kk:=oJ G
    refine qg (Nat.le_of_lt (List.getElem?_eq_some_iff.1 kk).1) (cnt_lt hlink Ad O kk ho Ap) (yL hlink Ad O Aq kk)
   have h1:=qf (l.take M) Φ 0 hstep i o (by rw[List.getElem?_take,if_pos hi];exact ho) e w (cnt C ls) hJ (λp G=>hk p (by rw[Nat.zero_add]at G;exact G)) hR (λt ht=>hs t (Ar t ht)) (λj d G hd=>?_)
   · refine oK h1 ?_
     rintro _ w' ⟨v,As,hR',hv,hI'⟩
     refine⟨v,As,hR',hv,?_⟩
     rw[Nat.zero_add]at hI'
     cases G:kz C i with
     |none=>rw[G]at hI';show kx (cnt C _) w';rw[Ca (uD G)];exact hI'
     | some p=>
       rw[G]at hI'
       have Ay:=hk p G
       have kk:=oJ G
       show kx (cnt C _) w'
       have:cnt C (λj=>if j=i then true else ls j)=p+1:=by
        refine qg (by have:=(List.getElem?_eq_some_iff.1 kk).1;omega) (λq c hq hc=>?_) (λq c hq hc=>?_)
        · by_cases A1:c=i
          · rw[if_pos A1]
          · rw [if_neg A1]
            have Av:q<p:=by
             rcases Nat.lt_or_ge q p with h|h
             · exact h
             · have:q=p:=J
               subst this;rw[kk]at hc;exact absurd (qb4 hc).symm A1
            exact cnt_lt hlink Ad O kk ho Ap q c Av hc
        · have A1:c≠i:=λe=>by subst e;have:=Aw _ _ _ hc kk;omega
          rw[if_neg A1]
          exact yL hlink Ad O Aq kk q c J hc
       rw[this];exact hI'
   · obtain⟨kd,Ab,hb⟩:=List.any_eq_true.1 G
     simp only[Bool.and_eq_true]at hb
     exact hφ j ⟨kd,by simpa using Ab,hb.1,Nat.eq_of_beq_eq_true hb.2⟩ d (by rw[O];exact hd)
 · rintro e w ⟨ls,Ax,hJ⟩ hR hs hφ
   have hc:cnt C ls=C.length:=Cb (λc hc=>Ax c (by have:=List.all_eq_true.1 hCM c hc;rwa [Nat.blt_eq]at this))
   rw[hc]at hJ
   exact hfin e w hJ hR (λt ht=>hs t (Ar t ht)) (λj d A2 hd=>hφ j d (by rwa [Nat.blt_eq]at A2) (by rw[O];exact hd))
end draws
section scope
variable {P:Program}{F:Fence}{n:Nat}{b:Frame}{a:Act}{k:List Item}{cs:List Frame}
def cc {c:Code}:step P (lone (b.atR a (.code (.scope c)::k)) cs w)=.next (lone (b.atR a (.code c:: .inScope c::k)) cs w):=
 step_lone_go (by simp[stepG,stepG.exec,Frame.atR])
def iw {c:Code}:step P (lone (b.atR a (.inScope c::k)) cs w)=.next (lone (b.atR a k) cs w):=
 step_lone_go (by simp[stepG,stepG.exec,Frame.atR])
def uE {c:Code}(h:c.wpIn F n P (Exit.noGoto Q) a w):(Code.scope c).wpIn F n P Q a w:=by
 intro b k cs H hb hr
 have E:(lone (b.atR a (.code (.scope c)::k)) cs w).fenced P F:=fenced_calm hb hr Z
 obtain⟨e,a₁,w₁,hq,G⟩:=h b (.inScope c::k) cs H hb hr
 cases e with
 |normal=>exact⟨.normal,a₁,w₁,hq,.head E cc (StepsIn.trans G (.one (fenced_calm hb hr Z) iw))⟩
 | exit id=>
   exact⟨.exit id,a₁,w₁,hq,λk' hk=>.head E cc (G.1 k' VV),
    λkk hk=>let ⟨k₁,h1,O⟩:=G.2 kk VV;⟨k₁,h1,.head E cc O⟩⟩
 |goto l=>exact hq.elim
 |ret=>exact⟨_,a₁,w₁,hq,.of_steps (.one E cc) G⟩
 |panic ch=>exact⟨_,a₁,w₁,hq,.of_steps (.one E cc) G⟩
 |outgrown=>exact⟨_,a₁,w₁,hq,.of_steps (.one E cc) G⟩
def Cc (h:Q .ret a w):Exit.noGoto Q .ret a w:=h
def Cd (h:Q .normal a w):Exit.noGoto Q .normal a w:=h
end scope
section conv
variable {P:Program}{r:Option Nat}{n:Nat}
variable {d ty:Nat}{pos:String}{af:Array Edge}{g:Option (Nat×Bool)}{u:Value}{x y:Operand}{t':TypeId}
def sK:∀(l:List UInt8) (s:ByteArray),(l.map (λb=>((b.toNat:Nat):Int))).foldl (λr n=>r.push (UInt8.ofNat n.toNat)) s=⟨(s.data.toList++l).toArray⟩
 |[],s=>by simp
 | b::l,s=>by
   simp only[List.map_cons,List.foldl_cons]
   rw[sK l]
   congr 1
   simp[ByteArray.push]
def ED {src dst el c:Nat}{A:Option Addr}{l:List UInt8}(hs:P.underlying src=some (.slice el))(he:P.underlying el=some (.int .u8))(hd:P.underlying dst=some .string)(hx:ev N e x=.slice A m c)(hr:Rw w lo A (l.map λb=>Value.int .u8 b.toNat))(hm:l.length=m)(hk:K (act N (upd e d (S l)) ds) w):
 Oper.wpIn (Fw r) n P ⟨some d,.convert src dst x,ty,pos,af,g⟩ (act N e ds) w K Q:=by
 refine cX (v:=S l) (w':=w) Z ?_ Vl
 have key:(convert src dst (.slice A m c)).run P w=.ok (S l) w:=by
  rw[run_convert_bytes_string w src dst el A m c hs he hd]
  cases A with
  | none=>
    have:l=[]:=by
     cases l with
     |nil=>rfl
     | cons b t=>
       obtain⟨_,_,h,_⟩:=hr.cells 0 _ Z
       cases h
    subst this
    simp[Conv.bytesToString,S];rfl
  | some a=>
    have hl:(loadCells a m).run P w=.ok ((l.map (λb=>((b.toNat:Nat):Int))).map (Value.int .u8)).toArray w:=by
     by_cases h0:l=[]
     · subst h0;simp at hm;subst hm;simp[loadCells,loadCellsFrom]
     · have G:0<l.length:=List.length_pos_iff.2 h0
       obtain⟨b,o,hA,_⟩:=hr.cells 0 _ (by rw[List.getElem?_map,List.getElem?_eq_getElem G];rfl)
       cases hA
       have E:=run_loadCells_list (P:=P) (w:=w) ⟨b,o,none⟩ (l.map λb=>Value.int .u8 b.toNat) (λj v hv=>by
        obtain⟨_,_,hA',hc⟩:=hr.cells j v hv
        cases hA'
        rw[Addr.add_mid];exact hc)
       rw[List.length_map,hm]at E
       rw[E,List.map_map];rfl
    rw[run_bytesToString w a m c _ hl,sK]
    rfl
 simp[execOp,hx,key]
def yM {b:Int}(hx:ev N e x=.int .i64 a)(hy:ev N e y=.int .i64 b)(h1:b≠0)(hc:a.tdiv b=c)(hr:In64 c)(hk:K (act N (upd e d (.int .i64 c)) ds) w):
 Oper.wpIn (Fw r) n P ⟨some d,.binOp .quo t x y t',ty,pos,af,g⟩ (act N e ds) w K Q:=
 dY hx hy (cG ..) (by subst hc;simp[binOp,Op.intDiv,h1,j7 hr]) hk
def yN {b:Int}(hx:ev N e x=.int .i64 a)(hy:ev N e y=.int .i64 b)(h1:b≠0)(hc:a.tmod b=c)(hk:K (act N (upd e d (.int .i64 c)) ds) w):
 Oper.wpIn (Fw r) n P ⟨some d,.binOp .rem t x y t',ty,pos,af,g⟩ (act N e ds) w K Q:=
 dY hx hy (cG ..) (by subst hc;simp[binOp,Op.intDiv,h1]) hk
end conv
def gH (ls:Nat->Bool)(i:Nat):Nat->Bool:=λj=>match Nat.beq j i with|true=>true|false=>ls j
def jw (e:Nat->Value):Option Nat->Value->Nat->Value
 |some d,v=>upd e d v
 |none,_=>e
section draws
variable {P:Program}{r:Option Nat}{n:Nat}{e0:Nat->Value}{ops:Array Oper}
def Ce {id :Nat}(hm:P.follows .mixedOrders=true)(M:Nat)(k3:(Nat->Bool)->(Nat->Value)->World->Prop)(hJ0:k3 (λ_=>false) e0 w0.drew)(hwf:∀(i:Nat) (o:Oper),l.toArray[i]?=some o->∀e∈o.after,Region.binds .any e=true->e.on<i)(hshape:Region.sinkB .any l.toArray M=true/\Region.chainB .any l.toArray M=true/\M<l.toArray.size\/M=l.toArray.size)(hstep:∀(i:Nat) (o:Oper),i<M->l.toArray[i]?=some o->∀(e:Nat->Value) (w:World) (ls:Nat->Bool),k3 ls e w->(∀j oj,l.toArray[j]?=some oj->ls j=true->∀ed∈oj.after,Region.binds .any ed=true->ls ed.on=true)->ls i=false->(∀ed∈o.after,Region.binds .any ed=true->ls ed.on=true)->
 wpListIn (Fw r) n P l.toArray (λx a' w'=>x=.normal/\∃v,a'=(act N e ds).put o.dst v/\k3 (gH ls i) (jw e o.dst v) w') [o] (act N e ds) w)(hfin:∀(e:Nat->Value) (w:World) (ls:Nat->Bool),(∀j,j<M->ls j=true)->k3 ls e w->wpListIn (Fw r) n P l.toArray Q (l.drop M) (act N e ds) w):
 (Code.region id l.toArray true).wpIn (Fw r) n P Q (act N e0 ds) w0:=by
 have hMle:M<=l.toArray.size:=by rcases hshape with⟨_,_,h⟩|h <;>omega
 have hchain:Region.chainB .any l.toArray M=true:=by
  rcases hshape with⟨_,h,_⟩|h
  · exact h
  · refine List.all_eq_true.2 λt ht=>?_
    have:=List.mem_range.1 ht
    simp only[Bool.or_eq_true,decide_eq_true_eq]
    left;omega
 refine wpIn_region_any hm ?_
 have main : ∀ (fuel:Nat) (listed:Array Bool) (e:Nat->Value) (w:World),left l.toArray listed<=fuel->HeadInv .any l.toArray M listed->k3 (λj=>listed.getD j false) e w->
  wpAnyIn (Fw r) n P .any l.toArray Q fuel listed (act N e ds) w:=by
  intro fuel
  induction fuel with
  | zero=>
    intro listed e w hf inv hJ
    have Ab:∀i,i<l.toArray.size->listed.getD i false=true:=by
     intro i hi
     cases hb:listed.getD i false with
     |true=>rfl
     | false=>
       have:=iG hi inv.size hb
       omega
    refine iF hchain hwf 0 l.toArray.size listed _ w 0 Z hMle inv.size Ab (λi h1 G=>by omega) (qa0 _) ?_
    by_cases hM:M=l.toArray.size
    · have h:=hfin e w _ (λj E=>Ab j J) hJ
      rw[hM]at h
      simpa using h
    · have h1:=inv.tail M (qa0 _) J
      have G:=Ab M J
      rw[getD_both h1]at G
      cases G
  | succ fuel ih=>
    intro listed e w hf inv hJ
    by_cases hdone:∀i,i<M->listed.getD i false=true
    · refine iF hchain hwf (l.toArray.size-M) M listed _ w (fuel+1) J (qa0 _) inv.size hdone (λi h1 G=>inv.tail i h1 G) ?_ ?_
      · have h1:l.toArray.size-M<=left l.toArray listed:=mg hMle (λi h1 G=>getD_both (inv.tail i h1 G))
        omega
      · simpa using hfin e w _ (λj E=>hdone j E) hJ
    · have hex:∃i,i<M/\listed.getD i false=false:=by
       refine qb5 λAd=>hdone λi hi=>?_
       cases hb:listed.getD i false with
       |true=>rfl
       |false=>exact absurd ⟨i,hi,hb⟩ Ad
      obtain⟨A2,Ar,Af⟩:=hex
      have Ao:∀i∈Region.ready .any l.toArray listed,i<M:=by
       intro i hi
       rcases Nat.lt_or_ge i M with h|h
       · exact h
       · rcases hshape with⟨h1,G,A1⟩|A1
         · exact absurd hi (tail_waits h1 G A1 inv _ A2 Z Ar (getD_in (by rw[inv.size];omega) Af) i h)
         · obtain⟨_,o,ho,_⟩:=mem_ready.1 hi
           have:=(Array.getElem?_eq_some_iff.1 ho).1
           omega
      refine⟨λAs=>?_,λi hi=>?_⟩
      ·
       exfalso
       have least:∀k i,i<=k->i<l.toArray.size->listed.getD i false=false->∃j,j∈Region.ready .any l.toArray listed:=by
        intro k
        induction k with
        | zero=>
          intro i hi hl hb
          obtain rfl:i=0:=J
          refine⟨0,mem_ready.2 ⟨getD_in VE hb,l.toArray[0],Array.getElem?_eq_getElem hl,λed kk O=>?_⟩⟩
          have:=hwf 0 _ (Array.getElem?_eq_getElem hl) ed kk O
          omega
        | succ k ihk=>
          intro i hi hl hb
          by_cases hp:∀ed∈(l.toArray[i]).after,Region.binds .any ed=true->listed.getD ed.on false=true
          · exact⟨i,mem_ready.2 ⟨getD_in VE hb,l.toArray[i],Array.getElem?_eq_getElem hl,hp⟩⟩
          · have:∃ed∈(l.toArray[i]).after,Region.binds .any ed=true/\listed.getD ed.on false=false:=by
             refine qb5 λAd=>hp λed kk O=>?_
             cases hb:listed.getD ed.on false with
             |true=>rfl
             |false=>exact absurd ⟨ed,kk,O,hb⟩ Ad
            obtain⟨ed,kk,O,kd⟩:=this
            have Av:=hwf i _ (Array.getElem?_eq_getElem hl) ed kk O
            exact ihk ed.on J J kd
       obtain⟨j,E⟩:=least A2 A2 (qa0 _) J Af
       rw[As]at E
       cases E
      · have hiM:=Ao i hi
        obtain⟨kd,o,ho,hpred⟩:=mem_ready.1 hi
        have H:=hstep i o hiM ho e w (λj=>listed.getD j false) hJ (λj oj E hl=>inv.closed j oj E hl) (getD_both kd) hpred
        have hnext:∀a' w',(∃v,a'=(act N e ds).put o.dst v/\k3 (gH (λj=>listed.getD j false) i) (jw e o.dst v) w')->wpAnyIn (Fw r) n P .any l.toArray Q fuel (listed.setIfInBounds i true) a' w':=by
         rintro a' w' ⟨v,rfl,hJ'⟩
         have Aq:i<l.toArray.size:=J
         have hJ2:k3 (λj=>(listed.setIfInBounds i true).getD j false) (jw e o.dst v) w':=by
          have e':(λj=>(listed.setIfInBounds i true).getD j false)=gH (λj=>listed.getD j false) i:=by
           funext j
           by_cases E:j=i
           · subst E;unfold gH;simp;have:=inv.size;simp[this];omega
           · have hb:Nat.beq j i=false:=by
              cases hb:Nat.beq j i with
              |false=>rfl
              |true=>exact absurd (qb3 hb) E
             unfold gH;rw[hb];simp only;rw[getD_set_ne false (λh=>E h.symm)]
          rw[e'];exact hJ'
         have Am:left l.toArray (listed.setIfInBounds i true)<=fuel:=by
          have:=iG Aq inv.size (getD_both kd)
          omega
         cases hd:o.dst with
         | none=>
           rw[hd]at hJ2
           exact ih _ e w' Am (inv.set hi hiM) hJ2
         | some d0=>
           rw[hd]at hJ2
           rw[ai]
           exact ih _ _ w' Am (inv.set hi hiM) hJ2
        unfold wpOpIn
        rw[ho]
        dsimp only
        unfold wpListIn at H
        split
        · rename_i hw
          rw[if_pos hw]at H
          exact gX (λa' w' Ap=>hnext a' w' Ap.2) (λc a w h=>by cases h.1) (λa w h=>by cases h.1) H
        · rename_i hw
          rw[if_neg hw]at H
          exact⟨H.1,hnext _ _ H.2.2⟩
 refine main _ _ e0 w0.drew ?_ ⟨by simp,λj oj E hl=>?_,λt h1 G=>?_⟩ ((congrArg (λf=>k3 f e0 w0.drew) (funext λj=>getD_replicate_false _ j)).mpr hJ0)
 · unfold left
   exact qa8 (List.length_filter_le _ _) Vk
 · rw[getD_replicate_false]at hl;cases hl
 · have A1:t<l.length:=by simpa using G
   simp[A1]
def ck (l:List Oper)(j k:Nat):Bool:=match l[j]? with|some o=>ca o k|none=>false
def oL (r:Option Nat)(n:Nat)(P:Program)(N:Nat)(ds:List Deferred)(l:List Oper)(k3:(Nat->Bool)->(Nat->Value)->World->Prop):Nat->List Oper->Prop
 |_,[]=>True
 |i,o::os=>(∀(e:Nat->Value) (w:World) (ls:Nat->Bool),k3 ls e w->(∀j k,ck l j k=true->ls j=true->ls k=true)->ls i=false->(∀k,ck l i k=true->ls k=true)->
  wpListIn (Fw r) n P l.toArray (λx a' w'=>x=.normal/\∃v,a'=(act N e ds).put o.dst v/\k3 (gH ls i) (jw e o.dst v) w') [o] (act N e ds) w)/\oL r n P N ds l k3 (i+1) os
def oM {l:List Oper}{k3:(Nat->Bool)->(Nat->Value)->World->Prop}:∀(os:List Oper) (i0:Nat),oL r n P N ds l k3 i0 os->∀i o,os[i]?=some o->
 (∀(e:Nat->Value) (w:World) (ls:Nat->Bool),k3 ls e w->(∀j k,ck l j k=true->ls j=true->ls k=true)->ls (i0+i)=false->(∀k,ck l (i0+i) k=true->ls k=true)->
  wpListIn (Fw r) n P l.toArray (λx a' w'=>x=.normal/\∃v,a'=(act N e ds).put o.dst v/\k3 (gH ls (i0+i)) (jw e o.dst v) w') [o] (act N e ds) w)
 |[],_,_,i,o,h=>by simp at h
 |o'::os,i0,h,0,o,ho=>by simp at ho;subst ho;exact h.1
 | o'::os,i0,h,i+1,o,ho=>by
   have:=oM os (i0+1) h.2 i o VG
   rwa [show i0+1+i=i0+(i+1)by omega]at this
def lj (ho:l[j]?=some o):ck l j k=true↔∃ed∈o.after,Region.binds .any ed=true/\ed.on=k:=by
 unfold ck ca
 rw[ho]
 simp only[List.any_eq_true,Bool.and_eq_true]
 constructor
 · rintro⟨ed,h1,h2,h3⟩;exact⟨ed,by simpa using h1,h2,Nat.eq_of_beq_eq_true h3⟩
 · rintro⟨ed,h1,h2,h3⟩;exact⟨ed,by simpa using h1,h2,by subst h3;simp⟩
def KJ {id:Nat}(hm:P.follows .mixedOrders=true)(M:Nat)(k3:(Nat->Bool)->(Nat->Value)->World->Prop)(hJ0:k3 (λ_=>false) e0 w0.drew)(hwf:El l=true)(hshape:it l M=true)(hstep:oL r n P N ds l k3 0 (l.take M))(hfin:∀(e:Nat->Value) (w:World) (ls:Nat->Bool),(∀j,Nat.blt j M=true->ls j=true)->k3 ls e w->wpListIn (Fw r) n P l.toArray Q (l.drop M) (act N e ds) w):
 (Code.region id l.toArray true).wpIn (Fw r) n P Q (act N e0 ds) w0:=by
 have kd:∀j:Nat,l.toArray[j]?=l[j]?:=λj=>by rw[List.getElem?_toArray]
 refine Ce hm M k3 hJ0 ?_ ?_ ?_ (λe w ls h1 G=>hfin e w ls (λj O=>h1 j (by rwa [Nat.blt_eq]at O)) G)
 · intro i o ho H kk hb
   rw[kd]at ho
   have h1:=List.all_eq_true.1 hwf i (List.mem_range.2 (List.getElem?_eq_some_iff.1 ho).1)
   rw[ho]at h1
   have G:=List.all_eq_true.1 h1 H (by simpa using kk)
   simp only[hb,Bool.not_true,Bool.false_or]at G
   rwa [Nat.blt_eq]at G
 · simp only[it,Bool.or_eq_true,Bool.and_eq_true]at hshape
   rcases hshape with⟨⟨h1,G⟩,h3⟩|h
   · rw[Nat.blt_eq]at h3;exact .inl ⟨h1,G,by simpa using h3⟩
   · exact .inr VU
 · intro i o hi ho e w ls hJ A1 Ab A2
   rw[kd]at ho
   have h1:=oM (l.take M) 0 hstep i o (by rw[List.getElem?_take,if_pos hi];exact ho)
   simp only[Nat.zero_add]at h1
   refine h1 e w ls hJ (λj k E hl=>?_) Ab (λk E=>?_)
   · cases O:l[j]? with
     |none=>unfold ck at E;rw[O]at E;cases E
     | some oj=>
       obtain⟨H,kk,hb,rfl⟩:=(lj O).1 E
       exact A1 j oj (by rw[kd];exact O) hl H kk hb
   · obtain⟨H,kk,hb,rfl⟩:=(lj ho).1 E
     exact A2 H kk hb
def kA {id:Nat}(hm:P.follows .mixedOrders=true)(M:Nat)(k3:(Nat->Value)->(Nat->Bool)->(Nat->Value)->World->Prop)(hJ0:k3 e0 (λ_=>false) e0 w0.drew)(hwf:El l=true)(hshape:it l M=true)(hstep:oL r n P N ds l (k3 e0) 0 (l.take M))(hfin:∀(e:Nat->Value) (w:World) (ls:Nat->Bool),(∀j,Nat.blt j M=true->ls j=true)->k3 e0 ls e w->wpListIn (Fw r) n P l.toArray Q (l.drop M) (act N e ds) w):
 (Code.region id l.toArray true).wpIn (Fw r) n P Q (act N e0 ds) w0:=KJ hm M (k3 e0) hJ0 hwf hshape hstep hfin
def bK (hcl:∀j k,ck l j k=true->ls j=true->ls k=true)(hp:ck l j i=true)(h:ls i=false):ls j=false:=by
 cases hj:ls j with
 |false=>rfl
 |true=>have:=hcl j i hp hj;rw[h]at this;cases this
def ff {b:Bool}{p:Prop}(h:b=false)(hb:b=true):p:=by rw[h]at hb;cases hb
def tf {b:Bool}{p:Prop}(h:b=true)(hb:b=false):p:=by rw[h]at hb;cases hb
end draws
def aH.mono {R R':Value->World->Prop}{P:Program}{args:Array Value}(h:Calls P f args w (aH w R))(hr:∀v w',R v w'->R' v w'):Calls P f args w (aH w R'):=
 Calls.mono h λe w' h=>by
  cases e with
  |returned v=>exact⟨h.1,hr _ _ h.2⟩
  |panicked c=>exact h.elim
  |outgrown=>exact h.elim
section draws
variable {P:Program}{r:Option Nat}{n:Nat}{e0:Nat->Value}{ops:Array Oper}
def yO {id:Nat}(hm:P.follows .mixedOrders=true)(M:Nat)(k3:(Nat->Bool)->(Nat->Value)->World->Prop)(hJ0:k3 (λ_=>false) e0 w0.drew)(hwf:∀(i:Nat) (o:Oper),l.toArray[i]?=some o->∀e∈o.after,Region.binds .any e=true->e.on<i)(hshape:Region.sinkB .any l.toArray M=true/\Region.chainB .any l.toArray M=true/\M<l.toArray.size\/M=l.toArray.size)(hstep:∀(i:Nat) (o:Oper),i<M->l.toArray[i]?=some o->∀(e:Nat->Value) (w:World) (ls:Nat->Bool),k3 ls e w->(∀j oj,l.toArray[j]?=some oj->ls j=true->∀ed∈oj.after,Region.binds .any ed=true->ls ed.on=true)->ls i=false->(∀ed∈o.after,Region.binds .any ed=true->ls ed.on=true)->
 wpListIn (Fw r) n P l.toArray (λx a' w'=>(x=.normal/\∃v,a'=(act N e ds).put o.dst v/\k3 (gH ls i) (jw e o.dst v) w')\/(∃c,x=.panic c/\Q (.panic c) a' w')) [o] (act N e ds) w)(hfin:∀(e:Nat->Value) (w:World) (ls:Nat->Bool),(∀j,j<M->ls j=true)->k3 ls e w->wpListIn (Fw r) n P l.toArray Q (l.drop M) (act N e ds) w):
 (Code.region id l.toArray true).wpIn (Fw r) n P Q (act N e0 ds) w0:=by
 have hMle:M<=l.toArray.size:=by rcases hshape with⟨_,_,h⟩|h <;>omega
 have hchain:Region.chainB .any l.toArray M=true:=by
  rcases hshape with⟨_,h,_⟩|h
  · exact h
  · refine List.all_eq_true.2 λt ht=>?_
    have:=List.mem_range.1 ht
    simp only[Bool.or_eq_true,decide_eq_true_eq]
    left;omega
 refine wpIn_region_any hm ?_
 have main : ∀ (fuel:Nat) (listed:Array Bool) (e:Nat->Value) (w:World),left l.toArray listed<=fuel->HeadInv .any l.toArray M listed->k3 (λj=>listed.getD j false) e w->
  wpAnyIn (Fw r) n P .any l.toArray Q fuel listed (act N e ds) w:=by
  intro fuel
  induction fuel with
  | zero=>
    intro listed e w hf inv hJ
    have Ad:∀i,i<l.toArray.size->listed.getD i false=true:=by
     intro i hi
     cases hb:listed.getD i false with
     |true=>rfl
     | false=>
       have:=iG hi inv.size hb
       omega
    refine iF hchain hwf 0 l.toArray.size listed _ w 0 Z hMle inv.size Ad (λi h1 G=>by omega) (qa0 _) ?_
    by_cases hM:M=l.toArray.size
    · have h:=hfin e w _ (λj E=>Ad j J) hJ
      rw[hM]at h
      simpa using h
    · have h1:=inv.tail M (qa0 _) J
      have G:=Ad M J
      rw[getD_both h1]at G
      cases G
  | succ fuel ih=>
    intro listed e w hf inv hJ
    by_cases hdone:∀i,i<M->listed.getD i false=true
    · refine iF hchain hwf (l.toArray.size-M) M listed _ w (fuel+1) J (qa0 _) inv.size hdone (λi h1 G=>inv.tail i h1 G) ?_ ?_
      · have h1:l.toArray.size-M<=left l.toArray listed:=mg hMle (λi h1 G=>getD_both (inv.tail i h1 G))
        omega
      · simpa using hfin e w _ (λj E=>hdone j E) hJ
    · have hex:∃i,i<M/\listed.getD i false=false:=by
       refine qb5 λAf=>hdone λi hi=>?_
       cases hb:listed.getD i false with
       |true=>rfl
       |false=>exact absurd ⟨i,hi,hb⟩ Af
      obtain⟨Ab,Ar,Am⟩:=hex
      have Ap:∀i∈Region.ready .any l.toArray listed,i<M:=by
       intro i hi
       rcases Nat.lt_or_ge i M with h|h
       · exact h
       · rcases hshape with⟨h1,G,A2⟩|A2
         · exact absurd hi (tail_waits h1 G A2 inv _ Ab Z Ar (getD_in (by rw[inv.size];omega) Am) i h)
         · obtain⟨_,o,ho,_⟩:=mem_ready.1 hi
           have:=(Array.getElem?_eq_some_iff.1 ho).1
           omega
      refine⟨λAs=>?_,λi hi=>?_⟩
      ·
       exfalso
       have least:∀k i,i<=k->i<l.toArray.size->listed.getD i false=false->∃j,j∈Region.ready .any l.toArray listed:=by
        intro k
        induction k with
        | zero=>
          intro i hi hl hb
          obtain rfl:i=0:=J
          refine⟨0,mem_ready.2 ⟨getD_in VE hb,l.toArray[0],Array.getElem?_eq_getElem hl,λed kd O=>?_⟩⟩
          have:=hwf 0 _ (Array.getElem?_eq_getElem hl) ed kd O
          omega
        | succ k ihk=>
          intro i hi hl hb
          by_cases hp:∀ed∈(l.toArray[i]).after,Region.binds .any ed=true->listed.getD ed.on false=true
          · exact⟨i,mem_ready.2 ⟨getD_in VE hb,l.toArray[i],Array.getElem?_eq_getElem hl,hp⟩⟩
          · have:∃ed∈(l.toArray[i]).after,Region.binds .any ed=true/\listed.getD ed.on false=false:=by
             refine qb5 λAf=>hp λed kd O=>?_
             cases hb:listed.getD ed.on false with
             |true=>rfl
             |false=>exact absurd ⟨ed,kd,O,hb⟩ Af
            obtain⟨ed,kd,O,A1⟩:=this
            have Av:=hwf i _ (Array.getElem?_eq_getElem hl) ed kd O
            exact ihk ed.on J J A1
       obtain⟨j,E⟩:=least Ab Ab (qa0 _) J Am
       rw[As]at E
       cases E
      · have hiM:=Ap i hi
        obtain⟨A1,o,ho,hpred⟩:=mem_ready.1 hi
        have H:=hstep i o hiM ho e w (λj=>listed.getD j false) hJ (λj oj E hl=>inv.closed j oj E hl) (getD_both A1) hpred
        have hnext:∀a' w',(∃v,a'=(act N e ds).put o.dst v/\k3 (gH (λj=>listed.getD j false) i) (jw e o.dst v) w')->wpAnyIn (Fw r) n P .any l.toArray Q fuel (listed.setIfInBounds i true) a' w':=by
         rintro a' w' ⟨v,rfl,hJ'⟩
         have Aq:i<l.toArray.size:=J
         have hJ2:k3 (λj=>(listed.setIfInBounds i true).getD j false) (jw e o.dst v) w':=by
          have e':(λj=>(listed.setIfInBounds i true).getD j false)=gH (λj=>listed.getD j false) i:=by
           funext j
           by_cases E:j=i
           · subst E;unfold gH;simp;have:=inv.size;simp[this];omega
           · have hb:Nat.beq j i=false:=by
              cases hb:Nat.beq j i with
              |false=>rfl
              |true=>exact absurd (qb3 hb) E
             unfold gH;rw[hb];simp only;rw[getD_set_ne false (λh=>E h.symm)]
          rw[e'];exact hJ'
         have Ao:left l.toArray (listed.setIfInBounds i true)<=fuel:=by
          have:=iG Aq inv.size (getD_both A1)
          omega
         cases hd:o.dst with
         | none=>
           rw[hd]at hJ2
           exact ih _ e w' Ao (inv.set hi hiM) hJ2
         | some d0=>
           rw[hd]at hJ2
           rw[ai]
           exact ih _ _ w' Ao (inv.set hi hiM) hJ2
        unfold wpOpIn
        rw[ho]
        dsimp only
        unfold wpListIn at H
        split
        · rename_i hw
          rw[if_pos hw]at H
          exact gX (λa' w' kk=>by
           rcases kk with kk|⟨c,hc,_⟩
           · exact hnext a' w' kk.2
           · cases hc) (λc a w h=>by
           rcases h with h|⟨c',hc,hq⟩
           · cases h.1
           · cases hc;exact hq) (λa w h=>by
           rcases h with h|⟨c',hc,hq⟩
           · cases h.1
           · cases hc) H
        · rename_i hw
          rw[if_neg hw]at H
          refine⟨H.1,?_⟩
          rcases H.2 with kk|⟨c,hc,_⟩
          · exact hnext _ _ kk.2
          · cases hc
 refine main _ _ e0 w0.drew ?_ ⟨by simp,λj oj E hl=>?_,λt h1 G=>?_⟩ ((congrArg (λf=>k3 f e0 w0.drew) (funext λj=>getD_replicate_false _ j)).mpr hJ0)
 · unfold left
   exact qa8 (List.length_filter_le _ _) Vk
 · rw[getD_replicate_false]at hl;cases hl
 · have A2:t<l.length:=by simpa using G
   simp[A2]
def rk (Q:Exit->Act->World->Prop)(r:Option Nat)(n:Nat)(P:Program)(N:Nat)(ds:List Deferred)(l:List Oper)(k3:(Nat->Bool)->(Nat->Value)->World->Prop):Nat->List Oper->Prop
 |_,[]=>True
 |i,o::os=>(∀(e:Nat->Value) (w:World) (ls:Nat->Bool),k3 ls e w->(∀j k,ck l j k=true->ls j=true->ls k=true)->ls i=false->(∀k,ck l i k=true->ls k=true)->
  wpListIn (Fw r) n P l.toArray (λx a' w'=>(x=.normal/\∃v,a'=(act N e ds).put o.dst v/\k3 (gH ls i) (jw e o.dst v) w')\/(∃c,x=.panic c/\Q (.panic c) a' w')) [o] (act N e ds) w)/\rk Q r n P N ds l k3 (i+1) os
def oN {l:List Oper}{k3:(Nat->Bool)->(Nat->Value)->World->Prop}:∀(os:List Oper) (i0:Nat),rk Q r n P N ds l k3 i0 os->∀i o,os[i]?=some o->
 (∀(e:Nat->Value) (w:World) (ls:Nat->Bool),k3 ls e w->(∀j k,ck l j k=true->ls j=true->ls k=true)->ls (i0+i)=false->(∀k,ck l (i0+i) k=true->ls k=true)->
  wpListIn (Fw r) n P l.toArray (λx a' w'=>(x=.normal/\∃v,a'=(act N e ds).put o.dst v/\k3 (gH ls (i0+i)) (jw e o.dst v) w')\/(∃c,x=.panic c/\Q (.panic c) a' w')) [o] (act N e ds) w)
 |[],_,_,i,o,h=>by simp at h
 |o'::os,i0,h,0,o,ho=>by simp at ho;subst ho;exact h.1
 | o'::os,i0,h,i+1,o,ho=>by
   have:=oN os (i0+1) h.2 i o VG
   rwa [show i0+1+i=i0+(i+1)by omega]at this
def IM {id:Nat}(hm:P.follows .mixedOrders=true)(M:Nat)(k3:(Nat->Bool)->(Nat->Value)->World->Prop)(hJ0:k3 (λ_=>false) e0 w0.drew)(hwf:El l=true)(hshape:it l M=true)(hstep:rk Q r n P N ds l k3 0 (l.take M))(hfin:∀(e:Nat->Value) (w:World) (ls:Nat->Bool),(∀j,Nat.blt j M=true->ls j=true)->k3 ls e w->wpListIn (Fw r) n P l.toArray Q (l.drop M) (act N e ds) w):
 (Code.region id l.toArray true).wpIn (Fw r) n P Q (act N e0 ds) w0:=by
 have kd:∀j:Nat,l.toArray[j]?=l[j]?:=λj=>by rw[List.getElem?_toArray]
 refine yO hm M k3 hJ0 ?_ ?_ ?_ (λe w ls h1 G=>hfin e w ls (λj O=>h1 j (by rwa [Nat.blt_eq]at O)) G)
 · intro i o ho H kk hb
   rw[kd]at ho
   have h1:=List.all_eq_true.1 hwf i (List.mem_range.2 (List.getElem?_eq_some_iff.1 ho).1)
   rw[ho]at h1
   have G:=List.all_eq_true.1 h1 H (by simpa using kk)
   simp only[hb,Bool.not_true,Bool.false_or]at G
   rwa [Nat.blt_eq]at G
 · simp only[it,Bool.or_eq_true,Bool.and_eq_true]at hshape
   rcases hshape with⟨⟨h1,G⟩,h3⟩|h
   · rw[Nat.blt_eq]at h3;exact .inl ⟨h1,G,by simpa using h3⟩
   · exact .inr VU
 · intro i o hi ho e w ls hJ A1 Ab A2
   rw[kd]at ho
   have h1:=oN (l.take M) 0 hstep i o (by rw[List.getElem?_take,if_pos hi];exact ho)
   simp only[Nat.zero_add]at h1
   refine h1 e w ls hJ (λj k E hl=>?_) Ab (λk E=>?_)
   · cases O:l[j]? with
     |none=>unfold ck at E;rw[O]at E;cases E
     | some oj=>
       obtain⟨H,kk,hb,rfl⟩:=(lj O).1 E
       exact A1 j oj (by rw[kd];exact O) hl H kk hb
   · obtain⟨H,kk,hb,rfl⟩:=(lj ho).1 E
     exact A2 H kk hb
end draws
section out
variable {a:Act}{c:List PanicEntry}
def yQ (h:Q (.panic c) a w):Exit.then K Q (.panic c) a w:=h
def IN {id:Nat}(h:Q (.panic c) a w):Exit.inBlock id Q (.panic c) a w:=h
def Cg (h:Q (.panic c) a w):Exit.noGoto Q (.panic c) a w:=h
end out
section rows
variable {P:Program}{r:Option Nat}{n:Nat}
variable {d ty:Nat}{pos:String}{af:Array Edge}{g:Option (Nat×Bool)}{u:Value}{x y:Operand}{t':TypeId}
def yR {z:Value}(hu:P.underlying t=some (.slice el))(hi:gW P el z size bytes)(hk:∀w',a8 w w'->w.heap.size<w'.heap.size->w'.ownsRow w.heap.size el size (.slice (some ⟨w.heap.size,0,none⟩) 0 0) 0 []->K (act N (upd e d (.slice (some ⟨w.heap.size,0,none⟩) 0 0)) ds) w'):
 Oper.wpIn (Fw r) n P ⟨some d,.buildSlice t 0 #[],ty,pos,af,g⟩ (act N e ds) w K Q:=by
 obtain⟨i,G,_,E,_⟩:=hi.parts
 subst E
 refine cX (v:=.slice (some ⟨w.heap.size,0,none⟩) 0 0) (w':=w.alloc (.cells #[] el)) Z ?_ (by
  rw[ai]
  exact hk _ (a8.alloc _ _) Vk ⟨by simp,.inr ⟨w.heap.size,0,#[],rfl,qa0 _,heap_alloc_new w _,qa0 _,by simp[maxLen],by simp,by simp⟩⟩)
 simp[execOp,Instr.buildSlice,run_underlying hu,sizeOf,typeInfo,G,Instr.fill,newRow]
 rw[show(Array.range 0).map (λ_=>(default:Value))=#[]from Array.eq_empty_of_size_eq_zero (by rw[Array.size_map,Array.size_range])]
def ml {ops:Array Oper}{a:Act}(h:List.drop M l=o::rest)(hh:wpListIn (Fw r) n P ops Q (o::rest) a w):wpListIn (Fw r) n P ops Q (List.drop M l) a w:=by rw[h];exact hh
end rows
end Go.Eng
