import Derived.Test.YtmacbdacedfedaaGreatDoorUah
import Derived.Test.YtmacbdacedfedaaGreatDoorUai
import Derived.Test.YtmacbdacedfedaaGreatDoorUaj
import Derived.Test.YtmacbdacedfedaaGreatDoorUak
import Derived.Test.YtmacbdacedfedaaGreatDoorUal
import Derived.Test.YtmacbdacedfedaaGreatDoorUam
import Derived.Test.YtmacbdacedfedaaGreatDoorUan
set_option linter.all false
set_option maxRecDepth 100000
namespace VE
namespace lZ
def ayl{O:bz}:iF O T0:=iF.nil
def Vh{p:Nat->br->Prop}:∀(n:Nat) (l:List (Nat×br)),(∀f e,(f,e)∈l->p f e)->(cf n l).mB p
 | 0,_,_=>aL
 | n+1,l,h=>by
  unfold cf
  split
  .exact aL
  .rename_i a r hd;have hs:∀x,x∈a::r->x∈l:=fun x hx=>List.mem_of_mem_drop (hd▸hx)
   exact aN (h a.1 a.2 (hs a List.mem_cons_self)) (Vh n _ fun f e q=>h f e (List.mem_of_mem_take q)) (Vh n _ fun f e q=>h f e (hs _ (List.mem_cons_of_mem _ q)))
def lv{O:bz}{P:aE}{L:Lib}(hO:iR O)(hp:O.prog=P)(hl:O.aJ=L){T T':List (Tr br)}{C:List (Nat×br)}(hT:iF O T)(h:cw P L T C=true)(SA:iF O T'):iF O (cf 9 C::T'):=by
 subst hp;subst hl;exact iF.cons (Vh 9 C (chunk_ok hO hT h)) SA
section
variable {O:bz}(hO:iR O)(hp:O.prog=prog)(hl:O.aJ=aJ)
include hO hp hl
theorem aym:iF O T1:=have h:=ayl;lv hO hp hl h aye (lv hO hp hl h ayf (lv hO hp hl h ayi (lv hO hp hl h ayb (lv hO hp hl h ayg (lv hO hp hl h ayj (lv hO hp hl h ayc (lv hO hp hl h ayh (lv hO hp hl h ayk (lv hO hp hl h ayd (lv hO hp hl h auN (lv hO hp hl h auU (lv hO hp hl h au2 (lv hO hp hl h auz h)))))))))))))
theorem ayn:iF O T2:=have h:=aym hO hp hl;lv hO hp hl h aus (lv hO hp hl h auG (lv hO hp hl h auO (lv hO hp hl h auV (lv hO hp hl h au3 (lv hO hp hl h auA (lv hO hp hl h aut (lv hO hp hl h auH (lv hO hp hl h auP (lv hO hp hl h auW (lv hO hp hl h au4 h))))))))))
theorem ayo:iF O T3:=have h:=ayn hO hp hl;lv hO hp hl h auB (lv hO hp hl h auu (lv hO hp hl h auI (lv hO hp hl h auv (lv hO hp hl h auC (lv hO hp hl h auQ (lv hO hp hl h auw (lv hO hp hl h auX (lv hO hp hl h auJ (lv hO hp hl h auR h)))))))))
theorem ayp:iF O T4:=have h:=ayo hO hp hl;lv hO hp hl h auY (lv hO hp hl h au5 (lv hO hp hl h auD (lv hO hp hl h auy h)))
theorem ayq:iF O T5:=have h:=ayp hO hp hl;lv hO hp hl h auK (lv hO hp hl h auS (lv hO hp hl h auZ h))
theorem ayr:iF O T6:=have h:=ayq hO hp hl;lv hO hp hl h aur (lv hO hp hl h au0 (lv hO hp hl h au6 (lv hO hp hl h auL (lv hO hp hl h auT (lv hO hp hl h au7 (lv hO hp hl h au1 (lv hO hp hl h auE (lv hO hp hl h au8 (lv hO hp hl h auF (lv hO hp hl h auM h))))))))))
theorem ays:iF O T7:=have h:=ayr hO hp hl;lv hO hp hl h au9 h
theorem holds:eG O 637 [] (.bool true):=Tr.Em (ays hO hp hl (cf 9 Zm) (.head _)) (i:=637) rfl _ _ ⟨_,.head _,.inl rfl⟩
end
end lZ
end VE
