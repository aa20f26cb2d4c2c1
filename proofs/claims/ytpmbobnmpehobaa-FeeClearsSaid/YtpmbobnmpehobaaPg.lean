/- Payments that are returned clear balances, and are as few as can be; groups that are returned are such, and as many as can be; whether payments clear is as specified; so are the errors; arguments are not modified (at most 12 balances, and 24 payments). -/
import Derived.Test.YtpmbobnmpehobaaPf
import Derived.Test.YtpmbobnmpehobaaPe
import Derived.Test.YtpmbobnmpehobaaPd
set_option linter.unusedVariables false
set_option linter.unusedSimpArgs false
set_option linter.unusedSectionVars false
set_option maxRecDepth 10000
set_option maxHeartbeats 4000000
namespace Go.Eng
open Go Go.Proofs
def zBe (l:List Int):Int:=if (l.length:Int)>8 then 2 else if !l.all (fun x=>decide (-100000≤x)&&decide (x≤100000)) then 3 else if l.sum=0 then 0 else 8
structure BalOk (l:List Int):Prop where
 len:l.length≤8
 rng:∀ x∈l,-100000≤x∧x≤100000
 sum:l.sum=0
theorem zJS {l:List Int} (h:zBe l=0):BalOk l:=by
 simp only [zBe] at h
 split at h
 ·cases h
 ·split at h
  ·cases h
  ·rename_i h2
   split at h
   ·rename_i h3
    exact ⟨by omega,zLR (by simpa using h2),h3⟩
   ·cases h
section
variable [Yo]
theorem f134 (n:Int):FG 134 [I n] (.bool (decide (-100000≤n)&&decide (n≤100000))):=by
 refine zAi Try.f134 ?_
 refine zAb (zAa (zAe 1 (zAc (zAb (zAa (zAe 1 (S_a [(10,.ret (PV.bool (decide (-100000≤n)&&decide (n≤100000))) ([]))] (ap (f78 (n) (-100000) (100000)) an) (zAe 1 (zAc (zAD (E_a [] an (PV.bool (decide (-100000≤n)&&decide (n≤100000))) ([]) rfl rfl)))))))))))
theorem f126_6  (x:Int):FG 126 [I x,.ref (.func 134 [] [])] (.bool (!(decide (-100000≤x)&&decide (x≤100000)))):=by
 refine zAi Try.f126 ?_
 refine zAb (zAa (zAe 1 (zAc (zAb (zAa (zAe 2 (S_a [(6,.ret (PV.bool (decide (-100000≤x)&&decide (x≤100000))) ([]))] (ap (f134 (x)) an) (zAe 2 (zAc (zAD (E_a [] an (PV.bool !(decide (-100000≤x)&&decide (x≤100000))) ([]) rfl rfl)))))))))))
theorem f118_6n  (l:List Int) (hl:l.length<4294967296):FG 118 [zB2 l,.func 126 [] [.ref (.func 134 [] [])]] (I (zHD (fun x => !(decide (-100000≤x)&&decide (x≤100000))) l)):=by
 refine zAi Try.f118 ?_
 refine zAb (zAa (zAe 1 (zAc (zAb (zAb (zAa (zAe 1 (S_a [(0,.n (l.length))] (ap ((by simp):some (List.map I l).length=some l.length) an) (zAe 1 (zAc (zAj 0 ?_)))))))))))
 refine zAX (fun i=>i≤l.length∧∀ j,j<i→(fun x => !(decide (-100000≤x)&&decide (x≤100000))) (l.getD j 0)=false) (fun i=>[(8,I (i:Nat))]) (fun i=>l.length-i) (0:Nat) (by simp) fun i ⟨hi,ha⟩=>?_
 refine zAb (zAa (zAe 1 (zAc (zAb (zCM ((↑i:Int)<(↑l.length:Int)) (fun k0=>(zAl (zAb (zAj 1 (zAb (zAa (zAe 2 (zAc (zAb (zAa (zAe 3 (S_a [(2,.v (I (l.getD i 0)))] (ap (zAR (0) (by omega):(List.map I l)[i]? = some (I (l.getD i 0))) an) (zAe 1 (S_a [(7,.ret (PV.bool !(decide (-100000≤l.getD i 0)&&decide (l.getD i 0≤100000))) ([]))] (ap (f126_6 (l.getD i 0)) an) (zAc (zHP (!(decide (-100000≤l.getD i 0)&&decide (l.getD i 0≤100000))) (fun k1=>(zAb (zAa (zAe 2 (zAc (zAD (E_a [] an (I (↑i:Int)) ([]) ?_ rfl))))))) (fun k1=>(zAl (zAa (S_a [(1,.v (I (↑(i+1):Int)))] (ap ((zAy (by omega) (by omega)):I (IntKind.i64.wrap ((↑i:Int)+1))=I (↑(i+1):Int)) an) (zAe 1 (zAc ?_)))))))))))))))))))))) (fun k0=>(zA9 0 (zAb (zAa (zAe 1 (zAc (zAD (E_a [] an (I (-1)) ([]) ?_ rfl)))))))))))))
 ·rw [zDv (i:=i) (by omega) (fun j hj=>by rw [← zAC (d:=0)];exact ha j hj) (by rw [← zAC (d:=0)];assumption)]
 ·refine ⟨i+1,⟨by omega,fun j hj=>?_⟩,by omega,by kernel_rfl,by kernel_rfl⟩
  rcases Nat.lt_succ_iff_lt_or_eq.1 hj with h | rfl
  ·exact ha j h
  ·assumption
 ·rw [zD3 fun j hj=>by rw [← zAC (d:=0)];exact ha j (by omega)]
theorem f65_6n  (l:List Int) (hl:l.length<4294967296):FG 65 [zB2 l,.func 126 [] [.ref (.func 134 [] [])]] (.bool (l.any (fun x => !(decide (-100000≤x)&&decide (x≤100000))))):=by
 refine zAi Try.f65 ?_
 refine zAb (zAa (zAe 1 (zAc (zAb (zAa (zAe 2 (S_a [(6,.ret (I (zHD (fun x => !(decide (-100000≤x)&&decide (x≤100000))) l)) ([]))] (ap (f118_6n (l) (by omega)) an) (zAe 2 (zAc (zAD (E_a [] an (PV.bool (decide (zHD (fun x => !(decide (-100000≤x)&&decide (x≤100000))) l≥0))) ([]) ?_ rfl)))))))))))
 rw [zGt]
theorem f79_6  (l:List Int) (hl:l.length<4294967296):FG 79 [zB2 l,.func 134 [] []] (.bool (l.all (fun x=>decide (-100000≤x)&&decide (x≤100000)))):=by
 refine zAi Try.f79 ?_
 refine zAb (zAa (zAe 2 (zAc (zAb (zAa (zAe 2 (S_a [(12,.ret (PV.bool (l.any fun x => !(decide (-100000≤x)&&decide (x≤100000)))) ([]))] (ap (f65_6n (l) (by omega)) an) (zAe 2 (zAc (zAD (E_a [] an (PV.bool !l.any fun x => !(decide (-100000≤x)&&decide (x≤100000))) ([]) ?_ rfl)))))))))))
 simp [List.not_any_eq_all_not]
theorem f108 (l:List Int) (hl:l.length<4294967296):FG 108 [zB2 l] (I (zBe l)):=by
 by_cases h8:l.length≤8
 ·by_cases hr:(!l.all (fun x=>decide (-100000≤x)&&decide (x≤100000)))=false
  ·have hin:=zLR hr
   have hb:∀ x∈l,-1000000000000≤x∧x≤1000000000000:=fun x hx=>by have:=hin x hx;omega
   refine zAi Try.f108 ?_
   refine zAb (zAa (zAe 1 (zAc (zAb (zAj 0 (zAb (zAa (zAe 1 (S_a [(0,.n (l.length))] (ap ((by simp):some (List.map I l).length=some l.length) an) (zAe 2 (zAc (zBo ((↑l.length:Int)>8) (by omega) (zAb (zAa (zAe 1 (S_a [(7,.ret (PV.bool (l.all fun x=>decide (-100000≤x)&&decide (x≤100000))) ([]))] (ap (f79_6 (l) (by omega)) an) (zAe 2 (zAc (zHP (!l.all fun x=>decide (-100000≤x)&&decide (x≤100000)) (fun k0=>(zAb (zAa (zAe 1 (zAc (zAD (E_a [] an (I 3) ([]) ?_ rfl))))))) (fun k0=>(zAb (zAa (zAe 1 (S_a [(6,.ret (I l.sum) ([]))] (ap (f81a (l) (by omega) (by omega)) an) (zAe 2 (zAc (zFd (l.sum=0) (fun k1=>(zAb (zAa (zAe 1 (zAc (zAD (E_a [] an (I 8) ([]) ?_ rfl))))))) (fun k1=>(zAl (zAb (zAa (zAe 1 (zAc (zAD (E_a [] an (I 0) ([]) ?_ rfl)))))))))))))))))))))))))))))))))))
   ·rw [hr] at k0;cases k0
   ·have e:zBe l=8:=by simp only [zBe,if_neg (show ¬ (l.length:Int)>8 by omega),hr,k1,if_false];rfl
    rw [e]
   ·have e:zBe l=0:=by simp only [zBe,if_neg (show ¬ (l.length:Int)>8 by omega),hr,k1,if_true];rfl
    rw [e]
  ·have hr:(!l.all (fun x=>decide (-100000≤x)&&decide (x≤100000)))=true:=by simpa using hr
   refine zAi Try.f108 ?_
   refine zAb (zAa (zAe 1 (zAc (zAb (zAj 0 (zAb (zAa (zAe 1 (S_a [(0,.n (l.length))] (ap ((by simp):some (List.map I l).length=some l.length) an) (zAe 2 (zAc (zBo ((↑l.length:Int)>8) (by omega) (zAb (zAa (zAe 1 (S_a [(7,.ret (PV.bool (l.all fun x=>decide (-100000≤x)&&decide (x≤100000))) ([]))] (ap (f79_6 (l) (by omega)) an) (zAe 2 (zAc (zHP (!l.all fun x=>decide (-100000≤x)&&decide (x≤100000)) (fun k0=>(zAb (zAa (zAe 1 (zAc (zAD (E_a [] an (I 3) ([]) ?_ rfl))))))) (fun k0=>(zAb (zAa (zAe 1 (S_a [(6,.ret (I (zUY l)) ([]))] (ap (f81 (l) (by omega)) an) (zAe 2 (zAc (zFd (zUY l=0) (fun k1=>(zAb (zAa (zAe 1 (zAc (zAD (E_a [] an (I 8) ([]) ?_ rfl))))))) (fun k1=>(zAl (zAb (zAa (zAe 1 (zAc (zAD (E_a [] an (I 0) ([]) ?_ rfl)))))))))))))))))))))))))))))))))))
   ·have e:zBe l=3:=by simp only [zBe,if_neg (show ¬ (l.length:Int)>8 by omega),hr,if_true]
    rw [e]
   ·rw [hr] at k0;cases k0
   ·rw [hr] at k0;cases k0
 ·refine zAi Try.f108 ?_
  have e:zBe l=2:=by simp only [zBe,if_pos (show (l.length:Int)>8 by omega)]
  rw [e]
  refine zAb (zAa (zAe 1 (zAc (zAb (zAj 0 (zAb (zAa (zAe 1 (S_a [(0,.n (l.length))] (ap ((by simp):some (List.map I l).length=some l.length) an) (zAe 2 (zAc (zA6 ((↑l.length:Int)>8) (by omega) (zAb (zAa (zAe 1 (zAc (zAD (E_a [] an (I 2) ([]) rfl rfl))))))))))))))))))
theorem f50 (l:List Int) (hl:l.length<4294967296):FG 50 [zB2 l] (I (zBe l)):=by
 by_cases h8:l.length≤8
 ·refine zAi Try.f50 ?_
  refine zAb (zAa (zAe 1 (zAc (zAb (zAb (zAa (zAe 1 (S_a [(0,.n (l.length))] (ap ((by simp):some (List.map I l).length=some l.length) an) (zAe 1 (zAc (zBo ((↑l.length:Int)>8) (by omega) (zAl (zAb (zAa (zAe 1 (zAc (zAb (zAb (zAa (zAe 1 (zAc (zAj 0 ?_))))))))))))))))))))))
  refine zAX (fun (i,s)=>i≤l.length∧s=(l.take i).sum∧∀ x∈l.take i,-100000≤x∧x≤100000) (fun (i,s)=>[(3,I s),(4,I (i:Nat))]) (fun (i,_)=>l.length-i) ((0:Nat),(0:Int)) ⟨Nat.zero_le _,rfl,fun x hx=>by simp at hx⟩ fun (i,s) ⟨hi,hs,ha⟩=>?_
  have uC:=zQZ (B:=100000) (l:=l.take i) ha
  rw [← hs,List.length_take] at uC
  by_cases yU:i<l.length
  ·have yQ:=zKR yU
   rw [← hs] at yQ
   refine zAb (zAb (zAa (zAe 2 (S_a [(0,.n (l.length))] (ap ((by simp):some (List.map I l).length=some l.length) an) (zAe 1 (zAc (zA6 ((↑i:Int)<(↑l.length:Int)) (by omega) (zAl (zAb (zAj 1 (zAb (zAb (zAa (zAe 2 (S_a [(2,.v (I (l.getD i 0)))] (ap (zAR (0) (by omega):(List.map I l)[i]? = some (I (l.getD i 0))) an) (zAe 1 (S_a [(10,.ret (PV.bool (decide (l.getD i 0 < -100000)||decide (100000<l.getD i 0))) ([]))] (ap (f84 (l.getD i 0) (-100000) (100000)) an) (zAc (zHP (decide (l.getD i 0 < -100000)||decide (100000<l.getD i 0)) (fun k0=>(zAb (zAa (zAe 1 (zAc (zAD (E_a [] an (I 3) ([]) ?_ rfl))))))) (fun k0=>(zAl (zAa (zAe 3 (S_a [(2,.v (I (l.getD i 0)))] (ap (zAR (0) (by omega):(List.map I l)[i]? = some (I (l.getD i 0))) an) (zAe 1 (S_a [(1,.v (I (s+l.getD i 0)))] (ap ((zAy rfl ?_):I (IntKind.i64.wrap (s+l.getD i 0))=I (s+l.getD i 0)) an) (zAe 1 (zAc (zAa (zAe 1 (S_a [(1,.v (I (↑(i+1):Int)))] (ap ((zAy (by omega) (by omega)):I (IntKind.i64.wrap ((↑i:Int)+1))=I (↑(i+1):Int)) an) (zAe 1 (zAc ?_)))))))))))))))))))))))))))))))))
   ·have hx:=zVX k0
    have e:zBe l=3:=by
     have h1:(!l.all (fun x=>decide (-100000≤x)&&decide (x≤100000)))=true:=by
      simp only [Bool.not_eq_true',List.all_eq_false]
      exact ⟨l.getD i 0,by rw [zAC yU];exact List.getElem_mem _,by simp only [Bool.and_eq_true,decide_eq_true_eq];omega⟩
     simp only [zBe,if_neg (show ¬ (l.length:Int)>8 by omega),h1,if_true]
    rw [e]
   ·have hx:=zVt k0
    omega
   ·have hx:=zVt k0
    refine ⟨(i+1,s+l.getD i 0),⟨by omega,yQ.symm,fun x jX=>?_⟩,by simp only;omega,by kernel_rfl,by kernel_rfl⟩
    rw [List.take_add_one,List.getElem?_eq_getElem yU] at jX
    rcases List.mem_append.1 jX with jX | jX
    ·exact ha x jX
    ·simp only [Option.toList,List.mem_singleton] at jX
     rw [jX,← zAC (d:=0) yU];exact hx
  ·rw [List.take_of_length_le (by omega)] at hs ha
   have h1:(!l.all (fun x=>decide (-100000≤x)&&decide (x≤100000)))=false:=by
    simp only [Bool.not_eq_false',List.all_eq_true,Bool.and_eq_true,decide_eq_true_eq];exact ha
   refine zAb (zAb (zAa (zAe 2 (S_a [(0,.n (l.length))] (ap ((by simp):some (List.map I l).length=some l.length) an) (zAe 1 (zAc (zBo ((↑i:Int)<(↑l.length:Int)) (by omega) (zA9 0 (zAb (zAb (zAa (zAe 2 (zAc (zFd (s=0) (fun k0=>(zAb (zAa (zAe 1 (zAc (zAD (E_a [] an (I 8) ([]) ?_ rfl))))))) (fun k0=>(zAl (zAb (zAa (zAe 1 (zAc (zAD (E_a [] an (I 0) ([]) ?_ rfl))))))))))))))))))))))
   ·rw [hs] at k0
    have e:zBe l=8:=by simp only [zBe,if_neg (show ¬ (l.length:Int)>8 by omega),h1,k0,if_false];rfl
    rw [e]
   ·rw [hs] at k0
    have e:zBe l=0:=by simp only [zBe,if_neg (show ¬ (l.length:Int)>8 by omega),h1,k0,if_true];rfl
    rw [e]
 ·have e:zBe l=2:=by simp only [zBe,if_pos (show (l.length:Int)>8 by omega)]
  rw [e]
  refine zAi Try.f50 ?_
  refine zAb (zAa (zAe 1 (zAc (zAb (zAb (zAa (zAe 1 (S_a [(0,.n (l.length))] (ap ((by simp):some (List.map I l).length=some l.length) an) (zAe 1 (zAc (zA6 ((↑l.length:Int)>8) (by omega) (zAb (zAa (zAe 1 (zAc (zAD (E_a [] an (I 2) ([]) rfl rfl)))))))))))))))))
end
end Go.Eng
set_option maxRecDepth 10000
namespace Go.Eng
open Go
def zUF:List (List Int)→Int→Nat
 | [],_=>0
 | g::now,x=>if x∈g then 0 else zUF now x+1
theorem zIR:∀ {now:List (List Int)} {x:Int},now.flatten.Nodup→x∈now.flatten→∀ c,zUF now x=c↔x∈now.getD c []
 | [],x,_,h,_=>by simp at h
 | g :: now,x,hn,h,c=>by
  simp only [List.flatten_cons] at hn h
  rw [List.nodup_append] at hn
  obtain ⟨n1,n2,n3⟩:=hn
  simp only [zUF]
  by_cases hg:x∈g
  ·rw [if_pos hg]
   cases c with
   | zero=>simp [hg]
   | succ c =>
    simp only [List.getD_cons_succ]
    refine ⟨fun h=>by omega,fun h=>?_⟩
    by_cases hc:c<now.length
    ·rw [show now.getD c []=now[c] by simp [List.getD,List.getElem?_eq_getElem hc]] at h
     exact (n3 x hg x (List.mem_flatten.2 ⟨_,List.getElem_mem _,h⟩) rfl).elim
    ·rw [List.getD_eq_getElem?_getD,List.getElem?_eq_none (by omega)] at h;simp at h
  ·rw [if_neg hg]
   have hx:x∈now.flatten:=(List.mem_append.1 h).elim (fun h=>absurd h hg) id
   cases c with
   | zero=>simp [hg]
   | succ c =>
    simp only [List.getD_cons_succ]
    rw [← zIR n2 hx c];omega
theorem zCO {now:List (List Int)} {c:Nat} (h:c<now.length):now.getD c []∈now:=by
 rw [show now.getD c []=now[c] by simp [List.getD,List.getElem?_eq_getElem h]];exact List.getElem_mem _
theorem zKZ {now:List (List Int)} {c:Nat} {x:Int} (h:x∈now.getD c []):c<now.length∧x∈now.flatten:=by
 by_cases hc:c<now.length
 ·exact ⟨hc,List.mem_flatten.2 ⟨_,zCO hc,h⟩⟩
 ·rw [List.getD_eq_getElem?_getD,List.getElem?_eq_none (by omega)] at h;simp at h
theorem zNu {bal:List Int} {now:List (List Int)} (h:zGP bal now=true) {c:Nat} (hc:c<now.length):zC5 bal (now.getD c [])=0:=by
 have:=List.all_eq_true.1 h _ (zCO hc)
 simpa using this
theorem zLp {bal:List Int} {p:Nat→Prop} [DecidablePred p] {n:Nat} (h:∀ x,x<n→bal.getD x 0≠0→¬ p x):zFh bal p n=0:=by
 rw [zEz (q:=fun _=>False) (fun x hx hb=>⟨fun hp=>h x hx hb hp,False.elim⟩)]
 induction n with
 | zero=>rfl
 | succ n ih=>simp only [zFh,ih fun x hx=>h x (by omega),if_false];rfl
theorem zVm {l:List Int} (h:l.Pairwise (· < ·)):l.Nodup:=h.imp fun uV e=>by omega
theorem zRE {bal:List Int} {now:List (List Int)} (h:GrpOk bal bal.length now) (hz:zGP bal now=true) (hmax:zBF bal bal.length []≤now.length) {j:Nat} (hj:j<now.length) {a b:List Int} (uV:now.getD j []=a++b) (ha:a≠[]) (hb:b≠[]):zC5 bal a≠0:=by
 intro ha0
 obtain ⟨j1,j2,j3⟩:=h.el _ (zCO hj)
 rw [uV] at j1 j2 j3
 have yS:=zVm j2
 rw [List.nodup_append] at yS
 have wa:zC5 bal b=0:=by
  have:=zNu hz hj
  rw [uV,zM8] at this;omega
 have yv:∀ x:Nat,x<bal.length→bal.getD x 0≠0→∀ c,zUF now (x:Int)=c↔(x:Int)∈now.getD c []:=fun x hx hb=>zIR h.nd (h.cov x hx hb)
 let f:Nat→Nat:=fun x=>if (x:Int)∈a then now.length else zUF now x
 have hf:∀ x,f x=if (x:Int)∈a then now.length else zUF now x:=fun x=>rfl
 have gM : ∀ c,zFh bal (fun x=>f x=c) bal.length=0:=by
  intro c
  by_cases hc:c=now.length
  ·subst hc
   rw [zEz (q:=fun x=>(x:Int)∈a) fun x hx hb=>?_,zIb yS.1 fun x hx=>by have:=j3 x (List.mem_append_left _ hx);omega]
   ·exact ha0
   ·rw [hf]
    by_cases jS:(x:Int)∈a
    ·simp [jS]
    ·rw [if_neg jS,yv x hx hb]
     exact ⟨fun h=>absurd (zKZ h).1 (Nat.lt_irrefl _),fun h=>absurd h jS⟩
  ·by_cases hcj:c=j
   ·subst hcj
    rw [zEz (q:=fun x=>(x:Int)∈b) fun x hx hb=>?_,zIb yS.2.1 fun x hx=>by have:=j3 x (List.mem_append_right _ hx);omega]
    ·exact wa
    ·rw [hf]
     by_cases jS:(x:Int)∈a
     ·rw [if_pos jS]
      exact ⟨fun h=>absurd h.symm hc,fun h=>(yS.2.2 _ jS _ h rfl).elim⟩
     ·rw [if_neg jS,yv x hx hb,uV,List.mem_append]
      exact ⟨fun h=>h.elim (fun h=>absurd h jS) id,.inr⟩
   ·by_cases yK:c<now.length
    ·obtain ⟨c1,c2,c3⟩:=h.el _ (zCO yK)
     rw [zEz (q:=fun x=>(x:Int)∈now.getD c []) fun x hx hb=>?_,zIb (zVm c2) fun x hx=>by have:=c3 x hx;omega]
     ·exact zNu hz yK
     ·rw [hf]
      by_cases jS:(x:Int)∈a
      ·rw [if_pos jS]
       refine ⟨fun h=>absurd h.symm hc,fun h=>?_⟩
       have e1:=(yv x hx hb c).2 h
       have e2:=(yv x hx hb j).2 (by rw [uV];exact List.mem_append_left _ jS)
       omega
      ·rw [if_neg jS,yv x hx hb]
    ·refine zLp fun x hx hb hfx=>?_
     rw [hf] at hfx
     by_cases jS:(x:Int)∈a
     ·rw [if_pos jS] at hfx;omega
     ·rw [if_neg jS,yv x hx hb] at hfx
      exact yK (zKZ hfx).1
 have qY:=zFu gM bal.length [] (Nat.le_refl _) List.nodup_nil (fun c _=>by rw [Nat.sub_self];rfl)
 have yV:=(zHc (bal:=bal) (f:=f) bal.length [] (Nat.le_refl _)).2
 have jT:∀ c,c<now.length+1→c∈zQO bal f bal.length []:=by
  intro c hc
  have put:∀ x:Int,0≤x→x<bal.length→zBU bal x≠0→f x.toNat∈zQO bal f bal.length []:=fun x h1 h2 h3=>yV x.toNat (by omega) (by omega) h3
  by_cases hcn:c=now.length
  ·subst hcn
   obtain ⟨x,hx⟩:=List.exists_mem_of_ne_nil _ ha
   obtain ⟨p,q,r⟩:=j3 x (List.mem_append_left _ hx)
   have:=put x p q r
   rwa [hf,Int.toNat_of_nonneg p,if_pos hx] at this
  ·by_cases hcj:c=j
   ·subst hcj
    obtain ⟨x,hx⟩:=List.exists_mem_of_ne_nil _ hb
    obtain ⟨p,q,r⟩:=j3 x (List.mem_append_right _ hx)
    have:=put x p q r
    rw [hf,Int.toNat_of_nonneg p,if_neg (fun jS=>yS.2.2 _ jS _ hx rfl)] at this
    have gN:=(zIR h.nd (zKZ (c:=c) (x:=x) (by rw [uV];exact List.mem_append_right _ hx)).2 c).2 (by rw [uV];exact List.mem_append_right _ hx)
    rwa [gN] at this
   ·have yK:c<now.length:=by omega
    obtain ⟨c1,c2,c3⟩:=h.el _ (zCO yK)
    obtain ⟨x,hx⟩:=List.exists_mem_of_ne_nil _ c1
    obtain ⟨p,q,r⟩:=c3 x hx
    have:=put x p q r
    have jn:=(zKZ hx).2
    have gN:=(zIR h.nd jn c).2 hx
    rw [hf,Int.toNat_of_nonneg p,if_neg (fun jS=>?_),gN] at this
    ·exact this
    ·have:=(zIR h.nd jn j).2 (by rw [uV];exact List.mem_append_left _ jS)
     omega
 have:=zOG jT
 simp only [List.map_nil] at qY
 omega
def zFS (bal:List Int):List (List Int):=zDm bal bal.length [] []
theorem zNY {bal:List Int} {f:Nat→Nat} (hf:∀ x,f x=0):∀ n,n≤bal.length→zFh bal (fun x=>f x=0) n=(bal.take n).sum
 | 0,_=>rfl
 | n+1,h=>by
  show zFh bal (fun x=>f x=0) n+(if f n=0 then bal.getD n 0 else 0)=_
  rw [zNY hf n (by omega),zKR (by omega),if_pos (hf n)]
theorem zIx {bal:List Int} (h:bal.sum=0):GrpOk bal bal.length (zFS bal)∧zGP bal (zFS bal)=true∧((zFS bal).length:Int)=zBF bal bal.length []:=by
 have gM:∀ c,zFh bal (fun x=>(fun _=>0) x=c) bal.length=0:=fun c=>by
  by_cases hc:c=0
  ·subst hc
   have:=zNY (bal:=bal) (f:=fun _=>0) (fun _=>rfl) bal.length (Nat.le_refl _)
   rw [List.take_of_length_le (Nat.le_refl _),h] at this
   exact this
  ·exact zLp fun x _ _ e=>hc e.symm
 have qY:=zFu (f:=fun _=>0) gM bal.length [] (Nat.le_refl _) List.nodup_nil (fun c _=>by rw [Nat.sub_self];rfl)
 simp only [List.map_nil] at qY
 have hO:((zFS bal).length:Int)=zBF bal bal.length []:=by
  have:=zK0 (bal:=bal) bal.length [] []
  simp only [List.map_nil,List.length_nil] at this
  unfold zFS;omega
 rcases zKC (bal:=bal) bal.length [] [] (Nat.le_refl _) (by rw [Nat.sub_self];exact zUd bal) with h1 | h1
 ·have e:zFS bal=[]:=h1
  rw [e] at hO ⊢
  have h0:∀ x,x<bal.length→bal.getD x 0=0:=fun x hx=>by
   by_cases hb:bal.getD x 0=0
   ·exact hb
   ·have hm:=(zHc (bal:=bal) (f:=fun _=>0) bal.length [] (Nat.le_refl _)).2 x (by omega) hx hb
    have:=List.length_pos_of_mem hm
    simp only [List.length_nil] at hO
    omega
  refine ⟨⟨fun g hg=>(by cases hg),by simp,fun x hx hb=>absurd (h0 x hx) hb,?_,List.Pairwise.nil⟩,rfl,hO⟩
  rw [List.take_of_length_le (Nat.le_refl _)]
  have:bal.filter (fun x=>decide (x≠0))=[]:=by
   rw [List.filter_eq_nil_iff]
   intro x hx
   obtain ⟨i,hi,rfl⟩:=List.getElem_of_mem hx
   have:=h0 i hi
   simp [List.getD,List.getElem?_eq_getElem hi] at this
   simp [this]
  rw [this];rfl
 ·exact ⟨h1.1,h1.2,hO⟩
structure Pay where
 src:Int
 dst:Int
 coins:Int
 deriving Inhabited,DecidableEq
def zKP (bal:List Int):Int→List Int→List Pay
 | n,p::q::l=>(if n+zBU bal p>0 then [⟨q,p,n+zBU bal p⟩] else if n+zBU bal p<0 then [⟨p,q,-(n+zBU bal p)⟩] else [])++zKP bal (n+zBU bal p) (q::l)
 | _,_=>[]
def zRq (who:Int) (p:Pay):Int:=(if p.src=who then p.coins else 0)-(if p.dst=who then p.coins else 0)
def zJG (who:Int) (l:List Pay):Int:=(l.map (zRq who)).sum
def zJz (bal:List Int) (l:List Pay) (who:Nat):Int:=bal.getD who 0+zJG who l
theorem zJm {who:Int} {a b:List Pay}:zJG who (a++b)=zJG who a+zJG who b:=by simp [zJG]
def zFF (bal:List Int) (who:Int) (l:List Int):Int:=(l.map fun x=>if x=who then zBU bal x else 0).sum
theorem zMn {bal:List Int} {who:Int} {a b:List Int}:zFF bal who (a++b)=zFF bal who a+zFF bal who b:=by simp [zFF]
theorem zN4 {bal:List Int} {who:Int}:∀ (l:List Int) (n:Int) (p:Int),zJG who (zKP bal n (p::l))+(if p=who then n else 0)+zFF bal who (p::l)=if (p::l).getLast (by simp)=who then n+zC5 bal (p::l) else 0
 | [],n,p=>by
  simp only [zKP,List.getLast_singleton]
  show 0+_+_=_
  simp only [zFF,zC5,List.map_cons,List.map_nil,List.sum_cons,List.sum_nil]
  by_cases h:p=who<;>simp [h]
 | q :: l,n,p=>by
  have ih:=zN4 (bal:=bal) (who:=who) l (n+zBU bal p) q
  simp only [zKP]
  rw [zJm]
  have hf:zJG who (if n+zBU bal p>0 then [⟨q,p,n+zBU bal p⟩] else if n+zBU bal p<0 then [⟨p,q,-(n+zBU bal p)⟩] else [])=(if q=who then n+zBU bal p else 0)-(if p=who then n+zBU bal p else 0):=by
   by_cases h1:n+zBU bal p>0
   ·rw [if_pos h1];simp [zJG,zRq]
   ·rw [if_neg h1]
    by_cases h2:n+zBU bal p<0
    ·rw [if_pos h2]
     simp only [zJG,zRq,List.map_cons,List.map_nil,List.sum_cons,List.sum_nil]
     split<;>split<;>omega
    ·rw [if_neg h2]
     have:n+zBU bal p=0:=by omega
     rw [this];simp [zJG]
  have e1:zFF bal who (p::q::l)=(if p=who then zBU bal p else 0)+zFF bal who (q::l):=by simp [zFF]
  have e2:zC5 bal (p::q::l)=zBU bal p+zC5 bal (q::l):=by simp [zC5]
  rw [hf,e1,e2,List.getLast_cons (by simp)]
  split at ih<;>rename_i hl
  ·rw [if_pos hl]
   by_cases hp:p=who<;>by_cases hq:q=who<;>simp only [hp,hq,if_true,if_false] at ih ⊢ <;> omega
  ·rw [if_neg hl]
   by_cases hp:p=who<;>by_cases hq:q=who<;>simp only [hp,hq,if_true,if_false] at ih ⊢ <;> omega
theorem zOY {bal:List Int} {who:Int} {l:List Int} (hI:l≠[]) (hz:zC5 bal l=0):zJG who (zKP bal 0 l) = -zFF bal who l:=by
 cases l with
 | nil=>exact (hI rfl).elim
 | cons p l =>
  have:=zN4 (bal:=bal) (who:=who) l 0 p
  rw [hz] at this
  simp only [Int.add_zero,ite_self] at this
  omega
def zFn (bal:List Int) (gs:List (List Int)):List Pay:=gs.flatMap (zKP bal 0)
theorem zNP {bal:List Int} {who:Int}:∀ {gs:List (List Int)},(∀ g∈gs,g≠[]∧zC5 bal g=0)→zJG who (zFn bal gs) = -zFF bal who gs.flatten
 | [],_=>rfl
 | g::gs,h=>by
  have ih:=zNP (who:=who) (gs:=gs) fun g hg=>h g (by simp [hg])
  simp only [zFn,List.flatMap_cons,List.flatten_cons] at ih ⊢
  rw [zJm,zMn,ih,zOY (h g (by simp)).1 (h g (by simp)).2];omega
theorem zHu {bal:List Int} {who:Int}:∀ {l:List Int},who∉l→zFF bal who l=0
 | [],_=>rfl
 | x::l,h=>by
  simp only [List.mem_cons,not_or] at h
  have:=zHu (bal:=bal) h.2
  simp only [zFF,List.map_cons,List.sum_cons] at this ⊢
  rw [this,if_neg (fun e=>h.1 e.symm)];rfl
theorem zLL {bal:List Int} {who:Int}:∀ {l:List Int},l.Nodup→who∈l→zFF bal who l=zBU bal who
 | [],_,h=>by cases h
 | x :: l,hn,h=>by
  rw [List.nodup_cons] at hn
  simp only [zFF,List.map_cons,List.sum_cons]
  by_cases hx:x=who
  ·subst hx
   have:=zHu (bal:=bal) hn.1
   simp only [zFF] at this
   rw [if_pos rfl,this];omega
  ·have:=zLL (bal:=bal) hn.2 ((List.mem_cons.1 h).elim (fun e=>absurd e.symm hx) id)
   simp only [zFF] at this
   rw [if_neg hx,this];omega
theorem zSj {bal:List Int} {gs:List (List Int)} (h:GrpOk bal bal.length gs) (hz:zGP bal gs=true) (who:Nat) (hw:who<bal.length):zJz bal (zFn bal gs) who=0:=by
 have hg:∀ g∈gs,g≠[]∧zC5 bal g=0:=fun g hg=>⟨(h.el g hg).1,by simpa using List.all_eq_true.1 hz g hg⟩
 unfold zJz
 rw [zNP hg]
 by_cases hb:bal.getD who 0=0
 ·by_cases hm:(who:Int)∈gs.flatten
  ·exact absurd hb (by have:=(zQw h hm).2.2;rwa [zFK] at this)
  ·rw [zHu hm,hb];rfl
 ·rw [zLL h.nd (h.cov who hw hb),zFK];omega
def zFg (n:Nat) (p:Pay):Prop:=(0≤p.src∧p.src≤(n:Int)-1)∧(0≤p.dst∧p.dst≤(n:Int)-1)∧p.src≠p.dst∧1≤p.coins∧p.coins≤1000000
theorem zOE {bal:List Int} (h:∀ x∈bal,-100000≤x∧x≤100000) (p:Int) : -100000≤zBU bal p∧zBU bal p≤100000:=by
 unfold zBU
 by_cases hp:p.toNat<bal.length
 ·exact zBI h _ hp
 ·rw [List.getD_eq_getElem?_getD,List.getElem?_eq_none (by omega)];simp
theorem zTn {bal:List Int} (hb:∀ x∈bal,-100000≤x∧x≤100000):∀ (l:List Int) (n:Int) (d:Nat),l.Pairwise (· < ·)→(∀ x∈l,0≤x∧x<bal.length)→(-(100000*d:Int)≤n∧n≤100000*d)→d+l.length≤10→∀ p∈zKP bal n l,zFg bal.length p
 | [],_,_,_,_,_,_,p,hp=>by simp [zKP] at hp
 | [_],_,_,_,_,_,_,p,hp=>by simp [zKP] at hp
 | x :: y::l,n,d,hs,hr,hn,hd,p,hp=>by
  have hbx:=zOE hb x
  have hx:=hr x (by simp)
  have hy:=hr y (by simp)
  rw [List.pairwise_cons] at hs
  have hxy:=hs.1 y (by simp)
  simp only [List.length_cons] at hd
  simp only [zKP] at hp
  rcases List.mem_append.1 hp with hp | hp
  ·split at hp
   ·rw [List.mem_singleton] at hp;subst hp
    refine ⟨?_,?_,?_,?_,?_⟩<;>simp only<;>omega
   ·split at hp
    ·rw [List.mem_singleton] at hp;subst hp
     refine ⟨?_,?_,?_,?_,?_⟩<;>simp only<;>omega
    ·cases hp
  ·exact zTn hb (y::l) (n+zBU bal x) (d+1) hs.2 (fun z hz=>hr z (by simp [hz])) (by omega) (by simp only [List.length_cons];omega) p hp
theorem zP2 {bal:List Int}:∀ (l:List Int) (n:Int),(∀ a b,l=a++b→a≠[]→b≠[]→n+zC5 bal a≠0)→(zKP bal n l).length=l.length-1
 | [],_,_=>rfl
 | [_],_,_=>rfl
 | x :: y::l,n,h=>by
  have h1:=h [x] (y::l) rfl (by simp) (by simp)
  have e:zC5 bal [x]=zBU bal x:=by simp [zC5]
  rw [e] at h1
  have ih:=zP2 (bal:=bal) (y::l) (n+zBU bal x) fun a b uV ha hb=>by
   have:=h (x::a) b (by rw [uV];rfl) (by simp) hb
   have e:zC5 bal (x::a)=zBU bal x+zC5 bal a:=by simp [zC5]
   rw [e] at this;omega
  simp only [zKP]
  rw [List.length_append,ih]
  simp only [List.length_cons]
  split
  ·simp;omega
  ·split
   ·simp;omega
   ·exfalso;omega
theorem zNg {now:List (List Int)} {g:List Int} (h:g∈now):g.length≤now.flatten.length:=by
 obtain ⟨a,b,rfl⟩:=List.append_of_mem h
 simp;omega
theorem zKr {bal:List Int} {m:Nat} {now:List (List Int)} (h:GrpOk bal m now):now.flatten.length≤bal.length∧now.length≤now.flatten.length:=by
 constructor
 ·rw [h.cnt]
  exact Nat.le_trans (List.length_filter_le _ _) (by simp;omega)
 ·have:∀ {l:List (List Int)},(∀ g∈l,g≠[])→l.length≤l.flatten.length:=by
   intro l
   induction l with
   | nil=>intro _;exact Nat.le_refl _
   | cons g l ih =>
    intro hl
    have h1:=ih fun g hg=>hl g (by simp [hg])
    have h2:=hl g (by simp)
    have:0<g.length:=List.length_pos_iff.2 h2
    simp only [List.flatten_cons,List.length_append,List.length_cons];omega
  exact this fun g hg=>(h.el g hg).1
theorem zTs {bal:List Int} (hb:BalOk bal):∀ p∈zFn bal (zFS bal),zFg bal.length p:=by
 intro p hp
 obtain ⟨h,hz,hm⟩:=zIx hb.sum
 obtain ⟨g,hg,hpg⟩:=List.mem_flatMap.1 hp
 obtain ⟨g1,g2,g3⟩:=h.el g hg
 have hl:=zNg hg
 have:=(zKr h).1
 have hb8:=hb.len
 exact zTn hb.rng g 0 0 g2 (fun x hx=>by have:=g3 x hx;omega) (by omega) (by omega) p hpg
theorem zSy {bal:List Int} (hb:BalOk bal):(zFn bal (zFS bal)).length+(zFS bal).length=(bal.filter fun x=>decide (x≠0)).length:=by
 obtain ⟨h,hz,hm⟩:=zIx hb.sum
 have hc:=h.cnt
 rw [List.take_of_length_le (Nat.le_refl _)] at hc
 rw [← hc]
 have:∀ (gs:List (List Int)),(∀ g∈gs,g≠[]∧(zKP bal 0 g).length=g.length-1)→(zFn bal gs).length+gs.length=gs.flatten.length:=by
  intro gs
  induction gs with
  | nil=>intro _;rfl
  | cons g gs ih =>
   intro hl
   have h1:=ih fun g hg=>hl g (by simp [hg])
   obtain ⟨h2,h3⟩:=hl g (by simp)
   have:0<g.length:=List.length_pos_iff.2 h2
   simp only [zFn,List.flatMap_cons,List.length_append,List.length_cons,List.flatten_cons] at h1 ⊢
   omega
 refine this _ fun g hg=>⟨(h.el g hg).1,zP2 g 0 fun a b uV ha yE=>?_⟩
 obtain ⟨j,hj,rfl⟩:=List.getElem_of_mem hg
 have:=zRE h hz (by omega) hj (a:=a) (b:=b) (by rw [← uV];simp [List.getD,List.getElem?_eq_getElem hj]) ha yE
 omega
theorem zTX {n:Nat} {who:Int} {p:Pay} (h:zFg n p) : -1000000≤zRq who p∧zRq who p≤1000000:=by
 obtain ⟨_,_,h3,h4⟩:=h
 unfold zRq;split<;>split<;>omega
theorem zND {n:Nat} {who:Int}:∀ {l:List Pay},(∀ p∈l,zFg n p)→-(1000000*(l.length:Int))≤zJG who l∧zJG who l≤1000000*(l.length:Int)
 | [],_=>by simp [zJG]
 | p::l,h=>by
  have ih:=zND (who:=who) (l:=l) fun q hq=>h q (by simp [hq])
  have h1:=zTX (who:=who) (h p (by simp))
  simp only [zJG,List.map_cons,List.sum_cons,List.length_cons] at ih ⊢
  omega
end Go.Eng
set_option maxRecDepth 10000
set_option maxHeartbeats 4000000
namespace Go.Eng
open Go Go.Proofs
abbrev zA1 (p:Pay):PV := .agg [I p.src,I p.dst,I p.coins]
def zPq (n:Nat) (p:Pay):Bool:=(decide (0≤p.src)&&decide (p.src≤(n:Int)-1))&&((decide (0≤p.dst)&&decide (p.dst≤(n:Int)-1))&&(decide (p.src≠p.dst)&&(decide (1≤p.coins)&&decide (p.coins≤1000000))))
theorem zGC {n:Nat} {p:Pay}:zPq n p=true↔zFg n p:=by
 simp only [zPq,zFg,Bool.and_eq_true,decide_eq_true_eq]
def zKk (bal:List Int) (l:List Pay):Bool:=l.all (zPq bal.length)&&(List.range bal.length).all fun who=>decide (zJz bal l who=0)
def zDl (bal:List Int) (l:List Pay):Bool:=if zBe bal=0 then zKk bal l else false
def zNp (bal:List Int) (l:List Pay):List Int:=(List.range bal.length).map fun who=>zJz bal l who
theorem zER {bal:List Int} {l:List Pay}:(zNp bal l).length=bal.length:=by simp [zNp]
theorem zHp {bal:List Int} {l:List Pay} {c:Nat} (h:c<bal.length):(zNp bal l).getD c 0=zJz bal l c:=by
 simp [zNp,List.getD,h]
theorem zMd {who:Int} {l:List Pay} {i:Nat} (h:i<l.length):zJG who (l.take (i+1))=zJG who (l.take i)+zRq who (l.getD i default):=by
 rw [List.take_add_one,List.getElem?_eq_getElem h,zAC h]
 simp only [zJG,List.map_append,List.sum_append,Option.toList,List.map_cons,List.map_nil,List.sum_cons,List.sum_nil];omega
theorem zSG {bal:List Int} {l:List Pay} {i:Nat} (h:i<l.length) (hp:zFg bal.length (l.getD i default)) :
  ((zNp bal (l.take i)).set (l.getD i default).src.toNat ((zNp bal (l.take i)).getD (l.getD i default).src.toNat 0+(l.getD i default).coins)).set (l.getD i default).dst.toNat (((zNp bal (l.take i)).set (l.getD i default).src.toNat ((zNp bal (l.take i)).getD (l.getD i default).src.toNat 0+(l.getD i default).coins)).getD (l.getD i default).dst.toNat 0-(l.getD i default).coins)=zNp bal (l.take (i+1)):=by
 generalize hq:l.getD i default=p at *
 obtain ⟨h1,h2,h3,h4⟩:=hp
 apply List.ext_getElem
 ·simp [zER]
 ·intro j g1 g2
  rw [zER] at g2
  have e1:∀ (m:List Int) (hj:j<m.length),m[j]=m.getD j 0:=fun m hj=>(zAC hj).symm
  rw [e1,e1,zEY,zEY,zEY,zHp g2,zHp (l:=l.take i) (c:=p.src.toNat) (by omega),zHp (l:=l.take i) (c:=p.dst.toNat) (by omega),zHp (l:=l.take (i+1)) g2]
  simp only [List.length_set,zER,g2,and_true]
  unfold zJz
  rw [zMd h,hq]
  have ts:zRq (j:Int) p=(if p.src.toNat=j then p.coins else 0)-(if p.dst.toNat=j then p.coins else 0):=by
   unfold zRq
   have e3:(p.src=(j:Int))=(p.src.toNat=j):=propext (by omega)
   have e4:(p.dst=(j:Int))=(p.dst.toNat=j):=propext (by omega)
   simp only [e3,e4]
  rw [ts]
  have hI:p.src.toNat≠p.dst.toNat:=by omega
  by_cases hd:p.dst.toNat=j
  ·subst hd
   simp [hI];omega
  ·by_cases hs:p.src.toNat=j
   ·subst hs
    simp [hd];omega
   ·simp [hd,hs]
theorem zUs {bal:List Int} {l:List Pay} (hb:∀ x∈bal,-100000≤x∧x≤100000) (hl:∀ p∈l,zFg bal.length p) (hn:l.length≤100) (c:Nat) : -1000000000≤(zNp bal l).getD c 0∧(zNp bal l).getD c 0≤1000000000:=by
 by_cases hc:c<bal.length
 ·rw [zHp hc]
  have h1:=zND (who:=(c:Int)) hl
  have h2:=zBI hb c hc
  unfold zJz;omega
 ·rw [List.getD_eq_getElem?_getD,List.getElem?_eq_none (by rw [zER];omega)];simp
theorem zNt {n:Nat} {l:List Pay} {i:Nat} (h:∀ j,j<i→zFg n (l.getD j default)) (hi:i≤l.length):∀ p∈l.take i,zFg n p:=by
 intro p hp
 obtain ⟨j,hj,rfl⟩:=List.getElem_of_mem hp
 have wo:j<i:=by simp at hj;omega
 have:=h j wo
 rw [zAC (by omega)] at this
 simpa using this
theorem zSs {bal:List Int} {l:List Pay}:(zNp bal l).all (fun x=>decide (x=0))=(List.range bal.length).all fun who=>decide (zJz bal l who=0):=by
 simp [zNp,List.all_map,Function.comp_def]
theorem zP5 {α:Type} {p:α→Bool} {l:List α} {i:Nat} {d:α} (h:i<l.length) (hx:p (l.getD i d)=false):l.all p=false:=by
 rw [List.all_eq_false]
 exact ⟨l.getD i d,by rw [zAC h];exact List.getElem_mem _,by rw [hx];exact Bool.false_ne_true⟩
theorem zNy {α:Type} {p:α→Bool} {l:List α} {d:α} (h:∀ i,i<l.length→p (l.getD i d)=true):l.all p=true:=by
 rw [List.all_eq_true]
 intro x hx
 obtain ⟨j,hj,rfl⟩:=List.getElem_of_mem hx
 have:=h j hj
 rwa [zAC hj] at this
section
variable [Yo]
theorem f110 (n:Int):FG 110 [I n] (.bool (decide (n=0))):=by
 refine zAi Try.f110 ?_
 refine zAb (zAa (zAe 1 (zAc (zAb (zAa (zAe 3 (zAc (zAD (E_a [] an (PV.bool (n==0)) ([]) rfl rfl)))))))))
theorem f126_7  (x:Int):FG 126 [I x,.ref (.func 110 [] [])] (.bool (!(decide (x=0)))):=by
 refine zAi Try.f126 ?_
 refine zAb (zAa (zAe 1 (zAc (zAb (zAa (zAe 2 (S_a [(6,.ret (PV.bool (decide (x=0))) ([]))] (ap (f110 (x)) an) (zAe 2 (zAc (zAD (E_a [] an (PV.bool !decide (x=0)) ([]) rfl rfl)))))))))))
theorem f118_7n  (l:List Int) (hl:l.length<4294967296):FG 118 [zB2 l,.func 126 [] [.ref (.func 110 [] [])]] (I (zHD (fun x => !(decide (x=0))) l)):=by
 refine zAi Try.f118 ?_
 refine zAb (zAa (zAe 1 (zAc (zAb (zAb (zAa (zAe 1 (S_a [(0,.n (l.length))] (ap ((by simp):some (List.map I l).length=some l.length) an) (zAe 1 (zAc (zAj 0 ?_)))))))))))
 refine zAX (fun i=>i≤l.length∧∀ j,j<i→(fun x => !(decide (x=0))) (l.getD j 0)=false) (fun i=>[(8,I (i:Nat))]) (fun i=>l.length-i) (0:Nat) (by simp) fun i ⟨hi,ha⟩=>?_
 refine zAb (zAa (zAe 1 (zAc (zAb (zCM ((↑i:Int)<(↑l.length:Int)) (fun k0=>(zAl (zAb (zAj 1 (zAb (zAa (zAe 2 (zAc (zAb (zAa (zAe 3 (S_a [(2,.v (I (l.getD i 0)))] (ap (zAR (0) (by omega):(List.map I l)[i]? = some (I (l.getD i 0))) an) (zAe 1 (S_a [(7,.ret (PV.bool !decide (l.getD i 0=0)) ([]))] (ap (f126_7 (l.getD i 0)) an) (zAc (zFd (l.getD i 0=0) (fun k1=>(zAb (zAa (zAe 2 (zAc (zAD (E_a [] an (I (↑i:Int)) ([]) ?_ rfl))))))) (fun k1=>(zAl (zAa (S_a [(1,.v (I (↑(i+1):Int)))] (ap ((zAy (by omega) (by omega)):I (IntKind.i64.wrap ((↑i:Int)+1))=I (↑(i+1):Int)) an) (zAe 1 (zAc ?_)))))))))))))))))))))) (fun k0=>(zA9 0 (zAb (zAa (zAe 1 (zAc (zAD (E_a [] an (I (-1)) ([]) ?_ rfl)))))))))))))
 ·rw [zDv (i:=i) (by omega) (fun j hj=>by rw [← zAC (d:=0)];exact ha j hj) (by rw [← zAC (d:=0)];first | assumption | (simp only [Bool.not_eq_true',decide_eq_false_iff_not];assumption))]
 ·refine ⟨i+1,⟨by omega,fun j hj=>?_⟩,by omega,by kernel_rfl,by kernel_rfl⟩
  rcases Nat.lt_succ_iff_lt_or_eq.1 hj with h | rfl
  ·exact ha j h
  ·first | assumption | (simp only [Bool.not_eq_false',decide_eq_true_eq];first | assumption | (apply Decidable.of_not_not;assumption))
 ·rw [zD3 fun j hj=>by rw [← zAC (d:=0)];exact ha j (by omega)]
theorem f65_7n  (l:List Int) (hl:l.length<4294967296):FG 65 [zB2 l,.func 126 [] [.ref (.func 110 [] [])]] (.bool (l.any (fun x => !(decide (x=0))))):=by
 refine zAi Try.f65 ?_
 refine zAb (zAa (zAe 1 (zAc (zAb (zAa (zAe 2 (S_a [(6,.ret (I (zHD (fun x => !decide (x=0)) l)) ([]))] (ap (f118_7n (l) (by omega)) an) (zAe 2 (zAc (zAD (E_a [] an (PV.bool (decide (zHD (fun x => !decide (x=0)) l≥0))) ([]) ?_ rfl)))))))))))
 rw [zGt]
theorem f79_7  (l:List Int) (hl:l.length<4294967296):FG 79 [zB2 l,.func 110 [] []] (.bool (l.all (fun x=>decide (x=0)))):=by
 refine zAi Try.f79 ?_
 refine zAb (zAa (zAe 2 (zAc (zAb (zAa (zAe 2 (S_a [(12,.ret (PV.bool (l.any fun x => !decide (x=0))) ([]))] (ap (f65_7n (l) (by omega)) an) (zAe 2 (zAc (zAD (E_a [] an (PV.bool !l.any fun x => !decide (x=0)) ([]) ?_ rfl)))))))))))
 simp [List.not_any_eq_all_not]
theorem f45 (bal:List Int) (l:List Pay) (hl:l.length≤100) (kW:bal.length<4294967296):FG 45 [zB2 bal,.sl (l.map zA1)] (.tup [.bool (zDl bal l),I (zBe bal)]):=by
 by_cases hb:zBe bal=0
 ·have gp:=zJS hb
  have hb8:=gp.len
  have hw:zNp bal []=bal:=by
   apply List.ext_getElem
   ·simp [zER]
   ·intro j h1 h2
    have:=zHp (bal:=bal) (l:=[]) h2
    rw [zAC (by rw [zER];exact h2)] at this
    rw [this];simp only [zJz,zJG,List.map_nil,List.sum_nil,Int.add_zero];exact zAC h2
  have h108:=f108 bal kW
  rw [hb] at h108 ⊢
  refine zAi Try.f45 ?_
  refine zAb (zAa (zAe 2 (zAc (zAb (zAb (zAa (zAe 1 (S_a [(6,.ret (I 0) ([]))] (ap (h108) an) (zAe 1 (zAc (zAb (zAa (zAe 2 (zAc (zBp (zAl (zAb (zAa (zAe 1 (S_a [(6,.ret (PV.own 1 (List.map I bal)) ([]))] (ap (f109 (bal) (by omega)) an) (zAe 1 (zAc (zAb (zAb (zAa (zAe 1 (S_a [(0,.n (l.length))] (ap ((by simp):some (List.map zA1 l).length=some l.length) an) (zAe 1 (zAc (zAj 0 ?_))))))))))))))))))))))))))))))
  refine zAX (fun (i,o)=>i≤l.length∧o=zNp bal (l.take i)∧∀ j,j<i→zFg bal.length (l.getD j default)) (fun (i,o)=>[(7,.own 1 (o.map I)),(19,I (i:Nat))]) (fun (i,_)=>l.length-i) ((0:Nat),bal) ⟨Nat.zero_le _,hw.symm,fun j hj=>absurd hj (Nat.not_lt_zero _)⟩ fun (i,o) ⟨hi,ho,hj⟩=>?_
  have hol:o.length=bal.length:=by rw [ho,zER]
  have kQ:∀ {q:Pay},l.getD i default=q→i<l.length→zPq bal.length q=false→zDl bal l=false:=fun hq yU h=>by
   simp only [zDl,hb,if_true,zKk,zP5 (p:=zPq bal.length) (d:=default) yU (by rw [hq];exact h),Bool.false_and]
  have wH:=zUs (bal:=bal) (l:=l.take i) gp.rng (zNt hj hi) (by rw [List.length_take];omega)
  rw [← ho] at wH
  by_cases yU:i<l.length
  ·by_cases hp:zPq bal.length (l.getD i default)=true
   ·have gq:=zGC.1 hp
    have jU:=zSG yU gq
    rw [← ho] at jU
    have gO:=gq
    obtain ⟨p1,p2,p3,p4⟩:=gO
    have yY:=wH (l.getD i default).src.toNat
    have jN:=wH (l.getD i default).dst.toNat
    have hgs:(o.set (l.getD i default).src.toNat (o.getD (l.getD i default).src.toNat 0+(l.getD i default).coins)).getD (l.getD i default).dst.toNat 0=o.getD (l.getD i default).dst.toNat 0:=by
     rw [zEY,if_neg (by omega)]
    have q1:(!(decide (0≤(l.getD i default).src)&&decide ((l.getD i default).src≤((o.length-1:Nat):Int))))=false:=by rw [Bool.not_eq_false',Bool.and_eq_true,decide_eq_true_eq,decide_eq_true_eq];omega
    have q2:(!(decide (0≤(l.getD i default).dst)&&decide ((l.getD i default).dst≤((o.length-1:Nat):Int))))=false:=by rw [Bool.not_eq_false',Bool.and_eq_true,decide_eq_true_eq,decide_eq_true_eq];omega
    have q3:(!(decide (1≤(l.getD i default).coins)&&decide ((l.getD i default).coins≤1000000)))=false:=by rw [Bool.not_eq_false',Bool.and_eq_true,decide_eq_true_eq,decide_eq_true_eq];omega
    clear kQ wH hp hw
    refine zAb (zAa (zAe 1 (zAc (zAb (zA6 ((↑i:Int)<(↑l.length:Int)) (by omega) (zAl (zAb (zAj 1 (zAb (zAa (S_a [(2,.v (PV.agg [I (l.getD i default).src,I (l.getD i default).dst,I (l.getD i default).coins]))] (ap (zAR (default) (by omega):(List.map zA1 l)[i]? = some (PV.agg [I (l.getD i default).src,I (l.getD i default).dst,I (l.getD i default).coins])) an) (zAe 3 (zAc (zAb (zAb (zAa (zAe 3 (S_a [(0,.n (o.length))] (ap ((by simp):some (List.map I o).length=some o.length) an) (S_a [(1,.v (I (↑(o.length-1):Int)))] (ap ((zAy (by omega) (by omega)):I (IntKind.i64.wrap ((↑o.length:Int)-1))=I (↑(o.length-1):Int)) an) (S_a [(10,.ret (PV.bool (decide (0≤(l.getD i default).src)&&decide ((l.getD i default).src≤(↑(o.length-1):Int)))) ([]))] (ap (f78 ((l.getD i default).src) (0) ((↑(o.length-1):Int))) an) (zAe 2 (zC0 30 (!(decide (0≤(l.getD i default).src)&&decide ((l.getD i default).src≤(↑(o.length-1):Int)))) (fun k0=>(zAe 21 (zAc (zCb (zAb (zAa (zAe 2 (zAc (zAD (E_a [] an (PV.tup [PV.bool false,I 0]) ([]) ?_ rfl)))))))))) (fun k0=>(zAe 3 (S_a [(0,.n (o.length))] (ap ((by simp):some (List.map I o).length=some o.length) an) (S_a [(1,.v (I (↑(o.length-1):Int)))] (ap ((zAy (by omega) (by omega)):I (IntKind.i64.wrap ((↑o.length:Int)-1))=I (↑(o.length-1):Int)) an) (S_a [(10,.ret (PV.bool (decide (0≤(l.getD i default).dst)&&decide ((l.getD i default).dst≤(↑(o.length-1):Int)))) ([]))] (ap (f78 ((l.getD i default).dst) (0) ((↑(o.length-1):Int))) an) (zAe 3 (zC0 39 (!(decide (0≤(l.getD i default).dst)&&decide ((l.getD i default).dst≤(↑(o.length-1):Int)))) (fun k1=>(zAe 12 (zAc (zCb (zAb (zAa (zAe 2 (zAc (zAD (E_a [] an (PV.tup [PV.bool false,I 0]) ([]) ?_ rfl)))))))))) (fun k1=>(zAe 7 (zCo 46 ((l.getD i default).src=(l.getD i default).dst) (by omega) (zAe 2 (S_a [(10,.ret (PV.bool (decide (1≤(l.getD i default).coins)&&decide ((l.getD i default).coins≤1000000))) ([]))] (ap (f78 ((l.getD i default).coins) (1) (1000000)) an) (zAe 2 (zAc (zHP (!(decide (1≤(l.getD i default).coins)&&decide ((l.getD i default).coins≤1000000))) (fun k2=>(zAb (zAa (zAe 2 (zAc (zAD (E_a [] an (PV.tup [PV.bool false,I 0]) ([]) ?_ rfl))))))) (fun k2=>(zAl (zAb (zAa (zAe 3 (S_a [(0,.ob),(1,.ob),(1,.n ((l.getD i default).src.toNat))] (ap ((by exact zAp (by omega)):decide (0≤(l.getD i default).src)=true) (ap ((by exact zAp (by simp only [List.length_map,zzLn]<;>omega)):decide ((l.getD i default).src.toNat<(List.map I o).length)=true) (ap ((by simp):some (0+(l.getD i default).src.toNat)=some (l.getD i default).src.toNat) an))) (S_a [(0,.cs false ([I (o.getD (l.getD i default).src.toNat 0)]))] (ap (zBw (q:=PV.own 1 (List.map I o)) (xs:=List.map I o) (x:=I (o.getD (l.getD i default).src.toNat 0)) rfl (zAR (0) (by omega)):zAk 7 (PV.own 1 (List.map I o)) [] (l.getD i default).src.toNat 0 1=some (false,[I (o.getD (l.getD i default).src.toNat 0)])) an) (zAe 2 (S_a [(1,.v (I (o.getD (l.getD i default).src.toNat 0+(l.getD i default).coins)))] (ap ((zAy rfl (by omega)):I (IntKind.i64.wrap (o.getD (l.getD i default).src.toNat 0+(l.getD i default).coins))=I (o.getD (l.getD i default).src.toNat 0+(l.getD i default).coins)) an) (S_a [(0,.ob),(1,.ob),(1,.n ((l.getD i default).src.toNat))] (ap ((by exact zAp (by omega)):decide (0≤(l.getD i default).src)=true) (ap ((by exact zAp (by simp only [List.length_map,zzLn]<;>omega)):decide ((l.getD i default).src.toNat<(List.map I o).length)=true) (ap ((by simp):some (0+(l.getD i default).src.toNat)=some (l.getD i default).src.toNat) an))) (S_a [(8,.root (PV.own 1 (List.map I (o.set (l.getD i default).src.toNat (o.getD (l.getD i default).src.toNat 0+(l.getD i default).coins)))) true)] (ap (zLc (zAR (0) (by omega)) zDz:zA4 (PV.own 1 (List.map I o)) [] (l.getD i default).src.toNat 0 (I (o.getD (l.getD i default).src.toNat 0+(l.getD i default).coins)).cells=some (PV.own 1 (List.map I (o.set (l.getD i default).src.toNat (o.getD (l.getD i default).src.toNat 0+(l.getD i default).coins))))∧zAq (PV.own 1 (List.map I o)) (PV.own 1 (List.map I (o.set (l.getD i default).src.toNat (o.getD (l.getD i default).src.toNat 0+(l.getD i default).coins)))) []=true) an) (zAc (zAa (zAe 3 (S_a [(0,.ob),(1,.ob),(1,.n ((l.getD i default).dst.toNat))] (ap ((by exact zAp (by omega)):decide (0≤(l.getD i default).dst)=true) (ap ((by exact zAp (by simp only [List.length_map,zzLn]<;>omega)):decide ((l.getD i default).dst.toNat<(List.map I (o.set (l.getD i default).src.toNat (o.getD (l.getD i default).src.toNat 0+(l.getD i default).coins))).length)=true) (ap ((by simp):some (0+(l.getD i default).dst.toNat)=some (l.getD i default).dst.toNat) an))) (S_a [(0,.cs false ([I ((o.set (l.getD i default).src.toNat (o.getD (l.getD i default).src.toNat 0+(l.getD i default).coins)).getD (l.getD i default).dst.toNat 0)]))] (ap (zBw (q:=PV.own 1 (List.map I (o.set (l.getD i default).src.toNat (o.getD (l.getD i default).src.toNat 0+(l.getD i default).coins)))) (xs:=List.map I (o.set (l.getD i default).src.toNat (o.getD (l.getD i default).src.toNat 0+(l.getD i default).coins))) (x:=I ((o.set (l.getD i default).src.toNat (o.getD (l.getD i default).src.toNat 0+(l.getD i default).coins)).getD (l.getD i default).dst.toNat 0)) rfl (zAR (0) ?_):zAk 7 (PV.own 1 (List.map I (o.set (l.getD i default).src.toNat (o.getD (l.getD i default).src.toNat 0+(l.getD i default).coins)))) [] (l.getD i default).dst.toNat 0 1=some (false,[I ((o.set (l.getD i default).src.toNat (o.getD (l.getD i default).src.toNat 0+(l.getD i default).coins)).getD (l.getD i default).dst.toNat 0)])) an) (zAe 2 (S_a [(1,.v (I ((o.set (l.getD i default).src.toNat (o.getD (l.getD i default).src.toNat 0+(l.getD i default).coins)).getD (l.getD i default).dst.toNat 0-(l.getD i default).coins)))] (ap ((zAy rfl (by omega)):I (IntKind.i64.wrap ((o.set (l.getD i default).src.toNat (o.getD (l.getD i default).src.toNat 0+(l.getD i default).coins)).getD (l.getD i default).dst.toNat 0-(l.getD i default).coins))=I ((o.set (l.getD i default).src.toNat (o.getD (l.getD i default).src.toNat 0+(l.getD i default).coins)).getD (l.getD i default).dst.toNat 0-(l.getD i default).coins)) an) (S_a [(0,.ob),(1,.ob),(1,.n ((l.getD i default).dst.toNat))] (ap ((by exact zAp (by omega)):decide (0≤(l.getD i default).dst)=true) (ap ((by exact zAp (by simp only [List.length_map,zzLn]<;>omega)):decide ((l.getD i default).dst.toNat<(List.map I (o.set (l.getD i default).src.toNat (o.getD (l.getD i default).src.toNat 0+(l.getD i default).coins))).length)=true) (ap ((by simp):some (0+(l.getD i default).dst.toNat)=some (l.getD i default).dst.toNat) an))) (S_a [(8,.root (PV.own 1 (List.map I ((o.set (l.getD i default).src.toNat (o.getD (l.getD i default).src.toNat 0+(l.getD i default).coins)).set (l.getD i default).dst.toNat ((o.set (l.getD i default).src.toNat (o.getD (l.getD i default).src.toNat 0+(l.getD i default).coins)).getD (l.getD i default).dst.toNat 0-(l.getD i default).coins)))) true)] (ap (zLc (zAR (0) ?_) zDz:zA4 (PV.own 1 (List.map I (o.set (l.getD i default).src.toNat (o.getD (l.getD i default).src.toNat 0+(l.getD i default).coins)))) [] (l.getD i default).dst.toNat 0 (I ((o.set (l.getD i default).src.toNat (o.getD (l.getD i default).src.toNat 0+(l.getD i default).coins)).getD (l.getD i default).dst.toNat 0-(l.getD i default).coins)).cells=some (PV.own 1 (List.map I ((o.set (l.getD i default).src.toNat (o.getD (l.getD i default).src.toNat 0+(l.getD i default).coins)).set (l.getD i default).dst.toNat ((o.set (l.getD i default).src.toNat (o.getD (l.getD i default).src.toNat 0+(l.getD i default).coins)).getD (l.getD i default).dst.toNat 0-(l.getD i default).coins))))∧zAq (PV.own 1 (List.map I (o.set (l.getD i default).src.toNat (o.getD (l.getD i default).src.toNat 0+(l.getD i default).coins)))) (PV.own 1 (List.map I ((o.set (l.getD i default).src.toNat (o.getD (l.getD i default).src.toNat 0+(l.getD i default).coins)).set (l.getD i default).dst.toNat ((o.set (l.getD i default).src.toNat (o.getD (l.getD i default).src.toNat 0+(l.getD i default).coins)).getD (l.getD i default).dst.toNat 0-(l.getD i default).coins)))) []=true) an) (zAc (zAa (S_a [(1,.v (I (↑(i+1):Int)))] (ap ((zAy (by omega) (by omega)):I (IntKind.i64.wrap ((↑i:Int)+1))=I (↑(i+1):Int)) an) (zAe 1 (zAc ?_))))))))))))))))))))))))))))))))))))))))))))))))))))))))))))))
    all_goals try first | (rw [q1] at k0;cases k0;done) | (rw [q2] at k1;cases k1;done) | (rw [q3] at k3;cases k3;done) | (rw [q3] at k2;cases k2;done) | exact absurd k2 p3 | (rw [List.length_set];omega)
    exact ⟨(i+1,_),⟨by omega,jU,fun j wo=>by
     rcases Nat.lt_succ_iff_lt_or_eq.1 wo with h | rfl
     ·exact hj j h
     ·exact gq⟩,by simp only;omega,by kernel_rfl,by kernel_rfl⟩
   ·have jQ:¬ zFg bal.length (l.getD i default):=fun h=>hp (zGC.2 h)
    have hp:zPq bal.length (l.getD i default)=false:=by simpa using hp
    have hf:=kQ rfl yU hp
    rw [hf]
    clear kQ wH hw hp hf
    refine zAb (zAa (zAe 1 (zAc (zAb (zA6 ((↑i:Int)<(↑l.length:Int)) (by omega) (zAl (zAb (zAj 1 (zAb (zAa (S_a [(2,.v (PV.agg [I (l.getD i default).src,I (l.getD i default).dst,I (l.getD i default).coins]))] (ap (zAR (default) (by omega):(List.map zA1 l)[i]? = some (PV.agg [I (l.getD i default).src,I (l.getD i default).dst,I (l.getD i default).coins])) an) (zAe 3 (zAc (zAb (zAb (zAa (zAe 3 (S_a [(0,.n (o.length))] (ap ((by simp):some (List.map I o).length=some o.length) an) (S_a [(1,.v (I ((↑o.length:Int)-1)))] (ap ((zAy rfl (by omega)):I (IntKind.i64.wrap ((↑o.length:Int)-1))=I ((↑o.length:Int)-1)) an) (S_a [(10,.ret (PV.bool (decide (0≤(l.getD i default).src)&&decide ((l.getD i default).src≤(↑o.length:Int)-1))) ([]))] (ap (f78 ((l.getD i default).src) (0) ((↑o.length:Int)-1)) an) (zAe 2 (zC0 30 (!(decide (0≤(l.getD i default).src)&&decide ((l.getD i default).src≤(↑o.length:Int)-1))) (fun k0=>(zAe 21 (zAc (zCb (zAb (zAa (zAe 2 (zAc (zAD (E_a [] an (PV.tup [PV.bool false,I 0]) ([]) rfl rfl)))))))))) (fun k0=>(zAe 3 (S_a [(0,.n (o.length))] (ap ((by simp):some (List.map I o).length=some o.length) an) (S_a [(1,.v (I ((↑o.length:Int)-1)))] (ap ((zAy rfl (by omega)):I (IntKind.i64.wrap ((↑o.length:Int)-1))=I ((↑o.length:Int)-1)) an) (S_a [(10,.ret (PV.bool (decide (0≤(l.getD i default).dst)&&decide ((l.getD i default).dst≤(↑o.length:Int)-1))) ([]))] (ap (f78 ((l.getD i default).dst) (0) ((↑o.length:Int)-1)) an) (zAe 3 (zC0 39 (!(decide (0≤(l.getD i default).dst)&&decide ((l.getD i default).dst≤(↑o.length:Int)-1))) (fun k1=>(zAe 12 (zAc (zCb (zAb (zAa (zAe 2 (zAc (zAD (E_a [] an (PV.tup [PV.bool false,I 0]) ([]) rfl rfl)))))))))) (fun k1=>(zAe 7 (zI2 46 ((l.getD i default).src=(l.getD i default).dst) (fun k2=>(zAe 5 (zAc (zCb (zAb (zAa (zAe 2 (zAc (zAD (E_a [] an (PV.tup [PV.bool false,I 0]) ([]) rfl rfl)))))))))) (fun k2=>(zAe 2 (S_a [(10,.ret (PV.bool (decide (1≤(l.getD i default).coins)&&decide ((l.getD i default).coins≤1000000))) ([]))] (ap (f78 ((l.getD i default).coins) (1) (1000000)) an) (zAe 2 (zAc (zHP (!(decide (1≤(l.getD i default).coins)&&decide ((l.getD i default).coins≤1000000))) (fun k3=>(zAb (zAa (zAe 2 (zAc (zAD (E_a [] an (PV.tup [PV.bool false,I 0]) ([]) rfl rfl))))))) (fun k3=>(zAl (zAb (zAa (zAe 3 (S_a [(0,.ob),(1,.ob),(1,.n ((l.getD i default).src.toNat))] (ap (?_:decide (0≤(l.getD i default).src)=true) (ap (?_:decide ((l.getD i default).src.toNat<(List.map I o).length)=true) (ap ((by simp):some (0+(l.getD i default).src.toNat)=some (l.getD i default).src.toNat) an))) (S_a [(0,.cs false ([I (o.getD (l.getD i default).src.toNat 0)]))] (ap (zBw (q:=PV.own 1 (List.map I o)) (xs:=List.map I o) (x:=I (o.getD (l.getD i default).src.toNat 0)) rfl (zAR (0) ?_):zAk 7 (PV.own 1 (List.map I o)) [] (l.getD i default).src.toNat 0 1=some (false,[I (o.getD (l.getD i default).src.toNat 0)])) an) (zAe 2 (S_a [(1,.v (I (o.getD (l.getD i default).src.toNat 0+(l.getD i default).coins)))] (ap ((zAy rfl ?_):I (IntKind.i64.wrap (o.getD (l.getD i default).src.toNat 0+(l.getD i default).coins))=I (o.getD (l.getD i default).src.toNat 0+(l.getD i default).coins)) an) (S_a [(0,.ob),(1,.ob),(1,.n ((l.getD i default).src.toNat))] (ap (?_:decide (0≤(l.getD i default).src)=true) (ap (?_:decide ((l.getD i default).src.toNat<(List.map I o).length)=true) (ap ((by simp):some (0+(l.getD i default).src.toNat)=some (l.getD i default).src.toNat) an))) (S_a [(8,.root (PV.own 1 (List.map I (o.set (l.getD i default).src.toNat (o.getD (l.getD i default).src.toNat 0+(l.getD i default).coins)))) true)] (ap (zLc (zAR (0) ?_) zDz:zA4 (PV.own 1 (List.map I o)) [] (l.getD i default).src.toNat 0 (I (o.getD (l.getD i default).src.toNat 0+(l.getD i default).coins)).cells=some (PV.own 1 (List.map I (o.set (l.getD i default).src.toNat (o.getD (l.getD i default).src.toNat 0+(l.getD i default).coins))))∧zAq (PV.own 1 (List.map I o)) (PV.own 1 (List.map I (o.set (l.getD i default).src.toNat (o.getD (l.getD i default).src.toNat 0+(l.getD i default).coins)))) []=true) an) (zAc (zAa (zAe 3 (S_a [(0,.ob),(1,.ob),(1,.n ((l.getD i default).dst.toNat))] (ap (?_:decide (0≤(l.getD i default).dst)=true) (ap (?_:decide ((l.getD i default).dst.toNat<(List.map I (o.set (l.getD i default).src.toNat (o.getD (l.getD i default).src.toNat 0+(l.getD i default).coins))).length)=true) (ap ((by simp):some (0+(l.getD i default).dst.toNat)=some (l.getD i default).dst.toNat) an))) (S_a [(0,.cs false ([I ((o.set (l.getD i default).src.toNat (o.getD (l.getD i default).src.toNat 0+(l.getD i default).coins)).getD (l.getD i default).dst.toNat 0)]))] (ap (zBw (q:=PV.own 1 (List.map I (o.set (l.getD i default).src.toNat (o.getD (l.getD i default).src.toNat 0+(l.getD i default).coins)))) (xs:=List.map I (o.set (l.getD i default).src.toNat (o.getD (l.getD i default).src.toNat 0+(l.getD i default).coins))) (x:=I ((o.set (l.getD i default).src.toNat (o.getD (l.getD i default).src.toNat 0+(l.getD i default).coins)).getD (l.getD i default).dst.toNat 0)) rfl (zAR (0) ?_):zAk 7 (PV.own 1 (List.map I (o.set (l.getD i default).src.toNat (o.getD (l.getD i default).src.toNat 0+(l.getD i default).coins)))) [] (l.getD i default).dst.toNat 0 1=some (false,[I ((o.set (l.getD i default).src.toNat (o.getD (l.getD i default).src.toNat 0+(l.getD i default).coins)).getD (l.getD i default).dst.toNat 0)])) an) (zAe 2 (S_a [(1,.v (I ((o.set (l.getD i default).src.toNat (o.getD (l.getD i default).src.toNat 0+(l.getD i default).coins)).getD (l.getD i default).dst.toNat 0-(l.getD i default).coins)))] (ap ((zAy rfl ?_):I (IntKind.i64.wrap ((o.set (l.getD i default).src.toNat (o.getD (l.getD i default).src.toNat 0+(l.getD i default).coins)).getD (l.getD i default).dst.toNat 0-(l.getD i default).coins))=I ((o.set (l.getD i default).src.toNat (o.getD (l.getD i default).src.toNat 0+(l.getD i default).coins)).getD (l.getD i default).dst.toNat 0-(l.getD i default).coins)) an) (S_a [(0,.ob),(1,.ob),(1,.n ((l.getD i default).dst.toNat))] (ap (?_:decide (0≤(l.getD i default).dst)=true) (ap (?_:decide ((l.getD i default).dst.toNat<(List.map I (o.set (l.getD i default).src.toNat (o.getD (l.getD i default).src.toNat 0+(l.getD i default).coins))).length)=true) (ap ((by simp):some (0+(l.getD i default).dst.toNat)=some (l.getD i default).dst.toNat) an))) (S_a [(8,.root (PV.own 1 (List.map I ((o.set (l.getD i default).src.toNat (o.getD (l.getD i default).src.toNat 0+(l.getD i default).coins)).set (l.getD i default).dst.toNat ((o.set (l.getD i default).src.toNat (o.getD (l.getD i default).src.toNat 0+(l.getD i default).coins)).getD (l.getD i default).dst.toNat 0-(l.getD i default).coins)))) true)] (ap (zLc (zAR (0) ?_) zDz:zA4 (PV.own 1 (List.map I (o.set (l.getD i default).src.toNat (o.getD (l.getD i default).src.toNat 0+(l.getD i default).coins)))) [] (l.getD i default).dst.toNat 0 (I ((o.set (l.getD i default).src.toNat (o.getD (l.getD i default).src.toNat 0+(l.getD i default).coins)).getD (l.getD i default).dst.toNat 0-(l.getD i default).coins)).cells=some (PV.own 1 (List.map I ((o.set (l.getD i default).src.toNat (o.getD (l.getD i default).src.toNat 0+(l.getD i default).coins)).set (l.getD i default).dst.toNat ((o.set (l.getD i default).src.toNat (o.getD (l.getD i default).src.toNat 0+(l.getD i default).coins)).getD (l.getD i default).dst.toNat 0-(l.getD i default).coins))))∧zAq (PV.own 1 (List.map I (o.set (l.getD i default).src.toNat (o.getD (l.getD i default).src.toNat 0+(l.getD i default).coins)))) (PV.own 1 (List.map I ((o.set (l.getD i default).src.toNat (o.getD (l.getD i default).src.toNat 0+(l.getD i default).coins)).set (l.getD i default).dst.toNat ((o.set (l.getD i default).src.toNat (o.getD (l.getD i default).src.toNat 0+(l.getD i default).coins)).getD (l.getD i default).dst.toNat 0-(l.getD i default).coins)))) []=true) an) (zAc (zAa (S_a [(1,.v (I (↑(i+1):Int)))] (ap ((zAy (by omega) (by omega)):I (IntKind.i64.wrap ((↑i:Int)+1))=I (↑(i+1):Int)) an) (zAe 1 (zAc ?_)))))))))))))))))))))))))))))))))))))))))))))))))))))))))))))))
    all_goals (exfalso;apply jQ;unfold zFg;simp only [Bool.not_eq_false',Bool.not_eq_true',Bool.and_eq_true,decide_eq_true_eq] at k0 k1 k2 k3;omega)
  ·have hie:i=l.length:=by omega
   have yK:zDl bal l=o.all fun x=>decide (x=0):=by
    rw [ho,zSs,hie,List.take_of_length_le (Nat.le_refl _)]
    have:l.all (zPq bal.length)=true:=zNy (d:=default) fun j wo=>zGC.2 (hj j (by omega))
    simp only [zDl,hb,if_true,zKk,this,Bool.true_and]
   rw [yK]
   refine zAb (zAa (zAe 1 (zAc (zAb (zBo ((↑i:Int)<(↑l.length:Int)) (by omega) (zA9 0 (zAb (zAa (zAe 1 (S_a [(3,.ob),(0,.v (PV.sl (List.map I o))),(3,.ret (PV.bool (o.all fun x=>decide (x=0))) ([]))] (ap ((by exact zAs (by simp only [List.length_map,zzLn,zAv]<;>omega)):(0+(List.map I o).length).ble (List.map I o).length=true) (ap ((zB6 (zAM (zAE _))):PV.sl (zAr (List.take (List.map I o).length (List.drop 0 (List.map I o))))=PV.sl (List.map I o)) (ap (f79_7 (o) (by omega)) an))) (zAe 2 (zAc (zAD (E_a [] an (PV.tup [PV.bool (o.all fun x=>decide (x=0)),I 0]) ([]) rfl rfl))))))))))))))
 ·have hv:zDl bal l=false:=by simp only [zDl,hb,if_false]
  rw [hv]
  refine zAi Try.f45 ?_
  refine zAb (zAa (zAe 2 (zAc (zAb (zAb (zAa (zAe 1 (S_a [(6,.ret (I (zBe bal)) ([]))] (ap (f108 (bal) (by omega)) an) (zAe 1 (zAc (zAb (zAa (zAe 2 (zAc (zEb (zBe bal=0) (by omega) (zAb (zAa (zAe 3 (zAc (zAD (E_a [] an (PV.tup [PV.bool false,I (zBe bal)]) ([]) rfl rfl)))))))))))))))))))))
end
end Go.Eng
namespace Go.Eng
open Go
theorem zTG (x:PV) (h:zDX [.num .i64,.num .i64,.num .i64] x.cells) (ha:x.isAgg=true):∃ r:Pay,x=zA1 r∧True:=by
 obtain ⟨p1,q1,hc,⟨w,rfl,_⟩,p2,q2,rfl,⟨s,rfl,_⟩,p3,q3,rfl,⟨u,rfl,_⟩,h4⟩:=h
 simp only [zDX] at h4;subst h4
 exact ⟨⟨w,s,u⟩,by rw [zVu ha,hc],trivial⟩
theorem zTH {p:PV} (h:zTq (false,[.list true [.num .i64,.num .i64,.num .i64]]) p):∃ l:List Pay,p = .sl (l.map zA1)∧l.length≤maxLen:=by
 obtain ⟨l,h1,h2,_⟩:=zT0 (enc:=zA1) zTG h
 exact ⟨l,h1,h2⟩
end Go.Eng
set_option maxRecDepth 10000
set_option maxHeartbeats 4000000
namespace Go.Eng
open Go Go.Proofs
abbrev zUp (l:List (List Int)):PV := .sl (l.map zB2)
structure OkG (bal g:List Int):Prop where
 rng:∀ p∈g,0≤p∧p<bal.length
 len:g.length≤8
theorem zJb {bal g:List Int} {i:Nat} (h:i<g.length):zC5 bal (g.take (i+1))=zC5 bal (g.take i)+bal.getD (g.getD i 0).toNat 0:=by
 rw [List.take_add_one,List.getElem?_eq_getElem h,zAC h]
 simp only [zC5,List.map_append,List.sum_append,Option.toList,List.map_cons,List.map_nil,List.sum_cons,List.sum_nil,zBU];omega
theorem zML {bal g:List Int} (hb:∀ x∈bal,-100000≤x∧x≤100000) : -(100000*(g.length:Int))≤zC5 bal g∧zC5 bal g≤100000*g.length:=by
 induction g with
 | nil=>simp [zC5]
 | cons x g ih =>
  have:=zOE hb x
  simp only [zC5,List.map_cons,List.sum_cons,List.length_cons] at ih ⊢
  omega
section
variable [Yo]
theorem f137 (bal g:List Int) (hb:∀ x∈bal,-100000≤x∧x≤100000) (hg:OkG bal g):FG 137 [zB2 g,.ref (zB2 bal)] (.bool (decide (zC5 bal g=0))):=by
 have uo:=hg.len
 refine zAi Try.f137 ?_
 refine zAb (zAa (zAe 1 (zAc (zAb (zAa (zAe 1 (zAc (zAb (zAb (zAa (zAe 1 (S_a [(0,.n (g.length))] (ap ((by simp):some (List.map I g).length=some g.length) an) (zAe 1 (zAc (zAj 0 ?_)))))))))))))))
 refine zAX (fun (i,n)=>i≤g.length∧n=zC5 bal (g.take i)) (fun (i,n)=>[(4,I n),(9,I (i:Nat))]) (fun (i,_)=>g.length-i) ((0:Nat),(0:Int)) ⟨Nat.zero_le _,rfl⟩ fun (i,n) ⟨hi,hn⟩=>?_
 have uC:=zML (g:=g.take i) hb
 rw [← hn,List.length_take] at uC
 by_cases yU:i<g.length
 ·have hp:=zBI hg.rng i yU
  have hx:=zBI hb (g.getD i 0).toNat (by omega)
  have jU:=zJb (bal:=bal) yU
  rw [← hn] at jU
  refine zAb (zAa (zAe 1 (zAc (zAb (zA6 ((↑i:Int)<(↑g.length:Int)) (by omega) (zAl (zAb (zAj 1 (zAb (zAa (S_a [(2,.v (I (g.getD i 0)))] (ap (zAR (0) (by omega):(List.map I g)[i]? = some (I (g.getD i 0))) an) (zAe 2 (zAc (zAa (zAe 3 (S_a [(0,.ob),(1,.v (I (bal.getD (g.getD i 0).toNat 0)))] (ap ((by exact zAp (by omega)):decide (0≤g.getD i 0)=true) (ap (zAR (0) (by omega):(List.map I bal)[(g.getD i 0).toNat]? = some (I (bal.getD (g.getD i 0).toNat 0))) an)) (zAe 1 (S_a [(1,.v (I (n+bal.getD (g.getD i 0).toNat 0)))] (ap ((zAy rfl (by omega)):I (IntKind.i64.wrap (n+bal.getD (g.getD i 0).toNat 0))=I (n+bal.getD (g.getD i 0).toNat 0)) an) (zAe 1 (zAc (zAa (S_a [(1,.v (I (↑(i+1):Int)))] (ap ((zAy (by omega) (by omega)):I (IntKind.i64.wrap ((↑i:Int)+1))=I (↑(i+1):Int)) an) (zAe 1 (zAc ?_))))))))))))))))))))))))
  exact ⟨(i+1,_),⟨by omega,jU.symm⟩,by simp only;omega,by kernel_rfl,by kernel_rfl⟩
 ·rw [hn,List.take_of_length_le (by omega)]
  refine zAb (zAa (zAe 1 (zAc (zAb (zBo ((↑i:Int)<(↑g.length:Int)) (by omega) (zA9 0 (zAb (zAa (zAe 3 (zAc (zAD (E_a [] an (PV.bool (zC5 bal g==0)) ([]) rfl rfl))))))))))))
theorem f145_8 (bal g:List Int) (hb:∀ x∈bal,-100000≤x∧x≤100000) (hg:OkG bal g):FG 145 [zB2 g,.ref (.func 137 [] [.ref (zB2 bal)])] (.bool (!(decide (zC5 bal g=0)))):=by
 refine zAi Try.f145 ?_
 refine zAb (zAa (zAe 1 (zAc (zAb (zAa (zAe 2 (S_a [(7,.ret (PV.bool (decide (zC5 bal g=0))) ([]))] (ap (f137 (bal) (g) (by omega) (by omega)) an) (zAe 2 (zAc (zAD (E_a [] an (PV.bool !decide (zC5 bal g=0)) ([]) rfl rfl)))))))))))
theorem f148_8 (bal:List Int) (l:List (List Int)) (hb:∀ x∈bal,-100000≤x∧x≤100000) (hg:∀ g∈l,OkG bal g) (hl:l.length≤8):FG 148 [zUp l,.func 145 [] [.ref (.func 137 [] [.ref (zB2 bal)])]] (I (zHD (fun g => !(decide (zC5 bal g=0))) l)):=by
 refine zAi Try.f148 ?_
 refine zAb (zAa (zAe 1 (zAc (zAb (zAb (zAa (zAe 1 (S_a [(0,.n (l.length))] (ap ((by simp):some (List.map zB2 l).length=some l.length) an) (zAe 1 (zAc (zAj 0 ?_)))))))))))
 refine zAX (fun i=>i≤l.length∧∀ j,j<i→(fun g => !(decide (zC5 bal g=0))) (l.getD j [])=false) (fun i=>[(8,I (i:Nat))]) (fun i=>l.length-i) (0:Nat) (by simp) fun i ⟨hi,ha⟩=>?_
 by_cases yU:i<l.length
 ·have hgi:OkG bal (l.getD i []):=by rw [zAC yU];exact hg _ (List.getElem_mem _)
  have h145:=f145_8 bal (l.getD i []) hb hgi
  refine zAb (zAa (zAe 1 (zAc (zAb (zA6 ((↑i:Int)<(↑l.length:Int)) (by omega) (zAl (zAb (zAj 1 (zAb (zAa (zAe 2 (zAc (zAb (zAa (zAe 3 (S_a [(2,.v (PV.sl (List.map I (l.getD i []))))] (ap (zAR ([]) (by omega):(List.map zB2 l)[i]? = some (PV.sl (List.map I (l.getD i [])))) an) (zAe 1 (S_a [(7,.ret (PV.bool !decide (zC5 bal (l.getD i [])=0)) ([]))] (ap (h145) an) (zAc (zFd (zC5 bal (l.getD i [])=0) (fun k0=>(zAb (zAa (zAe 2 (zAc (zAD (E_a [] an (I (↑i:Int)) ([]) ?_ rfl))))))) (fun k0=>(zAl (zAa (S_a [(1,.v (I (↑(i+1):Int)))] (ap ((zAy (by omega) (by omega)):I (IntKind.i64.wrap ((↑i:Int)+1))=I (↑(i+1):Int)) an) (zAe 1 (zAc ?_))))))))))))))))))))))))))
  ·rw [zDv (i:=i) (by omega) (fun j hj=>by rw [← zAC (d:=[])];exact ha j hj) (by rw [← zAC (d:=[])];simp only [Bool.not_eq_true',decide_eq_false_iff_not];assumption)]
  ·refine ⟨i+1,⟨by omega,fun j hj=>?_⟩,by omega,by kernel_rfl,by kernel_rfl⟩
   rcases Nat.lt_succ_iff_lt_or_eq.1 hj with h | rfl
   ·exact ha j h
   ·simp only [Bool.not_eq_false',decide_eq_true_eq];assumption
 ·rw [zD3 fun j hj=>by rw [← zAC (d:=[])];exact ha j (by omega)]
  refine zAb (zAa (zAe 1 (zAc (zAb (zBo ((↑i:Int)<(↑l.length:Int)) (by omega) (zA9 0 (zAb (zAa (zAe 1 (zAc (zAD (E_a [] an (I (-1)) ([]) rfl rfl))))))))))))
theorem f144_8 (bal:List Int) (l:List (List Int)) (hb:∀ x∈bal,-100000≤x∧x≤100000) (hg:∀ g∈l,OkG bal g) (hl:l.length≤8):FG 144 [zUp l,.func 145 [] [.ref (.func 137 [] [.ref (zB2 bal)])]] (.bool (l.any (fun g => !(decide (zC5 bal g=0))))):=by
 have h:=f148_8 bal l hb hg hl
 refine zAi Try.f144 ?_
 refine zAb (zAa (zAe 1 (zAc (zAb (zAa (zAe 2 (S_a [(7,.ret (I (zHD (fun g => !decide (zC5 bal g=0)) l)) ([]))] (ap (h) an) (zAe 2 (zAc (zAD (E_a [] an (PV.bool (decide (zHD (fun g => !decide (zC5 bal g=0)) l≥0))) ([]) ?_ rfl)))))))))))
 rw [zGt]
theorem f136_8 (bal:List Int) (l:List (List Int)) (hb:∀ x∈bal,-100000≤x∧x≤100000) (hg:∀ g∈l,OkG bal g) (hl:l.length≤8):FG 136 [zUp l,.func 137 [] [.ref (zB2 bal)]] (.bool (zGP bal l)):=by
 have h:=f144_8 bal l hb hg hl
 refine zAi Try.f136 ?_
 refine zAb (zAa (zAe 2 (zAc (zAb (zAa (zAe 2 (S_a [(12,.ret (PV.bool (l.any fun g => !decide (zC5 bal g=0))) ([]))] (ap (h) an) (zAe 2 (zAc (zAD (E_a [] an (PV.bool !l.any fun g => !decide (zC5 bal g=0)) ([]) ?_ rfl)))))))))))
 simp [zGP,List.not_any_eq_all_not]
end
end Go.Eng
