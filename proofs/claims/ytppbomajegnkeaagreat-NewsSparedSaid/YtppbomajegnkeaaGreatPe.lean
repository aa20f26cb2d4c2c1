/- For all numbers, cries, which and when the law NewsSpared ends in true: without a cry that is told all yn hold the same, without another one some hold something else; without conditions. -/
import Derived.Test.YtppbomajegnkeaaGreatPd
import Derived.ProofKit
import Derived.ChangeArms
import Derived.Test.YtppbomajegnkeaaGreatProg
import Derived.Shelf.Sort.Plain
import Derived.Shelf.Slices.In.SortNone
import Derived.Test.YtppbomajegnkeaaGreatPa
import Derived.Test.YtppbomajegnkeaaGreatRows
set_option linter.unusedVariables false
set_option linter.unusedSimpArgs false
set_option linter.unusedSectionVars false
namespace Go.Eng
open Go Go.ChangeShapes Go.WideShapes Go.ChangeAt Go.RowKit
section
variable {H:Type} {enc:TypeId×Value→H} {P:Program}
theorem zNB {f:Func} {s:ChangeSpec} {apart fresh jX again:Bool} {W W':World} {args:Array Value} {v:Value} {ds gs:List (DataW H)} {before pa pv:List MemPlace}
  (hW:DataW.Whole enc P f.params.toList s.vars apart W args.toList ds gs before)
  (yc:∀ (b:Nat) (sp:Nat→Bool) (hd:Bool),DataW.TrodAll enc P W' b sp hd f.resultTypes.toList (v.resultList f.resultTypes.size) (s.fn H (ds++gs)).results [])
  (yL:∀ sp:Nat→Bool,(∀ p∈before,sp p.block=true)→DataW.TrodAll enc P W' 0 sp true f.params.toList args.toList (s.fn H (ds++gs)).args pa)
  (jm:∀ sp:Nat→Bool,(∀ p∈before,sp p.block=true)→DataW.TrodVars enc P W' sp s.vars (s.fn H (ds++gs)).vars pv)
  (y1:before=pa++pv) (hold':∀ b,b<W.heap.size→W'.heap[b]? = W.heap[b]?) (hk:W.keptBut W' (· ∈ before))
  (yH:∀ (j:Nat) (t:TypeId) (r:Value),f.resultTypes[j]? = some t→(v.resultList f.resultTypes.size)[j]? = some r→Value.okWide P W' .any 0 t r) :
  s.post enc P f apart fresh jX again W args v W':=by
 have yK:=hW.lt
 have hold:∀ p∈before,(fun b=>decide (b<W.heap.size)) p.block=true:=fun p hp=>by simpa using yK p hp
 refine ⟨ds,gs,before,[],pa,pv,hW,yc _ _ _,yL _ hold,jm _ hold,World.keptBut_mono (fun p hp=>⟨hp,?_⟩) hk,fun _=>?_⟩
 ·rw [y1,List.mem_append] at hp
  exact Or.inr hp
 ·obtain ⟨_,_,_,_,_,hz,hn⟩:=hW
  refine ⟨yH,_,_,([]++pa)++pv,⟨[]++pa,pv,trodAll_append (yL _ (fun _ _=>rfl)) (yc _ _ _),jm _ (fun _ _=>rfl),rfl,?_,?_⟩,?_⟩
  ·intro b off hp
   have jh:MemPlace.cell b off∈before:=by rw [y1];simpa using hp
   have h1:=hz b off jh
   have h2:=yK _ jh
   unfold World.frozen? at h1 ⊢
   rw [hold' b h2];exact h1
  ·intro ha
   have:=hn ha
   rw [y1] at this
   simpa using this
  ·intro p hp _
   rw [y1]
   simpa using hp
theorem zHa {W W':World} {sp':Nat→Bool} (hl:laidOutB P=true) (hb:Below W.heap.size W W'):∀ {ts:List TypeId} {vs:List Value} {ds:List (DataW H)} {ps:List MemPlace},(∀ t∈ts,P.readableRec t=true∧t<P.types.size)→DataW.TrodAll enc P W 0 (fun _=>true) true ts vs ds ps→(∀ x∈ps,x.block<W.heap.size)→(∀ x∈ps,sp' x.block=true) →
  DataW.TrodAll enc P W' 0 sp' true ts vs ds ps
 | [],vs,ds,ps,_,h,_,_=>by
  obtain ⟨rfl,rfl,rfl⟩:=trodAll_nil h
  exact trodAll_mk0
 | t::ts,vs,ds,ps,ht,h,yK,hs=>by
  obtain ⟨v,vs',d,ds',p,q,rfl,rfl,rfl,h1,h2⟩:=trodAll_cons h
  exact ⟨p,q,WideElems.Trod_stays hl (ht t (by simp)).1 (ht t (by simp)).2 h1 (fun x hx=>hb.same (yK x (by simp [hx]))) (fun x hx=>hs x (by simp [hx])),zHa hl hb (fun t h=>ht t (by simp [h])) h2 (fun x hx=>yK x (by simp [hx])) (fun x hx=>hs x (by simp [hx])),rfl⟩
theorem zTw {f:Func} {s:ChangeSpec} {apart fresh jX again:Bool} {W W':World} {args:Array Value} {ds:List (DataW H)} {before:List MemPlace} {tb:TypeId} (hl:laidOutB P=true) (jm:s.vars=[]) (htb:P.underlying tb=some .bool) (wg:f.resultTypes=#[tb]) (ut:∀ t∈f.params.toList,P.readableRec t=true∧t<P.types.size)
  (kT:s.fn H ds={results:=[.lit (.bool true)],args:=ds}) (hW:DataW.Whole enc P f.params.toList s.vars apart W args.toList ds [] before)
  (h1:W.heap.size≤W'.heap.size) (h2:∀ b,b<W.heap.size→W'.heap[b]? = W.heap[b]?) (h3:W'.os=W.os) (h4:W'.tape=W.tape) (h5:W'.output=W.output):s.post enc P f apart fresh jX again W args (.bool true) W':=by
 have yK:=hW.lt
 have hb:Below W.heap.size W W':=⟨h3,h4,h5,h1,h2⟩
 obtain ⟨pa,pv,hA,hV,y1,hz,hn⟩:=id hW
 have hpv:pv=[]:=by
  rw [jm] at hV
  exact (trodVars_none hV).2
 subst hpv
 have hrl:(Value.bool true).resultList f.resultTypes.size=[.bool true]:=by rw [wg];rfl
 have gw:s.fn H (ds++[])={results:=[.lit (.bool true)],args:=ds}:=by rw [List.append_nil];exact kT
 have wu:∀ x∈pa,x.block<W.heap.size:=fun x hx=>yK x (by rw [y1];simp [hx])
 refine zNB (pa:=pa) (pv:=[]) hW (fun b sp hd=>?_) (fun sp y4=>?_) (fun sp y4=>?_) y1 h2 ?_ ?_
 ·rw [hrl,wg,gw];exact trodAll_mk1 (shut_bool htb true)
 ·rw [gw];exact zHa hl hb ut hA wu (fun x hx=>y4 x (by rw [y1];simp [hx]))
 ·rw [jm,gw];rfl
 ·refine ⟨h3,h5,fun i hi=>?_⟩
  rw [h2 i hi]
  cases W.heap[i]? with
  | none=>rfl
  | some o=>cases o<;>first | exact ⟨rfl,rfl,rfl,fun _ _=>rfl⟩ | exact .inr ⟨rfl,rfl⟩ | rfl
 ·exact ok_one wg rfl (okWide_bool_mk htb true)
end
end Go.Eng
namespace Go.Eng
open Go
section
variable {w:World} {Φ:Nat→Prop} {A:Al}
end
end Go.Eng
namespace Go.Eng
open Go
section
variable {P:Program} {H:zBh}
theorem zSC {f:FuncId} {fn:Func} (h:P.funcs[f]? = some fn):fn∈P.funcs.toList:=by
 rw [← Array.getElem?_toList] at h
 exact List.mem_of_getElem? h
theorem zIx (h : (P.funcs.toList.all fun fn => !(fn.name == "runtime.NumGoroutine")) = true) : zER P := fun f fn hf => by
  have:=List.all_eq_true.1 h fn (zSC hf)
  simpa using this
theorem zW4 (h:((List.range P.funcs.size).all fun f=>bif Nat.beq (H f).intr 0 then (match P.funcs[f]? with
  | some fn=>zVo P fn
  | none=>true) else true)=true):Fit P H:=fun f fn hf hi=>by
 have yK:=(Array.getElem?_eq_some_iff.1 hf).1
 have:=List.all_eq_true.1 h f (List.mem_range.2 yK)
 rw [hi,hf] at this
 exact this
end
end Go.Eng
namespace Go.Eng
open Go Go.ChangeShapes Go.WideShapes Go.ChangeAt Go.RowKit
inductive Sh where
 | num (k:IntKind)
 | bool
 | list (ag:Bool) (parts:List Sh)
mutual
def zX5:Sh→PV→Prop
 | .num k,p=>∃ n,p = .int k n∧k.min≤n∧n≤k.max
 | .bool,p=>∃ b,p = .bool b
 | .list ag ss,p=>∃ xs,p = .sl xs∧xs.length≤maxLen∧∀ x∈xs,zEe ss x.cells∧x.isAgg=ag
def zEe:List Sh→List PV→Prop
 | [],ps=>ps=[]
 | s::ss,ps=>∃ p qs,ps=p::qs∧zX5 s p∧zEe ss qs
end
def zWl (P:Program) (t:TypeId):Bool :=
 match P.underlying t with
 | some (.struct _)=>true
 | some (.array ..)=>true
 | _=>false
def zXO (P:Program) (t:TypeId):Bool :=
 match P.underlying t with
 | some (.struct _)=>true
 | _=>false
def zHm (P:Program) (sh:TypeId→Option (List Sh)) (n:Nat):List Field→Nat→Option (List Sh)
 | [],off=>if off=n then some [] else none
 | f::fs,off=>if f.offset=off then match sh f.type with
  | some a=>if a.length=P.cellsOf f.type then (zHm P sh n fs (off+P.cellsOf f.type)).map (a++·) else none
  | none=>none else none
def zDi (P:Program):Nat→TypeId→Option (List Sh)
 | 0,_=>none
 | n + 1,t=>match P.underlying t with
  | some (.int k)=>some [.num k]
  | some .bool=>some [.bool]
  | some (.slice e)=>match zDi P n e with
   | some ss=>if ss.length=P.cellsOf e∧0<ss.length∧(zWl P e=true∨ss.length=1) then some [.list (zWl P e) ss] else none
   | none=>none
  | some (.struct fs)=>zHm P (zDi P n) (P.cellsOf t) fs.toList 0
  | some (.array m e)=>match zDi P n e with
   | some es=>if P.cellsOf t=m*P.cellsOf e then some (List.replicate m es).flatten else none
   | none=>none
  | _=>none
section
variable {H:Type} {enc:TypeId×Value→H} {P:Program} {w:World} {spare:Nat→Bool} {uG:Bool} {Φ:Nat→Prop} {base:Nat}
theorem zEe.app:∀ {a b:List Sh} {p q:List PV},zEe a p→zEe b q→zEe (a++b) (p++q)
 | [],b,p,q,h1,h2=>by simp only [zEe] at h1;subst h1;exact h2
 | s::a,b,p,q,h1,h2=>by
  obtain ⟨x,xs,rfl,h3,h4⟩:=h1
  exact ⟨x,xs++q,rfl,h3,zEe.app h4 h2⟩
theorem zEe.length:∀ {a:List Sh} {p:List PV},zEe a p→p.length=a.length
 | [],p,h=>by simp only [zEe] at h;subst h;rfl
 | s::a,p,h=>by
  obtain ⟨x,xs,rfl,_,h4⟩:=h
  simp [zEe.length h4]
theorem zMW {sh:TypeId→Option (List Sh)} {N n:Nat} {cs:List Value} (j7:cs.length=N) (ih:∀ t (vs:List Value) x ss,sh t=some ss→DataW.trod enc P w 0 spare uG n t vs=some x→∃ ps,zEe ss ps∧zA2 w Φ zCe ps vs []) :
  ∀ (fs:List Field) (off:Nat) (ss:List Sh),zHm P sh N fs off=some ss→(∀ f∈fs,∃ y,DataW.trod enc P w 0 spare uG n f.type ((cs.drop f.offset).take (P.cellsOf f.type))=some y)→off≤N→∃ ps,zEe ss ps∧zA2 w Φ zCe ps (cs.drop off) []
 | [],off,ss,h,_,yN=>by
  simp only [zHm] at h
  split at h
  ·rename_i he
   cases h
   exact ⟨[],rfl,by rw [List.drop_eq_nil_of_le (by omega)];exact ⟨rfl,rfl⟩⟩
  ·cases h
 | f :: fs,off,ss,h,hf,yN=>by
  simp only [zHm] at h
  split at h
  ·rename_i ho
   cases hs:sh f.type with
   | none=>rw [hs] at h;cases h
   | some a =>
    rw [hs] at h;simp only at h
    split at h
    ·rename_i uW
     obtain ⟨b,hb,rfl⟩:=Option.map_eq_some_iff.1 h
     obtain ⟨y,hy⟩:=hf f (by simp)
     rw [ho] at hy
     obtain ⟨ps,h1,h2⟩:=ih _ _ _ _ hs hy
     have hl:=h2.length
     have uu:=h1.length
     simp only [List.length_take,List.length_drop] at hl
     have gS:off+P.cellsOf f.type≤N:=by omega
     obtain ⟨qs,h3,h4⟩:=zMW j7 ih fs _ b hb (fun g hg=>hf g (by simp [hg])) gS
     refine ⟨ps++qs,h1.app h3,?_⟩
     have:=h2.append h4
     rw [← List.drop_drop,List.take_append_drop] at this
     exact this
    ·cases h
  ·cases h
theorem zRL {s:Nat} {ag:Bool} {ss:List Sh} (hs:0<s) (jb:ag=true∨s=1):∀ (len:Nat) (c:List Value),c.length=len*s→(∀ i,i<len→∃ ps,zEe ss ps∧ps.length=s∧zA2 w Φ zCe ps ((c.drop (i*s)).take s) []) →
  ∃ (xs:List PV) (us:List Value),xs.length=len∧(∀ x∈xs,zEe ss x.cells∧x.isAgg=ag∧x.cells.length=s)∧(∀ u∈us,u.cells.size=s)∧us.map zCi=xs.map PV.isAgg∧c=flat us∧zA2 w Φ zCe xs us []
 | 0,c,hc,_=>⟨[],[],rfl,by simp,by simp,rfl,by rw [Nat.zero_mul] at hc;rw [List.eq_nil_of_length_eq_zero hc];rfl,rfl,rfl⟩
 | len + 1,c,hc,h=>by
  obtain ⟨ps,h1,h2,h3⟩:=h 0 (by omega)
  simp only [Nat.zero_mul,List.drop_zero] at h3
  have yO:(c.take s).length=s:=by simp;rw [hc,Nat.add_mul];omega
  obtain ⟨xs,us,g1,g2,g3,g4,g5,g6⟩:=zRL hs jb len (c.drop s) (by simp [hc,Nat.add_mul]) (fun i hi=>by
   obtain ⟨ps,h1,h2,h3⟩:=h (i+1) (by omega)
   refine ⟨ps,h1,h2,?_⟩
   rw [List.drop_drop,show s+i*s=(i+1)*s by rw [Nat.add_mul];omega];exact h3)
  have jE:c=c.take s++c.drop s:=(List.take_append_drop s c).symm
  cases ag with
  | true =>
   refine ⟨.agg ps::xs,.agg (c.take s).toArray::us,by simp [g1],fun x hx=>?_,fun u hu=>?_,by simp [zCi,PV.isAgg,g4],?_,⟨_,us,[],[],rfl,rfl,⟨_,rfl,by simpa using h3⟩,g6⟩⟩
   ·rcases List.mem_cons.1 hx with rfl | hx
    ·exact ⟨h1,rfl,h2⟩
    ·exact g2 x hx
   ·rcases List.mem_cons.1 hu with rfl | hu
    ·simpa [Value.cells] using yO
    ·exact g3 u hu
   ·conv=>lhs;rw [jE]
    rw [g5];rfl
  | false =>
   have ui:s=1:=by
    rcases jb with h | h
    ·cases h
    ·exact h
   subst ui
   obtain ⟨p,rfl⟩:=List.length_eq_one_iff.1 h2
   obtain ⟨u,hu⟩:=List.length_eq_one_iff.1 yO
   rw [hu] at h3 jE
   obtain ⟨u',us',L1,L2,he,hL,h4,h5⟩:=h3
   cases he
   obtain ⟨rfl,rfl⟩:=List.append_eq_nil_iff.1 hL.symm
   have yM:p.isAgg=false∧p.cells=[p]∧u.cells=#[u]∧zCi u=false:=by
    obtain ⟨p',qs,hp,hfp,_⟩:∃ p' qs,[p]=p'::qs∧(∃ s,zX5 s p')∧True:=by
     cases ss with
     | nil=>simp only [zEe] at h1;cases h1
     | cons s ss=>obtain ⟨x,xs,h6,h7,_⟩:=h1;exact ⟨x,xs,h6,⟨s,h7⟩,trivial⟩
    cases hp
    obtain ⟨s,hfp⟩:=hfp
    cases s with
    | num k=>obtain ⟨n,rfl,_⟩:=hfp;obtain ⟨rfl,_⟩:=h4;exact ⟨rfl,rfl,rfl,rfl⟩
    | bool=>obtain ⟨n,rfl⟩:=hfp;obtain ⟨rfl,_⟩:=h4;exact ⟨rfl,rfl,rfl,rfl⟩
    | list ag' ss' =>
     obtain ⟨ys,rfl,_⟩:=hfp
     obtain ⟨_,⟨_,a,n,rfl,_⟩ | ⟨a,n,c',us',sz,rfl,_⟩⟩:=h4<;>exact ⟨rfl,rfl,rfl,rfl⟩
   refine ⟨p::xs,u::us,by simp [g1],fun x hx=>?_,fun v hv=>?_,by simp [yM.1,yM.2.2.2,g4],?_,⟨u,us,[],[],rfl,rfl,h4,g6⟩⟩
   ·rcases List.mem_cons.1 hx with rfl | hx
    ·rw [yM.2.1];exact ⟨h1,yM.1,rfl⟩
    ·exact g2 x hx
   ·rcases List.mem_cons.1 hv with rfl | hv
    ·rw [yM.2.2.1];rfl
    ·exact g3 v hv
   ·conv=>lhs;rw [jE]
    rw [g5];simp only [flat,List.flatMap_cons,yM.2.2.1]
theorem zS5 {n:Nat} {e t:TypeId} {fuel:Nat} {cs:List Value} {x:DataW H×List MemPlace} (ht:P.underlying t=some (.array n e)) (h:DataW.trod enc P w base spare uG fuel t cs=some x) :
  ∃ (xs:List (DataW H×List MemPlace)) (m:Nat),cs.length=P.cellsOf t∧xs.length=n∧∀ (i:Nat),i<n→DataW.trod enc P w base spare uG m e ((cs.drop (i*P.cellsOf e)).take (P.cellsOf e))=xs[i]?:=by
 cases fuel with
 | zero=>simp [DataW.trod] at h
 | succ m =>
  unfold DataW.trod at h
  rw [ht] at h
  split at h<;>simp_all
  obtain ⟨hl,xs,hp,hd⟩:=h
  exact ⟨xs,by simpa using mapM_some_length hp,m,fun i hi=>mapM_some_get hp i i (by simp [hi])⟩
theorem zUw {s:Nat} {es:List Sh}:∀ (n:Nat) (c:List Value),c.length=n*s→(∀ i,i<n→∃ ps,zEe es ps∧zA2 w Φ zCe ps ((c.drop (i*s)).take s) [])→∃ ps,zEe (List.replicate n es).flatten ps∧zA2 w Φ zCe ps c []
 | 0,c,hc,_=>⟨[],rfl,by rw [Nat.zero_mul] at hc;rw [List.eq_nil_of_length_eq_zero hc];exact ⟨rfl,rfl⟩⟩
 | n + 1,c,hc,h=>by
  obtain ⟨ps,h1,h2⟩:=h 0 (by omega)
  simp only [Nat.zero_mul,List.drop_zero] at h2
  obtain ⟨qs,h3,h4⟩:=zUw (s:=s) n (c.drop s) (by simp [hc,Nat.add_mul]) fun i hi=>by
   obtain ⟨ps,h1,h2⟩:=h (i+1) (by omega)
   refine ⟨ps,h1,?_⟩
   rw [List.drop_drop,show s+i*s=(i+1)*s by rw [Nat.add_mul];omega];exact h2
  refine ⟨ps++qs,?_,?_⟩
  ·rw [List.replicate_succ,List.flatten_cons];exact h1.app h3
  ·have:=h2.append h4
   rw [List.take_append_drop] at this
   exact this
theorem zLK : ∀ (n m:Nat) (t:TypeId) (vs:List Value) (x:DataW H×List MemPlace) (ss:List Sh),zDi P n t=some ss→DataW.trod enc P w 0 spare uG m t vs=some x→∃ ps,zEe ss ps∧zA2 w (fun b=>b<w.heap.size) zCe ps vs []
 | 0,m,t,vs,x,ss,h,_=>by cases h
 | n + 1, m, t,vs,x,ss,h,hx=>by
  simp only [zDi] at h
  split at h
  ·rename_i k ht
   cases h
   obtain ⟨i,rfl,_,hw⟩:=DataW.trod_int ht hx
   simp only [Lit.wf,Bool.and_eq_true,decide_eq_true_eq] at hw
   exact ⟨[.int k i],⟨_,[],rfl,⟨i,rfl,hw.1,hw.2⟩,rfl⟩,_,_,[],[],rfl,rfl,⟨rfl,rfl⟩,rfl,rfl⟩
  ·rename_i ht
   cases h
   obtain ⟨b,rfl,_⟩:=DataW.trod_bool ht hx
   exact ⟨[.bool b],⟨_,[],rfl,⟨b,rfl⟩,rfl⟩,_,_,[],[],rfl,rfl,⟨rfl,rfl⟩,rfl,rfl⟩
  ·rename_i e ht
   cases jc:zDi P n e with
   | none=>rw [jc] at h;cases h
   | some es =>
    rw [jc] at h;simp only at h
    split at h
    ·rename_i hc
     cases h
     obtain ⟨jV,jE,uY⟩:=hc
     rcases DataW.trod_slice ht hx with ⟨rfl,_⟩ | ⟨a,len,cap,zYb,rest,k,_,rfl,_,_,wC,hcm,y5,kJ,_⟩
     ·exact ⟨[.sl []],⟨_,[],rfl,⟨[],rfl,Nat.zero_le _,by simp⟩,rfl⟩,_,_,[],[],rfl,rfl,⟨rfl,.inl ⟨rfl,_,_,rfl,fun _=>rfl⟩⟩,rfl,rfl⟩
     ·by_cases h0:len=0
      ·subst h0
       exact ⟨[.sl []],⟨_,[],rfl,⟨[],rfl,Nat.zero_le _,by simp⟩,rfl⟩,_,_,[],[],rfl,rfl,⟨rfl,.inl ⟨rfl,_,_,rfl,fun h=>by cases h⟩⟩,rfl,rfl⟩
      have zBg:∀ i,i<len→∃ (cs:List Value) (y:DataW H×List MemPlace),cs.length=P.cellsOf e∧(∀ j,j<P.cellsOf e→w.cell? ((a.add (i*P.cellsOf e)).add j)=cs[j]?)∧DataW.trod enc P w 0 spare uG k e cs=some y:=by
       intro i hi
       have:=kJ i hi
       rw [List.getElem?_eq_getElem (by omega)] at this
       obtain ⟨cs,h1,h2⟩:=Option.bind_eq_some_iff.1 this
       obtain ⟨_,h3,h4⟩:=World.cells?_some h1
       exact ⟨cs,_,h3,h4,h2⟩
      obtain ⟨cs0,_,h00,h01,_⟩:=zBg 0 (by omega)
      have yQ:=h01 0 (by omega)
      rw [List.getElem?_eq_getElem (by omega)] at yQ
      have y4:a.spot=none∧∃ row el fr,w.heap[a.block]? = some (.cells row el fr):=by
       simp only [Nat.zero_mul,Addr.add,if_true,World.cell?] at yQ
       cases hb:w.heap[a.block]? with
       | none=>rw [hb] at yQ;cases yQ
       | some o =>
        cases o<;>rw [hb] at yQ<;>simp only at yQ<;>try (cases yQ;done)
        rename_i row el fr
        cases hs:a.spot with
        | some s=>rw [hs] at yQ;cases yQ
        | none=>exact ⟨rfl,row,el,fr,rfl⟩
      obtain ⟨y8,row,el,fr,yC⟩:=y4
      have jT:∀ i j,i<len→j<P.cellsOf e→w.cell? ((a.add (i*P.cellsOf e)).add j)=row[a.off+(i*P.cellsOf e+j)]?:=by
       intro i j hi hj
       have key:∀ m:Nat,(a.add m).block=a.block∧(a.add m).off=a.off+m∧(a.add m).spot=none:=by
        intro m
        unfold Addr.add
        split
        ·rename_i h;subst h;exact ⟨rfl,rfl,y8⟩
        ·exact ⟨rfl,rfl,by simp⟩
       have key2:∀ m j:Nat,w.cell? ((a.add m).add j)=row[a.off+(m+j)]?:=by
        intro m j
        obtain ⟨k1,k2,k3⟩:=key m
        by_cases h:j=0
        ·subst h
         simp only [Addr.add,if_true,World.cell?] at *
         rw [k1,yC];simp only;rw [k3,k2];simp
        ·have:(a.add m).add j=⟨a.block,a.off+m+j,none⟩:=by
          generalize a.add m=a1 at k1 k2 k3
          unfold Addr.add
          rw [if_neg h,k1,k2]
         rw [this]
         simp only [World.cell?,yC]
         rw [Nat.add_assoc];rfl
       exact key2 _ _
      have jP:=zRL (w:=w) (Φ:=fun b=>b<w.heap.size) (ss:=es) jE (by rw [jV] at uY ⊢;exact uY) len (seg row a.off (len*P.cellsOf e)) ?_ ?_
      ·obtain ⟨xs,us,g1,g2,g3,g4,g5,g6⟩:=jP
       refine ⟨[.sl xs],⟨_,[],rfl,⟨xs,rfl,by omega,fun x hx=>⟨(g2 x hx).1,(g2 x hx).2.1⟩⟩,rfl⟩,_,_,[],[],rfl,rfl,⟨rfl,.inr ⟨a,cap,row,us,P.cellsOf e,by rw [g1],y8,by omega,(Array.getElem?_eq_some_iff.1 yC).1,⟨el,fr,yC⟩,?_,⟨?_,g4⟩,by rw [g1];exact g5,g6⟩⟩,rfl,rfl⟩
       ·intro x hx;rw [← jV];exact (g2 x hx).2.2
       ·intro u hu;rw [← jV];exact g3 u hu
      ·
       have:=zBg (len-1) (by omega)
       obtain ⟨cs,_,h1,h2,_⟩:=this
       have h3:=h2 (P.cellsOf e-1) (by omega)
       rw [jT _ _ (by omega) (by omega),List.getElem?_eq_getElem (by omega)] at h3
       have h4:=(Array.getElem?_eq_some_iff.1 h3).1
       have h5:(len-1)*P.cellsOf e+P.cellsOf e=len*P.cellsOf e:=by
        obtain ⟨l,rfl⟩:∃ l,len=l+1:=⟨len-1,by omega⟩
        rw [Nat.add_sub_cancel,Nat.add_mul];omega
       simp only [seg,List.length_take,List.length_drop,Array.length_toList,jV]
       omega
      ·intro i hi
       obtain ⟨cs,y,h1,h2,h3⟩:=zBg i hi
       obtain ⟨ps,h4,h5⟩:=zLK n k e cs y es jc h3
       refine ⟨ps,h4,by rw [h4.length],?_⟩
       have:((seg row a.off (len*P.cellsOf e)).drop (i*es.length)).take es.length=cs:=by
        rw [jV]
        apply List.ext_getElem?
        intro j
        have ww:i*P.cellsOf e+P.cellsOf e≤len*P.cellsOf e:=by
         have:(i+1)*P.cellsOf e≤len*P.cellsOf e:=Nat.mul_le_mul_right _ (by omega)
         rw [Nat.add_mul] at this;omega
        simp only [seg,List.getElem?_take,List.getElem?_drop]
        split
        ·rename_i hj
         rw [if_pos (by omega),Array.getElem?_toList,← jT i j hi hj,h2 j hj]
        ·rw [List.getElem?_eq_none (by omega)]
       rw [this];exact h5
    ·cases h
  ·rename_i fs ht
   obtain ⟨xs,k,_,_,hl,vZ,hf⟩:=DataW.trod_struct ht hx
   obtain ⟨ps,h1,h2⟩:=zMW (Φ:=fun b=>b<w.heap.size) hl (fun t vs x ss h1 h2=>zLK n k t vs x ss h1 h2) fs.toList 0 ss h (fun f yq=>by
    obtain ⟨i,hi⟩:=List.getElem?_of_mem yq
    have gP:fs[i]? = some f:=by rw [← Array.getElem?_toList];exact hi
    have yK:=(Array.getElem?_eq_some_iff.1 gP).1
    exact ⟨xs[i]'(by omega), by rw [hf i f gP, List.getElem?_eq_getElem (by omega)]⟩) (Nat.zero_le _)
   exact ⟨ps,h1,by simpa using h2⟩
  ·rename_i m' e ht
   cases jc:zDi P n e with
   | none=>rw [jc] at h;cases h
   | some es =>
    rw [jc] at h;simp only at h
    split at h
    ·rename_i hc
     cases h
     obtain ⟨xs,k,hl,vZ,hf⟩:=zS5 ht hx
     exact zUw m' vs (by rw [hl,hc]) fun i hi=>zLK n k e _ _ es jc (by rw [hf i hi,List.getElem?_eq_getElem (by omega)])
    ·cases h
  ·cases h
def zVk (x:Bool×List Sh) (p:PV):Prop:=if x.1 then ∃ cs,p = .agg cs∧zEe x.2 cs else zEe x.2 [p]
def zK0:List (Bool×List Sh)→List PV→Prop
 | [],ps=>ps=[]
 | s::ss,ps=>∃ p qs,ps=p::qs∧zVk s p∧zK0 ss qs
def zE4 (P:Program):List TypeId→Option (List (Bool×List Sh))
 | []=>some []
 | t::ts=>match zDi P 20 t,zE4 P ts with
  | some ss,some rest=>if zXO P t=true∨zWl P t=false∧ss.length=1 then some ((zXO P t,ss)::rest) else none
  | _,_=>none
theorem zK0.length:∀ {ss:List (Bool×List Sh)} {ps:List PV},zK0 ss ps→ps.length=ss.length
 | [],ps,h=>by simp only [zK0] at h;subst h;rfl
 | s::ss,ps,h=>by
  obtain ⟨p,qs,rfl,_,h2⟩:=h
  simp [zK0.length h2]
theorem zQr {n:Nat} {t:TypeId} {ss:List Sh} (h:zDi P n t=some ss) (ha:zWl P t=false):(∃ k,P.underlying t=some (.int k))∨P.underlying t=some .bool∨∃ e,P.underlying t=some (.slice e):=by
 cases n with
 | zero=>cases h
 | succ n =>
  simp only [zDi] at h
  split at h
  ·exact .inl ⟨_,by assumption⟩
  ·exact .inr (.inl (by assumption))
  ·exact .inr (.inr ⟨_,by assumption⟩)
  ·rename_i fs ht
   simp only [zWl,ht] at ha;cases ha
  ·rename_i ht
   simp only [zWl,ht] at ha;cases ha
  ·cases h
theorem zRP : ∀ (ts:List TypeId) (vs:List Value) (ds:List (DataW H)) (ps:List MemPlace) (ss:List (Bool×List Sh)),zE4 P ts=some ss→DataW.TrodAll enc P w 0 spare uG ts vs ds ps→(∀ (j:Nat) t v,ts[j]? = some t→vs[j]? = some v→Value.okWide P w .any base t v) →
  ∃ qs,zK0 ss qs∧zA2 w (fun b=>b<w.heap.size) zCe qs vs []
 | [],vs,ds,ps,ss,hs,h,_=>by
  obtain ⟨rfl,_,_⟩:=trodAll_nil h
  cases hs
  exact ⟨[],rfl,rfl,rfl⟩
 | t :: ts,vs,ds,ps,ss,hs,h,hv=>by
  obtain ⟨v,vs',d,ds',p,q,rfl,rfl,rfl,⟨fuel,h1⟩,h2⟩:=trodAll_cons h
  simp only [zE4] at hs
  cases yJ:zDi P 20 t with
  | none=>rw [yJ] at hs;cases hs
  | some s =>
   cases yi:zE4 P ts with
   | none=>rw [yJ,yi] at hs;cases hs
   | some rest =>
    rw [yJ,yi] at hs
    simp only at hs
    split at hs
    ·rename_i hc
     cases hs
     obtain ⟨qs,g1,g2⟩:=zRP ts vs' ds' q rest yi h2 (fun j t v ht yE=>hv (j+1) t v (by simpa using ht) (by simpa using yE))
     obtain ⟨cs,g3,g4⟩:=zLK 20 fuel t v.cells.toList _ s yJ h1
     have yH:=hv 0 t v rfl rfl
     cases ha:zXO P t with
     | true =>
      have qQ:∃ fs,P.underlying t=some (.struct fs):=by
       simp only [zXO] at ha
       split at ha
       ·exact ⟨_,by assumption⟩
       ·cases ha
      obtain ⟨fs,ht⟩:=qQ
      obtain ⟨row,rfl,_⟩:=okWide_struct ht yH
      exact ⟨.agg cs::qs,⟨_,_,rfl,by simp only [zVk,if_true];exact ⟨cs,rfl,g3⟩,g1⟩,_,_,[],[],rfl,rfl,⟨row,rfl,g4⟩,g2⟩
     | false =>
      have yM:v.cells.toList=[v]:=by
       rcases zQr yJ (hc.elim (fun h=>by rw [h] at ha;cases ha) fun h=>h.1) with ⟨k,ht⟩ | ht | ⟨e,ht⟩
       ·obtain ⟨n,rfl⟩:=okWide_int ht yH;rfl
       ·obtain ⟨n,rfl⟩:=okWide_bool ht yH;rfl
       ·obtain ⟨a,n,c,rfl⟩:=okWide_slice ht yH;rfl
      rw [yM] at g4
      obtain ⟨u,us,L1,L2,he,hL,g5,g6⟩:∃ u us L1 L2,cs=u::us∧([]:List Nat)=L1++L2∧Rep w (fun b=>b<w.heap.size) zCe u v L1∧zA2 w (fun b=>b<w.heap.size) zCe us [] L2:=by
       cases cs with
       | nil=>have:=g4.length;simp at this
       | cons u us =>
        obtain ⟨v',vs'',L1,L2,he,hL,g5,g6⟩:=g4
        cases he
        exact ⟨u,us,L1,L2,rfl,hL,g5,g6⟩
      obtain ⟨rfl,rfl⟩:=List.append_eq_nil_iff.1 hL.symm
      have vb:us=[]:=List.eq_nil_of_length_eq_zero (by have:=g6.length;simp at this;omega)
      subst vb;subst he
      exact ⟨u::qs,⟨_,_,rfl,by simp only [zVk,Bool.false_eq_true,if_false];exact g3,g1⟩,_,_,[],[],rfl,rfl,g5,g2⟩
    ·cases hs
theorem zRy {α:Type} {R:α→Prop} {enc:α→PV}:∀ {xs:List PV},(∀ x∈xs,∃ a,x=enc a∧R a)→∃ l:List α,xs=l.map enc∧∀ a∈l,R a
 | [],_=>⟨[],rfl,by simp⟩
 | x :: xs,h=>by
  obtain ⟨a,rfl,ha⟩:=h x (by simp)
  obtain ⟨l,rfl,hl⟩:=zRy (xs:=xs) fun y hy=>h y (by simp [hy])
  exact ⟨a::l,rfl,fun b hb=>by
   rcases List.mem_cons.1 hb with rfl | hb
   ·exact ha
   ·exact hl b hb⟩
theorem zTy {k:IntKind} {p:PV} (h:zX5 (.list false [.num k]) p):∃ l:List Int,p = .sl (l.map (.int k))∧l.length≤maxLen∧∀ n∈l,k.min≤n∧n≤k.max:=by
 obtain ⟨xs,rfl,hl,hx⟩:=h
 obtain ⟨l,rfl,hb⟩:=zRy (α:=Int) (R:=fun n=>k.min≤n∧n≤k.max) (enc := .int k) (xs:=xs) fun x uQ=>by
  obtain ⟨⟨q,qs,hc,⟨n,rfl,hn⟩,qZ⟩,ha⟩:=hx x uQ
  simp only [zEe] at qZ;subst qZ
  refine ⟨n,?_,hn⟩
  cases x<;>simp [PV.cells] at hc<;>first | exact hc | simp_all [PV.isAgg]
 exact ⟨l,rfl,by simpa using hl,hb⟩
theorem zJw:∀ {ts:List TypeId} {vs:List Value} {ds:List (DataW H)} {ps:List MemPlace},DataW.TrodAll enc P w 0 spare uG ts vs ds ps→ds.length=ts.length
 | [],vs,ds,ps,h=>by obtain ⟨_,rfl,_⟩:=trodAll_nil h;rfl
 | t::ts,vs,ds,ps,h=>by
  obtain ⟨_,_,_,_,_,_,rfl,rfl,_,_,h2⟩:=trodAll_cons h
  simp [zJw h2]
theorem zVw {Hh:zBh} {f:FuncId} {fn:Func} {s:ChangeSpec} {apart fresh jX again:Bool} {W:World} {args:Array Value} {ds:List (DataW H)} {before:List MemPlace} {tb:TypeId} {ss:List (Bool×List Sh)} (zE3:P.follows .mixedOrders=true) (hnm:zER P) (zMB:Fit P Hh) (hin:zEI P Hh)
  (hl:laidOutB P=true) (jm:s.vars=[]) (htb:P.underlying tb=some .bool) (wg:fn.resultTypes=#[tb]) (ut:fn.params.toList.all (fun t=>P.readableRec t&&Nat.blt t P.types.size)=true) (kT:∀ ds,ds.length=fn.params.size→s.fn H ds={results:=[.lit (.bool true)],args:=ds}) (w9:zE4 P fn.params.toList=some ss) (hZ:ss.length≤1000)
  (hg:∀ qs,zK0 ss qs→@zAo (yo1 P Hh) P Hh f qs [] (.bool true) [])
  (gu:∀ (j:Nat) t v,fn.params[j]? = some t→args[j]? = some v→Value.okWide P W .any base t v) (hW:DataW.Whole enc P fn.params.toList s.vars apart W args.toList ds [] before) :
  Calls P f args W fun e W'=>∃ v,e = .returned v∧s.post enc P fn apart fresh jX again W args v W':=by
 obtain ⟨pa,pv,hA,_,_,_,_⟩:=id hW
 obtain ⟨qs,ka,kY⟩:=zRP fn.params.toList args.toList ds pa ss w9 hA (fun j t v ht hv=>gu j t v (by rw [← Array.getElem?_toList];exact ht) (by rw [← Array.getElem?_toList];exact hv))
 have wh:=ka.length
 refine (zQZ (Φ:=fun b=>b<W.heap.size) zE3 hnm zMB hin (hg qs ka) (fun b hb=>hb) kY (by rw [wh];exact Nat.le_trans hZ (by decide))).mono fun e W' ⟨he,g1,g2,g3,g4,g5⟩=>?_
 subst he
 refine ⟨_,rfl,zTw hl jm htb wg (fun t ht=>?_) (kT ds (by have:=zJw hA;simpa using this)) hW g1 g2 g3 g4 g5⟩
 have:=List.all_eq_true.1 ut t ht
 rw [Bool.and_eq_true] at this
 exact ⟨this.1,zB3 this.2⟩
end
end Go.Eng
namespace Go.Eng
open Go
section
variable {P:Program} {H:zBh}
def zEG (f:FuncId):zBh:=fun g=>bif Nat.beq g f then {} else {intr:=9}
theorem zPI (zE3:P.follows .mixedOrders=true) (hnm:zER P) {f:FuncId} {fn:Func} (hf:P.funcs[f]? = some fn) (yH:zVo P fn=true) (n:Nat):zGc P (@zCO P (zEG f) yo0 n):=by
 refine @zEV P (zEG f) yo0 zE3 hnm (fun g gn hg hi=>?_) (fun g gn args hid v hO hg hi hr=>?_) (fun g first i caps k plan h=>by cases h) n
 ·cases hb:Nat.beq g f with
  | true =>
   rw [Nat.eq_of_beq_eq_true hb,hf] at hg
   cases hg;exact yH
  | false=>simp [zEG,hb] at hi
 ·cases hb:Nat.beq g f with
  | true=>exact absurd (by simp [zEG,hb]) hi
  | false =>
   have e:(zEG f g).intr=9:=by simp [zEG,hb]
   rw [e] at hr
   simp [intrin] at hr
theorem zOH {α:Type} {f:Nat→α} {s:Nat} {v:α} (h:f s=v):upd f s v=f:=by
 funext t
 by_cases ht:t=s
 ·subst ht;rw [zAj,h]
 ·rw [zAf ht]
theorem zLA {f:FuncId} {p q v:PV} (hp:p.heavy=false) {w:World} {Φ:Nat→Prop} {rv:Nat→Value} {E:Nat→PV} {L:Nat→List Nat} {vs:Array Value} (hE:∀ s,s<zAb→E s=(zBb [q] []).get s) (kD:∀ s,zAb≤s→E s = .bad)
  (C:Conf w (fun b=>∃ s,b∈L s) Φ w Φ rv E L) (yD:vs.size=1) (ye:∀ i,i<1→vs[i]? = some (rv i)) (jW:∀ s,1≤s→s<zAl→rv s=undef) (hL0:L 0=[]) (hr:Rep w Φ (zA8 w rv E) p (rv 0) []) (h:Means P f [p] [] v []) :
  Calls P f vs w fun e w'=>∃ u Φ' rv' E' L',e = .returned u∧Conf w (fun b=>∃ s,b∈L s) Φ w' Φ' rv' E' L'∧([]:List PV).length=([]:List PV).length ∧
   (∀ j,j<([]:List PV).length→E' (zAl+j)=([]:List PV).getD j .bad∧rv' (zAl+j)=rv (zAl+j))∧Gave v u rv' E':=by
 have C1:=C.put (s:=0) hp hr
 rw [zOH hL0,zOH rfl] at C1
 have h1:(1:Nat)≤zAl:=by decide
 have hg:(0:Nat)<zAb:=by decide
 refine h w Φ rv (upd E 0 p) L vs (fun s hs=>?_) (fun s hs=>?_) C1 yD ye jW
 ·by_cases h:s=0
  ·subst h;rw [zAj];rfl
  ·rw [zAf h,hE s hs,zDl (args:=[q]) h1,zDl (args:=[p]) h1]
   simp [h,show ¬ s<1 by omega]
 ·rw [zAf (by omega)];exact kD s hs
theorem zRB {f:FuncId} {v:PV} (h1:Means P f [.nils 0] [] v []) (h2:Means P f [.nn] [] v []):Means P f [.sl []] [] v []:=by
 intro w Φ rv E L vs hE kD C yD ye jW
 have h0:E 0 = .sl []:=by rw [hE 0 (by decide)];rfl
 have hr:=C.rep 0
 rw [h0] at hr
 obtain ⟨hL0,hc⟩:=hr
 have hc:∃ a n,rv 0 = .slice a 0 n∧(a=none→n=0):=by
  rcases hc with ⟨_,a,n,hv,ha⟩ | ⟨a,n,c,us,sz,hv,_⟩
  ·exact ⟨a,n,hv,ha⟩
  ·exact ⟨some a,n,hv,fun h=>by cases h⟩
 obtain ⟨a,n,hv,ha⟩:=hc
 cases a with
 | none =>
  rw [ha rfl] at hv
  exact zLA (p := .nils 0) rfl hE kD C yD ye jW hL0 ⟨hv,rfl⟩ h1
 | some a=>exact zLA (p := .nn) rfl hE kD C yD ye jW hL0 ⟨rfl,a,n,hv⟩ h2
theorem zPM {f:FuncId} {v:PV} {k:Nat} (h1:Means P f [.nils 0] [] v []):Means P f [.nils k] [] v []:=by
 intro w Φ rv E L vs hE kD C yD ye jW
 have h0:E 0 = .nils k:=by rw [hE 0 (by decide)];rfl
 have hr:=C.rep 0
 rw [h0] at hr
 exact zLA (p := .nils 0) rfl hE kD C yD ye jW hr.2 ⟨hr.1,rfl⟩ h1
theorem zLu (zE3:P.follows .mixedOrders=true) (hnm:zER P) {f:FuncId} {fn:Func} (hf:P.funcs[f]? = some fn) (hb:fn.body.isSome=true) (yH:zVo P fn=true) {sz:Nat} (yD:(fn.resultTypes[0]?).bind (fun t=>(zBW P t).bind (szT P))=some sz)
  (r1:∃ n,@zCO P (zEG f) yo0 n f [.nils 0] []=some (.own sz [],[])) (r2:∃ n,@zCO P (zEG f) yo0 n f [.nn] []=some (.own sz [],[]))
  (r3:∀ x xs,(∀ y∈x::xs,y.plain=true∧y.cells.length=sz)→(x::xs).length≤zAS→∃ n,@zCO P (zEG f) yo0 n f [.sl (x::xs)] []=some (.own sz (x::xs),[])) :
  ∀ args hid v hO,intrin P fn 1 args hid=some (v,hO)→Callable P f∧Means P f args hid v hO:=by
 have so:=zPI zE3 hnm hf yH
 have hc:Callable P f:=⟨fn,hf,by cases hx:fn.body with
  | none=>rw [hx] at hb;cases hb
  | some _=>rfl⟩
 obtain ⟨n1,r1⟩:=r1
 obtain ⟨n2,r2⟩:=r2
 have m1:Means P f [.nils 0] [] (.own sz []) []:=(so n1 _ _ _ _ _ r1).2
 have m2:=(so n2 _ _ _ _ _ r2).2
 intro args hid v hO h
 refine ⟨hc,?_⟩
 rcases args with _ | ⟨p,_ | ⟨p2,ps⟩⟩
 ·simp [intrin] at h
 ·rcases hid with _ | ⟨q,qs⟩
  ·cases p<;>first | (simp [intrin] at h;done) | skip
   ·rename_i k
    simp only [intrin,yD,Option.some.injEq,Prod.mk.injEq] at h
    obtain ⟨rfl,rfl⟩:=h
    exact zPM m1
   ·rename_i xs
    simp only [intrin,yD] at h
    split at h
    ·rename_i hx
     simp only [Option.some.injEq,Prod.mk.injEq] at h
     obtain ⟨rfl,rfl⟩:=h
     simp only [Bool.and_eq_true,decide_eq_true_eq,List.all_eq_true] at hx
     cases xs with
     | nil=>exact zRB m1 m2
     | cons x xs =>
      obtain ⟨n3,r3⟩:=r3 x xs (fun y hy=>by simpa using hx.1 y hy) hx.2
      exact (so n3 _ _ _ _ _ r3).2
    ·cases h
  ·simp [intrin] at h
 ·simp [intrin] at h
theorem zGr [Yo] {f:FuncId} {fn:Func} {sz:Nat} {α:Type} (g:α→PV) (l:List α) (hl:l.length≤4294967296) (hg:∀ x,((g x).plain&&Nat.beq (g x).cells.length sz)=true:=by intro x;kernel_rfl) (hf:P.funcs[f]? = some fn:=by kernel_rfl) (hi:(H f).intr=1:=by kernel_rfl)
  (yD:(fn.resultTypes[0]?).bind (fun t=>(zBW P t).bind (szT P))=some sz:=by kernel_rfl):zAo P H f [.sl (l.map g)] [] (.own sz (l.map g)) []:=by
 refine ⟨1,fun n hn=>?_⟩
 obtain ⟨k,rfl⟩:∃ k,n=k+1:=⟨n-1,by omega⟩
 show zGv P H (zCO P H k) Yo.yo zB8 (k+1) f _ _=_
 have km:((l.map g).all (fun x=>x.plain&&decide (x.cells.length=sz))&&decide ((l.map g).length≤zAS))=true:=by
  simp only [List.all_map,Bool.and_eq_true,List.all_eq_true,List.length_map,decide_eq_true_eq,Function.comp]
  refine ⟨fun x _=>?_,hl⟩
  have:=hg x
  simp only [Bool.and_eq_true] at this
  exact ⟨this.1,Nat.eq_of_beq_eq_true this.2⟩
 simp only [Bool.and_eq_true,decide_eq_true_eq] at km
 simp only [zGv,hf,hi,intrin,yD]
 rw [if_pos (by decide),if_pos (by simpa using km)]
theorem zHn {f:FuncId} {args:List PV} {v:PV} (h:@zAo yo0 P (zEG f) f args [] v []):∃ n,@zCO P (zEG f) yo0 n f args []=some (v,[]):=by
 obtain ⟨n,h⟩:=h
 exact ⟨n,h n (Nat.le_refl _)⟩
end
end Go.Eng
set_option maxRecDepth 100000
namespace Go.Eng
open Go Go.Proofs
def idV (p:PV):PV:=p
theorem zH7 (xs:List PV):xs.map idV=xs:=by
 induction xs with
 | nil=>rfl
 | cons x xs ih=>rw [List.map_cons,ih];rfl
theorem zE2:∀ {l:List PV},(∀ y∈l,y.plain=true)→zBA l=[]
 | [],_=>rfl
 | p::ps,h=>by
  rw [zBA,(zKR (h p (by simp))).2,zE2 fun y hy=>h y (by simp [hy])];rfl
theorem zR4 {xs:List PV} {sz n:Nat} (h:∀ y∈xs,y.plain=true∧y.cells.length=sz) (hn:Nat.beq sz n=true):((xs.map idV).all fun y=>y.cells.length.beq n&&y.cells.all fun q=>q.oneCell)=true:=by
 rw [zH7,List.all_eq_true]
 intro y hy
 rw [Bool.and_eq_true]
 exact ⟨by rw [(h y hy).2];exact hn,List.all_eq_true.2 fun q hq=>zJf (h y hy).1 q hq⟩
theorem zWd {xs:List PV} {sz:Nat} (h:∀ y∈xs,y.plain=true∧y.cells.length=sz):((xs.map idV).all fun x=>x.plain)=true:=by
 rw [zH7,List.all_eq_true];exact fun y hy=>(h y hy).1
section
variable [Yo]
theorem zZE:zAo Tryz.prog (zEG 61) 61 [.nils 0] [] (.own 2 []) []:=zAo.closed 50
theorem zYq:zAo Tryz.prog (zEG 61) 61 [.nn] [] (.own 2 []) []:=zAo.closed 50
theorem zYs (xs:List PV) (h:∀ y∈xs,y.plain=true∧y.cells.length=2) (hI:0<xs.length) (hl:xs.length≤4294967296):zAo Tryz.prog (zEG 61) 61 [.sl (xs.map idV)] [] (.own 2 (xs.map idV)) []:=by
 refine zAe Tryz.f61 ?_
 refine zAd 1<|zAa<|zAh<|zAd 1<|S_a [(0,.v (PV.bool false))] (ap (zNi (by omega):zHt Tryz.prog BinOp.eql 27 (PV.sl (List.map idV xs)) (zEB (Value.slice none 0 0))=some (PV.bool false)) an)<|zAa<|zAH<|zAm<|zAd 2<|S_a [(0,.ob),(0,.ob),(0,.ob),(3,.ob)] (ap (zWd h:((List.map idV xs).all fun x=>x.plain)=true)<|ap (zR4 h (by kernel_rfl):((List.map idV xs).all fun y=>y.cells.length.beq ((fun x=>x.size) Tryz.prog.types[37])&&y.cells.all fun q=>q.oneCell)=true)<|ap (?_:(zBA (List.map idV xs)).isEmpty=true)<|ap ((by exact zA4 (by simp only [List.length_map,zzLn,zAS]<;>omega)):(0+(List.map idV xs).length).ble zAS=true) an)<|zAc 1<|zAa<|zAn<|E_a [(1,.yes),(1,.v (PV.own 2 (List.map idV (List.take ([]++List.map idV xs).length xs))))] (ap (blz ([]++List.map idV xs))<|ap ((by simp [zBE]):PV.own 2 (List.take ([]++List.map idV xs).length (List.drop 0 ([]++List.map idV xs)))=PV.own 2 (List.map idV (List.take ([]++List.map idV xs).length xs))) an) (PV.own 2 (List.map idV (List.take ([]++List.map idV xs).length xs))) [] (by simp [*]) rfl
 rw [zH7,zE2 fun y hy=>(h y hy).1];rfl
theorem zYZ:zAo Tryz.prog (zEG 65) 65 [.nils 0] [] (.own 1 []) []:=zAo.closed 50
theorem zZB:zAo Tryz.prog (zEG 65) 65 [.nn] [] (.own 1 []) []:=zAo.closed 50
theorem zZt (xs:List PV) (h:∀ y∈xs,y.plain=true∧y.cells.length=1) (hI:0<xs.length) (hl:xs.length≤4294967296):zAo Tryz.prog (zEG 65) 65 [.sl (xs.map idV)] [] (.own 1 (xs.map idV)) []:=by
 refine zAe Tryz.f65 ?_
 refine zAd 1<|zAa<|zAh<|zAd 1<|S_a [(0,.v (PV.bool false))] (ap (zNi (by omega):zHt Tryz.prog BinOp.eql 51 (PV.sl (List.map idV xs)) (zEB (Value.slice none 0 0))=some (PV.bool false)) an)<|zAa<|zAH<|zAm<|zAd 2<|S_a [(0,.ob),(0,.ob),(0,.ob),(3,.ob)] (ap (zWd h:((List.map idV xs).all fun x=>x.plain)=true)<|ap (zR4 h (by kernel_rfl):((List.map idV xs).all fun y=>y.cells.length.beq ((fun x=>x.size) Tryz.prog.types[3])&&y.cells.all fun q=>q.oneCell)=true)<|ap (?_:(zBA (List.map idV xs)).isEmpty=true)<|ap ((by exact zA4 (by simp only [List.length_map,zzLn,zAS]<;>omega)):(0+(List.map idV xs).length).ble zAS=true) an)<|zAc 1<|zAa<|zAn<|E_a [(1,.yes),(1,.v (PV.own 1 (List.map idV (List.take ([]++List.map idV xs).length xs))))] (ap (blz ([]++List.map idV xs))<|ap ((by simp [zBE]):PV.own 1 (List.take ([]++List.map idV xs).length (List.drop 0 ([]++List.map idV xs)))=PV.own 1 (List.map idV (List.take ([]++List.map idV xs).length xs))) an) (PV.own 1 (List.map idV (List.take ([]++List.map idV xs).length xs))) [] (by simp [*]) rfl
 rw [zH7,zE2 fun y hy=>(h y hy).1];rfl
theorem zWV:zAo Tryz.prog (zEG 123) 123 [.nils 0] [] (.own 2 []) []:=zAo.closed 50
theorem zXB:zAo Tryz.prog (zEG 123) 123 [.nn] [] (.own 2 []) []:=zAo.closed 50
theorem zWI (xs:List PV) (h:∀ y∈xs,y.plain=true∧y.cells.length=2) (hI:0<xs.length) (hl:xs.length≤4294967296):zAo Tryz.prog (zEG 123) 123 [.sl (xs.map idV)] [] (.own 2 (xs.map idV)) []:=by
 refine zAe Tryz.f123 ?_
 refine zAd 1<|zAa<|zAh<|zAd 1<|S_a [(0,.v (PV.bool false))] (ap (zNi (by omega):zHt Tryz.prog BinOp.eql 40 (PV.sl (List.map idV xs)) (zEB (Value.slice none 0 0))=some (PV.bool false)) an)<|zAa<|zAH<|zAm<|zAd 2<|S_a [(0,.ob),(0,.ob),(0,.ob),(3,.ob)] (ap (zWd h:((List.map idV xs).all fun x=>x.plain)=true)<|ap (zR4 h (by kernel_rfl):((List.map idV xs).all fun y=>y.cells.length.beq ((fun x=>x.size) Tryz.prog.types[108])&&y.cells.all fun q=>q.oneCell)=true)<|ap (?_:(zBA (List.map idV xs)).isEmpty=true)<|ap ((by exact zA4 (by simp only [List.length_map,zzLn,zAS]<;>omega)):(0+(List.map idV xs).length).ble zAS=true) an)<|zAc 1<|zAa<|zAn<|E_a [(1,.yes),(1,.v (PV.own 2 (List.map idV (List.take ([]++List.map idV xs).length xs))))] (ap (blz ([]++List.map idV xs))<|ap ((by simp [zBE]):PV.own 2 (List.take ([]++List.map idV xs).length (List.drop 0 ([]++List.map idV xs)))=PV.own 2 (List.map idV (List.take ([]++List.map idV xs).length xs))) an) (PV.own 2 (List.map idV (List.take ([]++List.map idV xs).length xs))) [] (by simp [*]) rfl
 rw [zH7,zE2 fun y hy=>(h y hy).1];rfl
end
theorem zVr:∀ args hid v hO,intrin Tryz.prog Tryz.f61 1 args hid=some (v,hO)→Callable Tryz.prog 61∧Means Tryz.prog 61 args hid v hO :=
 zLu (f:=61) (fn:=Tryz.f61) (sz:=2) (by kernel_rfl) (zIx (by kernel_rfl)) (by kernel_rfl) (by kernel_rfl) (by kernel_rfl) (by kernel_rfl) (zHn (@zZE yo0)) (zHn (@zYq yo0)) fun x xs h hl=>by
  have:=zHn (@zYs yo0 (x::xs) h (by simp) hl)
  rw [zH7] at this
  exact this
theorem zU6:∀ args hid v hO,intrin Tryz.prog Tryz.f65 1 args hid=some (v,hO)→Callable Tryz.prog 65∧Means Tryz.prog 65 args hid v hO :=
 zLu (f:=65) (fn:=Tryz.f65) (sz:=1) (by kernel_rfl) (zIx (by kernel_rfl)) (by kernel_rfl) (by kernel_rfl) (by kernel_rfl) (by kernel_rfl) (zHn (@zYZ yo0)) (zHn (@zZB yo0)) fun x xs h hl=>by
  have:=zHn (@zZt yo0 (x::xs) h (by simp) hl)
  rw [zH7] at this
  exact this
theorem zTF:∀ args hid v hO,intrin Tryz.prog Tryz.f123 1 args hid=some (v,hO)→Callable Tryz.prog 123∧Means Tryz.prog 123 args hid v hO :=
 zLu (f:=123) (fn:=Tryz.f123) (sz:=2) (by kernel_rfl) (zIx (by kernel_rfl)) (by kernel_rfl) (by kernel_rfl) (by kernel_rfl) (by kernel_rfl) (zHn (@zWV yo0)) (zHn (@zXB yo0)) fun x xs h hl=>by
  have:=zHn (@zWI yo0 (x::xs) h (by simp) hl)
  rw [zH7] at this
  exact this
theorem zWG:∀ f∈[61,65,123],∀ fn,Tryz.prog.funcs[f]? = some fn→∀ args hid v hO,intrin Tryz.prog fn 1 args hid=some (v,hO)→Callable Tryz.prog f∧Means Tryz.prog f args hid v hO:=by
 intro f hf fn kT
 simp only [List.mem_cons,List.not_mem_nil,or_false] at hf
 rcases hf with rfl | rfl | rfl
 ·have e:Tryz.prog.funcs[61]? = some Tryz.f61:=by kernel_rfl
  rw [e] at kT;cases kT
  exact zVr
 ·have e:Tryz.prog.funcs[65]? = some Tryz.f65:=by kernel_rfl
  rw [e] at kT;cases kT
  exact zU6
 ·have e:Tryz.prog.funcs[123]? = some Tryz.f123:=by kernel_rfl
  rw [e] at kT;cases kT
  exact zTF
end Go.Eng
namespace Go.Eng
open Go
section
variable {P:Program} {H:zBh}
theorem zOX {α:Type} {g:α→PV} {l:List α} {i c:Nat} {b:PV} {qs:List PV} {u:α} (h:zAx b c qs=g u:=by kernel_rfl):((l.map g).set i b).set i (zAx b c qs)=(l.set i u).map g:=by
 rw [h,List.set_set,zG1]
def zDo (l:List Int):List Int:=l.mergeSort fun x y=>decide (x≤y)
theorem zP1 [Yo] {f:FuncId} {fn:Func} (l:List Int) (hl:l.length≤4294967296) (hf:P.funcs[f]? = some fn:=by kernel_rfl) (hi:(H f).intr=2:=by kernel_rfl):zAo P H f [.bor zAl [] 1 0 l.length] [.own 1 (l.map I)] (.tup []) [.own 1 ((zDo l).map I)]:=by
 refine ⟨1,fun n hn=>?_⟩
 obtain ⟨k,rfl⟩:∃ k,n=k+1:=⟨n-1,by omega⟩
 show zGv P H (zCO P H k) Yo.yo zB8 (k+1) f _ _=_
 have hin:zEO (l.map I)=some l:=by
  clear hl
  induction l with
  | nil=>rfl
  | cons x l ih =>
   simp only [zEO] at ih
   simp [zEO,ih,bind,I]
 have e:intrin P fn 2 [.bor zAl [] 1 0 l.length] [.own 1 (l.map I)]=some (.tup [],[.own 1 ((zDo l).map I)]):=by
  show (match zEO (l.map I) with | some is=>_ | none=>_)=_
  rw [hin]
  exact if_pos ⟨rfl,rfl,hl⟩
 simp only [zGv,hf,hi]
 rw [if_pos (by decide)]
 exact e
theorem zKk:∀ l:List Int,zEO (l.map I)=some l
 | []=>rfl
 | x::l=>by
  have ih:=zKk l
  simp only [zEO] at ih
  simp [zEO,ih,bind,I]
theorem zNx [Yo] {f:FuncId} {fn:Func} (l:List (List Int)) (i:Nat) (hi:i<l.length) (hl:(l.getD i []).length≤4294967296) (hf:P.funcs[f]? = some fn:=by kernel_rfl) (hn:(H f).intr=2:=by kernel_rfl):zAo P H f [.bor zAl [(i,0)] 1 0 (l.getD i []).length] [.own 1 (l.map fun r => .own 1 (r.map I))] (.tup []) [.own 1 ((l.set i (zDo (l.getD i []))).map fun r => .own 1 (r.map I))]:=by
 refine ⟨1,fun n v8=>?_⟩
 obtain ⟨k,rfl⟩:∃ k,n=k+1:=⟨n-1,by omega⟩
 show zGv P H (zCO P H k) Yo.yo zB8 (k+1) f _ _=_
 have e1:(l.map fun r=>PV.own 1 (r.map I))[i]? = some (.own 1 ((l.getD i []).map I)):=by
  rw [List.getElem?_map,List.getElem?_eq_getElem hi,Option.map_some,List.getD_eq_getElem?_getD,List.getElem?_eq_getElem hi];rfl
 have e:intrin P fn 2 [.bor zAl [(i,0)] 1 0 (l.getD i []).length] [.own 1 (l.map fun r => .own 1 (r.map I))]=some (.tup [],[.own 1 ((l.set i (zDo (l.getD i []))).map fun r => .own 1 (r.map I))]):=by
  show (match (l.map fun r=>PV.own 1 (r.map I))[i]? with | some (.own 1 xs)=>_ | _=>none)=_
  rw [e1]
  show (match zEO ((l.getD i []).map I) with | some is=>_ | none=>none)=_
  rw [zKk,List.map_set]
  exact if_pos ⟨rfl,rfl,hl⟩
 simp only [zGv,hf,hn]
 rw [if_pos (by decide)]
 exact e
theorem zTK (cl so:List FuncId) (h:((List.range P.funcs.size).all fun f=>Nat.beq (H f).intr 0||Nat.beq (H f).intr 9||(Nat.beq (H f).intr 1&&cl.any (Nat.beq f))||(Nat.beq (H f).intr 2&&so.any (Nat.beq f)))=true)
  (hc:∀ f∈cl,∀ fn,P.funcs[f]? = some fn→∀ args hid v hO,intrin P fn 1 args hid=some (v,hO)→Callable P f∧Means P f args hid v hO)
  (hs:∀ f∈so,∀ fn,P.funcs[f]? = some fn→∀ args hid v hO,intrin P fn 2 args hid=some (v,hO)→Callable P f∧Means P f args hid v hO):zEI P H:=fun f fn args hid v hO hf hi hr=>by
 have yK:=(Array.getElem?_eq_some_iff.1 hf).1
 have:=List.all_eq_true.1 h f (List.mem_range.2 yK)
 rw [Bool.or_eq_true,Bool.or_eq_true,Bool.or_eq_true,Bool.and_eq_true,Bool.and_eq_true] at this
 rcases this with ((h1 | h1) | ⟨h1,h2⟩) | ⟨h1,h2⟩
 ·exact absurd (Nat.eq_of_beq_eq_true h1) hi
 ·rw [Nat.eq_of_beq_eq_true h1] at hr
  simp [intrin] at hr
 ·rw [Nat.eq_of_beq_eq_true h1] at hr
  obtain ⟨g,hg,hb⟩:=List.any_eq_true.1 h2
  rw [Nat.eq_of_beq_eq_true hb] at hf ⊢
  exact hc g hg fn hf args hid v hO hr
 ·rw [Nat.eq_of_beq_eq_true h1] at hr
  obtain ⟨g,hg,hb⟩:=List.any_eq_true.1 h2
  rw [Nat.eq_of_beq_eq_true hb] at hf ⊢
  exact hs g hg fn hf args hid v hO hr
end
end Go.Eng
namespace Go.Eng
open Go
section
variable {P:Program} {H:zBh}
theorem zJo:∀ {xs:List PV} {l:List Int},zEO xs=some l→xs=l.map fun n => .int .i64 n
 | [],l,h=>by
  simp [zEO] at h
  subst h;rfl
 | x :: xs,l,h=>by
  simp only [zEO,List.mapM_cons,bind,Option.bind_eq_some_iff,pure,Option.some.injEq] at h
  obtain ⟨n,hn,l',gG,rfl⟩:=h
  split at hn
  ·simp only [Option.some.injEq] at hn
   subst hn
   rw [List.map_cons,zJo (xs:=xs) gG]
  ·cases hn
theorem zJU {w:World} {Φ:Nat→Prop} {A:Al}:∀ {l:List Int} {us:List Value} {L:List Nat},zA2 w Φ A (l.map fun n => .int .i64 n) us L→us=l.map (fun n => .int .i64 n)∧L=[]
 | [],us,L,h=>h
 | x::l,us,L,h=>by
  obtain ⟨v,vs,L1,L2,rfl,rfl,⟨rfl,rfl⟩,h2⟩:=h
  obtain ⟨rfl,rfl⟩:=zJU h2
  exact ⟨rfl,rfl⟩
theorem zFz:∀ l:List Int,flat (l.map fun n=>Value.int .i64 n)=l.map fun n => .int .i64 n
 | []=>rfl
 | x::l=>by
  rw [List.map_cons,zCw,zFz l];rfl
theorem zIG {w:World} {Φ:Nat→Prop} {A:Al}:∀ l:List Int,zA2 w Φ A (l.map fun n => .int .i64 n) (l.map fun n => .int .i64 n) []
 | []=>⟨rfl,rfl⟩
 | _::l=>⟨_,_,[],[],rfl,rfl,⟨rfl,rfl⟩,zIG l⟩
theorem zH8 (l:List Int) (o:Nat) (c:Array Value) (h:o+l.length≤c.size) (k:Nat) (u:Value) (hk:(l.map fun n=>Value.int .i64 n)[k]? = some u) :
  (Go.Sort.putCells (Value.int .i64) o l.toArray c)[o+k]? = some u:=by
 rw [List.getElem?_map] at hk
 obtain ⟨x,hx,rfl⟩:=Option.map_eq_some_iff.1 hk
 have yK:k<l.length:=(List.getElem?_eq_some_iff.1 hx).1
 rw [Go.Sort.putCells,Array.getElem?_mapIdx,Array.getElem?_eq_getElem (by omega),Option.map_some,if_pos (by simpa using yK)]
 rw [show o+k-o=k by omega,getElem!_pos _ k (by simpa using yK)]
 simp only [List.getElem_toArray]
 rw [(List.getElem?_eq_some_iff.1 hx).2]
theorem zPf {f:FuncId} (h0:∀ p cap w,Calls P f #[.slice p 0 cap] w fun e w'=>e = .returned (.tuple #[])∧w'=w)
  (h1:∀ (blk off cap:Nat) (zs:List Int) (w:World),Go.Sort.Holds (Value.int .i64) w blk off zs.toArray→blk<w.heap.size→zs.length<4611686018427387904 →
   Calls P f #[.slice (some ⟨blk,off,none⟩) zs.length cap] w fun e w'=>e = .returned (.tuple #[])∧∃ n os,w'=Go.Sort.grow (Go.Sort.putRow (Value.int .i64) (Go.Sort.ahead w n) blk off (zs.mergeSort fun x y=>decide (x≤y)).toArray) os)
  (l:List Int) (hl:l.length<4611686018427387904):Means P f [.bor zAl [] 1 0 l.length] [.own 1 (l.map fun n => .int .i64 n)] (.tup []) [.own 1 ((zDo l).map fun n => .int .i64 n)]:=by
 intro w Φ rv E L vs hE kD C yD ye jW
 have e0:E 0 = .bor zAl [] 1 0 l.length:=by rw [hE 0 (by decide)];rfl
 have eH:E zAl = .own 1 (l.map fun n => .int .i64 n):=by rw [hE zAl (by decide)];rfl
 have kd:=ye 0 (by simp)
 have wR:vs=#[rv 0]:=by
  apply Array.ext_getElem?
  intro i
  cases i with
  | zero=>exact kd
  | succ i =>
   have:vs.size=1:=yD
   rw [Array.getElem?_eq_none (by omega)];rfl
 have r0:=C.rep 0
 rw [e0] at r0
 obtain ⟨hL0,hg,⟨a,cap,uN,yR,yV,y4⟩,ju⟩:=r0
 have rH:=C.rep zAl
 rw [eH] at rH
 have jP:zBK (rv 0) (rv zAl) 1 0 l.length:=by
  obtain ⟨sz,xs,h3,h4,h5⟩:=ju (rv zAl) (.own 1 (l.map fun n => .int .i64 n)) (by rw [eH];rfl) rfl
  subst h4;exact h5
 have gave:∀ (rv':Nat→Value) (E':Nat→PV),Gave (.tup []) (.tuple #[]) rv' E':=fun rv' E'=>⟨fun h=>absurd rfl (h []),fun ps y1=>⟨#[],rfl,by cases y1;rfl,fun j p h=>by cases y1;simp at h⟩⟩
 cases wC:l with
 | nil =>
  subst wC
  rw [wR,uN]
  refine (h0 a cap w).mono ?_
  rintro e w' ⟨rfl,rfl⟩
  refine ⟨_,Φ,rv,E,L,rfl,C,rfl,fun j hj=>?_,gave _ _⟩
  have:j=0:=by simpa using hj
  subst this
  exact ⟨by rw [Nat.add_zero,eH];simp [zDo],rfl⟩
 | cons x0 l0 =>
  rw [← wC]
  have hI:l≠[]:=by rw [wC];simp
  rcases rH with ⟨hx,_⟩ | ⟨a0,n,c,us,L',hL,hv,gx,w8,yC,yB,yO,⟨vb,_⟩,y6,jI⟩
  ·exact absurd (List.map_eq_nil_iff.1 hx) hI
  obtain ⟨rfl,rfl⟩:=zJU jI
  rw [zFz] at y6
  rw [hv] at jP
  simp only [zBK,Nat.zero_mul,Nat.sub_zero] at jP
  obtain ⟨gy,_⟩:=jP
  have hZ:(l.map fun n=>PV.int .i64 n).length=l.length:=by simp
  rw [hZ] at w8 y6 hv
  rw [Nat.mul_one] at y6 yB
  have jT:∀ k u,(l.map fun n=>Value.int .i64 n)[k]? = some u→c[a0.off+k]? = some u:=by
   intro k u hk
   rw [← y6] at hk
   exact zCR hk
  have wS:=yC
  obtain ⟨et,gz⟩:=wS
  have jy:a0.block<w.heap.size:=(Array.getElem?_eq_some_iff.1 gz).1
  have hH:Go.Sort.Holds (Value.int .i64) w a0.block (a0.off+0) l.toArray:=by
   intro j hj
   have hj':j<l.length:=by simpa using hj
   refine ⟨?_,by simp [World.frozen?,gz]⟩
   rw [zCn yC.any,Nat.add_zero]
   refine jT j _ ?_
   rw [List.getElem?_map,List.getElem?_eq_getElem hj',Option.map_some,getElem!_pos _ j hj]
   rfl
  rw [wR,gy]
  refine (h1 a0.block (a0.off+0) n l w hH jy hl).mono ?_
  rintro e w' ⟨rfl,k,os,rfl⟩
  have hS:(l.mergeSort fun x y=>decide (x≤y))=zDo l:=rfl
  rw [hS,Nat.add_zero]
  have vC:(zDo l).length=l.length:=List.length_mergeSort ..
  have wT:∀ b,(Go.Sort.putRow (Value.int .i64) (Go.Sort.ahead w k) a0.block a0.off (zDo l).toArray).heap[b]? = if a0.block=b then (w.heap[b]?).map (Go.Sort.onCells (Go.Sort.putCells (Value.int .i64) a0.off (zDo l).toArray)) else w.heap[b]?:=by
   intro b
   simp only [Go.Sort.putRow,Go.Sort.mapBlock,Go.Sort.ahead,Array.getElem?_modify]
  have wU:∀ b,b<w.heap.size→(Go.Sort.grow (Go.Sort.putRow (Value.int .i64) (Go.Sort.ahead w k) a0.block a0.off (zDo l).toArray) os).heap[b]? = if a0.block=b then (w.heap[b]?).map (Go.Sort.onCells (Go.Sort.putCells (Value.int .i64) a0.off (zDo l).toArray)) else w.heap[b]?:=by
   intro b hb
   rw [Go.Sort.heap_grow_old _ _ (by simpa using hb),wT]
  have jG:zEl (Go.Sort.grow (Go.Sort.putRow (Value.int .i64) (Go.Sort.ahead w k) a0.block a0.off (zDo l).toArray) os) a0.block (Go.Sort.putCells (Value.int .i64) a0.off (zDo l).toArray c):=by
   refine ⟨et,?_⟩
   rw [wU _ jy,if_pos rfl,gz];rfl
  have C1:=C.take (s:=zAl) (g:=zAb) (by decide) (Nat.le_refl _)
  have hgh:zAl≠zAb:=by decide
  have C2:=C1.make (w':=Go.Sort.grow (Go.Sort.putRow (Value.int .i64) (Go.Sort.ahead w k) a0.block a0.off (zDo l).toArray) os) (fun s=>Nat.beq s zAb) (fun s hs=>by rw [Nat.eq_of_beq_eq_true hs];exact Nat.le_refl _) (g:=zAb) (Nat.le_refl _) (p := .own 1 ((zDo l).map fun n => .int .i64 n)) (v:=rv zAl) (Lp:=[a0.block])
   (fun A hA => .inr ⟨a0,n,_,(zDo l).map (fun n => .int .i64 n),[],rfl,by rw [hv];simp [vC],gx,by simpa [vC] using w8,jG,by simpa [Go.Sort.putCells] using yB,fun x hx=>by
     obtain ⟨y,_,rfl⟩:=List.mem_map.1 hx;rfl,⟨fun u hu=>by
     obtain ⟨y,_,rfl⟩:=List.mem_map.1 hu;rfl,by simp [List.map_map,Function.comp_def,zCi,PV.isAgg]⟩,by
     rw [zFz]
     refine zFt (by simp) fun j u hj=>?_
     exact zH8 _ _ _ (by rw [vC];omega) _ _ hj,zIG _⟩)
   (by simp) (fun b hb => .inl ⟨zAb,by rw [zAj,hL];exact List.mem_cons.2 (.inl (by simpa using hb)),by decide⟩) (by simp) (fun b hb hc=>by
    rw [wU b hb,if_neg]
    intro hab
    have:=hc zAb (by rw [zAj,hL,← hab];simp)
    exact absurd this (by decide)) ⟨rfl,rfl,rfl⟩
  have C3:=C2.lay (d:=zAl) (g:=zAb) (by decide) (Nat.le_refl _)
  refine ⟨_,_,_,_,_,rfl,C3,rfl,fun j hj=>?_,gave _ _⟩
  have:j=0:=by simpa using hj
  subst this
  rw [Nat.add_zero]
  refine ⟨?_,?_⟩
  ·rw [zAf hgh,zAj,zAj]
   rfl
  ·rw [zAj,zAj]
theorem zNl {f:FuncId} (h0:∀ p cap w,Calls P f #[.slice p 0 cap] w fun e w'=>e = .returned (.tuple #[])∧w'=w)
  (h1:∀ (blk off cap:Nat) (zs:List Int) (w:World),Go.Sort.Holds (Value.int .i64) w blk off zs.toArray→blk<w.heap.size→zs.length<4611686018427387904 →
   Calls P f #[.slice (some ⟨blk,off,none⟩) zs.length cap] w fun e w'=>e = .returned (.tuple #[])∧∃ n os,w'=Go.Sort.grow (Go.Sort.putRow (Value.int .i64) (Go.Sort.ahead w n) blk off (zs.mergeSort fun x y=>decide (x≤y)).toArray) os)
  (rows:List PV) (i:Nat) (l:List Int) (hi:rows[i]? = some (.own 1 (l.map fun n => .int .i64 n))) (hl:l.length<4611686018427387904) :
  Means P f [.bor zAl [(i,0)] 1 0 l.length] [.own 1 rows] (.tup []) [.own 1 (rows.set i (.own 1 ((zDo l).map fun n => .int .i64 n)))]:=by
 intro w Φ rv E L vs hE kD C yD ye jW
 have e0:E 0 = .bor zAl [(i,0)] 1 0 l.length:=by rw [hE 0 (by decide)];rfl
 have eH:E zAl = .own 1 rows:=by rw [hE zAl (by decide)];rfl
 have kd:=ye 0 (by simp)
 have wR:vs=#[rv 0]:=by
  apply Array.ext_getElem?
  intro i
  cases i with
  | zero=>exact kd
  | succ i =>
   have:vs.size=1:=yD
   rw [Array.getElem?_eq_none (by omega)];rfl
 have r0:=C.rep 0
 rw [e0] at r0
 obtain ⟨hL0,hg,⟨a,cap,uN,yR,yV,y4⟩,ju⟩:=r0
 have rH:=C.rep zAl
 rw [eH] at rH
 rcases rH with ⟨hx,_⟩ | ⟨a0,n0,c0,us0,L0,hL,hv,gx,hln0,qz,LA,hcl0,⟨hus0,husA0⟩,gA,hrs0⟩
 ·subst hx;simp at hi
 obtain ⟨u,La,Li,Lb,hu,qR,hr,y9,_⟩:=hrs0.split hi
 have LB:u.cells.toList[0]? = some u:=by
  rcases hr with ⟨_,_,hv⟩ | ⟨_,_,_,_,_,_,hv,_⟩<;>rw [hv]<;>rfl
 have ja:kid w (rv zAl) (.own 1 rows) i 0=some u:=by
  rw [hv]
  show w.cell? (zAt a0 (i*1+0))=some u
  have hf:=zDA hus0 hu LB
  rw [← gA] at hf
  have:=zCR hf
  simp only [zAt];rw [zCn qz.any];exact this
 have uS:zAR w (rv zAl) (E zAl).unlock [(i,0)]=some (u,.own 1 (l.map fun n => .int .i64 n)):=by
  rw [eH]
  show zAR w (rv zAl) (.own 1 rows) [(i,0)]=_
  rw [zHC]
  have:child (.own 1 rows) i 0=some (.own 1 (l.map fun n => .int .i64 n)):=by
   simp [child,zA0,hi,PV.cells]
  rw [this,ja];rfl
 have jP:zBK (rv 0) u 1 0 l.length:=by
  obtain ⟨sz,xs,h3,h4,h5⟩:=ju _ _ uS rfl
  subst h4;exact h5
 have gave:∀ (rv':Nat→Value) (E':Nat→PV),Gave (.tup []) (.tuple #[]) rv' E':=fun rv' E'=>⟨fun h=>absurd rfl (h []),fun ps y1=>⟨#[],rfl,by cases y1;rfl,fun j p h=>by cases y1;simp at h⟩⟩
 obtain ⟨yP,hix⟩:=List.getElem?_eq_some_iff.1 hi
 cases wC:l with
 | nil =>
  subst wC
  rw [wR,uN]
  refine (h0 a cap w).mono ?_
  rintro e w' ⟨rfl,rfl⟩
  refine ⟨_,Φ,rv,E,L,rfl,C,rfl,fun j hj=>?_,gave _ _⟩
  have:j=0:=by simpa using hj
  subst this
  refine ⟨?_,rfl⟩
  rw [Nat.add_zero,eH]
  have:rows.set i (.own 1 ((zDo []).map fun n => .int .i64 n))=rows:=by
   have e1:PV.own 1 ((zDo []).map fun n=>PV.int .i64 n)=rows[i]:=by rw [hix];simp [zDo]
   rw [e1];exact List.set_getElem_self yP
  rw [this];rfl
 | cons x0 l0 =>
  rw [← wC]
  have hI:l≠[]:=by rw [wC];simp
  rcases hr with ⟨hx,_⟩ | ⟨ai,n,c,us,Lx,kj,hvi,hspi,w8,yC,yB,yO,⟨vb,_⟩,y6,jI⟩
  ·exact absurd (List.map_eq_nil_iff.1 hx) hI
  obtain ⟨rfl,rfl⟩:=zJU jI
  subst kj
  rw [zFz] at y6
  rw [hvi] at jP
  simp only [zBK,Nat.zero_mul,Nat.sub_zero] at jP
  obtain ⟨gy,_⟩:=jP
  have hZ:(l.map fun n=>PV.int .i64 n).length=l.length:=by simp
  rw [hZ] at w8 y6 hvi
  rw [Nat.mul_one] at y6 yB
  have jT:∀ k u,(l.map fun n=>Value.int .i64 n)[k]? = some u→c[ai.off+k]? = some u:=by
   intro k u hk
   rw [← y6] at hk
   exact zCR hk
  have wS:=yC
  obtain ⟨et,gz⟩:=wS
  have jy:ai.block<w.heap.size:=(Array.getElem?_eq_some_iff.1 gz).1
  have yT:=C.nodup zAl
  rw [hL,qR,List.nodup_cons] at yT
  have hai:ai.block∈L zAl:=by rw [hL,qR];simp
  have hnΦ:¬ Φ ai.block:=(C.own _ _ hai).2.1
  have um:ai.block≠a0.block:=fun h=>yT.1 (by rw [← h];simp)
  have j2:∀ b∈La++Lb,b≠ai.block:=by
   intro b hb he
   subst he
   have h2:=yT.2
   rw [List.nodup_append] at h2
   obtain ⟨h2,_,h3⟩:=h2
   rw [List.nodup_append] at h2
   rcases List.mem_append.1 hb with h4 | h4
   ·exact h2.2.2 _ h4 _ (by simp) rfl
   ·exact h3 _ (by simp) _ h4 rfl
  have hH:Go.Sort.Holds (Value.int .i64) w ai.block (ai.off+0) l.toArray:=by
   intro j hj
   have hj':j<l.length:=by simpa using hj
   refine ⟨?_,by simp [World.frozen?,gz]⟩
   rw [zCn yC.any,Nat.add_zero]
   refine jT j _ ?_
   rw [List.getElem?_map,List.getElem?_eq_getElem hj',Option.map_some,getElem!_pos _ j hj]
   rfl
  rw [wR,gy]
  refine (h1 ai.block (ai.off+0) n l w hH jy hl).mono ?_
  rintro e w' ⟨rfl,k,os,rfl⟩
  have hS:(l.mergeSort fun x y=>decide (x≤y))=zDo l:=rfl
  rw [hS,Nat.add_zero]
  have vC:(zDo l).length=l.length:=List.length_mergeSort ..
  have wT:∀ b,(Go.Sort.putRow (Value.int .i64) (Go.Sort.ahead w k) ai.block ai.off (zDo l).toArray).heap[b]? = if ai.block=b then (w.heap[b]?).map (Go.Sort.onCells (Go.Sort.putCells (Value.int .i64) ai.off (zDo l).toArray)) else w.heap[b]?:=by
   intro b
   simp only [Go.Sort.putRow,Go.Sort.mapBlock,Go.Sort.ahead,Array.getElem?_modify]
  have wU:∀ b,b<w.heap.size→(Go.Sort.grow (Go.Sort.putRow (Value.int .i64) (Go.Sort.ahead w k) ai.block ai.off (zDo l).toArray) os).heap[b]? = if ai.block=b then (w.heap[b]?).map (Go.Sort.onCells (Go.Sort.putCells (Value.int .i64) ai.off (zDo l).toArray)) else w.heap[b]?:=by
   intro b hb
   rw [Go.Sort.heap_grow_old _ _ (by simpa using hb),wT]
  have jG:zEl (Go.Sort.grow (Go.Sort.putRow (Value.int .i64) (Go.Sort.ahead w k) ai.block ai.off (zDo l).toArray) os) ai.block (Go.Sort.putCells (Value.int .i64) ai.off (zDo l).toArray c):=by
   refine ⟨et,?_⟩
   rw [wU _ jy,if_pos rfl,gz];rfl
  have hold:∀ b,b<w.heap.size→b≠ai.block→(Go.Sort.grow (Go.Sort.putRow (Value.int .i64) (Go.Sort.ahead w k) ai.block ai.off (zDo l).toArray) os).heap[b]? = w.heap[b]?:=fun b hb hI=>by
   rw [wU b hb,if_neg (Ne.symm hI)]
  have hin:∀ b∈L zAl,b<w.heap.size:=fun b hb=>(C.own _ _ hb).1
  have yf:zDc w (Go.Sort.grow (Go.Sort.putRow (Value.int .i64) (Go.Sort.ahead w k) ai.block ai.off (zDo l).toArray) os) Φ Φ:=fun b hb=>⟨hb,hold b (C.frz b hb).1 (fun h=>hnΦ (h▸hb))⟩
  have LC:zEl (Go.Sort.grow (Go.Sort.putRow (Value.int .i64) (Go.Sort.ahead w k) ai.block ai.off (zDo l).toArray) os) a0.block c0:=by
   obtain ⟨e0t,h0t⟩:=qz
   exact ⟨e0t,by rw [hold _ (hin _ (by rw [hL];simp)) (Ne.symm um)];exact h0t⟩
  have qS:Rep (Go.Sort.grow (Go.Sort.putRow (Value.int .i64) (Go.Sort.ahead w k) ai.block ai.off (zDo l).toArray) os) Φ zCe (.own 1 ((zDo l).map fun n => .int .i64 n)) u [ai.block] :=
   .inr ⟨ai,n,_,(zDo l).map (fun n => .int .i64 n),[],rfl,by rw [hvi];simp [vC],hspi,by simpa [vC] using w8,jG,by simpa [Go.Sort.putCells] using yB,fun x hx=>by
     obtain ⟨y,_,rfl⟩:=List.mem_map.1 hx;rfl,⟨fun u hu=>by
     obtain ⟨y,_,rfl⟩:=List.mem_map.1 hu;rfl,by simp [List.map_map,Function.comp_def,zCi,PV.isAgg]⟩,by
     rw [zFz]
     refine zFt (by simp) fun j u hj=>?_
     exact zH8 _ _ _ (by rw [vC];omega) _ _ hj,zIG _⟩
  have hrs1:=y9 _ Φ zCe _ [ai.block] (fun _ _ _ h=>h) yf (fun b hb=>hold b (hin b (by rw [hL,qR];rcases List.mem_append.1 hb with h | h<;>simp [h])) (j2 b hb)) qS
  have LD:(rows.set i (.own 1 ((zDo l).map fun n => .int .i64 n))).length=rows.length:=by simp
  have C1:=C.take (s:=zAl) (g:=zAb) (by decide) (Nat.le_refl _)
  have hgh:zAl≠zAb:=by decide
  have C2 := C1.make (w':=Go.Sort.grow (Go.Sort.putRow (Value.int .i64) (Go.Sort.ahead w k) ai.block ai.off (zDo l).toArray) os) (fun s=>Nat.beq s zAb) (fun s hs=>by rw [Nat.eq_of_beq_eq_true hs];exact Nat.le_refl _) (g:=zAb) (Nat.le_refl _) (p := .own 1 (rows.set i (.own 1 ((zDo l).map fun n => .int .i64 n)))) (v:=rv zAl) (Lp:=L zAl)
   (fun A hA => .inr ⟨a0,n0,c0,us0,La++[ai.block]++Lb,by rw [hL,qR],by rw [hv,LD],gx,by rw [LD];exact hln0,LC,LA,fun x hx=>by
     rcases List.mem_or_eq_of_mem_set hx with h | h
     ·exact hcl0 x h
     ·rw [h];rfl,⟨hus0,by
     rw [husA0,List.map_set]
     have e1 : (PV.own 1 ((zDo l).map fun n => PV.int .i64 n)).isAgg = (rows.map PV.isAgg)[i]'(by simpa using yP) := by
      rw [List.getElem_map,hix];rfl
     rw [e1,List.set_getElem_self]⟩,by rw [LD];exact gA,hrs1⟩)
   (C.nodup zAl) (fun b hb => .inl ⟨zAb,by rw [zAj];exact hb,by decide⟩) (by simp) (fun b hb hc=>by
    refine hold b hb fun h=>?_
    have:=hc zAb (by rw [zAj,h];exact hai)
    exact absurd this (by decide)) ⟨rfl,rfl,rfl⟩
  have C3:=C2.lay (d:=zAl) (g:=zAb) (by decide) (Nat.le_refl _)
  refine ⟨_,_,_,_,_,rfl,C3,rfl,fun j hj=>?_,gave _ _⟩
  have:j=0:=by simpa using hj
  subst this
  rw [Nat.add_zero]
  refine ⟨?_,?_⟩
  ·rw [zAf hgh,zAj,zAj]
   rfl
  ·rw [zAj,zAj]
theorem sort_ok {f:FuncId} {fn:Func} (hf:P.funcs[f]? = some fn) (hb:fn.body.isSome=true) (h0:∀ p cap w,Calls P f #[.slice p 0 cap] w fun e w'=>e = .returned (.tuple #[])∧w'=w)
  (h1:∀ (blk off cap:Nat) (zs:List Int) (w:World),Go.Sort.Holds (Value.int .i64) w blk off zs.toArray→blk<w.heap.size→zs.length<4611686018427387904 →
   Calls P f #[.slice (some ⟨blk,off,none⟩) zs.length cap] w fun e w'=>e = .returned (.tuple #[])∧∃ n os,w'=Go.Sort.grow (Go.Sort.putRow (Value.int .i64) (Go.Sort.ahead w n) blk off (zs.mergeSort fun x y=>decide (x≤y)).toArray) os) :
  ∀ args hid v hO,intrin P fn 2 args hid=some (v,hO)→Callable P f∧Means P f args hid v hO:=by
 have hc:Callable P f:=⟨fn,hf,by cases hx:fn.body with
  | none=>rw [hx] at hb;cases hb
  | some _=>rfl⟩
 intro args hid v hO h
 refine ⟨hc,?_⟩
 unfold intrin at h
 split at h<;>first | (rename_i hw;cases hw;done) | skip
 all_goals first | (cases h;done) | skip
 ·rename_i r n xs
  split at h
  ·rename_i is vc
   split at h
   ·rename_i kH
    obtain ⟨rfl,rfl,j4⟩:=kH
    simp only [Option.some.injEq,Prod.mk.injEq] at h
    obtain ⟨rfl,rfl⟩:=h
    rw [zJo vc]
    exact zPf h0 h1 is (Nat.lt_of_le_of_lt j4 (by decide))
   ·cases h
  ·cases h
 ·rename_i r i n rows vS
  split at h
  ·rename_i xs hi
   split at h
   ·rename_i is vc
    split at h
    ·rename_i kH
     obtain ⟨rfl,rfl,j4⟩:=kH
     simp only [Option.some.injEq,Prod.mk.injEq] at h
     obtain ⟨rfl,rfl⟩:=h
     rw [zJo vc] at hi
     exact zNl h0 h1 rows i is hi (Nat.lt_of_le_of_lt j4 (by decide))
    ·cases h
   ·cases h
  ·cases h
end
end Go.Eng
namespace Go.Proofs
open Go.Shelf
def Tryz.lays189_ren:Go.Shelf.Ren:=⟨fun | 189=>56 | 125=>133 | 257=>132 | 128=>185 | 129=>186 | 294=>176 | 295=>177 | 296=>178 | 297=>179 | 298=>180 | 299=>181 | 216=>182 | 300=>183 | 301=>184 | 328=>205 | 329=>206 | 330=>207 | 331=>208 | 332=>209 | 215=>210 | 343=>224 | n=>n,fun | 28=>51 | 3=>3 | 46=>180 | 0=>0 | 51=>174 | 53=>225 | 4=>4 | 183=>217 | 182=>216 | 131=>221 | 5=>5 | 9=>9 | 218=>235 | 222=>116 | 228=>247 | 229=>248 | n=>n,fun | n=>n⟩
theorem Tryz.lays189:Go.Proofs.Lays.n189 Tryz.prog Tryz.lays189_ren:={
 mixed:=by kernel_rfl
 f125:=Tryz.func133.trans (congrArg some (by kernel_rfl))
 f128:=Tryz.func185.trans (congrArg some (by kernel_rfl))
 f129:=Tryz.func186.trans (congrArg some (by kernel_rfl))
 f189:=Tryz.func56.trans (congrArg some (by kernel_rfl))
 f215:=Tryz.func210.trans (congrArg some (by kernel_rfl))
 f216:=Tryz.func182.trans (congrArg some (by kernel_rfl))
 f257:=Tryz.func132.trans (congrArg some (by kernel_rfl))
 f294:=Tryz.func176.trans (congrArg some (by kernel_rfl))
 f295:=Tryz.func177.trans (congrArg some (by kernel_rfl))
 f296:=Tryz.func178.trans (congrArg some (by kernel_rfl))
 f297:=Tryz.func179.trans (congrArg some (by kernel_rfl))
 f298:=Tryz.func180.trans (congrArg some (by kernel_rfl))
 f299:=Tryz.func181.trans (congrArg some (by kernel_rfl))
 f300:=Tryz.func183.trans (congrArg some (by kernel_rfl))
 f301:=Tryz.func184.trans (congrArg some (by kernel_rfl))
 f328:=Tryz.func205.trans (congrArg some (by kernel_rfl))
 f329:=Tryz.func206.trans (congrArg some (by kernel_rfl))
 f330:=Tryz.func207.trans (congrArg some (by kernel_rfl))
 f331:=Tryz.func208.trans (congrArg some (by kernel_rfl))
 f332:=Tryz.func209.trans (congrArg some (by kernel_rfl))
 f343:=Tryz.func224.trans (congrArg some (by kernel_rfl))
 t0:=Tryz.underlying0
 a0:=Tryz.isAgg0
 z0:=Tryz.sizeOf0
 v0:=Tryz.zeroValue0
 t3:=Tryz.underlying3
 a3:=Tryz.isAgg3
 z3:=Tryz.sizeOf3
 v3:=Tryz.zeroValue3
 t4:=Tryz.underlying4
 a4:=Tryz.isAgg4
 z4:=Tryz.sizeOf4
 v4:=Tryz.zeroValue4
 t5:=Tryz.underlying5
 a5:=Tryz.isAgg5
 z5:=Tryz.sizeOf5
 v5:=Tryz.zeroValue5
 t9:=Tryz.underlying9
 a9:=Tryz.isAgg9
 z9:=Tryz.sizeOf9
 v9:=Tryz.zeroValue9
 t28:=Tryz.underlying51
 a28:=Tryz.isAgg51
 z28:=Tryz.sizeOf51
 v28:=Tryz.zeroValue51
 t46:=Tryz.underlying180
 a46:=Tryz.isAgg180
 z46:=Tryz.sizeOf180
 v46:=Tryz.zeroValue180
 t51:=Tryz.underlying174
 a51:=Tryz.isAgg174
 z51:=Tryz.sizeOf174
 v51:=Tryz.zeroValue174
 t53:=Tryz.underlying225
 a53:=Tryz.isAgg225
 z53:=Tryz.sizeOf225
 v53:=Tryz.zeroValue225
 t131:=Tryz.underlying221
 a131:=Tryz.isAgg221
 z131:=Tryz.sizeOf221
 v131:=Tryz.zeroValue221
 t182:=Tryz.underlying216
 a182:=Tryz.isAgg216
 z182:=Tryz.sizeOf216
 v182:=Tryz.zeroValue216
 t183:=Tryz.underlying217
 a183:=Tryz.isAgg217
 z183:=Tryz.sizeOf217
 v183:=Tryz.zeroValue217
 t218:=Tryz.underlying235
 a218:=Tryz.isAgg235
 z218:=Tryz.sizeOf235
 v218:=Tryz.zeroValue235
 t222:=Tryz.underlying116
 a222:=Tryz.isAgg116
 z222:=Tryz.sizeOf116
 v222:=Tryz.zeroValue116
 t228:=Tryz.underlying247
 a228:=Tryz.isAgg247
 z228:=Tryz.sizeOf247
 v228:=Tryz.zeroValue247
 t229:=Tryz.underlying248
 a229:=Tryz.isAgg248
 z229:=Tryz.sizeOf248
 v229:=Tryz.zeroValue248}
theorem Tryz.sorts:∀ f∈[56],∀ fn,Tryz.prog.funcs[f]? = some fn→∀ args hid v hO,Go.Eng.intrin Tryz.prog fn 2 args hid=some (v,hO)→Go.Eng.Callable Tryz.prog f∧Go.Eng.Means Tryz.prog f args hid v hO:=fun f hf fn kT=>by
 rw [List.mem_singleton] at hf
 subst hf
 have e:Tryz.prog.funcs[56]? = some Tryz.f56:=Tryz.func56
 rw [e] at kT
 cases kT
 exact Go.Eng.sort_ok e rfl (fun p cap w=>Any.slices_Sort_int_none Tryz.lays189 p cap w) (fun blk off cap zs w h1 h2 h3=>Any.slices_Sort_int Tryz.lays189 blk off cap zs w h1 h2 h3)
end Go.Proofs
namespace Go.Proofs.YtppbomajegnkeaaGreat
open Go.ChangeShapes Go.WideShapes Go.ChangeAt Go.RowKit Go.Eng
theorem Tryz.own:ownKnob Tryz.prog.godebug=none:=by kernel_rfl
theorem Tryz.laidOut:laidOutB Tryz.prog=true:=by kernel_rfl
theorem zE3:Tryz.prog.follows .mixedOrders=true:=by kernel_rfl
theorem hnm:zER Tryz.prog:=zIx (by kernel_rfl)
theorem zMB:Fit Tryz.prog zCD:=zW4 (by kernel_rfl)
theorem hin:zEI Tryz.prog zCD:=zTK [61,65,123] [56] (by kernel_rfl) zWG Tryz.sorts
end Go.Proofs.YtppbomajegnkeaaGreat
namespace Go.Eng
open Go
theorem zUF {k:IntKind} {p:PV} (h:zVk (false,[.num k]) p):∃ n,p = .int k n∧k.min≤n∧n≤k.max:=by
 simp only [zVk,Bool.false_eq_true,if_false] at h
 obtain ⟨q,qs,hc,⟨n,rfl,hn⟩,qZ⟩:=h
 cases hc
 exact ⟨n,rfl,hn⟩
theorem zRD {k:IntKind} {p:PV} (h:zVk (false,[.list false [.num k]]) p):∃ l:List Int,p = .sl (l.map (.int k))∧l.length≤maxLen∧∀ n∈l,k.min≤n∧n≤k.max:=by
 simp only [zVk,Bool.false_eq_true,if_false] at h
 obtain ⟨q,qs,hc,h,qZ⟩:=h
 cases hc
 exact zTy h
end Go.Eng
set_option maxRecDepth 10000
set_option maxHeartbeats 4000000
namespace Go.Eng
open Go Go.Proofs
theorem zAB {α:Type} {l:List α} {i:Nat} {d:α} (h:i<l.length):l.getD i d=l[i]:=by simp [List.getD,List.getElem?_eq_getElem h]
theorem zGE {α β:Type} {f:β→α→β} {b:β} {l:List α} {i:Nat} {d:α} (h:i<l.length):(l.take (i+1)).foldl f b=f ((l.take i).foldl f b) (l.getD i d):=by
 rw [zAB h];exact zPy h
theorem zGV {α:Type} {l m:List α} {i:Nat} {d:α} (h:i<l.length) (h':i<m.length) (ha:l.take i=m.take i) (he:l.getD i d=m.getD i d):l.take (i+1)=m.take (i+1):=by
 rw [zAB h,zAB h'] at he
 rw [List.take_add_one,List.take_add_one,ha,List.getElem?_eq_getElem h,List.getElem?_eq_getElem h',he]
theorem zBX {α:Type} {l:List α} {i:Nat} {d:α} (h:i<l.length):l.take (i+1)=l.take i++[l.getD i d]:=by
 rw [List.take_add_one,List.getElem?_eq_getElem h,zAB h];rfl
theorem zBU {α:Type} {l:List α} {d:α} {p:α→Prop} (h:∀ x∈l,p x) (i:Nat) (hi:i<l.length):p (l.getD i d):=by
 rw [zAB hi];exact h _ (List.getElem_mem hi)
theorem zDe {l:List Int} {i j:Nat} {v:Int}:(l.set i v).getD j 0=if i=j∧j<l.length then v else l.getD j 0:=by
 simp only [List.getD_eq_getElem?_getD,List.getElem?_set]
 by_cases h:i=j
 ·subst h
  by_cases h2:i<l.length
  ·simp [h2]
  ·simp [h2]
 ·simp [h]
def zEC {α:Type} (φ:α→Bool) (l:List α):Int:=if l.findIdx φ<l.length then (l.findIdx φ:Int) else -1
theorem zB5 {α : Type} {φ : α → Bool} {l : List α} {i : Nat} (h : i < l.length) (h0 : ∀ j (hj : j < i), φ (l[j]'(by omega)) = false) (hi : φ l[i] = true) : zEC φ l = i := by
 have:l.findIdx φ=i:=by
  rw [List.findIdx_eq h]
  exact ⟨hi,fun j hj=>by simpa using h0 j hj⟩
 simp [zEC,this,h]
theorem zCy {α : Type} {φ : α → Bool} {l : List α} (h0 : ∀ j (hj : j < l.length), φ (l[j]'hj) = false) : zEC φ l = -1 := by
 have:¬ l.findIdx φ<l.length:=by
  intro h
  have:=List.findIdx_getElem (w:=h)
  rw [h0 _ h] at this;cases this
 simp [zEC,this]
theorem zD9 {α:Type} (φ:α→Bool) (l:List α):decide (zEC φ l≥0)=l.any φ:=by
 unfold zEC
 split
 ·rename_i h
  have:=List.findIdx_getElem (w:=h)
  have h2:l.any φ=true:=List.any_eq_true.2 ⟨_,List.getElem_mem h,this⟩
  rw [h2];simp
 ·rename_i h
  have h2:l.any φ=false:=by
   rw [List.any_eq_false]
   intro x hx hp
   exact h (List.findIdx_lt_length_of_exists ⟨x,hx,hp⟩)
  rw [h2];simp
structure Nw where
 h:Int
 l:List (Int×Int)
 n:List (Int×Bool)
 s:List (List Int)
abbrev prV (x:Int×Int):PV := .agg [I x.1,I x.2]
abbrev ntV (x:Int×Bool):PV := .agg [I x.1,.bool x.2]
abbrev prs (l:List (Int×Int)):PV := .sl (l.map prV)
abbrev zBl (l:List Int):PV := .own 1 (l.map I)
abbrev nwV (n:Nw):PV := .agg [I n.h,.sl (n.l.map prV),.sl (n.n.map ntV),.sl (n.s.map zA5)]
abbrev nwO (n:Nw):PV := .agg [I n.h,.own 2 (n.l.map prV),.own 2 (n.n.map ntV),.own 1 (n.s.map zBl)]
instance:FrzOf zBl zA5:=⟨fun x=>by simp only [zAV,zFE]⟩
def inB (n lo hi:Int):Bool:=decide (lo≤n)&&decide (n≤hi)
def pr2 (x:Int×Int):Int×Int:=(if x.2<x.1 then x.2 else x.1,if x.2>x.1 then x.2 else x.1)
abbrev FG [Yo] (f:FuncId) (args:List PV) (v:PV):Prop:=zAo Tryz.prog zCD f args [] v []
section
variable [Yo]
theorem f107 (n lo hi:Int):FG 107 [I n,I lo,I hi] (.bool (inB n lo hi)):=by
 refine zAe Tryz.f107 ?_
 refine zAd 1<|zAa<|zAd 4<|zLQ 10 (n≥lo) (fun k0=>(zAc 5<|zAa<|zAn<|E_a [] an (PV.bool (decide (n≤hi))) [] ?_ rfl)) (fun k0=>(zAc 5<|zAa<|zAn<|E_a [] an (PV.bool false) [] ?_ rfl))
 ·simp only [inB,decide_eq_true k0,Bool.true_and]
 ·simp only [inB,decide_eq_false k0,Bool.false_and]
theorem f165 (n k:Int):FG 165 [I n,.sl [I k]] (I (max n k)):=by
 refine zAe Tryz.f165 ?_
 refine zAd 1<|zAa<|zAh<|zAd 1<|zAc 1<|zAc 1<|zAa<|zAk 0 ?_
 refine zAy (fun (i,v)=>i=0∧v=n∨i=1∧v=if k>n then k else n) (fun (i,v)=>[(0,I v),(9,I (i:Nat))]) (fun (i,_)=>1-i) ((0:Nat),n) (.inl ⟨rfl,rfl⟩) fun (i,v) hi=>?_
 rcases hi with ⟨rfl,rfl⟩ | ⟨rfl,rfl⟩
 ·refine zAd 1<|zAa<|zAh<|zDW<|zAm<|zAh<|zAk 1<|zAd 3<|zAa<|zAg<|zAc 4<|zAa<|zAg<|zAc 2<|zAa ?_
  exact ⟨(1,if k>v then k else v),.inr ⟨rfl,rfl⟩,by simp only;omega,by kernel_rfl,by kernel_rfl⟩
 ·refine zAd 1<|zAa<|zAh<|zAH<|zAM 0<|zAd 2<|zAa<|zAn<|E_a [] an (I (if k>n then k else n)) [] ?_ rfl
  rw [Int.max_def]
  by_cases h:k>n
  ·rw [if_pos h,if_pos (by omega)]
  ·rw [if_neg h];split
   ·have:n=k:=by omega
    rw [this]
   ·rfl
theorem f110 (x:Int×Int):FG 110 [prV x] (prV (pr2 x)):=by
 refine zAe Tryz.f110 ?_
 refine zAd 2<|zAa<|zAd 1<|zAc 1<|zAc 1<|zAc 2<|zAc 1<|zAc 1<|zAc 1<|zAc 4<|zAa<|zAn<|E_a [] an (PV.agg [I (if x.snd<x.fst then x.snd else x.fst),I (if x.snd>x.fst then x.snd else x.fst)]) [] rfl rfl
theorem f109 (n:Nw) (x:Int) (hb:1≤n.h∧n.h≤10):FG 109 [nwV n,I x] (.bool (inB x 0 (n.h-1))):=by
 refine zAe Tryz.f109 ?_
 refine zAd 2<|zAa<|zAd 3<|S_a [(1,.v (I (n.h-1)))] (ap ((zCr rfl (by omega)):I (IntKind.i64.wrap (n.h-1))=I (n.h-1)) an)<|S_a [(10,.ret (PV.bool (inB x 0 (n.h-1))) [])] (ap (f107 x (0) (n.h-1)) an)<|zAc 1<|zAa<|zAn<|E_a [] an (PV.bool (inB x 0 (n.h-1))) [] rfl rfl
theorem f106 (n:Nw) (x:Int) (hb:n.n.length≤8):FG 106 [nwV n,I x] (.bool (inB x 0 (n.n.length-1))):=by
 refine zAe Tryz.f106 ?_
 refine zAd 2<|zAa<|zAd 3<|S_a [(0,.n n.n.length)] (ap (lnS ntV n.n) an)<|S_a [(1,.v (I ((↑n.n.length:Int)-1)))] (ap ((zCr rfl (by omega)):I (IntKind.i64.wrap ((↑n.n.length:Int)-1))=I ((↑n.n.length:Int)-1)) an)<|S_a [(10,.ret (PV.bool (inB x 0 ((↑n.n.length:Int)-1))) [])] (ap (f107 x (0) ((↑n.n.length:Int)-1)) an)<|zAc 1<|zAa<|zAn<|E_a [] an (PV.bool (inB x 0 ((↑n.n.length:Int)-1))) [] rfl rfl
end
end Go.Eng
namespace Go.Eng
open Go
end Go.Eng
set_option maxRecDepth 10000
set_option maxHeartbeats 4000000
namespace Go.Eng
open Go Go.Proofs
def has {α:Type} [DecidableEq α] (l:List α) (x:α):Bool:=l.any fun y=>decide (x=y)
theorem zWe {α:Type} [DecidableEq α] {l:List α} {x:α}:has l x=decide (x∈l):=by
 rw [Bool.eq_iff_iff];simp [has]
theorem zXf {x y:Int×Int}:(decide (x.1=y.1)&&decide (x.2=y.2))=decide (x=y):=by
 rw [Bool.eq_iff_iff];simp [Prod.ext_iff]
theorem zU3 {α:Type} {l:List α} {z x:α} {i:Nat} (h:i<l.length):(l.take i++List.replicate (l.length-i) z).set i x=l.take i++[x]++List.replicate (l.length-(i+1)) z:=by
 obtain ⟨k,hk⟩:∃ k,l.length-i=k+1:=⟨l.length-i-1,by omega⟩
 rw [hk,show l.length-(i+1)=k by omega,List.replicate_succ,List.set_append_right _ _ (by rw [List.length_take];omega),List.length_take,Nat.min_eq_left (by omega),Nat.sub_self,List.set_cons_zero,List.append_assoc];rfl
section
variable [Yo]
theorem f98 (l m:List (Int)) (hl:l.length<4294967296):FG 98 [.sl (l.map I),.sl (m.map I)] (.bool (decide (l=m))):=by
 refine zAe Tryz.f98 ?_
 refine zAd 1<|zAa<|zAh<|zAd 1<|S_a [(0,.n l.length)] (ap (lnS I l) an)<|zAc 1<|S_a [(0,.n m.length)] (ap (lnS I m) an)<|zAc 1<|zAa<|zDQ ((↑l.length:Int)=(↑m.length:Int)) (fun k0=>(zAd 1<|zAa<|zAn<|E_a [] an (PV.bool false) [] ?_ rfl)) (fun k0=>(zAm<|zAh<|zAd 1<|S_a [(0,.n l.length)] (ap (lnS I l) an)<|zAc 1<|zAa<|zAk 0 ?_))
 ·simp;intro h;subst h;simp at *
 refine zAy (fun i=>i≤l.length∧l.take i=m.take i) (fun i=>[(13,I (i:Nat))]) (fun i=>l.length-i) (0:Nat) (by simp) fun i ⟨hi,ha⟩=>?_
 refine zAd 1<|zAa<|zAh<|zDn ((↑i:Int)<(↑l.length:Int)) (fun k1=>(zAm<|zAh<|zAk 1<|zAd 2<|zAa<|zAd 2<|S_a [(2,.v (I (l.getD i 0)))] (ap (zCh (0) (by omega):(List.map I l)[i]? = some (I (l.getD i 0))) an)<|zAc 3<|S_a [(2,.v (I (m.getD i 0)))] (ap (zCh (0) (by omega):(List.map I m)[i]? = some (I (m.getD i 0))) an)<|zAc 2<|zAa<|zDQ (l.getD i 0=m.getD i 0) (fun k2=>(zAd 1<|zAa<|zAn<|E_a [] an (PV.bool false) [] ?_ rfl)) (fun k2=>(zAm<|zAg<|S_a [(1,.v (I (↑(i+1):Int)))] (ap (wrN i) an)<|zAc 1<|zAa ?_)))) (fun k1=>(zAM 0<|zAd 1<|zAa<|zAn<|E_a [] an (PV.bool true) [] ?_ rfl))
 ·simp;intro h;subst h;omega
 ·refine ⟨i+1,⟨by omega,?_⟩,by omega,by kernel_rfl,by kernel_rfl⟩
  exact zGV (d:=0) (by omega) (by omega) ha (by assumption)
 ·rw [List.take_of_length_le (by omega),List.take_of_length_le (by omega)] at ha
  simp [ha]
theorem f28 (l m:List (Int)) (hl:l.length<4294967296):FG 28 [.sl (l.map I),.sl (m.map I)] (.bool (decide (l=m))):=by
 refine zAe Tryz.f28 ?_
 refine zAd 1<|zAa<|zAd 2<|S_a [(8,.ret (PV.bool (decide (l=m))) [])] (ap (f98 l m (by omega)) an)<|zAc 1<|zAa<|zAn<|E_a [] an (PV.bool (decide (l=m))) [] rfl rfl
theorem f158 (l m:List (Int×Int)) (hl:l.length<4294967296):FG 158 [.sl (l.map prV),.sl (m.map prV)] (.bool (decide (l=m))):=by
 refine zAe Tryz.f158 ?_
 refine zAd 1<|zAa<|zAh<|zAd 1<|S_a [(0,.n l.length)] (ap (lnS prV l) an)<|zAc 1<|S_a [(0,.n m.length)] (ap (lnS prV m) an)<|zAc 1<|zAa<|zDQ ((↑l.length:Int)=(↑m.length:Int)) (fun k0=>(zAd 1<|zAa<|zAn<|E_a [] an (PV.bool false) [] ?_ rfl)) (fun k0=>(zAm<|zAh<|zAd 1<|S_a [(0,.n l.length)] (ap (lnS prV l) an)<|zAc 1<|zAa<|zAk 0 ?_))
 ·simp;intro h;subst h;simp at *
 refine zAy (fun i=>i≤l.length∧l.take i=m.take i) (fun i=>[(13,I (i:Nat))]) (fun i=>l.length-i) (0:Nat) (by simp) fun i ⟨hi,ha⟩=>?_
 refine zAd 1<|zAa<|zAh<|zDn ((↑i:Int)<(↑l.length:Int)) (fun k1=>(zAm<|zAh<|zAk 1<|zAd 2<|zAa<|zAd 2<|S_a [(2,.v (PV.agg [I (l.getD i default).fst,I (l.getD i default).snd]))] (ap (zCh default (by omega):(List.map prV l)[i]? = some (PV.agg [I (l.getD i default).fst,I (l.getD i default).snd])) an)<|zAc 3<|S_a [(2,.v (PV.agg [I (m.getD i default).fst,I (m.getD i default).snd]))] (ap (zCh default (by omega):(List.map prV m)[i]? = some (PV.agg [I (m.getD i default).fst,I (m.getD i default).snd])) an)<|zAc 1<|S_a [(0,.v (PV.bool !(decide ((l.getD i default).fst=(m.getD i default).fst)&&decide ((l.getD i default).snd=(m.getD i default).snd))))] (ap (zSw:zHt Tryz.prog BinOp.neq 108 (PV.agg [I (l.getD i default).fst,I (l.getD i default).snd]) (PV.agg [I (m.getD i default).fst,I (m.getD i default).snd])=some (PV.bool !(decide ((l.getD i default).fst=(m.getD i default).fst)&&decide ((l.getD i default).snd=(m.getD i default).snd)))) an)<|zAa<|zGb (!(decide ((l.getD i default).fst=(m.getD i default).fst)&&decide ((l.getD i default).snd=(m.getD i default).snd))) (fun k2=>(zAd 1<|zAa<|zAn<|E_a [] an (PV.bool false) [] ?_ rfl)) (fun k2=>(zAm<|zAg<|S_a [(1,.v (I (↑(i+1):Int)))] (ap (wrN i) an)<|zAc 1<|zAa ?_)))) (fun k1=>(zAM 0<|zAd 1<|zAa<|zAn<|E_a [] an (PV.bool true) [] ?_ rfl))
 ·simp;intro h;subst h;simp at *
 ·refine ⟨i+1,⟨by omega,?_⟩,by omega,by kernel_rfl,by kernel_rfl⟩
  exact zGV (d:=default) (by omega) (by omega) ha (by first | assumption | (simp only [Bool.not_eq_true,Bool.not_eq_false',Bool.and_eq_true,decide_eq_true_eq] at k2;exact Prod.ext k2.1 k2.2))
 ·rw [List.take_of_length_le (by omega),List.take_of_length_le (by omega)] at ha
  simp [ha]
theorem f78 (l m:List (Int×Int)) (hl:l.length<4294967296):FG 78 [.sl (l.map prV),.sl (m.map prV)] (.bool (decide (l=m))):=by
 refine zAe Tryz.f78 ?_
 refine zAd 1<|zAa<|zAd 2<|S_a [(8,.ret (PV.bool (decide (l=m))) [])] (ap (f158 l m (by omega)) an)<|zAc 1<|zAa<|zAn<|E_a [] an (PV.bool (decide (l=m))) [] rfl rfl
theorem f105 (l m:List (Int×Int)) (hl:l.length<4294967296):FG 105 [.sl (l.map prV),.sl (m.map prV)] (.bool (decide (l=m))):=by
 refine zAe Tryz.f105 ?_
 refine zAd 1<|zAa<|zAh<|zAd 1<|S_a [(0,.n l.length)] (ap (lnS prV l) an)<|zAc 1<|S_a [(0,.n m.length)] (ap (lnS prV m) an)<|zAc 1<|zAa<|zDQ ((↑l.length:Int)=(↑m.length:Int)) (fun k0=>(zAd 1<|zAa<|zAn<|E_a [] an (PV.bool false) [] ?_ rfl)) (fun k0=>(zAm<|zAh<|zAd 1<|S_a [(0,.n l.length)] (ap (lnS prV l) an)<|zAc 1<|zAa<|zAk 0 ?_))
 ·simp;intro h;subst h;simp at *
 refine zAy (fun i=>i≤l.length∧l.take i=m.take i) (fun i=>[(13,I (i:Nat))]) (fun i=>l.length-i) (0:Nat) (by simp) fun i ⟨hi,ha⟩=>?_
 refine zAd 1<|zAa<|zAh<|zDn ((↑i:Int)<(↑l.length:Int)) (fun k1=>(zAm<|zAh<|zAk 1<|zAd 2<|zAa<|zAd 2<|S_a [(2,.v (PV.agg [I (l.getD i default).fst,I (l.getD i default).snd]))] (ap (zCh default (by omega):(List.map prV l)[i]? = some (PV.agg [I (l.getD i default).fst,I (l.getD i default).snd])) an)<|zAc 3<|S_a [(2,.v (PV.agg [I (m.getD i default).fst,I (m.getD i default).snd]))] (ap (zCh default (by omega):(List.map prV m)[i]? = some (PV.agg [I (m.getD i default).fst,I (m.getD i default).snd])) an)<|zAc 1<|S_a [(0,.v (PV.bool !(decide ((l.getD i default).fst=(m.getD i default).fst)&&decide ((l.getD i default).snd=(m.getD i default).snd))))] (ap (zSw:zHt Tryz.prog BinOp.neq 37 (PV.agg [I (l.getD i default).fst,I (l.getD i default).snd]) (PV.agg [I (m.getD i default).fst,I (m.getD i default).snd])=some (PV.bool !(decide ((l.getD i default).fst=(m.getD i default).fst)&&decide ((l.getD i default).snd=(m.getD i default).snd)))) an)<|zAa<|zGb (!(decide ((l.getD i default).fst=(m.getD i default).fst)&&decide ((l.getD i default).snd=(m.getD i default).snd))) (fun k2=>(zAd 1<|zAa<|zAn<|E_a [] an (PV.bool false) [] ?_ rfl)) (fun k2=>(zAm<|zAg<|S_a [(1,.v (I (↑(i+1):Int)))] (ap (wrN i) an)<|zAc 1<|zAa ?_)))) (fun k1=>(zAM 0<|zAd 1<|zAa<|zAn<|E_a [] an (PV.bool true) [] ?_ rfl))
 ·simp;intro h;subst h;simp at *
 ·refine ⟨i+1,⟨by omega,?_⟩,by omega,by kernel_rfl,by kernel_rfl⟩
  exact zGV (d:=default) (by omega) (by omega) ha (by first | assumption | (simp only [Bool.not_eq_true,Bool.not_eq_false',Bool.and_eq_true,decide_eq_true_eq] at k2;exact Prod.ext k2.1 k2.2))
 ·rw [List.take_of_length_le (by omega),List.take_of_length_le (by omega)] at ha
  simp [ha]
theorem f34 (l m:List (Int×Int)) (hl:l.length<4294967296):FG 34 [.sl (l.map prV),.sl (m.map prV)] (.bool (decide (l=m))):=by
 refine zAe Tryz.f34 ?_
 refine zAd 1<|zAa<|zAd 2<|S_a [(8,.ret (PV.bool (decide (l=m))) [])] (ap (f105 l m (by omega)) an)<|zAc 1<|zAa<|zAn<|E_a [] an (PV.bool (decide (l=m))) [] rfl rfl
theorem f35 (l:List (Int)) (hl:l.length<1000000):FG 35 [.sl (l.map I)] (.own 1 (l.map I)):=by
 refine zAe Tryz.f35 ?_
 refine zAd 1<|zAa<|zAd 1<|S_a [(0,.n l.length)] (ap (lnS I l) an)<|S_a [(4,.ob),(0,.ob),(1,.v (PV.own 1 (List.map I (List.replicate l.length 0))))] (ap ((by exact zAq (by omega)):decide (l.length≤l.length)=true)<|ap ((by exact zAq (by simp [zAS]<;>omega)):decide (l.length≤zAS)=true)<|ap ((by simp):PV.own 1 (List.replicate l.length (I 0))=PV.own 1 (List.map I (List.replicate l.length 0))) an)<|zAc 1<|zAa<|zAd 2<|zUZ (fun q=>q) 3 1 (List.map I (List.replicate l.length 0)) (List.map I l) (List.map I l) (zSO fun _ _=>(by first | exact zLd | exact ⟨rfl,rfl,rfl,rfl,Nat.le_refl _,rfl⟩)) (by simp<;>omega) (zVM (by simp<;>omega)) zQd.nil (zAa<|zAd 1<|S_a [(2,.yes)] (ap ((by exact zBB (by simp<;>omega)):(Nat.beq 0 0&&(List.map I l).length.beq (List.map I l).length)=true) an)<|zAa<|zAn<|E_a [(1,.yes),(1,.v (PV.own 1 (List.map I l)))] (ap (blz (List.map I l))<|ap ((zAZ zBe):PV.own 1 (List.take (List.map I l).length (List.drop 0 (List.map I l)))=PV.own 1 (List.map I l)) an) (PV.own 1 (List.map I l)) [] rfl rfl)
theorem f89 (l:List (List Int)) (hl:l.length<1000000) (hr:∀ r∈l,r.length<1000000):FG 89 [.sl (l.map zA5)] (.own 1 (l.map zBl)):=by
 refine zAe Tryz.f89 ?_
 refine zAd 1<|zAa<|zAd 1<|S_a [(0,.n l.length)] (ap (lnS zA5 l) an)<|S_a [(4,.ob),(0,.ob),(1,.v (PV.own 1 (List.map (fun l=>PV.own 1 (List.map I l)) (List.replicate l.length []))))] (ap ((by exact zAq (by omega)):decide (l.length≤l.length)=true)<|ap ((by exact zAq (by simp [zAS]<;>omega)):decide (l.length≤zAS)=true)<|ap ((by simp):PV.own 1 (List.replicate l.length (PV.own 1 []))=PV.own 1 (List.map (fun l=>PV.own 1 (List.map I l)) (List.replicate l.length []))) an)<|zAc 1<|zAa<|zAh<|zAd 1<|S_a [(0,.n l.length)] (ap (lnS zA5 l) an)<|zAc 1<|zAa<|zAk 0 ?_
 refine zAy (fun (i,q)=>i≤l.length∧q=l.take i++List.replicate (l.length-i) []) (fun (i,q)=>[(3,.own 1 (q.map zBl)),(11,I (i:Nat))]) (fun (i,_)=>l.length-i) ((0:Nat),List.replicate l.length []) ⟨Nat.zero_le _,by simp⟩ fun (i,q) ⟨hi,hq⟩=>?_
 have wh:q.length=l.length:=by rw [hq];simp;omega
 by_cases yP:i<l.length
 ·have hri:=zBU (d:=[]) hr i yP
  refine zAd 1<|zAa<|zAh<|zA3 ((↑i:Int)<(↑l.length:Int)) (by omega)<|zAm<|zAh<|zAk 1<|zAd 1<|S_a [(2,.v (zA5 (l.getD i [])))] (ap (zCh [] (by omega):(List.map zA5 l)[i]? = some (zA5 (l.getD i []))) an)<|zAc 3<|zAa<|zAg<|zAc 3<|S_a [(6,.ret (PV.own 1 (List.map I (l.getD i []))) [])] (ap (f35 (l.getD i []) (by omega)) an)<|S_a [(2,.ob),(1,.n i)] (ap ((by exact zAq (by simp only [List.length_map,zzLn]<;>omega)):decide (i<(List.map zBl q).length)=true)<|ap ((by simp):some (0+i)=some i) an)<|S_a [(8,.root (PV.own 1 (List.map zBl (q.set i (l.getD i [])))) true)] (ap (zPG (zCh [] (by omega)) zG1:zBF (PV.own 1 (List.map zBl q)) [] i 0 (PV.own 1 (List.map I (l.getD i []))).cells=some (PV.own 1 (List.map zBl (q.set i (l.getD i []))))∧zAD (PV.own 1 (List.map zBl q)) (PV.own 1 (List.map zBl (q.set i (l.getD i [])))) []=true) an)<|zAa<|zAg<|S_a [(1,.v (I (↑(i+1):Int)))] (ap (wrN i) an)<|zAc 1<|zAa ?_
  refine ⟨(i+1,q.set i (l.getD i [])),⟨by omega,?_⟩,by simp only;omega,by kernel_rfl,by kernel_rfl⟩
  rw [hq,zBX (d:=[]) yP,zU3 yP]
 ·refine zAd 1<|zAa<|zAh<|zBd ((↑i:Int)<(↑l.length:Int)) (by omega)<|zAM 0<|zAd 1<|S_a [(2,.yes)] (ap ((by exact zBB (by simp<;>omega)):(Nat.beq 0 0&&(List.map zBl q).length.beq (List.map zBl q).length)=true) an)<|zAa<|zAn<|E_a [(1,.yes),(1,.v (PV.own 1 (List.map zBl q)))] (ap (blz (List.map zBl q))<|ap ((zAZ zBe):PV.own 1 (List.take (List.map zBl q).length (List.drop 0 (List.map zBl q)))=PV.own 1 (List.map zBl q)) an) (PV.own 1 (List.map zBl q)) [] ?_ rfl
  rw [hq,show l.length-i=0 by omega,List.take_of_length_le (by omega)];simp
theorem f136 (l:List (Int)) (x:Int) (hl:l.length<4294967296):FG 136 [.sl (l.map I),I x] (I (zEC (fun y=>decide (x=y)) l)):=by
 refine zAe Tryz.f136 ?_
 refine zAd 1<|zAa<|zAh<|zAd 1<|S_a [(0,.n l.length)] (ap (lnS I l) an)<|zAc 1<|zAa<|zAk 0 ?_
 refine zAy (fun i=>i≤l.length∧∀ j,j<i→decide (x=l.getD j 0)=false) (fun i=>[(8,I (i:Nat))]) (fun i=>l.length-i) (0:Nat) (by simp) fun i ⟨hi,ha⟩=>?_
 refine zAd 1<|zAa<|zAh<|zDn ((↑i:Int)<(↑l.length:Int)) (fun k0=>(zAm<|zAh<|zAk 1<|zAd 2<|zAa<|zAd 3<|S_a [(2,.v (I (l.getD i 0)))] (ap (zCh (0) (by omega):(List.map I l)[i]? = some (I (l.getD i 0))) an)<|zAc 2<|zAa<|zDn (x=l.getD i 0) (fun k1=>(zAd 2<|zAa<|zAn<|E_a [] an (I (↑i:Int)) [] ?_ rfl)) (fun k1=>(zAm<|zAg<|S_a [(1,.v (I (↑(i+1):Int)))] (ap (wrN i) an)<|zAc 1<|zAa ?_)))) (fun k0=>(zAM 0<|zAd 1<|zAa<|zAn<|E_a [] an (I (-1)) [] ?_ rfl))
 ·rw [zB5 (i:=i) (by omega) (fun j hj=>by rw [← zAB (d:=0)];exact ha j hj) (by rw [← zAB (d:=0)];simp only [decide_eq_true_eq,decide_eq_false_iff_not] at *;omega)]
 ·refine ⟨i+1,⟨by omega,fun j hj=>?_⟩,by omega,by kernel_rfl,by kernel_rfl⟩
  rcases Nat.lt_succ_iff_lt_or_eq.1 hj with h | rfl
  ·exact ha j h
  ·simp only [decide_eq_true_eq,decide_eq_false_iff_not] at *;omega
 ·rw [zCy fun j hj=>by rw [← zAB (d:=0)];exact ha j (by omega)]
theorem f58 (l:List (Int)) (x:Int) (hl:l.length<4294967296):FG 58 [.sl (l.map I),I x] (.bool (has l x)):=by
 refine zAe Tryz.f58 ?_
 refine zAd 1<|zAa<|zAd 2<|S_a [(8,.ret (I (zEC (fun y=>decide (x=y)) l)) [])] (ap (f136 l x (by omega)) an)<|zAc 2<|zAa<|zAn<|E_a [] an (PV.bool (decide (zEC (fun y=>decide (x=y)) l≥0))) [] ?_ rfl
 rw [zD9];rfl
theorem f65 (l:List (Int)) (hl:l.length<4294967296):FG 65 [.sl (l.map I)] (.own 1 (l.map I)):=zGr (fn:=Tryz.f65) I l (by omega)
theorem f123 (l:List (Int×Int)) (hl:l.length<4294967296):FG 123 [.sl (l.map prV)] (.own 2 (l.map prV)):=zGr (fn:=Tryz.f123) prV l (by omega)
theorem f61 (l:List (Int×Int)) (hl:l.length<4294967296):FG 61 [.sl (l.map prV)] (.own 2 (l.map prV)):=zGr (fn:=Tryz.f61) prV l (by omega)
theorem f210 (x:Int):FG 210 [I x] (.bool false):=by
 refine zAe Tryz.f210 ?_
 refine zAd 1<|zAa<|zAd 4<|zAa<|zAn<|E_a [] an (PV.bool (x != x)) [] (by simp [*]) rfl
theorem f182 (x y:Int):FG 182 [I x,I y] (.bool (decide (x<y))):=by
 refine zAe Tryz.f182 ?_
 refine zAd 1<|zAa<|zAd 1<|S_a [(6,.ret (PV.bool false) [])] (ap (f210 x) an)<|zAc 11<|zAa<|zAn<|E_a [] an (PV.bool (decide (x<y))) [] rfl rfl
end
end Go.Eng
set_option maxRecDepth 10000
set_option maxHeartbeats 4000000
namespace Go.Eng
open Go Go.Proofs
def zVX (o:List Int) (x:Int):List Int:=if o.getLast? = some x then o else o++[x]
def zGM (l:List Int):List Int:=l.foldl zVX []
theorem zQL (o:List Int) (x:Int):(zVX o x).getLast? = some x:=by
 unfold zVX;split
 ·assumption
 ·simp
theorem zHh {l:List Int} {i:Nat} (h:i<l.length):zGM (l.take (i+1))=zVX (zGM (l.take i)) (l.getD i 0):=zGE h
theorem zQJ {l:List Int} {i:Nat} (h:i<l.length):(zGM (l.take (i+1))).getLast? = some (l.getD i 0):=by
 rw [zHh h];exact zQL _ _
theorem zGR {l:List Int} {i:Nat} (h0:0<i) (h:i<l.length):zGM (l.take (i+1))=if l.getD i 0=l.getD (i-1) 0 then zGM (l.take i) else zGM (l.take i)++[l.getD i 0]:=by
 obtain ⟨j,rfl⟩:∃ j,i=j+1:=⟨i-1,by omega⟩
 rw [zHh h,zVX,zQJ (by omega)]
 simp only [Nat.add_sub_cancel,Option.some.injEq,eq_comm]
theorem zLs {S:List Int} {p:Nat} {x:Int} (h:p<S.length):(S.set p x).take (p+1)=S.take p++[x]:=by
 rw [zBX (d:=0) (by simpa using h),List.take_set_of_le (Nat.le_refl p),zDe,if_pos ⟨rfl,h⟩]
theorem zG3 {l:List Int}:∀ k,k≤l.length→(∀ j,1≤j→j<k→l.getD j 0≠l.getD (j-1) 0)→zGM (l.take k)=l.take k
 | 0,_,_=>rfl
 | k+1,hk,h=>by
  have ih:=zG3 k (by omega) fun j h1 h2=>h j h1 (by omega)
  cases k with
  | zero=>rw [zHh (by omega)];simp [zGM,zVX,zBX (d:=0) (show 0<l.length by omega)]
  | succ k=>rw [zGR (by omega) (by omega),if_neg (h (k+1) (by omega) (by omega)),ih,← zBX (by omega)]
def zQI (l:List Int):Bool:=(List.range (l.length-1)).all fun j=>decide (l.getD j 0<l.getD (j+1) 0)
def zFG (l:List Int):Bool:=(List.range (l.length-1)).all fun j=>decide (l.getD j 0≤l.getD (j+1) 0)
section
variable [Yo]
theorem f138 (l m:List (List Int)) (hl:l.length<4294967296) (hr:∀ r∈l,r.length<4294967296):FG 138 [.sl (l.map zA5),.sl (m.map zA5),.func 98 [] []] (.bool (decide (l=m))):=by
 refine zAe Tryz.f138 ?_
 refine zAd 1<|zAa<|zAh<|zAd 1<|S_a [(0,.n l.length)] (ap (lnS zA5 l) an)<|zAc 1<|S_a [(0,.n m.length)] (ap (lnS zA5 m) an)<|zAc 1<|zAa<|zDQ ((↑l.length:Int)=(↑m.length:Int)) (fun k0=>(zAd 1<|zAa<|zAn<|E_a [] an (PV.bool false) [] ?_ rfl)) (fun k0=>(zAm<|zAh<|zAd 1<|S_a [(0,.n l.length)] (ap (lnS zA5 l) an)<|zAc 1<|zAa<|zAk 0 ?_))
 ·simp;intro h;subst h;simp at *
 refine zAy (fun i=>i≤l.length∧l.take i=m.take i) (fun i=>[(17,I (i:Nat))]) (fun i=>l.length-i) (0:Nat) (by simp) fun i ⟨hi,ha⟩=>?_
 by_cases yP:i<l.length
 ·have hri:=zBU (d:=[]) hr i yP
  refine zAd 1<|zAa<|zAh<|zA3 ((↑i:Int)<(↑l.length:Int)) (by omega)<|zAm<|zAh<|zAk 1<|zAd 1<|S_a [(2,.v (zA5 (l.getD i [])))] (ap (zCh [] (by omega):(List.map zA5 l)[i]? = some (zA5 (l.getD i []))) an)<|zAc 3<|zAa<|zAd 2<|S_a [(2,.v (zA5 (m.getD i [])))] (ap (zCh [] (by omega):(List.map zA5 m)[i]? = some (zA5 (m.getD i []))) an)<|zAc 2<|zAa<|zAd 3<|S_a [(8,.ret (PV.bool (decide (l.getD i []=m.getD i []))) [])] (ap (f98 (l.getD i []) (m.getD i []) (by omega)) an)<|zAc 1<|zAa<|zDQ (l.getD i []=m.getD i []) (fun k1=>(zAd 1<|zAa<|zAn<|E_a [] an (PV.bool false) [] ?_ rfl)) (fun k1=>(zAm<|zAg<|S_a [(1,.v (I (↑(i+1):Int)))] (ap (wrN i) an)<|zAc 1<|zAa ?_))
  ·simp;intro h;subst h;simp at *
  ·refine ⟨i+1,⟨by omega,?_⟩,by omega,by kernel_rfl,by kernel_rfl⟩
   exact zGV (d:=[]) (by omega) (by omega) ha (by assumption)
 ·refine zAd 1<|zAa<|zAh<|zBd ((↑i:Int)<(↑l.length:Int)) (by omega)<|zAM 0<|zAd 1<|zAa<|zAn<|E_a [] an (PV.bool true) [] ?_ rfl
  rw [List.take_of_length_le (by omega),List.take_of_length_le (by omega)] at ha
  simp [ha]
theorem f62 (l m:List (List Int)) (hl:l.length<4294967296) (hr:∀ r∈l,r.length<4294967296):FG 62 [.sl (l.map zA5),.sl (m.map zA5)] (.bool (decide (l=m))):=by
 refine zAe Tryz.f62 ?_
 refine zAd 1<|zAa<|zAd 2<|S_a [(9,.ret (PV.bool (decide (l=m))) [])] (ap (f138 l m (by omega) (by omega)) an)<|zAc 1<|zAa<|zAn<|E_a [] an (PV.bool (decide (l=m))) [] rfl rfl
theorem f155 (l:List Int) (hl:l.length<4294967296):FG 155 [zA5 l] (.bool (zFG l)):=by
 refine zAe Tryz.f155 ?_
 refine zAd 1<|zAa<|zAh<|zAd 1<|S_a [(0,.n l.length)] (ap (lnS I l) an)<|S_a [(1,.v (I ((↑l.length:Int)-1)))] (ap ((zCr rfl (by omega)):I (IntKind.i64.wrap ((↑l.length:Int)-1))=I ((↑l.length:Int)-1)) an)<|zAc 1<|zAa<|zAk 0 ?_
 refine zAy (fun (x:Int)=>x<l.length∧∀ j:Nat,x<j→j<l.length→0<j→l.getD (j-1) 0≤l.getD j 0) (fun x=>[(3,I x)]) (fun x=>x.toNat) ((l.length:Int)-1) ⟨by omega,fun j h1 h2=>by omega⟩ fun x ⟨hi,ha⟩=>?_
 have e2:(x-1).toNat=x.toNat-1:=by omega
 by_cases h1:0<x
 ·refine zAh<|zAd 2<|zAa<|zA3 (x>0) (by omega)<|zAm<|zAh<|zAk 1<|zAd 2<|S_a [(0,.ob),(1,.v (I (l.getD x.toNat 0)))] (ap ((by exact zAq (by omega)):decide (0≤x)=true)<|ap (zCh (0) (by omega):(List.map I l)[x.toNat]? = some (I (l.getD x.toNat 0))) an)<|zAc 3<|S_a [(1,.v (I (x-1)))] (ap ((zCr rfl (by omega)):I (IntKind.i64.wrap (x-1))=I (x-1)) an)<|S_a [(0,.ob),(1,.v (I (l.getD (x-1).toNat 0)))] (ap ((by exact zAq (by omega)):decide (0≤x-1)=true)<|ap (zCh (0) (by omega):(List.map I l)[(x-1).toNat]? = some (I (l.getD (x-1).toNat 0))) an)<|zAc 1<|S_a [(8,.ret (PV.bool (decide (l.getD x.toNat 0<l.getD (x-1).toNat 0))) [])] (ap (f182 (l.getD x.toNat 0) (l.getD (x-1).toNat 0)) an)<|zAa<|zDn (l.getD x.toNat 0<l.getD (x-1).toNat 0) (fun k0=>(zAd 1<|zAa<|zAn<|E_a [] an (PV.bool false) [] ?_ rfl)) (fun k0=>(zAm<|zAg<|zAc 1<|S_a [(1,.v (I (x-1)))] (ap ((zCr rfl (by omega)):I (IntKind.i64.wrap (x-1))=I (x-1)) an)<|zAc 1<|zAa ?_))
  ·rw [e2] at k0
   have:zFG l=false:=by
    simp only [zFG,List.all_eq_false]
    exact ⟨x.toNat-1,List.mem_range.2 (by omega),by rw [show x.toNat-1+1=x.toNat by omega];simp only [decide_eq_true_eq];omega⟩
   rw [this]
  ·rw [e2] at k0
   refine ⟨x-1,⟨by omega,fun j h3 h4 h5=>?_⟩,by omega,by kernel_rfl,by kernel_rfl⟩
   by_cases hj:j=x.toNat
   ·subst hj;omega
   ·exact ha j (by omega) h4 h5
 ·refine zAh<|zAd 2<|zAa<|zBd (x>0) (by omega)<|zAM 0<|zAd 1<|zAa<|zAn<|E_a [] an (PV.bool true) [] ?_ rfl
  have:zFG l=true:=by
   simp only [zFG,List.all_eq_true,List.mem_range,decide_eq_true_eq]
   exact fun j hj=>by have:=ha (j+1) (by omega) (by omega) (by omega);simpa using this
  rw [this]
theorem f97 (l:List Int) (hl:l.length<4294967296):FG 97 [.own 1 (l.map I)] (.own 1 ((zGM l).map I)):=by
 refine zAe Tryz.f97 ?_
 refine zAd 1<|zAa<|zAh<|zAd 1<|S_a [(0,.n l.length)] (ap (lnS I l) an)<|zAc 1<|zAa<|zDn ((↑l.length:Int)<2) (fun k0=>(zAd 1<|S_a [(2,.yes)] (ap ((by exact zBB (by simp<;>omega)):(Nat.beq 0 0&&(List.map I l).length.beq (List.map I l).length)=true) an)<|zAa<|zAn<|E_a [(1,.yes),(1,.v (PV.own 1 (List.map I l)))] (ap (blz (List.map I l))<|ap ((zAZ zBe):PV.own 1 (List.take (List.map I l).length (List.drop 0 (List.map I l)))=PV.own 1 (List.map I l)) an) (PV.own 1 (List.map I l)) [] ?_ rfl)) (fun k0=>(zAm<|zAh<|zAd 1<|zAa<|zAk 0 ?_))
 ·have:=zG3 (l:=l) l.length (Nat.le_refl _) fun j h1 h2=>by omega
  rw [List.take_length] at this
  rw [this]
 ·refine zAy (fun k=>1≤k∧k≤l.length∧∀ j,1≤j→j<k→l.getD j 0≠l.getD (j-1) 0) (fun k=>[(3,I (k:Nat))]) (fun k=>l.length-k) (1:Nat) ⟨by omega,by omega,fun j h1 h2=>absurd h1 (by omega)⟩ fun k ⟨jR,hk,ha⟩=>?_
  have kA:=zG3 k hk ha
  refine zAh<|zAd 2<|S_a [(0,.n l.length)] (ap (lnS I l) an)<|zAc 1<|zAa<|zDn ((↑k:Int)<(↑l.length:Int)) (fun k2=>(zAm<|zAh<|zAk 1<|zAd 2<|S_a [(2,.ob),(1,.n k)] (ap ((by exact zAq (by simp only [List.length_map,zzLn]<;>omega)):decide (k<(List.map I l).length)=true)<|ap ((by simp):some (0+k)=some k) an)<|S_a [(0,.cs false ([I (l.getD k 0)]))] (ap (zCu (q:=PV.own 1 (List.map I l)) (xs:=List.map I l) (x:=I (l.getD k 0)) rfl (zCh (0) (by omega)):zAr 0 (PV.own 1 (List.map I l)) [] k 0 1=some (false,[I (l.getD k 0)])) an)<|zAc 2<|S_a [(1,.v (I (↑(k-1):Int)))] (ap ((zCr (by omega) (by omega)):I (IntKind.i64.wrap ((↑k:Int)-1))=I (↑(k-1):Int)) an)<|S_a [(2,.ob),(1,.n (k-1))] (ap ((by exact zAq (by simp only [List.length_map,zzLn]<;>omega)):decide (k-1<(List.map I l).length)=true)<|ap ((by simp):some (0+(k-1))=some (k-1)) an)<|S_a [(0,.cs false ([I (l.getD (k-1) 0)]))] (ap (zCu (q:=PV.own 1 (List.map I l)) (xs:=List.map I l) (x:=I (l.getD (k-1) 0)) rfl (zCh (0) (by omega)):zAr 0 (PV.own 1 (List.map I l)) [] (k-1) 0 1=some (false,[I (l.getD (k-1) 0)])) an)<|zAc 1<|zAa<|zDn (l.getD k 0=l.getD (k-1) 0) (fun k3=>(zAd 2<|S_a [(3,.ob),(0,.yes),(0,.yes),(0,.v (PV.bor 0 [] 1 k (l.length-k)))] (ap ((by exact zA4 (by simp only [List.length_map,zzLn,zAS]<;>omega)):k.ble (List.map I l).length=true)<|ap ((by exact zA4 (by simp only [List.length_map,zzLn,zAS]<;>omega)):(List.map I l).length.ble (List.map I l).length=true)<|ap ((by simp<;>omega):(k.beq 0||k.blt (List.map I l).length)=true)<|ap ((by simp):PV.bor 0 [] 1 (0+k) ((List.map I l).length-k)=PV.bor 0 [] 1 k (l.length-k)) an)<|zAc 1<|zAa<|zAh<|zAd 1<|zAa<|zAk 2 ?_)) (fun k3=>(zAm<|zAg<|zAc 1<|S_a [(1,.v (I (↑(k+1):Int)))] (ap (wrN k) an)<|zAc 1<|zAa ?_)))) (fun k2=>(zAM 0<|zAd 1<|S_a [(2,.yes)] (ap ((by exact zBB (by simp<;>omega)):(Nat.beq 0 0&&(List.map I l).length.beq (List.map I l).length)=true) an)<|zAa<|zAn<|E_a [(1,.yes),(1,.v (PV.own 1 (List.map I l)))] (ap (blz (List.map I l))<|ap ((zAZ zBe):PV.own 1 (List.take (List.map I l).length (List.drop 0 (List.map I l)))=PV.own 1 (List.map I l)) an) (PV.own 1 (List.map I l)) [] ?_ rfl))
  ·have e0:zGM (l.take (k+1))=l.take k:=by rw [zGR (by omega) (by omega),if_pos k3,kA]
   clear ha kA
   refine zAy (fun (p,q,S)=>1≤q∧k+q≤l.length∧p<k+q∧S.length=l.length∧S.take p=zGM (l.take (k+q))∧∀ j,k+q≤j+1→S.getD j 0=l.getD j 0) (fun (p,q,S)=>[(0,.own 1 (S.map I)),(3,I (p:Nat)),(5,I (q:Nat))]) (fun (p,q,S)=>l.length-(k+q)) (k,(1:Nat),l) ⟨by omega,by omega,by omega,rfl,e0.symm,fun _ _=>rfl⟩ fun (p,q,S) ⟨hq,hkq,hp,hS,hc,hd⟩=>?_
   have uu:(zGM (l.take (k+q))).length=p:=by rw [← hc,List.length_take];omega
   by_cases wD:k+q<l.length
   ·have hx:=hd (k+q) (by omega)
    have hy:=hd (k+q-1) (by omega)
    have yJ:=zGR (l:=l) (i:=k+q) (by omega) wD
    have gh:=hd
    clear hd
    refine zAh<|zAd 4<|zAa<|zA3 ((↑q:Int)<(↑(l.length-k):Int)) (by omega)<|zAm<|zAh<|zAk 3<|zAd 2<|S_a [(2,.ob)] (ap ((by exact zAq (by omega)):decide (q<l.length-k)=true) an)<|S_a [(0,.cs false ([I (S.getD (k+q) 0)]))] (ap (zCu (q:=PV.own 1 (List.map I S)) (xs:=List.map I S) (x:=I (S.getD (k+q) 0)) rfl (zCh (0) (by omega)):zAr 0 (PV.own 1 (List.map I S)) [] (k+(↑q:Int).toNat) 0 1=some (false,[I (S.getD (k+q) 0)])) an)<|zAc 2<|S_a [(1,.v (I (↑(q-1):Int)))] (ap ((zCr (by omega) (by omega)):I (IntKind.i64.wrap ((↑q:Int)-1))=I (↑(q-1):Int)) an)<|S_a [(2,.ob)] (ap ((by exact zAq (by omega)):decide (q-1<l.length-k)=true) an)<|S_a [(0,.cs false ([I (S.getD (k+(q-1)) 0)]))] (ap (zCu (q:=PV.own 1 (List.map I S)) (xs:=List.map I S) (x:=I (S.getD (k+(q-1)) 0)) rfl (zCh (0) (by omega)):zAr 0 (PV.own 1 (List.map I S)) [] (k+(↑(q-1):Int).toNat) 0 1=some (false,[I (S.getD (k+(q-1)) 0)])) an)<|zAc 1<|zAa<|zDQ (S.getD (k+q) 0=S.getD (k+(q-1)) 0) (fun k4=>(zAd 4<|S_a [(2,.ob)] (ap ((by exact zAq (by omega)):decide (q<l.length-k)=true) an)<|S_a [(0,.cs false ([I (S.getD (k+q) 0)]))] (ap (zCu (q:=PV.own 1 (List.map I S)) (xs:=List.map I S) (x:=I (S.getD (k+q) 0)) rfl (zCh (0) (by omega)):zAr 0 (PV.own 1 (List.map I S)) [] (k+(↑q:Int).toNat) 0 1=some (false,[I (S.getD (k+q) 0)])) an)<|S_a [(2,.ob),(1,.n p)] (ap ((by exact zAq (by simp only [List.length_map,zzLn]<;>omega)):decide (p<(List.map I S).length)=true)<|ap ((by simp):some (0+p)=some p) an)<|S_a [(8,.root (PV.own 1 (List.map I (S.set p (S.getD (k+q) 0)))) true)] (ap (zPG (zCh (0) (by omega)) zG1:zBF (PV.own 1 (List.map I S)) [] p 0 (I (S.getD (k+q) 0)).cells=some (PV.own 1 (List.map I (S.set p (S.getD (k+q) 0))))∧zAD (PV.own 1 (List.map I S)) (PV.own 1 (List.map I (S.set p (S.getD (k+q) 0)))) []=true) an)<|zAa<|zAg<|zAc 1<|S_a [(1,.v (I (↑(p+1):Int)))] (ap (wrN p) an)<|zAc 1<|zAa<|zAg<|zAc 1<|S_a [(1,.v (I (↑(q+1):Int)))] (ap (wrN q) an)<|zAc 1<|zAa ?_)) (fun k4=>(zAm<|zAg<|zAc 1<|S_a [(1,.v (I (↑(q+1):Int)))] (ap (wrN q) an)<|zAc 1<|zAa ?_))
    ·rw [show k+(q-1)=k+q-1 by omega,hx,hy] at k4
     rw [if_neg k4] at yJ
     refine ⟨(p+1,q+1,S.set p (S.getD (k+q) 0)),⟨by omega,by omega,by omega,by simpa using hS,?_,fun j hj=>?_⟩,by simp only;omega,by kernel_rfl,by kernel_rfl⟩
     ·rw [← Nat.add_assoc,yJ,← hc,hx,zLs (by omega)]
     ·rw [zDe,if_neg (by omega)];exact gh j (by omega)
    ·rw [show k+(q-1)=k+q-1 by omega,hx,hy] at k4
     rw [if_pos k4] at yJ
     exact ⟨(p,q+1,S),⟨by omega,by omega,by omega,hS,by rw [← Nat.add_assoc,yJ,hc],fun j hj=>gh j (by omega)⟩,by simp only;omega,by kernel_rfl,by kernel_rfl⟩
   ·refine zAh<|zAd 4<|zAa<|zBd ((↑q:Int)<(↑(l.length-k):Int)) (by omega)<|zAM 2<|zAd 2<|S_a [(3,.ob),(0,.yes),(0,.yes),(0,.v (PV.bor 0 [] 1 p (S.length-p)))] (ap ((by exact zA4 (by simp only [List.length_map,zzLn,zAS]<;>omega)):p.ble (List.map I S).length=true)<|ap ((by exact zA4 (by simp only [List.length_map,zzLn,zAS]<;>omega)):(List.map I S).length.ble (List.map I S).length=true)<|ap ((by simp<;>omega):(p.beq 0||p.blt (List.map I S).length)=true)<|ap ((by simp):PV.bor 0 [] 1 (0+p) ((List.map I S).length-p)=PV.bor 0 [] 1 p (S.length-p)) an)<|zQh (g:=I) (fun q=>q) 0 1 p (S.length-p) S (0) (by first | omega | (simp<;>omega)) ⟨rfl,rfl⟩ (fun _=>(by first | exact zLd | exact ⟨rfl,rfl,rfl,rfl,Nat.le_refl _,rfl⟩)) zQd.nil (zAa<|zAd 2<|S_a [(4,.yes)] (ap ((by exact zA4 (by simp<;>omega)):p.ble (List.map I (List.take p S++List.replicate (S.length-p) 0++List.drop (p+(S.length-p)) S)).length=true) an)<|zAc 1<|zAa<|zAn<|E_a [(1,.yes),(1,.v (PV.own 1 (List.map I (List.take p (List.take p S++List.replicate (S.length-p) 0++List.drop (p+(S.length-p)) S)))))] (ap ((by exact zA4 (by simp<;>omega)):(0+((↑p:Int).toNat-0)).ble (List.map I (List.take p S++List.replicate (S.length-p) 0++List.drop (p+(S.length-p)) S)).length=true)<|ap ((by simp):PV.own 1 (List.take p (List.drop 0 (List.map I (List.take p S++List.replicate (S.length-p) 0++List.drop (p+(S.length-p)) S))))=PV.own 1 (List.map I (List.take p (List.take p S++List.replicate (S.length-p) 0++List.drop (p+(S.length-p)) S)))) an) (PV.own 1 (List.map I (List.take p (List.take p S++List.replicate (S.length-p) 0++List.drop (p+(S.length-p)) S)))) [] ?_ rfl)
    rw [show k+q=l.length by omega,List.take_length] at hc
    rw [← hc,List.append_assoc,List.take_append_of_le_length (by rw [List.length_take];omega),List.take_take,Nat.min_self]
  ·refine ⟨k+1,⟨by omega,by omega,fun j h1 h2=>?_⟩,by omega,by kernel_rfl,by kernel_rfl⟩
   by_cases hj:j=k
   ·subst hj;assumption
   ·exact ha j h1 (by omega)
  ·rw [show k=l.length by omega,List.take_length] at kA
   rw [kA]
end
end Go.Eng
