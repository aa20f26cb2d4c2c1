/- The payments that are told clear balances; they are as many as there are people with a balance less the groups; without one of them the others do not clear (up to 7 balances of numbers; any payment). -/
import Derived.Test.YtpmbobnmpehobaaPd
import Derived.ProofKit
import Derived.ChangeArms
import Derived.Test.YtpmbobnmpehobaaProg
import Derived.Test.YtpmbobnmpehobaaPa
import Derived.Test.YtpmbobnmpehobaaRows
set_option linter.unusedVariables false
set_option linter.unusedSimpArgs false
set_option linter.unusedSectionVars false
namespace Go.Eng
open Go Go.ChangeShapes Go.WideShapes Go.ChangeAt Go.RowKit
section
variable {H:Type} {enc:TypeId×Value→H} {P:Program}
theorem zM1 {f:Func} {s:ChangeSpec} {apart fresh jM again:Bool} {W W':World} {args:Array Value} {v:Value} {ds gs:List (DataW H)} {before pa pv:List MemPlace}
  (hW:DataW.Whole enc P f.params.toList s.vars apart W args.toList ds gs before)
  (y4:∀ (b:Nat) (sp:Nat→Bool) (hd:Bool),DataW.TrodAll enc P W' b sp hd f.resultTypes.toList (v.resultList f.resultTypes.size) (s.fn H (ds++gs)).results [])
  (yG:∀ sp:Nat→Bool,(∀ p∈before,sp p.block=true)→DataW.TrodAll enc P W' 0 sp true f.params.toList args.toList (s.fn H (ds++gs)).args pa)
  (je:∀ sp:Nat→Bool,(∀ p∈before,sp p.block=true)→DataW.TrodVars enc P W' sp s.vars (s.fn H (ds++gs)).vars pv)
  (y6:before=pa++pv) (hold':∀ b,b<W.heap.size→W'.heap[b]? = W.heap[b]?) (hk:W.keptBut W' (· ∈ before))
  (yD:∀ (j:Nat) (t:TypeId) (r:Value),f.resultTypes[j]? = some t→(v.resultList f.resultTypes.size)[j]? = some r→Value.okWide P W' .any 0 t r) :
  s.post enc P f apart fresh jM again W args v W':=by
 have yK:=hW.lt
 have hold:∀ p∈before,(fun b=>decide (b<W.heap.size)) p.block=true:=fun p hp=>by simpa using yK p hp
 refine ⟨ds,gs,before,[],pa,pv,hW,y4 _ _ _,yG _ hold,je _ hold,World.keptBut_mono (fun p hp=>⟨hp,?_⟩) hk,fun _=>?_⟩
 ·rw [y6,List.mem_append] at hp
  exact Or.inr hp
 ·obtain ⟨_,_,_,_,_,hz,hn⟩:=hW
  refine ⟨yD,_,_,([]++pa)++pv,⟨[]++pa,pv,trodAll_append (yG _ (fun _ _=>rfl)) (y4 _ _ _),je _ (fun _ _=>rfl),rfl,?_,?_⟩,?_⟩
  ·intro b off hp
   have jI:MemPlace.cell b off∈before:=by rw [y6];simpa using hp
   have h1:=hz b off jI
   have h2:=yK _ jI
   unfold World.frozen? at h1 ⊢
   rw [hold' b h2];exact h1
  ·intro ha
   have:=hn ha
   rw [y6] at this
   simpa using this
  ·intro p hp _
   rw [y6]
   simpa using hp
theorem zGG {W W':World} {sp':Nat→Bool} (hl:laidOutB P=true) (hb:Below W.heap.size W W'):∀ {ts:List TypeId} {vs:List Value} {ds:List (DataW H)} {ps:List MemPlace},(∀ t∈ts,P.readableRec t=true∧t<P.types.size)→DataW.TrodAll enc P W 0 (fun _=>true) true ts vs ds ps→(∀ x∈ps,x.block<W.heap.size)→(∀ x∈ps,sp' x.block=true) →
  DataW.TrodAll enc P W' 0 sp' true ts vs ds ps
 | [],vs,ds,ps,_,h,_,_=>by
  obtain ⟨rfl,rfl,rfl⟩:=trodAll_nil h
  exact trodAll_mk0
 | t::ts,vs,ds,ps,ht,h,yK,hs=>by
  obtain ⟨v,vs',d,ds',p,q,rfl,rfl,rfl,h1,h2⟩:=trodAll_cons h
  exact ⟨p,q,WideElems.Trod_stays hl (ht t (by simp)).1 (ht t (by simp)).2 h1 (fun x hx=>hb.same (yK x (by simp [hx]))) (fun x hx=>hs x (by simp [hx])),zGG hl hb (fun t h=>ht t (by simp [h])) h2 (fun x hx=>yK x (by simp [hx])) (fun x hx=>hs x (by simp [hx])),rfl⟩
theorem zRN {f:Func} {s:ChangeSpec} {apart fresh jM again:Bool} {W W':World} {args:Array Value} {ds:List (DataW H)} {before:List MemPlace} {tb:TypeId} (hl:laidOutB P=true) (je:s.vars=[]) (htb:P.underlying tb=some .bool) (wK:f.resultTypes=#[tb]) (ud:∀ t∈f.params.toList,P.readableRec t=true∧t<P.types.size)
  (jx:s.fn H ds={results:=[.lit (.bool true)],args:=ds}) (hW:DataW.Whole enc P f.params.toList s.vars apart W args.toList ds [] before)
  (h1:W.heap.size≤W'.heap.size) (h2:∀ b,b<W.heap.size→W'.heap[b]? = W.heap[b]?) (h3:W'.os=W.os) (h4:W'.tape=W.tape) (h5:W'.output=W.output):s.post enc P f apart fresh jM again W args (.bool true) W':=by
 have yK:=hW.lt
 have hb:Below W.heap.size W W':=⟨h3,h4,h5,h1,h2⟩
 obtain ⟨pa,pv,hA,hV,y6,hz,hn⟩:=id hW
 have hpv:pv=[]:=by
  rw [je] at hV
  exact (trodVars_none hV).2
 subst hpv
 have hrl:(Value.bool true).resultList f.resultTypes.size=[.bool true]:=by rw [wK];rfl
 have gI:s.fn H (ds++[])={results:=[.lit (.bool true)],args:=ds}:=by rw [List.append_nil];exact jx
 have wR:∀ x∈pa,x.block<W.heap.size:=fun x hx=>yK x (by rw [y6];simp [hx])
 refine zM1 (pa:=pa) (pv:=[]) hW (fun b sp hd=>?_) (fun sp yY=>?_) (fun sp yY=>?_) y6 h2 ?_ ?_
 ·rw [hrl,wK,gI];exact trodAll_mk1 (shut_bool htb true)
 ·rw [gI];exact zGG hl hb ud hA wR (fun x hx=>yY x (by rw [y6];simp [hx]))
 ·rw [je,gI];rfl
 ·refine ⟨h3,h5,fun i hi=>?_⟩
  rw [h2 i hi]
  cases W.heap[i]? with
  | none=>rfl
  | some o=>cases o<;>first | exact ⟨rfl,rfl,rfl,fun _ _=>rfl⟩ | exact .inr ⟨rfl,rfl⟩ | rfl
 ·exact ok_one wK rfl (okWide_bool_mk htb true)
end
end Go.Eng
namespace Go.Eng
open Go
section
variable {w:World} {Φ:Nat→Prop} {A:Al}
end
end Go.Eng
namespace Go.Eng
open Go
section
variable {P:Program} {H:zBk}
theorem zQF {f:FuncId} {fn:Func} (h:P.funcs[f]? = some fn):fn∈P.funcs.toList:=by
 rw [← Array.getElem?_toList] at h
 exact List.mem_of_getElem? h
theorem zK1 (h : (P.funcs.toList.all fun fn => !(fn.name == "runtime.NumGoroutine")) = true) : zEB P := fun f fn hf => by
  have:=List.all_eq_true.1 h fn (zQF hf)
  simpa using this
theorem zUK (h:((List.range P.funcs.size).all fun f=>bif Nat.beq (H f).intr 0 then (match P.funcs[f]? with
  | some fn=>zTM P fn
  | none=>true) else true)=true):Fit P H:=fun f fn hf hi=>by
 have yK:=(Array.getElem?_eq_some_iff.1 hf).1
 have:=List.all_eq_true.1 h f (List.mem_range.2 yK)
 rw [hi,hf] at this
 exact this
end
end Go.Eng
namespace Go.Eng
open Go Go.ChangeShapes Go.WideShapes Go.ChangeAt Go.RowKit
inductive Sh where
 | num (k:IntKind)
 | bool
 | list (ag:Bool) (parts:List Sh)
mutual
def zVw:Sh→PV→Prop
 | .num k,p=>∃ n,p = .int k n∧k.min≤n∧n≤k.max
 | .bool,p=>∃ b,p = .bool b
 | .list ag ss,p=>∃ xs,p = .sl xs∧xs.length≤maxLen∧∀ x∈xs,zEm ss x.cells∧x.isAgg=ag
def zEm:List Sh→List PV→Prop
 | [],ps=>ps=[]
 | s::ss,ps=>∃ p qs,ps=p::qs∧zVw s p∧zEm ss qs
end
def zSR (P:Program) (t:TypeId):Bool :=
 match P.underlying t with
 | some (.struct _)=>true
 | _=>false
def zG7 (P:Program) (sh:TypeId→Option (List Sh)) (n:Nat):List Field→Nat→Option (List Sh)
 | [],off=>if off=n then some [] else none
 | f::fs,off=>if f.offset=off then match sh f.type with
  | some a=>if a.length=P.cellsOf f.type then (zG7 P sh n fs (off+P.cellsOf f.type)).map (a++·) else none
  | none=>none else none
def zDS (P:Program):Nat→TypeId→Option (List Sh)
 | 0,_=>none
 | n + 1,t=>match P.underlying t with
  | some (.int k)=>some [.num k]
  | some .bool=>some [.bool]
  | some (.slice e)=>match zDS P n e with
   | some ss=>if ss.length=P.cellsOf e∧0<ss.length∧(zSR P e=true∨ss.length=1) then some [.list (zSR P e) ss] else none
   | none=>none
  | some (.struct fs)=>zG7 P (zDS P n) (P.cellsOf t) fs.toList 0
  | _=>none
section
variable {H:Type} {enc:TypeId×Value→H} {P:Program} {w:World} {spare:Nat→Bool} {vJ:Bool} {Φ:Nat→Prop} {base:Nat}
theorem zEm.app:∀ {a b:List Sh} {p q:List PV},zEm a p→zEm b q→zEm (a++b) (p++q)
 | [],b,p,q,h1,h2=>by simp only [zEm] at h1;subst h1;exact h2
 | s::a,b,p,q,h1,h2=>by
  obtain ⟨x,xs,rfl,h3,h4⟩:=h1
  exact ⟨x,xs++q,rfl,h3,zEm.app h4 h2⟩
theorem zEm.length:∀ {a:List Sh} {p:List PV},zEm a p→p.length=a.length
 | [],p,h=>by simp only [zEm] at h;subst h;rfl
 | s::a,p,h=>by
  obtain ⟨x,xs,rfl,_,h4⟩:=h
  simp [zEm.length h4]
theorem zMp {sh:TypeId→Option (List Sh)} {N n:Nat} {cs:List Value} (jU:cs.length=N) (ih:∀ t (vs:List Value) x ss,sh t=some ss→DataW.trod enc P w 0 spare vJ n t vs=some x→∃ ps,zEm ss ps∧zA1 w Φ zCj ps vs []) :
  ∀ (fs:List Field) (off:Nat) (ss:List Sh),zG7 P sh N fs off=some ss→(∀ f∈fs,∃ y,DataW.trod enc P w 0 spare vJ n f.type ((cs.drop f.offset).take (P.cellsOf f.type))=some y)→off≤N→∃ ps,zEm ss ps∧zA1 w Φ zCj ps (cs.drop off) []
 | [],off,ss,h,_,yI=>by
  simp only [zG7] at h
  split at h
  ·rename_i he
   cases h
   exact ⟨[],rfl,by rw [List.drop_eq_nil_of_le (by omega)];exact ⟨rfl,rfl⟩⟩
  ·cases h
 | f :: fs,off,ss,h,hf,yI=>by
  simp only [zG7] at h
  split at h
  ·rename_i ho
   cases hs:sh f.type with
   | none=>rw [hs] at h;cases h
   | some a =>
    rw [hs] at h;simp only at h
    split at h
    ·rename_i kq
     obtain ⟨b,hb,rfl⟩:=Option.map_eq_some_iff.1 h
     obtain ⟨y,hy⟩:=hf f (by simp)
     rw [ho] at hy
     obtain ⟨ps,h1,h2⟩:=ih _ _ _ _ hs hy
     have hl:=h2.length
     have ue:=h1.length
     simp only [List.length_take,List.length_drop] at hl
     have qn:off+P.cellsOf f.type≤N:=by omega
     obtain ⟨qs,h3,h4⟩:=zMp jU ih fs _ b hb (fun g hg=>hf g (by simp [hg])) qn
     refine ⟨ps++qs,h1.app h3,?_⟩
     have:=h2.append h4
     rw [← List.drop_drop,List.take_append_drop] at this
     exact this
    ·cases h
  ·cases h
theorem zQV {s:Nat} {ag:Bool} {ss:List Sh} (hs:0<s) (jX:ag=true∨s=1):∀ (len:Nat) (c:List Value),c.length=len*s→(∀ i,i<len→∃ ps,zEm ss ps∧ps.length=s∧zA1 w Φ zCj ps ((c.drop (i*s)).take s) []) →
  ∃ (xs:List PV) (us:List Value),xs.length=len∧(∀ x∈xs,zEm ss x.cells∧x.isAgg=ag∧x.cells.length=s)∧(∀ u∈us,u.cells.size=s)∧us.map zCh=xs.map PV.isAgg∧c=flat us∧zA1 w Φ zCj xs us []
 | 0,c,hc,_=>⟨[],[],rfl,by simp,by simp,rfl,by rw [Nat.zero_mul] at hc;rw [List.eq_nil_of_length_eq_zero hc];rfl,rfl,rfl⟩
 | len + 1,c,hc,h=>by
  obtain ⟨ps,h1,h2,h3⟩:=h 0 (by omega)
  simp only [Nat.zero_mul,List.drop_zero] at h3
  have yL:(c.take s).length=s:=by simp;rw [hc,Nat.add_mul];omega
  obtain ⟨xs,us,g1,g2,g3,g4,g5,g6⟩:=zQV hs jX len (c.drop s) (by simp [hc,Nat.add_mul]) (fun i hi=>by
   obtain ⟨ps,h1,h2,h3⟩:=h (i+1) (by omega)
   refine ⟨ps,h1,h2,?_⟩
   rw [List.drop_drop,show s+i*s=(i+1)*s by rw [Nat.add_mul];omega];exact h3)
  have yy:c=c.take s++c.drop s:=(List.take_append_drop s c).symm
  cases ag with
  | true =>
   refine ⟨.agg ps::xs,.agg (c.take s).toArray::us,by simp [g1],fun x hx=>?_,fun u hu=>?_,by simp [zCh,PV.isAgg,g4],?_,⟨_,us,[],[],rfl,rfl,⟨_,rfl,by simpa using h3⟩,g6⟩⟩
   ·rcases List.mem_cons.1 hx with rfl | hx
    ·exact ⟨h1,rfl,h2⟩
    ·exact g2 x hx
   ·rcases List.mem_cons.1 hu with rfl | hu
    ·simpa [Value.cells] using yL
    ·exact g3 u hu
   ·conv=>lhs;rw [yy]
    rw [g5];rfl
  | false =>
   have u5:s=1:=by
    rcases jX with h | h
    ·cases h
    ·exact h
   subst u5
   obtain ⟨p,rfl⟩:=List.length_eq_one_iff.1 h2
   obtain ⟨u,hu⟩:=List.length_eq_one_iff.1 yL
   rw [hu] at h3 yy
   obtain ⟨u',us',L1,L2,he,hL,h4,h5⟩:=h3
   cases he
   obtain ⟨rfl,rfl⟩:=List.append_eq_nil_iff.1 hL.symm
   have yJ:p.isAgg=false∧p.cells=[p]∧u.cells=#[u]∧zCh u=false:=by
    obtain ⟨p',qs,hp,hfp,_⟩:∃ p' qs,[p]=p'::qs∧(∃ s,zVw s p')∧True:=by
     cases ss with
     | nil=>simp only [zEm] at h1;cases h1
     | cons s ss=>obtain ⟨x,xs,h6,h7,_⟩:=h1;exact ⟨x,xs,h6,⟨s,h7⟩,trivial⟩
    cases hp
    obtain ⟨s,hfp⟩:=hfp
    cases s with
    | num k=>obtain ⟨n,rfl,_⟩:=hfp;obtain ⟨rfl,_⟩:=h4;exact ⟨rfl,rfl,rfl,rfl⟩
    | bool=>obtain ⟨n,rfl⟩:=hfp;obtain ⟨rfl,_⟩:=h4;exact ⟨rfl,rfl,rfl,rfl⟩
    | list ag' ss' =>
     obtain ⟨ys,rfl,_⟩:=hfp
     obtain ⟨_,⟨_,a,n,rfl,_⟩ | ⟨a,n,c',us',sz,rfl,_⟩⟩:=h4<;>exact ⟨rfl,rfl,rfl,rfl⟩
   refine ⟨p::xs,u::us,by simp [g1],fun x hx=>?_,fun v hv=>?_,by simp [yJ.1,yJ.2.2.2,g4],?_,⟨u,us,[],[],rfl,rfl,h4,g6⟩⟩
   ·rcases List.mem_cons.1 hx with rfl | hx
    ·rw [yJ.2.1];exact ⟨h1,yJ.1,rfl⟩
    ·exact g2 x hx
   ·rcases List.mem_cons.1 hv with rfl | hv
    ·rw [yJ.2.2.1];rfl
    ·exact g3 v hv
   ·conv=>lhs;rw [yy]
    rw [g5];simp only [flat,List.flatMap_cons,yJ.2.2.1]
theorem zMO : ∀ (n m:Nat) (t:TypeId) (vs:List Value) (x:DataW H×List MemPlace) (ss:List Sh),zDS P n t=some ss→DataW.trod enc P w 0 spare vJ m t vs=some x→∃ ps,zEm ss ps∧zA1 w (fun b=>b<w.heap.size) zCj ps vs []
 | 0,m,t,vs,x,ss,h,_=>by cases h
 | n + 1, m, t,vs,x,ss,h,hx=>by
  simp only [zDS] at h
  split at h
  ·rename_i k ht
   cases h
   obtain ⟨i,rfl,_,hw⟩:=DataW.trod_int ht hx
   simp only [Lit.wf,Bool.and_eq_true,decide_eq_true_eq] at hw
   exact ⟨[.int k i],⟨_,[],rfl,⟨i,rfl,hw.1,hw.2⟩,rfl⟩,_,_,[],[],rfl,rfl,⟨rfl,rfl⟩,rfl,rfl⟩
  ·rename_i ht
   cases h
   obtain ⟨b,rfl,_⟩:=DataW.trod_bool ht hx
   exact ⟨[.bool b],⟨_,[],rfl,⟨b,rfl⟩,rfl⟩,_,_,[],[],rfl,rfl,⟨rfl,rfl⟩,rfl,rfl⟩
  ·rename_i e ht
   cases jo:zDS P n e with
   | none=>rw [jo] at h;cases h
   | some es =>
    rw [jo] at h;simp only at h
    split at h
    ·rename_i hc
     cases h
     obtain ⟨jR,yy,uE⟩:=hc
     rcases DataW.trod_slice ht hx with ⟨rfl,_⟩ | ⟨a,len,cap,zVK,rest,k,_,rfl,_,_,hlc,hcm,yc,vF,_⟩
     ·exact ⟨[.sl []],⟨_,[],rfl,⟨[],rfl,Nat.zero_le _,by simp⟩,rfl⟩,_,_,[],[],rfl,rfl,⟨rfl,.inl ⟨rfl,_,_,rfl,fun _=>rfl⟩⟩,rfl,rfl⟩
     ·by_cases h0:len=0
      ·subst h0
       exact ⟨[.sl []],⟨_,[],rfl,⟨[],rfl,Nat.zero_le _,by simp⟩,rfl⟩,_,_,[],[],rfl,rfl,⟨rfl,.inl ⟨rfl,_,_,rfl,fun h=>by cases h⟩⟩,rfl,rfl⟩
      have zBa:∀ i,i<len→∃ (cs:List Value) (y:DataW H×List MemPlace),cs.length=P.cellsOf e∧(∀ j,j<P.cellsOf e→w.cell? ((a.add (i*P.cellsOf e)).add j)=cs[j]?)∧DataW.trod enc P w 0 spare vJ k e cs=some y:=by
       intro i hi
       have:=vF i hi
       rw [List.getElem?_eq_getElem (by omega)] at this
       obtain ⟨cs,h1,h2⟩:=Option.bind_eq_some_iff.1 this
       obtain ⟨_,h3,h4⟩:=World.cells?_some h1
       exact ⟨cs,_,h3,h4,h2⟩
      obtain ⟨cs0,_,h00,h01,_⟩:=zBa 0 (by omega)
      have yM:=h01 0 (by omega)
      rw [List.getElem?_eq_getElem (by omega)] at yM
      have yY:a.spot=none∧∃ row el fr,w.heap[a.block]? = some (.cells row el fr):=by
       simp only [Nat.zero_mul,Addr.add,if_true,World.cell?] at yM
       cases hb:w.heap[a.block]? with
       | none=>rw [hb] at yM;cases yM
       | some o =>
        cases o<;>rw [hb] at yM<;>simp only at yM<;>try (cases yM;done)
        rename_i row el fr
        cases hs:a.spot with
        | some s=>rw [hs] at yM;cases yM
        | none=>exact ⟨rfl,row,el,fr,rfl⟩
      obtain ⟨yZ,row,el,fr,yA⟩:=yY
      have kT:∀ i j,i<len→j<P.cellsOf e→w.cell? ((a.add (i*P.cellsOf e)).add j)=row[a.off+(i*P.cellsOf e+j)]?:=by
       intro i j hi hj
       have key:∀ m:Nat,(a.add m).block=a.block∧(a.add m).off=a.off+m∧(a.add m).spot=none:=by
        intro m
        unfold Addr.add
        split
        ·rename_i h;subst h;exact ⟨rfl,rfl,yZ⟩
        ·exact ⟨rfl,rfl,by simp⟩
       have key2:∀ m j:Nat,w.cell? ((a.add m).add j)=row[a.off+(m+j)]?:=by
        intro m j
        obtain ⟨k1,k2,k3⟩:=key m
        by_cases h:j=0
        ·subst h
         simp only [Addr.add,if_true,World.cell?] at *
         rw [k1,yA];simp only;rw [k3,k2];simp
        ·have:(a.add m).add j=⟨a.block,a.off+m+j,none⟩:=by
          generalize a.add m=a1 at k1 k2 k3
          unfold Addr.add
          rw [if_neg h,k1,k2]
         rw [this]
         simp only [World.cell?,yA]
         rw [Nat.add_assoc];rfl
       exact key2 _ _
      have j8:=zQV (w:=w) (Φ:=fun b=>b<w.heap.size) (ss:=es) yy (by rw [jR] at uE ⊢;exact uE) len (seg row a.off (len*P.cellsOf e)) ?_ ?_
      ·obtain ⟨xs,us,g1,g2,g3,g4,g5,g6⟩:=j8
       refine ⟨[.sl xs],⟨_,[],rfl,⟨xs,rfl,by omega,fun x hx=>⟨(g2 x hx).1,(g2 x hx).2.1⟩⟩,rfl⟩,_,_,[],[],rfl,rfl,⟨rfl,.inr ⟨a,cap,row,us,P.cellsOf e,by rw [g1],yZ,by omega,(Array.getElem?_eq_some_iff.1 yA).1,⟨el,fr,yA⟩,?_,⟨?_,g4⟩,by rw [g1];exact g5,g6⟩⟩,rfl,rfl⟩
       ·intro x hx;rw [← jR];exact (g2 x hx).2.2
       ·intro u hu;rw [← jR];exact g3 u hu
      ·
       have:=zBa (len-1) (by omega)
       obtain ⟨cs,_,h1,h2,_⟩:=this
       have h3:=h2 (P.cellsOf e-1) (by omega)
       rw [kT _ _ (by omega) (by omega),List.getElem?_eq_getElem (by omega)] at h3
       have h4:=(Array.getElem?_eq_some_iff.1 h3).1
       have h5:(len-1)*P.cellsOf e+P.cellsOf e=len*P.cellsOf e:=by
        obtain ⟨l,rfl⟩:∃ l,len=l+1:=⟨len-1,by omega⟩
        rw [Nat.add_sub_cancel,Nat.add_mul];omega
       simp only [seg,List.length_take,List.length_drop,Array.length_toList,jR]
       omega
      ·intro i hi
       obtain ⟨cs,y,h1,h2,h3⟩:=zBa i hi
       obtain ⟨ps,h4,h5⟩:=zMO n k e cs y es jo h3
       refine ⟨ps,h4,by rw [h4.length],?_⟩
       have:((seg row a.off (len*P.cellsOf e)).drop (i*es.length)).take es.length=cs:=by
        rw [jR]
        apply List.ext_getElem?
        intro j
        have wT:i*P.cellsOf e+P.cellsOf e≤len*P.cellsOf e:=by
         have:(i+1)*P.cellsOf e≤len*P.cellsOf e:=Nat.mul_le_mul_right _ (by omega)
         rw [Nat.add_mul] at this;omega
        simp only [seg,List.getElem?_take,List.getElem?_drop]
        split
        ·rename_i hj
         rw [if_pos (by omega),Array.getElem?_toList,← kT i j hi hj,h2 j hj]
        ·rw [List.getElem?_eq_none (by omega)]
       rw [this];exact h5
    ·cases h
  ·rename_i fs ht
   obtain ⟨xs,k,_,_,hl,vZ,hf⟩:=DataW.trod_struct ht hx
   obtain ⟨ps,h1,h2⟩:=zMp (Φ:=fun b=>b<w.heap.size) hl (fun t vs x ss h1 h2=>zMO n k t vs x ss h1 h2) fs.toList 0 ss h (fun f ye=>by
    obtain ⟨i,hi⟩:=List.getElem?_of_mem ye
    have qm:fs[i]? = some f:=by rw [← Array.getElem?_toList];exact hi
    have yK:=(Array.getElem?_eq_some_iff.1 qm).1
    exact ⟨xs[i]'(by omega), by rw [hf i f qm, List.getElem?_eq_getElem (by omega)]⟩) (Nat.zero_le _)
   exact ⟨ps,h1,by simpa using h2⟩
  ·cases h
def zUg (x:Bool×List Sh) (p:PV):Prop:=if x.1 then ∃ cs,p = .agg cs∧zEm x.2 cs else zEm x.2 [p]
def zKX:List (Bool×List Sh)→List PV→Prop
 | [],ps=>ps=[]
 | s::ss,ps=>∃ p qs,ps=p::qs∧zUg s p∧zKX ss qs
def zEO (P:Program):List TypeId→Option (List (Bool×List Sh))
 | []=>some []
 | t::ts=>match zDS P 20 t,zEO P ts with
  | some ss,some rest=>if zSR P t=true∨ss.length=1 then some ((zSR P t,ss)::rest) else none
  | _,_=>none
theorem zKX.length:∀ {ss:List (Bool×List Sh)} {ps:List PV},zKX ss ps→ps.length=ss.length
 | [],ps,h=>by simp only [zKX] at h;subst h;rfl
 | s::ss,ps,h=>by
  obtain ⟨p,qs,rfl,_,h2⟩:=h
  simp [zKX.length h2]
theorem zQd {n:Nat} {t:TypeId} {ss:List Sh} (h:zDS P n t=some ss) (ha:zSR P t=false):(∃ k,P.underlying t=some (.int k))∨P.underlying t=some .bool∨∃ e,P.underlying t=some (.slice e):=by
 cases n with
 | zero=>cases h
 | succ n =>
  simp only [zDS] at h
  split at h
  ·exact .inl ⟨_,by assumption⟩
  ·exact .inr (.inl (by assumption))
  ·exact .inr (.inr ⟨_,by assumption⟩)
  ·rename_i fs ht
   simp only [zSR,ht] at ha;cases ha
  ·cases h
theorem zPx : ∀ (ts:List TypeId) (vs:List Value) (ds:List (DataW H)) (ps:List MemPlace) (ss:List (Bool×List Sh)),zEO P ts=some ss→DataW.TrodAll enc P w 0 spare vJ ts vs ds ps→(∀ (j:Nat) t v,ts[j]? = some t→vs[j]? = some v→Value.okWide P w .any base t v) →
  ∃ qs,zKX ss qs∧zA1 w (fun b=>b<w.heap.size) zCj qs vs []
 | [],vs,ds,ps,ss,hs,h,_=>by
  obtain ⟨rfl,_,_⟩:=trodAll_nil h
  cases hs
  exact ⟨[],rfl,rfl,rfl⟩
 | t :: ts,vs,ds,ps,ss,hs,h,hv=>by
  obtain ⟨v,vs',d,ds',p,q,rfl,rfl,rfl,⟨fuel,h1⟩,h2⟩:=trodAll_cons h
  simp only [zEO] at hs
  cases yR:zDS P 20 t with
  | none=>rw [yR] at hs;cases hs
  | some s =>
   cases y7:zEO P ts with
   | none=>rw [yR,y7] at hs;cases hs
   | some rest =>
    rw [yR,y7] at hs
    simp only at hs
    split at hs
    ·rename_i hc
     cases hs
     obtain ⟨qs,g1,g2⟩:=zPx ts vs' ds' q rest y7 h2 (fun j t v ht yB=>hv (j+1) t v (by simpa using ht) (by simpa using yB))
     obtain ⟨cs,g3,g4⟩:=zMO 20 fuel t v.cells.toList _ s yR h1
     have yD:=hv 0 t v rfl rfl
     cases ha:zSR P t with
     | true =>
      have wn:∃ fs,P.underlying t=some (.struct fs):=by
       simp only [zSR] at ha
       split at ha
       ·exact ⟨_,by assumption⟩
       ·cases ha
      obtain ⟨fs,ht⟩:=wn
      obtain ⟨row,rfl,_⟩:=okWide_struct ht yD
      exact ⟨.agg cs::qs,⟨_,_,rfl,by simp only [zUg,if_true];exact ⟨cs,rfl,g3⟩,g1⟩,_,_,[],[],rfl,rfl,⟨row,rfl,g4⟩,g2⟩
     | false =>
      have yJ:v.cells.toList=[v]:=by
       rcases zQd yR ha with ⟨k,ht⟩ | ht | ⟨e,ht⟩
       ·obtain ⟨n,rfl⟩:=okWide_int ht yD;rfl
       ·obtain ⟨n,rfl⟩:=okWide_bool ht yD;rfl
       ·obtain ⟨a,n,c,rfl⟩:=okWide_slice ht yD;rfl
      rw [yJ] at g4
      obtain ⟨u,us,L1,L2,he,hL,g5,g6⟩:∃ u us L1 L2,cs=u::us∧([]:List Nat)=L1++L2∧Rep w (fun b=>b<w.heap.size) zCj u v L1∧zA1 w (fun b=>b<w.heap.size) zCj us [] L2:=by
       cases cs with
       | nil=>have:=g4.length;simp at this
       | cons u us =>
        obtain ⟨v',vs'',L1,L2,he,hL,g5,g6⟩:=g4
        cases he
        exact ⟨u,us,L1,L2,rfl,hL,g5,g6⟩
      obtain ⟨rfl,rfl⟩:=List.append_eq_nil_iff.1 hL.symm
      have wC:us=[]:=List.eq_nil_of_length_eq_zero (by have:=g6.length;simp at this;omega)
      subst wC;subst he
      exact ⟨u::qs,⟨_,_,rfl,by simp only [zUg,Bool.false_eq_true,if_false];exact g3,g1⟩,_,_,[],[],rfl,rfl,g5,g2⟩
    ·cases hs
theorem zQA {α:Type} {R:α→Prop} {enc:α→PV}:∀ {xs:List PV},(∀ x∈xs,∃ a,x=enc a∧R a)→∃ l:List α,xs=l.map enc∧∀ a∈l,R a
 | [],_=>⟨[],rfl,by simp⟩
 | x :: xs,h=>by
  obtain ⟨a,rfl,ha⟩:=h x (by simp)
  obtain ⟨l,rfl,hl⟩:=zQA (xs:=xs) fun y hy=>h y (by simp [hy])
  exact ⟨a::l,rfl,fun b hb=>by
   rcases List.mem_cons.1 hb with rfl | hb
   ·exact ha
   ·exact hl b hb⟩
theorem zRS {k:IntKind} {p:PV} (h:zVw (.list false [.num k]) p):∃ l:List Int,p = .sl (l.map (.int k))∧l.length≤maxLen∧∀ n∈l,k.min≤n∧n≤k.max:=by
 obtain ⟨xs,rfl,hl,hx⟩:=h
 obtain ⟨l,rfl,hb⟩:=zQA (α:=Int) (R:=fun n=>k.min≤n∧n≤k.max) (enc := .int k) (xs:=xs) fun x kx=>by
  obtain ⟨⟨q,qs,hc,⟨n,rfl,hn⟩,wx⟩,ha⟩:=hx x kx
  simp only [zEm] at wx;subst wx
  refine ⟨n,?_,hn⟩
  cases x<;>simp [PV.cells] at hc<;>first | exact hc | simp_all [PV.isAgg]
 exact ⟨l,rfl,by simpa using hl,hb⟩
theorem zI8:∀ {ts:List TypeId} {vs:List Value} {ds:List (DataW H)} {ps:List MemPlace},DataW.TrodAll enc P w 0 spare vJ ts vs ds ps→ds.length=ts.length
 | [],vs,ds,ps,h=>by obtain ⟨_,rfl,_⟩:=trodAll_nil h;rfl
 | t::ts,vs,ds,ps,h=>by
  obtain ⟨_,_,_,_,_,_,rfl,rfl,_,_,h2⟩:=trodAll_cons h
  simp [zI8 h2]
theorem zTp {Hh:zBk} {f:FuncId} {fn:Func} {s:ChangeSpec} {apart fresh jM again:Bool} {W:World} {args:Array Value} {ds:List (DataW H)} {before:List MemPlace} {tb:TypeId} {ss:List (Bool×List Sh)} (zEV:P.follows .mixedOrders=true) (hnm:zEB P) (zLA:Fit P Hh) (hin:zEA P Hh)
  (hl:laidOutB P=true) (je:s.vars=[]) (htb:P.underlying tb=some .bool) (wK:fn.resultTypes=#[tb]) (ud:fn.params.toList.all (fun t=>P.readableRec t&&Nat.blt t P.types.size)=true) (jx:∀ ds,ds.length=fn.params.size→s.fn H ds={results:=[.lit (.bool true)],args:=ds}) (wE:zEO P fn.params.toList=some ss) (hO:ss.length≤1000)
  (hg:∀ qs,zKX ss qs→@zA2 (yo1 P Hh) P Hh f qs [] (.bool true) [])
  (gG:∀ (j:Nat) t v,fn.params[j]? = some t→args[j]? = some v→Value.okWide P W .any base t v) (hW:DataW.Whole enc P fn.params.toList s.vars apart W args.toList ds [] before) :
  Calls P f args W fun e W'=>∃ v,e = .returned v∧s.post enc P fn apart fresh jM again W args v W':=by
 obtain ⟨pa,pv,hA,_,_,_,_⟩:=id hW
 obtain ⟨qs,kV,kL⟩:=zPx fn.params.toList args.toList ds pa ss wE hA (fun j t v ht hv=>gG j t v (by rw [← Array.getElem?_toList];exact ht) (by rw [← Array.getElem?_toList];exact hv))
 have hql:=kV.length
 refine (zQf (Φ:=fun b=>b<W.heap.size) zEV hnm zLA hin (hg qs kV) (fun b hb=>hb) kL (by rw [hql];exact Nat.le_trans hO (by decide))).mono fun e W' ⟨he,g1,g2,g3,g4,g5⟩=>?_
 subst he
 refine ⟨_,rfl,zRN hl je htb wK (fun t ht=>?_) (jx ds (by have:=zI8 hA;simpa using this)) hW g1 g2 g3 g4 g5⟩
 have:=List.all_eq_true.1 ud t ht
 rw [Bool.and_eq_true] at this
 exact ⟨this.1,zB2 this.2⟩
end
end Go.Eng
namespace Go.Eng
open Go
section
variable {P:Program} {H:zBk}
def zFr (f:FuncId):zBk:=fun g=>bif Nat.beq g f then {} else {intr:=9}
theorem zOO (zEV:P.follows .mixedOrders=true) (hnm:zEB P) {f:FuncId} {fn:Func} (hf:P.funcs[f]? = some fn) (yD:zTM P fn=true) (n:Nat):zF3 P (@zCy P (zFr f) yo0 n):=by
 refine @zE3 P (zFr f) yo0 zEV hnm (fun g gn hg hi=>?_) (fun g gn args hid v hid' hg hi hr=>?_) (fun g first i caps k plan h=>by cases h) n
 ·cases hb:Nat.beq g f with
  | true =>
   rw [Nat.eq_of_beq_eq_true hb,hf] at hg
   cases hg;exact yD
  | false=>simp [zFr,hb] at hi
 ·cases hb:Nat.beq g f with
  | true=>exact absurd (by simp [zFr,hb]) hi
  | false =>
   have e:(zFr f g).intr=9:=by simp [zFr,hb]
   rw [e] at hr
   simp [zDI] at hr
theorem zOp {α:Type} {f:Nat→α} {s:Nat} {v:α} (h:f s=v):upd f s v=f:=by
 funext t
 by_cases ht:t=s
 ·subst ht;rw [zAh,h]
 ·rw [zAf ht]
theorem zLc {f:FuncId} {p q v:PV} (hp:p.heavy=false) {w:World} {Φ:Nat→Prop} {rv:Nat→Value} {E:Nat→PV} {L:Nat→List Nat} {vs:Array Value} (hE:∀ s,s<zAd→E s=(zA9 [q] []).get s) (kQ:∀ s,zAd≤s→E s = .bad)
  (C:Conf w (fun b=>∃ s,b∈L s) Φ w Φ rv E L) (yC:vs.size=1) (yg:∀ i,i<1→vs[i]? = some (rv i)) (j7:∀ s,1≤s→s<zAl→rv s=undef) (hL0:L 0=[]) (hr:Rep w Φ (zA6 w rv E) p (rv 0) []) (h:zF6 P f [p] [] v []) :
  Calls P f vs w fun e w'=>∃ u Φ' rv' E' L',e = .returned u∧Conf w (fun b=>∃ s,b∈L s) Φ w' Φ' rv' E' L'∧([]:List PV).length=([]:List PV).length ∧
   (∀ j,j<([]:List PV).length→E' (zAl+j)=([]:List PV).getD j .bad∧rv' (zAl+j)=rv (zAl+j))∧Gave v u rv' E':=by
 have C1:=C.put (s:=0) hp hr
 rw [zOp hL0,zOp rfl] at C1
 have h1:(1:Nat)≤zAl:=by decide
 have hg:(0:Nat)<zAd:=by decide
 refine h w Φ rv (upd E 0 p) L vs (fun s hs=>?_) (fun s hs=>?_) C1 yC yg j7
 ·by_cases h:s=0
  ·subst h;rw [zAh];rfl
  ·rw [zAf h,hE s hs,zC2 (args:=[q]) h1,zC2 (args:=[p]) h1]
   simp [h,show ¬ s<1 by omega]
 ·rw [zAf (by omega)];exact kQ s hs
theorem zPp {f:FuncId} {v:PV} (h1:zF6 P f [.nils 0] [] v []) (h2:zF6 P f [.nn] [] v []):zF6 P f [.sl []] [] v []:=by
 intro w Φ rv E L vs hE kQ C yC yg j7
 have h0:E 0 = .sl []:=by rw [hE 0 (by decide)];rfl
 have hr:=C.rep 0
 rw [h0] at hr
 obtain ⟨hL0,hc⟩:=hr
 have hc:∃ a n,rv 0 = .slice a 0 n∧(a=none→n=0):=by
  rcases hc with ⟨_,a,n,hv,ha⟩ | ⟨a,n,c,us,sz,hv,_⟩
  ·exact ⟨a,n,hv,ha⟩
  ·exact ⟨some a,n,hv,fun h=>by cases h⟩
 obtain ⟨a,n,hv,ha⟩:=hc
 cases a with
 | none =>
  rw [ha rfl] at hv
  exact zLc (p := .nils 0) rfl hE kQ C yC yg j7 hL0 ⟨hv,rfl⟩ h1
 | some a=>exact zLc (p := .nn) rfl hE kQ C yC yg j7 hL0 ⟨rfl,a,n,hv⟩ h2
theorem zOK {f:FuncId} {v:PV} {k:Nat} (h1:zF6 P f [.nils 0] [] v []):zF6 P f [.nils k] [] v []:=by
 intro w Φ rv E L vs hE kQ C yC yg j7
 have h0:E 0 = .nils k:=by rw [hE 0 (by decide)];rfl
 have hr:=C.rep 0
 rw [h0] at hr
 exact zLc (p := .nils 0) rfl hE kQ C yC yg j7 hr.2 ⟨hr.1,rfl⟩ h1
theorem zNX (zEV:P.follows .mixedOrders=true) (hnm:zEB P) {f:FuncId} {fn:Func} (hf:P.funcs[f]? = some fn) (hb:fn.body.isSome=true) (yD:zTM P fn=true) {sz:Nat} (yC:(fn.resultTypes[0]?).bind (fun t=>(zBX P t).bind (szT P))=some sz)
  (r1:∃ n,@zCy P (zFr f) yo0 n f [.nils 0] []=some (.own sz [],[])) (r2:∃ n,@zCy P (zFr f) yo0 n f [.nn] []=some (.own sz [],[]))
  (r3:∀ x xs,(∀ y∈x::xs,y.plain=true∧y.cells.length=sz)→(x::xs).length≤zAC→∃ n,@zCy P (zFr f) yo0 n f [.sl (x::xs)] []=some (.own sz (x::xs),[])) :
  ∀ args hid v hid',zDI P fn 1 args hid=some (v,hid')→zCL P f∧zF6 P f args hid v hid':=by
 have so:=zOO zEV hnm hf yD
 have hc:zCL P f:=⟨fn,hf,by cases hx:fn.body with
  | none=>rw [hx] at hb;cases hb
  | some _=>rfl⟩
 obtain ⟨n1,r1⟩:=r1
 obtain ⟨n2,r2⟩:=r2
 have m1:zF6 P f [.nils 0] [] (.own sz []) []:=(so n1 _ _ _ _ _ r1).2
 have m2:=(so n2 _ _ _ _ _ r2).2
 intro args hid v hid' h
 refine ⟨hc,?_⟩
 rcases args with _ | ⟨p,_ | ⟨p2,ps⟩⟩
 ·simp [zDI] at h
 ·rcases hid with _ | ⟨q,qs⟩
  ·cases p<;>first | (simp [zDI] at h;done) | skip
   ·rename_i k
    simp only [zDI,yC,Option.some.injEq,Prod.mk.injEq] at h
    obtain ⟨rfl,rfl⟩:=h
    exact zOK m1
   ·rename_i xs
    simp only [zDI,yC] at h
    split at h
    ·rename_i hx
     simp only [Option.some.injEq,Prod.mk.injEq] at h
     obtain ⟨rfl,rfl⟩:=h
     simp only [Bool.and_eq_true,decide_eq_true_eq,List.all_eq_true] at hx
     cases xs with
     | nil=>exact zPp m1 m2
     | cons x xs =>
      obtain ⟨n3,r3⟩:=r3 x xs (fun y hy=>by simpa using hx.1 y hy) hx.2
      exact (so n3 _ _ _ _ _ r3).2
    ·cases h
  ·simp [zDI] at h
 ·simp [zDI] at h
theorem zIG [Yo] {f:FuncId} {fn:Func} {sz:Nat} {α:Type} (g:α→PV) (l:List α) (hl:l.length≤4294967296) (hg:∀ x,((g x).plain&&Nat.beq (g x).cells.length sz)=true:=by intro x;kernel_rfl) (hf:P.funcs[f]? = some fn:=by kernel_rfl) (hi:(H f).intr=1:=by kernel_rfl)
  (yC:(fn.resultTypes[0]?).bind (fun t=>(zBX P t).bind (szT P))=some sz:=by kernel_rfl):zA2 P H f [.sl (l.map g)] [] (.own sz (l.map g)) []:=by
 refine ⟨1,fun n hn=>?_⟩
 obtain ⟨k,rfl⟩:∃ k,n=k+1:=⟨n-1,by omega⟩
 show zH4 P H (zCy P H k) Yo.yo zB8 (k+1) f _ _=_
 have j0:((l.map g).all (fun x=>x.plain&&decide (x.cells.length=sz))&&decide ((l.map g).length≤zAC))=true:=by
  simp only [List.all_map,Bool.and_eq_true,List.all_eq_true,List.length_map,decide_eq_true_eq,Function.comp]
  refine ⟨fun x _=>?_,hl⟩
  have:=hg x
  simp only [Bool.and_eq_true] at this
  exact ⟨this.1,Nat.eq_of_beq_eq_true this.2⟩
 simp only [Bool.and_eq_true,decide_eq_true_eq] at j0
 simp only [zH4,hf,hi,zDI,yC]
 rw [if_pos (by decide),if_pos (by simpa using j0)]
theorem zJU {f:FuncId} {args:List PV} {v:PV} (h:@zA2 yo0 P (zFr f) f args [] v []):∃ n,@zCy P (zFr f) yo0 n f args []=some (v,[]):=by
 obtain ⟨n,h⟩:=h
 exact ⟨n,h n (Nat.le_refl _)⟩
theorem zR7 (cl:List FuncId) (h:((List.range P.funcs.size).all fun f=>Nat.beq (H f).intr 0||Nat.beq (H f).intr 9||(Nat.beq (H f).intr 1&&cl.any (Nat.beq f)))=true)
  (hc:∀ f∈cl,∀ fn,P.funcs[f]? = some fn→∀ args hid v hid',zDI P fn 1 args hid=some (v,hid')→zCL P f∧zF6 P f args hid v hid'):zEA P H:=fun f fn args hid v hid' hf hi hr=>by
 have yK:=(Array.getElem?_eq_some_iff.1 hf).1
 have:=List.all_eq_true.1 h f (List.mem_range.2 yK)
 rw [Bool.or_eq_true,Bool.or_eq_true,Bool.and_eq_true] at this
 rcases this with (h1 | h1) | ⟨h1,h2⟩
 ·exact absurd (Nat.eq_of_beq_eq_true h1) hi
 ·rw [Nat.eq_of_beq_eq_true h1] at hr
  simp [zDI] at hr
 ·rw [Nat.eq_of_beq_eq_true h1] at hr
  obtain ⟨g,hg,hb⟩:=List.any_eq_true.1 h2
  rw [Nat.eq_of_beq_eq_true hb] at hf ⊢
  exact hc g hg fn hf args hid v hid' hr
end
end Go.Eng
set_option maxRecDepth 100000
namespace Go.Eng
open Go Go.Proofs
def idV (p:PV):PV:=p
theorem zJ0 (xs:List PV):xs.map idV=xs:=by
 induction xs with
 | nil=>rfl
 | cons x xs ih=>rw [List.map_cons,ih];rfl
theorem zGs:∀ {l:List PV},(∀ y∈l,y.plain=true)→zBB l=[]
 | [],_=>rfl
 | p::ps,h=>by
  rw [zBB,(zK7 (h p (by simp))).2,zGs fun y hy=>h y (by simp [hy])];rfl
theorem zSS {xs:List PV} {sz n:Nat} (h:∀ y∈xs,y.plain=true∧y.cells.length=sz) (hn:Nat.beq sz n=true):((xs.map idV).all fun y=>y.cells.length.beq n&&y.cells.all fun q=>q.oneCell)=true:=by
 rw [zJ0,List.all_eq_true]
 intro y hy
 rw [Bool.and_eq_true]
 exact ⟨by rw [(h y hy).2];exact hn,List.all_eq_true.2 fun q hq=>zIK (h y hy).1 q hq⟩
theorem zUU {xs:List PV} {sz:Nat} (h:∀ y∈xs,y.plain=true∧y.cells.length=sz):((xs.map idV).all fun x=>x.plain)=true:=by
 rw [zJ0,List.all_eq_true];exact fun y hy=>(h y hy).1
section
variable [Yo]
theorem zUv:zA2 Try.prog (zFr 109) 109 [.nils 0] [] (.own 1 []) []:=zA2.closed 50
theorem zUy:zA2 Try.prog (zFr 109) 109 [.nn] [] (.own 1 []) []:=zA2.closed 50
theorem zUF (xs:List PV) (h:∀ y∈xs,y.plain=true∧y.cells.length=1) (hI:0<xs.length) (hl:xs.length≤4294967296):zA2 Try.prog (zFr 109) 109 [.sl (xs.map idV)] [] (.own 1 (xs.map idV)) []:=by
 refine zAi Try.f109 ?_
 refine zAb (zAa (zAe 1 (zAc (zAb (zAb (zAa (zAe 1 (S_a [(0,.v (PV.bool false))] (ap (zPr (by omega):zPf Try.prog BinOp.eql 22 (PV.sl (List.map idV xs)) (zE4 (Value.slice none 0 0))=some (PV.bool false)) an) (zAc (zAY (zAn (zAb (zAa (zAe 2 (S_a [(0,.ob),(0,.ob),(0,.ob),(3,.ob)] (ap (zUU h:((List.map idV xs).all fun x=>x.plain)=true) (ap (zSS h (by kernel_rfl):((List.map idV xs).all fun y=>y.cells.length.beq ((fun x=>x.size) Try.prog.types[3])&&y.cells.all fun q=>q.oneCell)=true) (ap (?_:(zBB (List.map idV xs)).isEmpty=true) (ap ((by exact zAw (by simp only [List.length_map,zzLn,zAC]<;>omega)):(0+(List.map idV xs).length).ble zAC=true) an)))) (zAe 1 (zAc (zAD (E_a [(1,.yes),(1,.v (PV.own 1 (List.map idV (List.take ([]++List.map idV xs).length xs))))] (ap ((by exact zAw (by simp only [List.length_map,zzLn,zAC]<;>omega)):(0+([]++List.map idV xs).length).ble ([]++List.map idV xs).length=true) (ap ((by simp [zDy]):PV.own 1 (List.take ([]++List.map idV xs).length (List.drop 0 ([]++List.map idV xs)))=PV.own 1 (List.map idV (List.take ([]++List.map idV xs).length xs))) an)) (PV.own 1 (List.map idV (List.take ([]++List.map idV xs).length xs))) ([]) (by simp [*]) rfl)))))))))))))))))))
 rw [zJ0,zGs fun y hy=>(h y hy).1];rfl
theorem zVC:zA2 Try.prog (zFr 68) 68 [.nils 0] [] (.own 3 []) []:=zA2.closed 50
theorem zVz:zA2 Try.prog (zFr 68) 68 [.nn] [] (.own 3 []) []:=zA2.closed 50
theorem zVI (xs:List PV) (h:∀ y∈xs,y.plain=true∧y.cells.length=3) (hI:0<xs.length) (hl:xs.length≤4294967296):zA2 Try.prog (zFr 68) 68 [.sl (xs.map idV)] [] (.own 3 (xs.map idV)) []:=by
 refine zAi Try.f68 ?_
 refine zAb (zAa (zAe 1 (zAc (zAb (zAb (zAa (zAe 1 (S_a [(0,.v (PV.bool false))] (ap (zPr (by omega):zPf Try.prog BinOp.eql 80 (PV.sl (List.map idV xs)) (zE4 (Value.slice none 0 0))=some (PV.bool false)) an) (zAc (zAY (zAn (zAb (zAa (zAe 2 (S_a [(0,.ob),(0,.ob),(0,.ob),(3,.ob)] (ap (zUU h:((List.map idV xs).all fun x=>x.plain)=true) (ap (zSS h (by kernel_rfl):((List.map idV xs).all fun y=>y.cells.length.beq ((fun x=>x.size) Try.prog.types[83])&&y.cells.all fun q=>q.oneCell)=true) (ap (?_:(zBB (List.map idV xs)).isEmpty=true) (ap ((by exact zAw (by simp only [List.length_map,zzLn,zAC]<;>omega)):(0+(List.map idV xs).length).ble zAC=true) an)))) (zAe 1 (zAc (zAD (E_a [(1,.yes),(1,.v (PV.own 3 (List.map idV (List.take ([]++List.map idV xs).length xs))))] (ap ((by exact zAw (by simp only [List.length_map,zzLn,zAC]<;>omega)):(0+([]++List.map idV xs).length).ble ([]++List.map idV xs).length=true) (ap ((by simp [zDy]):PV.own 3 (List.take ([]++List.map idV xs).length (List.drop 0 ([]++List.map idV xs)))=PV.own 3 (List.map idV (List.take ([]++List.map idV xs).length xs))) an)) (PV.own 3 (List.map idV (List.take ([]++List.map idV xs).length xs))) ([]) (by simp [*]) rfl)))))))))))))))))))
 rw [zJ0,zGs fun y hy=>(h y hy).1];rfl
end
theorem zRw:∀ args hid v hid',zDI Try.prog Try.f109 1 args hid=some (v,hid')→zCL Try.prog 109∧zF6 Try.prog 109 args hid v hid' :=
 zNX (f:=109) (fn:=Try.f109) (sz:=1) (by kernel_rfl) (zK1 (by kernel_rfl)) (by kernel_rfl) (by kernel_rfl) (by kernel_rfl) (by kernel_rfl) (zJU (@zUv yo0)) (zJU (@zUy yo0)) fun x xs h hl=>by
  have:=zJU (@zUF yo0 (x::xs) h (by simp) hl)
  rw [zJ0] at this
  exact this
theorem zTn:∀ args hid v hid',zDI Try.prog Try.f68 1 args hid=some (v,hid')→zCL Try.prog 68∧zF6 Try.prog 68 args hid v hid' :=
 zNX (f:=68) (fn:=Try.f68) (sz:=3) (by kernel_rfl) (zK1 (by kernel_rfl)) (by kernel_rfl) (by kernel_rfl) (by kernel_rfl) (by kernel_rfl) (zJU (@zVC yo0)) (zJU (@zVz yo0)) fun x xs h hl=>by
  have:=zJU (@zVI yo0 (x::xs) h (by simp) hl)
  rw [zJ0] at this
  exact this
theorem zUD:∀ f∈[109,68],∀ fn,Try.prog.funcs[f]? = some fn→∀ args hid v hid',zDI Try.prog fn 1 args hid=some (v,hid')→zCL Try.prog f∧zF6 Try.prog f args hid v hid':=by
 intro f hf fn jx
 simp only [List.mem_cons,List.not_mem_nil,or_false] at hf
 rcases hf with rfl | rfl
 ·have e:Try.prog.funcs[109]? = some Try.f109:=by kernel_rfl
  rw [e] at jx;cases jx
  exact zRw
 ·have e:Try.prog.funcs[68]? = some Try.f68:=by kernel_rfl
  rw [e] at jx;cases jx
  exact zTn
end Go.Eng
namespace Go.Proofs.Ytpmbobnmpehobaa
open Go.ChangeShapes Go.WideShapes Go.ChangeAt Go.RowKit Go.Eng
theorem Try.own:ownKnob Try.prog.godebug=none:=by kernel_rfl
theorem Try.laidOut:laidOutB Try.prog=true:=by kernel_rfl
theorem zEV:Try.prog.follows .mixedOrders=true:=by kernel_rfl
theorem hnm:zEB Try.prog:=zK1 (by kernel_rfl)
theorem zLA:Fit Try.prog zAq:=zUK (by kernel_rfl)
theorem hin:zEA Try.prog zAq:=zR7 [109,68] (by kernel_rfl) zUD
end Go.Proofs.Ytpmbobnmpehobaa
namespace Go.Eng
open Go
theorem zUS {k:IntKind} {p:PV} (h:zUg (false,[.num k]) p):∃ n,p = .int k n∧k.min≤n∧n≤k.max:=by
 simp only [zUg,Bool.false_eq_true,if_false] at h
 obtain ⟨q,qs,hc,⟨n,rfl,hn⟩,wx⟩:=h
 cases hc
 exact ⟨n,rfl,hn⟩
theorem zTG {k:IntKind} {p:PV} (h:zUg (false,[.list false [.num k]]) p):∃ l:List Int,p = .sl (l.map (.int k))∧l.length≤maxLen∧∀ n∈l,k.min≤n∧n≤k.max:=by
 simp only [zUg,Bool.false_eq_true,if_false] at h
 obtain ⟨q,qs,hc,h,wx⟩:=h
 cases hc
 exact zRS h
end Go.Eng
namespace Go.Eng
open Go Go.Proofs
theorem zAE {α:Type} {l:List α} {i:Nat} {d:α} (h:i<l.length):l.getD i d=l[i]:=by simp [List.getD,List.getElem?_eq_getElem h]
theorem zME {α β:Type} {f:β→α→β} {b:β} {l:List α} {i:Nat} {d:α} (h:i<l.length):(l.take (i+1)).foldl f b=f ((l.take i).foldl f b) (l.getD i d):=by
 rw [zAE h];exact zOH h
theorem zNR {l:List Int} {i:Nat} (h:i<l.length):(l.take (i+1)).sum=(l.take i).sum+l.getD i 0:=by
 rw [List.take_add_one,List.getElem?_eq_getElem h,zAE h,List.sum_append];simp
theorem zS4 {B:Int} {l:List Int} (hb:∀ x∈l,-B≤x∧x≤B) : -(B*l.length)≤l.sum∧l.sum≤B*l.length:=by
 induction l with
 | nil=>simp
 | cons x l ih =>
  have h1:=hb x (by simp)
  have h2:=ih fun y hy=>hb y (by simp [hy])
  simp only [List.sum_cons,List.length_cons,Int.natCast_add,Int.mul_add]
  omega
theorem zVd {l:List Int} (h:∀ x∈l,0≤x):0≤l.sum:=by
 induction l with
 | nil=>simp
 | cons x l ih =>
  have h1:=h x (by simp)
  have h2:=ih fun y hy=>h y (by simp [hy])
  simp only [List.sum_cons];omega
theorem zMc {l:List Int} {lo hi:Int} (h:(!l.all fun x=>decide (lo≤x)&&decide (x≤hi))=false):∀ x∈l,lo≤x∧x≤hi:=by
 simpa [List.all_eq_true] using h
theorem zLU {n lo hi:Int} (h:(!(decide (lo≤n)&&decide (n≤hi)))=false):lo≤n∧n≤hi:=by simpa using h
theorem zB6 {l:List Int} {p:Int→Prop} (h:∀ x∈l,p x) (i:Nat) (hi:i<l.length):p (l.getD i 0):=by
 rw [zAE hi];exact h _ (List.getElem_mem hi)
theorem zUd {a b:Int} (hb:0<b) (ha:0≤a):0≤a.tmod b∧a.tmod b<b:=⟨Int.tmod_nonneg _ ha,Int.tmod_lt_of_pos _ hb⟩
theorem zEh {l:List Int} {i j:Nat} {v:Int}:(l.set i v).getD j 0=if i=j∧j<l.length then v else l.getD j 0:=by
 simp only [List.getD_eq_getElem?_getD,List.getElem?_set]
 by_cases h:i=j
 ·subst h
  by_cases h2:i<l.length
  ·simp [h2]
  ·simp [h2]
 ·simp [h]
def zUB (l:List Int):Int:=l.foldl (fun a x=>IntKind.i64.wrap (a+x)) 0
section
variable [Yo]
abbrev FG (f:FuncId) (args:List PV) (v:PV):Prop:=zA2 Try.prog zAq f args [] v []
theorem f78 (n lo hi:Int):FG 78 [I n,I lo,I hi] (.bool (decide (lo≤n)&&decide (n≤hi))):=by
 refine zAi Try.f78 ?_
 refine zAb (zAa (zAe 1 (zAc (zAb (zAa (zAe 4 (zKF 10 (n≥lo) (fun k0=>(zAe 5 (zAc (zAD (E_a [] an (PV.bool (decide (n≤hi))) ([]) (by simp [*]) rfl))))) (fun k0=>(zAe 5 (zAc (zAD (E_a [] an (PV.bool false) ([]) (by simp [*]) rfl))))))))))))
theorem f81 (l:List Int) (hl:l.length<4294967296):FG 81 [zCb l] (I (zUB l)):=by
 refine zAi Try.f81 ?_
 refine zAb (zAa (zAe 1 (zAc (zAb (zAa (zAe 1 (zAc (zAb (zAb (zAa (zAe 1 (S_a [(0,.n (l.length))] (ap ((by simp):some (List.map I l).length=some l.length) an) (zAe 1 (zAc (zAm 0 ?_)))))))))))))))
 refine zBc (fun (i,a)=>i≤l.length∧a=zUB (l.take i)) (fun (i,a)=>[(3,I a),(8,I (i:Nat))]) (fun (i,_)=>l.length-i) ((0:Nat),(0:Int)) (by simp [zUB]) fun (i,a) ⟨hi,ha⟩=>?_
 refine zAb (zAa (zAe 1 (zAc (zAb (zCC ((↑i:Int)<(↑l.length:Int)) (fun k0=>(zAn (zAb (zAm 1 (zAb (zAa (S_a [(2,.v (I (l.getD i 0)))] (ap (zBd (0) (by omega):(List.map I l)[i]? = some (I (l.getD i 0))) an) (zAe 2 (zAc (zAa (zAe 2 (zAe 1 (zAe 1 (zAc (zAa (S_a [(1,.v (I (↑(i+1):Int)))] (ap ((zAH (by omega) (by omega)):I (IntKind.i64.wrap ((↑i:Int)+1))=I (↑(i+1):Int)) an) (zAe 1 (zAc ?_)))))))))))))))))) (fun k0=>(zBA 0 (zAb (zAa (zAe 2 (zAc (zAD (E_a [] an (I a) ([]) ?_ rfl)))))))))))))
 ·exact ⟨(i+1,IntKind.i64.wrap (a+l.getD i 0)),⟨by omega,by rw [ha];exact (zME (f:=fun a x=>IntKind.i64.wrap (a+x)) (by omega)).symm⟩,by simp only;omega,by kernel_rfl,by kernel_rfl⟩
 ·rw [ha,List.take_of_length_le (by omega)]
end
end Go.Eng
namespace Go.Eng
open Go Go.Proofs
def zGA {α:Type} (φ:α→Bool) (l:List α):Int:=if l.findIdx φ<l.length then (l.findIdx φ:Int) else -1
theorem zCV {α : Type} {φ : α → Bool} {l : List α} {i : Nat} (h : i < l.length) (h0 : ∀ j (hj : j < i), φ (l[j]'(by omega)) = false) (hi : φ l[i] = true) : zGA φ l = i := by
 have:l.findIdx φ=i:=by
  rw [List.findIdx_eq h]
  exact ⟨hi,fun j hj=>by simpa using h0 j hj⟩
 simp [zGA,this,h]
theorem zDA {α : Type} {φ : α → Bool} {l : List α} (h0 : ∀ j (hj : j < l.length), φ (l[j]'hj) = false) : zGA φ l = -1 := by
 have:¬ l.findIdx φ<l.length:=by
  intro h
  have:=List.findIdx_getElem (w:=h)
  rw [h0 _ h] at this;cases this
 simp [zGA,this]
theorem zFn {α:Type} (φ:α→Bool) (l:List α):decide (zGA φ l≥0)=l.any φ:=by
 unfold zGA
 split
 ·rename_i h
  have:=List.findIdx_getElem (w:=h)
  have h2:l.any φ=true:=List.any_eq_true.2 ⟨_,List.getElem_mem h,this⟩
  rw [h2];simp
 ·rename_i h
  have h2:l.any φ=false:=by
   rw [List.any_eq_false]
   intro x hx hp
   exact h (List.findIdx_lt_length_of_exists ⟨x,hx,hp⟩)
  rw [h2];simp
section
variable [Yo]
end
end Go.Eng
namespace Go.Eng
open Go Go.Proofs
structure Rnd where
 w:Int
 s:Int
 may:List Int
 deriving Inhabited
abbrev zDF (r:Rnd):PV := .agg [I r.w,I r.s,zCb r.may]
structure Dk where
 cr:Int
 wd:Int
 st:Int
 fn:Int
 rs:List Rnd
abbrev zHE (b:Dk):PV := .agg [I b.cr,I b.wd,I b.st,I b.fn,.sl (b.rs.map zDF)]
abbrev zGI (b:Dk) (fee:List Int):PV := .agg [I b.cr,I b.wd,I b.st,I b.fn,.sl (b.rs.map zDF),zCb fee]
def has (l:List Int) (v:Int):Bool:=l.any fun x=>decide (v=x)
def rnd (b:Dk) (r:Nat):Rnd:=b.rs.getD r default
def zKU (b:Dk):Prop:=b.rs.length<4294967296∧∀ r∈b.rs,r.may.length<4294967296
section
variable [Yo]
theorem f128 (l:List Int) (v:Int) (hl:l.length<4294967296):FG 128 [zCb l,I v] (I (zGA (fun x=>decide (v=x)) l)):=by
 refine zAi Try.f128 ?_
 refine zAb (zAa (zAe 1 (zAc (zAb (zAb (zAa (zAe 1 (S_a [(0,.n (l.length))] (ap ((by simp):some (List.map I l).length=some l.length) an) (zAe 1 (zAc (zAm 0 ?_)))))))))))
 refine zBc (fun i=>i≤l.length∧∀ j,j<i→(fun x=>decide (v=x)) (l.getD j 0)=false) (fun i=>[(8,I (i:Nat))]) (fun i=>l.length-i) (0:Nat) (by simp) fun i ⟨hi,ha⟩=>?_
 refine zAb (zAa (zAe 1 (zAc (zAb (zCC ((↑i:Int)<(↑l.length:Int)) (fun k0=>(zAn (zAb (zAm 1 (zAb (zAa (zAe 2 (zAc (zAb (zAa (zAe 3 (S_a [(2,.v (I (l.getD i 0)))] (ap (zBd (0) (by omega):(List.map I l)[i]? = some (I (l.getD i 0))) an) (zAe 2 (zAc (zCC (v=l.getD i 0) (fun k1=>(zAb (zAa (zAe 2 (zAc (zAD (E_a [] an (I (↑i:Int)) ([]) ?_ rfl))))))) (fun k1=>(zAn (zAa (S_a [(1,.v (I (↑(i+1):Int)))] (ap ((zAH (by omega) (by omega)):I (IntKind.i64.wrap ((↑i:Int)+1))=I (↑(i+1):Int)) an) (zAe 1 (zAc ?_))))))))))))))))))))) (fun k0=>(zBA 0 (zAb (zAa (zAe 1 (zAc (zAD (E_a [] an (I (-1)) ([]) ?_ rfl)))))))))))))
 ·rw [zCV (i:=i) (by omega) (fun j hj=>by rw [← zAE (d:=0)];exact ha j hj) (by rw [← zAE (d:=0)];exact decide_eq_true (by assumption))]
 ·refine ⟨i+1,⟨by omega,fun j hj=>?_⟩,by omega,by kernel_rfl,by kernel_rfl⟩
  rcases Nat.lt_succ_iff_lt_or_eq.1 hj with h | rfl
  ·exact ha j h
  ·exact decide_eq_false (by assumption)
 ·rw [zDA fun j hj=>by rw [← zAE (d:=0)];exact ha j (by omega)]
theorem f87 (l:List Int) (v:Int) (hl:l.length<4294967296):FG 87 [zCb l,I v] (.bool (has l v)):=by
 refine zAi Try.f87 ?_
 refine zAb (zAa (zAe 1 (zAc (zAb (zAa (zAe 2 (S_a [(8,.ret (I (zGA (fun x=>decide (v=x)) l)) ([]))] (ap (f128 (l) (v) (by omega)) an) (zAe 2 (zAc (zAD (E_a [] an (PV.bool (decide (zGA (fun x=>decide (v=x)) l≥0))) ([]) ?_ rfl)))))))))))
 rw [zFn];rfl
theorem f98 (b:Dk) (fee:List Int) (c:Int) (r:Nat) (hr:r<b.rs.length) (hb:zKU b):FG 98 [.ref (zGI b fee),I c,I r] (.bool (has (rnd b r).may c)):=by
 refine zAi Try.f98 ?_
 have hm:(b.rs.getD r default).may.length<4294967296:=hb.2 _ (by rw [zAE hr];exact List.getElem_mem _)
 refine zAb (zAa (zAe 1 (zAc (zAb (zAa (zAe 6 (S_a [(2,.v (PV.agg [I (b.rs.getD r default).w,I (b.rs.getD r default).s,PV.sl (List.map I (b.rs.getD r default).may)]))] (ap (zBd (default) (by omega):(List.map zDF b.rs)[r]? = some (PV.agg [I (b.rs.getD r default).w,I (b.rs.getD r default).s,PV.sl (List.map I (b.rs.getD r default).may)])) an) (zAe 3 (S_a [(8,.ret (PV.bool (has (b.rs.getD r default).may c)) ([]))] (ap (f87 ((b.rs.getD r default).may) (c) (by omega)) an) (zAe 1 (zAc (zAD (E_a [] an (PV.bool (has (b.rs.getD r default).may c)) ([]) rfl rfl)))))))))))))
end
def zRg (b:Dk) (fee f zAs:List Int) (r t:Nat):Bool:=decide ((t:Int)≠zAs.getD r 0)&&(has (rnd b r).may t&&decide (f.getD t 0+fee.getD r 0<f.getD (zAs.getD r 0).toNat 0))
def zH2 (b:Dk) (fee f zAs:List Int) (r n:Nat):List (Nat×Nat):=((List.range n).filter (zRg b fee f zAs r)).map fun t=>(r,t)
def mvs (b:Dk) (fee f zAs:List Int) (n:Nat):List (Nat×Nat):=(List.range n).flatMap fun r=>zH2 b fee f zAs r b.cr.toNat
abbrev mvV (m:Nat×Nat):PV := .agg [I m.1,I m.2]
abbrev zG5 (b:Dk) (fee f zAs:List Int):List PV:=[.ref (zCb zAs),.ref (.ref (zGI b fee)),.ref (.func 98 [.ref (zGI b fee)] []),.ref (.agg (f.map I))]
structure MvOk (b:Dk) (fee f zAs:List Int):Prop where
 kN:zKU b
 vK:0≤b.cr∧b.cr≤4
 hf:f.length=4
 hfee:fee.length=b.rs.length
 hshare:zAs.length=b.rs.length
 ja:∀ x∈zAs,0≤x∧x<4
 gq:∀ i,-1000000≤f.getD i 0∧f.getD i 0≤1000000
 hfeeb:∀ i,-1000000≤fee.getD i 0∧fee.getD i 0≤1000000
abbrev zKo (b:Dk) (fee f zAs:List Int) (n:Nat):List (List PV):=(mvs b fee f zAs n).map fun m=>[mvV m]
theorem zHr {b:Dk} {fee f zAs:List Int} {r t:Nat}:zH2 b fee f zAs r (t+1)=zH2 b fee f zAs r t++if zRg b fee f zAs r t then [(r,t)] else []:=by
 simp only [zH2,List.range_succ,List.filter_append,List.map_append]
 congr 1
 cases h:zRg b fee f zAs r t<;>simp [h]
theorem zK0 {b:Dk} {fee f zAs:List Int} {r:Nat}:mvs b fee f zAs (r+1)=mvs b fee f zAs r++zH2 b fee f zAs r b.cr.toNat:=by
 simp only [mvs,List.range_succ,List.flatMap_append];simp
theorem zPq {b:Dk} {fee f zAs:List Int} {r t n:Nat} (h:t≤n):zH2 b fee f zAs r t <+: zH2 b fee f zAs r n:=by
 induction h with
 | refl=>exact List.prefix_refl _
 | step _ ih=>rw [zHr];exact ih.trans (List.prefix_append _ _)
theorem zTC {b:Dk} {fee f zAs:List Int} {t n:Nat} (h:t≤n):mvs b fee f zAs t <+: mvs b fee f zAs n:=by
 induction h with
 | refl=>exact List.prefix_refl _
 | step _ ih=>rw [zK0];exact ih.trans (List.prefix_append _ _)
theorem zUL {b:Dk} {fee f zAs:List Int} {r t n:Nat} (hr:r<n) (ht:t≤b.cr.toNat):mvs b fee f zAs r++zH2 b fee f zAs r t <+: mvs b fee f zAs n:=by
 refine List.IsPrefix.trans ?_ (zTC (Nat.succ_le_of_lt hr))
 rw [Nat.succ_eq_add_one,zK0]
 exact (List.prefix_append_right_inj _).2 (zPq ht)
theorem zRD {α:Type} {x y:List α} (h:x <+: y) {k:Int} (hk:k=x.length):x=y.take k.toNat:=by
 rw [hk,Int.toNat_natCast];exact List.prefix_iff_eq_take.1 h
set_option maxRecDepth 10000 in
set_option maxHeartbeats 4000000 in
theorem f130w [Yo] {b:Dk} {fee f zAs:List Int} (h:MvOk b fee f zAs) (k:Int) (hk:k = -1∨1≤k∧k≤(mvs b fee f zAs zAs.length).length) (i:Nat):W Try.prog zAq 130 Try.f130.ntmps (Try.f130.body.getD .ret) (zA9 ([]++PV.yld i::zG5 b fee f zAs) []) (some ⟨[],k,i⟩) fun x _ lg=>(x = .norm∨x = .ret)∧lg.map (·.xs)=some (if k = -1 then zKo b fee f zAs zAs.length else (zKo b fee f zAs zAs.length).take k.toNat):=by
 obtain ⟨h1,h2,h3,h4,h5,h6,h7,h8⟩:=h
 have h1a:=h1.1
 refine zAb (zAa (zAe 1 (S_a [(0,.n (zAs.length))] (ap ((by simp):some (List.map I zAs).length=some zAs.length) an) (zAe 1 (zAc (zAm 0 ?_))))))
 refine zQq (fun (r,xs,kc)=>r≤zAs.length∧xs=zKo b fee f zAs r∧kc=k-xs.length∧(k = -1∨1≤kc)) (fun (r,_,_)=>[(11,I (r:Nat))]) (fun (_,xs,kc)=>some ⟨xs,kc,i⟩) (fun (r,_,_)=>zAs.length-r) ((0:Nat),([]:List (List PV)),k) ⟨Nat.zero_le _,rfl,by simp,by omega⟩ fun (r,xs,kc) ⟨hr,jO,hkc,jL⟩=>?_
 refine zAb (zAa (zAe 1 (zAc (zAb (zCC ((↑r:Int)<(↑zAs.length:Int)) (fun k2=>(zAn (zAb (zAm 1 (zAb (zAa (zAe 1 (S_a [(2,.v (I (zAs.getD r 0)))] (ap (zBd (0) (by omega):(List.map I zAs)[r]? = some (I (zAs.getD r 0))) an) (zAe 3 (zAc (zAb (zAa (zAe 6 (zAc (zAm 2 ?_))))))))))))))) (fun k2=>(zBA 0 ?_)))))))
 ·refine zQq (fun (t,ys,kd)=>t≤b.cr.toNat∧ys=xs++(zH2 b fee f zAs r t).map (fun m=>[mvV m])∧kd=k-ys.length∧(k = -1∨1≤kd)) (fun (t,_,_)=>[(21,I (t:Nat))]) (fun (_,ys,kd)=>some ⟨ys,kd,i⟩) (fun (t,_,_)=>b.cr.toNat-t) ((0:Nat),xs,kc) ⟨Nat.zero_le _,by simp [zH2],hkc,jL⟩ fun (t,ys,kd) ⟨ht,w5,hkd,ky⟩=>?_
  have hshr:=h6 (zAs.getD r 0) (by rw [zAE (by omega)];exact List.getElem_mem _)
  have hf1:=h7 t
  have jf:=h8 r
  have uQ:=zUL (b:=b) (fee:=fee) (f:=f) (zAs:=zAs) (r:=r) (t:=t+1) (n:=zAs.length)
  have jm:zRg b fee f zAs r t=false→ys=xs++(zH2 b fee f zAs r (t+1)).map (fun m=>[mvV m]):=fun h=>by rw [zHr,h,w5];simp
  refine zAb (zAa (zAe 1 (zAc (zAb (zCC ((↑t:Int)<b.cr) (fun k4=>(zAn (zAb (zAm 3 (zAb (zAa (zAe 2 (zAc (zAb (zAa (zAe 4 (zS0 27 ((↑t:Int)=zAs.getD r 0) (fun k5=>(zAe 3 (S_a [(9,.ret (PV.bool (has (rnd b r).may (↑t:Int))) ([]))] (ap (f98 (b) (fee) ((↑t:Int)) (r) (by first | omega | (simp<;>omega)) (by omega)) an) (zAe 2 (zE7 33 (has (rnd b r).may (↑t:Int)) (fun k6=>(zAe 1 (S_a [(2,.ob),(0,.v ((I (f.getD t 0)).ref))] (ap ((by exact zAu (by omega)):decide (t<4)=true) (ap (zPw (i:=t) (by omega) (0):zDP (PV.agg (List.map I f)).ref (t*(fun x=>x.size) Try.prog.types[3]) none=some (I (f.getD t 0)).ref) an)) (zAe 6 (S_a [(2,.v (I (fee.getD r 0)))] (ap (zBd (0) (by omega):(List.map I fee)[r]? = some (I (fee.getD r 0))) an) (zAe 1 (S_a [(1,.v (I (f.getD t 0+fee.getD r 0)))] (ap ((zAH rfl (by omega)):I (IntKind.i64.wrap (f.getD t 0+fee.getD r 0))=I (f.getD t 0+fee.getD r 0)) an) (zAe 1 (S_a [(0,.ob),(1,.ob),(0,.v ((I (f.getD (zAs.getD r 0).toNat 0)).ref))] (ap ((by exact zAu (by omega)):decide (0≤zAs.getD r 0)=true) (ap ((by exact zAu (by omega)):decide ((zAs.getD r 0).toNat<4)=true) (ap (zPw (i:=(zAs.getD r 0).toNat) (by omega) (0):zDP (PV.agg (List.map I f)).ref ((zAs.getD r 0).toNat*(fun x=>x.size) Try.prog.types[3]) none=some (I (f.getD (zAs.getD r 0).toNat 0)).ref) an))) (zAe 4 (zKF 50 (f.getD t 0+fee.getD r 0<f.getD (zAs.getD r 0).toNat 0) (fun k7=>(zAe 4 ?_)) (fun k7=>(zAe 7 (zAc (zAY (zAn (zAa (S_a [(1,.v (I (↑(t+1):Int)))] (ap ((zAH (by omega) (by omega)):I (IntKind.i64.wrap ((↑t:Int)+1))=I (↑(t+1):Int)) an) (zAe 1 (zAc ?_)))))))))))))))))))) (fun k6=>(zAe 24 (zAc (zAY (zAn (zAa (S_a [(1,.v (I (↑(t+1):Int)))] (ap ((zAH (by omega) (by omega)):I (IntKind.i64.wrap ((↑t:Int)+1))=I (↑(t+1):Int)) an) (zAe 1 (zAc ?_)))))))))))))) (fun k5=>(zAe 30 (zAc (zAY (zAn (zAa (S_a [(1,.v (I (↑(t+1):Int)))] (ap ((zAH (by omega) (by omega)):I (IntKind.i64.wrap ((↑t:Int)+1))=I (↑(t+1):Int)) an) (zAe 1 (zAc ?_))))))))))))))))))))) (fun k4=>(zBA 2 (zAa (S_a [(1,.v (I (↑(r+1):Int)))] (ap ((zAH (by omega) (by omega)):I (IntKind.i64.wrap ((↑r:Int)+1))=I (↑(r+1):Int)) an) (zAe 1 (zAc ?_)))))))))))
  ·have yD:zRg b fee f zAs r t=true:=by simp only [zRg,k6,decide_eq_true k5,decide_eq_true k7];rfl
   have hys':ys++[[mvV (r,t)]]=xs++(zH2 b fee f zAs r (t+1)).map (fun m=>[mvV m]):=by rw [zHr,yD,w5];simp
   have hpre':ys++[[mvV (r,t)]] <+: zKo b fee f zAs zAs.length:=by
    have:=(uQ (by omega) (by omega)).map (fun m=>[mvV m])
    rw [List.map_append] at this
    rw [hys',jO];exact this
   refine zT8 kd ys [mvV (r,t)] i (fun hk3=>?_) (fun hk3=>?_) (by omega)
   ·refine zAe 2 (zAc (zDY (zAD ?_)))
    refine ⟨.inr rfl,?_⟩
    have qN:k=(ys++[[mvV (r,t)]]).length:=by simp;omega
    have jL:¬ k = -1:=by omega
    rw [if_neg jL,← zRD hpre' qN];show Option.map _ _=_;kernel_rfl
   ·refine zAe 2 (zAc (zAY (zAn (zAa (S_a [(1,.v (I (↑(t+1):Int)))] (ap ((zAH (by omega) (by omega)):I (IntKind.i64.wrap ((↑t:Int)+1))=I (↑(t+1):Int)) an) (zAe 1 (zAc ?_)))))))
    exact ⟨(t+1,ys++[[mvV (r,t)]],kd-1),⟨by omega,hys',by simp;omega,by omega⟩,by simp only;omega,by kernel_rfl,by kernel_rfl⟩
  ·refine ⟨(t+1,ys,kd),⟨by omega,jm (by simp only [zRg,k6,decide_eq_false k7];simp),hkd,ky⟩,by simp only;omega,by kernel_rfl,by kernel_rfl⟩
  ·refine ⟨(t+1,ys,kd),⟨by omega,jm (by simp only [zRg,k6];simp),hkd,ky⟩,by simp only;omega,by kernel_rfl,by kernel_rfl⟩
  ·refine ⟨(t+1,ys,kd),⟨by omega,jm (by simp only [zRg,k5];simp),hkd,ky⟩,by simp only;omega,by kernel_rfl,by kernel_rfl⟩
  ·have htc:t=b.cr.toNat:=by omega
   refine ⟨(r+1,ys,kd),⟨by omega,?_,hkd,ky⟩,by simp only;omega,by kernel_rfl,by kernel_rfl⟩
   rw [w5,jO,zKo,zKo,zK0,htc,List.map_append]
 have hrl:r=zAs.length:=by omega
 refine ⟨.inl rfl,?_⟩
 subst hrl
 have hO:xs.length=(mvs b fee f zAs zAs.length).length:=by rw [jO];simp
 have jL:k = -1:=by omega
 rw [if_pos jL,← jO];show Option.map _ _=_;kernel_rfl
theorem f130h {b:Dk} {fee f zAs:List Int} (h:MvOk b fee f zAs) (k:Int) (hk:k = -1∨1≤k∧k≤(mvs b fee f zAs zAs.length).length):@zR9 (yo1 Try.prog zAq) 130 [] (zG5 b fee f zAs) k (if k = -1 then zKo b fee f zAs zAs.length else (zKo b fee f zAs zAs.length).take k.toNat) :=
 zRP Try.f130 (fun i=>@f130w yo0 _ _ _ _ h k hk i) (by omega)
end Go.Eng
namespace Go.Eng
open Go
end Go.Eng
set_option maxRecDepth 10000
set_option maxHeartbeats 2000000
namespace Go.Eng
open Go Go.Proofs
def zMC (l:List Int):Bool:=(List.range (l.length-1)).all fun j=>decide (l.getD j 0<l.getD (j+1) 0)
theorem zSW {l:List Int} (h:∀ j,j+1<l.length→l.getD j 0<l.getD (j+1) 0):zMC l=true:=by
 simp only [zMC,List.all_eq_true,List.mem_range,decide_eq_true_eq]
 exact fun j hj=>h j (by omega)
theorem zUR {l:List Int} {j:Nat} (hj:j+1<l.length) (h:l.getD j 0≥l.getD (j+1) 0):zMC l=false:=by
 simp only [zMC,List.all_eq_false]
 exact ⟨j,List.mem_range.2 (by omega),by simp only [decide_eq_true_eq];omega⟩
theorem zN5 {l:List Int} (h:zMC l=true) {j:Nat} (hj:j+1<l.length):l.getD j 0<l.getD (j+1) 0:=by
 simp only [zMC,List.all_eq_true,List.mem_range,decide_eq_true_eq] at h
 exact h j (by omega)
def zDh (cr:Int) (r:Rnd):Int:=if r.may.length=0 then 6 else if !r.may.all (fun x=>decide (0≤x)&&decide (x≤cr-1)) then 1 else if !zMC r.may then 4 else 0
def zDb (cr:Int):List Rnd→Int
 | []=>0
 | r::rs=>if zDh cr r=0 then zDb cr rs else zDh cr r
def zCr (r:Rnd):Bool:=(decide (1≤r.w)&&decide (r.w≤9))&&(decide (1≤r.s)&&decide (r.s≤5))
def zBs (b:Dk):Int :=
 if !(decide (1≤b.cr)&&decide (b.cr≤4)) then 2
 else if (b.rs.length:Int)>7 then 2
 else if !(decide (0≤b.wd)&&decide (b.wd≤20)) then 3
 else if !(decide (0≤b.st)&&decide (b.st≤20)) then 3
 else if !(decide (0≤b.fn)&&decide (b.fn≤20)) then 3
 else if !b.rs.all zCr then 3
 else zDb b.cr b.rs
abbrev zVF (l:List Rnd):PV := .sl (l.map zDF)
theorem zOX {cr:Int} {l:List Rnd} {i:Nat} (h:i<l.length):zDb cr (l.drop i)=if zDh cr (l.getD i default)=0 then zDb cr (l.drop (i+1)) else zDh cr (l.getD i default):=by
 rw [List.drop_eq_getElem_cons h,zAE h];rfl
section
variable [Yo]
theorem f114 (r:Rnd):FG 114 [zDF r] (.bool (zCr r)):=by
 refine zAi Try.f114 ?_
 refine zAb (zAa (zAe 2 (zAc (zAb (zAa (zAe 2 (S_a [(10,.ret (PV.bool (decide (1≤r.w)&&decide (r.w≤9))) ([]))] (ap (f78 (r.w) (1) (9)) an) (zAe 1 (zE7 6 (decide (1≤r.w)&&decide (r.w≤9)) (fun k0=>(zAe 2 (S_a [(10,.ret (PV.bool (decide (1≤r.s)&&decide (r.s≤5))) ([]))] (ap (f78 (r.s) (1) (5)) an) (zAe 2 (zAc (zAD (E_a [] an (PV.bool (decide (1≤r.s)&&decide (r.s≤5))) ([]) ?_ rfl))))))) (fun k0=>(zAe 5 (zAc (zAD (E_a [] an (PV.bool false) ([]) ?_ rfl))))))))))))))
 ·simp only [zCr,k0,Bool.true_and]
 ·simp only [zCr,k0,Bool.false_and]
theorem f115 (b:Dk) (n:Int) (hb:1≤b.cr∧b.cr≤4):FG 115 [zHE b,I n] (.bool (decide (0≤n)&&decide (n≤b.cr-1))):=by
 refine zAi Try.f115 ?_
 refine zAb (zAa (zAe 2 (zAc (zAb (zAa (zAe 3 (S_a [(1,.v (I (b.cr-1)))] (ap ((zAH rfl (by omega)):I (IntKind.i64.wrap (b.cr-1))=I (b.cr-1)) an) (S_a [(10,.ret (PV.bool (decide (0≤n)&&decide (n≤b.cr-1))) ([]))] (ap (f78 (n) (0) (b.cr-1)) an) (zAe 1 (zAc (zAD (E_a [] an (PV.bool (decide (0≤n)&&decide (n≤b.cr-1))) ([]) rfl rfl))))))))))))
theorem f139_3  (x:Rnd):FG 139 [zDF x,.ref (.func 114 [] [])] (.bool (!(zCr x))):=by
 refine zAi Try.f139 ?_
 refine zAb (zAa (zAe 2 (zAc (zAb (zAa (zAe 2 (S_a [(6,.ret (PV.bool (zCr x)) ([]))] (ap (f114 (x)) an) (zAe 2 (zAc (zAD (E_a [] an (PV.bool !zCr x) ([]) rfl rfl)))))))))))
theorem f146_3n  (l:List Rnd) (hl:l.length<4294967296):FG 146 [zVF l,.func 139 [] [.ref (.func 114 [] [])]] (I (zGA (fun x => !(zCr x)) l)):=by
 refine zAi Try.f146 ?_
 refine zAb (zAa (zAe 1 (zAc (zAb (zAb (zAa (zAe 1 (S_a [(0,.n (l.length))] (ap ((by simp):some (List.map zDF l).length=some l.length) an) (zAe 1 (zAc (zAm 0 ?_)))))))))))
 refine zBc (fun i=>i≤l.length∧∀ j,j<i→(fun x => !(zCr x)) (l.getD j default)=false) (fun i=>[(8,I (i:Nat))]) (fun i=>l.length-i) (0:Nat) (by simp) fun i ⟨hi,ha⟩=>?_
 refine zAb (zAa (zAe 1 (zAc (zAb (zCC ((↑i:Int)<(↑l.length:Int)) (fun k0=>(zAn (zAb (zAm 1 (zAb (zAa (zAe 2 (zAc (zAb (zAa (zAe 3 (S_a [(2,.v (PV.agg [I (l.getD i default).w,I (l.getD i default).s,PV.sl (List.map I (l.getD i default).may)]))] (ap (zBd (default) (by omega):(List.map zDF l)[i]? = some (PV.agg [I (l.getD i default).w,I (l.getD i default).s,PV.sl (List.map I (l.getD i default).may)])) an) (zAe 1 (S_a [(7,.ret (PV.bool !zCr (l.getD i default)) ([]))] (ap (f139_3 (l.getD i default)) an) (zAc (zIx (!zCr (l.getD i default)) (fun k1=>(zAb (zAa (zAe 2 (zAc (zAD (E_a [] an (I (↑i:Int)) ([]) ?_ rfl))))))) (fun k1=>(zAn (zAa (S_a [(1,.v (I (↑(i+1):Int)))] (ap ((zAH (by omega) (by omega)):I (IntKind.i64.wrap ((↑i:Int)+1))=I (↑(i+1):Int)) an) (zAe 1 (zAc ?_)))))))))))))))))))))) (fun k0=>(zBA 0 (zAb (zAa (zAe 1 (zAc (zAD (E_a [] an (I (-1)) ([]) ?_ rfl)))))))))))))
 ·rw [zCV (i:=i) (by omega) (fun j hj=>by rw [← zAE (d:=default)];exact ha j hj) (by rw [← zAE (d:=default)];assumption)]
 ·refine ⟨i+1,⟨by omega,fun j hj=>?_⟩,by omega,by kernel_rfl,by kernel_rfl⟩
  rcases Nat.lt_succ_iff_lt_or_eq.1 hj with h | rfl
  ·exact ha j h
  ·assumption
 ·rw [zDA fun j hj=>by rw [← zAE (d:=default)];exact ha j (by omega)]
theorem f138_3n  (l:List Rnd) (hl:l.length<4294967296):FG 138 [zVF l,.func 139 [] [.ref (.func 114 [] [])]] (.bool (l.any (fun x => !(zCr x)))):=by
 refine zAi Try.f138 ?_
 refine zAb (zAa (zAe 1 (zAc (zAb (zAa (zAe 2 (S_a [(7,.ret (I (zGA (fun x => !zCr x) l)) ([]))] (ap (f146_3n (l) (by omega)) an) (zAe 2 (zAc (zAD (E_a [] an (PV.bool (decide (zGA (fun x => !zCr x) l≥0))) ([]) ?_ rfl)))))))))))
 rw [zFn]
theorem f113_3  (l:List Rnd) (hl:l.length<4294967296):FG 113 [zVF l,.func 114 [] []] (.bool (l.all (fun x=>zCr x))):=by
 refine zAi Try.f113 ?_
 refine zAb (zAa (zAe 2 (zAc (zAb (zAa (zAe 2 (S_a [(12,.ret (PV.bool (l.any fun x => !zCr x)) ([]))] (ap (f138_3n (l) (by omega)) an) (zAe 2 (zAc (zAD (E_a [] an (PV.bool !l.any fun x => !zCr x) ([]) ?_ rfl)))))))))))
 simp [List.not_any_eq_all_not]
theorem f126_2 (b:Dk) (hb:1≤b.cr∧b.cr≤4) (x:Int):FG 126 [I x,.ref (.func 115 [zHE b] [])] (.bool (!(decide (0≤x)&&decide (x≤b.cr-1)))):=by
 refine zAi Try.f126 ?_
 refine zAb (zAa (zAe 1 (zAc (zAb (zAa (zAe 2 (S_a [(8,.ret (PV.bool (decide (0≤x)&&decide (x≤b.cr-1))) ([]))] (ap (f115 (b) (x) (by omega)) an) (zAe 2 (zAc (zAD (E_a [] an (PV.bool !(decide (0≤x)&&decide (x≤b.cr-1))) ([]) rfl rfl)))))))))))
theorem f118_2n (b:Dk) (hb:1≤b.cr∧b.cr≤4) (l:List Int) (hl:l.length<4294967296):FG 118 [zCb l,.func 126 [] [.ref (.func 115 [zHE b] [])]] (I (zGA (fun x => !(decide (0≤x)&&decide (x≤b.cr-1))) l)):=by
 refine zAi Try.f118 ?_
 refine zAb (zAa (zAe 1 (zAc (zAb (zAb (zAa (zAe 1 (S_a [(0,.n (l.length))] (ap ((by simp):some (List.map I l).length=some l.length) an) (zAe 1 (zAc (zAm 0 ?_)))))))))))
 refine zBc (fun i=>i≤l.length∧∀ j,j<i→(fun x => !(decide (0≤x)&&decide (x≤b.cr-1))) (l.getD j 0)=false) (fun i=>[(8,I (i:Nat))]) (fun i=>l.length-i) (0:Nat) (by simp) fun i ⟨hi,ha⟩=>?_
 refine zAb (zAa (zAe 1 (zAc (zAb (zCC ((↑i:Int)<(↑l.length:Int)) (fun k0=>(zAn (zAb (zAm 1 (zAb (zAa (zAe 2 (zAc (zAb (zAa (zAe 3 (S_a [(2,.v (I (l.getD i 0)))] (ap (zBd (0) (by omega):(List.map I l)[i]? = some (I (l.getD i 0))) an) (zAe 1 (S_a [(7,.ret (PV.bool !(decide (0≤l.getD i 0)&&decide (l.getD i 0≤b.cr-1))) ([]))] (ap (f126_2 (b) (by omega) (l.getD i 0)) an) (zAc (zIx (!(decide (0≤l.getD i 0)&&decide (l.getD i 0≤b.cr-1))) (fun k1=>(zAb (zAa (zAe 2 (zAc (zAD (E_a [] an (I (↑i:Int)) ([]) ?_ rfl))))))) (fun k1=>(zAn (zAa (S_a [(1,.v (I (↑(i+1):Int)))] (ap ((zAH (by omega) (by omega)):I (IntKind.i64.wrap ((↑i:Int)+1))=I (↑(i+1):Int)) an) (zAe 1 (zAc ?_)))))))))))))))))))))) (fun k0=>(zBA 0 (zAb (zAa (zAe 1 (zAc (zAD (E_a [] an (I (-1)) ([]) ?_ rfl)))))))))))))
 ·rw [zCV (i:=i) (by omega) (fun j hj=>by rw [← zAE (d:=0)];exact ha j hj) (by rw [← zAE (d:=0)];assumption)]
 ·refine ⟨i+1,⟨by omega,fun j hj=>?_⟩,by omega,by kernel_rfl,by kernel_rfl⟩
  rcases Nat.lt_succ_iff_lt_or_eq.1 hj with h | rfl
  ·exact ha j h
  ·assumption
 ·rw [zDA fun j hj=>by rw [← zAE (d:=0)];exact ha j (by omega)]
theorem f65_2n (b:Dk) (hb:1≤b.cr∧b.cr≤4) (l:List Int) (hl:l.length<4294967296):FG 65 [zCb l,.func 126 [] [.ref (.func 115 [zHE b] [])]] (.bool (l.any (fun x => !(decide (0≤x)&&decide (x≤b.cr-1))))):=by
 refine zAi Try.f65 ?_
 refine zAb (zAa (zAe 1 (zAc (zAb (zAa (zAe 2 (S_a [(6,.ret (I (zGA (fun x => !(decide (0≤x)&&decide (x≤b.cr-1))) l)) ([]))] (ap (f118_2n (b) (by omega) (l) (by omega)) an) (zAe 2 (zAc (zAD (E_a [] an (PV.bool (decide (zGA (fun x => !(decide (0≤x)&&decide (x≤b.cr-1))) l≥0))) ([]) ?_ rfl)))))))))))
 rw [zFn]
theorem f79_2 (b:Dk) (hb:1≤b.cr∧b.cr≤4) (l:List Int) (hl:l.length<4294967296):FG 79 [zCb l,.func 115 [zHE b] []] (.bool (l.all (fun x=>decide (0≤x)&&decide (x≤b.cr-1)))):=by
 refine zAi Try.f79 ?_
 refine zAb (zAa (zAe 2 (zAc (zAb (zAa (zAe 2 (S_a [(12,.ret (PV.bool (l.any fun x => !(decide (0≤x)&&decide (x≤b.cr-1)))) ([]))] (ap (f65_2n (b) (by omega) (l) (by omega)) an) (zAe 2 (zAc (zAD (E_a [] an (PV.bool !l.any fun x => !(decide (0≤x)&&decide (x≤b.cr-1))) ([]) ?_ rfl)))))))))))
 simp [List.not_any_eq_all_not]
theorem f58 (b:Dk) (hb:zKU b):FG 58 [zHE b] (I (zBs b)):=by
 refine zAi Try.f58 ?_
 have yT:=hb.1
 refine zAb (zAa (zAe 2 (zAc (zAb (zAm 0 (zAb (zAa (zAe 2 (S_a [(10,.ret (PV.bool (decide (1≤b.cr)&&decide (b.cr≤4))) ([]))] (ap (f78 (b.cr) (1) (4)) an) (zAe 2 (zE7 11 (!(decide (1≤b.cr)&&decide (b.cr≤4))) (fun k0=>(zAe 6 (zAc (zDY (zAb (zAa (zAe 1 (zAc (zAD (E_a [] an (I 2) ([]) ?_ rfl)))))))))) (fun k0=>(zAe 2 (S_a [(0,.n (b.rs.length))] (ap ((by simp):some (List.map zDF b.rs).length=some b.rs.length) an) (zAe 3 (zAc (zCC ((↑b.rs.length:Int)>7) (fun k1=>(zAb (zAa (zAe 1 (zAc (zAD (E_a [] an (I 2) ([]) ?_ rfl))))))) (fun k1=>(zAb (zAa (zAe 2 (S_a [(10,.ret (PV.bool (decide (0≤b.wd)&&decide (b.wd≤20))) ([]))] (ap (f78 (b.wd) (0) (20)) an) (zAe 2 (zE7 22 (!(decide (0≤b.wd)&&decide (b.wd≤20))) (fun k2=>(zAe 12 (zAc (zDY (zAb (zAa (zAe 1 (zAc (zAD (E_a [] an (I 3) ([]) ?_ rfl)))))))))) (fun k2=>(zAe 2 (S_a [(10,.ret (PV.bool (decide (0≤b.st)&&decide (b.st≤20))) ([]))] (ap (f78 (b.st) (0) (20)) an) (zAe 3 (zE7 28 (!(decide (0≤b.st)&&decide (b.st≤20))) (fun k3=>(zAe 6 (zAc (zDY (zAb (zAa (zAe 1 (zAc (zAD (E_a [] an (I 3) ([]) ?_ rfl)))))))))) (fun k3=>(zAe 2 (S_a [(10,.ret (PV.bool (decide (0≤b.fn)&&decide (b.fn≤20))) ([]))] (ap (f78 (b.fn) (0) (20)) an) (zAe 3 (zAc (zIx (!(decide (0≤b.fn)&&decide (b.fn≤20))) (fun k4=>(zAb (zAa (zAe 1 (zAc (zAD (E_a [] an (I 3) ([]) ?_ rfl))))))) (fun k4=>(zAb (zAa (zAe 2 (S_a [(7,.ret (PV.bool (b.rs.all fun x=>zCr x)) ([]))] (ap (f113_3 (b.rs) (by omega)) an) (zAe 2 (zAc (zIx (!b.rs.all fun x=>zCr x) (fun k5=>(zAb (zAa (zAe 1 (zAc (zAD (E_a [] an (I 3) ([]) ?_ rfl))))))) (fun k5=>(zAn (zAb (zAb (zAa (zAe 2 (S_a [(0,.n (b.rs.length))] (ap ((by simp):some (List.map zDF b.rs).length=some b.rs.length) an) (zAe 1 (zAc (zAm 1 ?_)))))))))))))))))))))))))))))))))))))))))))))))))))))
 ·simp only [zBs,k0,if_true]
 ·simp only [zBs,k0,k1,if_true];rfl
 ·simp only [zBs,k0,k1,k2,if_true,if_false];rfl
 ·simp only [zBs,k0,k1,k2,k3,if_true,if_false];rfl
 ·simp only [zBs,k0,k1,k2,k3,k4,if_true,if_false];rfl
 ·simp only [zBs,k0,k1,k2,k3,k4,k5,if_true,if_false];rfl
 have e:zBs b=zDb b.cr b.rs:=by simp only [zBs,k0,k1,k2,k3,k4,k5,if_false];rfl
 have vK:=zLU k0
 rw [e]
 refine zBc (fun i=>i≤b.rs.length∧zDb b.cr b.rs=zDb b.cr (b.rs.drop i)) (fun i=>[(42,I (i:Nat))]) (fun i=>b.rs.length-i) (0:Nat) ⟨Nat.zero_le _,rfl⟩ fun i ⟨hi,hr⟩=>?_
 have hm:i<b.rs.length→(b.rs.getD i default).may.length<4294967296:=fun h=>hb.2 _ (by rw [zAE h];exact List.getElem_mem _)
 have js:i<b.rs.length→zDb b.cr b.rs=if zDh b.cr (b.rs.getD i default)=0 then zDb b.cr (b.rs.drop (i+1)) else zDh b.cr (b.rs.getD i default):=fun h=>by rw [hr,zOX h]
 refine zAb (zAa (zAe 1 (zAc (zAb (zCC ((↑i:Int)<(↑b.rs.length:Int)) (fun k6=>(zAn (zAb (zAm 2 (zAb (zAa (S_a [(2,.v (PV.agg [I (b.rs.getD i default).w,I (b.rs.getD i default).s,PV.sl (List.map I (b.rs.getD i default).may)]))] (ap (zBd (default) (by omega):(List.map zDF b.rs)[i]? = some (PV.agg [I (b.rs.getD i default).w,I (b.rs.getD i default).s,PV.sl (List.map I (b.rs.getD i default).may)])) an) (zAe 3 (zAc (zAb (zAm 3 (zAb (zAa (zAe 2 (S_a [(0,.n ((b.rs.getD i default).may.length))] (ap ((by simp):some (List.map I (b.rs.getD i default).may).length=some (b.rs.getD i default).may.length) an) (zAe 2 (zAc (zCC ((↑(b.rs.getD i default).may.length:Int)=0) (fun k7=>(zAb (zAa (zAe 1 (zAc (zAD (E_a [] an (I 6) ([]) ?_ rfl))))))) (fun k7=>(zAb (zAa (zAe 4 (S_a [(7,.ret (PV.bool ((b.rs.getD i default).may.all fun x=>decide (0≤x)&&decide (x≤b.cr-1))) ([]))] (ap (f79_2 (b) (by omega) ((b.rs.getD i default).may) (by omega)) an) (zAe 2 (zAc (zIx (!(b.rs.getD i default).may.all fun x=>decide (0≤x)&&decide (x≤b.cr-1)) (fun k8=>(zAb (zAa (zAe 1 (zAc (zAD (E_a [] an (I 1) ([]) ?_ rfl))))))) (fun k8=>(zAn (zAb (zAa (zAe 2 (S_a [(2,.ob),(0,.ob),(0,.ob),(0,.v (PV.sl (List.map I (List.take ((b.rs.getD i default).may.length-1) (List.drop 1 (b.rs.getD i default).may)))))] (ap ((by exact zAw (by simp only [List.length_map,zzLn,zAC]<;>omega)):Nat.ble 1 (List.map I (b.rs.getD i default).may).length=true) (ap ((by exact zAw (by simp only [List.length_map,zzLn,zAC]<;>omega)):(List.map I (b.rs.getD i default).may).length.ble (List.map I (b.rs.getD i default).may).length=true) (ap (?_:((List.map I (b.rs.getD i default).may).all fun x=>x.cells.length.beq ((fun x=>x.size) Try.prog.types[3]))=true) (ap ((by simp):PV.sl (List.take ((List.map I (b.rs.getD i default).may).length-1) (List.drop 1 (List.map I (b.rs.getD i default).may)))=PV.sl (List.map I (List.take ((b.rs.getD i default).may.length-1) (List.drop 1 (b.rs.getD i default).may)))) an)))) (S_a [(0,.n ((List.take ((b.rs.getD i default).may.length-1) (List.drop 1 (b.rs.getD i default).may)).length))] (ap ((by simp):some (List.map I (List.take ((b.rs.getD i default).may.length-1) (List.drop 1 (b.rs.getD i default).may))).length=some (List.take ((b.rs.getD i default).may.length-1) (List.drop 1 (b.rs.getD i default).may)).length) an) (zAe 1 (zAc (zAm 4 ?_)))))))))))))))))))))))))))))))))))) (fun k6=>(zBA 1 (zAb (zAa (zAe 1 (zAc (zAD (E_a [] an (I 0) ([]) ?_ rfl)))))))))))))
 ·have e1:(b.rs.getD i default).may.length=0:=by omega
  have e2:zDh b.cr (b.rs.getD i default)=6:=by simp only [zDh,e1,if_true]
  rw [js (by omega),e2];rfl
 ·have e1:¬ (b.rs.getD i default).may.length=0:=by omega
  have e2:zDh b.cr (b.rs.getD i default)=1:=by simp only [zDh,e1,k8,if_true,if_false]
  rw [js (by omega),e2];rfl
 ·exact all_map _ (fun _=>by kernel_rfl)
 ·refine zBc (fun j=>j+1≤(b.rs.getD i default).may.length∧∀ t,t<j→(b.rs.getD i default).may.getD t 0<(b.rs.getD i default).may.getD (t+1) 0) (fun j=>[(62,I (j:Nat))]) (fun j=>(b.rs.getD i default).may.length-j) (0:Nat) ⟨by omega,by simp⟩ fun j ⟨hj,hja⟩=>?_
  have e1:¬ (b.rs.getD i default).may.length=0:=by omega
  have e2:(List.take ((b.rs.getD i default).may.length-1) (List.drop 1 (b.rs.getD i default).may)).length=(b.rs.getD i default).may.length-1:=by simp
  refine zAb (zAa (zAe 1 (zAc (zAb (zCC ((↑j:Int)<(↑(List.take ((b.rs.getD i default).may.length-1) (List.drop 1 (b.rs.getD i default).may)).length:Int)) (fun k9=>(zAn (zAb (zAm 5 (zAb (zAa (zAe 2 (zAc (zAb (zAa (zAe 3 (S_a [(2,.v (I ((b.rs.getD i default).may.getD j 0)))] (ap (zBd (0) (by omega):(List.map I (b.rs.getD i default).may)[j]? = some (I ((b.rs.getD i default).may.getD j 0))) an) (zAe 4 (S_a [(1,.v (I (↑(j+1):Int)))] (ap ((zAH (by omega) (by omega)):I (IntKind.i64.wrap ((↑j:Int)+1))=I (↑(j+1):Int)) an) (S_a [(2,.v (I ((b.rs.getD i default).may.getD (j+1) 0)))] (ap (zBd (0) (by omega):(List.map I (b.rs.getD i default).may)[j+1]? = some (I ((b.rs.getD i default).may.getD (j+1) 0))) an) (zAe 2 (zAc (zCC ((b.rs.getD i default).may.getD j 0≥(b.rs.getD i default).may.getD (j+1) 0) (fun k10=>(zAb (zAa (zAe 1 (zAc (zAD (E_a [] an (I 4) ([]) ?_ rfl))))))) (fun k10=>(zAn (zAa (S_a [(1,.v (I (↑(j+1):Int)))] (ap ((zAH (by omega) (by omega)):I (IntKind.i64.wrap ((↑j:Int)+1))=I (↑(j+1):Int)) an) (zAe 1 (zAc ?_)))))))))))))))))))))))) (fun k9=>(zBA 4 (zAa (S_a [(1,.v (I (↑(i+1):Int)))] (ap ((zAH (by omega) (by omega)):I (IntKind.i64.wrap ((↑i:Int)+1))=I (↑(i+1):Int)) an) (zAe 1 (zAc ?_)))))))))))
  ·have e3:zDh b.cr (b.rs.getD i default)=4:=by
    simp only [zDh,e1,k8,zUR (l:=(b.rs.getD i default).may) (j:=j) (by omega) k10];rfl
   rw [js (by omega),e3];rfl
  ·refine ⟨j+1,⟨by omega,fun t ht=>?_⟩,by omega,by kernel_rfl,by kernel_rfl⟩
   rcases Nat.lt_succ_iff_lt_or_eq.1 ht with h | rfl
   ·exact hja t h
   ·omega
  ·have e3:zDh b.cr (b.rs.getD i default)=0:=by
    simp only [zDh,e1,k8,zSW (l:=(b.rs.getD i default).may) fun t ht=>hja t (by omega)];rfl
   refine ⟨i+1,⟨by omega,?_⟩,by omega,by kernel_rfl,by kernel_rfl⟩
   rw [js (by omega),e3];rfl
 ·have:i=b.rs.length:=by omega
  rw [hr,this];simp [zDb]
end
end Go.Eng
set_option maxRecDepth 10000
set_option maxHeartbeats 2000000
namespace Go.Eng
open Go Go.Proofs
structure Good (b:Dk):Prop where
 cr:1≤b.cr∧b.cr≤4
 len:b.rs.length≤7
 wd:0≤b.wd∧b.wd≤20
 st:0≤b.st∧b.st≤20
 fn:0≤b.fn∧b.fn≤20
 num:∀ r∈b.rs,(1≤r.w∧r.w≤9)∧1≤r.s∧r.s≤5
 may:∀ r∈b.rs,r.may.length≠0∧(∀ x∈r.may,0≤x∧x≤b.cr-1)∧zMC r.may=true
theorem zPV {cr:Int}:∀ {l:List Rnd},zDb cr l=0→∀ r∈l,r.may.length≠0∧(∀ x∈r.may,0≤x∧x≤cr-1)∧zMC r.may=true
 | [],_,r,hr=>by cases hr
 | q :: l, h,r,hr=>by
  simp only [zDb] at h
  by_cases h0:zDh cr q=0
  ·rw [if_pos h0] at h
   rcases List.mem_cons.1 hr with rfl | hr
   ·simp only [zDh] at h0
    split at h0
    ·cases h0
    ·rename_i h1
     split at h0
     ·cases h0
     ·rename_i h2
      split at h0
      ·cases h0
      ·rename_i h3
       exact ⟨h1,zMc (by simpa using h2),by simpa using h3⟩
   ·exact zPV h r hr
  ·rw [if_neg h0] at h;exact absurd h h0
theorem zEi {b:Dk} (h:zBs b=0):Good b:=by
 simp only [zBs] at h
 split at h
 ·cases h
 rename_i h1
 split at h
 ·cases h
 rename_i h2
 split at h
 ·cases h
 rename_i h3
 split at h
 ·cases h
 rename_i h4
 split at h
 ·cases h
 rename_i h5
 split at h
 ·cases h
 rename_i h6
 refine ⟨zLU (by simpa using h1),by omega,zLU (by simpa using h3),zLU (by simpa using h4),zLU (by simpa using h5),fun r hr=>?_,zPV h⟩
 have:b.rs.all zCr=true:=by simpa using h6
 have:=List.all_eq_true.1 this r hr
 simp only [zCr,Bool.and_eq_true,decide_eq_true_eq] at this
 exact this
def zE9 (b:Dk) (r:Rnd):Int:=r.s*(b.st+r.w*b.wd)
def zBp (b:Dk):List Int:=b.rs.map (zE9 b)
theorem zIc {b:Dk} {r:Rnd} (h:Good b) (hr:(1≤r.w∧r.w≤9)∧1≤r.s∧r.s≤5):0≤zE9 b r∧zE9 b r≤1000:=by
 have h1:=h.wd
 have h2:=h.st
 have h3:0≤r.w*b.wd:=Int.mul_nonneg (by omega) (by omega)
 have h4:r.w*b.wd≤9*20:=Int.mul_le_mul (by omega) (by omega) (by omega) (by omega)
 refine ⟨Int.mul_nonneg (by omega) (by omega),?_⟩
 have h5:r.s*(b.st+r.w*b.wd)≤5*(20+9*20):=Int.mul_le_mul (by omega) (by omega) (by omega) (by omega)
 unfold zE9;omega
theorem zGJ {b:Dk} {i:Nat} (h:i<b.rs.length):(zBp b).getD i 0=zE9 b (b.rs.getD i default):=by
 rw [zAE (by simpa [zBp] using h),zAE h];simp [zBp]
theorem zEF {b:Dk}:(zBp b).length=b.rs.length:=by simp [zBp]
theorem zKE {b:Dk} (h:Good b) {i:Nat} (hi:i<b.rs.length):(1≤(b.rs.getD i default).w∧(b.rs.getD i default).w≤9)∧1≤(b.rs.getD i default).s∧(b.rs.getD i default).s≤5:=by
 rw [zAE hi];exact h.num _ (List.getElem_mem hi)
theorem zG4 {b:Dk} (h:Good b) (i:Nat):0≤(zBp b).getD i 0∧(zBp b).getD i 0≤1000:=by
 rcases Nat.lt_or_ge i b.rs.length with hi | hi
 ·rw [zGJ hi];exact zIc h (zKE h hi)
 ·rw [List.getD_eq_getElem?_getD,List.getElem?_eq_none (by rw [zEF];exact hi)];simp
theorem zF1 {b:Dk} (h:Good b) {i:Nat} (hi:i<b.rs.length):(b.rs.getD i default).may.length≠0∧(∀ x∈(b.rs.getD i default).may,0≤x∧x≤b.cr-1)∧zMC (b.rs.getD i default).may=true:=by
 rw [zAE hi];exact h.may _ (List.getElem_mem hi)
section
variable [Yo]
theorem f101_1 (b:Dk) (hb:zKU b) (h:zBs b=0):FG 101 [zHE b] (.tup [.ref (zGI b (zBp b)),I 0]):=by
 refine zAi Try.f101 ?_
 have hg:=zEi h
 have hO:=hg.len
 refine zAb (zAa (zAe 3 (zAc (zAb (zAb (zAa (zAe 1 (S_a [(6,.ret (I (zBs b)) ([]))] (ap (f58 (b) (by omega)) an) (zAe 1 (zAc (zAb (zAa (zAe 2 (zAc (zHm (zBs b=0) (by omega) (zAn (zAb (zAa (zAe 4 (zAc (zAb (zAb (zAa (zAe 2 (S_a [(0,.n (b.rs.length))] (ap ((by simp):some (List.map zDF b.rs).length=some b.rs.length) an) (zAe 1 (zAc (zAm 0 ?_))))))))))))))))))))))))))))
 refine zBc (fun (i,f)=>i≤b.rs.length∧f=(zBp b).take i) (fun (i,f)=>[(5,.box (.agg [I b.cr,I b.wd,I b.st,I b.fn,.sl (b.rs.map zDF),.own 1 (f.map I)])),(19,I (i:Nat))]) (fun (i,_)=>b.rs.length-i) ((0:Nat),([]:List Int)) ⟨Nat.zero_le _,rfl⟩ fun (i,f) ⟨hi,hf⟩=>?_
 have h1:=hg.wd
 have h2:=hg.st
 have h3:i<b.rs.length→_:=fun h=>zKE hg h
 have h4:i<b.rs.length→0≤(b.rs.getD i default).w*b.wd∧(b.rs.getD i default).w*b.wd≤9*20:=fun h=>⟨Int.mul_nonneg (by have:=h3 h;omega) (by omega),Int.mul_le_mul (by have:=h3 h;omega) (by omega) (by omega) (by omega)⟩
 have h5:i<b.rs.length→0≤(b.rs.getD i default).s*(b.st+(b.rs.getD i default).w*b.wd)∧(b.rs.getD i default).s*(b.st+(b.rs.getD i default).w*b.wd)≤1000:=fun h=>zIc hg (h3 h)
 have hl:f.length=i:=by rw [hf];simp [zBp];omega
 refine zAb (zAa (zAe 1 (zAc (zAb (zCC ((↑i:Int)<(↑b.rs.length:Int)) (fun k0=>(zAn (zAb (zAm 1 (zAb (zAa (S_a [(2,.v (PV.agg [I (b.rs.getD i default).w,I (b.rs.getD i default).s,PV.sl (List.map I (b.rs.getD i default).may)]))] (ap (zBd (default) (by omega):(List.map zDF b.rs)[i]? = some (PV.agg [I (b.rs.getD i default).w,I (b.rs.getD i default).s,PV.sl (List.map I (b.rs.getD i default).may)])) an) (zAe 3 (zAc (zAa (zAe 4 (S_a [(1,.v (PV.bor 5 [(0,5)] 1 0 f.length))] (ap ((by simp):PV.bor 5 [(0,5)] 1 0 (List.map I f).length=PV.bor 5 [(0,5)] 1 0 f.length) an) (zAe 8 (S_a [(1,.v (I ((b.rs.getD i default).w*b.wd)))] (ap ((zAH rfl (by omega)):I (IntKind.i64.wrap ((b.rs.getD i default).w*b.wd))=I ((b.rs.getD i default).w*b.wd)) an) (S_a [(1,.v (I (b.st+(b.rs.getD i default).w*b.wd)))] (ap ((zAH rfl (by omega)):I (IntKind.i64.wrap (b.st+(b.rs.getD i default).w*b.wd))=I (b.st+(b.rs.getD i default).w*b.wd)) an) (S_a [(1,.v (I ((b.rs.getD i default).s*(b.st+(b.rs.getD i default).w*b.wd))))] (ap ((zAH rfl (by omega)):I (IntKind.i64.wrap ((b.rs.getD i default).s*(b.st+(b.rs.getD i default).w*b.wd)))=I ((b.rs.getD i default).s*(b.st+(b.rs.getD i default).w*b.wd))) an) (zAe 1 (S_a [(4,.ob),(0,.ob),(0,.yes),(2,.v (PV.own 1 (List.map I (f++[(b.rs.getD i default).s*(b.st+(b.rs.getD i default).w*b.wd)]))))] (ap ((by exact zAw (by simp only [List.length_map,zzLn,zAC]<;>omega)):(0+f.length).ble (List.map I f).length=true) (ap ((by exact zAw (by simp only [List.length_map,zzLn,zAC]<;>omega)):((List.map I f).length + [I ((b.rs.getD i default).s*(b.st+(b.rs.getD i default).w*b.wd))].length).ble zAC=true) (ap ((by exact zBF (by simp<;>omega)):(0+f.length).beq (List.map I f).length=true) (ap ((by simp):PV.own 1 (List.map I f++[I ((b.rs.getD i default).s*(b.st+(b.rs.getD i default).w*b.wd))])=PV.own 1 (List.map I (f++[(b.rs.getD i default).s*(b.st+(b.rs.getD i default).w*b.wd)]))) an)))) (zAe 3 (zAc (zAa (S_a [(1,.v (I (↑(i+1):Int)))] (ap ((zAH (by omega) (by omega)):I (IntKind.i64.wrap ((↑i:Int)+1))=I (↑(i+1):Int)) an) (zAe 1 (zAc ?_)))))))))))))))))))))))) (fun k0=>(zBA 0 (zAb (zAa (zAe 1 (zAe 1 (zAe 1 (zAc (zAD (E_a [(1,.env ([(1,(PV.agg [I b.cr,I b.wd,I b.st,I b.fn,PV.sl (List.map zDF b.rs)]).box),(2,(PV.agg [I b.cr,I b.wd,I b.st,I b.fn,PV.sl (List.map zDF b.rs),PV.sl (List.map I f)]).ref),(3,I 0),(4,I (zBs b)),(5,(PV.agg [I b.cr,I b.wd,I b.st,I b.fn,PV.sl (List.map zDF b.rs),PV.sl (List.map I f)]).ref),(11,PV.bool (zBs b != 0)),(16,PV.addr 1 [] 0 4 none),(17,PV.sl (List.map zDF b.rs)),(18,I (↑b.rs.length:Int)),(19,I (↑i:Int)),(20,PV.bool (decide ((↑i:Int)<(↑b.rs.length:Int)))),(44,(PV.agg [I b.cr,I b.wd,I b.st,I b.fn,PV.sl (List.map zDF b.rs),PV.sl (List.map I f)]).ref)])),(0,.v ((PV.agg [I b.cr,I b.wd,I b.st,I b.fn,PV.sl (List.map zDF b.rs),PV.sl (List.map I f)]).ref))] (ap (Eq.trans (by kernel_rfl:Env.frz [(1,(PV.agg [I b.cr,I b.wd,I b.st,I b.fn,PV.sl (List.map zDF b.rs)]).box),(2,PV.addr 5 [] 0 0 (some 6)),(3,I 0),(4,I (zBs b)),(5,(PV.agg [I b.cr,I b.wd,I b.st,I b.fn,PV.sl (List.map zDF b.rs),PV.own 1 (List.map I f)]).box),(11,PV.bool (zBs b != 0)),(16,PV.addr 1 [] 0 4 none),(17,PV.sl (List.map zDF b.rs)),(18,I (↑b.rs.length:Int)),(19,I (↑i:Int)),(20,PV.bool (decide ((↑i:Int)<(↑b.rs.length:Int)))),(44,PV.addr 5 [] 0 0 (some 6))] 5 []=some [(1,(PV.agg [I b.cr,I b.wd,I b.st,I b.fn,PV.sl (List.map zDF b.rs)]).box),(2,(PV.agg [I b.cr,I b.wd,I b.st,I b.fn,PV.sl (List.map zDF b.rs),PV.sl (zAx (List.map I f))]).ref),(3,I 0),(4,I (zBs b)),(5,(PV.agg [I b.cr,I b.wd,I b.st,I b.fn,PV.sl (List.map zDF b.rs),PV.sl (zAx (List.map I f))]).ref),(11,PV.bool (zBs b != 0)),(16,PV.addr 1 [] 0 4 none),(17,PV.sl (List.map zDF b.rs)),(18,I (↑b.rs.length:Int)),(19,I (↑i:Int)),(20,PV.bool (decide ((↑i:Int)<(↑b.rs.length:Int)))),(44,(PV.agg [I b.cr,I b.wd,I b.st,I b.fn,PV.sl (List.map zDF b.rs),PV.sl (zAx (List.map I f))]).ref)]) ((by simp only [show zAx (List.map I f)=List.map I f from (by first | exact zBo _ | exact zAM _ | exact zA3 (zAM _) | exact zFK (by simp [zDy]) (zBo _))]):some [(1,(PV.agg [I b.cr,I b.wd,I b.st,I b.fn,PV.sl (List.map zDF b.rs)]).box),(2,(PV.agg [I b.cr,I b.wd,I b.st,I b.fn,PV.sl (List.map zDF b.rs),PV.sl (zAx (List.map I f))]).ref),(3,I 0),(4,I (zBs b)),(5,(PV.agg [I b.cr,I b.wd,I b.st,I b.fn,PV.sl (List.map zDF b.rs),PV.sl (zAx (List.map I f))]).ref),(11,PV.bool (zBs b != 0)),(16,PV.addr 1 [] 0 4 none),(17,PV.sl (List.map zDF b.rs)),(18,I (↑b.rs.length:Int)),(19,I (↑i:Int)),(20,PV.bool (decide ((↑i:Int)<(↑b.rs.length:Int)))),(44,(PV.agg [I b.cr,I b.wd,I b.st,I b.fn,PV.sl (List.map zDF b.rs),PV.sl (zAx (List.map I f))]).ref)]=some [(1,(PV.agg [I b.cr,I b.wd,I b.st,I b.fn,PV.sl (List.map zDF b.rs)]).box),(2,(PV.agg [I b.cr,I b.wd,I b.st,I b.fn,PV.sl (List.map zDF b.rs),PV.sl (List.map I f)]).ref),(3,I 0),(4,I (zBs b)),(5,(PV.agg [I b.cr,I b.wd,I b.st,I b.fn,PV.sl (List.map zDF b.rs),PV.sl (List.map I f)]).ref),(11,PV.bool (zBs b != 0)),(16,PV.addr 1 [] 0 4 none),(17,PV.sl (List.map zDF b.rs)),(18,I (↑b.rs.length:Int)),(19,I (↑i:Int)),(20,PV.bool (decide ((↑i:Int)<(↑b.rs.length:Int)))),(44,(PV.agg [I b.cr,I b.wd,I b.st,I b.fn,PV.sl (List.map zDF b.rs),PV.sl (List.map I f)]).ref)])) (ap ((by simp only [show zAx (List.map I f)=List.map I f from (by first | exact zBo _ | exact zAM _ | exact zA3 (zAM _) | exact zFK (by simp [zDy]) (zBo _))]):(PV.agg [I b.cr,I b.wd,I b.st,I b.fn,PV.sl (List.map zDF b.rs),PV.sl (zAx (List.map I f))]).ref=(PV.agg [I b.cr,I b.wd,I b.st,I b.fn,PV.sl (List.map zDF b.rs),PV.sl (List.map I f)]).ref) an)) (PV.tup [(PV.agg [I b.cr,I b.wd,I b.st,I b.fn,PV.sl (List.map zDF b.rs),PV.sl (List.map I f)]).ref,I 0]) ([]) ?_ rfl)))))))))))))))
 ·refine ⟨(i+1,f++[(b.rs.getD i default).s*(b.st+(b.rs.getD i default).w*b.wd)]),⟨by omega,?_⟩,by simp only;omega,by kernel_rfl,by kernel_rfl⟩
  rw [hf,List.take_add_one,List.getElem?_eq_getElem (by rw [zEF];omega)]
  have:=zGJ (b:=b) (i:=i) (by omega)
  rw [zAE (by rw [zEF];omega)] at this
  rw [this];rfl
 ·rw [hf,List.take_of_length_le (by rw [zEF];omega)]
theorem f101_2 (b:Dk) (hb:zKU b) (h:¬ zBs b=0):FG 101 [zHE b] (.tup [.nilp,I (zBs b)]):=by
 refine zAi Try.f101 ?_
 refine zAb (zAa (zAe 3 (zAc (zAb (zAb (zAa (zAe 1 (S_a [(6,.ret (I (zBs b)) ([]))] (ap (f58 (b) (by omega)) an) (zAe 1 (zAc (zAb (zAa (zAe 2 (zAc (zGz (zBs b=0) (by omega) (zAb (zAa (zAe 3 (zAc (zAD (E_a [] an (PV.tup [PV.nilp,I (zBs b)]) ([]) rfl rfl)))))))))))))))))))))
def zHN (b:Dk) (l:List Int):Bool:=(List.range l.length).all fun r=>has (rnd b r).may (l.getD r 0)
def zBj (b:Dk) (l:List Int):Int :=
 if zBs b=0 then if l.length=b.rs.length then if !l.all (fun x=>decide (0≤x)&&decide (x≤b.cr-1)) then 1 else if zHN b l then 0 else 8 else 2 else zBs b
omit [Yo] in
theorem zNK {b:Dk} {l:List Int} (h:∀ r,r<l.length→has (rnd b r).may (l.getD r 0)=true):zHN b l=true:=by
 simp only [zHN,List.all_eq_true,List.mem_range];exact h
omit [Yo] in
theorem zRZ {b:Dk} {l:List Int} {r:Nat} (hr:r<l.length) (h:(!has (rnd b r).may (l.getD r 0))=true):zHN b l=false:=by
 simp only [zHN,List.all_eq_false]
 exact ⟨r,List.mem_range.2 hr,by simpa using h⟩
omit [Yo] in
theorem zJ6 {b:Dk} {l:List Int} (h:zHN b l=true) {r:Nat} (hr:r<l.length):has (rnd b r).may (l.getD r 0)=true:=by
 simp only [zHN,List.all_eq_true,List.mem_range] at h;exact h r hr
structure ShareOk (b:Dk) (l:List Int):Prop where
 box:zBs b=0
 len:l.length=b.rs.length
 rng:∀ x∈l,0≤x∧x≤b.cr-1
 may:zHN b l=true
omit [Yo] in
theorem zSV {b:Dk} {l:List Int} (h:zBj b l=0):ShareOk b l:=by
 simp only [zBj] at h
 split at h
 ·split at h
  ·split at h
   ·cases h
   ·rename_i h3
    split at h
    ·exact ⟨by assumption,by assumption,zMc (by simpa using h3),by assumption⟩
    ·cases h
  ·cases h
 ·exact absurd h (by assumption)
theorem f88_1 (b:Dk) (l:List Int) (hb:zKU b) (h:zBj b l=0):FG 88 [zHE b,zCb l] (.tup [.ref (zGI b (zBp b)),I 0]):=by
 obtain ⟨h0,h1,h2,h3⟩:=zSV h
 have hg:=zEi h0
 have vK:=hg.cr
 have vI:=hg.len
 have jQ:l.all (fun x=>decide (0≤x)&&decide (x≤b.cr-1))=true:=by
  simp only [List.all_eq_true];intro x hx;have:=h2 x hx;simp;omega
 refine zAi Try.f88 ?_
 refine zAb (zAa (zAe 3 (zAc (zAb (zAa (zAe 1 (S_a [(6,.ret (PV.tup [(zGI b (zBp b)).ref,I 0]) ([]))] (ap (f101_1 (b) (by omega) (by omega)) an) (zAe 5 (zAc (zAb (zAm 0 (zAb (zAa (zAe 3 (zAc (zAY (zAb (zAa (zAe 1 (S_a [(0,.n (l.length))] (ap ((by simp):some (List.map I l).length=some l.length) an) (zAe 2 (S_a [(0,.n (b.rs.length))] (ap ((by simp):some (List.map zDF b.rs).length=some b.rs.length) an) (zAe 2 (zAc (zHm ((↑l.length:Int)=(↑b.rs.length:Int)) (by omega) (zAb (zAa (zAe 3 (S_a [(7,.ret (PV.bool (l.all fun x=>decide (0≤x)&&decide (x≤b.cr-1))) ([]))] (ap (f79_2 (b) (by omega) (l) (by omega)) an) (zAe 2 (zAc (zIx (!l.all fun x=>decide (0≤x)&&decide (x≤b.cr-1)) (fun k0=>(zAb (zAa (zAe 2 (zAc (zAD (E_a [] an (PV.tup [PV.nilp,I 1]) ([]) ?_ rfl))))))) (fun k0=>(zAn (zAb (zAb (zAa (zAe 1 (S_a [(0,.n (l.length))] (ap ((by simp):some (List.map I l).length=some l.length) an) (zAe 1 (zAc (zAm 1 ?_))))))))))))))))))))))))))))))))))))))))))
 ·rw [jQ] at k0;cases k0
 refine zBc (fun i=>i≤l.length) (fun i=>[(34,I (i:Nat))]) (fun i=>l.length-i) (0:Nat) (Nat.zero_le _) fun i hi=>?_
 have h4:i<l.length→has (rnd b i).may (l.getD i 0)=true:=fun h=>zJ6 h3 h
 refine zAb (zAa (zAe 1 (zAc (zAb (zCC ((↑i:Int)<(↑l.length:Int)) (fun k1=>(zAn (zAb (zAm 2 (zAb (zAa (zAe 1 (S_a [(2,.v (I (l.getD i 0)))] (ap (zBd (0) (by omega):(List.map I l)[i]? = some (I (l.getD i 0))) an) (zAe 3 (zAc (zAb (zAa (zAe 3 (S_a [(9,.ret (PV.bool (has (rnd b i).may (l.getD i 0))) ([]))] (ap (f98 (b) (zBp b) (l.getD i 0) (i) (by first | omega | (simp<;>omega)) (by omega)) an) (zAe 1 (zAc (zIx (!has (rnd b i).may (l.getD i 0)) (fun k2=>(zAb (zAa (zAe 2 (zAc (zAD (E_a [] an (PV.tup [PV.nilp,I 8]) ([]) ?_ rfl))))))) (fun k2=>(zAn (zAa (S_a [(1,.v (I (↑(i+1):Int)))] (ap ((zAH (by omega) (by omega)):I (IntKind.i64.wrap ((↑i:Int)+1))=I (↑(i+1):Int)) an) (zAe 1 (zAc ?_))))))))))))))))))))))) (fun k1=>(zBA 1 (zAb (zAa (zAe 3 (zAc (zAD (E_a [] an (PV.tup [(PV.agg [I b.cr,I b.wd,I b.st,I b.fn,PV.sl (List.map zDF b.rs),PV.sl (List.map I (zBp b))]).ref,I 0]) ([]) rfl rfl)))))))))))))
 ·rw [h4 (by omega)] at k2;cases k2
 ·exact ⟨i+1,by omega,by omega,by kernel_rfl,by kernel_rfl⟩
theorem f88_2 (b:Dk) (l:List Int) (hb:zKU b) (hl:l.length<4294967296) (h:¬ zBj b l=0):FG 88 [zHE b,zCb l] (.tup [.nilp,I (zBj b l)]):=by
 by_cases h0:zBs b=0
 ·have hg:=zEi h0
  have vK:=hg.cr
  have vI:=hg.len
  refine zAi Try.f88 ?_
  refine zAb (zAa (zAe 3 (zAc (zAb (zAa (zAe 1 (S_a [(6,.ret (PV.tup [(zGI b (zBp b)).ref,I 0]) ([]))] (ap (f101_1 (b) (by omega) (by omega)) an) (zAe 5 (zAc (zAb (zAm 0 (zAb (zAa (zAe 3 (zAc (zAY (zAb (zAa (zAe 1 (S_a [(0,.n (l.length))] (ap ((by simp):some (List.map I l).length=some l.length) an) (zAe 2 (S_a [(0,.n (b.rs.length))] (ap ((by simp):some (List.map zDF b.rs).length=some b.rs.length) an) (zAe 2 (zAc (zGd ((↑l.length:Int)=(↑b.rs.length:Int)) (fun k0=>(zAb (zAa (zAe 2 (zAc (zAD (E_a [] an (PV.tup [PV.nilp,I 2]) ([]) ?_ rfl))))))) (fun k0=>(zAb (zAa (zAe 3 (S_a [(7,.ret (PV.bool (l.all fun x=>decide (0≤x)&&decide (x≤b.cr-1))) ([]))] (ap (f79_2 (b) (by omega) (l) (by omega)) an) (zAe 2 (zAc (zIx (!l.all fun x=>decide (0≤x)&&decide (x≤b.cr-1)) (fun k1=>(zAb (zAa (zAe 2 (zAc (zAD (E_a [] an (PV.tup [PV.nilp,I 1]) ([]) ?_ rfl))))))) (fun k1=>(zAn (zAb (zAb (zAa (zAe 1 (S_a [(0,.n (l.length))] (ap ((by simp):some (List.map I l).length=some l.length) an) (zAe 1 (zAc (zAm 1 ?_)))))))))))))))))))))))))))))))))))))))))))
  ·have e:¬ l.length=b.rs.length:=by omega
   simp only [zBj,h0,e,if_true,if_false]
  ·have e:l.length=b.rs.length:=by omega
   simp only [zBj,h0,e,k1,if_true]
  have e:l.length=b.rs.length:=by omega
  refine zBc (fun i=>i≤l.length∧∀ r,r<i→has (rnd b r).may (l.getD r 0)=true) (fun i=>[(34,I (i:Nat))]) (fun i=>l.length-i) (0:Nat) ⟨Nat.zero_le _,by simp⟩ fun i ⟨hi,ha⟩=>?_
  refine zAb (zAa (zAe 1 (zAc (zAb (zCC ((↑i:Int)<(↑l.length:Int)) (fun k2=>(zAn (zAb (zAm 2 (zAb (zAa (zAe 1 (S_a [(2,.v (I (l.getD i 0)))] (ap (zBd (0) (by omega):(List.map I l)[i]? = some (I (l.getD i 0))) an) (zAe 3 (zAc (zAb (zAa (zAe 3 (S_a [(9,.ret (PV.bool (has (rnd b i).may (l.getD i 0))) ([]))] (ap (f98 (b) (zBp b) (l.getD i 0) (i) (by first | omega | (simp<;>omega)) (by omega)) an) (zAe 1 (zAc (zIx (!has (rnd b i).may (l.getD i 0)) (fun k3=>(zAb (zAa (zAe 2 (zAc (zAD (E_a [] an (PV.tup [PV.nilp,I 8]) ([]) ?_ rfl))))))) (fun k3=>(zAn (zAa (S_a [(1,.v (I (↑(i+1):Int)))] (ap ((zAH (by omega) (by omega)):I (IntKind.i64.wrap ((↑i:Int)+1))=I (↑(i+1):Int)) an) (zAe 1 (zAc ?_))))))))))))))))))))))) (fun k2=>(zBA 1 (zAb (zAa (zAe 3 (zAc (zAD (E_a [] an (PV.tup [(PV.agg [I b.cr,I b.wd,I b.st,I b.fn,PV.sl (List.map zDF b.rs),PV.sl (List.map I (zBp b))]).ref,I 0]) ([]) ?_ rfl)))))))))))))
  ·simp only [zBj,h0,e,k1,if_true,zRZ (b:=b) (l:=l) (r:=i) (by omega) k3];rfl
  ·refine ⟨i+1,⟨by omega,fun r hr=>?_⟩,by omega,by kernel_rfl,by kernel_rfl⟩
   rcases Nat.lt_succ_iff_lt_or_eq.1 hr with hr | rfl
   ·exact ha r hr
   ·simpa using k3
  ·have:zBj b l=0:=by simp only [zBj,h0,e,k1,if_true,zNK (b:=b) (l:=l) fun r hr=>ha r (by omega)];rfl
   exact absurd this h
 ·have e:zBj b l=zBs b:=by simp only [zBj,h0,if_false]
  rw [e]
  refine zAi Try.f88 ?_
  refine zAb (zAa (zAe 3 (zAc (zAb (zAa (zAe 1 (S_a [(6,.ret (PV.tup [PV.nilp,I (zBs b)]) ([]))] (ap (f101_2 (b) (by omega) (by omega)) an) (zAe 5 (zAc (zAb (zAm 0 (zAb (zAa (zAe 3 (zAc (zGz (zBs b=0) (by omega) (zAb (zAa (zAe 3 (zAc (zAD (E_a [] an (PV.tup [PV.nilp,I (zBs b)]) ([]) rfl rfl))))))))))))))))))))))
def zFh (fee zAs:List Int):Nat→List Int
 | 0=>[0,0,0,0]
 | n+1=>(zFh fee zAs n).set (zAs.getD n 0).toNat ((zFh fee zAs n).getD (zAs.getD n 0).toNat 0+fee.getD n 0)
omit [Yo] in
theorem zFP {fee zAs:List Int}:∀ n,(zFh fee zAs n).length=4
 | 0=>rfl
 | n+1=>by simp [zFh,zFP n]
omit [Yo] in
theorem zHC {fee zAs:List Int} (h:∀ i,0≤fee.getD i 0∧fee.getD i 0≤1000):∀ (n i:Nat),0≤(zFh fee zAs n).getD i 0∧(zFh fee zAs n).getD i 0≤1000*n
 | 0,i=>by
  match i with
  | 0=>simp [zFh]
  | 1=>simp [zFh]
  | 2=>simp [zFh]
  | 3=>simp [zFh]
  | _+4=>simp [zFh]
 | n+1,i=>by
  have h1:=zHC (zAs:=zAs) h n i
  have h2:=zHC (zAs:=zAs) h n (zAs.getD n 0).toNat
  have h3:=h n
  rw [zFh,zEh]
  split<;>omega
omit [Yo] in
theorem zPu {l:List Int} (h:l.length=4):∃ a b c d,l=[a,b,c,d]:=by
 match l,h with
 | [a,b,c,d],_=>exact ⟨a,b,c,d,rfl⟩
theorem f90 (b:Dk) (fee zAs:List Int) (h1:∀ x∈zAs,0≤x∧x<4) (h2:∀ i,0≤fee.getD i 0∧fee.getD i 0≤1000) (h3:zAs.length≤1000) (h4:zAs.length=fee.length):FG 90 [.ref (zGI b fee),zCb zAs] (.agg ((zFh fee zAs zAs.length).map I)):=by
 refine zAi Try.f90 ?_
 refine zAb (zAa (zAe 1 (zAc (zAb (zAa (zAe 1 (zAc (zAb (zAb (zAa (zAe 1 (S_a [(0,.n (zAs.length))] (ap ((by simp):some (List.map I zAs).length=some zAs.length) an) (zAe 1 (zAc (zAm 0 ?_)))))))))))))))
 refine zBc (fun (i,f)=>i≤zAs.length∧f=zFh fee zAs i) (fun (i,f)=>[(5,.box (.agg (f.map I))),(10,I (i:Nat))]) (fun (i,_)=>zAs.length-i) ((0:Nat),zFh fee zAs 0) ⟨Nat.zero_le _,rfl⟩ fun (i,f) ⟨hi,hf⟩=>?_
 have ji:f.length=4:=by rw [hf];exact zFP i
 have hx:i<zAs.length→0≤zAs.getD i 0∧zAs.getD i 0<4:=fun h=>zB6 h1 i h
 have yT:=zHC (zAs:=zAs) h2 i (zAs.getD i 0).toNat
 rw [← hf] at yT
 have jN:=h2 i
 refine zAb (zAa (zAe 1 (zAc (zAb (zCC ((↑i:Int)<(↑zAs.length:Int)) (fun k0=>(zAn (zAb (zAm 1 (zAb (zAa (zAe 1 (S_a [(2,.v (I (zAs.getD i 0)))] (ap (zBd (0) (by omega):(List.map I zAs)[i]? = some (I (zAs.getD i 0))) an) (zAe 3 (zAc (zAa (zAe 1 (S_a [(0,.ob),(1,.ob)] (ap ((by exact zAu (by omega)):decide (0≤zAs.getD i 0)=true) (ap ((by exact zAu (by omega)):decide ((zAs.getD i 0).toNat<4)=true) an)) (S_a [(0,.cs true ([I (f.getD (zAs.getD i 0).toNat 0)]))] (ap (zBx (q:=(PV.agg (List.map I f)).box) (xs:=[PV.agg (List.map I f)]) (x:=PV.agg (List.map I f)) rfl rfl (zU3 (c:=(zAs.getD i 0).toNat) (0) (by first | rfl | exact zSP (by kernel_rfl) | exact zSN (by kernel_rfl) | (simp;done)) (by omega)):zAj 5 (PV.agg (List.map I f)).box [] 0 (0+(zAs.getD i 0).toNat*(fun x=>x.size) Try.prog.types[3]) 1=some (true,[I (f.getD (zAs.getD i 0).toNat 0)])) an) (zAe 5 (S_a [(2,.v (I (fee.getD i 0)))] (ap (zBd (0) (by omega):(List.map I fee)[i]? = some (I (fee.getD i 0))) an) (zAe 1 (S_a [(1,.v (I (f.getD (zAs.getD i 0).toNat 0+fee.getD i 0)))] (ap ((zAH rfl (by omega)):I (IntKind.i64.wrap (f.getD (zAs.getD i 0).toNat 0+fee.getD i 0))=I (f.getD (zAs.getD i 0).toNat 0+fee.getD i 0)) an) (S_a [(0,.ob),(1,.ob)] (ap ((by exact zAu (by omega)):decide (0≤zAs.getD i 0)=true) (ap ((by exact zAu (by omega)):decide ((zAs.getD i 0).toNat<4)=true) an)) (S_a [(8,.root ((PV.agg (List.map I (f.set (zAs.getD i 0).toNat (f.getD (zAs.getD i 0).toNat 0+fee.getD i 0)))).box) true)] (ap (zUt (c:=(zAs.getD i 0).toNat) (by first | rfl | exact zSP (by kernel_rfl) | exact zSN (by kernel_rfl) | (simp;done)) (by omega):zA5 (PV.agg (List.map I f)).box [] 0 (0+(zAs.getD i 0).toNat*(fun x=>x.size) Try.prog.types[3]) (I (f.getD (zAs.getD i 0).toNat 0+fee.getD i 0)).cells=some (PV.agg (List.map I (f.set (zAs.getD i 0).toNat (f.getD (zAs.getD i 0).toNat 0+fee.getD i 0)))).box∧zAp (PV.agg (List.map I f)).box (PV.agg (List.map I (f.set (zAs.getD i 0).toNat (f.getD (zAs.getD i 0).toNat 0+fee.getD i 0)))).box []=true) an) (zAc (zAa (S_a [(1,.v (I (↑(i+1):Int)))] (ap ((zAH (by omega) (by omega)):I (IntKind.i64.wrap ((↑i:Int)+1))=I (↑(i+1):Int)) an) (zAe 1 (zAc ?_))))))))))))))))))))))))) (fun k0=>(zBA 0 (zAb (zAa ?_)))))))))
 ·exact ⟨(i+1,f.set (zAs.getD i 0).toNat (f.getD (zAs.getD i 0).toNat 0+fee.getD i 0)),⟨by omega,by rw [hf];rfl⟩,by simp only;omega,by kernel_rfl,by kernel_rfl⟩
 ·have:i=zAs.length:=by omega
  rw [this] at hf
  rw [← hf]
  obtain ⟨x0,x1,x2,x3,rfl⟩:=zPu ji
  refine zAe 2 (zAc (zAD (E_a [] an (PV.agg [I x0,I x1,I x2,I x3]) ([]) rfl rfl)))
end
end Go.Eng
namespace Go.Eng
open Go
def ltL:List Int→List Int→Bool
 | [],[]=>false
 | [],_::_=>true
 | _::_,[]=>false
 | x::xs,y::ys=>decide (x<y)||decide (x=y)&&ltL xs ys
def zVA (w:List Int→Int) (m l:List Int):Prop:=w l<w m∨w l=w m∧(m.length<l.length∨m.length=l.length∧ltL m l=true)
structure BestOf (w:List Int→Int) (L:List (List Int)) (m:List Int×Int):Prop where
 mem:m.1∈L
 val:m.2=w m.1
 all:∀ l∈L,l=m.1∨zVA w m.1 l
end Go.Eng
set_option maxRecDepth 10000
set_option maxHeartbeats 2000000
namespace Go.Eng
open Go Go.Proofs
section
variable [Yo]
theorem f109 (l:List Int) (hl:l.length<4294967296):FG 109 [zCb l] (.own 1 (l.map I)):=zIG (fn:=Try.f109) I l (by omega)
def zAV (b:Dk) (l:List Int):List Int:=if zBj b l=0 then (zFh (zBp b) l l.length).take b.cr.toNat else []
omit [Yo] in
theorem zTj {fee zAs:List Int} (h:∀ i,0≤fee.getD i 0∧fee.getD i 0≤1000) {n:Nat} (hn:n≤7):∀ x∈zFh fee zAs n,0≤x∧x≤1000000:=by
 intro x hx
 obtain ⟨k,hk,rfl⟩:=List.getElem_of_mem hx
 have:=zHC (zAs:=zAs) h n k
 rw [zAE hk] at this;omega
theorem f89 (n:Int):FG 89 [I n] (.bool (decide (0≤n)&&decide (n≤60))):=by
 refine zAi Try.f89 ?_
 refine zAb (zAa (zAe 1 (zAc (zAb (zAa (zAe 1 (S_a [(10,.ret (PV.bool (decide (0≤n)&&decide (n≤60))) ([]))] (ap (f78 (n) (0) (60)) an) (zAe 1 (zAc (zAD (E_a [] an (PV.bool (decide (0≤n)&&decide (n≤60))) ([]) rfl rfl)))))))))))
theorem f126_4  (x:Int):FG 126 [I x,.ref (.func 89 [] [])] (.bool (!(decide (0≤x)&&decide (x≤60)))):=by
 refine zAi Try.f126 ?_
 refine zAb (zAa (zAe 1 (zAc (zAb (zAa (zAe 2 (S_a [(6,.ret (PV.bool (decide (0≤x)&&decide (x≤60))) ([]))] (ap (f89 (x)) an) (zAe 2 (zAc (zAD (E_a [] an (PV.bool !(decide (0≤x)&&decide (x≤60))) ([]) rfl rfl)))))))))))
theorem f118_4n  (l:List Int) (hl:l.length<4294967296):FG 118 [zCb l,.func 126 [] [.ref (.func 89 [] [])]] (I (zGA (fun x => !(decide (0≤x)&&decide (x≤60))) l)):=by
 refine zAi Try.f118 ?_
 refine zAb (zAa (zAe 1 (zAc (zAb (zAb (zAa (zAe 1 (S_a [(0,.n (l.length))] (ap ((by simp):some (List.map I l).length=some l.length) an) (zAe 1 (zAc (zAm 0 ?_)))))))))))
 refine zBc (fun i=>i≤l.length∧∀ j,j<i→(fun x => !(decide (0≤x)&&decide (x≤60))) (l.getD j 0)=false) (fun i=>[(8,I (i:Nat))]) (fun i=>l.length-i) (0:Nat) (by simp) fun i ⟨hi,ha⟩=>?_
 refine zAb (zAa (zAe 1 (zAc (zAb (zCC ((↑i:Int)<(↑l.length:Int)) (fun k0=>(zAn (zAb (zAm 1 (zAb (zAa (zAe 2 (zAc (zAb (zAa (zAe 3 (S_a [(2,.v (I (l.getD i 0)))] (ap (zBd (0) (by omega):(List.map I l)[i]? = some (I (l.getD i 0))) an) (zAe 1 (S_a [(7,.ret (PV.bool !(decide (0≤l.getD i 0)&&decide (l.getD i 0≤60))) ([]))] (ap (f126_4 (l.getD i 0)) an) (zAc (zIx (!(decide (0≤l.getD i 0)&&decide (l.getD i 0≤60))) (fun k1=>(zAb (zAa (zAe 2 (zAc (zAD (E_a [] an (I (↑i:Int)) ([]) ?_ rfl))))))) (fun k1=>(zAn (zAa (S_a [(1,.v (I (↑(i+1):Int)))] (ap ((zAH (by omega) (by omega)):I (IntKind.i64.wrap ((↑i:Int)+1))=I (↑(i+1):Int)) an) (zAe 1 (zAc ?_)))))))))))))))))))))) (fun k0=>(zBA 0 (zAb (zAa (zAe 1 (zAc (zAD (E_a [] an (I (-1)) ([]) ?_ rfl)))))))))))))
 ·rw [zCV (i:=i) (by omega) (fun j hj=>by rw [← zAE (d:=0)];exact ha j hj) (by rw [← zAE (d:=0)];assumption)]
 ·refine ⟨i+1,⟨by omega,fun j hj=>?_⟩,by omega,by kernel_rfl,by kernel_rfl⟩
  rcases Nat.lt_succ_iff_lt_or_eq.1 hj with h | rfl
  ·exact ha j h
  ·assumption
 ·rw [zDA fun j hj=>by rw [← zAE (d:=0)];exact ha j (by omega)]
theorem f65_4n  (l:List Int) (hl:l.length<4294967296):FG 65 [zCb l,.func 126 [] [.ref (.func 89 [] [])]] (.bool (l.any (fun x => !(decide (0≤x)&&decide (x≤60))))):=by
 refine zAi Try.f65 ?_
 refine zAb (zAa (zAe 1 (zAc (zAb (zAa (zAe 2 (S_a [(6,.ret (I (zGA (fun x => !(decide (0≤x)&&decide (x≤60))) l)) ([]))] (ap (f118_4n (l) (by omega)) an) (zAe 2 (zAc (zAD (E_a [] an (PV.bool (decide (zGA (fun x => !(decide (0≤x)&&decide (x≤60))) l≥0))) ([]) ?_ rfl)))))))))))
 rw [zFn]
theorem f79_4  (l:List Int) (hl:l.length<4294967296):FG 79 [zCb l,.func 89 [] []] (.bool (l.all (fun x=>decide (0≤x)&&decide (x≤60)))):=by
 refine zAi Try.f79 ?_
 refine zAb (zAa (zAe 2 (zAc (zAb (zAa (zAe 2 (S_a [(12,.ret (PV.bool (l.any fun x => !(decide (0≤x)&&decide (x≤60)))) ([]))] (ap (f65_4n (l) (by omega)) an) (zAe 2 (zAc (zAD (E_a [] an (PV.bool !l.any fun x => !(decide (0≤x)&&decide (x≤60))) ([]) ?_ rfl)))))))))))
 simp [List.not_any_eq_all_not]
end
end Go.Eng
namespace Go.Eng
open Go Go.Proofs
section
variable [Yo]
theorem f81a (l:List Int) (hl:l.length<1000) (hb:∀ x∈l,-1000000000000≤x∧x≤1000000000000):FG 81 [zCb l] (I l.sum):=by
 refine zAi Try.f81 ?_
 refine zAb (zAa (zAe 1 (zAc (zAb (zAa (zAe 1 (zAc (zAb (zAb (zAa (zAe 1 (S_a [(0,.n (l.length))] (ap ((by simp):some (List.map I l).length=some l.length) an) (zAe 1 (zAc (zAm 0 ?_)))))))))))))))
 refine zBc (fun (i,a)=>i≤l.length∧a=(l.take i).sum) (fun (i,a)=>[(3,I a),(8,I (i:Nat))]) (fun (i,_)=>l.length-i) ((0:Nat),(0:Int)) (by simp) fun (i,a) ⟨hi,ha⟩=>?_
 have h1:=zS4 (l:=l.take i) (B:=1000000000000) fun x hx=>hb x (List.mem_of_mem_take hx)
 have h2:(l.take i).length=i:=by simp;omega
 rw [h2] at h1
 have h3:i<l.length→-1000000000000≤l.getD i 0∧l.getD i 0≤1000000000000:=fun h=>by rw [zAE h];exact hb _ (List.getElem_mem _)
 refine zAb (zAa (zAe 1 (zAc (zAb (zCC ((↑i:Int)<(↑l.length:Int)) (fun k0=>(zAn (zAb (zAm 1 (zAb (zAa (S_a [(2,.v (I (l.getD i 0)))] (ap (zBd (0) (by omega):(List.map I l)[i]? = some (I (l.getD i 0))) an) (zAe 2 (zAc (zAa (zAe 2 (S_a [(1,.v (I (a+l.getD i 0)))] (ap ((zAH rfl (by omega)):I (IntKind.i64.wrap (a+l.getD i 0))=I (a+l.getD i 0)) an) (zAe 1 (zAc (zAa (S_a [(1,.v (I (↑(i+1):Int)))] (ap ((zAH (by omega) (by omega)):I (IntKind.i64.wrap ((↑i:Int)+1))=I (↑(i+1):Int)) an) (zAe 1 (zAc ?_)))))))))))))))))) (fun k0=>(zBA 0 (zAb (zAa (zAe 2 (zAc (zAD (E_a [] an (I a) ([]) ?_ rfl)))))))))))))
 ·exact ⟨(i+1,a+l.getD i 0),⟨by omega,by rw [ha,zNR (by omega)]⟩,by simp only;omega,by kernel_rfl,by kernel_rfl⟩
 ·rw [ha,List.take_of_length_le (by omega)]
end
end Go.Eng
