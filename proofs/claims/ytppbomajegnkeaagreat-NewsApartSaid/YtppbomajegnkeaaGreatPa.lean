/- No cry at a stand that is offered mends two of the gaps that are apart, so that there are never more of them than further cries are needed; each other gap is mended by a cry that mends one of them; a gap is stuck just if none of these stands is jM near enough to its jN; and with all stands none is; for every list of numbers, evening and stands. -/
import Derived.Calls
import Derived.Below
import Derived.CallsIn
import Derived.Laws.StructEq
import Derived.Laws.Cover3
import Derived.Laws.Slices
import Derived.Laws.MakeOwn
import Derived.Laws.CopyRow
set_option linter.unusedVariables false
set_option linter.unusedSimpArgs false
set_option linter.unusedSectionVars false
namespace Go
abbrev LP:=List (Int×Int)
abbrev LN:=List Nat
abbrev LI:=List Int
abbrev ON:=Option Nat
abbrev d0{α:Type}[Inhabited α]:α:=default
abbrev ba:=@Option.some.injEq
abbrev bb:=@Bool.and_eq_true
abbrev bc:=@Option.bind_some
abbrev bd:=@Nat.eq_of_beq_eq_true
abbrev be:=@List.length_map
abbrev bf:=@Nat.le_refl
abbrev bg:=@List.getElem?_eq_some_iff
abbrev bh:=@Result.andThen_ok
abbrev bi:=@List.all_eq_true
abbrev bj:=@List.mem_append
abbrev bk:=@List.mem_singleton
abbrev bl:=@List.getElem?_eq_getElem
abbrev bm:=@Option.map_eq_some_iff
abbrev bn:=@List.mem_append_right
abbrev bo:=@Sem.run_bind
abbrev bp:=@Bool.false_eq_true
abbrev bq:=@List.eq_nil_of_length_eq_zero
abbrev br:=@Nat.le_of_ble_eq_true
abbrev bt:=@List.mem_append_left
abbrev bu:=@List.length_append
abbrev bv:=@Option.map_some
abbrev bw:=@List.take_of_length_le
abbrev bx:=@List.mem_cons
abbrev bz:=@Prod.mk.injEq
abbrev bA:=@Sem.run_pure
abbrev bB:=@Nat.le_trans
abbrev bC:=@List.length_filter_le
abbrev bD:=@List.length_cons
abbrev bE:=@Bool.not_eq_false'
abbrev bF:=@List.mem_range
abbrev bG:=@Bool.not_eq_true'
abbrev bH:=@List.mem_of_getElem?
abbrev bI:=@Nat.lt_of_lt_of_le
abbrev bJ:=@List.getElem?_cons_zero
abbrev bK:=@List.nodup_append
abbrev bL:=@List.map_cons
abbrev bM:=@List.foldl_cons
abbrev bN:=@Nat.zero_le
abbrev bO:=@List.mem_filter
abbrev bP:=@Nat.lt_succ_iff_lt_or_eq
abbrev bQ:=@Nat.add_zero
abbrev bR:=@Int.toNat_natCast
abbrev bS:=@Array.getElem?_toList
abbrev bT:=@List.length_singleton
abbrev bU:=@List.getD_eq_getElem?_getD
abbrev bV:=@List.filter_cons_of_neg
abbrev bW:=@Bool.or_eq_true
abbrev bX:=@List.any_eq_true
abbrev bY:=@Array.getElem?_eq_some_iff
abbrev bZ:=@List.mem_cons_of_mem
abbrev b4:=@List.mem_map
abbrev b5:=@Classical.byContradiction
abbrev b6:=@List.drop_eq_getElem_cons
abbrev b7:=@List.length_nil
abbrev b8:=@List.nodup_nil
abbrev b9:=@List.range_succ
abbrev ce:=@List.eq_of_mem_replicate
abbrev cf:=@List.mem_cons_self
abbrev cg:=@Nat.add_assoc
abbrev ci:=@Bool.false_or
abbrev cj:=@List.length_take
abbrev ck:=@List.getElem?_drop
abbrev cm:=@List.set_eq_take_append_cons_drop
abbrev cn:=@List.getElem?_set_self
abbrev co:=@Bool.eq_iff_iff
abbrev cq:=@List.filter_cons_of_pos
abbrev cu:=@List.getElem?_take
abbrev cv:=@List.foldl_nil
abbrev cw:=@List.take_append_drop
abbrev cx:=@List.getElem?_append_left
abbrev cy:=@Bool.true_and
abbrev cz:=@List.mem_of_mem_drop
abbrev cA:=@Bool.not_eq_true
abbrev cB:=@List.nodup_cons
abbrev cC:=@List.getElem?_of_mem
abbrev cD:=@Nat.not_lt_zero
abbrev cE:=@List.foldl_append
abbrev cF:=@List.all_cons
abbrev cG:=@List.mem_flatMap
abbrev cH:=@List.getElem?_map
abbrev cI:=@Bool.or_eq_false_iff
abbrev cJ:=@List.mem_of_mem_take
abbrev cK:=@List.set_cons_zero
abbrev cL:=@List.pairwise_cons
abbrev cM:=@List.getElem_mem
abbrev cN:=@Nat.beq_refl
abbrev cO:=@List.append_assoc
abbrev cP:=@List.take_append_of_le_length
abbrev cQ:=@Array.getElem?_eq_getElem
abbrev cR:=@Decidable.of_not_not
abbrev cS:=@Nat.add_mul
abbrev cT:=@List.map_append
abbrev cU:=@Nat.ble_eq_true_of_le
abbrev cV:=@List.getElem?_eq_none
abbrev cW:=@List.ext_getElem?
abbrev cX:=@List.not_any_eq_all_not
abbrev cY:=@Nat.mul_le_mul_right
abbrev cZ:=@Nat.succ_mul
abbrev da:=@List.findIdx?_eq_some_iff_getElem
abbrev db:=@Array.getD_eq_getD_getElem?
abbrev dc:=@List.getElem?_set_ne
abbrev dd:=@Option.getD_some
abbrev de:=@List.getElem?_append_right
abbrev dg:=@MapKept.run_getObj_map
abbrev dh:=@List.drop_eq_nil_of_le
abbrev di:=@Int.le_refl
abbrev dj:=@Value.slice.injEq
abbrev dk:=@List.filter_congr
abbrev dl:=@List.filter_eq_self
abbrev dm:=@List.findIdx?_eq_none_iff
abbrev dn:=@List.nil_append
abbrev dp:=@List.contains_iff_mem
abbrev dq:=@Nat.zero_add
abbrev dt:=@List.take_length
abbrev du:=@List.not_mem_nil
abbrev dv:=@List.filter_append
abbrev dw:=@Nat.sub_zero
abbrev dx:=@List.append_eq_nil_iff
abbrev dy:=@Bool.not_true
abbrev dz:=@List.length_drop
abbrev dA:=@List.drop_drop
abbrev dB:=@Bool.false_and
abbrev dC:=@List.length_replicate
abbrev dD:=@List.mem_or_eq_of_mem_set
abbrev dE:=@Option.isNone_iff_eq_none
abbrev dF:=@List.length_set
abbrev dG:=@List.any_eq_false
abbrev dH:=@Nat.add_sub_cancel_left
abbrev dI:=@List.filter_sublist
abbrev dJ:=@Option.bind_none
abbrev dK:=@Ne.symm
abbrev dM:=@Array.getElem?_setIfInBounds
abbrev dN:=@MapKept.run_setObj_map
abbrev dO:=@Option.isSome_none
abbrev dP:=@Nat.add_sub_cancel
abbrev dQ:=@List.filter_filter
abbrev dR:=@List.append_nil
abbrev dS:=@Array.getElem?_modify
abbrev dT:=@Bool.and_self
abbrev dU:=@List.flatMap_cons
abbrev dV:=@List.getElem?_set
abbrev dW:=@List.pairwise_append
abbrev dX:=@List.drop_zero
abbrev dY:=@Option.isSome_iff_exists
abbrev dZ:=@List.map_nil
abbrev d4:=@Nat.le_of_not_lt
abbrev d5:=@List.isEmpty_iff
abbrev d6:=@List.map_congr_left
abbrev d7:=@List.take_succ_cons
abbrev d8:=@Array.getElem?_push
abbrev d9:=@Int.toNat_of_nonneg
abbrev fa:=@List.getElem?_cons_succ
abbrev fb:=@Bool.and_true
abbrev fc:=@List.cons.injEq
abbrev fd:=@List.findIdx?_cons
abbrev fe:=@List.eq_nil_iff_forall_not_mem
abbrev ff:=@List.take_add_one
abbrev fg:=@Nat.zero_mul
abbrev fh:=@Bool.and_eq_false_iff
abbrev fi:=@Bool.and_false
abbrev fj:=@Classical.choose_spec
abbrev fk:=@List.range'_succ
abbrev fm:=@List.map_toArray
abbrev fo:=@List.findIdx_getElem
abbrev fp:=@List.map_take
abbrev fq:=@List.map_drop
abbrev fu:=@List.isPrefixOf_iff_prefix
abbrev fv:=@List.length_eraseIdx_of_lt
abbrev fw:=@Std.Legacy.Range.forIn_eq_forIn_range'
abbrev fx:=@Array.length_toList
abbrev fy:=@List.flatMap_append
abbrev fA:=@List.getElem?_zip_eq_some
abbrev fB:=@List.all_append
abbrev fC:=@List.take_take
abbrev fD:=@List.drop_of_length_le
abbrev fE:=@Array.getElem?_eq_none
abbrev fF:=@Nat.mul_one
abbrev fG:=@List.getElem_replicate
abbrev fH:=@List.length_pos_of_mem
abbrev fI:=@List.pairwise_lt_range
abbrev fJ:=@Nat.lt_irrefl
abbrev fK:=@List.any_cons
abbrev fL:=@List.drop_append
abbrev fM:=@List.zipIdx_cons
abbrev fN:=@List.prefix_refl
abbrev fO:=@List.countP_cons
abbrev fP:=@List.getElem_map
abbrev fQ:=@Iff.rfl
abbrev fR:=@List.mem_of_mem_erase
abbrev fS:=@Array.ext'
abbrev fT:=@Option.map_none
abbrev fU:=@Nat.ble_eq
abbrev fV:=@Int.max_eq_left
abbrev fW:=@Int.le_trans
abbrev fX:=@List.replicate_succ
abbrev fY:=@List.getElem_of_mem
abbrev fZ:=@Prod.ext
abbrev f0:=@List.drop_left
abbrev f5:=@Bool.not_false
abbrev f7:=@Nat.mul_le_mul
abbrev f8:=@List.mapM_cons
abbrev f9:=@Eq.trans
abbrev ia:=@Option.isSome_some
abbrev ib:=@Array.ext_getElem?
abbrev ie:=@List.getElem_range
abbrev ig:=@List.length_range
abbrev ii:=@List.all_eq_false
abbrev ij:=@List.getElem_take
abbrev il:=@List.pairwise_map
abbrev im:=@Array.mapM_eq_mapM_toList
abbrev io:=@List.rel_of_pairwise_cons
abbrev ip:=@List.mem_take_iff_getElem
abbrev iq:=@List.pairwise_iff_getElem
abbrev ir:=@List.map_map
abbrev iu:=@List.take_append
abbrev iv:=@List.filter_cons
abbrev iw:=@Array.size_setIfInBounds
abbrev iy:=@Array.toList_map
abbrev iz:=@List.ext_getElem
abbrev iA:=@Array.getElem?_replicate
abbrev iB:=@Nat.min_self
abbrev iC:=@Int.max_eq_right
abbrev iD:=@List.length_erase_of_mem
abbrev iE:=@List.append_cancel_left
abbrev iF:=@Option.bind_eq_some_iff
abbrev iG:=@List.length_eq_zero_iff
abbrev iH:=@List.forIn_cons
abbrev iI:=@Nat.min_eq_left
abbrev iJ:=@List.filter_nil
abbrev iK:=@Sem.run_ite
abbrev iL:=@Nat.ne_of_beq_eq_false
abbrev iM:=@List.length_eq_one_iff
abbrev iN:=@List.filter_eq_nil_iff
abbrev iO:=@Bool.or_false
abbrev iP:=@Bool.and_comm
abbrev iQ:=@Nat.add_comm
abbrev iR:=@Bool.true_or
abbrev iS:=@List.all_nil
abbrev iT:=@Nat.sub_self
end Go
open Nat (beq ble blt)
open List (map replicate take drop range length filter)
namespace Go.Eng
open Go
theorem zzLn{α:Type}:(∀ (l:List α) (i:Nat) (a:α),(l.set i a).length=l.length) /\ (∀ a b:List α,(a++b).length=a.length+b.length) /\ (∀ (a:α) (l:List α),(a::l).length=l.length+1) /\ ([]:List α).length=0:=⟨fun _ _ _=>dF,fun _ _=>bu,fun _ _=>rfl,rfl⟩
inductive PV where
 |bad|und
 |int (k:IntKind) (n:Int)|bool (b:Bool)
 |nilp|nilf|nilm|nn|nils (sz:Nat)
 |agg (cs:List PV)|tup (vs:List PV)
 |sl (xs:List PV)|own (sz:Nat) (xs:List PV)
 |ref (p:PV)|box (p:PV)
 |map (es:List (PV×PV))|omap (es:List (PV×PV))
 |func (f:FuncId) (first caps:List PV)
 |addr (r:Nat) (pre:List (Nat×Nat)) (i c:Nat) (sh:ON)
 |bor (r:Nat) (pre:List (Nat×Nat)) (sz lo n:Nat)
 |bsl (r:Nat) (pre:List (Nat×Nat)) (i c:Nat) (sz:Nat) (ag:Bool) (n:Nat)
 |bmap (r:Nat) (pre:List (Nat×Nat))
 |lock (p:PV)
 |yld (h:Nat)|log (xs:List PV) (k:Int)
 deriving Inhabited
abbrev zA4:=List (Nat×Nat)
def zAk:Nat:=50000000
def zAF:Nat:=60000000
def zAa:Nat:=1000000000
def depth:Nat:=6
abbrev Env:=List (Nat×PV)
def Env.get:Env->Nat->PV
 |[],_=>.bad|(k,v)::e,s=>bif beq k s then v else Env.get e s
def Env.set:Env->Nat->PV->Env
 |[],s,p=>[(s,p)]|(k,v)::e,s,p=>bif beq k s then(s,p)::e else bif ble s k then(s,p)::(k,v)::e else(k,v)::Env.set e s p
def PV.cells:PV->List PV
 |.agg cs=>cs|p=>[p]
def zOY:ON->List PV->PV
 |some _,cs=>.agg cs|none,c::_=>c|none,[]=>.bad
def PV.isAgg:PV->Bool
 |.agg _=>true|_=>false
def PV.oneCell:PV->Bool
 |.int ..|.bool _|.nilp|.nilf|.nilm|.nn|.nils _|.sl _|.own ..|.ref _|.box _|.map _|.omap _|.func ..|.addr ..|.bor ..|.bsl ..|.bmap .. => true|_=>false
def PV.whole(p:PV):Bool:=p.isAgg||p.oneCell
def PV.isTup:PV->Bool
 |.tup _=>true|_=>false
def PV.heavy0:PV->Bool
 |.own ..|.box ..|.omap .. => true|_=>false
mutual
def PV.heavy:PV->Bool
 |.own .. => true|.box _=>true|.omap _=>true|.lock _=>true|.agg cs=>zDf cs|.tup vs=>zDf vs|_=>false
def zDf:List PV->Bool
 |[]=>false|p::ps=>p.heavy||zDf ps
end
def zHM(r:Nat)(pre:zA4):PV->PV
 |.agg _|.tup _|.lock _=>.bad|.own sz xs=>.bor r pre sz 0 xs.length|.box p=>.addr r pre 0 0 (match p with|.agg cs=>some cs.length|_=>none)
 |.omap _=>.bmap r pre|p=>p
def zBI(r:Nat)(pre:zA4)(i:Nat):Nat->List PV->List PV
 |_,[]=>[]|c,p::ps=>zHM r (pre++[(i,c)]) p::zBI r pre i (c+1) ps
def zUO(r:Nat):PV->PV
 |.agg cs=>.agg (zBI r [] 0 0 cs)|.tup _=>.bad|p=>zHM r [] p
def view(r:Nat):PV->PV
 |.lock p=>zUO r p|p=>zUO r p
def PV.unlock:PV->PV
 |.lock p=>p|p=>p
def zZO:PV->Option (List PV)
 |.own _ xs=>some xs|.sl xs=>some xs|.box p=>some [p]|.ref p=>some [p]|.agg cs=>some [.agg cs]|_=>none
def zBi:PV->Option (List PV)
 |.own _ xs=>some xs|.box p=>some [p]|_=>none
def zAJ:PV->List PV->Option PV
 |.own sz _,xs=>some (.own sz xs)|.box _,[p]=>some (.box p)|.agg _,[.agg cs]=>some (.agg cs)|_,_=>none
def zA9:PV->Option (List PV)
 |.own _ xs=>some xs|.box p=>some [p]|.agg cs=>some [.agg cs]|_=>none
def zAG:PV->Nat->List PV->PV
 |.agg cs,c,qs=>.agg (cs.take c++qs++cs.drop (c+qs.length))|_,_,q::_=>q|p,_,[]=>p
def zAH:PV->zA4->Option PV
 |p,[]=>some p
 | p,(i,c)::rest =>
  match zA9 p with
  | some xs=>match xs[i]? with
   |some x=>match x.cells[c]? with
    |some q=>zAH q rest|none=>none
   |none=>none
  |none=>none
def zAz (f:PV->Option PV):PV->zA4->Option PV
 |p,[]=>f p
 | p,(i,c)::rest =>
  match zA9 p with
  | some xs=>match xs[i]? with
   | some x=>match x.cells[c]? with
    |some q=>match zAz f q rest with
     |some q'=>zAJ p (xs.set i (zAG x c [q']))|none=>none
    |none=>none
   |none=>none
  |none=>none
mutual
def zA0:PV->PV
 |.own _ xs=>.sl (zAt xs)|.box q=>.ref (zA0 q)|.omap es=>.map es|.agg cs=>.agg (zAt cs)|.tup _=>.bad|.lock _=>.bad|p=>p
def zAt:List PV->List PV
 |[]=>[]|p::ps=>zA0 p::zAt ps
end
mutual
def PV.free:PV->Bool
 |.int ..|.bool ..|.nilp|.nilf|.nilm|.nn|.nils _|.und=>true|.sl []=>true|.agg cs=>zD1 cs|.tup vs=>zD1 vs|.own _ xs=>zD1 xs|.box q=>q.free|.omap es=>zPm es|_=>false
def zD1:List PV->Bool
 |[]=>true|p::ps=>p.free&&zD1 ps
def zPm:List (PV×PV)->Bool
 |[]=>true|(k,v)::es=>k.free&&v.free&&zPm es
end
inductive PM where
 |ok|fail
 |view (s:Nat) (k:PV->PM)
 |get (s:Nat) (k:PV->PM)
 |set (s:Nat) (p:PV) (k:PM)
 |cells (r:Nat) (pre:zA4) (i c n:Nat) (k:Bool->List PV->PM)
 |deep (r:Nat) (pre:zA4) (k:PV->PM)
 |wcells (r:Nat) (pre:zA4) (i c:Nat) (qs:List PV) (k:PM)
 |wnode (r:Nat) (pre:zA4) (q:PV) (k:PM)
 |kill (r:Nat) (pre:zA4) (k:PM)
 |frz (r:Nat) (pre:zA4) (k:PM)
 |killEx (r:Nat) (keep:List zA4) (k:PM)
 |forget (h:Nat) (k:PM)
 |call (f:FuncId) (args hid:List PV) (k:PV->List PV->PM)
abbrev zAK:=FuncId->List PV->List PV->Option (PV×List PV)
mutual
def PV.mapW(f:PV->PV):PV->PV
 |.addr r pre i c sh=>f (.addr r pre i c sh)|.bor r pre z lo n=>f (.bor r pre z lo n)|.bsl r pre i c sz ag n=>f (.bsl r pre i c sz ag n)|.bmap r pre=>f (.bmap r pre)|.log xs k=>f (.log xs k)|.agg cs=>.agg (zCX f cs)|.tup cs=>.tup (zCX f cs)|.func g a b=>.func g (zCX f a) (zCX f b)|.ref q=>.ref (q.mapW f)|.box q=>.box (q.mapW f)|.lock q=>.lock (q.mapW f)|p=>p
def zCX(f:PV->PV):List PV->List PV
 |[]=>[]|p::ps=>p.mapW f::zCX f ps
end
mutual
def PV.ways:PV->List (Nat×zA4)
 |.addr r pre .. => [(r,pre)]|.bor r pre .. => [(r,pre)]|.bsl r pre .. => [(r,pre)]|.bmap r pre=>[(r,pre)]|.agg cs=>zBx cs|.tup cs=>zBx cs|.func _ a b=>zBx a++zBx b|.ref q=>q.ways|.box q=>q.ways|.lock q=>q.ways|_=>[]
def zBx:List PV->List (Nat×zA4)
 |[]=>[]|p::ps=>p.ways++zBx ps
end
def PV.plain0:PV->Bool
 |.int ..|.bool ..|.nilp|.nilf|.nilm|.nn|.nils _|.sl ..|.map .. => true|.ref q=>q.ways.isEmpty|_=>false
def PV.plain:PV->Bool
 |.agg cs=>cs.all PV.plain0|p=>p.plain0
def lose(r:Nat)(pre:zA4):PV->PV
 |.addr r' q i c sh=>bif beq r' r&&pre.isPrefixOf q then .bad else .addr r' q i c sh|.bor r' q z lo n=>bif beq r' r&&pre.isPrefixOf q then .bad else .bor r' q z lo n|.bsl r' q i c sz ag n=>bif beq r' r&&pre.isPrefixOf q then .bad else .bsl r' q i c sz ag n|.bmap r' q=>bif beq r' r&&pre.isPrefixOf q then .bad else .bmap r' q|p=>p
def zBV(r:Nat)(keep:List zA4):PV->PV
 |.addr r' q i c sh=>bif beq r' r && !(q.isEmpty||keep.any q.isPrefixOf) then .bad else .addr r' q i c sh|.bor r' q z lo n=>bif beq r' r && !(q.isEmpty||keep.any q.isPrefixOf) then .bad else .bor r' q z lo n|.bsl r' q i c sz ag n=>bif beq r' r && !(q.isEmpty||keep.any q.isPrefixOf) then .bad else .bsl r' q i c sz ag n|.bmap r' q=>bif beq r' r && !(q.isEmpty||keep.any q.isPrefixOf) then .bad else .bmap r' q|p=>p
def Env.killEx(e:Env)(r:Nat)(keep:List zA4):Env:=e.map fun x=>(x.1,x.2.mapW (zBV r keep))
def zAU(r:Nat)(pre:zA4)(r':Nat)(q:zA4):Bool:=beq r' r&&pre.isPrefixOf q
def zDI (i c:Nat) (sh:ON) (q:PV):PV :=
 match zBi q with
 | some xs=>match xs[i]? with
  | some x=>match sh with
   |some m=>bif ble (c+m) x.cells.length&&x.isAgg then .ref (.agg (zAt ((x.cells.drop c).take m))) else .bad|none=>match x.cells[c]? with
    |some q=>bif q.oneCell then .ref (zA0 q) else .bad|none=>.bad
  |none=>.bad
 |none=>.bad
def zCH(lo n:Nat):PV->PV
 |.own _ xs=>bif ble (lo+n) xs.length then .sl (zAt ((xs.drop lo).take n)) else .bad|_=>.bad
def zCw(ag:Bool)(sz:Nat):Nat->List PV->List PV
 |0,_=>[]|m+1,cs=>(bif ag then .agg (cs.take sz) else cs.headD .bad)::zCw ag sz m (cs.drop sz)
def zCt(ag:Bool)(sz m:Nat)(cs:List PV):Bool:=beq cs.length (m*sz)&&(ag||beq sz 1&&cs.all (fun q=>q.oneCell))
def zCD(i c sz:Nat)(ag:Bool)(m:Nat)(q:PV):PV :=
 match zBi q with
 |some xs=>match xs[i]? with
  |some x=>bif zCt ag sz m ((x.cells.drop c).take (m*sz))&&(zBx x.cells).isEmpty then .sl (zCw ag sz m (zAt ((x.cells.drop c).take (m*sz)))) else .bad|none=>.bad
 |none=>.bad
def zES:PV->PV
 |.omap es=>.map es|_=>.bad
def zGH(q:Option PV)(f:PV->PV):PV :=
 match q with
 |some x=>f x|none=>.bad
def inl(r:Nat)(pre:zA4)(q0:PV):PV->PV
 |.addr r' q i c sh=>bif zAU r pre r' q then zGH (zAH q0 (q.drop pre.length)) (zDI i c sh) else .addr r' q i c sh|.bor r' q z lo n=>bif zAU r pre r' q then zGH (zAH q0 (q.drop pre.length)) (zCH lo n) else .bor r' q z lo n|.bsl r' q i c sz ag n=>bif zAU r pre r' q then zGH (zAH q0 (q.drop pre.length)) (zCD i c sz ag n) else .bsl r' q i c sz ag n|.bmap r' q=>bif zAU r pre r' q then zGH (zAH q0 (q.drop pre.length)) zES else .bmap r' q|p=>p
def PV.isLock:PV->Bool
 |.lock _=>true|_=>false
def Env.frz(e:Env)(r:Nat)(pre:zA4):Option Env :=
 bif (e.get r).isLock then none else match zAH (e.get r) pre with
 |some q=>match zAz (fun _=>some (zA0 q)) (e.get r) pre with
  |some root=>some ((e.set r root).map fun x=>(x.1,x.2.mapW (inl r pre q)))
  |none=>none
 |none=>none
def Env.kill(e:Env)(r:Nat)(pre:zA4):Env:=e.map fun x=>(x.1,x.2.mapW (lose r pre))
def PV.num:PV->Bool
 |.int .. => true|.bool _=>true|_=>false
def PV.isWay:PV->Bool
 |.addr ..|.bor ..|.bsl ..|.bmap ..|.log .. => true|_=>false
def Env.forget(e:Env)(h:Nat):Env:=e.map fun x=>bif beq x.1 h||x.2.num then x else(x.1,.bad)
def zAq(r:Nat)(root:PV)(pre:zA4)(i c n:Nat):Option (Bool×List PV) :=
 match zAH root.unlock pre with
 | some q=>match zBi q with
  |some xs=>match xs[i]? with
   |some x=>bif ble (c+n) x.cells.length then some (x.isAgg,zBI r pre i c ((x.cells.drop c).take n)) else none|none=>none
  |none=>none
 |none=>none
def zDH:PV->zA4->Bool
 |.own ..,_=>true|_,[]=>false
 | p,(i,c)::rest =>
  match zA9 p with
  | some xs=>match xs[i]? with
   |some x=>match x.cells[c]? with
    |some q=>zDH q rest|none=>false
   |none=>false
  |none=>false
def zBv(root:PV)(pre:zA4)(i c:Nat)(qs:List PV):Option PV :=
 bif zDH root pre && !(zBx qs).isEmpty then none else zAz (fun q=>match zBi q with
  |some xs=>match xs[i]? with
   |some x=>bif ble (c+qs.length) x.cells.length then zAJ q (xs.set i (zAG x c qs)) else none|none=>none
  |none=>none) root pre
def PM.run(o:zAK):PM->Env->Option Env
 |.ok,e=>some e|.fail,_=>none|.view s k,e=>(k (Eng.view s (e.get s))).run o e|.get s k,e=>match e.get s with
  |.lock _=>none|p=>(k p).run o e
 |.set s p k,e=>k.run o (e.set s p)|.cells r pre i c n k,e=>match zAq r (e.get r) pre i c n with
  |some (a,qs)=>(k a qs).run o e|none=>none
 |.deep r pre k,e=>match zAH (e.get r).unlock pre with
  |some q=>(k q).run o e|none=>none
 |.wcells r pre i c qs k,e=>match zBv (e.get r) pre i c qs with
  |some root=>k.run o (e.set r root)|none=>none
 |.wnode r pre q k,e=>bif (e.get r).isLock then none else match zAz (fun _=>some q) (e.get r) pre with
  |some root=>k.run o (e.set r root)|none=>none
 |.kill r pre k,e=>k.run o (e.kill r pre)|.frz r pre k,e=>match e.frz r pre with
  |some e'=>k.run o e'|none=>none
 |.killEx r keep k,e=>k.run o (e.killEx r keep)|.forget h k,e=>k.run o (e.forget h)|.call f args hid k,e=>match o f args hid with
  |some (v,hX)=>(k v hX).run o e|none=>none
structure Tok where
 look:LN:=[]
 rd:LN:=[]
 cel:List (Nat×zA4):=[]
 wr:LN:=[]
 inn:List (Nat×zA4):=[]
 ways:List (Nat×zA4):=[]
 kills:LN:=[]
 killsIn:LN:=[]
 all:Bool:=false
 deriving Inhabited
def Tok.join(a b:Tok):Tok:=⟨a.look++b.look,a.rd++b.rd,a.cel++b.cel,a.wr++b.wr,a.inn++b.inn,a.ways++b.ways,a.kills++b.kills,a.killsIn++b.killsIn,a.all||b.all⟩
def zCG:PV->PV->Bool
 |.box p,.box q=>p.isAgg==q.isAgg&&beq p.cells.length q.cells.length|.own sz xs,.own sz' ys=>beq sz sz'&&beq xs.length ys.length|.omap _,.omap _=>true|_,_=>false
def zAI:PV->PV->zA4->Bool
 |.agg cs,.agg ds,(_,c)::_=>match cs[c]?,ds[c]? with
  |some p,some q=>zCG p q|_,_=>false
 |p,q,_=>zCG p q
def zSz(a b:LN):Bool:=a.any fun x=>b.any (beq x)
def zNE(l:List (Nat×zA4)):LN:=l.map (·.1)
def zPg(a b:Tok):Bool :=
 a.all||zSz a.wr b.look||zSz a.wr b.rd||zSz a.wr (zNE b.cel)||zSz a.wr b.wr||zSz a.wr (zNE b.inn)||zSz (zNE a.inn) b.rd||zSz (zNE a.inn) (zNE b.inn) ||
  a.inn.any (fun w=>b.cel.any fun c=>beq w.1 c.1&&w.2.isPrefixOf c.2)||zSz a.kills (zNE b.ways) ||
  zSz a.killsIn (zNE (b.ways.filter fun w=>!w.2.isEmpty))
def zQG(a b:Tok):Bool:=zPg a b||zPg b a
def zFF(s:Nat)(p q:PV):Tok:={wr:=[s],ways:=p.ways++q.ways}
def zAV(D:LN)(g g':Nat->PV)(ks ki:LN):Tok:={wr:=D,ways:=D.flatMap fun s=>(g s).ways++(g' s).ways,kills:=ks,killsIn:=ki}
def zDl(e:Env)(h:Nat×zA4->Bool):LN:=(e.filter fun x=>x.2.ways.any h).map (·.1)
def zBj(r:Nat)(w:zA4)(b:Bool)(p q:PV):Tok:={inn:=bif b then[(r,w)] else[],wr:=bif b then[] else[r],ways:=p.ways++q.ways}
def PM.runT(o:zAK):PM->Env->Option (Env×Tok)
 |.ok,e=>some (e,{})|.fail,_=>none|.view s k,e=>((k (Eng.view s (e.get s))).runT o e).map fun x=>(x.1,Tok.join {look:=[s]} x.2)
 |.get s k,e=>match e.get s with
  |.lock _=>none|p=>((k p).runT o e).map fun x=>(x.1,Tok.join {rd:=[s]} x.2)
 |.set s p k,e=>(k.runT o (e.set s p)).map fun x=>(x.1,Tok.join (zFF s (e.get s) p) x.2)
 |.cells r pre i c n k,e=>match zAq r (e.get r) pre i c n with
  |some (a,qs)=>((k a qs).runT o e).map fun x=>(x.1,Tok.join {cel:=[(r,pre)]} x.2)
  |none=>none
 |.deep r pre k,e=>match zAH (e.get r).unlock pre with
  |some q=>((k q).runT o e).map fun x=>(x.1,Tok.join {rd:=[r]} x.2)
  |none=>none
 |.wcells r pre i c qs k,e=>match zBv (e.get r) pre i c qs with
  |some root=>(k.runT o (e.set r root)).map fun x=>(x.1,Tok.join (zBj r [] (zAI (e.get r) root pre) (e.get r) root) x.2)
  |none=>none
 |.wnode r pre q k,e=>bif (e.get r).isLock then none else match zAz (fun _=>some q) (e.get r) pre with
  |some root=>(k.runT o (e.set r root)).map fun x=>(x.1,Tok.join (zBj r pre.dropLast (zAI (e.get r) root pre&&(pre.isEmpty || !q.isAgg)) (e.get r) root) x.2)
  |none=>none
 |.kill r pre k,e=>(k.runT o (e.kill r pre)).map fun x=>(x.1,Tok.join (zAV (zDl e fun z=>zAU r pre z.1 z.2) e.get (e.kill r pre).get [r] []) x.2)
 |.frz r pre k,e=>match e.frz r pre with
  |some e'=>(k.runT o e').map fun x=>(x.1,Tok.join (zAV (r::zDl e fun z=>zAU r pre z.1 z.2) e.get e'.get [r] []) x.2)
  |none=>none
 |.killEx r keep k,e=>(k.runT o (e.killEx r keep)).map fun x=>(x.1,Tok.join (zAV (zDl e fun z=>beq z.1 r && !z.2.isEmpty) e.get (e.killEx r keep).get [] [r]) x.2)
 |.forget h k,e=>(k.runT o (e.forget h)).map fun x=>(x.1,{all:=true})
 |.call f args hid k,e=>match o f args hid with
  |some (v,hX)=>(k v hX).runT o e|none=>none
variable (P:Program)
def szT(t:TypeId):ON:=(P.info? t).map (·.size)
def zIw(t:TypeId):ON:=(P.info? t).map (·.bytes)
def shT(t:TypeId):Option ON :=
 match P.underlying t,P.info? t with
 |some (.struct _),some i=>some (some i.size)|some (.array _ _),some i=>some (some i.size)|some _,some i=>if i.size=1 then some none else none
 |_,_=>none
def zB1(t:TypeId):Option TypeId :=
 match P.underlying t with
 |some (.slice e)=>some e|_=>none
def zeroCells:Nat->TypeId->Option (List PV)
 |0,_=>none|n+1,t=>match P.underlying t with
  |some (.int k)=>some [.int k 0]|some .bool=>some [.bool false]|some (.pointer _)=>some [.nilp]|some (.func ..)=>some [.nilf]|some (.map ..)=>some [.nilm]|some (.slice e)=>(szT P e).map fun s=>[.own s []]
  |some (.array m e)=>(zeroCells n e).map fun z=>(replicate m z).flatten
  |some (.struct fs)=>(fs.toList.mapM fun f=>zeroCells n f.type).map List.flatten
  |_=>none
def zKJ:PV->Value->Bool
 |.int k n,.int k' m=>decide (k=k')&&decide (n=m)|.bool a,.bool b=>a==b|.nilp,.pointer none=>true|.nilf,.nilFunc=>true|.nilm,.map none=>true|.own _ [],.slice none 0 0=>true|_,_=>false
def zVd:List PV->List Value->Bool
 |[],[]=>true|p::ps,v::vs=>zKJ p v&&zVd ps vs|_,_=>false
def zNr:PV->Value->Bool
 |.agg cs,.agg vs=>zVd cs vs.toList|.agg _,_=>false|p,v=>zKJ p v
def zCO(t:TypeId):Option PV :=
 match zeroCells P 20 t,shT P t,(P.info? t).bind (·.zero) with
 |some cs,some sh,some v=>bif zNr (zOY sh cs) v then some (zOY sh cs) else none|_,_,_=>none
def zEM:Value->PV
 |.int k n=>.int k n|.bool b=>.bool b|.slice none 0 0=>.nils 0|.pointer none=>.nilp|.nilFunc=>.nilf|.map none=>.nilm|.agg cs=>.agg (cs.toList.map fun|.int k n=>.int k n|.bool b=>.bool b|_=>.bad)
 |_=>.bad
def opd(x:Operand)(k:PV->PM):PM :=
 match x with
 |.tmp t=>.view t k|.const v=>k (zEM v)|.func f=>k (.func f [] [])|.global _=>.fail
def zON(x:Operand)(k:PV->PM):PM :=
 match x with
 |.tmp t=>.get t fun p=>if p.heavy then .set t .bad (k p) else k p
 |.const v=>k (zEM v)|.func f=>k (.func f [] [])|.global _=>.fail
def zVQ:List Operand->(List PV->PM)->PM
 |[],k=>k []|x::xs,k=>opd x fun p=>zVQ xs fun ps=>k (p::ps)
def zVw:List Operand->(List PV->PM)->PM
 |[],k=>k []|x::xs,k=>zON x fun p=>zVw xs fun ps=>k (p::ps)
def lay(d:Nat)(p:PV)(k:PM):PM:=bif p.heavy then .kill d [] (.set d (p.mapW (lose d [])) k) else .set d p k
def put(d:ON)(p:PV):PM :=
 match d with
 |none=>.ok|some d=>bif p.isTup then .fail else lay d p .ok
def zBy(d i:Nat):Nat:=2000000+16*d+i
def zFy(d:Nat):Nat->List PV->PM->PM
 |n,[],k=>.set d (.tup (replicate n .bad)) k|i,p::ps,k=>lay (zBy d i) p (zFy d (i+1) ps k)
def zJg(d s:Nat):Bool:=ble (zBy d 0) s&&blt s (zBy d 16)
def zDv(d:ON)(v:PV):PM :=
 match d,v with
 |some d,.tup vs=>bif ble vs.length 16&&(zBx vs).all (fun w=>!zJg d w.1) then .set d .bad (zFy d 0 vs .ok) else .fail
 |d,v=>put d v
def zFP(s d:Nat):Nat->Nat->PM
 |n,0=>.set d (.tup (replicate n .bad)) .ok|i,n+1=>.get (zBy s i) fun p=>.set (zBy s i) .bad (lay (zBy d i) p (zFP s d (i+1) n))
def zZw:PV->PV->Option Bool
 |.int k a,.int k' b=>if k=k' then some (a==b) else none
 |.bool a,.bool b=>some (a==b)|.nilp,.nilp=>some true|_,_=>none
def zEn:List PV->List PV->Option Bool
 |[],[]=>some true|p::ps,q::qs=>match zZw p q,zEn ps qs with
  |some a,some b=>some (a&&b)|_,_=>none
 |_,_=>none
def zFf:PV->Bool
 |.sl (_::_)=>true|.nn=>true|.own _ (_::_)=>true|.bor _ _ _ _ (_+1)=>true|_=>false
def sub(p:PV)(off:Nat)(sh:ON):Option PV :=
 match p,sh with
 |.agg cs,some n=>if off+n<=cs.length then some (.agg ((cs.drop off).take n)) else none
 |.agg cs,none=>cs[off]?|_,_=>none
def zQO (eq:TypeId->PV->PV->Option Bool) (sh:TypeId->Option ON) (p q:PV):List Field->Option Bool
  |[]=>some true
  | f :: fs =>
    if f.name = "_" then zQO eq sh p q fs else
    match sh f.type with
    | some s=>match sub p f.offset s,sub q f.offset s with
      | some a,some b=>match eq f.type a b with
        |some true=>zQO eq sh p q fs|r=>r
      |_,_=>none
    |none=>none
def zUn(eq:PV->PV->Option Bool)(sh:ON)(sz:Nat)(p q:PV):Nat->Nat->Option Bool
 |_,0=>some true
 | i,n+1 =>
  match sub p (i*sz) sh,sub q (i*sz) sh with
  |some a,some b=>match eq a b with
   |some true=>zUn eq sh sz p q (i+1) n|r=>r
  |_,_=>none
def eqT:Nat->TypeId->PV->PV->Option Bool
 |0,_,_,_=>none
 | n + 1,t,p,q =>
  match P.underlying t,p,q with
  |some (.int _),.int k a,.int k' b=>if k=k' then some (a==b) else none
  |some .bool,.bool a,.bool b=>some (a==b)|some (.pointer _),.nilp,.nilp=>some true|some (.struct fs),.agg xs,.agg ys=>bif P.stoodInHeld t then none else zQO (eqT n) (shT P) (.agg xs) (.agg ys) fs.toList|some (.array len e),.agg xs,.agg ys=>match szT P e,shT P e with
   |some sz,some sh=>zUn (eqT n e) sh sz (.agg xs) (.agg ys) 0 len|_,_=>none
  |_,_,_=>none
def eqV(t:TypeId)(p q:PV):Option Bool :=
 match q with
 |.nils _=>match P.underlying t,p with
  |some (.slice _),.nils _=>some true|some (.slice _),p=>bif zFf p then some false else none|_,_=>none
 |.agg ys=>match p with
  |.agg xs=>bif P.eqGuardType P.depth t then none else eqT P 20 t (.agg xs) (.agg ys)|_=>none
 |q=>bif p.isAgg then none else eqT P 20 t p q
def zU4(op:BinOp)(k:IntKind)(a b:Int):Option PV :=
 match op with
 |.add=>some (.int k (k.wrap (a+b)))|.sub=>some (.int k (k.wrap (a-b)))|.mul=>some (.int k (k.wrap (a*b)))|.quo=>if b=0 then none else some (.int k (k.wrap (a.tdiv b)))
 |.rem=>if b=0 then none else some (.int k (a.tmod b))
 |.and=>some (.int k (k.wrap (BitVec.ofInt k.bits a &&& BitVec.ofInt k.bits b).toNat))|.or=>some (.int k (k.wrap (BitVec.ofInt k.bits a ||| BitVec.ofInt k.bits b).toNat))|.xor=>some (.int k (k.wrap (BitVec.ofInt k.bits a ^^^ BitVec.ofInt k.bits b).toNat))|.eql=>some (.bool (a==b))|.neq=>some (.bool (a != b))|.lss=>some (.bool (decide (a<b)))|.leq=>some (.bool (decide (a<=b)))|.gtr=>some (.bool (decide (a>b)))|.geq=>some (.bool (decide (a>=b)))|_=>none
def zG5(op:BinOp)(t:TypeId)(p q:PV):Option PV :=
 match op,p,q with
 |.shl,.int k a,.int _ b=>if b<0 then none else some (.int k (k.wrap (a*2 ^ (min b.toNat k.bits))))
 |.shr,.int k a,.int _ b=>if b<0 then none else some (.int k (a.fdiv (2 ^ (min b.toNat k.bits))))
 |op,.int k a,.int k' b=>if k=k' then zU4 op k a b else none
 |.eql,p,q=>(eqV P t p q).map .bool|.neq,p,q=>(eqV P t p q).map fun b=>.bool (!b)
 |_,_,_=>none
def lenOf:PV->ON
 |.nils _=>some 0|.nn=>some 0|.sl xs=>some xs.length|.bor _ _ _ _ n=>some n|.bsl _ _ _ _ _ _ n=>some n|_=>none
def zNb(r:Nat)(pre:zA4)(i c:Nat)(sh:ON)(k:PV->PM):PM :=
 match sh with
 |some n=>.cells r pre i c n fun a qs=>bif a then k (.agg qs) else .fail
 |none=>.cells r pre i c 1 fun _ qs=>k (qs.headD .bad)
def zD6(r:Nat)(pre:zA4)(i:Nat):Nat->List PV->PM->PM
 |_,[],k=>k|c,q::qs,k=>bif q.heavy then .kill r (pre++[(i,c)]) (zD6 r pre i (c+1) qs k) else zD6 r pre i (c+1) qs k
def zED(res:PV->(PV->List (Nat×zA4)->PM)->PM):List PV->(List PV->List (Nat×zA4)->PM)->PM
 |[],k=>k [] []|p::ps,k=>res p fun q l=>zED res ps fun qs m=>k (q::qs) (l++m)
def resolve (hb:Nat):Nat->PV->(PV->List (Nat×zA4)->PM)->PM
 |0,_,_=>.fail
 | n + 1,p,k =>
  match p with
  | .addr r pre i c sh=>bif ble hb r then k p [] else .deep r pre fun q=>match zBi q with
   | some xs=>match xs[i]? with
    | some x=>match sh with
     |some m=>bif ble (c+m) x.cells.length&&x.isAgg then resolve hb n (.agg ((x.cells.drop c).take m)) fun q l=>k (.ref q) ((r,pre)::l) else .fail
     |none=>match x.cells[c]? with
      |some q=>bif q.oneCell then resolve hb n q fun q l=>k (.ref q) ((r,pre)::l) else .fail
      |none=>.fail
    |none=>.fail
   |none=>.fail
  |.bor r pre _ lo m=>bif ble hb r then k p [] else .deep r pre fun q=>match q with
   |.own _ xs=>bif ble (lo+m) xs.length then k (.sl (zAt ((xs.drop lo).take m))) [(r,pre)] else .fail|_=>.fail
  | .bsl r pre i c sz ag m=>bif ble hb r then k p [] else .deep r pre fun q=>match zBi q with
   |some xs=>match xs[i]? with
    |some x=>bif zCt ag sz m ((x.cells.drop c).take (m*sz))&&(zBx x.cells).isEmpty then k (.sl (zCw ag sz m (zAt ((x.cells.drop c).take (m*sz))))) [(r,pre)] else .fail|none=>.fail
   |none=>.fail
  |.bmap r pre=>bif ble hb r then k p [] else .deep r pre fun q=>match q with
   |.omap es=>k (.map es) [(r,pre)]|_=>.fail
  |.agg cs=>bif (p.ways).isEmpty then k (zA0 p) [] else zED (resolve hb n) cs fun qs l=>k (.agg qs) l
  |.func f a b=>bif (p.ways).isEmpty then k p [] else zED (resolve hb n) a fun as l=>zED (resolve hb n) b fun bs m=>k (.func f as bs) (l++m)
  |.ref q=>bif (q.ways).isEmpty then k p [] else resolve hb n q fun q l=>k (.ref q) l
  |.bad=>k .bad []|p=>bif p.ways.all (fun w=>ble hb w.1) then k (zA0 p) [] else .fail
def zIp(p:PV)(k:List PV->PM):PM :=
 match p with
 |.nils _=>k []|.nn=>k []|.sl xs=>k xs|.bor r pre z lo n=>.deep r pre fun q=>match q with
  |.own _ xs=>bif ble (lo+n) xs.length then k ((xs.drop lo).take n) else .fail|_=>.fail
 |.bsl r pre i c sz ag n=>.cells r pre i c (n*sz) fun _ cs=>bif zCt ag sz n cs&&cs.all (fun q=>q.plain0) then k (zCw ag sz n cs) else .fail
 |_=>.fail
def zRp(p:PV)(k:PV->List (Nat×zA4)->PM):PM:=resolve zAa depth p k
def zMp(hb:Nat):Nat->PV->(PV->PM)->PM
 |0,_,_=>.fail|n+1,p,k=>match p.ways.find? (fun w=>blt w.1 hb) with
  |none=>k p|some (r,pre)=>.deep r pre fun q=>.frz r pre (zMp hb n (p.mapW (inl r pre q)) k)
def zDi:Nat:=64
end Go.Eng
namespace Go.Eng
open Go
structure FHint where
 drop:Nat->LN:=fun _=>[]
 loopDrop:Nat->LN:=fun _=>[]
 mode:LN:=[]
 frz:Bool:=false
 intr:Nat:=0
 take:Nat->LN:=fun _=>[]
 nils:Bool:=false
 frzs:Nat->LN:=fun _=>[]
 ices:Nat->LN:=fun _=>[]
abbrev zBg:=FuncId->FHint
instance:Inhabited FHint:=⟨{}⟩
def zEA(m:List (Nat×Nat)):PV->PV
 |.addr r pre i c sh=>match m.lookup r with
  |some h=>.addr h pre i c sh|none=>.bad
 |.bor r pre z lo n=>match m.lookup r with
  |some h=>.bor h pre z lo n|none=>.bad
 |.bsl r pre i c sz ag n=>match m.lookup r with
  |some h=>.bsl h pre i c sz ag n|none=>.bad
 |.bmap r pre=>match m.lookup r with
  |some h=>.bmap h pre|none=>.bad
 |p=>p
def zGV(m:List (Nat×Nat))(p:PV):PV:=p.mapW (zEA m)
def zOh(p:PV):LN:=(p.ways).map (·.1)
structure Arg where
 p:PV
 shared:List (Nat×zA4):=[]
 byref:Bool:=false
def zEd:LN->List PV->(List (Bool×PV)->PM)->PM
 |_,[],k=>k []
 | ms,p::ps,k =>
  match ms.headD 0,p with
  |2,.bor r pre _ 0 n=>.deep r pre fun q=>match q with
   |.own sz xs=>bif ble n xs.length then .wnode r pre .bad (zEd ms.tail ps fun as=>k ((true,.own sz ((xs.drop 0).take n))::as)) else .fail
   |_=>.fail
  |_,p=>zEd ms.tail ps fun as=>k ((false,p)::as)
def zCA:LN->List (Bool×PV)->(List Arg->PM)->PM
 |_,[],k=>k []|ms,(true,p)::ps,k=>zCA ms.tail ps fun as=>k ({p:=p}::as)
 |ms,(false,p)::ps,k=>
  bif beq (ms.headD 0) 1 then zCA ms.tail ps fun as=>k ({p:=p,byref:=true}::as)
  else zRp p fun q l=>zCA ms.tail ps fun as=>k ({p:=q,shared:=l}::as)
def zEw:LN->List (Bool×PV)->(List Arg->PM)->PM
 |_,[],k=>k []|ms,(true,p)::ps,k=>zEw ms.tail ps fun as=>k ({p:=p}::as)
 |ms,(false,p)::ps,k=>
  bif beq (ms.headD 0) 1 then zEw ms.tail ps fun as=>k ({p:=p,byref:=true}::as)
  else zMp zAa zDi p fun q=>zEw ms.tail ps fun as=>k ({p:=q}::as)
def zOB:LN->(List PV->PM)->PM
 |[],k=>k []|r::rs,k=>.get r fun p=>zOB rs fun ps=>k (p::ps)
def zGA(old new:PV):Bool :=
 match new,old with
 |.own sz _,.own sz' _=>beq sz sz'|.own ..,_=>false|.box _,.box _=>true|.box _,_=>false|.omap _,.omap _=>true|.omap _,_=>false|.lock _,_=>false|.tup _,_=>false|_,_=>true
def zOp:LN->List PV->List PV->PM->PM
 |r::rs,o::os,p::ps,k=>bif zGA o p then .wnode r [] p (zOp rs os ps k) else .fail|[],[],[],k=>k|_,_,_,_=>.fail
def zLh:Nat->LN->(LN->PM)->PM
 |0,R,k=>k R|n+1,R,k=>zOB R fun ts=>let R':=(R++ts.flatMap zOh).eraseDups;bif beq R'.length R.length then k R else zLh n R' k
def zKT:LN->PM->PM
 |[],k=>k|r::rs,k=>.killEx r [] (zKT rs k)
def zPN(as:List Arg):LN:=(as.flatMap fun a=>if a.byref then zOh a.p else[]).eraseDups
def zHL:LN->Bool
 |[]=>true|r::rs=>!rs.contains r&&zHL rs
variable (P:Program) (H:zBg)
def zDE(R:LN):List (Nat×Nat):=R.zipIdx.map fun(r,j)=>(r,zAk+j)
def zCo(R:LN):List (Nat×Nat):=R.zipIdx.map fun(r,j)=>(zAk+j,r)
def zRN (d:ON) (f:FuncId) (as:List Arg) (again:PM):PM :=
 zLh 3 (zPN as) fun R=>
 bif zHL R&&R.all (fun r=>blt r zAa)&&ble R.length 1000&&ble as.length 1000&&(as.flatMap (·.shared)).all (fun x=>!R.contains x.1) then
  zOB R fun hid=>.call f (as.map fun a=>if a.byref then zGV (zDE R) a.p else a.p) (hid.map (zGV (zDE R))) fun v hX=>
   bif (as.flatMap (·.shared)).isEmpty||v.free&&zD1 hX then
    zKT R<|zOp R hid (hX.map (zGV (zCo R))) (zDv d (zGV (zCo R) v))
   else again
 else .fail
def zOt(d:ON)(f:FuncId)(args:List PV):PM :=
 zEd (H f).mode args fun bs=>zCA (H f).mode bs fun as=>zRN d f as (zEw (H f).mode bs fun as=>zRN d f as .fail)
def zZa:List PV->Option PV
 |.int k a::r=>(r.foldl (fun m p=>match m,p with
  |some m,.int k' b=>if k=k' then some (if b>m then b else m) else none
  |_,_=>none) (some a)).map (.int k)
 |_=>none
def zZl:List PV->Option PV
 |.int k a::r=>(r.foldl (fun m p=>match m,p with
  |some m,.int k' b=>if k=k' then some (if b<m then b else m) else none
  |_,_=>none) (some a)).map (.int k)
 |_=>none
def zJK{α:Type}(x:Option α)(k:α->PM):PM :=
 match x with
 |some a=>k a|none=>.fail
def zV2:PV->(Bool->PM)->PM
 |.bool b,k=>k b|_,_=>.fail
def zGF:PV->(Nat->PM)->PM
 |.int _ n,k=>if 0<=n then k n.toNat else .fail
 |_,_=>.fail
def zAO:Nat:=4294967296
def zGB(r:Nat)(pre:zA4):Nat->List PV->PM->PM
 |_,[],k=>k|i,y::ys,k=>zD6 r pre i 0 y.cells (.wcells r pre i 0 y.cells (zGB r pre (i+1) ys k))
def zL9(d:ON)(r:Nat)(pre:zA4)(z lo n s:Nat)(xs ys:List PV):PM :=
 bif blt 0 z&&beq z s&&ble (lo+n+ys.length) xs.length&&ys.all (fun y=>y.plain) then zGB r pre (lo+n) ys (put d (.bor r pre z lo (n+ys.length))) else .fail
def zL1 (d:ON) (sz:Nat) (base:PV) (ys:List PV):PM :=
 bif ys.all (fun y=>beq y.cells.length sz&&y.cells.all fun q=>q.oneCell)&&(zBx ys).isEmpty then
 match base with
 | .bor r pre z lo n => .deep r pre fun q=>match q with
  | .own s xs =>
   bif beq s sz&&ble (lo+n) xs.length&&ble (xs.length+ys.length) zAO then
    bif beq (lo+n) xs.length then
     bif beq lo 0 then .wnode r pre .bad (put d (.own sz (xs++ys))) else .fail
    else zL9 d r pre z lo n s xs ys
   else .fail
  |_=>.fail
 |.nils _=>bif ble ys.length zAO then put d (.own sz ys) else .fail|_=>.fail
 else .fail
def zO3(x:Operand)(k:List PV->PM):PM :=
 match x with
 |.tmp t=>.get t fun p=>match p with
  |.own _ xs=>.set t .bad (k xs)|_=>.view t fun p=>zIp p fun xs=>if xs.all (fun x=>x.plain) then k xs else .fail
 |x=>opd x fun p=>zIp p fun xs=>if xs.all (fun x=>x.plain) then k xs else .fail
def zRA(d:ON)(z:Option PV×ON)(p:PV):PM :=
 match p,d,z.1,z.2 with
 |.bor r pre z lo n,none,some q,some s=>bif blt 0 z&&beq z s&&beq q.cells.length s&&q.plain then zGB r pre lo (replicate n q) .ok else .fail|.sl [],none,some _,some _=>.ok|.nils _,none,some _,some _=>.ok|_,_,_,_=>.fail
def zBB(d:ON)(b:Builtin)(ts:List TypeId)(args:List Operand):PM :=
 match b,args,ts with
 | .len,[x],t::_=>opd x fun p=>match P.underlying t with
  |some (.array n _)=>put d (.int .i64 n)|some (.slice _)=>match lenOf p with
   |some n=>put d (.int .i64 n)|none=>.fail
  |_=>.fail
 |.append,[x,y],[t,t2]=>bif (zB1 P t2).isNone then .fail else match(zB1 P t).bind (szT P),(zB1 P t).bind (zIw P),(zB1 P t).bind (zCO P) with
  |some sz,some by_,some z=>if by_<=16384/\z.cells.length=sz then opd x fun base=>zO3 y fun ys=>zL1 d sz base ys else .fail
  |_,_,_=>.fail
 |.copy,[x,y],t::_=>zJK ((zB1 P t).bind (szT P)) fun s=>opd x fun p=>opd y fun q=>zIp q fun ys=>match p with
  |.bor r pre z lo n=>bif beq z s&&blt 0 z&&ble ys.length n&&ys.all (fun y=>y.plain&&beq y.cells.length s) then zGB r pre lo ys (put d (.int .i64 ys.length)) else .fail
  |_=>.fail
 |.clear,[x],t::_=>opd x fun p=>zRA d ((zB1 P t).bind (zCO P),(zB1 P t).bind (szT P)) p
 |.max,xs,_=>zVQ xs fun ps=>match zZa ps with
  |some v=>put d v|none=>.fail
 |.min,xs,_=>zVQ xs fun ps=>match zZl ps with
  |some v=>put d v|none=>.fail
 |_,_,_=>.fail
def zFR(place:Nat->Option (Nat×Nat)):List PV->List (Nat×PV)->Option (List PV)
 |z,[]=>some z|z,(i,v)::r=>match place i with
  |some (off,n)=>if v.cells.length=n/\off+n<=z.length/\v.whole=true then zFR place (z.take off++v.cells++z.drop (off+n)) r else none
  |none=>none
def zPR(place:Nat->Option (Nat×Nat))(z:List PV)(ps:List (Nat×Operand))(k:List PV->PM):PM :=
 zVw (ps.map (·.2)) fun vs=>match zFR place z ((ps.map (·.1)).zip vs) with
  |some cs=>k cs|none=>.fail
def zNC(n:Nat)(z:PV)(ps:List (Nat×PV)):List PV :=
 ps.foldl (fun xs (i,v)=>xs.set i v) (replicate n z)
def zMF(t:TypeId)(i:Nat):Option Field :=
 match P.underlying t with
 |some (.struct fs)=>fs[i]?|_=>none
def zPO(p:PV)(off:Nat)(sh:ON):Option PV :=
 match p with
 |.ref q=>match sub q off sh with
  |some x=>bif sh.isSome||x.oneCell then some (.ref x) else none
  |none=>none
 |.addr r pre i c (some _)=>some (.addr r pre i (c+off) sh)|_=>none
def zBQ(p:PV)(off:Nat)(sh:ON):Option PV :=
 match sh with
 |some 0=>none|sh=>zPO p off sh
def zUp(x:Option Operand)(n:Nat)(k:Nat->PM):PM :=
 match x with
 |some x=>opd x fun p=>zGF p k
 |none=>k n
def zPo (d:ON) (s:Nat) (p:PV) (l h:Nat):PM :=
 match p with
 |.sl xs=>bif ble l h&&ble h xs.length&&xs.all (fun x=>beq x.cells.length s) then put d (.sl ((xs.drop l).take (h-l))) else .fail
 | .bor r pre z a n =>
  bif beq z s&&ble l h then
   bif ble h n then put d (bif beq l 0||blt l h then .bor r pre z (a+l) (h-l) else .sl [])
   else .deep r pre fun q=>match q with
    |.own _ xs=>bif ble (a+h) xs.length then put d (bif beq l 0||blt l h then .bor r pre z (a+l) (h-l) else .sl []) else .fail|_=>.fail
  else .fail
 |_=>.fail
def zR8(d:ON)(n s:Nat)(sh:ON)(p:PV)(l h:Nat):PM :=
 bif ble l h&&ble h n&&(beq l 0||blt l n) then
  match p with
  |.addr r pre i c _=>put d (.bsl r pre i (c+l*s) s sh.isSome (h-l))|.ref (.agg cs)=>bif ble (n*s) cs.length&&zCt sh.isSome s (h-l) ((cs.drop (l*s)).take ((h-l)*s))&&(zBx cs).isEmpty then put d (.sl (zCw sh.isSome s (h-l) ((cs.drop (l*s)).take ((h-l)*s)))) else .fail|_=>.fail
 else .fail
def zJ6(d:ON)(t:TypeId)(x:Operand)(lo hi mx:Option Operand):PM :=
 match mx with
 | some m=>opd x fun p=>match p,P.underlying t with
  |.bor _ _ _ _ n,some (.slice e)=>zJK (szT P e) fun _=>zUp (some m) n fun m=>match hi with
   |some hi=>zUp (some hi) n fun h=>zUp lo 0 fun l=>bif ble l h&&ble h m&&ble m n then put d .bad else .fail
   |none=>.fail
  |_,_=>.fail
 | none=>opd x fun p=>match P.underlying t with
  |some (.array n e)=>match szT P e,shT P e with
   |some s,some sh=>zUp hi n fun h=>zUp lo 0 fun l=>zR8 d n s sh p l h
   |_,_=>.fail
  |some (.slice e)=>match szT P e,lenOf p with
   |some s,some n=>zUp hi n fun h=>zUp lo 0 fun l=>zPo d s p l h
   |_,_=>.fail
  |_=>.fail
def zO4(p:PV)(k:PV->PM)(k2:PM):PM :=
 match p with
 |.bor r pre _ lo n=>.deep r pre fun q=>match q with
  |.own sz xs=>bif beq lo 0&&beq n xs.length then .wnode r pre .bad (k (.own sz xs)) else k2|_=>k2
 |.bmap r pre=>.deep r pre fun q=>match q with
  |.omap es=>.wnode r pre .bad (k (.omap es))|_=>k2
 |p=>k p
def zNF(p:PV)(k:PV->PM):PM:=zO4 p k (zMp zAa zDi p k)
def zJH:List PV->(List PV->PM)->PM
 |[],k=>k []|p::ps,k=>zO4 p (fun q=>zJH ps fun qs=>k (q::qs)) .fail
def zF0(tk:Bool)(p:PV)(k:PV->PM):PM :=
 match p with
 |.agg cs=>bif tk then zJH cs fun cs=>k (.agg cs) else bif cs.any (fun c=>match c with|.bor ..|.bmap ..|.bsl .. => true|_=>false) then zMp zAa zDi p k else k p
 |.bsl .. => zMp zAa zDi p k|.bor ..|.bmap .. => bif tk then zNF p k else zMp zAa zDi p k|p=>k p
def zGm(tk:Bool):List PV->(List PV->PM)->PM
 |[],k=>k []|p::ps,k=>zF0 tk p fun q=>zGm tk ps fun qs=>k (q::qs)
def zRy(r:Nat)(pre:zA4)(i c:Nat):PV->ON
 |.bor r' q z 0 n=>if r'=r&&q=pre++[(i,c)] then some n else none
 |_=>none
def zIx(r:Nat)(pre:zA4)(i c:Nat)(v:PV):PM :=
 bif (!v.heavy||v.ways.all (fun w=>!(zAU r pre w.1 w.2&&blt pre.length w.2.length)))&&v.cells.all (fun q=>q.oneCell) && !v.cells.isEmpty then zD6 r pre i c v.cells (.wcells r pre i c v.cells .ok) else .fail
def zIY(tk:Bool)(r:Nat)(pre:zA4)(v:PV)(k:PV->PM):PM :=
 bif pre.isEmpty && !tk then .view r fun q=>(match q with|.addr .. => k v|_=>zF0 tk v k) else zF0 tk v k
def zIz(tk:Bool)(r:Nat)(pre:zA4)(i c:Nat)(v:PV):PM :=
 match zRy r pre i c v with
 |some m=>.deep r (pre++[(i,c)]) fun q=>match q with
  |.own s xs=>bif ble m xs.length then .wnode r (pre++[(i,c)]) .bad (zIx r pre i c (.own s ((xs.drop 0).take m))) else .fail|_=>.fail
 |none=>zIY tk r pre v fun v=>zIx r pre i c v
def zQv(fz tk:Bool)(t:TypeId)(a x:Operand):PM :=
 opd a fun pa=>match pa,x with
 |.addr r pre i c _,.const (.slice none 0 0)=>zJK ((zB1 P t).bind (szT P)) fun s=>if szT P t=some 1 then zIz tk r pre i c (.own s []) else .fail
 |pa,x=>match pa,shT P t,szT P t with
 |.addr r pre i c _,some sh,some n=>(bif fz&&tk then opd x else zON x) fun v=>
  bif beq v.cells.length n&&v.isAgg==sh.isSome then zIz (tk && !fz) r pre i c (bif fz && !tk then zA0 v else v) else .fail
 |_,_,_=>.fail
def zVt(d:ON)(t:TypeId):PM :=
 match(zB1 P t).bind (szT P) with
 |some s=>put d (.own s [])|none=>.fail
def zNO(d:ON)(t:TypeId)(s:Nat):PM :=
 match P.underlying t,d with
 |some (.tuple ts),some d'=>.get s fun m=>match m with
  |.tup ps=>if ps.length=ts.size/\ts.size<=16 then .set d' .bad (zFP s d' 0 ts.size) else .fail
  |_=>.fail
 |_,_=>opd (.tmp s) (put d)
def zSB(d:ON)(t:TypeId)(x:Operand):PM :=
 match x with
 |.const (.slice none 0 0)=>zVt P d t|.tmp s=>zNO P d t s|x=>opd x (put d)
def zFv(d:ON)(p:PV):PM :=
 match d,p with
 | some d',.bor r [] z lo n=>if r=d' then .get r fun root=>match root with
   |.own sz xs=>bif ble (lo+n) xs.length then .kill r [] (.set r (.own sz ((xs.drop lo).take n)) .ok) else .fail|_=>.fail
  else put d p
 |_,_=>put d p
def zGj(tk nl:Bool)(d:ON)(t:TypeId)(x:Operand):PM :=
 match x with
 |.const (.slice none 0 0)=>bif nl then zJK ((zB1 P t).bind (szT P)) fun s=>put d (.nils s) else zVt P d t
 |x=>zON x fun p=>bif tk then zNF p (zFv d) else zFv d p
def zUr(d:ON)(x:Operand):PM:=zON x fun p=>zMp zAa zDi p (zFv d)
def zWb(d:ON)(c a b:Operand):PM:=opd c fun p=>zV2 p fun t=>opd (if t then a else b) (put d)
def zSW(t:TypeId):PV->PV
 |.nils k=>match(zB1 P t).bind (szT P) with
  |some s=>.own s []|none=>.nils k
 |z=>z
def zSw(d:ON)(t:TypeId):PM:=zJK (zCO P t) fun z=>put d (.box (zSW P t z))
def zVU(d:ON)(t:TypeId)(x:Operand):PM:=zON x fun p=>match shT P t,szT P t with
 |some sh,some n=>if p.cells.length=n&&p.isAgg=sh.isSome&&p.whole then put d (.box p) else .fail
 |_,_=>.fail
def zOb(d:ON)(t:TypeId)(ps:List (Nat×Operand)):PM :=
 match P.underlying t,(zCO P t).map PV.cells with
 |some (.struct fs),some z=>bif fs.all (fun f=>(szT P f.type).isSome) then zPR (fun i=>(fs[i]?).bind fun f=>(szT P f.type).map fun n=>(f.offset,n)) z ps (fun cs=>put d (.agg cs)) else .fail
 |some (.array _ e),some z=>zJK (szT P e) fun n=>zPR (fun i=>some (i*n,n)) z ps fun cs=>put d (.agg cs)
 |_,_=>.fail
def zYj:Option PV->ON
 |some (.own s [])=>some s|_=>none
def zZh(nz:ON)(x:Operand)(k:PV->PM):PM :=
 match nz,x with
 |some s,.const (.slice none 0 0)=>k (.own s [])|_,x=>zON x k
def zRg(nz:ON):List Operand->(List PV->PM)->PM
 |[],k=>k []|x::xs,k=>zZh nz x fun p=>zRg nz xs fun ps=>k (p::ps)
def zDS (tk:Bool) (d:ON) (t:TypeId) (n:Nat) (ps:List (Nat×Operand)):PM :=
 match zB1 P t with
 | some e=>match szT P e,zCO P e with
  | some s,some z=>if n*s<=65536&&beq z.cells.length s&&ps.all (fun x=>x.1<n) then zRg (zYj (zCO P e)) (ps.map (·.2)) fun vs=>zGm tk vs fun vs =>
    if (zBx vs).isEmpty&&vs.all (fun v=>v.cells.length=s&&v.isAgg=z.isAgg&&v.whole) then put d (.own s (zNC n z ((ps.map (·.1)).zip vs))) else .fail
   else .fail
  |_,_=>.fail
 |none=>.fail
def zQH(d:ON)(sh:ON)(p:PV):PM :=
 match p with
 |.ref q=>if q.isAgg=sh.isSome&&q.cells.length=sh.getD 1 then put d q else .fail
 |.addr r pre i c _=>zNb r pre i c sh (put d)|_=>.fail
def zPs(tk:Bool)(d:ON)(t:TypeId)(a:Operand):PM:=zJK (shT P t) fun sh=>opd a fun p=>
 bif tk then(match p with
  |.addr r pre i c _=>zNb r pre i c sh fun v=>zMp zAa zDi v (put d)
  |p=>zQH d sh p) else zQH d sh p
def zZS(d:ON)(p:PV):PM :=
 match p with
 |.addr ..|.ref _|.func ..|.yld _=>put d p|_=>.fail
def zVA(d:ON)(op:BinOp)(t:TypeId)(x y:Operand):PM:=opd x fun p=>opd y fun q=>zJK (zG5 P op t p q) (put d)
def unV(d:ON)(op:UnOp)(p:PV):PM :=
 match op,p with
 |.not,.bool b=>put d (.bool !b)|.neg,.int k n=>put d (.int k (k.wrap (0-n)))|_,_=>.fail
def zRD(d:ON)(t:TypeId)(p:PV):PM :=
 match P.underlying t,p with
 |some (.int k),.int _ n=>put d (.int k (k.wrap n))|_,_=>.fail
def zLe(d:ON)(f:FuncId)(first caps:List Operand):PM:=zVQ first fun a=>zVQ caps fun b=>put d (.func f a b)
def zFs(d:ON)(t:TypeId)(l c:Operand):PM :=
 opd l fun l=>zGF l fun l=>opd c fun c=>zGF c fun c=>match zB1 P t with
 |some e=>match zCO P e,szT P e,zIw P e with
  |some z,some s,some b=>if l<=c/\c<=zAO/\b<=16384/\z.cells.length=s then put d (.own s (replicate l z)) else .fail
  |_,_,_=>.fail
 |none=>.fail
def zJC(d:ON)(t:TypeId)(x:Operand)(i:Nat):PM :=
 opd x fun p=>zJK (zMF P t i) fun f=>zJK (shT P f.type) fun sh=>zJK (zBQ p f.offset sh) (put d)
def zSJ(d:ON)(t:TypeId)(x:Operand)(i:Nat):PM :=
 opd x fun p=>zJK (zMF P t i) fun f=>zJK (shT P f.type) fun sh=>zJK (sub p f.offset sh) (put d)
def zPa(d:ON)(n:Nat)(e:TypeId)(p:PV)(i:Nat):PM :=
 match szT P e,shT P e with
 |some s,some sh=>if i<n then zJK (zBQ p (i*s) sh) (put d) else .fail
 |_,_=>.fail
def zR1(d:ON)(e:TypeId)(p:PV)(i:Nat):PM :=
 match p with
 |.sl xs=>zJK (xs[i]?) fun x=>if szT P e=some x.cells.length then put d (.ref x) else .fail
 |.bor r pre z lo n=>match shT P e with
  |some sh=>if i<n/\szT P e=some z then put d (.addr r pre (lo+i) 0 sh) else .fail
  |none=>.fail
 |.bsl r pre j c s ag n=>if i<n/\szT P e=some s then put d (.addr r pre j (c+i*s) (if ag then some s else none)) else .fail
 |_=>.fail
def zFw(d:ON)(t:TypeId)(x i:Operand):PM :=
 opd x fun p=>opd i fun i=>zGF i fun i=>match P.underlying t with
 |some (.array n e)=>zPa P d n e p i|some (.slice e)=>zR1 P d e p i|_=>.fail
def zLH(d:ON)(t:TypeId)(x i:Operand):PM :=
 opd x fun p=>opd i fun i=>zGF i fun i=>match P.underlying t with
 |some (.array n e)=>match szT P e,shT P e with
  |some s,some sh=>if i<n then zJK (sub p (i*s) sh) (put d) else .fail
  |_,_=>.fail
 |_=>.fail
def PV.flat:PV->Bool
 |.agg cs=>cs.all PV.num|p=>p.num
def PV.lone0:PV->Bool
 |.int ..|.bool ..|.nilp|.nilf|.nilm|.nn|.nils _|.sl ..|.map .. => true|_=>false
def PV.lone:PV->Bool
 |.agg cs=>cs.all PV.lone0|p=>p.lone0
def zJ0:PV->PV
 |.own _ []=>.sl []|p=>p
def zU1 (ok:TypeId->PV->Bool) (sh:TypeId->Option ON) (p:PV):List Field->Bool
  |[]=>true
  | f :: fs => (if f.name = "_" then true else match sh f.type with
    | some s=>match sub p f.offset s with
      |some a=>ok f.type a|none=>false
    |none=>false)&&zU1 ok sh p fs
def zVN(ok:PV->Bool)(sh:ON)(sz:Nat)(p:PV):Nat->Nat->Bool
 |_,0=>true|i,n+1=>(match sub p (i*sz) sh with
  |some a=>ok a|none=>false)&&zVN ok sh sz p (i+1) n
def zPQ:Nat->TypeId->PV->Bool
 |0,_,_=>false
 | n + 1,t,p =>
  match P.underlying t,p with
  |some (.int _),.int .. => true|some .bool,.bool _=>true|some (.struct fs),.agg xs=>zU1 (zPQ n) (shT P) (.agg xs) fs.toList|some (.array len e),.agg xs=>match szT P e,shT P e with
   |some sz,some sh=>zVN (zPQ n e) sh sz (.agg xs) 0 len|_,_=>false
  |_,_=>false
def zCh(kt:TypeId)(key:PV):List (PV×PV)->Nat->Option ON
 |[],_=>some none
 | (k,_)::es,i=>match eqT P 20 kt key k with
  |some true=>match zEn key.cells k.cells with
   |some true=>some (some i)|_=>none
  |some false=>zCh kt key es (i+1)|none=>none
def zKh(d:ON)(kt:TypeId)(z key:PV)(ok:Bool)(es:List (PV×PV)):PM :=
 match zCh P kt key es 0 with
 |some (some i)=>match es[i]? with
  |some (_,v)=>bif v.lone then zDv d (if ok then .tup [v,.bool true] else v) else .fail
  |none=>.fail
 |some none=>zDv d (if ok then .tup [z,.bool false] else z)
 |none=>.fail
def zUz(d:ON)(kt:TypeId)(z key:PV)(ok:Bool)(m:PV):PM :=
 match m with
 |.nilm=>zKh P d kt z key ok []|.map es=>zKh P d kt z key ok es|.bmap r pre=>.deep r pre fun q=>match q with
  |.omap es=>zKh P d kt z key ok es|_=>.fail
 |_=>.fail
def zI3(d:ON)(t:TypeId)(m x:Operand)(ok:Bool):PM :=
 opd m fun m=>opd x fun key=>match P.underlying t with
 |some (.map kt e)=>bif zPQ P 20 kt key then zJK (zCO P e) fun z=>bif (zJ0 z).lone then zUz P d kt (zJ0 z) key ok m else .fail else .fail
 |_=>.fail
def zNP(kt:TypeId)(key v m:PV):PM :=
 match m with
 | .bmap r pre=>bif v.lone then .deep r pre fun q=>match q with
  |.omap es=>match zCh P kt key es 0 with
   |some (some i)=>.wnode r pre (.omap (es.modify i fun _=>(key,v))) .ok
   |some none=>.wnode r pre (.omap (es++[(key,v)])) .ok|none=>.fail
  |_=>.fail else .fail
 |_=>.fail
def zFz(t:TypeId)(m x y:Operand):PM:=opd m fun m=>opd x fun key=>match P.underlying t with
 |some (.map kt _)=>bif zPQ P 20 kt key&&key.flat then zON y fun v=>zMp zAa zDi v fun v=>zNP P kt key (zA0 v) m else .fail
 |_=>.fail
def zO9 (d:ON) (kt:TypeId) (z key m:PV):PM :=
 match m with
 | .bmap r pre => .deep r pre fun q=>match q with
  | .omap es=>match zCh P kt key es 0 with
   |some (some i)=>match es[i]? with
    |some (_,v)=>bif v.lone then .wnode r pre (.omap (es.modify i fun _=>(key,v))) (zDv d (.tup [v,.int .i64 i])) else .fail
    |none=>.fail
   |some none=>.wnode r pre (.omap (es++[(key,z)])) (zDv d (.tup [z,.int .i64 es.length]))|none=>.fail
  |_=>.fail
 |_=>.fail
def zGh(d:ON)(t:TypeId)(m x:Operand):PM:=opd m fun m=>opd x fun key=>match P.underlying t with
 |some (.map kt el)=>bif zPQ P 20 kt key&&key.flat then zJK (zCO P el) fun z=>bif (zJ0 z).lone then zO9 P d kt (zJ0 z) key m else .fail else .fail
 |_=>.fail
def zIU(i:Nat)(v m:PV):PM :=
 match m with
 | .bmap r pre=>bif v.lone then .deep r pre fun q=>match q with
  |.omap es=>match es[i]? with
   |some (k,_)=>.wnode r pre (.omap (es.modify i fun _=>(k,v))) .ok
   |none=>.fail
  |_=>.fail else .fail
 |_=>.fail
def zEF(m s y:Operand):PM:=opd m fun m=>opd s fun s=>zGF s fun i=>zON y fun v=>zMp zAa zDi v fun v=>zIU i (zA0 v) m
def zJm(d:ON)(s i:Nat):PM := .get s fun m=>match m with
 |.tup ps=>bif blt i ps.length then .get (zBy s i) fun p=>bif p.heavy then .set (zBy s i) .bad (put d p) else put d p else .fail
 |_=>.fail
def zUW(d:ON)(args:List Operand)(g:PV):PM :=
 match g with
 |.func g first caps=>zVQ args fun as=>zOt H d g (first++as++caps)
 |_=>.fail
def zK2(d:ON)(c:Call):PM :=
 match c.callee with
 |.builtin b=>zBB P d b c.argTypes.toList c.args.toList|.value f=>opd f (zUW H d c.args.toList)|_=>.fail
def opM(fz tk nl:Bool)(o:Oper):PM :=
 match o.op with
 |.move x=>zSB P o.dst o.type x|.assign x=>bif fz&&tk then zUr o.dst x else zGj P tk nl o.dst o.type x|.pick c a b=>zWb o.dst c a b|.alloc t=>zSw P o.dst t|.box t x=>zVU P o.dst t x|.build t ps=>zOb P o.dst t ps.toList|.buildSlice t n ps=>zDS P tk o.dst t n ps.toList|.load t a=>zPs P tk o.dst t a|.store t a x=>zQv P fz tk t a x|.nilCheck x=>opd x (zZS o.dst)|.binOp op t x y _=>zVA P o.dst op t x y|.unOp op _ x=>opd x (unV o.dst op)|.convert _ t x=>opd x (zRD P o.dst t)|.makeFunc (.func f) first caps=>zLe o.dst f first.toList caps.toList
 |.makeMap _ none=>put o.dst (.omap [])|.makeSlice t l c=>zFs P o.dst t l c|.slice t x lo hi mx=>zJ6 P o.dst t x lo hi mx|.fieldAddr t x i=>zJC P o.dst t x i|.field t x i=>zSJ P o.dst t x i|.indexAddr t x i=>zFw P o.dst t x i|.index t x i=>zLH P o.dst t x i|.lookup t m x ok=>zI3 P o.dst t m x ok|.mapUpdate t m x y=>zFz P t m x y|.mapEntry t m x=>zGh P o.dst t m x|.entryStore _ m s x=>zEF m s x|.extract (.tmp s) i=>zJm o.dst s i|.call c=>zK2 P H o.dst c|_=>.fail
def zFW(ops:Array Oper)(fz tk nl:Bool)(o:Oper):PM :=
 match o.guard with
 |none=>opM P H fz tk nl o
 | some (j,want)=>match (ops[j]?).bind (·.dst) with
  |some t=>.get t fun p=>match p with
   |.bool b=>if b=want then opM P H fz tk nl o else put o.dst .und
   |.und=>put o.dst .und|_=>.fail
  |none=>.fail
structure Log where
 xs:List (List PV)
 k:Int
 at_:Nat
 deriving Inhabited
def zQN(e:Env):Operand->PV
 |.tmp t=>view t (e.get t)|.const v=>zEM v|_=>.bad
def zCp(e:Env)(o:Oper):Option (Nat×List PV) :=
 match o.op with
 | .call c=>match c.callee with
  |.value (.tmp t)=>match e.get t with
   |.yld h=>some (h,c.args.toList.map (zQN e))|_=>none
  |_=>none
 |_=>none
def zLM(ops:Array Oper)(e:Env)(o:Oper):Option Bool :=
 match o.guard with
 |none=>some true
 | some (j,want)=>match (ops[j]?).bind (·.dst) with
  |some t=>match e.get t with
   |.bool b=>some (b==want)|.und=>some false|_=>none
  |none=>none
def zB0(orc:zAK)(ops:Array Oper)(o:Oper)(h:Nat)(args:List PV)(l:Log)(e:Env):Option (Env×Option Log) :=
 match zLM ops e o with
 | some true=>bif args.all PV.flat&&l.k != 0&&beq h l.at_ then
   (bif l.k==1 then(put o.dst (.bool false)).run orc (e.forget zAa) else(put o.dst (.bool true)).run orc e).map fun e'=>(e',some ⟨l.xs++[args],l.k-1,l.at_⟩)
  else none
 |some false=>((put o.dst .und).run orc e).map fun e'=>(e',some l)
 |none=>none
def zCV(orc:zAK)(fz tk nl:Bool)(ops:Array Oper)(o:Oper)(e:Env)(lg:Option Log):Option (Env×Option Log) :=
 match lg with
 |none=>((zFW P H ops fz tk nl o).run orc e).map fun e'=>(e',none)
 |some l=>match zCp e o with
  |some (h,args)=>zB0 orc ops o h args l e|none=>((zFW P H ops fz tk nl o).run orc e).map fun e'=>(e',some l)
def zEz(orc:zAK)(fz tk nl:Bool)(ops:Array Oper)(o:Oper)(e:Env)(lg:Option Log):Option (Env×Option Log×Tok) :=
 match lg with
 |none=>((zFW P H ops fz tk nl o).runT orc e).map fun x=>(x.1,none,x.2)
 |some l=>match zCp e o with
  |some (h,args)=>(zB0 orc ops o h args l e).map fun x=>(x.1,x.2,{all:=true})
  |none=>((zFW P H ops fz tk nl o).runT orc e).map fun x=>(x.1,some l,x.2)
def zBh(orc:zAK)(fzs tks:LN)(nl:Bool)(ops:Array Oper):List Oper->Nat->Env->Option Log->Option (Env×Option Log)
 |[],_,e,lg=>some (e,lg)|o::l,i,e,lg=>match zCV P H orc (fzs.contains i) (tks.contains i) nl ops o e lg with
  |some (e',lg')=>zBh orc fzs tks nl ops l (i+1) e' lg'|none=>none
def zIc(acc:LN)(o:Oper):Nat:=o.after.toList.foldl (fun s e=>if Region.binds .any e then s ||| 2 ^ e.on ||| acc.getD e.on 0 else s) 0
def zGo(b:Nat)(t:Tok):Nat->List Tok->Bool
 |_,[]=>true|j,u::us=>(b.testBit j || !zQG u t)&&zGo b t (j+1) us
def zCC(orc:zAK)(fzs tks:LN)(nl:Bool)(ops:Array Oper):List Oper->Nat->LN->List Tok->Env->Option Log->Option (Env×Option Log)
 |[],_,_,_,e,lg=>some (e,lg)
 | o :: l,i,acc,ts,e,lg =>
  match zEz P H orc (fzs.contains i) (tks.contains i) nl ops o e lg with
  |some (e',lg',t)=>
   bif o.after.toList.all (fun e=>!Region.binds .any e||blt e.on i)&&zGo (zIc acc o) t 0 ts then zCC orc fzs tks nl ops l (i+1) (acc++[zIc acc o]) (ts++[t]) e' lg' else none
  |none=>none
inductive X where
 |norm|ex (id:Nat)|ret
 deriving DecidableEq
def zNz(l:LN)(s:Nat):Bool:=l.contains (if 2000000<=s then(s-2000000) / 16 else s)
def Env.drop(e:Env)(l:LN):Env :=
 e.filter fun x=>!zNz l x.1
def Env.put(e:Env)(k:Nat)(v:PV):Env :=
 match v with
 |.bad=>e.filter fun x=>!Nat.beq x.1 k
 |v=>e.set k v
def Env.norm:Env->Env
 |[]=>[]|(k,v)::e=>(Env.norm e).put k v
def zA2:Code->Nat
 |.region id _ _=>id|.seq a _=>zA2 a|.block _ b=>zA2 b|.loop b=>zA2 b|_=>0
def zBZ:Code->LN
 |.region _ ops _=>ops.toList.filterMap (·.dst)|.seq a b=>zBZ a++zBZ b|.cond _ a b=>zBZ a++zBZ b|.block _ b=>zBZ b|.loop b=>zBZ b|.scope b=>zBZ b|_=>[]
def zCB:List Tmp->List PV->Env->Option Env
 |[],[],e=>some e|t::ts,v::vs,e=>if (e.get t).heavy then none else zCB ts vs (e.set t v)
 |_,_,_=>none
def zEE:LN->Env->Option Env
 |[],e=>some e|r::R,e=>bif blt r zAa then match e.frz r [] with
  |some e'=>zEE R e'|none=>none
  else none
def zWN(R:LN)(e:Env):Env :=
 match zEE R e with
 |some e'=>e'|none=>e
def zC1(e:Env)(R:LN):LN:=R++(e.filter fun x=>x.2.heavy && !R.contains x.1&&x.2.ways.any fun w=>R.contains w.1).map (·.1)
def zGq(e:Env)(R:LN):Bool:=R.all fun r=>(e.get r).ways.all fun w=>R.contains w.1
def after(nt:Nat)(R ds:LN)(e0 e:Env):Env:=e0.map fun x=>
 (x.1,bif R.contains x.1 || !x.2.heavy&&x.2.ways.all (fun w=>R.contains w.1) then x.2 else bif !(blt x.1 nt && !ds.contains x.1||ble zAk x.1&&blt x.1 zAF) then .bad else bif (R.isEmpty||(e.get x.1).free) && !(e.get x.1).isTup then e.get x.1 else .bad)
def zDg (nt:Nat) (run:Code->Env->Option (X×Env)) (ps:List Tmp) (assign body:Code) (R ds:LN):List (List PV)->Env->Nat->Option (Option (Nat×X)×Env)
 |[],e,_=>some (none,e)
 | x :: xs,e,j =>
  let round (e:Env):Option (X×Env):=match zCB ps x e with
   |some e1=>match run assign e1 with
    |some (.norm,e2)=>run body e2|_=>none
   |none=>none
  match round e with
  | some (.norm,e3)=>match R with
   |[]=>zDg nt run ps assign body R ds xs (after nt [] ds e e3) (j+1)
   | r :: R=>match (bif zGq e (zC1 e (r::R)) then zEE (zC1 e (r::R)) e else none) with
    |some e1=>match round e1 with
     |some (.norm,e3)=>zDg nt run ps assign body (r::R) ds xs (after nt (zC1 e (r::R)) ds e e3) (j+1)|_=>none
    |none=>none
  |some (r,e3)=>some (some (j+1,r),after nt [] ds e e3)|none=>none
def zDV(e:Env)(t:Nat):Option (FuncId×List PV×List PV×LN) :=
 match(zRp (view t (e.get t)) fun q l=>.set 0 (.tup [q]) (.set 1 (.tup (l.map fun x=>.int .i64 x.1)) .ok)).run (fun _ _ _=>none) e with
 |some e'=>match e'.get 0,e'.get 1 with
  |.tup [.func g first caps],.tup l=>some (g,first,caps,(l.filterMap fun|.int _ n=>some n.toNat|_=>none).eraseDups)
  |_,_=>none
 |none=>none
abbrev zCU:=FuncId->List PV->Nat->List PV->Int->Option (List (List PV))
abbrev All:=(Nat->Option (List (List PV)))->Option (List (List PV))
def zHH (nt:Nat) (yo:zCU) (al:All) (run:Code->Env->Option (X×Env)) (t:Tmp) (ps:List Tmp) (assign body:Code) (e:Env):Option (X×Env) :=
 match zDV e t with
 | some (g,first,caps,R) =>
  match al (fun i=>yo g first i caps (-1)) with
  | some xs=>match zDg nt run ps assign body R (ps++zBZ assign++zBZ body) xs e 0 with
   |some (none,e')=>some (.norm,e')
   | some (some (j,_),_)=>match al (fun i=>yo g first i caps j) with
    |some ys=>match zDg nt run ps assign body R (ps++zBZ assign++zBZ body) ys e 0 with
     |some (some (j',r),e')=>if j'=j/\ys.length=j then some (r,e') else none
     |_=>none
    |none=>none
   |none=>none
  |none=>none
 |none=>none
def exec (orc:zAK) (yo:zCU) (al:All) (nt:Nat) (h:FHint):Nat->Code->Env->Option Log->Option (X×Env×Option Log)
 |0,_,_,_=>none
 | n + 1,c,e,lg=>match c with
  |.skip=>some (.norm,e,lg)|.region id ops draw=>match(if draw then zCC P H orc (h.frzs id) (h.take id) h.nils ops ops.toList 0 [] [] e lg else zBh P H orc (h.frzs id) (h.take id) h.nils ops ops.toList 0 e lg) with
   |some (e',lg')=>some (.norm,(e'.drop (h.drop id)).norm,lg')|none=>none
  |.seq a b=>match exec orc yo al nt h n a e lg with
   |some (.norm,e',lg')=>exec orc yo al nt h n b e' lg'|r=>r
  | .cond c a b=>match c with
   |.tmp t=>match e.get t with
    |.bool true=>exec orc yo al nt h n a e lg|.bool false=>exec orc yo al nt h n b e lg|_=>none
   |.const (.bool true)=>exec orc yo al nt h n a e lg|.const (.bool false)=>exec orc yo al nt h n b e lg|_=>none
  |.block id b=>match exec orc yo al nt h n b e lg with
   |some (.ex id',e')=>some (if id'=id then .norm else .ex id',e')
   |r=>r
  |.loop b=>match exec orc yo al nt h n b (e.drop (h.loopDrop (zA2 b))) lg with
   |some (.norm,e',lg')=>exec orc yo al nt h n (.loop b) e' lg'|r=>r
  |.exit id=>some (.ex id,zWN (h.ices id) e,lg)|.ret=>some (.ret,e,lg)|.label _=>some (.norm,e,lg)|.scope b=>exec orc yo al nt h n b e lg|.rangeFunc (.tmp t) ps assign body=>match lg with
   |none=>(zHH nt yo al (fun c e=>match exec orc yo al nt h n c e none with|some (x,e',none)=>some (x,e')|_=>none) t ps.toList assign body e).map fun x=>(x.1,x.2,none)
   |some _=>none
  |_=>none
def zR6(p:PV)(k:PV->PM)(k2:PM):PM :=
 match p with
 |.bor r pre _ lo n=>.deep r pre fun q=>match q with
  |.own sz xs=>bif ble (lo+n) xs.length then .wnode r pre .bad (k (.own sz ((xs.drop lo).take n))) else k2|_=>k2
 |.addr r pre 0 0 _=>.deep r pre fun q=>match q with
  |.box q=>.wnode r pre .bad (k (.box q))|_=>k2
 |.bmap r pre=>.deep r pre fun q=>match q with
  |.omap es=>.wnode r pre .bad (k (.omap es))|_=>k2
 |_=>k2
def zF6(frz:Bool)(p:PV)(k:PV->PM):PM :=
 bif frz||p.ways.any (fun w=>ble zAk w.1) then zMp zAk zDi p k else zR6 p k (zMp zAk zDi p k)
def zCz(frz:Bool):List PV->(List PV->PM)->PM
 |[],k=>k []|p::ps,k=>zF6 frz p fun q=>zCz frz ps fun qs=>k (q::qs)
def zG1(frz:Bool)(p:PV)(k:PV->PM):PM :=
 match p with
 |.agg cs=>zCz frz cs fun qs=>k (.agg qs)
 |p=>zF6 frz p k
def zCT(frz:Bool):Nat->List ResultVar->PM
 |_,[]=>.ok|j,.tmp t::rs=>.view t fun p=>zG1 frz p fun q=>lay (zAF+j) q (zCT frz (j+1) rs)
 |j,.cell a t::rs=>zJK (shT P t) fun sh=>.view a fun p=>match p with
  |.addr r pre i c _=>zNb r pre i c sh fun v=>zG1 frz v fun q=>lay (zAF+j) q (zCT frz (j+1) rs)
  |_=>.fail
def zWQ(e:Env)(n:Nat):PV :=
 if n=1 then e.get zAF else .tup ((range n).map fun j=>e.get (zAF+j))
def zBf(args hid:List PV):Env :=
 (args.zipIdx.map fun(p,i)=>(i,p))++hid.zipIdx.map fun(p,j)=>(zAk+j,p)
def zLd(x y:Int×Int):Bool:=decide (x.1<y.1)||decide (x.1=y.1)&&decide (x.2<=y.2)
def zXc(p:Int×Int):Bool:=decide (0<=p.1)&&decide (p.1<1000000)&&decide (0<=p.2)&&decide (p.2<1000000)
def zYf:PV->Option (Int×Int)
 |.agg [.int .i64 a,.int .i64 b]=>some (a,b)|_=>none
def zTn(g:Nat)(args hid:List PV):Option (PV×List PV):=match args,hid with
 |[.bor r [] 2 0 n,.func f [] []],[.own 2 xs]=>match xs.mapM zYf with
  |some ps=>if r=zAk/\n=ps.length/\ps.length<=zAO/\f=g/\ps.all zXc=true then some (.tup [],[.own 2 ((ps.mergeSort zLd).map fun p=>.agg [.int .i64 p.1,.int .i64 p.2])]) else none
  |none=>none
 |_,_=>none
def zWt(xs:List PV):Option LI:=xs.mapM fun|.int .i64 n=>some n|_=>none
def intrin(fn:Func)(w:Nat)(args hid:List PV):Option (PV×List PV) :=
 match w,args,hid with
 |1,[.sl xs],[]=>match(fn.resultTypes[0]?).bind (fun t=>(zB1 P t).bind (szT P)) with
  |some sz=>if xs.all (fun x=>x.plain&&x.cells.length=sz)&&xs.length<=zAO then some (.own sz xs,[]) else none
  |none=>none
 |1,[.nils _],[]=>match(fn.resultTypes[0]?).bind (fun t=>(zB1 P t).bind (szT P)) with
  |some sz=>some (.own sz [],[])|none=>none
 |2,[.bor r [] 1 0 n],[.own 1 xs]=>match zWt xs with
  |some is=>if r=zAk/\n=is.length/\is.length<=zAO then some (.tup [],[.own 1 ((is.mergeSort (fun a b=>decide (a<=b))).map (.int .i64))]) else none
  |none=>none
 | 2,[.bor r [(i,0)] 1 0 n],[.own 1 rows]=>match rows[i]? with
  |some (.own 1 xs)=>match zWt xs with
   |some is=>if r=zAk/\n=is.length/\is.length<=zAO then some (.tup [],[.own 1 (rows.set i (.own 1 ((is.mergeSort (fun a b=>decide (a<=b))).map (.int .i64))))]) else none
   |none=>none
  |_=>none
 |3,[.own sz xs,.int _ i,.int _ j],[]=>
  bif decide (0<=i)&&decide (i<=j)&&ble j.toNat xs.length then some (.own sz (xs.take i.toNat++xs.drop j.toNat),[]) else none
 |5,[.int .u64 n],[]=>some (.int .i64 (if n<=0 then 0 else Nat.log2 n.toNat+1),[])
 |w,args,hid=>if 100<=w then zTn (w-100) args hid else none
def zJp(orc:zAK)(yo:zCU)(al:All)(n:Nat)(f:FuncId)(fn:Func)(body:Code)(args hid:List PV):Option (PV×List PV) :=
 bif ble args.length fn.ntmps&&ble hid.length 1000&&args.all (fun p=>!p.isTup) then
  match exec P H orc yo al fn.ntmps (H f) n body (zBf args hid) none with
  |some (.norm,e,none)|some (.ret,e,none)=>
   match(zCT P (H f).frz 0 fn.results.toList).run orc e with
   |some e'=>bif beq fn.results.size 1&&(e'.get zAF).isTup then none else some (zWQ e' fn.results.size,(range hid.length).map fun j=>e'.get (zAk+j))
   |none=>none
  |_=>none
 else none
def zGX(orc:zAK)(yo:zCU)(al:All)(n:Nat)(f:FuncId)(args hid:List PV):Option (PV×List PV) :=
 match P.funcs[f]? with
  |some fn=>if (H f).intr≠0 then intrin P fn (H f).intr args hid else match fn.body with
   |some body=>zJp P H orc yo al n f fn body args hid|none=>none
  |none=>none
def zZe (orc:zAK) (yo:zCU) (al:All) (n:Nat) (f:FuncId) (first:List PV) (i:Nat) (caps:List PV) (k:Int):Option (List (List PV)) :=
 match P.funcs[f]? with
  | some fn=>match fn.body with
   | some body=>bif ble (first++PV.yld i::caps).length fn.ntmps&&fn.results.isEmpty&&(first++caps).all (fun p => !p.isTup)&&k != 0&&beq (H f).intr 0 then
     match exec P H orc yo al fn.ntmps (H f) n body (zBf (first++PV.yld i::caps) []) (some ⟨[],k,i⟩) with
     |some (.norm,_,some l)|some (.ret,_,some l)=>some l.xs|_=>none
    else none
   |none=>none
  |none=>none
def zTm(al:All):Nat->zAK×zCU
 |0=>(fun _ _ _=>none,fun _ _ _ _ _=>none)
 |n+1=>(fun f args hid=>zGX P H (zTm al n).1 (zTm al n).2 al (n+1) f args hid,fun f first i caps k=>zZe P H (zTm al n).1 (zTm al n).2 al (n+1) f first i caps k)
open Classical in
noncomputable def zCb:All:=fun x=>if h:∃ r,∀ i,x i=some r then some (Classical.choose h) else none
class Yo where
 yo:zCU
noncomputable def zCZ[Yo]:Nat->zAK
 |0=>fun _ _ _=>none
 |n+1=>fun f args hid=>zGX P H (zCZ n) Yo.yo zCb (n+1) f args hid
end Go.Eng
namespace Go.Eng
def zDo:List (Nat×LN)->Nat->LN
 |[],_=>[]|(k,l)::r,i=>bif beq k i then l else zDo r i
def zYF:List (Nat×FHint)->Nat->FHint
 |[],_=>{}|(k,h)::r,i=>bif beq k i then h else zYF r i
end Go.Eng
namespace Go.Eng
open Go
def rg(a:Nat):Nat->LN
 |0=>[]|n+1=>a::rg (a+1) n
def hh(d l t:List (Nat×LN)):FHint:={drop:=zDo d,loopDrop:=zDo l,take:=zDo t}
def zCx:zBg:=fun f=>zYF [(14,{drop:=zDo [(0,[8]),(1,[0,41,42,43]),(2,[1,44,45,46]),(3,[2,48,49,50]),(5,[51,52]),(7,[56]),(8,[57,58,59]),(9,rg 61 5),(10,[14,67,68,69]),(11,[71]),(12,[73,74,75,78]),(13,rg 80 4++[86]),(14,rg 88 4++[94]),(15,rg 96 4++[102]),(16,[12]++rg 104 4++[110]),(17,[23,24]++rg 111 6),(19,[16,18,19,20,22]++rg 118 37),(22,[157,158]),(24,[162]),(27,[167,168]),(28,[28]++rg 170 6++[178]),(29,[30,179]),(34,[185,186]),(35,[187,188]),(36,[190,191]),(37,[192]),(40,[197,198]),(41,rg 199 9),(42,[208]),(43,[31,209]),(45,[211]),(46,[212]),(49,[217,218]),(50,rg 219 9),(53,rg 229 9),(57,[243,244]),(58,[40]++rg 245 20),(59,[265]),(60,[38]++rg 266 4),(62,[271]),(63,[272])],loopDrop:=zDo [(6,[14]++rg 55 5++rg 61 9++[71]),(23,[8,26]++rg 28 4++[33,35]++rg 161 52),(26,[8]++rg 28 4++[33,35]++rg 166 46),(33,[33]++rg 184 9),(39,[35]++rg 196 13),(48,[8,37,38,40]++rg 216 56),(56,[40]++rg 242 24)],take:=zDo [(10,[2])],frzs:=zDo [(1,[4])],ices:=zDo [(0,[10,12,13])]}),(17,hh [(0,[0]),(1,[17]),(2,[20,21,24]),(3,rg 25 6),(4,[32,33,36]),(5,[9]++rg 37 6),(6,rg 3 6++[10]++rg 43 31),(8,[76,77,78,81]),(9,rg 82 6),(10,[2,89,90,93]),(11,[95,98]),(12,[4,6,8]++rg 10 5++rg 99 34)] [] []),(22,hh [(0,[0,6,7]),(1,[1,11,12,13,16]),(2,[17]),(3,[9,19]),(4,[2,8]++rg 20 4)] [] [(3,[2])]),(26,hh [(0,[0,6,7]),(1,[1,2,14,15,16,19]),(2,[20]),(3,[9,22]),(7,[27,28]),(8,rg 29 7),(9,rg 37 4),(10,[42]),(11,[10,43])] [(6,[12]++rg 26 15++[42])] [(3,[2])]),(28,hh [(0,[4]),(1,[0,1,5,6,7])] [] []),(29,hh [(0,[0,4,5]),(1,[1,12,13,16]),(2,[17]),(3,[7,19]),(4,[20,21]),(5,[22,23,24]),(6,[25,26]),(7,[28,29,30]),(8,[31]),(9,[32,33]),(11,[34]),(12,[8,35])] [(6,rg 25 10)] []),(31,hh [(0,[0,4,5]),(1,[1,12,13,16]),(2,[17]),(3,[7,19]),(4,[20,21]),(7,[24]),(8,rg 25 4),(9,[10,30,31]),(10,[32,33,34]),(11,[35]),(12,[6]++rg 36 4),(14,[8,41])] [(6,[10]++rg 23 13)] []),(34,hh [(0,[4]),(1,[0,1,5,6,7])] [] []),(38,hh [(0,[0,3,8,9]),(1,[1,18,19,22]),(2,[24,25]),(3,[11,26]),(4,rg 28 10),(6,rg 38 6),(7,[44,45,46]),(8,rg 47 11),(9,[59,60]),(11,rg 62 11),(12,[2,73,74]),(13,[75,76,77]),(14,[78]),(15,[80,81]),(16,rg 82 4),(18,rg 88 9),(19,[16]++rg 98 4),(21,[102])] [(8,[8,9]++rg 47 26),(14,[16]++rg 78 25)] [(3,[2]),(12,[1]),(19,[1]),(22,[1])]),(42,hh [(0,[0,3,8,9]),(1,[1,13,14,15,18]),(2,[20,21]),(3,[11,22]),(4,rg 24 4),(6,[2,10]++rg 28 8)] [] [(3,[2])]),(44,{drop:=zDo [(0,[0,8,9]),(1,[1,2,10,19,20,21,22,24,26,27]),(2,[28]),(3,[13,30]),(4,[31,32]),(6,[36]),(9,[41,42]),(10,[16]++rg 43 6),(11,[49,50,51]),(12,[53]),(13,[54])],loopDrop:=zDo [(5,[14,16,17]++rg 35 17++[53,54]),(8,[16,17]++rg 40 12++[53])],take:=zDo [(3,[2]),(14,[1])],frz:=true}),(48,{drop:=zDo [(1,[1]++rg 17 4),(3,[21,22,23]),(4,[25,26]),(5,[27,28]),(6,rg 30 11),(7,rg 41 14),(8,rg 56 9),(10,[2,65,66]),(12,[70]),(14,rg 71 7),(15,rg 79 5),(16,rg 84 4),(17,[14]++rg 88 4),(18,[12,93,94,95]),(19,[13]++rg 97 9),(20,[106]),(21,[3,107,108]),(24,[112]),(26,[116]),(27,[117]),(28,[16,119,120,121]),(29,[123]),(30,[15]++rg 124 6),(31,[130]),(32,[131])],loopDrop:=zDo [(3,rg 21 20),(11,[12,13,14]++rg 69 23++[93,94,95]++rg 97 10),(22,[15,16]++rg 111 20),(25,[16]++rg 115 7++[123])],take:=zDo [(18,[2]),(28,[2]),(30,[3]),(32,[1])],mode:=[1,0,0,0]}),(49,hh [(0,[2]),(1,[0,3,4])] [] []),(50,{drop:=zDo [(0,[1,6]),(2,[2,8,9]),(4,rg 13 15),(5,[29])],loopDrop:=zDo [(3,rg 12 16++[29])],take:=zDo [(6,[1])],mode:=[1,0,0]}),(52,hh [(0,[4]),(1,[0,1,5,6,7,8])] [] []),(57,hh [(0,[0,8,9]),(1,[1,2,19,20,21,22,26,27]),(2,[28]),(3,[13,30]),(5,[31,32]),(7,[36]),(8,rg 37 7),(9,[15]++rg 46 8++[56]),(10,[17,57]),(12,[16,59,60]),(13,[62])] [(6,[8,9,15,16,17]++rg 35 26++[62])] [(3,[2]),(14,[1])]),(58,hh [(0,[4]),(1,[0,1,5,6,7,8])] [] []),(61,{drop:=zDo [(0,[2]),(1,[3]),(3,[0,5,6])],intr:=1}),(65,{drop:=zDo [(0,[2]),(1,[3]),(3,[0,5,6])],intr:=1}),(73,hh [(0,[0,8,9]),(1,[1,2,26,27,28,29,33,34]),(2,[35]),(3,[13,37]),(5,[39,40]),(7,[44]),(10,[49,50]),(11,[17]++rg 51 5),(14,[61,62]),(17,[67,68]),(18,rg 69 7),(19,[76]),(20,[77]),(21,[78]),(22,[79]),(24,[80,81]),(26,[85]),(27,rg 86 7),(28,[24]++rg 94 7),(29,[102]),(30,[103,104])] [(6,[15,17,18,20,22]++rg 43 37),(9,[17,18,20,22]++rg 48 31),(13,[20,22]++rg 60 18),(16,[22]++rg 66 11),(25,[24]++rg 84 17++[102])] [(3,[2]),(31,[1])]),(76,hh [(0,[0,2]),(1,rg 5 23),(3,[29,30]),(4,[31]),(5,[3,33]),(6,[34,35]),(7,[36]),(8,[4,38]),(9,rg 40 5),(11,rg 46 4)] [] [(5,[1]),(8,[1])]),(77,hh [(0,[0,1,2,6]),(1,rg 7 4)] [] []),(78,hh [(0,[4]),(1,[0,1,5,6,7])] [] []),(81,hh [(0,[1,4]),(1,[0,5,6,7,8])] [] []),(82,hh [(0,[0,4]),(1,[9,10]),(2,[12]),(4,[16]),(5,rg 17 5),(6,[22,23]),(7,[6,25,26,27]),(8,[28]),(9,[29]),(13,[38,39]),(14,rg 40 32),(15,[72]),(16,[73])] [(3,[6]++rg 15 14),(10,[8]++rg 32 42),(12,[8]++rg 37 36)] [(17,[1])]),(83,hh [(0,[1]),(1,rg 3 11),(2,[14,15,16])] [] [(2,[4])]),(86,hh [(0,[0,2,3]),(1,[10,13]),(2,[14]),(3,[5,16]),(7,[22,23,24]),(8,rg 25 12),(9,[7,38,39,40]),(10,[42])] [(6,[7,8]++rg 21 20++[42])] [(3,[2]),(9,[2]),(11,[1])]),(90,{drop:=zDo [(0,[0,6,7]),(1,[1,11,12,15]),(2,[2]++rg 16 6),(4,[23]),(5,[9,25])],take:=zDo [(5,[2]),(6,[1])],frz:=true}),(91,hh [(0,[1,4]),(2,rg 8 4),(4,[15]),(5,rg 16 5),(7,[24]),(8,rg 25 21),(9,[7]++rg 47 5),(10,[53]),(11,[54])] [(3,[6,7]++rg 14 38++[53,54]),(6,[7]++rg 23 29++[53])] [(12,[1])]),(92,hh [(1,[6,7]),(2,[1]),(4,[11,12,13]),(5,[14]),(6,[15])] [(3,rg 10 5)] []),(97,{drop:=zDo [(0,[2]),(1,[6,7]),(4,[10,11,12]),(5,[14,15]),(6,rg 16 9),(9,[29,30,31]),(10,[33,34]),(11,rg 35 9),(12,rg 45 7),(13,[52,53]),(14,[54,55,56]),(15,[3])],loopDrop:=zDo [(4,[2,4,5]++rg 10 50),(9,rg 29 25)],take:=zDo [(2,[1]),(16,[1])],mode:=[2]}),(98,hh [(0,[4]),(1,rg 6 4),(3,[11]),(5,[15]),(6,[5]++rg 16 8),(8,[25])] [(4,[4,5]++rg 14 12)] []),(99,{drop:=zDo [(0,[0,4,5]),(1,[9,12]),(2,[14,15]),(3,[7,16]),(4,[18,19,20]),(6,rg 22 5),(8,[1]++rg 27 4)],take:=zDo [(3,[2]),(8,[4]),(9,[1])],frz:=true}),(100,hh [(4,[13]),(7,[16]),(8,[5]++rg 17 4),(9,[21]),(10,[22]),(12,rg 25 4),(14,[32]),(17,[40,41]),(18,rg 42 4),(19,rg 47 7),(20,[10]++rg 54 13),(21,[67]),(22,[68]),(23,[69])] [(3,[4,5]++rg 12 11),(6,[5]++rg 15 7),(13,[7,9,10]++rg 31 38),(16,[9,10]++rg 39 29)] []),(101,hh [(0,[1]),(1,[10]),(2,rg 11 4),(4,[18]),(5,[19,20]),(7,[7]),(9,[28,29]),(10,[8,9]++rg 30 12),(11,[42]),(12,[43]),(13,[44])] [(3,rg 6 4++rg 17 27),(8,[8,9]++rg 27 16)] []),(105,hh [(0,[4]),(1,rg 6 4),(3,[11]),(5,[15]),(6,[5]++rg 16 8),(8,[25])] [(4,[4,5]++rg 14 12)] []),(106,hh [(0,[0,4]),(1,[1]++rg 5 6)] [] []),(107,hh [(0,[6]),(1,[0,1,2]++rg 7 8)] [] []),(108,hh [(0,[1,4]),(1,[0,5,6,7,8])] [] []),(109,hh [(0,[0,4]),(1,[1]++rg 5 5)] [] []),(110,hh [(0,[0]),(1,rg 3 11)] [] []),(116,hh [(0,[0,1,4])] [] []),(118,hh [(0,[1,4]),(1,[0]++rg 5 16)] [] []),(119,hh [(0,[3,8]),(1,[2]++rg 13 5),(5,[22,23]),(6,rg 24 14),(7,[39,40,41]),(8,[43])] [(4,[12]++rg 21 21++[43])] [(7,[2]),(9,[1])]),(121,{drop:=zDo [(0,[0,2,8,9,11]),(1,[1]++rg 17 7),(2,[25,26]),(3,[13,27,28]),(4,rg 30 5),(5,[35]),(8,[40,41,42]),(9,[14,15]++rg 43 4),(10,[48]),(11,[49]),(12,rg 50 5),(13,[57,58])],loopDrop:=zDo [(7,[8,9,11,14,15]++rg 39 11)],take:=zDo [(3,[5])],frzs:=zDo [(12,[6])],frz:=true}),(122,{drop:=zDo [(0,[4]),(1,[8,9,10]),(2,[11]),(4,[14,15]),(5,[16,17,18]),(6,[20,21]),(7,rg 22 4),(8,[26,27,28]),(9,rg 30 4),(10,[34,35]),(11,[36,37,38]),(12,[5])],loopDrop:=zDo [(5,[7]++rg 16 20)],take:=zDo [(3,[1]),(9,[4])],mode:=[2,0]}),(123,{drop:=zDo [(0,[2]),(1,[3]),(3,[0,5,6])],intr:=1}),(124,hh [(0,[0,3]),(1,[1,4,5,6])] [] []),(127,{drop:=zDo [(0,[6]),(1,[0,1,2]++rg 7 7)],mode:=[1,0,0]}),(128,{drop:=zDo [(0,[4]),(1,[0,1]++rg 5 5)],mode:=[1,0]}),(129,{drop:=zDo [(0,[4]),(1,[0,1]++rg 5 6)],mode:=[1,0]}),(130,{drop:=zDo [(0,[6]),(1,rg 8 6),(2,[14,15]),(4,[18,19]),(5,[1,2]++rg 20 6),(6,[7]++rg 27 5)],mode:=[1,0,0]}),(131,hh [(0,[4]),(1,[6]),(3,[10]),(4,rg 11 5),(5,[5,17]),(6,[18])] [(2,[4,5]++rg 9 10)] [(5,[1])]),(133,{drop:=zDo [(0,[2]),(1,[0,3,4,5]),(2,[0,6,7])],intr:=9}),(134,{drop:=zDo [(0,[1,10,11]),(1,[20]),(5,[25,26]),(6,[15]++rg 27 8),(7,rg 35 12),(8,[47]),(12,[48]),(13,[2,49,50,51]),(14,[53])],loopDrop:=zDo [(4,[15,16]++rg 24 24)],take:=zDo [(7,[4])],ices:=zDo [(0,[13,12])]}),(135,hh [(0,[0,2,6]),(1,[1,7,8,9])] [] []),(136,hh [(0,[4]),(1,[6]),(3,[10]),(4,rg 11 5),(5,[5,17]),(6,[18])] [(2,[4,5]++rg 9 10)] [(5,[1])]),(139,hh [(0,[0,2,3]),(1,[12,13]),(2,[14]),(3,[4,16]),(4,[17,18,19]),(7,[26,27]),(8,rg 28 6),(9,[34]),(12,[40,41,42]),(13,rg 43 6),(14,[49,50]),(15,[8]++rg 52 12),(16,[64]),(17,[65,66]),(19,[70]),(20,[71,72]),(22,[76]),(23,rg 77 12),(24,[11]++rg 90 14),(25,[104]),(26,[105])] [(6,[7]++rg 25 10),(11,[8,9]++rg 39 26),(18,[10,11]++rg 69 37),(21,[11]++rg 75 30)] [(3,[2]),(24,[9]),(27,[1])]),(140,hh [(0,[6]),(1,[0,1,2]++rg 7 10)] [] []),(145,hh [(0,[0,1,4]),(3,[7]),(4,[8,9])] [] []),(146,{drop:=zDo [(0,[5,6]),(1,[0,1,4]++rg 7 7)],mode:=[1,0],intr:=247}),(147,hh [(0,[0,1,4]),(1,rg 5 4),(2,rg 10 5),(3,rg 15 5)] [] []),(150,hh [(0,[0,2]),(1,rg 7 5),(3,rg 13 4),(8,[23,24]),(9,[25,26,27]),(11,[29,30,31]),(12,[32])] [(7,[2,5]++rg 22 11)] []),(151,hh [(0,[0,2]),(3,[12,13,14]),(4,[3]++rg 15 5),(6,[21]),(9,[27,28,29]),(10,[5]++rg 30 10),(12,[41])] [(2,[2,3,4]++rg 11 11),(8,[2,5,6]++rg 26 16)] []),(152,hh [(0,[1,4]),(1,[0,5,6,7,8])] [] []),(153,hh [(0,[3]),(1,[0,1,4,5,6,7])] [] []),(154,hh [(0,[2]),(1,[0]++rg 3 11)] [] []),(155,hh [(0,[2]),(1,[4,5,6]),(2,[7]),(3,[9,10]),(4,rg 11 9)] [(2,[2]++rg 7 14)] []),(156,hh [(0,[4]),(1,[0,1,5,6,7,8])] [] []),(157,hh [(0,[0,4]),(1,[1,2]++rg 5 12)] [] []),(158,hh [(0,[4]),(1,rg 6 4),(3,[11]),(5,[15]),(6,[5]++rg 16 8),(8,[25])] [(4,[4,5]++rg 14 12)] []),(159,hh [(0,[4]),(1,[0,1,5,6,7,8])] [] []),(161,hh [(0,[1,4]),(1,[6]),(3,[10]),(4,rg 11 5),(5,[5,17]),(6,[18])] [(2,[4,5]++rg 9 10)] [(5,[1])]),(164,hh [(0,[1,4]),(1,[0,5,6,7,8])] [] []),(165,hh [(0,[4]),(3,[11,12]),(4,[6,13,14,15]),(5,[16]),(6,[0,17])] [(2,[6]++rg 10 7)] [(6,[1])]),(168,hh [(0,[3]),(1,[0,1,4,5,6,7])] [] []),(169,hh [(0,rg 5 4),(2,[12]),(3,[4]++rg 13 14),(4,[28])] [(1,[4]++rg 11 18)] []),(170,hh [(0,[0,4]),(1,[1]++rg 5 6)] [] []),(171,hh [(0,[1,4]),(1,[6,7,8]),(2,rg 9 13),(3,[0]++rg 22 7),(4,rg 29 6)] [] [(4,[3])]),(173,{drop:=zDo [(0,[0,5]),(1,[1,2,3,6,7,8,9])],frz:=true}),(174,hh [(0,[4]),(1,[6]),(3,[10]),(4,rg 11 5),(5,[5,17]),(6,[18])] [(2,[4,5]++rg 9 10)] [(5,[1])]),(175,{drop:=zDo [(0,[2]),(1,rg 4 9),(2,rg 14 11),(3,rg 25 5),(4,rg 30 5),(5,rg 36 14),(6,[0]++rg 50 7),(7,[3]++rg 57 6)],mode:=[1]}),(182,hh [(0,[4]),(1,[0,1]++rg 5 12)] [] []),(185,{drop:=zDo [(1,[3]),(2,[5,6]),(4,[7]),(5,[9,10]),(6,[11,12]),(7,[0]++rg 13 6)],intr:=9}),(186,{drop:=zDo [(1,[3]),(2,[5,6]),(4,[7]),(5,[9,10]),(6,[11,12]),(7,[13]),(8,[15,16]),(9,[17,18]),(10,[0]++rg 19 6)],intr:=9}),(187,{drop:=zDo [(0,rg 11 7),(1,[19,20]),(2,[0,2,3,22,23]),(5,[28,29]),(6,rg 30 6),(7,rg 37 11),(8,[48])],loopDrop:=zDo [(4,[10]++rg 27 22)],mode:=[0,0,1,1,0,0,1]}),(188,hh [(0,[0,4]),(1,[1,2]++rg 5 5)] [] []),(189,hh [(0,[0,4]),(1,[1,2]++rg 5 9)] [] []),(191,{drop:=zDo [(0,rg 9 4),(1,[14,15]),(2,[1,16]),(3,rg 17 15),(4,[33,34]),(5,[35,36]),(6,rg 38 12),(8,[50])],loopDrop:=zDo [(3,rg 17 34)],take:=zDo [(2,[2])],mode:=[0,0,1,1,1,1]}),(192,hh [(0,[1,4]),(1,[0,5,6,7,8])] [] []),(193,hh [(0,[0,5]),(1,[1,2,3]++rg 6 9)] [] []),(194,{drop:=zDo [(2,[21,22,23]),(3,[24]),(4,[0,1,2,4]++rg 26 5),(5,[31]),(6,[0,1,2,4]++rg 33 5),(7,[38]),(8,rg 40 5),(9,[45,46]),(10,rg 47 8),(11,[55]),(12,rg 57 5),(13,rg 62 6),(15,[14]++rg 68 7),(16,rg 76 4),(17,rg 81 16),(18,[1,13]++rg 98 6),(19,[15,104]),(20,[13]++rg 105 9),(21,[17,114]),(22,rg 115 6),(23,[12,121,122]),(24,[123,124]),(25,[18,20,126,127,128]),(26,[1]++rg 129 6),(27,[16,135,136]),(28,[19,20,137,138,139]),(29,[2]++rg 140 7),(30,[16,147])],loopDrop:=zDo [(2,rg 12 136)],take:=zDo [(19,[1]),(21,[1]),(30,[1])],mode:=[1]}),(195,hh [(0,[1,4]),(1,[0,5,6,7,8])] [] []),(196,hh [(0,[0,3]),(1,[1]++rg 4 10)] [] []),(197,hh [(0,[0,2]),(1,rg 3 5)] [] []),(198,hh [(0,[4]),(1,[0,1,5,6,7,8])] [] []),(199,hh [(0,[0,3]),(1,[1]++rg 4 5)] [] []),(200,hh [(0,[4]),(1,[0,1,5,6,7,8])] [] []),(201,hh [(0,[3]),(1,[0,1,4,5,6,7])] [] []),(202,hh [(0,[4]),(1,[6]),(3,[10]),(4,rg 11 5),(5,[5,17]),(6,[18])] [(2,[4,5]++rg 9 10)] [(5,[1])]),(203,hh [(0,[4]),(1,[6]),(3,[10]),(4,rg 11 5),(5,[5,17]),(6,[18])] [(2,[4,5]++rg 9 10)] [(5,[1])]),(204,hh [(0,[0,3]),(1,[1,4,5,6,7])] [] []),(206,hh [(0,[2]),(1,[0,3,4,5,6])] [] []),(207,hh [(0,[2]),(1,rg 3 9),(2,rg 12 9),(3,rg 21 9),(4,[0,30,31,32])] [] []),(210,hh [(0,[2]),(1,[0,3,4,5])] [] []),(211,hh [(0,[4]),(1,[0,1,5,6,7,8])] [] []),(212,hh [(0,[0,3]),(1,[1,4,5,6,7])] [] []),(213,{drop:=zDo [(0,[10,11]),(1,[12,13]),(2,[15,16]),(3,[17]),(4,rg 18 16),(5,[35,36]),(6,rg 37 16)],loopDrop:=zDo [(1,[9]++rg 12 41),(4,rg 18 35)],mode:=[1,0,0,0]}),(214,hh [(0,[13]),(2,[1,2,14,15,16]),(3,[17,18,19]),(4,[20]),(5,[22,23]),(6,rg 24 6),(7,[10,30,31]),(8,[32]),(9,[34,35]),(10,rg 36 18),(11,rg 54 6)] [(4,rg 20 10),(8,rg 32 28)] []),(215,hh [(0,[2,13,14,15]),(1,[16]),(2,[18,19]),(3,[20,21]),(4,rg 22 6),(5,rg 28 7),(6,[36,37]),(7,rg 38 5),(8,[43,44]),(9,[46,47,48]),(10,[12]++rg 49 18)] [(5,[12]++rg 28 39)] []),(216,hh [(0,[8,9]),(1,[2,15,16,17]),(3,rg 18 5),(4,rg 23 5),(5,[1]++rg 28 5),(6,[33]),(7,[10,35]),(8,rg 37 4),(9,rg 41 4),(10,rg 45 4),(11,[0,3,12,14]++rg 49 6),(13,[13,56]),(14,[58]),(15,[13,59]),(16,[55,61]),(17,[13,62])] [] [(13,[1]),(15,[1]),(17,[1])]),(217,hh [(0,[1,10]),(1,[2,11,12]),(2,[13,14]),(3,rg 16 14),(4,[30,31]),(5,[32,33])] [(2,rg 13 21)] [(0,[1])]),(218,hh [(0,[8]),(1,[13,14]),(3,[15]),(4,[17,18]),(5,rg 19 17),(6,[37,38]),(7,[39,40]),(9,[42,43,44]),(11,rg 46 16),(12,[62,63,64]),(13,[66,67]),(14,[68]),(15,[70,71]),(16,rg 72 12),(17,rg 85 16),(18,[101,102,103]),(19,[105,106]),(20,[107,108]),(21,[110,111]),(22,rg 112 12),(23,rg 125 16)] [(3,[8,11,12]++rg 15 126),(5,rg 19 20),(14,rg 68 33),(20,rg 107 34)] []),(219,hh [(0,[10]),(1,[3]++rg 13 14),(2,[2]++rg 27 4),(3,rg 31 16),(4,[48,49]),(5,rg 50 15),(6,[66,67]),(7,[68,69]),(8,rg 71 14),(9,[85,86]),(10,[87,88]),(11,[11,89])] [(3,rg 31 58),(5,rg 50 18)] [(11,[1])]),(220,hh [(0,[10,11]),(1,[3]++rg 14 14),(2,[2]++rg 28 4),(3,rg 32 15),(4,[48,49]),(5,rg 50 16),(6,[67,68]),(7,[69,70]),(8,[0,1]++rg 72 14),(9,[13,86]),(10,rg 87 14),(11,[101,102]),(12,[103,104]),(13,rg 105 15),(14,[121,122]),(15,rg 123 16),(16,[140,141]),(17,[142,143]),(18,rg 145 14),(19,[159,160]),(20,[161,162]),(21,[0,1]++rg 163 14),(22,[13,177])] [(3,rg 32 18),(5,rg 50 19),(13,rg 105 58),(15,rg 123 19)] [(9,[1]),(22,[1])]),(221,hh [(0,[0,3]),(1,[1,4,5,6,7])] [] []),(222,hh [(0,[4]),(1,[6]),(3,[10]),(4,rg 11 5),(5,[5,17]),(6,[18])] [(2,[4,5]++rg 9 10)] [(5,[1])]),(223,hh [(0,[4]),(1,[6]),(3,[10]),(4,rg 11 5),(5,[5,17]),(6,[18])] [(2,[4,5]++rg 9 10)] [(5,[1])]),(225,hh [(0,[1,12]),(1,[13,14,15]),(2,[16,17]),(3,rg 19 21),(4,[41,42]),(5,rg 43 15),(6,[10]++rg 59 22),(7,[11,81])] [(1,[11]++rg 13 69)] [(0,[1]),(7,[1])]),(226,hh [(0,[8]),(1,rg 0 4++rg 9 9)] [] []),(227,hh [(0,[12]),(1,rg 13 9),(2,[3]++rg 22 9),(3,[0,1,4,5]++rg 31 9),(4,[2,40])] [] [(4,[1])]),(228,hh [(0,[10,11]),(1,[0,4]++rg 12 10),(2,[3]++rg 23 5),(3,[1,2,28,29]),(4,[1,2,30,31])] [] [(3,[2,3]),(4,[2,3])])] f
end Go.Eng
namespace Go.Eng
open Go
abbrev Al:=PV->Value->Prop
def zCm:Al:=fun _ _=>False
def zE2(w:World)(b:Nat)(c:Array Value):Prop:=∃ e,w.heap[b]? = some (.cells c e (0,0))
def zJw(w:World)(b:Nat)(c:Array Value):Prop:=∃ e fz,w.heap[b]? = some (.cells c e fz)
def seg(c:Array Value)(o n:Nat):List Value:=(c.toList.drop o).take n
def zCv:Value->Bool
 |.agg _=>true|_=>false
def flat(us:List Value):List Value:=us.flatMap fun u=>u.cells.toList
mutual
def Rep(w:World)(Φ:Nat->Prop)(A:Al):PV->Value->LN->Prop
 |.bad,_,L=>L=[]|.und,v,L=>v=undef/\L=[]|.int k n,v,L=>v = .int k n/\L=[]|.bool b,v,L=>v = .bool b/\L=[]|.nilp,v,L=>v = .pointer none/\L=[]|.nilf,v,L=>v = .nilFunc/\L=[]|.nilm,v,L=>v = .map none/\L=[]|.nn,v,L=>L=[]/\∃ a n,v = .slice (some a) 0 n|.nils _,v,L=>v = .slice none 0 0/\L=[]|.agg cs,v,L=>∃ vs:Array Value,v = .agg vs/\zA8 w Φ A cs vs.toList L|.tup cs,v,L=>∃ vs:Array Value,v = .tuple vs/\zA8 w Φ A cs vs.toList L
 | .sl xs,v,L=>L=[]/\((xs=[]/\∃ a n,v = .slice a 0 n/\(a=none->n=0))\/∃ a n c us sz,v = .slice (some a) xs.length n/\a.spot=none/\xs.length<=n/\Φ a.block/\zJw w a.block c /\
   (∀ x∈xs,x.cells.length=sz)/\((∀ u∈us,u.cells.size=sz)/\us.map zCv=xs.map PV.isAgg)/\seg c a.off (xs.length*sz)=flat us/\zA8 w Φ zCm xs us [])
 | .own sz xs,v,L=>(xs=[]/\L=[]/\v = .slice none 0 0)\/∃ a n c us L',L=a.block::L'/\v = .slice (some a) xs.length n/\a.spot=none/\xs.length<=n/\zE2 w a.block c/\a.off+n*sz<=c.size /\
   (∀ x∈xs,x.cells.length=sz)/\((∀ u∈us,u.cells.size=sz)/\us.map zCv=xs.map PV.isAgg)/\seg c a.off (xs.length*sz)=flat us/\zA8 w Φ zCm xs us L'
 |.ref q,v,L=>L=[]/\∃ a c u,v = .pointer (some a)/\a.spot=none/\Φ a.block/\zJw w a.block c/\seg c a.off q.cells.length=u.cells.toList/\(u.cells.size=q.cells.length/\zCv u=q.isAgg)/\Rep w Φ A q u []|.box q,v,L=>∃ a c u L',L=a.block::L'/\v = .pointer (some a)/\a.spot=none/\zE2 w a.block c/\seg c a.off q.cells.length=u.cells.toList/\(u.cells.size=q.cells.length/\zCv u=q.isAgg)/\Rep w Φ A q u L'|.map es,v,L=>L=[]/\∃ b ents,v = .map (some b)/\Φ b/\w.heap[b]? = some (.map ents es.length)/\zD5 w Φ es ents.toList 0|.omap es,v,L=>∃ b ents,L=[b]/\v = .map (some b)/\w.heap[b]? = some (.map ents es.length)/\zD5 w Φ es ents.toList 0|.func f first caps,v,L=>L=[]/\∃ fs cs:Array Value,v = .func (.func f) fs cs/\zA8 w Φ A first fs.toList []/\zA8 w Φ A caps cs.toList []
 |.addr r pre i c sh,v,L=>L=[]/\A (.addr r pre i c sh) v|.bor r pre z lo n,v,L=>L=[]/\A (.bor r pre z lo n) v|.bsl r pre i c sz ag n,v,L=>L=[]/\A (.bsl r pre i c sz ag n) v|.bmap r pre,v,L=>L=[]/\A (.bmap r pre) v|.lock q,v,L=>Rep w Φ A q v L|.yld h,v,L=>L=[]/\v = .func (.yield h) #[] #[]|.log xs k,v,L=>L=[]/\A (.log xs k) v
def zA8(w:World)(Φ:Nat->Prop)(A:Al):List PV->List Value->LN->Prop
 |[],vs,L=>vs=[]/\L=[]|p::ps,vs,L=>∃ v vs' L1 L2,vs=v::vs'/\L=L1++L2/\Rep w Φ A p v L1/\zA8 w Φ A ps vs' L2
def zD5(w:World)(Φ:Nat->Prop):List (PV×PV)->List MapEntry->Nat->Prop
 |[],es,_=>es=[]|(k,p)::ps,es,i=>∃ e es',es=e::es'/\e.born=i/\Rep w Φ zCm k e.key []/\Rep w Φ zCm p e.val []/\zD5 w Φ ps es' (i+1)
end
section
variable {w w':World} {Φ Φ':Nat->Prop}
theorem zHZ{f:PV->PV}(hf:∀ p,(f p).isAgg=p.isAgg)(p:PV):(p.mapW f).cells.length=p.cells.length:=by
 have one:∀ p:PV,p.isAgg=false->p.cells.length=1:=by intro p h;cases p<;>simp_all[PV.isAgg,PV.cells]
 have len:∀ ps:List PV,(zCX f ps).length=ps.length:=by
  intro ps;induction ps with
  |nil=>rfl|cons p ps ih=>simp[zCX,ih]
 cases p with
 |agg cs=>simp[PV.mapW,PV.cells,len]|addr r pre i c sh=>rw[PV.mapW,one _ (by rw[hf];rfl),one _ rfl]|bor r pre z lo n=>rw[PV.mapW,one _ (by rw[hf];rfl),one _ rfl]|bsl r pre i c z ag n=>rw[PV.mapW,one _ (by rw[hf];rfl),one _ rfl]|bmap r pre=>rw[PV.mapW,one _ (by rw[hf];rfl),one _ rfl]|log xs k=>rw[PV.mapW,one _ (by rw[hf];rfl),one _ rfl]|_=>rfl
theorem zGr{f:PV->PV}(hf:∀ p,(f p).isAgg=p.isAgg)(p:PV):(p.mapW f).isAgg=p.isAgg:=by
 cases p<;>first|rfl|exact hf _
mutual
theorem Rep.map{A A':Al}{f:PV->PV}(hf:∀ p,(f p).isAgg=p.isAgg)(hΦ:∀ b,Φ b->Φ' b/\w'.heap[b]? = w.heap[b]?)(hA:∀ a v,a.isWay=true->A a v->Rep w' Φ' A' (f a) v []) :
  ∀ (p:PV) (v:Value) (L:LN),(∀ b∈L,w'.heap[b]? = w.heap[b]?)->Rep w Φ A p v L->Rep w' Φ' A' (p.mapW f) v L
 |.bad,_,_,_,h=>by simpa[Rep,PV.mapW] using h|.und,_,_,_,h=>by simpa[Rep,PV.mapW] using h|.int ..,_,_,_,h=>by simpa[Rep,PV.mapW] using h|.bool _,_,_,_,h=>by simpa[Rep,PV.mapW] using h|.nilp,_,_,_,h=>by simpa[Rep,PV.mapW] using h|.nilf,_,_,_,h=>by simpa[Rep,PV.mapW] using h|.nilm,_,_,_,h=>by simpa[Rep,PV.mapW] using h|.nn,_,_,_,h=>by simpa[Rep,PV.mapW] using h|.nils _,_,_,_,h=>by simpa[Rep,PV.mapW] using h|.agg cs,v,L,hw,h=>by
  obtain⟨vs,rfl,h⟩:=h;exact⟨vs,rfl,zA8.map hf hΦ hA cs _ L hw h⟩
 |.tup cs,v,L,hw,h=>by
  obtain⟨vs,rfl,h⟩:=h;exact⟨vs,rfl,zA8.map hf hΦ hA cs _ L hw h⟩
 |.sl xs,v,L,hw,h=>by
  obtain⟨rfl,h|⟨a,n,c,us,sz,h1,h2,h3,h4,⟨e,fz,h5⟩,h6,h7,h8,h9⟩⟩:=h
  ·exact⟨rfl,.inl h⟩
  ·have:=zA8.same (A:=zCm) hΦ xs us [] (by simp) h9;exact⟨rfl,.inr ⟨a,n,c,us,sz,h1,h2,h3,(hΦ _ h4).1,⟨e,fz,(hΦ _ h4).2.trans h5⟩,h6,h7,h8,this⟩⟩
 |.own sz xs,v,L,hw,h=>by
  obtain h|⟨a,n,c,us,L',rfl,h1,h2,h3,⟨e,h5⟩,h6,h7,h8,h9,jZ⟩:=h
  ·exact .inl h
  ·have:=zA8.same (A:=zCm) hΦ xs us L' (fun b hb=>hw b (by simp[hb])) jZ;exact .inr ⟨a,n,c,us,L',rfl,h1,h2,h3,⟨e,(hw _ (by simp)).trans h5⟩,h6,h7,h8,h9,this⟩
 |.ref q,v,L,hw,h=>by
  obtain⟨rfl,a,c,u,h1,h2,h3,⟨e,fz,h4⟩,h5,h6,h7⟩:=h;have hc:(q.mapW f).cells.length=q.cells.length:=zHZ hf q;exact⟨rfl,a,c,u,h1,h2,(hΦ _ h3).1,⟨e,fz,(hΦ _ h3).2.trans h4⟩,by rw[hc];exact h5,by rw[hc,zGr hf];exact h6,Rep.map hf hΦ hA q u [] (by simp) h7⟩
 |.box q,v,L,hw,h=>by
  obtain⟨a,c,u,L',rfl,h1,h2,⟨e,h4⟩,h5,h6,h7⟩:=h;have hc:(q.mapW f).cells.length=q.cells.length:=zHZ hf q;exact⟨a,c,u,L',rfl,h1,h2,⟨e,(hw _ (by simp)).trans h4⟩,by rw[hc];exact h5,by rw[hc,zGr hf];exact h6,Rep.map hf hΦ hA q u L' (fun b hb=>hw b (by simp[hb])) h7⟩
 |.map es,v,L,hw,h=>by
  obtain⟨rfl,b,ents,h1,h2,h3,h4⟩:=h;exact⟨rfl,b,ents,h1,(hΦ _ h2).1,(hΦ _ h2).2.trans h3,zD5.same hΦ es _ _ h4⟩
 |.omap es,v,L,hw,h=>by
  obtain⟨b,ents,rfl,h1,h3,h4⟩:=h;exact⟨b,ents,rfl,h1,(hw _ (by simp)).trans h3,zD5.same hΦ es _ _ h4⟩
 |.func g a b,v,L,hw,h=>by
  obtain⟨rfl,fs,cs,h1,h2,h3⟩:=h;exact⟨rfl,fs,cs,h1,zA8.map hf hΦ hA a _ [] (by simp) h2,zA8.map hf hΦ hA b _ [] (by simp) h3⟩
 |.addr ..,v,L,hw,h=>by obtain⟨rfl,h⟩:=h;exact hA _ _ rfl h
 |.bor ..,v,L,hw,h=>by obtain⟨rfl,h⟩:=h;exact hA _ _ rfl h
 |.bsl ..,v,L,hw,h=>by obtain⟨rfl,h⟩:=h;exact hA _ _ rfl h
 |.bmap ..,v,L,hw,h=>by obtain⟨rfl,h⟩:=h;exact hA _ _ rfl h
 |.lock q,v,L,hw,h=>Rep.map hf hΦ hA q v L hw h|.yld _,v,L,hw,h=>h|.log ..,v,L,hw,h=>by obtain⟨rfl,h⟩:=h;exact hA _ _ rfl h
theorem zA8.map{A A':Al}{f:PV->PV}(hf:∀ p,(f p).isAgg=p.isAgg)(hΦ:∀ b,Φ b->Φ' b/\w'.heap[b]? = w.heap[b]?)(hA:∀ a v,a.isWay=true->A a v->Rep w' Φ' A' (f a) v []) :
  ∀ (ps:List PV) (vs:List Value) (L:LN),(∀ b∈L,w'.heap[b]? = w.heap[b]?)->zA8 w Φ A ps vs L->zA8 w' Φ' A' (zCX f ps) vs L
 |[],_,_,_,h=>h|p::ps,vs,L,hw,h=>by
  obtain⟨v,vs',L1,L2,rfl,rfl,h1,h2⟩:=h;exact⟨v,vs',L1,L2,rfl,rfl,Rep.map hf hΦ hA p v L1 (fun b hb=>hw b (by simp[hb])) h1,zA8.map hf hΦ hA ps vs' L2 (fun b hb=>hw b (by simp[hb])) h2⟩
theorem Rep.same{A:Al}(hΦ:∀ b,Φ b->Φ' b/\w'.heap[b]? = w.heap[b]?) :
  ∀ (p:PV) (v:Value) (L:LN),(∀ b∈L,w'.heap[b]? = w.heap[b]?)->Rep w Φ zCm p v L->Rep w' Φ' A p v L
 |.bad,_,_,_,h=>h|.und,_,_,_,h=>h|.int ..,_,_,_,h=>h|.bool _,_,_,_,h=>h|.nilp,_,_,_,h=>h|.nilf,_,_,_,h=>h|.nilm,_,_,_,h=>h|.nn,_,_,_,h=>h|.nils _,_,_,_,h=>h|.agg cs,v,L,hw,h=>by
  obtain⟨vs,rfl,h⟩:=h;exact⟨vs,rfl,zA8.same hΦ cs _ L hw h⟩
 |.tup cs,v,L,hw,h=>by
  obtain⟨vs,rfl,h⟩:=h;exact⟨vs,rfl,zA8.same hΦ cs _ L hw h⟩
 |.sl xs,v,L,hw,h=>by
  obtain⟨rfl,h|⟨a,n,c,us,sz,h1,h2,h3,h4,⟨e,fz,h5⟩,h6,h7,h8,h9⟩⟩:=h
  ·exact⟨rfl,.inl h⟩
  ·have:=zA8.same (A:=zCm) hΦ xs us [] (by simp) h9;exact⟨rfl,.inr ⟨a,n,c,us,sz,h1,h2,h3,(hΦ _ h4).1,⟨e,fz,(hΦ _ h4).2.trans h5⟩,h6,h7,h8,this⟩⟩
 |.own sz xs,v,L,hw,h=>by
  obtain h|⟨a,n,c,us,L',rfl,h1,h2,h3,⟨e,h5⟩,h6,h7,h8,h9,jZ⟩:=h
  ·exact .inl h
  ·have:=zA8.same (A:=zCm) hΦ xs us L' (fun b hb=>hw b (by simp[hb])) jZ;exact .inr ⟨a,n,c,us,L',rfl,h1,h2,h3,⟨e,(hw _ (by simp)).trans h5⟩,h6,h7,h8,h9,this⟩
 |.ref q,v,L,hw,h=>by
  obtain⟨rfl,a,c,u,h1,h2,h3,⟨e,fz,h4⟩,h5,h6,h7⟩:=h;exact⟨rfl,a,c,u,h1,h2,(hΦ _ h3).1,⟨e,fz,(hΦ _ h3).2.trans h4⟩,h5,h6,Rep.same hΦ q u [] (by simp) h7⟩
 |.box q,v,L,hw,h=>by
  obtain⟨a,c,u,L',rfl,h1,h2,⟨e,h4⟩,h5,h6,h7⟩:=h;exact⟨a,c,u,L',rfl,h1,h2,⟨e,(hw _ (by simp)).trans h4⟩,h5,h6,Rep.same hΦ q u L' (fun b hb=>hw b (by simp[hb])) h7⟩
 |.map es,v,L,hw,h=>by
  obtain⟨rfl,b,ents,h1,h2,h3,h4⟩:=h;exact⟨rfl,b,ents,h1,(hΦ _ h2).1,(hΦ _ h2).2.trans h3,zD5.same hΦ es _ _ h4⟩
 |.omap es,v,L,hw,h=>by
  obtain⟨b,ents,rfl,h1,h3,h4⟩:=h;exact⟨b,ents,rfl,h1,(hw _ (by simp)).trans h3,zD5.same hΦ es _ _ h4⟩
 |.func g a b,v,L,hw,h=>by
  obtain⟨rfl,fs,cs,h1,h2,h3⟩:=h;exact⟨rfl,fs,cs,h1,zA8.same hΦ a _ [] (by simp) h2,zA8.same hΦ b _ [] (by simp) h3⟩
 |.addr ..,v,L,hw,h=>h.2.elim|.bor ..,v,L,hw,h=>h.2.elim|.bsl ..,v,L,hw,h=>h.2.elim|.bmap ..,v,L,hw,h=>h.2.elim|.lock q,v,L,hw,h=>Rep.same hΦ q v L hw h|.yld _,v,L,hw,h=>h|.log ..,v,L,hw,h=>h.2.elim
theorem zA8.same{A:Al}(hΦ:∀ b,Φ b->Φ' b/\w'.heap[b]? = w.heap[b]?) :
  ∀ (ps:List PV) (vs:List Value) (L:LN),(∀ b∈L,w'.heap[b]? = w.heap[b]?)->zA8 w Φ zCm ps vs L->zA8 w' Φ' A ps vs L
 |[],_,_,_,h=>h|p::ps,vs,L,hw,h=>by
  obtain⟨v,vs',L1,L2,rfl,rfl,h1,h2⟩:=h;exact⟨v,vs',L1,L2,rfl,rfl,Rep.same hΦ p v L1 (fun b hb=>hw b (by simp[hb])) h1,zA8.same hΦ ps vs' L2 (fun b hb=>hw b (by simp[hb])) h2⟩
theorem zD5.same(hΦ:∀ b,Φ b->Φ' b/\w'.heap[b]? = w.heap[b]?):∀ (ps:List (PV×PV)) (es:List MapEntry) (i:Nat),zD5 w Φ ps es i->zD5 w' Φ' ps es i
 |[],_,_,h=>h|(k,p)::ps,es,i,h=>by
  obtain⟨e,es',rfl,h0,h1,h2,h3⟩:=h;exact⟨e,es',rfl,h0,Rep.same hΦ k _ [] (by simp) h1,Rep.same hΦ p _ [] (by simp) h2,zD5.same hΦ ps es' (i+1) h3⟩
end
end
mutual
theorem zBl:∀ p:PV,p.mapW (fun x=>x)=p
 |.agg cs=>by rw[PV.mapW,zGg]|.tup cs=>by rw[PV.mapW,zGg]|.func g a b=>by rw[PV.mapW,zGg,zGg]|.ref q=>by rw[PV.mapW,zBl]|.box q=>by rw[PV.mapW,zBl]|.lock q=>by rw[PV.mapW,zBl]|.addr .. => rfl|.bor .. => rfl|.bsl .. => rfl|.bmap .. => rfl|.yld .. => rfl|.log .. => rfl|.bad=>rfl|.und=>rfl|.int .. => rfl|.bool .. => rfl|.nilp=>rfl|.nilf=>rfl|.nilm=>rfl|.nn=>rfl|.nils _=>rfl|.sl _=>rfl|.own .. => rfl|.map _=>rfl|.omap _=>rfl
theorem zGg:∀ ps:List PV,zCX (fun x=>x) ps=ps
 |[]=>rfl|p::ps=>by rw[zCX,zBl,zGg]
end
def zDq(w w':World)(Φ Φ':Nat->Prop):Prop:=∀ b,Φ b->Φ' b/\w'.heap[b]? = w.heap[b]?
theorem zC4{w:World}{Φ:Nat->Prop}{A:Al}{a:PV}{v:Value}(hw:a.isWay=true)(h:A a v):Rep w Φ A a v []:=by
 cases a<;>first|exact⟨rfl,h⟩|exact absurd hw (by simp[PV.isWay])
section
variable {w w':World} {Φ Φ':Nat->Prop} {A A':Al}
theorem Rep.mono(hΦ:zDq w w' Φ Φ')(hA:∀ a v,a.isWay=true->A a v->A' a v){p:PV}{v:Value}{L:LN}(hw:∀ b∈L,w'.heap[b]? = w.heap[b]?)(h:Rep w Φ A p v L):Rep w' Φ' A' p v L:=by
 have:=Rep.map (f:=fun x=>x) (fun _=>rfl) hΦ (fun a v hw h=>zC4 hw (hA a v hw h)) p v L hw h;rwa[zBl] at this
theorem zA8.mono(hΦ:zDq w w' Φ Φ')(hA:∀ a v,a.isWay=true->A a v->A' a v){p:List PV}{v:List Value}{L:LN}(hw:∀ b∈L,w'.heap[b]? = w.heap[b]?)(h:zA8 w Φ A p v L):zA8 w' Φ' A' p v L:=by
 have:=zA8.map (f:=fun x=>x) (fun _=>rfl) hΦ (fun a v hw h=>zC4 hw (hA a v hw h)) p v L hw h;rwa[zGg] at this
theorem zDq.refl:zDq w w Φ Φ:=fun _ h=>⟨h,rfl⟩
theorem zA8.split:∀ {ps:List PV} {vs:List Value} {L:LN},zA8 w Φ A ps vs L->∀ {i:Nat} {p:PV},ps[i]? = some p ->
  ∃ v La Li Lb,vs[i]? = some v/\L=La++Li++Lb/\Rep w Φ A p v Li /\
   (∀ w' Φ' (A':Al) p' Li',(∀ a v,a.isWay=true->A a v->A' a v)->zDq w w' Φ Φ'->(∀ b∈La++Lb,w'.heap[b]? = w.heap[b]?)->Rep w' Φ' A' p' v Li'->zA8 w' Φ' A' (ps.set i p') vs (La++Li'++Lb)) /\
   ∀ j p2,j≠i->ps[j]? = some p2->∃ v2 L2,vs[j]? = some v2/\Rep w Φ A p2 v2 L2/\∀ b∈L2,b∈La++Lb
 |[],_,_,_,_,_,hp=>by simp at hp
 | q :: ps,vs,L,h,0,p,hp=>by
  obtain⟨v,vs',L1,L2,rfl,rfl,h1,h2⟩:=h;simp at hp;subst hp;refine⟨v,[],L1,L2,rfl,by simp,h1,?_,?_⟩
  ·intro w' Φ' A' p' Li' hA hs hb hr;exact⟨v,vs',Li',L2,rfl,by simp,hr,h2.mono hs hA (by simpa using hb)⟩
  ·intro j p2 hj kY
   cases j with
   |zero=>exact absurd rfl hj|succ j=>
    obtain⟨v2,La,Li,Lb,kZ,rfl,uF,_⟩:=h2.split (i:=j) (p:=p2) (by simpa using kY);exact⟨v2,Li,by simpa using kZ,uF,fun b hb=>by simp[hb]⟩
 | q :: ps,vs,L,h,i+1,p,hp=>by
  obtain⟨v,vs',L1,L2,rfl,rfl,h1,h2⟩:=h;obtain⟨u,La,Li,Lb,hu,rfl,hr,hk,ho⟩:=h2.split (i:=i) (by simpa using hp);refine⟨u,L1++La,Li,Lb,by simpa using hu,by simp,hr,?_,?_⟩
  rotate_left
  ·intro j p2 hj kY
   cases j with
   |zero=>simp at kY;subst kY;exact⟨v,L1,rfl,h1,fun b hb=>by simp[hb]⟩
   |succ j=>
    obtain⟨v2,L2,jd,jm,wk⟩:=ho j p2 (by omega) (by simpa using kY);exact⟨v2,L2,by simpa using jd,jm,fun b hb=>by have:=wk b hb;simp at this ⊢;rcases this with h|h<;>simp[h]⟩
  intro w' Φ' A' p' Li' hA hs hb je;exact⟨v,vs',L1,La++Li'++Lb,rfl,by simp,h1.mono hs hA (fun b h=>hb b (by simp[h])),hk w' Φ' A' p' Li' hA hs (fun b h=>hb b (by rcases bj.1 h with h|h<;>simp[h])) je⟩
theorem zA8.length:∀ {ps:List PV} {vs:List Value} {L:LN},zA8 w Φ A ps vs L->vs.length=ps.length
 |[],_,_,h=>by simp[h.1]|_::_,_,_,h=>by
  obtain⟨v,vs',L1,L2,rfl,rfl,h1,h2⟩:=h;simp[h2.length]
end
def zAv(a:Addr)(k:Nat):Addr:=⟨a.block,a.off+k,none⟩
def kid(w:World):Value->PV->Nat->Nat->Option Value
 |.slice (some a) _ _,.own sz _,i,c=>w.cell? (zAv a (i*sz+c))|.pointer (some a),.box _,_,c=>w.cell? (zAv a c)|.agg vs,.agg _,_,c=>vs[c]?|_,_,_,_=>none
def zA1 (w:World):Value->PV->zA4->Option (Value×PV)
 |v,p,[]=>some (v,p)
 | v, p, (i,c)::rest =>
  match zA9 p with
  | some xs=>match xs[i]? with
   | some x=>match x.cells[c]? with
    |some q=>match kid w v p i c with
     |some u=>zA1 w u q rest|none=>none
    |none=>none
   |none=>none
  |none=>none
def zBd:Value->PV->Nat->Nat->Option Addr
 |.slice (some a) _ _,.own sz _,i,c=>some (zAv a (i*sz+c))|.pointer (some a),.box _,0,c=>some (zAv a c)|_,_,_,_=>none
def zBX(v nv:Value)(sz lo n:Nat):Prop :=
 match nv with
 |.slice none _ _=>v = .slice none 0 0/\n=0|.slice (some a) _ cap=>v = .slice (some (zAv a (lo*sz))) n (cap-lo)/\lo+n<=cap|_=>False
def zBa(w:World)(rv:Nat->Value)(E:Nat->PV):Al
 |.addr r pre i c _,v=>r<zAa/\∃ a,v = .pointer (some a)/\a.spot=none/\∀ nv np,zA1 w (rv r) (E r).unlock pre=some (nv,np)->∀ a',zBd nv np i c=some a'->a=a'
 | .bor r pre z lo n,v=>r<zAa/\(∃ a cap,v = .slice a n cap/\n<=cap/\(a=none->cap=0)/\∀ b,a=some b->b.spot=none) /\
   ∀ nv np,zA1 w (rv r) (E r).unlock pre=some (nv,np)->np.heavy0=true->∃ sz xs,np = .own sz xs/\z=sz/\zBX v nv sz lo n
 | .bsl r pre i c _ _ n,v=>r<zAa/\∃ a cap,v = .slice (some a) n cap/\n<=cap/\a.spot=none /\
   ∀ nv np,zA1 w (rv r) (E r).unlock pre=some (nv,np)->∀ a',zBd nv np i c=some a'->a=a'
 |.bmap r pre,v=>r<zAa/\(∃ b,v = .map (some b))/\∀ nv np,zA1 w (rv r) (E r).unlock pre=some (nv,np)->∀ es,np = .omap es->v=nv|_,_=>False
def child(p:PV)(i c:Nat):Option PV:=(zA9 p).bind fun xs=>(xs[i]?).bind fun x=>x.cells[c]?
theorem zCg(p:PV)(i c:Nat)(rest:zA4):zAH p ((i,c)::rest)=(child p i c).bind (zAH · rest):=by
 simp only[zAH,child];split
 ·rename_i xs h;rw[h];simp only[bc];split
  ·rename_i x h;rw[h];simp only[bc];split
   ·rename_i q h;rw[h];rfl
   ·rename_i h;rw[h];rfl
  ·rename_i h;rw[h];rfl
 ·rename_i h;rw[h];rfl
theorem zBb(w:World)(v:Value)(p:PV)(i c:Nat)(rest:zA4):zA1 w v p ((i,c)::rest)=(child p i c).bind fun q=>(kid w v p i c).bind fun u=>zA1 w u q rest:=by
 simp only[zA1,child];split
 ·rename_i xs h;rw[h];simp only[bc];split
  ·rename_i x h;rw[h];simp only[bc];split
   ·rename_i q h;rw[h];simp only[bc];split
    ·rename_i h;rw[h];rfl
    ·rename_i h;rw[h];rfl
   ·rename_i h;rw[h];rfl
  ·rename_i h;rw[h];rfl
 ·rename_i h;rw[h];rfl
def zB6(p:PV)(i c:Nat)(q':PV):Option PV:=(zA9 p).bind fun xs=>(xs[i]?).bind fun x=>zAJ p (xs.set i (zAG x c [q']))
theorem zBu(f:PV->Option PV)(p:PV)(i c:Nat)(rest:zA4):zAz f p ((i,c)::rest)=(child p i c).bind fun q=>(zAz f q rest).bind fun q'=>zB6 p i c q':=by
 simp only[zAz,child,zB6];split
 ·rename_i xs h;rw[h];simp only[bc];split
  ·rename_i x h;rw[h];simp only[bc];split
   ·rename_i q h;rw[h];simp only[bc];split
    ·rename_i h;rw[h];rfl
    ·rename_i h;rw[h];rfl
   ·rename_i h;rw[h];rfl
  ·rename_i h;rw[h];rfl
 ·rename_i h;rw[h];rfl
section
variable {w w':World} {Φ Φ':Nat->Prop} {A:Al}
theorem Rep.cell{p:PV}{v:Value}{L:LN}(h:Rep w Φ A p v L){c:Nat}{q:PV}(hq:p.cells[c]? = some q)(hn:zCv v=p.isAgg) :
  ∃ u La Li Lb,v.cells.toList[c]? = some u/\L=La++Li++Lb/\Rep w Φ A q u Li /\
   (∀ w' Φ' (A':Al) q' Li',(∀ a v,a.isWay=true->A a v->A' a v)->zDq w w' Φ Φ'->(∀ b∈La++Lb,w'.heap[b]? = w.heap[b]?)->q'.isAgg=q.isAgg->Rep w' Φ' A' q' u Li'->Rep w' Φ' A' (zAG p c [q']) v (La++Li'++Lb)/\(zAG p c [q']).cells.length=p.cells.length/\(zAG p c [q']).isAgg=p.isAgg) /\
   ∀ c2 q2,c2≠c->p.cells[c2]? = some q2->∃ u2 L2,v.cells.toList[c2]? = some u2/\Rep w Φ A q2 u2 L2/\∀ b∈L2,b∈La++Lb:=by
 cases hp:p.isAgg with
 | true =>
  cases p<;>simp[PV.isAgg] at hp;rename_i cs;obtain⟨vs,rfl,h⟩:=h;obtain⟨u,La,Li,Lb,hu,rfl,hr,hk,ho⟩:=h.split hq;have hc:c<cs.length:=(bg.1 hq).1;refine⟨u,La,Li,Lb,hu,rfl,hr,fun w' Φ' A' q' Li' hA hs hb _ je=>?_,fun c2 q2 hI h2=>ho c2 q2 hI h2⟩;have he:cs.take c++[q']++cs.drop (c+1)=cs.set c q':=by
   rw[cm,if_pos hc];simp
  refine⟨⟨vs,rfl,?_⟩,?_,rfl⟩
  ·show zA8 w' Φ' A' (cs.take c++[q']++cs.drop (c+1)) _ _
   rw[he];exact hk w' Φ' A' q' Li' hA hs hb je
  ·show(cs.take c++[q']++cs.drop (c+1)).length=cs.length
   rw[he];simp
 | false =>
  have jO:p.cells=[p]:=by cases p<;>first|rfl|simp[PV.isAgg] at hp
  have hv:v.cells=#[v]:=by rw[hp] at hn;cases v<;>first|rfl|simp[zCv] at hn
  rw[jO] at hq;have hc:c=0:=by
   have:=(bg.1 hq).1;simp at this;exact this
  subst hc;simp at hq;subst hq;refine⟨v,[],L,[],by simp[hv],by simp,h,fun w' Φ' A' q' Li' hA hs hb jn je=>?_,fun c2 q2 hI h2=>?_⟩
  rotate_left
  ·rw[jO] at h2;have:=(bg.1 h2).1;simp at this;omega
  replace jn:q'.isAgg=false:=jn.trans hp;have he:zAG p 0 [q']=q':=by cases p<;>first|rfl|simp[PV.isAgg] at hp
  rw[he];refine⟨by simpa using je,?_,jn⟩;rw[jO];cases q'<;>first|rfl|simp[PV.isAgg] at jn
end
theorem zEB{α β:Type}{f:α->β}:∀ {xs:List α} {i:Nat} {x y:α},xs[i]? = some x->f y=f x->(xs.set i y).map f=xs.map f
 |[],_,_,_,h,_=>by simp at h|z::xs,0,x,y,h,e=>by simp at h;subst h;simp[e]|z::xs,i+1,x,y,h,e=>by
  have:=zEB (xs:=xs) (i:=i) (by simpa using h) e;simpa using this
theorem zEc{sz:Nat}:∀ {us:List Value},(∀ u∈us,u.cells.size=sz)->∀ {i c:Nat} {x u:Value},us[i]? = some x->x.cells.toList[c]? = some u->(flat us)[i*sz+c]? = some u
 |[],_,_,_,_,_,h,_=>by simp at h|y::us,hs,0,c,x,u,h,hc=>by
  simp at h;subst h;have:c<y.cells.toList.length:=(bg.1 hc).1;simp only[flat,dU,fg,dq];rw[cx this];exact hc
 |y::us,hs,i+1,c,x,u,h,hc=>by
  have ih:=zEc (us:=us) (fun u hu=>hs u (by simp[hu])) (i:=i) (by simpa using h) hc;have hy:y.cells.toList.length=sz:=by simpa using hs y (by simp)
  simp only[flat,dU];rw[de (by rw[hy,cZ];omega),hy];rw[show(i+1)*sz+c-sz=i*sz+c by rw[cZ];omega];exact ih
theorem zDj{c:Array Value}{o n k:Nat}{u:Value}(h:(seg c o n)[k]? = some u):c[o+k]? = some u:=by
 simp only[seg,cu,ck] at h;split at h
 ·simpa using h
 ·cases h
theorem zC2{w:World}{b:Nat}{c:Array Value}(h:zJw w b c)(k:Nat):w.cell? ⟨b,k,none⟩=c[k]?:=by
 obtain⟨e,fz,h⟩:=h;simp[World.cell?,h]
theorem zE2.any{w:World}{b:Nat}{c:Array Value}(h:zE2 w b c):zJw w b c:=by
 obtain⟨e,h⟩:=h;exact⟨e,_,h⟩
def zGS(A:Al):PV->Al
 |.own .. => zCm|_=>A
theorem zLu{A A':Al}{p:PV}(hA:∀ a v,a.isWay=true->A a v->A' a v):∀ a v,a.isWay=true->zGS A p a v->zGS A' p a v:=by
 intro a v hw h;cases p<;>first|exact hA a v hw h|exact h.elim
section
variable {w w':World} {Φ Φ':Nat->Prop} {A:Al}
theorem Rep.child {p:PV} {v:Value} {L:LN} (h:Rep w Φ A p v L) {i c:Nat} {q:PV} (hq:child p i c=some q) :
  ∃ u La Li Lb,kid w v p i c=some u/\L=La++Li++Lb/\Rep w Φ (zGS A p) q u Li /\
   (∀ w' Φ' (A':Al) q' Li' p',(∀ a v,a.isWay=true->A a v->A' a v)->zDq w w' Φ Φ'->(∀ b∈La++Lb,w'.heap[b]? = w.heap[b]?)->q'.isAgg=q.isAgg->Rep w' Φ' (zGS A' p) q' u Li'->zB6 p i c q'=some p'->Rep w' Φ' A' p' v (La++Li'++Lb)) /\
   (∀ w',(∀ b∈La++Lb,w'.heap[b]? = w.heap[b]?)->∀ q' p',zB6 p i c q'=some p'->∀ i2 c2,kid w' v p' i2 c2=kid w v p i2 c2) /\
   ∀ i2 c2 q2,(i2,c2)≠(i,c)->Eng.child p i2 c2=some q2->∃ u2 L2,kid w v p i2 c2=some u2/\Rep w Φ (zGS A p) q2 u2 L2/\∀ b∈L2,b∈La++Lb:=by
 cases p<;>simp only[Eng.child,zA9,dJ,bc] at hq<;>try cases hq
 case agg cs=>
  obtain⟨vs,rfl,h⟩:=h;have hi:i=0:=by
   cases i with
   |zero=>rfl|succ i=>simp at hq
  subst hi;simp[PV.cells] at hq;obtain⟨u,La,Li,Lb,hu,rfl,hr,hk,ho⟩:=h.split (i:=c) (p:=q) (by simpa using hq);refine⟨u,La,Li,Lb,by simpa[kid] using hu,rfl,hr,fun w' Φ' A' q' Li' p' hA hs hb _ je hp=>?_,?_,?_⟩
  rotate_left
  ·intro w' hb q' p' hp i2 c2;simp only[zB6,zA9,zAJ,zAG,bc,bJ,cK] at hp;cases hp;rfl
  ·intro i2 c2 q2 hI h2;have uZ:i2=0:=by
    cases i2 with
    |zero=>rfl|succ i=>simp[Eng.child,zA9] at h2
   subst uZ;simp[Eng.child,zA9,PV.cells] at h2;obtain⟨u2,L2,h3,h4,h5⟩:=ho c2 q2 (fun e=>hI (by rw[e])) h2;exact⟨u2,L2,by simpa[kid] using h3,h4,h5⟩
  have hc:c<cs.length:=(bg.1 hq).1;have he:cs.take c++[q']++cs.drop (c+1)=cs.set c q':=by
   rw[cm,if_pos hc];simp
  simp only[zB6,zA9,zAJ,zAG,bc,bJ,cK,bT,he] at hp;cases hp;exact⟨vs,rfl,hk w' Φ' A' q' Li' hA hs hb je⟩
 case box q0=>
  obtain⟨a,r,u0,L',rfl,h1,h2,h4,h5,⟨h6,uv⟩,h7⟩:=h;have hi:i=0:=by
   cases i with
   |zero=>rfl|succ i=>simp at hq
  subst hi;simp at hq;obtain⟨u,La,Li,Lb,hu,rfl,hr,hk,ho⟩:=h7.cell hq uv;have kD:∀ c2 u2,u0.cells.toList[c2]? = some u2->kid w v (.box q0) 0 c2=some u2:=by
   intro c2 u2 h;subst h1;have:=zDj (c:=r) (o:=a.off) (n:=q0.cells.length) (k:=c2) (u:=u2) (by rw[h5];exact h);simp only[kid,zAv];rw[zC2 h4.any];exact this
  refine⟨u,a.block::La,Li,Lb,?_,by simp,hr,fun w' Φ' A' q' Li' p' hA hs hb jn je hp=>?_,?_,?_⟩
  rotate_left 2
  ·intro w' hb q' p' hp i2 c2;simp only[zB6,zA9,zAJ,bc,bJ,cK] at hp;cases hp;subst h1;simp only[kid,World.cell?,zAv];rw[hb a.block (by simp)]
  ·intro i2 c2 q2 hI h2;have uZ:i2=0:=by
    cases i2 with
    |zero=>rfl|succ i=>simp[Eng.child,zA9] at h2
   subst uZ;simp[Eng.child,zA9] at h2;obtain⟨u2,L2,h3,gZ,h5'⟩:=ho c2 q2 (fun e=>hI (by rw[e])) h2;exact⟨u2,L2,kD c2 u2 h3,gZ,fun b hb=>by have:=h5' b hb;simp at this ⊢;rcases this with h|h<;>simp[h]⟩
  ·subst h1;have:c<q0.cells.length:=(bg.1 hq).1;have:=zDj (c:=r) (o:=a.off) (n:=q0.cells.length) (k:=c) (u:=u) (by rw[h5];exact hu);simp only[kid,zAv];rw[zC2 h4.any];exact this
  ·obtain⟨hx,hl,hg⟩:=hk w' Φ' A' q' Li' hA hs (fun b h=>hb b (by simp at h ⊢;rcases h with h|h<;>simp[h])) jn je;simp only[zB6,zA9,zAJ,bc,bJ,cK] at hp;cases hp;obtain⟨e,h4⟩:=h4;refine⟨a,r,u0,La++Li'++Lb,by simp,h1,h2,⟨e,?_⟩,by rw[hl];exact h5,⟨by rw[hl];exact h6,by rw[hg];exact uv⟩,hx⟩;rw[hb a.block (by simp)];exact h4
 case own sz xs =>
  obtain⟨h1,h2,h3⟩|⟨a,n,r,us,L',rfl,h1,h2,h3,h4,h5,h6,⟨h7,u3⟩,h8,h9⟩:=h
  ·subst h1;simp at hq
  ·cases hx:xs[i]? with
   |none=>rw[hx] at hq;simp at hq
   | some x =>
    rw[hx] at hq;simp at hq;obtain⟨ux,La,Li,Lb,hu,rfl,hr,hk,ho⟩:=h9.split hx;have hg:zCv ux=x.isAgg:=by
     have h1:(us.map zCv)[i]? = some (zCv ux):=by simp[hu]
     have h2:(xs.map PV.isAgg)[i]? = some x.isAgg:=by simp[hx]
     rw[u3] at h1;rw[h1] at h2;simpa using h2
    obtain⟨u,La',Li',Lb',hu',rfl,je,wm,ho'⟩:=hr.cell hq hg;have kD:∀ i2 c2 x2 u2,us[i2]? = some x2->x2.cells.toList[c2]? = some u2->kid w v (.own sz xs) i2 c2=some u2:=by
     intro i2 c2 x2 u2 j4 qF;subst h1;have hf:=zEc h7 j4 qF;rw[<- h8] at hf;have:=zDj hf;simp only[kid,zAv];rw[zC2 h4.any];exact this
    refine⟨u,a.block::(La++La'),Li',Lb'++Lb,?_,by simp,je,fun w' Φ' A' q' Lj p' hA hs hb jn hrq hp=>?_,?_,?_⟩
    rotate_left 2
    ·intro w' hb q' p' hp i2 c2;simp only[zB6,zA9,zAJ,bc,hx] at hp;cases hp;subst h1;simp only[kid,World.cell?,zAv];rw[hb a.block (by simp)]
    ·intro i2 c2 q2 hI h2;simp only[Eng.child,zA9,bc] at h2
     cases j4:xs[i2]? with
     |none=>rw[j4] at h2;cases h2
     | some x2 =>
      rw[j4] at h2;simp only[bc] at h2;by_cases kz:i2=i
      ·subst kz;rw[hx] at j4;cases j4;obtain⟨u2,L2,h3,gZ,h5'⟩:=ho' c2 q2 (fun e=>hI (by rw[e])) h2;exact⟨u2,L2,kD _ _ _ _ hu h3,gZ,fun b hb=>by have:=h5' b hb;simp at this ⊢;rcases this with h|h<;>simp[h]⟩
      ·obtain⟨ux2,L2,h3,gZ,h5'⟩:=ho i2 x2 kz j4;have vn:zCv ux2=x2.isAgg:=by
        have h1:(us.map zCv)[i2]? = some (zCv ux2):=by simp[h3]
        have h2:(xs.map PV.isAgg)[i2]? = some x2.isAgg:=by simp[j4]
        rw[u3] at h1;rw[h1] at h2;simpa using h2
       obtain⟨u2,Ma,Mi,Mb,uv,rfl,h7'',_⟩:=gZ.cell h2 vn;exact⟨u2,Mi,kD _ _ _ _ h3 uv,h7'',fun b hb=>by have:=h5' b (by simp[hb]);simp at this ⊢;rcases this with h|h<;>simp[h]⟩
    ·subst h1;have hf:=zEc h7 hu hu';rw[<- h8] at hf;have:=zDj hf;simp only[kid,zAv];rw[zC2 h4.any];exact this
    ·obtain⟨u9,hl,hg'⟩:=wm w' Φ' zCm q' Lj (fun _ _ _ h=>h) hs (fun b h=>hb b (by simp at h ⊢;rcases h with h|h<;>simp[h])) jn hrq;have hk:=hk w' Φ' zCm _ _ (fun _ _ _ h=>h) hs (fun b h=>hb b (by simp at h ⊢;rcases h with h|h<;>simp[h])) u9;simp only[zB6,zA9,zAJ,bc,hx] at hp;cases hp;obtain⟨e,h4⟩:=h4;refine .inr ⟨a,n,r,us,La++(La'++Lj++Lb')++Lb,by simp,by simpa using h1,h2,by simpa using h3,⟨e,?_⟩,h5,?_,⟨h7,?_⟩,by simpa using h8,hk⟩
     ·rw[hb a.block (by simp)];exact h4
     ·intro y hy;rcases dD hy with hy|hy
      ·exact h6 y hy
      ·rw[hy,hl];exact h6 x (bH hx)
     ·rw[u3,zEB hx hg']
end
def zIG:Al->PV->zA4->Al
 |A,_,[]=>A|A,p,(i,c)::rest=>match child p i c with
  |some q=>zIG (zGS A p) q rest|none=>zCm
theorem zEg{p:PV}{i c:Nat}{q' p':PV}(h:zB6 p i c q'=some p'):p'.isAgg=p.isAgg:=by
 simp only[zB6] at h;cases p<;>simp only[zA9,dJ,bc] at h<;>try cases h
 case own sz xs=>
  cases hx:xs[i]?<;>rw[hx] at h<;>simp[zAJ] at h;subst h;rfl
 case box q=>
  cases i with
  |zero=>simp[zAJ] at h;subst h;rfl|succ i=>simp at h
 case agg cs=>
  cases i with
  |zero=>simp[zAJ,zAG] at h;subst h;rfl|succ i=>simp at h
def zCr:PV->PV->Prop
 |.own sz _,.own sz' _=>sz=sz'|.box _,.box _=>True|.omap _,.omap _=>True|_,_=>False
theorem zCr.refl{p:PV}(h:p.heavy0=true):zCr p p:=by
 cases p<;>simp_all[PV.heavy0,zCr]
theorem zNT{x q q':PV}{c:Nat}(hq:x.cells[c]? = some q)(hg:q'.isAgg=q.isAgg):(zAG x c [q']).cells=x.cells.set c q':=by
 cases hx:x.isAgg with
 |true=>
  cases x<;>simp[PV.isAgg] at hx;rename_i cs;have hc:c<cs.length:=(bg.1 hq).1;show cs.take c++[q']++cs.drop (c+1)=cs.set c q'
  rw[cm,if_pos hc];simp
 |false=>
  have jO:x.cells=[x]:=by cases x<;>first|rfl|simp[PV.isAgg] at hx
  rw[jO] at hq ⊢;have hc:c=0:=by have:=(bg.1 hq).1;simp at this;exact this
  subst hc;simp at hq;subst hq;have he:zAG x 0 [q']=q':=by cases x<;>first|rfl|simp[PV.isAgg] at hx
  rw[he];rw[hx] at hg;cases q'<;>first|rfl|simp[PV.isAgg] at hg
theorem zSr{p q q' p':PV}{i c:Nat}(hc:Eng.child p i c=some q)(hg:q'.isAgg=q.isAgg)(hp:zB6 p i c q'=some p') :
  Eng.child p' i c=some q'/\∀ i2 c2,(i2,c2)≠(i,c)->Eng.child p' i2 c2=Eng.child p i2 c2:=by
 simp only[Eng.child] at hc;simp only[zB6] at hp
 cases hh:zA9 p with
 |none=>rw[hh] at hc;cases hc
 | some xs =>
  rw[hh] at hc hp;simp only[bc] at hc hp
  cases hx:xs[i]? with
  |none=>rw[hx] at hc;cases hc
  | some x =>
   rw[hx] at hc hp;simp only[bc] at hc hp;have yt:=zNT hc hg;have hi:i<xs.length:=(bg.1 hx).1;have yN:c<x.cells.length:=(bg.1 hc).1;have qG:zA9 p'=some (xs.set i (zAG x c [q'])):=by
    cases p<;>simp only[zA9] at hh<;>try cases hh
    case agg cs=>
     have j8:i=0:=by simpa using hi
     subst j8;simp only[bJ,ba] at hx;subst hx;simp only[zAG,cK,zAJ,ba] at hp ⊢;subst hp;rfl
    case own sz=>
     simp only[zAJ,ba] at hp;subst hp;rfl
    case box q0=>
     have j8:i=0:=by simpa using hi
     subst j8;simp only[cK,zAJ,ba] at hp ⊢;subst hp;rfl
   refine⟨?_,fun i2 c2 hI=>?_⟩
   ·simp only[Eng.child,qG,bc,cn hi,yt,cn yN]
   ·simp only[Eng.child,qG,hh,bc];by_cases kz:i2=i
    ·subst kz;rw[cn hi,hx];simp only[bc,yt];rw[dc (by intro e;exact hI (by rw[e]))]
    ·rw[dc (by omega)]
section
variable {w w':World} {Φ Φ':Nat->Prop}
theorem zFa{A:Al}:∀ {pre:zA4} {p:PV} {v:Value} {L:LN},Rep w Φ A p v L->(∀ b∈L,w'.heap[b]? = w.heap[b]?)->zA1 w' v p pre=zA1 w v p pre
 |[],_,_,_,_,_=>rfl
 | (i, c)::rest,p,v,L,h,hb=>by
  rw[zBb,zBb]
  cases hc:Eng.child p i c with
  |none=>rfl
  | some q =>
   simp only[bc];obtain⟨u,La,Li,Lb,hk,rfl,hr,_⟩:=h.child hc;have wm:kid w' v p i c=kid w v p i c:=by
    cases p<;>first|(simp[Eng.child,zA9] at hc;done)|skip
    ·obtain⟨vs,rfl,_⟩:=h;rfl
    ·obtain⟨h1,h2,h3⟩|⟨a,n,r,us,L',h0,h1,h2,_⟩:=h
     ·subst h1;simp[Eng.child,zA9] at hc
     ·subst h1;simp only[kid];exact World.cell?_of_block (w:=w) (hb _ (by rw[h0];simp[zAv]))
    ·obtain⟨a,r,u0,L',h0,h1,_⟩:=h;subst h1;simp only[kid];exact World.cell?_of_block (w:=w) (hb _ (by rw[h0];simp[zAv]))
   rw[wm,hk];simp only[bc];exact zFa hr fun b h=>hb b (by simp[h])
theorem zMr{p p' q':PV}{i c:Nat}(hp:zB6 p i c q'=some p')(hh:p'.heavy0=true):zCr p p':=by
 simp only[zB6] at hp;cases p<;>simp only[zA9,dJ,bc] at hp<;>try cases hp
 case own sz xs=>
  cases hx:xs[i]?<;>rw[hx] at hp<;>simp[zAJ] at hp;subst hp;rfl
 case box q=>
  cases i with
  |zero=>simp[zAJ] at hp;subst hp;trivial|succ i=>simp at hp
 case agg cs=>
  cases i with
  |zero=>simp[zAJ,zAG] at hp;subst hp;cases hh|succ i=>simp at hp
theorem Rep.zip : ∀ (pre:zA4) {A:Al} {p:PV} {v:Value} {L:LN} {q:PV},Rep w Φ A p v L->zAH p pre=some q ->
  ∃ nv La Li Lb,zA1 w v p pre=some (nv,q)/\L=La++Li++Lb/\Rep w Φ (zIG A p pre) q nv Li /\
   (∀ w' Φ' (A':Al) q' Li' p',(∀ a v,a.isWay=true->A a v->A' a v)->zDq w w' Φ Φ'->(∀ b∈La++Lb,w'.heap[b]? = w.heap[b]?)->(pre≠[]->q'.isAgg=q.isAgg)->Rep w' Φ' (zIG A' p pre) q' nv Li' ->
    zAz (fun _=>some q') p pre=some p'->Rep w' Φ' A' p' v (La++Li'++Lb)) /\
   ∀ w' q' p',(∀ b∈La++Lb,w'.heap[b]? = w.heap[b]?)->(pre≠[]->q'.isAgg=q.isAgg)->zAz (fun _=>some q') p pre=some p' ->
    ∀ pth nv2 np2,zA1 w' v p' pth=some (nv2,np2)->np2.heavy0=true ->
     (∃ rest,pth=pre++rest/\zA1 w' nv q' rest=some (nv2,np2))\/∃ np0,zA1 w v p pth=some (nv2,np0)/\zCr np0 np2
 |[],A,p,v,L,q,h,hq=>by
  simp only[zAH] at hq;cases hq;refine⟨v,[],L,[],rfl,by simp,h,fun w' Φ' A' q' Li' p' hA hs hb _ hr hp=>?_,fun w' q' p' hb _ hp pth nv2 np2 hf hh=>?_⟩
  ·simp only[zAz] at hp;cases hp;simpa[zIG] using hr
  ·simp only[zAz] at hp;cases hp;exact .inl ⟨pth,rfl,hf⟩
 | (i, c) :: rest,A,p,v,L,q,h,hq=>by
  rw[zCg] at hq
  cases hc:Eng.child p i c with
  |none=>rw[hc] at hq;cases hq
  | some q1 =>
   rw [hc] at hq;simp only [bc] at hq;obtain ⟨u,La,Li,Lb,hu,rfl,hr,hk,kD,vT⟩:=h.child hc;obtain ⟨nv,Ma,Mi,Mb,hf,rfl,uF,qH,ua⟩:=Rep.zip rest hr hq;have jA:∀ q' q1',zAz (fun _=>some q') q1 rest=some q1'->q'.isAgg=q.isAgg->q1'.isAgg=q1.isAgg:=by
    intro q' q1' hm jn
    cases rest with
    |nil=>
     simp only[zAz] at hm;cases hm;simp only[zAH] at hq;cases hq;exact jn
    | cons x rest =>
     obtain⟨i2,c2⟩:=x;rw[zBu] at hm
     cases jF:Eng.child q1 i2 c2 with
     |none=>rw[jF] at hm;cases hm|some q2=>
      rw[jF] at hm;simp only[bc] at hm
      cases vo:zAz (fun _=>some q') q2 rest with
      |none=>rw[vo] at hm;cases hm|some q2'=>rw[vo] at hm;exact zEg (by simpa using hm)
   refine⟨nv,La++Ma,Mi,Mb++Lb,?_,by simp,?_,fun w' Φ' A' q' Li' p' hA hs hb jn je hp=>?_,fun w' q' p' hb jn hp pth nv2 np2 kE hh=>?_⟩
   rotate_left 3
   ·rw [zBu,hc] at hp;simp only [bc] at hp
    cases hm:zAz (fun _=>some q') q1 rest with
    |none=>rw[hm] at hp;cases hp
    | some q1' =>
     rw[hm] at hp;simp only[bc] at hp;have ya:∀ b∈La++Lb,w'.heap[b]? = w.heap[b]?:=fun b h=>hb b (by simp at h ⊢;rcases h with h|h<;>simp[h]);have j0:∀ b∈Ma++Mb,w'.heap[b]? = w.heap[b]?:=fun b h=>hb b (by simp at h ⊢;rcases h with h|h<;>simp[h]);have hg:q1'.isAgg=q1.isAgg:=jA q' q1' hm (jn (by simp));obtain⟨yc,hoc⟩:=zSr hc hg hp
     cases pth with
     |nil=>
      simp only[zA1,ba,bz] at kE;obtain⟨rfl,rfl⟩:=kE;exact .inr ⟨p,rfl,zMr hp hh⟩
     | cons x pth =>
      obtain⟨i2,c2⟩:=x;rw[zBb] at kE;by_cases yY:(i2,c2)=(i,c)
      ·cases yY;rw[yc] at kE;simp only[bc] at kE;rw[kD w' ya q1' p' hp,hu] at kE;simp only[bc] at kE;rcases ua w' q' q1' j0 (fun _=>jn (by simp)) hm pth nv2 np2 kE hh with⟨rst,rfl,h3⟩|⟨np0,h3,h4⟩
       ·exact .inl ⟨rst,rfl,h3⟩
       ·refine .inr ⟨np0,?_,h4⟩;rw[zBb,hc];simp only[bc];rw[hu];exact h3
      ·rw[hoc i2 c2 yY] at kE
       cases jF:Eng.child p i2 c2 with
       |none=>rw[jF] at kE;cases kE|some q2=>
        rw[jF] at kE;simp only[bc] at kE;obtain⟨u2,L2,h3,h4,h5⟩:=vT i2 c2 q2 yY jF;rw[kD w' ya q1' p' hp,h3] at kE;simp only[bc] at kE;rw[zFa h4 fun b yL=>ya b (h5 b yL)] at kE;refine .inr ⟨np2,?_,zCr.refl hh⟩;rw[zBb,jF];simp only[bc];rw[h3];exact kE
   ·rw[zBb,hc];simp only[bc];rw[hu];simpa using hf
   ·simpa only [zIG,hc] using uF
   ·rw[zBu,hc] at hp;simp only[bc] at hp
    cases hm:zAz (fun _=>some q') q1 rest with
    |none=>rw[hm] at hp;cases hp|some q1'=>
     rw[hm] at hp;simp only[bc] at hp;simp only[zIG,hc] at je;have h2:=qH w' Φ' (zGS A' p) q' Li' q1' (zLu hA) hs (fun b h=>hb b (by simp at h ⊢;rcases h with h|h<;>simp[h])) (fun _=>jn (by simp)) je hm;have hg:q1'.isAgg=q1.isAgg:=jA q' q1' hm (jn (by simp));have:=hk w' Φ' A' q1' _ p' hA hs (fun b h=>hb b (by simp at h ⊢;rcases h with h|h<;>simp[h])) hg h2 hp;simpa using this
end
section
variable {w:World} {Φ:Nat->Prop} {rv:Nat->Value} {E:Nat->PV}
theorem zM5{r:Nat}{pre:zA4}{p:PV}{v:Value}{L:LN}(hr:r<zAa)(hf:zA1 w (rv r) (E r).unlock pre=some (v,p))
  (h:Rep w Φ (zBa w rv E) p v L):Rep w Φ (zBa w rv E) (zHM r pre p) v []:=by
 cases p with
 | own sz xs =>
  refine⟨rfl,hr,?_,?_⟩
  ·obtain⟨h1,h2,h3⟩|⟨a,n,c,us,L',h0,h1,h2,h3,h4⟩:=h
   ·subst h1;exact⟨none,0,h3,by simp,by simp,by simp⟩
   ·exact⟨some a,n,h1,h3,by simp,fun b hb=>by cases hb;exact h2⟩
  ·intro nv np hn _;rw[hf] at hn;cases hn;refine⟨sz,xs,rfl,rfl,?_⟩;obtain⟨h1,h2,h3⟩|⟨a,n,c,us,L',h0,h1,h2,h3,h4⟩:=h
   ·subst h1;subst h3;exact⟨rfl,rfl⟩
   ·subst h1;have:zAv a (0*sz)=a:=by cases a;simp_all[zAv]
    exact⟨by rw[this];rfl,by simpa using h3⟩
 |box q=>
  obtain⟨a,c,u,L',h0,h1,h2,h4⟩:=h;refine⟨rfl,hr,a,h1,h2,?_⟩;intro nv np hn a' ha;rw[hf] at hn;cases hn;subst h1;have:zAv a 0=a:=by cases a;simp_all[zAv]
  simp only[zBd,this] at ha;cases ha;rfl
 |omap es=>
  obtain⟨b,ents,h0,h1,h4⟩:=h;refine⟨rfl,hr,⟨b,h1⟩,?_⟩;intro nv np hn es' he;rw[hf] at hn;cases hn;rfl
 |agg cs=>rfl|tup cs=>rfl|lock q=>rfl|_=>simp_all[zHM,Rep]
end
end Go.Eng
namespace Go.Eng
open Go
theorem zDX{p q:PV}(h:zCr p q):p.heavy0=true:=by cases p<;>cases q<;>first|rfl|cases h
def zBc:PV->Nat×zA4
 |.addr r pre .. => (r,pre)|.bor r pre .. => (r,pre)|.bsl r pre .. => (r,pre)|.bmap r pre=>(r,pre)|_=>(0,[])
theorem zEH{nv:Value}{p q:PV}{i c:Nat}(h:zCr p q):zBd nv p i c=zBd nv q i c:=by
 cases p<;>cases q<;>simp only[zCr] at h
 ·subst h;cases nv with
  |slice a _ _=>cases a<;>rfl
  |pointer a=>cases a<;>rfl
  |_=>rfl
 ·cases nv with
  |pointer a=>cases a<;>cases i<;>rfl
  |slice a _ _=>cases a<;>rfl
  |_=>rfl
 ·cases nv with
  |pointer a=>cases a<;>cases i<;>rfl
  |slice a _ _=>cases a<;>rfl
  |_=>rfl
section
variable {w w':World} {Φ Φ':Nat->Prop} {rv rv':Nat->Value} {E E':Nat->PV}
theorem zBa.mono{a:PV}{v:Value}(h:zBa w rv E a v)
  (hf:∀ nv np,zA1 w' (rv' (zBc a).1) (E' (zBc a).1).unlock (zBc a).2=some (nv,np)->np.heavy0=true ->
   ∃ np0,zA1 w (rv (zBc a).1) (E (zBc a).1).unlock (zBc a).2=some (nv,np0)/\zCr np0 np):zBa w' rv' E' a v:=by
 have key:∀ nv np i c a',zBd nv np i c=some a'->np.heavy0=true:=by
  intro nv np i c a' h;cases np<;>first|rfl|(simp[zBd] at h)
 have key2:∀ nv np np0 i c a',zBd nv np i c=some a'->zCr np0 np->zBd nv np0 i c=some a':=by
  intro nv np np0 i c a' h hl;rw[zEH hl];exact h
 cases a<;>simp only[zBa] at h ⊢
 case addr r pre i c sh=>
  obtain⟨hr,a,h1,h2,h3⟩:=h;refine⟨hr,a,h1,h2,fun nv np hn a' ha=>?_⟩;obtain⟨np0,ka,hl⟩:=hf nv np hn (key _ _ _ _ _ ha);exact h3 nv np0 ka a' (key2 _ _ _ _ _ _ ha hl)
 case bor r pre z lo n=>
  obtain⟨hr,h1,h3⟩:=h;refine⟨hr,h1,fun nv np hn hh=>?_⟩;obtain⟨np0,ka,hl⟩:=hf nv _ hn hh;obtain⟨sz,xs,he,hz,jP⟩:=h3 nv np0 ka (zDX hl);subst he;cases np<;>simp only[zCr] at hl;subst hl;exact⟨_,_,rfl,hz,jP⟩
 case bsl r pre i c sz ag n=>
  obtain⟨hr,a,cap,h1,h2,jm,h3⟩:=h;refine⟨hr,a,cap,h1,h2,jm,fun nv np hn a' ha=>?_⟩;obtain⟨np0,ka,hl⟩:=hf nv np hn (key _ _ _ _ _ ha);exact h3 nv np0 ka a' (key2 _ _ _ _ _ _ ha hl)
 case bmap r pre=>
  obtain⟨hr,h1,h3⟩:=h;refine⟨hr,h1,fun nv np hn es he=>?_⟩;subst he;obtain⟨np0,ka,hl⟩:=hf nv _ hn rfl;cases np0<;>simp only[zCr] at hl;exact h3 nv _ ka _ rfl
theorem zEG:∀ {ps:List PV} {i:Nat} {p:PV},zDf ps=false->ps[i]? = some p->p.heavy=false
 |[],_,_,_,h=>by simp at h|q::ps,0,p,hh,h=>by
  simp at h;subst h;simp only[zDf,cI] at hh;exact hh.1
 |q::ps,i+1,p,hh,h=>by
  simp only[zDf,cI] at hh;exact zEG hh.2 (by simpa using h)
theorem zEC:∀ {pre:zA4} {p:PV} {v nv:Value} {np:PV},p.heavy=false->zA1 w v p pre=some (nv,np)->np.heavy=false
 |[],p,v,nv,np,hp,h=>by simp only[zA1] at h;cases h;exact hp
 | (i, c)::rest,p,v,nv,np,hp,h=>by
  rw[zBb] at h
  cases hc:Eng.child p i c with
  |none=>rw[hc] at h;cases h
  | some q =>
   rw[hc] at h;simp only[bc] at h
   cases hk:kid w v p i c with
   |none=>rw[hk] at h;cases h|some u=>
    rw[hk] at h;simp only[bc] at h;refine zEC ?_ h;cases p<;>first|(simp[Eng.child,zA9] at hc;done)|(simp[PV.heavy] at hp;done)|skip
    rename_i cs
    cases i with
    |zero=>simp[Eng.child,zA9,PV.cells] at hc;exact zEG hp hc|succ i=>simp[Eng.child,zA9] at hc
theorem zFM{p:PV}(h:p.heavy0=true):p.heavy=true:=by
 cases p<;>simp_all[PV.heavy0,PV.heavy]
structure Conf (w0:World) (U Φ0:Nat->Prop) (w:World) (Φ:Nat->Prop) (rv:Nat->Value) (E:Nat->PV) (L:Nat->LN):Prop where
 rep:∀ s,Rep w Φ (zBa w rv E) (E s) (rv s) (L s)
 nodup:∀ s,(L s).Nodup
 disj:∀ s s',s≠s'->∀ b∈L s,b∉L s'
 own:∀ s,∀ b∈L s,b<w.heap.size/\¬ Φ b/\(U b\/w0.heap.size<=b)
 frz:∀ b,Φ b->b<w.heap.size/\(Φ0 b\/U b\/w0.heap.size<=b)
 frz0:∀ b,Φ0 b->Φ b
 size:w0.heap.size<=w.heap.size
 kept:∀ b,b<w0.heap.size->¬ U b->w.heap[b]? = w0.heap[b]?
 os:w.os=w0.os
 tape:w.tape=w0.tape
 output:w.output=w0.output
def upd{α:Type}(f:Nat->α)(s:Nat)(x:α):Nat->α:=fun t=>if t=s then x else f t
theorem zAi{α:Type}{f:Nat->α}{s:Nat}{x:α}:upd f s x s=x:=if_pos rfl
theorem zAe{α:Type}{f:Nat->α}{s t:Nat}{x:α}(h:t≠s):upd f s x t=f t:=if_neg h
theorem zB9{A:Al}{p:PV}{v:Value}{L:LN}(h:Rep w Φ A p v L):Rep w Φ A p.unlock v L:=by cases p<;>exact h
theorem zDp:∀ (a b:zA4) (v:Value) (p:PV),zA1 w v p (a++b)=(zA1 w v p a).bind fun x=>zA1 w x.1 x.2 b
 |[],b,v,p=>rfl
 | (i,c)::a,b,v,p=>by
  rw[List.cons_append,zBb,zBb]
  cases Eng.child p i c with
  |none=>rfl|some q=>
   simp only[bc]
   cases kid w v p i c with
   |none=>rfl|some u=>simp only[bc];exact zDp a b u q
theorem zKR{v:Value}{p:PV}{i c:Nat}:zA1 w v p [(i,c)]=(Eng.child p i c).bind fun q=>(kid w v p i c).bind fun u=>some (u,q):=by
 rw[zBb];rfl
theorem zA8.part{A:Al}:∀ {ps:List PV} {us:List Value} {L:LN},zA8 w Φ A ps us L->∀ c n,∃ L',zA8 w Φ A ((ps.drop c).take n) ((us.drop c).take n) L'
 |[],us,L,h,c,n=>by rw[h.1];exact⟨[],by simp[zA8]⟩|p::ps,us,L,h,0,0=>⟨[],by simp[zA8]⟩|p::ps,us,L,h,0,n+1=>by
  obtain⟨v,vs,L1,L2,rfl,rfl,h1,h2⟩:=h;obtain⟨L',h'⟩:=h2.part 0 n;exact⟨L1++L',v,_,L1,L',rfl,rfl,h1,by simpa using h'⟩
 |p::ps,us,L,h,c+1,n=>by
  obtain⟨v,vs,L1,L2,rfl,rfl,h1,h2⟩:=h;simpa using h2.part c n
theorem zHc{p:PV}{xs:List PV}(h:zBi p=some xs):zA9 p=some xs:=by cases p<;>first|exact h|cases h
theorem zB4{a:Addr}(h:a.spot=none)(j:Nat):a.add j=zAv a j:=by
 obtain⟨b,o,sp⟩:=a;simp only at h;subst h;simp only[Addr.add,zAv];split
 ·rename_i hj;subst hj;rfl
 ·rfl
theorem zGu(a:Addr)(k j:Nat):(zAv a k).add j=zAv a (k+j):=by
 rw[zB4 rfl];simp[zAv,cg]
theorem zVp{nv:Value}{np:PV}{xs:List PV}{i c j:Nat}{ad:Addr}(h:zBi np=some xs)(ha:zBd nv np i c=some ad):kid w nv np i (c+j)=w.cell? (ad.add j):=by
 cases np<;>simp only[zBi] at h<;>try cases h
 ·cases nv with
  |slice a _ _=>
   cases a with
   |none=>cases ha|some a=>simp only[zBd] at ha;cases ha;rw[zGu];simp[kid,cg]
  |pointer a=>cases a<;>cases ha
  |_=>cases ha
 ·cases nv with
  |pointer a=>
   cases a with
   |none=>cases i<;>cases ha
   |some a=>cases i<;>simp only[zBd] at ha<;>cases ha;rw[zGu];simp[kid,cg]
  |slice a _ _=>cases a<;>cases ha
  |_=>cases ha
theorem zGk{A:Al}{p:PV}{a:PV}{v:Value}(h:zGS A p a v):A a v:=by
 cases p<;>first|exact h|exact h.elim
theorem zEL:∀ {pre:zA4} {A:Al} {p:PV} {a:PV} {v:Value},zIG A p pre a v->A a v
 |[],_,_,_,_,h=>h|(i,c)::rest,A,p,a,v,h=>by
  simp only[zIG] at h
  cases hc:Eng.child p i c with
  |none=>rw[hc] at h;exact h.elim|some q=>rw[hc] at h;exact zGk (zEL h)
theorem Rep.cellsAll{A:Al}{p:PV}{v:Value}{L:LN}(h:Rep w Φ A p v L)(hn:zCv v=p.isAgg):zA8 w Φ A p.cells v.cells.toList L:=by
 cases hp:p.isAgg with
 |true=>
  cases p<;>simp[PV.isAgg] at hp;obtain⟨vs,rfl,h⟩:=h;exact h
 |false=>
  have jO:p.cells=[p]:=by cases p<;>first|rfl|simp[PV.isAgg] at hp
  have hv:v.cells=#[v]:=by rw[hp] at hn;cases v<;>first|rfl|simp[zCv] at hn
  rw[jO,hv];exact⟨v,[],L,[],rfl,by simp,h,rfl,rfl⟩
theorem zTh{A:Al}{np:PV}{nv:Value}{Li:LN}(h:Rep w Φ A np nv Li){xs:List PV}(hx:zBi np=some xs){i:Nat}{x:PV}(hi:xs[i]? = some x)(c:Nat) :
  ∃ ux ad Lx,(∀ b∈Lx,b∈Li)/\zBd nv np i c=some ad/\ad.spot=none/\(∀ k u,ux.cells.toList[k]? = some u->∀ j,k=c+j->w.cell? (ad.add j)=some u)/\zCv ux=x.isAgg/\ux.cells.size=x.cells.length/\zA8 w Φ (zGS A np) x.cells ux.cells.toList Lx:=by
 cases np<;>simp only[zBi] at hx<;>try cases hx
 case own sz=>
  obtain⟨h1,h2,h3⟩|⟨a,n,r,us,L',rfl,h1,h2,h3,h4,h5,h6,⟨h7,u3⟩,h8,h9⟩:=h
  ·subst h1;simp at hi
  ·obtain⟨ux,La,Lx,Lb,hu,rfl,hr,_,_⟩:=h9.split hi;have hg:zCv ux=x.isAgg:=by
    have h1:(us.map zCv)[i]? = some (zCv ux):=by simp[hu]
    have h2:(xs.map PV.isAgg)[i]? = some x.isAgg:=by simp[hi]
    rw[u3] at h1;rw[h1] at h2;simpa using h2
   subst h1;refine⟨ux,zAv a (i*sz+c),Lx,fun b hb=>by simp[hb],rfl,rfl,?_,hg,?_,hr.cellsAll hg⟩
   ·intro k u hk j hkj;have hf:=zEc h7 hu hk;rw[<- h8] at hf;have:=zDj hf;rw[zGu,show i*sz+c+j=i*sz+k by omega];simp only[zAv];rw[zC2 h4.any];exact this
   ·rw[h7 ux (bH hu),h6 x (bH hi)]
 case box q0=>
  obtain⟨a,r,u0,L',rfl,h1,h2,h4,h5,⟨h6,uv⟩,h7⟩:=h;have j8:i=0:=by
   cases i with
   |zero=>rfl|succ i=>simp at hi
  subst j8;simp at hi;subst hi;subst h1;refine⟨u0,zAv a c,L',fun b hb=>by simp[hb],rfl,rfl,?_,uv,h6,h7.cellsAll uv⟩;intro k u hk j hkj;have:=zDj (c:=r) (o:=a.off) (n:=q0.cells.length) (k:=k) (u:=u) (by rw[h5];exact hk);rw[zGu,<- hkj];simp only[zAv];rw[zC2 h4.any];exact this
theorem zFn{r i:Nat}{pre:zA4}(hr:r<zAa):∀ {ps:List PV} {us:List Value} {L:LN} {c:Nat},zA8 w Φ (zBa w rv E) ps us L ->
  (∀ j p u,ps[j]? = some p->us[j]? = some u->zA1 w (rv r) (E r).unlock (pre++[(i,c+j)])=some (u,p))->zA8 w Φ (zBa w rv E) (zBI r pre i c ps) us []
 |[],us,L,c,h,_=>⟨h.1,rfl⟩|p::ps,us,L,c,h,hf=>by
  obtain⟨v,vs,L1,L2,rfl,rfl,h1,h2⟩:=h;refine⟨v,vs,[],[],rfl,rfl,zM5 hr (hf 0 p v rfl rfl) h1,zFn hr h2 fun j q u hq hu=>?_⟩;have:=hf (j+1) q u (by simpa using hq) (by simpa using hu);rwa[show c+1+j=c+(j+1) by omega]
section
variable {w0:World} {U Φ0:Nat->Prop} {L:Nat->LN}
theorem Conf.view(h:Conf w0 U Φ0 w Φ rv E L){s:Nat}(hs:s<zAa):Rep w Φ (zBa w rv E) (view s (E s)) (rv s) []:=by
 have hr:=zB9 (h.rep s);have hv:Eng.view s (E s)=zUO s (E s).unlock:=by cases E s<;>rfl
 rw[hv];have hf:zA1 w (rv s) (E s).unlock []=some (rv s,(E s).unlock):=rfl;have key:∀ p,(E s).unlock=p->Rep w Φ (zBa w rv E) (zUO s p) (rv s) []:=by
  intro p hp;rw[hp] at hr hf
  cases p with
  |agg cs=>
   obtain⟨vs,hv,hr⟩:=hr;refine⟨vs,hv,zFn hs hr fun j p u hj hu=>?_⟩;rw[zDp,hp,hf,hv];show(zA1 w (.agg vs) (.agg cs) [(0,0+j)])=_
   rw[zKR];have hu:vs[j]? = some u:=by simpa using hu
   simp[Eng.child,zA9,PV.cells,kid,hj,hu]
  |tup cs=>rfl|_=>exact zM5 (pre:=[]) hs (by rw[hp];exact hf) hr
 exact key _ rfl
theorem Conf.cells (h:Conf w0 U Φ0 w Φ rv E L) {r:Nat} {pre:zA4} {i c n:Nat} {a:Bool} {qs:List PV} (hr:r<zAa) (hc:zAq r (E r) pre i c n=some (a,qs)) :
  ∃ nv np ad us,zA1 w (rv r) (E r).unlock pre=some (nv,np)/\zBd nv np i c=some ad/\ad.spot=none/\us.length=n/\(∀ j u,us[j]? = some u->w.cell? (ad.add j)=some u)/\zA8 w Φ (zBa w rv E) qs us []:=by
 simp only[zAq] at hc
 cases hn:zAH (E r).unlock pre with
 |none=>rw[hn] at hc;cases hc
 | some np =>
  rw[hn] at hc;simp only at hc;obtain⟨nv,La,Li,Lb,hf,hL,hZ,_,_⟩:=Rep.zip pre (zB9 (h.rep r)) hn
  cases hx:zBi np with
  |none=>rw[hx] at hc;cases hc
  | some xs =>
   rw[hx] at hc;simp only at hc
   cases hxi:xs[i]? with
   |none=>rw[hxi] at hc;cases hc
   | some x =>
    rw[hxi] at hc;simp only at hc;by_cases yS:c+n<=x.cells.length
    ·rw [cU yS] at hc;simp only [cond_true,ba,bz] at hc;obtain ⟨rfl,rfl⟩:=hc;obtain ⟨ux,ad,Lx,hA,jQ,yd,jo,qI,yI,uw⟩:=zTh hZ hx hxi c;have yA:ux.cells.toList.length=x.cells.length:=(uw.length);refine ⟨nv,np,ad,(ux.cells.toList.drop c).take n,hf,jQ,yd,by simp at yA ⊢;omega,?_,?_⟩
     ·intro j u hj;simp only[cu,ck] at hj;split at hj
      ·exact jo (c+j) u hj j rfl
      ·cases hj
     ·obtain⟨L',yX⟩:=uw.part c n;refine zFn hr (yX.mono (A':=zBa w rv E) zDq.refl (fun a v hw ha=>zEL (zGk ha)) (fun _ _=>rfl)) fun j p u hp hu=>?_;simp only[cu,ck] at hp hu;split at hp
      ·rename_i hjn;rw[if_pos hjn] at hu;rw[zDp,hf];simp only[bc];rw[zKR];have yc:Eng.child np i (c+j)=some p:=by
        simp only[Eng.child];rw[zHc hx];simp[hxi,hp]
       rw[yc];simp only[bc];rw[zVp hx jQ (j:=j),jo (c+j) u hu j rfl];rfl
      ·cases hp
    ·have:ble (c+n) x.cells.length=false:=by
      cases hb:ble (c+n) x.cells.length with
      |false=>rfl|true=>exact absurd (br hb) yS
     rw[this] at hc;simp at hc
theorem Conf.put(h:Conf w0 U Φ0 w Φ rv E L){s:Nat}{p:PV}{v:Value}(hp:p.heavy=false)(hr:Rep w Φ (zBa w rv E) p v []) :
  Conf w0 U Φ0 w Φ (upd rv s v) (upd E s p) (upd L s []):=by
 have hA:∀ a u,a.isWay=true->zBa w rv E a u->zBa w (upd rv s v) (upd E s p) a u:=by
  intro a u _ ha;refine ha.mono fun nv np hn hh=>?_;by_cases hs:(zBc a).1=s
  ·rw[hs,zAi,zAi] at hn;have hu:p.unlock=p:=by cases p<;>first|rfl|simp[PV.heavy] at hp
   rw[hu] at hn;have:=zEC hp hn;rw[zFM hh] at this;cases this
  ·rw[zAe hs,zAe hs] at hn;exact⟨np,hn,zCr.refl hh⟩
 refine{h with rep:=?_,nodup:=?_,disj:=?_,own:=?_}
 ·intro t;by_cases ht:t=s
  ·subst ht;rw[zAi,zAi,zAi];exact hr.mono zDq.refl hA (by simp)
  ·rw[zAe ht,zAe ht,zAe ht];exact(h.rep t).mono zDq.refl hA (fun _ _=>rfl)
 ·intro t;by_cases ht:t=s
  ·subst ht;rw[zAi];simp
  ·rw[zAe ht];exact h.nodup t
 ·intro t t' hI b hb;by_cases ht:t=s
  ·subst ht;rw[zAi] at hb;simp at hb
  ·rw[zAe ht] at hb;by_cases ht':t'=s
   ·subst ht';rw[zAi];simp
   ·rw[zAe ht'];exact h.disj t t' hI b hb
 ·intro t b hb;by_cases ht:t=s
  ·subst ht;rw[zAi] at hb;simp at hb
  ·rw[zAe ht] at hb;exact h.own t b hb
end
end
def PV.dull:PV->Bool
 |.own ..|.box ..|.omap ..|.agg _|.lock _=>false|_=>true
structure Tame (f:PV->PV):Prop where
 agg:∀ p,(f p).isAgg=p.isAgg
 dull:∀ p,p.isWay=true->(f p).dull=true
theorem zOK{p:PV}(h:p.dull=true):zA9 p=none:=by cases p<;>first|rfl|cases h
theorem zOW{p:PV}(h:p.dull=true):p.heavy0=false:=by cases p<;>first|rfl|cases h
theorem zOZ{p:PV}(h:p.dull=true):p.unlock=p:=by cases p<;>first|rfl|cases h
theorem zHK{f:PV->PV}:∀ (ps:List PV) (i:Nat),(zCX f ps)[i]? = (ps[i]?).map fun p=>p.mapW f
 |[],i=>by simp[zCX]|p::ps,0=>by simp[zCX]|p::ps,i+1=>by simp only[zCX,fa];exact zHK ps i
theorem zQz{f:PV->PV}(hf:Tame f)(q:PV)(c:Nat):(q.mapW f).cells[c]? = (q.cells[c]?).map fun p=>p.mapW f:=by
 cases hq:q.isAgg with
 |true=>
  cases q<;>simp[PV.isAgg] at hq;simp only[PV.mapW,PV.cells];exact zHK _ _
 |false=>
  have h1:q.cells=[q]:=by cases q<;>first|rfl|simp[PV.isAgg] at hq
  have h2:(q.mapW f).isAgg=false:=by rw[zGr hf.agg];exact hq
  have h3:(q.mapW f).cells=[q.mapW f]:=by revert h2;cases q.mapW f<;>intro h2<;>first|rfl|simp[PV.isAgg] at h2
  rw[h1,h3];cases c<;>simp
theorem zGf{f:PV->PV}{p:PV}(h:p.isWay=true):p.mapW f=f p:=by cases p<;>first|rfl|cases h
theorem zDx{f:PV->PV}(hf:Tame f)(p:PV):(p.mapW f).unlock=p.unlock.mapW f:=by
 cases hp:p.isWay with
 |true=>
  have h1:p.unlock=p:=by cases p<;>first|rfl|cases hp
  rw[h1,zGf hp,zOZ (hf.dull p hp)]
 |false=>cases p<;>first|rfl|cases hp
section
variable {w w':World} {Φ Φ':Nat->Prop} {rv rv':Nat->Value} {E E':Nat->PV}
theorem zWH{v:Value}{p q:PV}{i c:Nat}:kid w v (.box p) i c=kid w v (.box q) i c:=by
 cases v with
 |pointer a=>cases a<;>rfl
 |slice a _ _=>cases a<;>rfl
 |_=>rfl
theorem zWM{v:Value}{p q:List PV}{i c:Nat}:kid w v (.agg p) i c=kid w v (.agg q) i c:=by
 cases v with
 |pointer a=>cases a<;>rfl
 |slice a _ _=>cases a<;>rfl
 |_=>rfl
theorem zC8 {f:PV->PV} (hf:Tame f):∀ {pre:zA4} {p:PV} {v nv:Value} {np':PV},zA1 w v (p.mapW f) pre=some (nv,np')->np'.heavy0=true ->
  ∃ np,zA1 w v p pre=some (nv,np)/\zCr np np'
 |[],p,v,nv,np',h,hh=>by
  simp only[zA1,ba,bz] at h;obtain⟨rfl,rfl⟩:=h;refine⟨p,rfl,?_⟩
  cases hp:p.isWay with
  |true=>rw[zGf hp,zOW (hf.dull p hp)] at hh;cases hh|false=>cases p<;>first|(cases hp;done)|(simp[PV.mapW,PV.heavy0] at hh;done)|simp[PV.mapW,zCr]
 | (i, c) :: rest,p,v,nv,np',h,hh=>by
  rw[zBb] at h
  cases hc:Eng.child (p.mapW f) i c with
  |none=>rw[hc] at h;cases h
  | some q' =>
   rw[hc] at h;simp only[bc] at h
   cases hk:kid w v (p.mapW f) i c with
   |none=>rw[hk] at h;cases h
   | some u =>
    rw[hk] at h;simp only[bc] at h;have go:∀ q,Eng.child p i c=some q->kid w v p i c=some u->q'=q.mapW f->∃ np,zA1 w v p ((i,c)::rest)=some (nv,np)/\zCr np np':=by
     intro q h1 h2 h3;subst h3;obtain⟨np,hn,hl⟩:=zC8 hf h hh;exact⟨np,by rw[zBb,h1];simp only[bc];rw[h2];exact hn,hl⟩
    cases hp:p.isWay with
    |true=>
     rw[zGf hp] at hc;simp[Eng.child,zOK (hf.dull p hp)] at hc
    | false =>
     cases p<;>first|(cases hp;done)|(simp[PV.mapW,Eng.child,zA9] at hc;done)|skip
     case own sz xs=>exact⟨np',by rw[zBb];simp only[PV.mapW] at hc hk;rw[hc];simp only[bc];rw[hk];exact h,zCr.refl hh⟩
     case box q0=>
      simp only[PV.mapW,Eng.child,zA9,bc] at hc
      cases i with
      |succ i=>simp at hc
      | zero =>
       simp only[bJ,bc] at hc;rw[zQz hf] at hc
       cases hq:q0.cells[c]? with
       |none=>rw[hq] at hc;cases hc|some q=>
        rw[hq] at hc;simp only[bv,ba] at hc;exact go q (by simp[Eng.child,zA9,hq]) (by rw[<- hk,PV.mapW];exact zWH) hc.symm
     case agg cs=>
      simp only[PV.mapW,Eng.child,zA9,bc] at hc
      cases i with
      |succ i=>simp at hc
      | zero =>
       simp only[bJ,bc,PV.cells] at hc;rw[zHK] at hc
       cases hq:cs[c]? with
       |none=>rw[hq] at hc;cases hc|some q=>
        rw[hq] at hc;simp only[bv,ba] at hc;exact go q (by simp[Eng.child,zA9,PV.cells,hq]) (by rw[<- hk,PV.mapW];exact zWM) hc.symm
section
variable {w0:World} {U Φ0:Nat->Prop} {L L':Nat->LN}
theorem zC7{a:PV}{v:Value}(h:zBa w rv E a v):(zBc a).1<zAa:=by
 cases a<;>simp only[zBa] at h<;>first|exact h.1|exact h.elim
theorem zCS(h:Conf w0 U Φ0 w Φ rv E L){f:PV->PV}(hf:Tame f){a:PV}{v:Value}(ha:zBa w rv E a v)(hE:E' (zBc a).1=(E (zBc a).1).mapW f)(hv:rv' (zBc a).1=rv (zBc a).1)
  (hb:∀ b∈L (zBc a).1,w'.heap[b]? = w.heap[b]?):zBa w' rv' E' a v:=by
 refine ha.mono fun nv np hn hh=>?_;rw[hE,hv,zDx hf] at hn;obtain⟨np0,ka,hl⟩:=zC8 hf hn hh;rw[zFa (zB9 (h.rep _)) hb] at ka;exact⟨np0,ka,hl⟩
theorem zLU{a:PV}{v:Value}(ha:zBa w rv E a v)(hE:(E' (zBc a).1).unlock.heavy=false):zBa w' rv' E' a v:=by
 refine ha.mono fun nv np hn hh=>?_;have:=zEC hE hn;rw[zFM hh] at this;cases this
theorem Conf.step2(h:Conf w0 U Φ0 w Φ rv E L)(σ:Nat->ON)(f:PV->PV)(hf:Tame f)
  (hσ:∀ s s' t,σ s=some t->σ s'=some t->s=s')
  (hE:∀ s t,σ s=some t->E' s=(E t).mapW f/\rv' s=rv t/\L' s=L t)
  (hN:∀ s,σ s=none->Rep w' Φ (zBa w' rv' E') (E' s) (rv' s) (L' s))
  (hA:∀ a v,a.isWay=true->zBa w rv E a v->Rep w' Φ (zBa w' rv' E') (f a) v [])
  (hd:∀ s,σ s=none->(L' s).Nodup) (wn:∀ s s',σ s=none->σ s'=none->s≠s'->∀ b∈L' s,b∉L' s')
  (ho:∀ s,σ s=none->∀ b∈L' s,(∃ t,b∈L t/\∀ s,σ s≠some t)\/(w.heap.size<=b/\b<w'.heap.size))
  (hw:w.heap.size<=w'.heap.size) (hk:∀ b,b<w.heap.size->(∀ t,b∈L t->∃ s,σ s=some t)->w'.heap[b]? = w.heap[b]?)
  (u4:w'.os=w.os/\w'.tape=w.tape/\w'.output=w.output):Conf w0 U Φ0 w' Φ rv' E' L':=by
 have hLk:∀ s t,σ s=some t->∀ b∈L t,w'.heap[b]? = w.heap[b]?:=by
  intro s t hs b hb;refine hk b (h.own t b hb).1 fun t' yL=>?_;have:t'=t:=b5 fun hI=>h.disj t' t hI b yL hb;exact⟨s,this▸hs⟩
 have hΦ:zDq w w' Φ Φ:=fun b hb=>⟨hb,hk b (h.frz b hb).1 fun t j5=>absurd hb (h.own t b j5).2.1⟩;have wG:∀ g,σ g=none->∀ b∈L' g,∀ t,b∈L t->∀ s,σ s≠some t:=by
  intro g hg b hb t j5 s hs;rcases ho g hg b hb with⟨t',h1,h2⟩|⟨h1,h2⟩
  ·have:t'=t:=b5 fun hI=>h.disj t' t hI b h1 j5;exact h2 s (this▸hs)
  ·have:=(h.own t b j5).1;omega
 refine⟨?_,?_,?_,?_,?_,h.frz0,bB h.size hw,?_,u4.1.trans h.os,u4.2.1.trans h.tape,u4.2.2.trans h.output⟩
 ·intro s
  cases hs:σ s with
  |some t=>
   obtain⟨h1,h2,h3⟩:=hE s t hs;rw[h1,h2,h3];exact Rep.map hf.agg hΦ hA _ _ _ (hLk s t hs) (h.rep t)
  |none=>exact hN s hs
 ·intro s
  cases hs:σ s with
  |some t=>rw[(hE s t hs).2.2];exact h.nodup t|none=>exact hd s hs
 ·intro s s' hI b hb yL
  cases hs:σ s with
  | some t =>
   rw[(hE s t hs).2.2] at hb
   cases jK:σ s' with
   |some t'=>
    rw[(hE s' t' jK).2.2] at yL;have:t≠t':=fun e=>hI (hσ s s' t hs (e▸jK));exact h.disj t t' this b hb yL
   |none=>exact wG s' jK b yL t hb s hs
  |none=>
   cases jK:σ s' with
   |some t'=>rw[(hE s' t' jK).2.2] at yL;exact wG s hs b hb t' yL s' jK|none=>exact wn s s' hs jK hI b hb yL
 ·intro s b hb
  cases hs:σ s with
  |some t=>
   rw[(hE s t hs).2.2] at hb;have:=h.own t b hb;exact⟨bI this.1 hw,this.2⟩
  |none=>
   rcases ho s hs b hb with⟨t,h1,_⟩|⟨h1,h2⟩
   ·have:=h.own t b h1;exact⟨bI this.1 hw,this.2⟩
   ·exact⟨h2,fun hp=>absurd (h.frz b hp).1 (by omega),.inr (bB h.size h1)⟩
 ·intro b hb;have:=h.frz b hb;exact⟨bI this.1 hw,this.2⟩
 ·intro b hb hu;rw[hk b (bI hb h.size) fun t j5=>?_]
  ·exact h.kept b hb hu
  ·rcases(h.own t b j5).2.2 with h1|h1
   ·exact absurd h1 hu
   ·omega
theorem Conf.step(h:Conf w0 U Φ0 w Φ rv E L)(σ:Nat->ON)(f:PV->PV)(g:Nat)(hf:Tame f)
  (hσ:∀ s s' t,σ s=some t->σ s'=some t->s=s')
  (hE:∀ s t,σ s=some t->E' s=(E t).mapW f/\rv' s=rv t/\L' s=L t)
  (hN:∀ s,σ s=none->Rep w' Φ (zBa w' rv' E') (E' s) (rv' s) (L' s)/\(s≠g->L' s=[]))
  (hA:∀ a v,a.isWay=true->zBa w rv E a v->Rep w' Φ (zBa w' rv' E') (f a) v [])
  (hd:σ g=none->(L' g).Nodup) (ho:σ g=none->∀ b∈L' g,(∃ t,b∈L t/\∀ s,σ s≠some t)\/(w.heap.size<=b/\b<w'.heap.size))
  (hw:w.heap.size<=w'.heap.size) (hk:∀ b,b<w.heap.size->(∀ t,b∈L t->∃ s,σ s=some t)->w'.heap[b]? = w.heap[b]?)
  (u4:w'.os=w.os/\w'.tape=w.tape/\w'.output=w.output):Conf w0 U Φ0 w' Φ rv' E' L':=by
 refine h.step2 σ f hf hσ hE (fun s hs=>(hN s hs).1) hA (fun s hs=>?_) (fun s s' hs jK hI b hb yL=>?_) (fun s hs b hb=>?_) hw hk u4
 ·by_cases yk:s=g
  ·subst yk;exact hd hs
  ·rw[(hN s hs).2 yk];exact b8
 ·by_cases yk:s=g
  ·rw[(hN s' jK).2 (by rw[<- yk];exact dK hI)] at yL;cases yL
  ·rw[(hN s hs).2 yk] at hb;cases hb
 ·by_cases yk:s=g
  ·subst yk;exact ho hs b hb
  ·rw[(hN s hs).2 yk] at hb;cases hb
theorem Conf.turn(h:Conf w0 U Φ0 w Φ rv E L)(σ:Nat->ON)(f:PV->PV)(hf:Tame f)
  (hσ:∀ s s' t,σ s=some t->σ s'=some t->s=s')
  (hE:∀ s t,σ s=some t->E' s=(E t).mapW f/\rv' s=rv t/\L' s=L t)
  (hN:∀ s,σ s=none->E' s = .bad/\L' s=[])
  (hA:∀ a v,a.isWay=true->zBa w rv E a v->Rep w Φ (zBa w rv' E') (f a) v []):Conf w0 U Φ0 w Φ rv' E' L':=by
 refine h.step σ f 0 hf hσ hE (fun s hs=>?_) hA (fun hs=>?_) (fun hs=>?_) (bf _) (fun _ _ _=>rfl) ⟨rfl,rfl,rfl⟩
 ·obtain⟨h1,h2⟩:=hN s hs;rw[h1,h2];exact⟨rfl,fun _=>rfl⟩
 ·rw[(hN _ hs).2];exact b8
 ·rw[(hN _ hs).2];simp
theorem zCs:Tame (fun x=>x):=⟨fun _=>rfl,fun p h=>by cases p<;>first|rfl|cases h⟩
theorem zDF{f:PV->PV}(h:∀ p,f p=p\/(p.isWay=true/\f p = .bad)):Tame f:=by
 refine⟨fun p=>?_,fun p hp=>?_⟩
 ·rcases h p with h|⟨h1,h2⟩
  ·rw[h]
  ·rw[h2];cases p<;>first|rfl|cases h1
 ·rcases h p with h|⟨h1,h2⟩
  ·rw[h];cases p<;>first|rfl|cases hp
  ·rw[h2];rfl
theorem zG3(r:Nat)(pre:zA4)(p:PV):lose r pre p=p\/(p.isWay=true/\lose r pre p = .bad):=by
 cases p<;>first|exact .inl rfl|skip
 all_goals
  simp only[Eng.lose,PV.isWay,true_and];cases (beq _ r&&_)<;>simp
theorem zRj{r:Nat}{p:PV}{v:Value}(h:p.isWay=true)(hl:lose r [] p=p)(ha:zBa w rv E p v):(zBc p).1≠r:=by
 intro hr;cases p<;>first|cases h|skip
 case log=>exact False.elim ha
 all_goals
  simp only[zBc] at hr;subst hr;simp[Eng.lose] at hl
theorem Conf.take(h:Conf w0 U Φ0 w Φ rv E L){s g:Nat}(hs:s<zAa)(hg:zAa<=g):Conf w0 U Φ0 w Φ (upd rv g (rv s)) (upd (upd E s .bad) g (E s)) (upd (upd L s []) g (L s)):=by
 have yk:s≠g:=by omega
 refine h.turn (fun t=>if t=g then some s else if t=s then none else some t) (fun x=>x) zCs ?_ ?_ ?_ ?_
 ·intro a b t ha hb;split at ha<;>split at hb<;>simp_all<;>split at ha<;>simp_all
  all_goals (try split at hb)<;>simp_all
 ·intro a t ha;split at ha
  ·rename_i e;cases ha;subst e;simp[zAi,zBl]
  ·rename_i e;split at ha
   ·cases ha
   ·rename_i e2;cases ha;simp[zAe e,zAe e2,zBl]
 ·intro a ha;split at ha
  ·cases ha
  ·rename_i e;split at ha
   ·rename_i e2;subst e2;simp[zAe e,zAi]
   ·cases ha
 ·intro a v hw ha;have hr:(zBc a).1<zAa:=zC7 ha;refine zC4 hw ?_;by_cases jW:(zBc a).1=s
  ·refine zLU ha ?_;rw[zAe (by omega),jW,zAi];rfl
  ·refine zCS h zCs ha ?_ ?_ (fun _ _=>rfl)
   ·rw[zAe (by omega),zAe jW,zBl]
   ·rw[zAe (by omega)]
theorem Conf.lay(h:Conf w0 U Φ0 w Φ rv E L){d g:Nat}(hd:d<zAa)(hg:zAa<=g):Conf w0 U Φ0 w Φ (upd rv d (rv g)) (upd (upd (fun s=>(E s).mapW (lose d [])) d ((E g).mapW (lose d []))) g .bad) (upd (upd L d (L g)) g []):=by
 have uy:d≠g:=by omega
 refine h.turn (fun t=>if t=g then none else if t=d then some g else some t) (lose d []) (zDF (zG3 d [])) ?_ ?_ ?_ ?_
 ·intro a b t ha hb;split at ha<;>split at hb<;>simp_all<;>split at ha<;>simp_all
  all_goals (try split at hb)<;>simp_all
 ·intro a t ha;split at ha
  ·cases ha
  ·rename_i e;split at ha
   ·rename_i e2;cases ha;subst e2;simp[zAe e,zAi]
   ·rename_i e2;cases ha;simp[zAe e,zAe e2]
 ·intro a ha;split at ha
  ·rename_i e;subst e;simp[zAi]
  ·split at ha<;>cases ha
 ·intro a v hw ha;have hr:(zBc a).1<zAa:=zC7 ha;rcases zG3 d [] a with hl|⟨_,hl⟩
  ·rw[hl];have hI:=zRj hw hl ha;refine zC4 hw (zCS h (zDF (zG3 d [])) ha ?_ ?_ (fun _ _=>rfl))
   ·rw[zAe (by omega),zAe hI]
   ·rw[zAe hI]
  ·rw[hl];rfl
theorem Conf.lose(h:Conf w0 U Φ0 w Φ rv E L){f:PV->PV}(hf:∀ p,f p=p\/(p.isWay=true/\f p = .bad)):Conf w0 U Φ0 w Φ rv (fun s=>(E s).mapW f) L:=by
 refine h.turn some f (zDF hf) (fun a b t ha hb=>by cases ha;cases hb;rfl) (fun a t ha=>by cases ha;exact⟨rfl,rfl,rfl⟩) (fun a ha=>by cases ha) fun a v hw ha=>?_;rcases hf a with hl|⟨_,hl⟩
 ·rw[hl];exact zC4 hw (zCS h (zDF hf) ha rfl rfl (fun _ _=>rfl))
 ·rw[hl];rfl
theorem Conf.drop(h:Conf w0 U Φ0 w Φ rv E L)(D:Nat->Bool):Conf w0 U Φ0 w Φ rv (fun s=>if D s then .bad else E s) (fun s=>if D s then[] else L s):=by
 refine h.turn (fun s=>if D s then none else some s) (fun x=>x) zCs ?_ ?_ ?_ ?_
 ·intro a b t ha hb;split at ha<;>split at hb<;>simp_all
 ·intro a t ha;split at ha
  ·cases ha
  ·rename_i e;cases ha;simp[e,zBl]
 ·intro a ha;split at ha
  ·rename_i e;simp[e]
  ·cases ha
 ·intro a v hw ha;refine zC4 hw ?_;by_cases hd:D (zBc a).1=true
  ·exact zLU ha (by simp[hd];rfl)
  ·exact zCS h zCs ha (by simp[hd,zBl]) rfl (fun _ _=>rfl)
theorem Conf.hold(h:Conf w0 U Φ0 w Φ rv E L){g:Nat}(hg:zAa<=g){p:PV}{v:Value}(hr:Rep w Φ (zBa w rv E) p v []) :
  Conf w0 U Φ0 w Φ (upd rv g v) (upd E g p) (upd L g []):=by
 have hA:∀ a u,a.isWay=true->zBa w rv E a u->zBa w (upd rv g v) (upd E g p) a u:=by
  intro a u _ ha;have:=zC7 ha;exact zCS h zCs ha (by rw[zAe (by omega),zBl]) (by rw[zAe (by omega)]) (fun _ _=>rfl)
 refine h.step (fun s=>if s=g then none else some s) (fun x=>x) g zCs ?_ ?_ ?_ (fun a u hw ha=>zC4 hw (hA a u hw ha)) (fun _=>?_) (fun _=>?_) (bf _) (fun _ _ _=>rfl) ⟨rfl,rfl,rfl⟩
 ·intro a b t ha hb;split at ha<;>split at hb<;>simp_all
 ·intro a t ha;split at ha
  ·cases ha
  ·rename_i e;cases ha;simp[zAe e,zBl]
 ·intro a ha;split at ha
  ·rename_i e;subst e;rw[zAi,zAi,zAi];exact⟨hr.mono zDq.refl hA (by simp),fun h=>absurd rfl h⟩
  ·cases ha
 ·rw[zAi];exact b8
 ·rw[zAi];simp
theorem Conf.make(h:Conf w0 U Φ0 w Φ rv E L){w':World}(G:Nat->Bool)(hG:∀ s,G s=true->zAa<=s){g:Nat}(hg:zAa<=g){p:PV}{v:Value}{Lp:LN}
  (hr:∀ A:Al,(∀ a u,a.isWay=true->zBa w rv E a u->A a u)->Rep w' Φ A p v Lp) (hd:Lp.Nodup)
  (ho:∀ b∈Lp,(∃ t,b∈L t/\G t=true)\/(w.heap.size<=b/\b<w'.heap.size))
  (hw:w.heap.size<=w'.heap.size) (hk:∀ b,b<w.heap.size->(∀ t,b∈L t->G t=false)->w'.heap[b]? = w.heap[b]?)
  (u4:w'.os=w.os/\w'.tape=w.tape/\w'.output=w.output) :
  Conf w0 U Φ0 w' Φ (upd rv g v) (upd (fun s=>if G s then .bad else E s) g p) (upd (fun s=>if G s then[] else L s) g Lp):=by
 have hA:∀ a u,a.isWay=true->zBa w rv E a u->zBa w' (upd rv g v) (upd (fun s=>if G s then .bad else E s) g p) a u:=by
  intro a u _ ha;have yG:=zC7 ha;have hI:(zBc a).1≠g:=by omega
  have hGn:G (zBc a).1=false:=by
   cases hb:G (zBc a).1 with
   |false=>rfl|true=>have:=hG _ hb;omega
  refine zCS h zCs ha (by rw[zAe hI];simp[hGn,zBl]) (by rw[zAe hI]) fun b hb=>hk b (h.own _ b hb).1 fun t ht=>?_;have:t=(zBc a).1:=b5 fun hn=>h.disj t _ hn b ht hb;rw[this];exact hGn
 refine h.step (fun s=>if s=g then none else if G s then none else some s) (fun x=>x) g zCs ?_ ?_ ?_ (fun a u hw ha=>zC4 hw (hA a u hw ha)) (fun _=>?_) (fun _=>?_) hw ?_ u4
 ·intro a b t ha hb;split at ha<;>split at hb<;>simp_all
 ·intro a t ha;split at ha
  ·cases ha
  ·rename_i e;split at ha
   ·cases ha
   ·rename_i e2;cases ha;simp[zAe e,zBl,e2]
 ·intro a ha;split at ha
  ·rename_i e;subst e;rw[zAi,zAi,zAi];exact⟨hr _ hA,fun h=>absurd rfl h⟩
  ·rename_i e;split at ha
   ·rename_i e2;rw[zAe e,zAe e,zAe e];exact⟨by simp[e2,Rep],fun _=>by simp[e2]⟩
   ·cases ha
 ·rw[zAi];exact hd
 ·rw[zAi];intro b hb;rcases ho b hb with⟨t,h1,h2⟩|h1
  ·refine .inl ⟨t,h1,fun s hs=>?_⟩;split at hs
   ·cases hs
   ·split at hs
    ·cases hs
    ·rename_i e2;cases hs;exact e2 h2
  ·exact .inr h1
 ·intro b hb hc;refine hk b hb fun t ht=>?_;obtain⟨s,hs⟩:=hc t ht;split at hs
  ·cases hs
  ·split at hs
   ·cases hs
   ·rename_i e2;cases hs;simpa using e2
theorem zCr.trans{p q r:PV}(h1:zCr p q)(h2:zCr q r):zCr p r:=by
 cases p<;>cases q<;>simp only[zCr] at h1<;>cases r<;>simp_all[zCr]
theorem zNw{A A':Al}(hA:∀ a v,a.isWay=true->A a v->A' a v):∀ {pre:zA4} {p:PV},∀ a v,a.isWay=true->zIG A p pre a v->zIG A' p pre a v
 |[],p,a,v,hw,h=>hA a v hw h
 | (i,c)::rest,p,a,v,hw,h=>by
  simp only[zIG] at h ⊢
  cases hc:Eng.child p i c with
  |none=>rw[hc] at h;exact h.elim|some q=>
   rw[hc] at h;exact zNw (zLu hA) a v hw h
def stays(f:PV->PV)(A:Al):Al:=fun a v=>A a v/\f a=a
theorem Conf.stays(h:Conf w0 U Φ0 w Φ rv E L){f:PV->PV}(hf:∀ p,f p=p\/(p.isWay=true/\f p = .bad))(s:Nat):Rep w Φ (stays f (zBa w rv E)) ((E s).mapW f) (rv s) (L s):=by
 refine Rep.map (zDF hf).agg zDq.refl (fun a v hw ha=>?_) _ _ _ (fun _ _=>rfl) (h.rep s);rcases hf a with hl|⟨_,hl⟩
 ·rw[hl];exact zC4 hw ⟨ha,hl⟩
 ·rw[hl];rfl
theorem Conf.mod(h:Conf w0 U Φ0 w Φ rv E L){r:Nat}(hr:r<zAa){f:PV->PV}(hf:∀ p,f p=p\/(p.isWay=true/\f p = .bad)){pre:zA4}{q:PV}
  (j1:((E r).mapW f).unlock=(E r).mapW f) (hn:zAH ((E r).mapW f) pre=some q) :
  ∃ nv Li,zA1 w (rv r) ((E r).mapW f) pre=some (nv,q)/\Rep w Φ (zIG (Eng.stays f (zBa w rv E)) ((E r).mapW f) pre) q nv Li/\Li.Nodup/\(∀ b∈Li,b∈L r) /\
   ∀ (G:Nat->Bool) (w':World) (q' root':PV) (Li':LN),(∀ s,G s=true->zAa<=s)->(pre≠[]->q'.isAgg=q.isAgg)->zAz (fun _=>some q') ((E r).mapW f) pre=some root'->root'.unlock=root' ->
    (∀ A:Al,(∀ a u,a.isWay=true->Eng.stays f (zBa w rv E) a u->A a u)->Rep w' Φ (zIG A ((E r).mapW f) pre) q' nv Li')->Li'.Nodup ->
    (∀ b∈Li',b∈Li\/(∃ t,b∈L t/\G t=true)\/(w.heap.size<=b/\b<w'.heap.size))->w.heap.size<=w'.heap.size ->
    (∀ b,b<w.heap.size->b∉Li->(∀ t,b∈L t->G t=false)->w'.heap[b]? = w.heap[b]?) ->
    (∀ rest nv2 np2,zA1 w' nv q' rest=some (nv2,np2)->np2.heavy0=true->(∀ a,a.isWay=true->zBc a=(r,pre++rest)->f a≠a)\/∃ np0,zA1 w nv q rest=some (nv2,np0)/\zCr np0 np2) ->
    (w'.os=w.os/\w'.tape=w.tape/\w'.output=w.output) ->
    ∃ L',(∀ s,s≠r->L' s=if G s then[] else L s)/\Conf w0 U Φ0 w' Φ rv (fun s=>if s=r then root' else if G s then .bad else(E s).mapW f) L':=by
 have hs:=h.stays hf r;obtain⟨nv,La,Li,Lb,vU,hL,hZ,wH,ua⟩:=Rep.zip pre hs hn;have y6:=h.nodup r;rw[hL] at y6;have hnd1:∀ b∈La++Lb,b∉Li:=by
  intro b hb uz;simp only[bK] at y6;rcases bj.1 hb with hb|hb
  ·exact y6.1.2.2 b hb b uz rfl
  ·exact y6.2.2 b (by simp[uz]) b hb rfl
 refine⟨nv,Li,vU,hZ,?_,fun b hb=>by rw[hL];simp[hb],?_⟩
 ·simp only[bK] at y6;exact y6.1.2.1
 intro G w' q' root' Li' hG jA hm yJ hR hd ho hw hk jx u4;have hkL:∀ t,G t=false->∀ b∈L t,b∉Li->w'.heap[b]? = w.heap[b]?:=by
  intro t ht b hb uz;refine hk b (h.own t b hb).1 uz fun t' ht'=>?_;have:t'=t:=b5 fun hI=>h.disj t' t hI b ht' hb;rw[this];exact ht
 have hGr:G r=false:=by
  cases hb:G r with
  |false=>rfl|true=>have:=hG _ hb;omega
 have hbLL:∀ b∈La++Lb,w'.heap[b]? = w.heap[b]?:=by
  intro b hb;exact hkL r hGr b (by rw[hL];simp at hb ⊢;rcases hb with h|h<;>simp[h]) (hnd1 b hb)
 have hLiL:∀ t,t≠r->∀ b∈L t,b∉Li:=by
  intro t hI b hb uz;exact h.disj t r hI b hb (by rw[hL];simp[uz])
 have hA : ∀ a u,a.isWay=true->zBa w rv E a u->f a=a->zBa w' rv (fun s=>if s=r then root' else if G s then .bad else(E s).mapW f) a u:=by
  intro a u u5 ha hfa;have yG:=zC7 ha;by_cases ub:(zBc a).1=r
  ·refine ha.mono fun nv2 np2 jX hh=>?_;simp only[ub,if_true] at jX ⊢;rw[yJ] at jX;have back:∀ np0,zA1 w (rv r) ((E r).mapW f) (zBc a).2=some (nv2,np0)->zCr np0 np2->∃ np0,zA1 w (rv r) (E r).unlock (zBc a).2=some (nv2,np0)/\zCr np0 np2:=by
    intro np0 h1 h2;rw[<- j1,zDx (zDF hf)] at h1;obtain⟨np1,h3,h4⟩:=zC8 (zDF hf) h1 (zDX h2);exact⟨np1,h3,h4.trans h2⟩
   rcases ua w' q' root' hbLL jA hm _ nv2 np2 jX hh with⟨rest,h1,h2⟩|⟨np0,h1,h2⟩
   ·rcases jx rest nv2 np2 h2 hh with h3|⟨np0,h3,h4⟩
    ·exact absurd hfa (h3 a u5 (fZ ub h1))
    ·refine back np0 ?_ h4;rw[h1,zDp,vU];exact h3
   ·exact back np0 h1 h2
  ·have hGa:G (zBc a).1=false:=by
    cases hb:G (zBc a).1 with
    |false=>rfl|true=>have:=hG _ hb;omega
   exact zCS h (zDF hf) ha (by simp[ub,hGa]) rfl fun b hb=>hkL _ hGa b hb (hLiL _ ub b hb)
 have hA':∀ a u,a.isWay=true->zBa w rv E a u->Rep w' Φ (zBa w' rv (fun s=>if s=r then root' else if G s then .bad else(E s).mapW f)) (f a) u []:=by
  intro a u u5 ha;rcases hf a with hl|⟨_,hl⟩
  ·rw[hl];exact zC4 u5 (hA a u u5 ha hl)
  ·rw[hl];rfl
 have hΦ:zDq w w' Φ Φ:=fun b hb=>⟨hb,hk b (h.frz b hb).1 (fun uz=>(h.own r b (by rw[hL];simp[uz])).2.1 hb) fun t j5=>absurd hb (h.own t b j5).2.1⟩;refine⟨fun s=>if s=r then La++Li'++Lb else if G s then[] else L s,fun s yT=>by simp[yT],?_⟩;refine h.step (fun s=>if s=r then none else if G s then none else some s) f r (zDF hf) ?_ ?_ ?_ hA' (fun _=>?_) (fun _=>?_) hw ?_ u4
 ·intro a b t ha hb;split at ha<;>split at hb<;>simp_all
 ·intro a t ha;split at ha
  ·cases ha
  ·rename_i e;split at ha
   ·cases ha
   ·rename_i e2;cases ha;simp[e,e2]
 ·intro a ha;by_cases e:a=r
  ·subst e;simp only[if_true];exact⟨wH w' Φ _ q' Li' root' (fun a u u5 ha=>hA a u u5 ha.1 ha.2) hΦ hbLL jA (hR _ fun a u u5 ha=>hA a u u5 ha.1 ha.2) hm,fun h=>absurd rfl h⟩
  ·simp only[e,if_false] at ha ⊢;split at ha
   ·rename_i e2;exact⟨by simp[e2,Rep],fun _=>by simp[e2]⟩
   ·cases ha
 ·simp only[if_true];simp only[bK] at y6 ⊢;have hx:∀ b∈Li',b∈La++Lb->False:=by
   intro b hb j0;have wo:b∈L r:=by rw[hL];simp at j0 ⊢;rcases j0 with h|h<;>simp[h]
   rcases ho b hb with h1|⟨t,h1,h2⟩|h1
   ·exact hnd1 b j0 h1
   ·have:t≠r:=fun e=>by rw[e,hGr] at h2;cases h2
    exact h.disj t r this b h1 wo
   ·have:=(h.own r b wo).1;omega
  refine⟨⟨y6.1.1,hd,fun a ha b hb e=>hx b hb (by subst e;simp[ha])⟩,y6.2.1,fun a ha b hb e=>?_⟩;subst e;rcases bj.1 ha with ha|ha
  ·exact y6.2.2 a (by simp[ha]) a hb rfl
  ·exact hx a ha (by simp[hb])
 ·simp only[if_true];intro b hb;have y7:∀ t,t=r\/G t=true->∀ s,(if s=r then none else if G s then none else some s)≠some t:=by
   intro t ht s hs;split at hs
   ·cases hs
   ·rename_i e;split at hs
    ·cases hs
    ·rename_i e2;cases hs;rcases ht with h|h
     ·exact e h
     ·exact e2 h
  rcases bj.1 hb with hb|hb
  ·rcases bj.1 hb with hb|hb
   ·exact .inl ⟨r,by rw[hL];simp[hb],y7 r (.inl rfl)⟩
   ·rcases ho b hb with h1|⟨t,h1,h2⟩|h1
    ·exact .inl ⟨r,by rw[hL];simp[h1],y7 r (.inl rfl)⟩
    ·exact .inl ⟨t,h1,y7 t (.inr h2)⟩
    ·exact .inr h1
  ·exact .inl ⟨r,by rw[hL];simp[hb],y7 r (.inl rfl)⟩
 ·intro b hb hc;have jf:b∉L r:=by
   intro wo;obtain⟨s,hs⟩:=hc r wo;split at hs
   ·cases hs
   ·rename_i e;split at hs
    ·cases hs
    ·cases hs;exact e rfl
  refine hk b hb (fun uz=>jf (by rw[hL];simp[uz])) fun t ht=>?_;obtain⟨s,hs⟩:=hc t ht;split at hs
  ·cases hs
  ·split at hs
   ·cases hs
   ·rename_i e2;cases hs;simpa using e2
theorem Conf.takeNode(h:Conf w0 U Φ0 w Φ rv E L){r g:Nat}(hr:r<zAa)(hg:zAa<=g){pre:zA4}{q root':PV}(j1:(E r).unlock=E r)(hn:zAH (E r) pre=some q)(jA:q.isAgg=false)
  (hm:zAz (fun _=>some .bad) (E r) pre=some root') (yJ:root'.unlock=root') :
  ∃ nv Li,zA1 w (rv r) (E r) pre=some (nv,q)/\Rep w Φ (zBa w rv E) q nv Li/\Li.Nodup/\(∀ b∈Li,b∈L r)/\∀ (p':PV) (v':Value) (Lg:LN),Rep w Φ (zBa w rv E) p' v' Lg->Lg.Nodup->(∀ b∈Lg,b∈Li\/b∈L g) ->
   ∃ L',Conf w0 U Φ0 w Φ (upd rv g v') (upd (upd E r root') g p') L'/\∀ s,s≠r->s≠g->L' s=L s:=by
 have kF:r≠g:=by omega
 obtain⟨nv,La,Li,Lb,vU,hL,hZ,wH,ua⟩:=Rep.zip pre (h.rep r) hn;have y6:=h.nodup r;rw[hL] at y6;simp only[bK] at y6;have yX:∀ b,b∈La++Lb->b∈L r:=fun b hb=>by rw[hL];simp at hb ⊢;rcases hb with h|h<;>simp[h]
 have qq:∀ b∈Li,b∈L r:=fun b hb=>by rw[hL];simp[hb]
 have vV:∀ b∈Li,b∉La++Lb:=by
  intro b hb j0;rcases bj.1 j0 with h2|h2
  ·exact y6.1.2.2 b h2 b hb rfl
  ·exact y6.2.2 b (by simp[hb]) b h2 rfl
 refine⟨nv,Li,vU,hZ.mono zDq.refl (fun _ _ _ h=>zEL h) (fun _ _=>rfl),y6.1.2.1,qq,fun p' v' Lg jp hLg hLgm=>?_⟩;have qr:∀ b∈Lg,b∉La++Lb:=by
  intro b hb j0;rcases hLgm b hb with h1|h1
  ·exact vV b h1 j0
  ·exact h.disj r g kF b (yX b j0) h1
 have hA:∀ a u,a.isWay=true->zBa w rv E a u->zBa w (upd rv g v') (upd (upd E r root') g p') a u:=by
  intro a u u5 ha;have yG:=zC7 ha;by_cases ub:(zBc a).1=r
  ·refine ha.mono fun nv2 np2 jX hh=>?_;rw[ub] at jX ⊢;rw[zAe kF,zAe kF,zAi,yJ] at jX;rcases ua w .bad root' (fun _ _=>rfl) (fun _=>jA.symm) hm _ nv2 np2 jX hh with⟨rest,h1,h2⟩|⟨np0,h1,h2⟩
   ·cases rest with
    |nil=>simp only[zA1,ba,bz] at h2;rw[<- h2.2] at hh;cases hh|cons x rest=>obtain⟨i,c⟩:=x;rw[zBb] at h2;simp[Eng.child,zA9] at h2
   ·rw[j1];exact⟨np0,h1,h2⟩
  ·exact zCS h zCs ha (by rw[zAe (by omega),zAe ub,zBl]) (by rw[zAe (by omega)]) (fun _ _=>rfl)
 refine⟨upd (upd L r (La++Lb)) g Lg,?_,fun s h1 h2=>by rw[zAe h2,zAe h1]⟩;refine h.step2 (fun s=>if s=r then none else if s=g then none else some s) (fun x=>x) zCs ?_ ?_ ?_ (fun a u u5 ha=>zC4 u5 (hA a u u5 ha)) ?_ ?_ ?_ (bf _) (fun _ _ _=>rfl) ⟨rfl,rfl,rfl⟩
 ·intro a b t ha hb;split at ha<;>split at hb<;>simp_all
 ·intro a t ha;split at ha
  ·cases ha
  ·rename_i e1;split at ha
   ·cases ha
   ·rename_i e2;cases ha;simp[zAe e1,zAe e2,zBl]
 ·intro a ha;by_cases e1:a=r
  ·subst e1;rw[zAe kF,zAe kF,zAe kF,zAi,zAi];have:=wH w Φ (zBa w (upd rv g v') (upd (upd E a root') g p')) .bad [] root' hA zDq.refl (fun _ _=>rfl) (fun _=>jA.symm) rfl hm;simpa using this
  ·have e2:a=g:=by
    rw[if_neg e1] at ha;by_cases e2:a=g
    ·exact e2
    ·rw[if_neg e2] at ha;cases ha
   subst e2;rw[zAi,zAi,zAi];exact jp.mono zDq.refl (fun a u hw h=>hA a u hw h) (fun _ _=>rfl)
 ·intro a ha;by_cases e1:a=r
  ·subst e1;rw[zAe kF,zAi,bK];exact⟨y6.1.1,y6.2.1,fun x hx y hy e=>y6.2.2 x (by simp[hx]) y hy e⟩
  ·rw[if_neg e1] at ha;by_cases e2:a=g
   ·subst e2;rw[zAi];exact hLg
   ·rw[if_neg e2] at ha;cases ha
 ·intro s s' hs jK hI b hb yL;have kN:s=r\/s=g:=by by_cases e1:s=r;exact .inl e1;rw[if_neg e1] at hs;by_cases e2:s=g;exact .inr e2;rw[if_neg e2] at hs;cases hs
  have hs2':s'=r\/s'=g:=by by_cases e1:s'=r;exact .inl e1;rw[if_neg e1] at jK;by_cases e2:s'=g;exact .inr e2;rw[if_neg e2] at jK;cases jK
  rcases kN with rfl|rfl<;>rcases hs2' with rfl|rfl
  ·exact hI rfl
  ·rw[zAe kF,zAi] at hb;rw[zAi] at yL;exact qr b yL hb
  ·rw[zAi] at hb;rw[zAe kF,zAi] at yL;exact qr b hb yL
  ·exact hI rfl
 ·intro s hs b hb;have kN:s=r\/s=g:=by by_cases e1:s=r;exact .inl e1;rw[if_neg e1] at hs;by_cases e2:s=g;exact .inr e2;rw[if_neg e2] at hs;cases hs
  have jf:∀ t,t=r\/t=g->∀ x,(if x=r then none else if x=g then none else some x)≠some t:=by
   intro t ht x hx;split at hx
   ·cases hx
   ·rename_i e1;split at hx
    ·cases hx
    ·rename_i e2;cases hx;rcases ht with h|h<;>contradiction
  rcases kN with rfl|rfl
  ·rw[zAe kF,zAi] at hb;exact .inl ⟨s,yX b hb,jf s (.inl rfl)⟩
  ·rw[zAi] at hb;rcases hLgm b hb with h1|h1
   ·exact .inl ⟨r,qq b h1,jf r (.inl rfl)⟩
   ·exact .inl ⟨s,h1,jf s (.inr rfl)⟩
end
end
end Go.Eng
namespace Go.Eng
open Go
theorem zBp:∀ ps:List PV,(zAt ps).length=ps.length
 |[]=>rfl|p::ps=>by simp[zAt,zBp ps]
theorem zKu:∀ (ps:List PV) (i:Nat),(zAt ps)[i]? = (ps[i]?).map zA0
 |[],i=>by simp[zAt]|p::ps,0=>by simp[zAt]|p::ps,i+1=>by simp only[zAt,fa];exact zKu ps i
theorem zCL:∀ ps:List PV,zAt ps=ps.map zA0
 |[]=>rfl|p::ps=>by simp[zAt,zCL ps]
theorem zDh(p:PV):(zA0 p).isAgg=p.isAgg:=by cases p<;>rfl
theorem zMT(p:PV):(zA0 p).cells=zAt p.cells:=by cases p<;>rfl
theorem zDc(p:PV):(zA0 p).cells.length=p.cells.length:=by rw[zMT,zBp]
theorem zHg(ps:List PV):(zAt ps).map PV.isAgg=ps.map PV.isAgg:=by
 rw[zCL,ir];exact d6 fun p _=>zDh p
section
variable {w:World} {Φ Φ':Nat->Prop}
mutual
theorem zEi{A:Al}(hΦ:∀ b,Φ b->Φ' b):∀ (p:PV) (v:Value) (L:LN),(∀ b∈L,Φ' b)->Rep w Φ A p v L->Rep w Φ' A (zA0 p) v []
 | .own sz xs,v,L,hL,h=>by
  obtain⟨h1,h2,h3⟩|⟨a,n,c,us,L',rfl,h1,h2,h3,h4,h5,h6,h7,h8,h9⟩:=h
  ·subst h1;exact⟨rfl,.inl ⟨rfl,none,0,h3,fun _=>rfl⟩⟩
  ·refine⟨rfl,.inr ⟨a,n,c,us,sz,by rw[zBp];exact h1,h2,by rw[zBp];exact h3,hL _ (by simp),h4.any,?_,⟨h7.1,by rw[zHg];exact h7.2⟩,by rw[zBp];exact h8,?_⟩⟩
   ·intro x hx;rw[zCL] at hx;obtain⟨y,hy,rfl⟩:=b4.1 hx;rw[zDc];exact h6 y hy
   ·exact zDB hΦ xs us L' (fun b hb=>hL b (by simp[hb])) h9
 |.box q,v,L,hL,h=>by
  obtain⟨a,c,u,L',rfl,h1,h2,h4,h5,h6,h7⟩:=h;exact⟨rfl,a,c,u,h1,h2,hL _ (by simp),h4.any,by rw[zDc];exact h5,by rw[zDc,zDh];exact h6,zEi hΦ q u L' (fun b hb=>hL b (by simp[hb])) h7⟩
 |.omap es,v,L,hL,h=>by
  obtain⟨b,ents,rfl,h1,h3,h4⟩:=h;exact⟨rfl,b,ents,h1,hL _ (by simp),h3,zD5.same (fun b hb=>⟨hΦ b hb,rfl⟩) es _ _ h4⟩
 |.agg cs,v,L,hL,h=>by
  obtain⟨vs,rfl,h⟩:=h;exact⟨vs,rfl,zDB hΦ cs _ L hL h⟩
 |.tup _,_,_,_,_=>rfl|.lock _,_,_,_,_=>rfl|.bad,_,_,_,_=>rfl|.und,_,_,_,h=>⟨h.1,rfl⟩|.int ..,_,_,_,h=>⟨h.1,rfl⟩|.bool _,_,_,_,h=>⟨h.1,rfl⟩|.nilp,_,_,_,h=>⟨h.1,rfl⟩|.nilf,_,_,_,h=>⟨h.1,rfl⟩|.nilm,_,_,_,h=>⟨h.1,rfl⟩|.nn,_,_,_,h=>⟨rfl,h.2⟩|.nils _,_,_,_,h=>⟨h.1,rfl⟩|.sl xs,v,L,_,h=>by have h0:=h.1;subst h0;exact h.mono (fun b hb=>⟨hΦ b hb,rfl⟩) (fun _ _ _ h=>h) (fun _ _=>rfl)
 |.ref q,v,L,_,h=>by have h0:=h.1;subst h0;exact h.mono (fun b hb=>⟨hΦ b hb,rfl⟩) (fun _ _ _ h=>h) (fun _ _=>rfl)
 |.map es,v,L,_,h=>by have h0:=h.1;subst h0;exact h.mono (fun b hb=>⟨hΦ b hb,rfl⟩) (fun _ _ _ h=>h) (fun _ _=>rfl)
 |.func _ _ _,v,L,_,h=>by have h0:=h.1;subst h0;exact h.mono (fun b hb=>⟨hΦ b hb,rfl⟩) (fun _ _ _ h=>h) (fun _ _=>rfl)
 |.addr ..,_,_,_,h=>⟨rfl,h.2⟩|.bor ..,_,_,_,h=>⟨rfl,h.2⟩|.bsl ..,_,_,_,h=>⟨rfl,h.2⟩|.bmap ..,_,_,_,h=>⟨rfl,h.2⟩|.yld _,_,_,_,h=>⟨rfl,h.2⟩|.log ..,_,_,_,h=>⟨rfl,h.2⟩
theorem zDB{A:Al}(hΦ:∀ b,Φ b->Φ' b):∀ (ps:List PV) (vs:List Value) (L:LN),(∀ b∈L,Φ' b)->zA8 w Φ A ps vs L->zA8 w Φ' A (zAt ps) vs []
 |[],_,_,_,h=>⟨h.1,rfl⟩|p::ps,vs,L,hL,h=>by
  obtain⟨v,vs',L1,L2,rfl,rfl,h1,h2⟩:=h;exact⟨v,vs',[],[],rfl,rfl,zEi hΦ p v L1 (fun b hb=>hL b (by simp[hb])) h1,zDB hΦ ps vs' L2 (fun b hb=>hL b (by simp[hb])) h2⟩
end
theorem zIn:∀ {pre:zA4} {p:PV} {v nv:Value} {np:PV},zA1 w v (zA0 p) pre=some (nv,np)->np.heavy0=false
 |[],p,v,nv,np,h=>by
  simp only[zA1,ba,bz] at h;obtain⟨_,rfl⟩:=h;cases p<;>rfl
 | (i, c)::rest,p,v,nv,np,h=>by
  rw[zBb] at h
  cases hc:Eng.child (zA0 p) i c with
  |none=>rw[hc] at h;cases h
  | some q =>
   rw[hc] at h;simp only[bc] at h
   cases hk:kid w v (zA0 p) i c with
   |none=>rw[hk] at h;cases h
   | some u =>
    rw[hk] at h;simp only[bc] at h;cases p<;>first|(simp[Eng.child,zA9,zA0] at hc;done)|skip
    rename_i cs
    cases i with
    |succ i=>simp[Eng.child,zA9,zA0] at hc|zero=>
     simp only[Eng.child,zA9,zA0,bc,bJ,PV.cells] at hc;rw[zKu] at hc
     cases hq:cs[c]? with
     |none=>rw[hq] at hc;cases hc|some q0=>rw[hq] at hc;simp only[bv,ba] at hc;subst hc;exact zIn h
end
theorem zGU{c:Array Value}{o n:Nat}{l:List Value}(hl:l.length=n)(h:∀ k u,l[k]? = some u->c[o+k]? = some u):seg c o n=l:=by
 apply cW;intro k;simp only[seg,cu,ck];by_cases hk:k<n
 ·rw [if_pos hk];have : ∃ u, l[k]? = some u := ⟨l[k]'(by omega), by simp [hl, hk]⟩;obtain ⟨u,hu⟩:=this;rw [hu,bS];exact h k u hu
 ·rw[if_neg hk,cV (by omega)]
section
variable {w:World} {Φ:Nat->Prop}
theorem zMm{A:Al}{np:PV}{nv:Value}{Li:LN}(h:Rep w Φ A np nv Li){xs:List PV}(hx:zBi np=some xs){i:Nat}{x:PV}(hi:xs[i]? = some x) :
  ∃ ux row ad Lx,ad.block∈Li/\ad.spot=none/\zE2 w ad.block row/\(∀ b∈Lx,b∈Li)/\(∀ c,zBd nv np i c=some (zAv ad c)) /\
   (∀ c n,c+n<=x.cells.length->seg row (ad.off+c) n=(ux.cells.toList.drop c).take n)/\zCv ux=x.isAgg/\ux.cells.size=x.cells.length/\Rep w Φ (zGS A np) x ux Lx:=by
 cases np<;>simp only[zBi] at hx<;>try cases hx
 case own sz=>
  obtain⟨h1,h2,h3⟩|⟨a,n,r,us,L',rfl,h1,h2,h3,h4,h5,h6,⟨h7,u3⟩,h8,h9⟩:=h
  ·subst h1;simp at hi
  ·obtain⟨ux,La,Lx,Lb,hu,rfl,hr,_,_⟩:=h9.split hi;have hg:zCv ux=x.isAgg:=by
    have h1:(us.map zCv)[i]? = some (zCv ux):=by simp[hu]
    have h2:(xs.map PV.isAgg)[i]? = some x.isAgg:=by simp[hi]
    rw[u3] at h1;rw[h1] at h2;simpa using h2
   have yI:ux.cells.size=x.cells.length:=by rw[h7 ux (bH hu),h6 x (bH hi)]
   subst h1;refine⟨ux,r,zAv a (i*sz),Lx,by simp[zAv],rfl,h4,fun b hb=>by simp[hb],fun c=>by simp[zBd,zAv,cg],?_,hg,yI,hr⟩;intro c m hcm;refine zGU (by simp;omega) fun k u hk=>?_;simp only[cu,ck] at hk;split at hk
   ·have hf:=zEc h7 hu hk;rw[<- h8] at hf;have:=zDj hf;simp only[zAv];rw[show a.off+i*sz+c+k=a.off+(i*sz+(c+k)) by omega];exact this
   ·cases hk
 case box q0=>
  obtain⟨a,r,u0,L',rfl,h1,h2,h4,h5,⟨h6,uv⟩,h7⟩:=h;have j8:i=0:=by
   cases i with
   |zero=>rfl|succ i=>simp at hi
  subst j8;simp at hi;subst hi;subst h1;refine⟨u0,r,a,L',by simp,h2,h4,fun b hb=>by simp[hb],fun c=>rfl,?_,uv,h6,h7⟩;intro c m hcm;refine zGU (by simp;omega) fun k u hk=>?_;simp only[cu,ck] at hk;split at hk
  ·have:=zDj (c:=r) (o:=a.off) (n:=q0.cells.length) (k:=c+k) (u:=u) (by rw[h5];exact hk);rw[cg];exact this
  ·cases hk
end
theorem zCE(u:Value)(us:List Value):flat (u::us)=u.cells.toList++flat us:=rfl
theorem zKa{sz:Nat}:∀ {us:List Value},(∀ u∈us,u.cells.size=sz)->∀ lo,(flat us).drop (lo*sz)=flat (us.drop lo)
 |[],_,lo=>by simp[flat]|u::us,h,0=>by simp|u::us,h,lo+1=>by
  have hu:u.cells.toList.length=sz:=by simpa using h u (by simp)
  rw[zCE,cZ,iQ,<- dA,List.drop_left' hu];exact zKa (fun u hu=>h u (by simp[hu])) lo
theorem zJb{sz:Nat}:∀ {us:List Value},(∀ u∈us,u.cells.size=sz)->∀ n,(flat us).take (n*sz)=flat (us.take n)
 |[],_,n=>by simp[flat]|u::us,h,0=>by simp[flat]|u::us,h,n+1=>by
  have hu:u.cells.toList.length=sz:=by simpa using h u (by simp)
  rw[d7,zCE,zCE,cZ,iQ,iu,bw (by omega),hu];congr 1;rw[show sz+n*sz-sz=n*sz by omega];exact zJb (fun u hu=>h u (by simp[hu])) n
theorem zBr{sz:Nat}:∀ {us:List Value},(∀ u∈us,u.cells.size=sz)->(flat us).length=us.length*sz
 |[],_=>by simp[flat]|u::us,h=>by
  have hu:u.cells.toList.length=sz:=by simpa using h u (by simp)
  rw[zCE,bu,hu,zBr (fun u hu=>h u (by simp[hu])),bD,cZ,iQ]
theorem zIL{c:Array Value}{o sz m:Nat}{us:List Value}(hs:∀ u∈us,u.cells.size=sz)(hm:us.length=m)(h:seg c o (m*sz)=flat us){lo n:Nat}(hn:lo+n<=m) :
  seg c (o+lo*sz) (n*sz)=flat ((us.drop lo).take n):=by
 have h1:seg c (o+lo*sz) (n*sz)=(((seg c o (m*sz)).drop (lo*sz)).take (n*sz)):=by
  apply cW;intro k;simp only[seg,cu,ck];by_cases hk:k<n*sz
  ·have:lo*sz+n*sz<=m*sz:=by rw[<- cS];exact cY _ hn
   rw[if_pos hk,if_pos hk,if_pos (by omega),cg]
  ·rw[if_neg hk,if_neg hk]
 rw[h1,h,zKa hs,zJb (fun u hu=>hs u (cz hu))]
theorem zA8.map_isAgg{us:List Value}{xs:List PV}(h:us.map zCv=xs.map PV.isAgg)(lo n:Nat):((us.drop lo).take n).map zCv=((xs.drop lo).take n).map PV.isAgg:=by
 rw[fp,fq,h,fp,fq]
section
variable {w:World} {Φ Φ':Nat->Prop} {rv:Nat->Value} {E E':Nat->PV}
theorem zB2{A:Al}{ps:List PV}{us:List Value}(h:zA8 w Φ A ps us [])(c n:Nat):zA8 w Φ A ((ps.drop c).take n) ((us.drop c).take n) []:=by
 have key:∀ (ps:List PV) (us:List Value) (c n:Nat),zA8 w Φ A ps us []->zA8 w Φ A ((ps.drop c).take n) ((us.drop c).take n) []:=by
  intro ps
  induction ps with
  |nil=>intro us c n h;rw[h.1];simp[zA8]
  | cons p ps ih =>
   intro us c n h;obtain⟨v,vs,L1,L2,rfl,hL,h1,h2⟩:=h;obtain⟨rfl,rfl⟩:L1=[]/\L2=[]:=by simpa using hL.symm
   cases c with
   |succ c=>simpa using ih vs c n h2|zero=>
    cases n with
    |zero=>simp[zA8]|succ n=>exact⟨v,_,[],[],rfl,rfl,h1,by simpa using ih vs 0 n h2⟩
 exact key ps us c n h
theorem zDd{a:PV}{v:Value}(hw:a.isWay=true)(h:zBa w rv E a v):v.oneCell'=true:=by
 cases a<;>first|cases hw|skip
 ·obtain⟨_,a,rfl,_⟩:=h;rfl
 ·obtain⟨_,⟨a,c,rfl,_⟩,_⟩:=h;rfl
 ·obtain⟨_,a,c,rfl,_⟩:=h;rfl
 ·obtain⟨_,⟨b,rfl⟩,_⟩:=h;rfl
 ·exact h.elim
theorem zCi{A:Al}(hA:∀ a v,a.isWay=true->A a v->v.oneCell'=true){q:PV}{u:Value}{L:LN}(h:Rep w Φ A q u L)(hq:q.oneCell=true):u.oneCell'=true:=by
 cases q<;>first|cases hq|skip
 case int=>rw[h.1];rfl
 case bool=>rw[h.1];rfl
 case nilp=>rw[h.1];rfl
 case nilf=>rw[h.1];rfl
 case nilm=>rw[h.1];rfl
 case nn=>obtain⟨_,a,n,rfl⟩:=h;rfl
 case nils=>rw[h.1];rfl
 case sl=>obtain⟨_,⟨_,a,n,rfl,_⟩|⟨a,n,c,us,sz,rfl,_⟩⟩:=h<;>rfl
 case own=>obtain⟨_,_,rfl⟩|⟨a,n,c,us,L',_,rfl,_⟩:=h<;>rfl
 case ref=>obtain⟨_,a,c,u,rfl,_⟩:=h;rfl
 case box=>obtain⟨a,c,u,L',_,rfl,_⟩:=h;rfl
 case map=>obtain⟨_,b,e,rfl,_⟩:=h;rfl
 case omap=>obtain⟨b,e,_,rfl,_⟩:=h;rfl
 case func=>obtain⟨_,fs,cs,rfl,_⟩:=h;rfl
 all_goals exact hA _ _ rfl h.2
theorem zBO{v:Value}(h:v.oneCell'=true):v.cells=#[v]/\zCv v=false:=by
 cases v<;>first|exact⟨rfl,rfl⟩|cases h
theorem zBo{p:PV}(h:p.oneCell=true):p.cells=[p]/\p.isAgg=false:=by
 cases p<;>first|exact⟨rfl,rfl⟩|cases h
theorem zRr{A A':Al}(qJ:∀ a v,a.isWay=true->A a v->v.oneCell'=true)(hΦ:∀ b,Φ b->Φ' b)(hA:∀ a v,a.isWay=true->A a v->A' a v){x:PV}{xv:Value}{Lx:LN}(hx:Rep w Φ A x xv Lx)(hL:∀ b∈Lx,Φ' b){i c:Nat}{sh:ON}{v:Value}{a:Addr}
  (hv:v = .pointer (some a)) (ha:∀ a',zBd xv x i c=some a'->a=a'):Rep w Φ' A' (zDI i c sh x) v []:=by
 simp only[zDI]
 cases hh:zBi x with
 |none=>rfl
 | some xs =>
  simp only
  cases hi:xs[i]? with
  |none=>rfl
  | some y =>
   simp only;obtain⟨ux,row,ad,Ly,h1,h2,h3,h4,h5,h6,h7,h8,h9⟩:=zMm hx hh hi;have jQ:=ha _ (h5 c);have hbel:∀ a v,a.isWay=true->zGS A x a v->A' a v:=fun a v hw h=>hA a v hw (zGk h)
   cases sh with
   | some m =>
    simp only;by_cases yS:c+m<=y.cells.length
    ·rw[cU yS]
     cases hya:y.isAgg with
     |false=>rfl
     | true =>
      simp only[dT,cond_true];cases y<;>simp[PV.isAgg] at hya;rename_i cs;obtain⟨vs,rfl,hr⟩:=h9;have je:=zB2 (zDB hΦ cs _ Ly (fun b hb=>hL b (h4 b hb)) hr) c m;have yA:=hr.length;refine⟨rfl,a,row,.agg ((vs.toList.drop c).take m).toArray,hv,by rw[jQ];rfl,by rw[jQ];exact hL _ h1,by rw[jQ];exact h3.any,?_,⟨?_,rfl⟩,?_⟩
      ·rw[jQ];simp only[zAv,PV.cells,zBp,Value.cells];have:=h6 c m yS;simp only[PV.cells] at yS;rw[show((cs.drop c).take m).length=m by simp;omega,this];rfl
      ·simp only[Value.cells,PV.cells,zBp];simp at yA ⊢;omega
      ·refine⟨_,rfl,?_⟩;have e:zAt ((cs.drop c).take m)=((zAt cs).drop c).take m:=by rw[zCL,zCL,fp,fq]
       simp only[PV.cells] ;rw[e];exact je.mono zDq.refl hbel (by simp)
    ·have:ble (c+m) y.cells.length=false:=by
      cases hb:ble (c+m) y.cells.length with
      |false=>rfl|true=>exact absurd (br hb) yS
     rw[this];rfl
   | none =>
    simp only
    cases hc:y.cells[c]? with
    |none=>rfl
    | some q =>
     simp only;obtain⟨u,La,Lu,Lb,hu,wI,uG,_,_⟩:=h9.cell hc h7;have yN:c<y.cells.length:=(bg.1 hc).1
     cases kb:q.oneCell with
     |false=>rfl
     | true =>
      simp only[cond_true];have uA:=zBO (zCi (fun a v hw h=>qJ a v hw (zGk h)) uG kb);have wJ:=zBo kb;refine⟨rfl,a,row,u,hv,by rw[jQ];rfl,by rw[jQ];exact hL _ h1,by rw[jQ];exact h3.any,?_,⟨?_,?_⟩,?_⟩
      ·rw[jQ,zDc,wJ.1,uA.1];have:=h6 c 1 (by omega);simp only[zAv,bT];rw[this];have:c<ux.cells.toList.length:=by simpa[h8] using yN
       rw[b6 this];have:ux.cells.toList[c]=u:=by rw[bl this] at hu;simpa using hu
       simp[this]
      ·rw[zDc,wJ.1,uA.1];rfl
      ·rw[zDh,wJ.2,uA.2]
      ·exact(zEi hΦ q u Lu (fun b hb=>hL b (h4 b (by rw[wI];simp[hb]))) uG).mono zDq.refl hbel (by simp)
end
theorem zMI{u u':Value}(h:u.cells.toList=u'.cells.toList)(ha:zCv u=zCv u'):u=u':=by
 have hc:u.cells=u'.cells:=by
  have:=congrArg List.toArray h;simpa using this
 cases hu:zCv u with
 |true=>
  rw[hu] at ha;cases u<;>simp[zCv] at hu;cases u'<;>simp[zCv] at ha;exact congrArg Value.agg hc
 |false=>
  rw[hu] at ha;have h1:u.cells=#[u]:=by cases u<;>first|rfl|simp[zCv] at hu
  have h2:u'.cells=#[u']:=by cases u'<;>first|rfl|simp[zCv] at ha
  rw[h1,h2] at hc;simpa using hc
theorem zPd{sz:Nat}:∀ {us us':List Value},(∀ u∈us,u.cells.size=sz)->(∀ u∈us',u.cells.size=sz)->us.map zCv=us'.map zCv->flat us=flat us'->us=us'
 |[],[],_,_,_,_=>rfl|[],_::_,_,_,h,_=>by simp at h|_::_,[],_,_,h,_=>by simp at h
 | u :: us,u'::us',h1,h2,ha,hf=>by
  simp only[bL,fc] at ha;rw[zCE,zCE] at hf;have hl:u.cells.toList.length=u'.cells.toList.length:=by
   have:=h1 u (by simp);have:=h2 u' (by simp);simp;omega
  obtain⟨h3,h4⟩:=List.append_inj hf hl;rw[zMI h3 ha.1,zPd (fun u hu=>h1 u (by simp[hu])) (fun u hu=>h2 u (by simp[hu])) ha.2 h4]
section
variable {w:World} {Φ Φ':Nat->Prop}
theorem zE2.uniq{b:Nat}{c c':Array Value}(h:zE2 w b c)(h':zE2 w b c'):c=c':=by
 obtain⟨e,h⟩:=h;obtain⟨e',h'⟩:=h';rw[h] at h';cases h';rfl
mutual
theorem Rep.uniq{A A':Al}:∀ (p:PV) (v:Value) (L L':LN),Rep w Φ A p v L->Rep w Φ' A' p v L'->L=L'
 | .own sz xs,v,L,L',h,h'=>by
  obtain⟨h1,h2,h3⟩|⟨a,n,c,us,M,rfl,h1,h2,h3,h4,h5,h6,h7,h8,h9⟩:=h
  ·obtain⟨_,g2,_⟩|⟨a,n,c,us,M,rfl,g1,_⟩:=h'
   ·rw[h2,g2]
   ·rw[h3] at g1;cases g1
  ·obtain⟨_,_,g3⟩|⟨a',n',c',us',M',rfl,g1,g2,g3,g4,g5,g6,g7,g8,g9⟩:=h'
   ·rw[h1] at g3;cases g3
   ·rw[h1] at g1;cases g1;have:=h4.uniq g4;subst this;have:us=us':=zPd h7.1 g7.1 (h7.2.trans g7.2.symm) (h8.symm.trans g8);subst this;rw[zA8.uniq xs us M M' h9 g9]
 |.box q,v,L,L',h,h'=>by
  obtain⟨a,c,u,M,rfl,h1,h2,h4,h5,h6,h7⟩:=h;obtain⟨a',c',u',M',rfl,g1,g2,g4,g5,g6,g7⟩:=h';rw[h1] at g1;cases g1;have:=h4.uniq g4;subst this;have:u=u':=zMI (h5.symm.trans g5) (h6.2.trans g6.2.symm);subst this;rw[Rep.uniq q u M M' h7 g7]
 |.omap es,v,L,L',h,h'=>by
  obtain⟨b,ents,rfl,h1,h3,h4⟩:=h;obtain⟨b',ents',rfl,g1,g3,g4⟩:=h';rw[h1] at g1;cases g1;rfl
 |.agg cs,v,L,L',h,h'=>by
  obtain⟨vs,rfl,h⟩:=h;obtain⟨vs',g1,h'⟩:=h';cases g1;exact zA8.uniq cs _ L L' h h'
 |.tup cs,v,L,L',h,h'=>by
  obtain⟨vs,rfl,h⟩:=h;obtain⟨vs',g1,h'⟩:=h';cases g1;exact zA8.uniq cs _ L L' h h'
 |.lock q,v,L,L',h,h'=>Rep.uniq q v L L' h h'|.bad,_,_,_,h,h'=>by rw[show _=_ from h,show _=_ from h']|.und,_,_,_,h,h'=>by rw[h.2,h'.2]|.int ..,_,_,_,h,h'=>by rw[h.2,h'.2]|.bool _,_,_,_,h,h'=>by rw[h.2,h'.2]|.nilp,_,_,_,h,h'=>by rw[h.2,h'.2]|.nilf,_,_,_,h,h'=>by rw[h.2,h'.2]|.nilm,_,_,_,h,h'=>by rw[h.2,h'.2]|.nn,_,_,_,h,h'=>by rw[h.1,h'.1]|.nils _,_,_,_,h,h'=>by rw[h.2,h'.2]|.sl xs,_,_,_,h,h'=>by rw[h.1,h'.1]|.ref q,_,_,_,h,h'=>by rw[h.1,h'.1]|.map es,_,_,_,h,h'=>by rw[h.1,h'.1]|.func _ _ _,_,_,_,h,h'=>by rw[h.1,h'.1]|.addr ..,_,_,_,h,h'=>by rw[h.1,h'.1]|.bor ..,_,_,_,h,h'=>by rw[h.1,h'.1]|.bsl ..,_,_,_,h,h'=>by rw[h.1,h'.1]|.bmap ..,_,_,_,h,h'=>by rw[h.1,h'.1]|.yld _,_,_,_,h,h'=>by rw[h.1,h'.1]|.log ..,_,_,_,h,h'=>by rw[h.1,h'.1]
theorem zA8.uniq{A A':Al}:∀ (ps:List PV) (vs:List Value) (L L':LN),zA8 w Φ A ps vs L->zA8 w Φ' A' ps vs L'->L=L'
 |[],_,_,_,h,h'=>by rw[h.2,h'.2]|p::ps,vs,L,L',h,h'=>by
  obtain⟨v,vs',L1,L2,rfl,rfl,h1,h2⟩:=h;obtain⟨v',vs'',M1,M2,g0,rfl,g1,g2⟩:=h';cases g0;rw[Rep.uniq p v L1 M1 h1 g1,zA8.uniq ps vs' L2 M2 h2 g2]
end
end
theorem zIk{w:World}{Φ Φ':Nat->Prop}{A A':Al}(hΦ:∀ b,Φ b->Φ' b){x:PV}{xv:Value}{Lx:LN}(hx:Rep w Φ A x xv Lx)(hL:∀ b∈Lx,Φ' b){z lo n:Nat}{v:Value}
  (ha:∀ sz xs,x = .own sz xs->z=sz/\zBX v xv sz lo n):Rep w Φ' A' (zCH lo n x) v []:=by
 cases x<;>try rfl
 rename_i sz xs;simp only[zCH];by_cases yS:lo+n<=xs.length
 ·rw [cU yS];simp only [cond_true];obtain ⟨_,hs⟩:=ha sz xs rfl;obtain ⟨h1,h2,h3⟩ | ⟨a,m,c,us,M,rfl,h1,h2,h3,h4,h5,h6,h7,h8,h9⟩:=hx
  ·subst h1;subst h3;have hn:n=0:=by simp at yS;omega
   subst hn;refine⟨rfl,.inl ⟨by simp[zAt],none,0,hs.1,fun _=>rfl⟩⟩
  ·subst h1;obtain⟨rfl,yV⟩:=hs;have jG:us.length=xs.length:=by have:=congrArg length h7.2;simpa using this
   by_cases hn:n=0
   ·subst hn;exact⟨rfl,.inl ⟨by simp[zAt],_,_,rfl,fun h=>by cases h⟩⟩
   ·refine⟨rfl,.inr ⟨zAv a (lo*sz),m-lo,c,(us.drop lo).take n,sz,?_,rfl,?_,hL _ (by simp[zAv]),h4.any,?_,⟨?_,?_⟩,?_,?_⟩⟩
    ·rw[zBp,show((xs.drop lo).take n).length=n by simp;omega]
    ·rw[zBp];simp;omega
    ·intro y hy;rw[zCL] at hy;obtain⟨y,wp,rfl⟩:=b4.1 hy;rw[zDc];exact h6 y (cz (cJ wp))
    ·intro u hu;exact h7.1 u (cz (cJ hu))
    ·rw[zHg];exact zA8.map_isAgg h7.2 lo n
    ·rw[zBp,show((xs.drop lo).take n).length=n by simp;omega];exact zIL h7.1 jG h8 (by omega)
    ·have e:zAt ((xs.drop lo).take n)=((zAt xs).drop lo).take n:=by rw[zCL,zCL,fp,fq]
     rw[e];exact zB2 (zDB hΦ xs us M (fun b hb=>hL b (by simp[hb])) h9) lo n
 ·have:ble (lo+n) xs.length=false:=by
   cases hb:ble (lo+n) xs.length with
   |false=>rfl|true=>exact absurd (br hb) yS
  rw[this];rfl
theorem zHd{w:World}{Φ Φ':Nat->Prop}{A A':Al}(hΦ:∀ b,Φ b->Φ' b){x:PV}{xv:Value}{Lx:LN}(hx:Rep w Φ A x xv Lx)(hL:∀ b∈Lx,Φ' b){v:Value}
  (ha:∀ es,x = .omap es->v=xv):Rep w Φ' A' (zES x) v []:=by
 cases x<;>try rfl
 rename_i es;obtain⟨b,ents,rfl,h1,h3,h4⟩:=hx;refine⟨rfl,b,ents,(ha es rfl).trans h1,hL _ (by simp),h3,zD5.same (fun b hb=>⟨hΦ b hb,rfl⟩) es _ _ h4⟩
section
variable {w:World} {Φ Φ':Nat->Prop}
mutual
theorem Rep.ways{A A':Al}:∀ (p:PV) (v:Value) (L:LN),(∀ a v,a.isWay=true->(∀ x∈a.ways,x∈p.ways)->A a v->A' a v)->Rep w Φ A p v L->Rep w Φ A' p v L
 |.bad,_,_,_,h=>h|.und,_,_,_,h=>h|.int ..,_,_,_,h=>h|.bool _,_,_,_,h=>h|.nilp,_,_,_,h=>h|.nilf,_,_,_,h=>h|.nilm,_,_,_,h=>h|.nn,_,_,_,h=>h|.nils _,_,_,_,h=>h|.agg cs,v,L,hA,h=>by
  obtain⟨vs,rfl,h⟩:=h;exact⟨vs,rfl,zA8.ways cs _ L (fun a v hw hx ha=>hA a v hw hx ha) h⟩
 |.tup cs,v,L,hA,h=>by
  obtain⟨vs,rfl,h⟩:=h;exact⟨vs,rfl,zA8.ways cs _ L (fun a v hw hx ha=>hA a v hw hx ha) h⟩
 |.sl xs,_,_,_,h=>h|.own sz xs,_,_,_,h=>h|.ref q,v,L,hA,h=>by
  obtain⟨rfl,a,c,u,h1,h2,h3,h4,h5,h6,h7⟩:=h;exact⟨rfl,a,c,u,h1,h2,h3,h4,h5,h6,Rep.ways q u [] (fun a v hw hx ha=>hA a v hw hx ha) h7⟩
 |.box q,v,L,hA,h=>by
  obtain⟨a,c,u,L',h0,h1,h2,h4,h5,h6,h7⟩:=h;exact⟨a,c,u,L',h0,h1,h2,h4,h5,h6,Rep.ways q u L' (fun a v hw hx ha=>hA a v hw hx ha) h7⟩
 |.map es,_,_,_,h=>h|.omap es,_,_,_,h=>h|.func g a b,v,L,hA,h=>by
  obtain⟨rfl,fs,cs,h1,h2,h3⟩:=h;exact⟨rfl,fs,cs,h1,zA8.ways a _ [] (fun x v hw hx ha=>hA x v hw (fun y hy=>bj.2 (.inl (hx y hy))) ha) h2,zA8.ways b _ [] (fun x v hw hx ha=>hA x v hw (fun y hy=>bj.2 (.inr (hx y hy))) ha) h3⟩
 |.addr ..,v,L,hA,h=>⟨h.1,hA _ _ rfl (fun _ h=>h) h.2⟩
 |.bor ..,v,L,hA,h=>⟨h.1,hA _ _ rfl (fun _ h=>h) h.2⟩
 |.bsl ..,v,L,hA,h=>⟨h.1,hA _ _ rfl (fun _ h=>h) h.2⟩
 |.bmap ..,v,L,hA,h=>⟨h.1,hA _ _ rfl (fun _ h=>h) h.2⟩
 |.lock q,v,L,hA,h=>Rep.ways q v L (fun a v hw hx ha=>hA a v hw hx ha) h
 |.yld _,v,L,hA,h=>h|.log ..,v,L,hA,h=>⟨h.1,hA _ _ rfl (fun _ h=>h) h.2⟩
theorem zA8.ways{A A':Al}:∀ (ps:List PV) (vs:List Value) (L:LN),(∀ a v,a.isWay=true->(∀ x∈a.ways,x∈zBx ps)->A a v->A' a v)->zA8 w Φ A ps vs L->zA8 w Φ A' ps vs L
 |[],_,_,_,h=>h|p::ps,vs,L,hA,h=>by
  obtain⟨v,vs',L1,L2,h0,h1,h2,h3⟩:=h;exact⟨v,vs',L1,L2,h0,h1,Rep.ways p v L1 (fun a v hw hx ha=>hA a v hw (fun y hy=>bj.2 (.inl (hx y hy))) ha) h2,zA8.ways ps vs' L2 (fun a v hw hx ha=>hA a v hw (fun y hy=>bj.2 (.inr (hx y hy))) ha) h3⟩
end
mutual
theorem zGW:∀ p:PV,∀ x∈(zA0 p).ways,x∈p.ways
 |.agg cs,x,h=>zHG cs x h|.box q,x,h=>zGW q x h|.own ..,x,h=>by cases h|.omap _,x,h=>by cases h|.tup _,x,h=>by cases h|.lock _,x,h=>by cases h|.bad,_,h=>h|.und,_,h=>h|.int ..,_,h=>h|.bool _,_,h=>h|.nilp,_,h=>h|.nilf,_,h=>h|.nilm,_,h=>h|.nn,_,h=>h|.nils _,_,h=>h|.sl _,_,h=>h|.ref _,_,h=>h|.map _,_,h=>h|.func ..,_,h=>h|.addr ..,_,h=>h|.bor ..,_,h=>h|.bsl ..,_,h=>h|.bmap ..,_,h=>h|.yld _,_,h=>h|.log ..,_,h=>h
theorem zHG:∀ ps:List PV,∀ x∈zBx (zAt ps),x∈zBx ps
 |[],_,h=>h|p::ps,x,h=>by
  simp only[zAt,zBx,bj] at h ⊢;rcases h with h|h
  ·exact .inl (zGW p x h)
  ·exact .inr (zHG ps x h)
end
theorem zKF(p:PV):(zA0 p).oneCell=p.oneCell:=by cases p<;>rfl
theorem zEf(ag:Bool)(sz:Nat):∀ (m:Nat) (cs:List PV),(zCw ag sz m cs).length=m
 |0,_=>rfl|m+1,cs=>by simp[zCw,zEf ag sz m]
theorem zGp{A:Al}(hA:∀ a v,a.isWay=true->A a v->v.oneCell'=true){ag:Bool}{sz:Nat}:∀ (m:Nat) (ps:List PV) (us:List Value),ps.length=m*sz->(ag=false->sz=1/\∀ q∈ps,q.oneCell=true)->zA8 w Φ A ps us [] ->
  ∃ us',zA8 w Φ A (zCw ag sz m ps) us' []/\flat us'=us/\(∀ u∈us',u.cells.size=sz)/\us'.map zCv=(zCw ag sz m ps).map PV.isAgg/\∀ x∈zCw ag sz m ps,x.cells.length=sz
 |0,ps,us,hl,_,h=>by
  have:ps=[]:=bq (by simpa using hl);subst this;exact⟨[],⟨rfl,rfl⟩,by rw[h.1];rfl,by simp,rfl,by simp[zCw]⟩
 | m + 1,ps,us,hl,ho,h=>by
  have jG:=h.length;rw[cZ] at hl;have h1:zA8 w Φ A (ps.take sz) (us.take sz) []:=by simpa using zB2 h 0 sz
  have h2:zA8 w Φ A (ps.drop sz) (us.drop sz) []:=by
   have:=zB2 h sz (ps.length-sz);rwa[bw (by simp),bw (by simp;omega)] at this
  obtain⟨us',h3,h4,h5,h6,h7⟩:=zGp hA (ag:=ag) (sz:=sz) m (ps.drop sz) (us.drop sz) (by simp;omega) (fun jj=>⟨(ho jj).1,fun q hq=>(ho jj).2 q (cz hq)⟩) h2
  cases ag with
  | true =>
   refine⟨.agg (us.take sz).toArray::us',⟨_,us',[],[],rfl,rfl,⟨_,rfl,by simpa using h1⟩,h3⟩,?_,?_,?_,?_⟩
   ·rw[zCE,h4];simp[Value.cells]
   ·intro u hu;rcases bx.1 hu with rfl|hu
    ·simp[Value.cells];omega
    ·exact h5 u hu
   ·simp only[zCw,cond_true,bL,h6];rfl
   ·intro x hx;simp only[zCw,cond_true] at hx;rcases bx.1 hx with rfl|hx
    ·simp[PV.cells];omega
    ·exact h7 x hx
  | false =>
   obtain⟨vA,yQ⟩:=ho rfl;subst vA
   match ps,us,h,yQ,hl with
   | p :: ps,us,h,yQ,hl =>
    obtain⟨v,vs',L1,L2,rfl,hL,g1,g2⟩:=h;obtain⟨rfl,rfl⟩:L1=[]/\L2=[]:=by simpa using hL.symm
    have hp:=yQ p (by simp);have k1:=zBO (zCi hA g1 hp);have k2:=zBo hp;refine⟨v::us',⟨v,us',[],[],rfl,rfl,g1,h3⟩,?_,?_,?_,?_⟩
    ·rw[zCE,h4,k1.1];simp
    ·intro u hu;rcases bx.1 hu with rfl|hu
     ·rw[k1.1];rfl
     ·exact h5 u hu
    ·simp only[zCw,cond_false,List.headD_cons,bL,k1.2,k2.2];congr 1
    ·intro x hx;simp only[zCw,cond_false,List.headD_cons] at hx;rcases bx.1 hx with rfl|hx
     ·rw[k2.1];rfl
     ·exact h7 x hx
end
section
variable {w:World} {Φ Φ':Nat->Prop} {rv:Nat->Value} {E E':Nat->PV} {A:Al}
theorem zG0{ps:List PV}{us:List Value}{Lx:LN}(h:zA8 w Φ A ps us Lx)(c n:Nat):∃ Ly,(∀ b∈Ly,b∈Lx)/\zA8 w Φ A ((ps.drop c).take n) ((us.drop c).take n) Ly:=by
 induction ps generalizing us Lx c n with
 |nil=>rw[h.1];exact⟨[],by simp,by simp[zA8]⟩
 | cons p ps ih =>
  obtain⟨v,vs',L1,L2,rfl,rfl,g1,g2⟩:=h
  cases c with
  |succ c=>obtain⟨Ly,h1,h2⟩:=ih g2 c n;exact⟨Ly,fun b hb=>by simp[h1 b hb],by simpa using h2⟩
  | zero =>
   cases n with
   |zero=>exact⟨[],by simp,by simp[zA8]⟩|succ n=>
    obtain⟨Ly,h1,h2⟩:=ih g2 0 n;exact⟨L1++Ly,fun b hb=>by rcases bj.1 hb with h|h;simp[h];simp[h1 b h],v,_,L1,Ly,rfl,rfl,g1,by simpa using h2⟩
end
section
variable {w:World} {Φ Φ':Nat->Prop} {rv:Nat->Value} {E E':Nat->PV}
theorem zJn{a:PV}{v:Value}(hw:a.isWay=true)(h:zBa w rv E a v):a.ways≠[]:=by
 cases a<;>first|(cases hw;done)|exact h.elim|simp[PV.ways]
theorem zHi{A A':Al}(qJ:∀ a v,a.isWay=true->A a v->a.ways≠[])(hΦ:∀ b,Φ b->Φ' b){x:PV}{xv:Value}{Li:LN}(wK:Rep w Φ A x xv Li)(j9:∀ b∈Li,Φ' b){i c sz m cap:Nat}{ag:Bool}{v:Value}{ad:Addr}
  (hv:v = .slice (some ad) m cap) (yV:m<=cap) (hn:∀ a',zBd xv x i c=some a'->ad=a'):Rep w Φ' A' (zCD i c sz ag m x) v []:=by
 simp only[zCD]
 cases hh:zBi x with
 |none=>rfl
 | some xs =>
  simp only
  cases hi:xs[i]? with
  |none=>rfl
  | some y =>
   simp only
   cases hc:(zCt ag sz m ((y.cells.drop c).take (m*sz))&&(zBx y.cells).isEmpty) with
   |false=>rfl
   | true =>
    simp only[cond_true];simp only[bb,zCt] at hc;obtain⟨⟨yN,wL⟩,kO⟩:=hc;have yN:=bd yN;obtain⟨ux,row,ad0,Lx,k1,k2,k3,k4,k5,k6,k7,k8,k9⟩:=zMm wK hh hi;have jQ:=hn _ (k5 c);subst jQ;have k9':=k9.mono (A':=A) zDq.refl (fun _ _ _ h=>zGk h) (fun _ _=>rfl);have zBi:=k9'.cellsAll k7;have qK:zA8 w Φ zCm y.cells ux.cells.toList Lx:=zBi.ways _ _ _ fun a v hw hx ha=>by
     have h0:zBx y.cells=[]:=by simpa using kO
     rw[h0] at hx;have h1:=qJ a v hw ha
     cases vB:a.ways with
     |nil=>exact absurd vB h1|cons z zs=>have:=hx z (by rw[vB];simp);cases this
    obtain⟨Ly,hly,qL⟩:=zG0 qK c (m*sz);have vC:=zDB hΦ _ _ Ly (fun b hb=>j9 b (k4 b (hly b hb))) qL;obtain⟨us',q1,q2,q3,q4,q5⟩:=zGp (ag:=ag) (sz:=sz) (fun a v _ h=>h.elim) m _ _ (by rw[zBp];exact yN) (fun jj=>by
     simp only[jj,ci,bb] at wL;refine⟨bd wL.1,fun q hq=>?_⟩;rw[zCL] at hq;obtain⟨q0,hq0,rfl⟩:=b4.1 hq;rw[zKF];exact bi.1 wL.2 q0 hq0) vC
    have wM:(zCw ag sz m (zAt ((y.cells.drop c).take (m*sz)))).length=m:=zEf _ _ _ _;by_cases hm:m=0
    ·subst hm;exact⟨rfl,.inl ⟨rfl,_,_,hv,fun h=>by cases h⟩⟩
    ·refine⟨rfl,.inr ⟨zAv ad0 c,cap,row,us',sz,by rw[wM];exact hv,rfl,by rw[wM];exact yV,j9 _ k1,k3.any,q5,⟨q3,q4⟩,?_,q1⟩⟩;rw[wM,q2];by_cases qM:m*sz=0
     ·rw[qM];simp[seg]
     ·have:c+m*sz<=y.cells.length:=by simp at yN;omega
      exact k6 c (m*sz) this
end
theorem zIO(r:Nat)(pre:zA4)(q:PV):Tame (inl r pre q):=by
 have h1 : ∀ i c sh x,(zDI i c sh x).isAgg=false/\(zDI i c sh x).dull=true:=by
  intro i c sh x;simp only[zDI];split
  ·split
   ·split
    ·cases (ble _ _&&PV.isAgg _)<;>exact⟨rfl,rfl⟩
    ·split
     ·rename_i q _;cases q.oneCell<;>exact⟨rfl,rfl⟩
     ·exact⟨rfl,rfl⟩
   ·exact⟨rfl,rfl⟩
  ·exact⟨rfl,rfl⟩
 have h2:∀ lo n x,(zCH lo n x).isAgg=false/\(zCH lo n x).dull=true:=by
  intro lo n x;cases x<;>try exact⟨rfl,rfl⟩
  simp only[zCH];cases ble _ _<;>exact⟨rfl,rfl⟩
 have h5:∀ i c sz ag m x,(zCD i c sz ag m x).isAgg=false/\(zCD i c sz ag m x).dull=true:=by
  intro i c sz ag m x;simp only[zCD];split
  ·split
   ·cases (zCt ag sz m _&&_)<;>exact⟨rfl,rfl⟩
   ·exact⟨rfl,rfl⟩
  ·exact⟨rfl,rfl⟩
 have h3:∀ x,(zES x).isAgg=false/\(zES x).dull=true:=by intro x;cases x<;>exact⟨rfl,rfl⟩
 have h4:∀ (o:Option PV) (f:PV->PV),(∀ x,(f x).isAgg=false/\(f x).dull=true)->(zGH o f).isAgg=false/\(zGH o f).dull=true:=by
  intro o f hf;cases o with
  |none=>exact⟨rfl,rfl⟩|some x=>exact hf x
 constructor
 ·intro p;cases p<;>try rfl
  all_goals
   rename_i a b;simp only[inl];cases zAU r pre _ _<;>first|rfl|exact(h4 _ _ (h1 _ _ _)).1|exact(h4 _ _ (h2 _ _)).1|exact(h4 _ _ h3).1|exact(h4 _ _ (h5 _ _ _ _ _)).1
 ·intro p hp;cases p<;>first|(cases hp;done)|skip
  all_goals
   first|rfl|skip
  all_goals
   simp only[inl];cases zAU r pre _ _<;>first|rfl|exact(h4 _ _ (h1 _ _ _)).2|exact(h4 _ _ (h2 _ _)).2|exact(h4 _ _ h3).2|exact(h4 _ _ (h5 _ _ _ _ _)).2
theorem zBS{w:World}{Φ:Nat->Prop}{A:Al}{p:PV}{v:Value}{L:LN}(h:Rep w Φ A p v L){pre:zA4}{q:PV}(hq:zAH p pre=some q) :
  ∃ nv Li,zA1 w v p pre=some (nv,q)/\(∀ b∈Li,b∈L)/\Rep w Φ (zIG A p pre) q nv Li:=by
 obtain⟨nv,La,Li,Lb,h1,h2,h3,_⟩:=Rep.zip pre h hq;exact⟨nv,Li,h1,fun b hb=>by rw[h2];simp[hb],h3⟩
theorem zEr{r r':Nat}{pre q:zA4}:zAU r pre r' q=true↔r'=r/\∃ rest,q=pre++rest:=by
 simp only[zAU,bb,fu];constructor
 ·rintro⟨h1,rest,h2⟩;exact⟨bd h1,rest,h2.symm⟩
 ·rintro⟨rfl,rest,h2⟩;exact⟨cN _,rest,h2.symm⟩
section
variable {w w0:World} {U Φ0 Φ:Nat->Prop} {rv:Nat->Value} {E:Nat->PV} {L:Nat->LN}
theorem Conf.ice(h:Conf w0 U Φ0 w Φ rv E L)(M:Nat->Bool){r:Nat}(hr:r<zAa){pre:zA4}{q root':PV}(j1:(E r).unlock=E r)(hn:zAH (E r) pre=some q)
  (hm:zAz (fun _=>some (zA0 q)) (E r) pre=some root') (yJ:root'.unlock=root') :
  ∃ nv Li L',zA1 w (rv r) (E r) pre=some (nv,q)/\Rep w Φ (zIG (zBa w rv E) (E r) pre) q nv Li/\(∀ s,s≠r->L' s=L s) /\
   Conf w0 U Φ0 w (fun b=>Φ b\/b∈Li) rv (fun s=>if s<zAa\/M s=true then(if s=r then root' else E s).mapW (inl r pre q) else E s) L':=by
 obtain⟨nv,La,Li,Lb,vU,hL,hZ,wH,ua⟩:=Rep.zip pre (h.rep r) hn;have hΦ:∀ b,Φ b->Φ b\/b∈Li:=fun b hb=>.inl hb;have vD:=zIO r pre q;have y6:=h.nodup r;rw[hL] at y6;simp only[bK] at y6;have vV:∀ b∈Li,b∉La++Lb:=by
  intro b hb j0;rcases bj.1 j0 with h2|h2
  ·exact y6.1.2.2 b h2 b hb rfl
  ·exact y6.2.2 b (by simp[hb]) b h2 rfl
 have hK:∀ a u,zBa w rv E a u->zBa w rv (fun s=>if s<zAa\/M s=true then(if s=r then root' else E s).mapW (inl r pre q) else E s) a u:=by
  intro a u ha;have yG:=zC7 ha;refine ha.mono fun nv2 np2 jX hh=>?_;simp only[yG,true_or,if_true] at jX;rw[zDx vD] at jX;obtain⟨np1,uB,vp⟩:=zC8 vD jX hh;by_cases ub:(zBc a).1=r
  ·rw[ub] at uB ⊢;simp only[if_true,yJ] at uB;rcases ua w (zA0 q) root' (fun _ _=>rfl) (fun _=>zDh q) hm _ nv2 np1 uB (zDX vp) with⟨rest,_,h2⟩|⟨np0,h1,h2⟩
   ·have:=zIn h2;rw[zDX vp] at this;cases this
   ·rw[j1];exact⟨np0,h1,h2.trans vp⟩
  ·simp only[ub,if_false] at uB;exact⟨np1,uB,vp⟩
 have qt:∀ a v,a.isWay=true->zIG (zBa w rv E) (E r) pre a v->zBa w rv (fun s=>if s<zAa\/M s=true then (if s=r then root' else E s).mapW (inl r pre q) else E s) a v:=fun a v _ ha=>hK a v (zEL ha);have hA : ∀ a u,a.isWay=true->zBa w rv E a u->Rep w (fun b=>Φ b\/b∈Li) (zBa w rv (fun s=>if s<zAa\/M s=true then (if s=r then root' else E s).mapW (inl r pre q) else E s)) (inl r pre q a) u []:=by
  intro a u u5 ha;have node:∀ rest x,zAH q rest=some x->∃ xv Lx,zA1 w (rv r) (E r).unlock (pre++rest)=some (xv,x)/\(∀ b∈Lx,b∈Li)/\Rep w Φ (zIG (zIG (zBa w rv E) (E r) pre) q rest) x xv Lx:=by
   intro rest x hx;obtain⟨xv,Lx,h1,h2,h3⟩:=zBS hZ hx;exact⟨xv,Lx,by rw[j1,zDp,vU];exact h1,h2,h3⟩
  have ho1:∀ rest a v,a.isWay=true->zIG (zIG (zBa w rv E) (E r) pre) q rest a v->v.oneCell'=true:=fun rest a v hw h=>zDd hw (zEL (zEL h));cases a<;>first|(cases u5;done)|skip
  case addr r' p i c sh=>
   simp only[inl]
   cases hu:zAU r pre r' p with
   |false=>exact⟨rfl,hK _ _ ha⟩
   | true =>
    obtain⟨rfl,rest,rfl⟩:=zEr.1 hu;simp only[cond_true,f0]
    cases hg:zAH q rest with
    |none=>rfl|some x=>
     obtain⟨xv,Lx,h1,h2,h3⟩:=node rest x hg;obtain⟨_,a',h4,h5,h6⟩:=ha;exact zRr (ho1 rest) hΦ (fun a v hw h=>qt a v hw (zEL h)) h3 (fun b hb=>.inr (h2 b hb)) h4 fun a'' ga=>h6 xv x h1 a'' ga
  case bor r' p z lo n=>
   simp only[inl]
   cases hu:zAU r pre r' p with
   |false=>exact⟨rfl,hK _ _ ha⟩
   | true =>
    obtain⟨rfl,rest,rfl⟩:=zEr.1 hu;simp only[cond_true,f0]
    cases hg:zAH q rest with
    |none=>rfl
    | some x =>
     obtain⟨xv,Lx,h1,h2,h3⟩:=node rest x hg;obtain⟨_,_,h6⟩:=ha;exact zIk hΦ h3 (fun b hb=>.inr (h2 b hb)) fun sz xs hx=>by
      subst hx;obtain⟨sz',xs',h7,h8,h9⟩:=h6 xv _ h1 rfl;cases h7;exact⟨h8,h9⟩
  case bsl r' p i c sz ag n=>
   simp only[inl]
   cases hu:zAU r pre r' p with
   |false=>exact⟨rfl,hK _ _ ha⟩
   | true =>
    obtain⟨rfl,rest,rfl⟩:=zEr.1 hu;simp only[cond_true,f0]
    cases hg:zAH q rest with
    |none=>rfl|some x=>
     obtain⟨xv,Lx,h1,h2,h3⟩:=node rest x hg;obtain⟨_,a',cap,h4,yV,h5,h6⟩:=ha;exact zHi (fun a v hw h=>zJn hw (zEL (zEL h))) hΦ h3 (fun b hb=>.inr (h2 b hb)) h4 yV fun a'' ga=>h6 xv x h1 a'' ga
  case bmap r' p=>
   simp only[inl]
   cases hu:zAU r pre r' p with
   |false=>exact⟨rfl,hK _ _ ha⟩
   | true =>
    obtain⟨rfl,rest,rfl⟩:=zEr.1 hu;simp only[cond_true,f0]
    cases hg:zAH q rest with
    |none=>rfl|some x=>
     obtain⟨xv,Lx,h1,h2,h3⟩:=node rest x hg;obtain⟨_,_,h6⟩:=ha;exact zHd hΦ h3 (fun b hb=>.inr (h2 b hb)) fun es hx=>h6 xv x h1 es hx
  case log=>exact ha.elim
 have hs:zDq w w Φ (fun b=>Φ b\/b∈Li):=fun b hb=>⟨.inl hb,rfl⟩;have yX:∀ b,b∈La++Lb->b∈L r:=fun b hb=>by rw[hL];simp at hb ⊢;rcases hb with h|h<;>simp[h]
 refine⟨nv,Li,fun s=>if s=r then La++Lb else L s,vU,hZ,fun s hs=>by simp[hs],?_,?_,?_,?_,?_,fun b hb=>.inl (h.frz0 b hb),h.size,h.kept,h.os,h.tape,h.output⟩
 ·intro s;by_cases yT:s=r
  ·subst yT;simp only[if_true,hr,true_or];have h1:=wH w (fun b=>Φ b\/b∈Li) (zBa w rv E) (zA0 q) [] root' (fun _ _ _ h=>h) hs (fun _ _=>rfl) (fun _=>zDh q) (zEi hΦ q nv Li (fun b hb=>.inr hb) hZ) hm;exact Rep.map vD.agg zDq.refl hA _ _ _ (fun _ _=>rfl) (by simpa using h1)
  ·by_cases yk:s<zAa\/M s=true
   ·simp only[yT,yk,if_false,if_true];exact Rep.map vD.agg hs hA _ _ _ (fun _ _=>rfl) (h.rep s)
   ·simp only[yT,yk,if_false];exact(h.rep s).mono hs (fun a u _ ha=>hK a u ha) (fun _ _=>rfl)
 ·intro s;by_cases yT:s=r
  ·subst yT;simp only[if_true,bK];exact⟨y6.1.1,y6.2.1,fun a ha b hb e=>y6.2.2 a (by simp[ha]) b hb e⟩
  ·simp only[yT,if_false];exact h.nodup s
 ·intro s s' hI b hb yL;by_cases yT:s=r
  ·subst yT;simp only[if_true] at hb;rw[if_neg (dK hI)] at yL;exact h.disj s s' hI b (yX b hb) yL
  ·rw[if_neg yT] at hb;by_cases hsr':s'=r
   ·subst hsr';simp only[if_true] at yL;exact h.disj s s' hI b hb (yX b yL)
   ·rw[if_neg hsr'] at yL;exact h.disj s s' hI b hb yL
 ·intro s b hb;have jS:∃ t,b∈L t/\b∉Li:=by
   by_cases yT:s=r
   ·subst yT;simp only[if_true] at hb;exact⟨s,yX b hb,fun uz=>vV b uz hb⟩
   ·rw[if_neg yT] at hb;exact⟨s,hb,fun uz=>h.disj s r yT b hb (by rw[hL];simp[uz])⟩
  obtain⟨t,h1,h2⟩:=jS;obtain⟨h3,h4,h5⟩:=h.own t b h1;exact⟨h3,fun hp=>hp.elim h4 h2,h5⟩
 ·intro b hb;rcases hb with hb|hb
  ·exact h.frz b hb
  ·obtain⟨h3,h4,h5⟩:=h.own r b (by rw[hL];simp[hb]);exact⟨h3,.inr h5⟩
end
end Go.Eng
namespace Go.Eng
open Go
theorem Env.get_set(e:Env)(s:Nat)(p:PV)(t:Nat):(e.set s p).get t=if t=s then p else e.get t:=by
 induction e with
 | nil =>
  simp only[Env.set,Env.get];by_cases h:t=s
  ·subst h;simp
  ·have:beq s t=false:=by
    cases hb:beq s t with
    |false=>rfl|true=>exact absurd (bd hb).symm h
   simp[this,h]
 | cons x e ih =>
  obtain⟨k,v⟩:=x;simp only[Env.set]
  cases hk:beq k s with
  | true =>
   have:=bd hk;subst this;simp only[cond_true,Env.get];by_cases h:t=k
   ·subst h;simp
   ·have:beq k t=false:=by
     cases hb:beq k t with
     |false=>rfl|true=>exact absurd (bd hb).symm h
    simp[this,h]
  | false =>
   have hI:k≠s:=fun h=>by subst h;simp at hk
   simp only[cond_false]
   cases ble s k with
   | true =>
    simp only[cond_true,Env.get];by_cases h:t=s
    ·subst h;simp
    ·have:beq s t=false:=by
      cases hb:beq s t with
      |false=>rfl|true=>exact absurd (bd hb).symm h
     simp[this,h]
   | false =>
    simp only[cond_false,Env.get,ih]
    cases hb:beq k t with
    |true=>
     have:=bd hb;subst this;simp[hI]
    |false=>rfl
theorem Env.get_map(e:Env){g:PV->PV}(hg:g .bad = .bad)(s:Nat):Env.get (e.map fun x=>(x.1,g x.2)) s=g (e.get s):=by
 induction e with
 |nil=>simp[Env.get,hg]|cons x e ih=>
  obtain⟨k,v⟩:=x;simp only[bL,Env.get,ih];cases beq k s<;>rfl
theorem Env.get_kill(e:Env)(r:Nat)(pre:zA4)(s:Nat):(e.kill r pre).get s=(e.get s).mapW (lose r pre):=Env.get_map e (g:=fun p=>p.mapW (lose r pre)) rfl s
theorem Env.get_killEx(e:Env)(r:Nat)(keep:List zA4)(s:Nat):(e.killEx r keep).get s=(e.get s).mapW (zBV r keep):=Env.get_map e (g:=fun p=>p.mapW (zBV r keep)) rfl s
theorem Env.get_drop(e:Env)(l:LN)(s:Nat):(e.drop l).get s=if zNz l s then .bad else e.get s:=by
 induction e with
 |nil=>simp[Env.drop,Env.get]
 | cons x e ih =>
  obtain⟨k,v⟩:=x;simp only[Env.drop] at ih ⊢;simp only[iv];by_cases hk:zNz l k=true
  ·simp only[hk,dy,bp,if_false,ih,Env.get]
   cases hb:beq k s with
   |true=>have:=bd hb;subst this;simp[hk]|false=>rfl
  ·simp only[hk,f5,if_true,Env.get,ih]
   cases hb:beq k s with
   |true=>have:=bd hb;subst this;simp[hk]|false=>rfl
theorem Env.frz_eq{e e':Env}{r:Nat}{pre:zA4}(h:e.frz r pre=some e') :
  ∃ q root,(e.get r).isLock=false/\zAH (e.get r) pre=some q/\zAz (fun _=>some (zA0 q)) (e.get r) pre=some root/\∀ s,e'.get s=(if s=r then root else e.get s).mapW (inl r pre q):=by
 simp only[Env.frz] at h
 cases hl:(e.get r).isLock with
 |true=>rw[hl] at h;cases h|false=>
 rw[hl] at h;simp only[cond_false] at h
 cases hq:zAH (e.get r) pre with
 |none=>rw[hq] at h;cases h
 | some q =>
  rw[hq] at h;simp only at h
  cases hm:zAz (fun _=>some (zA0 q)) (e.get r) pre with
  |none=>rw[hm] at h;cases h|some root=>
   rw[hm] at h;simp only[ba] at h;subst h;refine⟨q,root,rfl,rfl,hm,fun s=>?_⟩;rw[Env.get_map (e.set r root) (g:=fun p=>p.mapW (inl r pre q)) rfl s,Env.get_set]
structure Hid where
 val:Nat->Value
 ds:List Deferred
structure St (w0:World) (U Φ0:Nat->Prop) (nt:Nat) (hv:Hid) (a:Act) (w:World) (e:Env) (Φ:Nat->Prop) (rv:Nat->Value) (E:Nat->PV) (L:Nat->LN):Prop where
 conf:Conf w0 U Φ0 w Φ rv E L
 env:∀ s,s<zAa->E s=e.get s
 size:a.tmps.size=nt
 small:nt<=2000000
 tmps:∀ t,t<nt->a.tmps.getD t undef=rv t
 parts:∀ d ps i,d<nt->E d = .tup ps->i<ps.length->i<16/\∃ vs,rv d = .tuple vs/\vs[i]? = some (rv (zBy d i))
 hid:∀ s,zAk<=s->s<zAF->rv s=hv.val s
 dfr:a.defers=hv.ds
def Fr(w0:World)(U Φ0:Nat->Prop)(nt:Nat)(hv:Hid)(a:Act)(w:World)(e:Env):Prop :=
 ∃ Φ rv E L,St w0 U Φ0 nt hv a w e Φ rv E L/\∀ g,zAa<=g->E g = .bad
def zAZ(nt:Nat):Operand->Bool
 |.tmp t=>blt t nt|_=>true
theorem zCe{a b:Nat}(h:blt a b=true):a<b:=br h
section
variable {w0 w:World} {U Φ0 Φ:Nat->Prop} {nt:Nat} {hv:Hid} {a:Act} {e e':Env} {rv rv':Nat->Value} {E E':Nat->PV} {L L':Nat->LN} {o:zAK}
mutual
theorem zDt{A:Al}:∀ (p:PV) (v:Value) (L:LN),p.heavy=false->Rep w Φ A p v L->L=[]
 |.own ..,_,_,hp,_=>by cases hp|.box _,_,_,hp,_=>by cases hp|.omap _,_,_,hp,_=>by cases hp|.lock _,_,_,hp,_=>by cases hp|.agg cs,_,_,hp,h=>by obtain⟨vs,_,h⟩:=h;exact zHT cs _ _ hp h
 |.tup cs,_,_,hp,h=>by obtain⟨vs,_,h⟩:=h;exact zHT cs _ _ hp h
 |.bad,_,_,_,h=>h|.und,_,_,_,h=>h.2|.int ..,_,_,_,h=>h.2|.bool _,_,_,_,h=>h.2|.nilp,_,_,_,h=>h.2|.nilf,_,_,_,h=>h.2|.nilm,_,_,_,h=>h.2|.nn,_,_,_,h=>h.1|.nils _,_,_,_,h=>h.2|.sl xs,_,_,_,h=>h.1|.ref q,_,_,_,h=>h.1|.map es,_,_,_,h=>h.1|.func _ _ _,_,_,_,h=>h.1|.addr ..,_,_,_,h=>h.1|.bor ..,_,_,_,h=>h.1|.bsl ..,_,_,_,h=>h.1|.bmap ..,_,_,_,h=>h.1|.yld _,_,_,_,h=>h.1|.log ..,_,_,_,h=>h.1
theorem zHT{A:Al}:∀ (ps:List PV) (vs:List Value) (L:LN),zDf ps=false->zA8 w Φ A ps vs L->L=[]
 |[],_,_,_,h=>h.2|p::ps,_,_,hp,h=>by
  simp only[zDf,cI] at hp;obtain⟨v,vs',L1,L2,rfl,rfl,h1,h2⟩:=h;rw[zDt p v L1 hp.1 h1,zHT ps vs' L2 hp.2 h2];rfl
end
def zZG(E E':Nat->PV):Prop:=∀ d ps,d<2000000->E' d = .tup ps->∃ ps',E d = .tup ps'/\ps'.length=ps.length
theorem zZG.refl:zZG E E:=fun _ ps _ h=>⟨ps,h,rfl⟩
theorem zDb{f:PV->PV}:∀ ps:List PV,(zCX f ps).length=ps.length
 |[]=>rfl|p::ps=>by simp[zCX,zDb ps]
theorem zEh{f:PV->PV}(hf:∀ p,p.isWay=true->(f p).isTup=false){p:PV}{ps:List PV}(h:p.mapW f = .tup ps):∃ ps',p = .tup ps'/\ps'.length=ps.length:=by
 cases hp:p.isWay with
 |true=>rw[zGf hp] at h;have:=hf p hp;rw[h] at this;cases this|false=>
  cases p<;>first|(cases hp;done)|(simp[PV.mapW] at h;done)|skip
  simp only[PV.mapW,PV.tup.injEq] at h;exact⟨_,rfl,by rw[<- h,zDb]⟩
theorem zI1(r:Nat)(pre:zA4)(p:PV)(hp:p.isWay=true):(lose r pre p).isTup=false:=by
 rcases zG3 r pre p with h|⟨_,h⟩
 ·rw[h];cases p<;>first|rfl|cases hp
 ·rw[h];rfl
theorem St.turn(S:St w0 U Φ0 nt hv a w e Φ rv E L){w':World}{Φ':Nat->Prop}(hc:Conf w0 U Φ0 w' Φ' rv' E' L')(he:∀ s,s<zAa->E' s=e'.get s)(hr:∀ s,s<zAa->rv' s=rv s)(hE:zZG E E') :
  St w0 U Φ0 nt hv a w' e' Φ' rv' E' L':=by
 have hs:=S.small;refine⟨hc,he,S.size,S.small,fun t ht=>?_,fun d ps i hd hp hi=>?_,fun s h1 h2=>?_,S.dfr⟩
 ·rw[hr t (by simp only[zAa];omega)];exact S.tmps t ht
 ·obtain⟨ps',h1,h2⟩:=hE d ps (by omega) hp;obtain⟨h3,vs,h4,h5⟩:=S.parts d ps' i hd h1 (by omega);refine⟨h3,vs,?_,?_⟩
  ·rw[hr d (by simp only[zAa];omega)];exact h4
  ·rw[hr _ (by simp only[zBy,zAa];omega)];exact h5
 ·rw[hr s (by simp only[zAF,zAa] at *;omega)];exact S.hid s h1 h2
theorem zJx{A:Al}(v:Value):Rep w Φ A (zEM v) v []:=by
 have key:∀ cs:List Value,zA8 w Φ A (cs.map fun|.int k n=>PV.int k n|.bool b=>.bool b|_=>.bad) cs []:=by
  intro cs
  induction cs with
  |nil=>exact⟨rfl,rfl⟩|cons c cs ih=>
   refine⟨c,cs,[],[],rfl,rfl,?_,ih⟩;cases c<;>first|exact⟨rfl,rfl⟩|rfl
 cases v with
 |slice x n c=>
  cases x with
  |some x=>cases n<;>cases c<;>rfl
  |none=>cases n<;>cases c<;>first|exact⟨rfl,rfl⟩|rfl
 |pointer x=>cases x<;>first|exact⟨rfl,rfl⟩|rfl
 |map x=>cases x<;>first|exact⟨rfl,rfl⟩|rfl
 |agg cs=>exact⟨cs,rfl,key _⟩|_=>first|exact⟨rfl,rfl⟩|rfl
theorem zBw(S:St w0 U Φ0 nt hv a w e Φ rv E L){x:Operand}(hx:zAZ nt x=true){k:PV->PM}(h:(opd x k).run o e=some e') :
  ∃ p,(k p).run o e=some e'/\Rep w Φ (zBa w rv E) p (a.eval x) []:=by
 have hs:=S.small
 cases x with
 |tmp t=>
  have ht:=zCe hx;have yr:(t:Nat)<zAa:=bI ht (bB S.small (by decide));refine⟨_,h,?_⟩;have:=S.conf.view yr;rw[S.env t yr] at this;simp only[Act.eval];rw[S.tmps t ht];exact this
 |const v=>exact⟨_,h,zJx v⟩|func f=>exact⟨_,h,rfl,#[],#[],rfl,⟨rfl,rfl⟩,⟨rfl,rfl⟩⟩|global g=>cases h
theorem zHW(S:St w0 U Φ0 nt hv a w e Φ rv E L):∀ {xs:List Operand},(∀ x∈xs,zAZ nt x=true)->∀ {k:List PV->PM},(zVQ xs k).run o e=some e' ->
  ∃ ps,(k ps).run o e=some e'/\zA8 w Φ (zBa w rv E) ps (xs.map a.eval) []
 |[],_,k,h=>⟨[],h,rfl,rfl⟩|x::xs,hx,k,h=>by
  obtain⟨p,h1,h2⟩:=zBw S (hx x (by simp)) h;obtain⟨ps,h3,h4⟩:=zHW S (fun y hy=>hx y (by simp[hy])) h1;exact⟨p::ps,h3,_,_,[],[],rfl,rfl,h2,h4⟩
def zYh(g:Nat)(rv rv':Nat->Value)(E E':Nat->PV)(L L':Nat->LN):Prop:=∀ s,zAa<=s->s≠g->E' s=E s/\rv' s=rv s/\L' s=L s
theorem St.hold(S:St w0 U Φ0 nt hv a w e Φ rv E L){g:Nat}(hg:zAa<=g){p:PV}{v:Value}(hr:Rep w Φ (zBa w rv E) p v []):St w0 U Φ0 nt hv a w e Φ (upd rv g v) (upd E g p) (upd L g []):=by
 refine S.turn (S.conf.hold hg hr) (fun s hs=>?_) (fun s hs=>zAe (by omega)) fun d ps hd hp=>?_
 ·rw[zAe (by omega)];exact S.env s hs
 ·rw[zAe (by simp only[zAa] at hg;omega)] at hp;exact⟨ps,hp,rfl⟩
theorem zFY(S:St w0 U Φ0 nt hv a w e Φ rv E L){x:Operand}(hx:zAZ nt x=true){g:Nat}(hg:zAa<=g){k:PV->PM}(h:(zON x k).run o e=some e') :
  ∃ e1 rv1 E1 L1,(k (E1 g)).run o e1=some e'/\St w0 U Φ0 nt hv a w e1 Φ rv1 E1 L1/\rv1 g=a.eval x/\zYh g rv rv1 E E1 L L1:=by
 have jl:=S.small;have light:∀ p,(k p).run o e=some e'->Rep w Φ (zBa w rv E) p (a.eval x) []->∃ e1 rv1 E1 L1,(k (E1 g)).run o e1=some e'/\St w0 U Φ0 nt hv a w e1 Φ rv1 E1 L1/\rv1 g=a.eval x/\zYh g rv rv1 E E1 L L1:=by
  intro p h hr;refine⟨e,_,_,_,?_,S.hold hg hr,zAi,fun s _ hI=>⟨zAe hI,zAe hI,zAe hI⟩⟩;rw[zAi];exact h
 cases x with
 | tmp t =>
  have ht:=zCe hx;have yr:(t:Nat)<zAa:=bI ht (bB S.small (by decide));have hZ:=S.conf.rep t;rw[S.env t yr] at hZ;have yy:a.eval (.tmp t)=rv t:=S.tmps t ht;simp only[zON,PM.run] at h;split at h
  ·cases h
  ·rename_i p _;split at h
   ·rename_i hh;simp only[PM.run] at h;refine⟨_,_,_,_,?_,S.turn (e':=e.set t .bad) (S.conf.take yr hg) (fun s hs=>?_) (fun s hs=>zAe (by omega)) (fun d ps hd hp=>?_),by rw[zAi,yy],fun s h1 h2=>?_⟩
    ·rw[zAi,S.env t yr];exact h
    ·rw[zAe (by omega),Env.get_set];by_cases h2:s=t
     ·subst h2;rw[zAi,if_pos rfl]
     ·rw[zAe h2,if_neg h2];exact S.env s hs
    ·rw[zAe (by simp only[zAa] at hg;omega)] at hp;by_cases h2:d=t
     ·subst h2;rw[zAi] at hp;cases hp
     ·rw[zAe h2] at hp;exact⟨ps,hp,rfl⟩
    ·have h3:s≠t:=by intro h;subst h;exact absurd yr (Nat.not_lt.2 h1)
     rw[zAe h2,zAe h2,zAe h2,zAe h3,zAe h3];exact⟨rfl,rfl,rfl⟩
   ·rename_i hh;simp only[cA] at hh;have hL:=zDt _ _ _ hh hZ;rw[hL] at hZ;exact light _ h (by rw[yy];exact hZ)
 |const v=>exact light _ h (zJx v)|func f=>exact light _ h ⟨rfl,#[],#[],rfl,⟨rfl,rfl⟩,⟨rfl,rfl⟩⟩|global g=>cases h
theorem zRF(S:St w0 U Φ0 nt hv a w e Φ rv E L){d g:Nat}(uy:d<zAa)(hg:zAa<=g){k:PM}(h:(lay d (E g) k).run o e=some e') :
  ∃ e1 E1 L1,k.run o e1=some e'/\Conf w0 U Φ0 w Φ (upd rv d (rv g)) E1 L1/\(∀ s,s<zAa->E1 s=e1.get s)/\(∀ s,s≠d->s<zAa->E1 s=E s\/E1 s=(E s).mapW (lose d [])) /\
   (E1 d=E g\/E1 d=(E g).mapW (lose d []))/\E1 g = .bad/\∀ s,zAa<=s->s≠g->E1 s=E s\/E1 s=(E s).mapW (lose d []):=by
 have vW:d≠g:=by omega
 simp only[lay] at h
 cases hh:(E g).heavy with
 | true =>
  rw[hh] at h;simp only[cond_true,PM.run] at h;refine⟨_,_,_,h,S.conf.lay uy hg,fun s hs=>?_,fun s hs kN=>.inr ?_,.inr ?_,zAi,fun s h1 h2=>.inr ?_⟩
  ·rw[zAe (by omega),Env.get_set,Env.get_kill];by_cases h2:s=d
   ·subst h2;rw[zAi,if_pos rfl]
   ·rw[zAe h2,if_neg h2,S.env s hs]
  ·rw[zAe (by omega),zAe hs]
  ·rw[zAe (by omega),zAi]
  ·rw[zAe h2,zAe (by omega)]
 | false =>
  rw[hh] at h;simp only[cond_false,PM.run] at h;have hZ:=S.conf.rep g;rw[zDt _ _ _ hh hZ] at hZ;have h1:=S.conf.put (s:=d) hh hZ;have h2:=h1.drop fun s=>s==g;refine⟨_,_,_,h,h2,fun s hs=>?_,fun s hs kN=>.inl ?_,.inl ?_,by simp,fun s h1 h2=>.inl ?_⟩
  ·rw[Env.get_set];have:(s==g)=false:=by simp;omega
   simp only[this,bp,if_false];by_cases h2:s=d
   ·subst h2;rw[zAi,if_pos rfl]
   ·rw[zAe h2,if_neg h2,S.env s hs]
  ·have:(s==g)=false:=by simp;omega
   simp[this,zAe hs]
  ·have:(d==g)=false:=by simp;omega
   simp[this,zAi]
  ·have:(s==g)=false:=by simp[h2]
   simp[this,zAe (show s≠d by omega)]
theorem zV7(S:St w0 U Φ0 nt hv a w e Φ rv E L){d g:Nat}(hd:d<zAk)(hg:zAa<=g){k:PM}(h:(lay d (E g) k).run o e=some e') :
  ∃ e1 E1 L1,k.run o e1=some e'/\Conf w0 U Φ0 w Φ (upd rv d (rv g)) E1 L1/\(∀ s,s<zAa->E1 s=e1.get s)/\(∀ s,s≠d->s<zAa->E1 s=E s\/E1 s=(E s).mapW (lose d [])) /\
   (E1 d=E g\/E1 d=(E g).mapW (lose d []))/\E1 g = .bad/\∀ s,zAa<=s->s≠g->E1 s=E s\/E1 s=(E s).mapW (lose d []) :=
 zRF S (by simp only[zAk,zAa] at *;omega) hg h
theorem Act.put_tmps(a:Act){d:Nat}{v:Value}(hd:d<a.tmps.size)(t:Nat):(a.put (some d) v).tmps.getD t undef=if t=d then v else a.tmps.getD t undef:=by
 simp only[Act.put,db,dM];by_cases h:t=d
 ·subst h;simp[hd]
 ·rw[if_neg (dK h),if_neg h]
theorem zFU(S:St w0 U Φ0 nt hv a w e Φ rv E L){d:ON}(hd:∀ x,d=some x->x<nt){g:Nat}(hg:zAa<=g)(h:(put d (E g)).run o e=some e')(hb:∀ s,zAa<=s->s≠g->E s = .bad) :
  Fr w0 U Φ0 nt hv (a.put d (rv g)) w e':=by
 have jl:=S.small
 cases d with
 | none =>
  simp only[put,PM.run,ba] at h;subst h;have h2:=S.conf.drop fun s=>s==g;refine⟨_,_,_,_,S.turn h2 (fun s hs=>?_) (fun _ _=>rfl) (fun d ps hd hp=>?_),fun s hs=>?_⟩
  ·have:(s==g)=false:=by simp;omega
   simp only[this,bp,if_false];exact S.env s hs
  ·have:(d==g)=false:=by simp only[zAa] at hg;simp;omega
   simp only[this,bp,if_false] at hp;exact⟨ps,hp,rfl⟩
  ·by_cases h3:s=g
   ·subst h3;simp
   ·have:(s==g)=false:=by simp[h3]
    simp only[this,bp,if_false];exact hb s hs h3
 | some d =>
  have uC:=hd d rfl;have hds:d<a.tmps.size:=by rw[S.size];exact uC
  simp only[put] at h
  cases ht:(E g).isTup with
  |true=>rw[ht] at h;cases h
  | false =>
   rw[ht] at h;simp only[cond_false] at h;obtain⟨e1,E1,L1,h1,h2,h3,h4,h5,h6,h7⟩:=zV7 S (by simp only[zAk];omega) hg h;simp only[PM.run,ba] at h1;subst h1;refine⟨_,_,_,_,⟨h2,h3,by simp only[Act.put,iw];exact S.size,S.small,fun t htn=>?_,fun d' ps i wq hp hi=>?_,fun s vA kN=>?_,S.dfr⟩,fun s hs=>?_⟩
   ·rw[Act.put_tmps a hds];by_cases wN:t=d
    ·subst wN;simp[zAi]
    ·rw[if_neg wN,zAe wN];exact S.tmps t htn
   ·have vW:d'≠d:=by
     intro hc;subst hc;rcases h5 with h5|h5
     ·rw[h5] at hp;rw[hp] at ht;cases ht
     ·rw[h5] at hp;obtain⟨ps',h8,_⟩:=zEh (zI1 d' []) hp;rw[h8] at ht;cases ht
    have:∃ ps',E d' = .tup ps'/\ps'.length=ps.length:=by
     rcases h4 d' vW (by simp only[zAa];omega) with h8|h8
     ·exact⟨ps,by rw[<- h8,hp],rfl⟩
     ·rw[h8] at hp;exact zEh (zI1 d []) hp
    obtain⟨ps',h8,h9⟩:=this;obtain⟨jZ,vs,vX,h12⟩:=S.parts d' ps' i wq h8 (by omega);exact⟨jZ,vs,by rw[zAe vW];exact vX,by rw[zAe (by simp only[zBy];omega)];exact h12⟩
   ·rw[zAe (by simp only[zAk] at vA;omega)];exact S.hid s vA kN
   ·by_cases h8:s=g
    ·subst h8;exact h6
    ·rcases h7 s hs h8 with h9|h9
     ·rw[h9];exact hb s hs h8
     ·rw[h9,hb s hs h8];rfl
end
end Go.Eng
namespace Go.Eng
open Go
theorem zBJ{α:Type}{x:Option α}{k:α->PM}{o:zAK}{e e':Env}(h:(zJK x k).run o e=some e'):∃ a,x=some a/\(k a).run o e=some e':=by
 cases x with
 |none=>cases h|some a=>exact⟨a,rfl,h⟩
theorem zEj{p:PV}{k:Nat->PM}{o:zAK}{e e':Env}(h:(zGF p k).run o e=some e'):∃ ik n,p = .int ik n/\0<=n/\(k n.toNat).run o e=some e':=by
 cases p<;>try (cases h;done)
 rename_i ik n;simp only[zGF] at h;split at h
 ·exact⟨ik,n,rfl,‹_›,h⟩
 ·cases h
theorem zDk{c:Prop}[Decidable c]{k:PM}{o:zAK}{e e':Env}(h:(if c then k else .fail).run o e=some e'):c/\k.run o e=some e':=by
 split at h
 ·exact⟨‹_›,h⟩
 ·cases h
theorem zAP{c:Bool}{k:PM}{o:zAK}{e e':Env}(h:(bif c then k else .fail).run o e=some e'):c=true/\k.run o e=some e':=by
 cases c
 ·cases h
 ·exact⟨rfl,h⟩
section
variable {P:Program} {w0 w:World} {U Φ0 Φ:Nat->Prop} {nt:Nat} {hv:Hid} {a:Act} {e e':Env} {rv rv':Nat->Value} {E E':Nat->PV} {L L':Nat->LN} {o:zAK} {A:Al}
def zBs(E:Nat->PV):Prop:=∀ g,zAa<=g->E g = .bad
theorem zAC(S:St w0 U Φ0 nt hv a w e Φ rv E L)(hb:zBs E){d:ON}(hd:∀ x,d=some x->x<nt){p:PV}{v:Value}(h:(put d p).run o e=some e')(hr:Rep w Φ (zBa w rv E) p v []) :
  Fr w0 U Φ0 nt hv (a.put d v) w e':=by
 have:=zFU (S.hold (bf zAa) hr) hd (bf zAa) (by rw[zAi];exact h) (fun s hs hI=>by rw[zAe hI];exact hb s hs);rwa[zAi] at this
theorem zXu(S:St w0 U Φ0 nt hv a w e Φ rv E L)(hb:zBs E){d:ON}(hd:∀ x,d=some x->x<nt){c x y:Operand}(hc:zAZ nt c=true)(hx:zAZ nt x=true)(hy:zAZ nt y=true)
  (h:(zWb d c x y).run o e=some e'):∃ t,a.eval c = .bool t/\Fr w0 U Φ0 nt hv (a.put d (if t then a.eval x else a.eval y)) w e':=by
 obtain⟨p,h1,h2⟩:=zBw S hc h;cases p<;>simp only[zV2] at h1<;>try (cases h1;done)
 rename_i t;refine⟨t,h2.1,?_⟩;cases t
 ·obtain⟨q,h3,h4⟩:=zBw S hy h1;exact zAC S hb hd h3 h4
 ·obtain⟨q,h3,h4⟩:=zBw S hx h1;exact zAC S hb hd h3 h4
theorem zYD(S:St w0 U Φ0 nt hv a w e Φ rv E L)(hb:zBs E){d:ON}(hd:∀ x,d=some x->x<nt){x:Operand}(hx:zAZ nt x=true)(h:(opd x (zZS d)).run o e=some e') :
  (match a.eval x with|.pointer none|.nilIface|.nilFunc|.func (.method _) _ _=>False|_=>True)/\Fr w0 U Φ0 nt hv (a.put d (a.eval x)) w e':=by
 obtain⟨p,h1,h2⟩:=zBw S hx h;cases p<;>simp only[zZS] at h1<;>try (cases h1;done)
 case ref q=>refine⟨?_,zAC S hb hd h1 h2⟩;obtain⟨_,b,c,u,h3,_⟩:=h2;rw[h3];trivial
 case func=>refine⟨?_,zAC S hb hd h1 h2⟩;obtain⟨_,fs,cs,h3,_⟩:=h2;rw[h3];trivial
 case addr=>refine⟨?_,zAC S hb hd h1 h2⟩;obtain⟨_,_,b,h3,_⟩:=h2;rw[h3];trivial
 case yld=>refine⟨?_,zAC S hb hd h1 h2⟩;rw[h2.2];trivial
theorem zZP(S:St w0 U Φ0 nt hv a w e Φ rv E L)(hb:zBs E){d:ON}(hd:∀ x,d=some x->x<nt){op:UnOp}{x:Operand}(hx:zAZ nt x=true)(h:(opd x (unV d op)).run o e=some e') :
  ∃ v,(Op.unary op (a.eval x)).run P w = .ok v w/\Fr w0 U Φ0 nt hv (a.put d v) w e':=by
 obtain⟨p,h1,h2⟩:=zBw S hx h;simp only[unV] at h1;split at h1
 ·rename_i b;exact⟨.bool !b,by rw[h2.1];rfl,zAC S hb hd h1 ⟨rfl,rfl⟩⟩
 ·rename_i k n;exact⟨.int k (k.wrap (0-n)),by rw[h2.1];rfl,zAC S hb hd h1 ⟨rfl,rfl⟩⟩
 ·cases h1
theorem zWS(S:St w0 U Φ0 nt hv a w e Φ rv E L)(hb:zBs E){d:ON}(hd:∀ x,d=some x->x<nt){s t:TypeId}(hs:(P.underlying s).isSome=true){x:Operand}(hx:zAZ nt x=true)(h:(opd x (zRD P d t)).run o e=some e') :
  ∃ v,(convert s t (a.eval x)).run P w = .ok v w/\Fr w0 U Φ0 nt hv (a.put d v) w e':=by
 obtain⟨p,h1,h2⟩:=zBw S hx h;simp only[zRD] at h1;split at h1
 ·rename_i k k' n ht;refine⟨.int k (k.wrap n),?_,zAC S hb hd h1 ⟨rfl,rfl⟩⟩;obtain⟨ds,hds⟩:=dY.1 hs;rw[h2.1];simp only[convert,bo,run_underlying ht,run_underlying hds,bh];rfl
 ·cases h1
theorem zXY(S:St w0 U Φ0 nt hv a w e Φ rv E L)(hb:zBs E){d:ON}(hd:∀ x,d=some x->x<nt){f:FuncId}{fs cs:Array Operand}(hf:∀ x∈fs.toList,zAZ nt x=true)(hc:∀ x∈cs.toList,zAZ nt x=true)
  (h:(zLe d f fs.toList cs.toList).run o e=some e'):Fr w0 U Φ0 nt hv (a.put d (.func (.func f) (fs.map a.eval) (cs.map a.eval))) w e':=by
 obtain⟨ps,h1,h2⟩:=zHW S hf h;obtain⟨qs,h3,h4⟩:=zHW S hc h1;exact zAC S hb hd h3 ⟨rfl,_,_,rfl,by simpa using h2,by simpa using h4⟩
theorem zFe{t:TypeId}{sh:ON}(h:shT P t=some sh):∃ i,P.info? t=some i/\(isAgg t).run P w = .ok sh.isSome w/\(∀ n,sh=some n->n=i.size)/\(sh=none->i.size=1):=by
 simp only[shT] at h
 cases hu:P.underlying t with
 |none=>rw[hu] at h;cases h
 | some td =>
  have hr:=run_underlying (w:=w) hu
  cases hi:P.info? t with
  |none=>rw[hu,hi] at h;cases td<;>cases h
  | some i =>
   rw[hu,hi] at h;refine⟨i,rfl,?_⟩;cases td<;>simp only at h<;>first|(cases h;exact⟨by simp only[isAgg,bo,hr,bh];rfl,fun n hn=>by cases hn;rfl,fun hn=>by cases hn⟩)|skip
   all_goals
    split at h
    ·rename_i h1;cases h;exact⟨by simp only[isAgg,bo,hr,bh];rfl,(by intro n hn;cases hn),fun _=>h1⟩
    ·cases h
theorem zA7{t:TypeId}{i:TypeInfo}(h:P.info? t=some i):(sizeOf t).run P w = .ok i.size w:=by
 simp[sizeOf,typeInfo,h]
theorem zFL{t:TypeId}{sh:ON}(hs:shT P t=some sh){p q:PV}{cs:Array Value}{off:Nat}(hp:Rep w Φ A p (.agg cs) [])(h:sub p off sh=some q) :
  ∃ u,(part t cs off).run P w = .ok u w/\Rep w Φ A q u []:=by
 obtain⟨i,hi,jA,h1,h2⟩:=zFe (w:=w) hs;cases p<;>try (cases sh<;>cases h;done)
 rename_i ps;obtain⟨vs,hv,hr⟩:=hp;cases hv;have yA:=hr.length
 cases sh with
 | some n =>
  simp only[sub] at h;split at h
  ·rename_i yS;cases h;have hn:=h1 n rfl;subst hn;refine⟨.agg (cs.extract off (off+i.size)),?_,?_⟩
   ·simp only[part,bo,jA,bh,ia,if_true,zA7 hi];rfl
   ·refine⟨_,rfl,?_⟩;rw[Array.toList_extract];have:=zB2 hr off i.size;simpa[List.extract] using this
  ·cases h
 | none =>
  simp only[sub] at h;obtain⟨u,La,Li,Lb,hu,hL,uG,_,_⟩:=hr.split h;have hu':cs[off]? = some u:=by simpa using hu
  have:Li=[]:=by
   have:=congrArg length hL;simp at this;exact bq (by omega)
  subst this;refine⟨u,?_,uG⟩;simp only[part,bo,jA,bh,dO,bp,if_false,hu'];rfl
theorem zOT{eq:TypeId->PV->PV->Option Bool}{d:Nat}{p q:PV}{xs ys:Array Value}(hp:Rep w Φ A p (.agg xs) [])(hq:Rep w Φ A q (.agg ys) [])
  (hd:∀ t p q b x y,eq t p q=some b->Rep w Φ A p x []->Rep w Φ A q y []->(Op.equalIn d t x y).run P w = .ok b w) :
  ∀ (fs:List Field) (b:Bool),zQO eq (shT P) p q fs=some b->(Op.eqFields d xs ys fs).run P w = .ok b w
 |[],b,h=>by simp only[zQO,ba] at h;subst h;rfl
 | f :: fs,b,h=>by
  simp only[zQO] at h;simp only[Op.eqFields];split at h
  ·rename_i hn;rw[if_neg (by simp[hn])];exact zOT hp hq hd fs b h
  ·rename_i hn;rw[if_pos hn]
   cases hs:shT P f.type with
   |none=>rw[hs] at h;cases h
   | some sh =>
    rw[hs] at h;simp only at h;split at h
    ·rename_i a1 b1 h1 h2;obtain⟨u1,h3,h4⟩:=zFL hs hp h1;obtain⟨u2,h5,h6⟩:=zFL hs hq h2;simp only[bo,h3,h5,bh]
     cases he:eq f.type a1 b1 with
     |none=>rw[he] at h;cases h
     | some r =>
      rw[hd _ _ _ _ _ _ he h4 h6];rw[he] at h;simp only[bh]
      cases r with
      |true=>
       simp only[dy,bp,if_false];exact zOT hp hq hd fs b h
      |false=>
       simp only[ba] at h;subst h;simp
    ·cases h
theorem zTJ{eq:PV->PV->Option Bool}{d:Nat}{e:TypeId}{sh:ON}{i:TypeInfo}(hs:shT P e=some sh)(hi:P.info? e=some i){p q:PV}{xs ys:Array Value}(hp:Rep w Φ A p (.agg xs) [])(hq:Rep w Φ A q (.agg ys) [])
  (hd:∀ p q b x y,eq p q=some b->Rep w Φ A p x []->Rep w Φ A q y []->(Op.equalIn d e x y).run P w = .ok b w) :
  ∀ (n k:Nat) (b:Bool),zUn eq sh i.size p q k n=some b ->
   ((forIn (List.range' k n 1) ((none,()):Option Bool×Unit) fun i' r=>do
    let a <- part e xs (i'*i.size)
    let c <- part e ys (i'*i.size)
    if !(<- Op.equalIn d e a c) then pure (.done (some false,())) else pure (.yield (none,()))):Sem _).run P w = .ok (if b then(none,()) else(some false,())) w
 |0,k,b,h=>by simp only[zUn,ba] at h;subst h;simp
 | n + 1,k,b,h=>by
  simp only[zUn] at h;simp only[fk,iH,bo];split at h
  ·rename_i a1 b1 h1 h2;obtain⟨u1,h3,h4⟩:=zFL hs hp h1;obtain⟨u2,h5,h6⟩:=zFL hs hq h2;simp only[h3,h5,bh]
   cases he:eq a1 b1 with
   |none=>rw[he] at h;cases h
   | some r =>
    rw[hd _ _ _ _ _ he h4 h6];rw[he] at h;simp only[bh]
    cases r with
    |true=>
     simp only[dy,bp,if_false,bA,bh];exact zTJ hs hi hp hq hd n (k+1) b h
    |false=>
     simp only[ba] at h;subst h;simp
  ·cases h
theorem zLn:∀ (n:Nat) (t:TypeId) (p q:PV) (b:Bool) (x y:Value) (d:Nat),n<=d->eqT P n t p q=some b->Rep w Φ A p x []->Rep w Φ A q y []->(Op.equalIn d t x y).run P w = .ok b w
 |0,t,p,q,b,x,y,d,hd,h,hp,hq=>by cases h|n+1,t,p,q,b,x,y,0,hd,h,hp,hq=>by omega
 | n + 1,t,p,q,b,x,y,d+1,hd,h,hp,hq=>by
  have yS:n<=d:=by omega
  simp only[eqT] at h;split at h
  ·rename_i k0 k a1 k' b1 ht;rw[hp.1,hq.1];split at h
   ·rename_i hk;subst hk;cases h;exact run_equalIn_int w d t k k0 a1 b1 ht
   ·cases h
  ·rename_i a1 b1 ht;rw[hp.1,hq.1];cases h;exact run_equalIn_bool' w d t a1 b1 ht
  ·rename_i el ht;rw[hp.1,hq.1];cases h;simp[Op.equalIn,run_underlying ht]
  ·rename_i fs xs ys ht
   cases yD:P.stoodInHeld t with
   |true=>rw[yD] at h;cases h|false=>
    rw[yD] at h;simp only[cond_false] at h;obtain⟨vs,rfl,jp⟩:=hp;obtain⟨us,rfl,jn⟩:=hq;have vY:P.fieldsOf t=fs:=by simp[Program.fieldsOf,ht]
    rw[run_equalIn_struct w d t vs us (by rw[vY];exact ht) yD,vY];exact zOT (p := .agg xs) (q := .agg ys) ⟨vs,rfl,jp⟩ ⟨us,rfl,jn⟩ (fun t p q b x y he h1 h2=>zLn n t p q b x y d yS he h1 h2) fs.toList b h
  ·rename_i len el xs ys ht;split at h
   ·rename_i sz sh yI jg;obtain⟨vs,rfl,jp⟩:=hp;obtain⟨us,rfl,jn⟩:=hq;obtain⟨i,hi,_⟩:=zFe (w:=w) jg;have gb:i.size=sz:=by simp only[szT,hi,bv,ba] at yI;exact yI
    subst gb;have:=zTJ (p := .agg xs) (q := .agg ys) jg hi ⟨vs,rfl,jp⟩ ⟨us,rfl,jn⟩ (fun p q b x y he h1 h2=>zLn n el p q b x y d yS he h1 h2) len 0 b h;simp only[Op.equalIn,bo,run_underlying ht,bh,zA7 hi,fw,Std.Legacy.Range.size,dw,dP,Nat.div_one];rw[this];cases b<;>simp
   ·cases h
  ·cases h
theorem zVG{n:Nat}{t:TypeId}{p q:PV}{b:Bool}(h:eqT P n t p q=some b)(ha:p.isAgg=false):(∃ k n k' m,p = .int k n/\q = .int k' m)\/(∃ b,p = .bool b)\/p = .nilp:=by
 cases n with
 |zero=>cases h|succ n=>
  simp only[eqT] at h;split at h
  ·exact .inl ⟨_,_,_,_,rfl,rfl⟩
  ·exact .inr (.inl ⟨_,rfl⟩)
  ·exact .inr (.inr rfl)
  ·cases ha
  ·cases ha
  ·cases h
theorem zVy{t:TypeId}{p q:PV}(hn:∀ z,q ≠ .nils z)(ha:∀ ys,q ≠ .agg ys):eqV P t p q=bif p.isAgg then none else eqT P 20 t p q:=by
 cases q<;>first|rfl|exact absurd rfl (hn _)|exact absurd rfl (ha _)
def zZY:Value->Bool
 |.bool _|.pointer _|.slice ..|.agg _=>true|_=>false
theorem zTE{t:TypeId}{x y:Value}{b:Bool}(hx:zZY x=true)(h:(Op.equal t x y).run P w = .ok b w):(binOp .eql t x y).run P w = .ok (.bool b) w/\(binOp .neq t x y).run P w = .ok (.bool !b) w:=by
 have h1:binOp .eql t x y=(do pure (.bool (<- Op.equal t x y))):=by cases x<;>first|(cases hx;done)|rfl
 have h2:binOp .neq t x y=(do pure (.bool (!(<- Op.equal t x y)))):=by cases x<;>first|(cases hx;done)|rfl
 rw[h1,h2];simp only[bo,h,bh];exact⟨rfl,rfl⟩
theorem zVI{t:TypeId}{p:PV}{z:Nat}{b:Bool}{x:Value}(h:eqV P t p (.nils z)=some b)(hA:∀ a v,a.isWay=true->A a v->∀ r pre z lo n,a = .bor r pre z lo n->∃ b c,v = .slice b n c/\n<=c/\(b=none->c=0))
  (hp:Rep w Φ A p x []):(∃ a n c,x = .slice a n c)/\(Op.equal t x (.slice none 0 0)).run P w = .ok b w:=by
 cases ht:P.underlying t with
 |none=>simp[eqV,ht] at h|some td=>
 by_cases jP:∃ e,td = .slice e
 ·obtain⟨e,rfl⟩:=jP;by_cases hnp:∃ z',p = .nils z'
  ·obtain⟨z',rfl⟩:=hnp;simp only[eqV,ht,ba] at h;subst h;rw[hp.1];exact⟨⟨_,_,_,rfl⟩,run_equal_slice_nil w t e none 0 0 ht⟩
  have hh:(bif zFf p then some false else none)=some b:=by
   rw[<- h];cases p<;>first|(simp only[eqV,ht];done)|exact absurd ⟨_,rfl⟩ hnp
  have key:∀ a n c,x = .slice (some a) n c->b=false->(∃ a n c,x = .slice a n c)/\(Op.equal t x (.slice none 0 0)).run P w = .ok b w:=by
   intro a n c hx hb;subst hx;subst hb;exact⟨⟨_,_,_,rfl⟩,run_equal_slice_nil w t e (some a) n c ht⟩
  cases jh:zFf p with
  |false=>rw[jh] at hh;cases hh
  | true =>
   rw[jh] at hh;simp only[cond_true,ba] at hh;cases p<;>simp only[zFf] at jh<;>try (cases jh;done)
   case nn=>
    obtain⟨_,a,n,h1⟩:=hp;exact key a 0 n h1 hh.symm
   case sl xs=>
    cases xs with
    |nil=>cases jh|cons x0 xs=>
     obtain⟨_,⟨h1,_⟩|⟨a,n,c,us,sz,h1,_⟩⟩:=hp
     ·cases h1
     ·exact key a _ n h1 hh.symm
   case own sz xs=>
    cases xs with
    |nil=>cases jh|cons x0 xs=>
     obtain⟨h1,_⟩|⟨a,n,c,us,L',h0,_⟩:=hp
     ·cases h1
     ·cases h0
   case bor r pre z lo n=>
    cases n with
    |zero=>cases jh|succ n=>
     obtain⟨b',c,h1,h2,h3⟩:=hA _ _ rfl hp.2 r pre z lo (n+1) rfl
     cases b' with
     |none=>have:=h3 rfl;omega|some a=>exact key a _ c h1 hh.symm
 ·cases td<;>first|exact absurd ⟨_,rfl⟩ jP|simp[eqV,ht] at h
theorem zV9{t:TypeId}{p q:PV}{b:Bool}{x y:Value}(h:eqV P t p q=some b)(hA:∀ a v,a.isWay=true->A a v->∀ r pre z lo n,a = .bor r pre z lo n->∃ b c,v = .slice b n c/\n<=c/\(b=none->c=0))
  (hp:Rep w Φ A p x []) (hq:Rep w Φ A q y []) (hni:∀ k n k' m,p = .int k n->q = .int k' m->False) (op:BinOp) (xo yo:Operand) :
  (eqGuard op t xo yo x y).run P w = .ok () w/\(Op.equal t x y).run P w = .ok b w/\zZY x=true:=by
 by_cases hn:∃ z,q = .nils z
 ·obtain⟨z,rfl⟩:=hn;have hy:y = .slice none 0 0:=hq.1;subst hy;obtain⟨⟨a,n,c,rfl⟩,h2⟩:=zVI h hA hp;exact⟨by rw[eqGuard_at_slice];rfl,h2,rfl⟩
 ·by_cases ha:∃ ys,q = .agg ys
  ·obtain⟨ys,rfl⟩:=ha;simp only[eqV] at h;split at h
   ·rename_i xs
    cases hg:P.eqGuardType P.depth t with
    |true=>rw[hg] at h;cases h|false=>
     rw[hg] at h;simp only[cond_false] at h;have:=zLn 20 t _ _ b x y 10000 (by decide) h hp hq;obtain⟨vs,rfl,_⟩:=hp;obtain⟨us,rfl,_⟩:=hq;exact⟨run_eqGuard_agg w op t xo yo vs us hg,this,rfl⟩
   ·cases h
  ·rw[zVy (fun z hz=>hn ⟨z,hz⟩) (fun ys hy=>ha ⟨ys,hy⟩)] at h
   cases wO:p.isAgg with
   |true=>rw[wO] at h;cases h
   | false =>
    rw[wO] at h;simp only[cond_false] at h;have h2:=zLn 20 t _ _ b x y 10000 (by decide) h hp hq;rcases zVG h wO with⟨k,n,k',m,h3,h4⟩|⟨b',h3⟩|h3
    ·exact absurd h4 fun h4=>hni k n k' m h3 h4
    ·subst h3;have hx:x = .bool b':=hp.1
     subst hx;exact⟨by rw[eqGuard_at_bool];rfl,h2,rfl⟩
    ·subst h3;have hx:x = .pointer none:=hp.1
     subst hx;exact⟨by rw[eqGuard_at_pointer];rfl,h2,rfl⟩
theorem zV5:∀ a v,a.isWay=true->zBa w rv E a v->∀ r pre z lo n,a = .bor r pre z lo n->∃ b c,v = .slice b n c/\n<=c/\(b=none->c=0):=by
 intro a v _ h r pre z lo n ha;subst ha;obtain⟨_,⟨b,c,h1,h2,h3,_⟩,_⟩:=h;exact⟨b,c,h1,h2,h3⟩
theorem zUD{op:BinOp}{t:TypeId}{k:IntKind}{x y:Int}{r:PV}(h:zU4 op k x y=some r)(hs:op ≠ .shl/\op ≠ .shr):∃ v,(binOp op t (.int k x) (.int k y)).run P w = .ok v w/\Rep w Φ A r v []:=by
  cases op<;>simp only[zU4] at h<;>try (cases h;done)
  case quo => split at h
              · cases h
              · rename_i hy;cases h;exact⟨.int k (k.wrap (x.tdiv y)),by simp[binOp,Op.intDiv,hy],rfl,rfl⟩
  case rem => split at h
              · cases h
              · rename_i hy;cases h;exact⟨.int k (x.tmod y),by simp[binOp,Op.intDiv,hy],rfl,rfl⟩
  all_goals
    simp only[ba] at h;subst h
    first
    |exact⟨_,by simp[binOp,Op.intArith];rfl,rfl,rfl⟩
    |exact⟨_,by simp[binOp,Op.intCmp];rfl,rfl,rfl⟩
    |exact⟨_,by simp[binOp,Op.intBits];rfl,rfl,rfl⟩
theorem zZn(S:St w0 U Φ0 nt hv a w e Φ rv E L)(hb:zBs E){d:ON}(hd:∀ x,d=some x->x<nt){op:BinOp}{t:TypeId}{x y:Operand}(hx:zAZ nt x=true)(hy:zAZ nt y=true)(h:(zVA P d op t x y).run o e=some e') :
  ∃ v,(do eqGuard op t x y (a.eval x) (a.eval y);binOp op t (a.eval x) (a.eval y)).run P w = .ok v w/\Fr w0 U Φ0 nt hv (a.put d v) w e':=by
 obtain⟨p,h1,hp⟩:=zBw S hx h;obtain⟨q,h2,hq⟩:=zBw S hy h1;obtain⟨r,h3,h4⟩:=zBJ h2;have fin:∀ v,(eqGuard op t x y (a.eval x) (a.eval y)).run P w = .ok () w->(binOp op t (a.eval x) (a.eval y)).run P w = .ok v w->Rep w Φ (zBa w rv E) r v []->∃ v,(do eqGuard op t x y (a.eval x) (a.eval y);binOp op t (a.eval x) (a.eval y)).run P w = .ok v w/\Fr w0 U Φ0 nt hv (a.put d v) w e':=by
  intro v g1 g2 g3;refine⟨v,?_,zAC S hb hd h4 g3⟩;simp only[bo,g1,bh];exact g2
 simp only[zG5] at h3;split at h3
 ·rename_i k n _ m;split at h3
  ·cases h3
  ·rename_i hm;cases h3;refine fin (.int k (k.wrap (n*2 ^ (min m.toNat k.bits)))) ?_ ?_ ⟨rfl,rfl⟩
   ·rw[hp.1,eqGuard_at_int];rfl
   ·rw[hp.1,hq.1];simp[binOp,Op.shift,hm]
 ·rename_i k n _ m;split at h3
  ·cases h3
  ·rename_i hm;cases h3;refine fin (.int k (n.fdiv (2 ^ (min m.toNat k.bits)))) ?_ ?_ ⟨rfl,rfl⟩
   ·rw[hp.1,eqGuard_at_int];rfl
   ·rw[hp.1,hq.1];simp[binOp,Op.shift,hm]
 ·rename_i k n k' m hns1 hns2;split at h3
  ·rename_i hk;subst hk;obtain⟨v,g1,g2⟩:=zUD (P:=P) (w:=w) (Φ:=Φ) (A:=zBa w rv E) (t:=t) h3 ⟨fun hc=>hns1 hc,fun hc=>hns2 hc⟩;refine fin v ?_ ?_ g2
   ·rw[hp.1,eqGuard_at_int];rfl
   ·rw[hp.1,hq.1];exact g1
  ·cases h3
 ·rename_i wt;simp only[bm] at h3;obtain⟨b,h5,rfl⟩:=h3;obtain⟨g1,g2,g3⟩:=zV9 h5 zV5 hp hq (fun k n k' m h1 h2=>wt k n k' m h1 h2) .eql x y;exact fin (.bool b) g1 (zTE g3 g2).1 ⟨rfl,rfl⟩
 ·rename_i wt;simp only[bm] at h3;obtain⟨b,h5,rfl⟩:=h3;obtain⟨g1,g2,g3⟩:=zV9 h5 zV5 hp hq (fun k n k' m h1 h2=>wt k n k' m h1 h2) .neq x y;exact fin (.bool !b) g1 (zTE g3 g2).2 ⟨rfl,rfl⟩
 ·cases h3
theorem zUN(S:St w0 U Φ0 nt hv a w e Φ rv E L)(hb:zBs E){d:ON}(hd:∀ x,d=some x->x<nt){t:TypeId}{x:Operand}{i:Nat}(hx:zAZ nt x=true)(h:(zSJ P d t x i).run o e=some e') :
  ∃ v,(Instr.field t (a.eval x) i).run P w = .ok v w/\Fr w0 U Φ0 nt hv (a.put d v) w e':=by
 obtain⟨p,h1,hp⟩:=zBw S hx h;obtain⟨f,h2,h3⟩:=zBJ h1;obtain⟨sh,h4,h5⟩:=zBJ h3;obtain⟨q,h6,h7⟩:=zBJ h5;have wO:∃ cs,p = .agg cs:=by cases p<;>first|exact⟨_,rfl⟩|(cases sh<;>cases h6)
 obtain⟨cs,rfl⟩:=wO;obtain⟨vs,hv,hr⟩:=hp;obtain⟨u,h8,h9⟩:=zFL (P:=P) h4 (p := .agg cs) ⟨vs,rfl,hr⟩ h6;refine⟨u,?_,zAC S hb hd h7 h9⟩;simp only[zMF] at h2
 cases ht:P.underlying t with
 |none=>rw[ht] at h2;cases h2|some td=>
  rw[ht] at h2;cases td<;>simp only at h2<;>try (cases h2;done)
  rw[hv];simp only[Instr.field,bo,run_underlying ht,bh,h2,asAgg,bA];exact h8
theorem zV0(S:St w0 U Φ0 nt hv a w e Φ rv E L)(hb:zBs E){d:ON}(hd:∀ x,d=some x->x<nt){t:TypeId}{x i:Operand}(hx:zAZ nt x=true)(hi:zAZ nt i=true)(h:(zLH P d t x i).run o e=some e') :
  ∃ v,(Instr.index t (a.eval x) (a.eval i)).run P w = .ok v w/\Fr w0 U Φ0 nt hv (a.put d v) w e':=by
 obtain⟨p,h1,hp⟩:=zBw S hx h;obtain⟨pi,h2,hpi⟩:=zBw S hi h1;obtain⟨ik,n,rfl,hn,h3⟩:=zEj h2;split at h3
 ·rename_i len el ht;split at h3
  ·rename_i s sh hs jg;obtain⟨yG,h4⟩:=zDk h3;obtain⟨q,h5,h6⟩:=zBJ h4;have wO:∃ cs,p = .agg cs:=by cases p<;>first|exact⟨_,rfl⟩|(cases sh<;>cases h5)
   obtain⟨cs,rfl⟩:=wO;obtain⟨vs,hv,hr⟩:=hp;obtain⟨u,h8,h9⟩:=zFL (P:=P) jg (p := .agg cs) ⟨vs,rfl,hr⟩ h5;refine⟨u,?_,zAC S hb hd h6 h9⟩;obtain⟨ti,jT,_⟩:=zFe (w:=w) jg;have yI:ti.size=s:=by simp only[szT,jT,bv,ba] at hs;exact hs
   subst yI;rw[hv,hpi.1];simp only[Instr.index,bo,asIntOf,bA,bh,run_underlying ht,zA7 jT];rw[if_pos ⟨hn,by omega⟩];simp only[bo,zA7 jT,bh];exact h8
  ·cases h3
 ·cases h3
theorem zRM{p q:PV}{off:Nat}{sh:ON}{v:Value}(h:zBQ p off sh=some q)(hp:Rep w Φ (zBa w rv E) p v []) :
  ∃ b,v = .pointer (some b)/\b.spot=none/\sh≠some 0/\Rep w Φ (zBa w rv E) q (.pointer (some (zAv b off))) []:=by
 have h0:sh≠some 0:=by intro hc;subst hc;cases h
 replace h:zPO p off sh=some q:=by
  cases sh with
  |none=>exact h|some n=>cases n with
   |zero=>exact absurd rfl h0|succ n=>exact h
 cases p<;>simp only[zPO] at h<;>try (cases h;done)
 case ref q0=>
  obtain⟨_,b,c,u,rfl,yd,hΦ,yH,jL,⟨yI,jj⟩,hr⟩:=hp;refine⟨b,rfl,yd,h0,?_⟩
  cases hs:sub q0 off sh with
  |none=>rw[hs] at h;cases h
  | some x =>
   rw[hs] at h;simp only at h;have qu:∀ n,off+n<=q0.cells.length->seg c (b.off+off) n=(u.cells.toList.drop off).take n:=by
    intro n hn;rw[<- jL];apply cW;intro k;simp only[seg,cu,ck];by_cases hk:k<n
    ·rw[if_pos hk,if_pos hk,if_pos (by omega),cg]
    ·rw[if_neg hk,if_neg hk]
   cases q0<;>try (cases sh<;>cases hs;done)
   rename_i cs;obtain⟨vs,rfl,hr⟩:=hr;have yA:=hr.length
   cases sh with
   | some n =>
    simp only[sub] at hs;split at hs
    ·rename_i yS;cases hs;simp only[ia,iR,cond_true,ba] at h;subst h;refine⟨rfl,zAv b off,c,.agg ((vs.toList.drop off).take n).toArray,rfl,rfl,hΦ,yH,?_,⟨?_,rfl⟩,_,rfl,by simpa using zB2 hr off n⟩
     ·simp only[zAv,PV.cells,Value.cells];rw[show((cs.drop off).take n).length=n by simp;omega];exact qu n yS
     ·simp only[Value.cells,PV.cells];simp at yA ⊢;omega
    ·cases hs
   | none =>
    simp only[sub] at hs;obtain⟨u2,La,Li,Lb,hu,hL,uG,_,_⟩:=hr.split hs;have:Li=[]:=by
     have:=congrArg length hL;simp at this;exact bq (by omega)
    subst this;simp only[dO,ci] at h
    cases ji:x.oneCell with
    |false=>rw[ji] at h;cases h|true=>
     rw[ji] at h;simp only[cond_true,ba] at h;subst h;have h1:=zBO (zCi (fun a v hw h=>zDd hw h) uG ji);have h2:=zBo ji;have yG:off<cs.length:=(bg.1 hs).1;refine⟨rfl,zAv b off,c,u2,rfl,rfl,hΦ,yH,?_,⟨by rw[h1.1,h2.1];rfl,by rw[h1.2,h2.2]⟩,uG⟩;rw[h1.1,h2.1];have:=qu 1 (by simp only[PV.cells];omega);simp only[zAv,bT];rw[this];simp only[Value.cells];have qN:off<vs.toList.length:=by omega
     rw[b6 qN];rw[bl qN] at hu;simp only[ba] at hu;simp[<- hu]
 case addr r pre i c s =>
  cases s with
  |none=>cases h
  | some s =>
   simp only[ba] at h;subst h;obtain⟨_,hg,b,rfl,yd,hn⟩:=hp;refine⟨b,rfl,yd,h0,rfl,hg,zAv b off,rfl,rfl,fun nv np hf a' ha=>?_⟩;have key:∃ a0,zBd nv np i c=some a0/\a'=zAv a0 off:=by
    cases np<;>try (simp[zBd] at ha;done)
    ·cases nv with
     |slice x _ _=>
      cases x with
      |none=>cases ha|some x=>simp only[zBd] at ha ⊢;cases ha;exact⟨_,rfl,by simp[zAv,cg]⟩
     |pointer x=>cases x<;>cases ha
     |_=>cases ha
    ·cases nv with
     |pointer x=>
      cases x with
      |none=>cases i<;>cases ha
      |some x=>cases i<;>simp only[zBd] at ha ⊢ <;> cases ha;exact⟨_,rfl,by simp[zAv,cg]⟩
     |slice x _ _=>cases x<;>cases ha
     |_=>cases ha
   obtain⟨a0,h1,h2⟩:=key;rw[h2,hn nv np hf a0 h1]
theorem zN3(S:St w0 U Φ0 nt hv a w e Φ rv E L)(hb:zBs E){d:ON}(hd:∀ x,d=some x->x<nt){t:TypeId}{x:Operand}{i:Nat}(hx:zAZ nt x=true)(h:(zJC P d t x i).run o e=some e') :
  ∃ v,(Instr.fieldAt t (a.eval x) i).run P w = .ok v w/\Fr w0 U Φ0 nt hv (a.put d v) w e':=by
 obtain⟨p,h1,hp⟩:=zBw S hx h;obtain⟨f,h2,h3⟩:=zBJ h1;obtain⟨sh,h4,h5⟩:=zBJ h3;obtain⟨q,h6,h7⟩:=zBJ h5;obtain⟨b,h8,h9,jZ,vX⟩:=zRM h6 hp;obtain⟨ti,jT,_,vA,kN⟩:=zFe (w:=w) h4;refine⟨_,?_,zAC S hb hd h7 vX⟩;have yI:ti.size≠0:=by
  cases sh with
  |none=>rw[kN rfl];decide|some n=>rw[<- vA n rfl];intro hc;subst hc;exact jZ rfl
 simp only[zMF] at h2
 cases ht:P.underlying t with
 |none=>rw[ht] at h2;cases h2|some td=>
  rw[ht] at h2;cases td<;>simp only at h2<;>try (cases h2;done)
  rw[h8];simp only[Instr.fieldAt,bo,run_underlying ht,bh,h2,Instr.sureAddr,bA,fieldPlace,zA7 jT,yI,if_false,iK];rw[zB4 h9]
theorem zCu{t:TypeId}{n:Nat}(h:szT P t=some n):∃ i,P.info? t=some i/\i.size=n:=by
 simp only[szT] at h
 cases hi:P.info? t with
 |none=>rw[hi] at h;cases h|some i=>rw[hi] at h;simp only[bv,ba] at h;exact⟨i,rfl,h⟩
theorem zVD{el:TypeId}{p q:PV}{i:Nat}{v:Value}{d:ON}{k:PV->PM}(h:(zR1 P d el p i).run o e=some e')(hp:Rep w Φ (zBa w rv E) p v []) :
  ∃ ti b n c q,P.info? el=some ti/\v = .slice (some b) n c/\i<n/\(put d q).run o e=some e'/\Rep w Φ (zBa w rv E) q (.pointer (some (b.add (i*ti.size)))) []:=by
 cases p<;>simp only[zR1] at h<;>try (cases h;done)
 case sl xs=>
  obtain⟨x,hx,h1⟩:=zBJ h;obtain⟨hs,h2⟩:=zDk h1;obtain⟨ti,jT,yI⟩:=zCu hs;obtain⟨_,⟨h3,_⟩|⟨b,n,c,us,sz,rfl,yd,yS,hΦ,yH,j6,⟨uA,qF⟩,jL,hr⟩⟩:=hp
  ·subst h3;simp at hx
  ·have yG:i<xs.length:=(bg.1 hx).1;obtain⟨u,La,Li,Lb,hu,hL,uG,_,_⟩:=hr.split hx;have uc:Li=[]:=by
    have:=congrArg length hL;simp at this;exact bq (by omega)
   subst uc;have vZ:=j6 x (bH hx);have jG:=uA u (bH hu);have hg:zCv u=x.isAgg:=by
    have h1:(us.map zCv)[i]? = some (zCv u):=by simp[hu]
    have h2:(xs.map PV.isAgg)[i]? = some x.isAgg:=by simp[hx]
    rw[qF] at h1;rw[h1] at h2;simpa using h2
   refine⟨ti,b,xs.length,n,.ref x,jT,rfl,yG,h2,rfl,zAv b (i*sz),c,u,?_,rfl,hΦ,yH,?_,⟨by omega,hg⟩,uG.mono zDq.refl (fun _ _ _ h=>h.elim) (by simp)⟩
   ·rw[zB4 yd,yI,vZ]
   ·rw[vZ];refine zGU (by simpa using jG) fun k y hy=>?_;have hf:=zEc uA hu hy;rw[<- jL] at hf;have:=zDj hf;simp only[zAv,cg];exact this
 case bor r pre z lo n=>
  cases jg:shT P el with
  |none=>rw[jg] at h;cases h
  | some sh =>
   rw[jg] at h;simp only at h;obtain⟨⟨yG,hs⟩,h2⟩:=zDk h;obtain⟨ti,jT,yI⟩:=zCu hs;obtain⟨_,hg,⟨x,cap,rfl,yV,y7,yf⟩,hn⟩:=hp
   cases x with
   |none=>have:=y7 rfl;omega
   | some b =>
    refine⟨ti,b,n,cap,_,jT,rfl,yG,h2,rfl,hg,b.add (i*ti.size),rfl,by rw[zB4 (yf b rfl)];rfl,fun nv np hf a' ha=>?_⟩;have hh:np.heavy0=true:=by cases np<;>first|rfl|(simp[zBd] at ha;done)
    obtain⟨sz,xs,h3,h4,h5⟩:=hn nv np hf hh;subst h3;subst h4;cases nv<;>simp only[zBX] at h5;rename_i y l c
    cases y with
    |none=>cases ha|some y=>
     simp only[zBX,dj,ba] at h5;simp only[zBd,ba] at ha;rw[<- ha,zB4 (yf b rfl),h5.1.1,yI];simp[zAv,cS,cg]
 case bsl r pre j c0 s ag n=>
  obtain⟨⟨yG,hs⟩,h2⟩:=zDk h;obtain⟨ti,jT,yI⟩:=zCu hs;obtain⟨_,hg,b,cap,rfl,yV,yf,hn⟩:=hp;refine⟨ti,b,n,cap,_,jT,rfl,yG,h2,rfl,hg,b.add (i*ti.size),rfl,by rw[zB4 yf];rfl,fun nv np hf a' ha=>?_⟩;have key:∃ a0,zBd nv np j c0=some a0/\a'=zAv a0 (i*s):=by
   cases np<;>try (simp[zBd] at ha;done)
   ·cases nv with
    |slice x _ _=>
     cases x with
     |none=>cases ha|some x=>simp only[zBd] at ha ⊢;cases ha;exact⟨_,rfl,by simp[zAv,cg]⟩
    |pointer x=>cases x<;>cases ha
    |_=>cases ha
   ·cases nv with
    |pointer x=>
     cases x with
     |none=>cases j<;>cases ha
     |some x=>cases j<;>simp only[zBd] at ha ⊢ <;> cases ha;exact⟨_,rfl,by simp[zAv,cg]⟩
    |slice x _ _=>cases x<;>cases ha
    |_=>cases ha
  obtain⟨a0,h3,h4⟩:=key;rw[h4,zB4 yf,hn nv np hf a0 h3,yI]
theorem zNY(S:St w0 U Φ0 nt hv a w e Φ rv E L)(hb:zBs E){d:ON}(hd:∀ x,d=some x->x<nt){t:TypeId}{x i:Operand}(hx:zAZ nt x=true)(hi:zAZ nt i=true)(h:(zFw P d t x i).run o e=some e') :
  ∃ v,(Instr.indexAt t (a.eval x) (a.eval i)).run P w = .ok v w/\Fr w0 U Φ0 nt hv (a.put d v) w e':=by
 obtain⟨p,h1,hp⟩:=zBw S hx h;obtain⟨pi,h2,hpi⟩:=zBw S hi h1;obtain⟨ik,n,rfl,hn,h3⟩:=zEj h2;rw[hpi.1];split at h3
 ·rename_i len el ht;simp only[zPa] at h3;split at h3
  ·rename_i s sh hs jg;obtain⟨yG,h4⟩:=zDk h3;obtain⟨q,h5,h6⟩:=zBJ h4;obtain⟨b,h7,h8,h9,jZ⟩:=zRM h5 hp;obtain⟨ti,jT,yI⟩:=zCu hs;refine⟨_,?_,zAC S hb hd h6 jZ⟩;rw[h7];simp only[Instr.indexAt,bo,asIntOf,bA,bh,run_underlying ht,Instr.sureAddr];rw[if_pos ⟨hn,by omega⟩];simp only[bo,zA7 jT,bh,bA];rw[zB4 h8,yI]
  ·cases h3
 ·rename_i el ht;obtain⟨ti,b,m,c,q,jT,yK,yG,h4,h5⟩:=zVD (q := .bad) (k:=fun _=>.ok) h3 hp;refine⟨_,?_,zAC S hb hd h4 h5⟩;rw[yK];simp only[Instr.indexAt,bo,asIntOf,bA,bh,run_underlying ht];rw[if_pos ⟨hn,by omega⟩];simp only[bo,zA7 jT,bh,bA]
 ·cases h3
theorem zVi{p:PV}{n:Nat}{v:Value}(h:lenOf p=some n)(hp:Rep w Φ (zBa w rv E) p v []):∃ b c,v = .slice b n c:=by
 cases p<;>simp only[lenOf] at h<;>try (cases h;done)
 case nils=>cases h;exact⟨_,_,hp.1⟩
 case nn=>cases h;obtain⟨_,b,c,h1⟩:=hp;exact⟨_,_,h1⟩
 case sl xs=>
  cases h;obtain⟨_,⟨rfl,b,c,rfl,_⟩|⟨b,c,_,_,_,rfl,_⟩⟩:=hp
  ·exact⟨_,_,rfl⟩
  ·exact⟨_,_,rfl⟩
 case bor=>cases h;obtain⟨_,_,⟨b,c,rfl,_⟩,_⟩:=hp;exact⟨_,_,rfl⟩
 case bsl=>cases h;obtain⟨_,_,b,c,rfl,_⟩:=hp;exact⟨_,_,rfl⟩
theorem zY0(S:St w0 U Φ0 nt hv a w e Φ rv E L)(hb:zBs E){d:ON}(hd:∀ x,d=some x->x<nt){ty:TypeId}{ts:Array TypeId}{xs:Array Operand}(hx:∀ x∈xs.toList,zAZ nt x=true)
  (h:(zBB P d .len ts.toList xs.toList).run o e=some e') :
  ∃ v,(Builtin.len_ ts ty (xs.map a.eval)).run P w = .ok v w/\Fr w0 U Φ0 nt hv (a.put d v) w e':=by
 obtain⟨ts⟩:=ts;obtain⟨xs⟩:=xs;simp only at h hx;rcases xs with _|⟨x,_|⟨y,xs⟩⟩<;>rcases ts with _|⟨t,ts⟩<;>try (cases h;done)
 obtain⟨p,h1,hp⟩:=zBw S (hx x (by simp)) h;split at h1
 ·rename_i n el ht;refine⟨_,?_,zAC S hb hd h1 ⟨rfl,rfl⟩⟩;simp only[Builtin.len_,fm,bL,dZ,List.getElem?_toArray,bJ,bo,run_underlying ht,bh];cases a.eval x<;>rfl
 ·rename_i el ht;split at h1
  ·rename_i n hn;obtain⟨b,c,yK⟩:=zVi hn hp;refine⟨_,?_,zAC S hb hd h1 ⟨rfl,rfl⟩⟩;simp only[Builtin.len_,fm,bL,dZ,List.getElem?_toArray,bJ,bo,run_underlying ht,bh,yK];rfl
  ·cases h1
 ·cases h1
theorem zTI{k:IntKind}:∀ (ps:List PV) (vs:List Value) (m:Int) (r:Option Int),zA8 w Φ A ps vs [] ->
  (ps.foldl (fun m p=>match m,p with
   |some m,.int k' b=>if k=k' then some (if b>m then b else m) else none
   |_,_=>none) (some m))=r->∀ z,r=some z->(vs.foldlM Builtin.max2 (.int k m)).run P w = .ok (.int k z) w
 |[],vs,m,r,hr,h,z,hz=>by rw[hr.1];simp only[cv] at h;rw[<- h] at hz;cases hz;rfl
 | p :: ps,vs,m,r,hr,h,z,hz=>by
  obtain⟨v,vs',L1,L2,rfl,hL,h1,h2⟩:=hr;obtain⟨rfl,rfl⟩:L1=[]/\L2=[]:=by simpa using hL.symm
  have dead:∀ qs:List PV,qs.foldl (fun m p=>match m,p with
   |some m,.int k' b=>if k=k' then some (if b>m then b else m) else none
   |_,_=>none) (none:Option Int)=none:=by
   intro qs;induction qs with
   |nil=>rfl|cons q qs ih=>simp only[bM];exact ih
  simp only[bM] at h;cases p<;>try (simp only at h;rw[dead] at h;rw[<- h] at hz;cases hz;done)
  rename_i k' b;simp only at h;split at h
  ·rename_i hk;subst hk;rw[h1.1];simp only[List.foldlM_cons,Builtin.max2,bo,bA,bh];exact zTI ps vs' _ r h2 h z hz
  ·rw[dead] at h;rw[<- h] at hz;cases hz
theorem zTK{k:IntKind}:∀ (ps:List PV) (vs:List Value) (m:Int) (r:Option Int),zA8 w Φ A ps vs [] ->
  (ps.foldl (fun m p=>match m,p with
   |some m,.int k' b=>if k=k' then some (if b<m then b else m) else none
   |_,_=>none) (some m))=r->∀ z,r=some z->(vs.foldlM Builtin.min2 (.int k m)).run P w = .ok (.int k z) w
 |[],vs,m,r,hr,h,z,hz=>by rw[hr.1];simp only[cv] at h;rw[<- h] at hz;cases hz;rfl
 | p :: ps,vs,m,r,hr,h,z,hz=>by
  obtain⟨v,vs',L1,L2,rfl,hL,h1,h2⟩:=hr;obtain⟨rfl,rfl⟩:L1=[]/\L2=[]:=by simpa using hL.symm
  have dead:∀ qs:List PV,qs.foldl (fun m p=>match m,p with
   |some m,.int k' b=>if k=k' then some (if b<m then b else m) else none
   |_,_=>none) (none:Option Int)=none:=by
   intro qs;induction qs with
   |nil=>rfl|cons q qs ih=>simp only[bM];exact ih
  simp only[bM] at h;cases p<;>try (simp only at h;rw[dead] at h;rw[<- h] at hz;cases hz;done)
  rename_i k' b;simp only at h;split at h
  ·rename_i hk;subst hk;rw[h1.1];simp only[List.foldlM_cons,Builtin.min2,bo,bA,bh];exact zTK ps vs' _ r h2 h z hz
  ·rw[dead] at h;rw[<- h] at hz;cases hz
theorem zYp(S:St w0 U Φ0 nt hv a w e Φ rv E L)(hb:zBs E){d:ON}(hd:∀ x,d=some x->x<nt){ty:TypeId}{ts:Array TypeId}{xs:Array Operand}(hx:∀ x∈xs.toList,zAZ nt x=true)
  (h:(zBB P d .max ts.toList xs.toList).run o e=some e'):∃ v,(Builtin.max_ ts ty (xs.map a.eval)).run P w = .ok v w/\Fr w0 U Φ0 nt hv (a.put d v) w e':=by
 simp only[zBB] at h;obtain⟨ps,h1,hp⟩:=zHW S hx h
 cases hm:zZa ps with
 |none=>rw[hm] at h1;cases h1|some r=>
  rw[hm] at h1;simp only at h1;rcases ps with _|⟨p,ps⟩<;>simp only[zZa] at hm<;>try (cases hm;done)
  cases p<;>simp only at hm<;>try (cases hm;done)
  rename_i k x0;simp only[bm] at hm;obtain⟨z,hz,rfl⟩:=hm;obtain⟨v,vs',L1,L2,yn,hL,g1,g2⟩:=hp;obtain⟨rfl,rfl⟩:L1=[]/\L2=[]:=by simpa using hL.symm
  refine⟨.int k z,?_,zAC S hb hd h1 ⟨rfl,rfl⟩⟩;simp only[Builtin.max_,iy,yn];rw[g1.1];exact zTI ps vs' x0 _ g2 hz z rfl
theorem zY5(S:St w0 U Φ0 nt hv a w e Φ rv E L)(hb:zBs E){d:ON}(hd:∀ x,d=some x->x<nt){ty:TypeId}{ts:Array TypeId}{xs:Array Operand}(hx:∀ x∈xs.toList,zAZ nt x=true)
  (h:(zBB P d .min ts.toList xs.toList).run o e=some e'):∃ v,(Builtin.min_ ts ty (xs.map a.eval)).run P w = .ok v w/\Fr w0 U Φ0 nt hv (a.put d v) w e':=by
 simp only[zBB] at h;obtain⟨ps,h1,hp⟩:=zHW S hx h
 cases hm:zZl ps with
 |none=>rw[hm] at h1;cases h1|some r=>
  rw[hm] at h1;simp only at h1;rcases ps with _|⟨p,ps⟩<;>simp only[zZl] at hm<;>try (cases hm;done)
  cases p<;>simp only at hm<;>try (cases hm;done)
  rename_i k x0;simp only[bm] at hm;obtain⟨z,hz,rfl⟩:=hm;obtain⟨v,vs',L1,L2,yn,hL,g1,g2⟩:=hp;obtain⟨rfl,rfl⟩:L1=[]/\L2=[]:=by simpa using hL.symm
  refine⟨.int k z,?_,zAC S hb hd h1 ⟨rfl,rfl⟩⟩;simp only[Builtin.min_,iy,yn];rw[g1.1];exact zTK ps vs' x0 _ g2 hz z rfl
end
end Go.Eng
namespace Go.Eng
open Go
section
variable {P:Program} {w0 w w':World} {U Φ0 Φ:Nat->Prop} {nt:Nat} {hv:Hid} {a:Act} {e e':Env} {rv rv':Nat->Value} {E E':Nat->PV} {L L':Nat->LN} {o:zAK} {A:Al}
def zGT(w:World)(c:Array Value)(t:TypeId):World:={w with heap:=w.heap.push (.cells c t)}
theorem zFi(t:TypeId)(c:Array Value):(newRow t c).run P w = .ok ⟨w.heap.size,0,none⟩ (zGT w c t):=by
 simp[newRow,zGT]
theorem zHC{c:Array Value}{t:TypeId}{b:Nat}(h:b<w.heap.size):(zGT w c t).heap[b]? = w.heap[b]?:=by
 simp only[zGT,d8];rw[if_neg (by omega)]
theorem zNj{c:Array Value}{t:TypeId}:zE2 (zGT w c t) w.heap.size c:=⟨t,by show(w.heap.push (.cells c t))[w.heap.size]? = _;simp⟩
theorem zGt{c:Array Value}{t:TypeId}:(zGT w c t).heap.size=w.heap.size+1:=by simp[zGT]
theorem zM2{p:PV}{v:Value}(h:zKJ p v=true):Rep w Φ A p v []/\p.oneCell=true/\v.oneCell'=true:=by
 cases p<;>cases v<;>simp only[zKJ] at h<;>try (cases h;done)
 case int=>simp only[bb,decide_eq_true_eq] at h;obtain⟨rfl,rfl⟩:=h;exact⟨⟨rfl,rfl⟩,rfl,rfl⟩
 case bool=>simp only[beq_iff_eq] at h;subst h;exact⟨⟨rfl,rfl⟩,rfl,rfl⟩
 case nilp.pointer a=>cases a<;>simp only[zKJ] at h<;>first|(cases h;done)|exact⟨⟨rfl,rfl⟩,rfl,rfl⟩
 case nilf=>exact⟨⟨rfl,rfl⟩,rfl,rfl⟩
 case nilm.map a=>cases a<;>simp only[zKJ] at h<;>first|(cases h;done)|exact⟨⟨rfl,rfl⟩,rfl,rfl⟩
 case own.slice sz xs a n c=>
  cases xs with
  |cons _ _=>simp only[zKJ] at h;cases h|nil=>
   cases a with
   |some _=>simp only[zKJ] at h;cases h|none=>cases n<;>cases c<;>simp only[zKJ] at h<;>first|(cases h;done)|exact⟨.inl ⟨rfl,rfl,rfl⟩,rfl,rfl⟩
theorem zNI:∀ {ps:List PV} {vs:List Value},zVd ps vs=true->zA8 w Φ A ps vs []/\(∀ v∈vs,v.oneCell'=true)/\∀ p∈ps,p.oneCell=true
 |[],[],_=>⟨⟨rfl,rfl⟩,by simp,by simp⟩|[],_::_,h=>by cases h|_::_,[],h=>by cases h|p::ps,v::vs,h=>by
  simp only[zVd,bb] at h;obtain⟨h1,h2,h3⟩:=zM2 (w:=w) (Φ:=Φ) (A:=A) h.1;obtain⟨h4,h5,h6⟩:=zNI h.2;exact⟨⟨v,vs,[],[],rfl,rfl,h1,h4⟩,fun x hx=>(bx.1 hx).elim (fun e=>e▸h3) (h5 x),fun x hx=>(bx.1 hx).elim (fun e=>e▸h2) (h6 x)⟩
theorem zCq{p:PV}{v:Value}(h:zNr p v=true):Rep w Φ A p v []/\v.cells.size=p.cells.length/\zCv v=p.isAgg/\(∀ u∈v.cells.toList,u.oneCell'=true)/\∀ q∈p.cells,q.oneCell=true:=by
 by_cases hp:∃ cs,p = .agg cs
 ·obtain⟨cs,rfl⟩:=hp;cases v<;>simp only[zNr] at h<;>try (cases h;done)
  rename_i vs;obtain⟨h1,h2,h3⟩:=zNI (w:=w) (Φ:=Φ) (A:=A) h;have:=h1.length;exact⟨⟨vs,rfl,h1⟩,by simpa[Value.cells,PV.cells] using this,rfl,h2,h3⟩
 ·have h:zKJ p v=true:=by
   rw[<- h];cases p<;>first|rfl|exact absurd ⟨_,rfl⟩ hp
  obtain⟨h1,h2,h3⟩:=zM2 (w:=w) (Φ:=Φ) (A:=A) h;have h4:=zBO h3;have h5:=zBo h2;exact⟨h1,by rw[h4.1,h5.1];rfl,by rw[h4.2,h5.2],by rw[h4.1];simpa using h3,by rw[h5.1];simpa using h2⟩
theorem zDN{t:TypeId}{z:PV}(h:zCO P t=some z):∃ i v,P.info? t=some i/\i.zero=some v/\(∀ w:World,(zeroValue t).run P w = .ok v w)/\zNr z v=true:=by
 simp only[zCO] at h;split at h
 ·rename_i cs sh v _ _ hv
  cases hi:P.info? t with
  |none=>rw[hi] at hv;cases hv
  | some i =>
   rw[hi] at hv;simp only[bc] at hv
   cases hz:zNr (zOY sh cs) v with
   |false=>rw[hz] at h;cases h|true=>
    rw[hz] at h;simp only[cond_true,ba] at h;subst h;refine⟨i,v,rfl,hv,fun w=>?_,hz⟩;simp[zeroValue,typeInfo,hi,hv]
 ·cases h
theorem St.boxed(S:St w0 U Φ0 nt hv a w e Φ rv E L){g0 g:Nat}(hg0:zAa<=g0)(hg:zAa<=g)(hI:g≠g0)(ud:E g = .bad){v:Value}(yK:rv g0=v)(t:TypeId)(yI:v.cells.size=(E g0).cells.length/\zCv v=(E g0).isAgg) :
  ∃ rv1 E1 L1,St w0 U Φ0 nt hv a (zGT w v.cells t) e Φ rv1 E1 L1/\E1 g = .box (E g0)/\rv1 g = .pointer (some ⟨w.heap.size,0,none⟩)/\E1 g0 = .bad/\∀ s,zAa<=s->s≠g->s≠g0->E1 s=E s:=by
 have hZ:=S.conf.rep g0;rw[yK] at hZ;have hold:∀ b∈L g0,(zGT w v.cells t).heap[b]? = w.heap[b]?:=fun b hb=>zHC (S.conf.own g0 b hb).1;have hΦ:zDq w (zGT w v.cells t) Φ Φ:=fun b hb=>⟨hb,zHC (S.conf.frz b hb).1⟩
 have hc:=S.conf.make (w':=zGT w v.cells t) (fun s=>s==g0) (fun s hs=>by have:=eq_of_beq hs;omega) hg (p := .box (E g0)) (v := .pointer (some ⟨w.heap.size,0,none⟩)) (Lp:=w.heap.size::L g0)
  (fun A hA=>⟨_,v.cells,v,L g0,rfl,rfl,rfl,zNj,by show(v.cells.toList.drop 0).take _=_;rw[<- yI.1];exact bw (by simp),yI,hZ.mono hΦ hA hold⟩)
  (cB.2 ⟨fun hm=>absurd (S.conf.own g0 _ hm).1 (fJ _),S.conf.nodup g0⟩)
  (fun b hb=>by
   rcases bx.1 hb with rfl|hb
   ·exact .inr ⟨bf _,by rw[zGt];omega⟩
   ·exact .inl ⟨g0,hb,by simp⟩)
  (by rw[zGt];omega) (fun b hb _=>zHC hb) ⟨rfl,rfl,rfl⟩
 refine⟨_,_,_,S.turn hc (fun s hs=>?_) (fun s hs=>zAe (by omega)) (fun d ps hd hp=>?_),zAi,zAi,?_,fun s h1 h2 h3=>?_⟩
 ·rw[zAe (by omega)];have:(s==g0)=false:=by simp;omega
  simp only[this,bp,if_false];exact S.env s hs
 ·simp only[zAa] at hg hg0;rw[zAe (by omega)] at hp;have:(d==g0)=false:=by simp;omega
  simp only[this,bp,if_false] at hp;exact⟨ps,hp,rfl⟩
 ·rw[zAe (dK hI)];simp
 ·rw[zAe h2];have:(s==g0)=false:=by simp[h3]
  simp[this]
theorem zUI(S:St w0 U Φ0 nt hv a w e Φ rv E L)(hb:zBs E){d:ON}(hd:∀ x,d=some x->x<nt){t:TypeId}(h:(zSw P d t).run o e=some e') :
  ∃ v w',(Instr.alloc t true (.tuple #[])).run P w = .ok v w'/\Fr w0 U Φ0 nt hv (a.put d v) w' e':=by
 obtain⟨z,hz,h1⟩:=zBJ h;obtain⟨i,v,hi,hiz,yC,kd⟩:=zDN hz;have ke:=zCq (w:=w) (Φ:=Φ) (A:=zBa w rv E) kd;obtain⟨hr,h2,h3⟩:Rep w Φ (zBa w rv E) (zSW P t z) v []/\v.cells.size=(zSW P t z).cells.length/\zCv v=(zSW P t z).isAgg:=by
  cases z with
  |nils k=>
   simp only[zSW];split
   ·exact⟨.inl ⟨rfl,rfl,ke.1.1⟩,ke.2.1,ke.2.2.1⟩
   ·exact⟨ke.1,ke.2.1,ke.2.2.1⟩
  |_=>exact⟨ke.1,ke.2.1,ke.2.2.1⟩
 have S1:=S.hold (bf zAa) hr;obtain⟨rv1,E1,L1,S2,h4,h5,h6,h7⟩:=S1.boxed (g0:=zAa) (g:=zAa+1) (bf _) (by omega) (by omega) (by rw[zAe (by omega)];exact hb _ (by omega)) zAi t (by rw[zAi];exact⟨h2,h3⟩);have:=zFU S2 hd (g:=zAa+1) (by omega) (by rw[h4,zAi];exact h1) (fun s hs hI=>by
   by_cases h8:s=zAa
   ·subst h8;exact h6
   ·rw[h7 s hs hI h8,zAe h8];exact hb s hs)
 rw[h5] at this;refine⟨_,_,?_,this⟩;simp only[Instr.alloc,bo,yC,bh,newVar,zFi,bA]
theorem zYK(S:St w0 U Φ0 nt hv a w e Φ rv E L)(hb:zBs E){d:ON}(hd:∀ x,d=some x->x<nt){t:TypeId}{x:Operand}(hx:zAZ nt x=true)(h:(zVU P d t x).run o e=some e') :
  ∃ v w',(Instr.box t (a.eval x)).run P w = .ok v w'/\Fr w0 U Φ0 nt hv (a.put d v) w' e':=by
 obtain⟨e1,rv1,E1,L1,h1,S1,h2,h3⟩:=zFY S hx (bf zAa) h;split at h1
 ·rename_i sh n _ _;obtain⟨h4,h5⟩:=zDk h1;simp only[bb,decide_eq_true_eq] at h4;have hZ:=S1.conf.rep zAa;rw[h2] at hZ;have yI:(a.eval x).cells.size=(E1 zAa).cells.length/\zCv (a.eval x)=(E1 zAa).isAgg:=by
   have hw:=h4.2;simp only[PV.whole,bW] at hw;rcases hw with hw|hw
   ·cases hE:E1 zAa<;>rw[hE] at hw<;>simp[PV.isAgg] at hw;rw[hE] at hZ;obtain⟨vs,yK,hr⟩:=hZ;have:=hr.length;rw[yK];exact⟨by simpa[Value.cells,PV.cells] using this,rfl⟩
   ·have g1:=zBO (zCi (fun a v hw h=>zDd hw h) hZ hw);have g2:=zBo hw;exact⟨by rw[g1.1,g2.1];rfl,by rw[g1.2,g2.2]⟩
  obtain⟨rv2,E2,L2,S2,h6,h7,h8,h9⟩:=S1.boxed (g0:=zAa) (g:=zAa+1) (bf _) (by omega) (by omega) (by rw[(h3 (zAa+1) (by omega) (by omega)).1];exact hb _ (by omega)) h2 t yI;have:=zFU S2 hd (g:=zAa+1) (by omega) (by rw[h6];exact h5) (fun s hs hI=>by
    by_cases jZ:s=zAa
    ·subst jZ;exact h8
    ·rw[h9 s hs hI jZ,(h3 s hs jZ).1];exact hb s hs)
  rw[h7] at this;refine⟨_,_,?_,this⟩;simp only[Instr.box,bo,newVar,zFi,bh,bA]
 ·cases h1
theorem zLy{t:TypeId}{sh:ON}(hs:shT P t=some sh){b:Addr}{u:Value}(hc:∀ j y,u.cells.toList[j]? = some y->w.cell? (b.add j)=some y)(hu:zCv u=sh.isSome)(hn:u.cells.size=sh.getD 1) :
  (loadVar t b).run P w = .ok u w:=by
 obtain⟨ti,jT,jA,h1,h2⟩:=zFe (w:=w) hs
 cases sh with
 |some n=>
  have:=h1 n rfl;subst this;cases u<;>simp[zCv] at hu;rename_i vs;simp only[dd,Value.cells] at hn;have hl:=run_loadCells_list (P:=P) w b vs.toList hc;have gc:(loadCells b ti.size).run P w = .ok vs w:=by rw[<- hn];simpa using hl
  simp only[loadVar,bo,jA,bh,ia,if_true,zA7 jT,gc,bA,iK]
 |none=>
  have uA:u.cells=#[u]:=by cases u<;>first|rfl|simp[zCv] at hu
  have:=hc 0 u (by rw[uA];rfl);have h0:b.add 0=b:=by simp[Addr.add]
  rw[h0] at this;simp only[loadVar,bo,jA,bh,dO,bp,if_false,iK,run_load,this]
theorem zIs{b:Addr}{c:Array Value}{l:List Value}(yd:b.spot=none)(hr:zJw w b.block c)(h:seg c b.off l.length=l):∀ j y,l[j]? = some y->w.cell? (b.add j)=some y:=by
 intro j y hy;rw[zB4 yd];simp only[zAv];rw[zC2 hr];rw[<- h] at hy;exact zDj hy
theorem zUQ{q:List PV}{u:Value}{us:List Value}(h:zA8 w Φ A q us [])(hl:us=[u]):Rep w Φ A (q.headD .bad) u []:=by
 subst hl
 cases q with
 |nil=>exact absurd h.1 (by simp)|cons p ps=>
  obtain⟨v,vs',L1,L2,h1,h2,h3,_⟩:=h;obtain⟨rfl,rfl⟩:L1=[]/\L2=[]:=by simpa using h2.symm
  simp only[fc] at h1;rw[h1.1];exact h3
theorem zMx(S:St w0 U Φ0 nt hv a w e Φ rv E L){t:TypeId}{sh:ON}(hs:shT P t=some sh){r:Nat}{pre:zA4}{i c:Nat}{s':ON}{v:Value}(hp:Rep w Φ (zBa w rv E) (.addr r pre i c s') v [])
  {k:PV->PM} (h:(zNb r pre i c sh k).run o e=some e'):∃ b u q,v = .pointer (some b)/\(loadVar t b).run P w = .ok u w/\(k q).run o e=some e'/\Rep w Φ (zBa w rv E) q u []:=by
 obtain⟨_,hg,b,rfl,yd,hn⟩:=hp;refine⟨b,?_⟩
 cases sh with
 | some n =>
  simp only[zNb,PM.run] at h;split at h
  ·rename_i ag qs hq;rw[<- S.env r hg] at hq;obtain⟨nv,np,ad,us,h1,h2,h3,h4,h5,h6⟩:=S.conf.cells hg hq;have:=hn nv np h1 ad h2;subst this
   cases ag with
   |false=>cases h|true=>
    refine⟨.agg us.toArray,.agg qs,rfl,zLy hs (fun j y hy=>h5 j y (by simpa[Value.cells] using hy)) rfl (by simpa[Value.cells] using h4),h,_,rfl,by simpa using h6⟩
  ·cases h
 | none =>
  simp only[zNb,PM.run] at h;split at h
  ·rename_i ag qs hq;rw[<- S.env r hg] at hq;obtain⟨nv,np,ad,us,h1,h2,h3,h4,h5,h6⟩:=S.conf.cells hg hq;have:=hn nv np h1 ad h2;subst this
   match us,h4 with
   |[u],_=>
    refine⟨u,qs.headD .bad,rfl,?_,h,zUQ h6 rfl⟩;have:=h5 0 u rfl;rw[show b.add 0=b by simp[Addr.add]] at this;obtain⟨ti,jT,jA,_⟩:=zFe (w:=w) hs;simp only[loadVar,bo,jA,bh,dO,bp,if_false,iK,run_load,this]
  ·cases h
theorem zP4(S:St w0 U Φ0 nt hv a w e Φ rv E L)(hb:zBs E){d:ON}(hd:∀ x,d=some x->x<nt){t:TypeId}{sh:ON}(hs:shT P t=some sh){p:PV}{v:Value}(hp:Rep w Φ (zBa w rv E) p v [])(h:(zQH d sh p).run o e=some e') :
  ∃ u,(Instr.loadAt t v).run P w = .ok u w/\Fr w0 U Φ0 nt hv (a.put d u) w e':=by
 cases p<;>simp only[zQH] at h<;>try (cases h;done)
 case ref q=>
  obtain⟨h1,h2⟩:=zDk h;simp only[bb,decide_eq_true_eq] at h1;obtain⟨_,b,c,u,rfl,yd,hΦ,yH,jL,⟨yI,jj⟩,hr⟩:=hp;refine⟨u,?_,zAC S hb hd h2 hr⟩;simp only[Instr.loadAt,Instr.sureAddr,bo,bA,bh];refine zLy hs (zIs yd yH ?_) ?_ ?_
  ·rw[show u.cells.toList.length=q.cells.length by simpa using yI];exact jL
  ·rw[jj,h1.1]
  ·rw[yI,h1.2]
 case addr r pre i c s'=>
  obtain⟨b,u,q,rfl,h1,h2,h3⟩:=zMx S hs hp h;refine⟨u,?_,zAC S hb hd h2 h3⟩;simp only[Instr.loadAt,Instr.sureAddr,bo,bA,bh];exact h1
end
end Go.Eng
