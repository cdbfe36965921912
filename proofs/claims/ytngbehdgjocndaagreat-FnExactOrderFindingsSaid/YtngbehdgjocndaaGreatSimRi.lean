/- A row's end: the arguments read as they did, nothing that was there has changed. Conditions: none. -/
import Derived.Test.YtngbehdgjocndaaGreatSimRh
import Derived.Below
namespace Go.Sim
open Go.Pw
set_option linter.unusedSimpArgs false
set_option linter.unusedVariables false
variable {P:Program} {α:Type} {en:α→List AV} {ok:α→Prop} {t e:TypeId}
def DU (P:Program):Bool:=(List.range P.types.size).all fun t=>match P.underlying t with | some (.slice e)=>decide (0<P.cellsOf e) | _=>true
theorem Pm (h:DU P=true) {t e:TypeId} (ht:t<P.types.size) (hu:P.underlying t=some (.slice e)):0<P.cellsOf e:=by
 have:=List.all_eq_true.1 h t (List.mem_range.2 ht)
 rw [hu] at this
 simpa using this
theorem TK {H:Type} {enc:TypeId×Value→H} {w w':World} {sp':Nat→Bool} (K:Kids P (· <P.types.size)) (hz:DU P=true) (hb:∀i,i<w.heap.size→w'.heap[i]?=w.heap[i]?) (hs:∀i,i<w.heap.size→sp' i=true):
 ∀{ts:List TypeId} {vs:List Value} {ds:List (DataW H)} {ps:List MemPlace},(∀t∈ts,t<P.types.size)→DataW.TrodAll enc P w 0 (fun _=>true) true ts vs ds ps→DataW.TrodAll enc P w' 0 sp' true ts vs ds ps:=by
 intro ts
 induction ts with
 | nil=>
  intro vs ds ps _ h
  cases vs<;>cases ds<;>first | exact h | exact h.elim
 | cons t ts ih=>
  intro vs ds ps ht h
  cases vs with
  | nil=>exact h.elim
  | cons v vs=>
   cases ds with
   | nil=>exact h.elim
   | cons d ds=>
    obtain ⟨p,q,⟨n,h1⟩,h2,rfl⟩:=h
    have hl:=DataW.trod_lt n t _ _ h1
    refine ⟨p,q,⟨n,?_⟩,ih (fun t h=>ht t (by simp [h])) h2,rfl⟩
    refine DataW.trod_stays K (fun ht hu=>Pm hz ht hu) (fun h=>by cases h) (ht t (by simp)) h1 ?_ (fun p hp=>hs _ (hl p hp))
    intro p hp
    have hp:=hl p hp
    cases p with
    | cell b o=>exact World.cell?_of_block (w:=w) (hb b hp)
    | map b=>exact hb b hp
theorem cells_one {v:Value} (h:∀us,v≠ .agg us):v.cells.toList=[v]:=by
 cases v<;>first | rfl | (exact absurd rfl (h _))
theorem air {tt:Nat} {fs:Array Field} (o:y7 P t en ok) (hn:P.underlying t=some (.struct fs))
 {H:Type} {enc:TypeId×Value→H} {w:World} {b:Nat} {v:Value} {d:DataW H} {p:List MemPlace} (hv:Value.okWide P w .any b t v) (h:DataW.Trod enc P w 0 (fun _=>true) true t v d p):
 ∃a,afJ w (fun b=>b<w.heap.size) (.im tt true (en a)) v∧ok a:=by
 unfold Value.okWide at hv
 rw [hn] at hv
 obtain ⟨cs,rfl,_⟩:=hv
 obtain ⟨n,h⟩:=h
 obtain ⟨a,k1,k2⟩:=o H enc w n _ _ h
 exact ⟨a,.agg k1,k2⟩
theorem af6 {fn:Func} {s:ChangeSpec} {W W':World} {H:Type} {enc:TypeId×Value→H} {args:Array Value} {ds:List (DataW H)} {before:List MemPlace} {bt:TypeId}
 (hbt:P.underlying bt=some .bool) (hres:fn.resultTypes=#[bt]) (hvars:s.vars=[]) (hW:DataW.Whole enc P fn.params.toList s.vars false W args.toList ds [] before)
 (hfn:s.fn H (ds++[])={results:=[.lit (.bool true)],args:=ds}) (K:Kids P (· <P.types.size)) (hz:DU P=true) (hT:∀t∈fn.params.toList,t<P.types.size)
 (hio:W'.os=W.os∧W'.output=W.output) (hb:∀i,i<W.heap.size→W'.heap[i]?=W.heap[i]?):
 s.post enc P fn false true false false W args (.bool true) W':=by
 have hW':=hW
 obtain ⟨p,q,hA,hV,rfl,hfz,hnd⟩:=hW
 refine ⟨ds,[],p++q,[],p,[],hW',?_,?_,?_,?_,fun h=>by cases h⟩
 ·rw [hfn,hres]
  exact _root_.Go.ChangeShapes.trodAll_mk1 ⟨1,by simp [DataW.trod,Value.cells,hbt]⟩
 ·rw [hfn]
  exact TK K hz hb (fun i hi=>by simpa using hi) hT hA
 ·rw [hfn,hvars];rfl
 ·refine ⟨hio.1,hio.2,fun i hi=>?_⟩
  rw [hb i hi]
  split<;>simp_all
end Go.Sim
