/- Rules for arrays whose index is told: a load and a store of one element. Conditions: none. -/
import Derived.Test.YtigjhjlkdamncaaSimRf
import Derived.Test.YtigjhjlkdamncaaSimPz
namespace Go.Sim
open Go.Pw
set_option linter.unusedVariables false
section
variable {P : Program} {cfg : Cfg} {C : CallF} {f nt : Nat} {ops : Array Oper} {l : List Oper} {st st1 st2 X : St} {A A' : List (Nat × SV)} {B B' : List (Nat × Option Obj)}
variable {d : Nat} {op : Op} {dst : Option Tmp} {ty : TypeId} {pos : String} {aft : Array Edge} {gd : Option (Nat × Bool)}

/-- What lies at an element of an array of numbers. -/
theorem ldA {o s off : Nat} {ob : Obj} {k : IntKind} {L : List Int} {n v : Int} (hr : rd L n = some v) (hL : look none B o = some ob) (hg : ob.gen = s) (hm : ob.mem = true)
    (hc : ((ob.cs.drop off).take L.length).map (fun c => (c.m, c.a)) = L.map (fun v => (OM.imm, AV.sc (.int k v)))) :
    (mk A B).load false 1 (.mp o s (off + n.toNat * 1)) = some (.v false [.im 0 (.sc (.int k v))]) := by
  obtain ⟨h0, h1⟩ := rd_iff.1 hr
  have e2 : (mk A B).obj o s = some ob := by
    unfold St.obj
    have e : (mk A B).L o = look none B o := rfl
    rw [e, hL]
    simp only [Option.bind_some, hg, Nat.beq_refl, cond]
  have hlt : n.toNat < L.length := (List.getElem?_eq_some_iff.1 h1).1
  have hci : (((ob.cs.drop off).take L.length).map (fun c => (c.m, c.a)))[n.toNat]? = some (OM.imm, AV.sc (.int k v)) := by
    rw [hc, List.getElem?_map, h1]
    rfl
  rw [List.getElem?_map, List.getElem?_take, if_pos hlt, List.getElem?_drop] at hci
  obtain ⟨c, hc1, hc2⟩ := Option.map_eq_some_iff.1 hci
  have hlen : off + n.toNat < ob.cs.length := (List.getElem?_eq_some_iff.1 hc1).1
  have hb : (ob.mem && Nat.ble (off + n.toNat * 1 + 1) ob.cs.length) = true := by
    rw [hm, Bool.true_and]
    exact Nat.ble_eq_true_of_le (by omega)
  have hd : (ob.cs.drop (off + n.toNat * 1)).take 1 = [c] := by
    rw [Nat.mul_one, List.drop_eq_getElem_cons hlen]
    have : ob.cs[off + n.toNat] = c := by
      rw [List.getElem?_eq_getElem hlen] at hc1
      exact Option.some.inj hc1
    rw [this]
    rfl
  obtain ⟨cm, cs, ct, ca⟩ := c
  cases hc2
  simp only [St.load, e2, Option.bind_some, hb, if_true, hd]
  rfl

/-- A store to an element of an array. -/
theorem oStA {t : TypeId} {x y : Operand} {zs : List RV} {ks : List (Option Nat)} {ag ag' : Bool} {m o s off : Nat} {n J : Int} {cs : List RV} {xs : List CV} {ob : Obj} (hj : n = J) (hT : tyF P t = some (zs, ks, ag, m)) (hx : (mk A B).get x = .v false [.mp o s (off + n.toNat * 1)]) (hy : (mk A B).get y = .v ag' cs) (hn : cs.length.beq m = true)
    (ht : (mk A B).takeAll ks cs = some (xs, mk A' B')) (hL : look none B' o = some ob) (hs : ob.gen = s) (hok : (ob.mem && !ob.fz && Nat.ble (off + J.toNat * 1 + xs.length) ob.cs.length) = true) :
    evOp P cfg C nt ⟨none, .store t x y, ty, pos, aft, gd⟩ (mk A B) = some (mk A' ((o, some { ob with ctr := ob.ctr + 1, cs := Sim.splice ob.cs (off + J.toNat * 1) (xs.map (CV.at (ob.ctr + 1))) }) :: B')) := by
  subst hj
  exact oSt hT hx hy hn ht hL hs hok

end
end Go.Sim
