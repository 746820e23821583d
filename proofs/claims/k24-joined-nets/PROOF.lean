import PyProof.Rows.All
import Wide.All
import OpenK.AllK
import Wide.FinOn
import HandS.ForMost
import HandS.Walk
import HandS.Star
import HandS.IsInst
import HandS.TupMul
import HandS.Wide
import HandS.WideBits
import HandS.DictComp
import HandS.TupSets
import HandS.SetFor
import HandS.Conv
import HandS.Zip
import HandS.Defaults
import HandS.Deep
import HandS.Codes
import HandS.Evl
import HandS.Style
import HandS.HeadHook2
import KE.KDictPairs
import KE.GoesEnum
import KE.KDictZip
import KE.GoesZip
import KE.KDictList
import HandS.Head0
import HandS.Head1
import HandS.Head2
import HandS.HeadEnd
import HandS.HeadHook1
import PySem.Challenge.RW_lookmade_k24_whole_joined_nets_end_alike
set_option Elab.async false
set_option linter.all false
set_option maxRecDepth 100000
namespace Lk
open PySem PySem.Spec PyProof.Rows L2
def netC (K : PySem.W.Frag) : Addr := He.ga K "Net"
def netN : List Str := ["things", "strings", "given", "kept", "looked", "turns"]
def top (i : Nat) : Stmt := PySem.Challenge.pw_lookmade_k24_whole_joined_nets_end_alike.main.body.getD i (.Pass ⟨0, 0, 0, 0⟩)
def sInit : Stmt := inClass (top 40) 0
end Lk
set_option maxHeartbeats 0
namespace Lk
open PySem PySem.Spec PyProof.Rows L2
/-! ### the head: what the top leaves -/
def hfn0 : List He.DefD := [⟨("is_integer", none), "is_integer", "is_integer", defArgs (top 13), defBody (top 13), defScope (top 13), [], []⟩, ⟨("is_within", none), "is_within", "is_within", defArgs (top 14), defBody (top 14), defScope (top 14), [], []⟩, ⟨("is_bit", none), "is_bit", "is_bit", defArgs (top 15), defBody (top 15), defScope (top 15), [], []⟩, ⟨("is_turn", none), "is_turn", "is_turn", defArgs (top 16), defBody (top 16), defScope (top 16), [], []⟩, ⟨("is_amount", none), "is_amount", "is_amount", defArgs (top 17), defBody (top 17), defScope (top 17), [], []⟩, ⟨("is_spread", none), "is_spread", "is_spread", defArgs (top 18), defBody (top 18), defScope (top 18), [], []⟩, ⟨("is_lot", none), "is_lot", "is_lot", defArgs (top 19), defBody (top 19), defScope (top 19), [], []⟩, ⟨("need_spread", none), "need_spread", "need_spread", defArgs (top 20), defBody (top 20), defScope (top 20), [], []⟩, ⟨("pairs_in", none), "pairs_in", "pairs_in", defArgs (top 21), defBody (top 21), defScope (top 21), [], []⟩, ⟨("is_things", none), "is_things", "is_things", defArgs (top 32), defBody (top 32), defScope (top 32), [], []⟩, ⟨("is_string", none), "is_string", "is_string", defArgs (top 33), defBody (top 33), defScope (top 33), [], []⟩, ⟨("strings_from", none), "strings_from", "strings_from", defArgs (top 34), defBody (top 34), defScope (top 34), [], []⟩, ⟨("things_from", none), "things_from", "things_from", defArgs (top 35), defBody (top 35), defScope (top 35), [], []⟩, ⟨("turns_from", none), "turns_from", "turns_from", defArgs (top 36), defBody (top 36), defScope (top 36), [], []⟩, ⟨("plus", none), "plus", "plus", defArgs (top 48), defBody (top 48), defScope (top 48), [], []⟩, ⟨("minus", none), "minus", "minus", defArgs (top 49), defBody (top 49), defScope (top 49), [], []⟩, ⟨("times", none), "times", "times", defArgs (top 50), defBody (top 50), defScope (top 50), [], []⟩, ⟨("turn_by", none), "turn_by", "turn_by", defArgs (top 51), defBody (top 51), defScope (top 51), [], []⟩, ⟨("mirror", none), "mirror", "mirror", defArgs (top 52), defBody (top 52), defScope (top 52), [], []⟩, ⟨("length_in", none), "length_in", "length_in", defArgs (top 53), defBody (top 53), defScope (top 53), [], []⟩]
def hfn1 : List He.DefD := [⟨("others", none), "others", "others", defArgs (top 54), defBody (top 54), defScope (top 54), [], []⟩, ⟨("width", none), "width", "width", defArgs (top 56), defBody (top 56), defScope (top 56), [], []⟩, ⟨("divisor_of", none), "divisor_of", "divisor_of", defArgs (top 57), defBody (top 57), defScope (top 57), [], []⟩, ⟨("plain", none), "plain", "plain", defArgs (top 58), defBody (top 58), defScope (top 58), [], []⟩, ⟨("all_even", none), "all_even", "all_even", defArgs (top 59), defBody (top 59), defScope (top 59), [], []⟩, ⟨("both_of", none), "both_of", "both_of", defArgs (top 60), defBody (top 60), defScope (top 60), [], []⟩, ⟨("tie", none), "tie", "tie", defArgs (top 61), defBody (top 61), defScope (top 61), [], []⟩, ⟨("look", none), "look", "look", defArgs (top 62), defBody (top 62), defScope (top 62), [], []⟩, ⟨("lay", none), "lay", "lay", defArgs (top 63), defBody (top 63), defScope (top 63), [], []⟩, ⟨("plain_form", none), "plain_form", "plain_form", defArgs (top 64), defBody (top 64), defScope (top 64), [], []⟩, ⟨("beside", none), "beside", "beside", defArgs (top 65), defBody (top 65), defScope (top 65), [], []⟩, ⟨("need_net", none), "need_net", "need_net", defArgs (top 41), defBody (top 41), defScope (top 41), [.str "net"], []⟩, ⟨("with_numbers", none), "with_numbers", "with_numbers", defArgs (top 42), defBody (top 42), defScope (top 42), [], []⟩, ⟨("need_begin", none), "need_begin", "need_begin", defArgs (top 68), defBody (top 68), defScope (top 68), [], []⟩, ⟨("need_order", none), "need_order", "need_order", defArgs (top 69), defBody (top 69), defScope (top 69), [], []⟩, ⟨("need_falls", none), "need_falls", "need_falls", defArgs (top 70), defBody (top 70), defScope (top 70), [], []⟩, ⟨("begin", none), "begin", "begin", defArgs (top 71), defBody (top 71), defScope (top 71), [], []⟩, ⟨("left_behind", none), "left_behind", "left_behind", defArgs (top 72), defBody (top 72), defScope (top 72), [], []⟩, ⟨("asked_for", none), "asked_for", "asked_for", defArgs (top 73), defBody (top 73), defScope (top 73), [], []⟩, ⟨("bare_end", none), "bare_end", "bare_end", defArgs (top 74), defBody (top 74), defScope (top 74), [], []⟩]
def hfn2 : List He.DefD := [⟨("bare_lengths", none), "bare_lengths", "bare_lengths", defArgs (top 75), defBody (top 75), defScope (top 75), [], []⟩, ⟨("aside_nets", none), "aside_nets", "aside_nets", defArgs (top 44), defBody (top 44), defScope (top 44), [], []⟩, ⟨("joined_nets", none), "joined_nets", "joined_nets", defArgs (top 43), defBody (top 43), defScope (top 43), [], []⟩, ⟨("_law_heap", none), "_law_heap", "_law_heap", defArgs (top 77), defBody (top 77), defScope (top 77), [], []⟩, ⟨("_law_sift", none), "_law_sift", "_law_sift", defArgs (top 78), defBody (top 78), defScope (top 78), [], []⟩, ⟨("_law_any_of", none), "_law_any_of", "_law_any_of", defArgs (top 79), defBody (top 79), defScope (top 79), [], []⟩, ⟨("_law_mixed", none), "_law_mixed", "_law_mixed", defArgs (top 80), defBody (top 80), defScope (top 80), [], []⟩, ⟨("_law_turned", none), "_law_turned", "_law_turned", defArgs (top 81), defBody (top 81), defScope (top 81), [], []⟩, ⟨("_law_spread", none), "_law_spread", "_law_spread", defArgs (top 85), defBody (top 85), defScope (top 85), [], []⟩, ⟨("_law_drawn", none), "_law_drawn", "_law_drawn", defArgs (top 86), defBody (top 86), defScope (top 86), [], []⟩, ⟨("_law_net", none), "_law_net", "_law_net", defArgs (top 87), defBody (top 87), defScope (top 87), [], []⟩, ⟨("_law_second", none), "_law_second", "_law_second", defArgs (top 88), defBody (top 88), defScope (top 88), [], []⟩, ⟨("_law_joined_right", none), "_law_joined_right", "_law_joined_right", defArgs (top 89), defBody (top 89), defScope (top 89), [], []⟩, ⟨("_law_aside_right", none), "_law_aside_right", "_law_aside_right", defArgs (top 90), defBody (top 90), defScope (top 90), [], []⟩, ⟨("law", none), "law", "law", defArgs (top 91), defBody (top 91), defScope (top 91), [], []⟩, ⟨("Net", some "__init__"), "__init__", "Net.__init__", defArgs sInit, defBody sInit, defScope sInit, [], []⟩]
def hfn : List He.DefD := hfn0 ++ hfn1 ++ hfn2
def hfa0 : List He.Fa := [.glo "is_integer", .glo "is_within", .glo "is_bit", .glo "is_turn", .glo "is_amount", .glo "is_spread", .glo "is_lot", .glo "need_spread", .glo "pairs_in", .glo "is_things", .glo "is_string", .glo "strings_from", .glo "things_from", .glo "turns_from", .glo "plus", .glo "minus", .glo "times", .glo "turn_by", .glo "mirror", .glo "length_in", .glo "others", .glo "width", .glo "divisor_of", .glo "plain", .glo "all_even", .glo "both_of", .glo "tie", .glo "look", .glo "lay", .glo "plain_form"]
def hfa1 : List He.Fa := [.glo "beside", .glo "need_net", .glo "with_numbers", .glo "need_begin", .glo "need_order", .glo "need_falls", .glo "begin", .glo "left_behind", .glo "asked_for", .glo "bare_end", .glo "bare_lengths", .glo "aside_nets", .glo "joined_nets", .glo "_law_heap", .glo "_law_sift", .glo "_law_any_of", .glo "_law_mixed", .glo "_law_turned", .glo "_law_spread", .glo "_law_drawn", .glo "_law_net", .glo "_law_second", .glo "_law_joined_right", .glo "_law_aside_right", .glo "law", .glo "Net", .glo "NOTHING", .glo "ONE", .free "isinstance", .free "int"]
def hfa2 : List He.Fa := [.free "bool", .free "len", .free "all", .free "any", .free "list", .free "tuple", .free "dict", .free "range", .free "set", .free "sorted", .free "zip", .free "enumerate", .free "sum", .free "abs", .free "min", .free "repr", .int "TURNS" 8, .int "MOST_PLACES" 12, .int "MOST_THINGS_nets" 120, .int "MOST_THINGS_looks" 12, .cls "Net", .noat "Net" "things", .noat "Net" "strings", .noat "Net" "given", .noat "Net" "kept", .noat "Net" "looked", .noat "Net" "turns", .mkr "Net"]
def hfa : List He.Fa := hfa0 ++ hfa1 ++ hfa2
def hnm0 : List Str := ["_wall", "LookError", "BadSpread", "BadNet", "BadOrder", "BadFalls", "Misfit", "TooMany", "BadText", "TURNS", "MOST_PLACES", "is_integer", "is_within", "is_bit", "is_turn", "is_amount", "is_spread", "is_lot", "need_spread", "pairs_in", "FIGURES", "MOST_FIGURES", "written", "Scan", "scans_of", "scan_at", "MOST_THINGS_nets", "LAST_TURN", "is_things", "is_string"]
def hnm1 : List Str := ["strings_from", "things_from", "turns_from", "taken_things", "taken_string", "taken_turn", "Net", "need_net", "with_numbers", "joined_nets", "aside_nets", "NOTHING", "ONE", "plus", "minus", "times", "turn_by", "mirror", "length_in", "others", "width", "divisor_of", "plain", "all_even", "both_of", "tie", "look", "lay", "plain_form", "beside"]
def hnm2 : List Str := ["MOST_THINGS_looks", "need_begin", "need_order", "need_falls", "begin", "left_behind", "asked_for", "bare_end", "bare_lengths", "_law_heap", "_law_sift", "_law_any_of", "_law_mixed", "_law_turned", "_law_sum", "_law_times", "_law_size", "_law_spread", "_law_drawn", "_law_net", "_law_second", "_law_joined_right", "_law_aside_right"]
def hnm : List Str := hnm0 ++ hnm1 ++ hnm2
/-- more of the heap: two tuples, a class's end -/
def hex (K : PySem.W.Frag) : Bool := He.tupB K "NOTHING" [.int 0, .int 0, .int 0, .int 0] && (He.tupB K "ONE" [.int 1, .int 0, .int 0, .int 0] && (He.eqO (PySem.W.findIn K (.ref (netC K)) "__class__") (some (some (.builtin "object.__class__"))) && (He.eqO (PySem.W.specialIn K (.builtin "object.__class__") "__get__") (some (some (.builtin "getset_descriptor.__get__"))) && (decide (PySem.W.takesIn K (.builtin "object.__class__") = some true) && decide (PySem.W.mroIn K (netC K) (.type "object") = some true)))))
/-- the objects that are looked at: a module's and a class's names, a def's code and defaults -/
def hnext (o : Obj) : List Addr := match o.data with
  | .dict es _ => es.toList.flatMap fun e => He.refV e.val
  | .func fd => He.refV fd.code ++ He.refV fd.defaults
  | .cls cd => cd.ns :: cd.mro.flatMap He.refV
  | _ => []
def hstep (g : Addr → Option Obj) (as : List Addr) : List Addr := as.flatMap fun a => match g a with
  | some o => hnext o
  | none => []
def hls (g : Addr → Option Obj) : Nat → List Addr → List Addr
  | 0, as => as
  | n + 1, as => as ++ hls g n (hstep g as)
abbrev HAl : Type := He.AlD × Bool
def hfr (g : Addr → Option Obj) : PySem.W.Frag := He.frG g (hls g 4 [mainGlobals])
def hobs (g : Addr → Option Obj) : HAl := (He.obsD hfa hfn (hfr g), hex (hfr g))
def hSays (K : PySem.W.Frag) : Prop := He.SaysD hfa hfn K ∧ hex K = true
def hhook : PySem.W.Hook where
  α := HAl
  obs := fun s => hobs s.heap.get?
  val := fun _ => (He.valD hfn, true)
  says := fun _ h => ∃ K : PySem.W.Frag, K.In h ∧ hSays K
  of := fun _ _ e => ⟨_, He.frG_in, congrArg (fun z : HAl => z.1) e, congrArg (fun z : HAl => z.2) e⟩
  keeps := fun _ _ _ ⟨K, hK, c⟩ k => ⟨K, PySem.W.Frag.In.keeps hK k, c⟩
def hob (s : PySem.W.SharedT) : HAl := hobs (HandSHeadRun.getT s)
theorem hob_eq (s : PySem.W.SharedT) : hob s = hhook.obs s.abs := by
  have e : HandSHeadRun.getT s = s.abs.heap.get? := funext (HandSHeadRun.getT_eq s)
  show hobs (HandSHeadRun.getT s) = hobs s.abs.heap.get?
  rw [e]
abbrev hR : PySem.W.OpenRow := PySem.W.OpenLaw.row PySem.Challenge.rw_lookmade_k24_whole_joined_nets_end_alike
theorem hrun (w : World) : HandSHeadRun.RunEq hR (PySem.W.view hR.prog [91]) hhook hob 6000 hnm w := by
  intro os
  kernel_rfl
end Lk
set_option maxHeartbeats 1000000
/-! A small calculus over the hand layer: data (D) that stands in the heap, contexts of slots, what expressions and blocks give. -/
namespace Lk
open PySem PySem.Spec PyProof.Rows L2
open Evl (Ex)

/-- data -/
inductive D where
  | non | bl (b : Bool) | int (i : Int) | str (x : Str) | tup (l : List D) | ptup (l : List D) | lst (l : List D) | dct (ks : List Int) (vs : List D) | net (l : List D)

def dkv (ks : List Int) (vs : List V) : List (Key × V) := (ks.map (Sum.inl : Int → Key)).zip vs

mutual
/-- the value v bears the datum in the heap H -/
inductive Is (K : PySem.W.Frag) (H : Hp) : V → D → Prop
  | non : Is K H .non .non
  | bl (b : Bool) : Is K H (.bl b) (.bl b)
  | int (i : Int) : Is K H (.int i) (.int i)
  | str (x : Str) : Is K H (.str x) (.str x)
  | tup {a : Addr} {xs : List V} {ds : List D} : SqT K H a xs → IsAll K H xs ds → Is K H (.ref a) (.tup ds)
  | ptup {a : Addr} {o : Obj} {xs : List V} {ds : List D} : H a = some (.frz o (.tup xs)) → o.dict = none → IsAll K H xs ds → Is K H (.ref a) (.ptup ds)
  | lst {a : Addr} {xs : List V} {ds : List D} : SqL K H a xs → IsAll K H xs ds → Is K H (.ref a) (.lst ds)
  | dct {a : Addr} {ks : List Int} {vs : List V} {ds : List D} : H a = some (.dK (dkv ks vs)) → ks.length = vs.length → IsAll K H vs ds → Is K H (.ref a) (.dct ks ds)
  | net {a dx : Addr} {vs : List V} {ds : List D} : H a = some (.ins (netC K) dx (netN.zip vs)) → vs.length = 6 → IsAll K H vs ds → Is K H (.ref a) (.net ds)
inductive IsAll (K : PySem.W.Frag) (H : Hp) : List V → List D → Prop
  | nil : IsAll K H [] []
  | cons {v : V} {vs : List V} {d : D} {ds : List D} : Is K H v d → IsAll K H vs ds → IsAll K H (v :: vs) (d :: ds)
end

mutual
theorem Is.mono {K : PySem.W.Frag} {H H' : Hp} (e : Ex H H') : ∀ {v : V} {d : D}, Is K H v d → Is K H' v d
  | _, _, .non => .non
  | _, _, .bl b => .bl b
  | _, _, .int i => .int i
  | _, _, .str x => .str x
  | _, _, .tup h a => .tup (Evl.ex_t e h) (IsAll.mono e a)
  | _, _, .ptup h h2 a => .ptup (e _ _ h) h2 (IsAll.mono e a)
  | _, _, .lst h a => .lst (Evl.ex_l e h) (IsAll.mono e a)
  | _, _, .dct h l a => .dct (e _ _ h) l (IsAll.mono e a)
  | _, _, .net h l a => .net (e _ _ h) l (IsAll.mono e a)
theorem IsAll.mono {K : PySem.W.Frag} {H H' : Hp} (e : Ex H H') : ∀ {vs : List V} {ds : List D}, IsAll K H vs ds → IsAll K H' vs ds
  | _, _, .nil => .nil
  | _, _, .cons h a => .cons (Is.mono e h) (IsAll.mono e a)
end

section
variable {K : PySem.W.Frag} {H H' : Hp}
theorem IsAll.length : ∀ {vs : List V} {ds : List D}, IsAll K H vs ds → vs.length = ds.length
  | _, _, .nil => rfl
  | _, _, .cons _ a => congrArg Nat.succ (IsAll.length a)
theorem IsAll.append : ∀ {vs ws : List V} {ds es : List D}, IsAll K H vs ds → IsAll K H ws es → IsAll K H (vs ++ ws) (ds ++ es)
  | _, _, _, _, .nil, b => b
  | _, _, _, _, .cons h a, b => .cons h (IsAll.append a b)
theorem IsAll.get : ∀ {vs : List V} {ds : List D} {i : Nat} {d : D}, IsAll K H vs ds → ds[i]? = some d → ∃ v, vs[i]? = some v ∧ Is K H v d
  | _, _, _, _, .nil, e => by simp at e
  | _, _, 0, _, .cons h _, e => by
    simp only [List.getElem?_cons_zero, Option.some.injEq] at e
    subst e
    exact ⟨_, rfl, h⟩
  | _, _, i + 1, d, .cons _ a, e => by
    obtain ⟨v, h1, h2⟩ := IsAll.get (i := i) (d := d) a (by simpa using e)
    exact ⟨v, by simpa using h1, h2⟩
theorem IsAll.getV : ∀ {vs : List V} {ds : List D} {i : Nat} {v : V}, IsAll K H vs ds → vs[i]? = some v → ∃ d, ds[i]? = some d ∧ Is K H v d
  | _, _, _, _, .nil, e => by simp at e
  | _, _, 0, _, .cons h _, e => by
    simp only [List.getElem?_cons_zero, Option.some.injEq] at e
    subst e
    exact ⟨_, rfl, h⟩
  | _, _, i + 1, v, .cons _ a, e => by
    obtain ⟨d, h1, h2⟩ := IsAll.getV (i := i) (v := v) a (by simpa using e)
    exact ⟨d, by simpa using h1, h2⟩
theorem IsAll.take : ∀ {vs : List V} {ds : List D} (n : Nat), IsAll K H vs ds → IsAll K H (vs.take n) (ds.take n)
  | _, _, 0, _ => .nil
  | _, _, _ + 1, .nil => .nil
  | _, _, n + 1, .cons h a => .cons h (IsAll.take n a)
theorem IsAll.drop : ∀ {vs : List V} {ds : List D} (n : Nat), IsAll K H vs ds → IsAll K H (vs.drop n) (ds.drop n)
  | _, _, 0, a => a
  | _, _, _ + 1, .nil => .nil
  | _, _, n + 1, .cons _ a => IsAll.drop n a
theorem IsAll.set : ∀ {vs : List V} {ds : List D} {v : V} {d : D} (n : Nat), IsAll K H vs ds → Is K H v d → IsAll K H (vs.set n v) (ds.set n d)
  | _, _, _, _, _, .nil, _ => .nil
  | _, _, _, _, 0, .cons _ a, h => .cons h a
  | _, _, _, _, n + 1, .cons g a, h => .cons g (IsAll.set n a h)
theorem IsAll.eraseIdx : ∀ {vs : List V} {ds : List D} (n : Nat), IsAll K H vs ds → IsAll K H (vs.eraseIdx n) (ds.eraseIdx n)
  | _, _, _, .nil => .nil
  | _, _, 0, .cons _ a => a
  | _, _, n + 1, .cons g a => .cons g (IsAll.eraseIdx n a)
/-- data of one shape -/
theorem IsAll.ints : ∀ {vs : List V} {ns : List Int}, IsAll K H vs (ns.map D.int) → vs = ns.map V.int
  | _, [], .nil => rfl
  | _, _ :: _, .cons h a => by
    cases h
    exact congrArg _ (IsAll.ints a)
theorem IsAll.bls : ∀ {vs : List V} {ns : List Bool}, IsAll K H vs (ns.map D.bl) → vs = ns.map V.bl
  | _, [], .nil => rfl
  | _, _ :: _, .cons h a => by
    cases h
    exact congrArg _ (IsAll.bls a)
theorem IsAll.ofInts : ∀ (ns : List Int), IsAll K H (ns.map V.int) (ns.map D.int)
  | [] => .nil
  | n :: r => .cons (.int n) (IsAll.ofInts r)
theorem IsAll.replicate {v : V} {d : D} (h : Is K H v d) : ∀ n : Nat, IsAll K H (List.replicate n v) (List.replicate n d)
  | 0 => .nil
  | n + 1 => .cons h (IsAll.replicate h n)
end

/-! ### heaps of which a part is hidden -/
def hid (l : List Addr) (H : Hp) : Hp := fun a => if a ∈ l then none else H a
theorem hid_in {l : List Addr} {H : Hp} {a : Addr} (h : a ∈ l) : hid l H a = none := if_pos h
theorem hid_out {l : List Addr} {H : Hp} {a : Addr} (h : a ∉ l) : hid l H a = H a := if_neg h
theorem hid_some {l : List Addr} {H : Hp} {a : Addr} {o : HO} (h : hid l H a = some o) : a ∉ l ∧ H a = some o := by
  unfold hid at h
  split at h
  · cases h
  · rename_i n
    exact ⟨n, h⟩
theorem hid_le {l : List Addr} {H : Hp} : Ex (hid l H) H := fun _ _ h => (hid_some h).2
theorem hid_mono {l : List Addr} {H H' : Hp} (e : Ex H H') : Ex (hid l H) (hid l H') := fun a o h => by
  obtain ⟨n, q⟩ := hid_some h
  rw [hid_out n]
  exact e a o q
theorem hid_sub {l m : List Addr} {H : Hp} (h : ∀ a ∈ l, a ∈ m) : Ex (hid m H) (hid l H) := fun a o q => by
  obtain ⟨n, e⟩ := hid_some q
  rw [hid_out fun z => n (h a z)]
  exact e
/-- a hidden object changes -/
theorem hid_upd {l : List Addr} {H : Hp} {a : Addr} {o : HO} (h : a ∈ l) : hid l (upd H a o) = hid l H := by
  funext b
  by_cases hb : b ∈ l
  · rw [hid_in hb, hid_in hb]
  · rw [hid_out hb, hid_out hb, upd_ne (fun z => hb (by rw [z]; exact h))]

/-! ### the slots -/
inductive Ent where
  | no
  | dat (d : D)
  | own (p : Addr) (ds : List D)
  | dic (p : Addr) (ks : List Int) (ds : List D)
  | ins (p dx : Addr) (ns : List Str) (ds : List D)
  | at_ (p : Addr)
  | hpo (p cl : Addr) (cells : List Int) (lap sand : Int)
abbrev Ctx := List Ent
def own1 : Ent → List Addr
  | .own p _ => [p]
  | .dic p _ _ => [p]
  | .ins p _ _ _ => [p]
  | .hpo p _ _ _ _ => [p]
  | _ => []
def owned : Ctx → List Addr
  | [] => []
  | e :: r => own1 e ++ owned r
/-- what stands ahead of the body; what is not to be leaned on; what of it may be changed -/
structure Fx where
  H0 : Hp
  hot : List Addr
  wr : List Addr
def EntOk (K : PySem.W.Frag) (Hh H : Hp) (v : Option V) : Ent → Prop
  | .no => True
  | .dat d => ∃ x, v = some x ∧ Is K Hh x d
  | .own p ds => v = some (.ref p) ∧ ∃ xs, H p = some (.lst xs) ∧ IsAll K Hh xs ds
  | .dic p ks ds => v = some (.ref p) ∧ ∃ xs, H p = some (.dK (dkv ks xs)) ∧ ks.length = xs.length ∧ IsAll K Hh xs ds
  | .ins p dx ns ds => v = some (.ref p) ∧ ∃ xs, H p = some (.ins (netC K) dx (ns.zip xs)) ∧ ns.length = xs.length ∧ IsAll K Hh xs ds
  | .at_ p => v = some (.ref p)
  | .hpo p cl cells lap sand => v = some (.ref p) ∧ H p = some (.lst [.ref cl, .int lap, .int sand]) ∧ Is K Hh (.ref cl) (.lst (cells.map D.int))
abbrev hotOf (F : Fx) (Γ : Ctx) : List Addr := F.hot ++ owned Γ
structure Env (K : PySem.W.Frag) (F : Fx) (H : Hp) (σ : L2.St) (Γ : Ctx) : Prop where
  len : σ.length = Γ.length
  ent : ∀ (i : Nat) (e : Ent), Γ[i]? = some e → ∃ v, σ[i]? = some v ∧ EntOk K (hid (hotOf F Γ) H) H v e
  frame : ∀ a o, a ∉ F.wr → F.H0 a = some o → H a = some o
  trk : ∀ p ∈ F.hot, H p ≠ none
  nd : (owned Γ).Nodup
  off : ∀ p ∈ owned Γ, p ∉ F.hot ∧ F.H0 p = none
  wrs : ∀ p ∈ F.wr, p ∈ F.hot

theorem mem_owned {Γ : Ctx} {p : Addr} (h : p ∈ owned Γ) : ∃ (i : Nat) (e : Ent), Γ[i]? = some e ∧ p ∈ own1 e := by
  induction Γ with
  | nil => cases h
  | cons e r ih =>
    rcases List.mem_append.mp (show p ∈ own1 e ++ owned r from h) with z | z
    · exact ⟨0, e, rfl, z⟩
    · obtain ⟨i, e', h1, h2⟩ := ih z
      exact ⟨i + 1, e', by simpa using h1, h2⟩
theorem owned_mem {p : Addr} : ∀ {Γ : Ctx} {i : Nat} {e : Ent}, Γ[i]? = some e → p ∈ own1 e → p ∈ owned Γ
  | [], _, _, h, _ => by simp at h
  | x :: r, 0, e, h, hp => by
    simp only [List.getElem?_cons_zero, Option.some.injEq] at h
    subst h
    exact List.mem_append_left _ hp
  | x :: r, i + 1, e, h, hp => List.mem_append_right _ (owned_mem (i := i) (by simpa using h) hp)
theorem EntOk.mono {K : PySem.W.Frag} {Hh Hh' H H' : Hp} {v : Option V} (a : Ex Hh Hh') (b : ∀ p ∈ (own1 e), ∀ o, H p = some o → H' p = some o) (h : EntOk K Hh H v e) : EntOk K Hh' H' v e := by
  cases e with
  | no => trivial
  | dat d =>
    obtain ⟨x, e, i⟩ := h
    exact ⟨x, e, i.mono a⟩
  | own p ds =>
    obtain ⟨e, xs, q, i⟩ := h
    exact ⟨e, xs, b p (List.mem_singleton.mpr rfl) _ q, i.mono a⟩
  | dic p ks ds =>
    obtain ⟨e, xs, q, l, i⟩ := h
    exact ⟨e, xs, b p (List.mem_singleton.mpr rfl) _ q, l, i.mono a⟩
  | ins p dx ns ds =>
    obtain ⟨e, xs, q, l, i⟩ := h
    exact ⟨e, xs, b p (List.mem_singleton.mpr rfl) _ q, l, i.mono a⟩
  | at_ p => exact h
  | hpo p cl cells lap sand =>
    obtain ⟨e, q, i⟩ := h
    exact ⟨e, b p (List.mem_singleton.mpr rfl) _ q, i.mono a⟩
theorem EntOk.at_ {K : PySem.W.Frag} {Hh H : Hp} {v : Option V} {e : Ent} {p : Addr} (h : EntOk K Hh H v e) (hp : p ∈ own1 e) : v = some (.ref p) ∧ ∃ o, H p = some o ∧ ∀ q, o ≠ .own q := by
  cases e with
  | no => cases hp
  | dat d => cases hp
  | own q ds =>
    obtain rfl := List.mem_singleton.mp hp
    obtain ⟨e, xs, q, i⟩ := h
    exact ⟨e, _, q, fun _ z => nomatch z⟩
  | dic q ks ds =>
    obtain rfl := List.mem_singleton.mp hp
    obtain ⟨e, xs, q, l, i⟩ := h
    exact ⟨e, _, q, fun _ z => nomatch z⟩
  | ins q dx ns ds =>
    obtain rfl := List.mem_singleton.mp hp
    obtain ⟨e, xs, q, l, i⟩ := h
    exact ⟨e, _, q, fun _ z => nomatch z⟩
  | at_ p => cases hp
  | hpo q cl cells lap sand =>
    obtain rfl := List.mem_singleton.mp hp
    exact ⟨h.1, _, h.2.1, fun _ z => nomatch z⟩
section
variable {K : PySem.W.Frag} {F : Fx} {H H' : Hp} {σ : L2.St} {Γ : Ctx}
theorem Env.there (E : Env K F H σ Γ) {p : Addr} (hp : p ∈ hotOf F Γ) : H p ≠ none := by
  rcases List.mem_append.mp hp with z | z
  · exact E.trk p z
  · obtain ⟨i, e, h1, h2⟩ := mem_owned z
    obtain ⟨v, _, k⟩ := E.ent i e h1
    obtain ⟨_, o, h, _⟩ := k.at_ h2
    rw [h]
    exact fun z => nomatch z
theorem Env.new (E : Env K F H σ Γ) {p : Addr} (h : H p = none) : p ∉ hotOf F Γ := fun z => E.there z h
theorem Env.mono (E : Env K F H σ Γ) (e : Ex H H') : Env K F H' σ Γ where
  len := E.len
  ent := fun i x hx => by
    obtain ⟨v, h1, h2⟩ := E.ent i x hx
    exact ⟨v, h1, h2.mono (hid_mono e) fun p _ o q => e p o q⟩
  frame := fun a o h1 h2 => e a o (E.frame a o h1 h2)
  trk := fun p hp z => by
    cases q : H p with
    | none => exact E.trk p hp q
    | some o =>
      rw [e p o q] at z
      cases z
  nd := E.nd
  off := E.off
  wrs := E.wrs
/-- what is new stands open -/
theorem Env.put (E : Env K F H σ Γ) {p : Addr} {o : HO} (h : H p = none) : hid (hotOf F Γ) (upd H p o) p = some o := by
  rw [hid_out (E.new h)]
  exact upd_same
end
end Lk
set_option maxHeartbeats 1000000
namespace Lk
open PySem PySem.Spec PyProof.Rows L2
open Evl (Ex)

/-! ### what expressions give -/
def DE (K : PySem.W.Frag) (te : TE) (Γ : Ctx) (d : D) : Prop := ∀ (F : Fx) (H : Hp) (σ : L2.St), Env K F H σ Γ → ∀ Q : VK, (∀ v H', Ex H H' → Is K (hid (hotOf F Γ) H') v d → Q v H') → te σ H Q
def DL (K : PySem.W.Frag) (te : TE) (Γ : Ctx) (ds : List D) : Prop := ∀ (F : Fx) (H : Hp) (σ : L2.St), Env K F H σ Γ → ∀ Q : VK, (∀ p xs H', Ex H H' → SqL K H' p xs → IsAll K (hid (hotOf F Γ) H') xs ds → Q (.ref p) H') → te σ H Q
def DU (K : PySem.W.Frag) (te : TE) (Γ : Ctx) (ds : List D) : Prop := ∀ (F : Fx) (H : Hp) (σ : L2.St), Env K F H σ Γ → ∀ Q : VK, (∀ p xs H', Ex H H' → SqT K (hid (hotOf F Γ) H') p xs → IsAll K (hid (hotOf F Γ) H') xs ds → Q (.ref p) H') → te σ H Q
/-- a new list -/
def DN (K : PySem.W.Frag) (te : TE) (Γ : Ctx) (ds : List D) : Prop := ∀ (F : Fx) (H : Hp) (σ : L2.St), Env K F H σ Γ → ∀ Q : VK, (∀ p xs H', H p = none → Ex H H' → H' p = some (.lst xs) → IsAll K (hid (p :: hotOf F Γ) H') xs ds → Q (.ref p) H') → te σ H Q
def DT (K : PySem.W.Frag) (tt : TT) (Γ : Ctx) (b : Bool) : Prop := ∀ (F : Fx) (H : Hp) (σ : L2.St), Env K F H σ Γ → ∀ Q : Bool → Hp → Prop, (∀ H', Ex H H' → Q b H') → tt σ H Q
def DA (K : PySem.W.Frag) (ta : TA) (Γ : Ctx) (ds : List D) : Prop := ∀ (F : Fx) (H : Hp) (σ : L2.St), Env K F H σ Γ → ∀ Q : List V → Hp → Prop, (∀ vs H', Ex H H' → IsAll K (hid (hotOf F Γ) H') vs ds → Q vs H') → ta σ H Q
section
variable {K : PySem.W.Frag} {Γ : Ctx} {ta tb te tc : TE} {tt tu : TT} {d e : D} {ds es : List D}
theorem DE.to (h : DE K te Γ d) (q : d = e) : DE K te Γ e := q ▸ h
theorem DT.to {b c : Bool} (h : DT K tt Γ b) (q : b = c) : DT K tt Γ c := q ▸ h
theorem de_var {i : Nat} (h : Γ[i]? = some (.dat d)) : DE K (tVar i) Γ d := fun F H σ E Q q => by
  obtain ⟨v, h1, x, rfl, h3⟩ := E.ent i _ h
  exact ⟨x, h1, q x H (Ex.refl H) h3⟩
theorem de_int {i : Int} : DE K (tC (.int i)) Γ (.int i) := fun F H σ E Q q => q _ H (Ex.refl H) (.int i)
theorem de_bl {b : Bool} : DE K (tC (.bl b)) Γ (.bl b) := fun F H σ E Q q => q _ H (Ex.refl H) (.bl b)
theorem de_non : DE K (tC .non) Γ .non := fun F H σ E Q q => q _ H (Ex.refl H) .non
theorem de_str {x : Str} : DE K (tC (.str x)) Γ (.str x) := fun F H σ E Q q => q _ H (Ex.refl H) (.str x)
theorem dl_of (h : DE K te Γ (.lst ds)) : DL K te Γ ds := fun F H σ E Q q => h F H σ E _ fun v H' e i => by
  cases i with
  | lst s a => exact q _ _ H' e (Evl.ex_l hid_le s) a
theorem du_of (h : DE K te Γ (.tup ds)) : DU K te Γ ds := fun F H σ E Q q => h F H σ E _ fun v H' e i => by
  cases i with
  | tup s a => exact q _ _ H' e s a
theorem du_ofP (h : DE K te Γ (.ptup ds)) : DU K te Γ ds := fun F H σ E Q q => h F H σ E _ fun v H' e i => by
  cases i with
  | ptup h1 h2 a => exact q _ _ H' e (.inl (.inr ⟨_, h1⟩)) a
theorem dl_own {i : Nat} {p : Addr} (h : Γ[i]? = some (.own p ds)) : DL K (tVar i) Γ ds := fun F H σ E Q q => by
  obtain ⟨v, h1, rfl, xs, h2, h3⟩ := E.ent i _ h
  exact ⟨.ref p, h1, q p xs H (Ex.refl H) (SqL.of h2) h3⟩

/-! operators on ints -/
theorem de_opI {C : Int → Int → Prop} {g : Int → Int → V} {i j : Int} {r : D} (ha : DE K ta Γ (.int i)) (hb : DE K tb Γ (.int j)) (hc : C i j) (hg : ∀ H, Is K H (g i j) r) : DE K (tOp (rI C g) ta tb) Γ r := fun F H σ E Q q =>
  ha F H σ E _ fun v H1 e1 i1 => by
    cases i1
    refine hb F H1 σ (E.mono e1) _ fun u H2 e2 i2 => ?_
    cases i2
    exact ⟨i, j, rfl, rfl, hc, q _ H2 (e1.trans e2) (hg _)⟩
theorem de_opI0 {g : Int → Int → V} {i j : Int} {r : D} (ha : DE K ta Γ (.int i)) (hb : DE K tb Γ (.int j)) (hg : ∀ H, Is K H (g i j) r) : DE K (tOp (rI0 g) ta tb) Γ r := fun F H σ E Q q =>
  ha F H σ E _ fun v H1 e1 i1 => by
    cases i1
    refine hb F H1 σ (E.mono e1) _ fun u H2 e2 i2 => ?_
    cases i2
    exact ⟨i, j, rfl, rfl, q _ H2 (e1.trans e2) (hg _)⟩
theorem de_un {g : Int → V} {i : Int} {r : D} (ha : DE K ta Γ (.int i)) (hg : ∀ H, Is K H (g i) r) : DE K (tUn (rU g) ta) Γ r := fun F H σ E Q q =>
  ha F H σ E _ fun v H1 e1 i1 => by
    cases i1
    exact ⟨i, rfl, q _ H1 e1 (hg _)⟩
theorem de_add {i j : Int} (ha : DE K ta Γ (.int i)) (hb : DE K tb Γ (.int j)) : DE K (tOp (rI0 fun i j => .int (i + j)) ta tb) Γ (.int (i + j)) := de_opI0 ha hb fun _ => .int _
theorem de_sub {i j : Int} (ha : DE K ta Γ (.int i)) (hb : DE K tb Γ (.int j)) : DE K (tOp (rI0 fun i j => .int (i - j)) ta tb) Γ (.int (i - j)) := de_opI0 ha hb fun _ => .int _
theorem de_mul {i j : Int} (ha : DE K ta Γ (.int i)) (hb : DE K tb Γ (.int j)) (hc : CMulW i j) : DE K (tOp (rI CMulW fun i j => .int (i * j)) ta tb) Γ (.int (i * j)) := de_opI ha hb hc fun _ => .int _
theorem de_neg {i : Int} (ha : DE K ta Γ (.int i)) : DE K (tUn (rU fun i => .int (-i)) ta) Γ (.int (-i)) := de_un ha fun _ => .int _
theorem de_eqI {i j : Int} (ha : DE K ta Γ (.int i)) (hb : DE K tb Γ (.int j)) : DE K (tOp rEq ta tb) Γ (.bl (i == j)) := fun F H σ E Q q =>
  ha F H σ E _ fun v H1 e1 i1 => by
    cases i1
    refine hb F H1 σ (E.mono e1) _ fun u H2 e2 i2 => ?_
    cases i2
    refine ⟨rfl, q _ H2 (e1.trans e2) ?_⟩
    rw [dec_int]
    exact .bl _
theorem de_neI {i j : Int} (ha : DE K ta Γ (.int i)) (hb : DE K tb Γ (.int j)) : DE K (tOp rNe ta tb) Γ (.bl (!(i == j))) := fun F H σ E Q q =>
  ha F H σ E _ fun v H1 e1 i1 => by
    cases i1
    refine hb F H1 σ (E.mono e1) _ fun u H2 e2 i2 => ?_
    cases i2
    refine ⟨rfl, q _ H2 (e1.trans e2) ?_⟩
    rw [dec_int]
    exact .bl _
/-- is None, is not None -/
theorem de_isN {r : Bool} (ha : DE K ta Γ d) (hr : ∀ K H v, Is K H v d → decide (v = V.non) = r) : DE K (tOp (fun x y H Q => y = .non ∧ Q (.bl (decide (x = .non))) H) ta (tC .non)) Γ (.bl r) := fun F H σ E Q q =>
  ha F H σ E _ fun v H1 e1 i1 => ⟨rfl, q _ H1 e1 (by rw [hr _ _ _ i1]; exact .bl _)⟩
theorem isN_int {i : Int} : ∀ K H v, Is K H v (.int i) → decide (v = V.non) = false := fun K H v h => by
  cases h
  rfl
theorem isN_non : ∀ K H v, Is K H v .non → decide (v = V.non) = true := fun K H v h => by
  cases h
  rfl
theorem isN_tup {l : List D} : ∀ K H v, Is K H v (.tup l) → decide (v = V.non) = false := fun K H v h => by
  cases h
  rfl
theorem isN_lst {l : List D} : ∀ K H v, Is K H v (.lst l) → decide (v = V.non) = false := fun K H v h => by
  cases h
  rfl

/-! arguments, displays -/
theorem da_nil : DA K tNil Γ [] := fun F H σ E Q q => q [] H (Ex.refl H) .nil
theorem da_cons {t : TA} (ha : DE K ta Γ d) (hr : DA K t Γ ds) : DA K (tCons ta t) Γ (d :: ds) := fun F H σ E Q q =>
  ha F H σ E _ fun v H1 e1 i1 => hr F H1 σ (E.mono e1) _ fun vs H2 e2 a2 => q _ H2 (e1.trans e2) (.cons (i1.mono (hid_mono e2)) a2)
theorem da_starL {t : TA} (ha : DL K ta Γ es) (hr : DA K t Γ ds) : DA K (StX.tStar K ta t) Γ (es ++ ds) := fun F H σ E Q q =>
  ha F H σ E _ fun p xs H1 e1 s1 a1 => ⟨p, xs, rfl, .inr s1, hr F H1 σ (E.mono e1) _ fun vs H2 e2 a2 => q _ H2 (e1.trans e2) ((a1.mono (hid_mono e2)).append a2)⟩
theorem da_starU {t : TA} (ha : DU K ta Γ es) (hr : DA K t Γ ds) : DA K (StX.tStar K ta t) Γ (es ++ ds) := fun F H σ E Q q =>
  ha F H σ E _ fun p xs H1 e1 s1 a1 => ⟨p, xs, rfl, .inl (Evl.ex_t hid_le s1), hr F H1 σ (E.mono e1) _ fun vs H2 e2 a2 => q _ H2 (e1.trans e2) ((a1.mono (hid_mono e2)).append a2)⟩
theorem line_of {n : Nat} (h : n ≤ 16000000) : n ≤ sizeLine := by
  rw [sizeLine_eq]
  omega
theorem line_lt {n : Nat} (h : n < 16000000) : n < sizeLine := by
  rw [sizeLine_eq]
  omega
theorem de_tup {t : TA} (ha : DA K t Γ ds) (hl : ds.length ≤ 16000000) : DE K (tTup t) Γ (.tup ds) := fun F H σ E Q q =>
  ha F H σ E _ fun vs H1 e1 a1 => ⟨by rw [a1.length]; exact line_of hl, fun p hp => q _ _ (e1.trans (Ex.new hp)) (.tup (SqT.of ((E.mono e1).put hp)) (a1.mono (hid_mono (Ex.new hp))))⟩
theorem de_lst {t : TA} (ha : DA K t Γ ds) (hl : ds.length ≤ 16000000) : DE K (tLst t) Γ (.lst ds) := fun F H σ E Q q =>
  ha F H σ E _ fun vs H1 e1 a1 => ⟨by rw [a1.length]; exact line_of hl, fun p hp => q _ _ (e1.trans (Ex.new hp)) (.lst (SqL.of ((E.mono e1).put hp)) (a1.mono (hid_mono (Ex.new hp))))⟩
/-- a new address hides nothing that stood -/
theorem ex_new {l : List Addr} {H : Hp} {p : Addr} {o : HO} (hp : H p = none) : Ex (hid l H) (hid (p :: l) (upd H p o)) := fun a u h => by
  obtain ⟨n, q⟩ := hid_some h
  have ne : a ≠ p := ne_of_none q hp
  rw [hid_out (by simp only [List.mem_cons, not_or]; exact ⟨ne, n⟩), upd_ne ne]
  exact q
theorem dn_lst {t : TA} (ha : DA K t Γ ds) (hl : ds.length ≤ 16000000) : DN K (tLst t) Γ ds := fun F H σ E Q q =>
  ha F H σ E _ fun vs H1 e1 a1 => ⟨by rw [a1.length]; exact line_of hl, fun p hp => q _ _ _ (Evl.fresh_back e1 hp) (e1.trans (Ex.new hp)) upd_same (a1.mono (ex_new hp))⟩
/-- a new list as a datum -/
theorem de_ofN (h : DN K te Γ ds) : DE K te Γ (.lst ds) := fun F H σ E Q q => h F H σ E _ fun p xs H' hp e hl a =>
  q _ H' e (.lst (SqL.of (by rw [hid_out (E.new hp)]; exact hl)) (a.mono (hid_sub fun z hz => List.mem_cons_of_mem _ hz)))

/-! tests -/
theorem dt_B {b : Bool} (h : DE K te Γ (.bl b)) : DT K (tB te) Γ b := fun F H σ E Q q => h F H σ E _ fun v H' e i => by
  cases i
  exact ⟨b, rfl, q H' e⟩
theorem dt_test {b : Bool} (h : DE K te Γ (.bl b)) : DT K (tTest te) Γ b := fun F H σ E Q q => h F H σ E _ fun v H' e i => by
  cases i
  exact ⟨b, rfl, q H' e⟩
theorem dt_and {a b : Bool} (h1 : DT K tt Γ a) (h2 : a = true → DT K tu Γ b) : DT K (tAnd tt tu) Γ (a && b) := fun F H σ E Q q => h1 F H σ E _ fun H1 e1 => by
  cases a with
  | true => exact h2 rfl F H1 σ (E.mono e1) Q fun H2 e2 => q H2 (e1.trans e2)
  | false => exact q H1 e1
theorem dt_or {a b : Bool} (h1 : DT K tt Γ a) (h2 : a = false → DT K tu Γ b) : DT K (tOr tt tu) Γ (a || b) := fun F H σ E Q q => h1 F H σ E _ fun H1 e1 => by
  cases a with
  | true => exact q H1 e1
  | false => exact h2 rfl F H1 σ (E.mono e1) Q fun H2 e2 => q H2 (e1.trans e2)
theorem dt_not {a : Bool} (h1 : DT K tt Γ a) : DT K (tNot tt) Γ (!a) := fun F H σ E Q q => h1 F H σ E _ fun H1 e1 => q H1 e1
theorem dt_yes : DT K tYes Γ true := fun F H σ E Q q => q H (Ex.refl H)
theorem de_if {b : Bool} (h : DT K tt Γ b) (h1 : b = true → DE K ta Γ d) (h2 : b = false → DE K tb Γ d) : DE K (tIf tt ta tb) Γ d := fun F H σ E Q q => h F H σ E _ fun H1 e1 => by
  cases b with
  | true => exact h1 rfl F H1 σ (E.mono e1) Q fun v H2 e2 i => q v H2 (e1.trans e2) i
  | false => exact h2 rfl F H1 σ (E.mono e1) Q fun v H2 e2 i => q v H2 (e1.trans e2) i
theorem de_and {a b : Bool} (h1 : DE K ta Γ (.bl a)) (h2 : a = true → DE K tb Γ (.bl b)) : DE K (tAndV ta tb) Γ (.bl (a && b)) := fun F H σ E Q q => h1 F H σ E _ fun v H1 e1 i1 => by
  cases i1
  refine ⟨a, rfl, ?_⟩
  cases a with
  | true => exact h2 rfl F H1 σ (E.mono e1) Q fun v H2 e2 i => q v H2 (e1.trans e2) i
  | false => exact q _ H1 e1 (.bl _)
theorem de_or {a b : Bool} (h1 : DE K ta Γ (.bl a)) (h2 : a = false → DE K tb Γ (.bl b)) : DE K (tOrV ta tb) Γ (.bl (a || b)) := fun F H σ E Q q => h1 F H σ E _ fun v H1 e1 i1 => by
  cases i1
  refine ⟨a, rfl, ?_⟩
  cases a with
  | true => exact q _ H1 e1 (.bl _)
  | false => exact h2 rfl F H1 σ (E.mono e1) Q fun v H2 e2 i => q v H2 (e1.trans e2) i
theorem de_not {a : Bool} (h1 : DE K ta Γ (.bl a)) : DE K (tNotV ta) Γ (.bl (!a)) := fun F H σ E Q q => h1 F H σ E _ fun v H1 e1 i1 => by
  cases i1
  exact ⟨a, rfl, q _ H1 e1 (.bl _)⟩

/-! items, lengths -/
theorem IsAll.atI {H : Hp} {xs : List V} {i : Int} (a : IsAll K H xs ds) (h : atI ds i = some d) : ∃ v, L2.atI xs i = some v ∧ Is K H v d := by
  unfold L2.atI at h ⊢
  rw [a.length]
  cases e : ixN ds.length i with
  | none =>
    rw [e] at h
    cases h
  | some j =>
    rw [e] at h
    exact a.get h
theorem de_ixL {i : Int} (ha : DL K ta Γ ds) (hb : DE K tb Γ (.int i)) (h : atI ds i = some d) : DE K (tOp (rIxL K) ta tb) Γ d := fun F H σ E Q q =>
  ha F H σ E _ fun p xs H1 e1 s1 a1 => hb F H1 σ (E.mono e1) _ fun v H2 e2 i2 => by
    cases i2
    obtain ⟨u, h1, h2⟩ := (a1.mono (hid_mono e2)).atI h
    exact ⟨p, xs, i, u, rfl, rfl, Evl.ex_l e2 s1, h1, q u H2 (e1.trans e2) h2⟩
theorem de_ixT {i : Int} (ha : DU K ta Γ ds) (hb : DE K tb Γ (.int i)) (h : atI ds i = some d) : DE K (tOp (rIxT K) ta tb) Γ d := fun F H σ E Q q =>
  ha F H σ E _ fun p xs H1 e1 s1 a1 => hb F H1 σ (E.mono e1) _ fun v H2 e2 i2 => by
    cases i2
    obtain ⟨u, h1, h2⟩ := (a1.mono (hid_mono e2)).atI h
    exact ⟨p, xs, i, u, rfl, rfl, Evl.ex_t e2 (Evl.ex_t hid_le s1), h1, q u H2 (e1.trans e2) h2⟩
theorem de_lenL (ha : DL K ta Γ ds) : DE K (tCB (Evl.rLenS K) (tCons ta tNil)) Γ (.int (ds.length : Int)) := fun F H σ E Q q =>
  ha F H σ E _ fun p xs H1 e1 s1 a1 => ⟨p, xs, rfl, .inl s1, q _ H1 e1 (by rw [a1.length]; exact .int _)⟩
theorem de_lenT (ha : DU K ta Γ ds) : DE K (tCB (Evl.rLenS K) (tCons ta tNil)) Γ (.int (ds.length : Int)) := fun F H σ E Q q =>
  ha F H σ E _ fun p xs H1 e1 s1 a1 => ⟨p, xs, rfl, .inr (Evl.ex_t hid_le s1), q _ H1 e1 (by rw [a1.length]; exact .int _)⟩
/-- tuple(..) -/
theorem de_tupleL (ha : DL K ta Γ ds) : DE K (tCB (fun xs H Q => ∃ p ys, xs = [.ref p] ∧ ((SqL K H p ys ∧ ∀ l, H l = none → Q (.ref l) (upd H l (.tup ys))) ∨ (SqT K H p ys ∧ Q (.ref p) H))) (tCons ta tNil)) Γ (.tup ds) := fun F H σ E Q q =>
  ha F H σ E _ fun p xs H1 e1 s1 a1 => ⟨p, xs, rfl, .inl ⟨s1, fun l hl => q _ _ (e1.trans (Ex.new hl)) (.tup (SqT.of ((E.mono e1).put hl)) (a1.mono (hid_mono (Ex.new hl))))⟩⟩
theorem de_tupleT (ha : DE K ta Γ (.tup ds)) : DE K (tCB (fun xs H Q => ∃ p ys, xs = [.ref p] ∧ ((SqL K H p ys ∧ ∀ l, H l = none → Q (.ref l) (upd H l (.tup ys))) ∨ (SqT K H p ys ∧ Q (.ref p) H))) (tCons ta tNil)) Γ (.tup ds) := fun F H σ E Q q =>
  ha F H σ E _ fun v H1 e1 i1 => by
    cases i1 with
    | tup s1 a1 => exact ⟨_, _, rfl, .inr ⟨Evl.ex_t hid_le s1, q _ H1 e1 (.tup s1 a1)⟩⟩
/-- list(..) -/
theorem dn_listL (ha : DL K ta Γ ds) : DN K (tCB (Evl.rListS K) (tCons ta tNil)) Γ ds := fun F H σ E Q q =>
  ha F H σ E _ fun p xs H1 e1 s1 a1 => ⟨p, xs, rfl, .inl s1, fun l hl => q _ _ _ (Evl.fresh_back e1 hl) (e1.trans (Ex.new hl)) upd_same (a1.mono (ex_new hl))⟩
theorem dn_listT (ha : DU K ta Γ ds) : DN K (tCB (Evl.rListS K) (tCons ta tNil)) Γ ds := fun F H σ E Q q =>
  ha F H σ E _ fun p xs H1 e1 s1 a1 => ⟨p, xs, rfl, .inr (Evl.ex_t hid_le s1), fun l hl => q _ _ _ (Evl.fresh_back e1 hl) (e1.trans (Ex.new hl)) upd_same (a1.mono (ex_new hl))⟩
/-- in, not in: ints -/
theorem inV_ints (i : Int) : ∀ ns : List Int, inV (.int i) (ns.map V.int) = decide (i ∈ ns)
  | [] => by simp [inV]
  | n :: r => by
    have ih := inV_ints i r
    unfold inV at ih ⊢
    rw [List.map_cons, List.any_cons, ih]
    have e : eqV (.int n) (.int i) = (n == i) := rfl
    rw [e]
    by_cases h : n = i
    · subst h
      simp
    · have h' : ¬ i = n := fun z => h z.symm
      simp [h, h']
theorem flat_ints : ∀ ns : List Int, (ns.map V.int).all flatV = true
  | [] => rfl
  | _ :: r => flat_ints r
theorem de_inL {i : Int} {ns : List Int} {neg : Bool} (ha : DE K ta Γ (.int i)) (hb : DL K tb Γ (ns.map D.int)) : DE K (tOp (rIn K neg) ta tb) Γ (.bl (if neg then !decide (i ∈ ns) else decide (i ∈ ns))) := fun F H σ E Q q =>
  ha F H σ E _ fun v H1 e1 i1 => by
    cases i1
    refine hb F H1 σ (E.mono e1) _ fun p xs H2 e2 s2 a2 => ?_
    obtain rfl := a2.ints
    exact ⟨p, _, rfl, .inl s2, rfl, flat_ints ns, q _ H2 (e1.trans e2) (by rw [inV_ints]; exact .bl _)⟩
theorem de_inT {i : Int} {ns : List Int} {neg : Bool} (ha : DE K ta Γ (.int i)) (hb : DU K tb Γ (ns.map D.int)) : DE K (tOp (rIn K neg) ta tb) Γ (.bl (if neg then !decide (i ∈ ns) else decide (i ∈ ns))) := fun F H σ E Q q =>
  ha F H σ E _ fun v H1 e1 i1 => by
    cases i1
    refine hb F H1 σ (E.mono e1) _ fun p xs H2 e2 s2 a2 => ?_
    obtain rfl := a2.ints
    exact ⟨p, _, rfl, .inr (Evl.ex_t hid_le s2), rfl, flat_ints ns, q _ H2 (e1.trans e2) (by rw [inV_ints]; exact .bl _)⟩
/-- all, any of bools; sum of ints -/
theorem de_all {bs : List Bool} (ha : DL K ta Γ (bs.map D.bl)) : DE K (tCB (rAll K) (tCons ta tNil)) Γ (.bl (bs.all id)) := fun F H σ E Q q =>
  ha F H σ E _ fun p xs H1 e1 s1 a1 => by
    obtain rfl := a1.bls
    exact ⟨p, bs, rfl, s1, q _ H1 e1 (.bl _)⟩
theorem de_any {bs : List Bool} (ha : DL K ta Γ (bs.map D.bl)) : DE K (tCB (rAny K) (tCons ta tNil)) Γ (.bl (bs.any id)) := fun F H σ E Q q =>
  ha F H σ E _ fun p xs H1 e1 s1 a1 => by
    obtain rfl := a1.bls
    exact ⟨p, bs, rfl, s1, q _ H1 e1 (.bl _)⟩
theorem de_sum {ns : List Int} (ha : DL K ta Γ (ns.map D.int)) : DE K (tCB (rSum K) (tCons ta tNil)) Γ (.int ns.sum) := fun F H σ E Q q =>
  ha F H σ E _ fun p xs H1 e1 s1 a1 => by
    obtain rfl := a1.ints
    exact ⟨p, ns, rfl, s1, q _ H1 e1 (.int _)⟩

/-! calls -/
/-- a promise by data -/
def spD (K : PySem.W.Frag) (n : Nat) (R : List D → D → Prop) : Sp := fun vs H Q _ => vs.length = n ∧ ∃ (hot : List Addr) (ds : List D) (d : D), (∀ p ∈ hot, H p ≠ none) ∧ IsAll K (hid hot H) vs ds ∧ R ds d ∧ ∀ v H', Ex H H' → Is K (hid hot H') v d → Q v H'
theorem de_call {n : Nat} {R : List D → D → Prop} {X : XK} {t : TA} (ha : DA K t Γ ds) (hn : ds.length = n) (hr : R ds d) : DE K (tCall (spD K n R) [] X t) Γ d := fun F H σ E Q q =>
  ha F H σ E _ fun vs H1 e1 a1 => by
    show spD K n R (vs ++ []) H1 Q X
    rw [List.append_nil]
    exact ⟨by rw [a1.length, hn], hotOf F Γ, ds, d, fun p hp => (E.mono e1).there hp, a1, hr, fun v H' e i => q v H' (e1.trans e) i⟩
end
end Lk
set_option maxHeartbeats 1000000
namespace Lk
open PySem PySem.Spec PyProof.Rows L2
open Evl (Ex)

/-! ### contexts -/
theorem owned_set {e e' : Ent} (h : own1 e' = own1 e) : ∀ {Γ : Ctx} {i : Nat}, Γ[i]? = some e → owned (Γ.set i e') = owned Γ
  | [], _, q => by simp at q
  | x :: r, 0, q => by
    simp only [List.getElem?_cons_zero, Option.some.injEq] at q
    subst q
    show own1 e' ++ owned r = own1 x ++ owned r
    rw [h]
  | x :: r, i + 1, q => by
    have ih := owned_set h (Γ := r) (i := i) (by simpa using q)
    show own1 x ++ owned (r.set i e') = own1 x ++ owned r
    rw [ih]
theorem owned_add {e e' : Ent} {l : List Addr} (h : own1 e = []) (h' : own1 e' = l) : ∀ {Γ : Ctx} {i : Nat}, Γ[i]? = some e → (owned (Γ.set i e')).Perm (l ++ owned Γ)
  | [], _, q => by simp at q
  | x :: r, 0, q => by
    simp only [List.getElem?_cons_zero, Option.some.injEq] at q
    subst q
    show (own1 e' ++ owned r).Perm (l ++ (own1 x ++ owned r))
    rw [h, h', List.nil_append]
  | x :: r, i + 1, q => by
    have ih := owned_add h h' (Γ := r) (i := i) (by simpa using q)
    show (own1 x ++ owned (r.set i e')).Perm (l ++ (own1 x ++ owned r))
    refine (List.Perm.append_left (own1 x) ih).trans ?_
    rw [← List.append_assoc, ← List.append_assoc]
    exact List.Perm.append_right _ List.perm_append_comm
theorem owned_apart {p : Addr} : ∀ {Γ : Ctx} {i j : Nat} {e e' : Ent}, (owned Γ).Nodup → Γ[i]? = some e → Γ[j]? = some e' → i ≠ j → p ∈ own1 e → p ∉ own1 e'
  | [], _, _, _, _, _, q, _, _, _ => by simp at q
  | x :: r, 0, 0, _, _, _, _, _, n, _ => absurd rfl n
  | x :: r, 0, j + 1, e, e', nd, q, q', _, h => fun h' => by
    simp only [List.getElem?_cons_zero, Option.some.injEq] at q
    subst q
    have nd' : (own1 x ++ owned r).Nodup := nd
    exact (List.nodup_append.mp nd').2.2 p h p (owned_mem (by simpa using q') h') rfl
  | x :: r, i + 1, 0, e, e', nd, q, q', _, h => fun h' => by
    simp only [List.getElem?_cons_zero, Option.some.injEq] at q'
    subst q'
    have nd' : (own1 x ++ owned r).Nodup := nd
    exact (List.nodup_append.mp nd').2.2 p h' p (owned_mem (by simpa using q) h) rfl
  | x :: r, i + 1, j + 1, e, e', nd, q, q', n, h =>
    owned_apart (Γ := r) (i := i) (j := j) (List.nodup_append.mp (show (own1 x ++ owned r).Nodup from nd)).2.1 (by simpa using q) (by simpa using q') (fun z => n (by rw [z])) h
theorem hid_congr {l m : List Addr} {H : Hp} (h : ∀ a, a ∈ l ↔ a ∈ m) : hid l H = hid m H := by
  funext a
  by_cases q : a ∈ l
  · rw [hid_in q, hid_in ((h a).mp q)]
  · rw [hid_out q, hid_out fun z => q ((h a).mpr z)]
theorem ex_new2 {l : List Addr} {H H' : Hp} {p : Addr} (hp : H p = none) (e : Ex H H') : Ex (hid l H) (hid (p :: l) H') := fun a u h => by
  obtain ⟨n, q⟩ := hid_some h
  rw [hid_out (by simp only [List.mem_cons, not_or]; exact ⟨ne_of_none q hp, n⟩)]
  exact e a u q
section
variable {K : PySem.W.Frag} {F : Fx} {H H' : Hp} {σ : L2.St} {Γ : Ctx}
/-- a slot that owned nothing takes a datum -/
theorem Env.setD (E : Env K F H σ Γ) {i : Nat} {e : Ent} {v : V} {d : D} (h : Γ[i]? = some e) (ho : own1 e = []) (hv : Is K (hid (hotOf F Γ) H) v d) : Env K F H (σ.set i (some v)) (Γ.set i (.dat d)) := by
  have eo : owned (Γ.set i (.dat d)) = owned Γ := owned_set (e := e) (e' := .dat d) ho.symm h
  have hi : i < Γ.length := (List.getElem?_eq_some_iff.mp h).1
  refine ⟨by simp [E.len], fun j x hx => ?_, E.frame, E.trk, by rw [eo]; exact E.nd, by rw [eo]; exact E.off, E.wrs⟩
  have eh : hotOf F (Γ.set i (.dat d)) = hotOf F Γ := by unfold hotOf; rw [eo]
  rw [eh]
  by_cases hj : j = i
  · subst hj
    rw [List.getElem?_set_self hi] at hx
    cases hx
    exact ⟨some v, by rw [List.getElem?_set_self (by rw [E.len]; exact hi)], v, rfl, hv⟩
  · rw [List.getElem?_set_ne (Ne.symm hj)] at hx
    obtain ⟨u, h1, h2⟩ := E.ent j x hx
    exact ⟨u, by rw [List.getElem?_set_ne (Ne.symm hj)]; exact h1, h2⟩
/-- an owned object changes -/
theorem Env.updO (E : Env K F H σ Γ) {i : Nat} {e e' : Ent} {p : Addr} {o : HO} (h : Γ[i]? = some e) (ho : own1 e = [p]) (ho' : own1 e' = [p]) (hv : EntOk K (hid (hotOf F Γ) H) (upd H p o) (some (.ref p)) e') : Env K F (upd H p o) σ (Γ.set i e') := by
  have eo : owned (Γ.set i e') = owned Γ := owned_set (e := e) (e' := e') (ho'.trans ho.symm) h
  have hi : i < Γ.length := (List.getElem?_eq_some_iff.mp h).1
  have pe : p ∈ own1 e := by rw [ho]; exact List.mem_singleton.mpr rfl
  have po : p ∈ owned Γ := owned_mem h pe
  have ph : p ∈ hotOf F Γ := List.mem_append_right _ po
  refine ⟨by simp [E.len], fun j x hx => ?_, fun a u h1 h2 => ?_, fun q hq z => ?_, by rw [eo]; exact E.nd, by rw [eo]; exact E.off, E.wrs⟩
  · have eh : hotOf F (Γ.set i e') = hotOf F Γ := by unfold hotOf; rw [eo]
    rw [eh, hid_upd ph]
    by_cases hj : j = i
    · subst hj
      rw [List.getElem?_set_self hi] at hx
      cases hx
      obtain ⟨u, h1, h2⟩ := E.ent j e h
      exact ⟨u, h1, by rw [(h2.at_ pe).1]; exact hv⟩
    · rw [List.getElem?_set_ne (Ne.symm hj)] at hx
      obtain ⟨u, h1, h2⟩ := E.ent j x hx
      refine ⟨u, h1, h2.mono (Ex.refl _) fun q hq o' e1 => ?_⟩
      have hne : q ≠ p := fun z => by
        subst z
        exact owned_apart E.nd h hx (Ne.symm hj) pe hq
      rw [upd_ne hne]
      exact e1
  · have hne : a ≠ p := fun z => by
      subst z
      rw [(E.off a po).2] at h2
      cases h2
    rw [upd_ne hne]
    exact E.frame a u h1 h2
  · have hne : q ≠ p := fun w => (E.off p po).1 (by rw [← w]; exact hq)
    rw [upd_ne hne] at z
    exact E.trk q hq z
/-- a new object is owned -/
theorem Env.addO (E : Env K F H σ Γ) {i : Nat} {e e' : Ent} {p : Addr} (h : Γ[i]? = some e) (ho : own1 e = []) (hp : H p = none) (ex : Ex H H') (ho' : own1 e' = [p]) (hv : EntOk K (hid (p :: hotOf F Γ) H') H' (some (.ref p)) e') :
    Env K F H' (σ.set i (some (.ref p))) (Γ.set i e') := by
  have pm : (owned (Γ.set i e')).Perm ([p] ++ owned Γ) := owned_add ho ho' h
  have hi : i < Γ.length := (List.getElem?_eq_some_iff.mp h).1
  have hm : ∀ a, a ∈ hotOf F (Γ.set i e') ↔ a ∈ p :: hotOf F Γ := fun a => by
    unfold hotOf
    rw [List.mem_append, pm.mem_iff, List.mem_cons, List.mem_append, List.mem_append, List.mem_singleton]
    exact ⟨fun z => z.elim (fun x => .inr (.inl x)) fun x => x.elim .inl fun y => .inr (.inr y), fun z => z.elim (fun x => .inr (.inl x)) fun x => x.elim .inl fun y => .inr (.inr y)⟩
  have np := E.new hp
  have E' := E.mono ex
  refine ⟨by simp [E.len], fun j x hx => ?_, E'.frame, E'.trk, ?_, fun q hq => ?_, E.wrs⟩
  · rw [hid_congr hm]
    by_cases hj : j = i
    · subst hj
      rw [List.getElem?_set_self hi] at hx
      cases hx
      exact ⟨_, List.getElem?_set_self (by rw [E.len]; exact hi), hv⟩
    · rw [List.getElem?_set_ne (Ne.symm hj)] at hx
      obtain ⟨u, h1, h2⟩ := E.ent j x hx
      exact ⟨u, by rw [List.getElem?_set_ne (Ne.symm hj)]; exact h1, h2.mono (ex_new2 hp ex) fun q _ o e1 => ex q o e1⟩
  · rw [pm.nodup_iff]
    exact List.nodup_cons.mpr ⟨fun z => np (List.mem_append_right _ z), E.nd⟩
  · rcases List.mem_cons.mp ((pm.mem_iff).mp hq) with z | z
    · subst z
      refine ⟨fun w => np (List.mem_append_left _ w), ?_⟩
      cases q0 : F.H0 q with
      | none => rfl
      | some o =>
        have nw : q ∉ F.wr := fun w => np (List.mem_append_left _ (E.wrs q w))
        rw [E.frame q o nw q0] at hp
        cases hp
    · exact E.off q z
/-- what was owned is given away -/
theorem Env.rel (E : Env K F H σ Γ) {i : Nat} {e e' : Ent} {p : Addr} (h : Γ[i]? = some e) (ho : own1 e = [p]) (ho' : own1 e' = []) (hv : ∀ l, p ∉ l → (∀ a ∈ l, a ∈ hotOf F Γ) → EntOk K (hid (hotOf F Γ) H) H (some (.ref p)) e → EntOk K (hid l H) H (some (.ref p)) e') : Env K F H σ (Γ.set i e') := by
  have hi : i < Γ.length := (List.getElem?_eq_some_iff.mp h).1
  have pe : p ∈ own1 e := by rw [ho]; exact List.mem_singleton.mpr rfl
  have hset : (Γ.set i e').set i e = Γ := by
    rw [List.set_set]
    obtain ⟨h1, h2⟩ := List.getElem?_eq_some_iff.mp h
    rw [← h2]
    exact List.set_getElem_self h1
  have pm : (owned Γ).Perm ([p] ++ owned (Γ.set i e')) := by
    have z := owned_add (e := e') (e' := e) (l := [p]) (Γ := Γ.set i e') (i := i) ho' ho (List.getElem?_set_self hi)
    rw [hset] at z
    exact z
  have sub : ∀ a ∈ hotOf F (Γ.set i e'), a ∈ hotOf F Γ := fun a ha => by
    rcases List.mem_append.mp ha with z | z
    · exact List.mem_append_left _ z
    · exact List.mem_append_right _ (pm.mem_iff.mpr (List.mem_append_right _ z))
  have nd2 := List.nodup_cons.mp (pm.nodup_iff.mp E.nd)
  have po : p ∈ owned Γ := owned_mem h pe
  have np : p ∉ hotOf F (Γ.set i e') := fun z => by
    rcases List.mem_append.mp z with z | z
    · exact (E.off p po).1 z
    · exact nd2.1 z
  refine ⟨by simp [E.len], fun j x hx => ?_, E.frame, E.trk, nd2.2, fun q hq => E.off q (pm.mem_iff.mpr (List.mem_append_right _ hq)), E.wrs⟩
  by_cases hj : j = i
  · subst hj
    rw [List.getElem?_set_self hi] at hx
    cases hx
    obtain ⟨u, h1, h2⟩ := E.ent j e h
    have h3 := (h2.at_ pe).1
    subst h3
    exact ⟨_, h1, hv _ np sub h2⟩
  · rw [List.getElem?_set_ne (Ne.symm hj)] at hx
    obtain ⟨u, h1, h2⟩ := E.ent j x hx
    exact ⟨u, h1, h2.mono (hid_sub sub) fun _ _ _ e1 => e1⟩
theorem Env.relL (E : Env K F H σ Γ) {i : Nat} {p : Addr} {ds : List D} (h : Γ[i]? = some (.own p ds)) : Env K F H σ (Γ.set i (.dat (.lst ds))) :=
  E.rel (p := p) (e' := .dat (.lst ds)) h rfl rfl fun l nl sub k => by
    obtain ⟨_, xs, q, a⟩ := k
    exact ⟨.ref p, rfl, .lst (SqL.of (by rw [hid_out nl]; exact q)) (a.mono (hid_sub sub))⟩
theorem Env.relD (E : Env K F H σ Γ) {i : Nat} {p : Addr} {ks : List Int} {ds : List D} (h : Γ[i]? = some (.dic p ks ds)) : Env K F H σ (Γ.set i (.dat (.dct ks ds))) :=
  E.rel (p := p) (e' := .dat (.dct ks ds)) h rfl rfl fun l nl sub k => by
    obtain ⟨_, xs, q, hl, a⟩ := k
    exact ⟨.ref p, rfl, .dct (by rw [hid_out nl]; exact q) hl (a.mono (hid_sub sub))⟩
/-- a slot is forgotten -/
theorem Env.forget (E : Env K F H σ Γ) {i : Nat} {e : Ent} (h : Γ[i]? = some e) (ho : own1 e = []) : Env K F H σ (Γ.set i .no) := by
  have eo : owned (Γ.set i .no) = owned Γ := owned_set (e := e) (e' := .no) ho.symm h
  refine ⟨by simp [E.len], fun j x hx => ?_, E.frame, E.trk, by rw [eo]; exact E.nd, by rw [eo]; exact E.off, E.wrs⟩
  have eh : hotOf F (Γ.set i .no) = hotOf F Γ := by unfold hotOf; rw [eo]
  rw [eh]
  by_cases hj : j = i
  · subst hj
    obtain ⟨u, h1, _⟩ := E.ent j e h
    rw [List.getElem?_set_self (List.getElem?_eq_some_iff.mp h).1] at hx
    cases hx
    exact ⟨u, h1, trivial⟩
  · rw [List.getElem?_set_ne (Ne.symm hj)] at hx
    exact E.ent j x hx
end

/-! ### wiping -/
theorem wipe_get {σ : L2.St} {i : Nat} : ∀ {vs : List Nat}, (wipe σ vs)[i]? = if i ∈ vs then σ[i]?.map (fun _ => none) else σ[i]?
  | [] => by simp [wipe]
  | v :: vs => by
    have ih := wipe_get (σ := σ) (i := i) (vs := vs)
    unfold wipe
    by_cases hv : v = i
    · subst hv
      rw [List.getElem?_set, if_pos rfl, wipe_length, if_pos (List.mem_cons_self ..)]
      by_cases hl : v < σ.length
      · rw [if_pos hl, List.getElem?_eq_getElem hl]
        rfl
      · rw [if_neg hl, List.getElem?_eq_none (by omega)]
        rfl
    · rw [List.getElem?_set_ne hv, ih]
      by_cases hm : i ∈ vs
      · rw [if_pos hm, if_pos (List.mem_cons_of_mem _ hm)]
      · rw [if_neg hm, if_neg (by simp only [List.mem_cons, not_or]; exact ⟨fun z => hv z.symm, hm⟩)]
theorem wipe_set {σ : L2.St} {j : Nat} {x : Option V} {vs : List Nat} (h : j ∈ vs) : wipe (σ.set j x) vs = wipe σ vs := by
  refine List.ext_getElem? fun i => ?_
  rw [wipe_get, wipe_get]
  by_cases hi : i ∈ vs
  · rw [if_pos hi, if_pos hi, List.getElem?_set]
    split
    · rename_i z
      subst z
      split
      · rename_i hl
        rw [List.getElem?_eq_getElem hl]
        rfl
      · rename_i hl
        rw [List.getElem?_eq_none (by omega)]
    · rfl
  · rw [if_neg hi, if_neg hi, List.getElem?_set_ne (fun z => hi (by rw [← z]; exact h))]
theorem wipe_wipe {σ : L2.St} {vs : List Nat} : wipe (wipe σ vs) vs = wipe σ vs := by
  refine List.ext_getElem? fun i => ?_
  rw [wipe_get, wipe_get]
  by_cases hi : i ∈ vs
  · rw [if_pos hi, if_pos hi]
    cases σ[i]? <;> rfl
  · rw [if_neg hi, if_neg hi]
def wipeC (Γ : Ctx) : List Nat → Ctx
  | [] => Γ
  | v :: vs => (wipeC Γ vs).set v .no
theorem wipeC_length (Γ : Ctx) : ∀ vs, (wipeC Γ vs).length = Γ.length
  | [] => rfl
  | v :: vs => by
    unfold wipeC
    rw [List.length_set, wipeC_length]
theorem wipeC_get {Γ : Ctx} {i : Nat} : ∀ {vs : List Nat}, (wipeC Γ vs)[i]? = if i ∈ vs then Γ[i]?.map (fun _ => .no) else Γ[i]?
  | [] => by simp [wipeC]
  | v :: vs => by
    have ih := wipeC_get (Γ := Γ) (i := i) (vs := vs)
    unfold wipeC
    by_cases hv : v = i
    · subst hv
      rw [List.getElem?_set, if_pos rfl, wipeC_length, if_pos (List.mem_cons_self ..)]
      by_cases hl : v < Γ.length
      · rw [if_pos hl, List.getElem?_eq_getElem hl]
        rfl
      · rw [if_neg hl, List.getElem?_eq_none (by omega)]
        rfl
    · rw [List.getElem?_set_ne hv, ih]
      by_cases hm : i ∈ vs
      · rw [if_pos hm, if_pos (List.mem_cons_of_mem _ hm)]
      · rw [if_neg hm, if_neg (by simp only [List.mem_cons, not_or]; exact ⟨fun z => hv z.symm, hm⟩)]
theorem Env.wipe {K : PySem.W.Frag} {F : Fx} {H : Hp} {σ : L2.St} {Γ : Ctx} {vs : List Nat} (E : Env K F H σ Γ) (ho : owned (wipeC Γ vs) = owned Γ) : Env K F H (L2.wipe σ vs) (wipeC Γ vs) := by
  have eh : hotOf F (wipeC Γ vs) = hotOf F Γ := by unfold hotOf; rw [ho]
  refine ⟨by rw [wipe_length, wipeC_length]; exact E.len, fun j x hx => ?_, E.frame, E.trk, by rw [ho]; exact E.nd, by rw [ho]; exact E.off, E.wrs⟩
  rw [eh]
  rw [wipeC_get] at hx
  rw [wipe_get]
  by_cases hj : j ∈ vs
  · rw [if_pos hj] at hx ⊢
    cases q : Γ[j]? with
    | none =>
      rw [q] at hx
      cases hx
    | some e =>
      rw [q] at hx
      cases hx
      obtain ⟨u, h1, _⟩ := E.ent j e q
      rw [h1]
      exact ⟨none, rfl, trivial⟩
  · rw [if_neg hj] at hx ⊢
    exact E.ent j x hx
end Lk
set_option maxHeartbeats 1000000
namespace Lk
open PySem PySem.Spec PyProof.Rows L2
open Evl (Ex)

/-! ### targets -/
def DG (K : PySem.W.Frag) (g : TG) (js : List Nat) (d : D) (Γ Γ' : Ctx) : Prop := owned Γ' = owned Γ ∧ ∀ (F : Fx) (H : Hp) (σ : L2.St) (v : V), Env K F H σ Γ → Is K (hid (hotOf F Γ) H) v d →
  ∀ Q : L2.St → Hp → Prop, (∀ σ', Env K F H σ' Γ' → (∀ vs : List Nat, (∀ j ∈ js, j ∈ vs) → wipe σ' vs = wipe σ vs) → Q σ' H) → g v σ H Q
def DGs (K : PySem.W.Frag) (g : TGs) (js : List Nat) (ds : List D) (Γ Γ' : Ctx) : Prop := owned Γ' = owned Γ ∧ ∀ (F : Fx) (H : Hp) (σ : L2.St) (vs : List V), Env K F H σ Γ → IsAll K (hid (hotOf F Γ) H) vs ds →
  ∀ Q : L2.St → Hp → Prop, (∀ σ', Env K F H σ' Γ' → (∀ ws : List Nat, (∀ j ∈ js, j ∈ ws) → wipe σ' ws = wipe σ ws) → Q σ' H) → g vs σ H Q
section
variable {K : PySem.W.Frag} {Γ Γ' Γ1 Γ2 : Ctx} {ta tb te tc : TE} {tt tu : TT} {d e : D} {ds es : List D} {t u w : TS} {g : TG} {gs : TGs} {js ks : List Nat}
theorem dg_name {i : Nat} {x : Ent} (h : Γ[i]? = some x) (ho : own1 x = []) : DG K (gName i) [i] d Γ (Γ.set i (.dat d)) :=
  ⟨owned_set (e := x) (e' := .dat d) ho.symm h, fun F H σ v E hv Q q => q _ (E.setD h ho hv) fun vs hs => wipe_set (hs i (List.mem_singleton.mpr rfl))⟩
theorem dgs_nil : DGs K gNil [] [] Γ Γ := ⟨rfl, fun F H σ v E hv Q q => by
  cases hv
  exact ⟨rfl, q σ E fun _ _ => rfl⟩⟩
theorem dgs_cons (h1 : DG K g js d Γ Γ1) (h2 : DGs K gs ks ds Γ1 Γ2) : DGs K (gCons g gs) (js ++ ks) (d :: ds) Γ Γ2 :=
  ⟨h2.1.trans h1.1, fun F H σ vs E hv Q q => by
    have e1 : hotOf F Γ1 = hotOf F Γ := by unfold hotOf; rw [h1.1]
    cases hv with
    | cons i a =>
      refine ⟨_, _, rfl, h1.2 F H σ _ E i _ fun σ1 E1 w1 => h2.2 F H σ1 _ E1 (by rw [e1]; exact a) Q fun σ2 E2 w2 => q σ2 E2 fun ws hs => ?_⟩
      rw [w2 ws fun j hj => hs j (List.mem_append_right _ hj), w1 ws fun j hj => hs j (List.mem_append_left _ hj)]⟩
theorem dg_tup {n : Nat} (h : DGs K gs js ds Γ Γ') (hl : ds.length = n) : DG K (gTup K n gs) js (.tup ds) Γ Γ' :=
  ⟨h.1, fun F H σ v E hv Q q => by
    cases hv with
    | tup s a => exact ⟨_, _, rfl, Evl.ex_t hid_le s, by rw [a.length, hl], h.2 F H σ _ E a Q q⟩⟩

/-! ### statements, blocks -/
def St (K : PySem.W.Frag) (t : TS) (Γ Γ' : Ctx) : Prop := ∀ (F : Fx) (H : Hp) (σ : L2.St) (Z : Ends), Env K F H σ Γ → (∀ σ' H', Env K F H' σ' Γ' → Z.nx σ' H') → t Z σ H
/-- behind the body -/
def Ret (K : PySem.W.Frag) (F : Fx) (d : D) (v : V) (H' : Hp) : Prop := (∀ a o, a ∉ F.wr → F.H0 a = some o → H' a = some o) ∧ (∀ p ∈ F.hot, H' p ≠ none) ∧ Is K (hid F.hot H') v d
def Blk (K : PySem.W.Frag) (t : TS) (Γ : Ctx) (d : D) : Prop := ∀ (F : Fx) (H : Hp) (σ : L2.St) (Z : Ends), Env K F H σ Γ → (∀ v H', Ret K F d v H' → Z.rt v H') → t Z σ H
theorem b_ret (h : DE K te Γ d) : Blk K (tRet te) Γ d := fun F H σ Z E q => h F H σ E _ fun v H' e i => by
  have E' := E.mono e
  exact q v H' ⟨E'.frame, E'.trk, i.mono (hid_sub fun a ha => List.mem_append_left _ ha)⟩
theorem b_seq (h1 : St K t Γ Γ1) (h2 : Blk K u Γ1 d) : Blk K (tSeq t u) Γ d := fun F H σ Z E q => h1 F H σ { Z with nx := u Z } E fun σ' H' E' => h2 F H' σ' Z E' q
theorem s_seq (h1 : St K t Γ Γ1) (h2 : St K u Γ1 Γ2) : St K (tSeq t u) Γ Γ2 := fun F H σ Z E q => h1 F H σ { Z with nx := u Z } E fun σ' H' E' => h2 F H' σ' Z E' q
theorem s_next : St K tNext Γ Γ := fun F H σ Z E q => q σ H E
theorem b_if {b : Bool} (h : DT K tt Γ b) (h1 : b = true → Blk K t Γ d) (h2 : b = false → Blk K u Γ d) : Blk K (tIfS tt t u) Γ d := fun F H σ Z E q => h F H σ E _ fun H1 e1 => by
  cases b with
  | true => exact h1 rfl F H1 σ Z (E.mono e1) q
  | false => exact h2 rfl F H1 σ Z (E.mono e1) q
theorem s_if {b : Bool} (h : DT K tt Γ b) (h1 : b = true → St K t Γ Γ') (h2 : b = false → St K u Γ Γ') : St K (tIfS tt t u) Γ Γ' := fun F H σ Z E q => h F H σ E _ fun H1 e1 => by
  cases b with
  | true => exact h1 rfl F H1 σ Z (E.mono e1) q
  | false => exact h2 rfl F H1 σ Z (E.mono e1) q
/-- if c: return ..; the rest -/
theorem b_guard {b : Bool} (h : DT K tt Γ b) (h1 : b = true → Blk K t Γ d) (h2 : b = false → Blk K w Γ d) : Blk K (tSeq (tIfS tt t tNext) w) Γ d := fun F H σ Z E q => h F H σ E _ fun H1 e1 => by
  cases b with
  | true => exact h1 rfl F H1 σ { Z with nx := w Z } (E.mono e1) q
  | false => exact h2 rfl F H1 σ Z (E.mono e1) q
/-- if c: raise ..; the rest: the raise is never reached -/
theorem b_pass (h : DT K tt Γ false) (h2 : Blk K w Γ d) : Blk K (tSeq (tIfS tt t tNext) w) Γ d := b_guard h (fun z => nomatch z) fun _ => h2
theorem s_pass (h : DT K tt Γ false) : St K (tIfS tt t tNext) Γ Γ := s_if h (fun z => nomatch z) fun _ => s_next
theorem s_asg (h : DE K te Γ d) (hg : DG K g js d Γ Γ') : St K (tAsg te g) Γ Γ' := fun F H σ Z E q => h F H σ E _ fun v H' e i => hg.2 F H' σ v (E.mono e) i _ fun σ' E' _ => q σ' H' E'
theorem s_set {i : Nat} {x : Ent} (h : DE K te Γ d) (hx : Γ[i]? = some x) (ho : own1 x = []) : St K (tAsg te (gName i)) Γ (Γ.set i (.dat d)) := s_asg h (dg_name hx ho)
theorem s_drop (h : DE K te Γ d) : St K (tDrop te) Γ Γ := fun F H σ Z E q => h F H σ E _ fun v H' e i => q σ H' (E.mono e)
theorem s_aug {i : Nat} {f : Int → Int → Int} {a b : Int} (hx : Γ[i]? = some (.dat (.int a))) (h : DE K te Γ (.int b)) : St K (tAug i te (ipI f)) Γ (Γ.set i (.dat (.int (f a b)))) := fun F H σ Z E q => by
  obtain ⟨v, h1, x, rfl, h3⟩ := E.ent i _ hx
  cases h3
  refine ⟨_, h1, h F H σ E _ fun v H' e i => ?_⟩
  cases i
  exact ⟨a, b, rfl, rfl, q _ H' ((E.mono e).setD hx rfl (.int _))⟩
theorem s_par {i j : Nat} {t : TA} {d1 d2 : D} {x y : Ent} (h : DA K t Γ [d1, d2]) (hx : Γ[i]? = some x) (ho : own1 x = []) (hy : (Γ.set i (.dat d1))[j]? = some y) (ho' : own1 y = []) : St K (tPar i j t) Γ ((Γ.set i (.dat d1)).set j (.dat d2)) := fun F H σ Z E q =>
  h F H σ E _ fun vs H' e a => by
    cases a with
    | cons i1 a =>
      cases a with
      | cons i2 a =>
        cases a
        have eo : owned (Γ.set i (.dat d1)) = owned Γ := owned_set (e := x) (e' := .dat d1) ho.symm hx
        exact ⟨_, _, rfl, q _ H' (((E.mono e).setD hx ho i1).setD hy ho' (by unfold hotOf; rw [eo]; exact i2))⟩
/-- a new list is owned -/
theorem b_own {i : Nat} {x : Ent} (h : DN K te Γ ds) (hx : Γ[i]? = some x) (ho : own1 x = []) (hk : ∀ p, Blk K u (Γ.set i (.own p ds)) d) : Blk K (tSeq (tAsg te (gName i)) u) Γ d := fun F H σ Z E q =>
  h F H σ E _ fun p xs H' hp e hl a => hk p F H' _ Z (E.addO (e' := .own p ds) hx ho hp e rfl ⟨rfl, xs, hl, a⟩) q
theorem b_rel {i : Nat} {p : Addr} (h : Γ[i]? = some (.own p ds)) (hk : Blk K u (Γ.set i (.dat (.lst ds))) d) : Blk K u Γ d := fun F H σ Z E q => hk F H σ Z (E.relL h) q
theorem b_relD {i : Nat} {p : Addr} {ns : List Int} (h : Γ[i]? = some (.dic p ns ds)) (hk : Blk K u (Γ.set i (.dat (.dct ns ds))) d) : Blk K u Γ d := fun F H σ Z E q => hk F H σ Z (E.relD h) q
/-- x.append(e) -/
theorem s_append {i : Nat} {p : Addr} (h : Γ[i]? = some (.own p ds)) (he : DE K te Γ d) (hl : ds.length < 16000000) : St K (tDrop (tBM K "list" rAppend (tVar i) (tCons te tNil))) Γ (Γ.set i (.own p (ds ++ [d]))) := fun F H σ Z E q => by
  obtain ⟨v, h1, rfl, xs, h2, h3⟩ := E.ent i _ h
  refine ⟨.ref p, h1, .inl ⟨rfl, xs, SqL.of h2⟩, he F H σ E _ fun v H' e iv => ?_⟩
  refine ⟨p, xs, v, rfl, rfl, e p _ h2, by rw [h3.length]; exact line_lt hl, q σ _ ?_⟩
  exact (E.mono e).updO (e' := .own p (ds ++ [d])) h rfl rfl ⟨rfl, xs ++ [v], upd_same, (h3.mono (hid_mono e)).append (.cons iv .nil)⟩

/-! ### what is walked -/
def YD (K : PySem.W.Frag) (l : List Addr) (H1 : Hp) (ds : List D) : Nat → Hp → V → Hp → Prop := fun i Ha x Hb => ∃ d, ds[i]? = some d ∧ ((Hb = Ha ∧ Is K (hid l H1) x d) ∨
  ∃ T a b da db, x = V.ref T ∧ Ha T = none ∧ Hb = upd Ha T (.tup [a, b]) ∧ d = .tup [da, db] ∧ Is K (hid l H1) a da ∧ Is K (hid l H1) b db)
def DI (K : PySem.W.Frag) (wi : TI) (Γ : Ctx) (ds : List D) : Prop := ∀ (F : Fx) (H : Hp) (σ : L2.St), Env K F H σ Γ → ∀ R : It → Hp → Prop,
  (∀ (J : It) (H1 : Hp) (G : Hp → Prop), Ex H H1 → (∀ H', Ex (hid (hotOf F Γ) H1) H' → G H') → Walk J ds.length G (YD K (hotOf F Γ) H1 ds) → R J H1) → wi σ H R
theorem YD.ex {l m : List Addr} {H1 Ha Hb : Hp} {i : Nat} {x : V} (h : YD K l H1 ds i Ha x Hb) (e : Ex (hid l H1) (hid m Ha)) (hm : ∀ a ∈ m, Ha a ≠ none) : Ex Ha Hb ∧ ∃ d, ds[i]? = some d ∧ Is K (hid m Hb) x d := by
  obtain ⟨d, h1, h⟩ := h
  rcases h with ⟨rfl, i1⟩ | ⟨T, a, b, da, db, rfl, hT, rfl, rfl, i1, i2⟩
  · exact ⟨Ex.refl _, d, h1, i1.mono e⟩
  · have nT : T ∉ m := fun z => hm T z hT
    refine ⟨Ex.new hT, _, h1, .tup (SqT.of (by rw [hid_out nT]; exact upd_same)) ?_⟩
    have e2 : Ex (hid m Ha) (hid m (upd Ha T (.tup [a, b]))) := hid_mono (Ex.new hT)
    exact .cons ((i1.mono e).mono e2) (.cons ((i2.mono e).mono e2) .nil)
theorem di_list (h : DE K te Γ (.lst ds)) : DI K (iList K te) Γ ds := fun F H σ E R r => h F H σ E _ fun v H1 e i => by
  cases i with
  | @lst a xs _ s al =>
    refine ⟨a, rfl, ⟨xs, Evl.ex_l hid_le s⟩, r (Itl K a) H1 (fun H' => SqL K H' a xs) e (fun H' e' => Evl.ex_l e' s) ?_⟩
    rw [← al.length]
    refine walk_list.mono (fun _ q => q) fun i Ha x Hb hi _ y => ?_
    obtain ⟨d, h1, h2⟩ := al.getV y.2
    exact ⟨d, h1, .inl ⟨y.1, h2⟩⟩
theorem di_tup (h : DU K te Γ ds) : DI K (iTup K te) Γ ds := fun F H σ E R r => h F H σ E _ fun a xs H1 e s al => by
  refine ⟨a, rfl, ⟨xs, Evl.ex_t hid_le s⟩, r (Itt K a) H1 (fun H' => SqT K H' a xs) e (fun H' e' => Evl.ex_t e' s) ?_⟩
  rw [← al.length]
  refine walk_tup.mono (fun _ q => q) fun i Ha x Hb hi _ y => ?_
  obtain ⟨d, h1, h2⟩ := al.getV y.2
  exact ⟨d, h1, .inl ⟨y.1, h2⟩⟩
theorem di_range1 {n : Nat} (h : DE K te Γ (.int (n : Int))) (hn : n ≤ 1000000) : DI K (iRng1 (tCons te tNil)) Γ ((List.range n).map fun i : Nat => D.int (i : Int)) := fun F H σ E R r => h F H σ E _ fun v H1 e i => by
  cases i
  refine ⟨(n : Int), rfl, by omega, by omega, r (Itr 0 (n : Int).toNat) H1 (fun _ => True) e (fun _ _ => trivial) ?_⟩
  rw [show ((n : Int)).toNat = n by omega, List.length_map, List.length_range]
  refine walk_range.mono (fun _ q => q) fun i Ha x Hb hi _ y => ?_
  refine ⟨.int (i : Int), ?_, .inl ⟨y.1, ?_⟩⟩
  · rw [List.getElem?_map, List.getElem?_range hi]
    rfl
  · rw [y.2]
    show Is K _ (V.int (0 + (i : Int))) _
    rw [Int.zero_add]
    exact .int _
theorem di_range2 {n : Nat} {lo hi : Int} (h1 : DE K ta Γ (.int lo)) (h2 : DE K tb Γ (.int hi)) (hn : (hi - lo).toNat = n) (b1 : -1000000 ≤ lo ∧ lo ≤ 1000000) (b2 : -1000000 ≤ hi ∧ hi ≤ 1000000) :
    DI K (iRng2 (tCons ta (tCons tb tNil))) Γ ((List.range n).map fun i : Nat => D.int (lo + (i : Int))) := fun F H σ E R r => h1 F H σ E _ fun v H1 e1 i1 => by
  cases i1
  refine h2 F H1 σ (E.mono e1) _ fun v2 H2 e2 i2 => ?_
  cases i2
  refine ⟨lo, hi, rfl, ⟨by omega, by omega, by omega, by omega⟩, r (Itr lo (hi - lo).toNat) H2 (fun _ => True) (e1.trans e2) (fun _ _ => trivial) ?_⟩
  rw [hn, List.length_map, List.length_range]
  refine walk_range.mono (fun _ q => q) fun i Ha x Hb hi _ y => ?_
  refine ⟨.int (lo + (i : Int)), ?_, .inl ⟨y.1, ?_⟩⟩
  · rw [List.getElem?_map, List.getElem?_range hi]
    rfl
  · rw [y.2]
    exact .int _
def enumD (ds : List D) : List D := ds.zipIdx.map fun p => .tup [.int (p.2 : Int), p.1]
theorem enumD_length : (enumD ds).length = ds.length := by simp [enumD]
theorem enumD_get {i : Nat} (h : ds[i]? = some d) : (enumD ds)[i]? = some (.tup [.int (i : Int), d]) := by
  unfold enumD
  rw [List.getElem?_map, List.getElem?_zipIdx, h]
  simp
theorem di_enum (h : DE K te Γ (.lst ds)) : DI K (iEnum K (tCons te tNil)) Γ (enumD ds) := fun F H σ E R r => h F H σ E _ fun v H1 e i => by
  cases i with
  | @lst a xs _ s al =>
    refine ⟨a, xs, rfl, Evl.ex_l hid_le s, r (Ite K a) H1 (fun H' => SqL K H' a xs) e (fun H' e' => Evl.ex_l e' s) ?_⟩
    rw [enumD_length, ← al.length]
    refine walk_enum.mono (fun _ q => q) fun i Ha x Hb hi _ y => ?_
    obtain ⟨T, a1, b1, rfl, hT, rfl, h1, h2⟩ := y
    obtain ⟨d, q1, q2⟩ := al.getV h2
    cases h1
    exact ⟨_, enumD_get q1, .inr ⟨T, _, b1, _, d, rfl, hT, rfl, rfl, .int _, q2⟩⟩
def zipD (ds es : List D) : List D := (ds.zip es).map fun p => .tup [p.1, p.2]
theorem zipD_get {i : Nat} {d e : D} (h : ds[i]? = some d) (h' : es[i]? = some e) : (zipD ds es)[i]? = some (.tup [d, e]) := by
  unfold zipD
  rw [List.getElem?_map, show (ds.zip es)[i]? = some (d, e) from List.getElem?_zip_eq_some.mpr ⟨h, h'⟩]
  rfl
theorem zipD_length : (zipD ds es).length = min ds.length es.length := by simp [zipD]
theorem di_zipL (h : DE K ta Γ (.lst ds)) (h' : DE K tb Γ (.lst es)) : DI K (RZ.iZipA K (tCons ta (tCons tb tNil))) Γ (zipD ds es) := fun F H σ E R r => h F H σ E _ fun v H1 e1 i => h' F H1 σ (E.mono e1) _ fun v' H2 e2 i' => by
  have i := i.mono (hid_mono e2)
  cases i with
  | @lst a xs _ s al =>
    cases i' with
    | @lst b ys _ s' bl =>
      refine ⟨a, b, xs, ys, rfl, .inl ⟨Evl.ex_l hid_le s, Evl.ex_l hid_le s', r (Itz K a b) H2 (fun H' => SqL K H' a xs ∧ SqL K H' b ys) (e1.trans e2) (fun H' e' => ⟨Evl.ex_l e' s, Evl.ex_l e' s'⟩) ?_⟩⟩
      refine (walk_zip (n := (zipD ds es).length) (by rw [zipD_length, al.length, bl.length])).mono (fun _ q => q) fun i Ha x Hb hi _ y => ?_
      obtain ⟨T, a1, b1, rfl, hT, rfl, h1, h2⟩ := y
      obtain ⟨d, q1, q2⟩ := al.getV h1
      obtain ⟨d', q1', q2'⟩ := bl.getV h2
      exact ⟨_, zipD_get q1 q1', .inr ⟨T, a1, b1, d, d', rfl, hT, rfl, rfl, q2, q2'⟩⟩
theorem walk_zipT {a b : Addr} {xs ys : List V} {n : Nat} (hn : n = min xs.length ys.length) : Walk (RZ.ItzT K a b) n (fun H => SqT K H a xs ∧ SqT K H b ys) (YPair (fun i => xs[i]?) fun i => ys[i]?) := by
  subst hn
  refine ⟨fun i _ hi q => ?_, fun _ q => ⟨xs, ys, q.1, q.2, by omega⟩, fun i H v H' _ q y => ?_⟩
  · have l1 : i < xs.length := by omega
    have l2 : i < ys.length := by omega
    exact ⟨xs, ys, xs[i], ys[i], q.1, q.2, List.getElem?_eq_getElem l1, List.getElem?_eq_getElem l2⟩
  · obtain ⟨T, x, z, y1, y2, y3, y4, y5⟩ := y
    exact ⟨T, x, z, y1, y2, y3, y4 xs q.1, y5 ys q.2⟩
theorem di_zipT (h : DU K ta Γ ds) (h' : DU K tb Γ es) : DI K (RZ.iZipA K (tCons ta (tCons tb tNil))) Γ (zipD ds es) := fun F H σ E R r => h F H σ E _ fun a xs H1 e1 s al => h' F H1 σ (E.mono e1) _ fun b ys H2 e2 s' bl => by
      have s := Evl.ex_t (hid_mono e2) s
      have al := al.mono (hid_mono e2)
      refine ⟨a, b, xs, ys, rfl, .inr ⟨Evl.ex_t hid_le s, Evl.ex_t hid_le s', r (RZ.ItzT K a b) H2 (fun H' => SqT K H' a xs ∧ SqT K H' b ys) (e1.trans e2) (fun H' e' => ⟨Evl.ex_t e' s, Evl.ex_t e' s'⟩) ?_⟩⟩
      refine (walk_zipT (n := (zipD ds es).length) (by rw [zipD_length, al.length, bl.length])).mono (fun _ q => q) fun i Ha x Hb hi _ y => ?_
      obtain ⟨T, a1, b1, rfl, hT, rfl, h1, h2⟩ := y
      obtain ⟨d, q1, q2⟩ := al.getV h1
      obtain ⟨d', q1', q2'⟩ := bl.getV h2
      exact ⟨_, zipD_get q1 q1', .inr ⟨T, a1, b1, d, d', rfl, hT, rfl, rfl, q2, q2'⟩⟩
end

/-! ### loops -/
section
variable {K : PySem.W.Frag} {F : Fx} {H : Hp} {σ : L2.St} {Γ : Ctx}
/-- the same, leaning on what stands now -/
def Fx.at_ (F : Fx) (Γ : Ctx) (H : Hp) : Fx := ⟨hid (F.wr ++ owned Γ) H, F.hot, F.wr⟩
theorem Env.base (E : Env K F H σ Γ) : Env K (F.at_ Γ H) H σ Γ :=
  ⟨E.len, E.ent, fun a o _ h => (hid_some h).2, E.trk, E.nd, fun p hp => ⟨(E.off p hp).1, hid_in (List.mem_append_right _ hp)⟩, E.wrs⟩
theorem Env.unbase {H' : Hp} {σ' : L2.St} {Γ' : Ctx} (E : Env K F H σ Γ) (E' : Env K (F.at_ Γ H) H' σ' Γ') (ho : owned Γ' = owned Γ) : Env K F H' σ' Γ' :=
  ⟨E'.len, E'.ent, fun a o h1 h2 => E'.frame a o h1 (by
    have na : a ∉ F.wr ++ owned Γ := fun z => (List.mem_append.mp z).elim h1 fun z => by
      rw [(E.off a z).2] at h2
      cases h2
    show hid (F.wr ++ owned Γ) H a = some o
    rw [hid_out na]
    exact E.frame a o h1 h2), E'.trk, E'.nd, by rw [ho]; exact E.off, E.wrs⟩
/-- what stood openly at the loop's start stands -/
theorem Env.stay {H' : Hp} {σ' : L2.St} {Γ' : Ctx} (E : Env K F H σ Γ) (E' : Env K (F.at_ Γ H) H' σ' Γ') (ho : owned Γ' = owned Γ) : Ex (hid (hotOf F Γ) H) (hid (hotOf F Γ') H') := fun a o h => by
  obtain ⟨n, q⟩ := hid_some h
  have nw : a ∉ F.wr := fun z => n (List.mem_append_left _ (E.wrs a z))
  have no : a ∉ owned Γ := fun z => n (List.mem_append_right _ z)
  have e1 : (F.at_ Γ H).H0 a = some o := by
    show hid (F.wr ++ owned Γ) H a = some o
    rw [hid_out (by simp only [List.mem_append, not_or]; exact ⟨nw, no⟩)]
    exact q
  have e2 : hotOf F Γ' = hotOf F Γ := by unfold hotOf; rw [ho]
  rw [e2, hid_out n]
  exact E'.frame a o nw e1
end
section
variable {K : PySem.W.Frag} {Γ Γ' Γ1 Γ2 : Ctx} {ta tb te tc : TE} {tt tu : TT} {d e : D} {ds es : List D} {t u w : TS} {g : TG} {gs : TGs} {js ks : List Nat} {wi : TI}
theorem s_for (hI : DI K wi Γ ds) (Γs : Nat → Ctx) (h0 : Γs 0 = Γ) (ho : ∀ i, i ≤ ds.length → owned (Γs i) = owned Γ)
    (step : ∀ i d, ds[i]? = some d → ∃ js Γ1, DG K g js d (Γs i) Γ1 ∧ St K t Γ1 (Γs (i + 1))) : St K (tFor wi g t) Γ (Γs ds.length) := fun F H σ Z E q =>
  hI F H σ E _ fun J H1 G e hG W => by
    have E1 := E.mono e
    refine for_it W (fun i σ' H' => Env K (F.at_ Γ H1) H' σ' (Γs i)) (by rw [h0]; exact E1.base) (fun i σ' H' hi p => ?_) (fun i x σ' Ha Hb hi p y => ?_) fun σ' H' p => q σ' H' (E1.unbase p (ho _ (Nat.le_refl _)))
    · exact hG H' ((E1.stay p (ho i hi)).trans hid_le)
    · have hoi := ho i (Nat.le_of_lt hi)
      have hh : hotOf (F.at_ Γ H1) (Γs i) = hotOf F (Γs i) := rfl
      obtain ⟨ex, d, h1, h2⟩ := y.ex (E1.stay p hoi) fun a ha => p.there ha
      obtain ⟨js, Γ1, hg, hb⟩ := step i d h1
      exact hg.2 (F.at_ Γ H1) Hb σ' x (p.mono ex) h2 _ fun σ2 E2 _ => hb (F.at_ Γ H1) Hb σ2 _ E2 fun σ3 H3 E3 => E3
theorem s_while (Γs : Nat → Ctx) (n : Nat) (h0 : Γs 0 = Γ) (ho : ∀ i, i ≤ n → owned (Γs i) = owned Γ) (hc : ∀ i, i < n → DT K tt (Γs i) true) (hb : ∀ i, i < n → St K t (Γs i) (Γs (i + 1))) (he : DT K tt (Γs n) false) : St K (tWhile tt t) Γ (Γs n) := fun F H σ Z E q => by
  refine ⟨fun m σ' H' => ∃ i, i ≤ n ∧ m = n - i ∧ Env K (F.at_ Γ H) H' σ' (Γs i), ⟨n, 0, Nat.zero_le _, rfl, by rw [h0]; exact E.base⟩, fun m σ' H' hw => ?_⟩
  obtain ⟨i, hi, rfl, p⟩ := hw
  by_cases hl : i < n
  · refine hc i hl _ _ _ p _ fun H2 e2 => ?_
    rw [if_pos rfl]
    refine ⟨fun σ2 H2 => Env K (F.at_ Γ H) H2 σ2 (Γs (i + 1)), fun σ2 H2 p2 => ⟨n - (i + 1), by omega, i + 1, hl, rfl, p2⟩, ?_⟩
    exact hb i hl _ _ _ _ (p.mono e2) fun σ3 H3 E3 => E3
  · have e : i = n := by omega
    subst e
    refine he _ _ _ p _ fun H2 e2 => ?_
    rw [if_neg Bool.false_ne_true]
    exact q _ _ (E.unbase (p.mono e2) (ho i hi))
end
end Lk
set_option maxHeartbeats 1000000
namespace Lk
open PySem PySem.Spec PyProof.Rows L2
open Evl (Ex)

section
variable {K : PySem.W.Frag} {F : Fx} {H H' : Hp} {σ : L2.St} {Γ : Ctx} {p : Addr}
/-- one more object that is not leaned on -/
def Fx.more (F : Fx) (p : Addr) : Fx := ⟨F.H0, p :: F.hot, F.wr⟩
theorem Env.hot1 (E : Env K F H σ Γ) (hp : H p = none) (ex : Ex H H') (h' : H' p ≠ none) : Env K (F.more p) H' σ Γ := by
  have E' := E.mono ex
  refine ⟨E.len, fun i e hx => ?_, E'.frame, fun q hq => ?_, E.nd, fun q hq => ⟨fun z => ?_, (E.off q hq).2⟩, fun q hq => List.mem_cons_of_mem _ (E.wrs q hq)⟩
  · obtain ⟨u, h1, h2⟩ := E.ent i e hx
    exact ⟨u, h1, h2.mono (ex_new2 hp ex) fun q _ o e1 => ex q o e1⟩
  · rcases List.mem_cons.mp hq with z | z
    · rw [z]
      exact h'
    · exact E'.trk q z
  · rcases List.mem_cons.mp z with z | z
    · exact E.there (List.mem_append_right _ hq) (by rw [z]; exact hp)
    · exact (E.off q hq).1 z
theorem Env.fresh0 (E : Env K F H σ Γ) (hp : H p = none) : F.H0 p = none := by
  cases q0 : F.H0 p with
  | none => rfl
  | some o =>
    rw [E.frame p o (fun w => E.new hp (List.mem_append_left _ (E.wrs p w))) q0] at hp
    cases hp
theorem Env.updHot {o : HO} (E : Env K F H σ Γ) (hp : p ∈ F.hot) (h0 : F.H0 p = none ∨ p ∈ F.wr) : Env K F (upd H p o) σ Γ := by
  refine ⟨E.len, fun i e hx => ?_, fun a u h1 h2 => ?_, fun q hq z => ?_, E.nd, E.off, E.wrs⟩
  · obtain ⟨u, h1, h2⟩ := E.ent i e hx
    refine ⟨u, h1, h2.mono (by rw [hid_upd (show p ∈ hotOf F Γ from List.mem_append_left _ hp)]; exact Ex.refl _) fun q hq o' e1 => ?_⟩
    have hne : q ≠ p := fun z => (E.off q (owned_mem hx hq)).1 (by rw [z]; exact hp)
    rw [upd_ne hne]
    exact e1
  · have hne : a ≠ p := fun z => by
      subst z
      rcases h0 with h0 | h0
      · rw [h0] at h2
        cases h2
      · exact h1 h0
    rw [upd_ne hne]
    exact E.frame a u h1 h2
  · by_cases hne : q = p
    · rw [hne, upd_same] at z
      cases z
    · rw [upd_ne hne] at z
      exact E.trk q hq z
end

section
variable {K : PySem.W.Frag} {Γ Γ' Γ1 Γ2 Γw : Ctx} {ta tb te tc : TE} {tt tu : TT} {d e : D} {ds es : List D} {t u w : TS} {g g1 : TG} {gs : TGs} {js ks : List Nat} {wi wi1 : TI} {vs ws : List Nat}
theorem take_succ_map {α : Type} {as : List α} {i : Nat} {a : α} {f : α → Bool} {gv : α → D} (h : as[i]? = some a) : ((as.take (i + 1)).filter f).map gv = ((as.take i).filter f).map gv ++ (if f a = true then [gv a] else []) := by
  rw [List.take_add_one, h, List.filter_append, List.map_append]
  congr 1
  show ([a].filter f).map gv = _
  rw [List.filter_cons]
  split <;> rfl
/-- [e for x in .. if ..] -/
theorem dn_lc {α : Type} {as : List α} {em : α → D} {f : α → Bool} {gv : α → D} {Γa : α → Ctx} (hI : DI K wi Γ (as.map em)) (hw : wipeC Γ vs = Γw) (ho : owned Γw = owned Γ) (hg : ∀ a ∈ as, DG K g js (em a) Γw (Γa a)) (hjs : ∀ j ∈ js, j ∈ vs)
    (ht : ∀ a ∈ as, DT K tt (Γa a) (f a)) (he : ∀ a ∈ as, f a = true → DE K te (Γa a) (gv a)) (hl : as.length < 16000000) : DN K (tLc wi g tt te vs) Γ ((as.filter f).map gv) := fun F H σ E Q q =>
  hI F H σ E _ fun J H1 G e hG W Dl hD => by
    have E1 := E.mono e
    have Ew : Env K F H1 (L2.wipe σ vs) Γw := by
      rw [← hw] at ho ⊢
      exact E1.wipe ho
    have hh : ∀ Γx : Ctx, owned Γx = owned Γw → hotOf (F.more Dl) Γx = Dl :: hotOf F Γ := fun Γx hx => by
      show Dl :: (F.hot ++ owned Γx) = Dl :: (F.hot ++ owned Γ)
      rw [hx, ho]
    have h0D : (F.more Dl).H0 Dl = none := E1.fresh0 hD
    have hlen : (as.map em).length = as.length := List.length_map _
    refine lc_it W (fun i H' => Env K (F.more Dl) H' (L2.wipe σ vs) Γw ∧ Ex H1 H' ∧ ∃ acc, H' Dl = some (.lst acc) ∧ IsAll K (hid (Dl :: hotOf F Γ) H') acc (((as.take i).filter f).map gv)) ?_ (fun i H' hi p => ?_) (fun i x Ha Hb hi p y => ?_) fun H' p => ?_
    · exact ⟨Ew.hot1 hD (Ex.new hD) (by rw [upd_same]; exact fun z => nomatch z), Ex.new hD, [], upd_same, .nil⟩
    · exact hG H' (hid_le.trans p.2.1)
    · obtain ⟨pE, pX, acc, pD, pA⟩ := p
      have ex0 : Ex (hid (hotOf F Γ) H1) (hid (hotOf (F.more Dl) Γw) Ha) := by
        rw [hh Γw rfl]
        exact ex_new2 hD pX
      obtain ⟨ex, d, h1, h2⟩ := y.ex ex0 fun a ha => pE.there ha
      obtain ⟨a, ha, rfl⟩ : ∃ a, as[i]? = some a ∧ em a = d := by
        rw [List.getElem?_map] at h1
        cases q0 : as[i]? with
        | none =>
          rw [q0] at h1
          cases h1
        | some a =>
          rw [q0] at h1
          exact ⟨a, rfl, Option.some.inj h1⟩
      have hm : a ∈ as := List.mem_of_getElem? ha
      have ga := hg a hm
      refine ga.2 (F.more Dl) Hb _ x (pE.mono ex) h2 _ fun σ2 E2 w2 => ⟨(w2 vs hjs).trans wipe_wipe, ?_⟩
      refine ht a hm (F.more Dl) Hb σ2 E2 _ fun H3 e3 => ?_
      have accOk : ∀ {H4 : Hp}, Ex Ha H4 → IsAll K (hid (Dl :: hotOf F Γ) H4) acc (((as.take i).filter f).map gv) := fun e4 => pA.mono (hid_mono e4)
      cases hf : f a with
      | true =>
        rw [if_pos rfl]
        refine he a hm hf (F.more Dl) H3 σ2 (E2.mono e3) _ fun y H4 e4 i4 => ?_
        have e04 : Ex Ha H4 := (ex.trans e3).trans e4
        have hacc := accOk e04
        have hle : acc.length ≤ as.length := by
          rw [hacc.length, List.length_map]
          exact Nat.le_trans (List.length_filter_le _ _) (by rw [List.length_take]; exact Nat.min_le_right _ _)
        refine ⟨acc, e04 _ _ pD, line_lt (by omega), (pE.mono e04).updHot (List.mem_cons_self ..) (.inl h0D), Ex.mut (pX.trans e04) hD, acc ++ [y], upd_same, ?_⟩
        rw [hid_upd (List.mem_cons_self ..), take_succ_map ha, if_pos hf]
        refine hacc.append (.cons ?_ .nil)
        rw [hh (Γa a) ga.1] at i4
        exact i4
      | false =>
        rw [if_neg Bool.false_ne_true]
        have e03 : Ex Ha H3 := ex.trans e3
        refine ⟨pE.mono e03, pX.trans e03, acc, e03 _ _ pD, ?_⟩
        rw [take_succ_map ha, hf, if_neg Bool.false_ne_true, List.append_nil]
        exact accOk e03
    · obtain ⟨pE, pX, acc, pD, pA⟩ := p
      rw [hlen, List.take_length] at pA
      exact q Dl acc H' (Evl.fresh_back e hD) (e.trans pX) pD pA
/-- without a test -/
theorem dn_lcY {α : Type} {as : List α} {em : α → D} {gv : α → D} {Γa : α → Ctx} (hI : DI K wi Γ (as.map em)) (hw : wipeC Γ vs = Γw) (ho : owned Γw = owned Γ) (hg : ∀ a ∈ as, DG K g js (em a) Γw (Γa a)) (hjs : ∀ j ∈ js, j ∈ vs)
    (he : ∀ a ∈ as, DE K te (Γa a) (gv a)) (hl : as.length < 16000000) : DN K (tLc wi g tYes te vs) Γ (as.map gv) := by
  have h := dn_lc (f := fun _ => true) hI hw ho hg hjs (fun a _ => dt_yes) (fun a h _ => he a h) hl
  have e : as.filter (fun _ => true) = as := List.filter_eq_self.mpr fun _ _ => rfl
  rw [e] at h
  exact h
/-- [e for x in .. for y in ..] -/
theorem dn_lc2 {α β : Type} {as : List α} {bs : List β} {em : α → D} {em1 : β → D} {gv : α → β → D} {Γa : α → Ctx} {Γv Γb : α → β → Ctx} (hI : DI K wi Γ (as.map em)) (hw : wipeC Γ vs = Γw) (ho : owned Γw = owned Γ) (hg : ∀ a ∈ as, DG K g js (em a) Γw (Γa a)) (hjs : ∀ j ∈ js, j ∈ vs)
    (hI1 : ∀ a ∈ as, DI K wi1 (Γa a) (bs.map em1)) (hg1 : ∀ a ∈ as, ∀ b ∈ bs, wipeC (Γa a) ws = Γv a b ∧ owned (Γv a b) = owned (Γa a) ∧ DG K g1 ks (em1 b) (Γv a b) (Γb a b)) (hks : ∀ j ∈ ks, j ∈ ws)
    (he : ∀ a ∈ as, ∀ b ∈ bs, DE K te (Γb a b) (gv a b)) (hl : as.length * bs.length < 16000000) : DN K (tLc2 wi g tYes wi1 g1 tYes te vs ws) Γ (as.flatMap fun a => bs.map fun b => gv a b) := fun F H σ E Q q =>
  hI F H σ E _ fun J H1 G e hG W Dl hD => by
    have E1 := E.mono e
    have Ew : Env K F H1 (L2.wipe σ vs) Γw := by
      rw [← hw] at ho ⊢
      exact E1.wipe ho
    have hh : ∀ Γx : Ctx, owned Γx = owned Γw → hotOf (F.more Dl) Γx = Dl :: hotOf F Γ := fun Γx hx => by
      show Dl :: (F.hot ++ owned Γx) = Dl :: (F.hot ++ owned Γ)
      rw [hx, ho]
    have h0D : (F.more Dl).H0 Dl = none := E1.fresh0 hD
    have hlen : (as.map em).length = as.length := List.length_map _
    have hlen1 : (bs.map em1).length = bs.length := List.length_map _
    let P := fun (i : Nat) (H' : Hp) => Env K (F.more Dl) H' (L2.wipe σ vs) Γw ∧ Ex H1 H' ∧ ∃ acc, H' Dl = some (.lst acc) ∧ IsAll K (hid (Dl :: hotOf F Γ) H') acc ((as.take i).flatMap fun a => bs.map fun b => gv a b)
    refine ⟨fun i m H' => m = as.length - i ∧ i ≤ as.length ∧ P i H', ⟨as.length, rfl, Nat.zero_le _, ?_⟩, fun i m Ha hw0 => ?_⟩
    · exact ⟨Ew.hot1 hD (Ex.new hD) (by rw [upd_same]; exact fun z => nomatch z), Ex.new hD, [], upd_same, .nil⟩
    · obtain ⟨rfl, hi, pE, pX, acc, pD, pA⟩ := hw0
      have gHa := hG Ha (hid_le.trans pX)
      rw [hlen] at W
      by_cases hlt : i < as.length
      · refine .inr ⟨W.goes i Ha hlt gHa, P (i + 1), fun H' p => ⟨as.length - (i + 1), by omega, rfl, hlt, p⟩, fun x Hb y0 => ?_⟩
        have y := W.yields i Ha x Hb hlt gHa y0
        have ex0 : Ex (hid (hotOf F Γ) H1) (hid (hotOf (F.more Dl) Γw) Ha) := by
          rw [hh Γw rfl]
          exact ex_new2 hD pX
        obtain ⟨ex, d, h1, h2⟩ := y.ex ex0 fun a ha => pE.there ha
        have ha : as[i]? = some as[i] := List.getElem?_eq_getElem hlt
        have hd : em as[i] = d := by
          rw [List.getElem?_map, ha] at h1
          exact Option.some.inj h1
        subst hd
        generalize as[i] = a at ha h1 h2
        have hm : a ∈ as := List.mem_of_getElem? ha
        have ga := hg a hm
        refine ga.2 (F.more Dl) Hb _ x (pE.mono ex) h2 _ fun σ2 E2 w2 => ⟨(w2 vs hjs).trans wipe_wipe, ?_⟩
        refine hI1 a hm (F.more Dl) Hb σ2 E2 _ fun J1 H4 G1 e4 hG1 W1 => ?_
        rw [hlen1] at W1
        have e04 : Ex Ha H4 := ex.trans e4
        have E4 := E2.mono e4
        have htake : (as.take (i + 1)).flatMap (fun a => bs.map fun b => gv a b) = (as.take i).flatMap (fun a => bs.map fun b => gv a b) ++ bs.map fun b => gv a b := by
          rw [List.take_add_one, ha, List.flatMap_append]
          congr 1
          exact List.append_nil _
        have hbase : ((as.take i).flatMap fun a => bs.map fun b => gv a b).length ≤ i * bs.length := by
          rw [List.length_flatMap]
          have hs : ∀ l : List α, (l.map fun a => (bs.map fun b => gv a b).length).sum = l.length * bs.length := fun l => by
            induction l with
            | nil => simp
            | cons x r ih => rw [List.map_cons, List.sum_cons, ih, List.length_map, List.length_cons, Nat.succ_mul, Nat.add_comm]
          rw [hs, List.length_take]
          exact Nat.mul_le_mul_right _ (Nat.min_le_left _ _)
        refine ⟨fun j k H' => k = bs.length - j ∧ j ≤ bs.length ∧ Env K (F.more Dl) H' (L2.wipe σ vs) Γw ∧ Env K (F.more Dl) H' σ2 (Γa a) ∧ Ex H1 H' ∧ Ex (hid (Dl :: hotOf F Γ) H4) H' ∧ ∃ acc', H' Dl = some (.lst acc') ∧ IsAll K (hid (Dl :: hotOf F Γ) H') acc' (((as.take i).flatMap fun a => bs.map fun b => gv a b) ++ (bs.take j).map fun b => gv a b),
          ⟨bs.length, rfl, Nat.zero_le _, pE.mono e04, E4, pX.trans e04, hid_le, acc, e04 _ _ pD, by
            rw [List.take_zero, List.map_nil, List.append_nil]
            exact pA.mono (hid_mono e04)⟩, fun j k Hc hw1 => ?_⟩
        obtain ⟨rfl, hj, cE, cE2, cX, c4, acc', cD, cA⟩ := hw1
        have ex1 : Ex (hid (hotOf (F.more Dl) (Γa a)) H4) Hc := by
          rw [hh (Γa a) ga.1]
          exact c4
        have gHc := hG1 Hc ex1
        by_cases hltj : j < bs.length
        · refine .inr ⟨W1.goes j Hc hltj gHc, fun H' => j + 1 ≤ bs.length ∧ Env K (F.more Dl) H' (L2.wipe σ vs) Γw ∧ Env K (F.more Dl) H' σ2 (Γa a) ∧ Ex H1 H' ∧ Ex (hid (Dl :: hotOf F Γ) H4) H' ∧ ∃ acc', H' Dl = some (.lst acc') ∧ IsAll K (hid (Dl :: hotOf F Γ) H') acc' (((as.take i).flatMap fun a => bs.map fun b => gv a b) ++ (bs.take (j + 1)).map fun b => gv a b),
            fun H' p => ⟨bs.length - (j + 1), by omega, rfl, p.1, p.2⟩, fun x2 Hd y1 => ?_⟩
          have y2 := W1.yields j Hc x2 Hd hltj gHc y1
          have hb : bs[j]? = some bs[j] := List.getElem?_eq_getElem hltj
          generalize bs[j] = b at hb
          have hbm : b ∈ bs := List.mem_of_getElem? hb
          obtain ⟨hv1, hv2, gb⟩ := hg1 a hm b hbm
          have ex2 : Ex (hid (hotOf (F.more Dl) (Γa a)) H4) (hid (hotOf (F.more Dl) (Γa a)) Hc) := fun z o hz => by
            rw [hid_out (hid_some hz).1]
            exact ex1 z o hz
          obtain ⟨ex3, d2, k1, k2⟩ := y2.ex ex2 fun a ha => cE2.there ha
          have hd2 : em1 b = d2 := by
            rw [List.getElem?_map, hb] at k1
            exact Option.some.inj k1
          subst hd2
          have Ev : Env K (F.more Dl) Hc (L2.wipe σ2 ws) (Γv a b) := by
            rw [← hv1] at hv2 ⊢
            exact cE2.wipe hv2
          have hhv : hotOf (F.more Dl) (Γv a b) = hotOf (F.more Dl) (Γa a) := by unfold hotOf; rw [hv2]
          refine gb.2 (F.more Dl) Hd _ x2 (Ev.mono ex3) (by rw [hhv]; exact k2) _ fun σ3 E3 w3 => ?_
          refine And.intro ((w3 ws hks).trans wipe_wipe) ?_
          refine he a hm b hbm (F.more Dl) Hd σ3 E3 _ fun y H7 e7 i7 => ?_
          have ec7 : Ex Hc H7 := ex3.trans e7
          have hacc : IsAll K (hid (Dl :: hotOf F Γ) H7) acc' _ := cA.mono (hid_mono ec7)
          have hle : acc'.length < as.length * bs.length := by
            have h3 : (i + 1) * bs.length ≤ as.length * bs.length := Nat.mul_le_mul_right _ hlt
            rw [Nat.succ_mul] at h3
            rw [hacc.length, List.length_append, List.length_map, List.length_take]
            omega
          refine ⟨acc', ec7 _ _ cD, line_lt (by omega), hltj, (cE.mono ec7).updHot (List.mem_cons_self ..) (.inl h0D), (cE2.mono ec7).updHot (List.mem_cons_self ..) (.inl h0D), Ex.mut (cX.trans ec7) hD, fun z o hz => ?_, acc' ++ [y], upd_same, ?_⟩
          · have nz : z ≠ Dl := fun w => (hid_some hz).1 (by rw [w]; exact List.mem_cons_self ..)
            rw [upd_ne nz]
            exact ec7 z o (c4 z o hz)
          · rw [hid_upd (List.mem_cons_self ..), List.take_add_one, hb, List.map_append, ← List.append_assoc]
            refine hacc.append (.cons ?_ .nil)
            rw [hh (Γb a b) (gb.1.trans (hv2.trans ga.1))] at i7
            exact i7
        · have ej : j = bs.length := by omega
          subst ej
          refine .inl ⟨W1.stops Hc gHc, cE, cX, acc', cD, ?_⟩
          rw [List.take_length] at cA
          rw [htake]
          exact cA
      · have ei : i = as.length := by omega
        subst ei
        rw [List.take_length] at pA
        exact .inl ⟨W.stops Ha gHa, q Dl acc Ha (Evl.fresh_back e hD) (e.trans pX) pD pA⟩

/-! ### dicts -/
theorem dkv_any {k : Int} : ∀ {ks : List Int} {vs : List V}, ks.length = vs.length → k ∉ ks → valV (dkv ks vs) (Sum.inl k) = none
  | [], _, _, _ => rfl
  | x :: r, [], h, _ => by simp at h
  | x :: r, v :: vs, h, n => by
    have hx : ¬ ((Sum.inl x : Key) = Sum.inl k) := fun z => n (by rw [Sum.inl.inj z]; exact List.mem_cons_self ..)
    show valV ((Sum.inl x, v) :: dkv r vs) _ = none
    rw [valV_neg (p := ((Sum.inl x : Key), v)) hx]
    exact dkv_any (by simpa using h) fun z => n (List.mem_cons_of_mem _ z)
theorem dkv_put {k : Int} {v : V} {ks : List Int} {vs : List V} (h : ks.length = vs.length) (n : k ∉ ks) : putK (dkv ks vs) (Sum.inl k) v = dkv (ks ++ [k]) (vs ++ [v]) := by
  rw [putK_new v (dkv_any h n)]
  unfold dkv
  rw [List.map_append, List.zip_append (by rw [List.length_map]; exact h)]
  rfl
theorem dkv_get {k : Int} : ∀ {ks : List Int} {vs : List V} {i : Nat} {v : V}, ks.Nodup → ks[i]? = some k → vs[i]? = some v → valV (dkv ks vs) (Sum.inl k) = some v
  | [], _, _, _, _, h, _ => by simp at h
  | _ :: _, [], _, _, _, _, h => by simp at h
  | x :: r, u :: vs, 0, v, _, h, h' => by
    simp only [List.getElem?_cons_zero, Option.some.injEq] at h h'
    subst h h'
    exact valV_pos (p := ((Sum.inl x : Key), u)) rfl
  | x :: r, u :: vs, i + 1, v, nd, h, h' => by
    have h1 : r[i]? = some k := by simpa using h
    have hx : ¬ ((Sum.inl x : Key) = Sum.inl k) := fun z => (List.nodup_cons.mp nd).1 (by rw [Sum.inl.inj z]; exact List.mem_of_getElem? h1)
    show valV ((Sum.inl x, u) :: dkv r vs) _ = some v
    rw [valV_neg (p := ((Sum.inl x : Key), u)) hx]
    exact dkv_get (List.nodup_cons.mp nd).2 h1 (by simpa using h')
theorem dkv_length {ks : List Int} {vs : List V} (h : ks.length = vs.length) : (dkv ks vs).length = ks.length := by
  unfold dkv
  rw [List.length_zip, List.length_map, ← h, Nat.min_self]
/-- a new dict -/
def DND (K : PySem.W.Frag) (te : TE) (Γ : Ctx) (ks : List Int) (ds : List D) : Prop := ∀ (F : Fx) (H : Hp) (σ : L2.St), Env K F H σ Γ → ∀ Q : VK, (∀ p xs H', H p = none → Ex H H' → H' p = some (.dK (dkv ks xs)) → ks.length = xs.length → IsAll K (hid (p :: hotOf F Γ) H') xs ds → Q (.ref p) H') → te σ H Q
theorem dnd_nil : DND K tDNewK Γ [] [] := fun F H σ E Q q p hp => q p [] _ hp (Ex.new hp) upd_same rfl .nil
theorem b_ownD {i : Nat} {x : Ent} {ns : List Int} (h : DND K te Γ ns ds) (hx : Γ[i]? = some x) (ho : own1 x = []) (hk : ∀ p, Blk K u (Γ.set i (.dic p ns ds)) d) : Blk K (tSeq (tAsg te (gName i)) u) Γ d := fun F H σ Z E q =>
  h F H σ E _ fun p xs H' hp e hd hl a => hk p F H' _ Z (E.addO (e' := .dic p ns ds) hx ho hp e rfl ⟨rfl, xs, hd, hl, a⟩) q
theorem de_ofND {ns : List Int} (h : DND K te Γ ns ds) : DE K te Γ (.dct ns ds) := fun F H σ E Q q => h F H σ E _ fun p xs H' hp e hd hl a =>
  q _ H' e (.dct (by rw [hid_out (E.new hp)]; exact hd) hl (a.mono (hid_sub fun z hz => List.mem_cons_of_mem _ hz)))
/-- {k: v for .. in ..} at unlike keys -/
theorem dnd_dc {α : Type} {as : List α} {em : α → D} {kk : α → Int} {gv : α → D} {Γa : α → Ctx} (hI : DI K wi Γ (as.map em)) (hw : wipeC Γ vs = Γw) (ho : owned Γw = owned Γ) (hg : ∀ a ∈ as, DG K g js (em a) Γw (Γa a)) (hjs : ∀ j ∈ js, j ∈ vs)
    (hk : ∀ a ∈ as, DE K ta (Γa a) (.int (kk a))) (he : ∀ a ∈ as, DE K tb (Γa a) (gv a)) (hnd : (as.map kk).Nodup) (hl : as.length < 16000000) : DND K (tDc wi g tYes ta tb vs) Γ (as.map kk) (as.map gv) := fun F H σ E Q q =>
  hI F H σ E _ fun J H1 G e hG W Dl hD => by
    have E1 := E.mono e
    have Ew : Env K F H1 (L2.wipe σ vs) Γw := by
      rw [← hw] at ho ⊢
      exact E1.wipe ho
    have hh : ∀ Γx : Ctx, owned Γx = owned Γw → hotOf (F.more Dl) Γx = Dl :: hotOf F Γ := fun Γx hx => by
      show Dl :: (F.hot ++ owned Γx) = Dl :: (F.hot ++ owned Γ)
      rw [hx, ho]
    have h0D : (F.more Dl).H0 Dl = none := E1.fresh0 hD
    have hlen : (as.map em).length = as.length := List.length_map _
    rw [hlen] at W
    let P := fun (i : Nat) (H' : Hp) => Env K (F.more Dl) H' (L2.wipe σ vs) Γw ∧ Ex H1 H' ∧ ∃ acc, H' Dl = some (.dK (dkv ((as.take i).map kk) acc)) ∧ ((as.take i).map kk).length = acc.length ∧ IsAll K (hid (Dl :: hotOf F Γ) H') acc ((as.take i).map gv)
    refine ⟨fun i m H' => m = as.length - i ∧ i ≤ as.length ∧ P i H', ⟨as.length, rfl, Nat.zero_le _, ?_⟩, fun i m Ha hw0 => ?_⟩
    · exact ⟨Ew.hot1 hD (Ex.new hD) (by rw [upd_same]; exact fun z => nomatch z), Ex.new hD, [], upd_same, rfl, .nil⟩
    · obtain ⟨rfl, hi, pE, pX, acc, pD, pL, pA⟩ := hw0
      have gHa := hG Ha (hid_le.trans pX)
      by_cases hlt : i < as.length
      · refine .inr ⟨W.goes i Ha hlt gHa, P (i + 1), fun H' p => ⟨as.length - (i + 1), by omega, rfl, hlt, p⟩, fun x Hb y0 => ?_⟩
        have y := W.yields i Ha x Hb hlt gHa y0
        have ex0 : Ex (hid (hotOf F Γ) H1) (hid (hotOf (F.more Dl) Γw) Ha) := by
          rw [hh Γw rfl]
          exact ex_new2 hD pX
        obtain ⟨ex, d, h1, h2⟩ := y.ex ex0 fun a ha => pE.there ha
        have ha : as[i]? = some as[i] := List.getElem?_eq_getElem hlt
        have hd : em as[i] = d := by
          rw [List.getElem?_map, ha] at h1
          exact Option.some.inj h1
        subst hd
        generalize as[i] = a at ha h1 h2
        have hm : a ∈ as := List.mem_of_getElem? ha
        have ga := hg a hm
        refine ga.2 (F.more Dl) Hb _ x (pE.mono ex) h2 _ fun σ2 E2 w2 => ⟨(w2 vs hjs).trans wipe_wipe, ?_⟩
        refine hk a hm (F.more Dl) Hb σ2 E2 _ fun yk H4 e4 i4 => ?_
        cases i4
        refine he a hm (F.more Dl) H4 σ2 (E2.mono e4) _ fun z H5 e5 i5 => ?_
        have e05 : Ex Ha H5 := (ex.trans e4).trans e5
        have hacc : IsAll K (hid (Dl :: hotOf F Γ) H5) acc _ := pA.mono (hid_mono e05)
        have nk : kk a ∉ (as.take i).map kk := fun hmem => by
          obtain ⟨b, hb1, hb2⟩ := List.mem_map.mp hmem
          obtain ⟨j, hj⟩ := List.getElem?_of_mem hb1
          rw [List.getElem?_take] at hj
          split at hj
          · rename_i hji
            have e1 : (as.map kk)[j]? = some (kk a) := by rw [List.getElem?_map, hj, ← hb2] <;> rfl
            have e2 : (as.map kk)[i]? = some (kk a) := by rw [List.getElem?_map, ha] <;> rfl
            have := nd_ix hnd e1 e2
            omega
          · cases hj
        have hll : ((as.take i).map kk).length ≤ as.length := by
          rw [List.length_map, List.length_take]
          exact Nat.min_le_right _ _
        refine ⟨_, Sum.inl (kk a), rfl, e05 _ _ pD, by rw [dkv_length pL]; exact line_lt (by omega), (pE.mono e05).updHot (List.mem_cons_self ..) (.inl h0D), Ex.mut (pX.trans e05) hD, acc ++ [z], ?_, ?_, ?_⟩
        · rw [upd_same, dkv_put pL nk, List.take_add_one, ha, List.map_append] <;> rfl
        · rw [List.take_add_one, ha, List.map_append, List.length_append, List.length_append, pL] <;> rfl
        · rw [hid_upd (List.mem_cons_self ..), List.take_add_one, ha, List.map_append]
          refine hacc.append (.cons ?_ .nil)
          rw [hh (Γa a) ga.1] at i5
          exact i5
      · have ei : i = as.length := by omega
        subst ei
        rw [List.take_length] at pA pL pD
        exact .inl ⟨W.stops Ha gHa, q Dl acc Ha (Evl.fresh_back e hD) (e.trans pX) pD pL pA⟩
end
end Lk
set_option maxHeartbeats 1000000
namespace Lk
open PySem PySem.Spec PyProof.Rows L2
open C8 (Cal pe_c Mak pe_mk)
open Evl (Ex)

/-! ### the text -/
abbrev FnP (K : PySem.W.Frag) (x : Str) (st : Stmt) (f : Addr) (fd : FuncData) : Prop := FunD K x x (defArgs st) (defBody st) (defScope st) [] [] f fd
/-- the built-in names that the text uses, its constants -/
structure Bs (K : PySem.W.Frag) (mg : Str → Option Value) : Prop where
  b_isinstance : mg "isinstance" = none
  b_int : mg "int" = none
  b_bool : mg "bool" = none
  b_len : mg "len" = none
  b_all : mg "all" = none
  b_any : mg "any" = none
  b_list : mg "list" = none
  b_tuple : mg "tuple" = none
  b_dict : mg "dict" = none
  b_range : mg "range" = none
  b_set : mg "set" = none
  b_sorted : mg "sorted" = none
  b_zip : mg "zip" = none
  b_enumerate : mg "enumerate" = none
  b_sum : mg "sum" = none
  b_abs : mg "abs" = none
  b_min : mg "min" = none
  b_repr : mg "repr" = none
  c_turns : ∃ t, mg "TURNS" = some (.int 8 t)
  c_places : ∃ t, mg "MOST_PLACES" = some (.int 12 t)
  c_things : ∃ t, mg "MOST_THINGS_nets" = some (.int 120 t)
  c_looks : ∃ t, mg "MOST_THINGS_looks" = some (.int 12 t)
  c_nothing : ∃ a, mg "NOTHING" = some (.ref a) ∧ ∀ H, SqT K H a [.int 0, .int 0, .int 0, .int 0]
  c_one : ∃ a, mg "ONE" = some (.ref a) ∧ ∀ H, SqT K H a [.int 1, .int 0, .int 0, .int 0]

def startC (N : List Str) (ds : List D) : Ctx := ds.map Ent.dat ++ List.replicate (N.length - ds.length) Ent.no
theorem owned_dat : ∀ (ds : List D) (n : Nat), owned (ds.map Ent.dat ++ List.replicate n Ent.no) = []
  | [], 0 => rfl
  | [], n + 1 => owned_dat [] n
  | _ :: r, n => owned_dat r n
theorem env_start {K : PySem.W.Frag} {F : Fx} {H : Hp} {N : List Str} {vs : List V} {ds : List D} (h0 : ∀ a o, a ∉ F.wr → F.H0 a = some o → H a = some o) (ht : ∀ p ∈ F.hot, H p ≠ none) (hw : ∀ p ∈ F.wr, p ∈ F.hot) (a : IsAll K (hid F.hot H) vs ds) : Env K F H (L2.start N vs) (startC N ds) := by
  have eo : owned (startC N ds) = [] := owned_dat ds _
  refine ⟨?_, fun i e hx => ?_, h0, ht, by rw [eo]; exact List.nodup_nil, by rw [eo]; exact fun _ z => (List.not_mem_nil z).elim, hw⟩
  · unfold L2.start startC
    rw [List.length_append, List.length_append, List.length_map, List.length_map, List.length_replicate, List.length_replicate, a.length]
  · have eh : hotOf F (startC N ds) = F.hot := by unfold hotOf; rw [eo, List.append_nil]
    rw [eh]
    unfold L2.start startC at *
    by_cases hi : i < ds.length
    · rw [List.getElem?_append_left (by rw [List.length_map]; exact hi), List.getElem?_map] at hx
      rw [List.getElem?_append_left (by rw [List.length_map, a.length]; exact hi), List.getElem?_map]
      cases q : ds[i]? with
      | none =>
        rw [q] at hx
        cases hx
      | some d =>
        rw [q] at hx
        cases hx
        obtain ⟨v, h1, h2⟩ := a.get q
        rw [h1]
        exact ⟨_, rfl, v, rfl, h2⟩
    · rw [List.getElem?_append_right (by rw [List.length_map]; omega), List.length_map] at hx
      rw [List.getElem?_append_right (by rw [List.length_map, a.length]; omega), List.length_map, a.length]
      rw [List.getElem?_replicate] at hx ⊢
      split at hx
      · rename_i hlt
        cases hx
        rw [if_pos hlt]
        exact ⟨_, rfl, trivial⟩
      · cases hx
section
variable {P : Program} {w : World} {K : PySem.W.Frag} {mg : Str → Option Value} {base : Heap} {x qual : Str} {params : Arguments} {body : List Stmt} {scope : Scope} {dvs : List V} {kws : List (Str × V)} {f : Addr} {fd : FuncData}
/-- a def by data -/
theorem fn_dat {N ps : List Str} {k n : Nat} {R : List D → D → Prop} (F : FunD K x qual params body scope dvs kws f fd) (S : FnScope N ps scope) (hn : ps.length = n)
    (hbody : ∀ (cdv : Value) (A : Around) (outer : List PySem.Env) (s : Shared) (H : Hp) (E : XK), Room k (A.deeper (envOfC qual scope s.heap.objs.size f cdv)) → ∃ t, PSs (cxOf CX0 P w K mg base N qual scope f cdv A outer s H E).nox body t ∧ ∀ ds d, ds.length = n → R ds d → Blk K t (startC N ds) d) :
    FnOk P w K mg base CX0 (k + 1) f fd ps (spD K n R) := by
  refine F.ok S (fun vs H Q E h => h.1.trans hn.symm) fun cdv A outer s H vs Q E hr h => ?_
  obtain ⟨t, ht, hb⟩ := hbody cdv A outer s H E hr
  obtain ⟨hl, hot, ds, d, hh, a, hR, q⟩ := h
  refine ⟨t, ht.nox, hb ds d (a.length.symm.trans hl) hR ⟨H, hot, []⟩ H _ _ (env_start (fun _ _ _ z => z) hh (fun _ z => (List.not_mem_nil z).elim) a) fun v H' r => q v H' (fun a o z => r.1 a o List.not_mem_nil z) r.2.2⟩
theorem cal_of {st : Stmt} {ps : List Str} {k : Nat} {sp : Sp} (F : FnP K x st f fd) (hf : mg x = some (.ref f)) (G : FnOk P w K mg base CX0 k f fd ps sp)
    (h : ∀ (kV doc pm : Value) (an : Option Addr) (cdv ct : Value) (us : List Value), us.length = ps.length → bindArgs (PySem.W.fnOf x x (defArgs st) (defBody st) (defScope st) .none kV doc pm an cdv ct) ⟨us, []⟩ = pure (ps.zip us)) : Cal P w K mg base k x sp [] :=
  ⟨f, fd, ps, [], G, hf, F.kp, F.bindsN h, .nil⟩
end

/-! ### amounts -/
structure Amt where
  a : Int
  b : Int
  c : Int
  d : Int
deriving DecidableEq
def amtD (x : Amt) : D := .tup [.int x.a, .int x.b, .int x.c, .int x.d]
def Amt.plus (x y : Amt) : Amt := ⟨x.a + y.a, x.b + y.b, x.c + y.c, x.d + y.d⟩
def Amt.minus (x : Amt) : Amt := ⟨-x.a, -x.b, -x.c, -x.d⟩
def Amt.times (x y : Amt) : Amt := ⟨x.a * y.a - x.b * y.d - x.c * y.c - x.d * y.b, x.a * y.b + x.b * y.a - x.c * y.d - x.d * y.c, x.a * y.c + x.b * y.b + x.c * y.a - x.d * y.d, x.a * y.d + x.b * y.c + x.c * y.b + x.d * y.a⟩
structure Bd (n : Nat) (x : Amt) : Prop where
  a : x.a.natAbs < 2 ^ n
  b : x.b.natAbs < 2 ^ n
  c : x.c.natAbs < 2 ^ n
  d : x.d.natAbs < 2 ^ n

def Rplus : List D → D → Prop := fun ds d => ∃ x y, ds = [amtD x, amtD y] ∧ d = amtD (x.plus y)
def Rtimes : List D → D → Prop := fun ds d => ∃ x y n m, ds = [amtD x, amtD y] ∧ Bd n x ∧ Bd m y ∧ 0 < n ∧ 0 < m ∧ n + m ≤ 900000 ∧ d = amtD (x.times y)
abbrev sPlus : Stmt := top 48
abbrev sTimes : Stmt := top 50
theorem sc_plus : FnScope ["one", "other"] ["one", "other"] (defScope sPlus) := ⟨rfl, rfl, rfl, by decide +kernel, rfl, by decide +kernel, by decide +kernel⟩
theorem sc_times : FnScope ["one", "other", "a", "b", "c", "d", "e", "f", "g", "h"] ["one", "other"] (defScope sTimes) := ⟨rfl, rfl, rfl, by decide +kernel, rfl, by decide +kernel, by decide +kernel⟩
section
variable {P : Program} {w : World} {K : PySem.W.Frag} {mg : Str → Option Value} {base : Heap} {f : Addr} {fd : FuncData}
theorem amt_at {x : Amt} {Γ : Ctx} {i : Nat} (h : Γ[i]? = some (.dat (amtD x))) : DU K (tVar i) Γ [.int x.a, .int x.b, .int x.c, .int x.d] := du_of (de_var h)
theorem c_plus (F : FnP K "plus" sPlus f fd) (hf : mg "plus" = some (.ref f)) : Cal P w K mg base 1 "plus" (spD K 2 Rplus) [] := by
  refine cal_of F hf (fn_dat F sc_plus rfl fun cdv A outer s H E hr => ⟨_, pss_one (ps_ret (pe_tup (pa_cons (pe_op op_add (pe_ix ix_tup (pv 0) pe_int (fun _ _ => rfl)) (pe_ix ix_tup (pv 1) pe_int (fun _ _ => rfl)))
    (pa_cons (pe_op op_add (pe_ix ix_tup (pv 0) pe_int (fun _ _ => rfl)) (pe_ix ix_tup (pv 1) pe_int (fun _ _ => rfl))) (pa_cons (pe_op op_add (pe_ix ix_tup (pv 0) pe_int (fun _ _ => rfl)) (pe_ix ix_tup (pv 1) pe_int (fun _ _ => rfl)))
    (pa_cons (pe_op op_add (pe_ix ix_tup (pv 0) pe_int (fun _ _ => rfl)) (pe_ix ix_tup (pv 1) pe_int (fun _ _ => rfl))) pa_nil)))))), fun ds d _ hR => ?_⟩) fun _ _ _ _ _ _ us hl => match us, hl with | [_, _], _ => rfl
  obtain ⟨x, y, rfl, rfl⟩ := hR
  exact b_ret (de_tup (da_cons (de_add (de_ixT (amt_at rfl) de_int rfl) (de_ixT (amt_at rfl) de_int rfl)) (da_cons (de_add (de_ixT (amt_at rfl) de_int rfl) (de_ixT (amt_at rfl) de_int rfl))
    (da_cons (de_add (de_ixT (amt_at rfl) de_int rfl) (de_ixT (amt_at rfl) de_int rfl)) (da_cons (de_add (de_ixT (amt_at rfl) de_int rfl) (de_ixT (amt_at rfl) de_int rfl)) da_nil)))) (Nat.le_of_ble_eq_true rfl))
end
end Lk
set_option maxHeartbeats 1000000
namespace Lk
open PySem PySem.Spec PyProof.Rows L2
open Evl (Ex)
open C8 (Cal pe_c Mak pe_mk)

/-! ### a list or a tuple, walked -/
def iSeq (K : PySem.W.Frag) (tl : TE) : TI := fun σ H R => iList K tl σ H R ∨ iTup K tl σ H R
theorem pi_seq {X : Cx} {tg l : Expr} {tl : TE} (hl : PE X l tl) : PI X tg l (iSeq X.K tl) :=
  ⟨fun pins s σ H R I h => h.elim (fun q => (pi_list hl).run pins s σ H R I q) fun q => (pi_tup hl).run pins s σ H R I q⟩
/-- the datum is a list or a tuple of these -/
def SeqD (d : D) (ds : List D) : Prop := d = .lst ds ∨ d = .tup ds
section
variable {K : PySem.W.Frag} {Γ Γ' Γ1 Γ2 Γw : Ctx} {ta tb te tc : TE} {tt tu : TT} {d e : D} {ds es : List D} {t u w : TS}
theorem di_seq (h : DE K te Γ d) (hs : SeqD d ds) : DI K (iSeq K te) Γ ds := fun F H σ E R r => by
  rcases hs with rfl | rfl
  · exact .inl (di_list h F H σ E R r)
  · exact .inr (di_tup (du_of h) F H σ E R r)
theorem de_lenS (h : DE K te Γ d) (hs : SeqD d ds) : DE K (tCB (Evl.rLenS K) (tCons te tNil)) Γ (.int (ds.length : Int)) := by
  rcases hs with rfl | rfl
  · exact de_lenL (dl_of h)
  · exact de_lenT (du_of h)
theorem de_tupleS (ha : DE K ta Γ d) (hs : SeqD d ds) : DE K (tCB (fun xs H Q => ∃ p ys, xs = [.ref p] ∧ ((SqL K H p ys ∧ ∀ l, H l = none → Q (.ref l) (upd H l (.tup ys))) ∨ (SqT K H p ys ∧ Q (.ref p) H))) (tCons ta tNil)) Γ (.tup ds) := by
  rcases hs with rfl | rfl
  · exact de_tupleL (dl_of ha)
  · exact de_tupleT ha

/-! ### isinstance -/
def tyN : D → String
  | .non => "NoneType"
  | .bl _ => "bool"
  | .int _ => "int"
  | .str _ => "str"
  | .tup _ => "tuple"
  | .ptup _ => "tuple"
  | .lst _ => "list"
  | .dct _ _ => "dict"
  | .net _ => "object"
theorem tyX_of {H : Hp} {v : V} (h : Is K H v d) (hn : ∀ l, d ≠ .net l) : TyX K H v (.type (tyN d)) := by
  cases h with
  | non => exact .base .non
  | bl b => exact .base (.bl b)
  | int i => exact .base (.int i)
  | str x => exact .base (.str x)
  | tup s _ =>
    rcases s with (s | ⟨o, s⟩) | ⟨o, its, n, k, c, _⟩
    · exact .base (.tup s)
    · exact .fTuple s
    · exact .kTuple k c
  | ptup s _ _ => exact .fTuple s
  | lst s _ =>
    rcases s with (s | ⟨o, s⟩) | ⟨o, its, n, k, c, _⟩
    · exact .base (.lst s)
    · exact .base (.frz s)
    · exact .kList k c
  | dct s _ _ => exact .base (.dK s)
  | net _ _ _ => exact absurd rfl (hn _)
theorem de_isi {n : String} {b : Bool} (ha : DE K ta Γ d) (hn : ∀ l, d ≠ .net l) (hb : kitB (tyN d) n = some b) : DE K (tCB (rIsi K) (tCons ta (tCons (tC (.ty n)) tNil))) Γ (.bl b) := fun F H σ E Q q =>
  ha F H σ E _ fun v H1 e1 i1 => ⟨v, .ty n, _, _, b, rfl, .ty n, tyX_of (i1.mono hid_le) hn, kit_ty hb, q _ H1 e1 (.bl b)⟩
/-- isinstance(x, (list, tuple)) -/
theorem de_isiS (ha : DE K ta Γ d) (hs : SeqD d ds) : DE K (tCB (rIsiT K) (tCons ta (tCons (tTup (tCons (tC (.ty "list")) (tCons (tC (.ty "tuple")) tNil))) tNil))) Γ (.bl true) := fun F H σ E Q q =>
  ha F H σ E _ fun v H1 e1 i1 => ⟨line_of (by show 2 ≤ 16000000; decide), fun p hp => by
    have e2 : Ex H1 (upd H1 p (.tup [.ty "list", .ty "tuple"])) := Ex.new hp
    refine ⟨v, p, [.ty "list", .ty "tuple"], .type (tyN d), [.type "list", .type "tuple"], true, rfl, upd_same, .cons (.ty _) (.cons (.ty _) .nil), tyX_of ((i1.mono hid_le).mono e2) ?_, ?_, q _ _ (e1.trans e2) (.bl true)⟩
    · rcases hs with rfl | rfl <;> exact fun l z => nomatch z
    · rcases hs with rfl | rfl
      · exact kitAny_cons (b := true) (kit_ty (show kitB "list" "list" = some true by decide +kernel)) (fun z => nomatch z) fun _ => rfl
      · exact kitAny_cons (b := false) (kit_ty (show kitB "tuple" "list" = some false by decide +kernel)) (fun _ => kitAny_cons (b := true) (kit_ty (show kitB "tuple" "tuple" = some true by decide +kernel)) (fun z => nomatch z) fun _ => rfl) (fun z => nomatch z)⟩

/-! ### constants of the module -/
theorem de_globT {a : Addr} {xs : List Int} (h : ∀ H, SqT K H a (xs.map V.int)) : DE K (tC (.ref a)) Γ (.tup (xs.map D.int)) := fun F H σ E Q q =>
  q _ H (Ex.refl H) (.tup (h _) (IsAll.ofInts xs))

/-! ### data as the library tells them -/
mutual
def py : D → PyData
  | .non => .none
  | .bl b => .bool b
  | .int i => .int i
  | .str x => .str x
  | .tup l => .tuple (pyAll l)
  | .ptup l => .tuple (pyAll l)
  | .lst l => .list (pyAll l)
  | .dct _ _ => .none
  | .net _ => .none
def pyAll : List D → List PyData
  | [] => []
  | d :: r => py d :: pyAll r
end
mutual
def pln : D → Bool
  | .non => true
  | .bl _ => true
  | .int _ => true
  | .str _ => false
  | .tup l => plnAll l
  | .ptup l => plnAll l
  | .lst l => plnAll l
  | .dct _ _ => false
  | .net _ => false
def plnAll : List D → Bool
  | [] => true
  | d :: r => pln d && plnAll r
end
mutual
theorem Is.dp {H : Hp} : ∀ {v : V} {d : D}, Is K H v d → pln d = true → Dp K H v (py d)
  | _, _, .non, _ => by unfold py; exact .non
  | _, _, .bl b, _ => by unfold py; exact .bl b
  | _, _, .int i, _ => by unfold py; exact .int i
  | _, _, .str x, _ => by unfold py; exact .str x
  | _, _, .tup h a, p => by unfold py; exact .tup h (IsAll.dp a (by unfold pln at p; exact p))
  | _, _, .ptup h _ a, p => by unfold py; exact .tup (.inl (.inr ⟨_, h⟩)) (IsAll.dp a (by unfold pln at p; exact p))
  | _, _, .lst h a, p => by unfold py; exact .lst h (IsAll.dp a (by unfold pln at p; exact p))
  | _, _, .dct _ _ _, p => by unfold pln at p; cases p
  | _, _, .net _ _ _, p => by unfold pln at p; cases p
theorem IsAll.dp {H : Hp} : ∀ {vs : List V} {ds : List D}, IsAll K H vs ds → plnAll ds = true → DpAll K H vs (pyAll ds)
  | _, _, .nil, _ => by unfold pyAll; exact .nil
  | _, _, .cons h a, p => by
    unfold plnAll at p
    obtain ⟨p1, p2⟩ := Bool.and_eq_true_iff.mp p
    unfold pyAll
    exact .cons (Is.dp h p1) (IsAll.dp a p2)
end
mutual
theorem py_lay : ∀ {d : D}, pln d = true → (py d).canLay0 = true
  | .non, _ => by unfold py PyData.canLay0; rfl
  | .bl _, _ => by unfold py PyData.canLay0; rfl
  | .int _, _ => by unfold py PyData.canLay0; rfl
  | .str _, p => by unfold pln at p; cases p
  | .tup l, p => by unfold py PyData.canLay0; exact pyAll_lay (by unfold pln at p; exact p)
  | .ptup l, p => by unfold py PyData.canLay0; exact pyAll_lay (by unfold pln at p; exact p)
  | .lst l, p => by unfold py PyData.canLay0; exact pyAll_lay (by unfold pln at p; exact p)
  | .dct _ _, p => by unfold pln at p; cases p
  | .net _, p => by unfold pln at p; cases p
theorem pyAll_lay : ∀ {l : List D}, plnAll l = true → PyData.canLayAll0 (pyAll l) = true
  | [], _ => by unfold pyAll PyData.canLayAll0; rfl
  | d :: r, p => by
    unfold plnAll at p
    obtain ⟨p1, p2⟩ := Bool.and_eq_true_iff.mp p
    unfold pyAll PyData.canLayAll0
    rw [py_lay p1, pyAll_lay p2]
    rfl
end
theorem pyAll_map {α : Type} (f : α → D) : ∀ l : List α, pyAll (l.map f) = l.map fun x => py (f x)
  | [] => by unfold pyAll; rfl
  | x :: r => by
    rw [List.map_cons, pyAll, pyAll_map f r]
    rfl
theorem plnAll_map {α : Type} {f : α → D} (h : ∀ x, pln (f x) = true) : ∀ l : List α, plnAll (l.map f) = true
  | [] => by unfold plnAll; rfl
  | x :: r => by
    rw [List.map_cons, plnAll, h x, plnAll_map h r]
    rfl
theorem depthAll_le {n : Nat} : ∀ {l : List PyData}, (∀ x ∈ l, x.depth ≤ n) → PyData.depthAll l ≤ n
  | [], _ => by unfold PyData.depthAll; exact Nat.zero_le _
  | x :: r, h => by
    unfold PyData.depthAll
    exact Nat.max_le.mpr ⟨h x (List.mem_cons_self ..), depthAll_le fun y hy => h y (List.mem_cons_of_mem _ hy)⟩
theorem shaped_of (h : pln d = true) (hd : (py d).depth ≤ 64) : SeqAt.shaped (py d) = true := by
  unfold SeqAt.shaped
  rw [py_lay h, decide_eq_true hd]
  rfl
theorem de_eqD {b : Bool} (ha : DE K ta Γ d) (hb : DE K tb Γ e) (p1 : pln d = true) (p2 : pln e = true) (d1 : (py d).depth ≤ 64) (d2 : (py e).depth ≤ 64) (hv : PyData.eqv (py d) (py e) = b) : DE K (tOp (rEqD K) ta tb) Γ (.bl b) := fun F H σ E Q q =>
  ha F H σ E _ fun v H1 e1 i1 => hb F H1 σ (E.mono e1) _ fun u H2 e2 i2 =>
    ⟨py d, py e, ((i1.mono (hid_mono e2)).mono hid_le).dp p1, (i2.mono hid_le).dp p2, shaped_of p1 d1, shaped_of p2 d2, q _ H2 (e1.trans e2) (by rw [hv]; exact .bl b)⟩
theorem de_neD {b : Bool} (ha : DE K ta Γ d) (hb : DE K tb Γ e) (p1 : pln d = true) (p2 : pln e = true) (d1 : (py d).depth ≤ 64) (d2 : (py e).depth ≤ 64) (hv : (!PyData.eqv (py d) (py e)) = b) : DE K (tOp (rNeD K) ta tb) Γ (.bl b) := fun F H σ E Q q =>
  ha F H σ E _ fun v H1 e1 i1 => hb F H1 σ (E.mono e1) _ fun u H2 e2 i2 =>
    ⟨py d, py e, ((i1.mono (hid_mono e2)).mono hid_le).dp p1, (i2.mono hid_le).dp p2, shaped_of p1 d1, shaped_of p2 d2, q _ H2 (e1.trans e2) (by rw [hv]; exact .bl b)⟩
/-- x in xs, x not in xs: data in a list -/
theorem de_notInD {b : Bool} (ha : DE K ta Γ d) (hb : DE K tb Γ (.lst es)) (p1 : pln d = true) (p2 : plnAll es = true) (d1 : (py d).depth ≤ 64) (d2 : PyData.depthAll (pyAll es) ≤ 63) (hv : (!(pyAll es).any fun z => PyData.eqv z (py d)) = b) : DE K (tOp (rNotInD K) ta tb) Γ (.bl b) := fun F H σ E Q q =>
  ha F H σ E _ fun v H1 e1 i1 => hb F H1 σ (E.mono e1) _ fun u H2 e2 i2 => by
    have p3 : pln (D.lst es) = true := by unfold pln; exact p2
    have e3 : py (.lst es) = .list (pyAll es) := by rw [py]
    have z := (i2.mono hid_le).dp p3
    rw [e3] at z
    refine ⟨py d, pyAll es, ((i1.mono (hid_mono e2)).mono hid_le).dp p1, z, shaped_of p1 d1, ?_, q _ H2 (e1.trans e2) (by rw [hv]; exact .bl b)⟩
    rw [← e3]
    refine shaped_of p3 ?_
    rw [e3]
    unfold PyData.depth
    omega

/-! ### equality of ints, tuples of ints, lists of ints -/
theorem eqv_ints : ∀ xs ys : List Int, PyData.eqvAll (xs.map PyData.int) (ys.map PyData.int) = decide (xs = ys)
  | [], [] => by rw [List.map_nil, PyData.eqvAll]; simp
  | [], y :: ys => by rw [List.map_nil, List.map_cons, PyData.eqvAll]; simp
  | x :: xs, [] => by rw [List.map_nil, List.map_cons, PyData.eqvAll]; simp
  | x :: xs, y :: ys => by
    rw [List.map_cons, List.map_cons, PyData.eqvAll, eqv_ints xs ys, PyData.eqv]
    by_cases h : x = y
    · subst h
      simp
    · simp [h]
theorem pyAll_ints (xs : List Int) : pyAll (xs.map D.int) = xs.map PyData.int := by
  rw [pyAll_map]
  exact List.map_congr_left fun x _ => by rw [py]
theorem eqv_tups (xs ys : List Int) : PyData.eqv (py (.tup (xs.map D.int))) (py (.tup (ys.map D.int))) = decide (xs = ys) := by
  rw [py, py, PyData.eqv, pyAll_ints, pyAll_ints, eqv_ints]
theorem eqv_lsts (xs ys : List Int) : PyData.eqv (py (.lst (xs.map D.int))) (py (.lst (ys.map D.int))) = decide (xs = ys) := by
  rw [py, py, PyData.eqv, pyAll_ints, pyAll_ints, eqv_ints]
theorem plnAll_ints (xs : List Int) : plnAll (xs.map D.int) = true := plnAll_map (fun _ => by unfold pln; rfl) xs
theorem pln_tupI (xs : List Int) : pln (.tup (xs.map D.int)) = true := by unfold pln; exact plnAll_ints xs
theorem pln_lstI (xs : List Int) : pln (.lst (xs.map D.int)) = true := by unfold pln; exact plnAll_ints xs
theorem depth_ints (xs : List Int) : PyData.depthAll (xs.map PyData.int) = 0 := Nat.le_zero.mp (depthAll_le fun x hx => by
  obtain ⟨i, _, rfl⟩ := List.mem_map.mp hx
  rw [PyData.depth]
  exact Nat.le_refl _)
theorem depth_tupI (xs : List Int) : (py (.tup (xs.map D.int))).depth ≤ 64 := by
  rw [py, PyData.depth, pyAll_ints, depth_ints]
  decide
theorem depth_lstI (xs : List Int) : (py (.lst (xs.map D.int))).depth ≤ 64 := by
  rw [py, PyData.depth, pyAll_ints, depth_ints]
  decide
theorem de_neTI {xs ys : List Int} (ha : DE K ta Γ (.tup (xs.map D.int))) (hb : DE K tb Γ (.tup (ys.map D.int))) : DE K (tOp (rNeD K) ta tb) Γ (.bl (!decide (xs = ys))) :=
  de_neD ha hb (pln_tupI xs) (pln_tupI ys) (depth_tupI xs) (depth_tupI ys) (by rw [eqv_tups])
theorem de_eqTI {xs ys : List Int} (ha : DE K ta Γ (.tup (xs.map D.int))) (hb : DE K tb Γ (.tup (ys.map D.int))) : DE K (tOp (rEqD K) ta tb) Γ (.bl (decide (xs = ys))) :=
  de_eqD ha hb (pln_tupI xs) (pln_tupI ys) (depth_tupI xs) (depth_tupI ys) (by rw [eqv_tups])
theorem de_neLI {xs ys : List Int} (ha : DE K ta Γ (.lst (xs.map D.int))) (hb : DE K tb Γ (.lst (ys.map D.int))) : DE K (tOp (rNeD K) ta tb) Γ (.bl (!decide (xs = ys))) :=
  de_neD ha hb (pln_lstI xs) (pln_lstI ys) (depth_lstI xs) (depth_lstI ys) (by rw [eqv_lsts])

/-! ### dicts, read and filled -/
theorem dkv_some {k : Int} {ks : List Int} {vs : List V} (h : ks.length = vs.length) : (valV (dkv ks vs) (Sum.inl k)).isSome = decide (k ∈ ks) := by
  by_cases hm : k ∈ ks
  · rw [decide_eq_true hm, ← valV_any, List.any_eq_true]
    obtain ⟨i, hi, e⟩ := List.getElem_of_mem hm
    have hv : i < vs.length := by omega
    refine ⟨(Sum.inl k, vs[i]), ?_, decide_eq_true rfl⟩
    refine List.mem_of_getElem? (i := i) ?_
    unfold dkv
    rw [show ((ks.map (Sum.inl : Int → Key)).zip vs)[i]? = some (Sum.inl k, vs[i]) from List.getElem?_zip_eq_some.mpr ⟨by rw [List.getElem?_map, List.getElem?_eq_getElem hi, e]; rfl, List.getElem?_eq_getElem hv⟩]
  · rw [dkv_any h hm, decide_eq_false hm]
    rfl
theorem de_dget {ks : List Int} {k : Int} {i : Nat} (ha : DE K ta Γ (.dct ks ds)) (hb : DE K tb Γ (.int k)) (nd : ks.Nodup) (hk : ks[i]? = some k) (hd : ds[i]? = some d) : DE K (tDGet ta tb) Γ d := fun F H σ E Q q =>
  ha F H σ E _ fun v H1 e1 i1 => hb F H1 σ (E.mono e1) _ fun u H2 e2 i2 => by
    have i1 := i1.mono (hid_mono e2)
    cases i1 with
    | @dct a _ vs _ h1 h2 h3 =>
      cases i2
      obtain ⟨x, hx, ix⟩ := h3.get hd
      refine ⟨a, x, rfl, ?_, q x H2 (e1.trans e2) ix⟩
      have z := DGet.k (k := Sum.inl k) (hid_le a _ h1)
      rw [dkv_get nd hk hx] at z
      exact z
theorem dic_at {F : Fx} {H : Hp} {σ : L2.St} {i : Nat} {p : Addr} {ks : List Int} (E : Env K F H σ Γ) (h : Γ[i]? = some (.dic p ks ds)) : σ[i]? = some (some (.ref p)) ∧ ∃ xs, H p = some (.dK (dkv ks xs)) ∧ ks.length = xs.length ∧ IsAll K (hid (hotOf F Γ) H) xs ds := by
  obtain ⟨v, h1, rfl, h2⟩ := E.ent i _ h
  exact ⟨h1, h2⟩
theorem de_dnotinO {i : Nat} {p : Addr} {ks : List Int} {k : Int} (h : Γ[i]? = some (.dic p ks ds)) (ha : DE K ta Γ (.int k)) : DE K (tDNotIn ta (tVar i)) Γ (.bl (!decide (k ∈ ks))) := fun F H σ E Q q =>
  ha F H σ E _ fun v H1 e1 i1 => by
    cases i1
    obtain ⟨h1, xs, h2, h3, _⟩ := dic_at (E.mono e1) h
    refine ⟨.ref p, h1, p, _, rfl, DGet.k (k := Sum.inl k) h2, q _ H1 e1 ?_⟩
    rw [dkv_some h3]
    exact .bl _
theorem de_dlenO {i : Nat} {p : Addr} {ks : List Int} {r : List V → Hp → VK → Prop} (h : Γ[i]? = some (.dic p ks ds)) (hr : ∀ (H : Hp) (kvs : List (Key × V)) (Q : VK), H p = some (.dK kvs) → Q (.int (kvs.length : Int)) H → r [.ref p] H Q) : DE K (tCB r (tCons (tVar i) tNil)) Γ (.int (ks.length : Int)) := fun F H σ E Q q => by
  obtain ⟨h1, xs, h2, h3, _⟩ := dic_at E h
  refine ⟨.ref p, h1, hr H _ Q h2 (q _ H (Ex.refl H) ?_)⟩
  rw [dkv_length h3]
  exact .int _
theorem s_dputO {i : Nat} {p : Addr} {ks : List Int} {k : Int} (h : Γ[i]? = some (.dic p ks ds)) (hv : DE K te Γ d) (hk : DE K tb Γ (.int k)) (hn : k ∉ ks) (hl : ks.length < 16000000) : St K (sDPut (tVar i) tb te) Γ (Γ.set i (.dic p (ks ++ [k]) (ds ++ [d]))) := fun F H σ Z E q =>
  hv F H σ E _ fun v H1 e1 i1 => by
    refine ⟨.ref p, (dic_at (E.mono e1) h).1, hk F H1 σ (E.mono e1) _ fun u H2 e2 i2 => ?_⟩
    cases i2
    obtain ⟨h1, xs, h2, h3, h4⟩ := dic_at ((E.mono e1).mono e2) h
    refine ⟨p, _, rfl, DPut.k (k := Sum.inl k) h2 (by rw [dkv_length h3]; exact line_lt hl), q σ _ ?_⟩
    refine ((E.mono e1).mono e2).updO (e' := .dic p (ks ++ [k]) (ds ++ [d])) h rfl rfl ⟨rfl, xs ++ [v], ?_, by rw [List.length_append, List.length_append, h3] <;> rfl, h4.append (.cons (i1.mono (hid_mono e2)) .nil)⟩
    rw [upd_same, dkv_put h3 hn]
end
end Lk
set_option maxHeartbeats 1000000
namespace Lk
open PySem PySem.Spec PyProof.Rows L2
open Evl (Ex)
open C8 (Cal pe_c Mak pe_mk)

theorem any_nz : ∀ ns : List Int, (List.range ns.length).any (fun i => ns.getD i 0 != 0) = ns.any (· != 0)
  | [] => rfl
  | n :: r => by
    rw [List.length_cons, List.range_succ_eq_map, List.any_cons, List.any_map, List.any_cons, ← any_nz r] <;> rfl
section
variable {X : Cx}
/-- any(t), t a tuple of ints -/
def rAnyU (K : PySem.W.Frag) : List V → Hp → VK → Prop := fun vs H Q => ∃ (a : Addr) (ns : List Int), vs = [V.ref a] ∧ SqT K H a (ns.map V.int) ∧ Q (.bl (ns.any (· != 0))) H
theorem cr_anyU (hcalm : X.calm = true) : CallR X (.builtin "any") (rAnyU X.K) := by
  intro pins s σ H vs us Q J rr hh
  obtain ⟨a, ns, rfl, ht, k⟩ := hh
  obtain ⟨vals, rvals, tu, _⟩ := J.tuple ht
  have lt : a < s.heap.objs.size := tu.lt
  have ii := rvals.ints
  rw [Vals.ref1 rr]
  refine call_any_walk (wpAny_pyIter_tuple (show s.heap.IsTuple a vals.toArray from tu) ?_)
  have st0 : (s.heap.push { cls := .type "tuple_iterator", data := .fields #[.ref a, .int 0 0] }).IsTupleIter s.heap.objs.size a 0 := ⟨_, Heap.get?_push_size _ rfl, rfl, rfl⟩
  have st1 : (s.heap.push { cls := .type "tuple_iterator", data := .fields #[.ref a, .int 0 0] }).IsTuple a vals.toArray := by
    obtain ⟨o, ho, r⟩ := tu
    exact ⟨o, Heap.get?_push_of_some _ ho, r⟩
  refine ⟨_, _, _, _, _, _, fun i => ns.getD i 0 != 0, rfl, Walks.tuple (A := X.A.in1) (J.ok.hd hcalm) _ a (Nat.ne_of_lt lt) vals.toArray, ⟨st0, st1⟩, fun i v s2 Q2 E2 hv hq => ?_, fun h2 tk hk => ?_⟩
  · have hv2 : vals[i]? = some v := by simpa using hv
    obtain ⟨x, hx, hr⟩ : ∃ x, ns[i]? = some x ∧ ∃ t, v = .int x t := by
      have hl := rvals.length
      rw [List.length_map] at hl
      have hi : i < ns.length := by
        have := (List.getElem?_eq_some_iff.mp hv2).1
        omega
      obtain ⟨u, h1, h2⟩ := rvals.get (i := i) (x := .int ns[i]) (by rw [List.getElem?_map, List.getElem?_eq_getElem hi]; rfl)
      rw [hv2] at h1
      obtain ⟨t, e⟩ := h2
      exact ⟨ns[i], List.getElem?_eq_getElem hi, t, (Option.some.inj h1).trans e⟩
    obtain ⟨t, rfl⟩ := hr
    refine PySem.P.truthy_int ?_
    have e1 : ns.getD i 0 = x := by rw [List.getD_eq_getElem?_getD, hx] <;> rfl
    have e2 : (x != 0) = (ns.getD i 0 != 0) := by rw [e1]
    rw [e2]
    exact hq
  · refine ⟨.bl _, H, J.kept fun b o eo => hk b o (fun hm => ?_) (Heap.get?_push_of_some _ eo), ?_, k⟩
    · have := List.mem_singleton.mp hm
      rw [this] at eo
      exact absurd (Heap.lt_size eo) (Nat.lt_irrefl _)
    · show Value.bool _ = Value.bool _
      rw [← any_nz, List.size_toArray, ← rvals.length, List.length_map]
/-- sorted(t), t a tuple of ints -/
def rSortedU (K : PySem.W.Frag) : List V → Hp → VK → Prop := fun vs H Q => ∃ (a : Addr) (ns : List Int), vs = [V.ref a] ∧ SqT K H a (ns.map V.int) ∧ ns.length < 64 ∧
  ∀ (ms : List Int) (p : Addr), ms.Perm ns → ms.Pairwise (· ≤ ·) → H p = none → Q (.ref p) (upd H p (.lst (ms.map V.int)))
theorem cr_sortedU : CallR X (.builtin "sorted") (rSortedU X.K) := by
  intro pins s σ H vs us Q J rr hh
  obtain ⟨a, ns, rfl, ht, l64, k⟩ := hh
  obtain ⟨vals, rvals, tu, _⟩ := J.tuple ht
  have ii := rvals.ints
  have lv : vals.length < 64 := by rw [ii.length]; exact l64
  rw [Vals.ref1 rr]
  obtain ⟨o, ho, hcl, n, hda⟩ := tu
  refine Calls.call_function_entry kind_sorted plain_sorted entry_sorted (args_sorted1 _) ?_
  unfold Builtin.«sorted»
  refine wpAny_bind (m := checkCount "sorted" 1 1 _) (wpAny_pure (wpAny_bind (wpAny_collect_seq a (.inr rfl) ho hcl hda (fun h1 k1 => ?_) ?_)))
  · have e0 : vals.toArray.toList = vals := by simp
    rw [e0]
    refine wpAny_bind (wpAny_newList ?_)
    have hL : (h1.push (seqObj "list" vals.toArray 0)).get? h1.objs.size = some (seqObj "list" vals.toArray 0) := Heap.get?_push_size _ rfl
    have J1 : Inv X pins σ H { s with heap := h1 } := J.kept (t' := s.toks) k1
    refine wpAny_bind (wpAny_holding (wpAny_call_entry slot_list_sort ⟨_, hL, rfl⟩ entry_list_sort (list_sort_tree (s := { s with heap := h1.push (seqObj "list" vals.toArray 0) }) hL ii lv fun out ms a1 a2 a3 => ⟨_, rfl, ?_⟩) (args_list_sort _)))
    obtain ⟨ep, hat⟩ := sortedHeap_at (out := out) hL
    have hold : ∀ b u, h1.get? b = some u → (sortedHeap (h1.push (seqObj "list" vals.toArray 0)) h1.objs.size vals out).get? b = some u := fun b u e => by
      have lb := Heap.lt_size e
      rw [sortedHeap_old (Nat.ne_of_lt lb) (by rw [PyProof.Rows.size_push']; exact Nat.lt_succ_of_lt lb)]
      exact Heap.get?_push_of_some _ e
    have hlen : (ms.map V.int).length ≤ sizeLine := by rw [List.length_map, a2.length_eq]; exact small64 l64
    exact wpAny_pure ⟨_, rfl, .ref h1.objs.size, upd H h1.objs.size (.lst (ms.map V.int)), J1.laid (t' := s.toks) hold (Nat.le_refl _) ⟨hlen, out.toList, ep, vals_of_ints a1, hat⟩, rfl, k ms _ a2 a3 (J1.hok.fresh (Nat.le_refl _))⟩
  · rw [List.size_toArray]
    exact Nat.le_of_lt (Nat.lt_of_lt_of_le lv (by rw [sizeLine_eq]; decide))
end
end Lk
set_option maxHeartbeats 1000000
namespace Lk
open PySem PySem.Spec PyProof.Rows L2
open Evl (Ex)
open C8 (Cal pe_c Mak pe_mk)

section
variable {X : Cx} {a : Expr} {ta : TE} {p p2 q pos : Pos}
/-- len(set(x)), x distinct ints in a list or a tuple -/
def tLenSet (K : PySem.W.Frag) (ta : TE) : TE := fun σ H Q => ta σ H fun x H1 => ∃ (l : Addr) (ns : List Int), x = V.ref l ∧ (SqL K H1 l (ns.map V.int) ∨ SqT K H1 l (ns.map V.int)) ∧ ns.length < 64 ∧ ns.Nodup ∧ Q (.int ns.length) H1
theorem pe_lenSet (hcalm : X.calm = true) (g1 : Gl X "len") (m1 : X.mg "len" = none) (g2 : Gl X "set") (m2 : X.mg "set" = none) (he : PE X a ta)
    (na : starEach [a] X.env = (false, eval a X.env) :: starEach [] X.env := by rfl) : PE X (.Call (.Name "len" p) [.Call (.Name "set" p2) [a] [] q] [] pos) (tLenSet X.K ta) := by
  refine ⟨fun pins s σ H Q J hw => Call_ (ld_blt J g1 m1 PySem.boot_len (PyProof.Rows.callWith_builtin1 (PyProof.Rows.args_cons (Call_ (ld_blt J g2 m2 PyProof.Rows.boot_set ?_)) rfl) rfl rfl))⟩
  refine PyProof.Rows.callWith_type1 (PyProof.Rows.args_cons (thn (he.run pins s σ H _ J hw) fun v s1 hv => PyProof.Rows.args_nil ?_) na) na rfl
  obtain ⟨x, H1, J1, r1, l, ns, rfl, hq, h64, hnd, k⟩ := hv
  cases r1
  rcases hq with hq | hq
  · obtain ⟨vals, rv, pl, _⟩ := J1.list hq
    have hl : vals.toArray.size = ns.length := by rw [List.size_toArray, ← rv.length, List.length_map]
    refine call_set_list (J1.ok.hd hcalm) pl.isList (ns := ns) (by simpa using rv.ints) (by unfold scanBound; omega) fun h2 tk hS hk => PyProof.Rows.args_nil ?_
    rw [hl, L2.firstMet_nodup ns hnd ns.length (Nat.le_refl _), List.take_length] at hS
    obtain ⟨o, es, ep, t, ho, hex, hd, _, _, _, hf, hn⟩ := hS
    have J2 : Inv X pins σ H1 { s1 with heap := h2, toks := tk } := J1.kept fun b o e => hk b o (Heap.lt_size e) e
    exact call_len_set ho hex hd hf (by rw [hn]; omega) ⟨.int ns.length, H1, J2.tok _, ⟨_, by rw [hn]⟩, k⟩
  · obtain ⟨vals, rv, tu, _⟩ := J1.tuple hq
    refine call_set_tupI ns (J1.ok.hd hcalm) (show s1.heap.IsTuple l vals.toArray from tu) (by simpa using rv.ints) (by unfold scanBound; omega) fun h2 tk c hS hc hk => PyProof.Rows.args_nil ?_
    obtain ⟨o, es, ep, t, ho, hex, hd, _, hnd2, hm, _, hf, hn, _⟩ := hS
    have hpm : (es.toList.map keyOf).Perm ns := (List.perm_ext_iff_of_nodup hnd2 hnd).mpr fun j => by
      rw [← hm j, decide_eq_true_eq]
    have hlen : es.size = ns.length := by
      have := hpm.length_eq
      rw [List.length_map, Array.length_toList] at this
      exact this
    have J2 : Inv X pins σ H1 { s1 with heap := h2, toks := tk } := J1.kept hk
    exact call_len_set ho hex hd hf (by rw [hlen]; omega) ⟨.int ns.length, H1, J2.tok _, ⟨_, by rw [hlen]⟩, k⟩
/-- len(set(x)), x a list of distinct tuples of ints -/
def tLenSetP (K : PySem.W.Frag) (ta : TE) : TE := fun σ H Q => ta σ H fun x H1 => ∃ (l : Addr) (ks : List (Addr × List Int)), x = V.ref l ∧ SqL K H1 l (ks.map fun p => V.ref p.1) ∧ (∀ p ∈ ks, SqT K H1 p.1 (p.2.map V.int)) ∧ ks.length < 64 ∧ (ks.map (·.2)).Nodup ∧ Q (.int ks.length) H1
theorem pe_lenSetP (hcalm : X.calm = true) (hu : X.A.units + 64 < cLine) (g1 : Gl X "len") (m1 : X.mg "len" = none) (g2 : Gl X "set") (m2 : X.mg "set" = none) (he : PE X a ta)
    (na : starEach [a] X.env = (false, eval a X.env) :: starEach [] X.env := by rfl) : PE X (.Call (.Name "len" p) [.Call (.Name "set" p2) [a] [] q] [] pos) (tLenSetP X.K ta) := by
  refine ⟨fun pins s σ H Q J hw => Call_ (ld_blt J g1 m1 PySem.boot_len (PyProof.Rows.callWith_builtin1 (PyProof.Rows.args_cons (Call_ (ld_blt J g2 m2 PyProof.Rows.boot_set ?_)) rfl) rfl rfl))⟩
  refine PyProof.Rows.callWith_type1 (PyProof.Rows.args_cons (thn (he.run pins s σ H _ J hw) fun v s1 hv => PyProof.Rows.args_nil ?_) na) na rfl
  obtain ⟨x, H1, J1, r1, l, ks, rfl, hq, hk, h64, hnd, k⟩ := hv
  cases r1
  obtain ⟨vals, rv, pl, _⟩ := J1.list hq
  refine call_set_tups (P := X.prog) (w := X.w) ks (J1.ok.hd hcalm) pl.isList (by simpa using refs_of_vals rv) (fun z hz => J1.isT (hk z hz)) h64 (by omega) fun h2 tk L es ep t R g kp => PyProof.Rows.args_nil ?_
  have hpm : (L.map (·.2)).Perm (ks.map (·.2)) := (List.perm_ext_iff_of_nodup R.nd hnd).mpr fun j => by
    constructor
    · intro hj
      obtain ⟨z, hz, rfl⟩ := List.mem_map.mp hj
      exact List.mem_map.mpr ⟨z, List.mem_of_mem_take (g.sub z hz), rfl⟩
    · intro hj
      obtain ⟨z, hz, rfl⟩ := List.mem_map.mp hj
      exact g.all z (by rw [List.take_length]; exact hz)
  have hlen : es.size = ks.length := by
    have h1 := SetTR.size (s := { s1 with heap := h2, toks := tk }) R
    have h3 := hpm.length_eq
    rw [List.length_map, List.length_map] at h3
    omega
  obtain ⟨o, ho, hex, hd⟩ := R.ob
  have J2 : Inv X pins σ H1 { s1 with heap := h2, toks := tk } := J1.kept kp
  exact call_len_set ho hex hd (SetTR.fits (s := { s1 with heap := h2, toks := tk }) R) (by rw [hlen]; omega) ⟨.int ks.length, H1, J2.tok _, ⟨_, by rw [hlen]⟩, k⟩
/-- tuple(x) of a list, the new tuple known to its object -/
def rTupF (K : PySem.W.Frag) : List V → Hp → VK → Prop := fun xs H Q => ∃ (l : Addr) (ys : List V), xs = [V.ref l] ∧ SqL K H l ys ∧ ∀ (b : Addr) (o : Obj), H b = none → o.dict = none → Q (.ref b) (upd H b (.frz o (.tup ys)))
theorem call_tupF : CallR X (.type "tuple") (rTupF X.K) := by
  intro pins s σ H xs us Q J rr hh
  obtain ⟨l, ys, rfl, hq, k⟩ := hh
  rw [Vals.ref1 rr]
  obtain ⟨vals, rv, pl, hz⟩ := J.list hq
  refine call_tuple_list pl.isList (fun h1 k1 => ?_) (by rw [List.size_toArray, ← rv.length]; exact hz)
  have J1 : Inv X pins σ H { s with heap := h1 } := J.kept (t' := s.toks) k1
  have e1 : (h1.push { cls := .type "tuple", data := .seq vals.toArray }).get? h1.objs.size = some { cls := .type "tuple", data := .seq vals.toArray } := Heap.get?_push_size _ rfl
  have new : ObjOk X.prog X.w (upd H h1.objs.size (.frz { cls := .type "tuple", data := .seq vals.toArray } (.tup ys))) (h1.push { cls := .type "tuple", data := .seq vals.toArray }) h1.objs.size (.frz { cls := .type "tuple", data := .seq vals.toArray } (.tup ys)) :=
    ⟨e1, hz, vals, rv, IsTup.new _ _⟩
  exact ⟨.ref h1.objs.size, _, J1.laid (t' := s.toks) (fun b o e => Heap.get?_push_of_some _ e) (Nat.le_refl _) new, rfl, k _ _ (J1.hok.fresh (Nat.le_refl _)) rfl⟩
/-- dict(t), t a tuple of pairs that is known to its object -/
def rDictF (K : PySem.W.Frag) : List V → Hp → VK → Prop := fun xs H Q => ∃ (l : Addr) (o : Obj) (ps : List Addr) (kvs : List (Key × V)), xs = [V.ref l] ∧ H l = some (.frz o (.tup (ps.map V.ref))) ∧ o.dict = none ∧ Paired (fun p kv => SqT K H p [kV kv.1, kv.2]) ps kvs ∧
  ∀ b, H b = none → Q (.ref b) (upd H b (.dK (mergeK [] kvs)))
theorem raw_pairs {pins : List (Addr × Obj)} {σ : L2.St} {H : Hp} {s : Shared} (J : Inv X pins σ H s) : ∀ {ps : List Addr} {kvs : List (Key × V)}, Paired (fun p kv => SqT X.K H p [kV kv.1, kv.2]) ps kvs →
    ∃ (prs : List (Key × Value)) (uvs : List (Value × Value)), KV kvs prs ∧ prs.length = ps.length ∧ uvs.length = ps.length ∧ ∀ (j : Nat) (b : Addr), ps[j]? = some b → ∃ k u v, prs[j]? = some (k, v) ∧ uvs[j]? = some (u, v) ∧ IsTup s.heap b #[u, v] ∧ keyIs k u = true
  | _, _, .nil => ⟨[], [], .nil, rfl, rfl, fun j b e => by simp at e⟩
  | _, _, .cons (a := p) (b := kv) h t => by
    obtain ⟨prs, uvs, r, l1, l2, hp⟩ := raw_pairs J t
    obtain ⟨vals, rv, tu, _⟩ := J.tuple h
    obtain ⟨u, y, ei, ru, ry⟩ := vals2 rv
    subst ei
    refine ⟨(kv.1, y) :: prs, (u, y) :: uvs, .cons ⟨rfl, ry⟩ r, by rw [List.length_cons, List.length_cons, l1], by rw [List.length_cons, List.length_cons, l2], fun j b e => ?_⟩
    cases j with
    | zero =>
      have e2 : p = b := Option.some.inj e
      subst e2
      exact ⟨kv.1, u, y, rfl, rfl, tu, kV_is (P := X.prog) (w := X.w) ru⟩
    | succ j =>
      obtain ⟨k, u2, v2, f1, f2, f3⟩ := hp j b (by simpa using e)
      exact ⟨k, u2, v2, by simpa using f1, by simpa using f2, f3⟩
theorem call_dictF (hcalm : X.calm = true) : CallR X (.type "dict") (rDictF X.K) := by
  intro pins s σ H xs us Q J rr hh
  obtain ⟨l, o, ps, kvs, rfl, hl, hd, hp, k⟩ := hh
  rw [Vals.ref1 rr]
  obtain ⟨ho, hz, vals, rv, ob, ho2, hcl, n, hda⟩ := (show ObjOk X.prog X.w H s.heap l (.frz o (.tup (ps.map V.ref))) from J.hok l _ hl)
  rw [ho] at ho2
  cases ho2
  have ei := refs_at rv
  subst ei
  rw [List.length_map] at hz
  obtain ⟨prs, uvs, rel, l1, l2, hpr⟩ := raw_pairs J hp
  have P := PairArg.tuple (prog := X.prog) (w := X.w) l (ps.map Value.ref).toArray (fun j => ps.getD j 0) uvs
  have gD : ∀ {j : Nat} {b : Addr}, ps[j]? = some b → ps.getD j 0 = b := fun e => by rw [List.getD_eq_getElem?_getD, e]; rfl
  have at_ : ∀ (j : Nat) (q : Value × Value), uvs[j]? = some q → ∃ b k, ps[j]? = some b ∧ prs[j]? = some (k, q.2) ∧ IsTup s.heap b #[q.1, q.2] ∧ keyIs k q.1 = true := fun j q e => by
    have hj : j < ps.length := by
      have := (List.getElem?_eq_some_iff.mp e).1
      omega
    obtain ⟨k, u, v, f1, f2, f3, f4⟩ := hpr j ps[j] (List.getElem?_eq_getElem hj)
    rw [e] at f2
    cases f2
    exact ⟨ps[j], k, List.getElem?_eq_getElem hj, f1, f3, f4⟩
  refine PySem.call_dict_pairs (knd := mixKind X.prog X.w) (kvs := prs) P (J.ok.hd hcalm) ⟨⟨o, n, ho, hcl, hd, hda⟩, by rw [List.size_toArray, List.length_map, l2], fun j u v e => ?_⟩ ⟨by rw [l1, l2], fun i u v e => ?_⟩ (by rw [l2]; exact hz) fun h2 tk hdo hk => ?_
  · obtain ⟨b, kk, f1, _, f3, _⟩ := at_ j (u, v) e
    have e9 : (fun j => ps.getD j 0) j = b := gD f1
    rw [e9]
    exact ⟨by simp [f1], .inl f3⟩
  · obtain ⟨b, kk, _, f2, _, f4⟩ := at_ i (u, v) e
    exact ⟨kk, f2, f4⟩
  · have hm : (s.heap.objs.size == sysModules) = false := beq_eq_false_iff_ne.mpr (Nat.ne_of_gt J.big)
    have hlen : (mergeK [] kvs).length ≤ sizeLine := Nat.le_trans (length_mergeK kvs []) (by rw [List.length_nil, Nat.zero_add, rel.length, l1]; exact hz)
    exact ⟨.ref s.heap.objs.size, _, J.laid (t' := tk) (fun b ob e => hk b ob List.not_mem_nil e) (Nat.le_refl _) (show ObjOk X.prog X.w _ _ _ (.dK (mergeK [] kvs)) from ⟨hlen, hm, merged [] prs, KV.merge rel .nil, hdo⟩), rfl, k _ (J.hok.fresh (Nat.le_refl _))⟩
end
end Lk
set_option maxHeartbeats 1000000
namespace Lk
open PySem PySem.Spec PyProof.Rows L2
open Evl (Ex)
open C8 (Cal pe_c Mak pe_mk)
section
variable {K : PySem.W.Frag} {mg : Str → Option Value}
theorem Bs.g_c_turns (b : Bs K mg) : ∃ u, mg "TURNS" = some u ∧ RelV (.int 8) u := b.c_turns.elim fun t h => ⟨_, h, t, rfl⟩
theorem Bs.g_c_places (b : Bs K mg) : ∃ u, mg "MOST_PLACES" = some u ∧ RelV (.int 12) u := b.c_places.elim fun t h => ⟨_, h, t, rfl⟩
theorem Bs.g_c_things (b : Bs K mg) : ∃ u, mg "MOST_THINGS_nets" = some u ∧ RelV (.int 120) u := b.c_things.elim fun t h => ⟨_, h, t, rfl⟩
theorem Bs.g_c_looks (b : Bs K mg) : ∃ u, mg "MOST_THINGS_looks" = some u ∧ RelV (.int 12) u := b.c_looks.elim fun t h => ⟨_, h, t, rfl⟩
abbrev rTupS (K : PySem.W.Frag) : List V → Hp → VK → Prop := fun xs H Q => ∃ p ys, xs = [.ref p] ∧ ((SqL K H p ys ∧ ∀ l, H l = none → Q (.ref l) (upd H l (.tup ys))) ∨ (SqT K H p ys ∧ Q (.ref p) H))
theorem room_u {k : Nat} {A : Around} (r : Room k A) : A.units + 64 < cLine := by have := r.un; omega
theorem room_u1 {k : Nat} {A : Around} (r : Room k A) : A.units + 1 < cLine := by have := r.un; omega
theorem room_u2 {k : Nat} {A : Around} (r : Room k A) : A.units + 65 < cLine := by have := r.un; omega
end
section
variable {K : PySem.W.Frag} {Γ Γ' Γ1 Γ2 Γw : Ctx} {ta tb te tc : TE} {tt tu : TT} {d e : D} {ds es : List D} {t u w : TS}
theorem de_le {i j : Int} (ha : DE K ta Γ (.int i)) (hb : DE K tb Γ (.int j)) : DE K (tOp (rI0 fun i j => .bl (decide (i ≤ j))) ta tb) Γ (.bl (decide (i ≤ j))) := de_opI0 ha hb fun _ => .bl _
theorem de_lt {i j : Int} (ha : DE K ta Γ (.int i)) (hb : DE K tb Γ (.int j)) : DE K (tOp (rI0 fun i j => .bl (decide (i < j))) ta tb) Γ (.bl (decide (i < j))) := de_opI0 ha hb fun _ => .bl _
theorem de_ge {i j : Int} (ha : DE K ta Γ (.int i)) (hb : DE K tb Γ (.int j)) : DE K (tOp (rI0 fun i j => .bl (decide (j ≤ i))) ta tb) Γ (.bl (decide (j ≤ i))) := de_opI0 ha hb fun _ => .bl _
theorem de_gt {i j : Int} (ha : DE K ta Γ (.int i)) (hb : DE K tb Γ (.int j)) : DE K (tOp (rI0 fun i j => .bl (decide (j < i))) ta tb) Γ (.bl (decide (j < i))) := de_opI0 ha hb fun _ => .bl _
theorem b_retE (h : DE K te Γ e) (q : e = d) : Blk K (tRet te) Γ d := b_ret (h.to q)
end
def optD : Option Int → D
  | none => .non
  | some i => .int i
def Risint : List D → D → Prop := fun ds d => ∃ i : Int, ds = [.int i] ∧ d = .bl true
def Rwithin : List D → D → Prop := fun ds d => ∃ (i : Int) (lo hi : Option Int), ds = [.int i, optD lo, optD hi] ∧ (∀ l, lo = some l → l ≤ i) ∧ (∀ l, hi = some l → i ≤ l) ∧ d = .bl true
def Rbit : List D → D → Prop := fun ds d => ∃ i : Int, ds = [.int i] ∧ 0 ≤ i ∧ i ≤ 1 ∧ d = .bl true
def Rturn : List D → D → Prop := fun ds d => ∃ i : Int, ds = [.int i] ∧ 0 ≤ i ∧ i ≤ 7 ∧ d = .bl true
section
variable {P : Program} {w : World} {K : PySem.W.Frag} {mg : Str → Option Value} {base : Heap} {f : Addr} {fd : FuncData}
local macro_rules | `(tactic| walk_at "d") => `(tactic| repeat' first
  | exact de_int | exact de_bl | exact de_non | exact de_str | exact de_var rfl
  | refine de_ixT (du_of ?_) ?_ rfl | refine de_ixL (dl_of ?_) ?_ rfl
  | refine de_add ?_ ?_ | refine de_sub ?_ ?_ | refine de_neg ?_ | refine de_mul ?_ ?_ ?_
  | refine de_le ?_ ?_ | refine de_lt ?_ ?_ | refine de_ge ?_ ?_ | refine de_gt ?_ ?_
  | refine de_eqI ?_ ?_ | refine de_neI ?_ ?_ | refine de_not ?_ | refine dt_not ?_ | refine dt_B ?_ | refine dt_test ?_
  | exact da_nil | refine da_cons ?_ ?_)
abbrev N_is_integer : List Str := ["value"]
theorem sc_is_integer : FnScope N_is_integer ["value"] (defScope (top 13)) := ⟨rfl, rfl, rfl, by decide +kernel, rfl, by decide +kernel, by decide +kernel⟩
theorem c_is_integer (F : FnP K "is_integer" (top 13) f fd) (hf : mg "is_integer" = some (.ref f)) (b : Bs K mg) : Cal P w K mg base 1 "is_integer" (spD K 1 Risint) [] := by
  refine cal_of F hf (fn_dat F sc_is_integer rfl fun cdv A outer s H E hr => ?_) fun _ _ _ _ _ _ us hl => match us, hl with | [_], _ => rfl
  have hu := room_u hr; have hu1 := room_u1 hr; have hu2 := room_u2 hr; have nd := (sc_is_integer).nd
  refine ⟨_, (pss_one (ps_ret (pe_and (pe_callB call_isi rfl b.b_isinstance PyProof.Rows.boot_isinstance (pa_cons (pv 0) (pa_cons (pe_bltn (v := .ty "int") rfl b.b_int PyProof.Rows.boot_int rfl) pa_nil))) (pe_one (pe_not (pe_callB call_isi rfl b.b_isinstance PyProof.Rows.boot_isinstance (pa_cons (pv 0) (pa_cons (pe_bltn (v := .ty "bool") rfl b.b_bool PyProof.Rows.boot_bool rfl) pa_nil)))))))), fun ds d _ hR => ?_⟩

  obtain ⟨i, rfl, rfl⟩ := hR
  exact b_ret (de_and (a := true) (b := true) (de_isi (de_var rfl) (fun _ z => nomatch z) (show kitB "int" "int" = some true by decide +kernel)) fun _ => de_not (a := false) (de_isi (de_var rfl) (fun _ z => nomatch z) (show kitB "int" "bool" = some false by decide +kernel)))
abbrev N_is_within : List Str := ["value", "least", "most"]
theorem sc_is_within : FnScope N_is_within ["value", "least", "most"] (defScope (top 14)) := ⟨rfl, rfl, rfl, by decide +kernel, rfl, by decide +kernel, by decide +kernel⟩
theorem c_is_within (F : FnP K "is_within" (top 14) f fd) (hf : mg "is_within" = some (.ref f)) (b : Bs K mg) (q_is_integer : Cal P w K mg base 1 "is_integer" (spD K 1 Risint) []) : Cal P w K mg base 2 "is_within" (spD K 3 Rwithin) [] := by
  refine cal_of F hf (fn_dat F sc_is_within rfl fun cdv A outer s H E hr => ?_) fun _ _ _ _ _ _ us hl => match us, hl with | [_, _, _], _ => rfl
  have hu := room_u hr; have hu1 := room_u1 hr; have hu2 := room_u2 hr; have nd := (sc_is_within).nd
  refine ⟨_, (pss_cons (ps_if (pt_not (pt_val (pe_c q_is_integer hr (by decide) rfl (pa_cons (pv 0) pa_nil)))) (pss_one (ps_ret pe_bl)) pss_nil) (pss_one (ps_ret (pe_and (pe_or (pe_cmpR op_isN (pv 1) pe_non (nomark _)) (pe_one (pe_cmpR op_le (pv 1) (pv 0) (nomark _)))) (pe_one (pe_or (pe_cmpR op_isN (pv 2) pe_non (nomark _)) (pe_one (pe_cmpR op_le (pv 0) (pv 2) (nomark _))))))))), fun ds d _ hR => ?_⟩

  obtain ⟨i, lo, hi, rfl, h1, h2, rfl⟩ := hR
  refine b_pass (dt_not (a := true) (dt_B (de_call (da_cons (de_var rfl) da_nil) rfl ⟨i, rfl, rfl⟩))) (b_ret ?_)
  refine de_and (a := true) (b := true) ?_ fun _ => ?_
  · cases lo with
    | none => exact de_or (a := true) (b := true) (de_isN (de_var rfl) isN_non) fun z => nomatch z
    | some l => exact de_or (a := false) (b := true) (de_isN (de_var rfl) isN_int) fun _ => (de_le (de_var rfl) (de_var rfl)).to (by rw [decide_eq_true (h1 l rfl)])
  · cases hi with
    | none => exact de_or (a := true) (b := true) (de_isN (de_var rfl) isN_non) fun z => nomatch z
    | some l => exact de_or (a := false) (b := true) (de_isN (de_var rfl) isN_int) fun _ => (de_le (de_var rfl) (de_var rfl)).to (by rw [decide_eq_true (h2 l rfl)])
abbrev N_is_bit : List Str := ["value"]
theorem sc_is_bit : FnScope N_is_bit ["value"] (defScope (top 15)) := ⟨rfl, rfl, rfl, by decide +kernel, rfl, by decide +kernel, by decide +kernel⟩
theorem c_is_bit (F : FnP K "is_bit" (top 15) f fd) (hf : mg "is_bit" = some (.ref f)) (b : Bs K mg) (q_is_within : Cal P w K mg base 2 "is_within" (spD K 3 Rwithin) []) : Cal P w K mg base 3 "is_bit" (spD K 1 Rbit) [] := by
  refine cal_of F hf (fn_dat F sc_is_bit rfl fun cdv A outer s H E hr => ?_) fun _ _ _ _ _ _ us hl => match us, hl with | [_], _ => rfl
  have hu := room_u hr; have hu1 := room_u1 hr; have hu2 := room_u2 hr; have nd := (sc_is_bit).nd
  refine ⟨_, (pss_one (ps_ret (pe_c q_is_within hr (by decide) rfl (pa_cons (pv 0) (pa_cons pe_int (pa_cons pe_int pa_nil)))))), fun ds d _ hR => ?_⟩

  obtain ⟨i, rfl, h1, h2, rfl⟩ := hR
  exact b_ret (de_call (da_cons (de_var rfl) (da_cons de_int (da_cons de_int da_nil))) rfl ⟨i, some 0, some 1, rfl, by simpa using h1, by simpa using h2, rfl⟩)
abbrev N_is_turn : List Str := ["value"]
theorem sc_is_turn : FnScope N_is_turn ["value"] (defScope (top 16)) := ⟨rfl, rfl, rfl, by decide +kernel, rfl, by decide +kernel, by decide +kernel⟩
theorem c_is_turn (F : FnP K "is_turn" (top 16) f fd) (hf : mg "is_turn" = some (.ref f)) (b : Bs K mg) (q_is_within : Cal P w K mg base 2 "is_within" (spD K 3 Rwithin) []) : Cal P w K mg base 3 "is_turn" (spD K 1 Rturn) [] := by
  refine cal_of F hf (fn_dat F sc_is_turn rfl fun cdv A outer s H E hr => ?_) fun _ _ _ _ _ _ us hl => match us, hl with | [_], _ => rfl
  have hu := room_u hr; have hu1 := room_u1 hr; have hu2 := room_u2 hr; have nd := (sc_is_turn).nd
  refine ⟨_, (pss_one (ps_ret (pe_c q_is_within hr (by decide) rfl (pa_cons (pv 0) (pa_cons pe_int (pa_cons (pe_op op_sub (C8.pe_gc rfl (b.g_c_turns)) pe_int) pa_nil)))))), fun ds d _ hR => ?_⟩

  obtain ⟨i, rfl, h1, h2, rfl⟩ := hR
  exact b_ret (de_call (da_cons (de_var rfl) (da_cons de_int (da_cons (de_sub de_int de_int) da_nil))) rfl ⟨i, some 0, some 7, rfl, by simpa using h1, by simpa using h2, rfl⟩)

end
end Lk
set_option maxHeartbeats 1000000
namespace Lk
open PySem PySem.Spec PyProof.Rows L2
open Evl (Ex)
open C8 (Cal pe_c Mak pe_mk)

/-! ### sorted lists -/
def leI (a b : Int) : Bool := decide (a ≤ b)
def cdP (p : Int × Int) : Int := p.1 * 64 + p.2
def leP (a b : Int × Int) : Bool := decide (cdP a ≤ cdP b)
def sortI (l : List Int) : List Int := l.mergeSort leI
def sortP (l : List (Int × Int)) : List (Int × Int) := l.mergeSort leP
theorem sortI_perm (l : List Int) : (sortI l).Perm l := List.mergeSort_perm _ _
theorem sortP_perm (l : List (Int × Int)) : (sortP l).Perm l := List.mergeSort_perm _ _
theorem sortI_le (l : List Int) : (sortI l).Pairwise (· ≤ ·) :=
  (List.pairwise_mergeSort (le := leI) (fun a b c h1 h2 => by simp only [leI, decide_eq_true_eq] at *; omega) (fun a b => by simp only [leI, Bool.or_eq_true, decide_eq_true_eq]; omega) l).imp fun h => of_decide_eq_true h
theorem sortP_le (l : List (Int × Int)) : (sortP l).Pairwise fun a b => cdP a ≤ cdP b :=
  (List.pairwise_mergeSort (le := leP) (fun a b c h1 h2 => by simp only [leP, decide_eq_true_eq] at *; omega) (fun a b => by simp only [leP, Bool.or_eq_true, decide_eq_true_eq]; omega) l).imp fun h => of_decide_eq_true h
theorem sortI_uniq {ms ns : List Int} (h : ms.Perm ns) (h2 : ms.Pairwise (· ≤ ·)) : ms = sortI ns :=
  List.Perm.eq_of_pairwise (fun a b _ _ h3 h4 => Int.le_antisymm h3 h4) h2 (sortI_le ns) (h.trans (sortI_perm ns).symm)
def prD (p : Int × Int) : D := .tup [.int p.1, .int p.2]
def BdP (p : Int × Int) : Prop := (0 ≤ p.1 ∧ p.1 < 64) ∧ (0 ≤ p.2 ∧ p.2 < 64)
theorem cdP_inj {p q : Int × Int} (h : BdP p) (g : BdP q) (e : cdP p = cdP q) : p = q := by
  obtain ⟨a, b⟩ := p
  obtain ⟨c, d⟩ := q
  unfold BdP cdP at *
  simp only at *
  rw [Prod.mk.injEq]
  omega
theorem sortP_uniq {ms ns : List (Int × Int)} (hb : ∀ p ∈ ns, BdP p) (h : ms.Perm ns) (h2 : ms.Pairwise fun a b => cdP a ≤ cdP b) : ms = sortP ns :=
  List.Perm.eq_of_pairwise (fun a b ha hb' h3 h4 => cdP_inj (hb a (h.mem_iff.mp ha)) (hb b ((sortP_perm ns).mem_iff.mp hb')) (Int.le_antisymm h3 h4)) h2 (sortP_le ns) (h.trans (sortP_perm ns).symm)

section
variable {K : PySem.W.Frag} {Γ Γ' Γ1 Γ2 Γw : Ctx} {ta tb te tc : TE} {tt tu : TT} {d e : D} {ds es : List D} {t u w : TS}
theorem dl_ofN (h : DN K te Γ ds) : DL K te Γ ds := dl_of (de_ofN h)
theorem de_lenSet {ns : List Int} (ha : DE K ta Γ d) (hs : SeqD d (ns.map D.int)) (hl : ns.length < 64) (nd : ns.Nodup) : DE K (tLenSet K ta) Γ (.int (ns.length : Int)) := fun F H σ E Q q => by
  rcases hs with rfl | rfl
  · refine (dl_of ha) F H σ E _ fun a xs H1 e1 s1 a1 => ?_
    obtain rfl := a1.ints
    exact ⟨a, ns, rfl, .inl s1, hl, nd, q _ H1 e1 (.int _)⟩
  · refine (du_of ha) F H σ E _ fun a xs H1 e1 s1 a1 => ?_
    obtain rfl := a1.ints
    exact ⟨a, ns, rfl, .inr (Evl.ex_t hid_le s1), hl, nd, q _ H1 e1 (.int _)⟩
theorem all_refs {H : Hp} : ∀ {xs : List V} {ps : List (Int × Int)}, IsAll K H xs (ps.map prD) → ∃ ks : List (Addr × List Int), xs = ks.map (fun p => V.ref p.1) ∧ ks.map (·.2) = ps.map (fun p => [p.1, p.2]) ∧ ∀ p ∈ ks, SqT K H p.1 (p.2.map V.int)
  | _, [], .nil => ⟨[], rfl, rfl, fun _ h => (List.not_mem_nil h).elim⟩
  | _, p :: ps, .cons h a => by
    obtain ⟨ks, rfl, h2, h3⟩ := all_refs a
    cases h with
    | @tup b ys _ s al =>
      have e : ys = [V.int p.1, V.int p.2] := IsAll.ints (ns := [p.1, p.2]) al
      subst e
      refine ⟨(b, [p.1, p.2]) :: ks, rfl, by rw [List.map_cons, h2] <;> rfl, fun z hz => ?_⟩
      rcases List.mem_cons.mp hz with rfl | hz
      · exact s
      · exact h3 z hz
theorem nodup_pairs {ps : List (Int × Int)} (h : ps.Nodup) : (ps.map fun p => [p.1, p.2]).Nodup :=
  List.Pairwise.map _ (fun a b hab z => hab (by
    simp only [List.cons.injEq, and_true] at z
    exact Prod.ext z.1 z.2)) h
theorem de_lenSetP {ps : List (Int × Int)} (ha : DL K ta Γ (ps.map prD)) (hl : ps.length < 64) (nd : ps.Nodup) : DE K (tLenSetP K ta) Γ (.int (ps.length : Int)) := fun F H σ E Q q =>
  ha F H σ E _ fun a xs H1 e1 s1 a1 => by
    obtain ⟨ks, rfl, h2, h3⟩ := all_refs a1
    have e : ks.length = ps.length := by
      have := congrArg List.length h2
      simpa using this
    exact ⟨a, ks, rfl, s1, fun p hp => Evl.ex_t hid_le (h3 p hp), by rw [e]; exact hl, by rw [h2]; exact nodup_pairs nd, q _ H1 e1 (by rw [e]; exact .int _)⟩
theorem de_anyU {ns : List Int} (ha : DU K ta Γ (ns.map D.int)) : DE K (tCB (rAnyU K) (tCons ta tNil)) Γ (.bl (ns.any (· != 0))) := fun F H σ E Q q =>
  ha F H σ E _ fun a xs H1 e1 s1 a1 => by
    obtain rfl := a1.ints
    exact ⟨a, ns, rfl, Evl.ex_t hid_le s1, q _ H1 e1 (.bl _)⟩
theorem dn_of {H : Hp} {l : List Addr} {p : Addr} {ns : List Int} : IsAll K (hid l (upd H p (.lst (ns.map V.int)))) (ns.map V.int) (ns.map D.int) := IsAll.ofInts ns
theorem dn_sorted {ns : List Int} (ha : DL K ta Γ (ns.map D.int)) (hl : ns.length < 64) : DN K (tCB (rSorted K) (tCons ta tNil)) Γ ((sortI ns).map D.int) := fun F H σ E Q q =>
  ha F H σ E _ fun a xs H1 e1 s1 a1 => by
    obtain rfl := a1.ints
    refine ⟨a, ns, rfl, s1, hl, fun ms p h1 h2 hp => ?_⟩
    obtain rfl := sortI_uniq h1 h2
    exact q p _ _ (Evl.fresh_back e1 hp) (e1.trans (Ex.new hp)) upd_same (IsAll.ofInts _)
theorem dn_sortedU {ns : List Int} (ha : DU K ta Γ (ns.map D.int)) (hl : ns.length < 64) : DN K (tCB (rSortedU K) (tCons ta tNil)) Γ ((sortI ns).map D.int) := fun F H σ E Q q =>
  ha F H σ E _ fun a xs H1 e1 s1 a1 => by
    obtain rfl := a1.ints
    refine ⟨a, ns, rfl, Evl.ex_t hid_le s1, hl, fun ms p h1 h2 hp => ?_⟩
    obtain rfl := sortI_uniq h1 h2
    exact q p _ _ (Evl.fresh_back e1 hp) (e1.trans (Ex.new hp)) upd_same (IsAll.ofInts _)
/-- what a permutation of the values tells of the data -/
theorem perm_data {H : Hp} {xs ys : List V} (h : ys.Perm xs) : ∀ {ps : List (Int × Int)}, IsAll K H xs (ps.map prD) → ∃ qs : List (Int × Int), qs.Perm ps ∧ IsAll K H ys (qs.map prD) := by
  induction h with
  | nil => exact fun a => ⟨_, List.Perm.refl _, a⟩
  | @cons x l1 l2 hp ih =>
    intro ps a
    cases ps with
    | nil => cases a
    | cons p ps =>
      cases a with
      | cons h a =>
        obtain ⟨qs, h1, h2⟩ := ih a
        exact ⟨p :: qs, h1.cons p, .cons h h2⟩
  | swap x y l =>
    intro ps a
    match ps, a with
    | p :: q :: ps, .cons h (.cons h' a) => exact ⟨q :: p :: ps, List.Perm.swap _ _ _, .cons h' (.cons h a)⟩
  | trans h1 h2 ih1 ih2 =>
    intro ps a
    obtain ⟨qs, q1, q2⟩ := ih2 a
    obtain ⟨rs, r1, r2⟩ := ih1 q2
    exact ⟨rs, r1.trans q1, r2⟩
theorem tupI_of {H : Hp} {v : V} {p : Int × Int} (h : Is K H v (prD p)) : TupI K H v [p.1, p.2] := by
  cases h with
  | @tup b ys _ s al =>
    have e : ys = [V.int p.1, V.int p.2] := IsAll.ints (ns := [p.1, p.2]) al
    subst e
    exact ⟨b, rfl, s⟩
theorem cdP_of (p : Int × Int) : TS.code 64 [p.1, p.2] = cdP p := by
  simp [TS.code, cdP]
theorem pw_data {H H' : Hp} (e : Ex H H') : ∀ {ys : List V} {qs : List (Int × Int)}, IsAll K H ys (qs.map prD) → ys.Pairwise (fun x y => ∀ n m, TupI K H' x n → TupI K H' y m → TS.code 64 n ≤ TS.code 64 m) → qs.Pairwise fun a b => cdP a ≤ cdP b
  | _, [], .nil, _ => .nil
  | _, q :: qs, .cons h a, w => by
    obtain ⟨w1, w2⟩ := List.pairwise_cons.mp w
    refine List.pairwise_cons.mpr ⟨fun p hp => ?_, pw_data e a w2⟩
    obtain ⟨i, hi⟩ := List.getElem?_of_mem hp
    obtain ⟨v, h1, h2⟩ := a.get (i := i) (d := prD p) (by rw [List.getElem?_map, hi]; rfl)
    have z := w1 v (List.mem_of_getElem? h1) _ _ (tupI_of (h.mono e)) (tupI_of (h2.mono e))
    rw [cdP_of, cdP_of] at z
    exact z
theorem dn_sortT {ps : List (Int × Int)} (ha : DL K ta Γ (ps.map prD)) (hl : ps.length < 64) (hb : ∀ p ∈ ps, BdP p) : DN K (tCB (rSortU K 2 64) (tCons ta tNil)) Γ ((sortP ps).map prD) := fun F H σ E Q q =>
  ha F H σ E _ fun a xs H1 e1 s1 a1 => by
    refine ⟨a, xs, rfl, s1, by rw [a1.length, List.length_map]; exact hl, fun x hx => ?_, fun ys p h1 h2 hp => ?_⟩
    · obtain ⟨i, hi⟩ := List.getElem?_of_mem hx
      obtain ⟨d, h1, h2⟩ := a1.getV hi
      rw [List.getElem?_map] at h1
      cases hz : ps[i]? with
      | none =>
        rw [hz] at h1
        cases h1
      | some z =>
        rw [hz] at h1
        cases h1
        have bz := hb z (List.mem_of_getElem? hz)
        refine ⟨[z.1, z.2], tupI_of (h2.mono hid_le), rfl, fun m hm => ?_⟩
        simp only [List.mem_cons, List.not_mem_nil, or_false] at hm
        rcases hm with rfl | rfl
        · exact bz.1
        · exact bz.2
    · obtain ⟨qs, q1, q2⟩ := perm_data h1 a1
      obtain rfl := sortP_uniq hb q1 (pw_data hid_le q2 h2)
      refine q p _ _ (Evl.fresh_back e1 hp) (e1.trans (Ex.new hp)) upd_same (q2.mono (ex_new hp))
/-- tuple(xs), known to its object -/
theorem de_tupF (ha : DL K ta Γ ds) : DE K (tCB (rTupF K) (tCons ta tNil)) Γ (.ptup ds) := fun F H σ E Q q =>
  ha F H σ E _ fun a xs H1 e1 s1 a1 => ⟨a, xs, rfl, s1, fun b o hb ho => q _ _ (e1.trans (Ex.new hb)) (.ptup ((E.mono e1).put hb) ho (a1.mono (hid_mono (Ex.new hb))))⟩
end
end Lk
set_option maxHeartbeats 1000000
namespace Lk
open PySem PySem.Spec PyProof.Rows L2
open Evl (Ex)
open C8 (Cal pe_c Mak pe_mk)
section
variable {K : PySem.W.Frag} {Γ Γ' Γ1 Γ2 Γw : Ctx} {ta tb te tc : TE} {tt tu : TT} {d e : D} {ds es : List D} {t u w : TS}
theorem de_allF {α : Type} {as : List α} {f : α → Bool} (ha : DL K ta Γ (as.map fun a => D.bl (f a))) : DE K (tCB (rAll K) (tCons ta tNil)) Γ (.bl (as.all f)) := by
  have e : (as.map fun a => D.bl (f a)) = (as.map f).map D.bl := by rw [List.map_map] <;> rfl
  rw [e] at ha
  exact (de_all ha).to (by rw [List.all_map] <;> rfl)
theorem de_anyF {α : Type} {as : List α} {f : α → Bool} (ha : DL K ta Γ (as.map fun a => D.bl (f a))) : DE K (tCB (rAny K) (tCons ta tNil)) Γ (.bl (as.any f)) := by
  have e : (as.map fun a => D.bl (f a)) = (as.map f).map D.bl := by rw [List.map_map] <;> rfl
  rw [e] at ha
  exact (de_any ha).to (by rw [List.any_map] <;> rfl)
theorem de_allT {α : Type} {as : List α} (ha : DL K ta Γ (as.map fun _ => D.bl true)) : DE K (tCB (rAll K) (tCons ta tNil)) Γ (.bl true) := (de_allF (f := fun _ => true) ha).to (by rw [List.all_eq_true.mpr fun _ _ => rfl])
theorem DN.to (h : DN K te Γ ds) (q : ds = es) : DN K te Γ es := q ▸ h
theorem DL.to (h : DL K te Γ ds) (q : ds = es) : DL K te Γ es := q ▸ h
theorem DU.to (h : DU K te Γ ds) (q : ds = es) : DU K te Γ es := q ▸ h
theorem DI.to {wi : TI} (h : DI K wi Γ ds) (q : ds = es) : DI K wi Γ es := q ▸ h
theorem dg_pair {i j : Nat} {x y : Ent} {p : D × D} {n : Nat} (hn : n = 2) (hx : Γ[i]? = some x) (ho : own1 x = []) (hy : (Γ.set i (.dat p.1))[j]? = some y) (ho' : own1 y = []) : DG K (gTup K n (gCons (gName i) (gCons (gName j) gNil))) [i, j] (.tup [p.1, p.2]) Γ ((Γ.set i (.dat p.1)).set j (.dat p.2)) := by
  subst hn
  exact dg_tup (dgs_cons (dg_name hx ho) (dgs_cons (dg_name hy ho') dgs_nil)) rfl
end

/-! ### spreads -/
def nzA (x : Amt) : Bool := [x.a, x.b, x.c, x.d].any (· != 0)
structure GoodS (s : List Amt) : Prop where
  len : ∃ k : Nat, k ≤ 12 ∧ s.length = 2 ^ k
  nz : s.any nzA = true
theorem GoodS.le {s : List Amt} (h : GoodS s) : s.length ≤ 4096 := by
  obtain ⟨k, h1, h2⟩ := h.len
  rw [h2]
  exact Nat.le_trans (Nat.pow_le_pow_right (by decide) h1) (by decide)
theorem GoodS.mem {s : List Amt} (h : GoodS s) : (s.length : Int) ∈ [(1 : Int), 2, 4, 8, 16, 32, 64, 128, 256, 512, 1024, 2048, 4096] := by
  obtain ⟨k, h1, h2⟩ := h.len
  rw [h2]
  have : k = 0 ∨ k = 1 ∨ k = 2 ∨ k = 3 ∨ k = 4 ∨ k = 5 ∨ k = 6 ∨ k = 7 ∨ k = 8 ∨ k = 9 ∨ k = 10 ∨ k = 11 ∨ k = 12 := by omega
  rcases this with rfl | rfl | rfl | rfl | rfl | rfl | rfl | rfl | rfl | rfl | rfl | rfl | rfl <;> decide
def Ramount : List D → D → Prop := fun ds d => ∃ x : Amt, ds = [amtD x] ∧ d = .bl true
def Rspread : List D → D → Prop := fun ds d => ∃ (v : D) (s : List Amt), ds = [v] ∧ SeqD v (s.map amtD) ∧ GoodS s ∧ d = .bl true
def Rneed : List D → D → Prop := fun ds d => ∃ (v : D) (s : List Amt) (x : Str), ds = [v, .str x] ∧ SeqD v (s.map amtD) ∧ GoodS s ∧ d = .tup (s.map amtD)
def Rlot : List D → D → Prop := fun ds d => ∃ (v : D) (ns : List Int), ds = [v] ∧ SeqD v (ns.map D.int) ∧ (∀ n ∈ ns, 0 ≤ n) ∧ ns.Nodup ∧ ns.length < 64 ∧ d = .bl true
def Rpairs : List D → D → Prop := fun ds d => ∃ ps : List (Int × Int), ds = [.lst (ps.map prD)] ∧ (ps.map (·.1)).Nodup ∧ ps.length < 64 ∧ d = .lst (ps.map prD)
def Rthings : List D → D → Prop := fun ds d => ∃ (v : D) (ns : List Int) (m : Int), ds = [v, .int m] ∧ SeqD v (ns.map D.int) ∧ (∀ n ∈ ns, 0 ≤ n ∧ n < m) ∧ ns.Nodup ∧ ns.length < 64 ∧ d = .bl true
def OkP (m : Int) (p : Int × Int) : Prop := 0 ≤ p.1 ∧ p.1 < p.2 ∧ p.2 < m
def Rstring : List D → D → Prop := fun ds d => ∃ (p : Int × Int) (m : Int), ds = [prD p, .int m] ∧ OkP m p ∧ d = .bl true
def Rstrings : List D → D → Prop := fun ds d => ∃ (ps : List (Int × Int)) (m : Int), ds = [.lst (ps.map prD), .int m] ∧ (∀ p ∈ ps, OkP m p) ∧ m ≤ 64 ∧ ps.Nodup ∧ ps.length < 64 ∧ d = .tup ((sortP ps).map prD)
def RthingsF : List D → D → Prop := fun ds d => ∃ (v : D) (ns : List Int) (m : Int) (x : Str), ds = [v, .int m, .str x] ∧ SeqD v (ns.map D.int) ∧ (∀ n ∈ ns, 0 ≤ n ∧ n < m) ∧ ns.Nodup ∧ ns.length < 64 ∧ d = .tup (ns.map D.int)
def OkT (p : Int × Int) : Prop := (0 ≤ p.1 ∧ p.1 < 64) ∧ (0 ≤ p.2 ∧ p.2 ≤ 7)
def Rturns : List D → D → Prop := fun ds d => ∃ (ps : List (Int × Int)) (lk : List Int), ds = [.lst (ps.map prD), .tup (lk.map D.int)] ∧ (∀ p ∈ ps, OkT p) ∧ (ps.map (·.1)).Nodup ∧ ps.length < 64 ∧ sortI (ps.map (·.1)) = lk ∧ d = .ptup ((sortP ps).map prD)
theorem sort2 {p : Int × Int} (h : p.1 < p.2) : sortI [p.1, p.2] = [p.1, p.2] := (sortI_uniq (List.Perm.refl _) (by simp; omega)).symm
theorem lt16 {n : Nat} (h : n < 64) : n < 16000000 := Nat.lt_trans h (by decide)
section
variable {P : Program} {w : World} {K : PySem.W.Frag} {mg : Str → Option Value} {base : Heap} {f : Addr} {fd : FuncData}
abbrev N_is_amount : List Str := ["value", "number"]
theorem sc_is_amount : FnScope N_is_amount ["value"] (defScope (top 17)) := ⟨rfl, rfl, rfl, by decide +kernel, rfl, by decide +kernel, by decide +kernel⟩
theorem c_is_amount (F : FnP K "is_amount" (top 17) f fd) (hf : mg "is_amount" = some (.ref f)) (b : Bs K mg) (q_is_integer : Cal P w K mg base 1 "is_integer" (spD K 1 Risint) []) : Cal P w K mg base 2 "is_amount" (spD K 1 Ramount) [] := by
  refine cal_of F hf (fn_dat F sc_is_amount rfl fun cdv A outer s H E hr => ?_) fun _ _ _ _ _ _ us hl => match us, hl with | [_], _ => rfl
  have hu := room_u hr; have hu1 := room_u1 hr; have hu2 := room_u2 hr; have nd := (sc_is_amount).nd
  refine ⟨_, (pss_one (ps_ret (pe_and (pe_callB call_isiT rfl b.b_isinstance PyProof.Rows.boot_isinstance (pa_cons (pv 0) (pa_cons (pe_tup (pa_cons (pe_bltn (v := .ty "list") rfl b.b_list PyProof.Rows.boot_list rfl) (pa_cons (pe_bltn (v := .ty "tuple") rfl b.b_tuple PyProof.Rows.boot_tuple rfl) pa_nil))) pa_nil))) (pe_and (pe_cmpR op_eq (pe_callB call_len_seq rfl b.b_len PySem.boot_len (pa_cons (pv 0) pa_nil)) pe_int (nomark _)) (pe_one (pe_callB (cr_all rfl) rfl b.b_all PyProof.Rows.boot_all (pa_cons (pe_lc (own := [("number", 1)]) rfl nd (pi_tup (pv 0)) (blkOk_by (own := [("number", 1)]) (N := N_is_amount) (sc := defScope (top 17)) (by decide +kernel)) (fun _ _ _ _ _ => (pg_name (i := 1) nd rfl (.inl rfl))) (fun _ _ _ _ _ => pts_nil) (fun _ _ _ _ _ => (pe_c q_is_integer hr (by decide) rfl (pa_cons (pv 1) pa_nil)))) pa_nil))))))), fun ds d _ hR => ?_⟩

  obtain ⟨x, rfl, rfl⟩ := hR
  refine b_ret (de_and (a := true) (b := true) (de_isiS (de_var rfl) (.inr rfl)) fun _ => de_and (a := true) (b := true) ((de_eqI (de_lenS (de_var rfl) (.inr rfl)) de_int).to rfl) fun _ => ?_)
  exact de_allT (dl_ofN (dn_lcY (as := [x.a, x.b, x.c, x.d]) (em := D.int) (di_tup (amt_at rfl)) rfl rfl (fun a _ => dg_name rfl rfl) (fun _ h => h) (fun a _ => de_call (da_cons (de_var rfl) da_nil) rfl ⟨a, rfl, rfl⟩) (Nat.lt_of_le_of_lt (m := 4) (Nat.le_refl 4) (by decide))))
abbrev N_is_spread : List Str := ["value", "many", "each"]
theorem sc_is_spread : FnScope N_is_spread ["value"] (defScope (top 18)) := ⟨rfl, rfl, rfl, by decide +kernel, rfl, by decide +kernel, by decide +kernel⟩
theorem c_is_spread (F : FnP K "is_spread" (top 18) f fd) (hf : mg "is_spread" = some (.ref f)) (b : Bs K mg) (q_is_amount : Cal P w K mg base 2 "is_amount" (spD K 1 Ramount) []) : Cal P w K mg base 3 "is_spread" (spD K 1 Rspread) [] := by
  refine cal_of F hf (fn_dat F sc_is_spread rfl fun cdv A outer s H E hr => ?_) fun _ _ _ _ _ _ us hl => match us, hl with | [_], _ => rfl
  have hu := room_u hr; have hu1 := room_u1 hr; have hu2 := room_u2 hr; have nd := (sc_is_spread).nd
  refine ⟨_, (pss_cons (ps_if (PW.pt (pw_or (pt_not (pt_val (pe_callB call_isiT rfl b.b_isinstance PyProof.Rows.boot_isinstance (pa_cons (pv 0) (pa_cons (pe_tup (pa_cons (pe_bltn (v := .ty "list") rfl b.b_list PyProof.Rows.boot_list rfl) (pa_cons (pe_bltn (v := .ty "tuple") rfl b.b_tuple PyProof.Rows.boot_tuple rfl) pa_nil))) pa_nil))))) (pw_or1 (pt_cmpR op_notIn_seq (pe_callB call_len_seq rfl b.b_len PySem.boot_len (pa_cons (pv 0) pa_nil)) (pe_lc (own := [("many", 1)]) rfl nd (pi_range1 rfl b.b_range (pa_cons (pe_op op_add (C8.pe_gc rfl (b.g_c_places)) pe_int) pa_nil)) (blkOk_by (own := [("many", 1)]) (N := N_is_spread) (sc := defScope (top 18)) (by decide +kernel)) (fun _ _ _ _ _ => (pg_name (i := 1) nd rfl (.inl rfl))) (fun _ _ _ _ _ => pts_nil) (fun _ _ _ _ _ => (pe_op op_shl pe_int (pv 1)))) rfl)))) (pss_one (ps_ret pe_bl)) pss_nil) (pss_one (ps_ret (pe_and (pe_callB (cr_all rfl) rfl b.b_all PyProof.Rows.boot_all (pa_cons (pe_lc (own := [("each", 2)]) rfl nd (pi_seq (pv 0)) (blkOk_by (own := [("each", 2)]) (N := N_is_spread) (sc := defScope (top 18)) (by decide +kernel)) (fun _ _ _ _ _ => (pg_name (i := 2) nd rfl (.inl rfl))) (fun _ _ _ _ _ => pts_nil) (fun _ _ _ _ _ => (pe_c q_is_amount hr (by decide) rfl (pa_cons (pv 2) pa_nil)))) pa_nil)) (pe_one (pe_callB (cr_any rfl) rfl b.b_any PyProof.Rows.boot_any (pa_cons (pe_lc (own := [("each", 2)]) rfl nd (pi_seq (pv 0)) (blkOk_by (own := [("each", 2)]) (N := N_is_spread) (sc := defScope (top 18)) (by decide +kernel)) (fun _ _ _ _ _ => (pg_name (i := 2) nd rfl (.inl rfl))) (fun _ _ _ _ _ => pts_nil) (fun _ _ _ _ _ => (pe_callB (show CallR _ (.builtin "any") (rAnyU K) from (cr_anyU rfl)) rfl b.b_any PyProof.Rows.boot_any (pa_cons (pv 2) pa_nil)))) pa_nil))))))), fun ds d _ hR => ?_⟩

  obtain ⟨v, s, rfl, hs, g, rfl⟩ := hR
  have hl : s.length < 16000000 := Nat.lt_of_le_of_lt g.le (by decide)
  refine b_guard (b := false) ?_ (fun z => nomatch z) fun _ => b_ret ?_
  · refine dt_or (a := false) (b := false) (dt_not (a := true) (dt_B (de_isiS (de_var rfl) hs))) fun _ => dt_test ?_
    refine (de_inL (neg := true) (ns := [1, 2, 4, 8, 16, 32, 64, 128, 256, 512, 1024, 2048, 4096]) (de_lenS (de_var rfl) hs) (dl_ofN ?_)).to ?_
    · refine (dn_lcY (as := List.range 13) (em := fun i : Nat => D.int (i : Int)) (gv := fun i : Nat => D.int (1 * 2 ^ (i : Int).toNat)) (di_range1 (n := 13) ((de_add de_int de_int).to rfl) (by decide)) rfl rfl (fun a _ => dg_name rfl rfl) (fun _ h => h) (fun a ha => ?_) (by decide)).to rfl
      have := List.mem_range.mp ha
      exact de_opI de_int (de_var rfl) ⟨by omega, by omega, by decide⟩ fun _ => .int _
    · have z := g.mem
      rw [List.length_map, decide_eq_true z]
      rfl
  · refine de_and (a := true) (b := true) ?_ fun _ => ?_
    · exact de_allT (dl_ofN (dn_lcY (as := s) (em := amtD) (di_seq (de_var rfl) hs) rfl rfl (fun a _ => dg_name rfl rfl) (fun _ h => h) (fun a _ => de_call (da_cons (de_var rfl) da_nil) rfl ⟨a, rfl, rfl⟩) hl))
    · exact (de_anyF (f := nzA) (dl_ofN (dn_lcY (as := s) (em := amtD) (di_seq (de_var rfl) hs) rfl rfl (fun a _ => dg_name rfl rfl) (fun _ h => h) (fun a _ => de_anyU (ns := [a.a, a.b, a.c, a.d]) (du_of (de_var rfl))) hl))).to (by rw [g.nz])
abbrev N_is_lot : List Str := ["value", "each"]
theorem sc_is_lot : FnScope N_is_lot ["value"] (defScope (top 19)) := ⟨rfl, rfl, rfl, by decide +kernel, rfl, by decide +kernel, by decide +kernel⟩
theorem c_is_lot (F : FnP K "is_lot" (top 19) f fd) (hf : mg "is_lot" = some (.ref f)) (b : Bs K mg) (q_is_within : Cal P w K mg base 2 "is_within" (spD K 3 Rwithin) []) : Cal P w K mg base 3 "is_lot" (spD K 1 Rlot) [] := by
  refine cal_of F hf (fn_dat F sc_is_lot rfl fun cdv A outer s H E hr => ?_) fun _ _ _ _ _ _ us hl => match us, hl with | [_], _ => rfl
  have hu := room_u hr; have hu1 := room_u1 hr; have hu2 := room_u2 hr; have nd := (sc_is_lot).nd
  refine ⟨_, (pss_cons (ps_if (PW.pt (pw_or (pt_not (pt_val (pe_callB call_isiT rfl b.b_isinstance PyProof.Rows.boot_isinstance (pa_cons (pv 0) (pa_cons (pe_tup (pa_cons (pe_bltn (v := .ty "list") rfl b.b_list PyProof.Rows.boot_list rfl) (pa_cons (pe_bltn (v := .ty "tuple") rfl b.b_tuple PyProof.Rows.boot_tuple rfl) pa_nil))) pa_nil))))) (pw_or1 (pt_not (pt_val (pe_callB (cr_all rfl) rfl b.b_all PyProof.Rows.boot_all (pa_cons (pe_lc (own := [("each", 1)]) rfl nd (pi_seq (pv 0)) (blkOk_by (own := [("each", 1)]) (N := N_is_lot) (sc := defScope (top 19)) (by decide +kernel)) (fun _ _ _ _ _ => (pg_name (i := 1) nd rfl (.inl rfl))) (fun _ _ _ _ _ => pts_nil) (fun _ _ _ _ _ => (pe_c q_is_within hr (by decide) rfl (pa_cons (pv 1) (pa_cons pe_int (pa_cons pe_non pa_nil)))))) pa_nil))))))) (pss_one (ps_ret pe_bl)) pss_nil) (pss_one (ps_ret (pe_cmpR op_eq (pe_lenSet rfl rfl b.b_len rfl b.b_set (pv 0)) (pe_callB call_len_seq rfl b.b_len PySem.boot_len (pa_cons (pv 0) pa_nil)) (nomark _))))), fun ds d _ hR => ?_⟩

  obtain ⟨v, ns, rfl, hs, h0, nd', h64, rfl⟩ := hR
  refine b_guard (b := false) ?_ (fun z => nomatch z) fun _ => b_ret ?_
  · refine dt_or (a := false) (b := false) (dt_not (a := true) (dt_B (de_isiS (de_var rfl) hs))) fun _ => dt_not (a := true) (dt_B ?_)
    exact de_allT (dl_ofN (dn_lcY (as := ns) (em := D.int) (di_seq (de_var rfl) hs) rfl rfl (fun a _ => dg_name rfl rfl) (fun _ h => h) (fun a ha => de_call (da_cons (de_var rfl) (da_cons de_int (da_cons de_non da_nil))) rfl ⟨a, some 0, none, rfl, fun l e => by cases e; exact h0 a ha, fun l e => (nomatch e), rfl⟩) (lt16 h64)))
  · refine (de_eqI (de_lenSet (de_var rfl) hs h64 nd') (de_lenS (de_var rfl) hs)).to ?_
    rw [List.length_map, beq_self_eq_true]
abbrev N_need_spread : List Str := ["value", "part", "each"]
theorem sc_need_spread : FnScope N_need_spread ["value", "part"] (defScope (top 20)) := ⟨rfl, rfl, rfl, by decide +kernel, rfl, by decide +kernel, by decide +kernel⟩
theorem c_need_spread (F : FnP K "need_spread" (top 20) f fd) (hf : mg "need_spread" = some (.ref f)) (b : Bs K mg) (q_is_spread : Cal P w K mg base 3 "is_spread" (spD K 1 Rspread) []) : Cal P w K mg base 4 "need_spread" (spD K 2 Rneed) [] := by
  refine cal_of F hf (fn_dat F sc_need_spread rfl fun cdv A outer s H E hr => ?_) fun _ _ _ _ _ _ us hl => match us, hl with | [_, _], _ => rfl
  have hu := room_u hr; have hu1 := room_u1 hr; have hu2 := room_u2 hr; have nd := (sc_need_spread).nd
  refine ⟨_, (pss_cons (ps_if (pt_not (pt_val (pe_c q_is_spread hr (by decide) rfl (pa_cons (pv 0) pa_nil)))) pss_never pss_nil) (pss_one (ps_ret (pe_callTy call_tuple_of rfl b.b_tuple PyProof.Rows.boot_tuple (pa_cons (pe_lc (own := [("each", 2)]) rfl nd (pi_seq (pv 0)) (blkOk_by (own := [("each", 2)]) (N := N_need_spread) (sc := defScope (top 20)) (by decide +kernel)) (fun _ _ _ _ _ => (pg_name (i := 2) nd rfl (.inl rfl))) (fun _ _ _ _ _ => pts_nil) (fun _ _ _ _ _ => (pe_callTy (show CallR _ (.type "tuple") (rTupS K) from call_tuple_of) rfl b.b_tuple PyProof.Rows.boot_tuple (pa_cons (pv 2) pa_nil)))) pa_nil))))), fun ds d _ hR => ?_⟩

  obtain ⟨v, s, x, rfl, hs, g, rfl⟩ := hR
  have hl : s.length < 16000000 := Nat.lt_of_le_of_lt g.le (by decide)
  refine b_pass (dt_not (a := true) (dt_B (de_call (da_cons (de_var rfl) da_nil) rfl ⟨v, s, rfl, hs, g, rfl⟩))) (b_ret ?_)
  exact de_tupleL (dl_ofN (dn_lcY (as := s) (em := amtD) (di_seq (de_var rfl) hs) rfl rfl (fun a _ => dg_name rfl rfl) (fun _ h => h) (fun a _ => de_tupleT (de_var rfl)) hl))
abbrev N_pairs_in : List Str := ["value", "each"]
theorem sc_pairs_in : FnScope N_pairs_in ["value"] (defScope (top 21)) := ⟨rfl, rfl, rfl, by decide +kernel, rfl, by decide +kernel, by decide +kernel⟩
theorem c_pairs_in (F : FnP K "pairs_in" (top 21) f fd) (hf : mg "pairs_in" = some (.ref f)) (b : Bs K mg) (q_is_integer : Cal P w K mg base 1 "is_integer" (spD K 1 Risint) []) : Cal P w K mg base 2 "pairs_in" (spD K 1 Rpairs) [] := by
  refine cal_of F hf (fn_dat F sc_pairs_in rfl fun cdv A outer s H E hr => ?_) fun _ _ _ _ _ _ us hl => match us, hl with | [_], _ => rfl
  have hu := room_u hr; have hu1 := room_u1 hr; have hu2 := room_u2 hr; have nd := (sc_pairs_in).nd
  refine ⟨_, (pss_cons (ps_if (pt_val (pe_callB call_isi rfl b.b_isinstance PyProof.Rows.boot_isinstance (pa_cons (pv 0) (pa_cons (pe_bltn (v := .ty "dict") rfl b.b_dict PyProof.Rows.boot_dict rfl) pa_nil)))) pss_never pss_nil) (pss_cons (ps_if (pt_not (pt_val (pe_callB call_isiT rfl b.b_isinstance PyProof.Rows.boot_isinstance (pa_cons (pv 0) (pa_cons (pe_tup (pa_cons (pe_bltn (v := .ty "list") rfl b.b_list PyProof.Rows.boot_list rfl) (pa_cons (pe_bltn (v := .ty "tuple") rfl b.b_tuple PyProof.Rows.boot_tuple rfl) pa_nil))) pa_nil))))) (pss_one (ps_ret pe_non)) pss_nil) (pss_cons (ps_if (pt_not (pt_val (pe_callB (cr_all rfl) rfl b.b_all PyProof.Rows.boot_all (pa_cons (pe_lc (own := [("each", 1)]) rfl nd (pi_list (pv 0)) (blkOk_by (own := [("each", 1)]) (N := N_pairs_in) (sc := defScope (top 21)) (by decide +kernel)) (fun _ _ _ _ _ => (pg_name (i := 1) nd rfl (.inl rfl))) (fun _ _ _ _ _ => pts_nil) (fun _ _ _ _ _ => (pe_and (pe_callB (show CallR _ (.builtin "isinstance") (rIsiT K) from call_isiT) rfl b.b_isinstance PyProof.Rows.boot_isinstance (pa_cons (pv 1) (pa_cons (pe_tup (pa_cons (pe_bltn (v := .ty "list") rfl b.b_list PyProof.Rows.boot_list rfl) (pa_cons (pe_bltn (v := .ty "tuple") rfl b.b_tuple PyProof.Rows.boot_tuple rfl) pa_nil))) pa_nil))) (pe_one (pe_cmpR op_eq (pe_callB (show CallR _ (.builtin "len") (Evl.rLenS K) from call_len_seq) rfl b.b_len PySem.boot_len (pa_cons (pv 1) pa_nil)) pe_int (nomark _)))))) pa_nil)))) (pss_one (ps_ret pe_non)) pss_nil) (pss_cons (ps_if (PW.pt (pw_or (pt_not (pt_val (pe_callB (cr_all rfl) rfl b.b_all PyProof.Rows.boot_all (pa_cons (pe_lc (own := [("each", 1)]) rfl nd (pi_list (pv 0)) (blkOk_by (own := [("each", 1)]) (N := N_pairs_in) (sc := defScope (top 21)) (by decide +kernel)) (fun _ _ _ _ _ => (pg_name (i := 1) nd rfl (.inl rfl))) (fun _ _ _ _ _ => pts_nil) (fun _ _ _ _ _ => (pe_c q_is_integer hr (by decide) rfl (pa_cons (pe_ix (show IxR _ (rIxT K) from ix_tup) (pv 1) pe_int (fun _ _ => rfl)) pa_nil)))) pa_nil)))) (pw_or1 (pt_cmpR op_ne (pe_lenSet rfl rfl b.b_len rfl b.b_set (pe_lc (own := [("each", 1)]) rfl nd (pi_list (pv 0)) (blkOk_by (own := [("each", 1)]) (N := N_pairs_in) (sc := defScope (top 21)) (by decide +kernel)) (fun _ _ _ _ _ => (pg_name (i := 1) nd rfl (.inl rfl))) (fun _ _ _ _ _ => pts_nil) (fun _ _ _ _ _ => (pe_ix (show IxR _ (rIxT K) from ix_tup) (pv 1) pe_int (fun _ _ => rfl))))) (pe_callB call_len_seq rfl b.b_len PySem.boot_len (pa_cons (pv 0) pa_nil)) (nomark _))))) (pss_one (ps_ret pe_non)) pss_nil) (pss_one (ps_ret (pe_lc (own := [("each", 1)]) rfl nd (pi_list (pv 0)) (blkOk_by (own := [("each", 1)]) (N := N_pairs_in) (sc := defScope (top 21)) (by decide +kernel)) (fun _ _ _ _ _ => (pg_name (i := 1) nd rfl (.inl rfl))) (fun _ _ _ _ _ => pts_nil) (fun _ _ _ _ _ => (pe_callTy (show CallR _ (.type "tuple") (rTupS K) from call_tuple_of) rfl b.b_tuple PyProof.Rows.boot_tuple (pa_cons (pv 1) pa_nil)))))))))), fun ds d _ hR => ?_⟩

  obtain ⟨ps, rfl, nd', h64, rfl⟩ := hR
  have hl := lt16 h64
  refine b_guard (b := false) (dt_B (de_isi (de_var rfl) (fun _ z => nomatch z) (show kitB "list" "dict" = some false by decide +kernel))) (fun z => nomatch z) fun _ => ?_
  refine b_guard (b := false) (dt_not (a := true) (dt_B (de_isiS (de_var rfl) (.inl rfl)))) (fun z => nomatch z) fun _ => ?_
  refine b_guard (b := false) (dt_not (a := true) (dt_B ?_)) (fun z => nomatch z) fun _ => ?_
  · exact de_allT (dl_ofN (dn_lcY (as := ps) (em := prD) (di_list (de_var rfl)) rfl rfl (fun a _ => dg_name rfl rfl) (fun _ h => h) (fun a ha => de_and (a := true) (b := true) (de_isiS (de_var rfl) (.inr rfl)) fun _ => (de_eqI (de_lenS (de_var rfl) (.inr rfl)) de_int).to rfl) hl))
  refine b_guard (b := false) (dt_or (a := false) (b := false) (dt_not (a := true) (dt_B ?_)) fun _ => dt_test ?_) (fun z => nomatch z) fun _ => b_ret ?_
  · exact de_allT (dl_ofN (dn_lcY (as := ps) (em := prD) (di_list (de_var rfl)) rfl rfl (fun a _ => dg_name rfl rfl) (fun _ h => h) (fun a ha => de_call (da_cons (de_ixT (du_of (de_var rfl)) de_int rfl) da_nil) rfl ⟨a.1, rfl, rfl⟩) hl))
  · refine (de_neI (de_lenSet (ns := ps.map (·.1)) (de_ofN (dn_lcY (as := ps) (em := prD) (gv := fun p : Int × Int => D.int p.1) (di_list (de_var rfl)) rfl rfl (fun a _ => dg_name rfl rfl) (fun _ h => h) (fun a ha => de_ixT (du_of (de_var rfl)) de_int rfl) hl)) (.inl (by rw [List.map_map] <;> rfl)) (by rw [List.length_map]; exact h64) nd') (de_lenS (de_var rfl) (.inl rfl))).to ?_
    rw [List.length_map, List.length_map, beq_self_eq_true]
    rfl
  · exact de_ofN (dn_lcY (as := ps) (em := prD) (di_list (de_var rfl)) rfl rfl (fun a _ => dg_name rfl rfl) (fun _ h => h) (fun a ha => de_tupleT (de_var rfl)) hl)
abbrev N_is_things : List Str := ["value", "things", "thing"]
theorem sc_is_things : FnScope N_is_things ["value", "things"] (defScope (top 32)) := ⟨rfl, rfl, rfl, by decide +kernel, rfl, by decide +kernel, by decide +kernel⟩
theorem c_is_things (F : FnP K "is_things" (top 32) f fd) (hf : mg "is_things" = some (.ref f)) (b : Bs K mg) (q_is_lot : Cal P w K mg base 3 "is_lot" (spD K 1 Rlot) []) : Cal P w K mg base 4 "is_things" (spD K 2 Rthings) [] := by
  refine cal_of F hf (fn_dat F sc_is_things rfl fun cdv A outer s H E hr => ?_) fun _ _ _ _ _ _ us hl => match us, hl with | [_, _], _ => rfl
  have hu := room_u hr; have hu1 := room_u1 hr; have hu2 := room_u2 hr; have nd := (sc_is_things).nd
  refine ⟨_, (pss_one (ps_ret (pe_and (pe_c q_is_lot hr (by decide) rfl (pa_cons (pv 0) pa_nil)) (pe_one (pe_callB (cr_all rfl) rfl b.b_all PyProof.Rows.boot_all (pa_cons (pe_lc (own := [("thing", 2)]) rfl nd (pi_seq (pv 0)) (blkOk_by (own := [("thing", 2)]) (N := N_is_things) (sc := defScope (top 32)) (by decide +kernel)) (fun _ _ _ _ _ => (pg_name (i := 2) nd rfl (.inl rfl))) (fun _ _ _ _ _ => pts_nil) (fun _ _ _ _ _ => (pe_cmpR op_lt (pv 2) (pv 1) (nomark _)))) pa_nil)))))), fun ds d _ hR => ?_⟩

  obtain ⟨v, ns, m, rfl, hs, h0, nd', h64, rfl⟩ := hR
  refine b_ret (de_and (a := true) (b := true) (de_call (da_cons (de_var rfl) da_nil) rfl ⟨v, ns, rfl, hs, fun n hn => (h0 n hn).1, nd', h64, rfl⟩) fun _ => ?_)
  exact de_allT (dl_ofN (dn_lcY (as := ns) (em := D.int) (di_seq (de_var rfl) hs) rfl rfl (fun a _ => dg_name rfl rfl) (fun _ h => h) (fun a ha => (de_lt (de_var rfl) (de_var rfl)).to (by rw [decide_eq_true (h0 a ha).2])) (lt16 h64)))
abbrev N_is_string : List Str := ["value", "things"]
theorem sc_is_string : FnScope N_is_string ["value", "things"] (defScope (top 33)) := ⟨rfl, rfl, rfl, by decide +kernel, rfl, by decide +kernel, by decide +kernel⟩
theorem c_is_string (F : FnP K "is_string" (top 33) f fd) (hf : mg "is_string" = some (.ref f)) (b : Bs K mg) (q_is_things : Cal P w K mg base 4 "is_things" (spD K 2 Rthings) []) : Cal P w K mg base 5 "is_string" (spD K 2 Rstring) [] := by
  refine cal_of F hf (fn_dat F sc_is_string rfl fun cdv A outer s H E hr => ?_) fun _ _ _ _ _ _ us hl => match us, hl with | [_, _], _ => rfl
  have hu := room_u hr; have hu1 := room_u1 hr; have hu2 := room_u2 hr; have nd := (sc_is_string).nd
  refine ⟨_, (pss_one (ps_ret (pe_and (pe_c q_is_things hr (by decide) rfl (pa_cons (pv 0) (pa_cons (pv 1) pa_nil))) (pe_one (pe_cmpR op_eq (pe_callB call_len_seq rfl b.b_len PySem.boot_len (pa_cons (pv 0) pa_nil)) pe_int (nomark _)))))), fun ds d _ hR => ?_⟩

  obtain ⟨p, m, rfl, hp, rfl⟩ := hR
  unfold OkP at hp
  refine b_ret (de_and (a := true) (b := true) (de_call (da_cons (de_var rfl) (da_cons (de_var rfl) da_nil)) rfl ⟨prD p, [p.1, p.2], m, rfl, .inr rfl, fun n hn => ?_, ?_, by show 2 < 64; decide, rfl⟩) fun _ => (de_eqI (de_lenS (de_var rfl) (.inr rfl)) de_int).to rfl)
  · simp only [List.mem_cons, List.not_mem_nil, or_false] at hn
    rcases hn with rfl | rfl <;> omega
  · simp
    omega
abbrev N_strings_from : List Str := ["value", "things", "found", "each"]
theorem sc_strings_from : FnScope N_strings_from ["value", "things"] (defScope (top 34)) := ⟨rfl, rfl, rfl, by decide +kernel, rfl, by decide +kernel, by decide +kernel⟩
theorem c_strings_from (F : FnP K "strings_from" (top 34) f fd) (hf : mg "strings_from" = some (.ref f)) (b : Bs K mg) (q_is_string : Cal P w K mg base 5 "is_string" (spD K 2 Rstring) []) : Cal P w K mg base 6 "strings_from" (spD K 2 Rstrings) [] := by
  refine cal_of F hf (fn_dat F sc_strings_from rfl fun cdv A outer s H E hr => ?_) fun _ _ _ _ _ _ us hl => match us, hl with | [_, _], _ => rfl
  have hu := room_u hr; have hu1 := room_u1 hr; have hu2 := room_u2 hr; have nd := (sc_strings_from).nd
  refine ⟨_, (pss_cons (ps_if (PW.pt (pw_or (pt_not (pt_val (pe_callB call_isiT rfl b.b_isinstance PyProof.Rows.boot_isinstance (pa_cons (pv 0) (pa_cons (pe_tup (pa_cons (pe_bltn (v := .ty "list") rfl b.b_list PyProof.Rows.boot_list rfl) (pa_cons (pe_bltn (v := .ty "tuple") rfl b.b_tuple PyProof.Rows.boot_tuple rfl) pa_nil))) pa_nil))))) (pw_or1 (pt_not (pt_val (pe_callB (cr_all rfl) rfl b.b_all PyProof.Rows.boot_all (pa_cons (pe_lc (own := [("each", 3)]) rfl nd (pi_list (pv 0)) (blkOk_by (own := [("each", 3)]) (N := N_strings_from) (sc := defScope (top 34)) (by decide +kernel)) (fun _ _ _ _ _ => (pg_name (i := 3) nd rfl (.inl rfl))) (fun _ _ _ _ _ => pts_nil) (fun _ _ _ _ _ => (pe_c q_is_string hr (by decide) rfl (pa_cons (pv 3) (pa_cons (pv 1) pa_nil))))) pa_nil))))))) pss_never pss_nil) (pss_cons (ps_set (i := 2) nd rfl (.inl rfl) (pe_callB (cr_sortT (d := 2) (B := 64) (by decide)) rfl b.b_sorted PyProof.Rows.boot_sorted (pa_cons (pe_lc (own := [("each", 3)]) rfl nd (pi_list (pv 0)) (blkOk_by (own := [("each", 3)]) (N := N_strings_from) (sc := defScope (top 34)) (by decide +kernel)) (fun _ _ _ _ _ => (pg_name (i := 3) nd rfl (.inl rfl))) (fun _ _ _ _ _ => pts_nil) (fun _ _ _ _ _ => (pe_callTy (show CallR _ (.type "tuple") (rTupS K) from call_tuple_of) rfl b.b_tuple PyProof.Rows.boot_tuple (pa_cons (pe_callB (show CallR _ (.builtin "sorted") (rSortedU K) from cr_sortedU) rfl b.b_sorted PyProof.Rows.boot_sorted (pa_cons (pv 3) pa_nil)) pa_nil)))) pa_nil))) (pss_cons (ps_if (pt_cmpR op_ne (pe_lenSetP rfl hu rfl b.b_len rfl b.b_set (pv 2)) (pe_callB call_len_seq rfl b.b_len PySem.boot_len (pa_cons (pv 2) pa_nil)) (nomark _)) pss_never pss_nil) (pss_one (ps_ret (pe_callTy call_tuple_of rfl b.b_tuple PyProof.Rows.boot_tuple (pa_cons (pv 2) pa_nil))))))), fun ds d _ hR => ?_⟩

  obtain ⟨ps, m, rfl, hp, hm, nd', h64, rfl⟩ := hR
  have hl := lt16 h64
  have hb : ∀ p ∈ ps, BdP p := fun p h => by
    have := hp p h
    unfold OkP at this
    unfold BdP
    omega
  refine b_pass (dt_or (a := false) (b := false) (dt_not (a := true) (dt_B (de_isiS (de_var rfl) (.inl rfl)))) fun _ => dt_not (a := true) (dt_B ?_)) ?_
  · exact de_allT (dl_ofN (dn_lcY (as := ps) (em := prD) (di_list (de_var rfl)) rfl rfl (fun a _ => dg_name rfl rfl) (fun _ h => h) (fun a ha => de_call (da_cons (de_var rfl) (da_cons (de_var rfl) da_nil)) rfl ⟨a, m, rfl, hp a ha, rfl⟩) hl))
  refine b_seq (s_set (de_ofN (dn_sortT (dl_ofN (dn_lcY (as := ps) (em := prD) (gv := prD) (di_list (de_var rfl)) rfl rfl (fun a _ => dg_name rfl rfl) (fun _ h => h) (fun a ha => ?_) hl)) h64 hb)) rfl rfl) ?_
  · exact (de_tupleL (dl_ofN (dn_sortedU (ns := [a.1, a.2]) (du_of (de_var rfl)) (by show 2 < 64; decide)))).to (by rw [sort2 (hp a ha).2.1]; rfl)
  have pm := sortP_perm ps
  refine b_pass (dt_test ((de_neI (de_lenSetP (dl_of (de_var rfl)) (by rw [pm.length_eq]; exact h64) (pm.nodup_iff.mpr nd')) (de_lenL (dl_of (de_var rfl)))).to ?_)) (b_ret (de_tupleL (dl_of (de_var rfl))))
  rw [List.length_map, beq_self_eq_true]
  rfl
abbrev N_things_from : List Str := ["value", "things", "part"]
theorem sc_things_from : FnScope N_things_from ["value", "things", "part"] (defScope (top 35)) := ⟨rfl, rfl, rfl, by decide +kernel, rfl, by decide +kernel, by decide +kernel⟩
theorem c_things_from (F : FnP K "things_from" (top 35) f fd) (hf : mg "things_from" = some (.ref f)) (b : Bs K mg) (q_is_things : Cal P w K mg base 4 "is_things" (spD K 2 Rthings) []) : Cal P w K mg base 5 "things_from" (spD K 3 RthingsF) [] := by
  refine cal_of F hf (fn_dat F sc_things_from rfl fun cdv A outer s H E hr => ?_) fun _ _ _ _ _ _ us hl => match us, hl with | [_, _, _], _ => rfl
  have hu := room_u hr; have hu1 := room_u1 hr; have hu2 := room_u2 hr; have nd := (sc_things_from).nd
  refine ⟨_, (pss_cons (ps_if (pt_not (pt_val (pe_c q_is_things hr (by decide) rfl (pa_cons (pv 0) (pa_cons (pv 1) pa_nil))))) pss_never pss_nil) (pss_one (ps_ret (pe_callTy call_tuple_of rfl b.b_tuple PyProof.Rows.boot_tuple (pa_cons (pv 0) pa_nil))))), fun ds d _ hR => ?_⟩

  obtain ⟨v, ns, m, x, rfl, hs, h0, nd', h64, rfl⟩ := hR
  exact b_pass (dt_not (a := true) (dt_B (de_call (da_cons (de_var rfl) (da_cons (de_var rfl) da_nil)) rfl ⟨v, ns, m, rfl, hs, h0, nd', h64, rfl⟩))) (b_ret (de_tupleS (de_var rfl) hs))
abbrev N_turns_from : List Str := ["value", "looked", "pairs", "thing", "_", "turn"]
theorem sc_turns_from : FnScope N_turns_from ["value", "looked"] (defScope (top 36)) := ⟨rfl, rfl, rfl, by decide +kernel, rfl, by decide +kernel, by decide +kernel⟩
theorem c_turns_from (F : FnP K "turns_from" (top 36) f fd) (hf : mg "turns_from" = some (.ref f)) (b : Bs K mg) (q_pairs_in : Cal P w K mg base 2 "pairs_in" (spD K 1 Rpairs) []) (q_is_within : Cal P w K mg base 2 "is_within" (spD K 3 Rwithin) []) (q_is_turn : Cal P w K mg base 3 "is_turn" (spD K 1 Rturn) []) : Cal P w K mg base 4 "turns_from" (spD K 2 Rturns) [] := by
  refine cal_of F hf (fn_dat F sc_turns_from rfl fun cdv A outer s H E hr => ?_) fun _ _ _ _ _ _ us hl => match us, hl with | [_, _], _ => rfl
  have hu := room_u hr; have hu1 := room_u1 hr; have hu2 := room_u2 hr; have nd := (sc_turns_from).nd
  refine ⟨_, (pss_cons (ps_set (i := 2) nd rfl (.inl rfl) (pe_c q_pairs_in hr (by decide) rfl (pa_cons (pv 0) pa_nil))) (pss_cons (ps_if (PW.pt (pw_or (pt_cmpR op_isN (pv 2) pe_non (nomark _)) (pw_or1 (pt_not (pt_val (pe_callB (cr_all rfl) rfl b.b_all PyProof.Rows.boot_all (pa_cons (pe_lc (own := [("thing", 3), ("turn", 5)]) rfl nd (pi_list (pv 2)) (blkOk_by (own := [("thing", 3), ("turn", 5)]) (N := N_turns_from) (sc := defScope (top 36)) (by decide +kernel)) (fun _ _ _ _ _ => (show PG _ _ (gTup K 2 _) from pg_tup rfl (pgs_cons (pg_name (i := 3) nd rfl (.inl rfl)) (pgs_cons (pg_name (i := 5) nd rfl (.inl rfl)) pgs_nil)))) (fun _ _ _ _ _ => pts_nil) (fun _ _ _ _ _ => (pe_and (pe_c q_is_within hr (by decide) rfl (pa_cons (pv 3) (pa_cons pe_int (pa_cons pe_non pa_nil)))) (pe_one (pe_c q_is_turn hr (by decide) rfl (pa_cons (pv 5) pa_nil)))))) pa_nil))))))) pss_never pss_nil) (pss_cons (ps_if (pt_cmpR (op_neD hu) (pe_callB cr_sorted rfl b.b_sorted PyProof.Rows.boot_sorted (pa_cons (pe_lc (own := [("thing", 3), ("_", 4)]) rfl nd (pi_list (pv 2)) (blkOk_by (own := [("thing", 3), ("_", 4)]) (N := N_turns_from) (sc := defScope (top 36)) (by decide +kernel)) (fun _ _ _ _ _ => (show PG _ _ (gTup K 2 _) from pg_tup rfl (pgs_cons (pg_name (i := 3) nd rfl (.inl rfl)) (pgs_cons (pg_name (i := 4) nd rfl (.inl rfl)) pgs_nil)))) (fun _ _ _ _ _ => pts_nil) (fun _ _ _ _ _ => (pv 3))) pa_nil)) (pe_callTy call_list_of rfl b.b_list PyProof.Rows.boot_list (pa_cons (pv 1) pa_nil)) (nomark _)) pss_never pss_nil) (pss_one (ps_ret (pe_callTy call_tupF rfl b.b_tuple PyProof.Rows.boot_tuple (pa_cons (pe_callB (cr_sortT (d := 2) (B := 64) (by decide)) rfl b.b_sorted PyProof.Rows.boot_sorted (pa_cons (pv 2) pa_nil)) pa_nil))))))), fun ds d _ hR => ?_⟩

  obtain ⟨ps, lk, rfl, hp, nd', h64, hk, rfl⟩ := hR
  have hl := lt16 h64
  have hb : ∀ p ∈ ps, BdP p := fun p h => by
    have := hp p h
    unfold OkT at this
    unfold BdP
    omega
  refine b_seq (s_set (de_call (da_cons (de_var rfl) da_nil) rfl ⟨ps, rfl, nd', h64, rfl⟩) rfl rfl) ?_
  refine b_pass (dt_or (a := false) (b := false) (dt_test (de_isN (de_var rfl) isN_lst)) fun _ => dt_not (a := true) (dt_B ?_)) ?_
  · refine de_allT (dl_ofN (dn_lcY (as := ps) (em := prD) (di_list (de_var rfl)) rfl rfl (fun a _ => dg_pair (p := (.int a.1, .int a.2)) rfl rfl rfl rfl rfl) (fun _ h => h) (fun a ha => ?_) hl))
    have := hp a ha
    unfold OkT at this
    exact de_and (a := true) (b := true) (de_call (da_cons (de_var rfl) (da_cons de_int (da_cons de_non da_nil))) rfl ⟨a.1, some 0, none, rfl, fun l e => by cases e; omega, fun l e => (nomatch e), rfl⟩) fun _ => de_call (da_cons (de_var rfl) da_nil) rfl ⟨a.2, rfl, by omega, by omega, rfl⟩
  refine b_pass (dt_test ((de_neLI (xs := sortI (ps.map (·.1))) (ys := lk) (de_ofN (dn_sorted (dl_ofN ((dn_lcY (as := ps) (em := prD) (gv := fun p : Int × Int => D.int p.1) (di_list (de_var rfl)) rfl rfl (fun a _ => dg_pair (p := (.int a.1, .int a.2)) rfl rfl rfl rfl rfl) (fun _ h => h) (fun a ha => de_var rfl) hl).to (by rw [List.map_map] <;> rfl))) (by rw [List.length_map]; exact h64))) (de_ofN (dn_listT (du_of (de_var rfl))))).to (by rw [hk, decide_eq_true rfl]; rfl))) ?_
  exact b_ret (de_tupF (dl_ofN (dn_sortT (dl_of (de_var rfl)) h64 hb)))

end
end Lk
set_option maxHeartbeats 1000000
namespace Lk
open PySem PySem.Spec PyProof.Rows L2
open Evl (Ex)
open C8 (Cal pe_c Mak pe_mk)

/-! ### enumerate(t), t a tuple -/
theorem en1_new (a : Addr) (its : Array Value) : Meets (Builtin.«enumerate.__new__» ⟨[.type "enumerate", .ref a], []⟩) (fun _ R z => z.heap.IsTuple a its ∧
      R (.ok (.ret (.ref (z.heap.push { cls := .type "tuple_iterator", data := .fields #[.ref a, .int 0 0] }).objs.size)))
        { z with heap := (z.heap.push { cls := .type "tuple_iterator", data := .fields #[.ref a, .int 0 0] }).push { cls := .type "enumerate", data := .fields #[.none, .bool false, .ref z.heap.objs.size, rawInt 0, .none, .none] } }) :=
  .of_wp fun prog w A R z hz => by
    obtain ⟨hp, g, d, tk, os⟩ := z
    obtain ⟨h1, hz⟩ := hz
    have hsub := sub_enumerate
    have q1 : ∀ {A' : Around} {E' : Value → Shared → Prop} {Q' : Value → Shared → Prop}, Q' (.ref hp.objs.size) ⟨hp.push { cls := .type "tuple_iterator", data := .fields #[.ref a, .int 0 0] }, g, d, tk, os⟩ → wpAny (model prog w) A' (pyIter (.ref a)) Q' E' ⟨hp, g, d, tk, os⟩ :=
      fun q => (begins_tuple a its).iter prog w _ _ ⟨hp, g, d, tk, os⟩ _ h1 q
    wp_walk using q1
    refine wpAny_stack_any fun st => wpAny_pure ?_
    split
    · rename_i c _ _ _ _ _
      cases c == Value.type "enumerate" <;> (wp_walk using q1; exact ⟨_, rfl, hz⟩)
    · wp_walk using q1
      exact ⟨_, rfl, hz⟩
theorem en1_call {prog : Program} {w : World} {A : Around} {E : Value → Shared → Prop} {z : Shared} {a : Addr} {its : Array Value} {Q : Value → Shared → Prop} (h1 : z.heap.IsTuple a its)
    (hq : ∀ h', IsEnum h' (z.heap.objs.size + 1) z.heap.objs.size 0 .none → h'.IsTupleIter z.heap.objs.size a 0 → (∀ b o, z.heap.get? b = some o → h'.get? b = some o) → Q (.ref (z.heap.objs.size + 1)) { z with heap := h' }) :
    wpAny (model prog w) A (call (.type "enumerate") [.ref a]) Q E z := by
  refine callType_new F.called_enumerate (by decide) (F.typeCall_enumerate_1 _) (F.newCall_enumerate_1 _) (fun ob => F.args_object_init_2 ob _) F.entry_enumerate_new (en1_new a its) ⟨h1, ?_⟩
  have sz : (z.heap.push { cls := .type "tuple_iterator", data := .fields #[.ref a, .int 0 0] }).objs.size = z.heap.objs.size + 1 := Heap.size_push ..
  show _ ∧ _
  rw [sz]
  have en : IsEnum ((z.heap.push { cls := .type "tuple_iterator", data := .fields #[.ref a, .int 0 0] }).push { cls := .type "enumerate", data := .fields #[.none, .bool false, .ref z.heap.objs.size, rawInt 0, .none, .none] }) (z.heap.objs.size + 1) z.heap.objs.size 0 .none := by
    have t := Heap.get?_push_size (z.heap.push { cls := .type "tuple_iterator", data := .fields #[.ref a, .int 0 0] }) (o := { cls := .type "enumerate", data := .fields #[.none, .bool false, .ref z.heap.objs.size, rawInt 0, .none, .none] }) rfl
    rw [sz] at t
    exact t
  exact ⟨⟨_, en, rfl⟩, hq _ en ⟨_, Heap.get?_push_of_some _ (Heap.get?_push_size _ rfl), rfl, rfl⟩ fun b o x => Heap.get?_push_of_some _ (Heap.get?_push_of_some _ x)⟩
def IteT (K : PySem.W.Frag) (a : Addr) : It :=
  ⟨fun i H => ∃ (xs : List V) (x : V), SqT K H a xs ∧ xs[i]? = some x, fun i H v H' => ∃ T x, v = .ref T ∧ H T = none ∧ H' = upd H T (.tup [.int (i : Nat), x]) ∧ ∀ xs, SqT K H a xs → xs[i]? = some x, fun i H => ∃ xs : List V, SqT K H a xs ∧ xs.length = i⟩
theorem turn_enT {P : Program} {w : World} {K : PySem.W.Frag} {elts : List Expr} {kk : Nat} {tpos : Pos} (a e it : Addr) (vals : Array Value) :
    Turn P w K (.Tuple elts kk tpos) (IteT K a) [e, it] e (fun i h => (∃ old, IsEnum h e it ((i : Nat) : Int) old) ∧ h.IsTupleIter it a i ∧ e ≠ it ∧ e ≠ a ∧ a ≠ it) where
  mem := by simp
  obj := fun i h st b hb => by
    obtain ⟨⟨old, he⟩, ⟨o, ho, hc, hd⟩, _⟩ := st
    have e' : b = e ∨ b = it := by simpa using hb
    rcases e' with z | z
    · subst z
      exact ⟨_, he, fun v q => nomatch q⟩
    · subst z
      exact ⟨o, ho, fun v q => by rw [hd] at q; cases q⟩
  keep := fun i h h' st k => let ⟨⟨old, he⟩, hi, hne⟩ := st; ⟨⟨old, k e (by simp) _ he⟩, hi.at fun o q => k it (by simp) o q, hne⟩
  item := by
    intro X hP hw hK hc i pins s σ H E I hf st hg
    subst hP hw hK
    obtain ⟨⟨old, he⟩, hit, hne, hea, hai⟩ := st
    obtain ⟨xs, x, hq, hx⟩ := hg
    obtain ⟨its, rv, p, hz⟩ := I.tuple hq
    obtain ⟨u, hu, ru⟩ := rv.get hx
    have hel : e < s.heap.objs.size := Heap.lt_size he
    have hil : it < s.heap.objs.size := by
      obtain ⟨_, q, _⟩ := hit
      exact Heap.lt_size q
    have hi : i < its.toArray.size := by
      have := (List.getElem?_eq_some_iff.mp hu).1
      simpa using this
    refine wpAny_pyNext_enum_itemC (D := Draws.tuple (A := X.A.in1) (I.ok.hd hc) it a hai its.toArray) he ⟨hit, p⟩ hi hne (by simp [hne, hea]) fun v h' tk hv ho hst hT hsz hk => ?_
    have ev : v = u := by
      have hv2 : its[i]? = some v := by simpa using hv
      rw [hu] at hv2
      exact (Option.some.inj hv2).symm
    subst ev
    refine ⟨_, rfl, wpAny_letOwnedTupleGo_enum (s := { s with heap := h', toks := tk + 1 }) ho fun h'' he' sb => ?_⟩
    have hT2 : h''.get? s.heap.objs.size = some { cls := .type "tuple", data := .seq #[.int i tk, v] } := (sb.2 _ (Nat.ne_of_gt hel)).trans hT
    have new : ObjOk X.prog X.w (upd H s.heap.objs.size (.tup [.int (i : Nat), x])) h'' s.heap.objs.size (.tup [.int (i : Nat), x]) :=
      ⟨by show 2 ≤ sizeLine; decide, [.int i tk, v], .cons ⟨_, rfl⟩ (.cons ru .nil), ⟨_, hT2, rfl, _, rfl⟩⟩
    have I1 : Inv X pins σ (upd H s.heap.objs.size (.tup [.int (i : Nat), x])) { s with heap := h'', toks := tk + 1 } :=
      I.turnedNew (ch := [e, it]) (fun b ob hb q => (sb.2 b (fun z => hb (by simp [z]))).trans (hk b ob (fun z => hb (by simp [z])) (fun z => hb (by simp [z])) q)) hf (Nat.le_refl _) new
    refine ⟨.ref s.heap.objs.size, _, I1, rfl, ⟨_, x, rfl, I.hok.fresh (Nat.le_refl _), rfl, fun ys hy => by rw [I.tuple_inj hy hq]; exact hx⟩, ⟨⟨v, ?_⟩, hst.1.at fun o q => (sb.2 it (Ne.symm hne)).trans q, hne, hea, hai⟩, fun b hb => ?_⟩
    · have e1 : ((i + 1 : Nat) : Int) = (i : Int) + 1 := by omega
      rw [e1]
      exact he'
    · have hb' : b < s.heap.objs.size := by
        have e' : b = e ∨ b = it := by simpa using hb
        rcases e' with z | z
        · subst z
          exact hel
        · subst z
          exact hil
      rw [upd_ne (Nat.ne_of_lt hb')]
      exact (hf b hb).1
  done := by
    intro X hP hw hK hc i pins s σ H E I hf st hg
    subst hP hw hK
    obtain ⟨⟨old, he⟩, hit, hne, hea, hai⟩ := st
    obtain ⟨xs, hq, hx⟩ := hg
    obtain ⟨its, rv, p, hz⟩ := I.tuple hq
    obtain ⟨f0, f1, f2, f3, f4, f5⟩ := hf it (by simp)
    have hl : its.toArray.size = i := by rw [List.size_toArray, ← rv.length, hx]
    subst hl
    exact wpAny_pyNext_enum_endD (D := Draws.tuple (A := X.A.in1) (I.ok.hd hc) it a hai its.toArray) he ⟨hit, p⟩ fun h' eb => ⟨rfl, I.turned (t' := s.toks) (fun b o hb q => eb b o hb q) f0 f1 f3 f4 f5⟩
  self := fun A i s Q E st h => let ⟨⟨_, he⟩, _⟩ := st; wpAny_pyIter_enum he h
def iEnT (K : PySem.W.Frag) (ta : TA) : TI := fun σ H R => ta σ H fun vs H1 => ∃ a xs, vs = [.ref a] ∧ SqT K H1 a xs ∧ R (IteT K a) H1
theorem pi_enumT {X : Cx} {e : Expr} {ta : TA} {p pos tpos : Pos} {elts : List Expr} {kk : Nat} (hg : Gl X "enumerate") (hm : X.mg "enumerate" = none) (ha : PA X [e] ta) (hs : starEach [e] X.env = [(false, eval e X.env)] := by rfl) :
    PI X (.Tuple elts kk tpos) (.Call (.Name "enumerate" p) [e] [] pos) (iEnT X.K ta) := by
  refine ⟨fun pins s σ H R J hw => Call_ (ld_blt J hg hm boot_enumerate (PyProof.Rows.callWith_type1 (thn (ha.run pos pins s σ H _ J hw) fun us s1 ⟨vs, H1, J1, r1, q1⟩ => ?_) hs rfl))⟩
  obtain ⟨a, xs, rfl, hq, q⟩ := q1
  cases r1 with
  | cons r rr =>
    cases rr
    cases r
    obtain ⟨its, rv, tu, hz⟩ := J1.tuple hq
    have lt : a < s1.heap.objs.size := tu.lt
    refine en1_call (show s1.heap.IsTuple a its.toArray from tu) fun h' he hit hk => wpAny_pyIter_enum he ?_
    have J2 : Inv X pins σ H1 { s1 with heap := h' } := J1.kept (t' := s1.toks) hk
    refine ⟨s1.heap.objs.size + 1, [s1.heap.objs.size + 1, s1.heap.objs.size], _, _, H1, rfl, J2, turn_enT a (s1.heap.objs.size + 1) s1.heap.objs.size its.toArray, ⟨⟨.none, he⟩, hit, Nat.succ_ne_self _, Nat.ne_of_gt (Nat.lt_succ_of_lt lt), Nat.ne_of_lt lt⟩, fun b hb => ?_, q⟩
    have hle : s1.heap.objs.size ≤ b := by
      have e' : b = s1.heap.objs.size + 1 ∨ b = s1.heap.objs.size := by simpa using hb
      rcases e' with z | z
      · subst z
        exact Nat.le_succ _
      · subst z
        exact Nat.le_refl _
    exact J1.fpOk hle (J1.hok.fresh hle)
theorem walk_enT {K : PySem.W.Frag} {a : Addr} {xs : List V} : Walk (IteT K a) xs.length (fun H => SqT K H a xs) (YPair (fun i => some (.int (i : Nat))) (fun i => xs[i]?)) := by
  refine ⟨fun i _ hi q => ⟨xs, xs[i], q, by simp [hi]⟩, fun _ q => ⟨xs, q, rfl⟩, fun i H v H' _ q y => ?_⟩
  obtain ⟨T, x, h1, h2, h3, h4⟩ := y
  exact ⟨T, .int (i : Nat), x, h1, h2, h3, rfl, h4 xs q⟩
section
variable {K : PySem.W.Frag} {Γ : Ctx} {te : TE} {ds : List D}
theorem di_enumT (h : DU K te Γ ds) : DI K (iEnT K (tCons te tNil)) Γ (enumD ds) := fun F H σ E R r => h F H σ E _ fun a xs H1 e s al => by
  refine ⟨a, xs, rfl, Evl.ex_t hid_le s, r (IteT K a) H1 (fun H' => SqT K H' a xs) e (fun H' e' => Evl.ex_t e' s) ?_⟩
  rw [enumD_length, ← al.length]
  refine walk_enT.mono (fun _ q => q) fun i Ha x Hb hi _ y => ?_
  obtain ⟨T, a1, b1, rfl, hT, rfl, h1, h2⟩ := y
  obtain ⟨d, q1, q2⟩ := al.getV h2
  cases h1
  exact ⟨_, enumD_get q1, .inr ⟨T, _, b1, _, d, rfl, hT, rfl, rfl, .int _, q2⟩⟩
end
end Lk
set_option maxHeartbeats 1000000
namespace Lk
open PySem PySem.Spec PyProof.Rows L2
open Evl (Ex)
open C8 (Cal pe_c Mak pe_mk)

/-! ### amounts -/
def Amt.rot1 (x : Amt) : Amt := ⟨-x.d, x.a, x.b, x.c⟩
def Amt.rot2 (x : Amt) : Amt := ⟨-x.c, -x.d, x.a, x.b⟩
def Amt.rot3 (x : Amt) : Amt := ⟨-x.b, -x.c, -x.d, x.a⟩
def Amt.mirror (x : Amt) : Amt := ⟨x.a, -x.d, -x.c, -x.b⟩
def Amt.turn (x : Amt) (t : Int) : Amt :=
  let y := if t % 4 = 1 then x.rot1 else x
  let z := if t % 4 = 2 then y.rot2 else y
  let u := if t % 4 = 3 then z.rot3 else z
  if t % 8 < 4 then u else u.minus
def Amt.oth1 (x : Amt) : Amt := ⟨x.a, x.d, -x.c, x.b⟩
def Amt.oth2 (x : Amt) : Amt := ⟨x.a, -x.b, x.c, -x.d⟩
def Amt.others (x : Amt) : Amt := (x.oth1.times x.oth2).times x.mirror
def Amt.p (x : Amt) : Int := x.a * x.a + x.b * x.b + x.c * x.c + x.d * x.d
def Amt.q (x : Amt) : Int := x.a * x.b + x.b * x.c + x.c * x.d - x.d * x.a
def lenP (s : List Amt) : Int := (s.map Amt.p).sum
def lenQ (s : List Amt) : Int := (s.map Amt.q).sum
def Rminus : List D → D → Prop := fun ds d => ∃ x, ds = [amtD x] ∧ d = amtD x.minus
def Rmirror : List D → D → Prop := fun ds d => ∃ x, ds = [amtD x] ∧ d = amtD x.mirror
def Rturnby : List D → D → Prop := fun ds d => ∃ x t, ds = [amtD x, .int t] ∧ d = amtD (x.turn t)
def Rothers : List D → D → Prop := fun ds d => ∃ x n, ds = [amtD x] ∧ Bd n x ∧ 0 < n ∧ n ≤ 200000 ∧ d = amtD x.others
def Rlength : List D → D → Prop := fun ds d => ∃ (s : List Amt) (n : Nat), ds = [.tup (s.map amtD)] ∧ (∀ x ∈ s, Bd n x) ∧ 0 < n ∧ n ≤ 400000 ∧ d = .tup [.int (lenP s), .int (lenQ s)]
theorem natAbs_lt_pow {i : Int} {n m : Nat} (h : i.natAbs < 2 ^ n) (hm : n ≤ m) : i.natAbs < 2 ^ m := Nat.lt_of_lt_of_le h (Nat.pow_le_pow_right (by decide) hm)
theorem Bd.mono {n m : Nat} {x : Amt} (h : Bd n x) (hm : n ≤ m) : Bd m x := ⟨natAbs_lt_pow h.a hm, natAbs_lt_pow h.b hm, natAbs_lt_pow h.c hm, natAbs_lt_pow h.d hm⟩
theorem nat_sum4 {a b c d e : Int} {n : Nat} (e1 : e.natAbs ≤ a.natAbs + b.natAbs + c.natAbs + d.natAbs) (h1 : a.natAbs < 2 ^ n) (h2 : b.natAbs < 2 ^ n) (h3 : c.natAbs < 2 ^ n) (h4 : d.natAbs < 2 ^ n) : e.natAbs < 2 ^ (n + 2) := by
  rw [Nat.pow_add]
  omega
theorem Bd.times {n m : Nat} {x y : Amt} (h : Bd n x) (g : Bd m y) : Bd (n + m + 2) (x.times y) := by
  refine ⟨nat_sum4 ?_ (wide_lt h.a g.a) (wide_lt h.b g.d) (wide_lt h.c g.c) (wide_lt h.d g.b), nat_sum4 ?_ (wide_lt h.a g.b) (wide_lt h.b g.a) (wide_lt h.c g.d) (wide_lt h.d g.c), nat_sum4 ?_ (wide_lt h.a g.c) (wide_lt h.b g.b) (wide_lt h.c g.a) (wide_lt h.d g.d), nat_sum4 ?_ (wide_lt h.a g.d) (wide_lt h.b g.c) (wide_lt h.c g.b) (wide_lt h.d g.a)⟩ <;> (simp only [Amt.times]; omega)
theorem Bd.oth1 {n : Nat} {x : Amt} (h : Bd n x) : Bd n x.oth1 := ⟨h.a, h.d, by rw [show x.oth1.c = -x.c from rfl, Int.natAbs_neg]; exact h.c, h.b⟩
theorem Bd.oth2 {n : Nat} {x : Amt} (h : Bd n x) : Bd n x.oth2 := ⟨h.a, by rw [show x.oth2.b = -x.b from rfl, Int.natAbs_neg]; exact h.b, h.c, by rw [show x.oth2.d = -x.d from rfl, Int.natAbs_neg]; exact h.d⟩
theorem Bd.mirror {n : Nat} {x : Amt} (h : Bd n x) : Bd n x.mirror := ⟨h.a, by rw [show x.mirror.b = -x.d from rfl, Int.natAbs_neg]; exact h.d, by rw [show x.mirror.c = -x.c from rfl, Int.natAbs_neg]; exact h.c, by rw [show x.mirror.d = -x.b from rfl, Int.natAbs_neg]; exact h.b⟩
theorem Bd.others {n : Nat} {x : Amt} (h : Bd n x) : Bd (3 * n + 4) x.others := ((h.oth1.times h.oth2).times h.mirror).mono (by omega)

section
variable {K : PySem.W.Frag} {Γ Γ' Γ1 Γ2 Γw : Ctx} {ta tb te tc : TE} {tt tu : TT} {d e : D} {ds es : List D} {t u w : TS}
theorem de_mod {i j : Int} (ha : DE K ta Γ (.int i)) (hb : DE K tb Γ (.int j)) (hc : 0 < j) : DE K (tOp (rI (fun _ j => 0 < j) fun i j => .int (i % j)) ta tb) Γ (.int (i % j)) := de_opI ha hb hc fun _ => .int _
theorem de_fdiv {i j : Int} (ha : DE K ta Γ (.int i)) (hb : DE K tb Γ (.int j)) (hc : CDivW i j) : DE K (tOp (rI CDivW fun i j => .int (i / j)) ta tb) Γ (.int (i / j)) := de_opI ha hb hc fun _ => .int _
/-- a, b, c, d = .. -/
theorem dg_amt {i j k l : Nat} {x : Amt} (hi : Γ[i]? = some .no ∨ ∃ d, Γ[i]? = some (.dat d)) (hj : Γ[j]? = some .no ∨ ∃ d, Γ[j]? = some (.dat d)) (hk : Γ[k]? = some .no ∨ ∃ d, Γ[k]? = some (.dat d)) (hl : Γ[l]? = some .no ∨ ∃ d, Γ[l]? = some (.dat d)) (hij : i ≠ j) (hik : i ≠ k) (hil : i ≠ l) (hjk : j ≠ k) (hjl : j ≠ l) (hkl : k ≠ l) :
    DG K (gTup K 4 (gCons (gName i) (gCons (gName j) (gCons (gName k) (gCons (gName l) gNil))))) [i, j, k, l] (amtD x) Γ ((((Γ.set i (.dat (.int x.a))).set j (.dat (.int x.b))).set k (.dat (.int x.c))).set l (.dat (.int x.d))) := by
  have f : ∀ {Γ : Ctx} {i : Nat}, (Γ[i]? = some .no ∨ ∃ d, Γ[i]? = some (.dat d)) → ∃ x, Γ[i]? = some x ∧ own1 x = [] := fun h => h.elim (fun h => ⟨_, h, rfl⟩) fun ⟨d, h⟩ => ⟨_, h, rfl⟩
  obtain ⟨x1, h1, o1⟩ := f hi
  obtain ⟨x2, h2, o2⟩ := f hj
  obtain ⟨x3, h3, o3⟩ := f hk
  obtain ⟨x4, h4, o4⟩ := f hl
  refine dg_tup (dgs_cons (dg_name h1 o1) (dgs_cons (dg_name (x := x2) ?_ o2) (dgs_cons (dg_name (x := x3) ?_ o3) (dgs_cons (dg_name (x := x4) ?_ o4) dgs_nil)))) rfl
  · rw [List.getElem?_set_ne hij, h2]
  · rw [List.getElem?_set_ne hjk, List.getElem?_set_ne hik, h3]
  · rw [List.getElem?_set_ne hkl, List.getElem?_set_ne hjl, List.getElem?_set_ne hil, h4]
end
section
variable {P : Program} {w : World} {K : PySem.W.Frag} {mg : Str → Option Value} {base : Heap} {f : Addr} {fd : FuncData}
local macro_rules | `(tactic| walk_at "d") => `(tactic| repeat' first
  | exact de_int | exact de_bl | exact de_non | exact de_str | exact de_var rfl
  | refine de_ixT (du_of ?_) ?_ rfl | refine de_ixL (dl_of ?_) ?_ rfl
  | refine de_add ?_ ?_ | refine de_sub ?_ ?_ | refine de_neg ?_ | refine de_mul ?_ ?_ ?_ | refine de_mod ?_ ?_ ?_
  | refine de_le ?_ ?_ | refine de_lt ?_ ?_ | refine de_ge ?_ ?_ | refine de_gt ?_ ?_
  | refine de_eqI ?_ ?_ | refine de_neI ?_ ?_ | refine de_not ?_ | refine dt_not ?_ | refine dt_B ?_ | refine dt_test ?_
  | exact da_nil | refine da_cons ?_ ?_)
abbrev N_minus : List Str := ["amount"]
theorem sc_minus : FnScope N_minus ["amount"] (defScope (top 49)) := ⟨rfl, rfl, rfl, by decide +kernel, rfl, by decide +kernel, by decide +kernel⟩
theorem c_minus (F : FnP K "minus" (top 49) f fd) (hf : mg "minus" = some (.ref f)) (b : Bs K mg) : Cal P w K mg base 1 "minus" (spD K 1 Rminus) [] := by
  refine cal_of F hf (fn_dat F sc_minus rfl fun cdv A outer s H E hr => ?_) fun _ _ _ _ _ _ us hl => match us, hl with | [_], _ => rfl
  have hu := room_u hr; have hu1 := room_u1 hr; have hu2 := room_u2 hr; have nd := (sc_minus).nd
  refine ⟨_, (pss_one (ps_ret (pe_tup (pa_cons (pe_un un_neg (pe_ix ix_tup (pv 0) pe_int (fun _ _ => rfl))) (pa_cons (pe_un un_neg (pe_ix ix_tup (pv 0) pe_int (fun _ _ => rfl))) (pa_cons (pe_un un_neg (pe_ix ix_tup (pv 0) pe_int (fun _ _ => rfl))) (pa_cons (pe_un un_neg (pe_ix ix_tup (pv 0) pe_int (fun _ _ => rfl))) pa_nil))))))), fun ds d _ hR => ?_⟩

  obtain ⟨x, rfl, rfl⟩ := hR
  exact b_ret (de_tup (da_cons (de_neg (de_ixT (amt_at rfl) de_int rfl)) (da_cons (de_neg (de_ixT (amt_at rfl) de_int rfl)) (da_cons (de_neg (de_ixT (amt_at rfl) de_int rfl)) (da_cons (de_neg (de_ixT (amt_at rfl) de_int rfl)) da_nil)))) (Nat.le_of_ble_eq_true rfl))
theorem c_times (F : FnP K "times" (top 50) f fd) (hf : mg "times" = some (.ref f)) (b : Bs K mg) : Cal P w K mg base 1 "times" (spD K 2 Rtimes) [] := by
  refine cal_of F hf (fn_dat F sc_times rfl fun cdv A outer s H E hr => ?_) fun _ _ _ _ _ _ us hl => match us, hl with | [_, _], _ => rfl
  have hu := room_u hr; have hu1 := room_u1 hr; have hu2 := room_u2 hr; have nd := (sc_times).nd
  refine ⟨_, (pss_cons (ps_asg (pv 0) (pg_tup rfl (pgs_cons (pg_name (i := 2) nd rfl (.inl rfl)) (pgs_cons (pg_name (i := 3) nd rfl (.inl rfl)) (pgs_cons (pg_name (i := 4) nd rfl (.inl rfl)) (pgs_cons (pg_name (i := 5) nd rfl (.inl rfl)) pgs_nil)))))) (pss_cons (ps_asg (pv 1) (pg_tup rfl (pgs_cons (pg_name (i := 6) nd rfl (.inl rfl)) (pgs_cons (pg_name (i := 7) nd rfl (.inl rfl)) (pgs_cons (pg_name (i := 8) nd rfl (.inl rfl)) (pgs_cons (pg_name (i := 9) nd rfl (.inl rfl)) pgs_nil)))))) (pss_one (ps_ret (pe_tup (pa_cons (pe_op op_sub (pe_op op_sub (pe_op op_sub (pe_op op_mulW (pv 2) (pv 6)) (pe_op op_mulW (pv 3) (pv 9))) (pe_op op_mulW (pv 4) (pv 8))) (pe_op op_mulW (pv 5) (pv 7))) (pa_cons (pe_op op_sub (pe_op op_sub (pe_op op_add (pe_op op_mulW (pv 2) (pv 7)) (pe_op op_mulW (pv 3) (pv 6))) (pe_op op_mulW (pv 4) (pv 9))) (pe_op op_mulW (pv 5) (pv 8))) (pa_cons (pe_op op_sub (pe_op op_add (pe_op op_add (pe_op op_mulW (pv 2) (pv 8)) (pe_op op_mulW (pv 3) (pv 7))) (pe_op op_mulW (pv 4) (pv 6))) (pe_op op_mulW (pv 5) (pv 9))) (pa_cons (pe_op op_add (pe_op op_add (pe_op op_add (pe_op op_mulW (pv 2) (pv 9)) (pe_op op_mulW (pv 3) (pv 8))) (pe_op op_mulW (pv 4) (pv 7))) (pe_op op_mulW (pv 5) (pv 6))) pa_nil))))))))), fun ds d _ hR => ?_⟩

  obtain ⟨x, y, n, m, rfl, hx, hy, hn, hm, hnm, rfl⟩ := hR
  have hw : ∀ {i j : Int}, i.natAbs < 2 ^ n → j.natAbs < 2 ^ m → CMulW i j := fun h1 h2 => wide_mul h1 h2 hn hm (by omega)
  refine b_seq (s_asg (d := amtD x) (de_var rfl) (dg_amt (.inl rfl) (.inl rfl) (.inl rfl) (.inl rfl) (by decide) (by decide) (by decide) (by decide) (by decide) (by decide))) ?_
  refine b_seq (s_asg (d := amtD y) (de_var rfl) (dg_amt (.inl rfl) (.inl rfl) (.inl rfl) (.inl rfl) (by decide) (by decide) (by decide) (by decide) (by decide) (by decide))) ?_
  refine b_ret (de_tup (ds := [.int _, .int _, .int _, .int _]) ?_ (Nat.le_of_ble_eq_true rfl))
  have a1 := hw hx.a hy.a
  refine da_cons (de_sub (de_sub (de_sub (de_mul (de_var rfl) (de_var rfl) (hw hx.a hy.a)) (de_mul (de_var rfl) (de_var rfl) (hw hx.b hy.d))) (de_mul (de_var rfl) (de_var rfl) (hw hx.c hy.c))) (de_mul (de_var rfl) (de_var rfl) (hw hx.d hy.b))) ?_
  refine da_cons (de_sub (de_sub (de_add (de_mul (de_var rfl) (de_var rfl) (hw hx.a hy.b)) (de_mul (de_var rfl) (de_var rfl) (hw hx.b hy.a))) (de_mul (de_var rfl) (de_var rfl) (hw hx.c hy.d))) (de_mul (de_var rfl) (de_var rfl) (hw hx.d hy.c))) ?_
  refine da_cons (de_sub (de_add (de_add (de_mul (de_var rfl) (de_var rfl) (hw hx.a hy.c)) (de_mul (de_var rfl) (de_var rfl) (hw hx.b hy.b))) (de_mul (de_var rfl) (de_var rfl) (hw hx.c hy.a))) (de_mul (de_var rfl) (de_var rfl) (hw hx.d hy.d))) ?_
  exact da_cons (de_add (de_add (de_add (de_mul (de_var rfl) (de_var rfl) (hw hx.a hy.d)) (de_mul (de_var rfl) (de_var rfl) (hw hx.b hy.c))) (de_mul (de_var rfl) (de_var rfl) (hw hx.c hy.b))) (de_mul (de_var rfl) (de_var rfl) (hw hx.d hy.a))) da_nil

/-- the slots of turn_by -/
def ctxT (x : Amt) (t : Int) (y : Amt) : Ctx := [.dat (amtD x), .dat (.int t), .dat (.int (t % 4)), .dat (.int y.a), .dat (.int y.b), .dat (.int y.c), .dat (.int y.d)]
abbrev N_turn_by : List Str := ["amount", "turn", "rest", "a", "b", "c", "d"]
theorem sc_turn_by : FnScope N_turn_by ["amount", "turn"] (defScope (top 51)) := ⟨rfl, rfl, rfl, by decide +kernel, rfl, by decide +kernel, by decide +kernel⟩
theorem c_turn_by (F : FnP K "turn_by" (top 51) f fd) (hf : mg "turn_by" = some (.ref f)) (b : Bs K mg) : Cal P w K mg base 1 "turn_by" (spD K 2 Rturnby) [] := by
  refine cal_of F hf (fn_dat F sc_turn_by rfl fun cdv A outer s H E hr => ?_) fun _ _ _ _ _ _ us hl => match us, hl with | [_, _], _ => rfl
  have hu := room_u hr; have hu1 := room_u1 hr; have hu2 := room_u2 hr; have nd := (sc_turn_by).nd
  refine ⟨_, (pss_cons (ps_asg (pv 0) (pg_tup rfl (pgs_cons (pg_name (i := 3) nd rfl (.inl rfl)) (pgs_cons (pg_name (i := 4) nd rfl (.inl rfl)) (pgs_cons (pg_name (i := 5) nd rfl (.inl rfl)) (pgs_cons (pg_name (i := 6) nd rfl (.inl rfl)) pgs_nil)))))) (pss_cons (ps_set (i := 2) nd rfl (.inl rfl) (pe_op op_mod (pv 1) pe_int)) (pss_cons (ps_if (pt_cmpR op_eq (pv 2) pe_int (nomark _)) (pss_one (ps_asg (pe_tup (pa_cons (pe_un un_neg (pv 6)) (pa_cons (pv 3) (pa_cons (pv 4) (pa_cons (pv 5) pa_nil))))) (pg_tup rfl (pgs_cons (pg_name (i := 3) nd rfl (.inl rfl)) (pgs_cons (pg_name (i := 4) nd rfl (.inl rfl)) (pgs_cons (pg_name (i := 5) nd rfl (.inl rfl)) (pgs_cons (pg_name (i := 6) nd rfl (.inl rfl)) pgs_nil))))))) pss_nil) (pss_cons (ps_if (pt_cmpR op_eq (pv 2) pe_int (nomark _)) (pss_one (ps_asg (pe_tup (pa_cons (pe_un un_neg (pv 5)) (pa_cons (pe_un un_neg (pv 6)) (pa_cons (pv 3) (pa_cons (pv 4) pa_nil))))) (pg_tup rfl (pgs_cons (pg_name (i := 3) nd rfl (.inl rfl)) (pgs_cons (pg_name (i := 4) nd rfl (.inl rfl)) (pgs_cons (pg_name (i := 5) nd rfl (.inl rfl)) (pgs_cons (pg_name (i := 6) nd rfl (.inl rfl)) pgs_nil))))))) pss_nil) (pss_cons (ps_if (pt_cmpR op_eq (pv 2) pe_int (nomark _)) (pss_one (ps_asg (pe_tup (pa_cons (pe_un un_neg (pv 4)) (pa_cons (pe_un un_neg (pv 5)) (pa_cons (pe_un un_neg (pv 6)) (pa_cons (pv 3) pa_nil))))) (pg_tup rfl (pgs_cons (pg_name (i := 3) nd rfl (.inl rfl)) (pgs_cons (pg_name (i := 4) nd rfl (.inl rfl)) (pgs_cons (pg_name (i := 5) nd rfl (.inl rfl)) (pgs_cons (pg_name (i := 6) nd rfl (.inl rfl)) pgs_nil))))))) pss_nil) (pss_one (ps_ret (pe_ifExp (pt_cmpR op_lt (pe_op op_mod (pv 1) pe_int) pe_int (nomark _)) (pe_tup (pa_cons (pv 3) (pa_cons (pv 4) (pa_cons (pv 5) (pa_cons (pv 6) pa_nil))))) (pe_tup (pa_cons (pe_un un_neg (pv 3)) (pa_cons (pe_un un_neg (pv 4)) (pa_cons (pe_un un_neg (pv 5)) (pa_cons (pe_un un_neg (pv 6)) pa_nil))))))))))))), fun ds d _ hR => ?_⟩

  obtain ⟨x, t, rfl, rfl⟩ := hR
  refine b_seq (s_asg (d := amtD x) (de_var rfl) (dg_amt (.inl rfl) (.inl rfl) (.inl rfl) (.inl rfl) (by decide) (by decide) (by decide) (by decide) (by decide) (by decide))) ?_
  refine b_seq (s_set (de_mod (i := t) (j := 4) (de_var rfl) de_int (by decide)) rfl rfl) ?_
  show Blk K _ (ctxT x t x) _
  refine b_seq (Γ1 := ctxT x t (if t % 4 = 1 then x.rot1 else x)) (s_if (b := t % 4 == 1) (dt_test (de_eqI (de_var rfl) de_int)) (fun z => ?_) fun z => ?_) ?_
  · rw [if_pos (eq_of_beq z)]
    exact s_asg (d := amtD x.rot1) (de_tup (da_cons (de_neg (de_var rfl)) (da_cons (de_var rfl) (da_cons (de_var rfl) (da_cons (de_var rfl) da_nil)))) (Nat.le_of_ble_eq_true rfl)) (dg_amt (.inr ⟨_, rfl⟩) (.inr ⟨_, rfl⟩) (.inr ⟨_, rfl⟩) (.inr ⟨_, rfl⟩) (by decide) (by decide) (by decide) (by decide) (by decide) (by decide))
  · rw [if_neg (fun h => Bool.false_ne_true (z.symm.trans (beq_iff_eq.mpr h)))]
    exact s_next
  generalize hy : (if t % 4 = 1 then x.rot1 else x) = y
  refine b_seq (Γ1 := ctxT x t (if t % 4 = 2 then y.rot2 else y)) (s_if (b := t % 4 == 2) (dt_test (de_eqI (de_var rfl) de_int)) (fun z => ?_) fun z => ?_) ?_
  · rw [if_pos (eq_of_beq z)]
    exact s_asg (d := amtD y.rot2) (de_tup (da_cons (de_neg (de_var rfl)) (da_cons (de_neg (de_var rfl)) (da_cons (de_var rfl) (da_cons (de_var rfl) da_nil)))) (Nat.le_of_ble_eq_true rfl)) (dg_amt (.inr ⟨_, rfl⟩) (.inr ⟨_, rfl⟩) (.inr ⟨_, rfl⟩) (.inr ⟨_, rfl⟩) (by decide) (by decide) (by decide) (by decide) (by decide) (by decide))
  · rw [if_neg (fun h => Bool.false_ne_true (z.symm.trans (beq_iff_eq.mpr h)))]
    exact s_next
  generalize hz : (if t % 4 = 2 then y.rot2 else y) = z'
  refine b_seq (Γ1 := ctxT x t (if t % 4 = 3 then z'.rot3 else z')) (s_if (b := t % 4 == 3) (dt_test (de_eqI (de_var rfl) de_int)) (fun z => ?_) fun z => ?_) ?_
  · rw [if_pos (eq_of_beq z)]
    exact s_asg (d := amtD z'.rot3) (de_tup (da_cons (de_neg (de_var rfl)) (da_cons (de_neg (de_var rfl)) (da_cons (de_neg (de_var rfl)) (da_cons (de_var rfl) da_nil)))) (Nat.le_of_ble_eq_true rfl)) (dg_amt (.inr ⟨_, rfl⟩) (.inr ⟨_, rfl⟩) (.inr ⟨_, rfl⟩) (.inr ⟨_, rfl⟩) (by decide) (by decide) (by decide) (by decide) (by decide) (by decide))
  · rw [if_neg (fun h => Bool.false_ne_true (z.symm.trans (beq_iff_eq.mpr h)))]
    exact s_next
  generalize hu' : (if t % 4 = 3 then z'.rot3 else z') = u
  have e : x.turn t = if t % 8 < 4 then u else u.minus := by
    unfold Amt.turn
    simp only [hy, hz, hu']
  rw [e]
  refine b_ret (de_if (b := decide (t % 8 < 4)) (dt_test (de_lt (de_mod (de_var rfl) de_int (by decide)) de_int)) (fun z => ?_) fun z => ?_)
  · rw [if_pos (of_decide_eq_true z)]
    exact de_tup (da_cons (de_var rfl) (da_cons (de_var rfl) (da_cons (de_var rfl) (da_cons (de_var rfl) da_nil)))) (Nat.le_of_ble_eq_true rfl)
  · rw [if_neg (of_decide_eq_false z)]
    exact de_tup (da_cons (de_neg (de_var rfl)) (da_cons (de_neg (de_var rfl)) (da_cons (de_neg (de_var rfl)) (da_cons (de_neg (de_var rfl)) da_nil)))) (Nat.le_of_ble_eq_true rfl)
abbrev N_mirror : List Str := ["amount", "a", "b", "c", "d"]
theorem sc_mirror : FnScope N_mirror ["amount"] (defScope (top 52)) := ⟨rfl, rfl, rfl, by decide +kernel, rfl, by decide +kernel, by decide +kernel⟩
theorem c_mirror (F : FnP K "mirror" (top 52) f fd) (hf : mg "mirror" = some (.ref f)) (b : Bs K mg) : Cal P w K mg base 1 "mirror" (spD K 1 Rmirror) [] := by
  refine cal_of F hf (fn_dat F sc_mirror rfl fun cdv A outer s H E hr => ?_) fun _ _ _ _ _ _ us hl => match us, hl with | [_], _ => rfl
  have hu := room_u hr; have hu1 := room_u1 hr; have hu2 := room_u2 hr; have nd := (sc_mirror).nd
  refine ⟨_, (pss_cons (ps_asg (pv 0) (pg_tup rfl (pgs_cons (pg_name (i := 1) nd rfl (.inl rfl)) (pgs_cons (pg_name (i := 2) nd rfl (.inl rfl)) (pgs_cons (pg_name (i := 3) nd rfl (.inl rfl)) (pgs_cons (pg_name (i := 4) nd rfl (.inl rfl)) pgs_nil)))))) (pss_one (ps_ret (pe_tup (pa_cons (pv 1) (pa_cons (pe_un un_neg (pv 4)) (pa_cons (pe_un un_neg (pv 3)) (pa_cons (pe_un un_neg (pv 2)) pa_nil)))))))), fun ds d _ hR => ?_⟩

  obtain ⟨x, rfl, rfl⟩ := hR
  refine b_seq (s_asg (d := amtD x) (de_var rfl) (dg_amt (.inl rfl) (.inl rfl) (.inl rfl) (.inl rfl) (by decide) (by decide) (by decide) (by decide) (by decide) (by decide))) ?_
  exact b_ret (de_tup (da_cons (de_var rfl) (da_cons (de_neg (de_var rfl)) (da_cons (de_neg (de_var rfl)) (da_cons (de_neg (de_var rfl)) da_nil)))) (Nat.le_of_ble_eq_true rfl))
abbrev N_length_in : List Str := ["amounts", "first", "second", "a", "b", "c", "d"]
theorem sc_length_in : FnScope N_length_in ["amounts"] (defScope (top 53)) := ⟨rfl, rfl, rfl, by decide +kernel, rfl, by decide +kernel, by decide +kernel⟩
theorem c_length_in (F : FnP K "length_in" (top 53) f fd) (hf : mg "length_in" = some (.ref f)) (b : Bs K mg) : Cal P w K mg base 1 "length_in" (spD K 1 Rlength) [] := by
  refine cal_of F hf (fn_dat F sc_length_in rfl fun cdv A outer s H E hr => ?_) fun _ _ _ _ _ _ us hl => match us, hl with | [_], _ => rfl
  have hu := room_u hr; have hu1 := room_u1 hr; have hu2 := room_u2 hr; have nd := (sc_length_in).nd
  refine ⟨_, (pss_cons (ps_asg (pe_tup (pa_cons pe_int (pa_cons pe_int pa_nil))) (pg_tup rfl (pgs_cons (pg_name (i := 1) nd rfl (.inl rfl)) (pgs_cons (pg_name (i := 2) nd rfl (.inl rfl)) pgs_nil)))) (pss_cons (ps_for PassesOwn.never rfl (pi_tup (pv 0)) (pg_tup rfl (pgs_cons (pg_name (i := 3) nd rfl (.inl rfl)) (pgs_cons (pg_name (i := 4) nd rfl (.inl rfl)) (pgs_cons (pg_name (i := 5) nd rfl (.inl rfl)) (pgs_cons (pg_name (i := 6) nd rfl (.inl rfl)) pgs_nil))))) (pss_cons (ps_aug (i := 1) nd rfl (.inl rfl) (pe_op op_add (pe_op op_add (pe_op op_add (pe_op op_mulW (pv 3) (pv 3)) (pe_op op_mulW (pv 4) (pv 4))) (pe_op op_mulW (pv 5) (pv 5))) (pe_op op_mulW (pv 6) (pv 6))) ip_add) (pss_one (ps_aug (i := 2) nd rfl (.inl rfl) (pe_op op_sub (pe_op op_add (pe_op op_add (pe_op op_mulW (pv 3) (pv 4)) (pe_op op_mulW (pv 4) (pv 5))) (pe_op op_mulW (pv 5) (pv 6))) (pe_op op_mulW (pv 6) (pv 3))) ip_add)))) (pss_one (ps_ret (pe_tup (pa_cons (pv 1) (pa_cons (pv 2) pa_nil))))))), fun ds d _ hR => ?_⟩

  obtain ⟨s', n, rfl, hb, hn, hn2, rfl⟩ := hR
  refine b_seq (s_asg (d := .tup [.int 0, .int 0]) (de_tup (da_cons de_int (da_cons de_int da_nil)) (Nat.le_of_ble_eq_true rfl)) (dg_pair (p := (.int 0, .int 0)) rfl rfl rfl rfl rfl)) ?_
  let st : Nat → Ctx := fun i => [.dat (.tup (s'.map amtD)), .dat (.int (lenP (s'.take i))), .dat (.int (lenQ (s'.take i)))] ++ (match i with | 0 => [.no, .no, .no, .no] | i + 1 => match s'[i]? with | some x => [.dat (.int x.a), .dat (.int x.b), .dat (.int x.c), .dat (.int x.d)] | none => [])
  have hst : ∀ i x, s'[i]? = some x → st (i + 1) = [.dat (.tup (s'.map amtD)), .dat (.int (lenP (s'.take i) + x.p)), .dat (.int (lenQ (s'.take i) + x.q)), .dat (.int x.a), .dat (.int x.b), .dat (.int x.c), .dat (.int x.d)] := fun i x hx => by
    simp only [st, lenP, lenQ, List.take_add_one, hx, Option.toList_some, List.map_append, List.map_cons, List.map_nil, List.sum_append, List.sum_cons, List.sum_nil, Int.add_zero, List.cons_append, List.nil_append]
  have hst0 : ∀ i, i ≤ s'.length → ∃ e1 e2 e3 e4, st i = [.dat (.tup (s'.map amtD)), .dat (.int (lenP (s'.take i))), .dat (.int (lenQ (s'.take i))), e1, e2, e3, e4] ∧ own1 e1 = [] ∧ own1 e2 = [] ∧ own1 e3 = [] ∧ own1 e4 = [] := fun i hi => by
    cases i with
    | zero => exact ⟨.no, .no, .no, .no, rfl, rfl, rfl, rfl, rfl⟩
    | succ i =>
      have hx : s'[i]? = some s'[i] := List.getElem?_eq_getElem hi
      rw [hst i _ hx]
      refine ⟨.dat (.int s'[i].a), .dat (.int s'[i].b), .dat (.int s'[i].c), .dat (.int s'[i].d), ?_, rfl, rfl, rfl, rfl⟩
      simp only [lenP, lenQ, List.take_add_one, hx, Option.toList_some, List.map_append, List.map_cons, List.map_nil, List.sum_append, List.sum_cons, List.sum_nil, Int.add_zero]
  have hon : ∀ i, i ≤ s'.length → owned (st i) = [] := fun i hi => by
    obtain ⟨e1, e2, e3, e4, h, o1, o2, o3, o4⟩ := hst0 i hi
    rw [h]
    show own1 e1 ++ (own1 e2 ++ (own1 e3 ++ (own1 e4 ++ []))) = []
    rw [o1, o2, o3, o4]
    rfl
  have hw : ∀ {i j : Int}, i.natAbs < 2 ^ n → j.natAbs < 2 ^ n → CMulW i j := fun h1 h2 => wide_mul h1 h2 hn hn (by omega)
  refine b_seq (s_for (ds := s'.map amtD) (di_tup (du_of (de_var rfl))) st rfl (fun i hi => hon i (by simpa using hi)) fun i d hd => ?_) ?_
  · rw [List.getElem?_map] at hd
    cases hx : s'[i]? with
    | none =>
      rw [hx] at hd
      cases hd
    | some x =>
      rw [hx] at hd
      cases hd
      have hi := (List.getElem?_eq_some_iff.mp hx).1
      have bx := hb x (List.mem_of_getElem? hx)
      obtain ⟨e1, e2, e3, e4, h, o1, o2, o3, o4⟩ := hst0 i (Nat.le_of_lt hi)
      rw [h, hst i x hx]
      refine ⟨_, _, dg_tup (dgs_cons (dg_name rfl o1) (dgs_cons (dg_name rfl o2) (dgs_cons (dg_name rfl o3) (dgs_cons (dg_name rfl o4) dgs_nil)))) rfl, s_seq (s_aug rfl ?_) (s_aug rfl ?_)⟩
      · exact de_add (de_add (de_add (de_mul (de_var rfl) (de_var rfl) (hw bx.a bx.a)) (de_mul (de_var rfl) (de_var rfl) (hw bx.b bx.b))) (de_mul (de_var rfl) (de_var rfl) (hw bx.c bx.c))) (de_mul (de_var rfl) (de_var rfl) (hw bx.d bx.d))
      · exact de_sub (de_add (de_add (de_mul (de_var rfl) (de_var rfl) (hw bx.a bx.b)) (de_mul (de_var rfl) (de_var rfl) (hw bx.b bx.c))) (de_mul (de_var rfl) (de_var rfl) (hw bx.c bx.d))) (de_mul (de_var rfl) (de_var rfl) (hw bx.d bx.a))
  · obtain ⟨e1, e2, e3, e4, h, o1, o2, o3, o4⟩ := hst0 s'.length (Nat.le_refl _)
    rw [List.length_map, h, List.take_length]
    exact b_ret (de_tup (da_cons (de_var rfl) (da_cons (de_var rfl) da_nil)) (Nat.le_of_ble_eq_true rfl))
abbrev N_others : List Str := ["amount", "a", "b", "c", "d"]
theorem sc_others : FnScope N_others ["amount"] (defScope (top 54)) := ⟨rfl, rfl, rfl, by decide +kernel, rfl, by decide +kernel, by decide +kernel⟩
theorem c_others (F : FnP K "others" (top 54) f fd) (hf : mg "others" = some (.ref f)) (b : Bs K mg) (q_times : Cal P w K mg base 1 "times" (spD K 2 Rtimes) []) (q_mirror : Cal P w K mg base 1 "mirror" (spD K 1 Rmirror) []) : Cal P w K mg base 2 "others" (spD K 1 Rothers) [] := by
  refine cal_of F hf (fn_dat F sc_others rfl fun cdv A outer s H E hr => ?_) fun _ _ _ _ _ _ us hl => match us, hl with | [_], _ => rfl
  have hu := room_u hr; have hu1 := room_u1 hr; have hu2 := room_u2 hr; have nd := (sc_others).nd
  refine ⟨_, (pss_cons (ps_asg (pv 0) (pg_tup rfl (pgs_cons (pg_name (i := 1) nd rfl (.inl rfl)) (pgs_cons (pg_name (i := 2) nd rfl (.inl rfl)) (pgs_cons (pg_name (i := 3) nd rfl (.inl rfl)) (pgs_cons (pg_name (i := 4) nd rfl (.inl rfl)) pgs_nil)))))) (pss_one (ps_ret (pe_c q_times hr (by decide) rfl (pa_cons (pe_c q_times hr (by decide) rfl (pa_cons (pe_tup (pa_cons (pv 1) (pa_cons (pv 4) (pa_cons (pe_un un_neg (pv 3)) (pa_cons (pv 2) pa_nil))))) (pa_cons (pe_tup (pa_cons (pv 1) (pa_cons (pe_un un_neg (pv 2)) (pa_cons (pv 3) (pa_cons (pe_un un_neg (pv 4)) pa_nil))))) pa_nil))) (pa_cons (pe_c q_mirror hr (by decide) rfl (pa_cons (pv 0) pa_nil)) pa_nil)))))), fun ds d _ hR => ?_⟩

  obtain ⟨x, n, rfl, hb, hn, hn2, rfl⟩ := hR
  refine b_seq (s_asg (d := amtD x) (de_var rfl) (dg_amt (.inl rfl) (.inl rfl) (.inl rfl) (.inl rfl) (by decide) (by decide) (by decide) (by decide) (by decide) (by decide))) (b_ret ?_)
  refine de_call (da_cons (d := amtD (x.oth1.times x.oth2)) (de_call (da_cons (d := amtD x.oth1) ?_ (da_cons (d := amtD x.oth2) ?_ da_nil)) rfl ⟨_, _, n, n, rfl, hb.oth1, hb.oth2, hn, hn, by omega, rfl⟩) (da_cons (d := amtD x.mirror) (de_call (da_cons (d := amtD x) (de_var rfl) da_nil) rfl ⟨x, rfl, rfl⟩) da_nil)) rfl ⟨_, _, n + n + 2, n, rfl, hb.oth1.times hb.oth2, hb.mirror, by omega, hn, by omega, rfl⟩
  · exact de_tup (da_cons (de_var rfl) (da_cons (de_var rfl) (da_cons (de_neg (de_var rfl)) (da_cons (de_var rfl) da_nil)))) (Nat.le_of_ble_eq_true rfl)
  · exact de_tup (da_cons (de_var rfl) (da_cons (de_neg (de_var rfl)) (da_cons (de_var rfl) (da_cons (de_neg (de_var rfl)) da_nil)))) (Nat.le_of_ble_eq_true rfl)

end
end Lk
set_option maxHeartbeats 1000000
namespace Lk
/-! ### the ring of amounts -/
def Amt.zero : Amt := ⟨0, 0, 0, 0⟩
def Amt.num (k : Int) : Amt := ⟨k, 0, 0, 0⟩
def Amt.N (x : Amt) : Int := x.p * x.p - 2 * (x.q * x.q)
theorem Amt.ext' {x y : Amt} (h1 : x.a = y.a) (h2 : x.b = y.b) (h3 : x.c = y.c) (h4 : x.d = y.d) : x = y := by
  cases x
  cases y
  simp only at h1 h2 h3 h4
  subst h1 h2 h3 h4
  rfl
theorem times_comm (x y : Amt) : x.times y = y.times x := by
  apply Amt.ext' <;> simp only [Amt.times] <;> grind
theorem times_assoc (x y z : Amt) : (x.times y).times z = x.times (y.times z) := by
  apply Amt.ext' <;> simp only [Amt.times] <;> grind
theorem times_left_comm (x y z : Amt) : x.times (y.times z) = y.times (x.times z) := by
  rw [← times_assoc, times_comm x y, times_assoc]
theorem times_plus (x y z : Amt) : x.times (y.plus z) = (x.times y).plus (x.times z) := by
  apply Amt.ext' <;> simp only [Amt.times, Amt.plus] <;> grind
theorem plus_times (x y z : Amt) : (x.plus y).times z = (x.times z).plus (y.times z) := by
  apply Amt.ext' <;> simp only [Amt.times, Amt.plus] <;> grind
theorem times_minus (x y : Amt) : x.times y.minus = (x.times y).minus := by
  apply Amt.ext' <;> simp only [Amt.times, Amt.minus] <;> grind
theorem minus_times (x y : Amt) : x.minus.times y = (x.times y).minus := by
  apply Amt.ext' <;> simp only [Amt.times, Amt.minus] <;> grind
theorem minus_minus (x : Amt) : x.minus.minus = x := by
  apply Amt.ext' <;> simp only [Amt.minus, Int.neg_neg]
theorem num_times (k : Int) (x : Amt) : (Amt.num k).times x = ⟨k * x.a, k * x.b, k * x.c, k * x.d⟩ := by
  apply Amt.ext' <;> simp only [Amt.times, Amt.num] <;> grind
theorem one_times (x : Amt) : (Amt.num 1).times x = x := by
  rw [num_times]
  apply Amt.ext' <;> simp only [Int.one_mul]
theorem times_one (x : Amt) : x.times (Amt.num 1) = x := by rw [times_comm, one_times]
theorem zero_times (x : Amt) : Amt.zero.times x = Amt.zero := by
  apply Amt.ext' <;> simp only [Amt.times, Amt.zero] <;> grind
theorem times_zero (x : Amt) : x.times Amt.zero = Amt.zero := by rw [times_comm, zero_times]
theorem plus_comm (x y : Amt) : x.plus y = y.plus x := by
  apply Amt.ext' <;> simp only [Amt.plus, Int.add_comm]
theorem plus_assoc (x y z : Amt) : (x.plus y).plus z = x.plus (y.plus z) := by
  apply Amt.ext' <;> simp only [Amt.plus, Int.add_assoc]
theorem zero_plus (x : Amt) : Amt.zero.plus x = x := by
  apply Amt.ext' <;> simp only [Amt.plus, Amt.zero, Int.zero_add]
theorem oth1_times (x y : Amt) : (x.times y).oth1 = x.oth1.times y.oth1 := by
  apply Amt.ext' <;> simp only [Amt.times, Amt.oth1] <;> grind
theorem oth2_times (x y : Amt) : (x.times y).oth2 = x.oth2.times y.oth2 := by
  apply Amt.ext' <;> simp only [Amt.times, Amt.oth2] <;> grind
theorem mirror_times (x y : Amt) : (x.times y).mirror = x.mirror.times y.mirror := by
  apply Amt.ext' <;> simp only [Amt.times, Amt.mirror] <;> grind
theorem others_times (x y : Amt) : (x.times y).others = x.others.times y.others := by
  unfold Amt.others
  rw [oth1_times, oth2_times, mirror_times]
  generalize x.oth1 = a, x.oth2 = b, x.mirror = c, y.oth1 = d, y.oth2 = e, y.mirror = f
  rw [times_assoc a d, times_left_comm d b e, ← times_assoc a b, times_assoc (a.times b), times_left_comm (d.times e) c f, ← times_assoc (a.times b) c]
theorem times_others (x : Amt) : x.times x.others = Amt.num x.N := by
  apply Amt.ext' <;> simp only [Amt.times, Amt.others, Amt.oth1, Amt.oth2, Amt.mirror, Amt.num, Amt.N, Amt.p, Amt.q] <;> grind
theorem p_times (x y : Amt) : (x.times y).p = x.p * y.p + 2 * (x.q * y.q) := by
  simp only [Amt.times, Amt.p, Amt.q]
  grind
theorem q_times (x y : Amt) : (x.times y).q = x.p * y.q + x.q * y.p := by
  simp only [Amt.times, Amt.p, Amt.q]
  grind
theorem N_times (x y : Amt) : (x.times y).N = x.N * y.N := by
  unfold Amt.N
  rw [p_times, q_times]
  grind
theorem N_sq (x : Amt) : x.N = (x.a * x.a - x.c * x.c + 2 * (x.b * x.d)) * (x.a * x.a - x.c * x.c + 2 * (x.b * x.d)) + (x.b * x.b - x.d * x.d - 2 * (x.a * x.c)) * (x.b * x.b - x.d * x.d - 2 * (x.a * x.c)) := by
  simp only [Amt.N, Amt.p, Amt.q]
  grind
theorem sq_nn (i : Int) : 0 ≤ i * i := by
  rcases Int.le_total 0 i with h | h
  · exact Int.mul_nonneg h h
  · have := Int.mul_nonneg (Int.neg_nonneg_of_nonpos h) (Int.neg_nonneg_of_nonpos h)
    rwa [Int.neg_mul_neg] at this
theorem sq_zero {i : Int} (h : i * i = 0) : i = 0 := by
  rcases Int.mul_eq_zero.mp h with h | h <;> exact h
/-- two is no square of a fraction -/
theorem two_sq : ∀ (n p q : Nat), p ≤ n → p * p = 2 * (q * q) → p = 0
  | 0, p, q, hp, _ => by omega
  | n + 1, p, q, hp, h => by
    rcases Nat.mod_two_eq_zero_or_one p with e | e
    · obtain ⟨r, rfl⟩ : ∃ r, p = 2 * r := ⟨p / 2, by omega⟩
      have h2 : q * q = 2 * (r * r) := by
        have e1 : 2 * r * (2 * r) = 4 * (r * r) := by grind
        omega
      by_cases hr : r = 0
      · omega
      · have hq : q < 2 * r := Nat.lt_of_not_le fun z => by
          have z2 := Nat.mul_le_mul z z
          have e1 : 2 * r * (2 * r) = 4 * (r * r) := by grind
          have e2 : 0 < r * r := Nat.mul_pos (by omega) (by omega)
          omega
        have q0 := two_sq n q r (by omega) h2
        subst q0
        have e2 : 0 < r * r := Nat.mul_pos (by omega) (by omega)
        omega
    · have e1 : p * p % 2 = 1 := by rw [Nat.mul_mod, e]
      omega
theorem p_nn (x : Amt) : 0 ≤ x.p := by
  have := sq_nn x.a
  have := sq_nn x.b
  have := sq_nn x.c
  have := sq_nn x.d
  unfold Amt.p
  omega
theorem p_zero {x : Amt} (h : x.p = 0) : x = Amt.zero := by
  have h1 := sq_nn x.a
  have h2 := sq_nn x.b
  have h3 := sq_nn x.c
  have h4 := sq_nn x.d
  unfold Amt.p at h
  exact Amt.ext' (sq_zero (by omega)) (sq_zero (by omega)) (sq_zero (by omega)) (sq_zero (by omega))
theorem N_zero {x : Amt} (h : x.N = 0) : x = Amt.zero := by
  refine p_zero ?_
  have h1 : x.p * x.p = 2 * (x.q * x.q) := by
    unfold Amt.N at h
    omega
  have h2 : x.p.natAbs * x.p.natAbs = 2 * (x.q.natAbs * x.q.natAbs) := by
    have := congrArg Int.natAbs h1
    rw [Int.natAbs_mul, Int.natAbs_mul, Int.natAbs_mul] at this
    exact this
  have := two_sq _ _ _ (Nat.le_refl _) h2
  omega
theorem N_pos {x : Amt} (h : x ≠ Amt.zero) : 0 < x.N := by
  have h1 : x.N ≠ 0 := fun z => h (N_zero z)
  have h2 : 0 ≤ x.N := by
    rw [N_sq]
    exact Int.add_nonneg (sq_nn _) (sq_nn _)
  omega
theorem num_ne {k : Int} (h : k ≠ 0) : Amt.num k ≠ Amt.zero := fun z => h (congrArg Amt.a z)
theorem times_ne {x y : Amt} (hx : x ≠ Amt.zero) (hy : y ≠ Amt.zero) : x.times y ≠ Amt.zero := fun z => by
  have h1 := N_pos hx
  have h2 := N_pos hy
  have h3 : x.N * y.N = 0 := by
    rw [← N_times, z]
    rfl
  rcases Int.mul_eq_zero.mp h3 with h | h <;> omega
theorem others_ne {x : Amt} (h : x ≠ Amt.zero) : x.others ≠ Amt.zero := fun z => by
  have h1 := times_others x
  rw [z, times_zero] at h1
  have := N_pos h
  have h2 : (0 : Int) = x.N := congrArg Amt.a h1
  omega
theorem nzA_iff {x : Amt} : nzA x = true ↔ x ≠ Amt.zero := by
  unfold nzA
  simp only [List.any_cons, List.any_nil, Bool.or_false, Bool.or_eq_true, bne_iff_ne]
  constructor
  · intro h z
    subst z
    simp [Amt.zero] at h
  · intro h
    by_cases h1 : x.a = 0
    · by_cases h2 : x.b = 0
      · by_cases h3 : x.c = 0
        · by_cases h4 : x.d = 0
          · exact absurd (Amt.ext' h1 h2 h3 h4) h
          · exact .inr (.inr (.inr h4))
        · exact .inr (.inr (.inl h3))
      · exact .inr (.inl h2)
    · exact .inl h1
theorem nzA_false {x : Amt} : nzA x = false ↔ x = Amt.zero := by
  rw [Bool.eq_false_iff, ne_eq, nzA_iff, Classical.not_not]

/-! ### the greatest divisor -/
def gcdA (g : Nat) (x : Amt) : Nat := Nat.gcd (Nat.gcd (Nat.gcd (Nat.gcd g x.a.natAbs) x.b.natAbs) x.c.natAbs) x.d.natAbs
def gcdS (s : List Amt) : Nat := s.foldl gcdA 0
theorem gcdA_mul (k : Nat) (g : Nat) (x : Amt) : gcdA (k * g) ((Amt.num k).times x) = k * gcdA g x := by
  rw [num_times]
  simp only [gcdA, Int.natAbs_mul, Int.natAbs_natCast, Nat.gcd_mul_left]
theorem gcdS_mulF (k : Nat) : ∀ (s : List Amt) (g : Nat), (s.map (Amt.num k).times).foldl gcdA (k * g) = k * s.foldl gcdA g
  | [], _ => rfl
  | x :: s, g => by
    rw [List.map_cons, List.foldl_cons, List.foldl_cons, gcdA_mul, gcdS_mulF k s]
theorem gcdS_mul (k : Nat) (s : List Amt) : gcdS (s.map (Amt.num k).times) = k * gcdS s := by
  have := gcdS_mulF k s 0
  rwa [Nat.mul_zero] at this
theorem gcdA_dvd (g : Nat) (x : Amt) : gcdA g x ∣ g ∧ (gcdA g x : Int) ∣ x.a ∧ (gcdA g x : Int) ∣ x.b ∧ (gcdA g x : Int) ∣ x.c ∧ (gcdA g x : Int) ∣ x.d := by
  unfold gcdA
  refine ⟨?_, ?_, ?_, ?_, ?_⟩
  · exact Nat.dvd_trans (Nat.gcd_dvd_left ..) (Nat.dvd_trans (Nat.gcd_dvd_left ..) (Nat.dvd_trans (Nat.gcd_dvd_left ..) (Nat.gcd_dvd_left ..)))
  · exact Int.ofNat_dvd_left.mpr (Nat.dvd_trans (Nat.gcd_dvd_left ..) (Nat.dvd_trans (Nat.gcd_dvd_left ..) (Nat.dvd_trans (Nat.gcd_dvd_left ..) (Nat.gcd_dvd_right ..))))
  · exact Int.ofNat_dvd_left.mpr (Nat.dvd_trans (Nat.gcd_dvd_left ..) (Nat.dvd_trans (Nat.gcd_dvd_left ..) (Nat.gcd_dvd_right ..)))
  · exact Int.ofNat_dvd_left.mpr (Nat.dvd_trans (Nat.gcd_dvd_left ..) (Nat.gcd_dvd_right ..))
  · exact Int.ofNat_dvd_left.mpr (Nat.gcd_dvd_right ..)
theorem gcdF_dvd : ∀ (s : List Amt) (g : Nat), s.foldl gcdA g ∣ g ∧ ∀ x ∈ s, ((s.foldl gcdA g : Nat) : Int) ∣ x.a ∧ ((s.foldl gcdA g : Nat) : Int) ∣ x.b ∧ ((s.foldl gcdA g : Nat) : Int) ∣ x.c ∧ ((s.foldl gcdA g : Nat) : Int) ∣ x.d
  | [], g => ⟨Nat.dvd_refl _, fun x h => (List.not_mem_nil h).elim⟩
  | x :: s, g => by
    obtain ⟨h1, h2⟩ := gcdF_dvd s (gcdA g x)
    obtain ⟨g0, ga, gb, gc, gd⟩ := gcdA_dvd g x
    rw [List.foldl_cons]
    refine ⟨Nat.dvd_trans h1 g0, fun y hy => ?_⟩
    rcases List.mem_cons.mp hy with rfl | hy
    · have := Int.natCast_dvd_natCast.mpr h1
      exact ⟨Int.dvd_trans this ga, Int.dvd_trans this gb, Int.dvd_trans this gc, Int.dvd_trans this gd⟩
    · exact h2 y hy
theorem gcdS_dvd {s : List Amt} {x : Amt} (h : x ∈ s) : (gcdS s : Int) ∣ x.a ∧ (gcdS s : Int) ∣ x.b ∧ (gcdS s : Int) ∣ x.c ∧ (gcdS s : Int) ∣ x.d := (gcdF_dvd s 0).2 x h
theorem gcdS_pos {s : List Amt} {x : Amt} (h : x ∈ s) (hx : x ≠ Amt.zero) : 0 < gcdS s := by
  rcases Nat.eq_zero_or_pos (gcdS s) with e | e
  · obtain ⟨h1, h2, h3, h4⟩ := gcdS_dvd h
    rw [e] at h1 h2 h3 h4
    exact absurd (Amt.ext' (Int.zero_dvd.mp h1) (Int.zero_dvd.mp h2) (Int.zero_dvd.mp h3) (Int.zero_dvd.mp h4)) hx
  · exact e
theorem gcdS_lt {s : List Amt} {x : Amt} {n : Nat} (h : x ∈ s) (hx : x ≠ Amt.zero) (hb : Bd n x) : gcdS s < 2 ^ n := by
  obtain ⟨h1, h2, h3, h4⟩ := gcdS_dvd h
  have le : ∀ {i : Int}, (gcdS s : Int) ∣ i → i ≠ 0 → i.natAbs < 2 ^ n → gcdS s < 2 ^ n := fun hd h0 hl =>
    Nat.lt_of_le_of_lt (Nat.le_of_dvd (by omega) (Int.ofNat_dvd_left.mp hd)) hl
  by_cases a0 : x.a = 0
  · by_cases b0 : x.b = 0
    · by_cases c0 : x.c = 0
      · by_cases d0 : x.d = 0
        · exact absurd (Amt.ext' a0 b0 c0 d0) hx
        · exact le h4 d0 hb.d
      · exact le h3 c0 hb.c
    · exact le h2 b0 hb.b
  · exact le h1 a0 hb.a

/-! ### the plain form -/
def byS (s : List Amt) : Amt := ((s.filter nzA).headD Amt.zero).others
def foundS (s : List Amt) : List Amt := s.map fun x => x.times (byS s)
def Amt.quo (x : Amt) (g : Int) : Amt := ⟨x.a / g, x.b / g, x.c / g, x.d / g⟩
def plainS (s : List Amt) : List Amt := (foundS s).map fun x => x.quo (gcdS (foundS s))
def nzS (s : List Amt) : Bool := s.any nzA
theorem head_nz {s : List Amt} (h : nzS s = true) : ∃ x r, s.filter nzA = x :: r ∧ x ∈ s ∧ x ≠ Amt.zero := by
  cases e : s.filter nzA with
  | nil =>
    obtain ⟨x, h1, h2⟩ := List.any_eq_true.mp h
    have : x ∈ s.filter nzA := List.mem_filter.mpr ⟨h1, h2⟩
    rw [e] at this
    cases this
  | cons x r =>
    have : x ∈ s.filter nzA := by
      rw [e]
      exact List.mem_cons_self ..
    obtain ⟨h1, h2⟩ := List.mem_filter.mp this
    exact ⟨x, r, rfl, h1, nzA_iff.mp h2⟩
theorem byS_ne {s : List Amt} (h : nzS s = true) : byS s ≠ Amt.zero := by
  obtain ⟨x, r, e, _, h0⟩ := head_nz h
  unfold byS
  rw [e]
  exact others_ne h0
theorem found_mem {s : List Amt} (h : nzS s = true) : ∃ x ∈ foundS s, x ≠ Amt.zero := by
  obtain ⟨x, r, e, hx, h0⟩ := head_nz h
  exact ⟨_, List.mem_map.mpr ⟨x, hx, rfl⟩, times_ne h0 (byS_ne h)⟩
theorem found_bd {s : List Amt} {n : Nat} (h : nzS s = true) (hb : ∀ x ∈ s, Bd n x) : Bd (3 * n + 4) (byS s) ∧ ∀ x ∈ foundS s, Bd (4 * n + 6) x := by
  obtain ⟨x, r, e, hx, h0⟩ := head_nz h
  have h1 : Bd (3 * n + 4) (byS s) := by
    unfold byS
    rw [e]
    exact (hb x hx).others
  refine ⟨h1, fun y hy => ?_⟩
  obtain ⟨z, hz, rfl⟩ := List.mem_map.mp hy
  exact ((hb z hz).times h1).mono (by omega)
theorem found_gcd {s : List Amt} {n : Nat} (h : nzS s = true) (hb : ∀ x ∈ s, Bd n x) : 0 < gcdS (foundS s) ∧ gcdS (foundS s) < 2 ^ (4 * n + 6) := by
  obtain ⟨x, hx, h0⟩ := found_mem h
  exact ⟨gcdS_pos hx h0, gcdS_lt hx h0 ((found_bd h hb).2 x hx)⟩
theorem plain_length (s : List Amt) : (plainS s).length = s.length := by
  unfold plainS foundS
  rw [List.length_map, List.length_map]
/-- multiples -/
def cS (c : Amt) (s : List Amt) : List Amt := s.map c.times
theorem filter_cS {c : Amt} (hc : c ≠ Amt.zero) : ∀ s : List Amt, (cS c s).filter nzA = cS c (s.filter nzA)
  | [] => rfl
  | x :: s => by
    unfold cS
    rw [List.map_cons, List.filter_cons, List.filter_cons]
    have ih := filter_cS hc s
    unfold cS at ih
    by_cases h : nzA x = true
    · rw [if_pos h, if_pos (nzA_iff.mpr (times_ne hc (nzA_iff.mp h))), ih, List.map_cons]
    · rw [if_neg h, if_neg, ih]
      have := nzA_false.mp (Bool.eq_false_iff.mpr h)
      subst this
      rw [times_zero]
      decide
theorem nzS_cS {c : Amt} (hc : c ≠ Amt.zero) (s : List Amt) : nzS (cS c s) = nzS s := by
  rw [Bool.eq_iff_iff]
  unfold nzS cS
  rw [List.any_eq_true, List.any_eq_true]
  constructor
  · rintro ⟨y, hy, h⟩
    obtain ⟨x, hx, rfl⟩ := List.mem_map.mp hy
    refine ⟨x, hx, nzA_iff.mpr fun z => ?_⟩
    rw [z, times_zero] at h
    exact absurd h (by decide)
  · rintro ⟨x, hx, h⟩
    exact ⟨_, List.mem_map.mpr ⟨x, hx, rfl⟩, nzA_iff.mpr (times_ne hc (nzA_iff.mp h))⟩
theorem found_cS {c : Amt} (hc : c ≠ Amt.zero) {s : List Amt} (h : nzS s = true) : foundS (cS c s) = (foundS s).map (Amt.num c.N).times := by
  obtain ⟨x, r, e, hx, h0⟩ := head_nz h
  have eb : byS (cS c s) = c.others.times (byS s) := by
    unfold byS
    rw [filter_cS hc, e]
    exact others_times c x
  unfold foundS
  rw [eb]
  unfold cS
  rw [List.map_map, List.map_map]
  refine List.map_congr_left fun y _ => ?_
  show (c.times y).times (c.others.times (byS s)) = (Amt.num c.N).times (y.times (byS s))
  rw [← times_others, times_assoc, times_left_comm y, ← times_assoc]
theorem plain_cS {c : Amt} (hc : c ≠ Amt.zero) {s : List Amt} (h : nzS s = true) : plainS (cS c s) = plainS s := by
  have hn := N_pos hc
  obtain ⟨k, hk⟩ : ∃ k : Nat, c.N = k := ⟨c.N.toNat, by omega⟩
  unfold plainS
  rw [found_cS hc h, hk, gcdS_mul, List.map_map]
  refine List.map_congr_left fun y _ => ?_
  show ((Amt.num k).times y).quo ((k * gcdS (foundS s) : Nat) : Int) = y.quo (gcdS (foundS s))
  have h0 : (0 : Int) < k := by omega
  rw [num_times]
  unfold Amt.quo
  apply Amt.ext' <;> simp only [Int.natCast_mul, Int.mul_ediv_mul_of_pos _ _ h0]
/-- one is a multiple of the other -/
def Sim (s t : List Amt) : Prop := ∃ c d : Amt, c ≠ Amt.zero ∧ d ≠ Amt.zero ∧ cS c s = cS d t
theorem Sim.nz {s t : List Amt} (h : Sim s t) : nzS s = nzS t := by
  obtain ⟨c, d, hc, hd, e⟩ := h
  rw [← nzS_cS hc s, e, nzS_cS hd]
theorem Sim.plain {s t : List Amt} (h : Sim s t) (hs : nzS s = true) : plainS s = plainS t := by
  have ht := h.nz.symm.trans hs
  obtain ⟨c, d, hc, hd, e⟩ := h
  rw [← plain_cS hc hs, e, plain_cS hd ht]
theorem quo_back {x : Amt} {g : Nat} (h : (g : Int) ∣ x.a ∧ (g : Int) ∣ x.b ∧ (g : Int) ∣ x.c ∧ (g : Int) ∣ x.d) : (Amt.num g).times (x.quo g) = x := by
  rw [num_times]
  unfold Amt.quo
  exact Amt.ext' (Int.mul_ediv_cancel' h.1) (Int.mul_ediv_cancel' h.2.1) (Int.mul_ediv_cancel' h.2.2.1) (Int.mul_ediv_cancel' h.2.2.2)
theorem plain_eq {s : List Amt} : cS (Amt.num (gcdS (foundS s))) (plainS s) = cS (byS s) s := by
  unfold cS plainS
  rw [List.map_map]
  have e : (foundS s).map ((Amt.num (gcdS (foundS s))).times ∘ fun x => x.quo (gcdS (foundS s))) = foundS s := by
    refine (List.map_congr_left fun x hx => ?_).trans (List.map_id _)
    exact quo_back (gcdS_dvd hx)
  rw [e]
  exact List.map_congr_left fun x _ => times_comm _ _
theorem plain_nz {s : List Amt} (h : nzS s = true) : nzS (plainS s) = true := by
  have h1 : Amt.num (gcdS (foundS s)) ≠ Amt.zero := num_ne (by
    obtain ⟨x, hx, h0⟩ := found_mem h
    have := gcdS_pos hx h0
    omega)
  rw [← nzS_cS h1, plain_eq, nzS_cS (byS_ne h)]
  exact h
theorem plain_bd {s : List Amt} {n : Nat} (h : nzS s = true) (hb : ∀ x ∈ s, Bd n x) : ∀ x ∈ plainS s, Bd (4 * n + 6) x := fun y hy => by
  obtain ⟨z, hz, rfl⟩ := List.mem_map.mp hy
  have b := (found_bd h hb).2 z hz
  have g := (found_gcd h hb).1
  have le : ∀ i : Int, (i / (gcdS (foundS s) : Int)).natAbs ≤ i.natAbs := fun i => Int.natAbs_ediv_le_natAbs _ _
  exact ⟨Nat.lt_of_le_of_lt (le _) b.a, Nat.lt_of_le_of_lt (le _) b.b, Nat.lt_of_le_of_lt (le _) b.c, Nat.lt_of_le_of_lt (le _) b.d⟩
end Lk
set_option maxHeartbeats 1000000
namespace Lk
open PySem PySem.Spec PyProof.Rows L2
open Evl (Ex)
open C8 (Cal pe_c Mak pe_mk)
/-! ### a tuple, once -/
theorem tup_mul1 (l : Addr) (its : Array Value) (n : Nat) (dd : Option Addr) (sl : Array (Option Value)) (u : Tok) :
    Meets (Builtin.«tuple.__mul__» ⟨[.ref l, .int 1 u], []⟩) (fun _ R z => z.heap.get? l = some { cls := .type "tuple", dict := dd, data := .seq its n, slots := sl } ∧ R (.ok (.ret (Value.ref l))) z) :=
  .of_wp fun prog w A R z hz => by
    obtain ⟨hp, g, d, tk, os⟩ := z
    obtain ⟨hl, hz⟩ := hz
    have f1 := AutoSeq1.idx_int
    have c1 : (its.isEmpty || (1 : Int) == 1) = true := by simp
    wp_walk using wpAny_loadPart' hl
    repeat (first
      | (refine wpAny_ite_true (decide_eq_true (by rw [c1])) ?_; wp_walk using wpAny_loadPart' hl))
    exact ⟨_, rfl, hz⟩
def rRepT2 (K : PySem.W.Frag) : R2 := fun x y H Q => rRepT K x y H Q ∨ ∃ l xs, x = .ref l ∧ y = .int 1 ∧ SqT K H l xs ∧ Q (.ref l) H
theorem op_repT2 {X : Cx} : OpR X (binaryOp .Mult) (rRepT2 X.K) := by
  intro pins s σ H x y v u Q J rx ry hh
  rcases hh with hh | ⟨l, xs, rfl, rfl, hT, q⟩
  · exact op_repT pins s σ H x y v u Q J rx ry hh
  · cases rx
    obtain ⟨t, rfl⟩ := ry
    obtain ⟨its, r, ⟨⟨cls, dd, data, sl⟩, ho, hc, n, hd⟩, _⟩ := J.tuple hT
    simp only at hc hd
    subst hc hd
    refine wpAny_binaryOp_repeat_ref (T := "tuple") (U := "int") (by decide) ⟨_, ho, rfl⟩ (fun s' => typeIs_int s' 1 t) noFill_tuple_mul F.fills_int_mul F.slot_int_rmul repeat_tuple F.slot_int_index.lookup ?_
    exact call_meets F.slot_int_rmul (typeIs_int s 1 t) F.entry_int_rmul (F.args_int_rmul_2 _ _) (int_rmul_tuple 1 t l its.toArray n dd sl)
      ⟨ho, rfl, ⟨_, ho, rfl⟩, call_meets F.slot_tuple_mul ⟨_, ho, rfl⟩ F.entry_tuple_mul (F.args_tuple_mul_2 _ _) (tup_mul1 l its.toArray n dd sl t) ⟨ho, .ref l, H, J, rfl, q⟩⟩

/-! ### bits -/
theorem band_nat (x y : Nat) : Builtin.bitAnd (x : Int) (y : Int) = ((x &&& y : Nat) : Int) := by
  unfold Builtin.bitAnd
  rw [decide_eq_true (Int.natCast_nonneg x), decide_eq_true (Int.natCast_nonneg y)]
  rfl
theorem band_not (x y : Nat) : Builtin.bitAnd (x : Int) (Builtin.bitNot (y : Int)) = (x : Int) - ((x &&& y : Nat) : Int) := by
  unfold Builtin.bitAnd
  rw [decide_eq_true (Int.natCast_nonneg x), decide_eq_false (show ¬ (0 : Int) ≤ Builtin.bitNot (y : Int) by unfold Builtin.bitNot; omega)]
  have e : (Builtin.bitNot (Builtin.bitNot (y : Int))).toNat = y := by
    unfold Builtin.bitNot
    omega
  show (x : Int) - ((((x : Int).toNat &&& (Builtin.bitNot (Builtin.bitNot (y : Int))).toNat : Nat)) : Int) = _
  rw [e]
  rfl
theorem bor_nat (x y : Nat) : Builtin.bitOr (x : Int) (y : Int) = ((x ||| y : Nat) : Int) := by
  unfold Builtin.bitOr Builtin.bitAnd
  rw [decide_eq_false (show ¬ (0 : Int) ≤ Builtin.bitNot (y : Int) by unfold Builtin.bitNot; omega), decide_eq_false (show ¬ (0 : Int) ≤ Builtin.bitNot (x : Int) by unfold Builtin.bitNot; omega)]
  have e : ∀ z : Nat, (Builtin.bitNot (Builtin.bitNot (z : Int))).toNat = z := fun z => by
    unfold Builtin.bitNot
    omega
  show Builtin.bitNot (Builtin.bitNot (((Builtin.bitNot (Builtin.bitNot (x : Int))).toNat ||| (Builtin.bitNot (Builtin.bitNot (y : Int))).toNat : Nat) : Int)) = _
  rw [e, e]
  unfold Builtin.bitNot
  omega
def hereN (i p : Nat) : Nat := i % 2 ^ p + i / 2 ^ p * 2 ^ (p + 1)
theorem or_add {a b i : Nat} (h : b < 2 ^ i) : (a * 2 ^ i) ||| b = a * 2 ^ i + b := by
  have := Nat.two_pow_add_eq_or_of_lt h a
  rw [Nat.mul_comm a] 
  exact this.symm
theorem here_or (i p : Nat) : (i % 2 ^ p) ||| (i / 2 ^ p * 2 ^ (p + 1)) = hereN i p := by
  rw [Nat.or_comm, or_add, Nat.add_comm]
  · rfl
  · exact Nat.lt_of_lt_of_le (Nat.mod_lt _ (Nat.two_pow_pos p)) (Nat.pow_le_pow_right (by decide) (Nat.le_succ p))
theorem here_bit (i p : Nat) : hereN i p ||| 2 ^ p = hereN i p + 2 ^ p := by
  have hv : i % 2 ^ p < 2 ^ p := Nat.mod_lt _ (Nat.two_pow_pos p)
  have h1 : (i % 2 ^ p) ||| 2 ^ p = 2 ^ p + i % 2 ^ p := by
    rw [Nat.or_comm]
    have := or_add (a := 1) hv
    rwa [Nat.one_mul] at this
  have h2 : 2 ^ p + i % 2 ^ p < 2 ^ (p + 1) := by
    rw [Nat.pow_succ]
    omega
  have e : hereN i p ||| 2 ^ p = i / 2 ^ p * 2 ^ (p + 1) + (2 ^ p + i % 2 ^ p) := by rw [← here_or, Nat.or_comm (i % 2 ^ p), Nat.or_assoc, h1, or_add h2]
  rw [e]
  unfold hereN
  omega
theorem here_lt {i p k : Nat} (hi : i < 2 ^ k) (hp : p ≤ k) : hereN i p + 2 ^ p < 2 ^ (k + 1) := by
  unfold hereN
  have hv : i % 2 ^ p < 2 ^ p := Nat.mod_lt _ (Nat.two_pow_pos p)
  have e : 2 ^ k = 2 ^ (k - p) * 2 ^ p := by rw [← Nat.pow_add, Nat.sub_add_cancel hp]
  have hu : i / 2 ^ p < 2 ^ (k - p) := (Nat.div_lt_iff_lt_mul (Nat.two_pow_pos p)).mpr (by rw [← e]; exact hi)
  have h1 : (i / 2 ^ p + 1) * 2 ^ (p + 1) ≤ 2 ^ (k - p) * 2 ^ (p + 1) := Nat.mul_le_mul_right _ hu
  have e2 : 2 ^ (k - p) * 2 ^ (p + 1) = 2 ^ (k + 1) := by rw [← Nat.pow_add, show k - p + (p + 1) = k + 1 by omega]
  rw [e2, Nat.add_mul, Nat.one_mul] at h1
  have e3 : 2 ^ (p + 1) = 2 ^ p + 2 ^ p := by rw [Nat.pow_succ]; omega
  omega
theorem here_int (i p : Nat) : Builtin.bitOr (Builtin.bitAnd (i : Int) ((1 : Int) * 2 ^ (p : Int).toNat - 1)) (Builtin.bitAnd (i : Int) (Builtin.bitNot ((1 : Int) * 2 ^ (p : Int).toNat - 1)) * 2 ^ (1 : Int).toNat) = ((hereN i p : Nat) : Int) := by
  have hp := Nat.two_pow_pos p
  have el : ((1 : Int) * 2 ^ (p : Int).toNat - 1) = ((2 ^ p - 1 : Nat) : Int) := by
    rw [Int.one_mul, Int.toNat_natCast]
    have e : ((2 ^ p : Nat) : Int) = (2 : Int) ^ p := by simp
    omega
  rw [el, band_nat, band_not, Nat.and_two_pow_sub_one_eq_mod]
  have e2 : ((i : Int) - ((i % 2 ^ p : Nat) : Int)) * 2 ^ (1 : Int).toNat = ((i / 2 ^ p * 2 ^ (p + 1) : Nat) : Int) := by
    have h1 : (i : Int) - ((i % 2 ^ p : Nat) : Int) = ((i / 2 ^ p * 2 ^ p : Nat) : Int) := by
      have := Nat.div_add_mod i (2 ^ p)
      have h2 : 2 ^ p * (i / 2 ^ p) = i / 2 ^ p * 2 ^ p := Nat.mul_comm _ _
      omega
    rw [h1, Nat.pow_succ, ← Nat.mul_assoc]
    show ((i / 2 ^ p * 2 ^ p : Nat) : Int) * 2 = _
    rw [Int.natCast_mul _ 2]
    rfl
  rw [e2, bor_nat, here_or]
theorem both_bits {i a b : Nat} : (i &&& (2 ^ a ||| 2 ^ b) = (2 ^ a ||| 2 ^ b)) ↔ (i.testBit a = true ∧ i.testBit b = true) := by
  constructor
  · intro h
    have f : ∀ j, (j = a ∨ j = b) → i.testBit j = true := fun j hj => by
      have h2 := congrArg (fun z => z.testBit j) h
      simp only [Nat.testBit_and, Nat.testBit_or, Nat.testBit_two_pow] at h2
      rcases hj with rfl | rfl <;> simpa using h2
    exact ⟨f a (.inl rfl), f b (.inr rfl)⟩
  · rintro ⟨h1, h2⟩
    refine Nat.eq_of_testBit_eq fun j => ?_
    simp only [Nat.testBit_and, Nat.testBit_or, Nat.testBit_two_pow]
    by_cases ha : a = j
    · subst ha
      simp [h1]
    · by_cases hb : b = j
      · subst hb
        simp [h2]
      · simp [ha, hb]
theorem shl_int (p : Nat) : (1 : Int) * 2 ^ (p : Int).toNat = ((2 ^ p : Nat) : Int) := by
  rw [Int.one_mul, Int.toNat_natCast]
  simp

/-! ### by Euclid -/
theorem euclid : ∀ (b a : Nat), ∃ (n : Nat) (f : Nat → Nat × Nat), f 0 = (a, b) ∧ (∀ i, i < n → 0 < (f i).2 ∧ f (i + 1) = ((f i).2, (f i).1 % (f i).2)) ∧ f n = (Nat.gcd a b, 0) := by
  intro b
  induction b using Nat.strongRecOn with
  | _ b ih =>
    intro a
    by_cases hb : b = 0
    · subst hb
      exact ⟨0, fun _ => (a, 0), rfl, fun i h => absurd h (Nat.not_lt_zero _), by rw [Nat.gcd_zero_right]⟩
    · have hb' : 0 < b := Nat.pos_of_ne_zero hb
      obtain ⟨n, f, h0, h1, h2⟩ := ih (a % b) (Nat.mod_lt _ hb') b
      refine ⟨n + 1, fun i => if i = 0 then (a, b) else f (i - 1), if_pos rfl, fun i hi => ?_, ?_⟩
      · cases i with
        | zero => exact ⟨hb', by simp [h0]⟩
        | succ i =>
          have := h1 i (by omega)
          simpa using this
      · show f n = _
        rw [h2, Nat.gcd_comm b, ← Nat.gcd_rec, Nat.gcd_comm]
/-! ### spreads, purely -/
def lookS (s : List Amt) (p : Nat) (t : Int) : List Amt := (List.range (s.length / 2)).map fun i => (s.getD (hereN i p) Amt.zero).plus ((s.getD (hereN i p + 2 ^ p) Amt.zero).turn t)
def idxO (order : List Nat) (i : Nat) : Nat := ((order.zipIdx.filter fun p => i.testBit p.2).map fun p => 2 ^ p.1).sum
def layS (s : List Amt) (order : List Nat) : List Amt := (List.range s.length).map fun i => s.getD (idxO order i) Amt.zero
def tieS (s : List Amt) (a b : Nat) : List Amt := s.zipIdx.map fun p => if p.2.testBit a && p.2.testBit b then p.1.minus else p.1
def bothS (one other : List Amt) : List Amt := other.flatMap fun its => one.map fun mine => mine.times its
def evenS (k : Nat) : List Amt := List.replicate (2 ^ k) (Amt.num 1)
def spr (s : List Amt) : D := .tup (s.map amtD)
def Rwidth : List D → D → Prop := fun ds d => ∃ (s : List Amt) (k : Nat), ds = [spr s] ∧ s.length = 2 ^ k ∧ d = .int (k : Int)
def Rdivisor : List D → D → Prop := fun ds d => ∃ (s : List Amt), ds = [.lst (s.map amtD)] ∧ d = .int ((gcdS s : Nat) : Int)
def Rplain : List D → D → Prop := fun ds d => ∃ (s : List Amt) (n : Nat), ds = [spr s] ∧ nzS s = true ∧ s.length ≤ 4096 ∧ (∀ x ∈ s, Bd n x) ∧ 0 < n ∧ n ≤ 2000 ∧ d = spr (plainS s)
def Reven : List D → D → Prop := fun ds d => ∃ k : Nat, ds = [.int (k : Int)] ∧ k ≤ 9 ∧ d = spr (evenS k)
def Rboth : List D → D → Prop := fun ds d => ∃ (s t : List Amt) (n m : Nat), ds = [spr s, spr t] ∧ (∀ x ∈ s, Bd n x) ∧ (∀ x ∈ t, Bd m x) ∧ 0 < n ∧ 0 < m ∧ n + m ≤ 900000 ∧ s.length ≤ 4096 ∧ t.length ≤ 1024 ∧ d = spr (bothS s t)
def Rtie : List D → D → Prop := fun ds d => ∃ (s : List Amt) (a b : Nat), ds = [spr s, .int (a : Int), .int (b : Int)] ∧ s.length ≤ 4096 ∧ a ≤ 64 ∧ b ≤ 64 ∧ d = spr (tieS s a b)
def Rlook : List D → D → Prop := fun ds d => ∃ (s : List Amt) (p k : Nat) (t : Int), ds = [spr s, .int (p : Int), .int t] ∧ s.length = 2 ^ (k + 1) ∧ p ≤ k ∧ k ≤ 12 ∧ d = spr (lookS s p t)
def Rlay : List D → D → Prop := fun ds d => ∃ (s : List Amt) (o : List Nat), ds = [spr s, .lst (o.map fun i : Nat => D.int (i : Int))] ∧ s.length ≤ 4096 ∧ (∀ i < s.length, idxO o i < s.length) ∧ o.length < 64 ∧ (∀ i ∈ o, i < 64) ∧ d = spr (layS s o)
def Rform : List D → D → Prop := fun ds d => ∃ (s : List Amt) (n : Nat), ds = [spr s] ∧ GoodS s ∧ (∀ x ∈ s, Bd n x) ∧ 0 < n ∧ n ≤ 2000 ∧ d = spr (plainS s)
def Rbeside : List D → D → Prop := fun ds d => ∃ (v u : D) (s t : List Amt) (n m j k : Nat), ds = [v, u] ∧ SeqD v (s.map amtD) ∧ SeqD u (t.map amtD) ∧ GoodS s ∧ GoodS t ∧ s.length = 2 ^ j ∧ t.length = 2 ^ k ∧ j + k ≤ 10 ∧ (∀ x ∈ s, Bd n x) ∧ (∀ x ∈ t, Bd m x) ∧ 0 < n ∧ 0 < m ∧ n + m ≤ 900000 ∧ d = spr (bothS s t)
theorem bits_pow (k : Nat) : Builtin.Int.intBits (((2 ^ k : Nat)) : Int) = k + 1 := by
  have h := Nat.two_pow_pos k
  unfold Builtin.Int.intBits
  rw [if_neg (fun z => by have := eq_of_beq z; omega), Int.natAbs_natCast, Nat.log2_two_pow]
section
variable {K : PySem.W.Frag} {Γ Γ' Γ1 Γ2 Γw : Ctx} {ta tb te tc : TE} {tt tu : TT} {d e : D} {ds es : List D} {t u w : TS}
theorem de_shl {j : Nat} (ha : DE K ta Γ (.int 1)) (hb : DE K tb Γ (.int (j : Int))) (hj : j ≤ 1000000) : DE K (tOp (rI CPow fun i j => .int (i * 2 ^ j.toNat)) ta tb) Γ (.int ((2 ^ j : Nat) : Int)) := (de_opI ha hb ⟨by omega, by omega, by decide⟩ fun _ => .int _).to (by rw [shl_int])
theorem de_bits {i : Int} (ha : DE K ta Γ (.int i)) : DE K (tBits ta) Γ (.int (Builtin.Int.intBits i : Nat)) := fun F H σ E Q q => ha F H σ E _ fun v H1 e1 i1 => by
  cases i1
  exact ⟨i, rfl, q _ H1 e1 (.int _)⟩
theorem de_abs {i : Int} (ha : DE K ta Γ (.int i)) : DE K (tCB (fun xs H Q => ∃ i, xs = [.int i] ∧ Q (.int (if i < 0 then -i else i)) H) (tCons ta tNil)) Γ (.int (i.natAbs : Int)) := fun F H σ E Q q => ha F H σ E _ fun v H1 e1 i1 => by
  cases i1
  refine ⟨i, rfl, q _ H1 e1 ?_⟩
  rw [show (if i < 0 then -i else i) = (i.natAbs : Int) by split <;> omega]
  exact .int _
theorem de_glob4 {a : Addr} {x : Amt} (h : ∀ H, SqT K H a [.int x.a, .int x.b, .int x.c, .int x.d]) : DE K (tC (.ref a)) Γ (amtD x) := de_globT (xs := [x.a, x.b, x.c, x.d]) h
theorem dt_tru {i : Int} (ha : DE K ta Γ (.int i)) : DT K (fun σ H Q => ta σ H fun x H' => ∃ k, TruV K x H' k ∧ Q k H') Γ (i != 0) := fun F H σ E Q q => ha F H σ E _ fun v H1 e1 i1 => by
  cases i1
  exact ⟨i != 0, rfl, q _ e1⟩
theorem s_forget {i : Nat} {x : Ent} (h : St K t Γ Γ1) (hx : Γ1[i]? = some x) (ho : own1 x = []) : St K t Γ (Γ1.set i .no) := fun F H σ Z E q => h F H σ Z E fun σ' H' E' => q σ' H' (E'.forget hx ho)
theorem de_repT {n : Nat} (ha : DU K ta Γ [d]) (hb : DE K tb Γ (.int (n : Int))) (h1 : 1 ≤ n) (h2 : n ≤ 1000) : DE K (tOp (rRepT2 K) ta tb) Γ (.tup (List.replicate n d)) := fun F H σ E Q q =>
  ha F H σ E _ fun a xs H1 e1 s1 a1 => hb F H1 σ (E.mono e1) _ fun v H2 e2 i2 => by
    have s2 := Evl.ex_t (hid_mono e2) s1
    have a2 := a1.mono (hid_mono (l := hotOf F Γ) e2)
    cases i2
    cases a2 with
    | @cons x _ _ _ ix a3 =>
      cases a3
      by_cases hn : n = 1
      · subst hn
        exact .inr ⟨a, [x], rfl, rfl, Evl.ex_t hid_le s2, q _ H2 (e1.trans e2) (.tup s2 (.cons ix .nil))⟩
      · have er : (List.replicate ((n : Int)).toNat [x]).flatten = List.replicate n x := by rw [Int.toNat_natCast, List.flatten_replicate_singleton]
        have h3 : (2 : Int) ≤ (n : Int) := by omega
        have h4 : (n : Int) ≤ 1000 := by omega
        refine .inl ⟨a, (n : Int), [x], rfl, rfl, Evl.ex_t hid_le s2, (fun z => nomatch z), h3, h4, Nat.le_of_ble_eq_true rfl, fun p hp => ?_⟩
        rw [er]
        exact q _ _ ((e1.trans e2).trans (Ex.new hp)) (.tup (SqT.of ((E.mono (e1.trans e2)).put hp)) ((IsAll.replicate ix n).mono (hid_mono (Ex.new hp))))
theorem atI_nat {α : Type} {ds : List α} {d : α} {n : Nat} {i : Int} (hi : i = (n : Int)) (h : ds[n]? = some d) : L2.atI ds i = some d := by
  subst hi
  have hl := (List.getElem?_eq_some_iff.mp h).1
  have e : L2.ixN ds.length (n : Int) = some n := by
    unfold L2.ixN
    rw [if_pos (by omega), if_pos (by omega), Int.toNat_natCast]
  unfold L2.atI
  rw [e]
  exact h
theorem atI_last {α : Type} {ds : List α} {d : α} : L2.atI (ds ++ [d]) (-1) = some d := by
  have e : L2.ixN (ds ++ [d]).length (-1) = some ds.length := by
    unfold L2.ixN
    rw [if_neg (by omega), if_pos (by rw [List.length_append, List.length_singleton]; omega)]
    congr 1
    rw [List.length_append, List.length_singleton]
    omega
  unfold L2.atI
  rw [e]
  show (ds ++ [d])[ds.length]? = some d
  simp
theorem St.to (h : St K t Γ Γ1) (e : Γ1 = Γ2) : St K t Γ Γ2 := e ▸ h
end
end Lk
set_option maxHeartbeats 1000000
namespace Lk
open PySem PySem.Spec PyProof.Rows L2
open Evl (Ex)
open C8 (Cal pe_c Mak pe_mk)
def gcdL (ns : List Int) (g : Nat) : Nat := ns.foldl (fun g n => Nat.gcd g n.natAbs) g
section
variable {P : Program} {w : World} {K : PySem.W.Frag} {mg : Str → Option Value} {base : Heap} {f : Addr} {fd : FuncData}
abbrev N_width : List Str := ["spread"]
theorem sc_width : FnScope N_width ["spread"] (defScope (top 56)) := ⟨rfl, rfl, rfl, by decide +kernel, rfl, by decide +kernel, by decide +kernel⟩
theorem c_width (F : FnP K "width" (top 56) f fd) (hf : mg "width" = some (.ref f)) (b : Bs K mg) : Cal P w K mg base 1 "width" (spD K 1 Rwidth) [] := by
  refine cal_of F hf (fn_dat F sc_width rfl fun cdv A outer s H E hr => ?_) fun _ _ _ _ _ _ us hl => match us, hl with | [_], _ => rfl
  have hu := room_u hr; have hu1 := room_u1 hr; have hu2 := room_u2 hr; have nd := (sc_width).nd
  refine ⟨_, (pss_one (ps_ret (pe_op op_sub (pe_bits (pe_callB call_len_seq rfl b.b_len PySem.boot_len (pa_cons (pv 0) pa_nil))) pe_int))), fun ds d _ hR => ?_⟩

  obtain ⟨s', k, rfl, hl, rfl⟩ := hR
  refine b_retE (de_sub (de_bits (de_lenT (du_of (de_var rfl)))) de_int) ?_
  rw [List.length_map, hl, bits_pow]
  congr 1
  omega
abbrev N_divisor_of : List Str := ["amounts", "found", "amount", "number", "one", "other"]
theorem sc_divisor_of : FnScope N_divisor_of ["amounts"] (defScope (top 57)) := ⟨rfl, rfl, rfl, by decide +kernel, rfl, by decide +kernel, by decide +kernel⟩
theorem c_divisor_of (F : FnP K "divisor_of" (top 57) f fd) (hf : mg "divisor_of" = some (.ref f)) (b : Bs K mg) : Cal P w K mg base 1 "divisor_of" (spD K 1 Rdivisor) [] := by
  refine cal_of F hf (fn_dat F sc_divisor_of rfl fun cdv A outer s H E hr => ?_) fun _ _ _ _ _ _ us hl => match us, hl with | [_], _ => rfl
  have hu := room_u hr; have hu1 := room_u1 hr; have hu2 := room_u2 hr; have nd := (sc_divisor_of).nd
  refine ⟨_, (pss_cons (ps_set (i := 1) nd rfl (.inl rfl) pe_int) (pss_cons (ps_for PassesOwn.never rfl (pi_list (pv 0)) (pg_name (i := 2) nd rfl (.inl rfl)) (pss_one (ps_for PassesOwn.never rfl (pi_tup (pv 2)) (pg_name (i := 3) nd rfl (.inl rfl)) (pss_cons (ps_par (i := 4) (j := 5) rfl nd rfl rfl (by decide) rfl rfl (pa_cons (pv 1) (pa_cons (pe_callB call_abs rfl b.b_abs PyProof.Rows.boot_abs (pa_cons (pv 3) pa_nil)) pa_nil)) rfl) (pss_cons (ps_while PassesOwn.never (pt_cmpR op_gt (pv 5) pe_int (nomark _)) (pss_one (ps_par (i := 4) (j := 5) rfl nd rfl rfl (by decide) rfl rfl (pa_cons (pv 5) (pa_cons (pe_op op_mod (pv 4) (pv 5)) pa_nil)) rfl))) (pss_one (ps_set (i := 1) nd rfl (.inl rfl) (pv 4)))))))) (pss_one (ps_ret (pv 1))))), fun ds d _ hR => ?_⟩

  obtain ⟨s', rfl, rfl⟩ := hR
  refine b_seq (s_set de_int rfl rfl) ?_
  refine b_seq (s_for (ds := s'.map amtD) (di_list (de_var rfl)) (fun i => [.dat (.lst (s'.map amtD)), .dat (.int ((gcdS (s'.take i) : Nat) : Int)), .no, .no, .no, .no]) rfl (fun _ _ => rfl) fun i d hd => ?_) ?_
  · rw [List.getElem?_map] at hd
    cases hx : s'[i]? with
    | none =>
      rw [hx] at hd
      cases hd
    | some x =>
      rw [hx] at hd
      cases hd
      refine ⟨_, _, dg_name rfl rfl, ?_⟩
      let ns : List Int := [x.a, x.b, x.c, x.d]
      let g := gcdS (s'.take i)
      have hg : gcdS (s'.take (i + 1)) = gcdL ns g := by
        unfold gcdS
        rw [List.take_add_one, hx, List.foldl_append]
        rfl
      rw [hg]
      refine s_forget (i := 2) (Γ1 := [.dat (.lst (s'.map amtD)), .dat (.int ((gcdL ns g : Nat) : Int)), .dat (amtD x), .no, .no, .no]) ?_ rfl rfl
      refine s_for (ds := ns.map D.int) (di_tup (du_of (de_var rfl))) (fun j => [.dat (.lst (s'.map amtD)), .dat (.int ((gcdL (ns.take j) g : Nat) : Int)), .dat (amtD x), .no, .no, .no]) rfl (fun _ _ => rfl) fun j d hd => ?_
      rw [List.getElem?_map] at hd
      cases hm : ns[j]? with
      | none =>
        rw [hm] at hd
        cases hd
      | some m =>
        rw [hm] at hd
        cases hd
        refine ⟨_, _, dg_name rfl rfl, ?_⟩
        let g2 := gcdL (ns.take j) g
        have hg2 : gcdL (ns.take (j + 1)) g = Nat.gcd g2 m.natAbs := by
          show gcdL (ns.take (j + 1)) g = _
          unfold gcdL
          rw [List.take_add_one, hm, List.foldl_append]
          rfl
        rw [hg2]
        obtain ⟨n, fe, h0, h1, h2⟩ := euclid m.natAbs g2
        refine s_forget (i := 3) (Γ1 := [.dat (.lst (s'.map amtD)), .dat (.int ((Nat.gcd g2 m.natAbs : Nat) : Int)), .dat (amtD x), .dat (.int m), .no, .no]) ?_ rfl rfl
        refine s_forget (i := 4) (Γ1 := [.dat (.lst (s'.map amtD)), .dat (.int ((Nat.gcd g2 m.natAbs : Nat) : Int)), .dat (amtD x), .dat (.int m), .dat (.int ((Nat.gcd g2 m.natAbs : Nat) : Int)), .no]) ?_ rfl rfl
        refine s_forget (i := 5) (Γ1 := [.dat (.lst (s'.map amtD)), .dat (.int ((Nat.gcd g2 m.natAbs : Nat) : Int)), .dat (amtD x), .dat (.int m), .dat (.int ((Nat.gcd g2 m.natAbs : Nat) : Int)), .dat (.int 0)]) ?_ rfl rfl
        refine s_seq (s_par (d1 := .int (g2 : Int)) (d2 := .int (m.natAbs : Int)) (da_cons (de_var rfl) (da_cons (de_abs (de_var rfl)) da_nil)) rfl rfl rfl rfl) (s_seq (Γ1 := [.dat (.lst (s'.map amtD)), .dat (.int (g2 : Int)), .dat (amtD x), .dat (.int m), .dat (.int ((Nat.gcd g2 m.natAbs : Nat) : Int)), .dat (.int 0)]) ?_ (s_set (de_var rfl) rfl rfl))
        refine St.to (s_while (fun i => [.dat (.lst (s'.map amtD)), .dat (.int (g2 : Int)), .dat (amtD x), .dat (.int m), .dat (.int ((fe i).1 : Int)), .dat (.int ((fe i).2 : Int))]) n (by simp only [h0]; rfl) (fun _ _ => rfl) (fun i hi => ?_) (fun i hi => ?_) ?_) (by simp only [h2]; rfl)
        · exact dt_test (DE.to (de_gt (de_var rfl) de_int) (by rw [decide_eq_true (show (0 : Int) < ((fe i).2 : Int) by have := (h1 i hi).1; omega)]))
        · refine St.to (s_par (d1 := .int ((fe i).2 : Int)) (d2 := .int (((fe i).1 : Int) % ((fe i).2 : Int))) (da_cons (de_var rfl) (da_cons (de_mod (de_var rfl) (de_var rfl) (by have := (h1 i hi).1; omega)) da_nil)) rfl rfl rfl rfl) (by rw [(h1 i hi).2]; rfl)
        · exact dt_test (DE.to (de_gt (de_var rfl) de_int) (by rw [h2]; rfl))
  · rw [List.length_map, List.take_length]
    exact b_ret (de_var rfl)
abbrev N_plain : List Str := ["spread", "by", "found", "least", "amount", "a", "b", "c", "d"]
theorem sc_plain : FnScope N_plain ["spread"] (defScope (top 58)) := ⟨rfl, rfl, rfl, by decide +kernel, rfl, by decide +kernel, by decide +kernel⟩
theorem c_plain (F : FnP K "plain" (top 58) f fd) (hf : mg "plain" = some (.ref f)) (b : Bs K mg) (q_others : Cal P w K mg base 2 "others" (spD K 1 Rothers) []) (q_times : Cal P w K mg base 1 "times" (spD K 2 Rtimes) []) (q_divisor_of : Cal P w K mg base 1 "divisor_of" (spD K 1 Rdivisor) []) : Cal P w K mg base 3 "plain" (spD K 1 Rplain) [] := by
  refine cal_of F hf (fn_dat F sc_plain rfl fun cdv A outer s H E hr => ?_) fun _ _ _ _ _ _ us hl => match us, hl with | [_], _ => rfl
  have hu := room_u hr; have hu1 := room_u1 hr; have hu2 := room_u2 hr; have nd := (sc_plain).nd
  obtain ⟨g_NOTHING, h_NOTHING, k_NOTHING⟩ := b.c_nothing
  refine ⟨_, (pss_cons (ps_set (i := 1) nd rfl (.inr rfl) (pe_c q_others hr (by decide) rfl (pa_cons (pe_ix ix_list (pe_lc (own := [("amount", 4)]) rfl nd (pi_tup (pv 0)) (blkOk_by (own := [("amount", 4)]) (N := N_plain) (sc := defScope (top 58)) (by decide +kernel)) (fun _ _ _ _ _ => (pg_name (i := 4) nd rfl (.inl rfl))) (fun _ _ _ _ _ => (pts_one (pt_cmpR (show OpR _ (compareOp .NotEq) (rNeD K) from (op_neD hu)) (pv 4) (pe_glob (v := .ref g_NOTHING) (u := .ref g_NOTHING) rfl h_NOTHING rfl) (nomark _)))) (fun _ _ _ _ _ => (pv 4))) pe_int (fun _ _ => rfl)) pa_nil))) (pss_cons (ps_setLc (i := 2) (own := [("amount", 4)]) rfl nd rfl rfl (sw_true rfl rfl rfl (by decide +kernel)) (pi_tup (pv 0)) (blkOk_by (own := [("amount", 4)]) (N := N_plain) (sc := defScope (top 58)) (by decide +kernel)) (fun _ _ _ _ _ => (pg_name (i := 4) nd rfl (.inl rfl))) (fun _ _ _ _ _ => pts_nil) (fun _ _ _ _ _ => (pe_c q_times hr (by decide) rfl (pa_cons (pv 4) (pa_cons (pv 1) pa_nil))))) (pss_cons (ps_set (i := 3) nd rfl (.inr rfl) (pe_c q_divisor_of hr (by decide) rfl (pa_cons (pv 2) pa_nil))) (pss_one (ps_ret (pe_callTy call_tuple_of rfl b.b_tuple PyProof.Rows.boot_tuple (pa_cons (pe_lc (own := [("a", 5), ("b", 6), ("c", 7), ("d", 8)]) rfl nd (pi_list (pv 2)) (blkOk_by (own := [("a", 5), ("b", 6), ("c", 7), ("d", 8)]) (N := N_plain) (sc := defScope (top 58)) (by decide +kernel)) (fun _ _ _ _ _ => (show PG _ _ (gTup K 4 _) from pg_tup rfl (pgs_cons (pg_name (i := 5) nd rfl (.inl rfl)) (pgs_cons (pg_name (i := 6) nd rfl (.inl rfl)) (pgs_cons (pg_name (i := 7) nd rfl (.inl rfl)) (pgs_cons (pg_name (i := 8) nd rfl (.inl rfl)) pgs_nil)))))) (fun _ _ _ _ _ => pts_nil) (fun _ _ _ _ _ => (pe_tup (pa_cons (pe_op op_fdivW (pv 5) (pv 3)) (pa_cons (pe_op op_fdivW (pv 6) (pv 3)) (pa_cons (pe_op op_fdivW (pv 7) (pv 3)) (pa_cons (pe_op op_fdivW (pv 8) (pv 3)) pa_nil))))))) pa_nil))))))), fun ds d _ hR => ?_⟩

  obtain ⟨s', n, rfl, hz, hl, hb, hn, hn2, rfl⟩ := hR
  have hl' : s'.length < 16000000 := Nat.lt_of_le_of_lt hl (by decide)
  obtain ⟨x0, r0, ef, hx0, _⟩ := head_nz hz
  have b0 := hb x0 hx0
  have eby : byS s' = x0.others := by
    unfold byS
    rw [ef]
    rfl
  have bb := (found_bd hz hb).1
  have bf := (found_bd hz hb).2
  have gg := found_gcd hz hb
  refine b_seq (s_set (d := amtD (byS s')) (de_call (da_cons (d := amtD x0) (de_ixL (ds := (s'.filter nzA).map amtD) (dl_ofN (dn_lc (as := s') (em := amtD) (f := nzA) (gv := amtD) (di_tup (du_of (de_var rfl))) rfl rfl (fun a _ => dg_name rfl rfl) (fun _ h => h) (fun a ha => ?_) (fun a ha _ => de_var rfl) hl')) de_int (by rw [ef]; exact atI_nat (n := 0) rfl rfl)) da_nil) rfl ⟨x0, n, rfl, b0, hn, by omega, by rw [eby]⟩) rfl rfl) ?_
  · refine dt_test (DE.to (de_neTI (xs := [a.a, a.b, a.c, a.d]) (ys := [0, 0, 0, 0]) (de_var rfl) (de_globT k_NOTHING)) ?_)
    congr 1
    unfold nzA
    rw [Bool.eq_iff_iff]
    simp
    try omega
  refine b_seq (s_set (d := .lst ((foundS s').map amtD)) (de_ofN (DN.to (dn_lcY (as := s') (em := amtD) (gv := fun x => amtD (x.times (byS s'))) (di_tup (du_of (de_var rfl))) rfl rfl (fun a _ => dg_name rfl rfl) (fun _ h => h) (fun a ha => de_call (da_cons (de_var rfl) (da_cons (de_var rfl) da_nil)) rfl ⟨a, byS s', n, 3 * n + 4, rfl, hb a ha, bb, hn, by omega, by omega, rfl⟩) hl') (by unfold foundS; rw [List.map_map] <;> rfl))) rfl rfl) ?_
  refine b_seq (s_set (d := .int ((gcdS (foundS s') : Nat) : Int)) (de_call (da_cons (de_var rfl) da_nil) rfl ⟨foundS s', rfl, rfl⟩) rfl rfl) ?_
  have hlf : (foundS s').length < 16000000 := by
    unfold foundS
    rw [List.length_map]
    exact hl'
  have hd : ∀ i : Int, CDivW i ((gcdS (foundS s') : Nat) : Int) := fun i => wide_div (b := 4 * n + 6) (by have := gg.1; omega) (by rw [Int.natAbs_natCast]; exact gg.2) (by omega) (by omega)
  refine b_ret (de_tupleL (dl_ofN (DN.to (dn_lcY (as := foundS s') (em := amtD) (gv := fun x => amtD (x.quo (gcdS (foundS s')))) (di_list (de_var rfl)) rfl rfl (fun a _ => dg_amt (.inl rfl) (.inl rfl) (.inl rfl) (.inl rfl) (by decide) (by decide) (by decide) (by decide) (by decide) (by decide)) (fun _ h => h) (fun a ha => ?_) hlf) (by unfold plainS; rw [List.map_map] <;> rfl))))
  exact de_tup (da_cons (de_fdiv (de_var rfl) (de_var rfl) (hd _)) (da_cons (de_fdiv (de_var rfl) (de_var rfl) (hd _)) (da_cons (de_fdiv (de_var rfl) (de_var rfl) (hd _)) (da_cons (de_fdiv (de_var rfl) (de_var rfl) (hd _)) da_nil)))) (Nat.le_of_ble_eq_true rfl)
abbrev N_all_even : List Str := ["many"]
theorem sc_all_even : FnScope N_all_even ["many"] (defScope (top 59)) := ⟨rfl, rfl, rfl, by decide +kernel, rfl, by decide +kernel, by decide +kernel⟩
theorem c_all_even (F : FnP K "all_even" (top 59) f fd) (hf : mg "all_even" = some (.ref f)) (b : Bs K mg) : Cal P w K mg base 1 "all_even" (spD K 1 Reven) [] := by
  refine cal_of F hf (fn_dat F sc_all_even rfl fun cdv A outer s H E hr => ?_) fun _ _ _ _ _ _ us hl => match us, hl with | [_], _ => rfl
  have hu := room_u hr; have hu1 := room_u1 hr; have hu2 := room_u2 hr; have nd := (sc_all_even).nd
  obtain ⟨g_ONE, h_ONE, k_ONE⟩ := b.c_one
  refine ⟨_, (pss_one (ps_ret (pe_op op_repT2 (pe_tup (pa_cons (pe_glob (v := .ref g_ONE) (u := .ref g_ONE) rfl h_ONE rfl) pa_nil)) (pe_op op_shl pe_int (pv 0))))), fun ds d _ hR => ?_⟩

  obtain ⟨k, rfl, hk, rfl⟩ := hR
  have h2 : 2 ^ k ≤ 2 ^ 9 := Nat.pow_le_pow_right (by decide) hk
  refine b_retE (de_repT (n := 2 ^ k) (du_of (de_tup (da_cons (de_glob4 (x := Amt.num 1) k_ONE) da_nil) (Nat.le_of_ble_eq_true rfl))) (de_shl de_int (de_var rfl) (by omega)) (Nat.two_pow_pos k) (by omega)) ?_
  unfold spr evenS
  rw [List.map_replicate]
abbrev N_both_of : List Str := ["one", "other", "its", "mine"]
theorem sc_both_of : FnScope N_both_of ["one", "other"] (defScope (top 60)) := ⟨rfl, rfl, rfl, by decide +kernel, rfl, by decide +kernel, by decide +kernel⟩
theorem c_both_of (F : FnP K "both_of" (top 60) f fd) (hf : mg "both_of" = some (.ref f)) (b : Bs K mg) (q_times : Cal P w K mg base 1 "times" (spD K 2 Rtimes) []) : Cal P w K mg base 2 "both_of" (spD K 2 Rboth) [] := by
  refine cal_of F hf (fn_dat F sc_both_of rfl fun cdv A outer s H E hr => ?_) fun _ _ _ _ _ _ us hl => match us, hl with | [_, _], _ => rfl
  have hu := room_u hr; have hu1 := room_u1 hr; have hu2 := room_u2 hr; have nd := (sc_both_of).nd
  refine ⟨_, (pss_one (ps_ret (pe_callTy call_tuple_of rfl b.b_tuple PyProof.Rows.boot_tuple (pa_cons (pe_lc2 (own := [("its", 2), ("mine", 3)]) (vs1 := [3]) rfl nd (pi_tup (pv 1)) (blkOk_by (own := [("its", 2), ("mine", 3)]) (N := N_both_of) (sc := defScope (top 60)) (by decide +kernel)) (by decide) (fun _ _ _ _ _ => (pg_name (i := 2) nd rfl (.inl rfl))) (fun _ _ _ _ _ => pts_nil) (fun _ _ _ _ _ => (show PI _ _ _ (iTup K _) from (pi_tup (pv 0)))) (fun _ _ _ _ _ => (pg_name (i := 3) nd rfl (.inl rfl))) (fun _ _ _ _ _ => pts_nil) (fun _ _ _ _ _ => (pe_c q_times hr (by decide) rfl (pa_cons (pv 3) (pa_cons (pv 2) pa_nil))))) pa_nil)))), fun ds d _ hR => ?_⟩

  obtain ⟨s', t', n, m, rfl, hb1, hb2, hn, hm, hnm, hl1, hl2, rfl⟩ := hR
  refine b_ret (de_tupleL (dl_ofN (DN.to (dn_lc2 (as := t') (bs := s') (em := amtD) (em1 := amtD) (gv := fun its mine => amtD (mine.times its)) (di_tup (du_of (de_var rfl))) rfl rfl (fun a _ => dg_name rfl rfl) (fun _ h => List.mem_cons.mpr (.inl (List.mem_singleton.mp h))) (fun a _ => di_tup (du_of (de_var rfl))) (fun a _ b' _ => ⟨rfl, rfl, dg_name rfl rfl⟩) (fun _ h => h) (fun a ha b' hb' => de_call (da_cons (de_var rfl) (da_cons (de_var rfl) da_nil)) rfl ⟨b', a, n, m, rfl, hb1 b' hb', hb2 a ha, hn, hm, hnm, rfl⟩) ?_) ?_)))
  · exact Nat.lt_of_le_of_lt (Nat.mul_le_mul hl2 hl1) (by decide)
  · unfold bothS
    rw [List.map_flatMap]
    congr 1
    funext its
    rw [List.map_map] <;> rfl
abbrev N_tie : List Str := ["spread", "one", "other", "both", "at", "amount"]
theorem sc_tie : FnScope N_tie ["spread", "one", "other"] (defScope (top 61)) := ⟨rfl, rfl, rfl, by decide +kernel, rfl, by decide +kernel, by decide +kernel⟩
theorem c_tie (F : FnP K "tie" (top 61) f fd) (hf : mg "tie" = some (.ref f)) (b : Bs K mg) (q_minus : Cal P w K mg base 1 "minus" (spD K 1 Rminus) []) : Cal P w K mg base 2 "tie" (spD K 3 Rtie) [] := by
  refine cal_of F hf (fn_dat F sc_tie rfl fun cdv A outer s H E hr => ?_) fun _ _ _ _ _ _ us hl => match us, hl with | [_, _, _], _ => rfl
  have hu := room_u hr; have hu1 := room_u1 hr; have hu2 := room_u2 hr; have nd := (sc_tie).nd
  refine ⟨_, (pss_cons (ps_set (i := 3) nd rfl (.inr rfl) (pe_op op_or (pe_op op_shl pe_int (pv 1)) (pe_op op_shl pe_int (pv 2)))) (pss_one (ps_ret (pe_callTy call_tuple_of rfl b.b_tuple PyProof.Rows.boot_tuple (pa_cons (pe_lc (own := [("at", 4), ("amount", 5)]) rfl nd (pi_enumT rfl b.b_enumerate (pa_cons (pv 0) pa_nil)) (blkOk_by (own := [("at", 4), ("amount", 5)]) (N := N_tie) (sc := defScope (top 61)) (by decide +kernel)) (fun _ _ _ _ _ => (show PG _ _ (gTup K 2 _) from pg_tup rfl (pgs_cons (pg_name (i := 4) nd rfl (.inl rfl)) (pgs_cons (pg_name (i := 5) nd rfl (.inl rfl)) pgs_nil)))) (fun _ _ _ _ _ => pts_nil) (fun _ _ _ _ _ => (pe_ifExp (pt_cmpR op_eq (pe_op op_and (pv 4) (pv 3)) (pv 3) (nomark _)) (pe_c q_minus hr (by decide) rfl (pa_cons (pv 5) pa_nil)) (pv 5)))) pa_nil))))), fun ds d _ hR => ?_⟩

  obtain ⟨s', a, b', rfl, hl, ha, hb', rfl⟩ := hR
  refine b_seq (s_set (d := .int ((2 ^ a ||| 2 ^ b' : Nat) : Int)) (DE.to (de_opI0 (de_shl (j := a) de_int (de_var rfl) (by omega)) (de_shl (j := b') de_int (de_var rfl) (by omega)) fun _ => .int _) (by rw [bor_nat])) rfl rfl) ?_
  refine b_ret (de_tupleL (dl_ofN (DN.to (dn_lcY (as := s'.zipIdx) (em := fun p => .tup [.int (p.2 : Int), amtD p.1]) (gv := fun p => amtD (if p.2.testBit a && p.2.testBit b' then p.1.minus else p.1)) (DI.to (di_enumT (du_of (de_var rfl))) ?_) rfl rfl (fun p _ => dg_pair (p := (.int (p.2 : Int), amtD p.1)) rfl rfl rfl rfl rfl) (fun _ h => h) (fun p hp => ?_) ?_) ?_)))
  · unfold enumD
    rw [List.zipIdx_map, List.map_map]
    rfl
  · refine de_if (b := p.2.testBit a && p.2.testBit b') (dt_test (DE.to (de_eqI (i := ((p.2 &&& (2 ^ a ||| 2 ^ b') : Nat) : Int)) (j := ((2 ^ a ||| 2 ^ b' : Nat) : Int)) (DE.to (de_opI0 (de_var rfl) (de_var rfl) fun _ => .int _) (by rw [band_nat])) (de_var rfl)) ?_)) (fun z => ?_) fun z => ?_
    · congr 1
      have e : (((p.2 &&& (2 ^ a ||| 2 ^ b') : Nat) : Int) == ((2 ^ a ||| 2 ^ b' : Nat) : Int)) = decide (p.2 &&& (2 ^ a ||| 2 ^ b') = (2 ^ a ||| 2 ^ b')) := by
        rw [Bool.eq_iff_iff, beq_iff_eq, decide_eq_true_eq]
        exact Int.ofNat_inj
      rw [e, Bool.eq_iff_iff, decide_eq_true_eq, both_bits, Bool.and_eq_true]
    · rw [if_pos z]
      exact de_call (da_cons (de_var rfl) da_nil) rfl ⟨p.1, rfl, rfl⟩
    · rw [if_neg (by rw [z]; exact Bool.false_ne_true)]
      exact de_var rfl
  · rw [List.length_zipIdx]
    exact Nat.lt_of_le_of_lt hl (by decide)
  · unfold tieS
    rw [List.map_map]
    rfl

end
end Lk
set_option maxHeartbeats 1000000
namespace Lk
open PySem PySem.Spec PyProof.Rows L2
open Evl (Ex)
open C8 (Cal pe_c Mak pe_mk)
section
variable {K : PySem.W.Frag} {Γ Γ' Γ1 Γ2 Γw : Ctx} {ta tb te tc : TE} {tt tu : TT} {d e d1 d2 : D} {ds es : List D} {t u w : TS}
/-- a, b, c = (x, y, a new list) -/
theorem b_par3a {i j l : Nat} {x y z : Ent} (h1 : DE K ta Γ d1) (h2 : DE K tb Γ d2) (h3 : DN K tc Γ ds) (hx : Γ[i]? = some x) (ho : own1 x = []) (hy : (Γ.set i (.dat d1))[j]? = some y) (ho' : own1 y = []) (hz : ((Γ.set i (.dat d1)).set j (.dat d2))[l]? = some z) (ho2 : own1 z = [])
    (hk : ∀ p, Blk K u (((Γ.set i (.dat d1)).set j (.dat d2)).set l (.own p ds)) d) : Blk K (tSeq (tPar3 i j l (tCons ta (tCons tb (tCons tc tNil)))) u) Γ d := fun F H σ Z E q =>
  h1 F H σ E _ fun v1 H1 e1 i1 => h2 F H1 σ (E.mono e1) _ fun v2 H2 e2 i2 => h3 F H2 σ (E.mono (e1.trans e2)) _ fun p xs H3 hp e3 hl a => by
    have eo : owned (Γ.set i (.dat d1)) = owned Γ := owned_set (e := x) (e' := .dat d1) ho.symm hx
    have eo2 : owned ((Γ.set i (.dat d1)).set j (.dat d2)) = owned Γ := (owned_set (e := y) (e' := .dat d2) ho'.symm hy).trans eo
    have E2 := ((E.mono (e1.trans e2)).setD hx ho (i1.mono (hid_mono e2))).setD hy ho' (by unfold hotOf; rw [eo]; exact i2)
    refine ⟨_, _, _, rfl, hk p F H3 _ Z (E2.addO (e' := .own p ds) hz ho2 hp e3 rfl ⟨rfl, xs, hl, ?_⟩) q⟩
    unfold hotOf
    rw [eo2]
    exact a
/-- a, b, c = (x, a new list, a new list) -/
theorem b_par3b {i j l : Nat} {x y z : Ent} (h1 : DE K ta Γ d1) (h2 : DN K tb Γ es) (h3 : DN K tc Γ ds) (hx : Γ[i]? = some x) (ho : own1 x = []) (hy : (Γ.set i (.dat d1))[j]? = some y) (ho' : own1 y = []) (hz : ∀ p, ((Γ.set i (.dat d1)).set j (.own p es))[l]? = some z) (ho2 : own1 z = [])
    (hk : ∀ p p', Blk K u (((Γ.set i (.dat d1)).set j (.own p es)).set l (.own p' ds)) d) : Blk K (tSeq (tPar3 i j l (tCons ta (tCons tb (tCons tc tNil)))) u) Γ d := fun F H σ Z E q =>
  h1 F H σ E _ fun v1 H1 e1 i1 => h2 F H1 σ (E.mono e1) _ fun p xs H2 hp e2 hl a => by
    have E1 := (E.mono e1).hot1 hp e2 (by rw [hl]; exact fun z => nomatch z)
    refine h3 (F.more p) H2 σ E1 _ fun p' xs' H3 hp' e3 hl' a' => ?_
    have eo : owned (Γ.set i (.dat d1)) = owned Γ := owned_set (e := x) (e' := .dat d1) ho.symm hx
    have E2 := (E.mono e1).setD hx ho i1
    have E3 := E2.addO (e' := .own p es) hy ho' hp e2 rfl ⟨rfl, xs, hl, by unfold hotOf; rw [eo]; exact a⟩
    refine ⟨_, _, _, rfl, hk p p' F H3 _ Z (E3.addO (e' := .own p' ds) (hz p) ho2 hp' e3 rfl ⟨rfl, xs', hl', ?_⟩) q⟩
    have pm : (owned ((Γ.set i (.dat d1)).set j (.own p es))).Perm ([p] ++ owned (Γ.set i (.dat d1))) := owned_add ho' rfl hy
    have hc : ∀ b, b ∈ p' :: hotOf F ((Γ.set i (.dat d1)).set j (.own p es)) ↔ b ∈ p' :: hotOf (F.more p) Γ := fun b => by
      have e5 : hotOf (F.more p) Γ = p :: (F.hot ++ owned Γ) := rfl
      rw [e5]
      unfold hotOf
      rw [List.mem_cons, List.mem_cons, List.mem_cons, List.mem_append, List.mem_append, pm.mem_iff, List.mem_append, List.mem_singleton, eo]
      constructor
      · rintro (h | h | h | h)
        · exact .inl h
        · exact .inr (.inr (.inl h))
        · exact .inr (.inl h)
        · exact .inr (.inr (.inr h))
      · rintro (h | h | h | h)
        · exact .inl h
        · exact .inr (.inr (.inl h))
        · exact .inr (.inl h)
        · exact .inr (.inr (.inr h))
    rw [hid_congr hc]
    exact a'
end
def tTruI (ta : TE) : TT := fun σ H Q => ta σ H fun x H' => ∃ i, x = .int i ∧ Q (i != 0) H'
theorem pt_int {X : Cx} {a : Expr} {ta : TE} (ha : PE X a ta) (he : ∀ whole, isTrue a X.env whole = (do let v ← whole; standAt a.pos; holding [v] (truthy v))) : PT X a (tTruI ta) :=
  ⟨fun pins s σ H Q J hh => isTrue_plain (thn (ha.run pins s σ H _ J hh) fun v s1 ⟨x, H1, J1, r1, i, ex, q1⟩ => tru_ok pins s1 σ H1 x v Q J1 r1 ⟨i != 0, by rw [ex]; rfl, q1⟩) (he _)⟩
theorem dt_truI {K : PySem.W.Frag} {Γ : Ctx} {ta : TE} {i : Int} (ha : DE K ta Γ (.int i)) : DT K (tTruI ta) Γ (i != 0) := fun F H σ E Q q => ha F H σ E _ fun v H1 e1 i1 => by
  cases i1
  exact ⟨i, rfl, q _ e1⟩
theorem DT.to' {K : PySem.W.Frag} {Γ : Ctx} {tt : TT} {b c : Bool} (h : DT K tt Γ b) (q : b = c) : DT K tt Γ c := q ▸ h
theorem tb_eq (i n : Nat) : (Builtin.bitAnd ((i : Int) / 2 ^ (n : Int).toNat) 1 != 0) = i.testBit n := by
  have e1 : (i : Int) / 2 ^ (n : Int).toNat = ((i / 2 ^ n : Nat) : Int) := by
    rw [Int.toNat_natCast]
    simp
  have e2 : (1 : Int) = ((1 : Nat) : Int) := rfl
  rw [e1, e2, band_nat, Nat.testBit, Nat.shiftRight_eq_div_pow, Nat.and_comm]
  rw [Bool.eq_iff_iff, bne_iff_ne, bne_iff_ne]
  omega
theorem sum_cast : ∀ l : List Nat, (l.map fun n : Nat => (n : Int)).sum = ((l.sum : Nat) : Int)
  | [] => rfl
  | n :: r => by
    rw [List.map_cons, List.sum_cons, List.sum_cons, sum_cast r]
    omega
section
variable {P : Program} {w : World} {K : PySem.W.Frag} {mg : Str → Option Value} {base : Heap} {f : Addr} {fd : FuncData}
abbrev N_look : List Str := ["spread", "place", "turn", "at", "low", "bit", "found", "here"]
theorem sc_look : FnScope N_look ["spread", "place", "turn"] (defScope (top 62)) := ⟨rfl, rfl, rfl, by decide +kernel, rfl, by decide +kernel, by decide +kernel⟩
theorem c_look (F : FnP K "look" (top 62) f fd) (hf : mg "look" = some (.ref f)) (b : Bs K mg) (q_plus : Cal P w K mg base 1 "plus" (spD K 2 Rplus) []) (q_turn_by : Cal P w K mg base 1 "turn_by" (spD K 2 Rturnby) []) : Cal P w K mg base 2 "look" (spD K 3 Rlook) [] := by
  refine cal_of F hf (fn_dat F sc_look rfl fun cdv A outer s H E hr => ?_) fun _ _ _ _ _ _ us hl => match us, hl with | [_, _, _], _ => rfl
  have hu := room_u hr; have hu1 := room_u1 hr; have hu2 := room_u2 hr; have nd := (sc_look).nd
  refine ⟨_, (pss_cons (ps_par3 (i := 4) (j := 5) (l := 6) rfl nd rfl rfl rfl (by decide) (by decide) (by decide) rfl rfl rfl (pa_cons (pe_op op_sub (pe_op op_shl pe_int (pv 1)) pe_int) (pa_cons (pe_op op_shl pe_int (pv 1)) (pa_cons (pe_lst pa_nil) pa_nil))) rfl) (pss_cons (ps_for PassesOwn.never rfl (pi_range1 rfl b.b_range (pa_cons (pe_op op_fdivW (pe_callB call_len_seq rfl b.b_len PySem.boot_len (pa_cons (pv 0) pa_nil)) pe_int) pa_nil)) (pg_name (i := 3) nd rfl (.inl rfl)) (pss_cons (ps_set (i := 7) nd rfl (.inl rfl) (pe_op op_or (pe_op op_and (pv 3) (pv 4)) (pe_op op_shl (pe_op op_and (pv 3) (pe_un un_inv (pv 4))) pe_int))) (pss_one (ps_expr (pe_bm PySem.F.plainAttrs_list PySem.F.slot_list_append PySem.F.type_list_append mt_append (pv 6) (pa_cons (pe_c q_plus hr (by decide) rfl (pa_cons (pe_ix ix_tup (pv 0) (pv 7) (fun _ _ => rfl)) (pa_cons (pe_c q_turn_by hr (by decide) rfl (pa_cons (pe_ix ix_tup (pv 0) (pe_op op_or (pv 7) (pv 5)) (fun _ _ => rfl)) (pa_cons (pv 2) pa_nil))) pa_nil))) pa_nil)))))) (pss_one (ps_ret (pe_callTy call_tuple_of rfl b.b_tuple PyProof.Rows.boot_tuple (pa_cons (pv 6) pa_nil)))))), fun ds d _ hR => ?_⟩

  obtain ⟨s', p, k, t', rfl, hl, hp, hk, rfl⟩ := hR
  let g : Nat → Amt := fun i => (s'.getD (hereN i p) Amt.zero).plus ((s'.getD (hereN i p + 2 ^ p) Amt.zero).turn t')
  have hh : s'.length / 2 = 2 ^ k := by rw [hl, Nat.pow_succ]; omega
  have hk12 : 2 ^ k ≤ 4096 := Nat.le_trans (Nat.pow_le_pow_right (by decide) hk) (by decide)
  refine b_par3a (d1 := .int ((1 : Int) * 2 ^ (p : Int).toNat - 1)) (d2 := .int ((2 ^ p : Nat) : Int)) (de_sub (de_opI de_int (de_var rfl) ⟨by omega, by omega, by decide⟩ fun _ => .int _) de_int) (de_shl de_int (de_var rfl) (by omega)) (dn_lst da_nil (by decide)) rfl rfl rfl rfl rfl rfl fun q => ?_
  refine b_seq (s_for (ds := (List.range (2 ^ k)).map fun i : Nat => D.int (i : Int)) (di_range1 (n := 2 ^ k) (DE.to (de_fdiv (de_lenT (du_of (de_var rfl))) de_int ⟨by decide, by decide⟩) ?_) (by omega))
    (fun i => [.dat (spr s'), .dat (.int (p : Int)), .dat (.int t'), .no, .dat (.int ((1 : Int) * 2 ^ (p : Int).toNat - 1)), .dat (.int ((2 ^ p : Nat) : Int)), .own q (((List.range i).map g).map amtD), .no]) rfl (fun _ _ => rfl) fun i d hd => ?_) ?_
  · rw [List.length_map, ← hh]
    congr 1
  · rw [List.getElem?_map] at hd
    cases hx : (List.range (2 ^ k))[i]? with
    | none =>
      rw [hx] at hd
      cases hd
    | some x =>
      rw [hx] at hd
      cases hd
      have hi : i < 2 ^ k := by
        have := (List.getElem?_eq_some_iff.mp hx).1
        simpa using this
      have hxi : x = i := by
        rw [List.getElem?_range hi] at hx
        exact (Option.some.inj hx).symm
      subst hxi
      have hlt := here_lt hi hp
      rw [← hl] at hlt
      have h1 : (s'.map amtD)[hereN x p]? = some (amtD (s'.getD (hereN x p) Amt.zero)) := by
        rw [List.getElem?_map, List.getD_eq_getElem?_getD, List.getElem?_eq_getElem (Nat.lt_of_le_of_lt (Nat.le_add_right _ _) hlt)]
        rfl
      have h2 : (s'.map amtD)[hereN x p + 2 ^ p]? = some (amtD (s'.getD (hereN x p + 2 ^ p) Amt.zero)) := by
        rw [List.getElem?_map, List.getD_eq_getElem?_getD, List.getElem?_eq_getElem hlt]
        rfl
      refine ⟨_, _, dg_name rfl rfl, s_forget (i := 3) (Γ1 := [.dat (spr s'), .dat (.int (p : Int)), .dat (.int t'), .dat (.int (x : Int)), .dat (.int ((1 : Int) * 2 ^ (p : Int).toNat - 1)), .dat (.int ((2 ^ p : Nat) : Int)), .own q (((List.range (x + 1)).map g).map amtD), .no]) (s_forget (i := 7) (Γ1 := [.dat (spr s'), .dat (.int (p : Int)), .dat (.int t'), .dat (.int (x : Int)), .dat (.int ((1 : Int) * 2 ^ (p : Int).toNat - 1)), .dat (.int ((2 ^ p : Nat) : Int)), .own q (((List.range (x + 1)).map g).map amtD), .dat (.int ((hereN x p : Nat) : Int))]) ?_ rfl rfl) rfl rfl⟩
      refine s_seq (s_set (d := .int ((hereN x p : Nat) : Int)) (DE.to (de_opI0 (de_opI0 (de_var rfl) (de_var rfl) fun _ => .int _) (de_opI (i := Builtin.bitAnd (x : Int) (Builtin.bitNot ((1 : Int) * 2 ^ (p : Int).toNat - 1))) (j := 1) (de_opI0 (de_var rfl) (de_un (de_var rfl) fun _ => .int _) fun _ => .int _) de_int ⟨by decide, by decide, ?_⟩ fun _ => .int _) fun _ => .int _) (by rw [here_int])) rfl rfl) ?_
      · have e : ((1 : Int) * 2 ^ (p : Int).toNat - 1) = ((2 ^ p - 1 : Nat) : Int) := by
          have h0 := Nat.two_pow_pos p
          rw [shl_int]
          omega
        rw [e, band_not]
        have h3 : (x &&& (2 ^ p - 1)) ≤ x := Nat.and_le_left
        omega
      · refine St.to (s_append (d := amtD (g x)) rfl (de_call (da_cons (de_ixT (du_of (de_var rfl)) (de_var rfl) (atI_nat rfl h1)) (da_cons (de_call (da_cons (de_ixT (du_of (de_var rfl)) (DE.to (de_opI0 (de_var rfl) (de_var rfl) fun _ => .int _) (by rw [bor_nat, here_bit])) (atI_nat rfl h2)) (da_cons (de_var rfl) da_nil)) rfl ⟨_, _, rfl, rfl⟩) da_nil)) rfl ⟨_, _, rfl, rfl⟩) ?_) ?_
        · rw [List.length_map, List.length_map, List.length_range]
          omega
        · rw [List.range_succ, List.map_append, List.map_append]
          rfl
  · rw [List.length_map, List.length_range]
    refine b_retE (de_tupleL (dl_own rfl)) ?_
    unfold spr lookS
    rw [hh]
abbrev N_lay : List Str := ["spread", "order", "found", "at", "new", "its"]
theorem sc_lay : FnScope N_lay ["spread", "order"] (defScope (top 63)) := ⟨rfl, rfl, rfl, by decide +kernel, rfl, by decide +kernel, by decide +kernel⟩
theorem c_lay (F : FnP K "lay" (top 63) f fd) (hf : mg "lay" = some (.ref f)) (b : Bs K mg) : Cal P w K mg base 1 "lay" (spD K 2 Rlay) [] := by
  refine cal_of F hf (fn_dat F sc_lay rfl fun cdv A outer s H E hr => ?_) fun _ _ _ _ _ _ us hl => match us, hl with | [_, _], _ => rfl
  have hu := room_u hr; have hu1 := room_u1 hr; have hu2 := room_u2 hr; have nd := (sc_lay).nd
  refine ⟨_, (pss_cons (ps_set (i := 2) nd rfl (.inl rfl) (pe_lst pa_nil)) (pss_cons (ps_for PassesOwn.never rfl (pi_range1 rfl b.b_range (pa_cons (pe_callB call_len_seq rfl b.b_len PySem.boot_len (pa_cons (pv 0) pa_nil)) pa_nil)) (pg_name (i := 3) nd rfl (.inr rfl)) (pss_one (ps_expr (pe_bm PySem.F.plainAttrs_list PySem.F.slot_list_append PySem.F.type_list_append mt_append (pv 2) (pa_cons (pe_ix ix_tup (pv 0) (pe_callB (cr_sum rfl) rfl b.b_sum PyProof.Rows.boot_sum (pa_cons (pe_lc (own := [("new", 4), ("its", 5)]) rfl nd (pi_enum rfl b.b_enumerate (pa_cons (pv 1) pa_nil)) (blkOk_by (own := [("new", 4), ("its", 5)]) (N := N_lay) (sc := defScope (top 63)) (by decide +kernel)) (fun _ _ _ _ _ => (show PG _ _ (gTup K 2 _) from pg_tup rfl (pgs_cons (pg_name (i := 4) nd rfl (.inl rfl)) (pgs_cons (pg_name (i := 5) nd rfl (.inl rfl)) pgs_nil)))) (fun _ _ _ _ _ => (pts_one (pt_int (pe_op op_and (pe_op op_shr (pv 3) (pv 4)) pe_int) (fun _ => rfl)))) (fun _ _ _ _ _ => (pe_op op_shl pe_int (pv 5)))) pa_nil)) (fun _ _ => rfl)) pa_nil))))) (pss_one (ps_ret (pe_callTy call_tuple_of rfl b.b_tuple PyProof.Rows.boot_tuple (pa_cons (pv 2) pa_nil)))))), fun ds d _ hR => ?_⟩

  obtain ⟨s', o, rfl, hl, hi0, hol, ho64, rfl⟩ := hR
  let g : Nat → Amt := fun i => s'.getD (idxO o i) Amt.zero
  refine b_own (dn_lst da_nil (by decide)) rfl rfl fun q => ?_
  refine b_seq (s_for (ds := (List.range s'.length).map fun i : Nat => D.int (i : Int)) (di_range1 (n := s'.length) (DE.to (de_lenT (du_of (de_var rfl))) (by rw [List.length_map])) (by omega))
    (fun i => [.dat (spr s'), .dat (.lst (o.map fun i : Nat => D.int (i : Int))), .own q (((List.range i).map g).map amtD), .no, .no, .no]) rfl (fun _ _ => rfl) fun i d hd => ?_) ?_
  · rw [List.getElem?_map] at hd
    cases hx : (List.range s'.length)[i]? with
    | none =>
      rw [hx] at hd
      cases hd
    | some x =>
      rw [hx] at hd
      cases hd
      have hi : i < s'.length := by
        have := (List.getElem?_eq_some_iff.mp hx).1
        simpa using this
      have hxi : x = i := by
        rw [List.getElem?_range hi] at hx
        exact (Option.some.inj hx).symm
      subst hxi
      have hlt := hi0 x hi
      have h1 : (s'.map amtD)[idxO o x]? = some (amtD (g x)) := by
        rw [List.getElem?_map, List.getElem?_eq_getElem hlt]
        show some (amtD _) = some (amtD (s'.getD (idxO o x) Amt.zero))
        rw [List.getD_eq_getElem?_getD, List.getElem?_eq_getElem hlt]
        rfl
      refine ⟨_, _, dg_name rfl rfl, s_forget (i := 3) (Γ1 := [.dat (spr s'), .dat (.lst (o.map fun i : Nat => D.int (i : Int))), .own q (((List.range (x + 1)).map g).map amtD), .dat (.int (x : Int)), .no, .no]) ?_ rfl rfl⟩
      refine St.to (s_append (d := amtD (g x)) rfl (de_ixT (i := ((idxO o x : Nat) : Int)) (du_of (de_var rfl)) (DE.to (de_sum (ns := ((o.zipIdx.filter fun p => x.testBit p.2).map fun p => ((2 ^ p.1 : Nat) : Int))) (dl_ofN (DN.to (dn_lc (as := o.zipIdx) (em := fun p => .tup [.int (p.2 : Int), .int (p.1 : Int)]) (f := fun p => x.testBit p.2) (gv := fun p => .int ((2 ^ p.1 : Nat) : Int)) (DI.to (di_enum (de_var rfl)) ?_) rfl rfl (fun p _ => dg_pair (p := (.int (p.2 : Int), .int (p.1 : Int))) rfl rfl rfl rfl rfl) (fun _ h => h) (fun p hp => ?_) (fun p hp _ => ?_) ?_) ?_))) ?_) (atI_nat rfl h1)) ?_) ?_
      · unfold enumD
        rw [List.zipIdx_map, List.map_map]
        rfl
      · exact DT.to' (dt_truI (de_opI0 (de_opI (de_var rfl) (de_var rfl) (show (0 : Int) ≤ (p.2 : Int) by omega) fun _ => .int _) de_int fun _ => .int _)) (tb_eq x p.2)
      · have hm : p.1 ∈ o := by
          obtain ⟨a, b⟩ := p
          exact List.fst_mem_of_mem_zipIdx hp
        exact de_shl de_int (de_var rfl) (by have := ho64 _ hm; omega)
      · rw [List.length_zipIdx]
        omega
      · rw [List.map_map]
        rfl
      · congr 1
        unfold idxO
        rw [← sum_cast, List.map_map]
        rfl
      · rw [List.length_map, List.length_map, List.length_range]
        omega
      · rw [List.range_succ, List.map_append, List.map_append]
        rfl
  · rw [List.length_map, List.length_range]
    exact b_retE (de_tupleL (dl_own rfl)) rfl
abbrev N_plain_form : List Str := ["spread"]
theorem sc_plain_form : FnScope N_plain_form ["spread"] (defScope (top 64)) := ⟨rfl, rfl, rfl, by decide +kernel, rfl, by decide +kernel, by decide +kernel⟩
theorem c_plain_form (F : FnP K "plain_form" (top 64) f fd) (hf : mg "plain_form" = some (.ref f)) (b : Bs K mg) (q_plain : Cal P w K mg base 3 "plain" (spD K 1 Rplain) []) (q_need_spread : Cal P w K mg base 4 "need_spread" (spD K 2 Rneed) []) : Cal P w K mg base 5 "plain_form" (spD K 1 Rform) [] := by
  refine cal_of F hf (fn_dat F sc_plain_form rfl fun cdv A outer s H E hr => ?_) fun _ _ _ _ _ _ us hl => match us, hl with | [_], _ => rfl
  have hu := room_u hr; have hu1 := room_u1 hr; have hu2 := room_u2 hr; have nd := (sc_plain_form).nd
  refine ⟨_, (pss_one (ps_ret (pe_c q_plain hr (by decide) rfl (pa_cons (pe_c q_need_spread hr (by decide) rfl (pa_cons (pv 0) (pa_cons pe_str pa_nil))) pa_nil)))), fun ds d _ hR => ?_⟩

  obtain ⟨s', n, rfl, hg, hb, hn, hn2, rfl⟩ := hR
  exact b_ret (de_call (da_cons (d := spr s') (de_call (da_cons (de_var rfl) (da_cons de_str da_nil)) rfl ⟨spr s', s', _, rfl, .inr rfl, hg, rfl⟩) da_nil) rfl ⟨s', n, rfl, hg.nz, hg.le, hb, hn, hn2, rfl⟩)
abbrev N_beside : List Str := ["one", "other", "mine", "its"]
theorem sc_beside : FnScope N_beside ["one", "other"] (defScope (top 65)) := ⟨rfl, rfl, rfl, by decide +kernel, rfl, by decide +kernel, by decide +kernel⟩
theorem c_beside (F : FnP K "beside" (top 65) f fd) (hf : mg "beside" = some (.ref f)) (b : Bs K mg) (q_need_spread : Cal P w K mg base 4 "need_spread" (spD K 2 Rneed) []) (q_width : Cal P w K mg base 1 "width" (spD K 1 Rwidth) []) (q_both_of : Cal P w K mg base 2 "both_of" (spD K 2 Rboth) []) : Cal P w K mg base 5 "beside" (spD K 2 Rbeside) [] := by
  refine cal_of F hf (fn_dat F sc_beside rfl fun cdv A outer s H E hr => ?_) fun _ _ _ _ _ _ us hl => match us, hl with | [_, _], _ => rfl
  have hu := room_u hr; have hu1 := room_u1 hr; have hu2 := room_u2 hr; have nd := (sc_beside).nd
  refine ⟨_, (pss_cons (ps_par (i := 2) (j := 3) rfl nd rfl rfl (by decide) rfl rfl (pa_cons (pe_c q_need_spread hr (by decide) rfl (pa_cons (pv 0) (pa_cons pe_str pa_nil))) (pa_cons (pe_c q_need_spread hr (by decide) rfl (pa_cons (pv 1) (pa_cons pe_str pa_nil))) pa_nil)) rfl) (pss_cons (ps_if (pt_cmpR op_gt (pe_op op_add (pe_c q_width hr (by decide) rfl (pa_cons (pv 2) pa_nil)) (pe_c q_width hr (by decide) rfl (pa_cons (pv 3) pa_nil))) (C8.pe_gc rfl (b.g_c_places)) (nomark _)) pss_never pss_nil) (pss_one (ps_ret (pe_c q_both_of hr (by decide) rfl (pa_cons (pv 2) (pa_cons (pv 3) pa_nil))))))), fun ds d _ hR => ?_⟩

  obtain ⟨v, u, s', t', n, m, j, k, rfl, hv, hu', g1, g2, l1, l2, hjk, hb1, hb2, hn, hm, hnm, rfl⟩ := hR
  refine b_seq (s_par (d1 := spr s') (d2 := spr t') (da_cons (de_call (da_cons (de_var rfl) (da_cons de_str da_nil)) rfl ⟨v, s', _, rfl, hv, g1, rfl⟩) (da_cons (de_call (da_cons (de_var rfl) (da_cons de_str da_nil)) rfl ⟨u, t', _, rfl, hu', g2, rfl⟩) da_nil)) rfl rfl rfl rfl) ?_
  refine b_pass (dt_test (DE.to (de_gt (de_add (de_call (da_cons (de_var rfl) da_nil) rfl ⟨s', j, rfl, l1, rfl⟩) (de_call (da_cons (de_var rfl) da_nil) rfl ⟨t', k, rfl, l2, rfl⟩)) de_int) (by rw [decide_eq_false (by omega)]))) ?_
  refine b_ret (de_call (da_cons (de_var rfl) (da_cons (de_var rfl) da_nil)) rfl ⟨s', t', n, m, rfl, hb1, hb2, hn, hm, hnm, g1.le, ?_, rfl⟩)
  rw [l2]
  exact Nat.le_trans (Nat.pow_le_pow_right (by decide) (show k ≤ 10 by omega)) (by decide)

end
end Lk
set_option maxHeartbeats 1000000
namespace Lk
open PySem PySem.Spec PyProof.Rows L2
open Evl (Ex)
open C8 (Cal pe_c Mak pe_mk)

/-! ### nets -/
structure NetF (K : PySem.W.Frag) : Prop where
  cls : Cls K (netC K)
  na : ∀ f ∈ netN, NoAttr K (netC K) f
  ic : PySem.W.findIn K (.ref (netC K)) "__class__" = some (some (.builtin "object.__class__"))
  ig : PySem.W.specialIn K (.builtin "object.__class__") "__get__" = some (some (.builtin "getset_descriptor.__get__"))
  it : PySem.W.takesIn K (.builtin "object.__class__") = some true
  im : PySem.W.mroIn K (netC K) (.type "object") = some true
def rng (n : Nat) : List Int := (List.range n).map fun i : Nat => (i : Int)
def lookd (n : Nat) (k : List Int) : List Int := (rng n).filter fun t => !decide (t ∈ k)
structure NetM where
  things : Nat
  strings : List (Int × Int)
  given : List Int
  kept : List Int
  turns : List (Int × Int)
def intsD (l : List Int) : List D := l.map D.int
def netL (N : NetM) : List D := [.int (N.things : Int), .tup (N.strings.map prD), .tup (N.given.map D.int), .tup (N.kept.map D.int), .tup ((lookd N.things N.kept).map D.int), .ptup (N.turns.map prD)]
def netD (N : NetM) : D := .net (netL N)
def mkNet (n : Nat) (S : List (Int × Int)) (g k : List Int) (T : List (Int × Int)) : NetM := ⟨n, sortP S, g, k, sortP T⟩
structure OkNet (n : Nat) (S : List (Int × Int)) (g k : List Int) (T : List (Int × Int)) : Prop where
  n1 : 1 ≤ n
  n2 : n ≤ 63
  s1 : ∀ p ∈ S, OkP n p
  s2 : S.Nodup
  s3 : S.length < 64
  g1 : ∀ t ∈ g, 0 ≤ t ∧ t < n
  g2 : g.Nodup
  k1 : ∀ t ∈ k, 0 ≤ t ∧ t < n
  k2 : k.Nodup
  t1 : ∀ p ∈ T, OkT p
  t2 : (T.map (·.1)).Perm (lookd n k)
theorem rng_nodup (n : Nat) : (rng n).Nodup := List.Pairwise.map _ (fun a b h z => h (by omega)) List.nodup_range
theorem rng_mem {n : Nat} {t : Int} : t ∈ rng n ↔ 0 ≤ t ∧ t < n := by
  unfold rng
  rw [List.mem_map]
  constructor
  · rintro ⟨i, h, rfl⟩
    have := List.mem_range.mp h
    omega
  · rintro ⟨h1, h2⟩
    exact ⟨t.toNat, List.mem_range.mpr (by omega), by omega⟩
theorem rng_length (n : Nat) : (rng n).length = n := by
  unfold rng
  rw [List.length_map, List.length_range]
theorem rng_sorted (n : Nat) : (rng n).Pairwise (· < ·) := List.Pairwise.map _ (fun a b h => by omega) (List.pairwise_lt_range (n := n))
theorem len_rng {n : Nat} {l : List Int} (h : ∀ t ∈ l, 0 ≤ t ∧ t < n) (nd : l.Nodup) : l.length ≤ n := by
  have := nd.length_le_of_subset (l₂ := rng n) fun t ht => rng_mem.mpr (h t ht)
  rwa [rng_length] at this
theorem lookd_sorted (n : Nat) (k : List Int) : (lookd n k).Pairwise (· ≤ ·) := ((rng_sorted n).filter _).imp fun h => Int.le_of_lt h
theorem lookd_nodup (n : Nat) (k : List Int) : (lookd n k).Nodup := (rng_nodup n).filter _
theorem lookd_length (n : Nat) (k : List Int) : (lookd n k).length ≤ n := Nat.le_trans (List.length_filter_le _ _) (by rw [rng_length]; exact Nat.le_refl _)
theorem lookd_mem {n : Nat} {k : List Int} {t : Int} : t ∈ lookd n k ↔ (0 ≤ t ∧ t < n) ∧ t ∉ k := by
  unfold lookd
  rw [List.mem_filter, rng_mem]
  simp
section
variable {n : Nat} {S : List (Int × Int)} {g k : List Int} {T : List (Int × Int)}
theorem OkNet.sorted (h : OkNet n S g k T) : sortI (T.map (·.1)) = lookd n k := (sortI_uniq h.t2.symm (lookd_sorted n k)).symm
theorem OkNet.tnd (h : OkNet n S g k T) : (T.map (·.1)).Nodup := h.t2.nodup_iff.mpr (lookd_nodup n k)
theorem OkNet.tlen (h : OkNet n S g k T) : T.length < 64 := by
  have h1 := h.t2.length_eq
  rw [List.length_map] at h1
  have := lookd_length n k
  have := h.n2
  omega
theorem OkNet.glen (h : OkNet n S g k T) : g.length < 64 := by
  have := len_rng h.g1 h.g2
  have := h.n2
  omega
theorem OkNet.klen (h : OkNet n S g k T) : k.length < 64 := by
  have := len_rng h.k1 h.k2
  have := h.n2
  omega
end
def RNet : List D → D → Prop := fun ds d => ∃ (n : Nat) (S : List (Int × Int)) (g k : List Int) (T : List (Int × Int)) (gd kd : D), ds = [.int (n : Int), .lst (S.map prD), gd, kd, .lst (T.map prD)] ∧ SeqD gd (g.map D.int) ∧ SeqD kd (k.map D.int) ∧ OkNet n S g k T ∧ d = netD (mkNet n S g k T)
theorem zip_at {f : Str} : ∀ {ns : List Str} {vs : List V} {j : Nat} {v : V}, ns.Nodup → ns[j]? = some f → vs[j]? = some v → (ns.zip vs).lookup f = some v
  | [], _, _, _, _, h, _ => by simp at h
  | _ :: _, [], _, _, _, _, h => by simp at h
  | x :: r, u :: vs, 0, v, _, h, h' => by
    simp only [List.getElem?_cons_zero, Option.some.injEq] at h h'
    subst h h'
    rw [List.zip_cons_cons, List.lookup_cons_self]
  | x :: r, u :: vs, j + 1, v, nd, h, h' => by
    have h1 : r[j]? = some f := by simpa using h
    have hx : (f == x) = false := by
      rw [beq_eq_false_iff_ne]
      intro z
      subst z
      exact (List.nodup_cons.mp nd).1 (List.mem_of_getElem? h1)
    rw [List.zip_cons_cons, List.lookup_cons, hx]
    exact zip_at (List.nodup_cons.mp nd).2 h1 (by simpa using h')
theorem zip_put {f : Str} {v : V} : ∀ {ns : List Str} {vs : List V}, ns.length = vs.length → f ∉ ns → putF f v (ns.zip vs) = (ns ++ [f]).zip (vs ++ [v])
  | [], [], _, _ => rfl
  | x :: r, u :: vs, h, nf => by
    have hx : ¬ x = f := fun z => nf (by rw [z]; exact List.mem_cons_self ..)
    have ih := zip_put (v := v) (ns := r) (vs := vs) (by simpa using h) fun z => nf (List.mem_cons_of_mem _ z)
    show (if x = f then _ else (x, u) :: putF f v (r.zip vs)) = (x, u) :: (r ++ [f]).zip (vs ++ [v])
    rw [if_neg hx, ih]
section
variable {K : PySem.W.Frag} {Γ Γ' Γ1 Γ2 Γw : Ctx} {ta tb te tc : TE} {tt tu : TT} {d e d1 d2 : D} {ds es : List D} {t u w : TS}
theorem netN_nd : netN.Nodup := by decide +kernel
/-- a field of a net -/
theorem de_fld {f : Str} {j : Nat} (nf : NetF K) (h : DE K ta Γ (.net ds)) (hf : netN[j]? = some f) (hd : ds[j]? = some d) : DE K (tFld K ta f) Γ d := fun F H σ E Q q => h F H σ E _ fun v H1 e1 i1 => by
  cases i1 with
  | @net a dx vs _ h1 h2 h3 =>
    obtain ⟨x, hx, ix⟩ := h3.get hd
    exact ⟨a, _, dx, _, x, rfl, hid_le _ _ h1, nf.cls, nf.na f (List.mem_of_getElem? hf), zip_at netN_nd hf hx, q x H1 e1 ix⟩
theorem ins_at {F : Fx} {H : Hp} {σ : L2.St} {i : Nat} {p dx : Addr} {ns : List Str} (E : Env K F H σ Γ) (h : Γ[i]? = some (.ins p dx ns ds)) : σ[i]? = some (some (.ref p)) ∧ ∃ xs, H p = some (.ins (netC K) dx (ns.zip xs)) ∧ ns.length = xs.length ∧ IsAll K (hid (hotOf F Γ) H) xs ds := by
  obtain ⟨v, h1, rfl, h2⟩ := E.ent i _ h
  exact ⟨h1, h2⟩
/-- a field of the object that is made -/
theorem de_ifld {f : Str} {i j : Nat} {p dx : Addr} {ns : List Str} (nf : NetF K) (h : Γ[i]? = some (.ins p dx ns ds)) (hn : ns.Nodup) (hm : f ∈ netN) (hf : ns[j]? = some f) (hd : ds[j]? = some d) : DE K (tFld K (tVar i) f) Γ d := fun F H σ E Q q => by
  obtain ⟨h1, xs, h2, h3, h4⟩ := ins_at E h
  obtain ⟨x, hx, ix⟩ := h4.get hd
  exact ⟨.ref p, h1, p, _, dx, _, x, rfl, h2, nf.cls, nf.na f hm, zip_at hn hf hx, q x H (Ex.refl H) ix⟩
/-- self.f = e, a new field -/
theorem s_ifld {f : Str} {i : Nat} {p dx : Addr} {ns : List Str} (nf : NetF K) (h : Γ[i]? = some (.ins p dx ns ds)) (he : DE K te Γ d) (hm : f ∈ netN) (hf : f ∉ ns) (hl : ns.length < 100) : St K (sFld K (tVar i) te f) Γ (Γ.set i (.ins p dx (ns ++ [f]) (ds ++ [d]))) := fun F H σ Z E q =>
  he F H σ E _ fun v H1 e1 i1 => by
    obtain ⟨h1, xs, h2, h3, h4⟩ := ins_at (E.mono e1) h
    refine ⟨.ref p, h1, p, _, dx, _, rfl, h2, nf.cls, nf.na f hm, ?_, q σ _ ((E.mono e1).updO (e' := .ins p dx (ns ++ [f]) (ds ++ [d])) h rfl rfl ⟨rfl, xs ++ [v], ?_, ?_, h4.append (.cons i1 .nil)⟩)⟩
    · rw [List.length_zip]
      omega
    · rw [upd_same, zip_put h3 hf]
    · rw [List.length_append, List.length_append, h3]
      rfl
/-- isinstance(x, Net) -/
theorem de_isNet (nf : NetF K) (ha : DE K ta Γ (.net ds)) : DE K (tCB (rIsi K) (tCons ta (tCons (tC (.ref (netC K))) tNil))) Γ (.bl true) := fun F H σ E Q q =>
  ha F H σ E _ fun v H1 e1 i1 => by
    cases i1 with
    | @net a dx vs _ h1 h2 h3 =>
      refine ⟨.ref a, .ref (netC K), .ref (netC K), .ref (netC K), true, rfl, .own _, .base (.ins (hid_le _ _ h1) nf.cls nf.ic nf.ig nf.it nf.im), ?_, q _ H1 e1 (.bl true)⟩
      unfold PySem.W.kitOne
      rw [if_pos (by first | exact beq_self_eq_true _ | decide)]
end
end Lk
set_option maxHeartbeats 1000000
namespace Lk
open PySem PySem.Spec PyProof.Rows L2
open Evl (Ex)
open C8 (Cal pe_c Mak pe_mk)
theorem St.go {K : PySem.W.Frag} {F : Fx} {Γ Γ' : Ctx} {t : TS} {Z : Ends} {σ : L2.St} {H : Hp} (E : Env K F H σ Γ) (hs : St K t Γ Γ') (h : ∀ σ' H', Env K F H' σ' Γ' → Z.nx σ' H') : t Z σ H := hs F H σ Z E h
theorem Bs.g_net {K : PySem.W.Frag} {mg : Str → Option Value} (h : mg "Net" = some (.ref (netC K))) : ∃ u, mg "Net" = some u ∧ RelV (.ref (netC K)) u := ⟨_, h, rfl⟩
section
variable {P : Program} {w : World} {K : PySem.W.Frag} {mg : Str → Option Value} {base : Heap} {x qual : Str} {params : Arguments} {body : List Stmt} {scope : Scope} {dvs : List V} {kws : List (Str × V)} {f : Addr} {fd : FuncData}
/-- a def that falls off its end -/
theorem fn_datN {N ps : List Str} {k n : Nat} {R : List D → Prop} (F : FunD K x qual params body scope dvs kws f fd) (S : FnScope N ps scope) (hn : ps.length = n)
    (hbody : ∀ (cdv : Value) (A : Around) (outer : List PySem.Env) (s : Shared) (H : Hp) (E : XK), Room k (A.deeper (envOfC qual scope s.heap.objs.size f cdv)) → ∃ t, PSs (cxOf CX0 P w K mg base N qual scope f cdv A outer s H E).nox body t ∧ ∀ ds, ds.length = n → R ds → ∃ Γ', St K t (startC N ds) Γ') :
    FnOk P w K mg base CX0 (k + 1) f fd ps (spD K n fun ds d => R ds ∧ d = .non) := by
  refine F.ok S (fun vs H Q E h => h.1.trans hn.symm) fun cdv A outer s H vs Q E hr h => ?_
  obtain ⟨t, ht, hb⟩ := hbody cdv A outer s H E hr
  obtain ⟨hl, hot, ds, d, hh, a, ⟨hR, rfl⟩, q⟩ := h
  obtain ⟨Γ', hs⟩ := hb ds (a.length.symm.trans hl) hR
  exact ⟨t, ht.nox, hs ⟨H, hot, []⟩ H _ _ (env_start (fun _ _ _ z => z) hh (fun _ z => (List.not_mem_nil z).elim) a) fun σ' H' E' => q .non H' (fun a o z => E'.frame a o List.not_mem_nil z) .non⟩
end
/-! ### the making of a net -/
def spNet (K : PySem.W.Frag) : Sp := fun vs H Q _ => ∃ (x dx : Addr) (vs' : List V) (H1 : Hp) (hot : List Addr) (ds : List D) (d : D), vs = .ref x :: vs' ∧ H1 x = none ∧ H1 dx = none ∧ dx ≠ x ∧ H = upd (upd H1 dx (.own x)) x (.ins (netC K) dx []) ∧ (∀ p ∈ hot, H1 p ≠ none) ∧ IsAll K (hid hot H1) vs' ds ∧ RNet ds d ∧
  ∀ H', Ex H1 H' → Is K (hid hot H') (.ref x) d → Q .non H'
def QNet (P : Program) (w : World) (K : PySem.W.Frag) (mg : Str → Option Value) (base : Heap) : Prop := Mak P w K mg base 7 "Net" (netC K) (spNet K) []
theorem de_make {K : PySem.W.Frag} {Γ : Ctx} {t : TA} {ds : List D} {d : D} (ha : DA K t Γ ds) (hr : RNet ds d) : DE K (tMake (netC K) (spNet K) [] E0 t) Γ d := fun F H σ E Q q =>
  ha F H σ E _ fun vs H1 e1 a1 x dx hx hdx hne => ⟨x, dx, vs, H1, hotOf F Γ, ds, d, by rw [List.append_nil], hx, hdx, hne, rfl, fun p hp => (E.mono e1).there hp, a1, hr, fun H' e' i' => ⟨rfl, q _ H' (e1.trans e') i'⟩⟩
section
variable {P : Program} {w : World} {K : PySem.W.Frag} {mg : Str → Option Value} {base : Heap} {f : Addr} {fd : FuncData}
theorem env_init {x dx : Addr} {vs : List V} {H1 : Hp} {hot : List Addr} {ds : List D} {N : List Str} (hx : H1 x = none) (hdx : H1 dx = none) (hne : dx ≠ x) (hh : ∀ p ∈ hot, H1 p ≠ none) (a : IsAll K (hid hot H1) vs ds) :
    Env K ⟨H1, hot, []⟩ (upd (upd H1 dx (.own x)) x (.ins (netC K) dx [])) (L2.start N (.ref x :: vs)) (.ins x dx [] [] :: ds.map Ent.dat ++ List.replicate (N.length - (ds.length + 1)) Ent.no) := by
  have ex : Ex H1 (upd (upd H1 dx (.own x)) x (.ins (netC K) dx [])) := (Ex.new hdx).trans (Ex.new (by rw [upd_ne (Ne.symm hne)]; exact hx))
  have nx : x ∉ hot := fun z => hh x z hx
  have eo : owned (.ins x dx [] [] :: ds.map Ent.dat ++ List.replicate (N.length - (ds.length + 1)) Ent.no) = [x] := by
    show x :: owned (ds.map Ent.dat ++ List.replicate _ Ent.no) = [x]
    rw [owned_dat]
  have eh : hotOf ⟨H1, hot, []⟩ (.ins x dx [] [] :: ds.map Ent.dat ++ List.replicate (N.length - (ds.length + 1)) Ent.no) = hot ++ [x] := by
    unfold hotOf
    rw [eo]
  have al := a.length
  refine ⟨?_, fun i e hi => ?_, fun b o _ hb => ex b o hb, fun p hp z => ?_, by rw [eo]; exact List.nodup_cons.mpr ⟨List.not_mem_nil, List.nodup_nil⟩, fun p hp => ?_, fun _ z => (List.not_mem_nil z).elim⟩
  · unfold L2.start
    rw [List.length_append, List.length_append, List.length_map, List.length_cons, List.length_cons, List.length_map, List.length_replicate, List.length_replicate, al]
    try rfl
  · rw [eh]
    unfold L2.start
    cases i with
    | zero =>
      cases hi
      exact ⟨_, rfl, rfl, [], upd_same, rfl, .nil⟩
    | succ i =>
      have hi2 : (ds.map Ent.dat ++ List.replicate (N.length - (ds.length + 1)) Ent.no)[i]? = some e := hi
      show ∃ v, (vs.map some ++ List.replicate (N.length - (vs.length + 1)) none)[i]? = some v ∧ _
      by_cases hl : i < ds.length
      · rw [List.getElem?_append_left (by rw [List.length_map]; exact hl), List.getElem?_map] at hi2
        rw [List.getElem?_append_left (by rw [List.length_map, al]; exact hl), List.getElem?_map]
        cases q : ds[i]? with
        | none =>
          rw [q] at hi2
          cases hi2
        | some d =>
          rw [q] at hi2
          cases hi2
          obtain ⟨v, h1, h2⟩ := a.get q
          rw [h1]
          refine ⟨_, rfl, v, rfl, h2.mono fun b o hb => ?_⟩
          obtain ⟨n1, q1⟩ := hid_some hb
          rw [hid_out (by
            rw [List.mem_append, List.mem_singleton, not_or]
            exact ⟨n1, ne_of_none q1 hx⟩)]
          exact ex b o q1
      · rw [List.getElem?_append_right (by rw [List.length_map]; omega), List.length_map] at hi2
        rw [List.getElem?_append_right (by rw [List.length_map, al]; omega), List.length_map, al]
        rw [List.getElem?_replicate] at hi2 ⊢
        split at hi2
        · rename_i hlt
          cases hi2
          rw [if_pos hlt]
          exact ⟨_, rfl, trivial⟩
        · cases hi2
  · obtain ⟨o, ho⟩ : ∃ o, H1 p = some o := by
      cases q : H1 p with
      | none => exact absurd q (hh p hp)
      | some o => exact ⟨o, rfl⟩
    rw [ex p o ho] at z
    cases z
  · rw [eo] at hp
    obtain rfl := List.mem_singleton.mp hp
    exact ⟨nx, hx⟩
abbrev N_init : List Str := ["self", "things", "strings", "given", "kept", "turns", "thing"]
theorem sc_init : FnScope N_init ["self", "things", "strings", "given", "kept", "turns"] (defScope sInit) := ⟨rfl, rfl, rfl, by decide +kernel, rfl, by decide +kernel, by decide +kernel⟩

theorem c_net (F : FunD K "__init__" "Net.__init__" (defArgs sInit) (defBody sInit) (defScope sInit) [] [] f fd) (M : Mk K (netC K) f) (hm : mg "Net" = some (.ref (netC K))) (b : Bs K mg) (nf : NetF K)
    (q_is_within : Cal P w K mg base 2 "is_within" (spD K 3 Rwithin) []) (q_strings_from : Cal P w K mg base 6 "strings_from" (spD K 2 Rstrings) []) (q_things_from : Cal P w K mg base 5 "things_from" (spD K 3 RthingsF) []) (q_turns_from : Cal P w K mg base 4 "turns_from" (spD K 2 Rturns) []) : QNet P w K mg base := by
  refine ⟨f, fd, ["self", "things", "strings", "given", "kept", "turns"], [], M, F.ok sc_init (fun vs H Q E h => ?_) (fun cdv A outer s H vs Q E hr h => ?_), hm, F.bindsN fun _ _ _ _ _ _ us hl => match us, hl with | [_, _, _, _, _, _], _ => rfl, .nil⟩
  · obtain ⟨x, dx, vs', H1, hot, ds, d, rfl, _, _, _, _, _, a, ⟨n, S, g, k, T, gd, kd, rfl, _⟩, _⟩ := h
    show vs'.length + 1 = 6
    rw [a.length]
    rfl
  have hu := room_u hr; have hu1 := room_u1 hr; have hu2 := room_u2 hr; have nd := sc_init.nd
  refine ⟨_, PSs.nox (pss_cons (ps_if (pt_not (pt_val (pe_c q_is_within hr (by decide) rfl (pa_cons (pv 1) (pa_cons pe_int (pa_cons (C8.pe_gc rfl (b.g_c_things)) pa_nil)))))) pss_never pss_nil) (pss_cons (ps_fld (pv 0) (pv 1) rfl) (pss_cons (ps_fld (pv 0) (pe_c q_strings_from hr (by decide) rfl (pa_cons (pv 2) (pa_cons (pv 1) pa_nil))) rfl) (pss_cons (ps_fld (pv 0) (pe_c q_things_from hr (by decide) rfl (pa_cons (pv 3) (pa_cons (pv 1) (pa_cons pe_str pa_nil)))) rfl) (pss_cons (ps_fld (pv 0) (pe_c q_things_from hr (by decide) rfl (pa_cons (pv 4) (pa_cons (pv 1) (pa_cons pe_str pa_nil)))) rfl) (pss_cons (ps_fld (pv 0) (pe_callTy call_tuple_of rfl b.b_tuple PyProof.Rows.boot_tuple (pa_cons (pe_lc (own := [("thing", 6)]) rfl nd (pi_range1 rfl b.b_range (pa_cons (pv 1) pa_nil)) (blkOk_by (own := [("thing", 6)]) (N := N_init) (sc := defScope sInit) (by decide +kernel)) (fun _ _ _ _ _ => (pg_name (i := 6) nd rfl (.inl rfl))) (fun _ _ _ _ _ => (pts_one (pt_cmpR (show OpR _ (compareOp .NotIn) (rIn K true) from op_notIn_seq) (pv 6) (show PE _ _ (tFld K _ _) from pe_fld (pv 0) rfl) rfl))) (fun _ _ _ _ _ => (pv 6))) pa_nil)) rfl) (pss_one (ps_fld (pv 0) (pe_c q_turns_from hr (by decide) rfl (pa_cons (pv 5) (pa_cons (pe_fld (pv 0) rfl) pa_nil))) rfl)))))))), ?_⟩
  obtain ⟨x, dx, vs', H1, hot, ds, d, rfl, hx, hdx, hne, rfl, hh, a, ⟨n, S, g, k, T, gd, kd, rfl, hgd, hkd, ok, rfl⟩, q⟩ := h
  have n1 := ok.n1
  have n2 := ok.n2
  refine St.go (F := ⟨H1, hot, []⟩) (Γ := [.ins x dx [] [], .dat (.int (n : Int)), .dat (.lst (S.map prD)), .dat gd, .dat kd, .dat (.lst (T.map prD)), .no]) (Γ' := [.ins x dx netN (netL (mkNet n S g k T)), .dat (.int (n : Int)), .dat (.lst (S.map prD)), .dat gd, .dat kd, .dat (.lst (T.map prD)), .no]) (env_init (N := N_init) hx hdx hne hh a) ?_ fun σ' H' E' => q H' (fun b o hb => E'.frame b o List.not_mem_nil hb) ?_
  · refine s_seq (s_pass (dt_not (a := true) (dt_B (de_call (da_cons (de_var rfl) (da_cons de_int (da_cons de_int da_nil))) rfl ⟨n, some 1, some 120, rfl, fun l e => by cases e; omega, fun l e => by cases e; omega, rfl⟩)))) ?_
    refine s_seq (s_ifld (f := "things") nf rfl (de_var rfl) (by decide +kernel) (by decide +kernel) (by decide)) ?_
    refine s_seq (s_ifld (f := "strings") nf rfl (de_call (da_cons (de_var rfl) (da_cons (de_var rfl) da_nil)) rfl ⟨S, n, rfl, ok.s1, by omega, ok.s2, ok.s3, rfl⟩) (by decide +kernel) (by decide +kernel) (Nat.le_of_ble_eq_true rfl)) ?_
    refine s_seq (s_ifld (f := "given") nf rfl (de_call (da_cons (de_var rfl) (da_cons (de_var rfl) (da_cons de_str da_nil))) rfl ⟨gd, g, n, _, rfl, hgd, ok.g1, ok.g2, ok.glen, rfl⟩) (by decide +kernel) (by decide +kernel) (Nat.le_of_ble_eq_true rfl)) ?_
    refine s_seq (s_ifld (f := "kept") nf rfl (de_call (da_cons (de_var rfl) (da_cons (de_var rfl) (da_cons de_str da_nil))) rfl ⟨kd, k, n, _, rfl, hkd, ok.k1, ok.k2, ok.klen, rfl⟩) (by decide +kernel) (by decide +kernel) (Nat.le_of_ble_eq_true rfl)) ?_
    refine s_seq (s_ifld (f := "looked") (d := .tup ((lookd n k).map D.int)) nf rfl (de_tupleL (dl_ofN (DN.to (dn_lc (as := List.range n) (em := fun i : Nat => D.int (i : Int)) (f := fun i : Nat => !decide ((i : Int) ∈ k)) (gv := fun i : Nat => D.int (i : Int)) (di_range1 (n := n) (de_var rfl) (by omega)) rfl rfl (fun i _ => dg_name rfl rfl) (fun _ h => h) (fun i _ => dt_test ((de_inT (neg := true) (ns := k) (de_var rfl) (du_of (de_ifld (j := 3) nf rfl (by decide +kernel) (by decide +kernel) rfl rfl))))) (fun i _ _ => de_var rfl) (by rw [List.length_range]; omega)) ?_))) (by decide +kernel) (by decide +kernel) (Nat.le_of_ble_eq_true rfl)) ?_
    · unfold lookd rng
      rw [List.filter_map, List.map_map]
      rfl
    refine St.to (s_ifld (f := "turns") nf rfl (de_call (da_cons (de_var rfl) (da_cons (de_ifld (j := 4) nf rfl (by decide +kernel) (by decide +kernel) rfl rfl) da_nil)) rfl ⟨T, lookd n k, rfl, ok.t1, ok.tnd, ok.tlen, ok.sorted, rfl⟩) (by decide +kernel) (by decide +kernel) (Nat.le_of_ble_eq_true rfl)) rfl
  · obtain ⟨_, xs, h2, h3, h4⟩ := ins_at E' (i := 0) rfl
    have nx : x ∉ hot := fun z => hh x z hx
    exact .net (by rw [hid_out nx]; exact h2) h3.symm (h4.mono (hid_sub fun c hc => List.mem_append_left _ hc))

end
end Lk
set_option maxHeartbeats 1000000
namespace Lk
open PySem PySem.Spec PyProof.Rows L2
open Evl (Ex)
open C8 (Cal pe_c Mak pe_mk)

section
variable {K : PySem.W.Frag} {Γ Γ' Γ1 Γ2 Γw : Ctx} {ta tb te tc : TE} {tt tu : TT} {d e d1 d2 : D} {ds es : List D} {t u w : TS}
/-- list(range(a, b)) -/
theorem all_rg {H : Hp} (a b : Int) : IsAll K H (rgV a b) (((List.range (b - a).toNat).map fun i : Nat => a + (i : Int)).map D.int) := by
  unfold rgV
  have e : ((List.range (b - a).toNat).map fun i : Nat => V.int (a + (i : Nat))) = ((List.range (b - a).toNat).map fun i : Nat => a + (i : Int)).map V.int := by rw [List.map_map] <;> rfl
  rw [e]
  exact IsAll.ofInts _
theorem dn_rg1 {n : Nat} (h : DE K ta Γ (.int (n : Int))) (hn : n ≤ 1000000) : DN K (tLstRg (tRg1 ta)) Γ ((rng n).map D.int) := fun F H σ E Q q => h F H σ E _ fun v H1 e1 i1 => by
  cases i1
  refine ⟨(n : Int), rfl, .of_le (by omega) (by omega) (by omega) (by omega), fun p hp => ?_⟩
  refine q p _ _ (Evl.fresh_back e1 hp) (e1.trans (Ex.new hp)) upd_same ?_
  have z := all_rg (K := K) (H := hid (p :: hotOf F Γ) (upd H1 p (.lst (rgV 0 (n : Int))))) 0 (n : Int)
  have e : (List.range ((n : Int) - 0).toNat).map (fun i : Nat => (0 : Int) + (i : Int)) = rng n := by
    unfold rng
    rw [show ((n : Int) - 0).toNat = n by omega]
    exact List.map_congr_left fun i _ => by omega
  rw [e] at z
  exact z
theorem dn_rg2 {n m : Nat} (h : DE K ta Γ (.int (n : Int))) (h2 : DE K tb Γ (.int ((n + m : Nat) : Int))) (hn : n + m ≤ 1000000) : DN K (tLstRg (tRg2 ta tb)) Γ (((rng m).map fun t => (n : Int) + t).map D.int) := fun F H σ E Q q => h F H σ E _ fun v H1 e1 i1 => by
  cases i1
  refine h2 F H1 σ (E.mono e1) _ fun v H2 e2 i2 => ?_
  cases i2
  refine ⟨(n : Int), ((n + m : Nat) : Int), rfl, rfl, .of_le (by omega) (by omega) (by omega) (by omega), fun p hp => ?_⟩
  refine q p _ _ (Evl.fresh_back (e1.trans e2) hp) ((e1.trans e2).trans (Ex.new hp)) upd_same ?_
  have z := all_rg (K := K) (H := hid (p :: hotOf F Γ) (upd H2 p (.lst (rgV (n : Int) ((n + m : Nat) : Int))))) (n : Int) ((n + m : Nat) : Int)
  have e : (List.range (((n + m : Nat) : Int) - (n : Int)).toNat).map (fun i : Nat => (n : Int) + (i : Int)) = (rng m).map fun t => (n : Int) + t := by
    unfold rng
    rw [show (((n + m : Nat) : Int) - (n : Int)).toNat = m by omega, List.map_map] <;> rfl
  rw [e] at z
  exact z
/-- the first place of an int -/
theorem idx_first {ns : List Int} {t : Int} (h : t ∈ ns) : ns[ns.idxOf t]? = some t ∧ ∀ m, m < ns.idxOf t → ns[m]? ≠ some t := by
  have hl := List.idxOf_lt_length_of_mem h
  refine ⟨by rw [List.getElem?_eq_getElem hl, List.getElem_idxOf], fun m hm z => ?_⟩
  obtain ⟨hm2, e⟩ := List.getElem?_eq_some_iff.mp z
  have := List.not_of_lt_findIdx (p := (· == t)) (xs := ns) hm
  rw [e, beq_self_eq_true] at this
  cases this
theorem de_idxL {ns : List Int} {t : Int} (ha : DL K ta Γ (ns.map D.int)) (hb : DE K tb Γ (.int t)) (hm : t ∈ ns) : DE K (tBM K "list" (rIndex K) ta (tCons tb tNil)) Γ (.int ((ns.idxOf t : Nat) : Int)) := fun F H σ E Q q =>
  ha F H σ E _ fun a xs H1 e1 s1 a1 => ⟨.inl ⟨rfl, xs, s1⟩, hb F H1 σ (E.mono e1) _ fun v H2 e2 i2 => by
    cases i2
    obtain rfl := a1.ints
    obtain ⟨f1, f2⟩ := idx_first hm
    refine ⟨a, ns.map V.int, .int t, ns.idxOf t, .int t, rfl, rfl, Evl.ex_l e2 s1, rfl, flat_ints ns, by rw [List.getElem?_map, f1]; rfl, by show (t == t) = true; exact beq_self_eq_true t, fun m z hm hz => ?_, q _ H2 (e1.trans e2) (.int _)⟩
    rw [List.getElem?_map] at hz
    cases hx : ns[m]? with
    | none =>
      rw [hx] at hz
      cases hz
    | some x =>
      rw [hx] at hz
      cases hz
      show (x == t) = false
      rw [beq_eq_false_iff_ne]
      intro e
      subst e
      exact f2 m hm hx⟩
/-- xs.remove(t) -/
theorem s_remove {i : Nat} {p : Addr} {ns : List Int} {t : Int} (h : Γ[i]? = some (.own p (ns.map D.int))) (he : DE K te Γ (.int t)) (hm : t ∈ ns) : St K (tDrop (tBM K "list" rRemI (tVar i) (tCons te tNil))) Γ (Γ.set i (.own p ((ns.eraseIdx (ns.idxOf t)).map D.int))) := fun F H σ Z E q => by
  obtain ⟨v, h1, rfl, xs, h2, h3⟩ := E.ent i _ h
  refine ⟨.ref p, h1, .inl ⟨rfl, xs, SqL.of h2⟩, he F H σ E _ fun v H' e iv => ?_⟩
  cases iv
  obtain rfl := h3.ints
  obtain ⟨f1, f2⟩ := idx_first hm
  refine ⟨p, ns, t, ns.idxOf t, rfl, rfl, e p _ h2, f1, f2, q σ _ ?_⟩
  exact (E.mono e).updO (e' := .own p ((ns.eraseIdx (ns.idxOf t)).map D.int)) h rfl rfl ⟨rfl, _, upd_same, IsAll.ofInts _⟩
/-- dict(t), t a tuple of pairs of ints with unlike first parts -/
theorem merge_dkv {vs : List V} : ∀ {ks : List Int} {us : List V} {ks0 : List Int} {us0 : List V}, ks0.length = us0.length → ks.length = us.length → (ks0 ++ ks).Nodup → mergeK (dkv ks0 us0) (dkv ks us) = dkv (ks0 ++ ks) (us0 ++ us)
  | [], [], ks0, us0, _, _, _ => by rw [List.append_nil, List.append_nil]; rfl
  | k :: ks, u :: us, ks0, us0, h0, h, nd => by
    have nk : k ∉ ks0 := fun z => by
      rw [List.nodup_append] at nd
      exact nd.2.2 k z k (List.mem_cons_self ..) rfl
    have e : ks0 ++ k :: ks = (ks0 ++ [k]) ++ ks := by rw [List.append_assoc]; rfl
    have e2 : us0 ++ u :: us = (us0 ++ [u]) ++ us := by rw [List.append_assoc]; rfl
    have ih := merge_dkv (vs := vs) (ks := ks) (us := us) (ks0 := ks0 ++ [k]) (us0 := us0 ++ [u]) (by rw [List.length_append, List.length_append, h0]; rfl) (by simpa using h) (by rw [← e]; exact nd)
    rw [e, e2, ← ih, ← dkv_put h0 nk]
    rfl
theorem pairs_refs {H : Hp} : ∀ {xs : List V} {ps : List (Int × Int)}, IsAll K H xs (ps.map prD) → ∃ as : List Addr, xs = as.map V.ref ∧ Paired (fun (p : Addr) (kv : Key × V) => SqT K H p [kV kv.1, kv.2]) as (dkv (ps.map (·.1)) (ps.map fun p => V.int p.2))
  | _, [], .nil => ⟨[], rfl, .nil⟩
  | _, p :: ps, .cons h a => by
    obtain ⟨as, rfl, h2⟩ := pairs_refs a
    cases h with
    | @tup b ys _ s al =>
      have e : ys = [V.int p.1, V.int p.2] := IsAll.ints (ns := [p.1, p.2]) al
      subst e
      exact ⟨b :: as, rfl, .cons s h2⟩
theorem paired_ex {H H' : Hp} (e : Ex H H') {as : List Addr} {kvs : List (Key × V)} (h : Paired (fun (p : Addr) (kv : Key × V) => SqT K H p [kV kv.1, kv.2]) as kvs) : Paired (fun (p : Addr) (kv : Key × V) => SqT K H' p [kV kv.1, kv.2]) as kvs := by
  induction h with
  | nil => exact .nil
  | cons h _ ih => exact .cons (Evl.ex_t e h) ih
theorem dct_new {H : Hp} {l : List Addr} {b : Addr} {ps : List (Int × Int)} (hb : b ∉ l) : Is K (hid l (upd H b (.dK (dkv (ps.map (·.1)) (ps.map fun p => V.int p.2))))) (.ref b) (.dct (ps.map (·.1)) (ps.map fun p => D.int p.2)) := by
  refine .dct (vs := ps.map fun p => V.int p.2) (by rw [hid_out hb]; exact upd_same) (by rw [List.length_map, List.length_map]) ?_
  have e1 : (ps.map fun p => V.int p.2) = (ps.map (·.2)).map V.int := by rw [List.map_map] <;> rfl
  have e2 : (ps.map fun p => D.int p.2) = (ps.map (·.2)).map D.int := by rw [List.map_map] <;> rfl
  rw [e1, e2]
  exact IsAll.ofInts _
theorem merge_all {ps : List (Int × Int)} (nd : (ps.map (·.1)).Nodup) : mergeK [] (dkv (ps.map (·.1)) (ps.map fun p => V.int p.2)) = dkv (ps.map (·.1)) (ps.map fun p => V.int p.2) :=
  merge_dkv (vs := []) (ks0 := []) (us0 := []) rfl (by rw [List.length_map, List.length_map]) nd
theorem de_dictF {ps : List (Int × Int)} (h : DE K ta Γ (.ptup (ps.map prD))) (nd : (ps.map (·.1)).Nodup) : DE K (tCB (rDictF K) (tCons ta tNil)) Γ (.dct (ps.map (·.1)) (ps.map fun p => D.int p.2)) := fun F H σ E Q q => h F H σ E _ fun v H1 e1 i1 => by
  cases i1 with
  | @ptup a o xs _ h1 h2 h3 =>
    obtain ⟨as, rfl, pr⟩ := pairs_refs h3
    refine ⟨a, o, as, _, rfl, hid_le _ _ h1, h2, paired_ex hid_le pr, fun b hb => ?_⟩
    rw [merge_all nd]
    exact q _ _ (e1.trans (Ex.new hb)) (dct_new ((E.mono e1).new hb))
abbrev rDictP (K : PySem.W.Frag) : List V → Hp → VK → Prop := fun xs H Q => ∃ (a : Addr) (ps : List Addr) (kvs : List (Key × V)), xs = [.ref a] ∧ SqL K H a (ps.map V.ref) ∧ Paired (fun p kv => SqT K H p [kV kv.1, kv.2]) ps kvs ∧
  ∀ d, H d = none → Q (.ref d) (upd H d (.dK (mergeK [] kvs)))
end
end Lk
set_option maxHeartbeats 1000000
namespace Lk
open PySem PySem.Spec PyProof.Rows L2
open Evl (Ex)
open C8 (Cal pe_c Mak pe_mk)

/-! ### sums of powers of two -/
theorem or_bit {m x : Nat} (h : m.testBit x = false) : 2 ^ x + m = m ||| 2 ^ x := by
  rw [Nat.testBit_eq_decide_div_mod_eq, decide_eq_false_iff_not] at h
  have hx := Nat.two_pow_pos x
  obtain ⟨u, hu⟩ : ∃ u, m / 2 ^ x = 2 * u := ⟨m / 2 ^ x / 2, by omega⟩
  have hr : m % 2 ^ x < 2 ^ x := Nat.mod_lt _ hx
  have hm : m = 2 * u * 2 ^ x + m % 2 ^ x := by
    have h1 := Nat.div_add_mod m (2 ^ x)
    rw [hu, Nat.mul_comm] at h1
    exact h1.symm
  generalize m % 2 ^ x = r at hr hm
  subst hm
  have e1 : (2 * u * 2 ^ x) ||| 2 ^ x = (2 * u + 1) * 2 ^ x := by
    have e2 : 2 * u * 2 ^ x = u * 2 ^ (x + 1) := by rw [Nat.pow_succ]; grind
    rw [e2, or_add (Nat.pow_lt_pow_right (by decide) (Nat.lt_succ_self x)), Nat.pow_succ]
    grind
  rw [← or_add hr, Nat.or_assoc, Nat.or_comm r, ← Nat.or_assoc, e1, or_add hr, or_add hr]
  grind
theorem sum_bits : ∀ {L : List Nat}, L.Nodup → ∀ j, ((L.map (2 ^ ·)).sum).testBit j = decide (j ∈ L)
  | [], _, j => by simp
  | x :: L, nd, j => by
    obtain ⟨h1, h2⟩ := List.nodup_cons.mp nd
    have ih := sum_bits h2
    rw [List.map_cons, List.sum_cons, or_bit (by rw [ih x, decide_eq_false h1]), Nat.testBit_or, ih j, Nat.testBit_two_pow]
    by_cases hx : x = j
    · subst hx
      simp
    · have hx' : ¬ j = x := fun z => hx z.symm
      simp [hx, hx']
def selO (o : List Nat) (i : Nat) : List Nat := (o.zipIdx.filter fun p => i.testBit p.2).map (·.1)
theorem idxO_sel (o : List Nat) (i : Nat) : idxO o i = ((selO o i).map (2 ^ ·)).sum := by
  unfold idxO selO
  rw [List.map_map]
  rfl
theorem selO_nodup {o : List Nat} (nd : o.Nodup) (i : Nat) : (selO o i).Nodup := by
  have h : (o.zipIdx.map (·.1)).Nodup := by
    rw [show (fun p : Nat × Nat => p.1) = Prod.fst from rfl, List.zipIdx_map_fst]
    exact nd
  exact List.Sublist.nodup (List.Sublist.map _ List.filter_sublist) h
theorem selO_mem {o : List Nat} {i j : Nat} : j ∈ selO o i ↔ ∃ n, o[n]? = some j ∧ i.testBit n = true := by
  unfold selO
  rw [List.mem_map]
  constructor
  · rintro ⟨p, hp, rfl⟩
    obtain ⟨h1, h2⟩ := List.mem_filter.mp hp
    exact ⟨p.2, (List.mem_zipIdx_iff_getElem? (x := p)).mp h1, h2⟩
  · rintro ⟨n, h1, h2⟩
    exact ⟨(j, n), List.mem_filter.mpr ⟨(List.mem_zipIdx_iff_getElem? (x := (j, n))).mpr h1, h2⟩, rfl⟩
theorem idxO_bit {o : List Nat} (nd : o.Nodup) (i j : Nat) : (idxO o i).testBit j = true ↔ ∃ n, o[n]? = some j ∧ i.testBit n = true := by
  rw [idxO_sel, sum_bits (selO_nodup nd i), decide_eq_true_eq, selO_mem]
theorem idxO_lt {o : List Nat} {m : Nat} (nd : o.Nodup) (h : ∀ x ∈ o, x < m) (i : Nat) : idxO o i < 2 ^ m := by
  refine Nat.lt_pow_two_of_testBit _ fun j hj => ?_
  cases e : (idxO o i).testBit j with
  | false => rfl
  | true =>
    obtain ⟨n, h1, _⟩ := (idxO_bit nd i j).mp e
    have := h j (List.mem_of_getElem? h1)
    omega

/-! ### the parts of a run, purely -/
def turnOf (N : NetM) (t : Int) : Int := (N.turns.lookup t).getD 0
def restL (N : NetM) : List Int := lookd N.things N.given
def fullL (N : NetM) : List Int := N.given ++ restL N
def begS (N : NetM) (s : List Amt) : List Amt := N.strings.foldl (fun s p => tieS s p.1.toNat p.2.toNat) (layS (bothS s (evenS (restL N).length)) ((rng N.things).map fun t => (fullL N).idxOf t))
abbrev RunSt := List (List Amt) × List Amt × List Int
def stp (T : Int → Int) (st : RunSt) (p : Int × Int) : RunSt := (st.1 ++ [lookS st.2.1 (st.2.2.idxOf p.1) (T p.1 + 4 * p.2)], lookS st.2.1 (st.2.2.idxOf p.1) (T p.1 + 4 * p.2), st.2.2.eraseIdx (st.2.2.idxOf p.1))
def allS (N : NetM) (s : List Amt) (ps : List (Int × Int)) : RunSt := ps.foldl (stp (turnOf N)) ([begS N s], begS N s, rng N.things)
def lastS (N : NetM) (s : List Amt) (ps : List (Int × Int)) : List Amt := (allS N s ps).2.1
def leftL (N : NetM) (s : List Amt) (ps : List (Int × Int)) : List Int := (allS N s ps).2.2
def outS (N : NetM) (s : List Amt) (ps : List (Int × Int)) : List Amt := layS (lastS N s ps) (N.kept.map fun t => (leftL N s ps).idxOf t)
structure NetOk (N : NetM) : Prop where
  n1 : 1 ≤ N.things
  n2 : N.things ≤ 9
  s1 : ∀ p ∈ N.strings, OkP N.things p
  s3 : N.strings.length < 64
  g1 : ∀ t ∈ N.given, 0 ≤ t ∧ t < N.things
  g2 : N.given.Nodup
  k1 : ∀ t ∈ N.kept, 0 ≤ t ∧ t < N.things
  k2 : N.kept.Nodup
  t1 : ∀ p ∈ N.turns, OkT p
  t2 : (N.turns.map (·.1)).Perm (lookd N.things N.kept)
theorem mkNet_ok {n : Nat} {S : List (Int × Int)} {g k : List Int} {T : List (Int × Int)} (h : OkNet n S g k T) (h9 : n ≤ 9) : NetOk (mkNet n S g k T) :=
  ⟨h.n1, h9, fun p hp => h.s1 p ((sortP_perm S).mem_iff.mp hp), by rw [show (mkNet n S g k T).strings = sortP S from rfl, (sortP_perm S).length_eq]; exact h.s3, h.g1, h.g2, h.k1, h.k2, fun p hp => h.t1 p ((sortP_perm T).mem_iff.mp hp), ((sortP_perm T).map _).trans h.t2⟩
structure AskOk (N : NetM) (s : List Amt) (ps : List (Int × Int)) (n : Nat) : Prop where
  net : NetOk N
  len : s.length = 2 ^ N.given.length
  good : GoodS s
  bd : ∀ x ∈ s, Bd n x
  n0 : 0 < n
  n9 : n ≤ 1000
  ord : (ps.map (·.1)).Perm (lookd N.things N.kept)
  fal : ∀ p ∈ ps, 0 ≤ p.2 ∧ p.2 ≤ 1
section
variable {N : NetM} {s : List Amt} {ps : List (Int × Int)} {n : Nat}
theorem NetOk.glen (h : NetOk N) : N.given.length ≤ N.things := len_rng h.g1 h.g2
theorem rest_len (h : NetOk N) : N.given.length + (restL N).length = N.things := by
  have p : (N.given ++ restL N).Perm (rng N.things) := by
    refine (List.perm_ext_iff_of_nodup ?_ (rng_nodup _)).mpr fun t => ?_
    · refine List.nodup_append.mpr ⟨h.g2, lookd_nodup _ _, fun a ha b hb z => ?_⟩
      subst z
      exact (lookd_mem.mp hb).2 ha
    · rw [List.mem_append, rng_mem]
      unfold restL
      rw [lookd_mem]
      constructor
      · rintro (z | z)
        · exact h.g1 t z
        · exact z.1
      · intro z
        by_cases hg : t ∈ N.given
        · exact .inl hg
        · exact .inr ⟨z, hg⟩
  have := p.length_eq
  rwa [List.length_append, rng_length] at this
theorem full_perm (h : NetOk N) : (fullL N).Perm (rng N.things) := by
  refine (List.perm_ext_iff_of_nodup ?_ (rng_nodup _)).mpr fun t => ?_
  · refine List.nodup_append.mpr ⟨h.g2, lookd_nodup _ _, fun a ha b hb z => ?_⟩
    subst z
    exact (lookd_mem.mp hb).2 ha
  · unfold fullL
    rw [List.mem_append, rng_mem]
    unfold restL
    rw [lookd_mem]
    constructor
    · rintro (z | z)
      · exact h.g1 t z
      · exact z.1
    · intro z
      by_cases hg : t ∈ N.given
      · exact .inl hg
      · exact .inr ⟨z, hg⟩
theorem even_len (k : Nat) : (evenS k).length = 2 ^ k := List.length_replicate
theorem both_len (s t : List Amt) : (bothS s t).length = s.length * t.length := by
  unfold bothS
  induction t with
  | nil => rw [List.flatMap_nil]; simp
  | cons x t ih => rw [List.flatMap_cons, List.length_append, ih, List.length_map, List.length_cons]; grind
theorem lay_len (s : List Amt) (o : List Nat) : (layS s o).length = s.length := by
  unfold layS
  rw [List.length_map, List.length_range]
theorem tie_len (s : List Amt) (a b : Nat) : (tieS s a b).length = s.length := by
  unfold tieS
  rw [List.length_map, List.length_zipIdx]
theorem ties_len : ∀ (S : List (Int × Int)) (s : List Amt), (S.foldl (fun s p => tieS s p.1.toNat p.2.toNat) s).length = s.length
  | [], _ => rfl
  | p :: S, s => by rw [List.foldl_cons, ties_len S, tie_len]
theorem beg_len (h : NetOk N) (hl : s.length = 2 ^ N.given.length) : (begS N s).length = 2 ^ N.things := by
  unfold begS
  rw [ties_len, lay_len, both_len, even_len, hl, ← Nat.pow_add, rest_len h]
theorem Bd.minus {n : Nat} {x : Amt} (h : Bd n x) : Bd n x.minus := ⟨by rw [show x.minus.a = -x.a from rfl, Int.natAbs_neg]; exact h.a, by rw [show x.minus.b = -x.b from rfl, Int.natAbs_neg]; exact h.b, by rw [show x.minus.c = -x.c from rfl, Int.natAbs_neg]; exact h.c, by rw [show x.minus.d = -x.d from rfl, Int.natAbs_neg]; exact h.d⟩
theorem Bd.zero (n : Nat) : Bd n Amt.zero := ⟨Nat.two_pow_pos n, Nat.two_pow_pos n, Nat.two_pow_pos n, Nat.two_pow_pos n⟩
theorem Bd.rot {n : Nat} {x : Amt} (h : Bd n x) : Bd n x.rot1 ∧ Bd n x.rot2 ∧ Bd n x.rot3 := by
  have ng : ∀ {i : Int}, i.natAbs < 2 ^ n → (-i).natAbs < 2 ^ n := fun h => by rwa [Int.natAbs_neg]
  exact ⟨⟨ng h.d, h.a, h.b, h.c⟩, ⟨ng h.c, ng h.d, h.a, h.b⟩, ⟨ng h.b, ng h.c, ng h.d, h.a⟩⟩
theorem Bd.turn {n : Nat} {x : Amt} (h : Bd n x) (t : Int) : Bd n (x.turn t) := by
  unfold Amt.turn
  simp only
  have h1 : Bd n (if t % 4 = 1 then x.rot1 else x) := by
    split
    · exact h.rot.1
    · exact h
  generalize (if t % 4 = 1 then x.rot1 else x) = y at h1
  have h2 : Bd n (if t % 4 = 2 then y.rot2 else y) := by
    split
    · exact h1.rot.2.1
    · exact h1
  generalize (if t % 4 = 2 then y.rot2 else y) = z at h2
  have h3 : Bd n (if t % 4 = 3 then z.rot3 else z) := by
    split
    · exact h2.rot.2.2
    · exact h2
  split
  · exact h3
  · exact h3.minus
theorem Bd.plus {n : Nat} {x y : Amt} (h : Bd n x) (g : Bd n y) : Bd (n + 1) (x.plus y) := by
  have pl : ∀ {i j : Int}, i.natAbs < 2 ^ n → j.natAbs < 2 ^ n → (i + j).natAbs < 2 ^ (n + 1) := fun h1 h2 => by
    rw [Nat.pow_succ]
    omega
  exact ⟨pl h.a g.a, pl h.b g.b, pl h.c g.c, pl h.d g.d⟩
theorem getD_bd {s : List Amt} {n : Nat} (h : ∀ x ∈ s, Bd n x) (i : Nat) : Bd n (s.getD i Amt.zero) := by
  rw [List.getD_eq_getElem?_getD]
  cases e : s[i]? with
  | none => exact Bd.zero n
  | some x => exact h x (List.mem_of_getElem? e)
theorem lay_bd {s : List Amt} {n : Nat} (h : ∀ x ∈ s, Bd n x) (o : List Nat) : ∀ x ∈ layS s o, Bd n x := fun x hx => by
  obtain ⟨i, _, rfl⟩ := List.mem_map.mp hx
  exact getD_bd h _
theorem look_bd {s : List Amt} {n : Nat} (h : ∀ x ∈ s, Bd n x) (p : Nat) (t : Int) : ∀ x ∈ lookS s p t, Bd (n + 1) x := fun x hx => by
  obtain ⟨i, _, rfl⟩ := List.mem_map.mp hx
  exact (getD_bd h _).plus ((getD_bd h _).turn t)
theorem tie_bd {s : List Amt} {n : Nat} (h : ∀ x ∈ s, Bd n x) (a b : Nat) : ∀ x ∈ tieS s a b, Bd n x := fun x hx => by
  obtain ⟨p, hp, rfl⟩ := List.mem_map.mp hx
  have hm := h p.1 (by
    obtain ⟨y, i⟩ := p
    exact List.fst_mem_of_mem_zipIdx hp)
  split
  · exact hm.minus
  · exact hm
theorem ties_bd {n : Nat} : ∀ (S : List (Int × Int)) (s : List Amt), (∀ x ∈ s, Bd n x) → ∀ x ∈ S.foldl (fun s p => tieS s p.1.toNat p.2.toNat) s, Bd n x
  | [], _, h => h
  | p :: S, s, h => by
    rw [List.foldl_cons]
    exact ties_bd S _ (tie_bd h _ _)
theorem both_one (s : List Amt) (k : Nat) : ∀ x ∈ bothS s (evenS k), x ∈ s := fun x hx => by
  obtain ⟨y, hy, h2⟩ := List.mem_flatMap.mp hx
  obtain ⟨z, hz, rfl⟩ := List.mem_map.mp h2
  have : y = Amt.num 1 := List.eq_of_mem_replicate hy
  subst this
  rw [times_one]
  exact hz
theorem beg_bd {n : Nat} (h : ∀ x ∈ s, Bd n x) : ∀ x ∈ begS N s, Bd n x := ties_bd _ _ (lay_bd (fun x hx => h x (both_one _ _ x hx)) _)
theorem idxOf_inj {l : List Int} : ∀ {a b : Int}, a ∈ l → b ∈ l → l.idxOf a = l.idxOf b → a = b := fun {a b} ha hb h => by
  have h1 := (idx_first ha).1
  have h2 := (idx_first hb).1
  rw [h] at h1
  exact Option.some.inj (h1.symm.trans h2)
theorem idx_nodup {l o : List Int} (nd : o.Nodup) (h : ∀ t ∈ o, t ∈ l) : (o.map fun t => l.idxOf t).Nodup := by
  refine List.pairwise_map.mpr (nd.imp_of_mem fun {a b} ha hb hab z => hab (idxOf_inj (h a ha) (h b hb) z))
theorem idx_lt {l o : List Int} (h : ∀ t ∈ o, t ∈ l) : ∀ x ∈ o.map (fun t => l.idxOf t), x < l.length := fun x hx => by
  obtain ⟨t, ht, rfl⟩ := List.mem_map.mp hx
  exact List.idxOf_lt_length_of_mem (h t ht)
/-- where a run stands behind its first looks -/
structure RunOk (N : NetM) (n : Nat) (done : List Int) (st : RunSt) : Prop where
  last : ∃ l, st.1 = l ++ [st.2.1]
  bds : ∀ x ∈ st.1, ∀ y ∈ x, Bd (n + done.length) y
  left : st.2.2 = lookd N.things done
  len : st.2.1.length = 2 ^ st.2.2.length
theorem erase_lookd {m : Nat} {k : List Int} {t : Int} (h : t ∈ lookd m k) : (lookd m k).eraseIdx ((lookd m k).idxOf t) = lookd m (k ++ [t]) := by
  have e : (lookd m k).eraseIdx ((lookd m k).idxOf t) = (lookd m k).erase t := (List.erase_eq_eraseIdx_of_idxOf rfl).symm
  rw [e, (lookd_nodup m k).erase_eq_filter]
  unfold lookd
  rw [List.filter_filter]
  refine List.filter_congr fun x _ => ?_
  rw [Bool.eq_iff_iff]
  simp
  constructor
  · rintro ⟨h1, h2⟩
    exact ⟨h2, h1⟩
  · rintro ⟨h1, h2⟩
    exact ⟨h2, h1⟩
theorem look_len (s : List Amt) (p : Nat) (t : Int) : (lookS s p t).length = s.length / 2 := by
  unfold lookS
  rw [List.length_map, List.length_range]
theorem RunOk.step {done : List Int} {st : RunSt} (h : RunOk N n done st) {p : Int × Int} (hp : p.1 ∈ lookd N.things done) : RunOk N n (done ++ [p.1]) (stp (turnOf N) st p) := by
  have hm : p.1 ∈ st.2.2 := by rw [h.left]; exact hp
  have hidx := List.idxOf_lt_length_of_mem hm
  refine ⟨⟨_, rfl⟩, fun x hx y hy => ?_, ?_, ?_⟩
  · rw [List.length_append, List.length_singleton, ← Nat.add_assoc]
    rcases List.mem_append.mp hx with z | z
    · exact (h.bds x z y hy).mono (Nat.le_succ _)
    · obtain rfl := List.mem_singleton.mp z
      obtain ⟨l, hl⟩ := h.last
      exact look_bd (fun z hz => h.bds st.2.1 (by rw [hl]; exact List.mem_append_right _ (List.mem_singleton.mpr rfl)) z hz) _ _ y hy
  · show st.2.2.eraseIdx (st.2.2.idxOf p.1) = _
    rw [h.left, erase_lookd hp]
  · show (lookS st.2.1 _ _).length = 2 ^ (st.2.2.eraseIdx (st.2.2.idxOf p.1)).length
    rw [look_len, h.len, List.length_eraseIdx_of_lt hidx]
    obtain ⟨m, hm⟩ : ∃ m, st.2.2.length = m + 1 := ⟨st.2.2.length - 1, by omega⟩
    rw [hm, Nat.pow_succ]
    show 2 ^ m * 2 / 2 = 2 ^ m
    omega
theorem run_start (a : AskOk N s ps n) : RunOk N n [] ([begS N s], begS N s, rng N.things) := by
  have e : lookd N.things [] = rng N.things := List.filter_eq_self.mpr fun x _ => rfl
  refine ⟨⟨[], rfl⟩, fun x hx y hy => ?_, e.symm, ?_⟩
  · obtain rfl := List.mem_singleton.mp hx
    exact beg_bd a.bd y hy
  · show (begS N s).length = 2 ^ (rng N.things).length
    rw [beg_len a.net a.len, rng_length]
theorem AskOk.nodup (a : AskOk N s ps n) : (ps.map (·.1)).Nodup := a.ord.nodup_iff.mpr (lookd_nodup _ _)
theorem run_take (a : AskOk N s ps n) : ∀ i, i ≤ ps.length → RunOk N n ((ps.take i).map (·.1)) ((ps.take i).foldl (stp (turnOf N)) ([begS N s], begS N s, rng N.things))
  | 0, _ => by rw [List.take_zero]; exact run_start a
  | i + 1, hi => by
    have ih := run_take a i (Nat.le_of_succ_le hi)
    have hp : ps[i]? = some ps[i] := List.getElem?_eq_getElem hi
    rw [List.take_add_one, hp, Option.toList_some, List.foldl_append, List.map_append]
    refine ih.step (lookd_mem.mpr ⟨?_, fun z => ?_⟩)
    · have := a.ord.mem_iff.mp (List.mem_map.mpr ⟨ps[i], List.mem_of_getElem? hp, rfl⟩)
      exact (lookd_mem.mp this).1
    · obtain ⟨q, hq, e⟩ := List.mem_map.mp z
      obtain ⟨j, hj⟩ := List.getElem?_of_mem hq
      rw [List.getElem?_take] at hj
      split at hj
      · rename_i hji
        have e1 : (ps.map (·.1))[j]? = some ps[i].1 := by rw [List.getElem?_map, hj, ← e] <;> rfl
        have e2 : (ps.map (·.1))[i]? = some ps[i].1 := by rw [List.getElem?_map, hp] <;> rfl
        have := nd_ix a.nodup e1 e2
        omega
      · cases hj
theorem run_end (a : AskOk N s ps n) : RunOk N n (ps.map (·.1)) (allS N s ps) := by
  have := run_take a ps.length (Nat.le_refl _)
  rwa [List.take_length] at this
theorem AskOk.plen (a : AskOk N s ps n) : ps.length ≤ 9 := by
  have h1 := a.ord.length_eq
  rw [List.length_map] at h1
  have h2 := lookd_length N.things N.kept
  have := a.net.n2
  omega
theorem left_mem (a : AskOk N s ps n) {t : Int} : t ∈ leftL N s ps ↔ t ∈ N.kept := by
  unfold leftL
  rw [(run_end a).left, lookd_mem, a.ord.mem_iff, lookd_mem]
  constructor
  · rintro ⟨h1, h2⟩
    exact Classical.byContradiction fun h3 => h2 ⟨h1, h3⟩
  · intro h
    exact ⟨a.net.k1 t h, fun z => z.2 h⟩
theorem left_perm (a : AskOk N s ps n) : (leftL N s ps).Perm N.kept := by
  refine (List.perm_ext_iff_of_nodup ?_ a.net.k2).mpr fun t => left_mem a
  unfold leftL
  rw [(run_end a).left]
  exact lookd_nodup _ _
theorem last_len (a : AskOk N s ps n) : (lastS N s ps).length = 2 ^ N.kept.length := by
  have := (run_end a).len
  rw [← (left_perm a).length_eq]
  exact this
theorem last_bd (a : AskOk N s ps n) : ∀ x ∈ lastS N s ps, Bd (n + 9) x := fun x hx => by
  have r := run_end a
  obtain ⟨l, hl⟩ := r.last
  refine (r.bds (lastS N s ps) (by rw [hl]; exact List.mem_append_right _ (List.mem_singleton.mpr rfl)) x hx).mono ?_
  have := a.plen
  rw [List.length_map]
  omega
theorem out_len (a : AskOk N s ps n) : (outS N s ps).length = 2 ^ N.kept.length := by
  unfold outS
  rw [lay_len, last_len a]
theorem out_bd (a : AskOk N s ps n) : ∀ x ∈ outS N s ps, Bd (n + 9) x := lay_bd (last_bd a) _
theorem pow9 {k : Nat} (h : k ≤ 9) : 2 ^ k ≤ 512 := Nat.le_trans (Nat.pow_le_pow_right (by decide) h) (by decide)
theorem AskOk.klen (a : AskOk N s ps n) : N.kept.length ≤ 9 := Nat.le_trans (len_rng a.net.k1 a.net.k2) a.net.n2
end
end Lk
set_option maxHeartbeats 1000000
namespace Lk
open PySem PySem.Spec PyProof.Rows L2
open Evl (Ex)
open C8 (Cal pe_c Mak pe_mk)
def RneedNet0 : List D → Prop := fun ds => ∃ N x, ds = [netD N, .str x]
def RneedNet : List D → D → Prop := fun ds d => RneedNet0 ds ∧ d = .non
def RneedBegin0 : List D → Prop := fun ds => ∃ (N : NetM) (s : List Amt), ds = [netD N, spr s] ∧ s.length = 2 ^ N.given.length ∧ N.things ≤ 12
def RneedBegin : List D → D → Prop := fun ds d => RneedBegin0 ds ∧ d = .non
def nrm (ρ : Int → Int) (p : Int × Int) : Int × Int := if ρ p.1 ≤ ρ p.2 then (ρ p.1, ρ p.2) else (ρ p.2, ρ p.1)
def withD (ρ : Int → Int) (N : NetM) : D := .tup [.lst ((N.strings.map (nrm ρ)).map prD), .lst ((N.turns.map fun p => (ρ p.1, p.2)).map prD)]
def RwithD : List D → D → Prop := fun ds d => ∃ (N : NetM) (ks : List Int) (ρ : Int → Int), ds = [netD N, .dct ks (ks.map fun k => .int (ρ k))] ∧ ks.Nodup ∧ N.strings.length < 64 ∧ N.turns.length < 64 ∧ (∀ p ∈ N.strings, p.1 ∈ ks ∧ p.2 ∈ ks) ∧ (∀ p ∈ N.turns, p.1 ∈ ks) ∧ d = withD ρ N
def RwithL : List D → D → Prop := fun ds d => ∃ (N : NetM) (l : List Int) (ρ : Int → Int), ds = [netD N, .lst (l.map D.int)] ∧ N.strings.length < 64 ∧ N.turns.length < 64 ∧ (∀ p ∈ N.strings, L2.atI l p.1 = some (ρ p.1) ∧ L2.atI l p.2 = some (ρ p.2)) ∧ (∀ p ∈ N.turns, L2.atI l p.1 = some (ρ p.1)) ∧ d = withD ρ N
def Rorder : List D → D → Prop := fun ds d => ∃ (N : NetM) (o : List Int), ds = [netD N, .lst (o.map D.int)] ∧ o.Perm (lookd N.things N.kept) ∧ N.things ≤ 63 ∧ d = .tup (o.map D.int)
def Rfalls : List D → D → Prop := fun ds d => ∃ (fs : List Int), ds = [.lst (fs.map D.int), .int (fs.length : Int)] ∧ fs.length < 64 ∧ (∀ x ∈ fs, 0 ≤ x ∧ x ≤ 1) ∧ d = .tup (fs.map D.int)
def Rbegin : List D → D → Prop := fun ds d => ∃ (N : NetM) (s : List Amt) (n : Nat), ds = [netD N, spr s] ∧ NetOk N ∧ s.length = 2 ^ N.given.length ∧ (∀ x ∈ s, Bd n x) ∧ 0 < n ∧ n ≤ 2000 ∧ d = spr (begS N s)
def Rleft : List D → D → Prop := fun ds d => ∃ (N : NetM) (s : List Amt) (ps : List (Int × Int)) (n : Nat), ds = [netD N, spr s, .tup ((ps.map (·.1)).map D.int), .tup ((ps.map (·.2)).map D.int)] ∧ AskOk N s ps n ∧ d = .tup [.lst ((allS N s ps).1.map spr), .lst ((leftL N s ps).map D.int)]
def Rasked : List D → D → Prop := fun ds d => ∃ (N : NetM) (v : D) (s : List Amt) (ps : List (Int × Int)) (n : Nat), ds = [netD N, v, .lst ((ps.map (·.1)).map D.int), .lst ((ps.map (·.2)).map D.int)] ∧ SeqD v (s.map amtD) ∧ AskOk N s ps n ∧ d = .tup [.lst ((allS N s ps).1.map spr), .lst ((leftL N s ps).map D.int)]
def endD (o : List Amt) (z : Bool) : D := if z = true then spr (plainS o) else .non
def Rend : List D → D → Prop := fun ds d => ∃ (N : NetM) (v : D) (s : List Amt) (ps : List (Int × Int)) (n : Nat), ds = [netD N, v, .lst ((ps.map (·.1)).map D.int), .lst ((ps.map (·.2)).map D.int)] ∧ SeqD v (s.map amtD) ∧ AskOk N s ps n ∧ d = endD (outS N s ps) (nzS (lastS N s ps))
def Rlens : List D → D → Prop := fun ds d => ∃ (N : NetM) (v : D) (s : List Amt) (ps : List (Int × Int)) (n : Nat), ds = [netD N, v, .lst ((ps.map (·.1)).map D.int), .lst ((ps.map (·.2)).map D.int)] ∧ SeqD v (s.map amtD) ∧ AskOk N s ps n ∧ d = .tup ((allS N s ps).1.map fun s => .tup [.int (lenP s), .int (lenQ s)])
theorem sort2n (a b : Int) : sortI [a, b] = if a ≤ b then [a, b] else [b, a] := by
  split
  · rename_i h
    exact (sortI_uniq (List.Perm.refl _) (by simp; omega)).symm
  · rename_i h
    exact (sortI_uniq (List.Perm.swap _ _ _) (by simp; omega)).symm
theorem nrm_sort (ρ : Int → Int) (p : Int × Int) : D.tup ((sortI [ρ p.1, ρ p.2]).map D.int) = prD (nrm ρ p) := by
  rw [sort2n]
  unfold nrm prD
  split <;> rfl
theorem nrm_lt {ρ : Int → Int} {p : Int × Int} (h : ρ p.1 ≠ ρ p.2) : (nrm ρ p).1 < (nrm ρ p).2 := by
  unfold nrm
  split <;> (simp only; omega)
theorem zip_fst_snd (ps : List (Int × Int)) : zipD ((ps.map (·.1)).map D.int) ((ps.map (·.2)).map D.int) = ps.map prD := by
  unfold zipD
  induction ps with
  | nil => rfl
  | cons p ps ih =>
    simp only [List.map_cons, List.zip_cons_cons]
    rw [ih]
    rfl
section
variable {K : PySem.W.Frag} {Γ Γ' Γ1 Γ2 Γw : Ctx} {ta tb te tc : TE} {tt tu : TT} {d e d1 d2 : D} {ds es : List D} {t u w : TS}
theorem b_relO {i : Nat} {p : Addr} (h : Γ[i]? = some (.own p ds)) (hk : Blk K u (Γ.set i (.dat (.lst ds))) d) : Blk K u Γ d := b_rel h hk
theorem dget_of {ks : List Int} {k : Int} {f : Int → D} (ha : DE K ta Γ (.dct ks (ks.map f))) (hb : DE K tb Γ (.int k)) (nd : ks.Nodup) (hk : k ∈ ks) : DE K (tDGet ta tb) Γ (f k) := by
  obtain ⟨i, hi⟩ := List.getElem?_of_mem hk
  exact de_dget ha hb nd hi (by rw [List.getElem?_map, hi]; rfl)
end
section
variable {P : Program} {w : World} {K : PySem.W.Frag} {mg : Str → Option Value} {base : Heap} {f : Addr} {fd : FuncData}
abbrev N_need_net : List Str := ["value", "part"]
theorem sc_need_net : FnScope N_need_net ["value", "part"] (defScope (top 41)) := ⟨rfl, rfl, rfl, by decide +kernel, rfl, by decide +kernel, by decide +kernel⟩

theorem c_need_net (F : FunD K "need_net" "need_net" (defArgs (top 41)) (defBody (top 41)) (defScope (top 41)) [.str "net"] [] f fd) (hf : mg "need_net" = some (.ref f)) (b : Bs K mg) (nf : NetF K) (hnet : mg "Net" = some (.ref (netC K))) : Cal P w K mg base 1 "need_net" (spD K 2 RneedNet) [] := by
  have G := fn_datN (P := P) (w := w) (mg := mg) (base := base) (k := 0) (n := 2) (R := RneedNet0) F sc_need_net rfl fun cdv A outer s H E hr => ⟨_, (pss_one (ps_if (pt_not (pt_val (pe_callB call_isi rfl b.b_isinstance PyProof.Rows.boot_isinstance (pa_cons (pv 0) (pa_cons (C8.pe_gc rfl (Bs.g_net hnet)) pa_nil))))) pss_never pss_nil)), fun ds _ hR => by
    obtain ⟨N, x, rfl⟩ := hR
    exact ⟨_, s_pass (dt_not (a := true) (dt_B (de_isNet nf (de_var rfl))))⟩⟩
  obtain ⟨ds, hv, hb⟩ := F.binds1 (ps := ["value", "part"]) 2 1 (by simp) rfl fun T kV doc pm an cdv ct us its h1 h2 => match us, its, h1, h2 with | [_, _], [_], _, _ => ⟨_, rfl, rfl⟩
  exact ⟨f, fd, _, ds, G, hf, F.kp, hb, hv⟩
abbrev N_with_numbers : List Str := ["net", "numbers", "strings", "one", "other", "thing", "turn"]
theorem sc_with_numbers : FnScope N_with_numbers ["net", "numbers"] (defScope (top 42)) := ⟨rfl, rfl, rfl, by decide +kernel, rfl, by decide +kernel, by decide +kernel⟩
theorem c_with_numbersD (F : FnP K "with_numbers" (top 42) f fd) (hf : mg "with_numbers" = some (.ref f)) (b : Bs K mg) (nf : NetF K) : Cal P w K mg base 1 "with_numbers" (spD K 2 RwithD) [] := by
  refine cal_of F hf (fn_dat F sc_with_numbers rfl fun cdv A outer s H E hr => ?_) fun _ _ _ _ _ _ us hl => match us, hl with | [_, _], _ => rfl
  have hu := room_u hr; have hu1 := room_u1 hr; have hu2 := room_u2 hr; have nd := (sc_with_numbers).nd
  refine ⟨_, (pss_cons (ps_setLc (i := 2) (own := [("one", 3), ("other", 4)]) rfl nd rfl rfl (sw_true rfl rfl rfl (by decide +kernel)) (pi_tup (pe_fld (pv 0) rfl)) (blkOk_by (own := [("one", 3), ("other", 4)]) (N := N_with_numbers) (sc := defScope (top 42)) (by decide +kernel)) (fun _ _ _ _ _ => (show PG _ _ (gTup K 2 _) from pg_tup rfl (pgs_cons (pg_name (i := 3) nd rfl (.inl rfl)) (pgs_cons (pg_name (i := 4) nd rfl (.inl rfl)) pgs_nil)))) (fun _ _ _ _ _ => pts_nil) (fun _ _ _ _ _ => (pe_callTy (show CallR _ (.type "tuple") (rTupS K) from call_tuple_of) rfl b.b_tuple PyProof.Rows.boot_tuple (pa_cons (pe_callB (show CallR _ (.builtin "sorted") (rSortedU K) from cr_sortedU) rfl b.b_sorted PyProof.Rows.boot_sorted (pa_cons (pe_tup (pa_cons (pe_dget hu1 (pv 1) (pv 3) (fun _ _ => rfl)) (pa_cons (pe_dget hu1 (pv 1) (pv 4) (fun _ _ => rfl)) pa_nil))) pa_nil)) pa_nil)))) (pss_one (ps_ret (pe_tup (pa_cons (pv 2) (pa_cons (pe_lc (own := [("thing", 5), ("turn", 6)]) rfl nd (pi_tup (pe_fld (pv 0) rfl)) (blkOk_by (own := [("thing", 5), ("turn", 6)]) (N := N_with_numbers) (sc := defScope (top 42)) (by decide +kernel)) (fun _ _ _ _ _ => (show PG _ _ (gTup K 2 _) from pg_tup rfl (pgs_cons (pg_name (i := 5) nd rfl (.inl rfl)) (pgs_cons (pg_name (i := 6) nd rfl (.inl rfl)) pgs_nil)))) (fun _ _ _ _ _ => pts_nil) (fun _ _ _ _ _ => (pe_tup (pa_cons (pe_dget hu1 (pv 1) (pv 5) (fun _ _ => rfl)) (pa_cons (pv 6) pa_nil))))) pa_nil)))))), fun ds d _ hR => ?_⟩

  obtain ⟨N, ks, ρ, rfl, knd, l1, l2, hs, ht, rfl⟩ := hR
  refine b_seq (s_set (d := .lst ((N.strings.map (nrm ρ)).map prD)) (de_ofN (DN.to (dn_lcY (as := N.strings) (em := prD) (gv := fun p => prD (nrm ρ p)) (di_tup (du_of (de_fld (j := 1) nf (de_var rfl) rfl rfl))) rfl rfl (fun p _ => dg_pair (p := (.int p.1, .int p.2)) rfl rfl rfl rfl rfl) (fun _ h => h) (fun p hp => ?_) (lt16 l1)) (by rw [List.map_map] <;> rfl))) rfl rfl) ?_
  · exact DE.to (de_tupleL (dl_ofN (dn_sortedU (ns := [ρ p.1, ρ p.2]) (du_of (de_tup (da_cons (dget_of (f := fun k => D.int (ρ k)) (de_var rfl) (de_var rfl) knd (hs p hp).1) (da_cons (dget_of (f := fun k => D.int (ρ k)) (de_var rfl) (de_var rfl) knd (hs p hp).2) da_nil)) (Nat.le_of_ble_eq_true rfl))) (by show 2 < 64; decide)))) (nrm_sort ρ p)
  · refine b_ret (de_tup (da_cons (de_var rfl) (da_cons (de_ofN (DN.to (dn_lcY (as := N.turns) (em := prD) (gv := fun p => prD (ρ p.1, p.2)) (di_tup (du_ofP (de_fld (j := 5) nf (de_var rfl) rfl rfl))) rfl rfl (fun p _ => dg_pair (p := (.int p.1, .int p.2)) rfl rfl rfl rfl rfl) (fun _ h => h) (fun p hp => ?_) (lt16 l2)) (by rw [List.map_map] <;> rfl))) da_nil)) (Nat.le_of_ble_eq_true rfl))
    exact de_tup (da_cons (dget_of (f := fun k => D.int (ρ k)) (de_var rfl) (de_var rfl) knd (ht p hp)) (da_cons (de_var rfl) da_nil)) (Nat.le_of_ble_eq_true rfl)
theorem c_with_numbersL (F : FnP K "with_numbers" (top 42) f fd) (hf : mg "with_numbers" = some (.ref f)) (b : Bs K mg) (nf : NetF K) : Cal P w K mg base 1 "with_numbers" (spD K 2 RwithL) [] := by
  refine cal_of F hf (fn_dat F sc_with_numbers rfl fun cdv A outer s H E hr => ?_) fun _ _ _ _ _ _ us hl => match us, hl with | [_, _], _ => rfl
  have hu := room_u hr; have hu1 := room_u1 hr; have hu2 := room_u2 hr; have nd := (sc_with_numbers).nd
  refine ⟨_, (pss_cons (ps_setLc (i := 2) (own := [("one", 3), ("other", 4)]) rfl nd rfl rfl (sw_true rfl rfl rfl (by decide +kernel)) (pi_tup (pe_fld (pv 0) rfl)) (blkOk_by (own := [("one", 3), ("other", 4)]) (N := N_with_numbers) (sc := defScope (top 42)) (by decide +kernel)) (fun _ _ _ _ _ => (show PG _ _ (gTup K 2 _) from pg_tup rfl (pgs_cons (pg_name (i := 3) nd rfl (.inl rfl)) (pgs_cons (pg_name (i := 4) nd rfl (.inl rfl)) pgs_nil)))) (fun _ _ _ _ _ => pts_nil) (fun _ _ _ _ _ => (pe_callTy (show CallR _ (.type "tuple") (rTupS K) from call_tuple_of) rfl b.b_tuple PyProof.Rows.boot_tuple (pa_cons (pe_callB (show CallR _ (.builtin "sorted") (rSortedU K) from cr_sortedU) rfl b.b_sorted PyProof.Rows.boot_sorted (pa_cons (pe_tup (pa_cons (pe_ix (show IxR _ (rIxL K) from ix_list) (pv 1) (pv 3) (fun _ _ => rfl)) (pa_cons (pe_ix (show IxR _ (rIxL K) from ix_list) (pv 1) (pv 4) (fun _ _ => rfl)) pa_nil))) pa_nil)) pa_nil)))) (pss_one (ps_ret (pe_tup (pa_cons (pv 2) (pa_cons (pe_lc (own := [("thing", 5), ("turn", 6)]) rfl nd (pi_tup (pe_fld (pv 0) rfl)) (blkOk_by (own := [("thing", 5), ("turn", 6)]) (N := N_with_numbers) (sc := defScope (top 42)) (by decide +kernel)) (fun _ _ _ _ _ => (show PG _ _ (gTup K 2 _) from pg_tup rfl (pgs_cons (pg_name (i := 5) nd rfl (.inl rfl)) (pgs_cons (pg_name (i := 6) nd rfl (.inl rfl)) pgs_nil)))) (fun _ _ _ _ _ => pts_nil) (fun _ _ _ _ _ => (pe_tup (pa_cons (pe_ix (show IxR _ (rIxL K) from ix_list) (pv 1) (pv 5) (fun _ _ => rfl)) (pa_cons (pv 6) pa_nil))))) pa_nil)))))), fun ds d _ hR => ?_⟩

  obtain ⟨N, l, ρ, rfl, l1, l2, hs, ht, rfl⟩ := hR
  have ix : ∀ {i j : Int}, L2.atI l i = some j → L2.atI (l.map D.int) i = some (.int j) := fun {i j} h => by
    unfold L2.atI at h ⊢
    rw [List.length_map]
    cases e : L2.ixN l.length i with
    | none =>
      rw [e] at h
      cases h
    | some m =>
      rw [e] at h
      show (l.map D.int)[m]? = _
      rw [List.getElem?_map, show l[m]? = some j from h]
      rfl
  refine b_seq (s_set (d := .lst ((N.strings.map (nrm ρ)).map prD)) (de_ofN (DN.to (dn_lcY (as := N.strings) (em := prD) (gv := fun p => prD (nrm ρ p)) (di_tup (du_of (de_fld (j := 1) nf (de_var rfl) rfl rfl))) rfl rfl (fun p _ => dg_pair (p := (.int p.1, .int p.2)) rfl rfl rfl rfl rfl) (fun _ h => h) (fun p hp => ?_) (lt16 l1)) (by rw [List.map_map] <;> rfl))) rfl rfl) ?_
  · exact DE.to (de_tupleL (dl_ofN (dn_sortedU (ns := [ρ p.1, ρ p.2]) (du_of (de_tup (da_cons (de_ixL (dl_of (de_var rfl)) (de_var rfl) (ix (hs p hp).1)) (da_cons (de_ixL (dl_of (de_var rfl)) (de_var rfl) (ix (hs p hp).2)) da_nil)) (Nat.le_of_ble_eq_true rfl))) (by show 2 < 64; decide)))) (nrm_sort ρ p)
  · refine b_ret (de_tup (da_cons (de_var rfl) (da_cons (de_ofN (DN.to (dn_lcY (as := N.turns) (em := prD) (gv := fun p => prD (ρ p.1, p.2)) (di_tup (du_ofP (de_fld (j := 5) nf (de_var rfl) rfl rfl))) rfl rfl (fun p _ => dg_pair (p := (.int p.1, .int p.2)) rfl rfl rfl rfl rfl) (fun _ h => h) (fun p hp => ?_) (lt16 l2)) (by rw [List.map_map] <;> rfl))) da_nil)) (Nat.le_of_ble_eq_true rfl))
    exact de_tup (da_cons (de_ixL (dl_of (de_var rfl)) (de_var rfl) (ix (ht p hp))) (da_cons (de_var rfl) da_nil)) (Nat.le_of_ble_eq_true rfl)
abbrev N_need_begin : List Str := ["net", "told"]
theorem sc_need_begin : FnScope N_need_begin ["net", "told"] (defScope (top 68)) := ⟨rfl, rfl, rfl, by decide +kernel, rfl, by decide +kernel, by decide +kernel⟩

theorem c_need_begin (F : FnP K "need_begin" (top 68) f fd) (hf : mg "need_begin" = some (.ref f)) (b : Bs K mg) (nf : NetF K) (q_width : Cal P w K mg base 1 "width" (spD K 1 Rwidth) []) : Cal P w K mg base 2 "need_begin" (spD K 2 RneedBegin) [] := by
  refine cal_of F hf (fn_datN (k := 1) (n := 2) (R := RneedBegin0) F sc_need_begin rfl fun cdv A outer s H E hr => ⟨_, (pss_cons (ps_if (pt_cmpR op_ne (pe_c q_width hr (by decide) rfl (pa_cons (pv 1) pa_nil)) (pe_callB call_len_seq rfl b.b_len PySem.boot_len (pa_cons (pe_fld (pv 0) rfl) pa_nil)) (nomark _)) pss_never pss_nil) (pss_one (ps_if (pt_cmpR op_gt (pe_fld (pv 0) rfl) (C8.pe_gc rfl (b.g_c_looks)) (nomark _)) pss_never pss_nil))), fun ds _ hR => ?_⟩) fun _ _ _ _ _ _ us hl => match us, hl with | [_, _], _ => rfl
  obtain ⟨N, s', rfl, hl, h12⟩ := hR
  refine ⟨_, s_seq (s_pass (dt_test (DE.to (de_neI (de_call (da_cons (de_var rfl) da_nil) rfl ⟨s', N.given.length, rfl, hl, rfl⟩) (de_lenT (du_of (de_fld (j := 2) nf (de_var rfl) rfl rfl)))) (by rw [List.length_map, beq_self_eq_true]; rfl)))) (s_pass (dt_test (DE.to (de_gt (de_fld (j := 0) nf (de_var rfl) rfl rfl) de_int) (by rw [decide_eq_false (by omega)]))))⟩
abbrev N_need_order : List Str := ["net", "order"]
theorem sc_need_order : FnScope N_need_order ["net", "order"] (defScope (top 69)) := ⟨rfl, rfl, rfl, by decide +kernel, rfl, by decide +kernel, by decide +kernel⟩
theorem c_need_order (F : FnP K "need_order" (top 69) f fd) (hf : mg "need_order" = some (.ref f)) (b : Bs K mg) (nf : NetF K) (q_is_lot : Cal P w K mg base 3 "is_lot" (spD K 1 Rlot) []) : Cal P w K mg base 4 "need_order" (spD K 2 Rorder) [] := by
  refine cal_of F hf (fn_dat F sc_need_order rfl fun cdv A outer s H E hr => ?_) fun _ _ _ _ _ _ us hl => match us, hl with | [_, _], _ => rfl
  have hu := room_u hr; have hu1 := room_u1 hr; have hu2 := room_u2 hr; have nd := (sc_need_order).nd
  refine ⟨_, (pss_cons (ps_if (PW.pt (pw_or (pt_not (pt_val (pe_c q_is_lot hr (by decide) rfl (pa_cons (pv 1) pa_nil)))) (pw_or1 (pt_cmpR (op_neD hu) (pe_callTy call_tuple_of rfl b.b_tuple PyProof.Rows.boot_tuple (pa_cons (pe_callB cr_sorted rfl b.b_sorted PyProof.Rows.boot_sorted (pa_cons (pv 1) pa_nil)) pa_nil)) (pe_fld (pv 0) rfl) (nomark _))))) pss_never pss_nil) (pss_one (ps_ret (pe_callTy call_tuple_of rfl b.b_tuple PyProof.Rows.boot_tuple (pa_cons (pv 1) pa_nil))))), fun ds d _ hR => ?_⟩

  obtain ⟨N, o, rfl, hp, hn, rfl⟩ := hR
  have ond : o.Nodup := hp.nodup_iff.mpr (lookd_nodup _ _)
  have ole : o.length < 64 := by
    rw [hp.length_eq]
    have := lookd_length N.things N.kept
    omega
  refine b_pass (dt_or (a := false) (b := false) (dt_not (a := true) (dt_B (de_call (da_cons (de_var rfl) da_nil) rfl ⟨_, o, rfl, .inl rfl, fun t ht => (lookd_mem.mp (hp.mem_iff.mp ht)).1.1, ond, ole, rfl⟩))) fun _ => dt_test (DE.to (de_neTI (xs := sortI o) (ys := lookd N.things N.kept) (de_tupleL (dl_ofN (dn_sorted (dl_of (de_var rfl)) ole))) (de_fld (j := 4) nf (de_var rfl) rfl rfl)) ?_)) (b_ret (de_tupleL (dl_of (de_var rfl))))
  rw [decide_eq_true (sortI_uniq hp.symm (lookd_sorted _ _)).symm]
  rfl
abbrev N_need_falls : List Str := ["falls", "many", "fall"]
theorem sc_need_falls : FnScope N_need_falls ["falls", "many"] (defScope (top 70)) := ⟨rfl, rfl, rfl, by decide +kernel, rfl, by decide +kernel, by decide +kernel⟩
theorem c_need_falls (F : FnP K "need_falls" (top 70) f fd) (hf : mg "need_falls" = some (.ref f)) (b : Bs K mg) (q_is_bit : Cal P w K mg base 3 "is_bit" (spD K 1 Rbit) []) : Cal P w K mg base 4 "need_falls" (spD K 2 Rfalls) [] := by
  refine cal_of F hf (fn_dat F sc_need_falls rfl fun cdv A outer s H E hr => ?_) fun _ _ _ _ _ _ us hl => match us, hl with | [_, _], _ => rfl
  have hu := room_u hr; have hu1 := room_u1 hr; have hu2 := room_u2 hr; have nd := (sc_need_falls).nd
  refine ⟨_, (pss_cons (ps_if (PW.pt (pw_or (pt_not (pt_val (pe_callB call_isiT rfl b.b_isinstance PyProof.Rows.boot_isinstance (pa_cons (pv 0) (pa_cons (pe_tup (pa_cons (pe_bltn (v := .ty "list") rfl b.b_list PyProof.Rows.boot_list rfl) (pa_cons (pe_bltn (v := .ty "tuple") rfl b.b_tuple PyProof.Rows.boot_tuple rfl) pa_nil))) pa_nil))))) (pw_or (pt_cmpR op_ne (pe_callB call_len_seq rfl b.b_len PySem.boot_len (pa_cons (pv 0) pa_nil)) (pv 1) (nomark _)) (pw_or1 (pt_not (pt_val (pe_callB (cr_all rfl) rfl b.b_all PyProof.Rows.boot_all (pa_cons (pe_lc (own := [("fall", 2)]) rfl nd (pi_list (pv 0)) (blkOk_by (own := [("fall", 2)]) (N := N_need_falls) (sc := defScope (top 70)) (by decide +kernel)) (fun _ _ _ _ _ => (pg_name (i := 2) nd rfl (.inl rfl))) (fun _ _ _ _ _ => pts_nil) (fun _ _ _ _ _ => (pe_c q_is_bit hr (by decide) rfl (pa_cons (pv 2) pa_nil)))) pa_nil)))))))) pss_never pss_nil) (pss_one (ps_ret (pe_callTy call_tuple_of rfl b.b_tuple PyProof.Rows.boot_tuple (pa_cons (pv 0) pa_nil))))), fun ds d _ hR => ?_⟩

  obtain ⟨fs, rfl, hl, h01, rfl⟩ := hR
  refine b_pass (dt_or (a := false) (b := false) (dt_not (a := true) (dt_B (de_isiS (de_var rfl) (.inl rfl)))) fun _ => dt_or (a := false) (b := false) (dt_test (DE.to (de_neI (de_lenS (de_var rfl) (.inl rfl)) (de_var rfl)) (by rw [List.length_map, beq_self_eq_true]; rfl))) fun _ => dt_not (a := true) (dt_B ?_)) (b_ret (de_tupleL (dl_of (de_var rfl))))
  exact de_allT (dl_ofN (dn_lcY (as := fs) (em := D.int) (di_list (de_var rfl)) rfl rfl (fun a _ => dg_name rfl rfl) (fun _ h => h) (fun a ha => de_call (da_cons (de_var rfl) da_nil) rfl ⟨a, rfl, (h01 a ha).1, (h01 a ha).2, rfl⟩) (lt16 hl)))

end
end Lk
set_option maxHeartbeats 1000000
namespace Lk
open PySem PySem.Spec PyProof.Rows L2
open Evl (Ex)
open C8 (Cal pe_c Mak pe_mk)
theorem fold_cnt (T : Int → Int) : ∀ (ps : List (Int × Int)) (st : RunSt), (ps.foldl (stp T) st).1.length = st.1.length + ps.length
  | [], _ => rfl
  | p :: ps, st => by
    rw [List.foldl_cons, fold_cnt T ps]
    show (st.1 ++ [_]).length + ps.length = st.1.length + (ps.length + 1)
    rw [List.length_append, List.length_singleton]
    omega
theorem zip_idx {l : List Int} (nd : l.Nodup) : l.zipIdx = l.map fun t => (t, l.idxOf t) := by
  refine List.ext_getElem? fun i => ?_
  rw [List.getElem?_zipIdx, List.getElem?_map]
  cases e : l[i]? with
  | none => rfl
  | some t =>
    have h1 := (idx_first (List.mem_of_getElem? e)).1
    have h2 := nd_ix nd h1 e
    show some (t, 0 + i) = some (t, l.idxOf t)
    rw [h2, Nat.zero_add]
theorem turn_look {T : List (Int × Int)} : (T.map (·.1)).Nodup → T.map (fun p => D.int p.2) = (T.map (·.1)).map fun t => D.int ((T.lookup t).getD 0) := by
  intro nd
  rw [List.map_map]
  refine List.map_congr_left fun p hp => ?_
  show D.int p.2 = D.int ((T.lookup p.1).getD 0)
  congr 1
  induction T with
  | nil => cases hp
  | cons q T ih =>
    rw [List.map_cons] at nd
    obtain ⟨h1, h2⟩ := List.nodup_cons.mp nd
    obtain ⟨qa, qb⟩ := q
    rw [List.lookup_cons]
    rcases List.mem_cons.mp hp with rfl | hp
    · simp
    · have hne : (p.1 == qa) = false := by
        rw [beq_eq_false_iff_ne]
        intro z
        exact h1 (by rw [← z]; exact List.mem_map.mpr ⟨p, hp, rfl⟩)
      rw [hne]
      exact ih h2 hp
section
variable {P : Program} {w : World} {K : PySem.W.Frag} {mg : Str → Option Value} {base : Heap} {f : Addr} {fd : FuncData}
abbrev N_begin : List Str := ["net", "told", "rest", "spots", "found", "one", "other", "thing", "place"]
theorem sc_begin : FnScope N_begin ["net", "told"] (defScope (top 71)) := ⟨rfl, rfl, rfl, by decide +kernel, rfl, by decide +kernel, by decide +kernel⟩
theorem c_begin (F : FnP K "begin" (top 71) f fd) (hf : mg "begin" = some (.ref f)) (b : Bs K mg) (nf : NetF K) (q_lay : Cal P w K mg base 1 "lay" (spD K 2 Rlay) []) (q_both_of : Cal P w K mg base 2 "both_of" (spD K 2 Rboth) []) (q_all_even : Cal P w K mg base 1 "all_even" (spD K 1 Reven) []) (q_tie : Cal P w K mg base 2 "tie" (spD K 3 Rtie) []) : Cal P w K mg base 3 "begin" (spD K 2 Rbegin) [] := by
  refine cal_of F hf (fn_dat F sc_begin rfl fun cdv A outer s H E hr => ?_) fun _ _ _ _ _ _ us hl => match us, hl with | [_, _], _ => rfl
  have hu := room_u hr; have hu1 := room_u1 hr; have hu2 := room_u2 hr; have nd := (sc_begin).nd
  refine ⟨_, (pss_cons (ps_setLc (i := 2) (own := [("thing", 7)]) rfl nd rfl rfl (sw_true rfl rfl rfl (by decide +kernel)) (pi_range1 rfl b.b_range (pa_cons (pe_fld (pv 0) rfl) pa_nil)) (blkOk_by (own := [("thing", 7)]) (N := N_begin) (sc := defScope (top 71)) (by decide +kernel)) (fun _ _ _ _ _ => (pg_name (i := 7) nd rfl (.inl rfl))) (fun _ _ _ _ _ => (pts_one (pt_cmpR (show OpR _ (compareOp .NotIn) (rIn K true) from op_notIn_seq) (pv 7) (show PE _ _ (tFld K _ _) from pe_fld (pv 0) rfl) rfl))) (fun _ _ _ _ _ => (pv 7))) (pss_cons (ps_set (i := 3) nd rfl (.inr rfl) (pe_dc (own := [("place", 8), ("thing", 7)]) rfl nd (pi_enum rfl b.b_enumerate (pa_cons (pe_lst (StX.pa_star (pe_fld (pv 0) rfl) (StX.pa_star (pv 2) pa_nil))) pa_nil)) (blkOk_by (own := [("place", 8), ("thing", 7)]) (N := N_begin) (sc := defScope (top 71)) (by decide +kernel)) (fun _ _ _ _ _ => (show PG _ _ (gTup K 2 _) from pg_tup rfl (pgs_cons (pg_name (i := 8) nd rfl (.inl rfl)) (pgs_cons (pg_name (i := 7) nd rfl (.inl rfl)) pgs_nil)))) (fun _ _ _ _ _ => pts_nil) (fun _ _ _ _ _ => (pv 7)) (fun _ _ _ _ _ => (pv 8)))) (pss_cons (ps_set (i := 4) nd rfl (.inl rfl) (pe_c q_lay hr (by decide) rfl (pa_cons (pe_c q_both_of hr (by decide) rfl (pa_cons (pv 1) (pa_cons (pe_c q_all_even hr (by decide) rfl (pa_cons (pe_callB call_len_seq rfl b.b_len PySem.boot_len (pa_cons (pv 2) pa_nil)) pa_nil)) pa_nil))) (pa_cons (pe_lc (own := [("thing", 7)]) rfl nd (pi_range1 rfl b.b_range (pa_cons (pe_fld (pv 0) rfl) pa_nil)) (blkOk_by (own := [("thing", 7)]) (N := N_begin) (sc := defScope (top 71)) (by decide +kernel)) (fun _ _ _ _ _ => (pg_name (i := 7) nd rfl (.inl rfl))) (fun _ _ _ _ _ => pts_nil) (fun _ _ _ _ _ => (pe_dget hu1 (pv 3) (pv 7) (fun _ _ => rfl)))) pa_nil)))) (pss_cons (ps_for PassesOwn.never rfl (pi_tup (pe_fld (pv 0) rfl)) (pg_tup rfl (pgs_cons (pg_name (i := 5) nd rfl (.inl rfl)) (pgs_cons (pg_name (i := 6) nd rfl (.inl rfl)) pgs_nil))) (pss_one (ps_set (i := 4) nd rfl (.inl rfl) (pe_c q_tie hr (by decide) rfl (pa_cons (pv 4) (pa_cons (pv 5) (pa_cons (pv 6) pa_nil))))))) (pss_one (ps_ret (pv 4))))))), fun ds d _ hR => ?_⟩

  obtain ⟨N, s', n, rfl, ok, hl, hb, hn, hn2, rfl⟩ := hR
  have h9 := ok.n2
  have rl := rest_len ok
  have fp := full_perm ok
  have fnd : (fullL N).Nodup := fp.nodup_iff.mpr (rng_nodup _)
  have fle : (fullL N).length = N.things := by rw [fp.length_eq, rng_length]
  refine b_seq (s_set (d := .lst ((restL N).map D.int)) (de_ofN (DN.to (dn_lc (as := List.range N.things) (em := fun i : Nat => D.int (i : Int)) (f := fun i : Nat => !decide ((i : Int) ∈ N.given)) (gv := fun i : Nat => D.int (i : Int)) (di_range1 (n := N.things) (de_fld (j := 0) nf (de_var rfl) rfl rfl) (by omega)) rfl rfl (fun i _ => dg_name rfl rfl) (fun _ h => h) (fun i _ => dt_test (de_inT (neg := true) (ns := N.given) (de_var rfl) (du_of (de_fld (j := 2) nf (de_var rfl) rfl rfl)))) (fun i _ _ => de_var rfl) (by rw [List.length_range]; omega)) ?_)) rfl rfl) ?_
  · unfold restL lookd rng
    rw [List.filter_map, List.map_map]
    rfl
  refine b_seq (s_set (d := .dct (fullL N) ((fullL N).map fun t => .int (((fullL N).idxOf t : Nat) : Int))) (DE.to (de_ofND (dnd_dc (as := (fullL N).zipIdx) (em := fun p => .tup [.int (p.2 : Int), .int p.1]) (kk := fun p => p.1) (gv := fun p => .int (p.2 : Int)) (DI.to (di_enum (de_lst (da_starU (du_of (de_fld (j := 2) nf (de_var rfl) rfl rfl)) (da_starL (dl_of (de_var rfl)) da_nil)) ?_)) ?_) rfl rfl (fun p _ => dg_pair (p := (.int (p.2 : Int), .int p.1)) rfl rfl rfl rfl rfl) (fun _ h => h) (fun p _ => de_var rfl) (fun p _ => de_var rfl) ?_ ?_)) ?_) rfl rfl) ?_
  · rw [List.length_append, List.length_append, List.length_map, List.length_map]
    show N.given.length + ((restL N).length + 0) ≤ _
    omega
  · rw [List.append_nil, ← List.map_append]
    unfold enumD
    rw [List.zipIdx_map, List.map_map]
    rfl
  · rw [zip_idx fnd, List.map_map]
    show ((fullL N).map fun t => t).Nodup
    rw [List.map_id']
    exact fnd
  · rw [List.length_zipIdx]
    omega
  · rw [zip_idx fnd, List.map_map, List.map_map]
    congr 1
    exact List.map_id' _
  have ord_nd : ((rng N.things).map fun t => (fullL N).idxOf t).Nodup := idx_nodup (rng_nodup _) fun t ht => fp.mem_iff.mpr ht
  have ord_lt : ∀ x ∈ (rng N.things).map (fun t => (fullL N).idxOf t), x < N.things := fun x hx => by
    have := idx_lt (l := fullL N) (o := rng N.things) (fun t ht => fp.mem_iff.mpr ht) x hx
    rwa [fle] at this
  have bl : (bothS s' (evenS (restL N).length)).length = 2 ^ N.things := by rw [both_len, even_len, hl, ← Nat.pow_add, rl]
  have p9 := pow9 h9
  have sl : s'.length ≤ 512 := by
    rw [hl]
    exact pow9 (Nat.le_trans ok.glen h9)
  refine b_seq (s_set (d := spr (layS (bothS s' (evenS (restL N).length)) ((rng N.things).map fun t => (fullL N).idxOf t))) (de_call (da_cons (d := spr (bothS s' (evenS (restL N).length))) (de_call (da_cons (de_var rfl) (da_cons (d := spr (evenS (restL N).length)) (de_call (da_cons (de_lenL (dl_of (de_var rfl))) da_nil) rfl ⟨(restL N).length, by rw [List.length_map], by omega, rfl⟩) da_nil)) rfl ⟨s', evenS (restL N).length, n, 1, rfl, hb, ?_, hn, by decide, by omega, by omega, ?_, rfl⟩) (da_cons (d := .lst (((rng N.things).map fun t => (fullL N).idxOf t).map fun i : Nat => D.int (i : Int))) (de_ofN (DN.to (dn_lcY (as := List.range N.things) (em := fun i : Nat => D.int (i : Int)) (gv := fun i : Nat => D.int (((fullL N).idxOf (i : Int) : Nat) : Int)) (di_range1 (n := N.things) (de_fld (j := 0) nf (de_var rfl) rfl rfl) (by omega)) rfl rfl (fun i _ => dg_name rfl rfl) (fun _ h => h) (fun i hi => ?_) (by rw [List.length_range]; omega)) ?_)) da_nil)) rfl ⟨_, _, rfl, ?_, ?_, ?_, ?_, rfl⟩) rfl rfl) ?_
  · intro x hx
    have : x = Amt.num 1 := List.eq_of_mem_replicate hx
    subst this
    exact ⟨by decide, by decide, by decide, by decide⟩
  · rw [even_len]
    have := pow9 (k := (restL N).length) (by omega)
    omega
  · exact dget_of (f := fun t => .int (((fullL N).idxOf t : Nat) : Int)) (de_var rfl) (de_var rfl) fnd (fp.mem_iff.mpr (rng_mem.mpr (by have := List.mem_range.mp hi; omega)))
  · unfold rng
    rw [List.map_map, List.map_map]
    rfl
  · rw [bl]
    omega
  · intro i hi
    rw [bl]
    exact idxO_lt ord_nd ord_lt i
  · rw [List.length_map, rng_length]
    omega
  · intro x hx
    have := ord_lt x hx
    omega
  generalize hB : layS (bothS s' (evenS (restL N).length)) ((rng N.things).map fun t => (fullL N).idxOf t) = B
  have hBl : B.length ≤ 4096 := by
    rw [← hB, lay_len, bl]
    omega
  have eB : begS N s' = N.strings.foldl (fun s p => tieS s p.1.toNat p.2.toNat) B := by
    unfold begS
    rw [hB]
  refine b_seq (s_for (ds := N.strings.map prD) (di_tup (du_of (de_fld (j := 1) nf (de_var rfl) rfl rfl))) (fun i => [.dat (netD N), .dat (spr s'), .dat (.lst ((restL N).map D.int)), .dat (.dct (fullL N) ((fullL N).map fun t => .int (((fullL N).idxOf t : Nat) : Int))), .dat (spr ((N.strings.take i).foldl (fun s p => tieS s p.1.toNat p.2.toNat) B)), .no, .no, .no, .no]) rfl (fun _ _ => rfl) fun i d hd => ?_) ?_
  · rw [List.getElem?_map] at hd
    cases hx : N.strings[i]? with
    | none =>
      rw [hx] at hd
      cases hd
    | some p =>
      rw [hx] at hd
      cases hd
      have hp := ok.s1 p (List.mem_of_getElem? hx)
      unfold OkP at hp
      have e1 : prD p = .tup [.int ((p.1.toNat : Nat) : Int), .int ((p.2.toNat : Nat) : Int)] := by
        unfold prD
        rw [Int.toNat_of_nonneg hp.1, Int.toNat_of_nonneg (by omega)]
      rw [e1, List.take_add_one, hx, Option.toList_some, List.foldl_append, List.foldl_cons, List.foldl_nil]
      generalize hC : (N.strings.take i).foldl (fun s p => tieS s p.1.toNat p.2.toNat) B = C
      have hCl : C.length ≤ 4096 := by rw [← hC, ties_len]; exact hBl
      refine ⟨_, _, dg_pair (p := (.int ((p.1.toNat : Nat) : Int), .int ((p.2.toNat : Nat) : Int))) rfl rfl rfl rfl rfl, s_forget (i := 5) (Γ1 := [.dat (netD N), .dat (spr s'), .dat (.lst ((restL N).map D.int)), .dat (.dct (fullL N) ((fullL N).map fun t => .int (((fullL N).idxOf t : Nat) : Int))), .dat (spr (tieS C p.1.toNat p.2.toNat)), .dat (.int ((p.1.toNat : Nat) : Int)), .no, .no, .no]) (s_forget (i := 6) (Γ1 := [.dat (netD N), .dat (spr s'), .dat (.lst ((restL N).map D.int)), .dat (.dct (fullL N) ((fullL N).map fun t => .int (((fullL N).idxOf t : Nat) : Int))), .dat (spr (tieS C p.1.toNat p.2.toNat)), .dat (.int ((p.1.toNat : Nat) : Int)), .dat (.int ((p.2.toNat : Nat) : Int)), .no, .no]) (s_set (de_call (da_cons (de_var rfl) (da_cons (de_var rfl) (da_cons (de_var rfl) da_nil))) rfl ⟨C, p.1.toNat, p.2.toNat, rfl, hCl, by omega, by omega, rfl⟩) rfl rfl) rfl rfl) rfl rfl⟩
  · rw [List.length_map, List.take_length, eB]
    exact b_ret (de_var rfl)
abbrev N_left_behind : List Str := ["net", "told", "order", "falls", "turns", "left", "found", "thing", "fall"]
theorem sc_left_behind : FnScope N_left_behind ["net", "told", "order", "falls"] (defScope (top 72)) := ⟨rfl, rfl, rfl, by decide +kernel, rfl, by decide +kernel, by decide +kernel⟩
theorem c_left_behind (F : FnP K "left_behind" (top 72) f fd) (hf : mg "left_behind" = some (.ref f)) (b : Bs K mg) (nf : NetF K) (q_begin : Cal P w K mg base 3 "begin" (spD K 2 Rbegin) []) (q_look : Cal P w K mg base 2 "look" (spD K 3 Rlook) []) : Cal P w K mg base 4 "left_behind" (spD K 4 Rleft) [] := by
  refine cal_of F hf (fn_dat F sc_left_behind rfl fun cdv A outer s H E hr => ?_) fun _ _ _ _ _ _ us hl => match us, hl with | [_, _, _, _], _ => rfl
  have hu := room_u hr; have hu1 := room_u1 hr; have hu2 := room_u2 hr; have nd := (sc_left_behind).nd
  refine ⟨_, (pss_cons (ps_par3 (i := 4) (j := 5) (l := 6) rfl nd rfl rfl rfl (by decide) (by decide) (by decide) rfl rfl rfl (pa_cons (pe_callTy (call_dictF rfl) rfl b.b_dict PyProof.Rows.boot_dict (pa_cons (pe_fld (pv 0) rfl) pa_nil)) (pa_cons (pe_listRg rfl rfl b.b_list (prg_1 rfl b.b_range (pe_fld (pv 0) rfl))) (pa_cons (pe_lst (pa_cons (pe_c q_begin hr (by decide) rfl (pa_cons (pv 0) (pa_cons (pv 1) pa_nil))) pa_nil)) pa_nil))) rfl) (pss_cons (ps_for PassesOwn.never rfl (RZ.pi_zipA rfl b.b_zip (pa_cons (pv 2) (pa_cons (pv 3) pa_nil))) (pg_tup rfl (pgs_cons (pg_name (i := 7) nd rfl (.inl rfl)) (pgs_cons (pg_name (i := 8) nd rfl (.inl rfl)) pgs_nil))) (pss_cons (ps_expr (pe_bm PySem.F.plainAttrs_list PySem.F.slot_list_append PySem.F.type_list_append mt_append (pv 6) (pa_cons (pe_c q_look hr (by decide) rfl (pa_cons (pe_ix ix_list (pv 6) (pe_un un_neg pe_int) (fun _ _ => rfl)) (pa_cons (pe_bm PySem.F.plainAttrs_list PySem.F.slot_list_index PySem.F.type_list_index (show MtR _ "list.index" (rIndex K) from mt_index) (pv 5) (pa_cons (pv 7) pa_nil)) (pa_cons (pe_op op_add (pe_dget hu1 (pv 4) (pv 7) (fun _ _ => rfl)) (pe_op op_mulW pe_int (pv 8))) pa_nil)))) pa_nil))) (pss_one (ps_expr (pe_bm PySem.F.plainAttrs_list PySem.F.slot_list_remove PySem.F.type_list_remove mt_remove (pv 5) (pa_cons (pv 7) pa_nil)))))) (pss_one (ps_ret (pe_tup (pa_cons (pv 6) (pa_cons (pv 5) pa_nil))))))), fun ds d _ hR => ?_⟩

  obtain ⟨N, s', ps, n, rfl, ok, rfl⟩ := hR
  have h9 := ok.net.n2
  have tnd : (N.turns.map (·.1)).Nodup := ok.net.t2.nodup_iff.mpr (lookd_nodup _ _)
  let st : Nat → RunSt := fun i => (ps.take i).foldl (stp (turnOf N)) ([begS N s'], begS N s', rng N.things)
  refine b_par3b (d1 := .dct (N.turns.map (·.1)) ((N.turns.map (·.1)).map fun t => .int (turnOf N t))) (es := (rng N.things).map D.int) (ds := [spr (begS N s')]) (DE.to (de_dictF (de_fld (j := 5) nf (de_var rfl) rfl rfl) tnd) (by rw [turn_look tnd]; rfl)) (dn_rg1 (de_fld (j := 0) nf (de_var rfl) rfl rfl) (by omega)) (dn_lst (da_cons (de_call (da_cons (de_var rfl) (da_cons (de_var rfl) da_nil)) rfl ⟨N, s', n, rfl, ok.net, ok.len, ok.bd, ok.n0, by have := ok.n9; omega, rfl⟩) da_nil) (Nat.le_of_ble_eq_true rfl)) rfl rfl rfl rfl (fun _ => rfl) rfl fun pl pf => ?_
  have zl : (zipD ((ps.map (·.1)).map D.int) ((ps.map (·.2)).map D.int)).length = ps.length := by rw [zip_fst_snd, List.length_map]
  refine b_seq (s_for (di_zipT (du_of (de_var rfl)) (du_of (de_var rfl))) (fun i => [.dat (netD N), .dat (spr s'), .dat (.tup ((ps.map (·.1)).map D.int)), .dat (.tup ((ps.map (·.2)).map D.int)), .dat (.dct (N.turns.map (·.1)) ((N.turns.map (·.1)).map fun t => .int (turnOf N t))), .own pl ((st i).2.2.map D.int), .own pf ((st i).1.map spr), .no, .no]) rfl (fun _ _ => rfl) fun i d hd => ?_) ?_
  · rw [zip_fst_snd, List.getElem?_map] at hd
    cases hx : ps[i]? with
    | none =>
      rw [hx] at hd
      cases hd
    | some p =>
      rw [hx] at hd
      cases hd
      have hi := (List.getElem?_eq_some_iff.mp hx).1
      have r := run_take ok i (Nat.le_of_lt hi)
      have e1 : st (i + 1) = stp (turnOf N) (st i) p := by
        show (ps.take (i + 1)).foldl _ _ = _
        rw [List.take_add_one, hx, Option.toList_some, List.foldl_append]
        rfl
      rw [e1]
      have hm0 : p.1 ∈ lookd N.things N.kept := ok.ord.mem_iff.mp (List.mem_map.mpr ⟨p, List.mem_of_getElem? hx, rfl⟩)
      have hm : p.1 ∈ (st i).2.2 := by
        show p.1 ∈ ((ps.take i).foldl (stp (turnOf N)) ([begS N s'], begS N s', rng N.things)).2.2
        rw [r.left, lookd_mem]
        refine ⟨(lookd_mem.mp hm0).1, fun z => ?_⟩
        obtain ⟨q, hq, e⟩ := List.mem_map.mp z
        obtain ⟨j, hj⟩ := List.getElem?_of_mem hq
        rw [List.getElem?_take] at hj
        split at hj
        · rename_i hji
          have e1 : (ps.map (·.1))[j]? = some p.1 := by rw [List.getElem?_map, hj, ← e] <;> rfl
          have e2 : (ps.map (·.1))[i]? = some p.1 := by rw [List.getElem?_map, hx] <;> rfl
          have := nd_ix ok.nodup e1 e2
          omega
        · cases hj
      have hk : p.1 ∈ N.turns.map (·.1) := ok.net.t2.mem_iff.mpr hm0
      have hidx := List.idxOf_lt_length_of_mem hm
      have r0 : RunOk N n ((ps.take i).map (·.1)) (st i) := r
      have hsl : (st i).2.1.length = 2 ^ (st i).2.2.length := r0.len
      have hll : (st i).2.2.length ≤ 9 := by
        rw [r0.left]
        have := lookd_length N.things ((ps.take i).map (·.1))
        omega
      obtain ⟨l, hlast⟩ := r0.last
      have hcnt : (st i).1.length = 1 + (ps.take i).length := fold_cnt _ _ _
      rw [List.length_take] at hcnt
      have hpl := ok.plen
      generalize st i = S at *
      obtain ⟨fo, la, le⟩ := S
      simp only at hm hidx hsl hll hlast hcnt
      have hp2 := ok.fal p (List.mem_of_getElem? hx)
      have hfl : fo.length < 16000000 := by omega
      refine ⟨_, _, dg_pair (p := (.int p.1, .int p.2)) rfl rfl rfl rfl rfl, s_forget (i := 7) (Γ1 := [.dat (netD N), .dat (spr s'), .dat (.tup ((ps.map (·.1)).map D.int)), .dat (.tup ((ps.map (·.2)).map D.int)), .dat (.dct (N.turns.map (·.1)) ((N.turns.map (·.1)).map fun t => .int (turnOf N t))), .own pl ((stp (turnOf N) (fo, la, le) p).2.2.map D.int), .own pf ((stp (turnOf N) (fo, la, le) p).1.map spr), .dat (.int p.1), .no]) (s_forget (i := 8) (Γ1 := [.dat (netD N), .dat (spr s'), .dat (.tup ((ps.map (·.1)).map D.int)), .dat (.tup ((ps.map (·.2)).map D.int)), .dat (.dct (N.turns.map (·.1)) ((N.turns.map (·.1)).map fun t => .int (turnOf N t))), .own pl ((stp (turnOf N) (fo, la, le) p).2.2.map D.int), .own pf ((stp (turnOf N) (fo, la, le) p).1.map spr), .dat (.int p.1), .dat (.int p.2)]) ?_ rfl rfl) rfl rfl⟩
      refine s_seq (s_append (d := spr (lookS la (le.idxOf p.1) (turnOf N p.1 + 4 * p.2))) rfl (de_call (da_cons (de_ixL (d := spr la) (dl_own rfl) (de_neg de_int) (by rw [hlast, List.map_append]; exact atI_last)) (da_cons (de_idxL (dl_own rfl) (de_var rfl) hm) (da_cons (de_add (dget_of (f := fun t => .int (turnOf N t)) (de_var rfl) (de_var rfl) tnd hk) (de_mul de_int (de_var rfl) (wide_mul (a := 3) (b := 1) (by decide) (by omega) (by decide) (by decide) (by decide)))) da_nil))) rfl ⟨la, le.idxOf p.1, le.length - 1, _, rfl, ?_, ?_, ?_, rfl⟩) ?_) ?_
      · rw [hsl]
        congr 1
        omega
      · omega
      · omega
      · rw [List.length_map]
        exact hfl
      · refine St.to (s_remove rfl (de_var rfl) hm) ?_
        show [_, _, _, _, _, Ent.own pl _, Ent.own pf (fo.map spr ++ [_]), _, _] = _
        have e5 : (stp (turnOf N) (fo, la, le) p).1.map spr = fo.map spr ++ [spr (lookS la (le.idxOf p.1) (turnOf N p.1 + 4 * p.2))] := by
          show (fo ++ [_]).map spr = _
          rw [List.map_append]
          rfl
        rw [e5]
        rfl
  · rw [zl]
    have e : st ps.length = allS N s' ps := by
      show (ps.take ps.length).foldl _ _ = _
      rw [List.take_length]
      rfl
    rw [e]
    refine b_rel (i := 5) rfl (b_rel (i := 6) rfl (b_ret (de_tup (da_cons (de_var rfl) (da_cons (de_var rfl) da_nil)) (Nat.le_of_ble_eq_true rfl))))

end
end Lk
set_option maxHeartbeats 1000000
namespace Lk
open L2
/-! ### spreads as functions of assignments -/
abbrev Asg := Int → Bool
def idx : List Int → Asg → Nat
  | [], _ => 0
  | l :: ls, f => (f l).toNat + 2 * idx ls f
def val (s : List Amt) (ls : List Int) (f : Asg) : Amt := s.getD (idx ls f) Amt.zero
theorem bit0 (b : Bool) (m : Nat) : (b.toNat + 2 * m).testBit 0 = b := by
  rw [Nat.testBit_zero]
  cases b <;> simp <;> omega
theorem bitS (b : Bool) (m i : Nat) : (b.toNat + 2 * m).testBit (i + 1) = m.testBit i := by
  rw [Nat.testBit_succ]
  congr 1
  cases b <;> simp <;> omega
theorem idx_bit : ∀ (ls : List Int) (f : Asg) (i : Nat), (idx ls f).testBit i = ((ls[i]?).map f).getD false
  | [], f, i => by simp [idx]
  | l :: ls, f, 0 => by
    unfold idx
    rw [bit0]
    rfl
  | l :: ls, f, i + 1 => by
    unfold idx
    rw [bitS, idx_bit ls f i]
    rfl
theorem idx_lt' : ∀ (ls : List Int) (f : Asg), idx ls f < 2 ^ ls.length
  | [], f => by simp [idx]
  | l :: ls, f => by
    have := idx_lt' ls f
    unfold idx
    rw [List.length_cons, Nat.pow_succ]
    have : (f l).toNat ≤ 1 := Bool.toNat_le _
    omega
theorem idx_congr {ls : List Int} {f g : Asg} (h : ∀ t ∈ ls, f t = g t) : idx ls f = idx ls g := by
  induction ls with
  | nil => rfl
  | cons l ls ih =>
    unfold idx
    rw [h l (List.mem_cons_self ..), ih fun t ht => h t (List.mem_cons_of_mem _ ht)]
theorem val_congr {s : List Amt} {ls : List Int} {f g : Asg} (h : ∀ t ∈ ls, f t = g t) : val s ls f = val s ls g := by
  unfold val
  rw [idx_congr h]
/-- every place is one of an assignment -/
theorem idx_surj {ls : List Int} (nd : ls.Nodup) {j : Nat} (hj : j < 2 ^ ls.length) : ∃ f : Asg, idx ls f = j := by
  refine ⟨fun t => j.testBit (ls.idxOf t), Nat.eq_of_testBit_eq fun i => ?_⟩
  rw [idx_bit]
  cases e : ls[i]? with
  | none =>
    have hl := List.getElem?_eq_none_iff.mp e
    show false = _
    exact (Nat.testBit_lt_two_pow (Nat.lt_of_lt_of_le hj (Nat.pow_le_pow_right (by decide) hl))).symm
  | some t =>
    have h1 := (idx_first (List.mem_of_getElem? e)).1
    have h2 := nd_ix nd h1 e
    show j.testBit (ls.idxOf t) = j.testBit i
    rw [h2]
theorem ext_val {s t : List Amt} {ls : List Int} (nd : ls.Nodup) (hs : s.length = 2 ^ ls.length) (ht : t.length = 2 ^ ls.length) (h : ∀ f, val s ls f = val t ls f) : s = t := by
  refine List.ext_getElem (hs.trans ht.symm) fun i h1 h2 => ?_
  obtain ⟨f, hf⟩ := idx_surj nd (j := i) (by rw [← hs]; exact h1)
  have := h f
  unfold val at this
  rw [hf, List.getD_eq_getElem?_getD, List.getD_eq_getElem?_getD, List.getElem?_eq_getElem h1, List.getElem?_eq_getElem h2] at this
  exact this
theorem nz_val {s : List Amt} {ls : List Int} (nd : ls.Nodup) (hs : s.length = 2 ^ ls.length) : nzS s = true ↔ ∃ f, val s ls f ≠ Amt.zero := by
  unfold nzS
  rw [List.any_eq_true]
  constructor
  · rintro ⟨x, hx, h⟩
    obtain ⟨i, hi⟩ := List.getElem?_of_mem hx
    have hl := (List.getElem?_eq_some_iff.mp hi).1
    obtain ⟨f, hf⟩ := idx_surj nd (j := i) (by rw [← hs]; exact hl)
    refine ⟨f, ?_⟩
    unfold val
    rw [hf, List.getD_eq_getElem?_getD, hi]
    exact nzA_iff.mp h
  · rintro ⟨f, h⟩
    have hl : idx ls f < s.length := by rw [hs]; exact idx_lt' ls f
    unfold val at h
    rw [List.getD_eq_getElem?_getD, List.getElem?_eq_getElem hl] at h
    exact ⟨_, List.getElem_mem hl, nzA_iff.mpr h⟩
/-- lay -/
theorem lay_idx {o left : List Int} (ol : ∀ t, t ∈ left → t ∈ o) (lo : ∀ t ∈ o, t ∈ left) (ond : o.Nodup) (lnd : left.Nodup) (f : Asg) : idxO (o.map fun t => left.idxOf t) (idx o f) = idx left f := by
  refine Nat.eq_of_testBit_eq fun j => ?_
  rw [Bool.eq_iff_iff, idxO_bit (idx_nodup ond lo), idx_bit]
  constructor
  · rintro ⟨n, h1, h2⟩
    rw [List.getElem?_map] at h1
    rw [idx_bit] at h2
    cases e : o[n]? with
    | none =>
      rw [e] at h1
      cases h1
    | some t =>
      rw [e] at h1 h2
      have h3 : left.idxOf t = j := Option.some.inj h1
      have h4 := (idx_first (lo t (List.mem_of_getElem? e))).1
      rw [h3] at h4
      rw [h4]
      exact h2
  · intro h
    cases e : left[j]? with
    | none =>
      rw [e] at h
      cases h
    | some t =>
      rw [e] at h
      have hm := List.mem_of_getElem? e
      obtain ⟨n, hn⟩ := List.getElem?_of_mem (ol t hm)
      have h5 := nd_ix lnd (idx_first hm).1 e
      refine ⟨n, by rw [List.getElem?_map, hn, ← h5] <;> rfl, ?_⟩
      rw [idx_bit, hn]
      exact h
theorem lay_val {s : List Amt} {o left : List Int} (hp : left.Perm o) (lnd : left.Nodup) (hs : s.length = 2 ^ left.length) (f : Asg) : val (layS s (o.map fun t => left.idxOf t)) o f = val s left f := by
  have hl : idx o f < s.length := by rw [hs, hp.length_eq]; exact idx_lt' o f
  unfold val layS
  rw [List.getD_eq_getElem?_getD, List.getElem?_map, List.getElem?_range hl]
  show s.getD (idxO _ (idx o f)) Amt.zero = _
  rw [lay_idx (fun t ht => hp.mem_iff.mp ht) (fun t ht => hp.mem_iff.mpr ht) (hp.nodup_iff.mp lnd) lnd f]
theorem lay_nz {s : List Amt} {o left : List Int} (hp : left.Perm o) (lnd : left.Nodup) (hs : s.length = 2 ^ left.length) : nzS (layS s (o.map fun t => left.idxOf t)) = nzS s := by
  rw [Bool.eq_iff_iff, nz_val (hp.nodup_iff.mp lnd) (by rw [lay_len, hs, hp.length_eq]), nz_val lnd hs]
  constructor
  · rintro ⟨f, h⟩
    exact ⟨f, by rwa [lay_val hp lnd hs] at h⟩
  · rintro ⟨f, h⟩
    exact ⟨f, by rwa [lay_val hp lnd hs]⟩
theorem out_nz {N : NetM} {s : List Amt} {ps : List (Int × Int)} {n : Nat} (a : AskOk N s ps n) : nzS (outS N s ps) = nzS (lastS N s ps) := by
  refine lay_nz (left_perm a) ?_ (run_end a).len
  unfold leftL
  rw [(run_end a).left]
  exact lookd_nodup _ _
end Lk
set_option maxHeartbeats 1000000
namespace Lk
open PySem PySem.Spec PyProof.Rows L2
open Evl (Ex)
open C8 (Cal pe_c Mak pe_mk)
section
variable {P : Program} {w : World} {K : PySem.W.Frag} {mg : Str → Option Value} {base : Heap} {f : Addr} {fd : FuncData}
abbrev N_asked_for : List Str := ["net", "spread", "order", "falls", "told", "row", "bits"]
theorem sc_asked_for : FnScope N_asked_for ["net", "spread", "order", "falls"] (defScope (top 73)) := ⟨rfl, rfl, rfl, by decide +kernel, rfl, by decide +kernel, by decide +kernel⟩
theorem c_asked_for (F : FnP K "asked_for" (top 73) f fd) (hf : mg "asked_for" = some (.ref f)) (b : Bs K mg) (nf : NetF K) (q_need_net : Cal P w K mg base 1 "need_net" (spD K 2 RneedNet) []) (q_need_spread : Cal P w K mg base 4 "need_spread" (spD K 2 Rneed) []) (q_need_order : Cal P w K mg base 4 "need_order" (spD K 2 Rorder) []) (q_need_falls : Cal P w K mg base 4 "need_falls" (spD K 2 Rfalls) []) (q_need_begin : Cal P w K mg base 2 "need_begin" (spD K 2 RneedBegin) []) (q_left_behind : Cal P w K mg base 4 "left_behind" (spD K 4 Rleft) []) : Cal P w K mg base 5 "asked_for" (spD K 4 Rasked) [] := by
  refine cal_of F hf (fn_dat F sc_asked_for rfl fun cdv A outer s H E hr => ?_) fun _ _ _ _ _ _ us hl => match us, hl with | [_, _, _, _], _ => rfl
  have hu := room_u hr; have hu1 := room_u1 hr; have hu2 := room_u2 hr; have nd := (sc_asked_for).nd
  refine ⟨_, (pss_cons (ps_expr (pe_c q_need_net hr (by decide) rfl (pa_cons (pv 0) (pa_cons pe_str pa_nil)))) (pss_cons (ps_set (i := 4) nd rfl (.inl rfl) (pe_c q_need_spread hr (by decide) rfl (pa_cons (pv 1) (pa_cons pe_str pa_nil)))) (pss_cons (ps_set (i := 5) nd rfl (.inl rfl) (pe_c q_need_order hr (by decide) rfl (pa_cons (pv 0) (pa_cons (pv 2) pa_nil)))) (pss_cons (ps_set (i := 6) nd rfl (.inl rfl) (pe_c q_need_falls hr (by decide) rfl (pa_cons (pv 3) (pa_cons (pe_callB call_len_seq rfl b.b_len PySem.boot_len (pa_cons (pv 5) pa_nil)) pa_nil)))) (pss_cons (ps_expr (pe_c q_need_begin hr (by decide) rfl (pa_cons (pv 0) (pa_cons (pv 4) pa_nil)))) (pss_one (ps_ret (pe_c q_left_behind hr (by decide) rfl (pa_cons (pv 0) (pa_cons (pv 4) (pa_cons (pv 5) (pa_cons (pv 6) pa_nil)))))))))))), fun ds d _ hR => ?_⟩

  obtain ⟨N, v, s', ps, n, rfl, hv, ok, rfl⟩ := hR
  have h9 := ok.net.n2
  have pl := ok.plen
  refine b_seq (s_drop (de_call (da_cons (de_var rfl) (da_cons de_str da_nil)) rfl ⟨⟨N, _, rfl⟩, rfl⟩)) ?_
  refine b_seq (s_set (d := spr s') (de_call (da_cons (de_var rfl) (da_cons de_str da_nil)) rfl ⟨v, s', _, rfl, hv, ok.good, rfl⟩) rfl rfl) ?_
  refine b_seq (s_set (d := .tup ((ps.map (·.1)).map D.int)) (de_call (da_cons (de_var rfl) (da_cons (de_var rfl) da_nil)) rfl ⟨N, _, rfl, ok.ord, by omega, rfl⟩) rfl rfl) ?_
  refine b_seq (s_set (d := .tup ((ps.map (·.2)).map D.int)) (de_call (da_cons (de_var rfl) (da_cons (de_lenT (du_of (de_var rfl))) da_nil)) rfl ⟨ps.map (·.2), by rw [List.length_map, List.length_map, List.length_map], by rw [List.length_map]; omega, fun x hx => ?_, rfl⟩) rfl rfl) ?_
  · obtain ⟨p, hp, rfl⟩ := List.mem_map.mp hx
    exact ok.fal p hp
  refine b_seq (s_drop (de_call (da_cons (de_var rfl) (da_cons (de_var rfl) da_nil)) rfl ⟨⟨N, s', rfl, ok.len, by omega⟩, rfl⟩)) ?_
  exact b_ret (de_call (da_cons (de_var rfl) (da_cons (de_var rfl) (da_cons (de_var rfl) (da_cons (de_var rfl) da_nil)))) rfl ⟨N, s', ps, n, rfl, ok, rfl⟩)
abbrev N_bare_end : List Str := ["net", "spread", "order", "falls", "last", "spreads", "left", "amount", "thing"]
theorem sc_bare_end : FnScope N_bare_end ["net", "spread", "order", "falls"] (defScope (top 74)) := ⟨rfl, rfl, rfl, by decide +kernel, rfl, by decide +kernel, by decide +kernel⟩
theorem c_bare_end (F : FnP K "bare_end" (top 74) f fd) (hf : mg "bare_end" = some (.ref f)) (b : Bs K mg) (nf : NetF K) (q_asked_for : Cal P w K mg base 5 "asked_for" (spD K 4 Rasked) []) (q_plain : Cal P w K mg base 3 "plain" (spD K 1 Rplain) []) (q_lay : Cal P w K mg base 1 "lay" (spD K 2 Rlay) []) : Cal P w K mg base 6 "bare_end" (spD K 4 Rend) [] := by
  refine cal_of F hf (fn_dat F sc_bare_end rfl fun cdv A outer s H E hr => ?_) fun _ _ _ _ _ _ us hl => match us, hl with | [_, _, _, _], _ => rfl
  have hu := room_u hr; have hu1 := room_u1 hr; have hu2 := room_u2 hr; have nd := (sc_bare_end).nd
  refine ⟨_, (pss_cons (ps_asg (pe_c q_asked_for hr (by decide) rfl (pa_cons (pv 0) (pa_cons (pv 1) (pa_cons (pv 2) (pa_cons (pv 3) pa_nil))))) (pg_tup rfl (pgs_cons (pg_name (i := 5) nd rfl (.inl rfl)) (pgs_cons (pg_name (i := 6) nd rfl (.inr rfl)) pgs_nil)))) (pss_cons (ps_set (i := 4) nd rfl (.inl rfl) (pe_ix ix_list (pv 5) (pe_un un_neg pe_int) (fun _ _ => rfl))) (pss_cons (ps_if (pt_not (pt_val (pe_callB (cr_any rfl) rfl b.b_any PyProof.Rows.boot_any (pa_cons (pe_lc (own := [("amount", 7)]) rfl nd (pi_tup (pv 4)) (blkOk_by (own := [("amount", 7)]) (N := N_bare_end) (sc := defScope (top 74)) (by decide +kernel)) (fun _ _ _ _ _ => (pg_name (i := 7) nd rfl (.inl rfl))) (fun _ _ _ _ _ => pts_nil) (fun _ _ _ _ _ => (pe_callB (show CallR _ (.builtin "any") (rAnyU K) from (cr_anyU rfl)) rfl b.b_any PyProof.Rows.boot_any (pa_cons (pv 7) pa_nil)))) pa_nil)))) (pss_one (ps_ret pe_non)) pss_nil) (pss_one (ps_ret (pe_c q_plain hr (by decide) rfl (pa_cons (pe_c q_lay hr (by decide) rfl (pa_cons (pv 4) (pa_cons (pe_lc (own := [("thing", 8)]) rfl nd (pi_tup (pe_fld (pv 0) rfl)) (blkOk_by (own := [("thing", 8)]) (N := N_bare_end) (sc := defScope (top 74)) (by decide +kernel)) (fun _ _ _ _ _ => (pg_name (i := 8) nd rfl (.inl rfl))) (fun _ _ _ _ _ => pts_nil) (fun _ _ _ _ _ => (show PE _ _ (tBM K "list" (rIndex K) _ _) from (pe_bm PySem.F.plainAttrs_list PySem.F.slot_list_index PySem.F.type_list_index (show MtR _ "list.index" (rIndex K) from mt_index) (pv 6) (pa_cons (pv 8) pa_nil))))) pa_nil))) pa_nil))))))), fun ds d _ hR => ?_⟩

  obtain ⟨N, v, s', ps, n, rfl, hv, ok, rfl⟩ := hR
  obtain ⟨l, hl⟩ := (run_end ok).last
  have ll := last_len ok
  have p9 := pow9 ok.klen
  have kl := ok.klen
  have lnd : (leftL N s' ps).Nodup := (left_perm ok).nodup_iff.mpr ok.net.k2
  refine b_seq (s_asg (de_call (da_cons (de_var rfl) (da_cons (de_var rfl) (da_cons (de_var rfl) (da_cons (de_var rfl) da_nil)))) rfl ⟨N, v, s', ps, n, rfl, hv, ok, rfl⟩) (dg_pair (p := (.lst ((allS N s' ps).1.map spr), .lst ((leftL N s' ps).map D.int))) rfl rfl rfl rfl rfl)) ?_
  refine b_seq (s_set (d := spr (lastS N s' ps)) (de_ixL (dl_of (de_var rfl)) (de_neg de_int) (by rw [hl, List.map_append]; exact atI_last)) rfl rfl) ?_
  refine b_guard (b := !nzS (lastS N s' ps)) (dt_not (dt_B (de_anyF (f := nzA) (dl_ofN (dn_lcY (as := lastS N s' ps) (em := amtD) (di_tup (du_of (de_var rfl))) rfl rfl (fun a _ => dg_name rfl rfl) (fun _ h => h) (fun a _ => de_anyU (ns := [a.a, a.b, a.c, a.d]) (du_of (de_var rfl))) (by rw [ll]; omega)))))) (fun z => ?_) fun z => ?_
  · have z' : nzS (lastS N s' ps) = false := by
      cases h : nzS (lastS N s' ps)
      · rfl
      · rw [h] at z
        cases z
    unfold endD
    rw [z', if_neg Bool.false_ne_true]
    exact b_ret de_non
  · have z' : nzS (lastS N s' ps) = true := by
      cases h : nzS (lastS N s' ps)
      · rw [h] at z
        cases z
      · rfl
    unfold endD
    rw [z', if_pos rfl]
    refine b_ret (de_call (da_cons (d := spr (outS N s' ps)) (de_call (da_cons (de_var rfl) (da_cons (d := .lst ((N.kept.map fun t => (leftL N s' ps).idxOf t).map fun i : Nat => D.int (i : Int))) (de_ofN (DN.to (dn_lcY (as := N.kept) (em := D.int) (gv := fun t => D.int (((leftL N s' ps).idxOf t : Nat) : Int)) (di_tup (du_of (de_fld (j := 3) nf (de_var rfl) rfl rfl))) rfl rfl (fun t _ => dg_name rfl rfl) (fun _ h => h) (fun t ht => ?_) (by omega)) ?_)) da_nil)) rfl ⟨lastS N s' ps, N.kept.map fun t => (leftL N s' ps).idxOf t, rfl, ?_, ?_, ?_, ?_, rfl⟩) da_nil) rfl ⟨outS N s' ps, n + 9, rfl, (out_nz ok).trans z', ?_, out_bd ok, by omega, by have := ok.n9; omega, rfl⟩)
    · exact de_idxL (dl_of (de_var rfl)) (de_var rfl) ((left_perm ok).mem_iff.mpr ht)
    · rw [List.map_map]
      rfl
    · rw [ll]
      omega
    · intro i hi
      rw [ll, ← (left_perm ok).length_eq]
      exact idxO_lt (idx_nodup ok.net.k2 fun t ht => (left_perm ok).mem_iff.mpr ht) (idx_lt fun t ht => (left_perm ok).mem_iff.mpr ht) i
    · rw [List.length_map]
      omega
    · intro x hx
      have := idx_lt (fun t ht => (left_perm ok).mem_iff.mpr ht) x hx
      rw [(left_perm ok).length_eq] at this
      omega
    · rw [out_len ok]
      omega
abbrev N_bare_lengths : List Str := ["net", "spread", "order", "falls", "spreads", "_", "each"]
theorem sc_bare_lengths : FnScope N_bare_lengths ["net", "spread", "order", "falls"] (defScope (top 75)) := ⟨rfl, rfl, rfl, by decide +kernel, rfl, by decide +kernel, by decide +kernel⟩
theorem c_bare_lengths (F : FnP K "bare_lengths" (top 75) f fd) (hf : mg "bare_lengths" = some (.ref f)) (b : Bs K mg) (nf : NetF K) (q_asked_for : Cal P w K mg base 5 "asked_for" (spD K 4 Rasked) []) (q_length_in : Cal P w K mg base 1 "length_in" (spD K 1 Rlength) []) : Cal P w K mg base 6 "bare_lengths" (spD K 4 Rlens) [] := by
  refine cal_of F hf (fn_dat F sc_bare_lengths rfl fun cdv A outer s H E hr => ?_) fun _ _ _ _ _ _ us hl => match us, hl with | [_, _, _, _], _ => rfl
  have hu := room_u hr; have hu1 := room_u1 hr; have hu2 := room_u2 hr; have nd := (sc_bare_lengths).nd
  refine ⟨_, (pss_cons (ps_asg (pe_c q_asked_for hr (by decide) rfl (pa_cons (pv 0) (pa_cons (pv 1) (pa_cons (pv 2) (pa_cons (pv 3) pa_nil))))) (pg_tup rfl (pgs_cons (pg_name (i := 4) nd rfl (.inl rfl)) (pgs_cons (pg_name (i := 5) nd rfl (.inl rfl)) pgs_nil)))) (pss_one (ps_ret (pe_callTy call_tuple_of rfl b.b_tuple PyProof.Rows.boot_tuple (pa_cons (pe_lc (own := [("each", 6)]) rfl nd (pi_list (pv 4)) (blkOk_by (own := [("each", 6)]) (N := N_bare_lengths) (sc := defScope (top 75)) (by decide +kernel)) (fun _ _ _ _ _ => (pg_name (i := 6) nd rfl (.inl rfl))) (fun _ _ _ _ _ => pts_nil) (fun _ _ _ _ _ => (pe_c q_length_in hr (by decide) rfl (pa_cons (pv 6) pa_nil)))) pa_nil))))), fun ds d _ hR => ?_⟩

  obtain ⟨N, v, s', ps, n, rfl, hv, ok, rfl⟩ := hR
  have r := run_end ok
  have pl := ok.plen
  have hc : (allS N s' ps).1.length = 1 + ps.length := fold_cnt _ _ _
  refine b_seq (s_asg (de_call (da_cons (de_var rfl) (da_cons (de_var rfl) (da_cons (de_var rfl) (da_cons (de_var rfl) da_nil)))) rfl ⟨N, v, s', ps, n, rfl, hv, ok, rfl⟩) (dg_pair (p := (.lst ((allS N s' ps).1.map spr), .lst ((leftL N s' ps).map D.int))) rfl rfl rfl rfl rfl)) ?_
  refine b_ret (de_tupleL (dl_ofN (dn_lcY (as := (allS N s' ps).1) (em := spr) (di_list (de_var rfl)) rfl rfl (fun x _ => dg_name rfl rfl) (fun _ h => h) (fun x hx => de_call (da_cons (de_var rfl) da_nil) rfl ⟨x, n + ps.length, rfl, fun y hy => ?_, ?_, ?_, rfl⟩) (by omega))))
  · have := r.bds x hx y hy
    rwa [List.length_map] at this
  · have := ok.n0
    omega
  · have := ok.n9
    omega

end
end Lk
set_option maxHeartbeats 1000000
namespace Lk
open PySem PySem.Spec PyProof.Rows L2
open Evl (Ex)
open C8 (Cal pe_c Mak pe_mk)

/-! ### list(zip(a, b)) -/
section
variable {prog : Program} {w : World} {A : Around} {E : Value → Shared → Prop} {z : Shared} {Z TI TO i1 i2 : Addr} {fp1 fp2 : List Addr} {n1 n2 i : Nat} {P1 P2 : Nat → Value → Prop} {St1 St2 : Nat → Heap → Prop}
theorem zh_item {T : Addr} {fl : Bool} {oT : Obj} {Q : Value → Shared → Prop} (S : ZipSep2 Z TI TO i1 i2 fp1 fp2) (D1 : Draws prog w A i1 fp1 n1 P1 St1) (D2 : Draws prog w A i2 fp2 n2 P2 St2)
    (hz : IsZipHeld z.heap Z TI TO T fl) (hT : z.heap.get? T = some oT) (hTI : IsTupOf2 z.heap TI (.ref i1) (.ref i2)) (st1 : St1 i z.heap) (st2 : St2 i z.heap) (hlt1 : i < n1) (hlt2 : i < n2)
    (hq : ∀ x1 x2 h' tk, P1 i x1 → P2 i x2 → IsZipHeld h' Z TI TO T true → St1 (i + 1) h' → St2 (i + 1) h' → IsTupOf2 h' z.heap.objs.size x1 x2 → h'.objs.size = z.heap.objs.size + 1 →
      (∀ c o, c ≠ Z → c ≠ i1 → c ≠ i2 → z.heap.get? c = some o → h'.get? c = some o) → Q (.ref z.heap.objs.size) { z with heap := h', toks := tk }) :
    wpAny (model prog w) A (Builtin.«zip.__next__» ⟨[.ref Z], []⟩) (fun fin s' => ∃ v, fin = .done (.ret v) ∧ Q v s') E z := by
  obtain ⟨hp, g, d, tk0, os⟩ := z
  show wpAny _ _ (field (.ref Z) 2 >>= _) _ _ _
  refine wpAny_bind (wpAny_field hz rfl (x := .bool false) rfl ?_)
  show wpAny _ _ (field (.ref Z) 3 >>= _) _ _ _
  refine wpAny_bind (wpAny_field hz rfl (x := .ref TI) rfl (wpAny_bind (wpAny_seqItems hTI rfl ?_)))
  show wpAny _ _ (Builtin.SmallTypes.ownedTupleIsFree (.ref Z) >>= _) _ _ _
  refine wpAny_bind (wpAny_tupleHeld_zip hz hT fun g0 z0 s0 => ?_)
  replace z0 : IsZipHeld g0 Z TI TO T true := z0
  replace s0 : Heap.SameBut Z hp g0 := s0
  simp only [Bool.false_eq_true, if_false]
  refine wpAny_bind ?_
  rw [← Array.forIn_toList]
  simp only [List.forIn_cons, List.forIn_nil]
  refine wpAny_bind (wpAny_bind (wpAny_holding ?_))
  show wpAny _ _ (Builtin.SmallTypes.nextOf (.ref i1) >>= _) _ _ ⟨g0, g, d, tk0, os⟩
  refine wpAny_bind (D1.item i ⟨g0, g, d, tk0, os⟩ _ _ hlt1 (D1.over st1 s0 S.zf1) fun x1 p1 tk1 hx1 sn1 e1 => wpAny_pure (wpAny_pure ?_))
  replace e1 : Heap.SameBut i1 g0 p1 := e1
  refine wpAny_bind (wpAny_bind (wpAny_holding ?_))
  show wpAny _ _ (Builtin.SmallTypes.nextOf (.ref i2) >>= _) _ _ ⟨p1, g, d, tk1, os⟩
  refine wpAny_bind (D2.item i ⟨p1, g, d, tk1, os⟩ _ _ hlt2 (D2.over (D2.over st2 s0 S.zf2) e1 S.sep1_2) fun x2 p2 tk2 hx2 sn2 e2 => wpAny_pure (wpAny_pure (wpAny_pure ?_)))
  replace e2 : Heap.SameBut i2 p1 p2 := e2
  show wpAny _ _ (newTuple [x1, x2] >>= _) _ _ ⟨p2, g, d, tk2, os⟩
  refine wpAny_bind (wpAny_newTuple ?_)
  have sz : p2.objs.size = hp.objs.size := by rw [e2.1, e1.1, s0.1]
  have z3 : IsZipHeld p2 Z TI TO T true := e2.extBut _ _ S.zi2 (e1.extBut _ _ S.zi1 z0)
  have hk : ∀ c o, c ≠ Z → c ≠ i1 → c ≠ i2 → hp.get? c = some o → p2.get? c = some o := fun c o cz c1 c2 e => e2.extBut _ _ c2 (e1.extBut _ _ c1 (s0.extBut _ _ cz e))
  refine wpAny_pure ⟨_, rfl, ?_⟩
  show Q (.ref p2.objs.size) ⟨p2.push { cls := .type "tuple", data := .seq #[x1, x2] }, g, d, tk2, os⟩
  have hT2 : IsTupOf2 (p2.push { cls := .type "tuple", data := .seq #[x1, x2] }) p2.objs.size x1 x2 := Heap.get?_push_size _ rfl
  have z4 : (p2.push { cls := .type "tuple", data := .seq #[x1, x2] }).objs.size = p2.objs.size + 1 := Heap.size_push ..
  rw [sz] at hT2 z4 ⊢
  exact hq x1 x2 _ tk2 hx1 hx2 (Heap.get?_push_of_some _ z3) (D1.frame _ _ _ (D1.over sn1 e2 S.sep2_1) fun b _ o e => Heap.get?_push_of_some _ e) (D2.frame _ _ _ sn2 fun b _ o e => Heap.get?_push_of_some _ e) hT2 z4
    fun c o cz c1 c2 e => Heap.get?_push_of_some _ (hk c o cz c1 c2 e)
theorem zh_end {T : Addr} {fl : Bool} {oT : Obj} {Q : Fin → Shared → Prop} (S : ZipSep2 Z TI TO i1 i2 fp1 fp2) (D1 : Draws prog w A i1 fp1 n1 P1 St1) (D2 : Draws prog w A i2 fp2 n2 P2 St2)
    (hz : IsZipHeld z.heap Z TI TO T fl) (hT : z.heap.get? T = some oT) (hTI : IsTupOf2 z.heap TI (.ref i1) (.ref i2)) (st1 : St1 i z.heap) (st2 : St2 i z.heap) (hle1 : i ≤ n1) (hle2 : i ≤ n2) (hend : i = n1 ∨ i = n2)
    (hE : ∀ h' tk e, (∀ c o, c ≠ Z → c ≠ i1 → c ≠ i2 → z.heap.get? c = some o → h'.get? c = some o) → (∃ o, h'.get? e = some o ∧ o.cls = .type "StopIteration") → E (.ref e) { z with heap := h', toks := tk }) :
    wpAny (model prog w) A (Builtin.«zip.__next__» ⟨[.ref Z], []⟩) Q E z := by
  obtain ⟨hp, g, d, tk0, os⟩ := z
  show wpAny _ _ (field (.ref Z) 2 >>= _) _ _ _
  refine wpAny_bind (wpAny_field hz rfl (x := .bool false) rfl ?_)
  show wpAny _ _ (field (.ref Z) 3 >>= _) _ _ _
  refine wpAny_bind (wpAny_field hz rfl (x := .ref TI) rfl (wpAny_bind (wpAny_seqItems hTI rfl ?_)))
  show wpAny _ _ (Builtin.SmallTypes.ownedTupleIsFree (.ref Z) >>= _) _ _ _
  refine wpAny_bind (wpAny_tupleHeld_zip hz hT fun g0 z0 s0 => ?_)
  replace z0 : IsZipHeld g0 Z TI TO T true := z0
  replace s0 : Heap.SameBut Z hp g0 := s0
  simp only [Bool.false_eq_true, if_false]
  refine wpAny_bind ?_
  rw [← Array.forIn_toList]
  simp only [List.forIn_cons, List.forIn_nil]
  refine wpAny_bind (wpAny_bind (wpAny_holding ?_))
  show wpAny _ _ (Builtin.SmallTypes.nextOf (.ref i1) >>= _) _ _ ⟨g0, g, d, tk0, os⟩
  by_cases hlt : i < n1
  · have hi2 : i = n2 := by omega
    refine wpAny_bind (D1.item i ⟨g0, g, d, tk0, os⟩ _ _ hlt (D1.over st1 s0 S.zf1) fun x1 p1 tk1 hx1 sn1 e1 => wpAny_pure (wpAny_pure ?_))
    replace e1 : Heap.SameBut i1 g0 p1 := e1
    refine wpAny_bind (wpAny_bind (wpAny_holding ?_))
    show wpAny _ _ (Builtin.SmallTypes.nextOf (.ref i2) >>= _) _ _ ⟨p1, g, d, tk1, os⟩
    refine wpAny_bind (D2.done ⟨p1, g, d, tk1, os⟩ _ _ (by rw [← hi2]; exact D2.over (D2.over st2 s0 S.zf2) e1 S.sep1_2) fun q e hq he => ?_)
    replace hq : Heap.ExtBut i2 p1 q := hq
    exact hE q tk1 e (fun c o cz c1 c2 x => hq _ _ c2 (e1.extBut _ _ c1 (s0.extBut _ _ cz x))) he
  · have hi1 : i = n1 := by omega
    refine wpAny_bind (D1.done ⟨g0, g, d, tk0, os⟩ _ _ (by rw [← hi1]; exact D1.over st1 s0 S.zf1) fun q e hq he => ?_)
    replace hq : Heap.ExtBut i1 g0 q := hq
    exact hE q tk0 e (fun c o cz c1 c2 x => hq _ _ c1 (s0.extBut _ _ cz x)) he
end
section
variable {prog : Program} {w : World} {A : Around} {E : Value → Shared → Prop} {z : Shared} {Z TI TO i1 i2 : Addr} {fp1 fp2 : List Addr} {n1 n2 i : Nat} {P1 P2 : Nat → Value → Prop} {St1 St2 : Nat → Heap → Prop}
theorem zhp_item {T : Addr} {fl : Bool} {oT : Obj} {Q : Option Value → Shared → Prop} (S : ZipSep2 Z TI TO i1 i2 fp1 fp2) (D1 : Draws prog w A.in1 i1 fp1 n1 P1 St1) (D2 : Draws prog w A.in1 i2 fp2 n2 P2 St2)
    (hz : IsZipHeld z.heap Z TI TO T fl) (hT : z.heap.get? T = some oT) (hTI : IsTupOf2 z.heap TI (.ref i1) (.ref i2)) (st1 : St1 i z.heap) (st2 : St2 i z.heap) (hlt1 : i < n1) (hlt2 : i < n2)
    (hq : ∀ x1 x2 h' tk, P1 i x1 → P2 i x2 → IsZipHeld h' Z TI TO T true → St1 (i + 1) h' → St2 (i + 1) h' → IsTupOf2 h' z.heap.objs.size x1 x2 → h'.objs.size = z.heap.objs.size + 1 →
      (∀ c o, c ≠ Z → c ≠ i1 → c ≠ i2 → z.heap.get? c = some o → h'.get? c = some o) → Q (some (.ref z.heap.objs.size)) { z with heap := h', toks := tk }) :
    wpAny (model prog w) A (pyNext (.ref Z)) Q E z := by
  have ty : z.TypeIs (.ref Z) "zip" := ⟨_, hz, rfl⟩
  unfold pyNext
  exact wpAny_bind (wpAny_attempt (wpAny_callSpecial?_slot (name := Str.ofString "__next__") ty F.slot_zip_next
    (wpAny_call_entry F.slot_zip_next ty F.entry_zip_next (zh_item S D1 D2 hz hT hTI st1 st2 hlt1 hlt2 fun x1 x2 h' tk a b c d e f g k => wpAny_pure (hq x1 x2 h' tk a b c d e f g k)) (F.args_zip_next_1 _))))
theorem zhp_end {T : Addr} {fl : Bool} {oT : Obj} {Q : Option Value → Shared → Prop} (S : ZipSep2 Z TI TO i1 i2 fp1 fp2) (D1 : Draws prog w A.in1 i1 fp1 n1 P1 St1) (D2 : Draws prog w A.in1 i2 fp2 n2 P2 St2)
    (hz : IsZipHeld z.heap Z TI TO T fl) (hT : z.heap.get? T = some oT) (hTI : IsTupOf2 z.heap TI (.ref i1) (.ref i2)) (st1 : St1 i z.heap) (st2 : St2 i z.heap) (hle1 : i ≤ n1) (hle2 : i ≤ n2) (hend : i = n1 ∨ i = n2)
    (hq : ∀ h' tk, (∀ c o, c ≠ Z → c ≠ i1 → c ≠ i2 → z.heap.get? c = some o → h'.get? c = some o) → Q none { z with heap := h', toks := tk }) : wpAny (model prog w) A (pyNext (.ref Z)) Q E z := by
  have ty : z.TypeIs (.ref Z) "zip" := ⟨_, hz, rfl⟩
  unfold pyNext
  refine wpAny_bind (wpAny_attempt (wpAny_callSpecial?_slot (name := Str.ofString "__next__") ty F.slot_zip_next
    (wpAny_call_entry F.slot_zip_next ty F.entry_zip_next (zh_end S D1 D2 hz hT hTI st1 st2 hle1 hle2 hend fun h' tk e hk he => ?_) (F.args_zip_next_1 _))))
  obtain ⟨o, ho, hc⟩ := he
  exact wpAny_bind (wpAny_isInstance (T := "StopIteration") (b := true) ⟨o, ho, hc⟩ isSubtype_stop (wpAny_pure (hq _ _ hk)))
/-- where the zip stands ahead of its turn i, while a list is filled at S -/
structure ZTurn (St1 St2 : Nat → Heap → Prop) (Z TI TO i1 i2 S : Addr) (i : Nat) (h : Heap) : Prop where
  ti : IsTupOf2 h TI (.ref i1) (.ref i2)
  to : TO < h.objs.size
  s1 : St1 i h
  s2 : St2 i h
  zz : (IsZip h Z TI TO .none ∧ ∃ a b, IsTupOf2 h TO a b) ∨ ∃ T fl oT, IsZipHeld h Z TI TO T fl ∧ h.get? T = some oT ∧ T ≠ Z ∧ T ≠ i1 ∧ T ≠ i2 ∧ T ≠ S
/-- what the list holds -/
def ZGot (P1 P2 : Nat → Value → Prop) (N : Nat) (Z TO i1 i2 S : Addr) (h : Heap) (acc : Array Value) (i : Nat) : Prop :=
  acc.size = i ∧ (∀ j k, j < i → k < i → acc[j]? = acc[k]? → j = k) ∧ ∀ j, j < i → ∃ T x y, acc[j]? = some (.ref T) ∧ P1 j x ∧ P2 j y ∧ IsTupOf2 h T x y ∧ N ≤ T ∧ T ≠ Z ∧ T ≠ TO ∧ T ≠ i1 ∧ T ≠ i2 ∧ T ≠ S
theorem zl_loop {R : Result → Shared → Prop} (S : ZipSep2 Z TI TO i1 i2 fp1 fp2) (D1 : Draws prog w A.in1.in1 i1 fp1 n1 P1 St1) (D2 : Draws prog w A.in1.in1 i2 fp2 n2 P2 St2) (L : Addr) (hLZ : L ≠ Z) (hLI : TI ≠ L) (hLO : L ≠ TO) (hL1 : L ∉ fp1) (hL2 : L ∉ fp2) (res : Value) {n : Nat} (hn1 : n ≤ n1) (hn2 : n ≤ n2) (hend : n = n1 ∨ n = n2) (hns : n ≤ sizeLine) (h0 : Heap) (N : Nat) :
    ∀ (k i : Nat) (s : Shared) (acc : Array Value) (c : Nat), n - i = k → i ≤ n → ZTurn St1 St2 Z TI TO i1 i2 L i s.heap → s.heap.get? L = some { cls := .type "list", dict := none, data := .seq acc c, slots := #[] } → ZGot P1 P2 N Z TO i1 i2 L s.heap acc i → N ≤ s.heap.objs.size →
    (∀ b o, b ≠ Z → b ≠ TO → b ≠ i1 → b ≠ i2 → b ≠ L → h0.get? b = some o → s.heap.get? b = some o) →
    (∀ h' tk acc' c', (∀ b o, b ≠ Z → b ≠ TO → b ≠ i1 → b ≠ i2 → b ≠ L → h0.get? b = some o → h'.get? b = some o) → h'.get? L = some { cls := .type "list", dict := none, data := .seq acc' c', slots := #[] } → ZGot P1 P2 N Z TO i1 i2 L h' acc' n → R (.ok (.ret res)) { s with heap := h', toks := tk }) →
    codeAny (model prog w) A (.builtin "list.extend.loop" ⟨[.ref L, .ref Z, res], []⟩) R s := by
  have hLi1 : L ≠ i1 := fun e => hL1 (by rw [e]; exact S.mem1)
  have hLi2 : L ≠ i2 := fun e => hL2 (by rw [e]; exact S.mem2)
  intro k
  induction k with
  | zero =>
    intro i s acc c hk hi st hL hg hN hold hR
    have hin : i = n := by omega
    subst hin
    refine codeAny_builtin F.entry_extend_loop ?_
    rw [Around.under_plainId F.plain_extend_loop _]
    show wpAny _ A.in1 (pyNext (.ref Z) >>= _) _ _ s
    have fin : ∀ h' tk, (∀ c o, c ≠ Z → c ≠ TO → c ≠ i1 → c ≠ i2 → s.heap.get? c = some o → h'.get? c = some o) → R (.ok (.ret res)) { s with heap := h', toks := tk } := fun h' tk hk => by
      refine hR h' tk acc c (fun b o b1 b2 b3 b4 b5 e => hk b o b1 b2 b3 b4 (hold b o b1 b2 b3 b4 b5 e)) (hk L _ hLZ hLO hLi1 hLi2 hL) ⟨hg.1, hg.2.1, fun j hj => ?_⟩
      obtain ⟨T, x, y, e1, e2, e3, e4, e5, t1, t2, t3, t4, t5⟩ := hg.2.2 j hj
      exact ⟨T, x, y, e1, e2, e3, hk T _ t1 t2 t3 t4 e4, e5, t1, t2, t3, t4, t5⟩
    rcases st.zz with ⟨hz, a, b, hTO⟩ | ⟨T, fl, oT, hz, hT, _⟩
    · exact wpAny_bind (wpAny_pyNext_zipD2_end S D1 D2 hz st.ti hTO st.s1 st.s2 hn1 hn2 hend fun h' tk hk => wpAny_pure (fin h' tk hk))
    · exact wpAny_bind (zhp_end S D1 D2 hz hT st.ti st.s1 st.s2 hn1 hn2 hend fun h' tk hk => wpAny_pure (fin h' tk fun c o c1 _ c3 c4 e => hk c o c1 c3 c4 e))
  | succ k ih =>
    intro i s acc c hk hi st hL hg hN hold hR
    have hlt : i < n := by omega
    have hsz : acc.size = i := hg.1
    refine codeAny_builtin F.entry_extend_loop ?_
    rw [Around.under_plainId F.plain_extend_loop _]
    show wpAny _ A.in1 (pyNext (.ref Z) >>= _) _ _ s
    have lt : ∀ {c o}, s.heap.get? c = some o → s.heap.objs.size ≠ c := fun e => Nat.ne_of_gt (Heap.lt_size e)
    have t1 : s.heap.objs.size ≠ i1 := let ⟨_, e⟩ := D1.live _ _ st.s1; lt e
    have t2 : s.heap.objs.size ≠ i2 := let ⟨_, e⟩ := D2.live _ _ st.s2; lt e
    have tL : s.heap.objs.size ≠ L := lt hL
    have tZ : s.heap.objs.size ≠ Z := by
      rcases st.zz with ⟨hz, _⟩ | ⟨_, _, _, hz, _⟩
      · exact lt hz
      · exact lt hz
    have step : ∀ x1 x2 h' tk (T : Addr) fl oT, P1 i x1 → P2 i x2 → IsZipHeld h' Z TI TO T fl → h'.get? T = some oT → T ≠ Z → T ≠ i1 → T ≠ i2 → T ≠ L → St1 (i + 1) h' → St2 (i + 1) h' → IsTupOf2 h' s.heap.objs.size x1 x2 → h'.objs.size = s.heap.objs.size + 1 → s.heap.objs.size ≠ TO →
        (∀ c o, c ≠ Z → c ≠ TO → c ≠ i1 → c ≠ i2 → s.heap.get? c = some o → h'.get? c = some o) →
        wpAny (model prog w) A.in1 (updateSeq L (·.push (.ref s.heap.objs.size)) >>= fun _ => again (.builtin "list.extend.loop" ⟨[.ref L, .ref Z, res], []⟩))
          (fun fin s' => match fin with | .done f => R (.ok f) s' | .again c' => c'.quiet = true ∧ codeAny (model prog w) A c' R s') (fun e s' => R (.error e) s') { s with heap := h', toks := tk } := by
      intro x1 x2 h' tk T fl oT hx1 hx2 hz' hT' nT1 nT2 nT3 nT4 s1 s2 hN1 hsz' tO hk'
      have hL' : h'.get? L = some { cls := .type "list", dict := none, data := .seq acc c, slots := #[] } := hk' L _ hLZ hLO hLi1 hLi2 hL
      have oth : ∀ b o, b ≠ L → h'.get? b = some o → (h'.update L (Obj.mapSeq (·.push (.ref s.heap.objs.size)))).get? b = some o := fun b o hb e => (Heap.get?_update_other _ _ (Ne.symm hb)).trans e
      refine wpAny_bind ?_
      refine wpAny_updateSeq hL' rfl (wpAny_pure ⟨plainId_quiet F.plain_extend_loop _, ih (i + 1) _ (acc.push (.ref s.heap.objs.size)) _ (by omega) hlt ⟨?_, ?_, ?_, ?_, .inr ⟨T, fl, oT, ?_, ?_, nT1, nT2, nT3, nT4⟩⟩ (Heap.get?_update_self _ hL' rfl) ⟨by rw [Array.size_push, hsz], fun j k hj hk e => ?_, fun j hj => ?_⟩ ?_ (fun b o b1 b2 b3 b4 b5 e => ?_) fun h2 tk2 acc' c' a b d => hR h2 tk2 acc' c' a b d⟩)
        (by rw [hsz]; omega) (by show (acc.push _).size ≤ sizeLine + 1; rw [Array.size_push, hsz]; omega)
      · exact oth _ _ hLI (hk' TI _ S.TIz S.TITO S.TIi1 S.TIi2 st.ti)
      · show TO < (h'.update L _).objs.size
        rw [Heap.size_update, hsz']
        exact Nat.lt_succ_of_lt st.to
      · exact D1.frame _ _ _ s1 fun b hb o e => oth b o (fun q => hL1 (q ▸ hb)) e
      · exact D2.frame _ _ _ s2 fun b hb o e => oth b o (fun q => hL2 (q ▸ hb)) e
      · exact oth _ _ (Ne.symm hLZ) hz'
      · exact oth _ _ nT4 hT'
      · have old : ∀ m, m < i → (acc.push (Value.ref s.heap.objs.size))[m]? ≠ some (.ref s.heap.objs.size) := fun m hm z => by
          obtain ⟨T', x, y, e1, _, _, e4, _⟩ := hg.2.2 m hm
          rw [Array.getElem?_push, if_neg (by omega), e1] at z
          cases z
          exact Nat.lt_irrefl _ (Heap.lt_size e4)
        by_cases j1 : j = i
        · by_cases k1 : k = i
          · omega
          · subst j1
            rw [Array.getElem?_push, if_pos hsz.symm] at e
            exact absurd e.symm (old k (by omega))
        · by_cases k1 : k = i
          · subst k1
            rw [Array.getElem?_push (i := k), if_pos hsz.symm] at e
            exact absurd e (old j (by omega))
          · rw [Array.getElem?_push, if_neg (by omega), Array.getElem?_push, if_neg (by omega)] at e
            exact hg.2.1 j k (by omega) (by omega) e
      · by_cases hj' : j = i
        · subst hj'
          exact ⟨s.heap.objs.size, x1, x2, by rw [Array.getElem?_push, if_pos hsz.symm], hx1, hx2, oth _ _ tL hN1, hN, tZ, tO, t1, t2, tL⟩
        · obtain ⟨T', x, y, e1, e2, e3, e4, e5, u1, u2, u3, u4, u5⟩ := hg.2.2 j (by omega)
          exact ⟨T', x, y, by rw [Array.getElem?_push, if_neg (by omega)]; exact e1, e2, e3, oth _ _ u5 (hk' T' _ u1 u2 u3 u4 e4), e5, u1, u2, u3, u4, u5⟩
      · show N ≤ (h'.update L _).objs.size
        rw [Heap.size_update, hsz']
        omega
      · exact oth _ _ b5 (hk' b o b1 b2 b3 b4 (hold b o b1 b2 b3 b4 b5 e))
    rcases st.zz with ⟨hz, a, b, hTO⟩ | ⟨T, fl, oT, hz, hT, nT1, nT2, nT3, nT4⟩
    · refine wpAny_bind (wpAny_pyNext_zipD2_item S D1 D2 hz st.ti hTO st.s1 st.s2 (by omega) (by omega) fun x1 x2 h' tk hx1 hx2 hz' hO' s1 s2 hN1 hsz' hk' => ?_)
      exact step x1 x2 h' tk s.heap.objs.size false _ hx1 hx2 hz' hN1 tZ t1 t2 tL s1 s2 hN1 hsz' (lt hTO) hk'
    · refine wpAny_bind (zhp_item S D1 D2 hz hT st.ti st.s1 st.s2 (by omega) (by omega) fun x1 x2 h' tk hx1 hx2 hz' s1 s2 hN1 hsz' hk' => ?_)
      have tO : s.heap.objs.size ≠ TO := Nat.ne_of_gt st.to
      have tT : T < s.heap.objs.size := Heap.lt_size hT
      exact step x1 x2 h' tk T true oT hx1 hx2 hz' (hk' T oT nT1 nT2 nT3 hT) nT1 nT2 nT3 nT4 s1 s2 hN1 hsz' tO fun c o c1 _ c3 c4 e => hk' c o c1 c3 c4 e
end
end Lk
set_option maxHeartbeats 1000000
namespace Lk
open PySem PySem.Spec PyProof.Rows L2
open Evl (Ex)
open C8 (Cal pe_c Mak pe_mk)
/-- pairs at their places -/
def putP : Hp → List Addr → List (V × V) → Hp
  | H, a :: as, p :: ps => putP (upd H a (.tup [p.1, p.2])) as ps
  | H, _, _ => H
theorem putP_off {b : Addr} : ∀ (as : List Addr) (ps : List (V × V)) (H : Hp), b ∉ as → putP H as ps b = H b
  | [], _, _, _ => rfl
  | _ :: _, [], _, _ => rfl
  | a :: as, p :: ps, H, h => by
    unfold putP
    rw [putP_off as ps _ fun z => h (List.mem_cons_of_mem _ z), upd_ne fun z => h (by rw [z]; exact List.mem_cons_self ..)]
theorem putP_at : ∀ (as : List Addr) (ps : List (V × V)) (H : Hp) (j : Nat) (a : Addr) (p : V × V), as.Nodup → as[j]? = some a → ps[j]? = some p → putP H as ps a = some (.tup [p.1, p.2])
  | [], _, _, _, _, _, _, h, _ => by simp at h
  | _ :: _, [], _, _, _, _, _, _, h => by simp at h
  | x :: as, q :: ps, H, 0, a, p, nd, h, h' => by
    simp only [List.getElem?_cons_zero, Option.some.injEq] at h h'
    subst h h'
    unfold putP
    rw [putP_off as ps _ (List.nodup_cons.mp nd).1, upd_same]
  | x :: as, q :: ps, H, j + 1, a, p, nd, h, h' => by
    unfold putP
    exact putP_at as ps _ j a p (List.nodup_cons.mp nd).2 (by simpa using h) (by simpa using h')
def tListZip (K : PySem.W.Frag) (ta : TA) : TE := fun σ H Q => ta σ H fun vs H1 => ∃ a b xs ys, vs = [.ref a, .ref b] ∧ ((SqL K H1 a xs ∧ SqL K H1 b ys) ∨ (SqT K H1 a xs ∧ SqT K H1 b ys)) ∧
  ∀ (H' : Hp) (p : Addr) (as : List Addr), Ex H1 H' → H1 p = none → (∀ t ∈ as, H1 t = none) → p ∉ as → H' p = some (.lst (as.map V.ref)) → as.length = min xs.length ys.length →
    (∀ (j : Nat) (t : Addr) (x y : V), as[j]? = some t → xs[j]? = some x → ys[j]? = some y → H' t = some (.tup [x, y])) → Q (.ref p) H'
theorem zip_no_len : typeLookup (.type "zip") "__len__" = pure none := by rw [typeLookup_type, builtinLookup_eq_fast]; kernel_rfl
theorem zip_no_hint : typeLookup (.type "zip") "__length_hint__" = pure none := by rw [typeLookup_type, builtinLookup_eq_fast]; kernel_rfl
section
variable {X : Cx} {pins : List (Addr × Obj)} {σ : L2.St} {H : Hp} {s : Shared}
theorem got_refs {P1 P2 : Nat → Value → Prop} {N : Nat} {Z TO i1 i2 L : Addr} {h : Heap} : ∀ {n : Nat} {acc : Array Value}, ZGot P1 P2 N Z TO i1 i2 L h acc n → ∃ as : List Addr, as.length = n ∧ acc.toList = as.map Value.ref ∧ as.Nodup ∧ (∀ t ∈ as, N ≤ t ∧ t ≠ L) ∧ ∀ (j : Nat) (t : Addr), as[j]? = some t → ∃ x y, P1 j x ∧ P2 j y ∧ IsTupOf2 h t x y := by
  intro n acc g
  obtain ⟨g1, g2, g3⟩ := g
  let as : List Addr := acc.toList.map fun v => match v with | .ref a => a | _ => 0
  have hget : ∀ j, j < n → ∃ T x y, acc[j]? = some (.ref T) ∧ as[j]? = some T ∧ P1 j x ∧ P2 j y ∧ IsTupOf2 h T x y ∧ N ≤ T ∧ T ≠ L := fun j hj => by
    obtain ⟨T, x, y, e1, e2, e3, e4, e5, _, _, _, _, e6⟩ := g3 j hj
    refine ⟨T, x, y, e1, ?_, e2, e3, e4, e5, e6⟩
    show (acc.toList.map _)[j]? = some T
    rw [List.getElem?_map, Array.getElem?_toList, e1]
    rfl
  have hl : as.length = n := by
    show (acc.toList.map _).length = n
    rw [List.length_map, Array.length_toList, g1]
  refine ⟨as, hl, ?_, ?_, fun t ht => ?_, fun j t hj => ?_⟩
  · refine List.ext_getElem? fun j => ?_
    by_cases hj : j < n
    · obtain ⟨T, x, y, e1, e2, _⟩ := hget j hj
      rw [Array.getElem?_toList, e1, List.getElem?_map, e2]
      rfl
    · rw [Array.getElem?_toList, List.getElem?_map, Array.getElem?_eq_none (by omega), List.getElem?_eq_none (by omega)]
      rfl
  · refine List.pairwise_iff_getElem.mpr fun j k hj hk hjk e => ?_
    obtain ⟨T, x, y, e1, e2, _⟩ := hget j (by omega)
    obtain ⟨T', x', y', f1, f2, _⟩ := hget k (by omega)
    have q1 := (List.getElem?_eq_some_iff.mp e2).2
    have q2 := (List.getElem?_eq_some_iff.mp f2).2
    have e3 : T = T' := by
      rw [← q1, ← q2]
      exact e
    subst e3
    have := g2 j k (by omega) (by omega) (e1.trans f1.symm)
    omega
  · obtain ⟨j, hj⟩ := List.getElem?_of_mem ht
    have hlt := (List.getElem?_eq_some_iff.mp hj).1
    obtain ⟨T, x, y, e1, e2, _, _, _, e5, e6⟩ := hget j (by omega)
    rw [e2] at hj
    cases hj
    exact ⟨e5, e6⟩
  · have hlt := (List.getElem?_eq_some_iff.mp hj).1
    obtain ⟨T, x, y, e1, e2, p1, p2, p3, _⟩ := hget j (by omega)
    rw [e2] at hj
    cases hj
    exact ⟨x, y, p1, p2, p3⟩
theorem zip_laid {h' : Heap} {tk : Nat} {xs ys : List V} {its1 its2 : List Value} {acc : Array Value} {c : Nat} {L : Addr} {as : List Addr} {n : Nat} (J : Inv X pins σ H s) (rv1 : Vals xs its1) (rv2 : Vals ys its2) (hn : n = min xs.length ys.length) (hz : n ≤ sizeLine)
    (hk : ∀ b o, s.heap.get? b = some o → h'.get? b = some o) (hLs : s.heap.objs.size ≤ L) (hL : h'.get? L = some { cls := .type "list", dict := none, data := .seq acc c, slots := #[] }) (hl : as.length = n) (ha : acc.toList = as.map Value.ref) (nd : as.Nodup) (hN : ∀ t ∈ as, s.heap.objs.size ≤ t ∧ t ≠ L)
    (hg : ∀ (j : Nat) (t : Addr), as[j]? = some t → ∃ x y, its1[j]? = some x ∧ its2[j]? = some y ∧ IsTupOf2 h' t x y) :
    ∃ H' : Hp, Ex H H' ∧ H L = none ∧ (∀ t ∈ as, H t = none) ∧ L ∉ as ∧ H' L = some (.lst (as.map V.ref)) ∧ (∀ (j : Nat) (t : Addr) (x y : V), as[j]? = some t → xs[j]? = some x → ys[j]? = some y → H' t = some (.tup [x, y])) ∧ Inv X pins σ H' { s with heap := h', toks := tk } := by
  have nL : L ∉ as := fun z => (hN L z).2 rfl
  have fr : ∀ t ∈ as, H t = none := fun t ht => J.hok.fresh (hN t ht).1
  have frL : H L = none := J.hok.fresh hLs
  have off : ∀ b, b ∉ as → b ≠ L → putP (upd H L (.lst (as.map V.ref))) as (xs.zip ys) b = H b := fun b h1 h2 => by rw [putP_off as _ _ h1, upd_ne h2]
  have low : ∀ b o, s.heap.get? b = some o → b ∉ as ∧ b ≠ L := fun b o e => ⟨fun z => absurd (Heap.lt_size e) (Nat.not_lt.mpr (hN b z).1), fun z => absurd (Heap.lt_size e) (Nat.not_lt.mpr (by rw [z]; exact hLs))⟩
  have kp : Ex H (putP (upd H L (.lst (as.map V.ref))) as (xs.zip ys)) := fun b u e => by
    rw [off b (fun z => by rw [fr b z] at e; cases e) fun z => by rw [z, frL] at e; cases e]
    exact e
  have eL : putP (upd H L (.lst (as.map V.ref))) as (xs.zip ys) L = some (.lst (as.map V.ref)) := by rw [putP_off as _ _ nL, upd_same]
  have at_ : ∀ (j : Nat) (t : Addr) (x y : V), as[j]? = some t → xs[j]? = some x → ys[j]? = some y → putP (upd H L (.lst (as.map V.ref))) as (xs.zip ys) t = some (.tup [x, y]) := fun j t x y h1 h2 h3 =>
    putP_at as (xs.zip ys) _ j t (x, y) nd h1 (List.getElem?_zip_eq_some.mpr ⟨h2, h3⟩)
  refine ⟨_, kp, frL, fr, nL, eL, at_, ?_⟩
  refine J.call' (ch := []) rfl ⟨fun b o q _ _ _ => hk b o q, fun b o q _ _ _ => ⟨o.slots, hk b o q⟩, fun b o q m _ => ?_, fun b o q _ => ⟨o, hk b o q⟩, fun b l q => kp b _ q, fun b o u q => kp b _ q, fun b l q => ⟨#[], by rw [kp b _ q]; simp⟩⟩ (fun b u q => ?_) J.bare fun b z => by simp at z
  · obtain ⟨z1, z2⟩ := low b o q
    rw [off b z1 z2]
    exact m
  · by_cases hb : b ∈ as
    · obtain ⟨j, hj⟩ := List.getElem?_of_mem hb
      obtain ⟨x, y, e1, e2, e3⟩ := hg j b hj
      have hlt := (List.getElem?_eq_some_iff.mp hj).1
      have l1 := rv1.length
      have l2 := rv2.length
      have h1 : xs[j]? = some xs[j] := List.getElem?_eq_getElem (by omega)
      have h2 : ys[j]? = some ys[j] := List.getElem?_eq_getElem (by omega)
      rw [at_ j b _ _ hj h1 h2] at q
      cases q
      obtain ⟨u1, f1, r1⟩ := rv1.get h1
      obtain ⟨u2, f2, r2⟩ := rv2.get h2
      rw [e1] at f1
      rw [e2] at f2
      cases f1
      cases f2
      exact ⟨by show 2 ≤ sizeLine; decide, [x, y], .cons r1 (.cons r2 .nil), ⟨_, e3, rfl, _, rfl⟩⟩
    · by_cases hb2 : b = L
      · subst hb2
        rw [eL] at q
        cases q
        refine ⟨by rw [List.length_map, hl]; exact hz, acc.toList, c, ?_, ?_⟩
        · rw [ha]
          clear hl ha nd hN hg nL fr off low kp eL at_ hb
          induction as with
          | nil => exact .nil
          | cons a as ih => exact .cons rfl ih
        · rw [Array.toArray_toList]
          exact hL
      · rw [off b hb hb2] at q
        exact (J.hok b u q).stay (fun d v _ y => hk d v y) (fun d y => kp d _ y) fun d l y => kp d _ y
end
section
variable {prog : Program} {w : World} {A : Around} {E : Value → Shared → Prop} {s : Shared} {Z TI TO i1 i2 : Addr} {fp1 fp2 : List Addr} {n1 n2 : Nat} {P1 P2 : Nat → Value → Prop} {St1 St2 : Nat → Heap → Prop}
theorem zl_extend {R : Result → Shared → Prop} (S : ZipSep2 Z TI TO i1 i2 fp1 fp2) (D1 : Draws prog w A.in1.in1 i1 fp1 n1 P1 St1) (D2 : Draws prog w A.in1.in1 i2 fp2 n2 P2 St2) (L : Addr) (hLZ : L ≠ Z) (hLI : TI ≠ L) (hLO : L ≠ TO) (hL1 : L ∉ fp1) (hL2 : L ∉ fp2) (res : Value) {n : Nat} (hn1 : n ≤ n1) (hn2 : n ≤ n2) (hend : n = n1 ∨ n = n2) (hns : n ≤ sizeLine) (h0 : Heap) (N c0 : Nat)
    (hz : IsZip s.heap Z TI TO .none) (hTI : IsTupOf2 s.heap TI (.ref i1) (.ref i2)) (hTO : IsTupOf2 s.heap TO .none .none) (st1 : St1 0 s.heap) (st2 : St2 0 s.heap) (hL : s.heap.get? L = some { cls := .type "list", data := .seq #[] c0 }) (hN : N ≤ s.heap.objs.size)
    (hold : ∀ b o, b ≠ Z → b ≠ TO → b ≠ i1 → b ≠ i2 → b ≠ L → h0.get? b = some o → s.heap.get? b = some o)
    (hR : ∀ h' tk acc' c', (∀ b o, b ≠ Z → b ≠ TO → b ≠ i1 → b ≠ i2 → b ≠ L → h0.get? b = some o → h'.get? b = some o) → h'.get? L = some { cls := .type "list", dict := none, data := .seq acc' c', slots := #[] } → ZGot P1 P2 N Z TO i1 i2 L h' acc' n → R (.ok (.ret res)) { s with heap := h', toks := tk }) :
    wpAny (model prog w) A.in1 (Builtin.List.listExtendWith (.ref L) (.ref Z) res)
      (fun fin s' => match fin with | .done f => R (.ok f) s' | .again c' => c'.quiet = true ∧ codeAny (model prog w) A c' R s') (fun e s' => R (.error e) s') s := by
  have ty : s.TypeIs (.ref Z) "zip" := ⟨_, hz, rfl⟩
  unfold Builtin.List.listExtendWith
  refine wpAny_bind (wpAny_typeOf ty ?_)
  have h1 : Builtin.List.listSameRef (.ref L) (.ref Z) = false := by simp [Builtin.List.listSameRef, hLZ]
  have h2 : (Value.type "zip" == Value.type "list") = false := by decide
  have h3 : (Value.type "zip" == Value.type "tuple") = false := by decide
  simp only [h1, h2, h3, Bool.or_false, Bool.false_eq_true, if_false]
  refine wpAny_bind (wpAny_pyIter_zip hz (wpAny_bind (wpAny_holding ?_)))
  unfold Builtin.List.listLengthHint
  refine wpAny_bind (wpAny_specialOf ty zip_no_len ?_)
  show wpAny _ A.in1 (specialOf (Value.ref Z) (Str.ofString "__length_hint__") >>= _) _ _ _
  refine wpAny_bind (wpAny_specialOf ty zip_no_hint (wpAny_pure ?_))
  show wpAny _ A.in1 (rule "list.extend.makes-room" >>= fun _ => Builtin.List.listTouch (.ref L) >>= fun _ => again (.builtin "list.extend.loop" ⟨[.ref L, .ref Z, res], []⟩)) _ _ _
  refine wpAny_bind (wpAny_rule (wpAny_bind ?_))
  show wpAny _ A.in1 (updateSeq L (·.push .none) >>= fun _ => updateSeq L (·.pop)) _ _ _
  refine wpAny_bind (wpAny_updateSeq hL rfl ?_)
  have hb := Heap.get?_update_self (Obj.mapSeq (·.push Value.none)) hL rfl
  refine wpAny_updateSeq (hz := by seq_fits) hb rfl ?_
  have hc := Heap.get?_update_self (Obj.mapSeq (·.pop)) hb rfl
  have oth : ∀ b o, b ≠ L → s.heap.get? b = some o → ((s.heap.update L (Obj.mapSeq (·.push Value.none))).update L (Obj.mapSeq (·.pop))).get? b = some o :=
    fun b o hb e => (Heap.get?_update_other _ _ (Ne.symm hb)).trans ((Heap.get?_update_other _ _ (Ne.symm hb)).trans e)
  refine wpAny_pure ⟨plainId_quiet F.plain_extend_loop _, zl_loop S D1 D2 L hLZ hLI hLO hL1 hL2 res hn1 hn2 hend hns h0 N n 0 _ _ _ rfl (Nat.zero_le _) ⟨oth _ _ hLI hTI, ?_, ?_, ?_, .inl ⟨oth _ _ (Ne.symm hLZ) hz, _, _, oth _ _ (Ne.symm hLO) hTO⟩⟩ hc ⟨rfl, fun j k hj => absurd hj (Nat.not_lt_zero _), fun j hj => absurd hj (Nat.not_lt_zero _)⟩ ?_ (fun b o b1 b2 b3 b4 b5 e => oth b o b5 (hold b o b1 b2 b3 b4 b5 e)) fun h' tk acc' c' a b d => hR h' tk acc' c' a b d⟩
  · show TO < ((s.heap.update L _).update L _).objs.size
    rw [Heap.size_update, Heap.size_update]
    exact Heap.lt_size hTO
  · exact D1.frame _ _ _ st1 fun b hb o e => oth b o (fun q => hL1 (q ▸ hb)) e
  · exact D2.frame _ _ _ st2 fun b hb o e => oth b o (fun q => hL2 (q ▸ hb)) e
  · show N ≤ ((s.heap.update L _).update L _).objs.size
    rw [Heap.size_update, Heap.size_update]
    exact hN
end
end Lk
set_option maxHeartbeats 1000000
namespace Lk
open PySem PySem.Spec PyProof.Rows L2
open Evl (Ex)
open C8 (Cal pe_c Mak pe_mk)
section
variable {prog : Program} {w : World} {A : Around} {E : Value → Shared → Prop} {s : Shared} {Z TI TO i1 i2 : Addr} {fp1 fp2 : List Addr} {n1 n2 : Nat} {P1 P2 : Nat → Value → Prop} {St1 St2 : Nat → Heap → Prop}
theorem zl_call {Q : Value → Shared → Prop} (S : ZipSep2 Z TI TO i1 i2 fp1 fp2) (D1 : Draws prog w A.in1.in1.in1 i1 fp1 n1 P1 St1) (D2 : Draws prog w A.in1.in1.in1 i2 fp2 n2 P2 St2) {n : Nat} (hn1 : n ≤ n1) (hn2 : n ≤ n2) (hend : n = n1 ∨ n = n2) (hns : n ≤ sizeLine) (h0 : Heap)
    (hz : IsZip s.heap Z TI TO .none) (hTI : IsTupOf2 s.heap TI (.ref i1) (.ref i2)) (hTO : IsTupOf2 s.heap TO .none .none) (st1 : St1 0 s.heap) (st2 : St2 0 s.heap) (hf1 : ∀ b ∈ fp1, b < s.heap.objs.size) (hf2 : ∀ b ∈ fp2, b < s.heap.objs.size)
    (hold : ∀ b o, h0.get? b = some o → s.heap.get? b = some o) (N : Nat) (hN : N ≤ s.heap.objs.size)
    (hq : ∀ h' tk acc' c', (∀ b o, b ≠ Z → b ≠ TO → b ≠ i1 → b ≠ i2 → b ≠ s.heap.objs.size → h0.get? b = some o → h'.get? b = some o) → h'.get? s.heap.objs.size = some { cls := .type "list", dict := none, data := .seq acc' c', slots := #[] } → ZGot P1 P2 N Z TO i1 i2 s.heap.objs.size h' acc' n → Q (.ref s.heap.objs.size) { s with heap := h', toks := tk }) :
    wpAny (model prog w) A (call (.type "list") [.ref Z]) Q E s := by
  have lt : ∀ {c o}, s.heap.get? c = some o → s.heap.objs.size ≠ c := fun e => Nat.ne_of_gt (Heap.lt_size e)
  have hL1 : s.heap.objs.size ∉ fp1 := fun z => Nat.lt_irrefl _ (hf1 _ z)
  have hL2 : s.heap.objs.size ∉ fp2 := fun z => Nat.lt_irrefl _ (hf2 _ z)
  refine callType_codes (Q₁ := fun ob t => ob = .ref s.heap.objs.size ∧ t = { s with heap := s.heap.push { cls := .type "list", data := .seq #[] } }) PySem.F.called_list (PySem.F.typeCall_list_1 _) PySem.F.entry_list_init
    (code_list_new _ ⟨rfl, rfl⟩) fun ob t ht => ?_
  obtain ⟨rfl, rfl⟩ := ht
  have hS : (s.heap.push { cls := .type "list", data := .seq #[] }).get? s.heap.objs.size = some { cls := .type "list", data := .seq #[] } := Heap.get?_push_size _ rfl
  refine ⟨⟨_, hS, rfl⟩, PySem.F.args_list_init_2 _ _, ?_⟩
  show wpAny _ _ (do let old ← Builtin.List.listItems (.ref s.heap.objs.size); Builtin.List.listUpdate (.ref s.heap.objs.size) (fun _ => #[]); letGo old.toList.reverse; Builtin.List.listExtendWith (.ref s.heap.objs.size) (.ref Z) .none) _ _ _
  refine wpAny_bind ?_
  unfold Builtin.List.listItems
  refine wpAny_bind (wpAny_seqItems hS rfl (wpAny_pure ?_))
  show wpAny _ _ (updateSeq s.heap.objs.size (fun _ => #[]) >>= fun _ => letGo (#[] : Array Value).toList.reverse >>= fun _ => Builtin.List.listExtendWith (.ref s.heap.objs.size) (.ref Z) .none) _ _ _
  refine wpAny_bind (wpAny_updateSeq hS rfl ?_)
  have hb := Heap.get?_update_self (Obj.mapSeq (fun _ => (#[] : Array Value))) hS rfl
  have oth : ∀ b o, s.heap.get? b = some o → ((s.heap.push { cls := .type "list", data := .seq #[] }).update s.heap.objs.size (Obj.mapSeq (fun _ => (#[] : Array Value)))).get? b = some o :=
    fun b o e => (Heap.get?_update_other _ _ (lt e)).trans (Heap.get?_push_of_some _ e)
  refine wpAny_bind (wpAny_letGo ?_)
  refine zl_extend (A := A.in1) S D1 D2 s.heap.objs.size (lt hz) (Ne.symm (lt hTI)) (lt hTO) hL1 hL2 .none hn1 hn2 hend hns h0 N _ (oth _ _ hz) (oth _ _ hTI) (oth _ _ hTO) (D1.frame _ _ _ st1 fun b _ o e => oth b o e) (D2.frame _ _ _ st2 fun b _ o e => oth b o e) hb ?_ (fun b o _ _ _ _ _ e => oth b o (hold b o e)) fun h' tk acc' c' a b d => ?_
  · show N ≤ ((s.heap.push _).update _ _).objs.size
    rw [Heap.size_update, Heap.size_push]
    omega
  · exact ⟨rfl, hq h' tk acc' c' a b d⟩
end
section
variable {X : Cx}
theorem ne_two {z a b : Nat} (h1 : z ≠ a) (h2 : z ≠ b) : z ∉ [a, b] := by
  simp only [List.mem_cons, List.not_mem_nil, or_false, not_or]
  exact ⟨h1, h2⟩
theorem sep_nat (z fa fb : Nat) (h1 : fa < z) (h2 : fb < z) : ZipSep2 (z + 4) (z + 2) (z + 3) z (z + 1) [z, fa] [z + 1, fb] where
  TIz := by show ¬ (z + 2 : Nat) = z + 4; omega
  TOz := by show ¬ (z + 3 : Nat) = z + 4; omega
  TITO := by show ¬ (z + 2 : Nat) = z + 3; omega
  TIi1 := by show ¬ (z + 2 : Nat) = z; omega
  mem1 := List.mem_cons_self ..
  zf1 := ne_two (by omega) (by omega)
  Tf1 := ne_two (by omega) (by omega)
  TIi2 := by show ¬ (z + 2 : Nat) = z + 1; omega
  mem2 := List.mem_cons_self ..
  zf2 := ne_two (by omega) (by omega)
  Tf2 := ne_two (by omega) (by omega)
  sep1_2 := ne_two (by omega) (by omega)
  sep2_1 := ne_two (by omega) (by omega)
theorem pe_listZip {a b : Expr} {ta : TA} {p p2 pos pos2 : Pos} (hc : X.calm = true) (g1 : Gl X "list") (m1 : X.mg "list" = none) (g2 : Gl X "zip") (m2 : X.mg "zip" = none) (ha : PA X [a, b] ta)
    (hs : starEach [a, b] X.env = (false, eval a X.env) :: starEach [b] X.env := by rfl) (hpl : (backTo pos2 (starEach [b] X.env)).any (·.1) = false := by rfl)
    (na : starEach [.Call (.Name "zip" p2) [a, b] [] pos2] X.env = (false, eval (.Call (.Name "zip" p2) [a, b] [] pos2) X.env) :: starEach [] X.env := by rfl) :
    PE X (.Call (.Name "list" p) [.Call (.Name "zip" p2) [a, b] [] pos2] [] pos) (tListZip X.K ta) := by
  refine ⟨fun pins s σ H Q J hw => Call_ (ld_blt J g1 m1 boot_list (PyProof.Rows.callWith_type1 (args_cons (Call_ (ld_blt J g2 m2 PyProof.Rows.boot_zip (PyProof.Rows.callWith_type1 (thn (ha.run pos2 pins s σ H _ J hw) fun us s1 hv => ?_) hs hpl))) na) na))⟩
  obtain ⟨vs, H1, J1, r1, l1, l2, xs, ys, rfl, hq, q⟩ := hv
  obtain ⟨u1, u2, rfl, r1, r2⟩ := vals2 r1
  cases r1
  cases r2
  have hd := J1.ok.hd hc
  have sep : ∀ (fa fb : Addr), fa < s1.heap.objs.size → fb < s1.heap.objs.size → ZipSep2 (s1.heap.objs.size + 4) (s1.heap.objs.size + 2) (s1.heap.objs.size + 3) s1.heap.objs.size (s1.heap.objs.size + 1) [s1.heap.objs.size, fa] [s1.heap.objs.size + 1, fb] := fun fa fb h1 h2 => sep_nat s1.heap.objs.size fa fb h1 h2
  -- what is drawn from the two iterators
  have main : ∀ (its1 its2 : List Value) (o1 o2 : Obj) (HH1 HH2 : Heap → Prop) (St1 St2 : Nat → Heap → Prop), Vals xs its1 → Vals ys its2 → its1.length ≤ sizeLine → Begins (.ref l1) o1 HH1 → Begins (.ref l2) o2 HH2 → HH1 s1.heap → HH2 s1.heap → l1 < s1.heap.objs.size → l2 < s1.heap.objs.size →
      (∀ A : Around, A.handled = none → Draws X.prog X.w A s1.heap.objs.size [s1.heap.objs.size, l1] its1.length (fun i v => its1[i]? = some v) St1) → (∀ A : Around, A.handled = none → Draws X.prog X.w A (s1.heap.objs.size + 1) [s1.heap.objs.size + 1, l2] its2.length (fun i v => its2[i]? = some v) St2) →
      (∀ h', h'.get? s1.heap.objs.size = some o1 → (∀ c o, s1.heap.get? c = some o → h'.get? c = some o) → St1 0 h') → (∀ h', h'.get? (s1.heap.objs.size + 1) = some o2 → (∀ c o, s1.heap.get? c = some o → h'.get? c = some o) → St2 0 h') →
      wpAny (model X.prog X.w) X.A (call (.type "zip") [.ref l1, .ref l2]) (fun v s2 => wpAny (model X.prog X.w) X.A (call (.type "list") [v]) (EP X pins σ Q) X.xe s2) X.xe s1 := by
    intro its1 its2 o1 o2 HH1 HH2 St1 St2 rv1 rv2 hz B1 B2 hh1 hh2 lt1 lt2 D1 D2 b1 b2
    refine zip_begins2 B1 B2 hh1 hh2 fun h' z1 z2 z3 z4 z5 zs hk => ?_
    have S := sep l1 l2 lt1 lt2
    have hls : ∀ b, b < s1.heap.objs.size + 5 → b < h'.objs.size := fun b hb => by rw [zs]; exact hb
    refine zl_call (s := { s1 with heap := h' }) S (D1 _ hd) (D2 _ hd) (n := min its1.length its2.length) (Nat.min_le_left _ _) (Nat.min_le_right _ _) (by rcases Nat.le_total its1.length its2.length with h | h; exact .inl (Nat.min_eq_left h); exact .inr (Nat.min_eq_right h)) (Nat.le_trans (Nat.min_le_left _ _) hz) s1.heap z1 z2 z3 (b1 h' z4 hk) (b2 h' z5 hk) (fun b hb => ?_) (fun b hb => ?_) hk s1.heap.objs.size (by show s1.heap.objs.size ≤ h'.objs.size; rw [zs]; exact Nat.le_add_right _ _) fun h2 tk acc c a1 a2 a3 => ?_
    · simp only [List.mem_cons, List.not_mem_nil, or_false] at hb
      rcases hb with rfl | rfl
      · exact hls _ (Nat.lt_add_of_pos_right (by decide))
      · exact hls _ (Nat.lt_of_lt_of_le lt1 (Nat.le_add_right _ _))
    · simp only [List.mem_cons, List.not_mem_nil, or_false] at hb
      rcases hb with rfl | rfl
      · exact hls _ (Nat.add_lt_add_left (by decide) _)
      · exact hls _ (Nat.lt_of_lt_of_le lt2 (Nat.le_add_right _ _))
    · obtain ⟨as, k1, k2, k3, k4, k5⟩ := got_refs a3
      have e1 := rv1.length
      have e2 := rv2.length
      have hsz : s1.heap.objs.size ≤ h'.objs.size := by
        rw [zs]
        exact Nat.le_add_right _ _
      have keep : ∀ b o, s1.heap.get? b = some o → h2.get? b = some o := fun b o e => by
        have hlt : (b : Nat) < (s1.heap.objs.size : Nat) := Heap.lt_size e
        refine a1 b o ?_ ?_ ?_ ?_ ?_ e
        · exact Nat.ne_of_lt (Nat.lt_of_lt_of_le hlt (Nat.le_add_right _ _))
        · exact Nat.ne_of_lt (Nat.lt_of_lt_of_le hlt (Nat.le_add_right _ _))
        · exact Nat.ne_of_lt hlt
        · exact Nat.ne_of_lt (Nat.lt_of_lt_of_le hlt (Nat.le_add_right _ _))
        · exact Nat.ne_of_lt (Nat.lt_of_lt_of_le hlt hsz)
      obtain ⟨H', m1, m2, m3, m4, m5, m6, J'⟩ := zip_laid (tk := tk) J1 rv1 rv2 (n := min its1.length its2.length) (by rw [e1, e2]) (Nat.le_trans (Nat.min_le_left _ _) hz) keep hsz a2 k1 k2 k3 k4 fun j t hj => k5 j t hj
      exact ⟨.ref h'.objs.size, H', J', rfl, q H' _ as m1 m2 m3 m4 m5 (by rw [k1, e1, e2]) m6⟩
  have fin : wpAny (model X.prog X.w) X.A (call (.type "zip") [.ref l1, .ref l2]) (fun v s2 => wpAny (model X.prog X.w) X.A (call (.type "list") [v]) (EP X pins σ Q) X.xe s2) X.xe s1 := by
    rcases hq with ⟨q1, q2⟩ | ⟨q1, q2⟩
    · obtain ⟨its1, rv1, t1, hz1⟩ := J1.list q1
      obtain ⟨its2, rv2, t2, hz2⟩ := J1.list q2
      have lt1 : l1 < s1.heap.objs.size := let ⟨_, e, _⟩ := t1.isList; Heap.lt_size e
      have lt2 : l2 < s1.heap.objs.size := let ⟨_, e, _⟩ := t2.isList; Heap.lt_size e
      have e1 := rv1.length
      refine main its1 its2 _ _ _ _ (fun i h => h.IsListIter s1.heap.objs.size l1 i ∧ h.IsList l1 its1.toArray) (fun i h => h.IsListIter (s1.heap.objs.size + 1) l2 i ∧ h.IsList l2 its2.toArray) rv1 rv2 (by rw [← e1]; exact hz1) (begins_list l1 its1.toArray) (begins_list l2 its2.toArray) t1.isList t2.isList lt1 lt2 (fun A hA => ?_) (fun A hA => ?_) (fun h' e k => ⟨⟨_, e, rfl, rfl⟩, t1.isList.at fun o x => k _ o x⟩) fun h' e k => ⟨⟨_, e, rfl, rfl⟩, t2.isList.at fun o x => k _ o x⟩
      · have D := Draws.list (prog := X.prog) (w := X.w) hA s1.heap.objs.size l1 (Nat.ne_of_lt lt1) its1.toArray
        simpa using D
      · have D := Draws.list (prog := X.prog) (w := X.w) hA (s1.heap.objs.size + 1) l2 (Nat.ne_of_lt (Nat.lt_succ_of_lt lt2)) its2.toArray
        simpa using D
    · obtain ⟨its1, rv1, t1, hz1⟩ := J1.tuple q1
      obtain ⟨its2, rv2, t2, hz2⟩ := J1.tuple q2
      have lt1 : l1 < s1.heap.objs.size := t1.lt
      have lt2 : l2 < s1.heap.objs.size := t2.lt
      have t1' : s1.heap.IsTuple l1 its1.toArray := t1
      have t2' : s1.heap.IsTuple l2 its2.toArray := t2
      have e1 := rv1.length
      refine main its1 its2 _ _ _ _ (fun i h => h.IsTupleIter s1.heap.objs.size l1 i ∧ h.IsTuple l1 its1.toArray) (fun i h => h.IsTupleIter (s1.heap.objs.size + 1) l2 i ∧ h.IsTuple l2 its2.toArray) rv1 rv2 (by rw [← e1]; exact hz1) (begins_tuple l1 its1.toArray) (begins_tuple l2 its2.toArray) t1' t2' lt1 lt2 (fun A hA => ?_) (fun A hA => ?_) (fun h' e k => ⟨⟨_, e, rfl, rfl⟩, t1'.at fun o x => k _ o x⟩) fun h' e k => ⟨⟨_, e, rfl, rfl⟩, t2'.at fun o x => k _ o x⟩
      · have D := Draws.tuple (prog := X.prog) (w := X.w) hA s1.heap.objs.size l1 (Nat.ne_of_lt lt1) its1.toArray
        simpa using D
      · have D := Draws.tuple (prog := X.prog) (w := X.w) hA (s1.heap.objs.size + 1) l2 (Nat.ne_of_lt (Nat.lt_succ_of_lt lt2)) its2.toArray
        simpa using D
  exact thn fin fun v s2 hv => args_nil hv
end
end Lk
set_option maxHeartbeats 1000000
namespace Lk
open PySem PySem.Spec PyProof.Rows L2
open Evl (Ex)
open C8 (Cal pe_c Mak pe_mk)
def rNotInTD (K : PySem.W.Frag) : R2 := fun x y H Q => ∃ d ds, Dp K H x d ∧ Dp K H y (.tuple ds) ∧ SeqAt.shaped d = true ∧ SeqAt.shaped (.tuple ds) = true ∧ Q (.bl (!ds.any fun z => PyData.eqv z d)) H
theorem op_notInTD {X : Cx} (hu : X.A.units + 65 < cLine) : OpR X (compareOp .NotIn) (rNotInTD X.K) := by
  intro pins s σ H x y v u Q J rx ry hh
  obtain ⟨d, ds, hd, he, sd, se, q⟩ := hh
  obtain ⟨as, q1⟩ := Dp.reads J d x v hd rx
  obtain ⟨bs, q2⟩ := Dp.reads J (.tuple ds) y u he ry
  exact SeqAt.notIn_tuple_reads q2 q1 (SeqAt.canLay_of_shaped se) (SeqAt.canLay_of_shaped sd) (room_in_shaped sd hu) ⟨.bl _, H, J, rfl, q⟩
theorem eqv_pr (p q : Int × Int) : PyData.eqv (py (prD p)) (py (prD q)) = decide (p = q) := by
  have := eqv_tups [p.1, p.2] [q.1, q.2]
  have e : ∀ r : Int × Int, prD r = .tup ([r.1, r.2].map D.int) := fun _ => rfl
  rw [e, e, this, Bool.eq_iff_iff, decide_eq_true_eq, decide_eq_true_eq]
  constructor
  · intro h
    simp only [List.cons.injEq, and_true] at h
    exact Prod.ext h.1 h.2
  · rintro rfl
    rfl
theorem any_pr (p : Int × Int) (qs : List (Int × Int)) : ((pyAll (qs.map prD)).any fun z => PyData.eqv z (py (prD p))) = decide (p ∈ qs) := by
  rw [pyAll_map, List.any_map, Bool.eq_iff_iff, List.any_eq_true, decide_eq_true_eq]
  constructor
  · rintro ⟨q, hq, h⟩
    have := of_decide_eq_true ((eqv_pr q p).symm.trans h)
    rw [← this]
    exact hq
  · intro h
    exact ⟨p, h, (eqv_pr p p).trans (decide_eq_true rfl)⟩
theorem pln_pr (p : Int × Int) : pln (prD p) = true := pln_tupI [p.1, p.2]
theorem dep_pr (p : Int × Int) : (py (prD p)).depth ≤ 64 := depth_tupI [p.1, p.2]
theorem dep_prs (qs : List (Int × Int)) : PyData.depthAll (pyAll (qs.map prD)) ≤ 63 := by
  refine depthAll_le fun x hx => ?_
  rw [pyAll_map] at hx
  obtain ⟨q, _, rfl⟩ := List.mem_map.mp hx
  have e : py (prD q) = .tuple ([q.1, q.2].map PyData.int) := by
    show py (.tup ([q.1, q.2].map D.int)) = _
    rw [py, pyAll_ints]
  rw [e, PyData.depth, depth_ints]
  decide
section
variable {K : PySem.W.Frag} {Γ Γ' Γ1 Γ2 Γw : Ctx} {ta tb te tc : TE} {tt tu : TT} {d e d1 d2 : D} {ds es : List D} {t u w : TS}
theorem de_notInPL {p : Int × Int} {qs : List (Int × Int)} (ha : DE K ta Γ (prD p)) (hb : DE K tb Γ (.lst (qs.map prD))) : DE K (tOp (rNotInD K) ta tb) Γ (.bl (!decide (p ∈ qs))) :=
  de_notInD ha hb (pln_pr p) (plnAll_map pln_pr qs) (dep_pr p) (dep_prs qs) (by rw [any_pr])
theorem de_notInPT {p : Int × Int} {qs : List (Int × Int)} (ha : DE K ta Γ (prD p)) (hb : DE K tb Γ (.tup (qs.map prD))) : DE K (tOp (rNotInTD K) ta tb) Γ (.bl (!decide (p ∈ qs))) := fun F H σ E Q q =>
  ha F H σ E _ fun v H1 e1 i1 => hb F H1 σ (E.mono e1) _ fun u H2 e2 i2 => by
    have p3 : pln (D.tup (qs.map prD)) = true := by unfold pln; exact plnAll_map pln_pr qs
    have e3 : py (.tup (qs.map prD)) = .tuple (pyAll (qs.map prD)) := by rw [py]
    have z := (i2.mono hid_le).dp p3
    rw [e3] at z
    refine ⟨py (prD p), pyAll (qs.map prD), ((i1.mono (hid_mono e2)).mono hid_le).dp (pln_pr p), z, shaped_of (pln_pr p) (dep_pr p), ?_, q _ H2 (e1.trans e2) (by rw [any_pr]; exact .bl _)⟩
    rw [← e3]
    refine shaped_of p3 ?_
    rw [e3]
    unfold PyData.depth
    have := dep_prs qs
    omega
/-- list(zip(a, b)) -/
theorem dn_zip0 {H1 H' : Hp} {F : Fx} {σ : L2.St} {xs ys : List V} {p : Addr} {as : List Addr} (E : Env K F H1 σ Γ) (a1 : IsAll K (hid (hotOf F Γ) H1) xs ds) (a2 : IsAll K (hid (hotOf F Γ) H1) ys es) (ex : Ex H1 H') (hp : H1 p = none) (ha : ∀ t ∈ as, H1 t = none) (np : p ∉ as) (hl : as.length = min xs.length ys.length)
    (hg : ∀ (j : Nat) (t : Addr) (x y : V), as[j]? = some t → xs[j]? = some x → ys[j]? = some y → H' t = some (.tup [x, y])) : IsAll K (hid (p :: hotOf F Γ) H') (as.map V.ref) (zipD ds es) := by
  have e0 : Ex (hid (hotOf F Γ) H1) (hid (p :: hotOf F Γ) H') := ex_new2 hp ex
  induction as generalizing xs ys ds es with
  | nil =>
    have hz : zipD ds es = [] := by
      refine List.eq_nil_of_length_eq_zero ?_
      rw [zipD_length, ← a1.length, ← a2.length, ← hl]
      rfl
    rw [hz]
    exact .nil
  | cons a as ih =>
    cases a1 with
    | nil => simp at hl
    | @cons x xs d ds ix a1 =>
      cases a2 with
      | nil => simp at hl
      | @cons y ys e es iy a2 =>
        have hT : H' a = some (.tup [x, y]) := hg 0 a x y rfl rfl rfl
        have na : a ∉ p :: hotOf F Γ := by
          rw [List.mem_cons, not_or]
          exact ⟨fun z => np (by rw [z]; exact List.mem_cons_self ..), E.new (ha a (List.mem_cons_self ..))⟩
        refine .cons (.tup (SqT.of (by rw [hid_out na]; exact hT)) (.cons (ix.mono e0) (.cons (iy.mono e0) .nil))) ?_
        refine ih a1 a2 (fun t ht => ha t (List.mem_cons_of_mem _ ht)) (fun z => np (List.mem_cons_of_mem _ z)) ?_ fun j t x y h1 h2 h3 => hg (j + 1) t x y (by simpa using h1) (by simpa using h2) (by simpa using h3)
        rw [List.length_cons, List.length_cons, List.length_cons] at hl
        omega
theorem dn_zipT (h1 : DU K ta Γ ds) (h2 : DU K tb Γ es) : DN K (tListZip K (tCons ta (tCons tb tNil))) Γ (zipD ds es) := fun F H σ E Q q =>
  h1 F H σ E _ fun a xs H1 e1 s1 a1 => h2 F H1 σ (E.mono e1) _ fun b ys H2 e2 s2 a2 => by
    have s1' := Evl.ex_t (hid_mono e2) s1
    have a1' := a1.mono (hid_mono (l := hotOf F Γ) e2)
    refine ⟨a, b, xs, ys, rfl, .inr ⟨Evl.ex_t hid_le s1', Evl.ex_t hid_le s2⟩, fun H' p as ex hp ha np hL hl hg => ?_⟩
    exact q p _ H' (Evl.fresh_back (e1.trans e2) hp) ((e1.trans e2).trans ex) hL (dn_zip0 (E.mono (e1.trans e2)) a1' a2 ex hp ha np hl hg)
theorem dn_zipL (h1 : DE K ta Γ (.lst ds)) (h2 : DE K tb Γ (.lst es)) : DN K (tListZip K (tCons ta (tCons tb tNil))) Γ (zipD ds es) := fun F H σ E Q q =>
  h1 F H σ E _ fun v H1 e1 i1 => h2 F H1 σ (E.mono e1) _ fun v' H2 e2 i2 => by
    have i1 := i1.mono (hid_mono e2)
    cases i1 with
    | @lst a xs _ s1 a1 =>
      cases i2 with
      | @lst b ys _ s2 a2 =>
        refine ⟨a, b, xs, ys, rfl, .inl ⟨Evl.ex_l hid_le s1, Evl.ex_l hid_le s2⟩, fun H' p as ex hp ha np hL hl hg => ?_⟩
        exact q p _ H' (Evl.fresh_back (e1.trans e2) hp) ((e1.trans e2).trans ex) hL (dn_zip0 (E.mono (e1.trans e2)) a1 a2 ex hp ha np hl hg)
theorem dnd_dictP {ps : List (Int × Int)} (h : DL K ta Γ (ps.map prD)) (nd : (ps.map (·.1)).Nodup) : DND K (tCB (rDictP K) (tCons ta tNil)) Γ (ps.map (·.1)) (ps.map fun p => D.int p.2) := fun F H σ E Q q => h F H σ E _ fun a xs H1 e1 s1 a1 => by
  obtain ⟨as, rfl, pr⟩ := pairs_refs a1
  refine ⟨a, as, _, rfl, s1, paired_ex hid_le pr, fun b hb => ?_⟩
  rw [merge_all nd]
  refine q b (ps.map fun p => V.int p.2) _ (Evl.fresh_back e1 hb) (e1.trans (Ex.new hb)) upd_same (by rw [List.length_map, List.length_map]) ?_
  have e1 : (ps.map fun p => V.int p.2) = (ps.map (·.2)).map V.int := by rw [List.map_map] <;> rfl
  have e2 : (ps.map fun p => D.int p.2) = (ps.map (·.2)).map D.int := by rw [List.map_map] <;> rfl
  rw [e1, e2]
  exact IsAll.ofInts _
/-- x.extend(a new list) -/
theorem s_extend {i : Nat} {p : Addr} (h : Γ[i]? = some (.own p ds)) (he : DN K te Γ es) (hl : ds.length + es.length ≤ 16000000) : St K (tDrop (tBM K "list" rExtend (tVar i) (tCons te tNil))) Γ (Γ.set i (.own p (ds ++ es))) := fun F H σ Z E q => by
  obtain ⟨v, h1, rfl, xs, h2, h3⟩ := E.ent i _ h
  refine ⟨.ref p, h1, .inl ⟨rfl, xs, SqL.of h2⟩, he F H σ E _ fun b ys H' hb e hB ay => ?_⟩
  refine ⟨p, b, xs, ys, rfl, rfl, e p _ h2, hB, by rw [h3.length, ay.length]; exact line_of hl, q σ _ ?_⟩
  exact (E.mono e).updO (e' := .own p (ds ++ es)) h rfl rfl ⟨rfl, xs ++ ys, upd_same, (h3.mono (hid_mono e)).append (ay.mono (hid_sub fun z hz => List.mem_cons_of_mem _ hz))⟩
theorem de_dnotin {ks : List Int} {k : Int} (ha : DE K ta Γ (.int k)) (hb : DE K tb Γ (.dct ks ds)) : DE K (tDNotIn ta tb) Γ (.bl (!decide (k ∈ ks))) := fun F H σ E Q q =>
  ha F H σ E _ fun v H1 e1 i1 => hb F H1 σ (E.mono e1) _ fun u H2 e2 i2 => by
    cases i1
    cases i2 with
    | @dct a _ vs _ h1 h2 h3 =>
      refine ⟨a, _, rfl, DGet.k (k := Sum.inl k) (hid_le a _ h1), q _ H2 (e1.trans e2) ?_⟩
      rw [dkv_some h2]
      exact .bl _
end
/-! ### the joined net, purely -/
def rhoJ (N1 N2 : NetM) (t : Int) : Int := if t ∈ N2.given then N1.kept.getD (N2.given.idxOf t) 0 else if t ∈ restL N2 then (N1.things : Int) + (((restL N2).idxOf t : Nat) : Int) else if 0 ≤ t then (N1.things : Int) + t else t
def joinS (N1 N2 : NetM) : List (Int × Int) := (N1.strings.filter fun p => !decide (p ∈ N2.strings.map (nrm (rhoJ N1 N2)))) ++ ((N2.strings.map (nrm (rhoJ N1 N2))).filter fun p => !decide (p ∈ N1.strings))
def joinT (ρ : Int → Int) (N1 N2 : NetM) : List (Int × Int) := N1.turns ++ N2.turns.map fun p => (ρ p.1, p.2)
def joinN (N1 N2 : NetM) : NetM := mkNet (N1.things + (N2.things - N2.given.length)) (joinS N1 N2) N1.given (N2.kept.map (rhoJ N1 N2)) (joinT (rhoJ N1 N2) N1 N2)
def rhoA (N1 : NetM) (t : Int) : Int := (N1.things : Int) + t
def asideS (N1 N2 : NetM) : List (Int × Int) := N1.strings ++ N2.strings.map (nrm (rhoA N1))
def asideN (N1 N2 : NetM) : NetM := mkNet (N1.things + N2.things) (asideS N1 N2) (N1.given ++ N2.given.map (rhoA N1)) (N1.kept ++ N2.kept.map (rhoA N1)) (joinT (rhoA N1) N1 N2)
def Rjoin : List D → D → Prop := fun ds d => ∃ N1 N2 : NetM, ds = [netD N1, netD N2] ∧ NetOk N1 ∧ NetOk N2 ∧ N1.kept.length = N2.given.length ∧ OkNet (N1.things + (N2.things - N2.given.length)) (joinS N1 N2) N1.given (N2.kept.map (rhoJ N1 N2)) (joinT (rhoJ N1 N2) N1 N2) ∧ d = netD (joinN N1 N2)
def Raside : List D → D → Prop := fun ds d => ∃ N1 N2 : NetM, ds = [netD N1, netD N2] ∧ NetOk N1 ∧ NetOk N2 ∧ OkNet (N1.things + N2.things) (asideS N1 N2) (N1.given ++ N2.given.map (rhoA N1)) (N1.kept ++ N2.kept.map (rhoA N1)) (joinT (rhoA N1) N1 N2) ∧ d = netD (asideN N1 N2)
theorem lookd_succ (i : Nat) (g : List Int) : lookd (i + 1) g = lookd i g ++ if (i : Int) ∈ g then [] else [(i : Int)] := by
  unfold lookd rng
  rw [List.range_succ, List.map_append, List.filter_append]
  congr 1
  by_cases h : (i : Int) ∈ g <;> simp [h]
theorem lookd_split {i n : Nat} (g : List Int) (h : i ≤ n) : ∃ r, lookd n g = lookd i g ++ r := by
  induction n with
  | zero =>
    have : i = 0 := by omega
    subst this
    exact ⟨[], by rw [List.append_nil]⟩
  | succ n ih =>
    by_cases hi : i = n + 1
    · subst hi
      exact ⟨[], by rw [List.append_nil]⟩
    · obtain ⟨r, hr⟩ := ih (by omega)
      exact ⟨r ++ if (n : Int) ∈ g then [] else [(n : Int)], by rw [lookd_succ, hr, List.append_assoc]⟩
theorem lookd_idx {i n : Nat} {g : List Int} (h : i < n) (hg : (i : Int) ∉ g) : (lookd n g).idxOf (i : Int) = (lookd i g).length := by
  obtain ⟨r, hr⟩ := lookd_split g (show i + 1 ≤ n from h)
  rw [lookd_succ, if_neg hg] at hr
  have h1 : (lookd n g)[(lookd i g).length]? = some (i : Int) := by
    rw [hr, List.append_assoc, List.getElem?_append_right (Nat.le_refl _), Nat.sub_self]
    rfl
  have hm : (i : Int) ∈ lookd n g := List.mem_of_getElem? h1
  exact nd_ix (lookd_nodup n g) (idx_first hm).1 h1
theorem turns_len {N : NetM} (h : NetOk N) : N.turns.length < 64 := by
  have h1 := h.t2.length_eq
  rw [List.length_map] at h1
  have := lookd_length N.things N.kept
  have := h.n2
  omega
theorem full_mem {N : NetM} (h : NetOk N) {t : Int} (ht : 0 ≤ t ∧ t < N.things) : t ∈ fullL N := (full_perm h).mem_iff.mpr (rng_mem.mpr ht)
section
variable {P : Program} {w : World} {K : PySem.W.Frag} {mg : Str → Option Value} {base : Heap} {f : Addr} {fd : FuncData}
abbrev N_aside_nets : List Str := ["one", "other", "things", "numbers", "given", "kept", "strings", "turns", "thing"]
theorem sc_aside_nets : FnScope N_aside_nets ["one", "other"] (defScope (top 44)) := ⟨rfl, rfl, rfl, by decide +kernel, rfl, by decide +kernel, by decide +kernel⟩
theorem c_aside_nets (F : FnP K "aside_nets" (top 44) f fd) (hf : mg "aside_nets" = some (.ref f)) (b : Bs K mg) (nf : NetF K) (q_need_net : Cal P w K mg base 1 "need_net" (spD K 2 RneedNet) []) (q_with_numbers : Cal P w K mg base 1 "with_numbers" (spD K 2 RwithL) []) (q_Net : QNet P w K mg base) : Cal P w K mg base 9 "aside_nets" (spD K 2 Raside) [] := by
  refine cal_of F hf (fn_dat F sc_aside_nets rfl fun cdv A outer s H E hr => ?_) fun _ _ _ _ _ _ us hl => match us, hl with | [_, _], _ => rfl
  have hu := room_u hr; have hu1 := room_u1 hr; have hu2 := room_u2 hr; have nd := (sc_aside_nets).nd
  refine ⟨_, (pss_cons (ps_expr (pe_c q_need_net hr (by decide) rfl (pa_cons (pv 0) (pa_cons pe_str pa_nil)))) (pss_cons (ps_expr (pe_c q_need_net hr (by decide) rfl (pa_cons (pv 1) (pa_cons pe_str pa_nil)))) (pss_cons (ps_set (i := 2) nd rfl (.inl rfl) (pe_op op_add (pe_fld (pv 0) rfl) (pe_fld (pv 1) rfl))) (pss_cons (ps_if (pt_cmpR op_gt (pv 2) (C8.pe_gc rfl (b.g_c_things)) (nomark _)) pss_never pss_nil) (pss_cons (ps_set (i := 3) nd rfl (.inr rfl) (pe_listRg rfl rfl b.b_list (prg_2 rfl b.b_range (pe_fld (pv 0) rfl) (pv 2)))) (pss_cons (ps_asg (pe_c q_with_numbers hr (by decide) rfl (pa_cons (pv 1) (pa_cons (pv 3) pa_nil))) (pg_tup rfl (pgs_cons (pg_name (i := 6) nd rfl (.inl rfl)) (pgs_cons (pg_name (i := 7) nd rfl (.inl rfl)) pgs_nil)))) (pss_cons (ps_set (i := 4) nd rfl (.inl rfl) (pe_lst (StX.pa_star (pe_fld (pv 0) rfl) (StX.pa_star (pe_lc (own := [("thing", 8)]) rfl nd (pi_tup (pe_fld (pv 1) rfl)) (blkOk_by (own := [("thing", 8)]) (N := N_aside_nets) (sc := defScope (top 44)) (by decide +kernel)) (fun _ _ _ _ _ => (pg_name (i := 8) nd rfl (.inl rfl))) (fun _ _ _ _ _ => pts_nil) (fun _ _ _ _ _ => (pe_ix (show IxR _ (rIxL K) from ix_list) (pv 3) (pv 8) (fun _ _ => rfl)))) pa_nil)))) (pss_cons (ps_set (i := 5) nd rfl (.inl rfl) (pe_lst (StX.pa_star (pe_fld (pv 0) rfl) (StX.pa_star (pe_lc (own := [("thing", 8)]) rfl nd (pi_tup (pe_fld (pv 1) rfl)) (blkOk_by (own := [("thing", 8)]) (N := N_aside_nets) (sc := defScope (top 44)) (by decide +kernel)) (fun _ _ _ _ _ => (pg_name (i := 8) nd rfl (.inl rfl))) (fun _ _ _ _ _ => pts_nil) (fun _ _ _ _ _ => (pe_ix (show IxR _ (rIxL K) from ix_list) (pv 3) (pv 8) (fun _ _ => rfl)))) pa_nil)))) (pss_one (ps_ret (pe_mk (q_Net) hr (by decide) rfl (pa_cons (pv 2) (pa_cons (pe_lst (StX.pa_star (pe_fld (pv 0) rfl) (StX.pa_star (pv 6) pa_nil))) (pa_cons (pv 4) (pa_cons (pv 5) (pa_cons (pe_lst (StX.pa_star (pe_fld (pv 0) rfl) (StX.pa_star (pv 7) pa_nil))) pa_nil)))))))))))))))), fun ds d _ hR => ?_⟩

  obtain ⟨N1, N2, rfl, ok1, ok2, hok, rfl⟩ := hR
  have h1 := ok1.n2
  have h2 := ok2.n2
  have gl2 := ok2.glen
  have kl2 := len_rng ok2.k1 ok2.k2
  have gl1 := ok1.glen
  have kl1 := len_rng ok1.k1 ok1.k2
  have ix : ∀ {t : Int}, 0 ≤ t ∧ t < N2.things → L2.atI ((rng N2.things).map fun t => (N1.things : Int) + t) t = some (rhoA N1 t) := fun {t} ht => by
    refine atI_nat (n := t.toNat) (by omega) ?_
    unfold rng rhoA
    rw [List.getElem?_map, List.getElem?_map, List.getElem?_range (by omega)]
    show some ((N1.things : Int) + ((t.toNat : Nat) : Int)) = _
    rw [Int.toNat_of_nonneg ht.1]
  have ixD : ∀ {t : Int}, 0 ≤ t ∧ t < N2.things → L2.atI (((rng N2.things).map fun t => (N1.things : Int) + t).map D.int) t = some (.int (rhoA N1 t)) := fun {t} ht => by
    refine atI_nat (n := t.toNat) (by omega) ?_
    unfold rng rhoA
    rw [List.getElem?_map, List.getElem?_map, List.getElem?_map, List.getElem?_range (by omega)]
    show some (D.int ((N1.things : Int) + ((t.toNat : Nat) : Int))) = _
    rw [Int.toNat_of_nonneg ht.1]
  have sp : ∀ p ∈ N2.strings, (0 ≤ p.1 ∧ p.1 < N2.things) ∧ (0 ≤ p.2 ∧ p.2 < N2.things) := fun p hp => by
    have := ok2.s1 p hp
    unfold OkP at this
    omega
  have tp : ∀ p ∈ N2.turns, 0 ≤ p.1 ∧ p.1 < N2.things := fun p hp => (lookd_mem.mp (ok2.t2.mem_iff.mp (List.mem_map.mpr ⟨p, hp, rfl⟩))).1
  have l1 := turns_len ok1
  have l2 := turns_len ok2
  refine b_seq (s_drop (de_call (da_cons (de_var rfl) (da_cons de_str da_nil)) rfl ⟨⟨N1, _, rfl⟩, rfl⟩)) ?_
  refine b_seq (s_drop (de_call (da_cons (de_var rfl) (da_cons de_str da_nil)) rfl ⟨⟨N2, _, rfl⟩, rfl⟩)) ?_
  refine b_seq (s_set (d := .int ((N1.things + N2.things : Nat) : Int)) (DE.to (de_add (de_fld (j := 0) nf (de_var rfl) rfl rfl) (de_fld (j := 0) nf (de_var rfl) rfl rfl)) (by congr 1)) rfl rfl) ?_
  refine b_pass (dt_test (DE.to (de_gt (de_var rfl) de_int) (by rw [decide_eq_false (by omega)]))) ?_
  refine b_seq (s_set (de_ofN (dn_rg2 (de_fld (j := 0) nf (de_var rfl) rfl rfl) (de_var rfl) (by omega))) rfl rfl) ?_
  refine b_seq (s_asg (de_call (da_cons (de_var rfl) (da_cons (de_var rfl) da_nil)) rfl ⟨N2, _, rhoA N1, rfl, ok2.s3, l2, fun p hp => ⟨ix (sp p hp).1, ix (sp p hp).2⟩, fun p hp => ix (tp p hp), rfl⟩) (dg_pair (p := (.lst ((N2.strings.map (nrm (rhoA N1))).map prD), .lst ((N2.turns.map fun p => (rhoA N1 p.1, p.2)).map prD))) rfl rfl rfl rfl rfl)) ?_
  refine b_seq (s_set (d := .lst ((N1.given ++ N2.given.map (rhoA N1)).map D.int)) (DE.to (de_lst (da_starU (du_of (de_fld (j := 2) nf (de_var rfl) rfl rfl)) (da_starL (dl_ofN (dn_lcY (as := N2.given) (em := D.int) (gv := fun t => D.int (rhoA N1 t)) (di_tup (du_of (de_fld (j := 2) nf (de_var rfl) rfl rfl))) rfl rfl (fun t _ => dg_name rfl rfl) (fun _ h => h) (fun t ht => de_ixL (dl_of (de_var rfl)) (de_var rfl) (ixD (ok2.g1 t ht))) (by omega))) da_nil)) (by simp only [List.length_append, List.length_map, List.length_nil]; omega)) (by rw [List.append_nil, List.map_append, List.map_map] <;> rfl)) rfl rfl) ?_
  refine b_seq (s_set (d := .lst ((N1.kept ++ N2.kept.map (rhoA N1)).map D.int)) (DE.to (de_lst (da_starU (du_of (de_fld (j := 3) nf (de_var rfl) rfl rfl)) (da_starL (dl_ofN (dn_lcY (as := N2.kept) (em := D.int) (gv := fun t => D.int (rhoA N1 t)) (di_tup (du_of (de_fld (j := 3) nf (de_var rfl) rfl rfl))) rfl rfl (fun t _ => dg_name rfl rfl) (fun _ h => h) (fun t ht => de_ixL (dl_of (de_var rfl)) (de_var rfl) (ixD (ok2.k1 t ht))) (by omega))) da_nil)) (by simp only [List.length_append, List.length_map, List.length_nil]; omega)) (by rw [List.append_nil, List.map_append, List.map_map] <;> rfl)) rfl rfl) ?_
  have s1 := ok1.s3
  have s2 := ok2.s3
  refine b_ret (de_make (da_cons (de_var rfl) (da_cons (d := .lst ((asideS N1 N2).map prD)) (DE.to (de_lst (da_starU (du_of (de_fld (j := 1) nf (de_var rfl) rfl rfl)) (da_starL (dl_of (de_var rfl)) da_nil)) (by simp only [List.length_append, List.length_map, List.length_nil]; omega)) (by unfold asideS; rw [List.append_nil, List.map_append])) (da_cons (de_var rfl) (da_cons (de_var rfl) (da_cons (d := .lst ((joinT (rhoA N1) N1 N2).map prD)) (DE.to (de_lst (da_starU (du_ofP (de_fld (j := 5) nf (de_var rfl) rfl rfl)) (da_starL (dl_of (de_var rfl)) da_nil)) (by simp only [List.length_append, List.length_map, List.length_nil]; omega)) (by unfold joinT; rw [List.append_nil, List.map_append])) da_nil))))) ⟨_, _, _, _, _, _, _, rfl, .inl rfl, .inl rfl, hok, rfl⟩)
abbrev N_joined_nets : List Str := ["one", "other", "things", "numbers", "thing", "both", "strings", "turns", "string"]
theorem sc_joined_nets : FnScope N_joined_nets ["one", "other"] (defScope (top 43)) := ⟨rfl, rfl, rfl, by decide +kernel, rfl, by decide +kernel, by decide +kernel⟩
theorem c_joined_nets (F : FnP K "joined_nets" (top 43) f fd) (hf : mg "joined_nets" = some (.ref f)) (b : Bs K mg) (nf : NetF K) (q_need_net : Cal P w K mg base 1 "need_net" (spD K 2 RneedNet) []) (q_with_numbers : Cal P w K mg base 1 "with_numbers" (spD K 2 RwithD) []) (q_Net : QNet P w K mg base) : Cal P w K mg base 9 "joined_nets" (spD K 2 Rjoin) [] := by
  refine cal_of F hf (fn_dat F sc_joined_nets rfl fun cdv A outer s H E hr => ?_) fun _ _ _ _ _ _ us hl => match us, hl with | [_, _], _ => rfl
  have hu := room_u hr; have hu1 := room_u1 hr; have hu2 := room_u2 hr; have nd := (sc_joined_nets).nd
  refine ⟨_, (pss_cons (ps_expr (pe_c q_need_net hr (by decide) rfl (pa_cons (pv 0) (pa_cons pe_str pa_nil)))) (pss_cons (ps_expr (pe_c q_need_net hr (by decide) rfl (pa_cons (pv 1) (pa_cons pe_str pa_nil)))) (pss_cons (ps_if (pt_cmpR op_ne (pe_callB call_len_seq rfl b.b_len PySem.boot_len (pa_cons (pe_fld (pv 0) rfl) pa_nil)) (pe_callB call_len_seq rfl b.b_len PySem.boot_len (pa_cons (pe_fld (pv 1) rfl) pa_nil)) (nomark _)) pss_never pss_nil) (pss_cons (ps_set (i := 2) nd rfl (.inl rfl) (pe_op op_sub (pe_op op_add (pe_fld (pv 0) rfl) (pe_fld (pv 1) rfl)) (pe_callB call_len_seq rfl b.b_len PySem.boot_len (pa_cons (pe_fld (pv 1) rfl) pa_nil)))) (pss_cons (ps_if (pt_cmpR op_gt (pv 2) (C8.pe_gc rfl (b.g_c_things)) (nomark _)) pss_never pss_nil) (pss_cons (ps_set (i := 3) nd rfl (.inr rfl) (pe_callTy (call_dictP rfl) rfl b.b_dict PyProof.Rows.boot_dict (pa_cons (pe_listZip rfl rfl b.b_list rfl b.b_zip (pa_cons (pe_fld (pv 1) rfl) (pa_cons (pe_fld (pv 0) rfl) pa_nil))) pa_nil))) (pss_cons (ps_for PassesOwn.never rfl (pi_range1 rfl b.b_range (pa_cons (pe_fld (pv 1) rfl) pa_nil)) (pg_name (i := 4) nd rfl (.inl rfl)) (pss_one (ps_if (pt_cmp (pc_dnotin hu1 (pv 4) (pv 3)) rfl) (pss_one (ps_dput hu1 (pv 3) (pv 4) (pe_op op_sub (pe_op op_add (pe_fld (pv 0) rfl) (pe_callB call_lenD rfl b.b_len PySem.boot_len (pa_cons (pv 3) pa_nil))) (pe_callB call_len_seq rfl b.b_len PySem.boot_len (pa_cons (pe_fld (pv 1) rfl) pa_nil))) rfl)) pss_nil))) (pss_cons (ps_asg (pe_c q_with_numbers hr (by decide) rfl (pa_cons (pv 1) (pa_cons (pv 3) pa_nil))) (pg_tup rfl (pgs_cons (pg_name (i := 6) nd rfl (.inr rfl)) (pgs_cons (pg_name (i := 7) nd rfl (.inl rfl)) pgs_nil)))) (pss_cons (ps_setLc (i := 5) (own := [("string", 8)]) rfl nd rfl rfl (sw_true rfl rfl rfl (by decide +kernel)) (pi_tup (pe_fld (pv 0) rfl)) (blkOk_by (own := [("string", 8)]) (N := N_joined_nets) (sc := defScope (top 43)) (by decide +kernel)) (fun _ _ _ _ _ => (pg_name (i := 8) nd rfl (.inl rfl))) (fun _ _ _ _ _ => (pts_one (pt_cmpR (show OpR _ (compareOp .NotIn) (rNotInD K) from (op_notInD hu2)) (pv 8) (pv 6) rfl))) (fun _ _ _ _ _ => (pv 8))) (pss_cons (ps_expr (pe_bm PySem.F.plainAttrs_list PySem.F.slot_list_extend PySem.F.type_list_extend mt_extend (pv 5) (pa_cons (pe_lc (own := [("string", 8)]) rfl nd (pi_list (pv 6)) (blkOk_by (own := [("string", 8)]) (N := N_joined_nets) (sc := defScope (top 43)) (by decide +kernel)) (fun _ _ _ _ _ => (pg_name (i := 8) nd rfl (.inl rfl))) (fun _ _ _ _ _ => (pts_one (pt_cmpR (show OpR _ (compareOp .NotIn) (rNotInTD K) from (op_notInTD hu2)) (pv 8) (show PE _ _ (tFld K _ _) from pe_fld (pv 0) rfl) rfl))) (fun _ _ _ _ _ => (pv 8))) pa_nil))) (pss_one (ps_ret (pe_mk (q_Net) hr (by decide) rfl (pa_cons (pv 2) (pa_cons (pv 5) (pa_cons (pe_fld (pv 0) rfl) (pa_cons (pe_lc (own := [("thing", 4)]) rfl nd (pi_tup (pe_fld (pv 1) rfl)) (blkOk_by (own := [("thing", 4)]) (N := N_joined_nets) (sc := defScope (top 43)) (by decide +kernel)) (fun _ _ _ _ _ => (pg_name (i := 4) nd rfl (.inl rfl))) (fun _ _ _ _ _ => pts_nil) (fun _ _ _ _ _ => (pe_dget hu1 (pv 3) (pv 4) (fun _ _ => rfl)))) (pa_cons (pe_lst (StX.pa_star (pe_fld (pv 0) rfl) (StX.pa_star (pv 7) pa_nil))) pa_nil)))))))))))))))))), fun ds d _ hR => ?_⟩

  obtain ⟨N1, N2, rfl, ok1, ok2, hkg, hok, rfl⟩ := hR
  have h1 := ok1.n2
  have h2 := ok2.n2
  have gl2 := ok2.glen
  have kl2 := len_rng ok2.k1 ok2.k2
  have gl1 := ok1.glen
  have kl1 := len_rng ok1.k1 ok1.k2
  let ρ := rhoJ N1 N2
  have sp : ∀ p ∈ N2.strings, (0 ≤ p.1 ∧ p.1 < N2.things) ∧ (0 ≤ p.2 ∧ p.2 < N2.things) := fun p hp => by
    have := ok2.s1 p hp
    unfold OkP at this
    omega
  have tp : ∀ p ∈ N2.turns, 0 ≤ p.1 ∧ p.1 < N2.things := fun p hp => (lookd_mem.mp (ok2.t2.mem_iff.mp (List.mem_map.mpr ⟨p, hp, rfl⟩))).1
  have l1 := turns_len ok1
  have l2 := turns_len ok2
  have fnd : (fullL N2).Nodup := (full_perm ok2).nodup_iff.mpr (rng_nodup _)
  refine b_seq (s_drop (de_call (da_cons (de_var rfl) (da_cons de_str da_nil)) rfl ⟨⟨N1, _, rfl⟩, rfl⟩)) ?_
  refine b_seq (s_drop (de_call (da_cons (de_var rfl) (da_cons de_str da_nil)) rfl ⟨⟨N2, _, rfl⟩, rfl⟩)) ?_
  refine b_pass (dt_test (DE.to (de_neI (de_lenT (du_of (de_fld (j := 3) nf (de_var rfl) rfl rfl))) (de_lenT (du_of (de_fld (j := 2) nf (de_var rfl) rfl rfl)))) (by rw [List.length_map, List.length_map, hkg, beq_self_eq_true]; rfl))) ?_
  refine b_seq (s_set (d := .int ((N1.things + (N2.things - N2.given.length) : Nat) : Int)) (DE.to (de_sub (de_add (de_fld (j := 0) nf (de_var rfl) rfl rfl) (de_fld (j := 0) nf (de_var rfl) rfl rfl)) (de_lenT (du_of (de_fld (j := 2) nf (de_var rfl) rfl rfl)))) (by rw [List.length_map]; congr 1; omega)) rfl rfl) ?_
  refine b_pass (dt_test (DE.to (de_gt (de_var rfl) de_int) (by rw [decide_eq_false (by omega)]))) ?_
  have zip1 : zipD (N2.given.map D.int) (N1.kept.map D.int) = (N2.given.map fun t => (t, ρ t)).map prD := by
    refine List.ext_getElem? fun i => ?_
    rw [List.getElem?_map, List.getElem?_map]
    cases e : N2.given[i]? with
    | none =>
      have := List.getElem?_eq_none_iff.mp e
      rw [List.getElem?_eq_none (by rw [zipD_length, List.length_map, List.length_map]; omega)]
      rfl
    | some t =>
      have hi := (List.getElem?_eq_some_iff.mp e).1
      have hm := List.mem_of_getElem? e
      have hk : N1.kept[i]? = some N1.kept[i] := List.getElem?_eq_getElem (by omega)
      have hx := nd_ix ok2.g2 (idx_first hm).1 e
      have hr : ρ t = N1.kept[i] := by
        show rhoJ N1 N2 t = _
        unfold rhoJ
        rw [if_pos hm, hx, List.getD_eq_getElem?_getD, hk]
        rfl
      rw [zipD_get (i := i) (d := .int t) (e := .int N1.kept[i]) (by rw [List.getElem?_map, e]; rfl) (by rw [List.getElem?_map, hk]; rfl)]
      show some (D.tup [.int t, .int N1.kept[i]]) = some (prD (t, ρ t))
      rw [hr]
      rfl
  have z2 : (N2.given.map fun t => (t, ρ t)).map (·.1) = N2.given := by rw [List.map_map]; exact List.map_id' _
  have z3 : ((N2.given.map fun t => (t, ρ t)).map fun p => D.int p.2) = N2.given.map fun t => D.int (ρ t) := by rw [List.map_map] <;> rfl
  refine b_ownD (ns := N2.given) (ds := N2.given.map fun t => D.int (ρ t)) (by
    have z := dnd_dictP (K := K) (ps := N2.given.map fun t => (t, ρ t)) (dl_ofN (DN.to (dn_zipT (du_of (de_fld (K := K) (Γ := ((startC N_joined_nets [netD N1, netD N2]).set 2 (.dat (.int ((N1.things + (N2.things - N2.given.length) : Nat) : Int))))) (f := "given") (j := 2) nf (de_var (i := 1) rfl) rfl rfl)) (du_of (de_fld (f := "kept") (j := 3) nf (de_var (i := 0) rfl) rfl rfl))) zip1)) (by rw [z2]; exact ok2.g2)
    rw [z2, z3] at z
    exact z) rfl rfl fun pd => ?_
  refine b_seq (s_for (ds := (List.range N2.things).map fun i : Nat => D.int (i : Int)) (di_range1 (n := N2.things) (de_fld (j := 0) nf (de_var rfl) rfl rfl) (by omega)) (fun i => [.dat (netD N1), .dat (netD N2), .dat (.int ((N1.things + (N2.things - N2.given.length) : Nat) : Int)), .dic pd (N2.given ++ lookd i N2.given) ((N2.given ++ lookd i N2.given).map fun t => .int (ρ t)), .no, .no, .no, .no, .no]) ?_ (fun _ _ => rfl) fun i d hd => ?_) ?_
  · have e : lookd 0 N2.given = [] := rfl
    simp only [e, List.append_nil]
    rfl
  · rw [List.getElem?_map] at hd
    cases hx : (List.range N2.things)[i]? with
    | none =>
      rw [hx] at hd
      cases hd
    | some x =>
      rw [hx] at hd
      cases hd
      have hi : i < N2.things := by
        have := (List.getElem?_eq_some_iff.mp hx).1
        simpa using this
      have hxi : x = i := by
        rw [List.getElem?_range hi] at hx
        exact (Option.some.inj hx).symm
      subst hxi
      have nl : (x : Int) ∉ lookd x N2.given := fun z => by
        have := (lookd_mem.mp z).1
        omega
      refine ⟨_, _, dg_name rfl rfl, s_forget (i := 4) (Γ1 := [.dat (netD N1), .dat (netD N2), .dat (.int ((N1.things + (N2.things - N2.given.length) : Nat) : Int)), .dic pd (N2.given ++ lookd (x + 1) N2.given) ((N2.given ++ lookd (x + 1) N2.given).map fun t => .int (ρ t)), .dat (.int (x : Int)), .no, .no, .no, .no]) ?_ rfl rfl⟩
      refine s_if (b := !decide ((x : Int) ∈ N2.given ++ lookd x N2.given)) (dt_B (de_dnotinO rfl (de_var rfl))) (fun z => ?_) fun z => ?_
      · have hn : (x : Int) ∉ N2.given ++ lookd x N2.given := by
          intro h
          rw [decide_eq_true h] at z
          cases z
        have hg : (x : Int) ∉ N2.given := fun h => hn (List.mem_append_left _ h)
        have hrv : ρ (x : Int) = (N1.things : Int) + (((lookd x N2.given).length : Nat) : Int) := by
          show rhoJ N1 N2 (x : Int) = _
          have hm : (x : Int) ∈ restL N2 := lookd_mem.mpr ⟨⟨by omega, by omega⟩, hg⟩
          unfold rhoJ
          rw [if_neg hg, if_pos hm]
          unfold restL
          rw [lookd_idx hi hg]
        refine St.to (s_dputO (d := .int (ρ (x : Int))) rfl (DE.to (de_sub (de_add (de_fld (j := 0) nf (de_var rfl) rfl rfl) (de_dlenO rfl fun H kvs Q h q => ⟨pd, kvs, rfl, h, q⟩)) (de_lenT (du_of (de_fld (j := 2) nf (de_var rfl) rfl rfl)))) (by rw [hrv, List.length_append, List.length_map]; congr 1; omega)) (de_var rfl) hn ?_) ?_
        · have := lookd_length x N2.given
          rw [List.length_append]
          omega
        · have e5 : (N2.given ++ lookd x N2.given ++ [(x : Int)]).map (fun t => D.int (ρ t)) = (N2.given ++ lookd x N2.given).map (fun t => D.int (ρ t)) ++ [D.int (ρ (x : Int))] := by
            rw [List.map_append]
            rfl
          rw [lookd_succ, if_neg hg, ← List.append_assoc, e5]
          rfl
      · have hg : (x : Int) ∈ N2.given := by
          have h : (x : Int) ∈ N2.given ++ lookd x N2.given := by
            cases h : decide ((x : Int) ∈ N2.given ++ lookd x N2.given)
            · rw [h] at z
              cases z
            · exact of_decide_eq_true h
          exact (List.mem_append.mp h).resolve_right nl
        rw [lookd_succ, if_pos hg, List.append_nil]
        exact s_next
  rw [List.length_map, List.length_range]
  refine b_relD (i := 3) rfl ?_
  refine b_seq (s_asg (de_call (da_cons (de_var rfl) (da_cons (de_var rfl) da_nil)) rfl ⟨N2, fullL N2, ρ, rfl, fnd, ok2.s3, l2, fun p hp => ⟨full_mem ok2 (sp p hp).1, full_mem ok2 (sp p hp).2⟩, fun p hp => full_mem ok2 (tp p hp), rfl⟩) (dg_pair (p := (.lst ((N2.strings.map (nrm ρ)).map prD), .lst ((N2.turns.map fun p => (ρ p.1, p.2)).map prD))) rfl rfl rfl rfl rfl)) ?_
  have s1 := ok1.s3
  have s2 := ok2.s3
  refine b_own (ds := (N1.strings.filter fun p => !decide (p ∈ N2.strings.map (nrm ρ))).map prD) (dn_lc (as := N1.strings) (em := prD) (f := fun p => !decide (p ∈ N2.strings.map (nrm ρ))) (gv := prD) (di_tup (du_of (de_fld (j := 1) nf (de_var rfl) rfl rfl))) rfl rfl (fun p _ => dg_name rfl rfl) (fun _ h => h) (fun p _ => dt_test (de_notInPL (de_var rfl) (de_var rfl))) (fun p _ _ => de_var rfl) (by omega)) rfl rfl fun pb => ?_
  refine b_seq (s_extend (es := ((N2.strings.map (nrm ρ)).filter fun p => !decide (p ∈ N1.strings)).map prD) rfl (dn_lc (as := N2.strings.map (nrm ρ)) (em := prD) (f := fun p => !decide (p ∈ N1.strings)) (gv := prD) (di_list (de_var rfl)) rfl rfl (fun p _ => dg_name rfl rfl) (fun _ h => h) (fun p _ => dt_test (de_notInPT (de_var rfl) (de_fld (j := 1) nf (de_var rfl) rfl rfl))) (fun p _ _ => de_var rfl) (by rw [List.length_map]; omega)) ?_) ?_
  · have a1 := List.length_filter_le (fun p => !decide (p ∈ N2.strings.map (nrm ρ))) N1.strings
    have a2 := List.length_filter_le (fun p => !decide (p ∈ N1.strings)) (N2.strings.map (nrm ρ))
    rw [List.length_map] at a2
    simp only [List.length_map]
    omega
  refine b_rel (i := 5) rfl ?_
  refine b_ret (de_make (da_cons (de_var rfl) (da_cons (d := .lst ((joinS N1 N2).map prD)) (DE.to (de_var rfl) (by unfold joinS; rw [List.map_append])) (da_cons (de_fld (j := 2) nf (de_var rfl) rfl rfl) (da_cons (d := .lst ((N2.kept.map ρ).map D.int)) (de_ofN (DN.to (dn_lcY (as := N2.kept) (em := D.int) (gv := fun t => D.int (ρ t)) (di_tup (du_of (de_fld (j := 3) nf (de_var rfl) rfl rfl))) rfl rfl (fun t _ => dg_name rfl rfl) (fun _ h => h) (fun t ht => dget_of (f := fun t => D.int (ρ t)) (de_var rfl) (de_var rfl) fnd (full_mem ok2 (ok2.k1 t ht))) (by omega)) (by rw [List.map_map] <;> rfl))) (da_cons (d := .lst ((joinT ρ N1 N2).map prD)) (DE.to (de_lst (da_starU (du_ofP (de_fld (j := 5) nf (de_var rfl) rfl rfl)) (da_starL (dl_of (de_var rfl)) da_nil)) (by simp only [List.length_append, List.length_map, List.length_nil]; omega)) (by unfold joinT; rw [List.append_nil, List.map_append])) da_nil))))) ⟨_, _, _, _, _, _, _, rfl, .inr rfl, .inl rfl, hok, rfl⟩)

end
end Lk
set_option maxHeartbeats 1000000
namespace Lk
open PySem PySem.Spec PyProof.Rows L2
open Evl (Ex)
open C8 (Cal pe_c Mak pe_mk)
/-! ### list + list -/
theorem cat_meets (l b : Addr) (xs ys : Array Value) (n m : Nat) (dd ee : Option Addr) (sl tl : Array (Option Value)) (hz : xs.size + ys.size ≤ sizeLine) :
    Meets (Builtin.«list.__add__» ⟨[.ref l, .ref b], []⟩) (fun _ R z => z.heap.get? l = some { cls := .type "list", dict := dd, data := .seq xs n, slots := sl } ∧ z.heap.get? b = some { cls := .type "list", dict := ee, data := .seq ys m, slots := tl } ∧
      R (.ok (.ret (.ref z.heap.objs.size))) { z with heap := z.heap.push { cls := .type "list", data := .seq (xs ++ ys) } }) :=
  .of_wp fun prog w A R z hq => by
    obtain ⟨hp, g, d, tk, os⟩ := z
    obtain ⟨hl, hb, hq⟩ := hq
    have g1 := AutoSeq1.idx_int
    have g2 := AutoSeq1.sub_tuple_tuple
    have g3 := AutoSeq1.sub_list_list
    have g4 := AutoSeq1.sub_tuple_list
    have g5 := AutoSeq1.sub_list_tuple
    wp_walk using wpAny_loadPart' hl, wpAny_loadPart' hb
    exact ⟨_, rfl, hq⟩
def rCatS (K : PySem.W.Frag) : R2 := fun x y H Q => ∃ a b xs ys, x = .ref a ∧ y = .ref b ∧ SqL K H a xs ∧ SqL K H b ys ∧ xs.length + ys.length ≤ sizeLine ∧ ∀ p, H p = none → Q (.ref p) (upd H p (.lst (xs ++ ys)))
theorem op_catS {X : Cx} : OpR X (binaryOp .Add) (rCatS X.K) := by
  intro pins s σ H x y v u Q J rx ry hh
  obtain ⟨a, b, xs, ys, rfl, rfl, h1, h2, hz, q⟩ := hh
  cases rx
  cases ry
  obtain ⟨its, r1, ⟨⟨c1, d1, t1, s1⟩, n1, e1, f1, g1, k1⟩, _⟩ := J.list h1
  obtain ⟨its2, r2, ⟨⟨c2, d2, t2, s2⟩, n2, e2, f2, g2, k2⟩, _⟩ := J.list h2
  simp only at f1 g1 k1 f2 g2 k2
  subst f1 g1 k1 f2 g2 k2
  have l1 := r1.length
  have l2 := r2.length
  refine concat_meets ⟨_, e1, rfl⟩ ⟨_, e2, rfl⟩ noFill_list_add seq_list_add F.slot_list_add F.entry_list_add (F.args_list_add_2 _ _) (cat_meets a b its.toArray its2.toArray n1 n2 none none s1 s2 (by rw [List.size_toArray, List.size_toArray]; omega)) ⟨e1, e2, ?_⟩
  have ea : its.toArray ++ its2.toArray = (its ++ its2).toArray := by simp
  rw [ea]
  exact ⟨.ref _, _, J.lnew (t' := s.toks) (r1.append r2) (by rw [List.length_append]; omega), rfl, q _ J.fresh⟩
section
variable {K : PySem.W.Frag} {Γ : Ctx} {ta tb : TE} {ds es : List D}
theorem dn_cat (h1 : DL K ta Γ ds) (h2 : DL K tb Γ es) (hl : ds.length + es.length ≤ 16000000) : DN K (tOp (rCatS K) ta tb) Γ (ds ++ es) := fun F H σ E Q q =>
  h1 F H σ E _ fun a xs H1 e1 s1 a1 => h2 F H1 σ (E.mono e1) _ fun b ys H2 e2 s2 a2 => ⟨a, b, xs, ys, rfl, rfl, Evl.ex_l e2 s1, s2, by rw [a1.length, a2.length]; exact line_of hl, fun p hp => by
    refine q p _ _ (Evl.fresh_back (e1.trans e2) hp) ((e1.trans e2).trans (Ex.new hp)) upd_same ?_
    exact ((a1.mono (hid_mono e2)).append a2).mono (ex_new hp)⟩
end

/-! ### what draws: a list [cells, lap, sand] that stands hot at hp and is changed -/
structure Hc where
  hp : Addr
  cl : Addr
  cells : List Int
structure HopF (C : Hc) (F : Fx) : Prop where
  wr : F.wr = [C.hp]
  hot : C.hp ∈ F.hot
  ncl : C.cl ∉ F.hot
  cl : F.H0 C.cl = some (.lst (C.cells.map V.int))
def HopH (C : Hc) (n : Nat) (H : Hp) : Prop := ∃ lap sand : Int, H C.hp = some (.lst [.ref C.cl, .int lap, .int sand]) ∧ 0 ≤ lap ∧ lap ≤ n
section
variable {K : PySem.W.Frag} {C : Hc} {F : Fx} {H H' : Hp} {σ : L2.St} {Γ : Ctx} {n m : Nat}
theorem HopH.mono (h : HopH C n H) (e : Ex H H') : HopH C n H' := by
  obtain ⟨l, s, h1, h2, h3⟩ := h
  exact ⟨l, s, e _ _ h1, h2, h3⟩
theorem HopH.le (h : HopH C n H) (e : n ≤ m) : HopH C m H := by
  obtain ⟨l, s, h1, h2, h3⟩ := h
  exact ⟨l, s, h1, h2, by omega⟩
theorem HopF.nwr (h : HopF C F) : C.cl ∉ F.wr := fun z => by
  rw [h.wr] at z
  have z := List.mem_singleton.mp z
  exact h.ncl (by rw [z]; exact h.hot)
theorem HopF.now (h : HopF C F) (E : Env K F H σ Γ) : H C.cl = some (.lst (C.cells.map V.int)) := E.frame _ _ h.nwr h.cl
theorem HopF.noff (h : HopF C F) (E : Env K F H σ Γ) : C.cl ∉ hotOf F Γ := fun w => (List.mem_append.mp w).elim h.ncl fun w => by
  have := (E.off _ w).2
  rw [h.cl] at this
  cases this
/-- the cells, as the slots see them -/
theorem HopF.isCells (h : HopF C F) (E : Env K F H σ Γ) : Is K (hid (hotOf F Γ) H) (.ref C.cl) (.lst (C.cells.map D.int)) :=
  .lst (SqL.of (by rw [hid_out (h.noff E)]; exact h.now E)) (IsAll.ofInts _)
theorem HopF.more (h : HopF C F) {p : Addr} (hp : p ≠ C.cl) : HopF C (F.more p) := ⟨h.wr, List.mem_cons_of_mem _ h.hot, fun z => (List.mem_cons.mp z).elim (fun e => hp e.symm) h.ncl, h.cl⟩
theorem HopF.base (h : HopF C F) (E : Env K F H σ Γ) : HopF C (F.at_ Γ H) := by
  refine ⟨h.wr, h.hot, h.ncl, ?_⟩
  show hid (F.wr ++ owned Γ) H C.cl = _
  rw [hid_out (fun w => (List.mem_append.mp w).elim h.nwr fun w => h.noff E (List.mem_append_right _ w))]
  exact h.now E
/-- the list is changed -/
theorem Env.drawn (E : Env K F H σ Γ) (h : HopF C F) {o : HO} : Env K F (upd H C.hp o) σ Γ := E.updHot h.hot (.inr (by rw [h.wr]; exact List.mem_singleton.mpr rfl))
theorem HopF.hidH (h : HopF C F) {o : HO} : hid (hotOf F Γ) (upd H C.hp o) = hid (hotOf F Γ) H := hid_upd (List.mem_append_left _ h.hot)
end

/-- all but the list stands -/
def ExC (C : Hc) (H H' : Hp) : Prop := ∀ a o, a ≠ C.hp → H a = some o → H' a = some o
section
variable {K : PySem.W.Frag} {C : Hc} {F : Fx} {H H' H'' : Hp} {σ : L2.St} {Γ : Ctx} {n m : Nat}
theorem ExC.of (e : Ex H H') : ExC C H H' := fun a o _ h => e a o h
theorem ExC.refl : ExC C H H := fun _ _ _ h => h
theorem ExC.trans (a : ExC C H H') (b : ExC C H' H'') : ExC C H H'' := fun x o h q => b x o h (a x o h q)
theorem ExC.hid {l : List Addr} (a : ExC C H H') (hl : C.hp ∈ l) : Ex (hid l H) (hid l H') := fun x o h => by
  obtain ⟨n1, h1⟩ := hid_some h
  rw [hid_out n1]
  exact a x o (fun z => n1 (by rw [z]; exact hl)) h1
theorem ExC.surg (a : ExC C H H') (h : HopH C n H) (h' : HopH C m H') : ∃ (H2 : Hp) (o : HO), Ex H H2 ∧ upd H2 C.hp o = H' ∧ ∀ x, x ≠ C.hp → H2 x = H' x := by
  obtain ⟨l, s, e, _⟩ := h'
  refine ⟨fun x => if x = C.hp then H x else H' x, .lst [.ref C.cl, .int l, .int s], fun x o q => ?_, ?_, fun x hx => if_neg hx⟩
  · show (if x = C.hp then H x else H' x) = some o
    by_cases z : x = C.hp
    · rw [if_pos z]
      exact q
    · rw [if_neg z]
      exact a x o z q
  · funext x
    by_cases z : x = C.hp
    · subst z
      rw [upd_same, e]
    · rw [upd_ne z]
      exact if_neg z
theorem Env.monoC (E : Env K F H σ Γ) (hF : HopF C F) (h : HopH C n H) (a : ExC C H H') (h' : HopH C m H') : Env K F H' σ Γ := by
  obtain ⟨H2, o, e1, e2, _⟩ := a.surg h h'
  rw [← e2]
  exact (E.mono e1).drawn hF
theorem HopF.inl (hF : HopF C F) : C.hp ∈ hotOf F Γ := List.mem_append_left _ hF.hot
theorem Env.addC (E : Env K F H σ Γ) (hF : HopF C F) (h : HopH C n H) (a : ExC C H H') (h' : HopH C m H') {i : Nat} {e e' : Ent} {p : Addr} (hi : Γ[i]? = some e) (ho : own1 e = []) (hp : H p = none) (ho' : own1 e' = [p]) (hv : EntOk K (hid (p :: hotOf F Γ) H') H' (some (.ref p)) e') :
    Env K F H' (σ.set i (some (.ref p))) (Γ.set i e') := by
  obtain ⟨H2, o, e1, e2, e3⟩ := a.surg h h'
  have hne : p ≠ C.hp := fun z => by
    obtain ⟨l, s, q, _⟩ := h
    rw [z, q] at hp
    cases hp
  have eh : hid (p :: hotOf F Γ) H2 = hid (p :: hotOf F Γ) H' := by
    rw [← e2]
    exact (hid_upd (List.mem_cons_of_mem _ hF.inl)).symm
  have hv2 : EntOk K (hid (p :: hotOf F Γ) H2) H2 (some (.ref p)) e' := by
    rw [eh]
    cases e' with
    | no => trivial
    | dat d => exact hv
    | own q ds =>
      obtain rfl : q = p := by simpa [own1] using ho'
      obtain ⟨a1, xs, a2, a3⟩ := hv
      exact ⟨a1, xs, (e3 q hne).trans a2, a3⟩
    | dic q ks ds =>
      obtain rfl : q = p := by simpa [own1] using ho'
      obtain ⟨a1, xs, a2, a3⟩ := hv
      exact ⟨a1, xs, (e3 q hne).trans a2, a3⟩
    | ins q dx ns ds =>
      obtain rfl : q = p := by simpa [own1] using ho'
      obtain ⟨a1, xs, a2, a3⟩ := hv
      exact ⟨a1, xs, (e3 q hne).trans a2, a3⟩
    | at_ q => exact hv
    | hpo q cl cells lap sand =>
      obtain rfl : q = p := by simpa [own1] using ho'
      exact ⟨hv.1, (e3 q hne).trans hv.2.1, hv.2.2⟩
  have E2 := E.addO hi ho hp e1 ho' hv2
  rw [← e2]
  exact E2.drawn hF
end

/-! ### what expressions that draw give -/
def XE (K : PySem.W.Frag) (C : Hc) (te : TE) (Γ : Ctx) (n m : Nat) (Φ : D → Prop) : Prop := ∀ (F : Fx) (H : Hp) (σ : L2.St), Env K F H σ Γ → HopF C F → HopH C n H → ∀ Q : VK,
  (∀ v H' d, ExC C H H' → HopH C m H' → Is K (hid (hotOf F Γ) H') v d → Φ d → Q v H') → te σ H Q
def XA (K : PySem.W.Frag) (C : Hc) (ta : TA) (Γ : Ctx) (n m : Nat) (Φ : List D → Prop) : Prop := ∀ (F : Fx) (H : Hp) (σ : L2.St), Env K F H σ Γ → HopF C F → HopH C n H → ∀ Q : List V → Hp → Prop,
  (∀ vs H' ds, ExC C H H' → HopH C m H' → IsAll K (hid (hotOf F Γ) H') vs ds → Φ ds → Q vs H') → ta σ H Q
def XT (K : PySem.W.Frag) (C : Hc) (tt : TT) (Γ : Ctx) (n m : Nat) (Φ : Bool → Prop) : Prop := ∀ (F : Fx) (H : Hp) (σ : L2.St), Env K F H σ Γ → HopF C F → HopH C n H → ∀ Q : Bool → Hp → Prop,
  (∀ b H', ExC C H H' → HopH C m H' → Φ b → Q b H') → tt σ H Q
/-- a new list -/
def XN (K : PySem.W.Frag) (C : Hc) (te : TE) (Γ : Ctx) (n m : Nat) (Φ : List D → Prop) : Prop := ∀ (F : Fx) (H : Hp) (σ : L2.St), Env K F H σ Γ → HopF C F → HopH C n H → ∀ Q : VK,
  (∀ p xs H' ds, H p = none → ExC C H H' → HopH C m H' → H' p = some (.lst xs) → IsAll K (hid (p :: hotOf F Γ) H') xs ds → Φ ds → Q (.ref p) H') → te σ H Q
def XS (K : PySem.W.Frag) (C : Hc) (t : TS) (Γ : Ctx) (n m : Nat) (Ψ : Ctx → Prop) : Prop := ∀ (F : Fx) (H : Hp) (σ : L2.St) (Z : Ends), Env K F H σ Γ → HopF C F → HopH C n H → (∀ σ' H' Γ', Env K F H' σ' Γ' → HopH C m H' → Ψ Γ' → Z.nx σ' H') → t Z σ H
def XB (K : PySem.W.Frag) (C : Hc) (t : TS) (Γ : Ctx) (n m : Nat) (Φ : D → Prop) : Prop := ∀ (F : Fx) (H : Hp) (σ : L2.St) (Z : Ends), Env K F H σ Γ → HopF C F → HopH C n H → (∀ v H' d, (∀ a o, a ∉ F.wr → F.H0 a = some o → H' a = some o) → (∀ p ∈ F.hot, H' p ≠ none) → HopH C m H' → Is K (hid F.hot H') v d → Φ d → Z.rt v H') → t Z σ H
section
variable {K : PySem.W.Frag} {C : Hc} {F : Fx} {H H' : Hp} {σ : L2.St} {Γ Γ' Γ1 Γ2 Γw : Ctx} {ta tb te tc : TE} {tt tu : TT} {d e d1 d2 : D} {ds es : List D} {t u w : TS} {n m k j : Nat} {Φ Φ1 Φ2 : D → Prop} {Ψ Ψ1 Ψ2 : Ctx → Prop}
theorem xe (h : DE K te Γ d) : XE K C te Γ n n fun x => x = d := fun F H σ E hF hH Q q => h F H σ E _ fun v H' e i => q v H' d (.of e) (hH.mono e) i rfl
theorem XE.imp (h : XE K C te Γ n m Φ) (f : ∀ d, Φ d → Φ1 d) : XE K C te Γ n m Φ1 := fun F H σ E hF hH Q q => h F H σ E hF hH Q fun v H' d e h' i p => q v H' d e h' i (f d p)
theorem XE.le (h : XE K C te Γ n m Φ) (e : m ≤ k) : XE K C te Γ n k Φ := fun F H σ E hF hH Q q => h F H σ E hF hH Q fun v H' d e1 h' i p => q v H' d e1 (h'.le e) i p
theorem xt {b : Bool} (h : DT K tt Γ b) : XT K C tt Γ n n fun x => x = b := fun F H σ E hF hH Q q => h F H σ E _ fun H' e => q b H' (.of e) (hH.mono e) rfl
/-- a body that draws nothing: the list is leaned on -/
def Fx.still (C : Hc) (F : Fx) (o : HO) : Fx := ⟨fun a => if a = C.hp then some o else F.H0 a, F.hot, []⟩
theorem still_env (E : Env K F H σ Γ) (hF : HopF C F) {o : HO} (ho : H C.hp = some o) : Env K (F.still C o) H σ Γ := by
  have hne : ∀ a, a ∈ F.wr → a = C.hp := fun a ha => by rw [hF.wr] at ha; exact List.mem_singleton.mp ha
  refine ⟨E.len, E.ent, fun a u _ ha => ?_, E.trk, E.nd, fun p hp => ⟨(E.off p hp).1, ?_⟩, fun _ z => (List.not_mem_nil z).elim⟩
  · have ha : (if a = C.hp then some o else F.H0 a) = some u := ha
    by_cases z : a = C.hp
    · rw [if_pos z] at ha
      rw [z, ho, ha]
    · rw [if_neg z] at ha
      exact E.frame a u (fun w => z (hne a w)) ha
  · show (if p = C.hp then _ else F.H0 p) = none
    rw [if_neg (fun z => (E.off p hp).1 (by rw [z]; exact hF.hot))]
    exact (E.off p hp).2
theorem still_back (hF : HopF C F) (E : Env K F H σ Γ) {o : HO} {σ' : L2.St} (E2 : Env K (F.still C o) H' σ' Γ') : Env K F H' σ' Γ' ∧ H' C.hp = some o := by
  refine ⟨⟨E2.len, E2.ent, fun a u h1 h2 => E2.frame a u List.not_mem_nil ?_, E2.trk, E2.nd, fun p hp => ⟨(E2.off p hp).1, ?_⟩, E.wrs⟩, E2.frame C.hp o List.not_mem_nil (if_pos rfl)⟩
  · show (if a = C.hp then _ else F.H0 a) = some u
    rw [if_neg (fun z => h1 (by rw [hF.wr, z]; exact List.mem_singleton.mpr rfl))]
    exact h2
  · have z : (if p = C.hp then some o else F.H0 p) = none := (E2.off p hp).2
    split at z
    · cases z
    · exact z
theorem xs (h : St K t Γ Γ') : XS K C t Γ n n fun x => x = Γ' := fun F H σ Z E hF hH q => by
  obtain ⟨lap, sand, h1, h2, h3⟩ := hH
  refine h _ H σ Z (still_env E hF h1) fun σ' H' E2 => ?_
  obtain ⟨E3, h4⟩ := still_back hF E E2
  exact q σ' H' Γ' E3 ⟨lap, sand, h4, h2, h3⟩ rfl
theorem xb (h : Blk K t Γ d) : XB K C t Γ n n fun x => x = d := fun F H σ Z E hF hH q => by
  obtain ⟨lap, sand, h1, h2, h3⟩ := hH
  refine h _ H σ Z (still_env E hF h1) fun v H' r => q v H' d (fun a o h1 h2 => r.1 a o List.not_mem_nil ?_) r.2.1 ⟨lap, sand, r.1 C.hp _ List.not_mem_nil (if_pos rfl), h2, h3⟩ r.2.2 rfl
  show (if a = C.hp then _ else F.H0 a) = some o
  rw [if_neg (fun z => h1 (by rw [hF.wr, z]; exact List.mem_singleton.mpr rfl))]
  exact h2
theorem XB.imp (h : XB K C t Γ n m Φ) (f : ∀ d, Φ d → Φ1 d) : XB K C t Γ n m Φ1 := fun F H σ Z E hF hH q => h F H σ Z E hF hH fun v H' d a b c i p => q v H' d a b c i (f d p)
theorem XB.le (h : XB K C t Γ n m Φ) (e : m ≤ k) : XB K C t Γ n k Φ := fun F H σ Z E hF hH q => h F H σ Z E hF hH fun v H' d a b c i p => q v H' d a b (c.le e) i p
theorem XS.imp (h : XS K C t Γ n m Ψ) (f : ∀ d, Ψ d → Ψ1 d) : XS K C t Γ n m Ψ1 := fun F H σ Z E hF hH q => h F H σ Z E hF hH fun σ' H' Γ' a b p => q σ' H' Γ' a b (f Γ' p)
theorem XS.le (h : XS K C t Γ n m Ψ) (e : m ≤ k) : XS K C t Γ n k Ψ := fun F H σ Z E hF hH q => h F H σ Z E hF hH fun σ' H' Γ' a b p => q σ' H' Γ' a (b.le e) p
theorem xb_seq (h1 : XS K C t Γ n m Ψ) (h2 : ∀ Γ', Ψ Γ' → XB K C u Γ' m k Φ) : XB K C (tSeq t u) Γ n k Φ := fun F H σ Z E hF hH q => h1 F H σ { Z with nx := u Z } E hF hH fun σ' H' Γ' E' h' p => h2 Γ' p F H' σ' Z E' hF h' q
theorem xs_seq (h1 : XS K C t Γ n m Ψ1) (h2 : ∀ Γ', Ψ1 Γ' → XS K C u Γ' m k Ψ) : XS K C (tSeq t u) Γ n k Ψ := fun F H σ Z E hF hH q => h1 F H σ { Z with nx := u Z } E hF hH fun σ' H' Γ' E' h' p => h2 Γ' p F H' σ' Z E' hF h' q
theorem xb_ret (h : XE K C te Γ n m Φ) : XB K C (tRet te) Γ n m Φ := fun F H σ Z E hF hH q => h F H σ E hF hH _ fun v H' d e h' i p => by
  have E' := E.monoC hF hH e h'
  exact q v H' d E'.frame E'.trk h' (i.mono (hid_sub fun a ha => List.mem_append_left _ ha)) p
theorem xb_step (h1 : St K t Γ Γ') (h2 : XB K C u Γ' n m Φ) : XB K C (tSeq t u) Γ n m Φ := xb_seq (xs h1) fun _ e => by subst e; exact h2
theorem xb_if {Θ : Bool → Prop} (h : XT K C tt Γ n m Θ) (h1 : Θ true → XB K C t Γ m k Φ) (h2 : Θ false → XB K C u Γ m k Φ) : XB K C (tIfS tt t u) Γ n k Φ := fun F H σ Z E hF hH q => h F H σ E hF hH _ fun b H' e h' p => by
  have E' := E.monoC hF hH e h'
  cases b with
  | true => exact h1 p F H' σ Z E' hF h' q
  | false => exact h2 p F H' σ Z E' hF h' q
theorem xb_guard {Θ : Bool → Prop} (h : XT K C tt Γ n m Θ) (h1 : Θ true → XB K C t Γ m k Φ) (h2 : Θ false → XB K C w Γ m k Φ) : XB K C (tSeq (tIfS tt t tNext) w) Γ n k Φ := fun F H σ Z E hF hH q => h F H σ E hF hH _ fun b H' e h' p => by
  have E' := E.monoC hF hH e h'
  cases b with
  | true => exact h1 p F H' σ { Z with nx := w Z } E' hF h' q
  | false => exact h2 p F H' σ Z E' hF h' q
theorem xs_if {Θ : Bool → Prop} (h : XT K C tt Γ n m Θ) (h1 : Θ true → XS K C t Γ m k Ψ) (h2 : Θ false → XS K C u Γ m k Ψ) : XS K C (tIfS tt t u) Γ n k Ψ := fun F H σ Z E hF hH q => h F H σ E hF hH _ fun b H' e h' p => by
  have E' := E.monoC hF hH e h'
  cases b with
  | true => exact h1 p F H' σ Z E' hF h' q
  | false => exact h2 p F H' σ Z E' hF h' q
theorem xs_next : XS K C tNext Γ n n fun x => x = Γ := fun F H σ Z E hF hH q => q σ H Γ E hH rfl
theorem xs_set {i : Nat} {x : Ent} (h : XE K C te Γ n m Φ) (hx : Γ[i]? = some x) (ho : own1 x = []) : XS K C (tAsg te (gName i)) Γ n m fun Γ' => ∃ d, Φ d ∧ Γ' = Γ.set i (.dat d) := fun F H σ Z E hF hH q => h F H σ E hF hH _ fun v H' d e h' i p => q _ H' _ ((E.monoC hF hH e h').setD hx ho i) h' ⟨d, p, rfl⟩
theorem HopH.off (h : HopH C n H) {p : Addr} (hne : p ≠ C.hp) {o : HO} : HopH C n (upd H p o) := by
  obtain ⟨l, s, a1, a2, a3⟩ := h
  exact ⟨l, s, by rw [upd_ne (Ne.symm hne)]; exact a1, a2, a3⟩
theorem own_ne (E : Env K F H σ Γ) (hF : HopF C F) {i : Nat} {x : Ent} {p : Addr} (h : Γ[i]? = some x) (hp : p ∈ own1 x) : p ≠ C.hp := fun z => (E.off p (owned_mem h hp)).1 (by rw [z]; exact hF.hot)
theorem xs_append {i : Nat} {p : Addr} (h : Γ[i]? = some (.own p ds)) (he : XE K C te Γ n m Φ) (hl : ds.length < 16000000) : XS K C (tDrop (tBM K "list" rAppend (tVar i) (tCons te tNil))) Γ n m fun Γ' => ∃ d, Φ d ∧ Γ' = Γ.set i (.own p (ds ++ [d])) := fun F H σ Z E hF hH q => by
  obtain ⟨v, h1, rfl, xs, h2, h3⟩ := E.ent i _ h
  refine ⟨.ref p, h1, .inl ⟨rfl, xs, SqL.of h2⟩, he F H σ E hF hH _ fun v H' d e h' iv pd => ?_⟩
  have E' := E.monoC hF hH e h'
  obtain ⟨v2, g1, g0, xs', g2, g3⟩ := E'.ent i _ h
  have hne : p ≠ C.hp := own_ne E hF h (List.mem_singleton.mpr rfl)
  refine ⟨p, xs', v, rfl, rfl, g2, by rw [g3.length]; exact line_lt hl, q σ _ _ (E'.updO (e' := .own p (ds ++ [d])) h rfl rfl ⟨rfl, xs' ++ [v], upd_same, g3.append (.cons iv .nil)⟩) (h'.off hne) ⟨d, pd, rfl⟩⟩
/-- a new list is owned -/
theorem xs_own {i : Nat} {x : Ent} {Θ : List D → Prop} (h : XN K C te Γ n m Θ) (hx : Γ[i]? = some x) (ho : own1 x = []) : XS K C (tAsg te (gName i)) Γ n m fun Γ' => ∃ p ds, Θ ds ∧ Γ' = Γ.set i (.own p ds) := fun F H σ Z E hF hH q => h F H σ E hF hH _ fun p xs H' ds hp e h' hl a th =>
  q _ H' _ (E.addC hF hH e h' (e' := .own p ds) hx ho hp rfl ⟨rfl, xs, hl, a⟩) h' ⟨p, ds, th, rfl⟩
theorem xn (h : DN K te Γ ds) : XN K C te Γ n n fun x => x = ds := fun F H σ E hF hH Q q => h F H σ E _ fun p xs H' hp e hl a => q p xs H' ds hp (.of e) (hH.mono e) hl a rfl
theorem XN.imp {Θ Θ1 : List D → Prop} (h : XN K C te Γ n m Θ) (f : ∀ d, Θ d → Θ1 d) : XN K C te Γ n m Θ1 := fun F H σ E hF hH Q q => h F H σ E hF hH Q fun p xs H' ds a b c d e th => q p xs H' ds a b c d e (f ds th)
theorem xe_ofN {Θ : List D → Prop} (h : XN K C te Γ n m Θ) : XE K C te Γ n m fun d => ∃ ds, Θ ds ∧ d = .lst ds := fun F H σ E hF hH Q q => h F H σ E hF hH _ fun p xs H' ds hp e h' hl a th => by
  refine q _ H' _ e h' (.lst (SqL.of ?_) (a.mono (hid_sub fun z hz => List.mem_cons_of_mem _ hz))) ⟨ds, th, rfl⟩
  rw [hid_out (E.new hp)]
  exact hl
/-! arguments, displays, calls -/
theorem xa_nil : XA K C tNil Γ n n fun ds => ds = [] := fun F H σ E hF hH Q q => q [] H [] .refl hH .nil rfl
theorem xa_cons {r : TA} {Θ : List D → Prop} (h : XE K C te Γ n m Φ) (hr : XA K C r Γ m k Θ) : XA K C (tCons te r) Γ n k fun ds => ∃ d es, Φ d ∧ Θ es ∧ ds = d :: es := fun F H σ E hF hH Q q => h F H σ E hF hH _ fun v H1 d e1 h1 i1 p1 =>
  hr F H1 σ (E.monoC hF hH e1 h1) hF h1 _ fun vs H2 es e2 h2 a2 p2 => q _ H2 _ (e1.trans e2) h2 (.cons (i1.mono (e2.hid hF.inl)) a2) ⟨d, es, p1, p2, rfl⟩
theorem xa {r : TA} (h : DA K r Γ ds) : XA K C r Γ n n fun x => x = ds := fun F H σ E hF hH Q q => h F H σ E _ fun vs H' e a => q vs H' ds (.of e) (hH.mono e) a rfl
theorem XA.imp {r : TA} {Θ Θ1 : List D → Prop} (h : XA K C r Γ n m Θ) (f : ∀ d, Θ d → Θ1 d) : XA K C r Γ n m Θ1 := fun F H σ E hF hH Q q => h F H σ E hF hH Q fun vs H' ds e h' a p => q vs H' ds e h' a (f ds p)
theorem HopF.new (hF : HopF C F) (hH : HopH C n H) {p : Addr} (hp : H p = none) : p ≠ C.hp := fun z => by
  obtain ⟨l, s, q, _⟩ := hH
  rw [z, q] at hp
  cases hp
theorem xe_tup {r : TA} {Θ : List D → Prop} (h : XA K C r Γ n m Θ) (hl : ∀ ds, Θ ds → ds.length ≤ 16000000) : XE K C (tTup r) Γ n m fun d => ∃ ds, Θ ds ∧ d = .tup ds := fun F H σ E hF hH Q q => h F H σ E hF hH _ fun vs H1 ds e1 h1 a1 p1 => by
  have E1 := E.monoC hF hH e1 h1
  refine ⟨by rw [a1.length]; exact line_of (hl ds p1), fun p hp => ?_⟩
  exact q _ _ _ (e1.trans (.of (Ex.new hp))) (h1.mono (Ex.new hp)) (.tup (SqT.of (E1.put hp)) (a1.mono (hid_mono (Ex.new hp)))) ⟨ds, p1, rfl⟩
theorem xn_lst {r : TA} {Θ : List D → Prop} (h : XA K C r Γ n m Θ) (hl : ∀ ds, Θ ds → ds.length ≤ 16000000) : XN K C (tLst r) Γ n m Θ := fun F H σ E hF hH Q q => h F H σ E hF hH _ fun vs H1 ds e1 h1 a1 p1 => by
  refine ⟨by rw [a1.length]; exact line_of (hl ds p1), fun p hp => ?_⟩
  have hp0 : H p = none := by
    cases z : H p with
    | none => rfl
    | some o =>
      rw [e1 p o (fun w => by obtain ⟨l, s, q, _⟩ := h1; rw [w, q] at hp; cases hp) z] at hp
      cases hp
  exact q p vs _ ds hp0 (e1.trans (.of (Ex.new hp))) (h1.mono (Ex.new hp)) upd_same (a1.mono (ex_new hp)) p1
/-- a call of a def that draws nothing -/
theorem xe_call {l : Nat} {R : List D → D → Prop} {X : XK} {r : TA} {Θ : List D → Prop} (h : XA K C r Γ n m Θ) (hr : ∀ ds, Θ ds → ds.length = l ∧ ∃ d, R ds d ∧ Φ d) : XE K C (tCall (spD K l R) [] X r) Γ n m Φ := fun F H σ E hF hH Q q => h F H σ E hF hH _ fun vs H1 ds e1 h1 a1 p1 => by
  obtain ⟨hl, d, hR, hd⟩ := hr ds p1
  show spD K l R (vs ++ []) H1 Q X
  rw [List.append_nil]
  exact ⟨by rw [a1.length, hl], hotOf F Γ, ds, d, fun p hp => (E.monoC hF hH e1 h1).there hp, a1, hR, fun v H' e i => q v H' d (e1.trans (.of e)) (h1.mono e) i hd⟩
/-- the promise of a def that draws: c draws at most -/
def spX (K : PySem.W.Frag) (l c : Nat) (R : List D → D → Prop) : Sp := fun vs H Q _ => ∃ (C : Hc) (n : Nat) (hot : List Addr) (vs' : List V) (ds : List D), vs = .ref C.hp :: vs' ∧ vs'.length = l ∧ (∀ p ∈ hot, H p ≠ none) ∧ C.hp ∈ hot ∧ C.cl ∉ hot ∧ H C.cl = some (.lst (C.cells.map V.int)) ∧ HopH C n H ∧ n + c ≤ 100000 ∧
  IsAll K (hid hot H) vs' ds ∧ (∃ d, R ds d) ∧ ∀ v H' d, ExC C H H' → HopH C (n + c) H' → Is K (hid hot H') v d → R ds d → Q v H'
theorem xe_draw {l c i : Nat} {R : List D → D → Prop} {X : XK} {r : TA} {Θ : List D → Prop} (hi : Γ[i]? = some (.at_ C.hp)) (h : XA K C r Γ n m Θ) (hr : ∀ ds, Θ ds → ds.length = l ∧ (∃ d, R ds d) ∧ ∀ d, R ds d → Φ d) (hk : m + c ≤ 100000) : XE K C (tCall (spX K l c R) [] X (tCons (tVar i) r)) Γ n (m + c) Φ := fun F H σ E hF hH Q q => by
  obtain ⟨v0, h0, h00⟩ := E.ent i _ hi
  have h00 : v0 = some (.ref C.hp) := h00
  subst h00
  refine ⟨.ref C.hp, h0, h F H σ E hF hH _ fun vs H1 ds e1 h1 a1 p1 => ?_⟩
  obtain ⟨hl, hR, hd⟩ := hr ds p1
  have E1 := E.monoC hF hH e1 h1
  show spX K l c R ((.ref C.hp :: vs) ++ []) H1 Q X
  rw [List.append_nil]
  exact ⟨C, m, hotOf F Γ, vs, ds, rfl, by rw [a1.length, hl], fun p hp => E1.there hp, hF.inl, hF.noff E1, hF.now E1, h1, hk, a1, hR, fun v H' d e hh i p => q v H' d (e1.trans e) hh i (hd d p)⟩
end
end Lk
set_option maxHeartbeats 1000000
namespace Lk
open PySem PySem.Spec PyProof.Rows L2
open Evl (Ex)
open C8 (Cal pe_c Mak pe_mk)
inductive All2 {α : Type} (G : α → D → Prop) : List α → List D → Prop
  | nil : All2 G [] []
  | cons {a : α} {d : D} {as : List α} {ds : List D} : G a d → All2 G as ds → All2 G (a :: as) (d :: ds)
theorem All2.length {α : Type} {G : α → D → Prop} : ∀ {as : List α} {ds : List D}, All2 G as ds → as.length = ds.length
  | _, _, .nil => rfl
  | _, _, .cons _ a => congrArg Nat.succ a.length
theorem All2.append {α : Type} {G : α → D → Prop} : ∀ {as bs : List α} {ds es : List D}, All2 G as ds → All2 G bs es → All2 G (as ++ bs) (ds ++ es)
  | _, _, _, _, .nil, b => b
  | _, _, _, _, .cons h a, b => .cons h (a.append b)
section
variable {K : PySem.W.Frag} {C : Hc} {F : Fx} {H H' : Hp} {σ : L2.St} {Γ Γ' Γ1 Γ2 Γw : Ctx} {ta tb te tc : TE} {tt tu : TT} {d e d1 d2 : D} {ds es : List D} {t u w : TS} {n m k j : Nat} {Φ Φ1 Φ2 : D → Prop} {Ψ Ψ1 Ψ2 : Ctx → Prop} {wi : TI} {g : TG} {js vs : List Nat}
theorem HopF.fresh_cl (hF : HopF C F) (E : Env K F H σ Γ) {p : Addr} (hp : H p = none) : p ≠ C.cl := fun z => by
  rw [z, hF.now E] at hp
  cases hp
theorem ExC.mut (e : ExC C H H') {p : Addr} (hp : H p = none) {o : HO} : ExC C H (upd H' p o) := fun a u ha q => by
  rw [upd_ne (ne_of_none q hp)]
  exact e a u ha q
theorem ExC.new2 {l : List Addr} (hl : C.hp ∈ l) (hp : H p = none) (e : ExC C H H') : Ex (Lk.hid l H) (Lk.hid (p :: l) H') := fun a u h => by
  obtain ⟨n1, q⟩ := hid_some h
  rw [hid_out (by simp only [List.mem_cons, not_or]; exact ⟨ne_of_none q hp, n1⟩)]
  exact e a u (fun z => n1 (by rw [z]; exact hl)) q
theorem freshC (h : HopH C n H) (h' : HopH C m H') (e : ExC C H H') {p : Addr} (hp : H' p = none) : H p = none := by
  cases z : H p with
  | none => rfl
  | some o =>
    rw [e p o (fun w => by obtain ⟨l, s, q, _⟩ := h'; rw [w, q] at hp; cases hp) z] at hp
    cases hp
/-- [e for x in .. if ..], e draws -/
theorem xn_lc {α : Type} {as : List α} {em : α → D} {f : α → Bool} {G : α → D → Prop} {Γa : α → Ctx} {c : Nat} (hI : DI K wi Γ (as.map em)) (hw : wipeC Γ vs = Γw) (ho : owned Γw = owned Γ) (hg : ∀ a ∈ as, DG K g js (em a) Γw (Γa a)) (hjs : ∀ j ∈ js, j ∈ vs)
    (ht : ∀ a ∈ as, DT K tt (Γa a) (f a)) (he : ∀ a ∈ as, f a = true → ∀ j, j ≤ n + as.length * c → XE K C te (Γa a) j (j + c) (G a)) (hl : as.length < 16000000) : XN K C (tLc wi g tt te vs) Γ n (n + as.length * c) fun ds => All2 G (as.filter f) ds := fun F H σ E hF hH Q q =>
  hI F H σ E _ fun J H1 Gd e hG W Dl hD => by
    have E1 := E.mono e
    have h1H := hH.mono e
    have Ew : Env K F H1 (L2.wipe σ vs) Γw := by
      rw [← hw] at ho ⊢
      exact E1.wipe ho
    have hh : ∀ Γx : Ctx, owned Γx = owned Γw → hotOf (F.more Dl) Γx = Dl :: hotOf F Γ := fun Γx hx => by
      show Dl :: (F.hot ++ owned Γx) = Dl :: (F.hot ++ owned Γ)
      rw [hx, ho]
    have h0D : (F.more Dl).H0 Dl = none := E1.fresh0 hD
    have hlen : (as.map em).length = as.length := List.length_map _
    have hFm : HopF C (F.more Dl) := hF.more (hF.fresh_cl E1 hD)
    have hne : Dl ≠ C.hp := hF.new h1H hD
    have hin : C.hp ∈ hotOf F Γ := hF.inl
    have hin2 : C.hp ∈ Dl :: hotOf F Γ := List.mem_cons_of_mem _ hin
    refine lc_it W (fun i H' => Env K (F.more Dl) H' (L2.wipe σ vs) Γw ∧ ExC C H1 H' ∧ HopH C (n + i * c) H' ∧ ∃ acc gs, H' Dl = some (.lst acc) ∧ IsAll K (hid (Dl :: hotOf F Γ) H') acc gs ∧ All2 G ((as.take i).filter f) gs) ?_ (fun i H' hi p => ?_) (fun i x Ha Hb hi p y => ?_) fun H' p => ?_
    · exact ⟨Ew.hot1 hD (Ex.new hD) (by rw [upd_same]; exact fun z => nomatch z), .of (Ex.new hD), by rw [Nat.zero_mul, Nat.add_zero]; exact h1H.mono (Ex.new hD), [], [], upd_same, .nil, .nil⟩
    · exact hG H' fun a o q => hid_le a o (p.2.1.hid hin a o q)
    · obtain ⟨pE, pX, pH, acc, gs, pD, pA, pG⟩ := p
      have ex0 : Ex (hid (hotOf F Γ) H1) (hid (hotOf (F.more Dl) Γw) Ha) := by
        rw [hh Γw rfl]
        exact pX.new2 hin hD
      obtain ⟨ex, d, h1, h2⟩ := y.ex ex0 fun a ha => pE.there ha
      obtain ⟨a, ha, rfl⟩ : ∃ a, as[i]? = some a ∧ em a = d := by
        rw [List.getElem?_map] at h1
        cases q0 : as[i]? with
        | none =>
          rw [q0] at h1
          cases h1
        | some a =>
          rw [q0] at h1
          exact ⟨a, rfl, Option.some.inj h1⟩
      have hi' : i < as.length := (List.getElem?_eq_some_iff.mp ha).1
      have hm : a ∈ as := List.mem_of_getElem? ha
      have ga := hg a hm
      have hic : (i + 1) * c ≤ as.length * c := Nat.mul_le_mul_right _ hi'
      have hic2 : (i + 1) * c = i * c + c := Nat.succ_mul _ _
      refine ga.2 (F.more Dl) Hb _ x (pE.mono ex) h2 _ fun σ2 E2 w2 => ⟨(w2 vs hjs).trans wipe_wipe, ?_⟩
      refine ht a hm (F.more Dl) Hb σ2 E2 _ fun H3 e3 => ?_
      cases hf : f a with
      | true =>
        rw [if_pos rfl]
        refine he a hm hf (n + i * c) (by omega) (F.more Dl) H3 σ2 (E2.mono e3) hFm ((pH.mono ex).mono e3) _ fun y H4 d4 e4 h4 i4 p4 => ?_
        have e04 : ExC C Ha H4 := ((ExC.of ex).trans (.of e3)).trans e4
        have pE4 : Env K (F.more Dl) H4 (L2.wipe σ vs) Γw := pE.monoC hFm pH e04 h4
        have hacc : IsAll K (hid (Dl :: hotOf F Γ) H4) acc gs := pA.mono (e04.hid hin2)
        have hle : acc.length ≤ as.length := by
          rw [hacc.length, ← pG.length]
          exact Nat.le_trans (List.length_filter_le _ _) (by rw [List.length_take]; exact Nat.min_le_right _ _)
        refine ⟨acc, e04 _ _ hne pD, line_lt (by omega), pE4.updHot (List.mem_cons_self ..) (.inl h0D), (pX.trans e04).mut hD, ?_, acc ++ [y], gs ++ [d4], upd_same, ?_, ?_⟩
        · rw [hic2, ← Nat.add_assoc]
          exact h4.off hne
        · rw [hid_upd (List.mem_cons_self ..)]
          refine hacc.append (.cons ?_ .nil)
          rw [hh (Γa a) ga.1] at i4
          exact i4
        · rw [List.take_add_one, ha, List.filter_append]
          refine pG.append ?_
          show All2 G ([a].filter f) [d4]
          rw [List.filter_cons, if_pos hf]
          exact .cons p4 .nil
      | false =>
        rw [if_neg Bool.false_ne_true]
        have e03 : Ex Ha H3 := ex.trans e3
        refine ⟨pE.mono e03, pX.trans (.of e03), (pH.mono e03).le (by rw [hic2]; omega), acc, gs, e03 _ _ pD, pA.mono (hid_mono e03), ?_⟩
        rw [List.take_add_one, ha, List.filter_append]
        have e5 : (some a).toList.filter f = [] := by
          show [a].filter f = []
          rw [List.filter_cons, hf, if_neg Bool.false_ne_true]
          rfl
        rw [e5, List.append_nil]
        exact pG
    · obtain ⟨pE, pX, pH, acc, gs, pD, pA, pG⟩ := p
      rw [hlen] at pG pH
      rw [List.take_length] at pG
      exact q Dl acc H' gs (Evl.fresh_back e hD) (((ExC.of e).trans pX)) pH pD pA pG
/-- a loop whose body draws -/
theorem xs_for {c : Nat} (hI : DI K wi Γ ds) (Ψs : Nat → Ctx → Prop) (h0 : Ψs 0 Γ) (ho : ∀ i Γ', Ψs i Γ' → owned Γ' = owned Γ)
    (step : ∀ i d Γ', ds[i]? = some d → Ψs i Γ' → ∃ js Γ1, DG K g js d Γ' Γ1 ∧ XS K C t Γ1 (n + i * c) (n + (i + 1) * c) (Ψs (i + 1))) : XS K C (tFor wi g t) Γ n (n + ds.length * c) (Ψs ds.length) := fun F H σ Z E hF hH q =>
  hI F H σ E _ fun J H1 G e hG W => by
    have E1 := E.mono e
    have h1H := hH.mono e
    have hFb := hF.base E1
    refine for_it W (fun i σ' H' => ∃ Γ', Env K (F.at_ Γ H1) H' σ' Γ' ∧ HopH C (n + i * c) H' ∧ Ψs i Γ') ⟨Γ, E1.base, by rw [Nat.zero_mul, Nat.add_zero]; exact h1H, h0⟩ (fun i σ' H' hi p => ?_) (fun i x σ' Ha Hb hi p y => ?_) fun σ' H' p => ?_
    · obtain ⟨Γ', pE, _, pΨ⟩ := p
      exact hG H' ((E1.stay pE (ho i Γ' pΨ)).trans hid_le)
    · obtain ⟨Γ', pE, pH, pΨ⟩ := p
      have hoi := ho i Γ' pΨ
      obtain ⟨ex, d, h1, h2⟩ := y.ex (E1.stay pE hoi) fun a ha => pE.there ha
      obtain ⟨js, Γ1, hg, hb⟩ := step i d Γ' h1 pΨ
      exact hg.2 (F.at_ Γ H1) Hb σ' x (pE.mono ex) h2 _ fun σ2 E2 _ => hb (F.at_ Γ H1) Hb σ2 _ E2 hFb (pH.mono ex) fun σ3 H3 Γ3 E3 h3 p3 => ⟨Γ3, E3, h3, p3⟩
    · obtain ⟨Γ', pE, pH, pΨ⟩ := p
      exact q σ' H' Γ' (E1.unbase pE (ho _ _ pΨ)) pH pΨ
/-- while: by a measure of the slots -/
theorem xs_while {c : Nat} (Ψ : Nat → Ctx → Prop) (N : Nat) (h0 : Ψ N Γ) (ho : ∀ i Γ', Ψ i Γ' → owned Γ' = owned Γ) (hc : ∀ i Γ', i < N → Ψ (i + 1) Γ' → DT K tt Γ' true) (he : ∀ Γ', Ψ 0 Γ' → DT K tt Γ' false)
    (hb : ∀ i Γ', i < N → Ψ (i + 1) Γ' → ∀ j, j + c ≤ n + N * c → XS K C t Γ' j (j + c) (Ψ i)) : XS K C (tWhile tt t) Γ n (n + N * c) (Ψ 0) := fun F H σ Z E hF hH q => by
  refine ⟨fun i σ' H' => i ≤ N ∧ ∃ Γ', Env K F H' σ' Γ' ∧ HopH C (n + (N - i) * c) H' ∧ Ψ i Γ', ⟨N, Nat.le_refl _, Γ, E, by rw [Nat.sub_self, Nat.zero_mul, Nat.add_zero]; exact hH, h0⟩, fun i σ' H' hw => ?_⟩
  obtain ⟨hi, Γ', pE, pH, pΨ⟩ := hw
  cases i with
  | zero =>
    refine he Γ' pΨ F H' σ' pE _ fun H2 e2 => ?_
    rw [if_neg Bool.false_ne_true]
    exact q _ _ Γ' (pE.mono e2) (by have := pH.mono e2; rwa [Nat.sub_zero] at this) pΨ
  | succ i =>
    refine hc i Γ' hi pΨ F H' σ' pE _ fun H2 e2 => ?_
    rw [if_pos rfl]
    have e5 : (N - (i + 1)) * c + c = (N - i) * c := by
      rw [← Nat.succ_mul]
      congr 1
      omega
    have e6 : (N - i) * c ≤ N * c := Nat.mul_le_mul_right _ (Nat.sub_le _ _)
    refine ⟨fun σ3 H3 => ∃ Γ3, Env K F H3 σ3 Γ3 ∧ HopH C (n + (N - i) * c) H3 ∧ Ψ i Γ3, fun σ3 H3 p3 => ⟨i, Nat.lt_succ_self i, Nat.le_of_lt hi, p3⟩, ?_⟩
    refine hb i Γ' hi pΨ (n + (N - (i + 1)) * c) (by omega) F H2 σ' _ (pE.mono e2) hF (pH.mono e2) fun σ3 H3 Γ3 E3 h3 p3 => ⟨Γ3, E3, ?_, p3⟩
    rw [Nat.add_assoc, e5] at h3
    exact h3
/-- xs.append(ys.pop(e)) -/
theorem xs_appPop {i l : Nat} {p r : Addr} {es : List D} (h : Γ[i]? = some (.own p ds)) (hl : Γ[l]? = some (.own r es)) (hil : i ≠ l) (he : XE K C te Γ n m fun d => ∃ j : Nat, d = .int (j : Int) ∧ j < es.length) (hlen : ds.length < 16000000) (hle : es.length < 1000000) :
    XS K C (tDrop (tBM K "list" rAppend (tVar i) (tCons (tBM K "list" rPopAt (tVar l) (tCons te tNil)) tNil))) Γ n m fun Γ' => ∃ (j : Nat) (d : D), es[j]? = some d ∧ Γ' = (Γ.set l (.own r (es.eraseIdx j))).set i (.own p (ds ++ [d])) := fun F H σ Z E hF hH q => by
  obtain ⟨v, h1, rfl, xs, h2, h3⟩ := E.ent i _ h
  obtain ⟨v', g1, rfl, ys, g2, g3⟩ := E.ent l _ hl
  refine ⟨.ref p, h1, .inl ⟨rfl, xs, SqL.of h2⟩, .ref r, g1, .inl ⟨rfl, ys, SqL.of g2⟩, he F H σ E hF hH _ fun v H1 d0 e1 hh1 i1 p1 => ?_⟩
  obtain ⟨j, rfl, hj⟩ := p1
  cases i1
  have E1 := E.monoC hF hH e1 hh1
  obtain ⟨_, a1, a0, xs', a2, a3⟩ := E1.ent i _ h
  obtain ⟨_, b1, b0, ys', b2, b3⟩ := E1.ent l _ hl
  have nr : r ≠ C.hp := own_ne E hF hl (List.mem_singleton.mpr rfl)
  have np : p ≠ C.hp := own_ne E hF h (List.mem_singleton.mpr rfl)
  have npr : p ≠ r := fun z => owned_apart E.nd h hl hil (List.mem_singleton.mpr rfl) (List.mem_singleton.mpr z)
  have hd : es[j]? = some es[j] := List.getElem?_eq_getElem hj
  obtain ⟨y, hy, iy⟩ := b3.get hd
  have hsq : seqIndex? (j : Int) ys'.length = some j := PySem.StrLaws.seqIndex_nonneg (by omega) (by rw [b3.length]; omega)
  refine ⟨r, ys', (j : Int), j, y, rfl, rfl, b2, by omega, by omega, hsq, hy, ?_⟩
  have E2 : Env K F (upd H1 r (.lst (ys'.eraseIdx j))) σ (Γ.set l (.own r (es.eraseIdx j))) := E1.updO (e' := .own r (es.eraseIdx j)) hl rfl rfl ⟨rfl, _, upd_same, b3.eraseIdx j⟩
  have hi2 : (Γ.set l (.own r (es.eraseIdx j)))[i]? = some (.own p ds) := by rw [List.getElem?_set_ne (Ne.symm hil)]; exact h
  have eo : owned (Γ.set l (.own r (es.eraseIdx j))) = owned Γ := owned_set (e := .own r es) (e' := .own r (es.eraseIdx j)) rfl hl
  have rin : r ∈ hotOf F Γ := List.mem_append_right _ (owned_mem hl (List.mem_singleton.mpr rfl))
  have hx : IsAll K (hid (hotOf F (Γ.set l (.own r (es.eraseIdx j)))) (upd H1 r (.lst (ys'.eraseIdx j)))) (xs' ++ [y]) (ds ++ [es[j]]) := by
    unfold hotOf
    rw [eo]
    show IsAll K (hid (hotOf F Γ) _) _ _
    rw [hid_upd rin]
    exact a3.append (.cons iy .nil)
  refine ⟨p, xs', y, rfl, rfl, by rw [upd_ne npr]; exact a2, by rw [a3.length]; exact line_lt hlen, q σ _ _ (E2.updO (e' := .own p (ds ++ [es[j]])) hi2 rfl rfl ⟨rfl, xs' ++ [y], upd_same, hx⟩) ((hh1.off nr).off np) ⟨j, es[j], hd, rfl⟩⟩
end
/-! ### defs that draw -/
section
variable {P : Program} {w : World} {K : PySem.W.Frag} {mg : Str → Option Value} {base : Heap} {x qual : Str} {params : Arguments} {body : List Stmt} {scope : Scope} {dvs : List V} {kws : List (Str × V)} {f : Addr} {fd : FuncData}
def startX (N : List Str) (C : Hc) (ds : List D) : Ctx := .at_ C.hp :: (ds.map Ent.dat ++ List.replicate (N.length - (ds.length + 1)) Ent.no)
theorem env_startX {F : Fx} {H : Hp} {N : List Str} {vs : List V} {ds : List D} {C : Hc} (h0 : ∀ a o, a ∉ F.wr → F.H0 a = some o → H a = some o) (ht : ∀ p ∈ F.hot, H p ≠ none) (hw : ∀ p ∈ F.wr, p ∈ F.hot) (a : IsAll K (hid F.hot H) vs ds) : Env K F H (L2.start N (.ref C.hp :: vs)) (startX N C ds) := by
  have eo : owned (startX N C ds) = [] := owned_dat ds _
  have al := a.length
  refine ⟨?_, fun i e hx => ?_, h0, ht, by rw [eo]; exact List.nodup_nil, by rw [eo]; exact fun _ z => (List.not_mem_nil z).elim, hw⟩
  · unfold L2.start startX
    simp only [List.length_append, List.length_cons, List.length_map, List.length_replicate, al]
    omega
  · have eh : hotOf F (startX N C ds) = F.hot := by unfold hotOf; rw [eo, List.append_nil]
    rw [eh]
    unfold L2.start startX at *
    cases i with
    | zero =>
      cases hx
      exact ⟨_, rfl, rfl⟩
    | succ i =>
      have hx : (ds.map Ent.dat ++ List.replicate (N.length - (ds.length + 1)) Ent.no)[i]? = some e := hx
      show ∃ v, (vs.map some ++ List.replicate (N.length - (vs.length + 1)) none)[i]? = some v ∧ _
      by_cases hi : i < ds.length
      · rw [List.getElem?_append_left (by rw [List.length_map]; exact hi), List.getElem?_map] at hx
        rw [List.getElem?_append_left (by rw [List.length_map, al]; exact hi), List.getElem?_map]
        cases q : ds[i]? with
        | none =>
          rw [q] at hx
          cases hx
        | some d =>
          rw [q] at hx
          cases hx
          obtain ⟨v, h1, h2⟩ := a.get q
          rw [h1]
          exact ⟨_, rfl, v, rfl, h2⟩
      · rw [List.getElem?_append_right (by rw [List.length_map]; omega), List.length_map] at hx
        rw [List.getElem?_append_right (by rw [List.length_map, al]; omega), List.length_map, al]
        rw [List.getElem?_replicate] at hx ⊢
        split at hx
        · rename_i hlt
          cases hx
          rw [if_pos hlt]
          exact ⟨_, rfl, trivial⟩
        · cases hx
theorem fn_draw {N ps : List Str} {k l c : Nat} {R : List D → D → Prop} (F : FunD K x qual params body scope dvs kws f fd) (S : FnScope N ps scope) (hn : ps.length = l + 1)
    (hbody : ∀ (cdv : Value) (A : Around) (outer : List PySem.Env) (s : Shared) (H : Hp) (E : XK), Room k (A.deeper (envOfC qual scope s.heap.objs.size f cdv)) → ∃ t, PSs (cxOf CX0 P w K mg base N qual scope f cdv A outer s H E).nox body t ∧ ∀ C n ds, ds.length = l → (∃ d, R ds d) → n + c ≤ 100000 → XB K C t (startX N C ds) n (n + c) (R ds)) :
    FnOk P w K mg base CX0 (k + 1) f fd ps (spX K l c R) := by
  refine F.ok S (fun vs H Q E h => ?_) fun cdv A outer s H vs Q E hr h => ?_
  · obtain ⟨C, n, hot, vs', ds, rfl, h1, _⟩ := h
    rw [List.length_cons, h1, hn]
  obtain ⟨t, ht, hb⟩ := hbody cdv A outer s H E hr
  obtain ⟨C, n, hot, vs', ds, rfl, hl, hh, hin, hcl, hcells, hH, hk, a, hR, q⟩ := h
  refine ⟨t, ht.nox, hb C n ds (a.length.symm.trans hl) hR hk ⟨H, hot, [C.hp]⟩ H _ _ (env_startX (fun _ _ _ z => z) hh (fun p hp => by rw [List.mem_singleton.mp hp]; exact hin) a) ⟨rfl, hin, hcl, hcells⟩ hH fun v H' d h1 h2 h3 i p => q v H' d (fun a o z e => h1 a o (fun w => z (List.mem_singleton.mp w)) e) h3 i p⟩
end
end Lk
set_option maxHeartbeats 1000000
namespace Lk
open PySem PySem.Spec PyProof.Rows L2
open Evl (Ex)
open C8 (Cal pe_c Mak pe_mk)
/-! ### a def that owns the list it is given -/
def BO (K : PySem.W.Frag) (t : TS) (Γ : Ctx) (p cl : Addr) (cells : List Int) (Φ : D → Int → Prop) : Prop := ∀ (F : Fx) (H : Hp) (σ : L2.St) (Z : Ends), Env K F H σ Γ → (∀ v H' Γ' σ' d lap sand, Env K F H' σ' Γ' → Γ'[0]? = some (.hpo p cl cells lap sand) → Is K (hid (hotOf F Γ') H') v d → Φ d lap → Z.rt v H') → t Z σ H
section
variable {K : PySem.W.Frag} {Γ Γ' Γ1 Γ2 Γw : Ctx} {ta tb te tc : TE} {tt tu : TT} {d e d1 d2 : D} {ds es : List D} {t u w : TS} {p cl : Addr} {cells : List Int} {lap sand : Int} {Φ : D → Int → Prop}
theorem bo_ret (h : DE K te Γ d) (h0 : Γ[0]? = some (.hpo p cl cells lap sand)) (hp : Φ d lap) : BO K (tRet te) Γ p cl cells Φ := fun F H σ Z E q => h F H σ E _ fun v H' e i => q v H' Γ σ d lap sand (E.mono e) h0 i hp
theorem bo_seq (h1 : St K t Γ Γ1) (h2 : BO K u Γ1 p cl cells Φ) : BO K (tSeq t u) Γ p cl cells Φ := fun F H σ Z E q => h1 F H σ { Z with nx := u Z } E fun σ' H' E' => h2 F H' σ' Z E' q
theorem bo_guard {b : Bool} (h : DT K tt Γ b) (h1 : b = true → BO K t Γ p cl cells Φ) (h2 : b = false → BO K w Γ p cl cells Φ) : BO K (tSeq (tIfS tt t tNext) w) Γ p cl cells Φ := fun F H σ Z E q => h F H σ E _ fun H1 e1 => by
  cases b with
  | true => exact h1 rfl F H1 σ { Z with nx := w Z } (E.mono e1) q
  | false => exact h2 rfl F H1 σ Z (E.mono e1) q
/-- xs[j] = e, an owned list -/
theorem s_setO {i j : Nat} {k : Int} (h : Γ[i]? = some (.own p ds)) (he : DE K te Γ d) (hk : DE K tb Γ (.int k)) (hj : ixN ds.length k = some j) : St K (tAsg te (gSub (tVar i) tb rSetL)) Γ (Γ.set i (.own p (ds.set j d))) := fun F H σ Z E q =>
  he F H σ E _ fun v H1 e1 i1 => by
    obtain ⟨v', h1, rfl, xs, h2, h3⟩ := (E.mono e1).ent i _ h
    refine ⟨.ref p, h1, hk F H1 σ (E.mono e1) _ fun v2 H2 e2 i2 => ?_⟩
    cases i2
    have E2 := (E.mono e1).mono e2
    refine ⟨p, xs, k, j, rfl, rfl, e2 p _ h2, by rw [h3.length]; exact hj, q σ _ (E2.updO (e' := .own p (ds.set j d)) h rfl rfl ⟨rfl, _, upd_same, (h3.mono (hid_mono e2)).set j (i1.mono (hid_mono e2))⟩)⟩
/-- the three entries of the list, read and stored -/
theorem hpo_at {F : Fx} {H : Hp} {σ : L2.St} {i : Nat} (E : Env K F H σ Γ) (h : Γ[i]? = some (.hpo p cl cells lap sand)) : σ[i]? = some (some (.ref p)) ∧ H p = some (.lst [.ref cl, .int lap, .int sand]) ∧ Is K (hid (hotOf F Γ) H) (.ref cl) (.lst (cells.map D.int)) := by
  obtain ⟨v, h1, rfl, h2⟩ := E.ent i _ h
  exact ⟨h1, h2⟩
theorem de_h0 {i : Nat} (h : Γ[i]? = some (.hpo p cl cells lap sand)) : DE K (tOp (rIxL K) (tVar i) (tC (.int 0))) Γ (.lst (cells.map D.int)) := fun F H σ E Q q => by
  obtain ⟨h1, h2, h3⟩ := hpo_at E h
  exact ⟨.ref p, h1, p, _, 0, .ref cl, rfl, rfl, SqL.of h2, rfl, q _ H (Ex.refl H) h3⟩
theorem de_h1 {i : Nat} (h : Γ[i]? = some (.hpo p cl cells lap sand)) : DE K (tOp (rIxL K) (tVar i) (tC (.int 1))) Γ (.int lap) := fun F H σ E Q q => by
  obtain ⟨h1, h2, h3⟩ := hpo_at E h
  exact ⟨.ref p, h1, p, _, 1, .int lap, rfl, rfl, SqL.of h2, rfl, q _ H (Ex.refl H) (.int _)⟩
theorem de_h2 {i : Nat} (h : Γ[i]? = some (.hpo p cl cells lap sand)) : DE K (tOp (rIxL K) (tVar i) (tC (.int 2))) Γ (.int sand) := fun F H σ E Q q => by
  obtain ⟨h1, h2, h3⟩ := hpo_at E h
  exact ⟨.ref p, h1, p, _, 2, .int sand, rfl, rfl, SqL.of h2, rfl, q _ H (Ex.refl H) (.int _)⟩
theorem s_h1 {i : Nat} {k : Int} (h : Γ[i]? = some (.hpo p cl cells lap sand)) (he : DE K te Γ (.int k)) : St K (tAsg te (gSub (tVar i) (tC (.int 1)) rSetL)) Γ (Γ.set i (.hpo p cl cells k sand)) := fun F H σ Z E q =>
  he F H σ E _ fun v H1 e1 i1 => by
    cases i1
    obtain ⟨h1, h2, h3⟩ := hpo_at (E.mono e1) h
    exact ⟨.ref p, h1, p, _, 1, 1, rfl, rfl, h2, rfl, q σ _ ((E.mono e1).updO (e' := .hpo p cl cells k sand) h rfl rfl ⟨rfl, upd_same, h3⟩)⟩
theorem s_h2 {i : Nat} {k : Int} (h : Γ[i]? = some (.hpo p cl cells lap sand)) (he : DE K te Γ (.int k)) : St K (tAsg te (gSub (tVar i) (tC (.int 2)) rSetL)) Γ (Γ.set i (.hpo p cl cells lap k)) := fun F H σ Z E q =>
  he F H σ E _ fun v H1 e1 i1 => by
    cases i1
    obtain ⟨h1, h2, h3⟩ := hpo_at (E.mono e1) h
    exact ⟨.ref p, h1, p, _, 2, 2, rfl, rfl, h2, rfl, q σ _ ((E.mono e1).updO (e' := .hpo p cl cells lap k) h rfl rfl ⟨rfl, upd_same, h3⟩)⟩
abbrev rInt1 : List V → Hp → VK → Prop := fun xs H Q => (∃ i, xs = [.int i] ∧ Q (.int i) H) ∨ ∃ k, xs = [.bl k] ∧ Q (.int (if k then 1 else 0)) H
theorem de_int1 {i : Int} (ha : DE K ta Γ (.int i)) : DE K (tCB rInt1 (tCons ta tNil)) Γ (.int i) := fun F H σ E Q q => ha F H σ E _ fun v H1 e1 i1 => by
  cases i1
  exact .inl ⟨i, rfl, q _ H1 e1 (.int i)⟩
theorem de_int1b {b : Bool} (ha : DE K ta Γ (.bl b)) : DE K (tCB rInt1 (tCons ta tNil)) Γ (.int (if b then 1 else 0)) := fun F H σ E Q q => ha F H σ E _ fun v H1 e1 i1 => by
  cases i1
  exact .inr ⟨b, rfl, q _ H1 e1 (.int _)⟩
theorem de_pow {i j : Int} (ha : DE K ta Γ (.int i)) (hb : DE K tb Γ (.int j)) (hc : CPow i j) : DE K (tOp (rI CPow fun i j => .int (i ^ j.toNat)) ta tb) Γ (.int (i ^ j.toNat)) := de_opI ha hb hc fun _ => .int _
end
section
variable {P : Program} {w : World} {K : PySem.W.Frag} {mg : Str → Option Value} {base : Heap} {x qual : Str} {params : Arguments} {body : List Stmt} {scope : Scope} {dvs : List V} {kws : List (Str × V)} {f : Addr} {fd : FuncData}
theorem fn_own {N ps : List Str} {k l c : Nat} {R : List D → D → Prop} (F : FunD K x qual params body scope dvs kws f fd) (S : FnScope N ps scope) (hn : ps.length = l + 1)
    (hbody : ∀ (cdv : Value) (A : Around) (outer : List PySem.Env) (s : Shared) (H : Hp) (E : XK), Room k (A.deeper (envOfC qual scope s.heap.objs.size f cdv)) → ∃ t, PSs (cxOf CX0 P w K mg base N qual scope f cdv A outer s H E).nox body t ∧ ∀ (p cl : Addr) (cells : List Int) (lap sand : Int) (ds : List D), ds.length = l → (∃ d, R ds d) → 0 ≤ lap → lap ≤ 100000 →
      BO K t (.hpo p cl cells lap sand :: (ds.map Ent.dat ++ List.replicate (N.length - (ds.length + 1)) Ent.no)) p cl cells fun d lap' => R ds d ∧ 0 ≤ lap' ∧ lap' ≤ lap + c) :
    FnOk P w K mg base CX0 (k + 1) f fd ps (spX K l c R) := by
  refine F.ok S (fun vs H Q E h => ?_) fun cdv A outer s H vs Q E hr h => ?_
  · obtain ⟨C, n, hot, vs', ds, rfl, h1, _⟩ := h
    rw [List.length_cons, h1, hn]
  obtain ⟨t, ht, hb⟩ := hbody cdv A outer s H E hr
  obtain ⟨C, n, hot, vs', ds, rfl, hl, hh, hin, hcl, hcells, hH, hk, a, hR, q⟩ := h
  obtain ⟨lap, sand, h1, h2, h3⟩ := hH
  let hot' := hot.filter fun z => !decide (z = C.hp)
  have hm : ∀ z, z ∈ hot' ↔ z ∈ hot ∧ z ≠ C.hp := fun z => by
    rw [List.mem_filter]
    simp
  let F' : Fx := ⟨fun z => if z = C.hp then none else H z, hot', []⟩
  let Γ0 : Ctx := .hpo C.hp C.cl C.cells lap sand :: (ds.map Ent.dat ++ List.replicate (N.length - (ds.length + 1)) Ent.no)
  have eo : owned Γ0 = [C.hp] := by
    show C.hp :: owned (ds.map Ent.dat ++ List.replicate _ Ent.no) = [C.hp]
    rw [owned_dat]
  have hc : ∀ (Γ' : Ctx), owned Γ' = [C.hp] → ∀ z, z ∈ hotOf F' Γ' ↔ z ∈ hot := fun Γ' he z => by
    unfold hotOf
    rw [he, List.mem_append, List.mem_singleton]
    show z ∈ hot' ∨ z = C.hp ↔ z ∈ hot
    rw [hm]
    constructor
    · rintro (⟨w, _⟩ | rfl)
      · exact w
      · exact hin
    · intro w
      by_cases e : z = C.hp
      · exact .inr e
      · exact .inl ⟨w, e⟩
  have al := a.length
  have icl : Is K (hid hot H) (.ref C.cl) (.lst (C.cells.map D.int)) := .lst (SqL.of (by rw [hid_out hcl]; exact hcells)) (IsAll.ofInts _)
  have E0 : Env K F' H (L2.start N (.ref C.hp :: vs')) Γ0 := by
    refine ⟨?_, fun i e hx => ?_, fun z o _ hz => ?_, fun p hp => hh p ((hm p).mp hp).1, by rw [eo]; exact List.nodup_cons.mpr ⟨List.not_mem_nil, List.nodup_nil⟩, fun p hp => ?_, fun _ z => (List.not_mem_nil z).elim⟩
    · show (L2.start N (.ref C.hp :: vs')).length = (.hpo C.hp C.cl C.cells lap sand :: (ds.map Ent.dat ++ List.replicate (N.length - (ds.length + 1)) Ent.no) : Ctx).length
      unfold L2.start
      simp only [List.length_append, List.length_cons, List.length_map, List.length_replicate, al]
      omega
    · rw [hid_congr (hc Γ0 eo)]
      unfold L2.start
      cases i with
      | zero =>
        cases hx
        exact ⟨_, rfl, rfl, h1, icl⟩
      | succ i =>
        have hx : (ds.map Ent.dat ++ List.replicate (N.length - (ds.length + 1)) Ent.no)[i]? = some e := hx
        show ∃ v, (vs'.map some ++ List.replicate (N.length - (vs'.length + 1)) none)[i]? = some v ∧ _
        by_cases hi : i < ds.length
        · rw [List.getElem?_append_left (by rw [List.length_map]; exact hi), List.getElem?_map] at hx
          rw [List.getElem?_append_left (by rw [List.length_map, al]; exact hi), List.getElem?_map]
          cases q0 : ds[i]? with
          | none =>
            rw [q0] at hx
            cases hx
          | some d =>
            rw [q0] at hx
            cases hx
            obtain ⟨v, g1, g2⟩ := a.get q0
            rw [g1]
            exact ⟨_, rfl, v, rfl, g2⟩
        · rw [List.getElem?_append_right (by rw [List.length_map]; omega), List.length_map] at hx
          rw [List.getElem?_append_right (by rw [List.length_map, al]; omega), List.length_map, al]
          rw [List.getElem?_replicate] at hx ⊢
          split at hx
          · rename_i hlt
            cases hx
            rw [if_pos hlt]
            exact ⟨_, rfl, trivial⟩
          · cases hx
    · have hz : (if z = C.hp then none else H z) = some o := hz
      split at hz
      · cases hz
      · exact hz
    · rw [eo] at hp
      obtain rfl := List.mem_singleton.mp hp
      exact ⟨fun z => ((hm _).mp z).2 rfl, if_pos rfl⟩
  refine ⟨t, ht.nox, hb C.hp C.cl C.cells lap sand ds (a.length.symm.trans hl) hR h2 (by omega) F' H _ _ E0 fun v H' Γ' σ' d lap' sand' E' hΓ iv hΦ => ?_⟩
  obtain ⟨hR', b1, b2⟩ := hΦ
  obtain ⟨_, c1, _⟩ := hpo_at E' hΓ
  have hpo : C.hp ∈ owned Γ' := owned_mem hΓ (List.mem_singleton.mpr rfl)
  have hsub : ∀ z ∈ hot, z ∈ hotOf F' Γ' := fun z hz => by
    by_cases e : z = C.hp
    · subst e
      exact List.mem_append_right _ hpo
    · exact List.mem_append_left _ ((hm z).mpr ⟨hz, e⟩)
  have hex : ExC C H H' := fun z o hz e => E'.frame z o List.not_mem_nil (by
    show (if z = C.hp then none else H z) = some o
    rw [if_neg hz]
    exact e)
  exact q v H' d hex ⟨lap', sand', c1, b1, by omega⟩ (iv.mono (hid_sub hsub)) hR'
end
def Rsift : List D → D → Prop := fun ds d => ∃ m r : Int, ds = [.int m] ∧ 1 ≤ m ∧ m ≤ 1000 ∧ d = .int r ∧ 0 ≤ r ∧ r < m
section
variable {P : Program} {w : World} {K : PySem.W.Frag} {mg : Str → Option Value} {base : Heap} {f : Addr} {fd : FuncData}
abbrev N_l_sift : List Str := ["_law_heap_here", "_law_many", "_law_lap", "_law_cell", "_law_dust", "_law_sand"]
theorem sc_l_sift : FnScope N_l_sift ["_law_heap_here", "_law_many"] (defScope (top 78)) := ⟨rfl, rfl, rfl, by decide +kernel, rfl, by decide +kernel, by decide +kernel⟩

theorem c_l_sift (F : FnP K "_law_sift" (top 78) f fd) (hf : mg "_law_sift" = some (.ref f)) (b : Bs K mg) : Cal P w K mg base 1 "_law_sift" (spX K 1 1 Rsift) [] := by
  refine cal_of F hf (fn_own F sc_l_sift rfl fun cdv A outer s H E hr => ?_) fun _ _ _ _ _ _ us hl => match us, hl with | [_, _], _ => rfl
  have hu := room_u hr; have hu1 := room_u1 hr; have hu2 := room_u2 hr; have nd := sc_l_sift.nd
  refine ⟨_, (pss_cons (ps_if (pt_cmpR op_gt (pe_ix ix_list (pv 0) pe_int (fun _ _ => rfl)) pe_int (nomark _)) (pss_cons (ps_set (i := 5) nd rfl (.inl rfl) (pe_callTy call_int1 rfl b.b_int PyProof.Rows.boot_int (pa_cons (pe_ix ix_list (pv 0) pe_int (fun _ _ => rfl)) pa_nil))) (pss_cons (ps_asg (pe_op op_fdivW (pv 5) (pv 1)) (pg_sub (pv 0) pe_int set_list)) (pss_one (ps_ret (pe_op op_mod (pe_callTy call_int1 rfl b.b_int PyProof.Rows.boot_int (pa_cons (pv 5) pa_nil)) (pv 1)))))) pss_nil) (pss_cons (ps_set (i := 2) nd rfl (.inl rfl) (pe_ix ix_list (pv 0) pe_int (fun _ _ => rfl))) (pss_cons (ps_asg (pe_op op_add (pv 2) pe_int) (pg_sub (pv 0) pe_int set_list)) (pss_cons (ps_set (i := 3) nd rfl (.inl rfl) (pe_op op_add (pe_op op_mul pe_int (pv 2)) pe_int)) (pss_cons (ps_if (pt_cmpR (op_neD hu) (pe_ix ix_list (pv 0) pe_int (fun _ _ => rfl)) (pe_lst pa_nil) (nomark _)) (pss_one (ps_set (i := 3) nd rfl (.inl rfl) (pe_ix ix_list (pe_ix ix_list (pv 0) pe_int (fun _ _ => rfl)) (pe_op op_mod (pe_callTy call_int1 rfl b.b_int PyProof.Rows.boot_int (pa_cons (pv 2) pa_nil)) (pe_callB call_len_seq rfl b.b_len PySem.boot_len (pa_cons (pe_ix ix_list (pv 0) pe_int (fun _ _ => rfl)) pa_nil))) (fun _ _ => rfl)))) pss_nil) (pss_cons (ps_if (PW.pt (pw_and (pt_cmpR op_lt (pv 2) (pe_callB call_len_seq rfl b.b_len PySem.boot_len (pa_cons (pe_ix ix_list (pv 0) pe_int (fun _ _ => rfl)) pa_nil)) (nomark _)) (pw_and1 (pt_cmpR op_ge (pe_callB call_abs rfl b.b_abs PyProof.Rows.boot_abs (pa_cons (pv 3) pa_nil)) (pe_op op_pow pe_int pe_int) (nomark _))))) (pss_cons (ps_set (i := 5) nd rfl (.inl rfl) (pe_op op_add (pe_op op_mul pe_int (pe_op op_sub (pe_callB call_abs rfl b.b_abs PyProof.Rows.boot_abs (pa_cons (pv 3) pa_nil)) (pe_op op_pow pe_int pe_int))) (pe_callTy call_int1 rfl b.b_int PyProof.Rows.boot_int (pa_cons (pe_cmpR op_lt (pv 3) pe_int (nomark _)) pa_nil)))) (pss_cons (ps_asg (pe_op op_fdivW (pv 5) (pv 1)) (pg_sub (pv 0) pe_int set_list)) (pss_one (ps_ret (pe_op op_mod (pe_callTy call_int1 rfl b.b_int PyProof.Rows.boot_int (pa_cons (pv 5) pa_nil)) (pv 1)))))) pss_nil) (pss_cons (ps_set (i := 4) nd rfl (.inl rfl) (pe_op op_mod (pe_callTy call_int1 rfl b.b_int PyProof.Rows.boot_int (pa_cons (pe_op op_pow (pe_op op_add (pe_op op_add (pe_op op_mod (pe_callTy call_int1 rfl b.b_int PyProof.Rows.boot_int (pa_cons (pv 3) pa_nil)) pe_int) (pe_op op_mul pe_int (pv 2))) pe_int) pe_int) pa_nil)) pe_int)) (pss_cons (ps_set (i := 4) nd rfl (.inl rfl) (pe_op op_mod (pe_callTy call_int1 rfl b.b_int PyProof.Rows.boot_int (pa_cons (pe_op op_pow (pe_op op_add (pe_op op_add (pe_op op_mul (pv 4) (pe_op op_add (pe_op op_mul pe_int (pv 2)) pe_int)) (pe_op op_mul (pe_op op_mul pe_int (pv 2)) (pv 2))) pe_int) pe_int) pa_nil)) pe_int)) (pss_one (ps_ret (pe_op op_mod (pe_callTy call_int1 rfl b.b_int PyProof.Rows.boot_int (pa_cons (pe_op op_fdivW (pv 4) pe_int) pa_nil)) (pv 1)))))))))))), fun p cl cells lap sand ds _ hR hl0 hl1 => ?_⟩
  obtain ⟨_, m, _, rfl, m1, m2, _⟩ := hR
  have hm0 : (0 : Int) < m := by omega
  have cd : ∀ i : Int, CDivW i m := fun i => wide_div (b := 10) hm0 (by omega) (by decide) (by decide)
  have fin : ∀ (i lap' : Int), 0 ≤ lap' → lap' ≤ lap + 1 → (Rsift [.int m] (.int (i % m)) ∧ 0 ≤ lap' ∧ lap' ≤ lap + (1 : Nat)) := fun i lap' h1 h2 => ⟨⟨m, i % m, rfl, m1, m2, rfl, Int.emod_nonneg _ (by omega), Int.emod_lt_of_pos _ hm0⟩, h1, by omega⟩
  refine bo_guard (b := decide (0 < sand)) (dt_test (de_gt (de_h2 rfl) de_int)) (fun _ => ?_) fun _ => ?_
  · refine bo_seq (s_set (de_int1 (de_h2 rfl)) rfl rfl) (bo_seq (s_h2 rfl (de_fdiv (de_var rfl) (de_var rfl) (cd _))) ?_)
    exact bo_ret (de_mod (de_int1 (de_var rfl)) (de_var rfl) hm0) rfl (fin _ _ hl0 (by omega))
  refine bo_seq (s_set (de_h1 rfl) rfl rfl) (bo_seq (s_h1 rfl (de_add (de_var rfl) de_int)) ?_)
  refine bo_seq (s_set (de_add (de_opI de_int (de_var rfl) (.inl ⟨by decide, by decide⟩) fun _ => .int _) de_int) rfl rfl) ?_
  refine bo_seq (Γ1 := [.hpo p cl cells (lap + 1) sand, .dat (.int m), .dat (.int lap), .dat (.int (if cells = [] then 72091 * lap + 9601 else cells.getD (lap.toNat % cells.length) 0)), .no, .no]) (s_if (b := !decide (cells = [])) (dt_test (DE.to (de_neLI (xs := cells) (ys := []) (de_h0 rfl) (de_lst da_nil (by decide))) rfl)) (fun z => ?_) fun z => ?_) ?_
  · have hc : cells ≠ [] := fun e => by
      rw [decide_eq_true e] at z
      cases z
    have hcl : 0 < cells.length := List.length_pos_iff.mpr hc
    refine St.to (s_set (d := .int (cells.getD (lap.toNat % cells.length) 0)) (de_ixL (i := lap % (cells.length : Int)) (dl_of (de_h0 rfl)) (DE.to (de_mod (de_int1 (de_var rfl)) (de_lenL (dl_of (de_h0 rfl))) (by rw [List.length_map]; omega)) (by rw [List.length_map])) (atI_nat (n := lap.toNat % cells.length) ?_ ?_)) rfl rfl) (by rw [if_neg hc]; rfl)
    · rw [Int.natCast_emod, Int.toNat_of_nonneg hl0]
    · have := Nat.mod_lt lap.toNat hcl
      rw [List.getElem?_map, List.getD_eq_getElem?_getD, List.getElem?_eq_getElem this]
      rfl
  · have hc : cells = [] := by
      cases h : decide (cells = [])
      · rw [h] at z
        cases z
      · exact of_decide_eq_true h
    rw [if_pos hc]
    exact s_next
  generalize (if cells = [] then 72091 * lap + 9601 else cells.getD (lap.toNat % cells.length) 0) = cell
  have p18 : CPow 10 18 := ⟨by decide, by decide, by decide⟩
  refine bo_guard (b := decide (lap < (cells.length : Int)) && decide ((10 : Int) ^ (18 : Int).toNat ≤ (cell.natAbs : Int))) (dt_and (dt_test (DE.to (de_lt (de_var rfl) (de_lenL (dl_of (de_h0 rfl)))) (by rw [List.length_map]))) fun _ => dt_test (de_ge (de_abs (de_var rfl)) (de_pow de_int de_int p18))) (fun _ => ?_) fun _ => ?_
  · refine bo_seq (s_set (de_add (de_opI de_int (de_sub (de_abs (de_var rfl)) (de_pow de_int de_int p18)) (.inl ⟨by decide, by decide⟩) fun _ => .int _) (de_int1b (de_lt (de_var rfl) de_int))) rfl rfl) (bo_seq (s_h2 rfl (de_fdiv (de_var rfl) (de_var rfl) (cd _))) ?_)
    exact bo_ret (de_mod (de_int1 (de_var rfl)) (de_var rfl) hm0) rfl (fin _ _ (by omega) (by omega))
  have md : ∀ (i k : Int), 0 < k → 0 ≤ i % k ∧ i % k < k := fun i k h => ⟨Int.emod_nonneg _ (by omega), Int.emod_lt_of_pos _ h⟩
  have a1 := md cell 2147483399 (by decide)
  refine bo_seq (s_set (de_mod (i := (cell % 2147483399 + 41077 * lap + 9601) ^ (5 : Int).toNat) (j := 2147483353) (de_int1 (de_pow (de_add (de_add (de_mod (de_int1 (de_var rfl)) de_int (by decide)) (de_opI de_int (de_var rfl) (.inl ⟨by decide, by decide⟩) fun _ => .int _)) de_int) de_int ⟨by decide, by decide, by omega⟩)) de_int (by decide)) rfl rfl) ?_
  have a2 := md ((cell % 2147483399 + 41077 * lap + 9601) ^ (5 : Int).toNat) 2147483353 (by decide)
  generalize (cell % 2147483399 + 41077 * lap + 9601) ^ (5 : Int).toNat % 2147483353 = dust at a2
  have b1 : dust * (2 * lap + 4253) ≤ 2147483353 * 204253 := Int.le_trans (Int.mul_le_mul_of_nonneg_right (by omega) (by omega)) (Int.mul_le_mul_of_nonneg_left (by omega) (by decide))
  have b2 : 0 ≤ dust * (2 * lap + 4253) := Int.mul_nonneg (by omega) (by omega)
  have b3 : 72091 * lap * lap ≤ 7209100000 * 100000 := Int.le_trans (Int.mul_le_mul_of_nonneg_right (by omega) (by omega)) (Int.mul_le_mul_of_nonneg_left (by omega) (by decide))
  have b4 : 0 ≤ 72091 * lap * lap := Int.mul_nonneg (by omega) (by omega)
  refine bo_seq (s_set (de_mod (de_int1 (de_pow (de_add (de_add (de_opI (de_var rfl) (de_add (de_opI de_int (de_var rfl) (.inl ⟨by decide, by decide⟩) fun _ => .int _) de_int) (.inl ⟨by omega, by omega⟩) fun _ => .int _) (de_opI (de_opI de_int (de_var rfl) (.inl ⟨by decide, by decide⟩) fun _ => .int _) (de_var rfl) (.inl ⟨by omega, by omega⟩) fun _ => .int _)) de_int) de_int ⟨by decide, by decide, by omega⟩)) de_int (by decide)) rfl rfl) ?_
  exact bo_ret (de_mod (de_int1 (de_fdiv (de_var rfl) de_int ⟨by decide, by decide⟩)) (de_var rfl) hm0) rfl (fin _ _ (by omega) (by omega))

end
end Lk
set_option maxHeartbeats 1000000
namespace Lk
open PySem PySem.Spec PyProof.Rows L2
open Evl (Ex)
open C8 (Cal pe_c Mak pe_mk)
def IntP (P : Int → Prop) : D → Prop := fun d => ∃ i, d = .int i ∧ P i
def BlP (P : Bool → Prop) : D → Prop := fun d => ∃ i, d = .bl i ∧ P i
section
variable {K : PySem.W.Frag} {C : Hc} {F : Fx} {H H' : Hp} {σ : L2.St} {Γ Γ' Γ1 Γ2 Γw : Ctx} {ta tb te tc : TE} {tt tu : TT} {d e d1 d2 : D} {ds es : List D} {t u w : TS} {n m k j : Nat} {Φ Φ1 Φ2 : D → Prop} {Ψ Ψ1 Ψ2 : Ctx → Prop} {P P2 : Int → Prop}
theorem xi {i : Int} (h : DE K te Γ (.int i)) : XE K C te Γ n n (IntP fun x => x = i) := (xe h).imp fun d e => ⟨i, e, rfl⟩
theorem xi_op0 {g : Int → Int → Int} (ha : XE K C ta Γ n m (IntP P)) (hb : XE K C tb Γ m k (IntP P2)) : XE K C (tOp (rI0 fun i j => .int (g i j)) ta tb) Γ n k (IntP fun r => ∃ i j, P i ∧ P2 j ∧ r = g i j) := fun F H σ E hF hH Q q =>
  ha F H σ E hF hH _ fun v H1 d1 e1 h1 i1 p1 => hb F H1 σ (E.monoC hF hH e1 h1) hF h1 _ fun v2 H2 d2 e2 h2 i2 p2 => by
    obtain ⟨i, rfl, pi⟩ := p1
    obtain ⟨j, rfl, pj⟩ := p2
    cases i1
    cases i2
    exact ⟨i, j, rfl, rfl, q _ H2 _ (e1.trans e2) h2 (.int _) ⟨_, rfl, i, j, pi, pj, rfl⟩⟩
theorem xi_cmp0 {g : Int → Int → Bool} (ha : XE K C ta Γ n m (IntP P)) (hb : XE K C tb Γ m k (IntP P2)) : XE K C (tOp (rI0 fun i j => .bl (g i j)) ta tb) Γ n k (BlP fun r => ∃ i j, P i ∧ P2 j ∧ r = g i j) := fun F H σ E hF hH Q q =>
  ha F H σ E hF hH _ fun v H1 d1 e1 h1 i1 p1 => hb F H1 σ (E.monoC hF hH e1 h1) hF h1 _ fun v2 H2 d2 e2 h2 i2 p2 => by
    obtain ⟨i, rfl, pi⟩ := p1
    obtain ⟨j, rfl, pj⟩ := p2
    cases i1
    cases i2
    exact ⟨i, j, rfl, rfl, q _ H2 _ (e1.trans e2) h2 (.bl _) ⟨_, rfl, i, j, pi, pj, rfl⟩⟩
theorem xi_eq (ha : XE K C ta Γ n m (IntP P)) (hb : XE K C tb Γ m k (IntP P2)) : XE K C (tOp rEq ta tb) Γ n k (BlP fun r => ∃ i j, P i ∧ P2 j ∧ r = (i == j)) := fun F H σ E hF hH Q q =>
  ha F H σ E hF hH _ fun v H1 d1 e1 h1 i1 p1 => hb F H1 σ (E.monoC hF hH e1 h1) hF h1 _ fun v2 H2 d2 e2 h2 i2 p2 => by
    obtain ⟨i, rfl, pi⟩ := p1
    obtain ⟨j, rfl, pj⟩ := p2
    cases i1
    cases i2
    refine ⟨rfl, ?_⟩
    rw [dec_int]
    exact q _ H2 _ (e1.trans e2) h2 (.bl _) ⟨_, rfl, i, j, pi, pj, rfl⟩
theorem xt_test {P : Bool → Prop} (h : XE K C te Γ n m (BlP P)) : XT K C (tTest te) Γ n m P := fun F H σ E hF hH Q q => h F H σ E hF hH _ fun v H' d e h' i p => by
  obtain ⟨b, rfl, pb⟩ := p
  cases i
  exact ⟨b, rfl, q b H' e h' pb⟩
theorem XT.imp {P P2 : Bool → Prop} (h : XT K C tt Γ n m P) (f : ∀ b, P b → P2 b) : XT K C tt Γ n m P2 := fun F H σ E hF hH Q q => h F H σ E hF hH Q fun b H' e h' p => q b H' e h' (f b p)
theorem XT.le {P : Bool → Prop} (h : XT K C tt Γ n m P) (e : m ≤ k) : XT K C tt Γ n k P := fun F H σ E hF hH Q q => h F H σ E hF hH Q fun b H' e1 h' p => q b H' e1 (h'.le e) p
theorem XA.le {r : TA} {Θ : List D → Prop} (h : XA K C r Γ n m Θ) (e : m ≤ k) : XA K C r Γ n k Θ := fun F H σ E hF hH Q q => h F H σ E hF hH Q fun vs H' ds e1 h' a p => q vs H' ds e1 (h'.le e) a p
theorem XN.le {Θ : List D → Prop} (h : XN K C te Γ n m Θ) (e : m ≤ k) : XN K C te Γ n k Θ := fun F H σ E hF hH Q q => h F H σ E hF hH Q fun p xs H' ds a b c d2 e2 th => q p xs H' ds a b (c.le e) d2 e2 th
theorem xe_if {Θ : Bool → Prop} (h : XT K C tt Γ n m Θ) (h1 : Θ true → XE K C ta Γ m k Φ) (h2 : Θ false → XE K C tb Γ m k Φ) : XE K C (tIf tt ta tb) Γ n k Φ := fun F H σ E hF hH Q q => h F H σ E hF hH _ fun b H' e h' p => by
  have E' := E.monoC hF hH e h'
  cases b with
  | true =>
    rw [if_pos rfl]
    exact h1 p F H' σ E' hF h' Q fun v H2 d e2 hh i pd => q v H2 d (e.trans e2) hh i pd
  | false =>
    rw [if_neg Bool.false_ne_true]
    exact h2 p F H' σ E' hF h' Q fun v H2 d e2 hh i pd => q v H2 d (e.trans e2) hh i pd
/-- xs[e], xs a list that stands -/
theorem xe_ixL (ha : DE K ta Γ (.lst ds)) (hb : XE K C tb Γ n m (IntP P)) (h : ∀ i, P i → ∃ d, L2.atI ds i = some d ∧ Φ d) : XE K C (tOp (rIxL K) ta tb) Γ n m Φ := fun F H σ E hF hH Q q =>
  ha F H σ E _ fun v H1 e1 i1 => hb F H1 σ (E.mono e1) hF (hH.mono e1) _ fun v2 H2 d2 e2 h2 i2 p2 => by
    obtain ⟨i, rfl, pi⟩ := p2
    cases i2
    obtain ⟨d, hd, pd⟩ := h i pi
    have i1' := i1.mono (e2.hid hF.inl)
    cases i1' with
    | @lst a xs _ s1 a1 =>
      obtain ⟨x, hx, ix⟩ := a1.atI hd
      exact ⟨a, xs, i, x, rfl, rfl, Evl.ex_l hid_le s1, hx, q x H2 d ((ExC.of e1).trans e2) h2 ix pd⟩
/-- xs[:e], xs and e drawn -/
theorem xn_slice {Θ : List D → Prop} {N : Nat} (ha : XE K C ta Γ n m fun d => ∃ ds, Θ ds ∧ d = .lst ds) (hb : XE K C tb Γ m k (IntP fun i => ∃ j : Nat, i = (j : Int) ∧ j ≤ N)) : XN K C (tSl (rSlL K) ta tNoPart (tPart tb)) Γ n k fun es => ∃ (ds : List D) (j : Nat), Θ ds ∧ j ≤ N ∧ es = ds.take j := fun F H σ E hF hH Q q =>
  ha F H σ E hF hH _ fun v H1 d1 e1 h1 i1 p1 => by
    have E1 := E.monoC hF hH e1 h1
    refine hb F H1 σ E1 hF h1 _ fun v2 H2 d2 e2 h2 i2 p2 => ?_
    obtain ⟨ds, th, rfl⟩ := p1
    obtain ⟨_, rfl, j, rfl, hj⟩ := p2
    cases i2
    have i1' := i1.mono (e2.hid hF.inl)
    cases i1' with
    | @lst a xs _ s1 a1 =>
      refine ⟨(j : Int), rfl, a, xs, rfl, Evl.ex_l hid_le s1, fun p hp => ?_⟩
      have hp0 := freshC hH h2 (e1.trans e2) hp
      have ec : cutV xs none (some (j : Int)) = xs.take j := by
        unfold cutV
        rw [HT.sIx_none, HT.sIx_nat, List.drop_zero, Nat.sub_zero, Nat.min_comm, ← List.take_take]
        exact List.take_of_length_le (by rw [List.length_take]; exact Nat.min_le_right _ _)
      rw [ec]
      exact q p _ _ _ hp0 ((e1.trans e2).trans (.of (Ex.new hp))) (h2.mono (Ex.new hp)) upd_same ((a1.take j).mono (ex_new hp)) ⟨ds, j, th, hj, rfl⟩
theorem perm_erase {α : Type} {d : α} : ∀ {xs : List α} {q : Nat}, xs[q]? = some d → (d :: xs.eraseIdx q).Perm xs
  | [], _, h => by simp at h
  | x :: xs, 0, h => by
    simp only [List.getElem?_cons_zero, Option.some.injEq] at h
    subst h
    exact List.Perm.refl _
  | x :: xs, q + 1, h => by
    have ih := perm_erase (xs := xs) (q := q) (d := d) (by simpa using h)
    exact (List.Perm.swap x d _).trans (ih.cons x)
theorem xs_par {i l : Nat} {x y : Ent} (h1 : XE K C ta Γ n m Φ) (h2 : DN K tb Γ ds) (hx : Γ[i]? = some x) (ho : own1 x = []) (hy : ∀ d, (Γ.set i (.dat d))[l]? = some y) (ho' : own1 y = []) :
    XS K C (tPar i l (tCons ta (tCons tb tNil))) Γ n m fun Γ' => ∃ d p, Φ d ∧ Γ' = (Γ.set i (.dat d)).set l (.own p ds) := fun F H σ Z E hF hH q =>
  h1 F H σ E hF hH _ fun v1 H1 d1 e1 hh1 i1 p1 => by
    have E1 := E.monoC hF hH e1 hh1
    refine h2 F H1 σ E1 _ fun p xs H2 hp e2 hl a => ?_
    have eo : owned (Γ.set i (.dat d1)) = owned Γ := owned_set (e := x) (e' := .dat d1) ho.symm hx
    have E2 := E1.setD hx ho i1
    refine ⟨_, _, rfl, q _ H2 _ (E2.addO (e' := .own p ds) (hy d1) ho' hp e2 rfl ⟨rfl, xs, hl, ?_⟩) (hh1.mono e2) ⟨d1, p, p1, rfl⟩⟩
    unfold hotOf
    rw [eo]
    exact a
theorem xs_parN {i l : Nat} {x y : Ent} (h1 : DN K ta Γ es) (h2 : DN K tb Γ ds) (hx : Γ[i]? = some x) (ho : own1 x = []) (hy : ∀ p, (Γ.set i (.own p es))[l]? = some y) (ho' : own1 y = []) :
    XS K C (tPar i l (tCons ta (tCons tb tNil))) Γ n n fun Γ' => ∃ p r, Γ' = (Γ.set i (.own p es)).set l (.own r ds) := fun F H σ Z E hF hH q =>
  h1 F H σ E _ fun p xs H1 hp e1 hl a => by
    have E1 := E.hot1 hp e1 (by rw [hl]; exact fun z => nomatch z)
    refine h2 (F.more p) H1 σ E1 _ fun r ys H2 hr e2 hl2 a2 => ?_
    have E2 := E.addO (e' := .own p es) hx ho hp e1 rfl ⟨rfl, xs, hl, a⟩
    refine ⟨_, _, rfl, q _ H2 _ (E2.addO (e' := .own r ds) (hy p) ho' hr e2 rfl ⟨rfl, ys, hl2, ?_⟩) ((hH.mono e1).mono e2) ⟨p, r, rfl⟩⟩
    have pm : (owned (Γ.set i (.own p es))).Perm ([p] ++ owned Γ) := owned_add ho rfl hx
    have hc : ∀ b, b ∈ r :: hotOf F (Γ.set i (.own p es)) ↔ b ∈ r :: hotOf (F.more p) Γ := fun b => by
      have e5 : hotOf (F.more p) Γ = p :: (F.hot ++ owned Γ) := rfl
      rw [e5]
      unfold hotOf
      rw [List.mem_cons, List.mem_cons, List.mem_cons, List.mem_append, List.mem_append, pm.mem_iff, List.mem_append, List.mem_singleton]
      constructor
      · rintro (h | h | h | h)
        · exact .inl h
        · exact .inr (.inr (.inl h))
        · exact .inr (.inl h)
        · exact .inr (.inr (.inr h))
      · rintro (h | h | h | h)
        · exact .inl h
        · exact .inr (.inr (.inl h))
        · exact .inr (.inl h)
        · exact .inr (.inr (.inr h))
    rw [hid_congr hc]
    exact a2
/-- xs != [], xs owned -/
theorem dt_ownNe {i : Nat} {p : Addr} (h : Γ[i]? = some (.own p ds)) (hp : plnAll ds = true) (hd : PyData.depthAll (pyAll ds) ≤ 63) : DT K (tTest (tOp (rNeD K) (tVar i) (tLst tNil))) Γ (!decide (ds = [])) := fun F H σ E Q q => by
  obtain ⟨v, h1, rfl, xs, h2, h3⟩ := E.ent i _ h
  have e3 : py (.lst ds) = .list (pyAll ds) := by rw [py]
  have p3 : pln (D.lst ds) = true := by unfold pln; exact hp
  have e4 : py (.lst []) = .list [] := by rw [py, pyAll]
  refine ⟨.ref p, h1, Nat.zero_le _, fun r hr => ?_⟩
  have ex : Ex H (upd H r (.lst [])) := Ex.new hr
  refine ⟨py (.lst ds), py (.lst []), (Is.dp (.lst (SqL.of (ex _ _ h2)) ((h3.mono hid_le).mono ex)) p3), (Is.dp (K := K) (.lst (SqL.of upd_same) .nil) (by unfold pln plnAll; rfl)), shaped_of p3 ?_, shaped_of (by unfold pln plnAll; rfl) ?_, !decide (ds = []), ?_, q _ ex⟩
  · rw [e3, PyData.depth]
    omega
  · rw [e4, PyData.depth, PyData.depthAll]
    decide
  · rw [e3, e4, PyData.eqv]
    cases ds with
    | nil =>
      rw [pyAll, PyData.eqvAll]
      rfl
    | cons d ds =>
      rw [pyAll, PyData.eqvAll]
      rfl
end
def Rany : List D → D → Prop := fun ds d => ∃ es, ds = [.lst es] ∧ es ≠ [] ∧ es.length ≤ 1000 ∧ d ∈ es
def Rmixed : List D → D → Prop := fun ds d => ∃ es fs, ds = [.lst es] ∧ es.length ≤ 20 ∧ plnAll es = true ∧ PyData.depthAll (pyAll es) ≤ 60 ∧ d = .lst fs ∧ fs.Perm es
theorem pln_mem {es : List D} : plnAll es = true ↔ ∀ d ∈ es, pln d = true := by
  induction es with
  | nil => unfold plnAll; simp
  | cons e es ih =>
    unfold plnAll
    rw [Bool.and_eq_true, ih]
    simp
theorem dep_mem {es : List D} {k : Nat} : PyData.depthAll (pyAll es) ≤ k ↔ ∀ d ∈ es, (py d).depth ≤ k := by
  induction es with
  | nil => unfold pyAll PyData.depthAll; simp
  | cons e es ih =>
    unfold pyAll PyData.depthAll
    rw [Nat.max_le, ih]
    simp
section
variable {P : Program} {w : World} {K : PySem.W.Frag} {mg : Str → Option Value} {base : Heap} {f : Addr} {fd : FuncData}
abbrev N_l_any_of : List Str := ["_law_heap_here", "_law_some"]
theorem sc_l_any_of : FnScope N_l_any_of ["_law_heap_here", "_law_some"] (defScope (top 79)) := ⟨rfl, rfl, rfl, by decide +kernel, rfl, by decide +kernel, by decide +kernel⟩

theorem c_l_any_of (F : FnP K "_law_any_of" (top 79) f fd) (hf : mg "_law_any_of" = some (.ref f)) (b : Bs K mg) (q__law_sift : Cal P w K mg base 1 "_law_sift" (spX K 1 1 Rsift) []) : Cal P w K mg base 2 "_law_any_of" (spX K 1 1 Rany) [] := by
  refine cal_of F hf (fn_draw F sc_l_any_of rfl fun cdv A outer s H E hr => ?_) fun _ _ _ _ _ _ us hl => match us, hl with | [_, _], _ => rfl
  have hu := room_u hr; have hu1 := room_u1 hr; have hu2 := room_u2 hr; have nd := sc_l_any_of.nd
  refine ⟨_, (pss_one (ps_ret (pe_ix ix_list (pv 1) (pe_c q__law_sift hr (by decide) rfl (pa_cons (pv 0) (pa_cons (pe_callB call_len_seq rfl b.b_len PySem.boot_len (pa_cons (pv 1) pa_nil)) pa_nil))) (fun _ _ => rfl)))), fun C n ds _ hR hn => ?_⟩
  obtain ⟨_, es, rfl, hne, hl, _⟩ := hR
  have hl0 : 0 < es.length := List.length_pos_iff.mpr hne
  refine (xb_ret (xe_ixL (P := fun i => 0 ≤ i ∧ i < es.length) (Φ := fun d => d ∈ es) (de_var rfl) (xe_draw rfl (xa (da_cons (de_lenL (dl_of (de_var rfl))) da_nil)) (fun ds h => ?_) (by omega)) fun i hi => ?_)).imp fun d h => ⟨es, rfl, hne, hl, h⟩
  · subst h
    refine ⟨rfl, ⟨.int 0, (es.length : Int), 0, rfl, by omega, by omega, rfl, by omega, by omega⟩, fun d hd => ?_⟩
    obtain ⟨m, r, e, _, _, rfl, h1, h2⟩ := hd
    simp only [List.cons.injEq, D.int.injEq, and_true] at e
    exact ⟨r, rfl, h1, by omega⟩
  · have hlt : i.toNat < es.length := by omega
    exact ⟨es[i.toNat], atI_nat (n := i.toNat) (by omega) (List.getElem?_eq_getElem hlt), List.getElem_mem hlt⟩
abbrev N_l_mixed : List Str := ["_law_heap_here", "_law_some", "_law_left", "_law_found"]
theorem sc_l_mixed : FnScope N_l_mixed ["_law_heap_here", "_law_some"] (defScope (top 80)) := ⟨rfl, rfl, rfl, by decide +kernel, rfl, by decide +kernel, by decide +kernel⟩

theorem c_l_mixed (F : FnP K "_law_mixed" (top 80) f fd) (hf : mg "_law_mixed" = some (.ref f)) (b : Bs K mg) (q__law_sift : Cal P w K mg base 1 "_law_sift" (spX K 1 1 Rsift) []) : Cal P w K mg base 2 "_law_mixed" (spX K 1 20 Rmixed) [] := by
  refine cal_of F hf (fn_draw F sc_l_mixed rfl fun cdv A outer s H E hr => ?_) fun _ _ _ _ _ _ us hl => match us, hl with | [_, _], _ => rfl
  have hu := room_u hr; have hu1 := room_u1 hr; have hu2 := room_u2 hr; have nd := sc_l_mixed.nd
  refine ⟨_, (pss_cons (ps_par (i := 2) (j := 3) rfl nd rfl rfl (by decide) rfl rfl (pa_cons (pe_callTy call_list_of rfl b.b_list PyProof.Rows.boot_list (pa_cons (pv 1) pa_nil)) (pa_cons (pe_lst pa_nil) pa_nil)) rfl) (pss_cons (ps_while PassesOwn.never (pt_cmpR (op_neD hu) (pv 2) (pe_lst pa_nil) (nomark _)) (pss_one (ps_expr (pe_bm PySem.F.plainAttrs_list PySem.F.slot_list_append PySem.F.type_list_append mt_append (pv 3) (pa_cons (pe_bm PySem.F.plainAttrs_list PySem.F.slot_list_pop PySem.F.type_list_pop mt_popAt (pv 2) (pa_cons (pe_c q__law_sift hr (by decide) rfl (pa_cons (pv 0) (pa_cons (pe_callB call_len_seq rfl b.b_len PySem.boot_len (pa_cons (pv 2) pa_nil)) pa_nil))) pa_nil)) pa_nil))))) (pss_one (ps_ret (pv 3))))), fun C n ds _ hR hn => ?_⟩
  obtain ⟨_, es, _, rfl, hl, hp, hd, _⟩ := hR
  refine xb_seq (xs_parN (dn_listL (dl_of (de_var rfl))) (dn_lst da_nil (by decide)) rfl rfl (fun _ => rfl) rfl) fun Γ1 h1 => ?_
  obtain ⟨pl, pf, rfl⟩ := h1
  let Ψ : Nat → Ctx → Prop := fun i Γ' => ∃ ls fs : List D, Γ' = [.at_ C.hp, .dat (.lst es), .own pl ls, .own pf fs] ∧ ls.length = i ∧ (fs ++ ls).Perm es
  have pl_ : ∀ {ls fs : List D}, (fs ++ ls).Perm es → plnAll ls = true ∧ PyData.depthAll (pyAll ls) ≤ 63 := fun {ls fs} h => ⟨pln_mem.mpr fun d hd => pln_mem.mp hp d (h.mem_iff.mp (List.mem_append_right _ hd)), dep_mem.mpr fun d hd' => Nat.le_trans (dep_mem.mp hd d (h.mem_iff.mp (List.mem_append_right _ hd'))) (by decide)⟩
  refine xb_seq ((xs_while (c := 1) Ψ es.length ⟨es, [], rfl, rfl, List.Perm.refl _⟩ (fun i Γ' h => ?_) (fun i Γ' hi h => ?_) (fun Γ' h => ?_) (fun i Γ' hi h j hj => ?_)).le (k := n + 20) (by omega)) fun Γ' h => ?_
  · obtain ⟨ls, fs, rfl, _⟩ := h
    rfl
  · obtain ⟨ls, fs, rfl, hl', hpm⟩ := h
    refine DT.to' (dt_ownNe rfl (pl_ hpm).1 (pl_ hpm).2) ?_
    rw [decide_eq_false (fun z => by rw [z] at hl'; cases hl')]
    rfl
  · obtain ⟨ls, fs, rfl, hl', hpm⟩ := h
    refine DT.to' (dt_ownNe rfl (pl_ hpm).1 (pl_ hpm).2) ?_
    rw [decide_eq_true (List.eq_nil_of_length_eq_zero hl')]
    rfl
  · obtain ⟨ls, fs, rfl, hl', hpm⟩ := h
    have hpl := hpm.length_eq
    rw [List.length_append] at hpl
    refine (xs_appPop (i := 3) (l := 2) (p := pf) (r := pl) (ds := fs) (es := ls) rfl rfl (by decide) (xe_draw rfl (xa (da_cons (de_lenL (dl_own rfl)) da_nil)) (fun ds h => ?_) (by omega)) (by omega) (by omega)).imp fun Γ' h => ?_
    · subst h
      refine ⟨rfl, ⟨.int 0, (ls.length : Int), 0, rfl, by omega, by omega, rfl, by omega, by omega⟩, fun d hd => ?_⟩
      obtain ⟨m, r, e, _, _, rfl, h1, h2⟩ := hd
      simp only [List.cons.injEq, D.int.injEq, and_true] at e
      exact ⟨r.toNat, by rw [Int.toNat_of_nonneg h1], by omega⟩
    · obtain ⟨q, d, hq, rfl⟩ := h
      have hq' := (List.getElem?_eq_some_iff.mp hq).1
      refine ⟨ls.eraseIdx q, fs ++ [d], rfl, by rw [List.length_eraseIdx_of_lt hq']; omega, ?_⟩
      refine List.Perm.trans ?_ hpm
      rw [List.append_assoc]
      refine List.Perm.append_left fs ?_
      exact perm_erase hq
  · obtain ⟨ls, fs, rfl, hl', hpm⟩ := h
    have e0 : ls = [] := List.eq_nil_of_length_eq_zero hl'
    subst e0
    rw [List.append_nil] at hpm
    refine (xb (b_rel (i := 3) rfl (b_ret (de_var rfl)))).imp fun d h => ?_
    subst h
    exact ⟨es, fs, rfl, hl, hp, hd, rfl, hpm⟩

end
end Lk
set_option maxHeartbeats 1000000
namespace Lk
open PySem PySem.Spec PyProof.Rows L2
open Evl (Ex)
open C8 (Cal pe_c Mak pe_mk)
/-- a walk over what may be owned: for comprehensions -/
def DIx (K : PySem.W.Frag) (wi : TI) (Γ : Ctx) (ds : List D) : Prop := ∀ (F : Fx) (H : Hp) (σ : L2.St), Env K F H σ Γ → ∀ R : It → Hp → Prop,
  (∀ (J : It) (H1 : Hp) (G : Hp → Prop), Ex H H1 → (∀ H', Ex H1 H' → G H') → Walk J ds.length G (YD K (hotOf F Γ) H1 ds) → R J H1) → wi σ H R
section
variable {K : PySem.W.Frag} {F : Fx} {H H' : Hp} {σ : L2.St} {Γ Γ' Γ1 Γ2 Γw : Ctx} {ta tb te tc : TE} {tt tu : TT} {d e : D} {ds es : List D} {t u w : TS} {g : TG} {gs : TGs} {js ks vs ws : List Nat} {wi wi1 : TI}
theorem di_own (h : DL K te Γ ds) : DIx K (iList K te) Γ ds := fun F H σ E R r => h F H σ E _ fun a xs H1 e s al => by
  refine ⟨a, rfl, ⟨xs, s⟩, r (Itl K a) H1 (fun H' => SqL K H' a xs) e (fun H' e' => Evl.ex_l e' s) ?_⟩
  rw [← al.length]
  refine walk_list.mono (fun _ q => q) fun i Ha x Hb hi _ y => ?_
  obtain ⟨d, h1, h2⟩ := al.getV y.2
  exact ⟨d, h1, .inl ⟨y.1, h2⟩⟩
theorem dn_lcX {α : Type} {as : List α} {em : α → D} {f : α → Bool} {gv : α → D} {Γa : α → Ctx} (hI : DIx K wi Γ (as.map em)) (hw : wipeC Γ vs = Γw) (ho : owned Γw = owned Γ) (hg : ∀ a ∈ as, DG K g js (em a) Γw (Γa a)) (hjs : ∀ j ∈ js, j ∈ vs)
    (ht : ∀ a ∈ as, DT K tt (Γa a) (f a)) (he : ∀ a ∈ as, f a = true → DE K te (Γa a) (gv a)) (hl : as.length < 16000000) : DN K (tLc wi g tt te vs) Γ ((as.filter f).map gv) := fun F H σ E Q q =>
  hI F H σ E _ fun J H1 G e hG W Dl hD => by
    have E1 := E.mono e
    have Ew : Env K F H1 (L2.wipe σ vs) Γw := by
      rw [← hw] at ho ⊢
      exact E1.wipe ho
    have hh : ∀ Γx : Ctx, owned Γx = owned Γw → hotOf (F.more Dl) Γx = Dl :: hotOf F Γ := fun Γx hx => by
      show Dl :: (F.hot ++ owned Γx) = Dl :: (F.hot ++ owned Γ)
      rw [hx, ho]
    have h0D : (F.more Dl).H0 Dl = none := E1.fresh0 hD
    have hlen : (as.map em).length = as.length := List.length_map _
    refine lc_it W (fun i H' => Env K (F.more Dl) H' (L2.wipe σ vs) Γw ∧ Ex H1 H' ∧ ∃ acc, H' Dl = some (.lst acc) ∧ IsAll K (hid (Dl :: hotOf F Γ) H') acc (((as.take i).filter f).map gv)) ?_ (fun i H' hi p => ?_) (fun i x Ha Hb hi p y => ?_) fun H' p => ?_
    · exact ⟨Ew.hot1 hD (Ex.new hD) (by rw [upd_same]; exact fun z => nomatch z), Ex.new hD, [], upd_same, .nil⟩
    · exact hG H' p.2.1
    · obtain ⟨pE, pX, acc, pD, pA⟩ := p
      have ex0 : Ex (hid (hotOf F Γ) H1) (hid (hotOf (F.more Dl) Γw) Ha) := by
        rw [hh Γw rfl]
        exact ex_new2 hD pX
      obtain ⟨ex, d, h1, h2⟩ := y.ex ex0 fun a ha => pE.there ha
      obtain ⟨a, ha, rfl⟩ : ∃ a, as[i]? = some a ∧ em a = d := by
        rw [List.getElem?_map] at h1
        cases q0 : as[i]? with
        | none =>
          rw [q0] at h1
          cases h1
        | some a =>
          rw [q0] at h1
          exact ⟨a, rfl, Option.some.inj h1⟩
      have hm : a ∈ as := List.mem_of_getElem? ha
      have ga := hg a hm
      refine ga.2 (F.more Dl) Hb _ x (pE.mono ex) h2 _ fun σ2 E2 w2 => ⟨(w2 vs hjs).trans wipe_wipe, ?_⟩
      refine ht a hm (F.more Dl) Hb σ2 E2 _ fun H3 e3 => ?_
      have accOk : ∀ {H4 : Hp}, Ex Ha H4 → IsAll K (hid (Dl :: hotOf F Γ) H4) acc (((as.take i).filter f).map gv) := fun e4 => pA.mono (hid_mono e4)
      cases hf : f a with
      | true =>
        rw [if_pos rfl]
        refine he a hm hf (F.more Dl) H3 σ2 (E2.mono e3) _ fun y H4 e4 i4 => ?_
        have e04 : Ex Ha H4 := (ex.trans e3).trans e4
        have hacc := accOk e04
        have hle : acc.length ≤ as.length := by
          rw [hacc.length, List.length_map]
          exact Nat.le_trans (List.length_filter_le _ _) (by rw [List.length_take]; exact Nat.min_le_right _ _)
        refine ⟨acc, e04 _ _ pD, line_lt (by omega), (pE.mono e04).updHot (List.mem_cons_self ..) (.inl h0D), Ex.mut (pX.trans e04) hD, acc ++ [y], upd_same, ?_⟩
        rw [hid_upd (List.mem_cons_self ..), take_succ_map ha, if_pos hf]
        refine hacc.append (.cons ?_ .nil)
        rw [hh (Γa a) ga.1] at i4
        exact i4
      | false =>
        rw [if_neg Bool.false_ne_true]
        have e03 : Ex Ha H3 := ex.trans e3
        refine ⟨pE.mono e03, pX.trans e03, acc, e03 _ _ pD, ?_⟩
        rw [take_succ_map ha, hf, if_neg Bool.false_ne_true, List.append_nil]
        exact accOk e03
    · obtain ⟨pE, pX, acc, pD, pA⟩ := p
      rw [hlen, List.take_length] at pA
      exact q Dl acc H' (Evl.fresh_back e hD) (e.trans pX) pD pA
theorem de_eqNil (ha : DE K ta Γ (.lst ds)) (hp : plnAll ds = true) (hd : PyData.depthAll (pyAll ds) ≤ 63) : DE K (tOp (rEqD K) ta (tLst tNil)) Γ (.bl (decide (ds = []))) := by
  have e3 : py (.lst ds) = .list (pyAll ds) := by rw [py]
  have p3 : pln (D.lst ds) = true := by unfold pln; exact hp
  have e4 : py (.lst []) = .list [] := by rw [py, pyAll]
  refine de_eqD ha (de_lst da_nil (by decide)) p3 (by unfold pln plnAll; rfl) ?_ ?_ ?_
  · rw [e3, PyData.depth]
    omega
  · rw [e4, PyData.depth, PyData.depthAll]
    decide
  · rw [e3, e4, PyData.eqv]
    cases ds with
    | nil =>
      rw [pyAll, PyData.eqvAll]
      rfl
    | cons d ds =>
      rw [pyAll, PyData.eqvAll]
      rfl
theorem dn_rep {m : Nat} (ha : DN K ta Γ [d]) (hb : DE K tb Γ (.int (m : Int))) (hm : m ≤ 1000) : DN K (tOp rRep ta tb) Γ (List.replicate m d) := fun F H σ E Q q =>
  ha F H σ E _ fun p xs H1 hp e1 hl a1 => hb (F.more p) H1 σ (E.hot1 hp e1 (by rw [hl]; exact fun z => nomatch z)) _ fun v H2 e2 i2 => by
    cases i2
    cases a1 with
    | @cons x _ _ _ ix a2 =>
      cases a2
      have er : (List.replicate ((m : Int)).toNat [x]).flatten = List.replicate m x := by rw [Int.toNat_natCast, List.flatten_replicate_singleton]
      refine ⟨p, (m : Int), [x], rfl, rfl, e2 _ _ hl, by omega, by omega, by rw [Int.toNat_natCast]; exact line_of (by show 1 * m ≤ 16000000; omega), fun r hr => ?_⟩
      rw [er]
      refine q r _ _ (Evl.fresh_back (e1.trans e2) hr) ((e1.trans e2).trans (Ex.new hr)) upd_same (IsAll.replicate ?_ m)
      refine ix.mono fun a u h => ?_
      obtain ⟨n1, h1⟩ := hid_some h
      have hne := ne_of_none (e2 a u h1) hr
      rw [hid_out (by
        rw [List.mem_cons, not_or]
        exact ⟨hne, fun z => n1 (List.mem_cons_of_mem _ z)⟩), upd_ne hne]
      exact e2 a u h1
end
section
variable {K : PySem.W.Frag} {C : Hc} {F : Fx} {H H' : Hp} {σ : L2.St} {Γ Γ' Γ1 Γ2 Γw : Ctx} {ta tb te tc : TE} {tt tu : TT} {d e d1 d2 : D} {ds es : List D} {t u w : TS} {n m k j : Nat} {Φ Φ1 Φ2 : D → Prop} {Ψ Ψ1 Ψ2 : Ctx → Prop} {P P2 : Int → Prop}
theorem xs_rel {i : Nat} {p : Addr} (h : Γ[i]? = some (.own p ds)) (hk : XS K C t (Γ.set i (.dat (.lst ds))) n m Ψ) : XS K C t Γ n m Ψ := fun F H σ Z E hF hH q => hk F H σ Z (E.relL h) hF hH q
theorem xb_rel {i : Nat} {p : Addr} (h : Γ[i]? = some (.own p ds)) (hk : XB K C t (Γ.set i (.dat (.lst ds))) n m Φ) : XB K C t Γ n m Φ := fun F H σ Z E hF hH q => hk F H σ Z (E.relL h) hF hH q
theorem xs_forget {i : Nat} (h : XS K C t Γ n m Ψ) (hi : ∀ Γ0, Ψ Γ0 → (∃ x, Γ0[i]? = some x ∧ own1 x = []) ∧ Ψ1 (Γ0.set i .no)) : XS K C t Γ n m Ψ1 := fun F H σ Z E hF hH q => h F H σ Z E hF hH fun σ' H' Γ0 E' h' p => by
  obtain ⟨⟨x, hx, ho⟩, p1⟩ := hi Γ0 p
  exact q σ' H' _ (E'.forget hx ho) h' p1
theorem xe_tupleN {Θ : List D → Prop} (h : XN K C te Γ n m Θ) : XE K C (tCB (rTupS K) (tCons te tNil)) Γ n m fun d => ∃ ds, Θ ds ∧ d = .tup ds := fun F H σ E hF hH Q q => h F H σ E hF hH _ fun p xs H1 ds hp e1 h1 hl a th =>
  ⟨p, xs, rfl, .inl ⟨SqL.of hl, fun l hl' => q _ _ _ (e1.trans (.of (Ex.new hl'))) (h1.mono (Ex.new hl')) (.tup (SqT.of ((E.monoC hF hH e1 h1).put hl')) ((a.mono (hid_sub fun z hz => List.mem_cons_of_mem _ hz)).mono (hid_mono (Ex.new hl')))) ⟨ds, th, rfl⟩⟩⟩
/-- xs[j] = e, an owned list, e and j drawn -/
theorem xs_setO {i : Nat} {p : Addr} {N : Nat} (h : Γ[i]? = some (.own p ds)) (he : XE K C te Γ n m Φ) (hk : XE K C tb Γ m k (IntP fun z => ∃ j : Nat, z = (j : Int) ∧ j < N)) (hN : ds.length = N) : XS K C (tAsg te (gSub (tVar i) tb rSetL)) Γ n k fun Γ' => ∃ d j, Φ d ∧ j < N ∧ Γ' = Γ.set i (.own p (ds.set j d)) := fun F H σ Z E hF hH q =>
  he F H σ E hF hH _ fun v H1 d1 e1 h1 i1 p1 => by
    have E1 := E.monoC hF hH e1 h1
    obtain ⟨v', g1, rfl, xs, g2, g3⟩ := E1.ent i _ h
    refine ⟨.ref p, g1, hk F H1 σ E1 hF h1 _ fun v2 H2 d2 e2 h2 i2 p2 => ?_⟩
    obtain ⟨_, rfl, j, rfl, hj⟩ := p2
    cases i2
    have E2 := E1.monoC hF h1 e2 h2
    obtain ⟨_, _, _, xs2, b2, b3⟩ := E2.ent i _ h
    have hne := own_ne E hF h (List.mem_singleton.mpr rfl)
    have hix : ixN xs2.length (j : Int) = some j := by
      unfold ixN
      rw [if_pos (by omega), if_pos (by rw [b3.length, hN]; omega), Int.toNat_natCast]
    exact ⟨p, xs2, (j : Int), j, rfl, rfl, b2, hix, q σ _ _ (E2.updO (e' := .own p (ds.set j d1)) h rfl rfl ⟨rfl, _, upd_same, b3.set j (i1.mono (e2.hid hF.inl))⟩) (h2.off hne) ⟨d1, j, p1, hj, rfl⟩⟩
/-- a draw by sift -/
theorem xi_sift {i : Nat} {X : XK} {M : Int} (hi : Γ[i]? = some (.at_ C.hp)) (h : DE K te Γ (.int M)) (h1 : 1 ≤ M) (h2 : M ≤ 1000) (hn : n + 1 ≤ 100000) : XE K C (tCall (spX K 1 1 Rsift) [] X (tCons (tVar i) (tCons te tNil))) Γ n (n + 1) (IntP fun r => 0 ≤ r ∧ r < M) :=
  xe_draw hi (xa (da_cons h da_nil)) (fun ds hds => by
    subst hds
    refine ⟨rfl, ⟨.int 0, M, 0, rfl, h1, h2, rfl, by omega, by omega⟩, fun d hd => ?_⟩
    obtain ⟨m, r, e, _, _, rfl, a1, a2⟩ := hd
    simp only [List.cons.injEq, D.int.injEq, and_true] at e
    exact ⟨r, rfl, a1, by omega⟩) hn
end
def rotN (k : Nat) (x : Amt) : Amt := Nat.rec x (fun _ y => y.rot1) k
def Rturned : List D → D → Prop := fun ds d => ∃ x t, ds = [amtD x, .int t] ∧ d = amtD (rotN (t % 8).toNat x)
def RspreadL : List D → D → Prop := fun ds d => ∃ (k : Nat) (s : List Amt), ds = [.int (k : Int)] ∧ k ≤ 3 ∧ d = .lst (s.map amtD) ∧ s.length = 2 ^ k ∧ nzS s = true ∧ ∀ x ∈ s, Bd 2 x
theorem rot1_ne {x : Amt} (h : x ≠ Amt.zero) : x.rot1 ≠ Amt.zero := fun z => h (Amt.ext' (congrArg Amt.b z) (congrArg Amt.c z) (congrArg Amt.d z) (by
  have := congrArg Amt.a z
  have e : -x.d = 0 := this
  show x.d = 0
  omega))
theorem rotN_ne {x : Amt} (h : x ≠ Amt.zero) : ∀ k, rotN k x ≠ Amt.zero
  | 0 => h
  | k + 1 => rot1_ne (rotN_ne h k)
theorem rotN_bd {x : Amt} {n : Nat} (h : Bd n x) : ∀ k, Bd n (rotN k x)
  | 0 => h
  | k + 1 => (rotN_bd h k).rot.1
section
variable {P : Program} {w : World} {K : PySem.W.Frag} {mg : Str → Option Value} {base : Heap} {f : Addr} {fd : FuncData}
abbrev N_l_turned : List Str := ["_law_amount", "_law_turn", "_law_lap", "_law_a", "_law_b", "_law_c", "_law_d"]
theorem sc_l_turned : FnScope N_l_turned ["_law_amount", "_law_turn"] (defScope (top 81)) := ⟨rfl, rfl, rfl, by decide +kernel, rfl, by decide +kernel, by decide +kernel⟩
theorem c_l_turned (F : FnP K "_law_turned" (top 81) f fd) (hf : mg "_law_turned" = some (.ref f)) (b : Bs K mg) : Cal P w K mg base 1 "_law_turned" (spD K 2 Rturned) [] := by
  refine cal_of F hf (fn_dat F sc_l_turned rfl fun cdv A outer s H E hr => ?_) fun _ _ _ _ _ _ us hl => match us, hl with | [_, _], _ => rfl
  have hu := room_u hr; have hu1 := room_u1 hr; have hu2 := room_u2 hr; have nd := (sc_l_turned).nd
  refine ⟨_, (pss_cons (ps_asg (pv 0) (pg_tup rfl (pgs_cons (pg_name (i := 3) nd rfl (.inl rfl)) (pgs_cons (pg_name (i := 4) nd rfl (.inl rfl)) (pgs_cons (pg_name (i := 5) nd rfl (.inl rfl)) (pgs_cons (pg_name (i := 6) nd rfl (.inl rfl)) pgs_nil)))))) (pss_cons (ps_for PassesOwn.never rfl (pi_range1 rfl b.b_range (pa_cons (pe_op op_mod (pe_callTy call_int1 rfl b.b_int PyProof.Rows.boot_int (pa_cons (pv 1) pa_nil)) pe_int) pa_nil)) (pg_name (i := 2) nd rfl (.inl rfl)) (pss_one (ps_asg (pe_tup (pa_cons (pe_un un_neg (pv 6)) (pa_cons (pv 3) (pa_cons (pv 4) (pa_cons (pv 5) pa_nil))))) (pg_tup rfl (pgs_cons (pg_name (i := 3) nd rfl (.inl rfl)) (pgs_cons (pg_name (i := 4) nd rfl (.inl rfl)) (pgs_cons (pg_name (i := 5) nd rfl (.inl rfl)) (pgs_cons (pg_name (i := 6) nd rfl (.inl rfl)) pgs_nil)))))))) (pss_one (ps_ret (pe_tup (pa_cons (pv 3) (pa_cons (pv 4) (pa_cons (pv 5) (pa_cons (pv 6) pa_nil))))))))), fun ds d _ hR => ?_⟩

  obtain ⟨x, t, rfl, rfl⟩ := hR
  refine b_seq (s_asg (d := amtD x) (de_var rfl) (dg_amt (.inl rfl) (.inl rfl) (.inl rfl) (.inl rfl) (by decide) (by decide) (by decide) (by decide) (by decide) (by decide))) ?_
  have h8 : 0 ≤ t % 8 ∧ t % 8 < 8 := ⟨Int.emod_nonneg _ (by decide), Int.emod_lt_of_pos _ (by decide)⟩
  refine b_seq (s_for (ds := (List.range (t % 8).toNat).map fun i : Nat => D.int (i : Int)) (di_range1 (n := (t % 8).toNat) (DE.to (de_mod (de_int1 (de_var rfl)) de_int (by decide)) (by rw [Int.toNat_of_nonneg h8.1])) (by omega)) (fun i => [.dat (amtD x), .dat (.int t), .no, .dat (.int (rotN i x).a), .dat (.int (rotN i x).b), .dat (.int (rotN i x).c), .dat (.int (rotN i x).d)]) rfl (fun _ _ => rfl) fun i d hd => ?_) ?_
  · refine ⟨_, _, dg_name rfl rfl, s_forget (i := 2) (Γ1 := [.dat (amtD x), .dat (.int t), .dat d, .dat (.int (rotN (i + 1) x).a), .dat (.int (rotN (i + 1) x).b), .dat (.int (rotN (i + 1) x).c), .dat (.int (rotN (i + 1) x).d)]) ?_ rfl rfl⟩
    exact s_asg (d := amtD (rotN i x).rot1) (de_tup (da_cons (de_neg (de_var rfl)) (da_cons (de_var rfl) (da_cons (de_var rfl) (da_cons (de_var rfl) da_nil)))) (Nat.le_of_ble_eq_true rfl)) (dg_amt (.inr ⟨_, rfl⟩) (.inr ⟨_, rfl⟩) (.inr ⟨_, rfl⟩) (.inr ⟨_, rfl⟩) (by decide) (by decide) (by decide) (by decide) (by decide) (by decide))
  · rw [List.length_map, List.length_range]
    exact b_ret (de_tup (da_cons (de_var rfl) (da_cons (de_var rfl) (da_cons (de_var rfl) (da_cons (de_var rfl) da_nil)))) (Nat.le_of_ble_eq_true rfl))

theorem all2_4 {P : Int → Prop} {ds : List D} (h : All2 (fun _ : Nat => IntP P) (List.range 4) ds) : ∃ x : Amt, D.tup ds = amtD x ∧ P x.a ∧ P x.b ∧ P x.c ∧ P x.d := by
  have e : List.range 4 = [0, 1, 2, 3] := rfl
  rw [e] at h
  match ds, h with
  | [_, _, _, _], .cons ⟨a, rfl, ha⟩ (.cons ⟨b, rfl, hb⟩ (.cons ⟨c, rfl, hc⟩ (.cons ⟨d, rfl, hd⟩ .nil))) => exact ⟨⟨a, b, c, d⟩, rfl, ha, hb, hc, hd⟩
theorem plnA (x : Amt) : pln (amtD x) = true := pln_tupI [x.a, x.b, x.c, x.d]
theorem depA (x : Amt) : (py (amtD x)).depth ≤ 63 := by
  have e : py (amtD x) = .tuple ([x.a, x.b, x.c, x.d].map PyData.int) := by
    show py (.tup ([x.a, x.b, x.c, x.d].map D.int)) = _
    rw [py, pyAll_ints]
  rw [e, PyData.depth, depth_ints]
  decide
abbrev N_l_spread : List Str := ["_law_heap_here", "_law_many", "_law_found", "_law_at", "_law_amount", "_law_part"]
theorem sc_l_spread : FnScope N_l_spread ["_law_heap_here", "_law_many"] (defScope (top 85)) := ⟨rfl, rfl, rfl, by decide +kernel, rfl, by decide +kernel, by decide +kernel⟩

theorem c_l_spread (F : FnP K "_law_spread" (top 85) f fd) (hf : mg "_law_spread" = some (.ref f)) (b : Bs K mg) (q__law_sift : Cal P w K mg base 1 "_law_sift" (spX K 1 1 Rsift) []) (q__law_turned : Cal P w K mg base 1 "_law_turned" (spD K 2 Rturned) []) : Cal P w K mg base 2 "_law_spread" (spX K 1 70 RspreadL) [] := by
  refine cal_of F hf (fn_draw F sc_l_spread rfl fun cdv A outer s H E hr => ?_) fun _ _ _ _ _ _ us hl => match us, hl with | [_, _], _ => rfl
  have hu := room_u hr; have hu1 := room_u1 hr; have hu2 := room_u2 hr; have nd := sc_l_spread.nd
  refine ⟨_, (pss_cons (ps_set (i := 2) nd rfl (.inl rfl) (pe_lst pa_nil)) (pss_cons (ps_for PassesOwn.never rfl (pi_range1 rfl b.b_range (pa_cons (pe_op op_shl pe_int (pv 1)) pa_nil)) (pg_name (i := 3) nd rfl (.inl rfl)) (pss_one (ps_expr (pe_bm PySem.F.plainAttrs_list PySem.F.slot_list_append PySem.F.type_list_append mt_append (pv 2) (pa_cons (pe_callTy call_tuple_of rfl b.b_tuple PyProof.Rows.boot_tuple (pa_cons (pe_lc (own := [("_law_part", 5)]) rfl nd (pi_range1 rfl b.b_range (pa_cons pe_int pa_nil)) (blkOk_by (own := [("_law_part", 5)]) (N := N_l_spread) (sc := defScope (top 85)) (by decide +kernel)) (fun _ _ _ _ _ => (pg_name (i := 5) nd rfl (.inl rfl))) (fun _ _ _ _ _ => pts_nil) (fun _ _ _ _ _ => (pe_ifExp (pt_cmpR op_gt (pe_c q__law_sift hr (by decide) rfl (pa_cons (pv 0) (pa_cons pe_int pa_nil))) pe_int (nomark _)) (pe_op op_sub (pe_c q__law_sift hr (by decide) rfl (pa_cons (pv 0) (pa_cons pe_int pa_nil))) pe_int) pe_int))) pa_nil)) pa_nil))))) (pss_cons (ps_if (pt_cmpR op_eq (pe_c q__law_sift hr (by decide) rfl (pa_cons (pv 0) (pa_cons pe_int pa_nil))) pe_int (nomark _)) (pss_one (ps_set (i := 2) nd rfl (.inl rfl) (pe_op op_rep (pe_lst (pa_cons (pe_tup (pa_cons pe_int (pa_cons pe_int (pa_cons pe_int (pa_cons pe_int pa_nil))))) pa_nil)) (pe_op op_shl pe_int (pv 1))))) pss_nil) (pss_cons (ps_if (pt_cmpR (op_eqD hu) (pe_lc (own := [("_law_amount", 4)]) rfl nd (pi_list (pv 2)) (blkOk_by (own := [("_law_amount", 4)]) (N := N_l_spread) (sc := defScope (top 85)) (by decide +kernel)) (fun _ _ _ _ _ => (pg_name (i := 4) nd rfl (.inl rfl))) (fun _ _ _ _ _ => (pts_one (pt_cmpR (show OpR _ (compareOp .NotEq) (rNeD K) from (op_neD hu)) (pv 4) (pe_tup (pa_cons pe_int (pa_cons pe_int (pa_cons pe_int (pa_cons pe_int pa_nil))))) (nomark _)))) (fun _ _ _ _ _ => (pv 4))) (pe_lst pa_nil) (nomark _)) (pss_one (ps_asg (pe_c q__law_turned hr (by decide) rfl (pa_cons (pe_tup (pa_cons (pe_op op_add pe_int (pe_c q__law_sift hr (by decide) rfl (pa_cons (pv 0) (pa_cons pe_int pa_nil)))) (pa_cons pe_int (pa_cons pe_int (pa_cons pe_int pa_nil))))) (pa_cons (pe_c q__law_sift hr (by decide) rfl (pa_cons (pv 0) (pa_cons pe_int pa_nil))) pa_nil))) (pg_sub (pv 2) (pe_c q__law_sift hr (by decide) rfl (pa_cons (pv 0) (pa_cons (pe_op op_shl pe_int (pv 1)) pa_nil))) set_list))) pss_nil) (pss_one (ps_ret (pv 2))))))), fun C n ds _ hR hn => ?_⟩
  obtain ⟨_, k, _, rfl, hk, _⟩ := hR
  have p8 : 2 ^ k ≤ 8 := Nat.le_trans (Nat.pow_le_pow_right (by decide) hk) (by decide)
  have p1 := Nat.two_pow_pos k
  refine xb_seq (xs_own (xn (dn_lst da_nil (by decide))) rfl rfl) fun Γ1 h1 => ?_
  obtain ⟨p, _, rfl, rfl⟩ := h1
  let Ψ : Nat → Ctx → Prop := fun i Γ' => ∃ s : List Amt, Γ' = [.at_ C.hp, .dat (.int (k : Int)), .own p (s.map amtD), .no, .no, .no] ∧ s.length = i ∧ ∀ x ∈ s, Bd 2 x
  refine xb_seq (xs_for (c := 8) (ds := (List.range (2 ^ k)).map fun i : Nat => D.int (i : Int)) (di_range1 (n := 2 ^ k) (de_shl de_int (de_var rfl) (by omega)) (by omega)) Ψ ⟨[], rfl, rfl, fun _ h => (List.not_mem_nil h).elim⟩ (fun i Γ' h => ?_) fun i d Γ' hd h => ?_) fun Γ' h => ?_
  · obtain ⟨s, rfl, _⟩ := h
    rfl
  · obtain ⟨s, rfl, hl, hb⟩ := h
    have hi : i < 2 ^ k := by
      have := (List.getElem?_eq_some_iff.mp hd).1
      simpa using this
    have hi8 : i * 8 ≤ 56 := Nat.mul_le_mul_right 8 (show i ≤ 7 by omega)
    refine ⟨_, _, dg_name rfl rfl, xs_forget (i := 3) ((xs_append (Φ := fun d => ∃ x, d = amtD x ∧ Bd 2 x) (i := 2) rfl ((xe_tupleN (xn_lc (c := 2) (as := List.range 4) (em := fun i : Nat => D.int (i : Int)) (f := fun _ => true) (G := fun _ => IntP fun z => -3 ≤ z ∧ z ≤ 3) (di_range1 (n := 4) de_int (by decide)) rfl rfl (fun a _ => dg_name rfl rfl) (fun _ h => h) (fun a _ => dt_yes) (fun a ha _ j hj => ?_) (by decide))).imp fun d hd => ?_) (by rw [List.length_map]; omega)).le (by show n + i * 8 + (List.range 4).length * 2 ≤ _; rw [List.length_range]; omega)) fun Γ0 h0 => ?_⟩
    · rw [List.length_range] at hj
      refine xe_if (Θ := fun _ => True) (m := j + 1) ((xt_test (xi_cmp0 (xi_sift rfl de_int (by decide) (by decide) (by omega)) (xi de_int))).imp fun _ _ => trivial) (fun _ => ?_) fun _ => ?_
      · refine (xi_op0 (xi_sift rfl de_int (by decide) (by decide) (by omega)) (xi de_int)).imp fun d hd => ?_
        obtain ⟨r, rfl, a, c, ha, rfl, rfl⟩ := hd
        exact ⟨_, rfl, by omega, by omega⟩
      · refine ((xi de_int).imp fun d hd => ?_).le (Nat.le_succ _)
        obtain ⟨r, rfl, rfl⟩ := hd
        exact ⟨_, rfl, by decide, by decide⟩
    · obtain ⟨ds, h2, rfl⟩ := hd
      have e : (List.range 4).filter (fun _ => true) = List.range 4 := List.filter_eq_self.mpr fun _ _ => rfl
      rw [e] at h2
      obtain ⟨x, e1, a1, a2, a3, a4⟩ := all2_4 h2
      exact ⟨x, e1, by show x.a.natAbs < 4; omega, by show x.b.natAbs < 4; omega, by show x.c.natAbs < 4; omega, by show x.d.natAbs < 4; omega⟩
    · obtain ⟨_, ⟨x, rfl, bx⟩, rfl⟩ := h0
      refine ⟨⟨_, rfl, rfl⟩, s ++ [x], ?_, by rw [List.length_append, hl]; rfl, fun y hy => ?_⟩
      · rw [List.map_append]
        rfl
      · rcases List.mem_append.mp hy with z | z
        · exact hb y z
        · obtain rfl := List.mem_singleton.mp z
          exact bx
  obtain ⟨s, rfl, hl, hb⟩ := h
  rw [List.length_map, List.length_range] at hl
  rw [List.length_map, List.length_range]
  have h64 : 2 ^ k * 8 ≤ 64 := Nat.mul_le_mul_right 8 p8
  let Ψ2 : Ctx → Prop := fun Γ' => ∃ (p : Addr) (s : List Amt), Γ' = [.at_ C.hp, .dat (.int (k : Int)), .own p (s.map amtD), .no, .no, .no] ∧ s.length = 2 ^ k ∧ ∀ x ∈ s, Bd 2 x
  refine xb_seq (m := n + 65) (Ψ := Ψ2) (XS.le (m := n + 2 ^ k * 8 + 1) (xs_if (Θ := fun _ => True) (m := n + 2 ^ k * 8 + 1) ((xt_test (xi_eq (xi_sift (n := n + 2 ^ k * 8) rfl de_int (by decide) (by decide) (by omega)) (xi de_int))).imp fun _ _ => trivial) (fun _ => ?_) fun _ => ?_) (by omega)) fun Γ2 h2 => ?_
  · refine xs_rel (i := 2) rfl ((xs_own (xn (dn_rep (m := 2 ^ k) (d := amtD Amt.zero) (dn_lst (da_cons (de_tup (da_cons de_int (da_cons de_int (da_cons de_int (da_cons de_int da_nil)))) (Nat.le_of_ble_eq_true rfl)) da_nil) (Nat.le_of_ble_eq_true rfl)) (de_shl de_int (de_var rfl) (by omega)) (by omega))) rfl rfl).imp fun Γ' h => ?_)
    obtain ⟨p', _, rfl, rfl⟩ := h
    refine ⟨p', List.replicate (2 ^ k) Amt.zero, ?_, List.length_replicate, fun x hx => ?_⟩
    · rw [List.map_replicate]
      rfl
    · have : x = Amt.zero := List.eq_of_mem_replicate hx
      subst this
      exact Bd.zero 2
  · refine xs_next.imp fun Γ' h => ?_
    subst h
    exact ⟨p, s, rfl, hl, hb⟩
  obtain ⟨p, s, rfl, hl, hb⟩ := h2
  refine xb_seq (m := n + 70) (Ψ := fun Γ' => ∃ (p : Addr) (s : List Amt), Γ' = [.at_ C.hp, .dat (.int (k : Int)), .own p (s.map amtD), .no, .no, .no] ∧ s.length = 2 ^ k ∧ nzS s = true ∧ ∀ x ∈ s, Bd 2 x) (xs_if (Θ := fun b => b = decide (s.filter nzA = [])) (m := n + 65) (xt (DT.to' (dt_test (de_eqNil (ds := (s.filter nzA).map amtD) (de_ofN (dn_lcX (as := s) (em := amtD) (f := nzA) (gv := amtD) (di_own (dl_own rfl)) rfl rfl (fun a _ => dg_name rfl rfl) (fun _ h => h) (fun a _ => dt_test (DE.to (de_neTI (xs := [a.a, a.b, a.c, a.d]) (ys := [0, 0, 0, 0]) (de_var rfl) (de_tup (da_cons de_int (da_cons de_int (da_cons de_int (da_cons de_int da_nil)))) (Nat.le_of_ble_eq_true rfl))) ?_)) (fun a _ _ => de_var rfl) (by omega))) (plnAll_map plnA _) (dep_mem.mpr fun d hd => ?_))) ?_)) (fun z => ?_) fun z => ?_) fun Γ3 h3 => ?_
  · congr 1
    unfold nzA
    rw [Bool.eq_iff_iff]
    simp
    try omega
  · obtain ⟨x, _, rfl⟩ := List.mem_map.mp hd
    exact depA x
  · rw [Bool.eq_iff_iff, decide_eq_true_eq, decide_eq_true_eq, List.map_eq_nil_iff]
  · refine ((xs_setO (N := 2 ^ k) (i := 2) (Φ := fun d => ∃ x, d = amtD x ∧ Bd 2 x ∧ x ≠ Amt.zero) rfl (m := n + 65 + 2) ?_ ((xi_sift (n := n + 65 + 2) rfl (de_shl de_int (de_var rfl) (by omega)) (by omega) (by omega) (by omega)).imp fun d hd => ?_) (by rw [List.length_map, hl])).le (m := n + 65 + 2 + 1) (by omega)).imp fun Γ' h => ?_
    · refine xe_call (Θ := fun ds => ∃ (r t : Int), ds = [amtD ⟨1 + r, 0, 0, 0⟩, .int t] ∧ 0 ≤ r ∧ r < 3) ((xa_cons (Φ := fun d => ∃ r : Int, d = amtD ⟨1 + r, 0, 0, 0⟩ ∧ 0 ≤ r ∧ r < 3) (m := n + 65 + 1) ((xe_tup (xa_cons (xi_op0 (xi de_int) (xi_sift rfl de_int (by decide) (by decide) (by omega))) (xa (da_cons de_int (da_cons de_int (da_cons de_int da_nil))))) fun ds h => ?_).imp fun d hd => ?_) (xa_cons (xi_sift rfl de_int (by decide) (by decide) (by omega)) xa_nil)).imp fun ds h => ?_) fun ds h => ?_
      · obtain ⟨d, es, _, rfl, rfl⟩ := h
        exact Nat.le_of_ble_eq_true rfl
      · obtain ⟨ds, ⟨d, es, ⟨r, rfl, a, c, rfl, hc, rfl⟩, rfl, rfl⟩, rfl⟩ := hd
        exact ⟨c, rfl, hc.1, hc.2⟩
      · obtain ⟨d, es, ⟨r, rfl, h1, h2⟩, ⟨d', es', ⟨t, rfl, _⟩, rfl, rfl⟩, rfl⟩ := h
        exact ⟨r, t, rfl, h1, h2⟩
      · obtain ⟨r, t, rfl, h1, h2⟩ := h
        have bx : Bd 2 (⟨1 + r, 0, 0, 0⟩ : Amt) := ⟨by show (1 + r).natAbs < 4; omega, by show (0 : Int).natAbs < 4; decide, by show (0 : Int).natAbs < 4; decide, by show (0 : Int).natAbs < 4; decide⟩
        have nx : (⟨1 + r, 0, 0, 0⟩ : Amt) ≠ Amt.zero := fun z => by
          have := congrArg Amt.a z
          have e : 1 + r = 0 := this
          omega
        exact ⟨rfl, _, ⟨_, t, rfl, rfl⟩, _, rfl, rotN_bd bx _, rotN_ne nx _⟩
    · obtain ⟨r, rfl, h1, h2⟩ := hd
      exact ⟨r, rfl, r.toNat, by rw [Int.toNat_of_nonneg h1], by omega⟩
    · obtain ⟨d, j, ⟨x, rfl, bx, nx⟩, hj, rfl⟩ := h
      refine ⟨p, s.set j x, ?_, by rw [List.length_set, hl], ?_, fun y hy => ?_⟩
      · rw [List.map_set]
        rfl
      · unfold nzS
        rw [List.any_eq_true]
        exact ⟨x, List.mem_of_getElem? (List.getElem?_set_self (by omega)), nzA_iff.mpr nx⟩
      · rcases List.mem_or_eq_of_mem_set hy with z | z
        · exact hb y z
        · rw [z]
          exact bx
  · refine (xs_next.le (by omega)).imp fun Γ' h => ?_
    subst h
    refine ⟨p, s, rfl, hl, ?_, hb⟩
    have hne : s.filter nzA ≠ [] := fun e => by
      rw [decide_eq_true e] at z
      cases z
    obtain ⟨x, hx⟩ := List.exists_mem_of_ne_nil _ hne
    obtain ⟨h1, h2⟩ := List.mem_filter.mp hx
    exact List.any_eq_true.mpr ⟨x, h1, h2⟩
  obtain ⟨p, s, rfl, hl, hz, hb⟩ := h3
  refine (xb (b_rel (i := 2) rfl (b_ret (de_var rfl)))).imp fun d h => ?_
  subst h
  exact ⟨k, s, rfl, hk, rfl, hl, hz, hb⟩

end
end Lk
set_option maxHeartbeats 1000000
namespace Lk
open PySem PySem.Spec PyProof.Rows L2
open Evl (Ex)
open C8 (Cal pe_c Mak pe_mk)
structure Raw where
  n : Nat
  S : List (Int × Int)
  g : List Int
  k : List Int
  T : List (Int × Int)
def rawD (r : Raw) : D := .tup [.int (r.n : Int), .lst (r.S.map prD), .lst (r.g.map D.int), .lst (r.k.map D.int), .lst (r.T.map prD)]
def Raw.net (r : Raw) : NetM := mkNet r.n r.S r.g r.k r.T
def Raw.Ok (r : Raw) : Prop := OkNet r.n r.S r.g r.k r.T
def Rdrawn : List D → D → Prop := fun ds d => ∃ (m : Nat) (r : Raw), ds = [.int (m : Int)] ∧ 1 ≤ m ∧ m ≤ 5 ∧ d = rawD r ∧ r.Ok ∧ r.n ≤ m ∧ r.k.length ≤ 3 ∧ r.g.length ≤ 3 ∧ r.S.length ≤ 30
def RnetR : List D → D → Prop := fun ds d => ∃ r : Raw, ds = [rawD r] ∧ r.Ok ∧ d = netD r.net
def Rsecond : List D → D → Prop := fun ds d => ∃ (m : Nat) (r : Raw), ds = [.int (m : Int)] ∧ m ≤ 3 ∧ d = rawD r ∧ r.Ok ∧ r.n ≤ 4 ∧ r.k.length ≤ 3 ∧ r.g.length = m ∧ r.S.length ≤ 40
theorem perm_ints {fs : List D} {es : List D} (h : fs.Perm es) : ∀ {ns : List Int}, es = ns.map D.int → ∃ l : List Int, fs = l.map D.int ∧ l.Perm ns := by
  induction h with
  | nil => intro ns e; exact ⟨ns, e, List.Perm.refl _⟩
  | @cons x l1 l2 hp ih =>
    intro ns e
    cases ns with
    | nil => cases e
    | cons n ns =>
      rw [List.map_cons, List.cons.injEq] at e
      obtain ⟨rfl, e⟩ := e
      obtain ⟨l, rfl, h2⟩ := ih e
      exact ⟨n :: l, rfl, h2.cons n⟩
  | swap x y l =>
    intro ns e
    match ns, e with
    | a :: b :: ns, e =>
      rw [List.map_cons, List.map_cons, List.cons.injEq, List.cons.injEq] at e
      obtain ⟨rfl, rfl, rfl⟩ := e
      exact ⟨b :: a :: ns, rfl, List.Perm.swap _ _ _⟩
  | trans h1 h2 ih1 ih2 =>
    intro ns e
    obtain ⟨l, rfl, q⟩ := ih2 e
    obtain ⟨l', rfl, q'⟩ := ih1 rfl
    exact ⟨l', rfl, q'.trans q⟩
theorem perm_prs {fs : List D} {es : List D} (h : fs.Perm es) : ∀ {ns : List (Int × Int)}, es = ns.map prD → ∃ l : List (Int × Int), fs = l.map prD ∧ l.Perm ns := by
  induction h with
  | nil => intro ns e; exact ⟨ns, e, List.Perm.refl _⟩
  | @cons x l1 l2 hp ih =>
    intro ns e
    cases ns with
    | nil => cases e
    | cons n ns =>
      rw [List.map_cons, List.cons.injEq] at e
      obtain ⟨rfl, e⟩ := e
      obtain ⟨l, rfl, h2⟩ := ih e
      exact ⟨n :: l, rfl, h2.cons n⟩
  | swap x y l =>
    intro ns e
    match ns, e with
    | a :: b :: ns, e =>
      rw [List.map_cons, List.map_cons, List.cons.injEq, List.cons.injEq] at e
      obtain ⟨rfl, rfl, rfl⟩ := e
      exact ⟨b :: a :: ns, rfl, List.Perm.swap _ _ _⟩
  | trans h1 h2 ih1 ih2 =>
    intro ns e
    obtain ⟨l, rfl, q⟩ := ih2 e
    obtain ⟨l', rfl, q'⟩ := ih1 rfl
    exact ⟨l', rfl, q'.trans q⟩
theorem all2_prs {as : List Int} {ds : List D} {P : Int → Prop} (h : All2 (fun a d => ∃ r, d = prD (a, r) ∧ P r) as ds) : ∃ T : List (Int × Int), ds = T.map prD ∧ T.map (·.1) = as ∧ ∀ p ∈ T, P p.2 := by
  induction h with
  | nil => exact ⟨[], rfl, rfl, fun _ h => (List.not_mem_nil h).elim⟩
  | @cons a d as ds h _ ih =>
    obtain ⟨r, rfl, hr⟩ := h
    obtain ⟨T, rfl, rfl, hT⟩ := ih
    refine ⟨(a, r) :: T, rfl, rfl, fun p hp => ?_⟩
    rcases List.mem_cons.mp hp with rfl | hp
    · exact hr
    · exact hT p hp
theorem All2.mapL {α β : Type} {G : β → D → Prop} {f : α → β} : ∀ {as : List α} {ds : List D}, All2 (fun a d => G (f a) d) as ds → All2 G (as.map f) ds
  | _, _, .nil => .nil
  | _, _, .cons h a => .cons h a.mapL
theorem rng_pln (n : Nat) : plnAll ((rng n).map D.int) = true ∧ PyData.depthAll (pyAll ((rng n).map D.int)) ≤ 60 := ⟨plnAll_ints _, by rw [pyAll_ints, depth_ints]; decide⟩
section
variable {K : PySem.W.Frag} {C : Hc} {F : Fx} {H H' : Hp} {σ : L2.St} {Γ Γ' Γ1 Γ2 Γw : Ctx} {ta tb te tc : TE} {tt tu : TT} {d e d1 d2 : D} {ds es : List D} {t u w : TS} {n m k j : Nat} {Φ Φ1 Φ2 : D → Prop} {Ψ Ψ1 Ψ2 : Ctx → Prop} {P P2 : Int → Prop}
theorem XS.to (h : XS K C t Γ n m Ψ) (e : m = k) : XS K C t Γ n k Ψ := e ▸ h
theorem XN.to {Θ : List D → Prop} (h : XN K C te Γ n m Θ) (e : m = k) : XN K C te Γ n k Θ := e ▸ h
theorem xs_forN {c N : Nat} {wi : TI} {g : TG} (hN : ds.length = N) (hI : DI K wi Γ ds) (Ψs : Nat → Ctx → Prop) (h0 : Ψs 0 Γ) (ho : ∀ i Γ', Ψs i Γ' → owned Γ' = owned Γ)
    (step : ∀ i d Γ', ds[i]? = some d → Ψs i Γ' → ∃ js Γ1, DG K g js d Γ' Γ1 ∧ XS K C t Γ1 (n + i * c) (n + (i + 1) * c) (Ψs (i + 1))) : XS K C (tFor wi g t) Γ n (n + N * c) (Ψs N) := by
  subst hN
  exact xs_for hI Ψs h0 ho step
/-- what mixes the things -/
theorem xe_mixed {i : Nat} {X : XK} {q : Nat} (hi : Γ[i]? = some (.at_ C.hp)) (h : DE K te Γ (.lst ((rng q).map D.int))) (hq : q ≤ 20) (hn : n + 20 ≤ 100000) : XE K C (tCall (spX K 1 20 Rmixed) [] X (tCons (tVar i) (tCons te tNil))) Γ n (n + 20) fun d => ∃ ds, (∃ l : List Int, ds = l.map D.int ∧ l.Perm (rng q)) ∧ d = .lst ds :=
  xe_draw hi (xa (da_cons h da_nil)) (fun ds hds => by
    subst hds
    have hl : ((rng q).map D.int).length ≤ 20 := by rw [List.length_map, rng_length]; exact hq
    refine ⟨rfl, ⟨_, _, _, rfl, hl, (rng_pln q).1, (rng_pln q).2, rfl, List.Perm.refl _⟩, fun d hd => ?_⟩
    obtain ⟨es, fs, e, _, _, _, rfl, hp⟩ := hd
    simp only [List.cons.injEq, D.lst.injEq, and_true] at e
    subst e
    exact ⟨fs, perm_ints hp rfl, rfl⟩) hn
theorem de_min {i j : Int} {r : List V → Hp → VK → Prop} (ha : DE K ta Γ (.int i)) (hb : DE K tb Γ (.int j)) (hr : ∀ (H : Hp) (Q : VK), Q (.int (if j < i then j else i)) H → r [.int i, .int j] H Q) : DE K (tCB r (tCons ta (tCons tb tNil))) Γ (.int (if j < i then j else i)) := fun F H σ E Q q =>
  ha F H σ E _ fun v H1 e1 i1 => hb F H1 σ (E.mono e1) _ fun v2 H2 e2 i2 => by
    cases i1
    cases i2
    exact hr H2 Q (q _ H2 (e1.trans e2) (.int _))
/-- xs + ys, ys new and drawn -/
theorem xn_cat {Θ : List D → Prop} (h1 : DE K ta Γ (.lst ds)) (h2 : XN K C tb Γ n m Θ) (hl : ∀ es, Θ es → ds.length + es.length ≤ 16000000) : XN K C (tOp (rCatS K) ta tb) Γ n m fun fs => ∃ es, Θ es ∧ fs = ds ++ es := fun F H σ E hF hH Q q =>
  h1 F H σ E _ fun v H1 e1 i1 => h2 F H1 σ (E.mono e1) hF (hH.mono e1) _ fun b ys H2 es hb e2 hh2 hL a2 th => by
    have i1' := i1.mono (e2.hid hF.inl)
    cases i1' with
    | @lst a xs _ s1 a1 =>
      refine ⟨a, b, xs, ys, rfl, rfl, Evl.ex_l hid_le s1, SqL.of hL, by rw [a1.length, a2.length]; exact line_of (hl es th), fun p hp => ?_⟩
      have hp0 := freshC hH hh2 ((ExC.of e1).trans e2) hp
      refine q p _ _ _ hp0 (((ExC.of e1).trans e2).trans (.of (Ex.new hp))) (hh2.mono (Ex.new hp)) upd_same ?_ ⟨es, th, rfl⟩
      exact (a1.append (a2.mono (hid_sub fun z hz => List.mem_cons_of_mem _ hz))).mono (ex_new hp)
end
section
variable {P : Program} {w : World} {K : PySem.W.Frag} {mg : Str → Option Value} {base : Heap} {f : Addr} {fd : FuncData}
abbrev N_l_drawn : List Str := ["_law_heap_here", "_law_most", "_law_dense", "_law_one", "_law_given", "_law_kept", "_law_things", "_law_strings", "_law_other", "_law_thing"]
theorem sc_l_drawn : FnScope N_l_drawn ["_law_heap_here", "_law_most"] (defScope (top 86)) := ⟨rfl, rfl, rfl, by decide +kernel, rfl, by decide +kernel, by decide +kernel⟩

theorem c_l_drawn (F : FnP K "_law_drawn" (top 86) f fd) (hf : mg "_law_drawn" = some (.ref f)) (b : Bs K mg) (q__law_sift : Cal P w K mg base 1 "_law_sift" (spX K 1 1 Rsift) []) (q__law_any_of : Cal P w K mg base 2 "_law_any_of" (spX K 1 1 Rany) []) (q__law_mixed : Cal P w K mg base 2 "_law_mixed" (spX K 1 20 Rmixed) []) : Cal P w K mg base 3 "_law_drawn" (spX K 1 80 Rdrawn) [] := by
  refine cal_of F hf (fn_draw F sc_l_drawn rfl fun cdv A outer s H E hr => ?_) fun _ _ _ _ _ _ us hl => match us, hl with | [_, _], _ => rfl
  have hu := room_u hr; have hu1 := room_u1 hr; have hu2 := room_u2 hr; have nd := sc_l_drawn.nd
  refine ⟨_, (pss_cons (ps_par (i := 6) (j := 7) rfl nd rfl rfl (by decide) rfl rfl (pa_cons (pe_op op_add pe_int (pe_c q__law_sift hr (by decide) rfl (pa_cons (pv 0) (pa_cons (pv 1) pa_nil)))) (pa_cons (pe_lst pa_nil) pa_nil)) rfl) (pss_cons (ps_set (i := 2) nd rfl (.inl rfl) (pe_c q__law_any_of hr (by decide) rfl (pa_cons (pv 0) (pa_cons (pe_lst (pa_cons pe_int (pa_cons pe_int (pa_cons pe_int pa_nil)))) pa_nil)))) (pss_cons (ps_for PassesOwn.never rfl (pi_range1 rfl b.b_range (pa_cons (pv 6) pa_nil)) (pg_name (i := 3) nd rfl (.inl rfl)) (pss_one (ps_for PassesOwn.never rfl (pi_range2 rfl b.b_range (pa_cons (pe_op op_add (pv 3) pe_int) (pa_cons (pv 6) pa_nil))) (pg_name (i := 8) nd rfl (.inl rfl)) (pss_one (ps_if (pt_cmpR op_eq (pe_c q__law_sift hr (by decide) rfl (pa_cons (pv 0) (pa_cons (pv 2) pa_nil))) pe_int (nomark _)) (pss_one (ps_expr (pe_bm PySem.F.plainAttrs_list PySem.F.slot_list_append PySem.F.type_list_append mt_append (pv 7) (pa_cons (pe_tup (pa_cons (pv 3) (pa_cons (pv 8) pa_nil))) pa_nil)))) pss_nil))))) (pss_cons (ps_set (i := 4) nd rfl (.inl rfl) (pe_slice sl_list (pe_c q__law_mixed hr (by decide) rfl (pa_cons (pv 0) (pa_cons (pe_listRg rfl rfl b.b_list (prg_1 rfl b.b_range (pv 6))) pa_nil))) po_none (po_some (pe_c q__law_sift hr (by decide) rfl (pa_cons (pv 0) (pa_cons (pe_op op_add (pe_callB (call_min2 rfl) rfl b.b_min PyProof.Rows.boot_min (pa_cons pe_int (pa_cons (pv 6) pa_nil))) pe_int) pa_nil)))))) (pss_cons (ps_set (i := 5) nd rfl (.inr rfl) (pe_slice sl_list (pe_c q__law_mixed hr (by decide) rfl (pa_cons (pv 0) (pa_cons (pe_listRg rfl rfl b.b_list (prg_1 rfl b.b_range (pv 6))) pa_nil))) po_none (po_some (pe_c q__law_sift hr (by decide) rfl (pa_cons (pv 0) (pa_cons (pe_op op_add (pe_callB (call_min2 rfl) rfl b.b_min PyProof.Rows.boot_min (pa_cons pe_int (pa_cons (pv 6) pa_nil))) pe_int) pa_nil)))))) (pss_one (ps_ret (pe_tup (pa_cons (pv 6) (pa_cons (pv 7) (pa_cons (pv 4) (pa_cons (pv 5) (pa_cons (pe_lc (own := [("_law_thing", 9)]) rfl nd (pi_range1 rfl b.b_range (pa_cons (pv 6) pa_nil)) (blkOk_by (own := [("_law_thing", 9)]) (N := N_l_drawn) (sc := defScope (top 86)) (by decide +kernel)) (fun _ _ _ _ _ => (pg_name (i := 9) nd rfl (.inl rfl))) (fun _ _ _ _ _ => (pts_one (pt_cmpR (show OpR _ (compareOp .NotIn) (rIn K true) from op_notIn_seq) (pv 9) (pv 5) rfl))) (fun _ _ _ _ _ => (pe_tup (pa_cons (pv 9) (pa_cons (pe_c q__law_sift hr (by decide) rfl (pa_cons (pv 0) (pa_cons pe_int pa_nil))) pa_nil))))) pa_nil))))))))))))), fun C n ds _ hR hn => ?_⟩
  obtain ⟨_, m, _, rfl, m1, m5, _⟩ := hR
  refine xb_seq (xs_par (m := n + 1) (Φ := IntP fun x => 1 ≤ x ∧ x ≤ m) ((xi_op0 (xi de_int) (xi_sift rfl (de_var rfl) (by omega) (by omega) (by omega))).imp fun d hd => ?_) (dn_lst da_nil (by decide)) rfl rfl (fun _ => rfl) rfl) fun Γ1 h1 => ?_
  · obtain ⟨_, rfl, a, c, rfl, hc, rfl⟩ := hd
    exact ⟨_, rfl, by omega, by omega⟩
  obtain ⟨_, p, ⟨t', rfl, ht⟩, rfl⟩ := h1
  obtain ⟨t, rfl⟩ : ∃ t : Nat, t' = (t : Int) := ⟨t'.toNat, by omega⟩
  refine xb_seq (m := n + 2) (xs_set (Φ := IntP fun x => x = 2 ∨ x = 3) (xe_draw rfl (xa (da_cons (de_lst (da_cons de_int (da_cons de_int (da_cons de_int da_nil))) (Nat.le_of_ble_eq_true rfl)) da_nil)) (fun ds hds => ?_) (by omega)) rfl rfl) fun Γ1 h1 => ?_
  · subst hds
    refine ⟨rfl, ⟨.int 2, _, rfl, (fun z => nomatch z), Nat.le_of_ble_eq_true rfl, List.mem_cons_self ..⟩, fun d hd => ?_⟩
    obtain ⟨es, e, _, _, hm⟩ := hd
    simp only [List.cons.injEq, D.lst.injEq, and_true] at e
    subst e
    simp only [List.mem_cons, List.not_mem_nil, or_false] at hm
    rcases hm with rfl | rfl | rfl
    · exact ⟨2, rfl, .inl rfl⟩
    · exact ⟨2, rfl, .inl rfl⟩
    · exact ⟨3, rfl, .inr rfl⟩
  obtain ⟨_, ⟨dn, rfl, hdn⟩, rfl⟩ := h1
  let Ψ : Nat → Ctx → Prop := fun i Γ' => ∃ S : List (Int × Int), Γ' = [.at_ C.hp, .dat (.int (m : Int)), .dat (.int dn), .no, .no, .no, .dat (.int (t : Int)), .own p (S.map prD), .no, .no] ∧ (∀ q ∈ S, OkP t q ∧ q.1 < i) ∧ S.Nodup ∧ S.length ≤ i * 5
  refine xb_seq (m := n + 27) (XS.le (m := n + 2 + t * 5) (xs_forN (N := t) (by rw [List.length_map, List.length_range]) (c := 5) (ds := (List.range t).map fun i : Nat => D.int (i : Int)) (di_range1 (n := t) (de_var rfl) (by omega)) Ψ ⟨[], rfl, fun _ h => (List.not_mem_nil h).elim, List.nodup_nil, Nat.zero_le _⟩ (fun i Γ' h => ?_) fun i d Γ' hd h => ?_) (by omega)) fun Γ' h => ?_
  · obtain ⟨S, rfl, _⟩ := h
    rfl
  · obtain ⟨S, rfl, hS, hnd, hl⟩ := h
    have hi : i < t := by
      have := (List.getElem?_eq_some_iff.mp hd).1
      simpa using this
    rw [List.getElem?_map, List.getElem?_range hi] at hd
    cases hd
    let Ψ' : Nat → Ctx → Prop := fun j Γ' => ∃ S : List (Int × Int), Γ' = [.at_ C.hp, .dat (.int (m : Int)), .dat (.int dn), .dat (.int (i : Int)), .no, .no, .dat (.int (t : Int)), .own p (S.map prD), .no, .no] ∧ (∀ q ∈ S, OkP t q ∧ (q.1 < i ∨ (q.1 = i ∧ q.2 < i + 1 + j))) ∧ S.Nodup ∧ S.length ≤ i * 5 + j
    refine ⟨_, _, dg_name rfl rfl, xs_forget (i := 3) (Ψ := Ψ' (t - (i + 1))) (XS.le (m := n + 2 + i * 5 + (t - (i + 1)) * 1) (xs_forN (N := t - (i + 1)) (by rw [List.length_map, List.length_range]) (c := 1) (ds := (List.range (t - (i + 1))).map fun j : Nat => D.int (((i : Int) + 1) + (j : Int))) (di_range2 (n := t - (i + 1)) (lo := (i : Int) + 1) (hi := (t : Int)) (de_add (de_var rfl) de_int) (de_var rfl) (by omega) (by omega) (by omega)) Ψ' ⟨S, rfl, fun q hq => ⟨(hS q hq).1, .inl (hS q hq).2⟩, hnd, hl⟩ (fun j Γ' h => ?_) fun j d Γ' hd h => ?_) (by rw [Nat.succ_mul]; omega)) fun Γ0 h0 => ?_⟩
    · obtain ⟨S, rfl, _⟩ := h
      rfl
    · obtain ⟨S, rfl, hS, hnd, hl⟩ := h
      have hj : j < t - (i + 1) := by
        have := (List.getElem?_eq_some_iff.mp hd).1
        simpa using this
      rw [List.getElem?_map, List.getElem?_range hj] at hd
      cases hd
      refine ⟨_, _, dg_name rfl rfl, xs_forget (i := 8) (Ψ := fun Γ' => ∃ S : List (Int × Int), Γ' = [.at_ C.hp, .dat (.int (m : Int)), .dat (.int dn), .dat (.int (i : Int)), .no, .no, .dat (.int (t : Int)), .own p (S.map prD), .dat (.int ((i : Int) + 1 + (j : Int))), .no] ∧ (∀ q ∈ S, OkP t q ∧ (q.1 < i ∨ (q.1 = i ∧ q.2 < i + 1 + (j + 1 : Nat)))) ∧ S.Nodup ∧ S.length ≤ i * 5 + (j + 1)) (XS.le (m := n + 2 + i * 5 + j * 1 + 1) (xs_if (Θ := fun _ => True) (m := n + 2 + i * 5 + j * 1 + 1) ((xt_test (xi_eq (xi_sift (n := n + 2 + i * 5 + j * 1) rfl (de_var rfl) (by omega) (by omega) (by omega)) (xi de_int))).imp fun _ _ => trivial) (fun _ => ?_) fun _ => ?_) (by omega)) fun Γ0 h0 => ?_⟩
      · refine (xs (s_append (d := prD ((i : Int), (i : Int) + 1 + (j : Int))) rfl (de_tup (da_cons (de_var rfl) (da_cons (de_var rfl) da_nil)) (Nat.le_of_ble_eq_true rfl)) (by rw [List.length_map]; omega))).imp fun Γ' h => ?_
        subst h
        refine ⟨S ++ [((i : Int), (i : Int) + 1 + (j : Int))], ?_, fun q hq => ?_, ?_, by rw [List.length_append, List.length_singleton]; omega⟩
        · rw [List.map_append]
          rfl
        · rcases List.mem_append.mp hq with z | z
          · have := hS q z
            refine ⟨this.1, ?_⟩
            rcases this.2 with w | w
            · exact .inl w
            · exact .inr ⟨w.1, by omega⟩
          · obtain rfl := List.mem_singleton.mp z
            refine ⟨?_, .inr ⟨rfl, ?_⟩⟩
            · unfold OkP
              refine ⟨?_, ?_, ?_⟩ <;> (simp only; omega)
            · simp only
              omega
        · refine List.nodup_append.mpr ⟨hnd, List.nodup_cons.mpr ⟨List.not_mem_nil, List.nodup_nil⟩, fun a ha b' hb' z => ?_⟩
          obtain rfl := List.mem_singleton.mp hb'
          subst z
          have := (hS _ ha).2
          simp only at this
          omega
      · refine xs_next.imp fun Γ' h => ?_
        subst h
        refine ⟨S, rfl, fun q hq => ⟨(hS q hq).1, ?_⟩, hnd, by omega⟩
        rcases (hS q hq).2 with w | w
        · exact .inl w
        · exact .inr ⟨w.1, by omega⟩
      · obtain ⟨S, rfl, h2⟩ := h0
        exact ⟨⟨_, rfl, rfl⟩, S, rfl, h2⟩
    · obtain ⟨S, rfl, hS, hnd, hl⟩ := h0
      refine ⟨⟨_, rfl, rfl⟩, S, rfl, fun q hq => ⟨(hS q hq).1, ?_⟩, hnd, ?_⟩
      · have := (hS q hq).2
        omega
      · rw [Nat.succ_mul]
        omega
  obtain ⟨S, rfl, hS, hnd, hl⟩ := h
  have hq : ∀ q : Nat, q ≤ 3 → q ≤ 3 := fun _ h => h
  have sl : ∀ (Γ : Ctx) (n' : Nat), Γ[0]? = some (.at_ C.hp) → Γ[6]? = some (.dat (.int (t : Int))) → n' + 21 ≤ 100000 → XN K C (tSl (rSlL K) (tCall (spX K 1 20 Rmixed) [] C8.E0 (tCons (tVar 0) (tCons (tLstRg (tRg1 (tVar 6))) tNil))) tNoPart (tPart (tCall (spX K 1 1 Rsift) [] C8.E0 (tCons (tVar 0) (tCons (tOp (rI0 fun i j => .int (i + j)) (tCB (fun xs H Q => ∃ i j, xs = [.int i, .int j] ∧ Q (.int (if j < i then j else i)) H) (tCons (tC (.int 3)) (tCons (tVar 6) tNil))) (tC (.int 1))) tNil))))) Γ n' (n' + 20 + 1) fun es => ∃ l : List Int, es = l.map D.int ∧ l.Nodup ∧ (∀ x ∈ l, 0 ≤ x ∧ x < t) ∧ l.length ≤ 3 := fun Γ n' h0 h6 hn' =>
    (xn_slice (N := 3) (xe_mixed (q := t) h0 (de_ofN (dn_rg1 (de_var h6) (by omega))) (by omega) (by omega)) ((xi_sift h0 (de_add (de_min de_int (de_var h6) fun H Q q => ⟨_, _, rfl, q⟩) de_int) (by split <;> omega) (by split <;> omega) (by omega)).imp fun d hd => by
      obtain ⟨r, rfl, r1, r2⟩ := hd
      refine ⟨r, rfl, r.toNat, by rw [Int.toNat_of_nonneg r1], ?_⟩
      split at r2 <;> omega)).imp fun es h => by
      obtain ⟨ds, j, ⟨l, rfl, hp⟩, hj, rfl⟩ := h
      refine ⟨l.take j, by rw [List.map_take], List.Sublist.nodup (List.take_sublist _ _) (hp.nodup_iff.mpr (rng_nodup t)), fun x hx => rng_mem.mp (hp.mem_iff.mp (List.mem_of_mem_take hx)), by rw [List.length_take]; omega⟩
  refine xb_seq (m := n + 48) (xs_set (xe_ofN (sl _ (n + 27) rfl rfl (by omega))) rfl rfl) fun Γ1 h1 => ?_
  obtain ⟨_, ⟨_, ⟨g, rfl, g2, g1, g3⟩, rfl⟩, rfl⟩ := h1
  refine xb_seq (m := n + 69) (xs_set (xe_ofN (sl _ (n + 48) rfl rfl (by omega))) rfl rfl) fun Γ1 h1 => ?_
  obtain ⟨_, ⟨_, ⟨k, rfl, k2, k1, k3⟩, rfl⟩, rfl⟩ := h1
  refine xb_rel (i := 7) rfl ?_
  refine XB.le (m := n + 69 + t * 1) (xb_ret ((xe_tup (Θ := fun ds => ∃ T : List (Int × Int), ds = [.int (t : Int), .lst (S.map prD), .lst (g.map D.int), .lst (k.map D.int), .lst (T.map prD)] ∧ T.map (·.1) = lookd t k ∧ ∀ q ∈ T, 0 ≤ q.2 ∧ q.2 < 8) ((xa_cons (xe (de_var rfl)) (xa_cons (xe (de_var rfl)) (xa_cons (xe (de_var rfl)) (xa_cons (xe (de_var rfl)) (xa_cons (xe_ofN (XN.to (xn_lc (c := 1) (as := List.range t) (em := fun i : Nat => D.int (i : Int)) (f := fun i : Nat => !decide ((i : Int) ∈ k)) (G := fun (i : Nat) d => ∃ r, d = prD ((i : Int), r) ∧ (0 ≤ r ∧ r < 8)) (di_range1 (n := t) (de_var rfl) (by omega)) rfl rfl (fun i _ => dg_name rfl rfl) (fun _ h => h) (fun i _ => dt_test (de_inL (neg := true) (ns := k) (de_var rfl) (dl_of (de_var rfl)))) (fun i _ _ j hj => ?_) (by rw [List.length_range]; omega)) (by rw [List.length_range]))) xa_nil))))).imp fun ds h => ?_) fun ds h => ?_).imp fun d hd => ?_)) (by omega)
  · rw [List.length_range] at hj
    refine ((xe_tup (xa_cons (xe (de_var rfl)) (xa_cons (xi_sift rfl de_int (by decide) (by decide) (by omega)) xa_nil)) fun ds h => ?_)).imp fun d hd => ?_
    · obtain ⟨d, es, _, ⟨d', es', _, rfl, rfl⟩, rfl⟩ := h
      exact Nat.le_of_ble_eq_true rfl
    · obtain ⟨ds, ⟨d, es, rfl, ⟨d', es', ⟨r, rfl, hr⟩, rfl, rfl⟩, rfl⟩, rfl⟩ := hd
      exact ⟨r, rfl, hr⟩
  · obtain ⟨_, _, rfl, ⟨_, _, rfl, ⟨_, _, rfl, ⟨_, _, rfl, ⟨_, _, ⟨es, hes, rfl⟩, rfl, rfl⟩, rfl⟩, rfl⟩, rfl⟩, rfl⟩ := h
    obtain ⟨T, rfl, hT1, hT2⟩ := all2_prs (P := fun r => 0 ≤ r ∧ r < 8) (All2.mapL (f := fun i : Nat => (i : Int)) (G := fun a d => ∃ r, d = prD (a, r) ∧ (0 ≤ r ∧ r < 8)) hes)
    refine ⟨T, rfl, ?_, hT2⟩
    rw [hT1]
    unfold lookd rng
    rw [List.filter_map]
    rfl
  · obtain ⟨T, rfl, _⟩ := h
    exact Nat.le_of_ble_eq_true rfl
  · obtain ⟨ds, ⟨T, rfl, hT1, hT2⟩, rfl⟩ := hd
    refine ⟨m, ⟨t, S, g, k, T⟩, rfl, m1, m5, rfl, ⟨by show 1 ≤ t; omega, by show t ≤ 63; omega, fun q hq => (hS q hq).1, hnd, by show S.length < 64; omega, g1, g2, k1, k2, fun q hq => ?_, by rw [hT1]⟩, by show t ≤ m; omega, k3, g3, by show S.length ≤ 30; omega⟩
    have h1 := hT2 q hq
    have h2 : q.1 ∈ lookd t k := by
      rw [← hT1]
      exact List.mem_map.mpr ⟨q, hq, rfl⟩
    have h3 := (lookd_mem.mp h2).1
    unfold OkT
    omega
abbrev N_l_net : List Str := ["_law_parts"]
theorem sc_l_net : FnScope N_l_net ["_law_parts"] (defScope (top 87)) := ⟨rfl, rfl, rfl, by decide +kernel, rfl, by decide +kernel, by decide +kernel⟩
theorem c_l_net (F : FnP K "_law_net" (top 87) f fd) (hf : mg "_law_net" = some (.ref f)) (b : Bs K mg) (q_Net : QNet P w K mg base) : Cal P w K mg base 9 "_law_net" (spD K 1 RnetR) [] := by
  refine cal_of F hf (fn_dat F sc_l_net rfl fun cdv A outer s H E hr => ?_) fun _ _ _ _ _ _ us hl => match us, hl with | [_], _ => rfl
  have hu := room_u hr; have hu1 := room_u1 hr; have hu2 := room_u2 hr; have nd := (sc_l_net).nd
  refine ⟨_, (pss_one (ps_ret (pe_mk (q_Net) hr (by decide) rfl (pa_cons (pe_ix ix_tup (pv 0) pe_int (fun _ _ => rfl)) (pa_cons (pe_ix ix_tup (pv 0) pe_int (fun _ _ => rfl)) (pa_cons (pe_ix ix_tup (pv 0) pe_int (fun _ _ => rfl)) (pa_cons (pe_ix ix_tup (pv 0) pe_int (fun _ _ => rfl)) (pa_cons (pe_ix ix_tup (pv 0) pe_int (fun _ _ => rfl)) pa_nil)))))))), fun ds d _ hR => ?_⟩

  obtain ⟨r, rfl, ok, rfl⟩ := hR
  exact b_ret (de_make (da_cons (de_ixT (du_of (de_var rfl)) de_int rfl) (da_cons (de_ixT (du_of (de_var rfl)) de_int rfl) (da_cons (de_ixT (du_of (de_var rfl)) de_int rfl) (da_cons (de_ixT (du_of (de_var rfl)) de_int rfl) (da_cons (de_ixT (du_of (de_var rfl)) de_int rfl) da_nil))))) ⟨r.n, r.S, r.g, r.k, r.T, _, _, rfl, .inl rfl, .inl rfl, ok, rfl⟩)

end
end Lk
set_option maxHeartbeats 1000000
namespace Lk
open PySem PySem.Spec PyProof.Rows L2
open Evl (Ex)
open C8 (Cal pe_c Mak pe_mk)
section
variable {K : PySem.W.Frag} {C : Hc} {Γ : Ctx} {ta tb : TE} {n m k : Nat}
/-- xs[:e], xs and e drawn -/
theorem xn_sliceP {Θ : List D → Prop} {Pj : Nat → Prop} (ha : XE K C ta Γ n m fun d => ∃ ds, Θ ds ∧ d = .lst ds) (hb : XE K C tb Γ m k (IntP fun i => ∃ j : Nat, i = (j : Int) ∧ Pj j)) : XN K C (tSl (rSlL K) ta tNoPart (tPart tb)) Γ n k fun es => ∃ (ds : List D) (j : Nat), Θ ds ∧ Pj j ∧ es = ds.take j := fun F H σ E hF hH Q q =>
  ha F H σ E hF hH _ fun v H1 d1 e1 h1 i1 p1 => by
    have E1 := E.monoC hF hH e1 h1
    refine hb F H1 σ E1 hF h1 _ fun v2 H2 d2 e2 h2 i2 p2 => ?_
    obtain ⟨ds, th, rfl⟩ := p1
    obtain ⟨_, rfl, j, rfl, hj⟩ := p2
    cases i2
    have i1' := i1.mono (e2.hid hF.inl)
    cases i1' with
    | @lst a xs _ s1 a1 =>
      refine ⟨(j : Int), rfl, a, xs, rfl, Evl.ex_l hid_le s1, fun p hp => ?_⟩
      have hp0 := freshC hH h2 (e1.trans e2) hp
      have ec : cutV xs none (some (j : Int)) = xs.take j := by
        unfold cutV
        rw [HT.sIx_none, HT.sIx_nat, List.drop_zero, Nat.sub_zero, Nat.min_comm, ← List.take_take]
        exact List.take_of_length_le (by rw [List.length_take]; exact Nat.min_le_right _ _)
      rw [ec]
      exact q p _ _ _ hp0 ((e1.trans e2).trans (.of (Ex.new hp))) (h2.mono (Ex.new hp)) upd_same ((a1.take j).mono (ex_new hp)) ⟨ds, j, th, hj, rfl⟩
end
/-- one thing more -/
def Raw.more (r : Raw) (t : Int) : Raw := ⟨r.n + 1, r.S ++ [(0, (r.n : Int))], r.g, r.k, r.T ++ [((r.n : Int), t)]⟩
theorem Raw.more_ok {r : Raw} (h : r.Ok) (hn : r.n ≤ 10) (hl : r.S.length ≤ 50) {t : Int} (h1 : 0 ≤ t) (h2 : t ≤ 7) : (r.more t).Ok := by
  have n1 : 1 ≤ r.n := h.n1
  have up : ∀ x : Int, 0 ≤ x ∧ x < (r.n : Int) → 0 ≤ x ∧ x < ((r.n + 1 : Nat) : Int) := fun x h => by omega
  refine ⟨by show 1 ≤ r.n + 1; omega, by show r.n + 1 ≤ 63; omega, fun q hq => ?_, ?_, ?_, fun x hx => up x (h.g1 x hx), h.g2, fun x hx => up x (h.k1 x hx), h.k2, fun q hq => ?_, ?_⟩
  · rcases List.mem_append.mp hq with z | z
    · have := h.s1 q z
      unfold OkP at this ⊢
      show 0 ≤ q.1 ∧ q.1 < q.2 ∧ q.2 < ((r.n + 1 : Nat) : Int)
      omega
    · obtain rfl := List.mem_singleton.mp z
      unfold OkP
      show (0 : Int) ≤ 0 ∧ (0 : Int) < (r.n : Int) ∧ (r.n : Int) < ((r.n + 1 : Nat) : Int)
      omega
  · refine List.nodup_append.mpr ⟨h.s2, List.nodup_cons.mpr ⟨List.not_mem_nil, List.nodup_nil⟩, fun a ha b hb z => ?_⟩
    obtain rfl := List.mem_singleton.mp hb
    subst z
    have := h.s1 _ ha
    unfold OkP at this
    simp only at this
    omega
  · show (r.S ++ [_]).length < 64
    rw [List.length_append, List.length_singleton]
    omega
  · rcases List.mem_append.mp hq with z | z
    · exact h.t1 q z
    · obtain rfl := List.mem_singleton.mp z
      unfold OkT
      show (0 ≤ (r.n : Int) ∧ (r.n : Int) < 64) ∧ 0 ≤ t ∧ t ≤ 7
      omega
  · show ((r.T ++ [((r.n : Int), t)]).map (·.1)).Perm (lookd (r.n + 1) r.k)
    have nk : (r.n : Int) ∉ r.k := fun z => by
      have := (h.k1 _ z).2
      omega
    rw [lookd_succ, if_neg nk, List.map_append]
    exact h.t2.append_right _
section
variable {P : Program} {w : World} {K : PySem.W.Frag} {mg : Str → Option Value} {base : Heap} {f : Addr} {fd : FuncData}
abbrev N_l_second : List Str := ["_law_heap_here", "_law_many", "_law_parts"]
theorem sc_l_second : FnScope N_l_second ["_law_heap_here", "_law_many"] (defScope (top 88)) := ⟨rfl, rfl, rfl, by decide +kernel, rfl, by decide +kernel, by decide +kernel⟩

theorem c_l_second (F : FnP K "_law_second" (top 88) f fd) (hf : mg "_law_second" = some (.ref f)) (b : Bs K mg) (q__law_sift : Cal P w K mg base 1 "_law_sift" (spX K 1 1 Rsift) []) (q__law_mixed : Cal P w K mg base 2 "_law_mixed" (spX K 1 20 Rmixed) []) (q__law_drawn : Cal P w K mg base 3 "_law_drawn" (spX K 1 80 Rdrawn) []) : Cal P w K mg base 4 "_law_second" (spX K 1 110 Rsecond) [] := by
  refine cal_of F hf (fn_draw F sc_l_second rfl fun cdv A outer s H E hr => ?_) fun _ _ _ _ _ _ us hl => match us, hl with | [_, _], _ => rfl
  have hu := room_u hr; have hu1 := room_u1 hr; have hu2 := room_u2 hr; have nd := sc_l_second.nd
  refine ⟨_, (pss_cons (ps_set (i := 2) nd rfl (.inl rfl) (pe_c q__law_drawn hr (by decide) rfl (pa_cons (pv 0) (pa_cons pe_int pa_nil)))) (pss_cons (ps_while PassesOwn.never (pt_cmpR op_lt (pe_ix ix_tup (pv 2) pe_int (fun _ _ => rfl)) (pv 1) (nomark _)) (pss_one (ps_set (i := 2) nd rfl (.inl rfl) (pe_tup (pa_cons (pe_op op_add (pe_ix ix_tup (pv 2) pe_int (fun _ _ => rfl)) pe_int) (pa_cons (pe_op op_catS (pe_ix ix_tup (pv 2) pe_int (fun _ _ => rfl)) (pe_lst (pa_cons (pe_tup (pa_cons pe_int (pa_cons (pe_ix ix_tup (pv 2) pe_int (fun _ _ => rfl)) pa_nil))) pa_nil))) (pa_cons (pe_ix ix_tup (pv 2) pe_int (fun _ _ => rfl)) (pa_cons (pe_ix ix_tup (pv 2) pe_int (fun _ _ => rfl)) (pa_cons (pe_op op_catS (pe_ix ix_tup (pv 2) pe_int (fun _ _ => rfl)) (pe_lst (pa_cons (pe_tup (pa_cons (pe_ix ix_tup (pv 2) pe_int (fun _ _ => rfl)) (pa_cons (pe_c q__law_sift hr (by decide) rfl (pa_cons (pv 0) (pa_cons pe_int pa_nil))) pa_nil))) pa_nil))) pa_nil))))))))) (pss_one (ps_ret (pe_tup (pa_cons (pe_ix ix_tup (pv 2) pe_int (fun _ _ => rfl)) (pa_cons (pe_ix ix_tup (pv 2) pe_int (fun _ _ => rfl)) (pa_cons (pe_slice sl_list (pe_c q__law_mixed hr (by decide) rfl (pa_cons (pv 0) (pa_cons (pe_listRg rfl rfl b.b_list (prg_1 rfl b.b_range (pe_ix ix_tup (pv 2) pe_int (fun _ _ => rfl)))) pa_nil))) po_none (po_some (pv 1))) (pa_cons (pe_ix ix_tup (pv 2) pe_int (fun _ _ => rfl)) (pa_cons (pe_ix ix_tup (pv 2) pe_int (fun _ _ => rfl)) pa_nil)))))))))), fun C n ds _ hR hn => ?_⟩
  obtain ⟨_, m, _, rfl, m3, _⟩ := hR
  refine xb_seq (m := n + 80) (xs_set (Φ := fun d => ∃ r : Raw, d = rawD r ∧ r.Ok ∧ r.n ≤ 4 ∧ r.k.length ≤ 3 ∧ r.S.length ≤ 30) (xe_draw rfl (xa (da_cons (de_int (i := 4)) da_nil)) (fun ds hds => ?_) (by omega)) rfl rfl) fun Γ1 h1 => ?_
  · subst hds
    refine ⟨rfl, ⟨_, 4, ⟨1, [], [], [], [(0, 0)]⟩, rfl, by decide, by decide, rfl, ⟨by decide, by decide, fun _ h => (List.not_mem_nil h).elim, List.nodup_nil, by decide, fun _ h => (List.not_mem_nil h).elim, List.nodup_nil, fun _ h => (List.not_mem_nil h).elim, List.nodup_nil, fun q hq => ?_, List.Perm.refl _⟩, by decide, by decide, by decide, by decide⟩, fun d hd => ?_⟩
    · obtain rfl := List.mem_singleton.mp hq
      unfold OkT
      decide
    · obtain ⟨m', r, e, _, _, rfl, ok, hn', hk, _, hS⟩ := hd
      simp only [List.cons.injEq, D.int.injEq, and_true] at e
      exact ⟨r, rfl, ok, by omega, hk, hS⟩
  obtain ⟨_, ⟨r, rfl, ok, hn4, hk3, hS⟩, rfl⟩ := h1
  let Ψ : Nat → Ctx → Prop := fun i Γ' => ∃ r : Raw, Γ' = [.at_ C.hp, .dat (.int (m : Int)), .dat (rawD r)] ∧ r.Ok ∧ r.n ≤ 4 ∧ r.k.length ≤ 3 ∧ m - r.n = i ∧ r.S.length ≤ 30 + r.n
  refine xb_seq (m := n + 83) (XS.le (m := n + 80 + (m - r.n) * 1) (xs_while (c := 1) Ψ (m - r.n) ⟨r, rfl, ok, hn4, hk3, rfl, by omega⟩ (fun i Γ' h => ?_) (fun i Γ' hi h => ?_) (fun Γ' h => ?_) fun i Γ' hi h j hj => ?_) (by omega)) fun Γ' h => ?_
  · obtain ⟨r, rfl, _⟩ := h
    rfl
  · obtain ⟨r, rfl, _, _, _, h, _⟩ := h
    exact dt_test (DE.to (de_lt (de_ixT (du_of (de_var rfl)) de_int rfl) (de_var rfl)) (by rw [decide_eq_true (by omega)]))
  · obtain ⟨r, rfl, _, _, _, h, _⟩ := h
    exact dt_test (DE.to (de_lt (de_ixT (du_of (de_var rfl)) de_int rfl) (de_var rfl)) (by rw [decide_eq_false (by omega)]))
  · obtain ⟨r, rfl, ok, hn4, hk3, he, hS⟩ := h
    have tl := ok.tlen
    refine (xs_set (Φ := fun d => ∃ t, d = rawD (r.more t) ∧ 0 ≤ t ∧ t < 8) ((xe_tup (Θ := fun ds => ∃ t : Int, ds = [.int ((r.n + 1 : Nat) : Int), .lst ((r.S ++ [(0, (r.n : Int))]).map prD), .lst (r.g.map D.int), .lst (r.k.map D.int), .lst ((r.T ++ [((r.n : Int), t)]).map prD)] ∧ 0 ≤ t ∧ t < 8) ((xa_cons (xe (DE.to (de_add (de_ixT (du_of (de_var rfl)) de_int rfl) de_int) (e := .int ((r.n + 1 : Nat) : Int)) (by congr 1))) (xa_cons (xe (de_ofN (DN.to (dn_cat (dl_of (de_ixT (du_of (de_var rfl)) de_int rfl)) (dl_ofN (dn_lst (da_cons (de_tup (da_cons de_int (da_cons (de_ixT (du_of (de_var rfl)) de_int rfl) da_nil)) (Nat.le_of_ble_eq_true rfl)) da_nil) (Nat.le_of_ble_eq_true rfl))) (by rw [List.length_map, List.length_singleton]; omega)) (es := (r.S ++ [(0, (r.n : Int))]).map prD) (by rw [List.map_append] <;> rfl)))) (xa_cons (xe (de_ixT (du_of (de_var rfl)) de_int rfl)) (xa_cons (xe (de_ixT (du_of (de_var rfl)) de_int rfl)) (xa_cons (xe_ofN (xn_cat (de_ixT (d := .lst (r.T.map prD)) (du_of (de_var rfl)) de_int rfl) (xn_lst (Θ := fun es => ∃ t : Int, es = [prD ((r.n : Int), t)] ∧ 0 ≤ t ∧ t < 8) ((xa_cons ((xe_tup (xa_cons (xe (de_ixT (d := .int (r.n : Int)) (du_of (de_var rfl)) de_int rfl)) (xa_cons (xi_sift (n := j) rfl de_int (by decide) (by decide) (by omega)) xa_nil)) fun ds h => ?_)) xa_nil).imp fun es h => ?_) fun es h => ?_) fun es h => ?_)) xa_nil))))).imp fun ds h => ?_) fun ds h => ?_).imp fun d hd => ?_) rfl rfl).imp fun Γ' h => ?_
    · obtain ⟨d, es, _, ⟨d', es', _, rfl, rfl⟩, rfl⟩ := h
      exact Nat.le_of_ble_eq_true rfl
    · obtain ⟨_, _, ⟨ds, ⟨_, _, rfl, ⟨_, _, ⟨t, rfl, ht⟩, rfl, rfl⟩, rfl⟩, rfl⟩, rfl, rfl⟩ := h
      exact ⟨t, rfl, ht⟩
    · obtain ⟨t, rfl, _⟩ := h
      exact Nat.le_of_ble_eq_true rfl
    · obtain ⟨t, rfl, _⟩ := h
      rw [List.length_map, List.length_singleton]
      omega
    · obtain ⟨_, _, rfl, ⟨_, _, rfl, ⟨_, _, rfl, ⟨_, _, rfl, ⟨_, _, ⟨es, ⟨es', ⟨t, rfl, ht⟩, rfl⟩, rfl⟩, rfl, rfl⟩, rfl⟩, rfl⟩, rfl⟩, rfl⟩ := h
      refine ⟨t, ?_, ht⟩
      rw [List.map_append (l₁ := r.T)]
      rfl
    · obtain ⟨t, rfl, _⟩ := h
      exact Nat.le_of_ble_eq_true rfl
    · obtain ⟨ds, ⟨t, rfl, ht⟩, rfl⟩ := hd
      exact ⟨t, rfl, ht⟩
    · obtain ⟨_, ⟨t, rfl, t0, t8⟩, rfl⟩ := h
      refine ⟨r.more t, rfl, Raw.more_ok ok (by omega) (by omega) t0 (by omega), by show r.n + 1 ≤ 4; omega, hk3, by show m - (r.n + 1) = i; omega, ?_⟩
      show (r.S ++ [_]).length ≤ 30 + (r.n + 1)
      rw [List.length_append, List.length_singleton]
      omega
  obtain ⟨r, rfl, ok, hn4, hk3, he, hS⟩ := h
  refine XB.le (m := n + 83 + 20) (xb_ret ((xe_tup (Θ := fun ds => ∃ g : List Int, ds = [.int (r.n : Int), .lst (r.S.map prD), .lst (g.map D.int), .lst (r.k.map D.int), .lst (r.T.map prD)] ∧ g.Nodup ∧ (∀ x ∈ g, 0 ≤ x ∧ x < r.n) ∧ g.length = m) ((xa_cons (xe (de_ixT (d := .int (r.n : Int)) (du_of (de_var rfl)) de_int rfl)) (xa_cons (xe (de_ixT (d := .lst (r.S.map prD)) (du_of (de_var rfl)) de_int rfl)) (xa_cons (xe_ofN (xn_sliceP (Pj := fun j => j = m) (xe_mixed (n := n + 83) (q := r.n) rfl (de_ofN (dn_rg1 (de_ixT (du_of (de_var rfl)) de_int rfl) (by omega))) (by omega) (by omega)) ((xi (i := (m : Int)) (de_var rfl)).imp fun d hd => ?_))) (xa_cons (xe (de_ixT (d := .lst (r.k.map D.int)) (du_of (de_var rfl)) de_int rfl)) (xa_cons (xe (de_ixT (d := .lst (r.T.map prD)) (du_of (de_var rfl)) de_int rfl)) xa_nil))))).imp fun ds h => ?_) fun ds h => ?_).imp fun d hd => ?_)) (by omega)
  · obtain ⟨x, rfl, rfl⟩ := hd
    exact ⟨_, rfl, m, rfl, rfl⟩
  · obtain ⟨_, _, rfl, ⟨_, _, rfl, ⟨_, _, ⟨es, ⟨ds', j, ⟨l, rfl, hp⟩, rfl, rfl⟩, rfl⟩, ⟨_, _, rfl, ⟨_, _, rfl, rfl, rfl⟩, rfl⟩, rfl⟩, rfl⟩, rfl⟩ := h
    have ll := hp.length_eq
    rw [rng_length] at ll
    have hmn : j ≤ r.n := by omega
    exact ⟨l.take j, by rw [List.map_take], List.Sublist.nodup (List.take_sublist _ _) (hp.nodup_iff.mpr (rng_nodup _)), fun x hx => rng_mem.mp (hp.mem_iff.mp (List.mem_of_mem_take hx)), by rw [List.length_take]; omega⟩
  · obtain ⟨g, rfl, _⟩ := h
    exact Nat.le_of_ble_eq_true rfl
  · obtain ⟨ds, ⟨g, rfl, g2, g1, g3⟩, rfl⟩ := hd
    exact ⟨m, ⟨r.n, r.S, g, r.k, r.T⟩, rfl, m3, rfl, ⟨ok.n1, ok.n2, ok.s1, ok.s2, ok.s3, g1, g2, ok.k1, ok.k2, ok.t1, ok.t2⟩, hn4, hk3, g3, by show r.S.length ≤ 40; omega⟩

end
end Lk
set_option maxHeartbeats 1000000
namespace Lk
open L2
/-! ### values of the stages -/
def ng (b : Bool) (x : Amt) : Amt := if b = true then x.minus else x
def sg (S : List (Int × Int)) (f : Asg) : Bool := S.foldl (fun b p => b ^^ (f p.1 && f p.2)) false
theorem ng_ng (a b : Bool) (x : Amt) : ng a (ng b x) = ng (a ^^ b) x := by
  cases a <;> cases b <;> simp [ng, minus_minus]
theorem ng_times (b : Bool) (x y : Amt) : (ng b x).times y = ng b (x.times y) := by
  cases b
  · rfl
  · exact minus_times x y
theorem times_ng (b : Bool) (x y : Amt) : x.times (ng b y) = ng b (x.times y) := by
  cases b
  · rfl
  · exact times_minus x y
theorem ng_num (b : Bool) (x : Amt) : ng b x = (ng b (Amt.num 1)).times x := by rw [ng_times, one_times]
theorem sg_fold (f : Asg) : ∀ (S : List (Int × Int)) (b : Bool), S.foldl (fun b p => b ^^ (f p.1 && f p.2)) b = (b ^^ sg S f)
  | [], b => by simp [sg]
  | p :: S, b => by
    unfold sg
    rw [List.foldl_cons, List.foldl_cons, sg_fold f S, sg_fold f S (false ^^ _), Bool.false_xor, Bool.xor_assoc]
theorem sg_cons (f : Asg) (p : Int × Int) (S : List (Int × Int)) : sg (p :: S) f = ((f p.1 && f p.2) ^^ sg S f) := by
  unfold sg
  rw [List.foldl_cons, sg_fold, Bool.false_xor]
  rfl
theorem sg_append (f : Asg) : ∀ (S T : List (Int × Int)), sg (S ++ T) f = (sg S f ^^ sg T f)
  | [], T => by simp [sg]
  | p :: S, T => by rw [List.cons_append, sg_cons, sg_cons, sg_append f S T, Bool.xor_assoc]
theorem sg_perm {f : Asg} {S T : List (Int × Int)} (h : S.Perm T) : sg S f = sg T f := by
  induction h with
  | nil => rfl
  | cons p _ ih => rw [sg_cons, sg_cons, ih]
  | swap p q l => rw [sg_cons, sg_cons, sg_cons, sg_cons, ← Bool.xor_assoc, ← Bool.xor_assoc, Bool.xor_comm (f q.1 && f q.2)]
  | trans _ _ ih1 ih2 => rw [ih1, ih2]
theorem sg_nrm (ρ : Int → Int) (f : Asg) : ∀ S : List (Int × Int), sg (S.map (nrm ρ)) f = sg S (fun t => f (ρ t))
  | [] => rfl
  | p :: S => by
    rw [List.map_cons, sg_cons, sg_cons, sg_nrm ρ f S]
    congr 1
    unfold nrm
    split
    · rfl
    · exact Bool.and_comm _ _
theorem sg_congr {f g : Asg} : ∀ {S : List (Int × Int)}, (∀ p ∈ S, f p.1 = g p.1 ∧ f p.2 = g p.2) → sg S f = sg S g
  | [], _ => rfl
  | p :: S, h => by
    obtain ⟨h1, h2⟩ := h p (List.mem_cons_self ..)
    rw [sg_cons, sg_cons, h1, h2, sg_congr fun q hq => h q (List.mem_cons_of_mem _ hq)]
theorem rng_get {n i : Nat} (h : i < n) : (rng n)[i]? = some (i : Int) := by
  unfold rng
  rw [List.getElem?_map, List.getElem?_range h]
  rfl
theorem tie_val {s : List Amt} {n a b : Nat} (ha : a < n) (hb : b < n) (hs : s.length = 2 ^ n) (f : Asg) : val (tieS s a b) (rng n) f = ng (f a && f b) (val s (rng n) f) := by
  have hl : idx (rng n) f < s.length := by
    have := idx_lt' (rng n) f
    rw [rng_length] at this
    rw [hs]
    exact this
  unfold val tieS
  rw [List.getD_eq_getElem?_getD, List.getElem?_map, List.getElem?_zipIdx, List.getElem?_eq_getElem hl, List.getD_eq_getElem?_getD, List.getElem?_eq_getElem hl]
  show (if (0 + idx (rng n) f).testBit a && (0 + idx (rng n) f).testBit b then _ else _) = _
  rw [Nat.zero_add, idx_bit, idx_bit, rng_get ha, rng_get hb]
  rfl
theorem ties_val {n : Nat} : ∀ {S : List (Int × Int)} {s : List Amt}, (∀ p ∈ S, OkP n p) → s.length = 2 ^ n → ∀ f, val (S.foldl (fun s p => tieS s p.1.toNat p.2.toNat) s) (rng n) f = ng (sg S f) (val s (rng n) f)
  | [], s, _, _, f => by simp [sg, ng]
  | p :: S, s, h, hs, f => by
    have hp := h p (List.mem_cons_self ..)
    unfold OkP at hp
    rw [List.foldl_cons, ties_val (fun q hq => h q (List.mem_cons_of_mem _ hq)) (by rw [tie_len]; exact hs) f, tie_val (by omega) (by omega) hs, ng_ng, sg_cons, Int.toNat_of_nonneg hp.1, Int.toNat_of_nonneg (by omega), Bool.xor_comm]
theorem idx_append : ∀ (l1 l2 : List Int) (f : Asg), idx (l1 ++ l2) f = idx l1 f + 2 ^ l1.length * idx l2 f
  | [], l2, f => by simp [idx]
  | l :: l1, l2, f => by
    show (f l).toNat + 2 * idx (l1 ++ l2) f = (f l).toNat + 2 * idx l1 f + 2 ^ (l1.length + 1) * idx l2 f
    rw [idx_append l1 l2 f, Nat.pow_succ]
    generalize idx l2 f = m
    generalize 2 ^ l1.length = q
    grind
theorem both_get : ∀ {s t : List Amt} {i j : Nat}, i < s.length → j < t.length → (bothS s t).getD (i + s.length * j) Amt.zero = (s.getD i Amt.zero).times (t.getD j Amt.zero)
  | s, [], i, j, _, hj => absurd hj (Nat.not_lt_zero _)
  | s, y :: t, i, 0, hi, _ => by
    unfold bothS
    rw [List.flatMap_cons, Nat.mul_zero, Nat.add_zero, List.getD_eq_getElem?_getD, List.getElem?_append_left (by rw [List.length_map]; exact hi), List.getElem?_map, List.getElem?_eq_getElem hi, List.getD_eq_getElem?_getD, List.getElem?_eq_getElem hi]
    rfl
  | s, y :: t, i, j + 1, hi, hj => by
    have ih := both_get (s := s) (t := t) (i := i) (j := j) hi (by simpa using hj)
    unfold bothS at ih ⊢
    rw [List.flatMap_cons, List.getD_eq_getElem?_getD, List.getElem?_append_right (by rw [List.length_map, Nat.mul_succ]; omega), List.length_map]
    rw [show i + s.length * (j + 1) - s.length = i + s.length * j by rw [Nat.mul_succ]; omega, ← List.getD_eq_getElem?_getD, ih]
    simp
theorem both_val {s t : List Amt} {l1 l2 : List Int} (hs : s.length = 2 ^ l1.length) (ht : t.length = 2 ^ l2.length) (f : Asg) : val (bothS s t) (l1 ++ l2) f = (val s l1 f).times (val t l2 f) := by
  unfold val
  rw [idx_append, ← hs]
  exact both_get (by rw [hs]; exact idx_lt' l1 f) (by rw [ht]; exact idx_lt' l2 f)
theorem even_val {k : Nat} {l : List Int} (hl : l.length = k) (f : Asg) : val (evenS k) l f = Amt.num 1 := by
  unfold val evenS
  rw [List.getD_eq_getElem?_getD, List.getElem?_replicate, if_pos (by rw [← hl]; exact idx_lt' l f)]
  rfl
theorem beg_val {N : NetM} {s : List Amt} (ok : NetOk N) (hs : s.length = 2 ^ N.given.length) (f : Asg) : val (begS N s) (rng N.things) f = ng (sg N.strings f) (val s N.given f) := by
  have rl := rest_len ok
  have fp := full_perm ok
  have fnd : (fullL N).Nodup := fp.nodup_iff.mpr (rng_nodup _)
  have bl : (bothS s (evenS (restL N).length)).length = 2 ^ N.things := by rw [both_len, even_len, hs, ← Nat.pow_add, rl]
  unfold begS
  rw [ties_val ok.s1 (by rw [lay_len, bl]), lay_val fp fnd (by rw [bl, fp.length_eq, rng_length])]
  unfold fullL
  rw [both_val hs (even_len _), even_val rfl, times_one]
/-! ### a look -/
def Asg.upd (f : Asg) (l : Int) (b : Bool) : Asg := fun t => if t = l then b else f t
theorem here_step (b : Bool) (m p : Nat) : hereN (b.toNat + 2 * m) (p + 1) = b.toNat + 2 * hereN m p := by
  unfold hereN
  have hb : b.toNat ≤ 1 := Bool.toNat_le _
  have e1 : (b.toNat + 2 * m) % 2 ^ (p + 1) = b.toNat + 2 * (m % 2 ^ p) := by
    rw [Nat.pow_succ, Nat.mul_comm (2 ^ p), Nat.mod_mul]
    have : (b.toNat + 2 * m) % 2 = b.toNat := by omega
    have : (b.toNat + 2 * m) / 2 = m := by omega
    grind
  have e2 : (b.toNat + 2 * m) / 2 ^ (p + 1) = m / 2 ^ p := by
    rw [Nat.pow_succ, Nat.mul_comm (2 ^ p), ← Nat.div_div_eq_div_mul]
    congr 1
    omega
  rw [e1, e2, Nat.pow_succ 2 (p + 1)]
  grind
theorem idx_here : ∀ {ls : List Int} {p : Nat} {l : Int}, ls.Nodup → ls[p]? = some l → ∀ (f : Asg) (b : Bool), idx ls (f.upd l b) = hereN (idx (ls.eraseIdx p) f) p + b.toNat * 2 ^ p
  | [], _, _, _, h, _, _ => by simp at h
  | x :: ls, 0, l, nd, h, f, b => by
    simp only [List.getElem?_cons_zero, Option.some.injEq] at h
    subst h
    have nx := (List.nodup_cons.mp nd).1
    show (f.upd x b x).toNat + 2 * idx ls (f.upd x b) = hereN (idx ls f) 0 + b.toNat * 1
    have e : idx ls (f.upd x b) = idx ls f := idx_congr fun t ht => by
      unfold Asg.upd
      rw [if_neg (fun z => nx (by rw [← z]; exact ht))]
    rw [e]
    unfold Asg.upd hereN
    rw [if_pos rfl]
    simp
    omega
  | x :: ls, p + 1, l, nd, h, f, b => by
    have h1 : ls[p]? = some l := by simpa using h
    have hx : x ≠ l := fun z => (List.nodup_cons.mp nd).1 (by rw [z]; exact List.mem_of_getElem? h1)
    have ih := idx_here (List.nodup_cons.mp nd).2 h1 f b
    show (f.upd l b x).toNat + 2 * idx ls (f.upd l b) = hereN ((f x).toNat + 2 * idx (ls.eraseIdx p) f) (p + 1) + b.toNat * 2 ^ (p + 1)
    rw [here_step, ih]
    have e : f.upd l b x = f x := if_neg hx
    rw [e, Nat.pow_succ]
    grind
theorem look_val {s : List Amt} {ls : List Int} {p k : Nat} {l : Int} {t : Int} (nd : ls.Nodup) (hp : ls[p]? = some l) (hk : ls.length = k + 1) (hs : s.length = 2 ^ (k + 1)) (f : Asg) :
    val (lookS s p t) (ls.eraseIdx p) f = (val s ls (f.upd l false)).plus ((val s ls (f.upd l true)).turn t) := by
  have hp' := (List.getElem?_eq_some_iff.mp hp).1
  have hl : (ls.eraseIdx p).length = k := by rw [List.length_eraseIdx_of_lt hp']; omega
  have hi : idx (ls.eraseIdx p) f < s.length / 2 := by
    have := idx_lt' (ls.eraseIdx p) f
    rw [hl] at this
    rw [hs, Nat.pow_succ]
    omega
  unfold val lookS
  rw [idx_here nd hp f false, idx_here nd hp f true, List.getD_eq_getElem?_getD, List.getElem?_map, List.getElem?_range hi]
  simp
/-! ### looks, one behind another -/
def wt (t : Int) : Amt := (Amt.num 1).turn t
theorem turn_wt (x : Amt) (t : Int) : x.turn t = (wt t).times x := by
  have h4 : t % 4 = 0 ∨ t % 4 = 1 ∨ t % 4 = 2 ∨ t % 4 = 3 := by omega
  unfold wt Amt.turn
  by_cases h8 : t % 8 < 4
  · rcases h4 with h | h | h | h <;> simp only [h, h8, if_true, if_false, reduceIte, reduceCtorEq] <;> (apply Amt.ext' <;> simp [Amt.times, Amt.rot1, Amt.rot2, Amt.rot3, Amt.num])
  · rcases h4 with h | h | h | h <;> simp only [h, h8, if_true, if_false, reduceIte, reduceCtorEq] <;> (apply Amt.ext' <;> simp [Amt.times, Amt.rot1, Amt.rot2, Amt.rot3, Amt.num, Amt.minus])
abbrev Fn := Asg → Amt
def Lo (p : Int × Int) (F : Fn) : Fn := fun f => (F (f.upd p.1 false)).plus ((wt p.2).times (F (f.upd p.1 true)))
def Ls (ps : List (Int × Int)) (F : Fn) : Fn := ps.foldl (fun F p => Lo p F) F
theorem upd_comm {f : Asg} {a b : Int} {x y : Bool} (h : a ≠ b) : (f.upd a x).upd b y = (f.upd b y).upd a x := by
  funext t
  unfold Asg.upd
  by_cases h1 : t = a
  · subst h1
    simp [h]
  · simp [h1]
theorem Lo_comm {p q : Int × Int} (h : p.1 ≠ q.1) (F : Fn) : Lo p (Lo q F) = Lo q (Lo p F) := by
  funext f
  unfold Lo
  rw [upd_comm h, upd_comm h, upd_comm h, upd_comm h]
  generalize F ((f.upd q.1 false).upd p.1 false) = A
  generalize F ((f.upd q.1 true).upd p.1 false) = B
  generalize F ((f.upd q.1 false).upd p.1 true) = D'
  generalize F ((f.upd q.1 true).upd p.1 true) = G
  rw [times_plus, times_plus, times_left_comm]
  generalize (wt q.2).times B = B2
  generalize (wt p.2).times D' = D2
  generalize (wt q.2).times _ = G2
  rw [plus_assoc, plus_assoc, ← plus_assoc B2, ← plus_assoc D2, plus_comm B2]
theorem Ls_append (ps qs : List (Int × Int)) (F : Fn) : Ls (ps ++ qs) F = Ls qs (Ls ps F) := List.foldl_append
theorem Ls_perm {ps qs : List (Int × Int)} (h : ps.Perm qs) : (ps.map (·.1)).Nodup → ∀ F, Ls ps F = Ls qs F := by
  induction h with
  | nil => intro _ _; rfl
  | cons p _ ih =>
    intro nd F
    rw [List.map_cons] at nd
    exact ih (List.nodup_cons.mp nd).2 (Lo p F)
  | swap p q l =>
    intro nd F
    rw [List.map_cons, List.map_cons] at nd
    show Ls l (Lo p (Lo q F)) = Ls l (Lo q (Lo p F))
    rw [Lo_comm fun z => (List.nodup_cons.mp nd).1 (by rw [z]; exact List.mem_cons_self ..)]
  | trans h1 h2 ih1 ih2 =>
    intro nd F
    rw [ih1 nd, ih2 ((h1.map _).nodup_iff.mp nd)]
theorem Ls_mul : ∀ {ps : List (Int × Int)} {c F : Fn}, (∀ p ∈ ps, ∀ f b, c (f.upd p.1 b) = c f) → Ls ps (fun f => (c f).times (F f)) = fun f => (c f).times (Ls ps F f)
  | [], _, _, _ => rfl
  | p :: ps, c, F, h => by
    show Ls ps (Lo p fun f => (c f).times (F f)) = fun f => (c f).times (Ls ps (Lo p F) f)
    have e : Lo p (fun f => (c f).times (F f)) = fun f => (c f).times (Lo p F f) := by
      funext f
      show ((c (f.upd p.1 false)).times (F (f.upd p.1 false))).plus ((wt p.2).times ((c (f.upd p.1 true)).times (F (f.upd p.1 true)))) = (c f).times ((F (f.upd p.1 false)).plus ((wt p.2).times (F (f.upd p.1 true))))
      rw [h p (List.mem_cons_self ..), h p (List.mem_cons_self ..), times_plus, times_left_comm]
    rw [e, Ls_mul fun q hq => h q (List.mem_cons_of_mem _ hq)]
theorem Ls_zero : ∀ (ps : List (Int × Int)), Ls ps (fun _ => Amt.zero) = fun _ => Amt.zero
  | [] => rfl
  | p :: ps => by
    show Ls ps (Lo p fun _ => Amt.zero) = _
    have e : Lo p (fun _ => Amt.zero) = fun _ => Amt.zero := by
      funext f
      unfold Lo
      rw [times_zero, zero_plus]
    rw [e, Ls_zero ps]
theorem upd_inj {ρ : Int → Int} (hρ : ∀ a b, ρ a = ρ b → a = b) (f : Asg) (l : Int) (b : Bool) : (fun t => (f.upd (ρ l) b) (ρ t)) = Asg.upd (fun t => f (ρ t)) l b := by
  funext t
  unfold Asg.upd
  by_cases h : t = l
  · subst h
    simp
  · rw [if_neg h, if_neg fun z => h (hρ _ _ z)]
theorem Ls_ren {ρ : Int → Int} (hρ : ∀ a b, ρ a = ρ b → a = b) : ∀ (ps : List (Int × Int)) (G : Fn) (f : Asg), Ls (ps.map fun p => (ρ p.1, p.2)) (fun f => G fun t => f (ρ t)) f = Ls ps G fun t => f (ρ t)
  | [], _, _ => rfl
  | p :: ps, G, f => by
    show Ls (ps.map fun p => (ρ p.1, p.2)) (Lo (ρ p.1, p.2) fun f => G fun t => f (ρ t)) f = Ls ps (Lo p G) fun t => f (ρ t)
    have e : Lo (ρ p.1, p.2) (fun f => G fun t => f (ρ t)) = fun f => Lo p G fun t => f (ρ t) := by
      funext f
      unfold Lo
      simp only [upd_inj hρ]
    rw [e]
    exact Ls_ren hρ ps (Lo p G) f
/-- the looks of a run with their turns -/
def wps (N : NetM) (ps : List (Int × Int)) : List (Int × Int) := ps.map fun p => (p.1, turnOf N p.1 + 4 * p.2)
def EN (N : NetM) (s : List Amt) (ps : List (Int × Int)) : Fn := Ls (wps N ps) fun f => ng (sg N.strings f) (val s N.given f)
theorem run_val {N : NetM} {s : List Amt} {ps : List (Int × Int)} {n : Nat} (a : AskOk N s ps n) : ∀ i, i ≤ ps.length → ∀ f, val ((ps.take i).foldl (stp (turnOf N)) ([begS N s], begS N s, rng N.things)).2.1 ((ps.take i).foldl (stp (turnOf N)) ([begS N s], begS N s, rng N.things)).2.2 f = EN N s (ps.take i) f
  | 0, _, f => by
    rw [List.take_zero]
    exact beg_val a.net a.len f
  | i + 1, hi, f => by
    have ih := run_val a i (Nat.le_of_succ_le hi)
    have r := run_take a i (Nat.le_of_succ_le hi)
    have hp : ps[i]? = some ps[i] := List.getElem?_eq_getElem hi
    have hm0 : ps[i].1 ∈ lookd N.things N.kept := a.ord.mem_iff.mp (List.mem_map.mpr ⟨ps[i], List.mem_of_getElem? hp, rfl⟩)
    have hm : ps[i].1 ∈ lookd N.things ((ps.take i).map (·.1)) := lookd_mem.mpr ⟨(lookd_mem.mp hm0).1, fun z => by
      obtain ⟨q, hq, e⟩ := List.mem_map.mp z
      obtain ⟨j, hj⟩ := List.getElem?_of_mem hq
      rw [List.getElem?_take] at hj
      split at hj
      · rename_i hji
        have e1 : (ps.map (·.1))[j]? = some ps[i].1 := by rw [List.getElem?_map, hj, ← e] <;> rfl
        have e2 : (ps.map (·.1))[i]? = some ps[i].1 := by rw [List.getElem?_map, hp] <;> rfl
        have := nd_ix a.nodup e1 e2
        omega
      · cases hj⟩
    have ew : EN N s (ps.take (i + 1)) = Lo (ps[i].1, turnOf N ps[i].1 + 4 * ps[i].2) (EN N s (ps.take i)) := by
      unfold EN wps
      rw [List.take_add_one, hp, Option.toList_some, List.map_append, Ls_append]
      rfl
    rw [ew, List.take_add_one, hp, Option.toList_some, List.foldl_append]
    generalize hst : (ps.take i).foldl (stp (turnOf N)) ([begS N s], begS N s, rng N.things) = st at ih r
    have hlft : ps[i].1 ∈ st.2.2 := by rw [r.left]; exact hm
    have hidx := List.idxOf_lt_length_of_mem hlft
    have h1 := (idx_first hlft).1
    have hnd : st.2.2.Nodup := by rw [r.left]; exact lookd_nodup _ _
    show val (lookS st.2.1 (st.2.2.idxOf ps[i].1) _) (st.2.2.eraseIdx (st.2.2.idxOf ps[i].1)) f = _
    rw [look_val (k := st.2.2.length - 1) hnd h1 (by omega) (by rw [r.len]; congr 1; omega), ih, ih, turn_wt]
    rfl
theorem last_val {N : NetM} {s : List Amt} {ps : List (Int × Int)} {n : Nat} (a : AskOk N s ps n) (f : Asg) : val (lastS N s ps) (leftL N s ps) f = EN N s ps f := by
  have := run_val a ps.length (Nat.le_refl _) f
  rw [List.take_length] at this
  exact this
theorem left_nd {N : NetM} {s : List Amt} {ps : List (Int × Int)} {n : Nat} (a : AskOk N s ps n) : (leftL N s ps).Nodup := by
  unfold leftL
  rw [(run_end a).left]
  exact lookd_nodup _ _
theorem out_val {N : NetM} {s : List Amt} {ps : List (Int × Int)} {n : Nat} (a : AskOk N s ps n) (f : Asg) : val (outS N s ps) N.kept f = EN N s ps f := by
  have z := lay_val (left_perm a) (left_nd a) (run_end a).len f
  exact z.trans (last_val a f)
theorem val_map {s : List Amt} (ρ : Int → Int) (ls : List Int) (f : Asg) : val s (ls.map ρ) f = val s ls fun t => f (ρ t) := by
  unfold val
  congr 1
  induction ls with
  | nil => rfl
  | cons l ls ih =>
    rw [List.map_cons]
    unfold idx
    rw [ih]
theorem val_cS {c : Amt} {s : List Amt} {ls : List Int} (f : Asg) : val (cS c s) ls f = c.times (val s ls f) := by
  unfold val cS
  rw [List.getD_eq_getElem?_getD, List.getElem?_map, List.getD_eq_getElem?_getD]
  cases s[idx ls f]? with
  | none => exact (times_zero c).symm
  | some x => rfl
end Lk
set_option maxHeartbeats 1000000
namespace Lk
open L2
/-! ### the numbers of a joined net -/
section
variable {N1 N2 : NetM}
theorem rhoJ_given (ok2 : NetOk N2) (hk : N1.kept.length = N2.given.length) {i : Nat} {t : Int} (h : N2.given[i]? = some t) : N1.kept[i]? = some (rhoJ N1 N2 t) := by
  have hi := (List.getElem?_eq_some_iff.mp h).1
  have hm := List.mem_of_getElem? h
  have hx := nd_ix ok2.g2 (idx_first hm).1 h
  have hk' : N1.kept[i]? = some N1.kept[i] := List.getElem?_eq_getElem (by omega)
  unfold rhoJ
  rw [if_pos hm, hx, List.getD_eq_getElem?_getD, hk']
  rfl
theorem rhoJ_in (ok2 : NetOk N2) (hk : N1.kept.length = N2.given.length) {t : Int} (h : t ∈ N2.given) : rhoJ N1 N2 t ∈ N1.kept := by
  obtain ⟨i, hi⟩ := List.getElem?_of_mem h
  exact List.mem_of_getElem? (rhoJ_given ok2 hk hi)
theorem rhoJ_rest {t : Int} (h : t ∈ restL N2) : rhoJ N1 N2 t = (N1.things : Int) + (((restL N2).idxOf t : Nat) : Int) := by
  unfold rhoJ
  rw [if_neg (lookd_mem.mp h).2, if_pos h]
theorem rhoJ_map (ok2 : NetOk N2) (hk : N1.kept.length = N2.given.length) : N2.given.map (rhoJ N1 N2) = N1.kept := by
  refine List.ext_getElem? fun i => ?_
  rw [List.getElem?_map]
  cases e : N2.given[i]? with
  | none =>
    have := List.getElem?_eq_none_iff.mp e
    rw [List.getElem?_eq_none (by omega)]
    rfl
  | some t => rw [rhoJ_given ok2 hk e] <;> rfl
theorem rhoJ_cases (ok1 : NetOk N1) (ok2 : NetOk N2) (hk : N1.kept.length = N2.given.length) (t : Int) : (t ∈ N2.given ∧ 0 ≤ rhoJ N1 N2 t ∧ rhoJ N1 N2 t < N1.things) ∨ (t ∈ restL N2 ∧ rhoJ N1 N2 t = (N1.things : Int) + (((restL N2).idxOf t : Nat) : Int) ∧ (restL N2).idxOf t < (restL N2).length) ∨ ((N2.things : Int) ≤ t ∧ rhoJ N1 N2 t = (N1.things : Int) + t) ∨ (t < 0 ∧ rhoJ N1 N2 t = t) := by
  by_cases h1 : t ∈ N2.given
  · exact .inl ⟨h1, ok1.k1 _ (rhoJ_in ok2 hk h1)⟩
  · by_cases h2 : t ∈ restL N2
    · exact .inr (.inl ⟨h2, rhoJ_rest h2, List.idxOf_lt_length_of_mem h2⟩)
    · by_cases h3 : 0 ≤ t
      · refine .inr (.inr (.inl ⟨?_, ?_⟩))
        · refine Int.not_lt.mp fun z => h2 (lookd_mem.mpr ⟨⟨h3, z⟩, h1⟩)
        · unfold rhoJ
          rw [if_neg h1, if_neg h2, if_pos h3]
      · refine .inr (.inr (.inr ⟨by omega, ?_⟩))
        unfold rhoJ
        rw [if_neg h1, if_neg h2, if_neg h3]
theorem rhoJ_inj (ok1 : NetOk N1) (ok2 : NetOk N2) (hk : N1.kept.length = N2.given.length) : ∀ a b, rhoJ N1 N2 a = rhoJ N1 N2 b → a = b := fun a b e => by
  have rl := rest_len ok2
  rcases rhoJ_cases ok1 ok2 hk a with ⟨a1, a2⟩ | ⟨a1, a2, a3⟩ | ⟨a1, a2⟩ | ⟨a1, a2⟩ <;> rcases rhoJ_cases ok1 ok2 hk b with ⟨b1, b2⟩ | ⟨b1, b2, b3⟩ | ⟨b1, b2⟩ | ⟨b1, b2⟩
  · obtain ⟨i, hi⟩ := List.getElem?_of_mem a1
    obtain ⟨j, hj⟩ := List.getElem?_of_mem b1
    have h1 := rhoJ_given ok2 hk hi
    have h2 := rhoJ_given ok2 hk hj
    rw [e] at h1
    have := nd_ix ok1.k2 h1 h2
    subst this
    rw [hi] at hj
    exact Option.some.inj hj
  all_goals first | (exfalso; omega) | skip
  · exact idxOf_inj a1 b1 (by omega)
  · omega
  · omega
theorem rhoJ_range (ok1 : NetOk N1) (ok2 : NetOk N2) (hk : N1.kept.length = N2.given.length) {t : Int} (h : 0 ≤ t ∧ t < N2.things) : 0 ≤ rhoJ N1 N2 t ∧ rhoJ N1 N2 t < ((N1.things + (N2.things - N2.given.length) : Nat) : Int) ∧ (rhoJ N1 N2 t ∈ N1.kept ∨ (N1.things : Int) ≤ rhoJ N1 N2 t) := by
  have rl := rest_len ok2
  rcases rhoJ_cases ok1 ok2 hk t with ⟨a1, a2⟩ | ⟨a1, a2, a3⟩ | ⟨a1, a2⟩ | ⟨a1, a2⟩
  · exact ⟨a2.1, by omega, .inl (rhoJ_in ok2 hk a1)⟩
  · exact ⟨by omega, by omega, .inr (by omega)⟩
  · omega
  · omega
theorem rhoJ_surj (ok1 : NetOk N1) (ok2 : NetOk N2) (hk : N1.kept.length = N2.given.length) {x : Int} (h : x ∈ N1.kept ∨ ((N1.things : Int) ≤ x ∧ x < ((N1.things + (N2.things - N2.given.length) : Nat) : Int))) : ∃ t : Int, (0 ≤ t ∧ t < N2.things) ∧ rhoJ N1 N2 t = x := by
  have rl := rest_len ok2
  rcases h with h | h
  · rw [← rhoJ_map ok2 hk] at h
    obtain ⟨t, ht, rfl⟩ := List.mem_map.mp h
    exact ⟨t, ok2.g1 t ht, rfl⟩
  · have hl : (x - N1.things).toNat < (restL N2).length := by omega
    have hm : (restL N2)[(x - N1.things).toNat] ∈ restL N2 := List.getElem_mem hl
    refine ⟨_, (lookd_mem.mp hm).1, ?_⟩
    rw [rhoJ_rest hm]
    have := nd_ix (lookd_nodup _ _) (idx_first hm).1 (List.getElem?_eq_getElem hl)
    rw [this]
    omega
theorem nrm_inj {ρ : Int → Int} (hρ : ∀ a b, ρ a = ρ b → a = b) {p q : Int × Int} (hp : p.1 < p.2) (hq : q.1 < q.2) (e : nrm ρ p = nrm ρ q) : p = q := by
  obtain ⟨a, b⟩ := p
  obtain ⟨c, d⟩ := q
  simp only at hp hq
  unfold nrm at e
  simp only at e
  split at e <;> split at e <;> (rw [Prod.mk.injEq] at e; obtain ⟨e1, e2⟩ := e; have f1 := hρ _ _ e1; have f2 := hρ _ _ e2; first | (exfalso; omega) | (subst f1; subst f2; rfl))
theorem nrm_nodup {ρ : Int → Int} (hρ : ∀ a b, ρ a = ρ b → a = b) {S : List (Int × Int)} (nd : S.Nodup) (h : ∀ p ∈ S, p.1 < p.2) : (S.map (nrm ρ)).Nodup :=
  List.pairwise_map.mpr (nd.imp_of_mem fun {a b} ha hb hab z => hab (nrm_inj hρ (h a ha) (h b hb) z))
theorem nrm_ok {ρ : Int → Int} (hρ : ∀ a b, ρ a = ρ b → a = b) {p : Int × Int} {m n : Int} (h : OkP m p) (hr : ∀ t, 0 ≤ t ∧ t < m → 0 ≤ ρ t ∧ ρ t < n) : OkP n (nrm ρ p) := by
  unfold OkP at h
  have h1 := hr p.1 (by omega)
  have h2 := hr p.2 (by omega)
  have hne : ρ p.1 ≠ ρ p.2 := fun z => by
    have := hρ _ _ z
    omega
  unfold OkP nrm
  split <;> (simp only; omega)
def allP : List (Int × Int) := (rng 9).flatMap fun a => ((rng 9).filter fun b => decide (a < b)).map fun b => (a, b)
theorem allP_len : allP.length = 36 := by decide
theorem pairs_len {S : List (Int × Int)} {n : Nat} (hn : n ≤ 9) (nd : S.Nodup) (h : ∀ p ∈ S, OkP n p) : S.length < 64 := by
  have := nd.length_le_of_subset (l₂ := allP) fun p hp => by
    have := h p hp
    unfold OkP at this
    refine List.mem_flatMap.mpr ⟨p.1, rng_mem.mpr (by omega), List.mem_map.mpr ⟨p.2, List.mem_filter.mpr ⟨rng_mem.mpr (by omega), decide_eq_true this.2.1⟩, rfl⟩⟩
  rw [allP_len] at this
  omega
theorem OkP.mono {m n : Int} {p : Int × Int} (h : OkP m p) (hm : m ≤ n) : OkP n p := by
  unfold OkP at h ⊢
  omega
theorem okT_ren {ρ : Int → Int} {n : Nat} (hn : n ≤ 9) {p : Int × Int} (h : OkT p) (hr : 0 ≤ ρ p.1 ∧ ρ p.1 < n) : OkT (ρ p.1, p.2) := by
  unfold OkT at h ⊢
  simp only
  omega
theorem tmem {N : NetM} (ok : NetOk N) {p : Int × Int} (h : p ∈ N.turns) : 0 ≤ p.1 ∧ p.1 < N.things := (lookd_mem.mp (ok.t2.mem_iff.mp (List.mem_map.mpr ⟨p, h, rfl⟩))).1
theorem join_ok (ok1 : NetOk N1) (ok2 : NetOk N2) (s1 : N1.strings.Nodup) (s2 : N2.strings.Nodup) (hk : N1.kept.length = N2.given.length) (h9 : N1.things + (N2.things - N2.given.length) ≤ 9) :
    OkNet (N1.things + (N2.things - N2.given.length)) (joinS N1 N2) N1.given (N2.kept.map (rhoJ N1 N2)) (joinT (rhoJ N1 N2) N1 N2) := by
  have inj := rhoJ_inj ok1 ok2 hk
  have n1 := ok1.n1
  have lt2 : ∀ p ∈ N2.strings, p.1 < p.2 := fun p hp => (ok2.s1 p hp).2.1
  have S1 : ∀ p ∈ joinS N1 N2, OkP (N1.things + (N2.things - N2.given.length) : Nat) p := fun p hp => by
    rcases List.mem_append.mp hp with z | z
    · exact (ok1.s1 p (List.mem_filter.mp z).1).mono (by omega)
    · obtain ⟨q, hq, rfl⟩ := List.mem_map.mp (List.mem_filter.mp z).1
      exact nrm_ok inj (ok2.s1 q hq) fun t ht => ⟨(rhoJ_range ok1 ok2 hk ht).1, (rhoJ_range ok1 ok2 hk ht).2.1⟩
  have S2 : (joinS N1 N2).Nodup := by
    refine List.nodup_append.mpr ⟨s1.filter _, (nrm_nodup inj s2 lt2).filter _, fun a ha b hb z => ?_⟩
    subst z
    have h1 := (List.mem_filter.mp ha).2
    have h2 := (List.mem_filter.mp hb).1
    rw [decide_eq_true h2] at h1
    cases h1
  refine ⟨by omega, by omega, S1, S2, pairs_len h9 S2 S1, fun t ht => by have := ok1.g1 t ht; omega, ok1.g2, fun x hx => ?_, ?_, fun p hp => ?_, ?_⟩
  · obtain ⟨t, ht, rfl⟩ := List.mem_map.mp hx
    have := rhoJ_range ok1 ok2 hk (ok2.k1 t ht)
    exact ⟨this.1, this.2.1⟩
  · exact List.pairwise_map.mpr (ok2.k2.imp fun {a b} hab z => hab (inj _ _ z))
  · rcases List.mem_append.mp hp with z | z
    · exact ok1.t1 p z
    · obtain ⟨q, hq, rfl⟩ := List.mem_map.mp z
      have := rhoJ_range ok1 ok2 hk (tmem ok2 hq)
      exact okT_ren h9 (ok2.t1 q hq) ⟨this.1, this.2.1⟩
  · unfold joinT
    rw [List.map_append, List.map_map]
    have e : ((fun p : Int × Int => p.1) ∘ fun p : Int × Int => (rhoJ N1 N2 p.1, p.2)) = (rhoJ N1 N2) ∘ fun p : Int × Int => p.1 := rfl
    rw [e, ← List.map_map]
    refine (ok1.t2.append (ok2.t2.map _)).trans ?_
    refine (List.perm_ext_iff_of_nodup ?_ (lookd_nodup _ _)).mpr fun x => ?_
    · refine List.nodup_append.mpr ⟨lookd_nodup _ _, List.pairwise_map.mpr ((lookd_nodup _ _).imp fun {a b} hab z => hab (inj _ _ z)), fun a ha b hb z => ?_⟩
      subst z
      obtain ⟨t, ht, e⟩ := List.mem_map.mp hb
      have h1 := lookd_mem.mp ha
      have h2 := (rhoJ_range ok1 ok2 hk (lookd_mem.mp ht).1).2.2
      rw [e] at h2
      rcases h2 with h2 | h2
      · exact h1.2 h2
      · omega
    · rw [List.mem_append, lookd_mem, lookd_mem, List.mem_map]
      constructor
      · rintro (⟨h1, h2⟩ | ⟨t, ht, rfl⟩)
        · refine ⟨by omega, fun z => ?_⟩
          obtain ⟨t, ht, rfl⟩ := List.mem_map.mp z
          rcases (rhoJ_range ok1 ok2 hk (ok2.k1 t ht)).2.2 with h3 | h3
          · exact h2 h3
          · omega
        · have h3 := rhoJ_range ok1 ok2 hk (lookd_mem.mp ht).1
          refine ⟨⟨h3.1, h3.2.1⟩, fun z => ?_⟩
          obtain ⟨t', ht', e⟩ := List.mem_map.mp z
          have := inj _ _ e
          subst this
          exact (lookd_mem.mp ht).2 ht'
      · rintro ⟨h1, h2⟩
        by_cases h3 : x < N1.things
        · by_cases h4 : x ∈ N1.kept
          · obtain ⟨t, ht, rfl⟩ := rhoJ_surj ok1 ok2 hk (.inl h4)
            exact .inr ⟨t, lookd_mem.mpr ⟨ht, fun z => h2 (List.mem_map.mpr ⟨t, z, rfl⟩)⟩, rfl⟩
          · exact .inl ⟨⟨h1.1, h3⟩, h4⟩
        · obtain ⟨t, ht, rfl⟩ := rhoJ_surj ok1 ok2 hk (.inr ⟨by omega, h1.2⟩)
          exact .inr ⟨t, lookd_mem.mpr ⟨ht, fun z => h2 (List.mem_map.mpr ⟨t, z, rfl⟩)⟩, rfl⟩
theorem rhoA_inj : ∀ a b, rhoA N1 a = rhoA N1 b → a = b := fun a b e => by
  unfold rhoA at e
  omega
theorem aside_ok (ok1 : NetOk N1) (ok2 : NetOk N2) (s1 : N1.strings.Nodup) (s2 : N2.strings.Nodup) (h9 : N1.things + N2.things ≤ 9) :
    OkNet (N1.things + N2.things) (asideS N1 N2) (N1.given ++ N2.given.map (rhoA N1)) (N1.kept ++ N2.kept.map (rhoA N1)) (joinT (rhoA N1) N1 N2) := by
  have n1 := ok1.n1
  have lt2 : ∀ p ∈ N2.strings, p.1 < p.2 := fun p hp => (ok2.s1 p hp).2.1
  have rr : ∀ t, 0 ≤ t ∧ t < (N2.things : Int) → 0 ≤ rhoA N1 t ∧ rhoA N1 t < ((N1.things + N2.things : Nat) : Int) := fun t ht => by
    unfold rhoA
    omega
  have S1 : ∀ p ∈ asideS N1 N2, OkP (N1.things + N2.things : Nat) p := fun p hp => by
    rcases List.mem_append.mp hp with z | z
    · exact (ok1.s1 p z).mono (by omega)
    · obtain ⟨q, hq, rfl⟩ := List.mem_map.mp z
      exact nrm_ok rhoA_inj (ok2.s1 q hq) rr
  have S2 : (asideS N1 N2).Nodup := by
    refine List.nodup_append.mpr ⟨s1, nrm_nodup rhoA_inj s2 lt2, fun a ha b hb z => ?_⟩
    subst z
    have h1 := ok1.s1 a ha
    obtain ⟨q, hq, e⟩ := List.mem_map.mp hb
    have h2 := ok2.s1 q hq
    unfold OkP at h1 h2
    have h3 : (nrm (rhoA N1) q).1 < N1.things := by
      rw [e]
      omega
    unfold nrm rhoA at h3
    split at h3 <;> (simp only at h3; omega)
  have lists : ∀ (l1 l2 : List Int), l1.Nodup → l2.Nodup → (∀ t ∈ l1, 0 ≤ t ∧ t < (N1.things : Int)) → (∀ t ∈ l2, 0 ≤ t ∧ t < (N2.things : Int)) → (l1 ++ l2.map (rhoA N1)).Nodup ∧ ∀ t ∈ l1 ++ l2.map (rhoA N1), 0 ≤ t ∧ t < ((N1.things + N2.things : Nat) : Int) := fun l1 l2 d1 d2 h1 h2 => by
    refine ⟨List.nodup_append.mpr ⟨d1, List.pairwise_map.mpr (d2.imp fun {a b} hab z => hab (rhoA_inj _ _ z)), fun a ha b hb z => ?_⟩, fun t ht => ?_⟩
    · subst z
      obtain ⟨t, ht, e⟩ := List.mem_map.mp hb
      have := h1 a ha
      have := h2 t ht
      unfold rhoA at e
      omega
    · rcases List.mem_append.mp ht with z | z
      · have := h1 t z
        omega
      · obtain ⟨t', ht', rfl⟩ := List.mem_map.mp z
        exact rr t' (h2 t' ht')
  obtain ⟨G2, G1⟩ := lists N1.given N2.given ok1.g2 ok2.g2 ok1.g1 ok2.g1
  obtain ⟨K2, K1⟩ := lists N1.kept N2.kept ok1.k2 ok2.k2 ok1.k1 ok2.k1
  refine ⟨by omega, by omega, S1, S2, pairs_len h9 S2 S1, G1, G2, K1, K2, fun p hp => ?_, ?_⟩
  · rcases List.mem_append.mp hp with z | z
    · exact ok1.t1 p z
    · obtain ⟨q, hq, rfl⟩ := List.mem_map.mp z
      exact okT_ren h9 (ok2.t1 q hq) (rr _ (tmem ok2 hq))
  · unfold joinT
    rw [List.map_append, List.map_map]
    have e : ((fun p : Int × Int => p.1) ∘ fun p : Int × Int => (rhoA N1 p.1, p.2)) = (rhoA N1) ∘ fun p : Int × Int => p.1 := rfl
    rw [e, ← List.map_map]
    refine (ok1.t2.append (ok2.t2.map _)).trans ?_
    obtain ⟨L2', L1'⟩ := lists (lookd N1.things N1.kept) (lookd N2.things N2.kept) (lookd_nodup _ _) (lookd_nodup _ _) (fun t ht => (lookd_mem.mp ht).1) (fun t ht => (lookd_mem.mp ht).1)
    refine (List.perm_ext_iff_of_nodup L2' (lookd_nodup _ _)).mpr fun x => ?_
    rw [List.mem_append, lookd_mem, lookd_mem, List.mem_map, List.mem_append, not_or]
    constructor
    · rintro (⟨h1, h2⟩ | ⟨t, ht, rfl⟩)
      · refine ⟨by omega, h2, fun z => ?_⟩
        obtain ⟨t, ht, e⟩ := List.mem_map.mp z
        have := ok2.k1 t ht
        unfold rhoA at e
        omega
      · have h3 := lookd_mem.mp ht
        refine ⟨rr t h3.1, fun z => ?_, fun z => ?_⟩
        · have := ok1.k1 _ z
          unfold rhoA at this
          omega
        · obtain ⟨t', ht', e⟩ := List.mem_map.mp z
          have := rhoA_inj _ _ e
          subst this
          exact h3.2 ht'
    · rintro ⟨h1, h2, h3⟩
      by_cases h4 : x < N1.things
      · exact .inl ⟨⟨h1.1, h4⟩, h2⟩
      · refine .inr ⟨x - N1.things, lookd_mem.mpr ⟨by omega, fun z => h3 (List.mem_map.mpr ⟨_, z, by unfold rhoA; omega⟩)⟩, by unfold rhoA; omega⟩
end
/-! ### turns of the joined -/
theorem lookup_mem {T : List (Int × Int)} {t v : Int} (nd : (T.map (·.1)).Nodup) (h : (t, v) ∈ T) : T.lookup t = some v := by
  induction T with
  | nil => cases h
  | cons q T ih =>
    rw [List.map_cons] at nd
    obtain ⟨h1, h2⟩ := List.nodup_cons.mp nd
    obtain ⟨qa, qb⟩ := q
    rw [List.lookup_cons]
    rcases List.mem_cons.mp h with e | h
    · rw [Prod.mk.injEq] at e
      obtain ⟨rfl, rfl⟩ := e
      simp
    · have hne : (t == qa) = false := by
        rw [beq_eq_false_iff_ne]
        intro z
        exact h1 (by rw [← z]; exact List.mem_map.mpr ⟨_, h, rfl⟩)
      rw [hne]
      exact ih h2 h
theorem turnOf_mem {N : NetM} (ok : NetOk N) {t v : Int} (h : (t, v) ∈ N.turns) : turnOf N t = v := by
  unfold turnOf
  rw [lookup_mem (ok.t2.nodup_iff.mpr (lookd_nodup _ _)) h]
  rfl
theorem turn_of {N : NetM} (ok : NetOk N) {t : Int} (h : t ∈ lookd N.things N.kept) : (t, turnOf N t) ∈ N.turns := by
  obtain ⟨p, hp, rfl⟩ := List.mem_map.mp (ok.t2.mem_iff.mpr h)
  rw [turnOf_mem ok (v := p.2) hp]
  exact hp
theorem wps_join {ρ : Int → Int} {N1 N2 J : NetM} {ps1 ps2 qs : List (Int × Int)} (ok1 : NetOk N1) (ok2 : NetOk N2) (okJ : NetOk J) (hT : ∀ p, p ∈ joinT ρ N1 N2 → p ∈ J.turns) (h1 : (ps1.map (·.1)).Perm (lookd N1.things N1.kept)) (h2 : (ps2.map (·.1)).Perm (lookd N2.things N2.kept)) (hq : qs.Perm (ps1 ++ ps2.map fun p => (ρ p.1, p.2))) :
    (wps J qs).Perm (wps N1 ps1 ++ (wps N2 ps2).map fun p => (ρ p.1, p.2)) := by
  refine (hq.map _).trans ?_
  rw [List.map_append]
  have e1 : (ps1.map fun p => (p.1, turnOf J p.1 + 4 * p.2)) = wps N1 ps1 := List.map_congr_left fun p hp => by
    have hm := turn_of ok1 (h1.mem_iff.mp (List.mem_map.mpr ⟨p, hp, rfl⟩))
    rw [turnOf_mem okJ (hT _ (List.mem_append_left _ hm))]
  have e2 : ((ps2.map fun p => (ρ p.1, p.2)).map fun p => (p.1, turnOf J p.1 + 4 * p.2)) = (wps N2 ps2).map fun p => (ρ p.1, p.2) := by
    unfold wps
    rw [List.map_map, List.map_map]
    refine List.map_congr_left fun p hp => ?_
    have hm := turn_of ok2 (h2.mem_iff.mp (List.mem_map.mpr ⟨p, hp, rfl⟩))
    show (ρ p.1, turnOf J (ρ p.1) + 4 * p.2) = (ρ p.1, turnOf N2 p.1 + 4 * p.2)
    rw [turnOf_mem okJ (v := turnOf N2 p.1) (hT _ (List.mem_append_right _ (List.mem_map.mpr ⟨_, hm, rfl⟩)))]
  rw [e1, e2]
theorem wps_fst (N : NetM) (ps : List (Int × Int)) : (wps N ps).map (·.1) = ps.map (·.1) := by
  unfold wps
  rw [List.map_map] <;> rfl
theorem sg_join {A B : List (Int × Int)} (hA : A.Nodup) (hB : B.Nodup) (f : Asg) : sg ((A.filter fun p => !decide (p ∈ B)) ++ (B.filter fun p => !decide (p ∈ A))) f = (sg A f ^^ sg B f) := by
  have p1 : A.Perm ((A.filter fun p => decide (p ∈ B)) ++ A.filter fun p => !decide (p ∈ B)) := (List.filter_append_perm _ A).symm
  have p2 : B.Perm ((B.filter fun p => decide (p ∈ A)) ++ B.filter fun p => !decide (p ∈ A)) := (List.filter_append_perm _ B).symm
  have p3 : (A.filter fun p => decide (p ∈ B)).Perm (B.filter fun p => decide (p ∈ A)) := (List.perm_ext_iff_of_nodup (hA.filter _) (hB.filter _)).mpr fun x => by
    simp only [List.mem_filter, decide_eq_true_eq]
    exact And.comm
  rw [sg_append, sg_perm p1, sg_perm p2, sg_append, sg_append, sg_perm p3]
  generalize sg (B.filter fun p => decide (p ∈ A)) f = a
  generalize sg (A.filter fun p => !decide (p ∈ B)) f = b
  generalize sg (B.filter fun p => !decide (p ∈ A)) f = c
  cases a <;> cases b <;> cases c <;> rfl
theorem upd_off {f : Asg} {l t : Int} {b : Bool} (h : t ≠ l) : f.upd l b t = f t := if_neg h
end Lk
set_option maxHeartbeats 1000000
namespace Lk
open L2
/-! ### ends of joined nets -/
theorem Ls_congr (ps : List (Int × Int)) {F G : Fn} (h : ∀ f, F f = G f) : Ls ps F = Ls ps G := by rw [show F = G from funext h]
theorem Ls_mulC (ps : List (Int × Int)) (c : Amt) (F : Fn) (f : Asg) : Ls ps (fun f => c.times (F f)) f = c.times (Ls ps F f) :=
  congrFun (Ls_mul (ps := ps) (c := fun _ => c) (F := F) fun _ _ _ _ => rfl) f
theorem EN_cS (N : NetM) (c : Amt) (s : List Amt) (ps : List (Int × Int)) (f : Asg) : EN N (cS c s) ps f = c.times (EN N s ps f) := by
  unfold EN
  rw [← Ls_mulC]
  refine congrFun (Ls_congr _ fun g => ?_) f
  rw [val_cS, times_ng]
theorem EN_zero {N : NetM} {s : List Amt} (ps : List (Int × Int)) (h : ∀ f, val s N.given f = Amt.zero) (f : Asg) : EN N s ps f = Amt.zero := by
  unfold EN
  rw [show (fun f => ng (sg N.strings f) (val s N.given f)) = fun _ => Amt.zero from funext fun f => by
    rw [h f]
    cases sg N.strings f <;> rfl]
  exact congrFun (Ls_zero _) f
theorem nz_false {s : List Amt} {ls : List Int} (nd : ls.Nodup) (hs : s.length = 2 ^ ls.length) : nzS s = false ↔ ∀ f, val s ls f = Amt.zero := by
  constructor
  · intro h f
    refine Classical.byContradiction fun z => ?_
    have := (nz_val nd hs).mpr ⟨f, z⟩
    rw [h] at this
    cases this
  · intro h
    cases e : nzS s with
    | false => rfl
    | true =>
      obtain ⟨f, z⟩ := (nz_val nd hs).mp e
      exact absurd (h f) z
theorem cS_len (c : Amt) (s : List Amt) : (cS c s).length = s.length := List.length_map _
section
variable {N1 N2 : NetM} {s : List Amt} {ps1 ps2 qs : List (Int × Int)} {n : Nat}
theorem join_ord (ok1 : NetOk N1) (ok2 : NetOk N2) (hk : N1.kept.length = N2.given.length) {J : NetM} (hJ : (J.turns.map (·.1)).Perm (lookd J.things J.kept)) {ρ : Int → Int} (hT : J.turns.Perm (joinT ρ N1 N2)) (h1 : (ps1.map (·.1)).Perm (lookd N1.things N1.kept)) (h2 : (ps2.map (·.1)).Perm (lookd N2.things N2.kept)) (hq : qs.Perm (ps1 ++ ps2.map fun p => (ρ p.1, p.2))) : (qs.map (·.1)).Perm (lookd J.things J.kept) := by
  refine (hq.map _).trans (List.Perm.trans ?_ hJ)
  refine List.Perm.trans ?_ (hT.map _).symm
  unfold joinT
  rw [List.map_append, List.map_append, List.map_map, List.map_map]
  have e : ((fun p : Int × Int => p.1) ∘ fun p : Int × Int => (ρ p.1, p.2)) = ρ ∘ fun p : Int × Int => p.1 := rfl
  rw [e, ← List.map_map, ← List.map_map]
  exact (h1.trans ok1.t2.symm).append ((h2.trans ok2.t2.symm).map _)
theorem join_net (ok1 : NetOk N1) (ok2 : NetOk N2) (s1 : N1.strings.Nodup) (s2 : N2.strings.Nodup) (hk : N1.kept.length = N2.given.length) (h9 : N1.things + (N2.things - N2.given.length) ≤ 9) : NetOk (joinN N1 N2) := mkNet_ok (join_ok ok1 ok2 s1 s2 hk h9) h9
theorem join_ask (a1 : AskOk N1 s ps1 n) (ok2 : NetOk N2) (s1 : N1.strings.Nodup) (s2 : N2.strings.Nodup) (hk : N1.kept.length = N2.given.length) (h9 : N1.things + (N2.things - N2.given.length) ≤ 9) (h2 : (ps2.map (·.1)).Perm (lookd N2.things N2.kept)) (hf : ∀ p ∈ ps2, 0 ≤ p.2 ∧ p.2 ≤ 1) (hq : qs.Perm (ps1 ++ ps2.map fun p => (rhoJ N1 N2 p.1, p.2))) : AskOk (joinN N1 N2) s qs n := by
  have okJ := join_net a1.net ok2 s1 s2 hk h9
  refine ⟨okJ, a1.len, a1.good, a1.bd, a1.n0, a1.n9, join_ord a1.net ok2 hk okJ.t2 (sortP_perm _) a1.ord h2 hq, fun p hp => ?_⟩
  rcases List.mem_append.mp (hq.mem_iff.mp hp) with z | z
  · exact a1.fal p z
  · obtain ⟨q, hq, rfl⟩ := List.mem_map.mp z
    exact hf q hq
theorem wps_nd (N : NetM) {ps : List (Int × Int)} (h : (ps.map (·.1)).Nodup) : ((wps N ps).map (·.1)).Nodup := by rw [wps_fst]; exact h
theorem join_val (a1 : AskOk N1 s ps1 n) (ok2 : NetOk N2) (s1 : N1.strings.Nodup) (s2 : N2.strings.Nodup) (hk : N1.kept.length = N2.given.length) (h9 : N1.things + (N2.things - N2.given.length) ≤ 9) (h2 : (ps2.map (·.1)).Perm (lookd N2.things N2.kept)) (hf : ∀ p ∈ ps2, 0 ≤ p.2 ∧ p.2 ≤ 1) (hq : qs.Perm (ps1 ++ ps2.map fun p => (rhoJ N1 N2 p.1, p.2))) (f : Asg) : EN (joinN N1 N2) s qs f = EN N2 (outS N1 s ps1) ps2 fun t => f (rhoJ N1 N2 t) := by
  have aJ := join_ask a1 ok2 s1 s2 hk h9 h2 hf hq
  have inj := rhoJ_inj a1.net ok2 hk
  have lt2 : ∀ p ∈ N2.strings, p.1 < p.2 := fun p hp => (ok2.s1 p hp).2.1
  have w := wps_join a1.net ok2 aJ.net (fun p hp => (sortP_perm _).mem_iff.mpr hp) a1.ord h2 hq
  show Ls (wps (joinN N1 N2) qs) (fun f => ng (sg (sortP (joinS N1 N2)) f) (val s N1.given f)) f = _
  rw [Ls_perm w (wps_nd _ aJ.nodup), Ls_append]
  have e1 : Ls (wps N1 ps1) (fun f => ng (sg (sortP (joinS N1 N2)) f) (val s N1.given f)) = fun f => (ng (sg N2.strings fun t => f (rhoJ N1 N2 t)) (Amt.num 1)).times (EN N1 s ps1 f) := by
    unfold EN
    rw [← Ls_mul]
    · refine Ls_congr _ fun f => ?_
      have e : sg (joinS N1 N2) f = (sg N1.strings f ^^ sg (N2.strings.map (nrm (rhoJ N1 N2))) f) := sg_join s1 (nrm_nodup inj s2 lt2) f
      rw [sg_perm (sortP_perm _), e, sg_nrm, ← ng_num, ng_ng, Bool.xor_comm]
    · intro p hp f b
      have hp1 : p.1 ∈ lookd N1.things N1.kept := by
        have : p.1 ∈ (wps N1 ps1).map (·.1) := List.mem_map.mpr ⟨p, hp, rfl⟩
        rw [wps_fst] at this
        exact a1.ord.mem_iff.mp this
      have h3 := lookd_mem.mp hp1
      have off : ∀ t, 0 ≤ t ∧ t < (N2.things : Int) → (f.upd p.1 b) (rhoJ N1 N2 t) = f (rhoJ N1 N2 t) := fun t ht => upd_off fun z => by
        rcases (rhoJ_range a1.net ok2 hk ht).2.2 with h4 | h4
        · exact h3.2 (by rw [← z]; exact h4)
        · omega
      rw [sg_congr (g := fun t => f (rhoJ N1 N2 t)) fun q hq => by
        have := ok2.s1 q hq
        unfold OkP at this
        exact ⟨off q.1 (by omega), off q.2 (by omega)⟩]
  rw [e1]
  have e2 : (fun f : Asg => (ng (sg N2.strings fun t => f (rhoJ N1 N2 t)) (Amt.num 1)).times (EN N1 s ps1 f)) = fun f => (fun g : Asg => ng (sg N2.strings g) (val (outS N1 s ps1) N2.given g)) fun t => f (rhoJ N1 N2 t) := funext fun f => by
    rw [← ng_num, ← out_val a1, ← rhoJ_map ok2 hk, val_map]
  rw [e2]
  exact Ls_ren inj (wps N2 ps2) (fun g : Asg => ng (sg N2.strings g) (val (outS N1 s ps1) N2.given g)) f
theorem joinN_kept (N1 N2 : NetM) : (joinN N1 N2).kept = N2.kept.map (rhoJ N1 N2) := rfl
/-- the joined net ends as the one behind the other -/
theorem join_none (a1 : AskOk N1 s ps1 n) (ok2 : NetOk N2) (s1 : N1.strings.Nodup) (s2 : N2.strings.Nodup) (hk : N1.kept.length = N2.given.length) (h9 : N1.things + (N2.things - N2.given.length) ≤ 9) (h2 : (ps2.map (·.1)).Perm (lookd N2.things N2.kept)) (hf : ∀ p ∈ ps2, 0 ≤ p.2 ∧ p.2 ≤ 1) (hq : qs.Perm (ps1 ++ ps2.map fun p => (rhoJ N1 N2 p.1, p.2))) (hz : nzS (lastS N1 s ps1) = false) : nzS (lastS (joinN N1 N2) s qs) = false := by
  have aJ := join_ask a1 ok2 s1 s2 hk h9 h2 hf hq
  rw [← out_nz aJ, nz_false aJ.net.k2 (out_len aJ)]
  intro f
  rw [out_val aJ, join_val a1 ok2 s1 s2 hk h9 h2 hf hq]
  rw [← out_nz a1] at hz
  refine EN_zero _ (fun g => ?_) _
  exact (nz_false ok2.g2 (by rw [out_len a1, hk])).mp hz g
theorem endD_no (o : List Amt) : endD o false = .non := if_neg (by decide)
theorem endD_yes (o : List Amt) : endD o true = spr (plainS o) := if_pos rfl
theorem endD_sim {s t : List Amt} (h : Sim s t) : endD s (nzS s) = endD t (nzS s) := by
  cases e : nzS s with
  | false => rw [endD_no, endD_no]
  | true => rw [endD_yes, endD_yes, h.plain e]
theorem join_some {m : Nat} (a1 : AskOk N1 s ps1 n) (ok2 : NetOk N2) (s1 : N1.strings.Nodup) (s2 : N2.strings.Nodup) (hk : N1.kept.length = N2.given.length) (h9 : N1.things + (N2.things - N2.given.length) ≤ 9) (a2 : AskOk N2 (plainS (outS N1 s ps1)) ps2 m) (hq : qs.Perm (ps1 ++ ps2.map fun p => (rhoJ N1 N2 p.1, p.2))) (hz : nzS (lastS N1 s ps1) = true) :
    endD (outS N2 (plainS (outS N1 s ps1)) ps2) (nzS (lastS N2 (plainS (outS N1 s ps1)) ps2)) = endD (outS (joinN N1 N2) s qs) (nzS (lastS (joinN N1 N2) s qs)) := by
  have aJ := join_ask a1 ok2 s1 s2 hk h9 a2.ord a2.fal hq
  have ho : nzS (outS N1 s ps1) = true := by rw [out_nz a1]; exact hz
  have sim : Sim (outS N2 (plainS (outS N1 s ps1)) ps2) (outS (joinN N1 N2) s qs) := by
    refine ⟨Amt.num (gcdS (foundS (outS N1 s ps1))), byS (outS N1 s ps1), num_ne ?_, byS_ne ho, ?_⟩
    · exact Int.ne_of_gt (Int.ofNat_lt.mpr (found_gcd ho (out_bd a1)).1)
    · have kn := aJ.net.k2
      rw [joinN_kept] at kn
      have hl := out_len aJ
      rw [joinN_kept] at hl
      refine ext_val kn (by rw [cS_len, out_len a2, List.length_map]) (by rw [cS_len]; exact hl) fun f => ?_
      have eJ := out_val aJ f
      rw [joinN_kept] at eJ
      rw [val_cS, val_cS, eJ, val_map, out_val a2, join_val a1 ok2 s1 s2 hk h9 a2.ord a2.fal hq, ← EN_cS, ← EN_cS, plain_eq]
  rw [← out_nz aJ, ← out_nz a2, ← sim.nz]
  exact endD_sim sim
end
end Lk
set_option maxHeartbeats 1000000
namespace Lk
open L2
/-! ### ends of nets side by side -/
theorem lenP_both (s t : List Amt) : lenP (bothS s t) = lenP s * lenP t + 2 * lenQ s * lenQ t ∧ lenQ (bothS s t) = lenP s * lenQ t + lenQ s * lenP t := by
  have one : ∀ (s : List Amt) (y : Amt), ((s.map fun x => x.times y).map Amt.p).sum = lenP s * y.p + 2 * lenQ s * y.q ∧ ((s.map fun x => x.times y).map Amt.q).sum = lenP s * y.q + lenQ s * y.p := fun s y => by
    unfold lenP lenQ
    induction s with
    | nil => simp
    | cons x s ih =>
      simp only [List.map_cons, List.sum_cons, ih.1, ih.2, p_times, q_times]
      constructor <;> grind
  unfold bothS
  induction t with
  | nil => simp [lenP, lenQ]
  | cons y t ih =>
    obtain ⟨h1, h2⟩ := one s y
    rw [List.flatMap_cons]
    unfold lenP lenQ at ih h1 h2 ⊢
    rw [List.map_append, List.map_append, List.sum_append, List.sum_append, h1, h2, ih.1, ih.2, List.map_cons, List.sum_cons, List.map_cons, List.sum_cons]
    constructor <;> grind
theorem len_zero {s : List Amt} (h : nzS s = false) : lenP s = 0 ∧ lenQ s = 0 := by
  have hz : ∀ x ∈ s, x = Amt.zero := fun x hx => nzA_false.mp (by
    unfold nzS at h
    rw [List.any_eq_false] at h
    simpa using h x hx)
  unfold lenP lenQ
  induction s with
  | nil => exact ⟨rfl, rfl⟩
  | cons x s ih =>
    have hx := hz x (List.mem_cons_self ..)
    subst hx
    obtain ⟨h1, h2⟩ := ih (by unfold nzS at h ⊢; rw [List.any_cons, Bool.or_eq_false_iff] at h; exact h.2) fun y hy => hz y (List.mem_cons_of_mem _ hy)
    rw [List.map_cons, List.sum_cons, List.map_cons, List.sum_cons, h1, h2]
    exact ⟨rfl, rfl⟩
theorem both_cS (c d : Amt) (s t : List Amt) : bothS (cS c s) (cS d t) = cS (c.times d) (bothS s t) := by
  unfold bothS cS
  rw [List.flatMap_map, List.map_flatMap]
  congr 1
  funext y
  rw [List.map_map, List.map_map]
  refine List.map_congr_left fun x _ => ?_
  show (c.times x).times (d.times y) = (c.times d).times (x.times y)
  rw [times_assoc, times_assoc, times_left_comm x d]
theorem both_plain {s t : List Amt} {n : Nat} (hs : nzS s = true) (ht : nzS t = true) (bs : ∀ x ∈ s, Bd n x) (bt : ∀ x ∈ t, Bd n x) : Sim (bothS (plainS s) (plainS t)) (bothS s t) := by
  refine ⟨(Amt.num (gcdS (foundS s))).times (Amt.num (gcdS (foundS t))), (byS s).times (byS t), times_ne (num_ne (Int.ne_of_gt (Int.ofNat_lt.mpr (found_gcd hs bs).1))) (num_ne (Int.ne_of_gt (Int.ofNat_lt.mpr (found_gcd ht bt).1))), times_ne (byS_ne hs) (byS_ne ht), ?_⟩
  rw [← both_cS, ← both_cS, plain_eq, plain_eq]
theorem both_nz {s t : List Amt} : nzS (bothS s t) = (nzS s && nzS t) := by
  rw [Bool.eq_iff_iff, Bool.and_eq_true]
  unfold nzS bothS
  simp only [List.any_eq_true]
  constructor
  · rintro ⟨z, hz, h⟩
    obtain ⟨y, hy, hw⟩ := List.mem_flatMap.mp hz
    obtain ⟨x, hx, rfl⟩ := List.mem_map.mp hw
    have h := nzA_iff.mp h
    refine ⟨⟨x, hx, nzA_iff.mpr fun z => h ?_⟩, ⟨y, hy, nzA_iff.mpr fun z => h ?_⟩⟩
    · rw [z, zero_times]
    · rw [z, times_zero]
  · rintro ⟨⟨x, hx, h1⟩, ⟨y, hy, h2⟩⟩
    exact ⟨x.times y, List.mem_flatMap.mpr ⟨y, hy, List.mem_map.mpr ⟨x, hx, rfl⟩⟩, nzA_iff.mpr (times_ne (nzA_iff.mp h1) (nzA_iff.mp h2))⟩
theorem rng_add (a b : Nat) : rng (a + b) = rng a ++ (rng b).map fun t => (a : Int) + t := by
  unfold rng
  rw [List.range_add, List.map_append, List.map_map, List.map_map]
  congr 1
theorem lookd_add {a b : Nat} {l m : List Int} (hl : ∀ t ∈ l, 0 ≤ t ∧ t < (a : Int)) (hm : ∀ t ∈ m, 0 ≤ t ∧ t < (b : Int)) : lookd (a + b) (l ++ m.map fun t => (a : Int) + t) = lookd a l ++ (lookd b m).map fun t => (a : Int) + t := by
  unfold lookd
  rw [rng_add, List.filter_append, List.filter_map]
  congr 1
  · refine List.filter_congr fun t ht => ?_
    have := rng_mem.mp ht
    congr 1
    refine decide_eq_decide.mpr ⟨fun h => ?_, fun h => List.mem_append_left _ h⟩
    rcases List.mem_append.mp h with z | z
    · exact z
    · obtain ⟨u, hu, e⟩ := List.mem_map.mp z
      have := hm u hu
      omega
  · congr 1
    refine List.filter_congr fun t ht => ?_
    have := rng_mem.mp ht
    show (!decide _) = _
    congr 1
    refine decide_eq_decide.mpr ⟨fun h => ?_, fun h => List.mem_append_right _ (List.mem_map.mpr ⟨t, h, rfl⟩)⟩
    rcases List.mem_append.mp h with z | z
    · have : 0 ≤ (a : Int) + t ∧ (a : Int) + t < a := hl _ z
      omega
    · obtain ⟨u, hu, e⟩ := List.mem_map.mp z
      have e : (a : Int) + u = (a : Int) + t := e
      have : u = t := by omega
      rw [← this]
      exact hu
section
variable {N1 N2 : NetM} {s t : List Amt} {ps1 ps2 : List (Int × Int)} {n : Nat}
theorem aside_net (ok1 : NetOk N1) (ok2 : NetOk N2) (s1 : N1.strings.Nodup) (s2 : N2.strings.Nodup) (h9 : N1.things + N2.things ≤ 9) : NetOk (asideN N1 N2) := mkNet_ok (aside_ok ok1 ok2 s1 s2 h9) h9
theorem asideN_kept (N1 N2 : NetM) : (asideN N1 N2).kept = N1.kept ++ N2.kept.map (rhoA N1) := rfl
theorem asideN_given (N1 N2 : NetM) : (asideN N1 N2).given = N1.given ++ N2.given.map (rhoA N1) := rfl
theorem asideN_things (N1 N2 : NetM) : (asideN N1 N2).things = N1.things + N2.things := rfl
theorem aside_ask {m : Nat} (a1 : AskOk N1 s ps1 n) (a2 : AskOk N2 t ps2 n) (s1 : N1.strings.Nodup) (s2 : N2.strings.Nodup) (h9 : N1.things + N2.things ≤ 9) (hg : GoodS (bothS s t)) (hb : ∀ x ∈ bothS s t, Bd m x) (m0 : 0 < m) (m9 : m ≤ 1000) : AskOk (asideN N1 N2) (bothS s t) (ps1 ++ ps2.map fun p => (rhoA N1 p.1, p.2)) m := by
  have okA := aside_net a1.net a2.net s1 s2 h9
  refine ⟨okA, ?_, hg, hb, m0, m9, ?_, fun p hp => ?_⟩
  · rw [both_len, a1.len, a2.len, ← Nat.pow_add, asideN_given, List.length_append, List.length_map]
  · refine List.Perm.trans ?_ okA.t2
    refine List.Perm.trans ?_ ((sortP_perm (joinT (rhoA N1) N1 N2)).map _).symm
    unfold joinT
    rw [List.map_append, List.map_append, List.map_map, List.map_map]
    have e : ((fun p : Int × Int => p.1) ∘ fun p : Int × Int => (rhoA N1 p.1, p.2)) = rhoA N1 ∘ fun p : Int × Int => p.1 := rfl
    rw [e, ← List.map_map, ← List.map_map]
    exact (a1.ord.trans a1.net.t2.symm).append ((a2.ord.trans a2.net.t2.symm).map _)
  · rcases List.mem_append.mp hp with z | z
    · exact a1.fal p z
    · obtain ⟨q, hq, rfl⟩ := List.mem_map.mp z
      exact a2.fal q hq
theorem aside_left {m : Nat} (a1 : AskOk N1 s ps1 n) (a2 : AskOk N2 t ps2 n) (aA : AskOk (asideN N1 N2) (bothS s t) (ps1 ++ ps2.map fun p => (rhoA N1 p.1, p.2)) m) : leftL (asideN N1 N2) (bothS s t) (ps1 ++ ps2.map fun p => (rhoA N1 p.1, p.2)) = leftL N1 s ps1 ++ (leftL N2 t ps2).map (rhoA N1) := by
  have h1 := (run_end a1).left
  have h2 := (run_end a2).left
  have h3 := (run_end aA).left
  unfold leftL
  rw [h1, h2, h3, asideN_things, List.map_append, List.map_map]
  have e : ((fun p : Int × Int => p.1) ∘ fun p : Int × Int => (rhoA N1 p.1, p.2)) = (fun t => (N1.things : Int) + t) ∘ fun p : Int × Int => p.1 := rfl
  rw [e, ← List.map_map]
  exact lookd_add (fun t ht => (lookd_mem.mp (a1.ord.mem_iff.mp ht)).1) (fun t ht => (lookd_mem.mp (a2.ord.mem_iff.mp ht)).1)
theorem aside_val {m : Nat} (a1 : AskOk N1 s ps1 n) (a2 : AskOk N2 t ps2 n) (aA : AskOk (asideN N1 N2) (bothS s t) (ps1 ++ ps2.map fun p => (rhoA N1 p.1, p.2)) m) (f : Asg) : EN (asideN N1 N2) (bothS s t) (ps1 ++ ps2.map fun p => (rhoA N1 p.1, p.2)) f = (EN N1 s ps1 f).times (EN N2 t ps2 fun x => f (rhoA N1 x)) := by
  have w := wps_join a1.net a2.net aA.net (fun p hp => (sortP_perm _).mem_iff.mpr hp) a1.ord a2.ord (List.Perm.refl _)
  show Ls (wps (asideN N1 N2) _) (fun f => ng (sg (sortP (asideS N1 N2)) f) (val (bothS s t) (N1.given ++ N2.given.map (rhoA N1)) f)) f = _
  rw [Ls_perm w (wps_nd _ aA.nodup), Ls_append]
  have e1 : Ls (wps N1 ps1) (fun f => ng (sg (sortP (asideS N1 N2)) f) (val (bothS s t) (N1.given ++ N2.given.map (rhoA N1)) f)) = fun f => (ng (sg N2.strings fun x => f (rhoA N1 x)) (val t N2.given fun x => f (rhoA N1 x))).times (EN N1 s ps1 f) := by
    unfold EN
    rw [← Ls_mul]
    · refine Ls_congr _ fun f => ?_
      have e : sg (asideS N1 N2) f = (sg N1.strings f ^^ sg (N2.strings.map (nrm (rhoA N1))) f) := sg_append f _ _
      rw [sg_perm (sortP_perm _), e, sg_nrm, both_val a1.len (by rw [List.length_map]; exact a2.len), val_map, ng_times, times_ng, ng_ng, times_comm, Bool.xor_comm]
    · intro p hp f b
      have hp1 : p.1 ∈ lookd N1.things N1.kept := by
        have : p.1 ∈ (wps N1 ps1).map (·.1) := List.mem_map.mpr ⟨p, hp, rfl⟩
        rw [wps_fst] at this
        exact a1.ord.mem_iff.mp this
      have h3 := lookd_mem.mp hp1
      have off : ∀ x, 0 ≤ x ∧ x < (N2.things : Int) → (f.upd p.1 b) (rhoA N1 x) = f (rhoA N1 x) := fun x hx => upd_off fun z => by
        unfold rhoA at z
        omega
      rw [sg_congr (g := fun x => f (rhoA N1 x)) fun q hq => by
        have := a2.net.s1 q hq
        unfold OkP at this
        exact ⟨off q.1 (by omega), off q.2 (by omega)⟩, val_congr (g := fun x => f (rhoA N1 x)) fun x hx => off x (a2.net.g1 x hx)]
  rw [e1]
  have e2 : (fun f : Asg => (ng (sg N2.strings fun x => f (rhoA N1 x)) (val t N2.given fun x => f (rhoA N1 x))).times (EN N1 s ps1 f)) = fun f => (EN N1 s ps1 f).times ((fun f : Asg => (fun g : Asg => ng (sg N2.strings g) (val t N2.given g)) fun x => f (rhoA N1 x)) f) := funext fun f => times_comm _ _
  rw [e2, Ls_mul]
  · show (EN N1 s ps1 f).times _ = _
    congr 1
    exact Ls_ren rhoA_inj (wps N2 ps2) (fun g : Asg => ng (sg N2.strings g) (val t N2.given g)) f
  · intro p hp f b
    obtain ⟨q, hq, rfl⟩ := List.mem_map.mp hp
    have hq1 : q.1 ∈ lookd N2.things N2.kept := by
      have : q.1 ∈ (wps N2 ps2).map (·.1) := List.mem_map.mpr ⟨q, hq, rfl⟩
      rw [wps_fst] at this
      exact a2.ord.mem_iff.mp this
    have h3 := (lookd_mem.mp hq1).1
    rw [← last_val a1, ← last_val a1]
    refine val_congr fun x hx => upd_off fun z => ?_
    have := a1.net.k1 x ((left_mem a1).mp hx)
    unfold rhoA at z
    simp only at z
    omega
theorem aside_last {m : Nat} (a1 : AskOk N1 s ps1 n) (a2 : AskOk N2 t ps2 n) (aA : AskOk (asideN N1 N2) (bothS s t) (ps1 ++ ps2.map fun p => (rhoA N1 p.1, p.2)) m) : lastS (asideN N1 N2) (bothS s t) (ps1 ++ ps2.map fun p => (rhoA N1 p.1, p.2)) = bothS (lastS N1 s ps1) (lastS N2 t ps2) := by
  have nd := left_nd aA
  have hl : (lastS (asideN N1 N2) (bothS s t) (ps1 ++ ps2.map fun p => (rhoA N1 p.1, p.2))).length = 2 ^ (leftL (asideN N1 N2) (bothS s t) (ps1 ++ ps2.map fun p => (rhoA N1 p.1, p.2))).length := (run_end aA).len
  have l1 : (lastS N1 s ps1).length = 2 ^ (leftL N1 s ps1).length := (run_end a1).len
  have l2 : (lastS N2 t ps2).length = 2 ^ (leftL N2 t ps2).length := (run_end a2).len
  have ev := last_val aA
  rw [aside_left a1 a2 aA] at nd hl ev
  refine ext_val nd hl (by rw [both_len, l1, l2, ← Nat.pow_add, List.length_append, List.length_map]) fun f => ?_
  rw [ev, both_val l1 (by rw [List.length_map]; exact l2), val_map, last_val a1, last_val a2, aside_val a1 a2 aA]
theorem aside_out {m : Nat} (a1 : AskOk N1 s ps1 n) (a2 : AskOk N2 t ps2 n) (aA : AskOk (asideN N1 N2) (bothS s t) (ps1 ++ ps2.map fun p => (rhoA N1 p.1, p.2)) m) : outS (asideN N1 N2) (bothS s t) (ps1 ++ ps2.map fun p => (rhoA N1 p.1, p.2)) = bothS (outS N1 s ps1) (outS N2 t ps2) := by
  have nd := aA.net.k2
  have hl := out_len aA
  have ev := out_val aA
  rw [asideN_kept] at nd hl ev
  refine ext_val nd hl (by rw [both_len, out_len a1, out_len a2, ← Nat.pow_add, List.length_append, List.length_map]) fun f => ?_
  rw [ev, both_val (out_len a1) (by rw [List.length_map]; exact out_len a2), val_map, out_val a1, out_val a2, aside_val a1 a2 aA]
end
end Lk
set_option maxHeartbeats 1000000
namespace Lk
open PySem PySem.Spec PyProof.Rows L2
open Evl (Ex)
open C8 (Cal pe_c Mak pe_mk)
/-! ### defs that look at a repr: nothing is being shown at their entry -/
structure FnG (P : Program) (w : World) (K : PySem.W.Frag) (mg : Str → Option Value) (base : Heap) (k : Nat) (f : Addr) (fd : FuncData) (ps : List Str) (sp : Sp) : Prop where
  size : ∀ vs H Q E, sp vs H Q E → vs.length = ps.length
  goes : ∀ (B : Around) (up : List PySem.Env) (c : Shared) (H : Hp) (as : Args) (us : List Value) (vs : List V) (Q : VK) (E : XK), B.guards = some [] → Room k B → Env0 P w K mg base B up c H → BindsTo c fd as (ps.zip us) → Vals vs us → sp vs H Q E →
    codeAny (model P w) B (.call (.ref f) as) (CR C8.CX0 up P w H c Q E) c
section
variable {P : Program} {w : World} {K : PySem.W.Frag} {mg : Str → Option Value} {base : Heap} {x qual : Str} {params : Arguments} {body : List Stmt} {scope : Scope} {dvs : List V} {kws : List (Str × V)} {f : Addr} {fd : FuncData}
theorem fn_g {N ps : List Str} {k : Nat} {sp : Sp} (F : FunD K x qual params body scope dvs kws f fd) (S : FnScope N ps scope) (size : ∀ vs H Q E, sp vs H Q E → vs.length = ps.length)
    (bd : ∀ (cdv : Value) (B : Around) (up : List PySem.Env) (c : Shared) (H : Hp) (vs : List V) (Q : VK) (E : XK), B.guards = some [] → Room k (B.deeper (envOfC qual scope c.heap.objs.size f cdv)) → sp vs H Q E →
      ∃ t, PSs (cxOf C8.CX0 P w K mg base N qual scope f cdv B up c H E) body t ∧ t { nx := fun _ H' => Q .non H', rt := Q } (start N vs) H) : FnG P w K mg base (k + 1) f fd ps sp := by
  obtain ⟨oc, od, dV, kV, doc, pm, an, cdv, ct, osl, rfl, lk, hcd, _, _⟩ := F.ex
  refine ⟨size, fun B up c H as us vs Q E g room e0 bind rel sat => ?_⟩
  have same := size _ _ _ _ sat
  have inK : K.In c.heap := e0.mod.kin.keeps fun b o e => (e0.bs b o e).1
  have noLim : c.heap.NoLimit := e0.mod.nolimit.keeps fun b o e => (e0.bs b o e).1
  have kinds : ∀ y ∈ ps.zip us, scope.names.lookup y.1 = some .local ∨ (scope.names.lookup y.1 = some .cell ∧ ((cellsFrom (c.heap.objs.size + 1) scope.names []).lookup y.1).isSome = true) := fun ⟨n, v⟩ hy =>
    (S.par n (List.of_mem_zip hy).1).imp id fun q => ⟨q, PySem.W.cellsFrom_some _ _ _ (.inl q)⟩
  refine codeAny_call_function room.depth (inK _ _ lk) rfl S.co S.gen rfl (PySem.W.codeRec_of inK hcd) (bind _ _ _ _ (wpAny_newFunctionEnv_cells S.kind kinds fun env he c1 y => ?_))
  subst he
  refine ⟨noLim.keeps y.toInCall.keep, codeAny_func ?_⟩
  obtain ⟨t, ht, hq⟩ := bd cdv B up c H vs Q E g (room.deeper _) sat
  have J0 := inv_start (CX := C8.CX0) (P := P) (w := w) (mg := mg) (base := base) (E := E) S room.hd e0 same rel y
  refine wpAny_mono (ht.run [] c1 (start N vs) H _ J0 hq) (fun fl c' hs => ?_) fun e c' hs => hs
  cases fl with
  | brk => exact (hs.elim fun _ h => h.elim fun _ h => False.elim h.2)
  | cont => exact (hs.elim fun _ h => h.elim fun _ h => False.elim h.2)
  | next =>
    obtain ⟨σ', H', J, q⟩ := hs
    exact ⟨.non, H', J.os, J.bare, J.base, J.hok, rfl, q⟩
  | ret u =>
    obtain ⟨v, σ', H', J, rv, q⟩ := hs
    exact ⟨v, H', J.os, J.bare, J.base, J.hok, rv, q⟩
end
section
variable {X : Cx} {k : Nat} {f : Addr} {fd : FuncData} {ps : List Str} {sp : Sp} {dvs : List V} {ds : List Value} {E : XK} {x : Str} {p pos : Pos} {e : Expr} {es : List Expr} {t : TA}
theorem pe_callG (F : FnG X.prog X.w X.K X.mg X.base k f fd ps sp) (hG : X.A.guards = some []) (room : Room k X.A) (hg : Gl X x) (hm : X.mg x = some (.ref f)) (kp : PySem.W.keepIn X.K (.ref f) = true) (hb : Binds X.K fd ps [])
    (ha : PA X (e :: es) t) (hdb : (x == ("__debug__" : Str)) = false := by decide) (hst : starEach (e :: es) X.env = (false, eval e X.env) :: starEach es X.env := by rfl) (hpl : (backTo pos (starEach es X.env)).any (·.1) = false := by rfl) :
    PE X (.Call (.Name x p) (e :: es) [] pos) (tCall sp [] C8.E0 t) := by
  refine ⟨fun pins c σ H Q I h => wpAny_Call_Name_kw (ld_glob I hg hm ?_ hdb)⟩
  refine PySem.W.callWith_K (h₀ := X.base) I.ok.mod.kin kp (thn (ha.run pos pins c σ H _ I h) fun us c1 ⟨vs, H1, J, r, q⟩ => ⟨J.kIn, ?_⟩) hst hpl
  have r2 : Vals (vs ++ []) (us ++ []) := r.append .nil
  have same : (us ++ []).length = ps.length := by rw [← r2.length]; exact F.size _ _ _ _ q
  refine wpAny_call (codeAny_mono (F.goes X.A X.stack c1 H1 ⟨us, []⟩ (us ++ []) (vs ++ []) Q C8.E0 hG room J.env0 (hb c1 us J.kIn same) r2 q) fun r c' hq => ?_)
  cases r with
  | error e => exact False.elim hq
  | ok fl =>
    cases fl with
    | ret u => exact J.after hq
    | next => exact False.elim hq
    | brk => exact False.elim hq
    | cont => exact False.elim hq
end
end Lk
set_option maxHeartbeats 1000000
namespace Lk
open PySem PySem.Spec PyProof.Rows L2
open Evl (Ex)
open C8 (Cal pe_c Mak pe_mk)
/-! ### the end of the law: its def is one that looks at a repr -/
section
variable {P : Program} {w : World} {K : PySem.W.Frag} {mg mb : Str → Option Value} {k : Nat} {fa a : Addr} {fd : FuncData} {x : Str} {sp : Sp} {c : Shared} {xs : List Value} {ns : List Int}
def Told (c : Shared) (r : Result) (c' : Shared) : Prop := r = .ok (.ret (.bool true)) ∧ OldK c.heap c'.heap ∧ c'.os = c.os ∧ AllBare c'.gens
/-- from an abstract heap with the script alone -/
theorem law_from (inK : K.In c.heap) (nm : c.heap.Ns mainGlobals mg) (nb : c.heap.Ns builtinsNs mb) (boot : ∀ x : Str, x ≠ "__name__" → mb x = bootBuiltins x) (noLim : c.heap.NoLimit) (nog : c.gens = #[])
    (scr : c.heap.get? a = some { cls := .type "list", data := .seq xs.toArray }) (room : Room k callerA)
    (F : ∀ base : Heap, K.In base → base.Ns mainGlobals mg → FnG P w K mg base k fa fd [x] sp) (bind : ∀ (s : Shared) (u : Value), BindsTo s fd ⟨[u], []⟩ [(x, u)])
    {H : Hp} (only : Only H) (sat : sp [.ref a] H (fun v _ => v = .bl true) fun _ _ _ => False) (ok : HOk P w H c.heap) (ha : ∀ b, H b ≠ none → b = a) (hk : H a ≠ none → K.lookup a = none) :
    codeAny (model P w) callerA (.call (.ref fa) ⟨[.ref a], []⟩) (Told c) c := by
  have out : ∀ {b : Addr} {o : Obj}, c.heap.get? b = some o → H b = none → (hidT c.heap H).get? b = some o := fun e n => hidT_get e n
  have dic : ∀ {b : Addr} {o : Obj} {es : Array DictEntry} {ep : Nat}, c.heap.get? b = some o → o.data = .dict es ep → H b = none := fun {b o es ep} e d => Classical.byContradiction fun z => by
    obtain rfl := ha b z
    obtain rfl := Option.some.inj (scr.symm.trans e)
    have d' : Data.seq xs.toArray _ = Data.dict es ep := d
    cases d'
  have nsB : ∀ {b : Addr} {m : Str → Option Value}, c.heap.Ns b m → (hidT c.heap H).Ns b m := fun {b m} ⟨o, es, ep, e, d, r⟩ => ⟨o, es, ep, out e (dic e d), d, r⟩
  have inB : K.In (hidT c.heap H) := fun b o e => out (inK b o e) (Classical.byContradiction fun z => by
    obtain rfl := ha b z
    cases (hk z).symm.trans e)
  have m : Mod K mg (hidT c.heap H) := ⟨inB, nsB nm, ⟨mb, nsB nb, boot⟩, noLim.elim fun mc h => ⟨mc, nsB h.1, h.2⟩⟩
  have entry : Env0 P w K mg (hidT c.heap H) callerA [] c H := ⟨rfl, m, fun b o e => of_hidT e, Nat.le_of_eq (hidT_size _ _), trivial, fun b hb => (List.not_mem_nil hb).elim, ok, .of_eq nog⟩
  refine codeAny_mono ((F _ inB (nsB nm)).goes callerA [] c H ⟨[.ref a], []⟩ [.ref a] [.ref a] _ _ rfl room entry (bind c (.ref a)) (.cons rfl .nil) sat) fun r c' h => ?_
  cases r with
  | error e => exact False.elim h
  | ok fl =>
    cases fl with
    | next => exact False.elim h
    | brk => exact False.elim h
    | cont => exact False.elim h
    | ret u =>
      obtain ⟨v, H', os, bare, un, ok', rv, q⟩ := h
      have q' : v = .bl true := q
      subst q'
      have rv' : u = Value.bool true := rv
      subst rv'
      refine ⟨rfl, OldK.of_keep fun b o e => ?_, os, bare⟩
      by_cases hb : H b = none
      · exact un.keep b o e hb (fun z => (List.not_mem_nil z).elim) (by simp)
      · rcases only b with z | ⟨ob, ys, z⟩
        · exact absurd z hb
        · have e1 := (ok b _ z).1
          have e2 := (ok' b _ (un.frzs b ob _ z)).1
          rw [e] at e1
          cases e1
          exact e2
theorem law_goes (inK : K.In c.heap) (nm : c.heap.Ns mainGlobals mg) (nb : c.heap.Ns builtinsNs mb) (boot : ∀ x : Str, x ≠ "__name__" → mb x = bootBuiltins x) (noLim : c.heap.NoLimit) (nog : c.gens = #[])
    (scr : c.heap.get? a = some { cls := .type "list", data := .seq xs.toArray }) (iv : IntsAre xs ns) (fit : ns.length ≤ sizeLine) (room : Room k callerA)
    (F : ∀ base : Heap, K.In base → base.Ns mainGlobals mg → FnG P w K mg base k fa fd [x] sp) (bind : ∀ (s : Shared) (u : Value), BindsTo s fd ⟨[u], []⟩ [(x, u)])
    (sat : ∀ H : Hp, Only H → SqL K H a (ns.map V.int) → sp [.ref a] H (fun v _ => v = .bl true) fun _ _ _ => False) :
    codeAny (model P w) callerA (.call (.ref fa) ⟨[.ref a], []⟩) (Told c) c := by
  have rv := vals_ints iv
  have same := iv.length
  by_cases hk : ∃ o, K.lookup a = some o
  · obtain ⟨o, hk⟩ := hk
    obtain rfl := Option.some.inj (scr.symm.trans (inK a o hk))
    have only : Only fun _ => none := fun _ => .inl rfl
    exact law_from inK nm nb boot noLim nog scr room F bind only (sat _ only (.inr ⟨_, xs.toArray, _, hk, rfl, rfl, rfl, by rw [List.size_toArray, same]; exact fit, by simpa using rv⟩)) (fun b u z => nomatch (z : (none : Option HO) = some u)) (fun b z => (z rfl).elim) fun z => (z rfl).elim
  · have hk : K.lookup a = none := Option.eq_none_iff_forall_ne_some.mpr fun o e => hk ⟨o, e⟩
    have one : ∀ {b : Addr} {u : HO}, (if b = a then some (HO.frz { cls := .type "list", data := .seq xs.toArray } (.lst (ns.map V.int))) else none) = some u → b = a ∧ u = .frz { cls := .type "list", data := .seq xs.toArray } (.lst (ns.map V.int)) := fun {b u} z => by
      split at z
      · rename_i hb
        exact ⟨hb, (Option.some.inj z).symm⟩
      · cases z
    have only : Only fun b => if b = a then some (HO.frz { cls := .type "list", data := .seq xs.toArray } (.lst (ns.map V.int))) else none := fun b => by
      by_cases hb : b = a
      · exact .inr ⟨_, _, if_pos hb⟩
      · exact .inl (if_neg hb)
    refine law_from inK nm nb boot noLim nog scr room F bind only (sat _ only (.inl (.inr ⟨{ cls := .type "list", data := .seq xs.toArray }, if_pos rfl⟩))) (fun b u z => ?_) (fun b z => ?_) fun _ => hk
    · obtain ⟨rfl, rfl⟩ := one z
      exact ⟨scr, by rw [List.length_map]; exact fit, xs, _, rv, scr⟩
    · obtain ⟨u, hu⟩ := Option.ne_none_iff_exists'.mp z
      exact (one hu).1
end
/-- the law's row, from the promise of its def -/
theorem walk_g {l : PySem.W.OpenLaw} {n k : Nat} {q : Program} {loose : List Str} {XP : (Str → Option Value) → Heap → Prop} {YP : World → Heap → Prop} {d : DefRec} {x : Str}
    (most : l.most = some n) (fit : n ≤ sizeLine) (dfl : d.params.defaults = []) (room : Room k callerA)
    (F : ∀ (w : World) (mg : Str → Option Value) (fa : Addr) (h : Heap), YP w h → h.Ns mainGlobals mg → mg d.name = some (.ref fa) →
      ∃ (K : PySem.W.Frag) (fd : FuncData) (sp : Sp), K.In h ∧ (∀ (s : Shared) (u : Value), BindsTo s fd ⟨[u], []⟩ [(x, u)]) ∧
        (∀ (H : Hp) (a : Addr) (ns : List Int), ns.length ≤ n → Only H → SqL K H a (ns.map V.int) → sp [.ref a] H (fun v _ => v = .bl true) fun _ _ _ => False) ∧
        ∀ base : Heap, K.In base → base.Ns mainGlobals mg → FnG l.prog w K mg base k fa fd [x] sp) :
    PySem.W.WalkO q loose XP YP l.row.toRowW d [] (fun f vs => PySem.call f vs) :=
  Att.attach_call most dfl fun w s₀ c mg mb fa o pm cd doc a xs ns G Y _ _ _ hmg scr iv hl nog => by
    obtain ⟨K, fd, sp, inK, bind, sat, goes⟩ := F w mg fa _ Y G.T.g hmg
    exact law_goes inK G.T.g G.T.b G.T.builtins G.T.nolimit nog scr iv (Nat.le_trans hl fit) room goes bind fun H only hs => sat H a ns hl only hs
end Lk
set_option maxHeartbeats 1000000
namespace Lk
open PySem PySem.Spec PyProof.Rows L2
open Evl (Ex)
open C8 (Cal pe_c Mak pe_mk)
/-! ### repr of a spread, or of none -/
def ReprOk (d : PyData) : Prop := d.showable = true ∧ d.hasDict = false ∧ d.depth ≤ 60 ∧ d.shown.length ≤ sizeLine
def rRepr (K : PySem.W.Frag) : List V → Hp → VK → Prop := fun xs H Q => ∃ v d, xs = [v] ∧ Dp K H v d ∧ ReprOk d ∧ (v = .non ∨ ∃ a, v = .ref a) ∧ Q (.str d.shown) H
theorem call_repr {X : Cx} (hG : X.A.guards = some []) (hu : X.A.units + 64 < cLine) : CallR X (.builtin "repr") (rRepr X.K) := fun pins c σ H xs us Q I r ⟨v, d, hx, hd, ok, hv, q⟩ => by
  subst hx
  cases r with
  | cons rv r =>
    cases r
    rcases hv with rfl | ⟨a, rfl⟩
    · cases hd
      cases rv
      exact PySem.P.repr_of_none ⟨.str "None", H, I.tok _, ⟨_, rfl⟩, q⟩
    · obtain ⟨as, rd⟩ := Dp.reads I d _ _ hd rv
      cases rv
      exact repr_of_reads' rd ok.1 (PyData.noDict_hsm ok.2.1) hG (by have := ok.2.2.1; omega) (fun b o e => e) (fun h' u tk hk => ⟨.str d.shown, H, I.un (Un.kept hk) (I.hok.kept hk), ⟨_, rfl⟩, q⟩) ok.2.2.2
def pyA (x : Amt) : PyData := .tuple [.int x.a, .int x.b, .int x.c, .int x.d]
def pyS (s : List Amt) : PyData := .tuple (s.map pyA)
theorem is_int {K : PySem.W.Frag} {H : Hp} {v : V} {i : Int} (h : Is K H v (.int i)) : Dp K H v (.int i) := by
  cases h
  exact .int i
theorem is_amt {K : PySem.W.Frag} {H : Hp} {v : V} {x : Amt} (h : Is K H v (amtD x)) : Dp K H v (pyA x) := by
  cases h with
  | tup s a =>
    cases a with
    | cons h1 a =>
      cases a with
      | cons h2 a =>
        cases a with
        | cons h3 a =>
          cases a with
          | cons h4 a =>
            cases a
            exact .tup s (.cons (is_int h1) (.cons (is_int h2) (.cons (is_int h3) (.cons (is_int h4) .nil))))
theorem is_amts {K : PySem.W.Frag} {H : Hp} : ∀ {s : List Amt} {vs : List V}, IsAll K H vs (s.map amtD) → DpAll K H vs (s.map pyA)
  | [], _, h => by
    cases h
    exact .nil
  | x :: s, _, h => by
    cases h with
    | cons i a => exact .cons (is_amt i) (is_amts a)
theorem is_spr {K : PySem.W.Frag} {H : Hp} {v : V} {s : List Amt} (h : Is K H v (spr s)) : Dp K H v (pyS s) ∧ ∃ a, v = .ref a := by
  cases h with
  | tup s a => exact ⟨.tup s (is_amts a), _, rfl⟩
theorem tuple_len (ts : List Str) : (tupleText ts).length ≤ piled ts + 3 := by
  unfold tupleText
  rw [PySem.strLen_append, PySem.strLen_append]
  have e1 : (("(" : String) : Str).length = 1 := rfl
  have e2 : ((if ts.length == 1 then ",)" else ")" : String) : Str).length ≤ 2 := by split <;> decide
  have e3 : (Str.join ", " ts).length ≤ piled ts := by
    by_cases h : ts = []
    · subst h
      exact Nat.zero_le _
    · have := join_length_add ts h
      omega
  omega
theorem bd_log {n : Nat} {i : Int} (h : i.natAbs < 2 ^ n) (hn : n ≤ 1900) : i.natAbs.log2 < 1920 := by
  by_cases hz : i.natAbs = 0
  · rw [hz]
    decide
  · have := (Nat.log2_lt hz).mpr h
    omega
theorem int_len {n : Nat} {i : Int} (h : i.natAbs < 2 ^ n) (hn : n ≤ 1900) : (PyData.shown (.int i)).length ≤ 1921 := PyProof.Rows.int_text_len_1921 (bd_log h hn)
theorem amt_len {n : Nat} {x : Amt} (h : Bd n x) (hn : n ≤ 1900) : (pyA x).shown.length ≤ 7700 := by
  have h1 := int_len h.a hn
  have h2 := int_len h.b hn
  have h3 := int_len h.c hn
  have h4 := int_len h.d hn
  refine Nat.le_trans (tuple_len _) ?_
  show piled [PyData.shown (.int x.a), PyData.shown (.int x.b), PyData.shown (.int x.c), PyData.shown (.int x.d)] + 3 ≤ 7700
  rw [piled_cons, piled_cons, piled_cons, piled_cons, show piled [] = 0 from rfl]
  omega
theorem amts_piled {n : Nat} (hn : n ≤ 1900) : ∀ {s : List Amt}, (∀ x ∈ s, Bd n x) → piled (PyData.shownAll (s.map pyA)) ≤ 7702 * s.length
  | [], _ => Nat.zero_le _
  | x :: s, h => by
    have h1 := amt_len (h x (List.mem_cons_self ..)) hn
    have h2 := amts_piled hn fun y hy => h y (List.mem_cons_of_mem _ hy)
    show piled ((pyA x).shown :: PyData.shownAll (s.map pyA)) ≤ _
    rw [piled_cons, List.length_cons]
    omega
theorem amts_show {n : Nat} (hn : n ≤ 1900) : ∀ {s : List Amt}, (∀ x ∈ s, Bd n x) → PyData.showableAll (s.map pyA) = true ∧ PyData.hasDictAll (s.map pyA) = false ∧ PyData.depthAll (s.map pyA) ≤ 1
  | [], _ => ⟨rfl, rfl, Nat.zero_le _⟩
  | x :: s, h => by
    have hx := h x (List.mem_cons_self ..)
    obtain ⟨h1, h2, h3⟩ := amts_show hn fun y hy => h y (List.mem_cons_of_mem _ hy)
    refine ⟨?_, ?_, ?_⟩
    · show ((decide (x.a.natAbs.log2 < 1920) && (decide (x.b.natAbs.log2 < 1920) && (decide (x.c.natAbs.log2 < 1920) && (decide (x.d.natAbs.log2 < 1920) && true)))) && PyData.showableAll (s.map pyA)) = true
      rw [h1, decide_eq_true (bd_log hx.a hn), decide_eq_true (bd_log hx.b hn), decide_eq_true (bd_log hx.c hn), decide_eq_true (bd_log hx.d hn)]
      rfl
    · show (false || PyData.hasDictAll (s.map pyA)) = false
      rw [h2]
      rfl
    · show max 1 (PyData.depthAll (s.map pyA)) ≤ 1
      omega
theorem spr_ok {n : Nat} {s : List Amt} (hn : n ≤ 1900) (h : ∀ x ∈ s, Bd n x) (hl : s.length ≤ 1024) : ReprOk (pyS s) := by
  obtain ⟨h1, h2, h3⟩ := amts_show hn h
  have h4 := amts_piled hn h
  refine ⟨h1, h2, ?_, ?_⟩
  · show PyData.depthAll (s.map pyA) + 1 ≤ 60
    omega
  · refine Nat.le_trans (tuple_len _) ?_
    rw [sizeLine_eq]
    omega
end Lk
set_option maxHeartbeats 1000000
namespace Lk
open PySem PySem.Spec PyProof.Rows L2
open Evl (Ex)
open C8 (Cal pe_c Mak pe_mk)
section
variable {P : Program} {w : World} {K : PySem.W.Frag} {mg : Str → Option Value} {base : Heap} {x qual : Str} {params : Arguments} {body : List Stmt} {scope : Scope} {dvs : List V} {kws : List (Str × V)} {f : Addr} {fd : FuncData}
theorem fn_drawG {N ps : List Str} {k l c : Nat} {R : List D → D → Prop} (F : FunD K x qual params body scope dvs kws f fd) (S : FnScope N ps scope) (hn : ps.length = l + 1)
    (hbody : ∀ (cdv : Value) (B : Around) (up : List PySem.Env) (s : Shared) (H : Hp) (E : XK), B.guards = some [] → Room k (B.deeper (envOfC qual scope s.heap.objs.size f cdv)) → ∃ t, PSs (cxOf C8.CX0 P w K mg base N qual scope f cdv B up s H E).nox body t ∧ ∀ C n ds, ds.length = l → (∃ d, R ds d) → n + c ≤ 100000 → XB K C t (startX N C ds) n (n + c) (R ds)) :
    FnG P w K mg base (k + 1) f fd ps (spX K l c R) := by
  refine fn_g F S (fun vs H Q E h => ?_) fun cdv B up s H vs Q E g hr h => ?_
  · obtain ⟨C, n, hot, vs', ds, rfl, h1, _⟩ := h
    rw [List.length_cons, h1, hn]
  obtain ⟨t, ht, hb⟩ := hbody cdv B up s H E g hr
  obtain ⟨C, n, hot, vs', ds, rfl, hl, hh, hin, hcl, hcells, hH, hk, a, hR, q⟩ := h
  refine ⟨t, ht.nox, hb C n ds (a.length.symm.trans hl) hR hk ⟨H, hot, [C.hp]⟩ H _ _ (env_startX (fun _ _ _ z => z) hh (fun p hp => by rw [List.mem_singleton.mp hp]; exact hin) a) ⟨rfl, hin, hcl, hcells⟩ hH fun v H' d h1 h2 h3 i p => q v H' d (fun a o z e => h1 a o (fun w => z (List.mem_singleton.mp w)) e) h3 i p⟩
end
section
variable {K : PySem.W.Frag} {C : Hc} {Γ : Ctx} {ta tb : TE} {t : TA} {n m k : Nat} {Θ : List D → Prop} {x y z : Ent} {i l j : Nat}
theorem xs_parA (h : XA K C t Γ n m Θ) (h2 : ∀ ds, Θ ds → ds.length = 2) (hx : Γ[i]? = some x) (ho : own1 x = []) (hy : ∀ d, (Γ.set i (.dat d))[l]? = some y) (ho' : own1 y = []) :
    XS K C (tPar i l t) Γ n m fun Γ' => ∃ d e, Θ [d, e] ∧ Γ' = (Γ.set i (.dat d)).set l (.dat e) := fun F H σ Z E hF hH q =>
  h F H σ E hF hH _ fun vs H1 ds e1 hh a p => by
    have E1 := E.monoC hF hH e1 hh
    have hl := h2 ds p
    cases a with
    | nil => cases hl
    | @cons v _ d _ i1 a =>
      cases a with
      | nil => cases hl
      | @cons _ _ e _ i2 a =>
        cases a with
        | cons => simp at hl
        | nil =>
          have eo : owned (Γ.set i (.dat d)) = owned Γ := owned_set (e := x) (e' := .dat d) ho.symm hx
          exact ⟨_, _, rfl, q _ H1 _ ((E1.setD hx ho i1).setD (hy d) ho' (by unfold hotOf; rw [eo]; exact i2)) hh ⟨d, e, p, rfl⟩⟩
theorem xs_par3A (h : XA K C t Γ n m Θ) (h2 : ∀ ds, Θ ds → ds.length = 3) (hx : Γ[i]? = some x) (ho : own1 x = []) (hy : ∀ d, (Γ.set i (.dat d))[l]? = some y) (ho' : own1 y = []) (hz : ∀ d e, ((Γ.set i (.dat d)).set l (.dat e))[j]? = some z) (ho2 : own1 z = []) :
    XS K C (tPar3 i l j t) Γ n m fun Γ' => ∃ d e f, Θ [d, e, f] ∧ Γ' = ((Γ.set i (.dat d)).set l (.dat e)).set j (.dat f) := fun F H σ Z E hF hH q =>
  h F H σ E hF hH _ fun vs H1 ds e1 hh a p => by
    have E1 := E.monoC hF hH e1 hh
    have hl := h2 ds p
    cases a with
    | nil => cases hl
    | @cons v _ d _ i1 a =>
      cases a with
      | nil => cases hl
      | @cons _ _ e _ i2 a =>
        cases a with
        | nil => cases hl
        | @cons _ _ f _ i3 a =>
          cases a with
          | cons => simp at hl
          | nil =>
            have eo : owned (Γ.set i (.dat d)) = owned Γ := owned_set (e := x) (e' := .dat d) ho.symm hx
            have eo2 : owned ((Γ.set i (.dat d)).set l (.dat e)) = owned Γ := (owned_set (e := y) (e' := .dat e) ho'.symm (hy d)).trans eo
            exact ⟨_, _, _, rfl, q _ H1 _ (((E1.setD hx ho i1).setD (hy d) ho' (by unfold hotOf; rw [eo]; exact i2)).setD (hz d e) ho2 (by unfold hotOf; rw [eo2]; exact i3)) hh ⟨d, e, f, p, rfl⟩⟩
theorem xs_parD {a : Int} (h1 : DND K ta Γ [] []) (h2 : DE K tb Γ (.int a)) (hx : Γ[i]? = some x) (ho : own1 x = []) (hy : ∀ p, (Γ.set i (.dic p [] []))[l]? = some y) (ho' : own1 y = []) :
    XS K C (tPar i l (tCons ta (tCons tb tNil))) Γ n n fun Γ' => ∃ p, Γ' = (Γ.set i (.dic p [] [])).set l (.dat (.int a)) := fun F H σ Z E hF hH q =>
  h1 F H σ E _ fun p xs H1 hp e1 hd hl a1 => by
    have E1 := E.hot1 hp e1 (by rw [hd]; exact fun z => nomatch z)
    refine h2 (F.more p) H1 σ E1 _ fun v H2 e2 iv => ?_
    cases iv
    have E2 := (E.addO (e' := .dic p [] []) hx ho hp e1 rfl ⟨rfl, xs, hd, hl, a1⟩).mono e2
    exact ⟨_, _, rfl, q _ H2 _ (E2.setD (hy p) ho' (.int a)) ((hH.mono e1).mono e2) ⟨p, rfl⟩⟩
end
/-! ### repr -/
section
variable {K : PySem.W.Frag} {Γ : Ctx} {ta tb : TE}
theorem endD_cases {o : List Amt} {b : Bool} {n : Nat} (hn : n ≤ 1900) (hb : b = true → ∀ x ∈ plainS o, Bd n x) (hl : o.length ≤ 1024) : ∃ d : PyData, ReprOk d ∧ ∀ (H : Hp) (v : V), Is K H v (endD o b) → Dp K H v d ∧ (v = .non ∨ ∃ a, v = .ref a) := by
  cases b with
  | false =>
    rw [endD_no]
    refine ⟨.none, ⟨rfl, rfl, Nat.zero_le _, by decide⟩, fun H v h => ?_⟩
    cases h
    exact ⟨.non, .inl rfl⟩
  | true =>
    rw [endD_yes]
    exact ⟨pyS (plainS o), spr_ok hn (hb rfl) (by rw [plain_length]; exact hl), fun H v h => ⟨(is_spr h).1, .inr (is_spr h).2⟩⟩
theorem de_repr {d : D} {pd : PyData} (ha : DE K ta Γ d) (ok : ReprOk pd) (h : ∀ (H : Hp) (v : V), Is K H v d → Dp K H v pd ∧ (v = .non ∨ ∃ a, v = .ref a)) : DE K (tCB (rRepr K) (tCons ta tNil)) Γ (.str pd.shown) := fun F H σ E Q q =>
  ha F H σ E _ fun v H1 e1 i1 => ⟨v, pd, rfl, (h _ _ (i1.mono hid_le)).1, ok, (h _ _ (i1.mono hid_le)).2, q _ H1 e1 (.str _)⟩
/-- repr(x) == repr(y), x and y ends that are the same -/
theorem de_reprEq {o : List Amt} {b : Bool} {n : Nat} (ha : DE K ta Γ (endD o b)) (hb : DE K tb Γ (endD o b)) (hn : n ≤ 1900) (hx : b = true → ∀ x ∈ plainS o, Bd n x) (hl : o.length ≤ 1024) : DE K (tOp rEq (tCB (rRepr K) (tCons ta tNil)) (tCB (rRepr K) (tCons tb tNil))) Γ (.bl true) := by
  obtain ⟨d, ok, h⟩ := endD_cases (K := K) (b := b) hn hx hl
  refine fun F H σ E Q q => de_repr ha ok h F H σ E _ fun v H1 e1 i1 => ?_
  cases i1
  refine de_repr hb ok h F H1 σ (E.mono e1) _ fun u H2 e2 i2 => ?_
  cases i2
  refine ⟨rfl, q _ H2 (e1.trans e2) ?_⟩
  rw [decide_eq_true rfl]
  exact .bl true
end
end Lk
set_option maxHeartbeats 1000000
namespace Lk
open PySem PySem.Spec PyProof.Rows L2
open Evl (Ex)
open C8 (Cal pe_c Mak pe_mk)
/-! ### comprehensions over pairs, over things -/
theorem all2_ints {P : Int → Prop} {as : List Int} {ds : List D} (h : All2 (fun _ d => ∃ r, d = .int r ∧ P r) as ds) : ∃ fs : List Int, ds = fs.map D.int ∧ fs.length = as.length ∧ ∀ x ∈ fs, P x := by
  induction h with
  | nil => exact ⟨[], rfl, rfl, fun _ h => (List.not_mem_nil h).elim⟩
  | cons h _ ih =>
    obtain ⟨r, rfl, hr⟩ := h
    obtain ⟨fs, rfl, hl, hf⟩ := ih
    refine ⟨r :: fs, rfl, by rw [List.length_cons, hl, List.length_cons], fun x hx => ?_⟩
    rcases List.mem_cons.mp hx with rfl | hx
    · exact hr
    · exact hf x hx
section
variable {K : PySem.W.Frag} {C : Hc} {Γ Γw : Ctx} {te : TE} {wi : TI} {n : Nat} {vs : List Nat} {i j : Nat} {x y : Ent} {T : List (Int × Int)}
theorem pair_ctx (hx : Γw[i]? = some x) (hy : ∀ a : D, (Γw.set i (.dat a))[j]? = some y) (hij : i ≠ j) (a b : D) : ((Γw.set i (.dat a)).set j (.dat b))[i]? = some (.dat a) ∧ ((Γw.set i (.dat a)).set j (.dat b))[j]? = some (.dat b) := by
  have h1 := (List.getElem?_eq_some_iff.mp hx).1
  have h2 := (List.getElem?_eq_some_iff.mp (hy a)).1
  refine ⟨?_, ?_⟩
  · rw [List.getElem?_set_ne (Ne.symm hij), List.getElem?_set_self h1]
  · rw [List.getElem?_set_self h2]
theorem dn_fst (hI : DI K wi Γ (T.map prD)) (hl : T.length < 16000000) (hw : wipeC Γ vs = Γw) (ho : owned Γw = owned Γ) (hx : Γw[i]? = some x) (ho1 : own1 x = []) (hy : ∀ a : D, (Γw.set i (.dat a))[j]? = some y) (ho2 : own1 y = []) (hij : i ≠ j) (hjs : ∀ k ∈ [i, j], k ∈ vs) :
    DN K (tLc wi (gTup K 2 (gCons (gName i) (gCons (gName j) gNil))) tYes (tVar i) vs) Γ ((T.map (·.1)).map D.int) := by
  rw [List.map_map]
  exact dn_lcY (em := prD) (gv := fun p : Int × Int => D.int p.1) hI hw ho (fun p _ => dg_pair (p := (.int p.1, .int p.2)) rfl hx ho1 (hy _) ho2) hjs (fun p _ => de_var (pair_ctx hx hy hij _ _).1) hl
theorem dn_snd (hI : DI K wi Γ (T.map prD)) (hl : T.length < 16000000) (hw : wipeC Γ vs = Γw) (ho : owned Γw = owned Γ) (hx : Γw[i]? = some x) (ho1 : own1 x = []) (hy : ∀ a : D, (Γw.set i (.dat a))[j]? = some y) (ho2 : own1 y = []) (hij : i ≠ j) (hjs : ∀ k ∈ [i, j], k ∈ vs) :
    DN K (tLc wi (gTup K 2 (gCons (gName i) (gCons (gName j) gNil))) tYes (tVar j) vs) Γ ((T.map (·.2)).map D.int) := by
  rw [List.map_map]
  exact dn_lcY (em := prD) (gv := fun p : Int × Int => D.int p.2) hI hw ho (fun p _ => dg_pair (p := (.int p.1, .int p.2)) rfl hx ho1 (hy _) ho2) hjs (fun p _ => de_var (pair_ctx hx hy hij _ _).2) hl
theorem xn_sifts {L : List Int} {X : XK} (hI : DI K wi Γ (L.map D.int)) (hl : L.length < 1000) (hn : n + L.length < 100000) (hw : wipeC Γ vs = Γw) (ho : owned Γw = owned Γ) (hx : Γw[i]? = some x) (ho1 : own1 x = []) (h0 : ∀ a : D, (Γw.set i (.dat a))[0]? = some (.at_ C.hp)) (hjs : i ∈ vs) :
    XN K C (tLc wi (gName i) tYes (tCall (spX K 1 1 Rsift) [] X (tCons (tVar 0) (tCons (tC (.int 2)) tNil))) vs) Γ n (n + L.length) fun ds => ∃ fs : List Int, ds = fs.map D.int ∧ fs.length = L.length ∧ ∀ x ∈ fs, 0 ≤ x ∧ x ≤ 1 := by
  have h := xn_lc (K := K) (C := C) (n := n) (c := 1) (f := fun _ => true) (G := fun _ d => ∃ r : Int, d = .int r ∧ (0 ≤ r ∧ r ≤ 1)) (vs := vs) (te := tCall (spX K 1 1 Rsift) [] X (tCons (tVar 0) (tCons (tC (.int 2)) tNil))) hI hw ho (fun a _ => dg_name hx ho1) (fun k hk => by rw [List.mem_singleton.mp hk]; exact hjs) (fun a _ => dt_yes) (fun a _ _ m hm => (xi_sift (h0 _) de_int (by decide) (by decide) (by omega)).imp fun d hd => by
    obtain ⟨r, rfl, h1, h2⟩ := hd
    exact ⟨r, rfl, h1, by omega⟩) (by omega)
  rw [Nat.mul_one, List.filter_eq_self.mpr fun _ _ => rfl] at h
  exact h.imp fun ds hd => all2_ints hd
/-- x, y = {}, e: x a cell -/
theorem xs_asgD {a : Int} {ta tb : TE} {l : Nat} (h1 : DND K ta Γ [] []) (h2 : DE K tb Γ (.int a)) (hx : Γ[i]? = some x) (ho : own1 x = []) (hy : ∀ p, (Γ.set i (.dic p [] []))[l]? = some y) (ho' : own1 y = []) :
    XS K C (tAsg (tTup (tCons ta (tCons tb tNil))) (gTup K 2 (gCons (gName i) (gCons (gName l) gNil)))) Γ n n fun Γ' => ∃ p, Γ' = (Γ.set i (.dic p [] [])).set l (.dat (.int a)) := fun F H σ Z E hF hH q =>
  h1 F H σ E _ fun p xs H1 hp e1 hd hl a1 => by
    have E1 := E.hot1 hp e1 (by rw [hd]; exact fun z => nomatch z)
    refine h2 (F.more p) H1 σ E1 _ fun v H2 e2 iv => ?_
    cases iv
    refine ⟨line_of (Nat.le_of_ble_eq_true rfl), fun T hT => ?_⟩
    have e3 : Ex H2 (upd H2 T (.tup [.ref p, .int a])) := Ex.new hT
    have E2 := ((E.addO (e' := .dic p [] []) hx ho hp e1 rfl ⟨rfl, xs, hd, hl, a1⟩).mono e2).mono e3
    exact ⟨T, _, rfl, SqT.of upd_same, rfl, _, _, rfl, _, _, rfl, rfl, q _ _ _ (E2.setD (hy p) ho' (.int a)) (((hH.mono e1).mono e2).mono e3) ⟨p, rfl⟩⟩
end
end Lk
set_option maxHeartbeats 1000000
namespace Lk
open PySem PySem.Spec PyProof.Rows L2
open Evl (Ex)
open C8 (Cal pe_c Mak pe_mk)
structure Pair (r1 r2 : Raw) : Prop where
  o1 : r1.Ok
  o2 : r2.Ok
  g1 : r1.g.length ≤ 3
  g2 : r2.g.length ≤ 3
  k1 : r1.k.length ≤ 3
  k2 : r2.k.length ≤ 3
def Rjr : List D → D → Prop := fun ds d => ∃ r1 r2 : Raw, ds = [rawD r1, rawD r2] ∧ Pair r1 r2 ∧ r1.n ≤ 5 ∧ r2.n ≤ 4 ∧ r1.k.length = r2.g.length ∧ d = .bl true
structure Spr (k : Nat) (s : List Amt) : Prop where
  len : s.length = 2 ^ k
  nz : nzS s = true
  bd : ∀ x ∈ s, Bd 2 x
theorem xb_relD {K : PySem.W.Frag} {C : Hc} {Γ : Ctx} {t : TS} {n m : Nat} {Φ : D → Prop} {ds : List D} {ks : List Int} {i : Nat} {p : Addr} (h : Γ[i]? = some (.dic p ks ds)) (hk : XB K C t (Γ.set i (.dat (.dct ks ds))) n m Φ) : XB K C t Γ n m Φ := fun F H σ Z E hF hH q => hk F H σ Z (E.relD h) hF hH q
theorem zipD_prs : ∀ (l m : List Int), zipD (l.map D.int) (m.map D.int) = (l.zip m).map prD
  | [], _ => rfl
  | _ :: _, [] => rfl
  | a :: l, b :: m => by
    have h := zipD_prs l m
    unfold zipD at h ⊢
    simp only [List.map_cons, List.zip_cons_cons] at h ⊢
    first | rw [h] | (simp only [h]) | skip
    rfl
theorem prs_pln (l : List (Int × Int)) : plnAll (l.map prD) = true ∧ PyData.depthAll (pyAll (l.map prD)) ≤ 60 := by
  refine ⟨pln_mem.mpr fun d hd => ?_, dep_mem.mpr fun d hd => ?_⟩ <;> obtain ⟨p, _, rfl⟩ := List.mem_map.mp hd
  · rfl
  · exact Nat.le_of_ble_eq_true rfl
theorem Raw.tn {r : Raw} (h : r.Ok) : r.T.length ≤ r.n := by
  have h1 := h.t2.length_eq
  rw [List.length_map] at h1
  have h2 := lookd_length r.n r.k
  omega
theorem xe_spread {K : PySem.W.Frag} {C : Hc} {Γ : Ctx} {te : TE} {n k i : Nat} {X : XK} (hi : Γ[i]? = some (.at_ C.hp)) (h : DE K te Γ (.int (k : Int))) (hk : k ≤ 3) (hn : n + 70 ≤ 100000) : XE K C (tCall (spX K 1 70 RspreadL) [] X (tCons (tVar i) (tCons te tNil))) Γ n (n + 70) fun d => ∃ s, d = .lst (s.map amtD) ∧ Spr k s :=
  xe_draw hi (xa (da_cons h da_nil)) (fun ds hds => by
    subst hds
    refine ⟨rfl, ⟨_, k, List.replicate (2 ^ k) (Amt.num 1), rfl, hk, rfl, List.length_replicate, ?_, fun x hx => ?_⟩, fun d hd => ?_⟩
    · unfold nzS
      rw [List.any_eq_true]
      exact ⟨Amt.num 1, List.mem_replicate.mpr ⟨Nat.pos_iff_ne_zero.mp (Nat.two_pow_pos k), rfl⟩, by decide⟩
    · rw [List.eq_of_mem_replicate hx]
      exact ⟨by decide, by decide, by decide, by decide⟩
    · obtain ⟨k', s, e, _, rfl, h1, h2, h3⟩ := hd
      simp only [List.cons.injEq, D.int.injEq, and_true] at e
      have e : k = k' := by omega
      subst e
      exact ⟨s, rfl, h1, h2, h3⟩) hn
section
variable {P : Program} {w : World} {K : PySem.W.Frag} {mg : Str → Option Value} {base : Heap} {f : Addr} {fd : FuncData}
abbrev N_l_joined_right : List Str := ["_law_heap_here", "_law_one", "_law_other", "_law_thing", "_law_pairs", "_law_told", "_law_due", "_law_spread_here", "_law_first", "_law_second_here", "_law_falls", "_law_more", "_law_numbers", "_law_next_one", "_law_net_here", "_law_middle", "_law_turn", "_law_fall"]
theorem sc_l_joined_right : FnScope N_l_joined_right ["_law_heap_here", "_law_one", "_law_other"] (defScope (top 89)) := ⟨rfl, rfl, rfl, by decide +kernel, rfl, by decide +kernel, by decide +kernel⟩

theorem g_l_joined_right (F : FnP K "_law_joined_right" (top 89) f fd) (b : Bs K mg) (nf : NetF K) (q__law_sift : Cal P w K mg base 1 "_law_sift" (spX K 1 1 Rsift) []) (q__law_mixed : Cal P w K mg base 2 "_law_mixed" (spX K 1 20 Rmixed) []) (q__law_spread : Cal P w K mg base 2 "_law_spread" (spX K 1 70 RspreadL) []) (q__law_net : Cal P w K mg base 9 "_law_net" (spD K 1 RnetR) []) (q_joined_nets : Cal P w K mg base 9 "joined_nets" (spD K 2 Rjoin) []) (q_bare_end : Cal P w K mg base 6 "bare_end" (spD K 4 Rend) []) : FnG P w K mg base 11 f fd ["_law_heap_here", "_law_one", "_law_other"] (spX K 2 120 Rjr) := by
  refine fn_drawG F sc_l_joined_right rfl fun cdv A outer s H E g hr => ?_
  have hG : (cxOf C8.CX0 P w K mg base N_l_joined_right "_law_joined_right" (defScope (top 89)) f cdv A outer s H E).nox.A.guards = some [] := g
  have hu := room_u hr; have hu1 := room_u1 hr; have hu2 := room_u2 hr; have nd := sc_l_joined_right.nd
  refine ⟨_, (pss_cons (ps_par3 (i := 7) (j := 8) (l := 9) rfl nd rfl rfl rfl (by decide) (by decide) (by decide) rfl rfl rfl (pa_cons (pe_c q__law_spread hr (by decide) rfl (pa_cons (pv 0) (pa_cons (pe_callB call_len_seq rfl b.b_len PySem.boot_len (pa_cons (pe_ix ix_tup (pv 1) pe_int (fun _ _ => rfl)) pa_nil)) pa_nil))) (pa_cons (pe_lc (own := [("_law_thing", 3), ("_law_turn", 16)]) rfl nd (pi_list (pe_ix ix_tup (pv 1) pe_int (fun _ _ => rfl))) (blkOk_by (own := [("_law_thing", 3), ("_law_turn", 16)]) (N := N_l_joined_right) (sc := defScope (top 89)) (by decide +kernel)) (fun _ _ _ _ _ => (show PG _ _ (gTup K 2 _) from pg_tup rfl (pgs_cons (pg_name (i := 3) nd rfl (.inl rfl)) (pgs_cons (pg_name (i := 16) nd rfl (.inl rfl)) pgs_nil)))) (fun _ _ _ _ _ => pts_nil) (fun _ _ _ _ _ => (pv 3))) (pa_cons (pe_lc (own := [("_law_thing", 3), ("_law_turn", 16)]) rfl nd (pi_list (pe_ix ix_tup (pv 2) pe_int (fun _ _ => rfl))) (blkOk_by (own := [("_law_thing", 3), ("_law_turn", 16)]) (N := N_l_joined_right) (sc := defScope (top 89)) (by decide +kernel)) (fun _ _ _ _ _ => (show PG _ _ (gTup K 2 _) from pg_tup rfl (pgs_cons (pg_name (i := 3) nd rfl (.inl rfl)) (pgs_cons (pg_name (i := 16) nd rfl (.inl rfl)) pgs_nil)))) (fun _ _ _ _ _ => pts_nil) (fun _ _ _ _ _ => (pv 3))) pa_nil))) rfl) (pss_cons (ps_par (i := 10) (j := 11) rfl nd rfl rfl (by decide) rfl rfl (pa_cons (pe_lc (own := [("_law_thing", 3)]) rfl nd (pi_list (pv 8)) (blkOk_by (own := [("_law_thing", 3)]) (N := N_l_joined_right) (sc := defScope (top 89)) (by decide +kernel)) (fun _ _ _ _ _ => (pg_name (i := 3) nd rfl (.inl rfl))) (fun _ _ _ _ _ => pts_nil) (fun _ _ _ _ _ => (pe_c q__law_sift hr (by decide) rfl (pa_cons (pv 0) (pa_cons pe_int pa_nil))))) (pa_cons (pe_lc (own := [("_law_thing", 3)]) rfl nd (pi_list (pv 9)) (blkOk_by (own := [("_law_thing", 3)]) (N := N_l_joined_right) (sc := defScope (top 89)) (by decide +kernel)) (fun _ _ _ _ _ => (pg_name (i := 3) nd rfl (.inl rfl))) (fun _ _ _ _ _ => pts_nil) (fun _ _ _ _ _ => (pe_c q__law_sift hr (by decide) rfl (pa_cons (pv 0) (pa_cons pe_int pa_nil))))) pa_nil)) rfl) (pss_cons (ps_asg (pe_tup (pa_cons pe_dnewK (pa_cons (pe_ix ix_tup (pv 1) pe_int (fun _ _ => rfl)) pa_nil))) (pg_tup rfl (pgs_cons (pg_name (i := 12) nd rfl (.inr rfl)) (pgs_cons (pg_name (i := 13) nd rfl (.inl rfl)) pgs_nil)))) (pss_cons (ps_for PassesOwn.never rfl (pi_range1 rfl b.b_range (pa_cons (pe_ix ix_tup (pv 2) pe_int (fun _ _ => rfl)) pa_nil)) (pg_name (i := 3) nd rfl (.inl rfl)) (pss_cons (ps_dput hu1 (pv 12) (pv 3) (pe_ifExp (pt_cmpR op_in_seq (pv 3) (pe_ix ix_tup (pv 2) pe_int (fun _ _ => rfl)) rfl) (pe_ix ix_list (pe_ix ix_tup (pv 1) pe_int (fun _ _ => rfl)) (pe_bm PySem.F.plainAttrs_list PySem.F.slot_list_index PySem.F.type_list_index (show MtR _ "list.index" (rIndex K) from mt_index) (pe_ix ix_tup (pv 2) pe_int (fun _ _ => rfl)) (pa_cons (pv 3) pa_nil)) (fun _ _ => rfl)) (pv 13)) rfl) (pss_one (ps_set (i := 13) nd rfl (.inl rfl) (pe_op op_add (pv 13) (pe_callTy call_int1 rfl b.b_int PyProof.Rows.boot_int (pa_cons (pe_cmpR op_notIn_seq (pv 3) (pe_ix ix_tup (pv 2) pe_int (fun _ _ => rfl)) rfl) pa_nil))))))) (pss_cons (ps_par (i := 14) (j := 15) rfl nd rfl rfl (by decide) rfl rfl (pa_cons (pe_c q_joined_nets hr (by decide) rfl (pa_cons (pe_c q__law_net hr (by decide) rfl (pa_cons (pv 1) pa_nil)) (pa_cons (pe_c q__law_net hr (by decide) rfl (pa_cons (pv 2) pa_nil)) pa_nil))) (pa_cons (pe_c q_bare_end hr (by decide) rfl (pa_cons (pe_c q__law_net hr (by decide) rfl (pa_cons (pv 1) pa_nil)) (pa_cons (pv 7) (pa_cons (pv 8) (pa_cons (pv 10) pa_nil))))) pa_nil)) rfl) (pss_cons (ps_set (i := 4) nd rfl (.inl rfl) (pe_c q__law_mixed hr (by decide) rfl (pa_cons (pv 0) (pa_cons (pe_op op_catS (pe_listZip rfl rfl b.b_list rfl b.b_zip (pa_cons (pv 8) (pa_cons (pv 10) pa_nil))) (pe_lc (own := [("_law_thing", 3), ("_law_fall", 17)]) rfl nd (RZ.pi_zipA rfl b.b_zip (pa_cons (pv 9) (pa_cons (pv 11) pa_nil))) (blkOk_by (own := [("_law_thing", 3), ("_law_fall", 17)]) (N := N_l_joined_right) (sc := defScope (top 89)) (by decide +kernel)) (fun _ _ _ _ _ => (show PG _ _ (gTup K 2 _) from pg_tup rfl (pgs_cons (pg_name (i := 3) nd rfl (.inl rfl)) (pgs_cons (pg_name (i := 17) nd rfl (.inl rfl)) pgs_nil)))) (fun _ _ _ _ _ => pts_nil) (fun _ _ _ _ _ => (pe_tup (pa_cons (pe_dget hu1 (pv 12) (pv 3) (fun _ _ => rfl)) (pa_cons (pv 17) pa_nil)))))) pa_nil)))) (pss_cons (ps_set (i := 5) nd rfl (.inl rfl) (pe_c q_bare_end hr (by decide) rfl (pa_cons (pv 14) (pa_cons (pv 7) (pa_cons (pe_lc (own := [("_law_thing", 3), ("_law_fall", 17)]) rfl nd (pi_list (pv 4)) (blkOk_by (own := [("_law_thing", 3), ("_law_fall", 17)]) (N := N_l_joined_right) (sc := defScope (top 89)) (by decide +kernel)) (fun _ _ _ _ _ => (show PG _ _ (gTup K 2 _) from pg_tup rfl (pgs_cons (pg_name (i := 3) nd rfl (.inl rfl)) (pgs_cons (pg_name (i := 17) nd rfl (.inl rfl)) pgs_nil)))) (fun _ _ _ _ _ => pts_nil) (fun _ _ _ _ _ => (pv 3))) (pa_cons (pe_lc (own := [("_law_thing", 3), ("_law_fall", 17)]) rfl nd (pi_list (pv 4)) (blkOk_by (own := [("_law_thing", 3), ("_law_fall", 17)]) (N := N_l_joined_right) (sc := defScope (top 89)) (by decide +kernel)) (fun _ _ _ _ _ => (show PG _ _ (gTup K 2 _) from pg_tup rfl (pgs_cons (pg_name (i := 3) nd rfl (.inl rfl)) (pgs_cons (pg_name (i := 17) nd rfl (.inl rfl)) pgs_nil)))) (fun _ _ _ _ _ => pts_nil) (fun _ _ _ _ _ => (pv 17))) pa_nil)))))) (pss_cons (ps_set (i := 6) nd rfl (.inl rfl) (pe_ifExp (pt_cmpR op_isN (pv 15) pe_non (nomark _)) pe_non (pe_c q_bare_end hr (by decide) rfl (pa_cons (pe_c q__law_net hr (by decide) rfl (pa_cons (pv 2) pa_nil)) (pa_cons (pv 15) (pa_cons (pv 9) (pa_cons (pv 11) pa_nil))))))) (pss_one (ps_ret (pe_cmpR op_eq (pe_callB (call_repr hG hu) rfl b.b_repr PyProof.Rows.boot_repr (pa_cons (pv 5) pa_nil)) (pe_callB (call_repr hG hu) rfl b.b_repr PyProof.Rows.boot_repr (pa_cons (pv 6) pa_nil)) (nomark _)))))))))))), fun C n ds _ hR hn => ?_⟩
  obtain ⟨_, r1, r2, rfl, pr, n5, n4, hkg, _⟩ := hR
  have t1 := Raw.tn pr.o1
  have t2 := Raw.tn pr.o2
  let L1 := r1.T.map (·.1)
  let L2 := r2.T.map (·.1)
  have l1 : L1.length ≤ 5 := by rw [List.length_map]; omega
  have l2 : L2.length ≤ 4 := by rw [List.length_map]; omega
  refine xb_seq (m := n + 70) (xs_par3A (Θ := fun ds => ∃ s, ds = [.lst (s.map amtD), .lst (L1.map D.int), .lst (L2.map D.int)] ∧ Spr r1.g.length s) ((xa_cons (xe_spread rfl (DE.to (de_lenL (dl_of (de_ixT (du_of (de_var rfl)) de_int rfl))) (by rw [List.length_map])) pr.g1 (by omega)) (xa_cons (xe (de_ofN (dn_fst (T := r1.T) (di_list (de_ixT (du_of (de_var rfl)) de_int rfl)) (by omega) rfl rfl rfl rfl (fun _ => rfl) rfl (by decide) (by decide)))) (xa_cons (xe (de_ofN (dn_fst (T := r2.T) (di_list (de_ixT (du_of (de_var rfl)) de_int rfl)) (by omega) rfl rfl rfl rfl (fun _ => rfl) rfl (by decide) (by decide)))) xa_nil))).imp fun ds h => ?_) (fun ds h => ?_) rfl rfl (fun _ => rfl) rfl (fun _ _ => rfl) rfl) fun Γ1 h1 => ?_
  · obtain ⟨_, _, ⟨s, rfl, hs⟩, ⟨_, _, rfl, ⟨_, _, rfl, rfl, rfl⟩, rfl⟩, rfl⟩ := h
    exact ⟨s, rfl, hs⟩
  · obtain ⟨s, rfl, _⟩ := h
    rfl
  obtain ⟨_, _, _, ⟨s, e, hs⟩, rfl⟩ := h1
  cases e
  refine xb_seq (m := n + 80) (XS.le (m := n + 70 + L1.length + L2.length) (xs_parA (Θ := fun ds => ∃ F1 F2 : List Int, ds = [.lst (F1.map D.int), .lst (F2.map D.int)] ∧ F1.length = L1.length ∧ F2.length = L2.length ∧ (∀ x ∈ F1, 0 ≤ x ∧ x ≤ 1) ∧ ∀ x ∈ F2, 0 ≤ x ∧ x ≤ 1) ((xa_cons (xe_ofN (xn_sifts (L := L1) (di_list (de_var rfl)) (by omega) (by omega) rfl rfl rfl rfl (fun _ => rfl) (by decide))) (xa_cons (xe_ofN (xn_sifts (L := L2) (di_list (de_var rfl)) (by omega) (by omega) rfl rfl rfl rfl (fun _ => rfl) (by decide))) xa_nil)).imp fun ds h => ?_) (fun ds h => ?_) rfl rfl (fun _ => rfl) rfl) (by omega)) fun Γ1 h1 => ?_
  · obtain ⟨_, _, ⟨_, ⟨F1, rfl, a1, b1⟩, rfl⟩, ⟨_, _, ⟨_, ⟨F2, rfl, a2, b2⟩, rfl⟩, rfl, rfl⟩, rfl⟩ := h
    exact ⟨F1, F2, rfl, a1, a2, b1, b2⟩
  · obtain ⟨_, _, rfl, _⟩ := h
    rfl
  obtain ⟨_, _, ⟨F1, F2, e, fl1, fl2, fb1, fb2⟩, rfl⟩ := h1
  cases e
  refine xb_seq (xs_asgD (a := (r1.n : Int)) dnd_nil (de_ixT (du_of (de_var rfl)) de_int rfl) rfl rfl (fun _ => rfl) rfl) fun Γ1 h1 => ?_
  obtain ⟨pd, rfl⟩ := h1
  let N1 := r1.net
  let N2 := r2.net
  have ok1 : NetOk N1 := mkNet_ok pr.o1 (by omega)
  have ok2 : NetOk N2 := mkNet_ok pr.o2 (by omega)
  have hk : N1.kept.length = N2.given.length := hkg
  let ρ := rhoJ N1 N2
  have rg : ∀ (i : Nat), i ≤ r2.n → (lookd i r2.g).length ≤ i := fun i _ => lookd_length i r2.g
  refine xb_seq (xs (s_for (ds := (List.range r2.n).map fun i : Nat => D.int (i : Int)) (di_range1 (n := r2.n) (de_ixT (du_of (de_var rfl)) de_int rfl) (by omega)) (fun i => [.at_ C.hp, .dat (rawD r1), .dat (rawD r2), .no, .no, .no, .no, .dat (.lst (s.map amtD)), .dat (.lst (L1.map D.int)), .dat (.lst (L2.map D.int)), .dat (.lst (F1.map D.int)), .dat (.lst (F2.map D.int)), .dic pd (rng i) ((rng i).map fun t => .int (ρ t)), .dat (.int ((r1.n : Int) + ((lookd i r2.g).length : Nat))), .no, .no, .no, .no]) ?_ (fun _ _ => rfl) fun i d hd => ?_)) fun Γ1 h1 => ?_
  · congr 1
  · have hi : i < r2.n := by
      have := (List.getElem?_eq_some_iff.mp hd).1
      simpa using this
    rw [List.getElem?_map, List.getElem?_range hi] at hd
    cases hd
    have hiN : (i : Int) ∉ rng i := fun z => by
      have := rng_mem.mp z
      omega
    have e1 : rng (i + 1) = rng i ++ [(i : Int)] := by
      unfold rng
      rw [List.range_succ, List.map_append]
      rfl
    have ri : (rng i).length = i := rng_length i
    refine ⟨_, _, dg_name rfl rfl, s_forget (i := 3) (Γ1 := [.at_ C.hp, .dat (rawD r1), .dat (rawD r2), .dat (.int (i : Int)), .no, .no, .no, .dat (.lst (s.map amtD)), .dat (.lst (L1.map D.int)), .dat (.lst (L2.map D.int)), .dat (.lst (F1.map D.int)), .dat (.lst (F2.map D.int)), .dic pd (rng (i + 1)) ((rng (i + 1)).map fun t => .int (ρ t)), .dat (.int ((r1.n : Int) + ((lookd (i + 1) r2.g).length : Nat))), .no, .no, .no, .no]) (s_seq (s_dputO (d := .int (ρ (i : Int))) rfl (de_if (b := decide ((i : Int) ∈ r2.g)) (dt_test (de_inL (neg := false) (ns := r2.g) (de_var rfl) (dl_of (de_ixT (du_of (de_var rfl)) de_int rfl)))) (fun z => ?_) fun z => ?_) (de_var rfl) hiN (by omega)) (St.to (s_set (d := .int ((r1.n : Int) + ((lookd (i + 1) r2.g).length : Nat))) (DE.to (de_add (de_var rfl) (de_int1b (de_inL (neg := true) (ns := r2.g) (de_var rfl) (dl_of (de_ixT (du_of (de_var rfl)) de_int rfl))))) ?_) rfl rfl) ?_)) rfl rfl⟩
    · have hm : (i : Int) ∈ r2.g := of_decide_eq_true z
      have hx : r2.g.idxOf (i : Int) < r1.k.length := by
        rw [hkg]
        exact List.idxOf_lt_length_of_mem hm
      refine de_ixL (dl_of (de_ixT (du_of (de_var rfl)) de_int rfl)) (de_idxL (ns := r2.g) (dl_of (de_ixT (du_of (de_var rfl)) de_int rfl)) (de_var rfl) hm) (atI_nat rfl ?_)
      have e2 : ρ (i : Int) = r1.k[r2.g.idxOf (i : Int)] := by
        show rhoJ N1 N2 (i : Int) = _
        unfold rhoJ
        rw [if_pos (show (i : Int) ∈ N2.given from hm)]
        show r1.k.getD (r2.g.idxOf (i : Int)) 0 = _
        rw [List.getD_eq_getElem?_getD, List.getElem?_eq_getElem hx]
        rfl
      rw [List.getElem?_map, List.getElem?_eq_getElem hx, e2]
      rfl
    · have hg : (i : Int) ∉ r2.g := of_decide_eq_false z
      refine DE.to (de_var rfl) ?_
      have hm : (i : Int) ∈ restL N2 := lookd_mem.mpr ⟨⟨by omega, by show (i : Int) < (r2.n : Int); omega⟩, hg⟩
      have e2 : ρ (i : Int) = (r1.n : Int) + (((lookd i r2.g).length : Nat) : Int) := by
        show rhoJ N1 N2 (i : Int) = _
        unfold rhoJ
        rw [if_neg (show (i : Int) ∉ N2.given from hg), if_pos hm]
        show (r1.n : Int) + (((lookd r2.n r2.g).idxOf (i : Int) : Nat) : Int) = _
        rw [lookd_idx hi hg]
      rw [e2]
    · rw [lookd_succ, List.length_append]
      congr 1
      by_cases hg : (i : Int) ∈ r2.g
      · simp [hg]
      · simp [hg]
        omega
    · rw [e1, List.map_append]
      rfl
  rw [List.length_map, List.length_range] at h1
  subst h1
  refine xb_relD (i := 12) rfl ?_
  let ps1 := L1.zip F1
  let ps2 := L2.zip F2
  have p11 : ps1.map (·.1) = L1 := List.map_fst_zip (by omega)
  have p12 : ps1.map (·.2) = F1 := List.map_snd_zip (by omega)
  have p21 : ps2.map (·.1) = L2 := List.map_fst_zip (by omega)
  have p22 : ps2.map (·.2) = F2 := List.map_snd_zip (by omega)
  have a1 : AskOk N1 s ps1 2 := ⟨ok1, hs.len, ⟨⟨r1.g.length, by have := pr.g1; omega, hs.len⟩, hs.nz⟩, hs.bd, by decide, by decide, by rw [p11]; exact pr.o1.t2, fun p hp => fb1 p.2 (List.of_mem_zip hp).2⟩
  have o2 : (ps2.map (·.1)).Perm (lookd N2.things N2.kept) := by
    rw [p21]
    exact pr.o2.t2
  have f2 : ∀ p ∈ ps2, 0 ≤ p.2 ∧ p.2 ≤ 1 := fun p hp => fb2 p.2 (List.of_mem_zip hp).2
  have s1 : N1.strings.Nodup := (sortP_perm _).nodup_iff.mpr pr.o1.s2
  have s2 : N2.strings.Nodup := (sortP_perm _).nodup_iff.mpr pr.o2.s2
  have h9 : N1.things + (N2.things - N2.given.length) ≤ 9 := by
    show r1.n + (r2.n - r2.g.length) ≤ 9
    omega
  have oJ := join_ok ok1 ok2 s1 s2 hk h9
  refine xb_seq (xs (s_par (d1 := netD (joinN N1 N2)) (d2 := endD (outS N1 s ps1) (nzS (lastS N1 s ps1))) (da_cons (de_call (da_cons (de_call (da_cons (de_var rfl) da_nil) rfl ⟨r1, rfl, pr.o1, rfl⟩) (da_cons (de_call (da_cons (de_var rfl) da_nil) rfl ⟨r2, rfl, pr.o2, rfl⟩) da_nil)) rfl ⟨N1, N2, rfl, ok1, ok2, hk, oJ, rfl⟩) (da_cons (de_call (da_cons (de_call (da_cons (de_var rfl) da_nil) rfl ⟨r1, rfl, pr.o1, rfl⟩) (da_cons (de_var rfl) (da_cons (de_var rfl) (da_cons (de_var rfl) da_nil)))) rfl ⟨N1, _, s, ps1, 2, by rw [p11, p12], .inl rfl, a1, rfl⟩) da_nil)) rfl rfl rfl rfl)) fun Γ1 h1 => ?_
  subst h1
  let q0 : List (Int × Int) := ps1 ++ ps2.map fun p => (ρ p.1, p.2)
  have z1 : ps1.length ≤ 5 := by rw [List.length_zip]; omega
  have z2 : ps2.length ≤ 4 := by rw [List.length_zip]; omega
  refine xb_seq (m := n + 100) (xs_set (Φ := fun d => ∃ qs : List (Int × Int), d = .lst (qs.map prD) ∧ qs.Perm q0) (xe_draw (n := n + 80) rfl (xa (ds := [.lst (q0.map prD)]) (da_cons (de_ofN (DN.to (dn_cat (dl_ofN (DN.to (dn_zipL (de_var rfl) (de_var rfl)) (zipD_prs L1 F1))) (dl_ofN (dn_lcY (as := ps2) (em := prD) (gv := fun p : Int × Int => prD (ρ p.1, p.2)) (DI.to (di_zipL (de_var rfl) (de_var rfl)) (zipD_prs L2 F2)) rfl rfl (fun p _ => dg_pair (p := (.int p.1, .int p.2)) rfl rfl rfl rfl rfl) (by decide) (fun p hp => ?_) (by omega))) (by simp only [List.length_map]; exact Nat.le_trans (Nat.add_le_add z1 z2) (by decide))) (by rw [List.map_append, List.map_map] <;> rfl))) da_nil)) (fun ds hds => ?_) (by omega)) rfl rfl) fun Γ1 h1 => ?_
  · have hm := o2.mem_iff.mp (List.mem_map.mpr ⟨p, hp, rfl⟩)
    have h3 := (lookd_mem.mp hm).1
    have h4 : p.1 < (r2.n : Int) := h3.2
    refine de_tup (da_cons (de_dget (i := p.1.toNat) (de_var rfl) (de_var rfl) (rng_nodup _) ?_ ?_) (da_cons (de_var rfl) da_nil)) (Nat.le_of_ble_eq_true rfl)
    · rw [rng_get (by omega)]
      congr 1
      omega
    · rw [List.getElem?_map, rng_get (by omega)]
      show some (D.int (ρ _)) = _
      congr 3
      omega
  · subst hds
    refine ⟨rfl, ⟨_, _, _, rfl, by rw [List.length_map, List.length_append, List.length_map]; omega, (prs_pln q0).1, (prs_pln q0).2, rfl, List.Perm.refl _⟩, fun d hd => ?_⟩
    obtain ⟨es, fs, e, _, _, _, rfl, hp⟩ := hd
    simp only [List.cons.injEq, D.lst.injEq, and_true] at e
    obtain ⟨qs, rfl, hq⟩ := perm_prs hp e.symm
    exact ⟨qs, rfl, hq⟩
  obtain ⟨_, ⟨qs, rfl, hq⟩, rfl⟩ := h1
  have ql : qs.length ≤ 9 := by
    rw [hq.length_eq, List.length_append, List.length_map]
    omega
  have aJ : AskOk (joinN N1 N2) s qs 2 := join_ask a1 ok2 s1 s2 hk h9 o2 f2 hq
  refine xb_seq (xs_set (xe (d := endD (outS (joinN N1 N2) s qs) (nzS (lastS (joinN N1 N2) s qs))) (de_call (da_cons (de_var rfl) (da_cons (de_var rfl) (da_cons (de_ofN (dn_fst (T := qs) (di_list (de_var rfl)) (by omega) rfl rfl rfl rfl (fun _ => rfl) rfl (by decide) (by decide))) (da_cons (de_ofN (dn_snd (T := qs) (di_list (de_var rfl)) (by omega) rfl rfl rfl rfl (fun _ => rfl) rfl (by decide) (by decide))) da_nil)))) rfl ⟨joinN N1 N2, _, s, qs, 2, rfl, .inl rfl, aJ, rfl⟩)) rfl rfl) fun Γ1 h1 => ?_
  obtain ⟨_, rfl, rfl⟩ := h1
  refine xb_seq (xs_set (xe (d := endD (outS (joinN N1 N2) s qs) (nzS (lastS (joinN N1 N2) s qs))) ?_) rfl rfl) fun Γ1 h1 => ?_
  · cases hz : nzS (lastS N1 s ps1) with
    | false =>
      have e5 := join_none a1 ok2 s1 s2 hk h9 o2 f2 hq hz
      rw [e5, endD_no, endD_no]
      exact de_if (b := true) (dt_test (de_isN (d := .non) (de_var rfl) fun K H v h => by
        cases h
        rfl)) (fun _ => de_non) fun z => nomatch z
    | true =>
      have ho : nzS (outS N1 s ps1) = true := by rw [out_nz a1]; exact hz
      have a2 : AskOk N2 (plainS (outS N1 s ps1)) ps2 50 := ⟨ok2, by rw [plain_length, out_len a1, hk], ⟨⟨N1.kept.length, by have := a1.klen; omega, by rw [plain_length, out_len a1]⟩, plain_nz ho⟩, plain_bd ho (out_bd a1), by decide, by decide, o2, f2⟩
      rw [endD_yes]
      exact de_if (b := false) (dt_test (de_isN (d := spr (plainS (outS N1 s ps1))) (de_var rfl) fun K H v h => by
        cases h
        rfl)) (fun z => nomatch z) fun _ => DE.to (de_call (da_cons (de_call (da_cons (de_var rfl) da_nil) rfl ⟨r2, rfl, pr.o2, rfl⟩) (da_cons (de_var rfl) (da_cons (de_var rfl) (da_cons (de_var rfl) da_nil)))) rfl ⟨N2, spr (plainS (outS N1 s ps1)), plainS (outS N1 s ps1), ps2, 50, by rw [p21, p22] <;> rfl, .inr rfl, a2, rfl⟩) (join_some a1 ok2 s1 s2 hk h9 a2 hq hz)
  obtain ⟨_, rfl, rfl⟩ := h1
  exact XB.le ((xb (b_ret (de_reprEq (n := 50) (de_var rfl) (de_var rfl) (by decide) (fun z => plain_bd (by rw [out_nz aJ]; exact z) (out_bd aJ)) (by rw [out_len aJ]; exact Nat.le_trans (pow9 aJ.klen) (by decide))))).imp fun d h => ⟨r1, r2, rfl, pr, n5, n4, hkg, h⟩) (by omega)

end
end Lk
set_option maxHeartbeats 1000000
namespace Lk
open PySem PySem.Spec PyProof.Rows L2
open Evl (Ex)
open C8 (Cal pe_c Mak pe_mk)
def Rar : List D → D → Prop := fun ds d => ∃ r1 r2 : Raw, ds = [rawD r1, rawD r2] ∧ Pair r1 r2 ∧ r1.n ≤ 3 ∧ r2.n ≤ 3 ∧ d = .bl true
theorem de_inD {K : PySem.W.Frag} {Γ : Ctx} {ta tb : TE} {d : D} {es : List D} {b : Bool} (ha : DE K ta Γ d) (hb : DE K tb Γ (.lst es)) (p1 : pln d = true) (p2 : plnAll es = true) (d1 : (py d).depth ≤ 64) (d2 : PyData.depthAll (pyAll es) ≤ 63) (hv : ((pyAll es).any fun z => PyData.eqv z (py d)) = b) : DE K (tOp (rInD K) ta tb) Γ (.bl b) := fun F H σ E Q q =>
  ha F H σ E _ fun v H1 e1 i1 => hb F H1 σ (E.mono e1) _ fun u H2 e2 i2 => by
    have p3 : pln (D.lst es) = true := by unfold pln; exact p2
    have e3 : py (.lst es) = .list (pyAll es) := by rw [py]
    have z := (i2.mono hid_le).dp p3
    rw [e3] at z
    refine ⟨py d, pyAll es, ((i1.mono (hid_mono e2)).mono hid_le).dp p1, z, shaped_of p1 d1, ?_, q _ H2 (e1.trans e2) (by rw [hv]; exact .bl b)⟩
    rw [← e3]
    refine shaped_of p3 ?_
    rw [e3]
    unfold PyData.depth
    omega
def lenD (s : List Amt) : D := .tup ([lenP s, lenQ s].map D.int)
theorem lens_last {N : NetM} {s : List Amt} {ps : List (Int × Int)} {n : Nat} (a : AskOk N s ps n) : L2.atI ((allS N s ps).1.map fun s => D.tup [.int (lenP s), .int (lenQ s)]) (-1) = some (lenD (lastS N s ps)) := by
  obtain ⟨l, h⟩ := (run_end a).last
  have e : (allS N s ps).1 = l ++ [lastS N s ps] := h
  rw [e, List.map_append]
  exact atI_last
theorem nat_pq {a b n : Nat} (h1 : a < 2 ^ n) (h2 : b < 2 ^ n) : a * b < 2 ^ (2 * n) := by
  have h := Nat.mul_lt_mul'' h1 h2
  rwa [← Nat.pow_add, ← Nat.two_mul] at h
theorem amt_pq {n : Nat} {x : Amt} (h : Bd n x) : x.p.natAbs ≤ 4 * 2 ^ (2 * n) ∧ x.q.natAbs ≤ 4 * 2 ^ (2 * n) := by
  have f : ∀ {i j : Int}, i.natAbs < 2 ^ n → j.natAbs < 2 ^ n → (i * j).natAbs < 2 ^ (2 * n) := fun h1 h2 => by
    rw [Int.natAbs_mul]
    exact nat_pq h1 h2
  have a1 := f h.a h.a
  have a2 := f h.b h.b
  have a3 := f h.c h.c
  have a4 := f h.d h.d
  have b1 := f h.a h.b
  have b2 := f h.b h.c
  have b3 := f h.c h.d
  have b4 := f h.d h.a
  unfold Amt.p Amt.q
  constructor <;> omega
theorem len_pq {n : Nat} : ∀ {s : List Amt}, (∀ x ∈ s, Bd n x) → (lenP s).natAbs ≤ s.length * (4 * 2 ^ (2 * n)) ∧ (lenQ s).natAbs ≤ s.length * (4 * 2 ^ (2 * n))
  | [], _ => ⟨Nat.zero_le _, Nat.zero_le _⟩
  | x :: s, h => by
    obtain ⟨h1, h2⟩ := amt_pq (h x (List.mem_cons_self ..))
    obtain ⟨h3, h4⟩ := len_pq fun y hy => h y (List.mem_cons_of_mem _ hy)
    have e1 : lenP (x :: s) = x.p + lenP s := rfl
    have e2 : lenQ (x :: s) = x.q + lenQ s := rfl
    rw [e1, e2, List.length_cons, Nat.succ_mul]
    constructor <;> omega
theorem last_pq {N : NetM} {s : List Amt} {ps : List (Int × Int)} {n : Nat} (a : AskOk N s ps n) (hn : n ≤ 10) : (lenP (lastS N s ps)).natAbs < 2 ^ 50 ∧ (lenQ (lastS N s ps)).natAbs < 2 ^ 50 := by
  obtain ⟨h1, h2⟩ := len_pq (last_bd a)
  have h3 : (lastS N s ps).length ≤ 512 := by
    rw [last_len a]
    exact pow9 a.klen
  have h4 : 2 ^ (2 * (n + 9)) ≤ 2 ^ 38 := Nat.pow_le_pow_right (by decide) (by omega)
  have h5 : (lastS N s ps).length * (4 * 2 ^ (2 * (n + 9))) ≤ 512 * (4 * 2 ^ 38) := Nat.mul_le_mul h3 (Nat.mul_le_mul_left _ h4)
  have h6 : 512 * (4 * 2 ^ 38) < 2 ^ 50 := by decide
  omega
theorem spr_pln (s : List Amt) : pln (spr s) = true ∧ (py (spr s)).depth ≤ 3 := by
  refine ⟨?_, ?_⟩
  · unfold spr pln
    refine pln_mem.mpr fun d hd => ?_
    obtain ⟨x, _, rfl⟩ := List.mem_map.mp hd
    exact plnA x
  · unfold spr py PyData.depth
    have : PyData.depthAll (pyAll (s.map amtD)) ≤ 2 := dep_mem.mpr fun d hd => by
      obtain ⟨x, _, rfl⟩ := List.mem_map.mp hd
      exact Nat.le_of_ble_eq_true rfl
    omega
theorem endD_pln (o : List Amt) (b : Bool) : pln (endD o b) = true ∧ (py (endD o b)).depth ≤ 3 := by
  cases b with
  | false =>
    rw [endD_no]
    exact ⟨rfl, Nat.le_of_ble_eq_true rfl⟩
  | true =>
    rw [endD_yes]
    exact spr_pln _
theorem eqv_spr (s : List Amt) : PyData.eqv (py (spr s)) (py .non) = false := by
  unfold spr
  rw [py, py, PyData.eqv]
theorem none_in (o1 o2 : List Amt) (b1 b2 : Bool) : ((pyAll [endD o1 b1, endD o2 b2]).any fun z => PyData.eqv z (py .non)) = !(b1 && b2) := by
  have e : ∀ (o : List Amt) (b : Bool), PyData.eqv (py (endD o b)) (py .non) = !b := fun o b => by
    cases b with
    | false =>
      rw [endD_no, py, PyData.eqv]
      rfl
    | true =>
      rw [endD_yes]
      exact eqv_spr _
  rw [pyAll, pyAll, pyAll, List.any_cons, List.any_cons, List.any_nil, e, e]
  cases b1 <;> cases b2 <;> rfl
theorem isN_end {o : List Amt} {b : Bool} : ∀ K H v, Is K H v (endD o b) → decide (v = V.non) = !b := fun K H v h => by
  cases b with
  | false =>
    rw [endD_no] at h
    cases h
    rfl
  | true =>
    rw [endD_yes] at h
    cases h
    rfl
section
variable {P : Program} {w : World} {K : PySem.W.Frag} {mg : Str → Option Value} {base : Heap} {f : Addr} {fd : FuncData}
abbrev N_l_aside_right : List Str := ["_law_heap_here", "_law_one", "_law_other", "_law_ends", "_law_told", "_law_spread_here", "_law_its", "_law_first", "_law_second_here", "_law_falls", "_law_more", "_law_order", "_law_row", "_law_net_here", "_law_both", "_law_a", "_law_b", "_law_c", "_law_d", "_law_thing", "_law_turn"]
theorem sc_l_aside_right : FnScope N_l_aside_right ["_law_heap_here", "_law_one", "_law_other"] (defScope (top 90)) := ⟨rfl, rfl, rfl, by decide +kernel, rfl, by decide +kernel, by decide +kernel⟩

theorem g_l_aside_right (F : FnP K "_law_aside_right" (top 90) f fd) (b : Bs K mg) (nf : NetF K) (q__law_sift : Cal P w K mg base 1 "_law_sift" (spX K 1 1 Rsift) []) (q__law_spread : Cal P w K mg base 2 "_law_spread" (spX K 1 70 RspreadL) []) (q__law_net : Cal P w K mg base 9 "_law_net" (spD K 1 RnetR) []) (q_aside_nets : Cal P w K mg base 9 "aside_nets" (spD K 2 Raside) []) (q_bare_end : Cal P w K mg base 6 "bare_end" (spD K 4 Rend) []) (q_bare_lengths : Cal P w K mg base 6 "bare_lengths" (spD K 4 Rlens) []) (q_beside : Cal P w K mg base 5 "beside" (spD K 2 Rbeside) []) (q_plain_form : Cal P w K mg base 5 "plain_form" (spD K 1 Rform) []) : FnG P w K mg base 11 f fd ["_law_heap_here", "_law_one", "_law_other"] (spX K 2 160 Rar) := by
  refine fn_drawG F sc_l_aside_right rfl fun cdv A outer s H E g hr => ?_
  have hG : (cxOf C8.CX0 P w K mg base N_l_aside_right "_law_aside_right" (defScope (top 90)) f cdv A outer s H E).nox.A.guards = some [] := g
  have hu := room_u hr; have hu1 := room_u1 hr; have hu2 := room_u2 hr; have nd := sc_l_aside_right.nd
  refine ⟨_, (pss_cons (ps_par (i := 5) (j := 6) rfl nd rfl rfl (by decide) rfl rfl (pa_cons (pe_c q__law_spread hr (by decide) rfl (pa_cons (pv 0) (pa_cons (pe_callB call_len_seq rfl b.b_len PySem.boot_len (pa_cons (pe_ix ix_tup (pv 1) pe_int (fun _ _ => rfl)) pa_nil)) pa_nil))) (pa_cons (pe_c q__law_spread hr (by decide) rfl (pa_cons (pv 0) (pa_cons (pe_callB call_len_seq rfl b.b_len PySem.boot_len (pa_cons (pe_ix ix_tup (pv 2) pe_int (fun _ _ => rfl)) pa_nil)) pa_nil))) pa_nil)) rfl) (pss_cons (ps_par (i := 7) (j := 8) rfl nd rfl rfl (by decide) rfl rfl (pa_cons (pe_lc (own := [("_law_thing", 19), ("_law_turn", 20)]) rfl nd (pi_list (pe_ix ix_tup (pv 1) pe_int (fun _ _ => rfl))) (blkOk_by (own := [("_law_thing", 19), ("_law_turn", 20)]) (N := N_l_aside_right) (sc := defScope (top 90)) (by decide +kernel)) (fun _ _ _ _ _ => (show PG _ _ (gTup K 2 _) from pg_tup rfl (pgs_cons (pg_name (i := 19) nd rfl (.inl rfl)) (pgs_cons (pg_name (i := 20) nd rfl (.inl rfl)) pgs_nil)))) (fun _ _ _ _ _ => pts_nil) (fun _ _ _ _ _ => (pv 19))) (pa_cons (pe_lc (own := [("_law_thing", 19), ("_law_turn", 20)]) rfl nd (pi_list (pe_ix ix_tup (pv 2) pe_int (fun _ _ => rfl))) (blkOk_by (own := [("_law_thing", 19), ("_law_turn", 20)]) (N := N_l_aside_right) (sc := defScope (top 90)) (by decide +kernel)) (fun _ _ _ _ _ => (show PG _ _ (gTup K 2 _) from pg_tup rfl (pgs_cons (pg_name (i := 19) nd rfl (.inl rfl)) (pgs_cons (pg_name (i := 20) nd rfl (.inl rfl)) pgs_nil)))) (fun _ _ _ _ _ => pts_nil) (fun _ _ _ _ _ => (pv 19))) pa_nil)) rfl) (pss_cons (ps_par (i := 9) (j := 10) rfl nd rfl rfl (by decide) rfl rfl (pa_cons (pe_lc (own := [("_law_thing", 19)]) rfl nd (pi_list (pv 7)) (blkOk_by (own := [("_law_thing", 19)]) (N := N_l_aside_right) (sc := defScope (top 90)) (by decide +kernel)) (fun _ _ _ _ _ => (pg_name (i := 19) nd rfl (.inl rfl))) (fun _ _ _ _ _ => pts_nil) (fun _ _ _ _ _ => (pe_c q__law_sift hr (by decide) rfl (pa_cons (pv 0) (pa_cons pe_int pa_nil))))) (pa_cons (pe_lc (own := [("_law_thing", 19)]) rfl nd (pi_list (pv 8)) (blkOk_by (own := [("_law_thing", 19)]) (N := N_l_aside_right) (sc := defScope (top 90)) (by decide +kernel)) (fun _ _ _ _ _ => (pg_name (i := 19) nd rfl (.inl rfl))) (fun _ _ _ _ _ => pts_nil) (fun _ _ _ _ _ => (pe_c q__law_sift hr (by decide) rfl (pa_cons (pv 0) (pa_cons pe_int pa_nil))))) pa_nil)) rfl) (pss_cons (ps_par (i := 11) (j := 12) rfl nd rfl rfl (by decide) rfl rfl (pa_cons (pe_op op_catS (pv 7) (pe_lc (own := [("_law_thing", 19)]) rfl nd (pi_list (pv 8)) (blkOk_by (own := [("_law_thing", 19)]) (N := N_l_aside_right) (sc := defScope (top 90)) (by decide +kernel)) (fun _ _ _ _ _ => (pg_name (i := 19) nd rfl (.inl rfl))) (fun _ _ _ _ _ => pts_nil) (fun _ _ _ _ _ => (pe_op op_add (pv 19) (pe_ix (show IxR _ (rIxT K) from ix_tup) (pv 1) pe_int (fun _ _ => rfl)))))) (pa_cons (pe_op op_catS (pv 9) (pv 10)) pa_nil)) rfl) (pss_cons (ps_par (i := 13) (j := 14) rfl nd rfl rfl (by decide) rfl rfl (pa_cons (pe_c q_aside_nets hr (by decide) rfl (pa_cons (pe_c q__law_net hr (by decide) rfl (pa_cons (pv 1) pa_nil)) (pa_cons (pe_c q__law_net hr (by decide) rfl (pa_cons (pv 2) pa_nil)) pa_nil))) (pa_cons (pe_c q_beside hr (by decide) rfl (pa_cons (pv 5) (pa_cons (pv 6) pa_nil))) pa_nil)) rfl) (pss_cons (ps_set (i := 3) nd rfl (.inl rfl) (pe_lst (pa_cons (pe_c q_bare_end hr (by decide) rfl (pa_cons (pe_c q__law_net hr (by decide) rfl (pa_cons (pv 1) pa_nil)) (pa_cons (pv 5) (pa_cons (pv 7) (pa_cons (pv 9) pa_nil))))) (pa_cons (pe_c q_bare_end hr (by decide) rfl (pa_cons (pe_c q__law_net hr (by decide) rfl (pa_cons (pv 2) pa_nil)) (pa_cons (pv 6) (pa_cons (pv 8) (pa_cons (pv 10) pa_nil))))) pa_nil)))) (pss_cons (ps_set (i := 4) nd rfl (.inl rfl) (pe_c q_bare_end hr (by decide) rfl (pa_cons (pv 13) (pa_cons (pv 14) (pa_cons (pv 11) (pa_cons (pv 12) pa_nil)))))) (pss_cons (ps_if (pt_cmpR (op_inD hu2) pe_non (pv 3) rfl) (pss_one (ps_ret (pe_and (pe_cmpR op_isN (pv 4) pe_non (nomark _)) (pe_one (pe_cmpR (op_eqD hu) (pe_ix ix_tup (pe_c q_bare_lengths hr (by decide) rfl (pa_cons (pv 13) (pa_cons (pv 14) (pa_cons (pv 11) (pa_cons (pv 12) pa_nil))))) (pe_un un_neg pe_int) (fun _ _ => rfl)) (pe_tup (pa_cons pe_int (pa_cons pe_int pa_nil))) (nomark _)))))) pss_nil) (pss_cons (ps_asg (pe_tup (pa_cons (pe_ix ix_tup (pe_c q_bare_lengths hr (by decide) rfl (pa_cons (pe_c q__law_net hr (by decide) rfl (pa_cons (pv 1) pa_nil)) (pa_cons (pv 5) (pa_cons (pv 7) (pa_cons (pv 9) pa_nil))))) (pe_un un_neg pe_int) (fun _ _ => rfl)) (pa_cons (pe_ix ix_tup (pe_c q_bare_lengths hr (by decide) rfl (pa_cons (pe_c q__law_net hr (by decide) rfl (pa_cons (pv 2) pa_nil)) (pa_cons (pv 6) (pa_cons (pv 8) (pa_cons (pv 10) pa_nil))))) (pe_un un_neg pe_int) (fun _ _ => rfl)) pa_nil))) (pg_tup rfl (pgs_cons (pg_tup rfl (pgs_cons (pg_name (i := 15) nd rfl (.inl rfl)) (pgs_cons (pg_name (i := 16) nd rfl (.inl rfl)) pgs_nil))) (pgs_cons (pg_tup rfl (pgs_cons (pg_name (i := 17) nd rfl (.inl rfl)) (pgs_cons (pg_name (i := 18) nd rfl (.inl rfl)) pgs_nil))) pgs_nil)))) (pss_cons (ps_if (pt_cmpR (op_neD hu) (pe_ix ix_tup (pe_c q_bare_lengths hr (by decide) rfl (pa_cons (pv 13) (pa_cons (pv 14) (pa_cons (pv 11) (pa_cons (pv 12) pa_nil))))) (pe_un un_neg pe_int) (fun _ _ => rfl)) (pe_tup (pa_cons (pe_op op_add (pe_op op_mulW (pv 15) (pv 17)) (pe_op op_mulW (pe_op op_mulW pe_int (pv 16)) (pv 18))) (pa_cons (pe_op op_add (pe_op op_mulW (pv 15) (pv 18)) (pe_op op_mulW (pv 16) (pv 17))) pa_nil))) (nomark _)) (pss_one (ps_ret pe_bl)) pss_nil) (pss_one (ps_ret (pe_cmpR op_eq (pe_callB (call_repr hG hu) rfl b.b_repr PyProof.Rows.boot_repr (pa_cons (pv 4) pa_nil)) (pe_callB (call_repr hG hu) rfl b.b_repr PyProof.Rows.boot_repr (pa_cons (pe_c q_plain_form hr (by decide) rfl (pa_cons (pe_c q_beside hr (by decide) rfl (pa_cons (pe_ix ix_list (pv 3) pe_int (fun _ _ => rfl)) (pa_cons (pe_ix ix_list (pv 3) pe_int (fun _ _ => rfl)) pa_nil))) pa_nil)) pa_nil)) (nomark _)))))))))))))), fun C n ds _ hR hn => ?_⟩
  obtain ⟨_, r1, r2, rfl, pr, n1, n2, _⟩ := hR
  have t1 := Raw.tn pr.o1
  have t2 := Raw.tn pr.o2
  let L1 := r1.T.map (·.1)
  let L2 := r2.T.map (·.1)
  have l1 : L1.length ≤ 3 := by rw [List.length_map]; omega
  have l2 : L2.length ≤ 3 := by rw [List.length_map]; omega
  refine xb_seq (m := n + 140) (xs_parA (Θ := fun ds => ∃ s t, ds = [.lst (s.map amtD), .lst (t.map amtD)] ∧ Spr r1.g.length s ∧ Spr r2.g.length t) ((xa_cons (xe_spread rfl (DE.to (de_lenL (dl_of (de_ixT (du_of (de_var rfl)) de_int rfl))) (by rw [List.length_map])) pr.g1 (by omega)) (xa_cons (xe_spread rfl (DE.to (de_lenL (dl_of (de_ixT (du_of (de_var rfl)) de_int rfl))) (by rw [List.length_map])) pr.g2 (by omega)) xa_nil)).imp fun ds h => ?_) (fun ds h => ?_) rfl rfl (fun _ => rfl) rfl) fun Γ1 h1 => ?_
  · obtain ⟨_, _, ⟨s, rfl, hs⟩, ⟨_, _, ⟨t, rfl, ht⟩, rfl, rfl⟩, rfl⟩ := h
    exact ⟨s, t, rfl, hs, ht⟩
  · obtain ⟨s, t, rfl, _⟩ := h
    rfl
  obtain ⟨_, _, ⟨s, t, e, hs, ht⟩, rfl⟩ := h1
  cases e
  refine xb_seq (xs (s_par (d1 := .lst (L1.map D.int)) (d2 := .lst (L2.map D.int)) (da_cons (de_ofN (dn_fst (T := r1.T) (di_list (de_ixT (du_of (de_var rfl)) de_int rfl)) (by omega) rfl rfl rfl rfl (fun _ => rfl) rfl (by decide) (by decide))) (da_cons (de_ofN (dn_fst (T := r2.T) (di_list (de_ixT (du_of (de_var rfl)) de_int rfl)) (by omega) rfl rfl rfl rfl (fun _ => rfl) rfl (by decide) (by decide))) da_nil)) rfl rfl rfl rfl)) fun Γ1 h1 => ?_
  subst h1
  refine xb_seq (m := n + 146) (XS.le (m := n + 140 + L1.length + L2.length) (xs_parA (Θ := fun ds => ∃ F1 F2 : List Int, ds = [.lst (F1.map D.int), .lst (F2.map D.int)] ∧ F1.length = L1.length ∧ F2.length = L2.length ∧ (∀ x ∈ F1, 0 ≤ x ∧ x ≤ 1) ∧ ∀ x ∈ F2, 0 ≤ x ∧ x ≤ 1) ((xa_cons (xe_ofN (xn_sifts (L := L1) (di_list (de_var rfl)) (by omega) (by omega) rfl rfl rfl rfl (fun _ => rfl) (by decide))) (xa_cons (xe_ofN (xn_sifts (L := L2) (di_list (de_var rfl)) (by omega) (by omega) rfl rfl rfl rfl (fun _ => rfl) (by decide))) xa_nil)).imp fun ds h => ?_) (fun ds h => ?_) rfl rfl (fun _ => rfl) rfl) (by omega)) fun Γ1 h1 => ?_
  · obtain ⟨_, _, ⟨_, ⟨F1, rfl, a1, b1⟩, rfl⟩, ⟨_, _, ⟨_, ⟨F2, rfl, a2, b2⟩, rfl⟩, rfl, rfl⟩, rfl⟩ := h
    exact ⟨F1, F2, rfl, a1, a2, b1, b2⟩
  · obtain ⟨_, _, rfl, _⟩ := h
    rfl
  obtain ⟨_, _, ⟨F1, F2, e, fl1, fl2, fb1, fb2⟩, rfl⟩ := h1
  cases e
  refine XB.le (m := n + 146) ((xb (d := .bl true) ?_).imp fun d h => ⟨r1, r2, rfl, pr, n1, n2, h⟩) (by omega)
  let N1 := r1.net
  let N2 := r2.net
  have ok1 : NetOk N1 := mkNet_ok pr.o1 (by omega)
  have ok2 : NetOk N2 := mkNet_ok pr.o2 (by omega)
  let ps1 := L1.zip F1
  let ps2 := L2.zip F2
  have p11 : ps1.map (·.1) = L1 := List.map_fst_zip (by omega)
  have p12 : ps1.map (·.2) = F1 := List.map_snd_zip (by omega)
  have p21 : ps2.map (·.1) = L2 := List.map_fst_zip (by omega)
  have p22 : ps2.map (·.2) = F2 := List.map_snd_zip (by omega)
  have a1 : AskOk N1 s ps1 2 := ⟨ok1, hs.len, ⟨⟨r1.g.length, by have := pr.g1; omega, hs.len⟩, hs.nz⟩, hs.bd, by decide, by decide, by rw [p11]; exact pr.o1.t2, fun p hp => fb1 p.2 (List.of_mem_zip hp).2⟩
  have a2 : AskOk N2 t ps2 2 := ⟨ok2, ht.len, ⟨⟨r2.g.length, by have := pr.g2; omega, ht.len⟩, ht.nz⟩, ht.bd, by decide, by decide, by rw [p21]; exact pr.o2.t2, fun p hp => fb2 p.2 (List.of_mem_zip hp).2⟩
  have s1 : N1.strings.Nodup := (sortP_perm _).nodup_iff.mpr pr.o1.s2
  have s2 : N2.strings.Nodup := (sortP_perm _).nodup_iff.mpr pr.o2.s2
  have h9 : N1.things + N2.things ≤ 9 := by
    show r1.n + r2.n ≤ 9
    omega
  have oA := aside_ok ok1 ok2 s1 s2 h9
  have bb : ∀ x ∈ bothS s t, Bd 6 x := fun x hx => by
    obtain ⟨y, hy, h2⟩ := List.mem_flatMap.mp hx
    obtain ⟨z, hz, rfl⟩ := List.mem_map.mp h2
    exact Bd.times (hs.bd z hz) (ht.bd y hy)
  have gg : GoodS (bothS s t) := ⟨⟨r1.g.length + r2.g.length, by have := pr.g1; have := pr.g2; omega, by rw [both_len, hs.len, ht.len, Nat.pow_add]⟩, (both_nz (s := s) (t := t)).trans (by rw [hs.nz, ht.nz] <;> rfl)⟩
  let q0 : List (Int × Int) := ps1 ++ ps2.map fun p => (rhoA N1 p.1, p.2)
  have aA : AskOk (asideN N1 N2) (bothS s t) q0 6 := aside_ask a1 a2 s1 s2 h9 gg bb (by decide) (by decide)
  have q1 : (q0.map (·.1)).map D.int = L1.map D.int ++ L2.map fun t => D.int (t + (r1.n : Int)) := by
    show ((ps1 ++ ps2.map fun p => (rhoA N1 p.1, p.2)).map (·.1)).map D.int = _
    rw [List.map_append, List.map_append, p11]
    congr 1
    rw [← p21, List.map_map, List.map_map, List.map_map]
    refine List.map_congr_left fun p _ => ?_
    show D.int ((r1.n : Int) + p.1) = D.int (p.1 + (r1.n : Int))
    rw [Int.add_comm]
  have q2 : (q0.map (·.2)).map D.int = F1.map D.int ++ F2.map D.int := by
    show ((ps1 ++ ps2.map fun p => (rhoA N1 p.1, p.2)).map (·.2)).map D.int = _
    rw [List.map_append, List.map_append, p12]
    congr 1
    rw [← p22, List.map_map, List.map_map, List.map_map]
    exact List.map_congr_left fun _ _ => rfl
  show Blk K _ [.at_ C.hp, .dat (rawD r1), .dat (rawD r2), .no, .no, .dat (.lst (s.map amtD)), .dat (.lst (t.map amtD)), .dat (.lst (L1.map D.int)), .dat (.lst (L2.map D.int)), .dat (.lst (F1.map D.int)), .dat (.lst (F2.map D.int)), .no, .no, .no, .no, .no, .no, .no, .no, .no, .no] (.bl true)
  refine b_seq (s_par (d1 := .lst ((q0.map (·.1)).map D.int)) (d2 := .lst ((q0.map (·.2)).map D.int)) (da_cons (de_ofN (DN.to (dn_cat (dl_of (de_var rfl)) (dl_ofN (dn_lcY (as := L2) (em := D.int) (gv := fun t => D.int (t + (r1.n : Int))) (di_list (de_var rfl)) rfl rfl (fun p _ => dg_name rfl rfl) (by decide) (fun p _ => de_add (de_var rfl) (de_ixT (du_of (de_var rfl)) de_int rfl)) (by omega))) (by simp only [List.length_map]; exact Nat.le_trans (Nat.add_le_add l1 l2) (by decide))) q1.symm)) (da_cons (de_ofN (DN.to (dn_cat (dl_of (de_var rfl)) (dl_of (de_var rfl)) (by rw [List.length_map, List.length_map]; omega)) q2.symm)) da_nil)) rfl rfl rfl rfl) ?_
  show Blk K _ [.at_ C.hp, .dat (rawD r1), .dat (rawD r2), .no, .no, .dat (.lst (s.map amtD)), .dat (.lst (t.map amtD)), .dat (.lst (L1.map D.int)), .dat (.lst (L2.map D.int)), .dat (.lst (F1.map D.int)), .dat (.lst (F2.map D.int)), .dat (.lst ((q0.map (·.1)).map D.int)), .dat (.lst ((q0.map (·.2)).map D.int)), .no, .no, .no, .no, .no, .no, .no, .no] (.bl true)
  refine b_seq (s_par (d1 := netD (asideN N1 N2)) (d2 := spr (bothS s t)) (da_cons (de_call (da_cons (de_call (da_cons (de_var rfl) da_nil) rfl ⟨r1, rfl, pr.o1, rfl⟩) (da_cons (de_call (da_cons (de_var rfl) da_nil) rfl ⟨r2, rfl, pr.o2, rfl⟩) da_nil)) rfl ⟨N1, N2, rfl, ok1, ok2, oA, rfl⟩) (da_cons (de_call (da_cons (de_var rfl) (da_cons (de_var rfl) da_nil)) rfl ⟨_, _, s, t, 2, 2, r1.g.length, r2.g.length, rfl, .inl rfl, .inl rfl, a1.good, a2.good, hs.len, ht.len, by have := pr.g1; have := pr.g2; omega, hs.bd, ht.bd, by decide, by decide, by decide, rfl⟩) da_nil)) rfl rfl rfl rfl) ?_
  show Blk K _ [.at_ C.hp, .dat (rawD r1), .dat (rawD r2), .no, .no, .dat (.lst (s.map amtD)), .dat (.lst (t.map amtD)), .dat (.lst (L1.map D.int)), .dat (.lst (L2.map D.int)), .dat (.lst (F1.map D.int)), .dat (.lst (F2.map D.int)), .dat (.lst ((q0.map (·.1)).map D.int)), .dat (.lst ((q0.map (·.2)).map D.int)), .dat (netD (asideN N1 N2)), .dat (spr (bothS s t)), .no, .no, .no, .no, .no, .no] (.bl true)
  refine b_seq (s_set (d := .lst [endD (outS N1 s ps1) (nzS (lastS N1 s ps1)), endD (outS N2 t ps2) (nzS (lastS N2 t ps2))]) (de_lst (da_cons (de_call (da_cons (de_call (da_cons (de_var rfl) da_nil) rfl ⟨r1, rfl, pr.o1, rfl⟩) (da_cons (de_var rfl) (da_cons (de_var rfl) (da_cons (de_var rfl) da_nil)))) rfl ⟨N1, _, s, ps1, 2, by rw [p11, p12], .inl rfl, a1, rfl⟩) (da_cons (de_call (da_cons (de_call (da_cons (de_var rfl) da_nil) rfl ⟨r2, rfl, pr.o2, rfl⟩) (da_cons (de_var rfl) (da_cons (de_var rfl) (da_cons (de_var rfl) da_nil)))) rfl ⟨N2, _, t, ps2, 2, by rw [p21, p22], .inl rfl, a2, rfl⟩) da_nil)) (Nat.le_of_ble_eq_true rfl)) rfl rfl) ?_
  show Blk K _ [.at_ C.hp, .dat (rawD r1), .dat (rawD r2), .dat (.lst [endD (outS N1 s ps1) (nzS (lastS N1 s ps1)), endD (outS N2 t ps2) (nzS (lastS N2 t ps2))]), .no, .dat (.lst (s.map amtD)), .dat (.lst (t.map amtD)), .dat (.lst (L1.map D.int)), .dat (.lst (L2.map D.int)), .dat (.lst (F1.map D.int)), .dat (.lst (F2.map D.int)), .dat (.lst ((q0.map (·.1)).map D.int)), .dat (.lst ((q0.map (·.2)).map D.int)), .dat (netD (asideN N1 N2)), .dat (spr (bothS s t)), .no, .no, .no, .no, .no, .no] (.bl true)
  refine b_seq (s_set (d := endD (outS (asideN N1 N2) (bothS s t) q0) (nzS (lastS (asideN N1 N2) (bothS s t) q0))) (de_call (da_cons (de_var rfl) (da_cons (de_var rfl) (da_cons (de_var rfl) (da_cons (de_var rfl) da_nil)))) rfl ⟨asideN N1 N2, _, bothS s t, q0, 6, rfl, .inr rfl, aA, rfl⟩) rfl rfl) ?_
  show Blk K _ [.at_ C.hp, .dat (rawD r1), .dat (rawD r2), .dat (.lst [endD (outS N1 s ps1) (nzS (lastS N1 s ps1)), endD (outS N2 t ps2) (nzS (lastS N2 t ps2))]), .dat (endD (outS (asideN N1 N2) (bothS s t) q0) (nzS (lastS (asideN N1 N2) (bothS s t) q0))), .dat (.lst (s.map amtD)), .dat (.lst (t.map amtD)), .dat (.lst (L1.map D.int)), .dat (.lst (L2.map D.int)), .dat (.lst (F1.map D.int)), .dat (.lst (F2.map D.int)), .dat (.lst ((q0.map (·.1)).map D.int)), .dat (.lst ((q0.map (·.2)).map D.int)), .dat (netD (asideN N1 N2)), .dat (spr (bothS s t)), .no, .no, .no, .no, .no, .no] (.bl true)
  have hz : nzS (lastS (asideN N1 N2) (bothS s t) q0) = (nzS (lastS N1 s ps1) && nzS (lastS N2 t ps2)) := by
    rw [aside_last a1 a2 aA]
    exact both_nz
  have ho : outS (asideN N1 N2) (bothS s t) q0 = bothS (outS N1 s ps1) (outS N2 t ps2) := aside_out a1 a2 aA
  have hl := lenP_both (lastS N1 s ps1) (lastS N2 t ps2)
  rw [← aside_last a1 a2 aA] at hl
  have hlM : ∀ {Γ : Ctx} {te : TE}, DE K te Γ (.tup ((allS (asideN N1 N2) (bothS s t) q0).1.map fun s => D.tup [.int (lenP s), .int (lenQ s)])) → DE K (tOp (rIxT K) te (tUn (rU fun i => .int (-i)) (tC (.int 1)))) Γ (lenD (lastS (asideN N1 N2) (bothS s t) q0)) := fun h => de_ixT (i := -1) (du_of h) (de_neg de_int) (lens_last aA)
  have ea : nzS (outS N1 s ps1) = nzS (lastS N1 s ps1) := out_nz a1
  have eb : nzS (outS N2 t ps2) = nzS (lastS N2 t ps2) := out_nz a2
  refine b_guard (b := !(nzS (lastS N1 s ps1) && nzS (lastS N2 t ps2))) (dt_test (de_inD de_non (de_var rfl) rfl ?_ (Nat.le_of_ble_eq_true rfl) ?_ (none_in _ _ _ _))) (fun z => ?_) fun z => ?_
  · refine pln_mem.mpr fun d hd => ?_
    rcases List.mem_cons.mp hd with rfl | hd
    · exact (endD_pln _ _).1
    · obtain rfl := List.mem_singleton.mp hd
      exact (endD_pln _ _).1
  · refine dep_mem.mpr fun d hd => ?_
    rcases List.mem_cons.mp hd with rfl | hd
    · exact Nat.le_trans (endD_pln _ _).2 (by decide)
    · obtain rfl := List.mem_singleton.mp hd
      exact Nat.le_trans (endD_pln _ _).2 (by decide)
  · have zz : (nzS (lastS N1 s ps1) && nzS (lastS N2 t ps2)) = false := by
      cases e : (nzS (lastS N1 s ps1) && nzS (lastS N2 t ps2)) with
      | false => rfl
      | true =>
        rw [e] at z
        cases z
    have hz0 := hz.trans zz
    have l0 := len_zero hz0
    exact b_retE (de_and (a := true) (b := true) ((de_isN (r := !nzS (lastS (asideN N1 N2) (bothS s t) q0)) (de_var rfl) isN_end).to (by rw [hz0] <;> rfl)) fun _ => (de_eqTI (xs := [lenP (lastS (asideN N1 N2) (bothS s t) q0), lenQ (lastS (asideN N1 N2) (bothS s t) q0)]) (ys := [0, 0]) (hlM (de_call (da_cons (de_var rfl) (da_cons (de_var rfl) (da_cons (de_var rfl) (da_cons (de_var rfl) da_nil)))) rfl ⟨asideN N1 N2, _, bothS s t, q0, 6, rfl, .inr rfl, aA, rfl⟩)) (de_tup (da_cons de_int (da_cons de_int da_nil)) (Nat.le_of_ble_eq_true rfl))).to (by rw [l0.1, l0.2] <;> rfl)) rfl
  have zz : (nzS (lastS N1 s ps1) && nzS (lastS N2 t ps2)) = true := by
    cases e : (nzS (lastS N1 s ps1) && nzS (lastS N2 t ps2)) with
    | true => rfl
    | false =>
      rw [e] at z
      cases z
  have z1 := (Bool.and_eq_true_iff.mp zz).1
  have z2 := (Bool.and_eq_true_iff.mp zz).2
  have w1 := last_pq a1 (by decide)
  have w2 := last_pq a2 (by decide)
  have cm : ∀ {i j : Int}, i.natAbs < 2 ^ 50 → j.natAbs < 2 ^ 50 → CMulW i j := fun h1 h2 => wide_mul h1 h2 (by decide) (by decide) (by decide)
  refine b_seq (s_asg (d := .tup [lenD (lastS N1 s ps1), lenD (lastS N2 t ps2)]) (de_tup (da_cons (de_ixT (i := -1) (du_of (de_call (da_cons (de_call (da_cons (de_var rfl) da_nil) rfl ⟨r1, rfl, pr.o1, rfl⟩) (da_cons (de_var rfl) (da_cons (de_var rfl) (da_cons (de_var rfl) da_nil)))) rfl ⟨N1, _, s, ps1, 2, by rw [p11, p12], .inl rfl, a1, rfl⟩)) (de_neg de_int) (lens_last a1)) (da_cons (de_ixT (i := -1) (du_of (de_call (da_cons (de_call (da_cons (de_var rfl) da_nil) rfl ⟨r2, rfl, pr.o2, rfl⟩) (da_cons (de_var rfl) (da_cons (de_var rfl) (da_cons (de_var rfl) da_nil)))) rfl ⟨N2, _, t, ps2, 2, by rw [p21, p22], .inl rfl, a2, rfl⟩)) (de_neg de_int) (lens_last a2)) da_nil)) (Nat.le_of_ble_eq_true rfl)) (dg_tup (dgs_cons (dg_tup (ds := [.int _, .int _]) (dgs_cons (dg_name rfl rfl) (dgs_cons (dg_name rfl rfl) dgs_nil)) rfl) (dgs_cons (dg_tup (ds := [.int _, .int _]) (dgs_cons (dg_name rfl rfl) (dgs_cons (dg_name rfl rfl) dgs_nil)) rfl) dgs_nil)) rfl)) ?_
  show Blk K _ [.at_ C.hp, .dat (rawD r1), .dat (rawD r2), .dat (.lst [endD (outS N1 s ps1) (nzS (lastS N1 s ps1)), endD (outS N2 t ps2) (nzS (lastS N2 t ps2))]), .dat (endD (outS (asideN N1 N2) (bothS s t) q0) (nzS (lastS (asideN N1 N2) (bothS s t) q0))), .dat (.lst (s.map amtD)), .dat (.lst (t.map amtD)), .dat (.lst (L1.map D.int)), .dat (.lst (L2.map D.int)), .dat (.lst (F1.map D.int)), .dat (.lst (F2.map D.int)), .dat (.lst ((q0.map (·.1)).map D.int)), .dat (.lst ((q0.map (·.2)).map D.int)), .dat (netD (asideN N1 N2)), .dat (spr (bothS s t)), .dat (.int (lenP (lastS N1 s ps1))), .dat (.int (lenQ (lastS N1 s ps1))), .dat (.int (lenP (lastS N2 t ps2))), .dat (.int (lenQ (lastS N2 t ps2))), .no, .no] (.bl true)
  refine b_pass (dt_test ((de_neTI (xs := [lenP (lastS (asideN N1 N2) (bothS s t) q0), lenQ (lastS (asideN N1 N2) (bothS s t) q0)]) (ys := [lenP (lastS N1 s ps1) * lenP (lastS N2 t ps2) + 2 * lenQ (lastS N1 s ps1) * lenQ (lastS N2 t ps2), lenP (lastS N1 s ps1) * lenQ (lastS N2 t ps2) + lenQ (lastS N1 s ps1) * lenP (lastS N2 t ps2)]) (hlM (de_call (da_cons (de_var rfl) (da_cons (de_var rfl) (da_cons (de_var rfl) (da_cons (de_var rfl) da_nil)))) rfl ⟨asideN N1 N2, _, bothS s t, q0, 6, rfl, .inr rfl, aA, rfl⟩)) (de_tup (da_cons (de_add (de_mul (de_var rfl) (de_var rfl) (cm w1.1 w2.1)) (de_mul (de_mul de_int (de_var rfl) (cm (by decide) w1.2)) (de_var rfl) (wide_mul (a := 60) (b := 50) (by rw [Int.natAbs_mul]; have := w1.2; show 2 * _ < _; omega) w2.2 (by decide) (by decide) (by decide)))) (da_cons (de_add (de_mul (de_var rfl) (de_var rfl) (cm w1.1 w2.2)) (de_mul (de_var rfl) (de_var rfl) (cm w1.2 w2.1))) da_nil)) (Nat.le_of_ble_eq_true rfl))).to (by rw [hl.1, hl.2, decide_eq_true rfl] <;> rfl))) ?_
  have y1 : nzS (outS N1 s ps1) = true := ea.trans z1
  have y2 : nzS (outS N2 t ps2) = true := eb.trans z2
  have sim := both_plain y1 y2 (out_bd a1) (out_bd a2)
  have nzp : nzS (bothS (plainS (outS N1 s ps1)) (plainS (outS N2 t ps2))) = true := both_nz.trans (by rw [plain_nz y1, plain_nz y2] <;> rfl)
  have pl1 : (plainS (outS N1 s ps1)).length = 2 ^ N1.kept.length := by rw [plain_length, out_len a1]
  have pl2 : (plainS (outS N2 t ps2)).length = 2 ^ N2.kept.length := by rw [plain_length, out_len a2]
  have k1 : N1.kept.length ≤ 3 := pr.k1
  have k2 : N2.kept.length ≤ 3 := pr.k2
  have bp1 := plain_bd y1 (out_bd a1)
  have bp2 := plain_bd y2 (out_bd a2)
  have bpb : ∀ x ∈ bothS (plainS (outS N1 s ps1)) (plainS (outS N2 t ps2)), Bd 102 x := fun x hx => by
    obtain ⟨y, hy, h2⟩ := List.mem_flatMap.mp hx
    obtain ⟨z, hz, rfl⟩ := List.mem_map.mp h2
    exact Bd.times (bp1 z hz) (bp2 y hy)
  have lb : (bothS (plainS (outS N1 s ps1)) (plainS (outS N2 t ps2))).length = 2 ^ (N1.kept.length + N2.kept.length) := by rw [both_len, pl1, pl2, Nat.pow_add]
  have nM : nzS (outS (asideN N1 N2) (bothS s t) q0) = true := (out_nz aA).trans (hz.trans zz)
  refine b_ret (de_reprEq (o := outS (asideN N1 N2) (bothS s t) q0) (b := nzS (lastS (asideN N1 N2) (bothS s t) q0)) (n := 66) (de_var rfl) ((de_call (d := spr (plainS (bothS (plainS (outS N1 s ps1)) (plainS (outS N2 t ps2))))) (da_cons (de_call (d := spr (bothS (plainS (outS N1 s ps1)) (plainS (outS N2 t ps2)))) (da_cons (de_ixL (d := spr (plainS (outS N1 s ps1))) (dl_of (de_var rfl)) de_int ?_) (da_cons (de_ixL (d := spr (plainS (outS N2 t ps2))) (dl_of (de_var rfl)) de_int ?_) da_nil)) rfl ⟨_, _, plainS (outS N1 s ps1), plainS (outS N2 t ps2), 50, 50, N1.kept.length, N2.kept.length, rfl, .inr rfl, .inr rfl, ⟨⟨_, by omega, pl1⟩, plain_nz y1⟩, ⟨⟨_, by omega, pl2⟩, plain_nz y2⟩, pl1, pl2, by omega, bp1, bp2, by decide, by decide, by decide, rfl⟩) da_nil) rfl ⟨_, 102, rfl, ⟨⟨_, by omega, lb⟩, nzp⟩, bpb, by decide, by decide, rfl⟩).to ?_) (by decide) (fun z => plain_bd nM (out_bd aA)) (by rw [out_len aA]; exact Nat.le_trans (pow9 aA.klen) (by decide)))
  · show some (endD (outS N1 s ps1) (nzS (lastS N1 s ps1))) = _
    rw [z1, endD_yes]
  · show some (endD (outS N2 t ps2) (nzS (lastS N2 t ps2))) = _
    rw [z2, endD_yes]
  · rw [hz, zz, endD_yes, sim.plain nzp, ho]

end
end Lk
set_option maxHeartbeats 1000000
namespace Lk
open PySem PySem.Spec PyProof.Rows L2
open Evl (Ex)
open C8 (Cal pe_c Mak pe_mk)
/-! ### calls of defs that look at a repr -/
structure CalG (P : Program) (w : World) (K : PySem.W.Frag) (mg : Str → Option Value) (base : Heap) (k : Nat) (x : Str) (sp : Sp) : Prop where
  ex : ∃ (f : Addr) (fd : FuncData) (ps : List Str), FnG P w K mg base k f fd ps sp ∧ mg x = some (.ref f) ∧ PySem.W.keepIn K (.ref f) = true ∧ Binds K fd ps []
section
variable {P : Program} {w : World} {K : PySem.W.Frag} {mg : Str → Option Value} {base : Heap} {x : Str} {f : Addr} {fd : FuncData}
theorem calG_of {st : Stmt} {ps : List Str} {k : Nat} {sp : Sp} (F : FnP K x st f fd) (hf : mg x = some (.ref f)) (G : FnG P w K mg base k f fd ps sp)
    (h : ∀ (kV doc pm : Value) (an : Option Addr) (cdv ct : Value) (us : List Value), us.length = ps.length → bindArgs (PySem.W.fnOf x x (defArgs st) (defBody st) (defScope st) .none kV doc pm an cdv ct) ⟨us, []⟩ = pure (ps.zip us)) : CalG P w K mg base k x sp :=
  ⟨f, fd, ps, G, hf, F.kp, F.bindsN h⟩
end
section
variable {X : Cx} {k j : Nat} {x : Str} {sp : Sp} {p pos : Pos} {e : Expr} {es : List Expr} {t : TA}
theorem pe_cG (c : CalG X.prog X.w X.K X.mg X.base k x sp) (hG : X.A.guards = some []) (hr : Room j X.A) (hk : k ≤ j) (hg : Gl X x) (ha : PA X (e :: es) t)
    (hdb : (x == ("__debug__" : Str)) = false := by decide) (hst : starEach (e :: es) X.env = (false, eval e X.env) :: starEach es X.env := by rfl) (hpl : (backTo pos (starEach es X.env)).any (·.1) = false := by rfl) :
    PE X (.Call (.Name x p) (e :: es) [] pos) (tCall sp [] C8.E0 t) := by
  obtain ⟨f, fd, ps, F, hm, kp, b⟩ := c.ex
  exact pe_callG F hG (hr.mono hk) hg hm kp b ha hdb hst hpl
end
section
variable {K : PySem.W.Frag} {C : Hc} {Γ : Ctx} {ta tb te : TE} {tt tu : TT} {n m k : Nat} {ds : List D}
theorem dn_slice {j : Nat} (ha : DL K ta Γ ds) (hb : DE K tb Γ (.int (j : Int))) : DN K (tSl (rSlL K) ta tNoPart (tPart tb)) Γ (ds.take j) := fun F H σ E Q q =>
  ha F H σ E _ fun a xs H1 e1 s1 a1 => hb F H1 σ (E.mono e1) _ fun v H2 e2 i2 => by
    cases i2
    refine ⟨(j : Int), rfl, a, xs, rfl, Evl.ex_l e2 s1, fun p hp => ?_⟩
    have ec : cutV xs none (some (j : Int)) = xs.take j := by
      unfold cutV
      rw [HT.sIx_none, HT.sIx_nat, List.drop_zero, Nat.sub_zero, Nat.min_comm, ← List.take_take]
      exact List.take_of_length_le (by rw [List.length_take]; exact Nat.min_le_right _ _)
    rw [ec]
    exact q p _ _ (Evl.fresh_back (e1.trans e2) hp) ((e1.trans e2).trans (Ex.new hp)) upd_same (((a1.mono (hid_mono e2)).take j).mono (ex_new hp))
theorem xt_B {P : Bool → Prop} (h : XE K C te Γ n m (BlP P)) : XT K C (tB te) Γ n m P := fun F H σ E hF hH Q q => h F H σ E hF hH _ fun v H' d e h' i p => by
  obtain ⟨b, rfl, pb⟩ := p
  cases i
  exact ⟨b, rfl, q b H' e h' pb⟩
theorem xt_not {P : Bool → Prop} (h : XT K C tt Γ n m P) : XT K C (tNot tt) Γ n m fun b => P (!b) := fun F H σ E hF hH Q q => h F H σ E hF hH _ fun b H' e h' p => q (!b) H' e h' (by show P (!(!b)); rw [Bool.not_not]; exact p)
theorem xt_orF (h1 : XT K C tt Γ n m fun b => b = false) (h2 : XT K C tu Γ m k fun b => b = false) : XT K C (tOr tt tu) Γ n k fun b => b = false := fun F H σ E hF hH Q q => h1 F H σ E hF hH _ fun b H' e h' p => by
  subst p
  exact h2 F H' σ (E.monoC hF hH e h') hF h' Q fun b2 H2 e2 hh2 p2 => q b2 H2 (e.trans e2) hh2 p2
theorem xe_drawn {i M : Nat} {X : XK} (hi : Γ[i]? = some (.at_ C.hp)) (h : DE K te Γ (.int (M : Int))) (h1 : 1 ≤ M) (h5 : M ≤ 5) (hn : n + 80 ≤ 100000) : XE K C (tCall (spX K 1 80 Rdrawn) [] X (tCons (tVar i) (tCons te tNil))) Γ n (n + 80) fun d => ∃ r, d = rawD r ∧ r.Ok ∧ r.n ≤ M ∧ r.k.length ≤ 3 ∧ r.g.length ≤ 3 :=
  xe_draw hi (xa (da_cons h da_nil)) (fun ds hds => by
    subst hds
    refine ⟨rfl, ⟨_, M, ⟨1, [], [], [], [(0, 0)]⟩, rfl, h1, h5, rfl, ⟨by decide, by decide, fun _ h => (List.not_mem_nil h).elim, List.nodup_nil, by decide, fun _ h => (List.not_mem_nil h).elim, List.nodup_nil, fun _ h => (List.not_mem_nil h).elim, List.nodup_nil, fun q hq => ?_, List.Perm.refl _⟩, h1, by decide, by decide, by decide⟩, fun d hd => ?_⟩
    · obtain rfl := List.mem_singleton.mp hq
      unfold OkT
      decide
    · obtain ⟨m', r, e, _, _, rfl, ok, hn', hk, hg, _⟩ := hd
      simp only [List.cons.injEq, D.int.injEq, and_true] at e
      exact ⟨r, rfl, ok, by omega, hk, hg⟩) hn
theorem xe_second {i M : Nat} {X : XK} (hi : Γ[i]? = some (.at_ C.hp)) (h : DE K te Γ (.int (M : Int))) (h3 : M ≤ 3) (hn : n + 110 ≤ 100000) : XE K C (tCall (spX K 1 110 Rsecond) [] X (tCons (tVar i) (tCons te tNil))) Γ n (n + 110) fun d => ∃ r, d = rawD r ∧ r.Ok ∧ r.n ≤ 4 ∧ r.k.length ≤ 3 ∧ r.g.length = M :=
  xe_draw hi (xa (da_cons h da_nil)) (fun ds hds => by
    subst hds
    refine ⟨rfl, ⟨_, M, ⟨3, [], rng M, [], [(0, 0), (1, 0), (2, 0)]⟩, rfl, h3, rfl, ⟨by show 1 ≤ 3; decide, by show 3 ≤ 63; decide, fun _ h => (List.not_mem_nil h).elim, List.nodup_nil, by show 0 < 64; decide, fun x hx => ?_, rng_nodup _, fun _ h => (List.not_mem_nil h).elim, List.nodup_nil, fun q hq => ?_, List.Perm.refl _⟩, by show 3 ≤ 4; decide, by show 0 ≤ 3; decide, rng_length _, by show 0 ≤ 40; decide⟩, fun d hd => ?_⟩
    · have := rng_mem.mp hx
      show 0 ≤ x ∧ x < ((3 : Nat) : Int)
      omega
    · unfold OkT
      simp only [List.mem_cons, List.not_mem_nil, or_false] at hq
      rcases hq with rfl | rfl | rfl <;> decide
    · obtain ⟨m', r, e, _, rfl, ok, hn', hk, hg, _⟩ := hd
      simp only [List.cons.injEq, D.int.injEq, and_true] at e
      exact ⟨r, rfl, ok, hn', hk, by omega⟩) hn
theorem xt_jr {X X2 : XK} {tl : TE} {r1 : Raw} (hi : Γ[1]? = some (.at_ C.hp)) (h3 : Γ[3]? = some (.dat (rawD r1))) (hl : DE K tl Γ (.int (r1.k.length : Int))) (ok1 : r1.Ok) (n1 : r1.n ≤ 5) (k1 : r1.k.length ≤ 3) (g1 : r1.g.length ≤ 3) (hn : n + 230 ≤ 100000) :
    XT K C (tNot (tB (tCall (spX K 2 120 Rjr) [] X (tCons (tVar 1) (tCons (tVar 3) (tCons (tCall (spX K 1 110 Rsecond) [] X2 (tCons (tVar 1) (tCons tl tNil))) tNil)))))) Γ n (n + 110 + 120) fun b => b = false := by
  refine (xt_not (P := fun b => b = true) (xt_B (xe_draw (m := n + 110) (Φ := BlP fun b => b = true) (Θ := fun ds => ∃ r2 : Raw, ds = [rawD r1, rawD r2] ∧ r2.Ok ∧ r2.n ≤ 4 ∧ r2.k.length ≤ 3 ∧ r2.g.length = r1.k.length) hi ((xa_cons (xe (de_var h3)) (xa_cons (xe_second (n := n) (M := r1.k.length) hi hl k1 (by omega)) xa_nil)).imp fun ds h => ?_) (fun ds h => ?_) (by omega)))).imp fun b h => ?_
  · obtain ⟨_, _, rfl, ⟨_, _, ⟨r2, rfl, h2⟩, rfl, rfl⟩, rfl⟩ := h
    exact ⟨r2, rfl, h2⟩
  · obtain ⟨r2, rfl, ok2, n2, k2, g2⟩ := h
    refine ⟨rfl, ⟨.bl true, r1, r2, rfl, ⟨ok1, ok2, g1, by omega, k1, k2⟩, n1, n2, g2.symm, rfl⟩, fun d hd => ?_⟩
    obtain ⟨_, _, _, _, _, _, _, rfl⟩ := hd
    exact ⟨true, rfl, rfl⟩
  · cases b with
    | false => rfl
    | true => cases h
theorem xt_ar {X X2 X3 : XK} (hi : Γ[1]? = some (.at_ C.hp)) (hn : n + 320 ≤ 100000) :
    XT K C (tNot (tB (tCall (spX K 2 160 Rar) [] X (tCons (tVar 1) (tCons (tCall (spX K 1 80 Rdrawn) [] X2 (tCons (tVar 1) (tCons (tC (.int 3)) tNil))) (tCons (tCall (spX K 1 80 Rdrawn) [] X3 (tCons (tVar 1) (tCons (tC (.int 3)) tNil))) tNil)))))) Γ n (n + 80 + 80 + 160) fun b => b = false := by
  refine (xt_not (P := fun b => b = true) (xt_B (xe_draw (m := n + 80 + 80) (Φ := BlP fun b => b = true) (Θ := fun ds => ∃ r2 r3 : Raw, ds = [rawD r2, rawD r3] ∧ (r2.Ok ∧ r2.n ≤ 3 ∧ r2.k.length ≤ 3 ∧ r2.g.length ≤ 3) ∧ r3.Ok ∧ r3.n ≤ 3 ∧ r3.k.length ≤ 3 ∧ r3.g.length ≤ 3) hi ((xa_cons (xe_drawn (n := n) (M := 3) hi de_int (by decide) (by decide) (by omega)) (xa_cons (xe_drawn (n := n + 80) (M := 3) hi de_int (by decide) (by decide) (by omega)) xa_nil)).imp fun ds h => ?_) (fun ds h => ?_) (by omega)))).imp fun b h => ?_
  · obtain ⟨_, _, ⟨r2, rfl, h2⟩, ⟨_, _, ⟨r3, rfl, h3⟩, rfl, rfl⟩, rfl⟩ := h
    exact ⟨r2, r3, rfl, h2, h3⟩
  · obtain ⟨r2, r3, rfl, ⟨o2', n2, k2, g2⟩, o3', n3, k3, g3⟩ := h
    refine ⟨rfl, ⟨.bl true, r2, r3, rfl, ⟨o2', o3', g2, g3, k2, k3⟩, n2, n3, rfl⟩, fun d hd => ?_⟩
    obtain ⟨_, _, _, _, _, _, rfl⟩ := hd
    exact ⟨true, rfl, rfl⟩
  · cases b with
    | false => rfl
    | true => cases h
end
/-! ### the list that is drawn from -/
def spHeap (K : PySem.W.Frag) : Sp := fun vs H Q _ => ∃ (a : Addr) (ns : List Int), vs = [.ref a] ∧ SqL K H a (ns.map V.int) ∧ ∀ (p c : Addr) (cells : List Int) (H' : Hp), H p = none → H c = none → p ≠ c → Ex H H' → H' p = some (.lst [.ref c, .int 0, .int 0]) → H' c = some (.lst (cells.map V.int)) → Q (.ref p) H'
def spLaw (K : PySem.W.Frag) : Sp := fun vs H Q _ => ∃ (a : Addr) (ns : List Int), vs = [.ref a] ∧ SqL K H a (ns.map V.int) ∧ ∀ H', Q (.bl true) H'
section
variable {P : Program} {w : World} {K : PySem.W.Frag} {mg : Str → Option Value} {base : Heap} {f : Addr} {fd : FuncData}
theorem go_hp {te : TE} {Z : Ends} {σ : L2.St} {H : Hp} {F : Fx} {Γ : Ctx} {cells : List Int} (hd : DN K te Γ (cells.map D.int)) (E : Env K F H σ Γ)
    (q : ∀ (p c : Addr) (H' : Hp), H p = none → H c = none → p ≠ c → Ex H H' → H' p = some (.lst [.ref c, .int 0, .int 0]) → H' c = some (.lst (cells.map V.int)) → Z.rt (.ref p) H') :
    tRet (tLst (tCons te (tCons (tC (.int 0)) (tCons (tC (.int 0)) tNil)))) Z σ H := hd F H σ E _ fun c xs H1 hc e1 hl ia => by
  refine ⟨line_of (Nat.le_of_ble_eq_true rfl), fun p hp => ?_⟩
  have ex := ia.ints
  have hp0 : H p = none := Evl.fresh_back e1 hp
  have hcp : p ≠ c := fun z => by
    rw [z, hl] at hp
    cases hp
  refine q p c _ hp0 hc hcp (e1.trans (Ex.new hp)) upd_same ?_
  rw [upd_ne (Ne.symm hcp), hl, ex]
abbrev N_l_heap : List Str := ["_law_script", "_law_cell"]
theorem sc_l_heap : FnScope N_l_heap ["_law_script"] (defScope (top 77)) := ⟨rfl, rfl, rfl, by decide +kernel, rfl, by decide +kernel, by decide +kernel⟩

theorem c_l_heap (F : FnP K "_law_heap" (top 77) f fd) (hf : mg "_law_heap" = some (.ref f)) (b : Bs K mg) : Cal P w K mg base 1 "_law_heap" (spHeap K) [] := by
  refine cal_of F hf (F.ok sc_l_heap (fun vs H Q E h => ?_) fun cdv A outer s H vs Q E hr h => ?_) fun _ _ _ _ _ _ us hl => match us, hl with | [_], _ => rfl
  · obtain ⟨a, ns, rfl, _⟩ := h
    rfl
  obtain ⟨a, ns, rfl, hS, q⟩ := h
  have hu := room_u hr; have hu1 := room_u1 hr; have hu2 := room_u2 hr; have nd := sc_l_heap.nd
  refine ⟨_, PSs.nox (pss_one (ps_ret (pe_lst (pa_cons (pe_lc (own := [("_law_cell", 1)]) rfl nd (pi_list (pe_slice sl_list (pv 0) po_none (po_some pe_int))) (blkOk_by (own := [("_law_cell", 1)]) (N := N_l_heap) (sc := defScope (top 77)) (by decide +kernel)) (fun _ _ _ _ _ => (pg_name (i := 1) nd rfl (.inl rfl))) (fun _ _ _ _ _ => pts_nil) (fun _ _ _ _ _ => (pe_callTy call_int1 rfl b.b_int PyProof.Rows.boot_int (pa_cons (pv 1) pa_nil)))) (pa_cons pe_int (pa_cons pe_int pa_nil)))))), ?_⟩
  have E0 : Env K ⟨H, [], []⟩ H (L2.start N_l_heap [.ref a]) [.dat (.lst (ns.map D.int)), .no] := env_start (ds := [.lst (ns.map D.int)]) (fun _ _ _ z => z) (fun _ z => (List.not_mem_nil z).elim) (fun _ z => (List.not_mem_nil z).elim) (.cons (.lst hS (IsAll.ofInts _)) .nil)
  have hd : DN K (tLc (iList K (tSl (rSlL K) (tVar 0) tNoPart (tPart (tC (.int 60))))) (gName 1) tYes (tCB rInt1 (tCons (tVar 1) tNil)) [1]) [.dat (.lst (ns.map D.int)), .no] ((ns.take 60).map D.int) :=
    dn_lcY (as := ns.take 60) (em := D.int) (gv := D.int) (js := [1]) (di_list (de_ofN ((dn_slice (j := 60) (dl_of (de_var rfl)) de_int).to (by rw [List.map_take])))) rfl rfl (fun p _ => dg_name rfl rfl) (by decide) (fun p _ => de_int1 (de_var rfl)) (by rw [List.length_take]; omega)
  exact go_hp hd E0 fun p c H' a1 a2 a3 a4 a5 a6 => q p c (ns.take 60) H' a1 a2 a3 a4 a5 a6

abbrev N_law0 : List Str := ["_law_script", "_law_heap_here", "_law_turn", "_law_one"]
theorem go_heap {u : TS} {Z : Ends} {X : XK} {a : Addr} {ns : List Int} {H : Hp} (hS : SqL K H a (ns.map V.int)) (hk : ∀ C : Hc, XB K C u [.no, .at_ C.hp, .no, .no] 0 1300 fun d => d = .bl true) (hr : ∀ H', Z.rt (.bl true) H') :
    tSeq (tAsg (tCall (spHeap K) [] X (tCons (tVar 0) tNil)) (gName 1)) u Z (L2.start N_law0 [.ref a]) H := by
  refine ⟨.ref a, rfl, a, ns, rfl, hS, fun p c cells H1 hp hc hpc e1 h1 h2 => ?_⟩
  refine hk ⟨p, c, cells⟩ ⟨H1, [p], [p]⟩ H1 _ Z ⟨rfl, fun i e hx => ?_, fun _ _ _ z => z, fun x hx => ?_, List.nodup_nil, fun _ z => (List.not_mem_nil z).elim, fun _ z => z⟩ ⟨rfl, List.mem_singleton.mpr rfl, fun z => hpc (List.mem_singleton.mp z).symm, h2⟩ ⟨0, 0, h1, Int.le_refl _, Int.le_refl _⟩ fun v H' d _ _ _ i e => ?_
  · match i, hx with
    | 0, hx => cases hx; exact ⟨_, rfl, trivial⟩
    | 1, hx => cases hx; exact ⟨_, rfl, rfl⟩
    | 2, hx => cases hx; exact ⟨_, rfl, trivial⟩
    | 3, hx => cases hx; exact ⟨_, rfl, trivial⟩
  · obtain rfl := List.mem_singleton.mp hx
    rw [h1]
    exact fun z => nomatch z
  · subst e
    cases i
    exact hr H'
abbrev N_law : List Str := ["_law_script", "_law_heap_here", "_law_turn", "_law_one"]
theorem sc_law : FnScope N_law ["_law_script"] (defScope (top 91)) := ⟨rfl, rfl, rfl, by decide +kernel, rfl, by decide +kernel, by decide +kernel⟩

theorem g_law (F : FnP K "law" (top 91) f fd) (b : Bs K mg) (q__law_heap : Cal P w K mg base 1 "_law_heap" (spHeap K) []) (q__law_drawn : Cal P w K mg base 3 "_law_drawn" (spX K 1 80 Rdrawn) []) (q__law_second : Cal P w K mg base 4 "_law_second" (spX K 1 110 Rsecond) []) (q__law_joined_right : CalG P w K mg base 11 "_law_joined_right" (spX K 2 120 Rjr)) (q__law_aside_right : CalG P w K mg base 11 "_law_aside_right" (spX K 2 160 Rar)) : FnG P w K mg base 12 f fd ["_law_script"] (spLaw K) := by
  refine fn_g F sc_law (fun vs H Q E h => ?_) fun cdv A outer s H vs Q E g hr h => ?_
  · obtain ⟨a, ns, rfl, _⟩ := h
    rfl
  obtain ⟨a, ns, rfl, hS, q⟩ := h
  have hG : (cxOf C8.CX0 P w K mg base N_law "law" (defScope (top 91)) f cdv A outer s H E).nox.A.guards = some [] := g
  have hu := room_u hr; have hu1 := room_u1 hr; have hu2 := room_u2 hr; have nd := sc_law.nd
  refine ⟨_, PSs.nox (pss_cons (ps_set (i := 1) nd rfl (.inl rfl) (pe_c q__law_heap hr (by decide) rfl (pa_cons (pv 0) pa_nil))) (pss_cons (ps_for PassesOwn.never rfl (pi_range1 rfl b.b_range (pa_cons pe_int pa_nil)) (pg_name (i := 2) nd rfl (.inl rfl)) (pss_cons (ps_set (i := 3) nd rfl (.inl rfl) (pe_c q__law_drawn hr (by decide) rfl (pa_cons (pv 1) (pa_cons pe_int pa_nil)))) (pss_one (ps_if (PW.pt (pw_or (pt_not (pt_val (pe_cG q__law_joined_right hG hr (by decide) rfl (pa_cons (pv 1) (pa_cons (pv 3) (pa_cons (pe_c q__law_second hr (by decide) rfl (pa_cons (pv 1) (pa_cons (pe_callB call_len_seq rfl b.b_len PySem.boot_len (pa_cons (pe_ix ix_tup (pv 3) pe_int (fun _ _ => rfl)) pa_nil)) pa_nil))) pa_nil)))))) (pw_or1 (pt_not (pt_val (pe_cG q__law_aside_right hG hr (by decide) rfl (pa_cons (pv 1) (pa_cons (pe_c q__law_drawn hr (by decide) rfl (pa_cons (pv 1) (pa_cons pe_int pa_nil))) (pa_cons (pe_c q__law_drawn hr (by decide) rfl (pa_cons (pv 1) (pa_cons pe_int pa_nil))) pa_nil))))))))) (pss_one (ps_ret pe_bl)) pss_nil)))) (pss_one (ps_ret pe_bl)))), ?_⟩
  refine go_heap hS (fun C => ?_) q
  let Ψs : Nat → Ctx → Prop := fun _ Γ' => ∃ e2 e3, Γ' = [.no, .at_ C.hp, e2, e3] ∧ own1 e2 = [] ∧ own1 e3 = []
  refine XB.le (m := 0 + 2 * 640) (xb_seq (xs_for (c := 640) (di_range1 (n := 2) de_int (by decide)) Ψs ⟨_, _, rfl, rfl, rfl⟩ (fun i Γ' h => ?_) fun i d Γ' hd h => ?_) fun Γ' h => (xb_ret (xe de_bl)).imp fun d h => h) (by decide)
  · obtain ⟨e2, e3, rfl, o2, o3⟩ := h
    show own1 e2 ++ (own1 e3 ++ []) = []
    rw [o2, o3]
    rfl
  · obtain ⟨e2, e3, rfl, o2, o3⟩ := h
    have hi : i < 2 := by
      have := (List.getElem?_eq_some_iff.mp hd).1
      simpa using this
    have hm : 0 + i * 640 ≤ 640 := by omega
    refine ⟨_, _, dg_name rfl o2, ?_⟩
    have e6 : 0 + (i + 1) * 640 = 0 + i * 640 + 640 := by omega
    rw [e6]
    generalize 0 + i * 640 = n at hm ⊢
    refine xs_seq (xs_set (xe_drawn (C := C) (M := 5) rfl de_int (by decide) (by decide) (by omega)) rfl o3) fun Γ2 h => ?_
    obtain ⟨_, ⟨r1, rfl, ok1, n1, k1, g1⟩, rfl⟩ := h
    refine XS.le (m := n + 80 + 110 + 120 + 80 + 80 + 160) (xs_if (xt_orF (xt_jr (n := n + 80) (r1 := r1) rfl rfl (DE.to (de_lenL (dl_of (de_ixT (d := .lst (r1.k.map D.int)) (du_of (de_var rfl)) de_int rfl))) (by rw [List.length_map])) ok1 n1 k1 g1 (by omega)) (xt_ar (n := n + 80 + 110 + 120) rfl (by omega))) (fun z => nomatch z) fun _ => xs_next.imp fun Γ3 h => ?_) (by omega)
    subst h
    exact ⟨_, _, rfl, rfl, rfl⟩

end
end Lk
set_option maxHeartbeats 4000000
namespace Lk
open PySem PySem.Spec PyProof.Rows L2
open C8 (Cal)
section
variable {K : PySem.W.Frag} {h : Heap} {mg : Str → Option Value}
theorem hfact (c : hSays K) (i : Nat) {f : He.Fa} (e : hfa[i]? = some f) : f.ok K = true := c.1.fact i e
theorem hmore (c : hSays K) : (∀ H : Hp, SqT K H (He.ga K "NOTHING") [.int 0, .int 0, .int 0, .int 0]) ∧ (∀ H : Hp, SqT K H (He.ga K "ONE") [.int 1, .int 0, .int 0, .int 0]) ∧ PySem.W.findIn K (.ref (netC K)) "__class__" = some (some (.builtin "object.__class__")) ∧
    PySem.W.specialIn K (.builtin "object.__class__") "__get__" = some (some (.builtin "getset_descriptor.__get__")) ∧ PySem.W.takesIn K (.builtin "object.__class__") = some true ∧ PySem.W.mroIn K (netC K) (.type "object") = some true := by
  have e : hex K = true := c.2
  unfold hex at e
  obtain ⟨e1, e⟩ := He.ba e
  obtain ⟨e2, e⟩ := He.ba e
  obtain ⟨e3, e⟩ := He.ba e
  obtain ⟨e4, e⟩ := He.ba e
  obtain ⟨e5, e6⟩ := He.ba e
  exact ⟨fun H => He.tupB_ok e1 H, fun H => He.tupB_ok e2 H, He.eqO_ok e3, He.eqO_ok e4, of_decide_eq_true e5, of_decide_eq_true e6⟩
theorem hbs (X : K.In h) (G : h.Ns mainGlobals mg) (c : hSays K) : Bs K mg :=
  ⟨He.free_ok X G (hfact c 58 (f := .free "isinstance") rfl),
   He.free_ok X G (hfact c 59 (f := .free "int") rfl),
   He.free_ok X G (hfact c 60 (f := .free "bool") rfl),
   He.free_ok X G (hfact c 61 (f := .free "len") rfl),
   He.free_ok X G (hfact c 62 (f := .free "all") rfl),
   He.free_ok X G (hfact c 63 (f := .free "any") rfl),
   He.free_ok X G (hfact c 64 (f := .free "list") rfl),
   He.free_ok X G (hfact c 65 (f := .free "tuple") rfl),
   He.free_ok X G (hfact c 66 (f := .free "dict") rfl),
   He.free_ok X G (hfact c 67 (f := .free "range") rfl),
   He.free_ok X G (hfact c 68 (f := .free "set") rfl),
   He.free_ok X G (hfact c 69 (f := .free "sorted") rfl),
   He.free_ok X G (hfact c 70 (f := .free "zip") rfl),
   He.free_ok X G (hfact c 71 (f := .free "enumerate") rfl),
   He.free_ok X G (hfact c 72 (f := .free "sum") rfl),
   He.free_ok X G (hfact c 73 (f := .free "abs") rfl),
   He.free_ok X G (hfact c 74 (f := .free "min") rfl),
   He.free_ok X G (hfact c 75 (f := .free "repr") rfl),
   He.int_ok X G (hfact c 76 (f := .int "TURNS" 8) rfl),
   He.int_ok X G (hfact c 77 (f := .int "MOST_PLACES" 12) rfl),
   He.int_ok X G (hfact c 78 (f := .int "MOST_THINGS_nets" 120) rfl),
   He.int_ok X G (hfact c 79 (f := .int "MOST_THINGS_looks" 12) rfl),
   ⟨_, (He.glo_ok X G (hfact c 56 (f := .glo "NOTHING") rfl)), (hmore c).1⟩, ⟨_, (He.glo_ok X G (hfact c 57 (f := .glo "ONE") rfl)), (hmore c).2.1⟩⟩
theorem hnf (c : hSays K) : NetF K where
  cls := He.cls_ok (hfact c 80 (f := .cls "Net") rfl)
  na := fun f hf => by
    simp only [netN, List.mem_cons, List.not_mem_nil, or_false] at hf
    rcases hf with rfl | rfl | rfl | rfl | rfl | rfl
    · exact He.noat_ok (hfact c 81 (f := .noat "Net" "things") rfl)
    · exact He.noat_ok (hfact c 82 (f := .noat "Net" "strings") rfl)
    · exact He.noat_ok (hfact c 83 (f := .noat "Net" "given") rfl)
    · exact He.noat_ok (hfact c 84 (f := .noat "Net" "kept") rfl)
    · exact He.noat_ok (hfact c 85 (f := .noat "Net" "looked") rfl)
    · exact He.noat_ok (hfact c 86 (f := .noat "Net" "turns") rfl)
  ic := (hmore c).2.2.1
  ig := (hmore c).2.2.2.1
  it := (hmore c).2.2.2.2.1
  im := (hmore c).2.2.2.2.2
end
theorem hlaw {P : Program} {w : World} {K : PySem.W.Frag} {h base : Heap} {mg : Str → Option Value} {fd : FuncData} (X : K.In h) (G : h.Ns mainGlobals mg) (c : hSays K) (FL : FnP K "law" (top 91) (He.ga K "law") fd) : FnG P w K mg base 12 (He.ga K "law") fd ["_law_script"] (spLaw K) := by
  have b := hbs X G c
  have nf := hnf c
  have hNet : mg "Net" = some (.ref (netC K)) := (He.glo_ok X G (hfact c 55 (f := .glo "Net") rfl))
  obtain ⟨_, F_is_integer⟩ := c.1.def_ 0 (d := ⟨("is_integer", none), "is_integer", "is_integer", defArgs (top 13), defBody (top 13), defScope (top 13), [], []⟩) rfl
  have m_is_integer : mg "is_integer" = some (.ref (He.ga K "is_integer")) := (He.glo_ok X G (hfact c 0 (f := .glo "is_integer") rfl))
  have q_is_integer := c_is_integer (P := P) (w := w) (base := base) F_is_integer m_is_integer b
  obtain ⟨_, F_is_within⟩ := c.1.def_ 1 (d := ⟨("is_within", none), "is_within", "is_within", defArgs (top 14), defBody (top 14), defScope (top 14), [], []⟩) rfl
  have m_is_within : mg "is_within" = some (.ref (He.ga K "is_within")) := (He.glo_ok X G (hfact c 1 (f := .glo "is_within") rfl))
  have q_is_within := c_is_within (P := P) (w := w) (base := base) F_is_within m_is_within b q_is_integer
  obtain ⟨_, F_is_bit⟩ := c.1.def_ 2 (d := ⟨("is_bit", none), "is_bit", "is_bit", defArgs (top 15), defBody (top 15), defScope (top 15), [], []⟩) rfl
  have m_is_bit : mg "is_bit" = some (.ref (He.ga K "is_bit")) := (He.glo_ok X G (hfact c 2 (f := .glo "is_bit") rfl))
  have q_is_bit := c_is_bit (P := P) (w := w) (base := base) F_is_bit m_is_bit b q_is_within
  obtain ⟨_, F_is_turn⟩ := c.1.def_ 3 (d := ⟨("is_turn", none), "is_turn", "is_turn", defArgs (top 16), defBody (top 16), defScope (top 16), [], []⟩) rfl
  have m_is_turn : mg "is_turn" = some (.ref (He.ga K "is_turn")) := (He.glo_ok X G (hfact c 3 (f := .glo "is_turn") rfl))
  have q_is_turn := c_is_turn (P := P) (w := w) (base := base) F_is_turn m_is_turn b q_is_within
  obtain ⟨_, F_is_amount⟩ := c.1.def_ 4 (d := ⟨("is_amount", none), "is_amount", "is_amount", defArgs (top 17), defBody (top 17), defScope (top 17), [], []⟩) rfl
  have m_is_amount : mg "is_amount" = some (.ref (He.ga K "is_amount")) := (He.glo_ok X G (hfact c 4 (f := .glo "is_amount") rfl))
  have q_is_amount := c_is_amount (P := P) (w := w) (base := base) F_is_amount m_is_amount b q_is_integer
  obtain ⟨_, F_is_spread⟩ := c.1.def_ 5 (d := ⟨("is_spread", none), "is_spread", "is_spread", defArgs (top 18), defBody (top 18), defScope (top 18), [], []⟩) rfl
  have m_is_spread : mg "is_spread" = some (.ref (He.ga K "is_spread")) := (He.glo_ok X G (hfact c 5 (f := .glo "is_spread") rfl))
  have q_is_spread := c_is_spread (P := P) (w := w) (base := base) F_is_spread m_is_spread b q_is_amount
  obtain ⟨_, F_is_lot⟩ := c.1.def_ 6 (d := ⟨("is_lot", none), "is_lot", "is_lot", defArgs (top 19), defBody (top 19), defScope (top 19), [], []⟩) rfl
  have m_is_lot : mg "is_lot" = some (.ref (He.ga K "is_lot")) := (He.glo_ok X G (hfact c 6 (f := .glo "is_lot") rfl))
  have q_is_lot := c_is_lot (P := P) (w := w) (base := base) F_is_lot m_is_lot b q_is_within
  obtain ⟨_, F_need_spread⟩ := c.1.def_ 7 (d := ⟨("need_spread", none), "need_spread", "need_spread", defArgs (top 20), defBody (top 20), defScope (top 20), [], []⟩) rfl
  have m_need_spread : mg "need_spread" = some (.ref (He.ga K "need_spread")) := (He.glo_ok X G (hfact c 7 (f := .glo "need_spread") rfl))
  have q_need_spread := c_need_spread (P := P) (w := w) (base := base) F_need_spread m_need_spread b q_is_spread
  obtain ⟨_, F_pairs_in⟩ := c.1.def_ 8 (d := ⟨("pairs_in", none), "pairs_in", "pairs_in", defArgs (top 21), defBody (top 21), defScope (top 21), [], []⟩) rfl
  have m_pairs_in : mg "pairs_in" = some (.ref (He.ga K "pairs_in")) := (He.glo_ok X G (hfact c 8 (f := .glo "pairs_in") rfl))
  have q_pairs_in := c_pairs_in (P := P) (w := w) (base := base) F_pairs_in m_pairs_in b q_is_integer
  obtain ⟨_, F_is_things⟩ := c.1.def_ 9 (d := ⟨("is_things", none), "is_things", "is_things", defArgs (top 32), defBody (top 32), defScope (top 32), [], []⟩) rfl
  have m_is_things : mg "is_things" = some (.ref (He.ga K "is_things")) := (He.glo_ok X G (hfact c 9 (f := .glo "is_things") rfl))
  have q_is_things := c_is_things (P := P) (w := w) (base := base) F_is_things m_is_things b q_is_lot
  obtain ⟨_, F_is_string⟩ := c.1.def_ 10 (d := ⟨("is_string", none), "is_string", "is_string", defArgs (top 33), defBody (top 33), defScope (top 33), [], []⟩) rfl
  have m_is_string : mg "is_string" = some (.ref (He.ga K "is_string")) := (He.glo_ok X G (hfact c 10 (f := .glo "is_string") rfl))
  have q_is_string := c_is_string (P := P) (w := w) (base := base) F_is_string m_is_string b q_is_things
  obtain ⟨_, F_strings_from⟩ := c.1.def_ 11 (d := ⟨("strings_from", none), "strings_from", "strings_from", defArgs (top 34), defBody (top 34), defScope (top 34), [], []⟩) rfl
  have m_strings_from : mg "strings_from" = some (.ref (He.ga K "strings_from")) := (He.glo_ok X G (hfact c 11 (f := .glo "strings_from") rfl))
  have q_strings_from := c_strings_from (P := P) (w := w) (base := base) F_strings_from m_strings_from b q_is_string
  obtain ⟨_, F_things_from⟩ := c.1.def_ 12 (d := ⟨("things_from", none), "things_from", "things_from", defArgs (top 35), defBody (top 35), defScope (top 35), [], []⟩) rfl
  have m_things_from : mg "things_from" = some (.ref (He.ga K "things_from")) := (He.glo_ok X G (hfact c 12 (f := .glo "things_from") rfl))
  have q_things_from := c_things_from (P := P) (w := w) (base := base) F_things_from m_things_from b q_is_things
  obtain ⟨_, F_turns_from⟩ := c.1.def_ 13 (d := ⟨("turns_from", none), "turns_from", "turns_from", defArgs (top 36), defBody (top 36), defScope (top 36), [], []⟩) rfl
  have m_turns_from : mg "turns_from" = some (.ref (He.ga K "turns_from")) := (He.glo_ok X G (hfact c 13 (f := .glo "turns_from") rfl))
  have q_turns_from := c_turns_from (P := P) (w := w) (base := base) F_turns_from m_turns_from b q_pairs_in q_is_within q_is_turn
  obtain ⟨_, F_plus⟩ := c.1.def_ 14 (d := ⟨("plus", none), "plus", "plus", defArgs (top 48), defBody (top 48), defScope (top 48), [], []⟩) rfl
  have m_plus : mg "plus" = some (.ref (He.ga K "plus")) := (He.glo_ok X G (hfact c 14 (f := .glo "plus") rfl))
  have q_plus := c_plus (P := P) (w := w) (base := base) F_plus m_plus
  obtain ⟨_, F_minus⟩ := c.1.def_ 15 (d := ⟨("minus", none), "minus", "minus", defArgs (top 49), defBody (top 49), defScope (top 49), [], []⟩) rfl
  have m_minus : mg "minus" = some (.ref (He.ga K "minus")) := (He.glo_ok X G (hfact c 15 (f := .glo "minus") rfl))
  have q_minus := c_minus (P := P) (w := w) (base := base) F_minus m_minus b
  obtain ⟨_, F_times⟩ := c.1.def_ 16 (d := ⟨("times", none), "times", "times", defArgs (top 50), defBody (top 50), defScope (top 50), [], []⟩) rfl
  have m_times : mg "times" = some (.ref (He.ga K "times")) := (He.glo_ok X G (hfact c 16 (f := .glo "times") rfl))
  have q_times := c_times (P := P) (w := w) (base := base) F_times m_times b
  obtain ⟨_, F_turn_by⟩ := c.1.def_ 17 (d := ⟨("turn_by", none), "turn_by", "turn_by", defArgs (top 51), defBody (top 51), defScope (top 51), [], []⟩) rfl
  have m_turn_by : mg "turn_by" = some (.ref (He.ga K "turn_by")) := (He.glo_ok X G (hfact c 17 (f := .glo "turn_by") rfl))
  have q_turn_by := c_turn_by (P := P) (w := w) (base := base) F_turn_by m_turn_by b
  obtain ⟨_, F_mirror⟩ := c.1.def_ 18 (d := ⟨("mirror", none), "mirror", "mirror", defArgs (top 52), defBody (top 52), defScope (top 52), [], []⟩) rfl
  have m_mirror : mg "mirror" = some (.ref (He.ga K "mirror")) := (He.glo_ok X G (hfact c 18 (f := .glo "mirror") rfl))
  have q_mirror := c_mirror (P := P) (w := w) (base := base) F_mirror m_mirror b
  obtain ⟨_, F_length_in⟩ := c.1.def_ 19 (d := ⟨("length_in", none), "length_in", "length_in", defArgs (top 53), defBody (top 53), defScope (top 53), [], []⟩) rfl
  have m_length_in : mg "length_in" = some (.ref (He.ga K "length_in")) := (He.glo_ok X G (hfact c 19 (f := .glo "length_in") rfl))
  have q_length_in := c_length_in (P := P) (w := w) (base := base) F_length_in m_length_in b
  obtain ⟨_, F_others⟩ := c.1.def_ 20 (d := ⟨("others", none), "others", "others", defArgs (top 54), defBody (top 54), defScope (top 54), [], []⟩) rfl
  have m_others : mg "others" = some (.ref (He.ga K "others")) := (He.glo_ok X G (hfact c 20 (f := .glo "others") rfl))
  have q_others := c_others (P := P) (w := w) (base := base) F_others m_others b q_times q_mirror
  obtain ⟨_, F_width⟩ := c.1.def_ 21 (d := ⟨("width", none), "width", "width", defArgs (top 56), defBody (top 56), defScope (top 56), [], []⟩) rfl
  have m_width : mg "width" = some (.ref (He.ga K "width")) := (He.glo_ok X G (hfact c 21 (f := .glo "width") rfl))
  have q_width := c_width (P := P) (w := w) (base := base) F_width m_width b
  obtain ⟨_, F_divisor_of⟩ := c.1.def_ 22 (d := ⟨("divisor_of", none), "divisor_of", "divisor_of", defArgs (top 57), defBody (top 57), defScope (top 57), [], []⟩) rfl
  have m_divisor_of : mg "divisor_of" = some (.ref (He.ga K "divisor_of")) := (He.glo_ok X G (hfact c 22 (f := .glo "divisor_of") rfl))
  have q_divisor_of := c_divisor_of (P := P) (w := w) (base := base) F_divisor_of m_divisor_of b
  obtain ⟨_, F_plain⟩ := c.1.def_ 23 (d := ⟨("plain", none), "plain", "plain", defArgs (top 58), defBody (top 58), defScope (top 58), [], []⟩) rfl
  have m_plain : mg "plain" = some (.ref (He.ga K "plain")) := (He.glo_ok X G (hfact c 23 (f := .glo "plain") rfl))
  have q_plain := c_plain (P := P) (w := w) (base := base) F_plain m_plain b q_others q_times q_divisor_of
  obtain ⟨_, F_all_even⟩ := c.1.def_ 24 (d := ⟨("all_even", none), "all_even", "all_even", defArgs (top 59), defBody (top 59), defScope (top 59), [], []⟩) rfl
  have m_all_even : mg "all_even" = some (.ref (He.ga K "all_even")) := (He.glo_ok X G (hfact c 24 (f := .glo "all_even") rfl))
  have q_all_even := c_all_even (P := P) (w := w) (base := base) F_all_even m_all_even b
  obtain ⟨_, F_both_of⟩ := c.1.def_ 25 (d := ⟨("both_of", none), "both_of", "both_of", defArgs (top 60), defBody (top 60), defScope (top 60), [], []⟩) rfl
  have m_both_of : mg "both_of" = some (.ref (He.ga K "both_of")) := (He.glo_ok X G (hfact c 25 (f := .glo "both_of") rfl))
  have q_both_of := c_both_of (P := P) (w := w) (base := base) F_both_of m_both_of b q_times
  obtain ⟨_, F_tie⟩ := c.1.def_ 26 (d := ⟨("tie", none), "tie", "tie", defArgs (top 61), defBody (top 61), defScope (top 61), [], []⟩) rfl
  have m_tie : mg "tie" = some (.ref (He.ga K "tie")) := (He.glo_ok X G (hfact c 26 (f := .glo "tie") rfl))
  have q_tie := c_tie (P := P) (w := w) (base := base) F_tie m_tie b q_minus
  obtain ⟨_, F_look⟩ := c.1.def_ 27 (d := ⟨("look", none), "look", "look", defArgs (top 62), defBody (top 62), defScope (top 62), [], []⟩) rfl
  have m_look : mg "look" = some (.ref (He.ga K "look")) := (He.glo_ok X G (hfact c 27 (f := .glo "look") rfl))
  have q_look := c_look (P := P) (w := w) (base := base) F_look m_look b q_plus q_turn_by
  obtain ⟨_, F_lay⟩ := c.1.def_ 28 (d := ⟨("lay", none), "lay", "lay", defArgs (top 63), defBody (top 63), defScope (top 63), [], []⟩) rfl
  have m_lay : mg "lay" = some (.ref (He.ga K "lay")) := (He.glo_ok X G (hfact c 28 (f := .glo "lay") rfl))
  have q_lay := c_lay (P := P) (w := w) (base := base) F_lay m_lay b
  obtain ⟨_, F_plain_form⟩ := c.1.def_ 29 (d := ⟨("plain_form", none), "plain_form", "plain_form", defArgs (top 64), defBody (top 64), defScope (top 64), [], []⟩) rfl
  have m_plain_form : mg "plain_form" = some (.ref (He.ga K "plain_form")) := (He.glo_ok X G (hfact c 29 (f := .glo "plain_form") rfl))
  have q_plain_form := c_plain_form (P := P) (w := w) (base := base) F_plain_form m_plain_form b q_plain q_need_spread
  obtain ⟨_, F_beside⟩ := c.1.def_ 30 (d := ⟨("beside", none), "beside", "beside", defArgs (top 65), defBody (top 65), defScope (top 65), [], []⟩) rfl
  have m_beside : mg "beside" = some (.ref (He.ga K "beside")) := (He.glo_ok X G (hfact c 30 (f := .glo "beside") rfl))
  have q_beside := c_beside (P := P) (w := w) (base := base) F_beside m_beside b q_need_spread q_width q_both_of
  obtain ⟨_, FN⟩ := c.1.def_ 55 (d := ⟨("Net", some "__init__"), "__init__", "Net.__init__", defArgs sInit, defBody sInit, defScope sInit, [], []⟩) rfl
  have q_Net : QNet P w K mg base := c_net FN (He.mkr_ok (hfact c 87 (f := .mkr "Net") rfl)) hNet b nf q_is_within q_strings_from q_things_from q_turns_from
  obtain ⟨_, F_need_net⟩ := c.1.def_ 31 (d := ⟨("need_net", none), "need_net", "need_net", defArgs (top 41), defBody (top 41), defScope (top 41), [.str "net"], []⟩) rfl
  have m_need_net : mg "need_net" = some (.ref (He.ga K "need_net")) := (He.glo_ok X G (hfact c 31 (f := .glo "need_net") rfl))
  have q_need_net := c_need_net (P := P) (w := w) (base := base) F_need_net m_need_net b nf hNet
  obtain ⟨_, F_with_numbers⟩ := c.1.def_ 32 (d := ⟨("with_numbers", none), "with_numbers", "with_numbers", defArgs (top 42), defBody (top 42), defScope (top 42), [], []⟩) rfl
  have m_with_numbers : mg "with_numbers" = some (.ref (He.ga K "with_numbers")) := (He.glo_ok X G (hfact c 32 (f := .glo "with_numbers") rfl))
  have q_with_numbersD := c_with_numbersD (P := P) (w := w) (base := base) F_with_numbers m_with_numbers b nf
  have q_with_numbersL := c_with_numbersL (P := P) (w := w) (base := base) F_with_numbers m_with_numbers b nf
  obtain ⟨_, F_need_begin⟩ := c.1.def_ 33 (d := ⟨("need_begin", none), "need_begin", "need_begin", defArgs (top 68), defBody (top 68), defScope (top 68), [], []⟩) rfl
  have m_need_begin : mg "need_begin" = some (.ref (He.ga K "need_begin")) := (He.glo_ok X G (hfact c 33 (f := .glo "need_begin") rfl))
  have q_need_begin := c_need_begin (P := P) (w := w) (base := base) F_need_begin m_need_begin b nf q_width
  obtain ⟨_, F_need_order⟩ := c.1.def_ 34 (d := ⟨("need_order", none), "need_order", "need_order", defArgs (top 69), defBody (top 69), defScope (top 69), [], []⟩) rfl
  have m_need_order : mg "need_order" = some (.ref (He.ga K "need_order")) := (He.glo_ok X G (hfact c 34 (f := .glo "need_order") rfl))
  have q_need_order := c_need_order (P := P) (w := w) (base := base) F_need_order m_need_order b nf q_is_lot
  obtain ⟨_, F_need_falls⟩ := c.1.def_ 35 (d := ⟨("need_falls", none), "need_falls", "need_falls", defArgs (top 70), defBody (top 70), defScope (top 70), [], []⟩) rfl
  have m_need_falls : mg "need_falls" = some (.ref (He.ga K "need_falls")) := (He.glo_ok X G (hfact c 35 (f := .glo "need_falls") rfl))
  have q_need_falls := c_need_falls (P := P) (w := w) (base := base) F_need_falls m_need_falls b q_is_bit
  obtain ⟨_, F_begin⟩ := c.1.def_ 36 (d := ⟨("begin", none), "begin", "begin", defArgs (top 71), defBody (top 71), defScope (top 71), [], []⟩) rfl
  have m_begin : mg "begin" = some (.ref (He.ga K "begin")) := (He.glo_ok X G (hfact c 36 (f := .glo "begin") rfl))
  have q_begin := c_begin (P := P) (w := w) (base := base) F_begin m_begin b nf q_lay q_both_of q_all_even q_tie
  obtain ⟨_, F_left_behind⟩ := c.1.def_ 37 (d := ⟨("left_behind", none), "left_behind", "left_behind", defArgs (top 72), defBody (top 72), defScope (top 72), [], []⟩) rfl
  have m_left_behind : mg "left_behind" = some (.ref (He.ga K "left_behind")) := (He.glo_ok X G (hfact c 37 (f := .glo "left_behind") rfl))
  have q_left_behind := c_left_behind (P := P) (w := w) (base := base) F_left_behind m_left_behind b nf q_begin q_look
  obtain ⟨_, F_asked_for⟩ := c.1.def_ 38 (d := ⟨("asked_for", none), "asked_for", "asked_for", defArgs (top 73), defBody (top 73), defScope (top 73), [], []⟩) rfl
  have m_asked_for : mg "asked_for" = some (.ref (He.ga K "asked_for")) := (He.glo_ok X G (hfact c 38 (f := .glo "asked_for") rfl))
  have q_asked_for := c_asked_for (P := P) (w := w) (base := base) F_asked_for m_asked_for b nf q_need_net q_need_spread q_need_order q_need_falls q_need_begin q_left_behind
  obtain ⟨_, F_bare_end⟩ := c.1.def_ 39 (d := ⟨("bare_end", none), "bare_end", "bare_end", defArgs (top 74), defBody (top 74), defScope (top 74), [], []⟩) rfl
  have m_bare_end : mg "bare_end" = some (.ref (He.ga K "bare_end")) := (He.glo_ok X G (hfact c 39 (f := .glo "bare_end") rfl))
  have q_bare_end := c_bare_end (P := P) (w := w) (base := base) F_bare_end m_bare_end b nf q_asked_for q_plain q_lay
  obtain ⟨_, F_bare_lengths⟩ := c.1.def_ 40 (d := ⟨("bare_lengths", none), "bare_lengths", "bare_lengths", defArgs (top 75), defBody (top 75), defScope (top 75), [], []⟩) rfl
  have m_bare_lengths : mg "bare_lengths" = some (.ref (He.ga K "bare_lengths")) := (He.glo_ok X G (hfact c 40 (f := .glo "bare_lengths") rfl))
  have q_bare_lengths := c_bare_lengths (P := P) (w := w) (base := base) F_bare_lengths m_bare_lengths b nf q_asked_for q_length_in
  obtain ⟨_, F_aside_nets⟩ := c.1.def_ 41 (d := ⟨("aside_nets", none), "aside_nets", "aside_nets", defArgs (top 44), defBody (top 44), defScope (top 44), [], []⟩) rfl
  have m_aside_nets : mg "aside_nets" = some (.ref (He.ga K "aside_nets")) := (He.glo_ok X G (hfact c 41 (f := .glo "aside_nets") rfl))
  have q_aside_nets := c_aside_nets (P := P) (w := w) (base := base) F_aside_nets m_aside_nets b nf q_need_net q_with_numbersL q_Net
  obtain ⟨_, F_joined_nets⟩ := c.1.def_ 42 (d := ⟨("joined_nets", none), "joined_nets", "joined_nets", defArgs (top 43), defBody (top 43), defScope (top 43), [], []⟩) rfl
  have m_joined_nets : mg "joined_nets" = some (.ref (He.ga K "joined_nets")) := (He.glo_ok X G (hfact c 42 (f := .glo "joined_nets") rfl))
  have q_joined_nets := c_joined_nets (P := P) (w := w) (base := base) F_joined_nets m_joined_nets b nf q_need_net q_with_numbersD q_Net
  obtain ⟨_, F__law_heap⟩ := c.1.def_ 43 (d := ⟨("_law_heap", none), "_law_heap", "_law_heap", defArgs (top 77), defBody (top 77), defScope (top 77), [], []⟩) rfl
  have m__law_heap : mg "_law_heap" = some (.ref (He.ga K "_law_heap")) := (He.glo_ok X G (hfact c 43 (f := .glo "_law_heap") rfl))
  have q__law_heap := c_l_heap (P := P) (w := w) (base := base) F__law_heap m__law_heap b
  obtain ⟨_, F__law_sift⟩ := c.1.def_ 44 (d := ⟨("_law_sift", none), "_law_sift", "_law_sift", defArgs (top 78), defBody (top 78), defScope (top 78), [], []⟩) rfl
  have m__law_sift : mg "_law_sift" = some (.ref (He.ga K "_law_sift")) := (He.glo_ok X G (hfact c 44 (f := .glo "_law_sift") rfl))
  have q__law_sift := c_l_sift (P := P) (w := w) (base := base) F__law_sift m__law_sift b
  obtain ⟨_, F__law_any_of⟩ := c.1.def_ 45 (d := ⟨("_law_any_of", none), "_law_any_of", "_law_any_of", defArgs (top 79), defBody (top 79), defScope (top 79), [], []⟩) rfl
  have m__law_any_of : mg "_law_any_of" = some (.ref (He.ga K "_law_any_of")) := (He.glo_ok X G (hfact c 45 (f := .glo "_law_any_of") rfl))
  have q__law_any_of := c_l_any_of (P := P) (w := w) (base := base) F__law_any_of m__law_any_of b q__law_sift
  obtain ⟨_, F__law_mixed⟩ := c.1.def_ 46 (d := ⟨("_law_mixed", none), "_law_mixed", "_law_mixed", defArgs (top 80), defBody (top 80), defScope (top 80), [], []⟩) rfl
  have m__law_mixed : mg "_law_mixed" = some (.ref (He.ga K "_law_mixed")) := (He.glo_ok X G (hfact c 46 (f := .glo "_law_mixed") rfl))
  have q__law_mixed := c_l_mixed (P := P) (w := w) (base := base) F__law_mixed m__law_mixed b q__law_sift
  obtain ⟨_, F__law_turned⟩ := c.1.def_ 47 (d := ⟨("_law_turned", none), "_law_turned", "_law_turned", defArgs (top 81), defBody (top 81), defScope (top 81), [], []⟩) rfl
  have m__law_turned : mg "_law_turned" = some (.ref (He.ga K "_law_turned")) := (He.glo_ok X G (hfact c 47 (f := .glo "_law_turned") rfl))
  have q__law_turned := c_l_turned (P := P) (w := w) (base := base) F__law_turned m__law_turned b
  obtain ⟨_, F__law_spread⟩ := c.1.def_ 48 (d := ⟨("_law_spread", none), "_law_spread", "_law_spread", defArgs (top 85), defBody (top 85), defScope (top 85), [], []⟩) rfl
  have m__law_spread : mg "_law_spread" = some (.ref (He.ga K "_law_spread")) := (He.glo_ok X G (hfact c 48 (f := .glo "_law_spread") rfl))
  have q__law_spread := c_l_spread (P := P) (w := w) (base := base) F__law_spread m__law_spread b q__law_sift q__law_turned
  obtain ⟨_, F__law_drawn⟩ := c.1.def_ 49 (d := ⟨("_law_drawn", none), "_law_drawn", "_law_drawn", defArgs (top 86), defBody (top 86), defScope (top 86), [], []⟩) rfl
  have m__law_drawn : mg "_law_drawn" = some (.ref (He.ga K "_law_drawn")) := (He.glo_ok X G (hfact c 49 (f := .glo "_law_drawn") rfl))
  have q__law_drawn := c_l_drawn (P := P) (w := w) (base := base) F__law_drawn m__law_drawn b q__law_sift q__law_any_of q__law_mixed
  obtain ⟨_, F__law_net⟩ := c.1.def_ 50 (d := ⟨("_law_net", none), "_law_net", "_law_net", defArgs (top 87), defBody (top 87), defScope (top 87), [], []⟩) rfl
  have m__law_net : mg "_law_net" = some (.ref (He.ga K "_law_net")) := (He.glo_ok X G (hfact c 50 (f := .glo "_law_net") rfl))
  have q__law_net := c_l_net (P := P) (w := w) (base := base) F__law_net m__law_net b q_Net
  obtain ⟨_, F__law_second⟩ := c.1.def_ 51 (d := ⟨("_law_second", none), "_law_second", "_law_second", defArgs (top 88), defBody (top 88), defScope (top 88), [], []⟩) rfl
  have m__law_second : mg "_law_second" = some (.ref (He.ga K "_law_second")) := (He.glo_ok X G (hfact c 51 (f := .glo "_law_second") rfl))
  have q__law_second := c_l_second (P := P) (w := w) (base := base) F__law_second m__law_second b q__law_sift q__law_mixed q__law_drawn
  obtain ⟨_, F__law_joined_right⟩ := c.1.def_ 52 (d := ⟨("_law_joined_right", none), "_law_joined_right", "_law_joined_right", defArgs (top 89), defBody (top 89), defScope (top 89), [], []⟩) rfl
  have m__law_joined_right : mg "_law_joined_right" = some (.ref (He.ga K "_law_joined_right")) := (He.glo_ok X G (hfact c 52 (f := .glo "_law_joined_right") rfl))
  have q__law_joined_right := calG_of (st := top 89) F__law_joined_right m__law_joined_right (g_l_joined_right (P := P) (w := w) (mg := mg) (base := base) F__law_joined_right b nf q__law_sift q__law_mixed q__law_spread q__law_net q_joined_nets q_bare_end) fun _ _ _ _ _ _ us hl => match us, hl with | [_, _, _], _ => rfl
  obtain ⟨_, F__law_aside_right⟩ := c.1.def_ 53 (d := ⟨("_law_aside_right", none), "_law_aside_right", "_law_aside_right", defArgs (top 90), defBody (top 90), defScope (top 90), [], []⟩) rfl
  have m__law_aside_right : mg "_law_aside_right" = some (.ref (He.ga K "_law_aside_right")) := (He.glo_ok X G (hfact c 53 (f := .glo "_law_aside_right") rfl))
  have q__law_aside_right := calG_of (st := top 90) F__law_aside_right m__law_aside_right (g_l_aside_right (P := P) (w := w) (mg := mg) (base := base) F__law_aside_right b nf q__law_sift q__law_spread q__law_net q_aside_nets q_bare_end q_bare_lengths q_beside q_plain_form) fun _ _ _ _ _ _ us hl => match us, hl with | [_, _, _], _ => rfl
  exact g_law FL b q__law_heap q__law_drawn q__law_second q__law_joined_right q__law_aside_right
end Lk
open PySem PySem.W PySem.Calls PyProof.Rows
theorem PySem.Challenge.cw_lookmade_k24_whole_joined_nets_end_alike_holds : PySem.Challenge.rw_lookmade_k24_whole_joined_nets_end_alike.Holds := by
  w_on; o_law
  refine HandSHeadRun.head_any (r := OpenLaw.row PySem.Challenge.rw_lookmade_k24_whole_joined_nets_end_alike) (q := view (OpenLaw.row PySem.Challenge.rw_lookmade_k24_whole_joined_nets_end_alike).prog [91]) (H := Lk.hhook) (ob := Lk.hob) (M := 6000) (loose := Lk.hnm) (d := HandSHeadRun.topDef (OpenLaw.row PySem.Challenge.rw_lookmade_k24_whole_joined_nets_end_alike).prog 91) (kwd := []) Lk.hob_eq
    (by kernel_rfl) (fun s => by kernel_rfl) Lk.hrun (by kernel_rfl) (by kernel_rfl) (by kernel_rfl) (by rfl) (by first | assumption | decide +kernel) (by decide +kernel) ⟨rfl, rfl, rfl, rfl, rfl, by decide +kernel⟩ ?hw ?hc
  case hw => w_witness2
  case hc =>
    refine Lk.walk_g (l := PySem.Challenge.rw_lookmade_k24_whole_joined_nets_end_alike) (n := 63) (k := 12) (x := "_law_script") rfl (by decide) (by kernel_rfl) ⟨rfl, by decide, by decide⟩ ?F
    intro w mg fa h Y G hmg0
    obtain ⟨K, KX, c⟩ := Y
    have hmg : mg ("law" : PySem.Str) = some (.ref fa) := by
      have e : (HandSHeadRun.topDef (OpenLaw.row PySem.Challenge.rw_lookmade_k24_whole_joined_nets_end_alike).prog 91).name = ("law" : PySem.Str) := by kernel_rfl
      rw [← e]
      exact hmg0
    obtain ⟨fd, F⟩ := c.1.def_ 54 (d := ⟨("law", none), "law", "law", L2.defArgs (Lk.top 91), L2.defBody (Lk.top 91), L2.defScope (Lk.top 91), [], []⟩) rfl
    have e := hmg.symm.trans (He.glo_ok KX G (Lk.hfact c 54 (f := .glo "law") rfl))
    cases e
    have bb := L2.FunD.bindsA (ps := ["_law_script"]) F fun _ _ _ _ _ _ us hl => match us, hl with | [_], _ => rfl
    exact ⟨K, fd, Lk.spLaw K, KX, fun s v => bb s [v] rfl, fun H a ns hl _ hS => ⟨a, ns, rfl, hS, fun _ => rfl⟩, fun base KB GB => Lk.hlaw KB GB c F⟩
