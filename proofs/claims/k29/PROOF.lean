import PyProof.Rows.All
import Wide.All
import OpenK.AllK
import Wide.FinOn
import PyProof.ReprRoads
import HandS.ForMost
import HandS.Wide
import HandS.TupAny
import HandS.TupMul
import HandS.IsInst
import HandS.Style
import HandS.Walk
import HandS.GenList
import HandS.EndBits
import PySem.Challenge.RW_weandthey_k29_whole_programs_renamed
set_option Elab.async false
set_option linter.all false
set_option maxRecDepth 100000
set_option maxHeartbeats 4000000
/-! ## frames, data, small rules -/
namespace K29
open PySem L2

def top (i : Nat) : Stmt := PySem.Challenge.pw_weandthey_k29_whole_programs_renamed.main.body.getD i (.Pass ⟨0, 0, 0, 0⟩)

/-! ### frames: all is kept but what stands at ms; tuples are always kept -/
structure Kp (ms : List Addr) (H H' : Hp) : Prop where
  keep : ∀ b o, H b = some o → b ∉ ms → H' b = some o
  tups : ∀ b xs, H b = some (.tup xs) → H' b = some (.tup xs)
theorem Kp.refl (ms : List Addr) (H : Hp) : Kp ms H H := ⟨fun _ _ h _ => h, fun _ _ h => h⟩
theorem Kp.trans {ms : List Addr} {H H1 H2 : Hp} (a : Kp ms H H1) (b : Kp ms H1 H2) : Kp ms H H2 :=
  ⟨fun c o h n => b.keep c o (a.keep c o h n) n, fun c xs h => b.tups c xs (a.tups c xs h)⟩
theorem Kp.mono {ms ms' : List Addr} {H H' : Hp} (a : Kp ms H H') (h : ∀ x ∈ ms, x ∈ ms') : Kp ms' H H' :=
  ⟨fun c o e n => a.keep c o e fun z => n (h c z), a.tups⟩
theorem Kp.of_same {ms : List Addr} {H H' : Hp} (s : Same H H') : Kp ms H H' := ⟨fun b o h _ => s b o h, fun b xs h => s b _ h⟩
theorem Kp.same {H H' : Hp} (k : Kp [] H H') : Same H H' := fun b o h => k.keep b o h (by simp)
theorem Same.new {H : Hp} {p : Addr} (h : H p = none) (o : HO) : Same H (upd H p o) := fun b u q => by
  rw [upd_ne (ne_of_none q h)]
  exact q
theorem Kp.new {ms : List Addr} {H : Hp} {p : Addr} (h : H p = none) (o : HO) : Kp ms H (upd H p o) := .of_same (Same.new h o)
/-- what was no tuple is stored anew -/
theorem Kp.put {ms : List Addr} {H : Hp} {p : Addr} (hp : p ∈ ms) (hn : ∀ xs, H p ≠ some (.tup xs)) (o : HO) : Kp ms H (upd H p o) :=
  ⟨fun b u e n => by rw [upd_ne (fun z : b = p => n (z ▸ hp))]; exact e, fun b xs e => by rw [upd_ne (fun z : b = p => hn xs (z ▸ e))]; exact e⟩
theorem Kp.putL {ms : List Addr} {H : Hp} {p : Addr} {xs : List V} (hp : p ∈ ms) (h : H p = some (.lst xs)) (o : HO) : Kp ms H (upd H p o) :=
  Kp.put hp (fun ys e => by rw [h] at e; cases e) o
theorem Same.kp {ms : List Addr} {H H1 H2 : Hp} (s : Same H H1) (k : Kp ms H1 H2) : Kp ms H H2 := (Kp.of_same s).trans k
/-- new at H's entry: storing there touches nothing of H -/
theorem Same.put {H H1 : Hp} {p : Addr} (s : Same H H1) (h : H p = none) (o : HO) : Same H (upd H1 p o) := fun b u q => by
  rw [upd_ne (ne_of_none q h)]
  exact s b u q
theorem Kp.put_new {ms : List Addr} {H H1 : Hp} {p : Addr} (k : Kp ms H H1) (h : H p = none) (o : HO) : Kp ms H (upd H1 p o) :=
  ⟨fun b u e n => by rw [upd_ne (ne_of_none e h)]; exact k.keep b u e n, fun b xs e => by rw [upd_ne (ne_of_none e h)]; exact k.tups b xs e⟩
/-- what was new at H is no worry -/
theorem Kp.drop {ms : List Addr} {H H' : Hp} {p : Addr} (k : Kp (p :: ms) H H') (h : H p = none) : Kp ms H H' :=
  ⟨fun b u e n => k.keep b u e (by rw [List.mem_cons]; exact fun z => z.elim (fun z => by rw [z, h] at e; cases e) n), k.tups⟩
theorem Kp.free {H H' : Hp} (k : Kp [] H H') {l : Addr} (h : H' l = none) : H l = none := k.same.free h

/-! ### data -/
mutual
/-- the value v stands for the data -/
def Rep (H : Hp) : PyData → V → Prop
  | .int i, v => v = .int i
  | .str x, v => v = .str x
  | .tuple ds, v => ∃ p xs, v = .ref p ∧ H p = some (.tup xs) ∧ RepL H ds xs
  | .none, _ => False
  | .bool _, _ => False
  | .list _, _ => False
  | .dict _, _ => False
def RepL (H : Hp) : List PyData → List V → Prop
  | [], xs => xs = []
  | d :: ds, xs => ∃ v r, xs = v :: r ∧ Rep H d v ∧ RepL H ds r
end
abbrev TupsK (H H' : Hp) : Prop := ∀ b xs, H b = some (.tup xs) → H' b = some (.tup xs)
mutual
theorem Rep.mono {H H' : Hp} (k : TupsK H H') : ∀ (d : PyData) (v : V), Rep H d v → Rep H' d v
  | .int _, _, h => h
  | .str _, _, h => h
  | .tuple ds, _, ⟨p, xs, e, hp, h⟩ => ⟨p, xs, e, k p xs hp, RepL.mono k ds xs h⟩
  | .none, _, h => h.elim
  | .bool _, _, h => h.elim
  | .list _, _, h => h.elim
  | .dict _, _, h => h.elim
theorem RepL.mono {H H' : Hp} (k : TupsK H H') : ∀ (ds : List PyData) (xs : List V), RepL H ds xs → RepL H' ds xs
  | [], _, h => h
  | d :: ds, _, ⟨v, r, e, h1, h2⟩ => ⟨v, r, e, Rep.mono k d v h1, RepL.mono k ds r h2⟩
end
theorem Rep.kp {H H' : Hp} {ms : List Addr} {d : PyData} {v : V} (h : Rep H d v) (k : Kp ms H H') : Rep H' d v := Rep.mono k.tups d v h
theorem RepL.kp {H H' : Hp} {ms : List Addr} {ds : List PyData} {xs : List V} (h : RepL H ds xs) (k : Kp ms H H') : RepL H' ds xs := RepL.mono k.tups ds xs h
theorem Same.tups {H H' : Hp} (s : Same H H') : TupsK H H' := fun b _ h => s b _ h
theorem Rep.sm {H H' : Hp} {d : PyData} {v : V} (h : Rep H d v) (k : Same H H') : Rep H' d v := Rep.mono (Same.tups k) d v h
theorem RepL.sm {H H' : Hp} {ds : List PyData} {xs : List V} (h : RepL H ds xs) (k : Same H H') : RepL H' ds xs := RepL.mono (Same.tups k) ds xs h
theorem RepL.len {H : Hp} : ∀ {ds : List PyData} {xs : List V}, RepL H ds xs → xs.length = ds.length
  | [], _, h => by rw [show _ = [] from h]; rfl
  | d :: ds, _, ⟨v, r, e, _, h2⟩ => by rw [e, List.length_cons, List.length_cons, RepL.len h2]
theorem RepL.get {H : Hp} : ∀ {ds : List PyData} {xs : List V} {i : Nat} {v : V}, RepL H ds xs → xs[i]? = some v → ∃ d, ds[i]? = some d ∧ Rep H d v
  | [], _, i, v, h, e => by rw [show _ = [] from h] at e; simp at e
  | d :: ds, _, 0, v, ⟨w, r, e1, h1, _⟩, e => by
    rw [e1] at e
    have e' : w = v := by simpa using e
    exact ⟨d, rfl, e' ▸ h1⟩
  | d :: ds, _, i + 1, v, ⟨w, r, e1, _, h2⟩, e => by
    rw [e1] at e
    obtain ⟨d', q1, q2⟩ := RepL.get (i := i) (v := v) h2 (by simpa using e)
    exact ⟨d', by simpa using q1, q2⟩
theorem RepL.get' {H : Hp} : ∀ {ds : List PyData} {xs : List V} {i : Nat} {d : PyData}, RepL H ds xs → ds[i]? = some d → ∃ v, xs[i]? = some v ∧ Rep H d v
  | [], _, i, d, h, e => by simp at e
  | d :: ds, _, 0, d', ⟨w, r, e1, h1, _⟩, e => by
    have e' : d = d' := by simpa using e
    exact ⟨w, by rw [e1]; rfl, e' ▸ h1⟩
  | d :: ds, _, i + 1, d', ⟨w, r, e1, _, h2⟩, e => by
    obtain ⟨v, q1, q2⟩ := RepL.get' (i := i) (d := d') h2 (by simpa using e)
    exact ⟨v, by rw [e1]; simpa using q1, q2⟩
theorem RepL.append {H : Hp} : ∀ {ds es : List PyData} {xs ys : List V}, RepL H ds xs → RepL H es ys → RepL H (ds ++ es) (xs ++ ys)
  | [], _, _, _, h, g => by rw [show _ = [] from h]; exact g
  | d :: ds, _, _, _, ⟨v, r, e, h1, h2⟩, g => by rw [e]; exact ⟨v, r ++ _, rfl, h1, RepL.append h2 g⟩
theorem RepL.one {H : Hp} {d : PyData} {v : V} (h : Rep H d v) : RepL H [d] [v] := ⟨v, [], rfl, h, rfl⟩
theorem RepL.drop {H : Hp} : ∀ {ds : List PyData} {xs : List V} (n : Nat), RepL H ds xs → RepL H (ds.drop n) (xs.drop n)
  | _, _, 0, h => h
  | [], _, n + 1, h => by rw [show _ = [] from h]; simp [RepL]
  | d :: ds, _, n + 1, ⟨v, r, e, h1, h2⟩ => by rw [e]; exact RepL.drop n h2

/-! the library's own word for data, for == and repr -/
mutual
theorem Rep.dp {K : PySem.W.Frag} {H : Hp} : ∀ (d : PyData) (v : V), Rep H d v → Dp K H v d
  | .int i, v, h => by rw [show v = .int i from h]; exact .int i
  | .str x, v, h => by rw [show v = .str x from h]; exact .str x
  | .tuple ds, v, ⟨p, xs, e, hp, h⟩ => by rw [e]; exact .tup (SqT.of hp) (RepL.dp ds xs h)
  | .none, _, h => h.elim
  | .bool _, _, h => h.elim
  | .list _, _, h => h.elim
  | .dict _, _, h => h.elim
theorem RepL.dp {K : PySem.W.Frag} {H : Hp} : ∀ (ds : List PyData) (xs : List V), RepL H ds xs → DpAll K H xs ds
  | [], xs, h => by rw [show xs = [] from h]; exact .nil
  | d :: ds, xs, ⟨v, r, e, h1, h2⟩ => by rw [e]; exact .cons (Rep.dp d v h1) (RepL.dp ds r h2)
end

/-! ### calls: weaker readings -/
theorem CallR.imp {X : Cx} {f : Value} {r r' : List V → Hp → VK → Prop} (h : CallR X f r) (w : ∀ xs H Q, r' xs H Q → r xs H Q) : CallR X f r' :=
  fun pins s σ H xs us Q I rv q => h pins s σ H xs us Q I rv (w _ _ _ q)
theorem OpR.imp {X : Cx} {f : Value → Value → Sem Value} {r r' : R2} (h : OpR X f r) (w : ∀ x y H Q, r' x y H Q → r x y H Q) : OpR X f r' :=
  fun pins s σ H x y v u Q I rx ry q => h pins s σ H x y v u Q I rx ry (w _ _ _ _ q)

/-- isinstance of an int, a text, a tuple -/
def rIs (n : String) (xs : List V) (H : Hp) (Q : VK) : Prop :=
  ∃ x, xs = [x, .ty n] ∧ ((∃ i, x = .int i ∧ Q (.bl (n == "int")) H) ∨ (∃ t, x = .str t ∧ Q (.bl (n == "str")) H) ∨ (∃ p ys, x = .ref p ∧ H p = some (.tup ys) ∧ Q (.bl (n == "tuple")) H))
section
variable {X : Cx}
theorem call_isS : CallR X (.builtin "isinstance") (rIs "str") := CallR.imp (call_isi (X := X)) fun xs H Q ⟨x, e, h⟩ => by
  rcases h with ⟨i, rfl, q⟩ | ⟨t, rfl, q⟩ | ⟨p, ys, rfl, hp, q⟩
  · exact ⟨_, _, _, _, _, e, .ty _, .base (.int i), kit_ty (by decide +kernel), q⟩
  · exact ⟨_, _, _, _, _, e, .ty _, .base (.str t), kit_ty (by decide +kernel), q⟩
  · exact ⟨_, _, _, _, _, e, .ty _, .base (.tup hp), kit_ty (by decide +kernel), q⟩
theorem call_isI : CallR X (.builtin "isinstance") (rIs "int") := CallR.imp (call_isi (X := X)) fun xs H Q ⟨x, e, h⟩ => by
  rcases h with ⟨i, rfl, q⟩ | ⟨t, rfl, q⟩ | ⟨p, ys, rfl, hp, q⟩
  · exact ⟨_, _, _, _, _, e, .ty _, .base (.int i), kit_ty (by decide +kernel), q⟩
  · exact ⟨_, _, _, _, _, e, .ty _, .base (.str t), kit_ty (by decide +kernel), q⟩
  · exact ⟨_, _, _, _, _, e, .ty _, .base (.tup hp), kit_ty (by decide +kernel), q⟩
theorem call_isB : CallR X (.builtin "isinstance") (rIs "bool") := CallR.imp (call_isi (X := X)) fun xs H Q ⟨x, e, h⟩ => by
  rcases h with ⟨i, rfl, q⟩ | ⟨t, rfl, q⟩ | ⟨p, ys, rfl, hp, q⟩
  · exact ⟨_, _, _, _, _, e, .ty _, .base (.int i), kit_ty (by decide +kernel), q⟩
  · exact ⟨_, _, _, _, _, e, .ty _, .base (.str t), kit_ty (by decide +kernel), q⟩
  · exact ⟨_, _, _, _, _, e, .ty _, .base (.tup hp), kit_ty (by decide +kernel), q⟩
theorem call_isT : CallR X (.builtin "isinstance") (rIs "tuple") := CallR.imp (call_isi (X := X)) fun xs H Q ⟨x, e, h⟩ => by
  rcases h with ⟨i, rfl, q⟩ | ⟨t, rfl, q⟩ | ⟨p, ys, rfl, hp, q⟩
  · exact ⟨_, _, _, _, _, e, .ty _, .base (.int i), kit_ty (by decide +kernel), q⟩
  · exact ⟨_, _, _, _, _, e, .ty _, .base (.str t), kit_ty (by decide +kernel), q⟩
  · exact ⟨_, _, _, _, _, e, .ty _, .base (.tup hp), kit_ty (by decide +kernel), q⟩
end
theorem itT {c : Bool} {A B : Prop} (h : c = true) (a : A) : if c = true then A else B := by
  rw [if_pos h]
  exact a
theorem itF {c : Bool} {A B : Prop} (h : c = false) (b : B) : if c = true then A else B := by
  rw [if_neg (by rw [h]; exact Bool.false_ne_true)]
  exact b
theorem nb {a b : V} (h : a = b) : (!decide (a = b)) = false := by rw [decide_eq_true h] <;> rfl
theorem nbT {a b : V} (h : a ≠ b) : (!decide (a = b)) = true := by rw [decide_eq_false h] <;> rfl
theorem Qbl {Q : VK} {H : Hp} {a b : Bool} (h : Q (.bl a) H) (e : a = b) : Q (.bl b) H := e ▸ h
theorem Qint {Q : VK} {H : Hp} {a b : Int} (h : Q (.int a) H) (e : a = b) : Q (.int b) H := e ▸ h
theorem Room.u64 {k : Nat} {A : Around} (r : Room k A) : A.units + 64 < cLine := by
  have := r.un
  omega
end K29

set_option Elab.async false
set_option linter.all false
set_option maxRecDepth 100000
set_option maxHeartbeats 4000000
/-! ## the text by places -/
namespace K29
open PySem L2
abbrev s_is_whole : Stmt := top 18
abbrev N_is_whole : List Str := ["value", "least", "most"]
theorem sc_is_whole : FnScope N_is_whole ["value", "least", "most"] (defScope s_is_whole) := ⟨rfl, rfl, rfl, by decide +kernel, rfl, by decide +kernel, by decide +kernel⟩

abbrev s_is_name : Stmt := top 19
abbrev N_is_name : List Str := ["value", "sign"]
theorem sc_is_name : FnScope N_is_name ["value"] (defScope s_is_name) := ⟨rfl, rfl, rfl, by decide +kernel, rfl, by decide +kernel, by decide +kernel⟩

abbrev s_is_expression : Stmt := top 20
abbrev N_is_expression : List Str := ["value", "left"]
theorem sc_is_expression : FnScope N_is_expression ["value", "left"] (defScope s_is_expression) := ⟨rfl, rfl, rfl, by decide +kernel, rfl, by decide +kernel, by decide +kernel⟩

abbrev s_is_rest : Stmt := top 21
abbrev N_is_rest : List Str := ["value"]
theorem sc_is_rest : FnScope N_is_rest ["value"] (defScope s_is_rest) := ⟨rfl, rfl, rfl, by decide +kernel, rfl, by decide +kernel, by decide +kernel⟩

abbrev s_is_test : Stmt := top 22
abbrev N_is_test : List Str := ["value", "nots"]
theorem sc_is_test : FnScope N_is_test ["value", "nots"] (defScope s_is_test) := ⟨rfl, rfl, rfl, by decide +kernel, rfl, by decide +kernel, by decide +kernel⟩

abbrev s_are_blocks : Stmt := top 23
abbrev N_are_blocks : List Str := ["values", "value"]
theorem sc_are_blocks : FnScope N_are_blocks ["values"] (defScope s_are_blocks) := ⟨rfl, rfl, rfl, by decide +kernel, rfl, by decide +kernel, by decide +kernel⟩

abbrev s_is_statement : Stmt := top 24
abbrev N_is_statement : List Str := ["value"]
theorem sc_is_statement : FnScope N_is_statement ["value"] (defScope s_is_statement) := ⟨rfl, rfl, rfl, by decide +kernel, rfl, by decide +kernel, by decide +kernel⟩

abbrev s_blocks_of : Stmt := top 25
abbrev N_blocks_of : List Str := ["statement"]
theorem sc_blocks_of : FnScope N_blocks_of ["statement"] (defScope s_blocks_of) := ⟨rfl, rfl, rfl, by decide +kernel, rfl, by decide +kernel, by decide +kernel⟩

abbrev s_items_within : Stmt := top 26
abbrev N_items_within : List Str := ["statement", "depth", "found", "block", "item"]
theorem sc_items_within : FnScope N_items_within ["statement", "depth"] (defScope s_items_within) := ⟨rfl, rfl, rfl, by decide +kernel, rfl, by decide +kernel, by decide +kernel⟩

abbrev s_rows_of : Stmt := top 27
abbrev N_rows_of : List Str := ["program", "left", "found", "depth", "statement", "item"]
theorem sc_rows_of : FnScope N_rows_of ["program"] (defScope s_rows_of) := ⟨rfl, rfl, rfl, by decide +kernel, rfl, by decide +kernel, by decide +kernel⟩

abbrev s_order_error : Stmt := top 28
abbrev N_order_error : List Str := ["value", "left", "place", "depth", "item"]
theorem sc_order_error : FnScope N_order_error ["value"] (defScope s_order_error) := ⟨rfl, rfl, rfl, by decide +kernel, rfl, by decide +kernel, by decide +kernel⟩

abbrev s_bare : Stmt := top 29
abbrev N_bare : List Str := ["test"]
theorem sc_bare : FnScope N_bare ["test"] (defScope s_bare) := ⟨rfl, rfl, rfl, by decide +kernel, rfl, by decide +kernel, by decide +kernel⟩

abbrev s_own_count : Stmt := top 30
abbrev N_own_count : List Str := ["statement", "sort"]
theorem sc_own_count : FnScope N_own_count ["statement", "sort"] (defScope s_own_count) := ⟨rfl, rfl, rfl, by decide +kernel, rfl, by decide +kernel, by decide +kernel⟩

abbrev s_counted : Stmt := top 31
abbrev N_counted : List Str := ["block", "sort", "found", "statement", "inner", "part"]
theorem sc_counted : FnScope N_counted ["block", "sort"] (defScope s_counted) := ⟨rfl, rfl, rfl, by decide +kernel, rfl, by decide +kernel, by decide +kernel⟩

abbrev s_weight : Stmt := top 32
abbrev N_weight : List Str := ["program"]
theorem sc_weight : FnScope N_weight ["program"] (defScope s_weight) := ⟨rfl, rfl, rfl, by decide +kernel, rfl, by decide +kernel, by decide +kernel⟩

abbrev s_program_error : Stmt := top 33
abbrev N_program_error : List Str := ["value", "found"]
theorem sc_program_error : FnScope N_program_error ["value"] (defScope s_program_error) := ⟨rfl, rfl, rfl, by decide +kernel, rfl, by decide +kernel, by decide +kernel⟩

abbrev s_value_of : Stmt := top 37
abbrev N_value_of : List Str := ["expression", "names", "sort", "first", "second"]
theorem sc_value_of : FnScope N_value_of ["expression", "names"] (defScope s_value_of) := ⟨rfl, rfl, rfl, by decide +kernel, rfl, by decide +kernel, by decide +kernel⟩

abbrev s_is_true : Stmt := top 38
abbrev N_is_true : List Str := ["test", "names"]
theorem sc_is_true : FnScope N_is_true ["test", "names"] (defScope s_is_true) := ⟨rfl, rfl, rfl, by decide +kernel, rfl, by decide +kernel, by decide +kernel⟩

abbrev s_init : Stmt := inClass (top 39) 0
abbrev N_init : List Str := ["self", "number", "asked"]
theorem sc_init : FnScope N_init ["self", "number", "asked"] (defScope s_init) := ⟨rfl, rfl, rfl, by decide +kernel, rfl, by decide +kernel, by decide +kernel⟩

abbrev s_choice : Stmt := inClass (top 39) 1
abbrev N_choice : List Str := ["self", "hand", "many", "found"]
theorem sc_choice : FnScope N_choice ["self", "hand"] (defScope s_choice) := ⟨rfl, rfl, rfl, by decide +kernel, rfl, by decide +kernel, by decide +kernel⟩

abbrev s_parts : Stmt := inClass (top 39) 2
abbrev N_parts : List Str := ["self", "statement"]
theorem sc_parts : FnScope N_parts ["self", "statement"] (defScope s_parts) := ⟨rfl, rfl, rfl, by decide +kernel, rfl, by decide +kernel, by decide +kernel⟩

abbrev s_mdo : Stmt := inClass (top 39) 3
abbrev N_mdo : List Str := ["self", "statement", "block"]
theorem sc_mdo : FnScope N_mdo ["self", "statement"] (defScope s_mdo) := ⟨rfl, rfl, rfl, by decide +kernel, rfl, by decide +kernel, by decide +kernel⟩

abbrev s_go : Stmt := inClass (top 39) 4
abbrev N_go : List Str := ["self", "block", "statement"]
theorem sc_go : FnScope N_go ["self", "block"] (defScope s_go) := ⟨rfl, rfl, rfl, by decide +kernel, rfl, by decide +kernel, by decide +kernel⟩

abbrev s_run : Stmt := top 40
abbrev N_run : List Str := ["program", "number", "turns", "course"]
theorem sc_run : FnScope N_run ["program", "number", "turns"] (defScope s_run) := ⟨rfl, rfl, rfl, by decide +kernel, rfl, by decide +kernel, by decide +kernel⟩

abbrev s_next_turns : Stmt := top 41
abbrev N_next_turns : List Str := ["turns", "at"]
theorem sc_next_turns : FnScope N_next_turns ["turns"] (defScope s_next_turns) := ⟨rfl, rfl, rfl, by decide +kernel, rfl, by decide +kernel, by decide +kernel⟩

abbrev s_runs_on : Stmt := top 42
abbrev N_runs_on : List Str := ["program", "number", "left", "found", "row"]
theorem sc_runs_on : FnScope N_runs_on ["program", "number"] (defScope s_runs_on) := ⟨rfl, rfl, rfl, by decide +kernel, rfl, by decide +kernel, by decide +kernel⟩

abbrev s_each_run : Stmt := top 43
abbrev N_each_run : List Str := ["program", "number", "row"]
theorem sc_each_run : GScope N_each_run ["program", "number"] (defScope s_each_run) := ⟨rfl, rfl, rfl, by decide +kernel, rfl, by decide +kernel, by decide +kernel⟩

abbrev s__law_deck : Stmt := top 45
abbrev N__law_deck : List Str := ["_law_script", "_law_cell"]
theorem sc__law_deck : FnScope N__law_deck ["_law_script"] (defScope s__law_deck) := ⟨rfl, rfl, rfl, by decide +kernel, rfl, by decide +kernel, by decide +kernel⟩

abbrev s__law_draw : Stmt := top 46
abbrev N__law_draw : List Str := ["_law_deck_here", "_law_many", "_law_mixed", "_law_cell", "_law_at"]
theorem sc__law_draw : FnScope N__law_draw ["_law_deck_here", "_law_many"] (defScope s__law_draw) := ⟨rfl, rfl, rfl, by decide +kernel, rfl, by decide +kernel, by decide +kernel⟩

abbrev s__law_one : Stmt := top 47
abbrev N__law_one : List Str := ["_law_deck_here", "_law_items"]
theorem sc__law_one : FnScope N__law_one ["_law_deck_here", "_law_items"] (defScope s__law_one) := ⟨rfl, rfl, rfl, by decide +kernel, rfl, by decide +kernel, by decide +kernel⟩

abbrev s__law_names : Stmt := top 48
abbrev N__law_names : List Str := ["_law_deck_here", "_law_letters", "_law_signs", "_law_words", "_law_left", "_law_right", "_law_at", "_law_size", "_law_k"]
theorem sc__law_names : FnScope N__law_names ["_law_deck_here"] (defScope s__law_names) := ⟨rfl, rfl, rfl, by decide +kernel, rfl, by decide +kernel, by decide +kernel⟩

abbrev s__law_expression : Stmt := top 49
abbrev N__law_expression : List Str := ["_law_deck_here", "_law_names_here", "_law_deep", "_law_way", "_law_first", "_law_factor"]
theorem sc__law_expression : FnScope N__law_expression ["_law_deck_here", "_law_names_here", "_law_deep"] (defScope s__law_expression) := ⟨rfl, rfl, rfl, by decide +kernel, rfl, by decide +kernel, by decide +kernel⟩

abbrev s__law_test : Stmt := top 50
abbrev N__law_test : List Str := ["_law_deck_here", "_law_names_here", "_law_left", "_law_times", "_law_k", "_law_nots", "_law_test_here", "_law_by", "_law_first"]
theorem sc__law_test : FnScope N__law_test ["_law_deck_here", "_law_names_here", "_law_left", "_law_times"] (defScope s__law_test) := ⟨rfl, rfl, rfl, by decide +kernel, rfl, by decide +kernel, by decide +kernel⟩

abbrev s__law_plain : Stmt := top 51
abbrev N__law_plain : List Str := ["_law_deck_here", "_law_names_here", "_law_way", "_law_name"]
theorem sc__law_plain : FnScope N__law_plain ["_law_deck_here", "_law_names_here"] (defScope s__law_plain) := ⟨rfl, rfl, rfl, by decide +kernel, rfl, by decide +kernel, by decide +kernel⟩

abbrev s__law_row : Stmt := top 52
abbrev N__law_row : List Str := ["_law_deck_here", "_law_names_here", "_law_left", "_law_times", "_law_depth", "_law_way", "_law_test_here", "_law_yes", "_law_again", "_law_one_here"]
theorem sc__law_row : FnScope N__law_row ["_law_deck_here", "_law_names_here", "_law_left", "_law_times", "_law_depth"] (defScope s__law_row) := ⟨rfl, rfl, rfl, by decide +kernel, rfl, by decide +kernel, by decide +kernel⟩

abbrev s__law_block : Stmt := top 53
abbrev N__law_block : List Str := ["_law_deck_here", "_law_names_here", "_law_left", "_law_times", "_law_depth", "_law_k", "_law_many", "_law_rows", "_law_row_here"]
theorem sc__law_block : FnScope N__law_block ["_law_deck_here", "_law_names_here", "_law_left", "_law_times", "_law_depth"] (defScope s__law_block) := ⟨rfl, rfl, rfl, by decide +kernel, rfl, by decide +kernel, by decide +kernel⟩

abbrev s__law_program : Stmt := top 54
abbrev N__law_program : List Str := ["_law_deck_here", "_law_names_here", "_law_k", "_law_left", "_law_program_here"]
theorem sc__law_program : FnScope N__law_program ["_law_deck_here", "_law_names_here"] (defScope s__law_program) := ⟨rfl, rfl, rfl, by decide +kernel, rfl, by decide +kernel, by decide +kernel⟩

abbrev s__law_number : Stmt := top 55
abbrev N__law_number : List Str := ["_law_deck_here", "_law_way", "_law_sign"]
theorem sc__law_number : FnScope N__law_number ["_law_deck_here"] (defScope s__law_number) := ⟨rfl, rfl, rfl, by decide +kernel, rfl, by decide +kernel, by decide +kernel⟩

abbrev s__law_turns : Stmt := top 56
abbrev N__law_turns : List Str := ["_law_deck_here", "_law_k"]
theorem sc__law_turns : FnScope N__law_turns ["_law_deck_here"] (defScope s__law_turns) := ⟨rfl, rfl, rfl, by decide +kernel, rfl, by decide +kernel, by decide +kernel⟩

abbrev s__law_renamed : Stmt := top 57
abbrev N__law_renamed : List Str := ["_law_value", "_law_names_here", "_law_first", "_law_part"]
theorem sc__law_renamed : FnScope N__law_renamed ["_law_value", "_law_names_here"] (defScope s__law_renamed) := ⟨rfl, rfl, rfl, by decide +kernel, rfl, by decide +kernel, by decide +kernel⟩

abbrev s_law : Stmt := top 58
abbrev N_law : List Str := ["_law_script", "_law_deck_here", "_law_turn", "_law_program_here", "_law_names_here", "_law_later", "_law_ahead", "_law_k", "_law_own", "_law_other", "_law_due", "_law_number_here", "_law_turns_here"]
theorem sc_law : FnScope N_law ["_law_script"] (defScope s_law) := ⟨rfl, rfl, rfl, by decide +kernel, rfl, by decide +kernel, by decide +kernel⟩

/-! ### what the top leaves -/
structure FnAt (K : PySem.W.Frag) (mg : Str → Option Value) (x : Str) (st : Stmt) (ps : List Str) where
  f : Addr
  fd : FuncData
  F : Fun K x x st f fd
  B : Binds K fd ps []
  g : mg x = some (.ref f)
structure MtAt (K : PySem.W.Frag) (C : Addr) (m qual : Str) (st : Stmt) (ps : List Str) where
  f : Addr
  fd : FuncData
  F : Fun K m qual st f fd
  B : Binds K fd ps []
  m : Meth K C m f
structure GAt (mg : Str → Option Value) (x : Str) (v : V) where
  u : Value
  e : mg x = some u
  r : RelV v u
abbrev keptL : List Str := ["set", "pay", "stop", "if", "else", "we", "they", "or", "repeat", "pass", "rest", "of", "not", "program"]
abbrev lettersS : Str := "abcdefghijklmnopqrstuvwxyz"
abbrev signsS : Str := "abcdefghijklmnopqrstuvwxyz0123456789"
structure Txt (K : PySem.W.Frag) (mg : Str → Option Value) where
  is_whole : FnAt K mg "is_whole" s_is_whole ["value", "least", "most"]
  is_name : FnAt K mg "is_name" s_is_name ["value"]
  is_expression : FnAt K mg "is_expression" s_is_expression ["value", "left"]
  is_rest : FnAt K mg "is_rest" s_is_rest ["value"]
  is_test : FnAt K mg "is_test" s_is_test ["value", "nots"]
  are_blocks : FnAt K mg "are_blocks" s_are_blocks ["values"]
  is_statement : FnAt K mg "is_statement" s_is_statement ["value"]
  blocks_of : FnAt K mg "blocks_of" s_blocks_of ["statement"]
  items_within : FnAt K mg "items_within" s_items_within ["statement", "depth"]
  rows_of : FnAt K mg "rows_of" s_rows_of ["program"]
  order_error : FnAt K mg "order_error" s_order_error ["value"]
  bare : FnAt K mg "bare" s_bare ["test"]
  own_count : FnAt K mg "own_count" s_own_count ["statement", "sort"]
  counted : FnAt K mg "counted" s_counted ["block", "sort"]
  weight : FnAt K mg "weight" s_weight ["program"]
  program_error : FnAt K mg "program_error" s_program_error ["value"]
  value_of : FnAt K mg "value_of" s_value_of ["expression", "names"]
  is_true : FnAt K mg "is_true" s_is_true ["test", "names"]
  run : FnAt K mg "run" s_run ["program", "number", "turns"]
  next_turns : FnAt K mg "next_turns" s_next_turns ["turns"]
  runs_on : FnAt K mg "runs_on" s_runs_on ["program", "number"]
  each_run : FnAt K mg "each_run" s_each_run ["program", "number"]
  _law_deck : FnAt K mg "_law_deck" s__law_deck ["_law_script"]
  _law_draw : FnAt K mg "_law_draw" s__law_draw ["_law_deck_here", "_law_many"]
  _law_one : FnAt K mg "_law_one" s__law_one ["_law_deck_here", "_law_items"]
  _law_names : FnAt K mg "_law_names" s__law_names ["_law_deck_here"]
  _law_expression : FnAt K mg "_law_expression" s__law_expression ["_law_deck_here", "_law_names_here", "_law_deep"]
  _law_test : FnAt K mg "_law_test" s__law_test ["_law_deck_here", "_law_names_here", "_law_left", "_law_times"]
  _law_plain : FnAt K mg "_law_plain" s__law_plain ["_law_deck_here", "_law_names_here"]
  _law_row : FnAt K mg "_law_row" s__law_row ["_law_deck_here", "_law_names_here", "_law_left", "_law_times", "_law_depth"]
  _law_block : FnAt K mg "_law_block" s__law_block ["_law_deck_here", "_law_names_here", "_law_left", "_law_times", "_law_depth"]
  _law_program : FnAt K mg "_law_program" s__law_program ["_law_deck_here", "_law_names_here"]
  _law_number : FnAt K mg "_law_number" s__law_number ["_law_deck_here"]
  _law_turns : FnAt K mg "_law_turns" s__law_turns ["_law_deck_here"]
  _law_renamed : FnAt K mg "_law_renamed" s__law_renamed ["_law_value", "_law_names_here"]
  law : FnAt K mg "law" s_law ["_law_script"]
  C : Addr
  g_Course : mg "Course" = some (.ref C)
  cl : Cls K C
  no_names : NoAttr K C "names"
  no_total : NoAttr K C "total"
  no_turns : NoAttr K C "turns"
  no_hands : NoAttr K C "hands"
  no_asked : NoAttr K C "asked"
  no_is_stopped : NoAttr K C "is_stopped"
  init : MtAt K C "__init__" "Course.__init__" s_init ["self", "number", "asked"]
  choice : MtAt K C "choice" "Course.choice" s_choice ["self", "hand"]
  parts : MtAt K C "parts" "Course.parts" s_parts ["self", "statement"]
  mdo : MtAt K C "do" "Course.do" s_mdo ["self", "statement"]
  go : MtAt K C "go" "Course.go" s_go ["self", "block"]
  mk_Course : Mk K C init.f
  g_MAX_NAME : GAt mg "MAX_NAME" (.int 8)
  g_MAX_TIMES : GAt mg "MAX_TIMES" (.int 8)
  g_MAX_DEEP : GAt mg "MAX_DEEP" (.int 3)
  g_MAX_NOTS : GAt mg "MAX_NOTS" (.int 2)
  g_MAX_BY : GAt mg "MAX_BY" (.int 6)
  g_MAX_PLACES : GAt mg "MAX_PLACES" (.int 24)
  g_MAX_WEIGHT : GAt mg "MAX_WEIGHT" (.int 30)
  g_MAX_CHOICES : GAt mg "MAX_CHOICES" (.int 4)
  g_MAX_RESTS : GAt mg "MAX_RESTS" (.int 2)
  g_MAX_COMPARINGS : GAt mg "MAX_COMPARINGS" (.int 2)
  g_MAX_NEST : GAt mg "MAX_NEST" (.int 3)
  g_MOST_NUMBER : GAt mg "MOST_NUMBER" (.int 99)
  g_MOST_FACTOR : GAt mg "MOST_FACTOR" (.int 9)
  g_FIRST : GAt mg "FIRST" (.int 0)
  g_LETTERS : GAt mg "LETTERS" (.str lettersS)
  g_SIGNS : GAt mg "SIGNS" (.str signsS)
  g_INPUT : GAt mg "INPUT" (.str "n")
  aKEPT : Addr
  g_KEPT : mg "KEPT" = some (.ref aKEPT)
  KEPT : ∀ H, SqT K H aKEPT (keptL.map V.str)
  aCHOICES : Addr
  g_CHOICES : mg "CHOICES" = some (.ref aCHOICES)
  CHOICES : ∀ H, SqT K H aCHOICES [.str "we", .str "they"]
  n_len : mg "len" = none
  n_isinstance : mg "isinstance" = none
  n_str : mg "str" = none
  n_int : mg "int" = none
  n_bool : mg "bool" = none
  n_tuple : mg "tuple" = none
  n_sum : mg "sum" = none
  n_range : mg "range" = none
  n_abs : mg "abs" = none
  n_max : mg "max" = none
  n_dict : mg "dict" = none
  n_repr : mg "repr" = none
  n_list : mg "list" = none

end K29

set_option Elab.async false
set_option linter.all false
set_option maxRecDepth 100000
set_option maxHeartbeats 4000000
/-! ## programs as typed trees -/
namespace K29
open PySem L2

inductive Ex where
  | num (i : Int) | nam (x : Str) | bin (p : Bool) (a b : Ex) | tim (k : Int) (e : Ex)
inductive Te where
  | less (a b : Ex) | rest (e : Ex) (m r : Int) | neg (t : Te)
inductive Sm where
  | set (x : Str) (e : Ex) | pay (e : Ex) | stop
  | ite (t : Te) (y n : List Sm) | cho (we : Bool) (a b : List Sm) | rep (k : Int) (b : List Sm)

def encE : Ex → PyData
  | .num i => .int i
  | .nam x => .str x
  | .bin p a b => .tuple [.str (if p = true then "plus" else "minus"), encE a, encE b]
  | .tim k e => .tuple [.str "times", .int k, encE e]
def encT : Te → PyData
  | .less a b => .tuple [.str "less", encE a, encE b]
  | .rest e m r => .tuple [.str "rest", encE e, .int m, .int r]
  | .neg t => .tuple [.str "not", encT t]
def hand (we : Bool) : Str := if we = true then "we" else "they"
mutual
def encS : Sm → PyData
  | .set x e => .tuple [.str "set", .str x, encE e]
  | .pay e => .tuple [.str "pay", encE e]
  | .stop => .tuple [.str "stop"]
  | .ite t y n => .tuple [.str "if", encT t, .tuple (encL y), .tuple (encL n)]
  | .cho we a b => .tuple [.str (hand we), .tuple (encL a), .tuple (encL b)]
  | .rep k b => .tuple [.str "repeat", .int k, .tuple (encL b)]
def encL : List Sm → List PyData
  | [] => []
  | s :: r => encS s :: encL r
end
theorem encL_map : ∀ ss : List Sm, encL ss = ss.map encS
  | [] => by simp [encL]
  | s :: r => by simp [encL, encL_map r]
abbrev RepE (H : Hp) (e : Ex) (v : V) : Prop := Rep H (encE e) v
abbrev RepT (H : Hp) (t : Te) (v : V) : Prop := Rep H (encT t) v
abbrev RepS (H : Hp) (s : Sm) (v : V) : Prop := Rep H (encS s) v
abbrev RepB (H : Hp) (ss : List Sm) (v : V) : Prop := Rep H (.tuple (encL ss)) v
abbrev RepSs (H : Hp) (ss : List Sm) (xs : List V) : Prop := RepL H (encL ss) xs
theorem RepSs.len {H : Hp} {ss : List Sm} {xs : List V} (h : RepSs H ss xs) : xs.length = ss.length := by
  have := RepL.len h
  rw [encL_map, List.length_map] at this
  exact this
theorem RepSs.get {H : Hp} {ss : List Sm} {xs : List V} {i : Nat} {v : V} (h : RepSs H ss xs) (e : xs[i]? = some v) : ∃ s, ss[i]? = some s ∧ RepS H s v := by
  obtain ⟨d, q1, q2⟩ := RepL.get h e
  rw [encL_map, List.getElem?_map] at q1
  cases hs : ss[i]? with
  | none => rw [hs] at q1; simp at q1
  | some s =>
    rw [hs] at q1
    have : encS s = d := by simpa using q1
    exact ⟨s, rfl, by show Rep H (encS s) v; rw [this]; exact q2⟩
theorem encL_append (a b : List Sm) : encL (a ++ b) = encL a ++ encL b := by simp [encL_map]

/-! what the trees look like in the heap -/
section
variable {H : Hp} {v : V}
theorem rep_tuple {ds : List PyData} : Rep H (.tuple ds) v ↔ ∃ p xs, v = .ref p ∧ H p = some (.tup xs) ∧ RepL H ds xs := by simp only [Rep]
theorem repl1 {a : PyData} {xs : List V} : RepL H [a] xs ↔ ∃ x, xs = [x] ∧ Rep H a x := by
  simp only [RepL]
  constructor
  · rintro ⟨x, r, rfl, h, rfl⟩; exact ⟨x, rfl, h⟩
  · rintro ⟨x, rfl, h⟩; exact ⟨x, [], rfl, h, rfl⟩
theorem repl2 {a b : PyData} {xs : List V} : RepL H [a, b] xs ↔ ∃ x y, xs = [x, y] ∧ Rep H a x ∧ Rep H b y := by
  simp only [RepL]
  constructor
  · rintro ⟨x, r, rfl, h, y, r2, rfl, h2, rfl⟩; exact ⟨x, y, rfl, h, h2⟩
  · rintro ⟨x, y, rfl, h, h2⟩; exact ⟨x, [y], rfl, h, y, [], rfl, h2, rfl⟩
theorem repl3 {a b c : PyData} {xs : List V} : RepL H [a, b, c] xs ↔ ∃ x y z, xs = [x, y, z] ∧ Rep H a x ∧ Rep H b y ∧ Rep H c z := by
  simp only [RepL]
  constructor
  · rintro ⟨x, r, rfl, h, y, r2, rfl, h2, z, r3, rfl, h3, rfl⟩; exact ⟨x, y, z, rfl, h, h2, h3⟩
  · rintro ⟨x, y, z, rfl, h, h2, h3⟩; exact ⟨x, [y, z], rfl, h, y, [z], rfl, h2, z, [], rfl, h3, rfl⟩
theorem repl4 {a b c d : PyData} {xs : List V} : RepL H [a, b, c, d] xs ↔ ∃ x y z w, xs = [x, y, z, w] ∧ Rep H a x ∧ Rep H b y ∧ Rep H c z ∧ Rep H d w := by
  simp only [RepL]
  constructor
  · rintro ⟨x, r, rfl, h, y, r2, rfl, h2, z, r3, rfl, h3, w, r4, rfl, h4, rfl⟩; exact ⟨x, y, z, w, rfl, h, h2, h3, h4⟩
  · rintro ⟨x, y, z, w, rfl, h, h2, h3, h4⟩; exact ⟨x, [y, z, w], rfl, h, y, [z, w], rfl, h2, z, [w], rfl, h3, w, [], rfl, h4, rfl⟩
theorem rep_int {i : Int} : Rep H (.int i) v ↔ v = .int i := by simp only [Rep]
theorem rep_str {x : Str} : Rep H (.str x) v ↔ v = .str x := by simp only [Rep]

theorem RepE.bin_at {p : Bool} {a b : Ex} (h : RepE H (.bin p a b) v) : ∃ q x y, v = .ref q ∧ H q = some (.tup [.str (if p = true then "plus" else "minus"), x, y]) ∧ RepE H a x ∧ RepE H b y := by
  simp only [RepE, encE, rep_tuple, repl3, rep_str] at h
  obtain ⟨q, xs, rfl, hq, x0, x, y, rfl, rfl, hx, hy⟩ := h
  exact ⟨q, x, y, rfl, hq, hx, hy⟩
theorem RepE.tim_at {k : Int} {e : Ex} (h : RepE H (.tim k e) v) : ∃ q x, v = .ref q ∧ H q = some (.tup [.str "times", .int k, x]) ∧ RepE H e x := by
  simp only [RepE, encE, rep_tuple, repl3, rep_str, rep_int] at h
  obtain ⟨q, xs, rfl, hq, x0, y, x, rfl, rfl, rfl, hx⟩ := h
  exact ⟨q, x, rfl, hq, hx⟩
theorem RepT.less_at {a b : Ex} (h : RepT H (.less a b) v) : ∃ q x y, v = .ref q ∧ H q = some (.tup [.str "less", x, y]) ∧ RepE H a x ∧ RepE H b y := by
  simp only [RepT, encT, rep_tuple, repl3, rep_str] at h
  obtain ⟨q, xs, rfl, hq, x0, x, y, rfl, rfl, hx, hy⟩ := h
  exact ⟨q, x, y, rfl, hq, hx, hy⟩
theorem RepT.rest_at {e : Ex} {m r : Int} (h : RepT H (.rest e m r) v) : ∃ q x, v = .ref q ∧ H q = some (.tup [.str "rest", x, .int m, .int r]) ∧ RepE H e x := by
  simp only [RepT, encT, rep_tuple, repl4, rep_str, rep_int] at h
  obtain ⟨q, xs, rfl, hq, x0, x, y, z, rfl, rfl, hx, rfl, rfl⟩ := h
  exact ⟨q, x, rfl, hq, hx⟩
theorem RepT.neg_at {t : Te} (h : RepT H (.neg t) v) : ∃ q x, v = .ref q ∧ H q = some (.tup [.str "not", x]) ∧ RepT H t x := by
  simp only [RepT, encT, rep_tuple, repl2, rep_str] at h
  obtain ⟨q, xs, rfl, hq, x0, x, rfl, rfl, hx⟩ := h
  exact ⟨q, x, rfl, hq, hx⟩
theorem RepB.at_ {ss : List Sm} (h : RepB H ss v) : ∃ q xs, v = .ref q ∧ H q = some (.tup xs) ∧ RepSs H ss xs := rep_tuple.mp h
theorem RepS.set_at {x : Str} {e : Ex} (h : RepS H (.set x e) v) : ∃ q y, v = .ref q ∧ H q = some (.tup [.str "set", .str x, y]) ∧ RepE H e y := by
  simp only [RepS, encS, rep_tuple, repl3, rep_str] at h
  obtain ⟨q, xs, rfl, hq, x0, x, y, rfl, rfl, rfl, hy⟩ := h
  exact ⟨q, y, rfl, hq, hy⟩
theorem RepS.pay_at {e : Ex} (h : RepS H (.pay e) v) : ∃ q y, v = .ref q ∧ H q = some (.tup [.str "pay", y]) ∧ RepE H e y := by
  simp only [RepS, encS, rep_tuple, repl2, rep_str] at h
  obtain ⟨q, xs, rfl, hq, x0, y, rfl, rfl, hy⟩ := h
  exact ⟨q, y, rfl, hq, hy⟩
theorem RepS.stop_at (h : RepS H .stop v) : ∃ q, v = .ref q ∧ H q = some (.tup [.str "stop"]) := by
  simp only [RepS, encS, rep_tuple, repl1, rep_str] at h
  obtain ⟨q, xs, rfl, hq, x0, rfl, rfl⟩ := h
  exact ⟨q, rfl, hq⟩
theorem RepS.ite_at {t : Te} {a b : List Sm} (h : RepS H (.ite t a b) v) : ∃ q x p1 p2 xs ys, v = .ref q ∧ H q = some (.tup [.str "if", x, .ref p1, .ref p2]) ∧ RepT H t x ∧
    H p1 = some (.tup xs) ∧ RepSs H a xs ∧ H p2 = some (.tup ys) ∧ RepSs H b ys := by
  simp only [RepS, encS, rep_tuple, repl4, rep_str] at h
  obtain ⟨q, xs, rfl, hq, x0, x, y, z, rfl, rfl, hx, ⟨p1, ys, rfl, h1, h1'⟩, ⟨p2, zs, rfl, h2, h2'⟩⟩ := h
  exact ⟨q, x, p1, p2, ys, zs, rfl, hq, hx, h1, h1', h2, h2'⟩
theorem RepS.cho_at {we : Bool} {a b : List Sm} (h : RepS H (.cho we a b) v) : ∃ q p1 p2 xs ys, v = .ref q ∧ H q = some (.tup [.str (hand we), .ref p1, .ref p2]) ∧
    H p1 = some (.tup xs) ∧ RepSs H a xs ∧ H p2 = some (.tup ys) ∧ RepSs H b ys := by
  simp only [RepS, encS, rep_tuple, repl3, rep_str] at h
  obtain ⟨q, xs, rfl, hq, x0, y, z, rfl, rfl, ⟨p1, ys, rfl, h1, h1'⟩, ⟨p2, zs, rfl, h2, h2'⟩⟩ := h
  exact ⟨q, p1, p2, ys, zs, rfl, hq, h1, h1', h2, h2'⟩
theorem RepS.rep_at {k : Int} {b : List Sm} (h : RepS H (.rep k b) v) : ∃ q p xs, v = .ref q ∧ H q = some (.tup [.str "repeat", .int k, .ref p]) ∧
    H p = some (.tup xs) ∧ RepSs H b xs := by
  simp only [RepS, encS, rep_tuple, repl3, rep_str, rep_int] at h
  obtain ⟨q, xs, rfl, hq, x0, y, z, rfl, rfl, rfl, p1, ys, rfl, h1, h1'⟩ := h
  exact ⟨q, p1, ys, rfl, hq, h1, h1'⟩
end
/-! .. and how one builds them -/
section
variable {H : Hp} {q p p1 p2 : Addr} {x y : V} {xs ys : List V}
theorem RepE.mk_bin {b : Bool} {e f : Ex} (h : H q = some (.tup [.str (if b = true then "plus" else "minus"), x, y])) (hx : RepE H e x) (hy : RepE H f y) : RepE H (.bin b e f) (.ref q) := by
  simp only [RepE, encE, rep_tuple, repl3, rep_str]
  exact ⟨q, _, rfl, h, _, _, _, rfl, rfl, hx, hy⟩
theorem RepE.mk_tim {k : Int} {e : Ex} (h : H q = some (.tup [.str "times", .int k, x])) (hx : RepE H e x) : RepE H (.tim k e) (.ref q) := by
  simp only [RepE, encE, rep_tuple, repl3, rep_str, rep_int]
  exact ⟨q, _, rfl, h, _, _, _, rfl, rfl, rfl, hx⟩
theorem RepT.mk_less {e f : Ex} (h : H q = some (.tup [.str "less", x, y])) (hx : RepE H e x) (hy : RepE H f y) : RepT H (.less e f) (.ref q) := by
  simp only [RepT, encT, rep_tuple, repl3, rep_str]
  exact ⟨q, _, rfl, h, _, _, _, rfl, rfl, hx, hy⟩
theorem RepT.mk_rest {e : Ex} {m r : Int} (h : H q = some (.tup [.str "rest", x, .int m, .int r])) (hx : RepE H e x) : RepT H (.rest e m r) (.ref q) := by
  simp only [RepT, encT, rep_tuple, repl4, rep_str, rep_int]
  exact ⟨q, _, rfl, h, _, _, _, _, rfl, rfl, hx, rfl, rfl⟩
theorem RepT.mk_neg {t : Te} (h : H q = some (.tup [.str "not", x])) (hx : RepT H t x) : RepT H (.neg t) (.ref q) := by
  simp only [RepT, encT, rep_tuple, repl2, rep_str]
  exact ⟨q, _, rfl, h, _, _, rfl, rfl, hx⟩
theorem RepS.mk_set {n : Str} {e : Ex} (h : H q = some (.tup [.str "set", .str n, x])) (hx : RepE H e x) : RepS H (.set n e) (.ref q) := by
  simp only [RepS, encS, rep_tuple, repl3, rep_str]
  exact ⟨q, _, rfl, h, _, _, _, rfl, rfl, rfl, hx⟩
theorem RepS.mk_pay {e : Ex} (h : H q = some (.tup [.str "pay", x])) (hx : RepE H e x) : RepS H (.pay e) (.ref q) := by
  simp only [RepS, encS, rep_tuple, repl2, rep_str]
  exact ⟨q, _, rfl, h, _, _, rfl, rfl, hx⟩
theorem RepS.mk_stop (h : H q = some (.tup [.str "stop"])) : RepS H .stop (.ref q) := by
  simp only [RepS, encS, rep_tuple, repl1, rep_str]
  exact ⟨q, _, rfl, h, _, rfl, rfl⟩
theorem RepS.mk_ite {t : Te} {a b : List Sm} (h : H q = some (.tup [.str "if", x, y, z])) (hx : RepT H t x) (hy : RepB H a y) (hz : RepB H b z) : RepS H (.ite t a b) (.ref q) := by
  simp only [RepS, encS]
  exact rep_tuple.mpr ⟨q, _, rfl, h, repl4.mpr ⟨_, _, _, _, rfl, rep_str.mpr rfl, hx, hy, hz⟩⟩
theorem RepS.mk_cho {we : Bool} {a b : List Sm} (h : H q = some (.tup [.str (hand we), x, y])) (hx : RepB H a x) (hy : RepB H b y) : RepS H (.cho we a b) (.ref q) := by
  simp only [RepS, encS]
  exact rep_tuple.mpr ⟨q, _, rfl, h, repl3.mpr ⟨_, _, _, rfl, rep_str.mpr rfl, hx, hy⟩⟩
theorem RepS.mk_rep {k : Int} {b : List Sm} (h : H q = some (.tup [.str "repeat", .int k, x])) (hx : RepB H b x) : RepS H (.rep k b) (.ref q) := by
  simp only [RepS, encS]
  exact rep_tuple.mpr ⟨q, _, rfl, h, repl3.mpr ⟨_, _, _, rfl, rep_str.mpr rfl, rep_int.mpr rfl, hx⟩⟩
theorem RepB.mk {ss : List Sm} (h : H q = some (.tup xs)) (hx : RepSs H ss xs) : RepB H ss (.ref q) := rep_tuple.mpr ⟨q, xs, rfl, h, hx⟩
end

/-! ### well-formed -/
def NameOk (x : Str) : Prop := 1 ≤ x.length ∧ x.length ≤ 8 ∧ (∀ c ∈ x.cps.toList, c ∈ signsS.cps.toList) ∧ (∃ c, x.cps.toList[0]? = some c ∧ c ∈ lettersS.cps.toList) ∧ x ∉ keptL
/-- an expression in which at most so many lie in one another, over the names N -/
def okE (N : Str → Prop) : Nat → Ex → Prop
  | 0, _ => False
  | _ + 1, .num i => -99 ≤ i ∧ i ≤ 99
  | _ + 1, .nam x => N x
  | n + 1, .bin _ a b => okE N n a ∧ okE N n b
  | n + 1, .tim k e => -9 ≤ k ∧ k ≤ 9 ∧ okE N n e
def okT (N : Str → Prop) : Nat → Te → Prop
  | _, .less a b => okE N 3 a ∧ okE N 3 b
  | _, .rest e m r => okE N 3 e ∧ 2 ≤ m ∧ m ≤ 6 ∧ 0 ≤ r ∧ r < m
  | 0, .neg _ => False
  | n + 1, .neg t => okT N n t
mutual
/-- a statement with at most so many levels (itself counted) -/
def okS (N : Str → Prop) : Nat → Sm → Prop
  | 0, _ => False
  | _ + 1, .set x e => N x ∧ okE N 3 e
  | _ + 1, .pay e => okE N 3 e
  | _ + 1, .stop => True
  | n + 1, .ite t a b => okT N 2 t ∧ okL N n a ∧ okL N n b
  | n + 1, .cho _ a b => okL N n a ∧ okL N n b
  | n + 1, .rep k b => 1 ≤ k ∧ k ≤ 8 ∧ okL N n b
def okL (N : Str → Prop) : Nat → List Sm → Prop
  | _, [] => True
  | n, s :: r => okS N n s ∧ okL N n r
end
theorem okL_iff {N : Str → Prop} {n : Nat} : ∀ {ss : List Sm}, okL N n ss ↔ ∀ s ∈ ss, okS N n s
  | [] => by simp [okL]
  | s :: r => by simp [okL, okL_iff (ss := r)]
/-! counts -/
def own : Nat → Sm → Nat
  | 0, _ => 1
  | 1, .cho .. => 1
  | 2, .ite t _ _ => if isRest t then 1 else 0
  | 3, .ite t _ _ => if isRest t then 0 else 1
  | _, _ => 0
where isRest : Te → Bool
  | .less .. => false
  | .rest .. => true
  | .neg t => isRest t
mutual
/-- what a statement counts of the sort f: 0 weight, 1 choices, 2 rests, 3 comparings -/
def cntS (f : Nat) : Sm → Nat
  | .set x e => own f (.set x e)
  | .pay e => own f (.pay e)
  | .stop => own f .stop
  | .ite t a b => own f (.ite t a b) + (cntL f a + cntL f b)
  | .cho w a b => own f (.cho w a b) + (cntL f a + cntL f b)
  | .rep k b => own f (.rep k b) + cntL f b * k.toNat
def cntL (f : Nat) : List Sm → Nat
  | [] => 0
  | s :: r => cntS f s + cntL f r
end
mutual
/-- the number of statements -/
def sizS : Sm → Nat
  | .set _ _ | .pay _ | .stop => 1
  | .ite _ a b | .cho _ a b => 1 + (sizL a + sizL b)
  | .rep _ b => 1 + sizL b
def sizL : List Sm → Nat
  | [] => 0
  | s :: r => sizS s + sizL r
end
theorem cntL_append (f : Nat) : ∀ a b : List Sm, cntL f (a ++ b) = cntL f a + cntL f b
  | [], b => by simp [cntL]
  | s :: r, b => by simp only [List.cons_append, cntL, cntL_append f r b]; omega
theorem sizL_append : ∀ a b : List Sm, sizL (a ++ b) = sizL a + sizL b
  | [], b => by simp [sizL]
  | s :: r, b => by simp only [List.cons_append, sizL, sizL_append r b]; omega
theorem okL_append {N : Str → Prop} {n : Nat} {a b : List Sm} (h : okL N n a) (g : okL N n b) : okL N n (a ++ b) := by
  rw [okL_iff] at *
  intro s hs
  rcases List.mem_append.mp hs with z | z
  · exact h s z
  · exact g s z
theorem sizS_pos : ∀ s : Sm, 1 ≤ sizS s
  | .set .. | .pay _ | .stop => by simp [sizS]
  | .ite .. | .cho .. | .rep .. => by simp only [sizS]; omega
end K29

set_option Elab.async false
set_option linter.all false
set_option maxRecDepth 100000
set_option maxHeartbeats 4000000
/-! ## program_error: the parts -/
namespace K29
open PySem L2
section
variable {P : Program} {w : World} {K : PySem.W.Frag} {mg : Str → Option Value} {base : Heap}

def sp_is_whole : Sp := fun vs H Q _ => ∃ i lo hi : Int, vs = [.int i, .int lo, .int hi] ∧ Q (.bl (decide (lo ≤ i ∧ i ≤ hi))) H
theorem ok_is_whole (T : Txt K mg) : FnOk P w K mg base CX0 1 T.is_whole.f T.is_whole.fd ["value", "least", "most"] sp_is_whole := by
  refine T.is_whole.F.ok sc_is_whole (fun vs H Q E h => ?_) (fun cdv A outer s H vs Q E hr h => ?_)
  · obtain ⟨i, lo, hi, rfl, _⟩ := h
    rfl
  obtain ⟨i, lo, hi, rfl, q⟩ := h
  refine ⟨_, (pss_one (ps_ret (pe_and (pe_callB call_isI rfl T.n_isinstance (by decide +kernel) (pa_cons (pv 0) (pa_cons (pe_bltn (v := .ty "int") (u := .type "int") rfl T.n_int (by decide +kernel) rfl) pa_nil))) (pe_and (pe_not (pe_callB call_isB rfl T.n_isinstance (by decide +kernel) (pa_cons (pv 0) (pa_cons (pe_bltn (v := .ty "bool") (u := .type "bool") rfl T.n_bool (by decide +kernel) rfl) pa_nil)))) (pe_one (pe_chain op_le op_le (pv 1) (pv 0) (pv 2))))))), ?_⟩
  refine ⟨_, rfl, _, rfl, .inl ⟨_, rfl, _, rfl, itT (by decide +kernel) ?_⟩⟩
  refine ⟨_, rfl, _, rfl, .inl ⟨_, rfl, _, rfl, _, rfl, itT (by decide +kernel) ?_⟩⟩
  refine ⟨_, rfl, _, rfl, _, _, rfl, rfl, _, rfl, ?_⟩
  by_cases h1 : lo ≤ i
  · refine itT (decide_eq_true h1) ⟨_, rfl, _, _, rfl, rfl, ?_⟩
    exact Qbl q (by simp [h1])
  · refine itF (decide_eq_false h1) ?_
    exact Qbl q (by simp [h1])

theorem eqV_str (a b : Str) : eqV (.str a) (.str b) = decide (a = b) := by
  first
    | rfl
    | (show _ = _; simp [eqV])
theorem keptNo {x : Str} (h : x ∉ keptL) : inV (.str x) (keptL.map V.str) = false := by
  unfold inV
  rw [List.any_eq_false]
  intro y hy
  obtain ⟨z, hz, rfl⟩ := List.mem_map.mp hy
  rw [eqV_str]
  intro e
  exact h (of_decide_eq_true e ▸ hz)
theorem at_ok {α : Type} {xs : List α} {j : Nat} {v : α} (h : xs[j]? = some v) : atI xs (j : Int) = some v := atI_nat h
def sp_is_name : Sp := fun vs H Q _ => (∃ x, vs = [.str x] ∧ NameOk x ∧ ∀ H', Same H H' → Q (.bl true) H') ∨ ∃ i : Int, vs = [.int i] ∧ Q (.bl false) H
theorem ok_is_name (T : Txt K mg) : FnOk P w K mg base CX0 1 T.is_name.f T.is_name.fd ["value"] sp_is_name := by
  refine T.is_name.F.ok sc_is_name (fun vs H Q E h => ?_) (fun cdv A outer s H vs Q E hr h => ?_)
  · rcases h with ⟨x, rfl, _⟩ | ⟨i, rfl, _⟩ <;> rfl
  refine ⟨_, (pss_cons (ps_if (PW.pt (pw_or (pt_not (pt_val (pe_callB call_isS rfl T.n_isinstance (by decide +kernel) (pa_cons (pv 0) (pa_cons (pe_bltn (v := .ty "str") (u := .type "str") rfl T.n_str (by decide +kernel) rfl) pa_nil))))) (pw_or (pt_not (pt_chain op_le op_le pe_int (pe_callB call_len_str rfl T.n_len (by decide +kernel) (pa_cons (pv 0) pa_nil)) (pe_glob rfl T.g_MAX_NAME.e T.g_MAX_NAME.r))) (pw_or1 (pt_cmpR op_notIn_sign (pe_ix ix_str (pv 0) pe_int (fun _ _ => rfl)) (pe_glob rfl T.g_LETTERS.e T.g_LETTERS.r) rfl)))))
        (pss_one (ps_ret pe_bl))
        pss_nil)
      (pss_one (ps_ret (pe_and (pe_cmpR (op_eqD hr.units) (pe_lc (own := [("sign", 1)]) (g := gName 1) (tt := _) rfl sc_is_name.nd (pi_str (pv 0)) (blkOk_by (N := N_is_name) (sc := defScope s_is_name) (by decide +kernel)) (fun _ _ _ _ _ => pg_name (i := 1) sc_is_name.nd rfl (Or.inl rfl)) (fun _ _ _ _ _ => (pts_one (pt_cmpR op_notIn_sign (pv 1) (pe_glob rfl T.g_SIGNS.e T.g_SIGNS.r) rfl))) (fun _ _ _ _ _ => (pv 1))) (pe_lst pa_nil) (nomark _)) (pe_one (pe_cmpR op_notIn_seq (pv 0) (pe_glob (v := .ref T.aKEPT) rfl T.g_KEPT rfl) rfl)))))), ?_⟩
  rcases h with ⟨x, rfl, ⟨h1, h2, h3, ⟨c0, h4, h5⟩, h6⟩, q⟩ | ⟨i, rfl, q⟩
  · refine ⟨_, rfl, _, rfl, .inr (.inl ⟨_, rfl, _, rfl, itF (by decide +kernel) ?_⟩)⟩
    refine ⟨_, rfl, _, rfl, Nat.le_trans h2 (by decide), _, _, rfl, rfl, _, rfl, ?_⟩
    refine itT (decide_eq_true (by omega)) ⟨_, _, rfl, rfl, _, rfl, itF ?_ ?_⟩
    · rw [Bool.not_eq_false']
      exact decide_eq_true (by omega)
    refine ⟨_, rfl, _, 0, _, rfl, rfl, Nat.le_trans h2 (by decide), at_ok h4, _, _, rfl, rfl, _, rfl, itF ?_ ?_⟩
    · rw [Bool.not_eq_false']
      exact decide_eq_true h5
    refine ⟨_, rfl, _, rfl, fun D hD => ?_⟩
    refine lc_it walk_str (fun _ H1 => H1 = upd H D (.lst [])) rfl (fun _ _ _ _ => trivial) (fun i y H1 H2 hi e1 e2 => ?_) (fun H1 e1 => ?_)
    · subst e1
      obtain ⟨e2, c, hc, rfl⟩ := e2
      subst e2
      refine ⟨rfl, _, rfl, _, _, rfl, rfl, _, rfl, itF ?_ rfl⟩
      rw [Bool.not_eq_false']
      exact decide_eq_true (h3 c (by rw [Array.mem_toList_iff]; exact Array.mem_of_getElem? hc))
    subst e1
    refine ⟨(by show 0 ≤ sizeLine; decide), fun p hp => ?_⟩
    have s1 : Same H (upd (upd H D (.lst [])) p (.lst [])) := (Same.new hD _).trans (Same.new hp _)
    refine ⟨.list [], .list [], .lst (SqL.of (Same.new hp _ _ _ upd_same)) .nil, .lst (SqL.of upd_same) .nil, by decide +kernel, by decide +kernel, _, rfl, itT (by decide +kernel) ?_⟩
    refine ⟨_, rfl, _, _, rfl, .inr (T.KEPT _), rfl, by decide +kernel, ?_⟩
    refine Qbl (q _ s1) ?_
    rw [if_pos rfl, eq_comm, Bool.not_eq_true']
    exact keptNo h6
  · refine ⟨_, rfl, _, rfl, .inl ⟨_, rfl, _, rfl, itT (by decide +kernel) ?_⟩⟩
    exact q
end
end K29

set_option Elab.async false
set_option linter.all false
set_option maxRecDepth 100000
set_option maxHeartbeats 4000000
/-! ## program_error: expressions, tests, statements -/
namespace K29
open PySem L2
section
variable {P : Program} {w : World} {K : PySem.W.Frag} {mg : Str → Option Value} {base : Heap}
theorem FnOk.never {CX : CXT} {k : Nat} {f : Addr} {fd : FuncData} {ps : List Str} {sp : Sp} (h : ∀ vs H Q E, ¬ sp vs H Q E) : FnOk P w K mg base CX k f fd ps sp :=
  ⟨fun vs H Q E q => absurd q (h vs H Q E), fun A outer s H args us vs Q E _ _ _ _ q => absurd q (h vs H Q E)⟩

def sp_is_expression (n : Nat) : Sp := fun vs H Q _ => ∃ v e, vs = [v, .int (n : Int)] ∧ RepE H e v ∧ okE NameOk n e ∧ ∀ H', Same H H' → Q (.bl true) H'
theorem ok_is_expression (T : Txt K mg) : ∀ n : Nat, FnOk P w K mg base CX0 (n + 1) T.is_expression.f T.is_expression.fd ["value", "left"] (sp_is_expression n)
  | 0 => FnOk.never fun vs H Q E ⟨v, e, _, _, h, _⟩ => by simp [okE] at h
  | n + 1 => by
    have G_is_expression := ok_is_expression T n
    have G_is_name := ok_is_name (P := P) (w := w) (base := base) T
    have G_is_whole := ok_is_whole (P := P) (w := w) (base := base) T
    refine T.is_expression.F.ok sc_is_expression (fun vs H Q E h => ?_) (fun cdv A outer s H vs Q E hr h => ?_)
    · obtain ⟨v, e, rfl, _⟩ := h
      rfl
    obtain ⟨v, e, rfl, hv, ho, q⟩ := h
    refine ⟨_, (pss_cons (ps_if (pt_cmpR op_eq (pv 1) pe_int (nomark _))
        (pss_one (ps_ret pe_bl))
        pss_nil)
      (pss_cons (ps_if (pt_not (pt_val (pe_callB call_isT rfl T.n_isinstance (by decide +kernel) (pa_cons (pv 0) (pa_cons (pe_bltn (v := .ty "tuple") (u := .type "tuple") rfl T.n_tuple (by decide +kernel) rfl) pa_nil)))))
        (pss_one (ps_ret (pe_or (pe_call G_is_name (hr.mono (by omega)) rfl T.is_name.g T.is_name.F.kp T.is_name.B .nil pass0 (pa_cons (pv 0) pa_nil)) (pe_one (pe_call G_is_whole (hr.mono (by omega)) rfl T.is_whole.g T.is_whole.F.kp T.is_whole.B .nil pass0 (pa_cons (pv 0) (pa_cons (pe_op op_sub pe_int (pe_glob rfl T.g_MOST_NUMBER.e T.g_MOST_NUMBER.r)) (pa_cons (pe_glob rfl T.g_MOST_NUMBER.e T.g_MOST_NUMBER.r) pa_nil))))))))
        pss_nil)
      (pss_cons (ps_if (PW.pt (pw_or (pt_cmpR op_ne (pe_callB call_len_seq rfl T.n_len (by decide +kernel) (pa_cons (pv 0) pa_nil)) pe_int (nomark _)) (pw_or (pt_not (pt_val (pe_callB call_isS rfl T.n_isinstance (by decide +kernel) (pa_cons (pe_ix ix_tup (pv 0) pe_int (fun _ _ => rfl)) (pa_cons (pe_bltn (v := .ty "str") (u := .type "str") rfl T.n_str (by decide +kernel) rfl) pa_nil))))) (pw_or1 (pt_not (pt_val (pe_call G_is_expression (hr.mono (by omega)) rfl T.is_expression.g T.is_expression.F.kp T.is_expression.B .nil pass0 (pa_cons (pe_ix ix_tup (pv 0) pe_int (fun _ _ => rfl)) (pa_cons (pe_op op_sub (pv 1) pe_int) pa_nil)))))))))
        (pss_one (ps_ret pe_bl))
        pss_nil)
      (pss_cons (ps_if (pt_cmpR op_eq (pe_ix ix_tup (pv 0) pe_int (fun _ _ => rfl)) pe_str (nomark _))
        (pss_one (ps_ret (pe_call G_is_whole (hr.mono (by omega)) rfl T.is_whole.g T.is_whole.F.kp T.is_whole.B .nil pass0 (pa_cons (pe_ix ix_tup (pv 0) pe_int (fun _ _ => rfl)) (pa_cons (pe_op op_sub pe_int (pe_glob rfl T.g_MOST_FACTOR.e T.g_MOST_FACTOR.r)) (pa_cons (pe_glob rfl T.g_MOST_FACTOR.e T.g_MOST_FACTOR.r) pa_nil))))))
        pss_nil)
      (pss_one (ps_ret (pe_and (pe_cmpR op_in_seq (pe_ix ix_tup (pv 0) pe_int (fun _ _ => rfl)) (pe_tup (pa_cons pe_str (pa_cons pe_str pa_nil))) rfl) (pe_one (pe_call G_is_expression (hr.mono (by omega)) rfl T.is_expression.g T.is_expression.F.kp T.is_expression.B .nil pass0 (pa_cons (pe_ix ix_tup (pv 0) pe_int (fun _ _ => rfl)) (pa_cons (pe_op op_sub (pv 1) pe_int) pa_nil))))))))))), ?_⟩
    refine ⟨_, rfl, rfl, _, rfl, itF (decide_eq_false fun z => ?_) ?_⟩
    · have := V.int.inj z
      omega
    have e1 : ((n + 1 : Nat) : Int) - 1 = (n : Int) := by omega
    cases e with
    | num i =>
      obtain rfl := rep_int.mp hv
      simp only [okE] at ho
      refine ⟨_, rfl, _, rfl, .inl ⟨_, rfl, _, rfl, itT (by decide +kernel) ?_⟩⟩
      refine ⟨_, rfl, .inr ⟨_, rfl, _, rfl, itF rfl ?_⟩⟩
      refine ⟨_, rfl, _, _, rfl, rfl, _, _, _, rfl, ?_⟩
      exact Qbl (q H (Same.refl H)) (decide_eq_true ⟨by omega, by omega⟩).symm
    | nam x =>
      obtain rfl := rep_str.mp hv
      simp only [okE] at ho
      refine ⟨_, rfl, _, rfl, .inr (.inl ⟨_, rfl, _, rfl, itT (by decide +kernel) ?_⟩)⟩
      exact ⟨_, rfl, .inl ⟨_, rfl, ho, fun H' s1 => ⟨_, rfl, itT rfl (q H' s1)⟩⟩⟩
    | bin p a b =>
      obtain ⟨r, x, y, rfl, hr0, hx, hy⟩ := RepE.bin_at hv
      simp only [okE] at ho
      refine ⟨_, rfl, _, rfl, .inr (.inr ⟨_, _, rfl, hr0, _, rfl, itF (by decide +kernel) ?_⟩)⟩
      refine ⟨_, rfl, _, _, rfl, .inr (SqT.of hr0), rfl, _, rfl, itF (nb rfl) ?_⟩
      refine ⟨_, rfl, _, _, _, _, rfl, rfl, SqT.of hr0, rfl, _, rfl, .inr (.inl ⟨_, rfl, _, rfl, itF (by decide +kernel) ?_⟩)⟩
      refine ⟨_, rfl, _, _, _, _, rfl, rfl, SqT.of hr0, rfl, _, rfl, _, _, rfl, rfl, y, b, by rw [← e1] <;> rfl, hy, ho.2, fun H1 s1 => ⟨_, rfl, itF rfl ?_⟩⟩
      have hr1 := s1 _ _ hr0
      refine ⟨_, rfl, _, _, _, _, rfl, rfl, SqT.of hr1, rfl, rfl, _, rfl, itF (by cases p <;> decide +kernel) ?_⟩
      refine ⟨_, rfl, _, _, _, _, rfl, rfl, SqT.of hr1, rfl, by show 2 ≤ sizeLine; decide, fun t ht => ?_⟩
      refine ⟨_, _, rfl, .inr (SqT.of upd_same), rfl, by decide +kernel, _, rfl, itT (by cases p <;> decide +kernel) ?_⟩
      have s2 := s1.trans (Same.new ht (.tup [.str "plus", .str "minus"]))
      refine ⟨_, rfl, _, _, _, _, rfl, rfl, SqT.of (s2 _ _ hr0), rfl, _, rfl, _, _, rfl, rfl, x, a, by rw [← e1] <;> rfl, hx.sm s2, ho.1, fun H3 s3 => q H3 (s2.trans s3)⟩
    | tim k e =>
      obtain ⟨r, x, rfl, hr0, hx⟩ := RepE.tim_at hv
      simp only [okE] at ho
      refine ⟨_, rfl, _, rfl, .inr (.inr ⟨_, _, rfl, hr0, _, rfl, itF (by decide +kernel) ?_⟩)⟩
      refine ⟨_, rfl, _, _, rfl, .inr (SqT.of hr0), rfl, _, rfl, itF (nb rfl) ?_⟩
      refine ⟨_, rfl, _, _, _, _, rfl, rfl, SqT.of hr0, rfl, _, rfl, .inr (.inl ⟨_, rfl, _, rfl, itF (by decide +kernel) ?_⟩)⟩
      refine ⟨_, rfl, _, _, _, _, rfl, rfl, SqT.of hr0, rfl, _, rfl, _, _, rfl, rfl, x, e, by rw [← e1] <;> rfl, hx, ho.2.2, fun H1 s1 => ⟨_, rfl, itF rfl ?_⟩⟩
      have hr1 := s1 _ _ hr0
      refine ⟨_, rfl, _, _, _, _, rfl, rfl, SqT.of hr1, rfl, rfl, _, rfl, itT (by decide +kernel) ?_⟩
      refine ⟨_, rfl, _, _, _, _, rfl, rfl, SqT.of hr1, rfl, _, _, rfl, rfl, _, _, _, rfl, ?_⟩
      exact Qbl (q H1 s1) (decide_eq_true ⟨by omega, by omega⟩).symm
end
end K29

set_option Elab.async false
set_option linter.all false
set_option maxRecDepth 100000
set_option maxHeartbeats 4000000
/-! ## program_error: tests and statements -/
namespace K29
open PySem L2
section
variable {P : Program} {w : World} {K : PySem.W.Frag} {mg : Str → Option Value} {base : Heap}

def sp_is_rest : Sp := fun vs H Q _ => ∃ v e m r, vs = [v] ∧ RepT H (.rest e m r) v ∧ okT NameOk 0 (.rest e m r) ∧ ∀ H', Same H H' → Q (.bl true) H'
theorem ok_is_rest (T : Txt K mg) : FnOk P w K mg base CX0 5 T.is_rest.f T.is_rest.fd ["value"] sp_is_rest := by
  have G_is_expression := ok_is_expression (P := P) (w := w) (base := base) T 3
  have G_is_whole := ok_is_whole (P := P) (w := w) (base := base) T
  refine T.is_rest.F.ok sc_is_rest (fun vs H Q E h => ?_) (fun cdv A outer s H vs Q E hr h => ?_)
  · obtain ⟨v, e, m, r, rfl, _⟩ := h
    rfl
  obtain ⟨v, e, m, r, rfl, hv, ho, q⟩ := h
  refine ⟨_, (pss_cons (ps_if (PW.pt (pw_or (pt_cmpR op_ne (pe_callB call_len_seq rfl T.n_len (by decide +kernel) (pa_cons (pv 0) pa_nil)) pe_int (nomark _)) (pw_or (pt_not (pt_val (pe_call G_is_expression (hr.mono (by omega)) rfl T.is_expression.g T.is_expression.F.kp T.is_expression.B .nil pass0 (pa_cons (pe_ix ix_tup (pv 0) pe_int (fun _ _ => rfl)) (pa_cons (pe_glob rfl T.g_MAX_DEEP.e T.g_MAX_DEEP.r) pa_nil))))) (pw_or1 (pt_not (pt_val (pe_call G_is_whole (hr.mono (by omega)) rfl T.is_whole.g T.is_whole.F.kp T.is_whole.B .nil pass0 (pa_cons (pe_ix ix_tup (pv 0) pe_int (fun _ _ => rfl)) (pa_cons pe_int (pa_cons (pe_glob rfl T.g_MAX_BY.e T.g_MAX_BY.r) pa_nil))))))))))
        (pss_one (ps_ret pe_bl))
        pss_nil)
      (pss_one (ps_ret (pe_call G_is_whole (hr.mono (by omega)) rfl T.is_whole.g T.is_whole.F.kp T.is_whole.B .nil pass0 (pa_cons (pe_ix ix_tup (pv 0) pe_int (fun _ _ => rfl)) (pa_cons pe_int (pa_cons (pe_op op_sub (pe_ix ix_tup (pv 0) pe_int (fun _ _ => rfl)) pe_int) pa_nil))))))), ?_⟩
  obtain ⟨p, x, rfl, hp, hx⟩ := RepT.rest_at hv
  simp only [okT] at ho
  refine ⟨_, rfl, _, _, rfl, .inr (SqT.of hp), rfl, _, rfl, itF (nb rfl) ?_⟩
  refine ⟨_, rfl, _, _, _, _, rfl, rfl, SqT.of hp, rfl, x, e, rfl, hx, ho.1, fun H1 s1 => ⟨_, rfl, itF rfl ?_⟩⟩
  have h1 := s1 _ _ hp
  refine ⟨_, rfl, _, _, _, _, rfl, rfl, SqT.of h1, rfl, _, _, _, rfl, _, rfl, itF ?_ ?_⟩
  · rw [decide_eq_true (show (2 : Int) ≤ m ∧ m ≤ 6 from ⟨by omega, by omega⟩)] <;> rfl
  refine ⟨_, rfl, _, _, _, _, rfl, rfl, SqT.of h1, rfl, _, rfl, _, _, _, _, rfl, rfl, SqT.of h1, rfl, _, _, rfl, rfl, _, _, _, rfl, ?_⟩
  exact Qbl (q H1 s1) (decide_eq_true ⟨by omega, by omega⟩).symm

def sp_is_test (n : Nat) : Sp := fun vs H Q _ => ∃ v t, vs = [v, .int (n : Int)] ∧ RepT H t v ∧ okT NameOk n t ∧ ∀ H', Same H H' → Q (.bl true) H'
theorem ok_is_test_of (T : Txt K mg) (n : Nat) (sp' : Sp) (G_is_test : FnOk P w K mg base CX0 (n + 5) T.is_test.f T.is_test.fd ["value", "nots"] sp') (hG : ∀ m, n = m + 1 → sp' = sp_is_test m) :
    FnOk P w K mg base CX0 (n + 6) T.is_test.f T.is_test.fd ["value", "nots"] (sp_is_test n) := by
  have G_is_expression := ok_is_expression (P := P) (w := w) (base := base) T 3
  have G_is_rest := ok_is_rest (P := P) (w := w) (base := base) T
  refine T.is_test.F.ok sc_is_test (fun vs H Q E h => ?_) (fun cdv A outer s H vs Q E hr h => ?_)
  · obtain ⟨v, t, rfl, _⟩ := h
    rfl
  obtain ⟨v, t, rfl, hv, ho, q⟩ := h
  refine ⟨_, (pss_cons (ps_if (PW.pt (pw_or (pt_not (pt_val (pe_callB call_isT rfl T.n_isinstance (by decide +kernel) (pa_cons (pv 0) (pa_cons (pe_bltn (v := .ty "tuple") (u := .type "tuple") rfl T.n_tuple (by decide +kernel) rfl) pa_nil))))) (pw_or (pt_cmpR op_eq (pe_callB call_len_seq rfl T.n_len (by decide +kernel) (pa_cons (pv 0) pa_nil)) pe_int (nomark _)) (pw_or1 (pt_not (pt_val (pe_callB call_isS rfl T.n_isinstance (by decide +kernel) (pa_cons (pe_ix ix_tup (pv 0) pe_int (fun _ _ => rfl)) (pa_cons (pe_bltn (v := .ty "str") (u := .type "str") rfl T.n_str (by decide +kernel) rfl) pa_nil)))))))))
        (pss_one (ps_ret pe_bl))
        pss_nil)
      (pss_cons (ps_if (pt_cmpR op_eq (pe_ix ix_tup (pv 0) pe_int (fun _ _ => rfl)) pe_str (nomark _))
        (pss_one (ps_ret (pe_and (pe_cmpR op_eq (pe_callB call_len_seq rfl T.n_len (by decide +kernel) (pa_cons (pv 0) pa_nil)) pe_int (nomark _)) (pe_and (pe_call G_is_expression (hr.mono (by omega)) rfl T.is_expression.g T.is_expression.F.kp T.is_expression.B .nil pass0 (pa_cons (pe_ix ix_tup (pv 0) pe_int (fun _ _ => rfl)) (pa_cons (pe_glob rfl T.g_MAX_DEEP.e T.g_MAX_DEEP.r) pa_nil))) (pe_one (pe_call G_is_expression (hr.mono (by omega)) rfl T.is_expression.g T.is_expression.F.kp T.is_expression.B .nil pass0 (pa_cons (pe_ix ix_tup (pv 0) pe_int (fun _ _ => rfl)) (pa_cons (pe_glob rfl T.g_MAX_DEEP.e T.g_MAX_DEEP.r) pa_nil))))))))
        pss_nil)
      (pss_cons (ps_if (pt_cmpR op_eq (pe_ix ix_tup (pv 0) pe_int (fun _ _ => rfl)) pe_str (nomark _))
        (pss_one (ps_ret (pe_call G_is_rest (hr.mono (by omega)) rfl T.is_rest.g T.is_rest.F.kp T.is_rest.B .nil pass0 (pa_cons (pv 0) pa_nil))))
        pss_nil)
      (pss_one (ps_ret (pe_and (pe_cmpR op_eq (pe_ix ix_tup (pv 0) pe_int (fun _ _ => rfl)) pe_str (nomark _)) (pe_and (pe_cmpR op_eq (pe_callB call_len_seq rfl T.n_len (by decide +kernel) (pa_cons (pv 0) pa_nil)) pe_int (nomark _)) (pe_and (pe_cmpR op_gt (pv 1) pe_int (nomark _)) (pe_one (pe_call G_is_test (hr.mono (by omega)) rfl T.is_test.g T.is_test.F.kp T.is_test.B .nil pass0 (pa_cons (pe_ix ix_tup (pv 0) pe_int (fun _ _ => rfl)) (pa_cons (pe_op op_sub (pv 1) pe_int) pa_nil)))))))))))), ?_⟩
  cases t with
  | less a b =>
    obtain ⟨p, x, y, rfl, hp, hx, hy⟩ := RepT.less_at hv
    have ho' : okE NameOk 3 a ∧ okE NameOk 3 b := by cases n <;> simpa only [okT] using ho
    refine ⟨_, rfl, _, rfl, .inr (.inr ⟨_, _, rfl, hp, _, rfl, itF (by decide +kernel) ?_⟩)⟩
    refine ⟨_, rfl, _, _, rfl, .inr (SqT.of hp), rfl, _, rfl, itF (decide_eq_false fun z => absurd (V.int.inj z) (by simp)) ?_⟩
    refine ⟨_, rfl, _, _, _, _, rfl, rfl, SqT.of hp, rfl, _, rfl, .inr (.inl ⟨_, rfl, _, rfl, itF (by decide +kernel) ?_⟩)⟩
    refine ⟨_, rfl, _, _, _, _, rfl, rfl, SqT.of hp, rfl, rfl, _, rfl, itT (by decide +kernel) ?_⟩
    refine ⟨_, rfl, _, _, rfl, .inr (SqT.of hp), rfl, _, rfl, itT (decide_eq_true rfl) ?_⟩
    refine ⟨_, rfl, _, _, _, _, rfl, rfl, SqT.of hp, rfl, x, a, rfl, hx, ho'.1, fun H1 s1 => ⟨_, rfl, itT rfl ?_⟩⟩
    exact ⟨_, rfl, _, _, _, _, rfl, rfl, SqT.of (s1 _ _ hp), rfl, y, b, rfl, hy.sm s1, ho'.2, fun H2 s2 => q H2 (s1.trans s2)⟩
  | rest e m r =>
    have hv' := hv
    obtain ⟨p, x, rfl, hp, hx⟩ := RepT.rest_at hv
    have ho' : okT NameOk 0 (.rest e m r) := by cases n <;> simpa only [okT] using ho
    refine ⟨_, rfl, _, rfl, .inr (.inr ⟨_, _, rfl, hp, _, rfl, itF (by decide +kernel) ?_⟩)⟩
    refine ⟨_, rfl, _, _, rfl, .inr (SqT.of hp), rfl, _, rfl, itF (decide_eq_false fun z => absurd (V.int.inj z) (by simp)) ?_⟩
    refine ⟨_, rfl, _, _, _, _, rfl, rfl, SqT.of hp, rfl, _, rfl, .inr (.inl ⟨_, rfl, _, rfl, itF (by decide +kernel) ?_⟩)⟩
    refine ⟨_, rfl, _, _, _, _, rfl, rfl, SqT.of hp, rfl, rfl, _, rfl, itF (by decide +kernel) ?_⟩
    refine ⟨_, rfl, _, _, _, _, rfl, rfl, SqT.of hp, rfl, rfl, _, rfl, itT (by decide +kernel) ?_⟩
    exact ⟨_, rfl, _, e, m, r, rfl, hv', ho', q⟩
  | neg t =>
    obtain ⟨p, x, rfl, hp, hx⟩ := RepT.neg_at hv
    cases n with
    | zero => simp [okT] at ho
    | succ n =>
      obtain rfl := hG n rfl
      simp only [okT] at ho
      refine ⟨_, rfl, _, rfl, .inr (.inr ⟨_, _, rfl, hp, _, rfl, itF (by decide +kernel) ?_⟩)⟩
      refine ⟨_, rfl, _, _, rfl, .inr (SqT.of hp), rfl, _, rfl, itF (decide_eq_false fun z => absurd (V.int.inj z) (by simp)) ?_⟩
      refine ⟨_, rfl, _, _, _, _, rfl, rfl, SqT.of hp, rfl, _, rfl, .inr (.inl ⟨_, rfl, _, rfl, itF (by decide +kernel) ?_⟩)⟩
      refine ⟨_, rfl, _, _, _, _, rfl, rfl, SqT.of hp, rfl, rfl, _, rfl, itF (by decide +kernel) ?_⟩
      refine ⟨_, rfl, _, _, _, _, rfl, rfl, SqT.of hp, rfl, rfl, _, rfl, itF (by decide +kernel) ?_⟩
      refine ⟨_, rfl, _, _, _, _, rfl, rfl, SqT.of hp, rfl, rfl, _, rfl, itT (by decide +kernel) ?_⟩
      refine ⟨_, rfl, _, _, rfl, .inr (SqT.of hp), rfl, _, rfl, itT (decide_eq_true rfl) ?_⟩
      refine ⟨_, rfl, _, _, rfl, rfl, _, rfl, itT (decide_eq_true (by omega)) ?_⟩
      have e1 : ((n + 1 : Nat) : Int) - 1 = (n : Int) := by omega
      exact ⟨_, rfl, _, _, _, _, rfl, rfl, SqT.of hp, rfl, _, rfl, _, _, rfl, rfl, x, t, by rw [← e1] <;> rfl, hx, ho, fun H2 s2 => q H2 s2⟩
theorem ok_is_test (T : Txt K mg) : ∀ n : Nat, FnOk P w K mg base CX0 (n + 6) T.is_test.f T.is_test.fd ["value", "nots"] (sp_is_test n)
  | 0 => ok_is_test_of T 0 (fun _ _ _ _ => False) (FnOk.never fun _ _ _ _ h => h) fun m h => absurd h (by omega)
  | n + 1 => ok_is_test_of T (n + 1) (sp_is_test n) (ok_is_test T n) fun m h => by
    obtain rfl : n = m := by omega
    rfl

def sp_are_blocks : Sp := fun vs H Q _ => ∃ p xs, vs = [.ref p] ∧ H p = some (.tup xs) ∧ (∀ x ∈ xs, ∃ q ys, x = .ref q ∧ H q = some (.tup ys)) ∧ ∀ H', Same H H' → Q (.bl true) H'
theorem ok_are_blocks (T : Txt K mg) : FnOk P w K mg base CX0 1 T.are_blocks.f T.are_blocks.fd ["values"] sp_are_blocks := by
  refine T.are_blocks.F.ok sc_are_blocks (fun vs H Q E h => ?_) (fun cdv A outer s H vs Q E hr h => ?_)
  · obtain ⟨p, xs, rfl, _⟩ := h
    rfl
  obtain ⟨p, xs, rfl, hp, hx, q⟩ := h
  refine ⟨_, (pss_one (ps_ret (pe_cmpR (op_eqD hr.units) (pe_lc (own := [("value", 1)]) (g := gName 1) (tt := _) rfl sc_are_blocks.nd (pi_tup (pv 0)) (blkOk_by (N := N_are_blocks) (sc := defScope s_are_blocks) (by decide +kernel)) (fun _ _ _ _ _ => pg_name (i := 1) sc_are_blocks.nd rfl (Or.inl rfl)) (fun _ _ _ _ _ => (pts_one (pt_not (pt_val (pe_callB call_isT rfl T.n_isinstance (by decide +kernel) (pa_cons (pv 1) (pa_cons (pe_bltn (v := .ty "tuple") (u := .type "tuple") rfl T.n_tuple (by decide +kernel) rfl) pa_nil))))))) (fun _ _ _ _ _ => (pv 1))) (pe_lst pa_nil) (nomark _)))), ?_⟩
  refine ⟨_, rfl, p, rfl, ⟨xs, SqT.of hp⟩, fun D hD => ?_⟩
  refine lc_it (walk_tup (K := K) (xs := xs)) (fun _ H1 => H1 = upd H D (.lst [])) rfl (fun _ H1 _ e1 => ?_) (fun i y H1 H2 hi e1 e2 => ?_) (fun H1 e1 => ?_)
  · subst e1
    exact SqT.of (Same.new hD _ _ _ hp)
  · subst e1
    obtain ⟨e2, hy⟩ := e2
    subst e2
    obtain ⟨r, ys, rfl, hr0⟩ := hx y (List.mem_of_getElem? hy)
    exact ⟨rfl, _, rfl, _, rfl, .inr (.inr ⟨_, _, rfl, Same.new hD _ _ _ hr0, _, rfl, itF (by decide +kernel) rfl⟩)⟩
  subst e1
  refine ⟨(by show 0 ≤ sizeLine; decide), fun r hr0 => ?_⟩
  have s1 : Same H (upd (upd H D (.lst [])) r (.lst [])) := (Same.new hD _).trans (Same.new hr0 _)
  refine ⟨.list [], .list [], .lst (SqL.of (Same.new hr0 _ _ _ upd_same)) .nil, .lst (SqL.of upd_same) .nil, by decide +kernel, by decide +kernel, ?_⟩
  exact Qbl (q _ s1) (by decide +kernel)
end
end K29

set_option Elab.async false
set_option linter.all false
set_option maxRecDepth 100000
set_option maxHeartbeats 4000000
/-! ## program_error: a statement, its blocks -/
namespace K29
open PySem L2
section
variable {P : Program} {w : World} {K : PySem.W.Frag} {mg : Str → Option Value} {base : Heap}

def sp_is_statement : Sp := fun vs H Q _ => ∃ v s n, vs = [v] ∧ RepS H s v ∧ okS NameOk n s ∧ ∀ H', Same H H' → Q (.bl true) H'
theorem ok_is_statement (T : Txt K mg) : FnOk P w K mg base CX0 9 T.is_statement.f T.is_statement.fd ["value"] sp_is_statement := by
  have G_is_expression := ok_is_expression (P := P) (w := w) (base := base) T 3
  have G_is_name := ok_is_name (P := P) (w := w) (base := base) T
  have G_is_test := ok_is_test (P := P) (w := w) (base := base) T 2
  have G_are_blocks := ok_are_blocks (P := P) (w := w) (base := base) T
  have G_is_whole := ok_is_whole (P := P) (w := w) (base := base) T
  refine T.is_statement.F.ok sc_is_statement (fun vs H Q E h => ?_) (fun cdv A outer s H vs Q E hr h => ?_)
  · obtain ⟨v, s, n, rfl, _⟩ := h
    rfl
  obtain ⟨v, st, n, rfl, hv, ho, q⟩ := h
  refine ⟨_, (pss_cons (ps_if (PW.pt (pw_or (pt_not (pt_val (pe_callB call_isT rfl T.n_isinstance (by decide +kernel) (pa_cons (pv 0) (pa_cons (pe_bltn (v := .ty "tuple") (u := .type "tuple") rfl T.n_tuple (by decide +kernel) rfl) pa_nil))))) (pw_or (pt_cmpR op_eq (pe_callB call_len_seq rfl T.n_len (by decide +kernel) (pa_cons (pv 0) pa_nil)) pe_int (nomark _)) (pw_or1 (pt_not (pt_val (pe_callB call_isS rfl T.n_isinstance (by decide +kernel) (pa_cons (pe_ix ix_tup (pv 0) pe_int (fun _ _ => rfl)) (pa_cons (pe_bltn (v := .ty "str") (u := .type "str") rfl T.n_str (by decide +kernel) rfl) pa_nil)))))))))
        (pss_one (ps_ret pe_bl))
        pss_nil)
      (pss_cons (ps_if (pt_cmpR op_eq (pe_ix ix_tup (pv 0) pe_int (fun _ _ => rfl)) pe_str (nomark _))
        (pss_one (ps_ret (pe_and (pe_cmpR op_eq (pe_callB call_len_seq rfl T.n_len (by decide +kernel) (pa_cons (pv 0) pa_nil)) pe_int (nomark _)) (pe_and (pe_call G_is_name (hr.mono (by omega)) rfl T.is_name.g T.is_name.F.kp T.is_name.B .nil pass0 (pa_cons (pe_ix ix_tup (pv 0) pe_int (fun _ _ => rfl)) pa_nil)) (pe_one (pe_call G_is_expression (hr.mono (by omega)) rfl T.is_expression.g T.is_expression.F.kp T.is_expression.B .nil pass0 (pa_cons (pe_ix ix_tup (pv 0) pe_int (fun _ _ => rfl)) (pa_cons (pe_glob rfl T.g_MAX_DEEP.e T.g_MAX_DEEP.r) pa_nil))))))))
        pss_nil)
      (pss_cons (ps_if (pt_cmpR op_eq (pe_ix ix_tup (pv 0) pe_int (fun _ _ => rfl)) pe_str (nomark _))
        (pss_one (ps_ret (pe_and (pe_cmpR op_eq (pe_callB call_len_seq rfl T.n_len (by decide +kernel) (pa_cons (pv 0) pa_nil)) pe_int (nomark _)) (pe_one (pe_call G_is_expression (hr.mono (by omega)) rfl T.is_expression.g T.is_expression.F.kp T.is_expression.B .nil pass0 (pa_cons (pe_ix ix_tup (pv 0) pe_int (fun _ _ => rfl)) (pa_cons (pe_glob rfl T.g_MAX_DEEP.e T.g_MAX_DEEP.r) pa_nil)))))))
        pss_nil)
      (pss_cons (ps_if (pt_cmpR op_eq (pe_ix ix_tup (pv 0) pe_int (fun _ _ => rfl)) pe_str (nomark _))
        (pss_one (ps_ret (pe_and (pe_cmpR op_eq (pe_callB call_len_seq rfl T.n_len (by decide +kernel) (pa_cons (pv 0) pa_nil)) pe_int (nomark _)) (pe_and (pe_call G_is_test (hr.mono (by omega)) rfl T.is_test.g T.is_test.F.kp T.is_test.B .nil pass0 (pa_cons (pe_ix ix_tup (pv 0) pe_int (fun _ _ => rfl)) (pa_cons (pe_glob rfl T.g_MAX_NOTS.e T.g_MAX_NOTS.r) pa_nil))) (pe_one (pe_call G_are_blocks (hr.mono (by omega)) rfl T.are_blocks.g T.are_blocks.F.kp T.are_blocks.B .nil pass0 (pa_cons (pe_slice sl_tupA (pv 0) (po_some pe_int) po_none) pa_nil)))))))
        pss_nil)
      (pss_cons (ps_if (pt_cmpR op_in_seq (pe_ix ix_tup (pv 0) pe_int (fun _ _ => rfl)) (pe_glob (v := .ref T.aCHOICES) rfl T.g_CHOICES rfl) rfl)
        (pss_one (ps_ret (pe_and (pe_cmpR op_eq (pe_callB call_len_seq rfl T.n_len (by decide +kernel) (pa_cons (pv 0) pa_nil)) pe_int (nomark _)) (pe_one (pe_call G_are_blocks (hr.mono (by omega)) rfl T.are_blocks.g T.are_blocks.F.kp T.are_blocks.B .nil pass0 (pa_cons (pe_slice sl_tupA (pv 0) (po_some pe_int) po_none) pa_nil))))))
        pss_nil)
      (pss_cons (ps_if (pt_cmpR op_eq (pe_ix ix_tup (pv 0) pe_int (fun _ _ => rfl)) pe_str (nomark _))
        (pss_one (ps_ret (pe_and (pe_cmpR op_eq (pe_callB call_len_seq rfl T.n_len (by decide +kernel) (pa_cons (pv 0) pa_nil)) pe_int (nomark _)) (pe_and (pe_call G_is_whole (hr.mono (by omega)) rfl T.is_whole.g T.is_whole.F.kp T.is_whole.B .nil pass0 (pa_cons (pe_ix ix_tup (pv 0) pe_int (fun _ _ => rfl)) (pa_cons pe_int (pa_cons (pe_glob rfl T.g_MAX_TIMES.e T.g_MAX_TIMES.r) pa_nil)))) (pe_one (pe_call G_are_blocks (hr.mono (by omega)) rfl T.are_blocks.g T.are_blocks.F.kp T.are_blocks.B .nil pass0 (pa_cons (pe_slice sl_tupA (pv 0) (po_some pe_int) po_none) pa_nil)))))))
        pss_nil)
      (pss_one (ps_ret (pe_cmpR (op_eqD hr.units) (pv 0) (pe_tup (pa_cons pe_str pa_nil)) (nomark _)))))))))), ?_⟩
  cases n with
  | zero => simp [okS] at ho
  | succ n =>
  cases st with
  | set x e =>
    obtain ⟨p, y, rfl, hp, hy⟩ := RepS.set_at hv
    simp only [okS] at ho
    refine ⟨_, rfl, _, rfl, .inr (.inr ⟨_, _, rfl, hp, _, rfl, itF (by decide +kernel) ?_⟩)⟩
    refine ⟨_, rfl, _, _, rfl, .inr (SqT.of hp), rfl, _, rfl, itF (decide_eq_false fun z => absurd (V.int.inj z) (by simp)) ?_⟩
    refine ⟨_, rfl, _, _, _, _, rfl, rfl, SqT.of hp, rfl, _, rfl, .inr (.inl ⟨_, rfl, _, rfl, itF (by decide +kernel) ?_⟩)⟩
    refine ⟨_, rfl, _, _, _, _, rfl, rfl, SqT.of hp, rfl, rfl, _, rfl, itT (by decide +kernel) ?_⟩
    refine ⟨_, rfl, _, _, rfl, .inr (SqT.of hp), rfl, _, rfl, itT (decide_eq_true rfl) ?_⟩
    refine ⟨_, rfl, _, _, _, _, rfl, rfl, SqT.of hp, rfl, .inl ⟨_, rfl, ho.1, fun H1 s1 => ⟨_, rfl, itT rfl ?_⟩⟩⟩
    exact ⟨_, rfl, _, _, _, _, rfl, rfl, SqT.of (s1 _ _ hp), rfl, y, e, rfl, hy.sm s1, ho.2, fun H2 s2 => q H2 (s1.trans s2)⟩
  | pay e =>
    obtain ⟨p, y, rfl, hp, hy⟩ := RepS.pay_at hv
    simp only [okS] at ho
    refine ⟨_, rfl, _, rfl, .inr (.inr ⟨_, _, rfl, hp, _, rfl, itF (by decide +kernel) ?_⟩)⟩
    refine ⟨_, rfl, _, _, rfl, .inr (SqT.of hp), rfl, _, rfl, itF (decide_eq_false fun z => absurd (V.int.inj z) (by simp)) ?_⟩
    refine ⟨_, rfl, _, _, _, _, rfl, rfl, SqT.of hp, rfl, _, rfl, .inr (.inl ⟨_, rfl, _, rfl, itF (by decide +kernel) ?_⟩)⟩
    refine ⟨_, rfl, _, _, _, _, rfl, rfl, SqT.of hp, rfl, rfl, _, rfl, itF (by decide +kernel) ?_⟩
    refine ⟨_, rfl, _, _, _, _, rfl, rfl, SqT.of hp, rfl, rfl, _, rfl, itT (by decide +kernel) ?_⟩
    refine ⟨_, rfl, _, _, rfl, .inr (SqT.of hp), rfl, _, rfl, itT (decide_eq_true rfl) ?_⟩
    exact ⟨_, rfl, _, _, _, _, rfl, rfl, SqT.of hp, rfl, y, e, rfl, hy, ho, fun H2 s2 => q H2 s2⟩
  | stop =>
    obtain ⟨p, rfl, hp⟩ := RepS.stop_at hv
    refine ⟨_, rfl, _, rfl, .inr (.inr ⟨_, _, rfl, hp, _, rfl, itF (by decide +kernel) ?_⟩)⟩
    refine ⟨_, rfl, _, _, rfl, .inr (SqT.of hp), rfl, _, rfl, itF (decide_eq_false fun z => absurd (V.int.inj z) (by simp)) ?_⟩
    refine ⟨_, rfl, _, _, _, _, rfl, rfl, SqT.of hp, rfl, _, rfl, .inr (.inl ⟨_, rfl, _, rfl, itF (by decide +kernel) ?_⟩)⟩
    refine ⟨_, rfl, _, _, _, _, rfl, rfl, SqT.of hp, rfl, rfl, _, rfl, itF (by decide +kernel) ?_⟩
    refine ⟨_, rfl, _, _, _, _, rfl, rfl, SqT.of hp, rfl, rfl, _, rfl, itF (by decide +kernel) ?_⟩
    refine ⟨_, rfl, _, _, _, _, rfl, rfl, SqT.of hp, rfl, rfl, _, rfl, itF (by decide +kernel) ?_⟩
    refine ⟨_, rfl, _, _, _, _, rfl, rfl, SqT.of hp, rfl, _, _, rfl, .inr (T.CHOICES _), rfl, by decide +kernel, _, rfl, itF (by decide +kernel) ?_⟩
    refine ⟨_, rfl, _, _, _, _, rfl, rfl, SqT.of hp, rfl, rfl, _, rfl, itF (by decide +kernel) ?_⟩
    refine ⟨_, rfl, by show 1 ≤ sizeLine; decide, fun t ht => ?_⟩
    have s1 := Same.new ht (.tup [.str "stop"])
    refine ⟨_, _, Rep.dp (.tuple [.str "stop"]) _ (rep_tuple.mpr ⟨_, _, rfl, s1 _ _ hp, repl1.mpr ⟨_, rfl, rep_str.mpr rfl⟩⟩), Rep.dp (.tuple [.str "stop"]) _ (rep_tuple.mpr ⟨_, _, rfl, upd_same, repl1.mpr ⟨_, rfl, rep_str.mpr rfl⟩⟩),
      by decide +kernel, by decide +kernel, ?_⟩
    exact Qbl (q _ s1) (by decide +kernel)
  | ite t a b =>
    obtain ⟨p, x, p1, p2, xs, ys, rfl, hp, hx, h1, _, h2, _⟩ := RepS.ite_at hv
    simp only [okS] at ho
    refine ⟨_, rfl, _, rfl, .inr (.inr ⟨_, _, rfl, hp, _, rfl, itF (by decide +kernel) ?_⟩)⟩
    refine ⟨_, rfl, _, _, rfl, .inr (SqT.of hp), rfl, _, rfl, itF (decide_eq_false fun z => absurd (V.int.inj z) (by simp)) ?_⟩
    refine ⟨_, rfl, _, _, _, _, rfl, rfl, SqT.of hp, rfl, _, rfl, .inr (.inl ⟨_, rfl, _, rfl, itF (by decide +kernel) ?_⟩)⟩
    refine ⟨_, rfl, _, _, _, _, rfl, rfl, SqT.of hp, rfl, rfl, _, rfl, itF (by decide +kernel) ?_⟩
    refine ⟨_, rfl, _, _, _, _, rfl, rfl, SqT.of hp, rfl, rfl, _, rfl, itF (by decide +kernel) ?_⟩
    refine ⟨_, rfl, _, _, _, _, rfl, rfl, SqT.of hp, rfl, rfl, _, rfl, itT (by decide +kernel) ?_⟩
    refine ⟨_, rfl, _, _, rfl, .inr (SqT.of hp), rfl, _, rfl, itT (decide_eq_true rfl) ?_⟩
    refine ⟨_, rfl, _, _, _, _, rfl, rfl, SqT.of hp, rfl, x, t, rfl, hx, ho.1, fun H1 s1 => ⟨_, rfl, itT rfl ?_⟩⟩
    refine ⟨_, rfl, _, rfl, _, _, rfl, SqT.of (s1 _ _ hp), fun z => absurd z.1 (by show ¬ (2 : Nat) = 0; decide), fun _ r hr0 => ?_⟩
    have s2 := Same.new hr0 (.tup [.ref p1, .ref p2])
    refine ⟨r, [.ref p1, .ref p2], rfl, upd_same, fun y hy => ?_, fun H2 s3 => q H2 (s1.trans (s2.trans s3))⟩
    rcases List.mem_cons.mp hy with rfl | hy
    · exact ⟨_, _, rfl, s2 _ _ (s1 _ _ h1)⟩
    · obtain rfl := List.mem_singleton.mp hy
      exact ⟨_, _, rfl, s2 _ _ (s1 _ _ h2)⟩
  | cho we a b =>
    obtain ⟨p, p1, p2, xs, ys, rfl, hp, h1, _, h2, _⟩ := RepS.cho_at hv
    simp only [okS] at ho
    refine ⟨_, rfl, _, rfl, .inr (.inr ⟨_, _, rfl, hp, _, rfl, itF (by decide +kernel) ?_⟩)⟩
    refine ⟨_, rfl, _, _, rfl, .inr (SqT.of hp), rfl, _, rfl, itF (decide_eq_false fun z => absurd (V.int.inj z) (by simp)) ?_⟩
    refine ⟨_, rfl, _, _, _, _, rfl, rfl, SqT.of hp, rfl, _, rfl, .inr (.inl ⟨_, rfl, _, rfl, itF (by decide +kernel) ?_⟩)⟩
    refine ⟨_, rfl, _, _, _, _, rfl, rfl, SqT.of hp, rfl, rfl, _, rfl, itF (by cases we <;> decide +kernel) ?_⟩
    refine ⟨_, rfl, _, _, _, _, rfl, rfl, SqT.of hp, rfl, rfl, _, rfl, itF (by cases we <;> decide +kernel) ?_⟩
    refine ⟨_, rfl, _, _, _, _, rfl, rfl, SqT.of hp, rfl, rfl, _, rfl, itF (by cases we <;> decide +kernel) ?_⟩
    refine ⟨_, rfl, _, _, _, _, rfl, rfl, SqT.of hp, rfl, _, _, rfl, .inr (T.CHOICES _), rfl, by decide +kernel, _, rfl, itT (by cases we <;> decide +kernel) ?_⟩
    refine ⟨_, rfl, _, _, rfl, .inr (SqT.of hp), rfl, _, rfl, itT (decide_eq_true rfl) ?_⟩
    refine ⟨_, rfl, _, rfl, _, _, rfl, SqT.of hp, fun z => absurd z.1 (by show ¬ (1 : Nat) = 0; decide), fun _ r hr0 => ?_⟩
    have s2 := Same.new hr0 (.tup [.ref p1, .ref p2])
    refine ⟨r, [.ref p1, .ref p2], rfl, upd_same, fun y hy => ?_, fun H2 s3 => q H2 (s2.trans s3)⟩
    rcases List.mem_cons.mp hy with rfl | hy
    · exact ⟨_, _, rfl, s2 _ _ h1⟩
    · obtain rfl := List.mem_singleton.mp hy
      exact ⟨_, _, rfl, s2 _ _ h2⟩
  | rep k b =>
    obtain ⟨p, p1, xs, rfl, hp, h1, _⟩ := RepS.rep_at hv
    simp only [okS] at ho
    refine ⟨_, rfl, _, rfl, .inr (.inr ⟨_, _, rfl, hp, _, rfl, itF (by decide +kernel) ?_⟩)⟩
    refine ⟨_, rfl, _, _, rfl, .inr (SqT.of hp), rfl, _, rfl, itF (decide_eq_false fun z => absurd (V.int.inj z) (by simp)) ?_⟩
    refine ⟨_, rfl, _, _, _, _, rfl, rfl, SqT.of hp, rfl, _, rfl, .inr (.inl ⟨_, rfl, _, rfl, itF (by decide +kernel) ?_⟩)⟩
    refine ⟨_, rfl, _, _, _, _, rfl, rfl, SqT.of hp, rfl, rfl, _, rfl, itF (by decide +kernel) ?_⟩
    refine ⟨_, rfl, _, _, _, _, rfl, rfl, SqT.of hp, rfl, rfl, _, rfl, itF (by decide +kernel) ?_⟩
    refine ⟨_, rfl, _, _, _, _, rfl, rfl, SqT.of hp, rfl, rfl, _, rfl, itF (by decide +kernel) ?_⟩
    refine ⟨_, rfl, _, _, _, _, rfl, rfl, SqT.of hp, rfl, _, _, rfl, .inr (T.CHOICES _), rfl, by decide +kernel, _, rfl, itF (by decide +kernel) ?_⟩
    refine ⟨_, rfl, _, _, _, _, rfl, rfl, SqT.of hp, rfl, rfl, _, rfl, itT (by decide +kernel) ?_⟩
    refine ⟨_, rfl, _, _, rfl, .inr (SqT.of hp), rfl, _, rfl, itT (decide_eq_true rfl) ?_⟩
    refine ⟨_, rfl, _, _, _, _, rfl, rfl, SqT.of hp, rfl, _, _, _, rfl, _, rfl, itT (decide_eq_true ⟨by omega, by omega⟩) ?_⟩
    refine ⟨_, rfl, _, rfl, _, _, rfl, SqT.of hp, fun z => absurd z.1 (by show ¬ (2 : Nat) = 0; decide), fun _ r hr0 => ?_⟩
    have s2 := Same.new hr0 (.tup [.ref p1])
    refine ⟨r, [.ref p1], rfl, upd_same, fun y hy => ?_, fun H2 s3 => q H2 (s2.trans s3)⟩
    obtain rfl := List.mem_singleton.mp hy
    exact ⟨_, _, rfl, s2 _ _ h1⟩

/-- the blocks of a statement -/
def blks : Sm → List (List Sm)
  | .set .. | .pay _ | .stop => []
  | .ite _ a b | .cho _ a b => [a, b]
  | .rep _ b => [b]
def RepBs (H : Hp) : List (List Sm) → List V → Prop
  | [], xs => xs = []
  | b :: r, xs => ∃ p ys rest, xs = .ref p :: rest ∧ H p = some (.tup ys) ∧ RepSs H b ys ∧ RepBs H r rest
def sp_blocks_of : Sp := fun vs H Q _ => ∃ v s, vs = [v] ∧ RepS H s v ∧ ∀ H' l xs, Same H H' → H l = none → H' l = some (.lst xs) → RepBs H' (blks s) xs → Q (.ref l) H'
theorem ok_blocks_of (T : Txt K mg) : FnOk P w K mg base CX0 1 T.blocks_of.f T.blocks_of.fd ["statement"] sp_blocks_of := by
  refine T.blocks_of.F.ok sc_blocks_of (fun vs H Q E h => ?_) (fun cdv A outer s H vs Q E hr h => ?_)
  · obtain ⟨v, s, rfl, _⟩ := h
    rfl
  obtain ⟨v, st, rfl, hv, q⟩ := h
  refine ⟨_, (pss_cons (ps_if (pt_cmpR op_in_seq (pe_ix ix_tup (pv 0) pe_int (fun _ _ => rfl)) (pe_glob (v := .ref T.aCHOICES) rfl T.g_CHOICES rfl) rfl)
        (pss_one (ps_ret (pe_lst (pa_cons (pe_ix ix_tup (pv 0) pe_int (fun _ _ => rfl)) (pa_cons (pe_ix ix_tup (pv 0) pe_int (fun _ _ => rfl)) pa_nil)))))
        pss_nil)
      (pss_cons (ps_if (pt_cmpR op_eq (pe_ix ix_tup (pv 0) pe_int (fun _ _ => rfl)) pe_str (nomark _))
        (pss_one (ps_ret (pe_lst (pa_cons (pe_ix ix_tup (pv 0) pe_int (fun _ _ => rfl)) (pa_cons (pe_ix ix_tup (pv 0) pe_int (fun _ _ => rfl)) pa_nil)))))
        pss_nil)
      (pss_one (ps_ret (pe_ifExp (pt_cmpR op_eq (pe_ix ix_tup (pv 0) pe_int (fun _ _ => rfl)) pe_str (nomark _)) (pe_lst (pa_cons (pe_ix ix_tup (pv 0) pe_int (fun _ _ => rfl)) pa_nil)) (pe_lst pa_nil)))))), ?_⟩
  cases st with
  | set x e =>
    obtain ⟨p, y, rfl, hp, hy⟩ := RepS.set_at hv
    refine ⟨_, rfl, _, _, _, _, rfl, rfl, SqT.of hp, rfl, _, _, rfl, .inr (T.CHOICES _), rfl, by decide +kernel, _, rfl, itF (by decide +kernel) ?_⟩
    refine ⟨_, rfl, _, _, _, _, rfl, rfl, SqT.of hp, rfl, rfl, _, rfl, itF (by decide +kernel) ?_⟩
    refine ⟨_, rfl, _, _, _, _, rfl, rfl, SqT.of hp, rfl, rfl, _, rfl, itF (by decide +kernel) ?_⟩
    exact ⟨by show 0 ≤ sizeLine; decide, fun l hl => q _ l _ (Same.new hl _) hl upd_same rfl⟩
  | pay e =>
    obtain ⟨p, y, rfl, hp, hy⟩ := RepS.pay_at hv
    refine ⟨_, rfl, _, _, _, _, rfl, rfl, SqT.of hp, rfl, _, _, rfl, .inr (T.CHOICES _), rfl, by decide +kernel, _, rfl, itF (by decide +kernel) ?_⟩
    refine ⟨_, rfl, _, _, _, _, rfl, rfl, SqT.of hp, rfl, rfl, _, rfl, itF (by decide +kernel) ?_⟩
    refine ⟨_, rfl, _, _, _, _, rfl, rfl, SqT.of hp, rfl, rfl, _, rfl, itF (by decide +kernel) ?_⟩
    exact ⟨by show 0 ≤ sizeLine; decide, fun l hl => q _ l _ (Same.new hl _) hl upd_same rfl⟩
  | stop =>
    obtain ⟨p, rfl, hp⟩ := RepS.stop_at hv
    refine ⟨_, rfl, _, _, _, _, rfl, rfl, SqT.of hp, rfl, _, _, rfl, .inr (T.CHOICES _), rfl, by decide +kernel, _, rfl, itF (by decide +kernel) ?_⟩
    refine ⟨_, rfl, _, _, _, _, rfl, rfl, SqT.of hp, rfl, rfl, _, rfl, itF (by decide +kernel) ?_⟩
    refine ⟨_, rfl, _, _, _, _, rfl, rfl, SqT.of hp, rfl, rfl, _, rfl, itF (by decide +kernel) ?_⟩
    exact ⟨by show 0 ≤ sizeLine; decide, fun l hl => q _ l _ (Same.new hl _) hl upd_same rfl⟩
  | ite t a b =>
    obtain ⟨p, x, p1, p2, xs, ys, rfl, hp, hx, h1, r1, h2, r2⟩ := RepS.ite_at hv
    refine ⟨_, rfl, _, _, _, _, rfl, rfl, SqT.of hp, rfl, _, _, rfl, .inr (T.CHOICES _), rfl, by decide +kernel, _, rfl, itF (by decide +kernel) ?_⟩
    refine ⟨_, rfl, _, _, _, _, rfl, rfl, SqT.of hp, rfl, rfl, _, rfl, itT (by decide +kernel) ?_⟩
    refine ⟨_, rfl, _, _, _, _, rfl, rfl, SqT.of hp, rfl, _, rfl, _, _, _, _, rfl, rfl, SqT.of hp, rfl, by show 2 ≤ sizeLine; decide, fun l hl => ?_⟩
    have s1 := Same.new hl (.lst [.ref p1, .ref p2])
    exact q _ l _ s1 hl upd_same ⟨p1, xs, _, rfl, s1 _ _ h1, r1.sm s1, p2, ys, _, rfl, s1 _ _ h2, r2.sm s1, rfl⟩
  | cho we a b =>
    obtain ⟨p, p1, p2, xs, ys, rfl, hp, h1, r1, h2, r2⟩ := RepS.cho_at hv
    refine ⟨_, rfl, _, _, _, _, rfl, rfl, SqT.of hp, rfl, _, _, rfl, .inr (T.CHOICES _), rfl, by decide +kernel, _, rfl, itT (by cases we <;> decide +kernel) ?_⟩
    refine ⟨_, rfl, _, _, _, _, rfl, rfl, SqT.of hp, rfl, _, rfl, _, _, _, _, rfl, rfl, SqT.of hp, rfl, by show 2 ≤ sizeLine; decide, fun l hl => ?_⟩
    have s1 := Same.new hl (.lst [.ref p1, .ref p2])
    exact q _ l _ s1 hl upd_same ⟨p1, xs, _, rfl, s1 _ _ h1, r1.sm s1, p2, ys, _, rfl, s1 _ _ h2, r2.sm s1, rfl⟩
  | rep k b =>
    obtain ⟨p, p1, xs, rfl, hp, h1, r1⟩ := RepS.rep_at hv
    refine ⟨_, rfl, _, _, _, _, rfl, rfl, SqT.of hp, rfl, _, _, rfl, .inr (T.CHOICES _), rfl, by decide +kernel, _, rfl, itF (by decide +kernel) ?_⟩
    refine ⟨_, rfl, _, _, _, _, rfl, rfl, SqT.of hp, rfl, rfl, _, rfl, itF (by decide +kernel) ?_⟩
    refine ⟨_, rfl, _, _, _, _, rfl, rfl, SqT.of hp, rfl, rfl, _, rfl, itT (by decide +kernel) ?_⟩
    refine ⟨_, rfl, _, _, _, _, rfl, rfl, SqT.of hp, rfl, by show 1 ≤ sizeLine; decide, fun l hl => ?_⟩
    have s1 := Same.new hl (.lst [.ref p1])
    exact q _ l _ s1 hl upd_same ⟨p1, xs, _, rfl, s1 _ _ h1, r1.sm s1, rfl⟩
end
end K29

set_option Elab.async false
set_option linter.all false
set_option maxRecDepth 100000
set_option maxHeartbeats 4000000
/-! ## program_error: the order of places -/
namespace K29
open PySem L2

/-! ### trees that == and repr may read -/
theorem lay_cons {d : PyData} {ds : List PyData} {m : Nat} (h : PyData.canLay0 d = true ∧ PyData.depth d ≤ m) (g : PyData.canLayAll0 ds = true ∧ PyData.depthAll ds ≤ m) :
    PyData.canLayAll0 (d :: ds) = true ∧ PyData.depthAll (d :: ds) ≤ m := by
  simp only [PyData.canLayAll0, PyData.depthAll, h.1, g.1, Bool.and_self, true_and]
  omega
theorem lay_nil {m : Nat} : PyData.canLayAll0 [] = true ∧ PyData.depthAll [] ≤ m := by simp [PyData.canLayAll0, PyData.depthAll]
theorem lay_tup {ds : List PyData} {m : Nat} (g : PyData.canLayAll0 ds = true ∧ PyData.depthAll ds ≤ m) : PyData.canLay0 (.tuple ds) = true ∧ PyData.depth (.tuple ds) ≤ m + 1 := by
  simp only [PyData.canLay0, PyData.depth, g.1, true_and]
  omega
theorem lay_lst {ds : List PyData} {m : Nat} (g : PyData.canLayAll0 ds = true ∧ PyData.depthAll ds ≤ m) : PyData.canLay0 (.list ds) = true ∧ PyData.depth (.list ds) ≤ m + 1 := by
  simp only [PyData.canLay0, PyData.depth, g.1, true_and]
  omega
theorem lay_int {i : Int} {m : Nat} : PyData.canLay0 (.int i) = true ∧ PyData.depth (.int i) ≤ m := by simp [PyData.canLay0, PyData.depth]
theorem lay_str {x : Str} {m : Nat} (h : PyData.strOk x = true) : PyData.canLay0 (.str x) = true ∧ PyData.depth (.str x) ≤ m := by simp [PyData.canLay0, PyData.depth, h]
theorem lay_mono {d : PyData} {m n : Nat} (h : PyData.canLay0 d = true ∧ PyData.depth d ≤ m) (g : m ≤ n) : PyData.canLay0 d = true ∧ PyData.depth d ≤ n := ⟨h.1, Nat.le_trans h.2 g⟩
theorem lay_all {ds : List PyData} {m : Nat} (h : ∀ d ∈ ds, PyData.canLay0 d = true ∧ PyData.depth d ≤ m) : PyData.canLayAll0 ds = true ∧ PyData.depthAll ds ≤ m := by
  induction ds with
  | nil => exact lay_nil
  | cons d ds ih => exact lay_cons (h d List.mem_cons_self) (ih fun x hx => h x (List.mem_cons_of_mem _ hx))
theorem shaped_of {d : PyData} {m : Nat} (h : PyData.canLay0 d = true ∧ PyData.depth d ≤ m) (g : m ≤ 64) : SeqAt.shaped d = true := by
  unfold SeqAt.shaped
  rw [h.1, decide_eq_true (Nat.le_trans h.2 g)] <;> rfl
section
variable {N : Str → Prop} (hN : ∀ x, N x → PyData.strOk x = true)
include hN
theorem lay_E : ∀ (n : Nat) (e : Ex), okE N n e → PyData.canLay0 (encE e) = true ∧ PyData.depth (encE e) ≤ n
  | 0, e, h => by simp [okE] at h
  | n + 1, .num i, h => lay_int
  | n + 1, .nam x, h => lay_str (hN x (by simpa [okE] using h))
  | n + 1, .bin p a b, h => by
    simp only [okE] at h
    exact lay_tup (lay_cons (lay_str (by cases p <;> decide +kernel)) (lay_cons (lay_E n a h.1) (lay_cons (lay_E n b h.2) lay_nil)))
  | n + 1, .tim k e, h => by
    simp only [okE] at h
    exact lay_tup (lay_cons (lay_str (by decide +kernel)) (lay_cons lay_int (lay_cons (lay_E n e h.2.2) lay_nil)))
theorem lay_T : ∀ (n : Nat) (t : Te), okT N n t → PyData.canLay0 (encT t) = true ∧ PyData.depth (encT t) ≤ n + 4
  | n, .less a b, h => by
    have h' : okE N 3 a ∧ okE N 3 b := by cases n <;> simpa only [okT] using h
    exact lay_mono (lay_tup (lay_cons (lay_str (by decide +kernel)) (lay_cons (lay_E hN 3 a h'.1) (lay_cons (lay_E hN 3 b h'.2) lay_nil)))) (by omega)
  | n, .rest e m r, h => by
    have h' : okE N 3 e := by cases n <;> (simp only [okT] at h; exact h.1)
    exact lay_mono (lay_tup (lay_cons (lay_str (by decide +kernel)) (lay_cons (lay_E hN 3 e h') (lay_cons lay_int (lay_cons lay_int lay_nil))))) (by omega)
  | 0, .neg t, h => by simp [okT] at h
  | n + 1, .neg t, h => by
    simp only [okT] at h
    exact lay_mono (lay_tup (lay_cons (lay_str (by decide +kernel)) (lay_cons (lay_T n t h) lay_nil))) (by omega)
mutual
theorem lay_S : ∀ (n : Nat) (s : Sm), okS N n s → PyData.canLay0 (encS s) = true ∧ PyData.depth (encS s) ≤ 2 * n + 8
  | 0, s, h => by simp [okS] at h
  | n + 1, .set x e, h => by
    simp only [okS] at h
    simp only [encS]
    exact lay_mono (lay_tup (lay_cons (lay_str (by decide +kernel)) (lay_cons (lay_str (hN x h.1)) (lay_cons (lay_E hN 3 e h.2) lay_nil)))) (by omega)
  | n + 1, .pay e, h => by
    simp only [okS] at h
    simp only [encS]
    exact lay_mono (lay_tup (lay_cons (lay_str (by decide +kernel)) (lay_cons (lay_E hN 3 e h) lay_nil))) (by omega)
  | n + 1, .stop, h => by
    simp only [encS]
    exact lay_mono (lay_tup (m := 0) (lay_cons (lay_str (by decide +kernel)) lay_nil)) (by omega)
  | n + 1, .ite t a b, h => by
    simp only [okS] at h
    simp only [encS]
    exact lay_mono (lay_tup (m := 2 * n + 9) (lay_cons (lay_str (by decide +kernel)) (lay_cons (lay_mono (lay_T hN 2 t h.1) (by omega)) (lay_cons (lay_tup (lay_L n a h.2.1)) (lay_cons (lay_tup (lay_L n b h.2.2)) lay_nil))))) (by omega)
  | n + 1, .cho w a b, h => by
    simp only [okS] at h
    simp only [encS]
    exact lay_mono (lay_tup (m := 2 * n + 9) (lay_cons (lay_str (by cases w <;> decide +kernel)) (lay_cons (lay_tup (lay_L n a h.1)) (lay_cons (lay_tup (lay_L n b h.2)) lay_nil)))) (by omega)
  | n + 1, .rep k b, h => by
    simp only [okS] at h
    simp only [encS]
    exact lay_mono (lay_tup (m := 2 * n + 9) (lay_cons (lay_str (by decide +kernel)) (lay_cons lay_int (lay_cons (lay_tup (lay_L n b h.2.2)) lay_nil)))) (by omega)
theorem lay_L : ∀ (n : Nat) (ss : List Sm), okL N n ss → PyData.canLayAll0 (encL ss) = true ∧ PyData.depthAll (encL ss) ≤ 2 * n + 8
  | n, [], h => by simp only [encL]; exact lay_nil
  | n, s :: r, h => by
    simp only [okL] at h
    simp only [encL]
    exact lay_cons (lay_S n s h.1) (lay_L n r h.2)
end
end
theorem nameOk_str (x : Str) (h : NameOk x) : PyData.strOk x = true := by
  unfold PyData.strOk
  have key : ∀ c ∈ signsS.cps.toList, decide (c < 0x110000) = true := by decide +kernel
  rw [Array.all_eq_true_iff_forall_mem]
  intro c hc
  exact key c (h.2.2.1 c (Array.mem_toList_iff.mpr hc))

/-! ### the stack of statements that are still to be looked at -/
def encP (p : Nat × Sm) : PyData := .tuple [.int (p.1 : Int), encS p.2]
abbrev RepPs (H : Hp) (ps : List (Nat × Sm)) (xs : List V) : Prop := RepL H (ps.map encP) xs
def under (d : Nat) (b : List Sm) : List (Nat × Sm) := b.map fun s => (d + 1, s)
def kids (d : Nat) (s : Sm) : List (Nat × Sm) := (under d (blks s).flatten).reverse
def total (ps : List (Nat × Sm)) : Nat := (ps.map fun p => sizS p.2).sum
theorem total_append (a b : List (Nat × Sm)) : total (a ++ b) = total a + total b := by simp [total]
theorem total_rev (a : List (Nat × Sm)) : total a.reverse = total a := by simp [total, List.sum_reverse]
theorem total_under (d : Nat) : ∀ b : List Sm, total (under d b) = sizL b
  | [] => by simp [total, under, sizL]
  | s :: r => by
    have := total_under d r
    simp only [total, under, List.map_cons, List.sum_cons, sizL] at *
    omega
theorem total_at (d : Nat) (b : List Sm) : total (b.map fun s => (d, s)) = sizL b := by
  induction b with
  | nil => simp [total, sizL]
  | cons s r ih => simp only [total, List.map_cons, List.sum_cons, sizL] at *; omega
theorem total_kids (d : Nat) (s : Sm) : total (kids d s) + 1 = sizS s := by
  unfold kids
  rw [total_rev, total_under]
  cases s <;> simp [blks, sizS, sizL, sizL_append] <;> omega
theorem total_len : ∀ ps : List (Nat × Sm), ps.length ≤ total ps
  | [] => by simp
  | p :: r => by
    have h1 := total_len r
    have h2 := sizS_pos p.2
    simp only [total, List.map_cons, List.sum_cons, List.length_cons] at *
    omega
theorem ok_kids {N : Str → Prop} {n d : Nat} {s : Sm} (h : okS N (n + 1) s) : ∀ p ∈ kids d s, p.1 = d + 1 ∧ okS N n p.2 := by
  intro p hp
  unfold kids under at hp
  rw [List.mem_reverse, List.mem_map] at hp
  obtain ⟨t, ht, rfl⟩ := hp
  refine ⟨rfl, ?_⟩
  cases s <;> simp [blks] at ht
  · simp only [okS, okL_iff] at h
    rcases ht with z | z
    · exact h.2.1 t z
    · exact h.2.2 t z
  · simp only [okS, okL_iff] at h
    rcases ht with z | z
    · exact h.1 t z
    · exact h.2 t z
  · simp only [okS, okL_iff] at h
    exact h.2.2 t ht
theorem RepL.rev {H : Hp} {ds : List PyData} {xs : List V} (h : RepL H ds xs) : RepL H ds.reverse xs.reverse := by
  induction ds generalizing xs with
  | nil => rw [show xs = [] from h]; rfl
  | cons d ds ih =>
    obtain ⟨v, r, rfl, h1, h2⟩ := h
    rw [List.reverse_cons, List.reverse_cons]
    exact RepL.append (ih h2) (RepL.one h1)
theorem RepL.snoc {H : Hp} {ds : List PyData} {d : PyData} {xs : List V} (h : RepL H (ds ++ [d]) xs) : ∃ ys y, xs = ys ++ [y] ∧ RepL H ds ys ∧ Rep H d y := by
  induction ds generalizing xs with
  | nil =>
    obtain ⟨v, r, rfl, h1, h2⟩ := h
    exact ⟨[], v, by rw [show r = [] from h2]; rfl, rfl, h1⟩
  | cons e ds ih =>
    obtain ⟨v, r, rfl, h1, h2⟩ := h
    obtain ⟨ys, y, rfl, q1, q2⟩ := ih h2
    exact ⟨v :: ys, y, rfl, ⟨v, ys, rfl, h1, q1⟩, q2⟩
theorem RepPs.app {H : Hp} {a b : List (Nat × Sm)} {xs ys : List V} (h : RepPs H a xs) (g : RepPs H b ys) : RepPs H (a ++ b) (xs ++ ys) := by
  unfold RepPs
  rw [List.map_append]
  exact RepL.append h g
theorem RepPs.rev {H : Hp} {a : List (Nat × Sm)} {xs : List V} (h : RepPs H a xs) : RepPs H a.reverse xs.reverse := by
  unfold RepPs
  rw [List.map_reverse]
  exact RepL.rev h
theorem RepBs.get {H : Hp} : ∀ {bs : List (List Sm)} {xs : List V} {i : Nat} {x : V}, RepBs H bs xs → xs[i]? = some x → ∃ b p ys, bs[i]? = some b ∧ x = .ref p ∧ H p = some (.tup ys) ∧ RepSs H b ys
  | [], _, i, x, h, e => by rw [show _ = [] from h] at e; simp at e
  | b :: bs, _, 0, x, ⟨p, ys, r, e1, h1, h2, _⟩, e => by
    rw [e1] at e
    have e' : V.ref p = x := by simpa using e
    exact ⟨b, p, ys, rfl, e'.symm, h1, h2⟩
  | b :: bs, _, i + 1, x, ⟨p, ys, r, e1, _, _, h3⟩, e => by
    rw [e1] at e
    obtain ⟨b', p', ys', q1, q2⟩ := RepBs.get (i := i) (x := x) h3 (by simpa using e)
    exact ⟨b', p', ys', by simpa using q1, q2⟩
theorem RepBs.len {H : Hp} : ∀ {bs : List (List Sm)} {xs : List V}, RepBs H bs xs → xs.length = bs.length
  | [], _, h => by rw [show _ = [] from h]; rfl
  | b :: bs, _, ⟨p, ys, r, e1, _, _, h3⟩ => by rw [e1, List.length_cons, List.length_cons, RepBs.len h3]
theorem RepBs.sm {H H' : Hp} (k : Same H H') : ∀ {bs : List (List Sm)} {xs : List V}, RepBs H bs xs → RepBs H' bs xs
  | [], _, h => h
  | b :: bs, _, ⟨p, ys, r, e1, h1, h2, h3⟩ => ⟨p, ys, r, e1, k _ _ h1, h2.sm k, RepBs.sm k h3⟩
theorem small {n : Nat} (h : n ≤ 1000) : n ≤ sizeLine := Nat.le_of_lt (small1000 h)
theorem len_blks (s : Sm) : (blks s).flatten.length + 1 ≤ sizS s := by
  have h := total_len (under 0 (blks s).flatten)
  have g := total_kids 0 s
  unfold kids at g
  rw [total_rev] at g
  simp only [under, List.length_map] at *
  omega
theorem len_take_flat {α : Type} (bs : List (List α)) (i : Nat) : (bs.take i).flatten.length ≤ bs.flatten.length := by
  have := congrArg (fun l : List (List α) => l.flatten.length) (List.take_append_drop i bs)
  simp only [List.flatten_append, List.length_append] at this
  omega
theorem take_succ {α : Type} {l : List α} {i : Nat} {x : α} (h : l[i]? = some x) : l.take (i + 1) = l.take i ++ [x] := by
  rw [List.take_add_one, h] <;> rfl

section
variable {P : Program} {w : World} {K : PySem.W.Frag} {mg : Str → Option Value} {base : Heap}
def sp_items_within : Sp := fun vs H Q _ => ∃ (v : V) (s : Sm) (d : Nat), vs = [v, .int (d : Int)] ∧ RepS H s v ∧ sizS s ≤ 1000 ∧
  ∀ H' l xs, Same H H' → H l = none → H' l = some (.lst xs) → RepPs H' (kids d s) xs → Q (.ref l) H'
theorem ok_items_within (T : Txt K mg) : FnOk P w K mg base CX0 2 T.items_within.f T.items_within.fd ["statement", "depth"] sp_items_within := by
  have G_blocks_of := ok_blocks_of (P := P) (w := w) (base := base) T
  refine T.items_within.F.ok sc_items_within (fun vs H Q E h => ?_) (fun cdv A outer s H vs Q E hr h => ?_)
  · obtain ⟨v, s, d, rfl, _⟩ := h
    rfl
  obtain ⟨v, st, d, rfl, hv, hz, q⟩ := h
  have hlen := len_blks st
  refine ⟨_, (pss_cons (ps_set (i := 2) sc_items_within.nd rfl (Or.inl rfl) (pe_lst pa_nil))
      (pss_cons (ps_for PassesOwn.never rfl (pi_list (pe_call G_blocks_of (hr.mono (by omega)) rfl T.blocks_of.g T.blocks_of.F.kp T.blocks_of.B .nil pass0 (pa_cons (pv 0) pa_nil))) (pg_name (i := 3) sc_items_within.nd rfl (Or.inl rfl))
        (pss_one (ps_expr (pe_bm PySem.F.plainAttrs_list PySem.F.slot_list_extend PySem.F.type_list_extend mt_extend (pv 2) (pa_cons (pe_lc (own := [("item", 4)]) (g := gName 4) (tt := tYes) rfl sc_items_within.nd (pi_tup (pv 3)) (blkOk_by (N := N_items_within) (sc := defScope s_items_within) (by decide +kernel)) (fun _ _ _ _ _ => pg_name (i := 4) sc_items_within.nd rfl (Or.inl rfl)) (fun _ _ _ _ _ => pts_nil) (fun _ _ _ _ _ => (pe_tup (pa_cons (pe_op op_add (pv 1) pe_int) (pa_cons (pv 4) pa_nil))))) pa_nil)))))
      (pss_one (ps_ret (pe_revL (pv 2)))))), ?_⟩
  -- found = []
  refine ⟨by show 0 ≤ sizeLine; decide, fun fl hfl => ?_⟩
  have s1 := Same.new hfl (.lst [])
  -- for block in blocks_of(statement)
  refine ⟨_, rfl, v, st, rfl, hv.sm s1, fun H2 bl bs s2 hbl ebl hbs => ?_⟩
  have nfb : fl ≠ bl := ne_of_none upd_same hbl
  refine ⟨bl, rfl, ⟨bs, SqL.of ebl⟩, ?_⟩
  refine for_it (walk_list (K := K) (xs := bs)) (fun i σ H3 => ∃ ob oi zs, σ = [some v, some (.int (d : Int)), some (.ref fl), ob, oi] ∧ Same H H3 ∧ H3 bl = some (.lst bs) ∧ RepBs H3 (blks st) bs ∧
    H3 fl = some (.lst zs) ∧ RepPs H3 (under d ((blks st).take i).flatten) zs) ?_ (fun i σ H3 _ ⟨_, _, _, _, _, e, _⟩ => SqL.of e) ?_ ?_
  · exact ⟨none, none, [], rfl, s1.trans s2, ebl, hbs, s2 _ _ upd_same, rfl⟩
  · rintro i y σ H3 H4 hi ⟨ob, oi, zs, rfl, s3, eb3, hb3, ef3, hz3⟩ ⟨rfl, hy⟩
    obtain ⟨b, p, ys, hb, rfl, hp, hys⟩ := hb3.get hy
    -- found.extend([(depth + 1, item) for item in block])
    refine ⟨_, rfl, .inl ⟨rfl, _, .inl (.inl ef3)⟩, _, rfl, p, rfl, ⟨ys, SqT.of hp⟩, fun D hD => ?_⟩
    have nD : ∀ {c : Addr} {o : HO}, H4 c = some o → c ≠ D := fun e => ne_of_none e hD
    refine lc_it (walk_tup (K := K) (xs := ys)) (fun j H5 => ∃ acc, H5 D = some (.lst acc) ∧ Same H4 H5 ∧ RepPs H5 (under d (b.take j)) acc) ?_ (fun j H5 _ ⟨_, _, s5, _⟩ => SqT.of (s5 _ _ hp)) ?_ ?_
    · exact ⟨[], upd_same, Same.new hD _, rfl⟩
    · rintro j x H5 H6 hj ⟨acc, eD, s5, ha⟩ ⟨rfl, hx⟩
      obtain ⟨s', hs', rx⟩ := RepSs.get hys hx
      refine ⟨rfl, _, rfl, _, _, rfl, rfl, _, rfl, by show 2 ≤ sizeLine; decide, fun t ht => ?_⟩
      have s6 := Same.new ht (.tup [.int ((d : Int) + 1), x])
      have hacc := RepL.len ha
      have hjl : j < b.length := (List.getElem?_eq_some_iff.mp hs').1
      have hbl2 : b.length ≤ (blks st).flatten.length := by
        have hm := List.mem_of_getElem? hb
        obtain ⟨l1, l2, e⟩ := List.append_of_mem hm
        rw [e]
        simp
        omega
      refine ⟨acc, s6 _ _ eD, ?_, acc ++ [.ref t], upd_same, ?_, ?_⟩
      · rw [hacc, List.length_map, under, List.length_map, List.length_take]
        exact small1000 (by omega)
      · exact Same.put (s5.trans s6) hD _
      · have hT : TupsK (upd H6 t (.tup [.int ((d : Int) + 1), x])) (upd (upd H6 t (.tup [.int ((d : Int) + 1), x])) D (.lst (acc ++ [.ref t]))) := fun c zs e => by
          rw [upd_ne (fun z : c = D => by rw [z, s6 _ _ eD] at e; cases e)]
          exact e
        have e1 : under d (b.take (j + 1)) = under d (b.take j) ++ [(d + 1, s')] := by
          unfold under
          rw [take_succ hs', List.map_append] <;> rfl
        rw [e1]
        refine RepL.mono hT _ _ (RepPs.app (RepL.sm ha s6) (RepL.one ?_))
        refine rep_tuple.mpr ⟨t, _, rfl, upd_same, repl2.mpr ⟨_, _, rfl, ?_, (rx.sm s5).sm s6⟩⟩
        rw [rep_int] <;> rfl
    · rintro H5 ⟨acc, eD, s5, ha⟩
      rw [show ys.length = b.length from RepSs.len hys, List.take_length] at ha
      have l1 := RepL.len ha
      have l2 := RepL.len hz3
      have e1 : ((blks st).take (i + 1)).flatten = ((blks st).take i).flatten ++ b := by rw [take_succ hb, List.flatten_append]; simp
      have l3 := len_take_flat (blks st) (i + 1)
      rw [e1, List.length_append] at l3
      have l4 := len_take_flat (blks st) i
      rw [List.length_map, under, List.length_map] at l1 l2
      have nfl : fl ≠ D := nD ef3
      refine ⟨fl, D, zs, acc, rfl, rfl, s5 _ _ ef3, eD, small (by omega), ?_⟩
      have hT : TupsK H5 (upd H5 fl (.lst (zs ++ acc))) := fun c us e => by
        rw [upd_ne (fun z : c = fl => by rw [z, s5 _ _ ef3] at e; cases e)]
        exact e
      have nbf : bl ≠ fl := Ne.symm nfb
      refine ⟨_, _, zs ++ acc, rfl, Same.put (s3.trans s5) hfl _, by rw [upd_ne nbf]; exact s5 _ _ eb3, ?_, upd_same, ?_⟩
      · have go : ∀ {bs' : List (List Sm)} {xs' : List V}, RepBs H5 bs' xs' → RepBs (upd H5 fl (.lst (zs ++ acc))) bs' xs' := by
          intro bs'
          induction bs' with
          | nil => intro xs' h; exact h
          | cons b0 r ih =>
            rintro xs' ⟨p0, y0, r0, e0, h0, g0, k0⟩
            exact ⟨p0, y0, r0, e0, hT _ _ h0, RepL.mono hT _ _ g0, ih k0⟩
        exact go (RepBs.sm s5 hb3)
      · rw [e1]
        unfold under
        rw [List.map_append]
        exact RepL.mono hT _ _ (RepPs.app (RepL.sm hz3 s5) ha)
  · rintro σ H3 ⟨ob, oi, zs, rfl, s3, eb3, hb3, ef3, hz3⟩
    -- return found[::-1]
    refine ⟨_, rfl, fl, zs, rfl, SqL.of ef3, fun r hr0 => ?_⟩
    have s4 := Same.new hr0 (.lst zs.reverse)
    rw [hb3.len, List.take_length] at hz3
    refine q _ r zs.reverse (s3.trans s4) ?_ upd_same ?_
    · exact s3.free hr0
    · unfold kids
      exact RepL.sm (RepPs.rev hz3) s4
end
end K29

set_option Elab.async false
set_option linter.all false
set_option maxRecDepth 100000
set_option maxHeartbeats 4000000
/-! ## program_error: order_error, rows_of -/
namespace K29
open PySem L2
/-- a list that is stored anew is no tuple -/
theorem tups_put {H : Hp} {l : Addr} {xs : List V} (h : H l = some (.lst xs)) (o : HO) : TupsK H (upd H l o) := fun c us e => by
  rw [upd_ne (fun z : c = l => by rw [z, h] at e; cases e)]
  exact e
theorem tups_new {H : Hp} {l : Addr} (h : H l = none) (o : HO) : TupsK H (upd H l o) := Same.tups (Same.new h o)
theorem RepPs.snoc {H : Hp} {ps : List (Nat × Sm)} {p : Nat × Sm} {xs : List V} (h : RepPs H (ps ++ [p]) xs) : ∃ ys y, xs = ys ++ [y] ∧ RepPs H ps ys ∧ Rep H (encP p) y := by
  unfold RepPs at h
  rw [List.map_append] at h
  exact RepL.snoc h
theorem RepPs.dpl {K : PySem.W.Frag} {H : Hp} {ps : List (Nat × Sm)} {xs : List V} {l : Addr} (hl : H l = some (.lst xs)) (h : RepPs H ps xs) : Dp K H (.ref l) (.list (ps.map encP)) :=
  .lst (SqL.of hl) (RepL.dp _ _ h)
theorem shaped_ps {ps : List (Nat × Sm)} (h : ∀ p ∈ ps, okS NameOk (4 - p.1) p.2) : SeqAt.shaped (.list (ps.map encP)) = true := by
  refine shaped_of (m := 18) (lay_lst (lay_all fun d hd => ?_)) (by omega)
  obtain ⟨p, hp, rfl⟩ := List.mem_map.mp hd
  exact lay_tup (lay_cons lay_int (lay_cons (lay_mono (lay_S nameOk_str _ _ (h p hp)) (by omega)) lay_nil))
theorem eqv_nil {ds : List PyData} : PyData.eqv (.list ds) (.list []) = ds.isEmpty := by
  cases ds <;> simp [PyData.eqv, PyData.eqvAll]
theorem eqv_nilT {ds : List PyData} : PyData.eqv (.tuple ds) (.tuple []) = ds.isEmpty := by
  cases ds <;> simp [PyData.eqv, PyData.eqvAll]
theorem len_sizL (ss : List Sm) : ss.length ≤ sizL ss := by
  have h := total_len (under 0 ss)
  rw [total_under] at h
  simpa [under] using h

section
variable {P : Program} {w : World} {K : PySem.W.Frag} {mg : Str → Option Value} {base : Heap}

def OrdInv (H0 : Hp) (v : V) (r : Addr) (m : Nat) (σ : L2.St) (H : Hp) : Prop :=
  ∃ (od oi : Option V) (k : Int) (ps : List (Nat × Sm)) (xs : List V), σ = [some v, some (.ref r), some (.int k), od, oi] ∧ m = total ps ∧ m ≤ 1000 ∧ Same H0 H ∧
    H r = some (.lst xs) ∧ RepPs H ps xs ∧ ∀ p ∈ ps, okS NameOk (4 - p.1) p.2
def sp_order_error : Sp := fun vs H Q _ => ∃ v ss, vs = [v] ∧ RepB H ss v ∧ okL NameOk 4 ss ∧ sizL ss ≤ 1000 ∧ ∀ H', Same H H' → Q .non H'
theorem ok_order_error (T : Txt K mg) : FnOk P w K mg base CX0 10 T.order_error.f T.order_error.fd ["value"] sp_order_error := by
  have G_is_statement := ok_is_statement (P := P) (w := w) (base := base) T
  have G_items_within := ok_items_within (P := P) (w := w) (base := base) T
  refine T.order_error.F.ok sc_order_error (fun vs H Q E h => ?_) (fun cdv A outer s H vs Q E hr h => ?_)
  · obtain ⟨v, ss, rfl, _⟩ := h
    rfl
  obtain ⟨v, ss, rfl, hv, ho, hz, q⟩ := h
  refine ⟨_, (pss_cons (ps_par (i := 1) (j := 2) rfl sc_order_error.nd rfl rfl (by decide) rfl rfl (pa_cons (pe_revL (pe_lc (own := [("item", 4)]) (g := gName 4) (tt := tYes) rfl sc_order_error.nd (pi_tup (pv 0)) (blkOk_by (N := N_order_error) (sc := defScope s_order_error) (by decide +kernel)) (fun _ _ _ _ _ => pg_name (i := 4) sc_order_error.nd rfl (Or.inl rfl)) (fun _ _ _ _ _ => pts_nil) (fun _ _ _ _ _ => (pe_tup (pa_cons pe_int (pa_cons (pv 4) pa_nil)))))) (pa_cons pe_int pa_nil)) rfl)
      (pss_cons (ps_while PassesOwn.never (pt_cmpR (op_neD hr.units) (pv 1) (pe_lst pa_nil) (nomark _))
        (pss_cons (ps_asg (pe_bm0 PySem.F.plainAttrs_list PySem.F.slot_list_pop PySem.F.type_list_pop mt_pop (pv 1)) (pg_tup rfl (pgs_cons (pg_name (i := 3) sc_order_error.nd rfl (Or.inl rfl)) (pgs_cons (pg_name (i := 4) sc_order_error.nd rfl (Or.inl rfl)) pgs_nil))))
        (pss_cons (ps_if (pt_cmpR op_gt (pv 3) (pe_glob rfl T.g_MAX_NEST.e T.g_MAX_NEST.r) (nomark _))
          (pss_one (ps_ret (pe_tup (pa_cons (pv 2) (pa_cons pe_str pa_nil)))))
          pss_nil)
        (pss_cons (ps_if (pt_not (pt_val (pe_call G_is_statement (hr.mono (by omega)) rfl T.is_statement.g T.is_statement.F.kp T.is_statement.B .nil pass0 (pa_cons (pv 4) pa_nil))))
          (pss_one (ps_ret (pe_tup (pa_cons (pv 2) (pa_cons pe_str pa_nil)))))
          pss_nil)
        (pss_cons (ps_expr (pe_bm PySem.F.plainAttrs_list PySem.F.slot_list_extend PySem.F.type_list_extend mt_extend (pv 1) (pa_cons (pe_call G_items_within (hr.mono (by omega)) rfl T.items_within.g T.items_within.F.kp T.items_within.B .nil pass0 (pa_cons (pv 4) (pa_cons (pv 3) pa_nil))) pa_nil)))
        (pss_one (ps_aug (i := 2) sc_order_error.nd rfl (Or.inl rfl) pe_int ip_add)))))))
      (pss_one (ps_ret pe_non)))), ?_⟩
  obtain ⟨p, ys, rfl, hp, hys⟩ := hv.at_
  have hlen := len_sizL ss
  -- left, place = [(0, item) for item in value][::-1], 0
  refine ⟨_, rfl, p, rfl, ⟨ys, SqT.of hp⟩, fun D hD => ?_⟩
  refine lc_it (walk_tup (K := K) (xs := ys)) (fun j H5 => ∃ acc, H5 D = some (.lst acc) ∧ Same H H5 ∧ RepPs H5 ((ss.take j).map fun s => (0, s)) acc) ?_ (fun j H5 _ ⟨_, _, s5, _⟩ => SqT.of (s5 _ _ hp)) ?_ ?_
  · exact ⟨[], upd_same, Same.new hD _, rfl⟩
  · rintro j x H5 H6 hj ⟨acc, eD, s5, ha⟩ ⟨rfl, hx⟩
    obtain ⟨s', hs', rx⟩ := RepSs.get hys hx
    refine ⟨rfl, _, rfl, by show 2 ≤ sizeLine; decide, fun t ht => ?_⟩
    have s6 := Same.new ht (.tup [.int 0, x])
    have hacc := RepL.len ha
    have hjl : j < ss.length := (List.getElem?_eq_some_iff.mp hs').1
    refine ⟨acc, s6 _ _ eD, ?_, acc ++ [.ref t], upd_same, ?_, ?_⟩
    · rw [hacc, List.length_map, List.length_map, List.length_take]
      exact small1000 (by omega)
    · exact Same.put (s5.trans s6) hD _
    · rw [take_succ hs', List.map_append]
      refine RepL.mono (tups_put (s6 _ _ eD) _) _ _ (RepPs.app (RepL.sm ha s6) (RepL.one ?_))
      refine rep_tuple.mpr ⟨t, _, rfl, upd_same, repl2.mpr ⟨_, _, rfl, ?_, (rx.sm s5).sm s6⟩⟩
      rw [rep_int] <;> rfl
  rintro H5 ⟨acc, eD, s5, ha⟩
  rw [show ys.length = ss.length from RepSs.len hys, List.take_length] at ha
  refine ⟨D, acc, rfl, SqL.of eD, fun r hr0 => ?_⟩
  have s6 := s5.trans (Same.new hr0 (.lst acc.reverse))
  have hr1 : H r = none := s5.free hr0
  refine ⟨_, _, rfl, ?_⟩
  -- while left != []
  refine ⟨OrdInv H (.ref p) r, ⟨_, none, none, 0, _, acc.reverse, rfl, rfl, ?_, s6, upd_same, RepL.mono (tups_new hr0 _) _ _ (RepPs.rev ha), ?_⟩, ?_⟩
  · rw [total_rev, total_at]
    exact hz
  · intro x hx
    rw [List.mem_reverse, List.mem_map] at hx
    obtain ⟨t, ht, rfl⟩ := hx
    exact (okL_iff.mp ho) t ht
  rintro m σ H7 ⟨od, oi, k, ps, xs, rfl, rfl, hm, s7, e7, r7, o7⟩
  refine ⟨_, rfl, by show 0 ≤ sizeLine; decide, fun e he => ?_⟩
  have s8 := Same.new he (.lst [])
  refine ⟨_, _, RepPs.dpl (s8 _ _ e7) (RepL.sm r7 s8), .lst (SqL.of upd_same) .nil, shaped_ps o7, by decide +kernel, _, rfl, ?_⟩
  rw [eqv_nil]
  rcases List.eq_nil_or_concat ps with rfl | ⟨ps', pr, rfl⟩
  · exact itF rfl (q _ (s7.trans s8))
  rw [List.concat_eq_append] at *
  refine itT (by simp) ⟨fun σ' H' => ∃ m', m' < total (ps' ++ [pr]) ∧ OrdInv H (.ref p) r m' σ' H', fun _ _ h => h, ?_⟩
  obtain ⟨d, st⟩ := pr
  obtain ⟨xs', y, rfl, ra, rb⟩ := RepPs.snoc r7
  obtain ⟨t, zs, rfl, ht, hzs⟩ := rep_tuple.mp rb
  obtain ⟨x1, x2, rfl, q1, q2⟩ := repl2.mp hzs
  rw [rep_int] at q1
  subst q1
  have o1 : okS NameOk (4 - d) st := o7 (d, st) (by simp)
  have hd3 : d ≤ 3 := by
    rcases Nat.lt_or_ge d 4 with z | z
    · omega
    · rw [show 4 - d = 0 by omega] at o1
      simp [okS] at o1
  -- depth, item = left.pop()
  refine ⟨_, rfl, .inl ⟨rfl, _, .inl (.inl (s8 _ _ e7))⟩, r, _, V.ref t, rfl, rfl, s8 _ _ e7, by simp, ?_⟩
  have k9 := tups_put (s8 _ _ e7) (.lst (xs' ++ [V.ref t]).dropLast)
  refine ⟨t, _, rfl, SqT.of (k9 _ _ (s8 _ _ ht)), rfl, _, _, rfl, _, _, rfl, rfl, ?_⟩
  have s9 : Same H (upd (upd H7 e (.lst [])) r (.lst (xs' ++ [V.ref t]).dropLast)) := Same.put (s7.trans s8) hr1 _
  have hst := Rep.mono k9 _ _ (Rep.sm q2 s8)
  -- if depth > MAX_NEST; if not is_statement(item)
  refine ⟨_, rfl, _, _, rfl, rfl, _, rfl, itF (decide_eq_false (by omega)) ?_⟩
  refine ⟨_, rfl, _, st, _, rfl, hst, o1, fun H10 s10 => ⟨_, rfl, itF rfl ?_⟩⟩
  have e10 : H10 r = some (.lst xs') := by
    rw [s10 _ _ upd_same, List.dropLast_concat]
  -- left.extend(items_within(item, depth))
  have htot : total (ps' ++ [(d, st)]) = total ps' + sizS st := by rw [total_append]; simp [total]
  refine ⟨_, rfl, .inl ⟨rfl, _, .inl (.inl e10)⟩, _, rfl, _, rfl, _, st, d, rfl, hst.sm s10, by omega, fun H11 l zs s11 hl el rl => ?_⟩
  have l1 := RepL.len ra
  have l2 := RepL.len rl
  have l3 := total_len ps'
  have l4 := total_len (kids d st)
  have l5 := total_kids d st
  rw [List.length_map] at l1 l2
  refine ⟨r, l, xs', zs, rfl, rfl, s11 _ _ e10, el, small (by omega), ?_⟩
  -- place += 1
  refine ⟨_, rfl, _, _, rfl, rfl, ?_⟩
  refine ⟨_, ?_, _, _, _, ps' ++ kids d st, xs' ++ zs, rfl, rfl, ?_, ?_, upd_same, ?_, ?_⟩
  · rw [total_append, htot]
    omega
  · rw [total_append]
    omega
  · exact Same.put (s9.trans (s10.trans s11)) hr1 _
  · refine RepL.mono (tups_put (s11 _ _ e10) _) _ _ (RepPs.app ?_ rl)
    exact RepL.sm (RepL.mono k9 _ _ (RepL.sm ra s8)) (s10.trans s11)
  · intro x hx
    rcases List.mem_append.mp hx with z | z
    · exact o7 x (List.mem_append_left _ z)
    · obtain ⟨g1, g2⟩ := ok_kids (n := 4 - (d + 1)) (d := d) (s := st) (by rw [show 4 - (d + 1) + 1 = 4 - d by omega]; exact o1) x z
      rw [g1]
      exact g2

def RowsInv (H0 : Hp) (v : V) (r f : Addr) (n : Nat) (m : Nat) (σ : L2.St) (H : Hp) : Prop :=
  ∃ (od oi on : Option V) (ps : List (Nat × Sm)) (xs fs : List V), σ = [some v, some (.ref r), some (.ref f), od, oi, on] ∧ m = total ps ∧ fs.length + m = n ∧ Same H0 H ∧
    H r = some (.lst xs) ∧ H f = some (.lst fs) ∧ RepPs H ps xs ∧ ∀ p ∈ ps, okS NameOk (4 - p.1) p.2
def sp_rows_of : Sp := fun vs H Q _ => ∃ v ss, vs = [v] ∧ RepB H ss v ∧ okL NameOk 4 ss ∧ sizL ss ≤ 1000 ∧ ∀ H' l xs, Same H H' → H' l = some (.lst xs) → xs.length = sizL ss → Q (.ref l) H'
theorem ok_rows_of (T : Txt K mg) : FnOk P w K mg base CX0 3 T.rows_of.f T.rows_of.fd ["program"] sp_rows_of := by
  have G_items_within := ok_items_within (P := P) (w := w) (base := base) T
  refine T.rows_of.F.ok sc_rows_of (fun vs H Q E h => ?_) (fun cdv A outer s H vs Q E hr h => ?_)
  · obtain ⟨v, ss, rfl, _⟩ := h
    rfl
  obtain ⟨v, ss, rfl, hv, ho, hz, q⟩ := h
  refine ⟨_, (pss_cons (ps_par (i := 1) (j := 2) rfl sc_rows_of.nd rfl rfl (by decide) rfl rfl (pa_cons (pe_revL (pe_lc (own := [("item", 5)]) (g := gName 5) (tt := tYes) rfl sc_rows_of.nd (pi_tup (pv 0)) (blkOk_by (N := N_rows_of) (sc := defScope s_rows_of) (by decide +kernel)) (fun _ _ _ _ _ => pg_name (i := 5) sc_rows_of.nd rfl (Or.inl rfl)) (fun _ _ _ _ _ => pts_nil) (fun _ _ _ _ _ => (pe_tup (pa_cons pe_int (pa_cons (pv 5) pa_nil)))))) (pa_cons (pe_lst pa_nil) pa_nil)) rfl)
      (pss_cons (ps_while PassesOwn.never (pt_cmpR (op_neD hr.units) (pv 1) (pe_lst pa_nil) (nomark _))
        (pss_cons (ps_asg (pe_bm0 PySem.F.plainAttrs_list PySem.F.slot_list_pop PySem.F.type_list_pop mt_pop (pv 1)) (pg_tup rfl (pgs_cons (pg_name (i := 3) sc_rows_of.nd rfl (Or.inl rfl)) (pgs_cons (pg_name (i := 4) sc_rows_of.nd rfl (Or.inl rfl)) pgs_nil))))
        (pss_cons (ps_expr (pe_bm PySem.F.plainAttrs_list PySem.F.slot_list_append PySem.F.type_list_append mt_append (pv 2) (pa_cons (pe_tup (pa_cons (pv 3) (pa_cons (pv 4) pa_nil))) pa_nil)))
        (pss_one (ps_expr (pe_bm PySem.F.plainAttrs_list PySem.F.slot_list_extend PySem.F.type_list_extend mt_extend (pv 1) (pa_cons (pe_call G_items_within (hr.mono (by omega)) rfl T.items_within.g T.items_within.F.kp T.items_within.B .nil pass0 (pa_cons (pv 4) (pa_cons (pv 3) pa_nil))) pa_nil)))))))
      (pss_one (ps_ret (pv 2))))), ?_⟩
  obtain ⟨p, ys, rfl, hp, hys⟩ := hv.at_
  have hlen := len_sizL ss
  -- left, found = [(0, item) for item in program][::-1], []
  refine ⟨_, rfl, p, rfl, ⟨ys, SqT.of hp⟩, fun D hD => ?_⟩
  refine lc_it (walk_tup (K := K) (xs := ys)) (fun j H5 => ∃ acc, H5 D = some (.lst acc) ∧ Same H H5 ∧ RepPs H5 ((ss.take j).map fun s => (0, s)) acc) ?_ (fun j H5 _ ⟨_, _, s5, _⟩ => SqT.of (s5 _ _ hp)) ?_ ?_
  · exact ⟨[], upd_same, Same.new hD _, rfl⟩
  · rintro j x H5 H6 hj ⟨acc, eD, s5, ha⟩ ⟨rfl, hx⟩
    obtain ⟨s', hs', rx⟩ := RepSs.get hys hx
    refine ⟨rfl, _, rfl, by show 2 ≤ sizeLine; decide, fun t ht => ?_⟩
    have s6 := Same.new ht (.tup [.int 0, x])
    have hacc := RepL.len ha
    have hjl : j < ss.length := (List.getElem?_eq_some_iff.mp hs').1
    refine ⟨acc, s6 _ _ eD, ?_, acc ++ [.ref t], upd_same, ?_, ?_⟩
    · rw [hacc, List.length_map, List.length_map, List.length_take]
      exact small1000 (by omega)
    · exact Same.put (s5.trans s6) hD _
    · rw [take_succ hs', List.map_append]
      refine RepL.mono (tups_put (s6 _ _ eD) _) _ _ (RepPs.app (RepL.sm ha s6) (RepL.one ?_))
      refine rep_tuple.mpr ⟨t, _, rfl, upd_same, repl2.mpr ⟨_, _, rfl, ?_, (rx.sm s5).sm s6⟩⟩
      rw [rep_int] <;> rfl
  rintro H5 ⟨acc, eD, s5, ha⟩
  rw [show ys.length = ss.length from RepSs.len hys, List.take_length] at ha
  refine ⟨D, acc, rfl, SqL.of eD, fun r hr0 => ?_⟩
  have k6 := Same.new hr0 (.lst acc.reverse)
  have s6 := s5.trans k6
  have hr1 : H r = none := s5.free hr0
  refine ⟨by show 0 ≤ sizeLine; decide, fun f hf0 => ?_⟩
  have k6' := Same.new hf0 (.lst [])
  have hf1 : H f = none := s6.free hf0
  have nrf : r ≠ f := ne_of_none upd_same hf0
  refine ⟨_, _, rfl, ?_⟩
  -- while left != []
  refine ⟨RowsInv H (.ref p) r f (sizL ss), ⟨_, none, none, none, _, acc.reverse, [], rfl, rfl, ?_, s6.trans k6', k6' _ _ upd_same, upd_same, RepL.sm (RepL.mono (tups_new hr0 _) _ _ (RepPs.rev ha)) k6', ?_⟩, ?_⟩
  · rw [total_rev, total_at]
    simp
  · intro x hx
    rw [List.mem_reverse, List.mem_map] at hx
    obtain ⟨t, ht, rfl⟩ := hx
    exact (okL_iff.mp ho) t ht
  rintro m σ H7 ⟨od, oi, on, ps, xs, fs, rfl, rfl, hm, s7, e7, f7, r7, o7⟩
  refine ⟨_, rfl, by show 0 ≤ sizeLine; decide, fun e he => ?_⟩
  have s8 := Same.new he (.lst [])
  refine ⟨_, _, RepPs.dpl (s8 _ _ e7) (RepL.sm r7 s8), .lst (SqL.of upd_same) .nil, shaped_ps o7, by decide +kernel, _, rfl, ?_⟩
  rw [eqv_nil]
  rcases List.eq_nil_or_concat ps with rfl | ⟨ps', pr, rfl⟩
  · exact itF rfl ⟨_, rfl, q _ f fs (s7.trans s8) (s8 _ _ f7) (by simpa [total] using hm)⟩
  rw [List.concat_eq_append] at *
  refine itT (by simp) ⟨fun σ' H' => ∃ m', m' < total (ps' ++ [pr]) ∧ RowsInv H (.ref p) r f (sizL ss) m' σ' H', fun _ _ h => h, ?_⟩
  obtain ⟨d, st⟩ := pr
  obtain ⟨xs', y, rfl, ra, rb⟩ := RepPs.snoc r7
  obtain ⟨t, zs, rfl, ht, hzs⟩ := rep_tuple.mp rb
  obtain ⟨x1, x2, rfl, q1, q2⟩ := repl2.mp hzs
  rw [rep_int] at q1
  subst q1
  have o1 : okS NameOk (4 - d) st := o7 (d, st) (by simp)
  have hd3 : d ≤ 3 := by
    rcases Nat.lt_or_ge d 4 with z | z
    · omega
    · rw [show 4 - d = 0 by omega] at o1
      simp [okS] at o1
  -- depth, statement = left.pop()
  refine ⟨_, rfl, .inl ⟨rfl, _, .inl (.inl (s8 _ _ e7))⟩, r, _, V.ref t, rfl, rfl, s8 _ _ e7, by simp, ?_⟩
  have k9 := tups_put (s8 _ _ e7) (.lst (xs' ++ [V.ref t]).dropLast)
  refine ⟨t, _, rfl, SqT.of (k9 _ _ (s8 _ _ ht)), rfl, _, _, rfl, _, _, rfl, rfl, ?_⟩
  have s9 : Same H (upd (upd H7 e (.lst [])) r (.lst (xs' ++ [V.ref t]).dropLast)) := Same.put (s7.trans s8) hr1 _
  have hst := Rep.mono k9 _ _ (Rep.sm q2 s8)
  have f9 : (upd (upd H7 e (.lst [])) r (.lst (xs' ++ [V.ref t]).dropLast)) f = some (.lst fs) := by rw [upd_ne (Ne.symm nrf)]; exact s8 _ _ f7
  have htot : total (ps' ++ [(d, st)]) = total ps' + sizS st := by rw [total_append]; simp [total]
  have hpos := sizS_pos st
  -- found.append((depth, statement))
  refine ⟨_, rfl, .inl ⟨rfl, _, .inl (.inl f9)⟩, _, rfl, _, rfl, by show 2 ≤ sizeLine; decide, fun u hu => ?_⟩
  have k10 := Same.new hu (.tup [.int (d : Int), x2])
  refine ⟨f, fs, _, rfl, rfl, k10 _ _ f9, small1000 (by omega), ?_⟩
  have k11 := tups_put (k10 _ _ f9) (.lst (fs ++ [.ref u]))
  have s11 := Same.put (s9.trans k10) hf1 (.lst (fs ++ [.ref u]))
  have e11 : (upd (upd (upd (upd H7 e (.lst [])) r (.lst (xs' ++ [V.ref t]).dropLast)) u (.tup [.int (d : Int), x2])) f (.lst (fs ++ [.ref u]))) r = some (.lst xs') := by
    rw [upd_ne nrf, k10 _ _ upd_same, List.dropLast_concat]
  -- left.extend(items_within(statement, depth))
  refine ⟨_, rfl, .inl ⟨rfl, _, .inl (.inl e11)⟩, _, rfl, _, rfl, _, st, d, rfl, Rep.mono k11 _ _ (hst.sm k10), by omega, fun H12 l zs s12 hl el rl => ?_⟩
  have l1 := RepL.len ra
  have l2 := RepL.len rl
  have l3 := total_len ps'
  have l4 := total_len (kids d st)
  have l5 := total_kids d st
  rw [List.length_map] at l1 l2
  refine ⟨r, l, xs', zs, rfl, rfl, s12 _ _ e11, el, small (by omega), ?_⟩
  refine ⟨_, ?_, _, _, _, ps' ++ kids d st, xs' ++ zs, fs ++ [.ref u], rfl, rfl, ?_, ?_, upd_same, ?_, ?_, ?_⟩
  · rw [total_append, htot]
    omega
  · rw [total_append, List.length_append, List.length_singleton]
    omega
  · exact Same.put (s11.trans s12) hr1 _
  · rw [upd_ne (Ne.symm nrf)]
    exact s12 _ _ upd_same
  · refine RepL.mono (tups_put (s12 _ _ e11) _) _ _ (RepPs.app ?_ rl)
    exact RepL.sm (RepL.mono k11 _ _ (RepL.sm (RepL.mono k9 _ _ (RepL.sm ra s8)) k10)) s12
  · intro x hx
    rcases List.mem_append.mp hx with z | z
    · exact o7 x (List.mem_append_left _ z)
    · obtain ⟨g1, g2⟩ := ok_kids (n := 4 - (d + 1)) (d := d) (s := st) (by rw [show 4 - (d + 1) + 1 = 4 - d by omega]; exact o1) x z
      rw [g1]
      exact g2
end
end K29

set_option Elab.async false
set_option linter.all false
set_option maxRecDepth 100000
set_option maxHeartbeats 4000000
/-! ## program_error: the counts -/
namespace K29
open PySem L2
def core : Te → Te
  | .neg t => core t
  | t => t
def negs : Te → Nat
  | .neg t => negs t + 1
  | _ => 0
theorem core_rest (t : Te) : own.isRest (core t) = own.isRest t := by
  induction t with
  | less a b => rfl
  | rest e m r => rfl
  | neg t ih => simpa only [core, own.isRest] using ih
theorem core_cases (t : Te) : (∃ a b, core t = .less a b) ∨ ∃ e m r, core t = .rest e m r := by
  induction t with
  | less a b => exact .inl ⟨a, b, rfl⟩
  | rest e m r => exact .inr ⟨e, m, r, rfl⟩
  | neg t ih => exact ih
def sortS : Nat → Str
  | 0 => "weight"
  | 1 => "choice"
  | 2 => "rest"
  | _ => "less"
/-- within the bounds -/
def Fits (ss : List Sm) : Prop := sizL ss ≤ 24 ∧ cntL 0 ss ≤ 30 ∧ cntL 1 ss ≤ 4 ∧ cntL 2 ss ≤ 2 ∧ cntL 3 ss ≤ 2
theorem at0 {α : Type} {x : α} {xs : List α} : atI (x :: xs) 0 = some x := atI_nat (j := 0) rfl
theorem cntL_take {f : Nat} {ss : List Sm} {i : Nat} {s : Sm} (h : ss[i]? = some s) : cntL f (ss.take (i + 1)) = cntL f (ss.take i) + cntS f s := by
  rw [take_succ h, cntL_append]
  simp [cntL]
theorem sum_map_take {α : Type} {l : List α} {g : α → Int} {i : Nat} {x : α} (h : l[i]? = some x) : (l.take (i + 1)).map g = (l.take i).map g ++ [g x] := by
  rw [take_succ h, List.map_append] <;> rfl

section
variable {P : Program} {w : World} {K : PySem.W.Frag} {mg : Str → Option Value} {base : Heap}

def sp_bare : Sp := fun vs H Q _ => ∃ v t, vs = [v] ∧ RepT H t v ∧ ∀ u, RepT H (core t) u → Q u H
def BareInv (H0 : Hp) (t0 : Te) (m : Nat) (σ : L2.St) (H : Hp) : Prop := ∃ v t, σ = [some v] ∧ H = H0 ∧ m = negs t ∧ RepT H0 t v ∧ core t = core t0
theorem ok_bare (T : Txt K mg) : FnOk P w K mg base CX0 1 T.bare.f T.bare.fd ["test"] sp_bare := by
  refine T.bare.F.ok sc_bare (fun vs H Q E h => ?_) (fun cdv A outer s H vs Q E hr h => ?_)
  · obtain ⟨v, t, rfl, _⟩ := h
    rfl
  obtain ⟨v, t, rfl, hv, q⟩ := h
  refine ⟨_, (pss_cons (ps_while PassesOwn.never (pt_cmpR op_eq (pe_ix ix_tup (pv 0) pe_int (fun _ _ => rfl)) pe_str (nomark _))
        (pss_one (ps_set (i := 0) sc_bare.nd rfl (Or.inl rfl) (pe_ix ix_tup (pv 0) pe_int (fun _ _ => rfl)))))
      (pss_one (ps_ret (pv 0)))), ?_⟩
  refine ⟨BareInv H t, ⟨_, v, t, rfl, rfl, rfl, hv, rfl⟩, ?_⟩
  rintro m σ H1 ⟨v1, t1, rfl, rfl, rfl, h1, e1⟩
  cases t1 with
  | less a b =>
    obtain ⟨p, x, y, rfl, hp, _, _⟩ := RepT.less_at h1
    refine ⟨_, rfl, _, _, _, _, rfl, rfl, SqT.of hp, rfl, rfl, _, rfl, itF (by decide +kernel) ?_⟩
    exact ⟨_, rfl, q _ (by rw [← e1]; exact h1)⟩
  | rest e m r =>
    obtain ⟨p, x, rfl, hp, _⟩ := RepT.rest_at h1
    refine ⟨_, rfl, _, _, _, _, rfl, rfl, SqT.of hp, rfl, rfl, _, rfl, itF (by decide +kernel) ?_⟩
    exact ⟨_, rfl, q _ (by rw [← e1]; exact h1)⟩
  | neg t2 =>
    obtain ⟨p, x, rfl, hp, hx⟩ := RepT.neg_at h1
    refine ⟨_, rfl, _, _, _, _, rfl, rfl, SqT.of hp, rfl, rfl, _, rfl, itT (by decide +kernel) ?_⟩
    refine ⟨fun σ' H' => ∃ m', m' < negs (.neg t2) ∧ BareInv H1 t m' σ' H', fun _ _ h => h, ?_⟩
    refine ⟨_, rfl, _, _, _, _, rfl, rfl, SqT.of hp, rfl, ?_⟩
    exact ⟨negs t2, by simp [negs], x, t2, rfl, rfl, rfl, hx, by rw [← e1]; rfl⟩

def sp_own_count : Sp := fun vs H Q _ => ∃ (v : V) (s : Sm) (f : Nat), vs = [v, .str (sortS f)] ∧ f < 4 ∧ RepS H s v ∧ Q (.int (own f s : Nat)) H
theorem ok_own_count (T : Txt K mg) : FnOk P w K mg base CX0 2 T.own_count.f T.own_count.fd ["statement", "sort"] sp_own_count := by
  have G_bare := ok_bare (P := P) (w := w) (base := base) T
  refine T.own_count.F.ok sc_own_count (fun vs H Q E h => ?_) (fun cdv A outer s H vs Q E hr h => ?_)
  · obtain ⟨v, s, f, rfl, _⟩ := h
    rfl
  obtain ⟨v, st, f, rfl, hf, hv, q⟩ := h
  refine ⟨_, (pss_cons (ps_if (pt_cmpR op_eq (pv 1) pe_str (nomark _))
        (pss_one (ps_ret pe_int))
        pss_nil)
      (pss_cons (ps_if (pt_cmpR op_eq (pv 1) pe_str (nomark _))
        (pss_one (ps_ret (pe_callTy call_int1 rfl T.n_int (by decide +kernel) (pa_cons (pe_cmpR op_in_seq (pe_ix ix_tup (pv 0) pe_int (fun _ _ => rfl)) (pe_glob (v := .ref T.aCHOICES) rfl T.g_CHOICES rfl) rfl) pa_nil))))
        pss_nil)
      (pss_one (ps_ret (pe_callTy call_int1 rfl T.n_int (by decide +kernel) (pa_cons (pe_and (pe_cmpR op_eq (pe_ix ix_tup (pv 0) pe_int (fun _ _ => rfl)) pe_str (nomark _)) (pe_one (pe_cmpR op_eq (pe_ix ix_tup (pe_call G_bare (hr.mono (by omega)) rfl T.bare.g T.bare.F.kp T.bare.B .nil pass0 (pa_cons (pe_ix ix_tup (pv 0) pe_int (fun _ _ => rfl)) pa_nil)) pe_int (fun _ _ => rfl)) (pv 1) (nomark _)))) pa_nil)))))), ?_⟩
  -- the first item of the statement
  have hd : ∃ p x xs, v = .ref p ∧ H p = some (.tup (.str x :: xs)) ∧ (x = "if" ↔ ∃ t a b, st = .ite t a b) ∧ (inV (.str x) [.str "we", .str "they"] = true ↔ ∃ c a b, st = .cho c a b) := by
    cases st with
    | set x e =>
      obtain ⟨p, y, rfl, hp, _⟩ := RepS.set_at hv
      exact ⟨p, _, _, rfl, hp, ⟨fun z => absurd z (by decide +kernel), fun ⟨_, _, _, z⟩ => by cases z⟩, ⟨fun z => absurd z (by decide +kernel), fun ⟨_, _, _, z⟩ => by cases z⟩⟩
    | pay e =>
      obtain ⟨p, y, rfl, hp, _⟩ := RepS.pay_at hv
      exact ⟨p, _, _, rfl, hp, ⟨fun z => absurd z (by decide +kernel), fun ⟨_, _, _, z⟩ => by cases z⟩, ⟨fun z => absurd z (by decide +kernel), fun ⟨_, _, _, z⟩ => by cases z⟩⟩
    | stop =>
      obtain ⟨p, rfl, hp⟩ := RepS.stop_at hv
      exact ⟨p, _, _, rfl, hp, ⟨fun z => absurd z (by decide +kernel), fun ⟨_, _, _, z⟩ => by cases z⟩, ⟨fun z => absurd z (by decide +kernel), fun ⟨_, _, _, z⟩ => by cases z⟩⟩
    | ite t a b =>
      obtain ⟨p, _, _, _, _, _, rfl, hp, _⟩ := RepS.ite_at hv
      exact ⟨p, _, _, rfl, hp, ⟨fun _ => ⟨t, a, b, rfl⟩, fun _ => rfl⟩, ⟨fun z => absurd z (by decide +kernel), fun ⟨_, _, _, z⟩ => by cases z⟩⟩
    | cho we a b =>
      obtain ⟨p, _, _, _, _, rfl, hp, _⟩ := RepS.cho_at hv
      exact ⟨p, _, _, rfl, hp, ⟨fun z => absurd z (by cases we <;> decide +kernel), fun ⟨_, _, _, z⟩ => by cases z⟩, ⟨fun _ => ⟨we, a, b, rfl⟩, fun _ => by cases we <;> decide +kernel⟩⟩
    | rep k b =>
      obtain ⟨p, _, _, rfl, hp, _⟩ := RepS.rep_at hv
      exact ⟨p, _, _, rfl, hp, ⟨fun z => absurd z (by decide +kernel), fun ⟨_, _, _, z⟩ => by cases z⟩, ⟨fun z => absurd z (by decide +kernel), fun ⟨_, _, _, z⟩ => by cases z⟩⟩
  obtain ⟨p, x, xs, rfl, hp, hif, hch⟩ := hd
  match f, hf with
  | 0, _ =>
    refine ⟨_, rfl, rfl, _, rfl, itT (by decide +kernel) ?_⟩
    exact q
  | 1, _ =>
    refine ⟨_, rfl, rfl, _, rfl, itF (by decide +kernel) ?_⟩
    refine ⟨_, rfl, rfl, _, rfl, itT (by decide +kernel) ?_⟩
    refine ⟨_, rfl, _, _, _, _, rfl, rfl, SqT.of hp, at0, _, _, rfl, .inr (T.CHOICES _), rfl, by decide +kernel, .inr ⟨_, rfl, ?_⟩⟩
    refine Qint q ?_
    rw [if_neg Bool.false_ne_true]
    cases hc : inV (.str x) [.str "we", .str "they"] with
    | true =>
      obtain ⟨c, a, b, rfl⟩ := hch.mp hc
      rfl
    | false =>
      have hn : ¬ ∃ c a b, st = .cho c a b := fun z => by rw [hch.mpr z] at hc; cases hc
      cases st with
      | cho c a b => exact absurd ⟨c, a, b, rfl⟩ hn
      | _ => rfl
  | 2, _ =>
    refine ⟨_, rfl, rfl, _, rfl, itF (by decide +kernel) ?_⟩
    refine ⟨_, rfl, rfl, _, rfl, itF (by decide +kernel) ?_⟩
    refine ⟨_, rfl, _, _, _, _, rfl, rfl, SqT.of hp, at0, rfl, _, rfl, ?_⟩
    by_cases hx : x = "if"
    · obtain ⟨t, a, b, rfl⟩ := hif.mp hx
      obtain ⟨p', y, p1, p2, us, ws, ep, hp', hy, _⟩ := RepS.ite_at hv
      obtain rfl := V.ref.inj ep
      rw [hp] at hp'
      cases hp'
      refine itT (by decide +kernel) ⟨_, rfl, _, _, _, _, rfl, rfl, SqT.of hp, rfl, y, t, rfl, hy, fun u hu => ?_⟩
      rcases core_cases t with ⟨e1, e2, ec⟩ | ⟨e, m, r, ec⟩
      · rw [ec] at hu
        obtain ⟨p5, _, _, rfl, h5, _⟩ := RepT.less_at hu
        refine ⟨_, _, _, _, rfl, rfl, SqT.of h5, rfl, _, rfl, rfl, .inr ⟨_, rfl, ?_⟩⟩
        refine Qint q ?_
        simp only [own]
        rw [← core_rest, ec]
        show (((if false = true then 1 else 0 : Nat)) : Int) = if decide (V.str "less" = V.str "rest") = true then 1 else 0
        decide +kernel
      · rw [ec] at hu
        obtain ⟨p5, _, rfl, h5, _⟩ := RepT.rest_at hu
        refine ⟨_, _, _, _, rfl, rfl, SqT.of h5, rfl, _, rfl, rfl, .inr ⟨_, rfl, ?_⟩⟩
        refine Qint q ?_
        simp only [own]
        rw [← core_rest, ec]
        show (((if true = true then 1 else 0 : Nat)) : Int) = if decide (V.str "rest" = V.str "rest") = true then 1 else 0
        decide +kernel
    · refine itF (decide_eq_false fun z => hx (V.str.inj z)) (.inr ⟨_, rfl, ?_⟩)
      have hn : ¬ ∃ t a b, st = .ite t a b := fun z => hx (hif.mpr z)
      refine Qint q ?_
      cases st with
      | ite t a b => exact absurd ⟨t, a, b, rfl⟩ hn
      | _ => rfl
  | 3, _ =>
    refine ⟨_, rfl, rfl, _, rfl, itF (by decide +kernel) ?_⟩
    refine ⟨_, rfl, rfl, _, rfl, itF (by decide +kernel) ?_⟩
    refine ⟨_, rfl, _, _, _, _, rfl, rfl, SqT.of hp, at0, rfl, _, rfl, ?_⟩
    by_cases hx : x = "if"
    · obtain ⟨t, a, b, rfl⟩ := hif.mp hx
      obtain ⟨p', y, p1, p2, us, ws, ep, hp', hy, _⟩ := RepS.ite_at hv
      obtain rfl := V.ref.inj ep
      rw [hp] at hp'
      cases hp'
      refine itT (by decide +kernel) ⟨_, rfl, _, _, _, _, rfl, rfl, SqT.of hp, rfl, y, t, rfl, hy, fun u hu => ?_⟩
      rcases core_cases t with ⟨e1, e2, ec⟩ | ⟨e, m, r, ec⟩
      · rw [ec] at hu
        obtain ⟨p5, _, _, rfl, h5, _⟩ := RepT.less_at hu
        refine ⟨_, _, _, _, rfl, rfl, SqT.of h5, rfl, _, rfl, rfl, .inr ⟨_, rfl, ?_⟩⟩
        refine Qint q ?_
        simp only [own]
        rw [← core_rest, ec]
        show (((if false = true then 0 else 1 : Nat)) : Int) = if decide (V.str "less" = V.str "less") = true then 1 else 0
        decide +kernel
      · rw [ec] at hu
        obtain ⟨p5, _, rfl, h5, _⟩ := RepT.rest_at hu
        refine ⟨_, _, _, _, rfl, rfl, SqT.of h5, rfl, _, rfl, rfl, .inr ⟨_, rfl, ?_⟩⟩
        refine Qint q ?_
        simp only [own]
        rw [← core_rest, ec]
        show (((if true = true then 0 else 1 : Nat)) : Int) = if decide (V.str "rest" = V.str "less") = true then 1 else 0
        decide +kernel
    · refine itF (decide_eq_false fun z => hx (V.str.inj z)) (.inr ⟨_, rfl, ?_⟩)
      have hn : ¬ ∃ t a b, st = .ite t a b := fun z => hx (hif.mpr z)
      refine Qint q ?_
      cases st with
      | ite t a b => exact absurd ⟨t, a, b, rfl⟩ hn
      | _ => rfl
end
end K29

set_option Elab.async false
set_option linter.all false
set_option maxRecDepth 100000
set_option maxHeartbeats 4000000
/-! ## program_error: counted, weight, program_error -/
namespace K29
open PySem L2
theorem cnt_blks (f : Nat) (s : Sm) : ∃ m : Int, (cntS f s : Int) = (own f s : Int) + ((blks s).map fun b => (cntL f b : Int)).sum * m ∧
    ((∀ k b, s ≠ .rep k b) → m = 1) ∧ ∀ k b, s = .rep k b → 0 ≤ k → m = k := by
  cases s with
  | set x e => exact ⟨1, by simp [cntS, blks], fun _ => rfl, fun _ _ h => by cases h⟩
  | pay e => exact ⟨1, by simp [cntS, blks], fun _ => rfl, fun _ _ h => by cases h⟩
  | stop => exact ⟨1, by simp [cntS, blks], fun _ => rfl, fun _ _ h => by cases h⟩
  | ite t a b => exact ⟨1, by simp [cntS, blks], fun _ => rfl, fun _ _ h => by cases h⟩
  | cho c a b => exact ⟨1, by simp [cntS, blks], fun _ => rfl, fun _ _ h => by cases h⟩
  | rep k b =>
    refine ⟨(k.toNat : Int), by simp [cntS, blks, own], fun h => absurd rfl (h k b), fun k' b' h h0 => ?_⟩
    cases h
    omega
theorem ok_blks {N : Str → Prop} {n : Nat} {s : Sm} (h : okS N (n + 1) s) : ∀ b ∈ blks s, okL N n b := by
  intro b hb
  cases s <;> simp [blks] at hb <;> simp only [okS] at h
  · rcases hb with rfl | rfl
    · exact h.2.1
    · exact h.2.2
  · rcases hb with rfl | rfl
    · exact h.1
    · exact h.2
  · rw [hb]
    exact h.2.2
section
variable {P : Program} {w : World} {K : PySem.W.Frag} {mg : Str → Option Value} {base : Heap}

def sp_counted (n : Nat) : Sp := fun vs H Q _ => ∃ (v : V) (ss : List Sm) (f : Nat), vs = [v, .str (sortS f)] ∧ f < 4 ∧ RepB H ss v ∧ okL NameOk n ss ∧ ∀ H', Same H H' → Q (.int (cntL f ss : Nat)) H'
theorem ok_counted_of (T : Txt K mg) (n : Nat) (sp' : Sp) (G_counted : FnOk P w K mg base CX0 (n + 2) T.counted.f T.counted.fd ["block", "sort"] sp') (hG : ∀ m, n = m + 1 → sp' = sp_counted m) :
    FnOk P w K mg base CX0 (n + 3) T.counted.f T.counted.fd ["block", "sort"] (sp_counted n) := by
  have G_blocks_of := ok_blocks_of (P := P) (w := w) (base := base) T
  have G_own_count := ok_own_count (P := P) (w := w) (base := base) T
  refine T.counted.F.ok sc_counted (fun vs H Q E h => ?_) (fun cdv A outer s H vs Q E hr h => ?_)
  · obtain ⟨v, ss, f, rfl, _⟩ := h
    rfl
  obtain ⟨v, ss, f, rfl, hf, hv, ho, q⟩ := h
  refine ⟨_, (pss_cons (ps_set (i := 2) sc_counted.nd rfl (Or.inl rfl) pe_int)
      (pss_cons (ps_for PassesOwn.never rfl (pi_tup (pv 0)) (pg_name (i := 3) sc_counted.nd rfl (Or.inl rfl))
        (pss_cons (ps_set (i := 4) sc_counted.nd rfl (Or.inl rfl) (pe_callB (cr_sum rfl) rfl T.n_sum (by decide +kernel) (pa_cons (pe_lc (own := [("part", 5)]) (g := gName 5) (tt := tYes) rfl sc_counted.nd (pi_list (pe_call G_blocks_of (hr.mono (by omega)) rfl T.blocks_of.g T.blocks_of.F.kp T.blocks_of.B .nil pass0 (pa_cons (pv 3) pa_nil))) (blkOk_by (N := N_counted) (sc := defScope s_counted) (by decide +kernel)) (fun _ _ _ _ _ => pg_name (i := 5) sc_counted.nd rfl (Or.inl rfl)) (fun _ _ _ _ _ => pts_nil) (fun _ _ _ _ _ => (pe_call G_counted (hr.mono (by omega)) rfl T.counted.g T.counted.F.kp T.counted.B .nil pass0 (pa_cons (pv 5) (pa_cons (pv 1) pa_nil))))) pa_nil)))
        (pss_one (ps_aug (i := 2) sc_counted.nd rfl (Or.inl rfl) (pe_op op_add (pe_call G_own_count (hr.mono (by omega)) rfl T.own_count.g T.own_count.F.kp T.own_count.B .nil pass0 (pa_cons (pv 3) (pa_cons (pv 1) pa_nil))) (pe_op op_mul (pv 4) (pe_ifExp (pt_cmpR op_eq (pe_ix ix_tup (pv 3) pe_int (fun _ _ => rfl)) pe_str (nomark _)) (pe_ix ix_tup (pv 3) pe_int (fun _ _ => rfl)) pe_int))) ip_add))))
      (pss_one (ps_ret (pv 2))))), ?_⟩
  obtain ⟨p, ys, rfl, hp, hys⟩ := hv.at_
  refine ⟨_, rfl, p, rfl, ⟨ys, SqT.of hp⟩, ?_⟩
  refine for_it (walk_tup (K := K) (xs := ys)) (fun i σ H3 => ∃ o1 o2 o3, σ = [some (.ref p), some (.str (sortS f)), some (.int (cntL f (ss.take i) : Nat)), o1, o2, o3] ∧ Same H H3)
    ?_ (fun i σ H3 _ ⟨_, _, _, _, s3⟩ => SqT.of (s3 _ _ hp)) ?_ ?_
  · exact ⟨none, none, none, by simp [cntL]; rfl, Same.refl H⟩
  · rintro i y σ H3 H4 hi ⟨o1, o2, o3, rfl, s3⟩ ⟨rfl, hy⟩
    obtain ⟨st, hst, rst⟩ := RepSs.get hys hy
    have rst4 := Rep.sm rst s3
    have ho1 : okS NameOk n st := (okL_iff.mp ho) st (List.mem_of_getElem? hst)
    -- inner = sum([..])
    refine ⟨_, rfl, _, st, rfl, rst4, fun H5 bl bs s5 hbl ebl hbs => ⟨bl, rfl, ⟨bs, SqL.of ebl⟩, fun D hD => ?_⟩⟩
    refine lc_it (walk_list (K := K) (xs := bs)) (fun j H6 => H6 D = some (.lst ((((blks st).take j).map fun b => (cntL f b : Int)).map V.int)) ∧ Same H5 H6)
      ?_ (fun j H6 _ ⟨_, s6⟩ => SqL.of (s6 _ _ ebl)) ?_ ?_
    · exact ⟨upd_same, Same.new hD _⟩
    · rintro j x H6 H7 hj ⟨eD, s6⟩ ⟨rfl, hx⟩
      obtain ⟨b, pb, us, hb, rfl, hpb, rb⟩ := (RepBs.sm s6 hbs).get hx
      have hbl2 : (((blks st).take j).map fun b => (cntL f b : Int)).length ≤ 2 := by
        rw [List.length_map, List.length_take]
        have : (blks st).length ≤ 2 := by cases st <;> simp [blks]
        omega
      cases n with
      | zero => simp [okS] at ho1
      | succ n =>
      obtain rfl := hG n rfl
      refine ⟨rfl, _, rfl, _, rfl, _, b, f, rfl, hf, RepB.mk hpb rb, ok_blks ho1 b (List.mem_of_getElem? hb), fun H8 s8 => ?_⟩
      refine ⟨_, s8 _ _ eD, ?_, ?_, Same.put (s6.trans s8) hD _⟩
      · rw [List.length_map]
        exact small1000 (by omega)
      · rw [upd_same, sum_map_take hb, List.map_append] <;> rfl
    rintro H6 ⟨eD, s6⟩
    rw [hbs.len, List.take_length] at eD
    refine ⟨D, _, rfl, SqL.of eD, ?_⟩
    have s46 : Same H H6 := s3.trans (s5.trans s6)
    have rst6 := Rep.sm rst s46
    -- found += own_count(statement, sort) + inner * ..
    refine ⟨_, rfl, _, rfl, _, rfl, _, st, f, rfl, hf, rst6, _, rfl, ?_⟩
    obtain ⟨m, em, m1, m2⟩ := cnt_blks f st
    have key : ∀ (z : Int), z = m → ((cntL f (ss.take i) : Nat) : Int) + ((own f st : Nat) + ((blks st).map fun b => (cntL f b : Int)).sum * z) = (cntL f (ss.take (i + 1)) : Nat) := fun z ez => by
      subst ez
      rw [← em, cntL_take hst, Int.natCast_add]
    have fin : ∀ (σ5 : L2.St) (z : Int), σ5 = [some (.ref p), some (.str (sortS f)), some (.int (((cntL f (ss.take i) : Nat) : Int) + ((own f st : Nat) + ((blks st).map fun b => (cntL f b : Int)).sum * z))), some y, some (.int ((blks st).map fun b => (cntL f b : Int)).sum), o3] → z = m →
        ∃ o1 o2 o3, σ5 = [some (.ref p), some (.str (sortS f)), some (.int (cntL f (ss.take (i + 1)) : Nat)), o1, o2, o3] ∧ Same H H6 := fun σ5 z e1 e2 => by
      rw [key z e2] at e1
      exact ⟨_, _, _, e1, s46⟩
    cases st with
    | set x e =>
      obtain ⟨pp, y2, rfl, hpp, _⟩ := RepS.set_at rst6
      refine ⟨_, rfl, _, _, _, _, rfl, rfl, SqT.of hpp, rfl, rfl, _, rfl, itF (by decide +kernel) ⟨_, _, rfl, rfl, .inr ⟨by decide, by decide⟩, _, _, rfl, rfl, _, _, rfl, rfl, ?_⟩⟩
      exact fin _ 1 rfl (m1 fun _ _ z => by cases z).symm
    | pay e =>
      obtain ⟨pp, y2, rfl, hpp, _⟩ := RepS.pay_at rst6
      refine ⟨_, rfl, _, _, _, _, rfl, rfl, SqT.of hpp, rfl, rfl, _, rfl, itF (by decide +kernel) ⟨_, _, rfl, rfl, .inr ⟨by decide, by decide⟩, _, _, rfl, rfl, _, _, rfl, rfl, ?_⟩⟩
      exact fin _ 1 rfl (m1 fun _ _ z => by cases z).symm
    | stop =>
      obtain ⟨pp, rfl, hpp⟩ := RepS.stop_at rst6
      refine ⟨_, rfl, _, _, _, _, rfl, rfl, SqT.of hpp, rfl, rfl, _, rfl, itF (by decide +kernel) ⟨_, _, rfl, rfl, .inr ⟨by decide, by decide⟩, _, _, rfl, rfl, _, _, rfl, rfl, ?_⟩⟩
      exact fin _ 1 rfl (m1 fun _ _ z => by cases z).symm
    | ite t a b =>
      obtain ⟨pp, _, _, _, _, _, rfl, hpp, _⟩ := RepS.ite_at rst6
      refine ⟨_, rfl, _, _, _, _, rfl, rfl, SqT.of hpp, rfl, rfl, _, rfl, itF (by decide +kernel) ⟨_, _, rfl, rfl, .inr ⟨by decide, by decide⟩, _, _, rfl, rfl, _, _, rfl, rfl, ?_⟩⟩
      exact fin _ 1 rfl (m1 fun _ _ z => by cases z).symm
    | cho c a b =>
      obtain ⟨pp, _, _, _, _, rfl, hpp, _⟩ := RepS.cho_at rst6
      refine ⟨_, rfl, _, _, _, _, rfl, rfl, SqT.of hpp, rfl, rfl, _, rfl, itF (by cases c <;> decide +kernel) ⟨_, _, rfl, rfl, .inr ⟨by decide, by decide⟩, _, _, rfl, rfl, _, _, rfl, rfl, ?_⟩⟩
      exact fin _ 1 rfl (m1 fun _ _ z => by cases z).symm
    | rep k b =>
      obtain ⟨pp, _, _, rfl, hpp, _⟩ := RepS.rep_at rst6
      have hk : 1 ≤ k ∧ k ≤ 8 := by
        cases n with
        | zero => simp [okS] at ho1
        | succ n => simp only [okS] at ho1; exact ⟨ho1.1, ho1.2.1⟩
      refine ⟨_, rfl, _, _, _, _, rfl, rfl, SqT.of hpp, rfl, rfl, _, rfl, itT (by decide +kernel) ⟨_, rfl, _, _, _, _, rfl, rfl, SqT.of hpp, rfl, _, _, rfl, rfl, .inr ⟨by omega, by omega⟩, _, _, rfl, rfl, _, _, rfl, rfl, ?_⟩⟩
      exact fin _ k rfl (m2 k b rfl (by omega)).symm
  · rintro σ H3 ⟨o1, o2, o3, rfl, s3⟩
    refine ⟨_, rfl, ?_⟩
    rw [show ys.length = ss.length from RepSs.len hys, List.take_length]
    exact q _ s3
theorem ok_counted (T : Txt K mg) : ∀ n : Nat, FnOk P w K mg base CX0 (n + 3) T.counted.f T.counted.fd ["block", "sort"] (sp_counted n)
  | 0 => ok_counted_of T 0 (fun _ _ _ _ => False) (FnOk.never fun _ _ _ _ h => h) fun m h => absurd h (by omega)
  | n + 1 => ok_counted_of T (n + 1) (sp_counted n) (ok_counted T n) fun m h => by
    obtain rfl : n = m := by omega
    rfl
def sp_weight : Sp := fun vs H Q _ => ∃ v ss, vs = [v] ∧ RepB H ss v ∧ okL NameOk 4 ss ∧ ∀ H', Same H H' → Q (.int (cntL 0 ss : Nat)) H'
theorem ok_weight (T : Txt K mg) : FnOk P w K mg base CX0 8 T.weight.f T.weight.fd ["program"] sp_weight := by
  have G_counted := ok_counted (P := P) (w := w) (base := base) T 4
  refine T.weight.F.ok sc_weight (fun vs H Q E h => ?_) (fun cdv A outer s H vs Q E hr h => ?_)
  · obtain ⟨v, ss, rfl, _⟩ := h
    rfl
  obtain ⟨v, ss, rfl, hv, ho, q⟩ := h
  refine ⟨_, (pss_one (ps_ret (pe_call G_counted (hr.mono (by omega)) rfl T.counted.g T.counted.F.kp T.counted.B .nil pass0 (pa_cons (pv 0) (pa_cons pe_str pa_nil))))), ?_⟩
  exact ⟨_, rfl, v, ss, 0, rfl, by decide, hv, ho, q⟩
def sp_program_error : Sp := fun vs H Q _ => ∃ v ss, vs = [v] ∧ RepB H ss v ∧ okL NameOk 4 ss ∧ sizL ss ≤ 1000 ∧ (∀ H', Same H H' → Fits ss → Q .non H') ∧ ∀ H' p, Same H H' → ¬ Fits ss → Q (.ref p) H'
theorem ok_program_error (T : Txt K mg) : FnOk P w K mg base CX0 11 T.program_error.f T.program_error.fd ["value"] sp_program_error := by
  have G_order_error := ok_order_error (P := P) (w := w) (base := base) T
  have G_rows_of := ok_rows_of (P := P) (w := w) (base := base) T
  have G_weight := ok_weight (P := P) (w := w) (base := base) T
  have G_counted := ok_counted (P := P) (w := w) (base := base) T 4
  refine T.program_error.F.ok sc_program_error (fun vs H Q E h => ?_) (fun cdv A outer s H vs Q E hr h => ?_)
  · obtain ⟨v, ss, rfl, _⟩ := h
    rfl
  obtain ⟨v, ss, rfl, hv, ho, hz, q1, q2⟩ := h
  refine ⟨_, (pss_cons (ps_if (pt_not (pt_val (pe_callB call_isT rfl T.n_isinstance (by decide +kernel) (pa_cons (pv 0) (pa_cons (pe_bltn (v := .ty "tuple") (u := .type "tuple") rfl T.n_tuple (by decide +kernel) rfl) pa_nil)))))
        (pss_one (ps_ret (pe_tup (pa_cons pe_non (pa_cons pe_str pa_nil)))))
        pss_nil)
      (pss_cons (ps_set (i := 1) sc_program_error.nd rfl (Or.inl rfl) (pe_call G_order_error (hr.mono (by omega)) rfl T.order_error.g T.order_error.F.kp T.order_error.B .nil pass0 (pa_cons (pv 0) pa_nil)))
      (pss_cons (ps_if (pt_cmpR op_notN (pv 1) pe_non (nomark _))
        (pss_one (ps_ret (pv 1)))
        pss_nil)
      (pss_cons (ps_if (pt_cmpR op_gt (pe_callB call_len_seq rfl T.n_len (by decide +kernel) (pa_cons (pe_call G_rows_of (hr.mono (by omega)) rfl T.rows_of.g T.rows_of.F.kp T.rows_of.B .nil pass0 (pa_cons (pv 0) pa_nil)) pa_nil)) (pe_glob rfl T.g_MAX_PLACES.e T.g_MAX_PLACES.r) (nomark _))
        (pss_one (ps_ret (pe_tup (pa_cons pe_non (pa_cons pe_str pa_nil)))))
        pss_nil)
      (pss_cons (ps_if (pt_cmpR op_gt (pe_call G_weight (hr.mono (by omega)) rfl T.weight.g T.weight.F.kp T.weight.B .nil pass0 (pa_cons (pv 0) pa_nil)) (pe_glob rfl T.g_MAX_WEIGHT.e T.g_MAX_WEIGHT.r) (nomark _))
        (pss_one (ps_ret (pe_tup (pa_cons pe_non (pa_cons pe_str pa_nil)))))
        pss_nil)
      (pss_cons (ps_if (pt_cmpR op_gt (pe_call G_counted (hr.mono (by omega)) rfl T.counted.g T.counted.F.kp T.counted.B .nil pass0 (pa_cons (pv 0) (pa_cons pe_str pa_nil))) (pe_glob rfl T.g_MAX_CHOICES.e T.g_MAX_CHOICES.r) (nomark _))
        (pss_one (ps_ret (pe_tup (pa_cons pe_non (pa_cons pe_str pa_nil)))))
        pss_nil)
      (pss_cons (ps_if (pt_cmpR op_gt (pe_call G_counted (hr.mono (by omega)) rfl T.counted.g T.counted.F.kp T.counted.B .nil pass0 (pa_cons (pv 0) (pa_cons pe_str pa_nil))) (pe_glob rfl T.g_MAX_RESTS.e T.g_MAX_RESTS.r) (nomark _))
        (pss_one (ps_ret (pe_tup (pa_cons pe_non (pa_cons pe_str pa_nil)))))
        pss_nil)
      (pss_one (ps_ret (pe_ifExp (pt_cmpR op_gt (pe_call G_counted (hr.mono (by omega)) rfl T.counted.g T.counted.F.kp T.counted.B .nil pass0 (pa_cons (pv 0) (pa_cons pe_str pa_nil))) (pe_glob rfl T.g_MAX_COMPARINGS.e T.g_MAX_COMPARINGS.r) (nomark _)) (pe_tup (pa_cons pe_non (pa_cons pe_str pa_nil))) pe_non)))))))))), ?_⟩
  obtain ⟨p, ys, rfl, hp, hys⟩ := hv.at_
  refine ⟨_, rfl, _, rfl, .inr (.inr ⟨_, _, rfl, hp, _, rfl, itF (by decide +kernel) ?_⟩)⟩
  refine ⟨_, rfl, _, ss, rfl, hv, ho, hz, fun H1 s1 => ?_⟩
  refine ⟨_, rfl, rfl, _, rfl, itF (by decide +kernel) ?_⟩
  have hv1 := Rep.sm hv s1
  refine ⟨_, rfl, _, ss, rfl, hv1, ho, hz, fun H2 l xs s2 el hl => ⟨_, _, rfl, .inl (SqL.of el), _, _, rfl, rfl, _, rfl, ?_⟩⟩
  rw [hl]
  have t2 := s1.trans s2
  refine ite2 (fun c => ?_) (fun c => ?_)
  · have c' : (24 : Int) < (sizL ss : Nat) := of_decide_eq_true c
    refine ⟨by show 2 ≤ sizeLine; decide, fun t ht => q2 _ t (t2.trans (Same.new ht _)) fun z => ?_⟩
    have := z.1
    omega
  have c1 : ¬ (24 : Int) < (sizL ss : Nat) := of_decide_eq_false (Bool.eq_false_iff.mpr c)
  refine ⟨_, rfl, _, ss, rfl, Rep.sm hv t2, ho, fun H3 s3 => ⟨_, _, rfl, rfl, _, rfl, ?_⟩⟩
  have t3 := t2.trans s3
  refine ite2 (fun c => ?_) (fun c => ?_)
  · have c' : (30 : Int) < (cntL 0 ss : Nat) := of_decide_eq_true c
    refine ⟨by show 2 ≤ sizeLine; decide, fun t ht => q2 _ t (t3.trans (Same.new ht _)) fun z => ?_⟩
    have := z.2.1
    omega
  have c2 : ¬ (30 : Int) < (cntL 0 ss : Nat) := of_decide_eq_false (Bool.eq_false_iff.mpr c)
  refine ⟨_, rfl, _, ss, 1, rfl, by decide, Rep.sm hv t3, ho, fun H4 s4 => ⟨_, _, rfl, rfl, _, rfl, ?_⟩⟩
  have t4 := t3.trans s4
  refine ite2 (fun c => ?_) (fun c => ?_)
  · have c' : (4 : Int) < (cntL 1 ss : Nat) := of_decide_eq_true c
    refine ⟨by show 2 ≤ sizeLine; decide, fun t ht => q2 _ t (t4.trans (Same.new ht _)) fun z => ?_⟩
    have := z.2.2.1
    omega
  have c3 : ¬ (4 : Int) < (cntL 1 ss : Nat) := of_decide_eq_false (Bool.eq_false_iff.mpr c)
  refine ⟨_, rfl, _, ss, 2, rfl, by decide, Rep.sm hv t4, ho, fun H5 s5 => ⟨_, _, rfl, rfl, _, rfl, ?_⟩⟩
  have t5 := t4.trans s5
  refine ite2 (fun c => ?_) (fun c => ?_)
  · have c' : (2 : Int) < (cntL 2 ss : Nat) := of_decide_eq_true c
    refine ⟨by show 2 ≤ sizeLine; decide, fun t ht => q2 _ t (t5.trans (Same.new ht _)) fun z => ?_⟩
    have := z.2.2.2.1
    omega
  have c4 : ¬ (2 : Int) < (cntL 2 ss : Nat) := of_decide_eq_false (Bool.eq_false_iff.mpr c)
  refine ⟨_, rfl, _, ss, 3, rfl, by decide, Rep.sm hv t5, ho, fun H6 s6 => ⟨_, _, rfl, rfl, _, rfl, ?_⟩⟩
  have t6 := t5.trans s6
  refine ite2 (fun c => ?_) (fun c => ?_)
  · have c' : (2 : Int) < (cntL 3 ss : Nat) := of_decide_eq_true c
    refine ⟨by show 2 ≤ sizeLine; decide, fun t ht => q2 _ t (t6.trans (Same.new ht _)) fun z => ?_⟩
    have := z.2.2.2.2
    omega
  have c5 : ¬ (2 : Int) < (cntL 3 ss : Nat) := of_decide_eq_false (Bool.eq_false_iff.mpr c)
  exact q1 _ t6 ⟨by omega, by omega, by omega, by omega, by omega⟩
end
end K29

set_option Elab.async false
set_option linter.all false
set_option maxRecDepth 100000
set_option maxHeartbeats 4000000
/-! ## runs: the mirror, values and tests -/
namespace K29
open PySem L2
def evE (f : Str → Int) : Ex → Int
  | .num i => i
  | .nam x => f x
  | .bin p a b => if p = true then evE f a + evE f b else evE f a - evE f b
  | .tim k e => k * evE f e
def evT (f : Str → Int) : Te → Bool
  | .less a b => decide (evE f a < evE f b)
  | .rest e m r => decide (evE f e % m = r)
  | .neg t => !evT f t
/-- a run as it goes on -/
structure Cs where
  env : Str → Int
  tot : Int
  trn : List Int
  hnd : List Str
  stp : Bool
def Cs.nxt (ak : List Int) (c : Cs) : Int := ak.getD c.trn.length 0
def Cs.cho (ak : List Int) (h : Str) (c : Cs) : Cs := { c with trn := c.trn ++ [c.nxt ak], hnd := c.hnd ++ [h] }
def setE (f : Str → Int) (x : Str) (i : Int) : Str → Int := fun y => if y = x then i else f y
def iter {α : Type} (g : α → α) : Nat → α → α
  | 0, a => a
  | n + 1, a => iter g n (g a)
mutual
def doS (ak : List Int) : Sm → Cs → Cs
  | .set x e, c => { c with env := setE c.env x (evE c.env e) }
  | .pay e, c => { c with tot := c.tot + evE c.env e }
  | .stop, c => { c with stp := true }
  | .ite t a b, c => if evT c.env t = true then goB ak a c else goB ak b c
  | .cho w a b, c => if c.nxt ak = 0 then goB ak a (c.cho ak (hand w)) else goB ak b (c.cho ak (hand w))
  | .rep k b, c => iter (goB ak b) k.toNat c
def goB (ak : List Int) : List Sm → Cs → Cs
  | [], c => c
  | s :: r, c => goB ak r (if c.stp = true then c else doS ak s c)
end
theorem goB_append (ak : List Int) : ∀ (a b : List Sm) (c : Cs), goB ak (a ++ b) c = goB ak b (goB ak a c)
  | [], b, c => by simp [goB]
  | s :: r, b, c => by simp only [List.cons_append, goB, goB_append ak r b]
theorem goB_take (ak : List Int) {ss : List Sm} {i : Nat} {s : Sm} (h : ss[i]? = some s) (c : Cs) :
    goB ak (ss.take (i + 1)) c = if (goB ak (ss.take i) c).stp = true then goB ak (ss.take i) c else doS ak s (goB ak (ss.take i) c) := by
  rw [take_succ h, goB_append]
  simp [goB]
/-- the blocks that a statement executes, and the run behind the choice -/
def partsM (ak : List Int) (c : Cs) : Sm → List (List Sm)
  | .ite t a b => [if evT c.env t = true then a else b]
  | .cho _ a b => [if c.nxt ak = 0 then a else b]
  | .rep k b => List.replicate k.toNat b
  | _ => []
def partsC (ak : List Int) (c : Cs) : Sm → Cs
  | .cho w _ _ => c.cho ak (hand w)
  | _ => c
def foldB (ak : List Int) (bs : List (List Sm)) (c : Cs) : Cs := bs.foldl (fun c b => goB ak b c) c
theorem foldB_take (ak : List Int) {bs : List (List Sm)} {i : Nat} {b : List Sm} (h : bs[i]? = some b) (c : Cs) : foldB ak (bs.take (i + 1)) c = goB ak b (foldB ak (bs.take i) c) := by
  unfold foldB
  rw [take_succ h, List.foldl_append] <;> rfl
theorem iter_fold {α β : Type} (g : β → α → α) (b : β) : ∀ (n : Nat) (a : α), (List.replicate n b).foldl (fun c x => g x c) a = iter (g b) n a
  | 0, a => rfl
  | n + 1, a => by rw [List.replicate_succ, List.foldl_cons, iter, iter_fold g b n]
theorem doS_parts (ak : List Int) (c : Cs) {s : Sm} (h : (∃ t a b, s = .ite t a b) ∨ (∃ w a b, s = .cho w a b) ∨ ∃ k b, s = .rep k b) : doS ak s c = foldB ak (partsM ak c s) (partsC ak c s) := by
  rcases h with ⟨t, a, b, rfl⟩ | ⟨w, a, b, rfl⟩ | ⟨k, b, rfl⟩
  · simp only [doS, foldB, partsM, partsC, List.foldl_cons, List.foldl_nil]
    split <;> rfl
  · simp only [doS, foldB, partsM, partsC, List.foldl_cons, List.foldl_nil]
    split <;> rfl
  · simp only [doS, foldB, partsM, partsC]
    exact (iter_fold (goB ak) b _ c).symm

/-! the dict of names -/
def EnvIs (kvs : List (Key × V)) (f : Str → Int) : Prop := ∀ x : Str, (valV kvs (Sum.inr x : Key)).getD (.int 0) = .int (f x)
theorem EnvIs.put {kvs : List (Key × V)} {f : Str → Int} (h : EnvIs kvs f) (x : Str) (i : Int) : EnvIs (putK kvs (Sum.inr x : Key) (.int i)) (setE f x i) := fun y => by
  rw [valV_put]
  unfold setE
  by_cases e : y = x
  · rw [if_pos (congrArg Sum.inr e), if_pos e] <;> rfl
  · rw [if_neg (fun z => e (Sum.inr.inj z)), if_neg e]
    exact h y
theorem putK_len (kvs : List (Key × V)) (k : Key) (v : V) : (putK kvs k v).length ≤ kvs.length + 1 := by
  unfold putK
  split
  · rw [List.length_map]
    omega
  · rw [List.length_append, List.length_singleton]
    omega

section
variable {P : Program} {w : World} {K : PySem.W.Frag} {mg : Str → Option Value} {base : Heap}
def sp_value_of (n : Nat) : Sp := fun vs H Q _ => ∃ v e d kvs f N, vs = [v, .ref d] ∧ RepE H e v ∧ okE N n e ∧ H d = some (.dK kvs) ∧ EnvIs kvs f ∧ Q (.int (evE f e)) H
theorem ok_value_of (T : Txt K mg) : ∀ n : Nat, FnOk P w K mg base CX0 (n + 1) T.value_of.f T.value_of.fd ["expression", "names"] (sp_value_of n)
  | 0 => FnOk.never fun vs H Q E ⟨v, e, d, kvs, f, N, _, _, h, _⟩ => by simp [okE] at h
  | n + 1 => by
    have G_value_of := ok_value_of T n
    refine T.value_of.F.ok sc_value_of (fun vs H Q E h => ?_) (fun cdv A outer s H vs Q E hr h => ?_)
    · obtain ⟨v, e, d, kvs, f, N, rfl, _⟩ := h
      rfl
    obtain ⟨v, e, d, kvs, f, N, rfl, hv, ho, hd, he, q⟩ := h
    refine ⟨_, (pss_cons (ps_if (pt_val (pe_callB call_isS rfl T.n_isinstance (by decide +kernel) (pa_cons (pv 0) (pa_cons (pe_bltn (v := .ty "str") (u := .type "str") rfl T.n_str (by decide +kernel) rfl) pa_nil))))
        (pss_one (ps_ret (pe_dget2 (hu_of hr) (pv 1) (pv 0) pe_int ⟨rfl, rfl, rfl, rfl⟩)))
        pss_nil)
      (pss_cons (ps_if (pt_val (pe_callB call_isI rfl T.n_isinstance (by decide +kernel) (pa_cons (pv 0) (pa_cons (pe_bltn (v := .ty "int") (u := .type "int") rfl T.n_int (by decide +kernel) rfl) pa_nil))))
        (pss_one (ps_ret (pv 0)))
        pss_nil)
      (pss_cons (ps_asg (pv 0) (pg_tup rfl (pgs_cons (pg_name (i := 2) sc_value_of.nd rfl (Or.inl rfl)) (pgs_cons (pg_name (i := 3) sc_value_of.nd rfl (Or.inl rfl)) (pgs_cons (pg_name (i := 4) sc_value_of.nd rfl (Or.inl rfl)) pgs_nil)))))
      (pss_cons (ps_if (pt_cmpR op_eq (pv 2) pe_str (nomark _))
        (pss_one (ps_ret (pe_op op_mul (pv 3) (pe_call G_value_of (hr.mono (by omega)) rfl T.value_of.g T.value_of.F.kp T.value_of.B .nil pass0 (pa_cons (pv 4) (pa_cons (pv 1) pa_nil))))))
        pss_nil)
      (pss_cons (ps_if (pt_cmpR op_eq (pv 2) pe_str (nomark _))
        (pss_one (ps_ret (pe_op op_add (pe_call G_value_of (hr.mono (by omega)) rfl T.value_of.g T.value_of.F.kp T.value_of.B .nil pass0 (pa_cons (pv 3) (pa_cons (pv 1) pa_nil))) (pe_call G_value_of (hr.mono (by omega)) rfl T.value_of.g T.value_of.F.kp T.value_of.B .nil pass0 (pa_cons (pv 4) (pa_cons (pv 1) pa_nil))))))
        pss_nil)
      (pss_one (ps_ret (pe_op op_sub (pe_call G_value_of (hr.mono (by omega)) rfl T.value_of.g T.value_of.F.kp T.value_of.B .nil pass0 (pa_cons (pv 3) (pa_cons (pv 1) pa_nil))) (pe_call G_value_of (hr.mono (by omega)) rfl T.value_of.g T.value_of.F.kp T.value_of.B .nil pass0 (pa_cons (pv 4) (pa_cons (pv 1) pa_nil))))))))))), ?_⟩
    cases e with
    | num i =>
      obtain rfl := rep_int.mp hv
      refine ⟨_, rfl, _, rfl, .inl ⟨_, rfl, _, rfl, itF (by decide +kernel) ?_⟩⟩
      refine ⟨_, rfl, _, rfl, .inl ⟨_, rfl, _, rfl, itT (by decide +kernel) ?_⟩⟩
      exact ⟨_, rfl, q⟩
    | nam x =>
      obtain rfl := rep_str.mp hv
      refine ⟨_, rfl, _, rfl, .inr (.inl ⟨_, rfl, _, rfl, itT (by decide +kernel) ?_⟩)⟩
      refine ⟨_, rfl, d, rfl, .inl ⟨_, .inl hd⟩, _, rfl, _, DGet.k (k := Sum.inr x) hd, ?_⟩
      rw [he x]
      exact q
    | bin p a b =>
      obtain ⟨r, x, y, rfl, hr0, hx, hy⟩ := RepE.bin_at hv
      simp only [okE] at ho
      refine ⟨_, rfl, _, rfl, .inr (.inr ⟨_, _, rfl, hr0, _, rfl, itF (by decide +kernel) ?_⟩)⟩
      refine ⟨_, rfl, _, rfl, .inr (.inr ⟨_, _, rfl, hr0, _, rfl, itF (by decide +kernel) ?_⟩)⟩
      refine ⟨_, rfl, r, _, rfl, SqT.of hr0, rfl, _, _, rfl, _, _, rfl, _, _, rfl, rfl, ?_⟩
      cases p with
      | true =>
        refine ⟨_, rfl, rfl, _, rfl, itF (by decide +kernel) ?_⟩
        refine ⟨_, rfl, rfl, _, rfl, itT (by decide +kernel) ?_⟩
        refine ⟨_, rfl, _, rfl, x, a, d, kvs, f, N, rfl, hx, ho.1, hd, he, ?_⟩
        exact ⟨_, rfl, _, rfl, y, b, d, kvs, f, N, rfl, hy, ho.2, hd, he, _, _, rfl, rfl, q⟩
      | false =>
        refine ⟨_, rfl, rfl, _, rfl, itF (by decide +kernel) ?_⟩
        refine ⟨_, rfl, rfl, _, rfl, itF (by decide +kernel) ?_⟩
        refine ⟨_, rfl, _, rfl, x, a, d, kvs, f, N, rfl, hx, ho.1, hd, he, ?_⟩
        exact ⟨_, rfl, _, rfl, y, b, d, kvs, f, N, rfl, hy, ho.2, hd, he, _, _, rfl, rfl, q⟩
    | tim k e =>
      obtain ⟨r, x, rfl, hr0, hx⟩ := RepE.tim_at hv
      simp only [okE] at ho
      refine ⟨_, rfl, _, rfl, .inr (.inr ⟨_, _, rfl, hr0, _, rfl, itF (by decide +kernel) ?_⟩)⟩
      refine ⟨_, rfl, _, rfl, .inr (.inr ⟨_, _, rfl, hr0, _, rfl, itF (by decide +kernel) ?_⟩)⟩
      refine ⟨_, rfl, r, _, rfl, SqT.of hr0, rfl, _, _, rfl, _, _, rfl, _, _, rfl, rfl, ?_⟩
      refine ⟨_, rfl, rfl, _, rfl, itT (by decide +kernel) ?_⟩
      exact ⟨_, rfl, _, rfl, _, rfl, x, e, d, kvs, f, N, rfl, hx, ho.2.2, hd, he, _, _, rfl, rfl, .inl ⟨by omega, by omega⟩, q⟩

def sp_is_true (n : Nat) : Sp := fun vs H Q _ => ∃ v t d kvs f N, vs = [v, .ref d] ∧ RepT H t v ∧ okT N n t ∧ H d = some (.dK kvs) ∧ EnvIs kvs f ∧ Q (.bl (evT f t)) H
theorem ok_is_true_of (T : Txt K mg) (n : Nat) (sp' : Sp) (G_is_true : FnOk P w K mg base CX0 (n + 4) T.is_true.f T.is_true.fd ["test", "names"] sp') (hG : ∀ m, n = m + 1 → sp' = sp_is_true m) :
    FnOk P w K mg base CX0 (n + 5) T.is_true.f T.is_true.fd ["test", "names"] (sp_is_true n) := by
  have G_value_of := ok_value_of (P := P) (w := w) (base := base) T 3
  refine T.is_true.F.ok sc_is_true (fun vs H Q E h => ?_) (fun cdv A outer s H vs Q E hr h => ?_)
  · obtain ⟨v, t, d, kvs, f, N, rfl, _⟩ := h
    rfl
  obtain ⟨v, t, d, kvs, f, N, rfl, hv, ho, hd, he, q⟩ := h
  refine ⟨_, (pss_cons (ps_if (pt_cmpR op_eq (pe_ix ix_tup (pv 0) pe_int (fun _ _ => rfl)) pe_str (nomark _))
        (pss_one (ps_ret (pe_not (pe_call G_is_true (hr.mono (by omega)) rfl T.is_true.g T.is_true.F.kp T.is_true.B .nil pass0 (pa_cons (pe_ix ix_tup (pv 0) pe_int (fun _ _ => rfl)) (pa_cons (pv 1) pa_nil))))))
        pss_nil)
      (pss_cons (ps_if (pt_cmpR op_eq (pe_ix ix_tup (pv 0) pe_int (fun _ _ => rfl)) pe_str (nomark _))
        (pss_one (ps_ret (pe_cmpR op_eq (pe_op op_mod (pe_call G_value_of (hr.mono (by omega)) rfl T.value_of.g T.value_of.F.kp T.value_of.B .nil pass0 (pa_cons (pe_ix ix_tup (pv 0) pe_int (fun _ _ => rfl)) (pa_cons (pv 1) pa_nil))) (pe_ix ix_tup (pv 0) pe_int (fun _ _ => rfl))) (pe_ix ix_tup (pv 0) pe_int (fun _ _ => rfl)) (nomark _))))
        pss_nil)
      (pss_one (ps_ret (pe_cmpR op_lt (pe_call G_value_of (hr.mono (by omega)) rfl T.value_of.g T.value_of.F.kp T.value_of.B .nil pass0 (pa_cons (pe_ix ix_tup (pv 0) pe_int (fun _ _ => rfl)) (pa_cons (pv 1) pa_nil))) (pe_call G_value_of (hr.mono (by omega)) rfl T.value_of.g T.value_of.F.kp T.value_of.B .nil pass0 (pa_cons (pe_ix ix_tup (pv 0) pe_int (fun _ _ => rfl)) (pa_cons (pv 1) pa_nil))) (nomark _)))))), ?_⟩
  cases t with
  | less a b =>
    obtain ⟨p, x, y, rfl, hp, hx, hy⟩ := RepT.less_at hv
    have ho' : okE N 3 a ∧ okE N 3 b := by cases n <;> simpa only [okT] using ho
    refine ⟨_, rfl, _, _, _, _, rfl, rfl, SqT.of hp, rfl, rfl, _, rfl, itF (by decide +kernel) ?_⟩
    refine ⟨_, rfl, _, _, _, _, rfl, rfl, SqT.of hp, rfl, rfl, _, rfl, itF (by decide +kernel) ?_⟩
    refine ⟨_, rfl, _, _, _, _, rfl, rfl, SqT.of hp, rfl, _, rfl, x, a, d, kvs, f, N, rfl, hx, ho'.1, hd, he, ?_⟩
    exact ⟨_, rfl, _, _, _, _, rfl, rfl, SqT.of hp, rfl, _, rfl, y, b, d, kvs, f, N, rfl, hy, ho'.2, hd, he, _, _, rfl, rfl, q⟩
  | rest e m r =>
    obtain ⟨p, x, rfl, hp, hx⟩ := RepT.rest_at hv
    have ho' : okE N 3 e ∧ 2 ≤ m := by cases n <;> (simp only [okT] at ho; exact ⟨ho.1, ho.2.1⟩)
    refine ⟨_, rfl, _, _, _, _, rfl, rfl, SqT.of hp, rfl, rfl, _, rfl, itF (by decide +kernel) ?_⟩
    refine ⟨_, rfl, _, _, _, _, rfl, rfl, SqT.of hp, rfl, rfl, _, rfl, itT (by decide +kernel) ?_⟩
    refine ⟨_, rfl, _, _, _, _, rfl, rfl, SqT.of hp, rfl, _, rfl, x, e, d, kvs, f, N, rfl, hx, ho'.1, hd, he, ?_⟩
    refine ⟨_, rfl, _, _, _, _, rfl, rfl, SqT.of hp, rfl, _, _, rfl, rfl, ?_, ?_⟩
    · show (0 : Int) < m
      omega
    refine ⟨_, rfl, _, _, _, _, rfl, rfl, SqT.of hp, rfl, rfl, ?_⟩
    exact Qbl q (by simp [evT])
  | neg t =>
    obtain ⟨p, x, rfl, hp, hx⟩ := RepT.neg_at hv
    cases n with
    | zero => simp [okT] at ho
    | succ n =>
      obtain rfl := hG n rfl
      simp only [okT] at ho
      refine ⟨_, rfl, _, _, _, _, rfl, rfl, SqT.of hp, rfl, rfl, _, rfl, itT (by decide +kernel) ?_⟩
      exact ⟨_, rfl, _, _, _, _, rfl, rfl, SqT.of hp, rfl, _, rfl, x, t, d, kvs, f, N, rfl, hx, ho, hd, he, _, rfl, q⟩
theorem ok_is_true (T : Txt K mg) : ∀ n : Nat, FnOk P w K mg base CX0 (n + 5) T.is_true.f T.is_true.fd ["test", "names"] (sp_is_true n)
  | 0 => ok_is_true_of T 0 (fun _ _ _ _ => False) (FnOk.never fun _ _ _ _ h => h) fun m h => absurd h (by omega)
  | n + 1 => ok_is_true_of T (n + 1) (sp_is_true n) (ok_is_true T n) fun m h => by
    obtain rfl : n = m := by omega
    rfl
end
end K29

set_option Elab.async false
set_option linter.all false
set_option maxRecDepth 100000
set_option maxHeartbeats 4000000
/-! ## runs: the object that runs -/
namespace K29
open PySem L2
def flds (d : Addr) (tot : Int) (t h a : Addr) (b : Bool) : List (Str × V) :=
  [("names", .ref d), ("total", .int tot), ("turns", .ref t), ("hands", .ref h), ("asked", .ref a), ("is_stopped", .bl b)]
section
variable {d t h a : Addr} {tot : Int} {b : Bool}
theorem fl_names : (flds d tot t h a b).lookup ("names" : Str) = some (V.ref d) := by rfl
theorem fl_total : (flds d tot t h a b).lookup ("total" : Str) = some (V.int tot) := by rfl
theorem fl_turns : (flds d tot t h a b).lookup ("turns" : Str) = some (V.ref t) := by rfl
theorem fl_hands : (flds d tot t h a b).lookup ("hands" : Str) = some (V.ref h) := by rfl
theorem fl_asked : (flds d tot t h a b).lookup ("asked" : Str) = some (V.ref a) := by rfl
theorem fl_stop : (flds d tot t h a b).lookup ("is_stopped" : Str) = some (V.bl b) := by rfl
theorem fl_choice : (flds d tot t h a b).lookup ("choice" : Str) = none := by rfl
theorem fl_parts : (flds d tot t h a b).lookup ("parts" : Str) = none := by rfl
theorem fl_do : (flds d tot t h a b).lookup ("do" : Str) = none := by rfl
theorem fl_go : (flds d tot t h a b).lookup ("go" : Str) = none := by rfl
theorem pf_total (z : Int) : putF "total" (.int z) (flds d tot t h a b) = flds d z t h a b := by rfl
theorem pf_stop (c : Bool) : putF "is_stopped" (.bl c) (flds d tot t h a b) = flds d tot t h a c := by rfl
theorem pf_all : putF "is_stopped" (.bl b) (putF "asked" (.ref a) (putF "hands" (.ref h) (putF "turns" (.ref t) (putF "total" (.int tot) (putF "names" (.ref d) []))))) = flds d tot t h a b := by rfl
end
structure CrsAt (C : Addr) (H : Hp) (c d t h a : Addr) (ak : List Int) (cs : Cs) (n : Nat) : Prop where
  ob : ∃ dx, H c = some (.ins C dx (flds d cs.tot t h a cs.stp))
  dc : ∃ kvs, H d = some (.dK kvs) ∧ EnvIs kvs cs.env ∧ kvs.length ≤ n + 1
  tn : H t = some (.lst (cs.trn.map V.int))
  tl : cs.trn.length ≤ n
  hd : H h = some (.lst (cs.hnd.map V.str))
  hl : cs.hnd.length ≤ n
  th : t ≠ h
  akd : H a = some (.tup (ak.map V.int))
  bits : ∀ i ∈ ak, i = 0 ∨ i = 1
section
variable {C c d t h a : Addr} {ak : List Int} {cs : Cs} {n m : Nat} {H H' : Hp}
theorem CrsAt.mono (x : CrsAt C H c d t h a ak cs n) (hn : n ≤ m) : CrsAt C H c d t h a ak cs m := by
  obtain ⟨kvs, h1, h2, h3⟩ := x.dc
  exact ⟨x.ob, ⟨kvs, h1, h2, by omega⟩, x.tn, Nat.le_trans x.tl hn, x.hd, Nat.le_trans x.hl hn, x.th, x.akd, x.bits⟩
theorem CrsAt.sm (x : CrsAt C H c d t h a ak cs n) (s : Same H H') : CrsAt C H' c d t h a ak cs n := by
  obtain ⟨kvs, h1, h2, h3⟩ := x.dc
  obtain ⟨dx, h4⟩ := x.ob
  exact ⟨⟨dx, s _ _ h4⟩, ⟨kvs, s _ _ h1, h2, h3⟩, s _ _ x.tn, x.tl, s _ _ x.hd, x.hl, x.th, s _ _ x.akd, x.bits⟩
theorem Cs.nxt_bit (hb : ∀ i ∈ ak, i = 0 ∨ i = 1) : cs.nxt ak = 0 ∨ cs.nxt ak = 1 := by
  unfold Cs.nxt
  rw [List.getD_eq_getElem?_getD]
  cases e : ak[cs.trn.length]? with
  | none => exact .inl rfl
  | some i => exact hb i (List.mem_of_getElem? e)
end
section
variable {P : Program} {w : World} {K : PySem.W.Frag} {mg : Str → Option Value} {base : Heap}

def sp_choice (C : Addr) : Sp := fun vs H Q _ => ∃ (c d t h a : Addr) (ak : List Int) (cs : Cs) (n : Nat) (x : Str), vs = [.ref c, .str x] ∧ CrsAt C H c d t h a ak cs n ∧ n ≤ 1000 ∧
  ∀ H', CrsAt C H' c d t h a ak (cs.cho ak x) (n + 1) → Kp [c, d, t, h] H H' → Q (.int (cs.nxt ak)) H'
theorem ok_choice (T : Txt K mg) : FnOk P w K mg base CX0 1 T.choice.f T.choice.fd ["self", "hand"] (sp_choice T.C) := by
  refine T.choice.F.ok sc_choice (fun vs H Q E h => ?_) (fun cdv A outer s H vs Q E hr h => ?_)
  · obtain ⟨c, d, t, h, a, ak, cs, n, x, rfl, _⟩ := h
    rfl
  obtain ⟨c, d, t, h, a, ak, cs, n, x, rfl, X, hn, q⟩ := h
  refine ⟨_, (pss_cons (ps_set (i := 2) sc_choice.nd rfl (Or.inl rfl) (pe_callB call_len_seq rfl T.n_len (by decide +kernel) (pa_cons (pe_fld (pv 0) rfl) pa_nil)))
      (pss_cons (ps_set (i := 3) sc_choice.nd rfl (Or.inl rfl) (pe_ifExp (pt_cmpR op_lt (pv 2) (pe_callB call_len_seq rfl T.n_len (by decide +kernel) (pa_cons (pe_fld (pv 0) rfl) pa_nil)) (nomark _)) (pe_ix ix_tup (pe_fld (pv 0) rfl) (pv 2) (fun _ _ => rfl)) (pe_glob rfl T.g_FIRST.e T.g_FIRST.r)))
      (pss_cons (ps_expr (pe_bm PySem.F.plainAttrs_list PySem.F.slot_list_append PySem.F.type_list_append mt_append (pe_fld (pv 0) rfl) (pa_cons (pv 3) pa_nil)))
      (pss_cons (ps_expr (pe_bm PySem.F.plainAttrs_list PySem.F.slot_list_append PySem.F.type_list_append mt_append (pe_fld (pv 0) rfl) (pa_cons (pv 1) pa_nil)))
      (pss_one (ps_ret (pv 3))))))), ?_⟩
  obtain ⟨dx, ob⟩ := X.ob
  -- many = len(self.turns)
  refine ⟨_, rfl, c, T.C, dx, _, _, rfl, ob, T.cl, T.no_turns, fl_turns, _, _, rfl, .inl (SqL.of X.tn), ?_⟩
  -- the two appends
  have rest : ∀ z : Int, z = cs.nxt ak →
      tSeq (tDrop (tBM K "list" rAppend (tFld K (tVar 0) "turns") (tCons (tVar 3) tNil))) (tSeq (tDrop (tBM K "list" rAppend (tFld K (tVar 0) "hands") (tCons (tVar 1) tNil))) (tRet (tVar 3)))
        { nx := fun _ H' => Q .non H', rt := Q } [some (.ref c), some (.str x), some (.int ((cs.trn.map V.int).length : Nat)), some (.int z)] H := fun z ez => by
    have lt := X.tl
    have lh := X.hl
    refine ⟨_, rfl, c, T.C, dx, _, _, rfl, ob, T.cl, T.no_turns, fl_turns, .inl ⟨rfl, _, .inl (.inl X.tn)⟩, _, rfl, t, _, _, rfl, rfl, X.tn, small1000 (by rw [List.length_map]; omega), ?_⟩
    have nct : c ≠ t := ne_of ob X.tn (by intro z; cases z)
    have hd1 : (upd H t (.lst (cs.trn.map V.int ++ [.int z]))) h = some (.lst (cs.hnd.map V.str)) := by rw [upd_ne (Ne.symm X.th)]; exact X.hd
    refine ⟨_, rfl, c, T.C, dx, _, _, rfl, by rw [upd_ne nct]; exact ob, T.cl, T.no_hands, fl_hands, .inl ⟨rfl, _, .inl (.inl hd1)⟩, _, rfl, h, _, _, rfl, rfl, hd1, small1000 (by rw [List.length_map]; omega), ?_⟩
    have nch : c ≠ h := ne_of ob X.hd (by intro z; cases z)
    obtain ⟨kvs, e1, e2, e3⟩ := X.dc
    have ndt : d ≠ t := ne_of e1 X.tn (by intro z; cases z)
    have ndh : d ≠ h := ne_of e1 X.hd (by intro z; cases z)
    have nat : a ≠ t := ne_of X.akd X.tn (by intro z; cases z)
    have nah : a ≠ h := ne_of X.akd X.hd (by intro z; cases z)
    refine ⟨_, rfl, ?_⟩
    refine Qint (q _ ⟨⟨dx, ?_⟩, ⟨kvs, ?_, e2, by omega⟩, ?_, ?_, ?_, ?_, X.th, ?_, X.bits⟩ ?_) ez.symm
    · rw [upd_ne nch, upd_ne nct]
      exact ob
    · rw [upd_ne ndh, upd_ne ndt]
      exact e1
    · rw [upd_ne X.th, upd_same, ez, Cs.cho, List.map_append] <;> rfl
    · rw [Cs.cho, List.length_append, List.length_singleton]
      omega
    · rw [upd_same, Cs.cho, List.map_append] <;> rfl
    · rw [Cs.cho, List.length_append, List.length_singleton]
      omega
    · rw [upd_ne nah, upd_ne nat]
      exact X.akd
    · exact (Kp.putL (by simp) X.tn _).trans (Kp.putL (by simp) hd1 _)
  -- found
  refine ⟨_, rfl, _, rfl, c, T.C, dx, _, _, rfl, ob, T.cl, T.no_asked, fl_asked, _, _, rfl, .inr (SqT.of X.akd), _, _, rfl, rfl, _, rfl, ?_⟩
  by_cases hlt : cs.trn.length < ak.length
  · refine itT (decide_eq_true (by rw [List.length_map, List.length_map]; omega)) ?_
    have ev : ak[cs.trn.length]? = some (cs.nxt ak) := by
      unfold Cs.nxt
      rw [List.getD_eq_getElem?_getD, List.getElem?_eq_getElem hlt] <;> rfl
    refine ⟨_, rfl, c, T.C, dx, _, _, rfl, ob, T.cl, T.no_asked, fl_asked, _, rfl, a, _, _, .int (cs.nxt ak), rfl, rfl, SqT.of X.akd, at_ok (by rw [List.length_map, List.getElem?_map, ev] <;> rfl), ?_⟩
    exact rest _ rfl
  · refine itF (decide_eq_false (by rw [List.length_map, List.length_map]; omega)) ?_
    refine rest 0 ?_
    unfold Cs.nxt
    rw [List.getD_eq_getElem?_getD, List.getElem?_eq_none (by omega)] <;> rfl

theorem RepBs.rep {H : Hp} {b : List Sm} {p : Addr} {xs : List V} (hp : H p = some (.tup xs)) (hx : RepSs H b xs) : ∀ n : Nat, RepBs H (List.replicate n b) (List.replicate n [V.ref p]).flatten
  | 0 => rfl
  | n + 1 => by
    rw [List.replicate_succ, List.replicate_succ, List.flatten_cons]
    exact ⟨p, xs, _, rfl, hp, hx, RepBs.rep hp hx n⟩
def isCmp (s : Sm) : Prop := (∃ t a b, s = .ite t a b) ∨ (∃ w a b, s = .cho w a b) ∨ ∃ k b, s = .rep k b
def sp_parts (C : Addr) : Sp := fun vs H Q _ => ∃ (c d t h a : Addr) (ak : List Int) (cs : Cs) (n : Nat) (v : V) (s : Sm) (N : Str → Prop) (k : Nat), vs = [.ref c, v] ∧ CrsAt C H c d t h a ak cs n ∧ n ≤ 1000 ∧ RepS H s v ∧ okS N k s ∧ isCmp s ∧
  ∀ H' l xs, CrsAt C H' c d t h a ak (partsC ak cs s) (n + 1) → Kp [c, d, t, h] H H' → H l = none → H' l = some (.lst xs) → RepBs H' (partsM ak cs s) xs → Q (.ref l) H'
theorem ok_parts (T : Txt K mg) : FnOk P w K mg base CX0 8 T.parts.f T.parts.fd ["self", "statement"] (sp_parts T.C) := by
  have G_choice := ok_choice (P := P) (w := w) (base := base) T
  have G_is_true := ok_is_true (P := P) (w := w) (base := base) T 2
  refine T.parts.F.ok sc_parts (fun vs H Q E h => ?_) (fun cdv A outer s H vs Q E hr h => ?_)
  · obtain ⟨c, d, t, h, a, ak, cs, n, v, s, N, k, rfl, _⟩ := h
    rfl
  obtain ⟨c, d, t, h, a, ak, cs, n, v, st, N, k, rfl, X, hn, hv, ho, hc, q⟩ := h
  refine ⟨_, (pss_cons (ps_if (pt_cmpR op_in_seq (pe_ix ix_tup (pv 1) pe_int (fun _ _ => rfl)) (pe_glob (v := .ref T.aCHOICES) rfl T.g_CHOICES rfl) rfl)
        (pss_one (ps_ret (pe_lst (pa_cons (pe_ix ix_tup (pv 1) (pe_op op_add pe_int (pe_meth (pv 0) T.cl T.choice.m G_choice (hr.mono (by omega)) T.choice.B .nil pass0 (pa_cons (pe_ix ix_tup (pv 1) pe_int (fun _ _ => rfl)) pa_nil))) (fun _ _ => rfl)) pa_nil))))
        pss_nil)
      (pss_cons (ps_if (pt_cmpR op_eq (pe_ix ix_tup (pv 1) pe_int (fun _ _ => rfl)) pe_str (nomark _))
        (pss_one (ps_ret (pe_lst (pa_cons (pe_ifExp (pt_val (pe_call G_is_true (hr.mono (by omega)) rfl T.is_true.g T.is_true.F.kp T.is_true.B .nil pass0 (pa_cons (pe_ix ix_tup (pv 1) pe_int (fun _ _ => rfl)) (pa_cons (pe_fld (pv 0) rfl) pa_nil)))) (pe_ix ix_tup (pv 1) pe_int (fun _ _ => rfl)) (pe_ix ix_tup (pv 1) pe_int (fun _ _ => rfl))) pa_nil))))
        pss_nil)
      (pss_one (ps_ret (pe_op op_rep (pe_lst (pa_cons (pe_ix ix_tup (pv 1) pe_int (fun _ _ => rfl)) pa_nil)) (pe_ix ix_tup (pv 1) pe_int (fun _ _ => rfl))))))), ?_⟩
  obtain ⟨dx, ob⟩ := X.ob
  cases k with
  | zero => simp [okS] at ho
  | succ k =>
  rcases hc with ⟨te, b1, b2, rfl⟩ | ⟨we, b1, b2, rfl⟩ | ⟨m, b1, rfl⟩
  · obtain ⟨p, x, p1, p2, xs, ys, rfl, hp, hx, h1, r1, h2, r2⟩ := RepS.ite_at hv
    simp only [okS] at ho
    obtain ⟨kvs, e1, e2, e3⟩ := X.dc
    refine ⟨_, rfl, _, _, _, _, rfl, rfl, SqT.of hp, rfl, _, _, rfl, .inr (T.CHOICES _), rfl, by decide +kernel, _, rfl, itF (by decide +kernel) ?_⟩
    refine ⟨_, rfl, _, _, _, _, rfl, rfl, SqT.of hp, rfl, rfl, _, rfl, itT (by decide +kernel) ?_⟩
    refine ⟨_, rfl, _, _, _, _, rfl, rfl, SqT.of hp, rfl, _, rfl, c, T.C, dx, _, _, rfl, ob, T.cl, T.no_names, fl_names, x, te, d, kvs, cs.env, N, rfl, hx, ho.1, e1, e2, _, rfl, ?_⟩
    cases et : evT cs.env te with
    | true =>
      refine itT rfl ⟨_, rfl, _, _, _, _, rfl, rfl, SqT.of hp, rfl, by show 1 ≤ sizeLine; decide, fun l hl => ?_⟩
      have s1 := Same.new hl (.lst [.ref p1])
      refine q _ l _ ((X.sm s1).mono (by omega)) (.of_same s1) hl upd_same ⟨p1, xs, [], rfl, s1 _ _ h1, ?_, rfl⟩
      rw [et, if_pos rfl]
      exact RepL.sm r1 s1
    | false =>
      refine itF rfl ⟨_, rfl, _, _, _, _, rfl, rfl, SqT.of hp, rfl, by show 1 ≤ sizeLine; decide, fun l hl => ?_⟩
      have s1 := Same.new hl (.lst [.ref p2])
      refine q _ l _ ((X.sm s1).mono (by omega)) (.of_same s1) hl upd_same ⟨p2, ys, [], rfl, s1 _ _ h2, ?_, rfl⟩
      rw [et, if_neg Bool.false_ne_true]
      exact RepL.sm r2 s1
  · obtain ⟨p, p1, p2, xs, ys, rfl, hp, h1, r1, h2, r2⟩ := RepS.cho_at hv
    refine ⟨_, rfl, _, _, _, _, rfl, rfl, SqT.of hp, rfl, _, _, rfl, .inr (T.CHOICES _), rfl, by decide +kernel, _, rfl, itT (by cases we <;> decide +kernel) ?_⟩
    refine ⟨_, rfl, _, rfl, c, dx, _, rfl, ob, fl_choice, _, rfl, _, _, _, _, rfl, rfl, SqT.of hp, rfl, c, d, t, h, a, ak, cs, n, _, rfl, X, hn, fun H1 X1 k1 => ⟨_, _, rfl, rfl, ?_⟩⟩
    have hp1 := k1.tups _ _ hp
    rcases Cs.nxt_bit (cs := cs) X.bits with ez | ez
    · rw [ez]
      refine ⟨_, _, _, _, rfl, rfl, SqT.of hp1, rfl, by show 1 ≤ sizeLine; decide, fun l hl => ?_⟩
      have s1 := Same.new hl (.lst [.ref p1])
      refine q _ l _ (X1.sm s1) (k1.trans (.of_same s1)) ?_ upd_same ⟨p1, xs, [], rfl, s1 _ _ (k1.tups _ _ h1), ?_, rfl⟩
      · cases e : H l with
        | none => rfl
        | some o =>
          by_cases hm : l ∈ [c, d, t, h]
          · exfalso
            obtain ⟨dx1, o1⟩ := X1.ob
            obtain ⟨kv1, o2, _⟩ := X1.dc
            simp only [List.mem_cons, List.not_mem_nil, or_false] at hm
            rcases hm with z | z | z | z
            · rw [z, o1] at hl; cases hl
            · rw [z, o2] at hl; cases hl
            · rw [z, X1.tn] at hl; cases hl
            · rw [z, X1.hd] at hl; cases hl
          · rw [k1.keep l o e hm] at hl
            cases hl
      · rw [if_pos ez]
        exact RepL.sm (RepL.kp r1 k1) s1
    · rw [ez]
      refine ⟨_, _, _, _, rfl, rfl, SqT.of hp1, rfl, by show 1 ≤ sizeLine; decide, fun l hl => ?_⟩
      have s1 := Same.new hl (.lst [.ref p2])
      refine q _ l _ (X1.sm s1) (k1.trans (.of_same s1)) ?_ upd_same ⟨p2, ys, [], rfl, s1 _ _ (k1.tups _ _ h2), ?_, rfl⟩
      · cases e : H l with
        | none => rfl
        | some o =>
          by_cases hm : l ∈ [c, d, t, h]
          · exfalso
            obtain ⟨dx1, o1⟩ := X1.ob
            obtain ⟨kv1, o2, _⟩ := X1.dc
            simp only [List.mem_cons, List.not_mem_nil, or_false] at hm
            rcases hm with z | z | z | z
            · rw [z, o1] at hl; cases hl
            · rw [z, o2] at hl; cases hl
            · rw [z, X1.tn] at hl; cases hl
            · rw [z, X1.hd] at hl; cases hl
          · rw [k1.keep l o e hm] at hl
            cases hl
      · rw [if_neg (by omega)]
        exact RepL.sm (RepL.kp r2 k1) s1
  · obtain ⟨p, p1, xs, rfl, hp, h1, r1⟩ := RepS.rep_at hv
    simp only [okS] at ho
    refine ⟨_, rfl, _, _, _, _, rfl, rfl, SqT.of hp, rfl, _, _, rfl, .inr (T.CHOICES _), rfl, by decide +kernel, _, rfl, itF (by decide +kernel) ?_⟩
    refine ⟨_, rfl, _, _, _, _, rfl, rfl, SqT.of hp, rfl, rfl, _, rfl, itF (by decide +kernel) ?_⟩
    refine ⟨_, rfl, _, _, _, _, rfl, rfl, SqT.of hp, rfl, by show 1 ≤ sizeLine; decide, fun l0 hl0 => ?_⟩
    have s0 := Same.new hl0 (.lst [.ref p1])
    refine ⟨_, rfl, _, _, _, _, rfl, rfl, SqT.of (s0 _ _ hp), rfl, l0, m, _, rfl, rfl, upd_same, by omega, by omega, small ?_, fun l hl => ?_⟩
    · rw [List.length_singleton]
      omega
    have s1 := s0.trans (Same.new hl (.lst (List.replicate m.toNat [V.ref p1]).flatten))
    exact q _ l _ ((X.sm s1).mono (by omega)) (.of_same s1) (s0.free hl) upd_same (RepBs.rep (s1 _ _ h1) (RepL.sm r1 s1) _)
end
end K29

set_option Elab.async false
set_option linter.all false
set_option maxRecDepth 100000
set_option maxHeartbeats 4000000
/-! ## runs: do, go, run -/
namespace K29
open PySem L2
theorem CrsAt.fresh {C c d t h a : Addr} {ak : List Int} {cs : Cs} {n : Nat} {H H1 : Hp} (X : CrsAt C H1 c d t h a ak cs n) (k : Kp [c, d, t, h] H H1) {l : Addr} (hl : H1 l = none) : H l = none := by
  cases e : H l with
  | none => rfl
  | some o =>
    by_cases hm : l ∈ [c, d, t, h]
    · exfalso
      obtain ⟨dx1, o1⟩ := X.ob
      obtain ⟨kv1, o2, _⟩ := X.dc
      simp only [List.mem_cons, List.not_mem_nil, or_false] at hm
      rcases hm with z | z | z | z
      · rw [z, o1] at hl; cases hl
      · rw [z, o2] at hl; cases hl
      · rw [z, X.tn] at hl; cases hl
      · rw [z, X.hd] at hl; cases hl
    · rw [k.keep l o e hm] at hl
      cases hl
theorem cntL_sum (f : Nat) : ∀ bs : List (List Sm), cntL f bs.flatten = (bs.map (cntL f)).sum
  | [] => by simp [cntL]
  | b :: r => by rw [List.flatten_cons, cntL_append, List.map_cons, List.sum_cons, cntL_sum f r]
/-- the parts weigh no more than the statement -/
theorem parts_w (ak : List Int) (c : Cs) {s : Sm} (h : isCmp s) : cntL 0 (partsM ak c s).flatten + 1 ≤ cntS 0 s := by
  rcases h with ⟨t, a, b, rfl⟩ | ⟨w, a, b, rfl⟩ | ⟨k, b, rfl⟩
  · simp only [partsM, cntS, own, List.flatten_cons, List.flatten_nil, List.append_nil]
    split <;> omega
  · simp only [partsM, cntS, own, List.flatten_cons, List.flatten_nil, List.append_nil]
    split <;> omega
  · simp only [partsM, cntS, own]
    have : ∀ n : Nat, cntL 0 (List.replicate n b).flatten = cntL 0 b * n := fun n => by
      induction n with
      | zero => simp [cntL]
      | succ n ih => rw [List.replicate_succ, List.flatten_cons, cntL_append, ih, Nat.mul_succ, Nat.add_comm]
    rw [this]
    omega
theorem okL_parts {N : Str → Prop} {n : Nat} {s : Sm} (ak : List Int) (c : Cs) (h : okS N (n + 1) s) : ∀ b ∈ partsM ak c s, okL N n b := by
  intro b hb
  cases s <;> simp [partsM] at hb <;> simp only [okS] at h
  · subst hb
    split
    · exact h.2.1
    · exact h.2.2
  · subst hb
    split
    · exact h.1
    · exact h.2
  · rw [hb.2]
    exact h.2.2
theorem len_take_w (bs : List (List Sm)) {i : Nat} {b : List Sm} (h : bs[i]? = some b) : cntL 0 (bs.take (i + 1)).flatten = cntL 0 (bs.take i).flatten + cntL 0 b ∧ cntL 0 (bs.take (i + 1)).flatten ≤ cntL 0 bs.flatten := by
  constructor
  · rw [take_succ h, List.flatten_append, cntL_append]
    simp
  · have := congrArg (fun l : List (List Sm) => cntL 0 l.flatten) (List.take_append_drop (i + 1) bs)
    simp only [List.flatten_append, cntL_append] at this
    omega
theorem cntL_take_le (ss : List Sm) (i : Nat) : cntL 0 (ss.take i) ≤ cntL 0 ss := by
  have := congrArg (cntL 0) (List.take_append_drop i ss)
  rw [cntL_append] at this
  omega
section
variable {P : Program} {w : World} {K : PySem.W.Frag} {mg : Str → Option Value} {base : Heap}

def sp_do (C : Addr) (k : Nat) : Sp := fun vs H Q _ => ∃ (c d t h a : Addr) (ak : List Int) (cs : Cs) (n : Nat) (v : V) (s : Sm) (N : Str → Prop), vs = [.ref c, v] ∧ CrsAt C H c d t h a ak cs n ∧ RepS H s v ∧ okS N k s ∧ n + cntS 0 s ≤ 1000 ∧
  ∀ H', CrsAt C H' c d t h a ak (doS ak s cs) (n + cntS 0 s) → Kp [c, d, t, h] H H' → Q .non H'
def sp_go (C : Addr) (k : Nat) : Sp := fun vs H Q _ => ∃ (c d t h a : Addr) (ak : List Int) (cs : Cs) (n : Nat) (v : V) (ss : List Sm) (N : Str → Prop), vs = [.ref c, v] ∧ CrsAt C H c d t h a ak cs n ∧ RepB H ss v ∧ okL N k ss ∧ n + cntL 0 ss ≤ 1000 ∧
  ∀ H', CrsAt C H' c d t h a ak (goB ak ss cs) (n + cntL 0 ss) → Kp [c, d, t, h] H H' → Q .non H'
theorem ok_go_of (T : Txt K mg) (k : Nat) (G_mdo : FnOk P w K mg base CX0 (9 + 2 * k) T.mdo.f T.mdo.fd ["self", "statement"] (sp_do T.C k)) : FnOk P w K mg base CX0 (10 + 2 * k) T.go.f T.go.fd ["self", "block"] (sp_go T.C k) := by
  have e9 : 10 + 2 * k = 9 + 2 * k + 1 := by omega
  rw [e9]
  refine T.go.F.ok sc_go (fun vs H Q E h => ?_) (fun cdv A outer s H vs Q E hr h => ?_)
  · obtain ⟨c, d, t, h, a, ak, cs, n, v, ss, N, rfl, _⟩ := h
    rfl
  obtain ⟨c, d, t, h, a, ak, cs, n, v, ss, N, rfl, X, hv, ho, hn, q⟩ := h
  refine ⟨_, (pss_one (ps_for PassesOwn.never rfl (pi_tup (pv 1)) (pg_name (i := 2) sc_go.nd rfl (Or.inl rfl))
        (pss_one (ps_if (pt_not (pt_val (pe_fld (pv 0) rfl)))
          (pss_one (ps_expr (pe_meth (pv 0) T.cl T.mdo.m G_mdo (hr.mono (by omega)) T.mdo.B .nil pass0 (pa_cons (pv 2) pa_nil))))
          pss_nil)))), ?_⟩
  obtain ⟨p, ys, rfl, hp, hys⟩ := hv.at_
  refine ⟨_, rfl, p, rfl, ⟨ys, SqT.of hp⟩, ?_⟩
  refine for_it (walk_tup (K := K) (xs := ys)) (fun i σ H3 => ∃ o, σ = [some (.ref c), some (.ref p), o] ∧ CrsAt T.C H3 c d t h a ak (goB ak (ss.take i) cs) (n + cntL 0 (ss.take i)) ∧ Kp [c, d, t, h] H H3)
    ?_ (fun i σ H3 _ ⟨_, _, _, k3⟩ => SqT.of (k3.tups _ _ hp)) ?_ ?_
  · refine ⟨none, rfl, ?_, Kp.refl _ _⟩
    simpa only [List.take_zero, goB, cntL, Nat.add_zero] using X
  · rintro i y σ H3 H4 hi ⟨o, rfl, X3, k3⟩ ⟨rfl, hy⟩
    obtain ⟨st, hst, rst⟩ := RepSs.get hys hy
    have ho1 : okS N k st := (okL_iff.mp ho) st (List.mem_of_getElem? hst)
    obtain ⟨dx, ob⟩ := X3.ob
    have hc := cntL_take (f := 0) hst
    have hle := cntL_take_le ss (i + 1)
    refine ⟨_, rfl, c, T.C, dx, _, _, rfl, ob, T.cl, T.no_is_stopped, fl_stop, _, rfl, ?_⟩
    cases es : (goB ak (ss.take i) cs).stp with
    | true =>
      refine itF rfl ⟨_, rfl, ?_, k3⟩
      rw [goB_take ak hst, if_pos es]
      exact X3.mono (by omega)
    | false =>
      refine itT rfl ⟨_, rfl, c, dx, _, rfl, ob, fl_do, _, rfl, c, d, t, h, a, ak, _, _, y, st, N, rfl, X3, Rep.kp rst k3, ho1, by omega, fun H5 X5 k5 => ?_⟩
      refine ⟨_, rfl, ?_, k3.trans k5⟩
      rw [goB_take ak hst, if_neg (by rw [es]; exact Bool.false_ne_true)]
      exact X5.mono (by omega)
  · rintro σ H3 ⟨o, rfl, X3, k3⟩
    rw [show ys.length = ss.length from RepSs.len hys, List.take_length] at X3
    exact q _ X3 k3

theorem ok_do_of (T : Txt K mg) (k : Nat) (G_go : FnOk P w K mg base CX0 (10 + 2 * k) T.go.f T.go.fd ["self", "block"] (sp_go T.C k)) : FnOk P w K mg base CX0 (9 + 2 * (k + 1)) T.mdo.f T.mdo.fd ["self", "statement"] (sp_do T.C (k + 1)) := by
  have e9 : 9 + 2 * (k + 1) = 10 + 2 * k + 1 := by omega
  rw [e9]
  have G_value_of := ok_value_of (P := P) (w := w) (base := base) T 3
  have G_parts := ok_parts (P := P) (w := w) (base := base) T
  refine T.mdo.F.ok sc_mdo (fun vs H Q E h => ?_) (fun cdv A outer s H vs Q E hr h => ?_)
  · obtain ⟨c, d, t, h, a, ak, cs, n, v, st, N, rfl, _⟩ := h
    rfl
  obtain ⟨c, d, t, h, a, ak, cs, n, v, st, N, rfl, X, hv, ho, hn, q⟩ := h
  refine ⟨_, (pss_one (ps_if (pt_cmpR op_eq (pe_ix ix_tup (pv 1) pe_int (fun _ _ => rfl)) pe_str (nomark _))
        (pss_one (ps_dput (hu_of hr) (pe_fld (pv 0) rfl) (pe_ix ix_tup (pv 1) pe_int (fun _ _ => rfl)) (pe_call G_value_of (hr.mono (by omega)) rfl T.value_of.g T.value_of.F.kp T.value_of.B .nil pass0 (pa_cons (pe_ix ix_tup (pv 1) pe_int (fun _ _ => rfl)) (pa_cons (pe_fld (pv 0) rfl) pa_nil))) rfl))
        (pss_one (ps_if (pt_cmpR op_eq (pe_ix ix_tup (pv 1) pe_int (fun _ _ => rfl)) pe_str (nomark _))
          (pss_one (ps_fldaug (pv 0) (pe_call G_value_of (hr.mono (by omega)) rfl T.value_of.g T.value_of.F.kp T.value_of.B .nil pass0 (pa_cons (pe_ix ix_tup (pv 1) pe_int (fun _ _ => rfl)) (pa_cons (pe_fld (pv 0) rfl) pa_nil))) in_add))
          (pss_one (ps_if (pt_cmpR op_eq (pe_ix ix_tup (pv 1) pe_int (fun _ _ => rfl)) pe_str (nomark _))
            (pss_one (ps_fld (pv 0) pe_bl rfl))
            (pss_one (ps_for PassesOwn.never rfl (pi_list (pe_meth (pv 0) T.cl T.parts.m G_parts (hr.mono (by omega)) T.parts.B .nil pass0 (pa_cons (pv 1) pa_nil))) (pg_name (i := 2) sc_mdo.nd rfl (Or.inl rfl))
              (pss_one (ps_expr (pe_meth (pv 0) T.cl T.go.m G_go (hr.mono (by omega)) T.go.B .nil pass0 (pa_cons (pv 2) pa_nil)))))))))))), ?_⟩
  obtain ⟨dx, ob⟩ := X.ob
  obtain ⟨kvs, e1, e2, e3⟩ := X.dc
  have ncd : c ≠ d := ne_of ob e1 (by intro z; cases z)
  have ndt : d ≠ t := ne_of e1 X.tn (by intro z; cases z)
  have ndh : d ≠ h := ne_of e1 X.hd (by intro z; cases z)
  have nda : d ≠ a := ne_of e1 X.akd (by intro z; cases z)
  have nct : c ≠ t := ne_of ob X.tn (by intro z; cases z)
  have nch : c ≠ h := ne_of ob X.hd (by intro z; cases z)
  have nca : c ≠ a := ne_of ob X.akd (by intro z; cases z)
  -- a compound statement: what is common
  have cmp : isCmp st → ∀ (p : Addr) (xs : List V), v = .ref p →
      tFor (iList K (tMeth T.C "parts" (sp_parts T.C) [] E0 (tVar 0) (tCons (tVar 1) tNil))) (gName 2)
        (tDrop (tMeth T.C "go" (sp_go T.C k) [] E0 (tVar 0) (tCons (tVar 2) tNil))) { nx := fun _ H' => Q .non H', rt := Q } [some (.ref c), some v, none] H := fun hc p xs ev => by
    have hpw := parts_w ak cs hc
    refine ⟨_, rfl, c, dx, _, rfl, ob, fl_parts, _, rfl, c, d, t, h, a, ak, cs, n, v, st, N, k + 1, rfl, X, by omega, hv, ho, hc, fun H1 l bs X1 k1 hl el hbs => ⟨l, rfl, ⟨bs, SqL.of el⟩, ?_⟩⟩
    refine for_it (walk_list (K := K) (xs := bs)) (fun i σ H3 => ∃ o, σ = [some (.ref c), some v, o] ∧ CrsAt T.C H3 c d t h a ak (foldB ak ((partsM ak cs st).take i) (partsC ak cs st)) (n + 1 + cntL 0 ((partsM ak cs st).take i).flatten) ∧
      Kp [c, d, t, h] H1 H3 ∧ H3 l = some (.lst bs)) ?_ (fun i σ H3 _ ⟨_, _, _, _, e⟩ => SqL.of e) ?_ ?_
    · refine ⟨none, rfl, ?_, Kp.refl _ _, el⟩
      simpa only [List.take_zero, foldB, List.foldl_nil, List.flatten_nil, cntL, Nat.add_zero] using X1
    · rintro i y σ H3 H4 hi ⟨o, rfl, X3, k3, e3⟩ ⟨rfl, hy⟩
      obtain ⟨b, pb, us, hb, rfl, hpb, rb⟩ := hbs.get hy
      obtain ⟨dx3, ob3⟩ := X3.ob
      obtain ⟨w1, w2⟩ := len_take_w _ hb
      have nl : l ∉ [c, d, t, h] := fun hm => by
        simp only [List.mem_cons, List.not_mem_nil, or_false] at hm
        rcases hm with z | z | z | z
        · rw [z, ob3] at e3; cases e3
        · obtain ⟨kv3, o2, _⟩ := X3.dc
          rw [z, o2] at e3; cases e3
        · rw [z, X.tn] at hl; cases hl
        · rw [z, X.hd] at hl; cases hl
      refine ⟨_, rfl, c, dx3, _, rfl, ob3, fl_go, _, rfl, c, d, t, h, a, ak, _, _, _, b, N, rfl, X3, RepB.mk (k3.tups _ _ hpb) (RepL.kp rb k3), okL_parts ak cs ho b (List.mem_of_getElem? hb), by omega, fun H5 X5 k5 => ?_⟩
      refine ⟨_, rfl, ?_, k3.trans k5, k5.keep _ _ e3 nl⟩
      rw [foldB_take ak hb]
      exact X5.mono (by omega)
    · rintro σ H3 ⟨o, rfl, X3, k3, _⟩
      rw [hbs.len, List.take_length, ← doS_parts ak cs hc] at X3
      exact q _ (X3.mono (by omega)) (k1.trans k3)
  cases st with
  | set x e =>
    obtain ⟨p, y, rfl, hp, hy⟩ := RepS.set_at hv
    simp only [okS] at ho
    have h1 : cntS 0 (.set x e) = 1 := by simp [cntS, own]
    refine ⟨_, rfl, _, _, _, _, rfl, rfl, SqT.of hp, rfl, rfl, _, rfl, itT (by decide +kernel) ?_⟩
    refine ⟨_, rfl, _, _, _, _, rfl, rfl, SqT.of hp, rfl, _, rfl, c, T.C, dx, _, _, rfl, ob, T.cl, T.no_names, fl_names, y, e, d, kvs, cs.env, N, rfl, hy, ho.2, e1, e2, ?_⟩
    refine ⟨_, rfl, c, T.C, dx, _, _, rfl, ob, T.cl, T.no_names, fl_names, _, rfl, _, _, _, _, rfl, rfl, SqT.of hp, rfl, d, _, rfl, DPut.k (k := Sum.inr x) e1 (small1000 (by omega)), ?_⟩
    have hpl := putK_len kvs (Sum.inr x : Key) (.int (evE cs.env e))
    refine q _ ⟨⟨dx, ?_⟩, ⟨_, upd_same, ?_, ?_⟩, ?_, ?_, ?_, ?_, X.th, ?_, X.bits⟩ (Kp.put (by simp) (fun xs z => by rw [e1] at z; cases z) _)
    · rw [upd_ne ncd]
      exact ob
    · exact e2.put x _
    · simp only [cntS, own]
      omega
    · rw [upd_ne (Ne.symm ndt)]
      exact X.tn
    · exact Nat.le_trans X.tl (by omega)
    · rw [upd_ne (Ne.symm ndh)]
      exact X.hd
    · exact Nat.le_trans X.hl (by omega)
    · rw [upd_ne (Ne.symm nda)]
      exact X.akd
  | pay e =>
    obtain ⟨p, y, rfl, hp, hy⟩ := RepS.pay_at hv
    simp only [okS] at ho
    refine ⟨_, rfl, _, _, _, _, rfl, rfl, SqT.of hp, rfl, rfl, _, rfl, itF (by decide +kernel) ?_⟩
    refine ⟨_, rfl, _, _, _, _, rfl, rfl, SqT.of hp, rfl, rfl, _, rfl, itT (by decide +kernel) ?_⟩
    refine ⟨_, rfl, c, T.C, dx, _, _, rfl, ob, T.cl, T.no_total, fl_total, ?_⟩
    refine ⟨_, rfl, _, _, _, _, rfl, rfl, SqT.of hp, rfl, _, rfl, c, T.C, dx, _, _, rfl, ob, T.cl, T.no_names, fl_names, y, e, d, kvs, cs.env, N, rfl, hy, ho, e1, e2, ?_⟩
    refine ⟨_, _, rfl, rfl, dx, _, ob, by show 6 < 1000; decide, ?_⟩
    rw [pf_total]
    refine q _ ⟨⟨dx, upd_same⟩, ⟨kvs, ?_, e2, by omega⟩, ?_, ?_, ?_, ?_, X.th, ?_, X.bits⟩ (Kp.put (by simp) (fun xs z => by rw [ob] at z; cases z) _)
    · rw [upd_ne (Ne.symm ncd)]
      exact e1
    · rw [upd_ne (Ne.symm nct)]
      exact X.tn
    · exact Nat.le_trans X.tl (by omega)
    · rw [upd_ne (Ne.symm nch)]
      exact X.hd
    · exact Nat.le_trans X.hl (by omega)
    · rw [upd_ne (Ne.symm nca)]
      exact X.akd
  | stop =>
    obtain ⟨p, rfl, hp⟩ := RepS.stop_at hv
    refine ⟨_, rfl, _, _, _, _, rfl, rfl, SqT.of hp, rfl, rfl, _, rfl, itF (by decide +kernel) ?_⟩
    refine ⟨_, rfl, _, _, _, _, rfl, rfl, SqT.of hp, rfl, rfl, _, rfl, itF (by decide +kernel) ?_⟩
    refine ⟨_, rfl, _, _, _, _, rfl, rfl, SqT.of hp, rfl, rfl, _, rfl, itT (by decide +kernel) ?_⟩
    refine ⟨_, rfl, c, T.C, dx, _, rfl, ob, T.cl, T.no_is_stopped, by show 6 < 1000; decide, ?_⟩
    rw [pf_stop]
    refine q _ ⟨⟨dx, upd_same⟩, ⟨kvs, ?_, e2, by omega⟩, ?_, ?_, ?_, ?_, X.th, ?_, X.bits⟩ (Kp.put (by simp) (fun xs z => by rw [ob] at z; cases z) _)
    · rw [upd_ne (Ne.symm ncd)]
      exact e1
    · rw [upd_ne (Ne.symm nct)]
      exact X.tn
    · exact Nat.le_trans X.tl (by omega)
    · rw [upd_ne (Ne.symm nch)]
      exact X.hd
    · exact Nat.le_trans X.hl (by omega)
    · rw [upd_ne (Ne.symm nca)]
      exact X.akd
  | ite te b1 b2 =>
    obtain ⟨p, x, p1, p2, xs, ys, rfl, hp, _⟩ := RepS.ite_at hv
    refine ⟨_, rfl, _, _, _, _, rfl, rfl, SqT.of hp, rfl, rfl, _, rfl, itF (by decide +kernel) ?_⟩
    refine ⟨_, rfl, _, _, _, _, rfl, rfl, SqT.of hp, rfl, rfl, _, rfl, itF (by decide +kernel) ?_⟩
    refine ⟨_, rfl, _, _, _, _, rfl, rfl, SqT.of hp, rfl, rfl, _, rfl, itF (by decide +kernel) ?_⟩
    exact cmp (.inl ⟨_, _, _, rfl⟩) p [] rfl
  | cho we b1 b2 =>
    obtain ⟨p, p1, p2, xs, ys, rfl, hp, _⟩ := RepS.cho_at hv
    refine ⟨_, rfl, _, _, _, _, rfl, rfl, SqT.of hp, rfl, rfl, _, rfl, itF (by cases we <;> decide +kernel) ?_⟩
    refine ⟨_, rfl, _, _, _, _, rfl, rfl, SqT.of hp, rfl, rfl, _, rfl, itF (by cases we <;> decide +kernel) ?_⟩
    refine ⟨_, rfl, _, _, _, _, rfl, rfl, SqT.of hp, rfl, rfl, _, rfl, itF (by cases we <;> decide +kernel) ?_⟩
    exact cmp (.inr (.inl ⟨_, _, _, rfl⟩)) p [] rfl
  | rep m b1 =>
    obtain ⟨p, p1, xs, rfl, hp, _⟩ := RepS.rep_at hv
    refine ⟨_, rfl, _, _, _, _, rfl, rfl, SqT.of hp, rfl, rfl, _, rfl, itF (by decide +kernel) ?_⟩
    refine ⟨_, rfl, _, _, _, _, rfl, rfl, SqT.of hp, rfl, rfl, _, rfl, itF (by decide +kernel) ?_⟩
    refine ⟨_, rfl, _, _, _, _, rfl, rfl, SqT.of hp, rfl, rfl, _, rfl, itF (by decide +kernel) ?_⟩
    exact cmp (.inr (.inr ⟨_, _, rfl⟩)) p [] rfl
theorem ok_do (T : Txt K mg) : ∀ k : Nat, FnOk P w K mg base CX0 (9 + 2 * k) T.mdo.f T.mdo.fd ["self", "statement"] (sp_do T.C k)
  | 0 => FnOk.never fun vs H Q E ⟨c, d, t, h, a, ak, cs, n, v, s, N, _, _, _, z, _⟩ => by simp [okS] at z
  | k + 1 => ok_do_of T k (ok_go_of T k (ok_do T k))
theorem ok_go (T : Txt K mg) (k : Nat) : FnOk P w K mg base CX0 (10 + 2 * k) T.go.f T.go.fd ["self", "block"] (sp_go T.C k) := ok_go_of T k (ok_do T k)

/-- a run at its beginning -/
def cs0 (n : Int) : Cs := ⟨setE (fun _ => 0) "n" n, 0, [], [], false⟩
def sp_init (C : Addr) : Sp := fun vs H Q _ => ∃ (x dx a : Addr) (num : Int) (ak : List Int), vs = [.ref x, .int num, .ref a] ∧ H x = some (.ins C dx []) ∧ H a = some (.tup (ak.map V.int)) ∧ (∀ i ∈ ak, i = 0 ∨ i = 1) ∧
  ∀ H' d t h, CrsAt C H' x d t h a ak (cs0 num) 0 → (∀ b o, H b = some o → b ≠ x → H' b = some o) → H d = none → H t = none → H h = none → Q .non H'
theorem ok_init (T : Txt K mg) : FnOk P w K mg base CX0 1 T.init.f T.init.fd ["self", "number", "asked"] (sp_init T.C) := by
  refine T.init.F.ok sc_init (fun vs H Q E h => ?_) (fun cdv A outer s H vs Q E hr h => ?_)
  · obtain ⟨x, dx, a, num, ak, rfl, _⟩ := h
    rfl
  obtain ⟨x, dx, a, num, ak, rfl, hx, ha, hb, q⟩ := h
  refine ⟨_, (pss_cons (ps_fld (pv 0) (pe_disp (pps_cons (pe_glob rfl T.g_INPUT.e T.g_INPUT.r) (pv 1) pps_nil) rfl rfl (fun z => by cases z) (by decide)) rfl)
      (pss_cons (ps_fld (pv 0) pe_int rfl)
      (pss_cons (ps_fld (pv 0) (pe_lst pa_nil) rfl)
      (pss_cons (ps_fld (pv 0) (pe_lst pa_nil) rfl)
      (pss_cons (ps_fld (pv 0) (pv 2) rfl)
      (pss_one (ps_fld (pv 0) pe_bl rfl))))))), ?_⟩
  have nxa : x ≠ a := ne_of hx ha (by intro z; cases z)
  -- self.names = {INPUT: number}
  intro d hd
  have nxd : x ≠ d := ne_of_none hx hd
  refine ⟨_, rfl, upd_same, [((Sum.inr "n" : Key), V.int num)], rfl, by show 1 ≤ 15; decide, ?_⟩
  rw [upd_upd]
  have e1 : mergeK [] [((Sum.inr "n" : Key), V.int num)] = [((Sum.inr "n" : Key), V.int num)] := rfl
  rw [e1]
  refine ⟨_, rfl, x, T.C, dx, [], rfl, by rw [upd_ne nxd]; exact hx, T.cl, T.no_names, by decide, ?_⟩
  refine ⟨_, rfl, x, T.C, dx, _, rfl, upd_same, T.cl, T.no_total, by show 1 < 1000; decide, ?_⟩
  rw [upd_upd]
  -- self.turns = []
  refine ⟨by show 0 ≤ sizeLine; decide, fun t ht => ?_⟩
  have nxt : x ≠ t := ne_of_none upd_same ht
  refine ⟨_, rfl, x, T.C, dx, _, rfl, by rw [upd_ne nxt, upd_same], T.cl, T.no_turns, by show 2 < 1000; decide, ?_⟩
  -- self.hands = []
  refine ⟨by show 0 ≤ sizeLine; decide, fun h hh => ?_⟩
  have nxh : x ≠ h := ne_of_none upd_same hh
  have nth : t ≠ h := fun z => by rw [← z, upd_ne (Ne.symm nxt), upd_same] at hh; cases hh
  refine ⟨_, rfl, x, T.C, dx, _, rfl, by rw [upd_ne nxh, upd_same], T.cl, T.no_hands, by show 3 < 1000; decide, ?_⟩
  refine ⟨_, rfl, _, rfl, x, T.C, dx, _, rfl, upd_same, T.cl, T.no_asked, by show 4 < 1000; decide, ?_⟩
  refine ⟨_, rfl, x, T.C, dx, _, rfl, upd_same, T.cl, T.no_is_stopped, by show 5 < 1000; decide, ?_⟩
  have nat : a ≠ t := fun z => by rw [← z, upd_ne (Ne.symm nxa), upd_ne (ne_of_none ha hd), ha] at ht; cases ht
  have nah : a ≠ h := fun z => by rw [← z, upd_ne (Ne.symm nxa), upd_ne nat, upd_ne (Ne.symm nxa), upd_ne (ne_of_none ha hd), ha] at hh; cases hh
  have ndt : d ≠ t := fun z => by rw [← z, upd_ne (Ne.symm nxd), upd_same] at ht; cases ht
  have ndh : d ≠ h := fun z => by rw [← z, upd_ne (Ne.symm nxd), upd_ne ndt, upd_ne (Ne.symm nxd), upd_same] at hh; cases hh
  rw [pf_all]
  have old : ∀ b o, H b = some o → b ≠ x → b ≠ d ∧ b ≠ t ∧ b ≠ h := fun b o e nb => by
    have n1 := ne_of_none e hd
    have n2 : b ≠ t := fun z => by rw [← z, upd_ne nb, upd_ne n1, e] at ht; cases ht
    exact ⟨n1, n2, fun z => by rw [← z, upd_ne nb, upd_ne n2, upd_ne nb, upd_ne n1, e] at hh; cases hh⟩
  refine q _ d t h ⟨⟨dx, upd_same⟩, ⟨[((Sum.inr "n" : Key), V.int num)], ?_, ?_, by show 1 ≤ 1; decide⟩, ?_, Nat.le_refl _, ?_, Nat.le_refl _, nth, ?_, hb⟩ (fun b o e nb => ?_) hd ?_ ?_
  · rw [upd_ne (Ne.symm nxd), upd_ne (Ne.symm nxd), upd_ne (Ne.symm nxd), upd_ne ndh, upd_ne (Ne.symm nxd), upd_ne ndt, upd_ne (Ne.symm nxd), upd_same]
  · intro y
    unfold cs0 setE
    show (valV [((Sum.inr "n" : Key), V.int num)] (Sum.inr y)).getD (.int 0) = .int (if y = "n" then num else 0)
    by_cases ey : y = "n"
    · rw [if_pos ey, valV_pos (by rw [ey])] <;> rfl
    · rw [if_neg ey, valV_neg (fun z => ey (Sum.inr.inj z).symm)] <;> rfl
  · rw [upd_ne (Ne.symm nxt), upd_ne (Ne.symm nxt), upd_ne (Ne.symm nxt), upd_ne nth, upd_ne (Ne.symm nxt), upd_same] <;> rfl
  · rw [upd_ne (Ne.symm nxh), upd_ne (Ne.symm nxh), upd_ne (Ne.symm nxh), upd_same] <;> rfl
  · rw [upd_ne (Ne.symm nxa), upd_ne (Ne.symm nxa), upd_ne (Ne.symm nxa), upd_ne nah, upd_ne (Ne.symm nxa), upd_ne nat, upd_ne (Ne.symm nxa), upd_ne (ne_of_none ha hd)]
    exact ha
  · obtain ⟨n1, n2, n3⟩ := old b o e nb
    rw [upd_ne nb, upd_ne nb, upd_ne nb, upd_ne n3, upd_ne nb, upd_ne n2, upd_ne nb, upd_ne n1]
    exact e
  · cases e : H t with
    | none => rfl
    | some o => exact absurd rfl (old t o e (Ne.symm nxt)).2.1
  · cases e : H h with
    | none => rfl
    | some o => exact absurd rfl (old h o e (Ne.symm nxh)).2.2

/-- a row: the total, the turns, the hands -/
structure Row where
  tot : Int
  trn : List Int
  hnd : List Str
def encR (r : Row) : PyData := .tuple [.int r.tot, .tuple (r.trn.map .int), .tuple (r.hnd.map .str)]
def rowOf (c : Cs) : Row := ⟨c.tot, c.trn, c.hnd⟩
def runM (ss : List Sm) (num : Int) (ak : List Int) : Row := rowOf (goB ak ss (cs0 num))
theorem repL_ints {H : Hp} : ∀ l : List Int, RepL H (l.map .int) (l.map V.int)
  | [] => rfl
  | i :: r => ⟨_, _, rfl, by rw [rep_int], repL_ints r⟩
theorem repL_strs {H : Hp} : ∀ l : List Str, RepL H (l.map .str) (l.map V.str)
  | [] => rfl
  | i :: r => ⟨_, _, rfl, by rw [rep_str], repL_strs r⟩
def sp_run : Sp := fun vs H Q _ => ∃ (v : V) (num : Int) (a : Addr) (ak : List Int) (ss : List Sm) (N : Str → Prop), vs = [v, .int num, .ref a] ∧ RepB H ss v ∧ okL N 4 ss ∧ cntL 0 ss ≤ 900 ∧ H a = some (.tup (ak.map V.int)) ∧ (∀ i ∈ ak, i = 0 ∨ i = 1) ∧
  ∀ H' p tt hh, Same H H' → H' p = some (.tup [.int (runM ss num ak).tot, .ref tt, .ref hh]) → H' tt = some (.tup ((runM ss num ak).trn.map V.int)) → H' hh = some (.tup ((runM ss num ak).hnd.map V.str)) → Q (.ref p) H'
theorem ok_run (T : Txt K mg) : FnOk P w K mg base CX0 19 T.run.f T.run.fd ["program", "number", "turns"] sp_run := by
  have G_init := ok_init (P := P) (w := w) (base := base) T
  have G_go := ok_go (P := P) (w := w) (base := base) T 4
  refine T.run.F.ok sc_run (fun vs H Q E h => ?_) (fun cdv A outer s H vs Q E hr h => ?_)
  · obtain ⟨v, num, a, ak, ss, N, rfl, _⟩ := h
    rfl
  obtain ⟨v, num, a, ak, ss, N, rfl, hv, ho, hw, ha, hb, q⟩ := h
  refine ⟨_, (pss_cons (ps_set (i := 3) sc_run.nd rfl (Or.inl rfl) (pe_make T.mk_Course G_init (hr.mono (by omega)) rfl T.g_Course T.init.B .nil pass0 (pa_cons (pv 1) (pa_cons (pv 2) pa_nil))))
      (pss_cons (ps_expr (pe_meth (pv 3) T.cl T.go.m G_go (hr.mono (by omega)) T.go.B .nil pass0 (pa_cons (pv 0) pa_nil)))
      (pss_one (ps_ret (pe_tup (pa_cons (pe_fld (pv 3) rfl) (pa_cons (pe_callTy call_tuple_of rfl T.n_tuple (by decide +kernel) (pa_cons (pe_fld (pv 3) rfl) pa_nil)) (pa_cons (pe_callTy call_tuple_of rfl T.n_tuple (by decide +kernel) (pa_cons (pe_fld (pv 3) rfl) pa_nil)) pa_nil)))))))), ?_⟩
  refine ⟨_, rfl, _, rfl, fun x dx hx hdx ne => ?_⟩
  have s0 : Same H (upd (upd H dx (.own x)) x (.ins T.C dx [])) := (Same.new hdx _).trans (Same.new (by rw [upd_ne (Ne.symm ne)]; exact hx) _)
  refine ⟨x, dx, a, num, ak, rfl, upd_same, s0 _ _ ha, hb, fun H1 d t h X1 k1 hd ht hh => ⟨rfl, ?_⟩⟩
  have s1 : Same H H1 := fun b o e => k1 b o (s0 b o e) (ne_of_none e hx)
  have fd : H d = none := s0.free hd
  have ft : H t = none := s0.free ht
  have fh : H h = none := s0.free hh
  obtain ⟨dx1, ob1⟩ := X1.ob
  refine ⟨_, rfl, x, dx1, _, rfl, ob1, fl_go, _, rfl, x, d, t, h, a, ak, _, 0, v, ss, N, rfl, X1, Rep.sm hv s1, ho, by omega, fun H2 X2 k2 => ?_⟩
  obtain ⟨dx2, ob2⟩ := X2.ob
  have s2 : Same H H2 := fun b o e => k2.keep b o (s1 b o e) fun hm => by
    simp only [List.mem_cons, List.not_mem_nil, or_false] at hm
    rcases hm with z | z | z | z
    · rw [z, hx] at e; cases e
    · rw [z, fd] at e; cases e
    · rw [z, ft] at e; cases e
    · rw [z, fh] at e; cases e
  -- (course.total, tuple(course.turns), tuple(course.hands))
  refine ⟨_, rfl, x, T.C, dx2, _, _, rfl, ob2, T.cl, T.no_total, fl_total, _, rfl, x, T.C, dx2, _, _, rfl, ob2, T.cl, T.no_turns, fl_turns, t, _, rfl, .inl ⟨SqL.of X2.tn, fun tt htt => ?_⟩⟩
  have s3 := Same.new htt (.tup ((goB ak ss (cs0 num)).trn.map V.int))
  refine ⟨_, rfl, x, T.C, dx2, _, _, rfl, s3 _ _ ob2, T.cl, T.no_hands, fl_hands, h, _, rfl, .inl ⟨SqL.of (s3 _ _ X2.hd), fun hh' hhh => ?_⟩⟩
  have s4 := Same.new hhh (.tup ((goB ak ss (cs0 num)).hnd.map V.str))
  refine ⟨by show 3 ≤ sizeLine; decide, fun p hp => ?_⟩
  have s5 := Same.new hp (.tup [.int (goB ak ss (cs0 num)).tot, .ref tt, .ref hh'])
  exact q _ p tt hh' (s2.trans (s3.trans (s4.trans s5))) upd_same (s5 _ _ (s4 _ _ upd_same)) (s5 _ _ upd_same)
end
end K29

set_option Elab.async false
set_option linter.all false
set_option maxRecDepth 100000
set_option maxHeartbeats 4000000
/-! ## a for loop within a generator -/
namespace K29
open PySem L2 PyProof.Rows
def tGFor (wi : TI) (g : TG) (tb : TGn) : TGn := fun D ys σ H => wi σ H fun J H1 => ∃ W : Nat → Nat → List V → L2.St → Hp → Prop, (∃ m, W 0 m ys σ H1) ∧
  ∀ i m ys σ H, W i m ys σ H → (J.stop i H ∧ D.nx ys σ H) ∨ (J.go i H ∧ ∃ N : List V → L2.St → Hp → Prop, (∀ ys' σ' H', N ys' σ' H' → ∃ m', m' < m ∧ W (i + 1) m' ys' σ' H') ∧
    ∀ x H', J.yld i H x H' → g x σ H' fun σ2 H2 => tb { D with nx := N, ct := N, bk := D.nx } ys σ2 H2)
/-- the records' pins of GI by their addresses -/
theorem fpOk_acc {X : Cx} {S : Addr} {ip : List (Addr × Obj)} {o o' : Obj} {H H' : Hp} {b : Addr} (h : FpOk X ((S, o) :: ip) H b) (hn : H' b = none) : FpOk X ((S, o') :: ip) H' b := by
  obtain ⟨_, h1, h2, h3, h4, h5⟩ := h
  refine ⟨hn, h1, h2, h3, h4, fun p hp => ?_⟩
  rcases List.mem_append.mp hp with z | z
  · exact h5 p (List.mem_append_left _ z)
  · rcases List.mem_cons.mp z with z | z
    · rw [z]
      exact h5 (S, o) (List.mem_append_right _ List.mem_cons_self)
    · exact h5 p (List.mem_append_right _ (List.mem_cons_of_mem _ z))
section
variable {X : Cx}
theorem gs_for {tg iter : Expr} {body : List Stmt} {pos : Pos} {wi : TI} {g : TG} {tb : TGn} (hp : PassesOwn (model X.prog X.w) X.A X.env X.xe) (hc : X.calm = true) (hi : PI X tg iter wi) (hg : PG X tg g) (hb : GSs X body tb)
    (hs : ∀ x, foldedSetIterable iter X.env x = pure x := by intro _; rfl) : GS X (.For tg iter body [] pos) (tGFor wi g tb) := by
  refine ⟨fun A S ip R n ys s₀ c fs K J gd lv s σ H D gc hn k hI ht => ?_⟩
  rw [exec_For]
  obtain ⟨acc, cc, r, I⟩ := hI
  refine seg_bind_wrap (wpAny_standAt (seg_bind_wrap ?_))
  rw [gc.over]
  refine wpAny_mono (hi.run _ s σ H _ I ht) (fun v s1 h1 => seg_bind_wrap (wpAny_of_eq (hs v) (seg_bind_wrap (wpAny_standAt (seg_bind_wrap (wpAny_holding ?_)))))) fun x s' hx => k.exc n s₀ x s' hx
  rw [gc.over]
  refine wpAny_mono h1 (fun itv s2 h2 => ?_) fun x s' hx => k.exc n s₀ x s' hx
  obtain ⟨it, fp, tn, It0, H2, ev, I2, T, st2, f2, W, ⟨m0, w0⟩, turn⟩ := h2
  subst ev
  have nS : ∀ b ∈ fp, b ≠ S := fun b hb z => (f2 b hb).2.2.2.2.2 (S, lstObj acc cc) (List.mem_append_right _ List.mem_cons_self) z.symm
  have loop : ∀ (m n : Nat) (ys : List V) (s₀ s : Shared) (i : Nat) (σ : L2.St) (H : Hp) (p : Pos), n + ys.length = sizeLine → W i m ys σ H → GI X S ip ys σ H s → tn i s.heap → (∀ b ∈ fp, H b = none) →
      Seg (model X.prog X.w) A R (GY X S) n s₀ (.forLoop tg (.ref it) body [] X.env) ((model X.prog X.w).den (.forLoop tg (.ref it) body [] X.env))
        (.ret (fun r => ((match r with | .ok f => (.pure f : Sem Flow) | .error e => .raise e).onRaise (cameBack X.env)).wrap K J gd lv) none (gd false) (lv []) c p [] :: fs) s := by
    intro m
    induction m using Nat.strongRecOn with
    | ind m ih =>
      intro n ys s₀ s i σ H p hn w hI st fr
      have gl := fun (kk : Result → Sem PySem.Fin) => gc_loop (k := kk) (c' := .forLoop tg (.ref it) body [] X.env) (l := lv []) (kp := []) (p := p) gc rfl rfl
      obtain ⟨acc, cc, r, I⟩ := hI
      have fok : ∀ {o : Obj} {H' : Hp}, (∀ b ∈ fp, H' b = none) → ∀ b ∈ fp, FpOk X ((S, o) :: ip) H' b := fun hn b hb => fpOk_acc (f2 b hb) (hn b hb)
      -- an exception that leaves the loop
      have ee : ∀ (n : Nat) (s₀ : Shared) (x : Value) (s' : Shared), X.xe x s' → Seg (model X.prog X.w) A R (GY X S) n s₀ (.forLoop tg (.ref it) body [] X.env)
          ((do noteFrame x X.env; theTreesLotGoes x : Sem Unit) >>= fun _ => .raise x)
          (.ret (fun r => ((match r with | .ok f => (.pure f : Sem Flow) | .error e => .raise e).onRaise (cameBack X.env)).wrap K J gd lv) none (gd false) (lv []) c p [] :: fs) s' := fun n s₀ x s' hx => by
        refine seg_bind ?_
        rw [(gl _).over]
        refine wpAny_bind (wpAny_mono (hp x s' hx) (fun _ s'' hcb => wpAny_theTreesLotGoes ?_) fun y s'' hcb => ?_)
        · exact seg_leaf (.error x) (seg_cameBack gc k hcb)
        · exact seg_leaf (.error y) (seg_cameBack gc k hcb)
      show Seg _ A R _ n s₀ _ ((forTurn tg (.ref it) body [] X.env).onRaise fun x => do noteFrame x X.env; theTreesLotGoes x) _ s
      rw [Sem.onRaise_eq_wrap]
      unfold forTurn
      refine seg_bind_wrap (wpAny_standAt (seg_bind_wrap ?_))
      rw [(gl _).over]
      rcases turn i m ys σ H w with ⟨stop, qn⟩ | ⟨go, N, hN, step⟩
      · refine wpAny_onRaise (wpAny_mono (T.done X rfl rfl rfl hc i _ s σ H (fun _ _ => False) I (fok fr) st stop) (fun o s3 ⟨ho, I3⟩ => ?_) fun _ _ z => z.elim)
        subst ho
        refine seg_again rfl ?_
        refine seg_leaf (.ok .next) ?_
        exact k.ok n ys s₀ s3 .next hn ⟨σ, H, ⟨acc, cc, r, I3⟩, qn⟩
      · refine wpAny_onRaise (wpAny_mono (T.item X rfl rfl rfl hc i _ s σ H (fun _ _ => False) I (fok fr) st go) (fun o s3 ⟨u, ho, h3⟩ => ?_) fun _ _ z => z.elim)
        subst ho
        refine seg_bind_wrap ?_
        rw [(gl _).over]
        refine wpAny_mono h3 (fun _ s5 ⟨x, H5, I5, r5, y5, st5, fr5⟩ => seg_bind_wrap ?_) fun _ _ z => z.elim
        rw [(gl _).over]
        have I5' := I5.pinned (fok fr5) (T.obj _ _ st5)
        refine wpAny_mono (hg.run _ s5 σ H5 x u _ I5' r5 (step x H5 y5)) (fun _ s6 ⟨σ6, H6, I6, q6⟩ => ?_) fun z s' hx => ee n s₀ z s' hx
        rw [Sem.bind_eq_wrap', Sem.wrap_wrap]
        have gc' : GC X S (ip ++ pinsAt fp s5.heap) A (.forLoop tg (.ref it) body [] X.env) (.ret (fun r => ((match r with | .ok f => (.pure f : Sem Flow) | .error e => .raise e).onRaise (cameBack X.env)).wrap K J gd lv) none (gd false) (lv []) c p [] :: fs) id :=
          { gl _ with
            ip := fun q hq => (List.mem_append.mp hq).elim (gc.ip q) fun z => nS q.1 (of_pinsAt z).1 }
        have again : ∀ {n' : Nat} {ys' : List V} {s₀' s7 : Shared} {σ7 : L2.St} {H7 : Hp}, n' + ys'.length = sizeLine → GI X S (ip ++ pinsAt fp s5.heap) ys' σ7 H7 s7 → N ys' σ7 H7 →
            Seg (model X.prog X.w) A R (GY X S) n' s₀' (.forLoop tg (.ref it) body [] X.env) ((model X.prog X.w).den (.forLoop tg (.ref it) body [] X.env))
              (.ret (fun r => ((match r with | .ok f => (.pure f : Sem Flow) | .error e => .raise e).onRaise (cameBack X.env)).wrap K J gd lv) none (gd false) (lv []) c p [] :: fs) s7 := fun {n' ys' s₀' s7 σ7 H7} hn' hI7 n7 => by
          obtain ⟨acc7, c7, r7, I7⟩ := hI7
          obtain ⟨m', hm, w7⟩ := hN ys' σ7 H7 n7
          have pin7 : ∀ b ∈ fp, ∀ o, s5.heap.get? b = some o → s7.heap.get? b = some o ∧ H7 b = none := fun b hb o e =>
            let z := I7.pin (b, o) (List.mem_append_right _ (List.mem_cons_of_mem _ (List.mem_append_right _ (mem_pinsAt hb e))))
            ⟨z.1, z.2.1⟩
          refine ih m' hm n' ys' s₀' s7 (i + 1) σ7 H7 p hn' w7 ⟨acc7, c7, r7, Inv.unpinned (pl := pinsAt fp s5.heap) I7⟩ (T.keep _ _ _ st5 fun b hb o e => (pin7 b hb o e).1) fun b hb => ?_
          obtain ⟨o, e, _⟩ := T.obj _ _ st5 b hb
          exact (pin7 b hb o e).2
        refine hb.run A S (ip ++ pinsAt fp s5.heap) R n ys s₀ _ _ _ _ id id s6 σ6 H6 { D with nx := N, ct := N, bk := D.nx } gc' hn ⟨fun n' ys' s₀' s7 f hn' q7 => ?_, fun n' s₀' z s' hx => ee n' s₀' z s' hx⟩ ⟨acc, cc, r, I6⟩ q6
        cases f with
        | next =>
          obtain ⟨σ7, H7, I7, n7⟩ := q7
          exact seg_again rfl (again hn' I7 n7)
        | cont =>
          obtain ⟨σ7, H7, I7, n7⟩ := q7
          exact seg_again rfl (again hn' I7 n7)
        | brk =>
          obtain ⟨σ7, H7, ⟨acc7, c7, r7, I7⟩, n7⟩ := q7
          exact seg_leaf (.ok .next) (k.ok n' ys' s₀' s7 .next hn' ⟨σ7, H7, ⟨acc7, c7, r7, Inv.unpinned (pl := pinsAt fp s5.heap) I7⟩, n7⟩)
        | ret v =>
          obtain ⟨x7, σ7, H7, ⟨acc7, c7, r7, I7⟩, rx7, n7⟩ := q7
          exact seg_leaf (.ok (.ret v)) (k.ok n' ys' s₀' s7 (.ret v) hn' ⟨x7, σ7, H7, ⟨acc7, c7, r7, Inv.unpinned (pl := pinsAt fp s5.heap) I7⟩, rx7, n7⟩)
  exact seg_call fun p => loop m0 n ys s₀ s2 0 σ H2 p hn w0 ⟨acc, cc, r, I2⟩ st2 fun b hb => (f2 b hb).1
end
end K29

set_option Elab.async false
set_option linter.all false
set_option maxRecDepth 100000
set_option maxHeartbeats 4000000
/-! ## the mirror: invariants, renaming, all runs in order -/
namespace K29
open PySem L2
/-! ### renaming -/
def renE (p : Str → Str) : Ex → Ex
  | .num i => .num i
  | .nam x => .nam (p x)
  | .bin b e f => .bin b (renE p e) (renE p f)
  | .tim k e => .tim k (renE p e)
def renT (p : Str → Str) : Te → Te
  | .less a b => .less (renE p a) (renE p b)
  | .rest e m r => .rest (renE p e) m r
  | .neg t => .neg (renT p t)
mutual
def renS (p : Str → Str) : Sm → Sm
  | .set x e => .set (p x) (renE p e)
  | .pay e => .pay (renE p e)
  | .stop => .stop
  | .ite t a b => .ite (renT p t) (renL p a) (renL p b)
  | .cho w a b => .cho w (renL p a) (renL p b)
  | .rep k b => .rep k (renL p b)
def renL (p : Str → Str) : List Sm → List Sm
  | [] => []
  | s :: r => renS p s :: renL p r
end
theorem renE_id : ∀ e : Ex, renE (fun x => x) e = e
  | .num i => rfl
  | .nam x => rfl
  | .bin b e f => by rw [renE, renE_id e, renE_id f]
  | .tim k e => by rw [renE, renE_id e]
theorem renT_id : ∀ t : Te, renT (fun x => x) t = t
  | .less a b => by rw [renT, renE_id, renE_id]
  | .rest e m r => by rw [renT, renE_id]
  | .neg t => by rw [renT, renT_id t]
mutual
theorem renS_id : ∀ s : Sm, renS (fun x => x) s = s
  | .set x e => by rw [renS, renE_id]
  | .pay e => by rw [renS, renE_id]
  | .stop => by rw [renS]
  | .ite t a b => by rw [renS, renT_id, renL_id a, renL_id b]
  | .cho w a b => by rw [renS, renL_id a, renL_id b]
  | .rep k b => by rw [renS, renL_id b]
theorem renL_id : ∀ ss : List Sm, renL (fun x => x) ss = ss
  | [] => by rw [renL]
  | s :: r => by rw [renL, renS_id s, renL_id r]
end
/-! the counts do not change -/
theorem isRest_ren (p : Str → Str) : ∀ t : Te, own.isRest (renT p t) = own.isRest t
  | .less .. => rfl
  | .rest .. => rfl
  | .neg t => isRest_ren p t
theorem own_ren (p : Str → Str) (f : Nat) (s : Sm) : own f (renS p s) = own f s := by
  match f with
  | 0 => cases s <;> simp only [renS] <;> rfl
  | 1 => cases s <;> simp only [renS] <;> rfl
  | 2 => cases s <;> simp only [renS] <;> first | rfl | (simp only [own]; rw [isRest_ren])
  | 3 => cases s <;> simp only [renS] <;> first | rfl | (simp only [own]; rw [isRest_ren])
  | n + 4 => cases s <;> simp only [renS] <;> rfl
mutual
theorem cntS_ren (p : Str → Str) (f : Nat) : ∀ s : Sm, cntS f (renS p s) = cntS f s
  | .set x e => by have := own_ren p f (.set x e); simpa only [renS, cntS] using this
  | .pay e => by have := own_ren p f (.pay e); simpa only [renS, cntS] using this
  | .stop => by simp only [renS]
  | .ite t a b => by have h := own_ren p f (.ite t a b); simp only [renS] at h; simp only [renS, cntS]; rw [h, cntL_ren p f a, cntL_ren p f b]
  | .cho w a b => by have h := own_ren p f (.cho w a b); simp only [renS] at h; simp only [renS, cntS]; rw [h, cntL_ren p f a, cntL_ren p f b]
  | .rep k b => by have h := own_ren p f (.rep k b); simp only [renS] at h; simp only [renS, cntS]; rw [h, cntL_ren p f b]
theorem cntL_ren (p : Str → Str) (f : Nat) : ∀ ss : List Sm, cntL f (renL p ss) = cntL f ss
  | [] => by simp only [renL]
  | s :: r => by simp only [renL, cntL]; rw [cntS_ren p f s, cntL_ren p f r]
end
mutual
theorem sizS_ren (p : Str → Str) : ∀ s : Sm, sizS (renS p s) = sizS s
  | .set x e => by simp only [renS, sizS]
  | .pay e => by simp only [renS, sizS]
  | .stop => by simp only [renS]
  | .ite t a b => by simp only [renS, sizS]; rw [sizL_ren p a, sizL_ren p b]
  | .cho w a b => by simp only [renS, sizS]; rw [sizL_ren p a, sizL_ren p b]
  | .rep k b => by simp only [renS, sizS]; rw [sizL_ren p b]
theorem sizL_ren (p : Str → Str) : ∀ ss : List Sm, sizL (renL p ss) = sizL ss
  | [] => by simp only [renL]
  | s :: r => by simp only [renL, sizL]; rw [sizS_ren p s, sizL_ren p r]
end
section
variable {N N' : Str → Prop} {p : Str → Str} (hN : ∀ x, N x → N' (p x))
include hN
theorem okE_ren : ∀ (n : Nat) (e : Ex), okE N n e → okE N' n (renE p e)
  | 0, e, h => by simp [okE] at h
  | n + 1, .num i, h => h
  | n + 1, .nam x, h => hN x h
  | n + 1, .bin b e f, h => ⟨okE_ren n e h.1, okE_ren n f h.2⟩
  | n + 1, .tim k e, h => ⟨h.1, h.2.1, okE_ren n e h.2.2⟩
theorem okT_ren : ∀ (n : Nat) (t : Te), okT N n t → okT N' n (renT p t)
  | n, .less a b, h => by
    have h' : okE N 3 a ∧ okE N 3 b := by cases n <;> simpa only [okT] using h
    have g : okE N' 3 (renE p a) ∧ okE N' 3 (renE p b) := ⟨okE_ren hN 3 a h'.1, okE_ren hN 3 b h'.2⟩
    cases n <;> simpa only [renT, okT] using g
  | n, .rest e m r, h => by
    have h' : okE N 3 e ∧ 2 ≤ m ∧ m ≤ 6 ∧ 0 ≤ r ∧ r < m := by cases n <;> simpa only [okT] using h
    have g : okE N' 3 (renE p e) ∧ 2 ≤ m ∧ m ≤ 6 ∧ 0 ≤ r ∧ r < m := ⟨okE_ren hN 3 e h'.1, h'.2⟩
    cases n <;> simpa only [renT, okT] using g
  | 0, .neg t, h => by simp [okT] at h
  | n + 1, .neg t, h => okT_ren n t h
mutual
theorem okS_ren : ∀ (n : Nat) (s : Sm), okS N n s → okS N' n (renS p s)
  | 0, s, h => by simp [okS] at h
  | n + 1, .set x e, h => by simp only [okS, renS] at *; exact ⟨hN x h.1, okE_ren hN 3 e h.2⟩
  | n + 1, .pay e, h => by simp only [okS, renS] at *; exact okE_ren hN 3 e h
  | n + 1, .stop, h => by simp only [okS, renS]
  | n + 1, .ite t a b, h => by simp only [okS, renS] at *; exact ⟨okT_ren hN 2 t h.1, okL_ren n a h.2.1, okL_ren n b h.2.2⟩
  | n + 1, .cho w a b, h => by simp only [okS, renS] at *; exact ⟨okL_ren n a h.1, okL_ren n b h.2⟩
  | n + 1, .rep k b, h => by simp only [okS, renS] at *; exact ⟨h.1, h.2.1, okL_ren n b h.2.2⟩
theorem okL_ren : ∀ (n : Nat) (ss : List Sm), okL N n ss → okL N' n (renL p ss)
  | n, [], h => by simp only [okL, renL]
  | n, s :: r, h => by simp only [okL, renL] at *; exact ⟨okS_ren n s h.1, okL_ren n r h.2⟩
end
end

/-! ### an invariant with a budget -/
structure Bud (f : Nat) (ak : List Int) (N : Str → Prop) (I : Nat → Cs → Prop) : Prop where
  mono : ∀ n m c, n ≤ m → I n c → I m c
  set : ∀ n c x e, I n c → okE N 3 e → I (n + own f (.set x e)) { c with env := setE c.env x (evE c.env e) }
  pay : ∀ n c e, I n c → okE N 3 e → I (n + own f (.pay e)) { c with tot := c.tot + evE c.env e }
  stop : ∀ n c, I n c → I (n + own f .stop) { c with stp := true }
  cho : ∀ n c w a b, I n c → I (n + own f (.cho w a b)) (c.cho ak (hand w))
section
variable {f : Nat} {ak : List Int} {N : Str → Prop} {I : Nat → Cs → Prop} (B : Bud f ak N I)
include B
theorem iter_bud {g : Cs → Cs} {w : Nat} (h : ∀ n c, I n c → I (n + w) (g c)) : ∀ (k n : Nat) (c : Cs), I n c → I (n + w * k) (iter g k c)
  | 0, n, c, x => x
  | k + 1, n, c, x => by
    have := iter_bud h k (n + w) (g c) (h n c x)
    rw [iter, Nat.mul_succ]
    exact B.mono _ _ _ (by omega) this
mutual
theorem bud_S : ∀ (k : Nat) (s : Sm) (n : Nat) (c : Cs), okS N k s → I n c → I (n + cntS f s) (doS ak s c)
  | 0, s, n, c, h, x => by simp [okS] at h
  | k + 1, .set y e, n, c, h, x => by simp only [okS] at h; simp only [cntS, doS]; exact B.set n c y e x h.2
  | k + 1, .pay e, n, c, h, x => by simp only [okS] at h; simp only [cntS, doS]; exact B.pay n c e x h
  | k + 1, .stop, n, c, h, x => by simp only [cntS, doS]; exact B.stop n c x
  | k + 1, .ite t a b, n, c, h, x => by
    simp only [okS] at h
    simp only [cntS, doS]
    split
    · exact B.mono _ _ _ (by omega) (bud_L k a n c h.2.1 x)
    · exact B.mono _ _ _ (by omega) (bud_L k b n c h.2.2 x)
  | k + 1, .cho w a b, n, c, h, x => by
    simp only [okS] at h
    simp only [cntS, doS]
    have y := B.cho n c w a b x
    split
    · exact B.mono _ _ _ (by omega) (bud_L k a _ _ h.1 y)
    · exact B.mono _ _ _ (by omega) (bud_L k b _ _ h.2 y)
  | k + 1, .rep m b, n, c, h, x => by
    simp only [okS] at h
    simp only [cntS, doS]
    exact B.mono _ _ _ (by omega) (iter_bud B (fun n c x => bud_L k b n c h.2.2 x) m.toNat n c x)
theorem bud_L : ∀ (k : Nat) (ss : List Sm) (n : Nat) (c : Cs), okL N k ss → I n c → I (n + cntL f ss) (goB ak ss c)
  | k, [], n, c, h, x => by simp only [cntL, goB]; exact x
  | k, s :: r, n, c, h, x => by
    simp only [okL] at h
    simp only [cntL, goB]
    have y : I (n + cntS f s) (if c.stp = true then c else doS ak s c) := by
      split
      · exact B.mono _ _ _ (by omega) x
      · exact bud_S k s n c h.1 x
    exact B.mono _ _ _ (by omega) (bud_L k r _ _ h.2 y)
end
end

/-! ### two runs side by side -/
structure Sim (ak ak' : List Int) (N : Str → Prop) (p : Str → Str) (E : Cs → Cs → Prop) (D D' : Cs → Prop) : Prop where
  stp : ∀ c c', E c c' → c.stp = c'.stp
  set : ∀ c c' x e, E c c' → N x → okE N 3 e → E { c with env := setE c.env x (evE c.env e) } { c' with env := setE c'.env (p x) (evE c'.env (renE p e)) }
  pay : ∀ c c' e, E c c' → okE N 3 e → E { c with tot := c.tot + evE c.env e } { c' with tot := c'.tot + evE c'.env (renE p e) }
  stop : ∀ c c', E c c' → E { c with stp := true } { c' with stp := true }
  test : ∀ c c' t, E c c' → okT N 2 t → evT c.env t = evT c'.env (renT p t)
  cho : ∀ c c' w, E c c' → (c.nxt ak = c'.nxt ak' ∧ E (c.cho ak (hand w)) (c'.cho ak' (hand w))) ∨ (D (c.cho ak (hand w)) ∧ D' (c'.cho ak' (hand w)))
  dS : ∀ k s c, okS N k s → D c → D (doS ak s c)
  dL : ∀ k ss c, okL N k ss → D c → D (goB ak ss c)
  dS' : ∀ k s c, okS N k s → D' c → D' (doS ak' (renS p s) c)
  dL' : ∀ k ss c, okL N k ss → D' c → D' (goB ak' (renL p ss) c)
section
variable {ak ak' : List Int} {N : Str → Prop} {p : Str → Str} {E : Cs → Cs → Prop} {D D' : Cs → Prop} (M : Sim ak ak' N p E D D')
include M
abbrev Ei (E : Cs → Cs → Prop) (D D' : Cs → Prop) (c c' : Cs) : Prop := E c c' ∨ (D c ∧ D' c')
theorem iter_sim {g g' : Cs → Cs} (h : ∀ c c', Ei E D D' c c' → Ei E D D' (g c) (g' c')) : ∀ (k : Nat) (c c' : Cs), Ei E D D' c c' → Ei E D D' (iter g k c) (iter g' k c')
  | 0, c, c', x => x
  | k + 1, c, c', x => iter_sim h k _ _ (h c c' x)
mutual
theorem sim_S : ∀ (k : Nat) (s : Sm) (c c' : Cs), okS N k s → Ei E D D' c c' → Ei E D D' (doS ak s c) (doS ak' (renS p s) c')
  | k, s, c, c', h, .inr x => .inr ⟨M.dS k s c h x.1, M.dS' k s c' h x.2⟩
  | 0, s, c, c', h, .inl x => by simp [okS] at h
  | k + 1, .set y e, c, c', h, .inl x => by simp only [okS] at h; simp only [renS, doS]; exact .inl (M.set c c' y e x h.1 h.2)
  | k + 1, .pay e, c, c', h, .inl x => by simp only [okS] at h; simp only [renS, doS]; exact .inl (M.pay c c' e x h)
  | k + 1, .stop, c, c', h, .inl x => by simp only [renS, doS]; exact .inl (M.stop c c' x)
  | k + 1, .ite t a b, c, c', h, .inl x => by
    simp only [okS] at h
    simp only [renS, doS]
    rw [← M.test c c' t x h.1]
    split
    · exact sim_L k a c c' h.2.1 (.inl x)
    · exact sim_L k b c c' h.2.2 (.inl x)
  | k + 1, .cho w a b, c, c', h, .inl x => by
    simp only [okS] at h
    simp only [renS, doS]
    rcases M.cho c c' w x with ⟨e, y⟩ | y
    · rw [← e]
      split
      · exact sim_L k a _ _ h.1 (.inl y)
      · exact sim_L k b _ _ h.2 (.inl y)
    · refine .inr ⟨?_, ?_⟩
      · split
        · exact M.dL k a _ h.1 y.1
        · exact M.dL k b _ h.2 y.1
      · split
        · exact M.dL' k a _ h.1 y.2
        · exact M.dL' k b _ h.2 y.2
  | k + 1, .rep m b, c, c', h, .inl x => by
    simp only [okS] at h
    simp only [renS, doS]
    exact iter_sim M (fun c c' x => sim_L k b c c' h.2.2 x) m.toNat c c' (.inl x)
theorem sim_L : ∀ (k : Nat) (ss : List Sm) (c c' : Cs), okL N k ss → Ei E D D' c c' → Ei E D D' (goB ak ss c) (goB ak' (renL p ss) c')
  | k, ss, c, c', h, .inr x => .inr ⟨M.dL k ss c h x.1, M.dL' k ss c' h x.2⟩
  | k, [], c, c', h, .inl x => by simp only [renL, goB]; exact .inl x
  | k, s :: r, c, c', h, .inl x => by
    simp only [okL] at h
    simp only [renL, goB]
    refine sim_L k r _ _ h.2 ?_
    rw [← M.stp c c' x]
    split
    · exact .inl x
    · exact sim_S k s c c' h.1 (.inl x)
end
end

/-! ### what is true of each run -/
def Agree (ak t : List Int) : Prop := ∀ j i, t[j]? = some i → i = ak.getD j 0
theorem agree_snoc {ak t : List Int} (h : Agree ak t) : Agree ak (t ++ [ak.getD t.length 0]) := by
  intro j i e
  rcases Nat.lt_or_ge j t.length with hj | hj
  · rw [List.getElem?_append_left hj] at e
    exact h j i e
  · rw [List.getElem?_append_right hj] at e
    have ej : j - t.length = 0 := by
      rcases Nat.eq_zero_or_pos (j - t.length) with z | z
      · exact z
      · rw [List.getElem?_eq_none (by rw [List.length_singleton]; omega)] at e
        cases e
    rw [ej] at e
    have : j = t.length := by omega
    subst this
    simpa using e.symm
theorem bud_agree (ak : List Int) (N : Str → Prop) : Bud 1 ak N (fun n c => c.trn.length ≤ n ∧ Agree ak c.trn) where
  mono := fun n m c h x => ⟨Nat.le_trans x.1 h, x.2⟩
  set := fun n c x e h _ => h
  pay := fun n c e h _ => h
  stop := fun n c h => h
  cho := fun n c w a b h => ⟨by simp only [Cs.cho, own, List.length_append, List.length_singleton]; omega, agree_snoc h.2⟩
theorem bud_longer (ak : List Int) (N : Str → Prop) (m : Nat) : Bud 9 ak N (fun _ c => m < c.trn.length) where
  mono := fun _ _ c _ x => x
  set := fun n c x e h _ => h
  pay := fun n c e h _ => h
  stop := fun n c h => h
  cho := fun n c w a b h => by simp only [Cs.cho, List.length_append, List.length_singleton]; omega
/-- two turns that agree below m -/
theorem sim_same {ak ak' : List Int} {N : Str → Prop} {m : Nat} (h : ∀ j, j < m → ak.getD j 0 = ak'.getD j 0) :
    Sim ak ak' N (fun x => x) (fun c c' => c = c' ∧ c.trn.length ≤ m) (fun c => m < c.trn.length) (fun c => m < c.trn.length) where
  stp := fun c c' e => by rw [e.1]
  set := fun c c' x e h _ _ => by rw [renE_id, ← h.1]; exact ⟨rfl, h.2⟩
  pay := fun c c' e h _ => by rw [renE_id, ← h.1]; exact ⟨rfl, h.2⟩
  stop := fun c c' h => by rw [← h.1]; exact ⟨rfl, h.2⟩
  test := fun c c' t h _ => by rw [renT_id, ← h.1]
  cho := fun c c' w e => by
    obtain ⟨rfl, hl⟩ := e
    rcases Nat.lt_or_ge c.trn.length m with z | z
    · refine .inl ?_
      have e1 : c.nxt ak = c.nxt ak' := h _ z
      refine ⟨e1, ?_, ?_⟩
      · simp only [Cs.cho, e1]
      · simp only [Cs.cho, List.length_append, List.length_singleton]
        omega
    · refine .inr ⟨?_, ?_⟩ <;> (simp only [Cs.cho, List.length_append, List.length_singleton]; omega)
  dS := fun k s c o d => bud_S (bud_longer ak N m) k s 0 c o d
  dL := fun k ss c o d => bud_L (bud_longer ak N m) k ss 0 c o d
  dS' := fun k s c o d => by rw [renS_id]; exact bud_S (bud_longer ak' N m) k s 0 c o d
  dL' := fun k ss c o d => by rw [renL_id]; exact bud_L (bud_longer ak' N m) k ss 0 c o d

/-! ### the runs in order -/
def nextI (l : List Int) : Nat → Option Nat
  | 0 => none
  | i + 1 => if l[i]? = some 1 then nextI l i else some i
def nextT (l : List Int) : Option (List Int) := (nextI l l.length).map fun i => l.take i ++ [1]
theorem nextI_lt {l : List Int} : ∀ {n i : Nat}, nextI l n = some i → i < n ∧ l[i]? ≠ some 1 ∧ ∀ j, i < j → j < n → l[j]? = some 1
  | 0, i, h => by simp [nextI] at h
  | n + 1, i, h => by
    simp only [nextI] at h
    split at h
    · rename_i e
      obtain ⟨h1, h2, h3⟩ := nextI_lt h
      refine ⟨by omega, h2, fun j a b => ?_⟩
      rcases Nat.lt_or_ge j n with z | z
      · exact h3 j a z
      · have : j = n := by omega
        rw [this]
        exact e
    · rename_i e
      cases h
      exact ⟨by omega, e, fun j a b => by omega⟩
/-- turns as digits -/
def val : Nat → List Int → Nat
  | 0, _ => 0
  | _ + 1, [] => 0
  | k + 1, x :: r => (if x = 1 then 2 ^ k else 0) + val k r
theorem val_lt : ∀ (k : Nat) (l : List Int), val k l < 2 ^ k
  | 0, l => by simp [val]
  | k + 1, [] => by simp only [val]; exact Nat.two_pow_pos _
  | k + 1, x :: r => by
    have := val_lt k r
    simp only [val, Nat.pow_succ]
    split <;> omega
theorem val_zeros : ∀ (k m : Nat), val k (List.replicate m 0) = 0
  | 0, m => by simp [val]
  | k + 1, 0 => by simp [val]
  | k + 1, m + 1 => by rw [List.replicate_succ, val, val_zeros k m] <;> rfl
theorem val_pad : ∀ (k : Nat) (t : List Int) (m : Nat), val k (t ++ List.replicate m 0) = val k t
  | 0, t, m => by simp [val]
  | k + 1, [], m => by rw [List.nil_append, val_zeros] <;> rfl
  | k + 1, x :: r, m => by simp only [List.cons_append, val]; rw [val_pad k r m]
theorem val_next : ∀ (k : Nat) (p r : List Int), p.length < k → val k (p ++ 0 :: r) < val k (p ++ [1])
  | 0, p, r, h => by omega
  | k + 1, [], r, h => by
    have := val_lt k r
    simp only [List.nil_append, val]
    cases k with
    | zero => simp [val]
    | succ k => simp only [val]; simp; omega
  | k + 1, x :: p, r, h => by
    have := val_next k p r (by simpa using h)
    simp only [List.cons_append, val]
    omega
theorem agree_pad {ak t : List Int} (h : Agree ak t) (hl : ak.length ≤ t.length) : t = ak ++ List.replicate (t.length - ak.length) 0 := by
  apply List.ext_getElem?
  intro j
  rcases Nat.lt_or_ge j t.length with hj | hj
  · have e : t[j]? = some t[j] := List.getElem?_eq_getElem hj
    rw [e, h j _ e]
    rcases Nat.lt_or_ge j ak.length with z | z
    · rw [List.getElem?_append_left z, List.getD_eq_getElem?_getD, List.getElem?_eq_getElem z] <;> rfl
    · rw [List.getElem?_append_right z, List.getD_eq_getElem?_getD, List.getElem?_eq_none z, List.getElem?_replicate, if_pos (by omega)] <;> rfl
  · rw [List.getElem?_eq_none hj, List.getElem?_eq_none (by rw [List.length_append, List.length_replicate]; omega)]
def runsF (run : List Int → Row) : Nat → Option (List Int) → List Row
  | _, none => []
  | 0, some _ => []
  | f + 1, some t => run t :: runsF run f (nextT (run t).trn)
/-- turns with which a run begins -/
structure Good (ss : List Sm) (num : Int) (f : Nat) (t : List Int) : Prop where
  bits : ∀ i ∈ t, i = 0 ∨ i = 1
  len : t.length ≤ (runM ss num t).trn.length
  fuel : 16 ≤ f + val 4 t
section
variable {ss : List Sm} {num : Int} {N : Str → Prop} (ho : okL N 4 ss) (hc : cntL 1 ss ≤ 4)
include ho hc
theorem run_agree (t : List Int) : (runM ss num t).trn.length ≤ 4 ∧ Agree t (runM ss num t).trn := by
  have h := bud_L (bud_agree t N) 4 ss 0 (cs0 num) ho ⟨Nat.le_refl _, fun j i e => by simp [cs0] at e⟩
  exact ⟨Nat.le_trans h.1 (by omega), h.2⟩
theorem run_bits {t : List Int} (hb : ∀ i ∈ t, i = 0 ∨ i = 1) : ∀ i ∈ (runM ss num t).trn, i = 0 ∨ i = 1 := by
  intro i hi
  obtain ⟨j, e⟩ := List.getElem?_of_mem hi
  rw [(run_agree ho hc t).2 j i e, List.getD_eq_getElem?_getD]
  cases e2 : t[j]? with
  | none => exact .inl rfl
  | some y => exact hb y (List.mem_of_getElem? e2)
theorem good_nil (f : Nat) (hf : 16 ≤ f) : Good ss num f [] := ⟨fun i h => by simp at h, by simp, by omega⟩
theorem good_fuel {f : Nat} {t : List Int} (g : Good ss num f t) : 1 ≤ f := by
  have h1 := g.fuel
  have h2 := val_lt 4 t
  simp at h2
  omega
theorem good_next {f : Nat} {t t' : List Int} (g : Good ss num (f + 1) t) (e : nextT (runM ss num t).trn = some t') : Good ss num f t' := by
  obtain ⟨hl4, hag⟩ := run_agree (num := num) ho hc t
  have hbits := run_bits (num := num) ho hc g.bits
  unfold nextT at e
  cases ei : nextI (runM ss num t).trn (runM ss num t).trn.length with
  | none => rw [ei] at e; cases e
  | some i =>
    rw [ei] at e
    have et : (runM ss num t).trn.take i ++ [1] = t' := by simpa using e
    obtain ⟨hi, h0, _⟩ := nextI_lt ei
    have hx : (runM ss num t).trn[i]? = some 0 := by
      have q := List.getElem?_eq_getElem hi
      rcases hbits _ (List.getElem_mem hi) with z | z
      · rw [q, z]
      · rw [q, z] at h0
        exact absurd rfl h0
    have hsplit : (runM ss num t).trn = (runM ss num t).trn.take i ++ 0 :: (runM ss num t).trn.drop (i + 1) := by
      have q := List.drop_eq_getElem_cons hi
      have q2 : (runM ss num t).trn[i] = 0 := by rw [List.getElem?_eq_getElem hi] at hx; exact Option.some.inj hx
      rw [q2] at q
      rw [← q, List.take_append_drop]
    have hlt : ((runM ss num t).trn.take i).length = i := by rw [List.length_take]; omega
    refine ⟨fun j hj => ?_, ?_, ?_⟩
    · rw [← et] at hj
      rcases List.mem_append.mp hj with z | z
      · exact hbits j (List.mem_of_mem_take z)
      · exact .inr (List.mem_singleton.mp z)
    · -- the run with t' makes these turns
      have agree' : ∀ j, j < i → t.getD j 0 = t'.getD j 0 := fun j hj => by
        have hjl : j < (runM ss num t).trn.length := by omega
        have e1 := hag j _ (List.getElem?_eq_getElem hjl)
        rw [← e1, ← et, List.getD_eq_getElem?_getD, List.getElem?_append_left (by omega), List.getElem?_take_of_lt hj, List.getElem?_eq_getElem hjl] <;> rfl
      have s := sim_L (sim_same (N := N) agree') 4 ss (cs0 num) (cs0 num) ho (.inl ⟨rfl, Nat.zero_le _⟩)
      rw [renL_id] at s
      rcases s with ⟨_, z⟩ | ⟨_, z⟩
      · have z' : (runM ss num t).trn.length ≤ i := z
        omega
      · rw [← et, List.length_append, List.length_singleton, hlt]
        rw [← et] at z
        exact z
    · have v1 : val 4 t = val 4 (runM ss num t).trn := by
        rw [agree_pad hag g.len, val_pad]
      have v2 : val 4 (runM ss num t).trn < val 4 t' := by
        rw [← et]
        rw [congrArg (val 4) hsplit]
        exact val_next 4 _ _ (by omega)
      have := g.fuel
      omega
end
end K29

set_option Elab.async false
set_option linter.all false
set_option maxRecDepth 100000
set_option maxHeartbeats 4000000
/-! ## runs: next_turns, runs_on, each_run -/
namespace K29
open PySem L2
theorem cut_take {xs : List V} {i : Nat} (h : i ≤ xs.length) : cutV xs none (some (i : Int)) = xs.take i := by
  unfold cutV
  rw [HT.sIx_nat, HT.sIx_none, List.drop_zero, Nat.min_eq_left h, Nat.sub_zero]
def leftIs (H : Hp) (q : Addr) : Option (List Int) → Prop
  | none => H q = some (.lst [])
  | some t => ∃ p, H q = some (.lst [.ref p]) ∧ H p = some (.tup (t.map V.int))
theorem leftIs.sm {H H' : Hp} {q : Addr} {lo : Option (List Int)} (h : leftIs H q lo) (s : Same H H') : leftIs H' q lo := by
  cases lo with
  | none => exact s _ _ h
  | some t =>
    obtain ⟨p, h1, h2⟩ := h
    exact ⟨p, s _ _ h1, s _ _ h2⟩
theorem canLay_ints : ∀ l : List Int, PyData.canLayAll0 (l.map .int) = true ∧ PyData.depthAll (l.map .int) ≤ 0 :=
  fun l => lay_all fun d hd => by
    obtain ⟨i, _, rfl⟩ := List.mem_map.mp hd
    exact lay_int
theorem leftIs.dp {K : PySem.W.Frag} {H : Hp} {q : Addr} {lo : Option (List Int)} (h : leftIs H q lo) : ∃ ds, Dp K H (.ref q) (.list ds) ∧ SeqAt.shaped (.list ds) = true ∧ ds.isEmpty = lo.isNone := by
  cases lo with
  | none => exact ⟨[], .lst (SqL.of h) .nil, by decide +kernel, rfl⟩
  | some t =>
    obtain ⟨p, h1, h2⟩ := h
    exact ⟨[.tuple (t.map .int)], .lst (SqL.of h1) (.cons (.tup (SqT.of h2) (RepL.dp _ _ (repL_ints t))) .nil), shaped_of (lay_lst (lay_cons (lay_tup (canLay_ints t)) lay_nil)) (by omega), rfl⟩
section
variable {P : Program} {w : World} {K : PySem.W.Frag} {mg : Str → Option Value} {base : Heap}

def sp_next_turns : Sp := fun vs H Q _ => ∃ (a : Addr) (l : List Int), vs = [.ref a] ∧ H a = some (.tup (l.map V.int)) ∧ l.length ≤ 900 ∧ ∀ H' q, Same H H' → H q = none → leftIs H' q (nextT l) → Q (.ref q) H'
def NextInv (H0 : Hp) (a : Addr) (l : List Int) (m : Nat) (σ : L2.St) (H : Hp) : Prop := ∃ i : Nat, σ = [some (.ref a), some (.int ((i : Int) - 1))] ∧ H = H0 ∧ m = i ∧ i ≤ l.length ∧ nextI l l.length = nextI l i
theorem ok_next_turns (T : Txt K mg) : FnOk P w K mg base CX0 1 T.next_turns.f T.next_turns.fd ["turns"] sp_next_turns := by
  refine T.next_turns.F.ok sc_next_turns (fun vs H Q E h => ?_) (fun cdv A outer s H vs Q E hr h => ?_)
  · obtain ⟨a, l, rfl, _⟩ := h
    rfl
  obtain ⟨a, l, rfl, ha, hz, q⟩ := h
  refine ⟨_, (pss_cons (ps_set (i := 1) sc_next_turns.nd rfl (Or.inl rfl) (pe_op op_sub (pe_callB call_len_seq rfl T.n_len (by decide +kernel) (pa_cons (pv 0) pa_nil)) pe_int))
      (pss_cons (ps_while PassesOwn.never (PW.pt (pw_and (pt_cmpR op_ge (pv 1) pe_int (nomark _)) (pw_and1 (pt_cmpR op_eq (pe_ix ix_tup (pv 0) (pv 1) (fun _ _ => rfl)) pe_int (nomark _)))))
        (pss_one (ps_aug (i := 1) sc_next_turns.nd rfl (Or.inl rfl) pe_int ip_sub)))
      (pss_one (ps_ret (pe_ifExp (pt_cmpR op_ge (pv 1) pe_int (nomark _)) (pe_lst (pa_cons (pe_op op_catA (pe_slice sl_tupA (pv 0) po_none (po_some (pv 1))) (pe_tup (pa_cons pe_int pa_nil))) pa_nil)) (pe_lst pa_nil)))))), ?_⟩
  refine ⟨_, rfl, a, _, rfl, .inr (SqT.of ha), _, _, rfl, rfl, ?_⟩
  refine ⟨NextInv H a l, ⟨l.length, l.length, ?_, rfl, rfl, Nat.le_refl _, rfl⟩, ?_⟩
  · rw [List.length_map] <;> rfl
  rintro m σ H1 ⟨i, rfl, rfl, em, hi, hn⟩
  subst em
  -- behind the loop
  have fin : ∀ (k : Int), (∀ j : Nat, k = (j : Int) → nextI l l.length = some j ∧ j < l.length) → (k < 0 → nextI l l.length = none) →
      tRet (tIf (tTest (tOp (rI0 fun i j => .bl (decide (i ≥ j))) (tVar 1) (tC (.int 0)))) (tLst (tCons (tOp (rCatA K) (tSl (rSlA K) (tVar 0) tNoPart (tPart (tVar 1))) (tTup (tCons (tC (.int 1)) tNil))) tNil)) (tLst tNil))
        { nx := fun _ H' => Q .non H', rt := Q } [some (.ref a), some (.int k)] H1 := fun k hk1 hk2 => by
    refine ⟨_, rfl, _, _, rfl, rfl, _, rfl, ?_⟩
    by_cases h0 : k ≥ 0
    · refine itT (decide_eq_true h0) ?_
      obtain ⟨j, rfl⟩ : ∃ j : Nat, k = (j : Int) := ⟨k.toNat, by omega⟩
      obtain ⟨e1, hj⟩ := hk1 j rfl
      have en : nextT l = some (l.take j ++ [1]) := by unfold nextT; rw [e1] <;> rfl
      have hjm : j < (l.map V.int).length := by rw [List.length_map]; exact hj
      refine ⟨_, rfl, _, rfl, _, rfl, a, _, rfl, SqT.of ha, fun z => ?_, fun _ p hp => ⟨by show 1 ≤ sizeLine; decide, fun u hu => ?_⟩⟩
      · exfalso
        have z2 := z.2
        rw [HT.sIx_nat] at z2
        omega
      rw [cut_take (Nat.le_of_lt hjm), ← List.map_take] at hu ⊢
      have s1 := Same.new hp (.tup ((l.take j).map V.int))
      have s2 := Same.new hu (.tup [.int 1])
      refine ⟨p, u, _, _, rfl, rfl, SqT.of (s2 _ _ upd_same), SqT.of upd_same, small ?_, fun e => ?_, fun _ z => (by cases z), fun _ _ v hv => ?_⟩
      · rw [List.length_map, List.length_take, List.length_singleton]
        omega
      · refine ⟨by show 1 ≤ sizeLine; decide, fun r hr0 => ?_⟩
        have s3 := Same.new hr0 (.lst [.ref u])
        refine q _ r (s1.trans (s2.trans s3)) ((s1.trans s2).free hr0) ?_
        rw [en]
        refine ⟨u, upd_same, ?_⟩
        rw [s3 _ _ upd_same, List.map_append, e] <;> rfl
      · have s3 := Same.new hv (.tup ((l.take j).map V.int ++ [.int 1]))
        refine ⟨by show 1 ≤ sizeLine; decide, fun r hr0 => ?_⟩
        have s4 := Same.new hr0 (.lst [.ref v])
        refine q _ r (s1.trans (s2.trans (s3.trans s4))) ((s1.trans (s2.trans s3)).free hr0) ?_
        rw [en]
        refine ⟨v, upd_same, ?_⟩
        rw [s4 _ _ upd_same, List.map_append] <;> rfl
    · refine itF (decide_eq_false h0) ⟨by show 0 ≤ sizeLine; decide, fun r hr0 => ?_⟩
      refine q _ r (Same.new hr0 _) hr0 ?_
      unfold nextT
      rw [hk2 (by omega)]
      exact upd_same
  refine ⟨_, rfl, _, _, rfl, rfl, _, rfl, ?_⟩
  cases m with
  | zero =>
    refine itF (decide_eq_false (by omega)) (itF rfl ?_)
    exact fin _ (fun j e => by omega) fun _ => by rw [hn]; rfl
  | succ i =>
    have e1 : ((i + 1 : Nat) : Int) - 1 = (i : Int) := by omega
    rw [e1]
    refine itT (decide_eq_true (by omega)) ?_
    have hli : l[i]? = some l[i] := List.getElem?_eq_getElem (by omega)
    refine ⟨_, rfl, _, rfl, a, _, _, .int l[i], rfl, rfl, SqT.of ha, at_ok (by rw [List.getElem?_map, hli] <;> rfl), rfl, _, rfl, ?_⟩
    by_cases h1 : l[i] = 1
    · refine itT (decide_eq_true (by rw [h1])) ⟨fun σ' H' => ∃ m', m' < i + 1 ∧ NextInv H1 a l m' σ' H', fun _ _ h => h, ?_⟩
      refine ⟨_, rfl, _, _, rfl, rfl, ?_⟩
      refine ⟨i, by omega, i, rfl, rfl, rfl, by omega, ?_⟩
      rw [hn, nextI, if_pos (by rw [hli, h1])]
    · refine itF (decide_eq_false fun z => h1 (V.int.inj z)) ?_
      refine fin _ (fun j e => ?_) fun z => by omega
      have ej : j = i := by omega
      rw [ej, hn, nextI, if_neg (by rw [hli]; exact fun z => h1 (Option.some.inj z))]
      exact ⟨rfl, by omega⟩

def allRuns (ss : List Sm) (num : Int) : List Row := runsF (runM ss num) 16 (some [])
def RunsInv (H0 : Hp) (v : V) (num : Int) (ff : Addr) (ss : List Sm) (m : Nat) (σ : L2.St) (H : Hp) : Prop :=
  ∃ (lf : Addr) (lo : Option (List Int)) (rows : List Row) (fs : List V) (o : Option V), σ = [some v, some (.int num), some (.ref lf), some (.ref ff), o] ∧ Same H0 H ∧ leftIs H lf lo ∧ H ff = some (.lst fs) ∧
    RepL H (rows.map encR) fs ∧ rows ++ runsF (runM ss num) m lo = allRuns ss num ∧ rows.length + m ≤ 16 ∧ ∀ t, lo = some t → Good ss num m t
def sp_runs_on : Sp := fun vs H Q _ => ∃ (v : V) (num : Int) (ss : List Sm) (N : Str → Prop), vs = [v, .int num] ∧ RepB H ss v ∧ okL N 4 ss ∧ cntL 0 ss ≤ 900 ∧ cntL 1 ss ≤ 4 ∧
  ∀ H' l xs, Same H H' → H' l = some (.lst xs) → RepL H' ((allRuns ss num).map encR) xs → Q (.ref l) H'
theorem ok_runs_on (T : Txt K mg) : FnOk P w K mg base CX0 20 T.runs_on.f T.runs_on.fd ["program", "number"] sp_runs_on := by
  have G_run := ok_run (P := P) (w := w) (base := base) T
  have G_next_turns := ok_next_turns (P := P) (w := w) (base := base) T
  refine T.runs_on.F.ok sc_runs_on (fun vs H Q E h => ?_) (fun cdv A outer s H vs Q E hr h => ?_)
  · obtain ⟨v, num, ss, N, rfl, _⟩ := h
    rfl
  obtain ⟨v, num, ss, N, rfl, hv, ho, hw, hc, q⟩ := h
  refine ⟨_, (pss_cons (ps_par (i := 2) (j := 3) rfl sc_runs_on.nd rfl rfl (by decide) rfl rfl (pa_cons (pe_lst (pa_cons (pe_tup pa_nil) pa_nil)) (pa_cons (pe_lst pa_nil) pa_nil)) rfl)
      (pss_cons (ps_while PassesOwn.never (pt_cmpR (op_neD hr.units) (pv 2) (pe_lst pa_nil) (nomark _))
        (pss_cons (ps_set (i := 4) sc_runs_on.nd rfl (Or.inl rfl) (pe_call G_run (hr.mono (by omega)) rfl T.run.g T.run.F.kp T.run.B .nil pass0 (pa_cons (pv 0) (pa_cons (pv 1) (pa_cons (pe_ix ix_list (pv 2) pe_int (fun _ _ => rfl)) pa_nil)))))
        (pss_cons (ps_expr (pe_bm PySem.F.plainAttrs_list PySem.F.slot_list_append PySem.F.type_list_append mt_append (pv 3) (pa_cons (pv 4) pa_nil)))
        (pss_one (ps_set (i := 2) sc_runs_on.nd rfl (Or.inl rfl) (pe_call G_next_turns (hr.mono (by omega)) rfl T.next_turns.g T.next_turns.F.kp T.next_turns.B .nil pass0 (pa_cons (pe_ix ix_tup (pv 4) pe_int (fun _ _ => rfl)) pa_nil)))))))
      (pss_one (ps_ret (pv 3))))), ?_⟩
  -- left, found = [()], []
  refine ⟨by show 0 ≤ sizeLine; decide, fun t0 ht0 => ⟨by show 1 ≤ sizeLine; decide, fun lf hlf => ⟨by show 0 ≤ sizeLine; decide, fun ff hff => ⟨_, _, rfl, ?_⟩⟩⟩⟩
  have k0 := Same.new ht0 (.tup [])
  have k1 := Same.new hlf (.lst [.ref t0])
  have k2 := Same.new hff (.lst [])
  have fff : H ff = none := (k0.trans k1).free hff
  refine ⟨RunsInv H v num ff ss, ⟨16, lf, some [], [], [], none, rfl, k0.trans (k1.trans k2), ⟨t0, k2 _ _ upd_same, k2 _ _ (k1 _ _ upd_same)⟩, upd_same, rfl, rfl, Nat.le_refl _, fun t e => ?_⟩, ?_⟩
  · cases e
    exact good_nil ho hc 16 (Nat.le_refl _)
  rintro m σ H7 ⟨lf, lo, rows, fs, o, rfl, s7, hl, hf, hrep, hrows, hm, hg⟩
  refine ⟨_, rfl, by show 0 ≤ sizeLine; decide, fun e he => ?_⟩
  have s8 := Same.new he (.lst [])
  obtain ⟨ds, d1, d2, d3⟩ := (hl.sm s8).dp (K := K)
  refine ⟨_, _, d1, .lst (SqL.of upd_same) .nil, d2, by decide +kernel, _, rfl, ?_⟩
  rw [eqv_nil, d3]
  cases lo with
  | none =>
    refine itF rfl ⟨_, rfl, q _ ff fs (s7.trans s8) (s8 _ _ hf) ?_⟩
    rw [runsF, List.append_nil] at hrows
    rw [← hrows]
    exact RepL.sm hrep s8
  | some t =>
    have gt := hg t rfl
    cases m with
    | zero =>
      have := good_fuel ho hc gt
      omega
    | succ m =>
    refine itT rfl ⟨fun σ' H' => ∃ m', m' < m + 1 ∧ RunsInv H v num ff ss m' σ' H', fun _ _ h => h, ?_⟩
    obtain ⟨p, hlp, hp⟩ := hl
    -- row = run(program, number, left[0])
    refine ⟨_, rfl, _, rfl, _, rfl, lf, _, _, _, rfl, rfl, SqL.of (s8 _ _ hlp), rfl, v, num, p, t, ss, N, rfl, Rep.sm hv (s7.trans s8), ho, hw, s8 _ _ hp, gt.bits, fun H9 r tt hh s9 hr1 htt hhh => ?_⟩
    have f9 : H9 ff = some (.lst fs) := s9 _ _ (s8 _ _ hf)
    have hfl := RepL.len hrep
    rw [List.length_map] at hfl
    -- found.append(row)
    refine ⟨_, rfl, .inl ⟨rfl, _, .inl (.inl f9)⟩, _, rfl, ff, fs, _, rfl, rfl, f9, small1000 (by omega), ?_⟩
    have k10 := tups_put f9 (.lst (fs ++ [.ref r]))
    have s10 : Same H (upd H9 ff (.lst (fs ++ [.ref r]))) := Same.put (s7.trans (s8.trans s9)) fff _
    -- left = next_turns(row[1])
    have hlen := (run_agree (num := num) ho hc t).1
    refine ⟨_, rfl, _, _, _, _, rfl, rfl, SqT.of (k10 _ _ hr1), rfl, tt, (runM ss num t).trn, rfl, k10 _ _ htt, by omega, fun H11 lf2 s11 _ hl2 => ?_⟩
    refine ⟨m, by omega, lf2, nextT (runM ss num t).trn, rows ++ [runM ss num t], fs ++ [.ref r], _, rfl, s10.trans s11, hl2, s11 _ _ upd_same, ?_, ?_, ?_, fun t' e' => good_next ho hc gt e'⟩
    · rw [List.map_append]
      refine RepL.sm (RepL.append (RepL.mono k10 _ _ (RepL.sm hrep (s8.trans s9))) (RepL.one ?_)) s11
      unfold encR
      exact rep_tuple.mpr ⟨r, _, rfl, k10 _ _ hr1, repl3.mpr ⟨_, _, _, rfl, rep_int.mpr rfl, rep_tuple.mpr ⟨tt, _, rfl, k10 _ _ htt, repL_ints _⟩, rep_tuple.mpr ⟨hh, _, rfl, k10 _ _ hhh, repL_strs _⟩⟩⟩
    · rw [← hrows, List.append_assoc] <;> rfl
    · rw [List.length_append, List.length_singleton]
      omega

def sp_each_run : SpG := fun vs H Q _ => ∃ (v : V) (num : Int) (ss : List Sm) (N : Str → Prop), vs = [v, .int num] ∧ RepB H ss v ∧ okL N 4 ss ∧ cntL 0 ss ≤ 900 ∧ cntL 1 ss ≤ 4 ∧
  ∀ H' xs, Same H H' → RepL H' ((allRuns ss num).map encR) xs → Q xs H'
theorem runsF_len (run : List Int → Row) : ∀ (f : Nat) (lo : Option (List Int)), (runsF run f lo).length ≤ f
  | 0, none => by simp [runsF]
  | 0, some _ => by simp [runsF]
  | f + 1, none => by simp [runsF]
  | f + 1, some t => by
    have := runsF_len run f (nextT (run t).trn)
    simp only [runsF, List.length_cons]
    omega
theorem ok_each_run (T : Txt K mg) : GFn P w K mg base 21 T.each_run.f T.each_run.fd ["program", "number"] sp_each_run := by
  have G_runs_on := ok_runs_on (P := P) (w := w) (base := base) T
  obtain ⟨oc, od, kV, doc, pm, an, cdv, ct, osl, efd, lk, hcd⟩ := T.each_run.F.ex
  rw [efd] at lk ⊢
  refine gfn_of lk hcd sc_each_run (fun vs H Q E h => ?_) (fun A outer s H vs Q E pn hr h => ?_)
  · obtain ⟨v, num, ss, N, rfl, _⟩ := h
    rfl
  obtain ⟨v, num, ss, N, rfl, hv, ho, hw, hc, q⟩ := h
  refine ⟨_, gss_cons (gs_for owns_gcx rfl (pi_list (pe_call G_runs_on (hr.mono (by omega)) rfl T.runs_on.g T.runs_on.F.kp T.runs_on.B .nil pass0 (pa_cons (pv 0) (pa_cons (pv 1) pa_nil))))
      (pg_name (i := 2) sc_each_run.nd rfl (Or.inl rfl)) (gss_cons (gs_yield (pv 2)) gss_nil)) gss_nil, ?_⟩
  refine ⟨_, rfl, _, rfl, v, num, ss, N, rfl, hv, ho, hw, hc, fun H1 l xs s1 hl hx => ⟨l, rfl, ⟨xs, SqL.of hl⟩, ?_⟩⟩
  have hlx := RepL.len hx
  have hl16 := runsF_len (runM ss num) 16 (some [])
  rw [List.length_map] at hlx
  have hlx16 : xs.length ≤ 16 := by rw [hlx]; exact hl16
  refine ⟨fun i m ys σ H2 => m = xs.length - i ∧ i ≤ xs.length ∧ ys = xs.take i ∧ H2 = H1 ∧ ∃ o, σ = [some v, some (.int num), o], ⟨_, rfl, Nat.zero_le _, rfl, rfl, none, rfl⟩, ?_⟩
  rintro i m ys σ H2 ⟨rfl, hi, rfl, rfl, o, rfl⟩
  rcases Nat.lt_or_ge i xs.length with hlt | hge
  · refine .inr ⟨⟨xs, xs[i], SqL.of hl, List.getElem?_eq_getElem hlt⟩, fun ys' σ' H' => ∃ m', m' < xs.length - i ∧ m' = xs.length - (i + 1) ∧ i + 1 ≤ xs.length ∧ ys' = xs.take (i + 1) ∧ H' = H2 ∧ ∃ o, σ' = [some v, some (.int num), o], fun ys' σ' H' ⟨m', h1, h2⟩ => ⟨m', h1, h2⟩, ?_⟩
    rintro x H' ⟨rfl, hy⟩
    have ex := hy xs (SqL.of hl)
    refine ⟨small1000 (by rw [List.length_take]; omega), _, rfl, ?_⟩
    exact ⟨_, by omega, rfl, hlt, (take_succ ex).symm, rfl, some x, rfl⟩
  · have e : i = xs.length := by omega
    subst e
    refine .inl ⟨⟨xs, SqL.of hl, Nat.le_refl _⟩, ?_⟩
    show Q _ _
    rw [List.take_length]
    exact q _ xs s1 hx
end
end K29

set_option Elab.async false
set_option linter.all false
set_option maxRecDepth 100000
set_option maxHeartbeats 4000000
/-! ## the law's side: deck, draw, one -/
namespace K29
open PySem L2
/-- a deck at d, its cells at c, at most n draws -/
def Dk (H : Hp) (d c : Addr) (n : Nat) : Prop := ∃ (m : Nat) (cells : List Int), m ≤ n ∧ H d = some (.lst [.ref c, .int (m : Nat)]) ∧ H c = some (.lst (cells.map V.int)) ∧ cells.length ≤ 63 ∧ ∀ z ∈ cells, 0 ≤ z
theorem Dk.ne {H : Hp} {d c : Addr} {n : Nat} (h : Dk H d c n) : d ≠ c := by
  obtain ⟨m, cs, _, h1, h2, _⟩ := h
  intro e
  rw [e, h2] at h1
  cases cs with
  | nil => cases h1
  | cons a r => cases h1
theorem Dk.sm {H H' : Hp} {d c : Addr} {n : Nat} (h : Dk H d c n) (s : Same H H') : Dk H' d c n := by
  obtain ⟨m, cs, h0, h1, h2, h3⟩ := h
  exact ⟨m, cs, h0, s _ _ h1, s _ _ h2, h3⟩
theorem Dk.le {H : Hp} {d c : Addr} {n n' : Nat} (h : Dk H d c n) (e : n ≤ n') : Dk H d c n' := by
  obtain ⟨m, cs, h0, h⟩ := h
  exact ⟨m, cs, Nat.le_trans h0 e, h⟩
theorem Dk.kp {H H' : Hp} {ms : List Addr} {d c : Addr} {n : Nat} (h : Dk H d c n) (k : Kp ms H H') (hd : d ∉ ms) (hc : c ∉ ms) : Dk H' d c n := by
  obtain ⟨m, cs, h0, h1, h2, h3⟩ := h
  exact ⟨m, cs, h0, k.keep _ _ h1 hd, k.keep _ _ h2 hc, h3⟩
theorem Dk.dNotTup {H : Hp} {d c : Addr} {n : Nat} (h : Dk H d c n) : ∀ xs, H d ≠ some (.tup xs) := by
  obtain ⟨m, cs, h0, h1, h2, h3⟩ := h
  intro xs e
  rw [h1] at e
  cases e
/-- new after a walk that kept d and c: new before -/
theorem Dk.fresh {H H1 : Hp} {d c : Addr} {n : Nat} (h : Dk H1 d c n) (k : Kp [d, c] H H1) {l : Addr} (hl : H1 l = none) : H l = none := by
  cases e : H l with
  | none => rfl
  | some o =>
    exfalso
    obtain ⟨m, cs, h0, h1, h2, h3⟩ := h
    by_cases z1 : l = d
    · rw [z1, h1] at hl; cases hl
    by_cases z2 : l = c
    · rw [z2, h2] at hl; cases hl
    rw [k.keep l o e (by simp [z1, z2])] at hl
    cases hl
abbrev tInt (t : TE) : TE := tCB (fun xs H Q => (∃ i, xs = [V.int i] ∧ Q (V.int i) H) ∨ ∃ k, xs = [V.bl k] ∧ Q (V.int (if k = true then 1 else 0)) H) (tCons t tNil)
abbrev BIG : Nat := 1099511627776
theorem ixN_at {n j : Nat} (h : j < n) : ixN n (j : Int) = some j := by
  unfold ixN
  rw [if_pos (Int.natCast_nonneg j), if_pos (by omega), Int.toNat_natCast]
section
variable {P : Program} {w : World} {K : PySem.W.Frag} {mg : Str → Option Value} {base : Heap}

def sp_deck (K : PySem.W.Frag) : Sp := fun vs H Q _ => ∃ (a : Addr) (ns : List Int), vs = [.ref a] ∧ SqL K H a (ns.map V.int) ∧ (∀ H', Same H H' → SqL K H' a (ns.map V.int)) ∧ ∀ H' d c, Same H H' → H d = none → H c = none → Dk H' d c 0 → Q (.ref d) H'
theorem ok_deck (T : Txt K mg) : FnOk P w K mg base CX0 1 T._law_deck.f T._law_deck.fd ["_law_script"] (sp_deck K) := by
  refine T._law_deck.F.ok sc__law_deck (fun vs H Q E h => ?_) (fun cdv A outer s H vs Q E hr h => ?_)
  · obtain ⟨a, ns, rfl, _⟩ := h
    rfl
  obtain ⟨a, ns, rfl, ha, ha2, q⟩ := h
  refine ⟨_, (pss_one (ps_ret (pe_lst (pa_cons (pe_lc (own := [("_law_cell", 1)]) (g := gName 1) (tt := tYes) rfl sc__law_deck.nd (pi_list (pe_slice sl_list (pv 0) po_none (po_some pe_int))) (blkOk_by (N := N__law_deck) (sc := defScope s__law_deck) (by decide +kernel)) (fun _ _ _ _ _ => pg_name (i := 1) sc__law_deck.nd rfl (Or.inl rfl)) (fun _ _ _ _ _ => pts_nil) (fun _ _ _ _ _ => (pe_callB call_abs rfl T.n_abs (by decide +kernel) (pa_cons (pv 1) pa_nil)))) (pa_cons pe_int pa_nil))))), ?_⟩
  have ec : cutV (ns.map V.int) none (some ((63 : Nat) : Int)) = (ns.take 63).map V.int := by
    unfold cutV
    rw [HT.sIx_nat, HT.sIx_none, List.drop_zero, Nat.sub_zero, List.map_take]
    rcases Nat.le_total 63 (ns.map V.int).length with h | h
    · rw [Nat.min_eq_left h]
    · rw [Nat.min_eq_right h, List.take_of_length_le (Nat.le_refl _), List.take_of_length_le h]
  refine ⟨_, rfl, _, rfl, a, _, rfl, ha, fun p hp => ?_⟩
  rw [show (63 : Int) = ((63 : Nat) : Int) from rfl, ec]
  have sp := Same.new hp (.lst ((ns.take 63).map V.int))
  refine ⟨p, rfl, ⟨_, SqL.of upd_same⟩, fun D hD => ?_⟩
  refine lc_it (walk_list (K := K) (xs := (ns.take 63).map V.int)) (fun j H6 => H6 D = some (.lst (((ns.take 63).take j).map fun z => V.int (if z < 0 then -z else z))) ∧ Same (upd H p (.lst ((ns.take 63).map V.int))) H6)
    ⟨upd_same, Same.new hD _⟩ (fun j H6 _ ⟨_, s6⟩ => SqL.of (s6 _ _ upd_same)) ?_ ?_
  · rintro j x H6 H7 hj ⟨eD, s6⟩ ⟨rfl, hx⟩
    obtain ⟨z, hz, rfl⟩ : ∃ z, (ns.take 63)[j]? = some z ∧ x = .int z := by
      rw [List.getElem?_map] at hx
      cases e : (ns.take 63)[j]? with
      | none => rw [e] at hx; cases hx
      | some z => rw [e] at hx; exact ⟨z, rfl, (Option.some.inj hx).symm⟩
    refine ⟨rfl, _, rfl, z, rfl, _, eD, ?_, ?_, Same.put s6 hD _⟩
    · rw [List.length_map, List.length_take, List.length_take]
      exact small1000 (by omega)
    · rw [upd_same, take_succ hz, List.map_append] <;> rfl
  rintro H6 ⟨eD, s6⟩
  rw [List.length_map, List.take_length] at eD
  refine ⟨by show 2 ≤ sizeLine; decide, fun d hd => ?_⟩
  have s7 := Same.new hd (.lst [.ref D, .int 0])
  refine q _ d D (sp.trans (s6.trans s7)) ((sp.trans s6).free hd) (sp.free hD) ⟨0, (ns.take 63).map fun z => if z < 0 then -z else z, Nat.le_refl _, upd_same, ?_, ?_, ?_⟩
  · rw [s7 _ _ eD, List.map_map] <;> rfl
  · rw [List.length_map, List.length_take]
    omega
  · intro z hz
    obtain ⟨y, _, rfl⟩ := List.mem_map.mp hz
    show 0 ≤ if y < 0 then -y else y
    split <;> omega

def sp_draw : Sp := fun vs H Q _ => ∃ (d c : Addr) (n : Nat) (many : Int), vs = [.ref d, .int many] ∧ Dk H d c n ∧ n ≤ BIG ∧ 0 < many ∧ many ≤ 1000000000 ∧
  ∀ H' r, Kp [d, c] H H' → Dk H' d c (n + 1) → 0 ≤ r → r < many → Q (.int r) H'
theorem ok_draw (T : Txt K mg) : FnOk P w K mg base CX0 1 T._law_draw.f T._law_draw.fd ["_law_deck_here", "_law_many"] sp_draw := by
  refine T._law_draw.F.ok sc__law_draw (fun vs H Q E h => ?_) (fun cdv A outer s H vs Q E hr h => ?_)
  · obtain ⟨d, c, n, many, rfl, _⟩ := h
    rfl
  obtain ⟨d, c, n, many, rfl, hD, hn, h1, h2, q⟩ := h
  have hne := hD.ne
  obtain ⟨m, cs, hm, ed, ec, hc63, hcs⟩ := hD
  refine ⟨_, (pss_cons (ps_asg (pe_op op_add (pe_ix ix_list (pv 0) pe_int (fun _ _ => rfl)) pe_int) (pg_sub (pv 0) pe_int set_list))
      (pss_cons (ps_asg (pe_tup (pa_cons pe_int (pa_cons (pe_un un_neg pe_int) pa_nil))) (pg_tup rfl (pgs_cons (pg_name (i := 3) sc__law_draw.nd rfl (Or.inl rfl)) (pgs_cons (pg_name (i := 4) sc__law_draw.nd rfl (Or.inl rfl)) pgs_nil))))
      (pss_cons (ps_if (pt_cmpR op_gt (pe_callB call_len_seq rfl T.n_len (by decide +kernel) (pa_cons (pe_ix ix_list (pv 0) pe_int (fun _ _ => rfl)) pa_nil)) pe_int (nomark _))
        (pss_cons (ps_set (i := 4) sc__law_draw.nd rfl (Or.inl rfl) (pe_op op_mod (pe_callTy call_int1 rfl T.n_int (by decide +kernel) (pa_cons (pe_ix ix_list (pv 0) pe_int (fun _ _ => rfl)) pa_nil)) (pe_callB call_len_seq rfl T.n_len (by decide +kernel) (pa_cons (pe_ix ix_list (pv 0) pe_int (fun _ _ => rfl)) pa_nil))))
        (pss_one (ps_set (i := 3) sc__law_draw.nd rfl (Or.inl rfl) (pe_ix ix_list (pe_ix ix_list (pv 0) pe_int (fun _ _ => rfl)) (pv 4) (fun _ _ => rfl)))))
        pss_nil)
      (pss_cons (ps_if (pt_cmpR op_ge (pv 3) (pe_op op_pow pe_int pe_int) (nomark _))
        (pss_cons (ps_asg (pe_op op_fdivW (pe_callTy call_int1 rfl T.n_int (by decide +kernel) (pa_cons (pv 3) pa_nil)) (pv 1)) (pg_sub (pe_ix ix_list (pv 0) pe_int (fun _ _ => rfl)) (pv 4) set_list))
        (pss_one (ps_ret (pe_op op_mod (pe_callTy call_int1 rfl T.n_int (by decide +kernel) (pa_cons (pv 3) pa_nil)) (pv 1)))))
        pss_nil)
      (pss_cons (ps_set (i := 2) sc__law_draw.nd rfl (Or.inl rfl) (pe_op op_add (pe_op op_add (pe_op op_mod (pe_callTy call_int1 rfl T.n_int (by decide +kernel) (pa_cons (pv 3) pa_nil)) pe_int) (pe_op op_mul pe_int (pe_ix ix_list (pv 0) pe_int (fun _ _ => rfl)))) pe_int))
      (pss_one (ps_ret (pe_op op_mod (pe_callTy call_int1 rfl T.n_int (by decide +kernel) (pa_cons (pe_op op_mod (pe_callTy call_int1 rfl T.n_int (by decide +kernel) (pa_cons (pe_op op_pow (pv 2) pe_int) pa_nil)) pe_int) pa_nil)) (pv 1))))))))), ?_⟩
  have eB : BIG = 1099511627776 := rfl
  -- deck[1] = deck[1] + 1
  refine ⟨_, rfl, _, _, _, _, rfl, rfl, SqL.of ed, rfl, _, _, rfl, rfl, ?_⟩
  refine ⟨_, rfl, _, _, _, 1, rfl, rfl, ed, rfl, ?_⟩
  have k1 : Kp [d, c] H (upd H d (.lst [.ref c, .int ((m : Nat) + 1)])) := Kp.putL (by simp) ed _
  have ed1 : (upd H d (.lst [.ref c, .int ((m : Nat) + 1)])) d = some (.lst [.ref c, .int ((m : Nat) + 1)]) := upd_same
  have ec1 : (upd H d (.lst [.ref c, .int ((m : Nat) + 1)])) c = some (.lst (cs.map V.int)) := by rw [upd_ne hne.symm]; exact ec
  have fin1 : (upd H d (.lst ([V.ref c, V.int (m : Nat)].set 1 (.int ((m : Nat) + 1))))) = upd H d (.lst [.ref c, .int ((m : Nat) + 1)]) := rfl
  show (tAsg (tTup (tCons (tC (.int 0)) (tCons (tUn (rU fun i => .int (-i)) (tC (.int 1))) tNil))) (gTup K 2 (gCons (gName 3) (gCons (gName 4) gNil)))) _ [some (.ref d), some (.int many), none, none, none] (upd H d (.lst [.ref c, .int ((m : Nat) + 1)]))
  generalize upd H d (.lst [.ref c, .int ((m : Nat) + 1)]) = H1 at k1 ed1 ec1 ⊢
  refine ⟨1, rfl, by show 2 ≤ sizeLine; decide, fun p hp => ⟨p, _, rfl, SqT.of upd_same, rfl, _, _, rfl, _, _, rfl, rfl, ?_⟩⟩
  have s2 := Same.new hp (.tup [.int 0, .int (-1)])
  have k2 := k1.trans (Kp.of_same (ms := [d, c]) s2)
  have ed2 := s2 _ _ ed1
  have ec2 := s2 _ _ ec1
  have done : ∀ H', Kp [d, c] H H' → (∃ cs' : List Int, H' d = some (.lst [.ref c, .int ((m : Nat) + 1)]) ∧ H' c = some (.lst (cs'.map V.int)) ∧ cs'.length ≤ 63 ∧ ∀ z ∈ cs', 0 ≤ z) → ∀ r, 0 ≤ r → r < many → Q (.int r) H' := fun H' k ⟨cs', a1, a2, a3, a4⟩ r r0 r1 =>
    q H' r k ⟨m + 1, cs', by omega, a1, a2, a3, a4⟩ r0 r1
  -- behind the first if
  have rest : ∀ (z at_ : Int), 0 ≤ z → (z = 0 ∨ ∃ j : Nat, at_ = (j : Nat) ∧ j < cs.length) →
      (tSeq
              (tIfS (tTest (tOp (rI0 fun i j => V.bl (decide (j ≤ i))) (tVar 3) (tOp (rI CPow fun i j => V.int (i ^ j.toNat)) (tC (V.int 10)) (tC (V.int 18)))))
                (tSeq (tAsg (tOp (rI CDivW fun i j => V.int (i / j)) (tInt (tVar 3)) (tVar 1)) (gSub (tOp (rIxL K) (tVar 0) (tC (V.int 0))) (tVar 4) rSetL))
                  (tRet (tOp (rI (fun x j => 0 < j) fun i j => V.int (i % j)) (tInt (tVar 3)) (tVar 1))))
                tNext)
              (tSeq
                (tAsg (tOp (rI0 fun i j => V.int (i + j)) (tOp (rI0 fun i j => V.int (i + j)) (tOp (rI (fun x j => 0 < j) fun i j => V.int (i % j)) (tInt (tVar 3)) (tC (V.int 2147483563)))
                      (tOp (rI CMul fun i j => V.int (i * j)) (tC (V.int 8117)) (tOp (rIxL K) (tVar 0) (tC (V.int 1))))) (tC (V.int 3))) (gName 2))
                (tRet (tOp (rI (fun x j => 0 < j) fun i j => V.int (i % j))
                    (tInt (tOp (rI (fun x j => 0 < j) fun i j => V.int (i % j)) (tInt (tOp (rI CPow fun i j => V.int (i ^ j.toNat)) (tVar 2) (tC (V.int 5)))) (tC (V.int 2147483629)))) (tVar 1)))))
        { nx := fun _ H' => Q .non H', rt := Q } [some (.ref d), some (.int many), none, some (.int z), some (.int at_)] (upd H1 p (.tup [.int 0, .int (-1)])) := by
    intro z at_ hz hat
    refine ⟨_, rfl, _, _, rfl, rfl, ⟨by decide, by decide, by decide⟩, _, _, rfl, rfl, _, rfl, ?_⟩
    by_cases hb : (10 : Int) ^ (18 : Int).toNat ≤ z
    · refine itT (decide_eq_true hb) ?_
      have hz0 : z ≠ 0 := fun e => by rw [e] at hb; exact absurd hb (by decide)
      obtain ⟨j, rfl, hj⟩ := hat.resolve_left hz0
      refine ⟨_, rfl, .inl ⟨z, rfl, _, rfl, z, many, rfl, rfl, wide_div (b := 40) h1 (by omega) (by decide) (by decide), ?_⟩⟩
      refine ⟨_, rfl, _, _, _, _, rfl, rfl, SqL.of ed2, rfl, _, rfl, c, _, _, j, rfl, rfl, ec2, ixN_at (by rw [List.length_map]; exact hj), ?_⟩
      refine ⟨_, rfl, .inl ⟨z, rfl, _, rfl, z, many, rfl, rfl, h1, ?_⟩⟩
      refine done _ (k2.trans (Kp.putL (by simp) ec2 _)) ⟨cs.set j (z / many), ?_, ?_, ?_, ?_⟩ _ (Int.emod_nonneg _ (by omega)) (Int.emod_lt_of_pos _ h1)
      · rw [upd_ne hne]; exact ed2
      · rw [upd_same, List.map_set]
      · rw [List.length_set]; exact hc63
      · intro y hy
        rcases List.mem_or_eq_of_mem_set hy with e | e
        · exact hcs y e
        · rw [e]; exact Int.ediv_nonneg hz (by omega)
    · refine itF (decide_eq_false hb) ?_
      refine ⟨_, rfl, .inl ⟨z, rfl, z, 2147483563, rfl, rfl, (by show (0 : Int) < 2147483563; decide), _, rfl, _, _, _, _, rfl, rfl, SqL.of ed2, rfl, _, _, rfl, rfl, .inl ⟨by decide, by decide⟩, _, _, rfl, rfl, _, _, rfl, rfl, ?_⟩⟩
      have b1 := Int.emod_nonneg z (b := 2147483563) (by decide)
      have b2 := Int.emod_lt_of_pos z (b := 2147483563) (by decide)
      show (tRet (tOp (rI (fun x j => 0 < j) fun i j => V.int (i % j)) (tInt (tOp (rI (fun x j => 0 < j) fun i j => V.int (i % j)) (tInt (tOp (rI CPow fun i j => V.int (i ^ j.toNat)) (tVar 2) (tC (V.int 5)))) (tC (V.int 2147483629)))) (tVar 1)))
        { nx := fun _ H' => Q .non H', rt := Q } [some (.ref d), some (.int many), some (.int (z % 2147483563 + 8117 * (((m : Nat) : Int) + 1) + 3)), some (.int z), some (.int at_)] (upd H1 p (.tup [.int 0, .int (-1)]))
      have b3 : (z % 2147483563 + 8117 * (((m : Nat) : Int) + 1) + 3).natAbs < 2 ^ 64 := by
        have : (m : Int) ≤ 1099511627776 := by omega
        omega
      generalize z % 2147483563 + 8117 * (((m : Nat) : Int) + 1) + 3 = x at b3 ⊢
      refine ⟨_, rfl, _, _, rfl, rfl, ⟨by decide, by decide, b3⟩, .inl ⟨_, rfl, _, _, rfl, rfl, (by show (0 : Int) < 2147483629; decide), .inl ⟨_, rfl, _, rfl, _, _, rfl, rfl, h1, ?_⟩⟩⟩
      exact done _ (k2) ⟨cs, ed2, ec2, hc63, hcs⟩ _ (Int.emod_nonneg _ (by omega)) (Int.emod_lt_of_pos _ h1)
  refine ⟨_, rfl, _, _, _, _, rfl, rfl, SqL.of ed2, rfl, c, _, rfl, .inl (SqL.of ec2), _, _, rfl, rfl, _, rfl, ?_⟩
  rw [List.length_map]
  by_cases he : (0 : Int) < (cs.length : Nat)
  · refine itT (decide_eq_true he) ?_
    refine ⟨_, rfl, _, _, _, _, rfl, rfl, SqL.of ed2, rfl, .inl ⟨_, rfl, _, rfl, _, _, _, _, rfl, rfl, SqL.of ed2, rfl, c, _, rfl, .inl (SqL.of ec2), _, _, rfl, rfl, (by show (0 : Int) < ((cs.map V.int).length : Nat); rw [List.length_map]; exact he), ?_⟩⟩
    rw [List.length_map]
    obtain ⟨j, hj, hjl⟩ : ∃ j : Nat, ((m : Nat) + 1 : Int) % (cs.length : Nat) = (j : Nat) ∧ j < cs.length := by
      have a1 := Int.emod_nonneg ((m : Nat) + 1 : Int) (b := (cs.length : Nat)) (by omega)
      have a2 := Int.emod_lt_of_pos ((m : Nat) + 1 : Int) (b := (cs.length : Nat)) he
      exact ⟨(((m : Nat) + 1 : Int) % (cs.length : Nat)).toNat, by omega, by omega⟩
    have ej : cs[j]? = some cs[j] := List.getElem?_eq_getElem hjl
    show (tAsg (tOp (rIxL K) (tOp (rIxL K) (tVar 0) (tC (V.int 0))) (tVar 4)) (gName 3)) _ [some (.ref d), some (.int many), none, some (.int 0), some (.int (((m : Nat) + 1 : Int) % (cs.length : Nat)))] _
    rw [hj]
    refine ⟨_, rfl, _, _, _, _, rfl, rfl, SqL.of ed2, rfl, _, rfl, c, _, _, _, rfl, rfl, SqL.of ec2, at_ok (by rw [List.getElem?_map, ej] <;> rfl), ?_⟩
    exact rest cs[j] j (hcs _ (List.getElem_mem hjl)) (.inr ⟨j, rfl, hjl⟩)
  · refine itF (decide_eq_false he) ?_
    exact rest 0 (-1) (by omega) (.inl rfl)
end
end K29

set_option Elab.async false
set_option linter.all false
set_option maxRecDepth 100000
set_option maxHeartbeats 4000000
/-! ## the law's side: one, expression -/
namespace K29
open PySem L2
theorem cutC {α β : Type} (cond : α → β → Prop) (C : α → β → Prop) {G : Prop} (pre : (∀ a b, cond a b → C a b) → G) (h : ∀ a b, cond a b → C a b) : G := pre h
theorem Dk.new {H : Hp} {d c p : Addr} {n : Nat} (h : Dk H d c n) (hp : H p = none) : p ≠ d ∧ p ≠ c := by
  obtain ⟨m, cs, h0, h1, h2, h3⟩ := h
  exact ⟨fun e => (by rw [e, h1] at hp; cases hp), fun e => (by rw [e, h2] at hp; cases hp)⟩
theorem at_int {α : Type} {xs : List α} {i : Int} {v : α} (h0 : 0 ≤ i) (h : xs[i.toNat]? = some v) : atI xs i = some v := by
  have := at_ok h
  rwa [Int.toNat_of_nonneg h0] at this
theorem Dk.upd_new {H : Hp} {d c p : Addr} {n : Nat} (h : Dk H d c n) (hp : H p = none) (o : HO) : Dk (upd H p o) d c n := h.sm (Same.new hp o)
section
variable {P : Program} {w : World} {K : PySem.W.Frag} {mg : Str → Option Value} {base : Heap}

def sp_one : Sp := fun vs H Q _ => ∃ (d c : Addr) (n : Nat) (it : V), vs = [.ref d, it] ∧ Dk H d c n ∧ n ≤ BIG ∧
  ((∃ l xs, it = .ref l ∧ H l = some (.lst xs) ∧ l ≠ d ∧ l ≠ c ∧ 1 ≤ xs.length ∧ xs.length ≤ 1000 ∧ ∀ H' (v : V) (i : Nat), Kp [d, c] H H' → Dk H' d c (n + 1) → xs[i]? = some v → Q v H') ∨
  (∃ z : Str, it = .str z ∧ 1 ≤ z.length ∧ z.length ≤ 1000 ∧ ∀ H' cp, Kp [d, c] H H' → Dk H' d c (n + 1) → cp ∈ z.cps.toList → Q (.str ⟨#[cp]⟩) H'))
theorem ok_one (T : Txt K mg) : FnOk P w K mg base CX0 2 T._law_one.f T._law_one.fd ["_law_deck_here", "_law_items"] sp_one := by
  have G__law_draw := ok_draw (P := P) (w := w) (base := base) T
  refine T._law_one.F.ok sc__law_one (fun vs H Q E h => ?_) (fun cdv A outer s H vs Q E hr h => ?_)
  · obtain ⟨d, c, n, it, rfl, _⟩ := h
    rfl
  obtain ⟨d, c, n, it, rfl, hD, hn, h⟩ := h
  refine ⟨_, (pss_one (ps_ret (pe_ix ix_seq (pv 1) (pe_call G__law_draw (hr.mono (by omega)) rfl T._law_draw.g T._law_draw.F.kp T._law_draw.B .nil pass0 (pa_cons (pv 0) (pa_cons (pe_callB call_len rfl T.n_len (by decide +kernel) (pa_cons (pv 1) pa_nil)) pa_nil))) (fun _ _ => rfl)))), ?_⟩
  rcases h with ⟨l, xs, rfl, hl, n1, n2, l1, l2, q⟩ | ⟨z, rfl, l1, l2, q⟩
  · refine ⟨_, rfl, _, rfl, _, rfl, .ref l, xs.length, rfl, .inl ⟨xs, SqL.of hl, rfl⟩, d, c, n, _, rfl, hD, hn, by omega, by omega, fun H1 r k1 D1 r0 r1 => ?_⟩
    have hl1 : H1 l = some (.lst xs) := k1.keep _ _ hl (by simp [n1, n2])
    have hr1 : r.toNat < xs.length := by omega
    have e1 : xs[r.toNat]? = some xs[r.toNat] := List.getElem?_eq_getElem hr1
    refine .inl ⟨l, xs, r, _, rfl, rfl, SqL.of hl1, ?_, q _ _ r.toNat k1 D1 e1⟩
    exact at_int r0 e1
  · refine ⟨_, rfl, _, rfl, _, rfl, .str z, z.length, rfl, ⟨Nat.le_trans l2 (by decide), rfl⟩, d, c, n, _, rfl, hD, hn, by omega, by omega, fun H1 r k1 D1 r0 r1 => ?_⟩
    have hlen : z.cps.toList.length = z.length := by simp [Str.length]
    have hr1 : r.toNat < z.cps.toList.length := by omega
    have e1 : z.cps.toList[r.toNat]? = some z.cps.toList[r.toNat] := List.getElem?_eq_getElem hr1
    refine .inr (.inr ⟨z, r, _, rfl, rfl, Nat.le_trans l2 (by decide), ?_, q _ _ k1 D1 (List.getElem_mem hr1)⟩)
    exact at_int r0 e1

def sp_expr (k : Nat) : Sp := fun vs H Q _ => ∃ (d c nl : Addr) (n : Nat) (ns : List Str), vs = [.ref d, .ref nl, .int (k : Nat)] ∧ 1 ≤ k ∧ k ≤ 3 ∧ Dk H d c n ∧ n + 2 ^ (k + 1) ≤ BIG ∧ H nl = some (.lst (ns.map V.str)) ∧ nl ≠ d ∧ nl ≠ c ∧ 1 ≤ ns.length ∧ ns.length ≤ 1000 ∧
  ∀ H' v e, Kp [d, c] H H' → Dk H' d c (n + (2 ^ (k + 1) - 1)) → okE (· ∈ ns) k e → RepE H' e v → Q v H'
theorem ok_expr_of (T : Txt K mg) (k : Nat) (sp' : Sp) (G__law_expression : FnOk P w K mg base CX0 (k + 2) T._law_expression.f T._law_expression.fd ["_law_deck_here", "_law_names_here", "_law_deep"] sp') (hG : 2 ≤ k → sp' = sp_expr (k - 1)) :
    FnOk P w K mg base CX0 (k + 3) T._law_expression.f T._law_expression.fd ["_law_deck_here", "_law_names_here", "_law_deep"] (sp_expr k) := by
  have G__law_draw := ok_draw (P := P) (w := w) (base := base) T
  have G__law_one := ok_one (P := P) (w := w) (base := base) T
  refine T._law_expression.F.ok sc__law_expression (fun vs H Q E h => ?_) (fun cdv A outer s H vs Q E hr h => ?_)
  · obtain ⟨d, c, nl, n, ns, rfl, _⟩ := h
    rfl
  obtain ⟨d, c, nl, n, ns, rfl, hk1, hk3, hD, hn, hnl, n1, n2, l1, l2, q⟩ := h
  have eB : BIG = 1099511627776 := rfl
  have hp2 : 4 ≤ 2 ^ (k + 1) := by
    have := Nat.pow_le_pow_right (n := 2) (by omega) (show 2 ≤ k + 1 by omega)
    omega
  refine ⟨_, (pss_cons (ps_set (i := 3) sc__law_expression.nd rfl (Or.inl rfl) (pe_ifExp (pt_cmpR op_gt (pv 2) pe_int (nomark _)) (pe_call G__law_draw (hr.mono (by omega)) rfl T._law_draw.g T._law_draw.F.kp T._law_draw.B .nil pass0 (pa_cons (pv 0) (pa_cons pe_int pa_nil))) (pe_call G__law_draw (hr.mono (by omega)) rfl T._law_draw.g T._law_draw.F.kp T._law_draw.B .nil pass0 (pa_cons (pv 0) (pa_cons pe_int pa_nil)))))
      (pss_cons (ps_if (pt_cmpR op_eq (pv 3) pe_int (nomark _))
        (pss_one (ps_ret (pe_call G__law_one (hr.mono (by omega)) rfl T._law_one.g T._law_one.F.kp T._law_one.B .nil pass0 (pa_cons (pv 0) (pa_cons (pe_lst (pa_cons pe_int (pa_cons pe_int (pa_cons pe_int (pa_cons (pe_un un_neg pe_int) (pa_cons pe_int (pa_cons (pe_un un_neg pe_int) (pa_cons pe_int (pa_cons (pe_un un_neg pe_int) (pa_cons (pe_op op_sub (pe_call G__law_draw (hr.mono (by omega)) rfl T._law_draw.g T._law_draw.F.kp T._law_draw.B .nil pass0 (pa_cons (pv 0) (pa_cons pe_int pa_nil))) pe_int) pa_nil)))))))))) pa_nil)))))
        pss_nil)
      (pss_cons (ps_if (pt_cmpR op_lt (pv 3) pe_int (nomark _))
        (pss_one (ps_ret (pe_call G__law_one (hr.mono (by omega)) rfl T._law_one.g T._law_one.F.kp T._law_one.B .nil pass0 (pa_cons (pv 0) (pa_cons (pv 1) pa_nil)))))
        pss_nil)
      (pss_cons (ps_if (pt_cmpR op_eq (pv 3) pe_int (nomark _))
        (pss_cons (ps_set (i := 5) sc__law_expression.nd rfl (Or.inl rfl) (pe_call G__law_one (hr.mono (by omega)) rfl T._law_one.g T._law_one.F.kp T._law_one.B .nil pass0 (pa_cons (pv 0) (pa_cons (pe_lst (pa_cons (pe_un un_neg pe_int) (pa_cons (pe_un un_neg pe_int) (pa_cons (pe_un un_neg pe_int) (pa_cons (pe_un un_neg pe_int) (pa_cons (pe_un un_neg pe_int) (pa_cons pe_int (pa_cons pe_int (pa_cons pe_int (pa_cons pe_int pa_nil)))))))))) pa_nil))))
        (pss_one (ps_ret (pe_tup (pa_cons pe_str (pa_cons (pv 5) (pa_cons (pe_call G__law_expression (hr.mono (by omega)) rfl T._law_expression.g T._law_expression.F.kp T._law_expression.B .nil pass0 (pa_cons (pv 0) (pa_cons (pv 1) (pa_cons (pe_op op_sub (pv 2) pe_int) pa_nil)))) pa_nil)))))))
        pss_nil)
      (pss_cons (ps_set (i := 4) sc__law_expression.nd rfl (Or.inl rfl) (pe_call G__law_expression (hr.mono (by omega)) rfl T._law_expression.g T._law_expression.F.kp T._law_expression.B .nil pass0 (pa_cons (pv 0) (pa_cons (pv 1) (pa_cons (pe_op op_sub (pv 2) pe_int) pa_nil)))))
      (pss_one (ps_ret (pe_tup (pa_cons (pe_ix ix_list (pe_lst (pa_cons pe_str (pa_cons pe_str pa_nil))) (pe_op op_mod (pe_callTy call_int1 rfl T.n_int (by decide +kernel) (pa_cons (pv 3) pa_nil)) pe_int) (fun _ _ => rfl)) (pa_cons (pv 4) (pa_cons (pe_call G__law_expression (hr.mono (by omega)) rfl T._law_expression.g T._law_expression.F.kp T._law_expression.B .nil pass0 (pa_cons (pv 0) (pa_cons (pv 1) (pa_cons (pe_op op_sub (pv 2) pe_int) pa_nil)))) pa_nil))))))))))), ?_⟩
  have hk0 : ∃ k', k = k' + 1 := ⟨k - 1, by omega⟩
  -- a way
  apply cutC (fun (way : Int) (H1 : Hp) => Kp [d, c] H H1 ∧ Dk H1 d c (n + 1) ∧ 0 ≤ way ∧ way < 7 ∧ (k = 1 → way < 4))
  · intro hC
    refine ⟨_, rfl, _, _, rfl, rfl, _, rfl, ?_⟩
    by_cases hk : (1 : Int) < (k : Nat)
    · refine itT (decide_eq_true hk) ?_
      exact ⟨_, rfl, d, c, n, 7, rfl, hD, by omega, by omega, by omega, fun H1 r k1 D1 r0 r1 => hC r H1 ⟨k1, D1, r0, r1, fun z => by omega⟩⟩
    · refine itF (decide_eq_false hk) ?_
      exact ⟨_, rfl, d, c, n, 4, rfl, hD, by omega, by omega, by omega, fun H1 r k1 D1 r0 r1 => hC r H1 ⟨k1, D1, r0, by omega, fun z => r1⟩⟩
  rintro way H1 ⟨k1, D1, w0, w7, wk⟩
  have hnl1 : H1 nl = some (.lst (ns.map V.str)) := k1.keep _ _ hnl (by simp [n1, n2])
  refine ⟨_, rfl, rfl, _, rfl, ?_⟩
  by_cases w1 : way = 0
  · refine itT (decide_eq_true (by rw [w1])) ?_
    refine ⟨_, rfl, 1, rfl, 5, rfl, 99, rfl, _, rfl, d, c, _, 199, rfl, D1, by omega, by omega, by omega, fun H2 r k2 D2 r0 r1 => ⟨_, _, rfl, rfl, by show 9 ≤ sizeLine; decide, fun p hp => ?_⟩⟩
    refine ⟨d, c, _, _, rfl, D2.upd_new hp _, by omega, .inl ⟨p, _, rfl, upd_same, (D2.new hp).1, (D2.new hp).2, by show 1 ≤ 9; decide, by show 9 ≤ 1000; decide, fun H3 v i k3 D3 e => ?_⟩⟩
    obtain ⟨z, rfl, z1, z2⟩ : ∃ z : Int, v = .int z ∧ -99 ≤ z ∧ z ≤ 99 := by
      have hm := List.mem_of_getElem? e
      simp only [List.mem_cons, List.not_mem_nil, or_false] at hm
      rcases hm with h | h | h | h | h | h | h | h | h <;> exact ⟨_, h, by omega, by omega⟩
    obtain ⟨k', rfl⟩ := hk0
    exact q H3 _ (.num z) (k1.trans (k2.trans (Same.kp (Same.new hp _) k3))) (D3.le (by omega)) ⟨z1, z2⟩ (rep_int.mpr rfl)
  refine itF (decide_eq_false fun z => w1 (V.int.inj z)) ?_
  refine ⟨_, rfl, _, _, rfl, rfl, _, rfl, ?_⟩
  by_cases w4 : way < 4
  · refine itT (decide_eq_true w4) ?_
    refine ⟨_, rfl, _, rfl, d, c, _, _, rfl, D1, by omega, .inl ⟨nl, _, rfl, hnl1, n1, n2, by rw [List.length_map]; exact l1, by rw [List.length_map]; exact l2, fun H3 v i k3 D3 e => ?_⟩⟩
    obtain ⟨x, hx, rfl⟩ := List.mem_map.mp (List.mem_of_getElem? e)
    obtain ⟨k', rfl⟩ := hk0
    exact q H3 _ (.nam x) (k1.trans k3) (D3.le (by omega)) hx (rep_str.mpr rfl)
  refine itF (decide_eq_false w4) ?_
  have hk2 : 2 ≤ k := by
    rcases Nat.lt_or_ge k 2 with z | z
    · have := wk (by omega)
      omega
    · exact z
  obtain ⟨k', rfl⟩ : ∃ k', k = k' + 2 := ⟨k - 2, by omega⟩
  obtain rfl := hG hk2
  have ek : ((k' + 2 : Nat) : Int) - 1 = ((k' + 2 - 1 : Nat) : Int) := by omega
  have ep : 2 ^ (k' + 2 + 1) = 2 * 2 ^ (k' + 2 - 1 + 1) := by
    rw [show k' + 2 - 1 + 1 = k' + 2 by omega, Nat.pow_succ, Nat.mul_comm]
  have hp16 : 2 ^ (k' + 2 - 1 + 1) ≤ 8 := by
    have := Nat.pow_le_pow_right (n := 2) (by omega) (show k' + 2 - 1 + 1 ≤ 3 by omega)
    omega
  have hp4 : 4 ≤ 2 ^ (k' + 2 - 1 + 1) := by
    have := Nat.pow_le_pow_right (n := 2) (by omega) (show 2 ≤ k' + 2 - 1 + 1 by omega)
    omega
  refine ⟨_, rfl, rfl, _, rfl, ?_⟩
  by_cases w6 : way = 6
  · refine itT (decide_eq_true (by rw [w6])) ?_
    refine ⟨_, rfl, 9, rfl, 4, rfl, 3, rfl, 2, rfl, 1, rfl, by show 9 ≤ sizeLine; decide, fun p hp => ?_⟩
    refine ⟨d, c, _, _, rfl, D1.upd_new hp _, by omega, .inl ⟨p, _, rfl, upd_same, (D1.new hp).1, (D1.new hp).2, by show 1 ≤ 9; decide, by show 9 ≤ 1000; decide, fun H3 v i k3 D3 e => ?_⟩⟩
    obtain ⟨z, rfl, z1, z2⟩ : ∃ z : Int, v = .int z ∧ -9 ≤ z ∧ z ≤ 9 := by
      have hm := List.mem_of_getElem? e
      simp only [List.mem_cons, List.not_mem_nil, or_false] at hm
      rcases hm with h | h | h | h | h | h | h | h | h <;> exact ⟨_, h, by omega, by omega⟩
    have k3' := k1.trans (Same.kp (Same.new hp (.lst [V.int (-9), V.int (-4), V.int (-3), V.int (-2), V.int (-1), V.int 0, V.int 2, V.int 3, V.int 9])) k3)
    refine ⟨_, rfl, _, rfl, _, rfl, _, rfl, _, _, rfl, rfl, d, c, nl, _, ns, by rw [← ek] <;> rfl, by omega, by omega, D3, by omega, k3'.keep _ _ hnl (by simp [n1, n2]), n1, n2, l1, l2, fun H4 u e k4 D4 oe re => ?_⟩
    refine ⟨by show 3 ≤ sizeLine; decide, fun t ht => ?_⟩
    exact q _ _ (.tim z e) (k3'.trans (k4.trans (Kp.new ht _))) ((D4.upd_new ht _).le (by omega)) ⟨z1, z2, oe⟩ (RepE.mk_tim upd_same (Rep.sm re (Same.new ht _)))
  · refine itF (decide_eq_false fun z => w6 (V.int.inj z)) ?_
    refine ⟨_, rfl, _, rfl, _, rfl, _, _, rfl, rfl, d, c, nl, _, ns, by rw [← ek] <;> rfl, by omega, by omega, D1, by omega, hnl1, n1, n2, l1, l2, fun H3 u e k3 D3 oe re => ?_⟩
    refine ⟨by show 2 ≤ sizeLine; decide, fun p hp => ⟨_, rfl, .inl ⟨way, rfl, way, 2, rfl, rfl, (by show (0 : Int) < 2; decide), ?_⟩⟩⟩
    have s4 := Same.new hp (.lst [.str "plus", .str "minus"])
    have k4 := k1.trans (k3.trans (Kp.of_same (ms := [d, c]) s4))
    obtain ⟨b, hb, eb⟩ : ∃ b : Bool, atI [V.str "plus", V.str "minus"] (way % 2) = some (.str (if b = true then "plus" else "minus")) ∧ True := by
      rcases (by omega : way = 4 ∨ way = 5) with z | z <;> subst z
      · exact ⟨true, rfl, trivial⟩
      · exact ⟨false, rfl, trivial⟩
    refine ⟨p, _, _, _, rfl, rfl, SqL.of upd_same, hb, ?_⟩
    refine ⟨_, rfl, _, rfl, _, rfl, _, rfl, _, _, rfl, rfl, d, c, nl, _, ns, by rw [← ek] <;> rfl, by omega, by omega, D3.upd_new hp _, by omega, k4.keep _ _ hnl (by simp [n1, n2]), n1, n2, l1, l2, fun H5 u2 e2 k5 D5 oe2 re2 => ?_⟩
    refine ⟨by show 3 ≤ sizeLine; decide, fun t ht => ?_⟩
    exact q _ _ (.bin b e e2) (k4.trans (k5.trans (Kp.new ht _))) ((D5.upd_new ht _).le (by omega)) ⟨oe, oe2⟩ (RepE.mk_bin upd_same (Rep.sm (Rep.kp (Rep.sm re s4) k5) (Same.new ht _)) (Rep.sm re2 (Same.new ht _)))
theorem ok_expr (T : Txt K mg) : ∀ k : Nat, FnOk P w K mg base CX0 (k + 3) T._law_expression.f T._law_expression.fd ["_law_deck_here", "_law_names_here", "_law_deep"] (sp_expr k)
  | 0 => ok_expr_of T 0 (fun _ _ _ _ => False) (FnOk.never fun _ _ _ _ h => h) fun h => absurd h (by omega)
  | k + 1 => ok_expr_of T (k + 1) (sp_expr k) (ok_expr T k) fun _ => rfl
end
end K29

set_option Elab.async false
set_option linter.all false
set_option maxRecDepth 100000
set_option maxHeartbeats 4000000
/-! ## the law's side: names -/
namespace K29
open PySem L2
/-! ### plain: which names -/
structure NamesOk (xs : List Str) : Prop where
  len : xs.length = 3
  nd : xs.Nodup
  ok : ∀ x ∈ xs, NameOk x ∧ x ≠ "n" ∧ x ≠ "spare1"
def nameB (x : Str) : Bool := decide (1 ≤ x.length) && decide (x.length ≤ 8) && x.cps.toList.all (fun c => decide (c ∈ signsS.cps.toList)) && (match x.cps.toList with | [] => false | c :: _ => decide (c ∈ lettersS.cps.toList)) &&
  decide (x ∉ keptL) && decide (x ≠ "n") && decide (x ≠ "spare1")
theorem nameB_ok {x : Str} (h : nameB x = true) : NameOk x ∧ x ≠ "n" ∧ x ≠ "spare1" := by
  unfold nameB at h
  simp only [Bool.and_eq_true, decide_eq_true_eq, List.all_eq_true] at h
  obtain ⟨⟨⟨⟨⟨⟨h1, h2⟩, h3⟩, h4⟩, h5⟩, h6⟩, h7⟩ := h
  refine ⟨⟨h1, h2, h3, ?_, h5⟩, h6, h7⟩
  cases e : x.cps.toList with
  | nil => rw [e] at h4; cases h4
  | cons c r =>
    rw [e] at h4
    exact ⟨c, rfl, of_decide_eq_true h4⟩
abbrev lawWords : List Str := ["turns", "items", "total", "plus", "less", "times", "minus", "worth", "hands", "rows", "none", "place"]
theorem words_ok : ∀ a, a < 10 → NamesOk ((lawWords.drop a).take 3) := by
  intro a ha
  have h1 : lawWords.all nameB = true := by decide +kernel
  have h2 : lawWords.Nodup := by decide +kernel
  have sub : List.Sublist ((lawWords.drop a).take 3) lawWords := (List.take_sublist _ _).trans (List.drop_sublist _ _)
  refine ⟨?_, h2.sublist sub, fun x hx => nameB_ok (List.all_eq_true.mp h1 x (sub.subset hx))⟩
  rw [List.length_take, List.length_drop]
  show min 3 (12 - a) = 3
  omega
theorem cut_words (a : Nat) (ha : a < 10) : cutV (lawWords.map V.str) (some (a : Int)) (some ((a : Int) + 3)) = ((lawWords.drop a).take 3).map V.str := by
  rw [show (a : Int) + 3 = ((a + 3 : Nat) : Int) by omega]
  unfold cutV
  rw [HT.sIx_nat, HT.sIx_nat, List.map_take, List.map_drop]
  have e1 : min a (lawWords.map V.str).length = a := by show min a 12 = a; omega
  have e2 : min (a + 3) (lawWords.map V.str).length = a + 3 := by show min (a + 3) 12 = a + 3; omega
  rw [e1, e2, show a + 3 - a = 3 by omega]
abbrev SS (l : List Nat) : Str := ⟨l.toArray⟩
theorem ss_cps (l : List Nat) : (SS l).cps.toList = l := by simp
theorem ss_app (a b : List Nat) : SS a ++ SS b = SS (a ++ b) := by
  show (⟨a.toArray ++ b.toArray⟩ : Str) = ⟨(a ++ b).toArray⟩
  simp
theorem ss_len (l : List Nat) : (SS l).length = l.length := by simp [Str.length]
theorem join_signs (cs : List Nat) : Txt.join (Str.ofString "") (cs.map fun c => SS [c]) = SS cs := by
  have e : Str.ofString "" = SS [] := by decide +kernel
  rw [e, TL.join_eq]
  clear e
  induction cs with
  | nil => rfl
  | cons c r ih =>
    cases r with
    | nil => rfl
    | cons b r =>
      show SS [c] ++ SS [] ++ Str.join (SS []) ((b :: r).map fun c => SS [c]) = _
      rw [ih, ss_app, ss_app] <;> rfl
theorem sum_signs (cs : List Nat) : ((cs.map fun c => SS [c]).map (·.length)).sum = cs.length := by
  induction cs with
  | nil => rfl
  | cons c r ih =>
    rw [List.map_cons, List.map_cons, List.sum_cons, ih, List.length_cons, ss_len, List.length_singleton]
    omega
theorem name_mid {ls rs : List Nat} {q : Nat} (hl : ∀ c ∈ ls, c ∈ lettersS.cps.toList) (hr : ∀ c ∈ rs, c ∈ signsS.cps.toList) (hq : q ∈ [113, 120, 122]) (hz : ls.length + rs.length ≤ 7) :
    NameOk (SS (ls ++ q :: rs)) ∧ SS (ls ++ q :: rs) ≠ "n" ∧ SS (ls ++ q :: rs) ≠ "spare1" := by
  have hq1 : ∀ q ∈ [113, 120, 122], q ∈ lettersS.cps.toList ∧ q ∈ signsS.cps.toList := by decide +kernel
  have hl2 : ∀ c ∈ lettersS.cps.toList, c ∈ signsS.cps.toList := by decide +kernel
  have hno : ∀ w ∈ Str.ofString "n" :: Str.ofString "spare1" :: keptL, ∀ q ∈ [113, 120, 122], q ∉ w.cps.toList := by decide +kernel
  have hin : q ∈ (SS (ls ++ q :: rs)).cps.toList := by rw [ss_cps]; simp
  refine ⟨⟨?_, ?_, ?_, ?_, fun z => hno _ (List.mem_cons_of_mem _ (List.mem_cons_of_mem _ z)) q hq hin⟩, fun z => hno _ (List.mem_cons_self) q hq (z ▸ hin), fun z => hno _ (List.mem_cons_of_mem _ List.mem_cons_self) q hq (z ▸ hin)⟩
  · rw [ss_len, List.length_append, List.length_cons]; omega
  · rw [ss_len, List.length_append, List.length_cons]; omega
  · intro c hc
    rw [ss_cps] at hc
    rcases List.mem_append.mp hc with h | h
    · exact hl2 c (hl c h)
    · rcases List.mem_cons.mp h with h | h
      · rw [h]; exact (hq1 q hq).2
      · exact hr c h
  · rw [ss_cps]
    cases ls with
    | nil => exact ⟨q, rfl, (hq1 q hq).1⟩
    | cons a r => exact ⟨a, rfl, hl a List.mem_cons_self⟩
def midNames (ls rs : List Nat) : List Str := [113, 120, 122].map fun q => SS (ls ++ q :: rs)
theorem midNames_ok {ls rs : List Nat} (hl : ∀ c ∈ ls, c ∈ lettersS.cps.toList) (hr : ∀ c ∈ rs, c ∈ signsS.cps.toList) (hz : ls.length + rs.length ≤ 7) : NamesOk (midNames ls rs) := by
  refine ⟨rfl, ?_, fun x hx => ?_⟩
  · have inj : ∀ a b : Nat, SS (ls ++ a :: rs) = SS (ls ++ b :: rs) → a = b := fun a b e => by
      have e2 := congrArg (fun z : Str => z.cps.toList) e
      simp only [ss_cps] at e2
      have e3 := List.append_cancel_left e2
      exact (List.cons.inj e3).1
    show ([_, _, _] : List Str).Nodup
    rw [List.nodup_cons, List.nodup_cons]
    refine ⟨?_, ?_, by simp⟩
    · intro h
      rcases List.mem_cons.mp h with h | h
      · exact absurd (inj _ _ h) (by decide)
      · exact absurd (inj _ _ (List.mem_singleton.mp h)) (by decide)
    · intro h
      exact absurd (inj _ _ (List.mem_singleton.mp h)) (by decide)
  · obtain ⟨q, hq, rfl⟩ := List.mem_map.mp hx
    exact name_mid hl hr hq hz
theorem Dk.upd_new' {H : Hp} {d c p : Addr} {n : Nat} (h : Dk H d c n) (hp : p ≠ d ∧ p ≠ c) (o : HO) : Dk (upd H p o) d c n := by
  obtain ⟨m, cs, h0, h1, h2, h3⟩ := h
  exact ⟨m, cs, h0, by rw [upd_ne hp.1.symm]; exact h1, by rw [upd_ne hp.2.symm]; exact h2, h3⟩
section
variable {P : Program} {w : World} {K : PySem.W.Frag} {mg : Str → Option Value} {base : Heap}
def sp_names : Sp := fun vs H Q _ => ∃ (d c : Addr) (n : Nat), vs = [.ref d] ∧ Dk H d c n ∧ n + 20 ≤ BIG ∧
  ∀ H' l xs, Kp [d, c] H H' → Dk H' d c (n + 20) → H l = none → H' l = some (.lst ((Str.ofString "n" :: xs).map V.str)) → NamesOk xs → Q (.ref l) H'
theorem ok_names (T : Txt K mg) : FnOk P w K mg base CX0 3 T._law_names.f T._law_names.fd ["_law_deck_here"] sp_names := by
  have G__law_draw := ok_draw (P := P) (w := w) (base := base) T
  have G__law_one := ok_one (P := P) (w := w) (base := base) T
  refine T._law_names.F.ok sc__law_names (fun vs H Q E h => ?_) (fun cdv A outer s H vs Q E hr h => ?_)
  · obtain ⟨d, c, n, rfl, _⟩ := h
    rfl
  obtain ⟨d, c, n, rfl, hD, hn, q⟩ := h
  have eB : BIG = 1099511627776 := rfl
  refine ⟨_, (pss_cons (ps_set (i := 1) sc__law_names.nd rfl (Or.inr rfl) pe_str)
      (pss_cons (ps_set (i := 2) sc__law_names.nd rfl (Or.inr rfl) (pe_op op_add_str (pv 1) pe_str))
      (pss_cons (ps_set (i := 3) sc__law_names.nd rfl (Or.inl rfl) (pe_lst (pa_cons pe_str (pa_cons pe_str (pa_cons pe_str (pa_cons pe_str (pa_cons pe_str (pa_cons pe_str (pa_cons pe_str (pa_cons pe_str (pa_cons pe_str (pa_cons pe_str (pa_cons pe_str (pa_cons pe_str pa_nil))))))))))))))
      (pss_cons (ps_par (i := 6) (j := 7) rfl sc__law_names.nd rfl rfl (by decide) rfl rfl (pa_cons (pe_call G__law_draw (hr.mono (by omega)) rfl T._law_draw.g T._law_draw.F.kp T._law_draw.B .nil pass0 (pa_cons (pv 0) (pa_cons pe_int pa_nil))) (pa_cons (pe_call G__law_one (hr.mono (by omega)) rfl T._law_one.g T._law_one.F.kp T._law_one.B .nil pass0 (pa_cons (pv 0) (pa_cons (pe_lst (pa_cons pe_int (pa_cons pe_int (pa_cons pe_int (pa_cons pe_int (pa_cons pe_int (pa_cons pe_int (pa_cons pe_int pa_nil)))))))) pa_nil))) pa_nil)) rfl)
      (pss_cons (ps_if (pt_cmpR op_lt (pv 6) pe_int (nomark _))
        (pss_one (ps_ret (pe_op op_cat (pe_lst (pa_cons pe_str pa_nil)) (pe_slice sl_list (pv 3) (po_some (pv 6)) (po_some (pe_op op_add (pv 6) pe_int))))))
        pss_nil)
      (pss_cons (ps_set (i := 4) sc__law_names.nd rfl (Or.inr rfl) (pe_join pe_str (pe_lc (own := [("_law_k", 8)]) (g := gName 8) (tt := tYes) rfl sc__law_names.nd (pi_range1 rfl T.n_range (pa_cons (pv 7) pa_nil)) (blkOk_by (N := N__law_names) (sc := defScope s__law_names) (by decide +kernel)) (fun _ _ _ _ _ => pg_name (i := 8) sc__law_names.nd rfl (Or.inl rfl)) (fun _ _ _ _ _ => pts_nil) (fun _ _ _ _ _ => (pe_call G__law_one (hr.mono (by omega)) rfl T._law_one.g T._law_one.F.kp T._law_one.B .nil pass0 (pa_cons (pv 0) (pa_cons (pv 1) pa_nil)))))))
      (pss_cons (ps_set (i := 5) sc__law_names.nd rfl (Or.inr rfl) (pe_join pe_str (pe_lc (own := [("_law_k", 8)]) (g := gName 8) (tt := tYes) rfl sc__law_names.nd (pi_range1 rfl T.n_range (pa_cons (pe_call G__law_draw (hr.mono (by omega)) rfl T._law_draw.g T._law_draw.F.kp T._law_draw.B .nil pass0 (pa_cons (pv 0) (pa_cons (pe_op op_sub pe_int (pv 7)) pa_nil))) pa_nil)) (blkOk_by (N := N__law_names) (sc := defScope s__law_names) (by decide +kernel)) (fun _ _ _ _ _ => pg_name (i := 8) sc__law_names.nd rfl (Or.inl rfl)) (fun _ _ _ _ _ => pts_nil) (fun _ _ _ _ _ => (pe_call G__law_one (hr.mono (by omega)) rfl T._law_one.g T._law_one.F.kp T._law_one.B .nil pass0 (pa_cons (pv 0) (pa_cons (pv 2) pa_nil)))))))
      (pss_one (ps_ret (pe_op op_cat (pe_lst (pa_cons pe_str pa_nil)) (pe_lc (own := [("_law_k", 8)]) (g := gName 8) (tt := tYes) rfl sc__law_names.nd (pi_range1 rfl T.n_range (pa_cons pe_int pa_nil)) (blkOk_by (N := N__law_names) (sc := defScope s__law_names) (by decide +kernel)) (fun _ _ _ _ _ => pg_name (i := 8) sc__law_names.nd rfl (Or.inl rfl)) (fun _ _ _ _ _ => pts_nil) (fun _ _ _ _ _ => (pe_op op_add_str (pe_op op_add_str (pv 4) (pe_ix ix_str pe_str (pv 8) (fun _ _ => rfl))) (pv 5)))))))))))))), ?_⟩
  refine ⟨_, rfl, _, _, rfl, rfl, by decide +kernel, by show 12 ≤ sizeLine; decide, fun W hW => ?_⟩
  have s0 := Same.new hW (.lst (lawWords.map V.str))
  refine ⟨_, rfl, d, c, n, 60, rfl, hD.upd_new hW _, by omega, by omega, by omega, fun H1 at_ k1 D1 a0 a1 => ?_⟩
  obtain ⟨a, rfl⟩ : ∃ a : Nat, at_ = (a : Nat) := ⟨at_.toNat, by omega⟩
  refine ⟨_, rfl, by show 7 ≤ sizeLine; decide, fun p hp => ⟨d, c, _, _, rfl, D1.upd_new hp _, by omega, .inl ⟨p, _, rfl, upd_same, (D1.new hp).1, (D1.new hp).2, by show 1 ≤ 7; decide, by show 7 ≤ 1000; decide, fun H2 v i k2 D2 e => ?_⟩⟩⟩
  obtain ⟨sz, rfl, hsz⟩ : ∃ z : Nat, v = .int (z : Nat) ∧ z ≤ 7 := by
    have hm := List.mem_of_getElem? e
    simp only [List.mem_cons, List.not_mem_nil, or_false] at hm
    rcases hm with h | h | h | h | h | h | h
    · exact ⟨0, h, by omega⟩
    · exact ⟨1, h, by omega⟩
    · exact ⟨2, h, by omega⟩
    · exact ⟨3, h, by omega⟩
    · exact ⟨5, h, by omega⟩
    · exact ⟨6, h, by omega⟩
    · exact ⟨7, h, by omega⟩
  have kk : Kp [d, c] H H2 := Same.kp s0 (k1.trans (Same.kp (Same.new hp _) k2))
  have wd : W ≠ d ∧ W ≠ c := hD.new hW
  have hw2 : H2 W = some (.lst (lawWords.map V.str)) := by
    refine k2.keep _ _ ?_ (by simp [wd])
    refine (Same.new hp _) _ _ ?_
    exact k1.keep _ _ upd_same (by simp [wd])
  clear hp e i
  refine ⟨_, _, rfl, ?_⟩
  refine ⟨_, rfl, _, _, rfl, rfl, _, rfl, ?_⟩
  by_cases ha : ((a : Nat) : Int) < 10
  · refine itT (decide_eq_true ha) ?_
    refine ⟨by show 1 ≤ sizeLine; decide, fun l1 hl1 => ?_⟩
    have s3 := Same.new hl1 (.lst [.str "n"])
    refine ⟨_, rfl, _, rfl, _, rfl, _, rfl, _, _, rfl, rfl, _, rfl, W, _, rfl, SqL.of (s3 _ _ hw2), fun p hp => ?_⟩
    rw [cut_words a (by omega)] at *
    have s4 := Same.new hp (.lst (((lawWords.drop a).take 3).map V.str))
    refine ⟨l1, p, _, _, rfl, rfl, s4 _ _ upd_same, upd_same, Nat.le_of_lt (small1000 ?_), fun z hz => ?_⟩
    · rw [List.length_map, (words_ok a (by omega)).len]
      decide
    have s5 := Same.new hz (.lst (([Str.ofString "n"] ++ (lawWords.drop a).take 3).map V.str))
    refine q _ z _ (kk.trans (Kp.of_same (s3.trans (s4.trans s5)))) ((D2.sm (s3.trans (s4.trans s5))).le (by omega)) ?_ upd_same (words_ok a (by omega))
    exact D2.fresh kk ((s3.trans s4).free hz)
  refine itF (decide_eq_false ha) ?_
  -- left
  refine ⟨⟨_, rfl⟩, _, rfl, _, rfl, by omega, by omega, fun D hDn => ?_⟩
  have dnew := D2.new hDn
  refine lc_it (walk_range (lo := 0) (n := ((sz : Nat) : Int).toNat)) (fun i H3 => ∃ cs : List Nat, cs.length = i ∧ (∀ c ∈ cs, c ∈ lettersS.cps.toList) ∧ H3 D = some (.lst ((cs.map fun c => SS [c]).map V.str)) ∧ Kp [d, c] H2 H3 ∧ Dk H3 d c (n + 1 + 1 + i))
    ⟨[], rfl, fun _ h => by simp at h, upd_same, Kp.new hDn _, D2.upd_new hDn _⟩ (fun _ _ _ _ => trivial) ?_ ?_
  · rintro i x H3 H4 hi ⟨cs, e1, e2, e3, k3, D3⟩ ⟨rfl, rfl⟩
    refine ⟨rfl, _, rfl, _, rfl, d, c, _, _, rfl, D3, by omega, .inr ⟨_, rfl, by decide +kernel, by decide +kernel, fun H5 cp k5 D5 hcp => ?_⟩⟩
    refine ⟨_, k5.keep _ _ e3 (by simp [dnew]), small1000 (by rw [List.length_map, List.length_map]; omega), cs ++ [cp], by rw [List.length_append, e1] <;> rfl, fun c hc => ?_, ?_, ?_, D5.upd_new' dnew _⟩
    · rcases List.mem_append.mp hc with h | h
      · exact e2 c h
      · rw [List.mem_singleton.mp h]; exact hcp
    · rw [upd_same, List.map_append, List.map_append] <;> rfl
    · exact Kp.put_new (k3.trans k5) hDn _
  rintro H3 ⟨ls, e1, e2, e3, k3, D3⟩
  have e5 : ((sz : Nat) : Int).toNat = sz := by omega
  rw [e5] at e1 D3
  refine ⟨_, D, ls.map fun c => SS [c], rfl, rfl, .inl (SqL.of e3), ?_, ?_⟩
  · rw [sum_signs, List.length_map, e1, show (Str.ofString "").length = 0 from by decide +kernel]
    omega
  rw [join_signs]
  clear dnew
  have k3 := kk.trans k3
  -- right
  refine ⟨⟨_, rfl⟩, _, rfl, _, rfl, _, _, rfl, rfl, d, c, _, 8 - (sz : Int), rfl, D3, by omega, by omega, by omega, fun H4 r k4 D4 r0 r1 => ⟨_, rfl, by omega, by omega, fun D' hDn' => ?_⟩⟩
  obtain ⟨m, rfl⟩ : ∃ m : Nat, r = (m : Nat) := ⟨r.toNat, by omega⟩
  have dnew := D4.new hDn'
  refine lc_it (walk_range (lo := 0) (n := ((m : Nat) : Int).toNat)) (fun i H3 => ∃ cs : List Nat, cs.length = i ∧ (∀ c ∈ cs, c ∈ (lettersS ++ Str.ofString "0123456789").cps.toList) ∧ H3 D' = some (.lst ((cs.map fun c => SS [c]).map V.str)) ∧ Kp [d, c] H4 H3 ∧ Dk H3 d c (n + 1 + 1 + sz + 1 + i))
    ⟨[], rfl, fun _ h => by simp at h, upd_same, Kp.new hDn' _, D4.upd_new hDn' _⟩ (fun _ _ _ _ => trivial) ?_ ?_
  · rintro i x H5 H6 hi ⟨cs, e1, e2, e3, k5, D5⟩ ⟨rfl, rfl⟩
    refine ⟨rfl, _, rfl, _, rfl, d, c, _, _, rfl, D5, by omega, .inr ⟨_, rfl, by decide +kernel, by decide +kernel, fun H7 cp k7 D7 hcp => ?_⟩⟩
    refine ⟨_, k7.keep _ _ e3 (by simp [dnew]), small1000 (by rw [List.length_map, List.length_map]; omega), cs ++ [cp], by rw [List.length_append, e1] <;> rfl, fun c hc => ?_, ?_, ?_, D7.upd_new' dnew _⟩
    · rcases List.mem_append.mp hc with h | h
      · exact e2 c h
      · rw [List.mem_singleton.mp h]; exact hcp
    · rw [upd_same, List.map_append, List.map_append] <;> rfl
    · exact Kp.put_new (k5.trans k7) hDn' _
  rintro H5 ⟨rs, f1, f2, f3, k5, D5⟩
  have f5 : ((m : Nat) : Int).toNat = m := by omega
  rw [f5] at f1 D5
  refine ⟨_, D', rs.map fun c => SS [c], rfl, rfl, .inl (SqL.of f3), ?_, ?_⟩
  · rw [sum_signs, List.length_map, f1, show (Str.ofString "").length = 0 from by decide +kernel]
    omega
  rw [join_signs]
  have k5 := k3.trans (k4.trans k5)
  have hsig : ∀ c ∈ (lettersS ++ Str.ofString "0123456789").cps.toList, c ∈ signsS.cps.toList := by decide +kernel
  have NO := midNames_ok (ls := ls) (rs := rs) e2 (fun c hc => hsig c (f2 c hc)) (by omega)
  clear dnew
  -- the three
  refine ⟨by show 1 ≤ sizeLine; decide, fun l1 hl1 => ?_⟩
  have s6 := Same.new hl1 (.lst [.str "n"])
  refine ⟨_, rfl, by decide, by decide, fun D2' hD2 => ?_⟩
  refine lc_it (walk_range (lo := 0) (n := (3 : Int).toNat)) (fun i H6 => H6 D2' = some (.lst (((midNames ls rs).take i).map V.str)) ∧ Same (upd H5 l1 (.lst [.str "n"])) H6)
    ⟨upd_same, Same.new hD2 _⟩ (fun _ _ _ _ => trivial) ?_ ?_
  · rintro i x H6 H7 hi ⟨e3, s7⟩ ⟨rfl, rfl⟩
    have hi3 : i < 3 := hi
    obtain ⟨q, hq⟩ : ∃ q, ([113, 120, 122] : List Nat)[i]? = some q := ⟨_, List.getElem?_eq_getElem hi⟩
    have hcp : atI (Str.ofString "qxz").cps.toList (0 + (i : Int)) = some q := by
      rw [Int.zero_add]
      exact at_ok (by rw [show (Str.ofString "qxz").cps.toList = [113, 120, 122] from by decide +kernel]; exact hq)
    have hnm : (midNames ls rs)[i]? = some (SS (ls ++ q :: rs)) := by
      unfold midNames
      rw [List.getElem?_map, hq] <;> rfl
    refine ⟨rfl, _, rfl, _, rfl, _, _, _, rfl, rfl, by decide +kernel, hcp, _, _, rfl, rfl, ?_, _, rfl, _, _, rfl, rfl, ?_, _, e3, ?_, ?_, Same.put s7 hD2 _⟩
    · rw [ss_len, e1]
      exact Nat.le_of_lt (small1000 (by show sz + 1 ≤ 1000; omega))
    · show (SS ls ++ SS [q]).length + (SS rs).length ≤ sizeLine
      rw [ss_app, ss_len, ss_len, List.length_append, e1, f1]
      exact Nat.le_of_lt (small1000 (by show sz + 1 + m ≤ 1000; omega))
    · rw [List.length_map, List.length_take]
      exact small1000 (by omega)
    · show upd _ _ (HO.lst (_ ++ [V.str (SS ls ++ SS [q] ++ SS rs)])) _ = _
      rw [upd_same, take_succ hnm, List.map_append, ss_app, ss_app, List.append_assoc] <;> rfl
  rintro H6 ⟨e3, s7⟩
  have e3' : H6 D2' = some (.lst ((midNames ls rs).map V.str)) := e3
  refine ⟨l1, D2', _, _, rfl, rfl, s7 _ _ upd_same, e3', by show 1 + 3 ≤ sizeLine; decide, fun z hz => ?_⟩
  have s8 := Same.new hz (.lst (([Str.ofString "n"] ++ midNames ls rs).map V.str))
  refine q _ z _ (k5.trans (Kp.of_same (s6.trans (s7.trans s8)))) ((D5.sm (s6.trans (s7.trans s8))).le (by omega)) ?_ upd_same NO
  exact D5.fresh k5 ((s6.trans s7).free hz)
end
end K29

set_option Elab.async false
set_option linter.all false
set_option maxRecDepth 100000
set_option maxHeartbeats 4000000
/-! ## the law's side: test, plain -/
namespace K29
open PySem L2
/-- deck and names -/
theorem Dk.new0 {H : Hp} {d c p : Addr} {n : Nat} {xs : List V} (h : Dk H d c n) (hp : H p = some (.tup xs)) : p ≠ d ∧ p ≠ c := by
  obtain ⟨m, cs, h0, h1, h2, h3⟩ := h
  exact ⟨fun e => (by rw [e, h1] at hp; cases hp), fun e => (by rw [e, h2] at hp; cases hp)⟩
structure Wk (H : Hp) (d c nl : Addr) (n : Nat) (ns : List Str) : Prop where
  D : Dk H d c n
  at_ : H nl = some (.lst (ns.map V.str))
  n1 : nl ≠ d
  n2 : nl ≠ c
  l1 : 1 ≤ ns.length
  l2 : ns.length ≤ 1000
  ok : ∀ x ∈ ns, NameOk x
theorem Wk.next {H H' : Hp} {d c nl : Addr} {n n' : Nat} {ns : List Str} {ms : List Addr} (h : Wk H d c nl n ns) (k : Kp ms H H') (hm : nl ∉ ms) (D : Dk H' d c n') : Wk H' d c nl n' ns :=
  ⟨D, k.keep _ _ h.at_ hm, h.n1, h.n2, h.l1, h.l2, h.ok⟩
theorem Wk.sm {H H' : Hp} {d c nl : Addr} {n : Nat} {ns : List Str} (h : Wk H d c nl n ns) (s : Same H H') : Wk H' d c nl n ns :=
  ⟨h.D.sm s, s _ _ h.at_, h.n1, h.n2, h.l1, h.l2, h.ok⟩
theorem Wk.nin {H : Hp} {d c nl : Addr} {n : Nat} {ns : List Str} (h : Wk H d c nl n ns) : nl ∉ [d, c] := by simp [h.n1, h.n2]
def Lf (H : Hp) (l : Addr) (b0 b1 b2 b3 b4 : Nat) : Prop := H l = some (.lst [.int (b0 : Nat), .int (b1 : Nat), .int (b2 : Nat), .int (b3 : Nat), .int (b4 : Nat)])
theorem okT_mono {N : Str → Prop} : ∀ {n m : Nat} {t : Te}, n ≤ m → okT N n t → okT N m t
  | n, m, .less a b, _, h => by
    have h' : okE N 3 a ∧ okE N 3 b := by cases n <;> simpa only [okT] using h
    cases m <;> simpa only [okT] using h'
  | n, m, .rest e k r, _, h => by
    have h' : okE N 3 e ∧ 2 ≤ k ∧ k ≤ 6 ∧ 0 ≤ r ∧ r < k := by cases n <;> simpa only [okT] using h
    cases m <;> simpa only [okT] using h'
  | 0, m, .neg t, _, h => by simp [okT] at h
  | n + 1, 0, .neg t, z, h => absurd z (by omega)
  | n + 1, m + 1, .neg t, z, h => okT_mono (n := n) (m := m) (t := t) (by omega) h
theorem encT_tup : ∀ t : Te, ∃ ds, encT t = .tuple ds ∧ ds.isEmpty = false
  | .less .. => ⟨_, rfl, rfl⟩
  | .rest .. => ⟨_, rfl, rfl⟩
  | .neg .. => ⟨_, rfl, rfl⟩
theorem nm_n : NameOk "n" := by
  refine ⟨by decide +kernel, by decide +kernel, by decide +kernel, ⟨110, by decide +kernel, by decide +kernel⟩, by decide +kernel⟩
section
variable {P : Program} {w : World} {K : PySem.W.Frag} {mg : Str → Option Value} {base : Heap}
abbrev tailT (K : PySem.W.Frag) : TS :=
  tSeq (tFor (iRng1 (tCons (tIf (tTest (tOp (rNeD K) (tVar 6) (tTup tNil))) (tCB (fun xs H Q => ∃ i j, xs = [V.int i, V.int j] ∧ Q (V.int (if j > i then j else i)) H) (tCons (tC (.int 0)) (tCons (tVar 5) tNil))) (tC (.int 0))) tNil)) (gName 4)
        (tAsg (tTup (tCons (tC (.str "not")) (tCons (tVar 6) tNil))) (gName 6))) (tRet (tVar 6))
abbrev elifT (K : PySem.W.Frag) : TS :=
  tIfS (tTest (tOp (rI0 fun i j => V.bl (decide (i ≥ j))) (tOp (rIxL K) (tVar 2) (tC (.int 4))) (tVar 3)))
    (tSeq (tAsg (tOp (rI0 fun i j => V.int (i - j)) (tOp (rIxL K) (tVar 2) (tC (.int 4))) (tVar 3)) (gSub (tVar 2) (tC (.int 4)) rSetL))
    (tSeq (tAsg (tCall (sp_expr 3) [] E0 (tCons (tVar 0) (tCons (tVar 1) (tCons (tC (.int 3)) tNil)))) (gName 8))
    (tAsg (tTup (tCons (tC (.str "less")) (tCons (tVar 8) (tCons (tCall sp_one [] E0 (tCons (tVar 0) (tCons (tLst (tCons (tOp (rI0 fun i j => .int (i - j)) (tCall sp_draw [] E0 (tCons (tVar 0) (tCons (tC (.int 41)) tNil))) (tC (.int 20)))
      (tCons (tCall (sp_expr 3) [] E0 (tCons (tVar 0) (tCons (tVar 1) (tCons (tC (.int 3)) tNil)))) tNil))) tNil))) tNil)))) (gName 6)))) tNext
def sp_ltest : Sp := fun vs H Q _ => ∃ (d c nl l : Addr) (n : Nat) (ns : List Str) (b0 b1 b2 b3 b4 t : Nat), vs = [.ref d, .ref nl, .ref l, .int (t : Nat)] ∧ Wk H d c nl n ns ∧ n + 40 ≤ BIG ∧ Lf H l b0 b1 b2 b3 b4 ∧ l ≠ d ∧ l ≠ c ∧ nl ≠ l ∧
  ∀ H' p c3 c4 xs, Kp [d, c, l] H H' → Dk H' d c (n + 40) → Lf H' l b0 b1 b2 c3 c4 → H' p = some (.tup xs) →
    ((xs = [] ∧ c3 = b3 ∧ c4 = b4) ∨ (∃ te, RepT H' te (.ref p) ∧ okT (· ∈ ns) 2 te ∧ c3 + (if own.isRest te = true then t else 0) = b3 ∧ c4 + (if own.isRest te = true then 0 else t) = b4)) → Q (.ref p) H'
theorem ok_ltest (T : Txt K mg) : FnOk P w K mg base CX0 7 T._law_test.f T._law_test.fd ["_law_deck_here", "_law_names_here", "_law_left", "_law_times"] sp_ltest := by
  have G__law_draw := ok_draw (P := P) (w := w) (base := base) T
  have G__law_one := ok_one (P := P) (w := w) (base := base) T
  have G__law_expression := ok_expr (P := P) (w := w) (base := base) T 3
  refine T._law_test.F.ok sc__law_test (fun vs H Q E h => ?_) (fun cdv A outer s H vs Q E hr h => ?_)
  · obtain ⟨d, c, nl, l, n, ns, b0, b1, b2, b3, b4, t, rfl, _⟩ := h
    rfl
  obtain ⟨d, c, nl, l, n, ns, b0, b1, b2, b3, b4, t, rfl, W, hn, hl, m1, m2, m3, q⟩ := h
  have eB : BIG = 1099511627776 := rfl
  refine ⟨_, (pss_cons (ps_par (i := 5) (j := 6) rfl sc__law_test.nd rfl rfl (by decide) rfl rfl (pa_cons (pe_op op_sub (pe_call G__law_draw (hr.mono (by omega)) rfl T._law_draw.g T._law_draw.F.kp T._law_draw.B .nil pass0 (pa_cons (pv 0) (pa_cons pe_int pa_nil))) pe_int) (pa_cons (pe_tup pa_nil) pa_nil)) rfl)
      (pss_cons (ps_if (PW.pt (pw_and (pt_cmpR op_eq (pe_call G__law_draw (hr.mono (by omega)) rfl T._law_draw.g T._law_draw.F.kp T._law_draw.B .nil pass0 (pa_cons (pv 0) (pa_cons pe_int pa_nil))) pe_int (nomark _)) (pw_and1 (pt_cmpR op_ge (pe_ix ix_list (pv 2) pe_int (fun _ _ => rfl)) (pv 3) (nomark _)))))
        (pss_cons (ps_asg (pe_op op_sub (pe_ix ix_list (pv 2) pe_int (fun _ _ => rfl)) (pv 3)) (pg_sub (pv 2) pe_int set_list))
        (pss_cons (ps_set (i := 7) sc__law_test.nd rfl (Or.inl rfl) (pe_op op_add pe_int (pe_call G__law_draw (hr.mono (by omega)) rfl T._law_draw.g T._law_draw.F.kp T._law_draw.B .nil pass0 (pa_cons (pv 0) (pa_cons pe_int pa_nil)))))
        (pss_one (ps_set (i := 6) sc__law_test.nd rfl (Or.inl rfl) (pe_tup (pa_cons pe_str (pa_cons (pe_call G__law_expression (hr.mono (by omega)) rfl T._law_expression.g T._law_expression.F.kp T._law_expression.B .nil pass0 (pa_cons (pv 0) (pa_cons (pv 1) (pa_cons pe_int pa_nil)))) (pa_cons (pv 7) (pa_cons (pe_call G__law_draw (hr.mono (by omega)) rfl T._law_draw.g T._law_draw.F.kp T._law_draw.B .nil pass0 (pa_cons (pv 0) (pa_cons (pv 7) pa_nil))) pa_nil)))))))))
        (pss_one (ps_if (pt_cmpR op_ge (pe_ix ix_list (pv 2) pe_int (fun _ _ => rfl)) (pv 3) (nomark _))
          (pss_cons (ps_asg (pe_op op_sub (pe_ix ix_list (pv 2) pe_int (fun _ _ => rfl)) (pv 3)) (pg_sub (pv 2) pe_int set_list))
          (pss_cons (ps_set (i := 8) sc__law_test.nd rfl (Or.inl rfl) (pe_call G__law_expression (hr.mono (by omega)) rfl T._law_expression.g T._law_expression.F.kp T._law_expression.B .nil pass0 (pa_cons (pv 0) (pa_cons (pv 1) (pa_cons pe_int pa_nil)))))
          (pss_one (ps_set (i := 6) sc__law_test.nd rfl (Or.inl rfl) (pe_tup (pa_cons pe_str (pa_cons (pv 8) (pa_cons (pe_call G__law_one (hr.mono (by omega)) rfl T._law_one.g T._law_one.F.kp T._law_one.B .nil pass0 (pa_cons (pv 0) (pa_cons (pe_lst (pa_cons (pe_op op_sub (pe_call G__law_draw (hr.mono (by omega)) rfl T._law_draw.g T._law_draw.F.kp T._law_draw.B .nil pass0 (pa_cons (pv 0) (pa_cons pe_int pa_nil))) pe_int) (pa_cons (pe_call G__law_expression (hr.mono (by omega)) rfl T._law_expression.g T._law_expression.F.kp T._law_expression.B .nil pass0 (pa_cons (pv 0) (pa_cons (pv 1) (pa_cons pe_int pa_nil)))) pa_nil))) pa_nil))) pa_nil))))))))
          pss_nil)))
      (pss_cons (ps_for PassesOwn.never rfl (pi_range1 rfl T.n_range (pa_cons (pe_ifExp (pt_cmpR (op_neD hr.units) (pv 6) (pe_tup pa_nil) (nomark _)) (pe_callB (call_max2 rfl) rfl T.n_max (by decide +kernel) (pa_cons pe_int (pa_cons (pv 5) pa_nil))) pe_int) pa_nil)) (pg_name (i := 4) sc__law_test.nd rfl (Or.inl rfl))
        (pss_one (ps_set (i := 6) sc__law_test.nd rfl (Or.inl rfl) (pe_tup (pa_cons pe_str (pa_cons (pv 6) pa_nil))))))
      (pss_one (ps_ret (pv 6)))))), ?_⟩
  refine ⟨_, rfl, d, c, _, 5, rfl, W.D, by omega, by omega, by omega, fun H1 r k1 D1 r0 r1 => ⟨_, _, rfl, rfl, by show 0 ≤ sizeLine; decide, fun p0 hp0 => ⟨_, _, rfl, ?_⟩⟩⟩
  have s1 := Same.new hp0 (.tup [])
  have W1 := (W.next k1 W.nin D1).sm s1
  have k1 := k1.trans (Kp.of_same (ms := [d, c]) s1)
  have h0 : (upd H1 p0 (.tup [])) p0 = some (.tup []) := upd_same
  have rest : ∀ (p : Addr) (xs : List V) (o7 o8 : Option V) (c3 c4 : Nat) (H' : Hp), Kp [d, c, l] H H' → Dk H' d c (n + 40) → Lf H' l b0 b1 b2 c3 c4 → H' p = some (.tup xs) →
      ((xs = [] ∧ c3 = b3 ∧ c4 = b4) ∨ (∃ te, RepT H' te (.ref p) ∧ okT (· ∈ ns) 0 te ∧ c3 + (if own.isRest te = true then t else 0) = b3 ∧ c4 + (if own.isRest te = true then 0 else t) = b4)) →
      tailT K { nx := fun _ H' => Q .non H', rt := Q } [some (.ref d), some (.ref nl), some (.ref l), some (.int (t : Nat)), none, some (.int (r - 2)), some (.ref p), o7, o8] H' := by
    intro p xs o7 o8 c3 c4 H' kk DD LL hp h
    rcases h with ⟨rfl, e3, e4⟩ | ⟨te, rt, ot, e3, e4⟩
    · refine ⟨_, rfl, by show 0 ≤ sizeLine; decide, fun e he => ⟨_, _, .tup (SqT.of ((Same.new he _) _ _ hp)) .nil, .tup (SqT.of upd_same) .nil, by decide +kernel, by decide +kernel, _, rfl, ?_⟩⟩
      rw [eqv_nilT]
      have s3 := Same.new he (.tup [])
      refine itF rfl ⟨0, rfl, by decide, by decide, ?_⟩
      refine for_it (walk_range (lo := 0) (n := (0 : Int).toNat)) (fun i σ H3 => σ = [some (.ref d), some (.ref nl), some (.ref l), some (.int (t : Nat)), none, some (.int (r - 2)), some (.ref p), o7, o8] ∧ Same H' H3) ⟨rfl, s3⟩ (fun _ _ _ _ _ => trivial) ?_ ?_
      · intro i x σ H3 H4 hi
        exact absurd hi (Nat.not_lt_zero i)
      · rintro σ H3 ⟨rfl, s4⟩
        exact ⟨_, rfl, q H3 p c3 c4 [] (kk.trans (Kp.of_same s4)) (DD.sm s4) (s4 _ _ LL) (s4 _ _ hp) (.inl ⟨rfl, e3, e4⟩)⟩
    · obtain ⟨ds, ed, en⟩ := encT_tup te
      refine ⟨_, rfl, by show 0 ≤ sizeLine; decide, fun e he => ⟨_, _, Rep.dp _ _ (Rep.sm rt (Same.new he _)), .tup (SqT.of upd_same) .nil, shaped_of (lay_T (fun x hx => nameOk_str x (W.ok x hx)) 0 te ot) (by decide), by decide +kernel, _, rfl, ?_⟩⟩
      rw [ed, eqv_nilT, en]
      have s3 := Same.new he (.tup [])
      refine itT rfl ⟨_, rfl, 0, r - 2, rfl, ?_⟩
      refine ⟨_, rfl, by split <;> omega, by split <;> omega, ?_⟩
      have hN : (if r - 2 > 0 then r - 2 else 0).toNat ≤ 2 := by split <;> omega
      refine for_it (walk_range (lo := 0) (n := (if r - 2 > 0 then r - 2 else 0).toNat)) (fun i σ H3 => ∃ (pp : Addr) (tt : Te) (o4 : Option V), σ = [some (.ref d), some (.ref nl), some (.ref l), some (.int (t : Nat)), o4, some (.int (r - 2)), some (.ref pp), o7, o8] ∧ RepT H3 tt (.ref pp) ∧ okT (· ∈ ns) i tt ∧ own.isRest tt = own.isRest te ∧ Same H' H3)
        ⟨p, te, none, rfl, Rep.sm rt s3, ot, rfl, s3⟩ (fun _ _ _ _ _ => trivial) ?_ ?_
      · rintro i x σ H3 H4 hi ⟨pp, tt, o4, rfl, r1, r2, r3, s4⟩ ⟨rfl, rfl⟩
        refine ⟨_, rfl, by show 2 ≤ sizeLine; decide, fun u hu => ?_⟩
        exact ⟨u, .neg tt, _, rfl, RepT.mk_neg upd_same (Rep.sm r1 (Same.new hu _)), r2, r3, s4.trans (Same.new hu _)⟩
      · rintro σ H3 ⟨pp, tt, o4, rfl, r1, r2, r3, s4⟩
        obtain ⟨ds2, ed2, _⟩ := encT_tup tt
        have r1' := r1
        unfold RepT at r1'
        rw [ed2] at r1'
        obtain ⟨_, ys, e5, hy, _⟩ := rep_tuple.mp r1'
        cases e5
        exact ⟨_, rfl, q H3 pp c3 c4 ys (kk.trans (Kp.of_same s4)) (DD.sm s4) (s4 _ _ LL) hy (.inr ⟨tt, r1, okT_mono hN r2, by rw [r3]; exact e3, by rw [r3]; exact e4⟩)⟩
  have els : ∀ H2, Kp [d, c] H H2 → Wk H2 d c nl (n + 1 + 1) ns → Lf H2 l b0 b1 b2 b3 b4 → H2 p0 = some (.tup []) →
      elifT K { nx := tailT K { nx := fun _ H' => Q .non H', rt := Q }, rt := Q } [some (.ref d), some (.ref nl), some (.ref l), some (.int (t : Nat)), none, some (.int (r - 2)), some (.ref p0), none, none] H2 := by
    intro H2 kk W2 l2 h2
    refine ⟨_, rfl, _, _, _, _, rfl, rfl, SqL.of l2, rfl, _, rfl, _, _, rfl, rfl, _, rfl, ?_⟩
    by_cases hb : (b4 : Int) ≥ (t : Nat)
    · refine itT (decide_eq_true hb) ?_
      refine ⟨_, rfl, _, _, _, _, rfl, rfl, SqL.of l2, rfl, _, rfl, _, _, rfl, rfl, ?_⟩
      refine ⟨_, rfl, _, _, _, 4, rfl, rfl, l2, rfl, ?_⟩
      have e4 : (b4 : Int) - (t : Nat) = ((b4 - t : Nat) : Int) := by omega
      have l3 : Lf (upd H2 l (.lst ([V.int (b0 : Nat), V.int (b1 : Nat), V.int (b2 : Nat), V.int (b3 : Nat), V.int (b4 : Nat)].set 4 (V.int ((b4 : Nat) - (t : Nat)))))) l b0 b1 b2 b3 (b4 - t) := by
        unfold Lf
        rw [upd_same, e4] <;> rfl
      have k3 := Kp.putL (ms := [d, c, l]) (by simp) l2 (.lst ([V.int (b0 : Nat), V.int (b1 : Nat), V.int (b2 : Nat), V.int (b3 : Nat), V.int (b4 : Nat)].set 4 (V.int ((b4 : Nat) - (t : Nat)))))
      have W3 := W2.next k3 (by simp [W.n1, W.n2, m3]) (W2.D.upd_new' ⟨m1, m2⟩ _)
      have k3 := (kk.mono (by simp)).trans k3
      refine ⟨_, rfl, _, rfl, d, c, nl, _, ns, rfl, by decide, by decide, W3.D, by omega, W3.at_, W.n1, W.n2, W.l1, W.l2, fun H4 v e k4 D4 oe re => ?_⟩
      have W4 := W3.next k4 W.nin D4
      have l4 := k4.keep _ _ l3 (by simp [m1, m2])
      refine ⟨_, rfl, _, rfl, _, rfl, d, c, _, 41, rfl, D4, by omega, by omega, by omega, fun H5 r5 k5 D5 r50 r51 => ⟨_, _, rfl, rfl, ?_⟩⟩
      have W5 := W4.next k5 W.nin D5
      refine ⟨_, rfl, _, rfl, d, c, nl, _, ns, rfl, by decide, by decide, D5, by omega, W5.at_, W.n1, W.n2, W.l1, W.l2, fun H6 v6 e6 k6 D6 oe6 re6 => ?_⟩
      refine ⟨by show 2 ≤ sizeLine; decide, fun p hp => ⟨d, c, _, _, rfl, D6.upd_new hp _, by omega, .inl ⟨p, _, rfl, upd_same, (D6.new hp).1, (D6.new hp).2, by show 1 ≤ 2; decide, by show 2 ≤ 1000; decide, fun H7 v7 i k7 D7 hi => ?_⟩⟩⟩
      have s6 := Same.new hp (.lst [V.int (r5 - 20), v6])
      have k57 := k5.trans (k6.trans (Same.kp s6 k7))
      obtain ⟨e7, re7, oe7⟩ : ∃ e7, RepE H7 e7 v7 ∧ okE (· ∈ ns) 3 e7 := by
        have hm := List.mem_of_getElem? hi
        simp only [List.mem_cons, List.not_mem_nil, or_false] at hm
        rcases hm with h | h
        · exact ⟨.num (r5 - 20), rep_int.mpr h, by simp only [okE]; omega⟩
        · subst h
          exact ⟨e6, Rep.kp (Rep.sm re6 s6) k7, oe6⟩
      refine ⟨by show 3 ≤ sizeLine; decide, fun u hu => ?_⟩
      refine rest u _ _ _ _ _ _ (k3.trans ((k4.trans (k57.trans (Kp.new hu _))).mono (by simp))) ((D7.upd_new hu _).le (by omega)) ((Same.new hu _) _ _ (k57.keep _ _ l4 (by simp [m1, m2]))) upd_same
        (.inr ⟨.less e e7, RepT.mk_less upd_same (Rep.sm (Rep.kp re k57) (Same.new hu _)) (Rep.sm re7 (Same.new hu _)), ⟨oe, oe7⟩, rfl, ?_⟩)
      show b4 - t + t = b4
      omega
    · refine itF (decide_eq_false hb) ?_
      exact rest p0 [] none none b3 b4 H2 (kk.mono (by simp)) (W2.D.le (by omega)) l2 h2 (.inl ⟨rfl, rfl, rfl⟩)
  refine ⟨_, rfl, d, c, _, 2, rfl, W1.D, by omega, by omega, by omega, fun H2 r2 k2 D2 r20 r21 => ⟨rfl, _, rfl, ?_⟩⟩
  have W2 := W1.next k2 W1.nin D2
  have l2 : Lf H2 l b0 b1 b2 b3 b4 := (k1.trans k2).keep _ _ hl (by simp [m1, m2])
  have h2 := k2.keep _ _ h0 (by simp [W1.D.new0 h0])
  by_cases hr2 : r2 = 0
  · refine itT (decide_eq_true (by rw [hr2])) ?_
    refine ⟨_, rfl, _, _, _, _, rfl, rfl, SqL.of l2, rfl, _, rfl, _, _, rfl, rfl, _, rfl, ?_⟩
    by_cases hb : (b3 : Int) ≥ (t : Nat)
    · refine itT (decide_eq_true hb) ?_
      refine ⟨_, rfl, _, _, _, _, rfl, rfl, SqL.of l2, rfl, _, rfl, _, _, rfl, rfl, ?_⟩
      refine ⟨_, rfl, _, _, _, 3, rfl, rfl, l2, rfl, ?_⟩
      have e4 : (b3 : Int) - (t : Nat) = ((b3 - t : Nat) : Int) := by omega
      have l3 : Lf (upd H2 l (.lst ([V.int (b0 : Nat), V.int (b1 : Nat), V.int (b2 : Nat), V.int (b3 : Nat), V.int (b4 : Nat)].set 3 (V.int ((b3 : Nat) - (t : Nat)))))) l b0 b1 b2 (b3 - t) b4 := by
        unfold Lf
        rw [upd_same, e4] <;> rfl
      have k3 := Kp.putL (ms := [d, c, l]) (by simp) l2 (.lst ([V.int (b0 : Nat), V.int (b1 : Nat), V.int (b2 : Nat), V.int (b3 : Nat), V.int (b4 : Nat)].set 3 (V.int ((b3 : Nat) - (t : Nat)))))
      have W3 := W2.next k3 (by simp [W.n1, W.n2, m3]) (W2.D.upd_new' ⟨m1, m2⟩ _)
      have k3 := ((k1.trans k2).mono (by simp)).trans k3
      refine ⟨_, rfl, d, c, _, 5, rfl, W3.D, by omega, by omega, by omega, fun H4 r4 k4 D4 r40 r41 => ⟨_, _, rfl, rfl, ?_⟩⟩
      have W4 := W3.next k4 W.nin D4
      have l4 := k4.keep _ _ l3 (by simp [m1, m2])
      refine ⟨_, rfl, _, rfl, d, c, nl, _, ns, rfl, by decide, by decide, D4, by omega, W4.at_, W.n1, W.n2, W.l1, W.l2, fun H5 v e k5 D5 oe re => ?_⟩
      refine ⟨_, rfl, _, rfl, _, rfl, d, c, _, _, rfl, D5, by omega, by omega, by omega, fun H6 r6 k6 D6 r60 r61 => ?_⟩
      refine ⟨by show 4 ≤ sizeLine; decide, fun u hu => ?_⟩
      have k46 := k5.trans k6
      refine rest u _ _ _ _ _ _ (k3.trans ((k4.trans (k46.trans (Kp.new hu _))).mono (by simp))) ((D6.upd_new hu _).le (by omega)) ((Same.new hu _) _ _ (k46.keep _ _ l4 (by simp [m1, m2]))) upd_same
        (.inr ⟨.rest e (2 + r4) r6, RepT.mk_rest upd_same (Rep.sm (Rep.kp re k6) (Same.new hu _)), ⟨oe, by omega, by omega, r60, r61⟩, ?_, rfl⟩)
      show b3 - t + t = b3
      omega
    · refine itF (decide_eq_false hb) ?_
      exact els H2 (k1.trans k2) W2 l2 h2
  · refine itF (decide_eq_false fun z => hr2 (V.int.inj z)) ?_
    exact els H2 (k1.trans k2) W2 l2 h2

/-- a statement without blocks -/
def Plain (ns : List Str) (s : Sm) : Prop := (∃ x e, s = .set x e ∧ x ∈ ns ∧ okE (· ∈ ns) 3 e) ∨ (∃ e, s = .pay e ∧ okE (· ∈ ns) 3 e) ∨ s = .stop
def sp_plain : Sp := fun vs H Q _ => ∃ (d c nl : Addr) (n : Nat) (ns : List Str), vs = [.ref d, .ref nl] ∧ Wk H d c nl n ns ∧ n + 20 ≤ BIG ∧
  ∀ H' v s, Kp [d, c] H H' → Dk H' d c (n + 20) → RepS H' s v → Plain ns s → Q v H'
theorem ok_plain (T : Txt K mg) : FnOk P w K mg base CX0 7 T._law_plain.f T._law_plain.fd ["_law_deck_here", "_law_names_here"] sp_plain := by
  have G__law_draw := ok_draw (P := P) (w := w) (base := base) T
  have G__law_one := ok_one (P := P) (w := w) (base := base) T
  have G__law_expression := ok_expr (P := P) (w := w) (base := base) T 3
  refine T._law_plain.F.ok sc__law_plain (fun vs H Q E h => ?_) (fun cdv A outer s H vs Q E hr h => ?_)
  · obtain ⟨d, c, nl, n, ns, rfl, _⟩ := h
    rfl
  obtain ⟨d, c, nl, n, ns, rfl, W, hn, q⟩ := h
  have eB : BIG = 1099511627776 := rfl
  refine ⟨_, (pss_cons (ps_par (i := 2) (j := 3) rfl sc__law_plain.nd rfl rfl (by decide) rfl rfl (pa_cons (pe_call G__law_draw (hr.mono (by omega)) rfl T._law_draw.g T._law_draw.F.kp T._law_draw.B .nil pass0 (pa_cons (pv 0) (pa_cons pe_int pa_nil))) (pa_cons (pe_call G__law_one (hr.mono (by omega)) rfl T._law_one.g T._law_one.F.kp T._law_one.B .nil pass0 (pa_cons (pv 0) (pa_cons (pv 1) pa_nil))) pa_nil)) rfl)
      (pss_cons (ps_if (pt_cmpR op_lt (pv 2) pe_int (nomark _))
        (pss_one (ps_ret (pe_tup (pa_cons pe_str (pa_cons (pv 3) (pa_cons (pe_call G__law_expression (hr.mono (by omega)) rfl T._law_expression.g T._law_expression.F.kp T._law_expression.B .nil pass0 (pa_cons (pv 0) (pa_cons (pv 1) (pa_cons pe_int pa_nil)))) pa_nil))))))
        pss_nil)
      (pss_cons (ps_if (pt_cmpR op_eq (pv 2) pe_int (nomark _))
        (pss_one (ps_ret (pe_tup (pa_cons pe_str (pa_cons (pv 3) (pa_cons (pv 3) pa_nil))))))
        pss_nil)
      (pss_cons (ps_if (PW.pt (pw_and (pt_cmpR op_eq (pv 2) pe_int (nomark _)) (pw_and1 (pt_cmpR op_eq (pe_call G__law_draw (hr.mono (by omega)) rfl T._law_draw.g T._law_draw.F.kp T._law_draw.B .nil pass0 (pa_cons (pv 0) (pa_cons pe_int pa_nil))) pe_int (nomark _)))))
        (pss_one (ps_ret (pe_tup (pa_cons pe_str pa_nil))))
        pss_nil)
      (pss_one (ps_ret (pe_tup (pa_cons pe_str (pa_cons (pe_call G__law_expression (hr.mono (by omega)) rfl T._law_expression.g T._law_expression.F.kp T._law_expression.B .nil pass0 (pa_cons (pv 0) (pa_cons (pv 1) (pa_cons pe_int pa_nil)))) pa_nil))))))))), ?_⟩
  refine ⟨_, rfl, d, c, _, 12, rfl, W.D, by omega, by omega, by omega, fun H1 way k1 D1 w0 w1 => ?_⟩
  have W1 := W.next k1 W.nin D1
  refine ⟨_, rfl, _, rfl, d, c, _, _, rfl, D1, by omega, .inl ⟨nl, _, rfl, W1.at_, W.n1, W.n2, by rw [List.length_map]; exact W.l1, by rw [List.length_map]; exact W.l2, fun H2 v i k2 D2 e => ?_⟩⟩
  obtain ⟨x, hx, rfl⟩ := List.mem_map.mp (List.mem_of_getElem? e)
  have W2 := W1.next k2 W.nin D2
  have k2 := k1.trans k2
  refine ⟨_, _, rfl, ?_⟩
  refine ⟨_, rfl, _, _, rfl, rfl, _, rfl, ?_⟩
  by_cases h4 : way < 4
  · refine itT (decide_eq_true h4) ?_
    refine ⟨_, rfl, _, rfl, _, rfl, d, c, nl, _, ns, rfl, by decide, by decide, D2, by omega, W2.at_, W.n1, W.n2, W.l1, W.l2, fun H3 v e k3 D3 oe re => ?_⟩
    refine ⟨by show 3 ≤ sizeLine; decide, fun u hu => ?_⟩
    exact q _ _ (.set x e) (k2.trans (k3.trans (Kp.new hu _))) ((D3.upd_new hu _).le (by omega)) (RepS.mk_set upd_same (Rep.sm re (Same.new hu _))) (.inl ⟨x, e, rfl, hx, oe⟩)
  refine itF (decide_eq_false h4) ?_
  refine ⟨_, rfl, rfl, _, rfl, ?_⟩
  by_cases h5 : way = 4
  · refine itT (decide_eq_true (by rw [h5])) ?_
    refine ⟨_, rfl, _, rfl, by show 3 ≤ sizeLine; decide, fun u hu => ?_⟩
    exact q _ _ (.set x (.nam x)) (k2.trans (Kp.new hu _)) ((D2.upd_new hu _).le (by omega)) (RepS.mk_set upd_same (rep_str.mpr rfl)) (.inl ⟨x, .nam x, rfl, hx, hx⟩)
  refine itF (decide_eq_false fun z => h5 (V.int.inj z)) ?_
  have pay : ∀ H3, Kp [d, c] H H3 → Wk H3 d c nl (n + 3) ns → tRet (tTup (tCons (tC (.str "pay")) (tCons (tCall (sp_expr 3) [] E0 (tCons (tVar 0) (tCons (tVar 1) (tCons (tC (.int 3)) tNil)))) tNil))) { nx := fun _ H' => Q .non H', rt := Q } [some (.ref d), some (.ref nl), some (.int way), some (.str x)] H3 := by
    intro H3 k3 W3
    refine ⟨_, rfl, _, rfl, d, c, nl, _, ns, rfl, by decide, by decide, W3.D, by omega, W3.at_, W.n1, W.n2, W.l1, W.l2, fun H4 v e k4 D4 oe re => ?_⟩
    refine ⟨by show 2 ≤ sizeLine; decide, fun u hu => ?_⟩
    exact q _ _ (.pay e) (k3.trans (k4.trans (Kp.new hu _))) ((D4.upd_new hu _).le (by omega)) (RepS.mk_pay upd_same (Rep.sm re (Same.new hu _))) (.inr (.inl ⟨e, rfl, oe⟩))
  refine ⟨_, rfl, rfl, _, rfl, ?_⟩
  by_cases h6 : way = 5
  · refine itT (decide_eq_true (by rw [h6])) ?_
    refine ⟨_, rfl, d, c, _, 2, rfl, D2, by omega, by omega, by omega, fun H3 r3 k3 D3 r0 r1 => ⟨rfl, _, rfl, ?_⟩⟩
    by_cases h7 : r3 = 0
    · refine itT (decide_eq_true (by rw [h7])) ⟨by show 1 ≤ sizeLine; decide, fun u hu => ?_⟩
      exact q _ _ .stop (k2.trans (k3.trans (Kp.new hu _))) ((D3.upd_new hu _).le (by omega)) (RepS.mk_stop upd_same) (.inr (.inr rfl))
    · refine itF (decide_eq_false fun z => h7 (V.int.inj z)) ?_
      exact pay H3 (k2.trans k3) (W2.next k3 W.nin D3)
  · refine itF (decide_eq_false fun z => h6 (V.int.inj z)) ?_
    exact pay H2 k2 (W2.next (Kp.refl [] _) (by simp) (D2.le (by omega)))
end
end K29

set_option Elab.async false
set_option linter.all false
set_option maxRecDepth 100000
set_option maxHeartbeats 4000000
/-! ## the law's side: row, block -/
namespace K29
open PySem L2
structure Bg where
  b0 : Nat
  b1 : Nat
  b2 : Nat
  b3 : Nat
  b4 : Nat
abbrev LfB (H : Hp) (l : Addr) (b : Bg) : Prop := Lf H l b.b0 b.b1 b.b2 b.b3 b.b4
structure Spent (t : Nat) (ss : List Sm) (b c : Bg) : Prop where
  p0 : c.b0 + sizL ss = b.b0
  p1 : c.b1 + t * cntL 0 ss = b.b1
  p2 : c.b2 + t * cntL 1 ss = b.b2
  p3 : c.b3 + t * cntL 2 ss = b.b3
  p4 : c.b4 + t * cntL 3 ss = b.b4
theorem Spent.nil (t : Nat) (b : Bg) : Spent t [] b b := ⟨rfl, rfl, rfl, rfl, rfl⟩
theorem Spent.app {t : Nat} {ss ts : List Sm} {b c e : Bg} (h : Spent t ss b c) (g : Spent t ts c e) : Spent t (ss ++ ts) b e := by
  obtain ⟨h0, h1, h2, h3, h4⟩ := h
  obtain ⟨g0, g1, g2, g3, g4⟩ := g
  constructor
  · rw [sizL_append]; omega
  · rw [cntL_append, Nat.mul_add]; omega
  · rw [cntL_append, Nat.mul_add]; omega
  · rw [cntL_append, Nat.mul_add]; omega
  · rw [cntL_append, Nat.mul_add]; omega
theorem Spent.ite {t : Nat} {te : Te} {x y : List Sm} {b c e : Bg} {b3 b4 : Nat} (h : Spent t x ⟨b.b0 - 1, b.b1 - t, b.b2, b3, b4⟩ c) (g : Spent t y c e) (z0 : 1 ≤ b.b0) (z1 : t ≤ b.b1)
    (e3 : b3 + (if own.isRest te = true then t else 0) = b.b3) (e4 : b4 + (if own.isRest te = true then 0 else t) = b.b4) : Spent t [.ite te x y] b e := by
  obtain ⟨h0, h1, h2, h3, h4⟩ := h
  obtain ⟨g0, g1, g2, g3, g4⟩ := g
  simp only at h0 h1 h2 h3 h4
  constructor
  · simp only [sizL, sizS]; omega
  · simp only [cntL, cntS, own, Nat.mul_add, Nat.mul_one]; omega
  · simp only [cntL, cntS, own, Nat.mul_add]; omega
  · simp only [cntL, cntS, own, Nat.mul_add]
    cases hr : own.isRest te <;> simp only [hr, Bool.false_eq_true, if_false, if_true, Nat.mul_one, Nat.mul_zero] at e3 ⊢ <;> omega
  · simp only [cntL, cntS, own, Nat.mul_add]
    cases hr : own.isRest te <;> simp only [hr, Bool.false_eq_true, if_false, if_true, Nat.mul_one, Nat.mul_zero] at e4 ⊢ <;> omega
theorem Spent.cho {t : Nat} {w : Bool} {x y : List Sm} {b c e : Bg} (h : Spent t x ⟨b.b0 - 1, b.b1 - t, b.b2 - t, b.b3, b.b4⟩ c) (g : Spent t y c e) (z0 : 1 ≤ b.b0) (z1 : t ≤ b.b1) (z2 : t ≤ b.b2) : Spent t [.cho w x y] b e := by
  obtain ⟨h0, h1, h2, h3, h4⟩ := h
  obtain ⟨g0, g1, g2, g3, g4⟩ := g
  simp only at h0 h1 h2 h3 h4
  constructor
  · simp only [sizL, sizS]; omega
  · simp only [cntL, cntS, own, Nat.mul_add, Nat.mul_one]; omega
  · simp only [cntL, cntS, own, Nat.mul_add, Nat.mul_one]; omega
  · simp only [cntL, cntS, own, Nat.mul_add]; omega
  · simp only [cntL, cntS, own, Nat.mul_add]; omega
theorem Spent.rep {t k : Nat} {x : List Sm} {b c : Bg} (h : Spent (t * k) x ⟨b.b0 - 1, b.b1 - t, b.b2, b.b3, b.b4⟩ c) (z0 : 1 ≤ b.b0) (z1 : t ≤ b.b1) : Spent t [.rep (k : Nat) x] b c := by
  obtain ⟨h0, h1, h2, h3, h4⟩ := h
  simp only at h0 h1 h2 h3 h4
  have key : ∀ f, t * (cntL f x * k) = t * k * cntL f x := fun f => by rw [Nat.mul_comm (cntL f x) k, Nat.mul_assoc]
  constructor
  · simp only [sizL, sizS]; omega
  · simp only [cntL, cntS, own, Nat.mul_add, Nat.mul_one, Int.toNat_natCast, key]; omega
  · simp only [cntL, cntS, own, Nat.mul_add, Int.toNat_natCast, key]; omega
  · simp only [cntL, cntS, own, Nat.mul_add, Int.toNat_natCast, key]; omega
  · simp only [cntL, cntS, own, Nat.mul_add, Int.toNat_natCast, key]; omega
theorem Spent.plain {t : Nat} {ns : List Str} {s : Sm} {b : Bg} (h : Plain ns s) (z0 : 1 ≤ b.b0) (z1 : t ≤ b.b1) : Spent t [s] b ⟨b.b0 - 1, b.b1 - t, b.b2, b.b3, b.b4⟩ := by
  rcases h with ⟨x, e, rfl, _⟩ | ⟨e, rfl, _⟩ | rfl <;> constructor <;> simp only [sizL, sizS, cntL, cntS, own, Nat.mul_one, Nat.mul_zero, Nat.add_zero] <;> omega
theorem Plain.ok {ns : List Str} {s : Sm} (h : Plain ns s) (j : Nat) : okS (· ∈ ns) (j + 1) s := by
  rcases h with ⟨x, e, rfl, hx, he⟩ | ⟨e, rfl, he⟩ | rfl
  · exact ⟨hx, he⟩
  · exact he
  · trivial
theorem cutH (cond C : Hp → Prop) {G : Prop} (pre : (∀ b, cond b → C b) → G) (h : ∀ b, cond b → C b) : G := pre h
def cB : Nat → Nat
  | 0 => 0
  | j + 1 => 1 + 4 * (62 + 2 * cB j)
def encO : Option Sm → PyData
  | none => .tuple []
  | some s => encS s
theorem encS_tup : ∀ s : Sm, ∃ ds, encS s = .tuple ds ∧ ds.isEmpty = false
  | .set .. => ⟨_, rfl, rfl⟩
  | .pay .. => ⟨_, rfl, rfl⟩
  | .stop => ⟨_, rfl, rfl⟩
  | .ite .. => ⟨_, rfl, rfl⟩
  | .cho .. => ⟨_, rfl, rfl⟩
  | .rep .. => ⟨_, rfl, rfl⟩
section
variable {P : Program} {w : World} {K : PySem.W.Frag} {mg : Str → Option Value} {base : Heap}
def sp_block (j : Nat) : Sp := fun vs H Q _ => ∃ (d c nl l : Addr) (n : Nat) (ns : List Str) (b : Bg) (t : Nat), vs = [.ref d, .ref nl, .ref l, .int (t : Nat), .int (4 - (j : Int))] ∧ Wk H d c nl n ns ∧ n + cB j ≤ BIG ∧ j ≤ 4 ∧ LfB H l b ∧ l ≠ d ∧ l ≠ c ∧ nl ≠ l ∧
  ∀ H' v ss b', Kp [d, c, l] H H' → Dk H' d c (n + cB j) → LfB H' l b' → RepB H' ss v → okL (· ∈ ns) j ss → Spent t ss b b' → Q v H'
def sp_row (j : Nat) : Sp := fun vs H Q _ => ∃ (d c nl l : Addr) (n : Nat) (ns : List Str) (b : Bg) (t : Nat), vs = [.ref d, .ref nl, .ref l, .int (t : Nat), .int (3 - (j : Int))] ∧ Wk H d c nl n ns ∧ n + (62 + 2 * cB j) ≤ BIG ∧ j ≤ 3 ∧ LfB H l b ∧ l ≠ d ∧ l ≠ c ∧ nl ≠ l ∧
  ∀ H' v o b', Kp [d, c, l] H H' → Dk H' d c (n + (62 + 2 * cB j)) → LfB H' l b' → Rep H' (encO o) v → okL (· ∈ ns) (j + 1) o.toList → Spent t o.toList b b' → Q v H'
theorem ok_row_of (T : Txt K mg) (j : Nat) (G__law_block : FnOk P w K mg base CX0 (10 + 2 * j) T._law_block.f T._law_block.fd ["_law_deck_here", "_law_names_here", "_law_left", "_law_times", "_law_depth"] (sp_block j)) :
    FnOk P w K mg base CX0 (11 + 2 * j) T._law_row.f T._law_row.fd ["_law_deck_here", "_law_names_here", "_law_left", "_law_times", "_law_depth"] (sp_row j) := by
  have G__law_draw := ok_draw (P := P) (w := w) (base := base) T
  have G__law_one := ok_one (P := P) (w := w) (base := base) T
  have G__law_test := ok_ltest (P := P) (w := w) (base := base) T
  have G__law_plain := ok_plain (P := P) (w := w) (base := base) T
  have e11 : 11 + 2 * j = 10 + 2 * j + 1 := by omega
  rw [e11]
  refine T._law_row.F.ok sc__law_row (fun vs H Q E h => ?_) (fun cdv A outer s H vs Q E hr h => ?_)
  · obtain ⟨d, c, nl, l, n, ns, b, t, rfl, _⟩ := h
    rfl
  obtain ⟨d, c, nl, l, n, ns, b, t, rfl, W, hn, hj, hl, m1, m2, m3, q⟩ := h
  have eB : BIG = 1099511627776 := rfl
  have mm : nl ∉ [d, c, l] := by simp [W.n1, W.n2, m3]
  have edep : (3 - (j : Int)) + 1 = 4 - (j : Int) := by omega
  have edep' : (4 - (j : Int)) = (3 - (j : Int)) + 1 := by omega
  have ln : l ∉ [d, c] := by simp [m1, m2]
  have sub2 : ∀ x ∈ [d, c], x ∈ [d, c, l] := by simp
  refine ⟨_, (pss_cons (ps_if (PW.pt (pw_or (pt_cmpR op_lt (pe_ix ix_list (pv 2) pe_int (fun _ _ => rfl)) pe_int (nomark _)) (pw_or1 (pt_cmpR op_lt (pe_ix ix_list (pv 2) pe_int (fun _ _ => rfl)) (pv 3) (nomark _)))))
        (pss_one (ps_ret (pe_tup pa_nil)))
        pss_nil)
      (pss_cons (ps_asg (pe_tup (pa_cons (pe_op op_sub (pe_ix ix_list (pv 2) pe_int (fun _ _ => rfl)) pe_int) (pa_cons (pe_op op_sub (pe_ix ix_list (pv 2) pe_int (fun _ _ => rfl)) (pv 3)) pa_nil))) (pg_tup rfl (pgs_cons (pg_sub (pv 2) pe_int set_list) (pgs_cons (pg_sub (pv 2) pe_int set_list) pgs_nil))))
      (pss_cons (ps_set (i := 5) sc__law_row.nd rfl (Or.inl rfl) (pe_call G__law_draw (hr.mono (by omega)) rfl T._law_draw.g T._law_draw.F.kp T._law_draw.B .nil pass0 (pa_cons (pv 0) (pa_cons pe_int pa_nil))))
      (pss_cons (ps_set (i := 6) sc__law_row.nd rfl (Or.inl rfl) (pe_ifExp (pt_cmpR op_eq (pv 5) pe_int (nomark _)) (pe_call G__law_test (hr.mono (by omega)) rfl T._law_test.g T._law_test.F.kp T._law_test.B .nil pass0 (pa_cons (pv 0) (pa_cons (pv 1) (pa_cons (pv 2) (pa_cons (pv 3) pa_nil))))) (pe_tup pa_nil)))
      (pss_cons (ps_if (pt_cmpR (op_neD hr.units) (pv 6) (pe_tup pa_nil) (nomark _))
        (pss_cons (ps_set (i := 7) sc__law_row.nd rfl (Or.inl rfl) (pe_call G__law_block (hr.mono (by omega)) rfl T._law_block.g T._law_block.F.kp T._law_block.B .nil pass0 (pa_cons (pv 0) (pa_cons (pv 1) (pa_cons (pv 2) (pa_cons (pv 3) (pa_cons (pe_op op_add (pv 4) pe_int) pa_nil)))))))
        (pss_one (ps_ret (pe_tup (pa_cons pe_str (pa_cons (pv 6) (pa_cons (pv 7) (pa_cons (pe_call G__law_block (hr.mono (by omega)) rfl T._law_block.g T._law_block.F.kp T._law_block.B .nil pass0 (pa_cons (pv 0) (pa_cons (pv 1) (pa_cons (pv 2) (pa_cons (pv 3) (pa_cons (pe_op op_add (pv 4) pe_int) pa_nil)))))) pa_nil))))))))
        pss_nil)
      (pss_cons (ps_if (pt_cmpR op_eq (pv 5) pe_int (nomark _))
        (pss_cons (ps_set (i := 8) sc__law_row.nd rfl (Or.inl rfl) (pe_call G__law_one (hr.mono (by omega)) rfl T._law_one.g T._law_one.F.kp T._law_one.B .nil pass0 (pa_cons (pv 0) (pa_cons (pe_lst (pa_cons pe_int (pa_cons pe_int (pa_cons pe_int (pa_cons pe_int (pa_cons pe_int (pa_cons pe_int (pa_cons pe_int pa_nil)))))))) pa_nil))))
        (pss_one (ps_ret (pe_tup (pa_cons pe_str (pa_cons (pv 8) (pa_cons (pe_call G__law_block (hr.mono (by omega)) rfl T._law_block.g T._law_block.F.kp T._law_block.B .nil pass0 (pa_cons (pv 0) (pa_cons (pv 1) (pa_cons (pv 2) (pa_cons (pe_op op_mul (pv 3) (pv 8)) (pa_cons (pe_op op_add (pv 4) pe_int) pa_nil)))))) pa_nil)))))))
        pss_nil)
      (pss_cons (ps_if (PW.pt (pw_and (pt_cmpR op_lt (pv 5) pe_int (nomark _)) (pw_and1 (pt_cmpR op_ge (pe_ix ix_list (pv 2) pe_int (fun _ _ => rfl)) (pv 3) (nomark _)))))
        (pss_cons (ps_asg (pe_op op_sub (pe_ix ix_list (pv 2) pe_int (fun _ _ => rfl)) (pv 3)) (pg_sub (pv 2) pe_int set_list))
        (pss_cons (ps_set (i := 9) sc__law_row.nd rfl (Or.inl rfl) (pe_call G__law_block (hr.mono (by omega)) rfl T._law_block.g T._law_block.F.kp T._law_block.B .nil pass0 (pa_cons (pv 0) (pa_cons (pv 1) (pa_cons (pv 2) (pa_cons (pv 3) (pa_cons (pe_op op_add (pv 4) pe_int) pa_nil)))))))
        (pss_one (ps_ret (pe_tup (pa_cons (pe_call G__law_one (hr.mono (by omega)) rfl T._law_one.g T._law_one.F.kp T._law_one.B .nil pass0 (pa_cons (pv 0) (pa_cons (pe_lst (pa_cons pe_str (pa_cons pe_str pa_nil))) pa_nil))) (pa_cons (pv 9) (pa_cons (pe_call G__law_block (hr.mono (by omega)) rfl T._law_block.g T._law_block.F.kp T._law_block.B .nil pass0 (pa_cons (pv 0) (pa_cons (pv 1) (pa_cons (pv 2) (pa_cons (pv 3) (pa_cons (pe_op op_add (pv 4) pe_int) pa_nil)))))) pa_nil))))))))
        pss_nil)
      (pss_one (ps_ret (pe_call G__law_plain (hr.mono (by omega)) rfl T._law_plain.g T._law_plain.F.kp T._law_plain.B .nil pass0 (pa_cons (pv 0) (pa_cons (pv 1) pa_nil)))))))))))), ?_⟩
  -- nothing left
  have none_ : tRet (tTup tNil) { nx := fun _ H' => Q .non H', rt := Q } [some (.ref d), some (.ref nl), some (.ref l), some (.int (t : Nat)), some (.int (3 - (j : Int))), none, none, none, none, none] H :=
    ⟨by show 0 ≤ sizeLine; decide, fun p hp => q _ _ none b (Kp.new hp _) ((W.D.upd_new hp _).le (by omega)) ((Same.new hp _) _ _ hl) (rep_tuple.mpr ⟨p, [], rfl, upd_same, rfl⟩) trivial (Spent.nil t b)⟩
  refine ⟨_, rfl, _, _, _, _, rfl, rfl, SqL.of hl, rfl, _, _, rfl, rfl, _, rfl, ?_⟩
  by_cases z0 : ((b.b0 : Nat) : Int) < 1
  · rw [decide_eq_true z0]
    exact itT rfl none_
  rw [decide_eq_false z0]
  refine ⟨_, rfl, _, _, _, _, rfl, rfl, SqL.of hl, rfl, _, rfl, _, _, rfl, rfl, _, rfl, ?_⟩
  by_cases z1 : ((b.b1 : Nat) : Int) < (t : Nat)
  · exact itT (decide_eq_true z1) none_
  refine itF (decide_eq_false z1) ?_
  clear none_
  -- left[0], left[1] = ..
  have e0 : ((b.b0 : Nat) : Int) - 1 = ((b.b0 - 1 : Nat) : Int) := by omega
  have e1 : ((b.b1 : Nat) : Int) - (t : Nat) = ((b.b1 - t : Nat) : Int) := by omega
  apply cutH (fun H1 => Kp [d, c, l] H H1 ∧ Wk H1 d c nl n ns ∧ LfB H1 l ⟨b.b0 - 1, b.b1 - t, b.b2, b.b3, b.b4⟩)
  · intro hC
    refine ⟨_, rfl, _, _, _, _, rfl, rfl, SqL.of hl, rfl, _, _, rfl, rfl, _, rfl, _, _, _, _, rfl, rfl, SqL.of hl, rfl, _, rfl, _, _, rfl, rfl, by show 2 ≤ sizeLine; decide, fun p hp => ⟨p, _, rfl, SqT.of upd_same, rfl, _, _, rfl, ?_⟩⟩
    have s0 := Same.new hp (.tup [V.int ((b.b0 : Nat) - 1), V.int ((b.b1 : Nat) - (t : Nat))])
    refine ⟨_, rfl, _, _, _, 0, rfl, rfl, s0 _ _ hl, rfl, _, _, rfl, _, rfl, _, _, _, 1, rfl, rfl, upd_same, rfl, rfl, ?_⟩
    have lz := s0 _ _ hl
    refine hC _ ⟨Same.kp s0 ((Kp.putL (by simp) lz _).trans (Kp.putL (by simp) upd_same _)), ?_, ?_⟩
    · exact (((W.sm s0).next (Kp.putL (ms := [d, c, l]) (by simp) lz _) mm ((W.D.sm s0).upd_new' ⟨m1, m2⟩ _))).next (Kp.putL (ms := [d, c, l]) (by simp) upd_same _) mm (((W.D.sm s0).upd_new' ⟨m1, m2⟩ _).upd_new' ⟨m1, m2⟩ _)
    · show upd _ _ _ l = _
      rw [upd_same]
      show some (HO.lst [V.int ((b.b0 : Nat) - 1), V.int ((b.b1 : Nat) - (t : Nat)), _, _, _]) = _
      rw [e0, e1]
  rintro H1 ⟨k1, W1, l1⟩
  have y0 : 1 ≤ b.b0 := by omega
  have y1 : t ≤ b.b1 := by omega
  clear e0 e1 z0 z1
  -- a way, a test
  refine ⟨_, rfl, d, c, _, 9, rfl, W1.D, by omega, by omega, by omega, fun H2 way k2 D2 w0 w1 => ?_⟩
  have W2 := W1.next k2 W1.nin D2
  have l2 := k2.keep _ _ l1 ln
  have k2 := k1.trans (k2.mono sub2)
  apply cutC (fun (p : Addr) (H3 : Hp) => ∃ c3 c4 xs, Kp [d, c, l] H H3 ∧ Wk H3 d c nl (n + 41) ns ∧ LfB H3 l ⟨b.b0 - 1, b.b1 - t, b.b2, c3, c4⟩ ∧ H3 p = some (.tup xs) ∧
    ((xs = [] ∧ c3 = b.b3 ∧ c4 = b.b4) ∨ (∃ te, RepT H3 te (.ref p) ∧ okT (· ∈ ns) 2 te ∧ c3 + (if own.isRest te = true then t else 0) = b.b3 ∧ c4 + (if own.isRest te = true then 0 else t) = b.b4)))
  · intro hC
    refine ⟨_, rfl, rfl, _, rfl, ?_⟩
    by_cases h0 : way = 0
    · refine itT (decide_eq_true (by rw [h0])) ?_
      refine ⟨_, rfl, _, rfl, _, rfl, _, rfl, d, c, nl, l, _, ns, _, _, _, _, _, t, rfl, W2, by omega, l2, m1, m2, m3, fun H3 p c3 c4 xs k3 D3 l3 hp h => ?_⟩
      exact hC p H3 ⟨c3, c4, xs, k2.trans k3, W2.next k3 mm D3, l3, hp, h⟩
    · refine itF (decide_eq_false fun z => h0 (V.int.inj z)) ⟨by show 0 ≤ sizeLine; decide, fun p hp => ?_⟩
      have s3 := Same.new hp (.tup [])
      exact hC p _ ⟨b.b3, b.b4, [], k2.trans (Kp.of_same s3), (W2.next (Kp.of_same (ms := []) s3) (by simp) ((D2.sm s3).le (by omega))), s3 _ _ l2, upd_same, .inl ⟨rfl, rfl, rfl⟩⟩
  rintro p H3 ⟨c3, c4, xs, k3, W3, l3, hp, h⟩
  have e5 : ∀ e5 : Addr, H3 e5 = none → Same H3 (upd H3 e5 (.tup [])) := fun e he => Same.new he _
  rcases h with ⟨rfl, rfl, rfl⟩ | ⟨te, rt, ot, ec3, ec4⟩
  case inr =>
    -- if
    obtain ⟨ds, ed, en⟩ := encT_tup te
    refine ⟨_, rfl, by show 0 ≤ sizeLine; decide, fun e he => ⟨_, _, Rep.dp _ _ (Rep.sm rt (Same.new he _)), .tup (SqT.of upd_same) .nil, shaped_of (lay_T (fun x hx => nameOk_str x (W.ok x hx)) 2 te ot) (by decide), by decide +kernel, _, rfl, ?_⟩⟩
    rw [ed, eqv_nilT, en]
    have s4 := Same.new he (.tup [])
    refine itT rfl ?_
    refine ⟨_, rfl, _, rfl, _, rfl, _, rfl, _, rfl, _, _, rfl, rfl, d, c, nl, l, _, ns, ⟨b.b0 - 1, b.b1 - t, b.b2, c3, c4⟩, t, (by rw [← edep] <;> rfl), W3.sm s4, by omega, by omega, s4 _ _ l3, m1, m2, m3, fun H5 v5 ss5 b5 k5 D5 l5 r5 o5 sp5 => ?_⟩
    have W5 := (W3.sm s4).next k5 mm D5
    refine ⟨_, rfl, _, rfl, _, rfl, _, rfl, _, rfl, _, rfl, _, rfl, _, _, rfl, rfl, d, c, nl, l, _, ns, b5, t, (by rw [← edep] <;> rfl), W5, by omega, by omega, l5, m1, m2, m3, fun H6 v6 ss6 b6 k6 D6 l6 r6 o6 sp6 => ?_⟩
    refine ⟨by show 4 ≤ sizeLine; decide, fun u hu => ?_⟩
    have s7 := Same.new hu (.tup [V.str "if", .ref p, v5, v6])
    refine q _ _ (some (.ite te ss5 ss6)) b6 (k3.trans (Same.kp s4 (k5.trans (k6.trans (Kp.of_same s7))))) ((D6.sm s7).le (by omega)) (s7 _ _ l6) (RepS.mk_ite upd_same (Rep.sm (Rep.kp (Rep.kp (Rep.sm rt s4) k5) k6) s7) (Rep.sm (Rep.kp r5 k6) s7) (Rep.sm r6 s7)) ⟨⟨ot, o5, o6⟩, trivial⟩ (Spent.ite sp5 sp6 y0 y1 ec3 ec4)
  refine ⟨_, rfl, by show 0 ≤ sizeLine; decide, fun e he => ⟨_, _, .tup (SqT.of ((Same.new he _) _ _ hp)) .nil, .tup (SqT.of upd_same) .nil, by decide +kernel, by decide +kernel, _, rfl, ?_⟩⟩
  rw [eqv_nilT]
  have s4 := Same.new he (.tup [])
  refine itF rfl ?_
  have W4 := W3.sm s4
  have l4 := s4 _ _ l3
  have k4 := k3.trans (Kp.of_same (ms := [d, c, l]) s4)
  generalize upd H3 e (.tup []) = H4 at W4 l4 k4 ⊢
  -- repeat
  refine ⟨_, rfl, rfl, _, rfl, ?_⟩
  by_cases h1 : way = 1
  · refine itT (decide_eq_true (by rw [h1])) ?_
    refine ⟨_, rfl, by show 7 ≤ sizeLine; decide, fun p hp => ?_⟩
    refine ⟨d, c, _, _, rfl, W4.D.upd_new hp _, by omega, .inl ⟨p, _, rfl, upd_same, (W4.D.new hp).1, (W4.D.new hp).2, by show 1 ≤ 7; decide, by show 7 ≤ 1000; decide, fun H5 v i k5 D5 e => ?_⟩⟩
    obtain ⟨k, rfl, hk1, hk8⟩ : ∃ k : Nat, v = .int (k : Nat) ∧ 1 ≤ k ∧ k ≤ 8 := by
      have hm := List.mem_of_getElem? e
      simp only [List.mem_cons, List.not_mem_nil, or_false] at hm
      rcases hm with h | h | h | h | h | h | h
      · exact ⟨1, h, by omega, by omega⟩
      · exact ⟨1, h, by omega, by omega⟩
      · exact ⟨2, h, by omega, by omega⟩
      · exact ⟨2, h, by omega, by omega⟩
      · exact ⟨3, h, by omega, by omega⟩
      · exact ⟨4, h, by omega, by omega⟩
      · exact ⟨8, h, by omega, by omega⟩
    have s5 := Same.new hp (.lst [V.int 1, V.int 1, V.int 2, V.int 2, V.int 3, V.int 4, V.int 8])
    have W5 := (W4.sm s5).next k5 W4.nin D5
    have l5 := k5.keep _ _ (s5 _ _ l4) ln
    have etk : ((t : Nat) : Int) * (k : Nat) = ((t * k : Nat) : Int) := by rw [Int.natCast_mul]
    refine ⟨_, rfl, _, rfl, _, rfl, _, rfl, _, rfl, _, rfl, _, _, rfl, rfl, .inr ⟨by omega, by omega⟩, _, rfl, _, _, rfl, rfl, d, c, nl, l, _, ns, _, t * k, (by rw [← edep, ← etk] <;> rfl), W5, by omega, by omega, l5, m1, m2, m3, fun H6 v6 ss6 b6 k6 D6 l6 r6 o6 sp6 => ?_⟩
    refine ⟨by show 3 ≤ sizeLine; decide, fun u hu => ?_⟩
    have s7 := Same.new hu (.tup [V.str "repeat", .int (k : Nat), v6])
    refine q _ _ (some (.rep (k : Nat) ss6)) b6 (k4.trans (Same.kp s5 ((k5.mono sub2).trans (k6.trans (Kp.of_same s7))))) ((D6.sm s7).le (by omega)) (s7 _ _ l6) (RepS.mk_rep upd_same (Rep.sm r6 s7)) ⟨⟨by omega, by omega, o6⟩, trivial⟩ (Spent.rep sp6 y0 y1)
  refine itF (decide_eq_false fun z => h1 (V.int.inj z)) ?_
  -- plain
  have plain_ : tRet (tCall sp_plain [] E0 (tCons (tVar 0) (tCons (tVar 1) tNil))) { nx := fun _ H' => Q .non H', rt := Q } [some (.ref d), some (.ref nl), some (.ref l), some (.int (t : Nat)), some (.int (3 - (j : Int))), some (.int way), some (.ref p), none, none, none] H4 := by
    refine ⟨_, rfl, _, rfl, d, c, nl, _, ns, rfl, W4, by omega, fun H5 v s k5 D5 r5 p5 => ?_⟩
    exact q _ _ (some s) _ (k4.trans (k5.mono sub2)) (D5.le (by omega)) (k5.keep _ _ l4 ln) r5 ⟨p5.ok j, trivial⟩ (Spent.plain p5 y0 y1)
  refine ⟨_, rfl, _, _, rfl, rfl, _, rfl, ?_⟩
  by_cases h6 : way < 6
  · refine itT (decide_eq_true h6) ?_
    refine ⟨_, rfl, _, _, _, _, rfl, rfl, SqL.of l4, rfl, _, rfl, _, _, rfl, rfl, _, rfl, ?_⟩
    by_cases z2 : ((b.b2 : Nat) : Int) ≥ (t : Nat)
    · refine itT (decide_eq_true z2) ?_
      refine ⟨_, rfl, _, _, _, _, rfl, rfl, SqL.of l4, rfl, _, rfl, _, _, rfl, rfl, ?_⟩
      refine ⟨_, rfl, _, _, _, 2, rfl, rfl, l4, rfl, ?_⟩
      have e2 : ((b.b2 : Nat) : Int) - (t : Nat) = ((b.b2 - t : Nat) : Int) := by omega
      have y2 : t ≤ b.b2 := by omega
      have k5 := Kp.putL (ms := [d, c, l]) (by simp) l4 (.lst ([V.int ((b.b0 - 1 : Nat) : Int), V.int ((b.b1 - t : Nat) : Int), V.int (b.b2 : Nat), V.int (b.b3 : Nat), V.int (b.b4 : Nat)].set 2 (V.int ((b.b2 : Nat) - (t : Nat)))))
      have W5 := W4.next k5 mm (W4.D.upd_new' ⟨m1, m2⟩ _)
      have l5 : LfB (upd H4 l (.lst ([V.int ((b.b0 - 1 : Nat) : Int), V.int ((b.b1 - t : Nat) : Int), V.int (b.b2 : Nat), V.int (b.b3 : Nat), V.int (b.b4 : Nat)].set 2 (V.int ((b.b2 : Nat) - (t : Nat)))))) l ⟨b.b0 - 1, b.b1 - t, b.b2 - t, b.b3, b.b4⟩ := by
        unfold LfB Lf
        rw [upd_same, e2] <;> rfl
      refine ⟨_, rfl, _, rfl, _, rfl, _, rfl, _, rfl, _, _, rfl, rfl, d, c, nl, l, _, ns, ⟨b.b0 - 1, b.b1 - t, b.b2 - t, b.b3, b.b4⟩, t, (by rw [← edep] <;> rfl), W5, by omega, by omega, l5, m1, m2, m3, fun H6 v6 ss6 b6 k6 D6 l6 r6 o6 sp6 => ?_⟩
      have W6 := W5.next k6 mm D6
      refine ⟨_, rfl, by show 2 ≤ sizeLine; decide, fun p hp => ?_⟩
      refine ⟨d, c, _, _, rfl, D6.upd_new hp _, by omega, .inl ⟨p, _, rfl, upd_same, (D6.new hp).1, (D6.new hp).2, by show 1 ≤ 2; decide, by show 2 ≤ 1000; decide, fun H7 v i k7 D7 e => ?_⟩⟩
      obtain ⟨we, rfl⟩ : ∃ we : Bool, v = .str (hand we) := by
        have hm := List.mem_of_getElem? e
        simp only [List.mem_cons, List.not_mem_nil, or_false] at hm
        rcases hm with h | h
        · exact ⟨true, h⟩
        · exact ⟨false, h⟩
      have s7 := Same.new hp (.lst [V.str "we", V.str "they"])
      have k67 := Same.kp s7 k7
      have W7 := W6.next k67 W.nin D7
      have l7 := k67.keep _ _ l6 ln
      refine ⟨_, rfl, _, rfl, _, rfl, _, rfl, _, rfl, _, rfl, _, _, rfl, rfl, d, c, nl, l, _, ns, b6, t, (by rw [← edep] <;> rfl), W7, by omega, by omega, l7, m1, m2, m3, fun H8 v8 ss8 b8 k8 D8 l8 r8 o8 sp8 => ?_⟩
      refine ⟨by show 3 ≤ sizeLine; decide, fun u hu => ?_⟩
      have s9 := Same.new hu (.tup [V.str (hand we), v6, v8])
      refine q _ _ (some (.cho we ss6 ss8)) b8 (k4.trans (k5.trans (k6.trans ((k67.mono sub2).trans (k8.trans (Kp.of_same s9)))))) ((D8.sm s9).le (by omega)) (s9 _ _ l8) (RepS.mk_cho upd_same (Rep.sm (Rep.kp (Rep.kp r6 k67) k8) s9) (Rep.sm r8 s9)) ⟨⟨o6, o8⟩, trivial⟩ (Spent.cho sp6 sp8 y0 y1 y2)
    · exact itF (decide_eq_false z2) plain_
  · exact itF (decide_eq_false h6) plain_
end
end K29

set_option Elab.async false
set_option linter.all false
set_option maxRecDepth 100000
set_option maxHeartbeats 4000000
/-! ## the law's side: block, program -/
namespace K29
open PySem L2
theorem okL_opts {N : Str → Prop} {j : Nat} {os : List (Option Sm)} (h : ∀ o ∈ os, okL N j o.toList) : okL N j (os.filterMap id) := by
  rw [okL_iff]
  intro s hs
  obtain ⟨o, ho, e⟩ := List.mem_filterMap.mp hs
  have e' : o = some s := e
  have := h o ho
  rw [e'] at this
  simp only [Option.toList, okL] at this
  exact this.1
theorem lay_O {ns : List Str} (hn : ∀ x ∈ ns, NameOk x) {j : Nat} {o : Option Sm} (hj : j ≤ 4) (h : okL (· ∈ ns) j o.toList) : SeqAt.shaped (encO o) = true := by
  cases o with
  | none => decide +kernel
  | some s =>
    simp only [Option.toList, okL] at h
    exact shaped_of (lay_S (fun x hx => nameOk_str x (hn x hx)) j s h.1) (by omega)
section
variable {P : Program} {w : World} {K : PySem.W.Frag} {mg : Str → Option Value} {base : Heap}
theorem ok_block0 (T : Txt K mg) : FnOk P w K mg base CX0 10 T._law_block.f T._law_block.fd ["_law_deck_here", "_law_names_here", "_law_left", "_law_times", "_law_depth"] (sp_block 0) := by
  have G__law_draw := ok_draw (P := P) (w := w) (base := base) T
  have G__law_row : FnOk P w K mg base CX0 1 T._law_row.f T._law_row.fd ["_law_deck_here", "_law_names_here", "_law_left", "_law_times", "_law_depth"] (fun _ _ _ _ => False) := FnOk.never fun _ _ _ _ h => h
  refine T._law_block.F.ok sc__law_block (fun vs H Q E h => ?_) (fun cdv A outer s H vs Q E hr h => ?_)
  · obtain ⟨d, c, nl, l, n, ns, b, t, rfl, _⟩ := h
    rfl
  obtain ⟨d, c, nl, l, n, ns, b, t, rfl, W, hn, hj, hl, m1, m2, m3, q⟩ := h
  refine ⟨_, (pss_cons (ps_if (pt_cmpR op_gt (pv 4) pe_int (nomark _))
        (pss_one (ps_ret (pe_tup pa_nil)))
        pss_nil)
      (pss_cons (ps_par (i := 6) (j := 7) rfl sc__law_block.nd rfl rfl (by decide) rfl rfl (pa_cons (pe_op op_add (pe_call G__law_draw (hr.mono (by omega)) rfl T._law_draw.g T._law_draw.F.kp T._law_draw.B .nil pass0 (pa_cons (pv 0) (pa_cons pe_int pa_nil))) (pe_callTy call_int1 rfl T.n_int (by decide +kernel) (pa_cons (pe_cmpR op_eq (pv 4) pe_int (nomark _)) pa_nil))) (pa_cons (pe_lst pa_nil) pa_nil)) rfl)
      (pss_cons (ps_for PassesOwn.never rfl (pi_range1 rfl T.n_range (pa_cons (pv 6) pa_nil)) (pg_name (i := 5) sc__law_block.nd rfl (Or.inl rfl))
        (pss_one (ps_expr (pe_bm PySem.F.plainAttrs_list PySem.F.slot_list_append PySem.F.type_list_append mt_append (pv 7) (pa_cons (pe_call G__law_row (hr.mono (by omega)) rfl T._law_row.g T._law_row.F.kp T._law_row.B .nil pass0 (pa_cons (pv 0) (pa_cons (pv 1) (pa_cons (pv 2) (pa_cons (pv 3) (pa_cons (pv 4) pa_nil)))))) pa_nil)))))
      (pss_one (ps_ret (pe_callTy call_tuple_of rfl T.n_tuple (by decide +kernel) (pa_cons (pe_lc (own := [("_law_row_here", 8)]) (g := gName 8) (tt := tTest (tOp (rNeD K) (tVar 8) (tTup tNil))) rfl sc__law_block.nd (pi_list (pv 7)) (blkOk_by (N := N__law_block) (sc := defScope s__law_block) (by decide +kernel)) (fun _ _ _ _ _ => pg_name (i := 8) sc__law_block.nd rfl (Or.inl rfl)) (fun _ _ _ _ _ => (pts_one (pt_cmpR (op_neD hr.units) (pv 8) (pe_tup pa_nil) (nomark _)))) (fun _ _ _ _ _ => (pv 8))) pa_nil))))))), ?_⟩
  refine ⟨_, rfl, _, _, rfl, rfl, _, rfl, itT (by decide) ⟨by show 0 ≤ sizeLine; decide, fun p hp => ?_⟩⟩
  exact q _ _ [] b (Kp.new hp _) (W.D.upd_new hp _) ((Same.new hp _) _ _ hl) (rep_tuple.mpr ⟨p, [], rfl, upd_same, rfl⟩) trivial (Spent.nil t b)
theorem ok_block_of (T : Txt K mg) (j : Nat) (G__law_row : FnOk P w K mg base CX0 (11 + 2 * j) T._law_row.f T._law_row.fd ["_law_deck_here", "_law_names_here", "_law_left", "_law_times", "_law_depth"] (sp_row j)) :
    FnOk P w K mg base CX0 (12 + 2 * j) T._law_block.f T._law_block.fd ["_law_deck_here", "_law_names_here", "_law_left", "_law_times", "_law_depth"] (sp_block (j + 1)) := by
  have G__law_draw := ok_draw (P := P) (w := w) (base := base) T
  have e12 : 12 + 2 * j = 11 + 2 * j + 1 := by omega
  rw [e12]
  refine T._law_block.F.ok sc__law_block (fun vs H Q E h => ?_) (fun cdv A outer s H vs Q E hr h => ?_)
  · obtain ⟨d, c, nl, l, n, ns, b, t, rfl, _⟩ := h
    rfl
  obtain ⟨d, c, nl, l, n, ns, b, t, rfl, W, hn, hj, hl, m1, m2, m3, q⟩ := h
  have eB : BIG = 1099511627776 := rfl
  have mm : nl ∉ [d, c, l] := by simp [W.n1, W.n2, m3]
  have edep : 4 - ((j + 1 : Nat) : Int) = 3 - (j : Int) := by omega
  have ln : l ∉ [d, c] := by simp [m1, m2]
  have sub2 : ∀ x ∈ [d, c], x ∈ [d, c, l] := by simp
  have ecB : cB (j + 1) = 1 + 4 * (62 + 2 * cB j) := rfl
  refine ⟨_, (pss_cons (ps_if (pt_cmpR op_gt (pv 4) pe_int (nomark _))
        (pss_one (ps_ret (pe_tup pa_nil)))
        pss_nil)
      (pss_cons (ps_par (i := 6) (j := 7) rfl sc__law_block.nd rfl rfl (by decide) rfl rfl (pa_cons (pe_op op_add (pe_call G__law_draw (hr.mono (by omega)) rfl T._law_draw.g T._law_draw.F.kp T._law_draw.B .nil pass0 (pa_cons (pv 0) (pa_cons pe_int pa_nil))) (pe_callTy call_int1 rfl T.n_int (by decide +kernel) (pa_cons (pe_cmpR op_eq (pv 4) pe_int (nomark _)) pa_nil))) (pa_cons (pe_lst pa_nil) pa_nil)) rfl)
      (pss_cons (ps_for PassesOwn.never rfl (pi_range1 rfl T.n_range (pa_cons (pv 6) pa_nil)) (pg_name (i := 5) sc__law_block.nd rfl (Or.inl rfl))
        (pss_one (ps_expr (pe_bm PySem.F.plainAttrs_list PySem.F.slot_list_append PySem.F.type_list_append mt_append (pv 7) (pa_cons (pe_call G__law_row (hr.mono (by omega)) rfl T._law_row.g T._law_row.F.kp T._law_row.B .nil pass0 (pa_cons (pv 0) (pa_cons (pv 1) (pa_cons (pv 2) (pa_cons (pv 3) (pa_cons (pv 4) pa_nil)))))) pa_nil)))))
      (pss_one (ps_ret (pe_callTy call_tuple_of rfl T.n_tuple (by decide +kernel) (pa_cons (pe_lc (own := [("_law_row_here", 8)]) (g := gName 8) (tt := tTest (tOp (rNeD K) (tVar 8) (tTup tNil))) rfl sc__law_block.nd (pi_list (pv 7)) (blkOk_by (N := N__law_block) (sc := defScope s__law_block) (by decide +kernel)) (fun _ _ _ _ _ => pg_name (i := 8) sc__law_block.nd rfl (Or.inl rfl)) (fun _ _ _ _ _ => (pts_one (pt_cmpR (op_neD hr.units) (pv 8) (pe_tup pa_nil) (nomark _)))) (fun _ _ _ _ _ => (pv 8))) pa_nil))))))), ?_⟩
  refine ⟨_, rfl, _, _, rfl, rfl, _, rfl, itF (decide_eq_false (by omega)) ?_⟩
  rw [edep]
  refine ⟨_, rfl, d, c, _, 4, rfl, W.D, by omega, by omega, by omega, fun H1 r k1 D1 r0 r1 => ⟨_, rfl, rfl, .inr ⟨_, rfl, _, _, rfl, rfl, ?_⟩⟩⟩
  obtain ⟨m, em0, w4⟩ : ∃ m : Nat, r + (if decide (V.int (3 - (j : Int)) = V.int 0) = true then 1 else 0) = (m : Nat) ∧ m ≤ 4 := by
    by_cases h : decide (V.int (3 - (j : Int)) = V.int 0) = true
    · rw [if_pos h]; exact ⟨(r + 1).toNat, by omega, by omega⟩
    · rw [if_neg h]; exact ⟨r.toNat, by omega, by omega⟩
  have W1 := W.next k1 W.nin D1
  have l1 := k1.keep _ _ hl ln
  refine ⟨by show 0 ≤ sizeLine; decide, fun R hR => ⟨.int ((m : Nat) : Int), .ref R, (by rw [← em0] <;> rfl), ?_⟩⟩
  have hR0 : H R = none := D1.fresh k1 hR
  have nR := D1.new hR
  have nRl : R ≠ l := fun e => by rw [e, l1] at hR; cases hR
  have sR := Same.new hR (.lst [])
  have k1' := (k1.mono sub2).trans (Kp.of_same (ms := [d, c, l]) sR)
  refine ⟨_, rfl, _, rfl, by omega, by omega, ?_⟩
  refine for_it (walk_range (lo := 0) (n := ((m : Nat) : Int).toNat)) (fun i σ H2 => ∃ (os : List (Option Sm)) (xs : List V) (b' : Bg) (o5 : Option V), σ = [some (.ref d), some (.ref nl), some (.ref l), some (.int (t : Nat)), some (.int (3 - (j : Int))), o5, some (.int (m : Nat)), some (.ref R), none] ∧
      Kp [d, c, l] H H2 ∧ Wk H2 d c nl (n + 1 + i * (62 + 2 * cB j)) ns ∧ LfB H2 l b' ∧ H2 R = some (.lst xs) ∧ RepL H2 (os.map encO) xs ∧ os.length = i ∧ (∀ o ∈ os, okL (· ∈ ns) (j + 1) o.toList) ∧ Spent t (os.filterMap id) b b')
    ⟨[], [], b, none, rfl, k1', (by rw [Nat.zero_mul]; exact W1.sm sR), sR _ _ l1, upd_same, rfl, rfl, fun _ h => by simp at h, Spent.nil t b⟩ (fun _ _ _ _ _ => trivial) ?_ ?_
  · rintro i x σ H2 H3 hi ⟨os, xs, b', o5, rfl, k2, W2, l2, h2, r2, e2, ok2, sp2⟩ ⟨rfl, rfl⟩
    have hi4 : i + 1 ≤ 4 := by omega
    have hx := RepL.len r2
    rw [List.length_map, e2] at hx
    have mul4 := Nat.mul_le_mul_right (62 + 2 * cB j) hi4
    rw [Nat.add_mul, Nat.one_mul] at mul4
    refine ⟨_, rfl, .inl ⟨rfl, _, .inl (.inl h2)⟩, _, rfl, _, rfl, _, rfl, _, rfl, _, rfl, d, c, nl, l, _, ns, b', t, rfl, W2, by omega, by omega, l2, m1, m2, m3, fun H4 v o b4 k4 D4 l4 r4 o4 sp4 => ?_⟩
    have h4 : H4 R = some (.lst xs) := k4.keep _ _ h2 (by simp [nR, nRl])
    refine ⟨R, xs, _, rfl, rfl, h4, small1000 (by omega), ?_⟩
    have k5 := Kp.putL (ms := [R]) (by simp) h4 (.lst (xs ++ [v]))
    refine ⟨os ++ [o], xs ++ [v], b4, _, rfl, Kp.put_new (k2.trans k4) hR0 _, ?_, k5.keep _ _ l4 (by simp [nRl.symm]), upd_same, ?_, by rw [List.length_append, e2] <;> rfl, ?_, ?_⟩
    · have e : n + 1 + (i + 1) * (62 + 2 * cB j) = n + 1 + i * (62 + 2 * cB j) + (62 + 2 * cB j) := by rw [Nat.add_mul, Nat.one_mul]; omega
      rw [e]
      have nRn : nl ≠ R := fun z => by
        have := W2.at_
        rw [z, h2] at this
        have e3 := RepL.len r2
        have hn1 : R ≠ nl := fun z2 => by
          have hq := W1.at_
          rw [← z2, hR] at hq
          cases hq
        exact hn1 z.symm
      exact (W2.next k4 mm D4).next k5 (by simp [nRn]) (D4.kp k5 (by simp [nR.1.symm]) (by simp [nR.2.symm]))
    · rw [List.map_append]
      exact RepL.append (RepL.kp (RepL.kp r2 k4) k5) (RepL.one (Rep.kp r4 k5))
    · intro o' ho'
      rcases List.mem_append.mp ho' with h | h
      · exact ok2 o' h
      · rw [List.mem_singleton.mp h]; exact o4
    · rw [List.filterMap_append]
      have : ([o].filterMap id) = o.toList := by cases o <;> rfl
      rw [this]
      exact Spent.app sp2 sp4
  rintro σ H2 ⟨os, xs, b', o5, rfl, k2, W2, l2, h2, r2, e2, ok2, sp2⟩
  have em : ((m : Nat) : Int).toNat = m := by omega
  rw [em] at e2 W2
  have hm4 : m ≤ 4 := by omega
  have mul4 := Nat.mul_le_mul_right (62 + 2 * cB j) hm4
  have hx := RepL.len r2
  rw [List.length_map, e2] at hx
  refine ⟨_, rfl, R, rfl, ⟨xs, SqL.of h2⟩, fun D hD => ?_⟩
  refine lc_it (walk_list (K := K) (xs := xs)) (fun i H6 => ∃ acc, H6 D = some (.lst acc) ∧ RepL H6 (((os.take i).filterMap id).map encS) acc ∧ acc.length ≤ i ∧ Same H2 H6)
    ⟨[], upd_same, rfl, Nat.le_refl _, Same.new hD _⟩ (fun i H6 _ ⟨_, _, _, _, s6⟩ => SqL.of (s6 _ _ h2)) ?_ ?_
  · rintro i x H6 H7 hi ⟨acc, eD, rD, za, s6⟩ ⟨rfl, hxi⟩
    obtain ⟨dd, hdd, rx⟩ := RepL.get (RepL.sm r2 s6) hxi
    obtain ⟨o, ho, rfl⟩ : ∃ o, os[i]? = some o ∧ encO o = dd := by
      rw [List.getElem?_map] at hdd
      cases e : os[i]? with
      | none => rw [e] at hdd; cases hdd
      | some o => rw [e] at hdd; exact ⟨o, rfl, Option.some.inj hdd⟩
    have oko := ok2 o (List.mem_of_getElem? ho)
    refine ⟨rfl, _, rfl, by show 0 ≤ sizeLine; decide, fun e he => ⟨_, _, Rep.dp _ _ (Rep.sm rx (Same.new he _)), .tup (SqT.of upd_same) .nil, lay_O W.ok (by omega) oko, by decide +kernel, _, rfl, ?_⟩⟩
    have s7 := Same.new he (.tup [])
    cases o with
    | none =>
      refine itF (by show (!PyData.eqv (.tuple []) (.tuple [])) = false; rw [eqv_nilT] <;> rfl) ?_
      refine ⟨acc, s7 _ _ eD, ?_, by omega, s6.trans s7⟩
      rw [take_succ ho, List.filterMap_append]
      simpa using RepL.sm rD s7
    | some s =>
      obtain ⟨ds, ed, en⟩ := encS_tup s
      refine itT (by show (!PyData.eqv (encS s) (.tuple [])) = true; rw [ed, eqv_nilT, en] <;> rfl) ?_
      refine ⟨_, rfl, acc, s7 _ _ eD, small1000 (by omega), acc ++ [x], upd_same, ?_, by rw [List.length_append, List.length_singleton]; omega, Same.put (s6.trans s7) hD _⟩
      rw [take_succ ho, List.filterMap_append, List.map_append]
      have k8 := tups_put (s7 _ _ eD) (.lst (acc ++ [x]))
      exact RepL.append (RepL.mono k8 _ _ (RepL.sm rD s7)) (RepL.one (Rep.mono k8 _ _ (Rep.sm rx s7)))
  rintro H6 ⟨acc, eD, rD, za, s6⟩
  rw [hx, ← e2, List.take_length] at rD
  refine ⟨D, acc, rfl, .inl ⟨SqL.of eD, fun z hz => ?_⟩⟩
  have s8 := s6.trans (Same.new hz (.tup acc))
  refine q _ _ (os.filterMap id) b' (k2.trans (Kp.of_same s8)) ((W2.D.sm s8).le (by omega)) (s8 _ _ l2) (rep_tuple.mpr ⟨z, acc, rfl, upd_same, ?_⟩) (okL_opts ok2) sp2
  rw [encL_map]
  exact RepL.sm rD (Same.new hz _)
theorem ok_block (T : Txt K mg) : ∀ j : Nat, FnOk P w K mg base CX0 (10 + 2 * j) T._law_block.f T._law_block.fd ["_law_deck_here", "_law_names_here", "_law_left", "_law_times", "_law_depth"] (sp_block j)
  | 0 => ok_block0 T
  | j + 1 => by
    have e : 10 + 2 * (j + 1) = 12 + 2 * j := by omega
    rw [e]
    exact ok_block_of T j (ok_row_of T j (ok_block T j))
end
end K29

set_option Elab.async false
set_option linter.all false
set_option maxRecDepth 100000
set_option maxHeartbeats 4000000
/-! ## the law's side: program, number, turns -/
namespace K29
open PySem L2
structure Bnd (ss : List Sm) : Prop where
  siz : sizL ss ≤ 24
  w : cntL 0 ss ≤ 30
  c : cntL 1 ss ≤ 4
  r : cntL 2 ss ≤ 2
  l : cntL 3 ss ≤ 2
theorem okE_mono {N : Str → Prop} : ∀ {n m : Nat} {e : Ex}, n ≤ m → okE N n e → okE N m e
  | 0, m, e, _, h => by simp [okE] at h
  | n + 1, 0, e, z, h => absurd z (by omega)
  | n + 1, m + 1, .num i, _, h => h
  | n + 1, m + 1, .nam x, _, h => h
  | n + 1, m + 1, .bin b e f, z, h => ⟨okE_mono (n := n) (m := m) (by omega) h.1, okE_mono (n := n) (m := m) (by omega) h.2⟩
  | n + 1, m + 1, .tim k e, z, h => ⟨h.1, h.2.1, okE_mono (n := n) (m := m) (by omega) h.2.2⟩
theorem len_siz : ∀ ss : List Sm, ss.length ≤ sizL ss
  | [] => Nat.le_refl _
  | s :: r => by
    have h1 := sizS_pos s
    have h2 := len_siz r
    simp only [List.length_cons, sizL]
    omega
theorem catB {K : PySem.W.Frag} {H : Hp} {a b : List Sm} {x y : V} {Q : VK} (ha : RepB H a x) (hb : RepB H b y) (hz : a.length + b.length ≤ 1000) (q : ∀ H' z, Same H H' → RepB H' (a ++ b) z → Q z H') : rCatA K x y H Q := by
  obtain ⟨p, xs, rfl, hp, hxs⟩ := ha.at_
  obtain ⟨r, ys, rfl, hr, hys⟩ := hb.at_
  have e1 := RepSs.len hxs
  have e2 := RepSs.len hys
  refine ⟨p, r, xs, ys, rfl, rfl, SqT.of hp, SqT.of hr, small (by omega), fun e => ?_, fun _ e => ?_, fun _ _ u hu => ?_⟩
  · subst e
    have : a = [] := List.eq_nil_of_length_eq_zero e1.symm
    subst this
    exact q H _ (Same.refl H) hb
  · subst e
    have : b = [] := List.eq_nil_of_length_eq_zero e2.symm
    subst this
    exact q H _ (Same.refl H) (by rw [List.append_nil]; exact ha)
  · have s := Same.new hu (.tup (xs ++ ys))
    refine q _ _ s (RepB.mk upd_same ?_)
    unfold RepSs
    rw [encL_append]
    exact RepL.sm (RepL.append hxs hys) s
section
variable {P : Program} {w : World} {K : PySem.W.Frag} {mg : Str → Option Value} {base : Heap}
def sp_program : Sp := fun vs H Q _ => ∃ (d c nl : Addr) (n : Nat) (ns : List Str), vs = [.ref d, .ref nl] ∧ Wk H d c nl n ns ∧ n + 600000 ≤ BIG ∧
  ∀ H' v ss, Kp [d, c] H H' → Dk H' d c (n + 600000) → RepB H' ss v → okL (· ∈ ns) 4 ss → Bnd ss → Q v H'
theorem ok_program (T : Txt K mg) : FnOk P w K mg base CX0 19 T._law_program.f T._law_program.fd ["_law_deck_here", "_law_names_here"] sp_program := by
  have G__law_draw := ok_draw (P := P) (w := w) (base := base) T
  have G__law_expression := ok_expr (P := P) (w := w) (base := base) T 2
  have G__law_block := ok_block (P := P) (w := w) (base := base) T 4
  refine T._law_program.F.ok sc__law_program (fun vs H Q E h => ?_) (fun cdv A outer s H vs Q E hr h => ?_)
  · obtain ⟨d, c, nl, n, ns, rfl, _⟩ := h
    rfl
  obtain ⟨d, c, nl, n, ns, rfl, W, hn, q⟩ := h
  have eB : BIG = 1099511627776 := rfl
  have ec4 : cB 4 = 145665 := by decide
  refine ⟨_, (pss_cons (ps_par (i := 3) (j := 4) rfl sc__law_program.nd rfl rfl (by decide) rfl rfl (pa_cons (pe_lst (pa_cons pe_int (pa_cons pe_int (pa_cons pe_int (pa_cons pe_int (pa_cons pe_int pa_nil)))))) (pa_cons (pe_tup pa_nil) pa_nil)) rfl)
      (pss_cons (ps_for PassesOwn.never rfl (pi_range1 rfl T.n_range (pa_cons (pe_op op_add pe_int (pe_call G__law_draw (hr.mono (by omega)) rfl T._law_draw.g T._law_draw.F.kp T._law_draw.B .nil pass0 (pa_cons (pv 0) (pa_cons pe_int pa_nil)))) pa_nil)) (pg_name (i := 2) sc__law_program.nd rfl (Or.inl rfl))
        (pss_one (ps_set (i := 4) sc__law_program.nd rfl (Or.inl rfl) (pe_op op_catA (pv 4) (pe_call G__law_block (hr.mono (by omega)) rfl T._law_block.g T._law_block.F.kp T._law_block.B .nil pass0 (pa_cons (pv 0) (pa_cons (pv 1) (pa_cons (pv 3) (pa_cons pe_int (pa_cons pe_int pa_nil))))))))))
      (pss_cons (ps_if (PW.pt (pw_or (pt_cmpR op_lt (pe_ix ix_list (pv 3) pe_int (fun _ _ => rfl)) pe_int (nomark _)) (pw_or (pt_cmpR op_lt (pe_ix ix_list (pv 3) pe_int (fun _ _ => rfl)) pe_int (nomark _)) (pw_or1 (pt_cmpR op_eq (pe_call G__law_draw (hr.mono (by omega)) rfl T._law_draw.g T._law_draw.F.kp T._law_draw.B .nil pass0 (pa_cons (pv 0) (pa_cons pe_int pa_nil))) pe_int (nomark _))))))
        (pss_one (ps_ret (pv 4)))
        pss_nil)
      (pss_one (ps_ret (pe_op op_catA (pv 4) (pe_tup (pa_cons (pe_tup (pa_cons pe_str (pa_cons (pe_call G__law_expression (hr.mono (by omega)) rfl T._law_expression.g T._law_expression.F.kp T._law_expression.B .nil pass0 (pa_cons (pv 0) (pa_cons (pv 1) (pa_cons pe_int pa_nil)))) pa_nil))) pa_nil)))))))), ?_⟩
  refine ⟨by show 5 ≤ sizeLine; decide, fun L hL => ⟨by show 0 ≤ sizeLine; decide, fun p0 hp0 => ⟨_, _, rfl, ?_⟩⟩⟩
  have nL := W.D.new hL
  have nLn : nl ≠ L := fun e => by
    have := W.at_
    rw [e, hL] at this
    cases this
  have s1 := Same.new hL (.lst [.int 24, .int 30, .int 4, .int 2, .int 2])
  have s2 := Same.new hp0 (.tup [])
  have W2 := (W.sm s1).sm s2
  have h0 : (upd (upd H L (.lst [.int 24, .int 30, .int 4, .int 2, .int 2])) p0 (.tup [])) p0 = some (.tup []) := upd_same
  have l2 : LfB (upd (upd H L (.lst [.int 24, .int 30, .int 4, .int 2, .int 2])) p0 (.tup [])) L ⟨24, 30, 4, 2, 2⟩ := s2 _ _ upd_same
  have k2 : Kp [d, c, L] H _ := Kp.of_same (s1.trans s2)
  generalize upd (upd H L (.lst [.int 24, .int 30, .int 4, .int 2, .int 2])) p0 (.tup []) = H2 at W2 h0 l2 k2 ⊢
  clear s1 s2 hp0
  have ln : L ∉ [d, c] := by simp [nL]
  have sub2 : ∀ x ∈ [d, c], x ∈ [d, c, L] := by simp
  have mm : nl ∉ [d, c, L] := by simp [W.n1, W.n2, nLn]
  refine ⟨_, rfl, d, c, _, 4, rfl, W2.D, by omega, by omega, by omega, fun H3 r k3 D3 r0 r1 => ⟨_, _, rfl, rfl, ?_⟩⟩
  have W3 := W2.next k3 W2.nin D3
  have l3 := k3.keep _ _ l2 ln
  have h3 : H3 p0 = some (.tup []) := k3.tups _ _ h0
  have k3 := k2.trans (k3.mono sub2)
  refine ⟨_, rfl, by omega, by omega, ?_⟩
  refine for_it (walk_range (lo := 0) (n := (1 + r).toNat)) (fun i σ H4 => ∃ (v : V) (ss : List Sm) (b : Bg) (o : Option V), σ = [some (.ref d), some (.ref nl), o, some (.ref L), some v] ∧ Kp [d, c, L] H H4 ∧ Wk H4 d c nl (n + 1 + i * 145665) ns ∧ LfB H4 L b ∧ RepB H4 ss v ∧ okL (· ∈ ns) 4 ss ∧ Spent 1 ss ⟨24, 30, 4, 2, 2⟩ b)
    ⟨.ref p0, [], ⟨24, 30, 4, 2, 2⟩, none, rfl, k3, (by rw [Nat.zero_mul]; exact W3), l3, rep_tuple.mpr ⟨p0, [], rfl, h3, rfl⟩, trivial, Spent.nil 1 _⟩ (fun _ _ _ _ _ => trivial) ?_ ?_
  · rintro i x σ H4 H5 hi ⟨v, ss, b, o, rfl, k4, W4, l4, rv, ov, sv⟩ ⟨rfl, rfl⟩
    have hi4 : i ≤ 3 := by omega
    refine ⟨_, rfl, _, rfl, _, rfl, _, rfl, d, c, nl, L, _, ns, b, 1, rfl, W4, by omega, by omega, l4, nL.1, nL.2, nLn, fun H6 u us b6 k6 D6 l6 ru ou su => ?_⟩
    have z1 := len_siz ss
    have z2 := len_siz us
    have z3 := sv.p0
    have z4 := su.p0
    simp only at z3
    refine catB (Rep.kp rv k6) ru (by omega) fun H7 z s7 rz => ?_
    refine ⟨z, ss ++ us, b6, _, rfl, k4.trans (k6.trans (Kp.of_same s7)), ?_, s7 _ _ l6, rz, okL_append ov ou, Spent.app sv su⟩
    have e : n + 1 + (i + 1) * 145665 = n + 1 + i * 145665 + cB 4 := by omega
    rw [e]
    exact (W4.next k6 mm D6).sm s7
  rintro σ H4 ⟨v, ss, b, o, rfl, k4, W4, l4, rv, ov, sv⟩
  have hr4 : (1 + r).toNat ≤ 4 := by omega
  have sv0 := sv.p0
  have sv1 := sv.p1
  have sv2 := sv.p2
  have sv3 := sv.p3
  have sv4 := sv.p4
  simp only at sv0 sv1 sv2 sv3 sv4
  have drop : ∀ {H'}, Kp [d, c, L] H H' → Kp [d, c] H H' := fun k => Kp.drop (k.mono (ms' := [L, d, c]) (by simp)) hL
  have give : ∀ H5, Kp [d, c] H4 H5 → Dk H5 d c (n + 1 + (1 + r).toNat * 145665 + 1) → tRet (tVar 4) { nx := fun _ H' => Q .non H', rt := Q } [some (.ref d), some (.ref nl), o, some (.ref L), some v] H5 := fun H5 k5 D5 =>
    ⟨_, rfl, q H5 v ss (drop (k4.trans (k5.mono sub2))) (D5.le (by omega)) (Rep.kp rv k5) ov ⟨by omega, by omega, by omega, by omega, by omega⟩⟩
  refine ⟨_, rfl, _, _, _, _, rfl, rfl, SqL.of l4, rfl, _, _, rfl, rfl, _, rfl, ?_⟩
  by_cases y0 : ((b.b0 : Nat) : Int) < 1
  · rw [decide_eq_true y0]
    exact itT rfl (give H4 (Kp.refl _ _) (W4.D.le (by omega)))
  rw [decide_eq_false y0]
  refine ⟨_, rfl, _, _, _, _, rfl, rfl, SqL.of l4, rfl, _, _, rfl, rfl, _, rfl, ?_⟩
  by_cases y1 : ((b.b1 : Nat) : Int) < 1
  · rw [decide_eq_true y1]
    exact itT rfl (give H4 (Kp.refl _ _) (W4.D.le (by omega)))
  rw [decide_eq_false y1]
  refine ⟨_, rfl, d, c, _, 4, rfl, W4.D, by omega, by omega, by omega, fun H5 r5 k5 D5 r50 r51 => ⟨rfl, _, rfl, ?_⟩⟩
  by_cases y2 : r5 = 0
  · exact itT (decide_eq_true (by rw [y2])) (give H5 k5 D5)
  refine itF (decide_eq_false fun z => y2 (V.int.inj z)) ?_
  have W5 := W4.next k5 W4.nin D5
  refine ⟨_, rfl, _, rfl, _, rfl, d, c, nl, _, ns, rfl, by decide, by decide, D5, by omega, W5.at_, W.n1, W.n2, W.l1, W.l2, fun H6 u e k6 D6 oe re => ?_⟩
  refine ⟨by show 2 ≤ sizeLine; decide, fun p hp => ⟨by show 1 ≤ sizeLine; decide, fun p2 hp2 => ?_⟩⟩
  have s7 := (Same.new hp (.tup [.str "pay", u]))
  have s8 := Same.new hp2 (.tup [.ref p])
  have rp : RepS (upd (upd H6 p (.tup [.str "pay", u])) p2 (.tup [.ref p])) (.pay e) (.ref p) := Rep.sm (RepS.mk_pay upd_same (Rep.sm re s7)) s8
  have oe3 : okL (· ∈ ns) 4 [.pay e] := ⟨okE_mono (by decide) oe, trivial⟩
  have z1 := len_siz ss
  refine catB (b := [.pay e]) (Rep.sm (Rep.kp rv (k5.trans k6)) (s7.trans s8)) (rep_tuple.mpr ⟨p2, _, rfl, upd_same, RepL.one rp⟩) (by show ss.length + 1 ≤ 1000; omega) fun H9 z s9 rz => ?_
  have s79 := s7.trans (s8.trans s9)
  have P1 : Plain ns (.pay e) := .inr (.inl ⟨e, rfl, okE_mono (by decide) oe⟩)
  have sp := Spent.app sv (Spent.plain (t := 1) P1 (by omega) (by omega))
  have sp0 := sp.p0
  have sp1 := sp.p1
  have sp2 := sp.p2
  have sp3 := sp.p3
  have sp4 := sp.p4
  simp only at sp0 sp1 sp2 sp3 sp4
  exact q H9 z (ss ++ [.pay e]) (drop (k4.trans ((k5.trans (k6.trans (Kp.of_same s79))).mono sub2))) ((D6.sm s79).le (by omega)) rz (okL_append ov oe3) ⟨by omega, by omega, by omega, by omega, by omega⟩

abbrev NUM : Nat := 10 ^ 60
def sp_number : Sp := fun vs H Q _ => ∃ (d c : Addr) (n : Nat), vs = [.ref d] ∧ Dk H d c n ∧ n + 5 ≤ BIG ∧ ∀ H' (i : Int), Kp [d, c] H H' → Dk H' d c (n + 5) → i.natAbs ≤ NUM → Q (.int i) H'
theorem ok_number (T : Txt K mg) : FnOk P w K mg base CX0 3 T._law_number.f T._law_number.fd ["_law_deck_here"] sp_number := by
  have G__law_draw := ok_draw (P := P) (w := w) (base := base) T
  have G__law_one := ok_one (P := P) (w := w) (base := base) T
  refine T._law_number.F.ok sc__law_number (fun vs H Q E h => ?_) (fun cdv A outer s H vs Q E hr h => ?_)
  · obtain ⟨d, c, n, rfl, _⟩ := h
    rfl
  obtain ⟨d, c, n, rfl, hD, hn, q⟩ := h
  have eB : BIG = 1099511627776 := rfl
  have eN : NUM = 1000000000000000000000000000000000000000000000000000000000000 := by decide +kernel
  have e50 : (10 : Int) ^ (50 : Int).toNat = 100000000000000000000000000000000000000000000000000 := by decide +kernel
  have e9 : (10 : Int) ^ (9 : Int).toNat = 1000000000 := by decide +kernel
  refine ⟨_, (pss_cons (ps_par (i := 1) (j := 2) rfl sc__law_number.nd rfl rfl (by decide) rfl rfl (pa_cons (pe_call G__law_draw (hr.mono (by omega)) rfl T._law_draw.g T._law_draw.F.kp T._law_draw.B .nil pass0 (pa_cons (pv 0) (pa_cons pe_int pa_nil))) (pa_cons (pe_call G__law_one (hr.mono (by omega)) rfl T._law_one.g T._law_one.F.kp T._law_one.B .nil pass0 (pa_cons (pv 0) (pa_cons (pe_lst (pa_cons pe_int (pa_cons (pe_un un_neg pe_int) pa_nil))) pa_nil))) pa_nil)) rfl)
      (pss_cons (ps_if (pt_cmpR op_lt (pv 1) pe_int (nomark _))
        (pss_one (ps_ret (pe_op op_mul (pv 2) (pe_call G__law_draw (hr.mono (by omega)) rfl T._law_draw.g T._law_draw.F.kp T._law_draw.B .nil pass0 (pa_cons (pv 0) (pa_cons pe_int pa_nil))))))
        pss_nil)
      (pss_one (ps_ret (pe_op op_mul (pv 2) (pe_op op_add (pe_op op_mul (pe_op op_pow pe_int pe_int) (pe_call G__law_draw (hr.mono (by omega)) rfl T._law_draw.g T._law_draw.F.kp T._law_draw.B .nil pass0 (pa_cons (pv 0) (pa_cons (pe_op op_pow pe_int pe_int) pa_nil)))) (pe_call G__law_draw (hr.mono (by omega)) rfl T._law_draw.g T._law_draw.F.kp T._law_draw.B .nil pass0 (pa_cons (pv 0) (pa_cons (pe_op op_pow pe_int pe_int) pa_nil))))))))), ?_⟩
  refine ⟨_, rfl, d, c, _, 5, rfl, hD, by omega, by omega, by omega, fun H1 way k1 D1 w0 w1 => ?_⟩
  refine ⟨_, rfl, 1, rfl, by show 2 ≤ sizeLine; decide, fun p hp => ⟨d, c, _, _, rfl, D1.upd_new hp _, by omega, .inl ⟨p, _, rfl, upd_same, (D1.new hp).1, (D1.new hp).2, by show 1 ≤ 2; decide, by show 2 ≤ 1000; decide, fun H2 v i k2 D2 e => ?_⟩⟩⟩
  obtain ⟨sg, rfl, hsg⟩ : ∃ z : Int, v = .int z ∧ (z = 1 ∨ z = -1) := by
    have hm := List.mem_of_getElem? e
    simp only [List.mem_cons, List.not_mem_nil, or_false] at hm
    rcases hm with h | h
    · exact ⟨1, h, .inl rfl⟩
    · exact ⟨-1, h, .inr rfl⟩
  have k2 := k1.trans (Same.kp (Same.new hp _) k2)
  refine ⟨_, _, rfl, ?_⟩
  refine ⟨_, rfl, _, _, rfl, rfl, _, rfl, ?_⟩
  by_cases h4 : way < 4
  · refine itT (decide_eq_true h4) ?_
    refine ⟨_, rfl, _, rfl, d, c, _, 40, rfl, D2, by omega, by omega, by omega, fun H3 r k3 D3 r0 r1 => ⟨_, _, rfl, rfl, .inr ⟨by omega, by omega⟩, ?_⟩⟩
    refine q H3 _ (k2.trans k3) (D3.le (by omega)) ?_
    show (sg * r).natAbs ≤ NUM
    rw [eN]
    rcases hsg with rfl | rfl <;> omega
  · refine itF (decide_eq_false h4) ?_
    refine ⟨_, rfl, _, _, rfl, rfl, ⟨by decide, by decide, by decide⟩, _, rfl, _, _, rfl, rfl, ⟨by decide, by decide, by decide⟩, d, c, _, 1000000000, (by show [V.ref d, V.int ((10 : Int) ^ (9 : Int).toNat)] = _; rw [e9]), D2, by omega, by omega, by omega, fun H3 r k3 D3 r0 r1 => ⟨_, _, rfl, rfl, .inr ⟨by omega, by omega⟩, ?_⟩⟩
    refine ⟨_, rfl, _, _, rfl, rfl, ⟨by decide, by decide, by decide⟩, d, c, _, 1000000000, (by show [V.ref d, V.int ((10 : Int) ^ (9 : Int).toNat)] = _; rw [e9]), D3, by omega, by omega, by omega, fun H4 r4 k4 D4 r40 r41 => ⟨_, _, rfl, rfl, ?_⟩⟩
    refine ⟨_, _, rfl, rfl, .inl ?_, ?_⟩
    · rcases hsg with rfl | rfl <;> decide
    · refine q H4 _ (k2.trans (k3.trans k4)) (D4.le (by omega)) ?_
      show (sg * ((10 : Int) ^ (50 : Int).toNat * r + r4)).natAbs ≤ NUM
      rw [eN, e50]
      rcases hsg with rfl | rfl <;> omega
def sp_turns : Sp := fun vs H Q _ => ∃ (d c : Addr) (n : Nat), vs = [.ref d] ∧ Dk H d c n ∧ n + 9 ≤ BIG ∧ ∀ H' p (l : List Int), Kp [d, c] H H' → Dk H' d c (n + 9) → H' p = some (.tup (l.map V.int)) → (∀ i ∈ l, i = 0 ∨ i = 1) → Q (.ref p) H'
theorem ok_turns (T : Txt K mg) : FnOk P w K mg base CX0 2 T._law_turns.f T._law_turns.fd ["_law_deck_here"] sp_turns := by
  have G__law_draw := ok_draw (P := P) (w := w) (base := base) T
  refine T._law_turns.F.ok sc__law_turns (fun vs H Q E h => ?_) (fun cdv A outer s H vs Q E hr h => ?_)
  · obtain ⟨d, c, n, rfl, _⟩ := h
    rfl
  obtain ⟨d, c, n, rfl, hD, hn, q⟩ := h
  have eB : BIG = 1099511627776 := rfl
  refine ⟨_, (pss_one (ps_ret (pe_callTy call_tuple_of rfl T.n_tuple (by decide +kernel) (pa_cons (pe_lc (own := [("_law_k", 1)]) (g := gName 1) (tt := tYes) rfl sc__law_turns.nd (pi_range1 rfl T.n_range (pa_cons (pe_call G__law_draw (hr.mono (by omega)) rfl T._law_draw.g T._law_draw.F.kp T._law_draw.B .nil pass0 (pa_cons (pv 0) (pa_cons pe_int pa_nil))) pa_nil)) (blkOk_by (N := N__law_turns) (sc := defScope s__law_turns) (by decide +kernel)) (fun _ _ _ _ _ => pg_name (i := 1) sc__law_turns.nd rfl (Or.inl rfl)) (fun _ _ _ _ _ => pts_nil) (fun _ _ _ _ _ => (pe_call G__law_draw (hr.mono (by omega)) rfl T._law_draw.g T._law_draw.F.kp T._law_draw.B .nil pass0 (pa_cons (pv 0) (pa_cons pe_int pa_nil))))) pa_nil)))), ?_⟩
  refine ⟨_, rfl, d, c, _, 8, rfl, hD, by omega, by omega, by omega, fun H1 m k1 D1 m0 m1 => ⟨_, rfl, by omega, by omega, fun D hDn => ?_⟩⟩
  have dn := D1.new hDn
  refine lc_it (walk_range (lo := 0) (n := m.toNat)) (fun i H3 => ∃ l : List Int, l.length = i ∧ (∀ z ∈ l, z = 0 ∨ z = 1) ∧ H3 D = some (.lst (l.map V.int)) ∧ Kp [d, c] H1 H3 ∧ Dk H3 d c (n + 1 + i))
    ⟨[], rfl, fun _ h => by simp at h, upd_same, Kp.new hDn _, D1.upd_new hDn _⟩ (fun _ _ _ _ => trivial) ?_ ?_
  · rintro i x H3 H4 hi ⟨l, e1, e2, e3, k3, D3⟩ ⟨rfl, rfl⟩
    refine ⟨rfl, _, rfl, d, c, _, 2, rfl, D3, by omega, by omega, by omega, fun H5 r k5 D5 r0 r1 => ?_⟩
    refine ⟨_, k5.keep _ _ e3 (by simp [dn]), small1000 (by rw [List.length_map]; omega), l ++ [r], by rw [List.length_append, e1] <;> rfl, fun z hz => ?_, ?_, Kp.put_new (k3.trans k5) hDn _, D5.upd_new' dn _⟩
    · rcases List.mem_append.mp hz with h | h
      · exact e2 z h
      · rw [List.mem_singleton.mp h]; omega
    · rw [upd_same, List.map_append] <;> rfl
  rintro H3 ⟨l, e1, e2, e3, k3, D3⟩
  refine ⟨D, _, rfl, .inl ⟨SqL.of e3, fun p hp => ?_⟩⟩
  exact q _ p l (k1.trans (k3.trans (Kp.new hp _))) ((D3.upd_new hp _).le (by omega)) upd_same e2
end
end K29

set_option Elab.async false
set_option linter.all false
set_option maxRecDepth 100000
set_option maxHeartbeats 4000000
/-! ## the law's side: renamed -/
namespace K29
open PySem L2
/-- so deep at most, and narrow -/
def Fine : Nat → PyData → Prop
  | _, .int _ => True
  | _, .str x => PyData.strOk x = true
  | k + 1, .tuple ds => ds.length ≤ 1000 ∧ ∀ d ∈ ds, Fine k d
  | _, _ => False
theorem Fine.lay : ∀ {k : Nat} {d : PyData}, Fine k d → PyData.canLay0 d = true ∧ PyData.depth d ≤ k
  | _, .int _, _ => lay_int
  | _, .str x, h => lay_str (by cases ‹Nat› <;> simpa only [Fine] using h)
  | k + 1, .tuple ds, h => by
    simp only [Fine] at h
    exact lay_tup (lay_all fun d hd => Fine.lay (h.2 d hd))
  | 0, .tuple _, h => by simp [Fine] at h
  | 0, .none, h => by simp [Fine] at h
  | 0, .bool _, h => by simp [Fine] at h
  | 0, .list _, h => by simp [Fine] at h
  | 0, .dict _, h => by simp [Fine] at h
  | k + 1, .none, h => by simp [Fine] at h
  | k + 1, .bool _, h => by simp [Fine] at h
  | k + 1, .list _, h => by simp [Fine] at h
  | k + 1, .dict _, h => by simp [Fine] at h
theorem fine_int {k : Nat} {i : Int} : Fine k (.int i) := by cases k <;> simp only [Fine]
theorem fine_str {k : Nat} {x : Str} (h : PyData.strOk x = true) : Fine k (.str x) := by cases k <;> simpa only [Fine] using h
theorem fine_tup {k : Nat} {ds : List PyData} (z : ds.length ≤ 1000) (h : ∀ d ∈ ds, Fine k d) : Fine (k + 1) (.tuple ds) := by simp only [Fine]; exact ⟨z, h⟩
theorem Fine.mono : ∀ {k m : Nat} {d : PyData}, k ≤ m → Fine k d → Fine m d
  | _, _, .int _, _, _ => fine_int
  | k, _, .str x, _, h => fine_str (by cases k <;> simpa only [Fine] using h)
  | k + 1, 0, .tuple ds, z, h => absurd z (by omega)
  | k + 1, m + 1, .tuple ds, z, h => by
    simp only [Fine] at h
    exact fine_tup h.1 fun d hd => Fine.mono (by omega) (h.2 d hd)
  | 0, _, .tuple _, _, h => by simp [Fine] at h
  | 0, _, .none, _, h => by simp [Fine] at h
  | 0, _, .bool _, _, h => by simp [Fine] at h
  | 0, _, .list _, _, h => by simp [Fine] at h
  | 0, _, .dict _, _, h => by simp [Fine] at h
  | k + 1, _, .none, _, h => by simp [Fine] at h
  | k + 1, _, .bool _, _, h => by simp [Fine] at h
  | k + 1, _, .list _, _, h => by simp [Fine] at h
  | k + 1, _, .dict _, _, h => by simp [Fine] at h
section
variable {N : Str → Prop} (hN : ∀ x, N x → PyData.strOk x = true)
include hN
theorem fine_E : ∀ (n : Nat) (e : Ex), okE N n e → Fine n (encE e)
  | 0, e, h => by simp [okE] at h
  | n + 1, .num i, h => fine_int
  | n + 1, .nam x, h => fine_str (hN x (by simpa [okE] using h))
  | n + 1, .bin p a b, h => by
    simp only [okE] at h
    refine fine_tup (by show 3 ≤ 1000; decide) fun d hd => ?_
    simp only [List.mem_cons, List.not_mem_nil, or_false] at hd
    rcases hd with rfl | rfl | rfl
    · exact fine_str (by cases p <;> decide +kernel)
    · exact fine_E n a h.1
    · exact fine_E n b h.2
  | n + 1, .tim k e, h => by
    simp only [okE] at h
    refine fine_tup (by show 3 ≤ 1000; decide) fun d hd => ?_
    simp only [List.mem_cons, List.not_mem_nil, or_false] at hd
    rcases hd with rfl | rfl | rfl
    · exact fine_str (by decide +kernel)
    · exact fine_int
    · exact fine_E n e h.2.2
theorem fine_T : ∀ (n : Nat) (t : Te), okT N n t → Fine (n + 4) (encT t)
  | n, .less a b, h => by
    have h' : okE N 3 a ∧ okE N 3 b := by cases n <;> simpa only [okT] using h
    refine fine_tup (k := n + 3) (by show 3 ≤ 1000; decide) fun d hd => ?_
    simp only [List.mem_cons, List.not_mem_nil, or_false] at hd
    rcases hd with rfl | rfl | rfl
    · exact fine_str (by decide +kernel)
    · exact (fine_E hN 3 a h'.1).mono (by omega)
    · exact (fine_E hN 3 b h'.2).mono (by omega)
  | n, .rest e m r, h => by
    have h' : okE N 3 e ∧ 2 ≤ m ∧ m ≤ 6 ∧ 0 ≤ r ∧ r < m := by cases n <;> simpa only [okT] using h
    refine fine_tup (k := n + 3) (by show 4 ≤ 1000; decide) fun d hd => ?_
    simp only [List.mem_cons, List.not_mem_nil, or_false] at hd
    rcases hd with rfl | rfl | rfl | rfl
    · exact fine_str (by decide +kernel)
    · exact (fine_E hN 3 e h'.1).mono (by omega)
    · exact fine_int
    · exact fine_int
  | 0, .neg t, h => by simp [okT] at h
  | n + 1, .neg t, h => by
    refine fine_tup (k := n + 4) (by show 2 ≤ 1000; decide) fun d hd => ?_
    simp only [List.mem_cons, List.not_mem_nil, or_false] at hd
    rcases hd with rfl | rfl
    · exact fine_str (by decide +kernel)
    · exact fine_T n t h
theorem fine_blk {n : Nat} {ss : List Sm} (z : sizL ss ≤ 1000) (h : ∀ d ∈ encL ss, Fine (2 * n + 8) d) : Fine (2 * n + 9) (.tuple (encL ss)) :=
  fine_tup (by rw [encL_map, List.length_map]; have := len_siz ss; omega) h
mutual
theorem fine_S : ∀ (n : Nat) (s : Sm), okS N n s → sizS s ≤ 1000 → Fine (2 * n + 8) (encS s)
  | 0, s, h, _ => by simp [okS] at h
  | n + 1, .set x e, h, _ => by
    simp only [okS] at h
    refine fine_tup (k := 2 * n + 9) (by show 3 ≤ 1000; decide) fun d hd => ?_
    simp only [List.mem_cons, List.not_mem_nil, or_false] at hd
    rcases hd with rfl | rfl | rfl
    · exact fine_str (by decide +kernel)
    · exact fine_str (hN x h.1)
    · exact (fine_E hN 3 e h.2).mono (by omega)
  | n + 1, .pay e, h, _ => by
    simp only [okS] at h
    refine fine_tup (k := 2 * n + 9) (by show 2 ≤ 1000; decide) fun d hd => ?_
    simp only [List.mem_cons, List.not_mem_nil, or_false] at hd
    rcases hd with rfl | rfl
    · exact fine_str (by decide +kernel)
    · exact (fine_E hN 3 e h).mono (by omega)
  | n + 1, .stop, h, _ => by
    refine fine_tup (k := 2 * n + 9) (by show 1 ≤ 1000; decide) fun d hd => ?_
    simp only [List.mem_cons, List.not_mem_nil, or_false] at hd
    subst hd
    exact fine_str (by decide +kernel)
  | n + 1, .ite t a b, h, z => by
    simp only [okS] at h
    simp only [sizS] at z
    refine fine_tup (k := 2 * n + 9) (by show 4 ≤ 1000; decide) fun d hd => ?_
    simp only [List.mem_cons, List.not_mem_nil, or_false] at hd
    rcases hd with rfl | rfl | rfl | rfl
    · exact fine_str (by decide +kernel)
    · exact (fine_T hN 2 t h.1).mono (by omega)
    · exact fine_blk hN (by omega) (fine_L n a h.2.1 (by omega))
    · exact fine_blk hN (by omega) (fine_L n b h.2.2 (by omega))
  | n + 1, .cho w a b, h, z => by
    simp only [okS] at h
    simp only [sizS] at z
    refine fine_tup (k := 2 * n + 9) (by show 3 ≤ 1000; decide) fun d hd => ?_
    simp only [List.mem_cons, List.not_mem_nil, or_false] at hd
    rcases hd with rfl | rfl | rfl
    · exact fine_str (by cases w <;> decide +kernel)
    · exact fine_blk hN (by omega) (fine_L n a h.1 (by omega))
    · exact fine_blk hN (by omega) (fine_L n b h.2 (by omega))
  | n + 1, .rep k b, h, z => by
    simp only [okS] at h
    simp only [sizS] at z
    refine fine_tup (k := 2 * n + 9) (by show 3 ≤ 1000; decide) fun d hd => ?_
    simp only [List.mem_cons, List.not_mem_nil, or_false] at hd
    rcases hd with rfl | rfl | rfl
    · exact fine_str (by decide +kernel)
    · exact fine_int
    · exact fine_blk hN (by omega) (fine_L n b h.2.2 (by omega))
theorem fine_L : ∀ (n : Nat) (ss : List Sm), okL N n ss → sizL ss ≤ 1000 → ∀ d ∈ encL ss, Fine (2 * n + 8) d
  | n, [], h, _ => fun d hd => by simp [encL] at hd
  | n, s :: r, h, z => fun d hd => by
    simp only [okL] at h
    simp only [sizL] at z
    simp only [encL, List.mem_cons] at hd
    rcases hd with rfl | hd
    · exact fine_S n s h.1 (by omega)
    · exact fine_L n r h.2 (by omega) d hd
end
end
/-! ### names in data, renamed -/
def headS : List PyData → List PyData
  | .str x :: _ => [.str x]
  | _ => []
mutual
def renD (p : Str → Str) : PyData → PyData
  | .str x => .str (p x)
  | .tuple ds => .tuple (headS ds ++ (renAll p ds).drop (headS ds).length)
  | d => d
def renAll (p : Str → Str) : List PyData → List PyData
  | [] => []
  | d :: r => renD p d :: renAll p r
end
theorem renAll_map (p : Str → Str) : ∀ ds, renAll p ds = ds.map (renD p)
  | [] => by simp only [renAll, List.map_nil]
  | d :: r => by simp only [renAll, List.map_cons, renAll_map p r]
theorem renD_int (p : Str → Str) (i : Int) : renD p (.int i) = .int i := by simp only [renD]
theorem renD_str (p : Str → Str) (x : Str) : renD p (.str x) = .str (p x) := by simp only [renD]
theorem renD_head (p : Str → Str) (x : Str) (r : List PyData) : renD p (.tuple (.str x :: r)) = .tuple (.str x :: r.map (renD p)) := by
  simp only [renD, headS, renAll_map]
  rfl
theorem renD_E (p : Str → Str) : ∀ e : Ex, renD p (encE e) = encE (renE p e)
  | .num i => renD_int p i
  | .nam x => renD_str p x
  | .bin b e f => by simp only [encE, renE, renD_head, List.map_cons, List.map_nil, renD_E p e, renD_E p f]
  | .tim k e => by simp only [encE, renE, renD_head, List.map_cons, List.map_nil, renD_E p e, renD_int]
theorem renD_T (p : Str → Str) : ∀ t : Te, renD p (encT t) = encT (renT p t)
  | .less a b => by simp only [encT, renT, renD_head, List.map_cons, List.map_nil, renD_E]
  | .rest e m r => by simp only [encT, renT, renD_head, List.map_cons, List.map_nil, renD_E, renD_int]
  | .neg t => by simp only [encT, renT, renD_head, List.map_cons, List.map_nil, renD_T p t]
theorem headS_L : ∀ ss : List Sm, headS (encL ss) = []
  | [] => rfl
  | s :: r => by cases s <;> rfl
mutual
theorem renD_S (p : Str → Str) : ∀ s : Sm, renD p (encS s) = encS (renS p s)
  | .set x e => by simp only [encS, renS, renD_head, List.map_cons, List.map_nil, renD_E, renD_str]
  | .pay e => by simp only [encS, renS, renD_head, List.map_cons, List.map_nil, renD_E]
  | .stop => by simp only [encS, renS, renD_head, List.map_nil]
  | .ite t a b => by simp only [encS, renS, renD_head, List.map_cons, List.map_nil, renD_T, renD_B p a, renD_B p b]
  | .cho w a b => by simp only [encS, renS, renD_head, List.map_cons, List.map_nil, renD_B p a, renD_B p b]
  | .rep k b => by simp only [encS, renS, renD_head, List.map_cons, List.map_nil, renD_B p b, renD_int]
theorem renD_B (p : Str → Str) : ∀ ss : List Sm, renD p (.tuple (encL ss)) = .tuple (encL (renL p ss))
  | ss => by
    simp only [renD, headS_L, List.length_nil, List.drop_zero, List.nil_append]
    rw [renD_L p ss]
theorem renD_L (p : Str → Str) : ∀ ss : List Sm, renAll p (encL ss) = encL (renL p ss)
  | [] => by simp only [encL, renL, renAll]
  | s :: r => by simp only [encL, renL, renAll, renD_S p s, renD_L p r]
end
end K29

set_option Elab.async false
set_option linter.all false
set_option maxRecDepth 100000
set_option maxHeartbeats 4000000
/-! ## the law's side: renamed, walked -/
namespace K29
open PySem L2
def RenIs (H : Hp) (D : Addr) (p : Str → Str) : Prop := ∃ kvs, H D = some (.dK kvs) ∧ ∀ x : Str, (valV kvs (Sum.inr x : Key)).getD (.str x) = .str (p x)
theorem RenIs.sm {H H' : Hp} {D : Addr} {p : Str → Str} (h : RenIs H D p) (s : Same H H') : RenIs H' D p := by
  obtain ⟨kvs, h1, h2⟩ := h
  exact ⟨kvs, s _ _ h1, h2⟩
theorem RepL.nil' {H : Hp} : RepL H [] [] := rfl
theorem catD {K : PySem.W.Frag} {H : Hp} {a b : List PyData} {p r : Addr} {xs ys : List V} {Q : VK} (hp : H p = some (.tup xs)) (hxs : RepL H a xs) (hr : H r = some (.tup ys)) (hys : RepL H b ys) (hz : a.length + b.length ≤ 1000)
    (q : ∀ H' z, Same H H' → Rep H' (.tuple (a ++ b)) z → Q z H') : rCatA K (.ref p) (.ref r) H Q := by
  have e1 := RepL.len hxs
  have e2 := RepL.len hys
  refine ⟨p, r, xs, ys, rfl, rfl, SqT.of hp, SqT.of hr, small (by omega), fun e => ?_, fun _ e => ?_, fun _ _ u hu => ?_⟩
  · subst e
    have : a = [] := List.eq_nil_of_length_eq_zero e1.symm
    subst this
    exact q H _ (Same.refl H) (rep_tuple.mpr ⟨r, ys, rfl, hr, hys⟩)
  · subst e
    have : b = [] := List.eq_nil_of_length_eq_zero e2.symm
    subst this
    exact q H _ (Same.refl H) (by rw [List.append_nil]; exact rep_tuple.mpr ⟨p, xs, rfl, hp, hxs⟩)
  · have s := Same.new hu (.tup (xs ++ ys))
    exact q _ _ s (rep_tuple.mpr ⟨u, _, rfl, upd_same, RepL.sm (RepL.append hxs hys) s⟩)
theorem headS_le (ds : List PyData) : (headS ds).length ≤ ds.length := by
  cases ds with
  | nil => exact Nat.le_refl _
  | cons d r => cases d <;> simp [headS]
section
variable {P : Program} {w : World} {K : PySem.W.Frag} {mg : Str → Option Value} {base : Heap}
def sp_renamed (k : Nat) : Sp := fun vs H Q _ => ∃ (v : V) (D : Addr) (p : Str → Str) (dd : PyData), vs = [v, .ref D] ∧ RenIs H D p ∧ Rep H dd v ∧ Fine k dd ∧ k ≤ 64 ∧ ∀ H' u, Same H H' → Rep H' (renD p dd) u → Q u H'
theorem ok_renamed_of (T : Txt K mg) (k : Nat) (sp' : Sp) (G__law_renamed : FnOk P w K mg base CX0 (k + 1) T._law_renamed.f T._law_renamed.fd ["_law_value", "_law_names_here"] sp') (hG : ∀ m, k = m + 1 → sp' = sp_renamed m) :
    FnOk P w K mg base CX0 (k + 2) T._law_renamed.f T._law_renamed.fd ["_law_value", "_law_names_here"] (sp_renamed k) := by
  refine T._law_renamed.F.ok sc__law_renamed (fun vs H Q E h => ?_) (fun cdv A outer s H vs Q E hr h => ?_)
  · obtain ⟨v, D, p, dd, rfl, _⟩ := h
    rfl
  obtain ⟨v, D, p, dd, rfl, hD, hv, hf, hk, q⟩ := h
  refine ⟨_, (pss_cons (ps_if (pt_val (pe_callB call_isS rfl T.n_isinstance (by decide +kernel) (pa_cons (pv 0) (pa_cons (pe_bltn (v := .ty "str") (u := .type "str") rfl T.n_str (by decide +kernel) rfl) pa_nil))))
        (pss_one (ps_ret (pe_dget2 (hu_of hr) (pv 1) (pv 0) (pv 0) ⟨rfl, rfl, rfl, rfl⟩)))
        pss_nil)
      (pss_cons (ps_if (pt_not (pt_val (pe_callB call_isT rfl T.n_isinstance (by decide +kernel) (pa_cons (pv 0) (pa_cons (pe_bltn (v := .ty "tuple") (u := .type "tuple") rfl T.n_tuple (by decide +kernel) rfl) pa_nil)))))
        (pss_one (ps_ret (pv 0)))
        pss_nil)
      (pss_cons (ps_set (i := 2) sc__law_renamed.nd rfl (Or.inl rfl) (pe_ifExp (PW.pt (pw_and (pt_cmpR (op_neD hr.units) (pv 0) (pe_tup pa_nil) (nomark _)) (pw_and1 (pt_val (pe_callB call_isS rfl T.n_isinstance (by decide +kernel) (pa_cons (pe_ix ix_tup (pv 0) pe_int (fun _ _ => rfl)) (pa_cons (pe_bltn (v := .ty "str") (u := .type "str") rfl T.n_str (by decide +kernel) rfl) pa_nil))))))) (pe_slice sl_tupA (pv 0) po_none (po_some pe_int)) (pe_tup pa_nil)))
      (pss_one (ps_ret (pe_op op_catA (pv 2) (pe_callTy call_tuple_of rfl T.n_tuple (by decide +kernel) (pa_cons (pe_lc (own := [("_law_part", 3)]) (g := gName 3) (tt := tYes) rfl sc__law_renamed.nd (pi_tup (pe_slice sl_tupA (pv 0) (po_some (pe_callB call_len_seq rfl T.n_len (by decide +kernel) (pa_cons (pv 2) pa_nil))) po_none)) (blkOk_by (N := N__law_renamed) (sc := defScope s__law_renamed) (by decide +kernel)) (fun _ _ _ _ _ => pg_name (i := 3) sc__law_renamed.nd rfl (Or.inl rfl)) (fun _ _ _ _ _ => pts_nil) (fun _ _ _ _ _ => (pe_call G__law_renamed (hr.mono (by omega)) rfl T._law_renamed.g T._law_renamed.F.kp T._law_renamed.B .nil pass0 (pa_cons (pv 3) (pa_cons (pv 1) pa_nil))))) pa_nil)))))))), ?_⟩
  cases dd with
  | none => cases k <;> simp [Fine] at hf
  | bool b => cases k <;> simp [Fine] at hf
  | list b => cases k <;> simp [Fine] at hf
  | dict b => cases k <;> simp [Fine] at hf
  | int i =>
    obtain rfl := rep_int.mp hv
    refine ⟨_, rfl, _, rfl, .inl ⟨_, rfl, _, rfl, itF (by decide +kernel) ?_⟩⟩
    refine ⟨_, rfl, _, rfl, .inl ⟨_, rfl, _, rfl, itT (by decide +kernel) ?_⟩⟩
    exact ⟨_, rfl, q H _ (Same.refl H) (by rw [renD_int]; exact rep_int.mpr rfl)⟩
  | str x =>
    obtain rfl := rep_str.mp hv
    obtain ⟨kvs, h1, h2⟩ := hD
    refine ⟨_, rfl, _, rfl, .inr (.inl ⟨_, rfl, _, rfl, itT (by decide +kernel) ?_⟩)⟩
    refine ⟨_, rfl, D, rfl, .inl ⟨_, .inl h1⟩, _, rfl, _, rfl, _, DGet.k (k := Sum.inr x) h1, ?_⟩
    rw [h2 x]
    exact q H _ (Same.refl H) (by rw [renD_str]; exact rep_str.mpr rfl)
  | tuple ds =>
    obtain ⟨k', rfl⟩ : ∃ k', k = k' + 1 := by
      cases k with
      | zero => simp [Fine] at hf
      | succ k' => exact ⟨k', rfl⟩
    obtain rfl := hG k' rfl
    have hlay := hf.lay
    simp only [Fine] at hf
    obtain ⟨hz, hf⟩ := hf
    obtain ⟨a, xs, rfl, ha, hxs⟩ := rep_tuple.mp hv
    have hlen := RepL.len hxs
    have hle := headS_le ds
    refine ⟨_, rfl, _, rfl, .inr (.inr ⟨_, _, rfl, ha, _, rfl, itF (by decide +kernel) ?_⟩)⟩
    refine ⟨_, rfl, _, rfl, .inr (.inr ⟨_, _, rfl, ha, _, rfl, itF (by decide +kernel) ?_⟩)⟩
    -- first
    apply cutC (fun (F : Addr) (H1 : Hp) => ∃ fs, Same H H1 ∧ H1 F = some (.tup fs) ∧ RepL H1 (headS ds) fs)
    · intro hC
      refine ⟨_, rfl, by show 0 ≤ sizeLine; decide, fun e he => ⟨_, _, .tup (SqT.of ((Same.new he _) _ _ ha)) (RepL.dp _ _ (RepL.sm hxs (Same.new he _))), .tup (SqT.of upd_same) .nil, shaped_of hlay hk, by decide +kernel, _, rfl, ?_⟩⟩
      have s0 := Same.new he (.tup [])
      have ha0 := s0 _ _ ha
      have hxs0 := RepL.sm hxs s0
      generalize upd H e (.tup []) = H0 at s0 ha0 hxs0 ⊢
      rw [eqv_nilT]
      have empty : headS ds = [] → ∀ p, H0 p = none → ∃ H9, H9 = upd H0 p (.tup []) ∧ ∃ fs, Same H H9 ∧ H9 p = some (.tup fs) ∧ RepL H9 (headS ds) fs := fun e p hp =>
        ⟨_, rfl, [], s0.trans (Same.new hp _), upd_same, by rw [e]; exact RepL.nil'⟩
      rcases (by cases ds with | nil => exact .inl rfl | cons d r => exact .inr ⟨d, r, rfl⟩ : ds = [] ∨ ∃ d r, ds = d :: r) with e | ⟨d, r, e⟩
      · refine itF (by rw [e] <;> rfl) (itF rfl ⟨by show 0 ≤ sizeLine; decide, fun p hp => ?_⟩)
        obtain ⟨H9, e9, h9⟩ := empty (by rw [e] <;> rfl) p hp
        rw [← e9]
        exact hC p H9 h9
      · have hx := hxs0
        rw [e] at hx
        obtain ⟨v0, xr, ex, hv0, hxr⟩ := hx
        refine itT (by rw [e] <;> rfl) ⟨_, rfl, a, xs, 0, v0, rfl, rfl, SqT.of ha0, (by rw [ex]; exact at_ok (j := 0) rfl), ?_⟩
        have he0 : (∀ x, d ≠ .str x) → headS ds = [] := fun h => by
          rw [e]
          cases d with
          | str x => exact absurd rfl (h x)
          | _ => rfl
        cases d with
        | none => exact hv0.elim
        | bool b => exact hv0.elim
        | list b => exact hv0.elim
        | dict b => exact hv0.elim
        | int i =>
          refine ⟨_, rfl, .inl ⟨i, rep_int.mp hv0, _, rfl, itF (by decide +kernel) ⟨by show 0 ≤ sizeLine; decide, fun p hp => ?_⟩⟩⟩
          obtain ⟨H9, e9, h9⟩ := empty (he0 fun x z => by cases z) p hp
          rw [← e9]
          exact hC p H9 h9
        | tuple es =>
          obtain ⟨p0, ys, e0, hp0, _⟩ := rep_tuple.mp hv0
          refine ⟨_, rfl, .inr (.inr ⟨p0, ys, e0, hp0, _, rfl, itF (by decide +kernel) ⟨by show 0 ≤ sizeLine; decide, fun p hp => ?_⟩⟩)⟩
          obtain ⟨H9, e9, h9⟩ := empty (he0 fun x z => by cases z) p hp
          rw [← e9]
          exact hC p H9 h9
        | str x =>
          have ev0 := rep_str.mp hv0
          have hh : headS ds = [.str x] := by rw [e] <;> rfl
          refine ⟨_, rfl, .inr (.inl ⟨x, ev0, _, rfl, itT (by decide +kernel) ⟨_, rfl, _, rfl, a, xs, rfl, SqT.of ha0, ?c1, ?c2⟩⟩)⟩
          case c2 =>
            intro _ p hp
            have e1 : cutV xs none (some (1 : Int)) = [V.str x] := by
              rw [ex, ev0]
              exact cut_take (i := 1) (by simp)
            obtain ⟨H9, e9, h9⟩ : ∃ H9, H9 = upd H0 p (.tup (cutV xs none (some (1 : Int)))) ∧ ∃ fs, Same H H9 ∧ H9 p = some (.tup fs) ∧ RepL H9 (headS ds) fs :=
              ⟨_, rfl, [V.str x], s0.trans (Same.new hp _), by rw [upd_same, e1], by rw [hh]; exact RepL.one (rep_str.mpr rfl)⟩
            rw [← e9]
            exact hC p H9 h9
          case c1 =>
            intro z
            have z2 := z.2
            rw [show (1 : Int) = ((1 : Nat) : Int) from rfl, HT.sIx_nat, ex, List.length_cons] at z2
            have : xr = [] := List.eq_nil_of_length_eq_zero (by omega)
            refine hC a H0 ⟨[V.str x], s0, by rw [ha0, ex, ev0, this], by rw [hh]; exact RepL.one (rep_str.mpr rfl)⟩
    rintro F H1 ⟨fs, s1, hF, hfs⟩
    have hfl := RepL.len hfs
    have ha1 := s1 _ _ ha
    have hxs1 := RepL.sm hxs s1
    refine ⟨_, rfl, ?_⟩
    -- the parts behind it
    apply cutC (fun (S : Addr) (H2 : Hp) => Same H1 H2 ∧ H2 S = some (.tup (xs.drop fs.length)))
    · intro hC
      refine ⟨_, rfl, _, rfl, F, _, rfl, .inr (SqT.of hF), _, rfl, a, xs, rfl, SqT.of ha1, ?c1, ?c2⟩
      case c2 =>
        intro _ p hp
        obtain ⟨H9, e9, h9⟩ : ∃ H9, H9 = upd H1 p (.tup (cutV xs (some ((fs.length : Nat) : Int)) none)) ∧ Same H1 H9 ∧ H9 p = some (.tup (xs.drop fs.length)) := by
          refine ⟨_, rfl, Same.new hp _, ?_⟩
          rw [upd_same]
          unfold cutV
          rw [HT.sIx_nat, HT.sIx_none, Nat.min_eq_left (by omega), List.take_of_length_le (by rw [List.length_drop]; exact Nat.le_refl _)]
        rw [← e9]
        exact hC p H9 h9
      case c1 =>
        intro z
        have z1 := z.1
        rw [HT.sIx_nat] at z1
        refine hC a H1 ⟨Same.refl H1, ?_⟩
        rw [ha1]
        rcases (by omega : fs.length = 0 ∨ xs.length = 0) with e | e
        · rw [e, List.drop_zero]
        · rw [List.eq_nil_of_length_eq_zero e, List.drop_nil]
    rintro S H2 ⟨s2, hS⟩
    have hys := RepL.sm (RepL.drop fs.length hxs1) s2
    refine ⟨S, rfl, ⟨_, SqT.of hS⟩, fun Dd hDd => ?_⟩
    refine lc_it (walk_tup (K := K) (xs := xs.drop fs.length)) (fun i H6 => ∃ acc, H6 Dd = some (.lst acc) ∧ RepL H6 (((ds.drop fs.length).take i).map (renD p)) acc ∧ acc.length = i ∧ Same H2 H6)
      ⟨[], upd_same, rfl, rfl, Same.new hDd _⟩ (fun i H6 _ ⟨_, _, _, _, s6⟩ => SqT.of (s6 _ _ hS)) ?_ ?_
    · rintro i x H6 H7 hi ⟨acc, eD, rD, za, s6⟩ ⟨rfl, hx⟩
      obtain ⟨d, hd, rx⟩ := RepL.get (RepL.sm hys s6) hx
      have hil : i < xs.length := by
        rw [List.length_drop] at hi
        omega
      refine ⟨rfl, _, rfl, _, rfl, x, D, p, d, rfl, hD.sm (s1.trans (s2.trans s6)), rx, hf d (List.mem_of_mem_drop (List.mem_of_getElem? hd)), by omega, fun H8 u s8 ru => ?_⟩
      have k9 := tups_put (s8 _ _ eD) (.lst (acc ++ [u]))
      refine ⟨acc, s8 _ _ eD, small1000 (by omega), acc ++ [u], upd_same, ?_, by rw [List.length_append, za] <;> rfl, Same.put (s6.trans s8) hDd _⟩
      rw [take_succ hd, List.map_append]
      exact RepL.append (RepL.mono k9 _ _ (RepL.sm rD s8)) (RepL.one (Rep.mono k9 _ _ ru))
    rintro H6 ⟨acc, eD, rD, za, s6⟩
    refine ⟨Dd, acc, rfl, .inl ⟨SqL.of eD, fun z hz => ?_⟩⟩
    have s7 := s6.trans (Same.new hz (.tup acc))
    rw [hfl] at rD
    rw [List.length_drop, hlen, List.take_of_length_le (by rw [List.length_drop]; exact Nat.le_refl _)] at rD
    refine catD ((s2.trans s7) _ _ hF) (RepL.sm hfs (s2.trans s7)) upd_same (RepL.sm rD (Same.new hz _)) (by rw [List.length_map, List.length_drop]; omega) fun H8 u s8 ru => q H8 u (s1.trans (s2.trans (s7.trans s8))) ?_
    have er : renD p (.tuple ds) = .tuple (headS ds ++ (ds.drop (headS ds).length).map (renD p)) := by
      simp only [renD, renAll_map, List.map_drop]
    rw [er]
    exact ru
theorem ok_renamed (T : Txt K mg) : ∀ k : Nat, FnOk P w K mg base CX0 (k + 2) T._law_renamed.f T._law_renamed.fd ["_law_value", "_law_names_here"] (sp_renamed k)
  | 0 => ok_renamed_of T 0 (fun _ _ _ _ => False) (FnOk.never fun _ _ _ _ h => h) fun m h => absurd h (by omega)
  | k + 1 => ok_renamed_of T (k + 1) (sp_renamed k) (ok_renamed T k) fun m h => by
    obtain rfl : k = m := by omega
    rfl
end
end K29

set_option Elab.async false
set_option linter.all false
set_option maxRecDepth 100000
set_option maxHeartbeats 4000000
/-! ## rules of one's own: a tuple times 0 or 1 -/
namespace K29
open PySem PySem.Spec PyProof.Rows L2
theorem meets_mul1 (p : Addr) (its : Array Value) (m : Nat) (da : Option Addr) (ss : Array (Option Value)) (tk : Tok) :
    Meets (Builtin.«tuple.__mul__» ⟨[.ref p, .int 1 tk], []⟩) (fun _ R s => s.heap.get? p = some { cls := .type "tuple", dict := da, data := .seq its m, slots := ss } ∧ R (.ok (.ret (Value.ref p))) s) :=
  .of_wp fun prog w A R st hh => by
    obtain ⟨h0, g0, d0, t0, o0⟩ := st
    obtain ⟨hl, hh⟩ := hh
    have f1 := AutoSeq1.idx_int
    wp_walk using wpAny_loadPart' hl
    exact ⟨_, rfl, hh⟩
theorem meets_mul0 (p : Addr) (its : Array Value) (m : Nat) (da : Option Addr) (ss : Array (Option Value)) (tk : Tok) (hi : its.isEmpty = false) :
    Meets (Builtin.«tuple.__mul__» ⟨[.ref p, .int 0 tk], []⟩) (fun _ R s => s.heap.get? p = some { cls := .type "tuple", dict := da, data := .seq its m, slots := ss } ∧
      R (.ok (.ret (Value.ref s.heap.objs.size))) { s with heap := s.heap.push { cls := Value.type "tuple", data := Data.seq #[] } }) :=
  .of_wp fun prog w A R st hh => by
    obtain ⟨h0, g0, d0, t0, o0⟩ := st
    obtain ⟨hl, hh⟩ := hh
    have f1 := AutoSeq1.idx_int
    wp_walk using wpAny_loadPart' hl
    exact ⟨_, rfl, hh⟩
def rMul01 (K : PySem.W.Frag) : R2 := fun x y H Q => ∃ l k xs, x = .ref l ∧ y = .int k ∧ SqT K H l xs ∧ xs ≠ [] ∧ ((k = 1 ∧ Q (.ref l) H) ∨ (k = 0 ∧ ∀ p, H p = none → Q (.ref p) (upd H p (.tup []))))
section
variable {X : Cx}
theorem op_repT01 : OpR X (binaryOp .Mult) (rMul01 X.K) := by
  intro pins st σ H a b va vb Q I ra rb hq
  obtain ⟨p, k, xs, rfl, rfl, hT, hne, hq⟩ := hq
  cases ra
  obtain ⟨tk, rfl⟩ := rb
  obtain ⟨its, rv, ⟨⟨oc, da, dt, ss⟩, ho, hc, m, hm⟩, hz⟩ := I.tuple hT
  simp only at hc hm
  subst hc hm
  have hlen := rv.length
  have hi : its.toArray.isEmpty = false := by
    cases its with
    | nil =>
      rw [List.length_nil] at hlen
      exact absurd (List.eq_nil_of_length_eq_zero hlen) hne
    | cons a r => rfl
  rcases hq with ⟨rfl, q⟩ | ⟨rfl, q⟩
  · refine wpAny_binaryOp_repeat_ref (T := "tuple") (U := "int") (by decide) ⟨_, ho, rfl⟩ (fun s2 => typeIs_int s2 1 tk) noFill_tuple_mul F.fills_int_mul F.slot_int_rmul
      repeat_tuple F.slot_int_index.lookup (call_meets F.slot_int_rmul (typeIs_int st 1 tk) F.entry_int_rmul (F.args_int_rmul_2 _ _) (int_rmul_tuple 1 tk p its.toArray m da ss) ⟨ho, rfl, ⟨_, ho, rfl⟩, ?_⟩)
    refine call_meets F.slot_tuple_mul ⟨_, ho, rfl⟩ F.entry_tuple_mul (F.args_tuple_mul_2 _ _) (meets_mul1 p its.toArray m da ss tk) ⟨ho, ?_⟩
    exact ⟨.ref p, H, I, rfl, q⟩
  · refine wpAny_binaryOp_repeat_ref (T := "tuple") (U := "int") (by decide) ⟨_, ho, rfl⟩ (fun s2 => typeIs_int s2 0 tk) noFill_tuple_mul F.fills_int_mul F.slot_int_rmul
      repeat_tuple F.slot_int_index.lookup (call_meets F.slot_int_rmul (typeIs_int st 0 tk) F.entry_int_rmul (F.args_int_rmul_2 _ _) (int_rmul_tuple 0 tk p its.toArray m da ss) ⟨ho, rfl, ⟨_, ho, rfl⟩, ?_⟩)
    refine call_meets F.slot_tuple_mul ⟨_, ho, rfl⟩ F.entry_tuple_mul (F.args_tuple_mul_2 _ _) (meets_mul0 p its.toArray m da ss tk hi) ⟨ho, ?_⟩
    refine ⟨.ref st.heap.objs.size, _, I.laid (t' := st.toks) (o := .tup []) (fun c oc q => Heap.get?_push_of_some _ q) (Nat.le_refl _) ?_, rfl, q _ (I.hok.fresh (Nat.le_refl _))⟩
    exact ⟨Nat.zero_le _, [], .nil, IsTup.new _ _⟩
end
end K29

set_option Elab.async false
set_option linter.all false
set_option maxRecDepth 100000
set_option maxHeartbeats 4000000
/-! ## the law's call at the top, where no guard stands; repr of data -/
namespace K29
open PySem PySem.Spec PyProof.Rows L2
section
variable {P : Program} {w : World} {K : PySem.W.Frag} {mg mb : Str → Option Value}
/-- a heap in which the script alone may be tracked -/
theorem script_seen {h : Heap} {a : Addr} {us : List Value} {zs : List Int} (kin : K.In h) (at_ : h.get? a = some { cls := .type "list", data := .seq us.toArray }) (rel : IntsAre us zs) (small : zs.length ≤ sizeLine) :
    ∃ H : Hp, Only H ∧ SqL K H a (zs.map V.int) ∧ HOk P w H h ∧ (∀ c, H c ≠ none → c = a ∧ K.lookup a = none) := by
  have rv := vals_ints rel
  cases own : K.lookup a with
  | some ob =>
    have same := kin a ob own
    rw [at_] at same
    cases same
    refine ⟨fun _ => none, fun _ => .inl rfl, .inr ⟨_, us.toArray, _, own, rfl, rfl, rfl, ?_, by simpa using rv⟩, fun c o z => by simp at z, fun c z => absurd rfl z⟩
    rw [List.size_toArray, rel.length]
    exact small
  | none =>
    let me : HO := .frz { cls := .type "list", data := .seq us.toArray } (.lst (zs.map V.int))
    have yes : ∀ c, c = a → (fun c => if c = a then some me else none) c = some me := fun c e => if_pos e
    have no : ∀ c, c ≠ a → (fun c => if c = a then some me else none) c = none := fun c e => if_neg e
    refine ⟨fun c => if c = a then some me else none, fun c => ?_, .inl (.inr ⟨_, yes a rfl⟩), fun c o z => ?_, fun c z => ?_⟩
    · by_cases e : c = a
      · exact .inr ⟨_, _, yes c e⟩
      · exact .inl (no c e)
    · by_cases e : c = a
      · have z' := (yes c e).symm.trans z
        cases z'
        subst e
        exact ⟨at_, by rw [List.length_map]; exact small, us, _, rv, at_⟩
      · have z' := (no c e).symm.trans z
        cases z'
    · by_cases e : c = a
      · exact ⟨e, rfl⟩
      · exact absurd (no c e) z
/-- one call of a def, around it what is told -/
theorem call_here {st : Stmt} {x qual : Str} {f : Addr} {fd : FuncData} {N ps : List Str} {k : Nat} {base : Heap} {A : Around} {outer : List Env} {s : Shared} {H : Hp} {us : List Value} {vs : List V} {Q : VK} (F : Fun K x qual st f fd) (S : FnScope N ps (defScope st))
    (room : Room (k + 1) A) (e0 : Env0 P w K mg base A outer s H) (bt : BindsTo s fd ⟨us, []⟩ (ps.zip us)) (rel : Vals vs us) (hl : vs.length = ps.length)
    (body : ∀ cdv : Value, Room k (A.deeper (envOfC qual (defScope st) s.heap.objs.size f cdv)) → ∃ t, PSs (cxOf CX0 P w K mg base N qual (defScope st) f cdv A outer s H fun _ _ _ => False).nox (defBody st) t ∧ t { nx := fun _ H' => Q .non H', rt := Q } (start N vs) H) :
    codeAny (model P w) A (.call (.ref f) ⟨us, []⟩) (CR CX0 outer P w H s Q fun _ _ _ => False) s := by
  obtain ⟨oc, od, kV, doc, pm, an, cdv, ct, osl, rfl, lk, hcd⟩ := F.ex
  have kin : K.In s.heap := e0.mod.kin.keeps fun b o e => (e0.bs b o e).1
  have nolim : s.heap.NoLimit := e0.mod.nolimit.keeps fun b o e => (e0.bs b o e).1
  refine codeAny_call_function room.depth (kin _ _ lk) rfl S.co S.gen rfl (PySem.W.codeRec_of kin hcd) (bt _ _ _ _ (wpAny_newFunctionEnv_cells S.kind (fun y hy => ?_) fun env he s1 new => ?_))
  · obtain ⟨n, v⟩ := y
    rcases S.par n (List.of_mem_zip hy).1 with q | q
    · exact .inl q
    · exact .inr ⟨q, PySem.W.cellsFrom_some _ _ _ (.inl q)⟩
  · subst he
    refine ⟨nolim.keeps new.toInCall.keep, codeAny_func ?_⟩
    obtain ⟨t, ht, hq⟩ := body cdv (room.deeper _)
    refine wpAny_mono (ht.nox.run [] s1 (start N vs) H _ (inv_start S room.hd e0 hl rel new) hq) (fun fl s2 got => ?_) fun e s2 got => got
    have over : ∀ {σ2 : L2.St} {H2 : Hp} {v : V} {u : Value}, Inv (cxOf CX0 P w K mg base N qual (defScope st) f cdv A outer s H fun _ _ _ => False) [] σ2 H2 s2 → RelV v u → Q v H2 → CE outer P w H s Q u s2 :=
      fun {σ2 H2 v u} J r q => ⟨v, H2, J.os, J.bare, J.base, J.hok, r, q⟩
    cases fl with
    | ret u =>
      obtain ⟨v, σ2, H2, J, r, q⟩ := got
      exact over J r q
    | next =>
      obtain ⟨σ2, H2, J, q⟩ := got
      exact over (v := V.non) (u := Value.none) J rfl q
    | brk =>
      obtain ⟨_, _, _, q⟩ := got
      exact q.elim
    | cont =>
      obtain ⟨_, _, _, q⟩ := got
      exact q.elim
/-- the law's call, where nothing stands around it -/
theorem law_top {st : Stmt} {x qual px : Str} {f a : Addr} {fd : FuncData} {N : List Str} {k : Nat} {s : Shared} {us : List Value} {zs : List Int} (kin : K.In s.heap) (glob : s.heap.Ns mainGlobals mg) (blt : s.heap.Ns builtinsNs mb)
    (boot : ∀ y : Str, y ≠ "__name__" → mb y = bootBuiltins y) (nolim : s.heap.NoLimit) (still : s.gens = #[]) (at_ : s.heap.get? a = some { cls := .type "list", data := .seq us.toArray }) (rel : IntsAre us zs) (small : zs.length ≤ sizeLine)
    (F : Fun K x qual st f fd) (S : FnScope N [px] (defScope st)) (bt : BindsTo s fd ⟨[.ref a], []⟩ [(px, .ref a)]) (room : Room (k + 1) callerA)
    (body : ∀ (base : Heap) (H : Hp) (cdv : Value), K.In base → base.Ns mainGlobals mg → SqL K H a (zs.map V.int) → (∀ H', Same H H' → SqL K H' a (zs.map V.int)) → Room k (callerA.deeper (envOfC qual (defScope st) s.heap.objs.size f cdv)) →
      ∃ t, PSs (cxOf CX0 P w K mg base N qual (defScope st) f cdv callerA [] s H fun _ _ _ => False).nox (defBody st) t ∧ t { nx := fun _ _ => False, rt := fun v _ => v = .bl true } (start N [.ref a]) H) :
    codeAny (model P w) callerA (.call (.ref f) ⟨[.ref a], []⟩) (fun r s' => r = .ok (.ret (.bool true)) ∧ OldK s.heap s'.heap ∧ s'.os = s.os ∧ AllBare s'.gens) s := by
  obtain ⟨H, only, seen, hok, just⟩ := script_seen (P := P) (w := w) kin at_ rel small
  have keep : ∀ {b : Addr} {o : Obj}, s.heap.get? b = some o → H b = none → (hidT s.heap H).get? b = some o := fun e n => hidT_get e n
  have dicts : ∀ {b : Addr} {o : Obj} {es : Array DictEntry} {ep : Nat}, s.heap.get? b = some o → o.data = .dict es ep → H b = none := fun {b o es ep} e d => by
    cases q : H b with
    | none => rfl
    | some u =>
      obtain ⟨rfl, _⟩ := just b (by rw [q]; simp)
      rw [at_] at e
      cases e
      have d' : Data.seq us.toArray _ = Data.dict es ep := d
      cases d'
  have spaces : ∀ {b : Addr} {m : Str → Option Value}, s.heap.Ns b m → (hidT s.heap H).Ns b m := fun {b m} ⟨o, es, ep, e, d, r⟩ => ⟨o, es, ep, keep e (dicts e d), d, r⟩
  have inBase : K.In (hidT s.heap H) := fun b o e => keep (kin b o e) (by
    cases q : H b with
    | none => rfl
    | some u =>
      obtain ⟨rfl, z⟩ := just b (by rw [q]; simp)
      rw [z] at e
      cases e)
  have md : Mod K mg (hidT s.heap H) := ⟨inBase, spaces glob, ⟨mb, spaces blt, boot⟩, let ⟨mc, h1, h2⟩ := nolim; ⟨mc, spaces h1, h2⟩⟩
  have entry : Env0 P w K mg (hidT s.heap H) callerA [] s H :=
    { frames := rfl, mod := md, bs := fun b o e => of_hidT e, bsz := Nat.le_of_eq (hidT_size _ _), funs := trivial, frf := fun b hb => absurd (show b ∈ ([] : List Addr) from hb) (by simp), hok := hok, bare := .of_eq still }
  have later : ∀ H', Same H H' → SqL K H' a (zs.map V.int) := fun H' sm => by
    rcases seen with (e | ⟨o, e⟩) | e
    · exact .inl (.inl (sm _ _ e))
    · exact .inl (.inr ⟨o, sm _ _ e⟩)
    · exact .inr e
  have ran := call_here (P := P) (w := w) (Q := fun v _ => v = .bl true) (vs := [.ref a]) F S room entry bt (.cons rfl .nil) rfl fun cdv room' => by
    obtain ⟨t, h1, h2⟩ := body _ H cdv inBase (spaces glob) seen later room'
    refine ⟨t, h1, ?_⟩
    have e0 : (fun (_ : L2.St) (H' : Hp) => (V.non = V.bl true)) = fun _ _ => False := by
      funext _ _
      exact propext ⟨fun z => (by cases z), fun z => False.elim z⟩
    rw [e0]
    exact h2
  refine codeAny_mono ran fun r s2 got => ?_
  cases r with
  | error e => exact False.elim got
  | ok fl =>
    cases fl with
    | next => exact False.elim got
    | brk => exact False.elim got
    | cont => exact False.elim got
    | ret u =>
      obtain ⟨v, H2, os, bare, un, hok2, rv, q⟩ := got
      have q' : v = .bl true := q
      subst q'
      obtain rfl : u = Value.bool true := rv
      refine ⟨rfl, OldK.of_keep fun b o e => ?_, os, bare⟩
      cases q2 : H b with
      | none => exact un.keep b o e q2 (by intro z; exact absurd (show b ∈ ([] : List Addr) from z) (by simp)) (by simp)
      | some u2 =>
        rcases only b with z | ⟨ob, ys, z⟩
        · rw [q2] at z
          cases z
        · obtain ⟨e1, _⟩ := hok b _ z
          obtain ⟨e2, _⟩ := hok2 b _ (un.frzs b ob _ z)
          rw [e] at e1
          cases e1
          exact e2
/-- repr of data, where no guard stands -/
theorem call_reprD {X : Cx} (free : X.A.guards = some []) (units : X.A.units + 64 < cLine) : CallR X (.builtin "repr") (fun xs H Q => ∃ (p : Addr) (d : PyData), xs = [.ref p] ∧ Dp X.K H (.ref p) d ∧ PyData.showable d = true ∧ PyData.hasDict d = false ∧ PyData.depth d ≤ 16 ∧ (PyData.shown d).length ≤ sizeLine ∧ Q (.str (PyData.shown d)) H) := by
  intro pins s σ H xs us Q I rel hq
  obtain ⟨p, d, rfl, dp, sh, nd, dep, len, q⟩ := hq
  obtain ⟨u, rfl, ru⟩ := vals1 rel
  obtain rfl : u = .ref p := ru
  obtain ⟨as, rd⟩ := Dp.reads I d (.ref p) (.ref p) dp rfl
  refine repr_of_reads' rd sh (fun z => by rw [nd] at z; cases z) free (by omega) (fun b o e => e) (fun h' u tk kept => ?_) len
  exact ⟨.str (PyData.shown d), H, I.kept kept, ⟨_, rfl⟩, q⟩
end
end K29

set_option Elab.async false
set_option linter.all false
set_option maxRecDepth 100000
set_option maxHeartbeats 4000000
/-! ## plain: renamed programs run alike; how great a total may be -/
namespace K29
open PySem L2
/-! ### renamed -/
structure Inj (ns : List Str) (p : Str → Str) : Prop where
  inj : ∀ x ∈ ns, ∀ y ∈ ns, p x = p y → x = y
def Alike (ns : List Str) (p : Str → Str) (c c' : Cs) : Prop := (∀ x ∈ ns, c'.env (p x) = c.env x) ∧ c.tot = c'.tot ∧ c.trn = c'.trn ∧ c.hnd = c'.hnd ∧ c.stp = c'.stp
theorem evE_ren {ns : List Str} {p : Str → Str} {f f' : Str → Int} (h : ∀ x ∈ ns, f' (p x) = f x) : ∀ (n : Nat) (e : Ex), okE (· ∈ ns) n e → evE f' (renE p e) = evE f e
  | 0, e, o => by simp [okE] at o
  | n + 1, .num i, _ => rfl
  | n + 1, .nam x, o => h x o
  | n + 1, .bin b e g, o => by simp only [renE, evE, evE_ren h n e o.1, evE_ren h n g o.2]
  | n + 1, .tim k e, o => by simp only [renE, evE, evE_ren h n e o.2.2]
theorem evT_ren {ns : List Str} {p : Str → Str} {f f' : Str → Int} (h : ∀ x ∈ ns, f' (p x) = f x) : ∀ (n : Nat) (t : Te), okT (· ∈ ns) n t → evT f' (renT p t) = evT f t
  | n, .less a b, o => by
    have o' : okE (· ∈ ns) 3 a ∧ okE (· ∈ ns) 3 b := by cases n <;> simpa only [okT] using o
    simp only [renT, evT, evE_ren h 3 a o'.1, evE_ren h 3 b o'.2]
  | n, .rest e m r, o => by
    have o' : okE (· ∈ ns) 3 e ∧ 2 ≤ m ∧ m ≤ 6 ∧ 0 ≤ r ∧ r < m := by cases n <;> simpa only [okT] using o
    simp only [renT, evT, evE_ren h 3 e o'.1]
  | 0, .neg t, o => by simp [okT] at o
  | n + 1, .neg t, o => by
    simp only [renT, evT]
    rw [evT_ren h n t o]
theorem sim_ren {ns : List Str} {p : Str → Str} (ip : Inj ns p) (ak : List Int) : Sim ak ak (· ∈ ns) p (Alike ns p) (fun _ => False) (fun _ => False) where
  stp := fun c c' e => e.2.2.2.2
  set := fun c c' x e h hx he => by
    refine ⟨fun y hy => ?_, h.2⟩
    show setE c'.env (p x) _ (p y) = setE c.env x _ y
    unfold setE
    by_cases e1 : y = x
    · rw [if_pos (by rw [e1]), if_pos e1]
      exact evE_ren h.1 3 e he
    · rw [if_neg (fun z => e1 (ip.inj y hy x hx z)), if_neg e1]
      exact h.1 y hy
  pay := fun c c' e h he => ⟨h.1, by show c.tot + _ = c'.tot + _; rw [evE_ren h.1 3 e he, h.2.1], h.2.2⟩
  stop := fun c c' h => ⟨h.1, h.2.1, h.2.2.1, h.2.2.2.1, rfl⟩
  test := fun c c' t h ht => (evT_ren h.1 2 t ht).symm
  cho := fun c c' w h => by
    have en : c.nxt ak = c'.nxt ak := by unfold Cs.nxt; rw [h.2.2.1]
    exact .inl ⟨en, h.1, h.2.1, by simp only [Cs.cho, en, h.2.2.1], by simp only [Cs.cho, h.2.2.2.1], h.2.2.2.2⟩
  dS := fun _ _ _ _ h => h
  dL := fun _ _ _ _ h => h
  dS' := fun _ _ _ _ h => h
  dL' := fun _ _ _ _ h => h
theorem row_alike {ns : List Str} {p : Str → Str} (ip : Inj ns p) (ak : List Int) {ss : List Sm} (ho : okL (· ∈ ns) 4 ss) {c c' : Cs} (h : Alike ns p c c') : rowOf (goB ak (renL p ss) c') = rowOf (goB ak ss c) := by
  rcases sim_L (sim_ren ip ak) 4 ss c c' ho (.inl h) with e | e
  · obtain ⟨_, h1, h2, h3, _⟩ := e
    unfold rowOf
    rw [h1, h2, h3]
  · exact e.1.elim
/-- what may be set ahead -/
inductive Ahead (y : Str) : List Sm → Prop
  | none : Ahead y []
  | spare : Ahead y [.set "spare1" (.bin true (.nam "n") (.num 5))]
  | zero : Ahead y [.set y (.num 0)]
  | both : Ahead y [.set "spare1" (.bin true (.nam "n") (.num 5)), .set y (.num 0)]
/-- the renaming that a law's names make -/
structure Ren (ns : List Str) (p : Str → Str) (y : Str) : Prop where
  inj : Inj ns p
  n : p "n" = "n"
  spare : ∀ x ∈ ns, p x ≠ "spare1"
  y : ∃ x ∈ ns, x ≠ "n" ∧ p x = y
theorem alike_start {ns : List Str} {p : Str → Str} {y : Str} (r : Ren ns p y) (hn : Str.ofString "n" ∈ ns) (num : Int) (ak : List Int) {a : List Sm} (h : Ahead y a) : Alike ns p (cs0 num) (goB ak a (cs0 num)) := by
  have base : ∀ x ∈ ns, (cs0 num).env (p x) = (cs0 num).env x := fun x hx => by
    have e0 : (cs0 num).env = setE (fun _ => 0) "n" num := rfl
    rw [e0]
    unfold setE
    by_cases e : x = Str.ofString "n"
    · rw [if_pos (by rw [e]; exact r.n), if_pos e]
    · rw [if_neg (fun z => e (r.inj.inj x hx _ hn (z.trans r.n.symm))), if_neg e]
  have y0 : (cs0 num).env y = 0 := by
    obtain ⟨x, hx, hxn, rfl⟩ := r.y
    rw [base x hx]
    have e0 : (cs0 num).env = setE (fun _ => 0) "n" num := rfl
    rw [e0]
    unfold setE
    rw [if_neg hxn]
  have sp : ∀ (f : Str → Int) (v : Int), ∀ x ∈ ns, setE f "spare1" v (p x) = f (p x) := fun f v x hx => by
    unfold setE
    rw [if_neg (r.spare x hx)]
  have zy : ∀ (f : Str → Int), f y = 0 → ∀ z, setE f y 0 z = f z := fun f hf z => by
    unfold setE
    by_cases e : z = y
    · rw [if_pos e, e, hf]
    · rw [if_neg e]
  have ny : y ≠ "spare1" := by
    obtain ⟨x, hx, _, rfl⟩ := r.y
    exact r.spare x hx
  cases h with
  | none => exact ⟨base, rfl, rfl, rfl, rfl⟩
  | spare =>
    refine ⟨fun x hx => ?_, rfl, rfl, rfl, rfl⟩
    show setE (cs0 num).env "spare1" _ (p x) = _
    rw [sp _ _ x hx]
    exact base x hx
  | zero =>
    refine ⟨fun x hx => ?_, rfl, rfl, rfl, rfl⟩
    show setE (cs0 num).env y 0 (p x) = _
    rw [zy _ y0]
    exact base x hx
  | both =>
    refine ⟨fun x hx => ?_, rfl, rfl, rfl, rfl⟩
    show setE (setE (cs0 num).env "spare1" _) y 0 (p x) = _
    rw [zy _ (by unfold setE; rw [if_neg ny]; exact y0), sp _ _ x hx]
    exact base x hx
theorem run_ahead {ns : List Str} {p : Str → Str} {y : Str} (r : Ren ns p y) (hn : Str.ofString "n" ∈ ns) {ss : List Sm} (ho : okL (· ∈ ns) 4 ss) {a : List Sm} (h : Ahead y a) (num : Int) (ak : List Int) : runM (a ++ renL p ss) num ak = runM ss num ak := by
  unfold runM
  rw [goB_append]
  exact row_alike r.inj ak ho (alike_start r hn num ak h)
theorem run_ren {ns : List Str} {p : Str → Str} {y : Str} (r : Ren ns p y) (hn : Str.ofString "n" ∈ ns) {ss : List Sm} (ho : okL (· ∈ ns) 4 ss) (num : Int) (ak : List Int) : runM (renL p ss) num ak = runM ss num ak := run_ahead r hn ho .none num ak
theorem all_ren {ns : List Str} {p : Str → Str} {y : Str} (r : Ren ns p y) (hn : Str.ofString "n" ∈ ns) {ss : List Sm} (ho : okL (· ∈ ns) 4 ss) (num : Int) : allRuns (renL p ss) num = allRuns ss num := by
  unfold allRuns
  rw [show runM (renL p ss) num = runM ss num from funext fun ak => run_ren r hn ho num ak]

/-! ### how great -/
theorem evE_le {N : Str → Prop} {f : Str → Int} {M : Nat} (hM : 99 ≤ M) (hf : ∀ x, (f x).natAbs ≤ M) : ∀ (n : Nat) (e : Ex), okE N n e → (evE f e).natAbs ≤ M * 9 ^ (n - 1)
  | 0, e, h => by simp [okE] at h
  | 1, .num i, h => by
    simp only [okE] at h
    simp only [evE]
    omega
  | 1, .nam x, h => by
    simp only [evE]
    have := hf x
    omega
  | 1, .bin b e g, h => by simp [okE] at h
  | 1, .tim k e, h => by simp [okE] at h
  | n + 2, .num i, h => by
    simp only [okE] at h
    simp only [evE]
    have : M * 1 ≤ M * 9 ^ (n + 1) := Nat.mul_le_mul_left _ (Nat.pow_pos (by decide))
    show _ ≤ M * 9 ^ (n + 1)
    omega
  | n + 2, .nam x, h => by
    simp only [evE]
    have h1 := hf x
    have : M * 1 ≤ M * 9 ^ (n + 1) := Nat.mul_le_mul_left _ (Nat.pow_pos (by decide))
    show _ ≤ M * 9 ^ (n + 1)
    omega
  | n + 2, .bin b e g, h => by
    simp only [okE] at h
    have h1 := evE_le hM hf (n + 1) e h.1
    have h2 := evE_le hM hf (n + 1) g h.2
    have e3 : M * 9 ^ (n + 1) = 9 * (M * 9 ^ n) := by rw [Nat.pow_succ, Nat.mul_comm (9 ^ n) 9, ← Nat.mul_assoc, Nat.mul_comm M 9, Nat.mul_assoc]
    have h1' : (evE f e).natAbs ≤ M * 9 ^ n := h1
    have h2' : (evE f g).natAbs ≤ M * 9 ^ n := h2
    show (evE f (.bin b e g)).natAbs ≤ M * 9 ^ (n + 1)
    rw [e3]
    simp only [evE]
    split <;> omega
  | n + 2, .tim k e, h => by
    simp only [okE] at h
    have h1 : (evE f e).natAbs ≤ M * 9 ^ n := evE_le hM hf (n + 1) e h.2.2
    have e3 : M * 9 ^ (n + 1) = 9 * (M * 9 ^ n) := by rw [Nat.pow_succ, Nat.mul_comm (9 ^ n) 9, ← Nat.mul_assoc, Nat.mul_comm M 9, Nat.mul_assoc]
    show (evE f (.tim k e)).natAbs ≤ M * 9 ^ (n + 1)
    rw [e3]
    simp only [evE]
    rw [Int.natAbs_mul]
    exact Nat.mul_le_mul (by omega) h1
/-- all values of a run that has so much weight behind it -/
def Low (X n : Nat) (c : Cs) : Prop := (∀ x, (c.env x).natAbs ≤ X * 128 ^ n) ∧ c.tot.natAbs ≤ X * 128 ^ n
theorem bud_low (ak : List Int) (N : Str → Prop) {X : Nat} (hX : 99 ≤ X) : Bud 0 ak N (fun n c => Low X n c) := by
  have up : ∀ n m : Nat, n ≤ m → X * 128 ^ n ≤ X * 128 ^ m := fun n m h => Nat.mul_le_mul_left _ (Nat.pow_le_pow_right (by decide) h)
  have big : ∀ n : Nat, 99 ≤ X * 128 ^ n := fun n => by
    have := up 0 n (Nat.zero_le _)
    rw [Nat.pow_zero, Nat.mul_one] at this
    omega
  have suc : ∀ n : Nat, X * 128 ^ (n + 1) = 128 * (X * 128 ^ n) := fun n => by rw [Nat.pow_succ, Nat.mul_comm (128 ^ n) 128, ← Nat.mul_assoc, Nat.mul_comm X 128, Nat.mul_assoc]
  have ev : ∀ (n : Nat) (c : Cs) (e : Ex), Low X n c → okE N 3 e → (evE c.env e).natAbs ≤ 81 * (X * 128 ^ n) := fun n c e h o => by
    have h1 : (evE c.env e).natAbs ≤ X * 128 ^ n * 81 := evE_le (big n) h.1 3 e o
    omega
  refine ⟨fun n m c h g => ⟨fun x => Nat.le_trans (g.1 x) (up n m h), Nat.le_trans g.2 (up n m h)⟩, fun n c x e h o => ⟨fun y => ?_, ?_⟩, fun n c e h o => ⟨fun y => ?_, ?_⟩, fun n c h => ?_, fun n c w a b h => ?_⟩
  · have h1 := ev n c e h o
    have h2 := h.1 y
    show (setE c.env x (evE c.env e) y).natAbs ≤ X * 128 ^ (n + 1)
    rw [suc]
    unfold setE
    split <;> omega
  · exact Nat.le_trans h.2 (up n (n + 1) (by omega))
  · exact Nat.le_trans (h.1 y) (up n (n + 1) (by omega))
  · have h1 := ev n c e h o
    have h2 := h.2
    show (c.tot + evE c.env e).natAbs ≤ X * 128 ^ (n + 1)
    rw [suc]
    omega
  · exact ⟨fun y => Nat.le_trans (h.1 y) (up n (n + 1) (by omega)), Nat.le_trans h.2 (up n (n + 1) (by omega))⟩
  · exact ⟨fun y => Nat.le_trans (h.1 y) (up n (n + 1) (by omega)), Nat.le_trans h.2 (up n (n + 1) (by omega))⟩
theorem bud_hnd (ak : List Int) (N : Str → Prop) : Bud 1 ak N (fun n c => c.hnd.length ≤ n ∧ ∀ h ∈ c.hnd, h = hand true ∨ h = hand false) where
  mono := fun n m c h x => ⟨Nat.le_trans x.1 h, x.2⟩
  set := fun n c x e h _ => h
  pay := fun n c e h _ => h
  stop := fun n c h => h
  cho := fun n c w a b h => by
    refine ⟨by simp only [Cs.cho, own, List.length_append, List.length_singleton]; have := h.1; omega, fun x hx => ?_⟩
    simp only [Cs.cho] at hx
    rcases List.mem_append.mp hx with z | z
    · exact h.2 x z
    · rw [List.mem_singleton.mp z]
      cases w
      · exact .inr rfl
      · exact .inl rfl
end K29

set_option Elab.async false
set_option linter.all false
set_option maxRecDepth 100000
set_option maxHeartbeats 4000000
/-! ## plain: rows may be shown -/
namespace K29
open PySem L2
structure Sh (dep wt : Nat) (d : PyData) : Prop where
  short : PyData.leavesShort 425 d = true
  shows : PyData.showable d = true
  flat : PyData.hasDict d = false
  deep : PyData.depth d ≤ dep
  w : PyData.weight d ≤ wt
structure ShA (dep wt : Nat) (ds : List PyData) : Prop where
  short : PyData.leavesShortAll 425 ds = true
  shows : PyData.showableAll ds = true
  flat : PyData.hasDictAll ds = false
  deep : PyData.depthAll ds ≤ dep
  w : PyData.weightAll ds ≤ wt
theorem ShA.nil (dep : Nat) : ShA dep 0 [] := ⟨by simp [PyData.leavesShortAll], by simp [PyData.showableAll], by simp [PyData.hasDictAll], by simp [PyData.depthAll], by simp [PyData.weightAll]⟩
theorem ShA.cons {dep a b : Nat} {d : PyData} {ds : List PyData} (h : Sh dep a d) (g : ShA dep b ds) : ShA dep (a + 1 + b) (d :: ds) := by
  obtain ⟨h1, h2, h3, h4, h5⟩ := h
  obtain ⟨g1, g2, g3, g4, g5⟩ := g
  refine ⟨by simp [PyData.leavesShortAll, h1, g1], by simp [PyData.showableAll, h2, g2], by simp [PyData.hasDictAll, h3, g3], ?_, ?_⟩
  · simp only [PyData.depthAll]; omega
  · simp only [PyData.weightAll]; omega
theorem Sh.mono {dep dep' a b : Nat} {d : PyData} (h : Sh dep a d) (g : dep ≤ dep') (z : a ≤ b) : Sh dep' b d := ⟨h.short, h.shows, h.flat, Nat.le_trans h.deep g, Nat.le_trans h.w z⟩
theorem ShA.mono {dep dep' a b : Nat} {d : List PyData} (h : ShA dep a d) (g : dep ≤ dep') (z : a ≤ b) : ShA dep' b d := ⟨h.short, h.shows, h.flat, Nat.le_trans h.deep g, Nat.le_trans h.w z⟩
theorem ShA.all {dep a : Nat} : ∀ {ds : List PyData}, (∀ d ∈ ds, Sh dep a d) → ShA dep ((a + 1) * ds.length) ds
  | [], _ => ShA.nil dep
  | d :: ds, h => by
    have := ShA.cons (h d List.mem_cons_self) (ShA.all fun x hx => h x (List.mem_cons_of_mem _ hx))
    refine this.mono (Nat.le_refl _) ?_
    rw [List.length_cons, Nat.mul_succ]
    omega
theorem ShA.tup {dep a : Nat} {ds : List PyData} (h : ShA dep a ds) : Sh (dep + 1) a (.tuple ds) :=
  ⟨by simpa only [PyData.leavesShort] using h.short, by simpa only [PyData.showable] using h.shows, by simpa only [PyData.hasDict] using h.flat, by simp only [PyData.depth]; have := h.deep; omega, by simpa only [PyData.weight] using h.w⟩
theorem ShA.lst {dep a : Nat} {ds : List PyData} (h : ShA dep a ds) : Sh (dep + 1) a (.list ds) :=
  ⟨by simpa only [PyData.leavesShort] using h.short, by simpa only [PyData.showable] using h.shows, by simpa only [PyData.hasDict] using h.flat, by simp only [PyData.depth]; have := h.deep; omega, by simpa only [PyData.weight] using h.w⟩
theorem Sh.int {i : Int} (h : i.natAbs < 2 ^ 424) : Sh 0 424 (.int i) := by
  have lg : i.natAbs.log2 < 424 := PySem.Flt.log2_lt_of (by decide) h
  refine ⟨?_, ?_, by simp [PyData.hasDict], by simp [PyData.depth], ?_⟩
  · have l : (PyData.shown (.int i)).length ≤ 425 := by
      simp only [PyData.shown]
      rw [PySem.ofString_length]
      exact PySem.int_text_length_le (k := 424) (by decide) lg
    simp only [PyData.leavesShort]
    exact decide_eq_true l
  · simp only [PyData.showable, decide_eq_true_eq]
    omega
  · simp only [PyData.weight]
    split <;> omega
theorem Sh.bit {i : Int} (h : i = 0 ∨ i = 1) : Sh 0 1 (.int i) := by
  have := Sh.int (i := i) (by
    rcases h with rfl | rfl
    · exact Nat.pow_pos (by decide)
    · exact Nat.one_lt_two_pow (by decide))
  refine ⟨this.short, this.shows, this.flat, this.deep, ?_⟩
  rcases h with rfl | rfl <;> decide +kernel
theorem Sh.hand (w : Bool) : Sh 0 4 (.str (hand w)) := by
  cases w <;> exact ⟨by decide +kernel, by decide +kernel, by decide +kernel, by decide +kernel, by decide +kernel⟩
theorem Sh.len {dep wt : Nat} {d : PyData} (h : Sh dep wt d) (z : wt ≤ 8000) : (PyData.shown d).length ≤ sizeLine := by
  have h1 := PyData.shown_le 425 (by decide) d h.short
  have h2 : (425 + 2) * PyData.weight d ≤ (425 + 2) * 8000 := Nat.mul_le_mul_left _ (Nat.le_trans h.w z)
  rw [sizeLine_eq]
  omega
/-- a row of a run -/
theorem row_sh {N : Str → Prop} {ss : List Sm} {num : Int} {ak : List Int} (ho : okL N 4 ss) (hw : cntL 0 ss ≤ 30) (hc : cntL 1 ss ≤ 4) (hn : num.natAbs ≤ NUM) (hb : ∀ i ∈ ak, i = 0 ∨ i = 1) : Sh 2 455 (encR (runM ss num ak)) := by
  have x0 : Low NUM 0 (cs0 num) := by
    refine ⟨fun x => ?_, ?_⟩
    · rw [Nat.pow_zero, Nat.mul_one]
      have e0 : (cs0 num).env = setE (fun _ => 0) "n" num := rfl
      rw [e0]
      unfold setE
      split
      · exact hn
      · exact Nat.zero_le _
    · exact Nat.zero_le _
  have low := bud_L (bud_low ak N (X := NUM) (by decide +kernel)) 4 ss 0 (cs0 num) ho x0
  have hnd := bud_L (bud_hnd ak N) 4 ss 0 (cs0 num) ho ⟨Nat.le_refl _, fun h z => by simp [cs0] at z⟩
  obtain ⟨tl, _⟩ := run_agree (num := num) ho hc ak
  have tb := run_bits (num := num) ho hc hb
  have big : NUM * 128 ^ (0 + cntL 0 ss) < 2 ^ 424 := by
    have h1 : 128 ^ (0 + cntL 0 ss) ≤ 128 ^ 30 := Nat.pow_le_pow_right (by decide) (by omega)
    have h2 : NUM * 128 ^ (0 + cntL 0 ss) ≤ NUM * 128 ^ 30 := Nat.mul_le_mul_left _ h1
    have h3 : NUM * 128 ^ 30 < 2 ^ 424 := by decide +kernel
    exact Nat.lt_of_le_of_lt h2 h3
  have a1 : Sh 0 424 (.int (runM ss num ak).tot) := Sh.int (Nat.lt_of_le_of_lt low.2 big)
  have a2 : Sh 1 8 (.tuple ((runM ss num ak).trn.map .int)) := by
    have := ShA.all (dep := 0) (a := 1) (ds := (runM ss num ak).trn.map .int) fun d hd => by
      obtain ⟨i, hi, rfl⟩ := List.mem_map.mp hd
      exact Sh.bit (tb i hi)
    rw [List.length_map] at this
    exact (this.mono (Nat.le_refl _) (by omega)).tup
  have a3 : Sh 1 20 (.tuple ((runM ss num ak).hnd.map .str)) := by
    have hl : (runM ss num ak).hnd.length ≤ 4 := Nat.le_trans hnd.1 (by omega)
    have := ShA.all (dep := 0) (a := 4) (ds := (runM ss num ak).hnd.map .str) fun d hd => by
      obtain ⟨i, hi, rfl⟩ := List.mem_map.mp hd
      rcases hnd.2 i hi with e | e
      · rw [e]; exact Sh.hand true
      · rw [e]; exact Sh.hand false
    rw [List.length_map] at this
    exact (this.mono (Nat.le_refl _) (by omega)).tup
  exact ((ShA.cons (a1.mono (by decide) (Nat.le_refl _)) (ShA.cons a2 (ShA.cons a3 (ShA.nil 1)))).tup).mono (Nat.le_refl _) (by decide)
theorem runsF_mem (run : List Int → Row) (C : List Int → Prop) (step : ∀ t t', C t → nextT (run t).trn = some t' → C t') : ∀ (f : Nat) (lo : Option (List Int)), (∀ t, lo = some t → C t) → ∀ r ∈ runsF run f lo, ∃ t, C t ∧ r = run t
  | 0, none, _, r, h => by simp [runsF] at h
  | 0, some _, _, r, h => by simp [runsF] at h
  | f + 1, none, _, r, h => by simp [runsF] at h
  | f + 1, some t, hc, r, h => by
    simp only [runsF, List.mem_cons] at h
    rcases h with h | h
    · exact ⟨t, hc t rfl, h⟩
    · exact runsF_mem run C step f _ (fun t' e => step t t' (hc t rfl) e) r h
theorem all_sh {N : Str → Prop} {ss : List Sm} {num : Int} (ho : okL N 4 ss) (hw : cntL 0 ss ≤ 30) (hc : cntL 1 ss ≤ 4) (hn : num.natAbs ≤ NUM) : Sh 3 7296 (.list ((allRuns ss num).map encR)) := by
  have each : ∀ r ∈ allRuns ss num, Sh 2 455 (encR r) := fun r hr => by
    obtain ⟨t, ht, rfl⟩ := runsF_mem (runM ss num) (fun t => ∀ i ∈ t, i = 0 ∨ i = 1) (fun t t' h e => by
      have hb := run_bits (num := num) ho hc h
      unfold nextT at e
      cases ei : nextI (runM ss num t).trn (runM ss num t).trn.length with
      | none => rw [ei] at e; cases e
      | some i =>
        rw [ei] at e
        have et : (runM ss num t).trn.take i ++ [1] = t' := by simpa using e
        intro j hj
        rw [← et] at hj
        rcases List.mem_append.mp hj with z | z
        · exact hb j (List.mem_of_mem_take z)
        · exact .inr (List.mem_singleton.mp z)) 16 (some []) (fun t e => by cases e; simp) r hr
    exact row_sh ho hw hc hn ht
  have h := ShA.all (dep := 2) (a := 455) (ds := (allRuns ss num).map encR) fun d hd => by
    obtain ⟨r, hr, rfl⟩ := List.mem_map.mp hd
    exact each r hr
  have hl := runsF_len (runM ss num) 16 (some [])
  rw [List.length_map] at h
  refine (h.mono (Nat.le_refl _) ?_).lst
  have : (455 + 1) * (allRuns ss num).length ≤ (455 + 1) * 16 := Nat.mul_le_mul_left _ hl
  omega
end K29

set_option Elab.async false
set_option linter.all false
set_option maxRecDepth 100000
set_option maxHeartbeats 4000000
/-! ## plain: the law's renaming -/
namespace K29
open PySem L2
def pmap (x1 x2 x3 z1 z2 z3 : Str) (x : Str) : Str := if x = x1 then z1 else if x = x2 then z2 else if x = x3 then z3 else x
def kvs3 (x1 x2 x3 z1 z2 z3 : Str) : List (Key × V) := [(Sum.inr x1, .str z1), (Sum.inr x2, .str z2), (Sum.inr x3, .str z3)]
theorem merge3 {x1 x2 x3 z1 z2 z3 : Str} (h12 : x1 ≠ x2) (h13 : x1 ≠ x3) (h23 : x2 ≠ x3) (x : Str) : (valV (mergeK [] (kvs3 x1 x2 x3 z1 z2 z3)) (Sum.inr x : Key)).getD (.str x) = .str (pmap x1 x2 x3 z1 z2 z3 x) := by
  show (valV (putK (putK (putK [] (Sum.inr x1 : Key) (.str z1)) (Sum.inr x2) (.str z2)) (Sum.inr x3) (.str z3)) (Sum.inr x : Key)).getD (.str x) = _
  rw [valV_put, valV_put, valV_put, valV_nil]
  unfold pmap
  have inj : ∀ a b : Str, ((Sum.inr a : Key) = Sum.inr b) = (a = b) := fun a b => propext ⟨fun z => Sum.inr.inj z, fun z => by rw [z]⟩
  simp only [inj]
  by_cases e1 : x = x1
  · subst e1
    rw [if_neg h13, if_neg h12, if_pos rfl, if_pos rfl] <;> rfl
  · by_cases e2 : x = x2
    · subst e2
      rw [if_neg h23, if_pos rfl, if_neg (Ne.symm h12), if_pos rfl] <;> rfl
    · by_cases e3 : x = x3
      · subst e3
        rw [if_pos rfl, if_neg (Ne.symm h13), if_neg (Ne.symm h23), if_pos rfl] <;> rfl
      · rw [if_neg e3, if_neg e2, if_neg e1, if_neg e1, if_neg e2, if_neg e3] <;> rfl
theorem three {α : Type} {l : List α} (h : l.length = 3) : ∃ a b c, l = [a, b, c] := by
  match l, h with
  | [a, b, c], _ => exact ⟨a, b, c, rfl⟩
structure Names3 (x1 x2 x3 : Str) : Prop where
  h12 : x1 ≠ x2
  h13 : x1 ≠ x3
  h23 : x2 ≠ x3
  ok : ∀ x ∈ [x1, x2, x3], NameOk x ∧ x ≠ "n" ∧ x ≠ "spare1"
theorem NamesOk.split {xs : List Str} (h : NamesOk xs) : ∃ x1 x2 x3, xs = [x1, x2, x3] ∧ Names3 x1 x2 x3 := by
  obtain ⟨x1, x2, x3, rfl⟩ := three h.len
  have nd := h.nd
  rw [List.nodup_cons, List.nodup_cons] at nd
  refine ⟨x1, x2, x3, rfl, ⟨fun e => nd.1 (by rw [e]; simp), fun e => nd.1 (by rw [e]; simp), fun e => nd.2.1 (by rw [e]; simp), h.ok⟩⟩
theorem ren_of {x1 x2 x3 y1 y2 y3 : Str} (hx : Names3 x1 x2 x3) (hy : Names3 y1 y2 y3) : Ren (Str.ofString "n" :: [x1, x2, x3]) (pmap x1 x2 x3 y3 y2 y1) y3 ∧ ∀ x ∈ Str.ofString "n" :: [x1, x2, x3], NameOk (pmap x1 x2 x3 y3 y2 y1 x) := by
  have n1 := (hx.ok x1 (by simp)).2.1
  have n2 := (hx.ok x2 (by simp)).2.1
  have n3 := (hx.ok x3 (by simp)).2.1
  have m1 := hy.ok y1 (by simp)
  have m2 := hy.ok y2 (by simp)
  have m3 := hy.ok y3 (by simp)
  have pn : pmap x1 x2 x3 y3 y2 y1 "n" = "n" := by
    unfold pmap
    rw [if_neg (Ne.symm n1), if_neg (Ne.symm n2), if_neg (Ne.symm n3)]
  have p1 : pmap x1 x2 x3 y3 y2 y1 x1 = y3 := by
    unfold pmap
    rw [if_pos rfl]
  have p2 : pmap x1 x2 x3 y3 y2 y1 x2 = y2 := by
    unfold pmap
    rw [if_neg (Ne.symm hx.h12), if_pos rfl]
  have p3 : pmap x1 x2 x3 y3 y2 y1 x3 = y1 := by
    unfold pmap
    rw [if_neg (Ne.symm hx.h13), if_neg (Ne.symm hx.h23), if_pos rfl]
  have cases4 : ∀ x ∈ Str.ofString "n" :: [x1, x2, x3], x = Str.ofString "n" ∨ x = x1 ∨ x = x2 ∨ x = x3 := fun x h => by simpa using h
  have sp : Str.ofString "n" ≠ Str.ofString "spare1" := by decide +kernel
  refine ⟨⟨⟨fun x h y g e => ?_⟩, pn, fun x h => ?_, x1, by simp, n1, p1⟩, fun x h => ?_⟩
  · rcases cases4 x h with rfl | rfl | rfl | rfl <;> rcases cases4 y g with rfl | rfl | rfl | rfl
    · rfl
    · rw [pn, p1] at e; exact absurd e.symm m3.2.1
    · rw [pn, p2] at e; exact absurd e.symm m2.2.1
    · rw [pn, p3] at e; exact absurd e.symm m1.2.1
    · rw [pn, p1] at e; exact absurd e m3.2.1
    · rfl
    · rw [p1, p2] at e; exact absurd e.symm hy.h23
    · rw [p1, p3] at e; exact absurd e.symm hy.h13
    · rw [pn, p2] at e; exact absurd e m2.2.1
    · rw [p1, p2] at e; exact absurd e hy.h23
    · rfl
    · rw [p2, p3] at e; exact absurd e.symm hy.h12
    · rw [pn, p3] at e; exact absurd e m1.2.1
    · rw [p1, p3] at e; exact absurd e hy.h13
    · rw [p2, p3] at e; exact absurd e hy.h12
    · rfl
  · rcases cases4 x h with rfl | rfl | rfl | rfl
    · rw [pn]; exact sp
    · rw [p1]; exact m3.2.2
    · rw [p2]; exact m2.2.2
    · rw [p3]; exact m1.2.2
  · rcases cases4 x h with rfl | rfl | rfl | rfl
    · rw [pn]; exact nm_n
    · rw [p1]; exact m3.1
    · rw [p2]; exact m2.1
    · rw [p3]; exact m1.1
theorem nm_spare : NameOk "spare1" := ⟨by decide +kernel, by decide +kernel, by decide +kernel, ⟨115, by decide +kernel, by decide +kernel⟩, by decide +kernel⟩
theorem ahead_ok {y : Str} (hy : NameOk y) {a : List Sm} (h : Ahead y a) : okL NameOk 4 a ∧ sizL a ≤ 2 ∧ a.length ≤ 2 ∧ cntL 0 a ≤ 2 := by
  have s1 : okS NameOk 4 (.set "spare1" (.bin true (.nam "n") (.num 5))) := ⟨nm_spare, nm_n, by decide, by decide⟩
  have s2 : okS NameOk 4 (.set y (.num 0)) := ⟨hy, by decide, by decide⟩
  cases h with
  | none => exact ⟨trivial, by decide, by decide, by decide⟩
  | spare => exact ⟨⟨s1, trivial⟩, by simp [sizL, sizS], by simp, by simp [cntL, cntS, own]⟩
  | zero => exact ⟨⟨s2, trivial⟩, by simp [sizL, sizS], by simp, by simp [cntL, cntS, own]⟩
  | both => exact ⟨⟨s1, s2, trivial⟩, by simp [sizL, sizS], by simp, by simp [cntL, cntS, own]⟩
end K29

set_option Elab.async false
set_option linter.all false
set_option maxRecDepth 100000
set_option maxHeartbeats 4000000
/-! ## the law, walked -/
namespace K29
open PySem L2 PyProof.Rows
theorem passG {X : Cx} : Passes (L2.CX X.prog X.w) X E0 := fun _ _ _ _ _ _ _ h => by
  obtain ⟨_, _, _, _, _, _, _, _, _, _, _, _, z⟩ := h
  exact False.elim z
theorem noStopG {K : PySem.W.Frag} : NoStop K E0 := fun _ _ _ h => False.elim h
theorem paired_app {α β : Type} {F : α → β → Prop} : ∀ {a c : List α} {b e : List β}, Paired F a b → Paired F c e → Paired F (a ++ c) (b ++ e)
  | _, _, _, _, .nil, g => g
  | _, _, _, _, .cons h t, g => .cons h (paired_app t g)
theorem ahead_of {y : Str} {a1 a2 : List Sm} (h1 : a1 = [] ∨ a1 = [Sm.set "spare1" (.bin true (.nam "n") (.num 5))]) (h2 : a2 = [] ∨ a2 = [Sm.set y (.num 0)]) : Ahead y (a1 ++ a2) := by
  rcases h1 with rfl | rfl <;> rcases h2 with rfl | rfl
  · exact .none
  · exact .zero
  · exact .spare
  · exact .both
theorem row_rep {H : Hp} {r : Row} {p tt hh : Addr} (h1 : H p = some (.tup [.int r.tot, .ref tt, .ref hh])) (h2 : H tt = some (.tup (r.trn.map V.int))) (h3 : H hh = some (.tup (r.hnd.map V.str))) : Rep H (encR r) (.ref p) :=
  rep_tuple.mpr ⟨p, _, rfl, h1, repl3.mpr ⟨_, _, _, rfl, rep_int.mpr rfl, rep_tuple.mpr ⟨tt, _, rfl, h2, repL_ints _⟩, rep_tuple.mpr ⟨hh, _, rfl, h3, repL_strs _⟩⟩⟩
section
variable {P : Program} {w : World} {K : PySem.W.Frag} {mg : Str → Option Value} {base : Heap}
theorem law_body (T : Txt K mg) {s : Shared} {H : Hp} {a f : Addr} {zs : List Int} {cdv : Value} (hs : SqL K H a (zs.map V.int)) (hs2 : ∀ H', Same H H' → SqL K H' a (zs.map V.int))
    (hr : Room 24 (callerA.deeper (envOfC "law" (defScope s_law) s.heap.objs.size f cdv))) :
    ∃ t, PSs (cxOf CX0 P w K mg base N_law "law" (defScope s_law) f cdv callerA [] s H fun _ _ _ => False).nox (defBody s_law) t ∧ t { nx := fun _ _ => False, rt := fun v _ => v = .bl true } (start N_law [.ref a]) H := by
  have G__law_deck := ok_deck (P := P) (w := w) (base := base) T
  have G__law_draw := ok_draw (P := P) (w := w) (base := base) T
  have G__law_names := ok_names (P := P) (w := w) (base := base) T
  have G__law_program := ok_program (P := P) (w := w) (base := base) T
  have G__law_number := ok_number (P := P) (w := w) (base := base) T
  have G__law_turns := ok_turns (P := P) (w := w) (base := base) T
  have G__law_renamed := ok_renamed (P := P) (w := w) (base := base) T 17
  have G_program_error := ok_program_error (P := P) (w := w) (base := base) T
  have G_run := ok_run (P := P) (w := w) (base := base) T
  have GG_each_run := ok_each_run (P := P) (w := w) (base := base) T
  have eB : BIG = 1099511627776 := rfl
  refine ⟨_, (pss_cons (ps_set (i := 1) sc_law.nd rfl (Or.inl rfl) (pe_call G__law_deck (hr.mono (by omega)) rfl T._law_deck.g T._law_deck.F.kp T._law_deck.B .nil pass0 (pa_cons (pv 0) pa_nil)))
      (pss_cons (ps_for PassesOwn.never rfl (pi_range1 rfl T.n_range (pa_cons pe_int pa_nil)) (pg_name (i := 2) sc_law.nd rfl (Or.inl rfl))
        (pss_cons (ps_asg (pe_tup (pa_cons (pe_call G__law_names (hr.mono (by omega)) rfl T._law_names.g T._law_names.F.kp T._law_names.B .nil pass0 (pa_cons (pv 1) pa_nil)) (pa_cons (pe_revL (pe_call G__law_names (hr.mono (by omega)) rfl T._law_names.g T._law_names.F.kp T._law_names.B .nil pass0 (pa_cons (pv 1) pa_nil))) pa_nil))) (pg_tup rfl (pgs_cons (pg_name (i := 8) sc_law.nd rfl (Or.inr rfl)) (pgs_cons (pg_name (i := 9) sc_law.nd rfl (Or.inr rfl)) pgs_nil))))
        (pss_cons (ps_set (i := 3) sc_law.nd rfl (Or.inl rfl) (pe_call G__law_program (hr.mono (by omega)) rfl T._law_program.g T._law_program.F.kp T._law_program.B .nil pass0 (pa_cons (pv 1) (pa_cons (pv 8) pa_nil))))
        (pss_cons (ps_set (i := 4) sc_law.nd rfl (Or.inl rfl) (pe_callTy (call_dictP rfl) rfl T.n_dict (by decide +kernel) (pa_cons (pe_lc (own := [("_law_k", 7)]) (g := gName 7) (tt := tYes) (te := tTup (tCons (tOp (rIxL K) (tVar 8) (tVar 7)) (tCons (tOp (rIxL K) (tVar 9) (tOp (rI0 fun i j => .int (i - j)) (tVar 7) (tC (.int 1)))) tNil))) rfl sc_law.nd (pi_range2 rfl T.n_range (pa_cons pe_int (pa_cons pe_int pa_nil))) (blkOk_by (N := N_law) (sc := defScope s_law) (by decide +kernel)) (fun _ _ _ _ _ => pg_name (i := 7) sc_law.nd rfl (Or.inl rfl)) (fun _ _ _ _ _ => pts_nil) (fun _ _ _ _ _ => (pe_tup (pa_cons (pe_ix ix_list (pv 8) (pv 7) (fun _ _ => rfl)) (pa_cons (pe_ix ix_list (pv 9) (pe_op op_sub (pv 7) pe_int) (fun _ _ => rfl)) pa_nil))))) pa_nil)))
        (pss_cons (ps_set (i := 5) sc_law.nd rfl (Or.inl rfl) (pe_call G__law_renamed (hr.mono (by omega)) rfl T._law_renamed.g T._law_renamed.F.kp T._law_renamed.B .nil pass0 (pa_cons (pv 3) (pa_cons (pv 4) pa_nil))))
        (pss_cons (ps_set (i := 6) sc_law.nd rfl (Or.inl rfl) (pe_op op_repT01 (pe_tup (pa_cons (pe_tup (pa_cons pe_str (pa_cons pe_str (pa_cons (pe_tup (pa_cons pe_str (pa_cons pe_str (pa_cons pe_int pa_nil)))) pa_nil)))) pa_nil)) (pe_call G__law_draw (hr.mono (by omega)) rfl T._law_draw.g T._law_draw.F.kp T._law_draw.B .nil pass0 (pa_cons (pv 1) (pa_cons pe_int pa_nil)))))
        (pss_cons (ps_set (i := 6) sc_law.nd rfl (Or.inl rfl) (pe_op op_catA (pv 6) (pe_op op_repT01 (pe_tup (pa_cons (pe_tup (pa_cons pe_str (pa_cons (pe_ix ix_list (pv 9) pe_int (fun _ _ => rfl)) (pa_cons pe_int pa_nil)))) pa_nil)) (pe_call G__law_draw (hr.mono (by omega)) rfl T._law_draw.g T._law_draw.F.kp T._law_draw.B .nil pass0 (pa_cons (pv 1) (pa_cons pe_int pa_nil))))))
        (pss_cons (ps_if (pt_cmpR op_notN (pe_call G_program_error (hr.mono (by omega)) rfl T.program_error.g T.program_error.F.kp T.program_error.B .nil pass0 (pa_cons (pv 5) pa_nil)) pe_non (nomark _))
          (pss_one (ps_ret pe_bl))
          pss_nil)
        (pss_cons (ps_for PassesOwn.never rfl (pi_range1 rfl T.n_range (pa_cons pe_int pa_nil)) (pg_name (i := 7) sc_law.nd rfl (Or.inl rfl))
          (pss_cons (ps_par (i := 11) (j := 12) rfl sc_law.nd rfl rfl (by decide) rfl rfl (pa_cons (pe_call G__law_number (hr.mono (by omega)) rfl T._law_number.g T._law_number.F.kp T._law_number.B .nil pass0 (pa_cons (pv 1) pa_nil)) (pa_cons (pe_call G__law_turns (hr.mono (by omega)) rfl T._law_turns.g T._law_turns.F.kp T._law_turns.B .nil pass0 (pa_cons (pv 1) pa_nil)) pa_nil)) rfl)
          (pss_cons (ps_set (i := 10) sc_law.nd rfl (Or.inl rfl) (pe_callB (call_reprD rfl hr.units) rfl T.n_repr (by decide +kernel) (pa_cons (pe_call G_run (hr.mono (by omega)) rfl T.run.g T.run.F.kp T.run.B .nil pass0 (pa_cons (pv 3) (pa_cons (pv 11) (pa_cons (pv 12) pa_nil)))) pa_nil)))
          (pss_cons (ps_if (pt_cmpR op_ne (pe_callB (call_reprD rfl hr.units) rfl T.n_repr (by decide +kernel) (pa_cons (pe_call G_run (hr.mono (by omega)) rfl T.run.g T.run.F.kp T.run.B .nil pass0 (pa_cons (pv 5) (pa_cons (pv 11) (pa_cons (pv 12) pa_nil)))) pa_nil)) (pv 10) (nomark _))
            (pss_one (ps_ret pe_bl))
            pss_nil)
          (pss_one (ps_if (PW.pt (pw_and (pt_cmpR op_isN (pe_call G_program_error (hr.mono (by omega)) rfl T.program_error.g T.program_error.F.kp T.program_error.B .nil pass0 (pa_cons (pe_op op_catA (pv 6) (pv 5)) pa_nil)) pe_non (nomark _)) (pw_and1 (pt_cmpR op_ne (pe_callB (call_reprD rfl hr.units) rfl T.n_repr (by decide +kernel) (pa_cons (pe_call G_run (hr.mono (by omega)) rfl T.run.g T.run.F.kp T.run.B .nil pass0 (pa_cons (pe_op op_catA (pv 6) (pv 5)) (pa_cons (pv 11) (pa_cons (pv 12) pa_nil)))) pa_nil)) (pv 10) (nomark _)))))
            (pss_one (ps_ret pe_bl))
            pss_nil))))))
        (pss_one (ps_if (pt_cmpR op_ne (pe_callB (call_reprD rfl hr.units) rfl T.n_repr (by decide +kernel) (pa_cons (pe_listG (pgen_call GG_each_run (hr.mono (by omega)) rfl T.each_run.g T.each_run.F.kp T.each_run.B .nil (pa_cons (pv 5) (pa_cons pe_int pa_nil))) passG noStopG (hr.mono (by omega)) rfl T.n_list (by decide +kernel)) pa_nil)) (pe_callB (call_reprD rfl hr.units) rfl T.n_repr (by decide +kernel) (pa_cons (pe_listG (pgen_call GG_each_run (hr.mono (by omega)) rfl T.each_run.g T.each_run.F.kp T.each_run.B .nil (pa_cons (pv 3) (pa_cons pe_int pa_nil))) passG noStopG (hr.mono (by omega)) rfl T.n_list (by decide +kernel)) pa_nil)) (nomark _))
          (pss_one (ps_ret pe_bl))
          pss_nil)))))))))))
      (pss_one (ps_ret pe_bl)))), ?_⟩
  refine ⟨_, rfl, a, zs, rfl, hs, hs2, fun H1 d c s1 _ _ D1 => ?_⟩
  refine ⟨6, rfl, by decide, by decide, ?_⟩
  refine for_it (walk_range (lo := 0) (n := (6 : Int).toNat)) (fun i σ H2 => (∃ o2 o3 o4 o5 o6 o7 o8 o9 o10 o11 o12 : Option V, σ = [some (.ref a), some (.ref d), o2, o3, o4, o5, o6, o7, o8, o9, o10, o11, o12]) ∧ Dk H2 d c (i * 700000))
    ⟨⟨_, _, _, _, _, _, _, _, _, _, _, rfl⟩, by rw [Nat.zero_mul]; exact D1⟩ (fun _ _ _ _ _ => trivial) ?_ ?_
  · rintro i x σ H2 H3 hi ⟨⟨o2, o3, o4, o5, o6, o7, o8, o9, o10, o11, o12, rfl⟩, D2⟩ ⟨rfl, rfl⟩
    have hi6 : i < 6 := hi
    obtain ⟨m, hm⟩ : ∃ m : Nat, m = i * 700000 := ⟨_, rfl⟩
    rw [← hm] at D2
    have hm6 : m ≤ 3500000 := by omega
    have em : m + 700000 ≤ (i + 1) * 700000 := by omega
    -- names
    refine ⟨_, rfl, d, c, _, rfl, D2, by omega, fun H4 l1 xs k4 D4 n4 h4 ok4 => ⟨_, rfl, d, c, _, rfl, D4, by omega, fun H5 l2 ys k5 D5 n5 h5 ok5 => ⟨l2, _, rfl, SqL.of h5, fun R hR => ⟨by show 2 ≤ sizeLine; decide, fun p hp => ⟨p, _, rfl, SqT.of upd_same, rfl, _, _, rfl, _, _, rfl, rfl, ?_⟩⟩⟩⟩⟩
    obtain ⟨x1, x2, x3, rfl, N1⟩ := ok4.split
    obtain ⟨y1, y2, y3, rfl, N2⟩ := ok5.split
    obtain ⟨rn, rok⟩ := ren_of N1 N2
    have nl1 := D2.new n4
    have sR := Same.new hR (.lst [.str y3, .str y2, .str y1, .str "n"])
    have sp := Same.new hp (.tup [.ref l1, .ref R])
    have W6 : Wk (upd (upd H5 R (.lst [.str y3, .str y2, .str y1, .str "n"])) p (.tup [.ref l1, .ref R])) d c l1 (m + 20 + 20) (Str.ofString "n" :: [x1, x2, x3]) :=
      ⟨(D5.sm sR).sm sp, sp _ _ (sR _ _ (k5.keep _ _ h4 (by simp [nl1]))), nl1.1, nl1.2, by show 1 ≤ 4; decide, by show 4 ≤ 1000; decide, fun x hx => by
        rcases List.mem_cons.mp hx with e | e
        · rw [e]; exact nm_n
        · exact (N1.ok x e).1⟩
    have hR6 : (upd (upd H5 R (.lst [.str y3, .str y2, .str y1, .str "n"])) p (.tup [.ref l1, .ref R])) R = some (.lst [.str y3, .str y2, .str y1, .str "n"]) := sp _ _ upd_same
    have nR : R ≠ d ∧ R ≠ c := D5.new hR
    obtain ⟨H6, eH6⟩ : ∃ H6, H6 = upd (upd H5 R (.lst [.str y3, .str y2, .str y1, .str "n"])) p (.tup [.ref l1, .ref R]) := ⟨_, rfl⟩
    rw [← eH6] at W6 hR6
    -- the program
    refine ⟨_, rfl, _, rfl, d, c, l1, _, _, rfl, eH6 ▸ W6, by omega, fun H7 v ss k7 D7 rv ov bd => ?_⟩
    replace k7 : Kp [d, c] H6 H7 := by rw [eH6]; exact k7
    clear eH6 sp sR hp hR n4 n5 h5 k5 k4 D4 D5
    have W7 := W6.next k7 W6.nin D7
    have hR7 := k7.keep _ _ hR6 (by simp [nR])
    -- the names
    refine ⟨1, 4, rfl, by decide, fun D hD => ?_⟩
    have hl7 : H7 l1 = some (.lst [.str "n", .str x1, .str x2, .str x3]) := W7.at_
    refine lc_it (walk_range (lo := 1) (n := ((4 : Int) - 1).toNat)) (fun i H8 => ∃ ps : List Addr, H8 D = some (.lst (ps.map V.ref)) ∧ ps.length = i ∧ Paired (fun p (kv : Key × V) => H8 p = some (.tup [kV kv.1, kv.2])) ps ((kvs3 x1 x2 x3 y3 y2 y1).take i) ∧ Same H7 H8)
      ⟨[], upd_same, rfl, .nil, Same.new hD _⟩ (fun _ _ _ _ => trivial) ?_ ?_
    · rintro i x Ha Hb hi ⟨ps, eD, zp, pp, s8⟩ ⟨rfl, rfl⟩
      have hi3 : i < 3 := hi
      obtain ⟨xk, zk, a1, a2, e3⟩ : ∃ xk zk : Str, atI [V.str "n", .str x1, .str x2, .str x3] (1 + (i : Int)) = some (.str xk) ∧ atI [V.str y3, .str y2, .str y1, .str "n"] (1 + (i : Int) - 1) = some (.str zk) ∧ (kvs3 x1 x2 x3 y3 y2 y1).take (i + 1) = (kvs3 x1 x2 x3 y3 y2 y1).take i ++ [(Sum.inr xk, .str zk)] := by
        rcases (by omega : i = 0 ∨ i = 1 ∨ i = 2) with e | e | e <;> subst e
        · exact ⟨x1, y3, rfl, rfl, rfl⟩
        · exact ⟨x2, y2, rfl, rfl, rfl⟩
        · exact ⟨x3, y1, rfl, rfl, rfl⟩
      refine ⟨rfl, _, rfl, _, rfl, l1, _, _, _, rfl, rfl, SqL.of (s8 _ _ hl7), a1, _, rfl, _, rfl, _, _, rfl, rfl, R, _, _, _, rfl, rfl, SqL.of (s8 _ _ hR7), a2, by show 2 ≤ sizeLine; decide, fun q hq => ?_⟩
      have sq := Same.new hq (.tup [.str xk, .str zk])
      have kq := tups_put (sq _ _ eD) (.lst (ps.map V.ref ++ [.ref q]))
      refine ⟨_, sq _ _ eD, small1000 (by rw [List.length_map]; omega), ps ++ [q], ?_, by rw [List.length_append, zp] <;> rfl, ?_, Same.put (s8.trans sq) hD _⟩
      · rw [upd_same, List.map_append] <;> rfl
      · rw [e3]
        exact paired_app (Paired.mapP pp fun _ _ h => kq _ _ (sq _ _ h)) (.cons (kq _ _ upd_same) .nil)
    rintro H8 ⟨ps, eD, _, pp, s8⟩
    refine ⟨D, ps, kvs3 x1 x2 x3 y3 y2 y1, rfl, SqL.of eD, Paired.mapP pp fun _ _ h => SqT.of h, fun D' hD' => ?_⟩
    have rD' : RenIs (upd H8 D' (.dK (mergeK [] (kvs3 x1 x2 x3 y3 y2 y1)))) D' (pmap x1 x2 x3 y3 y2 y1) := ⟨_, upd_same, merge3 N1.h12 N1.h13 N1.h23⟩
    have sD' := s8.trans (Same.new hD' (.dK (mergeK [] (kvs3 x1 x2 x3 y3 y2 y1))))
    have hN : ∀ x, x ∈ Str.ofString "n" :: [x1, x2, x3] → PyData.strOk x = true := fun x hx => nameOk_str x (W6.ok x hx)
    have sz := bd.siz
    -- later
    refine ⟨_, rfl, _, rfl, v, D', pmap x1 x2 x3 y3 y2 y1, .tuple (encL ss), rfl, rD', Rep.sm rv sD', fine_blk hN (n := 4) (by omega) (fine_L hN 4 ss ov (by omega)), by decide, fun H9 u s9 ru => ?_⟩
    rw [renD_B] at ru
    have s79 := sD'.trans s9
    have D9 := W7.D.sm s79
    have hR9 := s79 _ _ hR7
    have rv9 := Rep.sm rv s79
    clear rD' sD' pp eD hD' hD s9 s79 W7 hR7 hl7 s8 hR6 W6 k7 rv D7
    -- ahead
    apply cutC (fun (A1 : Addr) (Ha : Hp) => Kp [d, c] H9 Ha ∧ Dk Ha d c (m + 20 + 20 + 600000 + 1) ∧ ∃ a1, (a1 = [] ∨ a1 = [Sm.set "spare1" (.bin true (.nam "n") (.num 5))]) ∧ RepB Ha a1 (.ref A1))
    · intro hC
      refine ⟨by show 3 ≤ sizeLine; decide, fun p1 hp1 => ⟨by show 3 ≤ sizeLine; decide, fun p2 hp2 => ⟨by show 1 ≤ sizeLine; decide, fun p3 hp3 => ?_⟩⟩⟩
      have s1 := Same.new hp1 (.tup [.str "plus", .str "n", .int 5])
      have s2 := Same.new hp2 (.tup [.str "set", .str "spare1", .ref p1])
      have s3 := Same.new hp3 (.tup [.ref p2])
      have s13 := s1.trans (s2.trans s3)
      have q1 : RepE (upd H9 p1 (.tup [.str "plus", .str "n", .int 5])) (.bin true (.nam "n") (.num 5)) (.ref p1) := RepE.mk_bin upd_same (rep_str.mpr rfl) (rep_int.mpr rfl)
      have q2 : RepS (upd (upd H9 p1 (.tup [.str "plus", .str "n", .int 5])) p2 (.tup [.str "set", .str "spare1", .ref p1])) (.set "spare1" (.bin true (.nam "n") (.num 5))) (.ref p2) := RepS.mk_set upd_same (Rep.sm q1 s2)
      have q3 : RepB (upd (upd (upd H9 p1 (.tup [.str "plus", .str "n", .int 5])) p2 (.tup [.str "set", .str "spare1", .ref p1])) p3 (.tup [.ref p2])) [Sm.set "spare1" (.bin true (.nam "n") (.num 5))] (.ref p3) := RepB.mk upd_same (RepL.one (Rep.sm q2 s3))
      have h3 : (upd (upd (upd H9 p1 (.tup [.str "plus", .str "n", .int 5])) p2 (.tup [.str "set", .str "spare1", .ref p1])) p3 (.tup [.ref p2])) p3 = some (.tup [.ref p2]) := upd_same
      refine ⟨_, rfl, d, c, _, 2, rfl, D9.sm s13, by omega, by omega, by omega, fun Ha r ka Da r0 r1 => ?_⟩
      refine ⟨p3, r, [.ref p2], rfl, rfl, SqT.of (ka.tups _ _ h3), by simp, ?_⟩
      rcases (by omega : r = 1 ∨ r = 0) with e | e
      · exact .inl ⟨e, hC p3 Ha ⟨Same.kp s13 ka, Da, _, .inr rfl, Rep.kp q3 ka⟩⟩
      · exact .inr ⟨e, fun q hq => hC q _ ⟨(Same.kp s13 ka).trans (Kp.new hq _), Da.upd_new hq _, [], .inl rfl, rep_tuple.mpr ⟨q, [], rfl, upd_same, rfl⟩⟩⟩
    rintro A1 Ha ⟨ka, Da, a1, ha1, ra1⟩
    have hRa := ka.keep _ _ hR9 (by simp [nR])
    have la1 : a1.length ≤ 1 := by rcases ha1 with rfl | rfl <;> simp
    apply cutC (fun (z : V) (Hb : Hp) => Kp [d, c] H9 Hb ∧ Dk Hb d c (m + 20 + 20 + 600000 + 1 + 1) ∧ ∃ ah, Ahead y3 ah ∧ RepB Hb ah z)
    · intro hC
      refine ⟨_, rfl, _, rfl, R, _, 0, _, rfl, rfl, SqL.of hRa, rfl, by show 3 ≤ sizeLine; decide, fun p2 hp2 => ⟨by show 1 ≤ sizeLine; decide, fun p3 hp3 => ?_⟩⟩
      have s2 := Same.new hp2 (.tup [.str "set", .str y3, .int 0])
      have s3 := Same.new hp3 (.tup [.ref p2])
      have s23 := s2.trans s3
      have q2 : RepS (upd Ha p2 (.tup [.str "set", .str y3, .int 0])) (.set y3 (.num 0)) (.ref p2) := RepS.mk_set upd_same (rep_int.mpr rfl)
      have q3 : RepB (upd (upd Ha p2 (.tup [.str "set", .str y3, .int 0])) p3 (.tup [.ref p2])) [Sm.set y3 (.num 0)] (.ref p3) := RepB.mk upd_same (RepL.one (Rep.sm q2 s3))
      have h3 : (upd (upd Ha p2 (.tup [.str "set", .str y3, .int 0])) p3 (.tup [.ref p2])) p3 = some (.tup [.ref p2]) := upd_same
      refine ⟨_, rfl, d, c, _, 2, rfl, Da.sm s23, by omega, by omega, by omega, fun Hb r kb Db r0 r1 => ?_⟩
      refine ⟨p3, r, [.ref p2], rfl, rfl, SqT.of (kb.tups _ _ h3), by simp, ?_⟩
      have rb1 := Rep.kp (Rep.sm ra1 s23) kb
      have kab := ka.trans (Same.kp s23 kb)
      rcases (by omega : r = 1 ∨ r = 0) with e | e
      · exact .inl ⟨e, catB (a := a1) (b := [Sm.set y3 (.num 0)]) rb1 (Rep.kp q3 kb) (by show a1.length + 1 ≤ 1000; omega) fun Hc z sc rz => hC z Hc ⟨kab.trans (Kp.of_same sc), Db.sm sc, _, ahead_of ha1 (.inr rfl), rz⟩⟩
      · exact .inr ⟨e, fun q hq => catB (a := a1) (b := []) (Rep.sm rb1 (Same.new hq _)) (rep_tuple.mpr ⟨q, [], rfl, upd_same, rfl⟩) (by show a1.length + 0 ≤ 1000; omega) fun Hc z sc rz => hC z Hc ⟨kab.trans (Kp.of_same ((Same.new hq _).trans sc)), Db.sm ((Same.new hq _).trans sc), _, ahead_of ha1 (.inl rfl), rz⟩⟩
    rintro z Hb ⟨kb, Db, ah, hah, rz⟩
    have mem_n : Str.ofString "n" ∈ Str.ofString "n" :: [x1, x2, x3] := List.mem_cons_self
    have okl : okL NameOk 4 (renL (pmap x1 x2 x3 y3 y2 y1) ss) := okL_ren rok 4 ss ov
    obtain ⟨oka, sza, lna, wta⟩ := ahead_ok (N2.ok y3 (by simp)).1 hah
    have rvb := Rep.kp rv9 kb
    have rub : RepB Hb (renL (pmap x1 x2 x3 y3 y2 y1) ss) u := Rep.kp ru kb
    have szl : sizL (renL (pmap x1 x2 x3 y3 y2 y1) ss) ≤ 24 := by rw [sizL_ren]; exact sz
    have lnl := len_siz (renL (pmap x1 x2 x3 y3 y2 y1) ss)
    have w0 : cntL 0 (renL (pmap x1 x2 x3 y3 y2 y1) ss) ≤ 30 := by rw [cntL_ren]; exact bd.w
    have w1 : cntL 1 (renL (pmap x1 x2 x3 y3 y2 y1) ss) ≤ 4 := by rw [cntL_ren]; exact bd.c
    have fits : Fits (renL (pmap x1 x2 x3 y3 y2 y1) ss) := ⟨szl, w0, w1, by rw [cntL_ren]; exact bd.r, by rw [cntL_ren]; exact bd.l⟩
    clear ka Da ra1 ha1 la1 hRa rv9 ru hR9 D9
    -- program_error(later)
    refine ⟨_, rfl, u, _, rfl, rub, okl, by omega, fun Hd sd _ => ⟨rfl, _, rfl, itF (nb rfl) ?_⟩, fun Hd q sd nf => absurd fits nf⟩
    have Dd := Db.sm sd
    have rvd := Rep.sm rvb sd
    have rud := Rep.sm rub sd
    have rzd := Rep.sm rz sd
    clear kb Db rvb rub rz sd
    refine ⟨4, rfl, by decide, by decide, ?_⟩
    refine for_it (walk_range (lo := 0) (n := (4 : Int).toNat)) (fun j σ H2 => (∃ o2 o7 o10 o11 o12 : Option V, σ = [some (.ref a), some (.ref d), o2, some v, some (.ref D'), some u, some z, o7, some (.ref l1), some (.ref R), o10, o11, o12]) ∧ Kp [d, c] Hd H2 ∧ Dk H2 d c (m + 20 + 20 + 600000 + 1 + 1 + j * 20))
      ⟨⟨_, _, _, _, _, rfl⟩, Kp.refl _ _, Dd.le (by omega)⟩ (fun _ _ _ _ _ => trivial) ?_ ?_
    · rintro j x σ Hx Hy hj ⟨⟨o2, o7, o10, o11, o12, rfl⟩, kx, Dx⟩ ⟨rfl, rfl⟩
      have hj4 : j < 4 := hj
      refine ⟨_, rfl, d, c, _, rfl, Dx, by omega, fun H1 num k1 D1 hn => ⟨_, rfl, d, c, _, rfl, D1, by omega, fun H2 tp l k2 D2 ht hb => ⟨_, _, rfl, ?_⟩⟩⟩
      have kk := kx.trans (k1.trans k2)
      have sh := row_sh ov bd.w bd.c hn hb
      have rvk := Rep.kp rvd kk
      have ruk : RepB H2 (renL (pmap x1 x2 x3 y3 y2 y1) ss) u := Rep.kp rud kk
      have rzk : RepB H2 ah z := Rep.kp rzd kk
      -- the first run
      refine ⟨_, rfl, _, rfl, _, rfl, v, num, tp, l, ss, _, rfl, rvk, ov, (by have := bd.w; omega), ht, hb, fun H3 rp tt hh s3 g1 g2 g3 => ?_⟩
      refine ⟨rp, encR (runM ss num l), rfl, Rep.dp _ _ (row_rep g1 g2 g3), sh.shows, sh.flat, Nat.le_trans sh.deep (by decide), sh.len (by decide), ?_⟩
      have er : runM (renL (pmap x1 x2 x3 y3 y2 y1) ss) num l = runM ss num l := run_ren rn mem_n ov num l
      have ea : runM (ah ++ renL (pmap x1 x2 x3 y3 y2 y1) ss) num l = runM ss num l := run_ahead rn mem_n ov hah num l
      have ht3 := s3 _ _ ht
      have ru3 := Rep.sm ruk s3
      have rz3 := Rep.sm rzk s3
      have k3 := kk.trans (Kp.of_same (ms := [d, c]) s3)
      have D3 := D2.sm s3
      clear g1 g2 g3 ht rvk ruk rzk kk D1 k1 k2 kx D2 s3
      -- the second run
      refine ⟨_, rfl, _, rfl, _, rfl, u, num, tp, l, _, NameOk, rfl, ru3, okl, (by omega), ht3, hb, fun H4 rp4 tt4 hh4 s4 g1 g2 g3 => ?_⟩
      rw [er] at g1 g2 g3
      refine ⟨rp4, encR (runM ss num l), rfl, Rep.dp _ _ (row_rep g1 g2 g3), sh.shows, sh.flat, Nat.le_trans sh.deep (by decide), sh.len (by decide), ?_⟩
      refine ⟨_, rfl, rfl, false, congrArg V.bl (nb rfl), itF rfl ?_⟩
      have ht4 := s4 _ _ ht3
      have ru4 := Rep.sm ru3 s4
      have rz4 := Rep.sm rz3 s4
      have k4 := k3.trans (Kp.of_same (ms := [d, c]) s4)
      have D4 := D3.sm s4
      clear g1 g2 g3 ht3 ru3 rz3 k3 D3 s4
      -- with names ahead
      have lz : ah.length + (renL (pmap x1 x2 x3 y3 y2 y1) ss).length ≤ 1000 := by omega
      refine ⟨_, rfl, _, rfl, catB rz4 ru4 lz fun H5 w5 s5 rw5 => ?_⟩
      have ht5 := s5 _ _ ht4
      have ru5 := Rep.sm ru4 s5
      have rz5 := Rep.sm rz4 s5
      have k5 := k4.trans (Kp.of_same (ms := [d, c]) s5)
      have D5 := D4.sm s5
      refine ⟨w5, _, rfl, rw5, okL_append oka okl, (by rw [sizL_append]; omega), fun H6 s6 _ => ⟨rfl, _, rfl, itT (by decide) ?_⟩, fun H6 q6 s6 _ => ⟨rfl, _, rfl, itF (decide_eq_false fun z => by cases z) (itF rfl ?_)⟩⟩
      · have ht6 := s6 _ _ ht5
        refine ⟨_, rfl, _, rfl, catB (Rep.sm rz5 s6) (Rep.sm ru5 s6) lz fun H7 w7 s7 rw7 => ?_⟩
        refine ⟨_, rfl, _, rfl, w7, num, tp, l, _, NameOk, rfl, rw7, okL_append oka okl, (by rw [cntL_append]; omega), s7 _ _ ht6, hb, fun H8 rp8 tt8 hh8 s8 g1 g2 g3 => ?_⟩
        rw [ea] at g1 g2 g3
        refine ⟨rp8, encR (runM ss num l), rfl, Rep.dp _ _ (row_rep g1 g2 g3), sh.shows, sh.flat, Nat.le_trans sh.deep (by decide), sh.len (by decide), ?_⟩
        refine ⟨_, rfl, rfl, false, congrArg V.bl (nb rfl), itF rfl ?_⟩
        have s68 := s6.trans (s7.trans s8)
        exact ⟨⟨_, _, _, _, _, rfl⟩, k5.trans (Kp.of_same s68), (D5.sm s68).le (by omega)⟩
      · exact ⟨⟨_, _, _, _, _, rfl⟩, k5.trans (Kp.of_same s6), (D5.sm s6).le (by omega)⟩
    · rintro σ Hx ⟨⟨o2, o7, o10, o11, o12, rfl⟩, kx, Dx⟩
      have rvx := Rep.kp rvd kx
      have rux : RepB Hx (renL (pmap x1 x2 x3 y3 y2 y1) ss) u := Rep.kp rud kx
      have sh := all_sh (num := 3) ov bd.w bd.c (by decide +kernel)
      have ea : allRuns (renL (pmap x1 x2 x3 y3 y2 y1) ss) 3 = allRuns ss 3 := all_ren rn mem_n ov 3
      refine ⟨_, rfl, u, 3, _, NameOk, rfl, rux, okl, (by omega), (by omega), fun H1 xs1 s1 r1 q1 hq1 => ?_⟩
      rw [ea] at r1
      have s2 := Same.new hq1 (.lst xs1)
      refine ⟨q1, .list ((allRuns ss 3).map encR), rfl, .lst (SqL.of upd_same) (RepL.dp _ _ (RepL.sm r1 s2)), sh.shows, sh.flat, Nat.le_trans sh.deep (by decide), sh.len (by decide), ?_⟩
      have s12 := s1.trans s2
      refine ⟨_, rfl, v, 3, ss, _, rfl, Rep.sm rvx s12, ov, (by have := bd.w; omega), bd.c, fun H3 xs3 s3 r3 q3 hq3 => ?_⟩
      have s4 := Same.new hq3 (.lst xs3)
      refine ⟨q3, .list ((allRuns ss 3).map encR), rfl, .lst (SqL.of upd_same) (RepL.dp _ _ (RepL.sm r3 s4)), sh.shows, sh.flat, Nat.le_trans sh.deep (by decide), sh.len (by decide), ?_⟩
      refine ⟨rfl, false, congrArg V.bl (nb rfl), itF rfl ?_⟩
      exact ⟨⟨_, _, _, _, _, _, _, _, _, _, _, rfl⟩, (Dx.sm (s12.trans (s3.trans s4))).le (by omega)⟩
  · rintro σ H2 ⟨⟨o2, o3, o4, o5, o6, o7, o8, o9, o10, o11, o12, rfl⟩, D2⟩
    exact (rfl : V.bl true = V.bl true)
end
end K29

set_option Elab.async false
set_option linter.all false
set_option maxRecDepth 100000
set_option maxHeartbeats 4000000
/-! ## what the top leaves, as one structure; the law's walk -/
namespace K29
open PySem L2 PyProof.Rows
theorem txt_mk {K : PySem.W.Frag} {h : Heap} {mg : Str → Option Value} (X : K.In h) (G : h.Ns mainGlobals mg)
    {f1 : Addr} {od1 an1 : Option Addr} {sl1 : Array (Option Value)} {oc1 kV1 dc1 pm1 cd1 ct1 : Value}
    {f2 : Addr} {od2 an2 : Option Addr} {sl2 : Array (Option Value)} {oc2 kV2 dc2 pm2 cd2 ct2 : Value}
    {f3 : Addr} {od3 an3 : Option Addr} {sl3 : Array (Option Value)} {oc3 kV3 dc3 pm3 cd3 ct3 : Value}
    {f4 : Addr} {od4 an4 : Option Addr} {sl4 : Array (Option Value)} {oc4 kV4 dc4 pm4 cd4 ct4 : Value}
    {f5 : Addr} {od5 an5 : Option Addr} {sl5 : Array (Option Value)} {oc5 kV5 dc5 pm5 cd5 ct5 : Value}
    {f6 : Addr} {od6 an6 : Option Addr} {sl6 : Array (Option Value)} {oc6 kV6 dc6 pm6 cd6 ct6 : Value}
    {f7 : Addr} {od7 an7 : Option Addr} {sl7 : Array (Option Value)} {oc7 kV7 dc7 pm7 cd7 ct7 : Value}
    {f8 : Addr} {od8 an8 : Option Addr} {sl8 : Array (Option Value)} {oc8 kV8 dc8 pm8 cd8 ct8 : Value}
    {f9 : Addr} {od9 an9 : Option Addr} {sl9 : Array (Option Value)} {oc9 kV9 dc9 pm9 cd9 ct9 : Value}
    {f10 : Addr} {od10 an10 : Option Addr} {sl10 : Array (Option Value)} {oc10 kV10 dc10 pm10 cd10 ct10 : Value}
    {f11 : Addr} {od11 an11 : Option Addr} {sl11 : Array (Option Value)} {oc11 kV11 dc11 pm11 cd11 ct11 : Value}
    {f12 : Addr} {od12 an12 : Option Addr} {sl12 : Array (Option Value)} {oc12 kV12 dc12 pm12 cd12 ct12 : Value}
    {f13 : Addr} {od13 an13 : Option Addr} {sl13 : Array (Option Value)} {oc13 kV13 dc13 pm13 cd13 ct13 : Value}
    {f14 : Addr} {od14 an14 : Option Addr} {sl14 : Array (Option Value)} {oc14 kV14 dc14 pm14 cd14 ct14 : Value}
    {f15 : Addr} {od15 an15 : Option Addr} {sl15 : Array (Option Value)} {oc15 kV15 dc15 pm15 cd15 ct15 : Value}
    {f16 : Addr} {od16 an16 : Option Addr} {sl16 : Array (Option Value)} {oc16 kV16 dc16 pm16 cd16 ct16 : Value}
    {f17 : Addr} {od17 an17 : Option Addr} {sl17 : Array (Option Value)} {oc17 kV17 dc17 pm17 cd17 ct17 : Value}
    {f18 : Addr} {od18 an18 : Option Addr} {sl18 : Array (Option Value)} {oc18 kV18 dc18 pm18 cd18 ct18 : Value}
    {f19 : Addr} {od19 an19 : Option Addr} {sl19 : Array (Option Value)} {oc19 kV19 dc19 pm19 cd19 ct19 : Value}
    {f20 : Addr} {od20 an20 : Option Addr} {sl20 : Array (Option Value)} {oc20 kV20 dc20 pm20 cd20 ct20 : Value}
    {f21 : Addr} {od21 an21 : Option Addr} {sl21 : Array (Option Value)} {oc21 kV21 dc21 pm21 cd21 ct21 : Value}
    {f22 : Addr} {od22 an22 : Option Addr} {sl22 : Array (Option Value)} {oc22 kV22 dc22 pm22 cd22 ct22 : Value}
    {f23 : Addr} {od23 an23 : Option Addr} {sl23 : Array (Option Value)} {oc23 kV23 dc23 pm23 cd23 ct23 : Value}
    {f24 : Addr} {od24 an24 : Option Addr} {sl24 : Array (Option Value)} {oc24 kV24 dc24 pm24 cd24 ct24 : Value}
    {f25 : Addr} {od25 an25 : Option Addr} {sl25 : Array (Option Value)} {oc25 kV25 dc25 pm25 cd25 ct25 : Value}
    {f26 : Addr} {od26 an26 : Option Addr} {sl26 : Array (Option Value)} {oc26 kV26 dc26 pm26 cd26 ct26 : Value}
    {f27 : Addr} {od27 an27 : Option Addr} {sl27 : Array (Option Value)} {oc27 kV27 dc27 pm27 cd27 ct27 : Value}
    {f28 : Addr} {od28 an28 : Option Addr} {sl28 : Array (Option Value)} {oc28 kV28 dc28 pm28 cd28 ct28 : Value}
    {f29 : Addr} {od29 an29 : Option Addr} {sl29 : Array (Option Value)} {oc29 kV29 dc29 pm29 cd29 ct29 : Value}
    {f30 : Addr} {od30 an30 : Option Addr} {sl30 : Array (Option Value)} {oc30 kV30 dc30 pm30 cd30 ct30 : Value}
    {f31 : Addr} {od31 an31 : Option Addr} {sl31 : Array (Option Value)} {oc31 kV31 dc31 pm31 cd31 ct31 : Value}
    {f32 : Addr} {od32 an32 : Option Addr} {sl32 : Array (Option Value)} {oc32 kV32 dc32 pm32 cd32 ct32 : Value}
    {f33 : Addr} {od33 an33 : Option Addr} {sl33 : Array (Option Value)} {oc33 kV33 dc33 pm33 cd33 ct33 : Value}
    {f34 : Addr} {od34 an34 : Option Addr} {sl34 : Array (Option Value)} {oc34 kV34 dc34 pm34 cd34 ct34 : Value}
    {f35 : Addr} {od35 an35 : Option Addr} {sl35 : Array (Option Value)} {oc35 kV35 dc35 pm35 cd35 ct35 : Value}
    {f36 : Addr} {od36 an36 : Option Addr} {sl36 : Array (Option Value)} {oc36 kV36 dc36 pm36 cd36 ct36 : Value}
    {C : Addr}
    {f37 : Addr} {od37 an37 : Option Addr} {sl37 : Array (Option Value)} {oc37 kV37 dc37 pm37 cd37 ct37 : Value}
    {f38 : Addr} {od38 an38 : Option Addr} {sl38 : Array (Option Value)} {oc38 kV38 dc38 pm38 cd38 ct38 : Value}
    {f39 : Addr} {od39 an39 : Option Addr} {sl39 : Array (Option Value)} {oc39 kV39 dc39 pm39 cd39 ct39 : Value}
    {f40 : Addr} {od40 an40 : Option Addr} {sl40 : Array (Option Value)} {oc40 kV40 dc40 pm40 cd40 ct40 : Value}
    {f41 : Addr} {od41 an41 : Option Addr} {sl41 : Array (Option Value)} {oc41 kV41 dc41 pm41 cd41 ct41 : Value}
    {t_MAX_NAME : Tok}
    {t_MAX_TIMES : Tok}
    {t_MAX_DEEP : Tok}
    {t_MAX_NOTS : Tok}
    {t_MAX_BY : Tok}
    {t_MAX_PLACES : Tok}
    {t_MAX_WEIGHT : Tok}
    {t_MAX_CHOICES : Tok}
    {t_MAX_RESTS : Tok}
    {t_MAX_COMPARINGS : Tok}
    {t_MAX_NEST : Tok}
    {t_MOST_NUMBER : Tok}
    {t_MOST_FACTOR : Tok}
    {t_FIRST : Tok}
    {t_LETTERS : Tok}
    {t_SIGNS : Tok}
    {t_INPUT : Tok}
    {a_KEPT : Addr} {d_KEPT : Option Addr} {n_KEPT' : Nat} {s_KEPT : Array (Option Value)} {t_KEPT0 t_KEPT1 t_KEPT2 t_KEPT3 t_KEPT4 t_KEPT5 t_KEPT6 t_KEPT7 t_KEPT8 t_KEPT9 t_KEPT10 t_KEPT11 t_KEPT12 t_KEPT13 : Tok}
    {a_CHOICES : Addr} {d_CHOICES : Option Addr} {n_CHOICES' : Nat} {s_CHOICES : Array (Option Value)} {t_CHOICES0 t_CHOICES1 : Tok}
    (a1 : PySem.W.nsIn K mainGlobals "is_whole" = some (some (.ref f1)))
    (l1 : K.lookup f1 = some ⟨oc1, od1, .func (PySem.W.fnOf "is_whole" "is_whole" (defArgs s_is_whole) (defBody s_is_whole) (defScope s_is_whole) .none kV1 dc1 pm1 an1 cd1 ct1), sl1⟩)
    (c1 : PySem.W.codeIn K cd1 "is_whole" = true)
    (k1 : PySem.W.keepIn K (.ref f1) = true)
    (a2 : PySem.W.nsIn K mainGlobals "is_name" = some (some (.ref f2)))
    (l2 : K.lookup f2 = some ⟨oc2, od2, .func (PySem.W.fnOf "is_name" "is_name" (defArgs s_is_name) (defBody s_is_name) (defScope s_is_name) .none kV2 dc2 pm2 an2 cd2 ct2), sl2⟩)
    (c2 : PySem.W.codeIn K cd2 "is_name" = true)
    (k2 : PySem.W.keepIn K (.ref f2) = true)
    (a3 : PySem.W.nsIn K mainGlobals "is_expression" = some (some (.ref f3)))
    (l3 : K.lookup f3 = some ⟨oc3, od3, .func (PySem.W.fnOf "is_expression" "is_expression" (defArgs s_is_expression) (defBody s_is_expression) (defScope s_is_expression) .none kV3 dc3 pm3 an3 cd3 ct3), sl3⟩)
    (c3 : PySem.W.codeIn K cd3 "is_expression" = true)
    (k3 : PySem.W.keepIn K (.ref f3) = true)
    (a4 : PySem.W.nsIn K mainGlobals "is_rest" = some (some (.ref f4)))
    (l4 : K.lookup f4 = some ⟨oc4, od4, .func (PySem.W.fnOf "is_rest" "is_rest" (defArgs s_is_rest) (defBody s_is_rest) (defScope s_is_rest) .none kV4 dc4 pm4 an4 cd4 ct4), sl4⟩)
    (c4 : PySem.W.codeIn K cd4 "is_rest" = true)
    (k4 : PySem.W.keepIn K (.ref f4) = true)
    (a5 : PySem.W.nsIn K mainGlobals "is_test" = some (some (.ref f5)))
    (l5 : K.lookup f5 = some ⟨oc5, od5, .func (PySem.W.fnOf "is_test" "is_test" (defArgs s_is_test) (defBody s_is_test) (defScope s_is_test) .none kV5 dc5 pm5 an5 cd5 ct5), sl5⟩)
    (c5 : PySem.W.codeIn K cd5 "is_test" = true)
    (k5 : PySem.W.keepIn K (.ref f5) = true)
    (a6 : PySem.W.nsIn K mainGlobals "are_blocks" = some (some (.ref f6)))
    (l6 : K.lookup f6 = some ⟨oc6, od6, .func (PySem.W.fnOf "are_blocks" "are_blocks" (defArgs s_are_blocks) (defBody s_are_blocks) (defScope s_are_blocks) .none kV6 dc6 pm6 an6 cd6 ct6), sl6⟩)
    (c6 : PySem.W.codeIn K cd6 "are_blocks" = true)
    (k6 : PySem.W.keepIn K (.ref f6) = true)
    (a7 : PySem.W.nsIn K mainGlobals "is_statement" = some (some (.ref f7)))
    (l7 : K.lookup f7 = some ⟨oc7, od7, .func (PySem.W.fnOf "is_statement" "is_statement" (defArgs s_is_statement) (defBody s_is_statement) (defScope s_is_statement) .none kV7 dc7 pm7 an7 cd7 ct7), sl7⟩)
    (c7 : PySem.W.codeIn K cd7 "is_statement" = true)
    (k7 : PySem.W.keepIn K (.ref f7) = true)
    (a8 : PySem.W.nsIn K mainGlobals "blocks_of" = some (some (.ref f8)))
    (l8 : K.lookup f8 = some ⟨oc8, od8, .func (PySem.W.fnOf "blocks_of" "blocks_of" (defArgs s_blocks_of) (defBody s_blocks_of) (defScope s_blocks_of) .none kV8 dc8 pm8 an8 cd8 ct8), sl8⟩)
    (c8 : PySem.W.codeIn K cd8 "blocks_of" = true)
    (k8 : PySem.W.keepIn K (.ref f8) = true)
    (a9 : PySem.W.nsIn K mainGlobals "items_within" = some (some (.ref f9)))
    (l9 : K.lookup f9 = some ⟨oc9, od9, .func (PySem.W.fnOf "items_within" "items_within" (defArgs s_items_within) (defBody s_items_within) (defScope s_items_within) .none kV9 dc9 pm9 an9 cd9 ct9), sl9⟩)
    (c9 : PySem.W.codeIn K cd9 "items_within" = true)
    (k9 : PySem.W.keepIn K (.ref f9) = true)
    (a10 : PySem.W.nsIn K mainGlobals "rows_of" = some (some (.ref f10)))
    (l10 : K.lookup f10 = some ⟨oc10, od10, .func (PySem.W.fnOf "rows_of" "rows_of" (defArgs s_rows_of) (defBody s_rows_of) (defScope s_rows_of) .none kV10 dc10 pm10 an10 cd10 ct10), sl10⟩)
    (c10 : PySem.W.codeIn K cd10 "rows_of" = true)
    (k10 : PySem.W.keepIn K (.ref f10) = true)
    (a11 : PySem.W.nsIn K mainGlobals "order_error" = some (some (.ref f11)))
    (l11 : K.lookup f11 = some ⟨oc11, od11, .func (PySem.W.fnOf "order_error" "order_error" (defArgs s_order_error) (defBody s_order_error) (defScope s_order_error) .none kV11 dc11 pm11 an11 cd11 ct11), sl11⟩)
    (c11 : PySem.W.codeIn K cd11 "order_error" = true)
    (k11 : PySem.W.keepIn K (.ref f11) = true)
    (a12 : PySem.W.nsIn K mainGlobals "bare" = some (some (.ref f12)))
    (l12 : K.lookup f12 = some ⟨oc12, od12, .func (PySem.W.fnOf "bare" "bare" (defArgs s_bare) (defBody s_bare) (defScope s_bare) .none kV12 dc12 pm12 an12 cd12 ct12), sl12⟩)
    (c12 : PySem.W.codeIn K cd12 "bare" = true)
    (k12 : PySem.W.keepIn K (.ref f12) = true)
    (a13 : PySem.W.nsIn K mainGlobals "own_count" = some (some (.ref f13)))
    (l13 : K.lookup f13 = some ⟨oc13, od13, .func (PySem.W.fnOf "own_count" "own_count" (defArgs s_own_count) (defBody s_own_count) (defScope s_own_count) .none kV13 dc13 pm13 an13 cd13 ct13), sl13⟩)
    (c13 : PySem.W.codeIn K cd13 "own_count" = true)
    (k13 : PySem.W.keepIn K (.ref f13) = true)
    (a14 : PySem.W.nsIn K mainGlobals "counted" = some (some (.ref f14)))
    (l14 : K.lookup f14 = some ⟨oc14, od14, .func (PySem.W.fnOf "counted" "counted" (defArgs s_counted) (defBody s_counted) (defScope s_counted) .none kV14 dc14 pm14 an14 cd14 ct14), sl14⟩)
    (c14 : PySem.W.codeIn K cd14 "counted" = true)
    (k14 : PySem.W.keepIn K (.ref f14) = true)
    (a15 : PySem.W.nsIn K mainGlobals "weight" = some (some (.ref f15)))
    (l15 : K.lookup f15 = some ⟨oc15, od15, .func (PySem.W.fnOf "weight" "weight" (defArgs s_weight) (defBody s_weight) (defScope s_weight) .none kV15 dc15 pm15 an15 cd15 ct15), sl15⟩)
    (c15 : PySem.W.codeIn K cd15 "weight" = true)
    (k15 : PySem.W.keepIn K (.ref f15) = true)
    (a16 : PySem.W.nsIn K mainGlobals "program_error" = some (some (.ref f16)))
    (l16 : K.lookup f16 = some ⟨oc16, od16, .func (PySem.W.fnOf "program_error" "program_error" (defArgs s_program_error) (defBody s_program_error) (defScope s_program_error) .none kV16 dc16 pm16 an16 cd16 ct16), sl16⟩)
    (c16 : PySem.W.codeIn K cd16 "program_error" = true)
    (k16 : PySem.W.keepIn K (.ref f16) = true)
    (a17 : PySem.W.nsIn K mainGlobals "value_of" = some (some (.ref f17)))
    (l17 : K.lookup f17 = some ⟨oc17, od17, .func (PySem.W.fnOf "value_of" "value_of" (defArgs s_value_of) (defBody s_value_of) (defScope s_value_of) .none kV17 dc17 pm17 an17 cd17 ct17), sl17⟩)
    (c17 : PySem.W.codeIn K cd17 "value_of" = true)
    (k17 : PySem.W.keepIn K (.ref f17) = true)
    (a18 : PySem.W.nsIn K mainGlobals "is_true" = some (some (.ref f18)))
    (l18 : K.lookup f18 = some ⟨oc18, od18, .func (PySem.W.fnOf "is_true" "is_true" (defArgs s_is_true) (defBody s_is_true) (defScope s_is_true) .none kV18 dc18 pm18 an18 cd18 ct18), sl18⟩)
    (c18 : PySem.W.codeIn K cd18 "is_true" = true)
    (k18 : PySem.W.keepIn K (.ref f18) = true)
    (a19 : PySem.W.nsIn K mainGlobals "run" = some (some (.ref f19)))
    (l19 : K.lookup f19 = some ⟨oc19, od19, .func (PySem.W.fnOf "run" "run" (defArgs s_run) (defBody s_run) (defScope s_run) .none kV19 dc19 pm19 an19 cd19 ct19), sl19⟩)
    (c19 : PySem.W.codeIn K cd19 "run" = true)
    (k19 : PySem.W.keepIn K (.ref f19) = true)
    (a20 : PySem.W.nsIn K mainGlobals "next_turns" = some (some (.ref f20)))
    (l20 : K.lookup f20 = some ⟨oc20, od20, .func (PySem.W.fnOf "next_turns" "next_turns" (defArgs s_next_turns) (defBody s_next_turns) (defScope s_next_turns) .none kV20 dc20 pm20 an20 cd20 ct20), sl20⟩)
    (c20 : PySem.W.codeIn K cd20 "next_turns" = true)
    (k20 : PySem.W.keepIn K (.ref f20) = true)
    (a21 : PySem.W.nsIn K mainGlobals "runs_on" = some (some (.ref f21)))
    (l21 : K.lookup f21 = some ⟨oc21, od21, .func (PySem.W.fnOf "runs_on" "runs_on" (defArgs s_runs_on) (defBody s_runs_on) (defScope s_runs_on) .none kV21 dc21 pm21 an21 cd21 ct21), sl21⟩)
    (c21 : PySem.W.codeIn K cd21 "runs_on" = true)
    (k21 : PySem.W.keepIn K (.ref f21) = true)
    (a22 : PySem.W.nsIn K mainGlobals "each_run" = some (some (.ref f22)))
    (l22 : K.lookup f22 = some ⟨oc22, od22, .func (PySem.W.fnOf "each_run" "each_run" (defArgs s_each_run) (defBody s_each_run) (defScope s_each_run) .none kV22 dc22 pm22 an22 cd22 ct22), sl22⟩)
    (c22 : PySem.W.codeIn K cd22 "each_run" = true)
    (k22 : PySem.W.keepIn K (.ref f22) = true)
    (a23 : PySem.W.nsIn K mainGlobals "_law_deck" = some (some (.ref f23)))
    (l23 : K.lookup f23 = some ⟨oc23, od23, .func (PySem.W.fnOf "_law_deck" "_law_deck" (defArgs s__law_deck) (defBody s__law_deck) (defScope s__law_deck) .none kV23 dc23 pm23 an23 cd23 ct23), sl23⟩)
    (c23 : PySem.W.codeIn K cd23 "_law_deck" = true)
    (k23 : PySem.W.keepIn K (.ref f23) = true)
    (a24 : PySem.W.nsIn K mainGlobals "_law_draw" = some (some (.ref f24)))
    (l24 : K.lookup f24 = some ⟨oc24, od24, .func (PySem.W.fnOf "_law_draw" "_law_draw" (defArgs s__law_draw) (defBody s__law_draw) (defScope s__law_draw) .none kV24 dc24 pm24 an24 cd24 ct24), sl24⟩)
    (c24 : PySem.W.codeIn K cd24 "_law_draw" = true)
    (k24 : PySem.W.keepIn K (.ref f24) = true)
    (a25 : PySem.W.nsIn K mainGlobals "_law_one" = some (some (.ref f25)))
    (l25 : K.lookup f25 = some ⟨oc25, od25, .func (PySem.W.fnOf "_law_one" "_law_one" (defArgs s__law_one) (defBody s__law_one) (defScope s__law_one) .none kV25 dc25 pm25 an25 cd25 ct25), sl25⟩)
    (c25 : PySem.W.codeIn K cd25 "_law_one" = true)
    (k25 : PySem.W.keepIn K (.ref f25) = true)
    (a26 : PySem.W.nsIn K mainGlobals "_law_names" = some (some (.ref f26)))
    (l26 : K.lookup f26 = some ⟨oc26, od26, .func (PySem.W.fnOf "_law_names" "_law_names" (defArgs s__law_names) (defBody s__law_names) (defScope s__law_names) .none kV26 dc26 pm26 an26 cd26 ct26), sl26⟩)
    (c26 : PySem.W.codeIn K cd26 "_law_names" = true)
    (k26 : PySem.W.keepIn K (.ref f26) = true)
    (a27 : PySem.W.nsIn K mainGlobals "_law_expression" = some (some (.ref f27)))
    (l27 : K.lookup f27 = some ⟨oc27, od27, .func (PySem.W.fnOf "_law_expression" "_law_expression" (defArgs s__law_expression) (defBody s__law_expression) (defScope s__law_expression) .none kV27 dc27 pm27 an27 cd27 ct27), sl27⟩)
    (c27 : PySem.W.codeIn K cd27 "_law_expression" = true)
    (k27 : PySem.W.keepIn K (.ref f27) = true)
    (a28 : PySem.W.nsIn K mainGlobals "_law_test" = some (some (.ref f28)))
    (l28 : K.lookup f28 = some ⟨oc28, od28, .func (PySem.W.fnOf "_law_test" "_law_test" (defArgs s__law_test) (defBody s__law_test) (defScope s__law_test) .none kV28 dc28 pm28 an28 cd28 ct28), sl28⟩)
    (c28 : PySem.W.codeIn K cd28 "_law_test" = true)
    (k28 : PySem.W.keepIn K (.ref f28) = true)
    (a29 : PySem.W.nsIn K mainGlobals "_law_plain" = some (some (.ref f29)))
    (l29 : K.lookup f29 = some ⟨oc29, od29, .func (PySem.W.fnOf "_law_plain" "_law_plain" (defArgs s__law_plain) (defBody s__law_plain) (defScope s__law_plain) .none kV29 dc29 pm29 an29 cd29 ct29), sl29⟩)
    (c29 : PySem.W.codeIn K cd29 "_law_plain" = true)
    (k29 : PySem.W.keepIn K (.ref f29) = true)
    (a30 : PySem.W.nsIn K mainGlobals "_law_row" = some (some (.ref f30)))
    (l30 : K.lookup f30 = some ⟨oc30, od30, .func (PySem.W.fnOf "_law_row" "_law_row" (defArgs s__law_row) (defBody s__law_row) (defScope s__law_row) .none kV30 dc30 pm30 an30 cd30 ct30), sl30⟩)
    (c30 : PySem.W.codeIn K cd30 "_law_row" = true)
    (k30 : PySem.W.keepIn K (.ref f30) = true)
    (a31 : PySem.W.nsIn K mainGlobals "_law_block" = some (some (.ref f31)))
    (l31 : K.lookup f31 = some ⟨oc31, od31, .func (PySem.W.fnOf "_law_block" "_law_block" (defArgs s__law_block) (defBody s__law_block) (defScope s__law_block) .none kV31 dc31 pm31 an31 cd31 ct31), sl31⟩)
    (c31 : PySem.W.codeIn K cd31 "_law_block" = true)
    (k31 : PySem.W.keepIn K (.ref f31) = true)
    (a32 : PySem.W.nsIn K mainGlobals "_law_program" = some (some (.ref f32)))
    (l32 : K.lookup f32 = some ⟨oc32, od32, .func (PySem.W.fnOf "_law_program" "_law_program" (defArgs s__law_program) (defBody s__law_program) (defScope s__law_program) .none kV32 dc32 pm32 an32 cd32 ct32), sl32⟩)
    (c32 : PySem.W.codeIn K cd32 "_law_program" = true)
    (k32 : PySem.W.keepIn K (.ref f32) = true)
    (a33 : PySem.W.nsIn K mainGlobals "_law_number" = some (some (.ref f33)))
    (l33 : K.lookup f33 = some ⟨oc33, od33, .func (PySem.W.fnOf "_law_number" "_law_number" (defArgs s__law_number) (defBody s__law_number) (defScope s__law_number) .none kV33 dc33 pm33 an33 cd33 ct33), sl33⟩)
    (c33 : PySem.W.codeIn K cd33 "_law_number" = true)
    (k33 : PySem.W.keepIn K (.ref f33) = true)
    (a34 : PySem.W.nsIn K mainGlobals "_law_turns" = some (some (.ref f34)))
    (l34 : K.lookup f34 = some ⟨oc34, od34, .func (PySem.W.fnOf "_law_turns" "_law_turns" (defArgs s__law_turns) (defBody s__law_turns) (defScope s__law_turns) .none kV34 dc34 pm34 an34 cd34 ct34), sl34⟩)
    (c34 : PySem.W.codeIn K cd34 "_law_turns" = true)
    (k34 : PySem.W.keepIn K (.ref f34) = true)
    (a35 : PySem.W.nsIn K mainGlobals "_law_renamed" = some (some (.ref f35)))
    (l35 : K.lookup f35 = some ⟨oc35, od35, .func (PySem.W.fnOf "_law_renamed" "_law_renamed" (defArgs s__law_renamed) (defBody s__law_renamed) (defScope s__law_renamed) .none kV35 dc35 pm35 an35 cd35 ct35), sl35⟩)
    (c35 : PySem.W.codeIn K cd35 "_law_renamed" = true)
    (k35 : PySem.W.keepIn K (.ref f35) = true)
    (a36 : PySem.W.nsIn K mainGlobals "law" = some (some (.ref f36)))
    (l36 : K.lookup f36 = some ⟨oc36, od36, .func (PySem.W.fnOf "law" "law" (defArgs s_law) (defBody s_law) (defScope s_law) .none kV36 dc36 pm36 an36 cd36 ct36), sl36⟩)
    (c36 : PySem.W.codeIn K cd36 "law" = true)
    (k36 : PySem.W.keepIn K (.ref f36) = true)
    (aC : PySem.W.nsIn K mainGlobals "Course" = some (some (.ref C)))
    (a37 : PySem.W.findIn K (.ref C) "__init__" = some (some (.ref f37)))
    (i37 : PySem.W.isFn K (.ref f37) = true)
    (l37 : K.lookup f37 = some ⟨oc37, od37, .func (PySem.W.fnOf "__init__" "Course.__init__" (defArgs s_init) (defBody s_init) (defScope s_init) .none kV37 dc37 pm37 an37 cd37 ct37), sl37⟩)
    (c37 : PySem.W.codeIn K cd37 "Course.__init__" = true)
    (k37 : PySem.W.keepIn K (.ref f37) = true)
    (a38 : PySem.W.findIn K (.ref C) "choice" = some (some (.ref f38)))
    (i38 : PySem.W.isFn K (.ref f38) = true)
    (l38 : K.lookup f38 = some ⟨oc38, od38, .func (PySem.W.fnOf "choice" "Course.choice" (defArgs s_choice) (defBody s_choice) (defScope s_choice) .none kV38 dc38 pm38 an38 cd38 ct38), sl38⟩)
    (c38 : PySem.W.codeIn K cd38 "Course.choice" = true)
    (k38 : PySem.W.keepIn K (.ref f38) = true)
    (a39 : PySem.W.findIn K (.ref C) "parts" = some (some (.ref f39)))
    (i39 : PySem.W.isFn K (.ref f39) = true)
    (l39 : K.lookup f39 = some ⟨oc39, od39, .func (PySem.W.fnOf "parts" "Course.parts" (defArgs s_parts) (defBody s_parts) (defScope s_parts) .none kV39 dc39 pm39 an39 cd39 ct39), sl39⟩)
    (c39 : PySem.W.codeIn K cd39 "Course.parts" = true)
    (k39 : PySem.W.keepIn K (.ref f39) = true)
    (a40 : PySem.W.findIn K (.ref C) "do" = some (some (.ref f40)))
    (i40 : PySem.W.isFn K (.ref f40) = true)
    (l40 : K.lookup f40 = some ⟨oc40, od40, .func (PySem.W.fnOf "do" "Course.do" (defArgs s_mdo) (defBody s_mdo) (defScope s_mdo) .none kV40 dc40 pm40 an40 cd40 ct40), sl40⟩)
    (c40 : PySem.W.codeIn K cd40 "Course.do" = true)
    (k40 : PySem.W.keepIn K (.ref f40) = true)
    (a41 : PySem.W.findIn K (.ref C) "go" = some (some (.ref f41)))
    (i41 : PySem.W.isFn K (.ref f41) = true)
    (l41 : K.lookup f41 = some ⟨oc41, od41, .func (PySem.W.fnOf "go" "Course.go" (defArgs s_go) (defBody s_go) (defScope s_go) .none kV41 dc41 pm41 an41 cd41 ct41), sl41⟩)
    (c41 : PySem.W.codeIn K cd41 "Course.go" = true)
    (k41 : PySem.W.keepIn K (.ref f41) = true)
    (pg : PySem.W.plainGet K C Str.empty = true)
    (hd : PySem.W.hasDictIn K C = true)
    (po : PySem.W.plainOver K C = true)
    (sa : PySem.W.findIn K (.ref C) "__setattr__" = some (some (.builtin "object.__setattr__")))
    (mk : PySem.W.makesIn K C = true)
    (kc : PySem.W.keepIn K (.ref C) = true)
    (n_names : PySem.W.findIn K (.ref C) "names" = some none)
    (n_total : PySem.W.findIn K (.ref C) "total" = some none)
    (n_turns : PySem.W.findIn K (.ref C) "turns" = some none)
    (n_hands : PySem.W.findIn K (.ref C) "hands" = some none)
    (n_asked : PySem.W.findIn K (.ref C) "asked" = some none)
    (n_is_stopped : PySem.W.findIn K (.ref C) "is_stopped" = some none)
    (g_MAX_NAME : PySem.W.nsIn K mainGlobals "MAX_NAME" = some (some (.int 8 t_MAX_NAME)))
    (g_MAX_TIMES : PySem.W.nsIn K mainGlobals "MAX_TIMES" = some (some (.int 8 t_MAX_TIMES)))
    (g_MAX_DEEP : PySem.W.nsIn K mainGlobals "MAX_DEEP" = some (some (.int 3 t_MAX_DEEP)))
    (g_MAX_NOTS : PySem.W.nsIn K mainGlobals "MAX_NOTS" = some (some (.int 2 t_MAX_NOTS)))
    (g_MAX_BY : PySem.W.nsIn K mainGlobals "MAX_BY" = some (some (.int 6 t_MAX_BY)))
    (g_MAX_PLACES : PySem.W.nsIn K mainGlobals "MAX_PLACES" = some (some (.int 24 t_MAX_PLACES)))
    (g_MAX_WEIGHT : PySem.W.nsIn K mainGlobals "MAX_WEIGHT" = some (some (.int 30 t_MAX_WEIGHT)))
    (g_MAX_CHOICES : PySem.W.nsIn K mainGlobals "MAX_CHOICES" = some (some (.int 4 t_MAX_CHOICES)))
    (g_MAX_RESTS : PySem.W.nsIn K mainGlobals "MAX_RESTS" = some (some (.int 2 t_MAX_RESTS)))
    (g_MAX_COMPARINGS : PySem.W.nsIn K mainGlobals "MAX_COMPARINGS" = some (some (.int 2 t_MAX_COMPARINGS)))
    (g_MAX_NEST : PySem.W.nsIn K mainGlobals "MAX_NEST" = some (some (.int 3 t_MAX_NEST)))
    (g_MOST_NUMBER : PySem.W.nsIn K mainGlobals "MOST_NUMBER" = some (some (.int 99 t_MOST_NUMBER)))
    (g_MOST_FACTOR : PySem.W.nsIn K mainGlobals "MOST_FACTOR" = some (some (.int 9 t_MOST_FACTOR)))
    (g_FIRST : PySem.W.nsIn K mainGlobals "FIRST" = some (some (.int 0 t_FIRST)))
    (g_LETTERS : PySem.W.nsIn K mainGlobals "LETTERS" = some (some (.str lettersS t_LETTERS)))
    (g_SIGNS : PySem.W.nsIn K mainGlobals "SIGNS" = some (some (.str signsS t_SIGNS)))
    (g_INPUT : PySem.W.nsIn K mainGlobals "INPUT" = some (some (.str "n" t_INPUT)))
    (g_KEPT : PySem.W.nsIn K mainGlobals "KEPT" = some (some (.ref a_KEPT)))
    (o_KEPT : K.lookup a_KEPT = some ⟨.type "tuple", d_KEPT, .seq #[.str "set" t_KEPT0, .str "pay" t_KEPT1, .str "stop" t_KEPT2, .str "if" t_KEPT3, .str "else" t_KEPT4, .str "we" t_KEPT5, .str "they" t_KEPT6, .str "or" t_KEPT7, .str "repeat" t_KEPT8, .str "pass" t_KEPT9, .str "rest" t_KEPT10, .str "of" t_KEPT11, .str "not" t_KEPT12, .str "program" t_KEPT13] n_KEPT', s_KEPT⟩)
    (g_CHOICES : PySem.W.nsIn K mainGlobals "CHOICES" = some (some (.ref a_CHOICES)))
    (o_CHOICES : K.lookup a_CHOICES = some ⟨.type "tuple", d_CHOICES, .seq #[.str "we" t_CHOICES0, .str "they" t_CHOICES1] n_CHOICES', s_CHOICES⟩)
    (z_len : PySem.W.nsIn K mainGlobals "len" = some none)
    (z_isinstance : PySem.W.nsIn K mainGlobals "isinstance" = some none)
    (z_str : PySem.W.nsIn K mainGlobals "str" = some none)
    (z_int : PySem.W.nsIn K mainGlobals "int" = some none)
    (z_bool : PySem.W.nsIn K mainGlobals "bool" = some none)
    (z_tuple : PySem.W.nsIn K mainGlobals "tuple" = some none)
    (z_sum : PySem.W.nsIn K mainGlobals "sum" = some none)
    (z_range : PySem.W.nsIn K mainGlobals "range" = some none)
    (z_abs : PySem.W.nsIn K mainGlobals "abs" = some none)
    (z_max : PySem.W.nsIn K mainGlobals "max" = some none)
    (z_dict : PySem.W.nsIn K mainGlobals "dict" = some none)
    (z_repr : PySem.W.nsIn K mainGlobals "repr" = some none)
    (z_list : PySem.W.nsIn K mainGlobals "list" = some none) : Nonempty (Txt K mg) :=
  ⟨{ is_whole := ⟨f1, _, fun_mk (st := s_is_whole) l1 c1 k1, (fun_mk (st := s_is_whole) l1 c1 k1).binds (ps := ["value", "least", "most"]) (fun _ _ _ _ _ _ us hl => match us, hl with | [_, _, _], _ => rfl), PySem.W.mg_of X G a1⟩,
      is_name := ⟨f2, _, fun_mk (st := s_is_name) l2 c2 k2, (fun_mk (st := s_is_name) l2 c2 k2).binds (ps := ["value"]) (fun _ _ _ _ _ _ us hl => match us, hl with | [_], _ => rfl), PySem.W.mg_of X G a2⟩,
      is_expression := ⟨f3, _, fun_mk (st := s_is_expression) l3 c3 k3, (fun_mk (st := s_is_expression) l3 c3 k3).binds (ps := ["value", "left"]) (fun _ _ _ _ _ _ us hl => match us, hl with | [_, _], _ => rfl), PySem.W.mg_of X G a3⟩,
      is_rest := ⟨f4, _, fun_mk (st := s_is_rest) l4 c4 k4, (fun_mk (st := s_is_rest) l4 c4 k4).binds (ps := ["value"]) (fun _ _ _ _ _ _ us hl => match us, hl with | [_], _ => rfl), PySem.W.mg_of X G a4⟩,
      is_test := ⟨f5, _, fun_mk (st := s_is_test) l5 c5 k5, (fun_mk (st := s_is_test) l5 c5 k5).binds (ps := ["value", "nots"]) (fun _ _ _ _ _ _ us hl => match us, hl with | [_, _], _ => rfl), PySem.W.mg_of X G a5⟩,
      are_blocks := ⟨f6, _, fun_mk (st := s_are_blocks) l6 c6 k6, (fun_mk (st := s_are_blocks) l6 c6 k6).binds (ps := ["values"]) (fun _ _ _ _ _ _ us hl => match us, hl with | [_], _ => rfl), PySem.W.mg_of X G a6⟩,
      is_statement := ⟨f7, _, fun_mk (st := s_is_statement) l7 c7 k7, (fun_mk (st := s_is_statement) l7 c7 k7).binds (ps := ["value"]) (fun _ _ _ _ _ _ us hl => match us, hl with | [_], _ => rfl), PySem.W.mg_of X G a7⟩,
      blocks_of := ⟨f8, _, fun_mk (st := s_blocks_of) l8 c8 k8, (fun_mk (st := s_blocks_of) l8 c8 k8).binds (ps := ["statement"]) (fun _ _ _ _ _ _ us hl => match us, hl with | [_], _ => rfl), PySem.W.mg_of X G a8⟩,
      items_within := ⟨f9, _, fun_mk (st := s_items_within) l9 c9 k9, (fun_mk (st := s_items_within) l9 c9 k9).binds (ps := ["statement", "depth"]) (fun _ _ _ _ _ _ us hl => match us, hl with | [_, _], _ => rfl), PySem.W.mg_of X G a9⟩,
      rows_of := ⟨f10, _, fun_mk (st := s_rows_of) l10 c10 k10, (fun_mk (st := s_rows_of) l10 c10 k10).binds (ps := ["program"]) (fun _ _ _ _ _ _ us hl => match us, hl with | [_], _ => rfl), PySem.W.mg_of X G a10⟩,
      order_error := ⟨f11, _, fun_mk (st := s_order_error) l11 c11 k11, (fun_mk (st := s_order_error) l11 c11 k11).binds (ps := ["value"]) (fun _ _ _ _ _ _ us hl => match us, hl with | [_], _ => rfl), PySem.W.mg_of X G a11⟩,
      bare := ⟨f12, _, fun_mk (st := s_bare) l12 c12 k12, (fun_mk (st := s_bare) l12 c12 k12).binds (ps := ["test"]) (fun _ _ _ _ _ _ us hl => match us, hl with | [_], _ => rfl), PySem.W.mg_of X G a12⟩,
      own_count := ⟨f13, _, fun_mk (st := s_own_count) l13 c13 k13, (fun_mk (st := s_own_count) l13 c13 k13).binds (ps := ["statement", "sort"]) (fun _ _ _ _ _ _ us hl => match us, hl with | [_, _], _ => rfl), PySem.W.mg_of X G a13⟩,
      counted := ⟨f14, _, fun_mk (st := s_counted) l14 c14 k14, (fun_mk (st := s_counted) l14 c14 k14).binds (ps := ["block", "sort"]) (fun _ _ _ _ _ _ us hl => match us, hl with | [_, _], _ => rfl), PySem.W.mg_of X G a14⟩,
      weight := ⟨f15, _, fun_mk (st := s_weight) l15 c15 k15, (fun_mk (st := s_weight) l15 c15 k15).binds (ps := ["program"]) (fun _ _ _ _ _ _ us hl => match us, hl with | [_], _ => rfl), PySem.W.mg_of X G a15⟩,
      program_error := ⟨f16, _, fun_mk (st := s_program_error) l16 c16 k16, (fun_mk (st := s_program_error) l16 c16 k16).binds (ps := ["value"]) (fun _ _ _ _ _ _ us hl => match us, hl with | [_], _ => rfl), PySem.W.mg_of X G a16⟩,
      value_of := ⟨f17, _, fun_mk (st := s_value_of) l17 c17 k17, (fun_mk (st := s_value_of) l17 c17 k17).binds (ps := ["expression", "names"]) (fun _ _ _ _ _ _ us hl => match us, hl with | [_, _], _ => rfl), PySem.W.mg_of X G a17⟩,
      is_true := ⟨f18, _, fun_mk (st := s_is_true) l18 c18 k18, (fun_mk (st := s_is_true) l18 c18 k18).binds (ps := ["test", "names"]) (fun _ _ _ _ _ _ us hl => match us, hl with | [_, _], _ => rfl), PySem.W.mg_of X G a18⟩,
      run := ⟨f19, _, fun_mk (st := s_run) l19 c19 k19, (fun_mk (st := s_run) l19 c19 k19).binds (ps := ["program", "number", "turns"]) (fun _ _ _ _ _ _ us hl => match us, hl with | [_, _, _], _ => rfl), PySem.W.mg_of X G a19⟩,
      next_turns := ⟨f20, _, fun_mk (st := s_next_turns) l20 c20 k20, (fun_mk (st := s_next_turns) l20 c20 k20).binds (ps := ["turns"]) (fun _ _ _ _ _ _ us hl => match us, hl with | [_], _ => rfl), PySem.W.mg_of X G a20⟩,
      runs_on := ⟨f21, _, fun_mk (st := s_runs_on) l21 c21 k21, (fun_mk (st := s_runs_on) l21 c21 k21).binds (ps := ["program", "number"]) (fun _ _ _ _ _ _ us hl => match us, hl with | [_, _], _ => rfl), PySem.W.mg_of X G a21⟩,
      each_run := ⟨f22, _, fun_mk (st := s_each_run) l22 c22 k22, (fun_mk (st := s_each_run) l22 c22 k22).binds (ps := ["program", "number"]) (fun _ _ _ _ _ _ us hl => match us, hl with | [_, _], _ => rfl), PySem.W.mg_of X G a22⟩,
      _law_deck := ⟨f23, _, fun_mk (st := s__law_deck) l23 c23 k23, (fun_mk (st := s__law_deck) l23 c23 k23).binds (ps := ["_law_script"]) (fun _ _ _ _ _ _ us hl => match us, hl with | [_], _ => rfl), PySem.W.mg_of X G a23⟩,
      _law_draw := ⟨f24, _, fun_mk (st := s__law_draw) l24 c24 k24, (fun_mk (st := s__law_draw) l24 c24 k24).binds (ps := ["_law_deck_here", "_law_many"]) (fun _ _ _ _ _ _ us hl => match us, hl with | [_, _], _ => rfl), PySem.W.mg_of X G a24⟩,
      _law_one := ⟨f25, _, fun_mk (st := s__law_one) l25 c25 k25, (fun_mk (st := s__law_one) l25 c25 k25).binds (ps := ["_law_deck_here", "_law_items"]) (fun _ _ _ _ _ _ us hl => match us, hl with | [_, _], _ => rfl), PySem.W.mg_of X G a25⟩,
      _law_names := ⟨f26, _, fun_mk (st := s__law_names) l26 c26 k26, (fun_mk (st := s__law_names) l26 c26 k26).binds (ps := ["_law_deck_here"]) (fun _ _ _ _ _ _ us hl => match us, hl with | [_], _ => rfl), PySem.W.mg_of X G a26⟩,
      _law_expression := ⟨f27, _, fun_mk (st := s__law_expression) l27 c27 k27, (fun_mk (st := s__law_expression) l27 c27 k27).binds (ps := ["_law_deck_here", "_law_names_here", "_law_deep"]) (fun _ _ _ _ _ _ us hl => match us, hl with | [_, _, _], _ => rfl), PySem.W.mg_of X G a27⟩,
      _law_test := ⟨f28, _, fun_mk (st := s__law_test) l28 c28 k28, (fun_mk (st := s__law_test) l28 c28 k28).binds (ps := ["_law_deck_here", "_law_names_here", "_law_left", "_law_times"]) (fun _ _ _ _ _ _ us hl => match us, hl with | [_, _, _, _], _ => rfl), PySem.W.mg_of X G a28⟩,
      _law_plain := ⟨f29, _, fun_mk (st := s__law_plain) l29 c29 k29, (fun_mk (st := s__law_plain) l29 c29 k29).binds (ps := ["_law_deck_here", "_law_names_here"]) (fun _ _ _ _ _ _ us hl => match us, hl with | [_, _], _ => rfl), PySem.W.mg_of X G a29⟩,
      _law_row := ⟨f30, _, fun_mk (st := s__law_row) l30 c30 k30, (fun_mk (st := s__law_row) l30 c30 k30).binds (ps := ["_law_deck_here", "_law_names_here", "_law_left", "_law_times", "_law_depth"]) (fun _ _ _ _ _ _ us hl => match us, hl with | [_, _, _, _, _], _ => rfl), PySem.W.mg_of X G a30⟩,
      _law_block := ⟨f31, _, fun_mk (st := s__law_block) l31 c31 k31, (fun_mk (st := s__law_block) l31 c31 k31).binds (ps := ["_law_deck_here", "_law_names_here", "_law_left", "_law_times", "_law_depth"]) (fun _ _ _ _ _ _ us hl => match us, hl with | [_, _, _, _, _], _ => rfl), PySem.W.mg_of X G a31⟩,
      _law_program := ⟨f32, _, fun_mk (st := s__law_program) l32 c32 k32, (fun_mk (st := s__law_program) l32 c32 k32).binds (ps := ["_law_deck_here", "_law_names_here"]) (fun _ _ _ _ _ _ us hl => match us, hl with | [_, _], _ => rfl), PySem.W.mg_of X G a32⟩,
      _law_number := ⟨f33, _, fun_mk (st := s__law_number) l33 c33 k33, (fun_mk (st := s__law_number) l33 c33 k33).binds (ps := ["_law_deck_here"]) (fun _ _ _ _ _ _ us hl => match us, hl with | [_], _ => rfl), PySem.W.mg_of X G a33⟩,
      _law_turns := ⟨f34, _, fun_mk (st := s__law_turns) l34 c34 k34, (fun_mk (st := s__law_turns) l34 c34 k34).binds (ps := ["_law_deck_here"]) (fun _ _ _ _ _ _ us hl => match us, hl with | [_], _ => rfl), PySem.W.mg_of X G a34⟩,
      _law_renamed := ⟨f35, _, fun_mk (st := s__law_renamed) l35 c35 k35, (fun_mk (st := s__law_renamed) l35 c35 k35).binds (ps := ["_law_value", "_law_names_here"]) (fun _ _ _ _ _ _ us hl => match us, hl with | [_, _], _ => rfl), PySem.W.mg_of X G a35⟩,
      law := ⟨f36, _, fun_mk (st := s_law) l36 c36 k36, (fun_mk (st := s_law) l36 c36 k36).binds (ps := ["_law_script"]) (fun _ _ _ _ _ _ us hl => match us, hl with | [_], _ => rfl), PySem.W.mg_of X G a36⟩,
      C := C,
      g_Course := PySem.W.mg_of X G aC,
      cl := ⟨pg, hd, po, sa⟩,
      no_names := n_names,
      no_total := n_total,
      no_turns := n_turns,
      no_hands := n_hands,
      no_asked := n_asked,
      no_is_stopped := n_is_stopped,
      init := ⟨f37, _, fun_mk (st := s_init) l37 c37 k37, (fun_mk (st := s_init) l37 c37 k37).binds (ps := ["self", "number", "asked"]) (fun _ _ _ _ _ _ us hl => match us, hl with | [_, _, _], _ => rfl), ⟨a37, i37, k37⟩⟩,
      choice := ⟨f38, _, fun_mk (st := s_choice) l38 c38 k38, (fun_mk (st := s_choice) l38 c38 k38).binds (ps := ["self", "hand"]) (fun _ _ _ _ _ _ us hl => match us, hl with | [_, _], _ => rfl), ⟨a38, i38, k38⟩⟩,
      parts := ⟨f39, _, fun_mk (st := s_parts) l39 c39 k39, (fun_mk (st := s_parts) l39 c39 k39).binds (ps := ["self", "statement"]) (fun _ _ _ _ _ _ us hl => match us, hl with | [_, _], _ => rfl), ⟨a39, i39, k39⟩⟩,
      mdo := ⟨f40, _, fun_mk (st := s_mdo) l40 c40 k40, (fun_mk (st := s_mdo) l40 c40 k40).binds (ps := ["self", "statement"]) (fun _ _ _ _ _ _ us hl => match us, hl with | [_, _], _ => rfl), ⟨a40, i40, k40⟩⟩,
      go := ⟨f41, _, fun_mk (st := s_go) l41 c41 k41, (fun_mk (st := s_go) l41 c41 k41).binds (ps := ["self", "block"]) (fun _ _ _ _ _ _ us hl => match us, hl with | [_, _], _ => rfl), ⟨a41, i41, k41⟩⟩,
      mk_Course := ⟨mk, a37, i37, kc⟩,
      g_MAX_NAME := ⟨_, PySem.W.mg_of X G g_MAX_NAME, ⟨_, rfl⟩⟩,
      g_MAX_TIMES := ⟨_, PySem.W.mg_of X G g_MAX_TIMES, ⟨_, rfl⟩⟩,
      g_MAX_DEEP := ⟨_, PySem.W.mg_of X G g_MAX_DEEP, ⟨_, rfl⟩⟩,
      g_MAX_NOTS := ⟨_, PySem.W.mg_of X G g_MAX_NOTS, ⟨_, rfl⟩⟩,
      g_MAX_BY := ⟨_, PySem.W.mg_of X G g_MAX_BY, ⟨_, rfl⟩⟩,
      g_MAX_PLACES := ⟨_, PySem.W.mg_of X G g_MAX_PLACES, ⟨_, rfl⟩⟩,
      g_MAX_WEIGHT := ⟨_, PySem.W.mg_of X G g_MAX_WEIGHT, ⟨_, rfl⟩⟩,
      g_MAX_CHOICES := ⟨_, PySem.W.mg_of X G g_MAX_CHOICES, ⟨_, rfl⟩⟩,
      g_MAX_RESTS := ⟨_, PySem.W.mg_of X G g_MAX_RESTS, ⟨_, rfl⟩⟩,
      g_MAX_COMPARINGS := ⟨_, PySem.W.mg_of X G g_MAX_COMPARINGS, ⟨_, rfl⟩⟩,
      g_MAX_NEST := ⟨_, PySem.W.mg_of X G g_MAX_NEST, ⟨_, rfl⟩⟩,
      g_MOST_NUMBER := ⟨_, PySem.W.mg_of X G g_MOST_NUMBER, ⟨_, rfl⟩⟩,
      g_MOST_FACTOR := ⟨_, PySem.W.mg_of X G g_MOST_FACTOR, ⟨_, rfl⟩⟩,
      g_FIRST := ⟨_, PySem.W.mg_of X G g_FIRST, ⟨_, rfl⟩⟩,
      g_LETTERS := ⟨_, PySem.W.mg_of X G g_LETTERS, ⟨_, rfl⟩⟩,
      g_SIGNS := ⟨_, PySem.W.mg_of X G g_SIGNS, ⟨_, rfl⟩⟩,
      g_INPUT := ⟨_, PySem.W.mg_of X G g_INPUT, ⟨_, rfl⟩⟩,
      aKEPT := a_KEPT,
      g_KEPT := PySem.W.mg_of X G g_KEPT,
      KEPT := fun H => .inr ⟨_, _, _, o_KEPT, rfl, rfl, by show 14 ≤ sizeLine; decide, (.cons ⟨_, rfl⟩ (.cons ⟨_, rfl⟩ (.cons ⟨_, rfl⟩ (.cons ⟨_, rfl⟩ (.cons ⟨_, rfl⟩ (.cons ⟨_, rfl⟩ (.cons ⟨_, rfl⟩ (.cons ⟨_, rfl⟩ (.cons ⟨_, rfl⟩ (.cons ⟨_, rfl⟩ (.cons ⟨_, rfl⟩ (.cons ⟨_, rfl⟩ (.cons ⟨_, rfl⟩ (.cons ⟨_, rfl⟩ .nil))))))))))))))⟩,
      aCHOICES := a_CHOICES,
      g_CHOICES := PySem.W.mg_of X G g_CHOICES,
      CHOICES := fun H => .inr ⟨_, _, _, o_CHOICES, rfl, rfl, by show 2 ≤ sizeLine; decide, (.cons ⟨_, rfl⟩ (.cons ⟨_, rfl⟩ .nil))⟩,
      n_len := PySem.W.mg_none_of X G z_len,
      n_isinstance := PySem.W.mg_none_of X G z_isinstance,
      n_str := PySem.W.mg_none_of X G z_str,
      n_int := PySem.W.mg_none_of X G z_int,
      n_bool := PySem.W.mg_none_of X G z_bool,
      n_tuple := PySem.W.mg_none_of X G z_tuple,
      n_sum := PySem.W.mg_none_of X G z_sum,
      n_range := PySem.W.mg_none_of X G z_range,
      n_abs := PySem.W.mg_none_of X G z_abs,
      n_max := PySem.W.mg_none_of X G z_max,
      n_dict := PySem.W.mg_none_of X G z_dict,
      n_repr := PySem.W.mg_none_of X G z_repr,
      n_list := PySem.W.mg_none_of X G z_list }⟩
theorem walk_law {l : PySem.W.OpenLaw} {q : Program} {loose : List Str} {XP : (Str → Option Value) → Heap → Prop} {YP : World → Heap → Prop} {d : DefRec} {K : Params → PySem.W.Frag}
    (most : l.most = some 63) (plain : d.params.defaults = []) (called : d.name = "law") (inK : ∀ (w : World) (h : Heap), YP w h → (K w.params).In h)
    (found : ∀ (w : World) (h : Heap) (mg : Str → Option Value), (K w.params).In h → h.Ns mainGlobals mg → Nonempty (Txt (K w.params) mg)) :
    PySem.W.WalkO q loose XP YP l.row.toRowW d [] (fun f vs => PySem.call f vs) := by
  refine Att.attach_call most plain fun w s₀ s₁ mg mb fa o pm cd doc a vs ns G Y _ _ _ hmg obj rel len still => ?_
  have kin := inK w _ Y
  obtain ⟨T⟩ := found w _ mg kin G.T.g
  rw [called, T.law.g] at hmg
  cases hmg
  exact law_top kin G.T.g G.T.b G.T.builtins G.T.nolimit still obj rel (Nat.le_trans len (by decide)) T.law.F sc_law (T.law.B s₁ [.ref a] kin rfl) ⟨rfl, by decide, by decide⟩ fun base H cdv _ _ seen later room => law_body T seen later room
end K29

set_option Elab.async false
set_option maxRecDepth 100000
open PySem PySem.W PyProof.Rows
set_option maxRecDepth 100000 in
set_option maxHeartbeats 0 in
theorem PySem.Challenge.cw_weandthey_k29_whole_programs_renamed_holds : PySem.Challenge.rw_weandthey_k29_whole_programs_renamed.Holds := by
  w_on; o_law; k_head; (case hw => w_witness2)
  k_fill
  refine K29.walk_law (l := PySem.Challenge.rw_weandthey_k29_whole_programs_renamed) rfl rfl rfl (fun w h Y => PySem.W.kIn_of Y) ?F
  case F =>
    intro w h mg kin G
    refine' K29.txt_mk kin G ?a1 ?l1 ?c1 ?k1 ?a2 ?l2 ?c2 ?k2 ?a3 ?l3 ?c3 ?k3 ?a4 ?l4 ?c4 ?k4 ?a5 ?l5 ?c5 ?k5 ?a6 ?l6 ?c6 ?k6 ?a7 ?l7 ?c7 ?k7 ?a8 ?l8 ?c8 ?k8 ?a9 ?l9 ?c9 ?k9 ?a10 ?l10 ?c10 ?k10 ?a11 ?l11 ?c11 ?k11 ?a12 ?l12 ?c12 ?k12 ?a13 ?l13 ?c13 ?k13 ?a14 ?l14 ?c14 ?k14 ?a15 ?l15 ?c15 ?k15 ?a16 ?l16 ?c16 ?k16 ?a17 ?l17 ?c17 ?k17 ?a18 ?l18 ?c18 ?k18 ?a19 ?l19 ?c19 ?k19 ?a20 ?l20 ?c20 ?k20 ?a21 ?l21 ?c21 ?k21 ?a22 ?l22 ?c22 ?k22 ?a23 ?l23 ?c23 ?k23 ?a24 ?l24 ?c24 ?k24 ?a25 ?l25 ?c25 ?k25 ?a26 ?l26 ?c26 ?k26 ?a27 ?l27 ?c27 ?k27 ?a28 ?l28 ?c28 ?k28 ?a29 ?l29 ?c29 ?k29 ?a30 ?l30 ?c30 ?k30 ?a31 ?l31 ?c31 ?k31 ?a32 ?l32 ?c32 ?k32 ?a33 ?l33 ?c33 ?k33 ?a34 ?l34 ?c34 ?k34 ?a35 ?l35 ?c35 ?k35 ?a36 ?l36 ?c36 ?k36 ?aC ?a37 ?i37 ?l37 ?c37 ?k37 ?a38 ?i38 ?l38 ?c38 ?k38 ?a39 ?i39 ?l39 ?c39 ?k39 ?a40 ?i40 ?l40 ?c40 ?k40 ?a41 ?i41 ?l41 ?c41 ?k41 ?pg ?hd ?po ?sa ?mk ?kc ?n_names ?n_total ?n_turns ?n_hands ?n_asked ?n_is_stopped ?g_MAX_NAME ?g_MAX_TIMES ?g_MAX_DEEP ?g_MAX_NOTS ?g_MAX_BY ?g_MAX_PLACES ?g_MAX_WEIGHT ?g_MAX_CHOICES ?g_MAX_RESTS ?g_MAX_COMPARINGS ?g_MAX_NEST ?g_MOST_NUMBER ?g_MOST_FACTOR ?g_FIRST ?g_LETTERS ?g_SIGNS ?g_INPUT ?g_KEPT ?o_KEPT ?g_CHOICES ?o_CHOICES ?z_len ?z_isinstance ?z_str ?z_int ?z_bool ?z_tuple ?z_sum ?z_range ?z_abs ?z_max ?z_dict ?z_repr ?z_list
    (case a1 => k_is)
    (case l1 => k_is)
    (case c1 => k_is)
    (case k1 => k_is)
    (case a2 => k_is)
    (case l2 => k_is)
    (case c2 => k_is)
    (case k2 => k_is)
    (case a3 => k_is)
    (case l3 => k_is)
    (case c3 => k_is)
    (case k3 => k_is)
    (case a4 => k_is)
    (case l4 => k_is)
    (case c4 => k_is)
    (case k4 => k_is)
    (case a5 => k_is)
    (case l5 => k_is)
    (case c5 => k_is)
    (case k5 => k_is)
    (case a6 => k_is)
    (case l6 => k_is)
    (case c6 => k_is)
    (case k6 => k_is)
    (case a7 => k_is)
    (case l7 => k_is)
    (case c7 => k_is)
    (case k7 => k_is)
    (case a8 => k_is)
    (case l8 => k_is)
    (case c8 => k_is)
    (case k8 => k_is)
    (case a9 => k_is)
    (case l9 => k_is)
    (case c9 => k_is)
    (case k9 => k_is)
    (case a10 => k_is)
    (case l10 => k_is)
    (case c10 => k_is)
    (case k10 => k_is)
    (case a11 => k_is)
    (case l11 => k_is)
    (case c11 => k_is)
    (case k11 => k_is)
    (case a12 => k_is)
    (case l12 => k_is)
    (case c12 => k_is)
    (case k12 => k_is)
    (case a13 => k_is)
    (case l13 => k_is)
    (case c13 => k_is)
    (case k13 => k_is)
    (case a14 => k_is)
    (case l14 => k_is)
    (case c14 => k_is)
    (case k14 => k_is)
    (case a15 => k_is)
    (case l15 => k_is)
    (case c15 => k_is)
    (case k15 => k_is)
    (case a16 => k_is)
    (case l16 => k_is)
    (case c16 => k_is)
    (case k16 => k_is)
    (case a17 => k_is)
    (case l17 => k_is)
    (case c17 => k_is)
    (case k17 => k_is)
    (case a18 => k_is)
    (case l18 => k_is)
    (case c18 => k_is)
    (case k18 => k_is)
    (case a19 => k_is)
    (case l19 => k_is)
    (case c19 => k_is)
    (case k19 => k_is)
    (case a20 => k_is)
    (case l20 => k_is)
    (case c20 => k_is)
    (case k20 => k_is)
    (case a21 => k_is)
    (case l21 => k_is)
    (case c21 => k_is)
    (case k21 => k_is)
    (case a22 => k_is)
    (case l22 => k_is)
    (case c22 => k_is)
    (case k22 => k_is)
    (case a23 => k_is)
    (case l23 => k_is)
    (case c23 => k_is)
    (case k23 => k_is)
    (case a24 => k_is)
    (case l24 => k_is)
    (case c24 => k_is)
    (case k24 => k_is)
    (case a25 => k_is)
    (case l25 => k_is)
    (case c25 => k_is)
    (case k25 => k_is)
    (case a26 => k_is)
    (case l26 => k_is)
    (case c26 => k_is)
    (case k26 => k_is)
    (case a27 => k_is)
    (case l27 => k_is)
    (case c27 => k_is)
    (case k27 => k_is)
    (case a28 => k_is)
    (case l28 => k_is)
    (case c28 => k_is)
    (case k28 => k_is)
    (case a29 => k_is)
    (case l29 => k_is)
    (case c29 => k_is)
    (case k29 => k_is)
    (case a30 => k_is)
    (case l30 => k_is)
    (case c30 => k_is)
    (case k30 => k_is)
    (case a31 => k_is)
    (case l31 => k_is)
    (case c31 => k_is)
    (case k31 => k_is)
    (case a32 => k_is)
    (case l32 => k_is)
    (case c32 => k_is)
    (case k32 => k_is)
    (case a33 => k_is)
    (case l33 => k_is)
    (case c33 => k_is)
    (case k33 => k_is)
    (case a34 => k_is)
    (case l34 => k_is)
    (case c34 => k_is)
    (case k34 => k_is)
    (case a35 => k_is)
    (case l35 => k_is)
    (case c35 => k_is)
    (case k35 => k_is)
    (case a36 => k_is)
    (case l36 => k_is)
    (case c36 => k_is)
    (case k36 => k_is)
    (case aC => k_is)
    (case a37 => k_is)
    (case i37 => k_is)
    (case l37 => k_is)
    (case c37 => k_is)
    (case k37 => k_is)
    (case a38 => k_is)
    (case i38 => k_is)
    (case l38 => k_is)
    (case c38 => k_is)
    (case k38 => k_is)
    (case a39 => k_is)
    (case i39 => k_is)
    (case l39 => k_is)
    (case c39 => k_is)
    (case k39 => k_is)
    (case a40 => k_is)
    (case i40 => k_is)
    (case l40 => k_is)
    (case c40 => k_is)
    (case k40 => k_is)
    (case a41 => k_is)
    (case i41 => k_is)
    (case l41 => k_is)
    (case c41 => k_is)
    (case k41 => k_is)
    (case pg => k_is)
    (case hd => k_is)
    (case po => k_is)
    (case sa => k_is)
    (case mk => k_is)
    (case kc => k_is)
    (case n_names => k_is)
    (case n_total => k_is)
    (case n_turns => k_is)
    (case n_hands => k_is)
    (case n_asked => k_is)
    (case n_is_stopped => k_is)
    (case g_MAX_NAME => k_is)
    (case g_MAX_TIMES => k_is)
    (case g_MAX_DEEP => k_is)
    (case g_MAX_NOTS => k_is)
    (case g_MAX_BY => k_is)
    (case g_MAX_PLACES => k_is)
    (case g_MAX_WEIGHT => k_is)
    (case g_MAX_CHOICES => k_is)
    (case g_MAX_RESTS => k_is)
    (case g_MAX_COMPARINGS => k_is)
    (case g_MAX_NEST => k_is)
    (case g_MOST_NUMBER => k_is)
    (case g_MOST_FACTOR => k_is)
    (case g_FIRST => k_is)
    (case g_LETTERS => k_is)
    (case g_SIGNS => k_is)
    (case g_INPUT => k_is)
    (case g_KEPT => k_is)
    (case o_KEPT => k_is)
    (case g_CHOICES => k_is)
    (case o_CHOICES => k_is)
    (case z_len => k_is)
    (case z_isinstance => k_is)
    (case z_str => k_is)
    (case z_int => k_is)
    (case z_bool => k_is)
    (case z_tuple => k_is)
    (case z_sum => k_is)
    (case z_range => k_is)
    (case z_abs => k_is)
    (case z_max => k_is)
    (case z_dict => k_is)
    (case z_repr => k_is)
    (case z_list => k_is)
#print axioms PySem.Challenge.cw_weandthey_k29_whole_programs_renamed_holds
