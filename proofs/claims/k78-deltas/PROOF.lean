import PyProof.Rows.All
import Wide.All
import OpenK.AllK
import Wide.FinOn
import HandS.ForMost
import HandS.TupAny
import HandS.Style
import HandS.Flow
import HandS.IsInst
import HandS.Deep
import HandS.Replace
import HandS.RaiseMore
import PyProof.AutoSeq1
import HandS.Codes
import HandS.Text
import PySem.Challenge.RW_servedasmade_k78_whole_deltas_one_behind
set_option Elab.async false
set_option linter.all false
set_option maxRecDepth 100000
set_option maxHeartbeats 4000000
set_option autoImplicit false
namespace DL
open PySem PySem.Spec PyProof.Rows L2

/-! ### values without a heap -/
inductive D where
  | non | bl (b : Bool) | int (i : Int) | str (x : Str) | tup (xs : List D) | lst (xs : List D) | dct (kvs : List (Key × D)) | loc (n : Nat)
  /-- the script -/
  | scr (ns : List Int)
/-- a local's place -/
inductive Sl where
  | no | sh (d : D) | ol (xs : List D) | od (kvs : List (Key × D))
/-- a shared object that may change -/
inductive Cell where
  | lst (xs : List D) | dct (kvs : List (Key × D)) | ins (c : Nat) (fs : List (Str × D))
structure S where
  env : List Sl
  cells : List Cell
/-- what an expression gives: a value, a fresh list, a fresh dict, what stands in a place -/
inductive Ev where
  | v (d : D) | fl (xs : List D) | fd (kvs : List (Key × D)) | bo (i : Nat)
inductive Out where
  | nx | bk | ct | rt (d : D)

/-! ### what stands in the heap for a value -/
def FzL (H : Hp) (a : Addr) (vs : List V) : Prop := ∃ o, H a = some (.frz o (.lst vs))
def FzS (K : PySem.W.Frag) (H : Hp) (a : Addr) (vs : List V) : Prop :=
  (∃ o, H a = some (.frz o (.lst vs))) ∨
    ∃ (o : Obj) (its : Array Value) (n : Nat), K.lookup a = some o ∧ o.cls = .type "list" ∧ o.dict = none ∧ o.data = .seq its n ∧ its.size ≤ sizeLine ∧ Vals vs its.toList
def FzD (H : Hp) (a : Addr) (ws : List (Key × V)) : Prop := ∃ o, H a = some (.frz o (.dK ws))
mutual
inductive RD (K : PySem.W.Frag) (ν : List Addr) (H : Hp) : D → V → Prop
  | non : RD K ν H .non .non
  | bl (b : Bool) : RD K ν H (.bl b) (.bl b)
  | int (i : Int) : RD K ν H (.int i) (.int i)
  | str (x : Str) : RD K ν H (.str x) (.str x)
  | tup {a : Addr} {xs : List D} {vs : List V} : SqT K H a vs → RDs K ν H xs vs → RD K ν H (.tup xs) (.ref a)
  | lst {a : Addr} {xs : List D} {vs : List V} : FzL H a vs → RDs K ν H xs vs → RD K ν H (.lst xs) (.ref a)
  | dct {a : Addr} {kvs : List (Key × D)} {ws : List (Key × V)} : FzD H a ws → RDk K ν H kvs ws → RD K ν H (.dct kvs) (.ref a)
  | loc {a : Addr} {n : Nat} : ν[n]? = some a → RD K ν H (.loc n) (.ref a)
  | scr {a : Addr} {ns : List Int} : FzS K H a (ns.map V.int) → RD K ν H (.scr ns) (.ref a)
inductive RDs (K : PySem.W.Frag) (ν : List Addr) (H : Hp) : List D → List V → Prop
  | nil : RDs K ν H [] []
  | cons {d : D} {v : V} {ds : List D} {vs : List V} : RD K ν H d v → RDs K ν H ds vs → RDs K ν H (d :: ds) (v :: vs)
inductive RDk (K : PySem.W.Frag) (ν : List Addr) (H : Hp) : List (Key × D) → List (Key × V) → Prop
  | nil : RDk K ν H [] []
  | cons {k : Key} {d : D} {v : V} {ds : List (Key × D)} {vs : List (Key × V)} : RD K ν H d v → RDk K ν H ds vs → RDk K ν H ((k, d) :: ds) ((k, v) :: vs)
end
/-- an instance's attributes -/
inductive RDf (K : PySem.W.Frag) (ν : List Addr) (H : Hp) : List (Str × D) → List (Str × V) → Prop
  | nil : RDf K ν H [] []
  | cons {k : Str} {d : D} {v : V} {ds : List (Str × D)} {vs : List (Str × V)} : RD K ν H d v → RDf K ν H ds vs → RDf K ν H ((k, d) :: ds) ((k, v) :: vs)

def fz : HO → Bool
  | .tup _ => true
  | .frz _ _ => true
  | _ => false
/-- what never changes stands as it was -/
def Keep (H H' : Hp) : Prop := ∀ a o, H a = some o → fz o = true → H' a = some o
theorem Keep.refl (H : Hp) : Keep H H := fun _ _ h _ => h
theorem Keep.trans {H H1 H2 : Hp} (a : Keep H H1) (b : Keep H1 H2) : Keep H H2 := fun c o h f => b c o (a c o h f) f
theorem Keep.of_same {H H' : Hp} (s : Same H H') : Keep H H' := fun a o h _ => s a o h
theorem Keep.sqT {K : PySem.W.Frag} {H H' : Hp} {a : Addr} {vs : List V} (k : Keep H H') (h : SqT K H a vs) : SqT K H' a vs := by
  rcases h with (h | ⟨o, h⟩) | h
  · exact .inl (.inl (k _ _ h rfl))
  · exact .inl (.inr ⟨o, k _ _ h rfl⟩)
  · exact .inr h
theorem Keep.fzL {H H' : Hp} {a : Addr} {vs : List V} (k : Keep H H') (h : FzL H a vs) : FzL H' a vs := by
  obtain ⟨o, h⟩ := h
  exact ⟨o, k _ _ h rfl⟩
theorem Keep.fzS {K : PySem.W.Frag} {H H' : Hp} {a : Addr} {vs : List V} (k : Keep H H') (h : FzS K H a vs) : FzS K H' a vs := by
  rcases h with ⟨o, h⟩ | h
  · exact .inl ⟨o, k _ _ h rfl⟩
  · exact .inr h
theorem Keep.fzD {H H' : Hp} {a : Addr} {ws : List (Key × V)} (k : Keep H H') (h : FzD H a ws) : FzD H' a ws := by
  obtain ⟨o, h⟩ := h
  exact ⟨o, k _ _ h rfl⟩
theorem FzS.seq {K : PySem.W.Frag} {H : Hp} {a : Addr} {vs : List V} (h : FzS K H a vs) : SqL K H a vs := by
  rcases h with ⟨o, h⟩ | h
  · exact .inl (.inr ⟨o, h⟩)
  · exact .inr h
theorem ext_get {ν ν' : List Addr} (e : ∃ m, ν' = ν ++ m) {n : Nat} {a : Addr} (h : ν[n]? = some a) : ν'[n]? = some a := by
  obtain ⟨m, rfl⟩ := e
  rw [List.getElem?_append_left]
  · exact h
  · exact (List.getElem?_eq_some_iff.mp h).1
section
variable {K : PySem.W.Frag} {ν ν' : List Addr} {H H' : Hp}
mutual
theorem RD.mono (k : Keep H H') (e : ∃ m, ν' = ν ++ m) : ∀ {d : D} {v : V}, RD K ν H d v → RD K ν' H' d v
  | _, _, .non => .non
  | _, _, .bl b => .bl b
  | _, _, .int i => .int i
  | _, _, .str x => .str x
  | _, _, .tup h r => .tup (k.sqT h) (RDs.mono k e r)
  | _, _, .lst h r => .lst (k.fzL h) (RDs.mono k e r)
  | _, _, .dct h r => .dct (k.fzD h) (RDk.mono k e r)
  | _, _, .loc h => .loc (ext_get e h)
  | _, _, .scr h => .scr (k.fzS h)
theorem RDs.mono (k : Keep H H') (e : ∃ m, ν' = ν ++ m) : ∀ {ds : List D} {vs : List V}, RDs K ν H ds vs → RDs K ν' H' ds vs
  | _, _, .nil => .nil
  | _, _, .cons h r => .cons (RD.mono k e h) (RDs.mono k e r)
theorem RDk.mono (k : Keep H H') (e : ∃ m, ν' = ν ++ m) : ∀ {ds : List (Key × D)} {vs : List (Key × V)}, RDk K ν H ds vs → RDk K ν' H' ds vs
  | _, _, .nil => .nil
  | _, _, .cons h r => .cons (RD.mono k e h) (RDk.mono k e r)
end
theorem RDf.mono (k : Keep H H') (e : ∃ m, ν' = ν ++ m) : ∀ {ds : List (Str × D)} {vs : List (Str × V)}, RDf K ν H ds vs → RDf K ν' H' ds vs
  | _, _, .nil => .nil
  | _, _, .cons h r => .cons (RD.mono k e h) (RDf.mono k e r)
theorem RDs.length : ∀ {ds : List D} {vs : List V}, RDs K ν H ds vs → ds.length = vs.length
  | _, _, .nil => rfl
  | _, _, .cons _ r => by rw [List.length_cons, List.length_cons, RDs.length r]
theorem RDk.length : ∀ {ds : List (Key × D)} {vs : List (Key × V)}, RDk K ν H ds vs → ds.length = vs.length
  | _, _, .nil => rfl
  | _, _, .cons _ r => by rw [List.length_cons, List.length_cons, RDk.length r]
theorem RDs.get : ∀ {ds : List D} {vs : List V} {i : Nat} {d : D}, RDs K ν H ds vs → ds[i]? = some d → ∃ v, vs[i]? = some v ∧ RD K ν H d v
  | _, _, _, _, .nil, e => by simp at e
  | _, _, 0, _, .cons h r, e => by simp at e; subst e; exact ⟨_, rfl, h⟩
  | _, _, i + 1, d, .cons h r, e => by
    obtain ⟨v, h1, h2⟩ := RDs.get (i := i) (d := d) r (by simpa using e)
    exact ⟨v, by simpa using h1, h2⟩
theorem RDs.getV : ∀ {ds : List D} {vs : List V} {i : Nat} {v : V}, RDs K ν H ds vs → vs[i]? = some v → ∃ d, ds[i]? = some d ∧ RD K ν H d v
  | _, _, _, _, .nil, e => by simp at e
  | _, _, 0, _, .cons h r, e => by simp at e; subst e; exact ⟨_, rfl, h⟩
  | _, _, i + 1, v, .cons h r, e => by
    obtain ⟨d, h1, h2⟩ := RDs.getV (i := i) (v := v) r (by simpa using e)
    exact ⟨d, by simpa using h1, h2⟩
theorem RDs.append : ∀ {ds es : List D} {vs us : List V}, RDs K ν H ds vs → RDs K ν H es us → RDs K ν H (ds ++ es) (vs ++ us)
  | _, _, _, _, .nil, s => s
  | _, _, _, _, .cons h r, s => .cons h (RDs.append r s)
theorem RDs.take : ∀ {ds : List D} {vs : List V} (n : Nat), RDs K ν H ds vs → RDs K ν H (ds.take n) (vs.take n)
  | _, _, 0, _ => .nil
  | _, _, _ + 1, .nil => .nil
  | _, _, n + 1, .cons h r => .cons h (RDs.take n r)
theorem RDs.drop : ∀ {ds : List D} {vs : List V} (n : Nat), RDs K ν H ds vs → RDs K ν H (ds.drop n) (vs.drop n)
  | _, _, 0, r => r
  | _, _, _ + 1, .nil => .nil
  | _, _, n + 1, .cons h r => RDs.drop n r
theorem RDs.set {d : D} {v : V} (h : RD K ν H d v) : ∀ {ds : List D} {vs : List V} (n : Nat), RDs K ν H ds vs → RDs K ν H (ds.set n d) (vs.set n v)
  | _, _, _, .nil => .nil
  | _, _, 0, .cons _ r => .cons h r
  | _, _, n + 1, .cons q r => .cons q (RDs.set h n r)
theorem RDs.dropLast : ∀ {ds : List D} {vs : List V}, RDs K ν H ds vs → RDs K ν H ds.dropLast vs.dropLast := by
  intro ds vs h
  rw [List.dropLast_eq_take, List.dropLast_eq_take, h.length]
  exact h.take _
theorem RDs.eraseIdx : ∀ {ds : List D} {vs : List V} (n : Nat), RDs K ν H ds vs → RDs K ν H (ds.eraseIdx n) (vs.eraseIdx n)
  | _, _, _, .nil => .nil
  | _, _, 0, .cons _ r => r
  | _, _, n + 1, .cons q r => .cons q (RDs.eraseIdx n r)
theorem RDs.reverse {ds : List D} {vs : List V} (h : RDs K ν H ds vs) : RDs K ν H ds.reverse vs.reverse := by
  induction ds generalizing vs with
  | nil => cases h; exact .nil
  | cons d ds ih =>
    cases h with
    | cons h r =>
      rw [List.reverse_cons, List.reverse_cons]
      exact (ih r).append (.cons h .nil)
theorem RDs.ints : ∀ (ns : List Int), RDs K ν H (ns.map D.int) (ns.map V.int)
  | [] => .nil
  | n :: r => .cons (.int n) (RDs.ints r)
theorem RDs.strs : ∀ (ns : List Str), RDs K ν H (ns.map D.str) (ns.map V.str)
  | [] => .nil
  | n :: r => .cons (.str n) (RDs.strs r)

/-! readable: as a value, or a list or dict that may still change -/
inductive RDr (K : PySem.W.Frag) (ν : List Addr) (H : Hp) : D → V → Prop
  | v {d : D} {v : V} : RD K ν H d v → RDr K ν H d v
  | lst {a : Addr} {xs : List D} {vs : List V} : H a = some (.lst vs) → RDs K ν H xs vs → RDr K ν H (.lst xs) (.ref a)
  | dct {a : Addr} {kvs : List (Key × D)} {ws : List (Key × V)} : H a = some (.dK ws) → RDk K ν H kvs ws → RDr K ν H (.dct kvs) (.ref a)
theorem RDr.list {xs : List D} {v : V} (h : RDr K ν H (.lst xs) v) : ∃ a vs, v = .ref a ∧ Rd H a (.lst vs) ∧ RDs K ν H xs vs := by
  cases h with
  | v h => cases h with
    | lst f r => obtain ⟨o, f⟩ := f; exact ⟨_, _, rfl, .inr ⟨o, f⟩, r⟩
  | lst f r => exact ⟨_, _, rfl, .inl f, r⟩
theorem RDr.scr {ns : List Int} {v : V} (h : RDr K ν H (.scr ns) v) : ∃ a, v = .ref a ∧ SqL K H a (ns.map V.int) := by
  cases h with
  | v h => cases h with
    | scr f => exact ⟨_, rfl, f.seq⟩
theorem RDr.tuple {xs : List D} {v : V} (h : RDr K ν H (.tup xs) v) : ∃ a vs, v = .ref a ∧ SqT K H a vs ∧ RDs K ν H xs vs := by
  cases h with
  | v h => cases h with
    | tup f r => exact ⟨_, _, rfl, f, r⟩
theorem RDr.dict {kvs : List (Key × D)} {v : V} (h : RDr K ν H (.dct kvs) v) : ∃ a ws, v = .ref a ∧ Rd H a (.dK ws) ∧ RDk K ν H kvs ws := by
  cases h with
  | v h => cases h with
    | dct f r =>
      obtain ⟨o, f⟩ := f
      exact ⟨_, _, rfl, .inr ⟨o, f⟩, r⟩
  | dct f r => exact ⟨_, _, rfl, .inl f, r⟩
theorem RDr.int {i : Int} {v : V} (h : RDr K ν H (.int i) v) : v = .int i := by
  cases h with
  | v h => cases h; rfl
theorem RDr.bl {i : Bool} {v : V} (h : RDr K ν H (.bl i) v) : v = .bl i := by
  cases h with
  | v h => cases h; rfl
theorem RDr.str {i : Str} {v : V} (h : RDr K ν H (.str i) v) : v = .str i := by
  cases h with
  | v h => cases h; rfl
theorem RDr.non {v : V} (h : RDr K ν H .non v) : v = .non := by
  cases h with
  | v h => cases h; rfl
end

/-! ### states -/
section
variable (K : PySem.W.Frag) (cl : Nat → Addr)
def RSl (ν : List Addr) (H : Hp) : Sl → Option V → Prop
  | .no, _ => True
  | .sh d, o => ∃ v, o = some v ∧ RD K ν H d v
  | .ol xs, o => ∃ a vs, o = some (.ref a) ∧ H a = some (.lst vs) ∧ RDs K ν H xs vs
  | .od kvs, o => ∃ a ws, o = some (.ref a) ∧ H a = some (.dK ws) ∧ RDk K ν H kvs ws
def RCell (ν : List Addr) (H : Hp) : Cell → Addr → Prop
  | .lst xs, a => ∃ vs, H a = some (.lst vs) ∧ RDs K ν H xs vs
  | .dct kvs, a => ∃ ws, H a = some (.dK ws) ∧ RDk K ν H kvs ws
  | .ins c fs, a => ∃ dx ws, H a = some (.ins (cl c) dx ws) ∧ RDf K ν H fs ws
end
def owned : Sl → Bool
  | .ol _ => true
  | .od _ => true
  | _ => false
/-- the place i holds, as its own, the object at a -/
def Own (env : List Sl) (σ : List (Option V)) (i : Nat) (a : Addr) : Prop := ∃ sl, env[i]? = some sl ∧ owned sl = true ∧ σ[i]? = some (some (.ref a))
/-- what may be written -/
def Wr (ν : List Addr) (env : List Sl) (σ : List (Option V)) (a : Addr) : Prop := (∃ i, Own env σ i a) ∨ a ∈ ν
structure Pre (K : PySem.W.Frag) (cl : Nat → Addr) (ν : List Addr) (st : S) (σ : List (Option V)) (H : Hp) : Prop where
  len : st.env.length = σ.length
  env : ∀ (i : Nat) sl o, st.env[i]? = some sl → σ[i]? = some o → RSl K ν H sl o
  clen : ν.length = st.cells.length
  cell : ∀ (n : Nat) c a, st.cells[n]? = some c → ν[n]? = some a → RCell K cl ν H c a
  inj : ∀ i j a, Own st.env σ i a → Own st.env σ j a → i = j
  sep : ∀ i a, Own st.env σ i a → a ∉ ν
  nd : ν.Nodup
/-- from one state to a later one -/
structure Pst (K : PySem.W.Frag) (cl : Nat → Addr) (ν : List Addr) (st : S) (σ : List (Option V)) (H : Hp) (ν' : List Addr) (st' : S) (σ' : List (Option V)) (H' : Hp) : Prop where
  pre : Pre K cl ν' st' σ' H'
  ext : ∃ m, ν' = ν ++ m
  frm : ∀ b o, H b = some o → ¬ Wr ν st.env σ b → H' b = some o
  fre : ∀ b, Wr ν' st'.env σ' b → Wr ν st.env σ b ∨ H b = none
  dom : ∀ b o, H b = some o → ∃ o', H' b = some o'
section
variable {K : PySem.W.Frag} {cl : Nat → Addr} {ν ν1 ν2 ν' : List Addr} {st st1 st2 st' : S} {σ σ1 σ2 σ' : List (Option V)} {H H1 H2 H' : Hp}
theorem Pre.own_obj (p : Pre K cl ν st σ H) {i : Nat} {a : Addr} (h : Own st.env σ i a) : ∃ o, H a = some o ∧ fz o = false ∧ Mut (some o) := by
  obtain ⟨sl, h1, h2, h3⟩ := h
  have r := p.env i sl _ h1 h3
  cases sl with
  | no => cases h2
  | sh d => cases h2
  | ol xs =>
    obtain ⟨b, vs, e, hb, _⟩ := r
    cases e
    exact ⟨_, hb, rfl, trivial⟩
  | od kvs =>
    obtain ⟨b, vs, e, hb, _⟩ := r
    cases e
    exact ⟨_, hb, rfl, trivial⟩
theorem Pre.cell_obj (p : Pre K cl ν st σ H) {a : Addr} (h : a ∈ ν) : ∃ o, H a = some o ∧ fz o = false ∧ Mut (some o) := by
  obtain ⟨n, hn⟩ := List.mem_iff_getElem?.mp h
  have hlt : n < st.cells.length := by rw [← p.clen]; exact (List.getElem?_eq_some_iff.mp hn).1
  have r := p.cell n _ a (List.getElem?_eq_getElem hlt) hn
  cases hc : st.cells[n] with
  | lst xs => rw [hc] at r; obtain ⟨vs, hb, _⟩ := r; exact ⟨_, hb, rfl, trivial⟩
  | dct kvs => rw [hc] at r; obtain ⟨vs, hb, _⟩ := r; exact ⟨_, hb, rfl, trivial⟩
  | ins c fs => rw [hc] at r; obtain ⟨dx, vs, hb, _⟩ := r; exact ⟨_, hb, rfl, trivial⟩
theorem Pre.wr_obj (p : Pre K cl ν st σ H) {a : Addr} (h : Wr ν st.env σ a) : ∃ o, H a = some o ∧ fz o = false ∧ Mut (some o) := by
  rcases h with ⟨i, h⟩ | h
  · exact p.own_obj h
  · exact p.cell_obj h
theorem Pre.nowr (p : Pre K cl ν st σ H) {a : Addr} {o : HO} (h : H a = some o) (f : fz o = true) : ¬ Wr ν st.env σ a := fun w => by
  obtain ⟨o', h1, h2, _⟩ := p.wr_obj w
  rw [h] at h1
  cases h1
  rw [f] at h2
  cases h2
theorem Pst.keep (p : Pre K cl ν st σ H) (t : Pst K cl ν st σ H ν' st' σ' H') : Keep H H' := fun a o h f => t.frm a o h (p.nowr h f)
theorem ext_refl (ν : List Addr) : ∃ m, ν = ν ++ m := ⟨[], by simp⟩
theorem ext_trans (a : ∃ m, ν1 = ν ++ m) (b : ∃ m, ν2 = ν1 ++ m) : ∃ m, ν2 = ν ++ m := by
  obtain ⟨m, rfl⟩ := a
  obtain ⟨m', rfl⟩ := b
  exact ⟨m ++ m', by simp⟩
theorem Pst.refl (p : Pre K cl ν st σ H) : Pst K cl ν st σ H ν st σ H := ⟨p, ext_refl ν, fun _ _ h _ => h, fun _ h => .inl h, fun _ o h => ⟨o, h⟩⟩
theorem Pst.trans (a : Pst K cl ν st σ H ν1 st1 σ1 H1) (b : Pst K cl ν1 st1 σ1 H1 ν2 st2 σ2 H2) : Pst K cl ν st σ H ν2 st2 σ2 H2 where
  pre := b.pre
  ext := ext_trans a.ext b.ext
  frm := fun c o h nw => b.frm c o (a.frm c o h nw) fun w1 => by
    rcases a.fre c w1 with w | w
    · exact nw w
    · rw [h] at w; cases w
  fre := fun c w2 => by
    rcases b.fre c w2 with w1 | w1
    · exact a.fre c w1
    · by_cases w : Wr ν st.env σ c
      · exact .inl w
      · refine .inr ?_
        cases q : H c with
        | none => rfl
        | some o => rw [a.frm c o q w] at w1; cases w1
  dom := fun c o h => by
    obtain ⟨o1, h1⟩ := a.dom c o h
    exact b.dom c o1 h1
/-- what was tracked stands -/
theorem Pre.same (p : Pre K cl ν st σ H) (s : Same H H') : Pre K cl ν st σ H' where
  len := p.len
  env := fun i sl o h1 h2 => by
    have r := p.env i sl o h1 h2
    have k := Keep.of_same s
    cases sl with
    | no => trivial
    | sh d => obtain ⟨v, e, r⟩ := r; exact ⟨v, e, r.mono k (ext_refl ν)⟩
    | ol xs => obtain ⟨a, vs, e, h, r⟩ := r; exact ⟨a, vs, e, s _ _ h, r.mono k (ext_refl ν)⟩
    | od xs => obtain ⟨a, vs, e, h, r⟩ := r; exact ⟨a, vs, e, s _ _ h, r.mono k (ext_refl ν)⟩
  clen := p.clen
  cell := fun n c a h1 h2 => by
    have r := p.cell n c a h1 h2
    have k := Keep.of_same s
    cases c with
    | lst xs => obtain ⟨vs, h, r⟩ := r; exact ⟨vs, s _ _ h, r.mono k (ext_refl ν)⟩
    | dct xs => obtain ⟨vs, h, r⟩ := r; exact ⟨vs, s _ _ h, r.mono k (ext_refl ν)⟩
    | ins c fs => obtain ⟨dx, vs, h, r⟩ := r; exact ⟨dx, vs, s _ _ h, r.mono k (ext_refl ν)⟩
  inj := p.inj
  sep := p.sep
  nd := p.nd
theorem Pst.same (p : Pre K cl ν st σ H) (s : Same H H') : Pst K cl ν st σ H ν st σ H' :=
  ⟨p.same s, ext_refl ν, fun b o h _ => s b o h, fun _ h => .inl h, fun b o h => ⟨o, s b o h⟩⟩

/-! ### what an expression's value is -/
def REv (K : PySem.W.Frag) (ν : List Addr) (env : List Sl) (σ : List (Option V)) (H H' : Hp) : Ev → V → Prop
  | .v d, v => RD K ν H' d v
  | .fl xs, v => ∃ a vs, v = .ref a ∧ H' a = some (.lst vs) ∧ RDs K ν H' xs vs ∧ ¬ Wr ν env σ a ∧ H a = none
  | .fd kvs, v => ∃ a vs, v = .ref a ∧ H' a = some (.dK vs) ∧ RDk K ν H' kvs vs ∧ ¬ Wr ν env σ a ∧ H a = none
  | .bo i, v => σ[i]? = some (some v)
/-- .. behind a later step -/
theorem REv.later {H0 : Hp} {e : Ev} {v : V} (p : Pre K cl ν st σ H) (t : Pst K cl ν st σ H ν' st' σ H') (r : REv K ν st.env σ H0 H e v) : REv K ν' st'.env σ H0 H' e v := by
  have k := t.keep p
  cases e with
  | v d => exact RD.mono k t.ext r
  | fl xs =>
    obtain ⟨a, vs, e, h, r, w, n⟩ := r
    refine ⟨a, vs, e, t.frm a _ h w, r.mono k t.ext, fun w' => ?_, n⟩
    rcases t.fre a w' with q | q
    · exact w q
    · rw [h] at q; cases q
  | fd xs =>
    obtain ⟨a, vs, e, h, r, w, n⟩ := r
    refine ⟨a, vs, e, t.frm a _ h w, r.mono k t.ext, fun w' => ?_, n⟩
    rcases t.fre a w' with q | q
    · exact w q
    · rw [h] at q; cases q
  | bo i => exact r
theorem Pst.none_back (t : Pst K cl ν st σ H ν1 st1 σ1 H1) {a : Addr} (h : H1 a = none) : H a = none := by
  cases q : H a with
  | none => rfl
  | some o =>
    obtain ⟨o', h'⟩ := t.dom a o q
    rw [h] at h'
    cases h'
/-- .. seen from an earlier beginning -/
theorem REv.early {e : Ev} {v : V} (t : Pst K cl ν st σ H ν1 st1 σ1 H1) {env : List Sl} (r : REv K ν2 env σ2 H1 H2 e v) : REv K ν2 env σ2 H H2 e v := by
  cases e with
  | v d => exact r
  | bo i => exact r
  | fl xs => obtain ⟨a, vs, e, h, r, w, n⟩ := r; exact ⟨a, vs, e, h, r, w, t.none_back n⟩
  | fd xs => obtain ⟨a, vs, e, h, r, w, n⟩ := r; exact ⟨a, vs, e, h, r, w, t.none_back n⟩
end
end DL

namespace DL
open PySem PySem.Spec PyProof.Rows L2

abbrev M (α : Type) := S → Option (α × S)
def viewD (cs : List Cell) : D → D
  | .loc n => match cs[n]? with
    | some (.lst xs) => .lst xs
    | some (.dct kvs) => .dct kvs
    | _ => .loc n
  | d => d
def view (st : S) : Ev → Option D
  | .v d => some (viewD st.cells d)
  | .fl xs => some (.lst xs)
  | .fd kvs => some (.dct kvs)
  | .bo i => match st.env[i]? with
    | some (.sh d) => some d
    | some (.ol xs) => some (.lst xs)
    | some (.od kvs) => some (.dct kvs)
    | _ => none
def freeze (st : S) : Ev → Option (D × S)
  | .v d => some (d, st)
  | .fl xs => some (.lst xs, st)
  | .fd kvs => some (.dct kvs, st)
  | .bo i => match st.env[i]? with
    | some (.sh d) => some (d, st)
    | some (.ol xs) => some (.lst xs, { st with env := st.env.set i (.sh (.lst xs)) })
    | some (.od kvs) => some (.dct kvs, { st with env := st.env.set i (.sh (.dct kvs)) })
    | _ => none

section
variable {K : PySem.W.Frag} {cl : Nat → Addr} {ν ν1 ν2 ν' : List Addr} {st st1 st2 st' : S} {σ σ1 σ2 σ' : List (Option V)} {H H0 H1 H2 H' : Hp}
theorem viewD_ok (p : Pre K cl ν st σ H) {d : D} {v : V} (r : RD K ν H d v) : RDr K ν H (viewD st.cells d) v := by
  cases r with
  | @loc a n h =>
    show RDr K ν H (match st.cells[n]? with
      | some (.lst xs) => .lst xs
      | some (.dct kvs) => .dct kvs
      | _ => .loc n) (.ref a)
    cases hc : st.cells[n]? with
    | none => exact .v (.loc h)
    | some c =>
      have q := p.cell n c a hc h
      cases c with
      | lst xs => obtain ⟨vs, hb, r⟩ := q; exact .lst hb r
      | dct kvs => obtain ⟨vs, hb, r⟩ := q; exact .dct hb r
      | ins c fs => exact .v (.loc h)
  | non => exact .v .non
  | bl b => exact .v (.bl b)
  | int b => exact .v (.int b)
  | str b => exact .v (.str b)
  | tup h r => exact .v (.tup h r)
  | lst h r => exact .v (.lst h r)
  | dct h r => exact .v (.dct h r)
  | scr h => exact .v (.scr h)
theorem slot_view (p : Pre K cl ν st σ H) {i : Nat} {v : V} (h : σ[i]? = some (some v)) {d : D} (e : (match st.env[i]? with
    | some (.sh d) => some d
    | some (.ol xs) => some (.lst xs)
    | some (.od kvs) => some (.dct kvs)
    | _ => none) = some d) : RDr K ν H d v := by
  cases he : st.env[i]? with
  | none => rw [he] at e; cases e
  | some sl =>
    have q := p.env i sl _ he h
    rw [he] at e
    cases sl with
    | no => cases e
    | sh d' =>
      cases e
      obtain ⟨v', e', r⟩ := q
      cases e'
      exact .v r
    | ol xs =>
      cases e
      obtain ⟨a, vs, e', hb, r⟩ := q
      cases e'
      exact .lst hb r
    | od xs =>
      cases e
      obtain ⟨a, vs, e', hb, r⟩ := q
      cases e'
      exact .dct hb r
theorem view_ok (p : Pre K cl ν st σ H) {e : Ev} {v : V} {d : D} (r : REv K ν st.env σ H0 H e v) (h : view st e = some d) : RDr K ν H d v := by
  cases e with
  | v d' => cases h; exact viewD_ok p r
  | fl xs => cases h; obtain ⟨a, vs, rfl, hb, r, _⟩ := r; exact .lst hb r
  | fd xs => cases h; obtain ⟨a, vs, rfl, hb, r, _⟩ := r; exact .dct hb r
  | bo i => exact slot_view p r h

/-! ### the heap at one place -/
theorem keep_upd {a : Addr} {o : HO} (h : ∀ u, H a = some u → fz u = false) : Keep H (upd H a o) := fun b u e f => by
  rw [upd_ne (fun z => by
    rw [z] at e
    have := h u e
    rw [f] at this
    cases this)]
  exact e
/-- an object that is no place's is changed, or new -/
theorem Pre.out (p : Pre K cl ν st σ H) {a : Addr} {o : HO} (w : ¬ Wr ν st.env σ a) (h : ∀ u, H a = some u → fz u = false) : Pre K cl ν st σ (upd H a o) where
  len := p.len
  env := fun i sl o' h1 h2 => by
    have r := p.env i sl o' h1 h2
    have k := keep_upd (o := o) h
    cases sl with
    | no => trivial
    | sh d => obtain ⟨v, e, r⟩ := r; exact ⟨v, e, r.mono k (ext_refl ν)⟩
    | ol xs =>
      obtain ⟨b, vs, e, hb, r⟩ := r
      refine ⟨b, vs, e, ?_, r.mono k (ext_refl ν)⟩
      rw [upd_ne fun z => w (.inl ⟨i, _, h1, rfl, by rw [h2, e, z]⟩)]
      exact hb
    | od xs =>
      obtain ⟨b, vs, e, hb, r⟩ := r
      refine ⟨b, vs, e, ?_, r.mono k (ext_refl ν)⟩
      rw [upd_ne fun z => w (.inl ⟨i, _, h1, rfl, by rw [h2, e, z]⟩)]
      exact hb
  clen := p.clen
  cell := fun n c b h1 h2 => by
    have r := p.cell n c b h1 h2
    have k := keep_upd (o := o) h
    have ne : b ≠ a := fun z => w (.inr (z ▸ List.mem_of_getElem? h2))
    cases c with
    | lst xs => obtain ⟨vs, hb, r⟩ := r; exact ⟨vs, by rw [upd_ne ne]; exact hb, r.mono k (ext_refl ν)⟩
    | dct xs => obtain ⟨vs, hb, r⟩ := r; exact ⟨vs, by rw [upd_ne ne]; exact hb, r.mono k (ext_refl ν)⟩
    | ins c fs => obtain ⟨dx, vs, hb, r⟩ := r; exact ⟨dx, vs, by rw [upd_ne ne]; exact hb, r.mono k (ext_refl ν)⟩
  inj := p.inj
  sep := p.sep
  nd := p.nd
theorem own_set {env : List Sl} {i j : Nat} {sl : Sl} {a b : Addr} (hi : σ[i]? = some (some (.ref a))) (h : Own (env.set i sl) σ j b) : (j = i ∧ b = a) ∨ (j ≠ i ∧ Own env σ j b) := by
  obtain ⟨sl', h1, h2, h3⟩ := h
  by_cases e : j = i
  · subst e
    rw [hi] at h3
    cases h3
    exact .inl ⟨rfl, rfl⟩
  · rw [List.getElem?_set_ne (Ne.symm e)] at h1
    exact .inr ⟨e, sl', h1, h2, h3⟩
/-- the object of a place is changed -/
theorem Pst.own (p : Pre K cl ν st σ H) {i : Nat} {a : Addr} {sl : Sl} {o : HO} (w : Own st.env σ i a) (new : RSl K ν (upd H a o) sl (some (.ref a))) :
    Pst K cl ν st σ H ν { st with env := st.env.set i sl } σ (upd H a o) := by
  obtain ⟨ob, ho, hf, hm⟩ := p.own_obj w
  have nf : ∀ u, H a = some u → fz u = false := fun u e => by rw [ho] at e; cases e; exact hf
  have k := keep_upd (o := o) nf
  have hi : σ[i]? = some (some (.ref a)) := let ⟨_, _, _, h⟩ := w; h
  have back : ∀ j b, Own (st.env.set i sl) σ j b → Own st.env σ j b := fun j b h => by
    rcases own_set hi h with ⟨rfl, rfl⟩ | ⟨_, h⟩
    · exact w
    · exact h
  refine ⟨⟨by rw [List.length_set]; exact p.len, fun j sl' o' h1 h2 => ?_, p.clen, fun n c b h1 h2 => ?_, fun j j' b h h' => p.inj j j' b (back _ _ h) (back _ _ h'), fun j b h => p.sep j b (back _ _ h), p.nd⟩, ext_refl ν, fun b u e nw => ?_, fun b h => ?_, fun b u e => ?_⟩
  · by_cases e : j = i
    · subst e
      have hlt : j < st.env.length := by rw [p.len]; exact (List.getElem?_eq_some_iff.mp hi).1
      rw [List.getElem?_set_self hlt] at h1
      cases h1
      rw [hi] at h2
      cases h2
      exact new
    · rw [List.getElem?_set_ne (Ne.symm e)] at h1
      have r := p.env j sl' o' h1 h2
      cases sl' with
      | no => trivial
      | sh d => obtain ⟨v, e, r⟩ := r; exact ⟨v, e, r.mono k (ext_refl ν)⟩
      | ol xs =>
        obtain ⟨b, vs, e', hb, r⟩ := r
        refine ⟨b, vs, e', ?_, r.mono k (ext_refl ν)⟩
        rw [upd_ne fun z => e (p.inj j i a ⟨_, h1, rfl, by rw [h2, e', z]⟩ w)]
        exact hb
      | od xs =>
        obtain ⟨b, vs, e', hb, r⟩ := r
        refine ⟨b, vs, e', ?_, r.mono k (ext_refl ν)⟩
        rw [upd_ne fun z => e (p.inj j i a ⟨_, h1, rfl, by rw [h2, e', z]⟩ w)]
        exact hb
  · have r := p.cell n c b h1 h2
    have ne : b ≠ a := fun z => p.sep i a w (z ▸ List.mem_of_getElem? h2)
    cases c with
    | lst xs => obtain ⟨vs, hb, r⟩ := r; exact ⟨vs, by rw [upd_ne ne]; exact hb, r.mono k (ext_refl ν)⟩
    | dct xs => obtain ⟨vs, hb, r⟩ := r; exact ⟨vs, by rw [upd_ne ne]; exact hb, r.mono k (ext_refl ν)⟩
    | ins c fs => obtain ⟨dx, vs, hb, r⟩ := r; exact ⟨dx, vs, by rw [upd_ne ne]; exact hb, r.mono k (ext_refl ν)⟩
  · rw [upd_ne (show b ≠ a from fun z => nw (.inl ⟨i, z ▸ w⟩))]
    exact e
  · rcases h with ⟨j, h⟩ | h
    · exact .inl (.inl ⟨j, back _ _ h⟩)
    · exact .inl (.inr h)
  · by_cases z : b = a
    · exact ⟨o, by rw [z, upd_same]⟩
    · exact ⟨u, by rw [upd_ne z]; exact e⟩
/-- the object of a cell is changed -/
theorem Pst.cellAt (p : Pre K cl ν st σ H) {n : Nat} {a : Addr} {c : Cell} {o : HO} (w : ν[n]? = some a) (new : RCell K cl ν (upd H a o) c a) :
    Pst K cl ν st σ H ν { st with cells := st.cells.set n c } σ (upd H a o) := by
  have wa : a ∈ ν := List.mem_of_getElem? w
  obtain ⟨ob, ho, hf, hm⟩ := p.cell_obj wa
  have nf : ∀ u, H a = some u → fz u = false := fun u e => by rw [ho] at e; cases e; exact hf
  have k := keep_upd (o := o) nf
  refine ⟨⟨p.len, fun j sl' o' h1 h2 => ?_, by rw [List.length_set]; exact p.clen, fun m c' b h1 h2 => ?_, p.inj, p.sep, p.nd⟩, ext_refl ν, fun b u e nw => ?_, fun b h => .inl h, fun b u e => ?_⟩
  · have r := p.env j sl' o' h1 h2
    cases sl' with
    | no => trivial
    | sh d => obtain ⟨v, e, r⟩ := r; exact ⟨v, e, r.mono k (ext_refl ν)⟩
    | ol xs =>
      obtain ⟨b, vs, e', hb, r⟩ := r
      refine ⟨b, vs, e', ?_, r.mono k (ext_refl ν)⟩
      rw [upd_ne fun z => p.sep j a ⟨_, h1, rfl, by rw [h2, e', z]⟩ wa]
      exact hb
    | od xs =>
      obtain ⟨b, vs, e', hb, r⟩ := r
      refine ⟨b, vs, e', ?_, r.mono k (ext_refl ν)⟩
      rw [upd_ne fun z => p.sep j a ⟨_, h1, rfl, by rw [h2, e', z]⟩ wa]
      exact hb
  · by_cases e : m = n
    · subst e
      have hlt : m < st.cells.length := by rw [← p.clen]; exact (List.getElem?_eq_some_iff.mp w).1
      have h1' : (st.cells.set m c)[m]? = some c' := h1
      rw [List.getElem?_set_self hlt] at h1'
      cases h1'
      rw [w] at h2
      cases h2
      exact new
    · have h1' : (st.cells.set n c)[m]? = some c' := h1
      rw [List.getElem?_set_ne (Ne.symm e)] at h1'
      have r := p.cell m c' b h1' h2
      have ne : b ≠ a := fun z => e (by
        subst z
        exact (List.getElem?_inj (List.getElem?_eq_some_iff.mp h2).1 p.nd).mp (h2.trans w.symm))
      cases c' with
      | lst xs => obtain ⟨vs, hb, r⟩ := r; exact ⟨vs, by rw [upd_ne ne]; exact hb, r.mono k (ext_refl ν)⟩
      | dct xs => obtain ⟨vs, hb, r⟩ := r; exact ⟨vs, by rw [upd_ne ne]; exact hb, r.mono k (ext_refl ν)⟩
      | ins c fs => obtain ⟨dx, vs, hb, r⟩ := r; exact ⟨dx, vs, by rw [upd_ne ne]; exact hb, r.mono k (ext_refl ν)⟩
  · rw [upd_ne (show b ≠ a from fun z => nw (.inr (z ▸ wa)))]
    exact e
  · by_cases z : b = a
    · exact ⟨o, by rw [z, upd_same]⟩
    · exact ⟨u, by rw [upd_ne z]; exact e⟩
/-- a new cell: an object that was new -/
theorem Pst.cellNew (t : Pst K cl ν st σ H ν1 st1 σ1 H1) {a : Addr} {c : Cell} (w : ¬ Wr ν1 st1.env σ1 a) (n : H a = none) (new : RCell K cl ν1 H1 c a) :
    Pst K cl ν st σ H (ν1 ++ [a]) { st1 with cells := st1.cells ++ [c] } σ1 H1 := by
  have p := t.pre
  have ex : ∃ m, ν1 ++ [a] = ν1 ++ m := ⟨_, rfl⟩
  have k := Keep.refl H1
  have cm : ∀ {c b}, RCell K cl ν1 H1 c b → RCell K cl (ν1 ++ [a]) H1 c b := fun {c b} r => by
    cases c with
    | lst xs => obtain ⟨vs, hb, r⟩ := r; exact ⟨vs, hb, r.mono k ex⟩
    | dct xs => obtain ⟨vs, hb, r⟩ := r; exact ⟨vs, hb, r.mono k ex⟩
    | ins c fs => obtain ⟨dx, vs, hb, r⟩ := r; exact ⟨dx, vs, hb, r.mono k ex⟩
  refine ⟨⟨p.len, fun j sl' o' h1 h2 => ?_, by simp [p.clen], fun m c' b h1 h2 => ?_, p.inj, fun i b h hb => ?_, ?_⟩, ext_trans t.ext ex, t.frm, fun b h => ?_, t.dom⟩
  · have r := p.env j sl' o' h1 h2
    cases sl' with
    | no => trivial
    | sh d => obtain ⟨v, e, r⟩ := r; exact ⟨v, e, r.mono k ex⟩
    | ol xs => obtain ⟨b, vs, e', hb, r⟩ := r; exact ⟨b, vs, e', hb, r.mono k ex⟩
    | od xs => obtain ⟨b, vs, e', hb, r⟩ := r; exact ⟨b, vs, e', hb, r.mono k ex⟩
  · have h1' : (st1.cells ++ [c])[m]? = some c' := h1
    by_cases e : m < st1.cells.length
    · rw [List.getElem?_append_left e] at h1'
      rw [List.getElem?_append_left (by rw [p.clen]; exact e)] at h2
      exact cm (p.cell m c' b h1' h2)
    · have em : m = st1.cells.length := by
        have := (List.getElem?_eq_some_iff.mp h1').1
        simp at this
        omega
      subst em
      rw [List.getElem?_append_right (Nat.le_refl _)] at h1'
      rw [← p.clen, List.getElem?_append_right (Nat.le_refl _)] at h2
      simp at h1' h2
      subst h1' h2
      exact cm new
  · rcases List.mem_append.mp hb with hb | hb
    · exact p.sep i b h hb
    · simp at hb
      subst hb
      exact w (.inl ⟨i, h⟩)
  · refine List.nodup_append.mpr ⟨p.nd, by simp, fun x hx y hy => ?_⟩
    simp at hy
    subst hy
    rintro rfl
    exact w (.inr hx)
  · rcases h with h | h
    · exact t.fre b (.inl h)
    · rcases List.mem_append.mp h with h | h
      · exact t.fre b (.inr h)
      · simp at h
        subst h
        exact .inr n
/-- a place gets a value -/
theorem own_setσ {env : List Sl} {i j : Nat} {sl : Sl} {v : Option V} {b : Addr} (hl : env.length = σ.length) (hi : i < σ.length) (h : Own (env.set i sl) (σ.set i v) j b) : (j = i ∧ owned sl = true ∧ v = some (.ref b)) ∨ (j ≠ i ∧ Own env σ j b) := by
  obtain ⟨sl', h1, h2, h3⟩ := h
  by_cases e : j = i
  · subst e
    rw [List.getElem?_set_self (by omega)] at h1
    rw [List.getElem?_set_self hi] at h3
    cases h1
    cases h3
    exact .inl ⟨rfl, h2, rfl⟩
  · rw [List.getElem?_set_ne (Ne.symm e)] at h1 h3
    exact .inr ⟨e, sl', h1, h2, h3⟩
/-- what a value is kept as -/
def slot : Ev → Sl
  | .v d => .sh d
  | .fl xs => .ol xs
  | .fd kvs => .od kvs
  | .bo _ => .no
theorem Pst.set (t : Pst K cl ν st σ H ν1 st1 σ1 H1) {i : Nat} {e : Ev} {v : V} (r : REv K ν1 st1.env σ1 H H1 e v) :
    Pst K cl ν st σ H ν1 { st1 with env := st1.env.set i (slot e) } (σ1.set i (some v)) H1 := by
  have p := t.pre
  by_cases hi : i < σ1.length
  · have back : ∀ j b, Own (st1.env.set i (slot e)) (σ1.set i (some v)) j b → (j = i ∧ ¬ Wr ν1 st1.env σ1 b ∧ H b = none) ∨ (j ≠ i ∧ Own st1.env σ1 j b) := fun j b h => by
      rcases own_setσ p.len hi h with ⟨rfl, h2, h3⟩ | h
      · cases h3
        refine .inl ⟨rfl, ?_⟩
        cases e with
        | v d => cases h2
        | bo i => cases h2
        | fl xs => obtain ⟨a, vs, e, _, _, w, n⟩ := r; cases e; exact ⟨w, n⟩
        | fd xs => obtain ⟨a, vs, e, _, _, w, n⟩ := r; cases e; exact ⟨w, n⟩
      · exact .inr h
    refine ⟨⟨by rw [List.length_set, List.length_set]; exact p.len, fun j sl' o' h1 h2 => ?_, p.clen, p.cell, fun j j' b h h' => ?_, fun j b h => ?_, p.nd⟩, t.ext, t.frm, fun b h => ?_, t.dom⟩
    · by_cases z : j = i
      · subst z
        rw [List.getElem?_set_self (by rw [p.len]; exact hi)] at h1
        rw [List.getElem?_set_self hi] at h2
        cases h1
        cases h2
        cases e with
        | v d => exact ⟨v, rfl, r⟩
        | bo i => trivial
        | fl xs => obtain ⟨a, vs, e, h, r, w, n⟩ := r; cases e; exact ⟨a, vs, rfl, h, r⟩
        | fd xs => obtain ⟨a, vs, e, h, r, w, n⟩ := r; cases e; exact ⟨a, vs, rfl, h, r⟩
      · rw [List.getElem?_set_ne (Ne.symm z)] at h1 h2
        exact p.env j sl' o' h1 h2
    · rcases back j b h with ⟨e1, w, _⟩ | ⟨_, h⟩
      · rcases back j' b h' with ⟨e2, _⟩ | ⟨_, h'⟩
        · rw [e1, e2]
        · exact absurd (.inl ⟨j', h'⟩) w
      · rcases back j' b h' with ⟨_, w, _⟩ | ⟨_, h'⟩
        · exact absurd (.inl ⟨j, h⟩) w
        · exact p.inj j j' b h h'
    · rcases back j b h with ⟨e1, w, _⟩ | ⟨_, h⟩
      · exact fun z => w (.inr z)
      · exact p.sep j b h
    · rcases h with ⟨j, h⟩ | h
      · rcases back j b h with ⟨_, _, n⟩ | ⟨_, h⟩
        · exact .inr n
        · exact t.fre b (.inl ⟨j, h⟩)
      · exact t.fre b (.inr h)
  · have e1 : st1.env.set i (slot e) = st1.env := List.set_eq_of_length_le (by rw [p.len]; omega)
    have e2 : σ1.set i (some v) = σ1 := List.set_eq_of_length_le (by omega)
    rw [e1, e2]
    exact t
end
end DL

namespace DL
open PySem PySem.Spec PyProof.Rows L2

/-! ### readings -/
def tE (K : PySem.W.Frag) (cl : Nat → Addr) (f : M Ev) : TE := fun σ H Q => ∃ ν st e st', Pre K cl ν st σ H ∧ f st = some (e, st') ∧
  ∀ v ν' H', Pst K cl ν st σ H ν' st' σ H' → REv K ν' st'.env σ H H' e v → Q v H'
def tD (K : PySem.W.Frag) (cl : Nat → Addr) (f : M D) : TE := fun σ H Q => ∃ ν st d st', Pre K cl ν st σ H ∧ f st = some (d, st') ∧
  ∀ v ν' H', Pst K cl ν st σ H ν' st' σ H' → RD K ν' H' d v → Q v H'
def tT (K : PySem.W.Frag) (cl : Nat → Addr) (f : M Bool) : TT := fun σ H Q => ∃ ν st b st', Pre K cl ν st σ H ∧ f st = some (b, st') ∧
  ∀ ν' H', Pst K cl ν st σ H ν' st' σ H' → Q b H'
/-- frozen arguments -/
def tAf (K : PySem.W.Frag) (cl : Nat → Addr) (f : M (List D)) : TA := fun σ H Q => ∃ ν st ds st', Pre K cl ν st σ H ∧ f st = some (ds, st') ∧
  ∀ vs ν' H', Pst K cl ν st σ H ν' st' σ H' → RDs K ν' H' ds vs → Q vs H'
def frA : Ev → V → Option Addr
  | .fl _, .ref a => some a
  | .fd _, .ref a => some a
  | _, _ => none
inductive REvs (K : PySem.W.Frag) (ν : List Addr) (env : List Sl) (σ : List (Option V)) (H H' : Hp) : List Ev → List V → Prop
  | nil : REvs K ν env σ H H' [] []
  | cons {e : Ev} {v : V} {es : List Ev} {vs : List V} : REv K ν env σ H H' e v → REvs K ν env σ H H' es vs → (∀ a, frA e v = some a → ∀ p ∈ es.zip vs, frA p.1 p.2 ≠ some a) → REvs K ν env σ H H' (e :: es) (v :: vs)
/-- arguments as they come -/
def tAu (K : PySem.W.Frag) (cl : Nat → Addr) (f : M (List Ev)) : TA := fun σ H Q => ∃ ν st es st', Pre K cl ν st σ H ∧ f st = some (es, st') ∧
  ∀ vs ν' H', Pst K cl ν st σ H ν' st' σ H' → REvs K ν' st'.env σ H H' es vs → Q vs H'
def endOf (K : PySem.W.Frag) (D : Ends) (ν' : List Addr) (σ' : L2.St) (H' : Hp) : Out → Prop
  | .nx => D.nx σ' H'
  | .bk => D.bk σ' H'
  | .ct => D.ct σ' H'
  | .rt d => ∀ v, RD K ν' H' d v → D.rt v H'
def tS (K : PySem.W.Frag) (cl : Nat → Addr) (f : M Out) : TS := fun D σ H => ∃ ν st o st', Pre K cl ν st σ H ∧ f st = some (o, st') ∧
  ∀ ν' σ' H', Pst K cl ν st σ H ν' st' σ' H' → endOf K D ν' σ' H' o

section
variable {X : Cx} {cl : Nat → Addr} {e a b c : Expr} {pos : Pos}
theorem PE_wk {t t' : TE} (h : PE X e t) (hw : ∀ σ H Q, t' σ H Q → t σ H Q) : PE X e t' := ⟨fun pins s σ H Q I q => h.run pins s σ H Q I (hw σ H Q q)⟩
theorem PT_wk {t t' : TT} (h : PT X e t) (hw : ∀ σ H Q, t' σ H Q → t σ H Q) : PT X e t' := ⟨fun pins s σ H Q I q => h.run pins s σ H Q I (hw σ H Q q)⟩
theorem PA_wk {es : List Expr} {t t' : TA} (h : PA X es t) (hw : ∀ σ H Q, t' σ H Q → t σ H Q) : PA X es t' := ⟨fun pos pins s σ H Q I q => h.run pos pins s σ H Q I (hw σ H Q q)⟩
theorem PS_wk {st : Stmt} {t t' : TS} (h : PS X st t) (hw : ∀ D σ H, t' D σ H → t D σ H) : PS X st t' := ⟨fun pins s σ H D I q => h.run pins s σ H D I (hw D σ H q)⟩
theorem PSs_wk {st : List Stmt} {t t' : TS} (h : PSs X st t) (hw : ∀ D σ H, t' D σ H → t D σ H) : PSs X st t' := ⟨fun pins s σ H D I q => h.run pins s σ H D I (hw D σ H q)⟩
end

/-! ### the heap, seen from the beginning -/
section
variable {K : PySem.W.Frag} {cl : Nat → Addr} {ν ν1 ν2 ν' : List Addr} {st st1 st2 st' : S} {σ σ1 σ2 σ' : List (Option V)} {H H0 H1 H2 H' : Hp}
theorem Pst.out (t : Pst K cl ν st σ H ν1 st1 σ1 H1) {a : Addr} {o : HO} (w : ¬ Wr ν1 st1.env σ1 a) (n : H a = none) (nf : ∀ u, H1 a = some u → fz u = false) : Pst K cl ν st σ H ν1 st1 σ1 (upd H1 a o) :=
  ⟨t.pre.out w nf, t.ext, fun b u e nw => by
    rw [upd_ne (ne_of_none e n)]
    exact t.frm b u e nw, t.fre, fun b u e => by
    rw [upd_ne (ne_of_none e n)]
    exact t.dom b u e⟩
theorem Pst.andSame (t : Pst K cl ν st σ H ν1 st1 σ1 H1) (s : Same H1 H2) : Pst K cl ν st σ H ν1 st1 σ1 H2 := t.trans (t.pre.same s |> fun _ => Pst.same t.pre s)
/-- a new value, from an operation that writes nothing -/
def NEv (K : PySem.W.Frag) (ν : List Addr) (H H' : Hp) : Ev → V → Prop
  | .v d, v => RD K ν H' d v
  | .fl xs, v => ∃ a vs, v = .ref a ∧ H a = none ∧ H' a = some (.lst vs) ∧ RDs K ν H' xs vs
  | .fd kvs, v => ∃ a vs, v = .ref a ∧ H a = none ∧ H' a = some (.dK vs) ∧ RDk K ν H' kvs vs
  | .bo _, _ => False
theorem NEv.rev {e : Ev} {v : V} (t : Pst K cl ν st σ H ν1 st1 σ1 H1) (n : NEv K ν1 H1 H2 e v) : REv K ν1 st1.env σ1 H H2 e v := by
  have nw : ∀ a, H1 a = none → ¬ Wr ν1 st1.env σ1 a := fun a h w => by
    obtain ⟨o, q, _⟩ := t.pre.wr_obj w
    rw [h] at q
    cases q
  cases e with
  | v d => exact n
  | fl xs => obtain ⟨a, vs, e, h0, h, r⟩ := n; exact ⟨a, vs, e, h, r, nw a h0, t.none_back h0⟩
  | fd xs => obtain ⟨a, vs, e, h0, h, r⟩ := n; exact ⟨a, vs, e, h, r, nw a h0, t.none_back h0⟩
  | bo i => exact n.elim
inductive RDrs (K : PySem.W.Frag) (ν : List Addr) (H : Hp) : List D → List V → Prop
  | nil : RDrs K ν H [] []
  | cons {d : D} {v : V} {ds : List D} {vs : List V} : RDr K ν H d v → RDrs K ν H ds vs → RDrs K ν H (d :: ds) (v :: vs)
def views (st : S) : List Ev → Option (List D)
  | [] => some []
  | e :: es => match view st e with
    | none => none
    | some d => match views st es with
      | none => none
      | some ds => some (d :: ds)
theorem views_ok (p : Pre K cl ν st σ H) : ∀ {es : List Ev} {vs : List V} {ds : List D}, REvs K ν st.env σ H0 H es vs → views st es = some ds → RDrs K ν H ds vs
  | _, _, _, .nil, h => by cases h; exact .nil
  | _, _, ds, .cons (e := e) (es := es) r rs _, h => by
    unfold views at h
    cases h1 : view st e with
    | none => rw [h1] at h; cases h
    | some d =>
      rw [h1] at h
      cases h2 : views st es with
      | none => rw [h2] at h; cases h
      | some ds' =>
        rw [h2] at h
        cases h
        exact .cons (view_ok p r h1) (views_ok p rs h2)
end

/-! operations by values -/
def r2 (K : PySem.W.Frag) (g : D → D → Option Ev) : R2 := fun x y H Q => ∃ ν d1 d2 e, RDr K ν H d1 x ∧ RDr K ν H d2 y ∧ g d1 d2 = some e ∧ ∀ v H', Same H H' → NEv K ν H H' e v → Q v H'
def r1 (K : PySem.W.Frag) (g : D → Option Ev) : V → Hp → VK → Prop := fun x H Q => ∃ ν d1 e, RDr K ν H d1 x ∧ g d1 = some e ∧ ∀ v H', Same H H' → NEv K ν H H' e v → Q v H'
def rL (K : PySem.W.Frag) (g : List D → Option Ev) : List V → Hp → VK → Prop := fun xs H Q => ∃ ν ds e, RDrs K ν H ds xs ∧ g ds = some e ∧ ∀ v H', Same H H' → NEv K ν H H' e v → Q v H'
def rM (K : PySem.W.Frag) (g : D → List D → Option Ev) : V → List V → Hp → VK → Prop := fun x xs H Q => ∃ ν d ds e, RDr K ν H d x ∧ RDrs K ν H ds xs ∧ g d ds = some e ∧ ∀ v H', Same H H' → NEv K ν H H' e v → Q v H'

/-! ### the terms -/
def dBind {α β : Type} (f : M α) (k : α → M β) : M β := fun st => match f st with
  | none => none
  | some (x, s) => k x s
def dPure {α : Type} (x : α) : M α := fun st => some (x, st)
def dVar (i : Nat) : M Ev := fun st => match st.env[i]? with
  | some (.sh d) => some (.v d, st)
  | some (.ol _) => some (.bo i, st)
  | some (.od _) => some (.bo i, st)
  | _ => none
def dC (d : D) : M Ev := fun st => some (.v d, st)
def dOp2 (g : D → D → Option Ev) (fa fb : M Ev) : M Ev := fun st => match fa st with
  | none => none
  | some (ea, s1) => match fb s1 with
    | none => none
    | some (eb, s2) => match view s2 ea with
      | none => none
      | some d1 => match view s2 eb with
        | none => none
        | some d2 => match g d1 d2 with
          | none => none
          | some e => some (e, s2)
def dOp1 (g : D → Option Ev) (fa : M Ev) : M Ev := fun st => match fa st with
  | none => none
  | some (ea, s1) => match view s1 ea with
    | none => none
    | some d1 => match g d1 with
      | none => none
      | some e => some (e, s1)
def dOpL (g : List D → Option Ev) (fa : M (List Ev)) : M Ev := fun st => match fa st with
  | none => none
  | some (es, s1) => match views s1 es with
    | none => none
    | some ds => match g ds with
      | none => none
      | some e => some (e, s1)
def dFrz (f : M Ev) : M D := fun st => match f st with
  | none => none
  | some (e, s) => freeze s e
def unbo (f : M Ev) : M Ev := fun st => match f st with
  | some (.bo i, s) => match freeze s (.bo i) with
    | none => none
    | some (d, s') => some (.v d, s')
  | r => r
def dNilU : M (List Ev) := fun st => some ([], st)
def dConsU (f : M Ev) (g : M (List Ev)) : M (List Ev) := fun st => match f st with
  | none => none
  | some (e, s1) => match g s1 with
    | none => none
    | some (es, s2) => some (e :: es, s2)
def dNilF : M (List D) := fun st => some ([], st)
def dConsF (f : M Ev) (g : M (List D)) : M (List D) := fun st => match dFrz f st with
  | none => none
  | some (e, s1) => match g s1 with
    | none => none
    | some (es, s2) => some (e :: es, s2)
def trueD : D → Option Bool
  | .bl b => some b
  | .int i => some (decide (i ≠ 0))
  | .str x => some (x.length != 0)
  | .tup xs => some (!xs.isEmpty)
  | .lst xs => some (!xs.isEmpty)
  | .non => some false
  | _ => none
/-- a value as a test: a bool alone -/
def dTest (f : M Ev) : M Bool := fun st => match f st with
  | some (.v (.bl b), s) => some (b, s)
  | _ => none
def dNotT (f : M Bool) : M Bool := fun st => match f st with
  | none => none
  | some (b, s) => some (!b, s)
def dAndT (f g : M Bool) : M Bool := fun st => match f st with
  | none => none
  | some (true, s) => g s
  | some (false, s) => some (false, s)
def dOrT (f g : M Bool) : M Bool := fun st => match f st with
  | none => none
  | some (true, s) => some (true, s)
  | some (false, s) => g s
/-- a test as a value -/
def dVal (f : M Bool) : M Ev := fun st => match f st with
  | none => none
  | some (b, s) => some (.v (.bl b), s)
def dIf {α : Type} (c : M Bool) (f g : M α) : M α := fun st => match c st with
  | none => none
  | some (true, s) => f s
  | some (false, s) => g s

section
variable {X : Cx} {cl : Nat → Addr} {e a b c : Expr} {pos : Pos} {f fa fb fc : M Ev}
theorem se_var {i : Nat} {x : Str} (h : PE X (.Name x pos) (tVar i)) : PE X (.Name x pos) (tE X.K cl (dVar i)) := by
  refine PE_wk h fun σ H Q q => ?_
  obtain ⟨ν, st, e, st', p, hf, k⟩ := q
  unfold dVar at hf
  cases he : st.env[i]? with
  | none => rw [he] at hf; cases hf
  | some sl =>
    rw [he] at hf
    have hlt : i < σ.length := by rw [← p.len]; exact (List.getElem?_eq_some_iff.mp he).1
    have r := p.env i sl _ he (List.getElem?_eq_getElem hlt)
    cases sl with
    | no => cases hf
    | sh d =>
      cases hf
      obtain ⟨v, e1, r⟩ := r
      exact ⟨v, by rw [List.getElem?_eq_getElem hlt, e1], k v ν H (.refl p) r⟩
    | ol xs =>
      cases hf
      obtain ⟨a, vs, e1, r⟩ := r
      have e2 : σ[i]? = some (some (.ref a)) := by rw [List.getElem?_eq_getElem hlt, e1]
      exact ⟨.ref a, e2, k _ ν H (.refl p) e2⟩
    | od xs =>
      cases hf
      obtain ⟨a, vs, e1, r⟩ := r
      have e2 : σ[i]? = some (some (.ref a)) := by rw [List.getElem?_eq_getElem hlt, e1]
      exact ⟨.ref a, e2, k _ ν H (.refl p) e2⟩
theorem sv_l (i : Nat) {x : Str} (hN : X.N[i]? = some x) (hk : X.env.scope.names.lookup x = some .local) (hd : (x == ("__debug__" : Str)) = false := by kernel_rfl) (hcd : (x == ("__classdict__" : Str)) = false := by kernel_rfl) : PE X (.Name x pos) (tE X.K cl (dVar i)) := se_var (pe_var hN (.inl hk) hd hcd)
theorem sv_c (i : Nat) {x : Str} (hN : X.N[i]? = some x) (hk : X.env.scope.names.lookup x = some .cell) (hd : (x == ("__debug__" : Str)) = false := by kernel_rfl) (hcd : (x == ("__classdict__" : Str)) = false := by kernel_rfl) : PE X (.Name x pos) (tE X.K cl (dVar i)) := se_var (pe_var hN (.inr (.inl hk)) hd hcd)
theorem sv_f (i : Nat) {x : Str} (hN : X.N[i]? = some x) (hk : X.env.scope.names.lookup x = some .free) (hd : (x == ("__debug__" : Str)) = false := by kernel_rfl) (hcd : (x == ("__classdict__" : Str)) = false := by kernel_rfl) : PE X (.Name x pos) (tE X.K cl (dVar i)) := se_var (pe_var hN (.inr (.inr hk)) hd hcd)
theorem se_c {d : D} {v : V} (h : PE X e (tC v)) (r : ∀ ν H, RD X.K ν H d v) : PE X e (tE X.K cl (dC d)) := by
  refine PE_wk h fun σ H Q q => ?_
  obtain ⟨ν, st, e, st', p, hf, k⟩ := q
  cases hf
  exact k v ν H (.refl p) (r ν H)
theorem se_int {i : Int} {j : Nat} : PE X (.Constant (.int i) j pos) (tE X.K cl (dC (.int i))) := se_c pe_int fun _ _ => .int i
theorem se_bl {i : Bool} {j : Nat} : PE X (.Constant (.bool i) j pos) (tE X.K cl (dC (.bl i))) := se_c pe_bl fun _ _ => .bl i
theorem se_non {j : Nat} : PE X (.Constant .none j pos) (tE X.K cl (dC .non)) := se_c pe_non fun _ _ => .non
theorem se_str {x : Str} {j : Nat} : PE X (.Constant (.str x) j pos) (tE X.K cl (dC (.str x))) := se_c pe_str fun _ _ => .str x

/-- the pattern of two expressions in a row -/
theorem two {σ : L2.St} {H : Hp} {Q : VK} {g : D → D → Option Ev} {r : R2} (hr : ∀ x y H Q, r2 X.K g x y H Q → r x y H Q) (h : tE X.K cl (dOp2 g fa fb) σ H Q) :
    tE X.K cl fa σ H fun x H1 => tE X.K cl fb σ H1 fun y H2 => r x y H2 Q := by
  obtain ⟨ν, st, e, st', p, hf, k⟩ := h
  unfold dOp2 at hf
  cases h1 : fa st with
  | none => rw [h1] at hf; cases hf
  | some w1 =>
    obtain ⟨ea, s1⟩ := w1
    simp only [h1] at hf
    cases h2 : fb s1 with
    | none => rw [h2] at hf; cases hf
    | some w2 =>
      obtain ⟨eb, s2⟩ := w2
      simp only [h2] at hf
      cases h3 : view s2 ea with
      | none => rw [h3] at hf; cases hf
      | some d1 =>
        simp only [h3] at hf
        cases h4 : view s2 eb with
        | none => rw [h4] at hf; cases hf
        | some d2 =>
          simp only [h4] at hf
          cases h5 : g d1 d2 with
          | none => rw [h5] at hf; cases hf
          | some e' =>
            simp only [h5] at hf
            cases hf
            refine ⟨ν, st, ea, s1, p, h1, fun x ν1 H1 t1 q1 => ⟨ν1, s1, eb, _, t1.pre, h2, fun y ν2 H2 t2 q2 => hr x y H2 Q ⟨ν2, d1, d2, _, view_ok t2.pre (q1.later t1.pre t2) h3, view_ok t2.pre q2 h4, h5, fun v H' sm n => ?_⟩⟩⟩
            have t := t1.trans t2
            exact k v ν2 H' (t.andSame sm) (n.rev t)
theorem one {σ : L2.St} {H : Hp} {Q : VK} {g : D → Option Ev} {r : V → Hp → VK → Prop} (hr : ∀ x H Q, r1 X.K g x H Q → r x H Q) (h : tE X.K cl (dOp1 g fa) σ H Q) :
    tE X.K cl fa σ H fun x H1 => r x H1 Q := by
  obtain ⟨ν, st, e, st', p, hf, k⟩ := h
  unfold dOp1 at hf
  cases h1 : fa st with
  | none => rw [h1] at hf; cases hf
  | some w1 =>
    obtain ⟨ea, s1⟩ := w1
    simp only [h1] at hf
    cases h3 : view s1 ea with
    | none => rw [h3] at hf; cases hf
    | some d1 =>
      simp only [h3] at hf
      cases h5 : g d1 with
      | none => rw [h5] at hf; cases hf
      | some e' =>
        simp only [h5] at hf
        cases hf
        refine ⟨ν, st, ea, _, p, h1, fun x ν1 H1 t1 q1 => hr x H1 Q ⟨ν1, d1, _, view_ok t1.pre q1 h3, h5, fun v H' sm n => ?_⟩⟩
        exact k v ν1 H' (t1.andSame sm) (n.rev t1)
theorem many {σ : L2.St} {H : Hp} {Q : VK} {fl : M (List Ev)} {g : List D → Option Ev} {r : List V → Hp → VK → Prop} (hr : ∀ x H Q, rL X.K g x H Q → r x H Q) (h : tE X.K cl (dOpL g fl) σ H Q) :
    tAu X.K cl fl σ H fun xs H1 => r xs H1 Q := by
  obtain ⟨ν, st, e, st', p, hf, k⟩ := h
  unfold dOpL at hf
  cases h1 : fl st with
  | none => rw [h1] at hf; cases hf
  | some w1 =>
    obtain ⟨ea, s1⟩ := w1
    simp only [h1] at hf
    cases h3 : views s1 ea with
    | none => rw [h3] at hf; cases hf
    | some d1 =>
      simp only [h3] at hf
      cases h5 : g d1 with
      | none => rw [h5] at hf; cases hf
      | some e' =>
        simp only [h5] at hf
        cases hf
        refine ⟨ν, st, ea, _, p, h1, fun x ν1 H1 t1 q1 => hr x H1 Q ⟨ν1, d1, _, views_ok t1.pre q1 h3, h5, fun v H' sm n => ?_⟩⟩
        exact k v ν1 H' (t1.andSame sm) (n.rev t1)
theorem se_op {op : Operator} {g : D → D → Option Ev} (ho : OpR X (binaryOp op) (r2 X.K g)) (ha : PE X a (tE X.K cl fa)) (hb : PE X b (tE X.K cl fb)) : PE X (.BinOp a op b pos) (tE X.K cl (dOp2 g fa fb)) :=
  PE_wk (pe_op ho ha hb) fun _ _ _ h => two (fun _ _ _ _ q => q) h
theorem se_cmp {op : CmpOp} {g : D → D → Option Ev} (ho : OpR X (compareOp op) (r2 X.K g)) (ha : PE X a (tE X.K cl fa)) (hb : PE X b (tE X.K cl fb)) (hm : behindInMarks op b = false) : PE X (.Compare a [op] [b] pos) (tE X.K cl (dOp2 g fa fb)) :=
  PE_wk (pe_cmpR ho ha hb hm) fun _ _ _ h => two (fun _ _ _ _ q => q) h
theorem test_of {σ : L2.St} {H : Hp} {Q : Bool → Hp → Prop} (h : tT X.K cl (dTest f) σ H Q) : tE X.K cl f σ H fun x H' => ∃ k, x = .bl k ∧ Q k H' := by
  obtain ⟨ν, st, b, st', p, hf, k⟩ := h
  unfold dTest at hf
  cases h1 : f st with
  | none => rw [h1] at hf; cases hf
  | some w1 =>
    obtain ⟨ea, s1⟩ := w1
    rw [h1] at hf
    cases ea with
    | v d =>
      cases d with
      | bl b' =>
        cases hf
        refine ⟨ν, st, _, _, p, h1, fun x ν1 H1 t1 q1 => ⟨b, ?_, k ν1 H1 t1⟩⟩
        have q1' : RD X.K ν1 H1 (.bl b) x := q1
        cases q1'
        rfl
      | _ => cases hf
    | _ => cases hf
theorem st_cmp {op : CmpOp} {g : D → D → Option Ev} (ho : OpR X (compareOp op) (r2 X.K g)) (ha : PE X a (tE X.K cl fa)) (hb : PE X b (tE X.K cl fb)) (hm : behindInMarks op b = false) : PT X (.Compare a [op] [b] pos) (tT X.K cl (dTest (dOp2 g fa fb))) :=
  PT_wk (pt_cmpR ho ha hb hm) fun _ _ _ h => two (fun _ _ _ _ q => q) (test_of h)
theorem se_un {op : UnaryOp} {g : D → Option Ev} (ho : UnR X (unaryOp op) (r1 X.K g)) (ha : PE X a (tE X.K cl fa)) : PE X (.UnaryOp op a pos) (tE X.K cl (dOp1 g fa)) :=
  PE_wk (pe_un ho ha) fun _ _ _ h => one (fun _ _ _ q => q) h
/-- a value that is a bool, as a test -/
theorem st_val (h : PE X e (tE X.K cl f)) (he : ∀ whole, isTrue e X.env whole = (do let v ← whole; standAt e.pos; holding [v] (truthy v)) := by intro _; kernel_rfl) : PT X e (tT X.K cl (dTest f)) :=
  PT_wk (pt_val h he) fun _ _ _ q => test_of q
theorem st_not {g : M Bool} (h : PT X a (tT X.K cl g)) : PT X (.UnaryOp .Not a pos) (tT X.K cl (dNotT g)) := by
  refine PT_wk (pt_not h) fun σ H Q q => ?_
  obtain ⟨ν, st, b, st', p, hf, k⟩ := q
  unfold dNotT at hf
  cases h1 : g st with
  | none => rw [h1] at hf; cases hf
  | some w1 =>
    rw [h1] at hf
    cases hf
    exact ⟨ν, st, _, _, p, h1, fun ν1 H1 t1 => k ν1 H1 t1⟩
theorem seq_tt {α : Type} {σ : L2.St} {H : Hp} {g : M Bool} {ν : List Addr} {st st' : S} {x : α} {f1 f2 : M α} (p : Pre X.K cl ν st σ H)
    (hf : dIf g f1 f2 st = some (x, st')) {R : Bool → Hp → Prop} (hR : ∀ b s1 ν1 H1, Pst X.K cl ν st σ H ν1 s1 σ H1 → (if b = true then f1 s1 else f2 s1) = some (x, st') → R b H1) : tT X.K cl g σ H R := by
  unfold dIf at hf
  cases h1 : g st with
  | none => rw [h1] at hf; cases hf
  | some w1 =>
    obtain ⟨b, s1⟩ := w1
    rw [h1] at hf
    refine ⟨ν, st, b, s1, p, h1, fun ν1 H1 t1 => hR b s1 ν1 H1 t1 ?_⟩
    cases b with
    | true => exact hf
    | false => exact hf
theorem st_and {g g' : M Bool} {rest : List Expr} (ha : PT X a (tT X.K cl g)) (hb : PW X (.BoolOp .And (b :: rest) pos) (tT X.K cl g')) : PW X (.BoolOp .And (a :: b :: rest) pos) (tT X.K cl (dAndT g g')) := by
  refine ⟨fun wh pins s σ H Q I q => (pw_and ha hb).run wh pins s σ H Q I ?_⟩
  obtain ⟨ν, st, x, st', p, hf, k⟩ := q
  refine seq_tt p (f1 := g') (f2 := dPure false) (x := x) (st' := st') ?_ fun b s1 ν1 H1 t1 h1 => ?_
  · unfold dAndT at hf
    unfold dIf
    cases h1 : g st with
    | none => rw [h1] at hf; cases hf
    | some w1 =>
      obtain ⟨b, s1⟩ := w1
      rw [h1] at hf
      cases b <;> exact hf
  · cases b with
    | true => exact ⟨ν1, s1, x, st', t1.pre, h1, fun ν2 H2 t2 => k ν2 H2 (t1.trans t2)⟩
    | false => cases h1; exact k ν1 H1 t1
theorem st_or {g g' : M Bool} {rest : List Expr} (ha : PT X a (tT X.K cl g)) (hb : PW X (.BoolOp .Or (b :: rest) pos) (tT X.K cl g')) : PW X (.BoolOp .Or (a :: b :: rest) pos) (tT X.K cl (dOrT g g')) := by
  refine ⟨fun wh pins s σ H Q I q => (pw_or ha hb).run wh pins s σ H Q I ?_⟩
  obtain ⟨ν, st, x, st', p, hf, k⟩ := q
  refine seq_tt p (f1 := dPure true) (f2 := g') (x := x) (st' := st') ?_ fun b s1 ν1 H1 t1 h1 => ?_
  · unfold dOrT at hf
    unfold dIf
    cases h1 : g st with
    | none => rw [h1] at hf; cases hf
    | some w1 =>
      obtain ⟨b, s1⟩ := w1
      rw [h1] at hf
      cases b <;> exact hf
  · cases b with
    | false => exact ⟨ν1, s1, x, st', t1.pre, h1, fun ν2 H2 t2 => k ν2 H2 (t1.trans t2)⟩
    | true => cases h1; exact k ν1 H1 t1
theorem sw_and1 {g : M Bool} (ha : PT X a (tT X.K cl g)) : PW X (.BoolOp .And [a] pos) (tT X.K cl g) := pw_and1 ha
theorem sw_or1 {g : M Bool} (ha : PT X a (tT X.K cl g)) : PW X (.BoolOp .Or [a] pos) (tT X.K cl g) := pw_or1 ha
/-- and, or, not as values -/
theorem val_of {σ : L2.St} {H : Hp} {Q : VK} {g : M Bool} (h : tE X.K cl (dVal g) σ H Q) : tT X.K cl g σ H fun b H' => Q (.bl b) H' := by
  obtain ⟨ν, st, e, st', p, hf, k⟩ := h
  unfold dVal at hf
  cases h1 : g st with
  | none => rw [h1] at hf; cases hf
  | some w1 =>
    obtain ⟨b, s1⟩ := w1
    rw [h1] at hf
    cases hf
    exact ⟨ν, st, b, _, p, h1, fun ν1 H1 t1 => k _ ν1 H1 t1 (RD.bl b)⟩
theorem se_not {g : M Ev} (h : PE X a (tE X.K cl g)) : PE X (.UnaryOp .Not a pos) (tE X.K cl (dVal (dNotT (dTest g)))) := by
  refine PE_wk (pe_not h) fun σ H Q q => ?_
  obtain ⟨ν, st, b, st', p, hf, k⟩ := val_of q
  unfold dNotT at hf
  cases h1 : dTest g st with
  | none => rw [h1] at hf; cases hf
  | some w1 =>
    obtain ⟨b', s1⟩ := w1
    rw [h1] at hf
    cases hf
    exact test_of (Q := fun c H1 => Q (.bl (!c)) H1) ⟨ν, st, b', _, p, h1, fun ν1 H1 t1 => k ν1 H1 t1⟩
theorem se_and1 {op : BoolOp} (h : PE X a (tE X.K cl f)) : PE X (.BoolOp op [a] pos) (tE X.K cl f) := pe_one h
/-- x and rest: x a bool -/
def dAndV (f g : M Ev) : M Ev := fun st => match dTest f st with
  | none => none
  | some (true, s) => g s
  | some (false, s) => some (.v (.bl false), s)
def dOrV (f g : M Ev) : M Ev := fun st => match dTest f st with
  | none => none
  | some (true, s) => some (.v (.bl true), s)
  | some (false, s) => g s
theorem se_and {rest : List Expr} (ha : PE X a (tE X.K cl fa)) (hb : PE X (.BoolOp .And (b :: rest) pos) (tE X.K cl fb)) : PE X (.BoolOp .And (a :: b :: rest) pos) (tE X.K cl (dAndV fa fb)) := by
  refine PE_wk (pe_and ha hb) fun σ H Q q => ?_
  obtain ⟨ν, st, e, st', p, hf, k⟩ := q
  unfold dAndV at hf
  cases h1 : dTest fa st with
  | none => rw [h1] at hf; cases hf
  | some w1 =>
    obtain ⟨b', s1⟩ := w1
    rw [h1] at hf
    refine test_of (Q := fun c H1 => if c = true then tE X.K cl fb σ H1 Q else Q (.bl false) H1) ⟨ν, st, b', s1, p, h1, fun ν1 H1 t1 => ?_⟩
    cases b' with
    | true => exact iteT ⟨ν1, s1, e, st', t1.pre, hf, fun v ν2 H2 t2 r => k v ν2 H2 (t1.trans t2) (r.early t1)⟩
    | false => cases hf; exact iteF (k _ ν1 H1 t1 (RD.bl false))
theorem se_or {rest : List Expr} (ha : PE X a (tE X.K cl fa)) (hb : PE X (.BoolOp .Or (b :: rest) pos) (tE X.K cl fb)) : PE X (.BoolOp .Or (a :: b :: rest) pos) (tE X.K cl (dOrV fa fb)) := by
  refine PE_wk (pe_or ha hb) fun σ H Q q => ?_
  obtain ⟨ν, st, e, st', p, hf, k⟩ := q
  unfold dOrV at hf
  cases h1 : dTest fa st with
  | none => rw [h1] at hf; cases hf
  | some w1 =>
    obtain ⟨b', s1⟩ := w1
    rw [h1] at hf
    refine test_of (Q := fun c H1 => if c = true then Q (.bl true) H1 else tE X.K cl fb σ H1 Q) ⟨ν, st, b', s1, p, h1, fun ν1 H1 t1 => ?_⟩
    cases b' with
    | false => exact iteF ⟨ν1, s1, e, st', t1.pre, hf, fun v ν2 H2 t2 r => k v ν2 H2 (t1.trans t2) (r.early t1)⟩
    | true => cases hf; exact iteT (k _ ν1 H1 t1 (RD.bl true))
theorem se_ifExp {g : M Bool} (hc : PT X c (tT X.K cl g)) (ha : PE X a (tE X.K cl fa)) (hb : PE X b (tE X.K cl fb)) : PE X (.IfExp c a b pos) (tE X.K cl (dIf g fa fb)) := by
  refine PE_wk (pe_ifExp hc ha hb) fun σ H Q q => ?_
  obtain ⟨ν, st, e, st', p, hf, k⟩ := q
  refine seq_tt p hf fun b' s1 ν1 H1 t1 h1 => ?_
  cases b' with
  | true => exact iteT ⟨ν1, s1, e, st', t1.pre, h1, fun v ν2 H2 t2 r => k v ν2 H2 (t1.trans t2) (r.early t1)⟩
  | false => exact iteF ⟨ν1, s1, e, st', t1.pre, h1, fun v ν2 H2 t2 r => k v ν2 H2 (t1.trans t2) (r.early t1)⟩

/-! ### freezing -/
theorem frz_run {pins : List (Addr × Obj)} {s : Shared} {σ : L2.St} {H H1 : Hp} {ν ν1 : List Addr} {st s1 s2 : S} {ev : Ev} {v : V} {d : D} (t : Pst X.K cl ν st σ H ν1 s1 σ H1) (r : REv X.K ν1 s1.env σ H H1 ev v) (I : Inv X pins σ H1 s) (h : freeze s1 ev = some (d, s2)) :
    ∃ H2, Inv X pins σ H2 s ∧ Pst X.K cl ν st σ H ν1 s2 σ H2 ∧ RD X.K ν1 H2 d v ∧ Keep H1 H2 := by
  have slotCase : ∀ {i : Nat} {sl : Sl} {a : Addr} {u u' : HO}, s1.env[i]? = some sl → owned sl = true → σ[i]? = some (some (.ref a)) → H1 a = some u → Mut (some u) → True := fun _ _ _ _ _ => trivial
  cases ev with
  | v d' => cases h; exact ⟨H1, I, t, r, .refl _⟩
  | fl xs =>
    cases h
    obtain ⟨a, vs, rfl, hb, rr, w, n⟩ := r
    obtain ⟨od, I2⟩ := I.lock hb trivial
    have nf : ∀ u, H1 a = some u → fz u = false := fun u e => by rw [hb] at e; cases e; rfl
    have k := keep_upd (o := HO.frz od (.lst vs)) nf
    exact ⟨_, I2, t.out w n nf, .lst ⟨od, upd_same⟩ (rr.mono k (ext_refl _)), k⟩
  | fd xs =>
    cases h
    obtain ⟨a, vs, rfl, hb, rr, w, n⟩ := r
    obtain ⟨od, I2⟩ := I.lock hb trivial
    have nf : ∀ u, H1 a = some u → fz u = false := fun u e => by rw [hb] at e; cases e; rfl
    have k := keep_upd (o := HO.frz od (.dK vs)) nf
    exact ⟨_, I2, t.out w n nf, .dct ⟨od, upd_same⟩ (rr.mono k (ext_refl _)), k⟩
  | bo i =>
    have r : σ[i]? = some (some v) := r
    simp only [freeze] at h
    cases he : s1.env[i]? with
    | none => rw [he] at h; cases h
    | some sl =>
      have q := t.pre.env i sl _ he r
      rw [he] at h
      cases sl with
      | no => cases h
      | sh d' => cases h; obtain ⟨v', e, q⟩ := q; cases e; exact ⟨H1, I, t, q, .refl _⟩
      | ol xs =>
        cases h
        obtain ⟨a, vs, e, hb, rr⟩ := q
        cases e
        obtain ⟨od, I2⟩ := I.lock hb trivial
        have nf : ∀ u, H1 a = some u → fz u = false := fun u e => by rw [hb] at e; cases e; rfl
        have k := keep_upd (o := HO.frz od (.lst vs)) nf
        have rd : RD X.K ν1 (upd H1 a (.frz od (.lst vs))) (.lst xs) (.ref a) := .lst ⟨od, upd_same⟩ (rr.mono k (ext_refl _))
        exact ⟨_, I2, t.trans (Pst.own t.pre ⟨_, he, rfl, r⟩ ⟨_, rfl, rd⟩), rd, k⟩
      | od xs =>
        cases h
        obtain ⟨a, vs, e, hb, rr⟩ := q
        cases e
        obtain ⟨od, I2⟩ := I.lock hb trivial
        have nf : ∀ u, H1 a = some u → fz u = false := fun u e => by rw [hb] at e; cases e; rfl
        have k := keep_upd (o := HO.frz od (.dK vs)) nf
        have rd : RD X.K ν1 (upd H1 a (.frz od (.dK vs))) (.dct xs) (.ref a) := .dct ⟨od, upd_same⟩ (rr.mono k (ext_refl _))
        exact ⟨_, I2, t.trans (Pst.own t.pre ⟨_, he, rfl, r⟩ ⟨_, rfl, rd⟩), rd, k⟩
theorem pe_frz (h : PE X e (tE X.K cl f)) : PE X e (tD X.K cl (dFrz f)) := by
  refine ⟨fun pins s σ H Q I hw => ?_⟩
  obtain ⟨ν, st, d, st', p, hf, k⟩ := hw
  unfold dFrz at hf
  cases h1 : f st with
  | none => rw [h1] at hf; cases hf
  | some w1 =>
    obtain ⟨ev, s1⟩ := w1
    rw [h1] at hf
    refine thn (h.run pins s σ H (fun v H1 => ∃ ν1, Pst X.K cl ν st σ H ν1 s1 σ H1 ∧ REv X.K ν1 s1.env σ H H1 ev v) I ⟨ν, st, ev, s1, p, h1, fun v ν1 H1 t r => ⟨ν1, t, r⟩⟩) fun u s2 ⟨v, H1, I1, rv, ν1, t, r⟩ => ?_
    obtain ⟨H2, I2, t2, rd, _⟩ := frz_run t r I1 hf
    exact ⟨v, H2, I2, rv, k v ν1 H2 t2 rd⟩
theorem se_unbo (h : PE X e (tE X.K cl f)) : PE X e (tE X.K cl (unbo f)) := by
  refine ⟨fun pins s σ H Q I hw => ?_⟩
  obtain ⟨ν, st, d, st', p, hf, k⟩ := hw
  unfold unbo at hf
  cases h1 : f st with
  | none => rw [h1] at hf; cases hf
  | some w1 =>
    obtain ⟨ev, s1⟩ := w1
    rw [h1] at hf
    refine thn (h.run pins s σ H (fun v H1 => ∃ ν1, Pst X.K cl ν st σ H ν1 s1 σ H1 ∧ REv X.K ν1 s1.env σ H H1 ev v) I ⟨ν, st, ev, s1, p, h1, fun v ν1 H1 t r => ⟨ν1, t, r⟩⟩) fun u s2 ⟨v, H1, I1, rv, ν1, t, r⟩ => ?_
    cases ev with
    | bo i =>
      simp only at hf
      cases h2 : freeze s1 (.bo i) with
      | none => rw [h2] at hf; cases hf
      | some w2 =>
        obtain ⟨d2, s3⟩ := w2
        rw [h2] at hf
        cases hf
        obtain ⟨H2, I2, t2, rd, _⟩ := frz_run t r I1 h2
        exact ⟨v, H2, I2, rv, k v ν1 H2 t2 rd⟩
    | v d => cases hf; exact ⟨v, H1, I1, rv, k v ν1 H1 t r⟩
    | fl d => cases hf; exact ⟨v, H1, I1, rv, k v ν1 H1 t r⟩
    | fd d => cases hf; exact ⟨v, H1, I1, rv, k v ν1 H1 t r⟩

/-! ### arguments -/
theorem sa_nilU : PA X [] (tAu X.K cl dNilU) := PA_wk pa_nil fun σ H Q q => by
  obtain ⟨ν, st, d, st', p, hf, k⟩ := q
  cases hf
  exact k [] ν H (.refl p) .nil
theorem sa_nilF : PA X [] (tAf X.K cl dNilF) := PA_wk pa_nil fun σ H Q q => by
  obtain ⟨ν, st, d, st', p, hf, k⟩ := q
  cases hf
  exact k [] ν H (.refl p) .nil
theorem frA_none {K : PySem.W.Frag} {ν : List Addr} {env : List Sl} {σ : List (Option V)} {H H' : Hp} : ∀ {es : List Ev} {vs : List V}, REvs K ν env σ H H' es vs → ∀ p ∈ es.zip vs, ∀ a, frA p.1 p.2 = some a → H a = none
  | _, _, .nil, p, hp, _, _ => by simp at hp
  | _, _, .cons (e := e) (v := v) r rs _, p, hp, a, h => by
    rw [List.zip_cons_cons] at hp
    rcases List.mem_cons.mp hp with rfl | hp
    · cases e with
      | v d => cases h
      | bo d => cases h
      | fl xs => obtain ⟨b, vs, rfl, _, _, _, n⟩ := r; cases h; exact n
      | fd xs => obtain ⟨b, vs, rfl, _, _, _, n⟩ := r; cases h; exact n
    · exact frA_none rs p hp a h
theorem REvs.early {K : PySem.W.Frag} {cl : Nat → Addr} {ν ν1 ν2 : List Addr} {st st1 : S} {σ σ1 σ2 : List (Option V)} {H H1 H2 : Hp} {env : List Sl} (t : Pst K cl ν st σ H ν1 st1 σ1 H1) : ∀ {es : List Ev} {vs : List V}, REvs K ν2 env σ2 H1 H2 es vs → REvs K ν2 env σ2 H H2 es vs
  | _, _, .nil => .nil
  | _, _, .cons r rs d => .cons (r.early t) (REvs.early t rs) d
theorem frA_some {K : PySem.W.Frag} {ν : List Addr} {env : List Sl} {σ : List (Option V)} {H H' : Hp} {e : Ev} {v : V} {a : Addr} (r : REv K ν env σ H H' e v) (h : frA e v = some a) : ∃ o, H' a = some o := by
  cases e with
  | v d => cases h
  | bo d => cases h
  | fl xs => obtain ⟨b, vs, rfl, q, _⟩ := r; cases h; exact ⟨_, q⟩
  | fd xs => obtain ⟨b, vs, rfl, q, _⟩ := r; cases h; exact ⟨_, q⟩
theorem sa_consU {es : List Expr} {g : M (List Ev)} (ha : PE X e (tE X.K cl f)) (hr : PA X es (tAu X.K cl g)) (hs : starEach (e :: es) X.env = (false, eval e X.env) :: starEach es X.env := by kernel_rfl) : PA X (e :: es) (tAu X.K cl (dConsU f g)) := by
  refine PA_wk (pa_cons ha hr hs) fun σ H Q q => ?_
  obtain ⟨ν, st, d, st', p, hf, k⟩ := q
  unfold dConsU at hf
  cases h1 : f st with
  | none => rw [h1] at hf; cases hf
  | some w1 =>
    obtain ⟨ev, s1⟩ := w1
    simp only [h1] at hf
    cases h2 : g s1 with
    | none => rw [h2] at hf; cases hf
    | some w2 =>
      obtain ⟨evs, s2⟩ := w2
      simp only [h2] at hf
      cases hf
      refine ⟨ν, st, ev, s1, p, h1, fun x ν1 H1 t1 q1 => ⟨ν1, s1, evs, _, t1.pre, h2, fun ys ν2 H2 t2 q2 => k (x :: ys) ν2 H2 (t1.trans t2) (.cons (q1.later t1.pre t2) (q2.early t1) fun a h p' hp hh => ?_)⟩⟩
      obtain ⟨o, ho⟩ := frA_some q1 h
      have n := frA_none q2 p' hp a hh
      rw [ho] at n
      cases n
theorem sa_consF {es : List Expr} {g : M (List D)} (ha : PE X e (tE X.K cl f)) (hr : PA X es (tAf X.K cl g)) (hs : starEach (e :: es) X.env = (false, eval e X.env) :: starEach es X.env := by kernel_rfl) : PA X (e :: es) (tAf X.K cl (dConsF f g)) := by
  refine PA_wk (pa_cons (pe_frz ha) hr hs) fun σ H Q q => ?_
  obtain ⟨ν, st, d, st', p, hf, k⟩ := q
  unfold dConsF at hf
  cases h1 : dFrz f st with
  | none => rw [h1] at hf; cases hf
  | some w1 =>
    obtain ⟨ev, s1⟩ := w1
    simp only [h1] at hf
    cases h2 : g s1 with
    | none => rw [h2] at hf; cases hf
    | some w2 =>
      obtain ⟨evs, s2⟩ := w2
      simp only [h2] at hf
      cases hf
      exact ⟨ν, st, ev, s1, p, h1, fun x ν1 H1 t1 q1 => ⟨ν1, s1, evs, _, t1.pre, h2, fun ys ν2 H2 t2 q2 => k (x :: ys) ν2 H2 (t1.trans t2) (.cons (q1.mono (t2.keep t1.pre) t2.ext) q2)⟩⟩
/-- (a, b, ..) -/
def dTup (g : M (List D)) : M Ev := fun st => match g st with
  | none => none
  | some (ds, s) => if ds.length ≤ 16777216 then some (.v (.tup ds), s) else none
def dLst (g : M (List D)) : M Ev := fun st => match g st with
  | none => none
  | some (ds, s) => if ds.length ≤ 16777216 then some (.fl ds, s) else none
theorem se_tup {es : List Expr} {k : Nat} {g : M (List D)} (h : PA X es (tAf X.K cl g)) : PE X (.Tuple es k pos) (tE X.K cl (dTup g)) := by
  refine PE_wk (pe_tup h) fun σ H Q q => ?_
  obtain ⟨ν, st, d, st', p, hf, k⟩ := q
  unfold dTup at hf
  cases h1 : g st with
  | none => rw [h1] at hf; cases hf
  | some w1 =>
    obtain ⟨ds, s1⟩ := w1
    simp only [h1] at hf
    split at hf
    · rename_i hz
      cases hf
      refine ⟨ν, st, ds, _, p, h1, fun vs ν1 H1 t1 q1 => ⟨by rw [← q1.length, sizeLine_eq]; exact hz, fun a na => ?_⟩⟩
      have sm : Same H1 (upd H1 a (.tup vs)) := fun b o e => by rw [upd_ne (ne_of_none e na)]; exact e
      exact k _ ν1 _ (t1.andSame sm) (RD.tup (.of upd_same) (q1.mono (.of_same sm) (ext_refl _)))
    · cases hf
theorem se_lst {es : List Expr} {g : M (List D)} (h : PA X es (tAf X.K cl g)) : PE X (.List es pos) (tE X.K cl (dLst g)) := by
  refine PE_wk (pe_lst h) fun σ H Q q => ?_
  obtain ⟨ν, st, d, st', p, hf, k⟩ := q
  unfold dLst at hf
  cases h1 : g st with
  | none => rw [h1] at hf; cases hf
  | some w1 =>
    obtain ⟨ds, s1⟩ := w1
    simp only [h1] at hf
    split at hf
    · rename_i hz
      cases hf
      refine ⟨ν, st, ds, _, p, h1, fun vs ν1 H1 t1 q1 => ⟨by rw [← q1.length, sizeLine_eq]; exact hz, fun a na => ?_⟩⟩
      have sm : Same H1 (upd H1 a (.lst vs)) := fun b o e => by rw [upd_ne (ne_of_none e na)]; exact e
      refine k _ ν1 _ (t1.andSame sm) ⟨a, vs, rfl, upd_same, q1.mono (.of_same sm) (ext_refl _), fun w => ?_, t1.none_back na⟩
      obtain ⟨o, q, _⟩ := t1.pre.wr_obj w
      rw [na] at q
      cases q
    · cases hf
end
end DL

namespace DL
open PySem PySem.Spec PyProof.Rows L2

/-! ### statements -/
def dSeq (f g : M Out) : M Out := fun st => match f st with
  | some (.nx, s) => g s
  | r => r
def dDrop (f : M Ev) : M Out := fun st => match f st with
  | none => none
  | some (_, s) => some (.nx, s)
def dRet (f : M Ev) : M Out := fun st => match dFrz f st with
  | none => none
  | some (d, s) => some (.rt d, s)
def dSet (i : Nat) (f : M Ev) : M Out := fun st => match unbo f st with
  | none => none
  | some (e, s) => some (.nx, { s with env := s.env.set i (slot e) })
def dAug (g : D → D → Option Ev) (i : Nat) (f : M Ev) : M Out := fun st => match st.env[i]? with
  | some (.sh d) => match f st with
    | none => none
    | some (e, s) => match view s e with
      | none => none
      | some d2 => match g d d2 with
        | none => none
        | some e2 => some (.nx, { s with env := s.env.set i (slot e2) })
  | _ => none
def forD (g : D → S → Option S) (body : M Out) : List D → M Out
  | [], st => some (.nx, st)
  | d :: ds, st => match g d st with
    | none => none
    | some s1 => match body s1 with
      | none => none
      | some (.nx, s2) => forD g body ds s2
      | some (.ct, s2) => forD g body ds s2
      | some (.bk, s2) => some (.nx, s2)
      | some (.rt x, s2) => some (.rt x, s2)
def dFor (src : M (List D)) (g : D → S → Option S) (body : M Out) : M Out := fun st => match src st with
  | none => none
  | some (ds, s) => forD g body ds s
def whileD (c : M Bool) (body : M Out) : Nat → M Out
  | 0, _ => none
  | n + 1, st => match c st with
    | none => none
    | some (false, s1) => some (.nx, s1)
    | some (true, s1) => match body s1 with
      | none => none
      | some (.nx, s2) => whileD c body n s2
      | some (.ct, s2) => whileD c body n s2
      | some (.bk, s2) => some (.nx, s2)
      | some (.rt x, s2) => some (.rt x, s2)
def gN (i : Nat) (d : D) (st : S) : Option S := some { st with env := st.env.set i (.sh d) }
def gsNil (ds : List D) (st : S) : Option S := match ds with
  | [] => some st
  | _ => none
def gsCons (g : D → S → Option S) (gs : List D → S → Option S) (ds : List D) (st : S) : Option S := match ds with
  | [] => none
  | d :: r => match g d st with
    | none => none
    | some s => gs r s
def gT (gs : List D → S → Option S) (d : D) (st : S) : Option S := match d with
  | .tup ds => gs ds st
  | _ => none

/-- what a loop walks -/
structure ItOk (K : PySem.W.Frag) (J : It) (ds : List D) (ν : List Addr) (H : Hp) : Prop where
  go : ∀ H' i, Keep H H' → i < ds.length → J.go i H'
  stop : ∀ H' i, Keep H H' → ds.length ≤ i → J.stop i H'
  yld : ∀ H' i x H'', Keep H H' → i < ds.length → J.yld i H' x H'' → ∃ d, ds[i]? = some d ∧ Same H' H'' ∧ RD K ν H'' d x
def tI (K : PySem.W.Frag) (cl : Nat → Addr) (f : M (List D)) : TI := fun σ H R => ∃ ν st ds st', Pre K cl ν st σ H ∧ f st = some (ds, st') ∧
  ∀ J ν' H', Pst K cl ν st σ H ν' st' σ H' → ItOk K J ds ν' H' → R J H'
def tG (K : PySem.W.Frag) (cl : Nat → Addr) (is : List Nat) (g : D → S → Option S) : TG := fun v σ H Q => ∃ ν st d st', Pre K cl ν st σ H ∧ RD K ν H d v ∧ g d st = some st' ∧
  ∀ ν' σ' H', Pst K cl ν st σ H ν' st' σ' H' → (σ'.length = σ.length ∧ ∀ j, j ∉ is → σ'[j]? = σ[j]?) → Q σ' H'
def tGs (K : PySem.W.Frag) (cl : Nat → Addr) (is : List Nat) (g : List D → S → Option S) : TGs := fun vs σ H Q => ∃ ν st ds st', Pre K cl ν st σ H ∧ RDs K ν H ds vs ∧ g ds st = some st' ∧
  ∀ ν' σ' H', Pst K cl ν st σ H ν' st' σ' H' → (σ'.length = σ.length ∧ ∀ j, j ∉ is → σ'[j]? = σ[j]?) → Q σ' H'

section
variable {X : Cx} {cl : Nat → Addr} {e a b c : Expr} {pos : Pos} {f fa fb fc : M Ev} {s s1 s2 : Stmt} {rest : List Stmt} {p q : M Out}
theorem ss_nil : PSs X [] (tS X.K cl (dPure .nx)) := PSs_wk pss_nil fun D σ H w => by
  obtain ⟨ν, st, o, st', p, hf, k⟩ := w
  cases hf
  exact k ν σ H (.refl p)
theorem ss_cons (h1 : PS X s (tS X.K cl p)) (h2 : PSs X rest (tS X.K cl q)) : PSs X (s :: rest) (tS X.K cl (dSeq p q)) := PSs_wk (pss_cons h1 h2) fun D σ H w => by
  obtain ⟨ν, st, o, st', pr, hf, k⟩ := w
  unfold dSeq at hf
  cases h1 : p st with
  | none => rw [h1] at hf; cases hf
  | some w1 =>
    obtain ⟨o1, s1⟩ := w1
    rw [h1] at hf
    cases o1 with
    | nx => exact ⟨ν, st, .nx, s1, pr, h1, fun ν1 σ1 H1 t1 => ⟨ν1, s1, o, st', t1.pre, hf, fun ν2 σ2 H2 t2 => k ν2 σ2 H2 (t1.trans t2)⟩⟩
    | bk => cases hf; exact ⟨ν, st, .bk, _, pr, h1, fun ν1 σ1 H1 t1 => k ν1 σ1 H1 t1⟩
    | ct => cases hf; exact ⟨ν, st, .ct, _, pr, h1, fun ν1 σ1 H1 t1 => k ν1 σ1 H1 t1⟩
    | rt d => cases hf; exact ⟨ν, st, .rt d, _, pr, h1, fun ν1 σ1 H1 t1 => k ν1 σ1 H1 t1⟩
theorem ss_one (h1 : PS X s (tS X.K cl p)) : PSs X [s] (tS X.K cl p) := pss_one h1
theorem ss_pass : PS X (.Pass pos) (tS X.K cl (dPure .nx)) := PS_wk ps_pass fun D σ H w => by
  obtain ⟨ν, st, o, st', p, hf, k⟩ := w
  cases hf
  exact k ν σ H (.refl p)
theorem ss_break : PS X (.Break pos) (tS X.K cl (dPure .bk)) := PS_wk ps_break fun D σ H w => by
  obtain ⟨ν, st, o, st', p, hf, k⟩ := w
  cases hf
  exact k ν σ H (.refl p)
theorem ss_cont : PS X (.Continue pos) (tS X.K cl (dPure .ct)) := PS_wk ps_continue fun D σ H w => by
  obtain ⟨ν, st, o, st', p, hf, k⟩ := w
  cases hf
  exact k ν σ H (.refl p)
/-- what is never come to -/
theorem ss_never : PS X s (tS X.K cl fun _ => none) := PS_wk ps_never fun D σ H w => by
  obtain ⟨ν, st, o, st', p, hf, k⟩ := w
  cases hf
theorem ss_expr (he : PE X e (tE X.K cl f)) (hs : swapsWith e none pos.line X.env = pure false := by kernel_rfl) : PS X (.Expr e pos) (tS X.K cl (dDrop f)) := PS_wk (ps_expr he hs) fun D σ H w => by
  obtain ⟨ν, st, o, st', p, hf, k⟩ := w
  unfold dDrop at hf
  cases h1 : f st with
  | none => rw [h1] at hf; cases hf
  | some w1 =>
    rw [h1] at hf
    cases hf
    exact ⟨ν, st, _, _, p, h1, fun v ν1 H1 t1 _ => k ν1 σ H1 t1⟩
theorem ss_ret (he : PE X e (tE X.K cl f)) : PS X (.Return (some e) pos) (tS X.K cl (dRet f)) := PS_wk (ps_ret (pe_frz he)) fun D σ H w => by
  obtain ⟨ν, st, o, st', p, hf, k⟩ := w
  unfold dRet at hf
  cases h1 : dFrz f st with
  | none => rw [h1] at hf; cases hf
  | some w1 =>
    rw [h1] at hf
    cases hf
    exact ⟨ν, st, _, _, p, h1, fun v ν1 H1 t1 r => k ν1 σ H1 t1 v r⟩
theorem ss_retN : PS X (.Return none pos) (tS X.K cl (dPure (.rt .non))) := PS_wk ps_retN fun D σ H w => by
  obtain ⟨ν, st, o, st', p, hf, k⟩ := w
  cases hf
  exact k ν σ H (.refl p) .non .non
theorem ss_if {g : M Bool} {xs ys : List Stmt} (hc : PT X c (tT X.K cl g)) (ha : PSs X xs (tS X.K cl p)) (hb : PSs X ys (tS X.K cl q)) : PS X (.If c xs ys pos) (tS X.K cl (dIf g p q)) := PS_wk (ps_if hc ha hb) fun D σ H w => by
  obtain ⟨ν, st, o, st', pr, hf, k⟩ := w
  refine seq_tt pr hf fun b' s1 ν1 H1 t1 h1 => ?_
  cases b' with
  | true => exact iteT ⟨ν1, s1, o, st', t1.pre, h1, fun ν2 σ2 H2 t2 => k ν2 σ2 H2 (t1.trans t2)⟩
  | false => exact iteF ⟨ν1, s1, o, st', t1.pre, h1, fun ν2 σ2 H2 t2 => k ν2 σ2 H2 (t1.trans t2)⟩
theorem set_read {i : Nat} {D : Ends} {σ : L2.St} {H : Hp} (w : tS X.K cl (dSet i f) D σ H) : tAsg (tE X.K cl (unbo f)) (gName i) D σ H := by
  obtain ⟨ν, st, o, st', p, hf, k⟩ := w
  unfold dSet at hf
  cases h1 : unbo f st with
  | none => rw [h1] at hf; cases hf
  | some w1 =>
    obtain ⟨ev, s1⟩ := w1
    rw [h1] at hf
    cases hf
    exact ⟨ν, st, ev, s1, p, h1, fun v ν1 H1 t1 r => k ν1 _ H1 (t1.set r)⟩
theorem ss_set {i : Nat} {x : Str} {pos' : Pos} (hN : X.N.Nodup) (hi : X.N[i]? = some x) (hx : Loc X.env.scope x) (he : PE X e (tE X.K cl f)) (hs : swapsWith e (some (.Name x pos')) pos.line X.env = pure false := by kernel_rfl) (hf : X.fn x = true ∨ X.env.scope.names.lookup x = some .local) :
    PS X (.Assign [.Name x pos'] e pos) (tS X.K cl (dSet i f)) := PS_wk (ps_set hN hi hx (se_unbo he) hs hf) fun _ _ _ w => set_read w
theorem ss_aug {i : Nat} {x : Str} {op : Operator} {g : D → D → Option Ev} {pos' : Pos} (hN : X.N.Nodup) (hi : X.N[i]? = some x) (hx : Loc X.env.scope x) (he : PE X e (tE X.K cl f)) (ho : OpR X (inplaceOp op) (r2 X.K g)) (hf : X.fn x = true ∨ X.env.scope.names.lookup x = some .local) :
    PS X (.AugAssign (.Name x pos') op e pos) (tS X.K cl (dAug g i f)) := PS_wk (ps_aug hN hi hx he (ti := r2 X.K g) ho hf) fun D σ H w => by
  obtain ⟨ν, st, o, st', p, hf, k⟩ := w
  unfold dAug at hf
  cases h0 : st.env[i]? with
  | none => rw [h0] at hf; cases hf
  | some sl =>
    rw [h0] at hf
    cases sl with
    | sh d =>
      simp only at hf
      have hlt : i < σ.length := by rw [← p.len]; exact (List.getElem?_eq_some_iff.mp h0).1
      obtain ⟨v, e1, rd⟩ := p.env i _ _ h0 (List.getElem?_eq_getElem hlt)
      refine ⟨v, by rw [List.getElem?_eq_getElem hlt, e1], ?_⟩
      cases h1 : f st with
      | none => rw [h1] at hf; cases hf
      | some w1 =>
        obtain ⟨ev, s1⟩ := w1
        simp only [h1] at hf
        cases h2 : view s1 ev with
        | none => rw [h2] at hf; cases hf
        | some d2 =>
          simp only [h2] at hf
          cases h3 : g d d2 with
          | none => rw [h3] at hf; cases hf
          | some e2 =>
            simp only [h3] at hf
            cases hf
            refine ⟨ν, st, ev, s1, p, h1, fun y ν1 H1 t1 r => ⟨ν1, d, d2, e2, .v (rd.mono (t1.keep p) t1.ext), view_ok t1.pre r h2, h3, fun z H' sm n => ?_⟩⟩
            exact k ν1 _ H' ((t1.andSame sm).set (n.rev t1))
    | _ => cases hf

/-! ### targets -/
theorem sg_name {i : Nat} {x : Str} (hN : X.N.Nodup) (hi : X.N[i]? = some x) (hx : Loc X.env.scope x) (hf : X.fn x = true ∨ X.env.scope.names.lookup x = some .local) : PG X (.Name x pos) (tG X.K cl [i] (gN i)) := by
  refine ⟨fun pins s σ H v u Q I r h => (pg_name hN hi hx hf).run pins s σ H v u Q I r ?_⟩
  obtain ⟨ν, st, d, st', p, rd, hg, k⟩ := h
  cases hg
  refine k ν _ H ((Pst.refl p).set (e := .v d) (H := H) rd) ⟨by rw [List.length_set], fun j hj => ?_⟩
  rw [List.getElem?_set_ne (fun z => hj (by simp [z]))]
theorem sg_nil : PGs X [] (tGs X.K cl [] gsNil) := by
  refine ⟨fun pins s σ H vs us Q I r h => pgs_nil.run pins s σ H vs us Q I r ?_⟩
  obtain ⟨ν, st, ds, st', p, rd, hg, k⟩ := h
  cases rd with
  | nil => cases hg; exact ⟨rfl, k ν σ H (.refl p) ⟨rfl, fun _ _ => rfl⟩⟩
  | cons _ _ => cases hg
theorem sg_cons {is js : List Nat} {es : List Expr} {g : D → S → Option S} {gs : List D → S → Option S} (h1 : PG X e (tG X.K cl is g)) (h2 : PGs X es (tGs X.K cl js gs))
    (hs : (assignEach (e :: es) X.env).map (·.2) = assign e X.env :: (assignEach es X.env).map (·.2) := by kernel_rfl) : PGs X (e :: es) (tGs X.K cl (is ++ js) (gsCons g gs)) := by
  refine ⟨fun pins s σ H vs us Q I r h => (pgs_cons h1 h2 hs).run pins s σ H vs us Q I r ?_⟩
  obtain ⟨ν, st, ds, st', p, rd, hg, k⟩ := h
  cases rd with
  | nil => cases hg
  | @cons d v ds vs rd rds =>
    unfold gsCons at hg
    cases h1 : g d st with
    | none => simp only [h1] at hg; cases hg
    | some s1 =>
      simp only [h1] at hg
      refine ⟨v, vs, rfl, ν, st, d, s1, p, rd, h1, fun ν1 σ1 H1 t1 n1 => ⟨ν1, s1, ds, st', t1.pre, rds.mono (t1.keep p) t1.ext, hg, fun ν2 σ2 H2 t2 n2 => k ν2 σ2 H2 (t1.trans t2) ⟨n2.1.trans n1.1, fun j hj => ?_⟩⟩⟩
      rw [n2.2 j (fun z => hj (List.mem_append_right _ z)), n1.2 j (fun z => hj (List.mem_append_left _ z))]
theorem sg_tup {is : List Nat} {es : List Expr} {k : Nat} {gs : List D → S → Option S} {n : Nat} (hc : X.calm = true) (h : PGs X es (tGs X.K cl is gs)) (hl : ∀ ds st st', gs ds st = some st' → ds.length = n)
    (hn : (assignEach es X.env).length = n := by kernel_rfl) (hst : (assignEach es X.env).findIdx? (·.1) = none := by kernel_rfl) : PG X (.Tuple es k pos) (tG X.K cl is (gT gs)) := by
  refine ⟨fun pins s σ H v u Q I r w => (pg_tup hc h hn hst).run pins s σ H v u Q I r ?_⟩
  obtain ⟨ν, st, d, st', p, rd, hg, k⟩ := w
  unfold gT at hg
  cases rd with
  | tup sq rs => exact ⟨_, _, rfl, sq, by rw [← rs.length]; exact hl _ _ _ hg, ν, st, _, st', p, rs, hg, k⟩
  | _ => cases hg
theorem gsNil_len (ds : List D) (st st' : S) (h : gsNil ds st = some st') : ds.length = 0 := by
  cases ds with
  | nil => rfl
  | cons _ _ => cases h
theorem gsCons_len {g : D → S → Option S} {gs : List D → S → Option S} {n : Nat} (hl : ∀ ds st st', gs ds st = some st' → ds.length = n) (ds : List D) (st st' : S) (h : gsCons g gs ds st = some st') : ds.length = n + 1 := by
  cases ds with
  | nil => cases h
  | cons d r =>
    unfold gsCons at h
    cases h1 : g d st with
    | none => simp only [h1] at h; cases h
    | some s1 =>
      simp only [h1] at h
      rw [List.length_cons, hl _ _ _ h]

/-! ### loops -/
theorem ss_for {tg iter : Expr} {body : List Stmt} {src : M (List D)} {is : List Nat} {g : D → S → Option S} (hp : PassesOwn (model X.prog X.w) X.A X.env X.xe) (hc : X.calm = true) (hi : PI X tg iter (tI X.K cl src)) (hg : PG X tg (tG X.K cl is g)) (hb : PSs X body (tS X.K cl p))
    (hs : ∀ x, foldedSetIterable iter X.env x = pure x := by intro _; kernel_rfl) : PS X (.For tg iter body [] pos) (tS X.K cl (dFor src g p)) := PS_wk (ps_for hp hc hi hg hb hs) fun D σ H w => by
  obtain ⟨ν, st, o, st', pr, hf, k⟩ := w
  unfold dFor at hf
  cases h1 : src st with
  | none => rw [h1] at hf; cases hf
  | some w1 =>
    obtain ⟨ds, s1⟩ := w1
    simp only [h1] at hf
    refine ⟨ν, st, ds, s1, pr, h1, fun J ν1 H1 t1 it => ?_⟩
    refine ⟨fun i m σ2 H2 => m = ds.length - i ∧ i ≤ ds.length ∧ ∃ ν2 s2, Pst X.K cl ν1 s1 σ H1 ν2 s2 σ2 H2 ∧ forD g p (ds.drop i) s2 = some (o, st'), ⟨ds.length, by simp, Nat.zero_le _, ν1, s1, .refl t1.pre, hf⟩, ?_⟩
    rintro i m σ2 H2 ⟨rfl, hle, ν2, s2, t2, hr⟩
    have kp : Keep H1 H2 := t2.keep t1.pre
    by_cases hlt : i < ds.length
    · rw [List.drop_eq_getElem_cons hlt] at hr
      unfold forD at hr
      refine .inr ⟨it.go H2 i kp hlt, fun σ3 H3 => i + 1 ≤ ds.length ∧ ∃ ν3 s3, Pst X.K cl ν1 s1 σ H1 ν3 s3 σ3 H3 ∧ forD g p (ds.drop (i + 1)) s3 = some (o, st'), fun σ3 H3 n => ⟨ds.length - (i + 1), by omega, rfl, n⟩, fun x H3 y => ?_⟩
      obtain ⟨d, hd, sm, rd⟩ := it.yld H2 i x H3 kp hlt y
      rw [List.getElem?_eq_getElem hlt] at hd
      cases hd
      have t3 := t2.andSame sm
      cases hg1 : g ds[i] s2 with
      | none => simp only [hg1] at hr; cases hr
      | some s3 =>
        simp only [hg1] at hr
        refine ⟨ν2, s2, _, s3, t3.pre, rd.mono (.refl _) t2.ext, hg1, fun ν4 σ4 H4 t4 _ => ?_⟩
        have t14 := t3.trans t4
        cases hp1 : p s3 with
        | none => simp only [hp1] at hr; cases hr
        | some w5 =>
          obtain ⟨o5, s5⟩ := w5
          simp only [hp1] at hr
          cases o5 with
          | nx => exact ⟨ν4, s3, .nx, s5, t4.pre, hp1, fun ν5 σ5 H5 t5 => ⟨hlt, ν5, s5, t14.trans t5, hr⟩⟩
          | ct => exact ⟨ν4, s3, .ct, s5, t4.pre, hp1, fun ν5 σ5 H5 t5 => ⟨hlt, ν5, s5, t14.trans t5, hr⟩⟩
          | bk => cases hr; exact ⟨ν4, s3, .bk, _, t4.pre, hp1, fun ν5 σ5 H5 t5 => k ν5 σ5 H5 (t1.trans (t14.trans t5))⟩
          | rt d => cases hr; exact ⟨ν4, s3, .rt d, _, t4.pre, hp1, fun ν5 σ5 H5 t5 => k ν5 σ5 H5 (t1.trans (t14.trans t5))⟩
    · have e : i = ds.length := by omega
      subst e
      rw [List.drop_length] at hr
      cases hr
      exact .inl ⟨it.stop H2 _ kp (Nat.le_refl _), k ν2 σ2 H2 (t1.trans t2)⟩
theorem ss_while {n : Nat} {g : M Bool} {body : List Stmt} (hp : PassesOwn (model X.prog X.w) X.A X.env X.xe) (hc : PT X c (tT X.K cl g)) (hb : PSs X body (tS X.K cl p)) : PS X (.While c body [] pos) (tS X.K cl (whileD g p n)) := PS_wk (ps_while hp hc hb) fun D σ H w => by
  obtain ⟨ν, st, o, st', pr, hf, k⟩ := w
  refine ⟨fun m σ2 H2 => ∃ ν2 s2, Pst X.K cl ν st σ H ν2 s2 σ2 H2 ∧ whileD g p m s2 = some (o, st'), ⟨n, ν, st, .refl pr, hf⟩, ?_⟩
  rintro m σ2 H2 ⟨ν2, s2, t2, hr⟩
  cases m with
  | zero => cases hr
  | succ m =>
    unfold whileD at hr
    cases h1 : g s2 with
    | none => rw [h1] at hr; cases hr
    | some w1 =>
      obtain ⟨b, s3⟩ := w1
      refine ⟨ν2, s2, b, s3, t2.pre, h1, fun ν3 H3 t3 => ?_⟩
      simp only [h1] at hr
      cases b with
      | false => cases hr; exact iteF (k ν3 σ2 H3 (t2.trans t3))
      | true =>
        refine iteT ⟨fun σ4 H4 => ∃ ν4 s4, Pst X.K cl ν st σ H ν4 s4 σ4 H4 ∧ whileD g p m s4 = some (o, st'), fun σ4 H4 n => ⟨m, Nat.lt_succ_self m, n⟩, ?_⟩
        cases hp1 : p s3 with
        | none => simp only [hp1] at hr; cases hr
        | some w5 =>
          obtain ⟨o5, s5⟩ := w5
          simp only [hp1] at hr
          cases o5 with
          | nx => exact ⟨ν3, s3, .nx, s5, t3.pre, hp1, fun ν5 σ5 H5 t5 => ⟨ν5, s5, t2.trans (t3.trans t5), hr⟩⟩
          | ct => exact ⟨ν3, s3, .ct, s5, t3.pre, hp1, fun ν5 σ5 H5 t5 => ⟨ν5, s5, t2.trans (t3.trans t5), hr⟩⟩
          | bk => cases hr; exact ⟨ν3, s3, .bk, _, t3.pre, hp1, fun ν5 σ5 H5 t5 => k ν5 σ5 H5 (t2.trans (t3.trans t5))⟩
          | rt d => cases hr; exact ⟨ν3, s3, .rt d, _, t3.pre, hp1, fun ν5 σ5 H5 t5 => k ν5 σ5 H5 (t2.trans (t3.trans t5))⟩
end

/-! ### calls of defs -/
abbrev Fn := List D → List Cell → Option (D × List Cell)
def spD (K : PySem.W.Frag) (cl : Nat → Addr) (n : Nat) (m : Fn) : Sp := fun vs H Q _ => vs.length = n ∧ ∃ ν cs ds d cs', Pre K cl ν ⟨[], cs⟩ [] H ∧ RDs K ν H ds vs ∧ m ds cs = some (d, cs') ∧
  ∀ v ν' H', Pst K cl ν ⟨[], cs⟩ [] H ν' ⟨[], cs'⟩ [] H' → RD K ν' H' d v → Q v H'
def dCall (n : Nat) (m : Fn) (fs : M (List D)) : M Ev := fun st => match fs st with
  | none => none
  | some (ds, s) => if ds.length = n then (match m ds s.cells with
    | none => none
    | some (d, cs) => some (.v d, { s with cells := cs })) else none
def runB (n : Nat) (code : M Out) : Fn := fun ds cs => match code ⟨ds.map Sl.sh ++ List.replicate (n - ds.length) .no, cs⟩ with
  | some (.rt d, s) => some (d, s.cells)
  | some (.nx, s) => some (.non, s.cells)
  | _ => none
section
variable {K : PySem.W.Frag} {cl : Nat → Addr} {ν ν1 ν2 ν' : List Addr} {st st1 st2 st' : S} {σ σ1 σ2 σ' : List (Option V)} {H H0 H1 H2 H' : Hp}
theorem wr_nil {a : Addr} : Wr ν [] [] a ↔ a ∈ ν := ⟨fun h => by
  rcases h with ⟨i, sl, h, _⟩ | h
  · simp at h
  · exact h, .inr⟩
theorem Pre.callee (p : Pre K cl ν st σ H) : Pre K cl ν ⟨[], st.cells⟩ [] H :=
  ⟨rfl, fun i sl o h => by simp at h, p.clen, p.cell, fun i j a ⟨_, h, _⟩ => by simp at h, fun i a ⟨_, h, _⟩ => by simp at h, p.nd⟩
theorem Pst.call (p : Pre K cl ν st σ H) {cs' : List Cell} (t : Pst K cl ν ⟨[], st.cells⟩ [] H ν' ⟨[], cs'⟩ [] H') : Pst K cl ν st σ H ν' { st with cells := cs' } σ H' := by
  have k := t.keep p.callee
  have own : ∀ i a, Own st.env σ i a → ∀ o, H a = some o → H' a = some o := fun i a w o h => t.frm a o h fun z => p.sep i a w (wr_nil.mp z)
  refine ⟨⟨p.len, fun i sl o h1 h2 => ?_, t.pre.clen, t.pre.cell, p.inj, fun i a w z => ?_, t.pre.nd⟩, t.ext, fun b o h nw => t.frm b o h fun z => nw (.inr (wr_nil.mp z)), fun b w => ?_, t.dom⟩
  · have r := p.env i sl o h1 h2
    cases sl with
    | no => trivial
    | sh d => obtain ⟨v, e, r⟩ := r; exact ⟨v, e, r.mono k t.ext⟩
    | ol xs => obtain ⟨a, vs, e, h, r⟩ := r; exact ⟨a, vs, e, own i a ⟨_, h1, rfl, by rw [h2, e]⟩ _ h, r.mono k t.ext⟩
    | od xs => obtain ⟨a, vs, e, h, r⟩ := r; exact ⟨a, vs, e, own i a ⟨_, h1, rfl, by rw [h2, e]⟩ _ h, r.mono k t.ext⟩
  · rcases t.fre a (wr_nil.mpr z) with q | q
    · exact p.sep i a w (wr_nil.mp q)
    · obtain ⟨o, h, _⟩ := p.own_obj w
      rw [h] at q
      cases q
  · rcases w with ⟨i, w⟩ | w
    · exact .inl (.inl ⟨i, w⟩)
    · rcases t.fre b (wr_nil.mpr w) with q | q
      · exact .inl (.inr (wr_nil.mp q))
      · exact .inr q
end
section
variable {X : Cx} {cl : Nat → Addr} {e : Expr} {es : List Expr} {pos : Pos} {n k : Nat} {m : Fn} {g : M (List D)} {fd : FuncData} {ps : List Str} {fA : Addr} {x : Str} {p : Pos}
theorem call_read {σ : L2.St} {H : Hp} {Q : VK} {E : XK} (w : tE X.K cl (dCall n m g) σ H Q) : tCall (spD X.K cl n m) [] E (tAf X.K cl g) σ H Q := by
  obtain ⟨ν, st, o, st', pr, hf, k⟩ := w
  unfold dCall at hf
  cases h1 : g st with
  | none => rw [h1] at hf; cases hf
  | some w1 =>
    obtain ⟨ds, s1⟩ := w1
    simp only [h1] at hf
    split at hf
    · rename_i hn
      cases h2 : m ds s1.cells with
      | none => rw [h2] at hf; cases hf
      | some w2 =>
        obtain ⟨d, cs⟩ := w2
        rw [h2] at hf
        cases hf
        refine ⟨ν, st, ds, s1, pr, h1, fun vs ν1 H1 t1 r => ⟨by rw [List.append_nil, ← r.length]; exact hn, ν1, s1.cells, ds, d, cs, t1.pre.callee, by rw [List.append_nil]; exact r, h2, fun v ν2 H2 t2 rd => ?_⟩⟩
        exact k v ν2 H2 (t1.trans (Pst.call t1.pre t2)) rd
    · cases hf
theorem se_call (F : FnOk X.prog X.w X.K X.mg X.base CX0 k fA fd ps (spD X.K cl n m)) (hr : Room k X.A) (hm : X.mg x = some (.ref fA)) (hk : PySem.W.keepIn X.K (.ref fA) = true) (hb : Binds X.K fd ps [])
    (ha : PA X (e :: es) (tAf X.K cl g)) (hg : X.env.kindOf x = some .globalImplicit := by kernel_rfl) (hdb : (x == ("__debug__" : Str)) = false := by decide +kernel) (he : starEach (e :: es) X.env = (false, eval e X.env) :: starEach es X.env := by kernel_rfl) (hpl : (backTo pos (starEach es X.env)).any (·.1) = false := by kernel_rfl) :
    PE X (.Call (.Name x p) (e :: es) [] pos) (tE X.K cl (dCall n m g)) :=
  PE_wk (pe_call F hr hg hm hk hb .nil (pass0 (X := X)) ha hdb he hpl) fun _ _ _ w => call_read w
theorem start_pre {K : PySem.W.Frag} {ν : List Addr} {cs : List Cell} {ds : List D} {vs : List V} {H : Hp} (N : List Str) (p : Pre K cl ν ⟨[], cs⟩ [] H) (r : RDs K ν H ds vs) :
    Pre K cl ν ⟨ds.map Sl.sh ++ List.replicate (N.length - ds.length) .no, cs⟩ (start N vs) H ∧ ∀ a, Wr ν (ds.map Sl.sh ++ List.replicate (N.length - ds.length) .no) (start N vs) a → a ∈ ν := by
  have nown : ∀ i sl, (ds.map Sl.sh ++ List.replicate (N.length - ds.length) Sl.no)[i]? = some sl → owned sl = false := fun i sl h => by
    rcases List.mem_append.mp (List.mem_of_getElem? h) with z | z
    · obtain ⟨d, _, rfl⟩ := List.mem_map.mp z; rfl
    · rw [List.eq_of_mem_replicate z]; rfl
  have no : ∀ i a, ¬ Own (ds.map Sl.sh ++ List.replicate (N.length - ds.length) Sl.no) (start N vs) i a := fun i a ⟨sl, h, o, _⟩ => by rw [nown i sl h] at o; cases o
  refine ⟨⟨?_, fun i sl o h1 h2 => ?_, p.clen, p.cell, fun i j a h => absurd h (no i a), fun i a h => absurd h (no i a), p.nd⟩, fun a h => ?_⟩
  · unfold L2.start
    simp [r.length]
  · unfold L2.start at h2
    have h1 : (ds.map Sl.sh ++ List.replicate (N.length - ds.length) Sl.no)[i]? = some sl := h1
    by_cases hi : i < ds.length
    · rw [List.getElem?_append_left (by simpa using hi)] at h1
      rw [List.getElem?_append_left (by simpa [← r.length] using hi)] at h2
      rw [List.getElem?_map, List.getElem?_eq_getElem hi] at h1
      cases h1
      obtain ⟨v, e1, e2⟩ := r.get (List.getElem?_eq_getElem hi)
      rw [List.getElem?_map, e1] at h2
      cases h2
      exact ⟨v, rfl, e2⟩
    · rw [List.getElem?_append_right (by simpa using hi)] at h1
      have := List.eq_of_mem_replicate (List.mem_of_getElem? h1)
      subst this
      trivial
  · rcases h with ⟨i, h⟩ | h
    · exact absurd h (no i a)
    · exact h
theorem body_read {K : PySem.W.Frag} {code : M Out} {N : List Str} {vs : List V} {H : Hp} {Q : VK} {E : XK} (h : spD K cl n (runB N.length code) vs H Q E) : tS K cl code { nx := fun _ H' => Q .non H', rt := Q } (start N vs) H := by
  obtain ⟨hl, ν, cs, ds, d, cs', p, r, hm, k⟩ := h
  obtain ⟨p0, hw⟩ := start_pre N p r
  unfold runB at hm
  cases hc : code ⟨ds.map Sl.sh ++ List.replicate (N.length - ds.length) .no, cs⟩ with
  | none => rw [hc] at hm; cases hm
  | some w1 =>
    obtain ⟨o, s'⟩ := w1
    rw [hc] at hm
    have fin : ∀ ν' σ' H', Pst K cl ν ⟨ds.map Sl.sh ++ List.replicate (N.length - ds.length) .no, cs⟩ (start N vs) H ν' s' σ' H' → Pst K cl ν ⟨[], cs⟩ [] H ν' ⟨[], s'.cells⟩ [] H' := fun ν' σ' H' t =>
      ⟨t.pre.callee, t.ext, fun b o h nw => t.frm b o h fun z => nw (wr_nil.mpr (hw b z)), fun b w => by
        rcases t.fre b (.inr (wr_nil.mp w)) with q | q
        · exact .inl (wr_nil.mpr (hw b q))
        · exact .inr q, t.dom⟩
    cases o with
    | rt x =>
      cases hm
      exact ⟨ν, _, .rt _, s', p0, hc, fun ν' σ' H' t v rd => k v ν' H' (fin ν' σ' H' t) rd⟩
    | nx =>
      cases hm
      exact ⟨ν, _, .nx, s', p0, hc, fun ν' σ' H' t => k .non ν' H' (fin ν' σ' H' t) .non⟩
    | bk => cases hm
    | ct => cases hm
/-- a def keeps its promise -/
theorem fn_ok {P : Program} {w : World} {K : PySem.W.Frag} {mg : Str → Option Value} {base : Heap} {x qual : Str} {st : Stmt} {f : Addr} {fd : FuncData} {N ps : List Str} {k n : Nat} {m : Fn} {code : M Out} (F : Fun K x qual st f fd) (Sc : FnScope N ps (defScope st))
    (hbody : ∀ (cdv : Value) (A : Around) (outer : List Env) (s : Shared) (H : Hp) (E : XK), Room k (A.deeper (envOfC qual (defScope st) s.heap.objs.size f cdv)) →
      PSs (cxOf CX0 P w K mg base N qual (defScope st) f cdv A outer s H E).nox (defBody st) (tS K cl code))
    (hm : m = runB N.length code := by kernel_rfl) (hn : ps.length = n := by kernel_rfl) : FnOk P w K mg base CX0 (k + 1) f fd ps (spD K cl n m) := by
  subst hn
  subst hm
  exact F.ok Sc (fun vs H Q E h => h.1) fun cdv A outer s H vs Q E hr h => ⟨_, hbody cdv A outer s H E hr, body_read h⟩
end
end DL

namespace DL
open PySem PySem.Spec PyProof.Rows L2

/-! ### comprehensions -/
def wipeE : List Sl → List Nat → List Sl
  | env, [] => env
  | env, v :: vs => (wipeE env vs).set v .no
def restE (e0 e2 : List Sl) : List Nat → List Sl
  | [] => e2
  | v :: vs => (restE e0 e2 vs).set v (match e0[v]? with
    | some (.sh d) => .sh d
    | _ => .no)
def lcD (g : D → S → Option S) (cond : M Bool) (elt : M Ev) (vs : List Nat) : List D → List D → S → Option (List D × S)
  | [], acc, st => some (acc, st)
  | d :: ds, acc, st => match g d st with
    | none => none
    | some s1 => match cond s1 with
      | none => none
      | some (false, s2) => lcD g cond elt vs ds acc ⟨wipeE s2.env vs, s2.cells⟩
      | some (true, s2) => match dFrz elt s2 with
        | none => none
        | some (y, s3) => if acc.length < 16777216 then lcD g cond elt vs ds (acc ++ [y]) ⟨wipeE s3.env vs, s3.cells⟩ else none
def dLc (src : M (List D)) (g : D → S → Option S) (cond : M Bool) (elt : M Ev) (vs : List Nat) : M Ev := fun st => match src st with
  | none => none
  | some (ds, s1) => match lcD g cond elt vs ds [] ⟨wipeE s1.env vs, s1.cells⟩ with
    | none => none
    | some (acc, s2) => some (.fl acc, ⟨restE s1.env s2.env vs, s2.cells⟩)

theorem wipeE_len (env : List Sl) : ∀ vs : List Nat, (wipeE env vs).length = env.length
  | [] => rfl
  | v :: vs => by unfold wipeE; rw [List.length_set, wipeE_len env vs]
theorem restE_len (e0 e2 : List Sl) : ∀ vs : List Nat, (restE e0 e2 vs).length = e2.length
  | [] => rfl
  | v :: vs => by unfold restE; rw [List.length_set, restE_len e0 e2 vs]
theorem wipeE_get {env : List Sl} {j : Nat} {sl : Sl} : ∀ {vs : List Nat}, (wipeE env vs)[j]? = some sl → sl = .no ∨ (env[j]? = some sl ∧ j ∉ vs)
  | [], h => .inr ⟨h, by simp⟩
  | v :: vs, h => by
    unfold wipeE at h
    by_cases e : v = j
    · subst e
      by_cases hv : v < (wipeE env vs).length
      · rw [List.getElem?_set_self hv] at h; cases h; exact .inl rfl
      · rw [List.getElem?_eq_none (by simpa using hv)] at h; cases h
    · rw [List.getElem?_set_ne e] at h
      rcases wipeE_get h with h | ⟨h, n⟩
      · exact .inl h
      · exact .inr ⟨h, by simp only [List.mem_cons, not_or]; exact ⟨fun z => e z.symm, n⟩⟩
theorem restE_get {e0 e2 : List Sl} {j : Nat} {sl : Sl} : ∀ {vs : List Nat}, (restE e0 e2 vs)[j]? = some sl → sl = .no ∨ (e2[j]? = some sl ∧ j ∉ vs) ∨ (∃ d, sl = .sh d ∧ e0[j]? = some sl)
  | [], h => .inr (.inl ⟨h, by simp⟩)
  | v :: vs, h => by
    unfold restE at h
    by_cases e : v = j
    · subst e
      by_cases hv : v < (restE e0 e2 vs).length
      · rw [List.getElem?_set_self hv] at h
        cases h
        cases q : e0[v]? with
        | none => exact .inl rfl
        | some sl => cases sl with
          | sh d => exact .inr (.inr ⟨d, rfl, rfl⟩)
          | _ => exact .inl rfl
      · rw [List.getElem?_eq_none (by simpa using hv)] at h; cases h
    · rw [List.getElem?_set_ne e] at h
      rcases restE_get h with h | ⟨h, n⟩ | h
      · exact .inl h
      · exact .inr (.inl ⟨h, by simp only [List.mem_cons, not_or]; exact ⟨fun z => e z.symm, n⟩⟩)
      · exact .inr (.inr h)
theorem wipe_eq {σ τ : List (Option V)} {vs : List Nat} (hl : σ.length = τ.length) (h : ∀ j, j ∉ vs → σ[j]? = τ[j]?) : L2.wipe σ vs = L2.wipe τ vs := by
  have get : ∀ (ρ : List (Option V)) (ws : List Nat) (j : Nat), j ∈ ws → (L2.wipe ρ ws)[j]? = if j < ρ.length then some none else none := by
    intro ρ ws
    induction ws with
    | nil => intro j hj; simp at hj
    | cons w ws ih =>
      intro j hj
      unfold L2.wipe
      by_cases e : w = j
      · subst e
        by_cases hv : w < (L2.wipe ρ ws).length
        · rw [List.getElem?_set_self hv, if_pos (by rw [L2.wipe_length] at hv; exact hv)]
        · rw [List.getElem?_eq_none (by simpa using hv), if_neg (by rw [L2.wipe_length] at hv; exact hv)]
      · rw [List.getElem?_set_ne e]
        exact ih j (by
          rcases List.mem_cons.mp hj with z | z
          · exact absurd z.symm e
          · exact z)
  apply List.ext_getElem?
  intro j
  by_cases hj : j ∈ vs
  · rw [get σ vs j hj, get τ vs j hj, hl]
  · rw [L2.wipe_out hj, L2.wipe_out hj, h j hj]

section
variable {K : PySem.W.Frag} {cl : Nat → Addr} {ν ν1 ν2 ν' : List Addr} {st st1 st2 st' : S} {σ σ1 σ2 σ' : List (Option V)} {H H0 H1 H2 H' : Hp}
theorem Pst.sub (t : Pst K cl ν st σ H ν1 st1 σ1 H1) {env' : List Sl} (hl : env'.length = σ'.length)
    (h : ∀ (j : Nat) sl, env'[j]? = some sl → sl = .no ∨ (st1.env[j]? = some sl ∧ σ'[j]? = σ1[j]?) ∨ (∃ d, sl = .sh d ∧ ∀ o, σ'[j]? = some o → RSl K ν1 H1 sl o)) : Pst K cl ν st σ H ν1 ⟨env', st1.cells⟩ σ' H1 := by
  have p := t.pre
  have back : ∀ j a, Own env' σ' j a → Own st1.env σ1 j a := fun j a ⟨sl, h1, h2, h3⟩ => by
    rcases h j sl h1 with z | ⟨z1, z2⟩ | ⟨d, z, _⟩
    · subst z; cases h2
    · exact ⟨sl, z1, h2, by rw [← z2]; exact h3⟩
    · subst z; cases h2
  refine ⟨⟨hl, fun j sl o h1 h2 => ?_, p.clen, p.cell, fun i j a x y => p.inj i j a (back i a x) (back j a y), fun i a x => p.sep i a (back i a x), p.nd⟩, t.ext, t.frm, fun b w => ?_, t.dom⟩
  · rcases h j sl h1 with z | ⟨z1, z2⟩ | ⟨d, z, q⟩
    · subst z; trivial
    · exact p.env j sl o z1 (by rw [← z2]; exact h2)
    · exact q o h2
  · rcases w with ⟨i, w⟩ | w
    · exact t.fre b (.inl ⟨i, back i b w⟩)
    · exact t.fre b (.inr w)
theorem Pst.wipe (t : Pst K cl ν st σ H ν1 st1 σ1 H1) (vs : List Nat) : Pst K cl ν st σ H ν1 ⟨wipeE st1.env vs, st1.cells⟩ (L2.wipe σ1 vs) H1 :=
  t.sub (by rw [wipeE_len, L2.wipe_length]; exact t.pre.len) fun j sl h => by
    rcases wipeE_get h with z | ⟨z, n⟩
    · exact .inl z
    · exact .inr (.inl ⟨z, L2.wipe_out n⟩)
theorem wr_wipe {env : List Sl} {vs : List Nat} {b : Addr} (w : Wr ν (wipeE env vs) (L2.wipe σ vs) b) : Wr ν env σ b := by
  rcases w with ⟨i, sl, h1, h2, h3⟩ | w
  · rcases wipeE_get h1 with z | ⟨z, n⟩
    · subst z; cases h2
    · rw [L2.wipe_out n] at h3
      exact .inl ⟨i, sl, z, h2, h3⟩
  · exact .inr w
theorem Pst.unwipe (p : Pre K cl ν st σ H) {vs : List Nat} (t : Pst K cl ν ⟨wipeE st.env vs, st.cells⟩ (L2.wipe σ vs) H ν1 st1 (L2.wipe σ vs) H1) : Pst K cl ν st σ H ν1 ⟨restE st.env st1.env vs, st1.cells⟩ σ H1 := by
  have k := t.keep ((Pst.refl p).wipe vs).pre
  have t1 : Pst K cl ν st σ H ν1 st1 (L2.wipe σ vs) H1 := ⟨t.pre, t.ext, fun b o h nw => t.frm b o h fun z => nw (wr_wipe z), fun b w => by
    rcases t.fre b w with q | q
    · exact .inl (wr_wipe q)
    · exact .inr q, t.dom⟩
  refine t1.sub (by rw [restE_len, t.pre.len, L2.wipe_length]) fun j sl h => ?_
  rcases restE_get h with z | ⟨z, n⟩ | ⟨d, z, q⟩
  · exact .inl z
  · exact .inr (.inl ⟨z, (L2.wipe_out n).symm⟩)
  · refine .inr (.inr ⟨d, z, fun o ho => ?_⟩)
    have r := p.env j sl o q ho
    subst z
    obtain ⟨v, e, r⟩ := r
    exact ⟨v, e, r.mono k t.ext⟩
end

section
variable {X : Cx} {cl : Nat → Addr}
theorem lc_read {K : PySem.W.Frag} {src : M (List D)} {g : D → S → Option S} {cond : M Bool} {elt : M Ev} {vs is : List Nat} (his : ∀ i ∈ is, i ∈ vs) {σ : L2.St} {H : Hp} {Q : VK} (w : tE K cl (dLc src g cond elt vs) σ H Q) :
    tLc (tI K cl src) (tG K cl is g) (tT K cl cond) (tD K cl (dFrz elt)) vs σ H Q := by
  obtain ⟨ν, st, o, st', p, hf, k⟩ := w
  unfold dLc at hf
  cases h1 : src st with
  | none => rw [h1] at hf; cases hf
  | some w1 =>
    obtain ⟨ds, s1⟩ := w1
    simp only [h1] at hf
    cases h2 : lcD g cond elt vs ds [] ⟨wipeE s1.env vs, s1.cells⟩ with
    | none => rw [h2] at hf; cases hf
    | some w2 =>
      obtain ⟨accF, sF⟩ := w2
      simp only [h2] at hf
      cases hf
      refine ⟨ν, st, ds, s1, p, h1, fun J ν1 H1 t1 it Da nD => ?_⟩
      have pw := (Pst.refl t1.pre).wipe vs
      have smD : Same H1 (upd H1 Da (.lst [])) := fun b o e => by rw [upd_ne (ne_of_none e nD)]; exact e
      have nW : ¬ Wr ν1 (wipeE s1.env vs) (L2.wipe σ vs) Da := fun w => by
        obtain ⟨o, q, _⟩ := pw.pre.wr_obj w
        rw [nD] at q
        cases q
      refine ⟨fun i m H2 => m = ds.length - i ∧ i ≤ ds.length ∧ ∃ ν2 s2 acc va, Pst K cl ν1 ⟨wipeE s1.env vs, s1.cells⟩ (L2.wipe σ vs) H1 ν2 s2 (L2.wipe σ vs) H2 ∧ H2 Da = some (.lst va) ∧ RDs K ν2 H2 acc va ∧ ¬ Wr ν2 s2.env (L2.wipe σ vs) Da ∧ lcD g cond elt vs (ds.drop i) acc s2 = some (accF, sF),
        ⟨ds.length, by simp, Nat.zero_le _, ν1, _, [], [], (Pst.refl pw.pre).andSame smD, upd_same, .nil, nW, h2⟩, ?_⟩
      rintro i m H2 ⟨rfl, hle, ν2, s2, acc, va, t2, hD, ra, nw2, hr⟩
      have kp : Keep H1 H2 := t2.keep pw.pre
      by_cases hlt : i < ds.length
      · rw [List.drop_eq_getElem_cons hlt] at hr
        unfold lcD at hr
        refine .inr ⟨it.go H2 i kp hlt, fun H3 => i + 1 ≤ ds.length ∧ ∃ ν3 s3 acc va, Pst K cl ν1 ⟨wipeE s1.env vs, s1.cells⟩ (L2.wipe σ vs) H1 ν3 s3 (L2.wipe σ vs) H3 ∧ H3 Da = some (.lst va) ∧ RDs K ν3 H3 acc va ∧ ¬ Wr ν3 s3.env (L2.wipe σ vs) Da ∧ lcD g cond elt vs (ds.drop (i + 1)) acc s3 = some (accF, sF), fun H3 n => ⟨ds.length - (i + 1), by omega, rfl, n⟩, fun x H3 y => ?_⟩
        obtain ⟨d, hd, sm, rd⟩ := it.yld H2 i x H3 kp hlt y
        rw [List.getElem?_eq_getElem hlt] at hd
        cases hd
        have t3 := t2.andSame sm
        cases hg1 : g ds[i] s2 with
        | none => simp only [hg1] at hr; cases hr
        | some s3 =>
          simp only [hg1] at hr
          refine ⟨ν2, s2, _, s3, t3.pre, rd.mono (.refl _) t2.ext, hg1, fun ν4 σ4 H4 t4 nt => ?_⟩
          have e0 : L2.wipe (L2.wipe σ vs) vs = L2.wipe σ vs := wipe_eq (L2.wipe_length σ vs) fun j hj => L2.wipe_out hj
          have ew : L2.wipe σ4 vs = L2.wipe σ vs := by
            have e1 : L2.wipe σ4 vs = L2.wipe (L2.wipe σ vs) vs := wipe_eq nt.1 fun j hj => nt.2 j fun z => hj (his j z)
            rw [e1, e0]
          refine ⟨ew, ?_⟩
          have t14 := t3.trans t4
          cases hc1 : cond s3 with
          | none => simp only [hc1] at hr; cases hr
          | some w5 =>
            obtain ⟨b, s5⟩ := w5
            simp only [hc1] at hr
            refine ⟨ν4, s3, b, s5, t4.pre, hc1, fun ν5 H5 t5 => ?_⟩
            have t15 := t14.trans t5
            have dD : H3 Da = some (.lst va) := sm _ _ hD
            have nw3 : ¬ Wr ν2 s2.env (L2.wipe σ vs) Da := nw2
            have out : ∀ {ν6 : List Addr} {s6 : S} {H6 : Hp}, Pst K cl ν2 s2 (L2.wipe σ vs) H3 ν6 s6 σ4 H6 → H6 Da = some (.lst va) ∧ RDs K ν6 H6 acc va ∧ ¬ Wr ν6 s6.env σ4 Da := fun t => by
              refine ⟨t.frm _ _ dD nw3, (ra.mono (.of_same sm) (ext_refl _)).mono (t.keep t3.pre) t.ext, fun w => ?_⟩
              rcases t.fre _ w with q | q
              · exact nw3 q
              · rw [dD] at q; cases q
            have t35 := t4.trans t5
            cases b with
            | false =>
              refine iteF ?_
              obtain ⟨o1, o2, o3⟩ := out t35
              have tw := t15.wipe vs
              rw [ew] at tw
              exact ⟨hlt, ν5, _, acc, va, tw, o1, o2, fun w => o3 (by rw [← ew] at w; exact wr_wipe w), hr⟩
            | true =>
              refine iteT ?_
              simp only at hr
              cases he1 : dFrz elt s5 with
              | none => simp only [he1] at hr; cases hr
              | some w6 =>
                obtain ⟨yd, s6⟩ := w6
                simp only [he1] at hr
                split at hr
                · rename_i hz
                  refine ⟨ν5, s5, yd, s6, t5.pre, he1, fun yv ν6 H6 t6 ry => ?_⟩
                  have t36 := t35.trans t6
                  obtain ⟨o1, o2, o3⟩ := out t36
                  refine ⟨va, o1, by rw [← o2.length, sizeLine_eq]; exact hz, hlt, ν6, _, acc ++ [yd], va ++ [yv], ?_, upd_same, ?_, ?_, hr⟩
                  · have tw := (t14.trans (t5.trans t6)).wipe vs
                    rw [ew] at tw
                    refine tw.out (fun w => o3 (by rw [← ew] at w; exact wr_wipe w)) nD fun u e => ?_
                    rw [o1] at e
                    cases e
                    rfl
                  · have kk := keep_upd (H := H6) (a := Da) (o := .lst (va ++ [yv])) fun u e => by
                      rw [o1] at e
                      cases e
                      rfl
                    exact (o2.append (.cons ry .nil)).mono kk (ext_refl _)
                  · exact fun w => o3 (by rw [← ew] at w; exact wr_wipe w)
                · cases hr
      · have e : i = ds.length := by omega
        subst e
        rw [List.drop_length] at hr
        cases hr
        refine .inl ⟨it.stop H2 _ kp (Nat.le_refl _), k _ ν2 H2 (t1.trans (Pst.unwipe t1.pre t2)) ⟨Da, va, rfl, hD, ra, fun w => ?_, t1.none_back nD⟩⟩
        rcases w with ⟨j, sl, q1, q2, q3⟩ | w
        · rcases restE_get q1 with z | ⟨z, n⟩ | ⟨d, z, _⟩
          · subst z; cases q2
          · exact nw2 (.inl ⟨j, sl, z, q2, by rw [L2.wipe_out n]; exact q3⟩)
          · subst z; cases q2
        · exact nw2 (.inr w)
variable {elt tg iter : Expr} {ifs : List Expr} {scope : Scope} {own : List (Str × Nat)} {pos : Pos} {src : M (List D)} {is : List Nat} {g : D → S → Option S} {cond : M Bool} {fe : M Ev}
theorem sts_nil : PTs X [] (tT X.K cl (dPure true)) := ⟨fun pins s σ H Q I h => pts_nil.run pins s σ H Q I (by
  obtain ⟨ν, st, b, st', p, hf, k⟩ := h
  cases hf
  exact k ν H (.refl p))⟩
theorem sts_one {c : Expr} {g : M Bool} (h : PT X c (tT X.K cl g)) : PTs X [c] (tT X.K cl g) := pts_one h
theorem se_lc (hc : X.calm = true) (hN : X.N.Nodup) (hi : PI X tg iter (tI X.K cl src)) (ok : BlkOk X.N X.env.scope scope own) (his : ∀ i ∈ is, i ∈ own.map (·.2))
    (hg : ∀ (s : Shared) (H : Hp) (C : Addr) (cl' : List (Str × Addr)) (fp : List Addr), PG (X.blk s H scope (compEnvC scope cl' C X.env) fp) tg (tG X.K cl is g))
    (ht : ∀ (s : Shared) (H : Hp) (C : Addr) (cl' : List (Str × Addr)) (fp : List Addr), PTs (X.blk s H scope (compEnvC scope cl' C X.env) fp) ifs (tT X.K cl cond))
    (he : ∀ (s : Shared) (H : Hp) (C : Addr) (cl' : List (Str × Addr)) (fp : List Addr), PE (X.blk s H scope (compEnvC scope cl' C X.env) fp) elt (tE X.K cl fe))
    (hs : ∀ x, foldedSetIterable iter X.env x = pure x := by intro _; kernel_rfl) :
    PE X (.ListComp elt [⟨tg, iter, ifs, 0⟩] scope pos) (tE X.K cl (dLc src g cond fe (own.map (·.2)))) :=
  PE_wk (pe_lc hc hN hi ok hg ht (fun s H C cl' fp => pe_frz (X := X.blk s H scope (compEnvC scope cl' C X.env) fp) (he s H C cl' fp)) hs) fun _ _ _ w => lc_read his w
theorem ss_setLc {i : Nat} {y : Str} {py : Pos} {spos : Pos} (hc : X.calm = true) (hN : X.N.Nodup) (hy : X.N[i]? = some y) (hyl : X.env.scope.names.lookup y = some .local)
    (hsw : swapsWith (.ListComp elt [⟨tg, iter, ifs, 0⟩] scope pos) (some (.Name y py)) spos.line X.env = pure true) (hi : PI X tg iter (tI X.K cl src)) (ok : BlkOk X.N X.env.scope scope own) (his : ∀ i ∈ is, i ∈ own.map (·.2))
    (hg : ∀ (s : Shared) (H : Hp) (C : Addr) (cl' : List (Str × Addr)) (fp : List Addr), PG (X.blk s H scope (compEnvC scope cl' C X.env) fp) tg (tG X.K cl is g))
    (ht : ∀ (s : Shared) (H : Hp) (C : Addr) (cl' : List (Str × Addr)) (fp : List Addr), PTs (X.blk s H scope (compEnvC scope cl' C X.env) fp) ifs (tT X.K cl cond))
    (he : ∀ (s : Shared) (H : Hp) (C : Addr) (cl' : List (Str × Addr)) (fp : List Addr), PE (X.blk s H scope (compEnvC scope cl' C X.env) fp) elt (tE X.K cl fe))
    (hs : ∀ x, foldedSetIterable iter X.env x = pure x := by intro _; kernel_rfl) :
    PS X (.Assign [.Name y py] (.ListComp elt [⟨tg, iter, ifs, 0⟩] scope pos) spos) (tS X.K cl (dSet i (dLc src g cond fe (own.map (·.2))))) :=
  PS_wk (ps_setLc hc hN hy hyl hsw hi ok hg ht (fun s H C cl' fp => pe_frz (X := X.blk s H scope (compEnvC scope cl' C X.env) fp) (he s H C cl' fp)) hs) fun D σ H w => by
    obtain ⟨ν, st, o, st', p, hf, k⟩ := w
    unfold dSet at hf
    cases h1 : unbo (dLc src g cond fe (own.map (·.2))) st with
    | none => rw [h1] at hf; cases hf
    | some w1 =>
      obtain ⟨ev, s1⟩ := w1
      rw [h1] at hf
      cases hf
      have h2 : dLc src g cond fe (own.map (·.2)) st = some (ev, s1) := by
        unfold unbo at h1
        unfold dLc at h1 ⊢
        cases q : src st with
        | none => rw [q] at h1; cases h1
        | some w2 =>
          obtain ⟨ds, s2⟩ := w2
          simp only [q] at h1 ⊢
          cases q2 : lcD g cond fe (own.map (·.2)) ds [] ⟨wipeE s2.env (own.map (·.2)), s2.cells⟩ with
          | none => rw [q2] at h1; cases h1
          | some w3 => rw [q2] at h1; exact h1
      exact lc_read his (Q := fun x H1 => gName i x σ H1 D.nx) ⟨ν, st, ev, s1, p, h2, fun v ν1 H1 t1 r => k ν1 _ H1 (t1.set r)⟩
end
end DL

namespace DL
open PySem PySem.Spec PyProof.Rows L2

/-! ### operations on values -/
def addD : D → D → Option Ev
  | .int i, .int j => some (.v (.int (i + j)))
  | .str x, .str y => if x.length + y.length ≤ 16777216 then some (.v (.str (x ++ y))) else none
  | .tup xs, .tup ys => if xs.length + ys.length ≤ 16777216 then some (.v (.tup (xs ++ ys))) else none
  | .lst xs, .lst ys => if xs.length + ys.length ≤ 16777216 then some (.fl (xs ++ ys)) else none
  | _, _ => none
def subD : D → D → Option Ev
  | .int i, .int j => some (.v (.int (i - j)))
  | _, _ => none
def mulD : D → D → Option Ev
  | .int i, .int j => if (-(2 ^ 64) < i ∧ i < 2 ^ 64) ∨ (-(2 ^ 64) < j ∧ j < 2 ^ 64) then some (.v (.int (i * j))) else none
  | _, _ => none
def fdivD : D → D → Option Ev
  | .int i, .int j => if 0 < j ∧ j < 1073741824 then some (.v (.int (i / j))) else none
  | _, _ => none
def modD : D → D → Option Ev
  | .int i, .int j => if 0 < j then some (.v (.int (i % j))) else none
  | _, _ => none
def powD : D → D → Option Ev
  | .int i, .int j => if 0 ≤ j ∧ j ≤ 1000000 ∧ i.natAbs < 2 ^ 64 then some (.v (.int (i ^ j.toNat))) else none
  | _, _ => none
def negD : D → Option Ev
  | .int i => some (.v (.int (-i)))
  | _ => none
mutual
def toPy : D → Option PyData
  | .non => some .none
  | .bl b => some (.bool b)
  | .int i => some (.int i)
  | .str x => some (.str x)
  | .tup xs => match toPys xs with
    | none => none
    | some ps => some (.tuple ps)
  | .lst xs => match toPys xs with
    | none => none
    | some ps => some (.list ps)
  | _ => none
def toPys : List D → Option (List PyData)
  | [] => some []
  | x :: xs => match toPy x with
    | none => none
    | some p => match toPys xs with
      | none => none
      | some ps => some (p :: ps)
end
def eqD (a b : D) : Option Bool := match toPy a with
  | none => none
  | some p => match toPy b with
    | none => none
    | some q => if SeqAt.shaped p && SeqAt.shaped q then some (PyData.eqv p q) else none
def bEv : Option Bool → Option Ev
  | none => none
  | some b => some (.v (.bl b))
def eqE (a b : D) : Option Ev := bEv (eqD a b)
def neE (a b : D) : Option Ev := bEv ((eqD a b).map not)
def ltD : D → D → Option Ev
  | .int i, .int j => some (.v (.bl (decide (i < j))))
  | .str i, .str j => some (.v (.bl (decide (i.cps.toList < j.cps.toList))))
  | _, _ => none
def leD : D → D → Option Ev
  | .int i, .int j => some (.v (.bl (decide (i ≤ j))))
  | .str i, .str j => some (.v (.bl (!decide (j.cps.toList < i.cps.toList))))
  | _, _ => none
def gtD : D → D → Option Ev
  | .int i, .int j => some (.v (.bl (decide (j < i))))
  | .str i, .str j => some (.v (.bl (decide (j.cps.toList < i.cps.toList))))
  | _, _ => none
def geD : D → D → Option Ev
  | .int i, .int j => some (.v (.bl (decide (j ≤ i))))
  | .str i, .str j => some (.v (.bl (!decide (i.cps.toList < j.cps.toList))))
  | _, _ => none
/-- is: None, or two bools -/
def isB : D → D → Option Bool
  | .non, .non => some true
  | .bl _, .non => some false
  | .int _, .non => some false
  | .str _, .non => some false
  | .tup _, .non => some false
  | .lst _, .non => some false
  | .dct _, .non => some false
  | .loc _, .non => some false
  | .bl a, .bl b => some (decide (a = b))
  | _, _ => none
def isE (a b : D) : Option Ev := bEv (isB a b)
def isnE (a b : D) : Option Ev := bEv ((isB a b).map not)
/-- x in y -/
def inB : D → D → Option Bool
  | .str x, .str y => match x.cps.toList with
    | [c] => some (decide (c ∈ y.cps.toList))
    | _ => none
  | d, .lst xs => match toPy d with
    | none => none
    | some p => match toPys xs with
      | none => none
      | some qs => if SeqAt.shaped p && SeqAt.shaped (.list qs) then some (qs.any fun z => PyData.eqv z p) else none
  | _, _ => none
def inE (a b : D) : Option Ev := bEv (inB a b)
def ninE (a b : D) : Option Ev := bEv ((inB a b).map not)
def idxD : D → D → Option Ev
  | .tup xs, .int i => (atI xs i).map .v
  | .lst xs, .int i => (atI xs i).map .v
  | .scr ns, .int i => (atI ns i).map fun n => .v (.int n)
  | .str x, .int i => if x.length ≤ 16777216 then (atI x.cps.toList i).map fun c => .v (.str ⟨#[c]⟩) else none
  | _, _ => none
def lenD : List D → Option Ev
  | [.tup xs] => some (.v (.int xs.length))
  | [.lst xs] => some (.v (.int xs.length))
  | [.scr xs] => some (.v (.int xs.length))
  | [.str x] => if x.length ≤ 16777216 then some (.v (.int x.length)) else none
  | _ => none
def absD : List D → Option Ev
  | [.int i] => some (.v (.int (if i < 0 then -i else i)))
  | _ => none
def intD : List D → Option Ev
  | [.int i] => some (.v (.int i))
  | [.bl b] => some (.v (.int (if b then 1 else 0)))
  | [.str x] => if x.length ≤ 640 then (intText? x).map fun n => .v (.int n) else none
  | _ => none
def strD : List D → Option Ev
  | [.int i] => if i.natAbs.log2 < 1920 then some (.v (.str (toString i))) else none
  | _ => none
def intsD : List D → Option (List Int)
  | [] => some []
  | .int i :: r => (intsD r).map (i :: ·)
  | _ => none
def blsD : List D → Option (List Bool)
  | [] => some []
  | .bl i :: r => (blsD r).map (i :: ·)
  | _ => none
def strsD : List D → Option (List Str)
  | [] => some []
  | .str i :: r => (strsD r).map (i :: ·)
  | _ => none
def maxD : List D → Option Ev
  | [.int i, .int j] => some (.v (.int (if j > i then j else i)))
  | [.lst xs] => match intsD xs with
    | some (n :: ns) => some (.v (.int (ns.foldl max n)))
    | _ => none
  | _ => none
def minD : List D → Option Ev
  | [.int i, .int j] => some (.v (.int (if j < i then j else i)))
  | [.lst xs] => match intsD xs with
    | some (n :: ns) => some (.v (.int (ns.foldl min n)))
    | _ => none
  | _ => none
def sumD : List D → Option Ev
  | [.lst xs] => (intsD xs).map fun ns => .v (.int ns.sum)
  | _ => none
def allD : List D → Option Ev
  | [.lst xs] => (blsD xs).map fun ns => .v (.bl (ns.all id))
  | _ => none
def anyD : List D → Option Ev
  | [.lst xs] => (blsD xs).map fun ns => .v (.bl (ns.any id))
  | _ => none
def tupleD : List D → Option Ev
  | [.lst xs] => some (.v (.tup xs))
  | [.tup xs] => some (.v (.tup xs))
  | _ => none
def listD : List D → Option Ev
  | [.lst xs] => some (.fl xs)
  | [.tup xs] => some (.fl xs)
  | _ => none
def tyD : D → Option String
  | .non => some "NoneType"
  | .bl _ => some "bool"
  | .int _ => some "int"
  | .str _ => some "str"
  | .tup _ => some "tuple"
  | .lst _ => some "list"
  | .dct _ => some "dict"
  | _ => none
def isiD (T : String) (d : D) : Option Ev := match tyD d with
  | none => none
  | some t => match kitB t T with
    | none => none
    | some b => some (.v (.bl b))
def cutD {α : Type} (xs : List α) (lo hi : Option Int) : List α := (xs.drop (HT.sIx xs.length 0 lo)).take (HT.sIx xs.length xs.length hi - HT.sIx xs.length 0 lo)
def slD (d : D) (lo hi : Option Int) : Option Ev := match d with
  | .tup xs => some (.v (.tup (cutD xs lo hi)))
  | .lst xs => some (.fl (cutD xs lo hi))
  | .str x => if x.length ≤ 16777216 then some (.v (.str (cutS x lo hi))) else none
  | _ => none
def joinD : D → List D → Option Ev
  | .str a, [.lst xs] => match strsD xs with
    | none => none
    | some ys => if (ys.map (·.length)).sum + ys.length * a.length ≤ 16777216 then some (.v (.str (Txt.join a ys))) else none
  | .str a, [.tup xs] => match strsD xs with
    | none => none
    | some ys => if (ys.map (·.length)).sum + ys.length * a.length ≤ 16777216 then some (.v (.str (Txt.join a ys))) else none
  | _, _ => none
def splitD : D → List D → Option Ev
  | .str a, [.str b] => if b.length ≠ 0 ∧ a.length + 2 ≤ 16777216 then some (.fl ((Txt.split a b).map .str)) else none
  | _, _ => none
def sindexD : D → List D → Option Ev
  | .str a, [.str b] => match Builtin.Str.occurrences a b 0 a.length 1 with
    | i :: _ => some (.v (.int (i : Nat)))
    | [] => none
  | _, _ => none

/-! ### how they stand to the heap -/
section
variable {K : PySem.W.Frag} {ν : List Addr} {H H' : Hp}
mutual
theorem toPy_dp : ∀ {d : D} {v : V} {p : PyData}, RD K ν H d v → toPy d = some p → Dp K H v p
  | _, _, _, .non, h => by cases h; exact .non
  | _, _, _, .bl b, h => by cases h; exact .bl b
  | _, _, _, .int b, h => by cases h; exact .int b
  | _, _, _, .str b, h => by cases h; exact .str b
  | .tup xs, _, p, .tup s r, h => by
    unfold toPy at h
    cases q : toPys xs with
    | none => rw [q] at h; cases h
    | some ps => rw [q] at h; cases h; exact .tup s (toPys_dp r q)
  | .lst xs, _, p, .lst ⟨o, s⟩ r, h => by
    unfold toPy at h
    cases q : toPys xs with
    | none => rw [q] at h; cases h
    | some ps => rw [q] at h; cases h; exact .lst (.inl (.inr ⟨o, s⟩)) (toPys_dp r q)
  | .dct _, _, _, .dct _ _, h => by simp [toPy] at h
  | .loc _, _, _, .loc _, h => by simp [toPy] at h
  | .scr _, _, _, .scr _, h => by simp [toPy] at h
theorem toPys_dp : ∀ {ds : List D} {vs : List V} {ps : List PyData}, RDs K ν H ds vs → toPys ds = some ps → DpAll K H vs ps
  | _, _, _, .nil, h => by simp [toPys] at h; subst h; exact .nil
  | d :: ds, _, ps, .cons r rs, h => by
    unfold toPys at h
    cases q : toPy d with
    | none => rw [q] at h; cases h
    | some p =>
      rw [q] at h
      simp only at h
      cases q2 : toPys ds with
      | none => rw [q2] at h; cases h
      | some ps2 => rw [q2] at h; cases h; exact .cons (toPy_dp r q) (toPys_dp rs q2)
end
theorem toPy_dpr {d : D} {v : V} {p : PyData} (r : RDr K ν H d v) (h : toPy d = some p) : Dp K H v p := by
  cases r with
  | v r => exact toPy_dp r h
  | @lst a xs vs e r =>
    unfold toPy at h
    cases q : toPys xs with
    | none => rw [q] at h; cases h
    | some ps => rw [q] at h; cases h; exact .lst (.of e) (toPys_dp r q)
  | dct e r => simp [toPy] at h
theorem ints_of : ∀ {ds : List D} {vs : List V} {ns : List Int}, RDs K ν H ds vs → intsD ds = some ns → vs = ns.map V.int
  | _, _, _, .nil, h => by simp [intsD] at h; subst h; rfl
  | d :: ds, _, ns, .cons r rs, h => by
    cases r with
    | int i =>
      simp only [intsD, Option.map_eq_some_iff] at h
      obtain ⟨m, h1, rfl⟩ := h
      rw [ints_of rs h1]
      rfl
    | _ => simp [intsD] at h
theorem bls_of : ∀ {ds : List D} {vs : List V} {ns : List Bool}, RDs K ν H ds vs → blsD ds = some ns → vs = ns.map V.bl
  | _, _, _, .nil, h => by simp [blsD] at h; subst h; rfl
  | d :: ds, _, ns, .cons r rs, h => by
    cases r with
    | bl i =>
      simp only [blsD, Option.map_eq_some_iff] at h
      obtain ⟨m, h1, rfl⟩ := h
      rw [bls_of rs h1]
      rfl
    | _ => simp [blsD] at h
theorem strs_of : ∀ {ds : List D} {vs : List V} {ns : List Str}, RDs K ν H ds vs → strsD ds = some ns → vs = ns.map V.str
  | _, _, _, .nil, h => by simp [strsD] at h; subst h; rfl
  | d :: ds, _, ns, .cons r rs, h => by
    cases r with
    | str i =>
      simp only [strsD, Option.map_eq_some_iff] at h
      obtain ⟨m, h1, rfl⟩ := h
      rw [strs_of rs h1]
      rfl
    | _ => simp [strsD] at h
theorem RDs.atI {ds : List D} {vs : List V} {i : Int} {d : D} (r : RDs K ν H ds vs) (h : L2.atI ds i = some d) : ∃ v, L2.atI vs i = some v ∧ RD K ν H d v := by
  unfold L2.atI at h ⊢
  rw [← r.length]
  cases q : ixN ds.length i with
  | none => rw [q] at h; cases h
  | some j =>
    rw [q] at h
    exact r.get h
theorem same_new {a : Addr} {o : HO} (h : H a = none) : Same H (upd H a o) := fun b u e => by
  rw [upd_ne (ne_of_none e h)]
  exact e
theorem RDs.cut {ds : List D} {vs : List V} (r : RDs K ν H ds vs) (lo hi : Option Int) : RDs K ν H (cutD ds lo hi) (cutV vs lo hi) := by
  unfold cutD cutV
  rw [← r.length]
  exact (r.drop _).take _
theorem cutD_whole {α : Type} {xs : List α} {lo hi : Option Int} (h : HT.sIx xs.length 0 lo = 0 ∧ HT.sIx xs.length xs.length hi = xs.length) : cutD xs lo hi = xs := by
  unfold cutD
  rw [h.1, h.2, List.drop_zero, Nat.sub_zero, List.take_length]
theorem sz16 {n : Nat} (h : n ≤ 16777216) : n ≤ sizeLine := by rw [sizeLine_eq]; exact h
end

section
variable {X : Cx}
theorem Inv.rdL {pins : List (Addr × Obj)} {σ : L2.St} {H : Hp} {s : Shared} {p : Addr} {xs : List V} (I : L2.Inv X pins σ H s) (h : Rd H p (.lst xs)) : ∃ (its : List Value) (n : Nat), Vals xs its ∧ xs.length = its.length ∧ s.heap.get? p = some { cls := .type "list", data := .seq its.toArray n } ∧ xs.length ≤ sizeLine := by
  obtain ⟨z, its, n, r, e⟩ := h.ok I.hok
  exact ⟨its, n, r, r.length, e, z⟩
theorem op_addD : OpR X (binaryOp .Add) (r2 X.K addD) := by
  intro pins s σ H x y v u Q I rx ry h
  obtain ⟨ν, d1, d2, e, q1, q2, hg, k⟩ := h
  cases d1 <;> cases d2 <;> first | (exfalso; simp [addD] at hg; done) | skip
  · cases hg
    rw [q1.int] at rx
    rw [q2.int] at ry
    exact op_add pins s σ H _ _ v u Q I rx ry ⟨_, _, rfl, rfl, k _ H (.refl H) (RD.int _)⟩
  · simp only [addD] at hg
    split at hg
    · rename_i hz
      cases hg
      rw [q1.str] at rx
      rw [q2.str] at ry
      exact op_add_str pins s σ H _ _ v u Q I rx ry ⟨_, _, rfl, rfl, sz16 hz, k _ H (.refl H) (RD.str _)⟩
    · cases hg
  · simp only [addD] at hg
    split at hg
    · rename_i hz
      cases hg
      obtain ⟨a, vs, rfl, sa, ra⟩ := q1.tuple
      obtain ⟨b, us, rfl, sb, rb⟩ := q2.tuple
      refine op_catA pins s σ H _ _ v u Q I rx ry ⟨a, b, vs, us, rfl, rfl, sa, sb, by rw [← ra.length, ← rb.length]; exact sz16 hz, fun e => ?_, fun e1 e2 => ?_, fun e1 e2 p np => ?_⟩
      · subst e
        cases ra
        exact k _ H (.refl H) (RD.tup sb rb)
      · subst e2
        cases rb
        exact k _ H (.refl H) (RD.tup sa (by rw [List.append_nil]; exact ra))
      · have sm := same_new (o := HO.tup (vs ++ us)) np
        exact k _ _ sm (RD.tup (.of upd_same) ((ra.append rb).mono (.of_same sm) (ext_refl ν)))
    · cases hg
  · simp only [addD] at hg
    split at hg
    · rename_i hz
      cases hg
      obtain ⟨a, vs, rfl, sa, ra⟩ := q1.list
      obtain ⟨b, us, rfl, sb, rb⟩ := q2.list
      cases rx
      cases ry
      obtain ⟨its, n, r, hl, e, z⟩ := DL.Inv.rdL I sa
      obtain ⟨its2, n2, r2, hl2, e2, z2⟩ := DL.Inv.rdL I sb
      have hz' : vs.length + us.length ≤ 16777216 := by rw [← ra.length, ← rb.length]; exact hz
      refine PySem.P.add_list e e2 ?_ (by rw [List.size_toArray, List.size_toArray, sizeLine_eq]; omega)
      have ea : its.toArray ++ its2.toArray = (its ++ its2).toArray := by simp
      rw [ea]
      have sm := same_new (o := HO.lst (vs ++ us)) I.fresh
      exact ⟨.ref _, _, I.lnew (t' := s.toks) (r.append r2) (by rw [List.length_append, sizeLine_eq]; omega), rfl, k _ _ sm ⟨_, _, rfl, I.fresh, upd_same, (ra.append rb).mono (.of_same sm) (ext_refl ν)⟩⟩
    · cases hg
theorem opInt {f : Value → Value → Sem Value} {C : Int → Int → Prop} {g : Int → Int → Int} {gD : D → D → Option Ev} (h : OpR X f (rI C fun i j => .int (g i j)))
    (hD : ∀ d1 d2 e, gD d1 d2 = some e → ∃ i j, d1 = .int i ∧ d2 = .int j ∧ C i j ∧ e = .v (.int (g i j))) : OpR X f (r2 X.K gD) := by
  intro pins s σ H x y v u Q I rx ry q
  obtain ⟨ν, d1, d2, e, q1, q2, hg, k⟩ := q
  obtain ⟨i, j, rfl, rfl, c, rfl⟩ := hD d1 d2 e hg
  rw [q1.int] at rx
  rw [q2.int] at ry
  exact h pins s σ H _ _ v u Q I rx ry ⟨i, j, rfl, rfl, c, k _ H (.refl H) (RD.int _)⟩
theorem op_subD : OpR X (binaryOp .Sub) (r2 X.K subD) := by
  intro pins s σ H x y v u Q I rx ry h
  obtain ⟨ν, d1, d2, e, q1, q2, hg, k⟩ := h
  cases d1 <;> cases d2 <;> first | (exfalso; simp [subD] at hg; done) | skip
  cases hg
  rw [q1.int] at rx
  rw [q2.int] at ry
  exact op_sub pins s σ H _ _ v u Q I rx ry ⟨_, _, rfl, rfl, k _ H (.refl H) (RD.int _)⟩
theorem op_mulD : OpR X (binaryOp .Mult) (r2 X.K mulD) := opInt op_mul fun d1 d2 e h => by
  cases d1 <;> cases d2 <;> first | (exfalso; simp [mulD] at h; done) | skip
  simp only [mulD] at h
  split at h
  · rename_i hc; cases h; exact ⟨_, _, rfl, rfl, hc, rfl⟩
  · cases h
theorem op_fdivD : OpR X (binaryOp .FloorDiv) (r2 X.K fdivD) := opInt op_fdiv fun d1 d2 e h => by
  cases d1 <;> cases d2 <;> first | (exfalso; simp [fdivD] at h; done) | skip
  simp only [fdivD] at h
  split at h
  · rename_i hc; cases h; exact ⟨_, _, rfl, rfl, hc, rfl⟩
  · cases h
theorem op_modD : OpR X (binaryOp .Mod) (r2 X.K modD) := opInt op_mod fun d1 d2 e h => by
  cases d1 <;> cases d2 <;> first | (exfalso; simp [modD] at h; done) | skip
  simp only [modD] at h
  split at h
  · rename_i hc; cases h; exact ⟨_, _, rfl, rfl, hc, rfl⟩
  · cases h
theorem op_powD : OpR X (binaryOp .Pow) (r2 X.K powD) := opInt op_pow fun d1 d2 e h => by
  cases d1 <;> cases d2 <;> first | (exfalso; simp [powD] at h; done) | skip
  simp only [powD] at h
  split at h
  · rename_i hc; cases h; exact ⟨_, _, rfl, rfl, hc, rfl⟩
  · cases h
theorem un_negD : UnR X (unaryOp .USub) (r1 X.K negD) := by
  intro pins s σ H x v Q I rx h
  obtain ⟨ν, d1, e, q1, hg, k⟩ := h
  cases d1 <;> first | (exfalso; simp [negD] at hg; done) | skip
  cases hg
  rw [q1.int] at rx
  exact un_neg pins s σ H _ v Q I rx ⟨_, rfl, k _ H (.refl H) (RD.int _)⟩
/-- in place -/
theorem iop_addD : OpR X (inplaceOp .Add) (r2 X.K fun a b => match a, b with | .int i, .int j => some (.v (.int (i + j))) | _, _ => none) := by
  intro pins s σ H x y v u Q I rx ry h
  obtain ⟨ν, d1, d2, e, q1, q2, hg, k⟩ := h
  cases d1 <;> cases d2 <;> first | (exfalso; simp at hg; done) | skip
  cases hg
  rw [q1.int] at rx
  rw [q2.int] at ry
  exact iop_add pins s σ H _ _ v u Q I rx ry ⟨_, _, rfl, rfl, k _ H (.refl H) (RD.int _)⟩
theorem eqD_dp {K : PySem.W.Frag} {ν : List Addr} {H : Hp} {d1 d2 : D} {x y : V} {b : Bool} (q1 : RDr K ν H d1 x) (q2 : RDr K ν H d2 y) (h : eqD d1 d2 = some b) :
    ∃ p q, Dp K H x p ∧ Dp K H y q ∧ SeqAt.shaped p = true ∧ SeqAt.shaped q = true ∧ PyData.eqv p q = b := by
  unfold eqD at h
  cases h1 : toPy d1 with
  | none => rw [h1] at h; cases h
  | some p =>
    rw [h1] at h
    simp only at h
    cases h2 : toPy d2 with
    | none => rw [h2] at h; cases h
    | some q =>
      rw [h2] at h
      simp only at h
      split at h
      · rename_i hs
        rw [Bool.and_eq_true] at hs
        cases h
        exact ⟨p, q, toPy_dpr q1 h1, toPy_dpr q2 h2, hs.1, hs.2, rfl⟩
      · cases h
theorem bEv_some {o : Option Bool} {e : Ev} (h : bEv o = some e) : ∃ b, o = some b ∧ e = .v (.bl b) := by
  cases o with
  | none => cases h
  | some b => cases h; exact ⟨b, rfl, rfl⟩
theorem op_eqE (hu : X.A.units + 64 < cLine) : OpR X (compareOp .Eq) (r2 X.K eqE) := by
  intro pins s σ H x y v u Q I rx ry h
  obtain ⟨ν, d1, d2, e, q1, q2, hg, k⟩ := h
  obtain ⟨b, hb, rfl⟩ := bEv_some hg
  obtain ⟨p, q, r1, r2, s1, s2, rfl⟩ := eqD_dp q1 q2 hb
  exact op_eqD hu pins s σ H x y v u Q I rx ry ⟨p, q, r1, r2, s1, s2, k _ H (.refl H) (RD.bl _)⟩
theorem op_neE (hu : X.A.units + 64 < cLine) : OpR X (compareOp .NotEq) (r2 X.K neE) := by
  intro pins s σ H x y v u Q I rx ry h
  obtain ⟨ν, d1, d2, e, q1, q2, hg, k⟩ := h
  obtain ⟨b, hb, rfl⟩ := bEv_some hg
  rw [Option.map_eq_some_iff] at hb
  obtain ⟨c, hc, rfl⟩ := hb
  obtain ⟨p, q, r1, r2, s1, s2, rfl⟩ := eqD_dp q1 q2 hc
  exact op_neD hu pins s σ H x y v u Q I rx ry ⟨p, q, r1, r2, s1, s2, k _ H (.refl H) (RD.bl _)⟩
theorem opOrd {op : CmpOp} {gI : Int → Int → Bool} {gS : Str → Str → Bool} {gD : D → D → Option Ev} (hI : OpR X (compareOp op) (rI0 fun i j => .bl (gI i j)))
    (hS : OpR X (compareOp op) (fun x y H Q => ∃ i j, x = .str i ∧ y = .str j ∧ Q (.bl (gS i j)) H))
    (hD : ∀ d1 d2 e, gD d1 d2 = some e → (∃ i j, d1 = .int i ∧ d2 = .int j ∧ e = .v (.bl (gI i j))) ∨ (∃ i j, d1 = .str i ∧ d2 = .str j ∧ e = .v (.bl (gS i j)))) : OpR X (compareOp op) (r2 X.K gD) := by
  intro pins s σ H x y v u Q I rx ry q
  obtain ⟨ν, d1, d2, e, q1, q2, hg, k⟩ := q
  rcases hD d1 d2 e hg with ⟨i, j, rfl, rfl, rfl⟩ | ⟨i, j, rfl, rfl, rfl⟩
  · rw [q1.int] at rx
    rw [q2.int] at ry
    exact hI pins s σ H _ _ v u Q I rx ry ⟨i, j, rfl, rfl, k _ H (.refl H) (RD.bl _)⟩
  · rw [q1.str] at rx
    rw [q2.str] at ry
    exact hS pins s σ H _ _ v u Q I rx ry ⟨i, j, rfl, rfl, k _ H (.refl H) (RD.bl _)⟩
theorem op_ltD : OpR X (compareOp .Lt) (r2 X.K ltD) := opOrd op_lt op_lt_str fun d1 d2 e h => by
  cases d1 <;> cases d2 <;> first | (exfalso; simp [ltD] at h; done) | (cases h; first | exact .inl ⟨_, _, rfl, rfl, rfl⟩ | exact .inr ⟨_, _, rfl, rfl, rfl⟩)
theorem op_leD : OpR X (compareOp .LtE) (r2 X.K leD) := opOrd op_le op_le_str fun d1 d2 e h => by
  cases d1 <;> cases d2 <;> first | (exfalso; simp [leD] at h; done) | (cases h; first | exact .inl ⟨_, _, rfl, rfl, rfl⟩ | exact .inr ⟨_, _, rfl, rfl, rfl⟩)
theorem op_gtD : OpR X (compareOp .Gt) (r2 X.K gtD) := opOrd op_gt op_gt_str fun d1 d2 e h => by
  cases d1 <;> cases d2 <;> first | (exfalso; simp [gtD] at h; done) | (cases h; first | exact .inl ⟨_, _, rfl, rfl, rfl⟩ | exact .inr ⟨_, _, rfl, rfl, rfl⟩)
theorem op_geD : OpR X (compareOp .GtE) (r2 X.K geD) := opOrd op_ge op_ge_str fun d1 d2 e h => by
  cases d1 <;> cases d2 <;> first | (exfalso; simp [geD] at h; done) | (cases h; first | exact .inl ⟨_, _, rfl, rfl, rfl⟩ | exact .inr ⟨_, _, rfl, rfl, rfl⟩)
theorem isB_ok {K : PySem.W.Frag} {ν : List Addr} {H : Hp} {d1 d2 : D} {x y : V} {b : Bool} (q1 : RDr K ν H d1 x) (q2 : RDr K ν H d2 y) (h : isB d1 d2 = some b) :
    (y = .non ∧ b = decide (x = .non)) ∨ (∃ c d, x = .bl c ∧ y = .bl d ∧ b = decide (c = d)) := by
  cases d2 with
  | non =>
    refine .inl ⟨q2.non, ?_⟩
    cases q1 with
    | v r => cases r <;> first | (cases h; simp) | (exfalso; simp [isB] at h; done)
    | lst e r => cases h; simp
    | dct e r => cases h; simp
  | bl c =>
    cases d1 <;> first | (exfalso; simp [isB] at h; done) | skip
    cases h
    exact .inr ⟨_, _, q1.bl, q2.bl, rfl⟩
  | _ => cases d1 <;> (exfalso; simp [isB] at h)
theorem op_isE : OpR X (compareOp .Is) (r2 X.K isE) := by
  intro pins s σ H x y v u Q I rx ry h
  obtain ⟨ν, d1, d2, e, q1, q2, hg, k⟩ := h
  obtain ⟨b, hb, rfl⟩ := bEv_some hg
  rcases isB_ok q1 q2 hb with ⟨rfl, rfl⟩ | ⟨c, d, rfl, rfl, rfl⟩
  · exact op_isN pins s σ H x _ v u Q I rx ry ⟨rfl, k _ H (.refl H) (RD.bl _)⟩
  · exact op_isBl pins s σ H _ _ v u Q I rx ry ⟨_, _, rfl, rfl, k _ H (.refl H) (RD.bl _)⟩
theorem op_isnE : OpR X (compareOp .IsNot) (r2 X.K isnE) := by
  intro pins s σ H x y v u Q I rx ry h
  obtain ⟨ν, d1, d2, e, q1, q2, hg, k⟩ := h
  obtain ⟨b, hb, rfl⟩ := bEv_some hg
  rw [Option.map_eq_some_iff] at hb
  obtain ⟨c, hc, rfl⟩ := hb
  rcases isB_ok q1 q2 hc with ⟨rfl, rfl⟩ | ⟨c, d, rfl, rfl, rfl⟩
  · exact op_notN pins s σ H x _ v u Q I rx ry ⟨rfl, k _ H (.refl H) (RD.bl _)⟩
  · exact op_notBl pins s σ H _ _ v u Q I rx ry ⟨_, _, rfl, rfl, k _ H (.refl H) (RD.bl _)⟩
theorem inB_ok {K : PySem.W.Frag} {ν : List Addr} {H : Hp} {d1 d2 : D} {x y : V} {b : Bool} (q1 : RDr K ν H d1 x) (q2 : RDr K ν H d2 y) (h : inB d1 d2 = some b) :
    (∃ (c : Nat) (z : Str), x = .str ⟨#[c]⟩ ∧ y = .str z ∧ b = decide (c ∈ z.cps.toList)) ∨
    (∃ d ds, Dp K H x d ∧ Dp K H y (.list ds) ∧ SeqAt.shaped d = true ∧ SeqAt.shaped (.list ds) = true ∧ b = ds.any fun z => PyData.eqv z d) := by
  have strCase : ∀ {x1 z : Str}, d1 = .str x1 → d2 = .str z → (match x1.cps.toList with
    | [c] => some (decide (c ∈ z.cps.toList))
    | _ => none) = some b → ∃ (c : Nat) (z : Str), x = .str ⟨#[c]⟩ ∧ y = .str z ∧ b = decide (c ∈ z.cps.toList) := fun {x1 z} e1 e2 h0 => by
    clear h
    subst e1 e2
    split at h0
    · rename_i c hc
      cases h0
      refine ⟨c, z, ?_, q2.str, rfl⟩
      rw [q1.str]
      congr 1
      obtain ⟨a⟩ := x1
      obtain ⟨l⟩ := a
      simp at hc
      subst hc
      rfl
    · cases h0
  have lstCase : ∀ {xs : List D}, d2 = .lst xs → (match toPy d1 with
    | none => none
    | some p => match toPys xs with
      | none => none
      | some qs => if SeqAt.shaped p && SeqAt.shaped (.list qs) then some (qs.any fun z => PyData.eqv z p) else none) = some b →
      ∃ d ds, Dp K H x d ∧ Dp K H y (.list ds) ∧ SeqAt.shaped d = true ∧ SeqAt.shaped (.list ds) = true ∧ b = ds.any fun z => PyData.eqv z d := fun {xs} e2 h0 => by
    clear h strCase
    subst e2
    cases h1 : toPy d1 with
    | none => rw [h1] at h0; cases h0
    | some p =>
      rw [h1] at h0
      simp only at h0
      cases h2 : toPys xs with
      | none => rw [h2] at h0; cases h0
      | some qs =>
        rw [h2] at h0
        simp only at h0
        split at h0
        · rename_i hs
          rw [Bool.and_eq_true] at hs
          cases h0
          exact ⟨p, qs, toPy_dpr q1 h1, toPy_dpr q2 (by unfold toPy; rw [h2]), hs.1, hs.2, rfl⟩
        · cases h0
  cases d2 with
  | str z =>
    cases d1 <;> first | (exfalso; simp [inB] at h; done) | exact .inl (strCase rfl rfl h)
  | lst xs =>
    cases d1 <;> exact .inr (lstCase rfl h)
  | _ => cases d1 <;> (exfalso; simp [inB] at h)
theorem op_inE (hu : X.A.units + 65 < cLine) : OpR X (compareOp .In) (r2 X.K inE) := by
  intro pins s σ H x y v u Q I rx ry h
  obtain ⟨ν, d1, d2, e, q1, q2, hg, k⟩ := h
  obtain ⟨b, hb, rfl⟩ := bEv_some hg
  rcases inB_ok q1 q2 hb with ⟨c, z, rfl, rfl, rfl⟩ | ⟨d, ds, a1, a2, a3, a4, rfl⟩
  · exact op_in_sign pins s σ H _ _ v u Q I rx ry ⟨c, z, rfl, rfl, k _ H (.refl H) (RD.bl _)⟩
  · exact op_inD hu pins s σ H _ _ v u Q I rx ry ⟨d, ds, a1, a2, a3, a4, k _ H (.refl H) (RD.bl _)⟩
theorem op_ninE (hu : X.A.units + 65 < cLine) : OpR X (compareOp .NotIn) (r2 X.K ninE) := by
  intro pins s σ H x y v u Q I rx ry h
  obtain ⟨ν, d1, d2, e, q1, q2, hg, k⟩ := h
  obtain ⟨b, hb, rfl⟩ := bEv_some hg
  rw [Option.map_eq_some_iff] at hb
  obtain ⟨c, hc, rfl⟩ := hb
  rcases inB_ok q1 q2 hc with ⟨c, z, rfl, rfl, rfl⟩ | ⟨d, ds, a1, a2, a3, a4, rfl⟩
  · exact op_notIn_sign pins s σ H _ _ v u Q I rx ry ⟨c, z, rfl, rfl, k _ H (.refl H) (RD.bl _)⟩
  · exact op_notInD hu pins s σ H _ _ v u Q I rx ry ⟨d, ds, a1, a2, a3, a4, k _ H (.refl H) (RD.bl _)⟩
theorem ix_D : IxR X (r2 X.K idxD) := by
  intro value slice pins s σ H x y v u Q I rx ry h hs
  obtain ⟨ν, d1, d2, e, q1, q2, hg, k⟩ := h
  refine ix_seq value slice pins s σ H x y v u Q I rx ry ?_ hs
  cases d2 <;> first | (exfalso; cases d1 <;> simp [idxD] at hg; done) | skip
  rename_i i
  have ey := q2.int
  cases d1 <;> first | (exfalso; simp [idxD] at hg; done) | skip
  · rename_i z
    simp only [idxD] at hg
    split at hg
    · rename_i hz
      rw [Option.map_eq_some_iff] at hg
      obtain ⟨c, hc, rfl⟩ := hg
      exact .inr (.inr ⟨z, i, c, q1.str, ey, sz16 hz, hc, k _ H (.refl H) (RD.str _)⟩)
    · cases hg
  · simp only [idxD, Option.map_eq_some_iff] at hg
    obtain ⟨d, hd, rfl⟩ := hg
    obtain ⟨a, vs, rfl, sa, ra⟩ := q1.tuple
    obtain ⟨w, hw, rw'⟩ := ra.atI hd
    exact .inr (.inl ⟨a, vs, i, w, rfl, ey, sa, hw, k _ H (.refl H) rw'⟩)
  · simp only [idxD, Option.map_eq_some_iff] at hg
    obtain ⟨d, hd, rfl⟩ := hg
    obtain ⟨a, vs, rfl, sa, ra⟩ := q1.list
    obtain ⟨w, hw, rw'⟩ := ra.atI hd
    exact .inl ⟨a, vs, i, w, rfl, ey, .inl sa, hw, k _ H (.refl H) rw'⟩
  · rename_i ns
    simp only [idxD, Option.map_eq_some_iff] at hg
    obtain ⟨d, hd, rfl⟩ := hg
    obtain ⟨a, rfl, sa⟩ := q1.scr
    refine .inl ⟨a, _, i, .int d, rfl, ey, sa, ?_, k _ H (.refl H) (RD.int d)⟩
    unfold L2.atI at hd ⊢
    rw [List.length_map]
    cases q : ixN ns.length i with
    | none => rw [q] at hd; cases hd
    | some j =>
      rw [q] at hd
      show (ns.map V.int)[j]? = some (.int d)
      have hd' : ns[j]? = some d := hd
      rw [List.getElem?_map, hd']
      rfl
end
end DL

namespace DL
open PySem PySem.Spec PyProof.Rows L2

theorem RDrs.one {K : PySem.W.Frag} {ν : List Addr} {H : Hp} {d : D} {vs : List V} (h : RDrs K ν H [d] vs) : ∃ v, vs = [v] ∧ RDr K ν H d v := by
  cases h with
  | cons h t => cases t; exact ⟨_, rfl, h⟩
theorem RDrs.two {K : PySem.W.Frag} {ν : List Addr} {H : Hp} {d d' : D} {vs : List V} (h : RDrs K ν H [d, d'] vs) : ∃ v v', vs = [v, v'] ∧ RDr K ν H d v ∧ RDr K ν H d' v' := by
  cases h with
  | cons h t =>
    obtain ⟨v', rfl, h'⟩ := t.one
    exact ⟨_, _, rfl, h, h'⟩
section
variable {X : Cx} {cl : Nat → Addr} {e o : Expr} {es : List Expr} {pos p : Pos} {x : Str} {f fo fi : M Ev} {fs : M (List Ev)} {g : List D → Option Ev} {id : String} {T : String}
theorem se_callB (hc : CallR X (.builtin id) (rL X.K g)) (hm : X.mg x = none) (hv : bootBuiltins x = some (.builtin id)) (ha : PA X (e :: es) (tAu X.K cl fs)) (hg : X.env.kindOf x = some .globalImplicit := by kernel_rfl) (hn : x ≠ "__name__" := by decide +kernel) (hdb : (x == ("__debug__" : Str)) = false := by decide +kernel)
    (he : starEach (e :: es) X.env = (false, eval e X.env) :: starEach es X.env := by kernel_rfl) (hpl : (backTo pos (starEach es X.env)).any (·.1) = false := by kernel_rfl) : PE X (.Call (.Name x p) (e :: es) [] pos) (tE X.K cl (dOpL g fs)) :=
  PE_wk (pe_callB hc hg hm hv ha hn hdb he hpl) fun _ _ _ h => many (fun _ _ _ q => q) h
theorem se_callTy (hc : CallR X (.type T) (rL X.K g)) (hm : X.mg x = none) (hv : bootBuiltins x = some (.type T)) (ha : PA X (e :: es) (tAu X.K cl fs)) (hg : X.env.kindOf x = some .globalImplicit := by kernel_rfl) (hn : x ≠ "__name__" := by decide +kernel) (hdb : (x == ("__debug__" : Str)) = false := by decide +kernel)
    (he : starEach (e :: es) X.env = (false, eval e X.env) :: starEach es X.env := by kernel_rfl) (hpl : (backTo pos (starEach es X.env)).any (·.1) = false := by kernel_rfl) : PE X (.Call (.Name x p) (e :: es) [] pos) (tE X.K cl (dOpL g fs)) :=
  PE_wk (pe_callTy hc hg hm hv ha hn hdb he hpl) fun _ _ _ h => many (fun _ _ _ q => q) h
theorem cr_lenD : CallR X (.builtin "len") (rL X.K lenD) := by
  intro pins s σ H xs us Q I rs h
  obtain ⟨ν, ds, e, q, hg, k⟩ := h
  unfold lenD at hg
  split at hg
  · cases hg
    obtain ⟨v, rfl, r⟩ := q.one
    obtain ⟨a, vs, rfl, sa, ra⟩ := r.tuple
    exact call_len_seq pins s σ H _ us Q I rs ⟨a, vs, rfl, .inr sa, by rw [← ra.length]; exact k _ H (.refl H) (RD.int _)⟩
  · cases hg
    obtain ⟨v, rfl, r⟩ := q.one
    obtain ⟨a, vs, rfl, sa, ra⟩ := r.list
    exact call_len_seq pins s σ H _ us Q I rs ⟨a, vs, rfl, .inl (.inl sa), by rw [← ra.length]; exact k _ H (.refl H) (RD.int _)⟩
  · rename_i ns
    cases hg
    obtain ⟨v, rfl, r⟩ := q.one
    obtain ⟨a, rfl, sa⟩ := r.scr
    exact call_len_seq pins s σ H _ us Q I rs ⟨a, _, rfl, .inl sa, by rw [List.length_map]; exact k _ H (.refl H) (RD.int _)⟩
  · split at hg
    · rename_i hz
      cases hg
      obtain ⟨v, rfl, r⟩ := q.one
      rw [r.str] at rs
      exact call_len_str pins s σ H _ us Q I rs ⟨_, rfl, sz16 hz, k _ H (.refl H) (RD.int _)⟩
    · cases hg
  · cases hg
theorem cr_absD : CallR X (.builtin "abs") (rL X.K absD) := by
  intro pins s σ H xs us Q I rs h
  obtain ⟨ν, ds, e, q, hg, k⟩ := h
  unfold absD at hg
  split at hg
  · cases hg
    obtain ⟨v, rfl, r⟩ := q.one
    rw [r.int] at rs
    exact call_abs pins s σ H _ us Q I rs ⟨_, rfl, k _ H (.refl H) (RD.int _)⟩
  · cases hg
theorem cr_intD : CallR X (.type "int") (rL X.K intD) := by
  intro pins s σ H xs us Q I rs h
  obtain ⟨ν, ds, e, q, hg, k⟩ := h
  unfold intD at hg
  split at hg
  · cases hg
    obtain ⟨v, rfl, r⟩ := q.one
    rw [r.int] at rs
    exact call_int1 pins s σ H _ us Q I rs (.inl ⟨_, rfl, k _ H (.refl H) (RD.int _)⟩)
  · cases hg
    obtain ⟨v, rfl, r⟩ := q.one
    rw [r.bl] at rs
    exact call_int1 pins s σ H _ us Q I rs (.inr ⟨_, rfl, k _ H (.refl H) (RD.int _)⟩)
  · split at hg
    · rename_i hz
      rw [Option.map_eq_some_iff] at hg
      obtain ⟨n, hn, rfl⟩ := hg
      obtain ⟨v, rfl, r⟩ := q.one
      rw [r.str] at rs
      exact call_int_str pins s σ H _ us Q I rs ⟨_, n, rfl, hn, hz, k _ H (.refl H) (RD.int _)⟩
    · cases hg
  · cases hg
theorem cr_strD : CallR X (.type "str") (rL X.K strD) := by
  intro pins s σ H xs us Q I rs h
  obtain ⟨ν, ds, e, q, hg, k⟩ := h
  unfold strD at hg
  split at hg
  · split at hg
    · rename_i hz
      cases hg
      obtain ⟨v, rfl, r⟩ := q.one
      rw [r.int] at rs
      exact call_str_int pins s σ H _ us Q I rs ⟨_, rfl, hz, k _ H (.refl H) (RD.str _)⟩
    · cases hg
  · cases hg
theorem foldl_max : ∀ (ns : List Int) (n : Int), ns.foldl max n ∈ n :: ns ∧ ∀ y ∈ n :: ns, y ≤ ns.foldl max n
  | [], n => ⟨by simp, fun y hy => by simp at hy; subst hy; exact Int.le_refl _⟩
  | m :: ns, n => by
    obtain ⟨h1, h2⟩ := foldl_max ns (max n m)
    rw [List.foldl_cons]
    refine ⟨?_, fun y hy => ?_⟩
    · rcases List.mem_cons.mp h1 with h | h
      · rw [h]
        by_cases z : n ≤ m
        · rw [Int.max_eq_right z]; simp
        · rw [Int.max_eq_left (by omega)]; simp
      · exact List.mem_cons_of_mem _ (List.mem_cons_of_mem _ h)
    · have h3 := h2 (max n m) List.mem_cons_self
      rcases List.mem_cons.mp hy with h | h
      · subst h; omega
      · rcases List.mem_cons.mp h with h | h
        · subst h; omega
        · exact h2 y (List.mem_cons_of_mem _ h)
theorem foldl_min : ∀ (ns : List Int) (n : Int), ns.foldl min n ∈ n :: ns ∧ ∀ y ∈ n :: ns, ns.foldl min n ≤ y
  | [], n => ⟨by simp, fun y hy => by simp at hy; subst hy; exact Int.le_refl _⟩
  | m :: ns, n => by
    obtain ⟨h1, h2⟩ := foldl_min ns (min n m)
    rw [List.foldl_cons]
    refine ⟨?_, fun y hy => ?_⟩
    · rcases List.mem_cons.mp h1 with h | h
      · rw [h]
        by_cases z : n ≤ m
        · rw [Int.min_eq_left z]; simp
        · rw [Int.min_eq_right (by omega)]; simp
      · exact List.mem_cons_of_mem _ (List.mem_cons_of_mem _ h)
    · have h3 := h2 (min n m) List.mem_cons_self
      rcases List.mem_cons.mp hy with h | h
      · subst h; omega
      · rcases List.mem_cons.mp h with h | h
        · subst h; omega
        · exact h2 y (List.mem_cons_of_mem _ h)
theorem int_list {K : PySem.W.Frag} {ν : List Addr} {H : Hp} {ds : List D} {ns : List Int} {v : V} (r : RDr K ν H (.lst ds) v) (h : intsD ds = some ns) : ∃ a, v = .ref a ∧ SqL K H a (ns.map V.int) := by
  obtain ⟨a, vs, rfl, sa, ra⟩ := r.list
  exact ⟨a, rfl, .inl (by rw [← ints_of ra h]; exact sa)⟩
theorem bl_list {K : PySem.W.Frag} {ν : List Addr} {H : Hp} {ds : List D} {ns : List Bool} {v : V} (r : RDr K ν H (.lst ds) v) (h : blsD ds = some ns) : ∃ a, v = .ref a ∧ SqL K H a (ns.map V.bl) := by
  obtain ⟨a, vs, rfl, sa, ra⟩ := r.list
  exact ⟨a, rfl, .inl (by rw [← bls_of ra h]; exact sa)⟩
theorem str_list {K : PySem.W.Frag} {ν : List Addr} {H : Hp} {ds : List D} {ns : List Str} {v : V} (r : RDr K ν H (.lst ds) v) (h : strsD ds = some ns) : ∃ a, v = .ref a ∧ SqL K H a (ns.map V.str) := by
  obtain ⟨a, vs, rfl, sa, ra⟩ := r.list
  exact ⟨a, rfl, .inl (by rw [← strs_of ra h]; exact sa)⟩
theorem str_tup {K : PySem.W.Frag} {ν : List Addr} {H : Hp} {ds : List D} {ns : List Str} {v : V} (r : RDr K ν H (.tup ds) v) (h : strsD ds = some ns) : ∃ a, v = .ref a ∧ SqT K H a (ns.map V.str) := by
  obtain ⟨a, vs, rfl, sa, ra⟩ := r.tuple
  exact ⟨a, rfl, by rw [← strs_of ra h]; exact sa⟩
theorem cr_maxD (hc : X.calm = true) : CallR X (.builtin "max") (rL X.K maxD) := by
  intro pins s σ H xs us Q I rs h
  obtain ⟨ν, ds, e, q, hg, k⟩ := h
  unfold maxD at hg
  split at hg
  · cases hg
    obtain ⟨v, v', rfl, r, r'⟩ := q.two
    rw [r.int, r'.int] at rs
    exact call_max2 hc pins s σ H _ us Q I rs ⟨_, _, rfl, k _ H (.refl H) (RD.int _)⟩
  · split at hg
    · rename_i ns n ns' hn
      cases hg
      obtain ⟨v, rfl, r⟩ := q.one
      obtain ⟨a, rfl, sa⟩ := int_list r hn
      refine cr_max hc pins s σ H _ us Q I rs ⟨a, _, rfl, sa, by simp, fun m h1 h2 => ?_⟩
      obtain ⟨f1, f2⟩ := foldl_max ns' n
      have e : m = ns'.foldl max n := Int.le_antisymm (f2 m h1) (h2 _ f1)
      rw [e]
      exact k _ H (.refl H) (RD.int _)
    · cases hg
  · cases hg
theorem cr_minD (hc : X.calm = true) : CallR X (.builtin "min") (rL X.K minD) := by
  intro pins s σ H xs us Q I rs h
  obtain ⟨ν, ds, e, q, hg, k⟩ := h
  unfold minD at hg
  split at hg
  · cases hg
    obtain ⟨v, v', rfl, r, r'⟩ := q.two
    rw [r.int, r'.int] at rs
    exact call_min2 hc pins s σ H _ us Q I rs ⟨_, _, rfl, k _ H (.refl H) (RD.int _)⟩
  · split at hg
    · rename_i ns n ns' hn
      cases hg
      obtain ⟨v, rfl, r⟩ := q.one
      obtain ⟨a, rfl, sa⟩ := int_list r hn
      refine cr_min hc pins s σ H _ us Q I rs ⟨a, _, rfl, sa, by simp, fun m h1 h2 => ?_⟩
      obtain ⟨f1, f2⟩ := foldl_min ns' n
      have e : m = ns'.foldl min n := Int.le_antisymm (h2 _ f1) (f2 m h1)
      rw [e]
      exact k _ H (.refl H) (RD.int _)
    · cases hg
  · cases hg
theorem cr_sumD (hc : X.calm = true) : CallR X (.builtin "sum") (rL X.K sumD) := by
  intro pins s σ H xs us Q I rs h
  obtain ⟨ν, ds, e, q, hg, k⟩ := h
  unfold sumD at hg
  split at hg
  · rw [Option.map_eq_some_iff] at hg
    obtain ⟨ns, hn, rfl⟩ := hg
    obtain ⟨v, rfl, r⟩ := q.one
    obtain ⟨a, rfl, sa⟩ := int_list r hn
    exact cr_sum hc pins s σ H _ us Q I rs ⟨a, ns, rfl, sa, k _ H (.refl H) (RD.int _)⟩
  · cases hg
theorem cr_allD (hc : X.calm = true) : CallR X (.builtin "all") (rL X.K allD) := by
  intro pins s σ H xs us Q I rs h
  obtain ⟨ν, ds, e, q, hg, k⟩ := h
  unfold allD at hg
  split at hg
  · rw [Option.map_eq_some_iff] at hg
    obtain ⟨ns, hn, rfl⟩ := hg
    obtain ⟨v, rfl, r⟩ := q.one
    obtain ⟨a, rfl, sa⟩ := bl_list r hn
    exact cr_all hc pins s σ H _ us Q I rs ⟨a, ns, rfl, sa, k _ H (.refl H) (RD.bl _)⟩
  · cases hg
theorem cr_anyD (hc : X.calm = true) : CallR X (.builtin "any") (rL X.K anyD) := by
  intro pins s σ H xs us Q I rs h
  obtain ⟨ν, ds, e, q, hg, k⟩ := h
  unfold anyD at hg
  split at hg
  · rw [Option.map_eq_some_iff] at hg
    obtain ⟨ns, hn, rfl⟩ := hg
    obtain ⟨v, rfl, r⟩ := q.one
    obtain ⟨a, rfl, sa⟩ := bl_list r hn
    exact cr_any hc pins s σ H _ us Q I rs ⟨a, ns, rfl, sa, k _ H (.refl H) (RD.bl _)⟩
  · cases hg
theorem cr_tupleD : CallR X (.type "tuple") (rL X.K tupleD) := by
  intro pins s σ H xs us Q I rs h
  obtain ⟨ν, ds, e, q, hg, k⟩ := h
  unfold tupleD at hg
  split at hg
  · cases hg
    obtain ⟨v, rfl, r⟩ := q.one
    obtain ⟨a, vs, rfl, sa, ra⟩ := r.list
    refine call_tuple_of pins s σ H _ us Q I rs ⟨a, vs, rfl, .inl ⟨.inl sa, fun l nl => ?_⟩⟩
    have sm := same_new (o := HO.tup vs) nl
    exact k _ _ sm (RD.tup (.of upd_same) (ra.mono (.of_same sm) (ext_refl ν)))
  · cases hg
    obtain ⟨v, rfl, r⟩ := q.one
    obtain ⟨a, vs, rfl, sa, ra⟩ := r.tuple
    exact call_tuple_of pins s σ H _ us Q I rs ⟨a, vs, rfl, .inr ⟨sa, k _ H (.refl H) (RD.tup sa ra)⟩⟩
  · cases hg
theorem cr_listD : CallR X (.type "list") (rL X.K listD) := by
  intro pins s σ H xs us Q I rs h
  obtain ⟨ν, ds, e, q, hg, k⟩ := h
  unfold listD at hg
  split at hg
  · cases hg
    obtain ⟨v, rfl, r⟩ := q.one
    obtain ⟨a, vs, rfl, sa, ra⟩ := r.list
    refine call_list_of pins s σ H _ us Q I rs ⟨a, vs, rfl, .inl (.inl sa), fun l nl => ?_⟩
    have sm := same_new (o := HO.lst vs) nl
    exact k _ _ sm ⟨l, vs, rfl, nl, upd_same, ra.mono (.of_same sm) (ext_refl ν)⟩
  · cases hg
    obtain ⟨v, rfl, r⟩ := q.one
    obtain ⟨a, vs, rfl, sa, ra⟩ := r.tuple
    refine call_list_of pins s σ H _ us Q I rs ⟨a, vs, rfl, .inr sa, fun l nl => ?_⟩
    have sm := same_new (o := HO.lst vs) nl
    exact k _ _ sm ⟨l, vs, rfl, nl, upd_same, ra.mono (.of_same sm) (ext_refl ν)⟩
  · cases hg
/-- isinstance(e, T), T a built-in type's name -/
theorem ty_x {K : PySem.W.Frag} {ν : List Addr} {H : Hp} {d : D} {v : V} {t : String} (r : RDr K ν H d v) (h : tyD d = some t) : TyX K H v (.type t) := by
  have tupX : ∀ {a : Addr} {vs : List V}, SqT K H a vs → TyX K H (.ref a) (.type "tuple") := fun sa => by
    rcases sa with (sa | ⟨o, sa⟩) | ⟨o, its, n, sa, sc, _⟩
    · exact .base (.tup sa)
    · exact .fTuple sa
    · exact .kTuple sa sc
  cases r with
  | v r =>
    cases r with
    | non => cases h; exact .base .non
    | bl b => cases h; exact .base (.bl b)
    | int b => cases h; exact .base (.int b)
    | str b => cases h; exact .base (.str b)
    | tup s r => cases h; exact tupX s
    | lst s r => cases h; obtain ⟨o, s⟩ := s; exact .base (.frz s)
    | dct s r => cases h; obtain ⟨o, s⟩ := s; exact .fDict s
    | loc s => cases h
    | scr s => cases h
  | lst s r => cases h; exact .base (.lst s)
  | dct s r => cases h; exact .base (.dK s)
theorem se_isi {pT : Pos} (tn : Str) (hm : X.mg "isinstance" = none) (hmT : X.mg tn = none) (hvT : bootBuiltins tn = some (.type T)) (he : PE X e (tE X.K cl f))
    (hv : bootBuiltins "isinstance" = some (.builtin "isinstance")) (hg : X.env.kindOf "isinstance" = some .globalImplicit := by kernel_rfl) (hgT : X.env.kindOf tn = some .globalImplicit := by kernel_rfl) (hnT : tn ≠ "__name__" := by decide +kernel) (hdT : (tn == ("__debug__" : Str)) = false := by decide +kernel)
    (hs1 : starEach (e :: [.Name tn pT]) X.env = (false, eval e X.env) :: starEach [.Name tn pT] X.env := by kernel_rfl) (hs2 : starEach ((.Name tn pT) :: []) X.env = (false, eval (.Name tn pT) X.env) :: starEach [] X.env := by kernel_rfl) (hpl : (backTo pos (starEach [.Name tn pT] X.env)).any (·.1) = false := by kernel_rfl) :
    PE X (.Call (.Name "isinstance" p) [e, .Name tn pT] [] pos) (tE X.K cl (dOp1 (isiD T) f)) :=
  PE_wk (pe_callB call_isi hg hm hv (pa_cons he (pa_cons (pe_bltn hgT hmT hvT (v := .ty T) rfl hnT hdT) pa_nil hs2) hs1) (by decide) (by decide) hs1 hpl) fun σ H Q h =>
    one (r := fun x H1 Q => rIsi X.K [x, .ty T] H1 Q) (fun x H1 Q ⟨ν, d, ev, r, hg, k⟩ => by
      unfold isiD at hg
      cases ht : tyD d with
      | none => rw [ht] at hg; cases hg
      | some t =>
        rw [ht] at hg
        simp only at hg
        cases hk : kitB t T with
        | none => rw [hk] at hg; cases hg
        | some b =>
          rw [hk] at hg
          cases hg
          exact ⟨x, .ty T, .type t, .type T, b, rfl, .ty T, ty_x r ht, kit_ty hk, k _ H1 (.refl H1) (RD.bl b)⟩) h

/-! ### subscripts and slices -/
theorem se_ix {a b : Expr} {fa fb : M Ev} (ha : PE X a (tE X.K cl fa)) (hb : PE X b (tE X.K cl fb)) (hs : PlainIx b) : PE X (.Subscript a b pos) (tE X.K cl (dOp2 idxD fa fb)) :=
  PE_wk (pe_ix ix_D ha hb hs) fun _ _ _ h => two (fun _ _ _ _ q => q) h
end

/-- a slice's part -/
def tP (K : PySem.W.Frag) (cl : Nat → Addr) (f : M (Option Int)) : TO := fun σ H Q => ∃ ν st i st', Pre K cl ν st σ H ∧ f st = some (i, st') ∧ ∀ ν' H', Pst K cl ν st σ H ν' st' σ H' → Q i H'
def dPart (f : M Ev) : M (Option Int) := fun st => match f st with
  | some (.v (.int i), s) => some (some i, s)
  | _ => none
def dSl (fa : M Ev) (fl fh : M (Option Int)) : M Ev := fun st => match fa st with
  | none => none
  | some (ea, s1) => match fl s1 with
    | none => none
    | some (l, s2) => match fh s2 with
      | none => none
      | some (h, s3) => match view s3 ea with
        | none => none
        | some d => match slD d l h with
          | none => none
          | some e => some (e, s3)
section
variable {X : Cx} {cl : Nat → Addr} {e : Expr} {pos p2 : Pos} {f fa : M Ev} {lo hi : Option Expr} {fl fh : M (Option Int)}
theorem sp_none : PO X none (tP X.K cl (dPure none)) := ⟨fun pins s σ H Q I h => po_none.run pins s σ H Q I (by
  obtain ⟨ν, st, i, st', p, hf, k⟩ := h
  cases hf
  exact k ν H (.refl p))⟩
theorem sp_some (h : PE X e (tE X.K cl f)) : PO X (some e) (tP X.K cl (dPart f)) := ⟨fun pins s σ H Q I w => (po_some h).run pins s σ H Q I (by
  obtain ⟨ν, st, i, st', p, hf, k⟩ := w
  unfold dPart at hf
  cases h1 : f st with
  | none => rw [h1] at hf; cases hf
  | some w1 =>
    obtain ⟨ev, s1⟩ := w1
    rw [h1] at hf
    cases ev with
    | v d =>
      cases d with
      | int j =>
        cases hf
        exact ⟨ν, st, _, _, p, h1, fun x ν1 H1 t1 r => ⟨j, by cases (show RD X.K ν1 H1 (.int j) x from r); rfl, k ν1 H1 t1⟩⟩
      | _ => cases hf
    | _ => cases hf)⟩
theorem sl_D : SlR X (fun x lo hi H Q => ∃ ν d e, RDr X.K ν H d x ∧ slD d lo hi = some e ∧ ∀ v H', Same H H' → NEv X.K ν H H' e v → Q v H') := by
  intro pins s σ H x v vl vu lo hi sl Q I rx hs pl pu h
  obtain ⟨ν, d, e, r, hg, k⟩ := h
  cases d <;> first | (exfalso; simp [slD] at hg; done) | skip
  · rename_i z
    simp only [slD] at hg
    split at hg
    · rename_i hz
      cases hg
      exact sl_str pins s σ H x v vl vu lo hi sl Q I rx hs pl pu ⟨z, r.str, sz16 hz, k _ H (.refl H) (RD.str _)⟩
    · cases hg
  · cases hg
    obtain ⟨a, vs, rfl, sa, ra⟩ := r.tuple
    refine sl_tupA pins s σ H _ v vl vu lo hi sl Q I rx hs pl pu ⟨a, vs, rfl, sa, fun hw => ?_, fun hw p np => ?_⟩
    · have rc := RDs.cut ra lo hi
      have e : cutV vs lo hi = vs := cutD_whole hw
      rw [e] at rc
      exact k _ H (.refl H) (RD.tup sa rc)
    · have sm := same_new (o := HO.tup (cutV vs lo hi)) np
      exact k _ _ sm (RD.tup (.of upd_same) ((RDs.cut ra lo hi).mono (.of_same sm) (ext_refl ν)))
  · cases hg
    obtain ⟨a, vs, rfl, sa, ra⟩ := r.list
    refine sl_list pins s σ H _ v vl vu lo hi sl Q I rx hs pl pu ⟨a, vs, rfl, .inl sa, fun p np => ?_⟩
    have sm := same_new (o := HO.lst (cutV vs lo hi)) np
    exact k _ _ sm ⟨p, _, rfl, np, upd_same, (RDs.cut ra lo hi).mono (.of_same sm) (ext_refl ν)⟩
theorem se_slice (he : PE X e (tE X.K cl fa)) (hl : PO X lo (tP X.K cl fl)) (hu : PO X hi (tP X.K cl fh)) : PE X (.Subscript e (.Slice lo hi none p2) pos) (tE X.K cl (dSl fa fl fh)) :=
  PE_wk (pe_slice sl_D he hl hu) fun σ H Q w => by
    obtain ⟨ν, st, i, st', p, hf, k⟩ := w
    unfold dSl at hf
    cases h1 : fa st with
    | none => rw [h1] at hf; cases hf
    | some w1 =>
      obtain ⟨ea, s1⟩ := w1
      simp only [h1] at hf
      cases h2 : fl s1 with
      | none => rw [h2] at hf; cases hf
      | some w2 =>
        obtain ⟨l, s2⟩ := w2
        simp only [h2] at hf
        cases h3 : fh s2 with
        | none => rw [h3] at hf; cases hf
        | some w3 =>
          obtain ⟨h, s3⟩ := w3
          simp only [h3] at hf
          cases h4 : view s3 ea with
          | none => rw [h4] at hf; cases hf
          | some d =>
            simp only [h4] at hf
            cases h5 : slD d l h with
            | none => rw [h5] at hf; cases hf
            | some e' =>
              simp only [h5] at hf
              cases hf
              refine ⟨ν, st, ea, s1, p, h1, fun x ν1 H1 t1 q1 => ⟨ν1, s1, l, s2, t1.pre, h2, fun ν2 H2 t2 => ⟨ν2, s2, h, _, t2.pre, h3, fun ν3 H3 t3 => ⟨ν3, d, _, view_ok t3.pre ((q1.later t1.pre t2).later t2.pre t3) h4, h5, fun v H' sm n => ?_⟩⟩⟩⟩
              have t := t1.trans (t2.trans t3)
              exact k v ν3 H' (t.andSame sm) (n.rev t)
end

/-! ### methods that write nothing -/
def isTy (T : String) (d : D) : Bool := match d with
  | .str _ => T == "str"
  | .lst _ => T == "list"
  | _ => false
def dMeth (T : String) (g : D → List D → Option Ev) (fo : M Ev) (fs : M (List Ev)) : M Ev := fun st => match fo st with
  | none => none
  | some (eo, s1) => match view s1 eo with
    | none => none
    | some d0 => if isTy T d0 then (match fs s1 with
      | none => none
      | some (es, s2) => match view s2 eo with
        | none => none
        | some d => match views s2 es with
          | none => none
          | some ds => match g d ds with
            | none => none
            | some e => some (e, s2)) else none
theorem isTy_ok {K : PySem.W.Frag} {ν : List Addr} {H : Hp} {d : D} {v : V} {T : String} (r : RDr K ν H d v) (h : isTy T d = true) : tyV K T v H := by
  cases d <;> first | (exfalso; simp [isTy] at h; done) | skip
  · rw [r.str]
    exact eq_of_beq h
  · obtain ⟨a, vs, rfl, sa, _⟩ := r.list
    exact .inl ⟨eq_of_beq h, vs, .inl sa⟩
section
variable {X : Cx} {cl : Nat → Addr} {e o : Expr} {es : List Expr} {pos apos cpos : Pos} {f fo : M Ev} {fs : M (List Ev)} {T id : String} {name : Str} {g : D → List D → Option Ev}
theorem meth_read {σ : L2.St} {H : Hp} {Q : VK} (w : tE X.K cl (dMeth T g fo fs) σ H Q) : tBM X.K T (rM X.K g) (tE X.K cl fo) (tAu X.K cl fs) σ H Q := by
  obtain ⟨ν, st, i, st', p, hf, k⟩ := w
  unfold dMeth at hf
  cases h1 : fo st with
  | none => rw [h1] at hf; cases hf
  | some w1 =>
    obtain ⟨eo, s1⟩ := w1
    simp only [h1] at hf
    cases h2 : view s1 eo with
    | none => rw [h2] at hf; cases hf
    | some d0 =>
      simp only [h2] at hf
      split at hf
      · rename_i ht
        cases h3 : fs s1 with
        | none => rw [h3] at hf; cases hf
        | some w3 =>
          obtain ⟨es, s2⟩ := w3
          simp only [h3] at hf
          cases h4 : view s2 eo with
          | none => rw [h4] at hf; cases hf
          | some d =>
            simp only [h4] at hf
            cases h5 : views s2 es with
            | none => rw [h5] at hf; cases hf
            | some ds =>
              simp only [h5] at hf
              cases h6 : g d ds with
              | none => rw [h6] at hf; cases hf
              | some e' =>
                simp only [h6] at hf
                cases hf
                refine ⟨ν, st, eo, s1, p, h1, fun x ν1 H1 t1 q1 => ⟨isTy_ok (view_ok t1.pre q1 h2) ht, ν1, s1, es, _, t1.pre, h3, fun xs ν2 H2 t2 q2 => ⟨ν2, d, ds, _, view_ok t2.pre (q1.later t1.pre t2) h4, views_ok t2.pre q2 h5, h6, fun v H' sm n => ?_⟩⟩⟩
                have t := t1.trans t2
                exact k v ν2 H' (t.andSame sm) (n.rev t)
      · cases hf
theorem se_meth (pa : PlainAttrs T) (slot : Slot T name id) (hty : typeOf (.builtin id) = pure (.type "method_descriptor")) (hm : MtR X id (rM X.K g)) (ho : PE X o (tE X.K cl fo)) (ha : PA X (e :: es) (tAu X.K cl fs))
    (hbase : attributeBase o name X.env (eval o X.env) = eval o X.env := by kernel_rfl)
    (hfew : ((backTo cpos (starEach (e :: es) X.env)).all (fun x => !x.1) && (backToKw cpos (keywordEach [] X.env)).all (fun x => x.1.isSome)
      && decide ((e :: es).length + ([] : List Keyword).length + (if ([] : List Keyword).isEmpty then 0 else 1) < 30)) = true := by kernel_rfl)
    (hline : (apos.endLine == cpos.line) = true := by kernel_rfl) (hs : starEach (e :: es) X.env = (false, eval e X.env) :: starEach es X.env := by kernel_rfl) (hplain : (backTo cpos (starEach es X.env)).any (·.1) = false := by kernel_rfl) :
    PE X (.Call (.Attribute o name apos) (e :: es) [] cpos) (tE X.K cl (dMeth T g fo fs)) :=
  PE_wk (pe_bm pa slot hty hm ho ha hbase hfew hline hs hplain) fun _ _ _ w => meth_read w
theorem mt_joinD : MtR X "str.join" (rM X.K joinD) := by
  intro pins s σ H x xs v us Q I rx rs h
  obtain ⟨ν, d, ds, e, r, q, hg, k⟩ := h
  unfold joinD at hg
  split at hg
  · rename_i a xs'
    cases hs : strsD xs' with
    | none => rw [hs] at hg; cases hg
    | some ys =>
      rw [hs] at hg
      simp only at hg
      split at hg
      · rename_i hz
        cases hg
        obtain ⟨v', rfl, r'⟩ := q.one
        obtain ⟨b, rfl, sb⟩ := str_list r' hs
        exact mt_join pins s σ H x _ v us Q I rx rs ⟨a, b, ys, r.str, rfl, .inl sb, hz, k _ H (.refl H) (RD.str _)⟩
      · cases hg
  · rename_i a xs'
    cases hs : strsD xs' with
    | none => rw [hs] at hg; cases hg
    | some ys =>
      rw [hs] at hg
      simp only at hg
      split at hg
      · rename_i hz
        cases hg
        obtain ⟨v', rfl, r'⟩ := q.one
        obtain ⟨b, rfl, sb⟩ := str_tup r' hs
        exact mt_join pins s σ H x _ v us Q I rx rs ⟨a, b, ys, r.str, rfl, .inr sb, hz, k _ H (.refl H) (RD.str _)⟩
      · cases hg
  · cases hg
theorem mt_splitD : MtR X "str.split" (rM X.K splitD) := by
  intro pins s σ H x xs v us Q I rx rs h
  obtain ⟨ν, d, ds, e, r, q, hg, k⟩ := h
  unfold splitD at hg
  split at hg
  · rename_i a b
    split at hg
    · rename_i hz
      cases hg
      obtain ⟨v', rfl, r'⟩ := q.one
      refine mt_split pins s σ H x _ v us Q I rx rs ⟨a, b, r.str, by rw [r'.str], beq_eq_false_iff_ne.mpr hz.1, sz16 hz.2, fun p np => ?_⟩
      have sm := same_new (o := HO.lst ((Txt.split a b).map V.str)) np
      exact k _ _ sm ⟨p, _, rfl, np, upd_same, RDs.strs _⟩
    · cases hg
  · cases hg
theorem mt_sindexD : MtR X "str.index" (rM X.K sindexD) := by
  intro pins s σ H x xs v us Q I rx rs h
  obtain ⟨ν, d, ds, e, r, q, hg, k⟩ := h
  unfold sindexD at hg
  split at hg
  · rename_i a b
    split at hg
    · rename_i i rest hi
      cases hg
      obtain ⟨v', rfl, r'⟩ := q.one
      exact mt_sindex pins s σ H x _ v us Q I rx rs ⟨a, b, i, rest, r.str, by rw [r'.str], hi, k _ H (.refl H) (RD.int _)⟩
    · cases hg
  · cases hg
end
end DL

namespace DL
open PySem PySem.Spec PyProof.Rows L2

/-! ### what a loop walks -/
def dSrc (f : M Ev) : M (List D) := fun st => match dFrz f st with
  | some (.lst xs, s) => some (xs, s)
  | some (.tup xs, s) => some (xs, s)
  | some (.scr ns, s) => some (ns.map .int, s)
  | some (.str x, s) => some (x.cps.toList.map fun c => .str ⟨#[c]⟩, s)
  | _ => none
def iAny (K : PySem.W.Frag) (tl : TE) : TI := fun σ H R => tl σ H fun x H1 => (∃ a, x = .ref a ∧ (∃ xs, SqL K H1 a xs) ∧ R (Itl K a) H1) ∨ (∃ a, x = .ref a ∧ (∃ xs, SqT K H1 a xs) ∧ R (Itt K a) H1) ∨ ∃ z, x = .str z ∧ R (Its z) H1
section
variable {X : Cx} {tg l : Expr} {cl : Nat → Addr} {f : M Ev}
theorem pi_any {tl : TE} (hl : PE X l tl) : PI X tg l (iAny X.K tl) := by
  refine ⟨fun pins s σ H R I h => ?_⟩
  refine thn (hl.run pins s σ H _ I h) fun v s1 ⟨x, H1, I1, r1, q1⟩ => ?_
  rcases q1 with ⟨a, e, ⟨xs, hq⟩, q⟩ | ⟨a, e, ⟨xs, hq⟩, q⟩ | ⟨z, e, q⟩
  · subst e
    cases r1
    obtain ⟨its, rv, p, hz⟩ := I1.list hq
    refine wpAny_pyIter_list p.isList ?_
    refine ⟨s1.heap.objs.size, [s1.heap.objs.size], _, _, H1, rfl, I1.kept (t' := s1.toks) fun b o e => Heap.get?_push_of_some _ e, turn_list a _, ⟨_, Heap.get?_push_size _ rfl, rfl, rfl⟩, fun b hb => ?_, q⟩
    have e : b = s1.heap.objs.size := by simpa using hb
    subst e
    exact I1.fpOk (Nat.le_refl _) (I1.hok.fresh (Nat.le_refl _))
  · subst e
    cases r1
    obtain ⟨its, rv, p, hz⟩ := I1.tuple hq
    refine wpAny_pyIter_tuple (show s1.heap.IsTuple a its.toArray from p) ?_
    refine ⟨s1.heap.objs.size, [s1.heap.objs.size], _, _, H1, rfl, I1.kept (t' := s1.toks) fun b o e => Heap.get?_push_of_some _ e, turn_tuple a _, ⟨_, Heap.get?_push_size _ rfl, rfl, rfl⟩, fun b hb => ?_, q⟩
    have e : b = s1.heap.objs.size := by simpa using hb
    subst e
    exact I1.fpOk (Nat.le_refl _) (I1.hok.fresh (Nat.le_refl _))
  · subst e
    obtain ⟨t, rfl⟩ := r1
    cases ha : z.cps.all (· < 128)
    · exact wpAny_pyIter_wide ha (pi_one (tk := s1.toks) I1 _ (turn_str _ z t "str_iterator" (.inr rfl)) ⟨_, Heap.get?_push_size _ rfl, rfl, rfl⟩ q)
    · exact wpAny_pyIter_ascii ha (pi_one (tk := s1.toks) I1 _ (turn_str _ z t "str_ascii_iterator" (.inl rfl)) ⟨_, Heap.get?_push_size _ rfl, rfl, rfl⟩ q)
theorem vals_at {K : PySem.W.Frag} {ν : List Addr} {H H' : Hp} {ds : List D} {vs : List V} {i : Nat} {x : V} (r : RDs K ν H ds vs) (k : Keep H H') (h : vs[i]? = some x) : ∃ d, ds[i]? = some d ∧ RD K ν H' d x := by
  obtain ⟨d, h1, h2⟩ := r.getV h
  exact ⟨d, h1, h2.mono k (ext_refl ν)⟩
theorem itok_l {K : PySem.W.Frag} {ν : List Addr} {H : Hp} {a : Addr} {ds : List D} {vs : List V} (hS : ∀ H', Keep H H' → SqL K H' a vs) (r : RDs K ν H ds vs) : ItOk K (Itl K a) ds ν H where
  go := fun H' i k hi => ⟨vs, vs[i]'(by rw [← r.length]; exact hi), hS H' k, List.getElem?_eq_getElem _⟩
  stop := fun H' i k hi => ⟨vs, hS H' k, by rw [← r.length]; exact hi⟩
  yld := fun H' i x H'' k hi y => by
    obtain ⟨e, y⟩ := y
    subst e
    obtain ⟨d, h1, h2⟩ := vals_at r k (y vs (hS _ k))
    exact ⟨d, h1, Same.refl _, h2⟩
theorem itok_t {K : PySem.W.Frag} {ν : List Addr} {H : Hp} {a : Addr} {ds : List D} {vs : List V} (hS : ∀ H', Keep H H' → SqT K H' a vs) (r : RDs K ν H ds vs) : ItOk K (Itt K a) ds ν H where
  go := fun H' i k hi => ⟨vs, vs[i]'(by rw [← r.length]; exact hi), hS H' k, List.getElem?_eq_getElem _⟩
  stop := fun H' i k hi => ⟨vs, hS H' k, by rw [← r.length]; exact hi⟩
  yld := fun H' i x H'' k hi y => by
    obtain ⟨e, y⟩ := y
    subst e
    obtain ⟨d, h1, h2⟩ := vals_at r k (y vs (hS _ k))
    exact ⟨d, h1, Same.refl _, h2⟩
theorem itok_s {K : PySem.W.Frag} {ν : List Addr} {H : Hp} {z : Str} : ItOk K (Its z) (z.cps.toList.map fun c => .str ⟨#[c]⟩) ν H where
  go := fun H' i k hi => by
    show i < z.cps.size
    simpa using hi
  stop := fun H' i k hi => by
    show z.cps.size ≤ i
    simpa using hi
  yld := fun H' i x H'' k hi y => by
    obtain ⟨e, c, hc, rfl⟩ := y
    subst e
    refine ⟨.str ⟨#[c]⟩, ?_, Same.refl _, RD.str _⟩
    rw [List.getElem?_map]
    have : z.cps.toList[i]? = some c := by simpa using hc
    rw [this]
    rfl
theorem si_any (hl : PE X l (tE X.K cl f)) : PI X tg l (tI X.K cl (dSrc f)) := by
  refine ⟨fun pins s σ H R I h => (pi_any (tg := tg) (pe_frz hl)).run pins s σ H R I ?_⟩
  obtain ⟨ν, st, ds, st', p, hf, k⟩ := h
  unfold dSrc at hf
  cases h1 : dFrz f st with
  | none => rw [h1] at hf; cases hf
  | some w1 =>
    obtain ⟨d, s1⟩ := w1
    rw [h1] at hf
    cases d with
    | lst xs =>
      cases hf
      refine ⟨ν, st, _, _, p, h1, fun x ν1 H1 t1 r => .inl ?_⟩
      cases r with
      | @lst a _ vs f r =>
        exact ⟨a, rfl, ⟨vs, .inl (.inr f)⟩, k _ ν1 H1 t1 (itok_l (fun H' kk => .inl (.inr (kk.fzL f))) r)⟩
    | tup xs =>
      cases hf
      refine ⟨ν, st, _, _, p, h1, fun x ν1 H1 t1 r => .inr (.inl ?_)⟩
      cases r with
      | @tup a _ vs f r =>
        exact ⟨a, rfl, ⟨vs, f⟩, k _ ν1 H1 t1 (itok_t (fun H' kk => kk.sqT f) r)⟩
    | scr ns =>
      cases hf
      refine ⟨ν, st, _, _, p, h1, fun x ν1 H1 t1 r => .inl ?_⟩
      cases r with
      | @scr a _ f =>
        exact ⟨a, rfl, ⟨_, f.seq⟩, k _ ν1 H1 t1 (itok_l (fun H' kk => (kk.fzS f).seq) (RDs.ints ns))⟩
    | str z =>
      cases hf
      refine ⟨ν, st, _, _, p, h1, fun x ν1 H1 t1 r => .inr (.inr ?_)⟩
      cases r
      exact ⟨z, rfl, k _ ν1 H1 t1 itok_s⟩
    | _ => cases hf
end
/-- ranges -/
def rngI (lo c : Int) (n : Nat) : List D := (List.range n).map fun (i : Nat) => D.int (lo + i * c)
def rngD : List D → Option (List D)
  | [.int j] => if -(2 ^ 62) ≤ j ∧ j < 2 ^ 62 then some (rngI 0 1 j.toNat) else none
  | [.int i, .int j] => if -(2 ^ 62) ≤ i ∧ i < 2 ^ 62 ∧ -(2 ^ 62) ≤ j ∧ j < 2 ^ 62 then some (rngI i 1 (j - i).toNat) else none
  | [.int i, .int j, .int c] => if c ≠ 0 ∧ c.natAbs < 1073741824 ∧ Builtin.Range.small i j c = true ∧ 0 ≤ Builtin.Range.rangeSize i j c then some (rngI i c (Builtin.Range.rangeSize i j c).toNat) else none
  | _ => none
def dRng (fs : M (List Ev)) : M (List D) := fun st => match fs st with
  | none => none
  | some (es, s) => match views s es with
    | none => none
    | some ds => match rngD ds with
      | none => none
      | some xs => some (xs, s)
section
variable {X : Cx} {tg a b c : Expr} {cl : Nat → Addr} {fs : M (List Ev)} {p pos : Pos}
theorem itok_r {K : PySem.W.Frag} {ν : List Addr} {H : Hp} {lo : Int} {n : Nat} : ItOk K (Itr lo n) (rngI lo 1 n) ν H where
  go := fun H' i k hi => by
    show i < n
    simpa [rngI] using hi
  stop := fun H' i k hi => by
    show n ≤ i
    simpa [rngI] using hi
  yld := fun H' i x H'' k hi y => by
    obtain ⟨e, rfl⟩ := y
    subst e
    have hn : i < n := by simpa [rngI] using hi
    refine ⟨.int (lo + i), ?_, Same.refl _, RD.int _⟩
    unfold rngI
    rw [List.getElem?_map, List.getElem?_range hn]
    simp
theorem itok_c {K : PySem.W.Frag} {ν : List Addr} {H : Hp} {lo c : Int} {n : Nat} : ItOk K (Itc lo c n) (rngI lo c n) ν H where
  go := fun H' i k hi => by
    show i < n
    simpa [rngI] using hi
  stop := fun H' i k hi => by
    show n ≤ i
    simpa [rngI] using hi
  yld := fun H' i x H'' k hi y => by
    obtain ⟨e, rfl⟩ := y
    subst e
    have hn : i < n := by simpa [rngI] using hi
    refine ⟨.int (lo + (i : Nat) * c), ?_, Same.refl _, RD.int _⟩
    unfold rngI
    rw [List.getElem?_map, List.getElem?_range hn]
    simp
theorem rng_read {σ : L2.St} {H : Hp} {R : It → Hp → Prop} (w : tI X.K cl (dRng fs) σ H R) : tAu X.K cl fs σ H fun vs H1 => ∃ ν ds xs, RDrs X.K ν H1 ds vs ∧ rngD ds = some xs ∧ ∀ J, ItOk X.K J xs ν H1 → R J H1 := by
  obtain ⟨ν, st, ds, st', p, hf, k⟩ := w
  unfold dRng at hf
  cases h1 : fs st with
  | none => rw [h1] at hf; cases hf
  | some w1 =>
    obtain ⟨es, s1⟩ := w1
    simp only [h1] at hf
    cases h2 : views s1 es with
    | none => rw [h2] at hf; cases hf
    | some ds' =>
      simp only [h2] at hf
      cases h3 : rngD ds' with
      | none => rw [h3] at hf; cases hf
      | some xs =>
        simp only [h3] at hf
        cases hf
        exact ⟨ν, st, es, _, p, h1, fun vs ν1 H1 t1 r => ⟨ν1, ds', _, views_ok t1.pre r h2, h3, fun J it => k J ν1 H1 t1 it⟩⟩
theorem RDrs.three {K : PySem.W.Frag} {ν : List Addr} {H : Hp} {d d' d2 : D} {vs : List V} (h : RDrs K ν H [d, d', d2] vs) : ∃ v v' v2, vs = [v, v', v2] ∧ RDr K ν H d v ∧ RDr K ν H d' v' ∧ RDr K ν H d2 v2 := by
  cases h with
  | cons h t =>
    obtain ⟨v', v2, rfl, h', h2⟩ := t.two
    exact ⟨_, _, _, rfl, h, h', h2⟩
theorem REvs.length {K : PySem.W.Frag} {ν : List Addr} {env : List Sl} {σ : List (Option V)} {H H' : Hp} : ∀ {es : List Ev} {vs : List V}, REvs K ν env σ H H' es vs → es.length = vs.length
  | _, _, .nil => rfl
  | _, _, .cons _ r _ => by rw [List.length_cons, List.length_cons, REvs.length r]
theorem si_range1 (hm : X.mg "range" = none) (ha : PA X [a] (tAu X.K cl fs)) (hl : ∀ st es s, fs st = some (es, s) → es.length = 1) (hg : X.env.kindOf "range" = some .globalImplicit := by kernel_rfl) (hs : starEach [a] X.env = [(false, eval a X.env)] := by kernel_rfl) :
    PI X tg (.Call (.Name "range" p) [a] [] pos) (tI X.K cl (dRng fs)) := ⟨fun pins s σ H R I w => (pi_range1 hg hm ha hs).run pins s σ H R I (by
  obtain ⟨ν, st, es, s1, p, h1, kk⟩ := rng_read w
  refine ⟨ν, st, es, s1, p, h1, fun vs ν1 H1 t1 r => ?_⟩
  obtain ⟨ν2, ds, xs, q, hx, k⟩ := kk vs ν1 H1 t1 r
  have hlen : vs.length = 1 := by rw [← hl _ _ _ h1, r.length]
  unfold rngD at hx
  split at hx
  · split at hx
    · rename_i j hz
      cases hx
      obtain ⟨v, rfl, r'⟩ := q.one
      exact ⟨j, by rw [r'.int], hz.1, hz.2, k _ itok_r⟩
    · cases hx
  · obtain ⟨v, v', rfl, _⟩ := q.two; simp at hlen
  · obtain ⟨v, v', v'', rfl, _⟩ := RDrs.three q; simp at hlen
  · cases hx)⟩
theorem si_range2 (hm : X.mg "range" = none) (ha : PA X [a, b] (tAu X.K cl fs)) (hl : ∀ st es s, fs st = some (es, s) → es.length = 2) (hg : X.env.kindOf "range" = some .globalImplicit := by kernel_rfl) (hs : starEach [a, b] X.env = [(false, eval a X.env), (false, eval b X.env)] := by kernel_rfl) (hs2 : starEach [b] X.env = [(false, eval b X.env)] := by kernel_rfl) :
    PI X tg (.Call (.Name "range" p) [a, b] [] pos) (tI X.K cl (dRng fs)) := ⟨fun pins s σ H R I w => (pi_range2 hg hm ha hs hs2).run pins s σ H R I (by
  obtain ⟨ν, st, es, s1, p, h1, kk⟩ := rng_read w
  refine ⟨ν, st, es, s1, p, h1, fun vs ν1 H1 t1 r => ?_⟩
  obtain ⟨ν2, ds, xs, q, hx, k⟩ := kk vs ν1 H1 t1 r
  have hlen : vs.length = 2 := by rw [← hl _ _ _ h1, r.length]
  unfold rngD at hx
  split at hx
  · obtain ⟨v, rfl, _⟩ := q.one; simp at hlen
  · split at hx
    · rename_i i j hz
      cases hx
      obtain ⟨v, v', rfl, r', r2⟩ := q.two
      exact ⟨i, j, by rw [r'.int, r2.int], hz, k _ itok_r⟩
    · cases hx
  · obtain ⟨v, v', v'', rfl, _⟩ := RDrs.three q; simp at hlen
  · cases hx)⟩
theorem si_range3 (hm : X.mg "range" = none) (ha : PA X [a, b, c] (tAu X.K cl fs)) (hl : ∀ st es s, fs st = some (es, s) → es.length = 3) (hg : X.env.kindOf "range" = some .globalImplicit := by kernel_rfl) 
    (hs : starEach [a, b, c] X.env = (false, eval a X.env) :: starEach [b, c] X.env := by kernel_rfl) (hpl : (backTo pos (starEach [b, c] X.env)).any (·.1) = false := by kernel_rfl) :
    PI X tg (.Call (.Name "range" p) [a, b, c] [] pos) (tI X.K cl (dRng fs)) := ⟨fun pins s σ H R I w => (pi_range3 hg hm ha hs hpl).run pins s σ H R I (by
  obtain ⟨ν, st, es, s1, p, h1, kk⟩ := rng_read w
  refine ⟨ν, st, es, s1, p, h1, fun vs ν1 H1 t1 r => ?_⟩
  obtain ⟨ν2, ds, xs, q, hx, k⟩ := kk vs ν1 H1 t1 r
  have hlen : vs.length = 3 := by rw [← hl _ _ _ h1, r.length]
  unfold rngD at hx
  split at hx
  · obtain ⟨v, rfl, _⟩ := q.one; simp at hlen
  · obtain ⟨v, v', rfl, _⟩ := q.two; simp at hlen
  · split at hx
    · rename_i i j c hz
      cases hx
      obtain ⟨v, v', v2, rfl, r', r2, r3⟩ := RDrs.three q
      exact ⟨i, j, c, _, by rw [r'.int, r2.int, r3.int], ⟨hz.1, hz.2.1, hz.2.2.1, (Int.toNat_of_nonneg hz.2.2.2).symm⟩, k _ itok_c⟩
    · cases hx
  · cases hx)⟩
end

/-! ### places that are written -/
def plc (st : S) : Ev → Option (List D)
  | .bo i => match st.env[i]? with
    | some (.ol xs) => some xs
    | _ => none
  | .v (.loc n) => match st.cells[n]? with
    | some (.lst xs) => some xs
    | _ => none
  | _ => none
def putPl (st : S) (e : Ev) (ys : List D) : S := match e with
  | .bo i => { st with env := st.env.set i (.ol ys) }
  | .v (.loc n) => { st with cells := st.cells.set n (.lst ys) }
  | _ => st
section
variable {K : PySem.W.Frag} {cl : Nat → Addr} {ν ν1 ν2 ν' : List Addr} {st st1 st2 st' : S} {σ σ1 σ2 σ' : List (Option V)} {H H0 H1 H2 H' : Hp}
theorem plc_ok (p : Pre K cl ν st σ H) {e : Ev} {v : V} {xs : List D} (r : REv K ν st.env σ H0 H e v) (h : plc st e = some xs) :
    ∃ a vs, v = .ref a ∧ H a = some (.lst vs) ∧ RDs K ν H xs vs ∧ ∀ ys us, RDs K ν H ys us → Pst K cl ν st σ H ν (putPl st e ys) σ (upd H a (.lst us)) := by
  cases e with
  | v d =>
    cases d <;> first | (exfalso; simp [plc] at h; done) | skip
    rename_i n
    simp only [plc] at h
    have r' : RD K ν H (.loc n) v := r
    cases r' with
    | @loc a _ hn =>
      cases hc : st.cells[n]? with
      | none => rw [hc] at h; cases h
      | some c =>
        rw [hc] at h
        cases c <;> first | (exfalso; cases h; done) | skip
        cases h
        obtain ⟨vs, hb, rv⟩ := p.cell n _ a hc hn
        refine ⟨a, vs, rfl, hb, rv, fun ys us ry => ?_⟩
        have k := keep_upd (H := H) (a := a) (o := .lst us) fun u e => by rw [hb] at e; cases e; rfl
        exact Pst.cellAt p hn ⟨us, upd_same, ry.mono k (ext_refl ν)⟩
  | fl _ => cases h
  | fd _ => cases h
  | bo i =>
    have r' : σ[i]? = some (some v) := r
    simp only [plc] at h
    cases he : st.env[i]? with
    | none => rw [he] at h; cases h
    | some sl =>
      rw [he] at h
      cases sl <;> first | (exfalso; cases h; done) | skip
      cases h
      obtain ⟨a, vs, e, hb, rv⟩ := p.env i _ _ he r'
      cases e
      refine ⟨a, vs, rfl, hb, rv, fun ys us ry => ?_⟩
      have k := keep_upd (H := H) (a := a) (o := .lst us) fun u e => by rw [hb] at e; cases e; rfl
      exact Pst.own p ⟨_, he, rfl, r'⟩ ⟨a, us, rfl, upd_same, ry.mono k (ext_refl ν)⟩
end
/-- a list's method that writes it -/
def dMut (u : List D → List D → Option (List D × D)) (fo : M Ev) (fs : M (List D)) : M Ev := fun st => match fo st with
  | none => none
  | some (eo, s1) => match plc s1 eo with
    | none => none
    | some _ => match fs s1 with
      | none => none
      | some (ds, s2) => match plc s2 eo with
        | none => none
        | some xs => match u xs ds with
          | none => none
          | some (ys, r) => some (.v r, putPl s2 eo ys)
def rMutL (K : PySem.W.Frag) (u : List D → List D → Option (List D × D)) : V → List V → Hp → VK → Prop := fun x vs H Q => ∃ ν l xs xsV ds ys r, x = .ref l ∧ H l = some (.lst xsV) ∧ RDs K ν H xs xsV ∧ RDs K ν H ds vs ∧ u xs ds = some (ys, r) ∧
  ∀ ysV v, RDs K ν H ys ysV → RD K ν H r v → Q v (upd H l (.lst ysV))
section
variable {X : Cx} {cl : Nat → Addr} {e o : Expr} {es : List Expr} {pos apos cpos : Pos} {f fo : M Ev} {fs : M (List D)} {id : String} {name : Str} {u : List D → List D → Option (List D × D)}
theorem mut_read {σ : L2.St} {H : Hp} {Q : VK} (w : tE X.K cl (dMut u fo fs) σ H Q) : tBM X.K "list" (rMutL X.K u) (tE X.K cl fo) (tAf X.K cl fs) σ H Q := by
  obtain ⟨ν, st, i, st', p, hf, k⟩ := w
  unfold dMut at hf
  cases h1 : fo st with
  | none => rw [h1] at hf; cases hf
  | some w1 =>
    obtain ⟨eo, s1⟩ := w1
    simp only [h1] at hf
    cases h2 : plc s1 eo with
    | none => rw [h2] at hf; cases hf
    | some xs0 =>
      simp only [h2] at hf
      cases h3 : fs s1 with
      | none => rw [h3] at hf; cases hf
      | some w3 =>
        obtain ⟨ds, s2⟩ := w3
        simp only [h3] at hf
        cases h4 : plc s2 eo with
        | none => rw [h4] at hf; cases hf
        | some xs =>
          simp only [h4] at hf
          cases h5 : u xs ds with
          | none => rw [h5] at hf; cases hf
          | some w5 =>
            obtain ⟨ys, r⟩ := w5
            simp only [h5] at hf
            cases hf
            refine ⟨ν, st, eo, s1, p, h1, fun x ν1 H1 t1 q1 => ⟨?_, ν1, s1, ds, s2, t1.pre, h3, fun vs ν2 H2 t2 q2 => ?_⟩⟩
            · obtain ⟨a, vs, rfl, hb, _, _⟩ := plc_ok t1.pre q1 h2
              exact .inl ⟨rfl, vs, .of hb⟩
            · obtain ⟨a, vs0, rfl, hb, rv, up⟩ := plc_ok t2.pre (q1.later t1.pre t2) h4
              refine ⟨ν2, a, xs, vs0, ds, ys, r, rfl, hb, rv, q2, h5, fun ysV v ry rr => ?_⟩
              have t3 := up ys ysV ry
              exact k v ν2 _ (t1.trans (t2.trans t3)) (rr.mono (t3.keep t2.pre) (ext_refl _))
theorem se_mut (slot : Slot "list" name id) (hty : typeOf (.builtin id) = pure (.type "method_descriptor")) (hm : MtR X id (rMutL X.K u)) (ho : PE X o (tE X.K cl fo)) (ha : PA X (e :: es) (tAf X.K cl fs))
    (hbase : attributeBase o name X.env (eval o X.env) = eval o X.env := by kernel_rfl)
    (hfew : ((backTo cpos (starEach (e :: es) X.env)).all (fun x => !x.1) && (backToKw cpos (keywordEach [] X.env)).all (fun x => x.1.isSome)
      && decide ((e :: es).length + ([] : List Keyword).length + (if ([] : List Keyword).isEmpty then 0 else 1) < 30)) = true := by kernel_rfl)
    (hline : (apos.endLine == cpos.line) = true := by kernel_rfl) (hs : starEach (e :: es) X.env = (false, eval e X.env) :: starEach es X.env := by kernel_rfl) (hplain : (backTo cpos (starEach es X.env)).any (·.1) = false := by kernel_rfl) :
    PE X (.Call (.Attribute o name apos) (e :: es) [] cpos) (tE X.K cl (dMut u fo fs)) :=
  PE_wk (pe_bm PySem.F.plainAttrs_list slot hty hm ho ha hbase hfew hline hs hplain) fun _ _ _ w => mut_read w
theorem se_mut0 (slot : Slot "list" name id) (hty : typeOf (.builtin id) = pure (.type "method_descriptor")) (hm : MtR X id (rMutL X.K u)) (ho : PE X o (tE X.K cl fo))
    (hbase : attributeBase o name X.env (eval o X.env) = eval o X.env := by kernel_rfl) (hline : (apos.endLine == cpos.line) = true := by kernel_rfl) :
    PE X (.Call (.Attribute o name apos) [] [] cpos) (tE X.K cl (dMut u fo dNilF)) :=
  PE_wk (pe_bm0 PySem.F.plainAttrs_list slot hty hm ho hbase hline) fun σ H Q w => by
    obtain ⟨ν, st, eo, s1, p, h1, kk⟩ := mut_read w
    refine ⟨ν, st, eo, s1, p, h1, fun v ν1 H1 t1 r => ?_⟩
    obtain ⟨ty, ν2, st2, ds, st3, p2, hf, k2⟩ := kk v ν1 H1 t1 r
    cases hf
    exact ⟨ty, k2 [] ν2 H1 (.refl p2) .nil⟩
def appendD (xs ds : List D) : Option (List D × D) := match ds with
  | [d] => if xs.length < 16777216 then some (xs ++ [d], .non) else none
  | _ => none
def extendD (xs ds : List D) : Option (List D × D) := match ds with
  | [.lst ys] => if xs.length + ys.length ≤ 16777216 then some (xs ++ ys, .non) else none
  | [.tup ys] => if xs.length + ys.length ≤ 16777216 then some (xs ++ ys, .non) else none
  | _ => none
def popD (xs ds : List D) : Option (List D × D) := match ds with
  | [] => match xs.getLast? with
    | some d => some (xs.dropLast, d)
    | none => none
  | [.int i] => if -(2 ^ 63) ≤ i ∧ i < 2 ^ 63 then (match seqIndex? i xs.length with
    | some k => match xs[k]? with
      | some d => some (xs.eraseIdx k, d)
      | none => none
    | none => none) else none
  | _ => none
theorem RDs.one {K : PySem.W.Frag} {ν : List Addr} {H : Hp} {d : D} {vs : List V} (h : RDs K ν H [d] vs) : ∃ v, vs = [v] ∧ RD K ν H d v := by
  cases h with
  | cons h t => cases t; exact ⟨_, rfl, h⟩
theorem mt_appendD : MtR X "list.append" (rMutL X.K appendD) := by
  intro pins s σ H x vs v us Q I rx rs h
  obtain ⟨ν, l, xs, xsV, ds, ys, r, rfl, hb, rv, q, hu, k⟩ := h
  unfold appendD at hu
  split at hu
  · split at hu
    · rename_i d hz
      cases hu
      obtain ⟨y, rfl, ry⟩ := q.one
      exact mt_append pins s σ H _ _ v us Q I rx rs ⟨l, xsV, y, rfl, rfl, hb, by rw [← rv.length, sizeLine_eq]; exact hz, k _ _ (rv.append (.cons ry .nil)) .non⟩
    · cases hu
  · cases hu
theorem list_extend_tupleG (l : Addr) (items : Array Value) (n : Nat) (b : Addr) (items2 : Array Value) (n2 : Nat) (dd : Option Addr) (sl : Array (Option Value)) (hs0 : ¬(!items.isEmpty && Builtin.List.listTooLong (items.size + items2.size)) = true) (hs1 : items.size ≤ sizeLine) (hs2 : items.size + items2.size ≤ sizeLine + 1) :
    Meets (Builtin.«list.extend» ⟨[.ref l, .ref b], []⟩) (fun _ R s => s.heap.get? l = some { cls := .type "list", dict := none, data := .seq items n, slots := #[] } ∧ s.heap.get? b = some { cls := .type "tuple", dict := dd, data := .seq items2 n2, slots := sl } ∧ R (.ok (.ret Value.none)) { s with heap := s.heap.update l (Obj.mapSeq fun x => x ++ items2), toks := s.toks }) :=
  .of_wp fun prog w A R s h => by
    obtain ⟨hp, g, d, tk, os⟩ := s; obtain ⟨hl, hb, h⟩ := h; have f1 := AutoSeq1.idx_int; have f2 := AutoSeq1.sub_tuple_tuple; have f3 := AutoSeq1.sub_list_list; have f4 := AutoSeq1.sub_tuple_list; have f5 := AutoSeq1.sub_list_tuple;
    have hz' : (items ++ items2).size ≤ sizeLine + 1 := by rw [Array.size_append]; exact hs2
    wp_walk using (wpAny_updateSeq hl rfl (hz := hs1) (_hz' := hz')), AutoSeq1.wpAny_loadPart' hl, AutoSeq1.wpAny_loadPart' hb; exact ⟨_, rfl, h⟩
theorem mt_extendD : MtR X "list.extend" (rMutL X.K extendD) := by
  intro pins s σ H x vs v us Q I rx rs h
  obtain ⟨ν, l, xs, xsV, ds, ys, r, rfl, hb, rv, q, hu, k⟩ := h
  cases rx
  obtain ⟨z, its, n, ri, hl, e⟩ := I.lstM hb
  have rl := rv.length
  unfold extendD at hu
  split at hu
  · split at hu
    · rename_i zs hz
      cases hu
      obtain ⟨y, rfl, ry⟩ := q.one
      obtain ⟨b, zv, rfl, sb, rb⟩ := (RDr.v ry).list
      obtain ⟨w, rfl, rw'⟩ := rs.one
      cases rw'
      obtain ⟨its2, n2, r2, hl2, e2, z2⟩ := DL.Inv.rdL I sb
      have rl2 := rb.length
      have hsz : its.toArray.size + its2.toArray.size ≤ sizeLine := by rw [List.size_toArray, List.size_toArray, sizeLine_eq]; omega
      have hlong : ¬ (!its.toArray.isEmpty && Builtin.List.listTooLong (its.toArray.size + its2.toArray.size)) = true := by
        rw [notLongL hsz, Bool.and_false]
        exact Bool.false_ne_true
      refine call_meets F.slot_list_extend ⟨_, e, rfl⟩ F.entry_list_extend (F.args_list_extend_2 _ _)
        (AutoSeq1.list_extend_list_list_0 l its.toArray n b its2.toArray n2 hlong (by rw [List.size_toArray]; omega) (by omega)) ⟨e, e2, ?_⟩
      refine ⟨.non, _, I.lset (its' := its ++ its2) hb e (by simp) (ri.append r2) ?_, rfl, k _ _ (rv.append rb) .non⟩
      rw [List.length_append, sizeLine_eq]
      omega
    · cases hu
  · split at hu
    · rename_i zs hz
      cases hu
      obtain ⟨y, rfl, ry⟩ := q.one
      obtain ⟨b, zv, rfl, sb, rb⟩ := (RDr.v ry).tuple
      obtain ⟨w, rfl, rw'⟩ := rs.one
      cases rw'
      obtain ⟨its2, r2, ⟨ob, e2, c2, n2, d2⟩, z2⟩ := I.tuple sb
      have hl2 := r2.length
      have rl2 := rb.length
      obtain ⟨oc, od, odat, osl⟩ := ob
      simp only at c2 d2
      subst c2 d2
      have hsz : its.toArray.size + its2.toArray.size ≤ sizeLine := by rw [List.size_toArray, List.size_toArray, sizeLine_eq]; omega
      have hlong : ¬ (!its.toArray.isEmpty && Builtin.List.listTooLong (its.toArray.size + its2.toArray.size)) = true := by
        rw [notLongL hsz, Bool.and_false]
        exact Bool.false_ne_true
      refine call_meets F.slot_list_extend ⟨_, e, rfl⟩ F.entry_list_extend (F.args_list_extend_2 _ _)
        (list_extend_tupleG l its.toArray n b its2.toArray n2 od osl hlong (by rw [List.size_toArray]; omega) (by omega)) ⟨e, e2, ?_⟩
      refine ⟨.non, _, I.lset (its' := its ++ its2) hb e (by simp) (ri.append r2) ?_, rfl, k _ _ (rv.append rb) .non⟩
      rw [List.length_append, sizeLine_eq]
      omega
    · cases hu
  · cases hu
theorem mt_popD : MtR X "list.pop" (rMutL X.K popD) := by
  intro pins s σ H x vs v us Q I rx rs h
  obtain ⟨ν, l, xs, xsV, ds, ys, r, rfl, hb, rv, q, hu, k⟩ := h
  unfold popD at hu
  split at hu
  · split at hu
    · rename_i d hd
      cases hu
      cases q
      rw [List.getLast?_eq_getElem?] at hd
      obtain ⟨y, hy, ry⟩ := rv.get hd
      exact mt_pop pins s σ H _ _ v us Q I rx rs ⟨l, xsV, y, rfl, rfl, hb, by rw [← rv.length]; exact hy, k _ _ rv.dropLast ry⟩
    · cases hu
  · split at hu
    · rename_i i hz
      split at hu
      · rename_i j hj
        split at hu
        · rename_i d hd
          cases hu
          obtain ⟨w, rfl, rw'⟩ := q.one
          cases rw'
          obtain ⟨y, hy, ry⟩ := rv.get hd
          exact mt_popAt pins s σ H _ _ v us Q I rx rs ⟨l, xsV, i, j, y, rfl, rfl, hb, hz.1, hz.2, by rw [← rv.length]; exact hj, hy, k _ _ (rv.eraseIdx j) ry⟩
        · cases hu
      · cases hu
    · cases hu
  · cases hu
end
/-- o[i] = v, a list's place -/
def dSetItem (fv fo fi : M Ev) : M Out := fun st => match dFrz fv st with
  | none => none
  | some (d, s1) => match fo s1 with
    | none => none
    | some (eo, s2) => match fi s2 with
      | some (.v (.int i), s3) => match plc s3 eo with
        | none => none
        | some xs => match ixN xs.length i with
          | none => none
          | some j => some (.nx, putPl s3 eo (xs.set j d))
      | _ => none
/-- o[a:c] = a new list -/
def dSetSlice (fv fo fa fc : M Ev) : M Out := fun st => match fv st with
  | some (.fl ys, s1) => match fo s1 with
    | none => none
    | some (eo, s2) => match fa s2 with
      | some (.v (.int a), s3) => match fc s3 with
        | some (.v (.int c), s4) => match plc s4 eo with
          | none => none
          | some xs => if 0 ≤ a ∧ a ≤ c ∧ c ≤ xs.length ∧ xs.length + ys.length ≤ 16777216 then some (.nx, putPl s4 eo (xs.take a.toNat ++ ys ++ xs.drop c.toNat)) else none
        | _ => none
      | _ => none
  | _ => none
section
variable {X : Cx} {cl : Nat → Addr} {e o i a c : Expr} {pos pos' p2 : Pos} {fv fo fi fa fc : M Ev}
theorem ss_setItem (hv : PE X e (tE X.K cl fv)) (ho : PE X o (tE X.K cl fo)) (hi : PE X i (tE X.K cl fi))
    (ha : ∀ v, assign (.Subscript o i pos') X.env v = (do
      let ov ← holding [v] (eval o X.env)
      let iv ← holding [v, ov] (eval i X.env)
      standAt pos'
      holding [v, ov, iv] (setItem ov iv v)
      release [v, ov, iv] []) := by intro _; kernel_rfl)
    (hs : swapsWithSole [.Subscript o i pos'] e pos.line X.env = pure false := by kernel_rfl) (hw : swappedStores [.Subscript o i pos'] e X.env = pure none := by kernel_rfl)
    (h1 : (assignEach [.Subscript o i pos'] X.env).map (·.2) = [assign (.Subscript o i pos') X.env] := by kernel_rfl) : PS X (.Assign [.Subscript o i pos'] e pos) (tS X.K cl (dSetItem fv fo fi)) :=
  PS_wk (ps_asg (pe_frz hv) (pg_sub ho hi set_list ha) hs hw h1) fun D σ H w => by
    obtain ⟨ν, st, x, st', p, hf, k⟩ := w
    unfold dSetItem at hf
    cases h1 : dFrz fv st with
    | none => rw [h1] at hf; cases hf
    | some w1 =>
      obtain ⟨d, s1⟩ := w1
      simp only [h1] at hf
      cases h2 : fo s1 with
      | none => rw [h2] at hf; cases hf
      | some w2 =>
        obtain ⟨eo, s2⟩ := w2
        simp only [h2] at hf
        split at hf
        · rename_i j s3 h3
          cases h4 : plc s3 eo with
          | none => rw [h4] at hf; cases hf
          | some xs =>
            simp only [h4] at hf
            cases h5 : ixN xs.length j with
            | none => rw [h5] at hf; cases hf
            | some m =>
              simp only [h5] at hf
              cases hf
              refine ⟨ν, st, d, s1, p, h1, fun v ν1 H1 t1 rd => ⟨ν1, s1, eo, s2, t1.pre, h2, fun ov ν2 H2 t2 ro => ⟨ν2, s2, _, s3, t2.pre, h3, fun iv ν3 H3 t3 ri => ?_⟩⟩⟩
              have ri' : RD X.K ν3 H3 (.int j) iv := ri
              cases ri'
              obtain ⟨l, vs, rfl, hb, rv, up⟩ := plc_ok t3.pre (ro.later t2.pre t3) h4
              have rd3 := (rd.mono (t2.keep t1.pre) t2.ext).mono (t3.keep t2.pre) t3.ext
              have t4 := up (xs.set m d) (vs.set m v) (rv.set rd3 m)
              exact ⟨l, vs, j, m, rfl, rfl, hb, by rw [← rv.length]; exact h5, k ν3 σ _ (t1.trans (t2.trans (t3.trans t4)))⟩
        · cases hf
theorem ss_setSlice (hv : PE X e (tE X.K cl fv)) (ho : PE X o (tE X.K cl fo)) (hA : PE X a (tE X.K cl fa)) (hC : PE X c (tE X.K cl fc))
    (ha : ∀ v, assign (.Subscript o (.Slice (some a) (some c) none p2) pos') X.env v = (do
      let ov ← holding [v] (eval o X.env)
      let iv ← holding [v, ov] (eval (.Slice (some a) (some c) none p2) X.env)
      standAt pos'
      holding [v, ov, iv] (setItem ov iv v)
      release [iv, v, ov] []) := by intro _; kernel_rfl)
    (hs : swapsWithSole [.Subscript o (.Slice (some a) (some c) none p2) pos'] e pos.line X.env = pure false := by kernel_rfl) (hw : swappedStores [.Subscript o (.Slice (some a) (some c) none p2) pos'] e X.env = pure none := by kernel_rfl)
    (h1 : (assignEach [.Subscript o (.Slice (some a) (some c) none p2) pos'] X.env).map (·.2) = [assign (.Subscript o (.Slice (some a) (some c) none p2) pos') X.env] := by kernel_rfl) :
    PS X (.Assign [.Subscript o (.Slice (some a) (some c) none p2) pos'] e pos) (tS X.K cl (dSetSlice fv fo fa fc)) := by
  refine ⟨fun pins s σ H D I w => ?_⟩
  obtain ⟨ν, st, x, st', p, hf, k⟩ := w
  unfold dSetSlice at hf
  split at hf
  · rename_i ys s1 h1'
    cases h2 : fo s1 with
    | none => rw [h2] at hf; cases hf
    | some w2 =>
      obtain ⟨eo, s2⟩ := w2
      simp only [h2] at hf
      split at hf
      · rename_i ia s3 h3
        split at hf
        · rename_i ic s4 h4
          cases h5 : plc s4 eo with
          | none => rw [h5] at hf; cases hf
          | some xs =>
            simp only [h5] at hf
            split at hf
            · rename_i hz
              cases hf
              refine wpAny_Assign_stores (thn (hv.run pins s σ H (fun v H1 => ∃ ν1, Pst X.K cl ν st σ H ν1 s1 σ H1 ∧ REv X.K ν1 s1.env σ H H1 (.fl ys) v) I ⟨ν, st, _, s1, p, h1', fun v ν1 H1 t r => ⟨ν1, t, r⟩⟩) fun uv sA ⟨v, H1, I1, rv, ν1, t1, r1⟩ => ?_) hs hw
              rw [h1]
              show wpAny _ _ (assign (.Subscript o (.Slice (some a) (some c) none p2) pos') X.env uv) _ _ _
              rw [ha]
              refine wpAny_bind (wpAny_holding (thn (ho.run pins sA σ H1 (fun v H2 => ∃ ν2, Pst X.K cl ν1 s1 σ H1 ν2 s2 σ H2 ∧ REv X.K ν2 s2.env σ H1 H2 eo v) I1 ⟨ν1, s1, _, s2, t1.pre, h2, fun v ν2 H2 t r => ⟨ν2, t, r⟩⟩) fun ov sB ⟨x, H2, I2, rx, ν2, t2, r2⟩ => ?_))
              refine wpAny_bind (wpAny_holding (wpAny_Slice ?_))
              refine thn ((po_some hA).run pins sB σ H2 (fun o H3 => o = some ia ∧ ∃ ν3, Pst X.K cl ν2 s2 σ H2 ν3 s3 σ H3) I2 ⟨ν2, s2, _, s3, t2.pre, h3, fun v ν3 H3 t r => ⟨ia, by cases (show RD X.K ν3 H3 (.int ia) v from r); rfl, rfl, ν3, t⟩⟩) fun vl sC ⟨oA, H3, I3, pA, eA, ν3, t3⟩ => ?_
              refine thn ((po_some hC).run pins sC σ H3 (fun o H4 => o = some ic ∧ ∃ ν4, Pst X.K cl ν3 s3 σ H3 ν4 s4 σ H4) I3 ⟨ν3, s3, _, s4, t3.pre, h4, fun v ν4 H4 t r => ⟨ic, by cases (show RD X.K ν4 H4 (.int ic) v from r); rfl, rfl, ν4, t⟩⟩) fun vu sD ⟨oC, H4, I4, pC, eC, ν4, t4⟩ => ?_
              subst eA eC
              rw [evalPart_none]
              refine wpAny_pure ?_
              have I5 : L2.Inv X pins σ H4 { sD with heap := sD.heap.push { cls := .type "slice", data := .fields #[vl, vu, .none] } } := I4.kept (t' := sD.toks) fun b ob q => Heap.get?_push_of_some _ q
              obtain ⟨l, vs, rfl, hb, rvs, up⟩ := plc_ok t4.pre (((r2.later t2.pre t3).later t3.pre t4)) h5
              obtain ⟨b, us, rfl, hbb, rus, nwb, nb⟩ := (((r1.later t1.pre t2).later t2.pre t3).later t3.pre t4)
              cases rx
              cases rv
              have hne : l ≠ b := fun z => by
                subst z
                rcases (up xs vs rvs) with ⟨_, _, _, _, _⟩
                exact nwb (by
                  cases eo with
                  | v d =>
                    cases d <;> first | (exfalso; simp [plc] at h5; done) | skip
                    have r' := ((r2.later t2.pre t3).later t3.pre t4)
                    have r'' : RD X.K ν4 H4 (.loc _) (.ref l) := r'
                    cases r'' with
                    | loc hn => exact .inr (List.mem_of_getElem? hn)
                  | fl _ => cases h5
                  | fd _ => cases h5
                  | bo i =>
                    have r' : σ[i]? = some (some (.ref l)) := ((r2.later t2.pre t3).later t3.pre t4)
                    simp only [plc] at h5
                    cases he : s4.env[i]? with
                    | none => rw [he] at h5; cases h5
                    | some sl =>
                      rw [he] at h5
                      cases sl <;> first | (exfalso; cases h5; done) | skip
                      exact .inl ⟨i, _, he, rfl, r'⟩)
              cases pA with
              | int _ ta =>
              cases pC with
              | int _ tc =>
              refine wpAny_bind (wpAny_standAt (wpAny_bind (wpAny_holding ?_)))
              have hl := rvs.length
              have hl2 := rus.length
              refine set_slice (a := ia) (c := ic) I5 hb hbb hne (Heap.IsSliceOf.new ..) ⟨_, rfl⟩ ⟨_, rfl⟩ hz.1 hz.2.1 (by rw [← hl]; exact hz.2.2.1) (by rw [← hl, ← hl2, sizeLine_eq]; exact hz.2.2.2) fun s6 I6 => ?_
              have t5 := up (xs.take ia.toNat ++ ys ++ xs.drop ic.toNat) (vs.take ia.toNat ++ us ++ vs.drop ic.toNat) (((rvs.take _).append rus).append (rvs.drop _))
              exact wpAny_release ⟨σ, _, I6, k ν4 σ _ (t1.trans (t2.trans (t3.trans (t4.trans t5))))⟩
            · cases hf
        · cases hf
      · cases hf
  · cases hf
end
end DL

namespace DL
open PySem PySem.Spec PyProof.Rows L2

/-! ### a, b = x, y -/
def setAll : List Nat → List Ev → S → Option S
  | [], [], st => some st
  | i :: is, .bo _ :: es, st => none
  | i :: is, e :: es, st => setAll is es { st with env := st.env.set i (slot e) }
  | _, _, _ => none
def dPar (is : List Nat) (fs : M (List Ev)) : M Out := fun st => match fs st with
  | none => none
  | some (es, s) => match setAll is es s with
    | none => none
    | some s' => some (.nx, s')
def setσ : List Nat → List V → List (Option V) → List (Option V)
  | i :: is, v :: vs, σ => setσ is vs (σ.set i (some v))
  | _, _, σ => σ
section
variable {K : PySem.W.Frag} {cl : Nat → Addr} {ν ν1 ν2 ν' : List Addr} {st st1 st2 st' : S} {σ σ1 σ2 σ' : List (Option V)} {H H0 H1 H2 H' : Hp}
theorem REv.afterSet (p : Pre K cl ν1 st1 σ1 H1) {i : Nat} {e e' : Ev} {v v' : V} (r : REv K ν1 st1.env σ1 H H1 e v) (r' : REv K ν1 st1.env σ1 H H1 e' v') (hb : ∀ j, e' ≠ .bo j) (d : ∀ a, frA e v = some a → frA e' v' ≠ some a) :
    REv K ν1 (st1.env.set i (slot e)) (σ1.set i (some v)) H H1 e' v' := by
  have nw : ∀ a, frA e' v' = some a → ¬ Wr ν1 st1.env σ1 a → ¬ Wr ν1 (st1.env.set i (slot e)) (σ1.set i (some v)) a := fun a ha w w' => by
    rcases w' with ⟨j, w'⟩ | w'
    · by_cases hi : i < σ1.length
      · rcases own_setσ p.len hi w' with ⟨rfl, h2, h3⟩ | ⟨_, h⟩
        · cases h3
          refine d a ?_ ha
          cases e <;> first | rfl | cases h2
        · exact w (.inl ⟨j, h⟩)
      · have e1 : st1.env.set i (slot e) = st1.env := List.set_eq_of_length_le (by rw [p.len]; omega)
        have e2 : σ1.set i (some v) = σ1 := List.set_eq_of_length_le (by omega)
        rw [e1, e2] at w'
        exact w (.inl ⟨j, w'⟩)
    · exact w (.inr w')
  cases e' with
  | v d => exact r'
  | bo j => exact absurd rfl (hb j)
  | fl xs => obtain ⟨a, vs, rfl, h, rr, w, n⟩ := r'; exact ⟨a, vs, rfl, h, rr, nw a rfl w, n⟩
  | fd xs => obtain ⟨a, vs, rfl, h, rr, w, n⟩ := r'; exact ⟨a, vs, rfl, h, rr, nw a rfl w, n⟩
theorem setAll_nobo : ∀ {is : List Nat} {es : List Ev} {s s' : S}, setAll is es s = some s' → ∀ e ∈ es, ∀ j, e ≠ .bo j
  | [], [], _, _, _, e, he => by simp at he
  | [], _ :: _, _, _, h, _, _ => by simp [setAll] at h
  | _ :: _, [], _, _, h, _, _ => by simp [setAll] at h
  | i :: is, e0 :: es, s, s', h, e, he => by
    intro j z
    cases e0 with
    | bo k => simp [setAll] at h
    | v d =>
      rcases List.mem_cons.mp he with rfl | he
      · cases z
      · exact setAll_nobo (is := is) h e he j z
    | fl d =>
      rcases List.mem_cons.mp he with rfl | he
      · cases z
      · exact setAll_nobo (is := is) h e he j z
    | fd d =>
      rcases List.mem_cons.mp he with rfl | he
      · cases z
      · exact setAll_nobo (is := is) h e he j z
theorem setAll_cons {i : Nat} {is : List Nat} {e : Ev} {es : List Ev} {s s' : S} (h : setAll (i :: is) (e :: es) s = some s') : setAll is es { s with env := s.env.set i (slot e) } = some s' := by
  cases e with
  | bo k => simp [setAll] at h
  | _ => exact h
theorem REvs.afterSet (p : Pre K cl ν1 st1 σ1 H1) {i : Nat} {e : Ev} {v : V} (r : REv K ν1 st1.env σ1 H H1 e v) : ∀ {es : List Ev} {vs : List V}, REvs K ν1 st1.env σ1 H H1 es vs → (∀ e ∈ es, ∀ j, e ≠ .bo j) → (∀ a, frA e v = some a → ∀ p ∈ es.zip vs, frA p.1 p.2 ≠ some a) →
    REvs K ν1 (st1.env.set i (slot e)) (σ1.set i (some v)) H H1 es vs
  | _, _, .nil, _, _ => .nil
  | _, _, .cons r' rs d', hb, d => .cons (REv.afterSet p r r' (hb _ List.mem_cons_self) fun a h => d a h _ (by rw [List.zip_cons_cons]; exact List.mem_cons_self))
      (REvs.afterSet p r rs (fun e he => hb e (List.mem_cons_of_mem _ he)) fun a h q hq => d a h q (by rw [List.zip_cons_cons]; exact List.mem_cons_of_mem _ hq)) d'
theorem Pst.setAll (is : List Nat) : ∀ (es : List Ev) (vs : List V) (st1 : S) (σ1 : List (Option V)), Pst K cl ν st σ H ν1 st1 σ1 H1 → REvs K ν1 st1.env σ1 H H1 es vs → DL.setAll is es st1 = some st' → Pst K cl ν st σ H ν1 st' (setσ is vs σ1) H1 := by
  induction is with
  | nil =>
    intro es vs st1 σ1 t r h
    cases r with
    | nil => cases h; exact t
    | cons _ _ _ => simp [DL.setAll] at h
  | cons i is ih =>
    intro es vs st1 σ1 t r h
    cases r with
    | nil => simp [DL.setAll] at h
    | cons r rs d =>
      have hb := setAll_nobo h
      have h' := setAll_cons h
      exact ih _ _ _ _ (t.set r) (REvs.afterSet t.pre r rs (fun e he => hb e (List.mem_cons_of_mem _ he)) d) h'
theorem REvs.later (p : Pre K cl ν st σ H) (t : Pst K cl ν st σ H ν' st' σ H') : ∀ {es : List Ev} {vs : List V}, REvs K ν st.env σ H0 H es vs → REvs K ν' st'.env σ H0 H' es vs
  | _, _, .nil => .nil
  | _, _, .cons r rs d => .cons (r.later p t) (REvs.later p t rs) d
end
section
variable {X : Cx} {cl : Nat → Addr} {a b c : Expr} {pos : Pos} {fs : M (List Ev)}
theorem par_read {σ : L2.St} {H : Hp} {D : Ends} {is : List Nat} (w : tS X.K cl (dPar is fs) D σ H) : tAu X.K cl fs σ H fun vs H1 => vs.length = is.length ∧ D.nx (setσ is vs σ) H1 := by
  obtain ⟨ν, st, x, st', p, hf, k⟩ := w
  unfold dPar at hf
  cases h1 : fs st with
  | none => rw [h1] at hf; cases hf
  | some w1 =>
    obtain ⟨es, s1⟩ := w1
    simp only [h1] at hf
    cases h2 : setAll is es s1 with
    | none => rw [h2] at hf; cases hf
    | some s2 =>
      simp only [h2] at hf
      cases hf
      refine ⟨ν, st, es, s1, p, h1, fun vs ν1 H1 t1 r => ⟨?_, k ν1 _ H1 (Pst.setAll is es vs _ σ t1 r h2)⟩⟩
      have : ∀ {is : List Nat} {es : List Ev} {s s' : S}, setAll is es s = some s' → es.length = is.length := by
        intro is
        induction is with
        | nil => intro es s s' h; cases es with
          | nil => rfl
          | cons _ _ => simp [setAll] at h
        | cons i is ih => intro es s s' h; cases es with
          | nil => simp [setAll] at h
          | cons e es => rw [List.length_cons, List.length_cons, ih (setAll_cons h)]
      rw [← r.length, this h2]
theorem ss_par {i j : Nat} {x y : Str} {px py pt : Pos} {kt k2 pt2} (hc : X.calm = true) (hN : X.N.Nodup) (hi : X.N[i]? = some x) (hj : X.N[j]? = some y) (hij : i ≠ j)
    (hx : X.env.scope.names.lookup x = some .local) (hy : X.env.scope.names.lookup y = some .local) (ha : PA X [a, b] (tAu X.K cl fs))
    (hw : swappedStores [.Tuple [.Name x px, .Name y py] kt pt] (.Tuple [a, b] k2 pt2) X.env = pure (some [x, y]))
    (hs : swapsWithSole [.Tuple [.Name x px, .Name y py] kt pt] (.Tuple [a, b] k2 pt2) pos.line X.env = pure false := by kernel_rfl) :
    PS X (.Assign [.Tuple [.Name x px, .Name y py] kt pt] (.Tuple [a, b] k2 pt2) pos) (tS X.K cl (dPar [i, j] fs)) :=
  PS_wk (ps_par hc hN hi hj hij hx hy ha hw hs) fun D σ H w => by
    obtain ⟨ν, st, es, s1, p, h1, kk⟩ := par_read w
    refine ⟨ν, st, es, s1, p, h1, fun vs ν1 H1 t1 r => ?_⟩
    obtain ⟨hl, q⟩ := kk vs ν1 H1 t1 r
    match vs, hl with
    | [v, w], _ => exact ⟨v, w, rfl, q⟩
theorem ss_par3 {i j l : Nat} {x y z : Str} {px py pz pt : Pos} {kt k2 pt2} (hc : X.calm = true) (hN : X.N.Nodup) (hi : X.N[i]? = some x) (hj : X.N[j]? = some y) (hl : X.N[l]? = some z) (hij : i ≠ j) (hil : i ≠ l) (hjl : j ≠ l)
    (hx : X.env.scope.names.lookup x = some .local) (hy : X.env.scope.names.lookup y = some .local) (hz : X.env.scope.names.lookup z = some .local) (ha : PA X [a, b, c] (tAu X.K cl fs))
    (hw : swappedStores [.Tuple [.Name x px, .Name y py, .Name z pz] kt pt] (.Tuple [a, b, c] k2 pt2) X.env = pure (some [x, y, z]))
    (hs : swapsWithSole [.Tuple [.Name x px, .Name y py, .Name z pz] kt pt] (.Tuple [a, b, c] k2 pt2) pos.line X.env = pure false := by kernel_rfl) :
    PS X (.Assign [.Tuple [.Name x px, .Name y py, .Name z pz] kt pt] (.Tuple [a, b, c] k2 pt2) pos) (tS X.K cl (dPar [i, j, l] fs)) :=
  PS_wk (ps_par3 hc hN hi hj hl hij hil hjl hx hy hz ha hw hs) fun D σ H w => by
    obtain ⟨ν, st, es, s1, p, h1, kk⟩ := par_read w
    refine ⟨ν, st, es, s1, p, h1, fun vs ν1 H1 t1 r => ?_⟩
    obtain ⟨hl, q⟩ := kk vs ν1 H1 t1 r
    match vs, hl with
    | [u, v, w], _ => exact ⟨u, v, w, rfl, q⟩
/-- targets that are names, whatever they are -/
def gSets : List Nat → TGs
  | [] => gNil
  | i :: is => gCons (gName i) (gSets is)
theorem gSets_ok : ∀ {is : List Nat} {vs : List V} {σ : L2.St} {H : Hp} {Q : L2.St → Hp → Prop}, vs.length = is.length → Q (setσ is vs σ) H → gSets is vs σ H Q
  | [], [], _, _, _, _, q => ⟨rfl, q⟩
  | [], _ :: _, _, _, _, h, _ => by simp at h
  | _ :: _, [], _, _, _, h, _ => by simp at h
  | i :: is, v :: vs, σ, H, Q, h, q => ⟨v, vs, rfl, gSets_ok (is := is) (by simpa using h) q⟩
theorem ss_parG {ts es : List Expr} {is : List Nat} {kt k2 : Nat} {pt pt2 : Pos} (hc : X.calm = true) (hg : PGs X ts (gSets is)) (ha : PA X es (tAu X.K cl fs))
    (hw : swappedStores [.Tuple ts kt pt] (.Tuple es k2 pt2) X.env = pure none) (hn : (assignEach ts X.env).length = is.length) (hst : (assignEach ts X.env).findIdx? (·.1) = none := by kernel_rfl)
    (hs : swapsWithSole [.Tuple ts kt pt] (.Tuple es k2 pt2) pos.line X.env = pure false := by kernel_rfl) (h1 : (assignEach [.Tuple ts kt pt] X.env).map (·.2) = [assign (.Tuple ts kt pt) X.env] := by kernel_rfl) (hle : is.length ≤ 100 := by decide +kernel) :
    PS X (.Assign [.Tuple ts kt pt] (.Tuple es k2 pt2) pos) (tS X.K cl (dPar is fs)) :=
  PS_wk (ps_asg (pe_tup ha) (pg_tup hc hg hn hst) hs hw h1) fun D σ H w => by
    obtain ⟨ν, st, es, s1, p, h1, kk⟩ := par_read w
    refine ⟨ν, st, es, s1, p, h1, fun vs ν1 H1 t1 r => ⟨?_, fun a na => ?_⟩⟩
    · rw [(kk vs ν1 H1 t1 r).1, sizeLine_eq]; omega
    · have t2 := t1.andSame (same_new (o := HO.tup vs) na)
      have k := Keep.of_same (same_new (o := HO.tup vs) na)
      have r2 : REvs X.K ν1 s1.env σ H (upd H1 a (.tup vs)) es vs := REvs.later t1.pre (Pst.same t1.pre (same_new (o := HO.tup vs) na)) r
      obtain ⟨hl, q⟩ := kk vs ν1 _ t2 r2
      exact ⟨a, vs, rfl, .of upd_same, hl, gSets_ok hl q⟩
end

/-! ### the draws' dict -/
def putD (kvs : List (Key × D)) (k : Key) (d : D) : List (Key × D) :=
  if (kvs.any fun kv => decide (kv.1 = k)) = true then kvs.map (fun kv => if kv.1 = k then (kv.1, d) else kv) else kvs ++ [(k, d)]
def valD (kvs : List (Key × D)) (k : Key) : Option D := (kvs.find? fun kv => decide (kv.1 = k)).map (·.2)
def keyD : D → Option Key
  | .int i => some (.inl i)
  | .str x => some (.inr x)
  | _ => none
section
variable {K : PySem.W.Frag} {cl : Nat → Addr} {ν : List Addr} {H : Hp}
theorem RDk.any (k : Key) : ∀ {kvs : List (Key × D)} {ws : List (Key × V)}, RDk K ν H kvs ws → (kvs.any fun kv => decide (kv.1 = k)) = (ws.any fun kv => decide (kv.1 = k))
  | _, _, .nil => rfl
  | _, _, .cons _ r => by rw [List.any_cons, List.any_cons, RDk.any k r]
theorem RDk.append : ∀ {kvs es : List (Key × D)} {ws us : List (Key × V)}, RDk K ν H kvs ws → RDk K ν H es us → RDk K ν H (kvs ++ es) (ws ++ us)
  | _, _, _, _, .nil, s => s
  | _, _, _, _, .cons h r, s => .cons h (RDk.append r s)
theorem RDk.repl {k : Key} {d : D} {v : V} (hd : RD K ν H d v) : ∀ {kvs : List (Key × D)} {ws : List (Key × V)}, RDk K ν H kvs ws → RDk K ν H (kvs.map fun kv => if kv.1 = k then (kv.1, d) else kv) (ws.map fun kv => if kv.1 = k then (kv.1, v) else kv)
  | _, _, .nil => .nil
  | _, _, .cons (k := k') h r => by
    rw [List.map_cons, List.map_cons]
    by_cases e : k' = k
    · simp only [e, if_true]; exact .cons hd (RDk.repl hd r)
    · simp only [e, if_false]; exact .cons h (RDk.repl hd r)
theorem RDk.put {k : Key} {d : D} {v : V} (hd : RD K ν H d v) {kvs : List (Key × D)} {ws : List (Key × V)} (r : RDk K ν H kvs ws) : RDk K ν H (putD kvs k d) (putK ws k v) := by
  unfold putD putK
  rw [← r.any k]
  split
  · exact r.repl hd
  · exact r.append (.cons hd .nil)
theorem RDk.val (k : Key) : ∀ {kvs : List (Key × D)} {ws : List (Key × V)} {d : D}, RDk K ν H kvs ws → valD kvs k = some d → ∃ v, valV ws k = some v ∧ RD K ν H d v
  | _, _, _, .nil, h => by simp [valD] at h
  | _, _, d, .cons (k := k') h r, e => by
    unfold valD at e
    by_cases z : k' = k
    · subst z
      simp at e
      subst e
      exact ⟨_, valV_pos rfl, h⟩
    · rw [List.find?_cons, decide_eq_false (by exact z)] at e
      obtain ⟨v, h1, h2⟩ := RDk.val k (d := d) r e
      exact ⟨v, by rw [valV_neg (by exact z)]; exact h1, h2⟩
theorem keyD_ok {d : D} {v : V} {k : Key} (r : RDr K ν H d v) (h : keyD d = some k) : v = kV k := by
  cases d <;> first | (exfalso; simp [keyD] at h; done) | skip
  · cases h; exact r.int
  · cases h; exact r.str
end
def dgetD (o i : D) : Option Ev := match o with
  | .dct kvs => match keyD i with
    | none => none
    | some k => (valD kvs k).map .v
  | _ => none
/-- {k: v, ..} with written keys -/
def dPairs : List (Key × M Ev) → M (List (Key × D))
  | [], st => some ([], st)
  | (k, f) :: r, st => match dFrz f st with
    | none => none
    | some (d, s) => match dPairs r s with
      | none => none
      | some (ps, s') => some ((k, d) :: ps, s')
def mergeD (kvs more : List (Key × D)) : List (Key × D) := more.foldl (fun acc kv => putD acc kv.1 kv.2) kvs
def dDict (ps : List (Key × M Ev)) : M Ev := fun st => match dPairs ps st with
  | none => none
  | some (kvs, s) => if kvs.length ≤ 15 then some (.fd (mergeD [] kvs), s) else none
/-- a new dict becomes a shared object -/
def dSetCell (i : Nat) (f : M Ev) : M Out := fun st => match f st with
  | some (.fd kvs, s) => some (.nx, ⟨s.env.set i (.sh (.loc s.cells.length)), s.cells ++ [.dct kvs]⟩)
  | _ => none
/-- d[k] op= e, d a shared dict -/
def dAugCell (g : D → D → Option Ev) (fo fi fv : M Ev) : M Out := fun st => match fo st with
  | some (.v (.loc n), s1) => match fi s1 with
    | none => none
    | some (ei, s2) => match view s2 ei with
      | none => none
      | some di => match keyD di with
        | none => none
        | some k => match s2.cells[n]? with
          | some (.dct kvs) => match valD kvs k with
            | none => none
            | some d => match fv s2 with
              | none => none
              | some (ev, s3) => match view s3 ev with
                | none => none
                | some d2 => match g d d2 with
                  | some (.v r) => match s3.cells[n]? with
                    | some (.dct kvs3) => if kvs3.length < 16777216 then some (.nx, { s3 with cells := s3.cells.set n (.dct (putD kvs3 k r)) }) else none
                    | _ => none
                  | _ => none
          | _ => none
  | _ => none
section
variable {X : Cx} {cl : Nat → Addr} {o i e : Expr} {pos : Pos} {fo fi f fv : M Ev}
theorem se_dget (hu : X.A.units + 1 < cLine) (ho : PE X o (tE X.K cl fo)) (hi : PE X i (tE X.K cl fi)) (hs : NoSl i) : PE X (.Subscript o i pos) (tE X.K cl (dOp2 dgetD fo fi)) :=
  PE_wk (pe_dget hu ho hi hs) fun σ H Q h => two (r := fun x y H Q => ∃ a v, x = .ref a ∧ DGet H a y (some v) ∧ Q v H) (fun x y H Q q => by
    obtain ⟨ν, d1, d2, e, q1, q2, hg, k⟩ := q
    unfold dgetD at hg
    cases d1 <;> first | (exfalso; cases hg; done) | skip
    rename_i kvs
    simp only at hg
    cases hk : keyD d2 with
    | none => rw [hk] at hg; cases hg
    | some kk =>
      rw [hk] at hg
      simp only [Option.map_eq_some_iff] at hg
      obtain ⟨d, hd, rfl⟩ := hg
      obtain ⟨a, ws, rfl, sa, ra⟩ := q1.dict
      obtain ⟨v, hv, rv⟩ := ra.val kk hd
      exact ⟨a, v, rfl, .inl ⟨ws, kk, sa, keyD_ok q2 hk, hv.symm⟩, k v H (.refl H) rv⟩) h
def cKey : Key → Const
  | .inl i => .int i
  | .inr x => .str x
def trsOf (K : PySem.W.Frag) (cl : Nat → Addr) : List (Key × M Ev) → List (TE × TE)
  | [] => []
  | (k, f) :: r => (tC (kV k), tD K cl (dFrz f)) :: trsOf K cl r
theorem pairs_read {K : PySem.W.Frag} {σ : L2.St} : ∀ {ps : List (Key × M Ev)} {ν : List Addr} {st st' : S} {H : Hp} {kvs : List (Key × D)} {Q : List (V × V) → Hp → Prop}, Pre K cl ν st σ H → dPairs ps st = some (kvs, st') →
    (∀ ν' H' ws, Pst K cl ν st σ H ν' st' σ H' → RDk K ν' H' kvs ws → Q (ws.map fun kv => (kV kv.1, kv.2)) H') → tPairs (trsOf K cl ps) σ H Q
  | [], ν, st, st', H, kvs, Q, p, h, k => by
    cases h
    exact k ν H [] (.refl p) .nil
  | (k0, f) :: r, ν, st, st', H, kvs, Q, p, h, k => by
    unfold dPairs at h
    cases h1 : dFrz f st with
    | none => rw [h1] at h; cases h
    | some w1 =>
      obtain ⟨d, s1⟩ := w1
      simp only [h1] at h
      cases h2 : dPairs r s1 with
      | none => rw [h2] at h; cases h
      | some w2 =>
        obtain ⟨ps', s2⟩ := w2
        simp only [h2] at h
        cases h
        refine ⟨ν, st, d, s1, p, h1, fun v ν1 H1 t1 rd => ?_⟩
        exact pairs_read (ps := r) t1.pre h2 fun ν2 H2 ws t2 rw' => k ν2 H2 ((k0, v) :: ws) (t1.trans t2) (.cons (rd.mono (t2.keep t1.pre) t2.ext) rw')
theorem RDk.merge {K : PySem.W.Frag} {ν : List Addr} {H : Hp} (more : List (Key × D)) : ∀ (ms : List (Key × V)) (kvs : List (Key × D)) (ws : List (Key × V)), RDk K ν H more ms → RDk K ν H kvs ws → RDk K ν H (mergeD kvs more) (mergeK ws ms) := by
  induction more with
  | nil => intro ms kvs ws q r; cases q; exact r
  | cons kv more ih =>
    intro ms kvs ws q r
    cases q with
    | @cons k d v _ vs h t => exact ih vs (putD kvs k d) (putK ws k v) t (r.put h)
theorem se_dict {keys : List (Option Expr)} {values : List Expr} {ps : List (Key × M Ev)} (h : PPs X pos keys values (trsOf X.K cl ps)) (hall : keys.all (·.isSome) = true) (hl : keys.length = values.length) (h0 : keys ≠ []) (h15 : keys.length ≤ 15) :
    PE X (.Dict keys values pos) (tE X.K cl (dDict ps)) := PE_wk (pe_disp h hall hl h0 h15) fun σ H Q w => by
  obtain ⟨ν, st, x, st', p, hf, k⟩ := w
  unfold dDict at hf
  cases h1 : dPairs ps st with
  | none => rw [h1] at hf; cases hf
  | some w1 =>
    obtain ⟨kvs, s1⟩ := w1
    simp only [h1] at hf
    split at hf
    · rename_i hz
      cases hf
      intro a na
      have sm := same_new (o := HO.dK []) na
      have p0 := Pst.same p sm
      have nw : ¬ Wr ν st.env σ a := fun w => by
        obtain ⟨o, q, _⟩ := p.wr_obj w
        rw [na] at q
        cases q
      refine pairs_read p0.pre h1 fun ν' H' ws t r => ?_
      have hb : H' a = some (.dK []) := t.frm a _ upd_same nw
      have nw' : ¬ Wr ν' _ σ a := fun w => by
        rcases t.fre a w with q | q
        · exact nw q
        · rw [upd_same] at q; cases q
      have nf : ∀ u, H' a = some u → fz u = false := fun u e => by rw [hb] at e; cases e; rfl
      refine ⟨hb, ws, rfl, by rw [← r.length]; exact hz, ?_⟩
      have kk := keep_upd (H := H') (a := a) (o := .dK (mergeK [] ws)) nf
      have t2 : Pst X.K cl ν st σ H ν' _ σ (upd H' a (.dK (mergeK [] ws))) := (p0.trans t).out nw' na nf
      exact k _ ν' _ t2 ⟨a, _, rfl, upd_same, (RDk.merge _ _ _ _ r .nil).mono kk (ext_refl _), nw', na⟩
    · cases hf
theorem ss_setCell {j : Nat} {x : Str} {pos' : Pos} (hN : X.N.Nodup) (hi : X.N[j]? = some x) (hx : Loc X.env.scope x) (he : PE X e (tE X.K cl f)) (hs : swapsWith e (some (.Name x pos')) pos.line X.env = pure false := by kernel_rfl) (hf : X.fn x = true ∨ X.env.scope.names.lookup x = some .local) :
    PS X (.Assign [.Name x pos'] e pos) (tS X.K cl (dSetCell j f)) := PS_wk (ps_set hN hi hx he hs hf) fun D σ H w => by
  obtain ⟨ν, st, o, st', p, hf, k⟩ := w
  unfold dSetCell at hf
  split at hf
  · rename_i kvs s1 h1
    cases hf
    refine ⟨ν, st, _, s1, p, h1, fun v ν1 H1 t1 r => ?_⟩
    obtain ⟨a, ws, rfl, hb, rw', nw, na⟩ := r
    have t2 := t1.cellNew (c := .dct kvs) nw na ⟨ws, hb, rw'⟩
    exact k _ _ H1 (t2.set (e := .v (.loc s1.cells.length)) (i := j) (v := .ref a) (RD.loc (by rw [← t1.pre.clen]; simp)))
  · cases hf
theorem ss_augCell {op : Operator} {g : D → D → Option Ev} {tpos : Pos} (hu : X.A.units + 1 < cLine) (ho : PE X o (tE X.K cl fo)) (hi : PE X i (tE X.K cl fi)) (hv : PE X e (tE X.K cl fv)) (hop : OpR X (inplaceOp op) (r2 X.K g))
    (ha : ∀ ov iv new, augStore i ov iv new = (do holding [new, ov, iv] (setItem ov iv new); release [new, ov, iv] []; pure .next) := by intros; kernel_rfl) : PS X (.AugAssign (.Subscript o i tpos) op e pos) (tS X.K cl (dAugCell g fo fi fv)) :=
  PS_wk (ps_daug hu ho hi hv (rd := r2 X.K g) (fun pins s σ H x y u v Q I rx ry q => hop pins s σ H x y u v Q I rx ry q) ha) fun D σ H w => by
    obtain ⟨ν, st, x, st', p, hf, k⟩ := w
    unfold dAugCell at hf
    split at hf
    · rename_i n s1 h1
      cases h2 : fi s1 with
      | none => rw [h2] at hf; cases hf
      | some w2 =>
        obtain ⟨ei, s2⟩ := w2
        simp only [h2] at hf
        cases h3 : view s2 ei with
        | none => rw [h3] at hf; cases hf
        | some di =>
          simp only [h3] at hf
          cases h4 : keyD di with
          | none => rw [h4] at hf; cases hf
          | some kk =>
            simp only [h4] at hf
            split at hf
            · rename_i kvs h5
              cases h6 : valD kvs kk with
              | none => rw [h6] at hf; cases hf
              | some d =>
                simp only [h6] at hf
                cases h7 : fv s2 with
                | none => rw [h7] at hf; cases hf
                | some w7 =>
                  obtain ⟨ev, s3⟩ := w7
                  simp only [h7] at hf
                  cases h8 : view s3 ev with
                  | none => rw [h8] at hf; cases hf
                  | some d2 =>
                    simp only [h8] at hf
                    split at hf
                    · rename_i r h9
                      split at hf
                      · rename_i kvs3 h10
                        split at hf
                        · rename_i hz
                          cases hf
                          refine ⟨ν, st, _, s1, p, h1, fun x ν1 H1 t1 rx => ⟨ν1, s1, ei, s2, t1.pre, h2, fun y ν2 H2 t2 ry => ?_⟩⟩
                          have rx' : RD X.K ν1 H1 (.loc n) x := rx
                          cases rx' with
                          | @loc a _ hn =>
                            have hn2 := ext_get t2.ext hn
                            obtain ⟨ws, hb, rk⟩ := t2.pre.cell n _ a h5 hn2
                            obtain ⟨v, hv', rv⟩ := rk.val kk h6
                            refine ⟨a, v, rfl, .inl ⟨ws, kk, .inl hb, keyD_ok (view_ok t2.pre ry h3) h4, hv'.symm⟩, ν2, s2, ev, s3, t2.pre, h7, fun y2 ν3 H3 t3 r3 => ?_⟩
                            refine ⟨ν3, d, d2, _, .v (rv.mono (t3.keep t2.pre) t3.ext), view_ok t3.pre r3 h8, h9, fun z H4 sm nz => ?_⟩
                            have t4 := Pst.same t3.pre sm
                            have hn4 := ext_get t3.ext hn2
                            obtain ⟨ws4, hb4, rk4⟩ := t4.pre.cell n _ a h10 hn4
                            have rz : RD X.K ν3 H4 r z := nz
                            refine ⟨_, .inl ⟨ws4, kk, hb4, keyD_ok (view_ok t2.pre ry h3) h4, by rw [← rk4.length, sizeLine_eq]; exact hz, rfl⟩, ?_⟩
                            have kp := keep_upd (H := H4) (a := a) (o := .dK (putK ws4 kk z)) fun u e => by rw [hb4] at e; cases e; rfl
                            have t5 := Pst.cellAt t4.pre (c := .dct (putD kvs3 kk r)) (o := .dK (putK ws4 kk z)) hn4 ⟨_, upd_same, (rk4.put rz).mono kp (ext_refl _)⟩
                            exact k ν3 σ _ (t1.trans (t2.trans (t3.trans (t4.trans t5))))
                        · cases hf
                      · cases hf
                    · cases hf
            · cases hf
    · cases hf
end

/-! ### the law -/
theorem law_sp {K : PySem.W.Frag} {cl : Nat → Addr} {m : Fn} {n : Nat} (h : ∀ ns : List Int, ns.length ≤ n → ∃ cs, m [.scr ns] [] = some (.bl true, cs)) (H : Hp) (a : Addr) (ns : List Int) (hl : ns.length ≤ n) (hO : Only H) (hS : SqL K H a (ns.map V.int)) :
    spD K cl 1 m [.ref a] H (fun v _ => v = .bl true) fun _ _ _ => False := by
  obtain ⟨cs, hc⟩ := h ns hl
  refine ⟨rfl, [], [], [.scr ns], .bl true, cs, ⟨rfl, fun i sl o h => by simp at h, rfl, fun n c a h => by simp at h, fun i j a ⟨_, h, _⟩ => by simp at h, fun i a ⟨_, h, _⟩ => by simp at h, .nil⟩, .cons (.scr ?_) .nil, hc, fun v ν' H' t r => ?_⟩
  · rcases hS with (z | z) | z
    · rcases hO a with q | ⟨o, xs, q⟩
      · rw [z] at q; cases q
      · rw [z] at q; cases q
    · exact .inl z
    · exact .inr z
  · cases r
    rfl
end DL

namespace DL
open PySem PySem.Spec PyProof.Rows L2
theorem hu65 {A : Around} {k : Nat} (hr : Room k A) : A.units + 65 < cLine := by have := hr.un; omega
def iaddD (a b : D) : Option Ev := match a, b with
  | .int i, .int j => some (.v (.int (i + j)))
  | _, _ => none
theorem op_iaddD {X : Cx} : OpR X (inplaceOp .Add) (r2 X.K iaddD) := by
  intro pins s σ H x y v u Q I rx ry h
  obtain ⟨ν, d1, d2, e, q1, q2, hg, k⟩ := h
  cases d1 <;> cases d2 <;> first | (exfalso; simp [iaddD] at hg; done) | skip
  cases hg
  rw [q1.int] at rx
  rw [q2.int] at ry
  exact iop_add pins s σ H _ _ v u Q I rx ry ⟨_, _, rfl, rfl, k _ H (.refl H) (RD.int _)⟩
theorem lenU0 {st : S} {es : List Ev} {s : S} (h : dNilU st = some (es, s)) : es.length = 0 := by cases h; rfl
theorem lenU {f : M Ev} {g : M (List Ev)} {n : Nat} (hg : ∀ {st : S} {es : List Ev} {s : S}, g st = some (es, s) → es.length = n) {st : S} {es : List Ev} {s : S} (h : dConsU f g st = some (es, s)) : es.length = n + 1 := by
  unfold dConsU at h
  cases h1 : f st with
  | none => rw [h1] at h; cases h
  | some w1 =>
    obtain ⟨e, s1⟩ := w1
    simp only [h1] at h
    cases h2 : g s1 with
    | none => rw [h2] at h; cases h
    | some w2 =>
      obtain ⟨es', s2⟩ := w2
      simp only [h2] at h
      cases h
      rw [List.length_cons, hg h2]
theorem lenU1 {f : M Ev} {st : S} {es : List Ev} {s : S} (h : dConsU f dNilU st = some (es, s)) : es.length = 1 := lenU (n := 0) lenU0 h
theorem lenU2 {f g : M Ev} {st : S} {es : List Ev} {s : S} (h : dConsU f (dConsU g dNilU) st = some (es, s)) : es.length = 2 := lenU (n := 1) lenU1 h
theorem lenU3 {f g k : M Ev} {st : S} {es : List Ev} {s : S} (h : dConsU f (dConsU g (dConsU k dNilU)) st = some (es, s)) : es.length = 3 := lenU (n := 2) lenU2 h
theorem se_glob {X : Cx} {cl : Nat → Addr} {x z : Str} {pos : Pos} (hm : ∃ t, X.mg x = some (.str z t)) (hg : X.env.kindOf x = some .globalImplicit := by kernel_rfl) (hd : (x == ("__debug__" : Str)) = false := by decide +kernel) : PE X (.Name x pos) (tE X.K cl (dC (.str z))) := by
  obtain ⟨t, hm⟩ := hm
  exact se_c (pe_glob hg hm (v := .str z) ⟨t, rfl⟩ hd) fun _ _ => .str z
end DL

namespace DL
open PySem PySem.Spec PyProof.Rows L2

/-! ### what a term leads to -/
/-- what is to hold behind: simp does not look into it before its turn -/
class Kt (τ : Type) where
  K :: k : τ
def W {α : Type} (f : M α) (st : S) [Q : Kt (α → S → Prop)] : Prop := ∃ x s, f st = some (x, s) ∧ Q.k x s
def WF (m : Fn) (ds : List D) (cs : List Cell) [Q : Kt (D → List Cell → Prop)] : Prop := ∃ d c, m ds cs = some (d, c) ∧ Q.k d c
def WO {α : Type} (o : Option α) [Q : Kt (α → Prop)] : Prop := ∃ x, o = some x ∧ Q.k x
variable {α : Type} {st : S} {cs : List Cell} {ds : List D}
theorem W.mono {f : M α} {Q R : α → S → Prop} (h : @W _ f st (Kt.K Q)) (k : ∀ x s, Q x s → R x s) : @W _ f st (Kt.K R) := by
  obtain ⟨x, s, e, q⟩ := h
  exact ⟨x, s, e, k x s q⟩
theorem WF.mono {m : Fn} {Q R : D → List Cell → Prop} (h : @WF m ds cs (Kt.K Q)) (k : ∀ x s, Q x s → R x s) : @WF m ds cs (Kt.K R) := by
  obtain ⟨x, s, e, q⟩ := h
  exact ⟨x, s, e, k x s q⟩
theorem WF.of_eq {m : Fn} {Q : D → List Cell → Prop} {d : D} {c : List Cell} (h : m ds cs = some (d, c)) (q : Q d c) : @WF m ds cs (Kt.K Q) := ⟨d, c, h, q⟩
theorem WF.eq {m : Fn} {d : D} {c : List Cell} (h : @WF m ds cs (Kt.K fun x y => x = d ∧ y = c)) : m ds cs = some (d, c) := by
  obtain ⟨x, y, e, rfl, rfl⟩ := h
  exact e
theorem WF_iff {m : Fn} {Q : D → List Cell → Prop} {d : D} {c : List Cell} (h : m ds cs = some (d, c)) : @WF m ds cs (Kt.K Q) ↔ Q d c := by
  constructor
  · rintro ⟨x, y, e, q⟩
    rw [h] at e
    cases e
    exact q
  · exact fun q => ⟨d, c, h, q⟩
@[simp] theorem ex2 {β γ : Type} {a : β} {b : γ} {Q : β → γ → Prop} : (∃ x s, (a = x ∧ b = s) ∧ Q x s) ↔ Q a b :=
  ⟨fun ⟨_, _, ⟨e1, e2⟩, q⟩ => (by subst e1 e2; exact q), fun q => ⟨_, _, ⟨rfl, rfl⟩, q⟩⟩
@[simp] theorem WO_some {x : α} {Q : α → Prop} : @WO _ (some x) (Kt.K Q) ↔ Q x := ⟨fun ⟨_, e, q⟩ => (by cases e; exact q), fun q => ⟨_, rfl, q⟩⟩
@[simp] theorem WO_none {Q : α → Prop} : @WO _ (none : Option α) (Kt.K Q) ↔ False := ⟨fun ⟨_, e, _⟩ => (by cases e), False.elim⟩
@[simp] theorem WO_map {β : Type} {o : Option β} {f : β → α} {Q : α → Prop} : @WO _ (o.map f) (Kt.K Q) ↔ @WO _ o (Kt.K fun x => Q (f x)) := by
  cases o <;> simp
@[simp] theorem WO_ite {c : Prop} [Decidable c] {a : Option α} {Q : α → Prop} : @WO _ (if c then a else none) (Kt.K Q) ↔ c ∧ @WO _ a (Kt.K Q) := by
  by_cases h : c <;> simp [h]
@[simp] theorem WO_bEv {o : Option Bool} {Q : Ev → Prop} : @WO _ (bEv o) (Kt.K Q) ↔ @WO _ o (Kt.K fun b => Q (.v (.bl b))) := by
  cases o <;> simp [bEv]
theorem WO_iff {o : Option α} {x : α} {Q : α → Prop} (h : o = some x) : @WO _ o (Kt.K Q) ↔ Q x := by rw [h]; exact WO_some
section
variable {f fa fb fo : M Ev} {g : D → D → Option Ev} {Q : Ev → S → Prop} {QO : Out → S → Prop} {QB : Bool → S → Prop} {QL : List D → S → Prop} {QE : List Ev → S → Prop} {QD : D → S → Prop} {QI : Option Int → S → Prop}
@[simp] theorem W_dC {d : D} : @W _ (dC d) st (Kt.K Q) ↔ Q (.v d) st := by simp [W, dC]
@[simp] theorem W_dPure {x : α} {R : α → S → Prop} : @W _ (dPure x) st (Kt.K R) ↔ R x st := by simp [W, dPure]
@[simp] theorem W_dVar {i : Nat} : @W _ (dVar i) st (Kt.K Q) ↔ @WO _ (st.env[i]?) (Kt.K fun sl => match sl with
    | .sh d => Q (.v d) st
    | .ol _ => Q (.bo i) st
    | .od _ => Q (.bo i) st
    | .no => False) := by
  unfold W dVar
  cases h : st.env[i]? with
  | none => simp
  | some sl => cases sl <;> simp
@[simp] theorem W_dOp2 : @W _ (dOp2 g fa fb) st (Kt.K Q) ↔ @W _ fa st (Kt.K fun ea s1 => @W _ fb s1 (Kt.K fun eb s2 => @WO _ (view s2 ea) (Kt.K fun d1 => @WO _ (view s2 eb) (Kt.K fun d2 => @WO _ (g d1 d2) (Kt.K fun e => Q e s2))))) := by
  unfold W dOp2
  cases h1 : fa st with
  | none => simp
  | some w =>
    obtain ⟨ea, s1⟩ := w
    cases h2 : fb s1 with
    | none => simp [h2]
    | some w =>
      obtain ⟨eb, s2⟩ := w
      cases h3 : view s2 ea with
      | none => simp [h2, h3]
      | some d1 =>
        cases h4 : view s2 eb with
        | none => simp [h2, h3, h4]
        | some d2 => cases h5 : g d1 d2 <;> simp [h2, h3, h4, h5]
@[simp] theorem W_dOp1 {g : D → Option Ev} : @W _ (dOp1 g fa) st (Kt.K Q) ↔ @W _ fa st (Kt.K fun ea s1 => @WO _ (view s1 ea) (Kt.K fun d1 => @WO _ (g d1) (Kt.K fun e => Q e s1))) := by
  unfold W dOp1
  cases h1 : fa st with
  | none => simp
  | some w =>
    obtain ⟨ea, s1⟩ := w
    cases h3 : view s1 ea with
    | none => simp [h3]
    | some d1 => cases h5 : g d1 <;> simp [h3, h5]
@[simp] theorem W_dOpL {g : List D → Option Ev} {fs : M (List Ev)} : @W _ (dOpL g fs) st (Kt.K Q) ↔ @W _ fs st (Kt.K fun ea s1 => @WO _ (views s1 ea) (Kt.K fun d1 => @WO _ (g d1) (Kt.K fun e => Q e s1))) := by
  unfold W dOpL
  cases h1 : fs st with
  | none => simp
  | some w =>
    obtain ⟨ea, s1⟩ := w
    cases h3 : views s1 ea with
    | none => simp [h3]
    | some d1 => cases h5 : g d1 <;> simp [h3, h5]
@[simp] theorem W_dFrz : @W _ (dFrz f) st (Kt.K QD) ↔ @W _ f st (Kt.K fun e s => @WO _ (freeze s e) (Kt.K fun p => QD p.1 p.2)) := by
  unfold W dFrz
  cases h1 : f st with
  | none => simp
  | some w =>
    obtain ⟨e, s⟩ := w
    cases h2 : freeze s e with
    | none => simp [h2]
    | some w => obtain ⟨d, s'⟩ := w; simp [h2]
@[simp] theorem W_unbo : @W _ (unbo f) st (Kt.K Q) ↔ @W _ f st (Kt.K fun e s => match e with
    | .bo i => @WO _ (freeze s (.bo i)) (Kt.K fun p => Q (.v p.1) p.2)
    | e => Q e s) := by
  unfold W unbo
  cases h1 : f st with
  | none => simp
  | some w =>
    obtain ⟨e, s⟩ := w
    cases e with
    | bo i =>
      cases h2 : freeze s (.bo i) with
      | none => simp [h2]
      | some w => obtain ⟨d, s'⟩ := w; simp [h2]
    | _ => simp
@[simp] theorem W_dNilU : @W _ dNilU st (Kt.K QE) ↔ QE [] st := ⟨fun ⟨_, _, e, q⟩ => (by cases e; exact q), fun q => ⟨_, _, rfl, q⟩⟩
@[simp] theorem W_dNilF : @W _ dNilF st (Kt.K QL) ↔ QL [] st := ⟨fun ⟨_, _, e, q⟩ => (by cases e; exact q), fun q => ⟨_, _, rfl, q⟩⟩
@[simp] theorem W_dConsU {g : M (List Ev)} : @W _ (dConsU f g) st (Kt.K QE) ↔ @W _ f st (Kt.K fun e s => @W _ g s (Kt.K fun es s2 => QE (e :: es) s2)) := by
  unfold W dConsU
  cases h1 : f st with
  | none => simp
  | some w =>
    obtain ⟨e, s⟩ := w
    cases h2 : g s with
    | none => simp [h2]
    | some w => obtain ⟨d, s'⟩ := w; simp [h2]
@[simp] theorem W_dConsF {g : M (List D)} : @W _ (dConsF f g) st (Kt.K QL) ↔ @W _ (dFrz f) st (Kt.K fun e s => @W _ g s (Kt.K fun es s2 => QL (e :: es) s2)) := by
  unfold W dConsF
  cases h1 : dFrz f st with
  | none => simp
  | some w =>
    obtain ⟨e, s⟩ := w
    cases h2 : g s with
    | none => simp [h2]
    | some w => obtain ⟨d, s'⟩ := w; simp [h2]
@[simp] theorem W_dTest : @W _ (dTest f) st (Kt.K QB) ↔ @W _ f st (Kt.K fun e s => match e with
    | .v (.bl b) => QB b s
    | _ => False) := by
  unfold W dTest
  cases h1 : f st with
  | none => simp
  | some w =>
    obtain ⟨e, s⟩ := w
    cases e with
    | v d => cases d <;> simp
    | _ => simp
@[simp] theorem W_dNotT {f : M Bool} : @W _ (dNotT f) st (Kt.K QB) ↔ @W _ f st (Kt.K fun b s => QB (!b) s) := by
  unfold W dNotT
  cases h1 : f st with
  | none => simp
  | some w => obtain ⟨e, s⟩ := w; cases e <;> simp
/-- a test's two ways -/
def Two (b : Bool) (p q : Prop) : Prop := (b = true → p) ∧ (b = false → q)
@[simp] theorem Two_true {p q : Prop} : Two true p q ↔ p := by simp [Two]
@[simp] theorem Two_false {p q : Prop} : Two false p q ↔ q := by simp [Two]
@[simp] theorem Two_not {b : Bool} {p q : Prop} : Two (!b) p q ↔ Two b q p := by cases b <;> simp [Two]
theorem Two_iff {b : Bool} {p q : Prop} : Two b p q ↔ (b = true → p) ∧ (b = false → q) := Iff.rfl
@[simp] theorem Two_dec {c : Prop} [Decidable c] {p q : Prop} : Two (decide c) p q ↔ (c → p) ∧ (¬ c → q) := by simp [Two]
@[simp] theorem W_dAndT {f g : M Bool} : @W _ (dAndT f g) st (Kt.K QB) ↔ @W _ f st (Kt.K fun b s => Two b (@W _ g s (Kt.K QB)) (QB false s)) := by
  unfold W dAndT Two
  cases h1 : f st with
  | none => simp
  | some w => obtain ⟨e, s⟩ := w; cases e <;> simp
@[simp] theorem W_dOrT {f g : M Bool} : @W _ (dOrT f g) st (Kt.K QB) ↔ @W _ f st (Kt.K fun b s => Two b (QB true s) (@W _ g s (Kt.K QB))) := by
  unfold W dOrT Two
  cases h1 : f st with
  | none => simp
  | some w => obtain ⟨e, s⟩ := w; cases e <;> simp
@[simp] theorem W_dVal {f : M Bool} : @W _ (dVal f) st (Kt.K Q) ↔ @W _ f st (Kt.K fun b s => Q (.v (.bl b)) s) := by
  unfold W dVal
  cases h1 : f st with
  | none => simp
  | some w => obtain ⟨e, s⟩ := w; simp
@[simp] theorem W_dIf {c : M Bool} {f g : M α} {R : α → S → Prop} : @W _ (dIf c f g) st (Kt.K R) ↔ @W _ c st (Kt.K fun b s => Two b (@W _ f s (Kt.K R)) (@W _ g s (Kt.K R))) := by
  unfold W dIf Two
  cases h1 : c st with
  | none => simp
  | some w => obtain ⟨e, s⟩ := w; cases e <;> simp
@[simp] theorem W_dAndV {f g : M Ev} : @W _ (dAndV f g) st (Kt.K Q) ↔ @W _ (dTest f) st (Kt.K fun b s => Two b (@W _ g s (Kt.K Q)) (Q (.v (.bl false)) s)) := by
  unfold W dAndV Two
  cases h1 : dTest f st with
  | none => simp
  | some w => obtain ⟨e, s⟩ := w; cases e <;> simp
@[simp] theorem W_dOrV {f g : M Ev} : @W _ (dOrV f g) st (Kt.K Q) ↔ @W _ (dTest f) st (Kt.K fun b s => Two b (Q (.v (.bl true)) s) (@W _ g s (Kt.K Q))) := by
  unfold W dOrV Two
  cases h1 : dTest f st with
  | none => simp
  | some w => obtain ⟨e, s⟩ := w; cases e <;> simp
@[simp] theorem W_dTup {g : M (List D)} : @W _ (dTup g) st (Kt.K Q) ↔ @W _ g st (Kt.K fun ds s => ds.length ≤ 16777216 ∧ Q (.v (.tup ds)) s) := by
  unfold W dTup
  cases h1 : g st with
  | none => simp
  | some w => obtain ⟨e, s⟩ := w; by_cases h : e.length ≤ 16777216 <;> simp [h]
@[simp] theorem W_dLst {g : M (List D)} : @W _ (dLst g) st (Kt.K Q) ↔ @W _ g st (Kt.K fun ds s => ds.length ≤ 16777216 ∧ Q (.fl ds) s) := by
  unfold W dLst
  cases h1 : g st with
  | none => simp
  | some w => obtain ⟨e, s⟩ := w; by_cases h : e.length ≤ 16777216 <;> simp [h]
/-- a statement's end -/
def OQ (o : Out) (s : S) (k : S → Prop) (Q : Out → S → Prop) : Prop := match o with
  | .nx => k s
  | o => Q o s
@[simp] theorem OQ_nx {s : S} {k : S → Prop} : OQ .nx s k QO ↔ k s := Iff.rfl
@[simp] theorem OQ_bk {s : S} {k : S → Prop} : OQ .bk s k QO ↔ QO .bk s := Iff.rfl
@[simp] theorem OQ_ct {s : S} {k : S → Prop} : OQ .ct s k QO ↔ QO .ct s := Iff.rfl
@[simp] theorem OQ_rt {d : D} {s : S} {k : S → Prop} : OQ (.rt d) s k QO ↔ QO (.rt d) s := Iff.rfl
@[simp] theorem W_dSeq {f g : M Out} : @W _ (dSeq f g) st (Kt.K QO) ↔ @W _ f st (Kt.K fun o s => OQ o s (fun s => @W _ g s (Kt.K QO)) QO) := by
  unfold W dSeq
  cases h1 : f st with
  | none => simp
  | some w => obtain ⟨o, s⟩ := w; cases o <;> simp [OQ]
@[simp] theorem W_dDrop : @W _ (dDrop f) st (Kt.K QO) ↔ @W _ f st (Kt.K fun _ s => QO .nx s) := by
  unfold W dDrop
  cases h1 : f st with
  | none => simp
  | some w => obtain ⟨o, s⟩ := w; simp
@[simp] theorem W_dRet : @W _ (dRet f) st (Kt.K QO) ↔ @W _ (dFrz f) st (Kt.K fun d s => QO (.rt d) s) := by
  unfold W dRet
  cases h1 : dFrz f st with
  | none => simp
  | some w => obtain ⟨o, s⟩ := w; simp
@[simp] theorem W_dSet {i : Nat} : @W _ (dSet i f) st (Kt.K QO) ↔ @W _ (unbo f) st (Kt.K fun e s => QO .nx { s with env := s.env.set i (slot e) }) := by
  unfold W dSet
  cases h1 : unbo f st with
  | none => simp
  | some w => obtain ⟨o, s⟩ := w; simp
@[simp] theorem W_dAug {g : D → D → Option Ev} {i : Nat} : @W _ (dAug g i f) st (Kt.K QO) ↔ @WO _ (st.env[i]?) (Kt.K fun sl => match sl with
    | .sh d => @W _ f st (Kt.K fun e s => @WO _ (view s e) (Kt.K fun d2 => @WO _ (g d d2) (Kt.K fun e2 => QO .nx { s with env := s.env.set i (slot e2) })))
    | _ => False) := by
  unfold W dAug
  cases h : st.env[i]? with
  | none => simp
  | some sl =>
    cases sl with
    | sh d =>
      cases h1 : f st with
      | none => simp
      | some w =>
        obtain ⟨e, s⟩ := w
        cases h2 : view s e with
        | none => simp [h2]
        | some d2 => cases h3 : g d d2 <;> simp [h2, h3]
    | _ => simp
@[simp] theorem W_dFor {src : M (List D)} {g : D → S → Option S} {body : M Out} : @W _ (dFor src g body) st (Kt.K QO) ↔ @W _ src st (Kt.K fun ds s => @W _ (forD g body ds) s (Kt.K QO)) := by
  unfold W dFor
  cases h1 : src st with
  | none => simp
  | some w => obtain ⟨o, s⟩ := w; simp
@[simp] theorem W_dCall {n : Nat} {m : Fn} {fs : M (List D)} : @W _ (dCall n m fs) st (Kt.K Q) ↔ @W _ fs st (Kt.K fun ds s => ds.length = n ∧ @WF m ds s.cells (Kt.K fun d cs => Q (.v d) { s with cells := cs })) := by
  unfold W dCall WF
  cases h1 : fs st with
  | none => simp
  | some w =>
    obtain ⟨ds, s⟩ := w
    by_cases h : ds.length = n
    · cases h2 : m ds s.cells with
      | none => simp [h, h2]
      | some w => obtain ⟨d, cs⟩ := w; simp [h, h2]
    · simp [h]
theorem WF_run {n : Nat} {code : M Out} {Q : D → List Cell → Prop} : @WF (runB n code) ds cs (Kt.K Q) ↔ @W _ code ⟨ds.map Sl.sh ++ List.replicate (n - ds.length) .no, cs⟩ (Kt.K fun o s => match o with
    | .rt d => Q d s.cells
    | .nx => Q .non s.cells
    | _ => False) := by
  unfold WF runB W
  cases h1 : code ⟨ds.map Sl.sh ++ List.replicate (n - ds.length) .no, cs⟩ with
  | none => simp
  | some w => obtain ⟨o, s⟩ := w; cases o <;> simp
@[simp] theorem W_dPart : @W _ (dPart f) st (Kt.K QI) ↔ @W _ f st (Kt.K fun e s => match e with
    | .v (.int i) => QI (some i) s
    | _ => False) := by
  unfold W dPart
  cases h1 : f st with
  | none => simp
  | some w =>
    obtain ⟨e, s⟩ := w
    cases e with
    | v d => cases d <;> simp
    | _ => simp
@[simp] theorem W_dSl {fl fh : M (Option Int)} : @W _ (dSl fa fl fh) st (Kt.K Q) ↔ @W _ fa st (Kt.K fun ea s1 => @W _ fl s1 (Kt.K fun l s2 => @W _ fh s2 (Kt.K fun h s3 => @WO _ (view s3 ea) (Kt.K fun d => @WO _ (slD d l h) (Kt.K fun e => Q e s3))))) := by
  unfold W dSl
  cases h1 : fa st with
  | none => simp
  | some w =>
    obtain ⟨ea, s1⟩ := w
    cases h2 : fl s1 with
    | none => simp [h2]
    | some w =>
      obtain ⟨l, s2⟩ := w
      cases h3 : fh s2 with
      | none => simp [h2, h3]
      | some w =>
        obtain ⟨h, s3⟩ := w
        cases h4 : view s3 ea with
        | none => simp [h2, h3, h4]
        | some d => cases h5 : slD d l h <;> simp [h2, h3, h4, h5]
@[simp] theorem W_dMeth {T : String} {g : D → List D → Option Ev} {fs : M (List Ev)} : @W _ (dMeth T g fo fs) st (Kt.K Q) ↔ @W _ fo st (Kt.K fun eo s1 => @WO _ (view s1 eo) (Kt.K fun d0 => isTy T d0 = true ∧ @W _ fs s1 (Kt.K fun es s2 => @WO _ (view s2 eo) (Kt.K fun d => @WO _ (views s2 es) (Kt.K fun ds => @WO _ (g d ds) (Kt.K fun e => Q e s2)))))) := by
  unfold W dMeth
  cases h1 : fo st with
  | none => simp
  | some w =>
    obtain ⟨eo, s1⟩ := w
    cases h2 : view s1 eo with
    | none => simp [h2]
    | some d0 =>
      by_cases h : isTy T d0 = true
      · cases h3 : fs s1 with
        | none => simp [h2, h3, h]
        | some w =>
          obtain ⟨es, s2⟩ := w
          cases h4 : view s2 eo with
          | none => simp [h2, h3, h4, h]
          | some d =>
            cases h5 : views s2 es with
            | none => simp [h2, h3, h4, h5, h]
            | some ds => cases h6 : g d ds <;> simp [h2, h3, h4, h5, h6, h]
      · simp [h2, h]
/-- what a loop walks over -/
def srcD : D → Option (List D)
  | .lst xs => some xs
  | .tup xs => some xs
  | .scr ns => some (ns.map .int)
  | .str x => some (x.cps.toList.map fun c => .str ⟨#[c]⟩)
  | _ => none
@[simp] theorem W_dSrc : @W _ (dSrc f) st (Kt.K QL) ↔ @W _ (dFrz f) st (Kt.K fun d s => @WO _ (srcD d) (Kt.K fun xs => QL xs s)) := by
  unfold W dSrc
  cases h1 : dFrz f st with
  | none => simp
  | some w => obtain ⟨d, s⟩ := w; cases d <;> simp [srcD]
@[simp] theorem W_dRng {fs : M (List Ev)} : @W _ (dRng fs) st (Kt.K QL) ↔ @W _ fs st (Kt.K fun es s => @WO _ (views s es) (Kt.K fun ds => @WO _ (rngD ds) (Kt.K fun xs => QL xs s))) := by
  unfold W dRng
  cases h1 : fs st with
  | none => simp
  | some w =>
    obtain ⟨es, s⟩ := w
    cases h2 : views s es with
    | none => simp [h2]
    | some ds => cases h3 : rngD ds <;> simp [h2, h3]
@[simp] theorem W_dMut {u : List D → List D → Option (List D × D)} {fs : M (List D)} : @W _ (dMut u fo fs) st (Kt.K Q) ↔ @W _ fo st (Kt.K fun eo s1 => @WO _ (plc s1 eo) (Kt.K fun _ => @W _ fs s1 (Kt.K fun ds s2 => @WO _ (plc s2 eo) (Kt.K fun xs => @WO _ (u xs ds) (Kt.K fun p => Q (.v p.2) (putPl s2 eo p.1)))))) := by
  unfold W dMut
  cases h1 : fo st with
  | none => simp
  | some w =>
    obtain ⟨eo, s1⟩ := w
    cases h2 : plc s1 eo with
    | none => simp [h2]
    | some x0 =>
      cases h3 : fs s1 with
      | none => simp [h2, h3]
      | some w =>
        obtain ⟨ds, s2⟩ := w
        cases h4 : plc s2 eo with
        | none => simp [h2, h3, h4]
        | some xs =>
          cases h5 : u xs ds with
          | none => simp [h2, h3, h4, h5]
          | some w => obtain ⟨ys, r⟩ := w; simp [h2, h3, h4, h5]
@[simp] theorem W_dSetItem {fv fi : M Ev} : @W _ (dSetItem fv fo fi) st (Kt.K QO) ↔ @W _ (dFrz fv) st (Kt.K fun d s1 => @W _ fo s1 (Kt.K fun eo s2 => @W _ fi s2 (Kt.K fun ei s3 => match ei with
    | .v (.int i) => @WO _ (plc s3 eo) (Kt.K fun xs => @WO _ (ixN xs.length i) (Kt.K fun j => QO .nx (putPl s3 eo (xs.set j d))))
    | _ => False))) := by
  unfold W dSetItem
  cases h1 : dFrz fv st with
  | none => simp
  | some w =>
    obtain ⟨d, s1⟩ := w
    cases h2 : fo s1 with
    | none => simp [h2]
    | some w =>
      obtain ⟨eo, s2⟩ := w
      cases h3 : fi s2 with
      | none => simp [h2, h3]
      | some w =>
        obtain ⟨ei, s3⟩ := w
        cases ei with
        | v di =>
          cases di with
          | int i =>
            cases h4 : plc s3 eo with
            | none => simp [h2, h3, h4]
            | some xs => cases h5 : ixN xs.length i <;> simp [h2, h3, h4, h5]
          | _ => simp [h2, h3]
        | _ => simp [h2, h3]
@[simp] theorem W_dPar {is : List Nat} {fs : M (List Ev)} : @W _ (dPar is fs) st (Kt.K QO) ↔ @W _ fs st (Kt.K fun es s => @WO _ (setAll is es s) (Kt.K fun s' => QO .nx s')) := by
  unfold W dPar
  cases h1 : fs st with
  | none => simp
  | some w =>
    obtain ⟨es, s⟩ := w
    cases h2 : setAll is es s <;> simp [h2]
end
/-- a comprehension's run -/
def WL (g : D → S → Option S) (cond : M Bool) (elt : M Ev) (vs : List Nat) (xs acc : List D) (st : S) [Q : Kt (List D → S → Prop)] : Prop := ∃ r s, lcD g cond elt vs xs acc st = some (r, s) ∧ Q.k r s
@[simp] theorem W_dLc {src : M (List D)} {g : D → S → Option S} {cond : M Bool} {elt : M Ev} {vs : List Nat} {Q : Ev → S → Prop} : @W _ (dLc src g cond elt vs) st (Kt.K Q) ↔ @W _ src st (Kt.K fun ds s1 => @WL g cond elt vs ds [] ⟨wipeE s1.env vs, s1.cells⟩ (Kt.K fun acc s2 => Q (.fl acc) ⟨restE s1.env s2.env vs, s2.cells⟩)) := by
  unfold W WL dLc
  cases h1 : src st with
  | none => simp
  | some w =>
    obtain ⟨ds, s1⟩ := w
    cases h2 : lcD g cond elt vs ds [] ⟨wipeE s1.env vs, s1.cells⟩ with
    | none => simp [h2]
    | some w => obtain ⟨ds, s1⟩ := w; simp [h2]
theorem WL.mono {g : D → S → Option S} {cond : M Bool} {elt : M Ev} {vs : List Nat} {xs acc : List D} {Q R : List D → S → Prop} (h : @WL g cond elt vs xs acc st (Kt.K Q)) (k : ∀ x s, Q x s → R x s) : @WL g cond elt vs xs acc st (Kt.K R) := by
  obtain ⟨x, s, e, q⟩ := h
  exact ⟨x, s, e, k x s q⟩
/-- one pass -/
def W1 (g : D → S → Option S) (cond : M Bool) (elt : M Ev) (x : D) (st : S) (Q : Option D → S → Prop) : Prop :=
  @WO _ (g x st) (Kt.K fun s1 => @W _ cond s1 (Kt.K fun b s2 => Two b (@W _ (dFrz elt) s2 (Kt.K fun y s3 => Q (some y) s3)) (Q none s2)))
def addO (acc : List D) : Option D → List D
  | none => acc
  | some y => acc ++ [y]
theorem WL_run {g : D → S → Option S} {cond : M Bool} {elt : M Ev} {vs : List Nat} (I : List D → List D → S → Prop) {all : List D} {Q : List D → S → Prop} (hall : all.length < 16777216)
    (step : ∀ pre x post acc s, all = pre ++ x :: post → acc.length ≤ pre.length → I pre acc s → W1 g cond elt x s fun y s' => I (pre ++ [x]) (addO acc y) ⟨wipeE s'.env vs, s'.cells⟩)
    (fin : ∀ acc s, I all acc s → acc.length ≤ all.length → Q acc s) : ∀ (xs pre acc : List D) (s : S), all = pre ++ xs → acc.length ≤ pre.length → I pre acc s → @WL g cond elt vs xs acc s (Kt.K Q)
  | [], pre, acc, s, e, ha, h => by
    rw [List.append_nil] at e
    subst e
    exact ⟨acc, s, by unfold lcD; rfl, fin acc s h ha⟩
  | x :: xs, pre, acc, s, e, ha, h => by
    obtain ⟨s1, e1, b, s2, e2, t1, t2⟩ := step pre x xs acc s e ha h
    cases b with
    | false =>
      have h2 := t2 rfl
      have r := WL_run I hall step fin xs (pre ++ [x]) acc _ (by rw [e]; simp) (by simp; omega) h2
      obtain ⟨r, s', e3, q⟩ := r
      exact ⟨r, s', by unfold lcD; simp only [e1, e2]; exact e3, q⟩
    | true =>
      obtain ⟨y, s3, e3, h2⟩ := t1 rfl
      have r := WL_run I hall step fin xs (pre ++ [x]) (acc ++ [y]) _ (by rw [e]; simp) (by simp; omega) h2
      obtain ⟨r, s', e4, q⟩ := r
      have hlt : acc.length < 16777216 := by
        have := congrArg List.length e
        simp at this
        omega
      exact ⟨r, s', by unfold lcD; simp only [e1, e2, e3, if_pos hlt]; exact e4, q⟩
/-- a comprehension that writes nothing -/
theorem WL_map {g : D → S → Option S} {cond : M Bool} {elt : M Ev} {vs : List Nat} {xs : List D} {Q : List D → S → Prop} (f : D → Option D) (hxs : xs.length < 16777216)
    (step : ∀ x, x ∈ xs → W1 g cond elt x st fun y s' => y = f x ∧ wipeE s'.env vs = st.env ∧ s'.cells = st.cells) (fin : Q (xs.filterMap f) st) : @WL g cond elt vs xs [] st (Kt.K Q) :=
  WL_run (fun pre acc s => s = st ∧ acc = pre.filterMap f) hxs (fun pre x post acc s e ha ⟨h1, h2⟩ => by
    subst h1 h2
    refine (fun r => ?_) (step x (by rw [e]; simp))
    obtain ⟨s1, e1, b, s2, e2, t1, t2⟩ := r
    refine ⟨s1, e1, b, s2, e2, fun hb => ?_, fun hb => ?_⟩
    · obtain ⟨y, s3, e3, q1, q2, q3⟩ := t1 hb
      refine ⟨y, s3, e3, ?_, ?_⟩
      · rw [q2, q3]
      · rw [List.filterMap_append]
        simp [addO, ← q1]
    · obtain ⟨q1, q2, q3⟩ := t2 hb
      refine ⟨?_, ?_⟩
      · rw [q2, q3]
      · rw [List.filterMap_append]
        simp [addO, ← q1]) (fun acc s ⟨h1, h2⟩ _ => by subst h1 h2; exact fin) xs [] [] st rfl (by simp) ⟨rfl, rfl⟩
@[simp] theorem W1_iff {g : D → S → Option S} {cond : M Bool} {elt : M Ev} {x : D} {Q : Option D → S → Prop} : W1 g cond elt x st Q ↔ @WO _ (g x st) (Kt.K fun s1 => @W _ cond s1 (Kt.K fun b s2 => Two b (@W _ (dFrz elt) s2 (Kt.K fun y s3 => Q (some y) s3)) (Q none s2))) := Iff.rfl
/-- a loop -/
theorem W_forD {g : D → S → Option S} {body : M Out} (I : List D → S → Prop) {all : List D} {Q : Out → S → Prop}
    (step : ∀ pre x post s, all = pre ++ x :: post → I pre s → @WO _ (g x s) (Kt.K fun s1 => @W _ body s1 (Kt.K fun o s2 => match o with
      | .nx => I (pre ++ [x]) s2
      | .ct => I (pre ++ [x]) s2
      | .bk => Q .nx s2
      | .rt d => Q (.rt d) s2)))
    (fin : ∀ s, I all s → Q .nx s) : ∀ (xs pre : List D) (s : S), all = pre ++ xs → I pre s → @W _ (forD g body xs) s (Kt.K Q)
  | [], pre, s, e, h => by
    rw [List.append_nil] at e
    subst e
    exact ⟨.nx, s, by unfold forD; rfl, fin s h⟩
  | x :: xs, pre, s, e, h => by
    obtain ⟨s1, e1, o, s2, e2, q⟩ := step pre x xs s e h
    cases o with
    | nx =>
      obtain ⟨o, s3, e3, q⟩ := W_forD I step fin xs (pre ++ [x]) s2 (by rw [e]; simp) q
      exact ⟨o, s3, by unfold forD; simp only [e1, e2]; exact e3, q⟩
    | ct =>
      obtain ⟨o, s3, e3, q⟩ := W_forD I step fin xs (pre ++ [x]) s2 (by rw [e]; simp) q
      exact ⟨o, s3, by unfold forD; simp only [e1, e2]; exact e3, q⟩
    | bk => exact ⟨.nx, s2, by unfold forD; simp only [e1, e2], q⟩
    | rt d => exact ⟨.rt d, s2, by unfold forD; simp only [e1, e2], q⟩
/-- a loop whose body runs through, from a written invariant -/
theorem W_forE {g : D → S → Option S} {body : M Out} {xs : List D} {Q : Out → S → Prop} (I : List D → S → Prop)
    (start : I [] st)
    (step : ∀ pre x post s, xs = pre ++ x :: post → I pre s → @WO _ (g x s) (Kt.K fun s1 => @W _ body s1 (Kt.K fun o s2 => match o with
      | .nx => I (pre ++ [x]) s2
      | .ct => I (pre ++ [x]) s2
      | .bk => Q .nx s2
      | .rt d => Q (.rt d) s2)))
    (fin : ∀ s, I xs s → Q .nx s) : @W _ (forD g body xs) st (Kt.K Q) := W_forD I step fin xs [] st rfl start
@[simp] theorem WO_gN {i : Nat} {d : D} {Q : S → Prop} : @WO _ (gN i d st) (Kt.K Q) ↔ Q { st with env := st.env.set i (.sh d) } := WO_some
end DL

namespace DL
open PySem PySem.Spec PyProof.Rows L2

/-! ### the value operations, each at its kinds -/
section
variable {st : S} {cs : List Cell} {α : Type}
@[simp] theorem view_v {d : D} : view st (.v d) = some (viewD st.cells d) := rfl
@[simp] theorem view_fl {d : List D} : view st (.fl d) = some (.lst d) := rfl
@[simp] theorem view_fd {d : List (Key × D)} : view st (.fd d) = some (.dct d) := rfl
@[simp] theorem view_bo {i : Nat} : view st (.bo i) = match st.env[i]? with
    | some (.sh d) => some d
    | some (.ol xs) => some (.lst xs)
    | some (.od kvs) => some (.dct kvs)
    | _ => none := rfl
@[simp] theorem viewD_non : viewD cs .non = .non := rfl
@[simp] theorem viewD_bl {b : Bool} : viewD cs (.bl b) = .bl b := rfl
@[simp] theorem viewD_int {b : Int} : viewD cs (.int b) = .int b := rfl
@[simp] theorem viewD_str {b : Str} : viewD cs (.str b) = .str b := rfl
@[simp] theorem viewD_tup {b : List D} : viewD cs (.tup b) = .tup b := rfl
@[simp] theorem viewD_lst {b : List D} : viewD cs (.lst b) = .lst b := rfl
@[simp] theorem viewD_dct {b : List (Key × D)} : viewD cs (.dct b) = .dct b := rfl
@[simp] theorem viewD_scr {b : List Int} : viewD cs (.scr b) = .scr b := rfl
@[simp] theorem freeze_v {d : D} : freeze st (.v d) = some (d, st) := rfl
@[simp] theorem freeze_fl {d : List D} : freeze st (.fl d) = some (.lst d, st) := rfl
@[simp] theorem freeze_fd {d : List (Key × D)} : freeze st (.fd d) = some (.dct d, st) := rfl
@[simp] theorem freeze_bo {i : Nat} : freeze st (.bo i) = match st.env[i]? with
    | some (.sh d) => some (d, st)
    | some (.ol xs) => some (.lst xs, { st with env := st.env.set i (.sh (.lst xs)) })
    | some (.od kvs) => some (.dct kvs, { st with env := st.env.set i (.sh (.dct kvs)) })
    | _ => none := rfl
@[simp] theorem slot_v {d : D} : slot (.v d) = .sh d := rfl
@[simp] theorem slot_fl {d : List D} : slot (.fl d) = .ol d := rfl
@[simp] theorem slot_fd {d : List (Key × D)} : slot (.fd d) = .od d := rfl
@[simp] theorem views_nil : views st [] = some [] := rfl
@[simp] theorem WO_views {e : Ev} {es : List Ev} {Q : List D → Prop} : @WO _ (views st (e :: es)) (Kt.K Q) ↔ @WO _ (view st e) (Kt.K fun d => @WO _ (views st es) (Kt.K fun ds => Q (d :: ds))) := by
  show @WO _ (match view st e with
    | none => none
    | some d => match views st es with
      | none => none
      | some ds => some (d :: ds)) (Kt.K Q) ↔ _
  cases h1 : view st e with
  | none => simp
  | some d => cases h2 : views st es <;> simp
@[simp] theorem add_int {i j : Int} : addD (.int i) (.int j) = some (.v (.int (i + j))) := rfl
@[simp] theorem add_str {x y : Str} : addD (.str x) (.str y) = if x.length + y.length ≤ 16777216 then some (.v (.str (x ++ y))) else none := rfl
@[simp] theorem add_tup {x y : List D} : addD (.tup x) (.tup y) = if x.length + y.length ≤ 16777216 then some (.v (.tup (x ++ y))) else none := rfl
@[simp] theorem add_lst {x y : List D} : addD (.lst x) (.lst y) = if x.length + y.length ≤ 16777216 then some (.fl (x ++ y)) else none := rfl
@[simp] theorem sub_int {i j : Int} : subD (.int i) (.int j) = some (.v (.int (i - j))) := rfl
@[simp] theorem mul_int {i j : Int} {Q : Ev → Prop} : @WO _ (mulD (.int i) (.int j)) (Kt.K Q) ↔ ((-(2 ^ 64) < i ∧ i < 2 ^ 64) ∨ (-(2 ^ 64) < j ∧ j < 2 ^ 64)) ∧ Q (.v (.int (i * j))) := WO_ite.trans (and_congr Iff.rfl WO_some)
@[simp] theorem fdiv_int {i j : Int} : fdivD (.int i) (.int j) = if 0 < j ∧ j < 1073741824 then some (.v (.int (i / j))) else none := rfl
@[simp] theorem mod_int {i j : Int} : modD (.int i) (.int j) = if 0 < j then some (.v (.int (i % j))) else none := rfl
@[simp] theorem pow_int {i j : Int} : powD (.int i) (.int j) = if 0 ≤ j ∧ j ≤ 1000000 ∧ i.natAbs < 2 ^ 64 then some (.v (.int (i ^ j.toNat))) else none := rfl
@[simp] theorem neg_int {i : Int} : negD (.int i) = some (.v (.int (-i))) := rfl
@[simp] theorem eqE_def {a b : D} : eqE a b = bEv (eqD a b) := rfl
@[simp] theorem neE_def {a b : D} : neE a b = bEv ((eqD a b).map not) := rfl
@[simp] theorem lt_int {i j : Int} : ltD (.int i) (.int j) = some (.v (.bl (decide (i < j)))) := rfl
@[simp] theorem le_int {i j : Int} : leD (.int i) (.int j) = some (.v (.bl (decide (i ≤ j)))) := rfl
@[simp] theorem gt_int {i j : Int} : gtD (.int i) (.int j) = some (.v (.bl (decide (j < i)))) := rfl
@[simp] theorem ge_int {i j : Int} : geD (.int i) (.int j) = some (.v (.bl (decide (j ≤ i)))) := rfl
@[simp] theorem isE_def {a b : D} : isE a b = bEv (isB a b) := rfl
@[simp] theorem isnE_def {a b : D} : isnE a b = bEv ((isB a b).map not) := rfl
@[simp] theorem isB_bl {a b : Bool} : isB (.bl a) (.bl b) = some (decide (a = b)) := rfl
@[simp] theorem isB_nn : isB .non .non = some true := rfl
@[simp] theorem isB_in {i : Int} : isB (.int i) .non = some false := rfl
@[simp] theorem isB_bn {i : Bool} : isB (.bl i) .non = some false := rfl
@[simp] theorem isB_sn {i : Str} : isB (.str i) .non = some false := rfl
@[simp] theorem isB_tn {i : List D} : isB (.tup i) .non = some false := rfl
@[simp] theorem isB_ln {i : List D} : isB (.lst i) .non = some false := rfl
@[simp] theorem inE_def {a b : D} : inE a b = bEv (inB a b) := rfl
@[simp] theorem ninE_def {a b : D} : ninE a b = bEv ((inB a b).map not) := rfl
@[simp] theorem idx_tup {xs : List D} {i : Int} : idxD (.tup xs) (.int i) = (atI xs i).map .v := rfl
@[simp] theorem idx_lst {xs : List D} {i : Int} : idxD (.lst xs) (.int i) = (atI xs i).map .v := rfl
@[simp] theorem idx_scr {xs : List Int} {i : Int} : idxD (.scr xs) (.int i) = (atI xs i).map fun n => .v (.int n) := rfl
@[simp] theorem idx_str {x : Str} {i : Int} : idxD (.str x) (.int i) = if x.length ≤ 16777216 then (atI x.cps.toList i).map fun c => .v (.str ⟨#[c]⟩) else none := rfl
theorem atI_nat {xs : List α} {k : Nat} : atI xs (k : Int) = xs[k]? := by
  unfold atI ixN
  by_cases h : k < xs.length
  · rw [if_pos (by omega), if_pos (by omega)]
    simp
  · rw [if_pos (by omega), if_neg (by omega)]
    simp
    omega
@[simp] theorem atI_2 {xs : List α} : atI xs 2 = xs[2]? := atI_nat (k := 2)
@[simp] theorem atI_3 {xs : List α} : atI xs 3 = xs[3]? := atI_nat (k := 3)
@[simp] theorem atI_4 {xs : List α} : atI xs 4 = xs[4]? := atI_nat (k := 4)
@[simp] theorem atI_5 {xs : List α} : atI xs 5 = xs[5]? := atI_nat (k := 5)
@[simp] theorem atI_6 {xs : List α} : atI xs 6 = xs[6]? := atI_nat (k := 6)
@[simp] theorem atI_7 {xs : List α} : atI xs 7 = xs[7]? := atI_nat (k := 7)
@[simp] theorem atI_0 {xs : List α} : atI xs 0 = xs[0]? := atI_nat (k := 0)
@[simp] theorem atI_1 {xs : List α} : atI xs 1 = xs[1]? := atI_nat (k := 1)
@[simp] theorem atI_m1 {xs : List α} : atI xs (-1) = xs.getLast? := by
  unfold atI ixN
  rw [if_neg (by omega)]
  cases xs with
  | nil => simp
  | cons x r =>
    rw [if_pos (by simp; omega), List.getLast?_eq_getElem?]
    have e : (-1 + ((x :: r).length : Int)).toNat = (x :: r).length - 1 := by omega
    rw [e]
    rfl
theorem atI_pos {xs : List α} {i : Int} (h : 0 ≤ i) : atI xs i = xs[i.toNat]? := by
  obtain ⟨k, rfl⟩ := Int.eq_ofNat_of_zero_le h
  exact atI_nat
@[simp] theorem len_tup {xs : List D} : lenD [.tup xs] = some (.v (.int xs.length)) := rfl
@[simp] theorem len_lst {xs : List D} : lenD [.lst xs] = some (.v (.int xs.length)) := rfl
@[simp] theorem len_scr {xs : List Int} : lenD [.scr xs] = some (.v (.int xs.length)) := rfl
@[simp] theorem len_str {x : Str} : lenD [.str x] = if x.length ≤ 16777216 then some (.v (.int x.length)) else none := rfl
@[simp] theorem abs_int {i : Int} : absD [.int i] = some (.v (.int (if i < 0 then -i else i))) := rfl
@[simp] theorem int_int {i : Int} : intD [.int i] = some (.v (.int i)) := rfl
@[simp] theorem int_str {x : Str} : intD [.str x] = if x.length ≤ 640 then (intText? x).map fun n => .v (.int n) else none := rfl
@[simp] theorem str_int {i : Int} : strD [.int i] = if i.natAbs.log2 < 1920 then some (.v (.str (toString i))) else none := rfl
@[simp] theorem ints_map {ns : List Int} : intsD (ns.map .int) = some ns := by
  induction ns with
  | nil => rfl
  | cons n r ih => simp [intsD, ih]
@[simp] theorem bls_map {ns : List Bool} : blsD (ns.map .bl) = some ns := by
  induction ns with
  | nil => rfl
  | cons n r ih => simp [blsD, ih]
@[simp] theorem strs_map {ns : List Str} : strsD (ns.map .str) = some ns := by
  induction ns with
  | nil => rfl
  | cons n r ih => simp [strsD, ih]
@[simp] theorem max_int {i j : Int} : maxD [.int i, .int j] = some (.v (.int (if j > i then j else i))) := rfl
@[simp] theorem min_int {i j : Int} : minD [.int i, .int j] = some (.v (.int (if j < i then j else i))) := rfl
@[simp] theorem sum_lst {xs : List D} : sumD [.lst xs] = (intsD xs).map fun ns => .v (.int ns.sum) := rfl
def allB (xs : List D) : Option Bool := (blsD xs).map fun ns => ns.all id
def anyB (xs : List D) : Option Bool := (blsD xs).map fun ns => ns.any id
@[simp] theorem all_lst {xs : List D} : allD [.lst xs] = (allB xs).map fun b => .v (.bl b) := by
  show (blsD xs).map _ = _
  unfold allB
  cases blsD xs <;> rfl
@[simp] theorem any_lst {xs : List D} : anyD [.lst xs] = (anyB xs).map fun b => .v (.bl b) := by
  show (blsD xs).map _ = _
  unfold anyB
  cases blsD xs <;> rfl
theorem allB_true : ∀ {l : List D}, (∀ x ∈ l, x = .bl true) → allB l = some true
  | [], _ => rfl
  | x :: l, h => by
    have e := allB_true fun y hy => h y (List.mem_cons_of_mem _ hy)
    have := h x List.mem_cons_self
    subst this
    unfold allB at e ⊢
    cases h1 : blsD l with
    | none => rw [h1] at e; cases e
    | some bs =>
      rw [h1] at e
      simp [blsD, h1] at e ⊢
      exact e
theorem allB_map {α : Type} {l : List α} {f : α → Bool} : allB (l.map fun x => .bl (f x)) = some (l.all f) := by
  induction l with
  | nil => rfl
  | cons x l ih =>
    unfold allB at ih ⊢
    cases h1 : blsD (l.map fun x => .bl (f x)) with
    | none => rw [h1] at ih; cases ih
    | some bs =>
      rw [h1] at ih
      simp [blsD, h1] at ih ⊢
      simp [ih]
theorem anyB_map {α : Type} {l : List α} {f : α → Bool} : anyB (l.map fun x => .bl (f x)) = some (l.any f) := by
  induction l with
  | nil => rfl
  | cons x l ih =>
    unfold anyB at ih ⊢
    cases h1 : blsD (l.map fun x => .bl (f x)) with
    | none => rw [h1] at ih; cases ih
    | some bs =>
      rw [h1] at ih
      simp [blsD, h1] at ih ⊢
      simp [ih]
@[simp] theorem tuple_lst {xs : List D} : tupleD [.lst xs] = some (.v (.tup xs)) := rfl
@[simp] theorem tuple_tup {xs : List D} : tupleD [.tup xs] = some (.v (.tup xs)) := rfl
@[simp] theorem list_lst {xs : List D} : listD [.lst xs] = some (.fl xs) := rfl
@[simp] theorem list_tup {xs : List D} : listD [.tup xs] = some (.fl xs) := rfl
@[simp] theorem isi_int {i : Int} : isiD "int" (.int i) = some (.v (.bl true)) := rfl
@[simp] theorem isi_int_bool {i : Int} : isiD "bool" (.int i) = some (.v (.bl false)) := rfl
@[simp] theorem isi_int_str {i : Int} : isiD "str" (.int i) = some (.v (.bl false)) := rfl
@[simp] theorem isi_int_tup {i : Int} : isiD "tuple" (.int i) = some (.v (.bl false)) := rfl
@[simp] theorem isi_int_lst {i : Int} : isiD "list" (.int i) = some (.v (.bl false)) := rfl
@[simp] theorem isi_str {i : Str} : isiD "str" (.str i) = some (.v (.bl true)) := rfl
@[simp] theorem isi_str_int {i : Str} : isiD "int" (.str i) = some (.v (.bl false)) := rfl
@[simp] theorem isi_str_tup {i : Str} : isiD "tuple" (.str i) = some (.v (.bl false)) := rfl
@[simp] theorem isi_tup {i : List D} : isiD "tuple" (.tup i) = some (.v (.bl true)) := rfl
@[simp] theorem isi_tup_str {i : List D} : isiD "str" (.tup i) = some (.v (.bl false)) := rfl
@[simp] theorem isi_tup_int {i : List D} : isiD "int" (.tup i) = some (.v (.bl false)) := rfl
@[simp] theorem isi_tup_lst {i : List D} : isiD "list" (.tup i) = some (.v (.bl false)) := rfl
@[simp] theorem isi_lst {i : List D} : isiD "list" (.lst i) = some (.v (.bl true)) := rfl
@[simp] theorem isi_lst_tup {i : List D} : isiD "tuple" (.lst i) = some (.v (.bl false)) := rfl
@[simp] theorem isi_non_int : isiD "int" .non = some (.v (.bl false)) := rfl
@[simp] theorem isi_non_str : isiD "str" .non = some (.v (.bl false)) := rfl
@[simp] theorem isi_non_tup : isiD "tuple" .non = some (.v (.bl false)) := rfl
@[simp] theorem sl_tup {xs : List D} {lo hi : Option Int} : slD (.tup xs) lo hi = some (.v (.tup (cutD xs lo hi))) := rfl
@[simp] theorem sl_lst {xs : List D} {lo hi : Option Int} : slD (.lst xs) lo hi = some (.fl (cutD xs lo hi)) := rfl
@[simp] theorem sl_str {x : Str} {lo hi : Option Int} : slD (.str x) lo hi = if x.length ≤ 16777216 then some (.v (.str (cutS x lo hi))) else none := rfl
@[simp] theorem isTy_str {x : Str} : isTy "str" (.str x) = true := rfl
@[simp] theorem isTy_lst {x : List D} : isTy "list" (.lst x) = true := rfl
@[simp] theorem join_lst {a : Str} {xs : List D} : joinD (.str a) [.lst xs] = match strsD xs with
    | none => none
    | some ys => if (ys.map (·.length)).sum + ys.length * a.length ≤ 16777216 then some (.v (.str (Txt.join a ys))) else none := rfl
@[simp] theorem split_str {a b : Str} : splitD (.str a) [.str b] = if b.length ≠ 0 ∧ a.length + 2 ≤ 16777216 then some (.fl ((Txt.split a b).map .str)) else none := rfl
@[simp] theorem src_lst {xs : List D} : srcD (.lst xs) = some xs := rfl
@[simp] theorem src_tup {xs : List D} : srcD (.tup xs) = some xs := rfl
@[simp] theorem src_scr {xs : List Int} : srcD (.scr xs) = some (xs.map .int) := rfl
@[simp] theorem src_str {x : Str} : srcD (.str x) = some (x.cps.toList.map fun c => .str ⟨#[c]⟩) := rfl
@[simp] theorem rng_1 {j : Int} {Q : List D → Prop} : @WO _ (rngD [.int j]) (Kt.K Q) ↔ (-(2 ^ 62) ≤ j ∧ j < 2 ^ 62) ∧ Q (rngI 0 1 j.toNat) := WO_ite.trans (and_congr Iff.rfl WO_some)
@[simp] theorem rng_2 {i j : Int} {Q : List D → Prop} : @WO _ (rngD [.int i, .int j]) (Kt.K Q) ↔ (-(2 ^ 62) ≤ i ∧ i < 2 ^ 62 ∧ -(2 ^ 62) ≤ j ∧ j < 2 ^ 62) ∧ Q (rngI i 1 (j - i).toNat) := WO_ite.trans (and_congr Iff.rfl WO_some)
@[simp] theorem rng_3 {i j c : Int} : rngD [.int i, .int j, .int c] = if c ≠ 0 ∧ c.natAbs < 1073741824 ∧ Builtin.Range.small i j c = true ∧ 0 ≤ Builtin.Range.rangeSize i j c then some (rngI i c (Builtin.Range.rangeSize i j c).toNat) else none := rfl
@[simp] theorem append_1 {xs : List D} {d : D} : appendD xs [d] = if xs.length < 16777216 then some (xs ++ [d], .non) else none := rfl
@[simp] theorem extend_lst {xs ys : List D} : extendD xs [.lst ys] = if xs.length + ys.length ≤ 16777216 then some (xs ++ ys, .non) else none := rfl
@[simp] theorem extend_tup {xs ys : List D} : extendD xs [.tup ys] = if xs.length + ys.length ≤ 16777216 then some (xs ++ ys, .non) else none := rfl
@[simp] theorem setAll_nil : setAll [] [] st = some st := rfl
@[simp] theorem setAll_v {i : Nat} {is : List Nat} {d : D} {es : List Ev} : setAll (i :: is) (.v d :: es) st = setAll is es { st with env := st.env.set i (.sh d) } := rfl
@[simp] theorem setAll_fl {i : Nat} {is : List Nat} {d : List D} {es : List Ev} : setAll (i :: is) (.fl d :: es) st = setAll is es { st with env := st.env.set i (.ol d) } := rfl
@[simp] theorem setAll_fd {i : Nat} {is : List Nat} {d : List (Key × D)} {es : List Ev} : setAll (i :: is) (.fd d :: es) st = setAll is es { st with env := st.env.set i (.od d) } := rfl
@[simp] theorem iadd_int {i j : Int} : iaddD (.int i) (.int j) = some (.v (.int (i + j))) := rfl
@[simp] theorem plc_bo {i : Nat} : plc st (.bo i) = match st.env[i]? with
    | some (.ol xs) => some xs
    | _ => none := rfl
@[simp] theorem plc_loc {i : Nat} : plc st (.v (.loc i)) = match st.cells[i]? with
    | some (.lst xs) => some xs
    | _ => none := rfl
@[simp] theorem putPl_bo {i : Nat} {ys : List D} : putPl st (.bo i) ys = { st with env := st.env.set i (.ol ys) } := rfl
@[simp] theorem putPl_loc {i : Nat} {ys : List D} : putPl st (.v (.loc i)) ys = { st with cells := st.cells.set i (.lst ys) } := rfl
@[simp] theorem wipe_nil {env : List Sl} : wipeE env [] = env := rfl
@[simp] theorem wipe_cons {env : List Sl} {v : Nat} {vs : List Nat} : wipeE env (v :: vs) = (wipeE env vs).set v .no := rfl
@[simp] theorem rest_nil {e0 e2 : List Sl} : restE e0 e2 [] = e2 := rfl
@[simp] theorem rest_cons {e0 e2 : List Sl} {v : Nat} {vs : List Nat} : restE e0 e2 (v :: vs) = (restE e0 e2 vs).set v (match e0[v]? with
    | some (.sh d) => .sh d
    | _ => .no) := rfl
end

/-! ### dicts and slices that are stored -/
def dctAt (st : S) (n : Nat) : Option (List (Key × D)) := match st.cells[n]? with
  | some (.dct kvs) => some kvs
  | _ => none
section
variable {st : S} {f fo fi fv fa fc : M Ev} {Q : Ev → S → Prop} {QO : Out → S → Prop}
@[simp] theorem W_dAugCell {g : D → D → Option Ev} : @W _ (dAugCell g fo fi fv) st (Kt.K QO) ↔ @W _ fo st (Kt.K fun eo s1 => match eo with
    | .v (.loc n) => @W _ fi s1 (Kt.K fun ei s2 => @WO _ (view s2 ei) (Kt.K fun di => @WO _ (keyD di) (Kt.K fun k => @WO _ (dctAt s2 n) (Kt.K fun kvs => @WO _ (valD kvs k) (Kt.K fun d => @W _ fv s2 (Kt.K fun ev s3 => @WO _ (view s3 ev) (Kt.K fun d2 => @WO _ (g d d2) (Kt.K fun e => match e with
      | .v r => @WO _ (dctAt s3 n) (Kt.K fun kvs3 => kvs3.length < 16777216 ∧ QO .nx { s3 with cells := s3.cells.set n (.dct (putD kvs3 k r)) })
      | _ => False))))))))
    | _ => False) := by
  unfold W dAugCell dctAt
  cases h1 : fo st with
  | none => simp
  | some w =>
    obtain ⟨eo, s1⟩ := w
    cases eo with
    | v d0 =>
      cases d0 with
      | loc n =>
        cases h2 : fi s1 with
        | none => simp [h2]
        | some w =>
          obtain ⟨ei, s2⟩ := w
          cases h3 : view s2 ei with
          | none => simp [h2, h3]
          | some di =>
            cases h4 : keyD di with
            | none => simp [h2, h3, h4]
            | some k =>
              cases h5 : s2.cells[n]? with
              | none => simp [h2, h3, h4, h5]
              | some c =>
                cases c with
                | dct kvs =>
                  cases h6 : valD kvs k with
                  | none => simp [h2, h3, h4, h5, h6]
                  | some d =>
                    cases h7 : fv s2 with
                    | none => simp [h2, h3, h4, h5, h6, h7]
                    | some w =>
                      obtain ⟨ev, s3⟩ := w
                      cases h8 : view s3 ev with
                      | none => simp [h2, h3, h4, h5, h6, h7, h8]
                      | some d2 =>
                        cases h9 : g d d2 with
                        | none => simp [h2, h3, h4, h5, h6, h7, h8, h9]
                        | some e =>
                          cases e with
                          | v r =>
                            cases h10 : s3.cells[n]? with
                            | none => simp [h2, h3, h4, h5, h6, h7, h8, h9, h10]
                            | some c =>
                              cases c with
                              | dct kvs3 => by_cases hl : kvs3.length < 16777216 <;> simp [h2, h3, h4, h5, h6, h7, h8, h9, h10, hl]
                              | _ => simp [h2, h3, h4, h5, h6, h7, h8, h9, h10]
                          | _ => simp [h2, h3, h4, h5, h6, h7, h8, h9]
                | _ => simp [h2, h3, h4, h5]
      | _ => simp
    | _ => simp
@[simp] theorem W_dSetCell {i : Nat} : @W _ (dSetCell i f) st (Kt.K QO) ↔ @W _ f st (Kt.K fun e s => match e with
    | .fd kvs => QO .nx ⟨s.env.set i (.sh (.loc s.cells.length)), s.cells ++ [.dct kvs]⟩
    | _ => False) := by
  unfold W dSetCell
  cases h1 : f st with
  | none => simp
  | some w => obtain ⟨e, s⟩ := w; cases e <;> simp
@[simp] theorem W_dPairs_nil {QP : List (Key × D) → S → Prop} : @W _ (dPairs []) st (Kt.K QP) ↔ QP [] st := ⟨fun ⟨_, _, e, q⟩ => (by cases e; exact q), fun q => ⟨_, _, rfl, q⟩⟩
@[simp] theorem W_dPairs_cons {k : Key} {r : List (Key × M Ev)} {QP : List (Key × D) → S → Prop} : @W _ (dPairs ((k, f) :: r)) st (Kt.K QP) ↔ @W _ (dFrz f) st (Kt.K fun d s => @W _ (dPairs r) s (Kt.K fun ps s' => QP ((k, d) :: ps) s')) := by
  unfold W
  rw [dPairs]
  cases h1 : dFrz f st with
  | none => simp
  | some w =>
    obtain ⟨d, s⟩ := w
    cases h2 : dPairs r s with
    | none => simp [h2]
    | some w => obtain ⟨d, s⟩ := w; simp [h2]
@[simp] theorem W_dDict {ps : List (Key × M Ev)} : @W _ (dDict ps) st (Kt.K Q) ↔ @W _ (dPairs ps) st (Kt.K fun kvs s => kvs.length ≤ 15 ∧ Q (.fd (mergeD [] kvs)) s) := by
  unfold W dDict
  cases h1 : dPairs ps st with
  | none => simp
  | some w => obtain ⟨kvs, s⟩ := w; by_cases h : kvs.length ≤ 15 <;> simp [h]
@[simp] theorem W_dSetSlice : @W _ (dSetSlice fv fo fa fc) st (Kt.K QO) ↔ @W _ fv st (Kt.K fun ev s1 => match ev with
    | .fl ys => @W _ fo s1 (Kt.K fun eo s2 => @W _ fa s2 (Kt.K fun ea s3 => match ea with
      | .v (.int a) => @W _ fc s3 (Kt.K fun ec s4 => match ec with
        | .v (.int c) => @WO _ (plc s4 eo) (Kt.K fun xs => (0 ≤ a ∧ a ≤ c ∧ c ≤ xs.length ∧ xs.length + ys.length ≤ 16777216) ∧ QO .nx (putPl s4 eo (xs.take a.toNat ++ ys ++ xs.drop c.toNat)))
        | _ => False)
      | _ => False))
    | _ => False) := by
  unfold W dSetSlice
  cases h1 : fv st with
  | none => simp
  | some w =>
    obtain ⟨ev, s1⟩ := w
    cases ev with
    | fl ys =>
      cases h2 : fo s1 with
      | none => simp [h2]
      | some w =>
        obtain ⟨eo, s2⟩ := w
        cases h3 : fa s2 with
        | none => simp [h2, h3]
        | some w =>
          obtain ⟨ea, s3⟩ := w
          cases ea with
          | v da =>
            cases da with
            | int a =>
              cases h4 : fc s3 with
              | none => simp [h2, h3, h4]
              | some w =>
                obtain ⟨ec, s4⟩ := w
                cases ec with
                | v dc =>
                  cases dc with
                  | int c =>
                    cases h5 : plc s4 eo with
                    | none => simp [h2, h3, h4, h5]
                    | some xs =>
                      by_cases hz : 0 ≤ a ∧ a ≤ c ∧ c ≤ (xs.length : Int) ∧ xs.length + ys.length ≤ 16777216 <;> simp [h2, h3, h4, h5, hz]
                  | _ => simp [h2, h3, h4]
                | _ => simp [h2, h3, h4]
            | _ => simp [h2, h3]
          | _ => simp [h2, h3]
    | _ => simp
end

/-- how a pass of a loop ends -/
def LQ (o : Out) (s : S) (I : S → Prop) (Q : Out → S → Prop) : Prop := match o with
  | .nx => I s
  | .ct => I s
  | .bk => Q .nx s
  | .rt d => Q (.rt d) s
section
variable {s : S} {I : S → Prop} {Q : Out → S → Prop}
@[simp] theorem LQ_nx : LQ .nx s I Q ↔ I s := Iff.rfl
@[simp] theorem LQ_ct : LQ .ct s I Q ↔ I s := Iff.rfl
@[simp] theorem LQ_bk : LQ .bk s I Q ↔ Q .nx s := Iff.rfl
@[simp] theorem LQ_rt {d : D} : LQ (.rt d) s I Q ↔ Q (.rt d) s := Iff.rfl
end
/-! ### loops over what a list of another kind gives -/
theorem W_forM {α : Type} {st : S} {g : D → S → Option S} {body : M Out} {F : α → D} {l : List α} {Q : Out → S → Prop} (I : List α → S → Prop)
    (start : I [] st)
    (step : ∀ p x q s, l = p ++ x :: q → I p s → @WO _ (g (F x) s) (Kt.K fun s1 => @W _ body s1 (Kt.K fun o s2 => LQ o s2 (I (p ++ [x])) Q)))
    (fin : ∀ s, I l s → Q .nx s) : @W _ (forD g body (l.map F)) st (Kt.K Q) := by
  have key : ∀ (q p : List α) (s : S), l = p ++ q → I p s → @W _ (forD g body (q.map F)) s (Kt.K Q) := by
    intro q
    induction q with
    | nil => intro p s e h; rw [List.append_nil] at e; subst e; exact ⟨.nx, s, by unfold forD; rfl, fin s h⟩
    | cons x q ih =>
      intro p s e h
      obtain ⟨s1, e1, o, s2, e2, r⟩ := step p x q s e h
      cases o with
      | nx =>
        obtain ⟨o, s3, e3, r⟩ := ih (p ++ [x]) s2 (by rw [e]; simp) r
        exact ⟨o, s3, by rw [List.map_cons]; unfold forD; simp only [e1, e2]; exact e3, r⟩
      | ct =>
        obtain ⟨o, s3, e3, r⟩ := ih (p ++ [x]) s2 (by rw [e]; simp) r
        exact ⟨o, s3, by rw [List.map_cons]; unfold forD; simp only [e1, e2]; exact e3, r⟩
      | bk => exact ⟨.nx, s2, by rw [List.map_cons]; unfold forD; simp only [e1, e2], r⟩
      | rt d => exact ⟨.rt d, s2, by rw [List.map_cons]; unfold forD; simp only [e1, e2], r⟩
  exact key l [] st rfl start
theorem WL_mapM {α : Type} {st : S} {g : D → S → Option S} {cond : M Bool} {elt : M Ev} {vs : List Nat} {F : α → D} {l : List α} {Q : List D → S → Prop} (f : α → Option D) (hl : l.length < 16777216)
    (step : ∀ x, x ∈ l → W1 g cond elt (F x) st fun y s' => y = f x ∧ wipeE s'.env vs = st.env ∧ s'.cells = st.cells) (fin : Q (l.filterMap f) st) : @WL g cond elt vs (l.map F) [] st (Kt.K Q) := by
  have key : ∀ (q p : List α) (acc : List D), l = p ++ q → acc.length ≤ p.length → ∃ r, lcD g cond elt vs (q.map F) acc st = some (r, st) ∧ r = acc ++ q.filterMap f := by
    intro q
    induction q with
    | nil => intro p acc _ _; exact ⟨acc, by unfold lcD; rfl, by simp⟩
    | cons x q ih =>
      intro p acc e ha
      obtain ⟨s1, e1, b, s2, e2, t1, t2⟩ := step x (by rw [e]; simp)
      have hlt : acc.length < 16777216 := by
        have := congrArg List.length e
        simp at this
        omega
      cases b with
      | false =>
        obtain ⟨q1, q2, q3⟩ := t2 rfl
        obtain ⟨r, e3, e4⟩ := ih (p ++ [x]) acc (by rw [e]; simp) (by simp; omega)
        refine ⟨r, ?_, by rw [e4, List.filterMap_cons, ← q1]⟩
        rw [List.map_cons]; unfold lcD; simp only [e1, e2]; rw [q2, q3]; exact e3
      | true =>
        obtain ⟨y, s3, e5, q1, q2, q3⟩ := t1 rfl
        obtain ⟨r, e3, e4⟩ := ih (p ++ [x]) (acc ++ [y]) (by rw [e]; simp) (by simp; omega)
        refine ⟨r, ?_, by rw [e4, List.filterMap_cons, ← q1]; simp⟩
        rw [List.map_cons]; unfold lcD; simp only [e1, e2, e5, if_pos hlt]; rw [q2, q3]; exact e3
  obtain ⟨r, e, q⟩ := key l [] [] rfl (by simp)
  simp at q
  subst q
  exact ⟨_, st, e, fin⟩
/-- the same with the steps' ends followed -/
theorem WL_runM {α : Type} {st : S} {g : D → S → Option S} {cond : M Bool} {elt : M Ev} {vs : List Nat} {F : α → D} {l : List α} {Q : List D → S → Prop} (I : List α → List D → S → Prop) (hl : l.length < 16777216)
    (start : I [] [] st)
    (step : ∀ p x q acc s, l = p ++ x :: q → I p acc s → W1 g cond elt (F x) s fun y s' => I (p ++ [x]) (addO acc y) ⟨wipeE s'.env vs, s'.cells⟩)
    (fin : ∀ acc s, I l acc s → acc.length ≤ l.length → Q acc s) : @WL g cond elt vs (l.map F) [] st (Kt.K Q) := by
  have key : ∀ (q p : List α) (acc : List D) (s : S), l = p ++ q → acc.length ≤ p.length → I p acc s → @WL g cond elt vs (q.map F) acc s (Kt.K Q) := by
    intro q
    induction q with
    | nil => intro p acc s e ha h; rw [List.append_nil] at e; subst e; exact ⟨acc, s, by unfold lcD; rfl, fin acc s h ha⟩
    | cons x q ih =>
      intro p acc s e ha h
      obtain ⟨s1, e1, b, s2, e2, t1, t2⟩ := step p x q acc s e h
      have hlt : acc.length < 16777216 := by
        have := congrArg List.length e
        simp at this
        omega
      cases b with
      | false =>
        obtain ⟨r, s', e3, h3⟩ := ih (p ++ [x]) acc _ (by rw [e]; simp) (by simp; omega) (t2 rfl)
        exact ⟨r, s', by rw [List.map_cons]; unfold lcD; simp only [e1, e2]; exact e3, h3⟩
      | true =>
        obtain ⟨y, s3, e5, h5⟩ := t1 rfl
        obtain ⟨r, s', e3, h3⟩ := ih (p ++ [x]) (acc ++ [y]) _ (by rw [e]; simp) (by simp; omega) h5
        exact ⟨r, s', by rw [List.map_cons]; unfold lcD; simp only [e1, e2, e5, if_pos hlt]; exact e3, h3⟩
  exact key l [] [] st rfl (by simp) start

/-! ### equality -/
def Lay (k : Nat) (d : D) : Prop := ∃ p, toPy d = some p ∧ p.canLay0 = true ∧ p.depth ≤ k
theorem Lay.non {k : Nat} : Lay k .non := ⟨.none, rfl, rfl, Nat.zero_le _⟩
theorem Lay.bl {k : Nat} {b : Bool} : Lay k (.bl b) := ⟨.bool b, rfl, rfl, Nat.zero_le _⟩
theorem Lay.int {k : Nat} {i : Int} : Lay k (.int i) := ⟨.int i, rfl, rfl, Nat.zero_le _⟩
theorem Lay.str {k : Nat} {x : Str} (h : ∀ c ∈ x.cps.toList, c < 0x110000) : Lay k (.str x) := ⟨.str x, rfl, by
  unfold PyData.canLay0 PyData.strOk
  rw [← Array.all_toList, List.all_eq_true]
  exact fun c hc => decide_eq_true (h c hc), Nat.zero_le _⟩
theorem lays {k : Nat} : ∀ {xs : List D}, (∀ x ∈ xs, Lay k x) → ∃ ps, toPys xs = some ps ∧ PyData.canLayAll0 ps = true ∧ PyData.depthAll ps ≤ k ∧ ps.length = xs.length
  | [], _ => ⟨[], rfl, rfl, Nat.zero_le _, rfl⟩
  | x :: xs, h => by
    obtain ⟨p, e, c, d⟩ := h x List.mem_cons_self
    obtain ⟨ps, es, cc, dd, l⟩ := lays fun y hy => h y (List.mem_cons_of_mem _ hy)
    refine ⟨p :: ps, ?_, ?_, ?_, ?_⟩
    · unfold toPys; rw [e, es]
    · unfold PyData.canLayAll0; rw [c, cc]; rfl
    · unfold PyData.depthAll; omega
    · simp [l]
theorem Lay.tup {k : Nat} {xs : List D} (h : ∀ x ∈ xs, Lay k x) : Lay (k + 1) (.tup xs) := by
  obtain ⟨ps, e, c, d, _⟩ := lays h
  exact ⟨.tuple ps, by unfold toPy; rw [e], by unfold PyData.canLay0; exact c, by unfold PyData.depth; omega⟩
theorem Lay.lst {k : Nat} {xs : List D} (h : ∀ x ∈ xs, Lay k x) : Lay (k + 1) (.lst xs) := by
  obtain ⟨ps, e, c, d, _⟩ := lays h
  exact ⟨.list ps, by unfold toPy; rw [e], by unfold PyData.canLay0; exact c, by unfold PyData.depth; omega⟩
theorem Lay.up {k j : Nat} {d : D} (h : Lay k d) (hj : k ≤ j) : Lay j d := by
  obtain ⟨p, e, c, d⟩ := h
  exact ⟨p, e, c, by omega⟩
theorem Lay.shaped {k : Nat} {d : D} (h : Lay k d) (hk : k ≤ 64) : ∃ p, toPy d = some p ∧ SeqAt.shaped p = true ∧ p.canLay0 = true := by
  obtain ⟨p, e, c, d⟩ := h
  exact ⟨p, e, by unfold SeqAt.shaped; rw [c]; simp; omega, c⟩
theorem eqD_self {k : Nat} {d : D} (h : Lay k d) (hk : k ≤ 64) : eqD d d = some true := by
  obtain ⟨p, e, s, c⟩ := h.shaped hk
  unfold eqD
  rw [e]
  simp [s, SeqAt.eqv_refl p c]
theorem eqD_of {k j : Nat} {a b : D} (ha : Lay k a) (hb : Lay j b) (hk : k ≤ 64) (hj : j ≤ 64) {r : Bool} (h : ∀ p q, toPy a = some p → toPy b = some q → PyData.eqv p q = r) : eqD a b = some r := by
  obtain ⟨p, e, s, c⟩ := ha.shaped hk
  obtain ⟨q, e', s', c'⟩ := hb.shaped hj
  unfold eqD
  rw [e, e']
  simp [s, s', h p q e e']
theorem eqD_str {x y : Str} (hx : ∀ c ∈ x.cps.toList, c < 0x110000) (hy : ∀ c ∈ y.cps.toList, c < 0x110000) : eqD (.str x) (.str y) = some (decide (x = y)) :=
  eqD_of (Lay.str (k := 0) hx) (Lay.str (k := 0) hy) (by omega) (by omega) fun p q e e' => by
    cases e
    cases e'
    simp only [PyData.eqv]
    by_cases h : x = y <;> simp [h]
@[simp] theorem eqD_int {i j : Int} : eqD (.int i) (.int j) = some (decide (i = j)) :=
  eqD_of (Lay.int (k := 0)) (Lay.int (k := 0)) (by omega) (by omega) fun p q e e' => by
    cases e
    cases e'
    simp only [PyData.eqv]
    by_cases h : i = j <;> simp [h]
theorem toPys_len : ∀ {xs : List D} {ps : List PyData}, toPys xs = some ps → ps.length = xs.length
  | [], ps, h => by cases h; rfl
  | x :: xs, ps, h => by
    unfold toPys at h
    cases h1 : toPy x with
    | none => rw [h1] at h; cases h
    | some p =>
      rw [h1] at h
      cases h2 : toPys xs with
      | none => rw [h2] at h; cases h
      | some qs => rw [h2] at h; cases h; simp [toPys_len h2]
theorem eqD_lst_nil {k : Nat} {xs : List D} (h : ∀ x ∈ xs, Lay k x) (hk : k < 64) : eqD (.lst xs) (.lst []) = some xs.isEmpty :=
  eqD_of (Lay.lst h) (Lay.lst (k := 0) (by simp)) (by omega) (by omega) fun p q e e' => by
    unfold toPy at e
    cases h1 : toPys xs with
    | none => rw [h1] at e; cases e
    | some ps =>
      rw [h1] at e
      cases e
      cases e'
      have := toPys_len h1
      cases xs <;> cases ps <;> simp [PyData.eqv, PyData.eqvAll] at this ⊢
theorem eqD_tup_nil {k : Nat} {xs : List D} (h : ∀ x ∈ xs, Lay k x) (hk : k < 64) : eqD (.tup xs) (.tup []) = some xs.isEmpty :=
  eqD_of (Lay.tup h) (Lay.tup (k := 0) (by simp)) (by omega) (by omega) fun p q e e' => by
    unfold toPy at e
    cases h1 : toPys xs with
    | none => rw [h1] at e; cases e
    | some ps =>
      rw [h1] at e
      cases e
      cases e'
      have := toPys_len h1
      cases xs <;> cases ps <;> simp [PyData.eqv, PyData.eqvAll] at this ⊢
theorem inB_str {c : Nat} {y : Str} : inB (.str ⟨#[c]⟩) (.str y) = some (decide (c ∈ y.cps.toList)) := rfl
/-- None stands in no list of other things -/
theorem inB_non {k : Nat} {xs : List D} (h : ∀ x ∈ xs, Lay k x ∧ x ≠ .non) (hk : k < 64) : inB .non (.lst xs) = some false := by
  obtain ⟨ps, e, c, d, _⟩ := lays (fun x hx => (h x hx).1)
  have hs : SeqAt.shaped (.list ps) = true := by
    unfold SeqAt.shaped PyData.canLay0 PyData.depth
    rw [c]
    simp
    omega
  have hn : (ps.any fun z => PyData.eqv z .none) = false := by
    clear hs c d
    induction xs generalizing ps with
    | nil => cases e; rfl
    | cons x xs ih =>
      unfold toPys at e
      cases h1 : toPy x with
      | none => rw [h1] at e; cases e
      | some p =>
        rw [h1] at e
        cases h2 : toPys xs with
        | none => rw [h2] at e; cases e
        | some qs =>
          rw [h2] at e
          cases e
          rw [List.any_cons, ih (fun y hy => h y (List.mem_cons_of_mem _ hy)) qs h2 (toPys_len h2)]
          have hx := (h x List.mem_cons_self).2
          cases x with
          | non => exact absurd rfl hx
          | tup ys => cases h3 : toPys ys <;> simp [toPy, h3] at h1; subst h1; rfl
          | lst ys => cases h3 : toPys ys <;> simp [toPy, h3] at h1; subst h1; rfl
          | bl _ => cases h1; rfl
          | int _ => cases h1; rfl
          | str _ => cases h1; rfl
          | _ => cases h1
  unfold inB
  simp only [toPy, e, hs, hn]
  rfl
end DL

namespace K78
open PySem PySem.Spec PyProof.Rows L2 DL
def topS (i : Nat) : Stmt := PySem.Challenge.pw_servedasmade_k78_whole_deltas_one_behind.main.body.getD i (.Pass ⟨0, 0, 0, 0⟩)
abbrev s_is_number : Stmt := topS 5
abbrev s_is_number_text : Stmt := topS 6
abbrev s_is_numbers : Stmt := topS 9
abbrev s_hex_text : Stmt := topS 10
abbrev s_read_hex : Stmt := topS 11
abbrev s_is_piece : Stmt := topS 13
abbrev s_is_delta : Stmt := topS 14
abbrev s_made_by : Stmt := topS 15
abbrev s_applied_delta : Stmt := topS 16
abbrev s_delta_cost : Stmt := topS 17
abbrev s_length_of : Stmt := topS 18
abbrev s_part_of : Stmt := topS 19
abbrev s_parts_between : Stmt := topS 20
abbrev s_with_step : Stmt := topS 21
abbrev s_composed : Stmt := topS 22
abbrev s_step_row : Stmt := topS 23
abbrev s_delta_text : Stmt := topS 24
abbrev s_read_step : Stmt := topS 25
abbrev s_read_delta : Stmt := topS 26
abbrev s__law_draws : Stmt := topS 28
abbrev s__law_next : Stmt := topS 29
abbrev s__law_delta : Stmt := topS 30
abbrev s__law_from : Stmt := topS 31
abbrev s__law_steps : Stmt := topS 32
abbrev s__law_all : Stmt := topS 33
abbrev s_law : Stmt := topS 34

def code_is_number : M Out :=
    (dRet (dAndV (dOp1 (isiD "int") (dVar 0)) (dAndV (dVal (dNotT (dTest (dOp1 (isiD "bool") (dVar 0))))) (dOp2 geD (dVar 0) (dC (.int 0))))))
def m_is_number : Fn := runB 1 code_is_number
def code_is_number_text : M Out :=
    (dSeq (dIf (dOrT (dTest (dOp2 eqE (dVar 0) (dC (.str (Str.ofString ""))))) (dOrT (dTest (dOp2 gtD (dOpL lenD (dConsU (dVar 0) dNilU)) (dC (.int 4000)))) (dNotT (dTest (dOpL allD (dConsU (dLc (dSrc (dVar 0)) (gN 1) (dPure true) (dOp2 inE (dVar 1) (dC (.str (Str.ofString "0123456789")))) [1]) dNilU)))))) (dRet (dC (.bl false))) (dPure .nx))
    (dRet (dOrV (dOp2 eqE (dVar 0) (dC (.str (Str.ofString "0")))) (dOp2 neE (dOp2 idxD (dVar 0) (dC (.int 0))) (dC (.str (Str.ofString "0")))))))
def m_is_number_text : Fn := runB 2 code_is_number_text
def code_is_numbers : M Out :=
    (dRet (dAndV (dOp1 (isiD "tuple") (dVar 0)) (dOpL allD (dConsU (dLc (dSrc (dVar 0)) (gN 1) (dPure true) (dAndV (dCall 1 m_is_number (dConsF (dVar 1) dNilF)) (dOp2 ltD (dVar 1) (dC (.int 256)))) [1]) dNilU))))
def m_is_numbers : Fn := runB 2 code_is_numbers
def code_hex_text : M Out :=
    (dRet (dMeth "str" joinD (dC (.str (Str.ofString ""))) (dConsU (dLc (dSrc (dVar 0)) (gN 1) (dPure true) (dOp2 addD (dOp2 idxD (dC (.str (Str.ofString "0123456789abcdef"))) (dOp2 fdivD (dVar 1) (dC (.int 16)))) (dOp2 idxD (dC (.str (Str.ofString "0123456789abcdef"))) (dOp2 modD (dVar 1) (dC (.int 16))))) [1]) dNilU)))
def m_hex_text : Fn := runB 2 code_hex_text
def code_read_hex : M Out :=
    (dSeq (dIf (dOrT (dTest (dOp2 neE (dOp2 modD (dOpL lenD (dConsU (dVar 0) dNilU)) (dC (.int 2))) (dC (.int 0)))) (dNotT (dTest (dOpL allD (dConsU (dLc (dSrc (dVar 0)) (gN 1) (dPure true) (dOp2 inE (dVar 1) (dC (.str (Str.ofString "0123456789abcdef")))) [1]) dNilU))))) (dRet (dC .non)) (dPure .nx))
    (dRet (dOpL tupleD (dConsU (dLc (dRng (dConsU (dC (.int 0)) (dConsU (dOpL lenD (dConsU (dVar 0) dNilU)) (dConsU (dC (.int 2)) dNilU)))) (gN 2) (dPure true) (dOp2 addD (dOp2 mulD (dC (.int 16)) (dMeth "str" sindexD (dC (.str (Str.ofString "0123456789abcdef"))) (dConsU (dOp2 idxD (dVar 0) (dVar 2)) dNilU))) (dMeth "str" sindexD (dC (.str (Str.ofString "0123456789abcdef"))) (dConsU (dOp2 idxD (dVar 0) (dOp2 addD (dVar 2) (dC (.int 1)))) dNilU))) [2]) dNilU))))
def m_read_hex : Fn := runB 3 code_read_hex
def code_is_piece : M Out :=
    (dSeq (dIf (dOrT (dNotT (dTest (dOp1 (isiD "tuple") (dVar 0)))) (dOrT (dTest (dOp2 ltD (dOpL lenD (dConsU (dVar 0) dNilU)) (dC (.int 2)))) (dNotT (dTest (dOp1 (isiD "str") (dOp2 idxD (dVar 0) (dC (.int 0)))))))) (dRet (dC (.bl false))) (dPure .nx))
    (dSeq (dIf (dTest (dOp2 eqE (dOp2 idxD (dVar 0) (dC (.int 0))) (dC (.str (Str.ofString "put"))))) (dRet (dAndV (dOp2 eqE (dOpL lenD (dConsU (dVar 0) dNilU)) (dC (.int 2))) (dAndV (dCall 1 m_is_numbers (dConsF (dOp2 idxD (dVar 0) (dC (.int 1))) dNilF)) (dOp2 neE (dOp2 idxD (dVar 0) (dC (.int 1))) (dTup dNilF))))) (dPure .nx))
    (dRet (dAndV (dOp2 eqE (dOp2 idxD (dVar 0) (dC (.int 0))) (dC (.str (Str.ofString "copy")))) (dAndV (dOp2 eqE (dOpL lenD (dConsU (dVar 0) dNilU)) (dC (.int 3))) (dAndV (dCall 1 m_is_number (dConsF (dOp2 idxD (dVar 0) (dC (.int 1))) dNilF)) (dAndV (dCall 1 m_is_number (dConsF (dOp2 idxD (dVar 0) (dC (.int 2))) dNilF)) (dOp2 gtD (dOp2 idxD (dVar 0) (dC (.int 2))) (dC (.int 0))))))))))
def m_is_piece : Fn := runB 1 code_is_piece
def code_is_delta : M Out :=
    (dSeq (dIf (dOrT (dNotT (dTest (dOp1 (isiD "tuple") (dVar 1)))) (dNotT (dTest (dOpL allD (dConsU (dLc (dSrc (dVar 1)) (gN 2) (dPure true) (dCall 1 m_is_piece (dConsF (dVar 2) dNilF)) [2]) dNilU))))) (dRet (dC (.bl false))) (dPure .nx))
    (dRet (dOpL allD (dConsU (dLc (dSrc (dVar 1)) (gN 2) (dTest (dOp2 eqE (dOp2 idxD (dVar 2) (dC (.int 0))) (dC (.str (Str.ofString "copy"))))) (dOp2 leD (dOp2 addD (dOp2 idxD (dVar 2) (dC (.int 1))) (dOp2 idxD (dVar 2) (dC (.int 2)))) (dOpL lenD (dConsU (dVar 0) dNilU))) [2]) dNilU))))
def m_is_delta : Fn := runB 3 code_is_delta
def code_made_by : M Out :=
    (dRet (dIf (dTest (dOp2 eqE (dOp2 idxD (dVar 0) (dC (.int 0))) (dC (.str (Str.ofString "put"))))) (dOp2 idxD (dVar 0) (dC (.int 1))) (dSl (dVar 1) (dPart (dOp2 idxD (dVar 0) (dC (.int 1)))) (dPart (dOp2 addD (dOp2 idxD (dVar 0) (dC (.int 1))) (dOp2 idxD (dVar 0) (dC (.int 2))))))))
def m_made_by : Fn := runB 2 code_made_by
def code_applied_delta : M Out :=
    (dSeq (dIf (dNotT (dTest (dCall 2 m_is_delta (dConsF (dVar 1) (dConsF (dVar 0) dNilF))))) (fun _ => none) (dPure .nx))
    (dSeq (dSet 2 (dLst dNilF))
    (dSeq (dFor (dSrc (dVar 0)) (gN 3) (dDrop (dMut extendD (dVar 2) (dConsF (dCall 2 m_made_by (dConsF (dVar 3) (dConsF (dVar 1) dNilF))) dNilF))))
    (dRet (dOpL tupleD (dConsU (dVar 2) dNilU))))))
def m_applied_delta : Fn := runB 4 code_applied_delta
def code_delta_cost : M Out :=
    (dRet (dOpL sumD (dConsU (dLc (dSrc (dVar 0)) (gN 2) (dPure true) (dIf (dTest (dOp2 eqE (dOp2 idxD (dVar 2) (dC (.int 0))) (dC (.str (Str.ofString "copy"))))) (dOp2 idxD (dVar 1) (dC (.int 0))) (dOp2 addD (dOp2 idxD (dVar 1) (dC (.int 1))) (dOp2 mulD (dOp2 idxD (dVar 1) (dC (.int 2))) (dOpL lenD (dConsU (dOp2 idxD (dVar 2) (dC (.int 1))) dNilU))))) [2]) dNilU)))
def m_delta_cost : Fn := runB 3 code_delta_cost
def code_length_of : M Out :=
    (dRet (dIf (dTest (dOp2 eqE (dOp2 idxD (dVar 0) (dC (.int 0))) (dC (.str (Str.ofString "copy"))))) (dOp2 idxD (dVar 0) (dC (.int 2))) (dOpL lenD (dConsU (dOp2 idxD (dVar 0) (dC (.int 1))) dNilU))))
def m_length_of : Fn := runB 1 code_length_of
def code_part_of : M Out :=
    (dRet (dIf (dTest (dOp2 eqE (dOp2 idxD (dVar 0) (dC (.int 0))) (dC (.str (Str.ofString "put"))))) (dTup (dConsF (dC (.str (Str.ofString "put"))) (dConsF (dSl (dOp2 idxD (dVar 0) (dC (.int 1))) (dPart (dVar 1)) (dPart (dVar 2))) dNilF))) (dTup (dConsF (dC (.str (Str.ofString "copy"))) (dConsF (dOp2 addD (dOp2 idxD (dVar 0) (dC (.int 1))) (dVar 1)) (dConsF (dOp2 subD (dVar 2) (dVar 1)) dNilF))))))
def m_part_of : Fn := runB 3 code_part_of
def code_parts_between : M Out :=
    (dSeq (dPar [3, 4] (dConsU (unbo (dLst dNilF)) (dConsU (unbo (dC (.int 0))) dNilU)))
    (dSeq (dFor (dSrc (dVar 0)) (gN 5) (dSeq (dPar [6, 7] (dConsU (unbo (dOpL maxD (dConsU (dOp2 subD (dVar 1) (dVar 4)) (dConsU (dC (.int 0)) dNilU)))) (dConsU (unbo (dOpL minD (dConsU (dOp2 subD (dVar 2) (dVar 4)) (dConsU (dCall 1 m_length_of (dConsF (dVar 5) dNilF)) dNilU)))) dNilU)))
    (dSeq (dIf (dTest (dOp2 ltD (dVar 6) (dVar 7))) (dDrop (dMut appendD (dVar 3) (dConsF (dCall 3 m_part_of (dConsF (dVar 5) (dConsF (dVar 6) (dConsF (dVar 7) dNilF)))) dNilF))) (dPure .nx))
    (dAug iaddD 4 (dCall 1 m_length_of (dConsF (dVar 5) dNilF))))))
    (dRet (dVar 3))))
def m_parts_between : Fn := runB 8 code_parts_between
def code_with_step : M Out :=
    (dSeq (dSet 2 (dIf (dTest (dOp2 neE (dVar 0) (dLst dNilF))) (dOp2 idxD (dVar 0) (dOp1 negD (dC (.int 1)))) (dTup (dConsF (dC (.str (Str.ofString "none"))) dNilF))))
    (dSeq (dIf (dAndT (dTest (dOp2 eqE (dOp2 idxD (dVar 2) (dC (.int 0))) (dC (.str (Str.ofString "put"))))) (dTest (dOp2 eqE (dOp2 idxD (dVar 1) (dC (.int 0))) (dC (.str (Str.ofString "put")))))) (dRet (dOp2 addD (dSl (dVar 0) (dPure none) (dPart (dOp1 negD (dC (.int 1))))) (dLst (dConsF (dTup (dConsF (dC (.str (Str.ofString "put"))) (dConsF (dOp2 addD (dOp2 idxD (dVar 2) (dC (.int 1))) (dOp2 idxD (dVar 1) (dC (.int 1)))) dNilF))) dNilF)))) (dPure .nx))
    (dSeq (dIf (dAndT (dTest (dOp2 eqE (dOp2 idxD (dVar 2) (dC (.int 0))) (dC (.str (Str.ofString "copy"))))) (dAndT (dTest (dOp2 eqE (dOp2 idxD (dVar 1) (dC (.int 0))) (dC (.str (Str.ofString "copy"))))) (dTest (dOp2 eqE (dOp2 addD (dOp2 idxD (dVar 2) (dC (.int 1))) (dOp2 idxD (dVar 2) (dC (.int 2)))) (dOp2 idxD (dVar 1) (dC (.int 1))))))) (dRet (dOp2 addD (dSl (dVar 0) (dPure none) (dPart (dOp1 negD (dC (.int 1))))) (dLst (dConsF (dTup (dConsF (dC (.str (Str.ofString "copy"))) (dConsF (dOp2 idxD (dVar 2) (dC (.int 1))) (dConsF (dOp2 addD (dOp2 idxD (dVar 2) (dC (.int 2))) (dOp2 idxD (dVar 1) (dC (.int 2)))) dNilF)))) dNilF)))) (dPure .nx))
    (dRet (dOp2 addD (dVar 0) (dLst (dConsF (dVar 1) dNilF)))))))
def m_with_step : Fn := runB 3 code_with_step
def code_composed : M Out :=
    (dSeq (dDrop (dCall 2 m_applied_delta (dConsF (dVar 1) (dConsF (dCall 2 m_applied_delta (dConsF (dVar 0) (dConsF (dVar 2) dNilF))) dNilF))))
    (dSeq (dSet 3 (dLst dNilF))
    (dSeq (dFor (dSrc (dVar 1)) (gN 4) (dSeq (dSet 5 (dIf (dTest (dOp2 eqE (dOp2 idxD (dVar 4) (dC (.int 0))) (dC (.str (Str.ofString "put"))))) (dLst (dConsF (dVar 4) dNilF)) (dCall 3 m_parts_between (dConsF (dVar 0) (dConsF (dOp2 idxD (dVar 4) (dC (.int 1))) (dConsF (dOp2 addD (dOp2 idxD (dVar 4) (dC (.int 1))) (dOp2 idxD (dVar 4) (dC (.int 2)))) dNilF))))))
    (dFor (dSrc (dVar 5)) (gN 6) (dSet 3 (dCall 2 m_with_step (dConsF (dVar 3) (dConsF (dVar 6) dNilF)))))))
    (dRet (dOpL tupleD (dConsU (dVar 3) dNilU))))))
def m_composed : Fn := runB 7 code_composed
def code_step_row : M Out :=
    (dRet (dIf (dTest (dOp2 eqE (dOp2 idxD (dVar 0) (dC (.int 0))) (dC (.str (Str.ofString "put"))))) (dOp2 addD (dC (.str (Str.ofString "put "))) (dCall 1 m_hex_text (dConsF (dOp2 idxD (dVar 0) (dC (.int 1))) dNilF))) (dOp2 addD (dOp2 addD (dOp2 addD (dC (.str (Str.ofString "copy "))) (dOpL strD (dConsU (dOp2 idxD (dVar 0) (dC (.int 1))) dNilU))) (dC (.str (Str.ofString " ")))) (dOpL strD (dConsU (dOp2 idxD (dVar 0) (dC (.int 2))) dNilU)))))
def m_step_row : Fn := runB 1 code_step_row
def code_delta_text : M Out :=
    (dRet (dMeth "str" joinD (dC (.str (Str.ofString ""))) (dConsU (dLc (dSrc (dVar 0)) (gN 1) (dPure true) (dOp2 addD (dCall 1 m_step_row (dConsF (dVar 1) dNilF)) (dC (.str (Str.ofString "\n")))) [1]) dNilU)))
def m_delta_text : Fn := runB 2 code_delta_text
def code_read_step : M Out :=
    (dSeq (dSet 1 (dMeth "str" splitD (dVar 0) (dConsU (dC (.str (Str.ofString " "))) dNilU)))
    (dSeq (dIf (dAndT (dTest (dOp2 eqE (dOp2 idxD (dVar 1) (dC (.int 0))) (dC (.str (Str.ofString "put"))))) (dTest (dOp2 eqE (dOpL lenD (dConsU (dVar 1) dNilU)) (dC (.int 2))))) (dSet 2 (dTup (dConsF (dC (.str (Str.ofString "put"))) (dConsF (dCall 1 m_read_hex (dConsF (dOp2 idxD (dVar 1) (dC (.int 1))) dNilF)) dNilF)))) (dIf (dAndT (dTest (dOp2 eqE (dOp2 idxD (dVar 1) (dC (.int 0))) (dC (.str (Str.ofString "copy"))))) (dAndT (dTest (dOp2 eqE (dOpL lenD (dConsU (dVar 1) dNilU)) (dC (.int 3)))) (dAndT (dTest (dCall 1 m_is_number_text (dConsF (dOp2 idxD (dVar 1) (dC (.int 1))) dNilF))) (dTest (dCall 1 m_is_number_text (dConsF (dOp2 idxD (dVar 1) (dC (.int 2))) dNilF)))))) (dSet 2 (dTup (dConsF (dC (.str (Str.ofString "copy"))) (dConsF (dOpL intD (dConsU (dOp2 idxD (dVar 1) (dC (.int 1))) dNilU)) (dConsF (dOpL intD (dConsU (dOp2 idxD (dVar 1) (dC (.int 2))) dNilU)) dNilF))))) (dRet (dC .non))))
    (dRet (dIf (dTest (dCall 1 m_is_piece (dConsF (dVar 2) dNilF))) (dVar 2) (dC .non)))))
def m_read_step : Fn := runB 3 code_read_step
def code_read_delta : M Out :=
    (dSeq (dSet 1 (dMeth "str" splitD (dVar 0) (dConsU (dC (.str (Str.ofString "\n"))) dNilU)))
    (dSeq (dIf (dTest (dOp2 neE (dOp2 idxD (dVar 1) (dOp1 negD (dC (.int 1)))) (dC (.str (Str.ofString ""))))) (fun _ => none) (dPure .nx))
    (dSeq (dSet 2 (dLc (dSrc (dSl (dVar 1) (dPure none) (dPart (dOp1 negD (dC (.int 1)))))) (gN 3) (dPure true) (dCall 1 m_read_step (dConsF (dVar 3) dNilF)) [3]))
    (dSeq (dIf (dTest (dOp2 inE (dC .non) (dVar 2))) (fun _ => none) (dPure .nx))
    (dRet (dOpL tupleD (dConsU (dVar 2) dNilU)))))))
def m_read_delta : Fn := runB 4 code_read_delta
def code__law_draws : M Out :=
    (dSeq (dSet 2 (dLst dNilF))
    (dSeq (dSet 3 (dC (.int 7)))
    (dSeq (dFor (dRng (dConsU (dOpL lenD (dConsU (dVar 0) dNilU)) dNilU)) (gN 4) (dSeq (dSet 5 (dOpL absD (dConsU (dOpL intD (dConsU (dOp2 idxD (dVar 0) (dVar 4)) dNilU)) dNilU)))
    (dSeq (dSet 3 (dOp2 modD (dOpL intD (dConsU (dOp2 addD (dOp2 addD (dOp2 mulD (dVar 3) (dC (.int 48271))) (dOp2 modD (dVar 5) (dC (.int 1000003)))) (dVar 4)) dNilU)) (dC (.int 65537))))
    (dSeq (dSet 6 (dC (.int 0)))
    (dSeq (dIf (dTest (dOp2 geD (dVar 5) (dOp2 powD (dC (.int 10)) (dC (.int 18))))) (dSet 6 (dVar 5)) (dSeq (dDrop (dMut appendD (dVar 2) (dConsF (dOp2 modD (dOpL intD (dConsU (dVar 5) dNilU)) (dC (.int 997))) dNilF)))
    (dDrop (dMut appendD (dVar 2) (dConsF (dOp2 modD (dOp2 modD (dOpL intD (dConsU (dOp2 addD (dOp2 mulD (dVar 3) (dC (.int 69621))) (dC (.int 5))) dNilU)) (dC (.int 65521))) (dC (.int 997))) dNilF)))))
    (dFor (dRng (dConsU (dC (.int 60)) dNilU)) (gN 7) (dIf (dTest (dOp2 gtD (dVar 6) (dC (.int 0)))) (dSeq (dDrop (dMut appendD (dVar 2) (dConsF (dOp2 modD (dOpL intD (dConsU (dVar 6) dNilU)) (dC (.int 997))) dNilF)))
    (dSet 6 (dOp2 fdivD (dVar 6) (dC (.int 997))))) (dPure .nx))))))))
    (dSeq (dFor (dRng (dConsU (dVar 1) dNilU)) (gN 4) (dSeq (dSet 3 (dOp2 modD (dOpL intD (dConsU (dOp2 addD (dOp2 addD (dOp2 mulD (dVar 3) (dC (.int 16807))) (dVar 4)) (dC (.int 1))) dNilU)) (dC (.int 65537))))
    (dDrop (dMut appendD (dVar 2) (dConsF (dOp2 modD (dOpL intD (dConsU (dVar 3) dNilU)) (dC (.int 997))) dNilF)))))
    (dRet (dSl (dVar 2) (dPure none) (dPart (dVar 1))))))))
def m__law_draws : Fn := runB 8 code__law_draws
def code__law_next : M Out :=
    (dSeq (dAugCell iaddD (dVar 0) (dC (.str (Str.ofString "at"))) (dC (.int 1)))
    (dSeq (dIf (dTest (dOp2 gtD (dOp2 dgetD (dVar 0) (dC (.str (Str.ofString "at")))) (dOpL lenD (dConsU (dOp2 dgetD (dVar 0) (dC (.str (Str.ofString "draws")))) dNilU)))) (dRet (dC (.int 0))) (dPure .nx))
    (dRet (dOp2 modD (dOpL intD (dConsU (dOp2 idxD (dOp2 dgetD (dVar 0) (dC (.str (Str.ofString "draws")))) (dOp2 subD (dOp2 dgetD (dVar 0) (dC (.str (Str.ofString "at")))) (dC (.int 1)))) dNilU)) (dVar 1)))))
def m__law_next : Fn := runB 2 code__law_next
def code__law_delta : M Out :=
    (dSeq (dPar [2, 3] (dConsU (unbo (dLst dNilF)) (dConsU (unbo (dC (.int 0))) dNilU)))
    (dSeq (dFor (dRng (dConsU (dCall 2 m__law_next (dConsF (dVar 0) (dConsF (dC (.int 6)) dNilF))) dNilU)) (gN 4) (dSeq (dSet 5 (dCall 2 m__law_next (dConsF (dVar 0) (dConsF (dC (.int 4)) dNilF))))
    (dIf (dOrT (dTest (dOp2 eqE (dVar 5) (dC (.int 0)))) (dTest (dOp2 eqE (dVar 1) (dC (.int 0))))) (dDrop (dMut appendD (dVar 2) (dConsF (dTup (dConsF (dC (.str (Str.ofString "put"))) (dConsF (dOpL tupleD (dConsU (dLc (dRng (dConsU (dOp2 addD (dC (.int 1)) (dCall 2 m__law_next (dConsF (dVar 0) (dConsF (dC (.int 3)) dNilF)))) dNilU)) (gN 8) (dPure true) (dCall 2 m__law_next (dConsF (dVar 0) (dConsF (dC (.int 256)) dNilF))) [8]) dNilU)) dNilF))) dNilF))) (dSeq (dSet 6 (dIf (dAndT (dTest (dOp2 eqE (dVar 5) (dC (.int 1)))) (dTest (dOp2 ltD (dVar 3) (dVar 1)))) (dVar 3) (dCall 2 m__law_next (dConsF (dVar 0) (dConsF (dVar 1) dNilF)))))
    (dSeq (dSet 7 (dOp2 addD (dC (.int 1)) (dCall 2 m__law_next (dConsF (dVar 0) (dConsF (dOp2 subD (dVar 1) (dVar 6)) dNilF)))))
    (dSeq (dDrop (dMut appendD (dVar 2) (dConsF (dTup (dConsF (dC (.str (Str.ofString "copy"))) (dConsF (dVar 6) (dConsF (dVar 7) dNilF)))) dNilF)))
    (dSet 3 (dOp2 addD (dVar 6) (dVar 7)))))))))
    (dRet (dOpL tupleD (dConsU (dVar 2) dNilU)))))
def m__law_delta : Fn := runB 9 code__law_delta
def code__law_from : M Out :=
    (dSeq (dSet 2 (dLst dNilF))
    (dSeq (dFor (dSrc (dVar 0)) (gN 3) (dSet 2 (dOp2 addD (dVar 2) (dIf (dTest (dOp2 eqE (dOp2 idxD (dVar 3) (dC (.int 0))) (dC (.str (Str.ofString "put"))))) (dLc (dSrc (dOp2 idxD (dVar 3) (dC (.int 1)))) (gN 4) (dPure true) (dTup (dConsF (dC (.str (Str.ofString "put"))) (dConsF (dVar 4) dNilF))) [4]) (dSl (dVar 1) (dPart (dOp2 idxD (dVar 3) (dC (.int 1)))) (dPart (dOp2 addD (dOp2 idxD (dVar 3) (dC (.int 1))) (dOp2 idxD (dVar 3) (dC (.int 2))))))))))
    (dRet (dVar 2))))
def m__law_from : Fn := runB 5 code__law_from
def code__law_steps : M Out :=
    (dSeq (dSet 1 (dLst dNilF))
    (dSeq (dFor (dSrc (dVar 0)) (gT (gsCons (gN 2) (gsCons (gN 3) gsNil))) (dSeq (dSet 4 (dIf (dTest (dOp2 neE (dVar 1) (dLst dNilF))) (dOp2 idxD (dVar 1) (dOp1 negD (dC (.int 1)))) (dTup (dConsF (dC (.str (Str.ofString "none"))) dNilF))))
    (dIf (dAndT (dTest (dOp2 eqE (dVar 2) (dC (.str (Str.ofString "put"))))) (dTest (dOp2 eqE (dOp2 idxD (dVar 4) (dC (.int 0))) (dC (.str (Str.ofString "put")))))) (dSetItem (dTup (dConsF (dC (.str (Str.ofString "put"))) (dConsF (dOp2 addD (dOp2 idxD (dVar 4) (dC (.int 1))) (dTup (dConsF (dVar 3) dNilF))) dNilF))) (dVar 1) (dOp1 negD (dC (.int 1)))) (dIf (dAndT (dTest (dOp2 eqE (dVar 2) (dC (.str (Str.ofString "old"))))) (dAndT (dTest (dOp2 eqE (dOp2 idxD (dVar 4) (dC (.int 0))) (dC (.str (Str.ofString "copy"))))) (dTest (dOp2 eqE (dOp2 addD (dOp2 idxD (dVar 4) (dC (.int 1))) (dOp2 idxD (dVar 4) (dC (.int 2)))) (dVar 3))))) (dSetItem (dTup (dConsF (dC (.str (Str.ofString "copy"))) (dConsF (dOp2 idxD (dVar 4) (dC (.int 1))) (dConsF (dOp2 addD (dOp2 idxD (dVar 4) (dC (.int 2))) (dC (.int 1))) dNilF)))) (dVar 1) (dOp1 negD (dC (.int 1)))) (dDrop (dMut appendD (dVar 1) (dConsF (dIf (dTest (dOp2 eqE (dVar 2) (dC (.str (Str.ofString "put"))))) (dTup (dConsF (dC (.str (Str.ofString "put"))) (dConsF (dTup (dConsF (dVar 3) dNilF)) dNilF))) (dTup (dConsF (dC (.str (Str.ofString "copy"))) (dConsF (dVar 3) (dConsF (dC (.int 1)) dNilF))))) dNilF)))))))
    (dRet (dOpL tupleD (dConsU (dVar 1) dNilU)))))
def m__law_steps : Fn := runB 5 code__law_steps
def code__law_all : M Out :=
    (dSeq (dPar [3, 4] (dConsU (unbo (dOpL listD (dConsU (dVar 0) dNilU))) (dConsU (unbo (dLst (dConsF (dVar 1) dNilF))) dNilU)))
    (dSeq (dFor (dSrc (dVar 0)) (gN 5) (dDrop (dMut appendD (dVar 4) (dConsF (dCall 2 m_applied_delta (dConsF (dVar 5) (dConsF (dOp2 idxD (dVar 4) (dOp1 negD (dC (.int 1)))) dNilF))) dNilF))))
    (dSeq (dFor (dSrc (dVar 2)) (gN 6) (dSeq (dSetSlice (dLst (dConsF (dCall 3 m_composed (dConsF (dOp2 idxD (dVar 3) (dVar 6)) (dConsF (dOp2 idxD (dVar 3) (dOp2 addD (dVar 6) (dC (.int 1)))) (dConsF (dOp2 idxD (dVar 4) (dVar 6)) dNilF)))) dNilF)) (dVar 3) (dVar 6) (dOp2 addD (dVar 6) (dC (.int 2))))
    (dSet 4 (dOp2 addD (dSl (dVar 4) (dPure none) (dPart (dOp2 addD (dVar 6) (dC (.int 1))))) (dSl (dVar 4) (dPart (dOp2 addD (dVar 6) (dC (.int 2)))) (dPure none))))))
    (dRet (dOp2 idxD (dVar 3) (dC (.int 0)))))))
def m__law_all : Fn := runB 7 code__law_all
def code_law : M Out :=
    (dSeq (dSetCell 1 (dDict [(.inr (Str.ofString "draws"), (dCall 2 m__law_draws (dConsF (dVar 0) (dConsF (dC (.int 300)) dNilF)))), (.inr (Str.ofString "at"), (dC (.int 0)))]))
    (dSeq (dFor (dRng (dConsU (dC (.int 4)) dNilU)) (gN 2) (dSeq (dPar [3, 4] (dConsU (unbo (dCall 2 m__law_next (dConsF (dVar 1) (dConsF (dC (.int 14)) dNilF)))) (dConsU (unbo (dOp2 addD (dC (.int 1)) (dCall 2 m__law_next (dConsF (dVar 1) (dConsF (dC (.int 250)) dNilF))))) dNilU)))
    (dSeq (dSet 5 (dOpL tupleD (dConsU (dLc (dRng (dConsU (dVar 3) dNilU)) (gN 9) (dPure true) (dOp2 modD (dOp2 mulD (dVar 4) (dVar 9)) (dC (.int 251))) [9]) dNilU)))
    (dSeq (dPar [6, 7, 8] (dConsU (unbo (dLst dNilF)) (dConsU (unbo (dVar 5)) (dConsU (unbo (dLc (dRng (dConsU (dVar 3) dNilU)) (gN 9) (dPure true) (dTup (dConsF (dC (.str (Str.ofString "old"))) (dConsF (dVar 9) dNilF))) [9])) dNilU))))
    (dSeq (dFor (dRng (dConsU (dOp2 addD (dC (.int 2)) (dCall 2 m__law_next (dConsF (dVar 1) (dConsF (dC (.int 3)) dNilF)))) dNilU)) (gN 9) (dSeq (dDrop (dMut appendD (dVar 6) (dConsF (dCall 2 m__law_delta (dConsF (dVar 1) (dConsF (dOpL lenD (dConsU (dVar 7) dNilU)) dNilF))) dNilF)))
    (dPar [8, 7] (dConsU (unbo (dCall 2 m__law_from (dConsF (dOp2 idxD (dVar 6) (dOp1 negD (dC (.int 1)))) (dConsF (dVar 8) dNilF)))) (dConsU (unbo (dCall 2 m_applied_delta (dConsF (dOp2 idxD (dVar 6) (dOp1 negD (dC (.int 1)))) (dConsF (dVar 7) dNilF)))) dNilU)))))
    (dSeq (dSet 10 (dCall 1 m__law_steps (dConsF (dVar 8) dNilF)))
    (dSeq (dIf (dOrT (dTest (dOp2 neE (dVar 7) (dOpL tupleD (dConsU (dLc (dSrc (dVar 8)) (gT (gsCons (gN 16) (gsCons (gN 17) gsNil))) (dPure true) (dIf (dTest (dOp2 eqE (dVar 16) (dC (.str (Str.ofString "put"))))) (dVar 17) (dOp2 idxD (dVar 5) (dVar 17))) [16, 17]) dNilU)))) (dTest (dOp2 neE (dCall 2 m_applied_delta (dConsF (dVar 10) (dConsF (dVar 5) dNilF))) (dVar 7)))) (dRet (dC (.bl false))) (dPure .nx))
    (dSeq (dFor (dRng (dConsU (dC (.int 3)) dNilU)) (gN 11) (dSeq (dSet 12 (dLc (dRng (dConsU (dOp2 subD (dOpL lenD (dConsU (dVar 6) dNilU)) (dC (.int 1))) dNilU)) (gN 9) (dPure true) (dCall 2 m__law_next (dConsF (dVar 1) (dConsF (dOp2 subD (dOp2 subD (dOpL lenD (dConsU (dVar 6) dNilU)) (dC (.int 1))) (dVar 9)) dNilF))) [9]))
    (dSeq (dSet 13 (dCall 3 m__law_all (dConsF (dVar 6) (dConsF (dVar 5) (dConsF (dVar 12) dNilF)))))
    (dIf (dOrT (dTest (dOp2 neE (dVar 13) (dVar 10))) (dOrT (dTest (dOp2 isnE (dCall 2 m_is_delta (dConsF (dVar 5) (dConsF (dVar 13) dNilF))) (dC (.bl true)))) (dTest (dOp2 neE (dCall 1 m_read_delta (dConsF (dCall 1 m_delta_text (dConsF (dVar 13) dNilF)) dNilF)) (dVar 13))))) (dRet (dC (.bl false))) (dPure .nx)))))
    (dSeq (dSet 14 (dOpL lenD (dConsU (dLc (dSrc (dVar 10)) (gN 17) (dTest (dOp2 eqE (dOp2 idxD (dVar 17) (dC (.int 0))) (dC (.str (Str.ofString "copy"))))) (dVar 17) [17]) dNilU)))
    (dSeq (dSet 15 (dOpL lenD (dConsU (dLc (dSrc (dVar 8)) (gN 17) (dTest (dOp2 eqE (dOp2 idxD (dVar 17) (dC (.int 0))) (dC (.str (Str.ofString "put"))))) (dVar 17) [17]) dNilU)))
    (dIf (dTest (dOp2 neE (dCall 2 m_delta_cost (dConsF (dVar 10) (dConsF (dTup (dConsF (dC (.int 5)) (dConsF (dC (.int 3)) (dConsF (dC (.int 1)) dNilF)))) dNilF))) (dOp2 addD (dOp2 addD (dOp2 mulD (dC (.int 5)) (dVar 14)) (dOp2 mulD (dC (.int 3)) (dOp2 subD (dOpL lenD (dConsU (dVar 10) dNilU)) (dVar 14)))) (dVar 15)))) (dRet (dC (.bl false))) (dPure .nx))))))))))))
    (dRet (dC (.bl true)))))
def m_law : Fn := runB 18 code_law
end K78

namespace K78
open PySem PySem.Spec PyProof.Rows L2 DL
theorem sc_is_number : FnScope ["thing"] ["thing"] (defScope s_is_number) := ⟨rfl, rfl, rfl, by decide +kernel, rfl, by decide +kernel, by decide +kernel⟩
theorem sc_is_number_text : FnScope ["text", "sign"] ["text"] (defScope s_is_number_text) := ⟨rfl, rfl, rfl, by decide +kernel, rfl, by decide +kernel, by decide +kernel⟩
theorem sc_is_numbers : FnScope ["thing", "own"] ["thing"] (defScope s_is_numbers) := ⟨rfl, rfl, rfl, by decide +kernel, rfl, by decide +kernel, by decide +kernel⟩
theorem sc_hex_text : FnScope ["numbers", "own"] ["numbers"] (defScope s_hex_text) := ⟨rfl, rfl, rfl, by decide +kernel, rfl, by decide +kernel, by decide +kernel⟩
theorem sc_read_hex : FnScope ["text", "sign", "k"] ["text"] (defScope s_read_hex) := ⟨rfl, rfl, rfl, by decide +kernel, rfl, by decide +kernel, by decide +kernel⟩
theorem sc_is_piece : FnScope ["thing"] ["thing"] (defScope s_is_piece) := ⟨rfl, rfl, rfl, by decide +kernel, rfl, by decide +kernel, by decide +kernel⟩
theorem sc_is_delta : FnScope ["old", "thing", "step"] ["old", "thing"] (defScope s_is_delta) := ⟨rfl, rfl, rfl, by decide +kernel, rfl, by decide +kernel, by decide +kernel⟩
theorem sc_made_by : FnScope ["step", "old"] ["step", "old"] (defScope s_made_by) := ⟨rfl, rfl, rfl, by decide +kernel, rfl, by decide +kernel, by decide +kernel⟩
theorem sc_applied_delta : FnScope ["delta", "old", "found", "step"] ["delta", "old"] (defScope s_applied_delta) := ⟨rfl, rfl, rfl, by decide +kernel, rfl, by decide +kernel, by decide +kernel⟩
theorem sc_delta_cost : FnScope ["delta", "costs", "step"] ["delta", "costs"] (defScope s_delta_cost) := ⟨rfl, rfl, rfl, by decide +kernel, rfl, by decide +kernel, by decide +kernel⟩
theorem sc_length_of : FnScope ["step"] ["step"] (defScope s_length_of) := ⟨rfl, rfl, rfl, by decide +kernel, rfl, by decide +kernel, by decide +kernel⟩
theorem sc_part_of : FnScope ["step", "begin", "end"] ["step", "begin", "end"] (defScope s_part_of) := ⟨rfl, rfl, rfl, by decide +kernel, rfl, by decide +kernel, by decide +kernel⟩
theorem sc_parts_between : FnScope ["delta", "begin", "end", "found", "at", "step", "low", "high"] ["delta", "begin", "end"] (defScope s_parts_between) := ⟨rfl, rfl, rfl, by decide +kernel, rfl, by decide +kernel, by decide +kernel⟩
theorem sc_with_step : FnScope ["steps", "step", "last"] ["steps", "step"] (defScope s_with_step) := ⟨rfl, rfl, rfl, by decide +kernel, rfl, by decide +kernel, by decide +kernel⟩
theorem sc_composed : FnScope ["one", "other", "old", "found", "step", "parts", "part"] ["one", "other", "old"] (defScope s_composed) := ⟨rfl, rfl, rfl, by decide +kernel, rfl, by decide +kernel, by decide +kernel⟩
theorem sc_step_row : FnScope ["step"] ["step"] (defScope s_step_row) := ⟨rfl, rfl, rfl, by decide +kernel, rfl, by decide +kernel, by decide +kernel⟩
theorem sc_delta_text : FnScope ["delta", "step"] ["delta"] (defScope s_delta_text) := ⟨rfl, rfl, rfl, by decide +kernel, rfl, by decide +kernel, by decide +kernel⟩
theorem sc_read_step : FnScope ["row", "words", "step"] ["row"] (defScope s_read_step) := ⟨rfl, rfl, rfl, by decide +kernel, rfl, by decide +kernel, by decide +kernel⟩
theorem sc_read_delta : FnScope ["text", "rows", "steps", "row"] ["text"] (defScope s_read_delta) := ⟨rfl, rfl, rfl, by decide +kernel, rfl, by decide +kernel, by decide +kernel⟩
theorem sc__law_draws : FnScope ["script", "many", "draws", "mixed", "k", "cell", "rest", "turn"] ["script", "many"] (defScope s__law_draws) := ⟨rfl, rfl, rfl, by decide +kernel, rfl, by decide +kernel, by decide +kernel⟩
theorem sc__law_next : FnScope ["w", "many"] ["w", "many"] (defScope s__law_next) := ⟨rfl, rfl, rfl, by decide +kernel, rfl, by decide +kernel, by decide +kernel⟩
theorem sc__law_delta : FnScope ["w", "many", "found", "ended", "k", "kind", "begin", "long", "j"] ["w", "many"] (defScope s__law_delta) := ⟨rfl, rfl, rfl, by decide +kernel, rfl, by decide +kernel, by decide +kernel⟩
theorem sc__law_from : FnScope ["delta", "rows", "found", "step", "own"] ["delta", "rows"] (defScope s__law_from) := ⟨rfl, rfl, rfl, by decide +kernel, rfl, by decide +kernel, by decide +kernel⟩
theorem sc__law_steps : FnScope ["rows", "found", "word", "own", "last"] ["rows"] (defScope s__law_steps) := ⟨rfl, rfl, rfl, by decide +kernel, rfl, by decide +kernel, by decide +kernel⟩
theorem sc__law_all : FnScope ["deltas", "old", "order", "rows", "ahead", "delta", "k"] ["deltas", "old", "order"] (defScope s__law_all) := ⟨rfl, rfl, rfl, by decide +kernel, rfl, by decide +kernel, by decide +kernel⟩
theorem sc_law : FnScope ["script", "w", "turn", "many", "step", "old", "deltas", "now", "rows", "k", "due", "way", "order", "told", "copies", "laid", "word", "own"] ["script"] (defScope s_law) := ⟨rfl, rfl, rfl, by decide +kernel, rfl, by decide +kernel, by decide +kernel⟩
structure Tx (K : PySem.W.Frag) (mg : Str → Option Value) where
  a_is_number : Addr
  d_is_number : FuncData
  F_is_number : Fun K "is_number" "is_number" s_is_number a_is_number d_is_number
  g_is_number : mg "is_number" = some (.ref a_is_number)
  b_is_number : Binds K d_is_number ["thing"] []
  a_is_number_text : Addr
  d_is_number_text : FuncData
  F_is_number_text : Fun K "is_number_text" "is_number_text" s_is_number_text a_is_number_text d_is_number_text
  g_is_number_text : mg "is_number_text" = some (.ref a_is_number_text)
  b_is_number_text : Binds K d_is_number_text ["text"] []
  a_is_numbers : Addr
  d_is_numbers : FuncData
  F_is_numbers : Fun K "is_numbers" "is_numbers" s_is_numbers a_is_numbers d_is_numbers
  g_is_numbers : mg "is_numbers" = some (.ref a_is_numbers)
  b_is_numbers : Binds K d_is_numbers ["thing"] []
  a_hex_text : Addr
  d_hex_text : FuncData
  F_hex_text : Fun K "hex_text" "hex_text" s_hex_text a_hex_text d_hex_text
  g_hex_text : mg "hex_text" = some (.ref a_hex_text)
  b_hex_text : Binds K d_hex_text ["numbers"] []
  a_read_hex : Addr
  d_read_hex : FuncData
  F_read_hex : Fun K "read_hex" "read_hex" s_read_hex a_read_hex d_read_hex
  g_read_hex : mg "read_hex" = some (.ref a_read_hex)
  b_read_hex : Binds K d_read_hex ["text"] []
  a_is_piece : Addr
  d_is_piece : FuncData
  F_is_piece : Fun K "is_piece" "is_piece" s_is_piece a_is_piece d_is_piece
  g_is_piece : mg "is_piece" = some (.ref a_is_piece)
  b_is_piece : Binds K d_is_piece ["thing"] []
  a_is_delta : Addr
  d_is_delta : FuncData
  F_is_delta : Fun K "is_delta" "is_delta" s_is_delta a_is_delta d_is_delta
  g_is_delta : mg "is_delta" = some (.ref a_is_delta)
  b_is_delta : Binds K d_is_delta ["old", "thing"] []
  a_made_by : Addr
  d_made_by : FuncData
  F_made_by : Fun K "made_by" "made_by" s_made_by a_made_by d_made_by
  g_made_by : mg "made_by" = some (.ref a_made_by)
  b_made_by : Binds K d_made_by ["step", "old"] []
  a_applied_delta : Addr
  d_applied_delta : FuncData
  F_applied_delta : Fun K "applied_delta" "applied_delta" s_applied_delta a_applied_delta d_applied_delta
  g_applied_delta : mg "applied_delta" = some (.ref a_applied_delta)
  b_applied_delta : Binds K d_applied_delta ["delta", "old"] []
  a_delta_cost : Addr
  d_delta_cost : FuncData
  F_delta_cost : Fun K "delta_cost" "delta_cost" s_delta_cost a_delta_cost d_delta_cost
  g_delta_cost : mg "delta_cost" = some (.ref a_delta_cost)
  b_delta_cost : Binds K d_delta_cost ["delta", "costs"] []
  a_length_of : Addr
  d_length_of : FuncData
  F_length_of : Fun K "length_of" "length_of" s_length_of a_length_of d_length_of
  g_length_of : mg "length_of" = some (.ref a_length_of)
  b_length_of : Binds K d_length_of ["step"] []
  a_part_of : Addr
  d_part_of : FuncData
  F_part_of : Fun K "part_of" "part_of" s_part_of a_part_of d_part_of
  g_part_of : mg "part_of" = some (.ref a_part_of)
  b_part_of : Binds K d_part_of ["step", "begin", "end"] []
  a_parts_between : Addr
  d_parts_between : FuncData
  F_parts_between : Fun K "parts_between" "parts_between" s_parts_between a_parts_between d_parts_between
  g_parts_between : mg "parts_between" = some (.ref a_parts_between)
  b_parts_between : Binds K d_parts_between ["delta", "begin", "end"] []
  a_with_step : Addr
  d_with_step : FuncData
  F_with_step : Fun K "with_step" "with_step" s_with_step a_with_step d_with_step
  g_with_step : mg "with_step" = some (.ref a_with_step)
  b_with_step : Binds K d_with_step ["steps", "step"] []
  a_composed : Addr
  d_composed : FuncData
  F_composed : Fun K "composed" "composed" s_composed a_composed d_composed
  g_composed : mg "composed" = some (.ref a_composed)
  b_composed : Binds K d_composed ["one", "other", "old"] []
  a_step_row : Addr
  d_step_row : FuncData
  F_step_row : Fun K "step_row" "step_row" s_step_row a_step_row d_step_row
  g_step_row : mg "step_row" = some (.ref a_step_row)
  b_step_row : Binds K d_step_row ["step"] []
  a_delta_text : Addr
  d_delta_text : FuncData
  F_delta_text : Fun K "delta_text" "delta_text" s_delta_text a_delta_text d_delta_text
  g_delta_text : mg "delta_text" = some (.ref a_delta_text)
  b_delta_text : Binds K d_delta_text ["delta"] []
  a_read_step : Addr
  d_read_step : FuncData
  F_read_step : Fun K "read_step" "read_step" s_read_step a_read_step d_read_step
  g_read_step : mg "read_step" = some (.ref a_read_step)
  b_read_step : Binds K d_read_step ["row"] []
  a_read_delta : Addr
  d_read_delta : FuncData
  F_read_delta : Fun K "read_delta" "read_delta" s_read_delta a_read_delta d_read_delta
  g_read_delta : mg "read_delta" = some (.ref a_read_delta)
  b_read_delta : Binds K d_read_delta ["text"] []
  a__law_draws : Addr
  d__law_draws : FuncData
  F__law_draws : Fun K "_law_draws" "_law_draws" s__law_draws a__law_draws d__law_draws
  g__law_draws : mg "_law_draws" = some (.ref a__law_draws)
  b__law_draws : Binds K d__law_draws ["script", "many"] []
  a__law_next : Addr
  d__law_next : FuncData
  F__law_next : Fun K "_law_next" "_law_next" s__law_next a__law_next d__law_next
  g__law_next : mg "_law_next" = some (.ref a__law_next)
  b__law_next : Binds K d__law_next ["w", "many"] []
  a__law_delta : Addr
  d__law_delta : FuncData
  F__law_delta : Fun K "_law_delta" "_law_delta" s__law_delta a__law_delta d__law_delta
  g__law_delta : mg "_law_delta" = some (.ref a__law_delta)
  b__law_delta : Binds K d__law_delta ["w", "many"] []
  a__law_from : Addr
  d__law_from : FuncData
  F__law_from : Fun K "_law_from" "_law_from" s__law_from a__law_from d__law_from
  g__law_from : mg "_law_from" = some (.ref a__law_from)
  b__law_from : Binds K d__law_from ["delta", "rows"] []
  a__law_steps : Addr
  d__law_steps : FuncData
  F__law_steps : Fun K "_law_steps" "_law_steps" s__law_steps a__law_steps d__law_steps
  g__law_steps : mg "_law_steps" = some (.ref a__law_steps)
  b__law_steps : Binds K d__law_steps ["rows"] []
  a__law_all : Addr
  d__law_all : FuncData
  F__law_all : Fun K "_law_all" "_law_all" s__law_all a__law_all d__law_all
  g__law_all : mg "_law_all" = some (.ref a__law_all)
  b__law_all : Binds K d__law_all ["deltas", "old", "order"] []
  a_law : Addr
  d_law : FuncData
  F_law : Fun K "law" "law" s_law a_law d_law
  g_law : mg "law" = some (.ref a_law)
  b_law : Binds K d_law ["script"] []
  m_abs : mg "abs" = none
  m_all : mg "all" = none
  m_bool : mg "bool" = none
  m_int : mg "int" = none
  m_isinstance : mg "isinstance" = none
  m_len : mg "len" = none
  m_list : mg "list" = none
  m_max : mg "max" = none
  m_min : mg "min" = none
  m_range : mg "range" = none
  m_str : mg "str" = none
  m_sum : mg "sum" = none
  m_tuple : mg "tuple" = none
  c_DIGITS : ∃ t, mg "DIGITS" = some (.str (Str.ofString "0123456789abcdef") t)
section
variable {P : Program} {w : World} {K : PySem.W.Frag} {mg : Str → Option Value} {base : Heap} {cl : Nat → Addr}
theorem ok_is_number (T : Tx K mg) : FnOk P w K mg base CX0 1 T.a_is_number T.d_is_number ["thing"] (spD K cl 1 m_is_number) :=
  fn_ok T.F_is_number sc_is_number fun cdv A outer s H E hr =>
    (ss_one (ss_ret (se_and (se_isi (T := "int") "int" T.m_isinstance T.m_int (by kernel_rfl) (sv_l 0 (by kernel_rfl) (by kernel_rfl)) (by kernel_rfl)) (se_and (se_not (se_isi (T := "bool") "bool" T.m_isinstance T.m_bool (by kernel_rfl) (sv_l 0 (by kernel_rfl) (by kernel_rfl)) (by kernel_rfl))) (se_and1 (se_cmp op_geD (sv_l 0 (by kernel_rfl) (by kernel_rfl)) se_int (nomark _)))))))
theorem ok_is_number_text (T : Tx K mg) : FnOk P w K mg base CX0 1 T.a_is_number_text T.d_is_number_text ["text"] (spD K cl 1 m_is_number_text) :=
  fn_ok T.F_is_number_text sc_is_number_text fun cdv A outer s H E hr =>
    (ss_cons (ss_if (st_or (st_cmp (op_eqE hr.units) (sv_l 0 (by kernel_rfl) (by kernel_rfl)) se_str (nomark _)) (st_or (st_cmp op_gtD (se_callB cr_lenD T.m_len PySem.boot_len (sa_consU (sv_l 0 (by kernel_rfl) (by kernel_rfl)) sa_nilU)) se_int (nomark _)) (sw_or1 (st_not (st_val (se_callB (cr_allD rfl) T.m_all (by kernel_rfl) (sa_consU (se_lc (own := [(Str.ofString "sign", 1)]) rfl sc_is_number_text.nd (si_any (sv_l 0 (by kernel_rfl) (by kernel_rfl))) (blkOk_by (by kernel_rfl)) (by decide) (fun _ _ _ _ _ => (sg_name (i := 1) sc_is_number_text.nd (by kernel_rfl) (.inl (by kernel_rfl)) (.inr (by kernel_rfl)))) (fun _ _ _ _ _ => sts_nil) (fun _ _ _ _ _ => (se_cmp (op_inE (hu65 hr)) (sv_l 1 (by kernel_rfl) (by kernel_rfl)) se_str (by kernel_rfl)))) sa_nilU))))))).pt (ss_one (ss_ret se_bl)) ss_nil)
    (ss_one (ss_ret (se_or (se_cmp (op_eqE hr.units) (sv_l 0 (by kernel_rfl) (by kernel_rfl)) se_str (nomark _)) (se_and1 (se_cmp (op_neE hr.units) (se_ix (sv_l 0 (by kernel_rfl) (by kernel_rfl)) se_int (fun _ _ => rfl)) se_str (nomark _)))))))
theorem ok_is_numbers (T : Tx K mg) : FnOk P w K mg base CX0 2 T.a_is_numbers T.d_is_numbers ["thing"] (spD K cl 1 m_is_numbers) :=
  fn_ok T.F_is_numbers sc_is_numbers fun cdv A outer s H E hr =>
    (ss_one (ss_ret (se_and (se_isi (T := "tuple") "tuple" T.m_isinstance T.m_tuple (by kernel_rfl) (sv_l 0 (by kernel_rfl) (by kernel_rfl)) (by kernel_rfl)) (se_and1 (se_callB (cr_allD rfl) T.m_all (by kernel_rfl) (sa_consU (se_lc (own := [(Str.ofString "own", 1)]) rfl sc_is_numbers.nd (si_any (sv_l 0 (by kernel_rfl) (by kernel_rfl))) (blkOk_by (by kernel_rfl)) (by decide) (fun _ _ _ _ _ => (sg_name (i := 1) sc_is_numbers.nd (by kernel_rfl) (.inl (by kernel_rfl)) (.inr (by kernel_rfl)))) (fun _ _ _ _ _ => sts_nil) (fun _ _ _ _ _ => (se_and (se_call (ok_is_number T) (hr.mono (by decide)) T.g_is_number T.F_is_number.kp T.b_is_number (sa_consF (sv_l 1 (by kernel_rfl) (by kernel_rfl)) sa_nilF)) (se_and1 (se_cmp op_ltD (sv_l 1 (by kernel_rfl) (by kernel_rfl)) se_int (nomark _)))))) sa_nilU))))))
theorem ok_hex_text (T : Tx K mg) : FnOk P w K mg base CX0 1 T.a_hex_text T.d_hex_text ["numbers"] (spD K cl 1 m_hex_text) :=
  fn_ok T.F_hex_text sc_hex_text fun cdv A outer s H E hr =>
    (ss_one (ss_ret (se_meth PySem.F.plainAttrs_str PySem.F.slot_str_join PySem.F.type_str_join mt_joinD se_str (sa_consU (se_lc (own := [(Str.ofString "own", 1)]) rfl sc_hex_text.nd (si_any (sv_l 0 (by kernel_rfl) (by kernel_rfl))) (blkOk_by (by kernel_rfl)) (by decide) (fun _ _ _ _ _ => (sg_name (i := 1) sc_hex_text.nd (by kernel_rfl) (.inl (by kernel_rfl)) (.inr (by kernel_rfl)))) (fun _ _ _ _ _ => sts_nil) (fun _ _ _ _ _ => (se_op op_addD (se_ix (se_glob T.c_DIGITS) (se_op op_fdivD (sv_l 1 (by kernel_rfl) (by kernel_rfl)) se_int) (fun _ _ => rfl)) (se_ix (se_glob T.c_DIGITS) (se_op op_modD (sv_l 1 (by kernel_rfl) (by kernel_rfl)) se_int) (fun _ _ => rfl))))) sa_nilU))))
theorem ok_read_hex (T : Tx K mg) : FnOk P w K mg base CX0 1 T.a_read_hex T.d_read_hex ["text"] (spD K cl 1 m_read_hex) :=
  fn_ok T.F_read_hex sc_read_hex fun cdv A outer s H E hr =>
    (ss_cons (ss_if (st_or (st_cmp (op_neE hr.units) (se_op op_modD (se_callB cr_lenD T.m_len PySem.boot_len (sa_consU (sv_c 0 (by kernel_rfl) (by kernel_rfl)) sa_nilU)) se_int) se_int (nomark _)) (sw_or1 (st_not (st_val (se_callB (cr_allD rfl) T.m_all (by kernel_rfl) (sa_consU (se_lc (own := [(Str.ofString "sign", 1)]) rfl sc_read_hex.nd (si_any (sv_c 0 (by kernel_rfl) (by kernel_rfl))) (blkOk_by (by kernel_rfl)) (by decide) (fun _ _ _ _ _ => (sg_name (i := 1) sc_read_hex.nd (by kernel_rfl) (.inl (by kernel_rfl)) (.inr (by kernel_rfl)))) (fun _ _ _ _ _ => sts_nil) (fun _ _ _ _ _ => (se_cmp (op_inE (hu65 hr)) (sv_l 1 (by kernel_rfl) (by kernel_rfl)) (se_glob T.c_DIGITS) (by kernel_rfl)))) sa_nilU)))))).pt (ss_one (ss_ret se_non)) ss_nil)
    (ss_one (ss_ret (se_callTy cr_tupleD T.m_tuple (by kernel_rfl) (sa_consU (se_lc (own := [(Str.ofString "k", 2)]) rfl sc_read_hex.nd (si_range3 T.m_range (sa_consU se_int (sa_consU (se_callB cr_lenD T.m_len PySem.boot_len (sa_consU (sv_c 0 (by kernel_rfl) (by kernel_rfl)) sa_nilU)) (sa_consU se_int sa_nilU))) (fun _ _ _ h => lenU3 h)) (blkOk_by (by kernel_rfl)) (by decide) (fun _ _ _ _ _ => (sg_name (i := 2) sc_read_hex.nd (by kernel_rfl) (.inl (by kernel_rfl)) (.inr (by kernel_rfl)))) (fun _ _ _ _ _ => sts_nil) (fun _ _ _ _ _ => (se_op op_addD (se_op op_mulD se_int (se_meth PySem.F.plainAttrs_str PySem.F.slot_str_index PySem.F.type_str_index mt_sindexD (se_glob T.c_DIGITS) (sa_consU (se_ix (sv_c 0 (by kernel_rfl) (by kernel_rfl)) (sv_l 2 (by kernel_rfl) (by kernel_rfl)) (fun _ _ => rfl)) sa_nilU))) (se_meth PySem.F.plainAttrs_str PySem.F.slot_str_index PySem.F.type_str_index mt_sindexD (se_glob T.c_DIGITS) (sa_consU (se_ix (sv_c 0 (by kernel_rfl) (by kernel_rfl)) (se_op op_addD (sv_l 2 (by kernel_rfl) (by kernel_rfl)) se_int) (fun _ _ => rfl)) sa_nilU))))) sa_nilU)))))
theorem ok_is_piece (T : Tx K mg) : FnOk P w K mg base CX0 3 T.a_is_piece T.d_is_piece ["thing"] (spD K cl 1 m_is_piece) :=
  fn_ok T.F_is_piece sc_is_piece fun cdv A outer s H E hr =>
    (ss_cons (ss_if (st_or (st_not (st_val (se_isi (T := "tuple") "tuple" T.m_isinstance T.m_tuple (by kernel_rfl) (sv_l 0 (by kernel_rfl) (by kernel_rfl)) (by kernel_rfl)))) (st_or (st_cmp op_ltD (se_callB cr_lenD T.m_len PySem.boot_len (sa_consU (sv_l 0 (by kernel_rfl) (by kernel_rfl)) sa_nilU)) se_int (nomark _)) (sw_or1 (st_not (st_val (se_isi (T := "str") "str" T.m_isinstance T.m_str (by kernel_rfl) (se_ix (sv_l 0 (by kernel_rfl) (by kernel_rfl)) se_int (fun _ _ => rfl)) (by kernel_rfl))))))).pt (ss_one (ss_ret se_bl)) ss_nil)
    (ss_cons (ss_if (st_cmp (op_eqE hr.units) (se_ix (sv_l 0 (by kernel_rfl) (by kernel_rfl)) se_int (fun _ _ => rfl)) se_str (nomark _)) (ss_one (ss_ret (se_and (se_cmp (op_eqE hr.units) (se_callB cr_lenD T.m_len PySem.boot_len (sa_consU (sv_l 0 (by kernel_rfl) (by kernel_rfl)) sa_nilU)) se_int (nomark _)) (se_and (se_call (ok_is_numbers T) (hr.mono (by decide)) T.g_is_numbers T.F_is_numbers.kp T.b_is_numbers (sa_consF (se_ix (sv_l 0 (by kernel_rfl) (by kernel_rfl)) se_int (fun _ _ => rfl)) sa_nilF)) (se_and1 (se_cmp (op_neE hr.units) (se_ix (sv_l 0 (by kernel_rfl) (by kernel_rfl)) se_int (fun _ _ => rfl)) (se_tup sa_nilF) (nomark _))))))) ss_nil)
    (ss_one (ss_ret (se_and (se_cmp (op_eqE hr.units) (se_ix (sv_l 0 (by kernel_rfl) (by kernel_rfl)) se_int (fun _ _ => rfl)) se_str (nomark _)) (se_and (se_cmp (op_eqE hr.units) (se_callB cr_lenD T.m_len PySem.boot_len (sa_consU (sv_l 0 (by kernel_rfl) (by kernel_rfl)) sa_nilU)) se_int (nomark _)) (se_and (se_call (ok_is_number T) (hr.mono (by decide)) T.g_is_number T.F_is_number.kp T.b_is_number (sa_consF (se_ix (sv_l 0 (by kernel_rfl) (by kernel_rfl)) se_int (fun _ _ => rfl)) sa_nilF)) (se_and (se_call (ok_is_number T) (hr.mono (by decide)) T.g_is_number T.F_is_number.kp T.b_is_number (sa_consF (se_ix (sv_l 0 (by kernel_rfl) (by kernel_rfl)) se_int (fun _ _ => rfl)) sa_nilF)) (se_and1 (se_cmp op_gtD (se_ix (sv_l 0 (by kernel_rfl) (by kernel_rfl)) se_int (fun _ _ => rfl)) se_int (nomark _)))))))))))
theorem ok_is_delta (T : Tx K mg) : FnOk P w K mg base CX0 4 T.a_is_delta T.d_is_delta ["old", "thing"] (spD K cl 2 m_is_delta) :=
  fn_ok T.F_is_delta sc_is_delta fun cdv A outer s H E hr =>
    (ss_cons (ss_if (st_or (st_not (st_val (se_isi (T := "tuple") "tuple" T.m_isinstance T.m_tuple (by kernel_rfl) (sv_l 1 (by kernel_rfl) (by kernel_rfl)) (by kernel_rfl)))) (sw_or1 (st_not (st_val (se_callB (cr_allD rfl) T.m_all (by kernel_rfl) (sa_consU (se_lc (own := [(Str.ofString "step", 2)]) rfl sc_is_delta.nd (si_any (sv_l 1 (by kernel_rfl) (by kernel_rfl))) (blkOk_by (by kernel_rfl)) (by decide) (fun _ _ _ _ _ => (sg_name (i := 2) sc_is_delta.nd (by kernel_rfl) (.inl (by kernel_rfl)) (.inr (by kernel_rfl)))) (fun _ _ _ _ _ => sts_nil) (fun _ _ _ _ _ => (se_call (ok_is_piece T) (hr.mono (by decide)) T.g_is_piece T.F_is_piece.kp T.b_is_piece (sa_consF (sv_l 2 (by kernel_rfl) (by kernel_rfl)) sa_nilF)))) sa_nilU)))))).pt (ss_one (ss_ret se_bl)) ss_nil)
    (ss_one (ss_ret (se_callB (cr_allD rfl) T.m_all (by kernel_rfl) (sa_consU (se_lc (own := [(Str.ofString "step", 2)]) rfl sc_is_delta.nd (si_any (sv_l 1 (by kernel_rfl) (by kernel_rfl))) (blkOk_by (by kernel_rfl)) (by decide) (fun _ _ _ _ _ => (sg_name (i := 2) sc_is_delta.nd (by kernel_rfl) (.inl (by kernel_rfl)) (.inr (by kernel_rfl)))) (fun _ _ _ _ _ => (sts_one (st_cmp (op_eqE hr.units) (se_ix (sv_l 2 (by kernel_rfl) (by kernel_rfl)) se_int (fun _ _ => rfl)) se_str (nomark _)))) (fun _ _ _ _ _ => (se_cmp op_leD (se_op op_addD (se_ix (sv_l 2 (by kernel_rfl) (by kernel_rfl)) se_int (fun _ _ => rfl)) (se_ix (sv_l 2 (by kernel_rfl) (by kernel_rfl)) se_int (fun _ _ => rfl))) (se_callB cr_lenD T.m_len PySem.boot_len (sa_consU (sv_c 0 (by kernel_rfl) (by kernel_rfl)) sa_nilU)) (nomark _)))) sa_nilU)))))
theorem ok_made_by (T : Tx K mg) : FnOk P w K mg base CX0 1 T.a_made_by T.d_made_by ["step", "old"] (spD K cl 2 m_made_by) :=
  fn_ok T.F_made_by sc_made_by fun cdv A outer s H E hr =>
    (ss_one (ss_ret (se_ifExp (st_cmp (op_eqE hr.units) (se_ix (sv_l 0 (by kernel_rfl) (by kernel_rfl)) se_int (fun _ _ => rfl)) se_str (nomark _)) (se_ix (sv_l 0 (by kernel_rfl) (by kernel_rfl)) se_int (fun _ _ => rfl)) (se_slice (sv_l 1 (by kernel_rfl) (by kernel_rfl)) (sp_some (se_ix (sv_l 0 (by kernel_rfl) (by kernel_rfl)) se_int (fun _ _ => rfl))) (sp_some (se_op op_addD (se_ix (sv_l 0 (by kernel_rfl) (by kernel_rfl)) se_int (fun _ _ => rfl)) (se_ix (sv_l 0 (by kernel_rfl) (by kernel_rfl)) se_int (fun _ _ => rfl))))))))
theorem ok_applied_delta (T : Tx K mg) : FnOk P w K mg base CX0 5 T.a_applied_delta T.d_applied_delta ["delta", "old"] (spD K cl 2 m_applied_delta) :=
  fn_ok T.F_applied_delta sc_applied_delta fun cdv A outer s H E hr =>
    (ss_cons (ss_if (st_not (st_val (se_call (ok_is_delta T) (hr.mono (by decide)) T.g_is_delta T.F_is_delta.kp T.b_is_delta (sa_consF (sv_l 1 (by kernel_rfl) (by kernel_rfl)) (sa_consF (sv_l 0 (by kernel_rfl) (by kernel_rfl)) sa_nilF))))) (ss_one ss_never) ss_nil)
    (ss_cons (ss_set (i := 2) sc_applied_delta.nd (by kernel_rfl) (.inl (by kernel_rfl)) (se_lst sa_nilF) (hf := (.inl (by kernel_rfl))))
    (ss_cons (ss_for PassesOwn.never rfl (si_any (sv_l 0 (by kernel_rfl) (by kernel_rfl))) (sg_name (i := 3) sc_applied_delta.nd (by kernel_rfl) (.inl (by kernel_rfl)) (.inl (by kernel_rfl))) (ss_one (ss_expr (se_mut PySem.F.slot_list_extend PySem.F.type_list_extend mt_extendD (sv_l 2 (by kernel_rfl) (by kernel_rfl)) (sa_consF (se_call (ok_made_by T) (hr.mono (by decide)) T.g_made_by T.F_made_by.kp T.b_made_by (sa_consF (sv_l 3 (by kernel_rfl) (by kernel_rfl)) (sa_consF (sv_l 1 (by kernel_rfl) (by kernel_rfl)) sa_nilF))) sa_nilF)))))
    (ss_one (ss_ret (se_callTy cr_tupleD T.m_tuple (by kernel_rfl) (sa_consU (sv_l 2 (by kernel_rfl) (by kernel_rfl)) sa_nilU)))))))
theorem ok_delta_cost (T : Tx K mg) : FnOk P w K mg base CX0 1 T.a_delta_cost T.d_delta_cost ["delta", "costs"] (spD K cl 2 m_delta_cost) :=
  fn_ok T.F_delta_cost sc_delta_cost fun cdv A outer s H E hr =>
    (ss_one (ss_ret (se_callB (cr_sumD rfl) T.m_sum (by kernel_rfl) (sa_consU (se_lc (own := [(Str.ofString "step", 2)]) rfl sc_delta_cost.nd (si_any (sv_l 0 (by kernel_rfl) (by kernel_rfl))) (blkOk_by (by kernel_rfl)) (by decide) (fun _ _ _ _ _ => (sg_name (i := 2) sc_delta_cost.nd (by kernel_rfl) (.inl (by kernel_rfl)) (.inr (by kernel_rfl)))) (fun _ _ _ _ _ => sts_nil) (fun _ _ _ _ _ => (se_ifExp (st_cmp (op_eqE hr.units) (se_ix (sv_l 2 (by kernel_rfl) (by kernel_rfl)) se_int (fun _ _ => rfl)) se_str (nomark _)) (se_ix (sv_c 1 (by kernel_rfl) (by kernel_rfl)) se_int (fun _ _ => rfl)) (se_op op_addD (se_ix (sv_c 1 (by kernel_rfl) (by kernel_rfl)) se_int (fun _ _ => rfl)) (se_op op_mulD (se_ix (sv_c 1 (by kernel_rfl) (by kernel_rfl)) se_int (fun _ _ => rfl)) (se_callB cr_lenD T.m_len PySem.boot_len (sa_consU (se_ix (sv_l 2 (by kernel_rfl) (by kernel_rfl)) se_int (fun _ _ => rfl)) sa_nilU))))))) sa_nilU))))
theorem ok_length_of (T : Tx K mg) : FnOk P w K mg base CX0 1 T.a_length_of T.d_length_of ["step"] (spD K cl 1 m_length_of) :=
  fn_ok T.F_length_of sc_length_of fun cdv A outer s H E hr =>
    (ss_one (ss_ret (se_ifExp (st_cmp (op_eqE hr.units) (se_ix (sv_l 0 (by kernel_rfl) (by kernel_rfl)) se_int (fun _ _ => rfl)) se_str (nomark _)) (se_ix (sv_l 0 (by kernel_rfl) (by kernel_rfl)) se_int (fun _ _ => rfl)) (se_callB cr_lenD T.m_len PySem.boot_len (sa_consU (se_ix (sv_l 0 (by kernel_rfl) (by kernel_rfl)) se_int (fun _ _ => rfl)) sa_nilU)))))
theorem ok_part_of (T : Tx K mg) : FnOk P w K mg base CX0 1 T.a_part_of T.d_part_of ["step", "begin", "end"] (spD K cl 3 m_part_of) :=
  fn_ok T.F_part_of sc_part_of fun cdv A outer s H E hr =>
    (ss_one (ss_ret (se_ifExp (st_cmp (op_eqE hr.units) (se_ix (sv_l 0 (by kernel_rfl) (by kernel_rfl)) se_int (fun _ _ => rfl)) se_str (nomark _)) (se_tup (sa_consF se_str (sa_consF (se_slice (se_ix (sv_l 0 (by kernel_rfl) (by kernel_rfl)) se_int (fun _ _ => rfl)) (sp_some (sv_l 1 (by kernel_rfl) (by kernel_rfl))) (sp_some (sv_l 2 (by kernel_rfl) (by kernel_rfl)))) sa_nilF))) (se_tup (sa_consF se_str (sa_consF (se_op op_addD (se_ix (sv_l 0 (by kernel_rfl) (by kernel_rfl)) se_int (fun _ _ => rfl)) (sv_l 1 (by kernel_rfl) (by kernel_rfl))) (sa_consF (se_op op_subD (sv_l 2 (by kernel_rfl) (by kernel_rfl)) (sv_l 1 (by kernel_rfl) (by kernel_rfl))) sa_nilF)))))))
theorem ok_parts_between (T : Tx K mg) : FnOk P w K mg base CX0 2 T.a_parts_between T.d_parts_between ["delta", "begin", "end"] (spD K cl 3 m_parts_between) :=
  fn_ok T.F_parts_between sc_parts_between fun cdv A outer s H E hr =>
    (ss_cons (ss_par (i := 3) (j := 4) rfl sc_parts_between.nd (by kernel_rfl) (by kernel_rfl) (by decide) (by kernel_rfl) (by kernel_rfl) (sa_consU (se_unbo (se_lst sa_nilF)) (sa_consU (se_unbo se_int) sa_nilU)) (by kernel_rfl))
    (ss_cons (ss_for PassesOwn.never rfl (si_any (sv_l 0 (by kernel_rfl) (by kernel_rfl))) (sg_name (i := 5) sc_parts_between.nd (by kernel_rfl) (.inl (by kernel_rfl)) (.inl (by kernel_rfl))) (ss_cons (ss_par (i := 6) (j := 7) rfl sc_parts_between.nd (by kernel_rfl) (by kernel_rfl) (by decide) (by kernel_rfl) (by kernel_rfl) (sa_consU (se_unbo (se_callB (cr_maxD rfl) T.m_max (by kernel_rfl) (sa_consU (se_op op_subD (sv_l 1 (by kernel_rfl) (by kernel_rfl)) (sv_l 4 (by kernel_rfl) (by kernel_rfl))) (sa_consU se_int sa_nilU)))) (sa_consU (se_unbo (se_callB (cr_minD rfl) T.m_min (by kernel_rfl) (sa_consU (se_op op_subD (sv_l 2 (by kernel_rfl) (by kernel_rfl)) (sv_l 4 (by kernel_rfl) (by kernel_rfl))) (sa_consU (se_call (ok_length_of T) (hr.mono (by decide)) T.g_length_of T.F_length_of.kp T.b_length_of (sa_consF (sv_l 5 (by kernel_rfl) (by kernel_rfl)) sa_nilF)) sa_nilU)))) sa_nilU)) (by kernel_rfl))
    (ss_cons (ss_if (st_cmp op_ltD (sv_l 6 (by kernel_rfl) (by kernel_rfl)) (sv_l 7 (by kernel_rfl) (by kernel_rfl)) (nomark _)) (ss_one (ss_expr (se_mut PySem.F.slot_list_append PySem.F.type_list_append mt_appendD (sv_l 3 (by kernel_rfl) (by kernel_rfl)) (sa_consF (se_call (ok_part_of T) (hr.mono (by decide)) T.g_part_of T.F_part_of.kp T.b_part_of (sa_consF (sv_l 5 (by kernel_rfl) (by kernel_rfl)) (sa_consF (sv_l 6 (by kernel_rfl) (by kernel_rfl)) (sa_consF (sv_l 7 (by kernel_rfl) (by kernel_rfl)) sa_nilF)))) sa_nilF)))) ss_nil)
    (ss_one (ss_aug (i := 4) sc_parts_between.nd (by kernel_rfl) (.inl (by kernel_rfl)) (se_call (ok_length_of T) (hr.mono (by decide)) T.g_length_of T.F_length_of.kp T.b_length_of (sa_consF (sv_l 5 (by kernel_rfl) (by kernel_rfl)) sa_nilF)) op_iaddD (.inl (by kernel_rfl)))))))
    (ss_one (ss_ret (sv_l 3 (by kernel_rfl) (by kernel_rfl))))))
theorem ok_with_step (T : Tx K mg) : FnOk P w K mg base CX0 1 T.a_with_step T.d_with_step ["steps", "step"] (spD K cl 2 m_with_step) :=
  fn_ok T.F_with_step sc_with_step fun cdv A outer s H E hr =>
    (ss_cons (ss_set (i := 2) sc_with_step.nd (by kernel_rfl) (.inl (by kernel_rfl)) (se_ifExp (st_cmp (op_neE hr.units) (sv_l 0 (by kernel_rfl) (by kernel_rfl)) (se_lst sa_nilF) (nomark _)) (se_ix (sv_l 0 (by kernel_rfl) (by kernel_rfl)) (se_un un_negD se_int) (fun _ _ => rfl)) (se_tup (sa_consF se_str sa_nilF))) (hf := (.inl (by kernel_rfl))))
    (ss_cons (ss_if (st_and (st_cmp (op_eqE hr.units) (se_ix (sv_l 2 (by kernel_rfl) (by kernel_rfl)) se_int (fun _ _ => rfl)) se_str (nomark _)) (sw_and1 (st_cmp (op_eqE hr.units) (se_ix (sv_l 1 (by kernel_rfl) (by kernel_rfl)) se_int (fun _ _ => rfl)) se_str (nomark _)))).pt (ss_one (ss_ret (se_op op_addD (se_slice (sv_l 0 (by kernel_rfl) (by kernel_rfl)) sp_none (sp_some (se_un un_negD se_int))) (se_lst (sa_consF (se_tup (sa_consF se_str (sa_consF (se_op op_addD (se_ix (sv_l 2 (by kernel_rfl) (by kernel_rfl)) se_int (fun _ _ => rfl)) (se_ix (sv_l 1 (by kernel_rfl) (by kernel_rfl)) se_int (fun _ _ => rfl))) sa_nilF))) sa_nilF))))) ss_nil)
    (ss_cons (ss_if (st_and (st_cmp (op_eqE hr.units) (se_ix (sv_l 2 (by kernel_rfl) (by kernel_rfl)) se_int (fun _ _ => rfl)) se_str (nomark _)) (st_and (st_cmp (op_eqE hr.units) (se_ix (sv_l 1 (by kernel_rfl) (by kernel_rfl)) se_int (fun _ _ => rfl)) se_str (nomark _)) (sw_and1 (st_cmp (op_eqE hr.units) (se_op op_addD (se_ix (sv_l 2 (by kernel_rfl) (by kernel_rfl)) se_int (fun _ _ => rfl)) (se_ix (sv_l 2 (by kernel_rfl) (by kernel_rfl)) se_int (fun _ _ => rfl))) (se_ix (sv_l 1 (by kernel_rfl) (by kernel_rfl)) se_int (fun _ _ => rfl)) (nomark _))))).pt (ss_one (ss_ret (se_op op_addD (se_slice (sv_l 0 (by kernel_rfl) (by kernel_rfl)) sp_none (sp_some (se_un un_negD se_int))) (se_lst (sa_consF (se_tup (sa_consF se_str (sa_consF (se_ix (sv_l 2 (by kernel_rfl) (by kernel_rfl)) se_int (fun _ _ => rfl)) (sa_consF (se_op op_addD (se_ix (sv_l 2 (by kernel_rfl) (by kernel_rfl)) se_int (fun _ _ => rfl)) (se_ix (sv_l 1 (by kernel_rfl) (by kernel_rfl)) se_int (fun _ _ => rfl))) sa_nilF)))) sa_nilF))))) ss_nil)
    (ss_one (ss_ret (se_op op_addD (sv_l 0 (by kernel_rfl) (by kernel_rfl)) (se_lst (sa_consF (sv_l 1 (by kernel_rfl) (by kernel_rfl)) sa_nilF))))))))
theorem ok_composed (T : Tx K mg) : FnOk P w K mg base CX0 6 T.a_composed T.d_composed ["one", "other", "old"] (spD K cl 3 m_composed) :=
  fn_ok T.F_composed sc_composed fun cdv A outer s H E hr =>
    (ss_cons (ss_expr (se_call (ok_applied_delta T) (hr.mono (by decide)) T.g_applied_delta T.F_applied_delta.kp T.b_applied_delta (sa_consF (sv_l 1 (by kernel_rfl) (by kernel_rfl)) (sa_consF (se_call (ok_applied_delta T) (hr.mono (by decide)) T.g_applied_delta T.F_applied_delta.kp T.b_applied_delta (sa_consF (sv_l 0 (by kernel_rfl) (by kernel_rfl)) (sa_consF (sv_l 2 (by kernel_rfl) (by kernel_rfl)) sa_nilF))) sa_nilF))))
    (ss_cons (ss_set (i := 3) sc_composed.nd (by kernel_rfl) (.inl (by kernel_rfl)) (se_lst sa_nilF) (hf := (.inl (by kernel_rfl))))
    (ss_cons (ss_for PassesOwn.never rfl (si_any (sv_l 1 (by kernel_rfl) (by kernel_rfl))) (sg_name (i := 4) sc_composed.nd (by kernel_rfl) (.inl (by kernel_rfl)) (.inl (by kernel_rfl))) (ss_cons (ss_set (i := 5) sc_composed.nd (by kernel_rfl) (.inl (by kernel_rfl)) (se_ifExp (st_cmp (op_eqE hr.units) (se_ix (sv_l 4 (by kernel_rfl) (by kernel_rfl)) se_int (fun _ _ => rfl)) se_str (nomark _)) (se_lst (sa_consF (sv_l 4 (by kernel_rfl) (by kernel_rfl)) sa_nilF)) (se_call (ok_parts_between T) (hr.mono (by decide)) T.g_parts_between T.F_parts_between.kp T.b_parts_between (sa_consF (sv_l 0 (by kernel_rfl) (by kernel_rfl)) (sa_consF (se_ix (sv_l 4 (by kernel_rfl) (by kernel_rfl)) se_int (fun _ _ => rfl)) (sa_consF (se_op op_addD (se_ix (sv_l 4 (by kernel_rfl) (by kernel_rfl)) se_int (fun _ _ => rfl)) (se_ix (sv_l 4 (by kernel_rfl) (by kernel_rfl)) se_int (fun _ _ => rfl))) sa_nilF))))) (hf := (.inl (by kernel_rfl))))
    (ss_one (ss_for PassesOwn.never rfl (si_any (sv_l 5 (by kernel_rfl) (by kernel_rfl))) (sg_name (i := 6) sc_composed.nd (by kernel_rfl) (.inl (by kernel_rfl)) (.inl (by kernel_rfl))) (ss_one (ss_set (i := 3) sc_composed.nd (by kernel_rfl) (.inl (by kernel_rfl)) (se_call (ok_with_step T) (hr.mono (by decide)) T.g_with_step T.F_with_step.kp T.b_with_step (sa_consF (sv_l 3 (by kernel_rfl) (by kernel_rfl)) (sa_consF (sv_l 6 (by kernel_rfl) (by kernel_rfl)) sa_nilF))) (hf := (.inl (by kernel_rfl)))))))))
    (ss_one (ss_ret (se_callTy cr_tupleD T.m_tuple (by kernel_rfl) (sa_consU (sv_l 3 (by kernel_rfl) (by kernel_rfl)) sa_nilU)))))))
theorem ok_step_row (T : Tx K mg) : FnOk P w K mg base CX0 2 T.a_step_row T.d_step_row ["step"] (spD K cl 1 m_step_row) :=
  fn_ok T.F_step_row sc_step_row fun cdv A outer s H E hr =>
    (ss_one (ss_ret (se_ifExp (st_cmp (op_eqE hr.units) (se_ix (sv_l 0 (by kernel_rfl) (by kernel_rfl)) se_int (fun _ _ => rfl)) se_str (nomark _)) (se_op op_addD se_str (se_call (ok_hex_text T) (hr.mono (by decide)) T.g_hex_text T.F_hex_text.kp T.b_hex_text (sa_consF (se_ix (sv_l 0 (by kernel_rfl) (by kernel_rfl)) se_int (fun _ _ => rfl)) sa_nilF))) (se_op op_addD (se_op op_addD (se_op op_addD se_str (se_callTy cr_strD T.m_str (by kernel_rfl) (sa_consU (se_ix (sv_l 0 (by kernel_rfl) (by kernel_rfl)) se_int (fun _ _ => rfl)) sa_nilU))) se_str) (se_callTy cr_strD T.m_str (by kernel_rfl) (sa_consU (se_ix (sv_l 0 (by kernel_rfl) (by kernel_rfl)) se_int (fun _ _ => rfl)) sa_nilU))))))
theorem ok_delta_text (T : Tx K mg) : FnOk P w K mg base CX0 3 T.a_delta_text T.d_delta_text ["delta"] (spD K cl 1 m_delta_text) :=
  fn_ok T.F_delta_text sc_delta_text fun cdv A outer s H E hr =>
    (ss_one (ss_ret (se_meth PySem.F.plainAttrs_str PySem.F.slot_str_join PySem.F.type_str_join mt_joinD se_str (sa_consU (se_lc (own := [(Str.ofString "step", 1)]) rfl sc_delta_text.nd (si_any (sv_l 0 (by kernel_rfl) (by kernel_rfl))) (blkOk_by (by kernel_rfl)) (by decide) (fun _ _ _ _ _ => (sg_name (i := 1) sc_delta_text.nd (by kernel_rfl) (.inl (by kernel_rfl)) (.inr (by kernel_rfl)))) (fun _ _ _ _ _ => sts_nil) (fun _ _ _ _ _ => (se_op op_addD (se_call (ok_step_row T) (hr.mono (by decide)) T.g_step_row T.F_step_row.kp T.b_step_row (sa_consF (sv_l 1 (by kernel_rfl) (by kernel_rfl)) sa_nilF)) se_str))) sa_nilU))))
theorem ok_read_step (T : Tx K mg) : FnOk P w K mg base CX0 4 T.a_read_step T.d_read_step ["row"] (spD K cl 1 m_read_step) :=
  fn_ok T.F_read_step sc_read_step fun cdv A outer s H E hr =>
    (ss_cons (ss_set (i := 1) sc_read_step.nd (by kernel_rfl) (.inl (by kernel_rfl)) (se_meth PySem.F.plainAttrs_str PySem.F.slot_str_split PySem.F.type_str_split mt_splitD (sv_l 0 (by kernel_rfl) (by kernel_rfl)) (sa_consU se_str sa_nilU)) (hf := (.inl (by kernel_rfl))))
    (ss_cons (ss_if (st_and (st_cmp (op_eqE hr.units) (se_ix (sv_l 1 (by kernel_rfl) (by kernel_rfl)) se_int (fun _ _ => rfl)) se_str (nomark _)) (sw_and1 (st_cmp (op_eqE hr.units) (se_callB cr_lenD T.m_len PySem.boot_len (sa_consU (sv_l 1 (by kernel_rfl) (by kernel_rfl)) sa_nilU)) se_int (nomark _)))).pt (ss_one (ss_set (i := 2) sc_read_step.nd (by kernel_rfl) (.inl (by kernel_rfl)) (se_tup (sa_consF se_str (sa_consF (se_call (ok_read_hex T) (hr.mono (by decide)) T.g_read_hex T.F_read_hex.kp T.b_read_hex (sa_consF (se_ix (sv_l 1 (by kernel_rfl) (by kernel_rfl)) se_int (fun _ _ => rfl)) sa_nilF)) sa_nilF))) (hf := (.inl (by kernel_rfl))))) (ss_one (ss_if (st_and (st_cmp (op_eqE hr.units) (se_ix (sv_l 1 (by kernel_rfl) (by kernel_rfl)) se_int (fun _ _ => rfl)) se_str (nomark _)) (st_and (st_cmp (op_eqE hr.units) (se_callB cr_lenD T.m_len PySem.boot_len (sa_consU (sv_l 1 (by kernel_rfl) (by kernel_rfl)) sa_nilU)) se_int (nomark _)) (st_and (st_val (se_call (ok_is_number_text T) (hr.mono (by decide)) T.g_is_number_text T.F_is_number_text.kp T.b_is_number_text (sa_consF (se_ix (sv_l 1 (by kernel_rfl) (by kernel_rfl)) se_int (fun _ _ => rfl)) sa_nilF))) (sw_and1 (st_val (se_call (ok_is_number_text T) (hr.mono (by decide)) T.g_is_number_text T.F_is_number_text.kp T.b_is_number_text (sa_consF (se_ix (sv_l 1 (by kernel_rfl) (by kernel_rfl)) se_int (fun _ _ => rfl)) sa_nilF))))))).pt (ss_one (ss_set (i := 2) sc_read_step.nd (by kernel_rfl) (.inl (by kernel_rfl)) (se_tup (sa_consF se_str (sa_consF (se_callTy cr_intD T.m_int (by kernel_rfl) (sa_consU (se_ix (sv_l 1 (by kernel_rfl) (by kernel_rfl)) se_int (fun _ _ => rfl)) sa_nilU)) (sa_consF (se_callTy cr_intD T.m_int (by kernel_rfl) (sa_consU (se_ix (sv_l 1 (by kernel_rfl) (by kernel_rfl)) se_int (fun _ _ => rfl)) sa_nilU)) sa_nilF)))) (hf := (.inl (by kernel_rfl))))) (ss_one (ss_ret se_non)))))
    (ss_one (ss_ret (se_ifExp (st_val (se_call (ok_is_piece T) (hr.mono (by decide)) T.g_is_piece T.F_is_piece.kp T.b_is_piece (sa_consF (sv_l 2 (by kernel_rfl) (by kernel_rfl)) sa_nilF))) (sv_l 2 (by kernel_rfl) (by kernel_rfl)) se_non)))))
theorem ok_read_delta (T : Tx K mg) : FnOk P w K mg base CX0 5 T.a_read_delta T.d_read_delta ["text"] (spD K cl 1 m_read_delta) :=
  fn_ok T.F_read_delta sc_read_delta fun cdv A outer s H E hr =>
    (ss_cons (ss_set (i := 1) sc_read_delta.nd (by kernel_rfl) (.inl (by kernel_rfl)) (se_meth PySem.F.plainAttrs_str PySem.F.slot_str_split PySem.F.type_str_split mt_splitD (sv_l 0 (by kernel_rfl) (by kernel_rfl)) (sa_consU se_str sa_nilU)) (hf := (.inl (by kernel_rfl))))
    (ss_cons (ss_if (st_cmp (op_neE hr.units) (se_ix (sv_l 1 (by kernel_rfl) (by kernel_rfl)) (se_un un_negD se_int) (fun _ _ => rfl)) se_str (nomark _)) (ss_one ss_never) ss_nil)
    (ss_cons (ss_setLc (i := 2) (own := [(Str.ofString "row", 3)]) rfl sc_read_delta.nd (by kernel_rfl) (by kernel_rfl) (sw_true (by kernel_rfl) (by kernel_rfl) (by kernel_rfl) (by kernel_rfl)) (si_any (se_slice (sv_l 1 (by kernel_rfl) (by kernel_rfl)) sp_none (sp_some (se_un un_negD se_int)))) (blkOk_by (by kernel_rfl)) (by decide) (fun _ _ _ _ _ => (sg_name (i := 3) sc_read_delta.nd (by kernel_rfl) (.inl (by kernel_rfl)) (.inr (by kernel_rfl)))) (fun _ _ _ _ _ => sts_nil) (fun _ _ _ _ _ => (se_call (ok_read_step T) (hr.mono (by decide)) T.g_read_step T.F_read_step.kp T.b_read_step (sa_consF (sv_l 3 (by kernel_rfl) (by kernel_rfl)) sa_nilF))))
    (ss_cons (ss_if (st_cmp (op_inE (hu65 hr)) se_non (sv_l 2 (by kernel_rfl) (by kernel_rfl)) (by kernel_rfl)) (ss_one ss_never) ss_nil)
    (ss_one (ss_ret (se_callTy cr_tupleD T.m_tuple (by kernel_rfl) (sa_consU (sv_l 2 (by kernel_rfl) (by kernel_rfl)) sa_nilU))))))))
theorem ok__law_draws (T : Tx K mg) : FnOk P w K mg base CX0 1 T.a__law_draws T.d__law_draws ["script", "many"] (spD K cl 2 m__law_draws) :=
  fn_ok T.F__law_draws sc__law_draws fun cdv A outer s H E hr =>
    (ss_cons (ss_set (i := 2) sc__law_draws.nd (by kernel_rfl) (.inl (by kernel_rfl)) (se_lst sa_nilF) (hf := (.inl (by kernel_rfl))))
    (ss_cons (ss_set (i := 3) sc__law_draws.nd (by kernel_rfl) (.inl (by kernel_rfl)) se_int (hf := (.inl (by kernel_rfl))))
    (ss_cons (ss_for PassesOwn.never rfl (si_range1 T.m_range (sa_consU (se_callB cr_lenD T.m_len PySem.boot_len (sa_consU (sv_l 0 (by kernel_rfl) (by kernel_rfl)) sa_nilU)) sa_nilU) (fun _ _ _ h => lenU1 h)) (sg_name (i := 4) sc__law_draws.nd (by kernel_rfl) (.inl (by kernel_rfl)) (.inl (by kernel_rfl))) (ss_cons (ss_set (i := 5) sc__law_draws.nd (by kernel_rfl) (.inl (by kernel_rfl)) (se_callB cr_absD T.m_abs (by kernel_rfl) (sa_consU (se_callTy cr_intD T.m_int (by kernel_rfl) (sa_consU (se_ix (sv_l 0 (by kernel_rfl) (by kernel_rfl)) (sv_l 4 (by kernel_rfl) (by kernel_rfl)) (fun _ _ => rfl)) sa_nilU)) sa_nilU)) (hf := (.inl (by kernel_rfl))))
    (ss_cons (ss_set (i := 3) sc__law_draws.nd (by kernel_rfl) (.inl (by kernel_rfl)) (se_op op_modD (se_callTy cr_intD T.m_int (by kernel_rfl) (sa_consU (se_op op_addD (se_op op_addD (se_op op_mulD (sv_l 3 (by kernel_rfl) (by kernel_rfl)) se_int) (se_op op_modD (sv_l 5 (by kernel_rfl) (by kernel_rfl)) se_int)) (sv_l 4 (by kernel_rfl) (by kernel_rfl))) sa_nilU)) se_int) (hf := (.inl (by kernel_rfl))))
    (ss_cons (ss_set (i := 6) sc__law_draws.nd (by kernel_rfl) (.inl (by kernel_rfl)) se_int (hf := (.inl (by kernel_rfl))))
    (ss_cons (ss_if (st_cmp op_geD (sv_l 5 (by kernel_rfl) (by kernel_rfl)) (se_op op_powD se_int se_int) (nomark _)) (ss_one (ss_set (i := 6) sc__law_draws.nd (by kernel_rfl) (.inl (by kernel_rfl)) (sv_l 5 (by kernel_rfl) (by kernel_rfl)) (hf := (.inl (by kernel_rfl))))) (ss_cons (ss_expr (se_mut PySem.F.slot_list_append PySem.F.type_list_append mt_appendD (sv_l 2 (by kernel_rfl) (by kernel_rfl)) (sa_consF (se_op op_modD (se_callTy cr_intD T.m_int (by kernel_rfl) (sa_consU (sv_l 5 (by kernel_rfl) (by kernel_rfl)) sa_nilU)) se_int) sa_nilF)))
    (ss_one (ss_expr (se_mut PySem.F.slot_list_append PySem.F.type_list_append mt_appendD (sv_l 2 (by kernel_rfl) (by kernel_rfl)) (sa_consF (se_op op_modD (se_op op_modD (se_callTy cr_intD T.m_int (by kernel_rfl) (sa_consU (se_op op_addD (se_op op_mulD (sv_l 3 (by kernel_rfl) (by kernel_rfl)) se_int) se_int) sa_nilU)) se_int) se_int) sa_nilF))))))
    (ss_one (ss_for PassesOwn.never rfl (si_range1 T.m_range (sa_consU se_int sa_nilU) (fun _ _ _ h => lenU1 h)) (sg_name (i := 7) sc__law_draws.nd (by kernel_rfl) (.inl (by kernel_rfl)) (.inl (by kernel_rfl))) (ss_one (ss_if (st_cmp op_gtD (sv_l 6 (by kernel_rfl) (by kernel_rfl)) se_int (nomark _)) (ss_cons (ss_expr (se_mut PySem.F.slot_list_append PySem.F.type_list_append mt_appendD (sv_l 2 (by kernel_rfl) (by kernel_rfl)) (sa_consF (se_op op_modD (se_callTy cr_intD T.m_int (by kernel_rfl) (sa_consU (sv_l 6 (by kernel_rfl) (by kernel_rfl)) sa_nilU)) se_int) sa_nilF)))
    (ss_one (ss_set (i := 6) sc__law_draws.nd (by kernel_rfl) (.inl (by kernel_rfl)) (se_op op_fdivD (sv_l 6 (by kernel_rfl) (by kernel_rfl)) se_int) (hf := (.inl (by kernel_rfl)))))) ss_nil)))))))))
    (ss_cons (ss_for PassesOwn.never rfl (si_range1 T.m_range (sa_consU (sv_l 1 (by kernel_rfl) (by kernel_rfl)) sa_nilU) (fun _ _ _ h => lenU1 h)) (sg_name (i := 4) sc__law_draws.nd (by kernel_rfl) (.inl (by kernel_rfl)) (.inl (by kernel_rfl))) (ss_cons (ss_set (i := 3) sc__law_draws.nd (by kernel_rfl) (.inl (by kernel_rfl)) (se_op op_modD (se_callTy cr_intD T.m_int (by kernel_rfl) (sa_consU (se_op op_addD (se_op op_addD (se_op op_mulD (sv_l 3 (by kernel_rfl) (by kernel_rfl)) se_int) (sv_l 4 (by kernel_rfl) (by kernel_rfl))) se_int) sa_nilU)) se_int) (hf := (.inl (by kernel_rfl))))
    (ss_one (ss_expr (se_mut PySem.F.slot_list_append PySem.F.type_list_append mt_appendD (sv_l 2 (by kernel_rfl) (by kernel_rfl)) (sa_consF (se_op op_modD (se_callTy cr_intD T.m_int (by kernel_rfl) (sa_consU (sv_l 3 (by kernel_rfl) (by kernel_rfl)) sa_nilU)) se_int) sa_nilF))))))
    (ss_one (ss_ret (se_slice (sv_l 2 (by kernel_rfl) (by kernel_rfl)) sp_none (sp_some (sv_l 1 (by kernel_rfl) (by kernel_rfl))))))))))
theorem ok__law_next (T : Tx K mg) : FnOk P w K mg base CX0 1 T.a__law_next T.d__law_next ["w", "many"] (spD K cl 2 m__law_next) :=
  fn_ok T.F__law_next sc__law_next fun cdv A outer s H E hr =>
    (ss_cons (ss_augCell (hu_of hr) (sv_l 0 (by kernel_rfl) (by kernel_rfl)) se_str se_int op_iaddD)
    (ss_cons (ss_if (st_cmp op_gtD (se_dget (hu_of hr) (sv_l 0 (by kernel_rfl) (by kernel_rfl)) se_str (fun _ _ => rfl)) (se_callB cr_lenD T.m_len PySem.boot_len (sa_consU (se_dget (hu_of hr) (sv_l 0 (by kernel_rfl) (by kernel_rfl)) se_str (fun _ _ => rfl)) sa_nilU)) (nomark _)) (ss_one (ss_ret se_int)) ss_nil)
    (ss_one (ss_ret (se_op op_modD (se_callTy cr_intD T.m_int (by kernel_rfl) (sa_consU (se_ix (se_dget (hu_of hr) (sv_l 0 (by kernel_rfl) (by kernel_rfl)) se_str (fun _ _ => rfl)) (se_op op_subD (se_dget (hu_of hr) (sv_l 0 (by kernel_rfl) (by kernel_rfl)) se_str (fun _ _ => rfl)) se_int) (fun _ _ => rfl)) sa_nilU)) (sv_l 1 (by kernel_rfl) (by kernel_rfl)))))))
theorem ok__law_delta (T : Tx K mg) : FnOk P w K mg base CX0 2 T.a__law_delta T.d__law_delta ["w", "many"] (spD K cl 2 m__law_delta) :=
  fn_ok T.F__law_delta sc__law_delta fun cdv A outer s H E hr =>
    (ss_cons (ss_par (i := 2) (j := 3) rfl sc__law_delta.nd (by kernel_rfl) (by kernel_rfl) (by decide) (by kernel_rfl) (by kernel_rfl) (sa_consU (se_unbo (se_lst sa_nilF)) (sa_consU (se_unbo se_int) sa_nilU)) (by kernel_rfl))
    (ss_cons (ss_for PassesOwn.never rfl (si_range1 T.m_range (sa_consU (se_call (ok__law_next T) (hr.mono (by decide)) T.g__law_next T.F__law_next.kp T.b__law_next (sa_consF (sv_c 0 (by kernel_rfl) (by kernel_rfl)) (sa_consF se_int sa_nilF))) sa_nilU) (fun _ _ _ h => lenU1 h)) (sg_name (i := 4) sc__law_delta.nd (by kernel_rfl) (.inl (by kernel_rfl)) (.inl (by kernel_rfl))) (ss_cons (ss_set (i := 5) sc__law_delta.nd (by kernel_rfl) (.inl (by kernel_rfl)) (se_call (ok__law_next T) (hr.mono (by decide)) T.g__law_next T.F__law_next.kp T.b__law_next (sa_consF (sv_c 0 (by kernel_rfl) (by kernel_rfl)) (sa_consF se_int sa_nilF))) (hf := (.inl (by kernel_rfl))))
    (ss_one (ss_if (st_or (st_cmp (op_eqE hr.units) (sv_l 5 (by kernel_rfl) (by kernel_rfl)) se_int (nomark _)) (sw_or1 (st_cmp (op_eqE hr.units) (sv_l 1 (by kernel_rfl) (by kernel_rfl)) se_int (nomark _)))).pt (ss_one (ss_expr (se_mut PySem.F.slot_list_append PySem.F.type_list_append mt_appendD (sv_l 2 (by kernel_rfl) (by kernel_rfl)) (sa_consF (se_tup (sa_consF se_str (sa_consF (se_callTy cr_tupleD T.m_tuple (by kernel_rfl) (sa_consU (se_lc (own := [(Str.ofString "j", 8)]) rfl sc__law_delta.nd (si_range1 T.m_range (sa_consU (se_op op_addD se_int (se_call (ok__law_next T) (hr.mono (by decide)) T.g__law_next T.F__law_next.kp T.b__law_next (sa_consF (sv_c 0 (by kernel_rfl) (by kernel_rfl)) (sa_consF se_int sa_nilF)))) sa_nilU) (fun _ _ _ h => lenU1 h)) (blkOk_by (by kernel_rfl)) (by decide) (fun _ _ _ _ _ => (sg_name (i := 8) sc__law_delta.nd (by kernel_rfl) (.inl (by kernel_rfl)) (.inr (by kernel_rfl)))) (fun _ _ _ _ _ => sts_nil) (fun _ _ _ _ _ => (se_call (ok__law_next T) (hr.mono (by decide)) T.g__law_next T.F__law_next.kp T.b__law_next (sa_consF (sv_c 0 (by kernel_rfl) (by kernel_rfl)) (sa_consF se_int sa_nilF))))) sa_nilU)) sa_nilF))) sa_nilF)))) (ss_cons (ss_set (i := 6) sc__law_delta.nd (by kernel_rfl) (.inl (by kernel_rfl)) (se_ifExp (st_and (st_cmp (op_eqE hr.units) (sv_l 5 (by kernel_rfl) (by kernel_rfl)) se_int (nomark _)) (sw_and1 (st_cmp op_ltD (sv_l 3 (by kernel_rfl) (by kernel_rfl)) (sv_l 1 (by kernel_rfl) (by kernel_rfl)) (nomark _)))).pt (sv_l 3 (by kernel_rfl) (by kernel_rfl)) (se_call (ok__law_next T) (hr.mono (by decide)) T.g__law_next T.F__law_next.kp T.b__law_next (sa_consF (sv_c 0 (by kernel_rfl) (by kernel_rfl)) (sa_consF (sv_l 1 (by kernel_rfl) (by kernel_rfl)) sa_nilF)))) (hf := (.inl (by kernel_rfl))))
    (ss_cons (ss_set (i := 7) sc__law_delta.nd (by kernel_rfl) (.inl (by kernel_rfl)) (se_op op_addD se_int (se_call (ok__law_next T) (hr.mono (by decide)) T.g__law_next T.F__law_next.kp T.b__law_next (sa_consF (sv_c 0 (by kernel_rfl) (by kernel_rfl)) (sa_consF (se_op op_subD (sv_l 1 (by kernel_rfl) (by kernel_rfl)) (sv_l 6 (by kernel_rfl) (by kernel_rfl))) sa_nilF)))) (hf := (.inl (by kernel_rfl))))
    (ss_cons (ss_expr (se_mut PySem.F.slot_list_append PySem.F.type_list_append mt_appendD (sv_l 2 (by kernel_rfl) (by kernel_rfl)) (sa_consF (se_tup (sa_consF se_str (sa_consF (sv_l 6 (by kernel_rfl) (by kernel_rfl)) (sa_consF (sv_l 7 (by kernel_rfl) (by kernel_rfl)) sa_nilF)))) sa_nilF)))
    (ss_one (ss_set (i := 3) sc__law_delta.nd (by kernel_rfl) (.inl (by kernel_rfl)) (se_op op_addD (sv_l 6 (by kernel_rfl) (by kernel_rfl)) (sv_l 7 (by kernel_rfl) (by kernel_rfl))) (hf := (.inl (by kernel_rfl))))))))))))
    (ss_one (ss_ret (se_callTy cr_tupleD T.m_tuple (by kernel_rfl) (sa_consU (sv_l 2 (by kernel_rfl) (by kernel_rfl)) sa_nilU))))))
theorem ok__law_from (T : Tx K mg) : FnOk P w K mg base CX0 1 T.a__law_from T.d__law_from ["delta", "rows"] (spD K cl 2 m__law_from) :=
  fn_ok T.F__law_from sc__law_from fun cdv A outer s H E hr =>
    (ss_cons (ss_set (i := 2) sc__law_from.nd (by kernel_rfl) (.inl (by kernel_rfl)) (se_lst sa_nilF) (hf := (.inl (by kernel_rfl))))
    (ss_cons (ss_for PassesOwn.never rfl (si_any (sv_l 0 (by kernel_rfl) (by kernel_rfl))) (sg_name (i := 3) sc__law_from.nd (by kernel_rfl) (.inl (by kernel_rfl)) (.inl (by kernel_rfl))) (ss_one (ss_set (i := 2) sc__law_from.nd (by kernel_rfl) (.inl (by kernel_rfl)) (se_op op_addD (sv_l 2 (by kernel_rfl) (by kernel_rfl)) (se_ifExp (st_cmp (op_eqE hr.units) (se_ix (sv_l 3 (by kernel_rfl) (by kernel_rfl)) se_int (fun _ _ => rfl)) se_str (nomark _)) (se_lc (own := [(Str.ofString "own", 4)]) rfl sc__law_from.nd (si_any (se_ix (sv_l 3 (by kernel_rfl) (by kernel_rfl)) se_int (fun _ _ => rfl))) (blkOk_by (by kernel_rfl)) (by decide) (fun _ _ _ _ _ => (sg_name (i := 4) sc__law_from.nd (by kernel_rfl) (.inl (by kernel_rfl)) (.inr (by kernel_rfl)))) (fun _ _ _ _ _ => sts_nil) (fun _ _ _ _ _ => (se_tup (sa_consF se_str (sa_consF (sv_l 4 (by kernel_rfl) (by kernel_rfl)) sa_nilF))))) (se_slice (sv_l 1 (by kernel_rfl) (by kernel_rfl)) (sp_some (se_ix (sv_l 3 (by kernel_rfl) (by kernel_rfl)) se_int (fun _ _ => rfl))) (sp_some (se_op op_addD (se_ix (sv_l 3 (by kernel_rfl) (by kernel_rfl)) se_int (fun _ _ => rfl)) (se_ix (sv_l 3 (by kernel_rfl) (by kernel_rfl)) se_int (fun _ _ => rfl))))))) (hf := (.inl (by kernel_rfl))))))
    (ss_one (ss_ret (sv_l 2 (by kernel_rfl) (by kernel_rfl))))))
theorem ok__law_steps (T : Tx K mg) : FnOk P w K mg base CX0 1 T.a__law_steps T.d__law_steps ["rows"] (spD K cl 1 m__law_steps) :=
  fn_ok T.F__law_steps sc__law_steps fun cdv A outer s H E hr =>
    (ss_cons (ss_set (i := 1) sc__law_steps.nd (by kernel_rfl) (.inl (by kernel_rfl)) (se_lst sa_nilF) (hf := (.inl (by kernel_rfl))))
    (ss_cons (ss_for PassesOwn.never rfl (si_any (sv_l 0 (by kernel_rfl) (by kernel_rfl))) (sg_tup rfl (sg_cons (sg_name (i := 2) sc__law_steps.nd (by kernel_rfl) (.inl (by kernel_rfl)) (.inl (by kernel_rfl))) (sg_cons (sg_name (i := 3) sc__law_steps.nd (by kernel_rfl) (.inl (by kernel_rfl)) (.inl (by kernel_rfl))) sg_nil)) (gsCons_len (gsCons_len gsNil_len))) (ss_cons (ss_set (i := 4) sc__law_steps.nd (by kernel_rfl) (.inl (by kernel_rfl)) (se_ifExp (st_cmp (op_neE hr.units) (sv_l 1 (by kernel_rfl) (by kernel_rfl)) (se_lst sa_nilF) (nomark _)) (se_ix (sv_l 1 (by kernel_rfl) (by kernel_rfl)) (se_un un_negD se_int) (fun _ _ => rfl)) (se_tup (sa_consF se_str sa_nilF))) (hf := (.inl (by kernel_rfl))))
    (ss_one (ss_if (st_and (st_cmp (op_eqE hr.units) (sv_l 2 (by kernel_rfl) (by kernel_rfl)) se_str (nomark _)) (sw_and1 (st_cmp (op_eqE hr.units) (se_ix (sv_l 4 (by kernel_rfl) (by kernel_rfl)) se_int (fun _ _ => rfl)) se_str (nomark _)))).pt (ss_one (ss_setItem (se_tup (sa_consF se_str (sa_consF (se_op op_addD (se_ix (sv_l 4 (by kernel_rfl) (by kernel_rfl)) se_int (fun _ _ => rfl)) (se_tup (sa_consF (sv_l 3 (by kernel_rfl) (by kernel_rfl)) sa_nilF))) sa_nilF))) (sv_l 1 (by kernel_rfl) (by kernel_rfl)) (se_un un_negD se_int))) (ss_one (ss_if (st_and (st_cmp (op_eqE hr.units) (sv_l 2 (by kernel_rfl) (by kernel_rfl)) se_str (nomark _)) (st_and (st_cmp (op_eqE hr.units) (se_ix (sv_l 4 (by kernel_rfl) (by kernel_rfl)) se_int (fun _ _ => rfl)) se_str (nomark _)) (sw_and1 (st_cmp (op_eqE hr.units) (se_op op_addD (se_ix (sv_l 4 (by kernel_rfl) (by kernel_rfl)) se_int (fun _ _ => rfl)) (se_ix (sv_l 4 (by kernel_rfl) (by kernel_rfl)) se_int (fun _ _ => rfl))) (sv_l 3 (by kernel_rfl) (by kernel_rfl)) (nomark _))))).pt (ss_one (ss_setItem (se_tup (sa_consF se_str (sa_consF (se_ix (sv_l 4 (by kernel_rfl) (by kernel_rfl)) se_int (fun _ _ => rfl)) (sa_consF (se_op op_addD (se_ix (sv_l 4 (by kernel_rfl) (by kernel_rfl)) se_int (fun _ _ => rfl)) se_int) sa_nilF)))) (sv_l 1 (by kernel_rfl) (by kernel_rfl)) (se_un un_negD se_int))) (ss_one (ss_expr (se_mut PySem.F.slot_list_append PySem.F.type_list_append mt_appendD (sv_l 1 (by kernel_rfl) (by kernel_rfl)) (sa_consF (se_ifExp (st_cmp (op_eqE hr.units) (sv_l 2 (by kernel_rfl) (by kernel_rfl)) se_str (nomark _)) (se_tup (sa_consF se_str (sa_consF (se_tup (sa_consF (sv_l 3 (by kernel_rfl) (by kernel_rfl)) sa_nilF)) sa_nilF))) (se_tup (sa_consF se_str (sa_consF (sv_l 3 (by kernel_rfl) (by kernel_rfl)) (sa_consF se_int sa_nilF))))) sa_nilF))))))))))
    (ss_one (ss_ret (se_callTy cr_tupleD T.m_tuple (by kernel_rfl) (sa_consU (sv_l 1 (by kernel_rfl) (by kernel_rfl)) sa_nilU))))))
theorem ok__law_all (T : Tx K mg) : FnOk P w K mg base CX0 7 T.a__law_all T.d__law_all ["deltas", "old", "order"] (spD K cl 3 m__law_all) :=
  fn_ok T.F__law_all sc__law_all fun cdv A outer s H E hr =>
    (ss_cons (ss_par (i := 3) (j := 4) rfl sc__law_all.nd (by kernel_rfl) (by kernel_rfl) (by decide) (by kernel_rfl) (by kernel_rfl) (sa_consU (se_unbo (se_callTy cr_listD T.m_list (by kernel_rfl) (sa_consU (sv_l 0 (by kernel_rfl) (by kernel_rfl)) sa_nilU))) (sa_consU (se_unbo (se_lst (sa_consF (sv_l 1 (by kernel_rfl) (by kernel_rfl)) sa_nilF))) sa_nilU)) (by kernel_rfl))
    (ss_cons (ss_for PassesOwn.never rfl (si_any (sv_l 0 (by kernel_rfl) (by kernel_rfl))) (sg_name (i := 5) sc__law_all.nd (by kernel_rfl) (.inl (by kernel_rfl)) (.inl (by kernel_rfl))) (ss_one (ss_expr (se_mut PySem.F.slot_list_append PySem.F.type_list_append mt_appendD (sv_l 4 (by kernel_rfl) (by kernel_rfl)) (sa_consF (se_call (ok_applied_delta T) (hr.mono (by decide)) T.g_applied_delta T.F_applied_delta.kp T.b_applied_delta (sa_consF (sv_l 5 (by kernel_rfl) (by kernel_rfl)) (sa_consF (se_ix (sv_l 4 (by kernel_rfl) (by kernel_rfl)) (se_un un_negD se_int) (fun _ _ => rfl)) sa_nilF))) sa_nilF)))))
    (ss_cons (ss_for PassesOwn.never rfl (si_any (sv_l 2 (by kernel_rfl) (by kernel_rfl))) (sg_name (i := 6) sc__law_all.nd (by kernel_rfl) (.inl (by kernel_rfl)) (.inl (by kernel_rfl))) (ss_cons (ss_setSlice (se_lst (sa_consF (se_call (ok_composed T) (hr.mono (by decide)) T.g_composed T.F_composed.kp T.b_composed (sa_consF (se_ix (sv_l 3 (by kernel_rfl) (by kernel_rfl)) (sv_l 6 (by kernel_rfl) (by kernel_rfl)) (fun _ _ => rfl)) (sa_consF (se_ix (sv_l 3 (by kernel_rfl) (by kernel_rfl)) (se_op op_addD (sv_l 6 (by kernel_rfl) (by kernel_rfl)) se_int) (fun _ _ => rfl)) (sa_consF (se_ix (sv_l 4 (by kernel_rfl) (by kernel_rfl)) (sv_l 6 (by kernel_rfl) (by kernel_rfl)) (fun _ _ => rfl)) sa_nilF)))) sa_nilF)) (sv_l 3 (by kernel_rfl) (by kernel_rfl)) (sv_l 6 (by kernel_rfl) (by kernel_rfl)) (se_op op_addD (sv_l 6 (by kernel_rfl) (by kernel_rfl)) se_int))
    (ss_one (ss_set (i := 4) sc__law_all.nd (by kernel_rfl) (.inl (by kernel_rfl)) (se_op op_addD (se_slice (sv_l 4 (by kernel_rfl) (by kernel_rfl)) sp_none (sp_some (se_op op_addD (sv_l 6 (by kernel_rfl) (by kernel_rfl)) se_int))) (se_slice (sv_l 4 (by kernel_rfl) (by kernel_rfl)) (sp_some (se_op op_addD (sv_l 6 (by kernel_rfl) (by kernel_rfl)) se_int)) sp_none)) (hf := (.inl (by kernel_rfl)))))))
    (ss_one (ss_ret (se_ix (sv_l 3 (by kernel_rfl) (by kernel_rfl)) se_int (fun _ _ => rfl)))))))
theorem ok_law (T : Tx K mg) : FnOk P w K mg base CX0 8 T.a_law T.d_law ["script"] (spD K cl 1 m_law) :=
  fn_ok T.F_law sc_law fun cdv A outer s H E hr =>
    (ss_cons (ss_setCell (j := 1) sc_law.nd (by kernel_rfl) (.inr (by kernel_rfl)) (se_dict (ps := [(.inr (Str.ofString "draws"), (dCall 2 m__law_draws (dConsF (dVar 0) (dConsF (dC (.int 300)) dNilF)))), (.inr (Str.ofString "at"), (dC (.int 0)))]) (pps_cons pe_str (pe_frz (se_call (ok__law_draws T) (hr.mono (by decide)) T.g__law_draws T.F__law_draws.kp T.b__law_draws (sa_consF (sv_l 0 (by kernel_rfl) (by kernel_rfl)) (sa_consF se_int sa_nilF)))) (pps_cons pe_str (pe_frz se_int) pps_nil)) rfl rfl (by intro z; cases z) (by decide)) (hf := (.inl (by kernel_rfl))))
    (ss_cons (ss_for PassesOwn.never rfl (si_range1 T.m_range (sa_consU se_int sa_nilU) (fun _ _ _ h => lenU1 h)) (sg_name (i := 2) sc_law.nd (by kernel_rfl) (.inl (by kernel_rfl)) (.inl (by kernel_rfl))) (ss_cons (ss_parG (is := [3, 4]) rfl (pgs_cons (pg_name (i := 3) sc_law.nd (by kernel_rfl) (.inl (by kernel_rfl)) (.inl (by kernel_rfl))) (pgs_cons (pg_name (i := 4) sc_law.nd (by kernel_rfl) (.inr (by kernel_rfl)) (.inl (by kernel_rfl))) pgs_nil (by kernel_rfl)) (by kernel_rfl)) (sa_consU (se_unbo (se_call (ok__law_next T) (hr.mono (by decide)) T.g__law_next T.F__law_next.kp T.b__law_next (sa_consF (sv_c 1 (by kernel_rfl) (by kernel_rfl)) (sa_consF se_int sa_nilF)))) (sa_consU (se_unbo (se_op op_addD se_int (se_call (ok__law_next T) (hr.mono (by decide)) T.g__law_next T.F__law_next.kp T.b__law_next (sa_consF (sv_c 1 (by kernel_rfl) (by kernel_rfl)) (sa_consF se_int sa_nilF))))) sa_nilU)) (by kernel_rfl) (by kernel_rfl))
    (ss_cons (ss_set (i := 5) sc_law.nd (by kernel_rfl) (.inr (by kernel_rfl)) (se_callTy cr_tupleD T.m_tuple (by kernel_rfl) (sa_consU (se_lc (own := [(Str.ofString "k", 9)]) rfl sc_law.nd (si_range1 T.m_range (sa_consU (sv_l 3 (by kernel_rfl) (by kernel_rfl)) sa_nilU) (fun _ _ _ h => lenU1 h)) (blkOk_by (by kernel_rfl)) (by decide) (fun _ _ _ _ _ => (sg_name (i := 9) sc_law.nd (by kernel_rfl) (.inl (by kernel_rfl)) (.inr (by kernel_rfl)))) (fun _ _ _ _ _ => sts_nil) (fun _ _ _ _ _ => (se_op op_modD (se_op op_mulD (sv_c 4 (by kernel_rfl) (by kernel_rfl)) (sv_l 9 (by kernel_rfl) (by kernel_rfl))) se_int))) sa_nilU)) (hf := (.inl (by kernel_rfl))))
    (ss_cons (ss_parG (is := [6, 7, 8]) rfl (pgs_cons (pg_name (i := 6) sc_law.nd (by kernel_rfl) (.inr (by kernel_rfl)) (.inl (by kernel_rfl))) (pgs_cons (pg_name (i := 7) sc_law.nd (by kernel_rfl) (.inl (by kernel_rfl)) (.inl (by kernel_rfl))) (pgs_cons (pg_name (i := 8) sc_law.nd (by kernel_rfl) (.inl (by kernel_rfl)) (.inl (by kernel_rfl))) pgs_nil (by kernel_rfl)) (by kernel_rfl)) (by kernel_rfl)) (sa_consU (se_unbo (se_lst sa_nilF)) (sa_consU (se_unbo (sv_c 5 (by kernel_rfl) (by kernel_rfl))) (sa_consU (se_unbo (se_lc (own := [(Str.ofString "k", 9)]) rfl sc_law.nd (si_range1 T.m_range (sa_consU (sv_l 3 (by kernel_rfl) (by kernel_rfl)) sa_nilU) (fun _ _ _ h => lenU1 h)) (blkOk_by (by kernel_rfl)) (by decide) (fun _ _ _ _ _ => (sg_name (i := 9) sc_law.nd (by kernel_rfl) (.inl (by kernel_rfl)) (.inr (by kernel_rfl)))) (fun _ _ _ _ _ => sts_nil) (fun _ _ _ _ _ => (se_tup (sa_consF se_str (sa_consF (sv_l 9 (by kernel_rfl) (by kernel_rfl)) sa_nilF)))))) sa_nilU))) (by kernel_rfl) (by kernel_rfl))
    (ss_cons (ss_for PassesOwn.never rfl (si_range1 T.m_range (sa_consU (se_op op_addD se_int (se_call (ok__law_next T) (hr.mono (by decide)) T.g__law_next T.F__law_next.kp T.b__law_next (sa_consF (sv_c 1 (by kernel_rfl) (by kernel_rfl)) (sa_consF se_int sa_nilF)))) sa_nilU) (fun _ _ _ h => lenU1 h)) (sg_name (i := 9) sc_law.nd (by kernel_rfl) (.inl (by kernel_rfl)) (.inl (by kernel_rfl))) (ss_cons (ss_expr (se_mut PySem.F.slot_list_append PySem.F.type_list_append mt_appendD (sv_c 6 (by kernel_rfl) (by kernel_rfl)) (sa_consF (se_call (ok__law_delta T) (hr.mono (by decide)) T.g__law_delta T.F__law_delta.kp T.b__law_delta (sa_consF (sv_c 1 (by kernel_rfl) (by kernel_rfl)) (sa_consF (se_callB cr_lenD T.m_len PySem.boot_len (sa_consU (sv_l 7 (by kernel_rfl) (by kernel_rfl)) sa_nilU)) sa_nilF))) sa_nilF)))
    (ss_one (ss_par (i := 8) (j := 7) rfl sc_law.nd (by kernel_rfl) (by kernel_rfl) (by decide) (by kernel_rfl) (by kernel_rfl) (sa_consU (se_unbo (se_call (ok__law_from T) (hr.mono (by decide)) T.g__law_from T.F__law_from.kp T.b__law_from (sa_consF (se_ix (sv_c 6 (by kernel_rfl) (by kernel_rfl)) (se_un un_negD se_int) (fun _ _ => rfl)) (sa_consF (sv_l 8 (by kernel_rfl) (by kernel_rfl)) sa_nilF)))) (sa_consU (se_unbo (se_call (ok_applied_delta T) (hr.mono (by decide)) T.g_applied_delta T.F_applied_delta.kp T.b_applied_delta (sa_consF (se_ix (sv_c 6 (by kernel_rfl) (by kernel_rfl)) (se_un un_negD se_int) (fun _ _ => rfl)) (sa_consF (sv_l 7 (by kernel_rfl) (by kernel_rfl)) sa_nilF)))) sa_nilU)) (by kernel_rfl)))))
    (ss_cons (ss_set (i := 10) sc_law.nd (by kernel_rfl) (.inl (by kernel_rfl)) (se_call (ok__law_steps T) (hr.mono (by decide)) T.g__law_steps T.F__law_steps.kp T.b__law_steps (sa_consF (sv_l 8 (by kernel_rfl) (by kernel_rfl)) sa_nilF)) (hf := (.inl (by kernel_rfl))))
    (ss_cons (ss_if (st_or (st_cmp (op_neE hr.units) (sv_l 7 (by kernel_rfl) (by kernel_rfl)) (se_callTy cr_tupleD T.m_tuple (by kernel_rfl) (sa_consU (se_lc (own := [(Str.ofString "word", 16), (Str.ofString "own", 17)]) rfl sc_law.nd (si_any (sv_l 8 (by kernel_rfl) (by kernel_rfl))) (blkOk_by (by kernel_rfl)) (by decide) (fun _ _ _ _ _ => (sg_tup rfl (sg_cons (sg_name (i := 16) sc_law.nd (by kernel_rfl) (.inl (by kernel_rfl)) (.inr (by kernel_rfl))) (sg_cons (sg_name (i := 17) sc_law.nd (by kernel_rfl) (.inl (by kernel_rfl)) (.inr (by kernel_rfl))) sg_nil)) (gsCons_len (gsCons_len gsNil_len)))) (fun _ _ _ _ _ => sts_nil) (fun _ _ _ _ _ => (se_ifExp (st_cmp (op_eqE hr.units) (sv_l 16 (by kernel_rfl) (by kernel_rfl)) se_str (nomark _)) (sv_l 17 (by kernel_rfl) (by kernel_rfl)) (se_ix (sv_c 5 (by kernel_rfl) (by kernel_rfl)) (sv_l 17 (by kernel_rfl) (by kernel_rfl)) (fun _ _ => rfl))))) sa_nilU)) (nomark _)) (sw_or1 (st_cmp (op_neE hr.units) (se_call (ok_applied_delta T) (hr.mono (by decide)) T.g_applied_delta T.F_applied_delta.kp T.b_applied_delta (sa_consF (sv_l 10 (by kernel_rfl) (by kernel_rfl)) (sa_consF (sv_c 5 (by kernel_rfl) (by kernel_rfl)) sa_nilF))) (sv_l 7 (by kernel_rfl) (by kernel_rfl)) (nomark _)))).pt (ss_one (ss_ret se_bl)) ss_nil)
    (ss_cons (ss_for PassesOwn.never rfl (si_range1 T.m_range (sa_consU se_int sa_nilU) (fun _ _ _ h => lenU1 h)) (sg_name (i := 11) sc_law.nd (by kernel_rfl) (.inl (by kernel_rfl)) (.inl (by kernel_rfl))) (ss_cons (ss_setLc (i := 12) (own := [(Str.ofString "k", 9)]) rfl sc_law.nd (by kernel_rfl) (by kernel_rfl) (sw_true (by kernel_rfl) (by kernel_rfl) (by kernel_rfl) (by kernel_rfl)) (si_range1 T.m_range (sa_consU (se_op op_subD (se_callB cr_lenD T.m_len PySem.boot_len (sa_consU (sv_c 6 (by kernel_rfl) (by kernel_rfl)) sa_nilU)) se_int) sa_nilU) (fun _ _ _ h => lenU1 h)) (blkOk_by (by kernel_rfl)) (by decide) (fun _ _ _ _ _ => (sg_name (i := 9) sc_law.nd (by kernel_rfl) (.inl (by kernel_rfl)) (.inr (by kernel_rfl)))) (fun _ _ _ _ _ => sts_nil) (fun _ _ _ _ _ => (se_call (ok__law_next T) (hr.mono (by decide)) T.g__law_next T.F__law_next.kp T.b__law_next (sa_consF (sv_c 1 (by kernel_rfl) (by kernel_rfl)) (sa_consF (se_op op_subD (se_op op_subD (se_callB cr_lenD T.m_len PySem.boot_len (sa_consU (sv_c 6 (by kernel_rfl) (by kernel_rfl)) sa_nilU)) se_int) (sv_l 9 (by kernel_rfl) (by kernel_rfl))) sa_nilF)))))
    (ss_cons (ss_set (i := 13) sc_law.nd (by kernel_rfl) (.inl (by kernel_rfl)) (se_call (ok__law_all T) (hr.mono (by decide)) T.g__law_all T.F__law_all.kp T.b__law_all (sa_consF (sv_c 6 (by kernel_rfl) (by kernel_rfl)) (sa_consF (sv_c 5 (by kernel_rfl) (by kernel_rfl)) (sa_consF (sv_l 12 (by kernel_rfl) (by kernel_rfl)) sa_nilF)))) (hf := (.inl (by kernel_rfl))))
    (ss_one (ss_if (st_or (st_cmp (op_neE hr.units) (sv_l 13 (by kernel_rfl) (by kernel_rfl)) (sv_l 10 (by kernel_rfl) (by kernel_rfl)) (nomark _)) (st_or (st_cmp op_isnE (se_call (ok_is_delta T) (hr.mono (by decide)) T.g_is_delta T.F_is_delta.kp T.b_is_delta (sa_consF (sv_c 5 (by kernel_rfl) (by kernel_rfl)) (sa_consF (sv_l 13 (by kernel_rfl) (by kernel_rfl)) sa_nilF))) se_bl (nomark _)) (sw_or1 (st_cmp (op_neE hr.units) (se_call (ok_read_delta T) (hr.mono (by decide)) T.g_read_delta T.F_read_delta.kp T.b_read_delta (sa_consF (se_call (ok_delta_text T) (hr.mono (by decide)) T.g_delta_text T.F_delta_text.kp T.b_delta_text (sa_consF (sv_l 13 (by kernel_rfl) (by kernel_rfl)) sa_nilF)) sa_nilF)) (sv_l 13 (by kernel_rfl) (by kernel_rfl)) (nomark _))))).pt (ss_one (ss_ret se_bl)) ss_nil)))))
    (ss_cons (ss_set (i := 14) sc_law.nd (by kernel_rfl) (.inl (by kernel_rfl)) (se_callB cr_lenD T.m_len PySem.boot_len (sa_consU (se_lc (own := [(Str.ofString "own", 17)]) rfl sc_law.nd (si_any (sv_l 10 (by kernel_rfl) (by kernel_rfl))) (blkOk_by (by kernel_rfl)) (by decide) (fun _ _ _ _ _ => (sg_name (i := 17) sc_law.nd (by kernel_rfl) (.inl (by kernel_rfl)) (.inr (by kernel_rfl)))) (fun _ _ _ _ _ => (sts_one (st_cmp (op_eqE hr.units) (se_ix (sv_l 17 (by kernel_rfl) (by kernel_rfl)) se_int (fun _ _ => rfl)) se_str (nomark _)))) (fun _ _ _ _ _ => (sv_l 17 (by kernel_rfl) (by kernel_rfl)))) sa_nilU)) (hf := (.inl (by kernel_rfl))))
    (ss_cons (ss_set (i := 15) sc_law.nd (by kernel_rfl) (.inl (by kernel_rfl)) (se_callB cr_lenD T.m_len PySem.boot_len (sa_consU (se_lc (own := [(Str.ofString "own", 17)]) rfl sc_law.nd (si_any (sv_l 8 (by kernel_rfl) (by kernel_rfl))) (blkOk_by (by kernel_rfl)) (by decide) (fun _ _ _ _ _ => (sg_name (i := 17) sc_law.nd (by kernel_rfl) (.inl (by kernel_rfl)) (.inr (by kernel_rfl)))) (fun _ _ _ _ _ => (sts_one (st_cmp (op_eqE hr.units) (se_ix (sv_l 17 (by kernel_rfl) (by kernel_rfl)) se_int (fun _ _ => rfl)) se_str (nomark _)))) (fun _ _ _ _ _ => (sv_l 17 (by kernel_rfl) (by kernel_rfl)))) sa_nilU)) (hf := (.inl (by kernel_rfl))))
    (ss_one (ss_if (st_cmp (op_neE hr.units) (se_call (ok_delta_cost T) (hr.mono (by decide)) T.g_delta_cost T.F_delta_cost.kp T.b_delta_cost (sa_consF (sv_l 10 (by kernel_rfl) (by kernel_rfl)) (sa_consF (se_tup (sa_consF se_int (sa_consF se_int (sa_consF se_int sa_nilF)))) sa_nilF))) (se_op op_addD (se_op op_addD (se_op op_mulD se_int (sv_l 14 (by kernel_rfl) (by kernel_rfl))) (se_op op_mulD se_int (se_op op_subD (se_callB cr_lenD T.m_len PySem.boot_len (sa_consU (sv_l 10 (by kernel_rfl) (by kernel_rfl)) sa_nilU)) (sv_l 14 (by kernel_rfl) (by kernel_rfl))))) (sv_l 15 (by kernel_rfl) (by kernel_rfl))) (nomark _)) (ss_one (ss_ret se_bl)) ss_nil))))))))))))
    (ss_one (ss_ret se_bl))))
end
theorem tx_mk {l : PySem.W.OpenLaw} {K : PySem.W.Frag} {h : Heap} {mg : Str → Option Value} {fa : Addr} (X : K.In h) (G : h.Ns mainGlobals mg) (hfa : mg "law" = some (.ref fa))
    {f0 : Addr} {od0 an0 : Option Addr} {sl0 : Array (Option Value)} {oc0 kV0 dc0 pm0 cd0 ct0 : Value}
    (a0 : PySem.W.nsIn K mainGlobals "is_number" = some (some (.ref f0))) (l0 : K.lookup f0 = some ⟨oc0, od0, .func (PySem.W.fnOf "is_number" "is_number" (defArgs s_is_number) (defBody s_is_number) (defScope s_is_number) .none kV0 dc0 pm0 an0 cd0 ct0), sl0⟩) (c0 : PySem.W.codeIn K cd0 "is_number" = true) (k0 : PySem.W.keepIn K (.ref f0) = true)
    {f1 : Addr} {od1 an1 : Option Addr} {sl1 : Array (Option Value)} {oc1 kV1 dc1 pm1 cd1 ct1 : Value}
    (a1 : PySem.W.nsIn K mainGlobals "is_number_text" = some (some (.ref f1))) (l1 : K.lookup f1 = some ⟨oc1, od1, .func (PySem.W.fnOf "is_number_text" "is_number_text" (defArgs s_is_number_text) (defBody s_is_number_text) (defScope s_is_number_text) .none kV1 dc1 pm1 an1 cd1 ct1), sl1⟩) (c1 : PySem.W.codeIn K cd1 "is_number_text" = true) (k1 : PySem.W.keepIn K (.ref f1) = true)
    {f2 : Addr} {od2 an2 : Option Addr} {sl2 : Array (Option Value)} {oc2 kV2 dc2 pm2 cd2 ct2 : Value}
    (a2 : PySem.W.nsIn K mainGlobals "is_numbers" = some (some (.ref f2))) (l2 : K.lookup f2 = some ⟨oc2, od2, .func (PySem.W.fnOf "is_numbers" "is_numbers" (defArgs s_is_numbers) (defBody s_is_numbers) (defScope s_is_numbers) .none kV2 dc2 pm2 an2 cd2 ct2), sl2⟩) (c2 : PySem.W.codeIn K cd2 "is_numbers" = true) (k2 : PySem.W.keepIn K (.ref f2) = true)
    {f3 : Addr} {od3 an3 : Option Addr} {sl3 : Array (Option Value)} {oc3 kV3 dc3 pm3 cd3 ct3 : Value}
    (a3 : PySem.W.nsIn K mainGlobals "hex_text" = some (some (.ref f3))) (l3 : K.lookup f3 = some ⟨oc3, od3, .func (PySem.W.fnOf "hex_text" "hex_text" (defArgs s_hex_text) (defBody s_hex_text) (defScope s_hex_text) .none kV3 dc3 pm3 an3 cd3 ct3), sl3⟩) (c3 : PySem.W.codeIn K cd3 "hex_text" = true) (k3 : PySem.W.keepIn K (.ref f3) = true)
    {f4 : Addr} {od4 an4 : Option Addr} {sl4 : Array (Option Value)} {oc4 kV4 dc4 pm4 cd4 ct4 : Value}
    (a4 : PySem.W.nsIn K mainGlobals "read_hex" = some (some (.ref f4))) (l4 : K.lookup f4 = some ⟨oc4, od4, .func (PySem.W.fnOf "read_hex" "read_hex" (defArgs s_read_hex) (defBody s_read_hex) (defScope s_read_hex) .none kV4 dc4 pm4 an4 cd4 ct4), sl4⟩) (c4 : PySem.W.codeIn K cd4 "read_hex" = true) (k4 : PySem.W.keepIn K (.ref f4) = true)
    {f5 : Addr} {od5 an5 : Option Addr} {sl5 : Array (Option Value)} {oc5 kV5 dc5 pm5 cd5 ct5 : Value}
    (a5 : PySem.W.nsIn K mainGlobals "is_piece" = some (some (.ref f5))) (l5 : K.lookup f5 = some ⟨oc5, od5, .func (PySem.W.fnOf "is_piece" "is_piece" (defArgs s_is_piece) (defBody s_is_piece) (defScope s_is_piece) .none kV5 dc5 pm5 an5 cd5 ct5), sl5⟩) (c5 : PySem.W.codeIn K cd5 "is_piece" = true) (k5 : PySem.W.keepIn K (.ref f5) = true)
    {f6 : Addr} {od6 an6 : Option Addr} {sl6 : Array (Option Value)} {oc6 kV6 dc6 pm6 cd6 ct6 : Value}
    (a6 : PySem.W.nsIn K mainGlobals "is_delta" = some (some (.ref f6))) (l6 : K.lookup f6 = some ⟨oc6, od6, .func (PySem.W.fnOf "is_delta" "is_delta" (defArgs s_is_delta) (defBody s_is_delta) (defScope s_is_delta) .none kV6 dc6 pm6 an6 cd6 ct6), sl6⟩) (c6 : PySem.W.codeIn K cd6 "is_delta" = true) (k6 : PySem.W.keepIn K (.ref f6) = true)
    {f7 : Addr} {od7 an7 : Option Addr} {sl7 : Array (Option Value)} {oc7 kV7 dc7 pm7 cd7 ct7 : Value}
    (a7 : PySem.W.nsIn K mainGlobals "made_by" = some (some (.ref f7))) (l7 : K.lookup f7 = some ⟨oc7, od7, .func (PySem.W.fnOf "made_by" "made_by" (defArgs s_made_by) (defBody s_made_by) (defScope s_made_by) .none kV7 dc7 pm7 an7 cd7 ct7), sl7⟩) (c7 : PySem.W.codeIn K cd7 "made_by" = true) (k7 : PySem.W.keepIn K (.ref f7) = true)
    {f8 : Addr} {od8 an8 : Option Addr} {sl8 : Array (Option Value)} {oc8 kV8 dc8 pm8 cd8 ct8 : Value}
    (a8 : PySem.W.nsIn K mainGlobals "applied_delta" = some (some (.ref f8))) (l8 : K.lookup f8 = some ⟨oc8, od8, .func (PySem.W.fnOf "applied_delta" "applied_delta" (defArgs s_applied_delta) (defBody s_applied_delta) (defScope s_applied_delta) .none kV8 dc8 pm8 an8 cd8 ct8), sl8⟩) (c8 : PySem.W.codeIn K cd8 "applied_delta" = true) (k8 : PySem.W.keepIn K (.ref f8) = true)
    {f9 : Addr} {od9 an9 : Option Addr} {sl9 : Array (Option Value)} {oc9 kV9 dc9 pm9 cd9 ct9 : Value}
    (a9 : PySem.W.nsIn K mainGlobals "delta_cost" = some (some (.ref f9))) (l9 : K.lookup f9 = some ⟨oc9, od9, .func (PySem.W.fnOf "delta_cost" "delta_cost" (defArgs s_delta_cost) (defBody s_delta_cost) (defScope s_delta_cost) .none kV9 dc9 pm9 an9 cd9 ct9), sl9⟩) (c9 : PySem.W.codeIn K cd9 "delta_cost" = true) (k9 : PySem.W.keepIn K (.ref f9) = true)
    {f10 : Addr} {od10 an10 : Option Addr} {sl10 : Array (Option Value)} {oc10 kV10 dc10 pm10 cd10 ct10 : Value}
    (a10 : PySem.W.nsIn K mainGlobals "length_of" = some (some (.ref f10))) (l10 : K.lookup f10 = some ⟨oc10, od10, .func (PySem.W.fnOf "length_of" "length_of" (defArgs s_length_of) (defBody s_length_of) (defScope s_length_of) .none kV10 dc10 pm10 an10 cd10 ct10), sl10⟩) (c10 : PySem.W.codeIn K cd10 "length_of" = true) (k10 : PySem.W.keepIn K (.ref f10) = true)
    {f11 : Addr} {od11 an11 : Option Addr} {sl11 : Array (Option Value)} {oc11 kV11 dc11 pm11 cd11 ct11 : Value}
    (a11 : PySem.W.nsIn K mainGlobals "part_of" = some (some (.ref f11))) (l11 : K.lookup f11 = some ⟨oc11, od11, .func (PySem.W.fnOf "part_of" "part_of" (defArgs s_part_of) (defBody s_part_of) (defScope s_part_of) .none kV11 dc11 pm11 an11 cd11 ct11), sl11⟩) (c11 : PySem.W.codeIn K cd11 "part_of" = true) (k11 : PySem.W.keepIn K (.ref f11) = true)
    {f12 : Addr} {od12 an12 : Option Addr} {sl12 : Array (Option Value)} {oc12 kV12 dc12 pm12 cd12 ct12 : Value}
    (a12 : PySem.W.nsIn K mainGlobals "parts_between" = some (some (.ref f12))) (l12 : K.lookup f12 = some ⟨oc12, od12, .func (PySem.W.fnOf "parts_between" "parts_between" (defArgs s_parts_between) (defBody s_parts_between) (defScope s_parts_between) .none kV12 dc12 pm12 an12 cd12 ct12), sl12⟩) (c12 : PySem.W.codeIn K cd12 "parts_between" = true) (k12 : PySem.W.keepIn K (.ref f12) = true)
    {f13 : Addr} {od13 an13 : Option Addr} {sl13 : Array (Option Value)} {oc13 kV13 dc13 pm13 cd13 ct13 : Value}
    (a13 : PySem.W.nsIn K mainGlobals "with_step" = some (some (.ref f13))) (l13 : K.lookup f13 = some ⟨oc13, od13, .func (PySem.W.fnOf "with_step" "with_step" (defArgs s_with_step) (defBody s_with_step) (defScope s_with_step) .none kV13 dc13 pm13 an13 cd13 ct13), sl13⟩) (c13 : PySem.W.codeIn K cd13 "with_step" = true) (k13 : PySem.W.keepIn K (.ref f13) = true)
    {f14 : Addr} {od14 an14 : Option Addr} {sl14 : Array (Option Value)} {oc14 kV14 dc14 pm14 cd14 ct14 : Value}
    (a14 : PySem.W.nsIn K mainGlobals "composed" = some (some (.ref f14))) (l14 : K.lookup f14 = some ⟨oc14, od14, .func (PySem.W.fnOf "composed" "composed" (defArgs s_composed) (defBody s_composed) (defScope s_composed) .none kV14 dc14 pm14 an14 cd14 ct14), sl14⟩) (c14 : PySem.W.codeIn K cd14 "composed" = true) (k14 : PySem.W.keepIn K (.ref f14) = true)
    {f15 : Addr} {od15 an15 : Option Addr} {sl15 : Array (Option Value)} {oc15 kV15 dc15 pm15 cd15 ct15 : Value}
    (a15 : PySem.W.nsIn K mainGlobals "step_row" = some (some (.ref f15))) (l15 : K.lookup f15 = some ⟨oc15, od15, .func (PySem.W.fnOf "step_row" "step_row" (defArgs s_step_row) (defBody s_step_row) (defScope s_step_row) .none kV15 dc15 pm15 an15 cd15 ct15), sl15⟩) (c15 : PySem.W.codeIn K cd15 "step_row" = true) (k15 : PySem.W.keepIn K (.ref f15) = true)
    {f16 : Addr} {od16 an16 : Option Addr} {sl16 : Array (Option Value)} {oc16 kV16 dc16 pm16 cd16 ct16 : Value}
    (a16 : PySem.W.nsIn K mainGlobals "delta_text" = some (some (.ref f16))) (l16 : K.lookup f16 = some ⟨oc16, od16, .func (PySem.W.fnOf "delta_text" "delta_text" (defArgs s_delta_text) (defBody s_delta_text) (defScope s_delta_text) .none kV16 dc16 pm16 an16 cd16 ct16), sl16⟩) (c16 : PySem.W.codeIn K cd16 "delta_text" = true) (k16 : PySem.W.keepIn K (.ref f16) = true)
    {f17 : Addr} {od17 an17 : Option Addr} {sl17 : Array (Option Value)} {oc17 kV17 dc17 pm17 cd17 ct17 : Value}
    (a17 : PySem.W.nsIn K mainGlobals "read_step" = some (some (.ref f17))) (l17 : K.lookup f17 = some ⟨oc17, od17, .func (PySem.W.fnOf "read_step" "read_step" (defArgs s_read_step) (defBody s_read_step) (defScope s_read_step) .none kV17 dc17 pm17 an17 cd17 ct17), sl17⟩) (c17 : PySem.W.codeIn K cd17 "read_step" = true) (k17 : PySem.W.keepIn K (.ref f17) = true)
    {f18 : Addr} {od18 an18 : Option Addr} {sl18 : Array (Option Value)} {oc18 kV18 dc18 pm18 cd18 ct18 : Value}
    (a18 : PySem.W.nsIn K mainGlobals "read_delta" = some (some (.ref f18))) (l18 : K.lookup f18 = some ⟨oc18, od18, .func (PySem.W.fnOf "read_delta" "read_delta" (defArgs s_read_delta) (defBody s_read_delta) (defScope s_read_delta) .none kV18 dc18 pm18 an18 cd18 ct18), sl18⟩) (c18 : PySem.W.codeIn K cd18 "read_delta" = true) (k18 : PySem.W.keepIn K (.ref f18) = true)
    {f19 : Addr} {od19 an19 : Option Addr} {sl19 : Array (Option Value)} {oc19 kV19 dc19 pm19 cd19 ct19 : Value}
    (a19 : PySem.W.nsIn K mainGlobals "_law_draws" = some (some (.ref f19))) (l19 : K.lookup f19 = some ⟨oc19, od19, .func (PySem.W.fnOf "_law_draws" "_law_draws" (defArgs s__law_draws) (defBody s__law_draws) (defScope s__law_draws) .none kV19 dc19 pm19 an19 cd19 ct19), sl19⟩) (c19 : PySem.W.codeIn K cd19 "_law_draws" = true) (k19 : PySem.W.keepIn K (.ref f19) = true)
    {f20 : Addr} {od20 an20 : Option Addr} {sl20 : Array (Option Value)} {oc20 kV20 dc20 pm20 cd20 ct20 : Value}
    (a20 : PySem.W.nsIn K mainGlobals "_law_next" = some (some (.ref f20))) (l20 : K.lookup f20 = some ⟨oc20, od20, .func (PySem.W.fnOf "_law_next" "_law_next" (defArgs s__law_next) (defBody s__law_next) (defScope s__law_next) .none kV20 dc20 pm20 an20 cd20 ct20), sl20⟩) (c20 : PySem.W.codeIn K cd20 "_law_next" = true) (k20 : PySem.W.keepIn K (.ref f20) = true)
    {f21 : Addr} {od21 an21 : Option Addr} {sl21 : Array (Option Value)} {oc21 kV21 dc21 pm21 cd21 ct21 : Value}
    (a21 : PySem.W.nsIn K mainGlobals "_law_delta" = some (some (.ref f21))) (l21 : K.lookup f21 = some ⟨oc21, od21, .func (PySem.W.fnOf "_law_delta" "_law_delta" (defArgs s__law_delta) (defBody s__law_delta) (defScope s__law_delta) .none kV21 dc21 pm21 an21 cd21 ct21), sl21⟩) (c21 : PySem.W.codeIn K cd21 "_law_delta" = true) (k21 : PySem.W.keepIn K (.ref f21) = true)
    {f22 : Addr} {od22 an22 : Option Addr} {sl22 : Array (Option Value)} {oc22 kV22 dc22 pm22 cd22 ct22 : Value}
    (a22 : PySem.W.nsIn K mainGlobals "_law_from" = some (some (.ref f22))) (l22 : K.lookup f22 = some ⟨oc22, od22, .func (PySem.W.fnOf "_law_from" "_law_from" (defArgs s__law_from) (defBody s__law_from) (defScope s__law_from) .none kV22 dc22 pm22 an22 cd22 ct22), sl22⟩) (c22 : PySem.W.codeIn K cd22 "_law_from" = true) (k22 : PySem.W.keepIn K (.ref f22) = true)
    {f23 : Addr} {od23 an23 : Option Addr} {sl23 : Array (Option Value)} {oc23 kV23 dc23 pm23 cd23 ct23 : Value}
    (a23 : PySem.W.nsIn K mainGlobals "_law_steps" = some (some (.ref f23))) (l23 : K.lookup f23 = some ⟨oc23, od23, .func (PySem.W.fnOf "_law_steps" "_law_steps" (defArgs s__law_steps) (defBody s__law_steps) (defScope s__law_steps) .none kV23 dc23 pm23 an23 cd23 ct23), sl23⟩) (c23 : PySem.W.codeIn K cd23 "_law_steps" = true) (k23 : PySem.W.keepIn K (.ref f23) = true)
    {f24 : Addr} {od24 an24 : Option Addr} {sl24 : Array (Option Value)} {oc24 kV24 dc24 pm24 cd24 ct24 : Value}
    (a24 : PySem.W.nsIn K mainGlobals "_law_all" = some (some (.ref f24))) (l24 : K.lookup f24 = some ⟨oc24, od24, .func (PySem.W.fnOf "_law_all" "_law_all" (defArgs s__law_all) (defBody s__law_all) (defScope s__law_all) .none kV24 dc24 pm24 an24 cd24 ct24), sl24⟩) (c24 : PySem.W.codeIn K cd24 "_law_all" = true) (k24 : PySem.W.keepIn K (.ref f24) = true)
    {f25 : Addr} {od25 an25 : Option Addr} {sl25 : Array (Option Value)} {oc25 kV25 dc25 pm25 cd25 ct25 : Value}
    (a25 : PySem.W.nsIn K mainGlobals "law" = some (some (.ref f25))) (l25 : K.lookup f25 = some ⟨oc25, od25, .func (PySem.W.fnOf "law" "law" (defArgs s_law) (defBody s_law) (defScope s_law) .none kV25 dc25 pm25 an25 cd25 ct25), sl25⟩) (c25 : PySem.W.codeIn K cd25 "law" = true) (k25 : PySem.W.keepIn K (.ref f25) = true)
    (z0 : PySem.W.nsIn K mainGlobals "abs" = some none)
    (z1 : PySem.W.nsIn K mainGlobals "all" = some none)
    (z2 : PySem.W.nsIn K mainGlobals "bool" = some none)
    (z3 : PySem.W.nsIn K mainGlobals "int" = some none)
    (z4 : PySem.W.nsIn K mainGlobals "isinstance" = some none)
    (z5 : PySem.W.nsIn K mainGlobals "len" = some none)
    (z6 : PySem.W.nsIn K mainGlobals "list" = some none)
    (z7 : PySem.W.nsIn K mainGlobals "max" = some none)
    (z8 : PySem.W.nsIn K mainGlobals "min" = some none)
    (z9 : PySem.W.nsIn K mainGlobals "range" = some none)
    (z10 : PySem.W.nsIn K mainGlobals "str" = some none)
    (z11 : PySem.W.nsIn K mainGlobals "sum" = some none)
    (z12 : PySem.W.nsIn K mainGlobals "tuple" = some none)
    {t0 : Tok} (u0 : PySem.W.nsIn K mainGlobals "DIGITS" = some (some (.str (Str.ofString "0123456789abcdef") t0)))
    : ∃ T : Tx K mg, T.a_law = fa ∧ ∀ (s : Shared) (v : Value), BindsTo s T.d_law ⟨[v], []⟩ [("script", v)] := by
  have e := hfa.symm.trans (PySem.W.mg_of X G a25)
  cases e
  refine ⟨{
    a_is_number := f0
    d_is_number := _
    F_is_number := fun_mk (st := s_is_number) l0 c0 k0
    g_is_number := PySem.W.mg_of X G a0
    b_is_number := (fun_mk (st := s_is_number) l0 c0 k0).binds (ps := ["thing"]) fun _ _ _ _ _ _ us hl => match us, hl with | [_], _ => rfl
    a_is_number_text := f1
    d_is_number_text := _
    F_is_number_text := fun_mk (st := s_is_number_text) l1 c1 k1
    g_is_number_text := PySem.W.mg_of X G a1
    b_is_number_text := (fun_mk (st := s_is_number_text) l1 c1 k1).binds (ps := ["text"]) fun _ _ _ _ _ _ us hl => match us, hl with | [_], _ => rfl
    a_is_numbers := f2
    d_is_numbers := _
    F_is_numbers := fun_mk (st := s_is_numbers) l2 c2 k2
    g_is_numbers := PySem.W.mg_of X G a2
    b_is_numbers := (fun_mk (st := s_is_numbers) l2 c2 k2).binds (ps := ["thing"]) fun _ _ _ _ _ _ us hl => match us, hl with | [_], _ => rfl
    a_hex_text := f3
    d_hex_text := _
    F_hex_text := fun_mk (st := s_hex_text) l3 c3 k3
    g_hex_text := PySem.W.mg_of X G a3
    b_hex_text := (fun_mk (st := s_hex_text) l3 c3 k3).binds (ps := ["numbers"]) fun _ _ _ _ _ _ us hl => match us, hl with | [_], _ => rfl
    a_read_hex := f4
    d_read_hex := _
    F_read_hex := fun_mk (st := s_read_hex) l4 c4 k4
    g_read_hex := PySem.W.mg_of X G a4
    b_read_hex := (fun_mk (st := s_read_hex) l4 c4 k4).binds (ps := ["text"]) fun _ _ _ _ _ _ us hl => match us, hl with | [_], _ => rfl
    a_is_piece := f5
    d_is_piece := _
    F_is_piece := fun_mk (st := s_is_piece) l5 c5 k5
    g_is_piece := PySem.W.mg_of X G a5
    b_is_piece := (fun_mk (st := s_is_piece) l5 c5 k5).binds (ps := ["thing"]) fun _ _ _ _ _ _ us hl => match us, hl with | [_], _ => rfl
    a_is_delta := f6
    d_is_delta := _
    F_is_delta := fun_mk (st := s_is_delta) l6 c6 k6
    g_is_delta := PySem.W.mg_of X G a6
    b_is_delta := (fun_mk (st := s_is_delta) l6 c6 k6).binds (ps := ["old", "thing"]) fun _ _ _ _ _ _ us hl => match us, hl with | [_, _], _ => rfl
    a_made_by := f7
    d_made_by := _
    F_made_by := fun_mk (st := s_made_by) l7 c7 k7
    g_made_by := PySem.W.mg_of X G a7
    b_made_by := (fun_mk (st := s_made_by) l7 c7 k7).binds (ps := ["step", "old"]) fun _ _ _ _ _ _ us hl => match us, hl with | [_, _], _ => rfl
    a_applied_delta := f8
    d_applied_delta := _
    F_applied_delta := fun_mk (st := s_applied_delta) l8 c8 k8
    g_applied_delta := PySem.W.mg_of X G a8
    b_applied_delta := (fun_mk (st := s_applied_delta) l8 c8 k8).binds (ps := ["delta", "old"]) fun _ _ _ _ _ _ us hl => match us, hl with | [_, _], _ => rfl
    a_delta_cost := f9
    d_delta_cost := _
    F_delta_cost := fun_mk (st := s_delta_cost) l9 c9 k9
    g_delta_cost := PySem.W.mg_of X G a9
    b_delta_cost := (fun_mk (st := s_delta_cost) l9 c9 k9).binds (ps := ["delta", "costs"]) fun _ _ _ _ _ _ us hl => match us, hl with | [_, _], _ => rfl
    a_length_of := f10
    d_length_of := _
    F_length_of := fun_mk (st := s_length_of) l10 c10 k10
    g_length_of := PySem.W.mg_of X G a10
    b_length_of := (fun_mk (st := s_length_of) l10 c10 k10).binds (ps := ["step"]) fun _ _ _ _ _ _ us hl => match us, hl with | [_], _ => rfl
    a_part_of := f11
    d_part_of := _
    F_part_of := fun_mk (st := s_part_of) l11 c11 k11
    g_part_of := PySem.W.mg_of X G a11
    b_part_of := (fun_mk (st := s_part_of) l11 c11 k11).binds (ps := ["step", "begin", "end"]) fun _ _ _ _ _ _ us hl => match us, hl with | [_, _, _], _ => rfl
    a_parts_between := f12
    d_parts_between := _
    F_parts_between := fun_mk (st := s_parts_between) l12 c12 k12
    g_parts_between := PySem.W.mg_of X G a12
    b_parts_between := (fun_mk (st := s_parts_between) l12 c12 k12).binds (ps := ["delta", "begin", "end"]) fun _ _ _ _ _ _ us hl => match us, hl with | [_, _, _], _ => rfl
    a_with_step := f13
    d_with_step := _
    F_with_step := fun_mk (st := s_with_step) l13 c13 k13
    g_with_step := PySem.W.mg_of X G a13
    b_with_step := (fun_mk (st := s_with_step) l13 c13 k13).binds (ps := ["steps", "step"]) fun _ _ _ _ _ _ us hl => match us, hl with | [_, _], _ => rfl
    a_composed := f14
    d_composed := _
    F_composed := fun_mk (st := s_composed) l14 c14 k14
    g_composed := PySem.W.mg_of X G a14
    b_composed := (fun_mk (st := s_composed) l14 c14 k14).binds (ps := ["one", "other", "old"]) fun _ _ _ _ _ _ us hl => match us, hl with | [_, _, _], _ => rfl
    a_step_row := f15
    d_step_row := _
    F_step_row := fun_mk (st := s_step_row) l15 c15 k15
    g_step_row := PySem.W.mg_of X G a15
    b_step_row := (fun_mk (st := s_step_row) l15 c15 k15).binds (ps := ["step"]) fun _ _ _ _ _ _ us hl => match us, hl with | [_], _ => rfl
    a_delta_text := f16
    d_delta_text := _
    F_delta_text := fun_mk (st := s_delta_text) l16 c16 k16
    g_delta_text := PySem.W.mg_of X G a16
    b_delta_text := (fun_mk (st := s_delta_text) l16 c16 k16).binds (ps := ["delta"]) fun _ _ _ _ _ _ us hl => match us, hl with | [_], _ => rfl
    a_read_step := f17
    d_read_step := _
    F_read_step := fun_mk (st := s_read_step) l17 c17 k17
    g_read_step := PySem.W.mg_of X G a17
    b_read_step := (fun_mk (st := s_read_step) l17 c17 k17).binds (ps := ["row"]) fun _ _ _ _ _ _ us hl => match us, hl with | [_], _ => rfl
    a_read_delta := f18
    d_read_delta := _
    F_read_delta := fun_mk (st := s_read_delta) l18 c18 k18
    g_read_delta := PySem.W.mg_of X G a18
    b_read_delta := (fun_mk (st := s_read_delta) l18 c18 k18).binds (ps := ["text"]) fun _ _ _ _ _ _ us hl => match us, hl with | [_], _ => rfl
    a__law_draws := f19
    d__law_draws := _
    F__law_draws := fun_mk (st := s__law_draws) l19 c19 k19
    g__law_draws := PySem.W.mg_of X G a19
    b__law_draws := (fun_mk (st := s__law_draws) l19 c19 k19).binds (ps := ["script", "many"]) fun _ _ _ _ _ _ us hl => match us, hl with | [_, _], _ => rfl
    a__law_next := f20
    d__law_next := _
    F__law_next := fun_mk (st := s__law_next) l20 c20 k20
    g__law_next := PySem.W.mg_of X G a20
    b__law_next := (fun_mk (st := s__law_next) l20 c20 k20).binds (ps := ["w", "many"]) fun _ _ _ _ _ _ us hl => match us, hl with | [_, _], _ => rfl
    a__law_delta := f21
    d__law_delta := _
    F__law_delta := fun_mk (st := s__law_delta) l21 c21 k21
    g__law_delta := PySem.W.mg_of X G a21
    b__law_delta := (fun_mk (st := s__law_delta) l21 c21 k21).binds (ps := ["w", "many"]) fun _ _ _ _ _ _ us hl => match us, hl with | [_, _], _ => rfl
    a__law_from := f22
    d__law_from := _
    F__law_from := fun_mk (st := s__law_from) l22 c22 k22
    g__law_from := PySem.W.mg_of X G a22
    b__law_from := (fun_mk (st := s__law_from) l22 c22 k22).binds (ps := ["delta", "rows"]) fun _ _ _ _ _ _ us hl => match us, hl with | [_, _], _ => rfl
    a__law_steps := f23
    d__law_steps := _
    F__law_steps := fun_mk (st := s__law_steps) l23 c23 k23
    g__law_steps := PySem.W.mg_of X G a23
    b__law_steps := (fun_mk (st := s__law_steps) l23 c23 k23).binds (ps := ["rows"]) fun _ _ _ _ _ _ us hl => match us, hl with | [_], _ => rfl
    a__law_all := f24
    d__law_all := _
    F__law_all := fun_mk (st := s__law_all) l24 c24 k24
    g__law_all := PySem.W.mg_of X G a24
    b__law_all := (fun_mk (st := s__law_all) l24 c24 k24).binds (ps := ["deltas", "old", "order"]) fun _ _ _ _ _ _ us hl => match us, hl with | [_, _, _], _ => rfl
    a_law := fa
    d_law := _
    F_law := fun_mk (st := s_law) l25 c25 k25
    g_law := PySem.W.mg_of X G a25
    b_law := (fun_mk (st := s_law) l25 c25 k25).binds (ps := ["script"]) fun _ _ _ _ _ _ us hl => match us, hl with | [_], _ => rfl
    m_abs := PySem.W.mg_none_of X G z0
    m_all := PySem.W.mg_none_of X G z1
    m_bool := PySem.W.mg_none_of X G z2
    m_int := PySem.W.mg_none_of X G z3
    m_isinstance := PySem.W.mg_none_of X G z4
    m_len := PySem.W.mg_none_of X G z5
    m_list := PySem.W.mg_none_of X G z6
    m_max := PySem.W.mg_none_of X G z7
    m_min := PySem.W.mg_none_of X G z8
    m_range := PySem.W.mg_none_of X G z9
    m_str := PySem.W.mg_none_of X G z10
    m_sum := PySem.W.mg_none_of X G z11
    m_tuple := PySem.W.mg_none_of X G z12
    c_DIGITS := ⟨t0, PySem.W.mg_of X G u0⟩
  }, rfl, fun s v => .of_eq rfl⟩
end K78

namespace K78
open PySem PySem.Spec PyProof.Rows DL
variable {cs : List Cell}
def nus (xs : List Nat) : List D := xs.map fun (x : Nat) => D.int (x : Int)
@[simp] theorem nus_len {xs : List Nat} : (nus xs).length = xs.length := by simp [nus]
inductive Stp where
  | put (xs : List Nat) | cp (b l : Nat)
def Stp.d : Stp → D
  | .put xs => .tup [.str (Str.ofString "put"), .tup (nus xs)]
  | .cp b l => .tup [.str (Str.ofString "copy"), .int (b : Int), .int (l : Int)]
def Stp.good : Stp → Prop
  | .put xs => xs ≠ [] ∧ ∀ x ∈ xs, x < 256
  | .cp b l => 0 < l
def Stp.fits (n : Nat) : Stp → Prop
  | .put xs => True
  | .cp b l => b + l ≤ n
def Stp.len : Stp → Nat
  | .put xs => xs.length
  | .cp b l => l
def Stp.mk (old : List Nat) : Stp → List Nat
  | .put xs => xs
  | .cp b l => (old.drop b).take l
abbrev Dl := List Stp
def dl (δ : Dl) : D := .tup (δ.map Stp.d)
def ok (δ : Dl) (n : Nat) : Prop := ∀ s ∈ δ, s.good ∧ s.fits n
def app (δ : Dl) (old : List Nat) : List Nat := δ.flatMap (Stp.mk old)
def size (δ : Dl) : Nat := (δ.map Stp.len).sum
@[simp] theorem q_pp : eqD (.str (Str.ofString "put")) (.str (Str.ofString "put")) = some true := by kernel_rfl
@[simp] theorem q_pc : eqD (.str (Str.ofString "put")) (.str (Str.ofString "copy")) = some false := by kernel_rfl
@[simp] theorem q_cp : eqD (.str (Str.ofString "copy")) (.str (Str.ofString "put")) = some false := by kernel_rfl
@[simp] theorem q_cc : eqD (.str (Str.ofString "copy")) (.str (Str.ofString "copy")) = some true := by kernel_rfl
@[simp] theorem q_np : eqD (.str (Str.ofString "none")) (.str (Str.ofString "put")) = some false := by kernel_rfl
@[simp] theorem q_nc : eqD (.str (Str.ofString "none")) (.str (Str.ofString "copy")) = some false := by kernel_rfl
@[simp] theorem q_op : eqD (.str (Str.ofString "old")) (.str (Str.ofString "put")) = some false := by kernel_rfl
@[simp] theorem q_oo : eqD (.str (Str.ofString "old")) (.str (Str.ofString "old")) = some true := by kernel_rfl
@[simp] theorem q_po : eqD (.str (Str.ofString "put")) (.str (Str.ofString "old")) = some false := by kernel_rfl
theorem fm_some {α β : Type} {f : α → β} : ∀ {xs : List α}, xs.filterMap (fun x => some (f x)) = xs.map f
  | [] => rfl
  | x :: xs => by simp [fm_some (xs := xs)]
theorem lay_nus {k : Nat} {xs : List Nat} : ∀ x ∈ nus xs, Lay k x := fun x hx => by
  obtain ⟨n, _, rfl⟩ := List.mem_map.mp hx
  exact .int
theorem lay_word {k : Nat} {z : String} (h : (Str.ofString z).cps.toList.all (fun c => decide (c < 0x110000)) = true) : Lay k (.str (Str.ofString z)) := .str fun c hc => of_decide_eq_true (List.all_eq_true.mp h c hc)
theorem lay_stp (s : Stp) : Lay 2 s.d := by
  cases s with
  | put xs =>
    refine .tup fun x hx => ?_
    simp at hx
    rcases hx with rfl | rfl
    · exact lay_word (by kernel_rfl)
    · exact Lay.tup (k := 0) lay_nus
  | cp b l =>
    refine .tup fun x hx => ?_
    simp at hx
    rcases hx with rfl | rfl | rfl
    · exact lay_word (by kernel_rfl)
    · exact .int
    · exact .int
theorem e_is_number (i : Int) : m_is_number [.int i] cs = some (.bl (decide (0 ≤ i)), cs) := by
  apply WF.eq
  simp [m_is_number, WF_run, code_is_number]
theorem e_is_numbers {xs : List Nat} (h : ∀ x ∈ xs, x < 256) (hl : xs.length < 16777216) : m_is_numbers [.tup (nus xs)] cs = some (.bl true, cs) := by
  apply WF.eq
  simp [m_is_numbers, WF_run, code_is_numbers]
  refine WL_map (fun _ => some (.bl true)) (by simpa using hl) (fun x hx => ?_) ?_
  · obtain ⟨n, hn, rfl⟩ := List.mem_map.mp hx
    have := h n hn
    simp [WF_iff (e_is_number _)]
    omega
  · rw [fm_some]
    simp [allB_true]
theorem e_is_piece {s : Stp} (h : s.good) (hl : s.len < 16777216) : m_is_piece [s.d] cs = some (.bl true, cs) := by
  apply WF.eq
  cases s with
  | put xs =>
    obtain ⟨h1, h2⟩ := h
    simp [m_is_piece, WF_run, code_is_piece, Stp.d, WF_iff (e_is_numbers h2 hl), eqD_tup_nil (k := 0) lay_nus]
    simpa [nus] using h1
  | cp b l =>
    simp [m_is_piece, WF_run, code_is_piece, Stp.d, WF_iff (e_is_number _)]
    have : 0 < l := h
    omega
theorem e_is_delta {δ : Dl} {old : List D} (h : ok δ old.length) (hl : δ.length < 16777216) (hs : ∀ s ∈ δ, s.len < 16777216) : m_is_delta [.tup old, dl δ] cs = some (.bl true, cs) := by
  apply WF.eq
  simp [m_is_delta, WF_run, code_is_delta, dl]
  refine WL_map (fun _ => some (.bl true)) (by simpa using hl) (fun x hx => ?_) ?_
  · obtain ⟨s, hn, rfl⟩ := List.mem_map.mp hx
    simp [WF_iff (e_is_piece (h s hn).1 (hs s hn))]
  · rw [fm_some]
    simp [allB_true]
    refine WL_map (fun x => match x with
      | .tup [_, _, _] => some (.bl true)
      | _ => none) (by simpa using hl) (fun x hx => ?_) ?_
    · obtain ⟨s, hn, rfl⟩ := List.mem_map.mp hx
      cases s with
      | put xs => simp [Stp.d]
      | cp b l =>
        simp [Stp.d]
        have : b + l ≤ old.length := (h _ hn).2
        omega
    · have e : ∀ y ∈ (δ.map Stp.d).filterMap (fun x => match x with
        | .tup [_, _, _] => some (D.bl true)
        | _ => none), y = .bl true := by
        intro y hy
        obtain ⟨x, _, q⟩ := List.mem_filterMap.mp hy
        split at q
        · cases q; rfl
        · cases q
      simp [-List.filterMap_map, allB_true e]
theorem cut_mid {α : Type} {xs : List α} {b l : Nat} (h : b + l ≤ xs.length) : DL.cutD xs (some (b : Int)) (some ((b : Int) + (l : Int))) = (xs.drop b).take l := by
  unfold DL.cutD
  rw [show (b : Int) + (l : Int) = ((b + l : Nat) : Int) by omega, HT.sIx_nat, HT.sIx_nat, Nat.min_eq_left (show b ≤ xs.length by omega), Nat.min_eq_left h]
  congr 1
  omega
theorem e_made_by {s : Stp} {old : List Nat} (h : s.fits old.length) : m_made_by [s.d, .tup (nus old)] cs = some (.tup (nus (s.mk old)), cs) := by
  apply WF.eq
  cases s with
  | put xs => simp [m_made_by, WF_run, code_made_by, Stp.d, Stp.mk]
  | cp b l =>
    have h : b + l ≤ old.length := h
    simp [m_made_by, WF_run, code_made_by, Stp.d, Stp.mk, cut_mid (show b + l ≤ (nus old).length by simpa using h)]
    simp [nus]
theorem app_len {δ : Dl} {old : List Nat} (h : ok δ old.length) : (app δ old).length = size δ := by
  unfold app size
  rw [List.length_flatMap]
  congr 1
  refine List.map_congr_left fun s hs => ?_
  have := (h s hs).2
  cases s with
  | put xs => rfl
  | cp b l => simp [Stp.mk, Stp.len, Stp.fits] at this ⊢; omega
theorem sum_ge {α : Type} {f : α → Nat} : ∀ {xs : List α} {x : α}, x ∈ xs → f x ≤ (xs.map f).sum
  | y :: xs, x, h => by
    rw [List.map_cons, List.sum_cons]
    rcases List.mem_cons.mp h with rfl | h
    · omega
    · have := sum_ge (f := f) h; omega
theorem len_le_sum {α : Type} {f : α → Nat} : ∀ {xs : List α}, (∀ x ∈ xs, 0 < f x) → xs.length ≤ (xs.map f).sum
  | [], _ => Nat.zero_le _
  | x :: xs, h => by
    have := h x List.mem_cons_self
    have := len_le_sum (f := f) fun y hy => h y (List.mem_cons_of_mem _ hy)
    simp
    omega
theorem good_len {s : Stp} (h : s.good) : 0 < s.len := by
  cases s with
  | put xs => exact List.length_pos_iff.mpr h.1
  | cp b l => exact h
theorem ok_len {δ : Dl} {n : Nat} (h : ok δ n) : δ.length ≤ size δ := len_le_sum fun s hs => good_len (h s hs).1
theorem len_size {δ : Dl} {s : Stp} (h : s ∈ δ) : s.len ≤ size δ := sum_ge h
theorem e_applied {δ : Dl} {old : List Nat} (h : ok δ old.length) (hl : size δ < 16777216) : m_applied_delta [dl δ, .tup (nus old)] cs = some (.tup (nus (app δ old)), cs) := by
  apply WF.eq
  have hd : m_is_delta [.tup (nus old), dl δ] cs = some (.bl true, cs) := e_is_delta (by simpa using h) (by have := ok_len h; omega) fun s hs => by have := len_size hs; omega
  simp [m_applied_delta, WF_run, code_applied_delta, WF_iff hd]
  simp [dl]
  refine W_forM (fun p s => ∃ x, s = ⟨[.sh (dl δ), .sh (.tup (nus old)), .ol (nus (app p old)), x], cs⟩) ⟨.no, rfl⟩ ?_ ?_
  · rintro p s0 q s e ⟨y, rfl⟩
    have hs0 : s0 ∈ δ := by rw [e]; simp
    simp [WF_iff (e_made_by (h s0 hs0).2)]
    have hlen : (app p old).length + (Stp.mk old s0).length ≤ size δ := by
      rw [← app_len h, e]
      unfold app
      simp
    refine ⟨by omega, ?_⟩
    simp [app, nus]
  · rintro s ⟨x, rfl⟩
    simp
end K78

namespace K78
open DL

/-! ### the plain law: rows and their normal form -/
inductive Row where
  | put (v : Nat) | old (k : Nat)
def ex : Stp → List Row
  | .put xs => xs.map .put
  | .cp b l => (List.range' b l).map .old
def R (δ : Dl) : List Row := δ.flatMap ex
def one : Row → Stp
  | .put v => .put [v]
  | .old k => .cp k 1
def addS (ss : Dl) (s : Stp) : Dl := match ss.getLast?, s with
  | some (.put xs), .put ys => ss.dropLast ++ [.put (xs ++ ys)]
  | some (.cp b l), .cp b' l' => if b + l = b' then ss.dropLast ++ [.cp b (l + l')] else ss ++ [.cp b' l']
  | _, s => ss ++ [s]
def nf (rs : List Row) : Dl := rs.foldl (fun ss r => addS ss (one r)) []
theorem ex_len (s : Stp) : (ex s).length = s.len := by cases s <;> simp [ex, Stp.len]
theorem R_len (δ : Dl) : (R δ).length = size δ := by
  unfold R size
  rw [List.length_flatMap]
  simp [ex_len]
theorem R_app (a b : Dl) : R (a ++ b) = R a ++ R b := by simp [R]
theorem R_one (s : Stp) : R [s] = ex s := by simp [R]
theorem last_split {ss : Dl} {s : Stp} (h : ss.getLast? = some s) : ss = ss.dropLast ++ [s] := by
  obtain ⟨hne, e⟩ := List.getLast?_eq_some_iff.mp h
  subst e
  simp
theorem R_addS (ss : Dl) (s : Stp) : R (addS ss s) = R ss ++ ex s := by
  have base : R (ss ++ [s]) = R ss ++ ex s := by rw [R_app, R_one]
  unfold addS
  split
  · rename_i xs ys h
    have e := last_split h
    rw [R_app, R_one]
    conv => rhs; rw [e, R_app, R_one]
    simp [ex]
  · rename_i b l b' l' h
    have e := last_split h
    split
    · rename_i hb
      subst hb
      rw [R_app, R_one]
      conv => rhs; rw [e, R_app, R_one]
      simp [ex]
      rw [← List.map_append, List.range'_append_1]
    · exact base
  · exact base
theorem one_ex (r : Row) : ex (one r) = [r] := by cases r <;> rfl
theorem R_fold (rs : List Row) (ss : Dl) : R (rs.foldl (fun ss r => addS ss (one r)) ss) = R ss ++ rs := by
  induction rs generalizing ss with
  | nil => simp
  | cons r rs ih => rw [List.foldl_cons, ih, R_addS, one_ex]; simp
theorem R_nf (rs : List Row) : R (nf rs) = rs := by
  unfold nf
  rw [R_fold]
  simp [R]
theorem fold_put {ss : Dl} {ys : List Nat} (xs : List Nat) (h : ss.getLast? = some (.put ys)) : (xs.map Row.put).foldl (fun ss r => addS ss (one r)) ss = ss.dropLast ++ [.put (ys ++ xs)] := by
  induction xs generalizing ss ys with
  | nil => simp; exact last_split h
  | cons x xs ih =>
    rw [List.map_cons, List.foldl_cons]
    have e : addS ss (one (.put x)) = ss.dropLast ++ [.put (ys ++ [x])] := by unfold addS; rw [h]; rfl
    rw [e, ih (ys := ys ++ [x]) (by simp)]
    simp
theorem fold_old {ss : Dl} {b l : Nat} (k : Nat) (h : ss.getLast? = some (.cp b l)) : ((List.range' (b + l) k).map Row.old).foldl (fun ss r => addS ss (one r)) ss = ss.dropLast ++ [.cp b (l + k)] := by
  induction k generalizing ss l with
  | zero => simp; exact last_split h
  | succ k ih =>
    rw [List.range'_succ, List.map_cons, List.foldl_cons]
    have e : addS ss (one (.old (b + l))) = ss.dropLast ++ [.cp b (l + 1)] := by
      unfold addS
      rw [h]
      simp [one]
    rw [e, show b + l + 1 = b + (l + 1) by omega, ih (l := l + 1) (by simp)]
    simp
    omega
theorem addS_fold {ss : Dl} {s : Stp} (h : 0 < s.len) : addS ss s = (ex s).foldl (fun ss r => addS ss (one r)) ss := by
  cases s with
  | put xs =>
    cases xs with
    | nil => simp [Stp.len] at h
    | cons x xs =>
      show addS ss (.put (x :: xs)) = ((x :: xs).map Row.put).foldl (fun ss r => addS ss (one r)) ss
      rw [List.map_cons, List.foldl_cons]
      cases hl : ss.getLast? with
      | none =>
        have e : addS ss (one (.put x)) = ss ++ [.put [x]] := by unfold addS; rw [hl]; rfl
        rw [e, fold_put (ys := [x]) xs (by simp)]
        unfold addS
        rw [hl]
        simp
      | some t =>
        cases t with
        | put ys =>
          have e : addS ss (one (.put x)) = ss.dropLast ++ [.put (ys ++ [x])] := by unfold addS; rw [hl]; rfl
          rw [e, fold_put (ys := ys ++ [x]) xs (by simp)]
          unfold addS
          rw [hl]
          simp
        | cp b l =>
          have e : addS ss (one (.put x)) = ss ++ [.put [x]] := by unfold addS; rw [hl]; rfl
          rw [e, fold_put (ys := [x]) xs (by simp)]
          unfold addS
          rw [hl]
          simp
  | cp b l =>
    cases l with
    | zero => simp [Stp.len] at h
    | succ l =>
      show addS ss (.cp b (l + 1)) = ((List.range' b (l + 1)).map Row.old).foldl (fun ss r => addS ss (one r)) ss
      rw [List.range'_succ, List.map_cons, List.foldl_cons]
      have fin : ∀ tt : Dl, tt.getLast? = some (.cp b 1) → ((List.range' (b + 1) l).map Row.old).foldl (fun ss r => addS ss (one r)) tt = tt.dropLast ++ [.cp b (l + 1)] := fun tt ht => by
        rw [fold_old l ht, Nat.add_comm 1 l]
      cases hl : ss.getLast? with
      | none =>
        have e : addS ss (one (.old b)) = ss ++ [.cp b 1] := by unfold addS; rw [hl]; rfl
        rw [e, fin _ (by simp)]
        unfold addS
        rw [hl]
        simp
      | some t =>
        cases t with
        | put ys =>
          have e : addS ss (one (.old b)) = ss ++ [.cp b 1] := by unfold addS; rw [hl]; rfl
          rw [e, fin _ (by simp)]
          unfold addS
          rw [hl]
          simp
        | cp b0 l0 =>
          by_cases hb : b0 + l0 = b
          · subst hb
            have e : addS ss (one (.old (b0 + l0))) = ss.dropLast ++ [.cp b0 (l0 + 1)] := by unfold addS; rw [hl]; simp [one]
            rw [e, show b0 + l0 + 1 = b0 + (l0 + 1) by omega, fold_old (l := l0 + 1) l (by simp)]
            unfold addS
            rw [hl]
            simp
            omega
          · have e : addS ss (one (.old b)) = ss ++ [.cp b 1] := by unfold addS; rw [hl]; simp [one, hb]
            rw [e, fin _ (by simp)]
            unfold addS
            rw [hl]
            simp [hb]
theorem nf_steps (δ : Dl) (h : ∀ s ∈ δ, 0 < s.len) (ss : Dl) : δ.foldl addS ss = (R δ).foldl (fun ss r => addS ss (one r)) ss := by
  induction δ generalizing ss with
  | nil => rfl
  | cons s δ ih =>
    rw [List.foldl_cons, ih fun t ht => h t (List.mem_cons_of_mem _ ht), show R (s :: δ) = ex s ++ R δ by simp [R], List.foldl_append, ← addS_fold (h s List.mem_cons_self)]

/-! ### good steps -/
def rgood : Row → Prop
  | .put v => v < 256
  | .old _ => True
def rin (n : Nat) : Row → Prop
  | .put _ => True
  | .old k => k < n
theorem addS_good {ss : Dl} {r : Row} (h : ∀ s ∈ ss, s.good) (hr : rgood r) : ∀ s ∈ addS ss (one r), s.good := by
  have h1 : (one r).good := by
    cases r with
    | put v => exact ⟨by simp, fun x hx => by rw [List.mem_singleton.mp hx]; exact hr⟩
    | old k => exact Nat.one_pos
  have base : ∀ s ∈ ss ++ [one r], s.good := fun s hs => by
    rcases List.mem_append.mp hs with hs | hs
    · exact h s hs
    · rw [List.mem_singleton.mp hs]; exact h1
  unfold addS
  split
  · rename_i xs ys hl e
    intro s hs
    rcases List.mem_append.mp hs with hs | hs
    · exact h s (List.dropLast_subset _ hs)
    · rw [List.mem_singleton.mp hs]
      rw [e] at h1
      have h2 := h _ (List.mem_of_getLast? hl)
      refine ⟨by simp [h1.1], fun x hx => ?_⟩
      rcases List.mem_append.mp hx with hx | hx
      · exact h2.2 x hx
      · exact h1.2 x hx
  · rename_i b l b' l' hl e
    rw [e] at base
    split
    · intro s hs
      rcases List.mem_append.mp hs with hs | hs
      · exact h s (List.dropLast_subset _ hs)
      · rw [List.mem_singleton.mp hs]
        have h2 := h _ (List.mem_of_getLast? hl)
        have : 0 < l := h2
        show 0 < l + l'
        omega
    · exact base
  · exact base
theorem nf_good {rs : List Row} (h : ∀ r ∈ rs, rgood r) : ∀ s ∈ nf rs, s.good := by
  unfold nf
  have key : ∀ (rs : List Row) (ss : Dl), (∀ r ∈ rs, rgood r) → (∀ s ∈ ss, s.good) → ∀ s ∈ rs.foldl (fun ss r => addS ss (one r)) ss, s.good := by
    intro rs
    induction rs with
    | nil => intro ss _ h; exact h
    | cons r rs ih => intro ss hr h; exact ih _ (fun t ht => hr t (List.mem_cons_of_mem _ ht)) (addS_good h (hr r List.mem_cons_self))
  exact key rs [] h (by simp)
theorem fits_of {s : Stp} {n : Nat} (hg : s.good) (h : ∀ r ∈ ex s, rin n r) : s.fits n := by
  cases s with
  | put xs => trivial
  | cp b l =>
    have hl : 0 < l := hg
    have := h (.old (b + l - 1)) (by unfold ex; simp; omega)
    have : b + l - 1 < n := this
    show b + l ≤ n
    omega
theorem ok_nf {rs : List Row} {n : Nat} (h : ∀ r ∈ rs, rgood r ∧ rin n r) : ok (nf rs) n := fun s hs => by
  have hg := nf_good (fun r hr => (h r hr).1) s hs
  refine ⟨hg, fits_of hg fun r hr => ?_⟩
  have : r ∈ R (nf rs) := List.mem_flatMap.mpr ⟨s, hs, hr⟩
  rw [R_nf] at this
  exact (h r this).2
theorem ok_rows {δ : Dl} {n : Nat} (h : ok δ n) : ∀ r ∈ R δ, rgood r ∧ rin n r := fun r hr => by
  obtain ⟨s, hs, hr⟩ := List.mem_flatMap.mp hr
  obtain ⟨h1, h2⟩ := h s hs
  cases s with
  | put xs =>
    obtain ⟨x, hx, rfl⟩ := List.mem_map.mp hr
    exact ⟨h1.2 x hx, trivial⟩
  | cp b l =>
    obtain ⟨x, hx, rfl⟩ := List.mem_map.mp hr
    have h2 : b + l ≤ n := h2
    obtain ⟨h3, h4⟩ := List.mem_range'_1.mp hx
    exact ⟨trivial, show x < n by omega⟩

/-! ### one change behind another -/
def pick (rows : List Row) : Row → List Row
  | .put v => [.put v]
  | .old k => rows[k]?.toList
def sub (rs rows : List Row) : List Row := rs.flatMap (pick rows)
def frm (δ : Dl) (rows : List Row) : List Row := δ.flatMap fun s => match s with
  | .put xs => xs.map .put
  | .cp b l => (rows.drop b).take l
theorem take_range {α : Type} (xs : List α) (b l : Nat) : (List.range' b l).flatMap (fun k => xs[k]?.toList) = (xs.drop b).take l := by
  induction l generalizing b with
  | zero => simp
  | succ l ih =>
    rw [List.range'_succ, List.flatMap_cons, ih]
    by_cases h : b < xs.length
    · rw [List.getElem?_eq_getElem h]
      conv => rhs; rw [List.drop_eq_getElem_cons h, List.take_succ_cons]
      rfl
    · rw [List.getElem?_eq_none (by omega), List.drop_eq_nil_of_le (by omega), List.drop_eq_nil_of_le (by omega)]
      simp
theorem frm_sub (δ : Dl) (rows : List Row) : frm δ rows = sub (R δ) rows := by
  unfold frm sub R
  rw [List.flatMap_assoc]
  congr 1
  funext s
  cases s with
  | put xs =>
    show xs.map Row.put = (xs.map Row.put).flatMap (pick rows)
    rw [List.flatMap_map, List.map_eq_flatMap]
    rfl
  | cp b l =>
    unfold ex
    rw [List.flatMap_map]
    exact (take_range rows b l).symm
def val (old : List Nat) : Row → Nat
  | .put v => v
  | .old k => old.getD k 0
def pick1 (rows : List Row) : Row → Row
  | .put v => .put v
  | .old k => rows.getD k (.put 0)
theorem sub_map {rs rows : List Row} (h : ∀ r ∈ rs, rin rows.length r) : sub rs rows = rs.map (pick1 rows) := by
  unfold sub
  induction rs with
  | nil => rfl
  | cons r rs ih =>
    rw [List.flatMap_cons, ih fun t ht => h t (List.mem_cons_of_mem _ ht), List.map_cons]
    cases r with
    | put v => rfl
    | old k =>
      have hk : k < rows.length := h _ List.mem_cons_self
      simp [pick, pick1, hk]
theorem sub_assoc {a b c : List Row} (ha : ∀ r ∈ a, rin b.length r) (hb : ∀ r ∈ b, rin c.length r) : sub (sub a b) c = sub a (sub b c) := by
  have hl : (sub b c).length = b.length := by rw [sub_map hb]; simp
  rw [sub_map (rs := a) (rows := sub b c) (by rw [hl]; exact ha), sub_map ha, sub_map (rs := a.map (pick1 b)), sub_map hb, List.map_map]
  · refine List.map_congr_left fun r hr => ?_
    cases r with
    | put v => rfl
    | old k =>
      have hk : k < b.length := ha _ hr
      simp [pick1, hk]
  · intro r hr
    obtain ⟨t, ht, rfl⟩ := List.mem_map.mp hr
    cases t with
    | put v => trivial
    | old k =>
      have hk : k < b.length := ha _ ht
      simp only [pick1]
      rw [List.getD_eq_getElem?_getD, List.getElem?_eq_getElem hk]
      exact hb _ (List.getElem_mem hk)
def idr (n : Nat) : List Row := (List.range n).map .old
theorem sub_id {rs : List Row} {n : Nat} (h : ∀ r ∈ rs, rin n r) : sub rs (idr n) = rs := by
  rw [sub_map (by simpa [idr] using h)]
  conv => rhs; rw [← List.map_id rs]
  refine List.map_congr_left fun r hr => ?_
  cases r with
  | put v => rfl
  | old k =>
    have hk : k < n := h _ hr
    simp [pick1, idr, hk]
/-- what a chain of changes leads to -/
def chain (ds : List Dl) (rows : List Row) : List Row := ds.foldl (fun rows δ => frm δ rows) rows
def comp (a b : Dl) : Dl := nf (frm b (R a))
theorem frm_len {δ : Dl} {rows : List Row} (h : ok δ rows.length) : (frm δ rows).length = size δ := by
  rw [frm_sub, sub_map fun r hr => (ok_rows h r hr).2]
  simp [R_len]
theorem fm_congr {α β : Type} {f g : α → List β} : ∀ {xs : List α}, (∀ x ∈ xs, f x = g x) → xs.flatMap f = xs.flatMap g
  | [], _ => rfl
  | x :: xs, h => by rw [List.flatMap_cons, List.flatMap_cons, h x List.mem_cons_self, fm_congr fun y hy => h y (List.mem_cons_of_mem _ hy)]
theorem app_rows {δ : Dl} {old : List Nat} (h : ok δ old.length) : app δ old = (R δ).map (val old) := by
  unfold app R
  rw [List.map_flatMap]
  refine fm_congr fun s hs0 => ?_
  have hs := (h s hs0).2
  cases s with
  | put xs => simp [ex, Stp.mk, Function.comp_def, val]
  | cp b l =>
    have hb : b + l ≤ old.length := hs
    simp only [ex, Stp.mk, List.map_map]
    rw [← take_range]
    clear h hs hs0
    induction l generalizing b with
    | zero => rfl
    | succ l ih =>
      rw [List.range'_succ, List.flatMap_cons, List.map_cons, ih (b + 1) (by omega), List.getElem?_eq_getElem (by omega)]
      simp [val, Function.comp_def]
      rw [List.getElem?_eq_getElem (by omega)]
      rfl
theorem app_frm {δ : Dl} {rows : List Row} {old : List Nat} : app δ (rows.map (val old)) = (frm δ rows).map (val old) := by
  unfold app frm
  rw [List.map_flatMap]
  congr 1
  funext s
  cases s with
  | put xs => simp [Stp.mk, Function.comp_def, val]
  | cp b l => simp [Stp.mk, List.map_take, List.map_drop]
theorem comp_rows {a b : Dl} {n : Nat} (ha : ok a n) (hb : ok b (size a)) : ∀ r ∈ frm b (R a), rgood r ∧ rin n r := fun r hr => by
  rw [frm_sub, sub_map fun r hr => by rw [R_len]; exact (ok_rows hb r hr).2] at hr
  obtain ⟨t, ht, rfl⟩ := List.mem_map.mp hr
  have h1 := ok_rows hb t ht
  cases t with
  | put v => exact ⟨h1.1, trivial⟩
  | old k =>
    have hk : k < (R a).length := by rw [R_len]; exact h1.2
    simp only [pick1]
    rw [List.getD_eq_getElem?_getD, List.getElem?_eq_getElem hk]
    exact ok_rows ha _ (List.getElem_mem hk)
theorem comp_ok {a b : Dl} {n : Nat} (ha : ok a n) (hb : ok b (size a)) : ok (comp a b) n := ok_nf (comp_rows ha hb)
theorem comp_size {a b : Dl} (hb : ok b (size a)) : size (comp a b) = size b := by
  rw [← R_len, comp, R_nf, frm_len (by rw [R_len]; exact hb)]
theorem comp_frm {a b : Dl} {rows : List Row} (ha : ok a rows.length) (hb : ok b (size a)) : frm (comp a b) rows = frm b (frm a rows) := by
  rw [frm_sub, comp, R_nf, frm_sub, frm_sub, frm_sub]
  exact sub_assoc (fun r hr => by rw [R_len]; exact (ok_rows hb r hr).2) fun r hr => (ok_rows ha r hr).2
theorem comp_app {a b : Dl} {old : List Nat} (ha : ok a old.length) (hb : ok b (size a)) : app (comp a b) old = app b (app a old) := by
  rw [app_rows (comp_ok ha hb), comp, R_nf, app_rows ha, app_frm]
end K78

namespace K78
open PySem PySem.Spec PyProof.Rows DL
variable {cs : List Cell}
theorem e_length (s : Stp) : m_length_of [s.d] cs = some (.int (s.len : Int), cs) := by
  apply WF.eq
  cases s <;> simp [m_length_of, WF_run, code_length_of, Stp.d, Stp.len]
def pt (lo hi : Nat) : Stp → Stp
  | .put xs => .put ((xs.drop lo).take (hi - lo))
  | .cp b l => .cp (b + lo) (hi - lo)
theorem cut_bt {α : Type} {xs : List α} {b e : Nat} (h : b ≤ e) (he : e ≤ xs.length) : DL.cutD xs (some (b : Int)) (some (e : Int)) = (xs.drop b).take (e - b) := by
  have := cut_mid (xs := xs) (b := b) (l := e - b) (by omega)
  rw [show (b : Int) + ((e - b : Nat) : Int) = (e : Int) by omega] at this
  exact this
theorem e_part {s : Stp} {lo hi : Nat} (h : lo < hi) (hh : hi ≤ s.len) : m_part_of [s.d, .int (lo : Int), .int (hi : Int)] cs = some ((pt lo hi s).d, cs) := by
  apply WF.eq
  cases s with
  | put xs =>
    have hh : hi ≤ (nus xs).length := by simpa [Stp.len] using hh
    simp [m_part_of, WF_run, code_part_of, Stp.d, pt, cut_bt (Nat.le_of_lt h) hh]
    simp [nus]
  | cp b l =>
    simp [m_part_of, WF_run, code_part_of, Stp.d, pt]
    omega
def parts (b e : Nat) : Nat → Dl → Dl
  | _, [] => []
  | at_, s :: δ => (if b - at_ < min (e - at_) s.len then [pt (b - at_) (min (e - at_) s.len) s] else []) ++ parts b e (at_ + s.len) δ
theorem parts_app {b e : Nat} (δ δ' : Dl) (k : Nat) : parts b e k (δ ++ δ') = parts b e k δ ++ parts b e (k + size δ) δ' := by
  induction δ generalizing k with
  | nil => simp [parts, size]
  | cons s δ ih =>
    rw [List.cons_append, parts, parts, ih, List.append_assoc]
    congr 3
    simp [size]
    omega
theorem ex_pt {s : Stp} {lo hi : Nat} (hh : hi ≤ s.len) (hl : lo ≤ hi) : ex (pt lo hi s) = ((ex s).drop lo).take (hi - lo) := by
  cases s with
  | put xs => simp [ex, pt, List.map_take, List.map_drop]
  | cp b l =>
    have : hi ≤ l := hh
    simp only [ex, pt]
    rw [← List.map_drop, ← List.map_take]
    congr 1
    refine List.ext_getElem (by simp; omega) fun i h1 h2 => ?_
    simp
theorem R_parts {b e : Nat} (δ : Dl) (k : Nat) (h : b ≤ e) : R (parts b e k δ) = ((R δ).drop (b - k)).take (e - k - (b - k)) := by
  induction δ generalizing k with
  | nil => simp [parts, R]
  | cons s δ ih =>
    rw [parts, R_app, ih, show R (s :: δ) = ex s ++ R δ by simp [R], List.drop_append, List.take_append]
    congr 1
    · split
      · rename_i hlt
        rw [R_one, ex_pt (Nat.min_le_right _ _) (by omega)]
        by_cases h2 : e - k ≤ s.len
        · rw [Nat.min_eq_left h2]
        · rw [Nat.min_eq_right (by omega), List.take_of_length_le (by simp [ex_len]), List.take_of_length_le (by simp [ex_len]; omega)]
      · rename_i hlt
        symm
        rw [show R ([] : Dl) = [] from rfl, List.take_eq_nil_iff]
        by_cases h2 : e - k ≤ s.len
        · left; omega
        · right; rw [List.drop_eq_nil_iff, ex_len]; omega
    · simp only [List.length_drop, ex_len]
      congr 1
      · omega
      · congr 1; omega
theorem parts_len {b e k : Nat} {δ : Dl} : ∀ s ∈ parts b e k δ, 0 < s.len := by
  induction δ generalizing k with
  | nil => simp [parts]
  | cons s δ ih =>
    intro t ht
    rw [parts] at ht
    rcases List.mem_append.mp ht with ht | ht
    · split at ht
      · rename_i hlt
        rw [List.mem_singleton.mp ht]
        cases s with
        | put xs => simp [pt, Stp.len] at hlt ⊢; omega
        | cp b l => simp [pt, Stp.len] at hlt ⊢; omega
      · cases ht
    · exact ih t ht
theorem parts_count {b e k : Nat} {δ : Dl} : (parts b e k δ).length ≤ δ.length := by
  induction δ generalizing k with
  | nil => simp [parts]
  | cons s δ ih =>
    have := ih (k := k + s.len)
    rw [parts, List.length_append, List.length_cons]
    split <;> simp <;> omega
theorem size_app (a b : Dl) : size (a ++ b) = size a + size b := by simp [size]
theorem e_parts {δ : Dl} {b e : Nat} (hl : δ.length < 16777216) : m_parts_between [dl δ, .int (b : Int), .int (e : Int)] cs = some (.lst ((parts b e 0 δ).map Stp.d), cs) := by
  apply WF.eq
  simp [m_parts_between, WF_run, code_parts_between, dl]
  refine W_forM (fun p s => ∃ x y z, s = ⟨[.sh (dl δ), .sh (.int b), .sh (.int e), .ol ((parts b e 0 p).map Stp.d), .sh (.int (size p : Int)), x, y, z], cs⟩) ⟨.no, .no, .no, rfl⟩ ?_ ?_
  · rintro p s q st e1 ⟨x, y, z, rfl⟩
    simp [WF_iff (e_length _)]
    have hp := parts_app (b := b) (e := e) p [s] 0
    rw [Nat.zero_add, parts, parts, List.append_nil] at hp
    have hc := parts_count (b := b) (e := e) (k := 0) (δ := p)
    have hlt : p.length < δ.length := by rw [e1]; simp
    generalize hlo : (if ((b : Int) - (size p : Int)) < 0 then (0 : Int) else (b : Int) - (size p : Int)) = lo
    have hlo' : lo = ((b - size p : Nat) : Int) := by split at hlo <;> omega
    subst hlo'
    generalize hhi : (if (s.len : Int) < (e : Int) - (size p : Int) then (s.len : Int) else (e : Int) - (size p : Int)) = hi
    refine ⟨fun h => ?_, fun h => ?_⟩
    · have hhi' : hi = ((min (e - size p) s.len : Nat) : Int) := by split at hhi <;> omega
      subst hhi'
      have h : b - size p < min (e - size p) s.len := by omega
      rw [if_pos h] at hp
      simp [WF_iff (e_part h (Nat.min_le_right _ _))]
      refine ⟨by omega, ?_⟩
      simp [WF_iff (e_length _), hp, size_app]
      try simp [size]
    · have h : ¬ (b - size p < min (e - size p) s.len) := by split at hhi <;> omega
      rw [if_neg h] at hp
      simp [WF_iff (e_length _), hp, size_app]
      try simp [size]
  · rintro s ⟨x, y, z, rfl⟩
    simp
end K78

namespace K78
open PySem PySem.Spec PyProof.Rows DL
variable {cs : List Cell}
theorem lay_stps {ss : Dl} : ∀ x ∈ ss.map Stp.d, Lay 2 x := fun x hx => by
  obtain ⟨s, _, rfl⟩ := List.mem_map.mp hx
  exact lay_stp s
theorem sIx_m1 {n d : Nat} : HT.sIx n d (some (-1)) = n - 1 := by
  show (if (-1 : Int) < 0 then (-1 + (n : Int)).toNat else min (-1 : Int).toNat n) = n - 1
  rw [if_pos (by omega)]
  omega
theorem cut_init {α : Type} {xs : List α} : DL.cutD xs none (some (-1)) = xs.dropLast := by
  unfold DL.cutD
  rw [HT.sIx_none, sIx_m1, List.dropLast_eq_take]
  simp
theorem getLast_map {α β : Type} {f : α → β} {xs : List α} : (xs.map f).getLast? = xs.getLast?.map f := by simp
theorem addS_0 {s : Stp} : addS [] s = [s] := by unfold addS; cases s <;> rfl
theorem addS_pp {ss : Dl} {xs ys : List Nat} (h : ss.getLast? = some (.put xs)) : addS ss (.put ys) = ss.dropLast ++ [.put (xs ++ ys)] := by unfold addS; rw [h]
theorem addS_pc {ss : Dl} {xs : List Nat} {b l : Nat} (h : ss.getLast? = some (.put xs)) : addS ss (.cp b l) = ss ++ [.cp b l] := by unfold addS; rw [h]
theorem addS_cp {ss : Dl} {xs : List Nat} {b l : Nat} (h : ss.getLast? = some (.cp b l)) : addS ss (.put xs) = ss ++ [.put xs] := by unfold addS; rw [h]
theorem addS_cc {ss : Dl} {b l b' l' : Nat} (h : ss.getLast? = some (.cp b l)) (e : b + l = b') : addS ss (.cp b' l') = ss.dropLast ++ [.cp b (l + l')] := by unfold addS; rw [h]; exact if_pos e
theorem addS_cn {ss : Dl} {b l b' l' : Nat} (h : ss.getLast? = some (.cp b l)) (e : b + l ≠ b') : addS ss (.cp b' l') = ss ++ [.cp b' l'] := by unfold addS; rw [h]; exact if_neg e
theorem e_with_step {ss : Dl} {s : Stp} (h1 : ss.length < 16777215) (h2 : ∀ t ∈ ss, t.len + s.len ≤ 16777216) : m_with_step [.lst (ss.map Stp.d), s.d] cs = some (.lst ((addS ss s).map Stp.d), cs) := by
  apply WF.eq
  simp [m_with_step, WF_run, code_with_step, eqD_lst_nil lay_stps]
  cases hl : ss.getLast? with
  | none =>
    have : ss = [] := by simpa using hl
    subst this
    cases s <;> simp [Stp.d, addS_0]
  | some t =>
    have hne : ss ≠ [] := by intro e; rw [e] at hl; cases hl
    have hne' : ss.isEmpty = false := by simpa using hne
    have ht := h2 t (List.mem_of_getLast? hl)
    have hd : (ss.map Stp.d).dropLast = ss.dropLast.map Stp.d := by rw [List.map_dropLast]
    simp [hne, hne']
    cases t with
    | put xs =>
      cases s with
      | put ys =>
        simp [Stp.d, cut_init, addS_pp hl]
        simp [Stp.len] at ht
        refine ⟨by omega, by omega, ?_⟩
        simp [nus]
      | cp b' l' =>
        simp [Stp.d, cut_init, addS_pc hl]
        omega
    | cp b l =>
      cases s with
      | put ys =>
        simp [Stp.d, cut_init, addS_cp hl]
        omega
      | cp b' l' =>
        simp [Stp.d, cut_init]
        refine ⟨fun e => ?_, fun e => ?_⟩
        · have e : b + l = b' := by omega
          simp [addS_cc hl e, Stp.d]
          omega
        · have e : b + l ≠ b' := by omega
          simp [addS_cn hl e, Stp.d]
          omega
theorem nf_bound {δ : Dl} (h : ∀ s ∈ δ, 0 < s.len) : (δ.foldl addS []).length ≤ size δ ∧ ∀ t ∈ δ.foldl addS [], t.len ≤ size δ := by
  have e := nf_steps δ h []
  have hR : R (δ.foldl addS []) = R δ := by rw [e, R_fold]; simp [R]
  have hs : size (δ.foldl addS []) = size δ := by rw [← R_len, hR, R_len]
  have hg : ∀ s ∈ δ.foldl addS [], 0 < s.len := by
    clear e hR hs
    have key : ∀ (δ ss : Dl), (∀ s ∈ δ, 0 < s.len) → (∀ s ∈ ss, 0 < s.len) → ∀ s ∈ δ.foldl addS ss, 0 < s.len := by
      intro δ
      induction δ with
      | nil => intro ss _ h; exact h
      | cons s δ ih =>
        intro ss hδ hss
        refine ih _ (fun t ht => hδ t (List.mem_cons_of_mem _ ht)) fun t ht => ?_
        have h1 := hδ s List.mem_cons_self
        unfold addS at ht
        split at ht
        · rename_i xs ys hl
          rcases List.mem_append.mp ht with ht | ht
          · exact hss t (List.dropLast_subset _ ht)
          · rw [List.mem_singleton.mp ht]; simp [Stp.len] at h1 ⊢; omega
        · split at ht
          · rename_i b l b' l' hl hb
            rcases List.mem_append.mp ht with ht | ht
            · exact hss t (List.dropLast_subset _ ht)
            · rw [List.mem_singleton.mp ht]; simp [Stp.len] at h1 ⊢; omega
          · rcases List.mem_append.mp ht with ht | ht
            · exact hss t ht
            · rw [List.mem_singleton.mp ht]; exact h1
        · rcases List.mem_append.mp ht with ht | ht
          · exact hss t ht
          · rw [List.mem_singleton.mp ht]; exact h1
    exact key δ [] h (by simp)
  exact ⟨by rw [← hs]; exact len_le_sum hg, fun t ht => by rw [← hs]; exact len_size ht⟩
/-- the steps that one step of the second change gives -/
def bits (one : Dl) : Stp → Dl
  | .put xs => [.put xs]
  | .cp b l => parts b (b + l) 0 one
theorem bits_len {one : Dl} {s : Stp} (h : s.good) : ∀ t ∈ bits one s, 0 < t.len := by
  cases s with
  | put xs => intro t ht; rw [List.mem_singleton.mp ht]; exact good_len h
  | cp b l => exact parts_len
theorem R_bits {one : Dl} {s : Stp} : R (bits one s) = frm [s] (R one) := by
  cases s with
  | put xs => simp [bits, R, ex, frm]
  | cp b l =>
    rw [bits, R_parts _ _ (by omega)]
    simp [frm]
theorem frm_app (a b : Dl) (rows : List Row) : frm (a ++ b) rows = frm a rows ++ frm b rows := by simp [frm]
/-- a place that holds steps -/
def Fnd (ss : Dl) (sl : Sl) : Prop := sl = .sh (.lst (ss.map Stp.d)) ∨ (sl = .ol [] ∧ ss = [])
theorem comp_bits {one other : Dl} (h : ∀ s ∈ other, s.good) : comp one other = (other.flatMap (bits one)).foldl addS [] := by
  rw [nf_steps _ fun t ht => by
    obtain ⟨s, hs, ht⟩ := List.mem_flatMap.mp ht
    exact bits_len (h s hs) t ht]
  unfold comp nf
  congr 1
  clear h
  induction other with
  | nil => rfl
  | cons s r ih =>
    rw [show s :: r = [s] ++ r from rfl, frm_app, ih, List.flatMap_append, R_app, ← R_bits]
    simp
theorem e_composed {a b : Dl} {old : List Nat} (ha : ok a old.length) (hb : ok b (size a)) (la : size a < 1000000) (lb : size b < 1000000) :
    m_composed [dl a, dl b, .tup (nus old)] cs = some (dl (comp a b), cs) := by
  apply WF.eq
  have h1 : m_applied_delta [dl a, .tup (nus old)] cs = some (.tup (nus (app a old)), cs) := e_applied ha (by omega)
  have h2 : m_applied_delta [dl b, .tup (nus (app a old))] cs = some (.tup (nus (app b (app a old))), cs) := e_applied (by rw [app_len ha]; exact hb) (by omega)
  have hal := ok_len ha
  have hbl := ok_len hb
  simp [m_composed, WF_run, code_composed, WF_iff h1, WF_iff h2]
  simp only [show dl b = .tup (b.map Stp.d) from rfl, src_tup, WO_some]
  refine W_forM (fun p s => ∃ sl x y z, Fnd ((p.flatMap (bits a)).foldl addS []) sl ∧ s = ⟨[.sh (dl a), .sh (dl b), .sh (.tup (nus old)), sl, x, y, z], cs⟩) ⟨.ol [], .no, .no, .no, .inr ⟨rfl, rfl⟩, rfl⟩ ?_ ?_
  · rintro p s0 q st e ⟨sl, x, y, z, hF, rfl⟩
    have hs0 : s0 ∈ b := by rw [e]; simp
    have hgood := fun s hs => (hb s hs).1
    -- what stands before, and behind the parts
    have hsz : ∀ r : Dl, r.flatMap (bits a) <+: b.flatMap (bits a) → size (r.flatMap (bits a)) ≤ size b := by
      intro r ⟨t, ht⟩
      have e3 : size (b.flatMap (bits a)) = size b := by
        rw [← R_len, show R (b.flatMap (bits a)) = frm b (R a) from ?_, frm_len (by rw [R_len]; exact hb)]
        clear hF e h1 h2 hbl hgood hs0 lb hb ht
        induction b with
        | nil => rfl
        | cons s r ih => rw [show s :: r = [s] ++ r from rfl, frm_app, ← ih, List.flatMap_append, R_app, ← R_bits]; simp
      rw [← e3, ← ht, size_app]
      omega
    have inner : ∀ (ps : Dl), ps = bits a s0 → ∀ (y0 : Sl), @W _ (forD (gN 6) (dSet 3 (dCall 2 m_with_step (dConsF (dVar 3) (dConsF (dVar 6) dNilF)))) (ps.map Stp.d)) ⟨[.sh (dl a), .sh (dl b), .sh (.tup (nus old)), sl, .sh s0.d, y0, z], cs⟩ (Kt.K fun o s2 => o = .nx ∧ ∃ sl x y z, Fnd (((p ++ [s0]).flatMap (bits a)).foldl addS []) sl ∧ s2 = ⟨[.sh (dl a), .sh (dl b), .sh (.tup (nus old)), sl, x, y, z], cs⟩) := by
      intro ps hps y0
      refine W_forM (fun t s => ∃ sl z, Fnd (((p.flatMap (bits a)) ++ t).foldl addS []) sl ∧ s = ⟨[.sh (dl a), .sh (dl b), .sh (.tup (nus old)), sl, .sh s0.d, y0, z], cs⟩) ⟨sl, z, by simpa using hF, rfl⟩ ?_ ?_
      · rintro t u v st e2 ⟨sl1, z1, hF1, rfl⟩
        have hbnd := nf_bound (δ := p.flatMap (bits a) ++ t) fun w hw => by
          rcases List.mem_append.mp hw with hw | hw
          · obtain ⟨s, hs, hw⟩ := List.mem_flatMap.mp hw
            exact bits_len (hgood s (by rw [e]; simp [hs])) w hw
          · exact bits_len (hgood s0 hs0) w (by rw [← hps, e2]; simp [hw])
        have hpre : size (p.flatMap (bits a) ++ t) + u.len ≤ size b := by
          have := hsz (p ++ [s0]) ⟨q.flatMap (bits a), by rw [e]; simp⟩
          rw [List.flatMap_append, size_app, show [s0].flatMap (bits a) = ps by simp [hps], e2, size_app] at this
          have h3 : size (u :: v) = u.len + size v := by simp [size]
          rw [size_app]
          omega
        have hw : ∀ c, m_with_step [.lst (((p.flatMap (bits a) ++ t).foldl addS []).map Stp.d), u.d] c = some (.lst ((addS ((p.flatMap (bits a) ++ t).foldl addS []) u).map Stp.d), c) := fun c => e_with_step (by omega) fun w hw => by have := hbnd.2 w hw; omega
        rcases hF1 with rfl | ⟨rfl, hnil⟩
        · simp [-List.foldl_append, WF_iff (hw _)]
          refine .inl ?_
          rw [← List.append_assoc, List.foldl_append (l' := [u])]
          rfl
        · rw [hnil] at hw
          have hw' : ∀ c, m_with_step [.lst [], u.d] c = some (.lst ((addS [] u).map Stp.d), c) := hw
          simp [-List.foldl_append, WF_iff (hw' _)]
          refine .inl ?_
          rw [← List.append_assoc, List.foldl_append (l' := [u]), hnil]
          rfl
      · rintro s ⟨sl1, z1, hF1, rfl⟩
        refine ⟨rfl, sl1, _, _, _, ?_, rfl⟩
        rw [List.flatMap_append, show [s0].flatMap (bits a) = ps by simp [hps]]
        exact hF1
    cases s0 with
    | put xs =>
      simp [Stp.d]
      refine (inner [.put xs] rfl _).mono ?_
      rintro o s ⟨rfl, sl, x, y, z, hF, rfl⟩
      first | exact ⟨sl, by simpa using hF, x, y, z, rfl⟩ | exact ⟨sl, x, y, z, hF, rfl⟩
    | cp b0 l0 =>
      have hp : ∀ c, m_parts_between [dl a, .int (b0 : Int), .int ((b0 : Int) + (l0 : Int))] c = some (.lst ((parts b0 (b0 + l0) 0 a).map Stp.d), c) := fun c => by
        have := e_parts (cs := c) (δ := a) (b := b0) (e := b0 + l0) (by omega)
        rw [show ((b0 + l0 : Nat) : Int) = (b0 : Int) + (l0 : Int) by omega] at this
        exact this
      simp [Stp.d, WF_iff (hp _)]
      refine (inner (parts b0 (b0 + l0) 0 a) rfl _).mono ?_
      rintro o s ⟨rfl, sl, x, y, z, hF, rfl⟩
      first | exact ⟨sl, by simpa using hF, x, y, z, rfl⟩ | exact ⟨sl, x, y, z, hF, rfl⟩
  · rintro s ⟨sl, x, y, z, hF, rfl⟩
    rw [comp_bits fun s hs => (hb s hs).1]
    rcases hF with rfl | ⟨rfl, e⟩
    · simp [dl]
    · simp [e, dl]
end K78

namespace K78
open PySem PySem.Spec PyProof.Rows DL
variable {cs : List Cell}
theorem ints_mapf {α : Type} {l : List α} {f : α → Int} : intsD (l.map fun x => .int (f x)) = some (l.map f) := by
  induction l with
  | nil => rfl
  | cons x l ih => simp [intsD, ih]
theorem strs_mapf {α : Type} {l : List α} {f : α → Str} : strsD (l.map fun x => .str (f x)) = some (l.map f) := by
  induction l with
  | nil => rfl
  | cons x l ih => simp [strsD, ih]
def cost : Stp → Int
  | .put xs => 3 + xs.length
  | .cp b l => 5
theorem e_cost {δ : Dl} (hl : δ.length < 16777216) : m_delta_cost [dl δ, .tup [.int 5, .int 3, .int 1]] cs = some (.int (δ.map cost).sum, cs) := by
  apply WF.eq
  simp [m_delta_cost, WF_run, code_delta_cost, dl]
  refine WL_mapM (fun s => some (.int (cost s))) hl (fun s hs => ?_) ?_
  · cases s <;> simp [Stp.d, cost]
  · rw [fm_some]
    simp [ints_mapf]
/-! ### the texts -/
abbrev C (l : List Nat) : Str := ⟨l.toArray⟩
def digs : List Nat := [48, 49, 50, 51, 52, 53, 54, 55, 56, 57, 97, 98, 99, 100, 101, 102]
def hx (n : Nat) : Nat := digs.getD n 48
theorem digs_eq : Str.ofString "0123456789abcdef" = C digs := by kernel_rfl
def hexL (xs : List Nat) : List Nat := xs.flatMap fun x => [hx (x / 16), hx (x % 16)]
theorem hexL_len (xs : List Nat) : (hexL xs).length = 2 * xs.length := by
  unfold hexL
  induction xs with
  | nil => rfl
  | cons x xs ih => rw [List.flatMap_cons, List.length_append, ih]; simp; omega
theorem digs_at {n : Nat} (h : n < 16) : digs[n]? = some (hx n) := by
  unfold hx
  rw [List.getD_eq_getElem?_getD, List.getElem?_eq_getElem (show n < digs.length from h)]
  rfl
theorem cat {a b : List Nat} : C a ++ C b = C (a ++ b) := SX.S_cat a b
theorem clen {a : List Nat} : (C a).length = a.length := SX.S_len a
theorem join0 : ∀ ys : List (List Nat), Txt.join (Str.ofString "") (ys.map C) = C ys.flatten := fun ys => by
  rw [show Str.ofString "" = C [] from by kernel_rfl, SX.join_S]
  congr 2
  induction ys with
  | nil => rfl
  | cons y ys ih =>
    cases ys with
    | nil => simp [TL.joinL]
    | cons z ys => simp [TL.joinL] at ih ⊢; exact ih
theorem e_hex {xs : List Nat} (h : ∀ x ∈ xs, x < 256) (hl : xs.length < 4000000) : m_hex_text [.tup (nus xs)] cs = some (.str (C (hexL xs)), cs) := by
  apply WF.eq
  simp [m_hex_text, WF_run, code_hex_text]
  refine WL_mapM (fun x => some (.str (C [hx (x / 16), hx (x % 16)]))) (by omega) (fun x hx => ?_) ?_
  · have := h x hx
    rw [digs_eq]
    simp
    rw [show (x : Int) / 16 = ((x / 16 : Nat) : Int) by omega, atI_nat, digs_at (by omega)]
    simp
    rw [show (x : Int) % 16 = ((x % 16 : Nat) : Int) by omega, atI_nat, digs_at (by omega)]
    simp [cat, clen]
    decide
  · rw [fm_some, show (fun x => D.str (C [hx (x / 16), hx (x % 16)])) = fun x => D.str ((fun x => C [hx (x / 16), hx (x % 16)]) x) from rfl]
    simp only [W_dC, WO_some, view_v, viewD_str, isTy_str, views_nil, WO_views, view_fl, join_lst, strs_mapf, W_dConsU, W_dNilU, true_and]
    have e2 : xs.map (fun x => C [hx (x / 16), hx (x % 16)]) = (xs.map fun x => [hx (x / 16), hx (x % 16)]).map C := by simp
    have e3 : ((xs.map (fun x => C [hx (x / 16), hx (x % 16)])).map (·.length)).sum = 2 * xs.length := by
      rw [e2]
      clear e2 h hl
      induction xs with
      | nil => rfl
      | cons x xs ih => rw [List.map_cons, List.map_cons, List.map_cons, List.sum_cons, ih, clen]; simp; omega
    rw [e3, e2, join0]
    simp
    refine ⟨?_, ?_⟩
    · rw [show (Str.ofString "").length = 0 from by kernel_rfl]
      omega
    · simp [hexL, List.flatMap]
theorem hx_digs {n : Nat} (h : n < 16) : hx n ∈ digs := List.mem_of_getElem? (digs_at h)
theorem hex_occ : ∀ n, n < 16 → Builtin.Str.occurrences (C digs) ⟨#[hx n]⟩ 0 (C digs).length 1 = [n] := by decide +kernel
theorem hex_index {n : Nat} (h : n < 16) : sindexD (.str (C digs)) [.str ⟨#[hx n]⟩] = some (.v (.int (n : Nat))) := by
  show (match Builtin.Str.occurrences (C digs) ⟨#[hx n]⟩ 0 (C digs).length 1 with
    | i :: _ => some (Ev.v (.int (i : Nat)))
    | [] => none) = _
  rw [hex_occ n h]
theorem hexL_at {xs : List Nat} : ∀ {i : Nat} {x : Nat}, xs[i]? = some x → (hexL xs)[2 * i]? = some (hx (x / 16)) ∧ (hexL xs)[2 * i + 1]? = some (hx (x % 16)) := by
  induction xs with
  | nil => intro i x h; simp at h
  | cons y xs ih =>
    intro i x h
    cases i with
    | zero => simp at h; subst h; exact ⟨rfl, rfl⟩
    | succ i =>
      obtain ⟨h1, h2⟩ := ih (i := i) (x := x) (by simpa using h)
      refine ⟨?_, ?_⟩
      · show ([hx (y / 16), hx (y % 16)] ++ hexL xs)[2 * (i + 1)]? = _
        rw [List.getElem?_append_right (by simp; omega)]
        simpa [show 2 * (i + 1) - 2 = 2 * i by omega] using h1
      · show ([hx (y / 16), hx (y % 16)] ++ hexL xs)[2 * (i + 1) + 1]? = _
        rw [List.getElem?_append_right (by simp; omega)]
        simpa [show 2 * (i + 1) + 1 - 2 = 2 * i + 1 by omega] using h2
theorem hexL_mem {xs : List Nat} (h : ∀ x ∈ xs, x < 256) : ∀ c ∈ hexL xs, c ∈ digs := fun c hc => by
  obtain ⟨x, hx', hc⟩ := List.mem_flatMap.mp hc
  have := h x hx'
  simp at hc
  rcases hc with rfl | rfl
  · exact hx_digs (by omega)
  · exact hx_digs (by omega)
theorem digs_free {c : Nat} (h : c ∈ digs) : 48 ≤ c := by
  revert h
  revert c
  decide
theorem rsize (n : Nat) : Builtin.Range.rangeSize 0 (2 * (n : Int)) 2 = n := by
  unfold Builtin.Range.rangeSize
  split <;> omega
theorem fitsLong {a : Int} (h : -(2 ^ 62) ≤ a ∧ a < 2 ^ 62) : Builtin.Range.rangeFitsLong a = true := by
  unfold Builtin.Range.rangeFitsLong
  simp
  omega
theorem small2 {n : Nat} (h : n < 2 ^ 40) : Builtin.Range.small 0 (2 * (n : Int)) 2 = true := by
  unfold Builtin.Range.small
  rw [rsize, fitsLong (by omega), fitsLong (by omega), fitsLong (by omega), fitsLong (by omega)]
  simp
  right
  exact fitsLong (by omega)
theorem range_get {α : Type} (xs : List α) : (List.range xs.length).filterMap (fun i => xs[i]?) = xs := by
  induction xs with
  | nil => rfl
  | cons x xs ih => rw [List.length_cons, List.range_succ_eq_map, List.filterMap_cons, List.filterMap_map]; simpa [Function.comp_def] using ih
theorem e_read_hex {xs : List Nat} (h : ∀ x ∈ xs, x < 256) (hl : xs.length < 4000000) : m_read_hex [.str (C (hexL xs))] cs = some (.tup (nus xs), cs) := by
  apply WF.eq
  have hlen := hexL_len xs
  simp [m_read_hex, WF_run, code_read_hex, digs_eq, clen, hlen]
  refine ⟨by omega, ?_⟩
  refine WL_mapM (F := fun c => D.str ⟨#[c]⟩) (fun _ => some (.bl true)) (by omega) (fun c hc => ?_) ?_
  · simp [inB_str]
    exact hexL_mem h c hc
  · rw [fm_some]
    simp [allB_true, digs_eq, clen, hlen]
    refine ⟨by omega, ⟨small2 (by omega), by rw [rsize]; omega⟩, ?_⟩
    rw [rsize, Int.toNat_natCast]
    refine WL_mapM (F := fun i : Nat => D.int (0 + (i : Int) * 2)) (fun i => (nus xs)[i]?) (by simp; omega) (fun i hi => ?_) ?_
    · have hi : i < xs.length := by simpa using hi
      obtain ⟨h1, h2⟩ := hexL_at (List.getElem?_eq_getElem hi)
      have hxx := h _ (List.getElem_mem hi)
      have a1 : L2.atI (hexL xs) ((i : Int) * 2) = some (hx (xs[i] / 16)) := by
        rw [show (i : Int) * 2 = ((2 * i : Nat) : Int) by omega, atI_nat, h1]
      have a2 : L2.atI (hexL xs) ((i : Int) * 2 + 1) = some (hx (xs[i] % 16)) := by
        rw [show (i : Int) * 2 + 1 = ((2 * i + 1 : Nat) : Int) by omega, atI_nat, h2]
      simp [clen, hlen, a1, a2, hex_index (show xs[i] / 16 < 16 by omega), hex_index (show xs[i] % 16 < 16 by omega)]
      simp [nus, hi]
      omega
    · rw [show xs.length = (nus xs).length by simp, range_get]
      simp
end K78

namespace K78
open PySem PySem.Spec PyProof.Rows DL
variable {cs : List Cell}
abbrev nL (n : Nat) : List Nat := TL.numL n
theorem log2_small {n : Nat} (h : n < 2 ^ 64) : n.log2 < 1920 := by
  by_cases h0 : n = 0
  · subst h0; decide
  · exact Nat.lt_trans ((Nat.log2_lt h0).mpr h) (by decide)
theorem str_num (n : Nat) : (toString (n : Int) : String) = (toString (n : Int) : String) := rfl
def stepL : Stp → List Nat
  | .put xs => [112, 117, 116] ++ 32 :: hexL xs
  | .cp b l => [99, 111, 112, 121] ++ 32 :: (nL b ++ 32 :: nL l)
def Stp.low : Stp → Prop
  | .put xs => True
  | .cp b l => b < 10 ^ 9 ∧ l < 10 ^ 9
theorem nL_len {n : Nat} (h : n < 10 ^ 9) : (nL n).length ≤ 9 := TL.numL_len (by omega) h
theorem e_step_row {s : Stp} (hg : s.good) (hw : s.low) (hl : s.len < 4000000) : m_step_row [s.d] cs = some (.str (C (stepL s)), cs) := by
  apply WF.eq
  cases s with
  | put xs =>
    have hlen := hexL_len xs
    simp [m_step_row, WF_run, code_step_row, Stp.d, WF_iff (e_hex hg.2 hl)]
    rw [show Str.ofString "put " = C [112, 117, 116, 32] from by kernel_rfl, cat, clen, clen]
    simp [Stp.len] at hl
    exact ⟨by simp; omega, rfl⟩
  | cp b l =>
    have h1 := nL_len hw.1
    have h2 := nL_len hw.2
    have e : ∀ n : Nat, Str.ofString (n : Int).repr = C (nL n) := fun n => SX.num_S n
    simp [m_step_row, WF_run, code_step_row, Stp.d]
    have hb : b < 10 ^ 9 := hw.1
    have hl : l < 10 ^ 9 := hw.2
    refine ⟨log2_small (by omega), ?_⟩
    rw [show Str.ofString "copy " = C [99, 111, 112, 121, 32] from by kernel_rfl, show Str.ofString " " = C [32] from by kernel_rfl]
    rw [e b, e l]
    simp only [cat, clen, List.length_append, List.length_cons, List.length_nil]
    refine ⟨by omega, by omega, log2_small (by omega), by omega, ?_⟩
    simp [stepL]
def textL (δ : Dl) : List Nat := δ.flatMap fun s => stepL s ++ [10]
theorem stepL_len {s : Stp} (hw : s.low) : (stepL s).length ≤ 24 + 2 * s.len := by
  cases s with
  | put xs => simp [stepL, hexL_len, Stp.len]; omega
  | cp b l =>
    have h1 := nL_len hw.1
    have h2 := nL_len hw.2
    simp [stepL, Stp.len]
    omega
theorem textL_len {δ : Dl} (hw : ∀ s ∈ δ, s.low) : (textL δ).length ≤ 25 * δ.length + 2 * size δ := by
  induction δ with
  | nil => simp [textL]
  | cons s δ ih =>
    have h1 := ih fun t ht => hw t (List.mem_cons_of_mem _ ht)
    have h2 := stepL_len (hw s List.mem_cons_self)
    rw [show textL (s :: δ) = (stepL s ++ [10]) ++ textL δ by simp [textL], List.length_append, List.length_append, show size (s :: δ) = s.len + size δ by simp [size]]
    simp
    omega
theorem sum_textL {δ : Dl} : ((δ.map fun s => C (stepL s ++ [10])).map (·.length)).sum = (textL δ).length := by
  induction δ with
  | nil => rfl
  | cons s δ ih => rw [List.map_cons, List.map_cons, List.sum_cons, ih, clen, show textL (s :: δ) = (stepL s ++ [10]) ++ textL δ by simp [textL], ← List.length_append]
/-- what the texts ask of a change -/
def Fine (δ : Dl) : Prop := (∀ s ∈ δ, s.good ∧ s.low) ∧ size δ < 100000
theorem Fine.lens {δ : Dl} (h : Fine δ) : δ.length < 100000 ∧ ∀ s ∈ δ, s.len < 100000 := by
  have := h.2
  refine ⟨?_, fun s hs => ?_⟩
  · have : δ.length ≤ size δ := len_le_sum fun s hs => good_len (h.1 s hs).1
    omega
  · have := len_size hs; omega
theorem e_delta_text {δ : Dl} (h : Fine δ) : m_delta_text [dl δ] cs = some (.str (C (textL δ)), cs) := by
  apply WF.eq
  obtain ⟨h1, h2⟩ := h.lens
  have h3 := textL_len fun s hs => (h.1 s hs).2
  have h4 := h.2
  simp [m_delta_text, WF_run, code_delta_text, dl]
  refine WL_mapM (fun s => some (.str (C (stepL s ++ [10])))) (by omega) (fun s hs => ?_) ?_
  · have a := h2 s hs
    have b := stepL_len (h.1 s hs).2
    simp [WF_iff (e_step_row (h.1 s hs).1 (h.1 s hs).2 (by omega))]
    rw [show Str.ofString "\n" = C [10] from by kernel_rfl, cat, clen, clen]
    exact ⟨by simp; omega, rfl⟩
  · rw [fm_some, show (fun s => D.str (C (stepL s ++ [10]))) = fun s => D.str ((fun s => C (stepL s ++ [10])) s) from rfl]
    simp only [W_dC, WO_some, view_v, viewD_str, isTy_str, views_nil, WO_views, view_fl, join_lst, strs_mapf, W_dConsU, W_dNilU, true_and, sum_textL]
    have e2 : δ.map (fun s => C (stepL s ++ [10])) = (δ.map fun s => stepL s ++ [10]).map C := by simp
    rw [e2, join0]
    simp
    refine ⟨?_, ?_⟩
    · rw [show (Str.ofString "").length = 0 from by kernel_rfl]
      omega
    · simp [textL, List.flatMap]
/-! ### reading back -/
theorem hex_no {xs : List Nat} (h : ∀ x ∈ xs, x < 256) {c : Nat} (hc : c < 48) : c ∉ hexL xs := fun hm => by
  have := digs_free (hexL_mem h c hm)
  omega
theorem nL_no {n c : Nat} (hc : c < 48) : c ∉ nL n := TL.numL_free (.inl hc)
theorem step_no {s : Stp} (h : s.good) : 10 ∉ stepL s := by
  cases s with
  | put xs => simp [stepL]; exact hex_no h.2 (by omega)
  | cp b l => simp [stepL]; exact ⟨nL_no (by omega), nL_no (by omega)⟩
theorem nL_head {n : Nat} (h : n ≠ 0) : ∃ c r, nL n = c :: r ∧ c ≠ 48 := by
  induction n using Nat.strongRecOn with
  | _ n ih =>
    by_cases hn : n < 10
    · exact ⟨48 + n, [], TL.numL_lt hn, by omega⟩
    · obtain ⟨c, r, e, hc⟩ := ih (n / 10) (by omega) (by omega)
      exact ⟨c, r ++ [48 + n % 10], by show TL.numL n = _; rw [TL.numL_step (by omega), show TL.numL (n / 10) = c :: r from e]; rfl, hc⟩
theorem small_codes {l : List Nat} (h : ∀ c ∈ l, c < 1000) : ∀ c ∈ (C l).cps.toList, c < 0x110000 := fun c hc => by
  have := h c (by simpa using hc)
  omega
theorem nL_small {n : Nat} : ∀ c ∈ nL n, c < 1000 := fun c hc => by
  have := TL.numL_digits n c hc
  omega
theorem e_is_text {n : Nat} (h : n < 10 ^ 9) : m_is_number_text [.str (C (nL n))] cs = some (.bl true, cs) := by
  apply WF.eq
  have hlen := nL_len h
  have hz : Str.ofString "" = C [] := by kernel_rfl
  have h0 : Str.ofString "0" = C [48] := by kernel_rfl
  have hd : Str.ofString "0123456789" = C [48, 49, 50, 51, 52, 53, 54, 55, 56, 57] := by kernel_rfl
  have q0 : eqD (.str (C (nL n))) (.str (C [])) = some false := by
    rw [eqD_str (small_codes nL_small) (small_codes (by simp))]
    have := TL.numL_ne n
    simp [this]
  simp [m_is_number_text, WF_run, code_is_number_text, hz, q0, clen]
  refine ⟨by omega, by omega, fun _ => ?_⟩
  refine WL_mapM (F := fun c => D.str ⟨#[c]⟩) (fun _ => some (.bl true)) (by omega) (fun c hc => ?_) ?_
  · have := TL.numL_digits n c hc
    simp [inB_str, hd]
    omega
  · rw [fm_some]
    simp [allB_true, h0]
    rw [eqD_str (small_codes nL_small) (small_codes (by simp))]
    simp
    intro hne
    have hn : n ≠ 0 := fun z => hne (by rw [z]; exact TL.numL_lt (by omega))
    obtain ⟨c, r, e, hc⟩ := nL_head hn
    have hs : c < 1000 := nL_small c (by rw [e]; simp)
    rw [clen, e]
    rw [e] at hlen
    refine ⟨by omega, ?_⟩
    simp
    rw [show (⟨#[c]⟩ : Str) = C [c] from rfl, eqD_str (small_codes (by simpa using hs)) (small_codes (by simp))]
    simp [hc]
theorem split1 {a : List Nat} {c : Nat} (hc : c < 256) : Txt.split (C a) (C [c]) = (TL.spl [c] 0 [] a).map C := SX.split_S (by simp) (by simp [hc])
theorem eq_C {a b : List Nat} (ha : ∀ c ∈ a, c < 1000) (hb : ∀ c ∈ b, c < 1000) : eqD (.str (C a)) (.str (C b)) = some (decide (a = b)) := by
  rw [eqD_str (small_codes ha) (small_codes hb)]
  simp
theorem int_nL {n : Nat} (h : n < 10 ^ 9) : intText? (C (nL n)) = some (n : Int) := by
  have hlen : (TL.numL n).length ≤ 9 := nL_len h
  have := TL.int_num (n := n) (by omega)
  rw [SX.num_S] at this
  exact this
theorem e_read_step {s : Stp} (hg : s.good) (hw : s.low) (hl : s.len < 100000) : m_read_step [.str (C (stepL s))] cs = some (s.d, cs) := by
  apply WF.eq
  have hsl := stepL_len hw
  have hsp : Str.ofString " " = C [32] := by kernel_rfl
  have hput : Str.ofString "put" = C [112, 117, 116] := by kernel_rfl
  have hcopy : Str.ofString "copy" = C [99, 111, 112, 121] := by kernel_rfl
  have hp : ∀ c, m_is_piece [s.d] c = some (.bl true, c) := fun c => e_is_piece hg (by omega)
  cases s with
  | put xs =>
    have e : TL.spl [32] 0 [] (stepL (.put xs)) = [[112, 117, 116], hexL xs] := by
      have := TL.spl_join (s := 32) (S := []) (parts := [[112, 117, 116], hexL xs]) (by simp) (by simp; exact hex_no hg.2 (by omega))
      simpa [TL.joinL, stepL] using this
    have hr : ∀ c, m_read_hex [.str (C (hexL xs))] c = some (.tup (nus xs), c) := fun c => e_read_hex hg.2 (by simp [Stp.len] at hl; omega)
    have hp : ∀ c, m_is_piece [.tup [.str (Str.ofString "put"), .tup (nus xs)]] c = some (.bl true, c) := hp
    rw [hput] at hp
    simp [m_read_step, WF_run, code_read_step, hsp, split1, e, clen]
    refine ⟨by omega, ?_⟩
    rw [hput, eq_C (by simp) (by simp)]
    simp [WF_iff (hr _), WF_iff (hp _), hput]
    rw [← hput]
    simp [Stp.d]
  | cp b l =>
    have e : TL.spl [32] 0 [] (stepL (.cp b l)) = [[99, 111, 112, 121], nL b, nL l] := by
      have := TL.spl_join (s := 32) (S := []) (parts := [[99, 111, 112, 121], nL b, nL l]) (by simp) (by simp; exact ⟨nL_no (by omega), nL_no (by omega)⟩)
      simpa [TL.joinL, stepL] using this
    have h1 := nL_len hw.1
    have h2 := nL_len hw.2
    have hp : ∀ c, m_is_piece [.tup [.str (Str.ofString "copy"), .int (b : Int), .int (l : Int)]] c = some (.bl true, c) := hp
    rw [hcopy] at hp
    simp [m_read_step, WF_run, code_read_step, hsp, split1, e, clen]
    refine ⟨by omega, ?_⟩
    rw [hput, hcopy, eq_C (by simp) (by simp)]
    simp
    rw [eq_C (by simp) (by simp)]
    simp [WF_iff (e_is_text hw.1), WF_iff (e_is_text hw.2), WF_iff (hp _), hcopy, clen, int_nL hw.1, int_nL hw.2]
    rw [← hcopy]
    exact ⟨by omega, by omega, rfl⟩
theorem joinL_end : ∀ (ps : List (List Nat)), TL.joinL [10] (ps ++ [[]]) = ps.flatMap (fun p => p ++ [10])
  | [] => rfl
  | [p] => by simp [TL.joinL]
  | p :: q :: r => by
    have := joinL_end (q :: r)
    simp [TL.joinL] at this ⊢
    exact this
theorem e_read_delta {δ : Dl} (h : Fine δ) : m_read_delta [.str (C (textL δ))] cs = some (dl δ, cs) := by
  apply WF.eq
  obtain ⟨h1, h2⟩ := h.lens
  have h3 := textL_len fun s hs => (h.1 s hs).2
  have h4 := h.2
  have hnl : Str.ofString "\n" = C [10] := by kernel_rfl
  have hz : Str.ofString "" = C [] := by kernel_rfl
  have e : TL.spl [10] 0 [] (textL δ) = δ.map stepL ++ [[]] := by
    have := TL.spl_join (s := 10) (S := []) (parts := δ.map stepL ++ [[]]) (by simp) (by
      intro p hp
      rcases List.mem_append.mp hp with hp | hp
      · obtain ⟨s, hs, rfl⟩ := List.mem_map.mp hp
        exact step_no (h.1 s hs).1
      · rw [List.mem_singleton.mp hp]; simp)
    rw [joinL_end, List.flatMap_map] at this
    exact this
  have e0 : ((δ.map stepL ++ [[]]).map C).map D.str = (δ.map fun s => D.str (C (stepL s))) ++ [D.str (C [])] := by simp
  simp [m_read_delta, WF_run, code_read_delta, hnl, split1, e, clen, hz, cut_init]
  refine ⟨by omega, ?_⟩
  rw [eq_C (by simp) (by simp)]
  simp [cut_init]
  refine WL_mapM (F := fun s => D.str (C (stepL s))) (fun s => some s.d) (by omega) (fun s hs => ?_) ?_
  · simp [WF_iff (e_read_step (h.1 s hs).1 (h.1 s hs).2 (h2 s hs))]
  · rw [fm_some]
    have hn : inB .non (.lst (δ.map Stp.d)) = some false := inB_non (k := 2) (fun x hx => ⟨lay_stps x hx, by
      obtain ⟨s, _, rfl⟩ := List.mem_map.mp hx
      cases s <;> simp [Stp.d]⟩) (by omega)
    simp [hn, dl]
end K78

namespace K78
open PySem PySem.Spec PyProof.Rows DL
variable {cs : List Cell}
/-! ### the draws -/
/-- the draws' dict -/
def cell (ds : List Nat) (a : Nat) : List Cell := [.dct [(.inr (Str.ofString "draws"), .lst (nus ds)), (.inr (Str.ofString "at"), .int (a : Int))]]
theorem k_at (ds : List Nat) (a : Nat) : valD [(.inr (Str.ofString "draws"), .lst (nus ds)), (.inr (Str.ofString "at"), .int (a : Int))] (.inr (Str.ofString "at")) = some (.int (a : Int)) := by
  unfold valD
  rw [List.find?_cons_of_neg (by simp; decide +kernel), List.find?_cons_of_pos (by simp)]
  rfl
theorem k_draws (ds : List Nat) (a : Nat) : valD [(.inr (Str.ofString "draws"), .lst (nus ds)), (.inr (Str.ofString "at"), .int (a : Int))] (.inr (Str.ofString "draws")) = some (.lst (nus ds)) := by
  unfold valD
  rw [List.find?_cons_of_pos (by simp)]
  rfl
theorem p_at (ds : List Nat) (a : Nat) (b : Int) : putD [(.inr (Str.ofString "draws"), .lst (nus ds)), (.inr (Str.ofString "at"), .int (a : Int))] (.inr (Str.ofString "at")) (.int b) = [(.inr (Str.ofString "draws"), .lst (nus ds)), (.inr (Str.ofString "at"), .int b)] := by
  unfold putD
  rw [if_pos (by simp)]
  have : ¬ (Str.ofString "draws" = Str.ofString "at") := by decide +kernel
  simp [this]
theorem dget_at (ds : List Nat) (a : Nat) : dgetD (.dct [(.inr (Str.ofString "draws"), .lst (nus ds)), (.inr (Str.ofString "at"), .int (a : Int))]) (.str (Str.ofString "at")) = some (.v (.int (a : Int))) := by
  simp only [dgetD, keyD]
  rw [k_at]
  rfl
theorem dget_draws (ds : List Nat) (a : Nat) : dgetD (.dct [(.inr (Str.ofString "draws"), .lst (nus ds)), (.inr (Str.ofString "at"), .int (a : Int))]) (.str (Str.ofString "draws")) = some (.v (.lst (nus ds))) := by
  simp only [dgetD, keyD]
  rw [k_draws]
  rfl
def nxI (ds : List Nat) (a : Nat) (i : Int) : Int := if a < ds.length then (ds.getD a 0 : Int) % i else 0
theorem nx_lt {ds : List Nat} {a : Nat} {i : Int} (h : 0 < i) : 0 ≤ nxI ds a i ∧ nxI ds a i < i := by
  unfold nxI
  split
  · exact ⟨Int.emod_nonneg _ (by omega), Int.emod_lt_of_pos _ h⟩
  · omega
theorem nx_nat {ds : List Nat} {a : Nat} {i : Int} (h : 0 < i) : ∃ r : Nat, nxI ds a i = (r : Int) ∧ (r : Int) < i := by
  have := nx_lt (ds := ds) (a := a) h
  exact ⟨(nxI ds a i).toNat, by omega, by omega⟩
theorem e_next {ds : List Nat} {a : Nat} {i : Int} (hi : 0 < i) : m__law_next [.loc 0, .int i] (cell ds a) = some (.int (nxI ds a i), cell ds (a + 1)) := by
  apply WF.eq
  have e1 := dget_at ds (a + 1)
  have e2 := dget_draws ds (a + 1)
  simp only [Int.natCast_add, Int.natCast_one] at e1 e2
  by_cases h : a < ds.length
  · have h1 : L2.atI (nus ds) (a : Int) = some (.int (ds[a] : Int)) := by
      rw [atI_nat]
      simp [nus, h]
    simp [m__law_next, WF_run, code__law_next, cell, dctAt, keyD, k_at, p_at, viewD, e1, e2, h1, nxI, h, hi]
    omega
  · simp [m__law_next, WF_run, code__law_next, cell, dctAt, keyD, k_at, p_at, viewD, e1, e2, nxI, h, hi]
    omega
@[simp] theorem WF_next {ds : List Nat} {a : Nat} {i : Int} {Q : D → List Cell → Prop} (hi : 0 < i) : @WF m__law_next [.loc 0, .int i] (cell ds a) (Kt.K Q) ↔ Q (.int (nxI ds a i)) (cell ds (a + 1)) := WF_iff (e_next hi)
theorem nus_snoc {ds : List Nat} {i : Int} (h : 0 ≤ i) : nus ds ++ [.int i] = nus (ds ++ [i.toNat]) := by
  simp [nus]
  omega
/-- what the draws' loop keeps -/
def DrI (ns : List Int) (cs : List Cell) (k : Nat) (s : DL.S) : Prop := ∃ (ds : List Nat) (mx : Int) (x y z w : Sl), 0 ≤ mx ∧ mx < 65537 ∧ ds.length ≤ k ∧ s = ⟨[.sh (.scr ns), .sh (.int 300), .ol (nus ds), .sh (.int mx), x, y, z, w], cs⟩
abbrev drBody : M Out := dIf (dTest (dOp2 gtD (dVar 6) (dC (.int 0)))) (dSeq (dDrop (dMut appendD (dVar 2) (dConsF (dOp2 modD (dOpL intD (dConsU (dVar 6) dNilU)) (dC (.int 997))) dNilF)))
        (dSet 6 (dOp2 fdivD (dVar 6) (dC (.int 997))))) (dPure .nx)
theorem dr_inner {ns : List Int} (ds : List Nat) (rest mx : Int) (x y w : Sl) (n : Nat) (hr : 0 ≤ rest) (hm1 : 0 ≤ mx) (hm2 : mx < 65537) (hd : ds.length ≤ n + 2) (hn : n < 10000) :
    @W _ (forD (gN 7) drBody (rngI 0 1 60)) ⟨[.sh (.scr ns), .sh (.int 300), .ol (nus ds), .sh (.int mx), x, y, .sh (.int rest), w], cs⟩ (Kt.K fun o s2 => o = .nx ∧ DrI ns cs (n + 62) s2) := by
  refine W_forM (F := fun i : Nat => D.int (0 + (i : Int) * 1)) (l := List.range 60) (fun t s => ∃ (ds : List Nat) (rest : Int) (w : Sl), 0 ≤ rest ∧ ds.length ≤ n + 2 + t.length ∧ s = ⟨[.sh (.scr ns), .sh (.int 300), .ol (nus ds), .sh (.int mx), x, y, .sh (.int rest), w], cs⟩) ⟨ds, rest, w, hr, by simpa using hd, rfl⟩ ?_ ?_
  · rintro t u v s e2 ⟨ds, rest, w, hr, hd, rfl⟩
    have ht : t.length < 60 := by
      have := congrArg List.length e2
      simp at this
      omega
    simp
    refine ⟨fun hpos => ⟨by omega, ds ++ [(rest % 997).toNat], rest / 997, by omega, by simp; omega, ?_⟩, fun hz => ⟨ds, rest, by omega, by omega, by simp⟩⟩
    simp [nus]
    omega
  · rintro s ⟨ds, rest, w, hr, hd, rfl⟩
    exact ⟨rfl, ds, mx, x, y, _, w, hm1, hm2, by simp at hd ⊢; omega, rfl⟩
theorem e_draws {ns : List Int} (hn : ns.length ≤ 63) : ∃ ds : List Nat, m__law_draws [.scr ns, .int 300] cs = some (.lst (nus ds), cs) := by
  suffices h : @WF m__law_draws [.scr ns, .int 300] cs (Kt.K fun d c => ∃ ds : List Nat, d = .lst (nus ds) ∧ c = cs) by
    obtain ⟨d, c, e, ds, rfl, rfl⟩ := h
    exact ⟨ds, e⟩
  simp [m__law_draws, WF_run, code__law_draws]
  refine ⟨by omega, ?_⟩
  refine W_forM (F := fun i : Nat => D.int (0 + (i : Int) * 1)) (fun p s => DrI ns cs (62 * p.length) s) ⟨[], 7, .no, .no, .no, .no, by omega, by omega, by simp, rfl⟩ ?_ ?_
  · rintro p i q s e ⟨ds, mx, x, y, z, w, h1, h2, h3, rfl⟩
    have hi : i < ns.length := by
      have : i ∈ List.range ns.length := by rw [e]; simp
      simpa using this
    have hp : p.length < 63 := by
      have := congrArg List.length e
      simp at this
      omega
    have ha : L2.atI ns (i : Int) = some ns[i] := by rw [atI_nat, List.getElem?_eq_getElem hi]
    simp [ha]
    generalize hc : (if ns[i] < 0 then -ns[i] else ns[i]) = c
    have hc0 : 0 ≤ c := by split at hc <;> omega
    refine ⟨fun hbig => ?_, fun hsmall => ?_⟩
    · refine (dr_inner ds c _ _ _ _ (62 * p.length) hc0 ?_ ?_ ?_ ?_).mono ?_
      · omega
      · omega
      · omega
      · omega
      · rintro o s ⟨rfl, h⟩
        simpa [Nat.mul_add] using h
    · generalize hm : (mx * 48271 + c % 1000003 + (i : Int)) % 65537 = mx2
      have e2 : nus ds ++ [.int (c % 997), .int ((mx2 * 69621 + 5) % 65521 % 997)] = nus (ds ++ [(c % 997).toNat, ((mx2 * 69621 + 5) % 65521 % 997).toNat]) := by
        simp [nus]
        omega
      rw [e2]
      refine ⟨by omega, by omega, ?_⟩
      refine (dr_inner _ 0 _ _ _ _ (62 * p.length) (by omega) ?_ ?_ ?_ ?_).mono ?_
      · omega
      · omega
      · simp; omega
      · omega
      · rintro o s ⟨rfl, h⟩
        simpa [Nat.mul_add] using h
  · rintro s ⟨ds, mx, x, y, z, w, h1, h2, h3, rfl⟩
    simp at h3
    simp
    refine W_forM (F := fun i : Nat => D.int (0 + (i : Int) * 1)) (l := List.range 300) (fun p s => DrI ns cs (62 * 63 + p.length) s) ⟨ds, mx, x, y, z, w, h1, h2, by simp; omega, rfl⟩ ?_ ?_
    · rintro p i q s e ⟨ds, mx, x, y, z, w, h1, h2, h3, rfl⟩
      have hp : p.length < 300 := by
        have := congrArg List.length e
        simp at this
        omega
      simp
      generalize hm : (mx * 16807 + (i : Int) + 1) % 65537 = mx2
      rw [nus_snoc (by omega)]
      exact ⟨by omega, _, mx2, _, _, _, _, by omega, by omega, by simp; omega, rfl⟩
    · rintro s ⟨ds, mx, x, y, z, w, h1, h2, h3, rfl⟩
      have e : DL.cutD (nus ds) none (some 300) = nus (ds.take 300) := by
        unfold DL.cutD
        rw [HT.sIx_none, show (300 : Int) = ((300 : Nat) : Int) from rfl, HT.sIx_nat]
        simp [nus, List.map_take, List.take_eq_take_iff]
      simp [e]
      exact ⟨_, rfl⟩
/-- what a drawn change keeps -/
def DeI (ds : List Nat) (m : Nat) (k : Nat) (s : DL.S) : Prop := ∃ (δ : Dl) (e a : Nat) (x1 x2 x3 x4 x5 : Sl), (∀ t ∈ δ, t.good ∧ t.fits m ∧ t.low) ∧ δ.length ≤ k ∧ size δ ≤ k * max 3 m ∧
  s = ⟨[.sh (.loc 0), .sh (.int (m : Int)), .ol (δ.map Stp.d), .sh (.int (e : Int)), x1, x2, x3, x4, x5], cell ds a⟩
theorem de_add {ds : List Nat} {m k e a : Nat} {δ : Dl} {x1 x2 x3 x4 x5 : Sl} {t : Stp} (h : ∀ t ∈ δ, t.good ∧ t.fits m ∧ t.low) (hl : δ.length ≤ k) (hs : size δ ≤ k * max 3 m) (ht : t.good ∧ t.fits m ∧ t.low) (htl : t.len ≤ max 3 m) :
    DeI ds m (k + 1) ⟨[.sh (.loc 0), .sh (.int (m : Int)), .ol (δ.map Stp.d ++ [t.d]), .sh (.int (e : Int)), x1, x2, x3, x4, x5], cell ds a⟩ := by
  refine ⟨δ ++ [t], e, a, x1, x2, x3, x4, x5, fun u hu => ?_, by simp; omega, ?_, by simp⟩
  · rcases List.mem_append.mp hu with hu | hu
    · exact h u hu
    · rw [List.mem_singleton.mp hu]; exact ht
  · rw [size_app, Nat.add_mul]
    simp [size] at hs htl ⊢
    omega
abbrev putElt : M Ev := dCall 2 m__law_next (dConsF (dVar 0) (dConsF (dC (.int 256)) dNilF))
theorem put_comp {ds : List Nat} {a n : Nat} {s1 s2 s3 s4 s5 s6 s7 : Sl} {Q : List D → DL.S → Prop} (hn : n < 1000)
    (fin : ∀ (xs : List Nat) (b : Nat), xs.length = n → (∀ x ∈ xs, x < 256) → Q (nus xs) ⟨[.sh (.loc 0), s1, s2, s3, s4, s5, s6, s7, .no], cell ds b⟩) :
    @WL (gN 8) (dPure true) putElt [8] (rngI 0 1 n) [] ⟨[.sh (.loc 0), s1, s2, s3, s4, s5, s6, s7, .no], cell ds a⟩ (Kt.K Q) := by
  refine WL_runM (F := fun i : Nat => D.int (0 + (i : Int) * 1)) (l := List.range n) (fun p acc s => ∃ (xs : List Nat) (b : Nat), acc = nus xs ∧ xs.length = p.length ∧ (∀ x ∈ xs, x < 256) ∧ s = ⟨[.sh (.loc 0), s1, s2, s3, s4, s5, s6, s7, .no], cell ds b⟩) (by simp; omega) ⟨[], a, rfl, rfl, by simp, rfl⟩ ?_ ?_
  · rintro p x q acc s e ⟨xs, b, rfl, h1, h2, rfl⟩
    obtain ⟨v, ev, hv⟩ := nx_nat (ds := ds) (a := b) (i := 256) (by omega)
    simp [ev, addO]
    refine ⟨xs ++ [v], by simp [nus], by simpa using h1, ?_, b + 1, rfl⟩
    intro x hx
    rcases List.mem_append.mp hx with hx | hx
    · exact h2 x hx
    · rw [List.mem_singleton.mp hx]; omega
  · rintro acc s ⟨xs, b, rfl, h1, h2, rfl⟩ _
    exact fin xs b (by simpa using h1) h2
theorem e_delta {ds : List Nat} {m a : Nat} (hm : m < 10 ^ 9) : ∃ (δ : Dl) (b : Nat), (∀ t ∈ δ, t.good ∧ t.fits m ∧ t.low) ∧ size δ ≤ 5 * max 3 m ∧ m__law_delta [.loc 0, .int (m : Int)] (cell ds a) = some (dl δ, cell ds b) := by
  suffices h : @WF m__law_delta [.loc 0, .int (m : Int)] (cell ds a) (Kt.K fun d c => ∃ (δ : Dl) (b : Nat), (∀ t ∈ δ, t.good ∧ t.fits m ∧ t.low) ∧ size δ ≤ 5 * max 3 m ∧ d = dl δ ∧ c = cell ds b) by
    obtain ⟨d, c, e, δ, b, h1, h2, rfl, rfl⟩ := h
    exact ⟨δ, b, h1, h2, e⟩
  simp [m__law_delta, WF_run, code__law_delta]
  obtain ⟨r, er, hr⟩ := nx_nat (ds := ds) (a := a) (i := 6) (by omega)
  rw [er]
  refine ⟨by omega, ?_⟩
  simp
  refine W_forM (F := fun i : Nat => D.int (0 + (i : Int) * 1)) (l := List.range r) (fun p s => DeI ds m p.length s) ⟨[], 0, a + 1, .no, .no, .no, .no, .no, by simp, by simp, by simp [size], rfl⟩ ?_ ?_
  · rintro p i q s e ⟨δ, ed, a, x1, x2, x3, x4, x5, h1, h2, h3, rfl⟩
    have hp : p.length < 6 := by
      have := congrArg List.length e
      simp at this
      omega
    obtain ⟨kind, ek, hk⟩ := nx_nat (ds := ds) (a := a) (i := 4) (by omega)
    simp [ek]
    obtain ⟨n, en, hn⟩ := nx_nat (ds := ds) (a := a + 1) (i := 3) (by omega)
    have hn' : (1 + nxI ds (a + 1) 3).toNat = n + 1 := by omega
    have hbig : -4611686018427387904 ≤ 1 + nxI ds (a + 1) 3 ∧ 1 + nxI ds (a + 1) 3 < 4611686018427387904 := by omega
    have hput : ∀ xs : List Nat, xs.length = n + 1 → (∀ x ∈ xs, x < 256) → ∀ (b : Nat) (y1 y2 y3 y4 y5 : Sl), DeI ds m (p.length + 1) ⟨[.sh (.loc 0), .sh (.int (m : Int)), .ol (δ.map Stp.d ++ [.tup [.str (Str.ofString "put"), .tup (nus xs)]]), .sh (.int (ed : Int)), y1, y2, y3, y4, y5], cell ds b⟩ := by
      intro xs h4 h5 b y1 y2 y3 y4 y5
      have hl : xs.length ≤ max 3 m := by omega
      exact de_add (t := .put xs) h1 h2 h3 ⟨⟨by intro z; rw [z] at h4; simp at h4, h5⟩, trivial, trivial⟩ hl
    have hcp : ∀ b l : Nat, 0 < l → b + l ≤ m → ∀ (e c : Nat) (y1 y2 y3 y4 y5 : Sl), DeI ds m (p.length + 1) ⟨[.sh (.loc 0), .sh (.int (m : Int)), .ol (δ.map Stp.d ++ [.tup [.str (Str.ofString "copy"), .int (b : Int), .int (l : Int)]]), .sh (.int (e : Int)), y1, y2, y3, y4, y5], cell ds c⟩ := by
      intro b l h4 h5 e c y1 y2 y3 y4 y5
      exact de_add (t := .cp b l) h1 h2 h3 ⟨h4, h5, by show b < 10 ^ 9 ∧ l < 10 ^ 9; omega⟩ (by show l ≤ max 3 m; omega)
    have hdl : δ.length < 16777216 := by omega
    refine ⟨fun _ => ⟨hbig, ?_⟩, fun hk0 => ⟨fun hm0 => ⟨hbig, ?_⟩, fun hm0 => ?_⟩⟩
    · rw [hn']
      refine put_comp (by omega) fun xs b h4 h5 => ?_
      simp [hdl]
      exact hput xs h4 h5 _ _ _ _ _ _
    · rw [hn']
      refine put_comp (by omega) fun xs b h4 h5 => ?_
      simp [hdl]
      exact hput xs h4 h5 _ _ _ _ _ _
    · have hmi : (0 : Int) < m := by omega
      refine ⟨fun h1k => ⟨fun hed => ?_, fun hed => ?_⟩, fun h1k => ?_⟩
      · have hd : (0 : Int) < (m : Int) - (ed : Int) := by omega
        obtain ⟨l, el, hl⟩ := nx_nat (ds := ds) (a := a + 1) hd
        rw [WF_next hd, el]
        simp [hdl]
        have := hcp ed (1 + l) (by omega) (by omega) (ed + (1 + l)) (a + 1 + 1)
        simpa using this _ _ _ _ _
      · obtain ⟨b, eb, hb⟩ := nx_nat (ds := ds) (a := a + 1) hmi
        have hd : (0 : Int) < (m : Int) - (b : Int) := by omega
        obtain ⟨l, el, hl⟩ := nx_nat (ds := ds) (a := a + 1 + 1) hd
        rw [WF_next hmi, eb]
        simp
        rw [WF_next hd, el]
        simp [hdl]
        have := hcp b (1 + l) (by omega) (by omega) (b + (1 + l)) (a + 1 + 1 + 1)
        simpa using this _ _ _ _ _
      · obtain ⟨b, eb, hb⟩ := nx_nat (ds := ds) (a := a + 1) hmi
        have hd : (0 : Int) < (m : Int) - (b : Int) := by omega
        obtain ⟨l, el, hl⟩ := nx_nat (ds := ds) (a := a + 1 + 1) hd
        rw [WF_next hmi, eb]
        simp
        rw [WF_next hd, el]
        simp [hdl]
        have := hcp b (1 + l) (by omega) (by omega) (b + (1 + l)) (a + 1 + 1 + 1)
        simpa using this _ _ _ _ _
  · rintro s ⟨δ, ed, a, x1, x2, x3, x4, x5, h1, h2, h3, rfl⟩
    simp
    have : r * max 3 m ≤ 5 * max 3 m := Nat.mul_le_mul_right _ (by omega)
    simp at h3
    exact ⟨δ, h1, by omega, rfl, a, rfl⟩
end K78

namespace K78
open PySem PySem.Spec PyProof.Rows DL
variable {cs : List Cell}
def Row.d : Row → D
  | .put v => .tup [.str (Str.ofString "put"), .int (v : Int)]
  | .old k => .tup [.str (Str.ofString "old"), .int (k : Int)]
theorem e_from {δ : Dl} {rows : List Row} (h : ok δ rows.length) (hs : size δ < 1000000) : m__law_from [dl δ, .lst (rows.map Row.d)] cs = some (.lst ((frm δ rows).map Row.d), cs) := by
  apply WF.eq
  have hl := frm_len h
  simp [m__law_from, WF_run, code__law_from, dl]
  refine W_forM (fun p s => ∃ x y, s = ⟨[.sh (dl δ), .sh (.lst (rows.map Row.d)), .ol ((frm p rows).map Row.d), x, y], cs⟩) ⟨.no, .no, rfl⟩ ?_ ?_
  · rintro p s0 q s e ⟨x, y, rfl⟩
    have hs0 : s0 ∈ δ := by rw [e]; simp
    have hlen : (frm p rows).length + (frm [s0] rows).length ≤ size δ := by
      rw [← hl, e, show p ++ s0 :: q = p ++ ([s0] ++ q) by simp, frm_app, frm_app]
      simp
    cases s0 with
    | put xs =>
      simp [Stp.d]
      have hx : xs.length ≤ size δ := by have := len_size hs0; simpa [Stp.len] using this
      refine WL_mapM (F := fun x : Nat => D.int (x : Int)) (fun v => some (.tup [.str (Str.ofString "put"), .int (v : Int)])) (by omega) (fun v hv => ?_) ?_
      · simp
      · rw [fm_some]
        rw [show (frm [.put xs] rows).length = xs.length by simp [frm]] at hlen
        simp [frm_app]
        refine ⟨by omega, ?_⟩
        simp [frm, Row.d, Function.comp_def]
    | cp b l =>
      have hf : b + l ≤ rows.length := (h _ hs0).2
      rw [show (frm [.cp b l] rows).length = l by simp [frm]; omega] at hlen
      simp [Stp.d, cut_mid (show b + l ≤ (rows.map Row.d).length by simpa using hf), frm_app]
      refine ⟨by omega, ?_⟩
      simp [frm, List.map_take, List.map_drop]
  · rintro s ⟨x, y, rfl⟩
    simp
@[simp] theorem WO_gT {gs : List D → DL.S → Option DL.S} {ds : List D} {st : DL.S} {Q : DL.S → Prop} : @WO _ (gT gs (.tup ds) st) (Kt.K Q) ↔ @WO _ (gs ds st) (Kt.K Q) := Iff.rfl
@[simp] theorem WO_gsCons {g : D → DL.S → Option DL.S} {gs : List D → DL.S → Option DL.S} {d : D} {r : List D} {st : DL.S} {Q : DL.S → Prop} : @WO _ (gsCons g gs (d :: r) st) (Kt.K Q) ↔ @WO _ (g d st) (Kt.K fun s => @WO _ (gs r s) (Kt.K Q)) := by
  unfold gsCons
  cases h : g d st <;> simp [h]
@[simp] theorem WO_gsNil {st : DL.S} {Q : DL.S → Prop} : @WO _ (gsNil [] st) (Kt.K Q) ↔ Q st := WO_some
theorem nf_snoc (p : List Row) (r : Row) : nf (p ++ [r]) = addS (nf p) (one r) := by simp [nf]
theorem ix_m1 {n : Nat} (h : 0 < n) : L2.ixN n (-1) = some (n - 1) := by
  unfold L2.ixN
  rw [if_neg (by omega), if_pos (by omega)]
  congr 1
  omega
theorem set_last {α : Type} {xs : List α} {d : α} (h : xs ≠ []) : xs.set (xs.length - 1) d = xs.dropLast ++ [d] := by
  obtain ⟨ys, y, rfl⟩ := List.eq_nil_or_concat xs |>.resolve_left h
  simp
theorem nf_pos {rs : List Row} : ∀ s ∈ nf rs, 0 < s.len := by
  have : nf rs = (rs.map one).foldl addS [] := by unfold nf; rw [List.foldl_map]
  rw [this]
  have key : ∀ (δ ss : Dl), (∀ s ∈ δ, 0 < s.len) → (∀ s ∈ ss, 0 < s.len) → ∀ s ∈ δ.foldl addS ss, 0 < s.len := by
    intro δ
    induction δ with
    | nil => intro ss _ h; exact h
    | cons s δ ih =>
      intro ss hδ hss
      refine ih _ (fun t ht => hδ t (List.mem_cons_of_mem _ ht)) fun t ht => ?_
      have h1 := hδ s List.mem_cons_self
      unfold addS at ht
      split at ht
      · rename_i xs ys hl
        rcases List.mem_append.mp ht with ht | ht
        · exact hss t (List.dropLast_subset _ ht)
        · rw [List.mem_singleton.mp ht]; simp [Stp.len] at h1 ⊢; omega
      · split at ht
        · rename_i b l b' l' hl hb
          rcases List.mem_append.mp ht with ht | ht
          · exact hss t (List.dropLast_subset _ ht)
          · rw [List.mem_singleton.mp ht]; simp [Stp.len] at h1 ⊢; omega
        · rcases List.mem_append.mp ht with ht | ht
          · exact hss t ht
          · rw [List.mem_singleton.mp ht]; exact h1
      · rcases List.mem_append.mp ht with ht | ht
        · exact hss t ht
        · rw [List.mem_singleton.mp ht]; exact h1
  refine key _ [] (fun s hs => ?_) (by simp)
  obtain ⟨r, _, rfl⟩ := List.mem_map.mp hs
  cases r <;> simp [one, Stp.len]
theorem nf_size (rs : List Row) : size (nf rs) = rs.length := by rw [← R_len, R_nf]
theorem e_steps {rows : List Row} (hl : rows.length < 1000000) : m__law_steps [.lst (rows.map Row.d)] cs = some (dl (nf rows), cs) := by
  apply WF.eq
  simp [m__law_steps, WF_run, code__law_steps]
  refine W_forM (fun p s => ∃ x y z, s = ⟨[.sh (.lst (rows.map Row.d)), .ol ((nf p).map Stp.d), x, y, z], cs⟩) ⟨.no, .no, .no, rfl⟩ ?_ ?_
  · rintro p r q s e ⟨x, y, z, rfl⟩
    have hp : p.length < rows.length := by rw [e]; simp
    have hcnt : (nf p).length ≤ p.length := by rw [← nf_size p]; exact len_le_sum nf_pos
    have hsz : ∀ t ∈ nf p, t.len ≤ p.length := fun t ht => by rw [← nf_size p]; exact len_size ht
    rw [nf_snoc]
    cases hlst : (nf p).getLast? with
    | none =>
      have hn : nf p = [] := by simpa using hlst
      rw [hn]
      cases r <;> simp [Row.d, eqD_lst_nil (k := 0), addS_0, one, Stp.d, nus]
    | some t =>
      have hne : nf p ≠ [] := by intro e; rw [e] at hlst; cases hlst
      have hne' : (nf p).isEmpty = false := by simpa using hne
      have ht := hsz t (List.mem_of_getLast? hlst)
      have hpos : 0 < (nf p).length := List.length_pos_iff.mpr hne
      have hset : ∀ d : D, ((nf p).map Stp.d).set ((nf p).length - 1) d = (nf p).dropLast.map Stp.d ++ [d] := fun d => by
        have := set_last (xs := (nf p).map Stp.d) (d := d) (by simpa using hne)
        rw [List.length_map] at this
        rw [this, List.map_dropLast]
      cases r with
      | put v =>
        cases t with
        | put xs =>
          simp [Stp.len] at ht
          simp [Row.d, eqD_lst_nil lay_stps, hne, hne', hlst, Stp.d, ix_m1 hpos, hset, one, addS_pp hlst, nus]
          omega
        | cp b l =>
          simp [Row.d, eqD_lst_nil lay_stps, hne, hne', hlst, Stp.d, one, addS_cp hlst, nus]
          omega
      | old k =>
        cases t with
        | put xs =>
          simp [Row.d, eqD_lst_nil lay_stps, hne, hne', hlst, Stp.d, one, addS_pc hlst, nus]
          omega
        | cp b l =>
          simp [Row.d, eqD_lst_nil lay_stps, hne, hne', hlst, Stp.d, ix_m1 hpos, hset, one]
          refine ⟨fun e => ?_, fun e => ?_⟩
          · have e : b + l = k := by omega
            simp [addS_cc hlst e, Stp.d]
          · have e : b + l ≠ k := by omega
            simp [addS_cn hlst e, Stp.d]
            omega
  · rintro s ⟨x, y, z, rfl⟩
    simp [dl]
end K78

namespace K78
open PySem PySem.Spec PyProof.Rows DL
variable {cs : List Cell}
theorem cut_to {α : Type} {xs : List α} {n : Nat} : DL.cutD xs none (some (n : Int)) = xs.take n := by
  unfold DL.cutD
  rw [HT.sIx_none, HT.sIx_nat]
  simp [List.take_eq_take_iff]
theorem cut_of {α : Type} {xs : List α} {n : Nat} : DL.cutD xs (some (n : Int)) none = xs.drop n := by
  unfold DL.cutD
  rw [HT.sIx_none, HT.sIx_nat]
  by_cases h : n ≤ xs.length
  · rw [Nat.min_eq_left h, List.take_of_length_le (by simp)]
  · rw [Nat.min_eq_right (by omega), List.drop_eq_nil_of_le (by omega), List.drop_eq_nil_of_le (by omega)]
    simp
/-! ### a chain of changes -/
def hist (old : List Nat) : List Dl → List (List Nat)
  | [] => [old]
  | d :: ds => old :: hist (app d old) ds
def last (old : List Nat) (ds : List Dl) : List Nat := ds.foldl (fun o d => app d o) old
def Lnk : List Nat → List Dl → Prop
  | _, [] => True
  | old, d :: ds => ok d old.length ∧ size d < 100000 ∧ Lnk (app d old) ds
theorem hist_snoc (p : List Dl) (d : Dl) (old : List Nat) : hist old (p ++ [d]) = hist old p ++ [app d (last old p)] := by
  induction p generalizing old with
  | nil => rfl
  | cons c p ih => simp [hist, ih, last]
theorem hist_last (p : List Dl) (old : List Nat) : (hist old p).getLast? = some (last old p) := by
  induction p generalizing old with
  | nil => rfl
  | cons c p ih =>
    have : hist (app c old) p ≠ [] := by cases p <;> simp [hist]
    rw [hist, List.getLast?_cons_of_ne_nil this, ih]
    rfl
theorem hist_len (p : List Dl) (old : List Nat) : (hist old p).length = p.length + 1 := by
  induction p generalizing old with
  | nil => rfl
  | cons c p ih => simp [hist, ih]
theorem lnk_app {p q : List Dl} {old : List Nat} : Lnk old (p ++ q) ↔ Lnk old p ∧ Lnk (last old p) q := by
  induction p generalizing old with
  | nil => simp [Lnk, last]
  | cons c p ih => simp [Lnk, ih, last, and_assoc]
theorem lnk_step {k : Nat} {ds : List Dl} {old : List Nat} (h : Lnk old ds) (hk : k + 1 < ds.length) :
    ∃ a b o, ds[k]? = some a ∧ ds[k + 1]? = some b ∧ (hist old ds)[k]? = some o ∧ ok a o.length ∧ ok b (size a) ∧ size a < 100000 ∧ size b < 100000 ∧
      Lnk old (ds.take k ++ [comp a b] ++ ds.drop (k + 2)) ∧ hist old (ds.take k ++ [comp a b] ++ ds.drop (k + 2)) = (hist old ds).take (k + 1) ++ (hist old ds).drop (k + 2) ∧
      chain (ds.take k ++ [comp a b] ++ ds.drop (k + 2)) (idr old.length) = chain ds (idr old.length) ∧
      ∀ rows : List Row, rows.length = old.length → chain (ds.take k ++ [comp a b] ++ ds.drop (k + 2)) rows = chain ds rows := by
  induction k generalizing ds old with
  | zero =>
    match ds, h, hk with
    | a :: b :: r, h, _ =>
      obtain ⟨h1, h2, h3, h4, h5⟩ := h
      rw [app_len h1] at h3
      have hr : ∀ rows : List Row, rows.length = old.length → chain (comp a b :: r) rows = chain (a :: b :: r) rows := fun rows e => by
        unfold chain
        rw [List.foldl_cons, List.foldl_cons, List.foldl_cons, comp_frm (by rw [e]; exact h1) h3]
      refine ⟨a, b, old, rfl, rfl, rfl, h1, h3, h2, h4, ⟨comp_ok h1 h3, by rw [comp_size h3]; exact h4, by rw [comp_app h1 h3]; exact h5⟩, ?_, hr _ (by simp [idr]), hr⟩
      show hist old (comp a b :: r) = _
      simp [hist, comp_app h1 h3]
  | succ k ih =>
    match ds, h, hk with
    | d :: r, h, hk =>
      obtain ⟨h1, h2, h3⟩ := h
      obtain ⟨a, b, o, e1, e2, e3, e4, e5, e6, e7, e8, e9, _, e10⟩ := ih h3 (by simpa using hk)
      have hr : ∀ rows : List Row, rows.length = old.length → chain (d :: (r.take k ++ [comp a b] ++ r.drop (k + 2))) rows = chain (d :: r) rows := fun rows e => by
        have := e10 (frm d rows) (by rw [frm_len (by rw [e]; exact h1), app_len h1])
        exact this
      refine ⟨a, b, o, e1, e2, e3, e4, e5, e6, e7, ⟨h1, h2, e8⟩, ?_, hr _ (by simp [idr]), hr⟩
      show old :: hist (app d old) (r.take k ++ [comp a b] ++ r.drop (k + 2)) = _
      rw [e9]
      simp [hist]
theorem e_all {ds : List Dl} {old : List Nat} {ord : List Nat} (h : Lnk old ds) (hl : ds.length < 1000) (h2 : 2 ≤ ds.length) (ho : ord.length + 1 = ds.length) (hb : ∀ i (hi : i < ord.length), ord[i] + i + 1 < ds.length) :
    m__law_all [.lst (ds.map dl), .tup (nus old), .lst (nus ord)] cs = some (dl (nf (chain ds (idr old.length))), cs) := by
  apply WF.eq
  simp [m__law_all, WF_run, code__law_all]
  refine W_forM (fun p s => ∃ x y, s = ⟨[.sh (.lst (ds.map dl)), .sh (.tup (nus old)), .sh (.lst (nus ord)), .ol (ds.map dl), .ol ((hist old p).map fun o => D.tup (nus o)), x, y], cs⟩) ⟨.no, .no, rfl⟩ ?_ ?_
  · rintro p d q s e ⟨x, y, rfl⟩
    rw [e, lnk_app] at h
    obtain ⟨h3, h4, h5, h6⟩ := h
    have hp : p.length < ds.length := by rw [e]; simp
    have hlen := hist_len p old
    have ha : ∀ c, m_applied_delta [dl d, .tup (nus (last old p))] c = some (.tup (nus (app d (last old p))), c) := fun c => e_applied h4 (by omega)
    simp [hist_last, WF_iff (ha _), hist_snoc]
    omega
  · rintro s ⟨x, y, rfl⟩
    simp
    refine W_forM (F := fun n : Nat => D.int (n : Int)) (fun t s => ∃ (es : List Dl) (x y : Sl), Lnk old es ∧ chain es (idr old.length) = chain ds (idr old.length) ∧ es.length + t.length = ds.length ∧ (t = [] ∨ ∃ a b, comp a b ∈ es) ∧
      s = ⟨[.sh (.lst (ds.map dl)), .sh (.tup (nus old)), .sh (.lst (nus ord)), .ol (es.map dl), .ol ((hist old es).map fun o => D.tup (nus o)), x, y], cs⟩) ⟨ds, x, y, h, rfl, by simp, .inl rfl, rfl⟩ ?_ ?_
    · rintro t k q s e ⟨es, x, y, h1, h3, h4, _, rfl⟩
      have hk : k + t.length + 1 < ds.length := by
        have hi : t.length < ord.length := by rw [e]; simp
        have := hb t.length hi
        have e2 : ord[t.length] = k := by simp [e]
        omega
      obtain ⟨a, b, o, e1, e2, e3, e4, e5, e6, e7, e8, e9, e10, _⟩ := lnk_step h1 (k := k) (by omega)
      have hc : ∀ c, m_composed [dl a, dl b, .tup (nus o)] c = some (dl (comp a b), c) := fun c => e_composed e4 e5 (by omega) (by omega)
      have hlen := hist_len es old
      have a1 : L2.atI (es.map dl) (k : Int) = some (dl a) := by rw [atI_nat]; simp [e1]
      have a2 : L2.atI (es.map dl) ((k : Int) + 1) = some (dl b) := by rw [show (k : Int) + 1 = ((k + 1 : Nat) : Int) by omega, atI_nat]; simp [e2]
      have a3 : L2.atI ((hist old es).map fun o => D.tup (nus o)) (k : Int) = some (.tup (nus o)) := by rw [atI_nat]; simp [e3]
      simp [a1, a2, a3, WF_iff (hc _)]
      have c1 : DL.cutD ((hist old es).map fun o => D.tup (nus o)) none (some ((k : Int) + 1)) = ((hist old es).take (k + 1)).map fun o => D.tup (nus o) := by
        rw [show (k : Int) + 1 = ((k + 1 : Nat) : Int) by omega, cut_to, List.map_take]
      have c2 : DL.cutD ((hist old es).map fun o => D.tup (nus o)) (some ((k : Int) + 2)) none = ((hist old es).drop (k + 2)).map fun o => D.tup (nus o) := by
        rw [show (k : Int) + 2 = ((k + 2 : Nat) : Int) by omega, cut_of, List.map_drop]
      rw [c1, c2]
      refine ⟨by omega, by simp; omega, es.take k ++ [comp a b] ++ es.drop (k + 2), e8, e10.trans h3, by simp; omega, ⟨a, b, by simp⟩, ?_, ?_⟩
      · rw [show ((k : Int) + 2).toNat = k + 2 by omega]
        simp [List.map_take, List.map_drop]
      · rw [e9]
        simp
    · rintro s ⟨es, x, y, h1, h3, h4, h5, rfl⟩
      have hlen : es.length = 1 := by omega
      match es, hlen with
      | [c], _ =>
        rcases h5 with h5 | ⟨a, b, h5⟩
        · rw [h5] at ho; simp at ho; omega
        · have hc : comp a b = c := by simpa using h5
          have : nf (chain ds (idr old.length)) = c := by
            rw [← h3]
            show nf (frm c (idr old.length)) = c
            rw [frm_sub, sub_id fun r hr => (ok_rows h1.1 r hr).2, ← hc, comp, R_nf]
          rw [this]
          simp
end K78

namespace K78
open PySem PySem.Spec PyProof.Rows DL
variable {cs : List Cell}
@[simp] theorem viewD_dl {δ : Dl} : viewD cs (dl δ) = dl δ := rfl
@[simp] theorem src_dl {δ : Dl} : srcD (dl δ) = some (δ.map Stp.d) := rfl
@[simp] theorem len_dl {δ : Dl} : lenD [dl δ] = some (.v (.int (δ.length : Int))) := by simp [dl]
@[simp] theorem viewD_Row {r : Row} : viewD cs r.d = r.d := by cases r <;> rfl
@[simp] theorem viewD_Stp {r : Stp} : viewD cs r.d = r.d := by cases r <;> rfl
/-! ### what the chain's rows are -/
theorem chain_snoc (Δ : List Dl) (d : Dl) (rows : List Row) : chain (Δ ++ [d]) rows = frm d (chain Δ rows) := by simp [chain]
theorem chain_ok {Δ : List Dl} {old : List Nat} (h : Lnk old Δ) : (∀ r ∈ chain Δ (idr old.length), rgood r ∧ rin old.length r) ∧ (chain Δ (idr old.length)).map (val old) = last old Δ := by
  have key : ∀ (Δ : List Dl) (rows : List Row), (∀ r ∈ rows, rgood r ∧ rin old.length r) → Lnk (rows.map (val old)) Δ → (∀ r ∈ chain Δ rows, rgood r ∧ rin old.length r) ∧ (chain Δ rows).map (val old) = last (rows.map (val old)) Δ := by
    intro Δ
    induction Δ with
    | nil => intro rows hr _; exact ⟨hr, rfl⟩
    | cons d Δ ih =>
      intro rows hr h
      obtain ⟨h1, h2, h3⟩ := h
      rw [app_frm] at h3
      have h1 : ok d rows.length := by simpa using h1
      have := ih (frm d rows) (fun r hr' => by
        rw [frm_sub, sub_map fun r hr => (ok_rows h1 r hr).2] at hr'
        obtain ⟨t, ht, rfl⟩ := List.mem_map.mp hr'
        have ht' := ok_rows h1 t ht
        cases t with
        | put v => exact ⟨ht'.1, trivial⟩
        | old k =>
          have hk : k < rows.length := ht'.2
          simp only [pick1]
          rw [List.getD_eq_getElem?_getD, List.getElem?_eq_getElem hk]
          exact hr _ (List.getElem_mem hk)) h3
      refine ⟨this.1, ?_⟩
      rw [show last (rows.map (val old)) (d :: Δ) = last (app d (rows.map (val old))) Δ from rfl, app_frm]
      exact this.2
  have hid : (idr old.length).map (val old) = old := by
    refine List.ext_getElem (by simp [idr]) fun i h1 h2 => ?_
    simp [idr, val] at h1 ⊢
    rw [List.getElem?_eq_getElem h1]
    rfl
  have := key Δ (idr old.length) (fun r hr => by
    obtain ⟨k, hk, rfl⟩ := List.mem_map.mp hr
    exact ⟨trivial, show k < old.length by simpa using hk⟩) (by rw [hid]; exact h)
  rw [hid] at this
  exact this
theorem cost_sum (δ : Dl) : (δ.map cost).sum = 5 * ((δ.filter fun s => match s with | .cp _ _ => true | _ => false).length : Int) + 3 * ((δ.length : Int) - ((δ.filter fun s => match s with | .cp _ _ => true | _ => false).length : Int)) + (((R δ).filter fun r => match r with | .put _ => true | _ => false).length : Int) := by
  induction δ with
  | nil => rfl
  | cons s δ ih =>
    rw [List.map_cons, List.sum_cons, ih, show R (s :: δ) = ex s ++ R δ by simp [R], List.filter_append, List.length_append]
    cases s with
    | put xs =>
      have e : ((xs.map Row.put).filter fun r => match r with | .put _ => true | _ => false) = xs.map Row.put := by
        rw [List.filter_eq_self]
        intro r hr
        obtain ⟨x, _, rfl⟩ := List.mem_map.mp hr
        rfl
      simp only [ex, e, cost]
      simp
      omega
    | cp b l =>
      have e : (((List.range' b l).map Row.old).filter fun r => match r with | .put _ => true | _ => false) = [] := by
        rw [List.filter_eq_nil_iff]
        intro r hr
        obtain ⟨x, _, rfl⟩ := List.mem_map.mp hr
        simp
      simp only [ex, e, cost]
      simp
      omega
theorem fine_nf {rows : List Row} {n : Nat} (h : ∀ r ∈ rows, rgood r ∧ rin n r) (hl : rows.length < 100000) (hn : n < 1000) : Fine (nf rows) := by
  refine ⟨fun s hs => ⟨(ok_nf h s hs).1, ?_⟩, by rw [nf_size]; exact hl⟩
  have h1 := (ok_nf h s hs).2
  have h2 := len_size hs
  rw [nf_size] at h2
  cases s with
  | put xs => trivial
  | cp b l =>
    have h1 : b + l ≤ n := h1
    show b < 10 ^ 9 ∧ l < 10 ^ 9
    omega
/-- the state between two turns -/
def TuI (ns : List Int) (ds : List Nat) (s : DL.S) : Prop := ∃ (a : Nat) (x2 x3 x4 x5 x6 x7 x8 x9 x10 x11 x12 x13 x14 x15 x16 x17 : Sl), s = ⟨[.sh (.scr ns), .sh (.loc 0), x2, x3, x4, x5, x6, x7, x8, x9, x10, x11, x12, x13, x14, x15, x16, x17], cell ds a⟩
/-- the state in the changes' loop -/
def DlI (ns : List Int) (ds : List Nat) (old : List Nat) (x2 x3 x4 x10 x11 x12 x13 x14 x15 x16 x17 : Sl) (k : Nat) (s : DL.S) : Prop := ∃ (Δ : List Dl) (a : Nat) (x8 x9 : Sl), Δ.length = k ∧ Lnk old Δ ∧ (last old Δ).length ≤ 13 * 5 ^ k ∧
  (x8 = .sh (.lst ((chain Δ (idr old.length)).map Row.d)) ∨ (x8 = .ol ((chain Δ (idr old.length)).map Row.d) ∧ k = 0)) ∧
  s = ⟨[.sh (.scr ns), .sh (.loc 0), x2, x3, x4, .sh (.tup (nus old)), .ol (Δ.map dl), .sh (.tup (nus (last old Δ))), x8, x9, x10, x11, x12, x13, x14, x15, x16, x17], cell ds a⟩
theorem fm_len {α β : Type} {p : α → Bool} {g : α → β} : ∀ {xs : List α}, (xs.filterMap fun x => if p x then some (g x) else none).length = (xs.filter p).length
  | [] => rfl
  | x :: xs => by
    have := fm_len (p := p) (g := g) (xs := xs)
    rw [List.filterMap_cons, List.filter_cons]
    cases h : p x <;> simp [this]
theorem range_at {n x : Nat} {p q : List Nat} (h : List.range n = p ++ x :: q) : x = p.length ∧ p.length < n := by
  have h1 := congrArg (fun l => l[p.length]?) h
  have h2 := congrArg List.length h
  simp at h1 h2
  have hn : p.length < n := by omega
  rw [List.getElem?_range hn] at h1
  simp at h1
  exact ⟨h1.symm, hn⟩
abbrev ordElt : M Ev := dCall 2 m__law_next (dConsF (dVar 1) (dConsF (dOp2 subD (dOp2 subD (dOpL lenD (dConsU (dVar 6) dNilU)) (dC (.int 1))) (dVar 9)) dNilF))
theorem ord_comp {ds : List Nat} {a : Nat} {Δ : List Dl} {x0 x2 x3 x4 x5 x6 x7 x8 x10 x11 x12 x13 x14 x15 x16 x17 : Sl} {Q : List D → DL.S → Prop} (hl : Δ.length < 1000) (h2 : 2 ≤ Δ.length) (h6 : x6 = .ol (Δ.map dl) ∨ x6 = .sh (.lst (Δ.map dl)))
    (fin : ∀ (ord : List Nat) (b : Nat), ord.length + 1 = Δ.length → (∀ i (hi : i < ord.length), ord[i] + i + 1 < Δ.length) → Q (nus ord) ⟨[x0, .sh (.loc 0), x2, x3, x4, x5, x6, x7, x8, .no, x10, x11, x12, x13, x14, x15, x16, x17], cell ds b⟩) :
    @WL (gN 9) (dPure true) ordElt [9] (rngI 0 1 (Δ.length - 1)) [] ⟨[x0, .sh (.loc 0), x2, x3, x4, x5, x6, x7, x8, .no, x10, x11, x12, x13, x14, x15, x16, x17], cell ds a⟩ (Kt.K Q) := by
  refine WL_runM (F := fun i : Nat => D.int (0 + (i : Int) * 1)) (l := List.range (Δ.length - 1)) (fun p acc s => ∃ (ord : List Nat) (b : Nat), acc = nus ord ∧ ord.length = p.length ∧ (∀ i (hi : i < ord.length), ord[i] + i + 1 < Δ.length) ∧ s = ⟨[x0, .sh (.loc 0), x2, x3, x4, x5, x6, x7, x8, .no, x10, x11, x12, x13, x14, x15, x16, x17], cell ds b⟩) (by simp; omega) ⟨[], a, rfl, rfl, by simp, rfl⟩ ?_ ?_
  · rintro p x q acc s e ⟨ord, b, rfl, h3, h4, rfl⟩
    obtain ⟨rfl, hp⟩ := range_at e
    have hpos : (0 : Int) < (Δ.length : Int) - 1 - (p.length : Int) := by omega
    obtain ⟨v, ev, hv⟩ := nx_nat (ds := ds) (a := b) hpos
    have fin2 : ∃ (ord' : List Nat), nus ord ++ [D.int (v : Int)] = nus ord' ∧ ord'.length = p.length + 1 ∧ (∀ i (hi : i < ord'.length), ord'[i] + i + 1 < Δ.length) ∧ ∃ b', cell ds (b + 1) = cell ds b' := by
      refine ⟨ord ++ [v], by simp [nus], by simp [h3], fun i hi => ?_, b + 1, rfl⟩
      by_cases hio : i < ord.length
      · rw [List.getElem_append_left hio]; exact h4 i hio
      · have : i = ord.length := by simp at hi; omega
        subst this
        simp
        omega
    rcases h6 with rfl | rfl
    · simp
      rw [WF_next hpos, ev]
      simp [addO]
      exact fin2
    · simp
      rw [WF_next hpos, ev]
      simp [addO]
      exact fin2
  · rintro acc s ⟨ord, b, rfl, h3, h4, rfl⟩ _
    exact fin ord b (by simp at h3; omega) h4
theorem law_true (ns : List Int) (hn : ns.length ≤ 63) : ∃ cs, m_law [.scr ns] [] = some (.bl true, cs) := by
  suffices h : @WF m_law [.scr ns] [] (Kt.K fun d c => d = .bl true) by
    obtain ⟨d, c, e, h⟩ := h
    have h : d = .bl true := h
    subst h
    exact ⟨c, e⟩
  obtain ⟨ds, e⟩ := e_draws (cs := []) hn
  have hm : mergeD [] [(.inr (Str.ofString "draws"), D.lst (nus ds)), (.inr (Str.ofString "at"), .int 0)] = [(.inr (Str.ofString "draws"), .lst (nus ds)), (.inr (Str.ofString "at"), .int ((0 : Nat) : Int))] := by
    have : ¬ (Str.ofString "draws" = Str.ofString "at") := by decide +kernel
    simp [mergeD, putD, this]
  simp [m_law, WF_run, code_law, WF_iff e, hm]
  rw [show ([Cell.dct [(.inr (Str.ofString "draws"), .lst (nus ds)), (.inr (Str.ofString "at"), .int 0)]] : List Cell) = cell ds 0 from rfl]
  refine W_forM (F := fun i : Nat => D.int (0 + (i : Int) * 1)) (l := List.range 4) (fun p s => TuI ns ds s) ⟨0, _, _, _, _, _, _, _, _, _, _, _, _, _, _, _, _, rfl⟩ ?_ ?_
  · rintro p i q s e ⟨a, x2, x3, x4, x5, x6, x7, x8, x9, x10, x11, x12, x13, x14, x15, x16, x17, rfl⟩
    obtain ⟨n, en, hn⟩ := nx_nat (ds := ds) (a := a) (i := 14) (by omega)
    obtain ⟨st, es, hst⟩ := nx_nat (ds := ds) (a := a + 1) (i := 250) (by omega)
    simp [en, es]
    refine ⟨by omega, ?_⟩
    refine WL_mapM (F := fun i : Nat => D.int (0 + (i : Int) * 1)) (fun i => some (.int (((1 + st) * i % 251 : Nat) : Int))) (by simp; omega) (fun i hi => ?_) ?_
    · have hi : i < n := by simpa using hi
      simp
      omega
    rw [fm_some, show (List.range n).map (fun i => D.int (((1 + st) * i % 251 : Nat) : Int)) = nus ((List.range n).map fun i => (1 + st) * i % 251) by simp [nus]]
    generalize hold : (List.range n).map (fun i => (1 + st) * i % 251) = old
    have hlen : old.length = n := by rw [← hold]; simp
    simp
    refine ⟨by omega, ?_⟩
    refine WL_mapM (F := fun i : Nat => D.int (0 + (i : Int) * 1)) (fun i => some (Row.old i).d) (by simp; omega) (fun i hi => ?_) ?_
    · simp [Row.d]
    rw [fm_some, show (List.range n).map (fun i => (Row.old i).d) = (idr n).map Row.d by simp [idr]]
    obtain ⟨m, em, hm⟩ := nx_nat (ds := ds) (a := a + 1 + 1) (i := 3) (by omega)
    simp [em]
    refine ⟨by omega, ?_⟩
    rw [show (2 + (m : Int)).toNat = 2 + m by omega]
    refine W_forM (F := fun i : Nat => D.int (0 + (i : Int) * 1)) (l := List.range (2 + m)) (fun p s => DlI ns ds old (.sh (.int i)) (.sh (.int n)) (.sh (.int (1 + st))) x10 x11 x12 x13 x14 x15 x16 x17 p.length s) ⟨[], _, _, _, rfl, trivial, by simp [last]; omega, .inr ⟨by rw [hlen]; rfl, rfl⟩, rfl⟩ ?_ ?_
    · rintro p i2 q s e ⟨Δ, a2, x8, x9, h1, h2, h3, h4, rfl⟩
      have hp : p.length < 4 := by
        have := congrArg List.length e
        simp at this
        omega
      have hpow : 5 ^ p.length ≤ 5 ^ 3 := Nat.pow_le_pow_right (by omega) (by omega)
      have hpow1 : 1 ≤ 5 ^ p.length := Nat.pos_of_ne_zero (by simp)
      obtain ⟨δ, b, d1, d2, d3⟩ := e_delta (ds := ds) (m := (last old Δ).length) (a := a2) (by omega)
      have hok : ok δ (last old Δ).length := fun t ht => ⟨(d1 t ht).1, (d1 t ht).2.1⟩
      have hch := chain_ok h2
      have hrl : (chain Δ (idr old.length)).length = (last old Δ).length := by rw [← hch.2]; simp
      have d4 : ∀ c, m__law_from [dl δ, .lst ((chain Δ (idr old.length)).map Row.d)] c = some (.lst ((frm δ (chain Δ (idr old.length))).map Row.d), c) := fun c => e_from (by rw [hrl]; exact hok) (by omega)
      have d5 : ∀ c, m_applied_delta [dl δ, .tup (nus (last old Δ))] c = some (.tup (nus (app δ (last old Δ))), c) := fun c => e_applied hok (by omega)
      have fin : ∀ y : Sl, DlI ns ds old (.sh (.int i)) (.sh (.int n)) (.sh (.int (1 + st))) x10 x11 x12 x13 x14 x15 x16 x17 (p.length + 1) ⟨[.sh (.scr ns), .sh (.loc 0), .sh (.int i), .sh (.int n), .sh (.int (1 + st)), .sh (.tup (nus old)), .ol (Δ.map dl ++ [dl δ]), .sh (.tup (nus (app δ (last old Δ)))), .sh (.lst ((frm δ (chain Δ (idr old.length))).map Row.d)), y, x10, x11, x12, x13, x14, x15, x16, x17], cell ds b⟩ := fun y => by
        refine ⟨Δ ++ [δ], b, _, y, by simp; omega, lnk_app.mpr ⟨h2, hok, by omega, trivial⟩, ?_, .inl (by rw [chain_snoc]), by simp [last]⟩
        have e5 : last old (Δ ++ [δ]) = app δ (last old Δ) := by simp [last]
        rw [e5, app_len hok, Nat.pow_succ]
        omega
      have hdl : Δ.length < 16777216 := by omega
      rcases h4 with rfl | ⟨rfl, _⟩
      · simp [WF_iff d3, hdl, WF_iff (d4 _), WF_iff (d5 _)]
        exact fin _
      · simp [WF_iff d3, hdl, WF_iff (d4 _), WF_iff (d5 _)]
        exact fin _
    · rintro s ⟨Δ, a2, x8, x9, h1, h2, h3, h4, rfl⟩
      have hk : (List.range (2 + m)).length = 2 + m := by simp
      rw [hk] at h1 h3
      have hpow : 5 ^ (2 + m) ≤ 5 ^ 4 := Nat.pow_le_pow_right (by omega) (by omega)
      have h4 : x8 = .sh (.lst ((chain Δ (idr old.length)).map Row.d)) := by
        rcases h4 with h4 | ⟨_, h4⟩
        · exact h4
        · rw [hk] at h4; omega
      subst h4
      obtain ⟨g1, g2⟩ := chain_ok h2
      generalize hrows : chain Δ (idr old.length) = rows at g1 g2
      have hrl : rows.length = (last old Δ).length := by rw [← g2]; simp
      have hrb : rows.length < 9000 := by omega
      have hdue : ok (nf rows) old.length := ok_nf g1
      have hsz := nf_size rows
      have hdl := ok_len hdue
      have happ : app (nf rows) old = last old Δ := by rw [app_rows hdue, R_nf, g2]
      have f1 : ∀ c, m__law_steps [.lst (rows.map Row.d)] c = some (dl (nf rows), c) := fun c => e_steps (by omega)
      have f2 : ∀ c, m_applied_delta [dl (nf rows), .tup (nus old)] c = some (.tup (nus (last old Δ)), c) := fun c => by rw [← happ]; exact e_applied hdue (by omega)
      have q1 : eqD (.tup (nus (last old Δ))) (.tup (nus (last old Δ))) = some true := eqD_self (k := 1) (.tup lay_nus) (by omega)
      have q2 : eqD (dl (nf rows)) (dl (nf rows)) = some true := eqD_self (k := 3) (.tup lay_stps) (by omega)
      simp [WF_iff (f1 _)]
      refine WL_mapM (F := Row.d) (fun r => some (.int (val old r : Int))) (by omega) (fun r hr => ?_) ?_
      · cases r with
        | put v => simp [Row.d, val]
        | old k =>
          have hk : k < old.length := (g1 _ hr).2
          have ha : L2.atI (nus old) (k : Int) = some (.int (old[k] : Int)) := by rw [atI_nat]; simp [nus, hk]
          simp [Row.d, ha, val, hk]
      rw [fm_some, show rows.map (fun r => D.int (val old r : Int)) = nus (last old Δ) by rw [← g2]; simp [nus]]
      simp [q1, WF_iff (f2 _)]
      refine W_forM (F := fun i : Nat => D.int (0 + (i : Int) * 1)) (l := List.range 3) (fun p s => ∃ (b : Nat) (x6 x9 x11 x12 x13 x14 x15 x16 x17 : Sl), (x6 = .ol (Δ.map dl) ∨ x6 = .sh (.lst (Δ.map dl))) ∧
        s = ⟨[.sh (.scr ns), .sh (.loc 0), .sh (.int i), .sh (.int n), .sh (.int (1 + st)), .sh (.tup (nus old)), x6, .sh (.tup (nus (last old Δ))), .sh (.lst (rows.map Row.d)), x9, .sh (dl (nf rows)), x11, x12, x13, x14, x15, x16, x17], cell ds b⟩) ⟨_, _, _, _, _, _, _, _, _, _, .inl rfl, rfl⟩ ?_ ?_
      · rintro p i3 q s e ⟨b, x6, x9, x11, x12, x13, x14, x15, x16, x17, h6, rfl⟩
        have hfine : Fine (nf rows) := fine_nf g1 (by omega) (by omega)
        have w2 : ∀ c, m_is_delta [.tup (nus old), dl (nf rows)] c = some (.bl true, c) := fun c => e_is_delta (by simpa using hdue) (by omega) fun s hs => by have := len_size hs; omega
        have w3 : ∀ c, m_delta_text [dl (nf rows)] c = some (.str (C (textL (nf rows))), c) := fun c => e_delta_text hfine
        have w4 : ∀ c, m_read_delta [.str (C (textL (nf rows)))] c = some (dl (nf rows), c) := fun c => e_read_delta hfine
        have w1 : ∀ (ord : List Nat), ord.length + 1 = Δ.length → (∀ i (hi : i < ord.length), ord[i] + i + 1 < Δ.length) → ∀ c, m__law_all [.lst (Δ.map dl), .tup (nus old), .lst (nus ord)] c = some (dl (nf rows), c) := fun ord o1 o2 c => by
          rw [← hrows]
          exact e_all h2 (by omega) (by omega) o1 o2
        rcases h6 with rfl | rfl
        · simp
          refine ⟨by omega, ?_⟩
          refine ord_comp (by omega) (by omega) (.inl rfl) fun ord b o1 o2 => ?_
          simp [WF_iff (w1 ord o1 o2 _), q2, WF_iff (w2 _), WF_iff (w3 _), WF_iff (w4 _)]
          exact ⟨_, rfl⟩
        · simp
          refine ⟨by omega, ?_⟩
          refine ord_comp (by omega) (by omega) (.inr rfl) fun ord b o1 o2 => ?_
          simp [WF_iff (w1 ord o1 o2 _), q2, WF_iff (w2 _), WF_iff (w3 _), WF_iff (w4 _)]
          exact ⟨_, rfl⟩
      · rintro s ⟨b, x6, x9, x11, x12, x13, x14, x15, x16, x17, h6, rfl⟩
        simp
        refine WL_mapM (fun s => if (match s with | .cp _ _ => true | _ => false : Bool) then some s.d else none) (by omega) (fun s hs => ?_) ?_
        · cases s <;> simp [Stp.d]
        have ec := fm_len (p := fun s : Stp => match s with | .cp _ _ => true | _ => false) (g := Stp.d) (xs := nf rows)
        simp [-List.filterMap_map, ec]
        refine WL_mapM (F := Row.d) (fun r => if (match r with | .put _ => true | _ => false : Bool) then some r.d else none) (by omega) (fun r hr => ?_) ?_
        · cases r <;> simp [Row.d]
        have er := fm_len (p := fun r : Row => match r with | .put _ => true | _ => false) (g := Row.d) (xs := rows)
        have hc : ∀ c, m_delta_cost [dl (nf rows), .tup [.int 5, .int 3, .int 1]] c = some (.int ((nf rows).map cost).sum, c) := fun c => e_cost (by omega)
        have hcs := cost_sum (nf rows)
        rw [R_nf] at hcs
        simp [-List.filterMap_map, er, WF_iff (hc _)]
        exact ⟨fun _ => ⟨b, _, _, _, _, _, _, _, _, _, _, _, _, _, _, _, _, rfl⟩, hcs⟩
  · rintro s ⟨a, x2, x3, x4, x5, x6, x7, x8, x9, x10, x11, x12, x13, x14, x15, x16, x17, rfl⟩
    simp
end K78

open PySem PySem.W PyProof.Rows
set_option maxRecDepth 100000 in
set_option maxHeartbeats 0 in
theorem PySem.Challenge.cw_servedasmade_k78_whole_deltas_one_behind_holds : PySem.Challenge.rw_servedasmade_k78_whole_deltas_one_behind.Holds := by
  w_on; o_law; k_head; (case hw => w_witness2)
  k_fill
  refine L2.walk_of (l := PySem.Challenge.rw_servedasmade_k78_whole_deltas_one_behind) (n := 63) (k := 8) (x := "script") (CX := fun _ => L2.CX0) (sp := fun w => DL.spD _ (fun _ => 0) 1 K78.m_law) rfl (by decide) rfl ⟨rfl, by decide, by decide⟩ (fun w h Y => PySem.W.kIn_of Y) ?F (fun _ H a ns hl hO hS => DL.law_sp K78.law_true H a ns hl hO hS) (fun _ _ _ _ _ h => h)
  case F =>
    intro w mg fa h KX G hmg
    refine' (fun q => ?_) (K78.tx_mk (l := PySem.Challenge.rw_servedasmade_k78_whole_deltas_one_behind) KX G hmg ?a0 ?l0 ?c0 ?k0 ?a1 ?l1 ?c1 ?k1 ?a2 ?l2 ?c2 ?k2 ?a3 ?l3 ?c3 ?k3 ?a4 ?l4 ?c4 ?k4 ?a5 ?l5 ?c5 ?k5 ?a6 ?l6 ?c6 ?k6 ?a7 ?l7 ?c7 ?k7 ?a8 ?l8 ?c8 ?k8 ?a9 ?l9 ?c9 ?k9 ?a10 ?l10 ?c10 ?k10 ?a11 ?l11 ?c11 ?k11 ?a12 ?l12 ?c12 ?k12 ?a13 ?l13 ?c13 ?k13 ?a14 ?l14 ?c14 ?k14 ?a15 ?l15 ?c15 ?k15 ?a16 ?l16 ?c16 ?k16 ?a17 ?l17 ?c17 ?k17 ?a18 ?l18 ?c18 ?k18 ?a19 ?l19 ?c19 ?k19 ?a20 ?l20 ?c20 ?k20 ?a21 ?l21 ?c21 ?k21 ?a22 ?l22 ?c22 ?k22 ?a23 ?l23 ?c23 ?k23 ?a24 ?l24 ?c24 ?k24 ?a25 ?l25 ?c25 ?k25 ?z0 ?z1 ?z2 ?z3 ?z4 ?z5 ?z6 ?z7 ?z8 ?z9 ?z10 ?z11 ?z12 ?u0)
    · obtain ⟨T, e, hb⟩ := q
      subst e
      exact ⟨T.d_law, hb, fun base _ _ => K78.ok_law T⟩
    (case a0 => k_is)
    (case l0 => k_is)
    (case c0 => k_is)
    (case k0 => k_is)
    (case a1 => k_is)
    (case l1 => k_is)
    (case c1 => k_is)
    (case k1 => k_is)
    (case a2 => k_is)
    (case l2 => k_is)
    (case c2 => k_is)
    (case k2 => k_is)
    (case a3 => k_is)
    (case l3 => k_is)
    (case c3 => k_is)
    (case k3 => k_is)
    (case a4 => k_is)
    (case l4 => k_is)
    (case c4 => k_is)
    (case k4 => k_is)
    (case a5 => k_is)
    (case l5 => k_is)
    (case c5 => k_is)
    (case k5 => k_is)
    (case a6 => k_is)
    (case l6 => k_is)
    (case c6 => k_is)
    (case k6 => k_is)
    (case a7 => k_is)
    (case l7 => k_is)
    (case c7 => k_is)
    (case k7 => k_is)
    (case a8 => k_is)
    (case l8 => k_is)
    (case c8 => k_is)
    (case k8 => k_is)
    (case a9 => k_is)
    (case l9 => k_is)
    (case c9 => k_is)
    (case k9 => k_is)
    (case a10 => k_is)
    (case l10 => k_is)
    (case c10 => k_is)
    (case k10 => k_is)
    (case a11 => k_is)
    (case l11 => k_is)
    (case c11 => k_is)
    (case k11 => k_is)
    (case a12 => k_is)
    (case l12 => k_is)
    (case c12 => k_is)
    (case k12 => k_is)
    (case a13 => k_is)
    (case l13 => k_is)
    (case c13 => k_is)
    (case k13 => k_is)
    (case a14 => k_is)
    (case l14 => k_is)
    (case c14 => k_is)
    (case k14 => k_is)
    (case a15 => k_is)
    (case l15 => k_is)
    (case c15 => k_is)
    (case k15 => k_is)
    (case a16 => k_is)
    (case l16 => k_is)
    (case c16 => k_is)
    (case k16 => k_is)
    (case a17 => k_is)
    (case l17 => k_is)
    (case c17 => k_is)
    (case k17 => k_is)
    (case a18 => k_is)
    (case l18 => k_is)
    (case c18 => k_is)
    (case k18 => k_is)
    (case a19 => k_is)
    (case l19 => k_is)
    (case c19 => k_is)
    (case k19 => k_is)
    (case a20 => k_is)
    (case l20 => k_is)
    (case c20 => k_is)
    (case k20 => k_is)
    (case a21 => k_is)
    (case l21 => k_is)
    (case c21 => k_is)
    (case k21 => k_is)
    (case a22 => k_is)
    (case l22 => k_is)
    (case c22 => k_is)
    (case k22 => k_is)
    (case a23 => k_is)
    (case l23 => k_is)
    (case c23 => k_is)
    (case k23 => k_is)
    (case a24 => k_is)
    (case l24 => k_is)
    (case c24 => k_is)
    (case k24 => k_is)
    (case a25 => k_is)
    (case l25 => k_is)
    (case c25 => k_is)
    (case k25 => k_is)
    (case z0 => k_is)
    (case z1 => k_is)
    (case z2 => k_is)
    (case z3 => k_is)
    (case z4 => k_is)
    (case z5 => k_is)
    (case z6 => k_is)
    (case z7 => k_is)
    (case z8 => k_is)
    (case z9 => k_is)
    (case z10 => k_is)
    (case z11 => k_is)
    (case z12 => k_is)
    (case u0 => k_is)
