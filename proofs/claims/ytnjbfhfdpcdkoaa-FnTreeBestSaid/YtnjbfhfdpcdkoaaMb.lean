/- The abstract machine AM, part 17: a rule for each operation. -/
import Derived.Test.YtnjbfhfdpcdkoaaMa
import Derived.IntWalk
import Derived.ProofKit
import Derived.Below
set_option linter.unusedVariables false
set_option linter.unusedSimpArgs false
namespace Go.AM
open Go.RowKit

section
variable {P : Program} {T : Tab} {draw : Bool} {all rest : List Oper} {lg : FPs} {n : Nat} {t : List (Nat × AV)} {h : List (Nat × Option Obj)} {dd : List Nat} {K : Fs → Prop}
variable {d : Nat} {ty : TypeId} {pos : String} {af : Array Edge} {gd : Option (Nat × Bool)}

def hO : List (Nat × Option Obj) → Nat → Option Obj
  | [], _ => none
  | (j, v) :: l, i => bif Nat.beq j i then v else hO l i
theorem hO_eq {k : Nat} {o : Option Obj} (e : hO h k = o) : hlook h k = o := by
  rw [← e]
  clear e
  induction h with
  | nil => rfl
  | cons p h ih => obtain ⟨j, v⟩ := p; simp [hO, hlook, ih]
def rowsO : Option Obj → Option (List FK × List (List Int))
  | some o => o.rowsOf
  | none => none
def strsO : Option Obj → Option (List ByteArray)
  | some o => o.strsOf
  | none => none
def boxO : Option Obj → Option (List Sc)
  | some o => o.boxCells
  | none => none
def addrO : Option AV → Option (Nat × Nat)
  | some (.one (.r k)) => some (k, 0)
  | some (.one (.p k r sz f)) => bif Nat.beq r 0 && Nat.beq sz 0 then some (k, f) else none
  | _ => none
def cellsO : Option AV → Option (List Sc)
  | some (.one s) => some [s]
  | some (.agg cs) => some cs
  | _ => none
theorem rowsO_eq {o : Option Obj} {x : List FK × List (List Int)} (e : rowsO o = some x) : ∃ b, o = some b ∧ b.rowsOf = some x := by
  cases o with
  | none => cases e
  | some o => exact ⟨o, rfl, e⟩
theorem strsO_eq {o : Option Obj} {x : List ByteArray} (e : strsO o = some x) : ∃ b, o = some b ∧ b.strsOf = some x := by
  cases o with
  | none => cases e
  | some o => exact ⟨o, rfl, e⟩
theorem boxO_eq {o : Option Obj} {x : List Sc} (e : boxO o = some x) : ∃ b, o = some b ∧ b.boxCells = some x := by
  cases o with
  | none => cases e
  | some o => exact ⟨o, rfl, e⟩
theorem addrO_eq {x : Operand} {k f : Nat} {v : AV} (e : addrO (evO t x) = some (k, f)) (hv : v = evA (look t) x) : addrA v = some (k, 0, 0, f) := by
  cases hx : evO t x with
  | none => rw [hx] at e; cases e
  | some u =>
    rw [hx] at e
    rw [hv, evO_eq hx]
    cases u with
    | one s =>
      cases s with
      | r => simp [addrO] at e; simp [addrA, e]
      | p k' r sz f' =>
        simp only [addrO] at e
        cases hb : (Nat.beq r 0 && Nat.beq sz 0) with
        | false => rw [hb] at e; cases e
        | true =>
          rw [hb] at e
          simp at hb e
          simp [addrA, hb, e]
      | _ => cases e
    | _ => cases e
theorem cellsO_eq {x : Operand} {cs : List Sc} {v : AV} (e : cellsO (evO t x) = some cs) (hv : v = evA (look t) x) : avCells v = some cs := by
  cases hx : evO t x with
  | none => rw [hx] at e; cases e
  | some u =>
    rw [hx] at e
    rw [hv, evO_eq hx]
    cases u <;> first | exact e | cases e
/-- A list, written over from place f on. -/
def revK {α β : Type} : List α → List α → (List α → Option β) → Option β
  | [], acc, k => k acc
  | x :: l, acc, k => revK l (x :: acc) k
def ovrK {α β : Type} : Nat → List α → List α → List α → (List α → Option β) → Option β
  | 0, cs, [], acc, k => revK acc cs k
  | 0, _ :: cs, x :: xs, acc, k => ovrK 0 cs xs (x :: acc) k
  | f + 1, c :: cs, xs, acc, k => ovrK f cs xs (c :: acc) k
  | _, _, _, _, _ => none
theorem revK_eq {α β : Type} (k : List α → Option β) : ∀ (l acc : List α), revK l acc k = k (l.reverse ++ acc)
  | [], acc => by simp [revK]
  | x :: l, acc => by simp [revK, revK_eq k l]
theorem ovrK_eq {α β : Type} (k : List α → Option β) (b : β) : ∀ (f : Nat) (cs xs acc : List α), ovrK f cs xs acc k = some b → f + xs.length ≤ cs.length ∧ k (acc.reverse ++ ovr cs f xs) = some b
  | 0, cs, [], acc, h => by simp [ovrK, revK_eq] at h; simpa [ovr] using h
  | 0, c :: cs, x :: xs, acc, h => by
    simp only [ovrK] at h
    obtain ⟨h1, h2⟩ := ovrK_eq k b 0 cs xs (x :: acc) h
    refine ⟨by simp at h1 ⊢; omega, ?_⟩
    simpa [ovr] using h2
  | f + 1, c :: cs, xs, acc, h => by
    simp only [ovrK] at h
    obtain ⟨h1, h2⟩ := ovrK_eq k b f cs xs (c :: acc) h
    refine ⟨by simp at h1 ⊢; omega, ?_⟩
    have e : ovr (c :: cs) (f + 1) xs = c :: ovr cs f xs := by simp [ovr, show f + 1 + xs.length = f + xs.length + 1 by omega]
    rw [e]
    simpa using h2
  | 0, [], _ :: _, _, h => by simp [ovrK] at h
  | _ + 1, [], _, _, h => by simp [ovrK] at h
def cutK {β : Type} {α : Type} : Nat → Nat → List α → List α → (List α → Option β) → Option β
  | 0, 0, _, acc, k => revK acc [] k
  | 0, m + 1, c :: cs, acc, k => cutK 0 m cs (c :: acc) k
  | f + 1, m, _ :: cs, acc, k => cutK f m cs acc k
  | _, _, _, _, _ => none
theorem cutK_eq {α β : Type} (k : List α → Option β) (b : β) : ∀ (f m : Nat) (cs acc : List α), cutK f m cs acc k = some b → f + m ≤ cs.length ∧ k (acc.reverse ++ (cs.drop f).take m) = some b
  | 0, 0, cs, acc, h => by simp [cutK, revK_eq] at h; simpa using h
  | 0, m + 1, c :: cs, acc, h => by
    simp only [cutK] at h
    obtain ⟨h1, h2⟩ := cutK_eq k b 0 m cs (c :: acc) h
    refine ⟨by simp at h1 ⊢; omega, by simpa using h2⟩
  | f + 1, m, c :: cs, acc, h => by
    simp only [cutK] at h
    obtain ⟨h1, h2⟩ := cutK_eq k b f m cs acc h
    refine ⟨by simp at h1 ⊢; omega, by simpa using h2⟩
  | 0, m + 1, [], _, h => by simp [cutK] at h
  | _ + 1, _, [], _, h => by simp [cutK] at h
def fldT : List Nat := [0, 1, 2, 3, 4, 5, 6, 7]
def upF : Nat → List Nat → Prop
  | _, [] => True
  | k, x :: l => x = k ∧ upF (k + 1) l
def rowK {β : Type} : List FK → List (List Int) → Nat → List Nat → List Sc → (List Sc → Option β) → Option β
  | [], _, _, _, acc, k => revK acc [] k
  | .i kd :: fks, rows, r, f :: fs, acc, k => rowK fks rows r fs (.c (.int kd (rd rows r f)) :: acc) k
  | .b :: fks, rows, r, f :: fs, acc, k => rowK fks rows r fs (.c (.bool (rd rows r f != 0)) :: acc) k
  | _ :: _, _, _, [], _, _ => none
theorem rowK_eq {β : Type} {b : β} (k : List Sc → Option β) : ∀ (fks : List FK) (rows : List (List Int)) (r f : Nat) (fs : List Nat) (acc : List Sc), upF f fs → rowK fks rows r fs acc k = some b → k (acc.reverse ++ rowSc fks rows r f) = some b
  | [], _, _, _, _, acc, _, h => by simpa [rowK, revK_eq, rowSc] using h
  | fk :: fks, rows, r, f, [], acc, _, h => by cases fk <;> simp [rowK] at h
  | fk :: fks, rows, r, f, x :: fs, acc, hu, h => by
    obtain ⟨rfl, hu⟩ := hu
    cases fk with
    | i kd =>
      simp only [rowK] at h
      have := rowK_eq k fks rows r (x + 1) fs _ hu h
      simpa [rowSc, FK.val] using this
    | b =>
      simp only [rowK] at h
      have := rowK_eq k fks rows r (x + 1) fs _ hu h
      simpa [rowSc, FK.val] using this
theorem ovrS_eq {cs xs out : List Sc} {f : Nat} (h : ovrK f cs xs [] some = some out) : f + xs.length ≤ cs.length ∧ ovr cs f xs = out := by
  obtain ⟨h1, h2⟩ := ovrK_eq some out f cs xs [] h
  exact ⟨h1, by simpa using h2⟩
theorem cutS_eq {cs out : List Sc} {f m : Nat} (h : cutK f m cs [] some = some out) : f + m ≤ cs.length ∧ (cs.drop f).take m = out := by
  obtain ⟨h1, h2⟩ := cutK_eq some out f m cs [] h
  exact ⟨h1, by simpa using h2⟩
theorem rowS_eq {fks : List FK} {rows : List (List Int)} {r : Nat} {out : List Sc} (h : rowK fks rows r fldT [] some = some out) : rowSc fks rows r 0 = out := by
  have := rowK_eq some fks rows r 0 fldT [] (by simp [fldT, upF]) h
  simpa using this
theorem shp_rows {o o' : Option Obj} {fks : List FK} {rows : List (List Int)} (h : shp o' = shp o) (e : rowsO o = some (fks, rows)) : ∃ b rows', o' = some b ∧ b.rowsOf = some (fks, rows') ∧ rows'.length = rows.length := by
  cases o with
  | none => cases e
  | some o =>
    cases o <;> simp [rowsO, Obj.rowsOf] at e <;> obtain ⟨rfl, rfl⟩ := e <;>
    · cases o' with
      | none => simp [shp] at h
      | some b => cases b <;> simp [shp] at h <;> exact ⟨_, _, rfl, by simp [Obj.rowsOf, h.1], h.2⟩
theorem shp_strs {o o' : Option Obj} {l : List ByteArray} (h : shp o' = shp o) (e : strsO o = some l) : ∃ b l', o' = some b ∧ b.strsOf = some l' ∧ l'.length = l.length := by
  cases o with
  | none => cases e
  | some o =>
    cases o <;> simp [strsO, Obj.strsOf] at e <;> subst e <;>
    · cases o' with
      | none => simp [shp] at h
      | some b => cases b <;> simp [shp] at h <;> exact ⟨_, _, rfl, by simp [Obj.strsOf], h⟩
theorem shp_box {o o' : Option Obj} {cs : List Sc} (h : shp o' = shp o) (e : boxO o = some cs) : ∃ b cs', o' = some b ∧ b.boxCells = some cs' ∧ cs'.length = cs.length := by
  cases o with
  | none => cases e
  | some o =>
    cases o <;> simp [boxO, Obj.boxCells] at e <;> subst e <;>
    · cases o' with
      | none => simp [shp] at h
      | some b => cases b <;> simp [shp] at h <;> exact ⟨_, _, rfl, by simp [Obj.boxCells], h⟩
def zsO (T : Tab) (e : TypeId) : Option (List Value) := match tlook T e with | some ⟨z, _, _, _⟩ => some z | none => none
def aggO (T : Tab) (e : TypeId) : Option Bool := match tlook T e with | some ti => some (aggB ti.u) | none => none
def elemO (T : Tab) (t : TypeId) : Option TypeId := match tlook T t with | some ⟨_, _, .slice e, _⟩ => some e | _ => none
def szL : List Value → Option Nat
  | [] => some 0 | [_] => some 1 | [_, _] => some 2 | [_, _, _] => some 3 | [_, _, _, _] => some 4 | [_, _, _, _, _] => some 5 | [_, _, _, _, _, _] => some 6
  | l => some l.length
theorem szL_eq {l : List Value} {n : Nat} (h : szL l = some n) : l.length = n := by
  unfold szL at h; split at h <;> simp at h <;> simp [h]
def szO (T : Tab) (e : TypeId) : Option Nat := match tlook T e with | some ti => szL ti.zs | none => none
def bytesO (T : Tab) (e : TypeId) : Option Nat := match tlook T e with | some ⟨_, b, _, _⟩ => some b | none => none
def offO (T : Tab) (e : TypeId) (i : Nat) : Option (Nat × Nat) := match tlook T e with | some ti => nthO ti.offs i | none => none
def kindO (T : Tab) (t : TypeId) : Option IntKind := match tlook T t with | some ⟨_, _, .int k, _⟩ => some k | _ => none
def strO (T : Tab) (t : TypeId) : Option Bool := match tlook T t with | some ⟨_, _, .string, _⟩ => some true | _ => none
theorem zsO_eq {e : TypeId} {z : List Value} (h : zsO T e = some z) : ∃ ti, tlook T e = some ti ∧ ti.zs = z := by
  unfold zsO at h; split at h
  · injection h with h; subst h; exact ⟨_, by assumption, rfl⟩
  · cases h
theorem aggO_eq {e : TypeId} {z : Bool} (h : aggO T e = some z) : ∃ ti, tlook T e = some ti ∧ aggB ti.u = z := by
  unfold aggO at h; split at h
  · injection h with h; exact ⟨_, by assumption, h⟩
  · cases h
theorem elemO_eq {t e : TypeId} (h : elemO T t = some e) : ∃ ti, tlook T t = some ti ∧ ti.u = .slice e := by
  unfold elemO at h; split at h
  · injection h with h; subst h; exact ⟨_, by assumption, rfl⟩
  · cases h
theorem szO_eq {e : TypeId} {z : Nat} (h : szO T e = some z) : ∃ ti, tlook T e = some ti ∧ ti.zs.length = z := by
  unfold szO at h; split at h
  · exact ⟨_, by assumption, szL_eq h⟩
  · cases h
theorem bytesO_eq {e : TypeId} {z : Nat} (h : bytesO T e = some z) : ∃ ti, tlook T e = some ti ∧ ti.bytes = z := by
  unfold bytesO at h; split at h
  · injection h with h; subst h; exact ⟨_, by assumption, rfl⟩
  · cases h
theorem offO_eq {e : TypeId} {i : Nat} {z : Nat × Nat} (h : offO T e i = some z) : ∃ ti, tlook T e = some ti ∧ ti.offs[i]? = some z := by
  unfold offO at h; split at h
  · exact ⟨_, by assumption, nthO_eq h⟩
  · cases h
theorem kindO_eq {t : TypeId} {k : IntKind} (h : kindO T t = some k) : ∃ ti, tlook T t = some ti ∧ ti.u = .int k := by
  unfold kindO at h; split at h
  · injection h with h; subst h; exact ⟨_, by assumption, rfl⟩
  · cases h
theorem strO_eq {t : TypeId} (h : strO T t = some true) : ∃ ti, tlook T t = some ti ∧ ti.u = .string := by
  unfold strO at h; split at h
  · exact ⟨_, by assumption, rfl⟩
  · cases h
theorem tl_same {e : TypeId} {a b : TY} (h1 : tlook T e = some a) (h2 : tlook T e = some b) : a = b := by rw [h1] at h2; injection h2


def mapK {β : Type} : List Value → List Sc → (List Sc → Option β) → Option β
  | [], acc, k => revK acc [] k
  | v :: l, acc, k => mapK l (.c v :: acc) k
theorem mapK_gen {β : Type} (k : List Sc → Option β) : ∀ (l : List Value) (acc : List Sc), mapK l acc k = k (acc.reverse ++ l.map .c)
  | [], acc => by simp [mapK, revK_eq]
  | v :: l, acc => by simp [mapK, mapK_gen k l]
theorem mapK_eq {l : List Value} {zs : List Sc} (h : mapK l [] some = some zs) : l.map .c = zs := by
  rw [mapK_gen] at h; simpa using h
def compO : Bool × List Sc → Option AV
  | (true, cs) => some (.agg cs)
  | (false, [s]) => some (.one s)
  | _ => none
def strB : TypeDesc → Bool
  | .struct _ => true
  | _ => false
theorem strB_eq {u : TypeDesc} (h : strB u = true) : ∃ fs, u = .struct fs := by cases u <;> simp [strB] at h; exact ⟨_, rfl⟩
/-- Is field i of type t none of structs and arrays? -/
def naB (P : Program) (T : Tab) (t : TypeId) (i : Nat) : Bool := match tlook T t with
  | some ⟨_, _, .struct fs, _⟩ => match fs[i]? with
    | some f => match P.underlying f.type with
      | some u => !aggB u
      | none => false
    | none => true
  | _ => true
theorem naB_eq {t : TypeId} {i : Nat} {ti : TY} (ht : tlook T t = some ti) (h : naB P T t i = true) : ∀ fs f, ti.u = .struct fs → fs[i]? = some f → ∀ w, (isAgg f.type).run P w = .ok false w := by
  intro fs f hu hf w
  obtain ⟨zs, b, u, offs⟩ := ti
  simp only at hu
  subst hu
  simp only [naB, ht, hf] at h
  cases hx : P.underlying f.type with
  | none => rw [hx] at h; cases h
  | some u =>
    rw [hx] at h
    have hu := run_underlying hx w
    cases u <;> simp_all [isAgg, aggB]
def fillK (t : List (Nat × AV)) (pl : List (Nat × Nat)) : List Sc → List (Nat × Operand) → Option (List Sc)
  | cs, [] => some cs
  | cs, (i, x) :: rest => match nthO pl i, cellsO (evO t x) with
    | some (off, size), some ns => bif Nat.beq ns.length size then ovrK off cs ns [] (fun cs' => fillK t pl cs' rest) else none
    | _, _ => none
theorem fillK_eq (f : Nat → AV) {pl : List (Nat × Nat)} {out : List Sc} : ∀ {parts : List (Nat × Operand)}, (∀ p ∈ parts, evA f p.2 = evA (look t) p.2) → ∀ (cs : List Sc), fillK t pl cs parts = some out → fillS pl cs (parts.map fun p => (p.1, evA f p.2)) = some out
  | [], _, cs, h => by simpa [fillK, fillS] using h
  | (i, x) :: parts, he, cs, h => by
    simp only [fillK] at h
    cases hp : nthO pl i with
    | none => rw [hp] at h; simp at h
    | some os =>
      obtain ⟨off, size⟩ := os
      cases hc : cellsO (evO t x) with
      | none => rw [hp, hc] at h; simp at h
      | some ns =>
        rw [hp, hc] at h
        simp only at h
        cases hb : Nat.beq ns.length size with
        | false => rw [hb] at h; cases h
        | true =>
          rw [hb] at h
          simp only [cond_true] at h
          obtain ⟨h1, h2⟩ := ovrK_eq _ _ off cs ns [] h
          simp only [List.map_cons, fillS, nthO_eq hp, cellsO_eq hc (he (i, x) (by simp))]
          rw [show (ns.length == size && Nat.ble (off + ns.length) cs.length) = true by simp; exact ⟨Nat.eq_of_beq_eq_true hb, h1⟩]
          simp only [cond_true]
          exact fillK_eq f (fun p hp => he p (by simp [hp])) _ (by simpa using h2)
/-- The rows that are appended, and the key of what is read (one that is nobody's, if nothing is). -/
def rowsY (t : List (Nat × AV)) (h : List (Nat × Option Obj)) (y : Operand) : Option (Nat × List FK × List (List Int)) := match evO t y with
  | some (.one (.r k)) => match rowsO (hO h k) with
    | some (fks, rows) => some (k, fks, rows)
    | none => none
  | _ => none
theorem rowsY_eq {y : Operand} {ky : Nat} {fks : List FK} {news : List (List Int)} {S' : Fs} (e : rowsY t h y = some (ky, fks, news)) (ry : evA S'.t y = evA (look t) y) (hh : S'.h ky = hlook h ky) : rowsIn S' fks (evA S'.t y) news := by
  unfold rowsY at e
  split at e
  · rename_i k hy
    split at e
    · rename_i fks' rows' hr
      injection e with e
      injection e with e1 e2
      injection e2 with e2 e3
      subst e1 e2 e3
      obtain ⟨o, h1, h2⟩ := rowsO_eq hr
      exact .inr ⟨k, o, by rw [ry]; exact evO_eq hy, by rw [hh, hO_eq h1], h2⟩
    · cases e
  · cases e
/-- Zeros as a row. -/
def zrO {β : Type} : List Value → List FK → List Int → ((List FK × List Int) → Option β) → Option β
  | [], fks, zr, k => revK fks [] fun fks => revK zr [] fun zr => k (fks, zr)
  | .int kd n :: l, fks, zr, k => zrO l (.i kd :: fks) (n :: zr) k
  | .bool g :: l, fks, zr, k => zrO l (.b :: fks) ((bif g then 1 else 0) :: zr) k
  | _, _, _, _ => none
theorem cellsOf_app : ∀ (f1 f2 : List FK) (z1 z2 : List Int), z1.length = f1.length → cellsOf (f1 ++ f2) (z1 ++ z2) = cellsOf f1 z1 ++ cellsOf f2 z2
  | [], f2, z1, z2, h => by cases z1 <;> simp_all [cellsOf]
  | f :: f1, f2, z :: z1, z2, h => by simp [cellsOf, cellsOf_app f1 f2 z1 z2 (by simpa using h)]
  | _ :: _, _, [], _, h => by simp at h
theorem zrO_gen {out : List FK × List Int} : ∀ (zs : List Value) (fks : List FK) (zr : List Int), zr.length = fks.length → zrO zs fks zr some = some out → cellsOf fks.reverse zr.reverse ++ zs = cellsOf out.1 out.2 ∧ out.2.length = out.1.length
  | [], fks, zr, hl, h => by simp [zrO, revK_eq] at h; subst h; simp [hl]
  | .int kd n :: l, fks, zr, hl, h => by
    simp only [zrO] at h
    obtain ⟨h1, h2⟩ := zrO_gen l (.i kd :: fks) (n :: zr) (by simp [hl]) h
    refine ⟨?_, h2⟩
    rw [← h1, List.reverse_cons, List.reverse_cons, cellsOf_app _ _ _ _ (by simp [hl])]
    simp [cellsOf, FK.val]
  | .bool g :: l, fks, zr, hl, h => by
    simp only [zrO] at h
    obtain ⟨h1, h2⟩ := zrO_gen l (.b :: fks) ((bif g then 1 else 0) :: zr) (by simp [hl]) h
    refine ⟨?_, h2⟩
    rw [← h1, List.reverse_cons, List.reverse_cons, cellsOf_app _ _ _ _ (by simp [hl])]
    cases g <;> simp [cellsOf, FK.val]
theorem zrO_eq {zs : List Value} {fks : List FK} {zr : List Int} (h : zrO zs [] [] some = some (fks, zr)) : zs = cellsOf fks zr ∧ zr.length = fks.length := by
  obtain ⟨h1, h2⟩ := zrO_gen zs [] [] rfl h
  exact ⟨by simpa [cellsOf] using h1, h2⟩
theorem PartsC.same {f : Nat → AV} {fks : List FK} {i : Nat} {parts : List (Nat × Operand)} {rows : List (List Int)} (hp : PartsC (look t) fks i parts rows) : (∀ p ∈ parts, evA f p.2 = evA (look t) p.2) → PartsC f fks i parts rows := by
  induction hp with
  | nil => intro _; exact .nil
  | cons hx hr h ih => intro he; exact .cons (by rw [he _ (List.mem_cons_self ..)]; exact hx) hr (ih fun p hp => he p (List.mem_cons_of_mem _ hp))
def intO (t : List (Nat × AV)) (x : Operand) : Option Int := match evO t x with
  | some (.one (.c (.int _ a))) => some a
  | _ => none
theorem intO_eq {x : Operand} {a : Int} (e : intO t x = some a) : ∃ ik, evO t x = some (.one (.c (.int ik a))) := by
  unfold intO at e; split at e
  · injection e with e; subst e; exact ⟨_, by assumption⟩
  · cases e
def cutLo (t : List (Nat × AV)) : Option Operand → Option Int
  | none => some 0
  | some x => intO t x
def cutHi (t : List (Nat × AV)) (l : Int) : Option Operand → Option Int
  | none => some l
  | some x => intO t x

theorem v_pkT {c x y : Operand} {v : AV} (hw : wantO t all gd = some true) (hd : Nat.blt d n = true) (hc : evO t c = some (.one (.c (.bool true)))) (hx : evO t x = some v) (H : VO P draw all rest (⟨[], [], [], []⟩ :: lg) (mk n ((d, v) :: t) h dd) K) : VO P draw all (⟨some d, .pick c x y, ty, pos, af, gd⟩ :: rest) lg (mk n t h dd) K := by
  refine VO.val (R := []) (Rs := []) hw (fun S' hn he hh hsh => ?_) H
  have hdn : d < S'.n := by rw [hn]; simpa using hd
  have ec := evs (o := ⟨some d, .pick c x y, ty, pos, af, gd⟩) he (x := c) (by simp [Op.operands, Call.operands]) hc
  have ex := evs (o := ⟨some d, .pick c x y, ty, pos, af, gd⟩) he (x := x) (by simp [Op.operands, Call.operands]) hx
  have := snd_pick (P := P) (S := S') (d := d) (ty := ty) (pos := pos) (af := af) (gd := gd) c x y true ec hdn
  rw [if_pos rfl, ex] at this
  exact this
theorem v_pkF {c x y : Operand} {v : AV} (hw : wantO t all gd = some true) (hd : Nat.blt d n = true) (hc : evO t c = some (.one (.c (.bool false)))) (hy : evO t y = some v) (H : VO P draw all rest (⟨[], [], [], []⟩ :: lg) (mk n ((d, v) :: t) h dd) K) : VO P draw all (⟨some d, .pick c x y, ty, pos, af, gd⟩ :: rest) lg (mk n t h dd) K := by
  refine VO.val (R := []) (Rs := []) hw (fun S' hn he hh hsh => ?_) H
  have hdn : d < S'.n := by rw [hn]; simpa using hd
  have ec := evs (o := ⟨some d, .pick c x y, ty, pos, af, gd⟩) he (x := c) (by simp [Op.operands, Call.operands]) hc
  have ey := evs (o := ⟨some d, .pick c x y, ty, pos, af, gd⟩) he (x := y) (by simp [Op.operands, Call.operands]) hy
  have := snd_pick (P := P) (S := S') (d := d) (ty := ty) (pos := pos) (af := af) (gd := gd) c x y false ec hdn
  rw [if_neg (by simp), ey] at this
  exact this
theorem v_pkif {c : Nat} {o : Op} {od : Option Nat} {g : Bool} (hg : lookO t c = some (.one (.c (.bool g))))
    (H1 : g = true → VO P draw all (⟨od, o, ty, pos, af, gd⟩ :: rest) lg (mk n ((c, .one (.c (.bool true))) :: t) h dd) K)
    (H2 : g = false → VO P draw all (⟨od, o, ty, pos, af, gd⟩ :: rest) lg (mk n ((c, .one (.c (.bool false))) :: t) h dd) K) : VO P draw all (⟨od, o, ty, pos, af, gd⟩ :: rest) lg (mk n t h dd) K := by
  cases e : g with
  | true => rw [← mk_same (v := .one (.c (.bool true))) (by rw [lookO_eq hg, e])]; exact H1 e
  | false => rw [← mk_same (v := .one (.c (.bool false))) (by rw [lookO_eq hg, e])]; exact H2 e
theorem v_eql {t1 t2 : TypeId} {x y : Operand} {k : IntKind} {a b : Int} (hw : wantO t all gd = some true) (hd : Nat.blt d n = true) (hx : evO t x = some (.one (.c (.int k a)))) (hy : evO t y = some (.one (.c (.int k b)))) (H : VO P draw all rest (⟨[], [], [], []⟩ :: lg) (mk n ((d, .one (.c (.bool (a == b)))) :: t) h dd) K) : VO P draw all (⟨some d, .binOp .eql t1 x y t2, ty, pos, af, gd⟩ :: rest) lg (mk n t h dd) K := by
  refine VO.val (R := []) (Rs := []) hw (fun S' hn he hh hsh => ?_) H
  have hdn : d < S'.n := by rw [hn]; simpa using hd
  have ex := evs (o := ⟨some d, .binOp .eql t1 x y t2, ty, pos, af, gd⟩) he (x := x) (by simp [Op.operands, Call.operands]) hx
  have ey := evs (o := ⟨some d, .binOp .eql t1 x y t2, ty, pos, af, gd⟩) he (x := y) (by simp [Op.operands, Call.operands]) hy
  exact snd_bin .eql t1 t2 x y k a b _ ex ey rfl rfl hdn
theorem v_neq {t1 t2 : TypeId} {x y : Operand} {k : IntKind} {a b : Int} (hw : wantO t all gd = some true) (hd : Nat.blt d n = true) (hx : evO t x = some (.one (.c (.int k a)))) (hy : evO t y = some (.one (.c (.int k b)))) (H : VO P draw all rest (⟨[], [], [], []⟩ :: lg) (mk n ((d, .one (.c (.bool (a != b)))) :: t) h dd) K) : VO P draw all (⟨some d, .binOp .neq t1 x y t2, ty, pos, af, gd⟩ :: rest) lg (mk n t h dd) K := by
  refine VO.val (R := []) (Rs := []) hw (fun S' hn he hh hsh => ?_) H
  have hdn : d < S'.n := by rw [hn]; simpa using hd
  have ex := evs (o := ⟨some d, .binOp .neq t1 x y t2, ty, pos, af, gd⟩) he (x := x) (by simp [Op.operands, Call.operands]) hx
  have ey := evs (o := ⟨some d, .binOp .neq t1 x y t2, ty, pos, af, gd⟩) he (x := y) (by simp [Op.operands, Call.operands]) hy
  exact snd_bin .neq t1 t2 x y k a b _ ex ey rfl rfl hdn
theorem v_lss {t1 t2 : TypeId} {x y : Operand} {k : IntKind} {a b : Int} (hw : wantO t all gd = some true) (hd : Nat.blt d n = true) (hx : evO t x = some (.one (.c (.int k a)))) (hy : evO t y = some (.one (.c (.int k b)))) (H : VO P draw all rest (⟨[], [], [], []⟩ :: lg) (mk n ((d, .one (.c (.bool (decide (a < b))))) :: t) h dd) K) : VO P draw all (⟨some d, .binOp .lss t1 x y t2, ty, pos, af, gd⟩ :: rest) lg (mk n t h dd) K := by
  refine VO.val (R := []) (Rs := []) hw (fun S' hn he hh hsh => ?_) H
  have hdn : d < S'.n := by rw [hn]; simpa using hd
  have ex := evs (o := ⟨some d, .binOp .lss t1 x y t2, ty, pos, af, gd⟩) he (x := x) (by simp [Op.operands, Call.operands]) hx
  have ey := evs (o := ⟨some d, .binOp .lss t1 x y t2, ty, pos, af, gd⟩) he (x := y) (by simp [Op.operands, Call.operands]) hy
  exact snd_bin .lss t1 t2 x y k a b _ ex ey rfl rfl hdn
theorem v_leq {t1 t2 : TypeId} {x y : Operand} {k : IntKind} {a b : Int} (hw : wantO t all gd = some true) (hd : Nat.blt d n = true) (hx : evO t x = some (.one (.c (.int k a)))) (hy : evO t y = some (.one (.c (.int k b)))) (H : VO P draw all rest (⟨[], [], [], []⟩ :: lg) (mk n ((d, .one (.c (.bool (decide (a ≤ b))))) :: t) h dd) K) : VO P draw all (⟨some d, .binOp .leq t1 x y t2, ty, pos, af, gd⟩ :: rest) lg (mk n t h dd) K := by
  refine VO.val (R := []) (Rs := []) hw (fun S' hn he hh hsh => ?_) H
  have hdn : d < S'.n := by rw [hn]; simpa using hd
  have ex := evs (o := ⟨some d, .binOp .leq t1 x y t2, ty, pos, af, gd⟩) he (x := x) (by simp [Op.operands, Call.operands]) hx
  have ey := evs (o := ⟨some d, .binOp .leq t1 x y t2, ty, pos, af, gd⟩) he (x := y) (by simp [Op.operands, Call.operands]) hy
  exact snd_bin .leq t1 t2 x y k a b _ ex ey rfl rfl hdn
theorem v_gtr {t1 t2 : TypeId} {x y : Operand} {k : IntKind} {a b : Int} (hw : wantO t all gd = some true) (hd : Nat.blt d n = true) (hx : evO t x = some (.one (.c (.int k a)))) (hy : evO t y = some (.one (.c (.int k b)))) (H : VO P draw all rest (⟨[], [], [], []⟩ :: lg) (mk n ((d, .one (.c (.bool (decide (b < a))))) :: t) h dd) K) : VO P draw all (⟨some d, .binOp .gtr t1 x y t2, ty, pos, af, gd⟩ :: rest) lg (mk n t h dd) K := by
  refine VO.val (R := []) (Rs := []) hw (fun S' hn he hh hsh => ?_) H
  have hdn : d < S'.n := by rw [hn]; simpa using hd
  have ex := evs (o := ⟨some d, .binOp .gtr t1 x y t2, ty, pos, af, gd⟩) he (x := x) (by simp [Op.operands, Call.operands]) hx
  have ey := evs (o := ⟨some d, .binOp .gtr t1 x y t2, ty, pos, af, gd⟩) he (x := y) (by simp [Op.operands, Call.operands]) hy
  exact snd_bin .gtr t1 t2 x y k a b _ ex ey rfl rfl hdn
theorem v_geq {t1 t2 : TypeId} {x y : Operand} {k : IntKind} {a b : Int} (hw : wantO t all gd = some true) (hd : Nat.blt d n = true) (hx : evO t x = some (.one (.c (.int k a)))) (hy : evO t y = some (.one (.c (.int k b)))) (H : VO P draw all rest (⟨[], [], [], []⟩ :: lg) (mk n ((d, .one (.c (.bool (decide (b ≤ a))))) :: t) h dd) K) : VO P draw all (⟨some d, .binOp .geq t1 x y t2, ty, pos, af, gd⟩ :: rest) lg (mk n t h dd) K := by
  refine VO.val (R := []) (Rs := []) hw (fun S' hn he hh hsh => ?_) H
  have hdn : d < S'.n := by rw [hn]; simpa using hd
  have ex := evs (o := ⟨some d, .binOp .geq t1 x y t2, ty, pos, af, gd⟩) he (x := x) (by simp [Op.operands, Call.operands]) hx
  have ey := evs (o := ⟨some d, .binOp .geq t1 x y t2, ty, pos, af, gd⟩) he (x := y) (by simp [Op.operands, Call.operands]) hy
  exact snd_bin .geq t1 t2 x y k a b _ ex ey rfl rfl hdn
theorem v_add {t1 t2 : TypeId} {x y : Operand} {a b : Int} (hw : wantO t all gd = some true) (hd : Nat.blt d n = true) (hx : evO t x = some (.one (.c (.int .i64 a)))) (hy : evO t y = some (.one (.c (.int .i64 b)))) (hb : -9223372036854775808 ≤ a + b ∧ a + b ≤ 9223372036854775807) (H : VO P draw all rest (⟨[], [], [], []⟩ :: lg) (mk n ((d, .one (.c (.int .i64 (a + b)))) :: t) h dd) K) : VO P draw all (⟨some d, .binOp .add t1 x y t2, ty, pos, af, gd⟩ :: rest) lg (mk n t h dd) K := by
  refine VO.val (R := []) (Rs := []) hw (fun S' hn he hh hsh => ?_) H
  have hdn : d < S'.n := by rw [hn]; simpa using hd
  have ex := evs (o := ⟨some d, .binOp .add t1 x y t2, ty, pos, af, gd⟩) he (x := x) (by simp [Op.operands, Call.operands]) hx
  have ey := evs (o := ⟨some d, .binOp .add t1 x y t2, ty, pos, af, gd⟩) he (x := y) (by simp [Op.operands, Call.operands]) hy
  have := snd_bin (P := P) (S := S') (d := d) (ty := ty) (pos := pos) (af := af) (gd := gd) .add t1 t2 x y .i64 a b _ ex ey rfl rfl hdn
  rw [IntWalk.i64_in _ hb] at this
  exact this
theorem v_addw {t1 t2 : TypeId} {x y : Operand} {k : IntKind} {a b : Int} (hw : wantO t all gd = some true) (hd : Nat.blt d n = true) (hx : evO t x = some (.one (.c (.int k a)))) (hy : evO t y = some (.one (.c (.int k b)))) (H : VO P draw all rest (⟨[], [], [], []⟩ :: lg) (mk n ((d, .one (.c (.int k (k.wrap (a + b))))) :: t) h dd) K) : VO P draw all (⟨some d, .binOp .add t1 x y t2, ty, pos, af, gd⟩ :: rest) lg (mk n t h dd) K := by
  refine VO.val (R := []) (Rs := []) hw (fun S' hn he hh hsh => ?_) H
  have hdn : d < S'.n := by rw [hn]; simpa using hd
  have ex := evs (o := ⟨some d, .binOp .add t1 x y t2, ty, pos, af, gd⟩) he (x := x) (by simp [Op.operands, Call.operands]) hx
  have ey := evs (o := ⟨some d, .binOp .add t1 x y t2, ty, pos, af, gd⟩) he (x := y) (by simp [Op.operands, Call.operands]) hy
  exact snd_bin .add t1 t2 x y k a b _ ex ey rfl rfl hdn
theorem v_sub {t1 t2 : TypeId} {x y : Operand} {a b : Int} (hw : wantO t all gd = some true) (hd : Nat.blt d n = true) (hx : evO t x = some (.one (.c (.int .i64 a)))) (hy : evO t y = some (.one (.c (.int .i64 b)))) (hb : -9223372036854775808 ≤ a - b ∧ a - b ≤ 9223372036854775807) (H : VO P draw all rest (⟨[], [], [], []⟩ :: lg) (mk n ((d, .one (.c (.int .i64 (a - b)))) :: t) h dd) K) : VO P draw all (⟨some d, .binOp .sub t1 x y t2, ty, pos, af, gd⟩ :: rest) lg (mk n t h dd) K := by
  refine VO.val (R := []) (Rs := []) hw (fun S' hn he hh hsh => ?_) H
  have hdn : d < S'.n := by rw [hn]; simpa using hd
  have ex := evs (o := ⟨some d, .binOp .sub t1 x y t2, ty, pos, af, gd⟩) he (x := x) (by simp [Op.operands, Call.operands]) hx
  have ey := evs (o := ⟨some d, .binOp .sub t1 x y t2, ty, pos, af, gd⟩) he (x := y) (by simp [Op.operands, Call.operands]) hy
  have := snd_bin (P := P) (S := S') (d := d) (ty := ty) (pos := pos) (af := af) (gd := gd) .sub t1 t2 x y .i64 a b _ ex ey rfl rfl hdn
  rw [IntWalk.i64_in _ hb] at this
  exact this
theorem v_subw {t1 t2 : TypeId} {x y : Operand} {k : IntKind} {a b : Int} (hw : wantO t all gd = some true) (hd : Nat.blt d n = true) (hx : evO t x = some (.one (.c (.int k a)))) (hy : evO t y = some (.one (.c (.int k b)))) (H : VO P draw all rest (⟨[], [], [], []⟩ :: lg) (mk n ((d, .one (.c (.int k (k.wrap (a - b))))) :: t) h dd) K) : VO P draw all (⟨some d, .binOp .sub t1 x y t2, ty, pos, af, gd⟩ :: rest) lg (mk n t h dd) K := by
  refine VO.val (R := []) (Rs := []) hw (fun S' hn he hh hsh => ?_) H
  have hdn : d < S'.n := by rw [hn]; simpa using hd
  have ex := evs (o := ⟨some d, .binOp .sub t1 x y t2, ty, pos, af, gd⟩) he (x := x) (by simp [Op.operands, Call.operands]) hx
  have ey := evs (o := ⟨some d, .binOp .sub t1 x y t2, ty, pos, af, gd⟩) he (x := y) (by simp [Op.operands, Call.operands]) hy
  exact snd_bin .sub t1 t2 x y k a b _ ex ey rfl rfl hdn
theorem v_mul {t1 t2 : TypeId} {x y : Operand} {a b : Int} (hw : wantO t all gd = some true) (hd : Nat.blt d n = true) (hx : evO t x = some (.one (.c (.int .i64 a)))) (hy : evO t y = some (.one (.c (.int .i64 b)))) (hb : -9223372036854775808 ≤ a * b ∧ a * b ≤ 9223372036854775807) (H : VO P draw all rest (⟨[], [], [], []⟩ :: lg) (mk n ((d, .one (.c (.int .i64 (a * b)))) :: t) h dd) K) : VO P draw all (⟨some d, .binOp .mul t1 x y t2, ty, pos, af, gd⟩ :: rest) lg (mk n t h dd) K := by
  refine VO.val (R := []) (Rs := []) hw (fun S' hn he hh hsh => ?_) H
  have hdn : d < S'.n := by rw [hn]; simpa using hd
  have ex := evs (o := ⟨some d, .binOp .mul t1 x y t2, ty, pos, af, gd⟩) he (x := x) (by simp [Op.operands, Call.operands]) hx
  have ey := evs (o := ⟨some d, .binOp .mul t1 x y t2, ty, pos, af, gd⟩) he (x := y) (by simp [Op.operands, Call.operands]) hy
  have := snd_bin (P := P) (S := S') (d := d) (ty := ty) (pos := pos) (af := af) (gd := gd) .mul t1 t2 x y .i64 a b _ ex ey rfl rfl hdn
  rw [IntWalk.i64_in _ hb] at this
  exact this
theorem v_mulw {t1 t2 : TypeId} {x y : Operand} {k : IntKind} {a b : Int} (hw : wantO t all gd = some true) (hd : Nat.blt d n = true) (hx : evO t x = some (.one (.c (.int k a)))) (hy : evO t y = some (.one (.c (.int k b)))) (H : VO P draw all rest (⟨[], [], [], []⟩ :: lg) (mk n ((d, .one (.c (.int k (k.wrap (a * b))))) :: t) h dd) K) : VO P draw all (⟨some d, .binOp .mul t1 x y t2, ty, pos, af, gd⟩ :: rest) lg (mk n t h dd) K := by
  refine VO.val (R := []) (Rs := []) hw (fun S' hn he hh hsh => ?_) H
  have hdn : d < S'.n := by rw [hn]; simpa using hd
  have ex := evs (o := ⟨some d, .binOp .mul t1 x y t2, ty, pos, af, gd⟩) he (x := x) (by simp [Op.operands, Call.operands]) hx
  have ey := evs (o := ⟨some d, .binOp .mul t1 x y t2, ty, pos, af, gd⟩) he (x := y) (by simp [Op.operands, Call.operands]) hy
  exact snd_bin .mul t1 t2 x y k a b _ ex ey rfl rfl hdn
theorem v_quo {t1 t2 : TypeId} {x y : Operand} {a b : Int} (hw : wantO t all gd = some true) (hd : Nat.blt d n = true) (hx : evO t x = some (.one (.c (.int .i64 a)))) (hy : evO t y = some (.one (.c (.int .i64 b)))) (hb : 0 ≤ a ∧ a ≤ 9223372036854775807 ∧ 1 ≤ b) (H : VO P draw all rest (⟨[], [], [], []⟩ :: lg) (mk n ((d, .one (.c (.int .i64 (a / b)))) :: t) h dd) K) : VO P draw all (⟨some d, .binOp .quo t1 x y t2, ty, pos, af, gd⟩ :: rest) lg (mk n t h dd) K := by
  refine VO.val (R := []) (Rs := []) hw (fun S' hn he hh hsh => ?_) H
  have hdn : d < S'.n := by rw [hn]; simpa using hd
  have ex := evs (o := ⟨some d, .binOp .quo t1 x y t2, ty, pos, af, gd⟩) he (x := x) (by simp [Op.operands, Call.operands]) hx
  have ey := evs (o := ⟨some d, .binOp .quo t1 x y t2, ty, pos, af, gd⟩) he (x := y) (by simp [Op.operands, Call.operands]) hy
  have := snd_quo (P := P) (S := S') (d := d) (ty := ty) (pos := pos) (af := af) (gd := gd) t1 t2 x y .i64 a b ex ey (by omega) hdn
  rw [IntWalk.i64_quo _ _ hb] at this
  exact this
theorem v_quow {t1 t2 : TypeId} {x y : Operand} {k : IntKind} {a b : Int} (hw : wantO t all gd = some true) (hd : Nat.blt d n = true) (hx : evO t x = some (.one (.c (.int k a)))) (hy : evO t y = some (.one (.c (.int k b)))) (hb : b ≠ 0) (H : VO P draw all rest (⟨[], [], [], []⟩ :: lg) (mk n ((d, .one (.c (.int k (k.wrap (a.tdiv b))))) :: t) h dd) K) : VO P draw all (⟨some d, .binOp .quo t1 x y t2, ty, pos, af, gd⟩ :: rest) lg (mk n t h dd) K := by
  refine VO.val (R := []) (Rs := []) hw (fun S' hn he hh hsh => ?_) H
  have hdn : d < S'.n := by rw [hn]; simpa using hd
  have ex := evs (o := ⟨some d, .binOp .quo t1 x y t2, ty, pos, af, gd⟩) he (x := x) (by simp [Op.operands, Call.operands]) hx
  have ey := evs (o := ⟨some d, .binOp .quo t1 x y t2, ty, pos, af, gd⟩) he (x := y) (by simp [Op.operands, Call.operands]) hy
  exact snd_quo t1 t2 x y k a b ex ey hb hdn
theorem v_rem {t1 t2 : TypeId} {x y : Operand} {k : IntKind} {a b : Int} (hw : wantO t all gd = some true) (hd : Nat.blt d n = true) (hx : evO t x = some (.one (.c (.int k a)))) (hy : evO t y = some (.one (.c (.int k b)))) (hb : 0 ≤ a ∧ 1 ≤ b) (H : VO P draw all rest (⟨[], [], [], []⟩ :: lg) (mk n ((d, .one (.c (.int k (a % b)))) :: t) h dd) K) : VO P draw all (⟨some d, .binOp .rem t1 x y t2, ty, pos, af, gd⟩ :: rest) lg (mk n t h dd) K := by
  refine VO.val (R := []) (Rs := []) hw (fun S' hn he hh hsh => ?_) H
  have hdn : d < S'.n := by rw [hn]; simpa using hd
  have ex := evs (o := ⟨some d, .binOp .rem t1 x y t2, ty, pos, af, gd⟩) he (x := x) (by simp [Op.operands, Call.operands]) hx
  have ey := evs (o := ⟨some d, .binOp .rem t1 x y t2, ty, pos, af, gd⟩) he (x := y) (by simp [Op.operands, Call.operands]) hy
  have := snd_rem (P := P) (S := S') (d := d) (ty := ty) (pos := pos) (af := af) (gd := gd) t1 t2 x y k a b ex ey (by omega) hdn
  rw [Int.tmod_eq_emod_of_nonneg hb.1] at this
  exact this
theorem v_remw {t1 t2 : TypeId} {x y : Operand} {k : IntKind} {a b : Int} (hw : wantO t all gd = some true) (hd : Nat.blt d n = true) (hx : evO t x = some (.one (.c (.int k a)))) (hy : evO t y = some (.one (.c (.int k b)))) (hb : b ≠ 0) (H : VO P draw all rest (⟨[], [], [], []⟩ :: lg) (mk n ((d, .one (.c (.int k (a.tmod b)))) :: t) h dd) K) : VO P draw all (⟨some d, .binOp .rem t1 x y t2, ty, pos, af, gd⟩ :: rest) lg (mk n t h dd) K := by
  refine VO.val (R := []) (Rs := []) hw (fun S' hn he hh hsh => ?_) H
  have hdn : d < S'.n := by rw [hn]; simpa using hd
  have ex := evs (o := ⟨some d, .binOp .rem t1 x y t2, ty, pos, af, gd⟩) he (x := x) (by simp [Op.operands, Call.operands]) hx
  have ey := evs (o := ⟨some d, .binOp .rem t1 x y t2, ty, pos, af, gd⟩) he (x := y) (by simp [Op.operands, Call.operands]) hy
  exact snd_rem t1 t2 x y k a b ex ey hb hdn
theorem v_not {t1 : TypeId} {x : Operand} {g : Bool} (hw : wantO t all gd = some true) (hd : Nat.blt d n = true) (hx : evO t x = some (.one (.c (.bool g)))) (H : VO P draw all rest (⟨[], [], [], []⟩ :: lg) (mk n ((d, .one (.c (.bool (!g)))) :: t) h dd) K) : VO P draw all (⟨some d, .unOp .not t1 x, ty, pos, af, gd⟩ :: rest) lg (mk n t h dd) K := by
  refine VO.val (R := []) (Rs := []) hw (fun S' hn he hh hsh => ?_) H
  have hdn : d < S'.n := by rw [hn]; simpa using hd
  have ex := evs (o := ⟨some d, .unOp .not t1 x, ty, pos, af, gd⟩) he (x := x) (by simp [Op.operands, Call.operands]) hx
  exact snd_not t1 x g ex hdn
theorem v_neg {t1 : TypeId} {x : Operand} {a : Int} (hw : wantO t all gd = some true) (hd : Nat.blt d n = true) (hx : evO t x = some (.one (.c (.int .i64 a)))) (hb : -9223372036854775808 ≤ 0 - a ∧ 0 - a ≤ 9223372036854775807) (H : VO P draw all rest (⟨[], [], [], []⟩ :: lg) (mk n ((d, .one (.c (.int .i64 (0 - a)))) :: t) h dd) K) : VO P draw all (⟨some d, .unOp .neg t1 x, ty, pos, af, gd⟩ :: rest) lg (mk n t h dd) K := by
  refine VO.val (R := []) (Rs := []) hw (fun S' hn he hh hsh => ?_) H
  have hdn : d < S'.n := by rw [hn]; simpa using hd
  have ex := evs (o := ⟨some d, .unOp .neg t1 x, ty, pos, af, gd⟩) he (x := x) (by simp [Op.operands, Call.operands]) hx
  have := snd_neg (P := P) (S := S') (d := d) (ty := ty) (pos := pos) (af := af) (gd := gd) t1 x .i64 a ex hdn
  rw [IntWalk.i64_in _ hb] at this
  exact this
theorem v_cnv {s t1 : TypeId} {x : Operand} {k k2 : IntKind} {a b : Int} (hw : wantO t all gd = some true) (hd : Nat.blt d n = true) [hTI : TabC P T] (hs : (tlook T s).isSome = true) (ht : kindO T t1 = some k) (hx : evO t x = some (.one (.c (.int k2 a)))) (hb : k.wrap a = b) (H : VO P draw all rest (⟨[], [], [], []⟩ :: lg) (mk n ((d, .one (.c (.int k b))) :: t) h dd) K) : VO P draw all (⟨some d, .convert s t1 x, ty, pos, af, gd⟩ :: rest) lg (mk n t h dd) K := by
  refine VO.val (R := []) (Rs := []) hw (fun S' hn he hh hsh => ?_) H
  have hdn : d < S'.n := by rw [hn]; simpa using hd
  have ex := evs (o := ⟨some d, .convert s t1 x, ty, pos, af, gd⟩) he (x := x) (by simp [Op.operands, Call.operands]) hx
  obtain ⟨ti, h1, h2⟩ := kindO_eq ht
  obtain ⟨si, h3⟩ := Option.isSome_iff_exists.1 hs
  rw [← hb]
  exact snd_convInt hTI.ok s t1 si ti x k k2 a h3 h1 h2 ex hdn
theorem v_min {x y : Operand} {aT : Array TypeId} {k : IntKind} {a b : Int} (hw : wantO t all gd = some true) (hd : Nat.blt d n = true) (hx : evO t x = some (.one (.c (.int k a)))) (hy : evO t y = some (.one (.c (.int k b)))) (H : VO P draw all rest (⟨[], [], [], []⟩ :: lg) (mk n ((d, .one (.c (.int k (min a b)))) :: t) h dd) K) : VO P draw all (⟨some d, .call ⟨.builtin .min, ⟨[x, y]⟩, aT⟩, ty, pos, af, gd⟩ :: rest) lg (mk n t h dd) K := by
  refine VO.val (R := []) (Rs := []) hw (fun S' hn he hh hsh => ?_) H
  have hdn : d < S'.n := by rw [hn]; simpa using hd
  have ex := evs (o := ⟨some d, .call ⟨.builtin .min, ⟨[x, y]⟩, aT⟩, ty, pos, af, gd⟩) he (x := x) (by simp [Op.operands, Call.operands]) hx
  have ey := evs (o := ⟨some d, .call ⟨.builtin .min, ⟨[x, y]⟩, aT⟩, ty, pos, af, gd⟩) he (x := y) (by simp [Op.operands, Call.operands]) hy
  exact snd_min x y aT k a b ex ey hdn
theorem v_max {x y : Operand} {aT : Array TypeId} {k : IntKind} {a b : Int} (hw : wantO t all gd = some true) (hd : Nat.blt d n = true) (hx : evO t x = some (.one (.c (.int k a)))) (hy : evO t y = some (.one (.c (.int k b)))) (H : VO P draw all rest (⟨[], [], [], []⟩ :: lg) (mk n ((d, .one (.c (.int k (max a b)))) :: t) h dd) K) : VO P draw all (⟨some d, .call ⟨.builtin .max, ⟨[x, y]⟩, aT⟩, ty, pos, af, gd⟩ :: rest) lg (mk n t h dd) K := by
  refine VO.val (R := []) (Rs := []) hw (fun S' hn he hh hsh => ?_) H
  have hdn : d < S'.n := by rw [hn]; simpa using hd
  have ex := evs (o := ⟨some d, .call ⟨.builtin .max, ⟨[x, y]⟩, aT⟩, ty, pos, af, gd⟩) he (x := x) (by simp [Op.operands, Call.operands]) hx
  have ey := evs (o := ⟨some d, .call ⟨.builtin .max, ⟨[x, y]⟩, aT⟩, ty, pos, af, gd⟩) he (x := y) (by simp [Op.operands, Call.operands]) hy
  exact snd_max x y aT k a b ex ey hdn
theorem v_alc {t1 : TypeId} {ti : TY} {zs : List Sc} (hw : wantO t all gd = some true) (hd : Nat.blt d n = true) (hf : (memB dd d || parK d) = false) [hTI : TabC P T] (ht : tlook T t1 = some ti) (hz : mapK ti.zs [] some = some zs) (H : VO P draw all rest (⟨[], [d], [], []⟩ :: lg) (mk n ((d, .one (.r d)) :: t) ((d, some (.box t1 zs)) :: h) (d :: dd)) K) : VO P draw all (⟨some d, .alloc t1, ty, pos, af, gd⟩ :: rest) lg (mk n t h dd) K := by
  refine VO.new (R := []) (ups := ([] : List (Nat × Option Obj))) hw hf (fun S' hn he hh hk => ?_) H
  have hdn : d < S'.n := by rw [hn]; simpa using hd
  have := snd_alloc (P := P) (S := S') (d := d) (ty := ty) (pos := pos) (af := af) (gd := gd) hTI.ok t1 ti ht hdn hk
  rw [mapK_eq hz] at this
  exact this
theorem v_box {t1 : TypeId} {x : Operand} {cs : List Sc} (hw : wantO t all gd = some true) (hd : Nat.blt d n = true) (hf : (memB dd d || parK d) = false) (hx : cellsO (evO t x) = some cs) (H : VO P draw all rest (⟨[], [d], [], []⟩ :: lg) (mk n ((d, .one (.r d)) :: t) ((d, some (.box t1 cs)) :: h) (d :: dd)) K) : VO P draw all (⟨some d, .box t1 x, ty, pos, af, gd⟩ :: rest) lg (mk n t h dd) K := by
  refine VO.new (R := []) (ups := ([] : List (Nat × Option Obj))) hw hf (fun S' hn he hh hk => ?_) H
  have hdn : d < S'.n := by rw [hn]; simpa using hd
  have rx := he x (by simp [Op.operands, Call.operands])
  exact snd_box t1 x cs (cellsO_eq hx rx) hdn hk
theorem v_far {t1 : TypeId} {x : Operand} {i k off sz : Nat} {cs : List Sc} (hw : wantO t all gd = some true) (hd : Nat.blt d n = true) [hTI : TabC P T] (ht : offO T t1 i = some (off, sz)) (hz : Nat.blt 0 sz = true) (hx : evO t x = some (.one (.r k))) (hk : boxO (hO h k) = some cs) (H : VO P draw all rest (⟨[], [], [k], []⟩ :: lg) (mk n ((d, .one (.p k 0 0 off)) :: t) h dd) K) : VO P draw all (⟨some d, .fieldAddr t1 x i, ty, pos, af, gd⟩ :: rest) lg (mk n t h dd) K := by
  refine VO.val (R := []) (Rs := [k]) hw (fun S' hn he hh hsh => ?_) H
  have hdn : d < S'.n := by rw [hn]; simpa using hd
  have ex := evs (o := ⟨some d, .fieldAddr t1 x i, ty, pos, af, gd⟩) he (x := x) (by simp [Op.operands, Call.operands]) hx
  obtain ⟨ti, h1, h2⟩ := offO_eq ht
  obtain ⟨o, cs', h3, h4, h5⟩ := shp_box (by rw [hsh k (by simp), hO_eq rfl]) hk
  exact snd_fieldAddr_r hTI.ok t1 ti x i off sz k o cs' h1 h2 (by simpa using hz) ex h3 h4 hdn
theorem v_fap {t1 : TypeId} {x : Operand} {i k r z f g off sz : Nat} (hw : wantO t all gd = some true) (hd : Nat.blt d n = true) [hTI : TabC P T] (ht : offO T t1 i = some (off, sz)) (hz : Nat.blt 0 sz = true) (hx : evO t x = some (.one (.p k r z f))) (hg : f + off = g) (H : VO P draw all rest (⟨[], [], [], []⟩ :: lg) (mk n ((d, .one (.p k r z g)) :: t) h dd) K) : VO P draw all (⟨some d, .fieldAddr t1 x i, ty, pos, af, gd⟩ :: rest) lg (mk n t h dd) K := by
  refine VO.val (R := []) (Rs := []) hw (fun S' hn he hh hsh => ?_) H
  have hdn : d < S'.n := by rw [hn]; simpa using hd
  have ex := evs (o := ⟨some d, .fieldAddr t1 x i, ty, pos, af, gd⟩) he (x := x) (by simp [Op.operands, Call.operands]) hx
  obtain ⟨ti, h1, h2⟩ := offO_eq ht
  rw [← hg]
  exact snd_fieldAddr_p hTI.ok t1 ti x i off sz k r z f h1 h2 (by simpa using hz) ex hdn
theorem v_ld {t1 : TypeId} {x : Operand} {k f : Nat} {cs : List Sc} {s : Sc} (hw : wantO t all gd = some true) (hd : Nat.blt d n = true) [hTI : TabC P T] (ht : aggO T t1 = some false) (hx : addrO (evO t x) = some (k, f)) (hk : boxO (hO h k) = some cs) (hs : nthO cs f = some s) (H : VO P draw all rest (⟨[k], [], [], []⟩ :: lg) (mk n ((d, .one s) :: t) h dd) K) : VO P draw all (⟨some d, .load t1 x, ty, pos, af, gd⟩ :: rest) lg (mk n t h dd) K := by
  refine VO.val (R := [k]) (Rs := []) hw (fun S' hn he hh hsh => ?_) H
  have hdn : d < S'.n := by rw [hn]; simpa using hd
  have rx := he x (by simp [Op.operands, Call.operands])
  obtain ⟨ti, h1, h2⟩ := aggO_eq ht
  obtain ⟨o, h3, h4⟩ := boxO_eq hk
  exact snd_load1 hTI.ok t1 ti x k f o cs s h1 h2 (addrO_eq hx rx) (by rw [hh k (by simp), hO_eq h3]) h4 (nthO_eq hs) hdn
theorem v_ldN {t1 : TypeId} {x : Operand} {k f sz : Nat} {cs out : List Sc} (hw : wantO t all gd = some true) (hd : Nat.blt d n = true) [hTI : TabC P T] (ht : aggO T t1 = some true) (hz : szO T t1 = some sz) (hx : addrO (evO t x) = some (k, f)) (hk : boxO (hO h k) = some cs) (hs : cutK f sz cs [] some = some out) (H : VO P draw all rest (⟨[k], [], [], []⟩ :: lg) (mk n ((d, .agg out) :: t) h dd) K) : VO P draw all (⟨some d, .load t1 x, ty, pos, af, gd⟩ :: rest) lg (mk n t h dd) K := by
  refine VO.val (R := [k]) (Rs := []) hw (fun S' hn he hh hsh => ?_) H
  have hdn : d < S'.n := by rw [hn]; simpa using hd
  have rx := he x (by simp [Op.operands, Call.operands])
  obtain ⟨ti, h1, h2⟩ := aggO_eq ht
  obtain ⟨o, h3, h4⟩ := boxO_eq hk
  obtain ⟨ti2, h5, h6⟩ := szO_eq hz
  obtain rfl := tl_same h1 h5
  obtain ⟨h7, h8⟩ := cutS_eq hs
  rw [← h8, ← h6]
  exact snd_loadN hTI.ok t1 ti x k f o cs h1 h2 (addrO_eq hx rx) (by rw [hh k (by simp), hO_eq h3]) h4 (by omega) hdn
theorem v_lr {t1 : TypeId} {x : Operand} {k r sz f : Nat} {fks : List FK} {rows : List (List Int)} {fk : FK} (hw : wantO t all gd = some true) (hd : Nat.blt d n = true) [hTI : TabC P T] (ht : aggO T t1 = some false) (hx : evO t x = some (.one (.p k r sz f))) (hk : rowsO (hO h k) = some (fks, rows)) (hz : fks.length = sz) (hs : nthO fks f = some fk) (hr : r < rows.length) (H : VO P draw all rest (⟨[k], [], [], []⟩ :: lg) (mk n ((d, .one (.c (fk.val (rd rows r f)))) :: t) h dd) K) : VO P draw all (⟨some d, .load t1 x, ty, pos, af, gd⟩ :: rest) lg (mk n t h dd) K := by
  refine VO.val (R := [k]) (Rs := []) hw (fun S' hn he hh hsh => ?_) H
  have hdn : d < S'.n := by rw [hn]; simpa using hd
  have ex := evs (o := ⟨some d, .load t1 x, ty, pos, af, gd⟩) he (x := x) (by simp [Op.operands, Call.operands]) hx
  obtain ⟨ti, h1, h2⟩ := aggO_eq ht
  obtain ⟨o, h3, h4⟩ := rowsO_eq hk
  exact snd_loadRow1 hTI.ok t1 ti x k r sz f o fks rows fk h1 h2 ex (by rw [hh k (by simp), hO_eq h3]) h4 hz (nthO_eq hs) hr hdn
theorem v_lr_i64 {t1 : TypeId} {x : Operand} {k r sz f : Nat} {fks : List FK} {rows : List (List Int)} (hw : wantO t all gd = some true) (hd : Nat.blt d n = true) [hTI : TabC P T] (ht : aggO T t1 = some false) (hx : evO t x = some (.one (.p k r sz f))) (hk : rowsO (hO h k) = some (fks, rows)) (hz : fks.length = sz) (hs : nthO fks f = some (.i .i64)) (hr : r < rows.length) (H : VO P draw all rest (⟨[k], [], [], []⟩ :: lg) (mk n ((d, .one (.c (.int .i64 (rd rows r f)))) :: t) h dd) K) : VO P draw all (⟨some d, .load t1 x, ty, pos, af, gd⟩ :: rest) lg (mk n t h dd) K := by
  refine VO.val (R := [k]) (Rs := []) hw (fun S' hn he hh hsh => ?_) H
  have hdn : d < S'.n := by rw [hn]; simpa using hd
  have ex := evs (o := ⟨some d, .load t1 x, ty, pos, af, gd⟩) he (x := x) (by simp [Op.operands, Call.operands]) hx
  obtain ⟨ti, h1, h2⟩ := aggO_eq ht
  obtain ⟨o, h3, h4⟩ := rowsO_eq hk
  exact snd_loadRow1 hTI.ok t1 ti x k r sz f o fks rows (.i .i64) h1 h2 ex (by rw [hh k (by simp), hO_eq h3]) h4 hz (nthO_eq hs) hr hdn
theorem v_lr_u8 {t1 : TypeId} {x : Operand} {k r sz f : Nat} {fks : List FK} {rows : List (List Int)} (hw : wantO t all gd = some true) (hd : Nat.blt d n = true) [hTI : TabC P T] (ht : aggO T t1 = some false) (hx : evO t x = some (.one (.p k r sz f))) (hk : rowsO (hO h k) = some (fks, rows)) (hz : fks.length = sz) (hs : nthO fks f = some (.i .u8)) (hr : r < rows.length) (H : VO P draw all rest (⟨[k], [], [], []⟩ :: lg) (mk n ((d, .one (.c (.int .u8 (rd rows r f)))) :: t) h dd) K) : VO P draw all (⟨some d, .load t1 x, ty, pos, af, gd⟩ :: rest) lg (mk n t h dd) K := by
  refine VO.val (R := [k]) (Rs := []) hw (fun S' hn he hh hsh => ?_) H
  have hdn : d < S'.n := by rw [hn]; simpa using hd
  have ex := evs (o := ⟨some d, .load t1 x, ty, pos, af, gd⟩) he (x := x) (by simp [Op.operands, Call.operands]) hx
  obtain ⟨ti, h1, h2⟩ := aggO_eq ht
  obtain ⟨o, h3, h4⟩ := rowsO_eq hk
  exact snd_loadRow1 hTI.ok t1 ti x k r sz f o fks rows (.i .u8) h1 h2 ex (by rw [hh k (by simp), hO_eq h3]) h4 hz (nthO_eq hs) hr hdn
theorem v_lr_b {t1 : TypeId} {x : Operand} {k r sz f : Nat} {fks : List FK} {rows : List (List Int)} (hw : wantO t all gd = some true) (hd : Nat.blt d n = true) [hTI : TabC P T] (ht : aggO T t1 = some false) (hx : evO t x = some (.one (.p k r sz f))) (hk : rowsO (hO h k) = some (fks, rows)) (hz : fks.length = sz) (hs : nthO fks f = some .b) (hr : r < rows.length) (H : VO P draw all rest (⟨[k], [], [], []⟩ :: lg) (mk n ((d, .one (.c (.bool (rd rows r f != 0)))) :: t) h dd) K) : VO P draw all (⟨some d, .load t1 x, ty, pos, af, gd⟩ :: rest) lg (mk n t h dd) K := by
  refine VO.val (R := [k]) (Rs := []) hw (fun S' hn he hh hsh => ?_) H
  have hdn : d < S'.n := by rw [hn]; simpa using hd
  have ex := evs (o := ⟨some d, .load t1 x, ty, pos, af, gd⟩) he (x := x) (by simp [Op.operands, Call.operands]) hx
  obtain ⟨ti, h1, h2⟩ := aggO_eq ht
  obtain ⟨o, h3, h4⟩ := rowsO_eq hk
  exact snd_loadRow1 hTI.ok t1 ti x k r sz f o fks rows .b h1 h2 ex (by rw [hh k (by simp), hO_eq h3]) h4 hz (nthO_eq hs) hr hdn
theorem v_lrN {t1 : TypeId} {x : Operand} {k r sz : Nat} {fks : List FK} {rows : List (List Int)} {out : List Sc} (hw : wantO t all gd = some true) (hd : Nat.blt d n = true) [hTI : TabC P T] (ht : aggO T t1 = some true) (hz2 : szO T t1 = some sz) (hx : evO t x = some (.one (.p k r sz 0))) (hk : rowsO (hO h k) = some (fks, rows)) (hz : fks.length = sz) (hs : rowK fks rows r fldT [] some = some out) (hr : r < rows.length) (H : VO P draw all rest (⟨[k], [], [], []⟩ :: lg) (mk n ((d, .agg out) :: t) h dd) K) : VO P draw all (⟨some d, .load t1 x, ty, pos, af, gd⟩ :: rest) lg (mk n t h dd) K := by
  refine VO.val (R := [k]) (Rs := []) hw (fun S' hn he hh hsh => ?_) H
  have hdn : d < S'.n := by rw [hn]; simpa using hd
  have ex := evs (o := ⟨some d, .load t1 x, ty, pos, af, gd⟩) he (x := x) (by simp [Op.operands, Call.operands]) hx
  obtain ⟨ti, h1, h2⟩ := aggO_eq ht
  obtain ⟨o, h3, h4⟩ := rowsO_eq hk
  obtain ⟨ti2, h5, h6⟩ := szO_eq hz2
  obtain rfl := tl_same h1 h5
  rw [← rowS_eq hs]
  exact snd_loadRowN hTI.ok t1 ti x k r sz o fks rows h1 h2 ex (by rw [hh k (by simp), hO_eq h3]) h4 hz h6 hr hdn
theorem v_lstr {t1 : TypeId} {x : Operand} {k r : Nat} {l : List ByteArray} (hw : wantO t all gd = some true) (hd : Nat.blt d n = true) [hTI : TabC P T] (ht : aggO T t1 = some false) (hx : evO t x = some (.one (.p k r 1 0))) (hk : strsO (hO h k) = some l) (hr : r < l.length) (H : VO P draw all rest (⟨[k], [], [], []⟩ :: lg) (mk n ((d, .one (.c (.string (l.getD r ByteArray.empty)))) :: t) h dd) K) : VO P draw all (⟨some d, .load t1 x, ty, pos, af, gd⟩ :: rest) lg (mk n t h dd) K := by
  refine VO.val (R := [k]) (Rs := []) hw (fun S' hn he hh hsh => ?_) H
  have hdn : d < S'.n := by rw [hn]; simpa using hd
  have ex := evs (o := ⟨some d, .load t1 x, ty, pos, af, gd⟩) he (x := x) (by simp [Op.operands, Call.operands]) hx
  obtain ⟨ti, h1, h2⟩ := aggO_eq ht
  obtain ⟨o, h3, h4⟩ := strsO_eq hk
  exact snd_loadStr hTI.ok t1 ti x k r o l h1 h2 ex (by rw [hh k (by simp), hO_eq h3]) h4 hr hdn
theorem v_ia {t1 e : TypeId} {x i : Operand} {k sz : Nat} {fks : List FK} {rows : List (List Int)} {ik : IntKind} {a : Int} (hw : wantO t all gd = some true) (hd : Nat.blt d n = true) [hTI : TabC P T] (hu : elemO T t1 = some e) (hz : szO T e = some sz) (hx : evO t x = some (.one (.r k))) (hi : evO t i = some (.one (.c (.int ik a)))) (hk : rowsO (hO h k) = some (fks, rows)) (hz2 : fks.length = sz) (h0 : 0 ≤ a) (h1 : a < (rows.length : Int)) (H : VO P draw all rest (⟨[], [], [k], []⟩ :: lg) (mk n ((d, .one (.p k a.toNat sz 0)) :: t) h dd) K) : VO P draw all (⟨some d, .indexAddr t1 x i, ty, pos, af, gd⟩ :: rest) lg (mk n t h dd) K := by
  refine VO.val (R := []) (Rs := [k]) hw (fun S' hn he hh hsh => ?_) H
  have hdn : d < S'.n := by rw [hn]; simpa using hd
  have ex := evs (o := ⟨some d, .indexAddr t1 x i, ty, pos, af, gd⟩) he (x := x) (by simp [Op.operands, Call.operands]) hx
  have ei1 := evs (o := ⟨some d, .indexAddr t1 x i, ty, pos, af, gd⟩) he (x := i) (by simp [Op.operands, Call.operands]) hi
  obtain ⟨ti, h2, h3⟩ := elemO_eq hu
  obtain ⟨ei, h4, h5⟩ := szO_eq hz
  obtain ⟨o, rows', h6, h7, h8⟩ := shp_rows (by rw [hsh k (by simp), hO_eq rfl]) hk
  subst hz2
  exact snd_indexAddr hTI.ok t1 ti ei e x i k o fks rows' ik a h2 h3 h4 h5 ex ei1 h6 h7 h0 (by rw [h8]; exact h1) hdn
theorem v_ias {t1 e : TypeId} {x i : Operand} {k : Nat} {l : List ByteArray} {ik : IntKind} {a : Int} (hw : wantO t all gd = some true) (hd : Nat.blt d n = true) [hTI : TabC P T] (hu : elemO T t1 = some e) (hz : szO T e = some 1) (hx : evO t x = some (.one (.r k))) (hi : evO t i = some (.one (.c (.int ik a)))) (hk : strsO (hO h k) = some l) (h0 : 0 ≤ a) (h1 : a < (l.length : Int)) (H : VO P draw all rest (⟨[], [], [k], []⟩ :: lg) (mk n ((d, .one (.p k a.toNat 1 0)) :: t) h dd) K) : VO P draw all (⟨some d, .indexAddr t1 x i, ty, pos, af, gd⟩ :: rest) lg (mk n t h dd) K := by
  refine VO.val (R := []) (Rs := [k]) hw (fun S' hn he hh hsh => ?_) H
  have hdn : d < S'.n := by rw [hn]; simpa using hd
  have ex := evs (o := ⟨some d, .indexAddr t1 x i, ty, pos, af, gd⟩) he (x := x) (by simp [Op.operands, Call.operands]) hx
  have ei1 := evs (o := ⟨some d, .indexAddr t1 x i, ty, pos, af, gd⟩) he (x := i) (by simp [Op.operands, Call.operands]) hi
  obtain ⟨ti, h2, h3⟩ := elemO_eq hu
  obtain ⟨ei, h4, h5⟩ := szO_eq hz
  obtain ⟨o, l', h6, h7, h8⟩ := shp_strs (by rw [hsh k (by simp), hO_eq rfl]) hk
  exact snd_indexStr hTI.ok t1 ti ei e x i k o l' ik a h2 h3 h4 h5 ex ei1 h6 h7 h0 (by rw [h8]; exact h1) hdn
theorem v_len {t1 e : TypeId} {x : Operand} {k : Nat} {fks : List FK} {rows : List (List Int)} (hw : wantO t all gd = some true) (hd : Nat.blt d n = true) [hTI : TabC P T] (hu : elemO T t1 = some e) (hx : evO t x = some (.one (.r k))) (hk : rowsO (hO h k) = some (fks, rows)) (H : VO P draw all rest (⟨[], [], [k], []⟩ :: lg) (mk n ((d, .one (.c (.int .i64 (rows.length : Int)))) :: t) h dd) K) : VO P draw all (⟨some d, .call ⟨.builtin .len, ⟨[x]⟩, ⟨[t1]⟩⟩, ty, pos, af, gd⟩ :: rest) lg (mk n t h dd) K := by
  refine VO.val (R := []) (Rs := [k]) hw (fun S' hn he hh hsh => ?_) H
  have hdn : d < S'.n := by rw [hn]; simpa using hd
  have ex := evs (o := ⟨some d, .call ⟨.builtin .len, ⟨[x]⟩, ⟨[t1]⟩⟩, ty, pos, af, gd⟩) he (x := x) (by simp [Op.operands, Call.operands]) hx
  obtain ⟨ti, h2, h3⟩ := elemO_eq hu
  obtain ⟨o, rows', h6, h7, h8⟩ := shp_rows (by rw [hsh k (by simp), hO_eq rfl]) hk
  rw [← h8]
  exact snd_len hTI.ok t1 ti e x k o fks rows' h2 h3 ex h6 h7 hdn
theorem v_lens {t1 e : TypeId} {x : Operand} {k : Nat} {l : List ByteArray} (hw : wantO t all gd = some true) (hd : Nat.blt d n = true) [hTI : TabC P T] (hu : elemO T t1 = some e) (hx : evO t x = some (.one (.r k))) (hk : strsO (hO h k) = some l) (H : VO P draw all rest (⟨[], [], [k], []⟩ :: lg) (mk n ((d, .one (.c (.int .i64 (l.length : Int)))) :: t) h dd) K) : VO P draw all (⟨some d, .call ⟨.builtin .len, ⟨[x]⟩, ⟨[t1]⟩⟩, ty, pos, af, gd⟩ :: rest) lg (mk n t h dd) K := by
  refine VO.val (R := []) (Rs := [k]) hw (fun S' hn he hh hsh => ?_) H
  have hdn : d < S'.n := by rw [hn]; simpa using hd
  have ex := evs (o := ⟨some d, .call ⟨.builtin .len, ⟨[x]⟩, ⟨[t1]⟩⟩, ty, pos, af, gd⟩) he (x := x) (by simp [Op.operands, Call.operands]) hx
  obtain ⟨ti, h2, h3⟩ := elemO_eq hu
  obtain ⟨o, l', h6, h7, h8⟩ := shp_strs (by rw [hsh k (by simp), hO_eq rfl]) hk
  rw [← h8]
  exact snd_lenS hTI.ok t1 ti e x k o l' h2 h3 ex h6 h7 hdn
theorem v_lenn {t1 e : TypeId} {x : Operand} {A : Option Addr} {m c : Nat} (hw : wantO t all gd = some true) (hd : Nat.blt d n = true) [hTI : TabC P T] (hu : elemO T t1 = some e) (hx : evO t x = some (.one (.c (.slice A m c)))) (H : VO P draw all rest (⟨[], [], [], []⟩ :: lg) (mk n ((d, .one (.c (.int .i64 (m : Int)))) :: t) h dd) K) : VO P draw all (⟨some d, .call ⟨.builtin .len, ⟨[x]⟩, ⟨[t1]⟩⟩, ty, pos, af, gd⟩ :: rest) lg (mk n t h dd) K := by
  refine VO.val (R := []) (Rs := []) hw (fun S' hn he hh hsh => ?_) H
  have hdn : d < S'.n := by rw [hn]; simpa using hd
  have ex := evs (o := ⟨some d, .call ⟨.builtin .len, ⟨[x]⟩, ⟨[t1]⟩⟩, ty, pos, af, gd⟩) he (x := x) (by simp [Op.operands, Call.operands]) hx
  obtain ⟨ti, h2, h3⟩ := elemO_eq hu
  exact snd_len_nil hTI.ok t1 ti e x A m c h2 h3 ex hdn
theorem v_lenb {t1 : TypeId} {x : Operand} {s : ByteArray} (hw : wantO t all gd = some true) (hd : Nat.blt d n = true) [hTI : TabC P T] (hu : strO T t1 = some true) (hx : evO t x = some (.one (.c (.string s)))) (H : VO P draw all rest (⟨[], [], [], []⟩ :: lg) (mk n ((d, .one (.c (.int .i64 (s.size : Int)))) :: t) h dd) K) : VO P draw all (⟨some d, .call ⟨.builtin .len, ⟨[x]⟩, ⟨[t1]⟩⟩, ty, pos, af, gd⟩ :: rest) lg (mk n t h dd) K := by
  refine VO.val (R := []) (Rs := []) hw (fun S' hn he hh hsh => ?_) H
  have hdn : d < S'.n := by rw [hn]; simpa using hd
  have ex := evs (o := ⟨some d, .call ⟨.builtin .len, ⟨[x]⟩, ⟨[t1]⟩⟩, ty, pos, af, gd⟩) he (x := x) (by simp [Op.operands, Call.operands]) hx
  obtain ⟨ti, h2, h3⟩ := strO_eq hu
  exact snd_len_str hTI.ok t1 ti x s h2 h3 ex hdn
theorem v_ncp {x : Operand} {k r sz f : Nat} (hw : wantO t all gd = some true) (hd : Nat.blt d n = true) (hx : evO t x = some (.one (.p k r sz f))) (H : VO P draw all rest (⟨[], [], [], []⟩ :: lg) (mk n ((d, .one (.p k r sz f)) :: t) h dd) K) : VO P draw all (⟨some d, .nilCheck x, ty, pos, af, gd⟩ :: rest) lg (mk n t h dd) K := by
  refine VO.val (R := []) (Rs := []) hw (fun S' hn he hh hsh => ?_) H
  have hdn : d < S'.n := by rw [hn]; simpa using hd
  have ex := evs (o := ⟨some d, .nilCheck x, ty, pos, af, gd⟩) he (x := x) (by simp [Op.operands, Call.operands]) hx
  exact snd_nilCheck x k r sz f ex hdn
theorem v_ncr {x : Operand} {k : Nat} {cs : List Sc} (hw : wantO t all gd = some true) (hd : Nat.blt d n = true) (hx : evO t x = some (.one (.r k))) (hk : boxO (hO h k) = some cs) (H : VO P draw all rest (⟨[], [], [k], []⟩ :: lg) (mk n ((d, .one (.r k)) :: t) h dd) K) : VO P draw all (⟨some d, .nilCheck x, ty, pos, af, gd⟩ :: rest) lg (mk n t h dd) K := by
  refine VO.val (R := []) (Rs := [k]) hw (fun S' hn he hh hsh => ?_) H
  have hdn : d < S'.n := by rw [hn]; simpa using hd
  have ex := evs (o := ⟨some d, .nilCheck x, ty, pos, af, gd⟩) he (x := x) (by simp [Op.operands, Call.operands]) hx
  obtain ⟨o, cs', h6, h7, h8⟩ := shp_box (by rw [hsh k (by simp), hO_eq rfl]) hk
  exact snd_nilCheck_r x k o cs' ex h6 h7 hdn
theorem v_ext {x : Operand} {vs : List (Bool × List Sc)} {i : Nat} {v : Bool × List Sc} {out : AV} (hw : wantO t all gd = some true) (hd : Nat.blt d n = true) (hx : evO t x = some (.tup vs)) (hi : nthO vs i = some v) (ho : compO v = some out) (H : VO P draw all rest (⟨[], [], [], []⟩ :: lg) (mk n ((d, out) :: t) h dd) K) : VO P draw all (⟨some d, .extract x i, ty, pos, af, gd⟩ :: rest) lg (mk n t h dd) K := by
  refine VO.val (R := []) (Rs := []) hw (fun S' hn he hh hsh => ?_) H
  have hdn : d < S'.n := by rw [hn]; simpa using hd
  have ex := evs (o := ⟨some d, .extract x i, ty, pos, af, gd⟩) he (x := x) (by simp [Op.operands, Call.operands]) hx
  exact snd_extract x vs i v ex (nthO_eq hi) out (by obtain ⟨b, cs⟩ := v; cases b with
    | true => simpa [compO] using ho.symm
    | false => match cs, ho with
      | [s], ho => simpa [compO] using ho.symm) hdn
theorem v_fld {t1 : TypeId} {x : Operand} {i off sz : Nat} {cs : List Sc} {s : Sc} (hw : wantO t all gd = some true) (hd : Nat.blt d n = true) [hTI : TabC P T] (ht : offO T t1 i = some (off, sz)) (hx : evO t x = some (.agg cs)) (hs : nthO cs off = some s) (hna : naB P T t1 i = true) (H : VO P draw all rest (⟨[], [], [], []⟩ :: lg) (mk n ((d, .one s) :: t) h dd) K) : VO P draw all (⟨some d, .field t1 x i, ty, pos, af, gd⟩ :: rest) lg (mk n t h dd) K := by
  refine VO.val (R := []) (Rs := []) hw (fun S' hn he hh hsh => ?_) H
  have hdn : d < S'.n := by rw [hn]; simpa using hd
  have ex := evs (o := ⟨some d, .field t1 x i, ty, pos, af, gd⟩) he (x := x) (by simp [Op.operands, Call.operands]) hx
  obtain ⟨ti, h1, h2⟩ := offO_eq ht
  exact snd_field hTI.ok t1 ti x i off sz cs s h1 h2 ex (nthO_eq hs) (naB_eq h1 hna) hdn
theorem v_bld {t1 : TypeId} {ti : TY} {zs out : List Sc} {parts : List (Nat × Operand)} (hw : wantO t all gd = some true) (hd : Nat.blt d n = true) [hTI : TabC P T] (ht : tlook T t1 = some ti) (hfs : strB ti.u = true) (hz : mapK ti.zs [] some = some zs) (ho : fillK t ti.offs zs parts = some out) (H : VO P draw all rest (⟨[], [], [], []⟩ :: lg) (mk n ((d, .agg out) :: t) h dd) K) : VO P draw all (⟨some d, .build t1 ⟨parts⟩, ty, pos, af, gd⟩ :: rest) lg (mk n t h dd) K := by
  refine VO.val (R := []) (Rs := []) hw (fun S' hn he hh hsh => ?_) H
  have hdn : d < S'.n := by rw [hn]; simpa using hd
  have he' : ∀ p ∈ parts, evA S'.t p.2 = evA (look t) p.2 := fun p hp => he p.2 (by simp only [Op.operands]; simpa using ⟨p.1, hp⟩)
  refine snd_build hTI.ok t1 ti parts out ht (strB_eq hfs) ?_ hdn
  rw [mapK_eq hz]
  exact fillK_eq S'.t he' _ ho
theorem v_st {t1 bt : TypeId} {x y : Operand} {k f sz : Nat} {cs ns out : List Sc} (hw : wantO t all gd = some true) [hTI : TabC P T] (hz : szO T t1 = some sz) (hx : addrO (evO t x) = some (k, f)) (hk : hO h k = some (.box bt cs)) (hy : cellsO (evO t y) = some ns) (hnn : ns.length = sz) (ho : ovrK f cs ns [] some = some out) (H : VO P draw all rest (⟨[k], [k], [], [k]⟩ :: lg) (mk n t ((k, some (.box bt out)) :: h) dd) K) : VO P draw all (⟨none, .store t1 x y, ty, pos, af, gd⟩ :: rest) lg (mk n t h dd) K := by
  refine VO.upd (R := [k]) (by rw [hO_eq hk, ← (ovrS_eq ho).2]; simp [shp, ovr_length (ovrS_eq ho).1]) hw (fun S' hn he hh => ?_) H
  have rx := he x (by simp [Op.operands])
  have ry := he y (by simp [Op.operands])
  obtain ⟨ti, h1, h2⟩ := szO_eq hz
  obtain ⟨h3, h4⟩ := ovrS_eq ho
  rw [← h4]
  exact snd_storeBox hTI.ok t1 bt ti x y k f cs ns h1 (addrO_eq hx rx) (by rw [hh k (by simp), hO_eq hk]) (cellsO_eq hy ry) (by rw [hnn, h2]) h3
theorem v_sr {t1 bt : TypeId} {x y : Operand} {k r sz f : Nat} {fks : List FK} {rows : List (List Int)} {ik : IntKind} {b : Int} (hw : wantO t all gd = some true) [hTI : TabC P T] (hz : szO T t1 = some 1) (hx : evO t x = some (.one (.p k r sz f))) (hk : hO h k = some (.vec bt fks rows)) (hz2 : fks.length = sz) (hf : nthO fks f = some (.i ik)) (hy : evO t y = some (.one (.c (.int ik b)))) (hr : r < rows.length) (H : VO P draw all rest (⟨[k], [k], [], [k]⟩ :: lg) (mk n t ((k, some (.vec bt fks (rows.set r ((rows.getD r []).set f b)))) :: h) dd) K) : VO P draw all (⟨none, .store t1 x y, ty, pos, af, gd⟩ :: rest) lg (mk n t h dd) K := by
  refine VO.upd (R := [k]) (by rw [hO_eq hk]; simp [shp]) hw (fun S' hn he hh => ?_) H
  have ex := evs (o := ⟨none, .store t1 x y, ty, pos, af, gd⟩) he (x := x) (by simp [Op.operands]) hx
  have ey := evs (o := ⟨none, .store t1 x y, ty, pos, af, gd⟩) he (x := y) (by simp [Op.operands]) hy
  obtain ⟨ti, h1, h2⟩ := szO_eq hz
  exact snd_storeRow hTI.ok t1 bt ti x y k r sz f fks rows (.i ik) b h1 h2 ex (by rw [hh k (by simp), hO_eq hk]) hz2 (nthO_eq hf) hr ey
theorem v_srb {t1 bt : TypeId} {x y : Operand} {k r sz f : Nat} {fks : List FK} {rows : List (List Int)} {g : Bool} (hw : wantO t all gd = some true) [hTI : TabC P T] (hz : szO T t1 = some 1) (hx : evO t x = some (.one (.p k r sz f))) (hk : hO h k = some (.vec bt fks rows)) (hz2 : fks.length = sz) (hf : nthO fks f = some .b) (hy : evO t y = some (.one (.c (.bool g)))) (hr : r < rows.length) (H : VO P draw all rest (⟨[k], [k], [], [k]⟩ :: lg) (mk n t ((k, some (.vec bt fks (rows.set r ((rows.getD r []).set f (bif g then 1 else 0))))) :: h) dd) K) : VO P draw all (⟨none, .store t1 x y, ty, pos, af, gd⟩ :: rest) lg (mk n t h dd) K := by
  refine VO.upd (R := [k]) (by rw [hO_eq hk]; simp [shp]) hw (fun S' hn he hh => ?_) H
  have ex := evs (o := ⟨none, .store t1 x y, ty, pos, af, gd⟩) he (x := x) (by simp [Op.operands]) hx
  have ey := evs (o := ⟨none, .store t1 x y, ty, pos, af, gd⟩) he (x := y) (by simp [Op.operands]) hy
  obtain ⟨ti, h1, h2⟩ := szO_eq hz
  exact snd_storeRow hTI.ok t1 bt ti x y k r sz f fks rows .b (bif g then 1 else 0) h1 h2 ex (by rw [hh k (by simp), hO_eq hk]) hz2 (nthO_eq hf) hr (by rw [ey]; cases g <;> rfl)
theorem v_ap {t1 e : TypeId} {x y : Operand} {k sz bts ky : Nat} {fks : List FK} {rows news : List (List Int)} (hw : wantO t all gd = some true) (hd : Nat.blt d n = true) (hf : (memB dd d || parK d) = false) [hTI : TabC P T] (hu : elemO T t1 = some e) (hz : szO T e = some sz) (hbt : bytesO T e = some bts) (hx : evO t x = some (.one (.r k))) (hk : hO h k = some (.vec e fks rows)) (hy : rowsY t h y = some (ky, fks, news)) (hz2 : fks.length = sz) (hz0 : Nat.blt 0 sz && Nat.blt 0 bts = true) (hby : (rows.length + news.length) * bts ≤ 140737488355328) (H : VO P draw all rest (⟨[k, ky], [d, k], [], []⟩ :: lg) (mk n ((d, .one (.r d)) :: t) ((d, some (.vec e fks (rows ++ news))) :: (k, none) :: h) (d :: dd)) K) : VO P draw all (⟨some d, .call ⟨.builtin .append, ⟨[x, y]⟩, ⟨[t1, t1]⟩⟩, ty, pos, af, gd⟩ :: rest) lg (mk n t h dd) K := by
  refine VO.new (R := [k, ky]) (ups := [(k, none)]) hw hf (fun S' hn he hh hkd => ?_) H
  have hdn : d < S'.n := by rw [hn]; simpa using hd
  have ex := evs (o := ⟨some d, .call ⟨.builtin .append, ⟨[x, y]⟩, ⟨[t1, t1]⟩⟩, ty, pos, af, gd⟩) he (x := x) (by simp [Op.operands, Call.operands]) hx
  have ry := he y (by simp [Op.operands, Call.operands])
  obtain ⟨ti, h1, h2⟩ := elemO_eq hu
  obtain ⟨ei, h3, h4⟩ := szO_eq hz
  obtain ⟨ei2, h5, h6⟩ := bytesO_eq hbt
  obtain rfl := tl_same h3 h5
  simp at hz0
  exact snd_append hTI.ok t1 e ti ei x y fks rows news [(k, none)] h1 h2 h3 (by rw [h4, hz2]) (by omega) (by omega) (.inr ⟨k, ex, by rw [hh k (by simp), hO_eq hk], rfl⟩) (rowsY_eq hy ry (hh ky (by simp))) (by rw [h6]; exact hby) hdn hkd
theorem v_ap0 {t1 e : TypeId} {x y : Operand} {sz bts ky : Nat} {fks : List FK} {news : List (List Int)} (hw : wantO t all gd = some true) (hd : Nat.blt d n = true) (hf : (memB dd d || parK d) = false) [hTI : TabC P T] (hu : elemO T t1 = some e) (hz : szO T e = some sz) (hbt : bytesO T e = some bts) (hx : evO t x = some (.one (.c (.slice none 0 0)))) (hy : rowsY t h y = some (ky, fks, news)) (hz2 : fks.length = sz) (hz0 : Nat.blt 0 sz && Nat.blt 0 bts = true) (hby : news.length * bts ≤ 140737488355328) (H : VO P draw all rest (⟨[ky], [d], [], []⟩ :: lg) (mk n ((d, .one (.r d)) :: t) ((d, some (.vec e fks news)) :: h) (d :: dd)) K) : VO P draw all (⟨some d, .call ⟨.builtin .append, ⟨[x, y]⟩, ⟨[t1, t1]⟩⟩, ty, pos, af, gd⟩ :: rest) lg (mk n t h dd) K := by
  refine VO.new (R := [ky]) (ups := ([] : List (Nat × Option Obj))) hw hf (fun S' hn he hh hk => ?_) H
  have hdn : d < S'.n := by rw [hn]; simpa using hd
  have ex := evs (o := ⟨some d, .call ⟨.builtin .append, ⟨[x, y]⟩, ⟨[t1, t1]⟩⟩, ty, pos, af, gd⟩) he (x := x) (by simp [Op.operands, Call.operands]) hx
  have ry := he y (by simp [Op.operands, Call.operands])
  obtain ⟨ti, h1, h2⟩ := elemO_eq hu
  obtain ⟨ei, h3, h4⟩ := szO_eq hz
  obtain ⟨ei2, h5, h6⟩ := bytesO_eq hbt
  obtain rfl := tl_same h3 h5
  simp at hz0
  exact snd_append hTI.ok t1 e ti ei x y fks [] news [] h1 h2 h3 (by rw [h4, hz2]) (by omega) (by omega) (.inl ⟨ex, rfl, rfl⟩) (rowsY_eq hy ry (hh ky (by simp))) (by rw [h6]; simpa using hby) hdn hk
theorem v_mks {t1 e : TypeId} {x y : Operand} {zs : List Value} {bts : Nat} {fks : List FK} {zr : List Int} {kl kc : IntKind} {l c : Int} (hw : wantO t all gd = some true) (hd : Nat.blt d n = true) (hf : (memB dd d || parK d) = false) [hTI : TabC P T] (hu : elemO T t1 = some e) (he1 : zsO T e = some zs) (hbt : bytesO T e = some bts) (hz : zrO zs [] [] some = some (fks, zr)) (hz0 : Nat.blt 0 fks.length && Nat.blt 0 bts = true) (hx : evO t x = some (.one (.c (.int kl l)))) (hy : evO t y = some (.one (.c (.int kc c)))) (h0 : 0 ≤ l) (hlc : l ≤ c) (hby : (bts : Int) * c ≤ 281474976710656) (H : VO P draw all rest (⟨[], [d], [], []⟩ :: lg) (mk n ((d, .one (.r d)) :: t) ((d, some (.vec e fks (List.replicate l.toNat zr))) :: h) (d :: dd)) K) : VO P draw all (⟨some d, .makeSlice t1 x y, ty, pos, af, gd⟩ :: rest) lg (mk n t h dd) K := by
  refine VO.new (R := []) (ups := ([] : List (Nat × Option Obj))) hw hf (fun S' hn he hh hk => ?_) H
  have hdn : d < S'.n := by rw [hn]; simpa using hd
  have ex := evs (o := ⟨some d, .makeSlice t1 x y, ty, pos, af, gd⟩) he (x := x) (by simp [Op.operands, Call.operands]) hx
  have ey := evs (o := ⟨some d, .makeSlice t1 x y, ty, pos, af, gd⟩) he (x := y) (by simp [Op.operands, Call.operands]) hy
  obtain ⟨ti, h1, h2⟩ := elemO_eq hu
  obtain ⟨h3, h4⟩ := zrO_eq hz
  obtain ⟨ei, h5, rfl⟩ := zsO_eq he1
  obtain ⟨ei2, h6, rfl⟩ := bytesO_eq hbt
  obtain rfl := tl_same h5 h6
  simp at hz0
  exact snd_make hTI.ok t1 e ti ei x y fks zr kl kc l c h1 h2 h5 h3 h4 (by omega) (by omega) ex ey h0 hlc hby hdn hk
theorem v_lit {t1 e : TypeId} {m : Nat} {zs : List Value} {zr : List Int} {parts : List (Nat × Operand)} {fks : List FK} {rows : List (List Int)} (hw : wantO t all gd = some true) (hd : Nat.blt d n = true) (hf : (memB dd d || parK d) = false) [hTI : TabC P T] (hu : elemO T t1 = some e) (he1 : zsO T e = some zs) (hz : zrO zs [] [] some = some (fks, zr)) (hz0 : Nat.blt 0 fks.length = true) (hm : Nat.beq parts.length m = true) (hsm : Nat.ble (m * fks.length) 16777216 = true) (hp : PartsC (look t) fks 0 parts rows) (H : VO P draw all rest (⟨[], [d], [], []⟩ :: lg) (mk n ((d, .one (.r d)) :: t) ((d, some (.vec e fks rows)) :: h) (d :: dd)) K) : VO P draw all (⟨some d, .buildSlice t1 m ⟨parts⟩, ty, pos, af, gd⟩ :: rest) lg (mk n t h dd) K := by
  refine VO.new (R := []) (ups := ([] : List (Nat × Option Obj))) hw hf (fun S' hn he hh hk => ?_) H
  have hdn : d < S'.n := by rw [hn]; simpa using hd
  have he' : ∀ p ∈ parts, evA S'.t p.2 = evA (look t) p.2 := fun p hp => he p.2 (by simp only [Op.operands]; simpa using ⟨p.1, hp⟩)
  obtain ⟨ti, h1, h2⟩ := elemO_eq hu
  obtain ⟨ei, h3, h4⟩ := zsO_eq he1
  obtain ⟨h5, h6⟩ := zrO_eq hz
  exact snd_lit hTI.ok t1 e ti ei m parts fks rows h1 h2 h3 (by rw [h4, h5, cellsOf_length _ _ h6]) (by simpa using hz0) (Nat.eq_of_beq_eq_true hm) (by simpa using hsm) (hp.same he') hdn hk
theorem v_cut {t1 e : TypeId} {x : Operand} {lo hi : Option Operand} {k sz : Nat} {a b : Int} {fks : List FK} {rows : List (List Int)} (hw : wantO t all gd = some true) (hd : Nat.blt d n = true) (hf : (memB dd d || parK d) = false) [hTI : TabC P T] (hu : elemO T t1 = some e) (hz : szO T e = some sz) (hx : evO t x = some (.one (.r k))) (hk1 : rowsO (hO h k) = some (fks, rows)) (hz2 : fks.length = sz) (hlo : cutLo t lo = some a) (hhi : cutHi t (rows.length : Int) hi = some b) (h0 : 0 ≤ a) (hab : a ≤ b) (hb : b ≤ (rows.length : Int)) (hkd : Nat.beq k d = false) (H : VO P draw all rest (⟨[k], [d, k], [], []⟩ :: lg) (mk n ((d, .one (.r d)) :: t) ((d, some (.ro fks ((rows.drop a.toNat).take (b.toNat - a.toNat)))) :: (k, some (.ro fks rows)) :: h) (d :: dd)) K) : VO P draw all (⟨some d, .slice t1 x lo hi none, ty, pos, af, gd⟩ :: rest) lg (mk n t h dd) K := by
  refine VO.new (R := [k]) (ups := [(k, some (.ro fks rows))]) hw hf (fun S' hn he hh hk => ?_) H
  have hdn : d < S'.n := by rw [hn]; simpa using hd
  have ex := evs (o := ⟨some d, .slice t1 x lo hi none, ty, pos, af, gd⟩) he (x := x) (by simp [Op.operands, Call.operands]) hx
  obtain ⟨ti, h1, h2⟩ := elemO_eq hu
  obtain ⟨ei, h3, h4⟩ := szO_eq hz
  obtain ⟨o, h6, h7⟩ := rowsO_eq hk1
  refine snd_cut hTI.ok t1 e ti ei x lo hi k o fks rows a.toNat b.toNat h1 h2 h3 (by rw [h4, hz2]) ex (by rw [hh k (by simp), hO_eq h6]) h7 ?_ ?_ (by omega) (by omega) hdn hk (Nat.ne_of_beq_eq_false hkd)
  · cases lo with
    | none => simp [cutLo] at hlo; exact .inl ⟨rfl, by omega⟩
    | some z =>
      obtain ⟨ik, hz⟩ := intO_eq hlo
      refine .inr ⟨z, ik, rfl, ?_⟩
      rw [he z (by simp [Op.operands]), evO_eq hz, Int.toNat_of_nonneg h0]
  · cases hi with
    | none => simp [cutHi] at hhi; exact .inl ⟨rfl, by omega⟩
    | some z =>
      obtain ⟨ik, hz⟩ := intO_eq hhi
      refine .inr ⟨z, ik, rfl, ?_⟩
      rw [he z (by simp [Op.operands]), evO_eq hz, Int.toNat_of_nonneg (by omega)]
end
end Go.AM
/- The abstract machine AM, part 18: calls, weaker states and ends, over states written as lists. -/
set_option linter.unusedVariables false
set_option linter.unusedSimpArgs false
namespace Go.AM
open Go.RowKit

/-! ### Calls -/
theorem DCof.same {h h' : Nat → Option Obj} {s : Sc} {d : DC} {u : List (Nat × Obj)} {rs : List Nat} (hd : DCof h s d u rs) (e : ∀ k ∈ rs ++ u.map (·.1), h' k = h k) : DCof h' s d u rs := by
  cases hd with
  | c => exact .c
  | nil => exact .nil
  | nils => exact .nils
  | r ho hr => exact .r (by rw [e _ (by simp)]; exact ho) hr
  | rs ho hr => exact .rs (by rw [e _ (by simp)]; exact ho) hr
  | mu ho => exact .mu (by rw [e _ (by simp)]; exact ho)
theorem DCsOf.same {h h' : Nat → Option Obj} {s : List Sc} {d : List DC} {u : List (Nat × Obj)} {rs : List Nat} (hd : DCsOf h s d u rs) : (∀ k ∈ rs ++ u.map (·.1), h' k = h k) → DCsOf h' s d u rs := by
  induction hd with
  | nil => intro _; exact .nil
  | cons h1 h2 ih =>
    intro e
    refine .cons (h1.same fun k hk => e k ?_) (ih fun k hk => e k ?_)
    · rw [List.mem_append] at hk
      rw [List.map_append]
      simp only [List.mem_append]
      rcases hk with hk | hk
      · exact .inl (.inl hk)
      · exact .inr (.inl hk)
    · rw [List.mem_append] at hk
      rw [List.map_append]
      simp only [List.mem_append]
      rcases hk with hk | hk
      · exact .inl (.inr hk)
      · exact .inr (.inr hk)
theorem DPsOf.same {h h' : Nat → Option Obj} {s : List Sc} {d : List (List DC)} {rs : List Nat} (hd : DPsOf h s d rs) : (∀ k ∈ rs, h' k = h k) → DPsOf h' s d rs := by
  induction hd with
  | nil => intro _; exact .nil
  | cons ho hc h1 h2 ih =>
    intro e
    exact .cons (by rw [e _ (by simp)]; exact ho) hc (h1.same fun k hk => e k (by simp at hk; simp [hk])) (ih fun k hk => e k (by simp [hk]))
theorem DVof.same {h h' : Nat → Option Obj} {s : AV} {d : DV} {u : List (Nat × Obj)} {rs : List Nat} (hd : DVof h s d u rs) (e : ∀ k ∈ rs ++ u.map (·.1), h' k = h k) : DVof h' s d u rs := by
  cases hd with
  | one h1 => exact .one (h1.same e)
  | agg h1 => exact .agg (h1.same e)
  | ptr ho hc h1 => exact .ptr (by rw [e _ (by simp)]; exact ho) hc (h1.same fun k hk => e k (by simp at hk; simp [hk]))
  | mp ho h1 => exact .mp (by rw [e _ (by simp)]; exact ho) (h1.same fun k hk => e k (by simp at hk; simp [hk]))
  | fn h1 => exact .fn (h1.same fun k hk => e k (by simp [hk]))
theorem DVsOf.same {h h' : Nat → Option Obj} {s : List AV} {d : List DV} {u : List (Nat × Obj)} {rs : List Nat} (hd : DVsOf h s d u rs) : (∀ k ∈ rs ++ u.map (·.1), h' k = h k) → DVsOf h' s d u rs := by
  induction hd with
  | nil => intro _; exact .nil
  | cons h1 h2 ih =>
    intro e
    refine .cons (h1.same fun k hk => e k ?_) (ih fun k hk => e k ?_)
    · rw [List.mem_append] at hk
      rw [List.map_append]
      simp only [List.mem_append]
      rcases hk with hk | hk
      · exact .inl (.inl hk)
      · exact .inr (.inl hk)
    · rw [List.mem_append] at hk
      rw [List.map_append]
      simp only [List.mem_append]
      rcases hk with hk | hk
      · exact .inl (.inr hk)
      · exact .inr (.inr hk)

theorem DVof_ptr {h : Nat → Option Obj} {k : Nat} {o : Obj} {cs : List Sc} {ds : List DC} {r : List Nat} {u : List (Nat × Obj)} (ho : h k = some o) (hc : o.boxCells = some cs) (h1 : DCsOf h cs ds u r) (hu : u = []) : DVof h (.one (.r k)) (.ptr ds) [] (k :: r) := .ptr ho hc (hu ▸ h1)
theorem DVof_mp {h : Nat → Option Obj} {k : Nat} {ty : TypeId} {cs : List Sc} {ds : List DC} {xs : List (Option Value)} {r : List Nat} {u : List (Nat × Obj)} (ho : h k = some (.box ty cs)) (h1 : DCsOf h cs ds u r) (hu : u = []) : DVof h (.one (.r k)) (.mp ty ds xs) [(k, .box ty (updS cs xs))] r := .mp ho (hu ▸ h1)
theorem DPsOf_cons {h : Nat → Option Obj} {k : Nat} {o : Obj} {cs : List Sc} {ds : List DC} {ss : List Sc} {dss : List (List DC)} {r rs : List Nat} {u : List (Nat × Obj)} (ho : h k = some o) (hc : o.boxCells = some cs) (h1 : DCsOf h cs ds u r) (hu : u = []) (h2 : DPsOf h ss dss rs) : DPsOf h (.r k :: ss) (ds :: dss) (k :: r ++ rs) := .cons ho hc (hu ▸ h1) h2

/-- What a call leaves, written out. -/
def csK {β : Type} : Nat → List DC → List Sc → List (Nat × Option Obj) → (Nat → List Sc → List (Nat × Option Obj) → Option β) → Option β
  | k, [], ss, us, c => revK ss [] fun ss => c k ss us
  | k, .v x :: ds, ss, us, c => csK (k + 1) ds (.c x :: ss) us c
  | k, .sl ty fks rows :: ds, ss, us, c => csK (k + 1) ds (.r k :: ss) ((k, some (.vec ty fks rows)) :: us) c
  | k, .ss ty l :: ds, ss, us, c => csK (k + 1) ds (.r k :: ss) ((k, some (.svec ty l)) :: us) c
  | k, .mu .. :: ds, ss, us, c => csK (k + 1) ds (.any :: ss) us c
def vsK {β : Type} : Nat → List (Bool × List DC) → List (Bool × List Sc) → List (Nat × Option Obj) → (List (Bool × List Sc) → List (Nat × Option Obj) → Option β) → Option β
  | k, [], vs, us, c => revK vs [] fun vs => c vs us
  | k, (b, ds) :: rest, vs, us, c => csK k ds [] us fun k ss us => vsK k rest ((b, ss) :: vs) us c
def dvK {β : Type} (k : Nat) : DV → (AV → List (Nat × Option Obj) → Option β) → Option β
  | .one d, c => csK k [d] [] [] fun _ ss us => match ss with | [s] => c (.one s) us | _ => none
  | .agg ds, c => csK k ds [] [] fun _ ss us => c (.agg ss) us
  | .tup vs, c => vsK k vs [] [] fun vs us => c (.tup vs) us
  | _, c => c .unk []
def upK {β : Type} : List (Nat × Obj) → List (Nat × Option Obj) → (List (Nat × Option Obj) → Option β) → Option β
  | [], us, c => c us
  | (k, o) :: u, us, c => upK u ((k, some o) :: us) c
/-- Keys ahead of others. -/
def keyK {β : Type} : List (Nat × Option Obj) → List Nat → (List Nat → Option β) → Option β
  | [], ks, c => c ks
  | (k, _) :: us, ks, c => keyK us (k :: ks) c
/-- us: what is new, us2: what is new and what is written, both the last first. -/
def callO (k : Nat) (dv : DV) (u : List (Nat × Obj)) (h : List (Nat × Option Obj)) (dd : List Nat) : Option (AV × List Nat × List (Nat × Option Obj) × List Nat) :=
  dvK k dv fun v us => upK u us fun us2 => keyK us2 [] fun W => revK us2 h fun h' => keyK us dd fun dd' => some (v, W, h', dd')

theorem csK_eq {β : Type} (c : Nat → List Sc → List (Nat × Option Obj) → Option β) : ∀ (ds : List DC) (k : Nat) (ss : List Sc) (us : List (Nat × Option Obj)), csK k ds ss us c = c (k + ds.length) (ss.reverse ++ (resCs k ds).1) ((someUps (resCs k ds).2).reverse ++ us)
  | [], k, ss, us => by simp [csK, revK_eq, resCs, someUps]
  | d :: ds, k, ss, us => by
    cases d <;> simp [csK, csK_eq c ds, resCs, resC, someUps, Nat.add_assoc, Nat.add_comm 1]
theorem resCs_append : ∀ (a b : List DC) (k : Nat), (resCs k (a ++ b)).1 = (resCs k a).1 ++ (resCs (k + a.length) b).1 ∧ (resCs k (a ++ b)).2 = (resCs k a).2 ++ (resCs (k + a.length) b).2
  | [], b, k => by simp [resCs]
  | d :: a, b, k => by
    obtain ⟨h1, h2⟩ := resCs_append a b (k + 1)
    simp only [List.cons_append, resCs, h1, h2, List.length_cons]
    rw [show k + 1 + a.length = k + (a.length + 1) by omega]
    exact ⟨by simp, by simp⟩
theorem vsK_eq {β : Type} (c : List (Bool × List Sc) → List (Nat × Option Obj) → Option β) : ∀ (vs : List (Bool × List DC)) (k : Nat) (acc : List (Bool × List Sc)) (us : List (Nat × Option Obj)), vsK k vs acc us c = c (acc.reverse ++ splitC vs (resCs k (cellsD vs)).1) ((someUps (resCs k (cellsD vs)).2).reverse ++ us)
  | [], k, acc, us => by simp [vsK, revK_eq, splitC, cellsD, resCs, someUps]
  | (b, ds) :: vs, k, acc, us => by
    obtain ⟨h1, h2⟩ := resCs_append ds (cellsD vs) k
    have hl : (resCs k ds).1.length = ds.length := resCs_length k ds k
    simp only [vsK, csK_eq, vsK_eq c vs, cellsD, splitC, h1, h2]
    congr 1
    · simp [← hl]
    · simp [someUps]
theorem dvK_eq {β : Type} (k : Nat) (dv : DV) (c : AV → List (Nat × Option Obj) → Option β) : dvK k dv c = c (resV k dv).1 (someUps (resV k dv).2).reverse := by
  cases dv with
  | one d => simp [dvK, csK_eq, resV, resCs]
  | agg ds => simp [dvK, csK_eq, resV]
  | tup vs => simp [dvK, vsK_eq, resV]
  | _ => simp [dvK, resV, someUps]
theorem upK_eq {β : Type} (c : List (Nat × Option Obj) → Option β) : ∀ (u : List (Nat × Obj)) (us : List (Nat × Option Obj)), upK u us c = c ((someUps u).reverse ++ us)
  | [], us => by simp [upK, someUps]
  | (k, o) :: u, us => by simp [upK, upK_eq c u, someUps]
theorem keyK_eq {β : Type} (c : List Nat → Option β) : ∀ (us : List (Nat × Option Obj)) (ks : List Nat), keyK us ks c = c ((us.map (·.1)).reverse ++ ks)
  | [], ks => by simp [keyK]
  | (k, o) :: us, ks => by simp [keyK, keyK_eq c us]
theorem callO_eq {k : Nat} {dv : DV} {u : List (Nat × Obj)} {h h' : List (Nat × Option Obj)} {dd dd' W : List Nat} {v : AV} (e : callO k dv u h dd = some (v, W, h', dd')) :
    (callOut k dv u).v = v ∧ (callOut k dv u).ups.map (·.1) = W ∧ (callOut k dv u).ups ++ h = h' ∧ (callOut k dv u).new ++ dd = dd' := by
  simp only [callO, dvK_eq, upK_eq, keyK_eq, revK_eq, Option.some.injEq, Prod.mk.injEq] at e
  obtain ⟨e1, e2, e3, e4⟩ := e
  refine ⟨e1, ?_, ?_, ?_⟩
  · rw [← e2]; simp [callOut, someUps]
  · rw [← e3]; simp [callOut, someUps]
  · rw [← e4]; simp [callOut, someUps, Function.comp_def]

def freshN (dd : List Nat) (k : Nat) : Nat → Bool
  | 0 => true
  | c + 1 => !(memB dd (k + c) || parK (k + c)) && freshN dd k c
theorem freshN_eq {dd : List Nat} {k : Nat} : ∀ {c : Nat}, freshN dd k c = true → ∀ j, j < c → (memB dd (k + j) || parK (k + j)) = false
  | 0, _, j, hj => by omega
  | c + 1, h, j, hj => by
    simp only [freshN, Bool.and_eq_true, Bool.not_eq_true'] at h
    rcases Nat.lt_or_ge j c with h' | h'
    · exact freshN_eq h.2 j h'
    · rw [show j = c by omega]; exact h.1
def noPtr : DV → Bool
  | .ptr _ => false
  | _ => true
theorem callOut_new {k : Nat} {dv : DV} {u : List (Nat × Obj)} : ∀ x ∈ (callOut k dv u).new, x ∈ (callOut k dv u).ups.map (·.1) := by
  intro x hx
  simp only [callOut, List.map_append, List.mem_append] at hx ⊢
  refine .inl ?_
  simpa [someUps, Function.comp_def] using hx
theorem resCs_keys : ∀ (ds : List DC) (k : Nat), ∀ p ∈ (resCs k ds).2, ∃ j, j < ds.length ∧ p.1 = k + j
  | [], k, p, hp => by simp [resCs] at hp
  | d :: ds, k, p, hp => by
    simp only [resCs, List.mem_append] at hp
    rcases hp with hp | hp
    · refine ⟨0, by simp, ?_⟩
      cases d <;> simp [resC] at hp <;> simp [hp]
    · obtain ⟨j, h1, h2⟩ := resCs_keys ds (k + 1) p hp
      exact ⟨j + 1, by simpa using h1, by omega⟩
theorem callOut_keys {k : Nat} {dv : DV} {u : List (Nat × Obj)} : ∀ x ∈ (callOut k dv u).new, ∃ j, j < cntV dv ∧ x = k + j := by
  intro x hx
  simp only [callOut] at hx
  obtain ⟨p, hp, rfl⟩ := List.mem_map.1 hx
  cases dv with
  | one d => exact resCs_keys [d] k p (by simpa [resCs, resV] using hp)
  | agg ds => exact resCs_keys ds k p hp
  | tup vs => exact resCs_keys _ k p hp
  | _ => simp [resV] at hp

section
variable {P : Program} {T : Tab} {draw : Bool} {all rest : List Oper} {lg : FPs} {n : Nat} {t : List (Nat × AV)} {h : List (Nat × Option Obj)} {dd : List Nat} {K : Fs → Prop}
variable {d : Nat} {ty : TypeId} {pos : String} {af : Array Edge} {gd : Option (Nat × Bool)}

theorem v_call {f : FuncId} {fx : Operand} {args : List Operand} {aT : Array TypeId} {caps : List Sc} {ds : List DV} {dv : DV} {u : List (Nat × Obj)} {rs : List Nat} (k : Nat) {v : AV} {W : List Nat} {h' : List (Nat × Option Obj)} {dd' : List Nat} (hok : OK P f ds dv) (hw : wantO t all gd = some true) (hd : Nat.blt d n = true)
    (hf : evO t fx = some (.fn f caps)) (hds : DVsOf (hlook h) (args.map (evA (look t)) ++ caps.map .one) ds u rs) (hkeys : keysOk u rs = true) (hnp : noPtr dv = true) (hfr : freshN dd k (cntV dv) = true) (hout : callO k dv u h dd = some (v, W, h', dd'))
    (H : VO P draw all rest (⟨rs ++ u.map (·.1), W, [], []⟩ :: lg) (mk n ((d, v) :: t) h' dd') K) : VO P draw all (⟨some d, .call ⟨.value fx, ⟨args⟩, aT⟩, ty, pos, af, gd⟩ :: rest) lg (mk n t h dd) K := by
  obtain ⟨e1, e2, e3, e4⟩ := callO_eq hout
  refine VO.cons (out := callOut k dv u) (R := rs ++ u.map (·.1)) (Rs := []) (C := []) (does_yes hw fun S' hn he hh _ hd' => ?_) (fun x hx => ?_) callOut_new (fun k hk => by cases hk) (by rw [mk_apply, e1, e2, e3, e4]; exact H)
  · have hmap : args.map (evA S'.t) = args.map (evA (look t)) := List.map_congr_left fun x hx => he x (by simp [Op.operands, Call.operands, hx])
    refine snd_call f fx args aT caps ds dv u rs k (some d) hok (by rw [he fx (by simp [Op.operands, Call.operands])]; exact evO_eq hf) (by rw [hmap]; exact hds.same hh) hkeys (fun ds e => by subst e; cases hnp) (fun x hx => hd' x hx) (fun i hi => by injection hi with hi; subst hi; rw [hn]; simpa using hd)
  · obtain ⟨j, hj, rfl⟩ := callOut_keys x hx
    exact freshN_eq hfr j hj
theorem v_calln {f : FuncId} {fx : Operand} {args : List Operand} {aT : Array TypeId} {caps : List Sc} {ds : List DV} {dv : DV} {u : List (Nat × Obj)} {rs : List Nat} (k : Nat) {v : AV} {W : List Nat} {h' : List (Nat × Option Obj)} {dd' : List Nat} (hok : OK P f ds dv) (hw : wantO t all gd = some true)
    (hf : evO t fx = some (.fn f caps)) (hds : DVsOf (hlook h) (args.map (evA (look t)) ++ caps.map .one) ds u rs) (hkeys : keysOk u rs = true) (hnp : noPtr dv = true) (hfr : freshN dd k (cntV dv) = true) (hout : callO k dv u h dd = some (v, W, h', dd'))
    (H : VO P draw all rest (⟨rs ++ u.map (·.1), W, [], []⟩ :: lg) (mk n t h' dd') K) : VO P draw all (⟨none, .call ⟨.value fx, ⟨args⟩, aT⟩, ty, pos, af, gd⟩ :: rest) lg (mk n t h dd) K := by
  obtain ⟨e1, e2, e3, e4⟩ := callO_eq hout
  refine VO.cons (out := callOut k dv u) (R := rs ++ u.map (·.1)) (Rs := []) (C := []) (does_yes hw fun S' hn he hh _ hd' => ?_) (fun x hx => ?_) callOut_new (fun k hk => by cases hk) (by rw [mk_apply_none, e2, e3, e4]; exact H)
  · have hmap : args.map (evA S'.t) = args.map (evA (look t)) := List.map_congr_left fun x hx => he x (by simp [Op.operands, Call.operands, hx])
    exact snd_call f fx args aT caps ds dv u rs k none hok (by rw [he fx (by simp [Op.operands, Call.operands])]; exact evO_eq hf) (by rw [hmap]; exact hds.same hh) hkeys (fun ds e => by subst e; cases hnp) (fun x hx => hd' x hx) (fun i hi => by cases hi)
  · obtain ⟨j, hj, rfl⟩ := callOut_keys x hx
    exact freshN_eq hfr j hj
/-- A function value is made; what it holds: variables' addresses. -/
def capK {β : Type} (t : List (Nat × AV)) : List Operand → List Sc → (List Sc → Option β) → Option β
  | [], acc, k => revK acc [] k
  | x :: l, acc, k => match evO t x with
    | some (.one s) => capK t l (s :: acc) k
    | _ => none
theorem capK_gen {out : List Sc} (f : Nat → AV) : ∀ (l : List Operand) (acc : List Sc), (∀ x ∈ l, evA f x = evA (look t) x) → capK t l acc some = some out → ∃ cs, out = acc.reverse ++ cs ∧ l.map (evA f) = cs.map .one
  | [], acc, _, h => by simp [capK, revK_eq] at h; exact ⟨[], by simp [h], rfl⟩
  | x :: l, acc, he, h => by
    simp only [capK] at h
    split at h
    · rename_i s hs
      obtain ⟨cs, h1, h2⟩ := capK_gen f l (s :: acc) (fun y hy => he y (by simp [hy])) h
      refine ⟨s :: cs, by simp [h1], ?_⟩
      simp only [List.map_cons, h2]
      rw [he x (by simp), evO_eq hs]
    · cases h
theorem v_mkf {f : FuncId} {cap : List Operand} {caps : List Sc} (hw : wantO t all gd = some true) (hd : Nat.blt d n = true) (hc : capK t cap [] some = some caps) (H : VO P draw all rest (⟨[], [], [], []⟩ :: lg) (mk n ((d, .fn f caps) :: t) h dd) K) : VO P draw all (⟨some d, .makeFunc (.func f) ⟨[]⟩ ⟨cap⟩, ty, pos, af, gd⟩ :: rest) lg (mk n t h dd) K := by
  refine VO.val (R := []) (Rs := []) hw (fun S' hn he hh _ => ?_) H
  obtain ⟨cs, h1, h2⟩ := capK_gen S'.t cap [] (fun x hx => he x (by simp [Op.operands, hx])) hc
  simp at h1
  subst h1
  exact snd_makeFunc f cap caps h2 (by rw [hn]; simpa using hd)
end

/-! ### Weaker states -/
inductive TW (t : List (Nat × AV)) (σ : List (Nat × Nat)) : List (Nat × AV) → Prop where
  | nil : TW t σ []
  | cons {i v l} (h : lookO t i = some (v.ren (sg σ))) (H : TW t σ l) : TW t σ ((i, v) :: l)
  | eq {i v v' l} (h : lookO t i = some v') (e : v' = v.ren (sg σ)) (H : TW t σ l) : TW t σ ((i, v) :: l)
inductive HW (h : List (Nat × Option Obj)) (σ : List (Nat × Nat)) : List (Nat × Option Obj) → Prop where
  | nil : HW h σ []
  | cons {k o l} (e : hO h (sg σ k) = some (o.ren (sg σ))) (H : HW h σ l) : HW h σ ((k, some o) :: l)
  | eq {k o o' l} (e : hO h (sg σ k) = some o') (e2 : o' = o.ren (sg σ)) (H : HW h σ l) : HW h σ ((k, some o) :: l)
theorem TW.spec {t : List (Nat × AV)} {σ : List (Nat × Nat)} {t' : List (Nat × AV)} (H : TW t σ t') : ∀ i, look t' i = .unk ∨ look t i = (look t' i).ren (sg σ) := by
  induction H with
  | nil => intro i; exact .inl rfl
  | @cons j v l h H ih =>
    intro i
    simp only [look]
    cases hb : Nat.beq j i with
    | true => rw [← Nat.eq_of_beq_eq_true hb]; exact .inr (lookO_eq h)
    | false => exact ih i
  | @eq j v v' l h e H ih =>
    intro i
    simp only [look]
    cases hb : Nat.beq j i with
    | true => rw [← Nat.eq_of_beq_eq_true hb]; exact .inr (by rw [lookO_eq h, e]; rfl)
    | false => exact ih i
theorem HW.spec {h : List (Nat × Option Obj)} {σ : List (Nat × Nat)} {h' : List (Nat × Option Obj)} (H : HW h σ h') : ∀ k o, hlook h' k = some o → hlook h (sg σ k) = some (o.ren (sg σ)) ∧ (k, some o) ∈ h' := by
  induction H with
  | nil => intro k o ho; cases ho
  | @cons k o l e H ih =>
    intro i o' ho
    simp only [hlook] at ho
    cases hb : Nat.beq k i with
    | true =>
      rw [hb] at ho
      have := Nat.eq_of_beq_eq_true hb
      subst this
      simp at ho
      subst ho
      exact ⟨hO_eq e, by simp⟩
    | false => rw [hb] at ho; obtain ⟨h1, h2⟩ := ih i o' ho; exact ⟨h1, by simp [h2]⟩
  | @eq k o o2 l e e2 H ih =>
    intro i o' ho
    simp only [hlook] at ho
    cases hb : Nat.beq k i with
    | true =>
      rw [hb] at ho
      have := Nat.eq_of_beq_eq_true hb
      subst this
      simp at ho
      subst ho
      exact ⟨by rw [hO_eq e, e2], by simp⟩
    | false => rw [hb] at ho; obtain ⟨h1, h2⟩ := ih i o' ho; exact ⟨h1, by simp [h2]⟩
def keysIn (dd : List Nat) (ks : List Nat) : Bool := ks.all fun k => memB dd k || parK k
def chkW (σ : List (Nat × Nat)) (t' : List (Nat × AV)) (h' : List (Nat × Option Obj)) (dd' : List Nat) : Bool :=
  (σ.all fun p => !parK p.1) && (t'.all fun p => keysIn dd' p.2.keys) && (h'.all fun p => keysIn dd' [p.1] && match p.2 with | some o => keysIn dd' o.keys | none => true) && keysOk.nodupB (h'.map fun p => sg σ p.1)
theorem nodup_inj {α : Type} {f : α → Nat} : ∀ {l : List α}, (l.map f).Nodup → ∀ x ∈ l, ∀ y ∈ l, f x = f y → x = y
  | [], _, x, hx, _, _, _ => by cases hx
  | z :: l, hn, x, hx, y, hy, e => by
    simp only [List.map_cons, List.nodup_cons, List.mem_map, not_exists, not_and] at hn
    rcases List.mem_cons.1 hx with rfl | hx <;> rcases List.mem_cons.1 hy with rfl | hy
    · rfl
    · exact absurd e.symm (hn.1 y hy)
    · exact absurd e (hn.1 x (by assumption))
    · exact nodup_inj hn.2 x hx y hy e
theorem Wk.list {n : Nat} {t t' : List (Nat × AV)} {h h' : List (Nat × Option Obj)} {dd dd' : List Nat} (σ : List (Nat × Nat)) (ht : TW t σ t') (hh : HW h σ h') (hc : chkW σ t' h' dd' = true) : Wk (mk n t h dd) (mk n t' h' dd') := by
  simp only [chkW, Bool.and_eq_true, List.all_eq_true] at hc
  obtain ⟨⟨⟨c1, c2⟩, c3⟩, c4⟩ := hc
  have c5 := nodupB_spec _ c4
  refine Wk.of (sg σ) rfl (fun k hk => ⟨?_, ?_⟩) ht.spec (fun k o ho => ?_) (fun k k' o o' h1 h2 hne e => ?_) (fun i k hk => ?_) (fun x o ho k hk => ?_)
  · have : ∀ σ : List (Nat × Nat), (∀ p ∈ σ, (!parK p.1) = true) → sg σ k = k := by
      intro σ
      induction σ with
      | nil => intro _; rfl
      | cons p σ ih =>
        intro hp
        obtain ⟨a, b⟩ := p
        simp only [sg]
        cases hb : Nat.beq a k with
        | true =>
          have e := Nat.eq_of_beq_eq_true hb
          have h1 := hp (a, b) (by simp)
          simp only [e, hk] at h1
          cases h1
        | false => exact ih fun p hp' => hp p (by simp [hp'])
    exact this σ c1
  · show (memB dd' k || parK k) = true
    rw [hk]; simp
  · obtain ⟨h1, h2⟩ := hh.spec k o ho
    refine ⟨h1, ?_⟩
    have := c3 _ h2
    simp only [keysIn, List.all_cons, List.all_nil, Bool.and_true] at this
    exact this.1
  · obtain ⟨_, g1⟩ := hh.spec k o h1
    obtain ⟨_, g2⟩ := hh.spec k' o' h2
    have := nodup_inj (f := fun p : Nat × Option Obj => sg σ p.1) c5 _ g1 _ g2 e
    injection this with this
    exact hne this
  · have : ∀ l : List (Nat × AV), (∀ p ∈ l, keysIn dd' p.2.keys = true) → ∀ i, ∀ k ∈ (look l i).keys, (memB dd' k || parK k) = true := by
      intro l
      induction l with
      | nil => intro _ i k hk; simp [look, AV.keys] at hk
      | cons p l ih =>
        intro hp i k hk
        obtain ⟨j, v⟩ := p
        simp only [look] at hk
        cases hb : Nat.beq j i with
        | true =>
          rw [hb] at hk
          have := hp (j, v) (by simp)
          simp only [keysIn, List.all_eq_true] at this
          exact this k hk
        | false => rw [hb] at hk; exact ih (fun p hp' => hp p (by simp [hp'])) i k hk
    exact this t' c2 i k hk
  · obtain ⟨_, g1⟩ := hh.spec x o ho
    have := (c3 _ g1).2
    simp only [keysIn, List.all_eq_true] at this
    exact this k hk

/-! ### Ends -/
theorem aft_nil {h : Nat → Option Obj} : ∀ (ds : List DV) (i : Nat), ds.all noMutV = true → AftVs h i ds
  | [], _, _ => trivial
  | d :: ds, i, hm => by
    simp only [List.all_cons, Bool.and_eq_true] at hm
    refine ⟨?_, aft_nil ds (i + 1) hm.2⟩
    have cs : ∀ (l : List DC) (k : Nat), l.all noMutC = true → AftCs h k l := by
      intro l
      induction l with
      | nil => intro k _; trivial
      | cons d l ih =>
        intro k hl
        simp only [List.all_cons, Bool.and_eq_true] at hl
        refine ⟨?_, ih (k + 1) hl.2⟩
        cases d <;> first | trivial | cases hl.1
    cases d with
    | one d => cases d <;> first | trivial | cases hm.1
    | agg l => exact cs l _ hm.1
    | mp => cases hm.1
    | _ => trivial
theorem e_ret {T : Tab} {rs : List ResultVar} {ds : List DV} {dv : DV} {S : Fs} {vs : List (Bool × List DC)} {ks : List Nat} (ho : OutVs T S rs vs ks) (hd : toDV vs = dv) (hk : keysOk.nodupB ks = true) (hm : ds.all noMutV = true) : EndS T rs ds dv S :=
  ⟨vs, ks, ho, hd, hk, .inr hm, aft_nil ds 0 hm⟩
theorem e_mut {T : Tab} {rs : List ResultVar} {ds : List DV} {dv : DV} {S : Fs} {vs : List (Bool × List DC)} (ho : OutVs T S rs vs []) (hd : toDV vs = dv) (ha : AftVs S.h 0 ds) : EndS T rs ds dv S :=
  ⟨vs, [], ho, hd, rfl, .inl rfl, ha⟩
theorem W.ok {P : Program} {T : Tab} {f : FuncId} {fn : Func} {c : Code} {ds : List DV} {dv : DV} {n : Nat} {rs : List ResultVar} (hT : TabOK P T) (hfn : P.funcs[f]? = some fn) (hname : (fn.name == "runtime.NumGoroutine") = false) (hb : fn.body = some c) (hn : fn.ntmps = n) (hrs : fn.results.toList = rs)
    (hok : (ds.all fun d => okV d && Nat.ble (parN d) 100) = true) (hlen : Nat.ble ds.length 50 = true) (hln : Nat.ble ds.length n = true) (h : W P c (initS n ds) (EndQ T rs ds dv)) : OK P f ds dv := OK.intro hT hfn hname hb hn hrs hok hlen hln h.wp
end Go.AM
/- The abstract machine AM, part 19: a function's first state, written out. -/
set_option linter.unusedVariables false
set_option linter.unusedSimpArgs false
namespace Go.AM
open Go.RowKit

def keyT : List (List Nat) := [[5000, 5001, 5002, 5003, 5004, 5005, 5006, 5007, 5008, 5009, 5010, 5011], [5100, 5101, 5102, 5103, 5104, 5105, 5106, 5107, 5108, 5109, 5110, 5111], [5200, 5201, 5202, 5203, 5204, 5205, 5206, 5207, 5208, 5209, 5210, 5211], [5300, 5301, 5302, 5303, 5304, 5305, 5306, 5307, 5308, 5309, 5310, 5311],
  [5400, 5401, 5402, 5403, 5404, 5405, 5406, 5407, 5408, 5409, 5410, 5411], [5500, 5501, 5502, 5503, 5504, 5505, 5506, 5507, 5508, 5509, 5510, 5511], [5600, 5601, 5602, 5603, 5604, 5605, 5606, 5607, 5608, 5609, 5610, 5611], [5700, 5701, 5702, 5703, 5704, 5705, 5706, 5707, 5708, 5709, 5710, 5711]]
def upFrom : Nat → List Nat → Prop
  | _, [] => True
  | k, x :: l => x = k ∧ upFrom (k + 1) l
def upRows : Nat → List (List Nat) → Prop
  | _, [] => True
  | i, r :: l => upFrom (5000 + 100 * i) r ∧ upRows (i + 1) l
theorem keyT_up : upRows 0 keyT := by simp [keyT, upRows, upFrom]
theorem upRows_nth : ∀ {l : List (List Nat)} {i j : Nat} {r : List Nat}, upRows i l → nthO l j = some r → upFrom (5000 + 100 * (i + j)) r
  | [], _, _, _, _, h => by simp [nthO] at h
  | x :: l, i, 0, r, hu, h => by simp [nthO] at h; subst h; exact hu.1
  | x :: l, i, j + 1, r, hu, h => by
    simp only [nthO] at h
    rw [show Nat.beq (j + 1) 0 = false from rfl] at h
    have := upRows_nth hu.2 (j := j) (by simpa using h)
    rwa [show i + 1 + j = i + (j + 1) by omega] at this

abbrev HL := List (Nat × Option Obj)
def pcK {β : Type} : List Nat → List DC → List Sc → HL → (List Nat → List Sc → HL → Option β) → Option β
  | ks, [], ss, h, c => revK ss [] fun ss => c ks ss h
  | _ :: ks, .v x :: ds, ss, h, c => pcK ks ds (.c x :: ss) h c
  | k :: ks, .sl ty fks rows :: ds, ss, h, c => pcK ks ds (.r k :: ss) ((k, some (.ro fks rows)) :: h) c
  | k :: ks, .ss ty l :: ds, ss, h, c => pcK ks ds (.r k :: ss) ((k, some (.sro l)) :: h) c
  | k :: ks, .mu ty fks rows r' :: ds, ss, h, c => pcK ks ds (.r k :: ss) ((k, some (.vec ty fks rows)) :: h) c
  | [], _ :: _, _, _, _ => none
def ppK {β : Type} : List Nat → List (List DC) → List Sc → HL → (List Sc → HL → Option β) → Option β
  | ks, [], ss, h, c => revK ss [] fun ss => c ss h
  | ks, ds :: dss, ss, h, c => pcK ks ds [] h fun ks cs h => match ks with
    | k :: ks => ppK ks dss (.r k :: ss) ((k, some (.rbox cs)) :: h) c
    | [] => none
def pvK {β : Type} (ks : List Nat) (d : DV) (h : HL) (c : AV → HL → Option β) : Option β := match d with
  | .one d => pcK ks [d] [] h fun _ ss h => match ss with | [s] => c (.one s) h | _ => none
  | .agg ds => pcK ks ds [] h fun _ ss h => c (.agg ss) h
  | .ptr ds => pcK ks ds [] h fun ks ss h => match ks with | k :: _ => c (.one (.r k)) ((k, some (.rbox ss)) :: h) | [] => none
  | .mp ty ds _ => pcK ks ds [] h fun ks ss h => match ks with | k :: _ => c (.one (.r k)) ((k, some (.box ty ss)) :: h) | [] => none
  | .fn f caps => ppK ks caps [] h fun ss h => c (.fn f ss) h
  | .tup _ => c .unk h
def slotT : List Nat := [0, 1, 2, 3, 4, 5, 6, 7]
def pvsK {β : Type} : List Nat → List (List Nat) → List DV → List (Nat × AV) → HL → (List (Nat × AV) → HL → Option β) → Option β
  | _, _, [], t, h, c => revK t [] fun t => c t h
  | i :: is, ks :: kss, d :: ds, t, h, c => pvK ks d h fun v h => pvsK is kss ds ((i, v) :: t) h c
  | _, _, _, _, _, _ => none
def initO (ds : List DV) : Option (List (Nat × AV) × HL) := pvsK slotT keyT ds [] [] fun t h => some (t, h)

theorem parCs_len (ds : List DC) : ∀ k, (parCs k ds).1.length = ds.length := by
  induction ds with
  | nil => intro k; rfl
  | cons d ds ih => intro k; simp [parCs, ih]
theorem pcK_eq {β : Type} {b : β} (c : List Nat → List Sc → HL → Option β) : ∀ (ds : List DC) (ks : List Nat) (k : Nat) (ss : List Sc) (h : HL), upFrom k ks → pcK ks ds ss h c = some b → ∃ ks', upFrom (k + ds.length) ks' ∧ c ks' (ss.reverse ++ (parCs k ds).1) ((parCs k ds).2 ++ h) = some b
  | [], ks, k, ss, h, hu, e => by simp [pcK, revK_eq] at e; exact ⟨ks, hu, by simpa [parCs] using e⟩
  | d :: ds, [], k, ss, h, hu, e => by simp [pcK] at e
  | d :: ds, x :: ks, k, ss, h, hu, e => by
    obtain ⟨rfl, hu⟩ := hu
    have fin : ∀ (s : Sc) (hl : HL), parC x d = (s, hl) → pcK ks ds (s :: ss) (hl ++ h) c = some b → ∃ ks', upFrom (x + (ds.length + 1)) ks' ∧ c ks' (ss.reverse ++ (parCs x (d :: ds)).1) ((parCs x (d :: ds)).2 ++ h) = some b := by
      intro s hl hp he
      obtain ⟨ks', h1, h2⟩ := pcK_eq c ds ks (x + 1) (s :: ss) (hl ++ h) hu he
      refine ⟨ks', by rwa [show x + (ds.length + 1) = x + 1 + ds.length by omega], ?_⟩
      simpa [parCs, hp] using h2
    cases d with
    | v y => exact fin _ [] rfl (by simpa [pcK] using e)
    | sl ty fks rows => exact fin _ [(x, some (.ro fks rows))] rfl (by simpa [pcK] using e)
    | ss ty l => exact fin _ [(x, some (.sro l))] rfl (by simpa [pcK] using e)
    | mu ty fks rows r' => exact fin _ [(x, some (.vec ty fks rows))] rfl (by simpa [pcK] using e)
theorem ppK_eq {β : Type} {b : β} (c : List Sc → HL → Option β) : ∀ (dss : List (List DC)) (ks : List Nat) (k : Nat) (ss : List Sc) (h : HL), upFrom k ks → ppK ks dss ss h c = some b → c (ss.reverse ++ (parPs k dss).1) ((parPs k dss).2 ++ h) = some b
  | [], ks, k, ss, h, hu, e => by simp [ppK, revK_eq] at e; simpa [parPs] using e
  | ds :: dss, ks, k, ss, h, hu, e => by
    simp only [ppK] at e
    obtain ⟨ks', h1, h2⟩ := pcK_eq _ ds ks k [] h hu e
    cases ks' with
    | nil => simp at h2
    | cons x ks' =>
      obtain ⟨rfl, h1⟩ := h1
      have := ppK_eq c dss ks' _ _ _ h1 h2
      simpa [parPs] using this
theorem pvK_eq {β : Type} {b : β} (c : AV → HL → Option β) (d : DV) (ks : List Nat) (k : Nat) (h : HL) (hu : upFrom k ks) (e : pvK ks d h c = some b) : c (parV k d).1 ((parV k d).2 ++ h) = some b := by
  cases d with
  | one d =>
    obtain ⟨ks', h1, h2⟩ := pcK_eq _ [d] ks k [] h hu e
    simpa [parCs, parV] using h2
  | agg ds =>
    obtain ⟨ks', h1, h2⟩ := pcK_eq _ ds ks k [] h hu e
    simpa [parV] using h2
  | ptr ds =>
    obtain ⟨ks', h1, h2⟩ := pcK_eq _ ds ks k [] h hu e
    cases ks' with
    | nil => simp at h2
    | cons x ks' => obtain ⟨rfl, h1⟩ := h1; simpa [parV] using h2
  | mp ty ds xs =>
    obtain ⟨ks', h1, h2⟩ := pcK_eq _ ds ks k [] h hu e
    cases ks' with
    | nil => simp at h2
    | cons x ks' => obtain ⟨rfl, h1⟩ := h1; simpa [parV] using h2
  | fn f caps => simpa [parV] using ppK_eq _ caps ks k [] h hu e
  | tup vs => simpa [pvK, parV] using e
theorem pvsK_eq {β : Type} {b : β} (c : List (Nat × AV) → HL → Option β) : ∀ (ds : List DV) (is : List Nat) (kss : List (List Nat)) (i : Nat) (t : List (Nat × AV)) (h : HL), upFrom i is → upRows i kss → pvsK is kss ds t h c = some b → c (t.reverse ++ (parVs i ds).1) ((parVs i ds).2 ++ h) = some b
  | [], is, kss, i, t, h, hi, hk, e => by simp [pvsK, revK_eq] at e; simpa [parVs] using e
  | d :: ds, [], _, i, t, h, hi, hk, e => by simp [pvsK] at e
  | d :: ds, _ :: _, [], i, t, h, hi, hk, e => by simp [pvsK] at e
  | d :: ds, x :: is, ks :: kss, i, t, h, hi, hk, e => by
    obtain ⟨rfl, hi⟩ := hi
    simp only [pvsK] at e
    have h1 := pvK_eq _ d ks _ h hk.1 e
    have h2 := pvsK_eq c ds is kss _ _ _ hi hk.2 h1
    simpa [parVs] using h2
theorem initO_eq {ds : List DV} {t : List (Nat × AV)} {h : HL} (e : initO ds = some (t, h)) (n : Nat) : initS n ds = mk n t h [] := by
  have := pvsK_eq (fun t h => some (t, h)) ds slotT keyT 0 [] [] (by simp [slotT, upFrom]) keyT_up e
  simp at this
  unfold initS
  rw [this.1, this.2]
/-- A function's contract: its body walks from its first state to an end. -/
theorem W.fn {P : Program} {T : Tab} {f : FuncId} {fn : Func} {c : Code} {ds : List DV} {dv : DV} (n : Nat) (rs : List ResultVar) {t : List (Nat × AV)} {h : HL} (hT : TabOK P T) (hfn : P.funcs[f]? = some fn) (hname : (fn.name == "runtime.NumGoroutine") = false) (hb : fn.body = some c) (hn : Nat.beq fn.ntmps n = true) (hrs : fn.results.toList = rs)
    (hok : (ds.all fun d => okV d && Nat.ble (parN d) 100) = true) (hlen : Nat.ble ds.length 50 = true) (hln : Nat.ble ds.length n = true) (hi : initO ds = some (t, h)) (H : W P c (AM.mk n t h []) (EndQ T rs ds dv)) : OK P f ds dv :=
  W.ok hT hfn hname hb (Nat.eq_of_beq_eq_true hn) hrs hok hlen hln (by rw [initO_eq hi]; exact H)

def addL : Nat → Nat → Option Nat
  | 0, b => some b
  | a + 1, b => some (a + 1 + b)
theorem addL_eq {a b g : Nat} (h : addL a b = some g) : a + b = g := by
  cases a <;> simp [addL] at h <;> omega
section
variable {P : Program} {T : Tab} {draw : Bool} {all rest : List Oper} {lg : FPs} {n : Nat} {t : List (Nat × AV)} {h : List (Nat × Option Obj)} {dd : List Nat} {K : Fs → Prop}
variable {d : Nat} {ty : TypeId} {pos : String} {af : Array Edge} {gd : Option (Nat × Bool)}
theorem v_fa {t1 : TypeId} {x : Operand} {i k r z f g off sz : Nat} (hw : wantO t all gd = some true) (hd : Nat.blt d n = true) [hTI : TabC P T] (ht : offO T t1 i = some (off, sz)) (hz : Nat.blt 0 sz = true) (hx : evO t x = some (.one (.p k r z f))) (hg : addL f off = some g)
    (H : VO P draw all rest (⟨[], [], [], []⟩ :: lg) (mk n ((d, .one (.p k r z g)) :: t) h dd) K) : VO P draw all (⟨some d, .fieldAddr t1 x i, ty, pos, af, gd⟩ :: rest) lg (mk n t h dd) K :=
  v_fap hw hd ht hz hx (addL_eq hg) H
end
end Go.AM
/- The abstract machine AM, part 20: steps between regions. -/
set_option linter.unusedVariables false
set_option linter.unusedSimpArgs false
namespace Go.AM
open Go.RowKit
section
variable {P : Program} {S : Fs} {Q : Exit → Fs → Prop} {K : Fs → Prop} {y : Code} {l : List Oper} {id : Nat}
theorem w_rs (h : VO P false l l [] S (fun S' => W P y S' Q)) : W P (.seq (.region id ⟨l⟩ false) y) S Q := W.sq (W.reg h)
theorem w_ds (h : VO P true l l [] S (fun S' => W P y S' Q)) (hm : P.follows .mixedOrders = true) (hB : Region.lexB .any ⟨l⟩ = true) : W P (.seq (.region id ⟨l⟩ true) y) S Q := W.sq (W.drw hm hB h)
theorem w_r (h : VO P false l l [] S (Q .normal)) : W P (.region id ⟨l⟩ false) S Q := W.reg h
theorem w_d (h : VO P true l l [] S (Q .normal)) (hm : P.follows .mixedOrders = true) (hB : Region.lexB .any ⟨l⟩ = true) : W P (.region id ⟨l⟩ true) S Q := W.drw hm hB h
theorem w_sks (h : W P y S Q) : W P (.seq .skip y) S Q := W.sq (W.skp h)
theorem w_blk {c : Code} (h : W P c S (blkQ id Q)) : W P (.block id c) S Q := W.blk h
theorem q_tn (h : K S) : thenQ K Q .normal S := h
theorem q_te (h : Q (.exit id) S) : thenQ K Q (.exit id) S := h
theorem q_tr (h : Q .ret S) : thenQ K Q .ret S := h
theorem q_bn (h : Q .normal S) : blkQ id Q .normal S := h
theorem q_br (h : Q .ret S) : blkQ id Q .ret S := h
theorem q_be {id' : Nat} (he : Nat.beq id' id = true) (h : Q .normal S) : blkQ id Q (.exit id') S := by simp only [blkQ, he]; exact h
theorem q_bx {id' : Nat} (he : Nat.beq id' id = false) (h : Q (.exit id') S) : blkQ id Q (.exit id') S := by simp only [blkQ, he]; exact h
variable {T : Tab} {rs : List ResultVar} {ds : List DV} {dv : DV}
theorem q_en (h : EndS T rs ds dv S) : EndQ T rs ds dv .normal S := h
theorem q_er (h : EndS T rs ds dv S) : EndQ T rs ds dv .ret S := h
theorem vo_nil {draw : Bool} {all : List Oper} {lg : FPs} (hfp : (!draw || fpOk .any all.toArray (fpAt lg.reverse)) = true) (hK : K S) : VO P draw all [] lg S K := .nil hfp hK
theorem vo_nil0 {all : List Oper} {lg : FPs} (hK : K S) : VO P false all [] lg S K := .nil rfl hK
end
end Go.AM
/- The abstract machine AM, part 21: ends of a function. -/
set_option linter.unusedVariables false
set_option linter.unusedSimpArgs false
namespace Go.AM
open Go.RowKit
section
variable {T : Tab} {n i : Nat} {t : List (Nat × AV)} {h : List (Nat × Option Obj)} {dd : List Nat} {ds : List DV}
theorem e_bool {g g' : Bool} (hs : lookO t i = some (.one (.c (.bool g)))) (hm : ds.all noMutV = true) (e : g = g') : EndS T [.tmp i] ds (.one (.v (.bool g'))) (mk n t h dd) :=
  e_ret (vs := [(false, [.v (.bool g)])]) (.cons (.tmp (lookO_eq hs)) (.one .c) .nil) (by rw [e]; rfl) rfl hm
theorem e_int {k : IntKind} {a b : Int} (hs : lookO t i = some (.one (.c (.int k a)))) (hm : ds.all noMutV = true) (e : a = b) : EndS T [.tmp i] ds (.one (.v (.int k b))) (mk n t h dd) :=
  e_ret (vs := [(false, [.v (.int k a)])]) (.cons (.tmp (lookO_eq hs)) (.one .c) .nil) (by rw [e]; rfl) rfl hm
theorem e_vec {k : Nat} {ty : TypeId} {fks : List FK} {rows rows' : List (List Int)} (hs : lookO t i = some (.one (.r k))) (ho : hO h k = some (.vec ty fks rows)) (hm : ds.all noMutV = true) (e : rows = rows') : EndS T [.tmp i] ds (.one (.sl ty fks rows')) (mk n t h dd) :=
  e_ret (vs := [(false, [.sl ty fks rows])]) (.cons (.tmp (lookO_eq hs)) (.one (.r (hO_eq ho))) .nil) (by rw [e]; rfl) rfl hm
theorem e_nil {ty : TypeId} {fks : List FK} {rows' : List (List Int)} (hs : lookO t i = some (.one (.c (.slice none 0 0)))) (hm : ds.all noMutV = true) (e : rows' = []) : EndS T [.tmp i] ds (.one (.sl ty fks rows')) (mk n t h dd) :=
  e_ret (vs := [(false, [.sl ty fks []])]) (.cons (.tmp (lookO_eq hs)) (.one .nil) .nil) (by rw [e]; rfl) rfl hm
end
/-! ### What a Bool says -/
inductive Bp : Bool → Prop → Prop where
  | dec {p : Prop} {i : Decidable p} : Bp (@decide p i) p
  | eq {a b : Int} : Bp (a == b) (a = b)
  | ne {a b : Int} : Bp (a != b) (a ≠ b)
  | tt : Bp true True
  | ff : Bp false False
  | not {g : Bool} {p : Prop} (h : Bp g p) : Bp (!g) (¬ p)
  | and {g g' : Bool} {p p' : Prop} (h : Bp g p) (h' : Bp g' p') : Bp (g && g') (p ∧ p')
  | or {g g' : Bool} {p p' : Prop} (h : Bp g p) (h' : Bp g' p') : Bp (g || g') (p ∨ p')
  | var {g : Bool} : Bp g (g = true)
theorem Bp.iff {g : Bool} {p : Prop} (h : Bp g p) : g = true ↔ p := by
  induction h with
  | dec => simp
  | eq => simp
  | ne => simp
  | tt => simp
  | ff => simp
  | not h ih => simp [← ih]
  | and h h' ih ih' => simp [← ih, ← ih']
  | or h h' ih ih' => simp [← ih, ← ih']
  | var => simp
theorem Bp.pos {g : Bool} {p : Prop} (h : Bp g p) (e : g = true) : p := h.iff.1 e
theorem Bp.neg {g : Bool} {p : Prop} (h : Bp g p) (e : g = false) : ¬ p := fun hp => by rw [h.iff.2 hp] at e; cases e
class BpC (g : Bool) (p : outParam Prop) : Prop where
  ok : Bp g p
instance (priority := low) {g : Bool} : BpC g (g = true) := ⟨.var⟩
instance {p : Prop} {i : Decidable p} : BpC (@decide p i) p := ⟨.dec⟩
instance {a b : Int} : BpC (a == b) (a = b) := ⟨.eq⟩
instance {g : Bool} {p : Prop} [h : BpC g p] : BpC (!g) (¬ p) := ⟨.not h.ok⟩
instance {a b : Int} : BpC (a != b) (a ≠ b) := ⟨.ne⟩
instance {g g' : Bool} {p p' : Prop} [h : BpC g p] [h' : BpC g' p'] : BpC (g && g') (p ∧ p') := ⟨.and h.ok h'.ok⟩
instance {g g' : Bool} {p p' : Prop} [h : BpC g p] [h' : BpC g' p'] : BpC (g || g') (p ∨ p') := ⟨.or h.ok h'.ok⟩
instance : BpC true True := ⟨.tt⟩
instance : BpC false False := ⟨.ff⟩
theorem lens {α : Type} : (∀ (l : List α) (i : Nat) (a : α), (l.set i a).length = l.length) ∧ (∀ a b : List α, (a ++ b).length = a.length + b.length) ∧ (∀ (n : Nat) (a : α), (List.replicate n a).length = n) ∧ (∀ (l : List α) (i : Nat), (l.take i).length = min i l.length) ∧ (∀ (l : List α) (i : Nat), (l.drop i).length = l.length - i) ∧ (∀ (a : α) (l : List α), (a :: l).length = l.length + 1) ∧ ([] : List α).length = 0 := by
  refine ⟨?_, ?_, ?_, ?_, ?_, ?_, ?_⟩ <;> intros <;> simp
section
variable {P : Program} {T : Tab} {draw : Bool} {all rest : List Oper} {lg : FPs} {n : Nat} {t : List (Nat × AV)} {h : List (Nat × Option Obj)} {dd : List Nat} {K : Fs → Prop}
variable {d : Nat} {ty : TypeId} {pos : String} {af : Array Edge} {gd : Option (Nat × Bool)} {g : Bool} {p : Prop} {od : Option Nat} {o : Op} {j s c : Nat}
theorem W.cn {Q : Exit → Fs → Prop} {c : Operand} {x y : Code} (hc : evO t c = some (.one (.c (.bool g)))) (hp : BpC g p) (h1 : p → W P x (AM.mk n t h dd) Q) (h2 : ¬ p → W P y (AM.mk n t h dd) Q) : W P (.cond c x y) (AM.mk n t h dd) Q :=
  W.cnd hc (fun e => h1 (hp.ok.pos e)) (fun e => h2 (hp.ok.neg e))
theorem W.cT {Q : Exit → Fs → Prop} {c : Operand} {x y : Code} (hc : evO t c = some (.one (.c (.bool true)))) (h1 : W P x (AM.mk n t h dd) Q) : W P (.cond c x y) (AM.mk n t h dd) Q := W.cnd hc (fun _ => h1) (fun e => by cases e)
theorem W.cF {Q : Exit → Fs → Prop} {c : Operand} {x y : Code} (hc : evO t c = some (.one (.c (.bool false)))) (h1 : W P y (AM.mk n t h dd) Q) : W P (.cond c x y) (AM.mk n t h dd) Q := W.cnd hc (fun e => by cases e) (fun _ => h1)
theorem v_ift (hj : gslot all j = some s) (hg : lookO t s = some (.one (.c (.bool g)))) (hp : BpC g p)
    (H1 : p → VO P draw all (⟨od, o, ty, pos, af, some (j, true)⟩ :: rest) lg (mk n ((s, .one (.c (.bool true))) :: t) h dd) K)
    (H2 : ¬ p → VO P draw all (⟨od, o, ty, pos, af, some (j, true)⟩ :: rest) lg (mk n ((s, .one (.c (.bool false))) :: t) h dd) K) : VO P draw all (⟨od, o, ty, pos, af, some (j, true)⟩ :: rest) lg (mk n t h dd) K :=
  v_if hj hg (fun e => H1 (hp.ok.pos e)) (fun e => H2 (hp.ok.neg e))
theorem v_iff (hj : gslot all j = some s) (hg : lookO t s = some (.one (.c (.bool g)))) (hp : BpC g p)
    (H1 : p → VO P draw all (⟨od, o, ty, pos, af, some (j, false)⟩ :: rest) lg (mk n ((s, .one (.c (.bool true))) :: t) h dd) K)
    (H2 : ¬ p → VO P draw all (⟨od, o, ty, pos, af, some (j, false)⟩ :: rest) lg (mk n ((s, .one (.c (.bool false))) :: t) h dd) K) : VO P draw all (⟨od, o, ty, pos, af, some (j, false)⟩ :: rest) lg (mk n t h dd) K :=
  v_if hj hg (fun e => H2 (hp.ok.neg e)) (fun e => H1 (hp.ok.pos (by simpa using e)))
theorem v_pif {x y : Operand} (hg : lookO t c = some (.one (.c (.bool g)))) (hp : BpC g p)
    (H1 : p → VO P draw all (⟨od, .pick (.tmp c) x y, ty, pos, af, gd⟩ :: rest) lg (mk n ((c, .one (.c (.bool true))) :: t) h dd) K)
    (H2 : ¬ p → VO P draw all (⟨od, .pick (.tmp c) x y, ty, pos, af, gd⟩ :: rest) lg (mk n ((c, .one (.c (.bool false))) :: t) h dd) K) : VO P draw all (⟨od, .pick (.tmp c) x y, ty, pos, af, gd⟩ :: rest) lg (mk n t h dd) K :=
  v_pkif hg (fun e => H1 (hp.ok.pos e)) (fun e => H2 (hp.ok.neg e))
end
/-- Going round: the next state is told by what is there. -/
theorem W.round {X : Type} {St : X → Fs} {I : X → Prop} {μ : X → Nat} {x : X} {S : Fs} (x' : X) (hw : Wk S (St x')) (hI : I x') (hm : μ x' < μ x) : ∃ x', I x' ∧ μ x' < μ x ∧ Wk S (St x') := ⟨x', hI, hm, hw⟩
end Go.AM
/- The abstract machine AM, part 22: the first elements of an own row, with the room that is told. -/
set_option linter.unusedVariables false
set_option linter.unusedSimpArgs false
namespace Go.AM
open Go.RowKit

theorem run_pre {P : Program} {T : Tab} (hT : TabOK P T) (t e : TypeId) (ti ei : TY) (w : World) (A : Option Addr) (n c h m : Nat) (hi mx : Option Value) (ht : tlook T t = some ti) (hu : ti.u = .slice e) (he : tlook T e = some ei)
    (hhi : (hi = none ∧ mx = none ∧ h = n) ∨ ∃ k, hi = some (.int k (h : Int))) (hmx : (mx = none ∧ m = c) ∨ ∃ k, mx = some (.int k (m : Int))) (hhm : h ≤ m) (hmc : m ≤ c) :
    (Instr.sliceAt t (.slice A n c) none hi mx).run P w = .ok (.slice (if m = 0 then A else A.map (·.add (0 * ei.zs.length))) h m) w := by
  have hue := run_underlying (hT _ _ ht).und w
  rw [hu] at hue
  have hb : (Instr.sliceBounds true n c none hi mx).run P w = .ok (0, h, m) w := by
    rcases hhi with ⟨rfl, rfl, rfl⟩ | ⟨k, rfl⟩ <;> rcases hmx with ⟨h1, rfl⟩ | ⟨k2, h1⟩ <;> first | (cases h1; done) | skip
    all_goals first | subst h1 | skip
    all_goals simp [Instr.sliceBounds, Instr.sliceBound, asIntOf, hhm, hmc]
  simp [Instr.sliceAt, hue, Instr.slice, hb, (hT _ _ he).run_size]

section
variable {P : Program} {T : Tab} {S : Fs} {d : Nat} {ty : TypeId} {pos : String} {af : Array Edge} {gd : Option (Nat × Bool)}
theorem snd_pre (hT : TabOK P T) (t e : TypeId) (ti ei : TY) (x : Operand) (hi mx : Option Operand) (k : Nat) (fks : List FK) (rows : List (List Int)) (h m : Nat) (ht : tlook T t = some ti) (hu : ti.u = .slice e) (he : tlook T e = some ei)
    (hx : evA S.t x = .one (.r k)) (hk : S.h k = some (.vec e fks rows))
    (hhi : (hi = none ∧ mx = none ∧ h = rows.length) ∨ ∃ y ik, hi = some y ∧ evA S.t y = .one (.c (.int ik (h : Int)))) (hmx : mx = none ∨ ∃ y ik, mx = some y ∧ evA S.t y = .one (.c (.int ik (m : Int)))) (hhm : mx ≠ none → h ≤ m) (hh : h ≤ rows.length) (hm : mx ≠ none → m ≤ rows.length) (hd : d < S.n) (hdk : S.d d = false) (hkd : k ≠ d) :
    Snd P ⟨some d, .slice t x none hi mx, ty, pos, af, gd⟩ S ⟨.one (.r d), [(d, some (.vec e fks (rows.take h))), (k, none)], [d]⟩ := by
  intro base B w0 ρ a w K Q hR hK
  have hρ := hR.ev_r hx
  obtain ⟨hw, hown⟩ := hR.obj_at hk hρ
  have hone : (a.eval x).oneCell' = true := by
    obtain ⟨v, h1, h2, _⟩ := hR.obj k _ hk
    rw [hρ] at h1
    injection h1 with h1
    rw [h1]; exact h2
  have hfl := flat_length hw
  -- the value, and that it is the call's own
  have key : ∃ A c, a.eval x = .slice A rows.length c ∧ rows.length ≤ c ∧ ∀ h m, h ≤ rows.length → h ≤ m → m ≤ c → ∃ v', (Value.slice (if m = 0 then A else A.map (·.add (0 * ei.zs.length))) h m) = v' ∧ Own w e fks.length v' h (flat fks (rows.take h)) ∧ v'.oneCell' = true ∧ (∀ b, blk v' = some b → blk (a.eval x) = some b) := by
    have hlen : ∀ h, h ≤ rows.length → (flat fks (rows.take h)).length = h * fks.length := fun h hh => by rw [flat_length (hw.take h), List.length_take, Nat.min_eq_left hh]
    rcases hown.2 with ⟨h1, h2⟩ | ⟨g, cap, cur, h1, h2, h3, h4, h5, h6⟩
    · refine ⟨none, 0, by rw [h1, h2], by omega, fun h m hh hhm hm => ⟨_, rfl, ⟨hlen h hh, .inl ⟨?_, by omega⟩⟩, rfl, fun b hb => ?_⟩⟩
      · have hm0 : m = 0 := by omega
        have hh0 : h = 0 := by omega
        subst hm0 hh0
        rfl
      · simp [blk, refA] at hb
    · refine ⟨some ⟨g, 0, none⟩, cap, h1, h3, fun h m hh hhm hm => ⟨.slice (some ⟨g, 0, none⟩) h m, ?_, ⟨hlen h hh, .inr ⟨g, m, cur, rfl, h2, hhm, by omega, ?_, ?_⟩⟩, rfl, fun b hb => by rw [h1]; simpa [blk, refA] using hb⟩⟩
      · have : (⟨g, 0, none⟩ : Addr).add (0 * ei.zs.length) = ⟨g, 0, none⟩ := by rw [Nat.zero_mul, add_zero']
        simp only [Option.map_some, this, ite_self]
      · exact Nat.le_trans (Nat.mul_le_mul_right _ hm) h5
      · have : h * fks.length ≤ rows.length * fks.length := Nat.mul_le_mul_right _ hh
        rw [flat_take _ hw, ← h6, List.take_take, Nat.min_eq_left this]
  obtain ⟨A, c, hv, hnc, hown'⟩ := key
  obtain ⟨m', hm', hmx', hle1, hle2⟩ : ∃ m', (mx = none → m' = c) ∧ (mx ≠ none → m' = m) ∧ h ≤ m' ∧ m' ≤ c := by
    by_cases e : mx = none
    · exact ⟨c, fun _ => rfl, fun h => absurd e h, by omega, Nat.le_refl _⟩
    · exact ⟨m, fun h => absurd h e, fun _ => rfl, hhm e, by have := hm e; omega⟩
  obtain ⟨v', hv', hown'', hone', hblk'⟩ := hown' h m' hh hle1 hle2
  have hrun := run_pre hT t e ti ei w A rows.length c h m' (hi.map a.eval) (mx.map a.eval) ht hu he
    (by rcases hhi with ⟨rfl, rfl, rfl⟩ | ⟨y, ik, rfl, hy⟩
        · exact .inl ⟨rfl, rfl, rfl⟩
        · exact .inr ⟨ik, by simp [hR.ev_c hy]⟩)
    (by rcases hmx with rfl | ⟨y, ik, rfl, hy⟩
        · exact .inl ⟨rfl, hm' rfl⟩
        · exact .inr ⟨ik, by rw [hmx' (by simp)]; simp [hR.ev_c hy]⟩) hle1 hle2
  have hrun' : (execOp a.eval ⟨some d, .slice t x none hi mx, ty, pos, af, gd⟩).run P w = .ok (.value v') w := by
    simp only [execOp, hv, Sem.run_bind]
    simp only [Option.map_none, hrun, Result.andThen_ok, Sem.run_pure, hv']
  have hR1 := hR.kill k
  obtain ⟨hR3, e3, hnone⟩ := hR1.name d v' hdk
  have hput := ρ.put_at d v' []
  have hb2 : ∀ b, (ρ.put d v' []).has d b → ρ.has k b := fun b hb' => by
    rw [Rho.put_has] at hb'
    exact Rho.has_blk hρ (hblk' b (by simpa using hb'))
  have hR4 := hR3.add d v' (.vec e fks (rows.take h)) hput.1 hone' ⟨hw.take h, by rw [List.length_take, Nat.min_eq_left hh]; exact hown''⟩ (fun b hb => hR.lt hk (hb2 b hb))
    (fun _ b hb => hR.mine k _ b hk rfl (hb2 b hb)) (fun hw => by cases hw)
    (fun k' o' b hne g1 _ hb hb1 => by
      have hb1 := (ρ.put_has_ne v' [] hne).1 hb1
      by_cases hkk : k' = k
      · simp [hkk] at g1
      · exact hR.apart k k' _ o' b (Ne.symm hkk) hk (by simpa [hkk] using g1) rfl (hb2 b hb) hb1)
  refine upon_of hrun' (hK _ v' w e3 ?_)
  refine cast ?_ (hR4.put (some d) (v := .one (.r d)) (u := v') ⟨hput.1, hone'⟩ (lt_some hd))
  simp [Fs.apply, updF]
end

section
variable {P : Program} {T : Tab} {draw : Bool} {all rest : List Oper} {lg : FPs} {n : Nat} {t : List (Nat × AV)} {h : List (Nat × Option Obj)} {dd : List Nat} {K : Fs → Prop}
variable {d : Nat} {ty : TypeId} {pos : String} {af : Array Edge} {gd : Option (Nat × Bool)}
/-- x[:a:b] of an own row. -/
theorem v_tgt {t1 e : TypeId} {x y z : Operand} {k : Nat} {a b : Int} {fks : List FK} {rows : List (List Int)} (hw : wantO t all gd = some true) (hd : Nat.blt d n = true) (hf : (memB dd d || parK d) = false) [hTI : TabC P T] (hu : elemO T t1 = some e) (he1 : (tlook T e).isSome = true) (hx : evO t x = some (.one (.r k))) (hk1 : hO h k = some (.vec e fks rows)) (hy : intO t y = some a) (hz : intO t z = some b) (h0 : 0 ≤ a) (hab : a ≤ b) (hb : b ≤ (rows.length : Int)) (hkd : Nat.beq k d = false)
    (H : VO P draw all rest (⟨[k], [d, k], [], []⟩ :: lg) (mk n ((d, .one (.r d)) :: t) ((d, some (.vec e fks (rows.take a.toNat))) :: (k, none) :: h) (d :: dd)) K) : VO P draw all (⟨some d, .slice t1 x none (some y) (some z), ty, pos, af, gd⟩ :: rest) lg (mk n t h dd) K := by
  refine VO.new (R := [k]) (ups := [(k, none)]) hw hf (fun S' hn he hh hk => ?_) H
  obtain ⟨ti, h1, h2⟩ := elemO_eq hu
  obtain ⟨ei, h3⟩ := Option.isSome_iff_exists.1 he1
  obtain ⟨ik, hy⟩ := intO_eq hy
  obtain ⟨ik2, hz⟩ := intO_eq hz
  refine snd_pre hTI.ok t1 e ti ei x (some y) (some z) k fks rows a.toNat b.toNat h1 h2 h3 ?_ (by rw [hh k (by simp), hO_eq hk1]) (.inr ⟨y, ik, rfl, ?_⟩) (.inr ⟨z, ik2, rfl, ?_⟩) (fun _ => by omega) (by omega) (fun _ => by omega) (by rw [hn]; simpa using hd) hk (Nat.ne_of_beq_eq_false hkd)
  · rw [he x (by simp [Op.operands]), evO_eq hx]
  · rw [he y (by simp [Op.operands]), evO_eq hy, Int.toNat_of_nonneg h0]
  · rw [he z (by simp [Op.operands]), evO_eq hz, Int.toNat_of_nonneg (by omega)]
/-- x[:a] of an own row that is not wanted any more. -/
theorem v_pre {t1 e : TypeId} {x y : Operand} {k : Nat} {a : Int} {fks : List FK} {rows : List (List Int)} (hw : wantO t all gd = some true) (hd : Nat.blt d n = true) (hf : (memB dd d || parK d) = false) [hTI : TabC P T] (hu : elemO T t1 = some e) (he1 : (tlook T e).isSome = true) (hx : evO t x = some (.one (.r k))) (hk1 : hO h k = some (.vec e fks rows)) (hy : intO t y = some a) (h0 : 0 ≤ a) (hb : a ≤ (rows.length : Int)) (hkd : Nat.beq k d = false)
    (H : VO P draw all rest (⟨[k], [d, k], [], []⟩ :: lg) (mk n ((d, .one (.r d)) :: t) ((d, some (.vec e fks (rows.take a.toNat))) :: (k, none) :: h) (d :: dd)) K) : VO P draw all (⟨some d, .slice t1 x none (some y) none, ty, pos, af, gd⟩ :: rest) lg (mk n t h dd) K := by
  refine VO.new (R := [k]) (ups := [(k, none)]) hw hf (fun S' hn he hh hk => ?_) H
  obtain ⟨ti, h1, h2⟩ := elemO_eq hu
  obtain ⟨ei, h3⟩ := Option.isSome_iff_exists.1 he1
  obtain ⟨ik, hy⟩ := intO_eq hy
  refine snd_pre hTI.ok t1 e ti ei x (some y) none k fks rows a.toNat 0 h1 h2 h3 ?_ (by rw [hh k (by simp), hO_eq hk1]) (.inr ⟨y, ik, rfl, ?_⟩) (.inl rfl) (fun h => absurd rfl h) (by omega) (fun h => absurd rfl h) (by rw [hn]; simpa using hd) hk (Nat.ne_of_beq_eq_false hkd)
  · rw [he x (by simp [Op.operands]), evO_eq hx]
  · rw [he y (by simp [Op.operands]), evO_eq hy, Int.toNat_of_nonneg h0]
end
end Go.AM
/- The abstract machine AM, part 23: a struct is stored into a row. -/
set_option linter.unusedVariables false
set_option linter.unusedSimpArgs false
namespace Go.AM
open Go.RowKit

theorem flat_setN {fks : List FK} (ns : List Int) (hn : ns.length = fks.length) : ∀ {rows : List (List Int)} (r : Nat), Wf fks rows → r < rows.length → ovr (flat fks rows) (r * fks.length) (cellsOf fks ns) = flat fks (rows.set r ns)
  | [], r, _, h => by simp at h
  | row :: rows, 0, hw, _ => by
    have hl := cellsOf_length fks row (hw row (by simp))
    have hl2 := cellsOf_length fks ns hn
    simp only [Nat.zero_mul, flat, List.set_cons_zero, ovr, List.take_zero, List.nil_append, Nat.zero_add]
    rw [List.drop_append_of_le_length (by omega), List.drop_of_length_le (by omega)]
    simp
  | row :: rows, r + 1, hw, h => by
    have hl := cellsOf_length fks row (hw row (by simp))
    have ih := flat_setN ns hn (rows := rows) r (fun x hx => hw x (by simp [hx])) (by simpa using h)
    simp only [flat, List.set_cons_succ]
    rw [← ih]
    simp only [ovr]
    rw [List.take_append, List.take_of_length_le (by rw [hl, Nat.add_mul]; omega), List.drop_append, List.drop_of_length_le (by rw [hl, Nat.add_mul]; omega), hl]
    rw [show (r + 1) * fks.length - fks.length = r * fks.length by rw [Nat.add_mul]; omega]
    rw [show (r + 1) * fks.length + (cellsOf fks ns).length - fks.length = r * fks.length + (cellsOf fks ns).length by rw [Nat.add_mul]; omega]
    simp
theorem take_ovr {α : Type} (l xs : List α) (f N : Nat) (h : f + xs.length ≤ N) : (ovr l f xs).take N = ovr (l.take N) f xs := by
  simp only [ovr]
  rw [List.take_append, List.take_append, List.take_take, List.take_take, Nat.min_eq_right (by omega : f ≤ N), Nat.min_eq_left (by omega : f ≤ N), List.drop_take]
  by_cases hf : f ≤ l.length
  · have hl : (l.take f).length = f := by simp; omega
    have hl2 : (l.take f ++ xs).length = f + xs.length := by simp; omega
    rw [hl, hl2, List.take_of_length_le (by omega : xs.length ≤ N - f)]
  · have hd : l.drop (f + xs.length) = [] := List.drop_of_length_le (by omega)
    rw [hd, List.take_of_length_le (by simp; omega : xs.length ≤ N - (l.take f).length)]
    simp

theorem Wf.setN {fks : List FK} {rows : List (List Int)} {ns : List Int} (h : Wf fks rows) (r : Nat) (hn : ns.length = fks.length) : Wf fks (rows.set r ns) := by
  intro row hr
  rcases List.mem_or_eq_of_mem_set hr with hr | rfl
  · exact h row hr
  · exact hn

section
variable {P : Program} {T : Tab} {S : Fs} {d : Nat} {ty : TypeId} {pos : String} {af : Array Edge} {gd : Option (Nat × Bool)}
theorem snd_storeRowN (hT : TabOK P T) (t bt : TypeId) (ti : TY) (x y : Operand) (k r sz : Nat) (fks : List FK) (rows : List (List Int)) (cs : List Sc) (ns : List Int) (ht : tlook T t = some ti) (h1z : ti.zs.length = sz) (hx : evA S.t x = .one (.p k r sz 0)) (hk : S.h k = some (.vec bt fks rows)) (hz : fks.length = sz) (hz0 : 0 < sz)
    (hr : r < rows.length) (hy : avCells (evA S.t y) = some cs) (hrow : RowC fks cs ns) :
    Snd P ⟨none, .store t x y, ty, pos, af, gd⟩ S ⟨.unk, [(k, some (.vec bt fks (rows.set r ns)))], []⟩ := by
  intro base B w0 ρ a w K Q hR hK
  subst hz
  obtain ⟨ad, c, h1, h2, h3, h4⟩ := hR.row_addr hx hk rfl hr
  obtain ⟨hw, hl, hown⟩ := hR.obj_at hk h1
  obtain ⟨us, hu, hs⟩ := avCells_rel (hR.eval y) hy
  obtain ⟨rfl, hn⟩ := hrow.rel us hs
  rcases hown with ⟨hh, _⟩ | ⟨g, cap, cur, hv, hg, hnc, hcm, hcs, htk⟩
  · cases hh
  · simp at hv
    obtain ⟨rfl, rfl⟩ := hv
    have hlc := cellsOf_length fks ns hn
    have hin : r * fks.length + fks.length ≤ rows.length * fks.length := by
      have h5 : (r + 1) * fks.length ≤ rows.length * fks.length := Nat.mul_le_mul_right _ hr
      rw [Nat.add_mul] at h5
      omega
    have hin2 : rows.length * fks.length ≤ c * fks.length := Nat.mul_le_mul_right _ hnc
    have hrun := run_storeVar_at (hT _ _ ht) w g (r * fks.length) bt cur.toList (cellsOf fks ns) (a.eval y) (by simpa using hg) hu (by rw [hlc, h1z]) (by simp; omega) (cellsOf_one fks ns)
    have hrun' : (execOp a.eval ⟨none, .store t x y, ty, pos, af, gd⟩).run P w = .ok .skip (w.setRow g (ovr cur.toList (r * fks.length) (cellsOf fks ns)).toArray) := by
      rw [add_mk] at h2
      simp only [Nat.add_zero] at h2
      simp [execOp, h2, Instr.storeAt, Instr.sureAddr, hrun]
    refine upon_skip hrun' (hK ρ _ _ (Ext.refl ρ) ?_)
    have := hR.write (w' := w.setRow g (ovr cur.toList (r * fks.length) (cellsOf fks ns)).toArray) k (.vec bt fks rows) _ g hk rfl h1 rfl (.vec bt fks (rows.set r ns)) rfl rfl rfl rfl (setRow_size' _ _ _) (fun x hx => setRow_other w g x _ hx)
      ⟨hw.setN r hn, by rw [flat_length (hw.setN r hn)], .inr ⟨g, c, _, by simp, setRow_heap w g _ _ _ _ hg, by simpa using hnc, hcm, by
        simp only [List.size_toArray]
        rw [ovr_length (by rw [hlc]; simp; omega)]
        simpa using hcs, by
        rw [List.length_set, List.toList_toArray, take_ovr _ _ _ _ (by rw [hlc]; omega), htk, flat_setN ns hn r hw hr]⟩⟩
    refine cast ?_ (this.put none (v := .unk) (u := undef) trivial (fun i h => by cases h))
    simp [Fs.apply, updF]
end
section
variable {P : Program} {T : Tab} {draw : Bool} {all rest : List Oper} {lg : FPs} {n : Nat} {t : List (Nat × AV)} {h : List (Nat × Option Obj)} {dd : List Nat} {K : Fs → Prop}
variable {d : Nat} {ty : TypeId} {pos : String} {af : Array Edge} {gd : Option (Nat × Bool)}
theorem v_srN {t1 bt : TypeId} {x y : Operand} {k r sz : Nat} {fks : List FK} {rows : List (List Int)} {cs : List Sc} {ns : List Int} (hw : wantO t all gd = some true) [hTI : TabC P T] (hz : szO T t1 = some sz) (hx : evO t x = some (.one (.p k r sz 0))) (hk : hO h k = some (.vec bt fks rows)) (hz2 : fks.length = sz) (hz0 : Nat.blt 0 sz = true) (hy : cellsO (evO t y) = some cs) (hrow : RowC fks cs ns) (hr : r < rows.length)
    (H : VO P draw all rest (⟨[k], [k], [], [k]⟩ :: lg) (mk n t ((k, some (.vec bt fks (rows.set r ns))) :: h) dd) K) : VO P draw all (⟨none, .store t1 x y, ty, pos, af, gd⟩ :: rest) lg (mk n t h dd) K := by
  refine VO.upd (R := [k]) (by rw [hO_eq hk]; simp [shp]) hw (fun S' hn he hh => ?_) H
  obtain ⟨ti, h1, h2⟩ := szO_eq hz
  have ry := he y (by simp [Op.operands])
  exact snd_storeRowN hTI.ok t1 bt ti x y k r sz fks rows cs ns h1 h2 (by rw [he x (by simp [Op.operands]), evO_eq hx]) (by rw [hh k (by simp), hO_eq hk]) hz2 (by simpa using hz0) hr (cellsO_eq hy ry) hrow
end
end Go.AM
/- The abstract machine AM, part 24: more ends. -/
set_option linter.unusedVariables false
set_option linter.unusedSimpArgs false
namespace Go.AM
open Go.RowKit
section
variable {T : Tab} {n i j : Nat} {t : List (Nat × AV)} {h : List (Nat × Option Obj)} {dd : List Nat} {ds : List DV}
theorem e_intM {k : IntKind} {a b : Int} (hs : lookO t i = some (.one (.c (.int k a)))) (ha : AftVs (hlook h) 0 ds) (e : a = b) : EndS T [.tmp i] ds (.one (.v (.int k b))) (mk n t h dd) :=
  ⟨[(false, [.v (.int k a)])], [], .cons (k := []) (ks := []) (.tmp (lookO_eq hs)) (.one .c) .nil, by rw [e]; rfl, rfl, .inl rfl, ha⟩
/-- Nothing is handed back. -/
theorem e_noneM (ha : AftVs (hlook h) 0 ds) : EndS T [] ds (.tup []) (mk n t h dd) :=
  ⟨[], [], .nil, rfl, rfl, .inl rfl, ha⟩
/-- The cells of a result variable, as data; ks: the keys of its rows. -/
def outK {β : Type} (h : List (Nat × Option Obj)) : List Sc → List DC → List Nat → (List DC → List Nat → Option β) → Option β
  | [], ds, ks, c => revK ds [] fun ds => revK ks [] fun ks => c ds ks
  | .c x :: ss, ds, ks, c => outK h ss (.v x :: ds) ks c
  | .r k :: ss, ds, ks, c => match hO h k with
    | some (.vec ty fks rows) => outK h ss (.sl ty fks rows :: ds) (k :: ks) c
    | some (.svec ty l) => outK h ss (.ss ty l :: ds) (k :: ks) c
    | _ => none
  | _, _, _, _ => none
theorem outK_eq {β : Type} {b : β} (c : List DC → List Nat → Option β) : ∀ (ss : List Sc) (ds : List DC) (ks : List Nat), outK h ss ds ks c = some b → ∃ ds' ks', OutCs (hlook h) ss ds' ks' ∧ c (ds.reverse ++ ds') (ks.reverse ++ ks') = some b
  | [], ds, ks, e => ⟨[], [], .nil, by simpa [outK, revK_eq] using e⟩
  | .c x :: ss, ds, ks, e => by
    obtain ⟨ds', ks', h1, h2⟩ := outK_eq c ss _ _ e
    exact ⟨_, _, .cons .c h1, by simpa using h2⟩
  | .r k :: ss, ds, ks, e => by
    simp only [outK] at e
    split at e
    · rename_i ty fks rows hk
      obtain ⟨ds', ks', h1, h2⟩ := outK_eq c ss _ _ e
      exact ⟨_, _, .cons (.r (hO_eq hk)) h1, by simpa using h2⟩
    · rename_i ty l hk
      obtain ⟨ds', ks', h1, h2⟩ := outK_eq c ss _ _ e
      exact ⟨_, _, .cons (.rs (hO_eq hk)) h1, by simpa using h2⟩
    · cases e
  | .any :: ss, ds, ks, e => by cases e
  | .q _ _ :: ss, ds, ks, e => by cases e
  | .pq _ _ _ :: ss, ds, ks, e => by cases e
  | .p _ _ _ _ :: ss, ds, ks, e => by cases e
/-- A struct that lies in a result variable. -/
theorem e_agg {x tt k : Nat} {cs : List Sc} {dcs dcs' : List DC} {ks : List Nat} {ti : TY} (hx : lookO t x = some (.one (.r k))) (hk : boxO (hO h k) = some cs) (ht : tlook T tt = some ti) (ha : aggB ti.u = true) (hl : ti.zs.length = cs.length) (ho : outK h cs [] [] (fun d k => some (d, k)) = some (dcs, ks)) (hn : keysOk.nodupB ks = true) (hm : ds.all noMutV = true) (e : dcs = dcs') :
    EndS T [.cell x tt] ds (.agg dcs') (mk n t h dd) := by
  obtain ⟨o, h1, h2⟩ := boxO_eq hk
  obtain ⟨ds', ks', h3, h4⟩ := outK_eq _ cs [] [] ho
  simp at h4
  obtain ⟨rfl, rfl⟩ := h4
  refine e_ret (vs := [(true, ds')]) (ks := ks' ++ []) (.cons (.cellN (lookO_eq hx) (hO_eq h1) h2 ht ha hl) (.agg h3) .nil) (by rw [e]; rfl) (by simpa using hn) hm
/-- A cell that lies in a result variable. -/
theorem e_cell {x tt k : Nat} {y y' : Value} {ti : TY} (hx : lookO t x = some (.one (.r k))) (hk : boxO (hO h k) = some [.c y]) (ht : tlook T tt = some ti) (ha : aggB ti.u = false) (hm : ds.all noMutV = true) (e : y = y') : EndS T [.cell x tt] ds (.one (.v y')) (mk n t h dd) := by
  obtain ⟨o, h1, h2⟩ := boxO_eq hk
  exact e_ret (vs := [(false, [.v y])]) (ks := []) (.cons (k := []) (ks := []) (.cell1 (lookO_eq hx) (hO_eq h1) h2 ht ha) (.one .c) .nil) (by rw [e]; rfl) rfl hm
end
end Go.AM
namespace Go.AM
/-- A loop that is left in its first round. -/
theorem W.once {P : Program} {c : Code} {S : Fs} {Q : Exit → Fs → Prop} (h : W P c S (thenQ (fun _ => False) Q)) : W P (.loop c) S Q :=
  W.lop (X := Unit) (fun _ => S) (fun _ => True) (fun _ => 0) () (Wk.refl S) trivial fun _ _ => h.mono fun e S hq => by cases e with
    | normal => exact False.elim hq
    | _ => exact hq
end Go.AM
/- The abstract machine AM, part 25: contracts over objects: what a call gets, at keys of the contract's own, and what it leaves. -/
set_option linter.unusedVariables false
set_option linter.unusedSimpArgs false
namespace Go.AM
open Go.RowKit

/-- args: the arguments, then what the function value holds; pre: the objects that they lead to; post: those that the call writes or makes. -/
structure Ctr where
  args : List AV
  pre : List (Nat × Obj)
  res : AV
  post : List (Nat × Obj)

def okAll (w : World) (ρ : Rho) (h : List (Nat × Obj)) : Prop :=
  (∀ k o, (k, o) ∈ h → ∃ v, ρ k = some v ∧ v.oneCell' = true ∧ ORel w ρ v (ρ.g k) o ∧ ∀ b, ρ.has k b → b < w.heap.size) ∧
  ∀ k k' o o' b, k ≠ k' → (k, o) ∈ h → (k', o') ∈ h → o.own = true → ρ.has k b → ¬ ρ.has k' b
def ownB (ρ : Rho) (h : List (Nat × Obj)) (b : Nat) : Prop := ∃ k o, (k, o) ∈ h ∧ o.own = true ∧ ρ.has k b
def anyB (ρ : Rho) (h : List (Nat × Obj)) (b : Nat) : Prop := ∃ k o, (k, o) ∈ h ∧ ρ.has k b
theorem ownB.any {ρ : Rho} {h : List (Nat × Obj)} {b : Nat} : ownB ρ h b → anyB ρ h b := fun ⟨k, o, h1, _, h2⟩ => ⟨k, o, h1, h2⟩

def HOK (P : Program) (f : FuncId) (C : Ctr) : Prop :=
  (∃ fn, P.funcs[f]? = some fn ∧ (fn.name == "runtime.NumGoroutine") = false ∧ fn.body.isNone = false) ∧
  ∀ w us ρ, AVsRel ρ C.args us → okAll w ρ C.pre →
    Calls P f us.toArray w fun e w' => ∃ u ρ', e = .returned u ∧ (∀ k o, (k, o) ∈ C.pre → ρ' k = ρ k ∧ ρ'.g k = ρ.g k) ∧ AVRel ρ' C.res u ∧ okAll w' ρ' C.post ∧
      (∀ k o b, (k, o) ∈ C.post → o.own = true → ρ'.has k b → w.heap.size ≤ b ∨ ownB ρ C.pre b) ∧ (∀ k o b, (k, o) ∈ C.post → ρ'.has k b → w.heap.size ≤ b ∨ anyB ρ C.pre b) ∧
      w'.os = w.os ∧ w'.tape = w.tape ∧ w'.output = w.output ∧ w.heap.size ≤ w'.heap.size ∧ ∀ b, b < w.heap.size → ¬ ownB ρ C.pre b → w'.heap[b]? = w.heap[b]?

/-! ### From the contract's keys to the caller's -/
section
variable {ρ ρ2 : Rho} {σ : Nat → Nat}
def Link (ρ ρ2 : Rho) (σ : Nat → Nat) (k : Nat) : Prop := ρ2 (σ k) = ρ k ∧ ρ2.g (σ k) = ρ.g k
theorem ScRel.fwd {s : Sc} {u : Value} (h : ScRel ρ s u) (hk : ∀ k ∈ s.keys, Link ρ ρ2 σ k) : ScRel ρ2 (s.ren σ) u := by
  cases s with
  | any => exact h
  | c v => exact h
  | r k => exact ⟨by rw [(hk k (by simp [Sc.keys])).1]; exact h.1, h.2⟩
  | p k r sz f => obtain ⟨v, a, h1, h2, h3⟩ := h; exact ⟨v, a, by rw [(hk k (by simp [Sc.keys])).1]; exact h1, h2, h3⟩
  | q k i => obtain ⟨v, h1, h2, h3⟩ := h; exact ⟨v, by rw [(hk k (by simp [Sc.keys])).1]; exact h1, by rw [(hk k (by simp [Sc.keys])).2]; exact h2, h3⟩
  | pq k i f => obtain ⟨v, x, a, h1, h2, h3, h4⟩ := h; exact ⟨v, x, a, by rw [(hk k (by simp [Sc.keys])).1]; exact h1, by rw [(hk k (by simp [Sc.keys])).2]; exact h2, h3, h4⟩
theorem ScsRel.fwd : ∀ {ss : List Sc} {us : List Value}, ScsRel ρ ss us → (∀ k ∈ ss.flatMap Sc.keys, Link ρ ρ2 σ k) → ScsRel ρ2 (ss.map (Sc.ren σ)) us
  | [], [], _, _ => trivial
  | s :: ss, u :: us, h, hk => ⟨ScRel.fwd h.1 (fun k hh => hk k (by simp [hh])), ScsRel.fwd h.2 (fun k hh => hk k (by
      simp only [List.flatMap_cons, List.mem_append]; exact .inr hh))⟩
  | [], _ :: _, h, _ => h.elim
  | _ :: _, [], h, _ => h.elim
theorem CompsRel.fwd : ∀ {vs : List (Bool × List Sc)} {us : List Value}, CompsRel ρ vs us → (∀ k ∈ vs.flatMap (fun p => p.2.flatMap Sc.keys), Link ρ ρ2 σ k) → CompsRel ρ2 (vs.map fun p => (p.1, p.2.map (Sc.ren σ))) us
  | [], [], _, _ => trivial
  | (b, cs) :: vs, u :: us, h, hk => by
    refine ⟨?_, CompsRel.fwd h.2 (fun k hh => hk k (by simp only [List.flatMap_cons, List.mem_append]; exact .inr hh))⟩
    have hk' : ∀ k ∈ cs.flatMap Sc.keys, Link ρ ρ2 σ k := fun k hh => hk k (by simp only [List.flatMap_cons, List.mem_append]; exact .inl hh)
    cases b with
    | false => exact ScsRel.fwd h.1 hk'
    | true => obtain ⟨us', h1, h2⟩ := h.1; exact ⟨us', h1, ScsRel.fwd h2 hk'⟩
  | [], _ :: _, h, _ => h.elim
  | _ :: _, [], h, _ => h.elim
theorem AVRel.fwd {v : AV} {u : Value} (h : AVRel ρ v u) (hk : ∀ k ∈ v.keys, Link ρ ρ2 σ k) : AVRel ρ2 (v.ren σ) u := by
  cases v with
  | unk => trivial
  | one s => exact ScRel.fwd h hk
  | agg cs => obtain ⟨us, h1, h2⟩ := h; exact ⟨us, h1, ScsRel.fwd h2 hk⟩
  | tup vs => obtain ⟨us, h1, h2⟩ := h; exact ⟨us, h1, CompsRel.fwd h2 hk⟩
  | fn f caps => obtain ⟨us, h1, h2⟩ := h; exact ⟨us, h1, ScsRel.fwd h2 hk⟩
theorem ORel.fwd {w : World} {v : Value} {gs : List Value} {o : Obj} (h : ORel w ρ v gs o) (hk : ∀ k ∈ o.keys, Link ρ ρ2 σ k) : ORel w ρ2 v gs (o.ren σ) := by
  cases o with
  | box ty cs => obtain ⟨b, us, h1, h2, h3⟩ := h; exact ⟨b, us, h1, ScsRel.fwd h2 hk, h3⟩
  | rbox cs => obtain ⟨a, us, h1, h2, h3⟩ := h; exact ⟨a, us, h1, ScsRel.fwd h2 hk, h3⟩
  | refs ty cs => obtain ⟨b, us, h1, h2, h3⟩ := h; exact ⟨b, us, by simpa using h1, ScsRel.fwd h2 hk, h3⟩
  | vec ty fks rows => exact h
  | ro fks rows => exact h
  | svec ty l => exact h
  | sro l => exact h
  | ext own R hR => exact h
theorem AVsRel.back {D : Nat → Bool} : ∀ {vs : List AV} {us : List Value}, AVsRel ρ (vs.map (AV.ren σ)) us → (∀ v ∈ vs, ∀ k ∈ v.keys, D k = true) → AVsRel (AM.ren ρ σ D) vs us
  | [], [], _, _ => trivial
  | v :: vs, u :: us, h, hk => ⟨AVRel.ren h.1 (hk v (by simp)), AVsRel.back h.2 (fun v hv => hk v (by simp [hv]))⟩
  | [], _ :: _, h, _ => h.elim
  | _ :: _, [], h, _ => h.elim
end

/-- The caller's names behind the call. -/
def rho2 (ρ ρ' : Rho) (σ : Nat → Nat) (new : List Nat) : Rho :=
  ⟨fun x => match new.find? (fun k => σ k == x) with | some k => ρ' k | none => ρ x, fun x => match new.find? (fun k => σ k == x) with | some k => ρ'.g k | none => ρ.g x⟩
theorem rho2_new {ρ ρ' : Rho} {σ : Nat → Nat} {new : List Nat} (hi : ∀ k ∈ new, ∀ k' ∈ new, σ k = σ k' → k = k') {k : Nat} (hk : k ∈ new) : Link ρ' (rho2 ρ ρ' σ new) σ k := by
  unfold Link rho2
  cases h : new.find? (fun k' => σ k' == σ k) with
  | none => rw [List.find?_eq_none] at h; exact absurd (by simp) (h k hk)
  | some k' =>
    have h1 := List.mem_of_find?_eq_some h
    have h2 := List.find?_some h
    simp only [beq_iff_eq] at h2
    obtain rfl := hi k' h1 k hk h2
    exact ⟨by simp [h], by simp [h]⟩
theorem rho2_old {ρ ρ' : Rho} {σ : Nat → Nat} {new : List Nat} {x : Nat} (hx : ∀ k ∈ new, σ k ≠ x) : (rho2 ρ ρ' σ new) x = ρ x ∧ (rho2 ρ ρ' σ new).g x = ρ.g x := by
  have h : new.find? (fun k' => σ k' == x) = none := by
    rw [List.find?_eq_none]; intro k hk; simpa using hx k hk
  unfold rho2
  exact ⟨by simp [h], by simp [h]⟩

section
variable {P : Program} {T : Tab} {S : Fs} {ty : TypeId} {pos : String} {af : Array Edge} {gd : Option (Nat × Bool)}

theorem snd_hcall (f : FuncId) (fx : Operand) (args : List Operand) (aT : Array TypeId) (caps : List Sc) (C : Ctr) (σ : Nat → Nat) (new : List Nat) (ups : List (Nat × Option Obj)) (ro : Bool) (dst : Option Nat) (hok : HOK P f C) (hf : evA S.t fx = .fn f caps)
    (hargs : args.map (evA S.t) ++ caps.map .one = C.args.map (AV.ren σ))
    (hpre : ∀ k o, (k, o) ∈ C.pre → ∃ o', S.h (σ k) = some o' ∧ (∀ w ρ v gs, ORel w ρ v gs o' → ORel w ρ v gs (o.ren σ)) ∧ (o.own = true → o'.own = true) ∧ (o.own = false → ro = true → o'.own = false))
    (hinj : ∀ k k' o o', (k, o) ∈ C.pre → (k', o') ∈ C.pre → k ≠ k' → o.own = true → σ k ≠ σ k')
    (hka : ∀ v ∈ C.args, ∀ k ∈ v.keys, k ∈ C.pre.map (·.1))
    (hkp : ∀ k o, (k, o) ∈ C.pre → ∀ x ∈ o.keys, x ∈ C.pre.map (·.1))
    (hkr : ∀ k ∈ C.res.keys, k ∈ C.pre.map (·.1) ∨ k ∈ new)
    (hkq : ∀ k o, (k, o) ∈ C.post → (∀ x ∈ o.keys, x ∈ C.pre.map (·.1) ∨ x ∈ new) ∧ (k ∈ new ∨ ∃ o0, (k, o0) ∈ C.pre ∧ o0.own = true) ∧ (o.own = false → ro = true))
    (hnew : ∀ k ∈ new, S.d (σ k) = false) (hni : ∀ k ∈ new, ∀ k' ∈ new, σ k = σ k' → k = k')
    (hu1 : ∀ k o, (k, o) ∈ C.post → updF S.h ups (σ k) = some (o.ren σ))
    (hu2 : ∀ k o, (k, o) ∈ C.pre → o.own = true → (∀ o', (k, o') ∉ C.post) → updF S.h ups (σ k) = none)
    (hu3 : ∀ x, (∀ k o, (k, o) ∈ C.post → x ≠ σ k) → (∀ k o, (k, o) ∈ C.pre → o.own = true → x ≠ σ k) → updF S.h ups x = S.h x)
    (hd : ∀ i, dst = some i → i < S.n) :
    Snd P ⟨dst, .call ⟨.value fx, args.toArray, aT⟩, ty, pos, af, gd⟩ S ⟨C.res.ren σ, ups, new.map σ⟩ := by
  intro base B w0 ρ a w K Q hR hK
  obtain ⟨⟨fn, hfn, hname, hbody⟩, hcalls⟩ := hok
  have hfe := hR.eval fx
  rw [hf] at hfe
  obtain ⟨cus, hcv, hcr⟩ := hfe
  have hrel := AVsRel.map hR args caps cus hcr
  rw [hargs] at hrel
  have hrun : (execOp a.eval ⟨dst, .call ⟨.value fx, args.toArray, aT⟩, ty, pos, af, gd⟩).run P w = .ok (.enter f (args.map a.eval ++ cus).toArray) w := by
    simp only [execOp, resolve, hcv, Deferred.ofValue, invoke, callFunc, List.map_toArray, Sem.run_bind, Sem.run_pure, Result.andThen_ok, run_program, hfn, hname, hbody, Bool.false_eq_true, if_false]
    simp
  -- the contract's own names
  have hDk : ∀ k, k ∈ C.pre.map (·.1) → (fun k => decide (k ∈ C.pre.map (·.1))) k = true := fun k hk => by simpa using hk
  have hDp : ∀ {k o}, (k, o) ∈ C.pre → (fun k => decide (k ∈ C.pre.map (·.1))) k = true := fun {k o} hk => hDk k (List.mem_map_of_mem (f := (·.1)) hk)
  generalize (fun k => decide (k ∈ C.pre.map (·.1))) = D at hDk hDp
  have hrc := AVsRel.back (D := D) hrel (fun v hv k hk => hDk k (hka v hv k hk))
  have hob : ∀ k o, (k, o) ∈ C.pre → ∃ o' v, S.h (σ k) = some o' ∧ ρ (σ k) = some v ∧ v.oneCell' = true ∧ ORel w ρ v (ρ.g (σ k)) (o.ren σ) ∧ (∀ b, ρ.has (σ k) b → b < w.heap.size) ∧ (o.own = true → o'.own = true) ∧ (o.own = false → ro = true → o'.own = false) := by
    intro k o hk
    obtain ⟨o', h1, h2, h3, h4⟩ := hpre k o hk
    obtain ⟨v, g1, g2, g3, g4⟩ := hR.obj _ _ h1
    exact ⟨o', v, h1, g1, g2, h2 _ _ _ _ g3, g4, h3, h4⟩
  have hok1 : okAll w (AM.ren ρ σ D) C.pre := by
    refine ⟨fun k o hk => ?_, fun k k' o o' b hne h1 h2 hw hb hb' => ?_⟩
    · obtain ⟨o', v, h1, g1, g2, g3, g4, _⟩ := hob k o hk
      exact ⟨v, by rw [ren_in (hDp hk)]; exact g1, g2, ORel.ren g3 (fun x hx => hDk x (hkp k o hk x hx)), fun b hb => g4 b ((ren_has (hDp hk)).1 hb)⟩
    · obtain ⟨o1, _, q1, _, _, _, _, q2, _⟩ := hob k o h1
      obtain ⟨o2, _, q3, _⟩ := hob k' o' h2
      exact hR.apart (σ k) (σ k') o1 o2 b (hinj k k' o o' h1 h2 hne hw) q1 q3 (q2 hw) ((ren_has (hDp h1)).1 hb) ((ren_has (hDp h2)).1 hb')
  have hownB : ∀ b, ownB (AM.ren ρ σ D) C.pre b → ∃ k o o', (k, o) ∈ C.pre ∧ o.own = true ∧ S.h (σ k) = some o' ∧ o'.own = true ∧ ρ.has (σ k) b := by
    rintro b ⟨k, o, h1, h2, h3⟩
    obtain ⟨o', _, q1, _, _, _, _, q2, _⟩ := hob k o h1
    exact ⟨k, o, o', h1, h2, q1, q2 h2, (ren_has (hDp h1)).1 h3⟩
  have hanyB : ∀ b, anyB (AM.ren ρ σ D) C.pre b → ∃ k o o', (k, o) ∈ C.pre ∧ S.h (σ k) = some o' ∧ (o.own = true → o'.own = true) ∧ (o.own = false → ro = true → o'.own = false) ∧ ρ.has (σ k) b := by
    rintro b ⟨k, o, h1, h3⟩
    obtain ⟨o', _, q1, _, _, _, _, q2, q4⟩ := hob k o h1
    exact ⟨k, o, o', h1, q1, q2, q4, (ren_has (hDp h1)).1 h3⟩
  unfold Oper.wp
  rw [hrun]
  simp only [Oper.upon_enter]
  refine (hcalls w _ _ hrc hok1).mono ?_
  rintro e w' ⟨u, ρ', rfl, hkeep, hres, hpost, hsrc, hany, hos, htape, hout, hsize, hfr⟩
  -- the new names
  have hoS : ∀ x v, ρ x = some v → (rho2 ρ ρ' σ new) x = ρ x ∧ (rho2 ρ ρ' σ new).g x = ρ.g x := fun x v hx => rho2_old fun k hk e => by
    have h1 := hR.dom x v hx
    rw [← e, hnew k hk] at h1
    cases h1
  have e2 : Ext ρ (rho2 ρ ρ' σ new) := fun x v hx => ⟨by rw [(hoS x v hx).1]; exact hx, (hoS x v hx).2⟩
  have link : ∀ k, (k ∈ C.pre.map (·.1) ∨ k ∈ new) → Link ρ' (rho2 ρ ρ' σ new) σ k := by
    intro k hk
    rcases hk with hk | hk
    · obtain ⟨⟨k0, o⟩, hp, rfl⟩ := List.mem_map.1 hk
      obtain ⟨o', v, h1, g1, _⟩ := hob k0 o hp
      obtain ⟨q1, q2⟩ := hkeep k0 o hp
      obtain ⟨q3, q4⟩ := hoS _ v g1
      exact ⟨by rw [q3, q1, ren_in (hDp hp)], by rw [q4, q2, ren_g]⟩
    · exact rho2_new hni hk
  have hpk : ∀ k o, (k, o) ∈ C.post → k ∈ C.pre.map (·.1) ∨ k ∈ new := fun k o hk => by
    rcases (hkq k o hk).2.1 with h | ⟨o0, h, _⟩
    · exact .inr h
    · exact .inl (List.mem_map_of_mem (f := (·.1)) h)
  have hask : ∀ k o b, (k, o) ∈ C.post → ((rho2 ρ ρ' σ new).has (σ k) b ↔ ρ'.has k b) := fun k o b hk => by
    have h := link k (hpk k o hk)
    unfold Rho.has
    rw [h.1, h.2]
  have hasx : ∀ x o b, S.h x = some o → ((rho2 ρ ρ' σ new).has x b ↔ ρ.has x b) := fun x o b hx => by
    obtain ⟨v, g1, _⟩ := hR.obj x o hx
    exact Rho.has_ext e2 g1
  have cls : ∀ x o, updF S.h ups x = some o → (∃ k o1, (k, o1) ∈ C.post ∧ x = σ k ∧ o = o1.ren σ) ∨ (S.h x = some o ∧ ∀ k o1, (k, o1) ∈ C.pre → o1.own = true → x ≠ σ k) := by
    intro x o hx
    by_cases h1 : ∃ k o1, (k, o1) ∈ C.post ∧ x = σ k
    · obtain ⟨k, o1, h1, rfl⟩ := h1
      rw [hu1 k o1 h1] at hx
      injection hx with hx
      exact .inl ⟨k, o1, h1, rfl, hx.symm⟩
    · have h1' : ∀ k o1, (k, o1) ∈ C.post → x ≠ σ k := fun k o1 hk e => h1 ⟨k, o1, hk, e⟩
      by_cases h2 : ∃ k o1, (k, o1) ∈ C.pre ∧ o1.own = true ∧ x = σ k
      · obtain ⟨k, o1, h2, h3, rfl⟩ := h2
        rw [hu2 k o1 h2 h3 (fun o' ho' => h1' k o' ho' rfl)] at hx
        cases hx
      · have h2' : ∀ k o1, (k, o1) ∈ C.pre → o1.own = true → x ≠ σ k := fun k o1 hk hw e => h2 ⟨k, o1, hk, hw, e⟩
        rw [hu3 x h1' h2'] at hx
        exact .inr ⟨hx, h2'⟩
  have far : ∀ x o, S.h x = some o → (∀ k o1, (k, o1) ∈ C.pre → o1.own = true → x ≠ σ k) → ∀ b, ρ.has x b → ¬ ownB (AM.ren ρ σ D) C.pre b := by
    intro x o hx hne b hb hB
    obtain ⟨k, o1, o', h1, h2, h3, h4, h5⟩ := hownB b hB
    exact hR.apart (σ k) x o' o b (fun e => hne k o1 h1 h2 e.symm) h3 hx h4 h5 hb
  have hR2 : Rel base B w0 (rho2 ρ ρ' σ new) ⟨S.n, S.t, updF S.h ups, fun k => S.d k || (new.map σ).contains k⟩ a w' := by
    refine ⟨hR.siz, fun i => (hR.tmp i).ext e2, fun x o hx => ?_, fun x x' o o' b hne hx hx' hw hb hb' => ?_, fun x o b hx hw hb => ?_, fun x o b hx hw hb => ?_, fun x v hx => ?_, hos.trans hR.os, htape.trans hR.tape, hout.trans hR.output, Nat.le_trans hR.size hsize, fun b hb hB => ?_, Nat.le_trans hR.base hsize, hR.defers⟩
    · rcases cls x o hx with ⟨k, o1, h1, rfl, rfl⟩ | ⟨h1, h2⟩
      · obtain ⟨v, g1, g2, g3, g4⟩ := hpost.1 k o1 h1
        have hl := link k (hpk k o1 h1)
        exact ⟨v, by rw [hl.1]; exact g1, g2, by rw [hl.2]; exact ORel.fwd g3 (fun y hy => link y ((hkq k o1 h1).1 y hy)), fun b hb => g4 b ((hask k o1 b h1).1 hb)⟩
      · obtain ⟨v, g1, g2, g3, g4⟩ := hR.obj x o h1
        refine ⟨v, (e2 x v g1).1, g2, ?_, fun b hb => Nat.lt_of_lt_of_le (g4 b ((hasx x o b h1).1 hb)) hsize⟩
        rw [(e2 x v g1).2]
        exact g3.keep e2 fun b hb => hfr b (g4 b (Rho.has_of g1 hb)) (far x o h1 h2 b (Rho.has_of g1 hb))
    · rcases cls x o hx with ⟨k, o1, h1, rfl, rfl⟩ | ⟨h1, h2⟩ <;> rcases cls x' o' hx' with ⟨k', o1', h1', rfl, rfl⟩ | ⟨h1', h2'⟩
      · exact hpost.2 k k' o1 o1' b (fun e => hne (by rw [e])) h1 h1' (by rwa [Obj.own_ren] at hw) ((hask k o1 b h1).1 hb) ((hask k' o1' b h1').1 hb')
      · have hb1 := (hasx x' o' b h1').1 hb'
        rcases hsrc k o1 b h1 (by rwa [Obj.own_ren] at hw) ((hask k o1 b h1).1 hb) with g | g
        · have := hR.lt h1' hb1; omega
        · exact far x' o' h1' h2' b hb1 g
      · have hb1 := (hasx x o b h1).1 hb
        rcases hany k' o1' b h1' ((hask k' o1' b h1').1 hb') with g | g
        · have := hR.lt h1 hb1; omega
        · cases how : o1'.own with
          | true =>
            rcases hsrc k' o1' b h1' how ((hask k' o1' b h1').1 hb') with g | g
            · have := hR.lt h1 hb1; omega
            · exact far x o h1 h2 b hb1 g
          | false =>
            have hro := (hkq k' o1' h1').2.2 how
            obtain ⟨k0, o0, o0', q1, q2, q3, q4, q5⟩ := hanyB b g
            cases ho0 : o0.own with
            | true => exact far x o h1 h2 b hb1 ⟨k0, o0, q1, ho0, (ren_has (hDp q1)).2 q5⟩
            | false =>
              have hno := q4 ho0 hro
              exact hR.apart x (σ k0) o o0' b (fun e => by rw [e, q2] at h1; injection h1 with h1; rw [← h1, hno] at hw; cases hw) h1 q2 hw hb1 q5
      · exact hR.apart x x' o o' b hne h1 h1' hw ((hasx x o b h1).1 hb) ((hasx x' o' b h1').1 hb')
    · rcases cls x o hx with ⟨k, o1, h1, rfl, rfl⟩ | ⟨h1, h2⟩
      · rcases hsrc k o1 b h1 (by rwa [Obj.own_ren] at hw) ((hask k o1 b h1).1 hb) with g | g
        · exact .inl (Nat.le_trans hR.base g)
        · obtain ⟨k0, o0, o0', q1, q2, q3, q4, q5⟩ := hownB b g
          exact hR.mine (σ k0) o0' b q3 q4 q5
      · exact hR.mine x o b h1 hw ((hasx x o b h1).1 hb)
    · rcases cls x o hx with ⟨k, o1, h1, rfl, rfl⟩ | ⟨h1, h2⟩
      · rcases hany k o1 b h1 ((hask k o1 b h1).1 hb) with g | g
        · exact .inl (Nat.le_trans hR.base g)
        · obtain ⟨k0, o0, o0', q1, q2, q3, q4, q5⟩ := hanyB b g
          cases hoo : o0'.own with
          | true => rcases hR.mine (σ k0) o0' b q2 hoo q5 with h | h
                    · exact .inl h
                    · exact .inr (.inl h)
          | false => exact hR.seen (σ k0) o0' b q2 hoo q5
      · exact hR.seen x o b h1 hw ((hasx x o b h1).1 hb)
    · by_cases hx2 : ∃ k ∈ new, σ k = x
      · obtain ⟨k, hk, rfl⟩ := hx2
        have : (new.map σ).contains (σ k) = true := by rw [List.contains_iff_mem]; exact List.mem_map_of_mem hk
        show (S.d (σ k) || (new.map σ).contains (σ k)) = true
        rw [this]; simp
      · rw [(rho2_old (fun k hk e => hx2 ⟨k, hk, e⟩)).1] at hx
        show (S.d x || (new.map σ).contains x) = true
        rw [hR.dom x v hx]; rfl
    · refine (hfr b (Nat.lt_of_lt_of_le hb hR.base) (fun h => ?_)).trans (hR.frame b hb hB)
      obtain ⟨k0, o0, o0', q1, q2, q3, q4, q5⟩ := hownB b h
      rcases hR.mine (σ k0) o0' b q3 q4 q5 with h | h
      · omega
      · exact hB h
  refine hK _ u w' e2 ?_
  refine cast ?_ (hR2.put dst (AVRel.fwd hres (fun k hk => link k (hkr k hk))) hd)
  simp only [Fs.apply]
end
end Go.AM
/- The abstract machine AM, part 26: a call by such a contract, over states written as lists. -/
set_option linter.unusedVariables false
set_option linter.unusedSimpArgs false
namespace Go.AM
open Go.RowKit

/-! ### Keys, one for one -/
def scKeys {β : Type} : Sc → List Nat → (List Nat → Option β) → Option β
  | .r k, acc, c => c (k :: acc)
  | .p k _ _ _, acc, c => c (k :: acc)
  | .q k _, acc, c => c (k :: acc)
  | .pq k _ _, acc, c => c (k :: acc)
  | .any, acc, c => c acc
  | .c _, acc, c => c acc
def scsKeys {β : Type} : List Sc → List Nat → (List Nat → Option β) → Option β
  | [], acc, c => c acc
  | s :: l, acc, c => scKeys s acc fun acc => scsKeys l acc c
def tupKeys {β : Type} : List (Bool × List Sc) → List Nat → (List Nat → Option β) → Option β
  | [], acc, c => c acc
  | (_, cs) :: l, acc, c => scsKeys cs acc fun acc => tupKeys l acc c
def avKeys {β : Type} : AV → List Nat → (List Nat → Option β) → Option β
  | .one s, acc, c => scKeys s acc c
  | .agg cs, acc, c => scsKeys cs acc c
  | .tup vs, acc, c => tupKeys vs acc c
  | .fn _ cs, acc, c => scsKeys cs acc c
  | .unk, acc, c => c acc
def avsKeys {β : Type} : List AV → List Nat → (List Nat → Option β) → Option β
  | [], acc, c => c acc
  | s :: l, acc, c => avKeys s acc fun acc => avsKeys l acc c
def obKeys {β : Type} : Obj → List Nat → (List Nat → Option β) → Option β
  | .box _ cs, acc, c => scsKeys cs acc c
  | .rbox cs, acc, c => scsKeys cs acc c
  | .refs _ cs, acc, c => scsKeys cs acc c
  | .vec _ _ _, acc, c => c acc
  | .ro _ _, acc, c => c acc
  | .svec _ _, acc, c => c acc
  | .sro _, acc, c => c acc
  | .ext _ _ _, acc, c => c acc
def zipK {β : Type} : List Nat → List Nat → List (Nat × Nat) → (List (Nat × Nat) → Option β) → Option β
  | a :: as, b :: bs, acc, c => zipK as bs ((a, b) :: acc) c
  | [], [], acc, c => c acc
  | _, _, _, _ => none
def sgK {β : Type} : List (Nat × Nat) → Nat → (Nat → Option β) → Option β
  | [], k, c => c k
  | (a, b) :: l, k, c => bif Nat.beq a k then c b else sgK l k c
def preK {β : Type} (h : List (Nat × Option Obj)) : List (Nat × Obj) → List (Nat × Nat) → (List (Nat × Nat) → Option β) → Option β
  | [], σ, c => c σ
  | (k, o) :: l, σ, c => sgK σ k fun k' => match hO h k' with
    | some o' => obKeys o [] fun xs => obKeys o' [] fun ys => zipK xs ys σ fun σ => preK h l σ c
    | none => none
/-- The keys that are made, to the caller's. -/
def newK {β : Type} (pre : List (Nat × Obj)) : List (Nat × Obj) → List Nat → List (Nat × Nat) → (List (Nat × Nat) → Option β) → Option β
  | [], _, σ, c => c σ
  | (k, _) :: l, ks, σ, c => bif pre.any (fun p => Nat.beq p.1 k) then newK pre l ks σ c else match ks with
    | x :: ks => newK pre l ks ((k, x) :: σ) c
    | [] => none
def inferO (h : List (Nat × Option Obj)) (avs : List AV) (C : Ctr) (ks : List Nat) : Option (List (Nat × Nat)) :=
  avsKeys C.args [] fun xs => avsKeys avs [] fun ys => zipK xs ys [] fun σ => preK h C.pre σ fun σ => newK C.pre C.post ks σ some

/-! ### Renaming, written out -/
theorem sgK_eq {β : Type} (c : Nat → Option β) : ∀ (σ : List (Nat × Nat)) (k : Nat), sgK σ k c = c (sg σ k)
  | [], k => rfl
  | (a, b) :: l, k => by
    simp only [sgK, sg]
    cases Nat.beq a k
    · exact sgK_eq c l k
    · rfl
def scK {β : Type} (σ : List (Nat × Nat)) : Sc → (Sc → Option β) → Option β
  | .r k, c => sgK σ k fun k => c (.r k)
  | .p k r z f, c => sgK σ k fun k => c (.p k r z f)
  | .q k i, c => sgK σ k fun k => c (.q k i)
  | .pq k i f, c => sgK σ k fun k => c (.pq k i f)
  | .any, c => c .any
  | .c v, c => c (.c v)
theorem scK_eq {β : Type} (σ : List (Nat × Nat)) (s : Sc) (c : Sc → Option β) : scK σ s c = c (s.ren (sg σ)) := by
  cases s <;> simp [scK, sgK_eq, Sc.ren]
def scsK {β : Type} (σ : List (Nat × Nat)) : List Sc → List Sc → (List Sc → Option β) → Option β
  | [], acc, c => revK acc [] c
  | s :: l, acc, c => scK σ s fun s => scsK σ l (s :: acc) c
theorem scsK_eq {β : Type} (σ : List (Nat × Nat)) (c : List Sc → Option β) : ∀ (l acc : List Sc), scsK σ l acc c = c (acc.reverse ++ l.map (Sc.ren (sg σ)))
  | [], acc => by simp [scsK, revK_eq]
  | s :: l, acc => by simp [scsK, scK_eq, scsK_eq σ c l]
def tupK {β : Type} (σ : List (Nat × Nat)) : List (Bool × List Sc) → List (Bool × List Sc) → (List (Bool × List Sc) → Option β) → Option β
  | [], acc, c => revK acc [] c
  | (b, cs) :: l, acc, c => scsK σ cs [] fun cs => tupK σ l ((b, cs) :: acc) c
theorem tupK_eq {β : Type} (σ : List (Nat × Nat)) (c : List (Bool × List Sc) → Option β) : ∀ (l acc : List (Bool × List Sc)), tupK σ l acc c = c (acc.reverse ++ l.map fun p => (p.1, p.2.map (Sc.ren (sg σ))))
  | [], acc => by simp [tupK, revK_eq]
  | (b, cs) :: l, acc => by simp [tupK, scsK_eq, tupK_eq σ c l]
def avK {β : Type} (σ : List (Nat × Nat)) : AV → (AV → Option β) → Option β
  | .one s, c => scK σ s fun s => c (.one s)
  | .agg cs, c => scsK σ cs [] fun cs => c (.agg cs)
  | .tup vs, c => tupK σ vs [] fun vs => c (.tup vs)
  | .fn f cs, c => scsK σ cs [] fun cs => c (.fn f cs)
  | .unk, c => c .unk
theorem avK_eq {β : Type} (σ : List (Nat × Nat)) (v : AV) (c : AV → Option β) : avK σ v c = c (v.ren (sg σ)) := by
  cases v <;> simp [avK, scK_eq, scsK_eq, tupK_eq, AV.ren]
def obK {β : Type} (σ : List (Nat × Nat)) : Obj → (Obj → Option β) → Option β
  | .box ty cs, c => scsK σ cs [] fun cs => c (.box ty cs)
  | .rbox cs, c => scsK σ cs [] fun cs => c (.rbox cs)
  | .refs ty cs, c => scsK σ cs [] fun cs => c (.refs ty cs)
  | .vec ty fks rows, c => c (.vec ty fks rows)
  | .ro fks rows, c => c (.ro fks rows)
  | .svec ty l, c => c (.svec ty l)
  | .sro l, c => c (.sro l)
  | .ext o R hR, c => c (.ext o R hR)
theorem obK_eq {β : Type} (σ : List (Nat × Nat)) (o : Obj) (c : Obj → Option β) : obK σ o c = c (o.ren (sg σ)) := by
  cases o <;> simp [obK, scsK_eq, Obj.ren]
def postUps (σ : List (Nat × Nat)) (post : List (Nat × Obj)) : List (Nat × Option Obj) := post.map fun p => (sg σ p.1, some (p.2.ren (sg σ)))
def postK {β : Type} (σ : List (Nat × Nat)) : List (Nat × Obj) → List (Nat × Option Obj) → (List (Nat × Option Obj) → Option β) → Option β
  | [], acc, c => c acc
  | (k, o) :: l, acc, c => obK σ o fun o => sgK σ k fun k => postK σ l ((k, some o) :: acc) c
theorem postK_eq {β : Type} (σ : List (Nat × Nat)) (c : List (Nat × Option Obj) → Option β) : ∀ (l : List (Nat × Obj)) (acc : List (Nat × Option Obj)), postK σ l acc c = c ((postUps σ l).reverse ++ acc)
  | [], acc => by simp [postK, postUps]
  | (k, o) :: l, acc => by simp [postK, obK_eq, sgK_eq, postK_eq σ c l, postUps]
def hasKey (l : List (Nat × Obj)) (k : Nat) : Bool := l.any fun p => Nat.beq p.1 k
def deads (σ : List (Nat × Nat)) (post : List (Nat × Obj)) : List (Nat × Obj) → List (Nat × Option Obj)
  | [] => []
  | (k, o) :: l => bif o.own && !hasKey post k then (sg σ k, none) :: deads σ post l else deads σ post l
def deadK {β : Type} (σ : List (Nat × Nat)) (post : List (Nat × Obj)) : List (Nat × Obj) → List (Nat × Option Obj) → (List (Nat × Option Obj) → Option β) → Option β
  | [], acc, c => c acc
  | (k, o) :: l, acc, c => bif o.own && !hasKey post k then sgK σ k fun k => deadK σ post l ((k, none) :: acc) c else deadK σ post l acc c
theorem deadK_eq {β : Type} (σ : List (Nat × Nat)) (post : List (Nat × Obj)) (c : List (Nat × Option Obj) → Option β) : ∀ (l : List (Nat × Obj)) (acc : List (Nat × Option Obj)), deadK σ post l acc c = c ((deads σ post l).reverse ++ acc)
  | [], acc => by simp [deadK, deads]
  | (k, o) :: l, acc => by
    simp only [deadK, deads]
    cases o.own && !hasKey post k
    · simp [deadK_eq σ post c l]
    · simp [sgK_eq, deadK_eq σ post c l]
def imgK {β : Type} (σ : List (Nat × Nat)) : List (Nat × Obj) → List Nat → (List Nat → Option β) → Option β
  | [], acc, c => c acc
  | (k, _) :: l, acc, c => sgK σ k fun k => imgK σ l (k :: acc) c
theorem imgK_eq {β : Type} (σ : List (Nat × Nat)) (c : List Nat → Option β) : ∀ (l : List (Nat × Obj)) (acc : List Nat), imgK σ l acc c = c ((l.map fun p => sg σ p.1).reverse ++ acc)
  | [], acc => by simp [imgK]
  | (k, o) :: l, acc => by simp [imgK, sgK_eq, imgK_eq σ c l]
def newL (pre : List (Nat × Obj)) : List (Nat × Obj) → List Nat
  | [] => []
  | (k, _) :: l => bif hasKey pre k then newL pre l else k :: newL pre l
def newKs {β : Type} (σ : List (Nat × Nat)) (pre : List (Nat × Obj)) : List (Nat × Obj) → List Nat → (List Nat → Option β) → Option β
  | [], acc, c => c acc
  | (k, _) :: l, acc, c => bif hasKey pre k then newKs σ pre l acc c else sgK σ k fun k => newKs σ pre l (k :: acc) c
theorem newKs_eq {β : Type} (σ : List (Nat × Nat)) (pre : List (Nat × Obj)) (c : List Nat → Option β) : ∀ (l : List (Nat × Obj)) (acc : List Nat), newKs σ pre l acc c = c (((newL pre l).map (sg σ)).reverse ++ acc)
  | [], acc => by simp [newKs, newL]
  | (k, o) :: l, acc => by
    simp only [newKs, newL]
    cases hasKey pre k
    · simp [sgK_eq, newKs_eq σ pre c l]
    · simp [newKs_eq σ pre c l]
/-- v: the value; R: the keys that are read; W: those that are written. -/
def hcallO (σ : List (Nat × Nat)) (C : Ctr) (h : List (Nat × Option Obj)) (dd : List Nat) : Option (AV × List Nat × List Nat × List (Nat × Option Obj) × List Nat) :=
  avK σ C.res fun v => postK σ C.post [] fun us => deadK σ C.post C.pre us fun us => imgK σ C.pre [] fun R => keyK us [] fun W => revK us h fun h' => newKs σ C.pre C.post dd fun dd' => some (v, R, W, h', dd')
def hups (σ : List (Nat × Nat)) (C : Ctr) : List (Nat × Option Obj) := postUps σ C.post ++ deads σ C.post C.pre
theorem hcallO_eq {σ : List (Nat × Nat)} {C : Ctr} {h h' : List (Nat × Option Obj)} {dd dd' R W : List Nat} {v : AV} (e : hcallO σ C h dd = some (v, R, W, h', dd')) :
    C.res.ren (sg σ) = v ∧ (C.pre.map fun p => sg σ p.1).reverse = R ∧ (hups σ C).map (·.1) = W ∧ hups σ C ++ h = h' ∧ ((newL C.pre C.post).map (sg σ)).reverse ++ dd = dd' := by
  simp only [hcallO, avK_eq, postK_eq, deadK_eq, imgK_eq, keyK_eq, revK_eq, newKs_eq, List.append_nil, Option.some.injEq, Prod.mk.injEq] at e
  obtain ⟨e1, e2, e3, e4, e5⟩ := e
  refine ⟨e1, e2, ?_, ?_, e5⟩
  · rw [← e3]; simp [hups]
  · rw [← e4]; simp [hups]

/-! ### What the caller has serves -/
inductive PreOf (h : List (Nat × Option Obj)) (σ : List (Nat × Nat)) : List (Nat × Obj) → Bool → Prop where
  | nil : PreOf h σ [] true
  | same {k o o' l b} (e : hO h (sg σ k) = some o') (e2 : o' = o.ren (sg σ)) (H : PreOf h σ l b) : PreOf h σ ((k, o) :: l) b
  | ro {k o' fks rows l b} (e : hO h (sg σ k) = some o') (hr : o'.rowsOf = some (fks, rows)) (H : PreOf h σ l b) : PreOf h σ ((k, .ro fks rows) :: l) (!o'.own && b)
  | sro {k o' ss l b} (e : hO h (sg σ k) = some o') (hr : o'.strsOf = some ss) (H : PreOf h σ l b) : PreOf h σ ((k, .sro ss) :: l) (!o'.own && b)
  | rbox {k o' cs cs' l b} (e : hO h (sg σ k) = some o') (hr : o'.boxCells = some cs') (e2 : cs' = cs.map (Sc.ren (sg σ))) (H : PreOf h σ l b) : PreOf h σ ((k, .rbox cs) :: l) (!o'.own && b)
theorem PreOf.spec {h : List (Nat × Option Obj)} {σ : List (Nat × Nat)} {l : List (Nat × Obj)} {b : Bool} (H : PreOf h σ l b) : ∀ S : Nat → Option Obj, (∀ p ∈ l, S (sg σ p.1) = hlook h (sg σ p.1)) → ∀ k o, (k, o) ∈ l → ∃ o', S (sg σ k) = some o' ∧ (∀ w ρ v gs, ORel w ρ v gs o' → ORel w ρ v gs (o.ren (sg σ))) ∧ (o.own = true → o'.own = true) ∧ (o.own = false → b = true → o'.own = false) := by
  intro S
  induction H with
  | nil => intro _ k o hk; cases hk
  | @same k o o' l b e e2 H ih =>
    intro hS k1 o1 hk
    rcases List.mem_cons.1 hk with hk | hk
    · injection hk with h1 h2
      subst h1 h2
      refine ⟨o', (show S (sg σ _) = _ from hS (_, _) List.mem_cons_self).trans (hO_eq e), fun w ρ v gs h => by rw [← e2]; exact h, fun hw => by rw [e2, Obj.own_ren]; exact hw, fun hw _ => by rw [e2, Obj.own_ren]; exact hw⟩
    · exact ih (fun p hp => hS p (by simp [hp])) k1 o1 hk
  | @ro k o' fks rows l b e hr H ih =>
    intro hS k1 o1 hk
    rcases List.mem_cons.1 hk with hk | hk
    · injection hk with h1 h2
      subst h1 h2
      exact ⟨o', (show S (sg σ _) = _ from hS (_, _) List.mem_cons_self).trans (hO_eq e), fun w ρ v gs h => h.rows hr, (fun hw => by cases hw), (fun _ hb => by simp at hb; exact hb.1)⟩
    · obtain ⟨o2, g1, g2, g3, g4⟩ := ih (fun p hp => hS p (by simp [hp])) k1 o1 hk
      exact ⟨o2, g1, g2, g3, fun hw hb => g4 hw (by simp at hb; exact hb.2)⟩
  | @sro k o' ss l b e hr H ih =>
    intro hS k1 o1 hk
    rcases List.mem_cons.1 hk with hk | hk
    · injection hk with h1 h2
      subst h1 h2
      exact ⟨o', (show S (sg σ _) = _ from hS (_, _) List.mem_cons_self).trans (hO_eq e), fun w ρ v gs h => h.strs hr, (fun hw => by cases hw), (fun _ hb => by simp at hb; exact hb.1)⟩
    · obtain ⟨o2, g1, g2, g3, g4⟩ := ih (fun p hp => hS p (by simp [hp])) k1 o1 hk
      exact ⟨o2, g1, g2, g3, fun hw hb => g4 hw (by simp at hb; exact hb.2)⟩
  | @rbox k o' cs cs' l b e hr e2 H ih =>
    intro hS k1 o1 hk
    rcases List.mem_cons.1 hk with hk | hk
    · injection hk with h1 h2
      subst h1 h2
      exact ⟨o', (show S (sg σ _) = _ from hS (_, _) List.mem_cons_self).trans (hO_eq e), fun w ρ v gs h => by have := h.cells hr; rw [e2] at this; exact this, (fun hw => by cases hw), (fun _ hb => by simp at hb; exact hb.1)⟩
    · obtain ⟨o2, g1, g2, g3, g4⟩ := ih (fun p hp => hS p (by simp [hp])) k1 o1 hk
      exact ⟨o2, g1, g2, g3, fun hw hb => g4 hw (by simp at hb; exact hb.2)⟩

/-! ### What must hold of the keys -/
def keysB (l : List (Nat × Obj)) (ks : List Nat) : Bool := ks.all fun k => hasKey l k
def apartB (σ : List (Nat × Nat)) (l : List (Nat × Obj)) : Bool := l.all fun p => !p.2.own || l.all fun q => Nat.beq p.1 q.1 || !Nat.beq (sg σ p.1) (sg σ q.1)
def chkC (C : Ctr) : Bool :=
  keysOk.nodupB (C.post.map (·.1)) && keysOk.nodupB (C.pre.map (·.1)) && C.args.all (fun v => keysB C.pre v.keys) && C.pre.all (fun p => keysB C.pre p.2.keys) && keysB (C.pre ++ C.post) C.res.keys &&
  C.post.all (fun p => keysB (C.pre ++ C.post) p.2.keys && (!hasKey C.pre p.1 || C.pre.any fun q => Nat.beq q.1 p.1 && q.2.own))
def chkH (σ : List (Nat × Nat)) (C : Ctr) (dd : List Nat) (b : Bool) : Bool :=
  chkC C && apartB σ C.pre && keysOk.nodupB (C.post.map fun p => sg σ p.1) && (b || C.post.all (·.2.own)) && (newL C.pre C.post).all (fun k => !(memB dd (sg σ k) || parK (sg σ k)) && C.pre.all fun p => !Nat.beq (sg σ p.1) (sg σ k))
theorem hasKey_iff {l : List (Nat × Obj)} {k : Nat} : hasKey l k = true ↔ k ∈ l.map (·.1) := by
  simp only [hasKey, List.any_eq_true, List.mem_map]
  constructor
  · rintro ⟨p, h1, h2⟩; exact ⟨p, h1, Nat.eq_of_beq_eq_true h2⟩
  · rintro ⟨p, h1, rfl⟩; exact ⟨p, h1, by simp⟩
theorem newL_mem (pre : List (Nat × Obj)) (k : Nat) : ∀ l : List (Nat × Obj), k ∈ newL pre l ↔ k ∈ l.map (·.1) ∧ k ∉ pre.map (·.1)
  | [] => by simp [newL]
  | (x, o) :: l => by
    simp only [newL]
    cases h : hasKey pre x with
    | true =>
      have h1 := hasKey_iff.1 h
      simp only [cond_true, newL_mem pre k l, List.map_cons, List.mem_cons]
      constructor
      · rintro ⟨a, b⟩; exact ⟨.inr a, b⟩
      · rintro ⟨rfl | a, b⟩
        · exact absurd h1 b
        · exact ⟨a, b⟩
    | false =>
      have h1 : x ∉ pre.map (·.1) := fun hm => by rw [hasKey_iff.2 hm] at h; cases h
      simp only [cond_false, List.mem_cons, newL_mem pre k l, List.map_cons]
      constructor
      · rintro (rfl | ⟨a, b⟩)
        · exact ⟨.inl rfl, h1⟩
        · exact ⟨.inr a, b⟩
      · rintro ⟨rfl | a, b⟩
        · exact .inl rfl
        · exact .inr ⟨a, b⟩
theorem deads_mem (σ : List (Nat × Nat)) (post : List (Nat × Obj)) (p : Nat × Option Obj) : ∀ l : List (Nat × Obj), p ∈ deads σ post l ↔ ∃ k o, (k, o) ∈ l ∧ o.own = true ∧ hasKey post k = false ∧ p = (sg σ k, none)
  | [] => by simp [deads]
  | (x, o) :: l => by
    simp only [deads]
    have ih := deads_mem σ post p l
    cases h : o.own && !hasKey post x with
    | true =>
      simp only [Bool.and_eq_true, Bool.not_eq_true'] at h
      simp only [cond_true, List.mem_cons, ih]
      constructor
      · rintro (rfl | ⟨k, o', h1, h2, h3, rfl⟩)
        · exact ⟨x, o, .inl rfl, h.1, h.2, rfl⟩
        · exact ⟨k, o', .inr h1, h2, h3, rfl⟩
      · rintro ⟨k, o', h1 | h1, h2, h3, rfl⟩
        · injection h1 with h1 h4; subst h1; exact .inl rfl
        · exact .inr ⟨k, o', h1, h2, h3, rfl⟩
    | false =>
      simp only [cond_false, List.mem_cons, ih]
      constructor
      · rintro ⟨k, o', h1, h2, h3, rfl⟩; exact ⟨k, o', .inr h1, h2, h3, rfl⟩
      · rintro ⟨k, o', h1 | h1, h2, h3, rfl⟩
        · injection h1 with h1 h4; subst h1 h4; simp [h2, h3] at h
        · exact ⟨k, o', h1, h2, h3, rfl⟩
theorem updF_first (h : Nat → Option Obj) : ∀ (l : List (Nat × Option Obj)) (k : Nat) (o : Option Obj), (k, o) ∈ l → (∀ o', (k, o') ∈ l → o' = o) → updF h l k = o
  | [], _, _, hm, _ => by cases hm
  | (x, o1) :: l, k, o, hm, hu => by
    simp only [updF]
    by_cases e : k = x
    · subst e
      rw [if_pos rfl]
      exact hu o1 (by simp)
    · rw [if_neg e]
      refine updF_first h l k o ?_ (fun o' ho' => hu o' (by simp [ho']))
      rcases List.mem_cons.1 hm with h1 | h1
      · injection h1 with h1 _; exact absurd h1 e
      · exact h1

section
variable {P : Program} {T : Tab} {draw : Bool} {all rest : List Oper} {lg : FPs} {n : Nat} {t : List (Nat × AV)} {h : List (Nat × Option Obj)} {dd : List Nat} {K : Fs → Prop}
variable {d : Nat} {ty : TypeId} {pos : String} {af : Array Edge} {gd : Option (Nat × Bool)}

theorem hcall_snd {f : FuncId} {fx : Operand} {args : List Operand} {aT : Array TypeId} {caps : List Sc} {C : Ctr} {σ : List (Nat × Nat)} {b : Bool} {dst : Option Nat} {S' : Fs} (hok : HOK P f C) (hf : evA S'.t fx = .fn f caps)
    (hargs : args.map (evA S'.t) ++ caps.map .one = C.args.map (AV.ren (sg σ))) (hp : PreOf h σ C.pre b) (hc : chkH σ C dd b = true)
    (hh : ∀ k ∈ (C.pre.map fun p => sg σ p.1).reverse, S'.h k = hlook h k) (hd' : ∀ k ∈ (newL C.pre C.post).map (sg σ), S'.d k = false) (hd : ∀ i, dst = some i → i < S'.n) :
    Snd P ⟨dst, .call ⟨.value fx, ⟨args⟩, aT⟩, ty, pos, af, gd⟩ S' ⟨C.res.ren (sg σ), hups σ C, (newL C.pre C.post).map (sg σ)⟩ := by
  simp only [chkH, chkC, Bool.and_eq_true, List.all_eq_true] at hc
  obtain ⟨⟨⟨⟨⟨⟨⟨⟨⟨c1, c0⟩, c2⟩, c3⟩, c4⟩, c5⟩, c6⟩, c7⟩, c8⟩, c9⟩ := hc
  have npost := nodupB_spec _ c1
  have npre := nodupB_spec _ c0
  have nimg := nodupB_spec _ c7
  have inPP : ∀ k, hasKey (C.pre ++ C.post) k = true → k ∈ C.pre.map (·.1) ∨ k ∈ newL C.pre C.post := fun k hk => by
    have := hasKey_iff.1 hk
    rw [List.map_append, List.mem_append] at this
    by_cases hm : k ∈ C.pre.map (·.1)
    · exact .inl hm
    · exact .inr ((newL_mem _ _ _).2 ⟨this.resolve_left hm, hm⟩)
  have hown : ∀ k o, (k, o) ∈ C.post → k ∈ newL C.pre C.post ∨ ∃ o0, (k, o0) ∈ C.pre ∧ o0.own = true := fun k o hk => by
    have h5 := (c5 (k, o) hk).2
    simp only [Bool.or_eq_true, Bool.not_eq_true', List.any_eq_true, Bool.and_eq_true] at h5
    rcases h5 with h5 | ⟨q, h5, h6, h7⟩
    · exact .inl ((newL_mem _ _ _).2 ⟨List.mem_map_of_mem (f := (·.1)) hk, fun hm => by rw [hasKey_iff.2 hm] at h5; cases h5⟩)
    · obtain rfl := Nat.eq_of_beq_eq_true h6
      exact .inr ⟨q.2, h5, h7⟩
  have hinj : ∀ k k' o o', (k, o) ∈ C.pre → (k', o') ∈ C.pre → k ≠ k' → o.own = true → sg σ k ≠ sg σ k' := fun k k' o o' h1 h2 hne hw e => by
    have h6 := c6
    simp only [apartB, List.all_eq_true] at h6
    have := h6 (k, o) h1
    simp only [hw, Bool.not_true, Bool.false_or, List.all_eq_true] at this
    have := this (k', o') h2
    simp only [Bool.or_eq_true, Bool.not_eq_true'] at this
    rcases this with h | h
    · exact hne (Nat.eq_of_beq_eq_true h)
    · rw [e] at h; simp at h
  have hups_mem : ∀ x o, (x, o) ∈ hups σ C ↔ (∃ k o1, (k, o1) ∈ C.post ∧ x = sg σ k ∧ o = some (o1.ren (sg σ))) ∨ ∃ k o1, (k, o1) ∈ C.pre ∧ o1.own = true ∧ hasKey C.post k = false ∧ x = sg σ k ∧ o = none := fun x o => by
    simp only [hups, postUps, List.mem_append, List.mem_map, deads_mem, Prod.mk.injEq]
    constructor
    · rintro (⟨p, h1, h2, h3⟩ | ⟨k, o1, h1, h2, h3, h4, h5⟩)
      · exact .inl ⟨p.1, p.2, h1, h2.symm, h3.symm⟩
      · exact .inr ⟨k, o1, h1, h2, h3, h4, h5⟩
    · rintro (⟨k, o1, h1, h2, h3⟩ | ⟨k, o1, h1, h2, h3, h4, h5⟩)
      · exact .inl ⟨(k, o1), h1, h2.symm, h3.symm⟩
      · exact .inr ⟨k, o1, h1, h2, h3, h4, h5⟩
  -- a key of post and a dead one have different images
  have hpd : ∀ k o k0 o0, (k, o) ∈ C.post → (k0, o0) ∈ C.pre → o0.own = true → hasKey C.post k0 = false → sg σ k ≠ sg σ k0 := fun k o k0 o0 h1 h2 hw hno e => by
    have hne : k ≠ k0 := fun e => by
      subst e
      have : hasKey C.post k = true := hasKey_iff.2 (List.mem_map_of_mem (f := (·.1)) h1)
      rw [this] at hno
      cases hno
    rcases hown k o h1 with hk | ⟨o1, h3, h4⟩
    · have := (c9 k hk).2 (k0, o0) h2
      rw [e] at this
      simp at this
    · exact hinj k k0 o1 o0 h3 h2 hne h4 e
  refine snd_hcall f fx args aT caps C (sg σ) (newL C.pre C.post) (hups σ C) b dst hok hf hargs ?_ hinj ?_ ?_ ?_ ?_ ?_ ?_ ?_ ?_ ?_ hd
  · exact hp.spec S'.h (fun p hp' => hh _ (by simp only [List.mem_reverse, List.mem_map]; exact ⟨p, hp', rfl⟩))
  · intro v hv k hk
    have := c2 v hv
    simp only [keysB, List.all_eq_true] at this
    exact hasKey_iff.1 (this k hk)
  · intro k o hk x hx
    have := c3 (k, o) hk
    simp only [keysB, List.all_eq_true] at this
    exact hasKey_iff.1 (this x hx)
  · intro k hk
    have := c4
    simp only [keysB, List.all_eq_true] at this
    exact inPP k (this k hk)
  · intro k o hk
    refine ⟨fun x hx => ?_, hown k o hk, fun hw => ?_⟩
    · have := (c5 (k, o) hk).1
      simp only [keysB, List.all_eq_true] at this
      exact inPP x (this x hx)
    · simp only [Bool.or_eq_true, List.all_eq_true] at c8
      rcases c8 with h | h
      · exact h
      · have := h (k, o) hk
        rw [hw] at this
        cases this
  · exact fun k hk => hd' _ (List.mem_map_of_mem hk)
  · intro k hk k' hk' e
    obtain ⟨p, hp1, rfl⟩ := List.mem_map.1 ((newL_mem _ _ _).1 hk).1
    obtain ⟨q, hq1, rfl⟩ := List.mem_map.1 ((newL_mem _ _ _).1 hk').1
    rw [nodup_inj (f := fun p : Nat × Obj => sg σ p.1) nimg p hp1 q hq1 e]
  · intro k o hk
    refine updF_first _ _ _ _ ((hups_mem _ _).2 (.inl ⟨k, o, hk, rfl, rfl⟩)) (fun o' ho' => ?_)
    rcases (hups_mem _ _).1 ho' with ⟨k1, o1, h1, h2, rfl⟩ | ⟨k1, o1, h1, h2, h3, h4, rfl⟩
    · have := nodup_inj (f := fun p : Nat × Obj => sg σ p.1) nimg (k, o) hk (k1, o1) h1 h2
      injection this with _ this
      rw [this]
    · exact absurd h4 (hpd k o k1 o1 hk h1 h2 h3)
  · intro k o hk hw hno
    have hnk : hasKey C.post k = false := by
      cases e : hasKey C.post k with
      | false => rfl
      | true =>
        obtain ⟨p, hp1, hp2⟩ := List.mem_map.1 (hasKey_iff.1 e)
        exact absurd (by rw [← hp2]; exact hp1) (hno p.2)
    refine updF_first _ _ _ _ ((hups_mem _ _).2 (.inr ⟨k, o, hk, hw, hnk, rfl, rfl⟩)) (fun o' ho' => ?_)
    rcases (hups_mem _ _).1 ho' with ⟨k1, o1, h1, h2, rfl⟩ | ⟨k1, o1, h1, h2, h3, h4, rfl⟩
    · exact absurd h2.symm (hpd k1 o1 k o h1 hk hw hnk)
    · rfl
  · intro x h1 h2
    refine updF_of_notin _ _ _ (fun hm => ?_)
    obtain ⟨⟨y, o⟩, hm2, rfl⟩ := List.mem_map.1 hm
    rcases (hups_mem _ _).1 hm2 with ⟨k1, o1, q1, q2, _⟩ | ⟨k1, o1, q1, q2, q3, q4, _⟩
    · exact h1 k1 o1 q1 q2
    · exact h2 k1 o1 q1 q2 q4

theorem hups_new {σ : List (Nat × Nat)} {C : Ctr} : ∀ k ∈ (newL C.pre C.post).map (sg σ), k ∈ (hups σ C).map (·.1) := by
  intro k hk
  obtain ⟨x, hx, rfl⟩ := List.mem_map.1 hk
  obtain ⟨p, hp, rfl⟩ := List.mem_map.1 ((newL_mem _ _ _).1 hx).1
  simp only [hups, postUps, List.map_append, List.mem_append, List.mem_map]
  exact .inl ⟨_, ⟨p, hp, rfl⟩, rfl⟩
theorem memB_rev {a b : List Nat} (k : Nat) : memB (a.reverse ++ b) k = memB (a ++ b) k := by
  rw [memB_eq, memB_eq, List.contains_append, List.contains_append]
  congr 1
  rw [Bool.eq_iff_iff]
  simp
theorem mk_rev (n : Nat) (t : List (Nat × AV)) (h : List (Nat × Option Obj)) (a b : List Nat) : mk n t h (a.reverse ++ b) = mk n t h (a ++ b) := by
  unfold mk
  congr 1
  funext k
  rw [memB_rev]

/-- A call by such a contract; ks: the caller's keys for what is made. -/
theorem v_hcall {f : FuncId} {fx : Operand} {args : List Operand} {aT : Array TypeId} {caps : List Sc} {C : Ctr} {avs : List AV} {σ : List (Nat × Nat)} {b : Bool} (ks : List Nat) {v : AV} {R W : List Nat} {h' : List (Nat × Option Obj)} {dd' : List Nat} (hok : HOK P f C) (hw : wantO t all gd = some true) (hd : Nat.blt d n = true)
    (hf : evO t fx = some (.fn f caps)) (hav : args.map (evA (look t)) ++ caps.map .one = avs) (hσ : inferO h avs C ks = some σ) (hargs : avs = C.args.map (AV.ren (sg σ))) (hp : PreOf h σ C.pre b) (hc : chkH σ C dd b = true) (hout : hcallO σ C h dd = some (v, R, W, h', dd'))
    (H : VO P draw all rest (⟨R, W, [], []⟩ :: lg) (mk n ((d, v) :: t) h' dd') K) : VO P draw all (⟨some d, .call ⟨.value fx, ⟨args⟩, aT⟩, ty, pos, af, gd⟩ :: rest) lg (mk n t h dd) K := by
  obtain ⟨e1, e2, e3, e4, e5⟩ := hcallO_eq hout
  have hc' := hc
  simp only [chkH, Bool.and_eq_true, List.all_eq_true] at hc'
  refine VO.cons (out := ⟨C.res.ren (sg σ), hups σ C, (newL C.pre C.post).map (sg σ)⟩) (R := R) (Rs := []) (C := []) (does_yes hw fun S' hn he hh _ hd' => ?_) (fun k hk => ?_) hups_new (fun k hk => by cases hk) ?_
  · have hmap : args.map (evA S'.t) = args.map (evA (look t)) := List.map_congr_left fun x hx => he x (by simp [Op.operands, Call.operands, hx])
    exact hcall_snd hok (by rw [he fx (by simp [Op.operands, Call.operands])]; exact evO_eq hf) (by rw [hmap, hav]; exact hargs) hp hc (by rw [e2]; exact hh) hd' (fun i hi => by injection hi with hi; subst hi; rw [hn]; simpa using hd)
  · obtain ⟨x, hx, rfl⟩ := List.mem_map.1 hk
    have := (hc'.2 x hx).1
    show (memB dd (sg σ x) || parK (sg σ x)) = false
    simpa using this
  · rw [mk_apply]
    show VO P draw all rest _ (mk n ((d, C.res.ren (sg σ)) :: t) (hups σ C ++ h) ((newL C.pre C.post).map (sg σ) ++ dd)) K
    rw [← mk_rev, e5, e4, e1, e3]
    exact H
theorem v_hcalln {f : FuncId} {fx : Operand} {args : List Operand} {aT : Array TypeId} {caps : List Sc} {C : Ctr} {avs : List AV} {σ : List (Nat × Nat)} {b : Bool} (ks : List Nat) {v : AV} {R W : List Nat} {h' : List (Nat × Option Obj)} {dd' : List Nat} (hok : HOK P f C) (hw : wantO t all gd = some true)
    (hf : evO t fx = some (.fn f caps)) (hav : args.map (evA (look t)) ++ caps.map .one = avs) (hσ : inferO h avs C ks = some σ) (hargs : avs = C.args.map (AV.ren (sg σ))) (hp : PreOf h σ C.pre b) (hc : chkH σ C dd b = true) (hout : hcallO σ C h dd = some (v, R, W, h', dd'))
    (H : VO P draw all rest (⟨R, W, [], []⟩ :: lg) (mk n t h' dd') K) : VO P draw all (⟨none, .call ⟨.value fx, ⟨args⟩, aT⟩, ty, pos, af, gd⟩ :: rest) lg (mk n t h dd) K := by
  obtain ⟨e1, e2, e3, e4, e5⟩ := hcallO_eq hout
  have hc' := hc
  simp only [chkH, Bool.and_eq_true, List.all_eq_true] at hc'
  refine VO.cons (out := ⟨C.res.ren (sg σ), hups σ C, (newL C.pre C.post).map (sg σ)⟩) (R := R) (Rs := []) (C := []) (does_yes hw fun S' hn he hh _ hd' => ?_) (fun k hk => ?_) hups_new (fun k hk => by cases hk) ?_
  · have hmap : args.map (evA S'.t) = args.map (evA (look t)) := List.map_congr_left fun x hx => he x (by simp [Op.operands, Call.operands, hx])
    exact hcall_snd hok (by rw [he fx (by simp [Op.operands, Call.operands])]; exact evO_eq hf) (by rw [hmap, hav]; exact hargs) hp hc (by rw [e2]; exact hh) hd' (fun i hi => by cases hi)
  · obtain ⟨x, hx, rfl⟩ := List.mem_map.1 hk
    have := (hc'.2 x hx).1
    show (memB dd (sg σ x) || parK (sg σ x)) = false
    simpa using this
  · rw [mk_apply_none]
    show VO P draw all rest _ (mk n t (hups σ C ++ h) ((newL C.pre C.post).map (sg σ) ++ dd)) K
    rw [← mk_rev, e5, e4, e3]
    exact H
end
end Go.AM
/- The abstract machine AM, part 27: a contract over objects out of a body. -/
set_option linter.unusedVariables false
set_option linter.unusedSimpArgs false
namespace Go.AM
open Go.RowKit

/-! ### What is handed back -/
inductive ResVs (T : Tab) (S : Fs) : List ResultVar → List AV → Prop where
  | nil : ResVs T S [] []
  | cons {r v rs vs} (h0 : ResOf T S r v) (h1 : ResVs T S rs vs) : ResVs T S (r :: rs) (v :: vs)
def compOf : AV → Option (Bool × List Sc)
  | .one s => some (false, [s])
  | .agg cs => some (true, cs)
  | _ => none
def compsOf : List AV → List (Bool × List Sc) → Option (List (Bool × List Sc))
  | [], acc => revK acc [] some
  | v :: vs, acc => match compOf v with | some c => compsOf vs (c :: acc) | none => none
def toAV : List AV → Option AV
  | [v] => some v
  | vs => match compsOf vs [] with | some cs => some (.tup cs) | none => none
theorem compOf_rel {ρ : Rho} {v : AV} {c : Bool × List Sc} {u : Value} (h : compOf v = some c) (hr : AVRel ρ v u) : CompRel ρ c u := by
  cases v <;> simp [compOf] at h
  case one s => subst h; exact ⟨hr, trivial⟩
  case agg cs => subst h; exact hr
theorem compsOf_rel {ρ : Rho} : ∀ (vs : List AV) (us : List Value) (acc : List (Bool × List Sc)) (cs : List (Bool × List Sc)), compsOf vs acc = some cs → AVsRel ρ vs us → ∃ cs', cs = acc.reverse ++ cs' ∧ CompsRel ρ cs' us
  | [], [], acc, cs, h, _ => ⟨[], by simpa [compsOf, revK_eq] using h.symm, trivial⟩
  | [], _ :: _, _, _, _, h => h.elim
  | _ :: _, [], _, _, _, h => h.elim
  | v :: vs, u :: us, acc, cs, h, hr => by
    simp only [compsOf] at h
    split at h
    · rename_i c hc
      obtain ⟨cs', h1, h2⟩ := compsOf_rel vs us (c :: acc) cs h hr.2
      exact ⟨c :: cs', by simpa using h1, compOf_rel hc hr.1, h2⟩
    · cases h
theorem toAV_rel {ρ : Rho} {vs : List AV} {us : List Value} {v : AV} (h : toAV vs = some v) (hr : AVsRel ρ vs us) : AVRel ρ v (if h : us.length = 1 then us[0] else .tuple us.toArray) := by
  match vs, us, hr with
  | [], [], _ =>
    simp [toAV, compsOf, revK] at h
    subst h
    exact ⟨[], rfl, trivial⟩
  | [x], [u], hr => simp [toAV] at h; subst h; exact hr.1
  | x :: y :: vs, u :: z :: us, hr =>
    simp only [toAV] at h
    split at h
    · rename_i cs hc
      injection h with h
      subst h
      obtain ⟨cs', h1, h2⟩ := compsOf_rel _ _ [] cs hc hr
      simp at h1
      subst h1
      rw [dif_neg (by simp)]
      exact ⟨_, rfl, h2⟩
    · cases h
  | [_], _ :: _ :: _, hr => exact hr.2.elim
  | _ :: _ :: _, [_], hr => exact hr.2.elim
theorem ResVs.rel {T : Tab} {P : Program} {base : Nat} {B : BB} {w0 w : World} {ρ : Rho} {S : Fs} {a : Act} (hT : TabOK P T) (hR : Rel base B w0 ρ S a w) {rs : List ResultVar} {vs : List AV} (h : ResVs T S rs vs) :
    ∃ us, (rs.mapM (resRun a.tmps)).run P w = .ok us w ∧ us.length = rs.length ∧ AVsRel ρ vs us := by
  induction h with
  | nil => exact ⟨[], by simp, rfl, trivial⟩
  | cons h0 h1 ih =>
    obtain ⟨us, g1, g2, g3⟩ := ih
    obtain ⟨u, q1, q2⟩ := h0.run hT hR
    exact ⟨u :: us, by simp only [List.mapM_cons, Sem.run_bind, q1, Result.andThen_ok, g1, Sem.run_pure], by simp [g2], q2, g3⟩

/-! ### The end of a body -/
inductive PostOf (h : Nat → Option Obj) (σ : List (Nat × Nat)) : List (Nat × Obj) → Prop where
  | nil : PostOf h σ []
  | cons {k o o' l} (e : h (sg σ k) = some o') (e2 : o' = o.ren (sg σ)) (H : PostOf h σ l) : PostOf h σ ((k, o) :: l)
theorem PostOf.spec {h : Nat → Option Obj} {σ : List (Nat × Nat)} {l : List (Nat × Obj)} (H : PostOf h σ l) : ∀ k o, (k, o) ∈ l → h (sg σ k) = some (o.ren (sg σ)) := by
  induction H with
  | nil => intro k o hk; cases hk
  | cons e e2 H ih =>
    intro k1 o1 hk
    rcases List.mem_cons.1 hk with hk | hk
    · injection hk with h1 h2; subst h1 h2; rw [e, e2]
    · exact ih k1 o1 hk
def chkE (σ : List (Nat × Nat)) (C : Ctr) : Bool :=
  σ.all (fun p => !parK p.1) && keysOk.nodupB (C.post.map fun p => sg σ p.1) && C.res.keys.all (fun k => parK k || hasKey C.post k) && C.post.all fun p => p.2.keys.all fun k => parK k || hasKey C.post k
def EndH (T : Tab) (rs : List ResultVar) (C : Ctr) (S : Fs) : Prop :=
  ∃ (σ : List (Nat × Nat)) (vs : List AV) (v : AV), ResVs T S rs vs ∧ toAV vs = some v ∧ v = C.res.ren (sg σ) ∧ PostOf S.h σ C.post ∧ chkE σ C = true
def EndHQ (T : Tab) (rs : List ResultVar) (C : Ctr) : Exit → Fs → Prop
  | .normal, S => EndH T rs C S
  | .ret, S => EndH T rs C S
  | _, _ => False

def slotsOf : Nat → List AV → List (Nat × AV)
  | _, [] => []
  | i, v :: vs => (i, v) :: slotsOf (i + 1) vs
theorem slotsOf_look : ∀ (vs : List AV) (i j : Nat), look (slotsOf i vs) (i + j) = (vs[j]?).getD .unk
  | [], i, j => rfl
  | v :: vs, i, 0 => by simp [slotsOf, look]
  | v :: vs, i, j + 1 => by
    simp only [slotsOf, look]
    rw [show Nat.beq i (i + (j + 1)) = false from by cases hb : Nat.beq i (i + (j + 1)) with | false => rfl | true => have := Nat.eq_of_beq_eq_true hb; omega]
    simp only [cond_false]
    have := slotsOf_look vs (i + 1) j
    rw [show i + 1 + j = i + (j + 1) by omega] at this
    simpa using this
def preH (C : Ctr) : List (Nat × Option Obj) := C.pre.map fun p => (p.1, some p.2)
def initH (n : Nat) (C : Ctr) : Fs := mk n (slotsOf 0 C.args) (preH C) []
def chkI (C : Ctr) : Bool := keysOk.nodupB (C.pre.map (·.1)) && C.pre.all (fun p => parK p.1) && C.args.all (fun v => v.keys.all parK) && C.pre.all fun p => p.2.keys.all parK
theorem preH_look {C : Ctr} {k : Nat} {o : Obj} : ∀ (l : List (Nat × Obj)), hlook (l.map fun p => (p.1, some p.2)) k = some o → (k, o) ∈ l
  | [], h => by cases h
  | (x, o1) :: l, h => by
    simp only [List.map_cons, hlook] at h
    cases hb : Nat.beq x k with
    | true =>
      rw [hb] at h
      obtain rfl := Nat.eq_of_beq_eq_true hb
      simp at h
      subst h
      simp
    | false => rw [hb] at h; exact List.mem_cons_of_mem _ (preH_look (C := C) l h)

theorem AVsRel.get {ρ : Rho} : ∀ {vs : List AV} {us : List Value}, AVsRel ρ vs us → us.length = vs.length ∧ ∀ (j : Nat) (u : Value), us[j]? = some u → AVRel ρ ((vs[j]?).getD .unk) u
  | [], [], _ => ⟨rfl, fun j u h => by simp at h⟩
  | v :: vs, u :: us, h => by
    obtain ⟨h1, h2⟩ := AVsRel.get h.2
    refine ⟨by simp [h1], fun j x hj => ?_⟩
    cases j with
    | zero => simp at hj; subst hj; exact h.1
    | succ j => simpa using h2 j x (by simpa using hj)
  | [], _ :: _, h => h.elim
  | _ :: _, [], h => h.elim

theorem HOK.intro {P : Program} {T : Tab} {f : FuncId} {fn : Func} {c : Code} {C : Ctr} {n : Nat} {rs : List ResultVar} (hT : TabOK P T) (hfn : P.funcs[f]? = some fn) (hname : (fn.name == "runtime.NumGoroutine") = false) (hb : fn.body = some c) (hn : fn.ntmps = n) (hrs : fn.results.toList = rs)
    (hln : Nat.ble C.args.length n = true) (hi : chkI C = true) (h : WP P c (initH n C) (EndHQ T rs C)) : HOK P f C := by
  refine ⟨⟨fn, hfn, hname, by rw [hb]; rfl⟩, fun w us ρ hargs hpre => ?_⟩
  have hln' : C.args.length ≤ n := by simpa using hln
  simp only [chkI, Bool.and_eq_true, List.all_eq_true] at hi
  obtain ⟨⟨⟨i0, i1⟩, i2⟩, i3⟩ := hi
  have npre := nodupB_spec _ i0
  obtain ⟨hl, hget⟩ := hargs.get
  refine calls_of_wp hfn hb ?_
  have hp1 : ∀ k o, (k, o) ∈ C.pre → parK k = true := fun k o hk => i1 (k, o) hk
  have idS : ∀ s : Sc, s.ren id = s := fun s => by cases s <;> rfl
  have idSs : ∀ l : List Sc, l.map (Sc.ren id) = l := fun l => by
    rw [show (Sc.ren id) = id from funext idS]; simp
  have idA : ∀ v : AV, v.ren id = v := fun v => by
    cases v with
    | unk => rfl
    | one s => simp only [AV.ren, idS]
    | agg cs => simp only [AV.ren, idSs]
    | tup vs => simp only [AV.ren, idSs]; simp
    | fn f cs => simp only [AV.ren, idSs]
  have idO : ∀ o : Obj, o.ren id = o := fun o => by cases o <;> simp only [Obj.ren, idSs]
  have hhas : ∀ {k o b}, (k, o) ∈ C.pre → ((ren ρ id parK).has k b ↔ ρ.has k b) := fun {k o b} hk => ren_has (hp1 k o hk)
  have hR : Rel w.heap.size ⟨ownB ρ C.pre, anyB ρ C.pre⟩ w (ren ρ id parK) (initH n C) { tmps := us.toArray ++ Array.replicate (n - us.length) undef, defers := [] } w := by
    refine ⟨by simp [initH, mk]; omega, fun i => ?_, fun k o ho => ?_, fun k k' o o' b hne h1 h2 hw hb hb' => ?_, fun k o b h1 hw hb => ?_, fun k o b h1 hw hb => ?_, fun k v hv => ?_, rfl, rfl, rfl, Nat.le_refl _, fun _ _ _ => rfl, Nat.le_refl _, rfl⟩
    · show AVRel _ (look (slotsOf 0 C.args) i) _
      have hlk := slotsOf_look C.args 0 i
      rw [Nat.zero_add] at hlk
      rw [hlk]
      by_cases hi : i < us.length
      · have := hget i us[i] (List.getElem?_eq_getElem hi)
        rw [Array.getD_eq_getD_getElem?, Array.getElem?_append_left (by simpa using hi)]
        simp only [List.getElem?_toArray, List.getElem?_eq_getElem hi, Option.getD_some]
        refine AVRel.ren (by rw [idA]; exact this) (fun k hk => ?_)
        rw [List.getElem?_eq_getElem (by omega)] at hk
        exact i2 _ (List.getElem_mem (by omega)) k hk
      · rw [List.getElem?_eq_none (by omega)]; trivial
    · have hm := preH_look (C := C) C.pre ho
      obtain ⟨v, g1, g2, g3, g4⟩ := hpre.1 k o hm
      exact ⟨v, by rw [ren_in (hp1 k o hm)]; exact g1, g2, ORel.ren (by rw [idO]; exact g3) (fun x hx => i3 (k, o) hm x hx), fun b hb => g4 b ((hhas hm).1 hb)⟩
    · have m1 := preH_look (C := C) C.pre h1
      have m2 := preH_look (C := C) C.pre h2
      exact hpre.2 k k' o o' b hne m1 m2 hw ((hhas m1).1 hb) ((hhas m2).1 hb')
    · have m1 := preH_look (C := C) C.pre h1
      exact .inr ⟨k, o, m1, hw, (hhas m1).1 hb⟩
    · have m1 := preH_look (C := C) C.pre h1
      exact .inr (.inr ⟨k, o, m1, (hhas m1).1 hb⟩)
    · show (memB [] k || parK k) = true
      cases hk : parK k with
      | true => rfl
      | false => simp [ren, hk] at hv
  have hwp := h _ _ _ _ _ w hR
  have e : { tmps := us.toArray ++ Array.replicate (fn.ntmps - us.toArray.size) undef, defers := [] } = ({ tmps := us.toArray ++ Array.replicate (n - us.length) undef, defers := [] } : Act) := by rw [hn]; simp
  rw [e]
  refine wp_mono hwp fun x a' w' hq => ?_
  obtain ⟨ρ', S', hp, hR', hq⟩ := hq
  have hend : EndH T rs C S' → ∃ v, (results fn a'.tmps).run P w' = .ok v w' ∧ ∃ u ρ', Ending.returned v = .returned u ∧ (∀ k o, (k, o) ∈ C.pre → ρ' k = ρ k ∧ ρ'.g k = ρ.g k) ∧ AVRel ρ' C.res u ∧ okAll w' ρ' C.post ∧
      (∀ k o b, (k, o) ∈ C.post → o.own = true → ρ'.has k b → w.heap.size ≤ b ∨ ownB ρ C.pre b) ∧ (∀ k o b, (k, o) ∈ C.post → ρ'.has k b → w.heap.size ≤ b ∨ anyB ρ C.pre b) ∧
      w'.os = w.os ∧ w'.tape = w.tape ∧ w'.output = w.output ∧ w.heap.size ≤ w'.heap.size ∧ ∀ b, b < w.heap.size → ¬ ownB ρ C.pre b → w'.heap[b]? = w.heap[b]? := by
    rintro ⟨σ, vs, v, hrv, hav, hv, hpo, hc⟩
    obtain ⟨vals, hrun, hlv, hrel⟩ := hrv.rel hT hR'
    have hu := toAV_rel hav hrel
    have hresults : (results fn a'.tmps).run P w' = .ok (if h : vals.length = 1 then vals[0] else .tuple vals.toArray) w' := by
      have e2 : (results fn a'.tmps) = (do let vs ← fn.results.mapM (resRun a'.tmps); pure (if h : vs.size = 1 then vs[0] else .tuple vs)) := by
        unfold results
        congr 1
      rw [e2, Array.mapM_eq_mapM_toList, hrs]
      simp [hrun]
    simp only [chkE, Bool.and_eq_true, List.all_eq_true] at hc
    obtain ⟨⟨⟨c1, c2⟩, c3⟩, c4⟩ := hc
    have nimg := nodupB_spec _ c2
    have hsp : ∀ k, parK k = true → sg σ k = k := by
      intro k hk
      have : ∀ σ : List (Nat × Nat), (∀ p ∈ σ, (!parK p.1) = true) → sg σ k = k := by
        intro σ
        induction σ with
        | nil => intro _; rfl
        | cons p σ ih =>
          intro hp
          obtain ⟨a, b⟩ := p
          simp only [sg]
          cases hb : Nat.beq a k with
          | true =>
            have e := Nat.eq_of_beq_eq_true hb
            have h1 := hp (a, b) (by simp)
            simp only [e, hk] at h1
            cases h1
          | false => exact ih fun p hp' => hp p (by simp [hp'])
      exact this σ c1
    have hD : ∀ k o, (k, o) ∈ C.post → (fun k => parK k || hasKey C.post k) k = true := fun k o hk => by
      have : hasKey C.post k = true := hasKey_iff.2 (List.mem_map_of_mem (f := (·.1)) hk)
      simp [this]
    have hDp : ∀ k, parK k = true → (fun k => parK k || hasKey C.post k) k = true := fun k hk => by simp [hk]
    have hspec := hpo.spec
    refine ⟨_, hresults, _, ren ρ' (sg σ) (fun k => parK k || hasKey C.post k), rfl, fun k o hk => ?_, AVRel.ren (by rw [← hv]; exact hu) (fun k hk => c3 k hk), ⟨fun k o hk => ?_, fun k k' o o' b hne h1 h2 hw hb hb' => ?_⟩, fun k o b hk hw hb => ?_, fun k o b hk hb => ?_, hR'.os, hR'.tape, hR'.output, hR'.size, fun b hb hB => hR'.frame b hb hB⟩
    · have hpk := hp1 k o hk
      obtain ⟨v0, g1, _⟩ := hpre.1 k o hk
      obtain ⟨q1, q2⟩ := hp k v0 (by simp [parK] at hpk; omega) (by simp [parK] at hpk; omega) (by rw [ren_in hpk]; exact g1)
      rw [ren_in (hDp k hpk), ren_g, hsp k hpk]
      exact ⟨by rw [q1, g1], q2⟩
    · obtain ⟨v1, g1, g2, g3, g4⟩ := hR'.obj _ _ (hspec k o hk)
      exact ⟨v1, by rw [ren_in (hD k o hk)]; exact g1, g2, ORel.ren g3 (fun x hx => c4 (k, o) hk x hx), fun b hb => g4 b ((ren_has (hD k o hk)).1 hb)⟩
    · refine hR'.apart (sg σ k) (sg σ k') _ _ b (fun e => hne ?_) (hspec k o h1) (hspec k' o' h2) (by rw [Obj.own_ren]; exact hw) ((ren_has (hD k o h1)).1 hb) ((ren_has (hD k' o' h2)).1 hb')
      have := nodup_inj (f := fun p : Nat × Obj => sg σ p.1) nimg (k, o) h1 (k', o') h2 e
      injection this
    · exact hR'.mine (sg σ k) _ b (hspec k o hk) (by rw [Obj.own_ren]; exact hw) ((ren_has (hD k o hk)).1 hb)
    · have hb1 := (ren_has (hD k o hk)).1 hb
      cases how : o.own with
      | true =>
        rcases hR'.mine (sg σ k) _ b (hspec k o hk) (by rw [Obj.own_ren]; exact how) hb1 with g | g
        · exact .inl g
        · exact .inr g.any
      | false =>
        rcases hR'.seen (sg σ k) _ b (hspec k o hk) (by rw [Obj.own_ren]; exact how) hb1 with g | g | g
        · exact .inl g
        · exact .inr g.any
        · exact .inr g
  cases x with
  | normal => obtain ⟨v, h1, h2⟩ := hend hq; exact ⟨hR'.defers, v, h1, h2⟩
  | ret => obtain ⟨v, h1, h2⟩ := hend hq; exact ⟨hR'.defers, v, h1, h2⟩
  | _ => exact hq.elim

/-! ### Over states written as lists -/
def slotsK {β : Type} : List Nat → List AV → List (Nat × AV) → (List (Nat × AV) → Option β) → Option β
  | _, [], acc, c => revK acc [] c
  | i :: is, v :: vs, acc, c => slotsK is vs ((i, v) :: acc) c
  | [], _ :: _, _, _ => none
def prK {β : Type} : List (Nat × Obj) → List (Nat × Option Obj) → (List (Nat × Option Obj) → Option β) → Option β
  | [], acc, c => revK acc [] c
  | (k, o) :: l, acc, c => prK l ((k, some o) :: acc) c
def initHO (C : Ctr) : Option (List (Nat × AV) × HL) := slotsK slotT C.args [] fun t => prK C.pre [] fun h => some (t, h)
theorem slotsK_eq {β : Type} {b : β} (c : List (Nat × AV) → Option β) : ∀ (is : List Nat) (vs : List AV) (i : Nat) (acc : List (Nat × AV)), upFrom i is → slotsK is vs acc c = some b → c (acc.reverse ++ slotsOf i vs) = some b
  | is, [], i, acc, _, e => by cases is <;> simpa [slotsK, revK_eq, slotsOf] using e
  | [], v :: vs, i, acc, _, e => by simp [slotsK] at e
  | x :: is, v :: vs, i, acc, hu, e => by
    obtain ⟨rfl, hu⟩ := hu
    have := slotsK_eq c is vs (x + 1) ((x, v) :: acc) hu (by simpa [slotsK] using e)
    simpa [slotsOf] using this
theorem prK_eq {β : Type} (c : List (Nat × Option Obj) → Option β) : ∀ (l : List (Nat × Obj)) (acc : List (Nat × Option Obj)), prK l acc c = c (acc.reverse ++ l.map fun p => (p.1, some p.2))
  | [], acc => by simp [prK, revK_eq]
  | (k, o) :: l, acc => by simp [prK, prK_eq c l]
theorem initHO_eq {C : Ctr} {t : List (Nat × AV)} {h : HL} (e : initHO C = some (t, h)) (n : Nat) : initH n C = mk n t h [] := by
  have := slotsK_eq _ slotT C.args 0 [] (by simp [slotT, upFrom]) e
  simp only [List.reverse_nil, List.nil_append, prK_eq, Option.some.injEq, Prod.mk.injEq] at this
  unfold initH
  rw [this.1, ← this.2]
  rfl
theorem W.hfn {P : Program} {T : Tab} {f : FuncId} {fn : Func} {c : Code} {C : Ctr} (n : Nat) (rs : List ResultVar) {t : List (Nat × AV)} {h : HL} (hT : TabOK P T) (hfn : P.funcs[f]? = some fn) (hname : (fn.name == "runtime.NumGoroutine") = false) (hb : fn.body = some c) (hn : Nat.beq fn.ntmps n = true) (hrs : fn.results.toList = rs)
    (hln : Nat.ble C.args.length n = true) (hc : chkI C = true) (hi : initHO C = some (t, h)) (H : W P c (AM.mk n t h []) (EndHQ T rs C)) : HOK P f C :=
  HOK.intro hT hfn hname hb (Nat.eq_of_beq_eq_true hn) hrs hln hc (by rw [initHO_eq hi]; exact H.wp)
section
variable {T : Tab} {S : Fs} {rs : List ResultVar} {C : Ctr}
theorem q_hen (h : EndH T rs C S) : EndHQ T rs C .normal S := h
theorem q_her (h : EndH T rs C S) : EndHQ T rs C .ret S := h
variable {n : Nat} {t : List (Nat × AV)} {h : List (Nat × Option Obj)} {dd : List Nat}
/-- The end: the results' slots, their keys by σ, what is left. -/
theorem e_h (σ : List (Nat × Nat)) {vs : List AV} {v : AV} (hr : ResVs T (mk n t h dd) rs vs) (hv : toAV vs = some v) (e : v = C.res.ren (sg σ)) (hp : PostOf (hlook h) σ C.post) (hc : chkE σ C = true) : EndH T rs C (mk n t h dd) := ⟨σ, vs, v, hr, hv, e, hp, hc⟩
theorem r_tmp {i : Nat} {v : AV} {rs : List ResultVar} {vs : List AV} (h1 : lookO t i = some v) (H : ResVs T (mk n t h dd) rs vs) : ResVs T (mk n t h dd) (.tmp i :: rs) (v :: vs) := .cons (.tmp (lookO_eq h1)) H
theorem r_cellN {x tt k : Nat} {cs : List Sc} {ti : TY} {rs : List ResultVar} {vs : List AV} (hx : lookO t x = some (.one (.r k))) (hk : boxO (hO h k) = some cs) (ht : tlook T tt = some ti) (ha : aggB ti.u = true) (hl : ti.zs.length = cs.length) (H : ResVs T (mk n t h dd) rs vs) : ResVs T (mk n t h dd) (.cell x tt :: rs) (.agg cs :: vs) := by
  obtain ⟨o, h1, h2⟩ := boxO_eq hk
  exact .cons (.cellN (lookO_eq hx) (hO_eq h1) h2 ht ha hl) H
theorem r_cell1 {x tt k : Nat} {s : Sc} {ti : TY} {rs : List ResultVar} {vs : List AV} (hx : lookO t x = some (.one (.r k))) (hk : boxO (hO h k) = some [s]) (ht : tlook T tt = some ti) (ha : aggB ti.u = false) (H : ResVs T (mk n t h dd) rs vs) : ResVs T (mk n t h dd) (.cell x tt :: rs) (.one s :: vs) := by
  obtain ⟨o, h1, h2⟩ := boxO_eq hk
  exact .cons (.cell1 (lookO_eq hx) (hO_eq h1) h2 ht ha) H
theorem p_cons {k : Nat} {o o' : Obj} {σ : List (Nat × Nat)} {l : List (Nat × Obj)} (e : hO h (sg σ k) = some o') (e2 : o' = o.ren (sg σ)) (H : PostOf (hlook h) σ l) : PostOf (hlook h) σ ((k, o) :: l) := .cons (hO_eq e) e2 H
end
end Go.AM
/- The abstract machine AM, part 28: bits and shifts of numbers that are not negative; a slice that is nil taken for an empty row. -/
set_option linter.unusedVariables false
set_option linter.unusedSimpArgs false
namespace Go.AM
open Go.RowKit

theorem i64_nat (r : Nat) (h : r < 9223372036854775808) : IntKind.i64.wrap (r : Int) = (r : Int) := IntWalk.i64_in _ (by omega)
theorem bv_nat (a : Int) (h0 : 0 ≤ a) (h1 : a ≤ 9223372036854775807) : (BitVec.ofInt 64 a).toNat = a.toNat := by
  rw [BitVec.toNat_ofInt]; omega
theorem xor_lt (a b : Nat) (ha : a < 9223372036854775808) (hb : b < 9223372036854775808) : a ^^^ b < 9223372036854775808 := Nat.xor_lt_two_pow (n := 63) ha hb
theorem and_lt (a b : Nat) (ha : a < 9223372036854775808) : a &&& b < 9223372036854775808 := Nat.lt_of_le_of_lt Nat.and_le_left ha
theorem or_lt (a b : Nat) (ha : a < 9223372036854775808) (hb : b < 9223372036854775808) : a ||| b < 9223372036854775808 := Nat.or_lt_two_pow (n := 63) ha hb
section
variable {P : Program} {T : Tab} {draw : Bool} {all rest : List Oper} {lg : FPs} {n : Nat} {t : List (Nat × AV)} {h : List (Nat × Option Obj)} {dd : List Nat} {K : Fs → Prop}
variable {d : Nat} {ty : TypeId} {pos : String} {af : Array Edge} {gd : Option (Nat × Bool)}
theorem v_xor {t1 t2 : TypeId} {x y : Operand} {a b : Int} (hw : wantO t all gd = some true) (hd : Nat.blt d n = true) (hx : evO t x = some (.one (.c (.int .i64 a)))) (hy : evO t y = some (.one (.c (.int .i64 b)))) (hb : 0 ≤ a ∧ a ≤ 9223372036854775807 ∧ 0 ≤ b ∧ b ≤ 9223372036854775807) (H : VO P draw all rest (⟨[], [], [], []⟩ :: lg) (mk n ((d, .one (.c (.int .i64 ((a.toNat ^^^ b.toNat : Nat) : Int)))) :: t) h dd) K) : VO P draw all (⟨some d, .binOp .xor t1 x y t2, ty, pos, af, gd⟩ :: rest) lg (mk n t h dd) K := by
  refine VO.val (R := []) (Rs := []) hw (fun S' hn he hh hsh => ?_) H
  have hdn : d < S'.n := by rw [hn]; simpa using hd
  have ex := evs (o := ⟨some d, .binOp .xor t1 x y t2, ty, pos, af, gd⟩) he (x := x) (by simp [Op.operands, Call.operands]) hx
  have ey := evs (o := ⟨some d, .binOp .xor t1 x y t2, ty, pos, af, gd⟩) he (x := y) (by simp [Op.operands, Call.operands]) hy
  have hr : (BitVec.ofInt 64 a ^^^ BitVec.ofInt 64 b).toNat = a.toNat ^^^ b.toNat := by rw [BitVec.toNat_xor, bv_nat a hb.1 hb.2.1, bv_nat b hb.2.2.1 hb.2.2.2]
  refine snd_bits .xor t1 t2 x y .i64 a b _ ex ey (fun w => ?_) (.inr (.inr (.inl rfl))) rfl hdn
  have := i64_nat (a.toNat ^^^ b.toNat) (xor_lt _ _ (by omega) (by omega))
  simp only [Op.intBits]
  show (pure (Value.int .i64 (IntKind.i64.wrap ((BitVec.ofInt 64 a ^^^ BitVec.ofInt 64 b).toNat : Int))) : Sem Value).run P w = _
  rw [hr, this]; simp
theorem v_and {t1 t2 : TypeId} {x y : Operand} {a b : Int} (hw : wantO t all gd = some true) (hd : Nat.blt d n = true) (hx : evO t x = some (.one (.c (.int .i64 a)))) (hy : evO t y = some (.one (.c (.int .i64 b)))) (hb : 0 ≤ a ∧ a ≤ 9223372036854775807 ∧ 0 ≤ b ∧ b ≤ 9223372036854775807) (H : VO P draw all rest (⟨[], [], [], []⟩ :: lg) (mk n ((d, .one (.c (.int .i64 ((a.toNat &&& b.toNat : Nat) : Int)))) :: t) h dd) K) : VO P draw all (⟨some d, .binOp .and t1 x y t2, ty, pos, af, gd⟩ :: rest) lg (mk n t h dd) K := by
  refine VO.val (R := []) (Rs := []) hw (fun S' hn he hh hsh => ?_) H
  have hdn : d < S'.n := by rw [hn]; simpa using hd
  have ex := evs (o := ⟨some d, .binOp .and t1 x y t2, ty, pos, af, gd⟩) he (x := x) (by simp [Op.operands, Call.operands]) hx
  have ey := evs (o := ⟨some d, .binOp .and t1 x y t2, ty, pos, af, gd⟩) he (x := y) (by simp [Op.operands, Call.operands]) hy
  have hr : (BitVec.ofInt 64 a &&& BitVec.ofInt 64 b).toNat = a.toNat &&& b.toNat := by rw [BitVec.toNat_and, bv_nat a hb.1 hb.2.1, bv_nat b hb.2.2.1 hb.2.2.2]
  refine snd_bits .and t1 t2 x y .i64 a b _ ex ey (fun w => ?_) (.inl rfl) rfl hdn
  have := i64_nat (a.toNat &&& b.toNat) (and_lt _ _ (by omega))
  simp only [Op.intBits]
  show (pure (Value.int .i64 (IntKind.i64.wrap ((BitVec.ofInt 64 a &&& BitVec.ofInt 64 b).toNat : Int))) : Sem Value).run P w = _
  rw [hr, this]; simp
theorem v_or {t1 t2 : TypeId} {x y : Operand} {a b : Int} (hw : wantO t all gd = some true) (hd : Nat.blt d n = true) (hx : evO t x = some (.one (.c (.int .i64 a)))) (hy : evO t y = some (.one (.c (.int .i64 b)))) (hb : 0 ≤ a ∧ a ≤ 9223372036854775807 ∧ 0 ≤ b ∧ b ≤ 9223372036854775807) (H : VO P draw all rest (⟨[], [], [], []⟩ :: lg) (mk n ((d, .one (.c (.int .i64 ((a.toNat ||| b.toNat : Nat) : Int)))) :: t) h dd) K) : VO P draw all (⟨some d, .binOp .or t1 x y t2, ty, pos, af, gd⟩ :: rest) lg (mk n t h dd) K := by
  refine VO.val (R := []) (Rs := []) hw (fun S' hn he hh hsh => ?_) H
  have hdn : d < S'.n := by rw [hn]; simpa using hd
  have ex := evs (o := ⟨some d, .binOp .or t1 x y t2, ty, pos, af, gd⟩) he (x := x) (by simp [Op.operands, Call.operands]) hx
  have ey := evs (o := ⟨some d, .binOp .or t1 x y t2, ty, pos, af, gd⟩) he (x := y) (by simp [Op.operands, Call.operands]) hy
  have hr : (BitVec.ofInt 64 a ||| BitVec.ofInt 64 b).toNat = a.toNat ||| b.toNat := by rw [BitVec.toNat_or, bv_nat a hb.1 hb.2.1, bv_nat b hb.2.2.1 hb.2.2.2]
  refine snd_bits .or t1 t2 x y .i64 a b _ ex ey (fun w => ?_) (.inr (.inl rfl)) rfl hdn
  have := i64_nat (a.toNat ||| b.toNat) (or_lt _ _ (by omega) (by omega))
  simp only [Op.intBits]
  show (pure (Value.int .i64 (IntKind.i64.wrap ((BitVec.ofInt 64 a ||| BitVec.ofInt 64 b).toNat : Int))) : Sem Value).run P w = _
  rw [hr, this]; simp
theorem v_shl {t1 t2 : TypeId} {x y : Operand} {k2 : IntKind} {a b : Int} (hw : wantO t all gd = some true) (hd : Nat.blt d n = true) (hx : evO t x = some (.one (.c (.int .i64 a)))) (hy : evO t y = some (.one (.c (.int k2 b)))) (hb : 0 ≤ b ∧ b ≤ 62) (hr : -9223372036854775808 ≤ a * 2 ^ b.toNat ∧ a * 2 ^ b.toNat ≤ 9223372036854775807) (H : VO P draw all rest (⟨[], [], [], []⟩ :: lg) (mk n ((d, .one (.c (.int .i64 (a * 2 ^ b.toNat)))) :: t) h dd) K) : VO P draw all (⟨some d, .binOp .shl t1 x y t2, ty, pos, af, gd⟩ :: rest) lg (mk n t h dd) K := by
  refine VO.val (R := []) (Rs := []) hw (fun S' hn he hh hsh => ?_) H
  have hdn : d < S'.n := by rw [hn]; simpa using hd
  have ex := evs (o := ⟨some d, .binOp .shl t1 x y t2, ty, pos, af, gd⟩) he (x := x) (by simp [Op.operands, Call.operands]) hx
  have ey := evs (o := ⟨some d, .binOp .shl t1 x y t2, ty, pos, af, gd⟩) he (x := y) (by simp [Op.operands, Call.operands]) hy
  refine snd_shift .shl t1 t2 x y .i64 k2 a b _ ex ey (fun w => ?_) (.inl rfl) rfl hdn
  have hm : min b.toNat IntKind.i64.bits = b.toNat := by show min b.toNat 64 = _; omega
  have := IntWalk.i64_in (a * 2 ^ b.toNat) (by omega)
  simp only [Op.shift, show ¬ b < 0 by omega, if_false, hm, this]
  simp
theorem v_shr {t1 t2 : TypeId} {x y : Operand} {k2 : IntKind} {a b : Int} (hw : wantO t all gd = some true) (hd : Nat.blt d n = true) (hx : evO t x = some (.one (.c (.int .i64 a)))) (hy : evO t y = some (.one (.c (.int k2 b)))) (hb : 0 ≤ b ∧ b ≤ 62) (H : VO P draw all rest (⟨[], [], [], []⟩ :: lg) (mk n ((d, .one (.c (.int .i64 (a / 2 ^ b.toNat)))) :: t) h dd) K) : VO P draw all (⟨some d, .binOp .shr t1 x y t2, ty, pos, af, gd⟩ :: rest) lg (mk n t h dd) K := by
  refine VO.val (R := []) (Rs := []) hw (fun S' hn he hh hsh => ?_) H
  have hdn : d < S'.n := by rw [hn]; simpa using hd
  have ex := evs (o := ⟨some d, .binOp .shr t1 x y t2, ty, pos, af, gd⟩) he (x := x) (by simp [Op.operands, Call.operands]) hx
  have ey := evs (o := ⟨some d, .binOp .shr t1 x y t2, ty, pos, af, gd⟩) he (x := y) (by simp [Op.operands, Call.operands]) hy
  refine snd_shift .shr t1 t2 x y .i64 k2 a b _ ex ey (fun w => ?_) (.inr rfl) rfl hdn
  have hm : min b.toNat IntKind.i64.bits = b.toNat := by show min b.toNat 64 = _; omega
  have hq : a.fdiv (2 ^ b.toNat) = a / 2 ^ b.toNat := Int.fdiv_eq_ediv_of_nonneg _ (Int.le_of_lt (Int.pow_pos (by decide)))
  simp only [Op.shift, show ¬ b < 0 by omega, if_false, hm, hq]
  simp
end

/-! ### nil taken for an empty row -/
section
variable {n : Nat} {t : List (Nat × AV)} {h : List (Nat × Option Obj)} {dd : List Nat}
theorem orel_nil {w : World} {ρ : Rho} {gs : List Value} (ty : TypeId) (fks : List FK) : ORel w ρ (.slice none 0 0) gs (.vec ty fks []) := ⟨fun _ h => by simp at h, by simp [flat], .inl ⟨rfl, rfl⟩⟩
theorem no_blk {ρ : Rho} {k b : Nat} (h : (ρ.put k (.slice none 0 0) []).has k b) : False := by
  rw [Rho.put_has] at h
  simp [blk, refA] at h
/-- The nil slice of a slot. -/
theorem Wk.nilS (i k : Nat) (ty : TypeId) (fks : List FK) (hi : lookO t i = some (.one (.c (.slice none 0 0)))) (hk : (memB dd k || parK k) = false) : Wk (mk n t h dd) (mk n ((i, .one (.r k)) :: t) ((k, some (.vec ty fks [])) :: h) (k :: dd)) := by
  intro base B w0 ρ a w hR
  obtain ⟨hn, e, hnone⟩ := hR.name k (.slice none 0 0) hk
  have hput := ρ.put_at k (.slice none 0 0) []
  have hl : hlook ((k, some (.vec ty fks [])) :: h) = fun x => if x = k then some (.vec ty fks []) else hlook h x := by
    funext x
    simp only [hlook]
    by_cases hx : x = k
    · subst hx; simp
    · rw [if_neg hx, show Nat.beq k x = false from by cases hb : Nat.beq k x with | false => rfl | true => exact absurd (Nat.eq_of_beq_eq_true hb).symm hx]; rfl
  have h2 := hn.add k (.slice none 0 0) (.vec ty fks []) hput.1 rfl (orel_nil ty fks) (fun b hb => (no_blk hb).elim) (fun _ b hb => (no_blk hb).elim) (fun hw => by cases hw) (fun _ _ b _ _ _ hb => (no_blk hb).elim)
  refine ⟨_, e.p, ⟨h2.siz, fun j => ?_, fun k' o ho => ?_, fun k1 k2 o1 o2 b hne g1 g2 => ?_, fun k1 o1 b g1 => ?_, fun k1 o1 b g1 => ?_, fun k' v hv => ?_, h2.os, h2.tape, h2.output, h2.size, h2.frame, h2.base, h2.defers⟩⟩
  · show AVRel _ (look ((i, .one (.r k)) :: t) j) _
    simp only [look]
    cases hb : Nat.beq i j with
    | true =>
      obtain rfl := Nat.eq_of_beq_eq_true hb
      have h3 := hR.tmp i
      have h4 : look t i = _ := lookO_eq hi
      change AVRel ρ (look t i) _ at h3
      rw [h4] at h3
      have h5 : a.tmps.getD i undef = .slice none 0 0 := h3.1
      rw [h5]
      exact ⟨hput.1, rfl⟩
    | false => exact h2.tmp j
  · exact h2.obj k' o (by have := ho; simp only [mk] at this; rw [hl] at this; exact this)
  · exact h2.apart k1 k2 o1 o2 b hne (by have := g1; simp only [mk] at this; rw [hl] at this; exact this) (by have := g2; simp only [mk] at this; rw [hl] at this; exact this)
  · exact h2.mine k1 o1 b (by have := g1; simp only [mk] at this; rw [hl] at this; exact this)
  · exact h2.seen k1 o1 b (by have := g1; simp only [mk] at this; rw [hl] at this; exact this)
  · have := h2.dom k' v hv
    simp only [mk, memB] at this ⊢
    have h6 : ([k].contains k') = Nat.beq k k' := by
      rw [← memB_eq]; simp [memB]
    rw [h6] at this
    revert this
    cases Nat.beq k k' <;> cases memB dd k' <;> cases parK k' <;> simp
theorem hl_cons (k : Nat) (o : Option Obj) : hlook ((k, o) :: h) = fun x => if x = k then o else hlook h x := by
  funext x
  simp only [hlook]
  by_cases hx : x = k
  · subst hx; simp
  · rw [if_neg hx, show Nat.beq k x = false from by cases hb : Nat.beq k x with | false => rfl | true => exact absurd (Nat.eq_of_beq_eq_true hb).symm hx]; rfl
/-- The nil slice of a variable's cell. -/
theorem Wk.nilB (kb f k : Nat) (ty : TypeId) (fks : List FK) {bt : TypeId} {cs cs2 : List Sc} (hb : hO h kb = some (.box bt cs)) (hf : nthO cs f = some (.c (.slice none 0 0))) (hc : cs.set f (.r k) = cs2) (hk : (memB dd k || parK k) = false) : Wk (mk n t h dd) (mk n t ((kb, some (.box bt cs2)) :: (k, some (.vec ty fks [])) :: h) (k :: dd)) := by
  intro base B w0 ρ a w hR
  obtain ⟨hn, e, hnone⟩ := hR.name k (.slice none 0 0) hk
  have hput := ρ.put_at k (.slice none 0 0) []
  have h2 := hn.add k (.slice none 0 0) (.vec ty fks []) hput.1 rfl (orel_nil ty fks) (fun b hb => (no_blk hb).elim) (fun _ b hb => (no_blk hb).elim) (fun hw => by cases hw) (fun _ _ b _ _ _ hb => (no_blk hb).elim)
  have hbk : hlook h kb = some (.box bt cs) := hO_eq hb
  have hne : kb ≠ k := fun e => by
    have : (mk n t h dd).h k = none := hnone
    rw [← e] at this
    change hlook h kb = none at this
    rw [hbk] at this
    cases this
  have h3 := h2.toRo kb (.box bt cs) (.box bt cs2) (by show (if kb = k then _ else hlook h kb) = _; rw [if_neg hne]; exact hbk) (fun _ => rfl) (fun v _ hr => by
    obtain ⟨b, xs, g1, g2, g3⟩ := hr
    obtain ⟨u, q1, q2⟩ := g2.get f _ (nthO_eq hf)
    have q3 : u = .slice none 0 0 := q2.1
    have q4 := ScsRel.set (x := .r k) (v := .slice none 0 0) ⟨hput.1, rfl⟩ g2 f
    refine ⟨b, xs, g1, ?_, g3⟩
    rw [← hc]
    have q5 : xs.set f (.slice none 0 0) = xs := by
      apply List.ext_getElem?
      intro j
      rw [List.getElem?_set]
      by_cases hj : f = j
      · subst hj
        rw [if_pos rfl, if_pos (List.getElem?_eq_some_iff.1 q1).1, q1, q3]
      · rw [if_neg hj]
    rwa [q5] at q4)
  refine ⟨_, e.p, ⟨h3.siz, h3.tmp, fun k' o ho => ?_, fun k1 k2 o1 o2 b hne g1 g2 => ?_, fun k1 o1 b g1 => ?_, fun k1 o1 b g1 => ?_, fun k' v hv => ?_, h3.os, h3.tape, h3.output, h3.size, h3.frame, h3.base, h3.defers⟩⟩
  · exact h3.obj k' o (by have := ho; simp only [mk] at this; rw [hl_cons, hl_cons] at this; exact this)
  · exact h3.apart k1 k2 o1 o2 b hne (by have := g1; simp only [mk] at this; rw [hl_cons, hl_cons] at this; exact this) (by have := g2; simp only [mk] at this; rw [hl_cons, hl_cons] at this; exact this)
  · exact h3.mine k1 o1 b (by have := g1; simp only [mk] at this; rw [hl_cons, hl_cons] at this; exact this)
  · exact h3.seen k1 o1 b (by have := g1; simp only [mk] at this; rw [hl_cons, hl_cons] at this; exact this)
  · have := h3.dom k' v hv
    simp only [mk, memB] at this ⊢
    have h6 : ([k].contains k') = Nat.beq k k' := by
      rw [← memB_eq]; simp [memB]
    rw [h6] at this
    revert this
    cases Nat.beq k k' <;> cases memB dd k' <;> cases parK k' <;> simp
end
theorem av_int {k : IntKind} {a b : Int} {σ : Nat → Nat} (e : a = b) : AV.one (.c (.int k a)) = (AV.one (.c (.int k b))).ren σ := by rw [e]; rfl
theorem av_bool {a b : Bool} {σ : Nat → Nat} (e : a = b) : AV.one (.c (.bool a)) = (AV.one (.c (.bool b))).ren σ := by rw [e]; rfl
end Go.AM
/- Further weakenings. No Go program is named here. -/
set_option linter.unusedVariables false
set_option linter.unusedSimpArgs false
namespace Go.AM
open Go.RowKit
/-- An own row is held to be read alone from here on. -/
theorem Wk.ro {n : Nat} {t : List (Nat × AV)} {h : List (Nat × Option Obj)} {dd : List Nat} (k : Nat) {fks : List FK} {rows : List (List Int)} (hk : rowsO (hO h k) = some (fks, rows)) : Wk (mk n t h dd) (mk n t ((k, some (.ro fks rows)) :: h) dd) := by
  intro base B w0 ρ a w hR
  obtain ⟨o, h6, h7⟩ := rowsO_eq hk
  have hro := hR.toRo k o (.ro fks rows) (hO_eq h6) (fun hw => by cases hw) (fun v g1 g2 => g2.rows h7)
  refine ⟨ρ, PExt.refl ρ, ?_⟩
  have e : (⟨(mk n t h dd).n, (mk n t h dd).t, fun i => if i = k then some (.ro fks rows) else (mk n t h dd).h i, (mk n t h dd).d⟩ : Fs) = mk n t ((k, some (.ro fks rows)) :: h) dd := by
    simp only [mk, hl_cons]
  rw [← e]; exact hro
section
variable {P : Program} {T : Tab} {S : Fs} {d : Nat} {ty : TypeId} {pos : String} {af : Array Edge} {gd : Option (Nat × Bool)}
/-- A row that is read alone is cut. -/
theorem snd_cutr (hT : TabOK P T) (t e : TypeId) (ti ei : TY) (x : Operand) (lo hi : Option Operand) (k : Nat) (fks : List FK) (rows : List (List Int)) (l h : Nat) (ht : tlook T t = some ti) (hu : ti.u = .slice e) (he : tlook T e = some ei) (hz : ei.zs.length = fks.length)
    (hx : evA S.t x = .one (.r k)) (hk : S.h k = some (.ro fks rows)) (hlo : (lo = none ∧ l = 0) ∨ ∃ y ik, lo = some y ∧ evA S.t y = .one (.c (.int ik (l : Int)))) (hhi : (hi = none ∧ h = rows.length) ∨ ∃ y ik, hi = some y ∧ evA S.t y = .one (.c (.int ik (h : Int)))) (hlh : l ≤ h) (hh : h ≤ rows.length) (hd : d < S.n) (hdk : S.d d = false) (hkd : k ≠ d) :
    Snd P ⟨some d, .slice t x lo hi none, ty, pos, af, gd⟩ S ⟨.one (.r d), [(d, some (.ro fks ((rows.drop l).take (h - l))))], [d]⟩ := by
  intro base B w0 ρ a w K Q hR hK
  have hρ := hR.ev_r hx
  obtain ⟨hw, hrd⟩ := (hR.obj_at hk hρ).rows rfl
  obtain ⟨A, c, hv, hnc⟩ := hrd.slice
  rw [hv] at hρ hrd
  have hrun := run_cut hT t e ti ei w A rows.length c l h (lo.map a.eval) (hi.map a.eval) ht hu he
    (by rcases hlo with ⟨rfl, rfl⟩ | ⟨y, ik, rfl, hy⟩
        · exact .inl ⟨rfl, rfl⟩
        · exact .inr ⟨ik, by simp [hR.ev_c hy]⟩)
    (by rcases hhi with ⟨rfl, rfl⟩ | ⟨y, ik, rfl, hy⟩
        · exact .inl ⟨rfl, rfl⟩
        · exact .inr ⟨ik, by simp [hR.ev_c hy]⟩) hlh hh hnc
  have hrun' : (execOp a.eval ⟨some d, .slice t x lo hi none, ty, pos, af, gd⟩).run P w = .ok (.value (.slice (if c = l then A else A.map (·.add (l * fks.length))) (h - l) (c - l))) w := by
    simp only [execOp, hv, Sem.run_bind]
    simp only [Option.map_none, hrun, Result.andThen_ok, Sem.run_pure, hz]
  obtain ⟨ρ', e', hρ', hrel⟩ := hR.view k d (.ro fks rows) (.ro fks ((rows.drop l).take (h - l))) _ (.slice (if c = l then A else A.map (·.add (l * fks.length))) (h - l) (c - l)) hk rfl rfl hρ hdk rfl
    (fun b hb => by
      simp only [blk, refA] at hb ⊢
      split at hb
      · exact hb
      · cases A with
        | none => exact hb
        | some ad => simpa [add_block] using hb)
    (fun ρ' _ => ⟨(hw.drop l).take _, hrd.cut hw hlh hh⟩)
  refine upon_of hrun' (hK ρ' _ w e' ?_)
  refine cast ?_ (hrel.put (some d) (v := .one (.r d)) ⟨hρ', rfl⟩ (lt_some hd))
  simp [Fs.apply, updF]
end
section
variable {P : Program} {T : Tab} {draw : Bool} {all rest : List Oper} {lg : FPs} {n : Nat} {t : List (Nat × AV)} {h : List (Nat × Option Obj)} {dd : List Nat} {K : Fs → Prop}
variable {d : Nat} {ty : TypeId} {pos : String} {af : Array Edge} {gd : Option (Nat × Bool)}
theorem v_cutr {t1 e : TypeId} {x : Operand} {lo hi : Option Operand} {k sz : Nat} {a b : Int} {fks : List FK} {rows : List (List Int)} (hw : wantO t all gd = some true) (hd : Nat.blt d n = true) (hf : (memB dd d || parK d) = false) [hTI : TabC P T] (hu : elemO T t1 = some e) (hz : szO T e = some sz) (hx : evO t x = some (.one (.r k))) (hk1 : hO h k = some (.ro fks rows)) (hz2 : fks.length = sz) (hlo : cutLo t lo = some a) (hhi : cutHi t (rows.length : Int) hi = some b) (h0 : 0 ≤ a) (hab : a ≤ b) (hb : b ≤ (rows.length : Int)) (hkd : Nat.beq k d = false) (H : VO P draw all rest (⟨[k], [d], [], []⟩ :: lg) (mk n ((d, .one (.r d)) :: t) ((d, some (.ro fks ((rows.drop a.toNat).take (b.toNat - a.toNat)))) :: h) (d :: dd)) K) : VO P draw all (⟨some d, .slice t1 x lo hi none, ty, pos, af, gd⟩ :: rest) lg (mk n t h dd) K := by
  refine VO.new (R := [k]) (ups := []) hw hf (fun S' hn he hh hk => ?_) H
  have hdn : d < S'.n := by rw [hn]; simpa using hd
  have ex := evs (o := ⟨some d, .slice t1 x lo hi none, ty, pos, af, gd⟩) he (x := x) (by simp [Op.operands, Call.operands]) hx
  obtain ⟨ti, h1, h2⟩ := elemO_eq hu
  obtain ⟨ei, h3, h4⟩ := szO_eq hz
  refine snd_cutr hTI.ok t1 e ti ei x lo hi k fks rows a.toNat b.toNat h1 h2 h3 (by rw [h4, hz2]) ex (by rw [hh k (by first | simp | exact List.mem_singleton.2 rfl), hO_eq hk1]) ?_ ?_ (by omega) (by omega) hdn hk (Nat.ne_of_beq_eq_false hkd)
  · cases lo with
    | none => simp [cutLo] at hlo; exact .inl ⟨rfl, by omega⟩
    | some z =>
      obtain ⟨ik, hz⟩ := intO_eq hlo
      refine .inr ⟨z, ik, rfl, ?_⟩
      rw [he z (by simp [Op.operands]), evO_eq hz, Int.toNat_of_nonneg h0]
  · cases hi with
    | none => simp [cutHi] at hhi; exact .inl ⟨rfl, by omega⟩
    | some z =>
      obtain ⟨ik, hz⟩ := intO_eq hhi
      refine .inr ⟨z, ik, rfl, ?_⟩
      rw [he z (by simp [Op.operands]), evO_eq hz, Int.toNat_of_nonneg (by omega)]
end
end Go.AM
/- From a row's reading of its arguments to the data of a contract. No Go program is named here. -/
set_option linter.unusedVariables false
set_option linter.unusedSimpArgs false
namespace Go.AM
open Go.RowKit

abbrev None0 : Nat → Prop := fun _ => False

/-- What a law hands back, and that it leaves what was there. -/
theorem OK.below {P : Program} {f : FuncId} {ds : List DV} (h : OK P f ds (.one (.v (.bool true)))) {w : World} {us : List Value} (hr : RVs w None0 ds us) (hn : (mutVs ds us).Nodup) :
    Calls P f us.toArray w fun e w' => e = .returned (.bool true) ∧ Below w.heap.size w w' := by
  refine (h.2 w us None0 hr hn).mono ?_
  rintro e w' ⟨u, rfl, ho, _, _, _, h1, h2, h3, h4, h5⟩
  exact ⟨by rw [ho.1], h1, h2, h3, h4, fun b hb => h5 b hb (fun h => h)⟩
theorem HOK.below {P : Program} {f : FuncId} {args : List AV} {pre : List (Nat × Obj)} (h : HOK P f ⟨args, pre, .one (.c (.bool true)), []⟩) {w : World} {us : List Value} {ρ : Rho} (hr : AVsRel ρ args us) (hp : okAll w ρ pre) (hn : ∀ k o, (k, o) ∈ pre → o.own = false) :
    Calls P f us.toArray w fun e w' => e = .returned (.bool true) ∧ Below w.heap.size w w' := by
  refine (h.2 w us ρ hr hp).mono ?_
  rintro e w' ⟨u, ρ', rfl, _, ho, _, _, _, h1, h2, h3, h4, h5⟩
  exact ⟨by rw [ho.1], h1, h2, h3, h4, fun b hb => h5 b hb (fun ⟨k, o, g1, g2, _⟩ => by rw [hn k o g1] at g2; cases g2)⟩

section
variable {H : Type} {enc : TypeId × Value → H} {P : Program} {w : World} {base : Nat} {sp : Nat → Bool} {held : Bool}
theorem mapM_range_at {α β : Type} {f : α → Option β} : ∀ {l : List α} {ys : List β}, l.mapM f = some ys → ys.length = l.length ∧ ∀ (j : Nat) (i : α) (y : β), l[j]? = some i → ys[j]? = some y → f i = some y
  | [], ys, h => by simp at h; subst h; exact ⟨rfl, fun j i y h => by simp at h⟩
  | i :: l, ys, h => by
    rw [List.mapM_cons] at h
    cases hi : f i with
    | none => simp [hi] at h
    | some y =>
      cases hl : l.mapM f with
      | none => simp [hi, hl] at h
      | some zs =>
        simp [hi, hl] at h
        subst h
        obtain ⟨h1, h2⟩ := mapM_range_at hl
        refine ⟨by simp [h1], fun j i' y' g1 g2 => ?_⟩
        cases j with
        | zero => simp at g1 g2; subst g1 g2; exact hi
        | succ j => exact h2 j i' y' (by simpa using g1) (by simpa using g2)
theorem cells_at {a : Addr} {n : Nat} {cs : List Value} (h : w.cells? base a n = some cs) : cs.length = n ∧ ∀ j x, cs[j]? = some x → w.cell? (a.add j) = some x := by
  unfold World.cells? at h
  split at h
  · obtain ⟨h1, h2⟩ := mapM_range_at h
    rw [List.length_range] at h1
    refine ⟨h1, fun j x hj => ?_⟩
    have hlt : j < n := by rw [← h1]; exact (List.getElem?_eq_some_iff.1 hj).1
    exact h2 j j x (by simp [hlt]) hj
  · cases h

/-- A slice whose elements are cells of numbers, read as rows. -/
theorem open_rows {ts te : TypeId} {fks : List FK} {fuel : Nat} {v : Value} {x : DataW H × List MemPlace} (Q : List Int → Prop) (hts : P.underlying ts = some (.slice te)) (hct : P.cellsOf te = fks.length) (h0 : 0 < fks.length)
    (hel : ∀ (fuel : Nat) (cs : List Value) (x : DataW H × List MemPlace), DataW.trod enc P w base sp held fuel te cs = some x → cs.length = fks.length → ∃ r : List Int, Q r ∧ r.length = fks.length ∧ cs = cellsOf fks r)
    (h : DataW.trod enc P w base sp held fuel ts [v] = some x) : ∃ rows : List (List Int), (∀ r ∈ rows, Q r) ∧ Wf fks rows ∧ Rds w v rows.length fks.length (flat fks rows) ∧ v.oneCell' = true := by
  rcases DataW.trod_slice hts h with ⟨hv, _⟩ | ⟨a, len, cap, elems, rest, n, _, hv, _, _, hlc, hcm, hel1, hall, _⟩
  · simp at hv
    subst hv
    exact ⟨[], fun _ h => by simp at h, fun _ h => by simp at h, ⟨by simp [flat], none, 0, rfl, Nat.le_refl _, by simp, fun _ => rfl, fun a ha => by cases ha⟩, rfl⟩
  · simp at hv
    subst hv
    have hrow : ∀ i, ∃ r : List Int, i < len → Q r ∧ r.length = fks.length ∧ ∀ (j : Nat) (x : Value), (cellsOf fks r)[j]? = some x → w.cell? (a.add (i * fks.length + j)) = some x := by
      intro i
      by_cases hi : i < len
      · have h1 := hall i hi
        rw [hct, List.getElem?_eq_getElem (by omega), Option.bind_eq_some_iff] at h1
        obtain ⟨cs, h2, h3⟩ := h1
        obtain ⟨h4, h5⟩ := cells_at h2
        obtain ⟨r, q1, q2, rfl⟩ := hel _ _ _ h3 h4
        refine ⟨r, fun _ => ⟨q1, q2, fun j x hj => ?_⟩⟩
        have := h5 j x hj
        rwa [add_add] at this
      · exact ⟨[], fun h => absurd h hi⟩
    obtain ⟨g, hg⟩ := Classical.axiomOfChoice hrow
    have hlen : ((List.range len).map g).length = len := by simp
    have hget : ∀ i, i < len → ((List.range len).map g).getD i [] = g i := fun i hi => by simp [List.getD_eq_getElem?_getD, hi]
    have hwf : Wf fks ((List.range len).map g) := fun row hr => by
      simp only [List.mem_map, List.mem_range] at hr
      obtain ⟨i, hi, rfl⟩ := hr
      exact (hg i hi).2.1
    refine ⟨(List.range len).map g, fun r hr => ?_, hwf, ⟨by rw [flat_length hwf], some a, cap, by rw [hlen], by rw [hlen]; exact hlc, by rw [hlen]; simp only [maxLen] at hcm; omega, (fun h => by cases h), fun a' ha' j u hu => ?_⟩, rfl⟩
    · simp only [List.mem_map, List.mem_range] at hr
      obtain ⟨i, hi, rfl⟩ := hr
      exact (hg i hi).1
    · injection ha' with ha'
      subst ha'
      have hj : j < len * fks.length := by
        have := (List.getElem?_eq_some_iff.1 hu).1
        rwa [flat_length hwf, hlen] at this
      have hr : j / fks.length < len := by rw [Nat.div_lt_iff_lt_mul h0]; exact hj
      have hfj : j % fks.length < fks.length := Nat.mod_lt _ h0
      have h1 := flat_get (fks := fks) (rows := (List.range len).map g) (j / fks.length) (j % fks.length) _ hwf (by rw [hlen]; exact hr) (List.getElem?_eq_getElem hfj)
      rw [Nat.div_add_mod' j fks.length, hu] at h1
      injection h1 with h1
      subst h1
      obtain ⟨_, q1, q2⟩ := hg (j / fks.length) hr
      have hc := cellsOf_get fks (g (j / fks.length)) (j % fks.length) _ q1 (List.getElem?_eq_getElem hfj)
      have := q2 (j % fks.length) _ hc
      rw [Nat.div_add_mod' j fks.length] at this
      rw [this, rd, hget _ hr]

theorem el_int {k : IntKind} {te : TypeId} (ht : P.underlying te = some (.int k)) (fuel : Nat) (cs : List Value) (x : DataW H × List MemPlace) (h : DataW.trod enc P w base sp held fuel te cs = some x) (hl : cs.length = [FK.i k].length) :
    ∃ r : List Int, (∃ a, r = [a] ∧ (Lit.int k a).wf = true) ∧ r.length = [FK.i k].length ∧ cs = cellsOf [.i k] r := by
  obtain ⟨n, rfl, _, hw⟩ := DataW.trod_int ht h
  exact ⟨[n], ⟨n, rfl, hw⟩, rfl, rfl⟩
/-- Fields of one cell each: ints. -/
theorem el_fields {te ti : TypeId} {fs : Array Field} (m : Nat) (ht : P.underlying te = some (.struct fs)) (hti : P.underlying ti = some (.int .i64)) (hc : P.cellsOf ti = 1) (hf : ∀ i, i < m → ∃ f, fs[i]? = some f ∧ f.type = ti ∧ f.offset = i) (hs : fs.size = m)
    (fuel : Nat) (cs : List Value) (x : DataW H × List MemPlace) (h : DataW.trod enc P w base sp held fuel te cs = some x) (hl : cs.length = m) : ∃ r : List Int, r.length = m ∧ cs = r.map (.int .i64) := by
  obtain ⟨xs, n, _, _, _, hxl, hall⟩ := DataW.trod_struct ht h
  have one : ∀ i, ∃ a : Int, i < m → cs[i]? = some (.int .i64 a) := by
    intro i
    by_cases hi : i < m
    · obtain ⟨f, h1, h2, h3⟩ := hf i hi
      have h4 := hall i f h1
      have hi2 : i < xs.length := by rw [hxl, hs]; exact hi
      rw [h2, h3, hc, List.getElem?_eq_getElem hi2] at h4
      obtain ⟨a, h5, _⟩ := DataW.trod_int hti h4
      refine ⟨a, fun _ => ?_⟩
      have : ((cs.drop i).take 1)[0]? = some (.int .i64 a) := by rw [h5]; rfl
      rw [List.getElem?_take, if_pos (by omega), List.getElem?_drop] at this
      simpa using this
    · exact ⟨0, fun h => absurd h hi⟩
  obtain ⟨g, hg⟩ := Classical.axiomOfChoice one
  refine ⟨(List.range m).map g, by simp, ?_⟩
  apply List.ext_getElem?
  intro i
  by_cases hi : i < m
  · rw [hg i hi]; simp [hi]
  · rw [List.getElem?_eq_none (by omega), List.getElem?_eq_none (by simp; omega)]

/-! ### Where a slice leads -/
theorem blk_cell {r : Reach} {t e : TypeId} {v : Value} (ht : P.underlying t = some (.slice e)) (h : Cell.okWide P w r base t v) : ∀ b, blk v = some b → b < w.heap.size := by
  intro b hb
  simp only [Cell.okWide, ht] at h
  cases v <;> simp [Cell.ok, ht] at h
  case slice a n c =>
    cases a with
    | none => simp [blk, refA] at hb
    | some a =>
      simp [blk, refA] at hb
      subst hb
      obtain ⟨_, _, h⟩ := h
      obtain ⟨_, _, row, cells, hs, _⟩ := h
      unfold World.shape? at hs
      cases hh : w.heap[a.block]? with
      | none => rw [hh] at hs; cases hs
      | some o => exact (Array.getElem?_eq_some_iff.1 hh).1
theorem okWide_cell {r : Reach} {t e : TypeId} {v : Value} (ht : P.underlying t = some (.slice e)) (h : Value.okWide P w r base t v) : Cell.okWide P w r base t v := by
  simpa [Value.okWide, ht] using h
theorem okWide_cells {r : Reach} {t : TypeId} {v : Value} {fs : Array Field} {ts : List TypeId} (ht : P.underlying t = some (.struct fs)) (hts : P.cellTypes P.depth t = some ts) (h : Value.okWide P w r base t v) :
    ∃ cs : List Value, v = .agg cs.toArray ∧ cs.length = P.cellsOf t ∧ ∀ i u x, i < ts.length → ts[i]? = some u → cs[i]? = some x → Cell.okWide P w r base u x := by
  simp only [Value.okWide, ht] at h
  obtain ⟨cs, rfl, hsz, ts', h1, _, h2⟩ := h
  rw [hts] at h1
  injection h1 with h1
  subst h1
  refine ⟨cs.toList, by simp, by simpa using hsz, fun i u x hi hu hx => ?_⟩
  obtain ⟨u', g1, g2⟩ := h2 i x (by simpa using hx)
  rw [Nat.mod_eq_of_lt hi, hu] at g1
  injection g1 with g1
  subst g1
  exact g2
/-- A slice as data. -/
theorem rc_sl {ty : TypeId} {fks : List FK} {rows : List (List Int)} {v : Value} (hw : Wf fks rows) (hr : Rds w v rows.length fks.length (flat fks rows)) (h1 : v.oneCell' = true) (hb : ∀ b, blk v = some b → b < w.heap.size) : RC w None0 (.sl ty fks rows) v :=
  ⟨⟨hw, hr⟩, h1, fun b hb' => ⟨fun h => h, hb b hb'⟩⟩
theorem Rds.len {v : Value} {n sz : Nat} {xs : List Value} (h : Rds w v n sz xs) : n ≤ 9223372036854775807 := by
  obtain ⟨_, A, c, _, _, h2, _⟩ := h
  exact h2
end
end Go.AM
