import JvmDerived
import JvmDerived.Pilot.@@N@@Statement
import JvmDerived.Pilot.@@N@@Code
set_option linter.unusedVariables false
set_option linter.unusedSimpArgs false
namespace Jvm.RoadKit
open Sem ClassFile Op Lib Jvm.Stand Jvm.Free Jvm.LawKit
section New
variable {p : Program} {l : Launch} {e : Env} {R : Room} {s : State} {m : MethodId} {args : Array Value} {below : List Frame} {meth : Method} {c : Code} {T : State} {locs : List Loc} {cells slots : Nat}
theorem retI (X : Stand p l e R s m args below meth c T locs cells slots) (hx : p.tables.exec = Jvm.exec) {pc : Nat} {Ls : Array Slot} {z : Int32} {rest : List Value} (hret : meth.sig.returnType = some .int) (hd : decode c.code pc = .ok (.ireturn, 1)) {fs : List Frame}
    (hl : ∀ (f : JFrame) (acts : List Action), f.method = m → f.locked = none → f.entered = [] → (doReturn e (T.setTop f) acts (some (.int z))).1 = T.setFrames fs) : Steps p.tables e below (T.setTop (mkF m pc Ls (.int z :: rest))) (T.setFrames fs) := by
  have hm' : T.vm.method? m = some meth := X.method'
  have hn : narrow .int (.int z) = .int z := rfl
  show Steps p.tables e below (T.setTop { method := m, pc := pc, locals := Ls, stack := _ :: rest, locked := none }) _
  jvm_step X.here [X.here.top, hx, hd, hm', hret, hn]
  first | (intro acts; rw [hl _ acts rfl rfl rfl]) | rw [hl _ _ rfl rfl rfl]
  exact Steps.refl _
end New
end Jvm.RoadKit
namespace Jvm.Pilot.@@N@@
open Jvm Jvm.ClassFile Sem Op Lib Jvm.Free Jvm.Stand Jvm.LawKit Jvm.RoadKit Bundle Jvm.Pilot.@@N@@.Jvm.D
/- records: scalars, int-like arrays, long arrays -/
abbrev Rec : Type := (Nat → Int32) × (Nat → Int32 → Int32) × (Nat → Int32 → Int64)
def zrec : Rec := (fun _ => 0, fun _ _ => 0, fun _ _ => 0)
def gI (ob : Rec) (k : Nat) : Int32 := ob.1 k
def gA (ob : Rec) (k : Nat) (i : Int32) : Int32 := ob.2.1 k i
def gJ (ob : Rec) (k : Nat) (i : Int32) : Int64 := ob.2.2 k i
def sI (ob : Rec) (k : Nat) (v : Int32) : Rec := (fun j => if j = k then v else ob.1 j, ob.2)
def sA (ob : Rec) (k : Nat) (i v : Int32) : Rec := (ob.1, fun j x => if j = k ∧ x = i then v else ob.2.1 j x, ob.2.2)
def sJ (ob : Rec) (k : Nat) (i : Int32) (v : Int64) : Rec := (ob.1, ob.2.1, fun j x => if j = k ∧ x = i then v else ob.2.2 j x)
def chk {γ : Type} (n i : Int32) (A : Option γ) : Option γ := if i < 0 then none else if i < n then A else none
def dvz {γ : Type} (y : Int32) (A : Option γ) : Option γ := if y = 0 then none else A
def bind2 {α β γ : Type} (o : Option (α × β)) (f : α → β → Option γ) : Option γ := o.bind fun q => f q.1 q.2
def bind3 {α β γ δ : Type} (o : Option (α × β × δ)) (f : α → β → δ → Option γ) : Option γ := o.bind fun q => f q.1 q.2.1 q.2.2
theorem ite_el {c : Prop} [Decidable c] {γ : Type} {A B : Option γ} {r : γ} {Q : Prop} (h : (if c then A else B) = some r) (t : c → A = some r → Q) (e : ¬ c → B = some r → Q) : Q := by
  by_cases hc : c
  · rw [if_pos hc] at h; exact t hc h
  · rw [if_neg hc] at h; exact e hc h
theorem bind_el {α γ : Type} {o : Option α} {f : α → Option γ} {r : γ} {Q : Prop} (h : o.bind f = some r) (k : ∀ x, o = some x → f x = some r → Q) : Q := by
  cases o with
  | none => cases h
  | some x => exact k x rfl h
theorem bind2_el {α β γ : Type} {o : Option (α × β)} {f : α → β → Option γ} {r : γ} {Q : Prop} (h : bind2 o f = some r) (k : ∀ x y, o = some (x, y) → f x y = some r → Q) : Q := by
  rcases o with _ | ⟨x, y⟩
  · cases h
  · exact k x y rfl h
theorem bind3_el {α β γ δ : Type} {o : Option (α × β × δ)} {f : α → β → δ → Option γ} {r : γ} {Q : Prop} (h : bind3 o f = some r) (k : ∀ x y z, o = some (x, y, z) → f x y z = some r → Q) : Q := by
  rcases o with _ | ⟨x, y, z⟩
  · cases h
  · exact k x y z rfl h
theorem chk_el {γ : Type} {n i : Int32} {A : Option γ} {r : γ} {Q : Prop} (h : chk n i A = some r) (k : (¬ i < 0 ∧ i < n) → A = some r → Q) : Q := by
  unfold chk at h
  by_cases h0 : i < 0
  · rw [if_pos h0] at h; cases h
  · rw [if_neg h0] at h
    by_cases h1 : i < n
    · rw [if_pos h1] at h; exact k ⟨h0, h1⟩ h
    · rw [if_neg h1] at h; cases h
theorem dvz_el {γ : Type} {y : Int32} {A : Option γ} {r : γ} {Q : Prop} (h : dvz y A = some r) (k : y ≠ 0 → A = some r → Q) : Q := by
  unfold dvz at h
  by_cases h0 : y = 0
  · rw [if_pos h0] at h; cases h
  · rw [if_neg h0] at h; exact k h0 h
def All {α : Type} (p : α → Prop) : List α → Prop
  | [] => True
  | x :: l => p x ∧ All p l
theorem All.mem {α : Type} {p : α → Prop} : ∀ {l : List α}, All p l → ∀ {x : α}, x ∈ l → p x
  | [], _, _, h => nomatch h
  | _ :: _, H, _, h => (List.mem_cons.mp h).elim (fun e => e ▸ H.1) (fun e => All.mem H.2 e)
def el (ty : FieldType) (ob : Rec) (k : Nat) (j : Int32) : Value := match ty with
  | .long => .long (ob.2.2 k j)
  | _ => .int (ob.2.1 k j)
def aD (ty : FieldType) : String := match ty with
  | .int => "[I"
  | .boolean => "[Z"
  | _ => "[J"
abbrev Cls : Type := String × List (String × String) × List (String × FieldType × Int32)
abbrev mem1 (k : Nat) {d : Jvm.Cond} (h : tables_1[k]? = some d) : d ∈ tables_1 := List.mem_of_getElem? h
abbrev sOk (C : String) (nd : String × String) : Prop := (Jvm.Cond.lays C C nd.1 nd.2 ∈ tables_1 ∨ Jvm.Cond.laysFinal C C nd.1 nd.2 ∈ tables_1) ∧ (nd.2 = "I" ∨ nd.2 = "Z")
abbrev aOk (C : String) (t : String × FieldType × Int32) : Prop := (Jvm.Cond.lays C C t.1 (aD t.2.1) ∈ tables_1 ∨ Jvm.Cond.laysFinal C C t.1 (aD t.2.1) ∈ tables_1) ∧ (t.2.1 = .int ∨ t.2.1 = .boolean ∨ t.2.1 = .long) ∧ ¬ t.2.2 < 0
def K : Cls := ("GrammarReshaper", [("ruleCap", "I"), ("inputCap", "I"), ("state", "I"), ("nRules", "I"), ("inLen", "I"), ("result", "I"), ("derivLen", "I"), ("sp", "I")], [("heads", .int, 16), ("lens", .int, 16), ("syms", .int, 80), ("input", .int, 16), ("cnt", .int, 2312), ("ways", .int, 102), ("unitAdj", .int, 8), ("order", .int, 8), ("deriv", .int, 256), ("stA", .int, 256), ("stI", .int, 256), ("stJ", .int, 256)])
theorem kS : All (sOk K.1) K.2.1 := ⟨⟨Or.inl (mem1 35 rfl), Or.inl rfl⟩, ⟨Or.inl (mem1 37 rfl), Or.inl rfl⟩, ⟨Or.inl (mem1 39 rfl), Or.inl rfl⟩, ⟨Or.inl (mem1 41 rfl), Or.inl rfl⟩, ⟨Or.inl (mem1 43 rfl), Or.inl rfl⟩, ⟨Or.inl (mem1 45 rfl), Or.inl rfl⟩, ⟨Or.inl (mem1 47 rfl), Or.inl rfl⟩, ⟨Or.inl (mem1 49 rfl), Or.inl rfl⟩, trivial⟩
theorem kA : All (aOk K.1) K.2.2 := ⟨⟨Or.inl (mem1 11 rfl), Or.inl rfl, by decide⟩, ⟨Or.inl (mem1 13 rfl), Or.inl rfl, by decide⟩, ⟨Or.inl (mem1 15 rfl), Or.inl rfl, by decide⟩, ⟨Or.inl (mem1 17 rfl), Or.inl rfl, by decide⟩, ⟨Or.inl (mem1 19 rfl), Or.inl rfl, by decide⟩, ⟨Or.inl (mem1 21 rfl), Or.inl rfl, by decide⟩, ⟨Or.inl (mem1 23 rfl), Or.inl rfl, by decide⟩, ⟨Or.inl (mem1 25 rfl), Or.inl rfl, by decide⟩, ⟨Or.inl (mem1 27 rfl), Or.inl rfl, by decide⟩, ⟨Or.inl (mem1 29 rfl), Or.inl rfl, by decide⟩, ⟨Or.inl (mem1 31 rfl), Or.inl rfl, by decide⟩, ⟨Or.inl (mem1 33 rfl), Or.inl rfl, by decide⟩, trivial⟩
abbrev kN : Nat := 20
theorem kI : Jvm.Cond.instantiable K.1 kN ∈ tables_1 := mem1 1 rfl
theorem kZ : Jvm.Cond.initialized K.1 ∈ tables_1 := mem1 2 rfl
theorem kNm : (K.2.1.map (·.1) ++ K.2.2.map (·.1)).Nodup := by decide +kernel
theorem nm_ss {k k' : Nat} {nd nd' : String × String} (h : K.2.1[k]? = some nd) (h' : K.2.1[k']? = some nd') (ne : k ≠ k') : nd.1 ≠ nd'.1 := fun e => by
  have l := (List.getElem?_eq_some_iff.mp h).1
  have l' := (List.getElem?_eq_some_iff.mp h').1
  refine ne ((List.getElem?_inj (l := K.2.1.map (·.1) ++ K.2.2.map (·.1)) (i := k) (j := k') (by simp; omega) kNm).mp ?_)
  rw [List.getElem?_append_left (by simpa using l), List.getElem?_append_left (by simpa using l'), List.getElem?_map, List.getElem?_map, h, h']
  simp [e]
theorem nm_aa {k k' : Nat} {t t' : String × FieldType × Int32} (h : K.2.2[k]? = some t) (h' : K.2.2[k']? = some t') (ne : k ≠ k') : t.1 ≠ t'.1 := fun e => by
  have l := (List.getElem?_eq_some_iff.mp h).1
  have l' := (List.getElem?_eq_some_iff.mp h').1
  have q := (List.getElem?_inj (l := K.2.1.map (·.1) ++ K.2.2.map (·.1)) (i := K.2.1.length + k) (j := K.2.1.length + k') (by simp; omega) kNm).mp (by
    rw [List.getElem?_append_right (by simp), List.getElem?_append_right (by simp)]
    simp [h, h', e])
  omega
theorem nm_sa {k k' : Nat} {nd : String × String} {t : String × FieldType × Int32} (h : K.2.1[k]? = some nd) (h' : K.2.2[k']? = some t) : nd.1 ≠ t.1 := fun e => by
  have l := (List.getElem?_eq_some_iff.mp h).1
  have l' := (List.getElem?_eq_some_iff.mp h').1
  have q := (List.getElem?_inj (l := K.2.1.map (·.1) ++ K.2.2.map (·.1)) (i := k) (j := K.2.1.length + k') (by simp; omega) kNm).mp (by
    rw [List.getElem?_append_left (by simpa using l), List.getElem?_append_right (by simp)]
    simp [h, h', e])
  omega
abbrev Ctx : Type := Launch × State × Nat × Array Value
def Ok (C : Ctx) : Prop := ∀ d ∈ tables_1, d.before C.2.2.2 C.2.1 = true
def ArrAt (Z : State) (h : Heap) (b : Nat) (ty : FieldType) (len : Int32) (v : Int32 → Value) : Prop := ∃ cl : Cell, Arr Z h b cl ty ∧ cl.slots.size = len.toNatClampNeg ∧ ∀ j : Int32, ¬ j < 0 → j < len → cl.slots[j.toNatClampNeg]? = some (v j)
def ObjAt (Z : State) (h : Heap) (a : Nat) (q : Nat) (ob : Rec) : Prop :=
  Exa Z h a K.1 ∧ (∀ k nd, K.2.1[k]? = some nd → Fld Z h a K.1 nd.1 nd.2 (.int (ob.1 k))) ∧
  (∀ k t, K.2.2[k]? = some t → k < q → Fld Z h a K.1 t.1 (aD t.2.1) (.ref (a + 1 + k)) ∧ ArrAt Z h (a + 1 + k) t.2.1 t.2.2 (el t.2.1 ob k)) ∧
  (∀ k t, K.2.2[k]? = some t → q ≤ k → Fld Z h a K.1 t.1 (aD t.2.1) .null)
abbrev AH : Type := Nat × List (Nat × Nat × Rec)
def Rep (Z : State) (n0 : Nat) (h : Heap) (G : AH) : Prop :=
  h.size = G.1 ∧ Old Z n0 h ∧ (∀ x ∈ G.2, n0 ≤ x.1 ∧ x.1 + x.2.1 < G.1 ∧ ObjAt Z h x.1 x.2.1 x.2.2) ∧ G.2.Pairwise (fun x y => x.1 + x.2.1 < y.1 ∨ y.1 + y.2.1 < x.1)
section Facts
variable {Z : State} {h h' : Heap} {a b : Nat} {q k n0 top : Nat} {ob ob' : Rec} {nd : String × String} {t : String × FieldType × Int32} {a0 : Array Value} {sl : Nat} {v : Value} {H : List (Nat × Nat × Rec)} {G : AH}
theorem fld_fr {C n d : String} (e : h'[a]? = h[a]?) (F : Fld Z h a C n d v) : Fld Z h' a C n d v := by
  obtain ⟨cell, cf, k, i, f, h1, r⟩ := F; exact ⟨cell, cf, k, i, f, e.trans h1, r⟩
theorem exa_fr {C : String} (e : h'[a]? = h[a]?) (F : Exa Z h a C) : Exa Z h' a C := by
  obtain ⟨cell, k, h1, r⟩ := F; exact ⟨cell, k, e.trans h1, r⟩
theorem arrAt_fr {ty : FieldType} {len : Int32} {w : Int32 → Value} (e : h'[a]? = h[a]?) (F : ArrAt Z h a ty len w) : ArrAt Z h' a ty len w := by
  obtain ⟨cl, A, r⟩ := F; exact ⟨cl, ⟨e.trans A.1, A.2⟩, r⟩
theorem ObjAt.frame (e : ∀ b, a ≤ b → b ≤ a + q → h'[b]? = h[b]?) (F : ObjAt Z h a q ob) : ObjAt Z h' a q ob := by
  have e0 := e a (Nat.le_refl _) (Nat.le_add_right _ _)
  refine ⟨exa_fr e0 F.1, fun k nd hk => fld_fr e0 (F.2.1 k nd hk), fun k t hk hq => ⟨fld_fr e0 (F.2.2.1 k t hk hq).1, arrAt_fr (e _ (by omega) (by omega)) (F.2.2.1 k t hk hq).2⟩, fun k t hk hq => fld_fr e0 (F.2.2.2 k t hk hq)⟩
theorem ObjAt.ext (E : Ext h h') (F : ObjAt Z h a q ob) : ObjAt Z h' a q ob := by
  refine ⟨F.1.ext E, fun k nd hk => (F.2.1 k nd hk).ext E, fun k t hk hq => ⟨(F.2.2.1 k t hk hq).1.ext E, ?_⟩, fun k t hk hq => (F.2.2.2 k t hk hq).ext E⟩
  obtain ⟨cl, A, r⟩ := (F.2.2.1 k t hk hq).2; exact ⟨cl, A.ext E, r⟩
theorem wr_ne (W : Wr h h' a sl v) (ne : b ≠ a) : h'[b]? = h[b]? := by
  obtain ⟨cell, -, -, -, rfl⟩ := W; exact Array.getElem?_setIfInBounds_ne (Ne.symm ne)
theorem laidS (hw : ∀ d ∈ tables_1, d.before a0 Z = true) (hk : K.2.1[k]? = some nd) : Laid Z a0 K.1 K.1 nd.1 nd.2 := ((All.mem kS (List.mem_of_getElem? hk)).1).imp (hw _) (hw _)
theorem laidA (hw : ∀ d ∈ tables_1, d.before a0 Z = true) (hk : K.2.2[k]? = some t) : Laid Z a0 K.1 K.1 t.1 (aD t.2.1) := ((All.mem kA (List.mem_of_getElem? hk)).1).imp (hw _) (hw _)
theorem pfS (hk : K.2.1[k]? = some nd) : ∃ ty, parseFieldDescriptor nd.2 = some ty := by
  rcases (All.mem kS (List.mem_of_getElem? hk)).2 with e | e <;> rw [e]
  · exact ⟨.int, by decide⟩
  · exact ⟨.boolean, by decide⟩
theorem pfA (hk : K.2.2[k]? = some t) : parseFieldDescriptor (aD t.2.1) = some (.array t.2.1) := by
  rcases (All.mem kA (List.mem_of_getElem? hk)).2.1 with e | e | e <;> rw [e] <;> decide
theorem ObjAt.putI {x : Int32} (hw : ∀ d ∈ tables_1, d.before a0 Z = true) (F : ObjAt Z h a q ob) (hk : K.2.1[k]? = some nd) (W : Wr h h' a (Jvm.RoadKit.slotOf Z K.1 nd.1 nd.2) (.int x)) : ObjAt Z h' a q (sI ob k x) := by
  obtain ⟨ty, hty⟩ := pfS hk
  refine ⟨F.1.wr W, fun k' nd' hk' => ?_, fun k' t hk' hq => ⟨(F.2.2.1 k' t hk' hq).1.other W (Or.inr (Jvm.RoadKit.slot_ne (laidA hw hk') (laidS hw hk) (Ne.symm (nm_sa hk hk')) (pfA hk') hty)), ?_⟩, fun k' t hk' hq => (F.2.2.2 k' t hk' hq).other W (Or.inr (Jvm.RoadKit.slot_ne (laidA hw hk') (laidS hw hk) (Ne.symm (nm_sa hk hk')) (pfA hk') hty))⟩
  · by_cases e : k' = k
    · subst e; cases hk.symm.trans hk'
      have := (F.2.1 k' nd hk).same W
      simpa [sI] using this
    · obtain ⟨ty', hty'⟩ := pfS hk'
      have := (F.2.1 k' nd' hk').other W (Or.inr (Jvm.RoadKit.slot_ne (laidS hw hk') (laidS hw hk) (nm_ss hk' hk e) hty' hty))
      simpa [sI, e] using this
  · have := arrAt_fr (wr_ne W (by omega)) (F.2.2.1 k' t hk' hq).2
    have e : el t.2.1 (sI ob k x) k' = el t.2.1 ob k' := by funext j; unfold el; split <;> rfl
    rw [e]; exact this
theorem ObjAt.putA (F : ObjAt Z h a q ob) (hk : K.2.2[k]? = some t) (hq : k < q) {x : Value} {j : Int32} (hj : ¬ j < 0 ∧ j < t.2.2) (W : Wr h h' (a + 1 + k) j.toNatClampNeg x)
    (e1 : el t.2.1 ob' k = fun i => if i = j then x else el t.2.1 ob k i) (e2 : ∀ k' t', k' ≠ k → el t' ob' k' = el t' ob k') (e3 : ob'.1 = ob.1) : ObjAt Z h' a q ob' := by
  have u : h'[a]? = h[a]? := wr_ne W (by omega)
  refine ⟨exa_fr u F.1, fun k' nd hk' => by rw [e3]; exact fld_fr u (F.2.1 k' nd hk'), fun k' t' hk' hq' => ⟨fld_fr u (F.2.2.1 k' t' hk' hq').1, ?_⟩, fun k' t' hk' hq' => fld_fr u (F.2.2.2 k' t' hk' hq')⟩
  by_cases e : k' = k
  · subst e; cases hk.symm.trans hk'
    obtain ⟨cl, A, S, V⟩ := (F.2.2.1 k' t hk hq).2
    have inb : ¬ (j < 0 ∨ cl.slots.size ≤ j.toNatClampNeg) := inb_of S hj
    refine ⟨_, A.same W, by rw [sz_set]; exact S, fun i h0 h1 => ?_⟩
    rw [e1]
    by_cases ei : i = j
    · simp only [ei, if_true]; exact get_hit inb rfl
    · simp only [ei, if_false]; rw [get_miss hj.1 h0 ei]; exact V i h0 h1
  · rw [e2 k' _ e]; exact arrAt_fr (wr_ne W (by omega)) (F.2.2.1 k' t' hk' hq').2
theorem el_sA {ty : FieldType} (ht : ty ≠ .long) (j x : Int32) : el ty (sA ob k j x) k = fun i => if i = j then .int x else el ty ob k i := by
  funext i; cases ty <;> first | exact absurd rfl ht | (simp only [el, sA, true_and]; split <;> rfl)
theorem el_sJ (j : Int32) (x : Int64) : el .long (sJ ob k j x) k = fun i => if i = j then .long x else el .long ob k i := by
  funext i; simp only [el, sJ, true_and]; split <;> rfl
theorem el_sA' (j x : Int32) (k' : Nat) (t' : FieldType) (ne : k' ≠ k) : el t' (sA ob k j x) k' = el t' ob k' := by
  funext i; cases t' <;> simp [el, sA, ne]
theorem el_sJ' (j : Int32) (x : Int64) (k' : Nat) (t' : FieldType) (ne : k' ≠ k) : el t' (sJ ob k j x) k' = el t' ob k' := by
  funext i; cases t' <;> simp [el, sJ, ne]
theorem Rep.upd (R : Rep Z n0 h (top, (a, q, ob) :: H)) (hs : h'.size = h.size) (hO : Old Z n0 h') (e : ∀ b, (b < a ∨ a + q < b) → h'[b]? = h[b]?) (F : ObjAt Z h' a q ob') : Rep Z n0 h' (top, (a, q, ob') :: H) := by
  obtain ⟨r1, r2, r3, r4⟩ := R
  refine ⟨hs.trans r1, hO, fun x hx => ?_, ?_⟩
  · rcases List.mem_cons.mp hx with rfl | hx
    · exact ⟨(r3 _ (List.mem_cons_self ..)).1, (r3 _ (List.mem_cons_self ..)).2.1, F⟩
    · obtain ⟨p1, p2, p3⟩ := r3 x (List.mem_cons_of_mem _ hx)
      refine ⟨p1, p2, p3.frame fun b h1 h2 => e b ?_⟩
      have := (List.pairwise_cons.mp r4).1 x hx
      simp only at this
      omega
  · have := List.pairwise_cons.mp r4
    exact List.pairwise_cons.mpr ⟨fun y hy => this.1 y hy, this.2⟩
theorem Rep.objs (R : Rep Z n0 h (top, (a, q, ob) :: H)) : n0 ≤ a ∧ a + q < top ∧ ObjAt Z h a q ob := R.2.2.1 _ (List.mem_cons_self ..)
theorem Rep.putI {x : Int32} (hw : ∀ d ∈ tables_1, d.before a0 Z = true) (R : Rep Z n0 h (top, (a, q, ob) :: H)) (hk : K.2.1[k]? = some nd) (W : Wr h h' a (Jvm.RoadKit.slotOf Z K.1 nd.1 nd.2) (.int x)) : Rep Z n0 h' (top, (a, q, sI ob k x) :: H) :=
  R.upd W.size (R.2.1.wr W R.objs.1) (fun b hb => wr_ne W (by omega)) (R.objs.2.2.putI hw hk W)
theorem Rep.putA {x j : Int32} (R : Rep Z n0 h (top, (a, q, ob) :: H)) (hk : K.2.2[k]? = some t) (hq : k < q) (ht : t.2.1 ≠ .long) (hj : ¬ j < 0 ∧ j < t.2.2) (W : Wr h h' (a + 1 + k) j.toNatClampNeg (.int x)) : Rep Z n0 h' (top, (a, q, sA ob k j x) :: H) :=
  R.upd W.size (R.2.1.wr W (by have := R.objs.1; omega)) (fun b hb => wr_ne W (by omega)) (R.objs.2.2.putA hk hq hj W (el_sA ht j x) (fun k' t' ne => el_sA' j x k' t' ne) rfl)
theorem Rep.putJ {j : Int32} {x : Int64} (R : Rep Z n0 h (top, (a, q, ob) :: H)) (hk : K.2.2[k]? = some t) (hq : k < q) (ht : t.2.1 = .long) (hj : ¬ j < 0 ∧ j < t.2.2) (W : Wr h h' (a + 1 + k) j.toNatClampNeg (.long x)) : Rep Z n0 h' (top, (a, q, sJ ob k j x) :: H) :=
  R.upd W.size (R.2.1.wr W (by have := R.objs.1; omega)) (fun b hb => wr_ne W (by omega)) (R.objs.2.2.putA hk hq hj W (by rw [ht]; exact el_sJ j x) (fun k' t' ne => el_sJ' j x k' t' ne) rfl)
theorem Rep.swap {x y : Nat × Nat × Rec} (R : Rep Z n0 h (top, x :: y :: H)) : Rep Z n0 h (top, y :: x :: H) := by
  obtain ⟨r1, r2, r3, r4⟩ := R
  refine ⟨r1, r2, fun z hz => r3 z ?_, ?_⟩
  · simp only [List.mem_cons] at hz ⊢
    rcases hz with e | e | e
    · exact Or.inr (Or.inl e)
    · exact Or.inl e
    · exact Or.inr (Or.inr e)
  · simp only [List.pairwise_cons, List.mem_cons] at r4 ⊢
    obtain ⟨p1, p2, p3⟩ := r4
    refine ⟨fun z hz => ?_, fun z hz => p1 z (Or.inr hz), p3⟩
    rcases hz with rfl | hz
    · exact (p1 _ (Or.inl rfl)).symm
    · exact p2 z hz
theorem ObjAt.addA (hw : ∀ d ∈ tables_1, d.before a0 Z = true) (F : ObjAt Z h a k ob) (hk : K.2.2[k]? = some t) (A : ArrAt Z h (a + 1 + k) t.2.1 t.2.2 (el t.2.1 ob k)) (W : Wr h h' a (Jvm.RoadKit.slotOf Z K.1 t.1 (aD t.2.1)) (.ref (a + 1 + k))) : ObjAt Z h' a (k + 1) ob := by
  refine ⟨F.1.wr W, fun k' nd hk' => ?_, fun k' t' hk' hq => ?_, fun k' t' hk' hq => ?_⟩
  · obtain ⟨ty', hty'⟩ := pfS hk'
    exact (F.2.1 k' nd hk').other W (Or.inr (Jvm.RoadKit.slot_ne (laidS hw hk') (laidA hw hk) (nm_sa hk' hk) hty' (pfA hk)))
  · by_cases e : k' = k
    · subst e
      have et : t = t' := Option.some.inj (hk.symm.trans hk')
      subst et
      exact ⟨(F.2.2.2 k' t hk (Nat.le_refl _)).same W, arrAt_fr (wr_ne W (by omega)) A⟩
    · obtain ⟨f1, f2⟩ := F.2.2.1 k' t' hk' (by omega)
      exact ⟨f1.other W (Or.inr (Jvm.RoadKit.slot_ne (laidA hw hk') (laidA hw hk) (nm_aa hk' hk e) (pfA hk') (pfA hk))), arrAt_fr (wr_ne W (by omega)) f2⟩
  · exact (F.2.2.2 k' t' hk' (by omega)).other W (Or.inr (Jvm.RoadKit.slot_ne (laidA hw hk') (laidA hw hk) (nm_aa hk' hk (by omega)) (pfA hk') (pfA hk)))
theorem Rep.addA {h1 h2 : Heap} (hw : ∀ d ∈ tables_1, d.before a0 Z = true) (R : Rep Z n0 h (top, (a, k, ob) :: H)) (E : Ext h h1) (s1 : h1.size = top + 1) (htop : top = a + 1 + k) (hk : K.2.2[k]? = some t) (A : ArrAt Z h1 top t.2.1 t.2.2 (el t.2.1 ob k)) (W : Wr h1 h2 a (Jvm.RoadKit.slotOf Z K.1 t.1 (aD t.2.1)) (.ref top)) : Rep Z n0 h2 (top + 1, (a, k + 1, ob) :: H) := by
  obtain ⟨q1, q2, q3⟩ := R.objs
  have hp := List.pairwise_cons.mp R.2.2.2
  have hO : ObjAt Z h2 a (k + 1) ob := by
    subst htop
    exact (q3.ext E).addA hw hk A W
  refine ⟨W.size.trans s1, (R.2.1.ext E).wr W q1, List.forall_mem_cons.mpr ⟨⟨q1, ?_, hO⟩, fun x hx => ?_⟩, List.pairwise_cons.mpr ⟨fun y hy => ?_, hp.2⟩⟩
  · show a + (k + 1) < top + 1; omega
  · obtain ⟨p1, p2, p3⟩ := R.2.2.1 x (List.mem_cons_of_mem _ hx)
    have u1 : a + k < x.1 ∨ x.1 + x.2.1 < a := hp.1 x hx
    have u2 : x.1 + x.2.1 < top := p2
    exact ⟨p1, Nat.lt_succ_of_lt u2, (p3.ext E).frame fun b h1 h2 => wr_ne W (by omega)⟩
  · have u1 : a + k < y.1 ∨ y.1 + y.2.1 < a := hp.1 y hy
    have u2 : y.1 + y.2.1 < top := (R.2.2.1 y (List.mem_cons_of_mem _ hy)).2.1
    show a + (k + 1) < y.1 ∨ y.1 + y.2.1 < a
    omega
theorem arr_new {cA : ClassId} {ty : FieldType} {len : Int32} (A : Arr Z h b (newA cA ty len) ty) (hts : ty = .int ∨ ty = .boolean ∨ ty = .long) (hz : (∀ i, ob.2.1 k i = 0) ∧ (∀ i, ob.2.2 k i = 0)) : ArrAt Z h b ty len (el ty ob k) := by
  refine ⟨_, A, sz_new _ _ _, fun i h0 h1 => ?_⟩
  have hi : ¬ (i < 0 ∨ len.toNatClampNeg ≤ i.toNatClampNeg) := by
    have e0 : (0 : Int32).toInt = 0 := rfl
    simp only [Int32.lt_iff_toInt_lt, Int32.toNatClampNeg] at *
    omega
  rw [get_new hi]
  rcases hts with rfl | rfl | rfl
  · show some (Value.int 0) = some (Value.int (ob.2.1 k i)); rw [hz.1]
  · show some (Value.int 0) = some (Value.int (ob.2.1 k i)); rw [hz.1]
  · show some (Value.long 0) = some (Value.long (ob.2.2 k i)); rw [hz.2]
theorem Rep.start (s : State) : Rep s s.heap.size s.heap (s.heap.size, []) := ⟨rfl, Old.start s, fun x hx => (by cases hx), List.Pairwise.nil⟩
end Facts
/- bodies, decode facts, patterns of local variables -/
abbrev Bdy : Type := MethodName × ByteArray × Nat × Option FieldType × Room
def DAt (M : Bdy) (pc : Nat) (i : Instr) (n q : Nat) : Prop := decode M.2.1 pc = .ok (i, n) ∧ q = pc + n
abbrev Pat : Type := List (Option Slot)
abbrev vi (x : Int32) : Option Slot := some (.val (.int x))
abbrev vl (x : Int64) : Option Slot := some (.val (.long x))
abbrev vr (a : Nat) : Option Slot := some (.val (.ref a))
abbrev v2 : Option Slot := some .second
abbrev vn : Option Slot := none
def pget : Pat → Nat → Option Slot
  | [], _ => none
  | x :: _, 0 => x
  | _ :: l, n + 1 => pget l n
theorem pget_eq : ∀ (P : Pat) (i : Nat), pget P i = (P[i]?).join
  | [], _ => by simp [pget]
  | x :: l, 0 => by simp [pget]
  | x :: l, n + 1 => by simp [pget, pget_eq l n]
def pput : Pat → Nat → Option Slot → Pat
  | [], _, _ => []
  | _ :: l, 0, y => y :: l
  | x :: l, n + 1, y => x :: pput l n y
theorem pget_pput : ∀ (P : Pat) (i j : Nat) (y : Option Slot) (s : Slot), pget (pput P i y) j = some s → (j = i ∧ y = some s) ∨ (j ≠ i ∧ pget P j = some s)
  | [], _, _, _, _, h => by simp [pput, pget] at h
  | x :: l, 0, 0, y, s, h => Or.inl ⟨rfl, h⟩
  | x :: l, 0, j + 1, y, s, h => Or.inr ⟨by omega, h⟩
  | x :: l, i + 1, 0, y, s, h => Or.inr ⟨by omega, h⟩
  | x :: l, i + 1, j + 1, y, s, h => by
    rcases pget_pput l i j y s h with ⟨e, r⟩ | ⟨e, r⟩
    · exact Or.inl ⟨by omega, r⟩
    · exact Or.inr ⟨by omega, r⟩
/-- a two-word value whose first word is at i is forgotten -/
def pk1 (P : Pat) (i : Nat) : Pat := match pget P i with
  | some (.val (.long _)) => pput P i none
  | some (.val (.double _)) => pput P i none
  | _ => P
def pk2 (P : Pat) (i : Nat) : Pat := match pget P i with
  | some .second => pput P i none
  | _ => P
def pkp (P : Pat) : Nat → Pat
  | 0 => P
  | i + 1 => pk1 P i
def ps1 (P : Pat) (i : Nat) (v : Value) : Pat := pput (pk2 (pkp P i) (i + 1)) i (some (.val v))
def ps2 (P : Pat) (i : Nat) (v : Value) : Pat := pput (pput (pk2 (pkp P i) (i + 2)) i (some (.val v))) (i + 1) (some .second)
def WFl (L : Array Slot) : Prop := (∀ i : Nat, L[i]? = some .second → ∃ (j : Nat) (v : Value), i = j + 1 ∧ L[j]? = some (.val v) ∧ v.category = 2) ∧ (∀ (i : Nat) (v : Value), L[i]? = some (.val v) → v.category = 2 → L[i + 1]? = some .second)
def Fits (P : Pat) (L : Array Slot) : Prop := (∀ i s, pget P i = some s → L[i]? = some s) ∧ WFl L
theorem pk1_sub {P : Pat} {i j : Nat} {s : Slot} (h : pget (pk1 P i) j = some s) : pget P j = some s ∧ (j = i → ∀ w : Value, s = .val w → w.category = 1) := by
  unfold pk1 at h
  split at h
  · rcases pget_pput _ _ _ _ _ h with ⟨-, e⟩ | ⟨e, r⟩
    · cases e
    · exact ⟨r, fun q => absurd q e⟩
  · rcases pget_pput _ _ _ _ _ h with ⟨-, e⟩ | ⟨e, r⟩
    · cases e
    · exact ⟨r, fun q => absurd q e⟩
  · rename_i h1 h2
    refine ⟨h, fun q w e => ?_⟩
    subst q e
    cases w <;> first | rfl | exact absurd h (h1 _) | exact absurd h (h2 _)
theorem pk2_sub {P : Pat} {i j : Nat} {s : Slot} (h : pget (pk2 P i) j = some s) : pget P j = some s ∧ (j = i → s ≠ .second) := by
  unfold pk2 at h
  split at h
  · rcases pget_pput _ _ _ _ _ h with ⟨-, e⟩ | ⟨e, r⟩
    · cases e
    · exact ⟨r, fun q => absurd q e⟩
  · rename_i h1
    refine ⟨h, fun q e => ?_⟩
    subst q e; exact h1 h
theorem pkp_sub {P : Pat} {i j : Nat} {s : Slot} (h : pget (pkp P i) j = some s) : pget P j = some s ∧ (j + 1 = i → ∀ w : Value, s = .val w → w.category = 1) := by
  cases i with
  | zero => exact ⟨h, fun q => by omega⟩
  | succ i => obtain ⟨h1, h2⟩ := pk1_sub (show pget (pk1 P i) j = some s from h); exact ⟨h1, fun q => h2 (by omega)⟩
theorem setAt_eq {L : Array Slot} {i : Nat} {x : Slot} (hi : i < L.size) : Jvm.setAt L i x = some (L.setIfInBounds i x) := by simp [Jvm.setAt, hi]
theorem sl_second {L : Array Slot} {i : Nat} {v : Value} (ho : L[i]? = some .second) : storeLocals L i v = (Jvm.setAt L (i - 1) .unset).bind fun l => storeSelf l i v := by
  unfold storeLocals; rw [ho]; rfl
theorem sl_unset {L : Array Slot} {i : Nat} {v : Value} (ho : L[i]? = some .unset) : storeLocals L i v = storeSelf L i v := by
  unfold storeLocals; rw [ho]; rfl
theorem sl_val {L : Array Slot} {i : Nat} {v o : Value} (ho : L[i]? = some (.val o)) : storeLocals L i v = if o.category = 2 then (Jvm.setAt L (i + 1) .unset).bind fun l => storeSelf l i v else storeSelf L i v := by
  unfold storeLocals; rw [ho]; rfl
theorem ss_one {L : Array Slot} {i : Nat} {v : Value} (hi : i < L.size) (hv : ¬ v.category = 2) : storeSelf L i v = some (L.setIfInBounds i (.val v)) := by
  unfold storeSelf; rw [setAt_eq hi]; simp [hv]
theorem ss_two {L : Array Slot} {i : Nat} {v : Value} {o : Slot} (hi : i < L.size) (hv : v.category = 2) (ho : L[i + 1]? = some o) : storeSelf L i v = (match o with
    | .val old => if old.category = 2 then (Jvm.setAt (L.setIfInBounds i (.val v)) (i + 2) .unset).bind fun l => Jvm.setAt l (i + 1) .second else Jvm.setAt (L.setIfInBounds i (.val v)) (i + 1) .second
    | _ => Jvm.setAt (L.setIfInBounds i (.val v)) (i + 1) .second) := by
  have e : (L.setIfInBounds i (.val v))[i + 1]? = some o := by rw [Array.getElem?_setIfInBounds_ne (by omega)]; exact ho
  unfold storeSelf; rw [setAt_eq hi]
  show (if v.category = 2 then _ else _) = _
  rw [if_pos hv, e]
  cases o <;> rfl
theorem cat12 (v : Value) : v.category = 1 ∨ v.category = 2 := by cases v <;> first | exact Or.inl rfl | exact Or.inr rfl
/-- a one-word store: what stands elsewhere stays, but for the halves of a two-word value that it breaks -/
theorem store_one {L : Array Slot} {i : Nat} {v : Value} (hW : WFl L) (hi : i < L.size) (hv : v.category = 1) :
    ∃ L', storeLocals L i v = some L' ∧ L'.size = L.size ∧ WFl L' ∧ L'[i]? = some (.val v) ∧ ∀ j, j ≠ i → L'[j]? = L[j]? ∨ (j + 1 = i ∧ L[i]? = some .second) ∨ (j = i + 1 ∧ L[j]? = some .second) := by
  have hv2 : ¬ v.category = 2 := by omega
  cases ho : L[i]? with
  | none => rw [Array.getElem?_eq_none_iff] at ho; omega
  | some o =>
    cases o with
    | unset =>
      refine ⟨L.setIfInBounds i (.val v), ?_, by simp, ?_, by simp [hi], fun j hj => Or.inl (Array.getElem?_setIfInBounds_ne (Ne.symm hj))⟩
      · rw [sl_unset ho, ss_one hi hv2]
      · refine ⟨fun j hj => ?_, fun j w hj hw => ?_⟩
        · by_cases e : j = i
          · subst e; simp [hi] at hj
          · rw [Array.getElem?_setIfInBounds_ne (Ne.symm e)] at hj
            obtain ⟨j', w, e1, e2, e3⟩ := hW.1 j hj
            refine ⟨j', w, e1, ?_, e3⟩
            rw [Array.getElem?_setIfInBounds_ne]; exact e2
            intro q; subst q; rw [ho] at e2; cases e2
        · by_cases e : j = i
          · subst e; simp [hi] at hj; subst hj; omega
          · rw [Array.getElem?_setIfInBounds_ne (Ne.symm e)] at hj
            have := hW.2 j w hj hw
            rw [Array.getElem?_setIfInBounds_ne]; exact this
            intro q; subst q; rw [ho] at this; cases this
    | second =>
      obtain ⟨j0, w0, rfl, f2, f3⟩ := hW.1 i ho
      have hj0 : j0 < L.size := by omega
      refine ⟨(L.setIfInBounds j0 .unset).setIfInBounds (j0 + 1) (.val v), ?_, by simp, ?_, by simp [hi], fun j hj => ?_⟩
      · rw [sl_second ho, show j0 + 1 - 1 = j0 from rfl, setAt_eq hj0]; exact ss_one (by simpa using hi) hv2
      · refine ⟨fun j hj => ?_, fun j w hj hw => ?_⟩
        · by_cases e : j = j0 + 1
          · subst e; simp [hi] at hj
          · rw [Array.getElem?_setIfInBounds_ne (Ne.symm e)] at hj
            by_cases e' : j = j0
            · subst e'; simp [hj0] at hj
            · rw [Array.getElem?_setIfInBounds_ne (Ne.symm e')] at hj
              obtain ⟨j', w, e1, e2, e3⟩ := hW.1 j hj
              refine ⟨j', w, e1, ?_, e3⟩
              rw [Array.getElem?_setIfInBounds_ne, Array.getElem?_setIfInBounds_ne]
              · exact e2
              · intro q; subst q; omega
              · intro q; subst q; rw [ho] at e2; cases e2
        · by_cases e : j = j0 + 1
          · subst e; simp [hi] at hj; subst hj; omega
          · rw [Array.getElem?_setIfInBounds_ne (Ne.symm e)] at hj
            by_cases e' : j = j0
            · subst e'; simp [hj0] at hj
            · rw [Array.getElem?_setIfInBounds_ne (Ne.symm e')] at hj
              have := hW.2 j w hj hw
              rw [Array.getElem?_setIfInBounds_ne, Array.getElem?_setIfInBounds_ne]
              · exact this
              · intro q; subst q; rw [f2] at this; cases this
              · omega
      · by_cases e' : j = j0
        · exact Or.inr (Or.inl ⟨by omega, rfl⟩)
        · left; rw [Array.getElem?_setIfInBounds_ne (Ne.symm hj), Array.getElem?_setIfInBounds_ne (Ne.symm e')]
    | val old =>
      by_cases hc : old.category = 2
      · have f2 := hW.2 i old ho hc
        have hi1 : i + 1 < L.size := (Array.getElem?_eq_some_iff.mp f2).1
        refine ⟨(L.setIfInBounds (i + 1) .unset).setIfInBounds i (.val v), ?_, by simp, ?_, by simp [hi], fun j hj => ?_⟩
        · rw [sl_val ho, if_pos hc, setAt_eq hi1]; exact ss_one (by simpa using hi) hv2
        · refine ⟨fun j hj => ?_, fun j w hj hw => ?_⟩
          · by_cases e : j = i
            · subst e; simp [hi] at hj
            · rw [Array.getElem?_setIfInBounds_ne (Ne.symm e)] at hj
              by_cases e' : j = i + 1
              · subst e'; simp [hi1] at hj
              · rw [Array.getElem?_setIfInBounds_ne (Ne.symm e')] at hj
                obtain ⟨j', w, e1, e2, e3⟩ := hW.1 j hj
                refine ⟨j', w, e1, ?_, e3⟩
                rw [Array.getElem?_setIfInBounds_ne, Array.getElem?_setIfInBounds_ne]
                · exact e2
                · intro q; subst q; rw [f2] at e2; cases e2
                · omega
          · by_cases e : j = i
            · subst e; simp [hi] at hj; subst hj; omega
            · rw [Array.getElem?_setIfInBounds_ne (Ne.symm e)] at hj
              by_cases e' : j = i + 1
              · subst e'; simp [hi1] at hj
              · rw [Array.getElem?_setIfInBounds_ne (Ne.symm e')] at hj
                have := hW.2 j w hj hw
                rw [Array.getElem?_setIfInBounds_ne, Array.getElem?_setIfInBounds_ne]
                · exact this
                · omega
                · intro q; subst q; rw [ho] at this; cases this
        · by_cases e' : j = i + 1
          · subst e'; exact Or.inr (Or.inr ⟨rfl, f2⟩)
          · left; rw [Array.getElem?_setIfInBounds_ne (Ne.symm hj), Array.getElem?_setIfInBounds_ne (Ne.symm e')]
      · refine ⟨L.setIfInBounds i (.val v), ?_, by simp, ?_, by simp [hi], fun j hj => Or.inl (Array.getElem?_setIfInBounds_ne (Ne.symm hj))⟩
        · rw [sl_val ho, if_neg hc, ss_one hi hv2]
        · refine ⟨fun j hj => ?_, fun j w hj hw => ?_⟩
          · by_cases e : j = i
            · subst e; simp [hi] at hj
            · rw [Array.getElem?_setIfInBounds_ne (Ne.symm e)] at hj
              obtain ⟨j', w, e1, e2, e3⟩ := hW.1 j hj
              refine ⟨j', w, e1, ?_, e3⟩
              rw [Array.getElem?_setIfInBounds_ne]; exact e2
              intro q; subst q; rw [ho] at e2; cases e2; omega
          · by_cases e : j = i
            · subst e; simp [hi] at hj; subst hj; omega
            · rw [Array.getElem?_setIfInBounds_ne (Ne.symm e)] at hj
              have := hW.2 j w hj hw
              rw [Array.getElem?_setIfInBounds_ne]; exact this
              intro q; subst q; rw [ho] at this; cases this
theorem Fits.store1 {P : Pat} {L : Array Slot} {i : Nat} {v : Value} (h : Fits P L) (hi : i < L.size) (hv : v.category = 1) :
    ∃ L', storeLocals L i v = some L' ∧ L'.size = L.size ∧ Fits (ps1 P i v) L' := by
  obtain ⟨L', e1, e2, e3, e4, e5⟩ := store_one h.2 hi hv
  refine ⟨L', e1, e2, fun j s hj => ?_, e3⟩
  rcases pget_pput _ _ _ _ _ hj with ⟨rfl, q⟩ | ⟨ne, q⟩
  · rw [e4]; exact q
  · obtain ⟨q1, q2⟩ := pk2_sub q
    obtain ⟨q3, q4⟩ := pkp_sub q1
    have hL := h.1 j s q3
    rcases e5 j ne with r | ⟨r1, r2⟩ | ⟨r1, r2⟩
    · rw [r]; exact hL
    · obtain ⟨j', w, z1, z2, z3⟩ := h.2.1 i r2
      have : j' = j := by omega
      subst this
      rw [hL] at z2; cases z2
      have := q4 r1 w rfl; omega
    · rw [hL] at r2; cases r2
      exact absurd rfl (q2 r1)
theorem st_ph1 {L : Array Slot} {i : Nat} {v : Value} (hW : WFl L) (hi : i + 1 < L.size) :
    ∃ A : Array Slot, storeLocals L i v = storeSelf A i v ∧ A.size = L.size ∧ (∀ j, j ≠ i → j ≠ i + 1 → A[j]? = L[j]? ∨ (j + 1 = i ∧ L[i]? = some .second ∧ A[j]? = some .unset)) ∧ (A[i + 1]? = L[i + 1]? ∨ (A[i + 1]? = some .unset ∧ L[i + 1]? = some .second)) ∧ (L[i]? = some .second → ∀ j, j + 1 = i → A[j]? = some .unset) := by
  have hi0 : i < L.size := by omega
  cases ho : L[i]? with
  | none => rw [Array.getElem?_eq_none_iff] at ho; omega
  | some o =>
    cases o with
    | unset => exact ⟨L, sl_unset ho, rfl, fun j _ _ => Or.inl rfl, Or.inl rfl, fun q => by cases q⟩
    | second =>
      obtain ⟨j0, w0, rfl, f2, f3⟩ := hW.1 i ho
      have hj0 : j0 < L.size := by omega
      refine ⟨L.setIfInBounds j0 .unset, by rw [sl_second ho, show j0 + 1 - 1 = j0 from rfl, setAt_eq hj0]; rfl, by simp, fun j h1 h2 => ?_, Or.inl (Array.getElem?_setIfInBounds_ne (by omega)), fun _ j hj => ?_⟩
      · by_cases e : j = j0
        · subst e; exact Or.inr ⟨rfl, rfl, by simp [hj0]⟩
        · exact Or.inl (Array.getElem?_setIfInBounds_ne (Ne.symm e))
      · have : j = j0 := by omega
        subst this; simp [hj0]
    | val old =>
      by_cases hc : old.category = 2
      · refine ⟨L.setIfInBounds (i + 1) .unset, by rw [sl_val ho, if_pos hc, setAt_eq hi]; rfl, by simp, fun j h1 h2 => Or.inl (Array.getElem?_setIfInBounds_ne (Ne.symm h2)), Or.inr ⟨by simp [hi], hW.2 i old ho hc⟩, fun q => by cases q⟩
      · exact ⟨L, by rw [sl_val ho, if_neg hc], rfl, fun j _ _ => Or.inl rfl, Or.inl rfl, fun q => by cases q⟩
theorem st_ph2 {A : Array Slot} {i : Nat} {v : Value} (hi : i + 1 < A.size) (hv : v.category = 2) (hn : ∀ w : Value, A[i + 1]? = some (.val w) → w.category = 2 → i + 2 < A.size) :
    ∃ L', storeSelf A i v = some L' ∧ L'.size = A.size ∧ L'[i]? = some (.val v) ∧ L'[i + 1]? = some .second ∧ (∀ j, j ≠ i → j ≠ i + 1 → L'[j]? = A[j]? ∨ (j = i + 2 ∧ L'[j]? = some .unset ∧ ∃ w : Value, A[i + 1]? = some (.val w) ∧ w.category = 2)) ∧ ((∃ w : Value, A[i + 1]? = some (.val w) ∧ w.category = 2) → L'[i + 2]? = some .unset) := by
  have hi0 : i < A.size := by omega
  have eB : (A.setIfInBounds i (.val v))[i + 1]? = A[i + 1]? := Array.getElem?_setIfInBounds_ne (by omega)
  have plain : (∀ w : Value, A[i + 1]? = some (.val w) → w.category ≠ 2) → storeSelf A i v = some ((A.setIfInBounds i (.val v)).setIfInBounds (i + 1) .second) := fun hq => by
    cases ho : A[i + 1]? with
    | none => rw [Array.getElem?_eq_none_iff] at ho; omega
    | some o => cases o with
      | unset => rw [ss_two hi0 hv ho]; exact setAt_eq (by simpa using hi)
      | second => rw [ss_two hi0 hv ho]; exact setAt_eq (by simpa using hi)
      | val w => have := hq w ho; rw [ss_two hi0 hv ho]; simp only [if_neg this]; exact setAt_eq (by simpa using hi)
  by_cases hw : ∃ w : Value, A[i + 1]? = some (.val w) ∧ w.category = 2
  · obtain ⟨w, h1, h2⟩ := hw
    have h3 := hn w h1 h2
    refine ⟨((A.setIfInBounds i (.val v)).setIfInBounds (i + 2) .unset).setIfInBounds (i + 1) .second, by rw [ss_two hi0 hv h1]; simp only [if_pos h2]; rw [setAt_eq (by simpa using h3)]; exact setAt_eq (by simpa using hi), by simp, ?_, by simp [hi], fun j a b => ?_, fun _ => ?_⟩
    · rw [Array.getElem?_setIfInBounds_ne (by omega), Array.getElem?_setIfInBounds_ne (by omega)]; simp [hi0]
    · rw [Array.getElem?_setIfInBounds_ne (by omega)]
      by_cases e : j = i + 2
      · subst e; exact Or.inr ⟨rfl, by simp [h3], w, h1, h2⟩
      · left; rw [Array.getElem?_setIfInBounds_ne (by omega), Array.getElem?_setIfInBounds_ne (by omega)]
    · rw [Array.getElem?_setIfInBounds_ne (by omega)]; simp [h3]
  · refine ⟨_, plain fun w h1 h2 => hw ⟨w, h1, h2⟩, by simp, ?_, by simp [hi], fun j a b => Or.inl ?_, fun q => absurd q hw⟩
    · rw [Array.getElem?_setIfInBounds_ne (by omega)]; simp [hi0]
    · rw [Array.getElem?_setIfInBounds_ne (by omega), Array.getElem?_setIfInBounds_ne (by omega)]
theorem store_two {L : Array Slot} {i : Nat} {v : Value} (hW : WFl L) (hi : i + 1 < L.size) (hv : v.category = 2) :
    ∃ L', storeLocals L i v = some L' ∧ L'.size = L.size ∧ WFl L' ∧ L'[i]? = some (.val v) ∧ L'[i + 1]? = some .second ∧ ∀ j, j ≠ i → j ≠ i + 1 → L'[j]? = L[j]? ∨ (j + 1 = i ∧ L[i]? = some .second) ∨ (j = i + 2 ∧ L[j]? = some .second) := by
  obtain ⟨A, a1, a2, a3, a4, a5⟩ := st_ph1 (v := v) hW hi
  have a6 : ∀ w : Value, A[i + 1]? = some (.val w) → w.category = 2 → L[i + 2]? = some .second := fun w h1 h2 => by
    rcases a4 with e | ⟨e, -⟩
    · rw [e] at h1; exact hW.2 _ _ h1 h2
    · rw [e] at h1; cases h1
  obtain ⟨L', b1, b2, b3, b4, b5, b6⟩ := st_ph2 (A := A) (i := i) (v := v) (by omega) hv (fun w h1 h2 => by have := (Array.getElem?_eq_some_iff.mp (a6 w h1 h2)).1; omega)
  have c : ∀ j, j ≠ i → j ≠ i + 1 → L'[j]? = L[j]? ∨ (j + 1 = i ∧ L[i]? = some .second ∧ L'[j]? = some .unset) ∨ (j = i + 2 ∧ L[j]? = some .second ∧ L'[j]? = some .unset) := fun j h1 h2 => by
    rcases b5 j h1 h2 with e | ⟨e1, e2, w, e3, e4⟩
    · rcases a3 j h1 h2 with r | ⟨r1, r2, r3⟩
      · exact Or.inl (e.trans r)
      · exact Or.inr (Or.inl ⟨r1, r2, e.trans r3⟩)
    · subst e1; exact Or.inr (Or.inr ⟨rfl, a6 w e3 e4, e2⟩)
  have cs : L[i]? = some .second → ∀ j, j + 1 = i → L'[j]? = some .unset := fun q j hj => by
    rcases b5 j (by omega) (by omega) with e | ⟨e1, -⟩
    · exact e.trans (a5 q j hj)
    · omega
  have c2 : L[i + 2]? = some .second → L'[i + 2]? = some .unset := fun q => by
    obtain ⟨j', w, z1, z2, z3⟩ := hW.1 _ q
    have : j' = i + 1 := by omega
    subst this
    rcases a4 with e | ⟨-, e⟩
    · exact b6 ⟨w, e.trans z2, z3⟩
    · rw [e] at z2; cases z2
  refine ⟨L', a1.trans b1, b2.trans a2, ⟨fun j hj => ?_, fun j w hj hw => ?_⟩, b3, b4, fun j h1 h2 => ?_⟩
  · by_cases e0 : j = i
    · subst e0; rw [b3] at hj; cases hj
    by_cases e1 : j = i + 1
    · exact ⟨i, v, e1, b3, hv⟩
    rcases c j e0 e1 with r | ⟨-, -, r⟩ | ⟨-, -, r⟩
    · rw [r] at hj
      obtain ⟨j', w, z1, z2, z3⟩ := hW.1 j hj
      refine ⟨j', w, z1, ?_, z3⟩
      have n0 : j' ≠ i := by omega
      by_cases n1 : j' = i + 1
      · have : j = i + 2 := by omega
        subst this
        rw [c2 hj] at r; rw [hj] at r; cases r
      rcases c j' n0 n1 with u | ⟨u, -, -⟩ | ⟨-, u, -⟩
      · exact u.trans z2
      · omega
      · rw [z2] at u; cases u
    · rw [r] at hj; cases hj
    · rw [r] at hj; cases hj
  · by_cases e0 : j = i
    · subst e0; exact b4
    by_cases e1 : j = i + 1
    · subst e1; rw [b4] at hj; cases hj
    rcases c j e0 e1 with r | ⟨-, -, r⟩ | ⟨-, -, r⟩
    · have hj' := hj
      rw [r] at hj
      have z := hW.2 j w hj hw
      by_cases n0 : j + 1 = i
      · subst n0; rw [cs z j rfl] at hj'; cases hj'
      by_cases n1 : j + 1 = i + 1
      · omega
      rcases c (j + 1) n0 n1 with u | ⟨u1, u2, -⟩ | ⟨u, -, -⟩
      · exact u.trans z
      · obtain ⟨j', w', y1, y2, y3⟩ := hW.1 i u2
        have : j' = j + 1 := by omega
        subst this; rw [z] at y2; cases y2
      · omega
    · rw [r] at hj; cases hj
    · rw [r] at hj; cases hj
  · rcases c j h1 h2 with r | ⟨r1, r2, -⟩ | ⟨r1, r2, -⟩
    · exact Or.inl r
    · exact Or.inr (Or.inl ⟨r1, r2⟩)
    · exact Or.inr (Or.inr ⟨r1, r2⟩)
theorem Fits.store2 {P : Pat} {L : Array Slot} {i : Nat} {v : Value} (h : Fits P L) (hi : i + 1 < L.size) (hv : v.category = 2) :
    ∃ L', storeLocals L i v = some L' ∧ L'.size = L.size ∧ Fits (ps2 P i v) L' := by
  obtain ⟨L', e1, e2, e3, e4, e4', e5⟩ := store_two h.2 hi hv
  refine ⟨L', e1, e2, fun j s hj => ?_, e3⟩
  rcases pget_pput _ _ _ _ _ hj with ⟨rfl, q⟩ | ⟨ne, q⟩
  · rw [e4']; exact q
  rcases pget_pput _ _ _ _ _ q with ⟨rfl, q'⟩ | ⟨ne', q'⟩
  · rw [e4]; exact q'
  obtain ⟨q1, q2⟩ := pk2_sub q'
  obtain ⟨q3, q4⟩ := pkp_sub q1
  have hL := h.1 j s q3
  rcases e5 j ne' ne with r | ⟨r1, r2⟩ | ⟨r1, r2⟩
  · rw [r]; exact hL
  · obtain ⟨j', w, z1, z2, z3⟩ := h.2.1 i r2
    have : j' = j := by omega
    subst this
    rw [hL] at z2; cases z2
    have := q4 r1 w rfl; omega
  · rw [hL] at r2; cases r2
    exact absurd rfl (q2 r1)
/- what a body does from a place on -/
def Runs (C : Ctx) (M : Bdy) (k n pc : Nat) (P : Pat) (S : List Value) (G : AH) (Q : Option Value → AH → Prop) : Prop :=
  Ok C → ∀ (p : Program) (e : Env) (s : State) (m : MethodId) (args : Array Value) (below : List Frame) (meth : Method) (c : Code) (T : State) (locs : List Loc) (L : Array Slot),
    p.tables.exec = Jvm.exec → c.code = M.2.1 → c.maxLocals = M.2.2.1 → meth.sig.returnType = M.2.2.2.1 → meth.name = M.1.name → s.vm.findClass M.1.cls = some m.cls → C.2.1.Warmed39 s.vm →
    Fits P L → L.size = M.2.2.1 → Stand p C.1 e M.2.2.2.2 s m args below meth c T locs k n → Rep C.2.1 C.2.2.1 T.heap G → Fr C.2.2.1 locs →
    ∃ (T' : State) (locs' : List Loc) (k' n' : Nat) (r : Option Value) (G' : AH), Stand p C.1 e M.2.2.2.2 s m args below meth c T' locs' k' n' ∧ k' ≤ M.2.2.2.2.cells ∧ n' ≤ M.2.2.2.2.slots ∧ Rep C.2.1 C.2.2.1 T'.heap G' ∧ Fr C.2.2.1 locs' ∧ Q r G' ∧
      (M.2.2.2.1 = none → r = none) ∧
      ∀ fs : List Frame, (∀ (f : JFrame) (acts : List Action), f.method = m → f.locked = none → f.entered = [] → (doReturn e (T'.setTop f) acts r).1 = T'.setFrames fs) → Steps p.tables e below (T.setTop (mkF m pc L S)) (T'.setFrames fs)
section Rules
variable {C : Ctx} {M : Bdy} {k n pc q : Nat} {P P' : Pat} {S S' : List Value} {G : AH} {Q : Option Value → AH → Prop}
/-- a step that leaves the heap alone -/
theorem Runs.pure {i : Instr} {len : Nat} (d : DAt M pc i len q) {pc' : Nat}
    (st : ∀ (p : Program) (e : Env) (s : State) (m : MethodId) (args : Array Value) (below : List Frame) (meth : Method) (c : Code) (T : State) (locs : List Loc) (L : Array Slot), Ok C → p.tables.exec = Jvm.exec → s.vm.findClass M.1.cls = some m.cls → C.2.1.Warmed39 s.vm → decode c.code pc = .ok (i, len) → Fits P L → L.size = M.2.2.1 → Rep C.2.1 C.2.2.1 T.heap G →
      Stand p C.1 e M.2.2.2.2 s m args below meth c T locs k n → ∃ L', Fits P' L' ∧ L'.size = M.2.2.1 ∧ ∀ t, Steps p.tables e below (T.setTop (mkF m pc' L' S')) t → Steps p.tables e below (T.setTop (mkF m pc L S)) t)
    (h : Runs C M k n pc' P' S' G Q) : Runs C M k n pc P S G Q := by
  intro hw p e s m args below meth c T locs L hx hby hml hret hnm hown hZ hP hsz X hR hF
  obtain ⟨L', f1, f2, f3⟩ := st p e s m args below meth c T locs L hw hx hown hZ (hb hby d.1) hP hsz hR X
  obtain ⟨T', locs', k', n', r, G', g1, g2, g3, g4, g5, g6, g7, g8⟩ := h hw p e s m args below meth c T locs L' hx hby hml hret hnm hown hZ f1 f2 X hR hF
  exact ⟨T', locs', k', n', r, G', g1, g2, g3, g4, g5, g6, g7, fun fs hr => f3 _ (g8 fs hr)⟩
/-- a step that keeps the locals and what the heap says -/
theorem Runs.stk {i : Instr} {len : Nat} (d : DAt M pc i len q)
    (st : ∀ (p : Program) (e : Env) (s : State) (m : MethodId) (args : Array Value) (below : List Frame) (meth : Method) (c : Code) (T : State) (locs : List Loc) (L : Array Slot), p.tables.exec = Jvm.exec → decode c.code pc = .ok (i, len) → Fits P L →
      Stand p C.1 e M.2.2.2.2 s m args below meth c T locs k n → ∀ t, Steps p.tables e below (T.setTop (mkF m (pc + len) L S')) t → Steps p.tables e below (T.setTop (mkF m pc L S)) t)
    (h : Runs C M k n q P S' G Q) : Runs C M k n pc P S G Q := by
  have hq := d.2
  subst hq
  exact Runs.pure d (fun p e s m args below meth c T locs L _ hx _ _ hd hP hsz _ X => ⟨L, hP, hsz, st p e s m args below meth c T locs L hx hd hP X⟩) h
theorem Runs.iloadN {j : Fin 4} {v : Int32} (d : DAt M pc (.iload_n j) 1 q) (hl : pget P j.val = vi v) (h : Runs C M k n q P (.int v :: S) G Q) : Runs C M k n pc P S G Q :=
  Runs.stk d (fun p e s m args below meth c T locs L hx hd hP X t r => XS.iloadN (g := mkF m pc L S) X.here hx rfl hd (hP.1 _ _ hl) r) h
theorem Runs.iload {j : Nat} {v : Int32} (d : DAt M pc (.iload j) 2 q) (hl : pget P j = vi v) (h : Runs C M k n q P (.int v :: S) G Q) : Runs C M k n pc P S G Q :=
  Runs.stk d (fun p e s m args below meth c T locs L hx hd hP X t r => XS.iload (g := mkF m pc L S) X.here hx rfl hd (hP.1 _ _ hl) r) h
theorem Runs.lloadN {j : Fin 4} {v : Int64} (d : DAt M pc (.lload_n j) 1 q) (hl : pget P j.val = vl v) (h : Runs C M k n q P (.long v :: S) G Q) : Runs C M k n pc P S G Q :=
  Runs.stk d (fun p e s m args below meth c T locs L hx hd hP X t r => XS.lloadN (g := mkF m pc L S) X.here hx rfl hd (hP.1 _ _ hl) r) h
theorem Runs.lload {j : Nat} {v : Int64} (d : DAt M pc (.lload j) 2 q) (hl : pget P j = vl v) (h : Runs C M k n q P (.long v :: S) G Q) : Runs C M k n pc P S G Q :=
  Runs.stk d (fun p e s m args below meth c T locs L hx hd hP X t r => XS.lload (g := mkF m pc L S) X.here hx rfl hd (hP.1 _ _ hl) r) h
theorem Runs.aloadN {j : Fin 4} {v : Nat} (d : DAt M pc (.aload_n j) 1 q) (hl : pget P j.val = vr v) (h : Runs C M k n q P (.ref v :: S) G Q) : Runs C M k n pc P S G Q :=
  Runs.stk d (fun p e s m args below meth c T locs L hx hd hP X t r => XS.aloadN (g := mkF m pc L S) X.here hx rfl hd (hP.1 _ _ hl) rfl r) h
theorem Runs.aload {j : Nat} {v : Nat} (d : DAt M pc (.aload j) 2 q) (hl : pget P j = vr v) (h : Runs C M k n q P (.ref v :: S) G Q) : Runs C M k n pc P S G Q :=
  Runs.stk d (fun p e s m args below meth c T locs L hx hd hP X t r => XS.aload (g := mkF m pc L S) X.here hx rfl hd (hP.1 _ _ hl) rfl r) h
theorem Runs.iconst {i : Int} {v : Int32} (d : DAt M pc (.iconst i) 1 q) (hv : Int32.ofInt i = v) (h : Runs C M k n q P (.int v :: S) G Q) : Runs C M k n pc P S G Q :=
  Runs.stk d (fun p e s m args below meth c T locs L hx hd hP X t r => XS.iconst (g := mkF m pc L S) X.here hx rfl hd (by rw [hv]; exact r)) h
theorem Runs.bipush {i : Int} {v : Int32} (d : DAt M pc (.bipush i) 2 q) (hv : (Int8.ofInt i).toInt32 = v) (h : Runs C M k n q P (.int v :: S) G Q) : Runs C M k n pc P S G Q :=
  Runs.stk d (fun p e s m args below meth c T locs L hx hd hP X t r => XS.bipush (g := mkF m pc L S) X.here hx rfl hd (by rw [hv]; exact r)) h
theorem Runs.sipush {i : Int} {v : Int32} (d : DAt M pc (.sipush i) 3 q) (hv : (Int16.ofInt i).toInt32 = v) (h : Runs C M k n q P (.int v :: S) G Q) : Runs C M k n pc P S G Q :=
  Runs.stk d (fun p e s m args below meth c T locs L hx hd hP X t r => XS.sipush (g := mkF m pc L S) X.here hx rfl hd (by rw [hv]; exact r)) h
theorem Runs.lconst {i : Fin 2} {v : Int64} (d : DAt M pc (.lconst i) 1 q) (hv : Int64.ofNat i = v) (h : Runs C M k n q P (.long v :: S) G Q) : Runs C M k n pc P S G Q :=
  Runs.stk d (fun p e s m args below meth c T locs L hx hd hP X t r => Jvm.Free.XT.lconstV (g := mkF m pc L S) X.here hx rfl v hd hv r) h
theorem Runs.ldc {i : Nat} {v : Int32} (d : DAt M pc (.ldc i) 2 q) (w : Jvm.Cond.constant M.1.cls i v ∈ tables_1) (h : Runs C M k n q P (.int v :: S) G Q) : Runs C M k n pc P S G Q := by
  have hq := d.2
  subst hq
  exact Runs.pure d (fun p e s m args below meth c T locs L hw hx hown hZ hd hP hsz _ X => ⟨L, hP, hsz, fun t r => X.ldcInt hx hown (mvT hZ (hw _ w)) (g := mkF m pc L S) rfl hd t r⟩) h
theorem Runs.ldc2 {i : Nat} {v : Int64} (d : DAt M pc (.ldc2_w i) 3 q) (w : Jvm.Cond.constantLong M.1.cls i v ∈ tables_1) (h : Runs C M k n q P (.long v :: S) G Q) : Runs C M k n pc P S G Q := by
  have hq := d.2
  subst hq
  exact Runs.pure d (fun p e s m args below meth c T locs L hw hx hown hZ hd hP hsz _ X => ⟨L, hP, hsz, fun t r => X.ldc2Long hx hown (mvT hZ (hw _ w)) (g := mkF m pc L S) rfl hd t r⟩) h
theorem Runs.iadd {x y : Int32} (d : DAt M pc .iadd 1 q) (h : Runs C M k n q P (.int (x + y) :: S) G Q) : Runs C M k n pc P (.int y :: .int x :: S) G Q :=
  Runs.stk d (fun p e s m args below meth c T locs L hx hd hP X t r => XS.iadd (g := mkF m pc L (.int y :: .int x :: S)) X.here hx rfl hd rfl r) h
theorem Runs.isub {x y : Int32} (d : DAt M pc .isub 1 q) (h : Runs C M k n q P (.int (x - y) :: S) G Q) : Runs C M k n pc P (.int y :: .int x :: S) G Q :=
  Runs.stk d (fun p e s m args below meth c T locs L hx hd hP X t r => XS.isub (g := mkF m pc L (.int y :: .int x :: S)) X.here hx rfl hd rfl r) h
theorem Runs.imul {x y : Int32} (d : DAt M pc .imul 1 q) (h : Runs C M k n q P (.int (x * y) :: S) G Q) : Runs C M k n pc P (.int y :: .int x :: S) G Q :=
  Runs.stk d (fun p e s m args below meth c T locs L hx hd hP X t r => XS.imul (g := mkF m pc L (.int y :: .int x :: S)) X.here hx rfl hd rfl r) h
theorem Runs.iand {x y : Int32} (d : DAt M pc .iand 1 q) (h : Runs C M k n q P (.int (x &&& y) :: S) G Q) : Runs C M k n pc P (.int y :: .int x :: S) G Q :=
  Runs.stk d (fun p e s m args below meth c T locs L hx hd hP X t r => XS.iand (g := mkF m pc L (.int y :: .int x :: S)) X.here hx rfl hd rfl r) h
theorem Runs.ior {x y : Int32} (d : DAt M pc .ior 1 q) (h : Runs C M k n q P (.int (x ||| y) :: S) G Q) : Runs C M k n pc P (.int y :: .int x :: S) G Q :=
  Runs.stk d (fun p e s m args below meth c T locs L hx hd hP X t r => XS.ior (g := mkF m pc L (.int y :: .int x :: S)) X.here hx rfl hd rfl r) h
theorem Runs.ixor {x y : Int32} (d : DAt M pc .ixor 1 q) (h : Runs C M k n q P (.int (x ^^^ y) :: S) G Q) : Runs C M k n pc P (.int y :: .int x :: S) G Q :=
  Runs.stk d (fun p e s m args below meth c T locs L hx hd hP X t r => XS.ixor (g := mkF m pc L (.int y :: .int x :: S)) X.here hx rfl hd rfl r) h
theorem Runs.ladd {x y : Int64} (d : DAt M pc .ladd 1 q) (h : Runs C M k n q P (.long (x + y) :: S) G Q) : Runs C M k n pc P (.long y :: .long x :: S) G Q :=
  Runs.stk d (fun p e s m args below meth c T locs L hx hd hP X t r => XS.ladd (g := mkF m pc L (.long y :: .long x :: S)) X.here hx rfl hd rfl r) h
theorem Runs.lsub {x y : Int64} (d : DAt M pc .lsub 1 q) (h : Runs C M k n q P (.long (x - y) :: S) G Q) : Runs C M k n pc P (.long y :: .long x :: S) G Q :=
  Runs.stk d (fun p e s m args below meth c T locs L hx hd hP X t r => XS.lsub (g := mkF m pc L (.long y :: .long x :: S)) X.here hx rfl hd rfl r) h
theorem Runs.lmul {x y : Int64} (d : DAt M pc .lmul 1 q) (h : Runs C M k n q P (.long (x * y) :: S) G Q) : Runs C M k n pc P (.long y :: .long x :: S) G Q :=
  Runs.stk d (fun p e s m args below meth c T locs L hx hd hP X t r => XS.lmul (g := mkF m pc L (.long y :: .long x :: S)) X.here hx rfl hd rfl r) h
theorem Runs.land {x y : Int64} (d : DAt M pc .land 1 q) (h : Runs C M k n q P (.long (x &&& y) :: S) G Q) : Runs C M k n pc P (.long y :: .long x :: S) G Q :=
  Runs.stk d (fun p e s m args below meth c T locs L hx hd hP X t r => XS.land (g := mkF m pc L (.long y :: .long x :: S)) X.here hx rfl hd rfl r) h
theorem Runs.lor {x y : Int64} (d : DAt M pc .lor 1 q) (h : Runs C M k n q P (.long (x ||| y) :: S) G Q) : Runs C M k n pc P (.long y :: .long x :: S) G Q :=
  Runs.stk d (fun p e s m args below meth c T locs L hx hd hP X t r => XS.lor (g := mkF m pc L (.long y :: .long x :: S)) X.here hx rfl hd rfl r) h
theorem Runs.lxor {x y : Int64} (d : DAt M pc .lxor 1 q) (h : Runs C M k n q P (.long (x ^^^ y) :: S) G Q) : Runs C M k n pc P (.long y :: .long x :: S) G Q :=
  Runs.stk d (fun p e s m args below meth c T locs L hx hd hP X t r => XS.lxor (g := mkF m pc L (.long y :: .long x :: S)) X.here hx rfl hd rfl r) h
theorem Runs.ishl {x : Int32} {y : Int32} (d : DAt M pc .ishl 1 q) (h : Runs C M k n q P (.int (x <<< (y &&& 31)) :: S) G Q) : Runs C M k n pc P (.int y :: .int x :: S) G Q :=
  Runs.stk d (fun p e s m args below meth c T locs L hx hd hP X t r => XS.ishl (g := mkF m pc L (.int y :: .int x :: S)) X.here hx rfl hd rfl r) h
theorem Runs.ishr {x : Int32} {y : Int32} (d : DAt M pc .ishr 1 q) (h : Runs C M k n q P (.int (x >>> (y &&& 31)) :: S) G Q) : Runs C M k n pc P (.int y :: .int x :: S) G Q :=
  Runs.stk d (fun p e s m args below meth c T locs L hx hd hP X t r => XS.ishr (g := mkF m pc L (.int y :: .int x :: S)) X.here hx rfl hd rfl r) h
theorem Runs.iushr {x : Int32} {y : Int32} (d : DAt M pc .iushr 1 q) (h : Runs C M k n q P (.int ((x.toUInt32 >>> (y &&& 31).toUInt32).toInt32) :: S) G Q) : Runs C M k n pc P (.int y :: .int x :: S) G Q :=
  Runs.stk d (fun p e s m args below meth c T locs L hx hd hP X t r => XS.iushr (g := mkF m pc L (.int y :: .int x :: S)) X.here hx rfl hd rfl r) h
theorem Runs.lshl {x : Int64} {y : Int32} (d : DAt M pc .lshl 1 q) (h : Runs C M k n q P (.long (x <<< (y &&& 0x3f).toInt64) :: S) G Q) : Runs C M k n pc P (.int y :: .long x :: S) G Q :=
  Runs.stk d (fun p e s m args below meth c T locs L hx hd hP X t r => XS.lshl (g := mkF m pc L (.int y :: .long x :: S)) X.here hx rfl hd rfl r) h
theorem Runs.lshr {x : Int64} {y : Int32} (d : DAt M pc .lshr 1 q) (h : Runs C M k n q P (.long (x >>> (y &&& 0x3f).toInt64) :: S) G Q) : Runs C M k n pc P (.int y :: .long x :: S) G Q :=
  Runs.stk d (fun p e s m args below meth c T locs L hx hd hP X t r => XS.lshr (g := mkF m pc L (.int y :: .long x :: S)) X.here hx rfl hd rfl r) h
theorem Runs.lushr {x : Int64} {y : Int32} (d : DAt M pc .lushr 1 q) (h : Runs C M k n q P (.long ((x.toUInt64 >>> (y &&& 0x3f).toInt64.toUInt64).toInt64) :: S) G Q) : Runs C M k n pc P (.int y :: .long x :: S) G Q :=
  Runs.stk d (fun p e s m args below meth c T locs L hx hd hP X t r => XS.lushr (g := mkF m pc L (.int y :: .long x :: S)) X.here hx rfl hd rfl r) h
theorem Runs.ineg {x : Int32} (d : DAt M pc .ineg 1 q) (h : Runs C M k n q P (.int (-x) :: S) G Q) : Runs C M k n pc P (.int x :: S) G Q :=
  Runs.stk d (fun p e s m args below meth c T locs L hx hd hP X t r => XS.ineg (g := mkF m pc L (.int x :: S)) X.here hx rfl hd rfl r) h
theorem Runs.lneg {x : Int64} (d : DAt M pc .lneg 1 q) (h : Runs C M k n q P (.long (-x) :: S) G Q) : Runs C M k n pc P (.long x :: S) G Q :=
  Runs.stk d (fun p e s m args below meth c T locs L hx hd hP X t r => XS.lneg (g := mkF m pc L (.long x :: S)) X.here hx rfl hd rfl r) h
theorem Runs.i2l {x : Int32} (d : DAt M pc .i2l 1 q) (h : Runs C M k n q P (.long x.toInt64 :: S) G Q) : Runs C M k n pc P (.int x :: S) G Q :=
  Runs.stk d (fun p e s m args below meth c T locs L hx hd hP X t r => XS.i2l (g := mkF m pc L (.int x :: S)) X.here hx rfl hd rfl r) h
theorem Runs.l2i {x : Int64} (d : DAt M pc .l2i 1 q) (h : Runs C M k n q P (.int x.toInt32 :: S) G Q) : Runs C M k n pc P (.long x :: S) G Q :=
  Runs.stk d (fun p e s m args below meth c T locs L hx hd hP X t r => XS.l2i (g := mkF m pc L (.long x :: S)) X.here hx rfl hd rfl r) h
theorem Runs.lcmp {x y : Int64} (d : DAt M pc .lcmp 1 q) (h : Runs C M k n q P (.int (lcmpW x y) :: S) G Q) : Runs C M k n pc P (.long y :: .long x :: S) G Q :=
  Runs.stk d (fun p e s m args below meth c T locs L hx hd hP X t r => XS.lcmp (g := mkF m pc L (.long y :: .long x :: S)) X.here hx rfl hd rfl r) h
theorem Runs.idiv {x y : Int32} (d : DAt M pc .idiv 1 q) (hy : y ≠ 0) (h : Runs C M k n q P (.int (x / y) :: S) G Q) : Runs C M k n pc P (.int y :: .int x :: S) G Q :=
  Runs.stk d (fun p e s m args below meth c T locs L hx hd hP X t r => XS.idiv (g := mkF m pc L (.int y :: .int x :: S)) X.here hx rfl hd rfl hy r) h
theorem Runs.irem {x y : Int32} (d : DAt M pc .irem 1 q) (hy : y ≠ 0) (h : Runs C M k n q P (.int (x % y) :: S) G Q) : Runs C M k n pc P (.int y :: .int x :: S) G Q :=
  Runs.stk d (fun p e s m args below meth c T locs L hx hd hP X t r => iremM (g := mkF m pc L (.int y :: .int x :: S)) X hx rfl hd rfl hy r) h
theorem Runs.dup {x : Value} (d : DAt M pc .dup 1 q) (hc : x.category = 1) (h : Runs C M k n q P (x :: x :: S) G Q) : Runs C M k n pc P (x :: S) G Q :=
  Runs.stk d (fun p e s m args below meth c T locs L hx hd hP X t r => XS.dup (g := mkF m pc L (x :: S)) X.here hx rfl hd rfl hc r) h
theorem Runs.dup2 {x y : Value} (d : DAt M pc .dup2 1 q) (hc : x.category = 1) (hc' : y.category = 1) (h : Runs C M k n q P (x :: y :: x :: y :: S) G Q) : Runs C M k n pc P (x :: y :: S) G Q :=
  Runs.stk d (fun p e s m args below meth c T locs L hx hd hP X t r => Jvm.Free.XT.dup2 (g := mkF m pc L (x :: y :: S)) X.here hx rfl hd rfl hc hc' r) h
theorem Runs.pop {x : Value} (d : DAt M pc .pop 1 q) (hc : x.category = 1) (h : Runs C M k n q P S G Q) : Runs C M k n pc P (x :: S) G Q :=
  Runs.stk d (fun p e s m args below meth c T locs L hx hd hP X t r => XS.pop (g := mkF m pc L (x :: S)) X.here hx rfl hd rfl hc r) h
theorem Runs.goto {o : Int} {pc' : Nat} (d : DAt M pc (.goto o) 3 q) (ho : 0 ≤ (pc : Int) + o ∧ ((pc : Int) + o).toNat = pc') (h : Runs C M k n pc' P S G Q) : Runs C M k n pc P S G Q :=
  Runs.pure d (fun p e s m args below meth c T locs L hw hx hown hZ hd hP hsz _ X => ⟨L, hP, hsz, fun t r => XS.goto (g := mkF m pc L S) X.here hx rfl (pc0 := pc) rfl hd ho.1 ho.2 r⟩) h
theorem Runs.ifY {cd : ClassFile.Cond} {x : Int32} {o : Int} {pc' : Nat} (d : DAt M pc (.ifCond cd o) 3 q) (hc : if_icmp.holds cd x 0 = true) (ho : 0 ≤ (pc : Int) + o ∧ ((pc : Int) + o).toNat = pc') (h : Runs C M k n pc' P S G Q) : Runs C M k n pc P (.int x :: S) G Q :=
  Runs.pure d (fun p e s m args below meth c T locs L hw hx hown hZ hd hP hsz _ X => ⟨L, hP, hsz, fun t r => XS.ifYes (g := mkF m pc L (.int x :: S)) X.here hx rfl (pc0 := pc) rfl hd rfl ((if0 _ _).trans hc) ho.1 ho.2 r⟩) h
theorem Runs.ifN {cd : ClassFile.Cond} {x : Int32} {o : Int} (d : DAt M pc (.ifCond cd o) 3 q) (hc : if_icmp.holds cd x 0 = false) (h : Runs C M k n q P S G Q) : Runs C M k n pc P (.int x :: S) G Q :=
  Runs.stk d (fun p e s m args below meth c T locs L hx hd hP X t r => XS.ifNo (g := mkF m pc L (.int x :: S)) X.here hx rfl hd rfl ((if0 _ _).trans hc) r) h
theorem Runs.icY {cd : ClassFile.Cond} {x y : Int32} {o : Int} {pc' : Nat} (d : DAt M pc (.if_icmp cd o) 3 q) (hc : if_icmp.holds cd x y = true) (ho : 0 ≤ (pc : Int) + o ∧ ((pc : Int) + o).toNat = pc') (h : Runs C M k n pc' P S G Q) : Runs C M k n pc P (.int y :: .int x :: S) G Q :=
  Runs.pure d (fun p e s m args below meth c T locs L hw hx hown hZ hd hP hsz _ X => ⟨L, hP, hsz, fun t r => XS.icmpYes (g := mkF m pc L (.int y :: .int x :: S)) X.here hx rfl (pc0 := pc) rfl hd rfl hc ho.1 ho.2 r⟩) h
theorem Runs.icN {cd : ClassFile.Cond} {x y : Int32} {o : Int} (d : DAt M pc (.if_icmp cd o) 3 q) (hc : if_icmp.holds cd x y = false) (h : Runs C M k n q P S G Q) : Runs C M k n pc P (.int y :: .int x :: S) G Q :=
  Runs.stk d (fun p e s m args below meth c T locs L hx hd hP X t r => XS.icmpNo (g := mkF m pc L (.int y :: .int x :: S)) X.here hx rfl hd rfl hc r) h
theorem Runs.tswI {dflt low high : Int} {offs : Array Int} {len : Nat} {o : Int} {pc' : Nat} {i : Int32} (d : DAt M pc (.tableswitch dflt low high offs) len q) (hin : ¬ (i.toInt < low ∨ i.toInt > high)) (hoff : offs[(i.toInt - low).toNat]? = some o) (ho : 0 ≤ (pc : Int) + o ∧ ((pc : Int) + o).toNat = pc') (h : Runs C M k n pc' P S G Q) : Runs C M k n pc P (.int i :: S) G Q :=
  Runs.pure d (fun p e s m args below meth c T locs L hw hx hown hZ hd hP hsz _ X => ⟨L, hP, hsz, fun t r => XS.tswIn (g := mkF m pc L (.int i :: S)) X.here hx rfl (pc0 := pc) rfl hd rfl hin hoff ho.1 ho.2 r⟩) h
theorem Runs.tswO {dflt low high : Int} {offs : Array Int} {len : Nat} {pc' : Nat} {i : Int32} (d : DAt M pc (.tableswitch dflt low high offs) len q) (hout : i.toInt < low ∨ i.toInt > high) (ho : 0 ≤ (pc : Int) + dflt ∧ ((pc : Int) + dflt).toNat = pc') (h : Runs C M k n pc' P S G Q) : Runs C M k n pc P (.int i :: S) G Q :=
  Runs.pure d (fun p e s m args below meth c T locs L hw hx hown hZ hd hP hsz _ X => ⟨L, hP, hsz, fun t r => XS.tswOut (g := mkF m pc L (.int i :: S)) X.here hx rfl (pc0 := pc) rfl hd rfl hout ho.1 ho.2 r⟩) h
theorem Runs.istoreN {j : Fin 4} {x : Int32} (d : DAt M pc (.istore_n j) 1 q) (hi : j.val < M.2.2.1) (hP' : ps1 P j.val (.int x) = P') (h : Runs C M k n q P' S G Q) : Runs C M k n pc P (.int x :: S) G Q := by
  have hq := d.2
  subst hq hP'
  refine Runs.pure d (fun p e s m args below meth c T locs L hw hx hown hZ hd hP hsz _ X => ?_) h
  obtain ⟨L', e1, e2, e3⟩ := hP.store1 (i := j.val) (v := .int x) (by omega) rfl
  exact ⟨L', e3, e2.trans hsz, fun t r => XS.istoreN (g := mkF m pc L (.int x :: S)) X.here hx rfl hd rfl e1 r⟩
theorem Runs.istore {j : Nat} {x : Int32} (d : DAt M pc (.istore j) 2 q) (hi : j < M.2.2.1) (hP' : ps1 P j (.int x) = P') (h : Runs C M k n q P' S G Q) : Runs C M k n pc P (.int x :: S) G Q := by
  have hq := d.2
  subst hq hP'
  refine Runs.pure d (fun p e s m args below meth c T locs L hw hx hown hZ hd hP hsz _ X => ?_) h
  obtain ⟨L', e1, e2, e3⟩ := hP.store1 (i := j) (v := .int x) (by omega) rfl
  exact ⟨L', e3, e2.trans hsz, fun t r => XS.istore (g := mkF m pc L (.int x :: S)) X.here hx rfl hd rfl e1 r⟩
theorem Runs.astoreN {j : Fin 4} {x : Nat} (d : DAt M pc (.astore_n j) 1 q) (hi : j.val < M.2.2.1) (hP' : ps1 P j.val (.ref x) = P') (h : Runs C M k n q P' S G Q) : Runs C M k n pc P (.ref x :: S) G Q := by
  have hq := d.2
  subst hq hP'
  refine Runs.pure d (fun p e s m args below meth c T locs L hw hx hown hZ hd hP hsz _ X => ?_) h
  obtain ⟨L', e1, e2, e3⟩ := hP.store1 (i := j.val) (v := .ref x) (by omega) rfl
  exact ⟨L', e3, e2.trans hsz, fun t r => XS.astoreN (g := mkF m pc L (.ref x :: S)) X.here hx rfl hd rfl rfl e1 r⟩
theorem Runs.astore {j : Nat} {x : Nat} (d : DAt M pc (.astore j) 2 q) (hi : j < M.2.2.1) (hP' : ps1 P j (.ref x) = P') (h : Runs C M k n q P' S G Q) : Runs C M k n pc P (.ref x :: S) G Q := by
  have hq := d.2
  subst hq hP'
  refine Runs.pure d (fun p e s m args below meth c T locs L hw hx hown hZ hd hP hsz _ X => ?_) h
  obtain ⟨L', e1, e2, e3⟩ := hP.store1 (i := j) (v := .ref x) (by omega) rfl
  exact ⟨L', e3, e2.trans hsz, fun t r => XS.astore (g := mkF m pc L (.ref x :: S)) X.here hx rfl hd rfl rfl e1 r⟩
theorem Runs.lstoreN {j : Fin 4} {x : Int64} (d : DAt M pc (.lstore_n j) 1 q) (hi : j.val + 1 < M.2.2.1) (hP' : ps2 P j.val (.long x) = P') (h : Runs C M k n q P' S G Q) : Runs C M k n pc P (.long x :: S) G Q := by
  have hq := d.2
  subst hq hP'
  refine Runs.pure d (fun p e s m args below meth c T locs L hw hx hown hZ hd hP hsz _ X => ?_) h
  obtain ⟨L', e1, e2, e3⟩ := hP.store2 (i := j.val) (v := .long x) (by omega) rfl
  exact ⟨L', e3, e2.trans hsz, fun t r => XS.lstoreN (g := mkF m pc L (.long x :: S)) X.here hx rfl hd rfl e1 r⟩
theorem Runs.lstore {j : Nat} {x : Int64} (d : DAt M pc (.lstore j) 2 q) (hi : j + 1 < M.2.2.1) (hP' : ps2 P j (.long x) = P') (h : Runs C M k n q P' S G Q) : Runs C M k n pc P (.long x :: S) G Q := by
  have hq := d.2
  subst hq hP'
  refine Runs.pure d (fun p e s m args below meth c T locs L hw hx hown hZ hd hP hsz _ X => ?_) h
  obtain ⟨L', e1, e2, e3⟩ := hP.store2 (i := j) (v := .long x) (by omega) rfl
  exact ⟨L', e3, e2.trans hsz, fun t r => XS.lstore (g := mkF m pc L (.long x :: S)) X.here hx rfl hd rfl e1 r⟩
theorem Runs.iinc {j : Nat} {cst : Int} {x v : Int32} (d : DAt M pc (.iinc j cst) 3 q) (hv : Int32.ofInt cst = v) (hl : pget P j = vi x) (hi : j < M.2.2.1) (hP' : ps1 P j (.int (x + v)) = P') (h : Runs C M k n q P' S G Q) : Runs C M k n pc P S G Q := by
  have hq := d.2
  subst hq hP' hv
  refine Runs.pure d (fun p e s m args below meth c T locs L hw hx hown hZ hd hP hsz _ X => ?_) h
  obtain ⟨L', e1, e2, e3⟩ := hP.store1 (i := j) (v := .int (x + Int32.ofInt cst)) (by omega) rfl
  exact ⟨L', e3, e2.trans hsz, fun t r => XS.iinc (g := mkF m pc L S) X.here hx rfl hd (hP.1 _ _ hl) e1 r⟩
/-- less is known of the locals -/
def psub : Pat → Pat → Prop
  | [], _ => True
  | none :: l, _ :: l' => psub l l'
  | some s :: l, y :: l' => y = some s ∧ psub l l'
  | none :: l, [] => psub l []
  | some _ :: _, [] => False
theorem psub_get : ∀ (P P' : Pat), psub P P' → ∀ i s, pget P i = some s → pget P' i = some s
  | [], _, _, i, s, h => by simp [pget] at h
  | none :: l, _ :: l', H, 0, s, h => by simp [pget] at h
  | none :: l, _ :: l', H, i + 1, s, h => psub_get l l' H i s h
  | some x :: l, y :: l', H, 0, s, h => by rw [show y = some x from H.1]; exact h
  | some x :: l, y :: l', H, i + 1, s, h => psub_get l l' H.2 i s h
  | none :: l, [], H, 0, s, h => by simp [pget] at h
  | none :: l, [], H, i + 1, s, h => by have := psub_get l [] H i s h; simp [pget] at this
  | some _ :: _, [], H, _, _, _ => H.elim
theorem Runs.weak (hP : psub P' P) (h : Runs C M k n pc P' S G Q) : Runs C M k n pc P S G Q := by
  intro hw p e s m args below meth c T locs L hx hby hml hret hnm hown hZ hf
  exact h hw p e s m args below meth c T locs L hx hby hml hret hnm hown hZ ⟨fun i s hi => hf.1 i s (psub_get _ _ hP i s hi), hf.2⟩
theorem Runs.swap {top : Nat} {x y : Nat × Nat × Rec} {H : List (Nat × Nat × Rec)} (h : Runs C M k n pc P S (top, y :: x :: H) Q) : Runs C M k n pc P S (top, x :: y :: H) Q := by
  intro hw p e s m args below meth c T locs L hx hby hml hret hnm hown hZ hf hsz X hR hF
  exact h hw p e s m args below meth c T locs L hx hby hml hret hnm hown hZ hf hsz X hR.swap hF
end Rules
/- the steps that touch the heap -/
section Made
variable {p : Program} {l : Launch} {e : Env} {R : Room} {s : State} {m : MethodId} {args : Array Value} {below : List Frame} {meth : Method} {c : Code} {T : State} {locs : List Loc} {cells slots : Nat} {Z : State} {a0 : Array Value}
theorem ext_push (h : Heap) (x : Cell) : Ext h (h.push x) := ⟨by simp, fun a c q => by rw [Array.getElem?_push_lt (Array.getElem?_eq_some_iff.mp q).1]; exact (Array.getElem?_eq_getElem _).symm.trans q⟩
/-- 'new', with the heap's size behind it -/
theorem new1 (X : Stand p l e R s m args below meth c T locs cells slots) (hx : p.tables.exec = Jvm.exec) (hZ : Z.Warmed39 s.vm) {own C : String} {index n : Nat} (hown : s.vm.findClass own = some m.cls) (w : (Jvm.Cond.classLink own index C).before a0 Z = true) (wi : (Jvm.Cond.instantiable C n).before a0 Z = true) (wz : (Jvm.Cond.initialized C).before a0 Z = true)
    {g : JFrame} (hg : g.method = m) (hd : decode c.code g.pc = .ok (.new index, 3)) (hc : cells + 1 ≤ R.cells) (hl : slots + n ≤ R.slots) :
    ∃ T', Stand p l e R s m args below meth c T' locs (cells + 1) (slots + n) ∧ T'.heap.size = T.heap.size + 1 ∧ Ext T.heap T'.heap ∧ Exa Z T'.heap T.heap.size C ∧ (∀ {O nm d : String} {ty : FieldType}, Laid Z a0 C O nm d → parseFieldDescriptor d = some ty → Fld Z T'.heap T.heap.size O nm d (defaultValue ty)) ∧
      ∀ target, Steps p.tables e below (T'.setTop { g with pc := g.pc + 3, stack := .ref T.heap.size :: g.stack }) target → Steps p.tables e below (T.setTop g) target := by
  obtain ⟨vm', cC, kC, h1, h2, h3, h4, X', st⟩ := X.newCold hx hown (mv hZ w) (mv hZ wi) (mv hZ wz) hg hd hc hl
  rw [hZ.alike.findClass] at h1
  obtain ⟨kZ, z1, -⟩ := Vm.findClass_spec h1
  obtain ⟨k', z2, z3⟩ := hZ.alike.2.2 _ _ z1
  have ek : kC.instanceTypes = kZ.instanceTypes := by rw [Option.some.inj (h2.symm.trans z2), z3]
  obtain ⟨cell, hcell⟩ : ∃ cell : Cell, cell = { cls := cC, slots := kC.instanceTypes.map defaultValue, vm := .none } := ⟨_, rfl⟩
  rw [← hcell] at X' st
  have hp : ((T.setVm vm').pushCell cell).heap = T.heap.push cell := rfl
  have at' : (T.heap.push cell)[T.heap.size]? = some cell := by simp
  refine ⟨_, X', by rw [hp]; simp, by rw [hp]; exact ext_push _ _, ?_, fun {O nm d ty} L ht => ?_, st⟩
  · rw [hp]; exact ⟨cell, kZ, at', by rw [hcell]; exact h1, by rw [hcell]; exact z1, by rw [hcell]; rfl, fun _ => by rw [hcell]; simp [ek]⟩
  · rw [hp]
    obtain ⟨c1, k1, cf, kf, i, f, a1, a2, a3, a4, a5, a6, -⟩ := L.spec
    cases h1.symm.trans a1
    cases z1.symm.trans a2
    refine ⟨cell, cf, kf, i, f, at', a3, a4, by rw [hcell]; simp, by rw [hcell]; rfl, by rw [hcell]; exact a5, ?_⟩
    rw [hcell]; simp [ek, a6, (State.fieldFound?_type a3 ht).2]
theorem newArr1 (X : Stand p l e R s m args below meth c T locs cells slots) (hx : p.tables.exec = Jvm.exec) (hZ : Z.Warmed39 s.vm) {aty : ArrayType} (w : (Jvm.Cond.arrayClass (newarray.typeOf aty)).before a0 Z = true) {g : JFrame} (hg : g.method = m) (hd : decode c.code g.pc = .ok (.newarray aty, 2)) {n : Int32} {rest : List Value} (hs : g.stack = .int n :: rest)
    (hn : ¬ n < 0) (hb : n.toNatClampNeg * 8 ≤ 536870912) (hc : cells + 1 ≤ R.cells) (hl : slots + n.toNatClampNeg ≤ R.slots) :
    ∃ T' cA, Stand p l e R s m args below meth c T' locs (cells + 1) (slots + n.toNatClampNeg) ∧ T'.heap.size = T.heap.size + 1 ∧ Ext T.heap T'.heap ∧ Arr Z T'.heap T.heap.size (newA cA (newarray.typeOf aty) n) (newarray.typeOf aty) ∧
      ∀ target, Steps p.tables e below (T'.setTop { g with pc := g.pc + 2, stack := .ref T.heap.size :: rest }) target → Steps p.tables e below (T.setTop g) target := by
  have hcb : componentBytes (newarray.typeOf aty) ≤ 8 := by cases aty <;> decide
  obtain ⟨cA, kA, comp, h1, h2, h3, X', st⟩ := X.newarrayPrim hx (mvA hZ w) hg hd hs hn (Nat.le_trans (Nat.mul_le_mul_left _ hcb) hb) hc hl
  rw [hZ.alike.findClass] at h1
  obtain ⟨kZ, z1, -⟩ := Vm.findClass_spec h1
  obtain ⟨k', z2, z3⟩ := hZ.alike.2.2 _ _ z1
  have ek : kA.kind = kZ.kind := by rw [Option.some.inj (h2.symm.trans z2), z3]
  have hp : (T.pushCell (newA cA (newarray.typeOf aty) n)).heap = T.heap.push (newA cA (newarray.typeOf aty) n) := rfl
  refine ⟨T.pushCell (newA cA (newarray.typeOf aty) n), cA, X', by rw [hp]; simp, by rw [hp]; exact ext_push _ _, ?_, st⟩
  rw [hp]
  exact ⟨by simp, ⟨by simp [newA], kZ, z1, comp, by rw [← ek]; exact h3⟩, by simp [newA]⟩
end Made
section Heap
variable {C : Ctx} {M : Bdy} {k n pc q : Nat} {P P' : Pat} {S S' : List Value} {G : AH} {Q : Option Value → AH → Prop} {top : Nat} {a : Nat} {qq j idx : Nat} {ob : Rec} {H : List (Nat × Nat × Rec)} {nm ds : String}
theorem Runs.getI (d : DAt M pc (.getfield idx) 3 q) (w : Jvm.Cond.fieldLink M.1.cls idx K.1 nm ds ∈ tables_1) (hk : K.2.1[j]? = some (nm, ds)) (h : Runs C M k n q P (.int (gI ob j) :: S) (top, (a, qq, ob) :: H) Q) : Runs C M k n pc P (.ref a :: S) (top, (a, qq, ob) :: H) Q := by
  intro hw p e s m args below meth c T locs L hx hby hml hret hnm hown hZ hf hsz X hR hF
  have hq := d.2
  subst hq
  obtain ⟨T1, X1, e1, st1⟩ := getF X hx hZ hown (host := "") (Or.inl (hw _ w)) Via.refl rfl (hR.objs.2.2.2.1 j _ hk) (g := mkF m pc L (.ref a :: S)) rfl rfl (hb hby d.1)
  obtain ⟨T', locs', k', n', r, G', g1, g2, g3, g4, g5, g6, g7, g8⟩ := h hw p e s m args below meth c T1 locs L hx hby hml hret hnm hown hZ hf hsz X1 (by rw [e1]; exact hR) hF
  exact ⟨T', locs', k', n', r, G', g1, g2, g3, g4, g5, g6, g7, fun fs hr => st1 _ (g8 fs hr)⟩
theorem Runs.getA {ty : FieldType} {len : Int32} (d : DAt M pc (.getfield idx) 3 q) (hk : K.2.2[j]? = some (nm, ty, len)) (w : Jvm.Cond.fieldLink M.1.cls idx K.1 nm (aD ty) ∈ tables_1) (hq : j < qq) (h : Runs C M k n q P (.ref (a + 1 + j) :: S) (top, (a, qq, ob) :: H) Q) : Runs C M k n pc P (.ref a :: S) (top, (a, qq, ob) :: H) Q := by
  intro hw p e s m args below meth c T locs L hx hby hml hret hnm hown hZ hf hsz X hR hF
  have hqq := d.2
  subst hqq
  obtain ⟨T1, X1, e1, st1⟩ := getF X hx hZ hown (host := "") (Or.inl (hw _ w)) Via.refl rfl (hR.objs.2.2.2.2.1 j _ hk hq).1 (g := mkF m pc L (.ref a :: S)) rfl rfl (hb hby d.1)
  obtain ⟨T', locs', k', n', r, G', g1, g2, g3, g4, g5, g6, g7, g8⟩ := h hw p e s m args below meth c T1 locs L hx hby hml hret hnm hown hZ hf hsz X1 (by rw [e1]; exact hR) hF
  exact ⟨T', locs', k', n', r, G', g1, g2, g3, g4, g5, g6, g7, fun fs hr => st1 _ (g8 fs hr)⟩
theorem lw_of {Z : State} {a0 : Array Value} {meth : Method} (hw : ∀ d ∈ tables_1, d.before a0 Z = true) {C O n d own : String} (h : Jvm.Cond.lays C O n d ∈ tables_1 ∨ Jvm.Cond.laysFinal C O n d ∈ tables_1) (hc : Jvm.Cond.lays C O n d ∈ tables_1 ∨ (own = O ∧ meth.name = "<init>")) : (Jvm.Cond.lays C O n d).before a0 Z = true ∨ ((Jvm.Cond.laysFinal C O n d).before a0 Z = true ∧ own = O ∧ meth.name = "<init>") := by
  rcases hc with hc | hc
  · exact Or.inl (hw _ hc)
  · exact h.imp (hw _) (fun u => ⟨hw _ u, hc⟩)
/-- a field that may be written here: not final, or in a constructor of its class -/
def Mine (M : Bdy) (nm ds : String) : Prop := Jvm.Cond.lays K.1 K.1 nm ds ∈ tables_1 ∨ (M.1.cls = K.1 ∧ M.1.name = "<init>")
theorem Runs.putI {x : Int32} (d : DAt M pc (.putfield idx) 3 q) (w : Jvm.Cond.fieldLink M.1.cls idx K.1 nm "I" ∈ tables_1) (hk : K.2.1[j]? = some (nm, "I")) (hm : Mine M nm "I") (h : Runs C M k n q P S (top, (a, qq, sI ob j x) :: H) Q) : Runs C M k n pc P (.int x :: .ref a :: S) (top, (a, qq, ob) :: H) Q := by
  intro hw p e s m args below meth c T locs L hx hby hml hret hnm hown hZ hf hsz X hR hF
  have hqq := d.2
  subst hqq
  obtain ⟨T1, h1, X1, e1, W1, st1⟩ := putF X hx hZ hown (host := "") (Or.inl (hw _ w)) Via.refl rfl (hR.objs.2.2.2.1 j _ hk) hR.objs.2.2.1 (lw_of hw ((All.mem kS (List.mem_of_getElem? hk)).1) (hm.imp id (fun u => ⟨u.1, hnm.trans u.2⟩))) (hw _ kI) (ty := .int) (by decide) rfl rfl (g := mkF m pc L (.int x :: .ref a :: S)) rfl rfl (hb hby d.1)
  obtain ⟨T', locs', k', n', r, G', g1, g2, g3, g4, g5, g6, g7, g8⟩ := h hw p e s m args below meth c T1 _ L hx hby hml hret hnm hown hZ hf hsz X1 (by rw [e1]; exact hR.putI hw hk W1) (Fr.snoc X1 hF hR.objs.1)
  exact ⟨T', locs', k', n', r, G', g1, g2, g3, g4, g5, g6, g7, fun fs hr => st1 _ (g8 fs hr)⟩
theorem Runs.putZ {x y : Int32} (d : DAt M pc (.putfield idx) 3 q) (w : Jvm.Cond.fieldLink M.1.cls idx K.1 nm "Z" ∈ tables_1) (hk : K.2.1[j]? = some (nm, "Z")) (hm : Mine M nm "Z") (hy : nar .boolean x = y) (h : Runs C M k n q P S (top, (a, qq, sI ob j y) :: H) Q) : Runs C M k n pc P (.int x :: .ref a :: S) (top, (a, qq, ob) :: H) Q := by
  subst hy
  intro hw p e s m args below meth c T locs L hx hby hml hret hnm hown hZ hf hsz X hR hF
  have hqq := d.2
  subst hqq
  obtain ⟨T1, h1, X1, e1, W1, st1⟩ := putFN X hx hZ hown (hw _ w) Via.refl rfl (hR.objs.2.2.2.1 j _ hk) hR.objs.2.2.1 (lw_of hw ((All.mem kS (List.mem_of_getElem? hk)).1) (hm.imp id (fun u => ⟨u.1, hnm.trans u.2⟩))) (hw _ kI) (ty := .boolean) (v' := .int (nar .boolean x)) (by decide) rfl (fits_nar_bool _) (g := mkF m pc L (.int x :: .ref a :: S)) rfl rfl (hb hby d.1)
  obtain ⟨T', locs', k', n', r, G', g1, g2, g3, g4, g5, g6, g7, g8⟩ := h hw p e s m args below meth c T1 _ L hx hby hml hret hnm hown hZ hf hsz X1 (by rw [e1]; exact hR.putI hw hk W1) (Fr.snoc X1 hF hR.objs.1)
  exact ⟨T', locs', k', n', r, G', g1, g2, g3, g4, g5, g6, g7, fun fs hr => st1 _ (g8 fs hr)⟩
theorem Runs.ialoadA {i len : Int32} (d : DAt M pc .iaload 1 q) (hk : K.2.2[j]? = some (nm, .int, len)) (hq : j < qq) (hi : ¬ i < 0 ∧ i < len) (h : Runs C M k n q P (.int (gA ob j i) :: S) (top, (a, qq, ob) :: H) Q) : Runs C M k n pc P (.int i :: .ref (a + 1 + j) :: S) (top, (a, qq, ob) :: H) Q := by
  have hqq := d.2
  subst hqq
  refine Runs.pure d (fun p e s m args below meth c T locs L hw hx hown hZ hd hP hsz hR X => ⟨L, hP, hsz, fun t r => ?_⟩) h
  obtain ⟨cl, A, Sz, V⟩ := (hR.objs.2.2.2.2.1 j _ hk hq).2
  exact X.iaload hx (j := i) (v := .int (gA ob j i)) A.1 (State.isArrayOf_alike hZ.alike A.2.1) A.2.2 (inb_of Sz hi) (V i hi.1 hi.2) (g := mkF m pc L (.int i :: .ref (a + 1 + j) :: S)) rfl rfl hd _ r
theorem Runs.baloadA {i len : Int32} (d : DAt M pc .baload 1 q) (hk : K.2.2[j]? = some (nm, .boolean, len)) (hq : j < qq) (hi : ¬ i < 0 ∧ i < len) (h : Runs C M k n q P (.int (gA ob j i) :: S) (top, (a, qq, ob) :: H) Q) : Runs C M k n pc P (.int i :: .ref (a + 1 + j) :: S) (top, (a, qq, ob) :: H) Q := by
  have hqq := d.2
  subst hqq
  refine Runs.pure d (fun p e s m args below meth c T locs L hw hx hown hZ hd hP hsz hR X => ⟨L, hP, hsz, fun t r => ?_⟩) h
  obtain ⟨cl, A, Sz, V⟩ := (hR.objs.2.2.2.2.1 j _ hk hq).2
  exact X.baloadBooleans hx (j := i) (v := .int (gA ob j i)) A.1 (State.isArrayOf_alike hZ.alike A.2.1) A.2.2 (inb_of Sz hi) (V i hi.1 hi.2) (g := mkF m pc L (.int i :: .ref (a + 1 + j) :: S)) rfl rfl hd _ r
theorem Runs.laloadA {i len : Int32} (d : DAt M pc .laload 1 q) (hk : K.2.2[j]? = some (nm, .long, len)) (hq : j < qq) (hi : ¬ i < 0 ∧ i < len) (h : Runs C M k n q P (.long (gJ ob j i) :: S) (top, (a, qq, ob) :: H) Q) : Runs C M k n pc P (.int i :: .ref (a + 1 + j) :: S) (top, (a, qq, ob) :: H) Q := by
  have hqq := d.2
  subst hqq
  refine Runs.pure d (fun p e s m args below meth c T locs L hw hx hown hZ hd hP hsz hR X => ⟨L, hP, hsz, fun t r => ?_⟩) h
  obtain ⟨cl, A, Sz, V⟩ := (hR.objs.2.2.2.2.1 j _ hk hq).2
  exact X.laload hx (j := i) (v := .long (gJ ob j i)) A.1 (State.isArrayOf_alike hZ.alike A.2.1) A.2.2 (inb_of Sz hi) (V i hi.1 hi.2) (g := mkF m pc L (.int i :: .ref (a + 1 + j) :: S)) rfl rfl hd _ r
theorem Runs.iastoreA {i x len : Int32} (d : DAt M pc .iastore 1 q) (hk : K.2.2[j]? = some (nm, .int, len)) (hq : j < qq) (hi : ¬ i < 0 ∧ i < len) (h : Runs C M k n q P S (top, (a, qq, sA ob j i x) :: H) Q) : Runs C M k n pc P (.int x :: .int i :: .ref (a + 1 + j) :: S) (top, (a, qq, ob) :: H) Q := by
  intro hw p e s m args below meth c T locs L hx hby hml hret hnm hown hZ hf hsz X hR hF
  have hqq := d.2
  subst hqq
  obtain ⟨cl, A, Sz, V⟩ := (hR.objs.2.2.2.2.1 j _ hk hq).2
  obtain ⟨T1, h1, X1, e1, W1, st1⟩ := stI X hx hZ rfl A (j := i) (x := x) (inb_of Sz hi) (g := mkF m pc L (.int x :: .int i :: .ref (a + 1 + j) :: S)) rfl rfl (hb hby d.1)
  obtain ⟨T', locs', k', n', r, G', g1, g2, g3, g4, g5, g6, g7, g8⟩ := h hw p e s m args below meth c T1 _ L hx hby hml hret hnm hown hZ hf hsz X1 (by rw [e1]; exact hR.putA hk hq (by simp) hi W1) (Fr.snoc X1 hF (by have := hR.objs.1; omega))
  exact ⟨T', locs', k', n', r, G', g1, g2, g3, g4, g5, g6, g7, fun fs hr => st1 _ (g8 fs hr)⟩
theorem Runs.bastoreA {i x len : Int32} (d : DAt M pc .bastore 1 q) (hk : K.2.2[j]? = some (nm, .boolean, len)) (hq : j < qq) (hi : ¬ i < 0 ∧ i < len) {y : Int32} (hy : nar .boolean x = y) (h : Runs C M k n q P S (top, (a, qq, sA ob j i y) :: H) Q) : Runs C M k n pc P (.int x :: .int i :: .ref (a + 1 + j) :: S) (top, (a, qq, ob) :: H) Q := by
  subst hy
  intro hw p e s m args below meth c T locs L hx hby hml hret hnm hown hZ hf hsz X hR hF
  have hqq := d.2
  subst hqq
  obtain ⟨cl, A, Sz, V⟩ := (hR.objs.2.2.2.2.1 j _ hk hq).2
  obtain ⟨T1, h1, X1, e1, W1, st1⟩ := stZ X hx hZ rfl A (j := i) (x := x) (inb_of Sz hi) (g := mkF m pc L (.int x :: .int i :: .ref (a + 1 + j) :: S)) rfl rfl (hb hby d.1)
  obtain ⟨T', locs', k', n', r, G', g1, g2, g3, g4, g5, g6, g7, g8⟩ := h hw p e s m args below meth c T1 _ L hx hby hml hret hnm hown hZ hf hsz X1 (by rw [e1]; exact hR.putA hk hq (by simp) hi W1) (Fr.snoc X1 hF (by have := hR.objs.1; omega))
  exact ⟨T', locs', k', n', r, G', g1, g2, g3, g4, g5, g6, g7, fun fs hr => st1 _ (g8 fs hr)⟩
theorem Runs.lastoreA {i len : Int32} {x : Int64} (d : DAt M pc .lastore 1 q) (hk : K.2.2[j]? = some (nm, .long, len)) (hq : j < qq) (hi : ¬ i < 0 ∧ i < len) (h : Runs C M k n q P S (top, (a, qq, sJ ob j i x) :: H) Q) : Runs C M k n pc P (.long x :: .int i :: .ref (a + 1 + j) :: S) (top, (a, qq, ob) :: H) Q := by
  intro hw p e s m args below meth c T locs L hx hby hml hret hnm hown hZ hf hsz X hR hF
  have hqq := d.2
  subst hqq
  obtain ⟨cl, A, Sz, V⟩ := (hR.objs.2.2.2.2.1 j _ hk hq).2
  obtain ⟨T1, h1, X1, e1, W1, st1⟩ := stJ X hx hZ rfl A (j := i) (x := x) (inb_of Sz hi) (g := mkF m pc L (.long x :: .int i :: .ref (a + 1 + j) :: S)) rfl rfl (hb hby d.1)
  obtain ⟨T', locs', k', n', r, G', g1, g2, g3, g4, g5, g6, g7, g8⟩ := h hw p e s m args below meth c T1 _ L hx hby hml hret hnm hown hZ hf hsz X1 (by rw [e1]; exact hR.putJ hk hq rfl hi W1) (Fr.snoc X1 hF (by have := hR.objs.1; omega))
  exact ⟨T', locs', k', n', r, G', g1, g2, g3, g4, g5, g6, g7, fun fs hr => st1 _ (g8 fs hr)⟩
/-- the script: an array that stood before the law began -/
def ScrF (C : Ctx) (sa : Nat) (z : Int32) (f : Int32 → Int32) : Prop := ∃ cl : Cell, Scr C.2.1 C.2.1.heap sa cl z ∧ f = atv cl
theorem Runs.lenS {sa : Nat} {z : Int32} {f : Int32 → Int32} (hs : ScrF C sa z f) (d : DAt M pc .arraylength 1 q) (h : Runs C M k n q P (.int z :: S) G Q) : Runs C M k n pc P (.ref sa :: S) G Q := by
  have hqq := d.2
  subst hqq
  refine Runs.pure d (fun p e s m args below meth c T locs L hw hx hown hZ hd hP hsz hR X => ⟨L, hP, hsz, fun t r => ?_⟩) h
  obtain ⟨cl, F, -⟩ := hs
  obtain ⟨A, Sz, N, V⟩ := F.ext hR.2.1.2
  exact X.arraylength hx A.1 (State.isArrayOf_alike hZ.alike A.2.1) (g := mkF m pc L (.ref sa :: S)) rfl rfl hd _ (by rw [len_of Sz N]; exact r)
theorem Runs.ialoadS {sa : Nat} {z i : Int32} {f : Int32 → Int32} (hs : ScrF C sa z f) (d : DAt M pc .iaload 1 q) (hi : ¬ i < 0 ∧ i < z) (h : Runs C M k n q P (.int (f i) :: S) G Q) : Runs C M k n pc P (.int i :: .ref sa :: S) G Q := by
  have hqq := d.2
  subst hqq
  refine Runs.pure d (fun p e s m args below meth c T locs L hw hx hown hZ hd hP hsz hR X => ⟨L, hP, hsz, fun t r => ?_⟩) h
  obtain ⟨cl, F, rfl⟩ := hs
  obtain ⟨A, Sz, N, V⟩ := F.ext hR.2.1.2
  exact X.iaload hx (j := i) (v := .int (atv cl i)) A.1 (State.isArrayOf_alike hZ.alike A.2.1) A.2.2 (inb_of Sz hi) (V i (inb_of Sz hi)) (g := mkF m pc L (.int i :: .ref sa :: S)) rfl rfl hd _ r
/- leaving -/
theorem Runs.retI {v : Int32} (d : DAt M pc .ireturn 1 q) (hret : M.2.2.2.1 = some .int) (hk : k ≤ M.2.2.2.2.cells ∧ n ≤ M.2.2.2.2.slots) (hQ : Q (some (.int v)) G) : Runs C M k n pc P (.int v :: S) G Q := by
  intro hw p e s m args below meth c T locs L hx hby hml hr0 hnm hown hZ hf hsz X hR hF
  exact ⟨T, locs, k, n, _, G, X, hk.1, hk.2, hR, hF, hQ, (fun u => by rw [hret] at u; cases u), fun fs hr => Jvm.RoadKit.retI X hx (hr0.trans hret) (hb hby d.1) hr⟩
theorem Runs.retZ {v : Int32} (d : DAt M pc .ireturn 1 q) (hret : M.2.2.2.1 = some .boolean) (hk : k ≤ M.2.2.2.2.cells ∧ n ≤ M.2.2.2.2.slots) {y : Int32} (hy : nar .boolean v = y) (hQ : Q (some (.int y)) G) : Runs C M k n pc P (.int v :: S) G Q := by
  subst hy
  intro hw p e s m args below meth c T locs L hx hby hml hr0 hnm hown hZ hf hsz X hR hF
  exact ⟨T, locs, k, n, _, G, X, hk.1, hk.2, hR, hF, hQ, (fun u => by rw [hret] at u; cases u), fun fs hr => retN X hx (t := .boolean) (hr0.trans hret) (by simp) (hb hby d.1) hr⟩
theorem Runs.retJ {v : Int64} (d : DAt M pc .lreturn 1 q) (hret : M.2.2.2.1 = some .long) (hk : k ≤ M.2.2.2.2.cells ∧ n ≤ M.2.2.2.2.slots) (hQ : Q (some (.long v)) G) : Runs C M k n pc P (.long v :: []) G Q := by
  intro hw p e s m args below meth c T locs L hx hby hml hr0 hnm hown hZ hf hsz X hR hF
  exact ⟨T, locs, k, n, _, G, X, hk.1, hk.2, hR, hF, hQ, (fun u => by rw [hret] at u; cases u), fun fs hr => X.lreturnOut hx (hr0.trans hret) (hb hby d.1) hr⟩
theorem Runs.retV (d : DAt M pc .return_ 1 q) (hret : M.2.2.2.1 = none) (hk : k ≤ M.2.2.2.2.cells ∧ n ≤ M.2.2.2.2.slots) (hQ : Q none G) : Runs C M k n pc P [] G Q := by
  intro hw p e s m args below meth c T locs L hx hby hml hr0 hnm hown hZ hf hsz X hR hF
  exact ⟨T, locs, k, n, _, G, X, hk.1, hk.2, hR, hF, hQ, (fun _ => rfl), fun fs hr => X.returnOut hx (hr0.trans hret) (hb hby d.1) hr⟩
/- a new object, and the arrays that its constructor makes -/
theorem Runs.newK (d : DAt M pc (.new idx) 3 q) (w : Jvm.Cond.classLink M.1.cls idx K.1 ∈ tables_1) (hc : k + 1 ≤ M.2.2.2.2.cells ∧ n + kN ≤ M.2.2.2.2.slots) {k' n' : Nat} (hk' : k + 1 = k') (hn' : n + kN = n') {H : List (Nat × Nat × Rec)} (hd : ∀ x ∈ H, x.1 + x.2.1 < top) (h : Runs C M k' n' q P (.ref top :: S) (top + 1, (top, 0, zrec) :: H) Q) : Runs C M k n pc P S (top, H) Q := by
  subst hk' hn'
  intro hw p e s m args below meth c T locs L hx hby hml hr0 hnm hown hZ hf hsz X hR hF
  have hqq := d.2
  subst hqq
  obtain ⟨T2, X2, s2, E2, A2, D2, st2⟩ := new1 X hx hZ hown (hw _ w) (hw _ kI) (hw _ kZ) (g := mkF m pc L S) rfl (hb hby d.1) hc.1 hc.2
  have hs : T.heap.size = top := hR.1
  rw [hs] at A2 D2 st2 s2
  have hR2 : Rep C.2.1 C.2.2.1 T2.heap (top + 1, (top, 0, zrec) :: H) := by
    refine ⟨s2, hR.2.1.ext E2, fun x hx' => ?_, ?_⟩
    · rcases List.mem_cons.mp hx' with rfl | hx'
      · refine ⟨?_, by simp, A2, fun k nd hk => ?_, fun k t hk hq => by simp at hq, fun k t hk hq => ?_⟩
        · have := hR.2.1.2.1; rw [hR.2.1.1] at this; simp only; omega
        · rcases (All.mem kS (List.mem_of_getElem? hk)).2 with e | e
          · have := D2 (laidS hw hk) (ty := .int) (by rw [e]; decide); exact this
          · have := D2 (laidS hw hk) (ty := .boolean) (by rw [e]; decide); exact this
        · have := D2 (laidA hw hk) (pfA hk); exact this
      · obtain ⟨p1, p2, p3⟩ := hR.2.2.1 x hx'
        exact ⟨p1, by simp only at p2 ⊢; omega, p3.ext E2⟩
    · exact List.pairwise_cons.mpr ⟨fun y hy => Or.inr (hd y hy), hR.2.2.2⟩
  obtain ⟨T', locs', k', n', r, G', g1, g2, g3, g4, g5, g6, g7, g8⟩ := h hw p e s m args below meth c T2 _ L hx hby hml hr0 hnm hown hZ hf hsz X2 hR2 hF
  exact ⟨T', locs', k', n', r, G', g1, g2, g3, g4, g5, g6, g7, fun fs hr => st2 _ (g8 fs hr)⟩
/-- newarray and the putfield behind it: the next array of an object that is being made -/
theorem Runs.newArr {aty : ArrayType} {ty : FieldType} {len : Int32} {q1 : Nat} (d : DAt M pc (.newarray aty) 2 q1) (d' : DAt M q1 (.putfield idx) 3 q) (hk : K.2.2[j]? = some (nm, ty, len)) (w : Jvm.Cond.fieldLink M.1.cls idx K.1 nm (aD ty) ∈ tables_1) (ht : newarray.typeOf aty = ty) (wa : Jvm.Cond.arrayClass ty ∈ tables_1) (hm : Mine M nm (aD ty))
    (htop : top = a + 1 + j) (hlen : ¬ len < 0 ∧ len.toNatClampNeg * 8 ≤ 536870912) (hc : k + 1 ≤ M.2.2.2.2.cells ∧ n + len.toNatClampNeg ≤ M.2.2.2.2.slots) (hz : (∀ i, ob.2.1 j i = 0) ∧ (∀ i, ob.2.2 j i = 0)) {j' top' k' n' : Nat} (hj' : j + 1 = j') (ht' : top + 1 = top') (hk' : k + 1 = k') (hn' : n + len.toNatClampNeg = n')
    (h : Runs C M k' n' q P S (top', (a, j', ob) :: H) Q) : Runs C M k n pc P (.int len :: .ref a :: S) (top, (a, j, ob) :: H) Q := by
  subst hj' ht' hk' hn'
  intro hw p e s m args below meth c T locs L hx hby hml hr0 hnm hown hZ hf hsz X hR hF
  have hqq := d.2
  have hqq' := d'.2
  subst hqq hqq' ht
  obtain ⟨T1, cA, X1, s1, E1, A1, st1⟩ := newArr1 X hx hZ (hw _ wa) (g := mkF m pc L (.int len :: .ref a :: S)) rfl (hb hby d.1) rfl hlen.1 hlen.2 hc.1 hc.2
  have hs : T.heap.size = top := hR.1
  rw [hs] at A1 st1 s1
  have O1 := hR.objs.2.2.ext E1
  obtain ⟨T2, h2, X2, e2, W2, st2⟩ := putF X1 hx hZ hown (host := "") (Or.inl (hw _ w)) Via.refl rfl (O1.2.2.2 j _ hk (Nat.le_refl _)) O1.1 (lw_of hw ((All.mem kA (List.mem_of_getElem? hk)).1) (hm.imp id (fun u => ⟨u.1, hnm.trans u.2⟩))) (hw _ kI) (ty := .array (newarray.typeOf aty)) (pfA hk) rfl rfl (g := mkF m (pc + 2) L (.ref top :: .ref a :: S)) rfl rfl (hb hby d'.1)
  have hts : (newarray.typeOf aty = .int ∨ newarray.typeOf aty = .boolean ∨ newarray.typeOf aty = .long) := (All.mem kA (List.mem_of_getElem? hk)).2.1
  have hA := arr_new A1 hts hz
  have hR2 : Rep C.2.1 C.2.2.1 T2.heap (top + 1, (a, j + 1, ob) :: H) := by rw [e2]; exact hR.addA hw E1 s1 htop hk hA W2
  obtain ⟨T', locs', k', n', r, G', g1, g2, g3, g4, g5, g6, g7, g8⟩ := h hw p e s m args below meth c T2 _ L hx hby hml hr0 hnm hown hZ hf hsz X2 hR2 (Fr.snoc X2 hF hR.objs.1)
  exact ⟨T', locs', k', n', r, G', g1, g2, g3, g4, g5, g6, g7, fun fs hr => st1 _ (st2 _ (g8 fs hr))⟩
theorem Runs.initO {W : Nat} (d : DAt M pc (.invokespecial idx) 3 q) (w1 : Jvm.Cond.methodLink M.1.cls idx Lib.objectInit ∈ tables_1) (w2 : Jvm.Cond.instanceMethod Lib.objectInit ∈ tables_1) (w3 : Jvm.Cond.code Lib.objectInit ⟨#[0xb1]⟩ 1 none ∈ tables_1) (hW : (S.map fun v => v.category).sum = W) (hc : 1 ≤ M.2.2.2.2.frames ∧ W + 12 ≤ M.2.2.2.2.locals) (h : Runs C M k n q P S G Q) : Runs C M k n pc P (.ref a :: S) G Q := by
  intro hw p e s m args below meth c T locs L hx hby hml hr0 hnm hown hZ hf hsz X hR hF
  have hqq := d.2
  subst hqq
  obtain ⟨T1, X1, e1, st1⟩ := Jvm.RoadKit.initO X hx hZ hown (hw _ w1) (hw _ w2) (hw _ w3) rfl (g := mkF m pc L (.ref a :: S)) rfl (by rw [hml]; exact hsz) rfl (hb hby d.1) hc.1 (W := W) (by show 2 * 0 + _ ≤ _; omega) hc.2
  obtain ⟨T', locs', k', n', r, G', g1, g2, g3, g4, g5, g6, g7, g8⟩ := h hw p e s m args below meth c T1 _ L hx hby hml hr0 hnm hown hZ hf hsz X1 (by rw [e1]; exact hR) hF
  exact ⟨T', locs', k', n', r, G', g1, g2, g3, g4, g5, g6, g7, fun fs hr => st1 _ (g8 fs hr)⟩
end Heap
/- a body's contract, and the calls that are paid by one -/
def Pays (C : Ctx) (N : Bdy) (as : List Value) (G : AH) (Q : Option Value → AH → Prop) : Prop :=
  Ok C → ∀ h0 : Heap, Rep C.2.1 C.2.2.1 h0 G → ∀ ws : List Jvm.Cond, MetFree C.1 N.1 (head1 (Jvm.Cond.code N.1 N.2.1 N.2.2.1 N.2.2.2.1 :: ws) N.2.2.2.2) (fun a U => a = as.toArray ∧ C.2.1.Warmed39 U.vm ∧ U.heap = h0) (fun _ _ _ _ _ => True)
    (fun _ U o U' => ∃ v L, o = .returned v ∧ (Fr C.2.2.1 L ∧ ∃ G', Rep C.2.1 C.2.2.1 U'.heap G' ∧ Q v G') ∧ FrameEnd U o U' L N.2.2.2.2.cells N.2.2.2.2.slots)
def lay : List Value → List Slot
  | [] => []
  | v :: l => if v.category = 2 then .val v :: .second :: lay l else .val v :: lay l
theorem lay_foldl (l : List Value) : ∀ acc : Array Slot, (l.foldl (fun acc v => if v.category = 2 then (acc.push (.val v)).push .second else acc.push (.val v)) acc).toList = acc.toList ++ lay l := by
  induction l with
  | nil => intro acc; simp [lay]
  | cons v l ih =>
    intro acc
    rw [List.foldl_cons, ih]
    by_cases h : v.category = 2 <;> simp [lay, h]
theorem args_lay (as : List Value) (ml : Nat) : argsToLocals as.toArray ml = (lay as ++ List.replicate (ml - (lay as).length) Slot.unset).toArray := by
  have h := lay_foldl as #[]
  apply Array.ext'
  simp only [argsToLocals, Array.toList_append, List.toList_toArray] at *
  rw [show (as.toArray.foldl (init := #[]) fun acc v => if v.category = 2 then (acc.push (Slot.val v)).push .second else acc.push (.val v)).toList = lay as by simpa using h]
  congr 1
  rw [← Array.length_toList, show (as.toArray.foldl (init := #[]) fun acc v => if v.category = 2 then (acc.push (Slot.val v)).push .second else acc.push (.val v)).toList = lay as by simpa using h]
  simp
def WFL (l : List Slot) : Prop := (∀ i : Nat, l[i]? = some .second → ∃ (j : Nat) (v : Value), i = j + 1 ∧ l[j]? = some (.val v) ∧ v.category = 2) ∧ (∀ (i : Nat) (v : Value), l[i]? = some (.val v) → v.category = 2 → l[i + 1]? = some .second)
theorem WFL.unset (n : Nat) : WFL (List.replicate n Slot.unset) := by
  refine ⟨fun i h => ?_, fun i v h => ?_⟩ <;> (rw [List.getElem?_replicate] at h; split at h <;> cases h)
theorem WFL.one {l : List Slot} {v : Value} (h : WFL l) (hv : v.category ≠ 2) : WFL (.val v :: l) := by
  refine ⟨fun i hi => ?_, fun i w hi hw => ?_⟩
  · cases i with
    | zero => simp at hi
    | succ i =>
      obtain ⟨j, w, e1, e2, e3⟩ := h.1 i (by simpa using hi)
      exact ⟨j + 1, w, by omega, by simpa using e2, e3⟩
  · cases i with
    | zero => simp at hi; subst hi; exact absurd hw hv
    | succ i => have := h.2 i w (by simpa using hi) hw; simpa using this
theorem WFL.two {l : List Slot} {v : Value} (h : WFL l) (hv : v.category = 2) : WFL (.val v :: .second :: l) := by
  refine ⟨fun i hi => ?_, fun i w hi hw => ?_⟩
  · match i, hi with
    | 0, hi => simp at hi
    | 1, hi => exact ⟨0, v, rfl, by simp, hv⟩
    | i + 2, hi =>
      obtain ⟨j, w, e1, e2, e3⟩ := h.1 i (by simpa using hi)
      exact ⟨j + 2, w, by omega, by simpa using e2, e3⟩
  · match i, hi with
    | 0, hi => simp
    | 1, hi => simp at hi
    | i + 2, hi => have := h.2 i w (by simpa using hi) hw; simpa using this
theorem WFL.lay (as : List Value) (n : Nat) : WFL (lay as ++ List.replicate n Slot.unset) := by
  induction as with
  | nil => exact WFL.unset n
  | cons v l ih =>
    by_cases h : v.category = 2
    · simpa [Jvm.Pilot.@@N@@.lay, h] using ih.two h
    · simpa [Jvm.Pilot.@@N@@.lay, h] using ih.one h
def pforget : List Bool → Pat → Pat
  | [], _ => []
  | _, [] => []
  | true :: ms, x :: l => x :: pforget ms l
  | false :: ms, _ :: l => none :: pforget ms l
theorem pforget_get : ∀ (ms : List Bool) (P : Pat) (i : Nat) (s : Slot), pget (pforget ms P) i = some s → pget P i = some s
  | [], _, i, s, h => by simp [pforget, pget] at h
  | _ :: _, [], i, s, h => by simp [pforget, pget] at h
  | true :: ms, x :: l, 0, s, h => h
  | true :: ms, x :: l, i + 1, s, h => pforget_get ms l i s h
  | false :: ms, x :: l, 0, s, h => by simp [pforget, pget] at h
  | false :: ms, x :: l, i + 1, s, h => pforget_get ms l i s h
section Calls
variable {C : Ctx} {M N : Bdy} {k n pc q : Nat} {P P' : Pat} {S S' : List Value} {G G1 : AH} {Q : Option Value → AH → Prop} {top : Nat} {a : Nat} {qq j idx W : Nat} {ob : Rec} {H : List (Nat × Nat × Rec)} {as : List Value}
theorem Runs.forget (ms : List Bool) (hP : pforget ms P = P') (h : Runs C M k n pc P' S G Q) : Runs C M k n pc P S G Q := by
  intro hw p e s m args below meth c T locs L hx hby hml hret hnm hown hZ hf
  subst hP
  exact h hw p e s m args below meth c T locs L hx hby hml hret hnm hown hZ ⟨fun i s hi => hf.1 i s (pforget_get _ _ i s hi), hf.2⟩
theorem Pays.of (hpl : plainName N.1.cls = true) (hml : (lay as).length ≤ N.2.2.1) (x : Nat) (hP : (lay as).map some ++ List.replicate x none = P) (h : Runs C N 0 0 0 P [] G Q) : Pays C N as G Q := by
  intro hw h0 hR ws
  refine MetFree.of_bodySF (plainFor_of_name hpl) hisR ?_
  intro p e s m args below meth c s₁ Bd hml0 hp hK
  obtain ⟨rfl, hZ, hh⟩ := hp
  have X0 : Stand p C.1 e N.2.2.2.2 s m as.toArray below meth c s₁ [] 0 0 := Stand.of_body Bd
  have e0 : s₁.heap = h0 := by rw [← hh, Bd.state]; rfl
  obtain ⟨L, hL⟩ : ∃ L : Array Slot, L = (lay as ++ List.replicate (N.2.2.1 - (lay as).length) Slot.unset).toArray := ⟨_, rfl⟩
  have hfit : Fits P L := by
    subst hP hL
    refine ⟨fun i s hi => ?_, ?_⟩
    · rw [pget_eq] at hi
      cases hq : (lay as)[i]? with
      | none =>
        rw [List.getElem?_append_right (by simpa using hq), List.getElem?_replicate] at hi
        split at hi <;> simp at hi
      | some y =>
        have hlt := (List.getElem?_eq_some_iff.mp hq).1
        rw [List.getElem?_append_left (by simpa using hlt), List.getElem?_map, hq] at hi
        have this : y = s := by simpa using hi
        simp only [List.getElem?_toArray]
        rw [List.getElem?_append_left hlt, hq, this]
    · have := WFL.lay as (N.2.2.1 - (lay as).length)
      refine ⟨fun i hi => ?_, fun i v hi hv => ?_⟩
      · rw [List.getElem?_toArray] at hi
        obtain ⟨j, v, e1, e2, e3⟩ := this.1 i hi
        exact ⟨j, v, e1, by rw [List.getElem?_toArray]; exact e2, e3⟩
      · rw [List.getElem?_toArray] at hi ⊢
        exact this.2 i v hi hv
  obtain ⟨T', locs', k', n', r, G', g1, g2, g3, g4, g5, g6, g7, g8⟩ := h hw p e s m as.toArray below meth c s₁ [] L Bd.exec Bd.bytes hml0 Bd.returns (name_of_methodNamed Bd.named Bd.method).1 (findClass_of_methodNamed Bd.named) hZ hfit (by rw [hL]; simp; omega) X0 (by rw [e0]; exact hR) (Fr.nil _)
  obtain ⟨fs, hr, hrun, hended, hW, hsame⟩ := g1.leave (v := r) (fun u => g7 (by rw [← Bd.returns]; exact u))
  refine ⟨_, _, ?_, hrun, hended, _, _, rfl, ⟨g5, G', ?_, g6⟩, ⟨_, rfl⟩, hW, hsame.mono g2 g3⟩
  · have ef : entryFrame m as.toArray N.2.2.1 = mkF m 0 L [] := by
      rw [hL, ← args_lay]; rfl
    rw [ef]; exact g8 fs hr
  · exact g4
abbrev room_al (M N : Bdy) (W k n : Nat) : Prop := N.2.2.2.2.frames + 1 ≤ M.2.2.2.2.frames ∧ W + (N.2.2.1 + 11) + N.2.2.2.2.locals ≤ M.2.2.2.2.locals ∧ k + N.2.2.2.2.cells ≤ M.2.2.2.2.cells ∧ n + N.2.2.2.2.slots ≤ M.2.2.2.2.slots
abbrev room_ok (M N : Bdy) (W : Nat) : Prop := N.2.2.2.2.frames + 1 ≤ M.2.2.2.2.frames ∧ W + (N.2.2.1 + 11) + N.2.2.2.2.locals ≤ M.2.2.2.2.locals ∧ N.2.2.2.2.cells = 0 ∧ N.2.2.2.2.slots = 0
abbrev full_ok (M : Bdy) (k n : Nat) : Prop := k ≤ M.2.2.2.2.cells ∧ n ≤ M.2.2.2.2.slots
theorem room_ok.al (h : room_ok M N W) (f : full_ok M k n) : room_al M N W k n := ⟨h.1, h.2.1, by rw [h.2.2.1]; exact f.1, by rw [h.2.2.2]; exact f.2⟩
abbrev code_w (N : Bdy) : Prop := Jvm.Cond.code N.1 N.2.1 N.2.2.1 N.2.2.2.1 ∈ tables_1 ∧ Jvm.Cond.initialized N.1.cls ∈ tables_1 ∧ (N.1.cls ≠ "java/lang/invoke/MethodHandle" ∧ N.1.cls ≠ "java/lang/invoke/VarHandle")
def arity (N : Bdy) (na : Nat) : Prop := ∃ ps r, parseMethodDescriptor N.1.desc = some ⟨ps, r⟩ ∧ na = ps.length
theorem arity.len {na : Nat} (h : arity N na) (e : as.length = na) : ∀ sig, parseMethodDescriptor N.1.desc = some sig → as.length = sig.parameters.length := by
  obtain ⟨ps, r, h1, h2⟩ := h
  exact lenOf h1 (e.trans h2)
theorem after_call {v : Option Value} {p : Program} {e : Env} {s : State} {m : MethodId} {args : Array Value} {below : List Frame} {meth : Method} {c : Code} {T T0 : State} {locs : List Loc} {L : Array Slot} {QN : Option Value → AH → Prop} {Lc : List Loc}
    (hw : Ok C) (hx : p.tables.exec = Jvm.exec) (hby : c.code = M.2.1) (hml : c.maxLocals = M.2.2.1) (hret : meth.sig.returnType = M.2.2.2.1) (hnm : meth.name = M.1.name) (hown : s.vm.findClass M.1.cls = some m.cls) (hZ : C.2.1.Warmed39 s.vm) (hf : Fits P L) (hsz : L.size = M.2.2.1) (hF : Fr C.2.2.1 locs)
    (X : Stand p C.1 e M.2.2.2.2 s m args below meth c T (locs ++ Lc) (k + N.2.2.2.2.cells) (n + N.2.2.2.2.slots)) (hQ : Fr C.2.2.1 Lc ∧ ∃ G', Rep C.2.1 C.2.2.1 T.heap G' ∧ QN v G')
    (h : ∀ v G', QN v G' → Runs C M (k + N.2.2.2.2.cells) (n + N.2.2.2.2.slots) (pc + 3) P (v.toList ++ S') G' Q)
    (st : ∀ t, Steps p.tables e below (T.setTop (mkF m (pc + 3) L (v.toList ++ S'))) t → Steps p.tables e below (T0.setTop (mkF m pc L S)) t) :
    ∃ (T' : State) (locs' : List Loc) (k' n' : Nat) (r : Option Value) (G' : AH), Stand p C.1 e M.2.2.2.2 s m args below meth c T' locs' k' n' ∧ k' ≤ M.2.2.2.2.cells ∧ n' ≤ M.2.2.2.2.slots ∧ Rep C.2.1 C.2.2.1 T'.heap G' ∧ Fr C.2.2.1 locs' ∧ Q r G' ∧
      (M.2.2.2.1 = none → r = none) ∧
      ∀ fs : List Frame, (∀ (f : JFrame) (acts : List Action), f.method = m → f.locked = none → f.entered = [] → (doReturn e (T'.setTop f) acts r).1 = T'.setFrames fs) → Steps p.tables e below (T0.setTop (mkF m pc L S)) (T'.setFrames fs) := by
  obtain ⟨f1, G', f2, f3⟩ := hQ
  obtain ⟨T', locs', k', n', r, G'', g1, g2, g3, g4, g5, g6, g7, g8⟩ := h v G' f3 hw p e s m args below meth c T _ L hx hby hml hret hnm hown hZ hf hsz X f2 (Fr.app hF f1)
  exact ⟨T', locs', k', n', r, G'', g1, g2, g3, g4, g5, g6, g7, fun fs hr => st _ (g8 fs hr)⟩
theorem Runs.callS {QN : Option Value → AH → Prop} (d : DAt M pc (.invokestatic idx) 3 q) (wl : Jvm.Cond.methodLink M.1.cls idx N.1 ∈ tables_1) (wt : Jvm.Cond.static N.1 ∈ tables_1) (wc : code_w N) (ar : arity N as.length) (hr0 : room_ok M N W) (hfull : full_ok M k n) (hS : S = as.reverse ++ S') (hW : (S'.map fun v => v.category).sum = W)
    (hN : Pays C N as G QN) (h : ∀ v G', QN v G' → Runs C M k n q P (v.toList ++ S') G' Q) : Runs C M k n pc P S G Q := by
  intro hw p e s m args below meth c T locs L hx hby hml hret hnm hown hZ hf hsz X hR hF
  have hq := d.2
  subst hq hS
  have hr := hr0.al hfull
  obtain ⟨_, _, ⟨T1, L1, k1, n1⟩, -, X1, ⟨Lc, hQ, l1, y1, z1⟩, st⟩ := Jvm.LawKit.callS X hx (y := N.1) hown (mvT hZ (hw _ wl)) (mvT hZ (hw _ wt)) (mvT hZ (hw _ wc.2.1)) (mvT hZ (hw _ wc.1)) wc.2.2 (backOf (W := W) (Q := fun v h L => Fr C.2.2.1 L ∧ ∃ G', Rep C.2.1 C.2.2.1 h G' ∧ QN v G') (hN hw T.heap hR []) hZ (hw _ wc.1) (hw _ wc.2.1) hr.1 hr.2.1) (g := mkF m pc L (as.reverse ++ S')) rfl (by rw [hml]; exact hsz) (argsL := as) (rest := S') (ar.len rfl) rfl (by show 2 * 0 + _ ≤ _; omega) (hb hby d.1) (fun _ _ => ⟨rfl, rfl, hr.2.2.1, hr.2.2.2⟩)
  dsimp only [Pt.U, Pt.locs, Pt.cells, Pt.slots] at X1 l1 y1 z1 st hQ
  subst l1 y1 z1
  exact after_call hw hx hby hml hret hnm hown hZ hf hsz hF X1 hQ (by rw [hr0.2.2.1, hr0.2.2.2]; exact h) (fun t u => st t u)
theorem Runs.callV {QN : Option Value → AH → Prop} (d : DAt M pc (.invokevirtual idx) 3 q) (wl : Jvm.Cond.methodLink M.1.cls idx N.1 ∈ tables_1) (wd : Jvm.Cond.declares N.1 ∈ tables_1) (wi : Jvm.Cond.instanceMethod N.1 ∈ tables_1) (ws : Jvm.Cond.selects K.1 N.1 N.1 ∈ tables_1) (wc : code_w N) (ar : arity N as.length) (hr0 : room_ok M N W) (hfull : full_ok M k n) (hS : S = as.reverse ++ .ref a :: S') (hW : (S'.map fun v => v.category).sum = W)
    (hN : Pays C N (.ref a :: as) (top, (a, qq, ob) :: H) QN) (h : ∀ v G', QN v G' → Runs C M k n q P (v.toList ++ S') G' Q) : Runs C M k n pc P S (top, (a, qq, ob) :: H) Q := by
  intro hw p e s m args below meth c T locs L hx hby hml hret hnm hown hZ hf hsz X hR hF
  have hq := d.2
  subst hq hS
  have hr := hr0.al hfull
  obtain ⟨cB, kB, u1, -, u3⟩ := isOf hZ rfl hR.objs.2.2.1
  obtain ⟨_, _, ⟨T1, L1, k1, n1⟩, -, X1, ⟨Lc, hQ, l1, y1, z1⟩, st⟩ := X.virtualBack hx (y := N.1) (z := N.1) hown (mvT hZ (hw _ wl)) (mvT hZ (hw _ wd)) (notFace_of_selects (args := #[]) (mvT hZ (hw _ ws))) (mvT hZ (hw _ ws)) (mvT hZ (hw _ wi)) wc.2.2 (backOf (W := W) (Q := fun v h L => Fr C.2.2.1 L ∧ ∃ G', Rep C.2.1 C.2.2.1 h G' ∧ QN v G') (hN hw T.heap hR []) hZ (hw _ wc.1) (hw _ wc.2.1) hr.1 hr.2.1) u1 u3 (g := mkF m pc L (as.reverse ++ .ref a :: S')) rfl (by rw [hml]; exact hsz) (Steps.refl _) (argsL := as) (rest := S') (ar.len rfl) rfl (by show 2 * 0 + _ ≤ _; omega) (hb hby d.1) (fun _ _ => ⟨rfl, rfl, hr.2.2.1, hr.2.2.2⟩)
  dsimp only [Pt.U, Pt.locs, Pt.cells, Pt.slots] at X1 l1 y1 z1 st hQ
  subst l1 y1 z1
  exact after_call hw hx hby hml hret hnm hown hZ hf hsz hF X1 hQ (by rw [hr0.2.2.1, hr0.2.2.2]; exact h) (fun t u => st.trans u)
theorem Runs.callP {QN : Option Value → AH → Prop} (d : DAt M pc (.invokevirtual idx) 3 q) (wl : Jvm.Cond.methodLink M.1.cls idx N.1 ∈ tables_1) (wi : Jvm.Cond.instanceMethod N.1 ∈ tables_1) (wp : Jvm.Cond.privateMethod N.1 ∈ tables_1) (wK : N.1.cls = K.1) (wc : code_w N) (ar : arity N as.length) (hr0 : room_ok M N W) (hfull : full_ok M k n) (hS : S = as.reverse ++ .ref a :: S') (hW : (S'.map fun v => v.category).sum = W)
    (hN : Pays C N (.ref a :: as) (top, (a, qq, ob) :: H) QN) (h : ∀ v G', QN v G' → Runs C M k n q P (v.toList ++ S') G' Q) : Runs C M k n pc P S (top, (a, qq, ob) :: H) Q := by
  intro hw p e s m args below meth c T locs L hx hby hml hret hnm hown hZ hf hsz X hR hF
  have hq := d.2
  subst hq hS
  have hr := hr0.al hfull
  obtain ⟨cl, u1, u2⟩ := hR.objs.2.2.1.cell
  have hpr : s.PrivateAt N.1 := Cond.privateMethod_at (mvP hZ (hw _ wp) (args := #[]))
  obtain ⟨c2, k2, i1, i2, i3, i4, -⟩ := Cond.instantiable_spec (mvT (args := args) hZ (hw _ kI))
  have hsel : (Jvm.Cond.selects N.1.cls N.1 N.1).before args s = true := Stand.selects_self_of_private (by rw [wK]; exact i1) i2 (by simp at i4; exact i4.1) hpr (mvT hZ (hw _ wi)) wc.2.2
  obtain ⟨_, _, ⟨T1, L1, k1, n1⟩, -, X1, ⟨Lc, hQ, l1, y1, z1⟩, st⟩ := X.privateBack hx (y := N.1) hown (mvT hZ (hw _ wl)) (mvT hZ (hw _ wi)) hsel hpr (mvT hZ (hw _ wc.1)) wc.2.2 (backOf (W := W) (Q := fun v h L => Fr C.2.2.1 L ∧ ∃ G', Rep C.2.1 C.2.2.1 h G' ∧ QN v G') (hN hw T.heap hR []) hZ (hw _ wc.1) (hw _ wc.2.1) hr.1 hr.2.1) (g := mkF m pc L (as.reverse ++ .ref a :: S')) rfl (by rw [hml]; exact hsz) (Steps.refl _) (a := a) u1 u2 (argsL := as) (rest := S') (ar.len rfl) rfl (by show 2 * 0 + _ ≤ _; omega) (hb hby d.1) (fun _ _ => ⟨rfl, rfl, hr.2.2.1, hr.2.2.2⟩)
  dsimp only [Pt.U, Pt.locs, Pt.cells, Pt.slots] at X1 l1 y1 z1 st hQ
  subst l1 y1 z1
  exact after_call hw hx hby hml hret hnm hown hZ hf hsz hF X1 hQ (by rw [hr0.2.2.1, hr0.2.2.2]; exact h) (fun t u => st.trans u)
theorem Runs.callI {QN : Option Value → AH → Prop} (d : DAt M pc (.invokespecial idx) 3 q) (hi : N.1.name = "<init>") (hn : N.2.2.2.1 = none) (wl : Jvm.Cond.methodLink M.1.cls idx N.1 ∈ tables_1) (wi : Jvm.Cond.instanceMethod N.1 ∈ tables_1) (wc : code_w N) (ar : arity N as.length) (hr : room_al M N W k n) (hS : S = as.reverse ++ .ref a :: S') (hW : (S'.map fun v => v.category).sum = W) {k' n' : Nat} (hk' : k + N.2.2.2.2.cells = k') (hn' : n + N.2.2.2.2.slots = n')
    (hN : Pays C N (.ref a :: as) G QN) (h : ∀ v G', QN v G' → Runs C M k' n' q P (v.toList ++ S') G' Q) : Runs C M k n pc P S G Q := by
  intro hw p e s m args below meth c T locs L hx hby hml hret hnm hown hZ hf hsz X hR hF
  have hq := d.2
  subst hq hS hk' hn'
  have wc1 := hw _ wc.1
  obtain ⟨_, _, ⟨T1, L1, k1, n1⟩, -, X1, ⟨Lc, hQ, l1, y1, z1⟩, st⟩ := X.specialBack hx (y := N.1) hi hown (mvT hZ (hw _ wl)) (mvT hZ (hw _ wi)) (bytes := N.2.1) (maxL := N.2.2.1) (by have := mvT (args := args) hZ wc1; rw [hn] at this; exact this) wc.2.2 (backOf (W := W) (Q := fun v h L => Fr C.2.2.1 L ∧ ∃ G', Rep C.2.1 C.2.2.1 h G' ∧ QN v G') (hN hw T.heap hR []) hZ wc1 (hw _ wc.2.1) hr.1 hr.2.1) (g := mkF m pc L (as.reverse ++ .ref a :: S')) rfl (by rw [hml]; exact hsz) (Steps.refl _) (a := a) (argsL := as) (rest := S') (ar.len rfl) rfl (by show 2 * 0 + _ ≤ _; omega) (hb hby d.1) (fun _ _ => ⟨rfl, rfl, hr.2.2.1, hr.2.2.2⟩)
  dsimp only [Pt.U, Pt.locs, Pt.cells, Pt.slots] at X1 l1 y1 z1 st hQ
  subst l1 y1 z1
  exact after_call hw hx hby hml hret hnm hown hZ hf hsz hF X1 hQ h (fun t u => st.trans u)
/-- the plain form of a contract: one answer, one heap -/
abbrev Ans (r : Option Value) (G1 : AH) : Option Value → AH → Prop := fun v G' => v = r ∧ G' = G1
theorem ans1 {x : Value} {k n : Nat} (h : Runs C M k n pc P (x :: S) G1 Q) : ∀ v G', Ans (some x) G1 v G' → Runs C M k n pc P (v.toList ++ S) G' Q := by
  rintro v G' ⟨rfl, rfl⟩; exact h
theorem ans0 {k n : Nat} (h : Runs C M k n pc P S G1 Q) : ∀ v G', Ans none G1 v G' → Runs C M k n pc P (v.toList ++ S) G' Q := by
  rintro v G' ⟨rfl, rfl⟩; exact h
end Calls
theorem pnK : plainName "GrammarReshaper" = true := by first | (simp [plainName, overriddenIn]; done) | decide +kernel
theorem pnL : plainName "GrammarReshaperL3" = true := by first | (simp [plainName, overriddenIn]; done) | decide +kernel
theorem w0 : (Jvm.Cond.classLink "GrammarReshaperL3" (7 : Nat) "GrammarReshaper") ∈ tables_1 := mem1 0 rfl
theorem w3 : (Jvm.Cond.methodLink "GrammarReshaperL3" (9 : Nat) ({ cls := "GrammarReshaper", name := "<init>", desc := "(II)V" } : Jvm.MethodName)) ∈ tables_1 := mem1 3 rfl
theorem w4 : (Jvm.Cond.instanceMethod ({ cls := "GrammarReshaper", name := "<init>", desc := "(II)V" } : Jvm.MethodName)) ∈ tables_1 := mem1 4 rfl
theorem w6 : (Jvm.Cond.methodLink "GrammarReshaper" (1 : Nat) ({ cls := "java/lang/Object", name := "<init>", desc := "()V" } : Jvm.MethodName)) ∈ tables_1 := mem1 6 rfl
theorem w7 : (Jvm.Cond.instanceMethod ({ cls := "java/lang/Object", name := "<init>", desc := "()V" } : Jvm.MethodName)) ∈ tables_1 := mem1 7 rfl
theorem w8 : (Jvm.Cond.code ({ cls := "java/lang/Object", name := "<init>", desc := "()V" } : Jvm.MethodName) object_method_1_code (1 : Nat) (Option.none : Option Jvm.ClassFile.FieldType)) ∈ tables_1 := mem1 8 rfl
theorem w9 : (Jvm.Cond.arrayClass Jvm.ClassFile.FieldType.int) ∈ tables_1 := mem1 9 rfl
theorem w10 : (Jvm.Cond.fieldLink "GrammarReshaper" (7 : Nat) "GrammarReshaper" "heads" "[I") ∈ tables_1 := mem1 10 rfl
theorem w11 : (Jvm.Cond.lays "GrammarReshaper" "GrammarReshaper" "heads" "[I") ∈ tables_1 := mem1 11 rfl
theorem w12 : (Jvm.Cond.fieldLink "GrammarReshaper" (13 : Nat) "GrammarReshaper" "lens" "[I") ∈ tables_1 := mem1 12 rfl
theorem w13 : (Jvm.Cond.lays "GrammarReshaper" "GrammarReshaper" "lens" "[I") ∈ tables_1 := mem1 13 rfl
theorem w14 : (Jvm.Cond.fieldLink "GrammarReshaper" (16 : Nat) "GrammarReshaper" "syms" "[I") ∈ tables_1 := mem1 14 rfl
theorem w15 : (Jvm.Cond.lays "GrammarReshaper" "GrammarReshaper" "syms" "[I") ∈ tables_1 := mem1 15 rfl
theorem w16 : (Jvm.Cond.fieldLink "GrammarReshaper" (19 : Nat) "GrammarReshaper" "input" "[I") ∈ tables_1 := mem1 16 rfl
theorem w17 : (Jvm.Cond.lays "GrammarReshaper" "GrammarReshaper" "input" "[I") ∈ tables_1 := mem1 17 rfl
theorem w18 : (Jvm.Cond.fieldLink "GrammarReshaper" (22 : Nat) "GrammarReshaper" "cnt" "[I") ∈ tables_1 := mem1 18 rfl
theorem w19 : (Jvm.Cond.lays "GrammarReshaper" "GrammarReshaper" "cnt" "[I") ∈ tables_1 := mem1 19 rfl
theorem w20 : (Jvm.Cond.fieldLink "GrammarReshaper" (25 : Nat) "GrammarReshaper" "ways" "[I") ∈ tables_1 := mem1 20 rfl
theorem w21 : (Jvm.Cond.lays "GrammarReshaper" "GrammarReshaper" "ways" "[I") ∈ tables_1 := mem1 21 rfl
theorem w22 : (Jvm.Cond.fieldLink "GrammarReshaper" (28 : Nat) "GrammarReshaper" "unitAdj" "[I") ∈ tables_1 := mem1 22 rfl
theorem w23 : (Jvm.Cond.lays "GrammarReshaper" "GrammarReshaper" "unitAdj" "[I") ∈ tables_1 := mem1 23 rfl
theorem w24 : (Jvm.Cond.fieldLink "GrammarReshaper" (31 : Nat) "GrammarReshaper" "order" "[I") ∈ tables_1 := mem1 24 rfl
theorem w25 : (Jvm.Cond.lays "GrammarReshaper" "GrammarReshaper" "order" "[I") ∈ tables_1 := mem1 25 rfl
theorem w26 : (Jvm.Cond.fieldLink "GrammarReshaper" (34 : Nat) "GrammarReshaper" "deriv" "[I") ∈ tables_1 := mem1 26 rfl
theorem w27 : (Jvm.Cond.lays "GrammarReshaper" "GrammarReshaper" "deriv" "[I") ∈ tables_1 := mem1 27 rfl
theorem w28 : (Jvm.Cond.fieldLink "GrammarReshaper" (37 : Nat) "GrammarReshaper" "stA" "[I") ∈ tables_1 := mem1 28 rfl
theorem w29 : (Jvm.Cond.lays "GrammarReshaper" "GrammarReshaper" "stA" "[I") ∈ tables_1 := mem1 29 rfl
theorem w30 : (Jvm.Cond.fieldLink "GrammarReshaper" (40 : Nat) "GrammarReshaper" "stI" "[I") ∈ tables_1 := mem1 30 rfl
theorem w31 : (Jvm.Cond.lays "GrammarReshaper" "GrammarReshaper" "stI" "[I") ∈ tables_1 := mem1 31 rfl
theorem w32 : (Jvm.Cond.fieldLink "GrammarReshaper" (43 : Nat) "GrammarReshaper" "stJ" "[I") ∈ tables_1 := mem1 32 rfl
theorem w33 : (Jvm.Cond.lays "GrammarReshaper" "GrammarReshaper" "stJ" "[I") ∈ tables_1 := mem1 33 rfl
theorem w34 : (Jvm.Cond.fieldLink "GrammarReshaper" (46 : Nat) "GrammarReshaper" "ruleCap" "I") ∈ tables_1 := mem1 34 rfl
theorem w35 : (Jvm.Cond.lays "GrammarReshaper" "GrammarReshaper" "ruleCap" "I") ∈ tables_1 := mem1 35 rfl
theorem w36 : (Jvm.Cond.fieldLink "GrammarReshaper" (50 : Nat) "GrammarReshaper" "inputCap" "I") ∈ tables_1 := mem1 36 rfl
theorem w37 : (Jvm.Cond.lays "GrammarReshaper" "GrammarReshaper" "inputCap" "I") ∈ tables_1 := mem1 37 rfl
theorem w38 : (Jvm.Cond.fieldLink "GrammarReshaper" (53 : Nat) "GrammarReshaper" "state" "I") ∈ tables_1 := mem1 38 rfl
theorem w39 : (Jvm.Cond.lays "GrammarReshaper" "GrammarReshaper" "state" "I") ∈ tables_1 := mem1 39 rfl
theorem w40 : (Jvm.Cond.fieldLink "GrammarReshaper" (56 : Nat) "GrammarReshaper" "nRules" "I") ∈ tables_1 := mem1 40 rfl
theorem w41 : (Jvm.Cond.lays "GrammarReshaper" "GrammarReshaper" "nRules" "I") ∈ tables_1 := mem1 41 rfl
theorem w42 : (Jvm.Cond.fieldLink "GrammarReshaper" (59 : Nat) "GrammarReshaper" "inLen" "I") ∈ tables_1 := mem1 42 rfl
theorem w43 : (Jvm.Cond.lays "GrammarReshaper" "GrammarReshaper" "inLen" "I") ∈ tables_1 := mem1 43 rfl
theorem w44 : (Jvm.Cond.fieldLink "GrammarReshaper" (62 : Nat) "GrammarReshaper" "result" "I") ∈ tables_1 := mem1 44 rfl
theorem w45 : (Jvm.Cond.lays "GrammarReshaper" "GrammarReshaper" "result" "I") ∈ tables_1 := mem1 45 rfl
theorem w46 : (Jvm.Cond.fieldLink "GrammarReshaper" (65 : Nat) "GrammarReshaper" "derivLen" "I") ∈ tables_1 := mem1 46 rfl
theorem w47 : (Jvm.Cond.lays "GrammarReshaper" "GrammarReshaper" "derivLen" "I") ∈ tables_1 := mem1 47 rfl
theorem w48 : (Jvm.Cond.fieldLink "GrammarReshaper" (68 : Nat) "GrammarReshaper" "sp" "I") ∈ tables_1 := mem1 48 rfl
theorem w49 : (Jvm.Cond.lays "GrammarReshaper" "GrammarReshaper" "sp" "I") ∈ tables_1 := mem1 49 rfl
theorem w50 : (Jvm.Cond.methodLink "GrammarReshaperL3" (12 : Nat) ({ cls := "GrammarReshaper", name := "beginRule", desc := "(I)I" } : Jvm.MethodName)) ∈ tables_1 := mem1 50 rfl
theorem w51 : (Jvm.Cond.declares ({ cls := "GrammarReshaper", name := "beginRule", desc := "(I)I" } : Jvm.MethodName)) ∈ tables_1 := mem1 51 rfl
theorem w52 : (Jvm.Cond.instanceMethod ({ cls := "GrammarReshaper", name := "beginRule", desc := "(I)I" } : Jvm.MethodName)) ∈ tables_1 := mem1 52 rfl
theorem w53 : (Jvm.Cond.selects "GrammarReshaper" ({ cls := "GrammarReshaper", name := "beginRule", desc := "(I)I" } : Jvm.MethodName) ({ cls := "GrammarReshaper", name := "beginRule", desc := "(I)I" } : Jvm.MethodName)) ∈ tables_1 := mem1 53 rfl
theorem w55 : (Jvm.Cond.methodLink "GrammarReshaperL3" (16 : Nat) ({ cls := "GrammarReshaper", name := "addSymbol", desc := "(I)I" } : Jvm.MethodName)) ∈ tables_1 := mem1 55 rfl
theorem w56 : (Jvm.Cond.declares ({ cls := "GrammarReshaper", name := "addSymbol", desc := "(I)I" } : Jvm.MethodName)) ∈ tables_1 := mem1 56 rfl
theorem w57 : (Jvm.Cond.instanceMethod ({ cls := "GrammarReshaper", name := "addSymbol", desc := "(I)I" } : Jvm.MethodName)) ∈ tables_1 := mem1 57 rfl
theorem w58 : (Jvm.Cond.selects "GrammarReshaper" ({ cls := "GrammarReshaper", name := "addSymbol", desc := "(I)I" } : Jvm.MethodName) ({ cls := "GrammarReshaper", name := "addSymbol", desc := "(I)I" } : Jvm.MethodName)) ∈ tables_1 := mem1 58 rfl
theorem w60 : (Jvm.Cond.methodLink "GrammarReshaperL3" (19 : Nat) ({ cls := "GrammarReshaper", name := "reshape", desc := "()I" } : Jvm.MethodName)) ∈ tables_1 := mem1 60 rfl
theorem w61 : (Jvm.Cond.declares ({ cls := "GrammarReshaper", name := "reshape", desc := "()I" } : Jvm.MethodName)) ∈ tables_1 := mem1 61 rfl
theorem w62 : (Jvm.Cond.instanceMethod ({ cls := "GrammarReshaper", name := "reshape", desc := "()I" } : Jvm.MethodName)) ∈ tables_1 := mem1 62 rfl
theorem w63 : (Jvm.Cond.selects "GrammarReshaper" ({ cls := "GrammarReshaper", name := "reshape", desc := "()I" } : Jvm.MethodName) ({ cls := "GrammarReshaper", name := "reshape", desc := "()I" } : Jvm.MethodName)) ∈ tables_1 := mem1 63 rfl
theorem w65 : (Jvm.Cond.methodLink "GrammarReshaper" (71 : Nat) ({ cls := "GrammarReshaper", name := "hasEmptyRule", desc := "()Z" } : Jvm.MethodName)) ∈ tables_1 := mem1 65 rfl
theorem w66 : (Jvm.Cond.instanceMethod ({ cls := "GrammarReshaper", name := "hasEmptyRule", desc := "()Z" } : Jvm.MethodName)) ∈ tables_1 := mem1 66 rfl
theorem w67 : (Jvm.Cond.privateMethod ({ cls := "GrammarReshaper", name := "hasEmptyRule", desc := "()Z" } : Jvm.MethodName)) ∈ tables_1 := mem1 67 rfl
theorem w69 : (Jvm.Cond.methodLink "GrammarReshaper" (75 : Nat) ({ cls := "GrammarReshaper", name := "hasDuplicate", desc := "()Z" } : Jvm.MethodName)) ∈ tables_1 := mem1 69 rfl
theorem w70 : (Jvm.Cond.instanceMethod ({ cls := "GrammarReshaper", name := "hasDuplicate", desc := "()Z" } : Jvm.MethodName)) ∈ tables_1 := mem1 70 rfl
theorem w71 : (Jvm.Cond.privateMethod ({ cls := "GrammarReshaper", name := "hasDuplicate", desc := "()Z" } : Jvm.MethodName)) ∈ tables_1 := mem1 71 rfl
theorem w73 : (Jvm.Cond.methodLink "GrammarReshaper" (95 : Nat) ({ cls := "GrammarReshaper", name := "sameRule", desc := "(II)Z" } : Jvm.MethodName)) ∈ tables_1 := mem1 73 rfl
theorem w74 : (Jvm.Cond.instanceMethod ({ cls := "GrammarReshaper", name := "sameRule", desc := "(II)Z" } : Jvm.MethodName)) ∈ tables_1 := mem1 74 rfl
theorem w75 : (Jvm.Cond.privateMethod ({ cls := "GrammarReshaper", name := "sameRule", desc := "(II)Z" } : Jvm.MethodName)) ∈ tables_1 := mem1 75 rfl
theorem w77 : (Jvm.Cond.methodLink "GrammarReshaper" (78 : Nat) ({ cls := "GrammarReshaper", name := "computeOrder", desc := "()Z" } : Jvm.MethodName)) ∈ tables_1 := mem1 77 rfl
theorem w78 : (Jvm.Cond.instanceMethod ({ cls := "GrammarReshaper", name := "computeOrder", desc := "()Z" } : Jvm.MethodName)) ∈ tables_1 := mem1 78 rfl
theorem w79 : (Jvm.Cond.privateMethod ({ cls := "GrammarReshaper", name := "computeOrder", desc := "()Z" } : Jvm.MethodName)) ∈ tables_1 := mem1 79 rfl
theorem w81 : (Jvm.Cond.methodLink "GrammarReshaper" (99 : Nat) ({ cls := "GrammarReshaper", name := "isUnit", desc := "(I)Z" } : Jvm.MethodName)) ∈ tables_1 := mem1 81 rfl
theorem w82 : (Jvm.Cond.instanceMethod ({ cls := "GrammarReshaper", name := "isUnit", desc := "(I)Z" } : Jvm.MethodName)) ∈ tables_1 := mem1 82 rfl
theorem w83 : (Jvm.Cond.privateMethod ({ cls := "GrammarReshaper", name := "isUnit", desc := "(I)Z" } : Jvm.MethodName)) ∈ tables_1 := mem1 83 rfl
theorem w85 : (Jvm.Cond.methodLink "GrammarReshaperL3" (23 : Nat) ({ cls := "GrammarReshaper", name := "feed", desc := "(I)I" } : Jvm.MethodName)) ∈ tables_1 := mem1 85 rfl
theorem w86 : (Jvm.Cond.declares ({ cls := "GrammarReshaper", name := "feed", desc := "(I)I" } : Jvm.MethodName)) ∈ tables_1 := mem1 86 rfl
theorem w87 : (Jvm.Cond.instanceMethod ({ cls := "GrammarReshaper", name := "feed", desc := "(I)I" } : Jvm.MethodName)) ∈ tables_1 := mem1 87 rfl
theorem w88 : (Jvm.Cond.selects "GrammarReshaper" ({ cls := "GrammarReshaper", name := "feed", desc := "(I)I" } : Jvm.MethodName) ({ cls := "GrammarReshaper", name := "feed", desc := "(I)I" } : Jvm.MethodName)) ∈ tables_1 := mem1 88 rfl
theorem w90 : (Jvm.Cond.methodLink "GrammarReshaperL3" (26 : Nat) ({ cls := "GrammarReshaper", name := "parse", desc := "()I" } : Jvm.MethodName)) ∈ tables_1 := mem1 90 rfl
theorem w91 : (Jvm.Cond.declares ({ cls := "GrammarReshaper", name := "parse", desc := "()I" } : Jvm.MethodName)) ∈ tables_1 := mem1 91 rfl
theorem w92 : (Jvm.Cond.instanceMethod ({ cls := "GrammarReshaper", name := "parse", desc := "()I" } : Jvm.MethodName)) ∈ tables_1 := mem1 92 rfl
theorem w93 : (Jvm.Cond.selects "GrammarReshaper" ({ cls := "GrammarReshaper", name := "parse", desc := "()I" } : Jvm.MethodName) ({ cls := "GrammarReshaper", name := "parse", desc := "()I" } : Jvm.MethodName)) ∈ tables_1 := mem1 93 rfl
theorem w95 : (Jvm.Cond.methodLink "GrammarReshaper" (81 : Nat) ({ cls := "GrammarReshaper", name := "buildChart", desc := "()V" } : Jvm.MethodName)) ∈ tables_1 := mem1 95 rfl
theorem w96 : (Jvm.Cond.instanceMethod ({ cls := "GrammarReshaper", name := "buildChart", desc := "()V" } : Jvm.MethodName)) ∈ tables_1 := mem1 96 rfl
theorem w97 : (Jvm.Cond.privateMethod ({ cls := "GrammarReshaper", name := "buildChart", desc := "()V" } : Jvm.MethodName)) ∈ tables_1 := mem1 97 rfl
theorem w99 : (Jvm.Cond.methodLink "GrammarReshaper" (103 : Nat) ({ cls := "GrammarReshaper", name := "computeSpan", desc := "(II)V" } : Jvm.MethodName)) ∈ tables_1 := mem1 99 rfl
theorem w100 : (Jvm.Cond.instanceMethod ({ cls := "GrammarReshaper", name := "computeSpan", desc := "(II)V" } : Jvm.MethodName)) ∈ tables_1 := mem1 100 rfl
theorem w101 : (Jvm.Cond.privateMethod ({ cls := "GrammarReshaper", name := "computeSpan", desc := "(II)V" } : Jvm.MethodName)) ∈ tables_1 := mem1 101 rfl
theorem w103 : (Jvm.Cond.methodLink "GrammarReshaper" (84 : Nat) ({ cls := "GrammarReshaper", name := "idx", desc := "(III)I" } : Jvm.MethodName)) ∈ tables_1 := mem1 103 rfl
theorem w104 : (Jvm.Cond.instanceMethod ({ cls := "GrammarReshaper", name := "idx", desc := "(III)I" } : Jvm.MethodName)) ∈ tables_1 := mem1 104 rfl
theorem w105 : (Jvm.Cond.privateMethod ({ cls := "GrammarReshaper", name := "idx", desc := "(III)I" } : Jvm.MethodName)) ∈ tables_1 := mem1 105 rfl
theorem w107 : (Jvm.Cond.methodLink "GrammarReshaper" (107 : Nat) ({ cls := "GrammarReshaper", name := "splitCount", desc := "(III)I" } : Jvm.MethodName)) ∈ tables_1 := mem1 107 rfl
theorem w108 : (Jvm.Cond.instanceMethod ({ cls := "GrammarReshaper", name := "splitCount", desc := "(III)I" } : Jvm.MethodName)) ∈ tables_1 := mem1 108 rfl
theorem w109 : (Jvm.Cond.privateMethod ({ cls := "GrammarReshaper", name := "splitCount", desc := "(III)I" } : Jvm.MethodName)) ∈ tables_1 := mem1 109 rfl
theorem w111 : (Jvm.Cond.methodLink "GrammarReshaper" (118 : Nat) ({ cls := "GrammarReshaper", name := "fillWays", desc := "(III)V" } : Jvm.MethodName)) ∈ tables_1 := mem1 111 rfl
theorem w112 : (Jvm.Cond.instanceMethod ({ cls := "GrammarReshaper", name := "fillWays", desc := "(III)V" } : Jvm.MethodName)) ∈ tables_1 := mem1 112 rfl
theorem w113 : (Jvm.Cond.privateMethod ({ cls := "GrammarReshaper", name := "fillWays", desc := "(III)V" } : Jvm.MethodName)) ∈ tables_1 := mem1 113 rfl
theorem w115 : (Jvm.Cond.methodLink "GrammarReshaper" (110 : Nat) ({ cls := "GrammarReshaper", name := "add", desc := "(II)I" } : Jvm.MethodName)) ∈ tables_1 := mem1 115 rfl
theorem w116 : (Jvm.Cond.instanceMethod ({ cls := "GrammarReshaper", name := "add", desc := "(II)I" } : Jvm.MethodName)) ∈ tables_1 := mem1 116 rfl
theorem w117 : (Jvm.Cond.privateMethod ({ cls := "GrammarReshaper", name := "add", desc := "(II)I" } : Jvm.MethodName)) ∈ tables_1 := mem1 117 rfl
theorem w119 : (Jvm.Cond.methodLink "GrammarReshaper" (121 : Nat) ({ cls := "GrammarReshaper", name := "cellWays", desc := "(IIII)I" } : Jvm.MethodName)) ∈ tables_1 := mem1 119 rfl
theorem w120 : (Jvm.Cond.instanceMethod ({ cls := "GrammarReshaper", name := "cellWays", desc := "(IIII)I" } : Jvm.MethodName)) ∈ tables_1 := mem1 120 rfl
theorem w121 : (Jvm.Cond.privateMethod ({ cls := "GrammarReshaper", name := "cellWays", desc := "(IIII)I" } : Jvm.MethodName)) ∈ tables_1 := mem1 121 rfl
theorem w123 : (Jvm.Cond.methodLink "GrammarReshaper" (125 : Nat) ({ cls := "GrammarReshaper", name := "symCount", desc := "(III)I" } : Jvm.MethodName)) ∈ tables_1 := mem1 123 rfl
theorem w124 : (Jvm.Cond.instanceMethod ({ cls := "GrammarReshaper", name := "symCount", desc := "(III)I" } : Jvm.MethodName)) ∈ tables_1 := mem1 124 rfl
theorem w125 : (Jvm.Cond.privateMethod ({ cls := "GrammarReshaper", name := "symCount", desc := "(III)I" } : Jvm.MethodName)) ∈ tables_1 := mem1 125 rfl
theorem w127 : (Jvm.Cond.methodLink "GrammarReshaper" (128 : Nat) ({ cls := "GrammarReshaper", name := "mul", desc := "(II)I" } : Jvm.MethodName)) ∈ tables_1 := mem1 127 rfl
theorem w128 : (Jvm.Cond.instanceMethod ({ cls := "GrammarReshaper", name := "mul", desc := "(II)I" } : Jvm.MethodName)) ∈ tables_1 := mem1 128 rfl
theorem w129 : (Jvm.Cond.privateMethod ({ cls := "GrammarReshaper", name := "mul", desc := "(II)I" } : Jvm.MethodName)) ∈ tables_1 := mem1 129 rfl
theorem w131 : (Jvm.Cond.methodLink "GrammarReshaper" (114 : Nat) ({ cls := "GrammarReshaper", name := "addUnits", desc := "(III)V" } : Jvm.MethodName)) ∈ tables_1 := mem1 131 rfl
theorem w132 : (Jvm.Cond.instanceMethod ({ cls := "GrammarReshaper", name := "addUnits", desc := "(III)V" } : Jvm.MethodName)) ∈ tables_1 := mem1 132 rfl
theorem w133 : (Jvm.Cond.privateMethod ({ cls := "GrammarReshaper", name := "addUnits", desc := "(III)V" } : Jvm.MethodName)) ∈ tables_1 := mem1 133 rfl
theorem w135 : (Jvm.Cond.methodLink "GrammarReshaperL3" (29 : Nat) ({ cls := "GrammarReshaper", name := "treeCount", desc := "()I" } : Jvm.MethodName)) ∈ tables_1 := mem1 135 rfl
theorem w136 : (Jvm.Cond.declares ({ cls := "GrammarReshaper", name := "treeCount", desc := "()I" } : Jvm.MethodName)) ∈ tables_1 := mem1 136 rfl
theorem w137 : (Jvm.Cond.instanceMethod ({ cls := "GrammarReshaper", name := "treeCount", desc := "()I" } : Jvm.MethodName)) ∈ tables_1 := mem1 137 rfl
theorem w138 : (Jvm.Cond.selects "GrammarReshaper" ({ cls := "GrammarReshaper", name := "treeCount", desc := "()I" } : Jvm.MethodName) ({ cls := "GrammarReshaper", name := "treeCount", desc := "()I" } : Jvm.MethodName)) ∈ tables_1 := mem1 138 rfl
theorem w140 : (Jvm.Cond.methodLink "GrammarReshaperL3" (32 : Nat) ({ cls := "GrammarReshaper", name := "derivationLength", desc := "()I" } : Jvm.MethodName)) ∈ tables_1 := mem1 140 rfl
theorem w141 : (Jvm.Cond.declares ({ cls := "GrammarReshaper", name := "derivationLength", desc := "()I" } : Jvm.MethodName)) ∈ tables_1 := mem1 141 rfl
theorem w142 : (Jvm.Cond.instanceMethod ({ cls := "GrammarReshaper", name := "derivationLength", desc := "()I" } : Jvm.MethodName)) ∈ tables_1 := mem1 142 rfl
theorem w143 : (Jvm.Cond.selects "GrammarReshaper" ({ cls := "GrammarReshaper", name := "derivationLength", desc := "()I" } : Jvm.MethodName) ({ cls := "GrammarReshaper", name := "derivationLength", desc := "()I" } : Jvm.MethodName)) ∈ tables_1 := mem1 143 rfl
theorem w145 : (Jvm.Cond.methodLink "GrammarReshaperL3" (35 : Nat) ({ cls := "GrammarReshaper", name := "derivationRule", desc := "(I)I" } : Jvm.MethodName)) ∈ tables_1 := mem1 145 rfl
theorem w146 : (Jvm.Cond.declares ({ cls := "GrammarReshaper", name := "derivationRule", desc := "(I)I" } : Jvm.MethodName)) ∈ tables_1 := mem1 146 rfl
theorem w147 : (Jvm.Cond.instanceMethod ({ cls := "GrammarReshaper", name := "derivationRule", desc := "(I)I" } : Jvm.MethodName)) ∈ tables_1 := mem1 147 rfl
theorem w148 : (Jvm.Cond.selects "GrammarReshaper" ({ cls := "GrammarReshaper", name := "derivationRule", desc := "(I)I" } : Jvm.MethodName) ({ cls := "GrammarReshaper", name := "derivationRule", desc := "(I)I" } : Jvm.MethodName)) ∈ tables_1 := mem1 148 rfl
theorem w150 : (Jvm.Cond.methodLink "GrammarReshaper" (91 : Nat) ({ cls := "GrammarReshaper", name := "derivationLength", desc := "()I" } : Jvm.MethodName)) ∈ tables_1 := mem1 150 rfl
theorem w151 : (Jvm.Cond.methodLink "GrammarReshaper" (88 : Nat) ({ cls := "GrammarReshaper", name := "extract", desc := "()V" } : Jvm.MethodName)) ∈ tables_1 := mem1 151 rfl
theorem w152 : (Jvm.Cond.instanceMethod ({ cls := "GrammarReshaper", name := "extract", desc := "()V" } : Jvm.MethodName)) ∈ tables_1 := mem1 152 rfl
theorem w153 : (Jvm.Cond.privateMethod ({ cls := "GrammarReshaper", name := "extract", desc := "()V" } : Jvm.MethodName)) ∈ tables_1 := mem1 153 rfl
theorem w155 : (Jvm.Cond.methodLink "GrammarReshaper" (131 : Nat) ({ cls := "GrammarReshaper", name := "push", desc := "(III)V" } : Jvm.MethodName)) ∈ tables_1 := mem1 155 rfl
theorem w156 : (Jvm.Cond.instanceMethod ({ cls := "GrammarReshaper", name := "push", desc := "(III)V" } : Jvm.MethodName)) ∈ tables_1 := mem1 156 rfl
theorem w157 : (Jvm.Cond.privateMethod ({ cls := "GrammarReshaper", name := "push", desc := "(III)V" } : Jvm.MethodName)) ∈ tables_1 := mem1 157 rfl
theorem w159 : (Jvm.Cond.methodLink "GrammarReshaper" (134 : Nat) ({ cls := "GrammarReshaper", name := "findRule", desc := "(III)I" } : Jvm.MethodName)) ∈ tables_1 := mem1 159 rfl
theorem w160 : (Jvm.Cond.instanceMethod ({ cls := "GrammarReshaper", name := "findRule", desc := "(III)I" } : Jvm.MethodName)) ∈ tables_1 := mem1 160 rfl
theorem w161 : (Jvm.Cond.privateMethod ({ cls := "GrammarReshaper", name := "findRule", desc := "(III)I" } : Jvm.MethodName)) ∈ tables_1 := mem1 161 rfl
theorem w163 : (Jvm.Cond.methodLink "GrammarReshaper" (140 : Nat) ({ cls := "GrammarReshaper", name := "ruleSpanCount", desc := "(III)I" } : Jvm.MethodName)) ∈ tables_1 := mem1 163 rfl
theorem w164 : (Jvm.Cond.instanceMethod ({ cls := "GrammarReshaper", name := "ruleSpanCount", desc := "(III)I" } : Jvm.MethodName)) ∈ tables_1 := mem1 164 rfl
theorem w165 : (Jvm.Cond.privateMethod ({ cls := "GrammarReshaper", name := "ruleSpanCount", desc := "(III)I" } : Jvm.MethodName)) ∈ tables_1 := mem1 165 rfl
theorem w167 : (Jvm.Cond.methodLink "GrammarReshaper" (137 : Nat) ({ cls := "GrammarReshaper", name := "expand", desc := "(III)V" } : Jvm.MethodName)) ∈ tables_1 := mem1 167 rfl
theorem w168 : (Jvm.Cond.instanceMethod ({ cls := "GrammarReshaper", name := "expand", desc := "(III)V" } : Jvm.MethodName)) ∈ tables_1 := mem1 168 rfl
theorem w169 : (Jvm.Cond.privateMethod ({ cls := "GrammarReshaper", name := "expand", desc := "(III)V" } : Jvm.MethodName)) ∈ tables_1 := mem1 169 rfl
theorem w171 : (Jvm.Cond.methodLink "GrammarReshaper" (143 : Nat) ({ cls := "GrammarReshaper", name := "findSplit", desc := "(IIII)I" } : Jvm.MethodName)) ∈ tables_1 := mem1 171 rfl
theorem w172 : (Jvm.Cond.instanceMethod ({ cls := "GrammarReshaper", name := "findSplit", desc := "(IIII)I" } : Jvm.MethodName)) ∈ tables_1 := mem1 172 rfl
theorem w173 : (Jvm.Cond.privateMethod ({ cls := "GrammarReshaper", name := "findSplit", desc := "(IIII)I" } : Jvm.MethodName)) ∈ tables_1 := mem1 173 rfl
theorem fS_0 : K.2.1[0]? = some ("ruleCap", "I") := rfl
theorem fS_1 : K.2.1[1]? = some ("inputCap", "I") := rfl
theorem fS_2 : K.2.1[2]? = some ("state", "I") := rfl
theorem fS_3 : K.2.1[3]? = some ("nRules", "I") := rfl
theorem fS_4 : K.2.1[4]? = some ("inLen", "I") := rfl
theorem fS_5 : K.2.1[5]? = some ("result", "I") := rfl
theorem fS_6 : K.2.1[6]? = some ("derivLen", "I") := rfl
theorem fS_7 : K.2.1[7]? = some ("sp", "I") := rfl
theorem fA_0 : K.2.2[0]? = some ("heads", .int, (16 : Int32)) := rfl
theorem fA_1 : K.2.2[1]? = some ("lens", .int, (16 : Int32)) := rfl
theorem fA_2 : K.2.2[2]? = some ("syms", .int, (80 : Int32)) := rfl
theorem fA_3 : K.2.2[3]? = some ("input", .int, (16 : Int32)) := rfl
theorem fA_4 : K.2.2[4]? = some ("cnt", .int, (2312 : Int32)) := rfl
theorem fA_5 : K.2.2[5]? = some ("ways", .int, (102 : Int32)) := rfl
theorem fA_6 : K.2.2[6]? = some ("unitAdj", .int, (8 : Int32)) := rfl
theorem fA_7 : K.2.2[7]? = some ("order", .int, (8 : Int32)) := rfl
theorem fA_8 : K.2.2[8]? = some ("deriv", .int, (256 : Int32)) := rfl
theorem fA_9 : K.2.2[9]? = some ("stA", .int, (256 : Int32)) := rfl
theorem fA_10 : K.2.2[10]? = some ("stI", .int, (256 : Int32)) := rfl
theorem fA_11 : K.2.2[11]? = some ("stJ", .int, (256 : Int32)) := rfl
theorem cb_6 : (Int8.ofInt 6).toInt32 = (6 : Int32) := by decide
theorem cb_7 : (Int8.ofInt 7).toInt32 = (7 : Int32) := by decide
theorem cb_8 : (Int8.ofInt 8).toInt32 = (8 : Int32) := by decide
theorem cb_15 : (Int8.ofInt 15).toInt32 = (15 : Int32) := by decide
theorem cb_16 : (Int8.ofInt 16).toInt32 = (16 : Int32) := by decide
theorem cb_17 : (Int8.ofInt 17).toInt32 = (17 : Int32) := by decide
theorem cb_80 : (Int8.ofInt 80).toInt32 = (80 : Int32) := by decide
theorem cb_102 : (Int8.ofInt 102).toInt32 = (102 : Int32) := by decide
theorem ci_m1 : Int32.ofInt (-1) = (-1 : Int32) := by decide
theorem ci_0 : Int32.ofInt 0 = (0 : Int32) := by decide
theorem ci_1 : Int32.ofInt 1 = (1 : Int32) := by decide
theorem ci_2 : Int32.ofInt 2 = (2 : Int32) := by decide
theorem ci_3 : Int32.ofInt 3 = (3 : Int32) := by decide
theorem ci_4 : Int32.ofInt 4 = (4 : Int32) := by decide
theorem ci_5 : Int32.ofInt 5 = (5 : Int32) := by decide
theorem cs_256 : (Int16.ofInt 256).toInt32 = (256 : Int32) := by decide
theorem cs_289 : (Int16.ofInt 289).toInt32 = (289 : Int32) := by decide
theorem cs_2312 : (Int16.ofInt 2312).toInt32 = (2312 : Int32) := by decide
def B1 : Bdy := ((⟨"GrammarReshaper", "<init>", "(II)V"⟩ : MethodName), prog_1_method_1_code, 5, none, ({ frames := 1, cells := 12, slots := 3582, locals := 12 } : Room))
theorem d1_0 : DAt B1 0 (.aload_n 0) 1 1 := ⟨by decide +kernel, rfl⟩
theorem d1_1 : DAt B1 1 (.invokespecial 1) 3 4 := ⟨by decide +kernel, rfl⟩
theorem d1_4 : DAt B1 4 (.aload_n 0) 1 5 := ⟨by decide +kernel, rfl⟩
theorem d1_5 : DAt B1 5 (.bipush 16) 2 7 := ⟨by decide +kernel, rfl⟩
theorem d1_7 : DAt B1 7 (.newarray .int) 2 9 := ⟨by decide +kernel, rfl⟩
theorem d1_9 : DAt B1 9 (.putfield 7) 3 12 := ⟨by decide +kernel, rfl⟩
theorem d1_12 : DAt B1 12 (.aload_n 0) 1 13 := ⟨by decide +kernel, rfl⟩
theorem d1_13 : DAt B1 13 (.bipush 16) 2 15 := ⟨by decide +kernel, rfl⟩
theorem d1_15 : DAt B1 15 (.newarray .int) 2 17 := ⟨by decide +kernel, rfl⟩
theorem d1_17 : DAt B1 17 (.putfield 13) 3 20 := ⟨by decide +kernel, rfl⟩
theorem d1_20 : DAt B1 20 (.aload_n 0) 1 21 := ⟨by decide +kernel, rfl⟩
theorem d1_21 : DAt B1 21 (.bipush 80) 2 23 := ⟨by decide +kernel, rfl⟩
theorem d1_23 : DAt B1 23 (.newarray .int) 2 25 := ⟨by decide +kernel, rfl⟩
theorem d1_25 : DAt B1 25 (.putfield 16) 3 28 := ⟨by decide +kernel, rfl⟩
theorem d1_28 : DAt B1 28 (.aload_n 0) 1 29 := ⟨by decide +kernel, rfl⟩
theorem d1_29 : DAt B1 29 (.bipush 16) 2 31 := ⟨by decide +kernel, rfl⟩
theorem d1_31 : DAt B1 31 (.newarray .int) 2 33 := ⟨by decide +kernel, rfl⟩
theorem d1_33 : DAt B1 33 (.putfield 19) 3 36 := ⟨by decide +kernel, rfl⟩
theorem d1_36 : DAt B1 36 (.aload_n 0) 1 37 := ⟨by decide +kernel, rfl⟩
theorem d1_37 : DAt B1 37 (.sipush 2312) 3 40 := ⟨by decide +kernel, rfl⟩
theorem d1_40 : DAt B1 40 (.newarray .int) 2 42 := ⟨by decide +kernel, rfl⟩
theorem d1_42 : DAt B1 42 (.putfield 22) 3 45 := ⟨by decide +kernel, rfl⟩
theorem d1_45 : DAt B1 45 (.aload_n 0) 1 46 := ⟨by decide +kernel, rfl⟩
theorem d1_46 : DAt B1 46 (.bipush 102) 2 48 := ⟨by decide +kernel, rfl⟩
theorem d1_48 : DAt B1 48 (.newarray .int) 2 50 := ⟨by decide +kernel, rfl⟩
theorem d1_50 : DAt B1 50 (.putfield 25) 3 53 := ⟨by decide +kernel, rfl⟩
theorem d1_53 : DAt B1 53 (.aload_n 0) 1 54 := ⟨by decide +kernel, rfl⟩
theorem d1_54 : DAt B1 54 (.bipush 8) 2 56 := ⟨by decide +kernel, rfl⟩
theorem d1_56 : DAt B1 56 (.newarray .int) 2 58 := ⟨by decide +kernel, rfl⟩
theorem d1_58 : DAt B1 58 (.putfield 28) 3 61 := ⟨by decide +kernel, rfl⟩
theorem d1_61 : DAt B1 61 (.aload_n 0) 1 62 := ⟨by decide +kernel, rfl⟩
theorem d1_62 : DAt B1 62 (.bipush 8) 2 64 := ⟨by decide +kernel, rfl⟩
theorem d1_64 : DAt B1 64 (.newarray .int) 2 66 := ⟨by decide +kernel, rfl⟩
theorem d1_66 : DAt B1 66 (.putfield 31) 3 69 := ⟨by decide +kernel, rfl⟩
theorem d1_69 : DAt B1 69 (.aload_n 0) 1 70 := ⟨by decide +kernel, rfl⟩
theorem d1_70 : DAt B1 70 (.sipush 256) 3 73 := ⟨by decide +kernel, rfl⟩
theorem d1_73 : DAt B1 73 (.newarray .int) 2 75 := ⟨by decide +kernel, rfl⟩
theorem d1_75 : DAt B1 75 (.putfield 34) 3 78 := ⟨by decide +kernel, rfl⟩
theorem d1_78 : DAt B1 78 (.aload_n 0) 1 79 := ⟨by decide +kernel, rfl⟩
theorem d1_79 : DAt B1 79 (.sipush 256) 3 82 := ⟨by decide +kernel, rfl⟩
theorem d1_82 : DAt B1 82 (.newarray .int) 2 84 := ⟨by decide +kernel, rfl⟩
theorem d1_84 : DAt B1 84 (.putfield 37) 3 87 := ⟨by decide +kernel, rfl⟩
theorem d1_87 : DAt B1 87 (.aload_n 0) 1 88 := ⟨by decide +kernel, rfl⟩
theorem d1_88 : DAt B1 88 (.sipush 256) 3 91 := ⟨by decide +kernel, rfl⟩
theorem d1_91 : DAt B1 91 (.newarray .int) 2 93 := ⟨by decide +kernel, rfl⟩
theorem d1_93 : DAt B1 93 (.putfield 40) 3 96 := ⟨by decide +kernel, rfl⟩
theorem d1_96 : DAt B1 96 (.aload_n 0) 1 97 := ⟨by decide +kernel, rfl⟩
theorem d1_97 : DAt B1 97 (.sipush 256) 3 100 := ⟨by decide +kernel, rfl⟩
theorem d1_100 : DAt B1 100 (.newarray .int) 2 102 := ⟨by decide +kernel, rfl⟩
theorem d1_102 : DAt B1 102 (.putfield 43) 3 105 := ⟨by decide +kernel, rfl⟩
theorem d1_105 : DAt B1 105 (.iload_n 1) 1 106 := ⟨by decide +kernel, rfl⟩
theorem d1_106 : DAt B1 106 (.istore_n 3) 1 107 := ⟨by decide +kernel, rfl⟩
theorem d1_107 : DAt B1 107 (.iload_n 3) 1 108 := ⟨by decide +kernel, rfl⟩
theorem d1_108 : DAt B1 108 (.iconst 4) 1 109 := ⟨by decide +kernel, rfl⟩
theorem d1_109 : DAt B1 109 (.if_icmp .ge 5) 3 112 := ⟨by decide +kernel, rfl⟩
theorem d1_112 : DAt B1 112 (.iconst 4) 1 113 := ⟨by decide +kernel, rfl⟩
theorem d1_113 : DAt B1 113 (.istore_n 3) 1 114 := ⟨by decide +kernel, rfl⟩
theorem d1_114 : DAt B1 114 (.iload_n 3) 1 115 := ⟨by decide +kernel, rfl⟩
theorem d1_115 : DAt B1 115 (.bipush 16) 2 117 := ⟨by decide +kernel, rfl⟩
theorem d1_117 : DAt B1 117 (.if_icmp .le 6) 3 120 := ⟨by decide +kernel, rfl⟩
theorem d1_120 : DAt B1 120 (.bipush 16) 2 122 := ⟨by decide +kernel, rfl⟩
theorem d1_122 : DAt B1 122 (.istore_n 3) 1 123 := ⟨by decide +kernel, rfl⟩
theorem d1_123 : DAt B1 123 (.iload_n 2) 1 124 := ⟨by decide +kernel, rfl⟩
theorem d1_124 : DAt B1 124 (.istore 4) 2 126 := ⟨by decide +kernel, rfl⟩
theorem d1_126 : DAt B1 126 (.iload 4) 2 128 := ⟨by decide +kernel, rfl⟩
theorem d1_128 : DAt B1 128 (.iconst 1) 1 129 := ⟨by decide +kernel, rfl⟩
theorem d1_129 : DAt B1 129 (.if_icmp .ge 6) 3 132 := ⟨by decide +kernel, rfl⟩
theorem d1_132 : DAt B1 132 (.iconst 1) 1 133 := ⟨by decide +kernel, rfl⟩
theorem d1_133 : DAt B1 133 (.istore 4) 2 135 := ⟨by decide +kernel, rfl⟩
theorem d1_135 : DAt B1 135 (.iload 4) 2 137 := ⟨by decide +kernel, rfl⟩
theorem d1_137 : DAt B1 137 (.bipush 16) 2 139 := ⟨by decide +kernel, rfl⟩
theorem d1_139 : DAt B1 139 (.if_icmp .le 7) 3 142 := ⟨by decide +kernel, rfl⟩
theorem d1_142 : DAt B1 142 (.bipush 16) 2 144 := ⟨by decide +kernel, rfl⟩
theorem d1_144 : DAt B1 144 (.istore 4) 2 146 := ⟨by decide +kernel, rfl⟩
theorem d1_146 : DAt B1 146 (.aload_n 0) 1 147 := ⟨by decide +kernel, rfl⟩
theorem d1_147 : DAt B1 147 (.iload_n 3) 1 148 := ⟨by decide +kernel, rfl⟩
theorem d1_148 : DAt B1 148 (.putfield 46) 3 151 := ⟨by decide +kernel, rfl⟩
theorem d1_151 : DAt B1 151 (.aload_n 0) 1 152 := ⟨by decide +kernel, rfl⟩
theorem d1_152 : DAt B1 152 (.iload 4) 2 154 := ⟨by decide +kernel, rfl⟩
theorem d1_154 : DAt B1 154 (.putfield 50) 3 157 := ⟨by decide +kernel, rfl⟩
theorem d1_157 : DAt B1 157 (.aload_n 0) 1 158 := ⟨by decide +kernel, rfl⟩
theorem d1_158 : DAt B1 158 (.iconst 0) 1 159 := ⟨by decide +kernel, rfl⟩
theorem d1_159 : DAt B1 159 (.putfield 53) 3 162 := ⟨by decide +kernel, rfl⟩
theorem d1_162 : DAt B1 162 (.aload_n 0) 1 163 := ⟨by decide +kernel, rfl⟩
theorem d1_163 : DAt B1 163 (.iconst 0) 1 164 := ⟨by decide +kernel, rfl⟩
theorem d1_164 : DAt B1 164 (.putfield 56) 3 167 := ⟨by decide +kernel, rfl⟩
theorem d1_167 : DAt B1 167 (.aload_n 0) 1 168 := ⟨by decide +kernel, rfl⟩
theorem d1_168 : DAt B1 168 (.iconst 0) 1 169 := ⟨by decide +kernel, rfl⟩
theorem d1_169 : DAt B1 169 (.putfield 59) 3 172 := ⟨by decide +kernel, rfl⟩
theorem d1_172 : DAt B1 172 (.aload_n 0) 1 173 := ⟨by decide +kernel, rfl⟩
theorem d1_173 : DAt B1 173 (.iconst (-1)) 1 174 := ⟨by decide +kernel, rfl⟩
theorem d1_174 : DAt B1 174 (.putfield 62) 3 177 := ⟨by decide +kernel, rfl⟩
theorem d1_177 : DAt B1 177 (.aload_n 0) 1 178 := ⟨by decide +kernel, rfl⟩
theorem d1_178 : DAt B1 178 (.iconst 0) 1 179 := ⟨by decide +kernel, rfl⟩
theorem d1_179 : DAt B1 179 (.putfield 65) 3 182 := ⟨by decide +kernel, rfl⟩
theorem d1_182 : DAt B1 182 (.aload_n 0) 1 183 := ⟨by decide +kernel, rfl⟩
theorem d1_183 : DAt B1 183 (.iconst 0) 1 184 := ⟨by decide +kernel, rfl⟩
theorem d1_184 : DAt B1 184 (.putfield 68) 3 187 := ⟨by decide +kernel, rfl⟩
theorem d1_187 : DAt B1 187 (.return_) 1 188 := ⟨by decide +kernel, rfl⟩
def B2 : Bdy := ((⟨"GrammarReshaper", "beginRule", "(I)I"⟩ : MethodName), prog_1_method_2_code, 2, (some .int), ({ frames := 0, cells := 0, slots := 0, locals := 0 } : Room))
theorem d2_0 : DAt B2 0 (.aload_n 0) 1 1 := ⟨by decide +kernel, rfl⟩
theorem d2_1 : DAt B2 1 (.getfield 53) 3 4 := ⟨by decide +kernel, rfl⟩
theorem d2_4 : DAt B2 4 (.ifCond .eq 5) 3 7 := ⟨by decide +kernel, rfl⟩
theorem d2_7 : DAt B2 7 (.iconst 1) 1 8 := ⟨by decide +kernel, rfl⟩
theorem d2_8 : DAt B2 8 (.ireturn) 1 9 := ⟨by decide +kernel, rfl⟩
theorem d2_9 : DAt B2 9 (.iload_n 1) 1 10 := ⟨by decide +kernel, rfl⟩
theorem d2_10 : DAt B2 10 (.ifCond .lt 9) 3 13 := ⟨by decide +kernel, rfl⟩
theorem d2_13 : DAt B2 13 (.iload_n 1) 1 14 := ⟨by decide +kernel, rfl⟩
theorem d2_14 : DAt B2 14 (.bipush 7) 2 16 := ⟨by decide +kernel, rfl⟩
theorem d2_16 : DAt B2 16 (.if_icmp .le 5) 3 19 := ⟨by decide +kernel, rfl⟩
theorem d2_19 : DAt B2 19 (.iconst 2) 1 20 := ⟨by decide +kernel, rfl⟩
theorem d2_20 : DAt B2 20 (.ireturn) 1 21 := ⟨by decide +kernel, rfl⟩
theorem d2_21 : DAt B2 21 (.aload_n 0) 1 22 := ⟨by decide +kernel, rfl⟩
theorem d2_22 : DAt B2 22 (.getfield 56) 3 25 := ⟨by decide +kernel, rfl⟩
theorem d2_25 : DAt B2 25 (.aload_n 0) 1 26 := ⟨by decide +kernel, rfl⟩
theorem d2_26 : DAt B2 26 (.getfield 46) 3 29 := ⟨by decide +kernel, rfl⟩
theorem d2_29 : DAt B2 29 (.if_icmp .lt 5) 3 32 := ⟨by decide +kernel, rfl⟩
theorem d2_32 : DAt B2 32 (.iconst 3) 1 33 := ⟨by decide +kernel, rfl⟩
theorem d2_33 : DAt B2 33 (.ireturn) 1 34 := ⟨by decide +kernel, rfl⟩
theorem d2_34 : DAt B2 34 (.aload_n 0) 1 35 := ⟨by decide +kernel, rfl⟩
theorem d2_35 : DAt B2 35 (.getfield 7) 3 38 := ⟨by decide +kernel, rfl⟩
theorem d2_38 : DAt B2 38 (.aload_n 0) 1 39 := ⟨by decide +kernel, rfl⟩
theorem d2_39 : DAt B2 39 (.getfield 56) 3 42 := ⟨by decide +kernel, rfl⟩
theorem d2_42 : DAt B2 42 (.iload_n 1) 1 43 := ⟨by decide +kernel, rfl⟩
theorem d2_43 : DAt B2 43 (.iastore) 1 44 := ⟨by decide +kernel, rfl⟩
theorem d2_44 : DAt B2 44 (.aload_n 0) 1 45 := ⟨by decide +kernel, rfl⟩
theorem d2_45 : DAt B2 45 (.getfield 13) 3 48 := ⟨by decide +kernel, rfl⟩
theorem d2_48 : DAt B2 48 (.aload_n 0) 1 49 := ⟨by decide +kernel, rfl⟩
theorem d2_49 : DAt B2 49 (.getfield 56) 3 52 := ⟨by decide +kernel, rfl⟩
theorem d2_52 : DAt B2 52 (.iconst 0) 1 53 := ⟨by decide +kernel, rfl⟩
theorem d2_53 : DAt B2 53 (.iastore) 1 54 := ⟨by decide +kernel, rfl⟩
theorem d2_54 : DAt B2 54 (.aload_n 0) 1 55 := ⟨by decide +kernel, rfl⟩
theorem d2_55 : DAt B2 55 (.dup) 1 56 := ⟨by decide +kernel, rfl⟩
theorem d2_56 : DAt B2 56 (.getfield 56) 3 59 := ⟨by decide +kernel, rfl⟩
theorem d2_59 : DAt B2 59 (.iconst 1) 1 60 := ⟨by decide +kernel, rfl⟩
theorem d2_60 : DAt B2 60 (.iadd) 1 61 := ⟨by decide +kernel, rfl⟩
theorem d2_61 : DAt B2 61 (.putfield 56) 3 64 := ⟨by decide +kernel, rfl⟩
theorem d2_64 : DAt B2 64 (.iconst 0) 1 65 := ⟨by decide +kernel, rfl⟩
theorem d2_65 : DAt B2 65 (.ireturn) 1 66 := ⟨by decide +kernel, rfl⟩
def B3 : Bdy := ((⟨"GrammarReshaper", "addSymbol", "(I)I"⟩ : MethodName), prog_1_method_3_code, 3, (some .int), ({ frames := 0, cells := 0, slots := 0, locals := 0 } : Room))
theorem d3_0 : DAt B3 0 (.aload_n 0) 1 1 := ⟨by decide +kernel, rfl⟩
theorem d3_1 : DAt B3 1 (.getfield 53) 3 4 := ⟨by decide +kernel, rfl⟩
theorem d3_4 : DAt B3 4 (.ifCond .eq 5) 3 7 := ⟨by decide +kernel, rfl⟩
theorem d3_7 : DAt B3 7 (.iconst 1) 1 8 := ⟨by decide +kernel, rfl⟩
theorem d3_8 : DAt B3 8 (.ireturn) 1 9 := ⟨by decide +kernel, rfl⟩
theorem d3_9 : DAt B3 9 (.iload_n 1) 1 10 := ⟨by decide +kernel, rfl⟩
theorem d3_10 : DAt B3 10 (.ifCond .lt 9) 3 13 := ⟨by decide +kernel, rfl⟩
theorem d3_13 : DAt B3 13 (.iload_n 1) 1 14 := ⟨by decide +kernel, rfl⟩
theorem d3_14 : DAt B3 14 (.bipush 15) 2 16 := ⟨by decide +kernel, rfl⟩
theorem d3_16 : DAt B3 16 (.if_icmp .le 5) 3 19 := ⟨by decide +kernel, rfl⟩
theorem d3_19 : DAt B3 19 (.iconst 2) 1 20 := ⟨by decide +kernel, rfl⟩
theorem d3_20 : DAt B3 20 (.ireturn) 1 21 := ⟨by decide +kernel, rfl⟩
theorem d3_21 : DAt B3 21 (.aload_n 0) 1 22 := ⟨by decide +kernel, rfl⟩
theorem d3_22 : DAt B3 22 (.getfield 56) 3 25 := ⟨by decide +kernel, rfl⟩
theorem d3_25 : DAt B3 25 (.ifCond .ne 6) 3 28 := ⟨by decide +kernel, rfl⟩
theorem d3_28 : DAt B3 28 (.bipush 8) 2 30 := ⟨by decide +kernel, rfl⟩
theorem d3_30 : DAt B3 30 (.ireturn) 1 31 := ⟨by decide +kernel, rfl⟩
theorem d3_31 : DAt B3 31 (.aload_n 0) 1 32 := ⟨by decide +kernel, rfl⟩
theorem d3_32 : DAt B3 32 (.getfield 56) 3 35 := ⟨by decide +kernel, rfl⟩
theorem d3_35 : DAt B3 35 (.iconst 1) 1 36 := ⟨by decide +kernel, rfl⟩
theorem d3_36 : DAt B3 36 (.isub) 1 37 := ⟨by decide +kernel, rfl⟩
theorem d3_37 : DAt B3 37 (.istore_n 2) 1 38 := ⟨by decide +kernel, rfl⟩
theorem d3_38 : DAt B3 38 (.aload_n 0) 1 39 := ⟨by decide +kernel, rfl⟩
theorem d3_39 : DAt B3 39 (.getfield 13) 3 42 := ⟨by decide +kernel, rfl⟩
theorem d3_42 : DAt B3 42 (.iload_n 2) 1 43 := ⟨by decide +kernel, rfl⟩
theorem d3_43 : DAt B3 43 (.iaload) 1 44 := ⟨by decide +kernel, rfl⟩
theorem d3_44 : DAt B3 44 (.iconst 5) 1 45 := ⟨by decide +kernel, rfl⟩
theorem d3_45 : DAt B3 45 (.if_icmp .lt 5) 3 48 := ⟨by decide +kernel, rfl⟩
theorem d3_48 : DAt B3 48 (.iconst 3) 1 49 := ⟨by decide +kernel, rfl⟩
theorem d3_49 : DAt B3 49 (.ireturn) 1 50 := ⟨by decide +kernel, rfl⟩
theorem d3_50 : DAt B3 50 (.aload_n 0) 1 51 := ⟨by decide +kernel, rfl⟩
theorem d3_51 : DAt B3 51 (.getfield 16) 3 54 := ⟨by decide +kernel, rfl⟩
theorem d3_54 : DAt B3 54 (.iload_n 2) 1 55 := ⟨by decide +kernel, rfl⟩
theorem d3_55 : DAt B3 55 (.iconst 5) 1 56 := ⟨by decide +kernel, rfl⟩
theorem d3_56 : DAt B3 56 (.imul) 1 57 := ⟨by decide +kernel, rfl⟩
theorem d3_57 : DAt B3 57 (.aload_n 0) 1 58 := ⟨by decide +kernel, rfl⟩
theorem d3_58 : DAt B3 58 (.getfield 13) 3 61 := ⟨by decide +kernel, rfl⟩
theorem d3_61 : DAt B3 61 (.iload_n 2) 1 62 := ⟨by decide +kernel, rfl⟩
theorem d3_62 : DAt B3 62 (.iaload) 1 63 := ⟨by decide +kernel, rfl⟩
theorem d3_63 : DAt B3 63 (.iadd) 1 64 := ⟨by decide +kernel, rfl⟩
theorem d3_64 : DAt B3 64 (.iload_n 1) 1 65 := ⟨by decide +kernel, rfl⟩
theorem d3_65 : DAt B3 65 (.iastore) 1 66 := ⟨by decide +kernel, rfl⟩
theorem d3_66 : DAt B3 66 (.aload_n 0) 1 67 := ⟨by decide +kernel, rfl⟩
theorem d3_67 : DAt B3 67 (.getfield 13) 3 70 := ⟨by decide +kernel, rfl⟩
theorem d3_70 : DAt B3 70 (.iload_n 2) 1 71 := ⟨by decide +kernel, rfl⟩
theorem d3_71 : DAt B3 71 (.dup2) 1 72 := ⟨by decide +kernel, rfl⟩
theorem d3_72 : DAt B3 72 (.iaload) 1 73 := ⟨by decide +kernel, rfl⟩
theorem d3_73 : DAt B3 73 (.iconst 1) 1 74 := ⟨by decide +kernel, rfl⟩
theorem d3_74 : DAt B3 74 (.iadd) 1 75 := ⟨by decide +kernel, rfl⟩
theorem d3_75 : DAt B3 75 (.iastore) 1 76 := ⟨by decide +kernel, rfl⟩
theorem d3_76 : DAt B3 76 (.iconst 0) 1 77 := ⟨by decide +kernel, rfl⟩
theorem d3_77 : DAt B3 77 (.ireturn) 1 78 := ⟨by decide +kernel, rfl⟩
def B5 : Bdy := ((⟨"GrammarReshaper", "hasEmptyRule", "()Z"⟩ : MethodName), prog_1_method_18_code, 2, (some .boolean), ({ frames := 0, cells := 0, slots := 0, locals := 0 } : Room))
theorem d5_0 : DAt B5 0 (.iconst 0) 1 1 := ⟨by decide +kernel, rfl⟩
theorem d5_1 : DAt B5 1 (.istore_n 1) 1 2 := ⟨by decide +kernel, rfl⟩
theorem d5_2 : DAt B5 2 (.iload_n 1) 1 3 := ⟨by decide +kernel, rfl⟩
theorem d5_3 : DAt B5 3 (.aload_n 0) 1 4 := ⟨by decide +kernel, rfl⟩
theorem d5_4 : DAt B5 4 (.getfield 56) 3 7 := ⟨by decide +kernel, rfl⟩
theorem d5_7 : DAt B5 7 (.if_icmp .ge 20) 3 10 := ⟨by decide +kernel, rfl⟩
theorem d5_10 : DAt B5 10 (.aload_n 0) 1 11 := ⟨by decide +kernel, rfl⟩
theorem d5_11 : DAt B5 11 (.getfield 13) 3 14 := ⟨by decide +kernel, rfl⟩
theorem d5_14 : DAt B5 14 (.iload_n 1) 1 15 := ⟨by decide +kernel, rfl⟩
theorem d5_15 : DAt B5 15 (.iaload) 1 16 := ⟨by decide +kernel, rfl⟩
theorem d5_16 : DAt B5 16 (.ifCond .ne 5) 3 19 := ⟨by decide +kernel, rfl⟩
theorem d5_19 : DAt B5 19 (.iconst 1) 1 20 := ⟨by decide +kernel, rfl⟩
theorem d5_20 : DAt B5 20 (.ireturn) 1 21 := ⟨by decide +kernel, rfl⟩
theorem d5_21 : DAt B5 21 (.iinc 1 1) 3 24 := ⟨by decide +kernel, rfl⟩
theorem d5_24 : DAt B5 24 (.goto (-22)) 3 27 := ⟨by decide +kernel, rfl⟩
theorem d5_27 : DAt B5 27 (.iconst 0) 1 28 := ⟨by decide +kernel, rfl⟩
theorem d5_28 : DAt B5 28 (.ireturn) 1 29 := ⟨by decide +kernel, rfl⟩
def B7 : Bdy := ((⟨"GrammarReshaper", "sameRule", "(II)Z"⟩ : MethodName), prog_1_method_20_code, 4, (some .boolean), ({ frames := 0, cells := 0, slots := 0, locals := 0 } : Room))
theorem d7_0 : DAt B7 0 (.aload_n 0) 1 1 := ⟨by decide +kernel, rfl⟩
theorem d7_1 : DAt B7 1 (.getfield 7) 3 4 := ⟨by decide +kernel, rfl⟩
theorem d7_4 : DAt B7 4 (.iload_n 1) 1 5 := ⟨by decide +kernel, rfl⟩
theorem d7_5 : DAt B7 5 (.iaload) 1 6 := ⟨by decide +kernel, rfl⟩
theorem d7_6 : DAt B7 6 (.aload_n 0) 1 7 := ⟨by decide +kernel, rfl⟩
theorem d7_7 : DAt B7 7 (.getfield 7) 3 10 := ⟨by decide +kernel, rfl⟩
theorem d7_10 : DAt B7 10 (.iload_n 2) 1 11 := ⟨by decide +kernel, rfl⟩
theorem d7_11 : DAt B7 11 (.iaload) 1 12 := ⟨by decide +kernel, rfl⟩
theorem d7_12 : DAt B7 12 (.if_icmp .ne 18) 3 15 := ⟨by decide +kernel, rfl⟩
theorem d7_15 : DAt B7 15 (.aload_n 0) 1 16 := ⟨by decide +kernel, rfl⟩
theorem d7_16 : DAt B7 16 (.getfield 13) 3 19 := ⟨by decide +kernel, rfl⟩
theorem d7_19 : DAt B7 19 (.iload_n 1) 1 20 := ⟨by decide +kernel, rfl⟩
theorem d7_20 : DAt B7 20 (.iaload) 1 21 := ⟨by decide +kernel, rfl⟩
theorem d7_21 : DAt B7 21 (.aload_n 0) 1 22 := ⟨by decide +kernel, rfl⟩
theorem d7_22 : DAt B7 22 (.getfield 13) 3 25 := ⟨by decide +kernel, rfl⟩
theorem d7_25 : DAt B7 25 (.iload_n 2) 1 26 := ⟨by decide +kernel, rfl⟩
theorem d7_26 : DAt B7 26 (.iaload) 1 27 := ⟨by decide +kernel, rfl⟩
theorem d7_27 : DAt B7 27 (.if_icmp .eq 5) 3 30 := ⟨by decide +kernel, rfl⟩
theorem d7_30 : DAt B7 30 (.iconst 0) 1 31 := ⟨by decide +kernel, rfl⟩
theorem d7_31 : DAt B7 31 (.ireturn) 1 32 := ⟨by decide +kernel, rfl⟩
theorem d7_32 : DAt B7 32 (.iconst 0) 1 33 := ⟨by decide +kernel, rfl⟩
theorem d7_33 : DAt B7 33 (.istore_n 3) 1 34 := ⟨by decide +kernel, rfl⟩
theorem d7_34 : DAt B7 34 (.iload_n 3) 1 35 := ⟨by decide +kernel, rfl⟩
theorem d7_35 : DAt B7 35 (.aload_n 0) 1 36 := ⟨by decide +kernel, rfl⟩
theorem d7_36 : DAt B7 36 (.getfield 13) 3 39 := ⟨by decide +kernel, rfl⟩
theorem d7_39 : DAt B7 39 (.iload_n 1) 1 40 := ⟨by decide +kernel, rfl⟩
theorem d7_40 : DAt B7 40 (.iaload) 1 41 := ⟨by decide +kernel, rfl⟩
theorem d7_41 : DAt B7 41 (.if_icmp .ge 34) 3 44 := ⟨by decide +kernel, rfl⟩
theorem d7_44 : DAt B7 44 (.aload_n 0) 1 45 := ⟨by decide +kernel, rfl⟩
theorem d7_45 : DAt B7 45 (.getfield 16) 3 48 := ⟨by decide +kernel, rfl⟩
theorem d7_48 : DAt B7 48 (.iload_n 1) 1 49 := ⟨by decide +kernel, rfl⟩
theorem d7_49 : DAt B7 49 (.iconst 5) 1 50 := ⟨by decide +kernel, rfl⟩
theorem d7_50 : DAt B7 50 (.imul) 1 51 := ⟨by decide +kernel, rfl⟩
theorem d7_51 : DAt B7 51 (.iload_n 3) 1 52 := ⟨by decide +kernel, rfl⟩
theorem d7_52 : DAt B7 52 (.iadd) 1 53 := ⟨by decide +kernel, rfl⟩
theorem d7_53 : DAt B7 53 (.iaload) 1 54 := ⟨by decide +kernel, rfl⟩
theorem d7_54 : DAt B7 54 (.aload_n 0) 1 55 := ⟨by decide +kernel, rfl⟩
theorem d7_55 : DAt B7 55 (.getfield 16) 3 58 := ⟨by decide +kernel, rfl⟩
theorem d7_58 : DAt B7 58 (.iload_n 2) 1 59 := ⟨by decide +kernel, rfl⟩
theorem d7_59 : DAt B7 59 (.iconst 5) 1 60 := ⟨by decide +kernel, rfl⟩
theorem d7_60 : DAt B7 60 (.imul) 1 61 := ⟨by decide +kernel, rfl⟩
theorem d7_61 : DAt B7 61 (.iload_n 3) 1 62 := ⟨by decide +kernel, rfl⟩
theorem d7_62 : DAt B7 62 (.iadd) 1 63 := ⟨by decide +kernel, rfl⟩
theorem d7_63 : DAt B7 63 (.iaload) 1 64 := ⟨by decide +kernel, rfl⟩
theorem d7_64 : DAt B7 64 (.if_icmp .eq 5) 3 67 := ⟨by decide +kernel, rfl⟩
theorem d7_67 : DAt B7 67 (.iconst 0) 1 68 := ⟨by decide +kernel, rfl⟩
theorem d7_68 : DAt B7 68 (.ireturn) 1 69 := ⟨by decide +kernel, rfl⟩
theorem d7_69 : DAt B7 69 (.iinc 3 1) 3 72 := ⟨by decide +kernel, rfl⟩
theorem d7_72 : DAt B7 72 (.goto (-38)) 3 75 := ⟨by decide +kernel, rfl⟩
theorem d7_75 : DAt B7 75 (.iconst 1) 1 76 := ⟨by decide +kernel, rfl⟩
theorem d7_76 : DAt B7 76 (.ireturn) 1 77 := ⟨by decide +kernel, rfl⟩
def B6 : Bdy := ((⟨"GrammarReshaper", "hasDuplicate", "()Z"⟩ : MethodName), prog_1_method_19_code, 3, (some .boolean), ({ frames := 1, cells := 0, slots := 0, locals := 15 } : Room))
theorem d6_0 : DAt B6 0 (.iconst 0) 1 1 := ⟨by decide +kernel, rfl⟩
theorem d6_1 : DAt B6 1 (.istore_n 1) 1 2 := ⟨by decide +kernel, rfl⟩
theorem d6_2 : DAt B6 2 (.iload_n 1) 1 3 := ⟨by decide +kernel, rfl⟩
theorem d6_3 : DAt B6 3 (.aload_n 0) 1 4 := ⟨by decide +kernel, rfl⟩
theorem d6_4 : DAt B6 4 (.getfield 56) 3 7 := ⟨by decide +kernel, rfl⟩
theorem d6_7 : DAt B6 7 (.if_icmp .ge 38) 3 10 := ⟨by decide +kernel, rfl⟩
theorem d6_10 : DAt B6 10 (.iload_n 1) 1 11 := ⟨by decide +kernel, rfl⟩
theorem d6_11 : DAt B6 11 (.iconst 1) 1 12 := ⟨by decide +kernel, rfl⟩
theorem d6_12 : DAt B6 12 (.iadd) 1 13 := ⟨by decide +kernel, rfl⟩
theorem d6_13 : DAt B6 13 (.istore_n 2) 1 14 := ⟨by decide +kernel, rfl⟩
theorem d6_14 : DAt B6 14 (.iload_n 2) 1 15 := ⟨by decide +kernel, rfl⟩
theorem d6_15 : DAt B6 15 (.aload_n 0) 1 16 := ⟨by decide +kernel, rfl⟩
theorem d6_16 : DAt B6 16 (.getfield 56) 3 19 := ⟨by decide +kernel, rfl⟩
theorem d6_19 : DAt B6 19 (.if_icmp .ge 20) 3 22 := ⟨by decide +kernel, rfl⟩
theorem d6_22 : DAt B6 22 (.aload_n 0) 1 23 := ⟨by decide +kernel, rfl⟩
theorem d6_23 : DAt B6 23 (.iload_n 1) 1 24 := ⟨by decide +kernel, rfl⟩
theorem d6_24 : DAt B6 24 (.iload_n 2) 1 25 := ⟨by decide +kernel, rfl⟩
theorem d6_25 : DAt B6 25 (.invokevirtual 95) 3 28 := ⟨by decide +kernel, rfl⟩
theorem d6_28 : DAt B6 28 (.ifCond .eq 5) 3 31 := ⟨by decide +kernel, rfl⟩
theorem d6_31 : DAt B6 31 (.iconst 1) 1 32 := ⟨by decide +kernel, rfl⟩
theorem d6_32 : DAt B6 32 (.ireturn) 1 33 := ⟨by decide +kernel, rfl⟩
theorem d6_33 : DAt B6 33 (.iinc 2 1) 3 36 := ⟨by decide +kernel, rfl⟩
theorem d6_36 : DAt B6 36 (.goto (-22)) 3 39 := ⟨by decide +kernel, rfl⟩
theorem d6_39 : DAt B6 39 (.iinc 1 1) 3 42 := ⟨by decide +kernel, rfl⟩
theorem d6_42 : DAt B6 42 (.goto (-40)) 3 45 := ⟨by decide +kernel, rfl⟩
theorem d6_45 : DAt B6 45 (.iconst 0) 1 46 := ⟨by decide +kernel, rfl⟩
theorem d6_46 : DAt B6 46 (.ireturn) 1 47 := ⟨by decide +kernel, rfl⟩
def B9 : Bdy := ((⟨"GrammarReshaper", "isUnit", "(I)Z"⟩ : MethodName), prog_1_method_21_code, 2, (some .boolean), ({ frames := 0, cells := 0, slots := 0, locals := 0 } : Room))
theorem d9_0 : DAt B9 0 (.aload_n 0) 1 1 := ⟨by decide +kernel, rfl⟩
theorem d9_1 : DAt B9 1 (.getfield 13) 3 4 := ⟨by decide +kernel, rfl⟩
theorem d9_4 : DAt B9 4 (.iload_n 1) 1 5 := ⟨by decide +kernel, rfl⟩
theorem d9_5 : DAt B9 5 (.iaload) 1 6 := ⟨by decide +kernel, rfl⟩
theorem d9_6 : DAt B9 6 (.iconst 1) 1 7 := ⟨by decide +kernel, rfl⟩
theorem d9_7 : DAt B9 7 (.if_icmp .ne 20) 3 10 := ⟨by decide +kernel, rfl⟩
theorem d9_10 : DAt B9 10 (.aload_n 0) 1 11 := ⟨by decide +kernel, rfl⟩
theorem d9_11 : DAt B9 11 (.getfield 16) 3 14 := ⟨by decide +kernel, rfl⟩
theorem d9_14 : DAt B9 14 (.iload_n 1) 1 15 := ⟨by decide +kernel, rfl⟩
theorem d9_15 : DAt B9 15 (.iconst 5) 1 16 := ⟨by decide +kernel, rfl⟩
theorem d9_16 : DAt B9 16 (.imul) 1 17 := ⟨by decide +kernel, rfl⟩
theorem d9_17 : DAt B9 17 (.iaload) 1 18 := ⟨by decide +kernel, rfl⟩
theorem d9_18 : DAt B9 18 (.bipush 8) 2 20 := ⟨by decide +kernel, rfl⟩
theorem d9_20 : DAt B9 20 (.if_icmp .ge 7) 3 23 := ⟨by decide +kernel, rfl⟩
theorem d9_23 : DAt B9 23 (.iconst 1) 1 24 := ⟨by decide +kernel, rfl⟩
theorem d9_24 : DAt B9 24 (.goto 4) 3 27 := ⟨by decide +kernel, rfl⟩
theorem d9_27 : DAt B9 27 (.iconst 0) 1 28 := ⟨by decide +kernel, rfl⟩
theorem d9_28 : DAt B9 28 (.ireturn) 1 29 := ⟨by decide +kernel, rfl⟩
def B8 : Bdy := ((⟨"GrammarReshaper", "computeOrder", "()Z"⟩ : MethodName), prog_1_method_22_code, 5, (some .boolean), ({ frames := 1, cells := 0, slots := 0, locals := 13 } : Room))
theorem d8_0 : DAt B8 0 (.iconst 0) 1 1 := ⟨by decide +kernel, rfl⟩
theorem d8_1 : DAt B8 1 (.istore_n 1) 1 2 := ⟨by decide +kernel, rfl⟩
theorem d8_2 : DAt B8 2 (.iload_n 1) 1 3 := ⟨by decide +kernel, rfl⟩
theorem d8_3 : DAt B8 3 (.bipush 8) 2 5 := ⟨by decide +kernel, rfl⟩
theorem d8_5 : DAt B8 5 (.if_icmp .ge 16) 3 8 := ⟨by decide +kernel, rfl⟩
theorem d8_8 : DAt B8 8 (.aload_n 0) 1 9 := ⟨by decide +kernel, rfl⟩
theorem d8_9 : DAt B8 9 (.getfield 28) 3 12 := ⟨by decide +kernel, rfl⟩
theorem d8_12 : DAt B8 12 (.iload_n 1) 1 13 := ⟨by decide +kernel, rfl⟩
theorem d8_13 : DAt B8 13 (.iconst 0) 1 14 := ⟨by decide +kernel, rfl⟩
theorem d8_14 : DAt B8 14 (.iastore) 1 15 := ⟨by decide +kernel, rfl⟩
theorem d8_15 : DAt B8 15 (.iinc 1 1) 3 18 := ⟨by decide +kernel, rfl⟩
theorem d8_18 : DAt B8 18 (.goto (-16)) 3 21 := ⟨by decide +kernel, rfl⟩
theorem d8_21 : DAt B8 21 (.iconst 0) 1 22 := ⟨by decide +kernel, rfl⟩
theorem d8_22 : DAt B8 22 (.istore_n 1) 1 23 := ⟨by decide +kernel, rfl⟩
theorem d8_23 : DAt B8 23 (.iload_n 1) 1 24 := ⟨by decide +kernel, rfl⟩
theorem d8_24 : DAt B8 24 (.aload_n 0) 1 25 := ⟨by decide +kernel, rfl⟩
theorem d8_25 : DAt B8 25 (.getfield 56) 3 28 := ⟨by decide +kernel, rfl⟩
theorem d8_28 : DAt B8 28 (.if_icmp .ge 50) 3 31 := ⟨by decide +kernel, rfl⟩
theorem d8_31 : DAt B8 31 (.aload_n 0) 1 32 := ⟨by decide +kernel, rfl⟩
theorem d8_32 : DAt B8 32 (.iload_n 1) 1 33 := ⟨by decide +kernel, rfl⟩
theorem d8_33 : DAt B8 33 (.invokevirtual 99) 3 36 := ⟨by decide +kernel, rfl⟩
theorem d8_36 : DAt B8 36 (.ifCond .eq 36) 3 39 := ⟨by decide +kernel, rfl⟩
theorem d8_39 : DAt B8 39 (.aload_n 0) 1 40 := ⟨by decide +kernel, rfl⟩
theorem d8_40 : DAt B8 40 (.getfield 28) 3 43 := ⟨by decide +kernel, rfl⟩
theorem d8_43 : DAt B8 43 (.aload_n 0) 1 44 := ⟨by decide +kernel, rfl⟩
theorem d8_44 : DAt B8 44 (.getfield 7) 3 47 := ⟨by decide +kernel, rfl⟩
theorem d8_47 : DAt B8 47 (.iload_n 1) 1 48 := ⟨by decide +kernel, rfl⟩
theorem d8_48 : DAt B8 48 (.iaload) 1 49 := ⟨by decide +kernel, rfl⟩
theorem d8_49 : DAt B8 49 (.aload_n 0) 1 50 := ⟨by decide +kernel, rfl⟩
theorem d8_50 : DAt B8 50 (.getfield 28) 3 53 := ⟨by decide +kernel, rfl⟩
theorem d8_53 : DAt B8 53 (.aload_n 0) 1 54 := ⟨by decide +kernel, rfl⟩
theorem d8_54 : DAt B8 54 (.getfield 7) 3 57 := ⟨by decide +kernel, rfl⟩
theorem d8_57 : DAt B8 57 (.iload_n 1) 1 58 := ⟨by decide +kernel, rfl⟩
theorem d8_58 : DAt B8 58 (.iaload) 1 59 := ⟨by decide +kernel, rfl⟩
theorem d8_59 : DAt B8 59 (.iaload) 1 60 := ⟨by decide +kernel, rfl⟩
theorem d8_60 : DAt B8 60 (.iconst 1) 1 61 := ⟨by decide +kernel, rfl⟩
theorem d8_61 : DAt B8 61 (.aload_n 0) 1 62 := ⟨by decide +kernel, rfl⟩
theorem d8_62 : DAt B8 62 (.getfield 16) 3 65 := ⟨by decide +kernel, rfl⟩
theorem d8_65 : DAt B8 65 (.iload_n 1) 1 66 := ⟨by decide +kernel, rfl⟩
theorem d8_66 : DAt B8 66 (.iconst 5) 1 67 := ⟨by decide +kernel, rfl⟩
theorem d8_67 : DAt B8 67 (.imul) 1 68 := ⟨by decide +kernel, rfl⟩
theorem d8_68 : DAt B8 68 (.iaload) 1 69 := ⟨by decide +kernel, rfl⟩
theorem d8_69 : DAt B8 69 (.ishl) 1 70 := ⟨by decide +kernel, rfl⟩
theorem d8_70 : DAt B8 70 (.ior) 1 71 := ⟨by decide +kernel, rfl⟩
theorem d8_71 : DAt B8 71 (.iastore) 1 72 := ⟨by decide +kernel, rfl⟩
theorem d8_72 : DAt B8 72 (.iinc 1 1) 3 75 := ⟨by decide +kernel, rfl⟩
theorem d8_75 : DAt B8 75 (.goto (-52)) 3 78 := ⟨by decide +kernel, rfl⟩
theorem d8_78 : DAt B8 78 (.iconst 0) 1 79 := ⟨by decide +kernel, rfl⟩
theorem d8_79 : DAt B8 79 (.istore_n 1) 1 80 := ⟨by decide +kernel, rfl⟩
theorem d8_80 : DAt B8 80 (.iconst 0) 1 81 := ⟨by decide +kernel, rfl⟩
theorem d8_81 : DAt B8 81 (.istore_n 2) 1 82 := ⟨by decide +kernel, rfl⟩
theorem d8_82 : DAt B8 82 (.iconst 0) 1 83 := ⟨by decide +kernel, rfl⟩
theorem d8_83 : DAt B8 83 (.istore_n 3) 1 84 := ⟨by decide +kernel, rfl⟩
theorem d8_84 : DAt B8 84 (.iload_n 3) 1 85 := ⟨by decide +kernel, rfl⟩
theorem d8_85 : DAt B8 85 (.bipush 8) 2 87 := ⟨by decide +kernel, rfl⟩
theorem d8_87 : DAt B8 87 (.if_icmp .ge 72) 3 90 := ⟨by decide +kernel, rfl⟩
theorem d8_90 : DAt B8 90 (.iconst 0) 1 91 := ⟨by decide +kernel, rfl⟩
theorem d8_91 : DAt B8 91 (.istore 4) 2 93 := ⟨by decide +kernel, rfl⟩
theorem d8_93 : DAt B8 93 (.iload 4) 2 95 := ⟨by decide +kernel, rfl⟩
theorem d8_95 : DAt B8 95 (.bipush 8) 2 97 := ⟨by decide +kernel, rfl⟩
theorem d8_97 : DAt B8 97 (.if_icmp .ge 56) 3 100 := ⟨by decide +kernel, rfl⟩
theorem d8_100 : DAt B8 100 (.iload_n 1) 1 101 := ⟨by decide +kernel, rfl⟩
theorem d8_101 : DAt B8 101 (.iload 4) 2 103 := ⟨by decide +kernel, rfl⟩
theorem d8_103 : DAt B8 103 (.ishr) 1 104 := ⟨by decide +kernel, rfl⟩
theorem d8_104 : DAt B8 104 (.iconst 1) 1 105 := ⟨by decide +kernel, rfl⟩
theorem d8_105 : DAt B8 105 (.iand) 1 106 := ⟨by decide +kernel, rfl⟩
theorem d8_106 : DAt B8 106 (.ifCond .ne 41) 3 109 := ⟨by decide +kernel, rfl⟩
theorem d8_109 : DAt B8 109 (.aload_n 0) 1 110 := ⟨by decide +kernel, rfl⟩
theorem d8_110 : DAt B8 110 (.getfield 28) 3 113 := ⟨by decide +kernel, rfl⟩
theorem d8_113 : DAt B8 113 (.iload 4) 2 115 := ⟨by decide +kernel, rfl⟩
theorem d8_115 : DAt B8 115 (.iaload) 1 116 := ⟨by decide +kernel, rfl⟩
theorem d8_116 : DAt B8 116 (.iload_n 1) 1 117 := ⟨by decide +kernel, rfl⟩
theorem d8_117 : DAt B8 117 (.iconst (-1)) 1 118 := ⟨by decide +kernel, rfl⟩
theorem d8_118 : DAt B8 118 (.ixor) 1 119 := ⟨by decide +kernel, rfl⟩
theorem d8_119 : DAt B8 119 (.iand) 1 120 := ⟨by decide +kernel, rfl⟩
theorem d8_120 : DAt B8 120 (.ifCond .ne 27) 3 123 := ⟨by decide +kernel, rfl⟩
theorem d8_123 : DAt B8 123 (.iload_n 2) 1 124 := ⟨by decide +kernel, rfl⟩
theorem d8_124 : DAt B8 124 (.bipush 8) 2 126 := ⟨by decide +kernel, rfl⟩
theorem d8_126 : DAt B8 126 (.if_icmp .ge 21) 3 129 := ⟨by decide +kernel, rfl⟩
theorem d8_129 : DAt B8 129 (.iload_n 1) 1 130 := ⟨by decide +kernel, rfl⟩
theorem d8_130 : DAt B8 130 (.iconst 1) 1 131 := ⟨by decide +kernel, rfl⟩
theorem d8_131 : DAt B8 131 (.iload 4) 2 133 := ⟨by decide +kernel, rfl⟩
theorem d8_133 : DAt B8 133 (.ishl) 1 134 := ⟨by decide +kernel, rfl⟩
theorem d8_134 : DAt B8 134 (.ior) 1 135 := ⟨by decide +kernel, rfl⟩
theorem d8_135 : DAt B8 135 (.istore_n 1) 1 136 := ⟨by decide +kernel, rfl⟩
theorem d8_136 : DAt B8 136 (.aload_n 0) 1 137 := ⟨by decide +kernel, rfl⟩
theorem d8_137 : DAt B8 137 (.getfield 31) 3 140 := ⟨by decide +kernel, rfl⟩
theorem d8_140 : DAt B8 140 (.iload_n 2) 1 141 := ⟨by decide +kernel, rfl⟩
theorem d8_141 : DAt B8 141 (.iload 4) 2 143 := ⟨by decide +kernel, rfl⟩
theorem d8_143 : DAt B8 143 (.iastore) 1 144 := ⟨by decide +kernel, rfl⟩
theorem d8_144 : DAt B8 144 (.iinc 2 1) 3 147 := ⟨by decide +kernel, rfl⟩
theorem d8_147 : DAt B8 147 (.iinc 4 1) 3 150 := ⟨by decide +kernel, rfl⟩
theorem d8_150 : DAt B8 150 (.goto (-57)) 3 153 := ⟨by decide +kernel, rfl⟩
theorem d8_153 : DAt B8 153 (.iinc 3 1) 3 156 := ⟨by decide +kernel, rfl⟩
theorem d8_156 : DAt B8 156 (.goto (-72)) 3 159 := ⟨by decide +kernel, rfl⟩
theorem d8_159 : DAt B8 159 (.iload_n 2) 1 160 := ⟨by decide +kernel, rfl⟩
theorem d8_160 : DAt B8 160 (.bipush 8) 2 162 := ⟨by decide +kernel, rfl⟩
theorem d8_162 : DAt B8 162 (.if_icmp .ne 7) 3 165 := ⟨by decide +kernel, rfl⟩
theorem d8_165 : DAt B8 165 (.iconst 1) 1 166 := ⟨by decide +kernel, rfl⟩
theorem d8_166 : DAt B8 166 (.goto 4) 3 169 := ⟨by decide +kernel, rfl⟩
theorem d8_169 : DAt B8 169 (.iconst 0) 1 170 := ⟨by decide +kernel, rfl⟩
theorem d8_170 : DAt B8 170 (.ireturn) 1 171 := ⟨by decide +kernel, rfl⟩
def B4 : Bdy := ((⟨"GrammarReshaper", "reshape", "()I"⟩ : MethodName), prog_1_method_4_code, 1, (some .int), ({ frames := 2, cells := 0, slots := 0, locals := 29 } : Room))
theorem d4_0 : DAt B4 0 (.aload_n 0) 1 1 := ⟨by decide +kernel, rfl⟩
theorem d4_1 : DAt B4 1 (.getfield 53) 3 4 := ⟨by decide +kernel, rfl⟩
theorem d4_4 : DAt B4 4 (.ifCond .eq 5) 3 7 := ⟨by decide +kernel, rfl⟩
theorem d4_7 : DAt B4 7 (.iconst 1) 1 8 := ⟨by decide +kernel, rfl⟩
theorem d4_8 : DAt B4 8 (.ireturn) 1 9 := ⟨by decide +kernel, rfl⟩
theorem d4_9 : DAt B4 9 (.aload_n 0) 1 10 := ⟨by decide +kernel, rfl⟩
theorem d4_10 : DAt B4 10 (.getfield 56) 3 13 := ⟨by decide +kernel, rfl⟩
theorem d4_13 : DAt B4 13 (.ifCond .ne 5) 3 16 := ⟨by decide +kernel, rfl⟩
theorem d4_16 : DAt B4 16 (.iconst 4) 1 17 := ⟨by decide +kernel, rfl⟩
theorem d4_17 : DAt B4 17 (.ireturn) 1 18 := ⟨by decide +kernel, rfl⟩
theorem d4_18 : DAt B4 18 (.aload_n 0) 1 19 := ⟨by decide +kernel, rfl⟩
theorem d4_19 : DAt B4 19 (.invokevirtual 71) 3 22 := ⟨by decide +kernel, rfl⟩
theorem d4_22 : DAt B4 22 (.ifCond .eq 5) 3 25 := ⟨by decide +kernel, rfl⟩
theorem d4_25 : DAt B4 25 (.iconst 5) 1 26 := ⟨by decide +kernel, rfl⟩
theorem d4_26 : DAt B4 26 (.ireturn) 1 27 := ⟨by decide +kernel, rfl⟩
theorem d4_27 : DAt B4 27 (.aload_n 0) 1 28 := ⟨by decide +kernel, rfl⟩
theorem d4_28 : DAt B4 28 (.invokevirtual 75) 3 31 := ⟨by decide +kernel, rfl⟩
theorem d4_31 : DAt B4 31 (.ifCond .eq 6) 3 34 := ⟨by decide +kernel, rfl⟩
theorem d4_34 : DAt B4 34 (.bipush 6) 2 36 := ⟨by decide +kernel, rfl⟩
theorem d4_36 : DAt B4 36 (.ireturn) 1 37 := ⟨by decide +kernel, rfl⟩
theorem d4_37 : DAt B4 37 (.aload_n 0) 1 38 := ⟨by decide +kernel, rfl⟩
theorem d4_38 : DAt B4 38 (.invokevirtual 78) 3 41 := ⟨by decide +kernel, rfl⟩
theorem d4_41 : DAt B4 41 (.ifCond .ne 6) 3 44 := ⟨by decide +kernel, rfl⟩
theorem d4_44 : DAt B4 44 (.bipush 7) 2 46 := ⟨by decide +kernel, rfl⟩
theorem d4_46 : DAt B4 46 (.ireturn) 1 47 := ⟨by decide +kernel, rfl⟩
theorem d4_47 : DAt B4 47 (.aload_n 0) 1 48 := ⟨by decide +kernel, rfl⟩
theorem d4_48 : DAt B4 48 (.iconst 1) 1 49 := ⟨by decide +kernel, rfl⟩
theorem d4_49 : DAt B4 49 (.putfield 53) 3 52 := ⟨by decide +kernel, rfl⟩
theorem d4_52 : DAt B4 52 (.aload_n 0) 1 53 := ⟨by decide +kernel, rfl⟩
theorem d4_53 : DAt B4 53 (.iconst 0) 1 54 := ⟨by decide +kernel, rfl⟩
theorem d4_54 : DAt B4 54 (.putfield 59) 3 57 := ⟨by decide +kernel, rfl⟩
theorem d4_57 : DAt B4 57 (.aload_n 0) 1 58 := ⟨by decide +kernel, rfl⟩
theorem d4_58 : DAt B4 58 (.iconst (-1)) 1 59 := ⟨by decide +kernel, rfl⟩
theorem d4_59 : DAt B4 59 (.putfield 62) 3 62 := ⟨by decide +kernel, rfl⟩
theorem d4_62 : DAt B4 62 (.aload_n 0) 1 63 := ⟨by decide +kernel, rfl⟩
theorem d4_63 : DAt B4 63 (.iconst 0) 1 64 := ⟨by decide +kernel, rfl⟩
theorem d4_64 : DAt B4 64 (.putfield 65) 3 67 := ⟨by decide +kernel, rfl⟩
theorem d4_67 : DAt B4 67 (.iconst 0) 1 68 := ⟨by decide +kernel, rfl⟩
theorem d4_68 : DAt B4 68 (.ireturn) 1 69 := ⟨by decide +kernel, rfl⟩
def B10 : Bdy := ((⟨"GrammarReshaper", "feed", "(I)I"⟩ : MethodName), prog_1_method_7_code, 2, (some .int), ({ frames := 0, cells := 0, slots := 0, locals := 0 } : Room))
theorem d10_0 : DAt B10 0 (.aload_n 0) 1 1 := ⟨by decide +kernel, rfl⟩
theorem d10_1 : DAt B10 1 (.getfield 53) 3 4 := ⟨by decide +kernel, rfl⟩
theorem d10_4 : DAt B10 4 (.iconst 1) 1 5 := ⟨by decide +kernel, rfl⟩
theorem d10_5 : DAt B10 5 (.if_icmp .eq 5) 3 8 := ⟨by decide +kernel, rfl⟩
theorem d10_8 : DAt B10 8 (.iconst 1) 1 9 := ⟨by decide +kernel, rfl⟩
theorem d10_9 : DAt B10 9 (.ireturn) 1 10 := ⟨by decide +kernel, rfl⟩
theorem d10_10 : DAt B10 10 (.iload_n 1) 1 11 := ⟨by decide +kernel, rfl⟩
theorem d10_11 : DAt B10 11 (.ifCond .lt 9) 3 14 := ⟨by decide +kernel, rfl⟩
theorem d10_14 : DAt B10 14 (.iload_n 1) 1 15 := ⟨by decide +kernel, rfl⟩
theorem d10_15 : DAt B10 15 (.bipush 7) 2 17 := ⟨by decide +kernel, rfl⟩
theorem d10_17 : DAt B10 17 (.if_icmp .le 5) 3 20 := ⟨by decide +kernel, rfl⟩
theorem d10_20 : DAt B10 20 (.iconst 2) 1 21 := ⟨by decide +kernel, rfl⟩
theorem d10_21 : DAt B10 21 (.ireturn) 1 22 := ⟨by decide +kernel, rfl⟩
theorem d10_22 : DAt B10 22 (.aload_n 0) 1 23 := ⟨by decide +kernel, rfl⟩
theorem d10_23 : DAt B10 23 (.getfield 59) 3 26 := ⟨by decide +kernel, rfl⟩
theorem d10_26 : DAt B10 26 (.aload_n 0) 1 27 := ⟨by decide +kernel, rfl⟩
theorem d10_27 : DAt B10 27 (.getfield 50) 3 30 := ⟨by decide +kernel, rfl⟩
theorem d10_30 : DAt B10 30 (.if_icmp .lt 5) 3 33 := ⟨by decide +kernel, rfl⟩
theorem d10_33 : DAt B10 33 (.iconst 3) 1 34 := ⟨by decide +kernel, rfl⟩
theorem d10_34 : DAt B10 34 (.ireturn) 1 35 := ⟨by decide +kernel, rfl⟩
theorem d10_35 : DAt B10 35 (.aload_n 0) 1 36 := ⟨by decide +kernel, rfl⟩
theorem d10_36 : DAt B10 36 (.getfield 19) 3 39 := ⟨by decide +kernel, rfl⟩
theorem d10_39 : DAt B10 39 (.aload_n 0) 1 40 := ⟨by decide +kernel, rfl⟩
theorem d10_40 : DAt B10 40 (.getfield 59) 3 43 := ⟨by decide +kernel, rfl⟩
theorem d10_43 : DAt B10 43 (.iload_n 1) 1 44 := ⟨by decide +kernel, rfl⟩
theorem d10_44 : DAt B10 44 (.iastore) 1 45 := ⟨by decide +kernel, rfl⟩
theorem d10_45 : DAt B10 45 (.aload_n 0) 1 46 := ⟨by decide +kernel, rfl⟩
theorem d10_46 : DAt B10 46 (.dup) 1 47 := ⟨by decide +kernel, rfl⟩
theorem d10_47 : DAt B10 47 (.getfield 59) 3 50 := ⟨by decide +kernel, rfl⟩
theorem d10_50 : DAt B10 50 (.iconst 1) 1 51 := ⟨by decide +kernel, rfl⟩
theorem d10_51 : DAt B10 51 (.iadd) 1 52 := ⟨by decide +kernel, rfl⟩
theorem d10_52 : DAt B10 52 (.putfield 59) 3 55 := ⟨by decide +kernel, rfl⟩
theorem d10_55 : DAt B10 55 (.aload_n 0) 1 56 := ⟨by decide +kernel, rfl⟩
theorem d10_56 : DAt B10 56 (.iconst (-1)) 1 57 := ⟨by decide +kernel, rfl⟩
theorem d10_57 : DAt B10 57 (.putfield 62) 3 60 := ⟨by decide +kernel, rfl⟩
theorem d10_60 : DAt B10 60 (.aload_n 0) 1 61 := ⟨by decide +kernel, rfl⟩
theorem d10_61 : DAt B10 61 (.iconst 0) 1 62 := ⟨by decide +kernel, rfl⟩
theorem d10_62 : DAt B10 62 (.putfield 65) 3 65 := ⟨by decide +kernel, rfl⟩
theorem d10_65 : DAt B10 65 (.iconst 0) 1 66 := ⟨by decide +kernel, rfl⟩
theorem d10_66 : DAt B10 66 (.ireturn) 1 67 := ⟨by decide +kernel, rfl⟩
def B14 : Bdy := ((⟨"GrammarReshaper", "idx", "(III)I"⟩ : MethodName), prog_1_method_23_code, 4, (some .int), ({ frames := 0, cells := 0, slots := 0, locals := 0 } : Room))
theorem d14_0 : DAt B14 0 (.iload_n 1) 1 1 := ⟨by decide +kernel, rfl⟩
theorem d14_1 : DAt B14 1 (.sipush 289) 3 4 := ⟨by decide +kernel, rfl⟩
theorem d14_4 : DAt B14 4 (.imul) 1 5 := ⟨by decide +kernel, rfl⟩
theorem d14_5 : DAt B14 5 (.iload_n 2) 1 6 := ⟨by decide +kernel, rfl⟩
theorem d14_6 : DAt B14 6 (.bipush 17) 2 8 := ⟨by decide +kernel, rfl⟩
theorem d14_8 : DAt B14 8 (.imul) 1 9 := ⟨by decide +kernel, rfl⟩
theorem d14_9 : DAt B14 9 (.iadd) 1 10 := ⟨by decide +kernel, rfl⟩
theorem d14_10 : DAt B14 10 (.iload_n 3) 1 11 := ⟨by decide +kernel, rfl⟩
theorem d14_11 : DAt B14 11 (.iadd) 1 12 := ⟨by decide +kernel, rfl⟩
theorem d14_12 : DAt B14 12 (.ireturn) 1 13 := ⟨by decide +kernel, rfl⟩
def B19 : Bdy := ((⟨"GrammarReshaper", "symCount", "(III)I"⟩ : MethodName), prog_1_method_29_code, 4, (some .int), ({ frames := 1, cells := 0, slots := 0, locals := 16 } : Room))
theorem d19_0 : DAt B19 0 (.iload_n 2) 1 1 := ⟨by decide +kernel, rfl⟩
theorem d19_1 : DAt B19 1 (.ifCond .lt 20) 3 4 := ⟨by decide +kernel, rfl⟩
theorem d19_4 : DAt B19 4 (.iload_n 2) 1 5 := ⟨by decide +kernel, rfl⟩
theorem d19_5 : DAt B19 5 (.bipush 15) 2 7 := ⟨by decide +kernel, rfl⟩
theorem d19_7 : DAt B19 7 (.if_icmp .gt 14) 3 10 := ⟨by decide +kernel, rfl⟩
theorem d19_10 : DAt B19 10 (.iload_n 3) 1 11 := ⟨by decide +kernel, rfl⟩
theorem d19_11 : DAt B19 11 (.iconst 1) 1 12 := ⟨by decide +kernel, rfl⟩
theorem d19_12 : DAt B19 12 (.if_icmp .lt 9) 3 15 := ⟨by decide +kernel, rfl⟩
theorem d19_15 : DAt B19 15 (.iload_n 3) 1 16 := ⟨by decide +kernel, rfl⟩
theorem d19_16 : DAt B19 16 (.bipush 16) 2 18 := ⟨by decide +kernel, rfl⟩
theorem d19_18 : DAt B19 18 (.if_icmp .le 5) 3 21 := ⟨by decide +kernel, rfl⟩
theorem d19_21 : DAt B19 21 (.iconst 0) 1 22 := ⟨by decide +kernel, rfl⟩
theorem d19_22 : DAt B19 22 (.ireturn) 1 23 := ⟨by decide +kernel, rfl⟩
theorem d19_23 : DAt B19 23 (.iload_n 1) 1 24 := ⟨by decide +kernel, rfl⟩
theorem d19_24 : DAt B19 24 (.bipush 8) 2 26 := ⟨by decide +kernel, rfl⟩
theorem d19_26 : DAt B19 26 (.if_icmp .lt 29) 3 29 := ⟨by decide +kernel, rfl⟩
theorem d19_29 : DAt B19 29 (.iload_n 3) 1 30 := ⟨by decide +kernel, rfl⟩
theorem d19_30 : DAt B19 30 (.iload_n 2) 1 31 := ⟨by decide +kernel, rfl⟩
theorem d19_31 : DAt B19 31 (.iconst 1) 1 32 := ⟨by decide +kernel, rfl⟩
theorem d19_32 : DAt B19 32 (.iadd) 1 33 := ⟨by decide +kernel, rfl⟩
theorem d19_33 : DAt B19 33 (.if_icmp .ne 20) 3 36 := ⟨by decide +kernel, rfl⟩
theorem d19_36 : DAt B19 36 (.aload_n 0) 1 37 := ⟨by decide +kernel, rfl⟩
theorem d19_37 : DAt B19 37 (.getfield 19) 3 40 := ⟨by decide +kernel, rfl⟩
theorem d19_40 : DAt B19 40 (.iload_n 2) 1 41 := ⟨by decide +kernel, rfl⟩
theorem d19_41 : DAt B19 41 (.iaload) 1 42 := ⟨by decide +kernel, rfl⟩
theorem d19_42 : DAt B19 42 (.iload_n 1) 1 43 := ⟨by decide +kernel, rfl⟩
theorem d19_43 : DAt B19 43 (.bipush 8) 2 45 := ⟨by decide +kernel, rfl⟩
theorem d19_45 : DAt B19 45 (.isub) 1 46 := ⟨by decide +kernel, rfl⟩
theorem d19_46 : DAt B19 46 (.if_icmp .ne 7) 3 49 := ⟨by decide +kernel, rfl⟩
theorem d19_49 : DAt B19 49 (.iconst 1) 1 50 := ⟨by decide +kernel, rfl⟩
theorem d19_50 : DAt B19 50 (.goto 4) 3 53 := ⟨by decide +kernel, rfl⟩
theorem d19_53 : DAt B19 53 (.iconst 0) 1 54 := ⟨by decide +kernel, rfl⟩
theorem d19_54 : DAt B19 54 (.ireturn) 1 55 := ⟨by decide +kernel, rfl⟩
theorem d19_55 : DAt B19 55 (.iload_n 1) 1 56 := ⟨by decide +kernel, rfl⟩
theorem d19_56 : DAt B19 56 (.ifCond .ge 5) 3 59 := ⟨by decide +kernel, rfl⟩
theorem d19_59 : DAt B19 59 (.iconst 0) 1 60 := ⟨by decide +kernel, rfl⟩
theorem d19_60 : DAt B19 60 (.ireturn) 1 61 := ⟨by decide +kernel, rfl⟩
theorem d19_61 : DAt B19 61 (.aload_n 0) 1 62 := ⟨by decide +kernel, rfl⟩
theorem d19_62 : DAt B19 62 (.getfield 22) 3 65 := ⟨by decide +kernel, rfl⟩
theorem d19_65 : DAt B19 65 (.aload_n 0) 1 66 := ⟨by decide +kernel, rfl⟩
theorem d19_66 : DAt B19 66 (.iload_n 1) 1 67 := ⟨by decide +kernel, rfl⟩
theorem d19_67 : DAt B19 67 (.iload_n 2) 1 68 := ⟨by decide +kernel, rfl⟩
theorem d19_68 : DAt B19 68 (.iload_n 3) 1 69 := ⟨by decide +kernel, rfl⟩
theorem d19_69 : DAt B19 69 (.invokevirtual 84) 3 72 := ⟨by decide +kernel, rfl⟩
theorem d19_72 : DAt B19 72 (.iaload) 1 73 := ⟨by decide +kernel, rfl⟩
theorem d19_73 : DAt B19 73 (.ireturn) 1 74 := ⟨by decide +kernel, rfl⟩
def B20 : Bdy := ((⟨"GrammarReshaper", "mul", "(II)I"⟩ : MethodName), prog_1_method_25_code, 4, (some .int), ({ frames := 0, cells := 0, slots := 0, locals := 0 } : Room))
theorem d20_0 : DAt B20 0 (.iload_n 1) 1 1 := ⟨by decide +kernel, rfl⟩
theorem d20_1 : DAt B20 1 (.iload_n 2) 1 2 := ⟨by decide +kernel, rfl⟩
theorem d20_2 : DAt B20 2 (.imul) 1 3 := ⟨by decide +kernel, rfl⟩
theorem d20_3 : DAt B20 3 (.istore_n 3) 1 4 := ⟨by decide +kernel, rfl⟩
theorem d20_4 : DAt B20 4 (.iload_n 3) 1 5 := ⟨by decide +kernel, rfl⟩
theorem d20_5 : DAt B20 5 (.iconst 2) 1 6 := ⟨by decide +kernel, rfl⟩
theorem d20_6 : DAt B20 6 (.if_icmp .lt 7) 3 9 := ⟨by decide +kernel, rfl⟩
theorem d20_9 : DAt B20 9 (.iconst 2) 1 10 := ⟨by decide +kernel, rfl⟩
theorem d20_10 : DAt B20 10 (.goto 4) 3 13 := ⟨by decide +kernel, rfl⟩
theorem d20_13 : DAt B20 13 (.iload_n 3) 1 14 := ⟨by decide +kernel, rfl⟩
theorem d20_14 : DAt B20 14 (.ireturn) 1 15 := ⟨by decide +kernel, rfl⟩
def B17 : Bdy := ((⟨"GrammarReshaper", "add", "(II)I"⟩ : MethodName), prog_1_method_24_code, 4, (some .int), ({ frames := 0, cells := 0, slots := 0, locals := 0 } : Room))
theorem d17_0 : DAt B17 0 (.iload_n 1) 1 1 := ⟨by decide +kernel, rfl⟩
theorem d17_1 : DAt B17 1 (.iload_n 2) 1 2 := ⟨by decide +kernel, rfl⟩
theorem d17_2 : DAt B17 2 (.iadd) 1 3 := ⟨by decide +kernel, rfl⟩
theorem d17_3 : DAt B17 3 (.istore_n 3) 1 4 := ⟨by decide +kernel, rfl⟩
theorem d17_4 : DAt B17 4 (.iload_n 3) 1 5 := ⟨by decide +kernel, rfl⟩
theorem d17_5 : DAt B17 5 (.iconst 2) 1 6 := ⟨by decide +kernel, rfl⟩
theorem d17_6 : DAt B17 6 (.if_icmp .lt 7) 3 9 := ⟨by decide +kernel, rfl⟩
theorem d17_9 : DAt B17 9 (.iconst 2) 1 10 := ⟨by decide +kernel, rfl⟩
theorem d17_10 : DAt B17 10 (.goto 4) 3 13 := ⟨by decide +kernel, rfl⟩
theorem d17_13 : DAt B17 13 (.iload_n 3) 1 14 := ⟨by decide +kernel, rfl⟩
theorem d17_14 : DAt B17 14 (.ireturn) 1 15 := ⟨by decide +kernel, rfl⟩
def B18 : Bdy := ((⟨"GrammarReshaper", "cellWays", "(IIII)I"⟩ : MethodName), prog_1_method_32_code, 11, (some .int), ({ frames := 2, cells := 0, slots := 0, locals := 31 } : Room))
theorem d18_0 : DAt B18 0 (.aload_n 0) 1 1 := ⟨by decide +kernel, rfl⟩
theorem d18_1 : DAt B18 1 (.getfield 16) 3 4 := ⟨by decide +kernel, rfl⟩
theorem d18_4 : DAt B18 4 (.iload_n 1) 1 5 := ⟨by decide +kernel, rfl⟩
theorem d18_5 : DAt B18 5 (.iconst 5) 1 6 := ⟨by decide +kernel, rfl⟩
theorem d18_6 : DAt B18 6 (.imul) 1 7 := ⟨by decide +kernel, rfl⟩
theorem d18_7 : DAt B18 7 (.iload_n 2) 1 8 := ⟨by decide +kernel, rfl⟩
theorem d18_8 : DAt B18 8 (.iadd) 1 9 := ⟨by decide +kernel, rfl⟩
theorem d18_9 : DAt B18 9 (.iconst 1) 1 10 := ⟨by decide +kernel, rfl⟩
theorem d18_10 : DAt B18 10 (.isub) 1 11 := ⟨by decide +kernel, rfl⟩
theorem d18_11 : DAt B18 11 (.iaload) 1 12 := ⟨by decide +kernel, rfl⟩
theorem d18_12 : DAt B18 12 (.istore 5) 2 14 := ⟨by decide +kernel, rfl⟩
theorem d18_14 : DAt B18 14 (.iconst 0) 1 15 := ⟨by decide +kernel, rfl⟩
theorem d18_15 : DAt B18 15 (.istore 6) 2 17 := ⟨by decide +kernel, rfl⟩
theorem d18_17 : DAt B18 17 (.iload_n 3) 1 18 := ⟨by decide +kernel, rfl⟩
theorem d18_18 : DAt B18 18 (.iload_n 2) 1 19 := ⟨by decide +kernel, rfl⟩
theorem d18_19 : DAt B18 19 (.iadd) 1 20 := ⟨by decide +kernel, rfl⟩
theorem d18_20 : DAt B18 20 (.iconst 1) 1 21 := ⟨by decide +kernel, rfl⟩
theorem d18_21 : DAt B18 21 (.isub) 1 22 := ⟨by decide +kernel, rfl⟩
theorem d18_22 : DAt B18 22 (.istore 7) 2 24 := ⟨by decide +kernel, rfl⟩
theorem d18_24 : DAt B18 24 (.iload 7) 2 26 := ⟨by decide +kernel, rfl⟩
theorem d18_26 : DAt B18 26 (.iload 4) 2 28 := ⟨by decide +kernel, rfl⟩
theorem d18_28 : DAt B18 28 (.if_icmp .ge 62) 3 31 := ⟨by decide +kernel, rfl⟩
theorem d18_31 : DAt B18 31 (.aload_n 0) 1 32 := ⟨by decide +kernel, rfl⟩
theorem d18_32 : DAt B18 32 (.getfield 25) 3 35 := ⟨by decide +kernel, rfl⟩
theorem d18_35 : DAt B18 35 (.iload_n 2) 1 36 := ⟨by decide +kernel, rfl⟩
theorem d18_36 : DAt B18 36 (.iconst 1) 1 37 := ⟨by decide +kernel, rfl⟩
theorem d18_37 : DAt B18 37 (.isub) 1 38 := ⟨by decide +kernel, rfl⟩
theorem d18_38 : DAt B18 38 (.bipush 17) 2 40 := ⟨by decide +kernel, rfl⟩
theorem d18_40 : DAt B18 40 (.imul) 1 41 := ⟨by decide +kernel, rfl⟩
theorem d18_41 : DAt B18 41 (.iload 7) 2 43 := ⟨by decide +kernel, rfl⟩
theorem d18_43 : DAt B18 43 (.iadd) 1 44 := ⟨by decide +kernel, rfl⟩
theorem d18_44 : DAt B18 44 (.iaload) 1 45 := ⟨by decide +kernel, rfl⟩
theorem d18_45 : DAt B18 45 (.istore 8) 2 47 := ⟨by decide +kernel, rfl⟩
theorem d18_47 : DAt B18 47 (.iload 8) 2 49 := ⟨by decide +kernel, rfl⟩
theorem d18_49 : DAt B18 49 (.ifCond .eq 35) 3 52 := ⟨by decide +kernel, rfl⟩
theorem d18_52 : DAt B18 52 (.aload_n 0) 1 53 := ⟨by decide +kernel, rfl⟩
theorem d18_53 : DAt B18 53 (.iload 5) 2 55 := ⟨by decide +kernel, rfl⟩
theorem d18_55 : DAt B18 55 (.iload 7) 2 57 := ⟨by decide +kernel, rfl⟩
theorem d18_57 : DAt B18 57 (.iload 4) 2 59 := ⟨by decide +kernel, rfl⟩
theorem d18_59 : DAt B18 59 (.invokevirtual 125) 3 62 := ⟨by decide +kernel, rfl⟩
theorem d18_62 : DAt B18 62 (.istore 9) 2 64 := ⟨by decide +kernel, rfl⟩
theorem d18_64 : DAt B18 64 (.aload_n 0) 1 65 := ⟨by decide +kernel, rfl⟩
theorem d18_65 : DAt B18 65 (.iload 8) 2 67 := ⟨by decide +kernel, rfl⟩
theorem d18_67 : DAt B18 67 (.iload 9) 2 69 := ⟨by decide +kernel, rfl⟩
theorem d18_69 : DAt B18 69 (.invokevirtual 128) 3 72 := ⟨by decide +kernel, rfl⟩
theorem d18_72 : DAt B18 72 (.istore 10) 2 74 := ⟨by decide +kernel, rfl⟩
theorem d18_74 : DAt B18 74 (.aload_n 0) 1 75 := ⟨by decide +kernel, rfl⟩
theorem d18_75 : DAt B18 75 (.iload 6) 2 77 := ⟨by decide +kernel, rfl⟩
theorem d18_77 : DAt B18 77 (.iload 10) 2 79 := ⟨by decide +kernel, rfl⟩
theorem d18_79 : DAt B18 79 (.invokevirtual 110) 3 82 := ⟨by decide +kernel, rfl⟩
theorem d18_82 : DAt B18 82 (.istore 6) 2 84 := ⟨by decide +kernel, rfl⟩
theorem d18_84 : DAt B18 84 (.iinc 7 1) 3 87 := ⟨by decide +kernel, rfl⟩
theorem d18_87 : DAt B18 87 (.goto (-63)) 3 90 := ⟨by decide +kernel, rfl⟩
theorem d18_90 : DAt B18 90 (.iload 6) 2 92 := ⟨by decide +kernel, rfl⟩
theorem d18_92 : DAt B18 92 (.ireturn) 1 93 := ⟨by decide +kernel, rfl⟩
def B16 : Bdy := ((⟨"GrammarReshaper", "fillWays", "(III)V"⟩ : MethodName), prog_1_method_31_code, 7, none, ({ frames := 3, cells := 0, slots := 0, locals := 55 } : Room))
theorem d16_0 : DAt B16 0 (.aload_n 0) 1 1 := ⟨by decide +kernel, rfl⟩
theorem d16_1 : DAt B16 1 (.getfield 13) 3 4 := ⟨by decide +kernel, rfl⟩
theorem d16_4 : DAt B16 4 (.iload_n 1) 1 5 := ⟨by decide +kernel, rfl⟩
theorem d16_5 : DAt B16 5 (.iaload) 1 6 := ⟨by decide +kernel, rfl⟩
theorem d16_6 : DAt B16 6 (.istore 4) 2 8 := ⟨by decide +kernel, rfl⟩
theorem d16_8 : DAt B16 8 (.iconst 0) 1 9 := ⟨by decide +kernel, rfl⟩
theorem d16_9 : DAt B16 9 (.istore 5) 2 11 := ⟨by decide +kernel, rfl⟩
theorem d16_11 : DAt B16 11 (.iload 5) 2 13 := ⟨by decide +kernel, rfl⟩
theorem d16_13 : DAt B16 13 (.bipush 6) 2 15 := ⟨by decide +kernel, rfl⟩
theorem d16_15 : DAt B16 15 (.if_icmp .ge 39) 3 18 := ⟨by decide +kernel, rfl⟩
theorem d16_18 : DAt B16 18 (.iconst 0) 1 19 := ⟨by decide +kernel, rfl⟩
theorem d16_19 : DAt B16 19 (.istore 6) 2 21 := ⟨by decide +kernel, rfl⟩
theorem d16_21 : DAt B16 21 (.iload 6) 2 23 := ⟨by decide +kernel, rfl⟩
theorem d16_23 : DAt B16 23 (.bipush 17) 2 25 := ⟨by decide +kernel, rfl⟩
theorem d16_25 : DAt B16 25 (.if_icmp .ge 23) 3 28 := ⟨by decide +kernel, rfl⟩
theorem d16_28 : DAt B16 28 (.aload_n 0) 1 29 := ⟨by decide +kernel, rfl⟩
theorem d16_29 : DAt B16 29 (.getfield 25) 3 32 := ⟨by decide +kernel, rfl⟩
theorem d16_32 : DAt B16 32 (.iload 5) 2 34 := ⟨by decide +kernel, rfl⟩
theorem d16_34 : DAt B16 34 (.bipush 17) 2 36 := ⟨by decide +kernel, rfl⟩
theorem d16_36 : DAt B16 36 (.imul) 1 37 := ⟨by decide +kernel, rfl⟩
theorem d16_37 : DAt B16 37 (.iload 6) 2 39 := ⟨by decide +kernel, rfl⟩
theorem d16_39 : DAt B16 39 (.iadd) 1 40 := ⟨by decide +kernel, rfl⟩
theorem d16_40 : DAt B16 40 (.iconst 0) 1 41 := ⟨by decide +kernel, rfl⟩
theorem d16_41 : DAt B16 41 (.iastore) 1 42 := ⟨by decide +kernel, rfl⟩
theorem d16_42 : DAt B16 42 (.iinc 6 1) 3 45 := ⟨by decide +kernel, rfl⟩
theorem d16_45 : DAt B16 45 (.goto (-24)) 3 48 := ⟨by decide +kernel, rfl⟩
theorem d16_48 : DAt B16 48 (.iinc 5 1) 3 51 := ⟨by decide +kernel, rfl⟩
theorem d16_51 : DAt B16 51 (.goto (-40)) 3 54 := ⟨by decide +kernel, rfl⟩
theorem d16_54 : DAt B16 54 (.aload_n 0) 1 55 := ⟨by decide +kernel, rfl⟩
theorem d16_55 : DAt B16 55 (.getfield 25) 3 58 := ⟨by decide +kernel, rfl⟩
theorem d16_58 : DAt B16 58 (.iload_n 2) 1 59 := ⟨by decide +kernel, rfl⟩
theorem d16_59 : DAt B16 59 (.iconst 1) 1 60 := ⟨by decide +kernel, rfl⟩
theorem d16_60 : DAt B16 60 (.iastore) 1 61 := ⟨by decide +kernel, rfl⟩
theorem d16_61 : DAt B16 61 (.iconst 1) 1 62 := ⟨by decide +kernel, rfl⟩
theorem d16_62 : DAt B16 62 (.istore 5) 2 64 := ⟨by decide +kernel, rfl⟩
theorem d16_64 : DAt B16 64 (.iload 5) 2 66 := ⟨by decide +kernel, rfl⟩
theorem d16_66 : DAt B16 66 (.iload 4) 2 68 := ⟨by decide +kernel, rfl⟩
theorem d16_68 : DAt B16 68 (.if_icmp .gt 56) 3 71 := ⟨by decide +kernel, rfl⟩
theorem d16_71 : DAt B16 71 (.iload_n 2) 1 72 := ⟨by decide +kernel, rfl⟩
theorem d16_72 : DAt B16 72 (.iload 5) 2 74 := ⟨by decide +kernel, rfl⟩
theorem d16_74 : DAt B16 74 (.iadd) 1 75 := ⟨by decide +kernel, rfl⟩
theorem d16_75 : DAt B16 75 (.istore 6) 2 77 := ⟨by decide +kernel, rfl⟩
theorem d16_77 : DAt B16 77 (.iload 6) 2 79 := ⟨by decide +kernel, rfl⟩
theorem d16_79 : DAt B16 79 (.iload_n 3) 1 80 := ⟨by decide +kernel, rfl⟩
theorem d16_80 : DAt B16 80 (.iload 4) 2 82 := ⟨by decide +kernel, rfl⟩
theorem d16_82 : DAt B16 82 (.iload 5) 2 84 := ⟨by decide +kernel, rfl⟩
theorem d16_84 : DAt B16 84 (.isub) 1 85 := ⟨by decide +kernel, rfl⟩
theorem d16_85 : DAt B16 85 (.isub) 1 86 := ⟨by decide +kernel, rfl⟩
theorem d16_86 : DAt B16 86 (.if_icmp .gt 32) 3 89 := ⟨by decide +kernel, rfl⟩
theorem d16_89 : DAt B16 89 (.aload_n 0) 1 90 := ⟨by decide +kernel, rfl⟩
theorem d16_90 : DAt B16 90 (.getfield 25) 3 93 := ⟨by decide +kernel, rfl⟩
theorem d16_93 : DAt B16 93 (.iload 5) 2 95 := ⟨by decide +kernel, rfl⟩
theorem d16_95 : DAt B16 95 (.bipush 17) 2 97 := ⟨by decide +kernel, rfl⟩
theorem d16_97 : DAt B16 97 (.imul) 1 98 := ⟨by decide +kernel, rfl⟩
theorem d16_98 : DAt B16 98 (.iload 6) 2 100 := ⟨by decide +kernel, rfl⟩
theorem d16_100 : DAt B16 100 (.iadd) 1 101 := ⟨by decide +kernel, rfl⟩
theorem d16_101 : DAt B16 101 (.aload_n 0) 1 102 := ⟨by decide +kernel, rfl⟩
theorem d16_102 : DAt B16 102 (.iload_n 1) 1 103 := ⟨by decide +kernel, rfl⟩
theorem d16_103 : DAt B16 103 (.iload 5) 2 105 := ⟨by decide +kernel, rfl⟩
theorem d16_105 : DAt B16 105 (.iload_n 2) 1 106 := ⟨by decide +kernel, rfl⟩
theorem d16_106 : DAt B16 106 (.iload 6) 2 108 := ⟨by decide +kernel, rfl⟩
theorem d16_108 : DAt B16 108 (.invokevirtual 121) 3 111 := ⟨by decide +kernel, rfl⟩
theorem d16_111 : DAt B16 111 (.iastore) 1 112 := ⟨by decide +kernel, rfl⟩
theorem d16_112 : DAt B16 112 (.iinc 6 1) 3 115 := ⟨by decide +kernel, rfl⟩
theorem d16_115 : DAt B16 115 (.goto (-38)) 3 118 := ⟨by decide +kernel, rfl⟩
theorem d16_118 : DAt B16 118 (.iinc 5 1) 3 121 := ⟨by decide +kernel, rfl⟩
theorem d16_121 : DAt B16 121 (.goto (-57)) 3 124 := ⟨by decide +kernel, rfl⟩
theorem d16_124 : DAt B16 124 (.return_) 1 125 := ⟨by decide +kernel, rfl⟩
def B15 : Bdy := ((⟨"GrammarReshaper", "splitCount", "(III)I"⟩ : MethodName), prog_1_method_30_code, 4, (some .int), ({ frames := 4, cells := 0, slots := 0, locals := 73 } : Room))
theorem d15_0 : DAt B15 0 (.aload_n 0) 1 1 := ⟨by decide +kernel, rfl⟩
theorem d15_1 : DAt B15 1 (.iload_n 1) 1 2 := ⟨by decide +kernel, rfl⟩
theorem d15_2 : DAt B15 2 (.iload_n 2) 1 3 := ⟨by decide +kernel, rfl⟩
theorem d15_3 : DAt B15 3 (.iload_n 3) 1 4 := ⟨by decide +kernel, rfl⟩
theorem d15_4 : DAt B15 4 (.invokevirtual 118) 3 7 := ⟨by decide +kernel, rfl⟩
theorem d15_7 : DAt B15 7 (.aload_n 0) 1 8 := ⟨by decide +kernel, rfl⟩
theorem d15_8 : DAt B15 8 (.getfield 25) 3 11 := ⟨by decide +kernel, rfl⟩
theorem d15_11 : DAt B15 11 (.aload_n 0) 1 12 := ⟨by decide +kernel, rfl⟩
theorem d15_12 : DAt B15 12 (.getfield 13) 3 15 := ⟨by decide +kernel, rfl⟩
theorem d15_15 : DAt B15 15 (.iload_n 1) 1 16 := ⟨by decide +kernel, rfl⟩
theorem d15_16 : DAt B15 16 (.iaload) 1 17 := ⟨by decide +kernel, rfl⟩
theorem d15_17 : DAt B15 17 (.bipush 17) 2 19 := ⟨by decide +kernel, rfl⟩
theorem d15_19 : DAt B15 19 (.imul) 1 20 := ⟨by decide +kernel, rfl⟩
theorem d15_20 : DAt B15 20 (.iload_n 3) 1 21 := ⟨by decide +kernel, rfl⟩
theorem d15_21 : DAt B15 21 (.iadd) 1 22 := ⟨by decide +kernel, rfl⟩
theorem d15_22 : DAt B15 22 (.iaload) 1 23 := ⟨by decide +kernel, rfl⟩
theorem d15_23 : DAt B15 23 (.ireturn) 1 24 := ⟨by decide +kernel, rfl⟩
def B21 : Bdy := ((⟨"GrammarReshaper", "addUnits", "(III)V"⟩ : MethodName), prog_1_method_28_code, 7, none, ({ frames := 1, cells := 0, slots := 0, locals := 17 } : Room))
theorem d21_0 : DAt B21 0 (.aload_n 0) 1 1 := ⟨by decide +kernel, rfl⟩
theorem d21_1 : DAt B21 1 (.iload_n 1) 1 2 := ⟨by decide +kernel, rfl⟩
theorem d21_2 : DAt B21 2 (.iload_n 2) 1 3 := ⟨by decide +kernel, rfl⟩
theorem d21_3 : DAt B21 3 (.iload_n 3) 1 4 := ⟨by decide +kernel, rfl⟩
theorem d21_4 : DAt B21 4 (.invokevirtual 84) 3 7 := ⟨by decide +kernel, rfl⟩
theorem d21_7 : DAt B21 7 (.istore 4) 2 9 := ⟨by decide +kernel, rfl⟩
theorem d21_9 : DAt B21 9 (.iconst 0) 1 10 := ⟨by decide +kernel, rfl⟩
theorem d21_10 : DAt B21 10 (.istore 5) 2 12 := ⟨by decide +kernel, rfl⟩
theorem d21_12 : DAt B21 12 (.iload 5) 2 14 := ⟨by decide +kernel, rfl⟩
theorem d21_14 : DAt B21 14 (.aload_n 0) 1 15 := ⟨by decide +kernel, rfl⟩
theorem d21_15 : DAt B21 15 (.getfield 56) 3 18 := ⟨by decide +kernel, rfl⟩
theorem d21_18 : DAt B21 18 (.if_icmp .ge 71) 3 21 := ⟨by decide +kernel, rfl⟩
theorem d21_21 : DAt B21 21 (.aload_n 0) 1 22 := ⟨by decide +kernel, rfl⟩
theorem d21_22 : DAt B21 22 (.getfield 7) 3 25 := ⟨by decide +kernel, rfl⟩
theorem d21_25 : DAt B21 25 (.iload 5) 2 27 := ⟨by decide +kernel, rfl⟩
theorem d21_27 : DAt B21 27 (.iaload) 1 28 := ⟨by decide +kernel, rfl⟩
theorem d21_28 : DAt B21 28 (.iload_n 1) 1 29 := ⟨by decide +kernel, rfl⟩
theorem d21_29 : DAt B21 29 (.if_icmp .ne 54) 3 32 := ⟨by decide +kernel, rfl⟩
theorem d21_32 : DAt B21 32 (.aload_n 0) 1 33 := ⟨by decide +kernel, rfl⟩
theorem d21_33 : DAt B21 33 (.iload 5) 2 35 := ⟨by decide +kernel, rfl⟩
theorem d21_35 : DAt B21 35 (.invokevirtual 99) 3 38 := ⟨by decide +kernel, rfl⟩
theorem d21_38 : DAt B21 38 (.ifCond .eq 45) 3 41 := ⟨by decide +kernel, rfl⟩
theorem d21_41 : DAt B21 41 (.aload_n 0) 1 42 := ⟨by decide +kernel, rfl⟩
theorem d21_42 : DAt B21 42 (.getfield 22) 3 45 := ⟨by decide +kernel, rfl⟩
theorem d21_45 : DAt B21 45 (.aload_n 0) 1 46 := ⟨by decide +kernel, rfl⟩
theorem d21_46 : DAt B21 46 (.aload_n 0) 1 47 := ⟨by decide +kernel, rfl⟩
theorem d21_47 : DAt B21 47 (.getfield 16) 3 50 := ⟨by decide +kernel, rfl⟩
theorem d21_50 : DAt B21 50 (.iload 5) 2 52 := ⟨by decide +kernel, rfl⟩
theorem d21_52 : DAt B21 52 (.iconst 5) 1 53 := ⟨by decide +kernel, rfl⟩
theorem d21_53 : DAt B21 53 (.imul) 1 54 := ⟨by decide +kernel, rfl⟩
theorem d21_54 : DAt B21 54 (.iaload) 1 55 := ⟨by decide +kernel, rfl⟩
theorem d21_55 : DAt B21 55 (.iload_n 2) 1 56 := ⟨by decide +kernel, rfl⟩
theorem d21_56 : DAt B21 56 (.iload_n 3) 1 57 := ⟨by decide +kernel, rfl⟩
theorem d21_57 : DAt B21 57 (.invokevirtual 84) 3 60 := ⟨by decide +kernel, rfl⟩
theorem d21_60 : DAt B21 60 (.iaload) 1 61 := ⟨by decide +kernel, rfl⟩
theorem d21_61 : DAt B21 61 (.istore 6) 2 63 := ⟨by decide +kernel, rfl⟩
theorem d21_63 : DAt B21 63 (.aload_n 0) 1 64 := ⟨by decide +kernel, rfl⟩
theorem d21_64 : DAt B21 64 (.getfield 22) 3 67 := ⟨by decide +kernel, rfl⟩
theorem d21_67 : DAt B21 67 (.iload 4) 2 69 := ⟨by decide +kernel, rfl⟩
theorem d21_69 : DAt B21 69 (.aload_n 0) 1 70 := ⟨by decide +kernel, rfl⟩
theorem d21_70 : DAt B21 70 (.aload_n 0) 1 71 := ⟨by decide +kernel, rfl⟩
theorem d21_71 : DAt B21 71 (.getfield 22) 3 74 := ⟨by decide +kernel, rfl⟩
theorem d21_74 : DAt B21 74 (.iload 4) 2 76 := ⟨by decide +kernel, rfl⟩
theorem d21_76 : DAt B21 76 (.iaload) 1 77 := ⟨by decide +kernel, rfl⟩
theorem d21_77 : DAt B21 77 (.iload 6) 2 79 := ⟨by decide +kernel, rfl⟩
theorem d21_79 : DAt B21 79 (.invokevirtual 110) 3 82 := ⟨by decide +kernel, rfl⟩
theorem d21_82 : DAt B21 82 (.iastore) 1 83 := ⟨by decide +kernel, rfl⟩
theorem d21_83 : DAt B21 83 (.iinc 5 1) 3 86 := ⟨by decide +kernel, rfl⟩
theorem d21_86 : DAt B21 86 (.goto (-74)) 3 89 := ⟨by decide +kernel, rfl⟩
theorem d21_89 : DAt B21 89 (.return_) 1 90 := ⟨by decide +kernel, rfl⟩
def B13 : Bdy := ((⟨"GrammarReshaper", "computeSpan", "(II)V"⟩ : MethodName), prog_1_method_27_code, 6, none, ({ frames := 5, cells := 0, slots := 0, locals := 88 } : Room))
theorem d13_0 : DAt B13 0 (.iconst 0) 1 1 := ⟨by decide +kernel, rfl⟩
theorem d13_1 : DAt B13 1 (.istore_n 3) 1 2 := ⟨by decide +kernel, rfl⟩
theorem d13_2 : DAt B13 2 (.iload_n 3) 1 3 := ⟨by decide +kernel, rfl⟩
theorem d13_3 : DAt B13 3 (.bipush 8) 2 5 := ⟨by decide +kernel, rfl⟩
theorem d13_5 : DAt B13 5 (.if_icmp .ge 22) 3 8 := ⟨by decide +kernel, rfl⟩
theorem d13_8 : DAt B13 8 (.aload_n 0) 1 9 := ⟨by decide +kernel, rfl⟩
theorem d13_9 : DAt B13 9 (.getfield 22) 3 12 := ⟨by decide +kernel, rfl⟩
theorem d13_12 : DAt B13 12 (.aload_n 0) 1 13 := ⟨by decide +kernel, rfl⟩
theorem d13_13 : DAt B13 13 (.iload_n 3) 1 14 := ⟨by decide +kernel, rfl⟩
theorem d13_14 : DAt B13 14 (.iload_n 1) 1 15 := ⟨by decide +kernel, rfl⟩
theorem d13_15 : DAt B13 15 (.iload_n 2) 1 16 := ⟨by decide +kernel, rfl⟩
theorem d13_16 : DAt B13 16 (.invokevirtual 84) 3 19 := ⟨by decide +kernel, rfl⟩
theorem d13_19 : DAt B13 19 (.iconst 0) 1 20 := ⟨by decide +kernel, rfl⟩
theorem d13_20 : DAt B13 20 (.iastore) 1 21 := ⟨by decide +kernel, rfl⟩
theorem d13_21 : DAt B13 21 (.iinc 3 1) 3 24 := ⟨by decide +kernel, rfl⟩
theorem d13_24 : DAt B13 24 (.goto (-22)) 3 27 := ⟨by decide +kernel, rfl⟩
theorem d13_27 : DAt B13 27 (.iconst 0) 1 28 := ⟨by decide +kernel, rfl⟩
theorem d13_28 : DAt B13 28 (.istore_n 3) 1 29 := ⟨by decide +kernel, rfl⟩
theorem d13_29 : DAt B13 29 (.iload_n 3) 1 30 := ⟨by decide +kernel, rfl⟩
theorem d13_30 : DAt B13 30 (.aload_n 0) 1 31 := ⟨by decide +kernel, rfl⟩
theorem d13_31 : DAt B13 31 (.getfield 56) 3 34 := ⟨by decide +kernel, rfl⟩
theorem d13_34 : DAt B13 34 (.if_icmp .ge 60) 3 37 := ⟨by decide +kernel, rfl⟩
theorem d13_37 : DAt B13 37 (.aload_n 0) 1 38 := ⟨by decide +kernel, rfl⟩
theorem d13_38 : DAt B13 38 (.iload_n 3) 1 39 := ⟨by decide +kernel, rfl⟩
theorem d13_39 : DAt B13 39 (.invokevirtual 99) 3 42 := ⟨by decide +kernel, rfl⟩
theorem d13_42 : DAt B13 42 (.ifCond .ne 46) 3 45 := ⟨by decide +kernel, rfl⟩
theorem d13_45 : DAt B13 45 (.aload_n 0) 1 46 := ⟨by decide +kernel, rfl⟩
theorem d13_46 : DAt B13 46 (.iload_n 3) 1 47 := ⟨by decide +kernel, rfl⟩
theorem d13_47 : DAt B13 47 (.iload_n 1) 1 48 := ⟨by decide +kernel, rfl⟩
theorem d13_48 : DAt B13 48 (.iload_n 2) 1 49 := ⟨by decide +kernel, rfl⟩
theorem d13_49 : DAt B13 49 (.invokevirtual 107) 3 52 := ⟨by decide +kernel, rfl⟩
theorem d13_52 : DAt B13 52 (.istore 4) 2 54 := ⟨by decide +kernel, rfl⟩
theorem d13_54 : DAt B13 54 (.aload_n 0) 1 55 := ⟨by decide +kernel, rfl⟩
theorem d13_55 : DAt B13 55 (.aload_n 0) 1 56 := ⟨by decide +kernel, rfl⟩
theorem d13_56 : DAt B13 56 (.getfield 7) 3 59 := ⟨by decide +kernel, rfl⟩
theorem d13_59 : DAt B13 59 (.iload_n 3) 1 60 := ⟨by decide +kernel, rfl⟩
theorem d13_60 : DAt B13 60 (.iaload) 1 61 := ⟨by decide +kernel, rfl⟩
theorem d13_61 : DAt B13 61 (.iload_n 1) 1 62 := ⟨by decide +kernel, rfl⟩
theorem d13_62 : DAt B13 62 (.iload_n 2) 1 63 := ⟨by decide +kernel, rfl⟩
theorem d13_63 : DAt B13 63 (.invokevirtual 84) 3 66 := ⟨by decide +kernel, rfl⟩
theorem d13_66 : DAt B13 66 (.istore 5) 2 68 := ⟨by decide +kernel, rfl⟩
theorem d13_68 : DAt B13 68 (.aload_n 0) 1 69 := ⟨by decide +kernel, rfl⟩
theorem d13_69 : DAt B13 69 (.getfield 22) 3 72 := ⟨by decide +kernel, rfl⟩
theorem d13_72 : DAt B13 72 (.iload 5) 2 74 := ⟨by decide +kernel, rfl⟩
theorem d13_74 : DAt B13 74 (.aload_n 0) 1 75 := ⟨by decide +kernel, rfl⟩
theorem d13_75 : DAt B13 75 (.aload_n 0) 1 76 := ⟨by decide +kernel, rfl⟩
theorem d13_76 : DAt B13 76 (.getfield 22) 3 79 := ⟨by decide +kernel, rfl⟩
theorem d13_79 : DAt B13 79 (.iload 5) 2 81 := ⟨by decide +kernel, rfl⟩
theorem d13_81 : DAt B13 81 (.iaload) 1 82 := ⟨by decide +kernel, rfl⟩
theorem d13_82 : DAt B13 82 (.iload 4) 2 84 := ⟨by decide +kernel, rfl⟩
theorem d13_84 : DAt B13 84 (.invokevirtual 110) 3 87 := ⟨by decide +kernel, rfl⟩
theorem d13_87 : DAt B13 87 (.iastore) 1 88 := ⟨by decide +kernel, rfl⟩
theorem d13_88 : DAt B13 88 (.iinc 3 1) 3 91 := ⟨by decide +kernel, rfl⟩
theorem d13_91 : DAt B13 91 (.goto (-62)) 3 94 := ⟨by decide +kernel, rfl⟩
theorem d13_94 : DAt B13 94 (.iconst 0) 1 95 := ⟨by decide +kernel, rfl⟩
theorem d13_95 : DAt B13 95 (.istore_n 3) 1 96 := ⟨by decide +kernel, rfl⟩
theorem d13_96 : DAt B13 96 (.iload_n 3) 1 97 := ⟨by decide +kernel, rfl⟩
theorem d13_97 : DAt B13 97 (.bipush 8) 2 99 := ⟨by decide +kernel, rfl⟩
theorem d13_99 : DAt B13 99 (.if_icmp .ge 21) 3 102 := ⟨by decide +kernel, rfl⟩
theorem d13_102 : DAt B13 102 (.aload_n 0) 1 103 := ⟨by decide +kernel, rfl⟩
theorem d13_103 : DAt B13 103 (.aload_n 0) 1 104 := ⟨by decide +kernel, rfl⟩
theorem d13_104 : DAt B13 104 (.getfield 31) 3 107 := ⟨by decide +kernel, rfl⟩
theorem d13_107 : DAt B13 107 (.iload_n 3) 1 108 := ⟨by decide +kernel, rfl⟩
theorem d13_108 : DAt B13 108 (.iaload) 1 109 := ⟨by decide +kernel, rfl⟩
theorem d13_109 : DAt B13 109 (.iload_n 1) 1 110 := ⟨by decide +kernel, rfl⟩
theorem d13_110 : DAt B13 110 (.iload_n 2) 1 111 := ⟨by decide +kernel, rfl⟩
theorem d13_111 : DAt B13 111 (.invokevirtual 114) 3 114 := ⟨by decide +kernel, rfl⟩
theorem d13_114 : DAt B13 114 (.iinc 3 1) 3 117 := ⟨by decide +kernel, rfl⟩
theorem d13_117 : DAt B13 117 (.goto (-21)) 3 120 := ⟨by decide +kernel, rfl⟩
theorem d13_120 : DAt B13 120 (.return_) 1 121 := ⟨by decide +kernel, rfl⟩
def B12 : Bdy := ((⟨"GrammarReshaper", "buildChart", "()V"⟩ : MethodName), prog_1_method_26_code, 3, none, ({ frames := 6, cells := 0, slots := 0, locals := 105 } : Room))
theorem d12_0 : DAt B12 0 (.iconst 1) 1 1 := ⟨by decide +kernel, rfl⟩
theorem d12_1 : DAt B12 1 (.istore_n 1) 1 2 := ⟨by decide +kernel, rfl⟩
theorem d12_2 : DAt B12 2 (.iload_n 1) 1 3 := ⟨by decide +kernel, rfl⟩
theorem d12_3 : DAt B12 3 (.aload_n 0) 1 4 := ⟨by decide +kernel, rfl⟩
theorem d12_4 : DAt B12 4 (.getfield 59) 3 7 := ⟨by decide +kernel, rfl⟩
theorem d12_7 : DAt B12 7 (.if_icmp .gt 35) 3 10 := ⟨by decide +kernel, rfl⟩
theorem d12_10 : DAt B12 10 (.iconst 0) 1 11 := ⟨by decide +kernel, rfl⟩
theorem d12_11 : DAt B12 11 (.istore_n 2) 1 12 := ⟨by decide +kernel, rfl⟩
theorem d12_12 : DAt B12 12 (.iload_n 2) 1 13 := ⟨by decide +kernel, rfl⟩
theorem d12_13 : DAt B12 13 (.iload_n 1) 1 14 := ⟨by decide +kernel, rfl⟩
theorem d12_14 : DAt B12 14 (.iadd) 1 15 := ⟨by decide +kernel, rfl⟩
theorem d12_15 : DAt B12 15 (.aload_n 0) 1 16 := ⟨by decide +kernel, rfl⟩
theorem d12_16 : DAt B12 16 (.getfield 59) 3 19 := ⟨by decide +kernel, rfl⟩
theorem d12_19 : DAt B12 19 (.if_icmp .gt 17) 3 22 := ⟨by decide +kernel, rfl⟩
theorem d12_22 : DAt B12 22 (.aload_n 0) 1 23 := ⟨by decide +kernel, rfl⟩
theorem d12_23 : DAt B12 23 (.iload_n 2) 1 24 := ⟨by decide +kernel, rfl⟩
theorem d12_24 : DAt B12 24 (.iload_n 2) 1 25 := ⟨by decide +kernel, rfl⟩
theorem d12_25 : DAt B12 25 (.iload_n 1) 1 26 := ⟨by decide +kernel, rfl⟩
theorem d12_26 : DAt B12 26 (.iadd) 1 27 := ⟨by decide +kernel, rfl⟩
theorem d12_27 : DAt B12 27 (.invokevirtual 103) 3 30 := ⟨by decide +kernel, rfl⟩
theorem d12_30 : DAt B12 30 (.iinc 2 1) 3 33 := ⟨by decide +kernel, rfl⟩
theorem d12_33 : DAt B12 33 (.goto (-21)) 3 36 := ⟨by decide +kernel, rfl⟩
theorem d12_36 : DAt B12 36 (.iinc 1 1) 3 39 := ⟨by decide +kernel, rfl⟩
theorem d12_39 : DAt B12 39 (.goto (-37)) 3 42 := ⟨by decide +kernel, rfl⟩
theorem d12_42 : DAt B12 42 (.return_) 1 43 := ⟨by decide +kernel, rfl⟩
def B26 : Bdy := ((⟨"GrammarReshaper", "push", "(III)V"⟩ : MethodName), prog_1_method_34_code, 4, none, ({ frames := 0, cells := 0, slots := 0, locals := 0 } : Room))
theorem d26_0 : DAt B26 0 (.aload_n 0) 1 1 := ⟨by decide +kernel, rfl⟩
theorem d26_1 : DAt B26 1 (.getfield 68) 3 4 := ⟨by decide +kernel, rfl⟩
theorem d26_4 : DAt B26 4 (.sipush 256) 3 7 := ⟨by decide +kernel, rfl⟩
theorem d26_7 : DAt B26 7 (.if_icmp .ge 43) 3 10 := ⟨by decide +kernel, rfl⟩
theorem d26_10 : DAt B26 10 (.aload_n 0) 1 11 := ⟨by decide +kernel, rfl⟩
theorem d26_11 : DAt B26 11 (.getfield 37) 3 14 := ⟨by decide +kernel, rfl⟩
theorem d26_14 : DAt B26 14 (.aload_n 0) 1 15 := ⟨by decide +kernel, rfl⟩
theorem d26_15 : DAt B26 15 (.getfield 68) 3 18 := ⟨by decide +kernel, rfl⟩
theorem d26_18 : DAt B26 18 (.iload_n 1) 1 19 := ⟨by decide +kernel, rfl⟩
theorem d26_19 : DAt B26 19 (.iastore) 1 20 := ⟨by decide +kernel, rfl⟩
theorem d26_20 : DAt B26 20 (.aload_n 0) 1 21 := ⟨by decide +kernel, rfl⟩
theorem d26_21 : DAt B26 21 (.getfield 40) 3 24 := ⟨by decide +kernel, rfl⟩
theorem d26_24 : DAt B26 24 (.aload_n 0) 1 25 := ⟨by decide +kernel, rfl⟩
theorem d26_25 : DAt B26 25 (.getfield 68) 3 28 := ⟨by decide +kernel, rfl⟩
theorem d26_28 : DAt B26 28 (.iload_n 2) 1 29 := ⟨by decide +kernel, rfl⟩
theorem d26_29 : DAt B26 29 (.iastore) 1 30 := ⟨by decide +kernel, rfl⟩
theorem d26_30 : DAt B26 30 (.aload_n 0) 1 31 := ⟨by decide +kernel, rfl⟩
theorem d26_31 : DAt B26 31 (.getfield 43) 3 34 := ⟨by decide +kernel, rfl⟩
theorem d26_34 : DAt B26 34 (.aload_n 0) 1 35 := ⟨by decide +kernel, rfl⟩
theorem d26_35 : DAt B26 35 (.getfield 68) 3 38 := ⟨by decide +kernel, rfl⟩
theorem d26_38 : DAt B26 38 (.iload_n 3) 1 39 := ⟨by decide +kernel, rfl⟩
theorem d26_39 : DAt B26 39 (.iastore) 1 40 := ⟨by decide +kernel, rfl⟩
theorem d26_40 : DAt B26 40 (.aload_n 0) 1 41 := ⟨by decide +kernel, rfl⟩
theorem d26_41 : DAt B26 41 (.dup) 1 42 := ⟨by decide +kernel, rfl⟩
theorem d26_42 : DAt B26 42 (.getfield 68) 3 45 := ⟨by decide +kernel, rfl⟩
theorem d26_45 : DAt B26 45 (.iconst 1) 1 46 := ⟨by decide +kernel, rfl⟩
theorem d26_46 : DAt B26 46 (.iadd) 1 47 := ⟨by decide +kernel, rfl⟩
theorem d26_47 : DAt B26 47 (.putfield 68) 3 50 := ⟨by decide +kernel, rfl⟩
theorem d26_50 : DAt B26 50 (.return_) 1 51 := ⟨by decide +kernel, rfl⟩
def B28 : Bdy := ((⟨"GrammarReshaper", "ruleSpanCount", "(III)I"⟩ : MethodName), prog_1_method_33_code, 4, (some .int), ({ frames := 5, cells := 0, slots := 0, locals := 88 } : Room))
theorem d28_0 : DAt B28 0 (.aload_n 0) 1 1 := ⟨by decide +kernel, rfl⟩
theorem d28_1 : DAt B28 1 (.iload_n 1) 1 2 := ⟨by decide +kernel, rfl⟩
theorem d28_2 : DAt B28 2 (.invokevirtual 99) 3 5 := ⟨by decide +kernel, rfl⟩
theorem d28_5 : DAt B28 5 (.ifCond .eq 23) 3 8 := ⟨by decide +kernel, rfl⟩
theorem d28_8 : DAt B28 8 (.aload_n 0) 1 9 := ⟨by decide +kernel, rfl⟩
theorem d28_9 : DAt B28 9 (.getfield 22) 3 12 := ⟨by decide +kernel, rfl⟩
theorem d28_12 : DAt B28 12 (.aload_n 0) 1 13 := ⟨by decide +kernel, rfl⟩
theorem d28_13 : DAt B28 13 (.aload_n 0) 1 14 := ⟨by decide +kernel, rfl⟩
theorem d28_14 : DAt B28 14 (.getfield 16) 3 17 := ⟨by decide +kernel, rfl⟩
theorem d28_17 : DAt B28 17 (.iload_n 1) 1 18 := ⟨by decide +kernel, rfl⟩
theorem d28_18 : DAt B28 18 (.iconst 5) 1 19 := ⟨by decide +kernel, rfl⟩
theorem d28_19 : DAt B28 19 (.imul) 1 20 := ⟨by decide +kernel, rfl⟩
theorem d28_20 : DAt B28 20 (.iaload) 1 21 := ⟨by decide +kernel, rfl⟩
theorem d28_21 : DAt B28 21 (.iload_n 2) 1 22 := ⟨by decide +kernel, rfl⟩
theorem d28_22 : DAt B28 22 (.iload_n 3) 1 23 := ⟨by decide +kernel, rfl⟩
theorem d28_23 : DAt B28 23 (.invokevirtual 84) 3 26 := ⟨by decide +kernel, rfl⟩
theorem d28_26 : DAt B28 26 (.iaload) 1 27 := ⟨by decide +kernel, rfl⟩
theorem d28_27 : DAt B28 27 (.ireturn) 1 28 := ⟨by decide +kernel, rfl⟩
theorem d28_28 : DAt B28 28 (.aload_n 0) 1 29 := ⟨by decide +kernel, rfl⟩
theorem d28_29 : DAt B28 29 (.iload_n 1) 1 30 := ⟨by decide +kernel, rfl⟩
theorem d28_30 : DAt B28 30 (.iload_n 2) 1 31 := ⟨by decide +kernel, rfl⟩
theorem d28_31 : DAt B28 31 (.iload_n 3) 1 32 := ⟨by decide +kernel, rfl⟩
theorem d28_32 : DAt B28 32 (.invokevirtual 107) 3 35 := ⟨by decide +kernel, rfl⟩
theorem d28_35 : DAt B28 35 (.ireturn) 1 36 := ⟨by decide +kernel, rfl⟩
def B27 : Bdy := ((⟨"GrammarReshaper", "findRule", "(III)I"⟩ : MethodName), prog_1_method_36_code, 6, (some .int), ({ frames := 6, cells := 0, slots := 0, locals := 103 } : Room))
theorem d27_0 : DAt B27 0 (.iconst 0) 1 1 := ⟨by decide +kernel, rfl⟩
theorem d27_1 : DAt B27 1 (.istore 4) 2 3 := ⟨by decide +kernel, rfl⟩
theorem d27_3 : DAt B27 3 (.iload 4) 2 5 := ⟨by decide +kernel, rfl⟩
theorem d27_5 : DAt B27 5 (.aload_n 0) 1 6 := ⟨by decide +kernel, rfl⟩
theorem d27_6 : DAt B27 6 (.getfield 56) 3 9 := ⟨by decide +kernel, rfl⟩
theorem d27_9 : DAt B27 9 (.if_icmp .ge 38) 3 12 := ⟨by decide +kernel, rfl⟩
theorem d27_12 : DAt B27 12 (.aload_n 0) 1 13 := ⟨by decide +kernel, rfl⟩
theorem d27_13 : DAt B27 13 (.getfield 7) 3 16 := ⟨by decide +kernel, rfl⟩
theorem d27_16 : DAt B27 16 (.iload 4) 2 18 := ⟨by decide +kernel, rfl⟩
theorem d27_18 : DAt B27 18 (.iaload) 1 19 := ⟨by decide +kernel, rfl⟩
theorem d27_19 : DAt B27 19 (.iload_n 1) 1 20 := ⟨by decide +kernel, rfl⟩
theorem d27_20 : DAt B27 20 (.if_icmp .ne 21) 3 23 := ⟨by decide +kernel, rfl⟩
theorem d27_23 : DAt B27 23 (.aload_n 0) 1 24 := ⟨by decide +kernel, rfl⟩
theorem d27_24 : DAt B27 24 (.iload 4) 2 26 := ⟨by decide +kernel, rfl⟩
theorem d27_26 : DAt B27 26 (.iload_n 2) 1 27 := ⟨by decide +kernel, rfl⟩
theorem d27_27 : DAt B27 27 (.iload_n 3) 1 28 := ⟨by decide +kernel, rfl⟩
theorem d27_28 : DAt B27 28 (.invokevirtual 140) 3 31 := ⟨by decide +kernel, rfl⟩
theorem d27_31 : DAt B27 31 (.istore 5) 2 33 := ⟨by decide +kernel, rfl⟩
theorem d27_33 : DAt B27 33 (.iload 5) 2 35 := ⟨by decide +kernel, rfl⟩
theorem d27_35 : DAt B27 35 (.ifCond .le 6) 3 38 := ⟨by decide +kernel, rfl⟩
theorem d27_38 : DAt B27 38 (.iload 4) 2 40 := ⟨by decide +kernel, rfl⟩
theorem d27_40 : DAt B27 40 (.ireturn) 1 41 := ⟨by decide +kernel, rfl⟩
theorem d27_41 : DAt B27 41 (.iinc 4 1) 3 44 := ⟨by decide +kernel, rfl⟩
theorem d27_44 : DAt B27 44 (.goto (-41)) 3 47 := ⟨by decide +kernel, rfl⟩
theorem d27_47 : DAt B27 47 (.iconst (-1)) 1 48 := ⟨by decide +kernel, rfl⟩
theorem d27_48 : DAt B27 48 (.ireturn) 1 49 := ⟨by decide +kernel, rfl⟩
def B30 : Bdy := ((⟨"GrammarReshaper", "findSplit", "(IIII)I"⟩ : MethodName), prog_1_method_38_code, 8, (some .int), ({ frames := 2, cells := 0, slots := 0, locals := 31 } : Room))
theorem d30_0 : DAt B30 0 (.iload_n 3) 1 1 := ⟨by decide +kernel, rfl⟩
theorem d30_1 : DAt B30 1 (.iload_n 1) 1 2 := ⟨by decide +kernel, rfl⟩
theorem d30_2 : DAt B30 2 (.iadd) 1 3 := ⟨by decide +kernel, rfl⟩
theorem d30_3 : DAt B30 3 (.iconst 1) 1 4 := ⟨by decide +kernel, rfl⟩
theorem d30_4 : DAt B30 4 (.isub) 1 5 := ⟨by decide +kernel, rfl⟩
theorem d30_5 : DAt B30 5 (.istore 5) 2 7 := ⟨by decide +kernel, rfl⟩
theorem d30_7 : DAt B30 7 (.iload 5) 2 9 := ⟨by decide +kernel, rfl⟩
theorem d30_9 : DAt B30 9 (.iload 4) 2 11 := ⟨by decide +kernel, rfl⟩
theorem d30_11 : DAt B30 11 (.if_icmp .ge 49) 3 14 := ⟨by decide +kernel, rfl⟩
theorem d30_14 : DAt B30 14 (.aload_n 0) 1 15 := ⟨by decide +kernel, rfl⟩
theorem d30_15 : DAt B30 15 (.getfield 25) 3 18 := ⟨by decide +kernel, rfl⟩
theorem d30_18 : DAt B30 18 (.iload_n 1) 1 19 := ⟨by decide +kernel, rfl⟩
theorem d30_19 : DAt B30 19 (.iconst 1) 1 20 := ⟨by decide +kernel, rfl⟩
theorem d30_20 : DAt B30 20 (.isub) 1 21 := ⟨by decide +kernel, rfl⟩
theorem d30_21 : DAt B30 21 (.bipush 17) 2 23 := ⟨by decide +kernel, rfl⟩
theorem d30_23 : DAt B30 23 (.imul) 1 24 := ⟨by decide +kernel, rfl⟩
theorem d30_24 : DAt B30 24 (.iload 5) 2 26 := ⟨by decide +kernel, rfl⟩
theorem d30_26 : DAt B30 26 (.iadd) 1 27 := ⟨by decide +kernel, rfl⟩
theorem d30_27 : DAt B30 27 (.iaload) 1 28 := ⟨by decide +kernel, rfl⟩
theorem d30_28 : DAt B30 28 (.istore 6) 2 30 := ⟨by decide +kernel, rfl⟩
theorem d30_30 : DAt B30 30 (.iload 6) 2 32 := ⟨by decide +kernel, rfl⟩
theorem d30_32 : DAt B30 32 (.ifCond .eq 22) 3 35 := ⟨by decide +kernel, rfl⟩
theorem d30_35 : DAt B30 35 (.aload_n 0) 1 36 := ⟨by decide +kernel, rfl⟩
theorem d30_36 : DAt B30 36 (.iload_n 2) 1 37 := ⟨by decide +kernel, rfl⟩
theorem d30_37 : DAt B30 37 (.iload 5) 2 39 := ⟨by decide +kernel, rfl⟩
theorem d30_39 : DAt B30 39 (.iload 4) 2 41 := ⟨by decide +kernel, rfl⟩
theorem d30_41 : DAt B30 41 (.invokevirtual 125) 3 44 := ⟨by decide +kernel, rfl⟩
theorem d30_44 : DAt B30 44 (.istore 7) 2 46 := ⟨by decide +kernel, rfl⟩
theorem d30_46 : DAt B30 46 (.iload 7) 2 48 := ⟨by decide +kernel, rfl⟩
theorem d30_48 : DAt B30 48 (.ifCond .eq 6) 3 51 := ⟨by decide +kernel, rfl⟩
theorem d30_51 : DAt B30 51 (.iload 5) 2 53 := ⟨by decide +kernel, rfl⟩
theorem d30_53 : DAt B30 53 (.ireturn) 1 54 := ⟨by decide +kernel, rfl⟩
theorem d30_54 : DAt B30 54 (.iinc 5 1) 3 57 := ⟨by decide +kernel, rfl⟩
theorem d30_57 : DAt B30 57 (.goto (-50)) 3 60 := ⟨by decide +kernel, rfl⟩
theorem d30_60 : DAt B30 60 (.iconst (-1)) 1 61 := ⟨by decide +kernel, rfl⟩
theorem d30_61 : DAt B30 61 (.ireturn) 1 62 := ⟨by decide +kernel, rfl⟩
def B29 : Bdy := ((⟨"GrammarReshaper", "expand", "(III)V"⟩ : MethodName), prog_1_method_37_code, 8, none, ({ frames := 4, cells := 0, slots := 0, locals := 73 } : Room))
theorem d29_0 : DAt B29 0 (.aload_n 0) 1 1 := ⟨by decide +kernel, rfl⟩
theorem d29_1 : DAt B29 1 (.iload_n 1) 1 2 := ⟨by decide +kernel, rfl⟩
theorem d29_2 : DAt B29 2 (.invokevirtual 99) 3 5 := ⟨by decide +kernel, rfl⟩
theorem d29_5 : DAt B29 5 (.ifCond .eq 18) 3 8 := ⟨by decide +kernel, rfl⟩
theorem d29_8 : DAt B29 8 (.aload_n 0) 1 9 := ⟨by decide +kernel, rfl⟩
theorem d29_9 : DAt B29 9 (.aload_n 0) 1 10 := ⟨by decide +kernel, rfl⟩
theorem d29_10 : DAt B29 10 (.getfield 16) 3 13 := ⟨by decide +kernel, rfl⟩
theorem d29_13 : DAt B29 13 (.iload_n 1) 1 14 := ⟨by decide +kernel, rfl⟩
theorem d29_14 : DAt B29 14 (.iconst 5) 1 15 := ⟨by decide +kernel, rfl⟩
theorem d29_15 : DAt B29 15 (.imul) 1 16 := ⟨by decide +kernel, rfl⟩
theorem d29_16 : DAt B29 16 (.iaload) 1 17 := ⟨by decide +kernel, rfl⟩
theorem d29_17 : DAt B29 17 (.iload_n 2) 1 18 := ⟨by decide +kernel, rfl⟩
theorem d29_18 : DAt B29 18 (.iload_n 3) 1 19 := ⟨by decide +kernel, rfl⟩
theorem d29_19 : DAt B29 19 (.invokevirtual 131) 3 22 := ⟨by decide +kernel, rfl⟩
theorem d29_22 : DAt B29 22 (.return_) 1 23 := ⟨by decide +kernel, rfl⟩
theorem d29_23 : DAt B29 23 (.aload_n 0) 1 24 := ⟨by decide +kernel, rfl⟩
theorem d29_24 : DAt B29 24 (.iload_n 1) 1 25 := ⟨by decide +kernel, rfl⟩
theorem d29_25 : DAt B29 25 (.iload_n 2) 1 26 := ⟨by decide +kernel, rfl⟩
theorem d29_26 : DAt B29 26 (.iload_n 3) 1 27 := ⟨by decide +kernel, rfl⟩
theorem d29_27 : DAt B29 27 (.invokevirtual 118) 3 30 := ⟨by decide +kernel, rfl⟩
theorem d29_30 : DAt B29 30 (.iload_n 3) 1 31 := ⟨by decide +kernel, rfl⟩
theorem d29_31 : DAt B29 31 (.istore 4) 2 33 := ⟨by decide +kernel, rfl⟩
theorem d29_33 : DAt B29 33 (.aload_n 0) 1 34 := ⟨by decide +kernel, rfl⟩
theorem d29_34 : DAt B29 34 (.getfield 13) 3 37 := ⟨by decide +kernel, rfl⟩
theorem d29_37 : DAt B29 37 (.iload_n 1) 1 38 := ⟨by decide +kernel, rfl⟩
theorem d29_38 : DAt B29 38 (.iaload) 1 39 := ⟨by decide +kernel, rfl⟩
theorem d29_39 : DAt B29 39 (.istore 5) 2 41 := ⟨by decide +kernel, rfl⟩
theorem d29_41 : DAt B29 41 (.iload 5) 2 43 := ⟨by decide +kernel, rfl⟩
theorem d29_43 : DAt B29 43 (.iconst 1) 1 44 := ⟨by decide +kernel, rfl⟩
theorem d29_44 : DAt B29 44 (.if_icmp .lt 64) 3 47 := ⟨by decide +kernel, rfl⟩
theorem d29_47 : DAt B29 47 (.aload_n 0) 1 48 := ⟨by decide +kernel, rfl⟩
theorem d29_48 : DAt B29 48 (.getfield 16) 3 51 := ⟨by decide +kernel, rfl⟩
theorem d29_51 : DAt B29 51 (.iload_n 1) 1 52 := ⟨by decide +kernel, rfl⟩
theorem d29_52 : DAt B29 52 (.iconst 5) 1 53 := ⟨by decide +kernel, rfl⟩
theorem d29_53 : DAt B29 53 (.imul) 1 54 := ⟨by decide +kernel, rfl⟩
theorem d29_54 : DAt B29 54 (.iload 5) 2 56 := ⟨by decide +kernel, rfl⟩
theorem d29_56 : DAt B29 56 (.iadd) 1 57 := ⟨by decide +kernel, rfl⟩
theorem d29_57 : DAt B29 57 (.iconst 1) 1 58 := ⟨by decide +kernel, rfl⟩
theorem d29_58 : DAt B29 58 (.isub) 1 59 := ⟨by decide +kernel, rfl⟩
theorem d29_59 : DAt B29 59 (.iaload) 1 60 := ⟨by decide +kernel, rfl⟩
theorem d29_60 : DAt B29 60 (.istore 6) 2 62 := ⟨by decide +kernel, rfl⟩
theorem d29_62 : DAt B29 62 (.aload_n 0) 1 63 := ⟨by decide +kernel, rfl⟩
theorem d29_63 : DAt B29 63 (.iload 5) 2 65 := ⟨by decide +kernel, rfl⟩
theorem d29_65 : DAt B29 65 (.iload 6) 2 67 := ⟨by decide +kernel, rfl⟩
theorem d29_67 : DAt B29 67 (.iload_n 2) 1 68 := ⟨by decide +kernel, rfl⟩
theorem d29_68 : DAt B29 68 (.iload 4) 2 70 := ⟨by decide +kernel, rfl⟩
theorem d29_70 : DAt B29 70 (.invokevirtual 143) 3 73 := ⟨by decide +kernel, rfl⟩
theorem d29_73 : DAt B29 73 (.istore 7) 2 75 := ⟨by decide +kernel, rfl⟩
theorem d29_75 : DAt B29 75 (.iload 7) 2 77 := ⟨by decide +kernel, rfl⟩
theorem d29_77 : DAt B29 77 (.ifCond .ge 4) 3 80 := ⟨by decide +kernel, rfl⟩
theorem d29_80 : DAt B29 80 (.return_) 1 81 := ⟨by decide +kernel, rfl⟩
theorem d29_81 : DAt B29 81 (.iload 6) 2 83 := ⟨by decide +kernel, rfl⟩
theorem d29_83 : DAt B29 83 (.bipush 8) 2 85 := ⟨by decide +kernel, rfl⟩
theorem d29_85 : DAt B29 85 (.if_icmp .ge 13) 3 88 := ⟨by decide +kernel, rfl⟩
theorem d29_88 : DAt B29 88 (.aload_n 0) 1 89 := ⟨by decide +kernel, rfl⟩
theorem d29_89 : DAt B29 89 (.iload 6) 2 91 := ⟨by decide +kernel, rfl⟩
theorem d29_91 : DAt B29 91 (.iload 7) 2 93 := ⟨by decide +kernel, rfl⟩
theorem d29_93 : DAt B29 93 (.iload 4) 2 95 := ⟨by decide +kernel, rfl⟩
theorem d29_95 : DAt B29 95 (.invokevirtual 131) 3 98 := ⟨by decide +kernel, rfl⟩
theorem d29_98 : DAt B29 98 (.iload 7) 2 100 := ⟨by decide +kernel, rfl⟩
theorem d29_100 : DAt B29 100 (.istore 4) 2 102 := ⟨by decide +kernel, rfl⟩
theorem d29_102 : DAt B29 102 (.iinc 5 (-1)) 3 105 := ⟨by decide +kernel, rfl⟩
theorem d29_105 : DAt B29 105 (.goto (-64)) 3 108 := ⟨by decide +kernel, rfl⟩
theorem d29_108 : DAt B29 108 (.return_) 1 109 := ⟨by decide +kernel, rfl⟩
def B25 : Bdy := ((⟨"GrammarReshaper", "extract", "()V"⟩ : MethodName), prog_1_method_35_code, 6, none, ({ frames := 7, cells := 0, slots := 0, locals := 120 } : Room))
theorem d25_0 : DAt B25 0 (.aload_n 0) 1 1 := ⟨by decide +kernel, rfl⟩
theorem d25_1 : DAt B25 1 (.iconst 0) 1 2 := ⟨by decide +kernel, rfl⟩
theorem d25_2 : DAt B25 2 (.putfield 68) 3 5 := ⟨by decide +kernel, rfl⟩
theorem d25_5 : DAt B25 5 (.aload_n 0) 1 6 := ⟨by decide +kernel, rfl⟩
theorem d25_6 : DAt B25 6 (.iconst 0) 1 7 := ⟨by decide +kernel, rfl⟩
theorem d25_7 : DAt B25 7 (.putfield 65) 3 10 := ⟨by decide +kernel, rfl⟩
theorem d25_10 : DAt B25 10 (.aload_n 0) 1 11 := ⟨by decide +kernel, rfl⟩
theorem d25_11 : DAt B25 11 (.iconst 0) 1 12 := ⟨by decide +kernel, rfl⟩
theorem d25_12 : DAt B25 12 (.iconst 0) 1 13 := ⟨by decide +kernel, rfl⟩
theorem d25_13 : DAt B25 13 (.aload_n 0) 1 14 := ⟨by decide +kernel, rfl⟩
theorem d25_14 : DAt B25 14 (.getfield 59) 3 17 := ⟨by decide +kernel, rfl⟩
theorem d25_17 : DAt B25 17 (.invokevirtual 131) 3 20 := ⟨by decide +kernel, rfl⟩
theorem d25_20 : DAt B25 20 (.iconst 0) 1 21 := ⟨by decide +kernel, rfl⟩
theorem d25_21 : DAt B25 21 (.istore_n 1) 1 22 := ⟨by decide +kernel, rfl⟩
theorem d25_22 : DAt B25 22 (.iload_n 1) 1 23 := ⟨by decide +kernel, rfl⟩
theorem d25_23 : DAt B25 23 (.sipush 256) 3 26 := ⟨by decide +kernel, rfl⟩
theorem d25_26 : DAt B25 26 (.if_icmp .ge 118) 3 29 := ⟨by decide +kernel, rfl⟩
theorem d25_29 : DAt B25 29 (.aload_n 0) 1 30 := ⟨by decide +kernel, rfl⟩
theorem d25_30 : DAt B25 30 (.getfield 68) 3 33 := ⟨by decide +kernel, rfl⟩
theorem d25_33 : DAt B25 33 (.ifCond .ne 6) 3 36 := ⟨by decide +kernel, rfl⟩
theorem d25_36 : DAt B25 36 (.goto 108) 3 39 := ⟨by decide +kernel, rfl⟩
theorem d25_39 : DAt B25 39 (.aload_n 0) 1 40 := ⟨by decide +kernel, rfl⟩
theorem d25_40 : DAt B25 40 (.dup) 1 41 := ⟨by decide +kernel, rfl⟩
theorem d25_41 : DAt B25 41 (.getfield 68) 3 44 := ⟨by decide +kernel, rfl⟩
theorem d25_44 : DAt B25 44 (.iconst 1) 1 45 := ⟨by decide +kernel, rfl⟩
theorem d25_45 : DAt B25 45 (.isub) 1 46 := ⟨by decide +kernel, rfl⟩
theorem d25_46 : DAt B25 46 (.putfield 68) 3 49 := ⟨by decide +kernel, rfl⟩
theorem d25_49 : DAt B25 49 (.aload_n 0) 1 50 := ⟨by decide +kernel, rfl⟩
theorem d25_50 : DAt B25 50 (.getfield 37) 3 53 := ⟨by decide +kernel, rfl⟩
theorem d25_53 : DAt B25 53 (.aload_n 0) 1 54 := ⟨by decide +kernel, rfl⟩
theorem d25_54 : DAt B25 54 (.getfield 68) 3 57 := ⟨by decide +kernel, rfl⟩
theorem d25_57 : DAt B25 57 (.iaload) 1 58 := ⟨by decide +kernel, rfl⟩
theorem d25_58 : DAt B25 58 (.istore_n 2) 1 59 := ⟨by decide +kernel, rfl⟩
theorem d25_59 : DAt B25 59 (.aload_n 0) 1 60 := ⟨by decide +kernel, rfl⟩
theorem d25_60 : DAt B25 60 (.getfield 40) 3 63 := ⟨by decide +kernel, rfl⟩
theorem d25_63 : DAt B25 63 (.aload_n 0) 1 64 := ⟨by decide +kernel, rfl⟩
theorem d25_64 : DAt B25 64 (.getfield 68) 3 67 := ⟨by decide +kernel, rfl⟩
theorem d25_67 : DAt B25 67 (.iaload) 1 68 := ⟨by decide +kernel, rfl⟩
theorem d25_68 : DAt B25 68 (.istore_n 3) 1 69 := ⟨by decide +kernel, rfl⟩
theorem d25_69 : DAt B25 69 (.aload_n 0) 1 70 := ⟨by decide +kernel, rfl⟩
theorem d25_70 : DAt B25 70 (.getfield 43) 3 73 := ⟨by decide +kernel, rfl⟩
theorem d25_73 : DAt B25 73 (.aload_n 0) 1 74 := ⟨by decide +kernel, rfl⟩
theorem d25_74 : DAt B25 74 (.getfield 68) 3 77 := ⟨by decide +kernel, rfl⟩
theorem d25_77 : DAt B25 77 (.iaload) 1 78 := ⟨by decide +kernel, rfl⟩
theorem d25_78 : DAt B25 78 (.istore 4) 2 80 := ⟨by decide +kernel, rfl⟩
theorem d25_80 : DAt B25 80 (.aload_n 0) 1 81 := ⟨by decide +kernel, rfl⟩
theorem d25_81 : DAt B25 81 (.iload_n 2) 1 82 := ⟨by decide +kernel, rfl⟩
theorem d25_82 : DAt B25 82 (.iload_n 3) 1 83 := ⟨by decide +kernel, rfl⟩
theorem d25_83 : DAt B25 83 (.iload 4) 2 85 := ⟨by decide +kernel, rfl⟩
theorem d25_85 : DAt B25 85 (.invokevirtual 134) 3 88 := ⟨by decide +kernel, rfl⟩
theorem d25_88 : DAt B25 88 (.istore 5) 2 90 := ⟨by decide +kernel, rfl⟩
theorem d25_90 : DAt B25 90 (.iload 5) 2 92 := ⟨by decide +kernel, rfl⟩
theorem d25_92 : DAt B25 92 (.ifCond .lt 52) 3 95 := ⟨by decide +kernel, rfl⟩
theorem d25_95 : DAt B25 95 (.aload_n 0) 1 96 := ⟨by decide +kernel, rfl⟩
theorem d25_96 : DAt B25 96 (.getfield 65) 3 99 := ⟨by decide +kernel, rfl⟩
theorem d25_99 : DAt B25 99 (.sipush 256) 3 102 := ⟨by decide +kernel, rfl⟩
theorem d25_102 : DAt B25 102 (.if_icmp .lt 6) 3 105 := ⟨by decide +kernel, rfl⟩
theorem d25_105 : DAt B25 105 (.goto 39) 3 108 := ⟨by decide +kernel, rfl⟩
theorem d25_108 : DAt B25 108 (.aload_n 0) 1 109 := ⟨by decide +kernel, rfl⟩
theorem d25_109 : DAt B25 109 (.getfield 34) 3 112 := ⟨by decide +kernel, rfl⟩
theorem d25_112 : DAt B25 112 (.aload_n 0) 1 113 := ⟨by decide +kernel, rfl⟩
theorem d25_113 : DAt B25 113 (.getfield 65) 3 116 := ⟨by decide +kernel, rfl⟩
theorem d25_116 : DAt B25 116 (.iload 5) 2 118 := ⟨by decide +kernel, rfl⟩
theorem d25_118 : DAt B25 118 (.iastore) 1 119 := ⟨by decide +kernel, rfl⟩
theorem d25_119 : DAt B25 119 (.aload_n 0) 1 120 := ⟨by decide +kernel, rfl⟩
theorem d25_120 : DAt B25 120 (.dup) 1 121 := ⟨by decide +kernel, rfl⟩
theorem d25_121 : DAt B25 121 (.getfield 65) 3 124 := ⟨by decide +kernel, rfl⟩
theorem d25_124 : DAt B25 124 (.iconst 1) 1 125 := ⟨by decide +kernel, rfl⟩
theorem d25_125 : DAt B25 125 (.iadd) 1 126 := ⟨by decide +kernel, rfl⟩
theorem d25_126 : DAt B25 126 (.putfield 65) 3 129 := ⟨by decide +kernel, rfl⟩
theorem d25_129 : DAt B25 129 (.aload_n 0) 1 130 := ⟨by decide +kernel, rfl⟩
theorem d25_130 : DAt B25 130 (.iload 5) 2 132 := ⟨by decide +kernel, rfl⟩
theorem d25_132 : DAt B25 132 (.iload_n 3) 1 133 := ⟨by decide +kernel, rfl⟩
theorem d25_133 : DAt B25 133 (.iload 4) 2 135 := ⟨by decide +kernel, rfl⟩
theorem d25_135 : DAt B25 135 (.invokevirtual 137) 3 138 := ⟨by decide +kernel, rfl⟩
theorem d25_138 : DAt B25 138 (.iinc 1 1) 3 141 := ⟨by decide +kernel, rfl⟩
theorem d25_141 : DAt B25 141 (.goto (-119)) 3 144 := ⟨by decide +kernel, rfl⟩
theorem d25_144 : DAt B25 144 (.return_) 1 145 := ⟨by decide +kernel, rfl⟩
def B11 : Bdy := ((⟨"GrammarReshaper", "parse", "()I"⟩ : MethodName), prog_1_method_8_code, 2, (some .int), ({ frames := 8, cells := 0, slots := 0, locals := 137 } : Room))
theorem d11_0 : DAt B11 0 (.aload_n 0) 1 1 := ⟨by decide +kernel, rfl⟩
theorem d11_1 : DAt B11 1 (.getfield 53) 3 4 := ⟨by decide +kernel, rfl⟩
theorem d11_4 : DAt B11 4 (.iconst 1) 1 5 := ⟨by decide +kernel, rfl⟩
theorem d11_5 : DAt B11 5 (.if_icmp .eq 5) 3 8 := ⟨by decide +kernel, rfl⟩
theorem d11_8 : DAt B11 8 (.iconst (-1)) 1 9 := ⟨by decide +kernel, rfl⟩
theorem d11_9 : DAt B11 9 (.ireturn) 1 10 := ⟨by decide +kernel, rfl⟩
theorem d11_10 : DAt B11 10 (.aload_n 0) 1 11 := ⟨by decide +kernel, rfl⟩
theorem d11_11 : DAt B11 11 (.iconst 0) 1 12 := ⟨by decide +kernel, rfl⟩
theorem d11_12 : DAt B11 12 (.putfield 65) 3 15 := ⟨by decide +kernel, rfl⟩
theorem d11_15 : DAt B11 15 (.aload_n 0) 1 16 := ⟨by decide +kernel, rfl⟩
theorem d11_16 : DAt B11 16 (.getfield 59) 3 19 := ⟨by decide +kernel, rfl⟩
theorem d11_19 : DAt B11 19 (.ifCond .ne 10) 3 22 := ⟨by decide +kernel, rfl⟩
theorem d11_22 : DAt B11 22 (.aload_n 0) 1 23 := ⟨by decide +kernel, rfl⟩
theorem d11_23 : DAt B11 23 (.iconst 0) 1 24 := ⟨by decide +kernel, rfl⟩
theorem d11_24 : DAt B11 24 (.putfield 62) 3 27 := ⟨by decide +kernel, rfl⟩
theorem d11_27 : DAt B11 27 (.iconst 0) 1 28 := ⟨by decide +kernel, rfl⟩
theorem d11_28 : DAt B11 28 (.ireturn) 1 29 := ⟨by decide +kernel, rfl⟩
theorem d11_29 : DAt B11 29 (.aload_n 0) 1 30 := ⟨by decide +kernel, rfl⟩
theorem d11_30 : DAt B11 30 (.invokevirtual 81) 3 33 := ⟨by decide +kernel, rfl⟩
theorem d11_33 : DAt B11 33 (.aload_n 0) 1 34 := ⟨by decide +kernel, rfl⟩
theorem d11_34 : DAt B11 34 (.getfield 22) 3 37 := ⟨by decide +kernel, rfl⟩
theorem d11_37 : DAt B11 37 (.aload_n 0) 1 38 := ⟨by decide +kernel, rfl⟩
theorem d11_38 : DAt B11 38 (.iconst 0) 1 39 := ⟨by decide +kernel, rfl⟩
theorem d11_39 : DAt B11 39 (.iconst 0) 1 40 := ⟨by decide +kernel, rfl⟩
theorem d11_40 : DAt B11 40 (.aload_n 0) 1 41 := ⟨by decide +kernel, rfl⟩
theorem d11_41 : DAt B11 41 (.getfield 59) 3 44 := ⟨by decide +kernel, rfl⟩
theorem d11_44 : DAt B11 44 (.invokevirtual 84) 3 47 := ⟨by decide +kernel, rfl⟩
theorem d11_47 : DAt B11 47 (.iaload) 1 48 := ⟨by decide +kernel, rfl⟩
theorem d11_48 : DAt B11 48 (.istore_n 1) 1 49 := ⟨by decide +kernel, rfl⟩
theorem d11_49 : DAt B11 49 (.aload_n 0) 1 50 := ⟨by decide +kernel, rfl⟩
theorem d11_50 : DAt B11 50 (.iload_n 1) 1 51 := ⟨by decide +kernel, rfl⟩
theorem d11_51 : DAt B11 51 (.putfield 62) 3 54 := ⟨by decide +kernel, rfl⟩
theorem d11_54 : DAt B11 54 (.iload_n 1) 1 55 := ⟨by decide +kernel, rfl⟩
theorem d11_55 : DAt B11 55 (.iconst 1) 1 56 := ⟨by decide +kernel, rfl⟩
theorem d11_56 : DAt B11 56 (.if_icmp .ne 7) 3 59 := ⟨by decide +kernel, rfl⟩
theorem d11_59 : DAt B11 59 (.aload_n 0) 1 60 := ⟨by decide +kernel, rfl⟩
theorem d11_60 : DAt B11 60 (.invokevirtual 88) 3 63 := ⟨by decide +kernel, rfl⟩
theorem d11_63 : DAt B11 63 (.iload_n 1) 1 64 := ⟨by decide +kernel, rfl⟩
theorem d11_64 : DAt B11 64 (.ireturn) 1 65 := ⟨by decide +kernel, rfl⟩
def B22 : Bdy := ((⟨"GrammarReshaper", "treeCount", "()I"⟩ : MethodName), prog_1_method_15_code, 1, (some .int), ({ frames := 0, cells := 0, slots := 0, locals := 0 } : Room))
theorem d22_0 : DAt B22 0 (.aload_n 0) 1 1 := ⟨by decide +kernel, rfl⟩
theorem d22_1 : DAt B22 1 (.getfield 62) 3 4 := ⟨by decide +kernel, rfl⟩
theorem d22_4 : DAt B22 4 (.ireturn) 1 5 := ⟨by decide +kernel, rfl⟩
def B23 : Bdy := ((⟨"GrammarReshaper", "derivationLength", "()I"⟩ : MethodName), prog_1_method_16_code, 1, (some .int), ({ frames := 0, cells := 0, slots := 0, locals := 0 } : Room))
theorem d23_0 : DAt B23 0 (.aload_n 0) 1 1 := ⟨by decide +kernel, rfl⟩
theorem d23_1 : DAt B23 1 (.getfield 62) 3 4 := ⟨by decide +kernel, rfl⟩
theorem d23_4 : DAt B23 4 (.iconst 1) 1 5 := ⟨by decide +kernel, rfl⟩
theorem d23_5 : DAt B23 5 (.if_icmp .eq 5) 3 8 := ⟨by decide +kernel, rfl⟩
theorem d23_8 : DAt B23 8 (.iconst 0) 1 9 := ⟨by decide +kernel, rfl⟩
theorem d23_9 : DAt B23 9 (.ireturn) 1 10 := ⟨by decide +kernel, rfl⟩
theorem d23_10 : DAt B23 10 (.aload_n 0) 1 11 := ⟨by decide +kernel, rfl⟩
theorem d23_11 : DAt B23 11 (.getfield 65) 3 14 := ⟨by decide +kernel, rfl⟩
theorem d23_14 : DAt B23 14 (.ireturn) 1 15 := ⟨by decide +kernel, rfl⟩
def B24 : Bdy := ((⟨"GrammarReshaper", "derivationRule", "(I)I"⟩ : MethodName), prog_1_method_17_code, 2, (some .int), ({ frames := 1, cells := 0, slots := 0, locals := 13 } : Room))
theorem d24_0 : DAt B24 0 (.iload_n 1) 1 1 := ⟨by decide +kernel, rfl⟩
theorem d24_1 : DAt B24 1 (.ifCond .lt 11) 3 4 := ⟨by decide +kernel, rfl⟩
theorem d24_4 : DAt B24 4 (.iload_n 1) 1 5 := ⟨by decide +kernel, rfl⟩
theorem d24_5 : DAt B24 5 (.aload_n 0) 1 6 := ⟨by decide +kernel, rfl⟩
theorem d24_6 : DAt B24 6 (.invokevirtual 91) 3 9 := ⟨by decide +kernel, rfl⟩
theorem d24_9 : DAt B24 9 (.if_icmp .lt 5) 3 12 := ⟨by decide +kernel, rfl⟩
theorem d24_12 : DAt B24 12 (.iconst (-1)) 1 13 := ⟨by decide +kernel, rfl⟩
theorem d24_13 : DAt B24 13 (.ireturn) 1 14 := ⟨by decide +kernel, rfl⟩
theorem d24_14 : DAt B24 14 (.aload_n 0) 1 15 := ⟨by decide +kernel, rfl⟩
theorem d24_15 : DAt B24 15 (.getfield 34) 3 18 := ⟨by decide +kernel, rfl⟩
theorem d24_18 : DAt B24 18 (.iload_n 1) 1 19 := ⟨by decide +kernel, rfl⟩
theorem d24_19 : DAt B24 19 (.iaload) 1 20 := ⟨by decide +kernel, rfl⟩
theorem d24_20 : DAt B24 20 (.ireturn) 1 21 := ⟨by decide +kernel, rfl⟩
def B0 : Bdy := (x, code, maxLocals, ret, room_1)
theorem d0_0 : DAt B0 0 (.iload_n 0) 1 1 := ⟨at_0, rfl⟩
theorem d0_1 : DAt B0 1 (.bipush 7) 2 3 := ⟨at_1, rfl⟩
theorem d0_3 : DAt B0 3 (.iand) 1 4 := ⟨at_3, rfl⟩
theorem d0_4 : DAt B0 4 (.istore 4) 2 6 := ⟨at_4, rfl⟩
theorem d0_6 : DAt B0 6 (.iload_n 1) 1 7 := ⟨at_6, rfl⟩
theorem d0_7 : DAt B0 7 (.bipush 7) 2 9 := ⟨at_7, rfl⟩
theorem d0_9 : DAt B0 9 (.iand) 1 10 := ⟨at_9, rfl⟩
theorem d0_10 : DAt B0 10 (.istore 5) 2 12 := ⟨at_10, rfl⟩
theorem d0_12 : DAt B0 12 (.iload_n 2) 1 13 := ⟨at_12, rfl⟩
theorem d0_13 : DAt B0 13 (.bipush 7) 2 15 := ⟨at_13, rfl⟩
theorem d0_15 : DAt B0 15 (.iand) 1 16 := ⟨at_15, rfl⟩
theorem d0_16 : DAt B0 16 (.istore 6) 2 18 := ⟨at_16, rfl⟩
theorem d0_18 : DAt B0 18 (.iload_n 3) 1 19 := ⟨at_18, rfl⟩
theorem d0_19 : DAt B0 19 (.iconst 3) 1 20 := ⟨at_19, rfl⟩
theorem d0_20 : DAt B0 20 (.iand) 1 21 := ⟨at_20, rfl⟩
theorem d0_21 : DAt B0 21 (.istore 7) 2 23 := ⟨at_21, rfl⟩
theorem d0_23 : DAt B0 23 (.new 7) 3 26 := ⟨at_23, rfl⟩
theorem d0_26 : DAt B0 26 (.dup) 1 27 := ⟨at_26, rfl⟩
theorem d0_27 : DAt B0 27 (.bipush 16) 2 29 := ⟨at_27, rfl⟩
theorem d0_29 : DAt B0 29 (.bipush 16) 2 31 := ⟨at_29, rfl⟩
theorem d0_31 : DAt B0 31 (.invokespecial 9) 3 34 := ⟨at_31, rfl⟩
theorem d0_34 : DAt B0 34 (.astore 8) 2 36 := ⟨at_34, rfl⟩
theorem d0_36 : DAt B0 36 (.iconst 1) 1 37 := ⟨at_36, rfl⟩
theorem d0_37 : DAt B0 37 (.istore 9) 2 39 := ⟨at_37, rfl⟩
theorem d0_39 : DAt B0 39 (.iload 9) 2 41 := ⟨at_39, rfl⟩
theorem d0_41 : DAt B0 41 (.aload 8) 2 43 := ⟨at_41, rfl⟩
theorem d0_43 : DAt B0 43 (.iconst 0) 1 44 := ⟨at_43, rfl⟩
theorem d0_44 : DAt B0 44 (.invokevirtual 12) 3 47 := ⟨at_44, rfl⟩
theorem d0_47 : DAt B0 47 (.ifCond .ne 7) 3 50 := ⟨at_47, rfl⟩
theorem d0_50 : DAt B0 50 (.iconst 1) 1 51 := ⟨at_50, rfl⟩
theorem d0_51 : DAt B0 51 (.goto 4) 3 54 := ⟨at_51, rfl⟩
theorem d0_54 : DAt B0 54 (.iconst 0) 1 55 := ⟨at_54, rfl⟩
theorem d0_55 : DAt B0 55 (.iand) 1 56 := ⟨at_55, rfl⟩
theorem d0_56 : DAt B0 56 (.istore 9) 2 58 := ⟨at_56, rfl⟩
theorem d0_58 : DAt B0 58 (.iload 9) 2 60 := ⟨at_58, rfl⟩
theorem d0_60 : DAt B0 60 (.aload 8) 2 62 := ⟨at_60, rfl⟩
theorem d0_62 : DAt B0 62 (.iconst 0) 1 63 := ⟨at_62, rfl⟩
theorem d0_63 : DAt B0 63 (.invokevirtual 16) 3 66 := ⟨at_63, rfl⟩
theorem d0_66 : DAt B0 66 (.ifCond .ne 7) 3 69 := ⟨at_66, rfl⟩
theorem d0_69 : DAt B0 69 (.iconst 1) 1 70 := ⟨at_69, rfl⟩
theorem d0_70 : DAt B0 70 (.goto 4) 3 73 := ⟨at_70, rfl⟩
theorem d0_73 : DAt B0 73 (.iconst 0) 1 74 := ⟨at_73, rfl⟩
theorem d0_74 : DAt B0 74 (.iand) 1 75 := ⟨at_74, rfl⟩
theorem d0_75 : DAt B0 75 (.istore 9) 2 77 := ⟨at_75, rfl⟩
theorem d0_77 : DAt B0 77 (.iload 9) 2 79 := ⟨at_77, rfl⟩
theorem d0_79 : DAt B0 79 (.aload 8) 2 81 := ⟨at_79, rfl⟩
theorem d0_81 : DAt B0 81 (.bipush 8) 2 83 := ⟨at_81, rfl⟩
theorem d0_83 : DAt B0 83 (.iload 4) 2 85 := ⟨at_83, rfl⟩
theorem d0_85 : DAt B0 85 (.iadd) 1 86 := ⟨at_85, rfl⟩
theorem d0_86 : DAt B0 86 (.invokevirtual 16) 3 89 := ⟨at_86, rfl⟩
theorem d0_89 : DAt B0 89 (.ifCond .ne 7) 3 92 := ⟨at_89, rfl⟩
theorem d0_92 : DAt B0 92 (.iconst 1) 1 93 := ⟨at_92, rfl⟩
theorem d0_93 : DAt B0 93 (.goto 4) 3 96 := ⟨at_93, rfl⟩
theorem d0_96 : DAt B0 96 (.iconst 0) 1 97 := ⟨at_96, rfl⟩
theorem d0_97 : DAt B0 97 (.iand) 1 98 := ⟨at_97, rfl⟩
theorem d0_98 : DAt B0 98 (.istore 9) 2 100 := ⟨at_98, rfl⟩
theorem d0_100 : DAt B0 100 (.iload 9) 2 102 := ⟨at_100, rfl⟩
theorem d0_102 : DAt B0 102 (.aload 8) 2 104 := ⟨at_102, rfl⟩
theorem d0_104 : DAt B0 104 (.iconst 0) 1 105 := ⟨at_104, rfl⟩
theorem d0_105 : DAt B0 105 (.invokevirtual 12) 3 108 := ⟨at_105, rfl⟩
theorem d0_108 : DAt B0 108 (.ifCond .ne 7) 3 111 := ⟨at_108, rfl⟩
theorem d0_111 : DAt B0 111 (.iconst 1) 1 112 := ⟨at_111, rfl⟩
theorem d0_112 : DAt B0 112 (.goto 4) 3 115 := ⟨at_112, rfl⟩
theorem d0_115 : DAt B0 115 (.iconst 0) 1 116 := ⟨at_115, rfl⟩
theorem d0_116 : DAt B0 116 (.iand) 1 117 := ⟨at_116, rfl⟩
theorem d0_117 : DAt B0 117 (.istore 9) 2 119 := ⟨at_117, rfl⟩
theorem d0_119 : DAt B0 119 (.iload 9) 2 121 := ⟨at_119, rfl⟩
theorem d0_121 : DAt B0 121 (.aload 8) 2 123 := ⟨at_121, rfl⟩
theorem d0_123 : DAt B0 123 (.bipush 8) 2 125 := ⟨at_123, rfl⟩
theorem d0_125 : DAt B0 125 (.iload 5) 2 127 := ⟨at_125, rfl⟩
theorem d0_127 : DAt B0 127 (.iadd) 1 128 := ⟨at_127, rfl⟩
theorem d0_128 : DAt B0 128 (.invokevirtual 16) 3 131 := ⟨at_128, rfl⟩
theorem d0_131 : DAt B0 131 (.ifCond .ne 7) 3 134 := ⟨at_131, rfl⟩
theorem d0_134 : DAt B0 134 (.iconst 1) 1 135 := ⟨at_134, rfl⟩
theorem d0_135 : DAt B0 135 (.goto 4) 3 138 := ⟨at_135, rfl⟩
theorem d0_138 : DAt B0 138 (.iconst 0) 1 139 := ⟨at_138, rfl⟩
theorem d0_139 : DAt B0 139 (.iand) 1 140 := ⟨at_139, rfl⟩
theorem d0_140 : DAt B0 140 (.istore 9) 2 142 := ⟨at_140, rfl⟩
theorem d0_142 : DAt B0 142 (.iload 9) 2 144 := ⟨at_142, rfl⟩
theorem d0_144 : DAt B0 144 (.aload 8) 2 146 := ⟨at_144, rfl⟩
theorem d0_146 : DAt B0 146 (.invokevirtual 19) 3 149 := ⟨at_146, rfl⟩
theorem d0_149 : DAt B0 149 (.ifCond .ne 7) 3 152 := ⟨at_149, rfl⟩
theorem d0_152 : DAt B0 152 (.iconst 1) 1 153 := ⟨at_152, rfl⟩
theorem d0_153 : DAt B0 153 (.goto 4) 3 156 := ⟨at_153, rfl⟩
theorem d0_156 : DAt B0 156 (.iconst 0) 1 157 := ⟨at_156, rfl⟩
theorem d0_157 : DAt B0 157 (.iand) 1 158 := ⟨at_157, rfl⟩
theorem d0_158 : DAt B0 158 (.istore 9) 2 160 := ⟨at_158, rfl⟩
theorem d0_160 : DAt B0 160 (.iload 9) 2 162 := ⟨at_160, rfl⟩
theorem d0_162 : DAt B0 162 (.aload 8) 2 164 := ⟨at_162, rfl⟩
theorem d0_164 : DAt B0 164 (.iload 5) 2 166 := ⟨at_164, rfl⟩
theorem d0_166 : DAt B0 166 (.invokevirtual 23) 3 169 := ⟨at_166, rfl⟩
theorem d0_169 : DAt B0 169 (.ifCond .ne 7) 3 172 := ⟨at_169, rfl⟩
theorem d0_172 : DAt B0 172 (.iconst 1) 1 173 := ⟨at_172, rfl⟩
theorem d0_173 : DAt B0 173 (.goto 4) 3 176 := ⟨at_173, rfl⟩
theorem d0_176 : DAt B0 176 (.iconst 0) 1 177 := ⟨at_176, rfl⟩
theorem d0_177 : DAt B0 177 (.iand) 1 178 := ⟨at_177, rfl⟩
theorem d0_178 : DAt B0 178 (.istore 9) 2 180 := ⟨at_178, rfl⟩
theorem d0_180 : DAt B0 180 (.iconst 0) 1 181 := ⟨at_180, rfl⟩
theorem d0_181 : DAt B0 181 (.istore 10) 2 183 := ⟨at_181, rfl⟩
theorem d0_183 : DAt B0 183 (.iload 10) 2 185 := ⟨at_183, rfl⟩
theorem d0_185 : DAt B0 185 (.iconst 3) 1 186 := ⟨at_185, rfl⟩
theorem d0_186 : DAt B0 186 (.if_icmp .ge 36) 3 189 := ⟨at_186, rfl⟩
theorem d0_189 : DAt B0 189 (.iload 10) 2 191 := ⟨at_189, rfl⟩
theorem d0_191 : DAt B0 191 (.iload 7) 2 193 := ⟨at_191, rfl⟩
theorem d0_193 : DAt B0 193 (.if_icmp .ge 23) 3 196 := ⟨at_193, rfl⟩
theorem d0_196 : DAt B0 196 (.iload 9) 2 198 := ⟨at_196, rfl⟩
theorem d0_198 : DAt B0 198 (.aload 8) 2 200 := ⟨at_198, rfl⟩
theorem d0_200 : DAt B0 200 (.iload 4) 2 202 := ⟨at_200, rfl⟩
theorem d0_202 : DAt B0 202 (.invokevirtual 23) 3 205 := ⟨at_202, rfl⟩
theorem d0_205 : DAt B0 205 (.ifCond .ne 7) 3 208 := ⟨at_205, rfl⟩
theorem d0_208 : DAt B0 208 (.iconst 1) 1 209 := ⟨at_208, rfl⟩
theorem d0_209 : DAt B0 209 (.goto 4) 3 212 := ⟨at_209, rfl⟩
theorem d0_212 : DAt B0 212 (.iconst 0) 1 213 := ⟨at_212, rfl⟩
theorem d0_213 : DAt B0 213 (.iand) 1 214 := ⟨at_213, rfl⟩
theorem d0_214 : DAt B0 214 (.istore 9) 2 216 := ⟨at_214, rfl⟩
theorem d0_216 : DAt B0 216 (.iinc 10 1) 3 219 := ⟨at_216, rfl⟩
theorem d0_219 : DAt B0 219 (.goto (-36)) 3 222 := ⟨at_219, rfl⟩
theorem d0_222 : DAt B0 222 (.iload 9) 2 224 := ⟨at_222, rfl⟩
theorem d0_224 : DAt B0 224 (.aload 8) 2 226 := ⟨at_224, rfl⟩
theorem d0_226 : DAt B0 226 (.iload 6) 2 228 := ⟨at_226, rfl⟩
theorem d0_228 : DAt B0 228 (.invokevirtual 23) 3 231 := ⟨at_228, rfl⟩
theorem d0_231 : DAt B0 231 (.ifCond .ne 7) 3 234 := ⟨at_231, rfl⟩
theorem d0_234 : DAt B0 234 (.iconst 1) 1 235 := ⟨at_234, rfl⟩
theorem d0_235 : DAt B0 235 (.goto 4) 3 238 := ⟨at_235, rfl⟩
theorem d0_238 : DAt B0 238 (.iconst 0) 1 239 := ⟨at_238, rfl⟩
theorem d0_239 : DAt B0 239 (.iand) 1 240 := ⟨at_239, rfl⟩
theorem d0_240 : DAt B0 240 (.istore 9) 2 242 := ⟨at_240, rfl⟩
theorem d0_242 : DAt B0 242 (.iload 6) 2 244 := ⟨at_242, rfl⟩
theorem d0_244 : DAt B0 244 (.iload 4) 2 246 := ⟨at_244, rfl⟩
theorem d0_246 : DAt B0 246 (.if_icmp .ne 7) 3 249 := ⟨at_246, rfl⟩
theorem d0_249 : DAt B0 249 (.iconst 1) 1 250 := ⟨at_249, rfl⟩
theorem d0_250 : DAt B0 250 (.goto 4) 3 253 := ⟨at_250, rfl⟩
theorem d0_253 : DAt B0 253 (.iconst 0) 1 254 := ⟨at_253, rfl⟩
theorem d0_254 : DAt B0 254 (.istore 10) 2 256 := ⟨at_254, rfl⟩
theorem d0_256 : DAt B0 256 (.aload 8) 2 258 := ⟨at_256, rfl⟩
theorem d0_258 : DAt B0 258 (.invokevirtual 26) 3 261 := ⟨at_258, rfl⟩
theorem d0_261 : DAt B0 261 (.istore 11) 2 263 := ⟨at_261, rfl⟩
theorem d0_263 : DAt B0 263 (.iload 9) 2 265 := ⟨at_263, rfl⟩
theorem d0_265 : DAt B0 265 (.iload 11) 2 267 := ⟨at_265, rfl⟩
theorem d0_267 : DAt B0 267 (.iload 10) 2 269 := ⟨at_267, rfl⟩
theorem d0_269 : DAt B0 269 (.if_icmp .ne 7) 3 272 := ⟨at_269, rfl⟩
theorem d0_272 : DAt B0 272 (.iconst 1) 1 273 := ⟨at_272, rfl⟩
theorem d0_273 : DAt B0 273 (.goto 4) 3 276 := ⟨at_273, rfl⟩
theorem d0_276 : DAt B0 276 (.iconst 0) 1 277 := ⟨at_276, rfl⟩
theorem d0_277 : DAt B0 277 (.iand) 1 278 := ⟨at_277, rfl⟩
theorem d0_278 : DAt B0 278 (.istore 9) 2 280 := ⟨at_278, rfl⟩
theorem d0_280 : DAt B0 280 (.iload 9) 2 282 := ⟨at_280, rfl⟩
theorem d0_282 : DAt B0 282 (.aload 8) 2 284 := ⟨at_282, rfl⟩
theorem d0_284 : DAt B0 284 (.invokevirtual 29) 3 287 := ⟨at_284, rfl⟩
theorem d0_287 : DAt B0 287 (.iload 10) 2 289 := ⟨at_287, rfl⟩
theorem d0_289 : DAt B0 289 (.if_icmp .ne 7) 3 292 := ⟨at_289, rfl⟩
theorem d0_292 : DAt B0 292 (.iconst 1) 1 293 := ⟨at_292, rfl⟩
theorem d0_293 : DAt B0 293 (.goto 4) 3 296 := ⟨at_293, rfl⟩
theorem d0_296 : DAt B0 296 (.iconst 0) 1 297 := ⟨at_296, rfl⟩
theorem d0_297 : DAt B0 297 (.iand) 1 298 := ⟨at_297, rfl⟩
theorem d0_298 : DAt B0 298 (.istore 9) 2 300 := ⟨at_298, rfl⟩
theorem d0_300 : DAt B0 300 (.aload 8) 2 302 := ⟨at_300, rfl⟩
theorem d0_302 : DAt B0 302 (.invokevirtual 32) 3 305 := ⟨at_302, rfl⟩
theorem d0_305 : DAt B0 305 (.istore 12) 2 307 := ⟨at_305, rfl⟩
theorem d0_307 : DAt B0 307 (.iload 6) 2 309 := ⟨at_307, rfl⟩
theorem d0_309 : DAt B0 309 (.iload 4) 2 311 := ⟨at_309, rfl⟩
theorem d0_311 : DAt B0 311 (.if_icmp .ne 115) 3 314 := ⟨at_311, rfl⟩
theorem d0_314 : DAt B0 314 (.iload 9) 2 316 := ⟨at_314, rfl⟩
theorem d0_316 : DAt B0 316 (.iload 12) 2 318 := ⟨at_316, rfl⟩
theorem d0_318 : DAt B0 318 (.iload 7) 2 320 := ⟨at_318, rfl⟩
theorem d0_320 : DAt B0 320 (.iconst 2) 1 321 := ⟨at_320, rfl⟩
theorem d0_321 : DAt B0 321 (.iadd) 1 322 := ⟨at_321, rfl⟩
theorem d0_322 : DAt B0 322 (.if_icmp .ne 7) 3 325 := ⟨at_322, rfl⟩
theorem d0_325 : DAt B0 325 (.iconst 1) 1 326 := ⟨at_325, rfl⟩
theorem d0_326 : DAt B0 326 (.goto 4) 3 329 := ⟨at_326, rfl⟩
theorem d0_329 : DAt B0 329 (.iconst 0) 1 330 := ⟨at_329, rfl⟩
theorem d0_330 : DAt B0 330 (.iand) 1 331 := ⟨at_330, rfl⟩
theorem d0_331 : DAt B0 331 (.istore 9) 2 333 := ⟨at_331, rfl⟩
theorem d0_333 : DAt B0 333 (.iconst 0) 1 334 := ⟨at_333, rfl⟩
theorem d0_334 : DAt B0 334 (.istore 13) 2 336 := ⟨at_334, rfl⟩
theorem d0_336 : DAt B0 336 (.iload 13) 2 338 := ⟨at_336, rfl⟩
theorem d0_338 : DAt B0 338 (.iconst 4) 1 339 := ⟨at_338, rfl⟩
theorem d0_339 : DAt B0 339 (.if_icmp .ge 38) 3 342 := ⟨at_339, rfl⟩
theorem d0_342 : DAt B0 342 (.iload 13) 2 344 := ⟨at_342, rfl⟩
theorem d0_344 : DAt B0 344 (.iload 7) 2 346 := ⟨at_344, rfl⟩
theorem d0_346 : DAt B0 346 (.iconst 1) 1 347 := ⟨at_346, rfl⟩
theorem d0_347 : DAt B0 347 (.iadd) 1 348 := ⟨at_347, rfl⟩
theorem d0_348 : DAt B0 348 (.if_icmp .ge 23) 3 351 := ⟨at_348, rfl⟩
theorem d0_351 : DAt B0 351 (.iload 9) 2 353 := ⟨at_351, rfl⟩
theorem d0_353 : DAt B0 353 (.aload 8) 2 355 := ⟨at_353, rfl⟩
theorem d0_355 : DAt B0 355 (.iload 13) 2 357 := ⟨at_355, rfl⟩
theorem d0_357 : DAt B0 357 (.invokevirtual 35) 3 360 := ⟨at_357, rfl⟩
theorem d0_360 : DAt B0 360 (.ifCond .ne 7) 3 363 := ⟨at_360, rfl⟩
theorem d0_363 : DAt B0 363 (.iconst 1) 1 364 := ⟨at_363, rfl⟩
theorem d0_364 : DAt B0 364 (.goto 4) 3 367 := ⟨at_364, rfl⟩
theorem d0_367 : DAt B0 367 (.iconst 0) 1 368 := ⟨at_367, rfl⟩
theorem d0_368 : DAt B0 368 (.iand) 1 369 := ⟨at_368, rfl⟩
theorem d0_369 : DAt B0 369 (.istore 9) 2 371 := ⟨at_369, rfl⟩
theorem d0_371 : DAt B0 371 (.iinc 13 1) 3 374 := ⟨at_371, rfl⟩
theorem d0_374 : DAt B0 374 (.goto (-38)) 3 377 := ⟨at_374, rfl⟩
theorem d0_377 : DAt B0 377 (.iload 9) 2 379 := ⟨at_377, rfl⟩
theorem d0_379 : DAt B0 379 (.aload 8) 2 381 := ⟨at_379, rfl⟩
theorem d0_381 : DAt B0 381 (.iload 7) 2 383 := ⟨at_381, rfl⟩
theorem d0_383 : DAt B0 383 (.iconst 1) 1 384 := ⟨at_383, rfl⟩
theorem d0_384 : DAt B0 384 (.iadd) 1 385 := ⟨at_384, rfl⟩
theorem d0_385 : DAt B0 385 (.invokevirtual 35) 3 388 := ⟨at_385, rfl⟩
theorem d0_388 : DAt B0 388 (.iconst 1) 1 389 := ⟨at_388, rfl⟩
theorem d0_389 : DAt B0 389 (.if_icmp .ne 7) 3 392 := ⟨at_389, rfl⟩
theorem d0_392 : DAt B0 392 (.iconst 1) 1 393 := ⟨at_392, rfl⟩
theorem d0_393 : DAt B0 393 (.goto 4) 3 396 := ⟨at_393, rfl⟩
theorem d0_396 : DAt B0 396 (.iconst 0) 1 397 := ⟨at_396, rfl⟩
theorem d0_397 : DAt B0 397 (.iand) 1 398 := ⟨at_397, rfl⟩
theorem d0_398 : DAt B0 398 (.istore 9) 2 400 := ⟨at_398, rfl⟩
theorem d0_400 : DAt B0 400 (.iload 9) 2 402 := ⟨at_400, rfl⟩
theorem d0_402 : DAt B0 402 (.aload 8) 2 404 := ⟨at_402, rfl⟩
theorem d0_404 : DAt B0 404 (.iload 7) 2 406 := ⟨at_404, rfl⟩
theorem d0_406 : DAt B0 406 (.iconst 2) 1 407 := ⟨at_406, rfl⟩
theorem d0_407 : DAt B0 407 (.iadd) 1 408 := ⟨at_407, rfl⟩
theorem d0_408 : DAt B0 408 (.invokevirtual 35) 3 411 := ⟨at_408, rfl⟩
theorem d0_411 : DAt B0 411 (.iconst (-1)) 1 412 := ⟨at_411, rfl⟩
theorem d0_412 : DAt B0 412 (.if_icmp .ne 7) 3 415 := ⟨at_412, rfl⟩
theorem d0_415 : DAt B0 415 (.iconst 1) 1 416 := ⟨at_415, rfl⟩
theorem d0_416 : DAt B0 416 (.goto 4) 3 419 := ⟨at_416, rfl⟩
theorem d0_419 : DAt B0 419 (.iconst 0) 1 420 := ⟨at_419, rfl⟩
theorem d0_420 : DAt B0 420 (.iand) 1 421 := ⟨at_420, rfl⟩
theorem d0_421 : DAt B0 421 (.istore 9) 2 423 := ⟨at_421, rfl⟩
theorem d0_423 : DAt B0 423 (.goto 38) 3 426 := ⟨at_423, rfl⟩
theorem d0_426 : DAt B0 426 (.iload 9) 2 428 := ⟨at_426, rfl⟩
theorem d0_428 : DAt B0 428 (.iload 12) 2 430 := ⟨at_428, rfl⟩
theorem d0_430 : DAt B0 430 (.ifCond .ne 7) 3 433 := ⟨at_430, rfl⟩
theorem d0_433 : DAt B0 433 (.iconst 1) 1 434 := ⟨at_433, rfl⟩
theorem d0_434 : DAt B0 434 (.goto 4) 3 437 := ⟨at_434, rfl⟩
theorem d0_437 : DAt B0 437 (.iconst 0) 1 438 := ⟨at_437, rfl⟩
theorem d0_438 : DAt B0 438 (.iand) 1 439 := ⟨at_438, rfl⟩
theorem d0_439 : DAt B0 439 (.istore 9) 2 441 := ⟨at_439, rfl⟩
theorem d0_441 : DAt B0 441 (.iload 9) 2 443 := ⟨at_441, rfl⟩
theorem d0_443 : DAt B0 443 (.aload 8) 2 445 := ⟨at_443, rfl⟩
theorem d0_445 : DAt B0 445 (.iconst 0) 1 446 := ⟨at_445, rfl⟩
theorem d0_446 : DAt B0 446 (.invokevirtual 35) 3 449 := ⟨at_446, rfl⟩
theorem d0_449 : DAt B0 449 (.iconst (-1)) 1 450 := ⟨at_449, rfl⟩
theorem d0_450 : DAt B0 450 (.if_icmp .ne 7) 3 453 := ⟨at_450, rfl⟩
theorem d0_453 : DAt B0 453 (.iconst 1) 1 454 := ⟨at_453, rfl⟩
theorem d0_454 : DAt B0 454 (.goto 4) 3 457 := ⟨at_454, rfl⟩
theorem d0_457 : DAt B0 457 (.iconst 0) 1 458 := ⟨at_457, rfl⟩
theorem d0_458 : DAt B0 458 (.iand) 1 459 := ⟨at_458, rfl⟩
theorem d0_459 : DAt B0 459 (.istore 9) 2 461 := ⟨at_459, rfl⟩
theorem d0_461 : DAt B0 461 (.iload 9) 2 463 := ⟨at_461, rfl⟩
theorem d0_463 : DAt B0 463 (.ireturn) 1 464 := ⟨at_463, rfl⟩
theorem ar1 : arity B1 2 := ⟨[.int, .int], none, by decide +kernel, rfl⟩
theorem ar2 : arity B2 1 := ⟨[.int], some .int, by decide +kernel, rfl⟩
theorem ar3 : arity B3 1 := ⟨[.int], some .int, by decide +kernel, rfl⟩
theorem ar4 : arity B4 0 := ⟨[], some .int, by decide +kernel, rfl⟩
theorem ar5 : arity B5 0 := ⟨[], some .boolean, by decide +kernel, rfl⟩
theorem ar6 : arity B6 0 := ⟨[], some .boolean, by decide +kernel, rfl⟩
theorem ar7 : arity B7 2 := ⟨[.int, .int], some .boolean, by decide +kernel, rfl⟩
theorem ar8 : arity B8 0 := ⟨[], some .boolean, by decide +kernel, rfl⟩
theorem ar9 : arity B9 1 := ⟨[.int], some .boolean, by decide +kernel, rfl⟩
theorem ar10 : arity B10 1 := ⟨[.int], some .int, by decide +kernel, rfl⟩
theorem ar11 : arity B11 0 := ⟨[], some .int, by decide +kernel, rfl⟩
theorem ar12 : arity B12 0 := ⟨[], none, by decide +kernel, rfl⟩
theorem ar13 : arity B13 2 := ⟨[.int, .int], none, by decide +kernel, rfl⟩
theorem ar14 : arity B14 3 := ⟨[.int, .int, .int], some .int, by decide +kernel, rfl⟩
theorem ar15 : arity B15 3 := ⟨[.int, .int, .int], some .int, by decide +kernel, rfl⟩
theorem ar16 : arity B16 3 := ⟨[.int, .int, .int], none, by decide +kernel, rfl⟩
theorem ar17 : arity B17 2 := ⟨[.int, .int], some .int, by decide +kernel, rfl⟩
theorem ar18 : arity B18 4 := ⟨[.int, .int, .int, .int], some .int, by decide +kernel, rfl⟩
theorem ar19 : arity B19 3 := ⟨[.int, .int, .int], some .int, by decide +kernel, rfl⟩
theorem ar20 : arity B20 2 := ⟨[.int, .int], some .int, by decide +kernel, rfl⟩
theorem ar21 : arity B21 3 := ⟨[.int, .int, .int], none, by decide +kernel, rfl⟩
theorem ar22 : arity B22 0 := ⟨[], some .int, by decide +kernel, rfl⟩
theorem ar23 : arity B23 0 := ⟨[], some .int, by decide +kernel, rfl⟩
theorem ar24 : arity B24 1 := ⟨[.int], some .int, by decide +kernel, rfl⟩
theorem ar25 : arity B25 0 := ⟨[], none, by decide +kernel, rfl⟩
theorem ar26 : arity B26 3 := ⟨[.int, .int, .int], none, by decide +kernel, rfl⟩
theorem ar27 : arity B27 3 := ⟨[.int, .int, .int], some .int, by decide +kernel, rfl⟩
theorem ar28 : arity B28 3 := ⟨[.int, .int, .int], some .int, by decide +kernel, rfl⟩
theorem ar29 : arity B29 3 := ⟨[.int, .int, .int], none, by decide +kernel, rfl⟩
theorem ar30 : arity B30 4 := ⟨[.int, .int, .int, .int], some .int, by decide +kernel, rfl⟩
theorem cw1 : code_w B1 := ⟨mem1 5 rfl, mem1 2 rfl, by decide⟩
theorem cw2 : code_w B2 := ⟨mem1 54 rfl, mem1 2 rfl, by decide⟩
theorem cw3 : code_w B3 := ⟨mem1 59 rfl, mem1 2 rfl, by decide⟩
theorem cw4 : code_w B4 := ⟨mem1 64 rfl, mem1 2 rfl, by decide⟩
theorem cw5 : code_w B5 := ⟨mem1 68 rfl, mem1 2 rfl, by decide⟩
theorem cw6 : code_w B6 := ⟨mem1 72 rfl, mem1 2 rfl, by decide⟩
theorem cw7 : code_w B7 := ⟨mem1 76 rfl, mem1 2 rfl, by decide⟩
theorem cw8 : code_w B8 := ⟨mem1 80 rfl, mem1 2 rfl, by decide⟩
theorem cw9 : code_w B9 := ⟨mem1 84 rfl, mem1 2 rfl, by decide⟩
theorem cw10 : code_w B10 := ⟨mem1 89 rfl, mem1 2 rfl, by decide⟩
theorem cw11 : code_w B11 := ⟨mem1 94 rfl, mem1 2 rfl, by decide⟩
theorem cw12 : code_w B12 := ⟨mem1 98 rfl, mem1 2 rfl, by decide⟩
theorem cw13 : code_w B13 := ⟨mem1 102 rfl, mem1 2 rfl, by decide⟩
theorem cw14 : code_w B14 := ⟨mem1 106 rfl, mem1 2 rfl, by decide⟩
theorem cw15 : code_w B15 := ⟨mem1 110 rfl, mem1 2 rfl, by decide⟩
theorem cw16 : code_w B16 := ⟨mem1 114 rfl, mem1 2 rfl, by decide⟩
theorem cw17 : code_w B17 := ⟨mem1 118 rfl, mem1 2 rfl, by decide⟩
theorem cw18 : code_w B18 := ⟨mem1 122 rfl, mem1 2 rfl, by decide⟩
theorem cw19 : code_w B19 := ⟨mem1 126 rfl, mem1 2 rfl, by decide⟩
theorem cw20 : code_w B20 := ⟨mem1 130 rfl, mem1 2 rfl, by decide⟩
theorem cw21 : code_w B21 := ⟨mem1 134 rfl, mem1 2 rfl, by decide⟩
theorem cw22 : code_w B22 := ⟨mem1 139 rfl, mem1 2 rfl, by decide⟩
theorem cw23 : code_w B23 := ⟨mem1 144 rfl, mem1 2 rfl, by decide⟩
theorem cw24 : code_w B24 := ⟨mem1 149 rfl, mem1 2 rfl, by decide⟩
theorem cw25 : code_w B25 := ⟨mem1 154 rfl, mem1 2 rfl, by decide⟩
theorem cw26 : code_w B26 := ⟨mem1 158 rfl, mem1 2 rfl, by decide⟩
theorem cw27 : code_w B27 := ⟨mem1 162 rfl, mem1 2 rfl, by decide⟩
theorem cw28 : code_w B28 := ⟨mem1 166 rfl, mem1 2 rfl, by decide⟩
theorem cw29 : code_w B29 := ⟨mem1 170 rfl, mem1 2 rfl, by decide⟩
theorem cw30 : code_w B30 := ⟨mem1 174 rfl, mem1 2 rfl, by decide⟩
theorem rk0_2_1 : room_ok B0 B2 1 := by decide
theorem rk0_3_1 : room_ok B0 B3 1 := by decide
theorem rk0_4_1 : room_ok B0 B4 1 := by decide
theorem rk0_10_1 : room_ok B0 B10 1 := by decide
theorem rk0_11_0 : room_ok B0 B11 0 := by decide
theorem rk0_22_1 : room_ok B0 B22 1 := by decide
theorem rk0_23_0 : room_ok B0 B23 0 := by decide
theorem rk0_24_1 : room_ok B0 B24 1 := by decide
theorem rk4_5_0 : room_ok B4 B5 0 := by decide
theorem rk4_6_0 : room_ok B4 B6 0 := by decide
theorem rk4_8_0 : room_ok B4 B8 0 := by decide
theorem rk6_7_0 : room_ok B6 B7 0 := by decide
theorem rk8_9_0 : room_ok B8 B9 0 := by decide
theorem rk11_12_0 : room_ok B11 B12 0 := by decide
theorem rk11_14_1 : room_ok B11 B14 1 := by decide
theorem rk11_25_0 : room_ok B11 B25 0 := by decide
theorem rk12_13_0 : room_ok B12 B13 0 := by decide
theorem rk13_9_0 : room_ok B13 B9 0 := by decide
theorem rk13_14_0 : room_ok B13 B14 0 := by decide
theorem rk13_14_1 : room_ok B13 B14 1 := by decide
theorem rk13_15_0 : room_ok B13 B15 0 := by decide
theorem rk13_17_2 : room_ok B13 B17 2 := by decide
theorem rk13_21_0 : room_ok B13 B21 0 := by decide
theorem rk15_16_0 : room_ok B15 B16 0 := by decide
theorem rk16_18_2 : room_ok B16 B18 2 := by decide
theorem rk18_17_0 : room_ok B18 B17 0 := by decide
theorem rk18_19_0 : room_ok B18 B19 0 := by decide
theorem rk18_20_0 : room_ok B18 B20 0 := by decide
theorem rk19_14_1 : room_ok B19 B14 1 := by decide
theorem rk21_9_0 : room_ok B21 B9 0 := by decide
theorem rk21_14_0 : room_ok B21 B14 0 := by decide
theorem rk21_14_1 : room_ok B21 B14 1 := by decide
theorem rk21_17_2 : room_ok B21 B17 2 := by decide
theorem rk24_23_1 : room_ok B24 B23 1 := by decide
theorem rk25_26_0 : room_ok B25 B26 0 := by decide
theorem rk25_27_0 : room_ok B25 B27 0 := by decide
theorem rk25_29_0 : room_ok B25 B29 0 := by decide
theorem rk27_28_0 : room_ok B27 B28 0 := by decide
theorem rk28_9_0 : room_ok B28 B9 0 := by decide
theorem rk28_14_1 : room_ok B28 B14 1 := by decide
theorem rk28_15_0 : room_ok B28 B15 0 := by decide
theorem rk29_9_0 : room_ok B29 B9 0 := by decide
theorem rk29_16_0 : room_ok B29 B16 0 := by decide
theorem rk29_26_0 : room_ok B29 B26 0 := by decide
theorem rk29_30_0 : room_ok B29 B30 0 := by decide
theorem rk30_19_0 : room_ok B30 B19 0 := by decide
def X_init_b146 (ob : Rec) (i3 : Int32) (i4 : Int32) : Option (Rec) :=
  some (sI (sI (sI (sI (sI (sI (sI (sI ob 0 i3) 1 i4) 2 (0 : Int32)) 3 (0 : Int32)) 4 (0 : Int32)) 5 (-1 : Int32)) 6 (0 : Int32)) 7 (0 : Int32))
set_option maxRecDepth 65536 in
set_option maxHeartbeats 4000000 in
theorem X_init_b146_p {C : Ctx} {a : Nat} {H : List (Nat × Nat × Rec)} {res : Rec} (ob : Rec) (i3 : Int32) (i4 : Int32) (hf : X_init_b146 ob i3 i4 = some res) : Runs C B1 12 3582 146 [vr a, vn, vn, vi i3, vi i4] [] (a + 1 + 12, (a, 12, ob) :: H) (Ans none (a + 1 + 12, (a, 12, res) :: H)) := by
  delta X_init_b146 at hf
  refine Runs.aloadN d1_146 rfl <| Runs.iloadN d1_147 rfl <| Runs.putI d1_148 w34 fS_0 (Or.inl w35) <| Runs.aloadN d1_151 rfl <| Runs.iload d1_152 rfl <| Runs.putI d1_154 w36 fS_1 (Or.inl w37) <| Runs.aloadN d1_157 rfl <| Runs.iconst d1_158 ci_0 <| Runs.putI d1_159 w38 fS_2 (Or.inl w39) <| Runs.aloadN d1_162 rfl <| Runs.iconst d1_163 ci_0 <| Runs.putI d1_164 w40 fS_3 (Or.inl w41) <| ?_
  refine Runs.aloadN d1_167 rfl <| Runs.iconst d1_168 ci_0 <| Runs.putI d1_169 w42 fS_4 (Or.inl w43) <| Runs.aloadN d1_172 rfl <| Runs.iconst d1_173 ci_m1 <| Runs.putI d1_174 w44 fS_5 (Or.inl w45) <| Runs.aloadN d1_177 rfl <| Runs.iconst d1_178 ci_0 <| Runs.putI d1_179 w46 fS_6 (Or.inl w47) <| Runs.aloadN d1_182 rfl <| Runs.iconst d1_183 ci_0 <| Runs.putI d1_184 w48 fS_7 (Or.inl w49) <| ?_
  obtain rfl := Option.some.inj hf
  exact Runs.retV d1_187 rfl ⟨by decide, by decide⟩ ⟨rfl, rfl⟩
def X_init_b135 (ob : Rec) (i3 : Int32) (i4 : Int32) : Option (Rec) :=
  if (16 : Int32) < i4 then
    X_init_b146 ob i3 (16 : Int32)
  else
    X_init_b146 ob i3 i4
set_option maxRecDepth 65536 in
set_option maxHeartbeats 4000000 in
theorem X_init_b135_p {C : Ctx} {a : Nat} {H : List (Nat × Nat × Rec)} {res : Rec} (ob : Rec) (i3 : Int32) (i4 : Int32) (hf : X_init_b135 ob i3 i4 = some res) : Runs C B1 12 3582 135 [vr a, vn, vn, vi i3, vi i4] [] (a + 1 + 12, (a, 12, ob) :: H) (Ans none (a + 1 + 12, (a, 12, res) :: H)) := by
  delta X_init_b135 at hf
  refine Runs.iload d1_135 rfl <| Runs.bipush d1_137 cb_16 <| ?_
  refine ite_el hf (fun hc3 hf => ?_) (fun hc3 hf => ?_)
  · refine Runs.icN d1_139 (tlt hc3).2.2.2 <| ?_
    exact Runs.bipush d1_142 cb_16 <| Runs.istore (P' := [vr a, vn, vn, vi i3, vi (16 : Int32)]) d1_144 (by decide) rfl <| X_init_b146_p ob i3 (16 : Int32) hf
  · exact Runs.icY (pc' := 146) d1_139 (flt hc3).2.2.2 (by decide) <| X_init_b146_p ob i3 i4 hf
def X_init_b123 (ob : Rec) (i2 : Int32) (i3 : Int32) : Option (Rec) :=
  if i2 < (1 : Int32) then
    X_init_b135 ob i3 (1 : Int32)
  else
    X_init_b135 ob i3 i2
set_option maxRecDepth 65536 in
set_option maxHeartbeats 4000000 in
theorem X_init_b123_p {C : Ctx} {a : Nat} {H : List (Nat × Nat × Rec)} {res : Rec} (ob : Rec) (i2 : Int32) (i3 : Int32) (hf : X_init_b123 ob i2 i3 = some res) : Runs C B1 12 3582 123 [vr a, vn, vi i2, vi i3, vn] [] (a + 1 + 12, (a, 12, ob) :: H) (Ans none (a + 1 + 12, (a, 12, res) :: H)) := by
  delta X_init_b123 at hf
  refine Runs.iloadN d1_123 rfl <| Runs.istore (P' := [vr a, vn, vi i2, vi i3, vi i2]) d1_124 (by decide) rfl <| Runs.iload d1_126 rfl <| Runs.iconst d1_128 ci_1 <| ?_
  refine ite_el hf (fun hc2 hf => ?_) (fun hc2 hf => ?_)
  · refine Runs.icN d1_129 (tlt hc2).2.1 <| ?_
    exact Runs.iconst d1_132 ci_1 <| Runs.istore (P' := [vr a, vn, vi i2, vi i3, vi (1 : Int32)]) d1_133 (by decide) rfl <| Runs.forget [true, false, false, true, true] rfl <| X_init_b135_p ob i3 (1 : Int32) hf
  · exact Runs.icY (pc' := 135) d1_129 (flt hc2).2.1 (by decide) <| Runs.forget [true, false, false, true, true] rfl <| X_init_b135_p ob i3 i2 hf
def X_init_b114 (ob : Rec) (i2 : Int32) (i3 : Int32) : Option (Rec) :=
  if (16 : Int32) < i3 then
    X_init_b123 ob i2 (16 : Int32)
  else
    X_init_b123 ob i2 i3
set_option maxRecDepth 65536 in
set_option maxHeartbeats 4000000 in
theorem X_init_b114_p {C : Ctx} {a : Nat} {H : List (Nat × Nat × Rec)} {res : Rec} (ob : Rec) (i2 : Int32) (i3 : Int32) (hf : X_init_b114 ob i2 i3 = some res) : Runs C B1 12 3582 114 [vr a, vn, vi i2, vi i3, vn] [] (a + 1 + 12, (a, 12, ob) :: H) (Ans none (a + 1 + 12, (a, 12, res) :: H)) := by
  delta X_init_b114 at hf
  refine Runs.iloadN d1_114 rfl <| Runs.bipush d1_115 cb_16 <| ?_
  refine ite_el hf (fun hc1 hf => ?_) (fun hc1 hf => ?_)
  · refine Runs.icN d1_117 (tlt hc1).2.2.2 <| ?_
    exact Runs.bipush d1_120 cb_16 <| Runs.istoreN (P' := [vr a, vn, vi i2, vi (16 : Int32), vn]) d1_122 (by decide) rfl <| X_init_b123_p ob i2 (16 : Int32) hf
  · exact Runs.icY (pc' := 123) d1_117 (flt hc1).2.2.2 (by decide) <| X_init_b123_p ob i2 i3 hf
def X_init (i1 : Int32) (i2 : Int32) : Option (Rec) :=
  if i1 < (4 : Int32) then
    X_init_b114 zrec i2 (4 : Int32)
  else
    X_init_b114 zrec i2 i1
set_option maxRecDepth 65536 in
set_option maxHeartbeats 4000000 in
theorem X_init_p {C : Ctx} {a : Nat} {H : List (Nat × Nat × Rec)} {res : Rec} (i1 : Int32) (i2 : Int32) (hf : X_init i1 i2 = some res) : Runs C B1 0 0 0 [vr a, vi i1, vi i2, vn, vn] [] (a + 1, (a, 0, zrec) :: H) (Ans none (a + 1 + 12, (a, 12, res) :: H)) := by
  delta X_init at hf
  refine Runs.aloadN d1_0 rfl <| Runs.initO (W := 0) d1_1 w6 w7 w8 rfl (by decide) <| Runs.aloadN d1_4 rfl <| Runs.bipush d1_5 cb_16 <| Runs.newArr (j' := 1) (top' := a + 1 + 1) (k' := 1) (n' := 16) d1_7 d1_9 fA_0 w10 rfl w9 (Or.inl w11) rfl (by decide) ⟨by decide, by decide⟩ ⟨fun _ => rfl, fun _ => rfl⟩ rfl rfl rfl (by decide) <| Runs.aloadN d1_12 rfl <| Runs.bipush d1_13 cb_16 <| Runs.newArr (j' := 2) (top' := a + 1 + 2) (k' := 2) (n' := 32) d1_15 d1_17 fA_1 w12 rfl w9 (Or.inl w13) rfl (by decide) ⟨by decide, by decide⟩ ⟨fun _ => rfl, fun _ => rfl⟩ rfl rfl rfl (by decide) <| Runs.aloadN d1_20 rfl <| Runs.bipush d1_21 cb_80 <| Runs.newArr (j' := 3) (top' := a + 1 + 3) (k' := 3) (n' := 112) d1_23 d1_25 fA_2 w14 rfl w9 (Or.inl w15) rfl (by decide) ⟨by decide, by decide⟩ ⟨fun _ => rfl, fun _ => rfl⟩ rfl rfl rfl (by decide) <| Runs.aloadN d1_28 rfl <| ?_
  refine Runs.bipush d1_29 cb_16 <| Runs.newArr (j' := 4) (top' := a + 1 + 4) (k' := 4) (n' := 128) d1_31 d1_33 fA_3 w16 rfl w9 (Or.inl w17) rfl (by decide) ⟨by decide, by decide⟩ ⟨fun _ => rfl, fun _ => rfl⟩ rfl rfl rfl (by decide) <| Runs.aloadN d1_36 rfl <| Runs.sipush d1_37 cs_2312 <| Runs.newArr (j' := 5) (top' := a + 1 + 5) (k' := 5) (n' := 2440) d1_40 d1_42 fA_4 w18 rfl w9 (Or.inl w19) rfl (by decide) ⟨by decide, by decide⟩ ⟨fun _ => rfl, fun _ => rfl⟩ rfl rfl rfl (by decide) <| Runs.aloadN d1_45 rfl <| Runs.bipush d1_46 cb_102 <| Runs.newArr (j' := 6) (top' := a + 1 + 6) (k' := 6) (n' := 2542) d1_48 d1_50 fA_5 w20 rfl w9 (Or.inl w21) rfl (by decide) ⟨by decide, by decide⟩ ⟨fun _ => rfl, fun _ => rfl⟩ rfl rfl rfl (by decide) <| Runs.aloadN d1_53 rfl <| Runs.bipush d1_54 cb_8 <| Runs.newArr (j' := 7) (top' := a + 1 + 7) (k' := 7) (n' := 2550) d1_56 d1_58 fA_6 w22 rfl w9 (Or.inl w23) rfl (by decide) ⟨by decide, by decide⟩ ⟨fun _ => rfl, fun _ => rfl⟩ rfl rfl rfl (by decide) <| Runs.aloadN d1_61 rfl <| ?_
  refine Runs.bipush d1_62 cb_8 <| Runs.newArr (j' := 8) (top' := a + 1 + 8) (k' := 8) (n' := 2558) d1_64 d1_66 fA_7 w24 rfl w9 (Or.inl w25) rfl (by decide) ⟨by decide, by decide⟩ ⟨fun _ => rfl, fun _ => rfl⟩ rfl rfl rfl (by decide) <| Runs.aloadN d1_69 rfl <| Runs.sipush d1_70 cs_256 <| Runs.newArr (j' := 9) (top' := a + 1 + 9) (k' := 9) (n' := 2814) d1_73 d1_75 fA_8 w26 rfl w9 (Or.inl w27) rfl (by decide) ⟨by decide, by decide⟩ ⟨fun _ => rfl, fun _ => rfl⟩ rfl rfl rfl (by decide) <| Runs.aloadN d1_78 rfl <| Runs.sipush d1_79 cs_256 <| Runs.newArr (j' := 10) (top' := a + 1 + 10) (k' := 10) (n' := 3070) d1_82 d1_84 fA_9 w28 rfl w9 (Or.inl w29) rfl (by decide) ⟨by decide, by decide⟩ ⟨fun _ => rfl, fun _ => rfl⟩ rfl rfl rfl (by decide) <| Runs.aloadN d1_87 rfl <| Runs.sipush d1_88 cs_256 <| Runs.newArr (j' := 11) (top' := a + 1 + 11) (k' := 11) (n' := 3326) d1_91 d1_93 fA_10 w30 rfl w9 (Or.inl w31) rfl (by decide) ⟨by decide, by decide⟩ ⟨fun _ => rfl, fun _ => rfl⟩ rfl rfl rfl (by decide) <| Runs.aloadN d1_96 rfl <| ?_
  refine Runs.sipush d1_97 cs_256 <| Runs.newArr (j' := 12) (top' := a + 1 + 12) (k' := 12) (n' := 3582) d1_100 d1_102 fA_11 w32 rfl w9 (Or.inl w33) rfl (by decide) ⟨by decide, by decide⟩ ⟨fun _ => rfl, fun _ => rfl⟩ rfl rfl rfl (by decide) <| Runs.iloadN d1_105 rfl <| Runs.istoreN (P' := [vr a, vi i1, vi i2, vi i1, vn]) d1_106 (by decide) rfl <| Runs.iloadN d1_107 rfl <| Runs.iconst d1_108 ci_4 <| ?_
  refine ite_el hf (fun hc4 hf => ?_) (fun hc4 hf => ?_)
  · refine Runs.icN d1_109 (tlt hc4).2.1 <| ?_
    exact Runs.iconst d1_112 ci_4 <| Runs.istoreN (P' := [vr a, vi i1, vi i2, vi (4 : Int32), vn]) d1_113 (by decide) rfl <| Runs.forget [true, false, true, true, false] rfl <| X_init_b114_p zrec i2 (4 : Int32) hf
  · exact Runs.icY (pc' := 114) d1_109 (flt hc4).2.1 (by decide) <| Runs.forget [true, false, true, true, false] rfl <| X_init_b114_p zrec i2 i1 hf
theorem X_init_pay {C : Ctx} {a : Nat} {H : List (Nat × Nat × Rec)} {res : Rec} {i1 : Int32} {i2 : Int32} (hf : X_init i1 i2 = some res) : Pays C B1 [.ref a, .int i1, .int i2] (a + 1, (a, 0, zrec) :: H) (Ans none (a + 1 + 12, (a, 12, res) :: H)) :=
  Pays.of pnK (Nat.le_of_ble_eq_true rfl) (P := [vr a, vi i1, vi i2, vn, vn]) 2 rfl (X_init_p i1 i2 hf)
def X_beginRule (ob : Rec) (i1 : Int32) : Option (Int32 × Rec) :=
  if (gI ob 2) = (0 : Int32) then
    if i1 < (0 : Int32) then
      some ((2 : Int32), ob)
    else
      if (7 : Int32) < i1 then
        some ((2 : Int32), ob)
      else
        if (gI ob 3) < (gI ob 0) then
          chk (16 : Int32) (gI ob 3) <|
          chk (16 : Int32) (gI ob 3) <|
          some ((0 : Int32), (sI (sA (sA ob 0 (gI ob 3) i1) 1 (gI ob 3) (0 : Int32)) 3 ((gI ob 3) + (1 : Int32))))
        else
          some ((3 : Int32), ob)
  else
    some ((1 : Int32), ob)
set_option maxRecDepth 65536 in
set_option maxHeartbeats 4000000 in
theorem X_beginRule_p {C : Ctx} {top : Nat} {a : Nat} {H : List (Nat × Nat × Rec)} {res : Int32 × Rec} (ob : Rec) (i1 : Int32) (hf : X_beginRule ob i1 = some res) : Runs C B2 0 0 0 [vr a, vi i1] [] (top, (a, 12, ob) :: H) (Ans (some (.int res.1)) (top, (a, 12, res.2) :: H)) := by
  delta X_beginRule at hf
  refine Runs.aloadN d2_0 rfl <| Runs.getI d2_1 w38 fS_2 <| ?_
  refine ite_el hf (fun hc1 hf => ?_) (fun hc1 hf => ?_)
  · refine Runs.ifY (pc' := 9) d2_4 (teq hc1).1 (by decide) <| ?_
    refine Runs.iloadN d2_9 rfl <| ?_
    refine ite_el hf (fun hc2 hf => ?_) (fun hc2 hf => ?_)
    · refine Runs.ifY (pc' := 19) d2_10 (tlt hc2).1 (by decide) <| ?_
      obtain rfl := Option.some.inj hf
      exact Runs.iconst d2_19 ci_2 <| Runs.retI d2_20 rfl ⟨by decide, by decide⟩ ⟨rfl, rfl⟩
    · refine Runs.ifN d2_10 (flt hc2).1 <| ?_
      refine Runs.iloadN d2_13 rfl <| Runs.bipush d2_14 cb_7 <| ?_
      refine ite_el hf (fun hc3 hf => ?_) (fun hc3 hf => ?_)
      · refine Runs.icN d2_16 (tlt hc3).2.2.2 <| ?_
        obtain rfl := Option.some.inj hf
        exact Runs.iconst d2_19 ci_2 <| Runs.retI d2_20 rfl ⟨by decide, by decide⟩ ⟨rfl, rfl⟩
      · refine Runs.icY (pc' := 21) d2_16 (flt hc3).2.2.2 (by decide) <| ?_
        refine Runs.aloadN d2_21 rfl <| Runs.getI d2_22 w40 fS_3 <| Runs.aloadN d2_25 rfl <| Runs.getI d2_26 w34 fS_0 <| ?_
        refine ite_el hf (fun hc4 hf => ?_) (fun hc4 hf => ?_)
        · refine Runs.icY (pc' := 34) d2_29 (tlt hc4).1 (by decide) <| ?_
          refine Runs.aloadN d2_34 rfl <| Runs.getA d2_35 fA_0 w10 (by decide) <| Runs.aloadN d2_38 rfl <| Runs.getI d2_39 w40 fS_3 <| Runs.iloadN d2_42 rfl <| ?_
          refine chk_el hf fun hi5 hf => ?_
          refine Runs.iastoreA d2_43 fA_0 (by decide) hi5 <| Runs.aloadN d2_44 rfl <| Runs.getA d2_45 fA_1 w12 (by decide) <| Runs.aloadN d2_48 rfl <| Runs.getI d2_49 w40 fS_3 <| Runs.iconst d2_52 ci_0 <| ?_
          refine chk_el hf fun hi6 hf => ?_
          obtain rfl := Option.some.inj hf
          exact Runs.iastoreA d2_53 fA_1 (by decide) hi6 <| Runs.aloadN d2_54 rfl <| Runs.dup d2_55 rfl <| Runs.getI d2_56 w40 fS_3 <| Runs.iconst d2_59 ci_1 <| Runs.iadd d2_60 <| Runs.putI d2_61 w40 fS_3 (Or.inl w41) <| Runs.iconst d2_64 ci_0 <| Runs.retI d2_65 rfl ⟨by decide, by decide⟩ ⟨rfl, rfl⟩
        · refine Runs.icN d2_29 (flt hc4).1 <| ?_
          obtain rfl := Option.some.inj hf
          exact Runs.iconst d2_32 ci_3 <| Runs.retI d2_33 rfl ⟨by decide, by decide⟩ ⟨rfl, rfl⟩
  · refine Runs.ifN d2_4 (feq hc1).1 <| ?_
    obtain rfl := Option.some.inj hf
    exact Runs.iconst d2_7 ci_1 <| Runs.retI d2_8 rfl ⟨by decide, by decide⟩ ⟨rfl, rfl⟩
theorem X_beginRule_pay {C : Ctx} {top : Nat} {a : Nat} {H : List (Nat × Nat × Rec)} {res : Int32 × Rec} {ob : Rec} {i1 : Int32} (hf : X_beginRule ob i1 = some res) : Pays C B2 [.ref a, .int i1] (top, (a, 12, ob) :: H) (Ans (some (.int res.1)) (top, (a, 12, res.2) :: H)) :=
  Pays.of pnK (Nat.le_of_ble_eq_true rfl) (P := [vr a, vi i1]) 0 rfl (X_beginRule_p ob i1 hf)
def X_addSymbol (ob : Rec) (i1 : Int32) : Option (Int32 × Rec) :=
  if (gI ob 2) = (0 : Int32) then
    if i1 < (0 : Int32) then
      some ((2 : Int32), ob)
    else
      if (15 : Int32) < i1 then
        some ((2 : Int32), ob)
      else
        if (gI ob 3) = (0 : Int32) then
          some ((8 : Int32), ob)
        else
          chk (16 : Int32) ((gI ob 3) - (1 : Int32)) <|
          if (gA ob 1 ((gI ob 3) - (1 : Int32))) < (5 : Int32) then
            chk (16 : Int32) ((gI ob 3) - (1 : Int32)) <|
            chk (80 : Int32) ((((gI ob 3) - (1 : Int32)) * (5 : Int32)) + (gA ob 1 ((gI ob 3) - (1 : Int32)))) <|
            chk (16 : Int32) ((gI ob 3) - (1 : Int32)) <|
            chk (16 : Int32) ((gI ob 3) - (1 : Int32)) <|
            some ((0 : Int32), (sA (sA ob 2 ((((gI ob 3) - (1 : Int32)) * (5 : Int32)) + (gA ob 1 ((gI ob 3) - (1 : Int32)))) i1) 1 ((gI ob 3) - (1 : Int32)) ((gA ob 1 ((gI ob 3) - (1 : Int32))) + (1 : Int32))))
          else
            some ((3 : Int32), ob)
  else
    some ((1 : Int32), ob)
set_option maxRecDepth 65536 in
set_option maxHeartbeats 4000000 in
theorem X_addSymbol_p {C : Ctx} {top : Nat} {a : Nat} {H : List (Nat × Nat × Rec)} {res : Int32 × Rec} (ob : Rec) (i1 : Int32) (hf : X_addSymbol ob i1 = some res) : Runs C B3 0 0 0 [vr a, vi i1, vn] [] (top, (a, 12, ob) :: H) (Ans (some (.int res.1)) (top, (a, 12, res.2) :: H)) := by
  delta X_addSymbol at hf
  refine Runs.aloadN d3_0 rfl <| Runs.getI d3_1 w38 fS_2 <| ?_
  refine ite_el hf (fun hc1 hf => ?_) (fun hc1 hf => ?_)
  · refine Runs.ifY (pc' := 9) d3_4 (teq hc1).1 (by decide) <| ?_
    refine Runs.iloadN d3_9 rfl <| ?_
    refine ite_el hf (fun hc2 hf => ?_) (fun hc2 hf => ?_)
    · refine Runs.ifY (pc' := 19) d3_10 (tlt hc2).1 (by decide) <| ?_
      obtain rfl := Option.some.inj hf
      exact Runs.iconst d3_19 ci_2 <| Runs.retI d3_20 rfl ⟨by decide, by decide⟩ ⟨rfl, rfl⟩
    · refine Runs.ifN d3_10 (flt hc2).1 <| ?_
      refine Runs.iloadN d3_13 rfl <| Runs.bipush d3_14 cb_15 <| ?_
      refine ite_el hf (fun hc3 hf => ?_) (fun hc3 hf => ?_)
      · refine Runs.icN d3_16 (tlt hc3).2.2.2 <| ?_
        obtain rfl := Option.some.inj hf
        exact Runs.iconst d3_19 ci_2 <| Runs.retI d3_20 rfl ⟨by decide, by decide⟩ ⟨rfl, rfl⟩
      · refine Runs.icY (pc' := 21) d3_16 (flt hc3).2.2.2 (by decide) <| ?_
        refine Runs.aloadN d3_21 rfl <| Runs.getI d3_22 w40 fS_3 <| ?_
        refine ite_el hf (fun hc4 hf => ?_) (fun hc4 hf => ?_)
        · refine Runs.ifN d3_25 (teq hc4).2 <| ?_
          obtain rfl := Option.some.inj hf
          exact Runs.bipush d3_28 cb_8 <| Runs.retI d3_30 rfl ⟨by decide, by decide⟩ ⟨rfl, rfl⟩
        · refine Runs.ifY (pc' := 31) d3_25 (feq hc4).2 (by decide) <| ?_
          refine Runs.aloadN d3_31 rfl <| Runs.getI d3_32 w40 fS_3 <| Runs.iconst d3_35 ci_1 <| Runs.isub d3_36 <| Runs.istoreN (P' := [vr a, vi i1, vi ((gI ob 3) - (1 : Int32))]) d3_37 (by decide) rfl <| Runs.aloadN d3_38 rfl <| Runs.getA d3_39 fA_1 w12 (by decide) <| Runs.iloadN d3_42 rfl <| ?_
          refine chk_el hf fun hi5 hf => ?_
          refine Runs.ialoadA d3_43 fA_1 (by decide) hi5 <| Runs.iconst d3_44 ci_5 <| ?_
          refine ite_el hf (fun hc6 hf => ?_) (fun hc6 hf => ?_)
          · refine Runs.icY (pc' := 50) d3_45 (tlt hc6).1 (by decide) <| ?_
            refine Runs.aloadN d3_50 rfl <| Runs.getA d3_51 fA_2 w14 (by decide) <| Runs.iloadN d3_54 rfl <| Runs.iconst d3_55 ci_5 <| Runs.imul d3_56 <| Runs.aloadN d3_57 rfl <| Runs.getA d3_58 fA_1 w12 (by decide) <| Runs.iloadN d3_61 rfl <| ?_
            refine chk_el hf fun hi7 hf => ?_
            refine Runs.ialoadA d3_62 fA_1 (by decide) hi7 <| Runs.iadd d3_63 <| Runs.iloadN d3_64 rfl <| ?_
            refine chk_el hf fun hi8 hf => ?_
            refine Runs.iastoreA d3_65 fA_2 (by decide) hi8 <| Runs.aloadN d3_66 rfl <| Runs.getA d3_67 fA_1 w12 (by decide) <| Runs.iloadN d3_70 rfl <| Runs.dup2 d3_71 rfl rfl <| ?_
            refine chk_el hf fun hi9 hf => ?_
            refine Runs.ialoadA d3_72 fA_1 (by decide) hi9 <| Runs.iconst d3_73 ci_1 <| Runs.iadd d3_74 <| ?_
            refine chk_el hf fun hi10 hf => ?_
            obtain rfl := Option.some.inj hf
            exact Runs.iastoreA d3_75 fA_1 (by decide) hi10 <| Runs.iconst d3_76 ci_0 <| Runs.retI d3_77 rfl ⟨by decide, by decide⟩ ⟨rfl, rfl⟩
          · refine Runs.icN d3_45 (flt hc6).1 <| ?_
            obtain rfl := Option.some.inj hf
            exact Runs.iconst d3_48 ci_3 <| Runs.retI d3_49 rfl ⟨by decide, by decide⟩ ⟨rfl, rfl⟩
  · refine Runs.ifN d3_4 (feq hc1).1 <| ?_
    obtain rfl := Option.some.inj hf
    exact Runs.iconst d3_7 ci_1 <| Runs.retI d3_8 rfl ⟨by decide, by decide⟩ ⟨rfl, rfl⟩
theorem X_addSymbol_pay {C : Ctx} {top : Nat} {a : Nat} {H : List (Nat × Nat × Rec)} {res : Int32 × Rec} {ob : Rec} {i1 : Int32} (hf : X_addSymbol ob i1 = some res) : Pays C B3 [.ref a, .int i1] (top, (a, 12, ob) :: H) (Ans (some (.int res.1)) (top, (a, 12, res.2) :: H)) :=
  Pays.of pnK (Nat.le_of_ble_eq_true rfl) (P := [vr a, vi i1, vn]) 1 rfl (X_addSymbol_p ob i1 hf)
def X_hasEmptyRule_w2 (NF : Nat) (ob : Rec) (k2 : Int32 → Option (Int32)) (i1 : Int32) : Option (Int32) :=
  if i1 < (gI ob 3) then
    chk (16 : Int32) i1 <|
    if (gA ob 1 i1) = (0 : Int32) then
      some (1 : Int32)
    else
      k2 (i1 + (1 : Int32))
  else
    some (0 : Int32)
def X_hasEmptyRule_l2 (NF : Nat) (ob : Rec) : Nat → Int32 → Option (Int32)
  | 0, _ => none
  | n + 1, i1 => X_hasEmptyRule_w2 NF ob (X_hasEmptyRule_l2 NF ob n) i1
set_option maxRecDepth 65536 in
set_option maxHeartbeats 4000000 in
theorem X_hasEmptyRule_w2_p {C : Ctx} {top : Nat} {a : Nat} {H : List (Nat × Nat × Rec)} {ob : Rec} {res : Int32} {NF : Nat} (k2 : Int32 → Option (Int32)) (hk2 : ∀ (i1 : Int32), k2 i1 = some res → Runs C B5 0 0 2 [vr a, vi i1] [] (top, (a, 12, ob) :: H) (Ans (some (.int res)) (top, (a, 12, ob) :: H))) (i1 : Int32) (hf : X_hasEmptyRule_w2 NF ob k2 i1 = some res) : Runs C B5 0 0 2 [vr a, vi i1] [] (top, (a, 12, ob) :: H) (Ans (some (.int res)) (top, (a, 12, ob) :: H)) := by
  delta X_hasEmptyRule_w2 at hf
  refine Runs.iloadN d5_2 rfl <| Runs.aloadN d5_3 rfl <| Runs.getI d5_4 w40 fS_3 <| ?_
  refine ite_el hf (fun hc1 hf => ?_) (fun hc1 hf => ?_)
  · refine Runs.icN d5_7 (tlt hc1).2.1 <| ?_
    refine Runs.aloadN d5_10 rfl <| Runs.getA d5_11 fA_1 w12 (by decide) <| Runs.iloadN d5_14 rfl <| ?_
    refine chk_el hf fun hi2 hf => ?_
    refine Runs.ialoadA d5_15 fA_1 (by decide) hi2 <| ?_
    refine ite_el hf (fun hc3 hf => ?_) (fun hc3 hf => ?_)
    · refine Runs.ifN d5_16 (teq hc3).2 <| ?_
      obtain rfl := Option.some.inj hf
      exact Runs.iconst d5_19 ci_1 <| Runs.retZ (y := (1 : Int32)) d5_20 rfl ⟨by decide, by decide⟩ rfl ⟨rfl, rfl⟩
    · refine Runs.ifY (pc' := 21) d5_16 (feq hc3).2 (by decide) <| ?_
      exact Runs.iinc (P' := [vr a, vi (i1 + (1 : Int32))]) d5_21 ci_1 rfl (by decide) rfl <| Runs.goto (pc' := 2) d5_24 (by decide) <| hk2 (i1 + (1 : Int32)) hf
  · refine Runs.icY (pc' := 27) d5_7 (flt hc1).2.1 (by decide) <| ?_
    obtain rfl := Option.some.inj hf
    exact Runs.iconst d5_27 ci_0 <| Runs.retZ (y := (0 : Int32)) d5_28 rfl ⟨by decide, by decide⟩ rfl ⟨rfl, rfl⟩
theorem X_hasEmptyRule_l2_p {C : Ctx} {top : Nat} {a : Nat} {H : List (Nat × Nat × Rec)} {ob : Rec} {res : Int32} {NF : Nat} (n : Nat) (i1 : Int32) (hf : X_hasEmptyRule_l2 NF ob n i1 = some res) : Runs C B5 0 0 2 [vr a, vi i1] [] (top, (a, 12, ob) :: H) (Ans (some (.int res)) (top, (a, 12, ob) :: H)) := by
  induction n generalizing i1 with
  | zero => cases (show (none : Option (Int32)) = some res from hf)
  | succ n ih => exact X_hasEmptyRule_w2_p (X_hasEmptyRule_l2 NF ob n) (fun i1 h => ih _ h) i1 hf
def X_hasEmptyRule (NF : Nat) (ob : Rec) : Option (Int32) :=
  X_hasEmptyRule_l2 NF ob NF (0 : Int32)
set_option maxRecDepth 65536 in
set_option maxHeartbeats 4000000 in
theorem X_hasEmptyRule_p {C : Ctx} {top : Nat} {a : Nat} {H : List (Nat × Nat × Rec)} {ob : Rec} {res : Int32} {NF : Nat} (hf : X_hasEmptyRule NF ob = some res) : Runs C B5 0 0 0 [vr a, vn] [] (top, (a, 12, ob) :: H) (Ans (some (.int res)) (top, (a, 12, ob) :: H)) := by
  delta X_hasEmptyRule at hf
  exact Runs.iconst d5_0 ci_0 <| Runs.istoreN (P' := [vr a, vi (0 : Int32)]) d5_1 (by decide) rfl <| X_hasEmptyRule_l2_p NF (0 : Int32) hf
theorem X_hasEmptyRule_pay {C : Ctx} {top : Nat} {a : Nat} {H : List (Nat × Nat × Rec)} {ob : Rec} {res : Int32} {NF : Nat} (hf : X_hasEmptyRule NF ob = some res) : Pays C B5 [.ref a] (top, (a, 12, ob) :: H) (Ans (some (.int res)) (top, (a, 12, ob) :: H)) :=
  Pays.of pnK (Nat.le_of_ble_eq_true rfl) (P := [vr a, vn]) 1 rfl (X_hasEmptyRule_p hf)
def X_sameRule_w34 (NF : Nat) (ob : Rec) (k34 : Int32 → Int32 → Int32 → Option (Int32)) (i1 : Int32) (i2 : Int32) (i3 : Int32) : Option (Int32) :=
  chk (16 : Int32) i1 <|
  if i3 < (gA ob 1 i1) then
    chk (80 : Int32) ((i1 * (5 : Int32)) + i3) <|
    chk (80 : Int32) ((i2 * (5 : Int32)) + i3) <|
    if (gA ob 2 ((i1 * (5 : Int32)) + i3)) = (gA ob 2 ((i2 * (5 : Int32)) + i3)) then
      k34 i1 i2 (i3 + (1 : Int32))
    else
      some (0 : Int32)
  else
    some (1 : Int32)
def X_sameRule_l34 (NF : Nat) (ob : Rec) : Nat → Int32 → Int32 → Int32 → Option (Int32)
  | 0, _, _, _ => none
  | n + 1, i1, i2, i3 => X_sameRule_w34 NF ob (X_sameRule_l34 NF ob n) i1 i2 i3
set_option maxRecDepth 65536 in
set_option maxHeartbeats 4000000 in
theorem X_sameRule_w34_p {C : Ctx} {top : Nat} {a : Nat} {H : List (Nat × Nat × Rec)} {ob : Rec} {res : Int32} {NF : Nat} (k34 : Int32 → Int32 → Int32 → Option (Int32)) (hk34 : ∀ (i1 : Int32) (i2 : Int32) (i3 : Int32), k34 i1 i2 i3 = some res → Runs C B7 0 0 34 [vr a, vi i1, vi i2, vi i3] [] (top, (a, 12, ob) :: H) (Ans (some (.int res)) (top, (a, 12, ob) :: H))) (i1 : Int32) (i2 : Int32) (i3 : Int32) (hf : X_sameRule_w34 NF ob k34 i1 i2 i3 = some res) : Runs C B7 0 0 34 [vr a, vi i1, vi i2, vi i3] [] (top, (a, 12, ob) :: H) (Ans (some (.int res)) (top, (a, 12, ob) :: H)) := by
  delta X_sameRule_w34 at hf
  refine Runs.iloadN d7_34 rfl <| Runs.aloadN d7_35 rfl <| Runs.getA d7_36 fA_1 w12 (by decide) <| Runs.iloadN d7_39 rfl <| ?_
  refine chk_el hf fun hi1 hf => ?_
  refine Runs.ialoadA d7_40 fA_1 (by decide) hi1 <| ?_
  refine ite_el hf (fun hc2 hf => ?_) (fun hc2 hf => ?_)
  · refine Runs.icN d7_41 (tlt hc2).2.1 <| ?_
    refine Runs.aloadN d7_44 rfl <| Runs.getA d7_45 fA_2 w14 (by decide) <| Runs.iloadN d7_48 rfl <| Runs.iconst d7_49 ci_5 <| Runs.imul d7_50 <| Runs.iloadN d7_51 rfl <| Runs.iadd d7_52 <| ?_
    refine chk_el hf fun hi3 hf => ?_
    refine Runs.ialoadA d7_53 fA_2 (by decide) hi3 <| Runs.aloadN d7_54 rfl <| Runs.getA d7_55 fA_2 w14 (by decide) <| Runs.iloadN d7_58 rfl <| Runs.iconst d7_59 ci_5 <| Runs.imul d7_60 <| Runs.iloadN d7_61 rfl <| Runs.iadd d7_62 <| ?_
    refine chk_el hf fun hi4 hf => ?_
    refine Runs.ialoadA d7_63 fA_2 (by decide) hi4 <| ?_
    refine ite_el hf (fun hc5 hf => ?_) (fun hc5 hf => ?_)
    · refine Runs.icY (pc' := 69) d7_64 (teq hc5).1 (by decide) <| ?_
      exact Runs.iinc (P' := [vr a, vi i1, vi i2, vi (i3 + (1 : Int32))]) d7_69 ci_1 rfl (by decide) rfl <| Runs.goto (pc' := 34) d7_72 (by decide) <| hk34 i1 i2 (i3 + (1 : Int32)) hf
    · refine Runs.icN d7_64 (feq hc5).1 <| ?_
      obtain rfl := Option.some.inj hf
      exact Runs.iconst d7_67 ci_0 <| Runs.retZ (y := (0 : Int32)) d7_68 rfl ⟨by decide, by decide⟩ rfl ⟨rfl, rfl⟩
  · refine Runs.icY (pc' := 75) d7_41 (flt hc2).2.1 (by decide) <| ?_
    obtain rfl := Option.some.inj hf
    exact Runs.iconst d7_75 ci_1 <| Runs.retZ (y := (1 : Int32)) d7_76 rfl ⟨by decide, by decide⟩ rfl ⟨rfl, rfl⟩
theorem X_sameRule_l34_p {C : Ctx} {top : Nat} {a : Nat} {H : List (Nat × Nat × Rec)} {ob : Rec} {res : Int32} {NF : Nat} (n : Nat) (i1 : Int32) (i2 : Int32) (i3 : Int32) (hf : X_sameRule_l34 NF ob n i1 i2 i3 = some res) : Runs C B7 0 0 34 [vr a, vi i1, vi i2, vi i3] [] (top, (a, 12, ob) :: H) (Ans (some (.int res)) (top, (a, 12, ob) :: H)) := by
  induction n generalizing i1 i2 i3 with
  | zero => cases (show (none : Option (Int32)) = some res from hf)
  | succ n ih => exact X_sameRule_w34_p (X_sameRule_l34 NF ob n) (fun i1 i2 i3 h => ih _ _ _ h) i1 i2 i3 hf
def X_sameRule (NF : Nat) (ob : Rec) (i1 : Int32) (i2 : Int32) : Option (Int32) :=
  chk (16 : Int32) i1 <|
  chk (16 : Int32) i2 <|
  if (gA ob 0 i1) = (gA ob 0 i2) then
    chk (16 : Int32) i1 <|
    chk (16 : Int32) i2 <|
    if (gA ob 1 i1) = (gA ob 1 i2) then
      X_sameRule_l34 NF ob NF i1 i2 (0 : Int32)
    else
      some (0 : Int32)
  else
    some (0 : Int32)
set_option maxRecDepth 65536 in
set_option maxHeartbeats 4000000 in
theorem X_sameRule_p {C : Ctx} {top : Nat} {a : Nat} {H : List (Nat × Nat × Rec)} {ob : Rec} {res : Int32} {NF : Nat} (i1 : Int32) (i2 : Int32) (hf : X_sameRule NF ob i1 i2 = some res) : Runs C B7 0 0 0 [vr a, vi i1, vi i2, vn] [] (top, (a, 12, ob) :: H) (Ans (some (.int res)) (top, (a, 12, ob) :: H)) := by
  delta X_sameRule at hf
  refine Runs.aloadN d7_0 rfl <| Runs.getA d7_1 fA_0 w10 (by decide) <| Runs.iloadN d7_4 rfl <| ?_
  refine chk_el hf fun hi6 hf => ?_
  refine Runs.ialoadA d7_5 fA_0 (by decide) hi6 <| Runs.aloadN d7_6 rfl <| Runs.getA d7_7 fA_0 w10 (by decide) <| Runs.iloadN d7_10 rfl <| ?_
  refine chk_el hf fun hi7 hf => ?_
  refine Runs.ialoadA d7_11 fA_0 (by decide) hi7 <| ?_
  refine ite_el hf (fun hc8 hf => ?_) (fun hc8 hf => ?_)
  · refine Runs.icN d7_12 (teq hc8).2 <| ?_
    refine Runs.aloadN d7_15 rfl <| Runs.getA d7_16 fA_1 w12 (by decide) <| Runs.iloadN d7_19 rfl <| ?_
    refine chk_el hf fun hi9 hf => ?_
    refine Runs.ialoadA d7_20 fA_1 (by decide) hi9 <| Runs.aloadN d7_21 rfl <| Runs.getA d7_22 fA_1 w12 (by decide) <| Runs.iloadN d7_25 rfl <| ?_
    refine chk_el hf fun hi10 hf => ?_
    refine Runs.ialoadA d7_26 fA_1 (by decide) hi10 <| ?_
    refine ite_el hf (fun hc11 hf => ?_) (fun hc11 hf => ?_)
    · refine Runs.icY (pc' := 32) d7_27 (teq hc11).1 (by decide) <| ?_
      exact Runs.iconst d7_32 ci_0 <| Runs.istoreN (P' := [vr a, vi i1, vi i2, vi (0 : Int32)]) d7_33 (by decide) rfl <| X_sameRule_l34_p NF i1 i2 (0 : Int32) hf
    · refine Runs.icN d7_27 (feq hc11).1 <| ?_
      obtain rfl := Option.some.inj hf
      exact Runs.iconst d7_30 ci_0 <| Runs.retZ (y := (0 : Int32)) d7_31 rfl ⟨by decide, by decide⟩ rfl ⟨rfl, rfl⟩
  · refine Runs.icY (pc' := 30) d7_12 (feq hc8).2 (by decide) <| ?_
    obtain rfl := Option.some.inj hf
    exact Runs.iconst d7_30 ci_0 <| Runs.retZ (y := (0 : Int32)) d7_31 rfl ⟨by decide, by decide⟩ rfl ⟨rfl, rfl⟩
theorem X_sameRule_pay {C : Ctx} {top : Nat} {a : Nat} {H : List (Nat × Nat × Rec)} {ob : Rec} {res : Int32} {NF : Nat} {i1 : Int32} {i2 : Int32} (hf : X_sameRule NF ob i1 i2 = some res) : Pays C B7 [.ref a, .int i1, .int i2] (top, (a, 12, ob) :: H) (Ans (some (.int res)) (top, (a, 12, ob) :: H)) :=
  Pays.of pnK (Nat.le_of_ble_eq_true rfl) (P := [vr a, vi i1, vi i2, vn]) 1 rfl (X_sameRule_p i1 i2 hf)
def X_hasDuplicate_w14 (NF : Nat) (ob : Rec) (k2 : Int32 → Option (Int32)) (k14 : Int32 → Int32 → Option (Int32)) (i1 : Int32) (i2 : Int32) : Option (Int32) :=
  if i2 < (gI ob 3) then
    (X_sameRule NF ob i1 i2).bind fun r3 =>
    if r3 = (0 : Int32) then
      k14 i1 (i2 + (1 : Int32))
    else
      some (1 : Int32)
  else
    k2 (i1 + (1 : Int32))
def X_hasDuplicate_l14 (NF : Nat) (ob : Rec) (k2 : Int32 → Option (Int32)) : Nat → Int32 → Int32 → Option (Int32)
  | 0, _, _ => none
  | n + 1, i1, i2 => X_hasDuplicate_w14 NF ob k2 (X_hasDuplicate_l14 NF ob k2 n) i1 i2
set_option maxRecDepth 65536 in
set_option maxHeartbeats 4000000 in
theorem X_hasDuplicate_w14_p {C : Ctx} {top : Nat} {a : Nat} {H : List (Nat × Nat × Rec)} {ob : Rec} {res : Int32} {NF : Nat} (k2 : Int32 → Option (Int32)) (hk2 : ∀ (i1 : Int32), k2 i1 = some res → Runs C B6 0 0 2 [vr a, vi i1, vn] [] (top, (a, 12, ob) :: H) (Ans (some (.int res)) (top, (a, 12, ob) :: H))) (k14 : Int32 → Int32 → Option (Int32)) (hk14 : ∀ (i1 : Int32) (i2 : Int32), k14 i1 i2 = some res → Runs C B6 0 0 14 [vr a, vi i1, vi i2] [] (top, (a, 12, ob) :: H) (Ans (some (.int res)) (top, (a, 12, ob) :: H))) (i1 : Int32) (i2 : Int32) (hf : X_hasDuplicate_w14 NF ob k2 k14 i1 i2 = some res) : Runs C B6 0 0 14 [vr a, vi i1, vi i2] [] (top, (a, 12, ob) :: H) (Ans (some (.int res)) (top, (a, 12, ob) :: H)) := by
  delta X_hasDuplicate_w14 at hf
  refine Runs.iloadN d6_14 rfl <| Runs.aloadN d6_15 rfl <| Runs.getI d6_16 w40 fS_3 <| ?_
  refine ite_el hf (fun hc2 hf => ?_) (fun hc2 hf => ?_)
  · refine Runs.icN d6_19 (tlt hc2).2.1 <| ?_
    refine Runs.aloadN d6_22 rfl <| Runs.iloadN d6_23 rfl <| Runs.iloadN d6_24 rfl <| ?_
    refine bind_el hf fun r3 hg4 hf => ?_
    refine Runs.callP (N := B7) (W := 0) (as := [.int i1, .int i2]) (S' := []) d6_25 w73 w74 w75 rfl cw7 ar7 rk6_7_0 (by decide) rfl rfl (X_sameRule_pay hg4) <| ans1 <| ?_
    refine ite_el hf (fun hc5 hf => ?_) (fun hc5 hf => ?_)
    · refine Runs.ifY (pc' := 33) d6_28 (teq hc5).1 (by decide) <| ?_
      exact Runs.iinc (P' := [vr a, vi i1, vi (i2 + (1 : Int32))]) d6_33 ci_1 rfl (by decide) rfl <| Runs.goto (pc' := 14) d6_36 (by decide) <| hk14 i1 (i2 + (1 : Int32)) hf
    · refine Runs.ifN d6_28 (feq hc5).1 <| ?_
      obtain rfl := Option.some.inj hf
      exact Runs.iconst d6_31 ci_1 <| Runs.retZ (y := (1 : Int32)) d6_32 rfl ⟨by decide, by decide⟩ rfl ⟨rfl, rfl⟩
  · refine Runs.icY (pc' := 39) d6_19 (flt hc2).2.1 (by decide) <| ?_
    exact Runs.iinc (P' := [vr a, vi (i1 + (1 : Int32)), vi i2]) d6_39 ci_1 rfl (by decide) rfl <| Runs.goto (pc' := 2) d6_42 (by decide) <| Runs.forget [true, true, false] rfl <| hk2 (i1 + (1 : Int32)) hf
theorem X_hasDuplicate_l14_p {C : Ctx} {top : Nat} {a : Nat} {H : List (Nat × Nat × Rec)} {ob : Rec} {res : Int32} {NF : Nat} (k2 : Int32 → Option (Int32)) (hk2 : ∀ (i1 : Int32), k2 i1 = some res → Runs C B6 0 0 2 [vr a, vi i1, vn] [] (top, (a, 12, ob) :: H) (Ans (some (.int res)) (top, (a, 12, ob) :: H))) (n : Nat) (i1 : Int32) (i2 : Int32) (hf : X_hasDuplicate_l14 NF ob k2 n i1 i2 = some res) : Runs C B6 0 0 14 [vr a, vi i1, vi i2] [] (top, (a, 12, ob) :: H) (Ans (some (.int res)) (top, (a, 12, ob) :: H)) := by
  induction n generalizing i1 i2 with
  | zero => cases (show (none : Option (Int32)) = some res from hf)
  | succ n ih => exact X_hasDuplicate_w14_p k2 hk2 (X_hasDuplicate_l14 NF ob k2 n) (fun i1 i2 h => ih _ _ h) i1 i2 hf
def X_hasDuplicate_w2 (NF : Nat) (ob : Rec) (k2 : Int32 → Option (Int32)) (i1 : Int32) : Option (Int32) :=
  if i1 < (gI ob 3) then
    X_hasDuplicate_l14 NF ob k2 NF i1 (i1 + (1 : Int32))
  else
    some (0 : Int32)
def X_hasDuplicate_l2 (NF : Nat) (ob : Rec) : Nat → Int32 → Option (Int32)
  | 0, _ => none
  | n + 1, i1 => X_hasDuplicate_w2 NF ob (X_hasDuplicate_l2 NF ob n) i1
set_option maxRecDepth 65536 in
set_option maxHeartbeats 4000000 in
theorem X_hasDuplicate_w2_p {C : Ctx} {top : Nat} {a : Nat} {H : List (Nat × Nat × Rec)} {ob : Rec} {res : Int32} {NF : Nat} (k2 : Int32 → Option (Int32)) (hk2 : ∀ (i1 : Int32), k2 i1 = some res → Runs C B6 0 0 2 [vr a, vi i1, vn] [] (top, (a, 12, ob) :: H) (Ans (some (.int res)) (top, (a, 12, ob) :: H))) (i1 : Int32) (hf : X_hasDuplicate_w2 NF ob k2 i1 = some res) : Runs C B6 0 0 2 [vr a, vi i1, vn] [] (top, (a, 12, ob) :: H) (Ans (some (.int res)) (top, (a, 12, ob) :: H)) := by
  delta X_hasDuplicate_w2 at hf
  refine Runs.iloadN d6_2 rfl <| Runs.aloadN d6_3 rfl <| Runs.getI d6_4 w40 fS_3 <| ?_
  refine ite_el hf (fun hc1 hf => ?_) (fun hc1 hf => ?_)
  · refine Runs.icN d6_7 (tlt hc1).2.1 <| ?_
    exact Runs.iloadN d6_10 rfl <| Runs.iconst d6_11 ci_1 <| Runs.iadd d6_12 <| Runs.istoreN (P' := [vr a, vi i1, vi (i1 + (1 : Int32))]) d6_13 (by decide) rfl <| X_hasDuplicate_l14_p k2 hk2 NF i1 (i1 + (1 : Int32)) hf
  · refine Runs.icY (pc' := 45) d6_7 (flt hc1).2.1 (by decide) <| ?_
    obtain rfl := Option.some.inj hf
    exact Runs.iconst d6_45 ci_0 <| Runs.retZ (y := (0 : Int32)) d6_46 rfl ⟨by decide, by decide⟩ rfl ⟨rfl, rfl⟩
theorem X_hasDuplicate_l2_p {C : Ctx} {top : Nat} {a : Nat} {H : List (Nat × Nat × Rec)} {ob : Rec} {res : Int32} {NF : Nat} (n : Nat) (i1 : Int32) (hf : X_hasDuplicate_l2 NF ob n i1 = some res) : Runs C B6 0 0 2 [vr a, vi i1, vn] [] (top, (a, 12, ob) :: H) (Ans (some (.int res)) (top, (a, 12, ob) :: H)) := by
  induction n generalizing i1 with
  | zero => cases (show (none : Option (Int32)) = some res from hf)
  | succ n ih => exact X_hasDuplicate_w2_p (X_hasDuplicate_l2 NF ob n) (fun i1 h => ih _ h) i1 hf
def X_hasDuplicate (NF : Nat) (ob : Rec) : Option (Int32) :=
  X_hasDuplicate_l2 NF ob NF (0 : Int32)
set_option maxRecDepth 65536 in
set_option maxHeartbeats 4000000 in
theorem X_hasDuplicate_p {C : Ctx} {top : Nat} {a : Nat} {H : List (Nat × Nat × Rec)} {ob : Rec} {res : Int32} {NF : Nat} (hf : X_hasDuplicate NF ob = some res) : Runs C B6 0 0 0 [vr a, vn, vn] [] (top, (a, 12, ob) :: H) (Ans (some (.int res)) (top, (a, 12, ob) :: H)) := by
  delta X_hasDuplicate at hf
  exact Runs.iconst d6_0 ci_0 <| Runs.istoreN (P' := [vr a, vi (0 : Int32), vn]) d6_1 (by decide) rfl <| X_hasDuplicate_l2_p NF (0 : Int32) hf
theorem X_hasDuplicate_pay {C : Ctx} {top : Nat} {a : Nat} {H : List (Nat × Nat × Rec)} {ob : Rec} {res : Int32} {NF : Nat} (hf : X_hasDuplicate NF ob = some res) : Pays C B6 [.ref a] (top, (a, 12, ob) :: H) (Ans (some (.int res)) (top, (a, 12, ob) :: H)) :=
  Pays.of pnK (Nat.le_of_ble_eq_true rfl) (P := [vr a, vn, vn]) 2 rfl (X_hasDuplicate_p hf)
def X_isUnit (ob : Rec) (i1 : Int32) : Option (Int32) :=
  chk (16 : Int32) i1 <|
  if (gA ob 1 i1) = (1 : Int32) then
    chk (80 : Int32) (i1 * (5 : Int32)) <|
    if (gA ob 2 (i1 * (5 : Int32))) < (8 : Int32) then
      some (1 : Int32)
    else
      some (0 : Int32)
  else
    some (0 : Int32)
set_option maxRecDepth 65536 in
set_option maxHeartbeats 4000000 in
theorem X_isUnit_p {C : Ctx} {top : Nat} {a : Nat} {H : List (Nat × Nat × Rec)} {ob : Rec} {res : Int32} (i1 : Int32) (hf : X_isUnit ob i1 = some res) : Runs C B9 0 0 0 [vr a, vi i1] [] (top, (a, 12, ob) :: H) (Ans (some (.int res)) (top, (a, 12, ob) :: H)) := by
  delta X_isUnit at hf
  refine Runs.aloadN d9_0 rfl <| Runs.getA d9_1 fA_1 w12 (by decide) <| Runs.iloadN d9_4 rfl <| ?_
  refine chk_el hf fun hi1 hf => ?_
  refine Runs.ialoadA d9_5 fA_1 (by decide) hi1 <| Runs.iconst d9_6 ci_1 <| ?_
  refine ite_el hf (fun hc2 hf => ?_) (fun hc2 hf => ?_)
  · refine Runs.icN d9_7 (teq hc2).2 <| ?_
    refine Runs.aloadN d9_10 rfl <| Runs.getA d9_11 fA_2 w14 (by decide) <| Runs.iloadN d9_14 rfl <| Runs.iconst d9_15 ci_5 <| Runs.imul d9_16 <| ?_
    refine chk_el hf fun hi3 hf => ?_
    refine Runs.ialoadA d9_17 fA_2 (by decide) hi3 <| Runs.bipush d9_18 cb_8 <| ?_
    refine ite_el hf (fun hc4 hf => ?_) (fun hc4 hf => ?_)
    · refine Runs.icN d9_20 (tlt hc4).2.1 <| ?_
      obtain rfl := Option.some.inj hf
      exact Runs.iconst d9_23 ci_1 <| Runs.goto (pc' := 28) d9_24 (by decide) <| Runs.retZ (y := (1 : Int32)) d9_28 rfl ⟨by decide, by decide⟩ rfl ⟨rfl, rfl⟩
    · refine Runs.icY (pc' := 27) d9_20 (flt hc4).2.1 (by decide) <| ?_
      obtain rfl := Option.some.inj hf
      exact Runs.iconst d9_27 ci_0 <| Runs.retZ (y := (0 : Int32)) d9_28 rfl ⟨by decide, by decide⟩ rfl ⟨rfl, rfl⟩
  · refine Runs.icY (pc' := 27) d9_7 (feq hc2).2 (by decide) <| ?_
    obtain rfl := Option.some.inj hf
    exact Runs.iconst d9_27 ci_0 <| Runs.retZ (y := (0 : Int32)) d9_28 rfl ⟨by decide, by decide⟩ rfl ⟨rfl, rfl⟩
theorem X_isUnit_pay {C : Ctx} {top : Nat} {a : Nat} {H : List (Nat × Nat × Rec)} {ob : Rec} {res : Int32} {i1 : Int32} (hf : X_isUnit ob i1 = some res) : Pays C B9 [.ref a, .int i1] (top, (a, 12, ob) :: H) (Ans (some (.int res)) (top, (a, 12, ob) :: H)) :=
  Pays.of pnK (Nat.le_of_ble_eq_true rfl) (P := [vr a, vi i1]) 0 rfl (X_isUnit_p i1 hf)
def X_computeOrder_w93 (NF : Nat) (k84 : Rec → Int32 → Int32 → Int32 → Option (Int32 × Rec)) (k93 : Rec → Int32 → Int32 → Int32 → Int32 → Option (Int32 × Rec)) (ob : Rec) (i1 : Int32) (i2 : Int32) (i3 : Int32) (i4 : Int32) : Option (Int32 × Rec) :=
  if i4 < (8 : Int32) then
    if ((i1 >>> (i4 &&& 31)) &&& (1 : Int32)) = (0 : Int32) then
      chk (8 : Int32) i4 <|
      if ((gA ob 6 i4) &&& (i1 ^^^ (-1 : Int32))) = (0 : Int32) then
        if i2 < (8 : Int32) then
          chk (8 : Int32) i2 <|
          k93 (sA ob 7 i2 i4) (i1 ||| ((1 : Int32) <<< (i4 &&& 31))) (i2 + (1 : Int32)) i3 (i4 + (1 : Int32))
        else
          k93 ob i1 i2 i3 (i4 + (1 : Int32))
      else
        k93 ob i1 i2 i3 (i4 + (1 : Int32))
    else
      k93 ob i1 i2 i3 (i4 + (1 : Int32))
  else
    k84 ob i1 i2 (i3 + (1 : Int32))
def X_computeOrder_l93 (NF : Nat) (k84 : Rec → Int32 → Int32 → Int32 → Option (Int32 × Rec)) : Nat → Rec → Int32 → Int32 → Int32 → Int32 → Option (Int32 × Rec)
  | 0, _, _, _, _, _ => none
  | n + 1, ob, i1, i2, i3, i4 => X_computeOrder_w93 NF k84 (X_computeOrder_l93 NF k84 n) ob i1 i2 i3 i4
set_option maxRecDepth 65536 in
set_option maxHeartbeats 4000000 in
theorem X_computeOrder_w93_p {C : Ctx} {top : Nat} {a : Nat} {H : List (Nat × Nat × Rec)} {res : Int32 × Rec} {NF : Nat} (k84 : Rec → Int32 → Int32 → Int32 → Option (Int32 × Rec)) (hk84 : ∀ (ob : Rec) (i1 : Int32) (i2 : Int32) (i3 : Int32), k84 ob i1 i2 i3 = some res → Runs C B8 0 0 84 [vr a, vi i1, vi i2, vi i3, vn] [] (top, (a, 12, ob) :: H) (Ans (some (.int res.1)) (top, (a, 12, res.2) :: H))) (k93 : Rec → Int32 → Int32 → Int32 → Int32 → Option (Int32 × Rec)) (hk93 : ∀ (ob : Rec) (i1 : Int32) (i2 : Int32) (i3 : Int32) (i4 : Int32), k93 ob i1 i2 i3 i4 = some res → Runs C B8 0 0 93 [vr a, vi i1, vi i2, vi i3, vi i4] [] (top, (a, 12, ob) :: H) (Ans (some (.int res.1)) (top, (a, 12, res.2) :: H))) (ob : Rec) (i1 : Int32) (i2 : Int32) (i3 : Int32) (i4 : Int32) (hf : X_computeOrder_w93 NF k84 k93 ob i1 i2 i3 i4 = some res) : Runs C B8 0 0 93 [vr a, vi i1, vi i2, vi i3, vi i4] [] (top, (a, 12, ob) :: H) (Ans (some (.int res.1)) (top, (a, 12, res.2) :: H)) := by
  delta X_computeOrder_w93 at hf
  refine Runs.iload d8_93 rfl <| Runs.bipush d8_95 cb_8 <| ?_
  refine ite_el hf (fun hc14 hf => ?_) (fun hc14 hf => ?_)
  · refine Runs.icN d8_97 (tlt hc14).2.1 <| ?_
    refine Runs.iloadN d8_100 rfl <| Runs.iload d8_101 rfl <| Runs.ishr d8_103 <| Runs.iconst d8_104 ci_1 <| Runs.iand d8_105 <| ?_
    refine ite_el hf (fun hc15 hf => ?_) (fun hc15 hf => ?_)
    · refine Runs.ifN d8_106 (teq hc15).2 <| ?_
      refine Runs.aloadN d8_109 rfl <| Runs.getA d8_110 fA_6 w22 (by decide) <| Runs.iload d8_113 rfl <| ?_
      refine chk_el hf fun hi16 hf => ?_
      refine Runs.ialoadA d8_115 fA_6 (by decide) hi16 <| Runs.iloadN d8_116 rfl <| Runs.iconst d8_117 ci_m1 <| Runs.ixor d8_118 <| Runs.iand d8_119 <| ?_
      refine ite_el hf (fun hc17 hf => ?_) (fun hc17 hf => ?_)
      · refine Runs.ifN d8_120 (teq hc17).2 <| ?_
        refine Runs.iloadN d8_123 rfl <| Runs.bipush d8_124 cb_8 <| ?_
        refine ite_el hf (fun hc18 hf => ?_) (fun hc18 hf => ?_)
        · refine Runs.icN d8_126 (tlt hc18).2.1 <| ?_
          refine Runs.iloadN d8_129 rfl <| Runs.iconst d8_130 ci_1 <| Runs.iload d8_131 rfl <| Runs.ishl d8_133 <| Runs.ior d8_134 <| Runs.istoreN (P' := [vr a, vi (i1 ||| ((1 : Int32) <<< (i4 &&& 31))), vi i2, vi i3, vi i4]) d8_135 (by decide) rfl <| Runs.aloadN d8_136 rfl <| Runs.getA d8_137 fA_7 w24 (by decide) <| Runs.iloadN d8_140 rfl <| Runs.iload d8_141 rfl <| ?_
          refine chk_el hf fun hi19 hf => ?_
          exact Runs.iastoreA d8_143 fA_7 (by decide) hi19 <| Runs.iinc (P' := [vr a, vi (i1 ||| ((1 : Int32) <<< (i4 &&& 31))), vi (i2 + (1 : Int32)), vi i3, vi i4]) d8_144 ci_1 rfl (by decide) rfl <| Runs.iinc (P' := [vr a, vi (i1 ||| ((1 : Int32) <<< (i4 &&& 31))), vi (i2 + (1 : Int32)), vi i3, vi (i4 + (1 : Int32))]) d8_147 ci_1 rfl (by decide) rfl <| Runs.goto (pc' := 93) d8_150 (by decide) <| hk93 (sA ob 7 i2 i4) (i1 ||| ((1 : Int32) <<< (i4 &&& 31))) (i2 + (1 : Int32)) i3 (i4 + (1 : Int32)) hf
        · refine Runs.icY (pc' := 147) d8_126 (flt hc18).2.1 (by decide) <| ?_
          exact Runs.iinc (P' := [vr a, vi i1, vi i2, vi i3, vi (i4 + (1 : Int32))]) d8_147 ci_1 rfl (by decide) rfl <| Runs.goto (pc' := 93) d8_150 (by decide) <| hk93 ob i1 i2 i3 (i4 + (1 : Int32)) hf
      · refine Runs.ifY (pc' := 147) d8_120 (feq hc17).2 (by decide) <| ?_
        exact Runs.iinc (P' := [vr a, vi i1, vi i2, vi i3, vi (i4 + (1 : Int32))]) d8_147 ci_1 rfl (by decide) rfl <| Runs.goto (pc' := 93) d8_150 (by decide) <| hk93 ob i1 i2 i3 (i4 + (1 : Int32)) hf
    · refine Runs.ifY (pc' := 147) d8_106 (feq hc15).2 (by decide) <| ?_
      exact Runs.iinc (P' := [vr a, vi i1, vi i2, vi i3, vi (i4 + (1 : Int32))]) d8_147 ci_1 rfl (by decide) rfl <| Runs.goto (pc' := 93) d8_150 (by decide) <| hk93 ob i1 i2 i3 (i4 + (1 : Int32)) hf
  · refine Runs.icY (pc' := 153) d8_97 (flt hc14).2.1 (by decide) <| ?_
    exact Runs.iinc (P' := [vr a, vi i1, vi i2, vi (i3 + (1 : Int32)), vi i4]) d8_153 ci_1 rfl (by decide) rfl <| Runs.goto (pc' := 84) d8_156 (by decide) <| Runs.forget [true, true, true, true, false] rfl <| hk84 ob i1 i2 (i3 + (1 : Int32)) hf
theorem X_computeOrder_l93_p {C : Ctx} {top : Nat} {a : Nat} {H : List (Nat × Nat × Rec)} {res : Int32 × Rec} {NF : Nat} (k84 : Rec → Int32 → Int32 → Int32 → Option (Int32 × Rec)) (hk84 : ∀ (ob : Rec) (i1 : Int32) (i2 : Int32) (i3 : Int32), k84 ob i1 i2 i3 = some res → Runs C B8 0 0 84 [vr a, vi i1, vi i2, vi i3, vn] [] (top, (a, 12, ob) :: H) (Ans (some (.int res.1)) (top, (a, 12, res.2) :: H))) (n : Nat) (ob : Rec) (i1 : Int32) (i2 : Int32) (i3 : Int32) (i4 : Int32) (hf : X_computeOrder_l93 NF k84 n ob i1 i2 i3 i4 = some res) : Runs C B8 0 0 93 [vr a, vi i1, vi i2, vi i3, vi i4] [] (top, (a, 12, ob) :: H) (Ans (some (.int res.1)) (top, (a, 12, res.2) :: H)) := by
  induction n generalizing ob i1 i2 i3 i4 with
  | zero => cases (show (none : Option (Int32 × Rec)) = some res from hf)
  | succ n ih => exact X_computeOrder_w93_p k84 hk84 (X_computeOrder_l93 NF k84 n) (fun ob i1 i2 i3 i4 h => ih _ _ _ _ _ h) ob i1 i2 i3 i4 hf
def X_computeOrder_w84 (NF : Nat) (k84 : Rec → Int32 → Int32 → Int32 → Option (Int32 × Rec)) (ob : Rec) (i1 : Int32) (i2 : Int32) (i3 : Int32) : Option (Int32 × Rec) :=
  if i3 < (8 : Int32) then
    X_computeOrder_l93 NF k84 NF ob i1 i2 i3 (0 : Int32)
  else
    if i2 = (8 : Int32) then
      some ((1 : Int32), ob)
    else
      some ((0 : Int32), ob)
def X_computeOrder_l84 (NF : Nat) : Nat → Rec → Int32 → Int32 → Int32 → Option (Int32 × Rec)
  | 0, _, _, _, _ => none
  | n + 1, ob, i1, i2, i3 => X_computeOrder_w84 NF (X_computeOrder_l84 NF n) ob i1 i2 i3
set_option maxRecDepth 65536 in
set_option maxHeartbeats 4000000 in
theorem X_computeOrder_w84_p {C : Ctx} {top : Nat} {a : Nat} {H : List (Nat × Nat × Rec)} {res : Int32 × Rec} {NF : Nat} (k84 : Rec → Int32 → Int32 → Int32 → Option (Int32 × Rec)) (hk84 : ∀ (ob : Rec) (i1 : Int32) (i2 : Int32) (i3 : Int32), k84 ob i1 i2 i3 = some res → Runs C B8 0 0 84 [vr a, vi i1, vi i2, vi i3, vn] [] (top, (a, 12, ob) :: H) (Ans (some (.int res.1)) (top, (a, 12, res.2) :: H))) (ob : Rec) (i1 : Int32) (i2 : Int32) (i3 : Int32) (hf : X_computeOrder_w84 NF k84 ob i1 i2 i3 = some res) : Runs C B8 0 0 84 [vr a, vi i1, vi i2, vi i3, vn] [] (top, (a, 12, ob) :: H) (Ans (some (.int res.1)) (top, (a, 12, res.2) :: H)) := by
  delta X_computeOrder_w84 at hf
  refine Runs.iloadN d8_84 rfl <| Runs.bipush d8_85 cb_8 <| ?_
  refine ite_el hf (fun hc12 hf => ?_) (fun hc12 hf => ?_)
  · refine Runs.icN d8_87 (tlt hc12).2.1 <| ?_
    exact Runs.iconst d8_90 ci_0 <| Runs.istore (P' := [vr a, vi i1, vi i2, vi i3, vi (0 : Int32)]) d8_91 (by decide) rfl <| X_computeOrder_l93_p k84 hk84 NF ob i1 i2 i3 (0 : Int32) hf
  · refine Runs.icY (pc' := 159) d8_87 (flt hc12).2.1 (by decide) <| ?_
    refine Runs.iloadN d8_159 rfl <| Runs.bipush d8_160 cb_8 <| ?_
    refine ite_el hf (fun hc13 hf => ?_) (fun hc13 hf => ?_)
    · refine Runs.icN d8_162 (teq hc13).2 <| ?_
      obtain rfl := Option.some.inj hf
      exact Runs.iconst d8_165 ci_1 <| Runs.goto (pc' := 170) d8_166 (by decide) <| Runs.retZ (y := (1 : Int32)) d8_170 rfl ⟨by decide, by decide⟩ rfl ⟨rfl, rfl⟩
    · refine Runs.icY (pc' := 169) d8_162 (feq hc13).2 (by decide) <| ?_
      obtain rfl := Option.some.inj hf
      exact Runs.iconst d8_169 ci_0 <| Runs.retZ (y := (0 : Int32)) d8_170 rfl ⟨by decide, by decide⟩ rfl ⟨rfl, rfl⟩
theorem X_computeOrder_l84_p {C : Ctx} {top : Nat} {a : Nat} {H : List (Nat × Nat × Rec)} {res : Int32 × Rec} {NF : Nat} (n : Nat) (ob : Rec) (i1 : Int32) (i2 : Int32) (i3 : Int32) (hf : X_computeOrder_l84 NF n ob i1 i2 i3 = some res) : Runs C B8 0 0 84 [vr a, vi i1, vi i2, vi i3, vn] [] (top, (a, 12, ob) :: H) (Ans (some (.int res.1)) (top, (a, 12, res.2) :: H)) := by
  induction n generalizing ob i1 i2 i3 with
  | zero => cases (show (none : Option (Int32 × Rec)) = some res from hf)
  | succ n ih => exact X_computeOrder_w84_p (X_computeOrder_l84 NF n) (fun ob i1 i2 i3 h => ih _ _ _ _ h) ob i1 i2 i3 hf
def X_computeOrder_w23 (NF : Nat) (k23 : Rec → Int32 → Option (Int32 × Rec)) (ob : Rec) (i1 : Int32) : Option (Int32 × Rec) :=
  if i1 < (gI ob 3) then
    (X_isUnit ob i1).bind fun r4 =>
    if r4 = (0 : Int32) then
      k23 ob (i1 + (1 : Int32))
    else
      chk (16 : Int32) i1 <|
      chk (16 : Int32) i1 <|
      chk (8 : Int32) (gA ob 0 i1) <|
      chk (80 : Int32) (i1 * (5 : Int32)) <|
      chk (8 : Int32) (gA ob 0 i1) <|
      k23 (sA ob 6 (gA ob 0 i1) ((gA ob 6 (gA ob 0 i1)) ||| ((1 : Int32) <<< ((gA ob 2 (i1 * (5 : Int32))) &&& 31)))) (i1 + (1 : Int32))
  else
    X_computeOrder_l84 NF NF ob (0 : Int32) (0 : Int32) (0 : Int32)
def X_computeOrder_l23 (NF : Nat) : Nat → Rec → Int32 → Option (Int32 × Rec)
  | 0, _, _ => none
  | n + 1, ob, i1 => X_computeOrder_w23 NF (X_computeOrder_l23 NF n) ob i1
set_option maxRecDepth 65536 in
set_option maxHeartbeats 4000000 in
theorem X_computeOrder_w23_p {C : Ctx} {top : Nat} {a : Nat} {H : List (Nat × Nat × Rec)} {res : Int32 × Rec} {NF : Nat} (k23 : Rec → Int32 → Option (Int32 × Rec)) (hk23 : ∀ (ob : Rec) (i1 : Int32), k23 ob i1 = some res → Runs C B8 0 0 23 [vr a, vi i1, vn, vn, vn] [] (top, (a, 12, ob) :: H) (Ans (some (.int res.1)) (top, (a, 12, res.2) :: H))) (ob : Rec) (i1 : Int32) (hf : X_computeOrder_w23 NF k23 ob i1 = some res) : Runs C B8 0 0 23 [vr a, vi i1, vn, vn, vn] [] (top, (a, 12, ob) :: H) (Ans (some (.int res.1)) (top, (a, 12, res.2) :: H)) := by
  delta X_computeOrder_w23 at hf
  refine Runs.iloadN d8_23 rfl <| Runs.aloadN d8_24 rfl <| Runs.getI d8_25 w40 fS_3 <| ?_
  refine ite_el hf (fun hc3 hf => ?_) (fun hc3 hf => ?_)
  · refine Runs.icN d8_28 (tlt hc3).2.1 <| ?_
    refine Runs.aloadN d8_31 rfl <| Runs.iloadN d8_32 rfl <| ?_
    refine bind_el hf fun r4 hg5 hf => ?_
    refine Runs.callP (N := B9) (W := 0) (as := [.int i1]) (S' := []) d8_33 w81 w82 w83 rfl cw9 ar9 rk8_9_0 (by decide) rfl rfl (X_isUnit_pay hg5) <| ans1 <| ?_
    refine ite_el hf (fun hc6 hf => ?_) (fun hc6 hf => ?_)
    · refine Runs.ifY (pc' := 72) d8_36 (teq hc6).1 (by decide) <| ?_
      exact Runs.iinc (P' := [vr a, vi (i1 + (1 : Int32)), vn, vn, vn]) d8_72 ci_1 rfl (by decide) rfl <| Runs.goto (pc' := 23) d8_75 (by decide) <| hk23 ob (i1 + (1 : Int32)) hf
    · refine Runs.ifN d8_36 (feq hc6).1 <| ?_
      refine Runs.aloadN d8_39 rfl <| Runs.getA d8_40 fA_6 w22 (by decide) <| Runs.aloadN d8_43 rfl <| Runs.getA d8_44 fA_0 w10 (by decide) <| Runs.iloadN d8_47 rfl <| ?_
      refine chk_el hf fun hi7 hf => ?_
      refine Runs.ialoadA d8_48 fA_0 (by decide) hi7 <| Runs.aloadN d8_49 rfl <| Runs.getA d8_50 fA_6 w22 (by decide) <| Runs.aloadN d8_53 rfl <| Runs.getA d8_54 fA_0 w10 (by decide) <| Runs.iloadN d8_57 rfl <| ?_
      refine chk_el hf fun hi8 hf => ?_
      refine Runs.ialoadA d8_58 fA_0 (by decide) hi8 <| ?_
      refine chk_el hf fun hi9 hf => ?_
      refine Runs.ialoadA d8_59 fA_6 (by decide) hi9 <| Runs.iconst d8_60 ci_1 <| Runs.aloadN d8_61 rfl <| Runs.getA d8_62 fA_2 w14 (by decide) <| Runs.iloadN d8_65 rfl <| Runs.iconst d8_66 ci_5 <| Runs.imul d8_67 <| ?_
      refine chk_el hf fun hi10 hf => ?_
      refine Runs.ialoadA d8_68 fA_2 (by decide) hi10 <| Runs.ishl d8_69 <| Runs.ior d8_70 <| ?_
      refine chk_el hf fun hi11 hf => ?_
      exact Runs.iastoreA d8_71 fA_6 (by decide) hi11 <| Runs.iinc (P' := [vr a, vi (i1 + (1 : Int32)), vn, vn, vn]) d8_72 ci_1 rfl (by decide) rfl <| Runs.goto (pc' := 23) d8_75 (by decide) <| hk23 (sA ob 6 (gA ob 0 i1) ((gA ob 6 (gA ob 0 i1)) ||| ((1 : Int32) <<< ((gA ob 2 (i1 * (5 : Int32))) &&& 31)))) (i1 + (1 : Int32)) hf
  · refine Runs.icY (pc' := 78) d8_28 (flt hc3).2.1 (by decide) <| ?_
    exact Runs.iconst d8_78 ci_0 <| Runs.istoreN (P' := [vr a, vi (0 : Int32), vn, vn, vn]) d8_79 (by decide) rfl <| Runs.iconst d8_80 ci_0 <| Runs.istoreN (P' := [vr a, vi (0 : Int32), vi (0 : Int32), vn, vn]) d8_81 (by decide) rfl <| Runs.iconst d8_82 ci_0 <| Runs.istoreN (P' := [vr a, vi (0 : Int32), vi (0 : Int32), vi (0 : Int32), vn]) d8_83 (by decide) rfl <| X_computeOrder_l84_p NF ob (0 : Int32) (0 : Int32) (0 : Int32) hf
theorem X_computeOrder_l23_p {C : Ctx} {top : Nat} {a : Nat} {H : List (Nat × Nat × Rec)} {res : Int32 × Rec} {NF : Nat} (n : Nat) (ob : Rec) (i1 : Int32) (hf : X_computeOrder_l23 NF n ob i1 = some res) : Runs C B8 0 0 23 [vr a, vi i1, vn, vn, vn] [] (top, (a, 12, ob) :: H) (Ans (some (.int res.1)) (top, (a, 12, res.2) :: H)) := by
  induction n generalizing ob i1 with
  | zero => cases (show (none : Option (Int32 × Rec)) = some res from hf)
  | succ n ih => exact X_computeOrder_w23_p (X_computeOrder_l23 NF n) (fun ob i1 h => ih _ _ h) ob i1 hf
def X_computeOrder_w2 (NF : Nat) (k2 : Rec → Int32 → Option (Int32 × Rec)) (ob : Rec) (i1 : Int32) : Option (Int32 × Rec) :=
  if i1 < (8 : Int32) then
    chk (8 : Int32) i1 <|
    k2 (sA ob 6 i1 (0 : Int32)) (i1 + (1 : Int32))
  else
    X_computeOrder_l23 NF NF ob (0 : Int32)
def X_computeOrder_l2 (NF : Nat) : Nat → Rec → Int32 → Option (Int32 × Rec)
  | 0, _, _ => none
  | n + 1, ob, i1 => X_computeOrder_w2 NF (X_computeOrder_l2 NF n) ob i1
set_option maxRecDepth 65536 in
set_option maxHeartbeats 4000000 in
theorem X_computeOrder_w2_p {C : Ctx} {top : Nat} {a : Nat} {H : List (Nat × Nat × Rec)} {res : Int32 × Rec} {NF : Nat} (k2 : Rec → Int32 → Option (Int32 × Rec)) (hk2 : ∀ (ob : Rec) (i1 : Int32), k2 ob i1 = some res → Runs C B8 0 0 2 [vr a, vi i1, vn, vn, vn] [] (top, (a, 12, ob) :: H) (Ans (some (.int res.1)) (top, (a, 12, res.2) :: H))) (ob : Rec) (i1 : Int32) (hf : X_computeOrder_w2 NF k2 ob i1 = some res) : Runs C B8 0 0 2 [vr a, vi i1, vn, vn, vn] [] (top, (a, 12, ob) :: H) (Ans (some (.int res.1)) (top, (a, 12, res.2) :: H)) := by
  delta X_computeOrder_w2 at hf
  refine Runs.iloadN d8_2 rfl <| Runs.bipush d8_3 cb_8 <| ?_
  refine ite_el hf (fun hc1 hf => ?_) (fun hc1 hf => ?_)
  · refine Runs.icN d8_5 (tlt hc1).2.1 <| ?_
    refine Runs.aloadN d8_8 rfl <| Runs.getA d8_9 fA_6 w22 (by decide) <| Runs.iloadN d8_12 rfl <| Runs.iconst d8_13 ci_0 <| ?_
    refine chk_el hf fun hi2 hf => ?_
    exact Runs.iastoreA d8_14 fA_6 (by decide) hi2 <| Runs.iinc (P' := [vr a, vi (i1 + (1 : Int32)), vn, vn, vn]) d8_15 ci_1 rfl (by decide) rfl <| Runs.goto (pc' := 2) d8_18 (by decide) <| hk2 (sA ob 6 i1 (0 : Int32)) (i1 + (1 : Int32)) hf
  · refine Runs.icY (pc' := 21) d8_5 (flt hc1).2.1 (by decide) <| ?_
    exact Runs.iconst d8_21 ci_0 <| Runs.istoreN (P' := [vr a, vi (0 : Int32), vn, vn, vn]) d8_22 (by decide) rfl <| X_computeOrder_l23_p NF ob (0 : Int32) hf
theorem X_computeOrder_l2_p {C : Ctx} {top : Nat} {a : Nat} {H : List (Nat × Nat × Rec)} {res : Int32 × Rec} {NF : Nat} (n : Nat) (ob : Rec) (i1 : Int32) (hf : X_computeOrder_l2 NF n ob i1 = some res) : Runs C B8 0 0 2 [vr a, vi i1, vn, vn, vn] [] (top, (a, 12, ob) :: H) (Ans (some (.int res.1)) (top, (a, 12, res.2) :: H)) := by
  induction n generalizing ob i1 with
  | zero => cases (show (none : Option (Int32 × Rec)) = some res from hf)
  | succ n ih => exact X_computeOrder_w2_p (X_computeOrder_l2 NF n) (fun ob i1 h => ih _ _ h) ob i1 hf
def X_computeOrder (NF : Nat) (ob : Rec) : Option (Int32 × Rec) :=
  X_computeOrder_l2 NF NF ob (0 : Int32)
set_option maxRecDepth 65536 in
set_option maxHeartbeats 4000000 in
theorem X_computeOrder_p {C : Ctx} {top : Nat} {a : Nat} {H : List (Nat × Nat × Rec)} {res : Int32 × Rec} {NF : Nat} (ob : Rec) (hf : X_computeOrder NF ob = some res) : Runs C B8 0 0 0 [vr a, vn, vn, vn, vn] [] (top, (a, 12, ob) :: H) (Ans (some (.int res.1)) (top, (a, 12, res.2) :: H)) := by
  delta X_computeOrder at hf
  exact Runs.iconst d8_0 ci_0 <| Runs.istoreN (P' := [vr a, vi (0 : Int32), vn, vn, vn]) d8_1 (by decide) rfl <| X_computeOrder_l2_p NF ob (0 : Int32) hf
theorem X_computeOrder_pay {C : Ctx} {top : Nat} {a : Nat} {H : List (Nat × Nat × Rec)} {res : Int32 × Rec} {NF : Nat} {ob : Rec} (hf : X_computeOrder NF ob = some res) : Pays C B8 [.ref a] (top, (a, 12, ob) :: H) (Ans (some (.int res.1)) (top, (a, 12, res.2) :: H)) :=
  Pays.of pnK (Nat.le_of_ble_eq_true rfl) (P := [vr a, vn, vn, vn, vn]) 4 rfl (X_computeOrder_p ob hf)
def X_reshape (NF : Nat) (ob : Rec) : Option (Int32 × Rec) :=
  if (gI ob 2) = (0 : Int32) then
    if (gI ob 3) = (0 : Int32) then
      some ((4 : Int32), ob)
    else
      (X_hasEmptyRule NF ob).bind fun r3 =>
      if r3 = (0 : Int32) then
        (X_hasDuplicate NF ob).bind fun r6 =>
        if r6 = (0 : Int32) then
          bind2 (X_computeOrder NF ob) fun r9 q10 =>
          if r9 = (0 : Int32) then
            some ((7 : Int32), q10)
          else
            some ((0 : Int32), (sI (sI (sI (sI q10 2 (1 : Int32)) 4 (0 : Int32)) 5 (-1 : Int32)) 6 (0 : Int32)))
        else
          some ((6 : Int32), ob)
      else
        some ((5 : Int32), ob)
  else
    some ((1 : Int32), ob)
set_option maxRecDepth 65536 in
set_option maxHeartbeats 4000000 in
theorem X_reshape_p {C : Ctx} {top : Nat} {a : Nat} {H : List (Nat × Nat × Rec)} {res : Int32 × Rec} {NF : Nat} (ob : Rec) (hf : X_reshape NF ob = some res) : Runs C B4 0 0 0 [vr a] [] (top, (a, 12, ob) :: H) (Ans (some (.int res.1)) (top, (a, 12, res.2) :: H)) := by
  delta X_reshape at hf
  refine Runs.aloadN d4_0 rfl <| Runs.getI d4_1 w38 fS_2 <| ?_
  refine ite_el hf (fun hc1 hf => ?_) (fun hc1 hf => ?_)
  · refine Runs.ifY (pc' := 9) d4_4 (teq hc1).1 (by decide) <| ?_
    refine Runs.aloadN d4_9 rfl <| Runs.getI d4_10 w40 fS_3 <| ?_
    refine ite_el hf (fun hc2 hf => ?_) (fun hc2 hf => ?_)
    · refine Runs.ifN d4_13 (teq hc2).2 <| ?_
      obtain rfl := Option.some.inj hf
      exact Runs.iconst d4_16 ci_4 <| Runs.retI d4_17 rfl ⟨by decide, by decide⟩ ⟨rfl, rfl⟩
    · refine Runs.ifY (pc' := 18) d4_13 (feq hc2).2 (by decide) <| ?_
      refine Runs.aloadN d4_18 rfl <| ?_
      refine bind_el hf fun r3 hg4 hf => ?_
      refine Runs.callP (N := B5) (W := 0) (as := []) (S' := []) d4_19 w65 w66 w67 rfl cw5 ar5 rk4_5_0 (by decide) rfl rfl (X_hasEmptyRule_pay hg4) <| ans1 <| ?_
      refine ite_el hf (fun hc5 hf => ?_) (fun hc5 hf => ?_)
      · refine Runs.ifY (pc' := 27) d4_22 (teq hc5).1 (by decide) <| ?_
        refine Runs.aloadN d4_27 rfl <| ?_
        refine bind_el hf fun r6 hg7 hf => ?_
        refine Runs.callP (N := B6) (W := 0) (as := []) (S' := []) d4_28 w69 w70 w71 rfl cw6 ar6 rk4_6_0 (by decide) rfl rfl (X_hasDuplicate_pay hg7) <| ans1 <| ?_
        refine ite_el hf (fun hc8 hf => ?_) (fun hc8 hf => ?_)
        · refine Runs.ifY (pc' := 37) d4_31 (teq hc8).1 (by decide) <| ?_
          refine Runs.aloadN d4_37 rfl <| ?_
          refine bind2_el hf fun r9 q10 hg11 hf => ?_
          refine Runs.callP (N := B8) (W := 0) (as := []) (S' := []) d4_38 w77 w78 w79 rfl cw8 ar8 rk4_8_0 (by decide) rfl rfl (X_computeOrder_pay hg11) <| ans1 <| ?_
          refine ite_el hf (fun hc12 hf => ?_) (fun hc12 hf => ?_)
          · refine Runs.ifN d4_41 (teq hc12).2 <| ?_
            obtain rfl := Option.some.inj hf
            exact Runs.bipush d4_44 cb_7 <| Runs.retI d4_46 rfl ⟨by decide, by decide⟩ ⟨rfl, rfl⟩
          · refine Runs.ifY (pc' := 47) d4_41 (feq hc12).2 (by decide) <| ?_
            refine Runs.aloadN d4_47 rfl <| Runs.iconst d4_48 ci_1 <| Runs.putI d4_49 w38 fS_2 (Or.inl w39) <| Runs.aloadN d4_52 rfl <| Runs.iconst d4_53 ci_0 <| Runs.putI d4_54 w42 fS_4 (Or.inl w43) <| Runs.aloadN d4_57 rfl <| Runs.iconst d4_58 ci_m1 <| Runs.putI d4_59 w44 fS_5 (Or.inl w45) <| Runs.aloadN d4_62 rfl <| Runs.iconst d4_63 ci_0 <| Runs.putI d4_64 w46 fS_6 (Or.inl w47) <| ?_
            obtain rfl := Option.some.inj hf
            exact Runs.iconst d4_67 ci_0 <| Runs.retI d4_68 rfl ⟨by decide, by decide⟩ ⟨rfl, rfl⟩
        · refine Runs.ifN d4_31 (feq hc8).1 <| ?_
          obtain rfl := Option.some.inj hf
          exact Runs.bipush d4_34 cb_6 <| Runs.retI d4_36 rfl ⟨by decide, by decide⟩ ⟨rfl, rfl⟩
      · refine Runs.ifN d4_22 (feq hc5).1 <| ?_
        obtain rfl := Option.some.inj hf
        exact Runs.iconst d4_25 ci_5 <| Runs.retI d4_26 rfl ⟨by decide, by decide⟩ ⟨rfl, rfl⟩
  · refine Runs.ifN d4_4 (feq hc1).1 <| ?_
    obtain rfl := Option.some.inj hf
    exact Runs.iconst d4_7 ci_1 <| Runs.retI d4_8 rfl ⟨by decide, by decide⟩ ⟨rfl, rfl⟩
theorem X_reshape_pay {C : Ctx} {top : Nat} {a : Nat} {H : List (Nat × Nat × Rec)} {res : Int32 × Rec} {NF : Nat} {ob : Rec} (hf : X_reshape NF ob = some res) : Pays C B4 [.ref a] (top, (a, 12, ob) :: H) (Ans (some (.int res.1)) (top, (a, 12, res.2) :: H)) :=
  Pays.of pnK (Nat.le_of_ble_eq_true rfl) (P := [vr a]) 0 rfl (X_reshape_p ob hf)
def X_feed (ob : Rec) (i1 : Int32) : Option (Int32 × Rec) :=
  if (gI ob 2) = (1 : Int32) then
    if i1 < (0 : Int32) then
      some ((2 : Int32), ob)
    else
      if (7 : Int32) < i1 then
        some ((2 : Int32), ob)
      else
        if (gI ob 4) < (gI ob 1) then
          chk (16 : Int32) (gI ob 4) <|
          some ((0 : Int32), (sI (sI (sI (sA ob 3 (gI ob 4) i1) 4 ((gI ob 4) + (1 : Int32))) 5 (-1 : Int32)) 6 (0 : Int32)))
        else
          some ((3 : Int32), ob)
  else
    some ((1 : Int32), ob)
set_option maxRecDepth 65536 in
set_option maxHeartbeats 4000000 in
theorem X_feed_p {C : Ctx} {top : Nat} {a : Nat} {H : List (Nat × Nat × Rec)} {res : Int32 × Rec} (ob : Rec) (i1 : Int32) (hf : X_feed ob i1 = some res) : Runs C B10 0 0 0 [vr a, vi i1] [] (top, (a, 12, ob) :: H) (Ans (some (.int res.1)) (top, (a, 12, res.2) :: H)) := by
  delta X_feed at hf
  refine Runs.aloadN d10_0 rfl <| Runs.getI d10_1 w38 fS_2 <| Runs.iconst d10_4 ci_1 <| ?_
  refine ite_el hf (fun hc1 hf => ?_) (fun hc1 hf => ?_)
  · refine Runs.icY (pc' := 10) d10_5 (teq hc1).1 (by decide) <| ?_
    refine Runs.iloadN d10_10 rfl <| ?_
    refine ite_el hf (fun hc2 hf => ?_) (fun hc2 hf => ?_)
    · refine Runs.ifY (pc' := 20) d10_11 (tlt hc2).1 (by decide) <| ?_
      obtain rfl := Option.some.inj hf
      exact Runs.iconst d10_20 ci_2 <| Runs.retI d10_21 rfl ⟨by decide, by decide⟩ ⟨rfl, rfl⟩
    · refine Runs.ifN d10_11 (flt hc2).1 <| ?_
      refine Runs.iloadN d10_14 rfl <| Runs.bipush d10_15 cb_7 <| ?_
      refine ite_el hf (fun hc3 hf => ?_) (fun hc3 hf => ?_)
      · refine Runs.icN d10_17 (tlt hc3).2.2.2 <| ?_
        obtain rfl := Option.some.inj hf
        exact Runs.iconst d10_20 ci_2 <| Runs.retI d10_21 rfl ⟨by decide, by decide⟩ ⟨rfl, rfl⟩
      · refine Runs.icY (pc' := 22) d10_17 (flt hc3).2.2.2 (by decide) <| ?_
        refine Runs.aloadN d10_22 rfl <| Runs.getI d10_23 w42 fS_4 <| Runs.aloadN d10_26 rfl <| Runs.getI d10_27 w36 fS_1 <| ?_
        refine ite_el hf (fun hc4 hf => ?_) (fun hc4 hf => ?_)
        · refine Runs.icY (pc' := 35) d10_30 (tlt hc4).1 (by decide) <| ?_
          refine Runs.aloadN d10_35 rfl <| Runs.getA d10_36 fA_3 w16 (by decide) <| Runs.aloadN d10_39 rfl <| Runs.getI d10_40 w42 fS_4 <| Runs.iloadN d10_43 rfl <| ?_
          refine chk_el hf fun hi5 hf => ?_
          refine Runs.iastoreA d10_44 fA_3 (by decide) hi5 <| Runs.aloadN d10_45 rfl <| Runs.dup d10_46 rfl <| Runs.getI d10_47 w42 fS_4 <| Runs.iconst d10_50 ci_1 <| Runs.iadd d10_51 <| Runs.putI d10_52 w42 fS_4 (Or.inl w43) <| Runs.aloadN d10_55 rfl <| Runs.iconst d10_56 ci_m1 <| Runs.putI d10_57 w44 fS_5 (Or.inl w45) <| Runs.aloadN d10_60 rfl <| Runs.iconst d10_61 ci_0 <| ?_
          obtain rfl := Option.some.inj hf
          exact Runs.putI d10_62 w46 fS_6 (Or.inl w47) <| Runs.iconst d10_65 ci_0 <| Runs.retI d10_66 rfl ⟨by decide, by decide⟩ ⟨rfl, rfl⟩
        · refine Runs.icN d10_30 (flt hc4).1 <| ?_
          obtain rfl := Option.some.inj hf
          exact Runs.iconst d10_33 ci_3 <| Runs.retI d10_34 rfl ⟨by decide, by decide⟩ ⟨rfl, rfl⟩
  · refine Runs.icN d10_5 (feq hc1).1 <| ?_
    obtain rfl := Option.some.inj hf
    exact Runs.iconst d10_8 ci_1 <| Runs.retI d10_9 rfl ⟨by decide, by decide⟩ ⟨rfl, rfl⟩
theorem X_feed_pay {C : Ctx} {top : Nat} {a : Nat} {H : List (Nat × Nat × Rec)} {res : Int32 × Rec} {ob : Rec} {i1 : Int32} (hf : X_feed ob i1 = some res) : Pays C B10 [.ref a, .int i1] (top, (a, 12, ob) :: H) (Ans (some (.int res.1)) (top, (a, 12, res.2) :: H)) :=
  Pays.of pnK (Nat.le_of_ble_eq_true rfl) (P := [vr a, vi i1]) 0 rfl (X_feed_p ob i1 hf)
def X_idx (ob : Rec) (i1 : Int32) (i2 : Int32) (i3 : Int32) : Option (Int32) :=
  some (((i1 * (289 : Int32)) + (i2 * (17 : Int32))) + i3)
set_option maxRecDepth 65536 in
set_option maxHeartbeats 4000000 in
theorem X_idx_p {C : Ctx} {top : Nat} {a : Nat} {H : List (Nat × Nat × Rec)} {ob : Rec} {res : Int32} (i1 : Int32) (i2 : Int32) (i3 : Int32) (hf : X_idx ob i1 i2 i3 = some res) : Runs C B14 0 0 0 [vr a, vi i1, vi i2, vi i3] [] (top, (a, 12, ob) :: H) (Ans (some (.int res)) (top, (a, 12, ob) :: H)) := by
  delta X_idx at hf
  obtain rfl := Option.some.inj hf
  exact Runs.iloadN d14_0 rfl <| Runs.sipush d14_1 cs_289 <| Runs.imul d14_4 <| Runs.iloadN d14_5 rfl <| Runs.bipush d14_6 cb_17 <| Runs.imul d14_8 <| Runs.iadd d14_9 <| Runs.iloadN d14_10 rfl <| Runs.iadd d14_11 <| Runs.retI d14_12 rfl ⟨by decide, by decide⟩ ⟨rfl, rfl⟩
theorem X_idx_pay {C : Ctx} {top : Nat} {a : Nat} {H : List (Nat × Nat × Rec)} {ob : Rec} {res : Int32} {i1 : Int32} {i2 : Int32} {i3 : Int32} (hf : X_idx ob i1 i2 i3 = some res) : Pays C B14 [.ref a, .int i1, .int i2, .int i3] (top, (a, 12, ob) :: H) (Ans (some (.int res)) (top, (a, 12, ob) :: H)) :=
  Pays.of pnK (Nat.le_of_ble_eq_true rfl) (P := [vr a, vi i1, vi i2, vi i3]) 0 rfl (X_idx_p i1 i2 i3 hf)
def X_symCount (ob : Rec) (i1 : Int32) (i2 : Int32) (i3 : Int32) : Option (Int32) :=
  if i2 < (0 : Int32) then
    some (0 : Int32)
  else
    if (15 : Int32) < i2 then
      some (0 : Int32)
    else
      if i3 < (1 : Int32) then
        some (0 : Int32)
      else
        if (16 : Int32) < i3 then
          some (0 : Int32)
        else
          if i1 < (8 : Int32) then
            if i1 < (0 : Int32) then
              some (0 : Int32)
            else
              (X_idx ob i1 i2 i3).bind fun r7 =>
              chk (2312 : Int32) r7 <|
              some (gA ob 4 r7)
          else
            if i3 = (i2 + (1 : Int32)) then
              chk (16 : Int32) i2 <|
              if (gA ob 3 i2) = (i1 - (8 : Int32)) then
                some (1 : Int32)
              else
                some (0 : Int32)
            else
              some (0 : Int32)
set_option maxRecDepth 65536 in
set_option maxHeartbeats 4000000 in
theorem X_symCount_p {C : Ctx} {top : Nat} {a : Nat} {H : List (Nat × Nat × Rec)} {ob : Rec} {res : Int32} (i1 : Int32) (i2 : Int32) (i3 : Int32) (hf : X_symCount ob i1 i2 i3 = some res) : Runs C B19 0 0 0 [vr a, vi i1, vi i2, vi i3] [] (top, (a, 12, ob) :: H) (Ans (some (.int res)) (top, (a, 12, ob) :: H)) := by
  delta X_symCount at hf
  refine Runs.iloadN d19_0 rfl <| ?_
  refine ite_el hf (fun hc1 hf => ?_) (fun hc1 hf => ?_)
  · refine Runs.ifY (pc' := 21) d19_1 (tlt hc1).1 (by decide) <| ?_
    obtain rfl := Option.some.inj hf
    exact Runs.iconst d19_21 ci_0 <| Runs.retI d19_22 rfl ⟨by decide, by decide⟩ ⟨rfl, rfl⟩
  · refine Runs.ifN d19_1 (flt hc1).1 <| ?_
    refine Runs.iloadN d19_4 rfl <| Runs.bipush d19_5 cb_15 <| ?_
    refine ite_el hf (fun hc2 hf => ?_) (fun hc2 hf => ?_)
    · refine Runs.icY (pc' := 21) d19_7 (tlt hc2).2.2.1 (by decide) <| ?_
      obtain rfl := Option.some.inj hf
      exact Runs.iconst d19_21 ci_0 <| Runs.retI d19_22 rfl ⟨by decide, by decide⟩ ⟨rfl, rfl⟩
    · refine Runs.icN d19_7 (flt hc2).2.2.1 <| ?_
      refine Runs.iloadN d19_10 rfl <| Runs.iconst d19_11 ci_1 <| ?_
      refine ite_el hf (fun hc3 hf => ?_) (fun hc3 hf => ?_)
      · refine Runs.icY (pc' := 21) d19_12 (tlt hc3).1 (by decide) <| ?_
        obtain rfl := Option.some.inj hf
        exact Runs.iconst d19_21 ci_0 <| Runs.retI d19_22 rfl ⟨by decide, by decide⟩ ⟨rfl, rfl⟩
      · refine Runs.icN d19_12 (flt hc3).1 <| ?_
        refine Runs.iloadN d19_15 rfl <| Runs.bipush d19_16 cb_16 <| ?_
        refine ite_el hf (fun hc4 hf => ?_) (fun hc4 hf => ?_)
        · refine Runs.icN d19_18 (tlt hc4).2.2.2 <| ?_
          obtain rfl := Option.some.inj hf
          exact Runs.iconst d19_21 ci_0 <| Runs.retI d19_22 rfl ⟨by decide, by decide⟩ ⟨rfl, rfl⟩
        · refine Runs.icY (pc' := 23) d19_18 (flt hc4).2.2.2 (by decide) <| ?_
          refine Runs.iloadN d19_23 rfl <| Runs.bipush d19_24 cb_8 <| ?_
          refine ite_el hf (fun hc5 hf => ?_) (fun hc5 hf => ?_)
          · refine Runs.icY (pc' := 55) d19_26 (tlt hc5).1 (by decide) <| ?_
            refine Runs.iloadN d19_55 rfl <| ?_
            refine ite_el hf (fun hc6 hf => ?_) (fun hc6 hf => ?_)
            · refine Runs.ifN d19_56 (tlt hc6).2.1 <| ?_
              obtain rfl := Option.some.inj hf
              exact Runs.iconst d19_59 ci_0 <| Runs.retI d19_60 rfl ⟨by decide, by decide⟩ ⟨rfl, rfl⟩
            · refine Runs.ifY (pc' := 61) d19_56 (flt hc6).2.1 (by decide) <| ?_
              refine Runs.aloadN d19_61 rfl <| Runs.getA d19_62 fA_4 w18 (by decide) <| Runs.aloadN d19_65 rfl <| Runs.iloadN d19_66 rfl <| Runs.iloadN d19_67 rfl <| Runs.iloadN d19_68 rfl <| ?_
              refine bind_el hf fun r7 hg8 hf => ?_
              refine Runs.callP (N := B14) (W := 1) (as := [.int i1, .int i2, .int i3]) (S' := [.ref (a + 1 + 4)]) d19_69 w103 w104 w105 rfl cw14 ar14 rk19_14_1 (by decide) rfl rfl (X_idx_pay hg8) <| ans1 <| ?_
              refine chk_el hf fun hi9 hf => ?_
              obtain rfl := Option.some.inj hf
              exact Runs.ialoadA d19_72 fA_4 (by decide) hi9 <| Runs.retI d19_73 rfl ⟨by decide, by decide⟩ ⟨rfl, rfl⟩
          · refine Runs.icN d19_26 (flt hc5).1 <| ?_
            refine Runs.iloadN d19_29 rfl <| Runs.iloadN d19_30 rfl <| Runs.iconst d19_31 ci_1 <| Runs.iadd d19_32 <| ?_
            refine ite_el hf (fun hc10 hf => ?_) (fun hc10 hf => ?_)
            · refine Runs.icN d19_33 (teq hc10).2 <| ?_
              refine Runs.aloadN d19_36 rfl <| Runs.getA d19_37 fA_3 w16 (by decide) <| Runs.iloadN d19_40 rfl <| ?_
              refine chk_el hf fun hi11 hf => ?_
              refine Runs.ialoadA d19_41 fA_3 (by decide) hi11 <| Runs.iloadN d19_42 rfl <| Runs.bipush d19_43 cb_8 <| Runs.isub d19_45 <| ?_
              refine ite_el hf (fun hc12 hf => ?_) (fun hc12 hf => ?_)
              · refine Runs.icN d19_46 (teq hc12).2 <| ?_
                obtain rfl := Option.some.inj hf
                exact Runs.iconst d19_49 ci_1 <| Runs.goto (pc' := 54) d19_50 (by decide) <| Runs.retI d19_54 rfl ⟨by decide, by decide⟩ ⟨rfl, rfl⟩
              · refine Runs.icY (pc' := 53) d19_46 (feq hc12).2 (by decide) <| ?_
                obtain rfl := Option.some.inj hf
                exact Runs.iconst d19_53 ci_0 <| Runs.retI d19_54 rfl ⟨by decide, by decide⟩ ⟨rfl, rfl⟩
            · refine Runs.icY (pc' := 53) d19_33 (feq hc10).2 (by decide) <| ?_
              obtain rfl := Option.some.inj hf
              exact Runs.iconst d19_53 ci_0 <| Runs.retI d19_54 rfl ⟨by decide, by decide⟩ ⟨rfl, rfl⟩
theorem X_symCount_pay {C : Ctx} {top : Nat} {a : Nat} {H : List (Nat × Nat × Rec)} {ob : Rec} {res : Int32} {i1 : Int32} {i2 : Int32} {i3 : Int32} (hf : X_symCount ob i1 i2 i3 = some res) : Pays C B19 [.ref a, .int i1, .int i2, .int i3] (top, (a, 12, ob) :: H) (Ans (some (.int res)) (top, (a, 12, ob) :: H)) :=
  Pays.of pnK (Nat.le_of_ble_eq_true rfl) (P := [vr a, vi i1, vi i2, vi i3]) 0 rfl (X_symCount_p i1 i2 i3 hf)
def X_mul (ob : Rec) (i1 : Int32) (i2 : Int32) : Option (Int32) :=
  if (i1 * i2) < (2 : Int32) then
    some (i1 * i2)
  else
    some (2 : Int32)
set_option maxRecDepth 65536 in
set_option maxHeartbeats 4000000 in
theorem X_mul_p {C : Ctx} {top : Nat} {a : Nat} {H : List (Nat × Nat × Rec)} {ob : Rec} {res : Int32} (i1 : Int32) (i2 : Int32) (hf : X_mul ob i1 i2 = some res) : Runs C B20 0 0 0 [vr a, vi i1, vi i2, vn] [] (top, (a, 12, ob) :: H) (Ans (some (.int res)) (top, (a, 12, ob) :: H)) := by
  delta X_mul at hf
  refine Runs.iloadN d20_0 rfl <| Runs.iloadN d20_1 rfl <| Runs.imul d20_2 <| Runs.istoreN (P' := [vr a, vi i1, vi i2, vi (i1 * i2)]) d20_3 (by decide) rfl <| Runs.iloadN d20_4 rfl <| Runs.iconst d20_5 ci_2 <| ?_
  refine ite_el hf (fun hc1 hf => ?_) (fun hc1 hf => ?_)
  · refine Runs.icY (pc' := 13) d20_6 (tlt hc1).1 (by decide) <| ?_
    obtain rfl := Option.some.inj hf
    exact Runs.iloadN d20_13 rfl <| Runs.retI d20_14 rfl ⟨by decide, by decide⟩ ⟨rfl, rfl⟩
  · refine Runs.icN d20_6 (flt hc1).1 <| ?_
    obtain rfl := Option.some.inj hf
    exact Runs.iconst d20_9 ci_2 <| Runs.goto (pc' := 14) d20_10 (by decide) <| Runs.retI d20_14 rfl ⟨by decide, by decide⟩ ⟨rfl, rfl⟩
theorem X_mul_pay {C : Ctx} {top : Nat} {a : Nat} {H : List (Nat × Nat × Rec)} {ob : Rec} {res : Int32} {i1 : Int32} {i2 : Int32} (hf : X_mul ob i1 i2 = some res) : Pays C B20 [.ref a, .int i1, .int i2] (top, (a, 12, ob) :: H) (Ans (some (.int res)) (top, (a, 12, ob) :: H)) :=
  Pays.of pnK (Nat.le_of_ble_eq_true rfl) (P := [vr a, vi i1, vi i2, vn]) 1 rfl (X_mul_p i1 i2 hf)
def X_add (ob : Rec) (i1 : Int32) (i2 : Int32) : Option (Int32) :=
  if (i1 + i2) < (2 : Int32) then
    some (i1 + i2)
  else
    some (2 : Int32)
set_option maxRecDepth 65536 in
set_option maxHeartbeats 4000000 in
theorem X_add_p {C : Ctx} {top : Nat} {a : Nat} {H : List (Nat × Nat × Rec)} {ob : Rec} {res : Int32} (i1 : Int32) (i2 : Int32) (hf : X_add ob i1 i2 = some res) : Runs C B17 0 0 0 [vr a, vi i1, vi i2, vn] [] (top, (a, 12, ob) :: H) (Ans (some (.int res)) (top, (a, 12, ob) :: H)) := by
  delta X_add at hf
  refine Runs.iloadN d17_0 rfl <| Runs.iloadN d17_1 rfl <| Runs.iadd d17_2 <| Runs.istoreN (P' := [vr a, vi i1, vi i2, vi (i1 + i2)]) d17_3 (by decide) rfl <| Runs.iloadN d17_4 rfl <| Runs.iconst d17_5 ci_2 <| ?_
  refine ite_el hf (fun hc1 hf => ?_) (fun hc1 hf => ?_)
  · refine Runs.icY (pc' := 13) d17_6 (tlt hc1).1 (by decide) <| ?_
    obtain rfl := Option.some.inj hf
    exact Runs.iloadN d17_13 rfl <| Runs.retI d17_14 rfl ⟨by decide, by decide⟩ ⟨rfl, rfl⟩
  · refine Runs.icN d17_6 (flt hc1).1 <| ?_
    obtain rfl := Option.some.inj hf
    exact Runs.iconst d17_9 ci_2 <| Runs.goto (pc' := 14) d17_10 (by decide) <| Runs.retI d17_14 rfl ⟨by decide, by decide⟩ ⟨rfl, rfl⟩
theorem X_add_pay {C : Ctx} {top : Nat} {a : Nat} {H : List (Nat × Nat × Rec)} {ob : Rec} {res : Int32} {i1 : Int32} {i2 : Int32} (hf : X_add ob i1 i2 = some res) : Pays C B17 [.ref a, .int i1, .int i2] (top, (a, 12, ob) :: H) (Ans (some (.int res)) (top, (a, 12, ob) :: H)) :=
  Pays.of pnK (Nat.le_of_ble_eq_true rfl) (P := [vr a, vi i1, vi i2, vn]) 1 rfl (X_add_p i1 i2 hf)
def X_cellWays_w24 (NF : Nat) (ob : Rec) (k24 : Int32 → Int32 → Int32 → Int32 → Int32 → Option (Int32)) (i2 : Int32) (i4 : Int32) (i5 : Int32) (i6 : Int32) (i7 : Int32) : Option (Int32) :=
  if i7 < i4 then
    chk (102 : Int32) (((i2 - (1 : Int32)) * (17 : Int32)) + i7) <|
    if (gA ob 5 (((i2 - (1 : Int32)) * (17 : Int32)) + i7)) = (0 : Int32) then
      k24 i2 i4 i5 i6 (i7 + (1 : Int32))
    else
      (X_symCount ob i5 i7 i4).bind fun r4 =>
      (X_mul ob (gA ob 5 (((i2 - (1 : Int32)) * (17 : Int32)) + i7)) r4).bind fun r6 =>
      (X_add ob i6 r6).bind fun r8 =>
      k24 i2 i4 i5 r8 (i7 + (1 : Int32))
  else
    some i6
def X_cellWays_l24 (NF : Nat) (ob : Rec) : Nat → Int32 → Int32 → Int32 → Int32 → Int32 → Option (Int32)
  | 0, _, _, _, _, _ => none
  | n + 1, i2, i4, i5, i6, i7 => X_cellWays_w24 NF ob (X_cellWays_l24 NF ob n) i2 i4 i5 i6 i7
set_option maxRecDepth 65536 in
set_option maxHeartbeats 4000000 in
theorem X_cellWays_w24_p {C : Ctx} {top : Nat} {a : Nat} {H : List (Nat × Nat × Rec)} {ob : Rec} {res : Int32} {NF : Nat} (k24 : Int32 → Int32 → Int32 → Int32 → Int32 → Option (Int32)) (hk24 : ∀ (i2 : Int32) (i4 : Int32) (i5 : Int32) (i6 : Int32) (i7 : Int32), k24 i2 i4 i5 i6 i7 = some res → Runs C B18 0 0 24 [vr a, vn, vi i2, vn, vi i4, vi i5, vi i6, vi i7, vn, vn, vn] [] (top, (a, 12, ob) :: H) (Ans (some (.int res)) (top, (a, 12, ob) :: H))) (i2 : Int32) (i4 : Int32) (i5 : Int32) (i6 : Int32) (i7 : Int32) (hf : X_cellWays_w24 NF ob k24 i2 i4 i5 i6 i7 = some res) : Runs C B18 0 0 24 [vr a, vn, vi i2, vn, vi i4, vi i5, vi i6, vi i7, vn, vn, vn] [] (top, (a, 12, ob) :: H) (Ans (some (.int res)) (top, (a, 12, ob) :: H)) := by
  delta X_cellWays_w24 at hf
  refine Runs.iload d18_24 rfl <| Runs.iload d18_26 rfl <| ?_
  refine ite_el hf (fun hc1 hf => ?_) (fun hc1 hf => ?_)
  · refine Runs.icN d18_28 (tlt hc1).2.1 <| ?_
    refine Runs.aloadN d18_31 rfl <| Runs.getA d18_32 fA_5 w20 (by decide) <| Runs.iloadN d18_35 rfl <| Runs.iconst d18_36 ci_1 <| Runs.isub d18_37 <| Runs.bipush d18_38 cb_17 <| Runs.imul d18_40 <| Runs.iload d18_41 rfl <| Runs.iadd d18_43 <| ?_
    refine chk_el hf fun hi2 hf => ?_
    refine Runs.ialoadA d18_44 fA_5 (by decide) hi2 <| Runs.istore (P' := [vr a, vn, vi i2, vn, vi i4, vi i5, vi i6, vi i7, vi (gA ob 5 (((i2 - (1 : Int32)) * (17 : Int32)) + i7)), vn, vn]) d18_45 (by decide) rfl <| Runs.iload d18_47 rfl <| ?_
    refine ite_el hf (fun hc3 hf => ?_) (fun hc3 hf => ?_)
    · refine Runs.ifY (pc' := 84) d18_49 (teq hc3).1 (by decide) <| ?_
      exact Runs.iinc (P' := [vr a, vn, vi i2, vn, vi i4, vi i5, vi i6, vi (i7 + (1 : Int32)), vi (gA ob 5 (((i2 - (1 : Int32)) * (17 : Int32)) + i7)), vn, vn]) d18_84 ci_1 rfl (by decide) rfl <| Runs.goto (pc' := 24) d18_87 (by decide) <| Runs.forget [true, false, true, false, true, true, true, true, false, false, false] rfl <| hk24 i2 i4 i5 i6 (i7 + (1 : Int32)) hf
    · refine Runs.ifN d18_49 (feq hc3).1 <| ?_
      refine Runs.aloadN d18_52 rfl <| Runs.iload d18_53 rfl <| Runs.iload d18_55 rfl <| Runs.iload d18_57 rfl <| ?_
      refine bind_el hf fun r4 hg5 hf => ?_
      refine Runs.callP (N := B19) (W := 0) (as := [.int i5, .int i7, .int i4]) (S' := []) d18_59 w123 w124 w125 rfl cw19 ar19 rk18_19_0 (by decide) rfl rfl (X_symCount_pay hg5) <| ans1 <| Runs.istore (P' := [vr a, vn, vi i2, vn, vi i4, vi i5, vi i6, vi i7, vi (gA ob 5 (((i2 - (1 : Int32)) * (17 : Int32)) + i7)), vi r4, vn]) d18_62 (by decide) rfl <| Runs.aloadN d18_64 rfl <| Runs.iload d18_65 rfl <| Runs.iload d18_67 rfl <| ?_
      refine bind_el hf fun r6 hg7 hf => ?_
      refine Runs.callP (N := B20) (W := 0) (as := [.int (gA ob 5 (((i2 - (1 : Int32)) * (17 : Int32)) + i7)), .int r4]) (S' := []) d18_69 w127 w128 w129 rfl cw20 ar20 rk18_20_0 (by decide) rfl rfl (X_mul_pay hg7) <| ans1 <| Runs.istore (P' := [vr a, vn, vi i2, vn, vi i4, vi i5, vi i6, vi i7, vi (gA ob 5 (((i2 - (1 : Int32)) * (17 : Int32)) + i7)), vi r4, vi r6]) d18_72 (by decide) rfl <| Runs.aloadN d18_74 rfl <| Runs.iload d18_75 rfl <| Runs.iload d18_77 rfl <| ?_
      refine bind_el hf fun r8 hg9 hf => ?_
      exact Runs.callP (N := B17) (W := 0) (as := [.int i6, .int r6]) (S' := []) d18_79 w115 w116 w117 rfl cw17 ar17 rk18_17_0 (by decide) rfl rfl (X_add_pay hg9) <| ans1 <| Runs.istore (P' := [vr a, vn, vi i2, vn, vi i4, vi i5, vi r8, vi i7, vi (gA ob 5 (((i2 - (1 : Int32)) * (17 : Int32)) + i7)), vi r4, vi r6]) d18_82 (by decide) rfl <| Runs.iinc (P' := [vr a, vn, vi i2, vn, vi i4, vi i5, vi r8, vi (i7 + (1 : Int32)), vi (gA ob 5 (((i2 - (1 : Int32)) * (17 : Int32)) + i7)), vi r4, vi r6]) d18_84 ci_1 rfl (by decide) rfl <| Runs.goto (pc' := 24) d18_87 (by decide) <| Runs.forget [true, false, true, false, true, true, true, true, false, false, false] rfl <| hk24 i2 i4 i5 r8 (i7 + (1 : Int32)) hf
  · refine Runs.icY (pc' := 90) d18_28 (flt hc1).2.1 (by decide) <| ?_
    obtain rfl := Option.some.inj hf
    exact Runs.iload d18_90 rfl <| Runs.retI d18_92 rfl ⟨by decide, by decide⟩ ⟨rfl, rfl⟩
theorem X_cellWays_l24_p {C : Ctx} {top : Nat} {a : Nat} {H : List (Nat × Nat × Rec)} {ob : Rec} {res : Int32} {NF : Nat} (n : Nat) (i2 : Int32) (i4 : Int32) (i5 : Int32) (i6 : Int32) (i7 : Int32) (hf : X_cellWays_l24 NF ob n i2 i4 i5 i6 i7 = some res) : Runs C B18 0 0 24 [vr a, vn, vi i2, vn, vi i4, vi i5, vi i6, vi i7, vn, vn, vn] [] (top, (a, 12, ob) :: H) (Ans (some (.int res)) (top, (a, 12, ob) :: H)) := by
  induction n generalizing i2 i4 i5 i6 i7 with
  | zero => cases (show (none : Option (Int32)) = some res from hf)
  | succ n ih => exact X_cellWays_w24_p (X_cellWays_l24 NF ob n) (fun i2 i4 i5 i6 i7 h => ih _ _ _ _ _ h) i2 i4 i5 i6 i7 hf
def X_cellWays (NF : Nat) (ob : Rec) (i1 : Int32) (i2 : Int32) (i3 : Int32) (i4 : Int32) : Option (Int32) :=
  chk (80 : Int32) (((i1 * (5 : Int32)) + i2) - (1 : Int32)) <|
  X_cellWays_l24 NF ob NF i2 i4 (gA ob 2 (((i1 * (5 : Int32)) + i2) - (1 : Int32))) (0 : Int32) ((i3 + i2) - (1 : Int32))
set_option maxRecDepth 65536 in
set_option maxHeartbeats 4000000 in
theorem X_cellWays_p {C : Ctx} {top : Nat} {a : Nat} {H : List (Nat × Nat × Rec)} {ob : Rec} {res : Int32} {NF : Nat} (i1 : Int32) (i2 : Int32) (i3 : Int32) (i4 : Int32) (hf : X_cellWays NF ob i1 i2 i3 i4 = some res) : Runs C B18 0 0 0 [vr a, vi i1, vi i2, vi i3, vi i4, vn, vn, vn, vn, vn, vn] [] (top, (a, 12, ob) :: H) (Ans (some (.int res)) (top, (a, 12, ob) :: H)) := by
  delta X_cellWays at hf
  refine Runs.aloadN d18_0 rfl <| Runs.getA d18_1 fA_2 w14 (by decide) <| Runs.iloadN d18_4 rfl <| Runs.iconst d18_5 ci_5 <| Runs.imul d18_6 <| Runs.iloadN d18_7 rfl <| Runs.iadd d18_8 <| Runs.iconst d18_9 ci_1 <| Runs.isub d18_10 <| ?_
  refine chk_el hf fun hi10 hf => ?_
  exact Runs.ialoadA d18_11 fA_2 (by decide) hi10 <| Runs.istore (P' := [vr a, vi i1, vi i2, vi i3, vi i4, vi (gA ob 2 (((i1 * (5 : Int32)) + i2) - (1 : Int32))), vn, vn, vn, vn, vn]) d18_12 (by decide) rfl <| Runs.iconst d18_14 ci_0 <| Runs.istore (P' := [vr a, vi i1, vi i2, vi i3, vi i4, vi (gA ob 2 (((i1 * (5 : Int32)) + i2) - (1 : Int32))), vi (0 : Int32), vn, vn, vn, vn]) d18_15 (by decide) rfl <| Runs.iloadN d18_17 rfl <| Runs.iloadN d18_18 rfl <| Runs.iadd d18_19 <| Runs.iconst d18_20 ci_1 <| Runs.isub d18_21 <| Runs.istore (P' := [vr a, vi i1, vi i2, vi i3, vi i4, vi (gA ob 2 (((i1 * (5 : Int32)) + i2) - (1 : Int32))), vi (0 : Int32), vi ((i3 + i2) - (1 : Int32)), vn, vn, vn]) d18_22 (by decide) rfl <| Runs.forget [true, false, true, false, true, true, true, true, false, false, false] rfl <| X_cellWays_l24_p NF i2 i4 (gA ob 2 (((i1 * (5 : Int32)) + i2) - (1 : Int32))) (0 : Int32) ((i3 + i2) - (1 : Int32)) hf
theorem X_cellWays_pay {C : Ctx} {top : Nat} {a : Nat} {H : List (Nat × Nat × Rec)} {ob : Rec} {res : Int32} {NF : Nat} {i1 : Int32} {i2 : Int32} {i3 : Int32} {i4 : Int32} (hf : X_cellWays NF ob i1 i2 i3 i4 = some res) : Pays C B18 [.ref a, .int i1, .int i2, .int i3, .int i4] (top, (a, 12, ob) :: H) (Ans (some (.int res)) (top, (a, 12, ob) :: H)) :=
  Pays.of pnK (Nat.le_of_ble_eq_true rfl) (P := [vr a, vi i1, vi i2, vi i3, vi i4, vn, vn, vn, vn, vn, vn]) 6 rfl (X_cellWays_p i1 i2 i3 i4 hf)
def X_fillWays_w21 (NF : Nat) (k11 : Rec → Int32 → Int32 → Int32 → Int32 → Int32 → Option (Rec)) (k21 : Rec → Int32 → Int32 → Int32 → Int32 → Int32 → Int32 → Option (Rec)) (ob : Rec) (i1 : Int32) (i2 : Int32) (i3 : Int32) (i4 : Int32) (i5 : Int32) (i6 : Int32) : Option (Rec) :=
  if i6 < (17 : Int32) then
    chk (102 : Int32) ((i5 * (17 : Int32)) + i6) <|
    k21 (sA ob 5 ((i5 * (17 : Int32)) + i6) (0 : Int32)) i1 i2 i3 i4 i5 (i6 + (1 : Int32))
  else
    k11 ob i1 i2 i3 i4 (i5 + (1 : Int32))
def X_fillWays_l21 (NF : Nat) (k11 : Rec → Int32 → Int32 → Int32 → Int32 → Int32 → Option (Rec)) : Nat → Rec → Int32 → Int32 → Int32 → Int32 → Int32 → Int32 → Option (Rec)
  | 0, _, _, _, _, _, _, _ => none
  | n + 1, ob, i1, i2, i3, i4, i5, i6 => X_fillWays_w21 NF k11 (X_fillWays_l21 NF k11 n) ob i1 i2 i3 i4 i5 i6
set_option maxRecDepth 65536 in
set_option maxHeartbeats 4000000 in
theorem X_fillWays_w21_p {C : Ctx} {top : Nat} {a : Nat} {H : List (Nat × Nat × Rec)} {res : Rec} {NF : Nat} (k11 : Rec → Int32 → Int32 → Int32 → Int32 → Int32 → Option (Rec)) (hk11 : ∀ (ob : Rec) (i1 : Int32) (i2 : Int32) (i3 : Int32) (i4 : Int32) (i5 : Int32), k11 ob i1 i2 i3 i4 i5 = some res → Runs C B16 0 0 11 [vr a, vi i1, vi i2, vi i3, vi i4, vi i5, vn] [] (top, (a, 12, ob) :: H) (Ans none (top, (a, 12, res) :: H))) (k21 : Rec → Int32 → Int32 → Int32 → Int32 → Int32 → Int32 → Option (Rec)) (hk21 : ∀ (ob : Rec) (i1 : Int32) (i2 : Int32) (i3 : Int32) (i4 : Int32) (i5 : Int32) (i6 : Int32), k21 ob i1 i2 i3 i4 i5 i6 = some res → Runs C B16 0 0 21 [vr a, vi i1, vi i2, vi i3, vi i4, vi i5, vi i6] [] (top, (a, 12, ob) :: H) (Ans none (top, (a, 12, res) :: H))) (ob : Rec) (i1 : Int32) (i2 : Int32) (i3 : Int32) (i4 : Int32) (i5 : Int32) (i6 : Int32) (hf : X_fillWays_w21 NF k11 k21 ob i1 i2 i3 i4 i5 i6 = some res) : Runs C B16 0 0 21 [vr a, vi i1, vi i2, vi i3, vi i4, vi i5, vi i6] [] (top, (a, 12, ob) :: H) (Ans none (top, (a, 12, res) :: H)) := by
  delta X_fillWays_w21 at hf
  refine Runs.iload d16_21 rfl <| Runs.bipush d16_23 cb_17 <| ?_
  refine ite_el hf (fun hc3 hf => ?_) (fun hc3 hf => ?_)
  · refine Runs.icN d16_25 (tlt hc3).2.1 <| ?_
    refine Runs.aloadN d16_28 rfl <| Runs.getA d16_29 fA_5 w20 (by decide) <| Runs.iload d16_32 rfl <| Runs.bipush d16_34 cb_17 <| Runs.imul d16_36 <| Runs.iload d16_37 rfl <| Runs.iadd d16_39 <| Runs.iconst d16_40 ci_0 <| ?_
    refine chk_el hf fun hi4 hf => ?_
    exact Runs.iastoreA d16_41 fA_5 (by decide) hi4 <| Runs.iinc (P' := [vr a, vi i1, vi i2, vi i3, vi i4, vi i5, vi (i6 + (1 : Int32))]) d16_42 ci_1 rfl (by decide) rfl <| Runs.goto (pc' := 21) d16_45 (by decide) <| hk21 (sA ob 5 ((i5 * (17 : Int32)) + i6) (0 : Int32)) i1 i2 i3 i4 i5 (i6 + (1 : Int32)) hf
  · refine Runs.icY (pc' := 48) d16_25 (flt hc3).2.1 (by decide) <| ?_
    exact Runs.iinc (P' := [vr a, vi i1, vi i2, vi i3, vi i4, vi (i5 + (1 : Int32)), vi i6]) d16_48 ci_1 rfl (by decide) rfl <| Runs.goto (pc' := 11) d16_51 (by decide) <| Runs.forget [true, true, true, true, true, true, false] rfl <| hk11 ob i1 i2 i3 i4 (i5 + (1 : Int32)) hf
theorem X_fillWays_l21_p {C : Ctx} {top : Nat} {a : Nat} {H : List (Nat × Nat × Rec)} {res : Rec} {NF : Nat} (k11 : Rec → Int32 → Int32 → Int32 → Int32 → Int32 → Option (Rec)) (hk11 : ∀ (ob : Rec) (i1 : Int32) (i2 : Int32) (i3 : Int32) (i4 : Int32) (i5 : Int32), k11 ob i1 i2 i3 i4 i5 = some res → Runs C B16 0 0 11 [vr a, vi i1, vi i2, vi i3, vi i4, vi i5, vn] [] (top, (a, 12, ob) :: H) (Ans none (top, (a, 12, res) :: H))) (n : Nat) (ob : Rec) (i1 : Int32) (i2 : Int32) (i3 : Int32) (i4 : Int32) (i5 : Int32) (i6 : Int32) (hf : X_fillWays_l21 NF k11 n ob i1 i2 i3 i4 i5 i6 = some res) : Runs C B16 0 0 21 [vr a, vi i1, vi i2, vi i3, vi i4, vi i5, vi i6] [] (top, (a, 12, ob) :: H) (Ans none (top, (a, 12, res) :: H)) := by
  induction n generalizing ob i1 i2 i3 i4 i5 i6 with
  | zero => cases (show (none : Option (Rec)) = some res from hf)
  | succ n ih => exact X_fillWays_w21_p k11 hk11 (X_fillWays_l21 NF k11 n) (fun ob i1 i2 i3 i4 i5 i6 h => ih _ _ _ _ _ _ _ h) ob i1 i2 i3 i4 i5 i6 hf
def X_fillWays_w77 (NF : Nat) (k64 : Rec → Int32 → Int32 → Int32 → Int32 → Int32 → Option (Rec)) (k77 : Rec → Int32 → Int32 → Int32 → Int32 → Int32 → Int32 → Option (Rec)) (ob : Rec) (i1 : Int32) (i2 : Int32) (i3 : Int32) (i4 : Int32) (i5 : Int32) (i6 : Int32) : Option (Rec) :=
  if (i3 - (i4 - i5)) < i6 then
    k64 ob i1 i2 i3 i4 (i5 + (1 : Int32))
  else
    (X_cellWays NF ob i1 i5 i2 i6).bind fun r7 =>
    chk (102 : Int32) ((i5 * (17 : Int32)) + i6) <|
    k77 (sA ob 5 ((i5 * (17 : Int32)) + i6) r7) i1 i2 i3 i4 i5 (i6 + (1 : Int32))
def X_fillWays_l77 (NF : Nat) (k64 : Rec → Int32 → Int32 → Int32 → Int32 → Int32 → Option (Rec)) : Nat → Rec → Int32 → Int32 → Int32 → Int32 → Int32 → Int32 → Option (Rec)
  | 0, _, _, _, _, _, _, _ => none
  | n + 1, ob, i1, i2, i3, i4, i5, i6 => X_fillWays_w77 NF k64 (X_fillWays_l77 NF k64 n) ob i1 i2 i3 i4 i5 i6
set_option maxRecDepth 65536 in
set_option maxHeartbeats 4000000 in
theorem X_fillWays_w77_p {C : Ctx} {top : Nat} {a : Nat} {H : List (Nat × Nat × Rec)} {res : Rec} {NF : Nat} (k64 : Rec → Int32 → Int32 → Int32 → Int32 → Int32 → Option (Rec)) (hk64 : ∀ (ob : Rec) (i1 : Int32) (i2 : Int32) (i3 : Int32) (i4 : Int32) (i5 : Int32), k64 ob i1 i2 i3 i4 i5 = some res → Runs C B16 0 0 64 [vr a, vi i1, vi i2, vi i3, vi i4, vi i5, vn] [] (top, (a, 12, ob) :: H) (Ans none (top, (a, 12, res) :: H))) (k77 : Rec → Int32 → Int32 → Int32 → Int32 → Int32 → Int32 → Option (Rec)) (hk77 : ∀ (ob : Rec) (i1 : Int32) (i2 : Int32) (i3 : Int32) (i4 : Int32) (i5 : Int32) (i6 : Int32), k77 ob i1 i2 i3 i4 i5 i6 = some res → Runs C B16 0 0 77 [vr a, vi i1, vi i2, vi i3, vi i4, vi i5, vi i6] [] (top, (a, 12, ob) :: H) (Ans none (top, (a, 12, res) :: H))) (ob : Rec) (i1 : Int32) (i2 : Int32) (i3 : Int32) (i4 : Int32) (i5 : Int32) (i6 : Int32) (hf : X_fillWays_w77 NF k64 k77 ob i1 i2 i3 i4 i5 i6 = some res) : Runs C B16 0 0 77 [vr a, vi i1, vi i2, vi i3, vi i4, vi i5, vi i6] [] (top, (a, 12, ob) :: H) (Ans none (top, (a, 12, res) :: H)) := by
  delta X_fillWays_w77 at hf
  refine Runs.iload d16_77 rfl <| Runs.iloadN d16_79 rfl <| Runs.iload d16_80 rfl <| Runs.iload d16_82 rfl <| Runs.isub d16_84 <| Runs.isub d16_85 <| ?_
  refine ite_el hf (fun hc6 hf => ?_) (fun hc6 hf => ?_)
  · refine Runs.icY (pc' := 118) d16_86 (tlt hc6).2.2.1 (by decide) <| ?_
    exact Runs.iinc (P' := [vr a, vi i1, vi i2, vi i3, vi i4, vi (i5 + (1 : Int32)), vi i6]) d16_118 ci_1 rfl (by decide) rfl <| Runs.goto (pc' := 64) d16_121 (by decide) <| Runs.forget [true, true, true, true, true, true, false] rfl <| hk64 ob i1 i2 i3 i4 (i5 + (1 : Int32)) hf
  · refine Runs.icN d16_86 (flt hc6).2.2.1 <| ?_
    refine Runs.aloadN d16_89 rfl <| Runs.getA d16_90 fA_5 w20 (by decide) <| Runs.iload d16_93 rfl <| Runs.bipush d16_95 cb_17 <| Runs.imul d16_97 <| Runs.iload d16_98 rfl <| Runs.iadd d16_100 <| Runs.aloadN d16_101 rfl <| Runs.iloadN d16_102 rfl <| Runs.iload d16_103 rfl <| Runs.iloadN d16_105 rfl <| Runs.iload d16_106 rfl <| ?_
    refine bind_el hf fun r7 hg8 hf => ?_
    refine Runs.callP (N := B18) (W := 2) (as := [.int i1, .int i5, .int i2, .int i6]) (S' := [.int ((i5 * (17 : Int32)) + i6), .ref (a + 1 + 5)]) d16_108 w119 w120 w121 rfl cw18 ar18 rk16_18_2 (by decide) rfl rfl (X_cellWays_pay hg8) <| ans1 <| ?_
    refine chk_el hf fun hi9 hf => ?_
    exact Runs.iastoreA d16_111 fA_5 (by decide) hi9 <| Runs.iinc (P' := [vr a, vi i1, vi i2, vi i3, vi i4, vi i5, vi (i6 + (1 : Int32))]) d16_112 ci_1 rfl (by decide) rfl <| Runs.goto (pc' := 77) d16_115 (by decide) <| hk77 (sA ob 5 ((i5 * (17 : Int32)) + i6) r7) i1 i2 i3 i4 i5 (i6 + (1 : Int32)) hf
theorem X_fillWays_l77_p {C : Ctx} {top : Nat} {a : Nat} {H : List (Nat × Nat × Rec)} {res : Rec} {NF : Nat} (k64 : Rec → Int32 → Int32 → Int32 → Int32 → Int32 → Option (Rec)) (hk64 : ∀ (ob : Rec) (i1 : Int32) (i2 : Int32) (i3 : Int32) (i4 : Int32) (i5 : Int32), k64 ob i1 i2 i3 i4 i5 = some res → Runs C B16 0 0 64 [vr a, vi i1, vi i2, vi i3, vi i4, vi i5, vn] [] (top, (a, 12, ob) :: H) (Ans none (top, (a, 12, res) :: H))) (n : Nat) (ob : Rec) (i1 : Int32) (i2 : Int32) (i3 : Int32) (i4 : Int32) (i5 : Int32) (i6 : Int32) (hf : X_fillWays_l77 NF k64 n ob i1 i2 i3 i4 i5 i6 = some res) : Runs C B16 0 0 77 [vr a, vi i1, vi i2, vi i3, vi i4, vi i5, vi i6] [] (top, (a, 12, ob) :: H) (Ans none (top, (a, 12, res) :: H)) := by
  induction n generalizing ob i1 i2 i3 i4 i5 i6 with
  | zero => cases (show (none : Option (Rec)) = some res from hf)
  | succ n ih => exact X_fillWays_w77_p k64 hk64 (X_fillWays_l77 NF k64 n) (fun ob i1 i2 i3 i4 i5 i6 h => ih _ _ _ _ _ _ _ h) ob i1 i2 i3 i4 i5 i6 hf
def X_fillWays_w64 (NF : Nat) (k64 : Rec → Int32 → Int32 → Int32 → Int32 → Int32 → Option (Rec)) (ob : Rec) (i1 : Int32) (i2 : Int32) (i3 : Int32) (i4 : Int32) (i5 : Int32) : Option (Rec) :=
  if i4 < i5 then
    some ob
  else
    X_fillWays_l77 NF k64 NF ob i1 i2 i3 i4 i5 (i2 + i5)
def X_fillWays_l64 (NF : Nat) : Nat → Rec → Int32 → Int32 → Int32 → Int32 → Int32 → Option (Rec)
  | 0, _, _, _, _, _, _ => none
  | n + 1, ob, i1, i2, i3, i4, i5 => X_fillWays_w64 NF (X_fillWays_l64 NF n) ob i1 i2 i3 i4 i5
set_option maxRecDepth 65536 in
set_option maxHeartbeats 4000000 in
theorem X_fillWays_w64_p {C : Ctx} {top : Nat} {a : Nat} {H : List (Nat × Nat × Rec)} {res : Rec} {NF : Nat} (k64 : Rec → Int32 → Int32 → Int32 → Int32 → Int32 → Option (Rec)) (hk64 : ∀ (ob : Rec) (i1 : Int32) (i2 : Int32) (i3 : Int32) (i4 : Int32) (i5 : Int32), k64 ob i1 i2 i3 i4 i5 = some res → Runs C B16 0 0 64 [vr a, vi i1, vi i2, vi i3, vi i4, vi i5, vn] [] (top, (a, 12, ob) :: H) (Ans none (top, (a, 12, res) :: H))) (ob : Rec) (i1 : Int32) (i2 : Int32) (i3 : Int32) (i4 : Int32) (i5 : Int32) (hf : X_fillWays_w64 NF k64 ob i1 i2 i3 i4 i5 = some res) : Runs C B16 0 0 64 [vr a, vi i1, vi i2, vi i3, vi i4, vi i5, vn] [] (top, (a, 12, ob) :: H) (Ans none (top, (a, 12, res) :: H)) := by
  delta X_fillWays_w64 at hf
  refine Runs.iload d16_64 rfl <| Runs.iload d16_66 rfl <| ?_
  refine ite_el hf (fun hc5 hf => ?_) (fun hc5 hf => ?_)
  · refine Runs.icY (pc' := 124) d16_68 (tlt hc5).2.2.1 (by decide) <| ?_
    obtain rfl := Option.some.inj hf
    exact Runs.retV d16_124 rfl ⟨by decide, by decide⟩ ⟨rfl, rfl⟩
  · refine Runs.icN d16_68 (flt hc5).2.2.1 <| ?_
    exact Runs.iloadN d16_71 rfl <| Runs.iload d16_72 rfl <| Runs.iadd d16_74 <| Runs.istore (P' := [vr a, vi i1, vi i2, vi i3, vi i4, vi i5, vi (i2 + i5)]) d16_75 (by decide) rfl <| X_fillWays_l77_p k64 hk64 NF ob i1 i2 i3 i4 i5 (i2 + i5) hf
theorem X_fillWays_l64_p {C : Ctx} {top : Nat} {a : Nat} {H : List (Nat × Nat × Rec)} {res : Rec} {NF : Nat} (n : Nat) (ob : Rec) (i1 : Int32) (i2 : Int32) (i3 : Int32) (i4 : Int32) (i5 : Int32) (hf : X_fillWays_l64 NF n ob i1 i2 i3 i4 i5 = some res) : Runs C B16 0 0 64 [vr a, vi i1, vi i2, vi i3, vi i4, vi i5, vn] [] (top, (a, 12, ob) :: H) (Ans none (top, (a, 12, res) :: H)) := by
  induction n generalizing ob i1 i2 i3 i4 i5 with
  | zero => cases (show (none : Option (Rec)) = some res from hf)
  | succ n ih => exact X_fillWays_w64_p (X_fillWays_l64 NF n) (fun ob i1 i2 i3 i4 i5 h => ih _ _ _ _ _ _ h) ob i1 i2 i3 i4 i5 hf
def X_fillWays_w11 (NF : Nat) (k11 : Rec → Int32 → Int32 → Int32 → Int32 → Int32 → Option (Rec)) (ob : Rec) (i1 : Int32) (i2 : Int32) (i3 : Int32) (i4 : Int32) (i5 : Int32) : Option (Rec) :=
  if i5 < (6 : Int32) then
    X_fillWays_l21 NF k11 NF ob i1 i2 i3 i4 i5 (0 : Int32)
  else
    chk (102 : Int32) i2 <|
    X_fillWays_l64 NF NF (sA ob 5 i2 (1 : Int32)) i1 i2 i3 i4 (1 : Int32)
def X_fillWays_l11 (NF : Nat) : Nat → Rec → Int32 → Int32 → Int32 → Int32 → Int32 → Option (Rec)
  | 0, _, _, _, _, _, _ => none
  | n + 1, ob, i1, i2, i3, i4, i5 => X_fillWays_w11 NF (X_fillWays_l11 NF n) ob i1 i2 i3 i4 i5
set_option maxRecDepth 65536 in
set_option maxHeartbeats 4000000 in
theorem X_fillWays_w11_p {C : Ctx} {top : Nat} {a : Nat} {H : List (Nat × Nat × Rec)} {res : Rec} {NF : Nat} (k11 : Rec → Int32 → Int32 → Int32 → Int32 → Int32 → Option (Rec)) (hk11 : ∀ (ob : Rec) (i1 : Int32) (i2 : Int32) (i3 : Int32) (i4 : Int32) (i5 : Int32), k11 ob i1 i2 i3 i4 i5 = some res → Runs C B16 0 0 11 [vr a, vi i1, vi i2, vi i3, vi i4, vi i5, vn] [] (top, (a, 12, ob) :: H) (Ans none (top, (a, 12, res) :: H))) (ob : Rec) (i1 : Int32) (i2 : Int32) (i3 : Int32) (i4 : Int32) (i5 : Int32) (hf : X_fillWays_w11 NF k11 ob i1 i2 i3 i4 i5 = some res) : Runs C B16 0 0 11 [vr a, vi i1, vi i2, vi i3, vi i4, vi i5, vn] [] (top, (a, 12, ob) :: H) (Ans none (top, (a, 12, res) :: H)) := by
  delta X_fillWays_w11 at hf
  refine Runs.iload d16_11 rfl <| Runs.bipush d16_13 cb_6 <| ?_
  refine ite_el hf (fun hc1 hf => ?_) (fun hc1 hf => ?_)
  · refine Runs.icN d16_15 (tlt hc1).2.1 <| ?_
    exact Runs.iconst d16_18 ci_0 <| Runs.istore (P' := [vr a, vi i1, vi i2, vi i3, vi i4, vi i5, vi (0 : Int32)]) d16_19 (by decide) rfl <| X_fillWays_l21_p k11 hk11 NF ob i1 i2 i3 i4 i5 (0 : Int32) hf
  · refine Runs.icY (pc' := 54) d16_15 (flt hc1).2.1 (by decide) <| ?_
    refine Runs.aloadN d16_54 rfl <| Runs.getA d16_55 fA_5 w20 (by decide) <| Runs.iloadN d16_58 rfl <| Runs.iconst d16_59 ci_1 <| ?_
    refine chk_el hf fun hi2 hf => ?_
    exact Runs.iastoreA d16_60 fA_5 (by decide) hi2 <| Runs.iconst d16_61 ci_1 <| Runs.istore (P' := [vr a, vi i1, vi i2, vi i3, vi i4, vi (1 : Int32), vn]) d16_62 (by decide) rfl <| X_fillWays_l64_p NF (sA ob 5 i2 (1 : Int32)) i1 i2 i3 i4 (1 : Int32) hf
theorem X_fillWays_l11_p {C : Ctx} {top : Nat} {a : Nat} {H : List (Nat × Nat × Rec)} {res : Rec} {NF : Nat} (n : Nat) (ob : Rec) (i1 : Int32) (i2 : Int32) (i3 : Int32) (i4 : Int32) (i5 : Int32) (hf : X_fillWays_l11 NF n ob i1 i2 i3 i4 i5 = some res) : Runs C B16 0 0 11 [vr a, vi i1, vi i2, vi i3, vi i4, vi i5, vn] [] (top, (a, 12, ob) :: H) (Ans none (top, (a, 12, res) :: H)) := by
  induction n generalizing ob i1 i2 i3 i4 i5 with
  | zero => cases (show (none : Option (Rec)) = some res from hf)
  | succ n ih => exact X_fillWays_w11_p (X_fillWays_l11 NF n) (fun ob i1 i2 i3 i4 i5 h => ih _ _ _ _ _ _ h) ob i1 i2 i3 i4 i5 hf
def X_fillWays (NF : Nat) (ob : Rec) (i1 : Int32) (i2 : Int32) (i3 : Int32) : Option (Rec) :=
  chk (16 : Int32) i1 <|
  X_fillWays_l11 NF NF ob i1 i2 i3 (gA ob 1 i1) (0 : Int32)
set_option maxRecDepth 65536 in
set_option maxHeartbeats 4000000 in
theorem X_fillWays_p {C : Ctx} {top : Nat} {a : Nat} {H : List (Nat × Nat × Rec)} {res : Rec} {NF : Nat} (ob : Rec) (i1 : Int32) (i2 : Int32) (i3 : Int32) (hf : X_fillWays NF ob i1 i2 i3 = some res) : Runs C B16 0 0 0 [vr a, vi i1, vi i2, vi i3, vn, vn, vn] [] (top, (a, 12, ob) :: H) (Ans none (top, (a, 12, res) :: H)) := by
  delta X_fillWays at hf
  refine Runs.aloadN d16_0 rfl <| Runs.getA d16_1 fA_1 w12 (by decide) <| Runs.iloadN d16_4 rfl <| ?_
  refine chk_el hf fun hi10 hf => ?_
  exact Runs.ialoadA d16_5 fA_1 (by decide) hi10 <| Runs.istore (P' := [vr a, vi i1, vi i2, vi i3, vi (gA ob 1 i1), vn, vn]) d16_6 (by decide) rfl <| Runs.iconst d16_8 ci_0 <| Runs.istore (P' := [vr a, vi i1, vi i2, vi i3, vi (gA ob 1 i1), vi (0 : Int32), vn]) d16_9 (by decide) rfl <| X_fillWays_l11_p NF ob i1 i2 i3 (gA ob 1 i1) (0 : Int32) hf
theorem X_fillWays_pay {C : Ctx} {top : Nat} {a : Nat} {H : List (Nat × Nat × Rec)} {res : Rec} {NF : Nat} {ob : Rec} {i1 : Int32} {i2 : Int32} {i3 : Int32} (hf : X_fillWays NF ob i1 i2 i3 = some res) : Pays C B16 [.ref a, .int i1, .int i2, .int i3] (top, (a, 12, ob) :: H) (Ans none (top, (a, 12, res) :: H)) :=
  Pays.of pnK (Nat.le_of_ble_eq_true rfl) (P := [vr a, vi i1, vi i2, vi i3, vn, vn, vn]) 3 rfl (X_fillWays_p ob i1 i2 i3 hf)
def X_splitCount (NF : Nat) (ob : Rec) (i1 : Int32) (i2 : Int32) (i3 : Int32) : Option (Int32 × Rec) :=
  (X_fillWays NF ob i1 i2 i3).bind fun q1 =>
  chk (16 : Int32) i1 <|
  chk (102 : Int32) (((gA q1 1 i1) * (17 : Int32)) + i3) <|
  some ((gA q1 5 (((gA q1 1 i1) * (17 : Int32)) + i3)), q1)
set_option maxRecDepth 65536 in
set_option maxHeartbeats 4000000 in
theorem X_splitCount_p {C : Ctx} {top : Nat} {a : Nat} {H : List (Nat × Nat × Rec)} {res : Int32 × Rec} {NF : Nat} (ob : Rec) (i1 : Int32) (i2 : Int32) (i3 : Int32) (hf : X_splitCount NF ob i1 i2 i3 = some res) : Runs C B15 0 0 0 [vr a, vi i1, vi i2, vi i3] [] (top, (a, 12, ob) :: H) (Ans (some (.int res.1)) (top, (a, 12, res.2) :: H)) := by
  delta X_splitCount at hf
  refine Runs.aloadN d15_0 rfl <| Runs.iloadN d15_1 rfl <| Runs.iloadN d15_2 rfl <| Runs.iloadN d15_3 rfl <| ?_
  refine bind_el hf fun q1 hg2 hf => ?_
  refine Runs.callP (N := B16) (W := 0) (as := [.int i1, .int i2, .int i3]) (S' := []) d15_4 w111 w112 w113 rfl cw16 ar16 rk15_16_0 (by decide) rfl rfl (X_fillWays_pay hg2) <| ans0 <| Runs.aloadN d15_7 rfl <| Runs.getA d15_8 fA_5 w20 (by decide) <| Runs.aloadN d15_11 rfl <| Runs.getA d15_12 fA_1 w12 (by decide) <| Runs.iloadN d15_15 rfl <| ?_
  refine chk_el hf fun hi3 hf => ?_
  refine Runs.ialoadA d15_16 fA_1 (by decide) hi3 <| Runs.bipush d15_17 cb_17 <| Runs.imul d15_19 <| Runs.iloadN d15_20 rfl <| Runs.iadd d15_21 <| ?_
  refine chk_el hf fun hi4 hf => ?_
  obtain rfl := Option.some.inj hf
  exact Runs.ialoadA d15_22 fA_5 (by decide) hi4 <| Runs.retI d15_23 rfl ⟨by decide, by decide⟩ ⟨rfl, rfl⟩
theorem X_splitCount_pay {C : Ctx} {top : Nat} {a : Nat} {H : List (Nat × Nat × Rec)} {res : Int32 × Rec} {NF : Nat} {ob : Rec} {i1 : Int32} {i2 : Int32} {i3 : Int32} (hf : X_splitCount NF ob i1 i2 i3 = some res) : Pays C B15 [.ref a, .int i1, .int i2, .int i3] (top, (a, 12, ob) :: H) (Ans (some (.int res.1)) (top, (a, 12, res.2) :: H)) :=
  Pays.of pnK (Nat.le_of_ble_eq_true rfl) (P := [vr a, vi i1, vi i2, vi i3]) 0 rfl (X_splitCount_p ob i1 i2 i3 hf)
def X_addUnits_w12 (NF : Nat) (k12 : Rec → Int32 → Int32 → Int32 → Int32 → Int32 → Option (Rec)) (ob : Rec) (i1 : Int32) (i2 : Int32) (i3 : Int32) (i4 : Int32) (i5 : Int32) : Option (Rec) :=
  if i5 < (gI ob 3) then
    chk (16 : Int32) i5 <|
    if (gA ob 0 i5) = i1 then
      (X_isUnit ob i5).bind fun r4 =>
      if r4 = (0 : Int32) then
        k12 ob i1 i2 i3 i4 (i5 + (1 : Int32))
      else
        chk (80 : Int32) (i5 * (5 : Int32)) <|
        (X_idx ob (gA ob 2 (i5 * (5 : Int32))) i2 i3).bind fun r8 =>
        chk (2312 : Int32) r8 <|
        chk (2312 : Int32) i4 <|
        (X_add ob (gA ob 4 i4) (gA ob 4 r8)).bind fun r12 =>
        chk (2312 : Int32) i4 <|
        k12 (sA ob 4 i4 r12) i1 i2 i3 i4 (i5 + (1 : Int32))
    else
      k12 ob i1 i2 i3 i4 (i5 + (1 : Int32))
  else
    some ob
def X_addUnits_l12 (NF : Nat) : Nat → Rec → Int32 → Int32 → Int32 → Int32 → Int32 → Option (Rec)
  | 0, _, _, _, _, _, _ => none
  | n + 1, ob, i1, i2, i3, i4, i5 => X_addUnits_w12 NF (X_addUnits_l12 NF n) ob i1 i2 i3 i4 i5
set_option maxRecDepth 65536 in
set_option maxHeartbeats 4000000 in
theorem X_addUnits_w12_p {C : Ctx} {top : Nat} {a : Nat} {H : List (Nat × Nat × Rec)} {res : Rec} {NF : Nat} (k12 : Rec → Int32 → Int32 → Int32 → Int32 → Int32 → Option (Rec)) (hk12 : ∀ (ob : Rec) (i1 : Int32) (i2 : Int32) (i3 : Int32) (i4 : Int32) (i5 : Int32), k12 ob i1 i2 i3 i4 i5 = some res → Runs C B21 0 0 12 [vr a, vi i1, vi i2, vi i3, vi i4, vi i5, vn] [] (top, (a, 12, ob) :: H) (Ans none (top, (a, 12, res) :: H))) (ob : Rec) (i1 : Int32) (i2 : Int32) (i3 : Int32) (i4 : Int32) (i5 : Int32) (hf : X_addUnits_w12 NF k12 ob i1 i2 i3 i4 i5 = some res) : Runs C B21 0 0 12 [vr a, vi i1, vi i2, vi i3, vi i4, vi i5, vn] [] (top, (a, 12, ob) :: H) (Ans none (top, (a, 12, res) :: H)) := by
  delta X_addUnits_w12 at hf
  refine Runs.iload d21_12 rfl <| Runs.aloadN d21_14 rfl <| Runs.getI d21_15 w40 fS_3 <| ?_
  refine ite_el hf (fun hc1 hf => ?_) (fun hc1 hf => ?_)
  · refine Runs.icN d21_18 (tlt hc1).2.1 <| ?_
    refine Runs.aloadN d21_21 rfl <| Runs.getA d21_22 fA_0 w10 (by decide) <| Runs.iload d21_25 rfl <| ?_
    refine chk_el hf fun hi2 hf => ?_
    refine Runs.ialoadA d21_27 fA_0 (by decide) hi2 <| Runs.iloadN d21_28 rfl <| ?_
    refine ite_el hf (fun hc3 hf => ?_) (fun hc3 hf => ?_)
    · refine Runs.icN d21_29 (teq hc3).2 <| ?_
      refine Runs.aloadN d21_32 rfl <| Runs.iload d21_33 rfl <| ?_
      refine bind_el hf fun r4 hg5 hf => ?_
      refine Runs.callP (N := B9) (W := 0) (as := [.int i5]) (S' := []) d21_35 w81 w82 w83 rfl cw9 ar9 rk21_9_0 (by decide) rfl rfl (X_isUnit_pay hg5) <| ans1 <| ?_
      refine ite_el hf (fun hc6 hf => ?_) (fun hc6 hf => ?_)
      · refine Runs.ifY (pc' := 83) d21_38 (teq hc6).1 (by decide) <| ?_
        exact Runs.iinc (P' := [vr a, vi i1, vi i2, vi i3, vi i4, vi (i5 + (1 : Int32)), vn]) d21_83 ci_1 rfl (by decide) rfl <| Runs.goto (pc' := 12) d21_86 (by decide) <| hk12 ob i1 i2 i3 i4 (i5 + (1 : Int32)) hf
      · refine Runs.ifN d21_38 (feq hc6).1 <| ?_
        refine Runs.aloadN d21_41 rfl <| Runs.getA d21_42 fA_4 w18 (by decide) <| Runs.aloadN d21_45 rfl <| Runs.aloadN d21_46 rfl <| Runs.getA d21_47 fA_2 w14 (by decide) <| Runs.iload d21_50 rfl <| Runs.iconst d21_52 ci_5 <| Runs.imul d21_53 <| ?_
        refine chk_el hf fun hi7 hf => ?_
        refine Runs.ialoadA d21_54 fA_2 (by decide) hi7 <| Runs.iloadN d21_55 rfl <| Runs.iloadN d21_56 rfl <| ?_
        refine bind_el hf fun r8 hg9 hf => ?_
        refine Runs.callP (N := B14) (W := 1) (as := [.int (gA ob 2 (i5 * (5 : Int32))), .int i2, .int i3]) (S' := [.ref (a + 1 + 4)]) d21_57 w103 w104 w105 rfl cw14 ar14 rk21_14_1 (by decide) rfl rfl (X_idx_pay hg9) <| ans1 <| ?_
        refine chk_el hf fun hi10 hf => ?_
        refine Runs.ialoadA d21_60 fA_4 (by decide) hi10 <| Runs.istore (P' := [vr a, vi i1, vi i2, vi i3, vi i4, vi i5, vi (gA ob 4 r8)]) d21_61 (by decide) rfl <| Runs.aloadN d21_63 rfl <| Runs.getA d21_64 fA_4 w18 (by decide) <| Runs.iload d21_67 rfl <| Runs.aloadN d21_69 rfl <| Runs.aloadN d21_70 rfl <| Runs.getA d21_71 fA_4 w18 (by decide) <| Runs.iload d21_74 rfl <| ?_
        refine chk_el hf fun hi11 hf => ?_
        refine Runs.ialoadA d21_76 fA_4 (by decide) hi11 <| Runs.iload d21_77 rfl <| ?_
        refine bind_el hf fun r12 hg13 hf => ?_
        refine Runs.callP (N := B17) (W := 2) (as := [.int (gA ob 4 i4), .int (gA ob 4 r8)]) (S' := [.int i4, .ref (a + 1 + 4)]) d21_79 w115 w116 w117 rfl cw17 ar17 rk21_17_2 (by decide) rfl rfl (X_add_pay hg13) <| ans1 <| ?_
        refine chk_el hf fun hi14 hf => ?_
        exact Runs.iastoreA d21_82 fA_4 (by decide) hi14 <| Runs.iinc (P' := [vr a, vi i1, vi i2, vi i3, vi i4, vi (i5 + (1 : Int32)), vi (gA ob 4 r8)]) d21_83 ci_1 rfl (by decide) rfl <| Runs.goto (pc' := 12) d21_86 (by decide) <| Runs.forget [true, true, true, true, true, true, false] rfl <| hk12 (sA ob 4 i4 r12) i1 i2 i3 i4 (i5 + (1 : Int32)) hf
    · refine Runs.icY (pc' := 83) d21_29 (feq hc3).2 (by decide) <| ?_
      exact Runs.iinc (P' := [vr a, vi i1, vi i2, vi i3, vi i4, vi (i5 + (1 : Int32)), vn]) d21_83 ci_1 rfl (by decide) rfl <| Runs.goto (pc' := 12) d21_86 (by decide) <| hk12 ob i1 i2 i3 i4 (i5 + (1 : Int32)) hf
  · refine Runs.icY (pc' := 89) d21_18 (flt hc1).2.1 (by decide) <| ?_
    obtain rfl := Option.some.inj hf
    exact Runs.retV d21_89 rfl ⟨by decide, by decide⟩ ⟨rfl, rfl⟩
theorem X_addUnits_l12_p {C : Ctx} {top : Nat} {a : Nat} {H : List (Nat × Nat × Rec)} {res : Rec} {NF : Nat} (n : Nat) (ob : Rec) (i1 : Int32) (i2 : Int32) (i3 : Int32) (i4 : Int32) (i5 : Int32) (hf : X_addUnits_l12 NF n ob i1 i2 i3 i4 i5 = some res) : Runs C B21 0 0 12 [vr a, vi i1, vi i2, vi i3, vi i4, vi i5, vn] [] (top, (a, 12, ob) :: H) (Ans none (top, (a, 12, res) :: H)) := by
  induction n generalizing ob i1 i2 i3 i4 i5 with
  | zero => cases (show (none : Option (Rec)) = some res from hf)
  | succ n ih => exact X_addUnits_w12_p (X_addUnits_l12 NF n) (fun ob i1 i2 i3 i4 i5 h => ih _ _ _ _ _ _ h) ob i1 i2 i3 i4 i5 hf
def X_addUnits (NF : Nat) (ob : Rec) (i1 : Int32) (i2 : Int32) (i3 : Int32) : Option (Rec) :=
  (X_idx ob i1 i2 i3).bind fun r15 =>
  X_addUnits_l12 NF NF ob i1 i2 i3 r15 (0 : Int32)
set_option maxRecDepth 65536 in
set_option maxHeartbeats 4000000 in
theorem X_addUnits_p {C : Ctx} {top : Nat} {a : Nat} {H : List (Nat × Nat × Rec)} {res : Rec} {NF : Nat} (ob : Rec) (i1 : Int32) (i2 : Int32) (i3 : Int32) (hf : X_addUnits NF ob i1 i2 i3 = some res) : Runs C B21 0 0 0 [vr a, vi i1, vi i2, vi i3, vn, vn, vn] [] (top, (a, 12, ob) :: H) (Ans none (top, (a, 12, res) :: H)) := by
  delta X_addUnits at hf
  refine Runs.aloadN d21_0 rfl <| Runs.iloadN d21_1 rfl <| Runs.iloadN d21_2 rfl <| Runs.iloadN d21_3 rfl <| ?_
  refine bind_el hf fun r15 hg16 hf => ?_
  exact Runs.callP (N := B14) (W := 0) (as := [.int i1, .int i2, .int i3]) (S' := []) d21_4 w103 w104 w105 rfl cw14 ar14 rk21_14_0 (by decide) rfl rfl (X_idx_pay hg16) <| ans1 <| Runs.istore (P' := [vr a, vi i1, vi i2, vi i3, vi r15, vn, vn]) d21_7 (by decide) rfl <| Runs.iconst d21_9 ci_0 <| Runs.istore (P' := [vr a, vi i1, vi i2, vi i3, vi r15, vi (0 : Int32), vn]) d21_10 (by decide) rfl <| X_addUnits_l12_p NF ob i1 i2 i3 r15 (0 : Int32) hf
theorem X_addUnits_pay {C : Ctx} {top : Nat} {a : Nat} {H : List (Nat × Nat × Rec)} {res : Rec} {NF : Nat} {ob : Rec} {i1 : Int32} {i2 : Int32} {i3 : Int32} (hf : X_addUnits NF ob i1 i2 i3 = some res) : Pays C B21 [.ref a, .int i1, .int i2, .int i3] (top, (a, 12, ob) :: H) (Ans none (top, (a, 12, res) :: H)) :=
  Pays.of pnK (Nat.le_of_ble_eq_true rfl) (P := [vr a, vi i1, vi i2, vi i3, vn, vn, vn]) 3 rfl (X_addUnits_p ob i1 i2 i3 hf)
def X_computeSpan_w96 (NF : Nat) (k96 : Rec → Int32 → Int32 → Int32 → Option (Rec)) (ob : Rec) (i1 : Int32) (i2 : Int32) (i3 : Int32) : Option (Rec) :=
  if i3 < (8 : Int32) then
    chk (8 : Int32) i3 <|
    (X_addUnits NF ob (gA ob 7 i3) i1 i2).bind fun q21 =>
    k96 q21 i1 i2 (i3 + (1 : Int32))
  else
    some ob
def X_computeSpan_l96 (NF : Nat) : Nat → Rec → Int32 → Int32 → Int32 → Option (Rec)
  | 0, _, _, _, _ => none
  | n + 1, ob, i1, i2, i3 => X_computeSpan_w96 NF (X_computeSpan_l96 NF n) ob i1 i2 i3
set_option maxRecDepth 65536 in
set_option maxHeartbeats 4000000 in
theorem X_computeSpan_w96_p {C : Ctx} {top : Nat} {a : Nat} {H : List (Nat × Nat × Rec)} {res : Rec} {NF : Nat} (k96 : Rec → Int32 → Int32 → Int32 → Option (Rec)) (hk96 : ∀ (ob : Rec) (i1 : Int32) (i2 : Int32) (i3 : Int32), k96 ob i1 i2 i3 = some res → Runs C B13 0 0 96 [vr a, vi i1, vi i2, vi i3, vn, vn] [] (top, (a, 12, ob) :: H) (Ans none (top, (a, 12, res) :: H))) (ob : Rec) (i1 : Int32) (i2 : Int32) (i3 : Int32) (hf : X_computeSpan_w96 NF k96 ob i1 i2 i3 = some res) : Runs C B13 0 0 96 [vr a, vi i1, vi i2, vi i3, vn, vn] [] (top, (a, 12, ob) :: H) (Ans none (top, (a, 12, res) :: H)) := by
  delta X_computeSpan_w96 at hf
  refine Runs.iloadN d13_96 rfl <| Runs.bipush d13_97 cb_8 <| ?_
  refine ite_el hf (fun hc19 hf => ?_) (fun hc19 hf => ?_)
  · refine Runs.icN d13_99 (tlt hc19).2.1 <| ?_
    refine Runs.aloadN d13_102 rfl <| Runs.aloadN d13_103 rfl <| Runs.getA d13_104 fA_7 w24 (by decide) <| Runs.iloadN d13_107 rfl <| ?_
    refine chk_el hf fun hi20 hf => ?_
    refine Runs.ialoadA d13_108 fA_7 (by decide) hi20 <| Runs.iloadN d13_109 rfl <| Runs.iloadN d13_110 rfl <| ?_
    refine bind_el hf fun q21 hg22 hf => ?_
    exact Runs.callP (N := B21) (W := 0) (as := [.int (gA ob 7 i3), .int i1, .int i2]) (S' := []) d13_111 w131 w132 w133 rfl cw21 ar21 rk13_21_0 (by decide) rfl rfl (X_addUnits_pay hg22) <| ans0 <| Runs.iinc (P' := [vr a, vi i1, vi i2, vi (i3 + (1 : Int32)), vn, vn]) d13_114 ci_1 rfl (by decide) rfl <| Runs.goto (pc' := 96) d13_117 (by decide) <| hk96 q21 i1 i2 (i3 + (1 : Int32)) hf
  · refine Runs.icY (pc' := 120) d13_99 (flt hc19).2.1 (by decide) <| ?_
    obtain rfl := Option.some.inj hf
    exact Runs.retV d13_120 rfl ⟨by decide, by decide⟩ ⟨rfl, rfl⟩
theorem X_computeSpan_l96_p {C : Ctx} {top : Nat} {a : Nat} {H : List (Nat × Nat × Rec)} {res : Rec} {NF : Nat} (n : Nat) (ob : Rec) (i1 : Int32) (i2 : Int32) (i3 : Int32) (hf : X_computeSpan_l96 NF n ob i1 i2 i3 = some res) : Runs C B13 0 0 96 [vr a, vi i1, vi i2, vi i3, vn, vn] [] (top, (a, 12, ob) :: H) (Ans none (top, (a, 12, res) :: H)) := by
  induction n generalizing ob i1 i2 i3 with
  | zero => cases (show (none : Option (Rec)) = some res from hf)
  | succ n ih => exact X_computeSpan_w96_p (X_computeSpan_l96 NF n) (fun ob i1 i2 i3 h => ih _ _ _ _ h) ob i1 i2 i3 hf
def X_computeSpan_w29 (NF : Nat) (k29 : Rec → Int32 → Int32 → Int32 → Option (Rec)) (ob : Rec) (i1 : Int32) (i2 : Int32) (i3 : Int32) : Option (Rec) :=
  if i3 < (gI ob 3) then
    (X_isUnit ob i3).bind fun r6 =>
    if r6 = (0 : Int32) then
      bind2 (X_splitCount NF ob i3 i1 i2) fun r9 q10 =>
      chk (16 : Int32) i3 <|
      (X_idx q10 (gA q10 0 i3) i1 i2).bind fun r13 =>
      chk (2312 : Int32) r13 <|
      (X_add q10 (gA q10 4 r13) r9).bind fun r16 =>
      chk (2312 : Int32) r13 <|
      k29 (sA q10 4 r13 r16) i1 i2 (i3 + (1 : Int32))
    else
      k29 ob i1 i2 (i3 + (1 : Int32))
  else
    X_computeSpan_l96 NF NF ob i1 i2 (0 : Int32)
def X_computeSpan_l29 (NF : Nat) : Nat → Rec → Int32 → Int32 → Int32 → Option (Rec)
  | 0, _, _, _, _ => none
  | n + 1, ob, i1, i2, i3 => X_computeSpan_w29 NF (X_computeSpan_l29 NF n) ob i1 i2 i3
set_option maxRecDepth 65536 in
set_option maxHeartbeats 4000000 in
theorem X_computeSpan_w29_p {C : Ctx} {top : Nat} {a : Nat} {H : List (Nat × Nat × Rec)} {res : Rec} {NF : Nat} (k29 : Rec → Int32 → Int32 → Int32 → Option (Rec)) (hk29 : ∀ (ob : Rec) (i1 : Int32) (i2 : Int32) (i3 : Int32), k29 ob i1 i2 i3 = some res → Runs C B13 0 0 29 [vr a, vi i1, vi i2, vi i3, vn, vn] [] (top, (a, 12, ob) :: H) (Ans none (top, (a, 12, res) :: H))) (ob : Rec) (i1 : Int32) (i2 : Int32) (i3 : Int32) (hf : X_computeSpan_w29 NF k29 ob i1 i2 i3 = some res) : Runs C B13 0 0 29 [vr a, vi i1, vi i2, vi i3, vn, vn] [] (top, (a, 12, ob) :: H) (Ans none (top, (a, 12, res) :: H)) := by
  delta X_computeSpan_w29 at hf
  refine Runs.iloadN d13_29 rfl <| Runs.aloadN d13_30 rfl <| Runs.getI d13_31 w40 fS_3 <| ?_
  refine ite_el hf (fun hc5 hf => ?_) (fun hc5 hf => ?_)
  · refine Runs.icN d13_34 (tlt hc5).2.1 <| ?_
    refine Runs.aloadN d13_37 rfl <| Runs.iloadN d13_38 rfl <| ?_
    refine bind_el hf fun r6 hg7 hf => ?_
    refine Runs.callP (N := B9) (W := 0) (as := [.int i3]) (S' := []) d13_39 w81 w82 w83 rfl cw9 ar9 rk13_9_0 (by decide) rfl rfl (X_isUnit_pay hg7) <| ans1 <| ?_
    refine ite_el hf (fun hc8 hf => ?_) (fun hc8 hf => ?_)
    · refine Runs.ifN d13_42 (teq hc8).2 <| ?_
      refine Runs.aloadN d13_45 rfl <| Runs.iloadN d13_46 rfl <| Runs.iloadN d13_47 rfl <| Runs.iloadN d13_48 rfl <| ?_
      refine bind2_el hf fun r9 q10 hg11 hf => ?_
      refine Runs.callP (N := B15) (W := 0) (as := [.int i3, .int i1, .int i2]) (S' := []) d13_49 w107 w108 w109 rfl cw15 ar15 rk13_15_0 (by decide) rfl rfl (X_splitCount_pay hg11) <| ans1 <| Runs.istore (P' := [vr a, vi i1, vi i2, vi i3, vi r9, vn]) d13_52 (by decide) rfl <| Runs.aloadN d13_54 rfl <| Runs.aloadN d13_55 rfl <| Runs.getA d13_56 fA_0 w10 (by decide) <| Runs.iloadN d13_59 rfl <| ?_
      refine chk_el hf fun hi12 hf => ?_
      refine Runs.ialoadA d13_60 fA_0 (by decide) hi12 <| Runs.iloadN d13_61 rfl <| Runs.iloadN d13_62 rfl <| ?_
      refine bind_el hf fun r13 hg14 hf => ?_
      refine Runs.callP (N := B14) (W := 0) (as := [.int (gA q10 0 i3), .int i1, .int i2]) (S' := []) d13_63 w103 w104 w105 rfl cw14 ar14 rk13_14_0 (by decide) rfl rfl (X_idx_pay hg14) <| ans1 <| Runs.istore (P' := [vr a, vi i1, vi i2, vi i3, vi r9, vi r13]) d13_66 (by decide) rfl <| Runs.aloadN d13_68 rfl <| Runs.getA d13_69 fA_4 w18 (by decide) <| Runs.iload d13_72 rfl <| Runs.aloadN d13_74 rfl <| Runs.aloadN d13_75 rfl <| Runs.getA d13_76 fA_4 w18 (by decide) <| Runs.iload d13_79 rfl <| ?_
      refine chk_el hf fun hi15 hf => ?_
      refine Runs.ialoadA d13_81 fA_4 (by decide) hi15 <| Runs.iload d13_82 rfl <| ?_
      refine bind_el hf fun r16 hg17 hf => ?_
      refine Runs.callP (N := B17) (W := 2) (as := [.int (gA q10 4 r13), .int r9]) (S' := [.int r13, .ref (a + 1 + 4)]) d13_84 w115 w116 w117 rfl cw17 ar17 rk13_17_2 (by decide) rfl rfl (X_add_pay hg17) <| ans1 <| ?_
      refine chk_el hf fun hi18 hf => ?_
      exact Runs.iastoreA d13_87 fA_4 (by decide) hi18 <| Runs.iinc (P' := [vr a, vi i1, vi i2, vi (i3 + (1 : Int32)), vi r9, vi r13]) d13_88 ci_1 rfl (by decide) rfl <| Runs.goto (pc' := 29) d13_91 (by decide) <| Runs.forget [true, true, true, true, false, false] rfl <| hk29 (sA q10 4 r13 r16) i1 i2 (i3 + (1 : Int32)) hf
    · refine Runs.ifY (pc' := 88) d13_42 (feq hc8).2 (by decide) <| ?_
      exact Runs.iinc (P' := [vr a, vi i1, vi i2, vi (i3 + (1 : Int32)), vn, vn]) d13_88 ci_1 rfl (by decide) rfl <| Runs.goto (pc' := 29) d13_91 (by decide) <| hk29 ob i1 i2 (i3 + (1 : Int32)) hf
  · refine Runs.icY (pc' := 94) d13_34 (flt hc5).2.1 (by decide) <| ?_
    exact Runs.iconst d13_94 ci_0 <| Runs.istoreN (P' := [vr a, vi i1, vi i2, vi (0 : Int32), vn, vn]) d13_95 (by decide) rfl <| X_computeSpan_l96_p NF ob i1 i2 (0 : Int32) hf
theorem X_computeSpan_l29_p {C : Ctx} {top : Nat} {a : Nat} {H : List (Nat × Nat × Rec)} {res : Rec} {NF : Nat} (n : Nat) (ob : Rec) (i1 : Int32) (i2 : Int32) (i3 : Int32) (hf : X_computeSpan_l29 NF n ob i1 i2 i3 = some res) : Runs C B13 0 0 29 [vr a, vi i1, vi i2, vi i3, vn, vn] [] (top, (a, 12, ob) :: H) (Ans none (top, (a, 12, res) :: H)) := by
  induction n generalizing ob i1 i2 i3 with
  | zero => cases (show (none : Option (Rec)) = some res from hf)
  | succ n ih => exact X_computeSpan_w29_p (X_computeSpan_l29 NF n) (fun ob i1 i2 i3 h => ih _ _ _ _ h) ob i1 i2 i3 hf
def X_computeSpan_w2 (NF : Nat) (k2 : Rec → Int32 → Int32 → Int32 → Option (Rec)) (ob : Rec) (i1 : Int32) (i2 : Int32) (i3 : Int32) : Option (Rec) :=
  if i3 < (8 : Int32) then
    (X_idx ob i3 i1 i2).bind fun r2 =>
    chk (2312 : Int32) r2 <|
    k2 (sA ob 4 r2 (0 : Int32)) i1 i2 (i3 + (1 : Int32))
  else
    X_computeSpan_l29 NF NF ob i1 i2 (0 : Int32)
def X_computeSpan_l2 (NF : Nat) : Nat → Rec → Int32 → Int32 → Int32 → Option (Rec)
  | 0, _, _, _, _ => none
  | n + 1, ob, i1, i2, i3 => X_computeSpan_w2 NF (X_computeSpan_l2 NF n) ob i1 i2 i3
set_option maxRecDepth 65536 in
set_option maxHeartbeats 4000000 in
theorem X_computeSpan_w2_p {C : Ctx} {top : Nat} {a : Nat} {H : List (Nat × Nat × Rec)} {res : Rec} {NF : Nat} (k2 : Rec → Int32 → Int32 → Int32 → Option (Rec)) (hk2 : ∀ (ob : Rec) (i1 : Int32) (i2 : Int32) (i3 : Int32), k2 ob i1 i2 i3 = some res → Runs C B13 0 0 2 [vr a, vi i1, vi i2, vi i3, vn, vn] [] (top, (a, 12, ob) :: H) (Ans none (top, (a, 12, res) :: H))) (ob : Rec) (i1 : Int32) (i2 : Int32) (i3 : Int32) (hf : X_computeSpan_w2 NF k2 ob i1 i2 i3 = some res) : Runs C B13 0 0 2 [vr a, vi i1, vi i2, vi i3, vn, vn] [] (top, (a, 12, ob) :: H) (Ans none (top, (a, 12, res) :: H)) := by
  delta X_computeSpan_w2 at hf
  refine Runs.iloadN d13_2 rfl <| Runs.bipush d13_3 cb_8 <| ?_
  refine ite_el hf (fun hc1 hf => ?_) (fun hc1 hf => ?_)
  · refine Runs.icN d13_5 (tlt hc1).2.1 <| ?_
    refine Runs.aloadN d13_8 rfl <| Runs.getA d13_9 fA_4 w18 (by decide) <| Runs.aloadN d13_12 rfl <| Runs.iloadN d13_13 rfl <| Runs.iloadN d13_14 rfl <| Runs.iloadN d13_15 rfl <| ?_
    refine bind_el hf fun r2 hg3 hf => ?_
    refine Runs.callP (N := B14) (W := 1) (as := [.int i3, .int i1, .int i2]) (S' := [.ref (a + 1 + 4)]) d13_16 w103 w104 w105 rfl cw14 ar14 rk13_14_1 (by decide) rfl rfl (X_idx_pay hg3) <| ans1 <| Runs.iconst d13_19 ci_0 <| ?_
    refine chk_el hf fun hi4 hf => ?_
    exact Runs.iastoreA d13_20 fA_4 (by decide) hi4 <| Runs.iinc (P' := [vr a, vi i1, vi i2, vi (i3 + (1 : Int32)), vn, vn]) d13_21 ci_1 rfl (by decide) rfl <| Runs.goto (pc' := 2) d13_24 (by decide) <| hk2 (sA ob 4 r2 (0 : Int32)) i1 i2 (i3 + (1 : Int32)) hf
  · refine Runs.icY (pc' := 27) d13_5 (flt hc1).2.1 (by decide) <| ?_
    exact Runs.iconst d13_27 ci_0 <| Runs.istoreN (P' := [vr a, vi i1, vi i2, vi (0 : Int32), vn, vn]) d13_28 (by decide) rfl <| X_computeSpan_l29_p NF ob i1 i2 (0 : Int32) hf
theorem X_computeSpan_l2_p {C : Ctx} {top : Nat} {a : Nat} {H : List (Nat × Nat × Rec)} {res : Rec} {NF : Nat} (n : Nat) (ob : Rec) (i1 : Int32) (i2 : Int32) (i3 : Int32) (hf : X_computeSpan_l2 NF n ob i1 i2 i3 = some res) : Runs C B13 0 0 2 [vr a, vi i1, vi i2, vi i3, vn, vn] [] (top, (a, 12, ob) :: H) (Ans none (top, (a, 12, res) :: H)) := by
  induction n generalizing ob i1 i2 i3 with
  | zero => cases (show (none : Option (Rec)) = some res from hf)
  | succ n ih => exact X_computeSpan_w2_p (X_computeSpan_l2 NF n) (fun ob i1 i2 i3 h => ih _ _ _ _ h) ob i1 i2 i3 hf
def X_computeSpan (NF : Nat) (ob : Rec) (i1 : Int32) (i2 : Int32) : Option (Rec) :=
  X_computeSpan_l2 NF NF ob i1 i2 (0 : Int32)
set_option maxRecDepth 65536 in
set_option maxHeartbeats 4000000 in
theorem X_computeSpan_p {C : Ctx} {top : Nat} {a : Nat} {H : List (Nat × Nat × Rec)} {res : Rec} {NF : Nat} (ob : Rec) (i1 : Int32) (i2 : Int32) (hf : X_computeSpan NF ob i1 i2 = some res) : Runs C B13 0 0 0 [vr a, vi i1, vi i2, vn, vn, vn] [] (top, (a, 12, ob) :: H) (Ans none (top, (a, 12, res) :: H)) := by
  delta X_computeSpan at hf
  exact Runs.iconst d13_0 ci_0 <| Runs.istoreN (P' := [vr a, vi i1, vi i2, vi (0 : Int32), vn, vn]) d13_1 (by decide) rfl <| X_computeSpan_l2_p NF ob i1 i2 (0 : Int32) hf
theorem X_computeSpan_pay {C : Ctx} {top : Nat} {a : Nat} {H : List (Nat × Nat × Rec)} {res : Rec} {NF : Nat} {ob : Rec} {i1 : Int32} {i2 : Int32} (hf : X_computeSpan NF ob i1 i2 = some res) : Pays C B13 [.ref a, .int i1, .int i2] (top, (a, 12, ob) :: H) (Ans none (top, (a, 12, res) :: H)) :=
  Pays.of pnK (Nat.le_of_ble_eq_true rfl) (P := [vr a, vi i1, vi i2, vn, vn, vn]) 3 rfl (X_computeSpan_p ob i1 i2 hf)
def X_buildChart_w12 (NF : Nat) (k2 : Rec → Int32 → Option (Rec)) (k12 : Rec → Int32 → Int32 → Option (Rec)) (ob : Rec) (i1 : Int32) (i2 : Int32) : Option (Rec) :=
  if (gI ob 4) < (i2 + i1) then
    k2 ob (i1 + (1 : Int32))
  else
    (X_computeSpan NF ob i2 (i2 + i1)).bind fun q3 =>
    k12 q3 i1 (i2 + (1 : Int32))
def X_buildChart_l12 (NF : Nat) (k2 : Rec → Int32 → Option (Rec)) : Nat → Rec → Int32 → Int32 → Option (Rec)
  | 0, _, _, _ => none
  | n + 1, ob, i1, i2 => X_buildChart_w12 NF k2 (X_buildChart_l12 NF k2 n) ob i1 i2
set_option maxRecDepth 65536 in
set_option maxHeartbeats 4000000 in
theorem X_buildChart_w12_p {C : Ctx} {top : Nat} {a : Nat} {H : List (Nat × Nat × Rec)} {res : Rec} {NF : Nat} (k2 : Rec → Int32 → Option (Rec)) (hk2 : ∀ (ob : Rec) (i1 : Int32), k2 ob i1 = some res → Runs C B12 0 0 2 [vr a, vi i1, vn] [] (top, (a, 12, ob) :: H) (Ans none (top, (a, 12, res) :: H))) (k12 : Rec → Int32 → Int32 → Option (Rec)) (hk12 : ∀ (ob : Rec) (i1 : Int32) (i2 : Int32), k12 ob i1 i2 = some res → Runs C B12 0 0 12 [vr a, vi i1, vi i2] [] (top, (a, 12, ob) :: H) (Ans none (top, (a, 12, res) :: H))) (ob : Rec) (i1 : Int32) (i2 : Int32) (hf : X_buildChart_w12 NF k2 k12 ob i1 i2 = some res) : Runs C B12 0 0 12 [vr a, vi i1, vi i2] [] (top, (a, 12, ob) :: H) (Ans none (top, (a, 12, res) :: H)) := by
  delta X_buildChart_w12 at hf
  refine Runs.iloadN d12_12 rfl <| Runs.iloadN d12_13 rfl <| Runs.iadd d12_14 <| Runs.aloadN d12_15 rfl <| Runs.getI d12_16 w42 fS_4 <| ?_
  refine ite_el hf (fun hc2 hf => ?_) (fun hc2 hf => ?_)
  · refine Runs.icY (pc' := 36) d12_19 (tlt hc2).2.2.1 (by decide) <| ?_
    exact Runs.iinc (P' := [vr a, vi (i1 + (1 : Int32)), vi i2]) d12_36 ci_1 rfl (by decide) rfl <| Runs.goto (pc' := 2) d12_39 (by decide) <| Runs.forget [true, true, false] rfl <| hk2 ob (i1 + (1 : Int32)) hf
  · refine Runs.icN d12_19 (flt hc2).2.2.1 <| ?_
    refine Runs.aloadN d12_22 rfl <| Runs.iloadN d12_23 rfl <| Runs.iloadN d12_24 rfl <| Runs.iloadN d12_25 rfl <| Runs.iadd d12_26 <| ?_
    refine bind_el hf fun q3 hg4 hf => ?_
    exact Runs.callP (N := B13) (W := 0) (as := [.int i2, .int (i2 + i1)]) (S' := []) d12_27 w99 w100 w101 rfl cw13 ar13 rk12_13_0 (by decide) rfl rfl (X_computeSpan_pay hg4) <| ans0 <| Runs.iinc (P' := [vr a, vi i1, vi (i2 + (1 : Int32))]) d12_30 ci_1 rfl (by decide) rfl <| Runs.goto (pc' := 12) d12_33 (by decide) <| hk12 q3 i1 (i2 + (1 : Int32)) hf
theorem X_buildChart_l12_p {C : Ctx} {top : Nat} {a : Nat} {H : List (Nat × Nat × Rec)} {res : Rec} {NF : Nat} (k2 : Rec → Int32 → Option (Rec)) (hk2 : ∀ (ob : Rec) (i1 : Int32), k2 ob i1 = some res → Runs C B12 0 0 2 [vr a, vi i1, vn] [] (top, (a, 12, ob) :: H) (Ans none (top, (a, 12, res) :: H))) (n : Nat) (ob : Rec) (i1 : Int32) (i2 : Int32) (hf : X_buildChart_l12 NF k2 n ob i1 i2 = some res) : Runs C B12 0 0 12 [vr a, vi i1, vi i2] [] (top, (a, 12, ob) :: H) (Ans none (top, (a, 12, res) :: H)) := by
  induction n generalizing ob i1 i2 with
  | zero => cases (show (none : Option (Rec)) = some res from hf)
  | succ n ih => exact X_buildChart_w12_p k2 hk2 (X_buildChart_l12 NF k2 n) (fun ob i1 i2 h => ih _ _ _ h) ob i1 i2 hf
def X_buildChart_w2 (NF : Nat) (k2 : Rec → Int32 → Option (Rec)) (ob : Rec) (i1 : Int32) : Option (Rec) :=
  if (gI ob 4) < i1 then
    some ob
  else
    X_buildChart_l12 NF k2 NF ob i1 (0 : Int32)
def X_buildChart_l2 (NF : Nat) : Nat → Rec → Int32 → Option (Rec)
  | 0, _, _ => none
  | n + 1, ob, i1 => X_buildChart_w2 NF (X_buildChart_l2 NF n) ob i1
set_option maxRecDepth 65536 in
set_option maxHeartbeats 4000000 in
theorem X_buildChart_w2_p {C : Ctx} {top : Nat} {a : Nat} {H : List (Nat × Nat × Rec)} {res : Rec} {NF : Nat} (k2 : Rec → Int32 → Option (Rec)) (hk2 : ∀ (ob : Rec) (i1 : Int32), k2 ob i1 = some res → Runs C B12 0 0 2 [vr a, vi i1, vn] [] (top, (a, 12, ob) :: H) (Ans none (top, (a, 12, res) :: H))) (ob : Rec) (i1 : Int32) (hf : X_buildChart_w2 NF k2 ob i1 = some res) : Runs C B12 0 0 2 [vr a, vi i1, vn] [] (top, (a, 12, ob) :: H) (Ans none (top, (a, 12, res) :: H)) := by
  delta X_buildChart_w2 at hf
  refine Runs.iloadN d12_2 rfl <| Runs.aloadN d12_3 rfl <| Runs.getI d12_4 w42 fS_4 <| ?_
  refine ite_el hf (fun hc1 hf => ?_) (fun hc1 hf => ?_)
  · refine Runs.icY (pc' := 42) d12_7 (tlt hc1).2.2.1 (by decide) <| ?_
    obtain rfl := Option.some.inj hf
    exact Runs.retV d12_42 rfl ⟨by decide, by decide⟩ ⟨rfl, rfl⟩
  · refine Runs.icN d12_7 (flt hc1).2.2.1 <| ?_
    exact Runs.iconst d12_10 ci_0 <| Runs.istoreN (P' := [vr a, vi i1, vi (0 : Int32)]) d12_11 (by decide) rfl <| X_buildChart_l12_p k2 hk2 NF ob i1 (0 : Int32) hf
theorem X_buildChart_l2_p {C : Ctx} {top : Nat} {a : Nat} {H : List (Nat × Nat × Rec)} {res : Rec} {NF : Nat} (n : Nat) (ob : Rec) (i1 : Int32) (hf : X_buildChart_l2 NF n ob i1 = some res) : Runs C B12 0 0 2 [vr a, vi i1, vn] [] (top, (a, 12, ob) :: H) (Ans none (top, (a, 12, res) :: H)) := by
  induction n generalizing ob i1 with
  | zero => cases (show (none : Option (Rec)) = some res from hf)
  | succ n ih => exact X_buildChart_w2_p (X_buildChart_l2 NF n) (fun ob i1 h => ih _ _ h) ob i1 hf
def X_buildChart (NF : Nat) (ob : Rec) : Option (Rec) :=
  X_buildChart_l2 NF NF ob (1 : Int32)
set_option maxRecDepth 65536 in
set_option maxHeartbeats 4000000 in
theorem X_buildChart_p {C : Ctx} {top : Nat} {a : Nat} {H : List (Nat × Nat × Rec)} {res : Rec} {NF : Nat} (ob : Rec) (hf : X_buildChart NF ob = some res) : Runs C B12 0 0 0 [vr a, vn, vn] [] (top, (a, 12, ob) :: H) (Ans none (top, (a, 12, res) :: H)) := by
  delta X_buildChart at hf
  exact Runs.iconst d12_0 ci_1 <| Runs.istoreN (P' := [vr a, vi (1 : Int32), vn]) d12_1 (by decide) rfl <| X_buildChart_l2_p NF ob (1 : Int32) hf
theorem X_buildChart_pay {C : Ctx} {top : Nat} {a : Nat} {H : List (Nat × Nat × Rec)} {res : Rec} {NF : Nat} {ob : Rec} (hf : X_buildChart NF ob = some res) : Pays C B12 [.ref a] (top, (a, 12, ob) :: H) (Ans none (top, (a, 12, res) :: H)) :=
  Pays.of pnK (Nat.le_of_ble_eq_true rfl) (P := [vr a, vn, vn]) 2 rfl (X_buildChart_p ob hf)
def X_push (ob : Rec) (i1 : Int32) (i2 : Int32) (i3 : Int32) : Option (Rec) :=
  if (gI ob 7) < (256 : Int32) then
    chk (256 : Int32) (gI ob 7) <|
    chk (256 : Int32) (gI ob 7) <|
    chk (256 : Int32) (gI ob 7) <|
    some (sI (sA (sA (sA ob 9 (gI ob 7) i1) 10 (gI ob 7) i2) 11 (gI ob 7) i3) 7 ((gI ob 7) + (1 : Int32)))
  else
    some ob
set_option maxRecDepth 65536 in
set_option maxHeartbeats 4000000 in
theorem X_push_p {C : Ctx} {top : Nat} {a : Nat} {H : List (Nat × Nat × Rec)} {res : Rec} (ob : Rec) (i1 : Int32) (i2 : Int32) (i3 : Int32) (hf : X_push ob i1 i2 i3 = some res) : Runs C B26 0 0 0 [vr a, vi i1, vi i2, vi i3] [] (top, (a, 12, ob) :: H) (Ans none (top, (a, 12, res) :: H)) := by
  delta X_push at hf
  refine Runs.aloadN d26_0 rfl <| Runs.getI d26_1 w48 fS_7 <| Runs.sipush d26_4 cs_256 <| ?_
  refine ite_el hf (fun hc1 hf => ?_) (fun hc1 hf => ?_)
  · refine Runs.icN d26_7 (tlt hc1).2.1 <| ?_
    refine Runs.aloadN d26_10 rfl <| Runs.getA d26_11 fA_9 w28 (by decide) <| Runs.aloadN d26_14 rfl <| Runs.getI d26_15 w48 fS_7 <| Runs.iloadN d26_18 rfl <| ?_
    refine chk_el hf fun hi2 hf => ?_
    refine Runs.iastoreA d26_19 fA_9 (by decide) hi2 <| Runs.aloadN d26_20 rfl <| Runs.getA d26_21 fA_10 w30 (by decide) <| Runs.aloadN d26_24 rfl <| Runs.getI d26_25 w48 fS_7 <| Runs.iloadN d26_28 rfl <| ?_
    refine chk_el hf fun hi3 hf => ?_
    refine Runs.iastoreA d26_29 fA_10 (by decide) hi3 <| Runs.aloadN d26_30 rfl <| Runs.getA d26_31 fA_11 w32 (by decide) <| Runs.aloadN d26_34 rfl <| Runs.getI d26_35 w48 fS_7 <| Runs.iloadN d26_38 rfl <| ?_
    refine chk_el hf fun hi4 hf => ?_
    obtain rfl := Option.some.inj hf
    exact Runs.iastoreA d26_39 fA_11 (by decide) hi4 <| Runs.aloadN d26_40 rfl <| Runs.dup d26_41 rfl <| Runs.getI d26_42 w48 fS_7 <| Runs.iconst d26_45 ci_1 <| Runs.iadd d26_46 <| Runs.putI d26_47 w48 fS_7 (Or.inl w49) <| Runs.retV d26_50 rfl ⟨by decide, by decide⟩ ⟨rfl, rfl⟩
  · refine Runs.icY (pc' := 50) d26_7 (flt hc1).2.1 (by decide) <| ?_
    obtain rfl := Option.some.inj hf
    exact Runs.retV d26_50 rfl ⟨by decide, by decide⟩ ⟨rfl, rfl⟩
theorem X_push_pay {C : Ctx} {top : Nat} {a : Nat} {H : List (Nat × Nat × Rec)} {res : Rec} {ob : Rec} {i1 : Int32} {i2 : Int32} {i3 : Int32} (hf : X_push ob i1 i2 i3 = some res) : Pays C B26 [.ref a, .int i1, .int i2, .int i3] (top, (a, 12, ob) :: H) (Ans none (top, (a, 12, res) :: H)) :=
  Pays.of pnK (Nat.le_of_ble_eq_true rfl) (P := [vr a, vi i1, vi i2, vi i3]) 0 rfl (X_push_p ob i1 i2 i3 hf)
def X_ruleSpanCount (NF : Nat) (ob : Rec) (i1 : Int32) (i2 : Int32) (i3 : Int32) : Option (Int32 × Rec) :=
  (X_isUnit ob i1).bind fun r1 =>
  if r1 = (0 : Int32) then
    bind2 (X_splitCount NF ob i1 i2 i3) fun r4 q5 =>
    some (r4, q5)
  else
    chk (80 : Int32) (i1 * (5 : Int32)) <|
    (X_idx ob (gA ob 2 (i1 * (5 : Int32))) i2 i3).bind fun r8 =>
    chk (2312 : Int32) r8 <|
    some ((gA ob 4 r8), ob)
set_option maxRecDepth 65536 in
set_option maxHeartbeats 4000000 in
theorem X_ruleSpanCount_p {C : Ctx} {top : Nat} {a : Nat} {H : List (Nat × Nat × Rec)} {res : Int32 × Rec} {NF : Nat} (ob : Rec) (i1 : Int32) (i2 : Int32) (i3 : Int32) (hf : X_ruleSpanCount NF ob i1 i2 i3 = some res) : Runs C B28 0 0 0 [vr a, vi i1, vi i2, vi i3] [] (top, (a, 12, ob) :: H) (Ans (some (.int res.1)) (top, (a, 12, res.2) :: H)) := by
  delta X_ruleSpanCount at hf
  refine Runs.aloadN d28_0 rfl <| Runs.iloadN d28_1 rfl <| ?_
  refine bind_el hf fun r1 hg2 hf => ?_
  refine Runs.callP (N := B9) (W := 0) (as := [.int i1]) (S' := []) d28_2 w81 w82 w83 rfl cw9 ar9 rk28_9_0 (by decide) rfl rfl (X_isUnit_pay hg2) <| ans1 <| ?_
  refine ite_el hf (fun hc3 hf => ?_) (fun hc3 hf => ?_)
  · refine Runs.ifY (pc' := 28) d28_5 (teq hc3).1 (by decide) <| ?_
    refine Runs.aloadN d28_28 rfl <| Runs.iloadN d28_29 rfl <| Runs.iloadN d28_30 rfl <| Runs.iloadN d28_31 rfl <| ?_
    refine bind2_el hf fun r4 q5 hg6 hf => ?_
    obtain rfl := Option.some.inj hf
    exact Runs.callP (N := B15) (W := 0) (as := [.int i1, .int i2, .int i3]) (S' := []) d28_32 w107 w108 w109 rfl cw15 ar15 rk28_15_0 (by decide) rfl rfl (X_splitCount_pay hg6) <| ans1 <| Runs.retI d28_35 rfl ⟨by decide, by decide⟩ ⟨rfl, rfl⟩
  · refine Runs.ifN d28_5 (feq hc3).1 <| ?_
    refine Runs.aloadN d28_8 rfl <| Runs.getA d28_9 fA_4 w18 (by decide) <| Runs.aloadN d28_12 rfl <| Runs.aloadN d28_13 rfl <| Runs.getA d28_14 fA_2 w14 (by decide) <| Runs.iloadN d28_17 rfl <| Runs.iconst d28_18 ci_5 <| Runs.imul d28_19 <| ?_
    refine chk_el hf fun hi7 hf => ?_
    refine Runs.ialoadA d28_20 fA_2 (by decide) hi7 <| Runs.iloadN d28_21 rfl <| Runs.iloadN d28_22 rfl <| ?_
    refine bind_el hf fun r8 hg9 hf => ?_
    refine Runs.callP (N := B14) (W := 1) (as := [.int (gA ob 2 (i1 * (5 : Int32))), .int i2, .int i3]) (S' := [.ref (a + 1 + 4)]) d28_23 w103 w104 w105 rfl cw14 ar14 rk28_14_1 (by decide) rfl rfl (X_idx_pay hg9) <| ans1 <| ?_
    refine chk_el hf fun hi10 hf => ?_
    obtain rfl := Option.some.inj hf
    exact Runs.ialoadA d28_26 fA_4 (by decide) hi10 <| Runs.retI d28_27 rfl ⟨by decide, by decide⟩ ⟨rfl, rfl⟩
theorem X_ruleSpanCount_pay {C : Ctx} {top : Nat} {a : Nat} {H : List (Nat × Nat × Rec)} {res : Int32 × Rec} {NF : Nat} {ob : Rec} {i1 : Int32} {i2 : Int32} {i3 : Int32} (hf : X_ruleSpanCount NF ob i1 i2 i3 = some res) : Pays C B28 [.ref a, .int i1, .int i2, .int i3] (top, (a, 12, ob) :: H) (Ans (some (.int res.1)) (top, (a, 12, res.2) :: H)) :=
  Pays.of pnK (Nat.le_of_ble_eq_true rfl) (P := [vr a, vi i1, vi i2, vi i3]) 0 rfl (X_ruleSpanCount_p ob i1 i2 i3 hf)
def X_findRule_w3 (NF : Nat) (k3 : Rec → Int32 → Int32 → Int32 → Int32 → Option (Int32 × Rec)) (ob : Rec) (i1 : Int32) (i2 : Int32) (i3 : Int32) (i4 : Int32) : Option (Int32 × Rec) :=
  if i4 < (gI ob 3) then
    chk (16 : Int32) i4 <|
    if (gA ob 0 i4) = i1 then
      bind2 (X_ruleSpanCount NF ob i4 i2 i3) fun r4 q5 =>
      if (0 : Int32) < r4 then
        some (i4, q5)
      else
        k3 q5 i1 i2 i3 (i4 + (1 : Int32))
    else
      k3 ob i1 i2 i3 (i4 + (1 : Int32))
  else
    some ((-1 : Int32), ob)
def X_findRule_l3 (NF : Nat) : Nat → Rec → Int32 → Int32 → Int32 → Int32 → Option (Int32 × Rec)
  | 0, _, _, _, _, _ => none
  | n + 1, ob, i1, i2, i3, i4 => X_findRule_w3 NF (X_findRule_l3 NF n) ob i1 i2 i3 i4
set_option maxRecDepth 65536 in
set_option maxHeartbeats 4000000 in
theorem X_findRule_w3_p {C : Ctx} {top : Nat} {a : Nat} {H : List (Nat × Nat × Rec)} {res : Int32 × Rec} {NF : Nat} (k3 : Rec → Int32 → Int32 → Int32 → Int32 → Option (Int32 × Rec)) (hk3 : ∀ (ob : Rec) (i1 : Int32) (i2 : Int32) (i3 : Int32) (i4 : Int32), k3 ob i1 i2 i3 i4 = some res → Runs C B27 0 0 3 [vr a, vi i1, vi i2, vi i3, vi i4, vn] [] (top, (a, 12, ob) :: H) (Ans (some (.int res.1)) (top, (a, 12, res.2) :: H))) (ob : Rec) (i1 : Int32) (i2 : Int32) (i3 : Int32) (i4 : Int32) (hf : X_findRule_w3 NF k3 ob i1 i2 i3 i4 = some res) : Runs C B27 0 0 3 [vr a, vi i1, vi i2, vi i3, vi i4, vn] [] (top, (a, 12, ob) :: H) (Ans (some (.int res.1)) (top, (a, 12, res.2) :: H)) := by
  delta X_findRule_w3 at hf
  refine Runs.iload d27_3 rfl <| Runs.aloadN d27_5 rfl <| Runs.getI d27_6 w40 fS_3 <| ?_
  refine ite_el hf (fun hc1 hf => ?_) (fun hc1 hf => ?_)
  · refine Runs.icN d27_9 (tlt hc1).2.1 <| ?_
    refine Runs.aloadN d27_12 rfl <| Runs.getA d27_13 fA_0 w10 (by decide) <| Runs.iload d27_16 rfl <| ?_
    refine chk_el hf fun hi2 hf => ?_
    refine Runs.ialoadA d27_18 fA_0 (by decide) hi2 <| Runs.iloadN d27_19 rfl <| ?_
    refine ite_el hf (fun hc3 hf => ?_) (fun hc3 hf => ?_)
    · refine Runs.icN d27_20 (teq hc3).2 <| ?_
      refine Runs.aloadN d27_23 rfl <| Runs.iload d27_24 rfl <| Runs.iloadN d27_26 rfl <| Runs.iloadN d27_27 rfl <| ?_
      refine bind2_el hf fun r4 q5 hg6 hf => ?_
      refine Runs.callP (N := B28) (W := 0) (as := [.int i4, .int i2, .int i3]) (S' := []) d27_28 w163 w164 w165 rfl cw28 ar28 rk27_28_0 (by decide) rfl rfl (X_ruleSpanCount_pay hg6) <| ans1 <| Runs.istore (P' := [vr a, vi i1, vi i2, vi i3, vi i4, vi r4]) d27_31 (by decide) rfl <| Runs.iload d27_33 rfl <| ?_
      refine ite_el hf (fun hc7 hf => ?_) (fun hc7 hf => ?_)
      · refine Runs.ifN d27_35 (tlt hc7).2.2.2 <| ?_
        obtain rfl := Option.some.inj hf
        exact Runs.iload d27_38 rfl <| Runs.retI d27_40 rfl ⟨by decide, by decide⟩ ⟨rfl, rfl⟩
      · refine Runs.ifY (pc' := 41) d27_35 (flt hc7).2.2.2 (by decide) <| ?_
        exact Runs.iinc (P' := [vr a, vi i1, vi i2, vi i3, vi (i4 + (1 : Int32)), vi r4]) d27_41 ci_1 rfl (by decide) rfl <| Runs.goto (pc' := 3) d27_44 (by decide) <| Runs.forget [true, true, true, true, true, false] rfl <| hk3 q5 i1 i2 i3 (i4 + (1 : Int32)) hf
    · refine Runs.icY (pc' := 41) d27_20 (feq hc3).2 (by decide) <| ?_
      exact Runs.iinc (P' := [vr a, vi i1, vi i2, vi i3, vi (i4 + (1 : Int32)), vn]) d27_41 ci_1 rfl (by decide) rfl <| Runs.goto (pc' := 3) d27_44 (by decide) <| hk3 ob i1 i2 i3 (i4 + (1 : Int32)) hf
  · refine Runs.icY (pc' := 47) d27_9 (flt hc1).2.1 (by decide) <| ?_
    obtain rfl := Option.some.inj hf
    exact Runs.iconst d27_47 ci_m1 <| Runs.retI d27_48 rfl ⟨by decide, by decide⟩ ⟨rfl, rfl⟩
theorem X_findRule_l3_p {C : Ctx} {top : Nat} {a : Nat} {H : List (Nat × Nat × Rec)} {res : Int32 × Rec} {NF : Nat} (n : Nat) (ob : Rec) (i1 : Int32) (i2 : Int32) (i3 : Int32) (i4 : Int32) (hf : X_findRule_l3 NF n ob i1 i2 i3 i4 = some res) : Runs C B27 0 0 3 [vr a, vi i1, vi i2, vi i3, vi i4, vn] [] (top, (a, 12, ob) :: H) (Ans (some (.int res.1)) (top, (a, 12, res.2) :: H)) := by
  induction n generalizing ob i1 i2 i3 i4 with
  | zero => cases (show (none : Option (Int32 × Rec)) = some res from hf)
  | succ n ih => exact X_findRule_w3_p (X_findRule_l3 NF n) (fun ob i1 i2 i3 i4 h => ih _ _ _ _ _ h) ob i1 i2 i3 i4 hf
def X_findRule (NF : Nat) (ob : Rec) (i1 : Int32) (i2 : Int32) (i3 : Int32) : Option (Int32 × Rec) :=
  X_findRule_l3 NF NF ob i1 i2 i3 (0 : Int32)
set_option maxRecDepth 65536 in
set_option maxHeartbeats 4000000 in
theorem X_findRule_p {C : Ctx} {top : Nat} {a : Nat} {H : List (Nat × Nat × Rec)} {res : Int32 × Rec} {NF : Nat} (ob : Rec) (i1 : Int32) (i2 : Int32) (i3 : Int32) (hf : X_findRule NF ob i1 i2 i3 = some res) : Runs C B27 0 0 0 [vr a, vi i1, vi i2, vi i3, vn, vn] [] (top, (a, 12, ob) :: H) (Ans (some (.int res.1)) (top, (a, 12, res.2) :: H)) := by
  delta X_findRule at hf
  exact Runs.iconst d27_0 ci_0 <| Runs.istore (P' := [vr a, vi i1, vi i2, vi i3, vi (0 : Int32), vn]) d27_1 (by decide) rfl <| X_findRule_l3_p NF ob i1 i2 i3 (0 : Int32) hf
theorem X_findRule_pay {C : Ctx} {top : Nat} {a : Nat} {H : List (Nat × Nat × Rec)} {res : Int32 × Rec} {NF : Nat} {ob : Rec} {i1 : Int32} {i2 : Int32} {i3 : Int32} (hf : X_findRule NF ob i1 i2 i3 = some res) : Pays C B27 [.ref a, .int i1, .int i2, .int i3] (top, (a, 12, ob) :: H) (Ans (some (.int res.1)) (top, (a, 12, res.2) :: H)) :=
  Pays.of pnK (Nat.le_of_ble_eq_true rfl) (P := [vr a, vi i1, vi i2, vi i3, vn, vn]) 2 rfl (X_findRule_p ob i1 i2 i3 hf)
def X_findSplit_w7 (NF : Nat) (ob : Rec) (k7 : Int32 → Int32 → Int32 → Int32 → Option (Int32)) (i1 : Int32) (i2 : Int32) (i4 : Int32) (i5 : Int32) : Option (Int32) :=
  if i5 < i4 then
    chk (102 : Int32) (((i1 - (1 : Int32)) * (17 : Int32)) + i5) <|
    if (gA ob 5 (((i1 - (1 : Int32)) * (17 : Int32)) + i5)) = (0 : Int32) then
      k7 i1 i2 i4 (i5 + (1 : Int32))
    else
      (X_symCount ob i2 i5 i4).bind fun r4 =>
      if r4 = (0 : Int32) then
        k7 i1 i2 i4 (i5 + (1 : Int32))
      else
        some i5
  else
    some (-1 : Int32)
def X_findSplit_l7 (NF : Nat) (ob : Rec) : Nat → Int32 → Int32 → Int32 → Int32 → Option (Int32)
  | 0, _, _, _, _ => none
  | n + 1, i1, i2, i4, i5 => X_findSplit_w7 NF ob (X_findSplit_l7 NF ob n) i1 i2 i4 i5
set_option maxRecDepth 65536 in
set_option maxHeartbeats 4000000 in
theorem X_findSplit_w7_p {C : Ctx} {top : Nat} {a : Nat} {H : List (Nat × Nat × Rec)} {ob : Rec} {res : Int32} {NF : Nat} (k7 : Int32 → Int32 → Int32 → Int32 → Option (Int32)) (hk7 : ∀ (i1 : Int32) (i2 : Int32) (i4 : Int32) (i5 : Int32), k7 i1 i2 i4 i5 = some res → Runs C B30 0 0 7 [vr a, vi i1, vi i2, vn, vi i4, vi i5, vn, vn] [] (top, (a, 12, ob) :: H) (Ans (some (.int res)) (top, (a, 12, ob) :: H))) (i1 : Int32) (i2 : Int32) (i4 : Int32) (i5 : Int32) (hf : X_findSplit_w7 NF ob k7 i1 i2 i4 i5 = some res) : Runs C B30 0 0 7 [vr a, vi i1, vi i2, vn, vi i4, vi i5, vn, vn] [] (top, (a, 12, ob) :: H) (Ans (some (.int res)) (top, (a, 12, ob) :: H)) := by
  delta X_findSplit_w7 at hf
  refine Runs.iload d30_7 rfl <| Runs.iload d30_9 rfl <| ?_
  refine ite_el hf (fun hc1 hf => ?_) (fun hc1 hf => ?_)
  · refine Runs.icN d30_11 (tlt hc1).2.1 <| ?_
    refine Runs.aloadN d30_14 rfl <| Runs.getA d30_15 fA_5 w20 (by decide) <| Runs.iloadN d30_18 rfl <| Runs.iconst d30_19 ci_1 <| Runs.isub d30_20 <| Runs.bipush d30_21 cb_17 <| Runs.imul d30_23 <| Runs.iload d30_24 rfl <| Runs.iadd d30_26 <| ?_
    refine chk_el hf fun hi2 hf => ?_
    refine Runs.ialoadA d30_27 fA_5 (by decide) hi2 <| Runs.istore (P' := [vr a, vi i1, vi i2, vn, vi i4, vi i5, vi (gA ob 5 (((i1 - (1 : Int32)) * (17 : Int32)) + i5)), vn]) d30_28 (by decide) rfl <| Runs.iload d30_30 rfl <| ?_
    refine ite_el hf (fun hc3 hf => ?_) (fun hc3 hf => ?_)
    · refine Runs.ifY (pc' := 54) d30_32 (teq hc3).1 (by decide) <| ?_
      exact Runs.iinc (P' := [vr a, vi i1, vi i2, vn, vi i4, vi (i5 + (1 : Int32)), vi (gA ob 5 (((i1 - (1 : Int32)) * (17 : Int32)) + i5)), vn]) d30_54 ci_1 rfl (by decide) rfl <| Runs.goto (pc' := 7) d30_57 (by decide) <| Runs.forget [true, true, true, false, true, true, false, false] rfl <| hk7 i1 i2 i4 (i5 + (1 : Int32)) hf
    · refine Runs.ifN d30_32 (feq hc3).1 <| ?_
      refine Runs.aloadN d30_35 rfl <| Runs.iloadN d30_36 rfl <| Runs.iload d30_37 rfl <| Runs.iload d30_39 rfl <| ?_
      refine bind_el hf fun r4 hg5 hf => ?_
      refine Runs.callP (N := B19) (W := 0) (as := [.int i2, .int i5, .int i4]) (S' := []) d30_41 w123 w124 w125 rfl cw19 ar19 rk30_19_0 (by decide) rfl rfl (X_symCount_pay hg5) <| ans1 <| Runs.istore (P' := [vr a, vi i1, vi i2, vn, vi i4, vi i5, vi (gA ob 5 (((i1 - (1 : Int32)) * (17 : Int32)) + i5)), vi r4]) d30_44 (by decide) rfl <| Runs.iload d30_46 rfl <| ?_
      refine ite_el hf (fun hc6 hf => ?_) (fun hc6 hf => ?_)
      · refine Runs.ifY (pc' := 54) d30_48 (teq hc6).1 (by decide) <| ?_
        exact Runs.iinc (P' := [vr a, vi i1, vi i2, vn, vi i4, vi (i5 + (1 : Int32)), vi (gA ob 5 (((i1 - (1 : Int32)) * (17 : Int32)) + i5)), vi r4]) d30_54 ci_1 rfl (by decide) rfl <| Runs.goto (pc' := 7) d30_57 (by decide) <| Runs.forget [true, true, true, false, true, true, false, false] rfl <| hk7 i1 i2 i4 (i5 + (1 : Int32)) hf
      · refine Runs.ifN d30_48 (feq hc6).1 <| ?_
        obtain rfl := Option.some.inj hf
        exact Runs.iload d30_51 rfl <| Runs.retI d30_53 rfl ⟨by decide, by decide⟩ ⟨rfl, rfl⟩
  · refine Runs.icY (pc' := 60) d30_11 (flt hc1).2.1 (by decide) <| ?_
    obtain rfl := Option.some.inj hf
    exact Runs.iconst d30_60 ci_m1 <| Runs.retI d30_61 rfl ⟨by decide, by decide⟩ ⟨rfl, rfl⟩
theorem X_findSplit_l7_p {C : Ctx} {top : Nat} {a : Nat} {H : List (Nat × Nat × Rec)} {ob : Rec} {res : Int32} {NF : Nat} (n : Nat) (i1 : Int32) (i2 : Int32) (i4 : Int32) (i5 : Int32) (hf : X_findSplit_l7 NF ob n i1 i2 i4 i5 = some res) : Runs C B30 0 0 7 [vr a, vi i1, vi i2, vn, vi i4, vi i5, vn, vn] [] (top, (a, 12, ob) :: H) (Ans (some (.int res)) (top, (a, 12, ob) :: H)) := by
  induction n generalizing i1 i2 i4 i5 with
  | zero => cases (show (none : Option (Int32)) = some res from hf)
  | succ n ih => exact X_findSplit_w7_p (X_findSplit_l7 NF ob n) (fun i1 i2 i4 i5 h => ih _ _ _ _ h) i1 i2 i4 i5 hf
def X_findSplit (NF : Nat) (ob : Rec) (i1 : Int32) (i2 : Int32) (i3 : Int32) (i4 : Int32) : Option (Int32) :=
  X_findSplit_l7 NF ob NF i1 i2 i4 ((i3 + i1) - (1 : Int32))
set_option maxRecDepth 65536 in
set_option maxHeartbeats 4000000 in
theorem X_findSplit_p {C : Ctx} {top : Nat} {a : Nat} {H : List (Nat × Nat × Rec)} {ob : Rec} {res : Int32} {NF : Nat} (i1 : Int32) (i2 : Int32) (i3 : Int32) (i4 : Int32) (hf : X_findSplit NF ob i1 i2 i3 i4 = some res) : Runs C B30 0 0 0 [vr a, vi i1, vi i2, vi i3, vi i4, vn, vn, vn] [] (top, (a, 12, ob) :: H) (Ans (some (.int res)) (top, (a, 12, ob) :: H)) := by
  delta X_findSplit at hf
  exact Runs.iloadN d30_0 rfl <| Runs.iloadN d30_1 rfl <| Runs.iadd d30_2 <| Runs.iconst d30_3 ci_1 <| Runs.isub d30_4 <| Runs.istore (P' := [vr a, vi i1, vi i2, vi i3, vi i4, vi ((i3 + i1) - (1 : Int32)), vn, vn]) d30_5 (by decide) rfl <| Runs.forget [true, true, true, false, true, true, false, false] rfl <| X_findSplit_l7_p NF i1 i2 i4 ((i3 + i1) - (1 : Int32)) hf
theorem X_findSplit_pay {C : Ctx} {top : Nat} {a : Nat} {H : List (Nat × Nat × Rec)} {ob : Rec} {res : Int32} {NF : Nat} {i1 : Int32} {i2 : Int32} {i3 : Int32} {i4 : Int32} (hf : X_findSplit NF ob i1 i2 i3 i4 = some res) : Pays C B30 [.ref a, .int i1, .int i2, .int i3, .int i4] (top, (a, 12, ob) :: H) (Ans (some (.int res)) (top, (a, 12, ob) :: H)) :=
  Pays.of pnK (Nat.le_of_ble_eq_true rfl) (P := [vr a, vi i1, vi i2, vi i3, vi i4, vn, vn, vn]) 3 rfl (X_findSplit_p i1 i2 i3 i4 hf)
def X_expand_w41 (NF : Nat) (k41 : Rec → Int32 → Int32 → Int32 → Int32 → Option (Rec)) (ob : Rec) (i1 : Int32) (i2 : Int32) (i4 : Int32) (i5 : Int32) : Option (Rec) :=
  if i5 < (1 : Int32) then
    some ob
  else
    chk (80 : Int32) (((i1 * (5 : Int32)) + i5) - (1 : Int32)) <|
    (X_findSplit NF ob i5 (gA ob 2 (((i1 * (5 : Int32)) + i5) - (1 : Int32))) i2 i4).bind fun r3 =>
    if r3 < (0 : Int32) then
      some ob
    else
      if (gA ob 2 (((i1 * (5 : Int32)) + i5) - (1 : Int32))) < (8 : Int32) then
        (X_push ob (gA ob 2 (((i1 * (5 : Int32)) + i5) - (1 : Int32))) r3 i4).bind fun q7 =>
        k41 q7 i1 i2 r3 (i5 + (-1 : Int32))
      else
        k41 ob i1 i2 r3 (i5 + (-1 : Int32))
def X_expand_l41 (NF : Nat) : Nat → Rec → Int32 → Int32 → Int32 → Int32 → Option (Rec)
  | 0, _, _, _, _, _ => none
  | n + 1, ob, i1, i2, i4, i5 => X_expand_w41 NF (X_expand_l41 NF n) ob i1 i2 i4 i5
set_option maxRecDepth 65536 in
set_option maxHeartbeats 4000000 in
theorem X_expand_w41_p {C : Ctx} {top : Nat} {a : Nat} {H : List (Nat × Nat × Rec)} {res : Rec} {NF : Nat} (k41 : Rec → Int32 → Int32 → Int32 → Int32 → Option (Rec)) (hk41 : ∀ (ob : Rec) (i1 : Int32) (i2 : Int32) (i4 : Int32) (i5 : Int32), k41 ob i1 i2 i4 i5 = some res → Runs C B29 0 0 41 [vr a, vi i1, vi i2, vn, vi i4, vi i5, vn, vn] [] (top, (a, 12, ob) :: H) (Ans none (top, (a, 12, res) :: H))) (ob : Rec) (i1 : Int32) (i2 : Int32) (i4 : Int32) (i5 : Int32) (hf : X_expand_w41 NF k41 ob i1 i2 i4 i5 = some res) : Runs C B29 0 0 41 [vr a, vi i1, vi i2, vn, vi i4, vi i5, vn, vn] [] (top, (a, 12, ob) :: H) (Ans none (top, (a, 12, res) :: H)) := by
  delta X_expand_w41 at hf
  refine Runs.iload d29_41 rfl <| Runs.iconst d29_43 ci_1 <| ?_
  refine ite_el hf (fun hc1 hf => ?_) (fun hc1 hf => ?_)
  · refine Runs.icY (pc' := 108) d29_44 (tlt hc1).1 (by decide) <| ?_
    obtain rfl := Option.some.inj hf
    exact Runs.retV d29_108 rfl ⟨by decide, by decide⟩ ⟨rfl, rfl⟩
  · refine Runs.icN d29_44 (flt hc1).1 <| ?_
    refine Runs.aloadN d29_47 rfl <| Runs.getA d29_48 fA_2 w14 (by decide) <| Runs.iloadN d29_51 rfl <| Runs.iconst d29_52 ci_5 <| Runs.imul d29_53 <| Runs.iload d29_54 rfl <| Runs.iadd d29_56 <| Runs.iconst d29_57 ci_1 <| Runs.isub d29_58 <| ?_
    refine chk_el hf fun hi2 hf => ?_
    refine Runs.ialoadA d29_59 fA_2 (by decide) hi2 <| Runs.istore (P' := [vr a, vi i1, vi i2, vn, vi i4, vi i5, vi (gA ob 2 (((i1 * (5 : Int32)) + i5) - (1 : Int32))), vn]) d29_60 (by decide) rfl <| Runs.aloadN d29_62 rfl <| Runs.iload d29_63 rfl <| Runs.iload d29_65 rfl <| Runs.iloadN d29_67 rfl <| Runs.iload d29_68 rfl <| ?_
    refine bind_el hf fun r3 hg4 hf => ?_
    refine Runs.callP (N := B30) (W := 0) (as := [.int i5, .int (gA ob 2 (((i1 * (5 : Int32)) + i5) - (1 : Int32))), .int i2, .int i4]) (S' := []) d29_70 w171 w172 w173 rfl cw30 ar30 rk29_30_0 (by decide) rfl rfl (X_findSplit_pay hg4) <| ans1 <| Runs.istore (P' := [vr a, vi i1, vi i2, vn, vi i4, vi i5, vi (gA ob 2 (((i1 * (5 : Int32)) + i5) - (1 : Int32))), vi r3]) d29_73 (by decide) rfl <| Runs.iload d29_75 rfl <| ?_
    refine ite_el hf (fun hc5 hf => ?_) (fun hc5 hf => ?_)
    · refine Runs.ifN d29_77 (tlt hc5).2.1 <| ?_
      obtain rfl := Option.some.inj hf
      exact Runs.retV d29_80 rfl ⟨by decide, by decide⟩ ⟨rfl, rfl⟩
    · refine Runs.ifY (pc' := 81) d29_77 (flt hc5).2.1 (by decide) <| ?_
      refine Runs.iload d29_81 rfl <| Runs.bipush d29_83 cb_8 <| ?_
      refine ite_el hf (fun hc6 hf => ?_) (fun hc6 hf => ?_)
      · refine Runs.icN d29_85 (tlt hc6).2.1 <| ?_
        refine Runs.aloadN d29_88 rfl <| Runs.iload d29_89 rfl <| Runs.iload d29_91 rfl <| Runs.iload d29_93 rfl <| ?_
        refine bind_el hf fun q7 hg8 hf => ?_
        exact Runs.callP (N := B26) (W := 0) (as := [.int (gA ob 2 (((i1 * (5 : Int32)) + i5) - (1 : Int32))), .int r3, .int i4]) (S' := []) d29_95 w155 w156 w157 rfl cw26 ar26 rk29_26_0 (by decide) rfl rfl (X_push_pay hg8) <| ans0 <| Runs.iload d29_98 rfl <| Runs.istore (P' := [vr a, vi i1, vi i2, vn, vi r3, vi i5, vi (gA ob 2 (((i1 * (5 : Int32)) + i5) - (1 : Int32))), vi r3]) d29_100 (by decide) rfl <| Runs.iinc (P' := [vr a, vi i1, vi i2, vn, vi r3, vi (i5 + (-1 : Int32)), vi (gA ob 2 (((i1 * (5 : Int32)) + i5) - (1 : Int32))), vi r3]) d29_102 ci_m1 rfl (by decide) rfl <| Runs.goto (pc' := 41) d29_105 (by decide) <| Runs.forget [true, true, true, false, true, true, false, false] rfl <| hk41 q7 i1 i2 r3 (i5 + (-1 : Int32)) hf
      · refine Runs.icY (pc' := 98) d29_85 (flt hc6).2.1 (by decide) <| ?_
        exact Runs.iload d29_98 rfl <| Runs.istore (P' := [vr a, vi i1, vi i2, vn, vi r3, vi i5, vi (gA ob 2 (((i1 * (5 : Int32)) + i5) - (1 : Int32))), vi r3]) d29_100 (by decide) rfl <| Runs.iinc (P' := [vr a, vi i1, vi i2, vn, vi r3, vi (i5 + (-1 : Int32)), vi (gA ob 2 (((i1 * (5 : Int32)) + i5) - (1 : Int32))), vi r3]) d29_102 ci_m1 rfl (by decide) rfl <| Runs.goto (pc' := 41) d29_105 (by decide) <| Runs.forget [true, true, true, false, true, true, false, false] rfl <| hk41 ob i1 i2 r3 (i5 + (-1 : Int32)) hf
theorem X_expand_l41_p {C : Ctx} {top : Nat} {a : Nat} {H : List (Nat × Nat × Rec)} {res : Rec} {NF : Nat} (n : Nat) (ob : Rec) (i1 : Int32) (i2 : Int32) (i4 : Int32) (i5 : Int32) (hf : X_expand_l41 NF n ob i1 i2 i4 i5 = some res) : Runs C B29 0 0 41 [vr a, vi i1, vi i2, vn, vi i4, vi i5, vn, vn] [] (top, (a, 12, ob) :: H) (Ans none (top, (a, 12, res) :: H)) := by
  induction n generalizing ob i1 i2 i4 i5 with
  | zero => cases (show (none : Option (Rec)) = some res from hf)
  | succ n ih => exact X_expand_w41_p (X_expand_l41 NF n) (fun ob i1 i2 i4 i5 h => ih _ _ _ _ _ h) ob i1 i2 i4 i5 hf
def X_expand (NF : Nat) (ob : Rec) (i1 : Int32) (i2 : Int32) (i3 : Int32) : Option (Rec) :=
  (X_isUnit ob i1).bind fun r9 =>
  if r9 = (0 : Int32) then
    (X_fillWays NF ob i1 i2 i3).bind fun q12 =>
    chk (16 : Int32) i1 <|
    X_expand_l41 NF NF q12 i1 i2 i3 (gA q12 1 i1)
  else
    chk (80 : Int32) (i1 * (5 : Int32)) <|
    (X_push ob (gA ob 2 (i1 * (5 : Int32))) i2 i3).bind fun q16 =>
    some q16
set_option maxRecDepth 65536 in
set_option maxHeartbeats 4000000 in
theorem X_expand_p {C : Ctx} {top : Nat} {a : Nat} {H : List (Nat × Nat × Rec)} {res : Rec} {NF : Nat} (ob : Rec) (i1 : Int32) (i2 : Int32) (i3 : Int32) (hf : X_expand NF ob i1 i2 i3 = some res) : Runs C B29 0 0 0 [vr a, vi i1, vi i2, vi i3, vn, vn, vn, vn] [] (top, (a, 12, ob) :: H) (Ans none (top, (a, 12, res) :: H)) := by
  delta X_expand at hf
  refine Runs.aloadN d29_0 rfl <| Runs.iloadN d29_1 rfl <| ?_
  refine bind_el hf fun r9 hg10 hf => ?_
  refine Runs.callP (N := B9) (W := 0) (as := [.int i1]) (S' := []) d29_2 w81 w82 w83 rfl cw9 ar9 rk29_9_0 (by decide) rfl rfl (X_isUnit_pay hg10) <| ans1 <| ?_
  refine ite_el hf (fun hc11 hf => ?_) (fun hc11 hf => ?_)
  · refine Runs.ifY (pc' := 23) d29_5 (teq hc11).1 (by decide) <| ?_
    refine Runs.aloadN d29_23 rfl <| Runs.iloadN d29_24 rfl <| Runs.iloadN d29_25 rfl <| Runs.iloadN d29_26 rfl <| ?_
    refine bind_el hf fun q12 hg13 hf => ?_
    refine Runs.callP (N := B16) (W := 0) (as := [.int i1, .int i2, .int i3]) (S' := []) d29_27 w111 w112 w113 rfl cw16 ar16 rk29_16_0 (by decide) rfl rfl (X_fillWays_pay hg13) <| ans0 <| Runs.iloadN d29_30 rfl <| Runs.istore (P' := [vr a, vi i1, vi i2, vi i3, vi i3, vn, vn, vn]) d29_31 (by decide) rfl <| Runs.aloadN d29_33 rfl <| Runs.getA d29_34 fA_1 w12 (by decide) <| Runs.iloadN d29_37 rfl <| ?_
    refine chk_el hf fun hi14 hf => ?_
    exact Runs.ialoadA d29_38 fA_1 (by decide) hi14 <| Runs.istore (P' := [vr a, vi i1, vi i2, vi i3, vi i3, vi (gA q12 1 i1), vn, vn]) d29_39 (by decide) rfl <| Runs.forget [true, true, true, false, true, true, false, false] rfl <| X_expand_l41_p NF q12 i1 i2 i3 (gA q12 1 i1) hf
  · refine Runs.ifN d29_5 (feq hc11).1 <| ?_
    refine Runs.aloadN d29_8 rfl <| Runs.aloadN d29_9 rfl <| Runs.getA d29_10 fA_2 w14 (by decide) <| Runs.iloadN d29_13 rfl <| Runs.iconst d29_14 ci_5 <| Runs.imul d29_15 <| ?_
    refine chk_el hf fun hi15 hf => ?_
    refine Runs.ialoadA d29_16 fA_2 (by decide) hi15 <| Runs.iloadN d29_17 rfl <| Runs.iloadN d29_18 rfl <| ?_
    refine bind_el hf fun q16 hg17 hf => ?_
    obtain rfl := Option.some.inj hf
    exact Runs.callP (N := B26) (W := 0) (as := [.int (gA ob 2 (i1 * (5 : Int32))), .int i2, .int i3]) (S' := []) d29_19 w155 w156 w157 rfl cw26 ar26 rk29_26_0 (by decide) rfl rfl (X_push_pay hg17) <| ans0 <| Runs.retV d29_22 rfl ⟨by decide, by decide⟩ ⟨rfl, rfl⟩
theorem X_expand_pay {C : Ctx} {top : Nat} {a : Nat} {H : List (Nat × Nat × Rec)} {res : Rec} {NF : Nat} {ob : Rec} {i1 : Int32} {i2 : Int32} {i3 : Int32} (hf : X_expand NF ob i1 i2 i3 = some res) : Pays C B29 [.ref a, .int i1, .int i2, .int i3] (top, (a, 12, ob) :: H) (Ans none (top, (a, 12, res) :: H)) :=
  Pays.of pnK (Nat.le_of_ble_eq_true rfl) (P := [vr a, vi i1, vi i2, vi i3, vn, vn, vn, vn]) 4 rfl (X_expand_p ob i1 i2 i3 hf)
def X_extract_w22 (NF : Nat) (k22 : Rec → Int32 → Option (Rec)) (ob : Rec) (i1 : Int32) : Option (Rec) :=
  if i1 < (256 : Int32) then
    if (gI ob 7) = (0 : Int32) then
      some ob
    else
      chk (256 : Int32) ((gI ob 7) - (1 : Int32)) <|
      chk (256 : Int32) ((gI ob 7) - (1 : Int32)) <|
      chk (256 : Int32) ((gI ob 7) - (1 : Int32)) <|
      bind2 (X_findRule NF (sI ob 7 ((gI ob 7) - (1 : Int32))) (gA ob 9 ((gI ob 7) - (1 : Int32))) (gA ob 10 ((gI ob 7) - (1 : Int32))) (gA ob 11 ((gI ob 7) - (1 : Int32)))) fun r6 q7 =>
      if r6 < (0 : Int32) then
        some q7
      else
        if (gI q7 6) < (256 : Int32) then
          chk (256 : Int32) (gI q7 6) <|
          (X_expand NF (sI (sA q7 8 (gI q7 6) r6) 6 ((gI q7 6) + (1 : Int32))) r6 (gA ob 10 ((gI ob 7) - (1 : Int32))) (gA ob 11 ((gI ob 7) - (1 : Int32)))).bind fun q12 =>
          k22 q12 (i1 + (1 : Int32))
        else
          some q7
  else
    some ob
def X_extract_l22 (NF : Nat) : Nat → Rec → Int32 → Option (Rec)
  | 0, _, _ => none
  | n + 1, ob, i1 => X_extract_w22 NF (X_extract_l22 NF n) ob i1
set_option maxRecDepth 65536 in
set_option maxHeartbeats 4000000 in
theorem X_extract_w22_p {C : Ctx} {top : Nat} {a : Nat} {H : List (Nat × Nat × Rec)} {res : Rec} {NF : Nat} (k22 : Rec → Int32 → Option (Rec)) (hk22 : ∀ (ob : Rec) (i1 : Int32), k22 ob i1 = some res → Runs C B25 0 0 22 [vr a, vi i1, vn, vn, vn, vn] [] (top, (a, 12, ob) :: H) (Ans none (top, (a, 12, res) :: H))) (ob : Rec) (i1 : Int32) (hf : X_extract_w22 NF k22 ob i1 = some res) : Runs C B25 0 0 22 [vr a, vi i1, vn, vn, vn, vn] [] (top, (a, 12, ob) :: H) (Ans none (top, (a, 12, res) :: H)) := by
  delta X_extract_w22 at hf
  refine Runs.iloadN d25_22 rfl <| Runs.sipush d25_23 cs_256 <| ?_
  refine ite_el hf (fun hc1 hf => ?_) (fun hc1 hf => ?_)
  · refine Runs.icN d25_26 (tlt hc1).2.1 <| ?_
    refine Runs.aloadN d25_29 rfl <| Runs.getI d25_30 w48 fS_7 <| ?_
    refine ite_el hf (fun hc2 hf => ?_) (fun hc2 hf => ?_)
    · refine Runs.ifN d25_33 (teq hc2).2 <| ?_
      obtain rfl := Option.some.inj hf
      exact Runs.goto (pc' := 144) d25_36 (by decide) <| Runs.retV d25_144 rfl ⟨by decide, by decide⟩ ⟨rfl, rfl⟩
    · refine Runs.ifY (pc' := 39) d25_33 (feq hc2).2 (by decide) <| ?_
      refine Runs.aloadN d25_39 rfl <| Runs.dup d25_40 rfl <| Runs.getI d25_41 w48 fS_7 <| Runs.iconst d25_44 ci_1 <| Runs.isub d25_45 <| Runs.putI d25_46 w48 fS_7 (Or.inl w49) <| Runs.aloadN d25_49 rfl <| Runs.getA d25_50 fA_9 w28 (by decide) <| Runs.aloadN d25_53 rfl <| Runs.getI d25_54 w48 fS_7 <| ?_
      refine chk_el hf fun hi3 hf => ?_
      refine Runs.ialoadA d25_57 fA_9 (by decide) hi3 <| Runs.istoreN (P' := [vr a, vi i1, vi (gA ob 9 ((gI ob 7) - (1 : Int32))), vn, vn, vn]) d25_58 (by decide) rfl <| Runs.aloadN d25_59 rfl <| Runs.getA d25_60 fA_10 w30 (by decide) <| Runs.aloadN d25_63 rfl <| Runs.getI d25_64 w48 fS_7 <| ?_
      refine chk_el hf fun hi4 hf => ?_
      refine Runs.ialoadA d25_67 fA_10 (by decide) hi4 <| Runs.istoreN (P' := [vr a, vi i1, vi (gA ob 9 ((gI ob 7) - (1 : Int32))), vi (gA ob 10 ((gI ob 7) - (1 : Int32))), vn, vn]) d25_68 (by decide) rfl <| Runs.aloadN d25_69 rfl <| Runs.getA d25_70 fA_11 w32 (by decide) <| Runs.aloadN d25_73 rfl <| Runs.getI d25_74 w48 fS_7 <| ?_
      refine chk_el hf fun hi5 hf => ?_
      refine Runs.ialoadA d25_77 fA_11 (by decide) hi5 <| Runs.istore (P' := [vr a, vi i1, vi (gA ob 9 ((gI ob 7) - (1 : Int32))), vi (gA ob 10 ((gI ob 7) - (1 : Int32))), vi (gA ob 11 ((gI ob 7) - (1 : Int32))), vn]) d25_78 (by decide) rfl <| Runs.aloadN d25_80 rfl <| Runs.iloadN d25_81 rfl <| Runs.iloadN d25_82 rfl <| Runs.iload d25_83 rfl <| ?_
      refine bind2_el hf fun r6 q7 hg8 hf => ?_
      refine Runs.callP (N := B27) (W := 0) (as := [.int (gA ob 9 ((gI ob 7) - (1 : Int32))), .int (gA ob 10 ((gI ob 7) - (1 : Int32))), .int (gA ob 11 ((gI ob 7) - (1 : Int32)))]) (S' := []) d25_85 w159 w160 w161 rfl cw27 ar27 rk25_27_0 (by decide) rfl rfl (X_findRule_pay hg8) <| ans1 <| Runs.istore (P' := [vr a, vi i1, vi (gA ob 9 ((gI ob 7) - (1 : Int32))), vi (gA ob 10 ((gI ob 7) - (1 : Int32))), vi (gA ob 11 ((gI ob 7) - (1 : Int32))), vi r6]) d25_88 (by decide) rfl <| Runs.iload d25_90 rfl <| ?_
      refine ite_el hf (fun hc9 hf => ?_) (fun hc9 hf => ?_)
      · refine Runs.ifY (pc' := 144) d25_92 (tlt hc9).1 (by decide) <| ?_
        obtain rfl := Option.some.inj hf
        exact Runs.retV d25_144 rfl ⟨by decide, by decide⟩ ⟨rfl, rfl⟩
      · refine Runs.ifN d25_92 (flt hc9).1 <| ?_
        refine Runs.aloadN d25_95 rfl <| Runs.getI d25_96 w46 fS_6 <| Runs.sipush d25_99 cs_256 <| ?_
        refine ite_el hf (fun hc10 hf => ?_) (fun hc10 hf => ?_)
        · refine Runs.icY (pc' := 108) d25_102 (tlt hc10).1 (by decide) <| ?_
          refine Runs.aloadN d25_108 rfl <| Runs.getA d25_109 fA_8 w26 (by decide) <| Runs.aloadN d25_112 rfl <| Runs.getI d25_113 w46 fS_6 <| Runs.iload d25_116 rfl <| ?_
          refine chk_el hf fun hi11 hf => ?_
          refine Runs.iastoreA d25_118 fA_8 (by decide) hi11 <| Runs.aloadN d25_119 rfl <| Runs.dup d25_120 rfl <| Runs.getI d25_121 w46 fS_6 <| Runs.iconst d25_124 ci_1 <| Runs.iadd d25_125 <| Runs.putI d25_126 w46 fS_6 (Or.inl w47) <| Runs.aloadN d25_129 rfl <| Runs.iload d25_130 rfl <| Runs.iloadN d25_132 rfl <| Runs.iload d25_133 rfl <| ?_
          refine bind_el hf fun q12 hg13 hf => ?_
          exact Runs.callP (N := B29) (W := 0) (as := [.int r6, .int (gA ob 10 ((gI ob 7) - (1 : Int32))), .int (gA ob 11 ((gI ob 7) - (1 : Int32)))]) (S' := []) d25_135 w167 w168 w169 rfl cw29 ar29 rk25_29_0 (by decide) rfl rfl (X_expand_pay hg13) <| ans0 <| Runs.iinc (P' := [vr a, vi (i1 + (1 : Int32)), vi (gA ob 9 ((gI ob 7) - (1 : Int32))), vi (gA ob 10 ((gI ob 7) - (1 : Int32))), vi (gA ob 11 ((gI ob 7) - (1 : Int32))), vi r6]) d25_138 ci_1 rfl (by decide) rfl <| Runs.goto (pc' := 22) d25_141 (by decide) <| Runs.forget [true, true, false, false, false, false] rfl <| hk22 q12 (i1 + (1 : Int32)) hf
        · refine Runs.icN d25_102 (flt hc10).1 <| ?_
          obtain rfl := Option.some.inj hf
          exact Runs.goto (pc' := 144) d25_105 (by decide) <| Runs.retV d25_144 rfl ⟨by decide, by decide⟩ ⟨rfl, rfl⟩
  · refine Runs.icY (pc' := 144) d25_26 (flt hc1).2.1 (by decide) <| ?_
    obtain rfl := Option.some.inj hf
    exact Runs.retV d25_144 rfl ⟨by decide, by decide⟩ ⟨rfl, rfl⟩
theorem X_extract_l22_p {C : Ctx} {top : Nat} {a : Nat} {H : List (Nat × Nat × Rec)} {res : Rec} {NF : Nat} (n : Nat) (ob : Rec) (i1 : Int32) (hf : X_extract_l22 NF n ob i1 = some res) : Runs C B25 0 0 22 [vr a, vi i1, vn, vn, vn, vn] [] (top, (a, 12, ob) :: H) (Ans none (top, (a, 12, res) :: H)) := by
  induction n generalizing ob i1 with
  | zero => cases (show (none : Option (Rec)) = some res from hf)
  | succ n ih => exact X_extract_w22_p (X_extract_l22 NF n) (fun ob i1 h => ih _ _ h) ob i1 hf
def X_extract (NF : Nat) (ob : Rec) : Option (Rec) :=
  (X_push (sI (sI ob 7 (0 : Int32)) 6 (0 : Int32)) (0 : Int32) (0 : Int32) (gI ob 4)).bind fun q14 =>
  X_extract_l22 NF NF q14 (0 : Int32)
set_option maxRecDepth 65536 in
set_option maxHeartbeats 4000000 in
theorem X_extract_p {C : Ctx} {top : Nat} {a : Nat} {H : List (Nat × Nat × Rec)} {res : Rec} {NF : Nat} (ob : Rec) (hf : X_extract NF ob = some res) : Runs C B25 0 0 0 [vr a, vn, vn, vn, vn, vn] [] (top, (a, 12, ob) :: H) (Ans none (top, (a, 12, res) :: H)) := by
  delta X_extract at hf
  refine Runs.aloadN d25_0 rfl <| Runs.iconst d25_1 ci_0 <| Runs.putI d25_2 w48 fS_7 (Or.inl w49) <| Runs.aloadN d25_5 rfl <| Runs.iconst d25_6 ci_0 <| Runs.putI d25_7 w46 fS_6 (Or.inl w47) <| Runs.aloadN d25_10 rfl <| Runs.iconst d25_11 ci_0 <| Runs.iconst d25_12 ci_0 <| Runs.aloadN d25_13 rfl <| Runs.getI d25_14 w42 fS_4 <| ?_
  refine bind_el hf fun q14 hg15 hf => ?_
  exact Runs.callP (N := B26) (W := 0) (as := [.int (0 : Int32), .int (0 : Int32), .int (gI ob 4)]) (S' := []) d25_17 w155 w156 w157 rfl cw26 ar26 rk25_26_0 (by decide) rfl rfl (X_push_pay hg15) <| ans0 <| Runs.iconst d25_20 ci_0 <| Runs.istoreN (P' := [vr a, vi (0 : Int32), vn, vn, vn, vn]) d25_21 (by decide) rfl <| X_extract_l22_p NF q14 (0 : Int32) hf
theorem X_extract_pay {C : Ctx} {top : Nat} {a : Nat} {H : List (Nat × Nat × Rec)} {res : Rec} {NF : Nat} {ob : Rec} (hf : X_extract NF ob = some res) : Pays C B25 [.ref a] (top, (a, 12, ob) :: H) (Ans none (top, (a, 12, res) :: H)) :=
  Pays.of pnK (Nat.le_of_ble_eq_true rfl) (P := [vr a, vn, vn, vn, vn, vn]) 5 rfl (X_extract_p ob hf)
def X_parse (NF : Nat) (ob : Rec) : Option (Int32 × Rec) :=
  if (gI ob 2) = (1 : Int32) then
    if (gI ob 4) = (0 : Int32) then
      some ((0 : Int32), (sI (sI ob 6 (0 : Int32)) 5 (0 : Int32)))
    else
      (X_buildChart NF (sI ob 6 (0 : Int32))).bind fun q3 =>
      (X_idx q3 (0 : Int32) (0 : Int32) (gI q3 4)).bind fun r5 =>
      chk (2312 : Int32) r5 <|
      if (gA q3 4 r5) = (1 : Int32) then
        (X_extract NF (sI q3 5 (gA q3 4 r5))).bind fun q9 =>
        some ((gA q3 4 r5), q9)
      else
        some ((gA q3 4 r5), (sI q3 5 (gA q3 4 r5)))
  else
    some ((-1 : Int32), ob)
set_option maxRecDepth 65536 in
set_option maxHeartbeats 4000000 in
theorem X_parse_p {C : Ctx} {top : Nat} {a : Nat} {H : List (Nat × Nat × Rec)} {res : Int32 × Rec} {NF : Nat} (ob : Rec) (hf : X_parse NF ob = some res) : Runs C B11 0 0 0 [vr a, vn] [] (top, (a, 12, ob) :: H) (Ans (some (.int res.1)) (top, (a, 12, res.2) :: H)) := by
  delta X_parse at hf
  refine Runs.aloadN d11_0 rfl <| Runs.getI d11_1 w38 fS_2 <| Runs.iconst d11_4 ci_1 <| ?_
  refine ite_el hf (fun hc1 hf => ?_) (fun hc1 hf => ?_)
  · refine Runs.icY (pc' := 10) d11_5 (teq hc1).1 (by decide) <| ?_
    refine Runs.aloadN d11_10 rfl <| Runs.iconst d11_11 ci_0 <| Runs.putI d11_12 w46 fS_6 (Or.inl w47) <| Runs.aloadN d11_15 rfl <| Runs.getI d11_16 w42 fS_4 <| ?_
    refine ite_el hf (fun hc2 hf => ?_) (fun hc2 hf => ?_)
    · refine Runs.ifN d11_19 (teq hc2).2 <| ?_
      obtain rfl := Option.some.inj hf
      exact Runs.aloadN d11_22 rfl <| Runs.iconst d11_23 ci_0 <| Runs.putI d11_24 w44 fS_5 (Or.inl w45) <| Runs.iconst d11_27 ci_0 <| Runs.retI d11_28 rfl ⟨by decide, by decide⟩ ⟨rfl, rfl⟩
    · refine Runs.ifY (pc' := 29) d11_19 (feq hc2).2 (by decide) <| ?_
      refine Runs.aloadN d11_29 rfl <| ?_
      refine bind_el hf fun q3 hg4 hf => ?_
      refine Runs.callP (N := B12) (W := 0) (as := []) (S' := []) d11_30 w95 w96 w97 rfl cw12 ar12 rk11_12_0 (by decide) rfl rfl (X_buildChart_pay hg4) <| ans0 <| Runs.aloadN d11_33 rfl <| Runs.getA d11_34 fA_4 w18 (by decide) <| Runs.aloadN d11_37 rfl <| Runs.iconst d11_38 ci_0 <| Runs.iconst d11_39 ci_0 <| Runs.aloadN d11_40 rfl <| Runs.getI d11_41 w42 fS_4 <| ?_
      refine bind_el hf fun r5 hg6 hf => ?_
      refine Runs.callP (N := B14) (W := 1) (as := [.int (0 : Int32), .int (0 : Int32), .int (gI q3 4)]) (S' := [.ref (a + 1 + 4)]) d11_44 w103 w104 w105 rfl cw14 ar14 rk11_14_1 (by decide) rfl rfl (X_idx_pay hg6) <| ans1 <| ?_
      refine chk_el hf fun hi7 hf => ?_
      refine Runs.ialoadA d11_47 fA_4 (by decide) hi7 <| Runs.istoreN (P' := [vr a, vi (gA q3 4 r5)]) d11_48 (by decide) rfl <| Runs.aloadN d11_49 rfl <| Runs.iloadN d11_50 rfl <| Runs.putI d11_51 w44 fS_5 (Or.inl w45) <| Runs.iloadN d11_54 rfl <| Runs.iconst d11_55 ci_1 <| ?_
      refine ite_el hf (fun hc8 hf => ?_) (fun hc8 hf => ?_)
      · refine Runs.icN d11_56 (teq hc8).2 <| ?_
        refine Runs.aloadN d11_59 rfl <| ?_
        refine bind_el hf fun q9 hg10 hf => ?_
        obtain rfl := Option.some.inj hf
        exact Runs.callP (N := B25) (W := 0) (as := []) (S' := []) d11_60 w151 w152 w153 rfl cw25 ar25 rk11_25_0 (by decide) rfl rfl (X_extract_pay hg10) <| ans0 <| Runs.iloadN d11_63 rfl <| Runs.retI d11_64 rfl ⟨by decide, by decide⟩ ⟨rfl, rfl⟩
      · refine Runs.icY (pc' := 63) d11_56 (feq hc8).2 (by decide) <| ?_
        obtain rfl := Option.some.inj hf
        exact Runs.iloadN d11_63 rfl <| Runs.retI d11_64 rfl ⟨by decide, by decide⟩ ⟨rfl, rfl⟩
  · refine Runs.icN d11_5 (feq hc1).1 <| ?_
    obtain rfl := Option.some.inj hf
    exact Runs.iconst d11_8 ci_m1 <| Runs.retI d11_9 rfl ⟨by decide, by decide⟩ ⟨rfl, rfl⟩
theorem X_parse_pay {C : Ctx} {top : Nat} {a : Nat} {H : List (Nat × Nat × Rec)} {res : Int32 × Rec} {NF : Nat} {ob : Rec} (hf : X_parse NF ob = some res) : Pays C B11 [.ref a] (top, (a, 12, ob) :: H) (Ans (some (.int res.1)) (top, (a, 12, res.2) :: H)) :=
  Pays.of pnK (Nat.le_of_ble_eq_true rfl) (P := [vr a, vn]) 1 rfl (X_parse_p ob hf)
def X_treeCount (ob : Rec) : Option (Int32) :=
  some (gI ob 5)
set_option maxRecDepth 65536 in
set_option maxHeartbeats 4000000 in
theorem X_treeCount_p {C : Ctx} {top : Nat} {a : Nat} {H : List (Nat × Nat × Rec)} {ob : Rec} {res : Int32} (hf : X_treeCount ob = some res) : Runs C B22 0 0 0 [vr a] [] (top, (a, 12, ob) :: H) (Ans (some (.int res)) (top, (a, 12, ob) :: H)) := by
  delta X_treeCount at hf
  obtain rfl := Option.some.inj hf
  exact Runs.aloadN d22_0 rfl <| Runs.getI d22_1 w44 fS_5 <| Runs.retI d22_4 rfl ⟨by decide, by decide⟩ ⟨rfl, rfl⟩
theorem X_treeCount_pay {C : Ctx} {top : Nat} {a : Nat} {H : List (Nat × Nat × Rec)} {ob : Rec} {res : Int32} (hf : X_treeCount ob = some res) : Pays C B22 [.ref a] (top, (a, 12, ob) :: H) (Ans (some (.int res)) (top, (a, 12, ob) :: H)) :=
  Pays.of pnK (Nat.le_of_ble_eq_true rfl) (P := [vr a]) 0 rfl (X_treeCount_p hf)
def X_derivationLength (ob : Rec) : Option (Int32) :=
  if (gI ob 5) = (1 : Int32) then
    some (gI ob 6)
  else
    some (0 : Int32)
set_option maxRecDepth 65536 in
set_option maxHeartbeats 4000000 in
theorem X_derivationLength_p {C : Ctx} {top : Nat} {a : Nat} {H : List (Nat × Nat × Rec)} {ob : Rec} {res : Int32} (hf : X_derivationLength ob = some res) : Runs C B23 0 0 0 [vr a] [] (top, (a, 12, ob) :: H) (Ans (some (.int res)) (top, (a, 12, ob) :: H)) := by
  delta X_derivationLength at hf
  refine Runs.aloadN d23_0 rfl <| Runs.getI d23_1 w44 fS_5 <| Runs.iconst d23_4 ci_1 <| ?_
  refine ite_el hf (fun hc1 hf => ?_) (fun hc1 hf => ?_)
  · refine Runs.icY (pc' := 10) d23_5 (teq hc1).1 (by decide) <| ?_
    obtain rfl := Option.some.inj hf
    exact Runs.aloadN d23_10 rfl <| Runs.getI d23_11 w46 fS_6 <| Runs.retI d23_14 rfl ⟨by decide, by decide⟩ ⟨rfl, rfl⟩
  · refine Runs.icN d23_5 (feq hc1).1 <| ?_
    obtain rfl := Option.some.inj hf
    exact Runs.iconst d23_8 ci_0 <| Runs.retI d23_9 rfl ⟨by decide, by decide⟩ ⟨rfl, rfl⟩
theorem X_derivationLength_pay {C : Ctx} {top : Nat} {a : Nat} {H : List (Nat × Nat × Rec)} {ob : Rec} {res : Int32} (hf : X_derivationLength ob = some res) : Pays C B23 [.ref a] (top, (a, 12, ob) :: H) (Ans (some (.int res)) (top, (a, 12, ob) :: H)) :=
  Pays.of pnK (Nat.le_of_ble_eq_true rfl) (P := [vr a]) 0 rfl (X_derivationLength_p hf)
def X_derivationRule (ob : Rec) (i1 : Int32) : Option (Int32) :=
  if i1 < (0 : Int32) then
    some (-1 : Int32)
  else
    (X_derivationLength ob).bind fun r2 =>
    if i1 < r2 then
      chk (256 : Int32) i1 <|
      some (gA ob 8 i1)
    else
      some (-1 : Int32)
set_option maxRecDepth 65536 in
set_option maxHeartbeats 4000000 in
theorem X_derivationRule_p {C : Ctx} {top : Nat} {a : Nat} {H : List (Nat × Nat × Rec)} {ob : Rec} {res : Int32} (i1 : Int32) (hf : X_derivationRule ob i1 = some res) : Runs C B24 0 0 0 [vr a, vi i1] [] (top, (a, 12, ob) :: H) (Ans (some (.int res)) (top, (a, 12, ob) :: H)) := by
  delta X_derivationRule at hf
  refine Runs.iloadN d24_0 rfl <| ?_
  refine ite_el hf (fun hc1 hf => ?_) (fun hc1 hf => ?_)
  · refine Runs.ifY (pc' := 12) d24_1 (tlt hc1).1 (by decide) <| ?_
    obtain rfl := Option.some.inj hf
    exact Runs.iconst d24_12 ci_m1 <| Runs.retI d24_13 rfl ⟨by decide, by decide⟩ ⟨rfl, rfl⟩
  · refine Runs.ifN d24_1 (flt hc1).1 <| ?_
    refine Runs.iloadN d24_4 rfl <| Runs.aloadN d24_5 rfl <| ?_
    refine bind_el hf fun r2 hg3 hf => ?_
    refine Runs.callV (N := B23) (W := 1) (as := []) (S' := [.int i1]) d24_6 w150 w141 w142 w143 cw23 ar23 rk24_23_1 (by decide) rfl rfl (X_derivationLength_pay hg3) <| ans1 <| ?_
    refine ite_el hf (fun hc4 hf => ?_) (fun hc4 hf => ?_)
    · refine Runs.icY (pc' := 14) d24_9 (tlt hc4).1 (by decide) <| ?_
      refine Runs.aloadN d24_14 rfl <| Runs.getA d24_15 fA_8 w26 (by decide) <| Runs.iloadN d24_18 rfl <| ?_
      refine chk_el hf fun hi5 hf => ?_
      obtain rfl := Option.some.inj hf
      exact Runs.ialoadA d24_19 fA_8 (by decide) hi5 <| Runs.retI d24_20 rfl ⟨by decide, by decide⟩ ⟨rfl, rfl⟩
    · refine Runs.icN d24_9 (flt hc4).1 <| ?_
      obtain rfl := Option.some.inj hf
      exact Runs.iconst d24_12 ci_m1 <| Runs.retI d24_13 rfl ⟨by decide, by decide⟩ ⟨rfl, rfl⟩
theorem X_derivationRule_pay {C : Ctx} {top : Nat} {a : Nat} {H : List (Nat × Nat × Rec)} {ob : Rec} {res : Int32} {i1 : Int32} (hf : X_derivationRule ob i1 = some res) : Pays C B24 [.ref a, .int i1] (top, (a, 12, ob) :: H) (Ans (some (.int res)) (top, (a, 12, ob) :: H)) :=
  Pays.of pnK (Nat.le_of_ble_eq_true rfl) (P := [vr a, vi i1]) 0 rfl (X_derivationRule_p i1 hf)
def L_law_b397 (NF : Nat) (ob : Rec) (i7 : Int32) (t0 : Int32) (t1 : Int32) : Option (Int32) :=
  (X_derivationRule ob (i7 + (2 : Int32))).bind fun r56 =>
  if r56 = (-1 : Int32) then
    some (((t0 &&& t1) &&& (1 : Int32)) &&& 1)
  else
    some (((t0 &&& t1) &&& (0 : Int32)) &&& 1)
set_option maxRecDepth 65536 in
set_option maxHeartbeats 4000000 in
theorem L_law_b397_p {C : Ctx} {res : Int32} {NF : Nat} (ob : Rec) (i7 : Int32) (t0 : Int32) (t1 : Int32) (hf : L_law_b397 NF ob i7 t0 t1 = some res) : Runs C B0 13 3602 397 [vn, vn, vn, vn, vn, vn, vn, vi i7, vr C.2.2.1, vn, vn, vn, vn, vn] [.int t1, .int t0] (C.2.2.1 + 1 + 12, (C.2.2.1, 12, ob) :: []) (fun v _ => v = (some (.int res))) := by
  delta L_law_b397 at hf
  refine Runs.iand d0_397 <| Runs.istore (P' := [vn, vn, vn, vn, vn, vn, vn, vi i7, vr C.2.2.1, vi (t0 &&& t1), vn, vn, vn, vn]) d0_398 (by decide) rfl <| Runs.iload d0_400 rfl <| Runs.aload d0_402 rfl <| Runs.iload d0_404 rfl <| Runs.iconst d0_406 ci_2 <| Runs.iadd d0_407 <| ?_
  refine bind_el hf fun r56 hg57 hf => ?_
  refine Runs.callV (N := B24) (W := 1) (as := [.int (i7 + (2 : Int32))]) (S' := [.int (t0 &&& t1)]) d0_408 w145 w146 w147 w148 cw24 ar24 rk0_24_1 (by decide) rfl rfl (X_derivationRule_pay hg57) <| ans1 <| Runs.iconst d0_411 ci_m1 <| ?_
  refine ite_el hf (fun hc58 hf => ?_) (fun hc58 hf => ?_)
  · refine Runs.icN d0_412 (teq hc58).2 <| ?_
    obtain rfl := Option.some.inj hf
    exact Runs.iconst d0_415 ci_1 <| Runs.goto (pc' := 420) d0_416 (by decide) <| Runs.iand d0_420 <| Runs.istore (P' := [vn, vn, vn, vn, vn, vn, vn, vi i7, vr C.2.2.1, vi ((t0 &&& t1) &&& (1 : Int32)), vn, vn, vn, vn]) d0_421 (by decide) rfl <| Runs.goto (pc' := 461) d0_423 (by decide) <| Runs.iload d0_461 rfl <| Runs.retZ (y := (((t0 &&& t1) &&& (1 : Int32)) &&& 1)) d0_463 rfl ⟨by decide, by decide⟩ rfl rfl
  · refine Runs.icY (pc' := 419) d0_412 (feq hc58).2 (by decide) <| ?_
    obtain rfl := Option.some.inj hf
    exact Runs.iconst d0_419 ci_0 <| Runs.iand d0_420 <| Runs.istore (P' := [vn, vn, vn, vn, vn, vn, vn, vi i7, vr C.2.2.1, vi ((t0 &&& t1) &&& (0 : Int32)), vn, vn, vn, vn]) d0_421 (by decide) rfl <| Runs.goto (pc' := 461) d0_423 (by decide) <| Runs.iload d0_461 rfl <| Runs.retZ (y := (((t0 &&& t1) &&& (0 : Int32)) &&& 1)) d0_463 rfl ⟨by decide, by decide⟩ rfl rfl
def L_law_w336 (NF : Nat) (k336 : Rec → Int32 → Int32 → Int32 → Option (Int32)) (ob : Rec) (i7 : Int32) (i9 : Int32) (i13 : Int32) : Option (Int32) :=
  if i13 < (4 : Int32) then
    if i13 < (i7 + (1 : Int32)) then
      (X_derivationRule ob i13).bind fun r50 =>
      if r50 = (0 : Int32) then
        k336 ob i7 (i9 &&& (1 : Int32)) (i13 + (1 : Int32))
      else
        k336 ob i7 (i9 &&& (0 : Int32)) (i13 + (1 : Int32))
    else
      k336 ob i7 i9 (i13 + (1 : Int32))
  else
    (X_derivationRule ob (i7 + (1 : Int32))).bind fun r53 =>
    if r53 = (1 : Int32) then
      L_law_b397 NF ob i7 i9 (1 : Int32)
    else
      L_law_b397 NF ob i7 i9 (0 : Int32)
def L_law_l336 (NF : Nat) : Nat → Rec → Int32 → Int32 → Int32 → Option (Int32)
  | 0, _, _, _, _ => none
  | n + 1, ob, i7, i9, i13 => L_law_w336 NF (L_law_l336 NF n) ob i7 i9 i13
set_option maxRecDepth 65536 in
set_option maxHeartbeats 4000000 in
theorem L_law_w336_p {C : Ctx} {res : Int32} {NF : Nat} (k336 : Rec → Int32 → Int32 → Int32 → Option (Int32)) (hk336 : ∀ (ob : Rec) (i7 : Int32) (i9 : Int32) (i13 : Int32), k336 ob i7 i9 i13 = some res → Runs C B0 13 3602 336 [vn, vn, vn, vn, vn, vn, vn, vi i7, vr C.2.2.1, vi i9, vn, vn, vn, vi i13] [] (C.2.2.1 + 1 + 12, (C.2.2.1, 12, ob) :: []) (fun v _ => v = (some (.int res)))) (ob : Rec) (i7 : Int32) (i9 : Int32) (i13 : Int32) (hf : L_law_w336 NF k336 ob i7 i9 i13 = some res) : Runs C B0 13 3602 336 [vn, vn, vn, vn, vn, vn, vn, vi i7, vr C.2.2.1, vi i9, vn, vn, vn, vi i13] [] (C.2.2.1 + 1 + 12, (C.2.2.1, 12, ob) :: []) (fun v _ => v = (some (.int res))) := by
  delta L_law_w336 at hf
  refine Runs.iload d0_336 rfl <| Runs.iconst d0_338 ci_4 <| ?_
  refine ite_el hf (fun hc48 hf => ?_) (fun hc48 hf => ?_)
  · refine Runs.icN d0_339 (tlt hc48).2.1 <| ?_
    refine Runs.iload d0_342 rfl <| Runs.iload d0_344 rfl <| Runs.iconst d0_346 ci_1 <| Runs.iadd d0_347 <| ?_
    refine ite_el hf (fun hc49 hf => ?_) (fun hc49 hf => ?_)
    · refine Runs.icN d0_348 (tlt hc49).2.1 <| ?_
      refine Runs.iload d0_351 rfl <| Runs.aload d0_353 rfl <| Runs.iload d0_355 rfl <| ?_
      refine bind_el hf fun r50 hg51 hf => ?_
      refine Runs.callV (N := B24) (W := 1) (as := [.int i13]) (S' := [.int i9]) d0_357 w145 w146 w147 w148 cw24 ar24 rk0_24_1 (by decide) rfl rfl (X_derivationRule_pay hg51) <| ans1 <| ?_
      refine ite_el hf (fun hc52 hf => ?_) (fun hc52 hf => ?_)
      · refine Runs.ifN d0_360 (teq hc52).2 <| ?_
        exact Runs.iconst d0_363 ci_1 <| Runs.goto (pc' := 368) d0_364 (by decide) <| Runs.iand d0_368 <| Runs.istore (P' := [vn, vn, vn, vn, vn, vn, vn, vi i7, vr C.2.2.1, vi (i9 &&& (1 : Int32)), vn, vn, vn, vi i13]) d0_369 (by decide) rfl <| Runs.iinc (P' := [vn, vn, vn, vn, vn, vn, vn, vi i7, vr C.2.2.1, vi (i9 &&& (1 : Int32)), vn, vn, vn, vi (i13 + (1 : Int32))]) d0_371 ci_1 rfl (by decide) rfl <| Runs.goto (pc' := 336) d0_374 (by decide) <| hk336 ob i7 (i9 &&& (1 : Int32)) (i13 + (1 : Int32)) hf
      · refine Runs.ifY (pc' := 367) d0_360 (feq hc52).2 (by decide) <| ?_
        exact Runs.iconst d0_367 ci_0 <| Runs.iand d0_368 <| Runs.istore (P' := [vn, vn, vn, vn, vn, vn, vn, vi i7, vr C.2.2.1, vi (i9 &&& (0 : Int32)), vn, vn, vn, vi i13]) d0_369 (by decide) rfl <| Runs.iinc (P' := [vn, vn, vn, vn, vn, vn, vn, vi i7, vr C.2.2.1, vi (i9 &&& (0 : Int32)), vn, vn, vn, vi (i13 + (1 : Int32))]) d0_371 ci_1 rfl (by decide) rfl <| Runs.goto (pc' := 336) d0_374 (by decide) <| hk336 ob i7 (i9 &&& (0 : Int32)) (i13 + (1 : Int32)) hf
    · refine Runs.icY (pc' := 371) d0_348 (flt hc49).2.1 (by decide) <| ?_
      exact Runs.iinc (P' := [vn, vn, vn, vn, vn, vn, vn, vi i7, vr C.2.2.1, vi i9, vn, vn, vn, vi (i13 + (1 : Int32))]) d0_371 ci_1 rfl (by decide) rfl <| Runs.goto (pc' := 336) d0_374 (by decide) <| hk336 ob i7 i9 (i13 + (1 : Int32)) hf
  · refine Runs.icY (pc' := 377) d0_339 (flt hc48).2.1 (by decide) <| ?_
    refine Runs.iload d0_377 rfl <| Runs.aload d0_379 rfl <| Runs.iload d0_381 rfl <| Runs.iconst d0_383 ci_1 <| Runs.iadd d0_384 <| ?_
    refine bind_el hf fun r53 hg54 hf => ?_
    refine Runs.callV (N := B24) (W := 1) (as := [.int (i7 + (1 : Int32))]) (S' := [.int i9]) d0_385 w145 w146 w147 w148 cw24 ar24 rk0_24_1 (by decide) rfl rfl (X_derivationRule_pay hg54) <| ans1 <| Runs.iconst d0_388 ci_1 <| ?_
    refine ite_el hf (fun hc55 hf => ?_) (fun hc55 hf => ?_)
    · refine Runs.icN d0_389 (teq hc55).2 <| ?_
      exact Runs.iconst d0_392 ci_1 <| Runs.goto (pc' := 397) d0_393 (by decide) <| Runs.forget [false, false, false, false, false, false, false, true, true, false, false, false, false, false] rfl <| L_law_b397_p ob i7 i9 (1 : Int32) hf
    · refine Runs.icY (pc' := 396) d0_389 (feq hc55).2 (by decide) <| ?_
      exact Runs.iconst d0_396 ci_0 <| Runs.forget [false, false, false, false, false, false, false, true, true, false, false, false, false, false] rfl <| L_law_b397_p ob i7 i9 (0 : Int32) hf
theorem L_law_l336_p {C : Ctx} {res : Int32} {NF : Nat} (n : Nat) (ob : Rec) (i7 : Int32) (i9 : Int32) (i13 : Int32) (hf : L_law_l336 NF n ob i7 i9 i13 = some res) : Runs C B0 13 3602 336 [vn, vn, vn, vn, vn, vn, vn, vi i7, vr C.2.2.1, vi i9, vn, vn, vn, vi i13] [] (C.2.2.1 + 1 + 12, (C.2.2.1, 12, ob) :: []) (fun v _ => v = (some (.int res))) := by
  induction n generalizing ob i7 i9 i13 with
  | zero => cases (show (none : Option (Int32)) = some res from hf)
  | succ n ih => exact L_law_w336_p (L_law_l336 NF n) (fun ob i7 i9 i13 h => ih _ _ _ _ h) ob i7 i9 i13 hf
def L_law_b438 (NF : Nat) (ob : Rec) (t0 : Int32) (t1 : Int32) : Option (Int32) :=
  (X_derivationRule ob (0 : Int32)).bind fun r59 =>
  if r59 = (-1 : Int32) then
    some (((t0 &&& t1) &&& (1 : Int32)) &&& 1)
  else
    some (((t0 &&& t1) &&& (0 : Int32)) &&& 1)
set_option maxRecDepth 65536 in
set_option maxHeartbeats 4000000 in
theorem L_law_b438_p {C : Ctx} {res : Int32} {NF : Nat} (ob : Rec) (t0 : Int32) (t1 : Int32) (hf : L_law_b438 NF ob t0 t1 = some res) : Runs C B0 13 3602 438 [vn, vn, vn, vn, vn, vn, vn, vn, vr C.2.2.1, vn, vn, vn, vn, vn] [.int t1, .int t0] (C.2.2.1 + 1 + 12, (C.2.2.1, 12, ob) :: []) (fun v _ => v = (some (.int res))) := by
  delta L_law_b438 at hf
  refine Runs.iand d0_438 <| Runs.istore (P' := [vn, vn, vn, vn, vn, vn, vn, vn, vr C.2.2.1, vi (t0 &&& t1), vn, vn, vn, vn]) d0_439 (by decide) rfl <| Runs.iload d0_441 rfl <| Runs.aload d0_443 rfl <| Runs.iconst d0_445 ci_0 <| ?_
  refine bind_el hf fun r59 hg60 hf => ?_
  refine Runs.callV (N := B24) (W := 1) (as := [.int (0 : Int32)]) (S' := [.int (t0 &&& t1)]) d0_446 w145 w146 w147 w148 cw24 ar24 rk0_24_1 (by decide) rfl rfl (X_derivationRule_pay hg60) <| ans1 <| Runs.iconst d0_449 ci_m1 <| ?_
  refine ite_el hf (fun hc61 hf => ?_) (fun hc61 hf => ?_)
  · refine Runs.icN d0_450 (teq hc61).2 <| ?_
    obtain rfl := Option.some.inj hf
    exact Runs.iconst d0_453 ci_1 <| Runs.goto (pc' := 458) d0_454 (by decide) <| Runs.iand d0_458 <| Runs.istore (P' := [vn, vn, vn, vn, vn, vn, vn, vn, vr C.2.2.1, vi ((t0 &&& t1) &&& (1 : Int32)), vn, vn, vn, vn]) d0_459 (by decide) rfl <| Runs.iload d0_461 rfl <| Runs.retZ (y := (((t0 &&& t1) &&& (1 : Int32)) &&& 1)) d0_463 rfl ⟨by decide, by decide⟩ rfl rfl
  · refine Runs.icY (pc' := 457) d0_450 (feq hc61).2 (by decide) <| ?_
    obtain rfl := Option.some.inj hf
    exact Runs.iconst d0_457 ci_0 <| Runs.iand d0_458 <| Runs.istore (P' := [vn, vn, vn, vn, vn, vn, vn, vn, vr C.2.2.1, vi ((t0 &&& t1) &&& (0 : Int32)), vn, vn, vn, vn]) d0_459 (by decide) rfl <| Runs.iload d0_461 rfl <| Runs.retZ (y := (((t0 &&& t1) &&& (0 : Int32)) &&& 1)) d0_463 rfl ⟨by decide, by decide⟩ rfl rfl
def L_law_b297 (NF : Nat) (ob : Rec) (i4 : Int32) (i6 : Int32) (i7 : Int32) (t0 : Int32) (t1 : Int32) : Option (Int32) :=
  (X_derivationLength ob).bind fun r43 =>
  if i6 = i4 then
    if r43 = (i7 + (2 : Int32)) then
      L_law_l336 NF NF ob i7 ((t0 &&& t1) &&& (1 : Int32)) (0 : Int32)
    else
      L_law_l336 NF NF ob i7 ((t0 &&& t1) &&& (0 : Int32)) (0 : Int32)
  else
    if r43 = (0 : Int32) then
      L_law_b438 NF ob (t0 &&& t1) (1 : Int32)
    else
      L_law_b438 NF ob (t0 &&& t1) (0 : Int32)
set_option maxRecDepth 65536 in
set_option maxHeartbeats 4000000 in
theorem L_law_b297_p {C : Ctx} {res : Int32} {NF : Nat} (ob : Rec) (i4 : Int32) (i6 : Int32) (i7 : Int32) (t0 : Int32) (t1 : Int32) (hf : L_law_b297 NF ob i4 i6 i7 t0 t1 = some res) : Runs C B0 13 3602 297 [vn, vn, vn, vn, vi i4, vn, vi i6, vi i7, vr C.2.2.1, vn, vn, vn, vn, vn] [.int t1, .int t0] (C.2.2.1 + 1 + 12, (C.2.2.1, 12, ob) :: []) (fun v _ => v = (some (.int res))) := by
  delta L_law_b297 at hf
  refine Runs.iand d0_297 <| Runs.istore (P' := [vn, vn, vn, vn, vi i4, vn, vi i6, vi i7, vr C.2.2.1, vi (t0 &&& t1), vn, vn, vn, vn]) d0_298 (by decide) rfl <| Runs.aload d0_300 rfl <| ?_
  refine bind_el hf fun r43 hg44 hf => ?_
  refine Runs.callV (N := B23) (W := 0) (as := []) (S' := []) d0_302 w140 w141 w142 w143 cw23 ar23 rk0_23_0 (by decide) rfl rfl (X_derivationLength_pay hg44) <| ans1 <| Runs.istore (P' := [vn, vn, vn, vn, vi i4, vn, vi i6, vi i7, vr C.2.2.1, vi (t0 &&& t1), vn, vn, vi r43, vn]) d0_305 (by decide) rfl <| Runs.iload d0_307 rfl <| Runs.iload d0_309 rfl <| ?_
  refine ite_el hf (fun hc45 hf => ?_) (fun hc45 hf => ?_)
  · refine Runs.icN d0_311 (teq hc45).2 <| ?_
    refine Runs.iload d0_314 rfl <| Runs.iload d0_316 rfl <| Runs.iload d0_318 rfl <| Runs.iconst d0_320 ci_2 <| Runs.iadd d0_321 <| ?_
    refine ite_el hf (fun hc46 hf => ?_) (fun hc46 hf => ?_)
    · refine Runs.icN d0_322 (teq hc46).2 <| ?_
      exact Runs.iconst d0_325 ci_1 <| Runs.goto (pc' := 330) d0_326 (by decide) <| Runs.iand d0_330 <| Runs.istore (P' := [vn, vn, vn, vn, vi i4, vn, vi i6, vi i7, vr C.2.2.1, vi ((t0 &&& t1) &&& (1 : Int32)), vn, vn, vi r43, vn]) d0_331 (by decide) rfl <| Runs.iconst d0_333 ci_0 <| Runs.istore (P' := [vn, vn, vn, vn, vi i4, vn, vi i6, vi i7, vr C.2.2.1, vi ((t0 &&& t1) &&& (1 : Int32)), vn, vn, vi r43, vi (0 : Int32)]) d0_334 (by decide) rfl <| Runs.forget [false, false, false, false, false, false, false, true, true, true, false, false, false, true] rfl <| L_law_l336_p NF ob i7 ((t0 &&& t1) &&& (1 : Int32)) (0 : Int32) hf
    · refine Runs.icY (pc' := 329) d0_322 (feq hc46).2 (by decide) <| ?_
      exact Runs.iconst d0_329 ci_0 <| Runs.iand d0_330 <| Runs.istore (P' := [vn, vn, vn, vn, vi i4, vn, vi i6, vi i7, vr C.2.2.1, vi ((t0 &&& t1) &&& (0 : Int32)), vn, vn, vi r43, vn]) d0_331 (by decide) rfl <| Runs.iconst d0_333 ci_0 <| Runs.istore (P' := [vn, vn, vn, vn, vi i4, vn, vi i6, vi i7, vr C.2.2.1, vi ((t0 &&& t1) &&& (0 : Int32)), vn, vn, vi r43, vi (0 : Int32)]) d0_334 (by decide) rfl <| Runs.forget [false, false, false, false, false, false, false, true, true, true, false, false, false, true] rfl <| L_law_l336_p NF ob i7 ((t0 &&& t1) &&& (0 : Int32)) (0 : Int32) hf
  · refine Runs.icY (pc' := 426) d0_311 (feq hc45).2 (by decide) <| ?_
    refine Runs.iload d0_426 rfl <| Runs.iload d0_428 rfl <| ?_
    refine ite_el hf (fun hc47 hf => ?_) (fun hc47 hf => ?_)
    · refine Runs.ifN d0_430 (teq hc47).2 <| ?_
      exact Runs.iconst d0_433 ci_1 <| Runs.goto (pc' := 438) d0_434 (by decide) <| Runs.forget [false, false, false, false, false, false, false, false, true, false, false, false, false, false] rfl <| L_law_b438_p ob (t0 &&& t1) (1 : Int32) hf
    · refine Runs.ifY (pc' := 437) d0_430 (feq hc47).2 (by decide) <| ?_
      exact Runs.iconst d0_437 ci_0 <| Runs.forget [false, false, false, false, false, false, false, false, true, false, false, false, false, false] rfl <| L_law_b438_p ob (t0 &&& t1) (0 : Int32) hf
def L_law_b277 (NF : Nat) (ob : Rec) (i4 : Int32) (i6 : Int32) (i7 : Int32) (i10 : Int32) (t0 : Int32) (t1 : Int32) : Option (Int32) :=
  (X_treeCount ob).bind fun r40 =>
  if r40 = i10 then
    L_law_b297 NF ob i4 i6 i7 (t0 &&& t1) (1 : Int32)
  else
    L_law_b297 NF ob i4 i6 i7 (t0 &&& t1) (0 : Int32)
set_option maxRecDepth 65536 in
set_option maxHeartbeats 4000000 in
theorem L_law_b277_p {C : Ctx} {res : Int32} {NF : Nat} (ob : Rec) (i4 : Int32) (i6 : Int32) (i7 : Int32) (i10 : Int32) (t0 : Int32) (t1 : Int32) (hf : L_law_b277 NF ob i4 i6 i7 i10 t0 t1 = some res) : Runs C B0 13 3602 277 [vn, vn, vn, vn, vi i4, vn, vi i6, vi i7, vr C.2.2.1, vn, vi i10, vn, vn, vn] [.int t1, .int t0] (C.2.2.1 + 1 + 12, (C.2.2.1, 12, ob) :: []) (fun v _ => v = (some (.int res))) := by
  delta L_law_b277 at hf
  refine Runs.iand d0_277 <| Runs.istore (P' := [vn, vn, vn, vn, vi i4, vn, vi i6, vi i7, vr C.2.2.1, vi (t0 &&& t1), vi i10, vn, vn, vn]) d0_278 (by decide) rfl <| Runs.iload d0_280 rfl <| Runs.aload d0_282 rfl <| ?_
  refine bind_el hf fun r40 hg41 hf => ?_
  refine Runs.callV (N := B22) (W := 1) (as := []) (S' := [.int (t0 &&& t1)]) d0_284 w135 w136 w137 w138 cw22 ar22 rk0_22_1 (by decide) rfl rfl (X_treeCount_pay hg41) <| ans1 <| Runs.iload d0_287 rfl <| ?_
  refine ite_el hf (fun hc42 hf => ?_) (fun hc42 hf => ?_)
  · refine Runs.icN d0_289 (teq hc42).2 <| ?_
    exact Runs.iconst d0_292 ci_1 <| Runs.goto (pc' := 297) d0_293 (by decide) <| Runs.forget [false, false, false, false, true, false, true, true, true, false, false, false, false, false] rfl <| L_law_b297_p ob i4 i6 i7 (t0 &&& t1) (1 : Int32) hf
  · refine Runs.icY (pc' := 296) d0_289 (feq hc42).2 (by decide) <| ?_
    exact Runs.iconst d0_296 ci_0 <| Runs.forget [false, false, false, false, true, false, true, true, true, false, false, false, false, false] rfl <| L_law_b297_p ob i4 i6 i7 (t0 &&& t1) (0 : Int32) hf
def L_law_b254 (NF : Nat) (ob : Rec) (i4 : Int32) (i6 : Int32) (i7 : Int32) (i9 : Int32) (t0 : Int32) : Option (Int32) :=
  bind2 (X_parse NF ob) fun r36 q37 =>
  if r36 = t0 then
    L_law_b277 NF q37 i4 i6 i7 t0 i9 (1 : Int32)
  else
    L_law_b277 NF q37 i4 i6 i7 t0 i9 (0 : Int32)
set_option maxRecDepth 65536 in
set_option maxHeartbeats 4000000 in
theorem L_law_b254_p {C : Ctx} {res : Int32} {NF : Nat} (ob : Rec) (i4 : Int32) (i6 : Int32) (i7 : Int32) (i9 : Int32) (t0 : Int32) (hf : L_law_b254 NF ob i4 i6 i7 i9 t0 = some res) : Runs C B0 13 3602 254 [vn, vn, vn, vn, vi i4, vn, vi i6, vi i7, vr C.2.2.1, vi i9, vn, vn, vn, vn] [.int t0] (C.2.2.1 + 1 + 12, (C.2.2.1, 12, ob) :: []) (fun v _ => v = (some (.int res))) := by
  delta L_law_b254 at hf
  refine Runs.istore (P' := [vn, vn, vn, vn, vi i4, vn, vi i6, vi i7, vr C.2.2.1, vi i9, vi t0, vn, vn, vn]) d0_254 (by decide) rfl <| Runs.aload d0_256 rfl <| ?_
  refine bind2_el hf fun r36 q37 hg38 hf => ?_
  refine Runs.callV (N := B11) (W := 0) (as := []) (S' := []) d0_258 w90 w91 w92 w93 cw11 ar11 rk0_11_0 (by decide) rfl rfl (X_parse_pay hg38) <| ans1 <| Runs.istore (P' := [vn, vn, vn, vn, vi i4, vn, vi i6, vi i7, vr C.2.2.1, vi i9, vi t0, vi r36, vn, vn]) d0_261 (by decide) rfl <| Runs.iload d0_263 rfl <| Runs.iload d0_265 rfl <| Runs.iload d0_267 rfl <| ?_
  refine ite_el hf (fun hc39 hf => ?_) (fun hc39 hf => ?_)
  · refine Runs.icN d0_269 (teq hc39).2 <| ?_
    exact Runs.iconst d0_272 ci_1 <| Runs.goto (pc' := 277) d0_273 (by decide) <| Runs.forget [false, false, false, false, true, false, true, true, true, false, true, false, false, false] rfl <| L_law_b277_p q37 i4 i6 i7 t0 i9 (1 : Int32) hf
  · refine Runs.icY (pc' := 276) d0_269 (feq hc39).2 (by decide) <| ?_
    exact Runs.iconst d0_276 ci_0 <| Runs.forget [false, false, false, false, true, false, true, true, true, false, true, false, false, false] rfl <| L_law_b277_p q37 i4 i6 i7 t0 i9 (0 : Int32) hf
def L_law_b239 (NF : Nat) (ob : Rec) (i4 : Int32) (i6 : Int32) (i7 : Int32) (t0 : Int32) (t1 : Int32) : Option (Int32) :=
  if i6 = i4 then
    L_law_b254 NF ob i4 i6 i7 (t0 &&& t1) (1 : Int32)
  else
    L_law_b254 NF ob i4 i6 i7 (t0 &&& t1) (0 : Int32)
set_option maxRecDepth 65536 in
set_option maxHeartbeats 4000000 in
theorem L_law_b239_p {C : Ctx} {res : Int32} {NF : Nat} (ob : Rec) (i4 : Int32) (i6 : Int32) (i7 : Int32) (t0 : Int32) (t1 : Int32) (hf : L_law_b239 NF ob i4 i6 i7 t0 t1 = some res) : Runs C B0 13 3602 239 [vn, vn, vn, vn, vi i4, vn, vi i6, vi i7, vr C.2.2.1, vn, vn, vn, vn, vn] [.int t1, .int t0] (C.2.2.1 + 1 + 12, (C.2.2.1, 12, ob) :: []) (fun v _ => v = (some (.int res))) := by
  delta L_law_b239 at hf
  refine Runs.iand d0_239 <| Runs.istore (P' := [vn, vn, vn, vn, vi i4, vn, vi i6, vi i7, vr C.2.2.1, vi (t0 &&& t1), vn, vn, vn, vn]) d0_240 (by decide) rfl <| Runs.iload d0_242 rfl <| Runs.iload d0_244 rfl <| ?_
  refine ite_el hf (fun hc35 hf => ?_) (fun hc35 hf => ?_)
  · refine Runs.icN d0_246 (teq hc35).2 <| ?_
    exact Runs.iconst d0_249 ci_1 <| Runs.goto (pc' := 254) d0_250 (by decide) <| L_law_b254_p ob i4 i6 i7 (t0 &&& t1) (1 : Int32) hf
  · refine Runs.icY (pc' := 253) d0_246 (feq hc35).2 (by decide) <| ?_
    exact Runs.iconst d0_253 ci_0 <| L_law_b254_p ob i4 i6 i7 (t0 &&& t1) (0 : Int32) hf
def L_law_w183 (NF : Nat) (k183 : Rec → Int32 → Int32 → Int32 → Int32 → Int32 → Option (Int32)) (ob : Rec) (i4 : Int32) (i6 : Int32) (i7 : Int32) (i9 : Int32) (i10 : Int32) : Option (Int32) :=
  if i10 < (3 : Int32) then
    if i10 < i7 then
      bind2 (X_feed ob i4) fun r27 q28 =>
      if r27 = (0 : Int32) then
        k183 q28 i4 i6 i7 (i9 &&& (1 : Int32)) (i10 + (1 : Int32))
      else
        k183 q28 i4 i6 i7 (i9 &&& (0 : Int32)) (i10 + (1 : Int32))
    else
      k183 ob i4 i6 i7 i9 (i10 + (1 : Int32))
  else
    bind2 (X_feed ob i6) fun r31 q32 =>
    if r31 = (0 : Int32) then
      L_law_b239 NF q32 i4 i6 i7 i9 (1 : Int32)
    else
      L_law_b239 NF q32 i4 i6 i7 i9 (0 : Int32)
def L_law_l183 (NF : Nat) : Nat → Rec → Int32 → Int32 → Int32 → Int32 → Int32 → Option (Int32)
  | 0, _, _, _, _, _, _ => none
  | n + 1, ob, i4, i6, i7, i9, i10 => L_law_w183 NF (L_law_l183 NF n) ob i4 i6 i7 i9 i10
set_option maxRecDepth 65536 in
set_option maxHeartbeats 4000000 in
theorem L_law_w183_p {C : Ctx} {res : Int32} {NF : Nat} (k183 : Rec → Int32 → Int32 → Int32 → Int32 → Int32 → Option (Int32)) (hk183 : ∀ (ob : Rec) (i4 : Int32) (i6 : Int32) (i7 : Int32) (i9 : Int32) (i10 : Int32), k183 ob i4 i6 i7 i9 i10 = some res → Runs C B0 13 3602 183 [vn, vn, vn, vn, vi i4, vn, vi i6, vi i7, vr C.2.2.1, vi i9, vi i10, vn, vn, vn] [] (C.2.2.1 + 1 + 12, (C.2.2.1, 12, ob) :: []) (fun v _ => v = (some (.int res)))) (ob : Rec) (i4 : Int32) (i6 : Int32) (i7 : Int32) (i9 : Int32) (i10 : Int32) (hf : L_law_w183 NF k183 ob i4 i6 i7 i9 i10 = some res) : Runs C B0 13 3602 183 [vn, vn, vn, vn, vi i4, vn, vi i6, vi i7, vr C.2.2.1, vi i9, vi i10, vn, vn, vn] [] (C.2.2.1 + 1 + 12, (C.2.2.1, 12, ob) :: []) (fun v _ => v = (some (.int res))) := by
  delta L_law_w183 at hf
  refine Runs.iload d0_183 rfl <| Runs.iconst d0_185 ci_3 <| ?_
  refine ite_el hf (fun hc25 hf => ?_) (fun hc25 hf => ?_)
  · refine Runs.icN d0_186 (tlt hc25).2.1 <| ?_
    refine Runs.iload d0_189 rfl <| Runs.iload d0_191 rfl <| ?_
    refine ite_el hf (fun hc26 hf => ?_) (fun hc26 hf => ?_)
    · refine Runs.icN d0_193 (tlt hc26).2.1 <| ?_
      refine Runs.iload d0_196 rfl <| Runs.aload d0_198 rfl <| Runs.iload d0_200 rfl <| ?_
      refine bind2_el hf fun r27 q28 hg29 hf => ?_
      refine Runs.callV (N := B10) (W := 1) (as := [.int i4]) (S' := [.int i9]) d0_202 w85 w86 w87 w88 cw10 ar10 rk0_10_1 (by decide) rfl rfl (X_feed_pay hg29) <| ans1 <| ?_
      refine ite_el hf (fun hc30 hf => ?_) (fun hc30 hf => ?_)
      · refine Runs.ifN d0_205 (teq hc30).2 <| ?_
        exact Runs.iconst d0_208 ci_1 <| Runs.goto (pc' := 213) d0_209 (by decide) <| Runs.iand d0_213 <| Runs.istore (P' := [vn, vn, vn, vn, vi i4, vn, vi i6, vi i7, vr C.2.2.1, vi (i9 &&& (1 : Int32)), vi i10, vn, vn, vn]) d0_214 (by decide) rfl <| Runs.iinc (P' := [vn, vn, vn, vn, vi i4, vn, vi i6, vi i7, vr C.2.2.1, vi (i9 &&& (1 : Int32)), vi (i10 + (1 : Int32)), vn, vn, vn]) d0_216 ci_1 rfl (by decide) rfl <| Runs.goto (pc' := 183) d0_219 (by decide) <| hk183 q28 i4 i6 i7 (i9 &&& (1 : Int32)) (i10 + (1 : Int32)) hf
      · refine Runs.ifY (pc' := 212) d0_205 (feq hc30).2 (by decide) <| ?_
        exact Runs.iconst d0_212 ci_0 <| Runs.iand d0_213 <| Runs.istore (P' := [vn, vn, vn, vn, vi i4, vn, vi i6, vi i7, vr C.2.2.1, vi (i9 &&& (0 : Int32)), vi i10, vn, vn, vn]) d0_214 (by decide) rfl <| Runs.iinc (P' := [vn, vn, vn, vn, vi i4, vn, vi i6, vi i7, vr C.2.2.1, vi (i9 &&& (0 : Int32)), vi (i10 + (1 : Int32)), vn, vn, vn]) d0_216 ci_1 rfl (by decide) rfl <| Runs.goto (pc' := 183) d0_219 (by decide) <| hk183 q28 i4 i6 i7 (i9 &&& (0 : Int32)) (i10 + (1 : Int32)) hf
    · refine Runs.icY (pc' := 216) d0_193 (flt hc26).2.1 (by decide) <| ?_
      exact Runs.iinc (P' := [vn, vn, vn, vn, vi i4, vn, vi i6, vi i7, vr C.2.2.1, vi i9, vi (i10 + (1 : Int32)), vn, vn, vn]) d0_216 ci_1 rfl (by decide) rfl <| Runs.goto (pc' := 183) d0_219 (by decide) <| hk183 ob i4 i6 i7 i9 (i10 + (1 : Int32)) hf
  · refine Runs.icY (pc' := 222) d0_186 (flt hc25).2.1 (by decide) <| ?_
    refine Runs.iload d0_222 rfl <| Runs.aload d0_224 rfl <| Runs.iload d0_226 rfl <| ?_
    refine bind2_el hf fun r31 q32 hg33 hf => ?_
    refine Runs.callV (N := B10) (W := 1) (as := [.int i6]) (S' := [.int i9]) d0_228 w85 w86 w87 w88 cw10 ar10 rk0_10_1 (by decide) rfl rfl (X_feed_pay hg33) <| ans1 <| ?_
    refine ite_el hf (fun hc34 hf => ?_) (fun hc34 hf => ?_)
    · refine Runs.ifN d0_231 (teq hc34).2 <| ?_
      exact Runs.iconst d0_234 ci_1 <| Runs.goto (pc' := 239) d0_235 (by decide) <| Runs.forget [false, false, false, false, true, false, true, true, true, false, false, false, false, false] rfl <| L_law_b239_p q32 i4 i6 i7 i9 (1 : Int32) hf
    · refine Runs.ifY (pc' := 238) d0_231 (feq hc34).2 (by decide) <| ?_
      exact Runs.iconst d0_238 ci_0 <| Runs.forget [false, false, false, false, true, false, true, true, true, false, false, false, false, false] rfl <| L_law_b239_p q32 i4 i6 i7 i9 (0 : Int32) hf
theorem L_law_l183_p {C : Ctx} {res : Int32} {NF : Nat} (n : Nat) (ob : Rec) (i4 : Int32) (i6 : Int32) (i7 : Int32) (i9 : Int32) (i10 : Int32) (hf : L_law_l183 NF n ob i4 i6 i7 i9 i10 = some res) : Runs C B0 13 3602 183 [vn, vn, vn, vn, vi i4, vn, vi i6, vi i7, vr C.2.2.1, vi i9, vi i10, vn, vn, vn] [] (C.2.2.1 + 1 + 12, (C.2.2.1, 12, ob) :: []) (fun v _ => v = (some (.int res))) := by
  induction n generalizing ob i4 i6 i7 i9 i10 with
  | zero => cases (show (none : Option (Int32)) = some res from hf)
  | succ n ih => exact L_law_w183_p (L_law_l183 NF n) (fun ob i4 i6 i7 i9 i10 h => ih _ _ _ _ _ _ h) ob i4 i6 i7 i9 i10 hf
def L_law_b157 (NF : Nat) (ob : Rec) (i4 : Int32) (i5 : Int32) (i6 : Int32) (i7 : Int32) (t0 : Int32) (t1 : Int32) : Option (Int32) :=
  bind2 (X_feed ob i5) fun r21 q22 =>
  if r21 = (0 : Int32) then
    L_law_l183 NF NF q22 i4 i6 i7 ((t0 &&& t1) &&& (1 : Int32)) (0 : Int32)
  else
    L_law_l183 NF NF q22 i4 i6 i7 ((t0 &&& t1) &&& (0 : Int32)) (0 : Int32)
set_option maxRecDepth 65536 in
set_option maxHeartbeats 4000000 in
theorem L_law_b157_p {C : Ctx} {res : Int32} {NF : Nat} (ob : Rec) (i4 : Int32) (i5 : Int32) (i6 : Int32) (i7 : Int32) (t0 : Int32) (t1 : Int32) (hf : L_law_b157 NF ob i4 i5 i6 i7 t0 t1 = some res) : Runs C B0 13 3602 157 [vn, vn, vn, vn, vi i4, vi i5, vi i6, vi i7, vr C.2.2.1, vn, vn, vn, vn, vn] [.int t1, .int t0] (C.2.2.1 + 1 + 12, (C.2.2.1, 12, ob) :: []) (fun v _ => v = (some (.int res))) := by
  delta L_law_b157 at hf
  refine Runs.iand d0_157 <| Runs.istore (P' := [vn, vn, vn, vn, vi i4, vi i5, vi i6, vi i7, vr C.2.2.1, vi (t0 &&& t1), vn, vn, vn, vn]) d0_158 (by decide) rfl <| Runs.iload d0_160 rfl <| Runs.aload d0_162 rfl <| Runs.iload d0_164 rfl <| ?_
  refine bind2_el hf fun r21 q22 hg23 hf => ?_
  refine Runs.callV (N := B10) (W := 1) (as := [.int i5]) (S' := [.int (t0 &&& t1)]) d0_166 w85 w86 w87 w88 cw10 ar10 rk0_10_1 (by decide) rfl rfl (X_feed_pay hg23) <| ans1 <| ?_
  refine ite_el hf (fun hc24 hf => ?_) (fun hc24 hf => ?_)
  · refine Runs.ifN d0_169 (teq hc24).2 <| ?_
    exact Runs.iconst d0_172 ci_1 <| Runs.goto (pc' := 177) d0_173 (by decide) <| Runs.iand d0_177 <| Runs.istore (P' := [vn, vn, vn, vn, vi i4, vi i5, vi i6, vi i7, vr C.2.2.1, vi ((t0 &&& t1) &&& (1 : Int32)), vn, vn, vn, vn]) d0_178 (by decide) rfl <| Runs.iconst d0_180 ci_0 <| Runs.istore (P' := [vn, vn, vn, vn, vi i4, vi i5, vi i6, vi i7, vr C.2.2.1, vi ((t0 &&& t1) &&& (1 : Int32)), vi (0 : Int32), vn, vn, vn]) d0_181 (by decide) rfl <| Runs.forget [false, false, false, false, true, false, true, true, true, true, true, false, false, false] rfl <| L_law_l183_p NF q22 i4 i6 i7 ((t0 &&& t1) &&& (1 : Int32)) (0 : Int32) hf
  · refine Runs.ifY (pc' := 176) d0_169 (feq hc24).2 (by decide) <| ?_
    exact Runs.iconst d0_176 ci_0 <| Runs.iand d0_177 <| Runs.istore (P' := [vn, vn, vn, vn, vi i4, vi i5, vi i6, vi i7, vr C.2.2.1, vi ((t0 &&& t1) &&& (0 : Int32)), vn, vn, vn, vn]) d0_178 (by decide) rfl <| Runs.iconst d0_180 ci_0 <| Runs.istore (P' := [vn, vn, vn, vn, vi i4, vi i5, vi i6, vi i7, vr C.2.2.1, vi ((t0 &&& t1) &&& (0 : Int32)), vi (0 : Int32), vn, vn, vn]) d0_181 (by decide) rfl <| Runs.forget [false, false, false, false, true, false, true, true, true, true, true, false, false, false] rfl <| L_law_l183_p NF q22 i4 i6 i7 ((t0 &&& t1) &&& (0 : Int32)) (0 : Int32) hf
def L_law_b139 (NF : Nat) (ob : Rec) (i4 : Int32) (i5 : Int32) (i6 : Int32) (i7 : Int32) (t0 : Int32) (t1 : Int32) : Option (Int32) :=
  bind2 (X_reshape NF ob) fun r17 q18 =>
  if r17 = (0 : Int32) then
    L_law_b157 NF q18 i4 i5 i6 i7 (t0 &&& t1) (1 : Int32)
  else
    L_law_b157 NF q18 i4 i5 i6 i7 (t0 &&& t1) (0 : Int32)
set_option maxRecDepth 65536 in
set_option maxHeartbeats 4000000 in
theorem L_law_b139_p {C : Ctx} {res : Int32} {NF : Nat} (ob : Rec) (i4 : Int32) (i5 : Int32) (i6 : Int32) (i7 : Int32) (t0 : Int32) (t1 : Int32) (hf : L_law_b139 NF ob i4 i5 i6 i7 t0 t1 = some res) : Runs C B0 13 3602 139 [vn, vn, vn, vn, vi i4, vi i5, vi i6, vi i7, vr C.2.2.1, vn, vn, vn, vn, vn] [.int t1, .int t0] (C.2.2.1 + 1 + 12, (C.2.2.1, 12, ob) :: []) (fun v _ => v = (some (.int res))) := by
  delta L_law_b139 at hf
  refine Runs.iand d0_139 <| Runs.istore (P' := [vn, vn, vn, vn, vi i4, vi i5, vi i6, vi i7, vr C.2.2.1, vi (t0 &&& t1), vn, vn, vn, vn]) d0_140 (by decide) rfl <| Runs.iload d0_142 rfl <| Runs.aload d0_144 rfl <| ?_
  refine bind2_el hf fun r17 q18 hg19 hf => ?_
  refine Runs.callV (N := B4) (W := 1) (as := []) (S' := [.int (t0 &&& t1)]) d0_146 w60 w61 w62 w63 cw4 ar4 rk0_4_1 (by decide) rfl rfl (X_reshape_pay hg19) <| ans1 <| ?_
  refine ite_el hf (fun hc20 hf => ?_) (fun hc20 hf => ?_)
  · refine Runs.ifN d0_149 (teq hc20).2 <| ?_
    exact Runs.iconst d0_152 ci_1 <| Runs.goto (pc' := 157) d0_153 (by decide) <| Runs.forget [false, false, false, false, true, true, true, true, true, false, false, false, false, false] rfl <| L_law_b157_p q18 i4 i5 i6 i7 (t0 &&& t1) (1 : Int32) hf
  · refine Runs.ifY (pc' := 156) d0_149 (feq hc20).2 (by decide) <| ?_
    exact Runs.iconst d0_156 ci_0 <| Runs.forget [false, false, false, false, true, true, true, true, true, false, false, false, false, false] rfl <| L_law_b157_p q18 i4 i5 i6 i7 (t0 &&& t1) (0 : Int32) hf
def L_law_b116 (NF : Nat) (ob : Rec) (i4 : Int32) (i5 : Int32) (i6 : Int32) (i7 : Int32) (t0 : Int32) (t1 : Int32) : Option (Int32) :=
  bind2 (X_addSymbol ob ((8 : Int32) + i5)) fun r13 q14 =>
  if r13 = (0 : Int32) then
    L_law_b139 NF q14 i4 i5 i6 i7 (t0 &&& t1) (1 : Int32)
  else
    L_law_b139 NF q14 i4 i5 i6 i7 (t0 &&& t1) (0 : Int32)
set_option maxRecDepth 65536 in
set_option maxHeartbeats 4000000 in
theorem L_law_b116_p {C : Ctx} {res : Int32} {NF : Nat} (ob : Rec) (i4 : Int32) (i5 : Int32) (i6 : Int32) (i7 : Int32) (t0 : Int32) (t1 : Int32) (hf : L_law_b116 NF ob i4 i5 i6 i7 t0 t1 = some res) : Runs C B0 13 3602 116 [vn, vn, vn, vn, vi i4, vi i5, vi i6, vi i7, vr C.2.2.1, vn, vn, vn, vn, vn] [.int t1, .int t0] (C.2.2.1 + 1 + 12, (C.2.2.1, 12, ob) :: []) (fun v _ => v = (some (.int res))) := by
  delta L_law_b116 at hf
  refine Runs.iand d0_116 <| Runs.istore (P' := [vn, vn, vn, vn, vi i4, vi i5, vi i6, vi i7, vr C.2.2.1, vi (t0 &&& t1), vn, vn, vn, vn]) d0_117 (by decide) rfl <| Runs.iload d0_119 rfl <| Runs.aload d0_121 rfl <| Runs.bipush d0_123 cb_8 <| Runs.iload d0_125 rfl <| Runs.iadd d0_127 <| ?_
  refine bind2_el hf fun r13 q14 hg15 hf => ?_
  refine Runs.callV (N := B3) (W := 1) (as := [.int ((8 : Int32) + i5)]) (S' := [.int (t0 &&& t1)]) d0_128 w55 w56 w57 w58 cw3 ar3 rk0_3_1 (by decide) rfl rfl (X_addSymbol_pay hg15) <| ans1 <| ?_
  refine ite_el hf (fun hc16 hf => ?_) (fun hc16 hf => ?_)
  · refine Runs.ifN d0_131 (teq hc16).2 <| ?_
    exact Runs.iconst d0_134 ci_1 <| Runs.goto (pc' := 139) d0_135 (by decide) <| Runs.forget [false, false, false, false, true, true, true, true, true, false, false, false, false, false] rfl <| L_law_b139_p q14 i4 i5 i6 i7 (t0 &&& t1) (1 : Int32) hf
  · refine Runs.ifY (pc' := 138) d0_131 (feq hc16).2 (by decide) <| ?_
    exact Runs.iconst d0_138 ci_0 <| Runs.forget [false, false, false, false, true, true, true, true, true, false, false, false, false, false] rfl <| L_law_b139_p q14 i4 i5 i6 i7 (t0 &&& t1) (0 : Int32) hf
def L_law_b97 (NF : Nat) (ob : Rec) (i4 : Int32) (i5 : Int32) (i6 : Int32) (i7 : Int32) (t0 : Int32) (t1 : Int32) : Option (Int32) :=
  bind2 (X_beginRule ob (0 : Int32)) fun r9 q10 =>
  if r9 = (0 : Int32) then
    L_law_b116 NF q10 i4 i5 i6 i7 (t0 &&& t1) (1 : Int32)
  else
    L_law_b116 NF q10 i4 i5 i6 i7 (t0 &&& t1) (0 : Int32)
set_option maxRecDepth 65536 in
set_option maxHeartbeats 4000000 in
theorem L_law_b97_p {C : Ctx} {res : Int32} {NF : Nat} (ob : Rec) (i4 : Int32) (i5 : Int32) (i6 : Int32) (i7 : Int32) (t0 : Int32) (t1 : Int32) (hf : L_law_b97 NF ob i4 i5 i6 i7 t0 t1 = some res) : Runs C B0 13 3602 97 [vn, vn, vn, vn, vi i4, vi i5, vi i6, vi i7, vr C.2.2.1, vn, vn, vn, vn, vn] [.int t1, .int t0] (C.2.2.1 + 1 + 12, (C.2.2.1, 12, ob) :: []) (fun v _ => v = (some (.int res))) := by
  delta L_law_b97 at hf
  refine Runs.iand d0_97 <| Runs.istore (P' := [vn, vn, vn, vn, vi i4, vi i5, vi i6, vi i7, vr C.2.2.1, vi (t0 &&& t1), vn, vn, vn, vn]) d0_98 (by decide) rfl <| Runs.iload d0_100 rfl <| Runs.aload d0_102 rfl <| Runs.iconst d0_104 ci_0 <| ?_
  refine bind2_el hf fun r9 q10 hg11 hf => ?_
  refine Runs.callV (N := B2) (W := 1) (as := [.int (0 : Int32)]) (S' := [.int (t0 &&& t1)]) d0_105 w50 w51 w52 w53 cw2 ar2 rk0_2_1 (by decide) rfl rfl (X_beginRule_pay hg11) <| ans1 <| ?_
  refine ite_el hf (fun hc12 hf => ?_) (fun hc12 hf => ?_)
  · refine Runs.ifN d0_108 (teq hc12).2 <| ?_
    exact Runs.iconst d0_111 ci_1 <| Runs.goto (pc' := 116) d0_112 (by decide) <| Runs.forget [false, false, false, false, true, true, true, true, true, false, false, false, false, false] rfl <| L_law_b116_p q10 i4 i5 i6 i7 (t0 &&& t1) (1 : Int32) hf
  · refine Runs.ifY (pc' := 115) d0_108 (feq hc12).2 (by decide) <| ?_
    exact Runs.iconst d0_115 ci_0 <| Runs.forget [false, false, false, false, true, true, true, true, true, false, false, false, false, false] rfl <| L_law_b116_p q10 i4 i5 i6 i7 (t0 &&& t1) (0 : Int32) hf
def L_law_b74 (NF : Nat) (ob : Rec) (i4 : Int32) (i5 : Int32) (i6 : Int32) (i7 : Int32) (t0 : Int32) (t1 : Int32) : Option (Int32) :=
  bind2 (X_addSymbol ob ((8 : Int32) + i4)) fun r5 q6 =>
  if r5 = (0 : Int32) then
    L_law_b97 NF q6 i4 i5 i6 i7 (t0 &&& t1) (1 : Int32)
  else
    L_law_b97 NF q6 i4 i5 i6 i7 (t0 &&& t1) (0 : Int32)
set_option maxRecDepth 65536 in
set_option maxHeartbeats 4000000 in
theorem L_law_b74_p {C : Ctx} {res : Int32} {NF : Nat} (ob : Rec) (i4 : Int32) (i5 : Int32) (i6 : Int32) (i7 : Int32) (t0 : Int32) (t1 : Int32) (hf : L_law_b74 NF ob i4 i5 i6 i7 t0 t1 = some res) : Runs C B0 13 3602 74 [vn, vn, vn, vn, vi i4, vi i5, vi i6, vi i7, vr C.2.2.1, vn, vn, vn, vn, vn] [.int t1, .int t0] (C.2.2.1 + 1 + 12, (C.2.2.1, 12, ob) :: []) (fun v _ => v = (some (.int res))) := by
  delta L_law_b74 at hf
  refine Runs.iand d0_74 <| Runs.istore (P' := [vn, vn, vn, vn, vi i4, vi i5, vi i6, vi i7, vr C.2.2.1, vi (t0 &&& t1), vn, vn, vn, vn]) d0_75 (by decide) rfl <| Runs.iload d0_77 rfl <| Runs.aload d0_79 rfl <| Runs.bipush d0_81 cb_8 <| Runs.iload d0_83 rfl <| Runs.iadd d0_85 <| ?_
  refine bind2_el hf fun r5 q6 hg7 hf => ?_
  refine Runs.callV (N := B3) (W := 1) (as := [.int ((8 : Int32) + i4)]) (S' := [.int (t0 &&& t1)]) d0_86 w55 w56 w57 w58 cw3 ar3 rk0_3_1 (by decide) rfl rfl (X_addSymbol_pay hg7) <| ans1 <| ?_
  refine ite_el hf (fun hc8 hf => ?_) (fun hc8 hf => ?_)
  · refine Runs.ifN d0_89 (teq hc8).2 <| ?_
    exact Runs.iconst d0_92 ci_1 <| Runs.goto (pc' := 97) d0_93 (by decide) <| Runs.forget [false, false, false, false, true, true, true, true, true, false, false, false, false, false] rfl <| L_law_b97_p q6 i4 i5 i6 i7 (t0 &&& t1) (1 : Int32) hf
  · refine Runs.ifY (pc' := 96) d0_89 (feq hc8).2 (by decide) <| ?_
    exact Runs.iconst d0_96 ci_0 <| Runs.forget [false, false, false, false, true, true, true, true, true, false, false, false, false, false] rfl <| L_law_b97_p q6 i4 i5 i6 i7 (t0 &&& t1) (0 : Int32) hf
def L_law_b55 (NF : Nat) (ob : Rec) (i4 : Int32) (i5 : Int32) (i6 : Int32) (i7 : Int32) (t0 : Int32) (t1 : Int32) : Option (Int32) :=
  bind2 (X_addSymbol ob (0 : Int32)) fun r1 q2 =>
  if r1 = (0 : Int32) then
    L_law_b74 NF q2 i4 i5 i6 i7 (t0 &&& t1) (1 : Int32)
  else
    L_law_b74 NF q2 i4 i5 i6 i7 (t0 &&& t1) (0 : Int32)
set_option maxRecDepth 65536 in
set_option maxHeartbeats 4000000 in
theorem L_law_b55_p {C : Ctx} {res : Int32} {NF : Nat} (ob : Rec) (i4 : Int32) (i5 : Int32) (i6 : Int32) (i7 : Int32) (t0 : Int32) (t1 : Int32) (hf : L_law_b55 NF ob i4 i5 i6 i7 t0 t1 = some res) : Runs C B0 13 3602 55 [vn, vn, vn, vn, vi i4, vi i5, vi i6, vi i7, vr C.2.2.1, vn, vn, vn, vn, vn] [.int t1, .int t0] (C.2.2.1 + 1 + 12, (C.2.2.1, 12, ob) :: []) (fun v _ => v = (some (.int res))) := by
  delta L_law_b55 at hf
  refine Runs.iand d0_55 <| Runs.istore (P' := [vn, vn, vn, vn, vi i4, vi i5, vi i6, vi i7, vr C.2.2.1, vi (t0 &&& t1), vn, vn, vn, vn]) d0_56 (by decide) rfl <| Runs.iload d0_58 rfl <| Runs.aload d0_60 rfl <| Runs.iconst d0_62 ci_0 <| ?_
  refine bind2_el hf fun r1 q2 hg3 hf => ?_
  refine Runs.callV (N := B3) (W := 1) (as := [.int (0 : Int32)]) (S' := [.int (t0 &&& t1)]) d0_63 w55 w56 w57 w58 cw3 ar3 rk0_3_1 (by decide) rfl rfl (X_addSymbol_pay hg3) <| ans1 <| ?_
  refine ite_el hf (fun hc4 hf => ?_) (fun hc4 hf => ?_)
  · refine Runs.ifN d0_66 (teq hc4).2 <| ?_
    exact Runs.iconst d0_69 ci_1 <| Runs.goto (pc' := 74) d0_70 (by decide) <| Runs.forget [false, false, false, false, true, true, true, true, true, false, false, false, false, false] rfl <| L_law_b74_p q2 i4 i5 i6 i7 (t0 &&& t1) (1 : Int32) hf
  · refine Runs.ifY (pc' := 73) d0_66 (feq hc4).2 (by decide) <| ?_
    exact Runs.iconst d0_73 ci_0 <| Runs.forget [false, false, false, false, true, true, true, true, true, false, false, false, false, false] rfl <| L_law_b74_p q2 i4 i5 i6 i7 (t0 &&& t1) (0 : Int32) hf
def L_law (NF : Nat) (i0 : Int32) (i1 : Int32) (i2 : Int32) (i3 : Int32) : Option (Int32) :=
  (X_init (16 : Int32) (16 : Int32)).bind fun q62 =>
  bind2 (X_beginRule q62 (0 : Int32)) fun r64 q65 =>
  if r64 = (0 : Int32) then
    L_law_b55 NF q65 (i0 &&& (7 : Int32)) (i1 &&& (7 : Int32)) (i2 &&& (7 : Int32)) (i3 &&& (3 : Int32)) (1 : Int32) (1 : Int32)
  else
    L_law_b55 NF q65 (i0 &&& (7 : Int32)) (i1 &&& (7 : Int32)) (i2 &&& (7 : Int32)) (i3 &&& (3 : Int32)) (1 : Int32) (0 : Int32)
set_option maxRecDepth 65536 in
set_option maxHeartbeats 4000000 in
theorem L_law_p {C : Ctx} {res : Int32} {NF : Nat} (i0 : Int32) (i1 : Int32) (i2 : Int32) (i3 : Int32) (hf : L_law NF i0 i1 i2 i3 = some res) : Runs C B0 0 0 0 [vi i0, vi i1, vi i2, vi i3, vn, vn, vn, vn, vn, vn, vn, vn, vn, vn] [] (C.2.2.1, []) (fun v _ => v = (some (.int res))) := by
  delta L_law at hf
  refine Runs.iloadN d0_0 rfl <| Runs.bipush d0_1 cb_7 <| Runs.iand d0_3 <| Runs.istore (P' := [vi i0, vi i1, vi i2, vi i3, vi (i0 &&& (7 : Int32)), vn, vn, vn, vn, vn, vn, vn, vn, vn]) d0_4 (by decide) rfl <| Runs.iloadN d0_6 rfl <| Runs.bipush d0_7 cb_7 <| Runs.iand d0_9 <| Runs.istore (P' := [vi i0, vi i1, vi i2, vi i3, vi (i0 &&& (7 : Int32)), vi (i1 &&& (7 : Int32)), vn, vn, vn, vn, vn, vn, vn, vn]) d0_10 (by decide) rfl <| Runs.iloadN d0_12 rfl <| Runs.bipush d0_13 cb_7 <| Runs.iand d0_15 <| Runs.istore (P' := [vi i0, vi i1, vi i2, vi i3, vi (i0 &&& (7 : Int32)), vi (i1 &&& (7 : Int32)), vi (i2 &&& (7 : Int32)), vn, vn, vn, vn, vn, vn, vn]) d0_16 (by decide) rfl <| ?_
  refine Runs.iloadN d0_18 rfl <| Runs.iconst d0_19 ci_3 <| Runs.iand d0_20 <| Runs.istore (P' := [vi i0, vi i1, vi i2, vi i3, vi (i0 &&& (7 : Int32)), vi (i1 &&& (7 : Int32)), vi (i2 &&& (7 : Int32)), vi (i3 &&& (3 : Int32)), vn, vn, vn, vn, vn, vn]) d0_21 (by decide) rfl <| Runs.newK (k' := 1) (n' := 20) d0_23 w0 ⟨by decide, by decide⟩ rfl rfl (by intro x hx; cases hx) <| Runs.dup d0_26 rfl <| Runs.bipush d0_27 cb_16 <| Runs.bipush d0_29 cb_16 <| ?_
  refine bind_el hf fun q62 hg63 hf => ?_
  refine Runs.callI (N := B1) (k' := 13) (n' := 3602) (W := 1) (as := [.int (16 : Int32), .int (16 : Int32)]) (S' := [.ref C.2.2.1]) d0_31 rfl rfl w3 w4 cw1 ar1 (by decide) rfl rfl rfl rfl (X_init_pay hg63) <| ans0 <| Runs.astore (P' := [vi i0, vi i1, vi i2, vi i3, vi (i0 &&& (7 : Int32)), vi (i1 &&& (7 : Int32)), vi (i2 &&& (7 : Int32)), vi (i3 &&& (3 : Int32)), vr C.2.2.1, vn, vn, vn, vn, vn]) d0_34 (by decide) rfl <| Runs.iconst d0_36 ci_1 <| Runs.istore (P' := [vi i0, vi i1, vi i2, vi i3, vi (i0 &&& (7 : Int32)), vi (i1 &&& (7 : Int32)), vi (i2 &&& (7 : Int32)), vi (i3 &&& (3 : Int32)), vr C.2.2.1, vi (1 : Int32), vn, vn, vn, vn]) d0_37 (by decide) rfl <| Runs.iload d0_39 rfl <| Runs.aload d0_41 rfl <| Runs.iconst d0_43 ci_0 <| ?_
  refine bind2_el hf fun r64 q65 hg66 hf => ?_
  refine Runs.callV (N := B2) (W := 1) (as := [.int (0 : Int32)]) (S' := [.int (1 : Int32)]) d0_44 w50 w51 w52 w53 cw2 ar2 rk0_2_1 (by decide) rfl rfl (X_beginRule_pay hg66) <| ans1 <| ?_
  refine ite_el hf (fun hc67 hf => ?_) (fun hc67 hf => ?_)
  · refine Runs.ifN d0_47 (teq hc67).2 <| ?_
    exact Runs.iconst d0_50 ci_1 <| Runs.goto (pc' := 55) d0_51 (by decide) <| Runs.forget [false, false, false, false, true, true, true, true, true, false, false, false, false, false] rfl <| L_law_b55_p q65 (i0 &&& (7 : Int32)) (i1 &&& (7 : Int32)) (i2 &&& (7 : Int32)) (i3 &&& (3 : Int32)) (1 : Int32) (1 : Int32) hf
  · refine Runs.ifY (pc' := 54) d0_47 (feq hc67).2 (by decide) <| ?_
    exact Runs.iconst d0_54 ci_0 <| Runs.forget [false, false, false, false, true, true, true, true, true, false, false, false, false, false] rfl <| L_law_b55_p q65 (i0 &&& (7 : Int32)) (i1 &&& (7 : Int32)) (i2 &&& (7 : Int32)) (i3 &&& (3 : Int32)) (1 : Int32) (0 : Int32) hf
theorem L_law_pay {C : Ctx} {res : Int32} {NF : Nat} {i0 : Int32} {i1 : Int32} {i2 : Int32} {i3 : Int32} (hf : L_law NF i0 i1 i2 i3 = some res) : Pays C B0 [.int i0, .int i1, .int i2, .int i3] (C.2.2.1, []) (fun v _ => v = (some (.int res))) :=
  Pays.of pnL (Nat.le_of_ble_eq_true rfl) (P := [vi i0, vi i1, vi i2, vi i3, vn, vn, vn, vn, vn, vn, vn, vn, vn, vn]) 10 rfl (L_law_p i0 i1 i2 i3 hf)
--OWED--
theorem gI_sI (ob : Rec) (k j : Nat) (v : Int32) : gI (sI ob k v) j = if j = k then v else gI ob j := rfl
theorem gI_sA (ob : Rec) (k j : Nat) (i v : Int32) : gI (sA ob k i v) j = gI ob j := rfl
theorem gI_sJ (ob : Rec) (k j : Nat) (i : Int32) (v : Int64) : gI (sJ ob k i v) j = gI ob j := rfl
theorem gA_sI (ob : Rec) (k j : Nat) (v x : Int32) : gA (sI ob k v) j x = gA ob j x := rfl
theorem gA_sA (ob : Rec) (k j : Nat) (i v x : Int32) : gA (sA ob k i v) j x = if j = k ∧ x = i then v else gA ob j x := rfl
theorem gA_sJ (ob : Rec) (k j : Nat) (i x : Int32) (v : Int64) : gA (sJ ob k i v) j x = gA ob j x := rfl
theorem gJ_sI (ob : Rec) (k j : Nat) (v x : Int32) : gJ (sI ob k v) j x = gJ ob j x := rfl
theorem gJ_sA (ob : Rec) (k j : Nat) (i v x : Int32) : gJ (sA ob k i v) j x = gJ ob j x := rfl
theorem gJ_sJ (ob : Rec) (k j : Nat) (i x : Int32) (v : Int64) : gJ (sJ ob k i v) j x = if j = k ∧ x = i then v else gJ ob j x := rfl
theorem gI_z (k : Nat) : gI zrec k = 0 := rfl
theorem gA_z (k : Nat) (i : Int32) : gA zrec k i = 0 := rfl
theorem gJ_z (k : Nat) (i : Int32) : gJ zrec k i = 0 := rfl
theorem chk_ok {γ : Type} {n i : Int32} {A : Option γ} (h : 0 ≤ i.toInt ∧ i.toInt < n.toInt) : chk n i A = A := by
  have h0 : ¬ i < 0 := by rw [Int32.lt_iff_toInt_lt]; show ¬ i.toInt < 0; omega
  have h1 : i < n := by rw [Int32.lt_iff_toInt_lt]; exact h.2
  unfold chk; rw [if_neg h0, if_pos h1]
theorem lt_i {x y : Int32} : x < y ↔ x.toInt < y.toInt := Int32.lt_iff_toInt_lt
theorem le_i {x y : Int32} : x ≤ y ↔ x.toInt ≤ y.toInt := Int32.le_iff_toInt_le
theorem eq_i32 {x y : Int32} : x = y ↔ x.toInt = y.toInt := Int32.toInt_inj.symm
theorem bm_id {n : Int} (h : -2147483648 ≤ n ∧ n < 2147483648) : n.bmod (2 ^ 32) = n := Int.bmod_eq_of_le (by omega) (by omega)
theorem ad {x y : Int32} (h : -2147483648 ≤ x.toInt + y.toInt ∧ x.toInt + y.toInt < 2147483648) : (x + y).toInt = x.toInt + y.toInt := by rw [Int32.toInt_add, bm_id h]
theorem sb {x y : Int32} (h : -2147483648 ≤ x.toInt - y.toInt ∧ x.toInt - y.toInt < 2147483648) : (x - y).toInt = x.toInt - y.toInt := by rw [Int32.toInt_sub, bm_id h]
theorem ml {x y : Int32} (h : -2147483648 ≤ x.toInt * y.toInt ∧ x.toInt * y.toInt < 2147483648) : (x * y).toInt = x.toInt * y.toInt := by rw [Int32.toInt_mul, bm_id h]
theorem bind2_some {α β γ : Type} (a : α) (b : β) (f : α → β → Option γ) : bind2 (some (a, b)) f = f a b := rfl
theorem and_b (x m : Int32) (k : Nat) (hm : m.toBitVec.toNat = k) (hk : k < 2147483648) : 0 ≤ (x &&& m).toInt ∧ (x &&& m).toInt ≤ (k : Int) := by
  have h1 : (x &&& m).toBitVec.toNat = x.toBitVec.toNat &&& m.toBitVec.toNat := by rw [Int32.toBitVec_and, BitVec.toNat_and]
  have h2 : (x &&& m).toBitVec.toNat ≤ k := by rw [h1, hm]; exact Nat.and_le_right
  have h3 : (x &&& m).toInt = ((x &&& m).toBitVec.toNat : Int) := by
    show (x &&& m).toBitVec.toInt = _
    exact BitVec.toInt_eq_toNat_of_lt (by omega)
  rw [h3]; omega
theorem mem8 (x : Int32) : (x &&& 7) ∈ ([0, 1, 2, 3, 4, 5, 6, 7] : List Int32) := by
  have h := and_b x 7 7 rfl (by omega)
  simp only [List.mem_cons, eq_i32, Int32.reduceToInt, List.not_mem_nil, or_false]
  omega
theorem mem2 (x : Int32) : (x &&& 1) ∈ ([0, 1] : List Int32) := by
  have h := and_b x 1 1 rfl (by omega)
  simp only [List.mem_cons, eq_i32, Int32.reduceToInt, List.not_mem_nil, or_false]
  omega
theorem dv {x y : Int32} (hx : 0 ≤ x.toInt) (hy : 0 < y.toInt) : (x / y).toInt = x.toInt / y.toInt := by
  rw [Int32.toInt_div, Int.tdiv_eq_ediv_of_nonneg hx]
  have h1 : x.toInt / y.toInt ≤ x.toInt := Int.ediv_le_self _ hx
  have h2 : 0 ≤ x.toInt / y.toInt := Int.ediv_nonneg hx (by omega)
  have h3 := x.toInt_lt
  exact Int.bmod_eq_of_le (by omega) (by omega)
theorem md {x y : Int32} (hx : 0 ≤ x.toInt) (_ : 0 < y.toInt) : (x % y).toInt = x.toInt % y.toInt := by
  rw [Int32.toInt_mod, Int.tmod_eq_emod_of_nonneg hx]
def n32 (n : Nat) : Int32 := Int32.ofInt (n : Int)
theorem nt (n : Nat) (h : n < 100000) : (n32 n).toInt = n := by
  unfold n32; rw [Int32.toInt_ofInt]; exact bm_id (by omega)
theorem n32_t (x : Int32) (h : 0 ≤ x.toInt) : n32 x.toInt.toNat = x := by
  unfold n32; rw [Int.toNat_of_nonneg h, Int32.ofInt_toInt]
def cN (f : Nat → Bool) : Nat → Nat
  | 0 => 0
  | n + 1 => cN f n + (if f n then 1 else 0)
theorem cN_le {f g : Nat → Bool} : ∀ n, (∀ i, i < n → f i = true → g i = true) → cN f n ≤ cN g n
  | 0, _ => Nat.le_refl 0
  | n + 1, h => by
    have h1 := cN_le n (fun i hi => h i (by omega))
    have h2 := h n (by omega)
    show cN f n + _ ≤ cN g n + _
    cases hf : f n
    · simp; omega
    · rw [h2 hf]; simp; omega
theorem cN_eq {f g : Nat → Bool} (n : Nat) (h : ∀ i, i < n → f i = g i) : cN f n = cN g n :=
  Nat.le_antisymm (cN_le n (fun i hi e => (h i hi) ▸ e)) (cN_le n (fun i hi e => (h i hi).symm ▸ e))
theorem cN_set {f g : Nat → Bool} {j : Nat} (fj : f j = false) (gj : g j = true) : ∀ n, j < n → (∀ i, i < n → i ≠ j → g i = f i) → cN g n = cN f n + 1
  | 0, h, _ => absurd h (by omega)
  | n + 1, h, e => by
    show cN g n + _ = cN f n + _ + 1
    by_cases c : j = n
    · subst c
      rw [cN_eq j (fun i hi => e i (by omega) (by omega)), fj, gj]; simp
    · rw [cN_set fj gj n (by omega) (fun i hi => e i (by omega)), e n (by omega) (fun h => c h.symm)]; omega
theorem cN_lt {f g : Nat → Bool} {j : Nat} (n : Nat) (hj : j < n) (fj : f j = false) (gj : g j = true) (h : ∀ i, i < n → f i = true → g i = true) : cN f n + 1 ≤ cN g n := by
  have := cN_set (f := f) (g := fun i => if i = j then true else f i) fj (by simp) n hj (fun i _ c => by simp [c])
  rw [← this]
  apply cN_le
  intro i hi e
  by_cases c : i = j
  · rw [c]; exact gj
  · simp only [c, if_false] at e; exact h i hi e
theorem cN_full {f : Nat → Bool} : ∀ n m, m ≤ n → (∀ i, i < m → f i = true) → m ≤ cN f n
  | 0, m, h, _ => by omega
  | n + 1, m, h, e => by
    show m ≤ cN f n + _
    by_cases c : m ≤ n
    · have := cN_full n m c e; omega
    · have := cN_full n n (Nat.le_refl n) (fun i hi => e i (by omega))
      rw [e n (by omega)]; simp; omega
abbrev In (n : Int) (x : Int32) : Prop := 0 ≤ x.toInt ∧ x.toInt < n
theorem neg_i {x : Int32} : x < 0 ↔ x.toInt < 0 := by rw [lt_i]; exact Iff.rfl
theorem nneg {x : Int32} (h : 0 ≤ x.toInt) : ¬ x < 0 := by rw [neg_i]; omega
theorem nneg' {x : Int32} (h : ¬ x < 0) : 0 ≤ x.toInt := by rw [neg_i] at h; omega
theorem s1 {i : Int32} (h : 0 ≤ i.toInt ∧ i.toInt < 100000) : (i + 1).toInt = i.toInt + 1 := by
  rw [ad (by show -2147483648 ≤ i.toInt + 1 ∧ i.toInt + 1 < 2147483648; omega)]; rfl
theorem ckn {γ : Type} {n : Int32} {m : Int} {i : Int32} {A : Option γ} (hm : n.toInt = m) (h : In m i) : chk n i A = A := chk_ok (by rw [hm]; exact h)
theorem ltn {x y : Int32} {m : Int} (hm : y.toInt = m) (h : x.toInt < m) : x < y := by rw [lt_i, hm]; exact h
theorem nltn {x y : Int32} {m : Int} (hm : y.toInt = m) (h : ¬ x.toInt < m) : ¬ x < y := by rw [lt_i, hm]; exact h
theorem cN_b (f : Nat → Bool) : ∀ n, cN f n ≤ n
  | 0 => Nat.le_refl 0
  | n + 1 => by
    have := cN_b f n
    show cN f n + _ ≤ n + 1
    split <;> omega
theorem cN_pos {f : Nat → Bool} {j : Nat} (n : Nat) (hj : j < n) (fj : f j = true) : 1 ≤ cN f n := by
  have z : ∀ n, cN (fun _ => false) n = 0 := fun n => by induction n with
    | zero => rfl
    | succ n ih => show cN (fun _ => false) n + _ = 0; rw [ih]; rfl
  have := cN_lt (f := fun _ => false) (g := f) n hj rfl fj (fun _ _ e => by simp at e)
  rw [z] at this; exact this
theorem ni {i n : Nat} (h : i < n) (hn : n ≤ 1000) : In (n : Int) (n32 i) := by
  rw [In, nt i (by omega)]; omega
theorem n32_inj {i j : Nat} (hi : i < 1000) (hj : j < 1000) (e : n32 i = n32 j) : i = j := by
  have := congrArg Int32.toInt e
  rw [nt i (by omega), nt j (by omega)] at this; omega
theorem lpN {α : Type} (L : Nat → Nat → Option α) (n : Nat) (R : Option α) (hstop : ∀ f, L (f + 1) n = R) (hstep : ∀ f i, i < n → L (f + 1) i = L f (i + 1)) : ∀ d fuel i, i + d = n → d < fuel → L fuel i = R := by
  intro d
  induction d with
  | zero =>
    intro fuel i hi hf
    obtain ⟨g, rfl⟩ : ∃ g, fuel = g + 1 := ⟨fuel - 1, by omega⟩
    rw [show i = n by omega]; exact hstop g
  | succ d ih =>
    intro fuel i hi hf
    obtain ⟨g, rfl⟩ : ∃ g, fuel = g + 1 := ⟨fuel - 1, by omega⟩
    rw [hstep g i (by omega)]
    exact ih g (i + 1) (by omega) (by omega)
theorem lpE {α : Type} (L : Nat → Rec → Nat → Option α) (Q : Rec → Nat → Prop) (n : Nat) (R : Rec → Option α) (hstop : ∀ f ob, Q ob n → L (f + 1) ob n = R ob) (hstep : ∀ f ob i, i < n → Q ob i → ∃ ob', L (f + 1) ob i = L f ob' (i + 1) ∧ Q ob' (i + 1)) : ∀ d fuel ob i, i + d = n → d < fuel → Q ob i → ∃ r, L fuel ob i = R r ∧ Q r n := by
  intro d
  induction d with
  | zero =>
    intro fuel ob i hi hf hq
    obtain ⟨g, rfl⟩ : ∃ g, fuel = g + 1 := ⟨fuel - 1, by omega⟩
    rw [show i = n by omega] at hq ⊢
    exact ⟨ob, hstop g ob hq, hq⟩
  | succ d ih =>
    intro fuel ob i hi hf hq
    obtain ⟨g, rfl⟩ : ∃ g, fuel = g + 1 := ⟨fuel - 1, by omega⟩
    obtain ⟨ob', e, hq'⟩ := hstep g ob i (by omega) hq
    rw [e]
    exact ih g ob' (i + 1) (by omega) (by omega) hq'
theorem n32_ad {i j : Nat} (hi : i < 10000) (hj : j < 10000) : n32 i + n32 j = n32 (i + j) := eq_i32.mpr (by rw [ad (by rw [nt i (by omega), nt j (by omega)]; omega), nt i (by omega), nt j (by omega), nt (i + j) (by omega)]; omega)
theorem n32_ml {i j : Nat} (hi : i < 100) (hj : j < 300) : n32 i * n32 j = n32 (i * j) := by
  have b : (i * j : Nat) < 100000 := by
    have : i * j ≤ 99 * 299 := Nat.mul_le_mul (by omega) (by omega)
    omega
  refine eq_i32.mpr ?_
  have e : (n32 i).toInt * (n32 j).toInt = ((i * j : Nat) : Int) := by rw [nt i (by omega), nt j (by omega)]; exact (Int.natCast_mul i j).symm
  rw [ml (by rw [e]; omega), e, nt _ b]
theorem n32_sb {i j : Nat} (hi : i < 10000) (hj : j ≤ i) : n32 i - n32 j = n32 (i - j) := eq_i32.mpr (by rw [sb (by rw [nt i (by omega), nt j (by omega)]; omega), nt i (by omega), nt j (by omega), nt (i - j) (by omega)]; omega)
theorem n32_n {i j : Nat} (hi : i < 10000) (hj : j < 10000) (h : ¬ i = j) : ¬ n32 i = n32 j := fun e => h (by
  have := congrArg Int32.toInt e
  rw [nt i (by omega), nt j (by omega)] at this; omega)
theorem nlt {i n : Nat} (hi : i < 10000) (hn : n < 10000) (h : ¬ i < n) : ¬ n32 i < n32 n := by rw [lt_i, nt i (by omega), nt n (by omega)]; omega
theorem ylt {i n : Nat} (hi : i < 10000) (hn : n < 10000) (h : i < n) : n32 i < n32 n := by rw [lt_i, nt i (by omega), nt n (by omega)]; omega
theorem ckN {γ : Type} {n : Int32} {m i : Nat} {A : Option γ} (hm : n.toInt = m) (h : i < m) (hi : i < 10000) : chk n (n32 i) A = A := chk_ok (by rw [hm, nt i (by omega)]; omega)
theorem n32_z : n32 0 = 0 := rfl
theorem m17 {i : Nat} (h : i < 100) : n32 i * 17 = n32 (i * 17) := n32_ml (j := 17) h (by omega)
theorem m5 {i : Nat} (h : i < 100) : n32 i * 5 = n32 (i * 5) := n32_ml (j := 5) h (by omega)
def ix (a i j : Nat) : Int32 := n32 (a * 289 + i * 17 + j)
theorem ix_e (ob : Rec) {a i j : Nat} (ha : a < 8) (hi : i < 17) (hj : j < 17) : X_idx ob (n32 a) (n32 i) (n32 j) = some (ix a i j) := by
  have e : n32 a * 289 = n32 (a * 289) := n32_ml (j := 289) (by omega) (by omega)
  unfold X_idx; rw [e, m17 (by omega), n32_ad (by omega) (by omega), n32_ad (by omega) (by omega)]; rfl
theorem ix_k {γ : Type} {a i j : Nat} {A : Option γ} (ha : a < 8) (hi : i < 16) (hj : j < 17) : chk 2312 (ix a i j) A = A := ckN (m := 2312) rfl (by omega) (by omega)
/-- the grammar S -> S p | q and the input's length -/
abbrev GP (ob : Rec) (N : Nat) (P8 Q8 : Int32) : Prop := (gI ob 3 = 2) ∧ (gI ob 4 = n32 N) ∧ (gA ob 0 0 = 0 ∧ gA ob 0 1 = 0) ∧ (gA ob 1 0 = 2 ∧ gA ob 1 1 = 1) ∧ (gA ob 2 0 = 0 ∧ gA ob 2 1 = P8 ∧ gA ob 2 5 = Q8) ∧ (¬ P8 < 8 ∧ ¬ Q8 < 8)
theorem GP.n3 {ob : Rec} {N : Nat} {P8 Q8 : Int32} (h : GP ob N P8 Q8) : gI ob 3 = 2 := h.1
theorem GP.n4 {ob : Rec} {N : Nat} {P8 Q8 : Int32} (h : GP ob N P8 Q8) : gI ob 4 = n32 N := h.2.1
theorem GP.hd {ob : Rec} {N : Nat} {P8 Q8 : Int32} (h : GP ob N P8 Q8) : gA ob 0 0 = 0 ∧ gA ob 0 1 = 0 := h.2.2.1
theorem GP.ln {ob : Rec} {N : Nat} {P8 Q8 : Int32} (h : GP ob N P8 Q8) : gA ob 1 0 = 2 ∧ gA ob 1 1 = 1 := h.2.2.2.1
theorem GP.sy {ob : Rec} {N : Nat} {P8 Q8 : Int32} (h : GP ob N P8 Q8) : gA ob 2 0 = 0 ∧ gA ob 2 1 = P8 ∧ gA ob 2 5 = Q8 := h.2.2.2.2.1
theorem GP.pq {ob : Rec} {N : Nat} {P8 Q8 : Int32} (h : GP ob N P8 Q8) : ¬ P8 < 8 ∧ ¬ Q8 < 8 := h.2.2.2.2.2
abbrev Fm (ob r : Rec) : Prop := (∀ j, j ≤ 4 → gI r j = gI ob j) ∧ ∀ j x, j ≤ 3 → gA r j x = gA ob j x
theorem Fm.tr {a b c : Rec} (h : Fm a b) (g : Fm b c) : Fm a c := ⟨fun j hj => (g.1 j hj).trans (h.1 j hj), fun j x hj => (g.2 j x hj).trans (h.2 j x hj)⟩
theorem GP.fr {ob r : Rec} {N : Nat} {P8 Q8 : Int32} (h : GP ob N P8 Q8) (f : Fm ob r) : GP r N P8 Q8 := by
  obtain ⟨a, b, c, d, e, g⟩ := h
  exact ⟨by rw [f.1 3 (by omega)]; exact a, by rw [f.1 4 (by omega)]; exact b, by rw [f.2 0 _ (by omega), f.2 0 _ (by omega)]; exact c, by rw [f.2 1 _ (by omega), f.2 1 _ (by omega)]; exact d, by rw [f.2 2 _ (by omega), f.2 2 _ (by omega), f.2 2 _ (by omega)]; exact e, g⟩
theorem iu_0 {ob : Rec} {N : Nat} {P8 Q8 : Int32} (h : GP ob N P8 Q8) : X_isUnit ob 0 = some 0 := by
  have e : chk (γ := Int32) 16 0 = fun A => A := funext fun A => ckN (m := 16) (i := 0) rfl (by omega) (by omega)
  unfold X_isUnit; rw [e, h.ln.1, if_neg (by decide)]
theorem iu_1 {ob : Rec} {N : Nat} {P8 Q8 : Int32} (h : GP ob N P8 Q8) : X_isUnit ob 1 = some 0 := by
  have e : chk (γ := Int32) 16 1 = fun A => A := funext fun A => ckN (m := 16) (i := 1) rfl (by omega) (by omega)
  have e5 : (1 : Int32) * 5 = 5 := by decide
  have e' : chk (γ := Int32) 80 5 = fun A => A := funext fun A => ckN (m := 80) (i := 5) rfl (by omega) (by omega)
  unfold X_isUnit; rw [e, h.ln.2, if_pos rfl, e5, e', h.sy.2.2, if_neg h.pq.2]
/-- a terminal, the start symbol -/
theorem sy_t (ob : Rec) {s : Int32} (hs : ¬ s < 8) {a b : Nat} (ha : a < 16) (hb : 1 ≤ b) (hb' : b ≤ 16) : X_symCount ob s (n32 a) (n32 b) = some (n32 (if b = a + 1 ∧ gA ob 3 (n32 a) = s - 8 then 1 else 0)) := by
  have a1 : ¬ n32 a < 0 := nneg (by rw [nt a (by omega)]; omega)
  have a2 : ¬ (15 : Int32) < n32 a := nlt (i := 15) (by omega) (by omega) (by omega)
  have a3 : ¬ n32 b < 1 := nlt (n := 1) (by omega) (by omega) (by omega)
  have a4 : ¬ (16 : Int32) < n32 b := nlt (i := 16) (by omega) (by omega) (by omega)
  unfold X_symCount
  rw [if_neg a1, if_neg a2, if_neg a3, if_neg a4, if_neg hs]
  have e1 : n32 a + 1 = n32 (a + 1) := n32_ad (j := 1) (by omega) (by omega)
  rw [e1]
  by_cases c : b = a + 1
  · rw [if_pos (by rw [c]), ckN (m := 16) rfl ha (by omega)]
    by_cases d : gA ob 3 (n32 a) = s - 8
    · rw [if_pos d, if_pos ⟨c, d⟩]; rfl
    · rw [if_neg d, if_neg (fun z => d z.2)]; rfl
  · rw [if_neg (n32_n (by omega) (by omega) c), if_neg (fun z => c z.1)]; rfl
theorem sy_n (ob : Rec) {a b : Nat} (ha : a < 16) (hb : 1 ≤ b) (hb' : b ≤ 16) : X_symCount ob 0 (n32 a) (n32 b) = some (gA ob 4 (ix 0 a b)) := by
  have a1 : ¬ n32 a < 0 := nneg (by rw [nt a (by omega)]; omega)
  have a2 : ¬ (15 : Int32) < n32 a := nlt (i := 15) (by omega) (by omega) (by omega)
  have a3 : ¬ n32 b < 1 := nlt (n := 1) (by omega) (by omega) (by omega)
  have a4 : ¬ (16 : Int32) < n32 b := nlt (i := 16) (by omega) (by omega) (by omega)
  have e : X_idx ob 0 (n32 a) (n32 b) = some (ix 0 a b) := ix_e ob (a := 0) (by omega) (by omega) (by omega)
  unfold X_symCount
  rw [if_neg a1, if_neg a2, if_neg a3, if_neg a4, if_pos (by decide), if_neg (by decide), e, Option.bind_some, ix_k (by omega) ha (by omega)]
def sg (c : Nat → Nat) (s : Nat) : Nat → Nat
  | 0 => 0
  | d + 1 => sg c s d + c (s + d)
theorem sg_m (c : Nat → Nat) (s d : Nat) : ∀ e, sg c s d ≤ sg c s (d + e)
  | 0 => Nat.le_refl _
  | e + 1 => by have := sg_m c s d e; show _ ≤ sg c s (d + e) + _; omega
theorem sg_z (c : Nat → Nat) (s : Nat) : ∀ d, (∀ a, s ≤ a → a < s + d → c a = 0) → sg c s d = 0
  | 0, _ => rfl
  | d + 1, h => by show sg c s d + c (s + d) = 0; rw [sg_z c s d (fun a x y => h a x (by omega)), h (s + d) (by omega) (by omega)]
theorem sg_l (c : Nat → Nat) (s d : Nat) (h : ∀ a, s ≤ a → a < s + d → c a = 0) : sg c s (d + 1) = c (s + d) := by
  show sg c s d + c (s + d) = _
  rw [sg_z c s d h]; omega
theorem sg_f (c : Nat → Nat) (s : Nat) : ∀ d, (∀ a, s < a → a < s + (d + 1) → c a = 0) → sg c s (d + 1) = c s
  | 0, _ => by show 0 + c (s + 0) = _; simp
  | d + 1, h => by
    show sg c s (d + 1) + c (s + (d + 1)) = _
    rw [sg_f c s d (fun a x y => h a x (by omega)), h (s + (d + 1)) (by omega) (by omega)]; omega
theorem cw_l (NF : Nat) {ob : Rec} {k m s0 : Nat} {s : Int32} {w x : Nat → Nat} (hk : 1 ≤ k ∧ k ≤ 5) (hm : m ≤ 16) (hs : s0 ≤ m) (hw : ∀ a, s0 ≤ a → a < m → gA ob 5 (n32 ((k - 1) * 17 + a)) = n32 (w a) ∧ w a ≤ 1 ∧ (¬ w a = 0 → X_symCount ob s (n32 a) (n32 m) = some (n32 (x a)))) (ht : sg (fun a => w a * x a) s0 (m - s0) ≤ 1) {fuel : Nat} (hf : 20 < fuel) :
    X_cellWays_l24 NF ob fuel (n32 k) (n32 m) s 0 (n32 s0) = some (n32 (sg (fun a => w a * x a) s0 (m - s0))) := by
  have := lpN (fun fuel d => X_cellWays_l24 NF ob fuel (n32 k) (n32 m) s (n32 (sg (fun a => w a * x a) s0 d)) (n32 (s0 + d))) (m - s0) (some (n32 (sg (fun a => w a * x a) s0 (m - s0)))) (fun f => by
    show X_cellWays_w24 NF ob _ _ _ _ _ _ = _
    unfold X_cellWays_w24
    rw [if_neg (nlt (by omega) (by omega) (by omega))]) (fun f d hd => by
    show X_cellWays_w24 NF ob (X_cellWays_l24 NF ob f) _ _ _ _ _ = X_cellWays_l24 NF ob f (n32 k) (n32 m) s (n32 (sg (fun a => w a * x a) s0 (d + 1))) (n32 (s0 + (d + 1)))
    obtain ⟨w1, w2, w3⟩ := hw (s0 + d) (by omega) (by omega)
    have ek : n32 k - 1 = n32 (k - 1) := n32_sb (j := 1) (by omega) (by omega)
    have es : n32 (s0 + d) + 1 = n32 (s0 + (d + 1)) := n32_ad (j := 1) (by omega) (by omega)
    have e1 : sg (fun a => w a * x a) s0 (d + 1) = sg (fun a => w a * x a) s0 d + w (s0 + d) * x (s0 + d) := rfl
    have mono := sg_m (fun a => w a * x a) s0 (d + 1) (m - s0 - (d + 1))
    rw [show d + 1 + (m - s0 - (d + 1)) = m - s0 by omega] at mono
    unfold X_cellWays_w24
    rw [if_pos (ylt (by omega) (by omega) (by omega)), ek, m17 (by omega), n32_ad (by omega) (by omega), ckN (m := 102) rfl (by omega) (by omega), w1, es]
    by_cases c : w (s0 + d) = 0
    · rw [c, if_pos (show n32 0 = 0 from rfl), e1, c, Nat.zero_mul]; rfl
    · have w1' : w (s0 + d) = 1 := by omega
      rw [w1'] at e1
      have em : n32 1 * n32 (x (s0 + d)) = n32 (1 * x (s0 + d)) := n32_ml (by omega) (by omega)
      rw [w1', if_neg (by decide), w3 c, Option.bind_some]
      have hm' : X_mul ob (n32 1) (n32 (x (s0 + d))) = some (n32 (1 * x (s0 + d))) := by
        unfold X_mul
        rw [em, if_pos (show _ < (2 : Int32) from ylt (n := 2) (by omega) (by omega) (by omega))]
      rw [hm', Option.bind_some]
      have ha : X_add ob (n32 (sg (fun a => w a * x a) s0 d)) (n32 (1 * x (s0 + d))) = some (n32 (sg (fun a => w a * x a) s0 d + 1 * x (s0 + d))) := by
        unfold X_add
        rw [n32_ad (by omega) (by omega), if_pos (show _ < (2 : Int32) from ylt (n := 2) (by omega) (by omega) (by omega))]
      rw [ha, Option.bind_some, e1]) (m - s0) fuel 0 (by omega) (by omega)
  exact this
abbrev F5 (ob r : Rec) : Prop := (∀ j, gI r j = gI ob j) ∧ ∀ j x, ¬ j = 5 → gA r j x = gA ob j x
theorem F5.tr {a b c : Rec} (h : F5 a b) (g : F5 b c) : F5 a c := ⟨fun j => (g.1 j).trans (h.1 j), fun j x hj => (g.2 j x hj).trans (h.2 j x hj)⟩
theorem F5.s (ob : Rec) (i v : Int32) : F5 ob (sA ob 5 i v) := ⟨fun _ => rfl, fun j x hj => by rw [gA_sA, if_neg (fun e => hj e.1)]⟩
theorem F5.fm {ob r : Rec} (h : F5 ob r) : Fm ob r := ⟨fun j _ => h.1 j, fun j x hj => h.2 j x (by omega)⟩
/-- the table of ways cleared -/
theorem clr (NF : Nat) (hNF : 300 < NF) (ob : Rec) (x1 x3 x4 : Int32) {i : Nat} (hi : i < 17) : ∃ r, X_fillWays_l11 NF NF ob x1 (n32 i) x3 x4 0 = X_fillWays_l64 NF NF r x1 (n32 i) x3 x4 1 ∧ F5 ob r ∧ (∀ x, x < 102 → gA r 5 (n32 x) = if x = i then 1 else 0) := by
  obtain ⟨r, r1, r2, r3⟩ := lpE (fun fuel ob' k => X_fillWays_l11 NF fuel ob' x1 (n32 i) x3 x4 (n32 k)) (fun r k => F5 ob r ∧ ∀ x, x < k * 17 → gA r 5 (n32 x) = 0) 6 (fun r => X_fillWays_l64 NF NF (sA r 5 (n32 i) 1) x1 (n32 i) x3 x4 1) (fun f r hq => by
    show X_fillWays_w11 NF _ r _ _ _ _ _ = _
    unfold X_fillWays_w11
    rw [if_neg (show ¬ _ < (6 : Int32) from nlt (n := 6) (by omega) (by omega) (by omega)), ckN (m := 102) rfl (by omega) (by omega)]) (fun f r k hk hq => by
    show ∃ ob', X_fillWays_w11 NF (X_fillWays_l11 NF f) r _ _ _ _ _ = X_fillWays_l11 NF f ob' x1 (n32 i) x3 x4 (n32 (k + 1)) ∧ _
    unfold X_fillWays_w11
    rw [if_pos (show _ < (6 : Int32) from ylt (n := 6) (by omega) (by omega) (by omega))]
    obtain ⟨w, w1, w2, w3⟩ := lpE (fun fuel ob' m => X_fillWays_l21 NF (X_fillWays_l11 NF f) fuel ob' x1 (n32 i) x3 x4 (n32 k) (n32 m)) (fun w m => F5 ob w ∧ ∀ x, x < k * 17 + m → gA w 5 (n32 x) = 0) 17 (fun w => X_fillWays_l11 NF f w x1 (n32 i) x3 x4 (n32 (k + 1))) (fun g w hq => by
      show X_fillWays_w21 NF _ _ w _ _ _ _ _ _ = _
      unfold X_fillWays_w21
      have e : n32 k + 1 = n32 (k + 1) := n32_ad (j := 1) (by omega) (by omega)
      rw [if_neg (show ¬ _ < (17 : Int32) from nlt (n := 17) (by omega) (by omega) (by omega)), e]) (fun g w m hm hq => by
      refine ⟨sA w 5 (n32 (k * 17 + m)) 0, ?_, hq.1.tr (F5.s w _ _), fun x hx => ?_⟩
      · show X_fillWays_w21 NF _ (X_fillWays_l21 NF (X_fillWays_l11 NF f) g) w _ _ _ _ _ _ = _
        unfold X_fillWays_w21
        have e : n32 m + 1 = n32 (m + 1) := n32_ad (j := 1) (by omega) (by omega)
        rw [if_pos (show _ < (17 : Int32) from ylt (n := 17) (by omega) (by omega) (by omega)), m17 (by omega), n32_ad (by omega) (by omega), ckN (m := 102) rfl (by omega) (by omega), e]
      · rw [gA_sA]
        by_cases c : x = k * 17 + m
        · rw [if_pos ⟨rfl, by rw [c]⟩]
        · rw [if_neg (fun e => n32_n (by omega) (by omega) c e.2)]; exact hq.2 x (by omega)) 17 NF r 0 (by omega) (by omega) ⟨hq.1, fun x hx => hq.2 x (by omega)⟩
    exact ⟨w, w1, w2, fun x hx => w3 x (by omega)⟩) 6 NF ob 0 (by omega) (by omega) ⟨⟨fun _ => rfl, fun _ _ _ => rfl⟩, fun x hx => by omega⟩
  refine ⟨sA r 5 (n32 i) 1, r1, r2.tr (F5.s r _ _), fun x hx => ?_⟩
  rw [gA_sA]
  by_cases c : x = i
  · rw [if_pos ⟨rfl, by rw [c]⟩, if_pos c]
  · rw [if_neg (fun e => n32_n (by omega) (by omega) c e.2), if_neg c]; exact r3 x hx
/-- one row of the ways -/
theorem row (NF : Nat) (hNF : 300 < NF) (ob : Rec) (k64 : Rec → Int32 → Int32 → Int32 → Int32 → Int32 → Option Rec) {x1 x3 x4 : Int32} {i k lo hi : Nat} (v : Nat → Nat) (hk : 1 ≤ k ∧ k ≤ 5) (hlo : n32 i + n32 k = n32 lo) (hhi : x3 - (x4 - n32 k) = n32 hi) (hb : lo ≤ hi + 1 ∧ hi ≤ 16)
    (hv : ∀ m, lo ≤ m → m ≤ hi → ∀ w, F5 ob w → (∀ x, x < k * 17 → gA w 5 (n32 x) = gA ob 5 (n32 x)) → X_cellWays NF w x1 (n32 k) (n32 i) (n32 m) = some (n32 (v m))) :
    ∃ r, X_fillWays_l77 NF k64 NF ob x1 (n32 i) x3 x4 (n32 k) (n32 lo) = k64 r x1 (n32 i) x3 x4 (n32 (k + 1)) ∧ F5 ob r ∧ (∀ x, x < 102 → ¬ (k * 17 + lo ≤ x ∧ x ≤ k * 17 + hi) → gA r 5 (n32 x) = gA ob 5 (n32 x)) ∧ (∀ m, lo ≤ m → m ≤ hi → gA r 5 (n32 (k * 17 + m)) = n32 (v m)) := by
  obtain ⟨r, r1, r2, r3, r4⟩ := lpE (fun fuel ob' d => X_fillWays_l77 NF k64 fuel ob' x1 (n32 i) x3 x4 (n32 k) (n32 (lo + d))) (fun r d => F5 ob r ∧ (∀ x, x < 102 → ¬ (k * 17 + lo ≤ x ∧ x < k * 17 + lo + d) → gA r 5 (n32 x) = gA ob 5 (n32 x)) ∧ (∀ m, lo ≤ m → m < lo + d → gA r 5 (n32 (k * 17 + m)) = n32 (v m))) (hi + 1 - lo) (fun r => k64 r x1 (n32 i) x3 x4 (n32 (k + 1))) (fun f r hq => by
    show X_fillWays_w77 NF _ _ r _ _ _ _ _ _ = _
    unfold X_fillWays_w77
    have e : n32 k + 1 = n32 (k + 1) := n32_ad (j := 1) (by omega) (by omega)
    rw [hhi, if_pos (ylt (by omega) (by omega) (by omega)), e]) (fun f r d hd hq => by
    refine ⟨sA r 5 (n32 (k * 17 + (lo + d))) (n32 (v (lo + d))), ?_, hq.1.tr (F5.s r _ _), fun x hx ne => ?_, fun m h1 h2 => ?_⟩
    · show X_fillWays_w77 NF _ (X_fillWays_l77 NF k64 f) r _ _ _ _ _ _ = _
      unfold X_fillWays_w77
      have e : n32 (lo + d) + 1 = n32 (lo + (d + 1)) := n32_ad (j := 1) (by omega) (by omega)
      rw [hhi, if_neg (nlt (by omega) (by omega) (by omega)), hv (lo + d) (by omega) (by omega) r hq.1 (fun x hx => hq.2.1 x (by omega) (by omega)), Option.bind_some, m17 (by omega), n32_ad (by omega) (by omega), ckN (m := 102) rfl (by omega) (by omega), e]
    · rw [gA_sA, if_neg (fun e => n32_n (by omega) (by omega) (show ¬ x = k * 17 + (lo + d) by omega) e.2)]
      exact hq.2.1 x hx (by omega)
    · rw [gA_sA]
      by_cases c : m = lo + d
      · rw [if_pos ⟨rfl, by rw [c]⟩, c]
      · rw [if_neg (fun e => n32_n (by omega) (by omega) (show ¬ k * 17 + m = k * 17 + (lo + d) by omega) e.2)]
        exact hq.2.2 m h1 (by omega)) (hi + 1 - lo) NF ob 0 (by omega) (by omega) ⟨⟨fun _ => rfl, fun _ _ _ => rfl⟩, fun _ _ _ => rfl, fun m h1 h2 => by omega⟩
  exact ⟨r, r1, r2, fun x hx ne => r3 x hx (by omega), fun m h1 h2 => r4 m h1 (by omega)⟩
/-- the ways of the rule S -> q -/
theorem fw1 (NF : Nat) (hNF : 300 < NF) {ob : Rec} {N : Nat} {P8 Q8 : Int32} (h : GP ob N P8 Q8) {i j : Nat} (hij : i < j) (hj : j ≤ 16) : ∃ r, X_fillWays NF ob 1 (n32 i) (n32 j) = some r ∧ F5 ob r ∧ (∀ a, a < 17 → gA r 5 (n32 a) = if a = i then 1 else 0) ∧ gA r 5 (n32 (17 + j)) = n32 (if j = i + 1 ∧ gA ob 3 (n32 i) = Q8 - 8 then 1 else 0) := by
  have c16 : ∀ A : Option Rec, chk 16 1 A = A := fun A => ckN (m := 16) (i := 1) rfl (by omega) (by omega)
  obtain ⟨w, w1, w2, w3⟩ := clr NF hNF ob 1 (n32 j) (gA ob 1 1) (i := i) (by omega)
  have e1 : n32 i + n32 1 = n32 (i + 1) := n32_ad (by omega) (by omega)
  obtain ⟨r, r1, r2, r3, r4⟩ := row NF hNF w (X_fillWays_l64 NF (NF - 1)) (x1 := 1) (x3 := n32 j) (x4 := 1) (i := i) (k := 1) (lo := i + 1) (hi := j) (fun m => if m = i + 1 ∧ gA ob 3 (n32 i) = Q8 - 8 then 1 else 0) (by omega) e1 (by
    have : (1 : Int32) - n32 1 = n32 0 := rfl
    rw [this, n32_sb (by omega) (by omega)]; rfl) (by omega) (fun m m1 m2 u u1 u2 => by
    unfold X_cellWays
    have e5 : (1 : Int32) * 5 + n32 1 - 1 = n32 5 := by decide
    have es : n32 i + n32 1 - 1 = n32 i := by rw [e1]; exact n32_sb (j := 1) (by omega) (by omega)
    have gq : gA u 2 (n32 5) = Q8 := by rw [u1.2 2 _ (by decide), w2.2 2 _ (by decide)]; exact h.sy.2.2
    have gi : gA u 3 (n32 i) = gA ob 3 (n32 i) := by rw [u1.2 3 _ (by decide), w2.2 3 _ (by decide)]
    rw [e5, ckN (m := 80) rfl (by omega) (by omega), gq, es]
    have key : sg (fun a => (if a = i then 1 else 0) * (if m = a + 1 ∧ gA u 3 (n32 a) = Q8 - 8 then 1 else 0)) i (m - i) = (if m = i + 1 ∧ gA ob 3 (n32 i) = Q8 - 8 then 1 else 0) := by
      rw [show m - i = (m - i - 1) + 1 by omega, sg_f _ _ _ (fun a x y => by rw [if_neg (by omega), Nat.zero_mul]), if_pos rfl, Nat.one_mul, gi]
    rw [cw_l NF (k := 1) (m := m) (s0 := i) (s := Q8) (w := fun a => if a = i then 1 else 0) (x := fun a => if m = a + 1 ∧ gA u 3 (n32 a) = Q8 - 8 then 1 else 0) (by omega) (by omega) (by omega) (fun a x y => ⟨by
      show gA u 5 (n32 (0 * 17 + a)) = _
      rw [Nat.zero_mul, Nat.zero_add, u2 a (by omega), w3 a (by omega)]
      by_cases c : a = i
      · rw [if_pos c, if_pos c]; rfl
      · rw [if_neg c, if_neg c]; rfl, by split <;> omega, fun _ => sy_t u h.pq.2 (by omega) (by omega) (by omega)⟩) (by rw [key]; split <;> omega) (by omega), key])
  refine ⟨r, ?_, w2.tr r2, fun a ha => ?_, ?_⟩
  · unfold X_fillWays
    rw [c16, w1, h.ln.2]
    obtain ⟨g, hg⟩ : ∃ g, NF = g + 1 := ⟨NF - 1, by omega⟩
    have s1' : X_fillWays_l64 NF NF w 1 (n32 i) (n32 j) 1 1 = X_fillWays_w64 NF (X_fillWays_l64 NF (NF - 1)) w 1 (n32 i) (n32 j) 1 1 := by
      have : X_fillWays_l64 NF (NF - 1 + 1) w 1 (n32 i) (n32 j) 1 1 = X_fillWays_w64 NF (X_fillWays_l64 NF (NF - 1)) w 1 (n32 i) (n32 j) 1 1 := rfl
      rw [show NF - 1 + 1 = NF by omega] at this; exact this
    rw [s1']
    unfold X_fillWays_w64
    have e1' : n32 i + 1 = n32 (i + 1) := e1
    rw [if_neg (by decide), e1']
    have r1' : X_fillWays_l77 NF (X_fillWays_l64 NF (NF - 1)) NF w 1 (n32 i) (n32 j) 1 1 (n32 (i + 1)) = X_fillWays_l64 NF (NF - 1) r 1 (n32 i) (n32 j) 1 2 := r1
    rw [r1']
    have s2 : X_fillWays_l64 NF (NF - 2 + 1) r 1 (n32 i) (n32 j) 1 2 = X_fillWays_w64 NF (X_fillWays_l64 NF (NF - 2)) r 1 (n32 i) (n32 j) 1 2 := rfl
    rw [show NF - 2 + 1 = NF - 1 by omega] at s2
    rw [s2]
    unfold X_fillWays_w64
    rw [if_pos (by decide)]
  · rw [r3 a (by omega) (by omega), w3 a (by omega)]
  · exact r4 j (by omega) (by omega)
/-- the ways of the rule S -> S p -/
theorem fw0 (NF : Nat) (hNF : 300 < NF) {ob : Rec} {N : Nat} {P8 Q8 : Int32} (h : GP ob N P8 Q8) {i j : Nat} (hij : i < j) (hj : j ≤ 16) (C : Nat → Nat) (hC : ∀ m, i < m → m < j → gA ob 4 (ix 0 i m) = n32 (C m) ∧ C m ≤ 1) :
    ∃ r, X_fillWays NF ob 0 (n32 i) (n32 j) = some r ∧ F5 ob r ∧ (∀ a, a < 17 → gA r 5 (n32 a) = if a = i then 1 else 0) ∧ (∀ a, i < a → a < j → gA r 5 (n32 (17 + a)) = n32 (C a)) ∧ gA r 5 (n32 (34 + j)) = n32 (if i + 2 ≤ j ∧ gA ob 3 (n32 (j - 1)) = P8 - 8 then C (j - 1) else 0) := by
  have c16 : ∀ A : Option Rec, chk 16 0 A = A := fun A => ckN (m := 16) (i := 0) rfl (by omega) (by omega)
  obtain ⟨w, w1, w2, w3⟩ := clr NF hNF ob 0 (n32 j) (gA ob 1 0) (i := i) (by omega)
  have e1 : n32 i + n32 1 = n32 (i + 1) := n32_ad (by omega) (by omega)
  have e2 : n32 i + n32 2 = n32 (i + 2) := n32_ad (by omega) (by omega)
  obtain ⟨r, r1, r2, r3, r4⟩ := row NF hNF w (X_fillWays_l64 NF (NF - 1)) (x1 := 0) (x3 := n32 j) (x4 := 2) (i := i) (k := 1) (lo := i + 1) (hi := j - 1) C (by omega) e1 (by
    have : (2 : Int32) - n32 1 = n32 1 := by decide
    rw [this, n32_sb (by omega) (by omega)]) (by omega) (fun m m1 m2 u u1 u2 => by
    unfold X_cellWays
    have e5 : (0 : Int32) * 5 + n32 1 - 1 = n32 0 := by decide
    have es : n32 i + n32 1 - 1 = n32 i := by rw [e1]; exact n32_sb (j := 1) (by omega) (by omega)
    have gq : gA u 2 (n32 0) = 0 := by rw [u1.2 2 _ (by decide), w2.2 2 _ (by decide)]; exact h.sy.1
    have gc : gA u 4 (ix 0 i m) = n32 (C m) := by rw [u1.2 4 _ (by decide), w2.2 4 _ (by decide)]; exact (hC m (by omega) (by omega)).1
    have cb := (hC m (by omega) (by omega)).2
    rw [e5, ckN (m := 80) rfl (by omega) (by omega), gq, es]
    have key : sg (fun a => (if a = i then 1 else 0) * (if a = i then C m else 0)) i (m - i) = C m := by
      rw [show m - i = (m - i - 1) + 1 by omega, sg_f _ _ _ (fun a x y => by rw [if_neg (by omega), Nat.zero_mul]), if_pos rfl, if_pos rfl, Nat.one_mul]
    rw [cw_l NF (k := 1) (m := m) (s0 := i) (s := 0) (w := fun a => if a = i then 1 else 0) (x := fun a => if a = i then C m else 0) (by omega) (by omega) (by omega) (fun a x y => ⟨by
      show gA u 5 (n32 (0 * 17 + a)) = _
      rw [Nat.zero_mul, Nat.zero_add, u2 a (by omega), w3 a (by omega)]
      by_cases c : a = i
      · rw [if_pos c, if_pos c]; rfl
      · rw [if_neg c, if_neg c]; rfl, by split <;> omega, fun ne => by
      have c : a = i := by
        by_cases c : a = i
        · exact c
        · exact absurd (if_neg c) ne
      rw [c, if_pos rfl, sy_n u (by omega) (by omega) (by omega), gc]⟩) (by rw [key]; exact cb) (by omega), key])
  have rr0 : ∀ a, a < 17 → gA r 5 (n32 a) = if a = i then 1 else 0 := fun a ha => by rw [r3 a (by omega) (by omega), w3 a (by omega)]
  have rr1 : ∀ a, i < a → a < j → gA r 5 (n32 (17 + a)) = n32 (C a) := fun a a1 a2 => by
    have := r4 a (by omega) (by omega)
    rw [show 1 * 17 + a = 17 + a by omega] at this; exact this
  obtain ⟨t, t1, t2, t3, t4⟩ := row NF hNF r (X_fillWays_l64 NF (NF - 2)) (x1 := 0) (x3 := n32 j) (x4 := 2) (i := i) (k := 2) (lo := i + 2) (hi := j) (fun m => if gA ob 3 (n32 (m - 1)) = P8 - 8 then C (m - 1) else 0) (by omega) e2 (by
    have : (2 : Int32) - n32 2 = n32 0 := by decide
    rw [this, n32_sb (by omega) (by omega)]; rfl) (by omega) (fun m m1 m2 u u1 u2 => by
    unfold X_cellWays
    have e5 : (0 : Int32) * 5 + n32 2 - 1 = n32 1 := by decide
    have es : n32 i + n32 2 - 1 = n32 (i + 1) := by rw [e2]; exact n32_sb (j := 1) (by omega) (by omega)
    have gq : gA u 2 (n32 1) = P8 := by rw [u1.2 2 _ (by decide), r2.2 2 _ (by decide), w2.2 2 _ (by decide)]; exact h.sy.2.1
    have gi : ∀ x, gA u 3 x = gA ob 3 x := fun x => by rw [u1.2 3 _ (by decide), r2.2 3 _ (by decide), w2.2 3 _ (by decide)]
    rw [e5, ckN (m := 80) rfl (by omega) (by omega), gq, es]
    have key : sg (fun a => C a * (if m = a + 1 ∧ gA u 3 (n32 a) = P8 - 8 then 1 else 0)) (i + 1) (m - (i + 1)) = (if gA ob 3 (n32 (m - 1)) = P8 - 8 then C (m - 1) else 0) := by
      rw [show m - (i + 1) = (m - (i + 2)) + 1 by omega, sg_l _ _ _ (fun a x y => by rw [if_neg (fun z => by omega), Nat.mul_zero]), show i + 1 + (m - (i + 2)) = m - 1 by omega, gi]
      by_cases c : gA ob 3 (n32 (m - 1)) = P8 - 8
      · rw [if_pos ⟨by omega, c⟩, if_pos c, Nat.mul_one]
      · rw [if_neg (fun z => c z.2), if_neg c, Nat.mul_zero]
    rw [cw_l NF (k := 2) (m := m) (s0 := i + 1) (s := P8) (w := C) (x := fun a => if m = a + 1 ∧ gA u 3 (n32 a) = P8 - 8 then 1 else 0) (by omega) (by omega) (by omega) (fun a x y => ⟨by
      show gA u 5 (n32 (1 * 17 + a)) = _
      rw [show 1 * 17 + a = 17 + a by omega, u2 (17 + a) (by omega), rr1 a (by omega) (by omega)], (hC a (by omega) (by omega)).2, fun _ => sy_t u h.pq.1 (by omega) (by omega) (by omega)⟩) (by rw [key]; have := (hC (m - 1) (by omega) (by omega)).2; split <;> omega) (by omega), key])
  refine ⟨t, ?_, (w2.tr r2).tr t2, fun a ha => ?_, fun a a1 a2 => ?_, ?_⟩
  · unfold X_fillWays
    rw [c16, w1, h.ln.1]
    have s1' : X_fillWays_l64 NF NF w 0 (n32 i) (n32 j) 2 1 = X_fillWays_w64 NF (X_fillWays_l64 NF (NF - 1)) w 0 (n32 i) (n32 j) 2 1 := by
      have : X_fillWays_l64 NF (NF - 1 + 1) w 0 (n32 i) (n32 j) 2 1 = X_fillWays_w64 NF (X_fillWays_l64 NF (NF - 1)) w 0 (n32 i) (n32 j) 2 1 := rfl
      rw [show NF - 1 + 1 = NF by omega] at this; exact this
    rw [s1']
    unfold X_fillWays_w64
    have e1' : n32 i + 1 = n32 (i + 1) := e1
    rw [if_neg (by decide), e1']
    have r1' : X_fillWays_l77 NF (X_fillWays_l64 NF (NF - 1)) NF w 0 (n32 i) (n32 j) 2 1 (n32 (i + 1)) = X_fillWays_l64 NF (NF - 1) r 0 (n32 i) (n32 j) 2 2 := r1
    rw [r1']
    have s2 : X_fillWays_l64 NF (NF - 2 + 1) r 0 (n32 i) (n32 j) 2 2 = X_fillWays_w64 NF (X_fillWays_l64 NF (NF - 2)) r 0 (n32 i) (n32 j) 2 2 := rfl
    rw [show NF - 2 + 1 = NF - 1 by omega] at s2
    rw [s2]
    unfold X_fillWays_w64
    have e2' : n32 i + 2 = n32 (i + 2) := e2
    rw [if_neg (by decide), e2']
    have t1' : X_fillWays_l77 NF (X_fillWays_l64 NF (NF - 2)) NF r 0 (n32 i) (n32 j) 2 2 (n32 (i + 2)) = X_fillWays_l64 NF (NF - 2) t 0 (n32 i) (n32 j) 2 3 := t1
    rw [t1']
    have s3 : X_fillWays_l64 NF (NF - 3 + 1) t 0 (n32 i) (n32 j) 2 3 = X_fillWays_w64 NF (X_fillWays_l64 NF (NF - 3)) t 0 (n32 i) (n32 j) 2 3 := rfl
    rw [show NF - 3 + 1 = NF - 2 by omega] at s3
    rw [s3]
    unfold X_fillWays_w64
    rw [if_pos (by decide)]
  · rw [t3 a (by omega) (by omega), rr0 a ha]
  · rw [t3 (17 + a) (by omega) (by omega), rr1 a a1 a2]
  · by_cases c : i + 2 ≤ j
    · have := t4 j c (Nat.le_refl _)
      rw [show 2 * 17 + j = 34 + j by omega] at this
      rw [this]
      by_cases d : gA ob 3 (n32 (j - 1)) = P8 - 8
      · rw [if_pos d, if_pos ⟨c, d⟩]
      · rw [if_neg d, if_neg (fun z => d z.2)]
    · rw [if_neg (fun z => c z.1), t3 (34 + j) (by omega) (by omega), r3 (34 + j) (by omega) (by omega), w3 (34 + j) (by omega), if_neg (by omega)]; rfl
theorem sc0 (NF : Nat) (hNF : 300 < NF) {ob : Rec} {N : Nat} {P8 Q8 : Int32} (h : GP ob N P8 Q8) {i j : Nat} (hij : i < j) (hj : j ≤ 16) (C : Nat → Nat) (hC : ∀ m, i < m → m < j → gA ob 4 (ix 0 i m) = n32 (C m) ∧ C m ≤ 1) :
    ∃ r, X_splitCount NF ob 0 (n32 i) (n32 j) = some (n32 (if i + 2 ≤ j ∧ gA ob 3 (n32 (j - 1)) = P8 - 8 then C (j - 1) else 0), r) ∧ F5 ob r := by
  obtain ⟨r, r1, r2, -, -, r5⟩ := fw0 NF hNF h hij hj C hC
  refine ⟨r, ?_, r2⟩
  have c16 : ∀ A : Option (Int32 × Rec), chk 16 0 A = A := fun A => ckN (m := 16) (i := 0) rfl (by omega) (by omega)
  have e : (2 : Int32) * 17 + n32 j = n32 (34 + j) := n32_ad (i := 34) (by omega) (by omega)
  unfold X_splitCount
  rw [r1, Option.bind_some, c16, (h.fr r2.fm).ln.1, e, ckN (m := 102) rfl (by omega) (by omega), r5]
theorem sc1 (NF : Nat) (hNF : 300 < NF) {ob : Rec} {N : Nat} {P8 Q8 : Int32} (h : GP ob N P8 Q8) {i j : Nat} (hij : i < j) (hj : j ≤ 16) :
    ∃ r, X_splitCount NF ob 1 (n32 i) (n32 j) = some (n32 (if j = i + 1 ∧ gA ob 3 (n32 i) = Q8 - 8 then 1 else 0), r) ∧ F5 ob r := by
  obtain ⟨r, r1, r2, -, r5⟩ := fw1 NF hNF h hij hj
  refine ⟨r, ?_, r2⟩
  have c16 : ∀ A : Option (Int32 × Rec), chk 16 1 A = A := fun A => ckN (m := 16) (i := 1) rfl (by omega) (by omega)
  have e : (1 : Int32) * 17 + n32 j = n32 (17 + j) := n32_ad (i := 17) (by omega) (by omega)
  unfold X_splitCount
  rw [r1, Option.bind_some, c16, (h.fr r2.fm).ln.2, e, ckN (m := 102) rfl (by omega) (by omega), r5]
/-- no unit rules -/
theorem au (NF : Nat) (hNF : 300 < NF) {ob : Rec} {N : Nat} {P8 Q8 : Int32} (h : GP ob N P8 Q8) (a x y : Int32) : X_addUnits NF ob a x y = some ob := by
  unfold X_addUnits X_idx
  rw [Option.bind_some]
  generalize a * 289 + x * 17 + y = w
  have c16 : ∀ (k : Nat) (A : Option Rec), k < 2 → chk 16 (n32 k) A = A := fun k A hk => ckN (m := 16) rfl (by omega) (by omega)
  have := lpN (fun fuel k => X_addUnits_l12 NF fuel ob a x y w (n32 k)) 2 (some ob) (fun f => by
    show X_addUnits_w12 NF _ ob _ _ _ _ _ = _
    unfold X_addUnits_w12
    rw [h.n3, if_neg (by decide)]) (fun f k hk => by
    show X_addUnits_w12 NF (X_addUnits_l12 NF f) ob _ _ _ _ _ = X_addUnits_l12 NF f ob a x y w (n32 (k + 1))
    unfold X_addUnits_w12
    have e : n32 k + 1 = n32 (k + 1) := n32_ad (j := 1) (by omega) (by omega)
    have iu : X_isUnit ob (n32 k) = some 0 := by
      rcases (show k = 0 ∨ k = 1 by omega) with z | z
      · rw [z]; exact iu_0 h
      · rw [z]; exact iu_1 h
    rw [h.n3, if_pos (show n32 k < (2 : Int32) from ylt (n := 2) (by omega) (by omega) hk), c16 k _ hk, e, iu, Option.bind_some, if_pos rfl]
    by_cases c : gA ob 0 (n32 k) = a
    · rw [if_pos c]
    · rw [if_neg c]) 2 NF 0 (by omega) (by omega)
  exact this
abbrev F45 (ob r : Rec) : Prop := (∀ j, gI r j = gI ob j) ∧ ∀ j x, ¬ j = 4 → ¬ j = 5 → gA r j x = gA ob j x
theorem F45.fm {ob r : Rec} (h : F45 ob r) : Fm ob r := ⟨fun j _ => h.1 j, fun j x hj => h.2 j x (by omega) (by omega)⟩
theorem F45.tr {a b c : Rec} (h : F45 a b) (g : F45 b c) : F45 a c := ⟨fun j => (g.1 j).trans (h.1 j), fun j x hj hj' => (g.2 j x hj hj').trans (h.2 j x hj hj')⟩
theorem F5.f {ob r : Rec} (h : F5 ob r) : F45 ob r := ⟨h.1, fun j x _ hj => h.2 j x hj⟩
theorem F45.s (ob : Rec) (i v : Int32) : F45 ob (sA ob 4 i v) := ⟨fun _ => rfl, fun j x hj _ => by rw [gA_sA, if_neg (fun e => hj e.1)]⟩
/-- one span of the chart -/
theorem cs_e (NF : Nat) (hNF : 300 < NF) {ob : Rec} {N : Nat} {P8 Q8 : Int32} (h : GP ob N P8 Q8) {i j : Nat} (hij : i < j) (hj : j ≤ 16) (C : Nat → Nat) (hC : ∀ m, i < m → m < j → gA ob 4 (ix 0 i m) = n32 (C m) ∧ C m ≤ 1) :
    ∃ r, X_computeSpan NF ob (n32 i) (n32 j) = some r ∧ F45 ob r ∧ gA r 4 (ix 0 i j) = n32 ((if i + 2 ≤ j ∧ gA ob 3 (n32 (j - 1)) = P8 - 8 then C (j - 1) else 0) + (if j = i + 1 ∧ gA ob 3 (n32 i) = Q8 - 8 then 1 else 0)) ∧ (∀ i' j', i' < 16 → j' < 17 → ¬ (i' = i ∧ j' = j) → gA r 4 (ix 0 i' j') = gA ob 4 (ix 0 i' j')) := by
  unfold X_computeSpan
  obtain ⟨r, r1, ⟨r2, r2'⟩, r3, r4⟩ := lpE (fun fuel ob' a => X_computeSpan_l2 NF fuel ob' (n32 i) (n32 j) (n32 a)) (fun r a => ((∀ j, gI r j = gI ob j) ∧ ∀ j x, ¬ j = 4 → gA r j x = gA ob j x) ∧ (1 ≤ a → gA r 4 (ix 0 i j) = 0) ∧ (∀ i' j', i' < 16 → j' < 17 → ¬ (i' = i ∧ j' = j) → gA r 4 (ix 0 i' j') = gA ob 4 (ix 0 i' j'))) 8 (fun r => X_computeSpan_l29 NF NF r (n32 i) (n32 j) 0) (fun f r hq => by
    show X_computeSpan_w2 NF _ r _ _ _ = _
    unfold X_computeSpan_w2
    rw [if_neg (show ¬ n32 8 < (8 : Int32) by decide)]) (fun f r a ha hq => by
    refine ⟨sA r 4 (ix a i j) 0, ?_, ⟨hq.1.1, fun k x hk => by rw [gA_sA, if_neg (fun e => hk e.1)]; exact hq.1.2 k x hk⟩, fun _ => ?_, fun i' j' hi' hj' ne => ?_⟩
    · show X_computeSpan_w2 NF (X_computeSpan_l2 NF f) r _ _ _ = _
      unfold X_computeSpan_w2
      have e : n32 a + 1 = n32 (a + 1) := n32_ad (j := 1) (by omega) (by omega)
      rw [if_pos (show n32 a < (8 : Int32) from ylt (n := 8) (by omega) (by omega) ha), ix_e r ha (by omega) (by omega), Option.bind_some, ix_k ha (by omega) (by omega), e]
    · rw [gA_sA]
      by_cases c : a = 0
      · rw [if_pos ⟨rfl, by rw [c]⟩]
      · rw [if_neg (fun e => n32_n (by omega) (by omega) (show ¬ 0 * 289 + i * 17 + j = a * 289 + i * 17 + j by omega) e.2)]
        exact hq.2.1 (by omega)
    · rw [gA_sA, if_neg (fun e => n32_n (by omega) (by omega) (show ¬ 0 * 289 + i' * 17 + j' = a * 289 + i * 17 + j by omega) e.2)]
      exact hq.2.2 i' j' hi' hj' ne) 8 NF ob 0 (by omega) (by omega) ⟨⟨fun _ => rfl, fun _ _ _ => rfl⟩, fun z => by omega, fun _ _ _ _ _ => rfl⟩
  have r1' : X_computeSpan_l2 NF NF ob (n32 i) (n32 j) 0 = X_computeSpan_l29 NF NF r (n32 i) (n32 j) 0 := r1
  have fr : F45 ob r := ⟨r2, fun j x hj _ => r2' j x hj⟩
  have hr := h.fr fr.fm
  obtain ⟨s, s1', s2⟩ := sc0 NF hNF hr hij hj C (fun m m1 m2 => by rw [r4 i m (by omega) (by omega) (by omega)]; exact hC m m1 m2)
  have hs := hr.fr s2.fm
  have v0 : gA s 4 (ix 0 i j) = 0 := by rw [s2.2 4 _ (by decide)]; exact r3 (by omega)
  have e3 : gA r 3 (n32 (j - 1)) = gA ob 3 (n32 (j - 1)) := r2' 3 _ (by decide)
  rw [e3] at s1'
  have cj : i + 2 ≤ j → C (j - 1) ≤ 1 := fun z => (hC (j - 1) (by omega) (by omega)).2
  generalize hA : (if i + 2 ≤ j ∧ gA ob 3 (n32 (j - 1)) = P8 - 8 then C (j - 1) else 0) = A at s1' ⊢
  have A1 : A ≤ 1 := by
    rw [← hA]
    by_cases c : i + 2 ≤ j ∧ gA ob 3 (n32 (j - 1)) = P8 - 8
    · rw [if_pos c]; exact cj c.1
    · rw [if_neg c]; omega
  have hu := hs.fr (F45.s s (ix 0 i j) (n32 A)).fm
  obtain ⟨t, t1, t2⟩ := sc1 NF hNF hu hij hj
  have e3' : gA (sA s 4 (ix 0 i j) (n32 A)) 3 (n32 i) = gA ob 3 (n32 i) := by rw [gA_sA, if_neg (fun e => absurd e.1 (by decide)), s2.2 3 _ (by decide), r2' 3 _ (by decide)]
  rw [e3'] at t1
  have ht := hu.fr t2.fm
  have v1 : gA t 4 (ix 0 i j) = n32 A := by rw [t2.2 4 _ (by decide), gA_sA, if_pos ⟨rfl, rfl⟩]
  generalize hB : (if j = i + 1 ∧ gA ob 3 (n32 i) = Q8 - 8 then 1 else 0) = B at t1 ⊢
  have AB : A + B ≤ 1 := by
    rw [← hB]
    by_cases c : j = i + 1 ∧ gA ob 3 (n32 i) = Q8 - 8
    · rw [if_pos c, ← hA, if_neg (fun z => by omega)]; omega
    · rw [if_neg c]; omega
  have c16 : ∀ (k : Nat) (A : Option Rec), k < 2 → chk 16 (n32 k) A = A := fun k A hk => ckN (m := 16) rfl (by omega) (by omega)
  have x0 : ∀ ob, X_idx ob 0 (n32 i) (n32 j) = some (ix 0 i j) := fun ob => ix_e ob (a := 0) (by omega) (by omega) (by omega)
  have kx : ∀ A : Option Rec, chk 2312 (ix 0 i j) A = A := fun A => ix_k (by omega) (by omega) (by omega)
  refine ⟨sA t 4 (ix 0 i j) (n32 (A + B)), ?_, (fr.tr (s2.f.tr ((F45.s s _ _).tr t2.f))).tr (F45.s t _ _), by rw [gA_sA, if_pos ⟨rfl, rfl⟩], fun i' j' hi' hj' ne => ?_⟩
  · rw [r1']
    obtain ⟨g, hg⟩ : ∃ g, NF = g + 3 := ⟨NF - 3, by omega⟩
    have st0 : X_computeSpan_l29 NF NF r (n32 i) (n32 j) 0 = X_computeSpan_w29 NF (X_computeSpan_l29 NF (g + 2)) r (n32 i) (n32 j) 0 := by
      have : X_computeSpan_l29 NF (g + 2 + 1) r (n32 i) (n32 j) 0 = X_computeSpan_w29 NF (X_computeSpan_l29 NF (g + 2)) r (n32 i) (n32 j) 0 := rfl
      rw [show g + 2 + 1 = NF by omega] at this; exact this
    have a1 : X_add s (gA s 4 (ix 0 i j)) (n32 A) = some (n32 A) := by
      unfold X_add
      have : (0 : Int32) + n32 A = n32 A := by rw [show (0 : Int32) = n32 0 from rfl, n32_ad (by omega) (by omega), Nat.zero_add]
      rw [v0, this, if_pos (show n32 A < (2 : Int32) from ylt (n := 2) (by omega) (by omega) (by omega))]
    have a2 : X_add t (gA t 4 (ix 0 i j)) (n32 B) = some (n32 (A + B)) := by
      unfold X_add
      rw [v1, n32_ad (by omega) (by omega), if_pos (show n32 (A + B) < (2 : Int32) from ylt (n := 2) (by omega) (by omega) (by omega))]
    rw [st0]
    unfold X_computeSpan_w29
    have k0 : chk (γ := Rec) 16 0 = fun A => A := funext fun A => c16 0 A (by omega)
    rw [hr.n3, if_pos (by decide), iu_0 hr, Option.bind_some, if_pos rfl, s1', bind2_some, k0, hs.hd.1, x0, Option.bind_some, kx, a1, Option.bind_some, kx]
    show X_computeSpan_w29 NF (X_computeSpan_l29 NF (g + 1)) (sA s 4 (ix 0 i j) (n32 A)) (n32 i) (n32 j) 1 = _
    unfold X_computeSpan_w29
    have k1 : chk (γ := Rec) 16 1 = fun A => A := funext fun A => c16 1 A (by omega)
    rw [hu.n3, if_pos (by decide), iu_1 hu, Option.bind_some, if_pos rfl, t1, bind2_some, k1, ht.hd.2, x0, Option.bind_some, kx, a2, Option.bind_some, kx]
    show X_computeSpan_w29 NF (X_computeSpan_l29 NF g) (sA t 4 (ix 0 i j) (n32 (A + B))) (n32 i) (n32 j) 2 = _
    have hz := ht.fr (F45.s t (ix 0 i j) (n32 (A + B))).fm
    unfold X_computeSpan_w29
    rw [hz.n3, if_neg (by decide)]
    have := lpN (fun fuel k => X_computeSpan_l96 NF fuel (sA t 4 (ix 0 i j) (n32 (A + B))) (n32 i) (n32 j) (n32 k)) 8 (some (sA t 4 (ix 0 i j) (n32 (A + B)))) (fun f => by
      show X_computeSpan_w96 NF _ _ _ _ _ = _
      unfold X_computeSpan_w96
      rw [if_neg (show ¬ n32 8 < (8 : Int32) by decide)]) (fun f k hk => by
      show X_computeSpan_w96 NF (X_computeSpan_l96 NF f) _ _ _ _ = X_computeSpan_l96 NF f _ (n32 i) (n32 j) (n32 (k + 1))
      unfold X_computeSpan_w96
      have e : n32 k + 1 = n32 (k + 1) := n32_ad (j := 1) (by omega) (by omega)
      rw [if_pos (show n32 k < (8 : Int32) from ylt (n := 8) (by omega) (by omega) hk), ckN (m := 8) rfl hk (by omega), au NF hNF hz, Option.bind_some, e]) 8 NF 0 (by omega) (by omega)
    exact this
  · have ne' : ¬ ix 0 i' j' = ix 0 i j := n32_n (by omega) (by omega) (by omega)
    rw [gA_sA, if_neg (fun e => ne' e.2), t2.2 4 _ (by decide), gA_sA, if_neg (fun e => ne' e.2), s2.2 4 _ (by decide)]
    exact r4 i' j' hi' hj' ne
/-- the trees of a span: 0 or 1 -/
def gv (b : Nat → Int32) (p q : Int32) (i : Nat) : Nat → Nat
  | 0 => 0
  | l + 1 => if l = 0 then (if b i = q then 1 else 0) else (if b (i + l) = p then gv b p q i l else 0)
theorem gv_b (b : Nat → Int32) (p q : Int32) (i : Nat) : ∀ l, gv b p q i l ≤ 1
  | 0 => Nat.zero_le _
  | l + 1 => by
    show (if l = 0 then (if b i = q then 1 else 0) else (if b (i + l) = p then gv b p q i l else 0)) ≤ 1
    have := gv_b b p q i l
    split
    · split <;> omega
    · split <;> omega
def inp (ob : Rec) (m : Nat) : Int32 := gA ob 3 (n32 m)
abbrev CH (ob : Rec) (P8 Q8 : Int32) (i j : Nat) : Prop := gA ob 4 (ix 0 i j) = n32 (gv (inp ob) (P8 - 8) (Q8 - 8) i (j - i))
theorem inp_f {ob r : Rec} (h : Fm ob r) : inp r = inp ob := funext fun m => h.2 3 _ (by omega)
/-- the chart -/
theorem bc_e (NF : Nat) (hNF : 300 < NF) {ob : Rec} {N : Nat} {P8 Q8 : Int32} (h : GP ob N P8 Q8) (hN : 1 ≤ N ∧ N ≤ 16) : ∃ r, X_buildChart NF ob = some r ∧ F45 ob r ∧ ∀ i j, i < j → j ≤ N → CH r P8 Q8 i j := by
  unfold X_buildChart
  obtain ⟨r, r1, r2, r3⟩ := lpE (fun fuel ob' l => X_buildChart_l2 NF fuel ob' (n32 (l + 1))) (fun r l => F45 ob r ∧ ∀ i j, i < j → j ≤ N → j - i ≤ l → CH r P8 Q8 i j) N (fun r => some r) (fun f r hq => by
    show X_buildChart_w2 NF _ r _ = _
    unfold X_buildChart_w2
    rw [(h.fr hq.1.fm).n4, if_pos (ylt (by omega) (by omega) (by omega))]) (fun f r l hl hq => by
    show ∃ ob', X_buildChart_w2 NF (X_buildChart_l2 NF f) r (n32 (l + 1)) = X_buildChart_l2 NF f ob' (n32 (l + 1 + 1)) ∧ _
    unfold X_buildChart_w2
    rw [(h.fr hq.1.fm).n4, if_neg (nlt (by omega) (by omega) (by omega))]
    obtain ⟨w, w1, w2, w3⟩ := lpE (fun fuel ob' i => X_buildChart_l12 NF (X_buildChart_l2 NF f) fuel ob' (n32 (l + 1)) (n32 i)) (fun w i => F45 ob w ∧ ∀ i' j', i' < j' → j' ≤ N → (j' - i' ≤ l ∨ (j' - i' = l + 1 ∧ i' < i)) → CH w P8 Q8 i' j') (N - l) (fun w => X_buildChart_l2 NF f w (n32 (l + 1 + 1))) (fun g w hq => by
      show X_buildChart_w12 NF _ _ w _ _ = _
      unfold X_buildChart_w12
      have e : n32 (l + 1) + 1 = n32 (l + 1 + 1) := n32_ad (j := 1) (by omega) (by omega)
      rw [(h.fr hq.1.fm).n4, n32_ad (by omega) (by omega), if_pos (ylt (by omega) (by omega) (by omega)), e]) (fun g w i hi hq => by
      have hw := h.fr hq.1.fm
      have iw := inp_f hq.1.fm
      obtain ⟨u, u1, u2, u3, u4⟩ := cs_e NF hNF hw (i := i) (j := i + (l + 1)) (by omega) (by omega) (fun m => gv (inp w) (P8 - 8) (Q8 - 8) i (m - i)) (fun m m1 m2 => ⟨hq.2 i m m1 (by omega) (by omega), gv_b _ _ _ _ _⟩)
      have iu := inp_f u2.fm
      refine ⟨u, ?_, hq.1.tr u2, fun i' j' h1 h2 h3 => ?_⟩
      · show X_buildChart_w12 NF _ (X_buildChart_l12 NF (X_buildChart_l2 NF f) g) w _ _ = _
        unfold X_buildChart_w12
        have e : n32 i + 1 = n32 (i + 1) := n32_ad (j := 1) (by omega) (by omega)
        rw [hw.n4, n32_ad (by omega) (by omega), if_neg (nlt (by omega) (by omega) (by omega)), u1, Option.bind_some, e]
      · by_cases c : i' = i ∧ j' = i + (l + 1)
        · show gA u 4 (ix 0 i' j') = n32 (gv (inp u) (P8 - 8) (Q8 - 8) i' (j' - i'))
          rw [c.1, c.2, u3, iu, show i + (l + 1) - i = l + 1 by omega]
          show n32 _ = n32 (if l = 0 then (if inp w i = Q8 - 8 then 1 else 0) else (if inp w (i + l) = P8 - 8 then gv (inp w) (P8 - 8) (Q8 - 8) i l else 0))
          congr 1
          by_cases d : l = 0
          · rw [if_neg (fun z => by omega), if_pos d, Nat.zero_add]
            by_cases e : inp w i = Q8 - 8
            · rw [if_pos e, if_pos ⟨by omega, e⟩]
            · rw [if_neg e, if_neg (fun z => e z.2)]
          · rw [if_neg (show ¬ (i + (l + 1) = i + 1 ∧ gA w 3 (n32 i) = Q8 - 8) from fun z => d (by omega)), if_neg d, Nat.add_zero, show i + (l + 1) - 1 = i + l by omega, show i + l - i = l by omega]
            by_cases e : inp w (i + l) = P8 - 8
            · rw [if_pos e, if_pos ⟨by omega, e⟩]
            · rw [if_neg e, if_neg (fun z => e z.2)]
        · show gA u 4 (ix 0 i' j') = n32 (gv (inp u) (P8 - 8) (Q8 - 8) i' (j' - i'))
          rw [u4 i' j' (by omega) (by omega) c, iu]
          exact hq.2 i' j' h1 h2 (by omega)) (N - l) NF r 0 (by omega) (by omega) ⟨hq.1, fun i' j' h1 h2 h3 => hq.2 i' j' h1 h2 (by omega)⟩
    exact ⟨w, w1, w2, fun i' j' h1 h2 h3 => w3 i' j' h1 h2 (by omega)⟩) N NF ob 0 (by omega) (by omega) ⟨⟨fun _ => rfl, fun _ _ _ _ => rfl⟩, fun i j h1 h2 h3 => by omega⟩
  exact ⟨r, r1, r2, fun i j h1 h2 => r3 i j h1 h2 (by omega)⟩
/-- the state while the tree is read -/
abbrev EX (ob : Rec) (N l : Nat) (P8 Q8 : Int32) : Prop := (GP ob N P8 Q8) ∧ (∀ j, 0 < j → j ≤ N → gA ob 4 (ix 0 0 j) = 1) ∧ (∀ m, 1 ≤ m → m < N → gA ob 3 (n32 m) = P8 - 8) ∧ (gA ob 3 (n32 0) = Q8 - 8) ∧ (gI ob 5 = 1) ∧ (gI ob 6 = n32 (N - l)) ∧ (∀ t, t < N - l → gA ob 8 (n32 t) = if t = N - 1 then 1 else 0) ∧ (gI ob 7 = if l = 0 then 0 else 1) ∧ (¬ l = 0 → gA ob 9 0 = 0 ∧ gA ob 10 0 = 0 ∧ gA ob 11 0 = n32 l)
theorem EX.gp {ob : Rec} {N l : Nat} {P8 Q8 : Int32} (h : EX ob N l P8 Q8) : GP ob N P8 Q8 := h.1
theorem EX.ch {ob : Rec} {N l : Nat} {P8 Q8 : Int32} (h : EX ob N l P8 Q8) : ∀ j, 0 < j → j ≤ N → gA ob 4 (ix 0 0 j) = 1 := h.2.1
theorem EX.pp {ob : Rec} {N l : Nat} {P8 Q8 : Int32} (h : EX ob N l P8 Q8) : ∀ m, 1 ≤ m → m < N → gA ob 3 (n32 m) = P8 - 8 := h.2.2.1
theorem EX.qq {ob : Rec} {N l : Nat} {P8 Q8 : Int32} (h : EX ob N l P8 Q8) : gA ob 3 (n32 0) = Q8 - 8 := h.2.2.2.1
theorem EX.r5 {ob : Rec} {N l : Nat} {P8 Q8 : Int32} (h : EX ob N l P8 Q8) : gI ob 5 = 1 := h.2.2.2.2.1
theorem EX.dl {ob : Rec} {N l : Nat} {P8 Q8 : Int32} (h : EX ob N l P8 Q8) : gI ob 6 = n32 (N - l) := h.2.2.2.2.2.1
theorem EX.dv {ob : Rec} {N l : Nat} {P8 Q8 : Int32} (h : EX ob N l P8 Q8) : ∀ t, t < N - l → gA ob 8 (n32 t) = if t = N - 1 then 1 else 0 := h.2.2.2.2.2.2.1
theorem EX.sp {ob : Rec} {N l : Nat} {P8 Q8 : Int32} (h : EX ob N l P8 Q8) : gI ob 7 = if l = 0 then 0 else 1 := h.2.2.2.2.2.2.2.1
theorem EX.st {ob : Rec} {N l : Nat} {P8 Q8 : Int32} (h : EX ob N l P8 Q8) : ¬ l = 0 → gA ob 9 0 = 0 ∧ gA ob 10 0 = 0 ∧ gA ob 11 0 = n32 l := h.2.2.2.2.2.2.2.2
theorem fs_l (NF : Nat) {ob : Rec} {k m s0 t : Nat} {s : Int32} (hk : 1 ≤ k ∧ k ≤ 5) (hm : m ≤ 16) (hs : s0 ≤ t ∧ t < m) (hw : ∀ a, s0 ≤ a → a ≤ t → ¬ gA ob 5 (n32 ((k - 1) * 17 + a)) = 0) (hx : ∀ a, s0 ≤ a → a < t → X_symCount ob s (n32 a) (n32 m) = some 0) {v : Int32} (ht : X_symCount ob s (n32 t) (n32 m) = some v) (hv : ¬ v = 0) {fuel : Nat} (hf : 20 < fuel) :
    X_findSplit_l7 NF ob fuel (n32 k) s (n32 m) (n32 s0) = some (n32 t) := by
  have ek : n32 k - 1 = n32 (k - 1) := n32_sb (j := 1) (by omega) (by omega)
  have := lpN (fun fuel d => X_findSplit_l7 NF ob fuel (n32 k) s (n32 m) (n32 (s0 + d))) (t - s0) (some (n32 t)) (fun f => by
    show X_findSplit_w7 NF ob _ _ _ _ _ = _
    unfold X_findSplit_w7
    rw [show s0 + (t - s0) = t by omega, if_pos (ylt (by omega) (by omega) (by omega)), ek, m17 (by omega), n32_ad (by omega) (by omega), ckN (m := 102) rfl (by omega) (by omega), if_neg (hw t (by omega) (by omega)), ht, Option.bind_some, if_neg hv]) (fun f d hd => by
    show X_findSplit_w7 NF ob (X_findSplit_l7 NF ob f) _ _ _ _ = X_findSplit_l7 NF ob f (n32 k) s (n32 m) (n32 (s0 + (d + 1)))
    unfold X_findSplit_w7
    have es : n32 (s0 + d) + 1 = n32 (s0 + (d + 1)) := n32_ad (j := 1) (by omega) (by omega)
    rw [if_pos (ylt (by omega) (by omega) (by omega)), ek, m17 (by omega), n32_ad (by omega) (by omega), ckN (m := 102) rfl (by omega) (by omega), if_neg (hw (s0 + d) (by omega) (by omega)), hx (s0 + d) (by omega) (by omega), Option.bind_some, if_pos rfl, es]) (t - s0) fuel 0 (by omega) (by omega)
  exact this
theorem psh (ob : Rec) {k : Nat} (h : gI ob 7 = n32 k) (hk : k < 256) (a b c : Int32) : X_push ob a b c = some (sI (sA (sA (sA ob 9 (n32 k) a) 10 (n32 k) b) 11 (n32 k) c) 7 (n32 (k + 1))) := by
  have e : n32 k + 1 = n32 (k + 1) := n32_ad (j := 1) (by omega) (by omega)
  have q : ∀ A : Option Rec, chk 256 (n32 k) A = A := fun A => ckN (m := 256) rfl hk (by omega)
  unfold X_push; rw [h, if_pos (show n32 k < (256 : Int32) from ylt (n := 256) (by omega) (by omega) hk), q, q, q, e]
/-- expand S -> S p over [0, l) -/
theorem exp0 (NF : Nat) (hNF : 300 < NF) {ob : Rec} {N l : Nat} {P8 Q8 : Int32} (h : GP ob N P8 Q8) (hl : 2 ≤ l ∧ l ≤ 16) (hc : ∀ j, 0 < j → j < l → gA ob 4 (ix 0 0 j) = 1) (hp : gA ob 3 (n32 (l - 1)) = P8 - 8) (h7 : gI ob 7 = 0) :
    ∃ r, X_expand NF ob 0 0 (n32 l) = some r ∧ (∀ j, ¬ j = 7 → gI r j = gI ob j) ∧ gI r 7 = 1 ∧ (∀ j x, j ≤ 8 → ¬ j = 5 → gA r j x = gA ob j x) ∧ gA r 9 0 = 0 ∧ gA r 10 0 = 0 ∧ gA r 11 0 = n32 (l - 1) := by
  obtain ⟨w, w1, w2, w3, w4, -⟩ := fw0 NF hNF h (i := 0) (j := l) (by omega) hl.2 (fun _ => 1) (fun m m1 m2 => ⟨hc m m1 m2, Nat.le_refl _⟩)
  have hw := h.fr w2.fm
  have w1' : X_fillWays NF ob 0 0 (n32 l) = some w := w1
  have c16 : chk (γ := Rec) 16 0 = fun A => A := funext fun A => ckN (m := 16) (i := 0) rfl (by omega) (by omega)
  have c80 : ∀ (k : Nat) (A : Option Rec), k < 80 → chk 80 (n32 k) A = A := fun k A hk => ckN (m := 80) rfl hk (by omega)
  have k1 : chk (γ := Rec) 80 1 = fun A => A := funext fun A => c80 1 A (by omega)
  have k0 : chk (γ := Rec) 80 0 = fun A => A := funext fun A => c80 0 A (by omega)
  have f2 : X_findSplit NF w 2 P8 0 (n32 l) = some (n32 (l - 1)) := by
    unfold X_findSplit
    have e : (0 : Int32) + 2 - 1 = n32 1 := by decide
    rw [e]
    have gp : ∀ a, gA w 3 (n32 a) = gA ob 3 (n32 a) := fun a => w2.2 3 _ (by decide)
    exact fs_l NF (k := 2) (m := l) (s0 := 1) (t := l - 1) (v := 1) (by omega) hl.2 (by omega) (fun a a1 a2 => by
      show ¬ gA w 5 (n32 (1 * 17 + a)) = 0
      rw [show 1 * 17 + a = 17 + a by omega, w4 a (by omega) (by omega)]; decide) (fun a a1 a2 => by
      rw [sy_t w h.pq.1 (by omega) (by omega) (by omega), if_neg (fun z => by omega)]; rfl) (by
      rw [sy_t w h.pq.1 (by omega) (by omega) (by omega), if_pos ⟨by omega, by rw [gp]; exact hp⟩]; rfl) (by decide) (by omega)
  have f1 : X_findSplit NF w 1 0 0 (n32 (l - 1)) = some 0 := by
    unfold X_findSplit
    have e : (0 : Int32) + 1 - 1 = n32 0 := by decide
    rw [e]
    exact fs_l NF (k := 1) (m := l - 1) (s0 := 0) (t := 0) (v := 1) (by omega) (by omega) (by omega) (fun a a1 a2 => by
      show ¬ gA w 5 (n32 (0 * 17 + a)) = 0
      rw [show 0 * 17 + a = a by omega, w3 a (by omega), if_pos (by omega)]; decide) (fun a a1 a2 => by omega) (by
      rw [sy_n w (by omega) (by omega) (by omega), w2.2 4 _ (by decide), hc (l - 1) (by omega) (by omega)]) (by decide) (by omega)
  have h7w : gI w 7 = n32 0 := by rw [w2.1 7]; exact h7
  have pu := psh w h7w (by omega) 0 0 (n32 (l - 1))
  generalize hz : sI (sA (sA (sA w 9 (n32 0) 0) 10 (n32 0) 0) 11 (n32 0) (n32 (l - 1))) 7 (n32 (0 + 1)) = z at pu
  have zi : ∀ j, ¬ j = 7 → gI z j = gI ob j := fun j hj => by rw [← hz, gI_sI, if_neg hj]; exact w2.1 j
  have z7 : gI z 7 = 1 := by rw [← hz]; rfl
  have za : ∀ j x, j ≤ 8 → ¬ j = 5 → gA z j x = gA ob j x := fun j x hj hj5 => by
    rw [← hz, gA_sI, gA_sA, if_neg (fun e => by omega), gA_sA, if_neg (fun e => by omega), gA_sA, if_neg (fun e => by omega)]; exact w2.2 j x hj5
  have z9 : gA z 9 0 = 0 ∧ gA z 10 0 = 0 ∧ gA z 11 0 = n32 (l - 1) := by rw [← hz]; simp [gA_sA, gA_sI, n32_z]
  refine ⟨z, ?_, zi, z7, za, z9⟩
  · unfold X_expand
    rw [iu_0 h, Option.bind_some, if_pos rfl, w1', Option.bind_some, c16, hw.ln.1]
    obtain ⟨g, hg⟩ : ∃ g, NF = g + 3 := ⟨NF - 3, by omega⟩
    have st0 : X_expand_l41 NF NF w 0 0 (n32 l) 2 = X_expand_w41 NF (X_expand_l41 NF (g + 2)) w 0 0 (n32 l) 2 := by
      have : X_expand_l41 NF (g + 2 + 1) w 0 0 (n32 l) 2 = X_expand_w41 NF (X_expand_l41 NF (g + 2)) w 0 0 (n32 l) 2 := rfl
      rw [show g + 2 + 1 = NF by omega] at this; exact this
    show X_expand_l41 NF NF w 0 0 (n32 l) 2 = _
    rw [st0]
    unfold X_expand_w41
    have i1 : (0 : Int32) * 5 + 2 - 1 = 1 := by decide
    have i0 : (0 : Int32) * 5 + 1 - 1 = 0 := by decide
    have d2 : (2 : Int32) + -1 = 1 := by decide
    have d1 : (1 : Int32) + -1 = 0 := by decide
    rw [if_neg (by decide), i1, k1, hw.sy.2.1, f2, Option.bind_some, if_neg (nneg (by rw [nt _ (by omega)]; omega)), if_neg h.pq.1, d2]
    show X_expand_w41 NF (X_expand_l41 NF (g + 1)) w 0 0 (n32 (l - 1)) 1 = _
    unfold X_expand_w41
    rw [if_neg (by decide), i0, k0, hw.sy.1, f1, Option.bind_some, if_neg (by decide), if_pos (by decide), pu, Option.bind_some, d1]
    show X_expand_w41 NF (X_expand_l41 NF g) _ 0 0 0 0 = _
    unfold X_expand_w41
    rw [if_pos (by decide)]
/-- expand S -> q over [0, 1) -/
theorem exp1 (NF : Nat) (hNF : 300 < NF) {ob : Rec} {N : Nat} {P8 Q8 : Int32} (h : GP ob N P8 Q8) (hq : gA ob 3 (n32 0) = Q8 - 8) :
    ∃ r, X_expand NF ob 1 0 (n32 1) = some r ∧ F5 ob r := by
  obtain ⟨w, w1, w2, w3, -⟩ := fw1 NF hNF h (i := 0) (j := 1) (by omega) (by omega)
  have hw := h.fr w2.fm
  have w1' : X_fillWays NF ob 1 0 (n32 1) = some w := w1
  have c16 : chk (γ := Rec) 16 1 = fun A => A := funext fun A => ckN (m := 16) (i := 1) rfl (by omega) (by omega)
  have k5 : chk (γ := Rec) 80 5 = fun A => A := funext fun A => ckN (m := 80) (i := 5) rfl (by omega) (by omega)
  have f1 : X_findSplit NF w 1 Q8 0 (n32 1) = some 0 := by
    unfold X_findSplit
    have e : (0 : Int32) + 1 - 1 = n32 0 := by decide
    rw [e]
    exact fs_l NF (k := 1) (m := 1) (s0 := 0) (t := 0) (v := 1) (by omega) (by omega) (by omega) (fun a a1 a2 => by
      show ¬ gA w 5 (n32 (0 * 17 + a)) = 0
      rw [show 0 * 17 + a = a by omega, w3 a (by omega), if_pos (by omega)]; decide) (fun a a1 a2 => by omega) (by
      rw [sy_t w h.pq.2 (by omega) (by omega) (by omega), if_pos ⟨by omega, by rw [w2.2 3 _ (by decide)]; exact hq⟩]; rfl) (by decide) (by omega)
  refine ⟨w, ?_, w2⟩
  unfold X_expand
  rw [iu_1 h, Option.bind_some, if_pos rfl, w1', Option.bind_some, c16, hw.ln.2]
  obtain ⟨g, hg⟩ : ∃ g, NF = g + 2 := ⟨NF - 2, by omega⟩
  have st0 : X_expand_l41 NF NF w 1 0 (n32 1) 1 = X_expand_w41 NF (X_expand_l41 NF (g + 1)) w 1 0 (n32 1) 1 := by
    have : X_expand_l41 NF (g + 1 + 1) w 1 0 (n32 1) 1 = X_expand_w41 NF (X_expand_l41 NF (g + 1)) w 1 0 (n32 1) 1 := rfl
    rw [show g + 1 + 1 = NF by omega] at this; exact this
  show X_expand_l41 NF NF w 1 0 (n32 1) 1 = _
  rw [st0]
  unfold X_expand_w41
  have i5 : (1 : Int32) * 5 + 1 - 1 = 5 := by decide
  have d1 : (1 : Int32) + -1 = 0 := by decide
  rw [if_neg (by decide), i5, k5, hw.sy.2.2, f1, Option.bind_some, if_neg (by decide), if_neg h.pq.2, d1]
  show X_expand_w41 NF (X_expand_l41 NF g) w 1 0 0 0 = _
  unfold X_expand_w41
  rw [if_pos (by decide)]
theorem rs0 (NF : Nat) (hNF : 300 < NF) {ob : Rec} {N l : Nat} {P8 Q8 : Int32} (h : GP ob N P8 Q8) (hl : 1 ≤ l ∧ l ≤ 16) (hc : ∀ j, 0 < j → j < l → gA ob 4 (ix 0 0 j) = 1) :
    ∃ r, X_ruleSpanCount NF ob 0 0 (n32 l) = some (n32 (if 2 ≤ l ∧ gA ob 3 (n32 (l - 1)) = P8 - 8 then 1 else 0), r) ∧ F5 ob r := by
  obtain ⟨r, r1, r2⟩ := sc0 NF hNF h (i := 0) (j := l) (by omega) hl.2 (fun _ => 1) (fun m m1 m2 => ⟨hc m m1 m2, Nat.le_refl _⟩)
  refine ⟨r, ?_, r2⟩
  have r1' : X_splitCount NF ob 0 0 (n32 l) = some (n32 (if 0 + 2 ≤ l ∧ gA ob 3 (n32 (l - 1)) = P8 - 8 then 1 else 0), r) := r1
  unfold X_ruleSpanCount
  rw [iu_0 h, Option.bind_some, if_pos rfl, r1', bind2_some, show (0 + 2 : Nat) = 2 from rfl]
theorem rs1 (NF : Nat) (hNF : 300 < NF) {ob : Rec} {N l : Nat} {P8 Q8 : Int32} (h : GP ob N P8 Q8) (hl : 1 ≤ l ∧ l ≤ 16) :
    ∃ r, X_ruleSpanCount NF ob 1 0 (n32 l) = some (n32 (if l = 1 ∧ gA ob 3 (n32 0) = Q8 - 8 then 1 else 0), r) ∧ F5 ob r := by
  obtain ⟨r, r1, r2⟩ := sc1 NF hNF h (i := 0) (j := l) (by omega) hl.2
  refine ⟨r, ?_, r2⟩
  have r1' : X_splitCount NF ob 1 0 (n32 l) = some (n32 (if l = 0 + 1 ∧ gA ob 3 (n32 0) = Q8 - 8 then 1 else 0), r) := r1
  unfold X_ruleSpanCount
  rw [iu_1 h, Option.bind_some, if_pos rfl, r1', bind2_some, show (0 + 1 : Nat) = 1 from rfl]
theorem fr_e (NF : Nat) (hNF : 300 < NF) {ob : Rec} {N l : Nat} {P8 Q8 : Int32} (h : GP ob N P8 Q8) (hl : 1 ≤ l ∧ l ≤ 16) (hc : ∀ j, 0 < j → j < l → gA ob 4 (ix 0 0 j) = 1) (hp : 2 ≤ l → gA ob 3 (n32 (l - 1)) = P8 - 8) (hq : gA ob 3 (n32 0) = Q8 - 8) :
    ∃ r, X_findRule NF ob 0 0 (n32 l) = some (if l = 1 then 1 else 0, r) ∧ F5 ob r := by
  obtain ⟨r, r1, r2⟩ := rs0 NF hNF h hl hc
  have hr := h.fr r2.fm
  have k0 : chk (γ := Int32 × Rec) 16 0 = fun A => A := funext fun A => ckN (m := 16) (i := 0) rfl (by omega) (by omega)
  have k1 : chk (γ := Int32 × Rec) 16 1 = fun A => A := funext fun A => ckN (m := 16) (i := 1) rfl (by omega) (by omega)
  obtain ⟨g, hg⟩ : ∃ g, NF = g + 2 := ⟨NF - 2, by omega⟩
  have st0 : X_findRule_l3 NF NF ob 0 0 (n32 l) 0 = X_findRule_w3 NF (X_findRule_l3 NF (g + 1)) ob 0 0 (n32 l) 0 := by
    have : X_findRule_l3 NF (g + 1 + 1) ob 0 0 (n32 l) 0 = X_findRule_w3 NF (X_findRule_l3 NF (g + 1)) ob 0 0 (n32 l) 0 := rfl
    rw [show g + 1 + 1 = NF by omega] at this; exact this
  unfold X_findRule
  rw [st0]
  unfold X_findRule_w3
  rw [h.n3, if_pos (by decide), k0, if_pos h.hd.1, r1, bind2_some]
  by_cases c : l = 1
  · obtain ⟨s, s1', s2⟩ := rs1 NF hNF hr hl
    have hq' : gA r 3 (n32 0) = Q8 - 8 := by rw [r2.2 3 _ (by decide)]; exact hq
    refine ⟨s, ?_, r2.tr s2⟩
    rw [if_neg (show ¬ (2 ≤ l ∧ gA ob 3 (n32 (l - 1)) = P8 - 8) from fun z => by omega), if_neg (show ¬ (0 : Int32) < n32 0 by decide), if_pos c]
    show X_findRule_w3 NF (X_findRule_l3 NF g) r 0 0 (n32 l) 1 = _
    unfold X_findRule_w3
    rw [hr.n3, if_pos (by decide), k1, if_pos hr.hd.2, s1', bind2_some, if_pos (show l = 1 ∧ gA r 3 (n32 0) = Q8 - 8 from ⟨c, hq'⟩), if_pos (show (0 : Int32) < n32 1 by decide)]
  · refine ⟨r, ?_, r2⟩
    rw [if_pos (show 2 ≤ l ∧ gA ob 3 (n32 (l - 1)) = P8 - 8 from ⟨by omega, hp (by omega)⟩), if_pos (show (0 : Int32) < n32 1 by decide), if_neg c]
/-- one round of the reading -/
theorem ex_r (NF : Nat) (hNF : 300 < NF) {ob : Rec} {N l : Nat} {P8 Q8 : Int32} (h : EX ob N l P8 Q8) (hl : 1 ≤ l ∧ l ≤ N) (hN : N ≤ 16) (k22 : Rec → Int32 → Option Rec) {i1 : Int32} (hi : i1 < 256) : ∃ r, X_extract_w22 NF k22 ob i1 = k22 r (i1 + 1) ∧ EX r N (l - 1) P8 Q8 := by
  have l0 : ¬ l = 0 := by omega
  obtain ⟨s9, s10, s11⟩ := h.st l0
  have s7 : gI ob 7 = 1 := by rw [h.sp, if_neg l0]
  have e0 : (1 : Int32) - 1 = 0 := by decide
  have kk : chk (γ := Rec) 256 0 = fun A => A := funext fun A => ckN (m := 256) (i := 0) rfl (by omega) (by omega)
  have f0 : Fm ob (sI ob 7 0) := ⟨fun j hj => by rw [gI_sI, if_neg (by omega)], fun _ _ _ => rfl⟩
  have h0 := h.gp.fr f0
  obtain ⟨q, q1, q2⟩ := fr_e NF hNF h0 (l := l) ⟨hl.1, by omega⟩ (fun j j1 j2 => h.ch j j1 (by omega)) (fun z => h.pp (l - 1) (by omega) (by omega)) h.qq
  have q6 : gI q 6 = n32 (N - l) := by rw [q2.1 6]; exact h.dl
  have q7 : gI q 7 = 0 := q2.1 7
  have d1 : n32 (N - l) + 1 = n32 (N - (l - 1)) := by rw [show N - (l - 1) = N - l + 1 by omega]; exact n32_ad (j := 1) (by omega) (by omega)
  unfold X_extract_w22
  rw [if_pos hi, s7, if_neg (by decide), e0, kk, s9, s10, s11, q1, bind2_some, if_neg (by split <;> decide), q6, if_pos (show n32 (N - l) < (256 : Int32) from ylt (n := 256) (by omega) (by omega) (by omega)), ckN (m := 256) rfl (by omega) (by omega), d1]
  generalize hu : sI (sA q 8 (n32 (N - l)) (if l = 1 then 1 else 0)) 6 (n32 (N - (l - 1))) = u
  have ui : ∀ j, ¬ j = 6 → gI u j = gI q j := fun j hj => by rw [← hu, gI_sI, if_neg hj]; rfl
  have ua : ∀ j x, ¬ j = 8 → gA u j x = gA q j x := fun j x hj => by rw [← hu, gA_sI, gA_sA, if_neg (fun e => hj e.1)]
  have fu : Fm ob u := (f0.tr q2.fm).tr ⟨fun j hj => ui j (by omega), fun j x hj => ua j x (by omega)⟩
  have gu := h.gp.fr fu
  have u4 : ∀ x, gA u 4 x = gA ob 4 x := fun x => by rw [ua 4 x (by decide), q2.2 4 x (by decide)]; rfl
  have u3 : ∀ x, gA u 3 x = gA ob 3 x := fun x => fu.2 3 x (by omega)
  have u6 : gI u 6 = n32 (N - (l - 1)) := by rw [← hu]; rfl
  have u5 : gI u 5 = 1 := by rw [ui 5 (by decide), q2.1 5]; exact h.r5
  have u7 : gI u 7 = 0 := (ui 7 (by decide)).trans q7
  have u8 : ∀ t, t < N - (l - 1) → gA u 8 (n32 t) = if t = N - 1 then 1 else 0 := fun t ht => by
    rw [← hu, gA_sI, gA_sA]
    by_cases c : t = N - l
    · rw [if_pos ⟨rfl, by rw [c]⟩]
      by_cases d : l = 1
      · rw [if_pos d, if_pos (by omega)]
      · rw [if_neg d, if_neg (by omega)]
    · rw [if_neg (fun e => n32_n (by omega) (by omega) c e.2), q2.2 8 _ (by decide)]
      exact h.dv t (by omega)
  by_cases c : l = 1
  · obtain ⟨r, r1, r2⟩ := exp1 NF hNF gu (by rw [u3]; exact h.qq)
    have r1' : X_expand NF u (if l = 1 then 1 else 0) 0 (n32 l) = some r := by rw [if_pos c, c]; exact r1
    refine ⟨r, by rw [r1', Option.bind_some], gu.fr r2.fm, fun j j1 j2 => ?_, fun m m1 m2 => ?_, ?_, ?_, ?_, fun t ht => ?_, ?_, fun z => absurd (by omega) z⟩
    · rw [r2.2 4 _ (by decide), u4]; exact h.ch j j1 j2
    · rw [r2.2 3 _ (by decide), u3]; exact h.pp m m1 m2
    · rw [r2.2 3 _ (by decide), u3]; exact h.qq
    · rw [r2.1 5]; exact u5
    · rw [r2.1 6]; exact u6
    · rw [r2.2 8 _ (by decide)]; exact u8 t ht
    · rw [r2.1 7, u7, if_pos (by omega)]
  · obtain ⟨r, r1, r2, r3, r4, r5, r6, r7⟩ := exp0 NF hNF gu (l := l) (by omega) (fun j j1 j2 => by rw [u4]; exact h.ch j j1 (by omega)) (by rw [u3]; exact h.pp (l - 1) (by omega) (by omega)) u7
    have r1' : X_expand NF u (if l = 1 then 1 else 0) 0 (n32 l) = some r := by rw [if_neg c]; exact r1
    refine ⟨r, by rw [r1', Option.bind_some], gu.fr ⟨fun j hj => r2 j (by omega), fun j x hj => r4 j x (by omega) (by omega)⟩, fun j j1 j2 => ?_, fun m m1 m2 => ?_, ?_, ?_, ?_, fun t ht => ?_, ?_, fun z => ⟨r5, r6, r7⟩⟩
    · rw [r4 4 _ (by decide) (by decide), u4]; exact h.ch j j1 j2
    · rw [r4 3 _ (by decide) (by decide), u3]; exact h.pp m m1 m2
    · rw [r4 3 _ (by decide) (by decide), u3]; exact h.qq
    · rw [r2 5 (by decide)]; exact u5
    · rw [r2 6 (by decide)]; exact u6
    · rw [r4 8 _ (by decide) (by decide)]; exact u8 t ht
    · rw [r3, if_neg (by omega)]
theorem ex_e (NF : Nat) (hNF : 300 < NF) {N : Nat} {P8 Q8 : Int32} (hN : 1 ≤ N ∧ N ≤ 16) : ∀ (l fuel : Nat) (ob : Rec), l ≤ N → l < fuel → EX ob N l P8 Q8 → ∃ r, X_extract_l22 NF fuel ob (n32 (N - l)) = some r ∧ EX r N 0 P8 Q8 := by
  intro l
  induction l with
  | zero =>
    intro fuel ob hl hf h
    obtain ⟨g, rfl⟩ : ∃ g, fuel = g + 1 := ⟨fuel - 1, by omega⟩
    refine ⟨ob, ?_, h⟩
    show X_extract_w22 NF _ ob _ = _
    unfold X_extract_w22
    rw [if_pos (show n32 (N - 0) < (256 : Int32) from ylt (n := 256) (by omega) (by omega) (by omega)), h.sp, if_pos rfl]
    rfl
  | succ l ih =>
    intro fuel ob hl hf h
    obtain ⟨g, rfl⟩ : ∃ g, fuel = g + 1 := ⟨fuel - 1, by omega⟩
    obtain ⟨r, r1, r2⟩ := ex_r NF hNF h (by omega) hN.2 (X_extract_l22 NF g) (i1 := n32 (N - (l + 1))) (ylt (n := 256) (by omega) (by omega) (by omega))
    have e : n32 (N - (l + 1)) + 1 = n32 (N - l) := by rw [show N - l = N - (l + 1) + 1 by omega]; exact n32_ad (j := 1) (by omega) (by omega)
    show ∃ r, X_extract_w22 NF (X_extract_l22 NF g) ob (n32 (N - (l + 1))) = some r ∧ _
    rw [r1, e]
    exact ih g r (by omega) (by omega) r2
theorem gv_1 {b : Nat → Int32} {p q : Int32} : ∀ N, 1 ≤ N → gv b p q 0 N = 1 → b 0 = q ∧ (∀ m, 1 ≤ m → m < N → b m = p) ∧ ∀ j, 1 ≤ j → j ≤ N → gv b p q 0 j = 1
  | 0, h, _ => by omega
  | N + 1, _, e => by
    have e' : (if N = 0 then (if b 0 = q then 1 else 0) else (if b (0 + N) = p then gv b p q 0 N else 0)) = 1 := e
    by_cases c : N = 0
    · rw [if_pos c] at e'
      have bq : b 0 = q := by
        by_cases d : b 0 = q
        · exact d
        · rw [if_neg d] at e'; omega
      refine ⟨bq, fun m m1 m2 => by omega, fun j j1 j2 => ?_⟩
      rw [show j = N + 1 by omega]; exact e
    · rw [if_neg c, Nat.zero_add] at e'
      by_cases d : b N = p
      · rw [if_pos d] at e'
        obtain ⟨a1, a2, a3⟩ := gv_1 N (by omega) e'
        refine ⟨a1, fun m m1 m2 => ?_, fun j j1 j2 => ?_⟩
        · by_cases z : m = N
          · rw [z]; exact d
          · exact a2 m m1 (by omega)
        · by_cases z : j = N + 1
          · rw [z]; exact e
          · exact a3 j j1 (by omega)
      · rw [if_neg d] at e'; omega
theorem prs (NF : Nat) (hNF : 300 < NF) {ob : Rec} {N : Nat} {P8 Q8 : Int32} (h : GP ob N P8 Q8) (h2 : gI ob 2 = 1) (hN : 1 ≤ N ∧ N ≤ 16) :
    (gv (inp ob) (P8 - 8) (Q8 - 8) 0 N = 1 → ∃ r, X_parse NF ob = some (1, r) ∧ EX r N 0 P8 Q8) ∧ (gv (inp ob) (P8 - 8) (Q8 - 8) 0 N = 0 → ∃ r, X_parse NF ob = some (0, r) ∧ gI r 5 = 0) := by
  have f0 : Fm ob (sI ob 6 0) := ⟨fun j hj => by rw [gI_sI, if_neg (by omega)], fun _ _ _ => rfl⟩
  obtain ⟨r, r1, r2, r3⟩ := bc_e NF hNF (h.fr f0) hN
  have fr := f0.tr r2.fm
  have hr := h.fr fr
  have ir := inp_f fr
  have n0 : ¬ n32 N = 0 := n32_n (j := 0) (by omega) (by omega) (by omega)
  have xi : X_idx r 0 0 (n32 N) = some (ix 0 0 N) := ix_e r (a := 0) (i := 0) (by omega) (by omega) (by omega)
  have kx : ∀ A : Option (Int32 × Rec), chk 2312 (ix 0 0 N) A = A := fun A => ix_k (by omega) (by omega) (by omega)
  have cN' : gA r 4 (ix 0 0 N) = n32 (gv (inp ob) (P8 - 8) (Q8 - 8) 0 N) := by
    have := r3 0 N (by omega) (Nat.le_refl _)
    unfold CH at this
    rw [ir, Nat.sub_zero] at this; exact this
  unfold X_parse
  rw [if_pos h2, h.n4, if_neg n0, r1, Option.bind_some, hr.n4, xi, Option.bind_some, kx, cN']
  refine ⟨fun e => ?_, fun e => ?_⟩
  · rw [e, if_pos (show n32 1 = 1 from rfl)]
    obtain ⟨a1, a2, a3⟩ := gv_1 N hN.1 e
    have eg : gI (sI r 5 (n32 1)) 4 = n32 N := hr.n4
    unfold X_extract
    rw [eg]
    have pu := psh (sI (sI (sI r 5 (n32 1)) 7 0) 6 0) (k := 0) rfl (by omega) 0 0 (n32 N)
    rw [pu, Option.bind_some]
    generalize hz : sI (sA (sA (sA (sI (sI (sI r 5 (n32 1)) 7 0) 6 0) 9 (n32 0) 0) 10 (n32 0) 0) 11 (n32 0) (n32 N)) 7 (n32 (0 + 1)) = z
    have zi : ∀ j, j ≤ 4 → gI z j = gI r j := fun j hj => by rw [← hz]; simp [gI_sI, gI_sA, show ¬ j = 7 by omega, show ¬ j = 6 by omega, show ¬ j = 5 by omega]
    have za : ∀ j x, j ≤ 8 → gA z j x = gA r j x := fun j x hj => by rw [← hz]; simp [gA_sI, gA_sA, show ¬ j = 9 by omega, show ¬ j = 10 by omega, show ¬ j = 11 by omega]
    have z5 : gI z 5 = 1 ∧ gI z 6 = 0 ∧ gI z 7 = 1 := by rw [← hz]; exact ⟨rfl, rfl, rfl⟩
    have z9 : gA z 9 0 = 0 ∧ gA z 10 0 = 0 ∧ gA z 11 0 = n32 N := by rw [← hz]; simp [gA_sI, gA_sA, n32_z]
    have hz' : GP z N P8 Q8 := hr.fr ⟨zi, fun j x hj => za j x (by omega)⟩
    have ib : ∀ m, gA z 3 (n32 m) = inp ob m := fun m => by rw [za 3 _ (by omega)]; exact congrFun ir m
    have ex : EX z N N P8 Q8 := ⟨hz', fun j j1 j2 => by
      rw [za 4 _ (by omega)]
      have := r3 0 j (by omega) j2
      unfold CH at this
      rw [ir, Nat.sub_zero, a3 j j1 j2] at this; exact this, fun m m1 m2 => by rw [ib]; exact a2 m m1 m2, by rw [ib]; exact a1, z5.1, by rw [Nat.sub_self]; exact z5.2.1, fun t ht => by omega, by rw [if_neg (by omega)]; exact z5.2.2, fun _ => z9⟩
    obtain ⟨w, w1, w2⟩ := ex_e NF hNF hN N NF z (Nat.le_refl _) (by omega) ex
    rw [Nat.sub_self] at w1
    have w1' : X_extract_l22 NF NF z 0 = some w := w1
    rw [w1', Option.bind_some]
    exact ⟨w, rfl, w2⟩
  · rw [e, if_neg (show ¬ n32 0 = 1 by decide)]
    exact ⟨_, rfl, rfl⟩
theorem bgr {ob : Rec} {k : Nat} (h2 : gI ob 2 = 0) (h3 : gI ob 3 = n32 k) (h0 : gI ob 0 = 16) (hk : k < 16) : X_beginRule ob 0 = some (0, sI (sA (sA ob 0 (n32 k) 0) 1 (n32 k) 0) 3 (n32 (k + 1))) := by
  have e : n32 k + 1 = n32 (k + 1) := n32_ad (j := 1) (by omega) (by omega)
  have q : ∀ A : Option (Int32 × Rec), chk 16 (n32 k) A = A := fun A => ckN (m := 16) rfl hk (by omega)
  unfold X_beginRule
  rw [if_pos h2, if_neg (by decide), if_neg (by decide), h3, h0, if_pos (show n32 k < (16 : Int32) from ylt (n := 16) (by omega) (by omega) hk), q, q, e]
theorem ads {ob : Rec} {k m : Nat} {s : Int32} (h2 : gI ob 2 = 0) (h3 : gI ob 3 = n32 (k + 1)) (hl : gA ob 1 (n32 k) = n32 m) (hk : k < 15) (hm : m < 5) (hs : 0 ≤ s.toInt ∧ s.toInt ≤ 15) : X_addSymbol ob s = some (0, sA (sA ob 2 (n32 (k * 5 + m)) s) 1 (n32 k) (n32 (m + 1))) := by
  have e : n32 (k + 1) - 1 = n32 k := n32_sb (j := 1) (by omega) (by omega)
  have e' : n32 m + 1 = n32 (m + 1) := n32_ad (j := 1) (by omega) (by omega)
  have q : ∀ A : Option (Int32 × Rec), chk 16 (n32 k) A = A := fun A => ckN (m := 16) rfl (by omega) (by omega)
  unfold X_addSymbol
  rw [if_pos h2, if_neg (nneg hs.1), if_neg (show ¬ (15 : Int32) < s by rw [lt_i]; show ¬ (15 : Int) < s.toInt; omega), h3, if_neg (show ¬ n32 (k + 1) = 0 from n32_n (j := 0) (by omega) (by omega) (by omega)), e, q, hl, if_pos (show n32 m < (5 : Int32) from ylt (n := 5) (by omega) (by omega) hm), q, m5 (by omega), n32_ad (by omega) (by omega), ckN (m := 80) rfl (by omega) (by omega), q, q, e']
theorem fed {ob : Rec} {k : Nat} {t : Int32} (h2 : gI ob 2 = 1) (h4 : gI ob 4 = n32 k) (h1 : gI ob 1 = 16) (hk : k < 16) (ht : 0 ≤ t.toInt ∧ t.toInt ≤ 7) : X_feed ob t = some (0, sI (sI (sI (sA ob 3 (n32 k) t) 4 (n32 (k + 1))) 5 (-1)) 6 0) := by
  have e : n32 k + 1 = n32 (k + 1) := n32_ad (j := 1) (by omega) (by omega)
  unfold X_feed
  rw [if_pos h2, if_neg (nneg ht.1), if_neg (show ¬ (7 : Int32) < t by rw [lt_i]; show ¬ (7 : Int) < t.toInt; omega), h4, h1, if_pos (show n32 k < (16 : Int32) from ylt (n := 16) (by omega) (by omega) hk), ckN (m := 16) rfl hk (by omega), e]
/-- the order of the nonterminals -/
abbrev F67 (ob r : Rec) : Prop := (∀ j, gI r j = gI ob j) ∧ ∀ j x, ¬ j = 6 → ¬ j = 7 → gA r j x = gA ob j x
theorem F67.fm {ob r : Rec} (h : F67 ob r) : Fm ob r := ⟨fun j _ => h.1 j, fun j x hj => h.2 j x (by omega) (by omega)⟩
theorem pl : ∀ a ∈ List.range 8, ((n32 (2 ^ a - 1) >>> (n32 a &&& 31)) &&& (1 : Int32)) = 0 ∧ ((0 : Int32) &&& (n32 (2 ^ a - 1) ^^^ (-1 : Int32))) = 0 ∧ (n32 (2 ^ a - 1) ||| ((1 : Int32) <<< (n32 a &&& 31))) = n32 (2 ^ (a + 1) - 1) := by decide +kernel
theorem pl' : ∀ a ∈ List.range 8, ¬ (((255 : Int32) >>> (n32 a &&& 31)) &&& (1 : Int32)) = 0 := by decide +kernel
theorem co_e (NF : Nat) (hNF : 300 < NF) {ob : Rec} {N : Nat} {P8 Q8 : Int32} (h : GP ob N P8 Q8) : ∃ r, X_computeOrder NF ob = some (1, r) ∧ F67 ob r := by
  unfold X_computeOrder
  have k8 : ∀ (a : Nat) (A : Option (Int32 × Rec)), a < 8 → chk 8 (n32 a) A = A := fun a A ha => ckN (m := 8) rfl ha (by omega)
  obtain ⟨r, r1, r2, r3⟩ := lpE (fun fuel ob' a => X_computeOrder_l2 NF fuel ob' (n32 a)) (fun r a => F67 ob r ∧ ∀ x, x < a → gA r 6 (n32 x) = 0) 8 (fun r => X_computeOrder_l23 NF NF r 0) (fun f r hq => by
    show X_computeOrder_w2 NF _ r _ = _
    unfold X_computeOrder_w2
    rw [if_neg (show ¬ n32 8 < (8 : Int32) by decide)]) (fun f r a ha hq => by
    refine ⟨sA r 6 (n32 a) 0, ?_, ⟨hq.1.1, fun j x j6 j7 => by rw [gA_sA, if_neg (fun e => j6 e.1)]; exact hq.1.2 j x j6 j7⟩, fun x hx => ?_⟩
    · show X_computeOrder_w2 NF (X_computeOrder_l2 NF f) r _ = _
      unfold X_computeOrder_w2
      have e : n32 a + 1 = n32 (a + 1) := n32_ad (j := 1) (by omega) (by omega)
      rw [if_pos (show n32 a < (8 : Int32) from ylt (n := 8) (by omega) (by omega) ha), k8 a _ ha, e]
    · rw [gA_sA]
      by_cases c : x = a
      · rw [if_pos ⟨rfl, by rw [c]⟩]
      · rw [if_neg (fun e => n32_n (by omega) (by omega) c e.2)]; exact hq.2 x (by omega)) 8 NF ob 0 (by omega) (by omega) ⟨⟨fun _ => rfl, fun _ _ _ _ => rfl⟩, fun x hx => by omega⟩
  have r1' : X_computeOrder_l2 NF NF ob 0 = X_computeOrder_l23 NF NF r 0 := r1
  have hr := h.fr r2.fm
  have t1 := lpN (fun fuel k => X_computeOrder_l23 NF fuel r (n32 k)) 2 (X_computeOrder_l84 NF NF r 0 0 0) (fun f => by
    show X_computeOrder_w23 NF _ r _ = _
    unfold X_computeOrder_w23
    rw [hr.n3, if_neg (by decide)]) (fun f k hk => by
    show X_computeOrder_w23 NF (X_computeOrder_l23 NF f) r _ = X_computeOrder_l23 NF f r (n32 (k + 1))
    unfold X_computeOrder_w23
    have e : n32 k + 1 = n32 (k + 1) := n32_ad (j := 1) (by omega) (by omega)
    have iu : X_isUnit r (n32 k) = some 0 := by
      rcases (show k = 0 ∨ k = 1 by omega) with z | z
      · rw [z]; exact iu_0 hr
      · rw [z]; exact iu_1 hr
    rw [hr.n3, if_pos (show n32 k < (2 : Int32) from ylt (n := 2) (by omega) (by omega) hk), iu, Option.bind_some, if_pos rfl, e]) 2 NF 0 (by omega) (by omega)
  have t1' : X_computeOrder_l23 NF NF r 0 = X_computeOrder_l84 NF NF r 0 0 0 := t1
  rw [r1', t1']
  obtain ⟨g, hg⟩ : ∃ g, NF = g + 1 := ⟨NF - 1, by omega⟩
  have st0 : X_computeOrder_l84 NF NF r 0 0 0 = X_computeOrder_l93 NF (X_computeOrder_l84 NF g) NF r 0 0 0 0 := by
    have : X_computeOrder_l84 NF (g + 1) r 0 0 0 = X_computeOrder_w84 NF (X_computeOrder_l84 NF g) r 0 0 0 := rfl
    rw [← hg] at this
    rw [this]
    unfold X_computeOrder_w84
    rw [if_pos (by decide)]
  obtain ⟨w, w1, w2, w3⟩ := lpE (fun fuel ob' a => X_computeOrder_l93 NF (X_computeOrder_l84 NF g) fuel ob' (n32 (2 ^ a - 1)) (n32 a) 0 (n32 a)) (fun w a => F67 ob w ∧ ∀ x, gA w 6 x = gA r 6 x) 8 (fun w => X_computeOrder_l84 NF g w 255 8 1) (fun f w hq => by
    show X_computeOrder_w93 NF _ _ w _ _ _ _ = _
    unfold X_computeOrder_w93
    rw [if_neg (show ¬ n32 8 < (8 : Int32) by decide)]; rfl) (fun f w a ha hq => by
    obtain ⟨p1, p2, p3⟩ := pl a (List.mem_range.mpr ha)
    refine ⟨sA w 7 (n32 a) (n32 a), ?_, ⟨hq.1.1, fun j x j6 j7 => by rw [gA_sA, if_neg (fun e => j7 e.1)]; exact hq.1.2 j x j6 j7⟩, fun x => by rw [gA_sA, if_neg (fun e => absurd e.1 (by decide))]; exact hq.2 x⟩
    show X_computeOrder_w93 NF _ (X_computeOrder_l93 NF (X_computeOrder_l84 NF g) f) w _ _ _ _ = _
    unfold X_computeOrder_w93
    have e : n32 a + 1 = n32 (a + 1) := n32_ad (j := 1) (by omega) (by omega)
    have a8 : n32 a < (8 : Int32) := ylt (n := 8) (by omega) (by omega) ha
    rw [if_pos a8, if_pos p1, k8 a _ ha, hq.2, r3 a ha, if_pos p2, if_pos a8, k8 a _ ha, p3, e]) 8 NF r 0 (by omega) (by omega) ⟨r2, fun _ => rfl⟩
  have w1' : X_computeOrder_l93 NF (X_computeOrder_l84 NF g) NF r 0 0 0 0 = X_computeOrder_l84 NF g w 255 8 1 := w1
  rw [st0, w1']
  have t2 := lpN (fun fuel d => X_computeOrder_l84 NF fuel w 255 8 (n32 (1 + d))) 7 (some (1, w)) (fun f => by
    show X_computeOrder_w84 NF _ w _ _ _ = _
    unfold X_computeOrder_w84
    rw [if_neg (show ¬ n32 (1 + 7) < (8 : Int32) by decide), if_pos rfl]) (fun f d hd => by
    show X_computeOrder_w84 NF (X_computeOrder_l84 NF f) w _ _ _ = X_computeOrder_l84 NF f w 255 8 (n32 (1 + (d + 1)))
    unfold X_computeOrder_w84
    rw [if_pos (show n32 (1 + d) < (8 : Int32) from ylt (n := 8) (by omega) (by omega) (by omega))]
    have := lpN (fun fuel a => X_computeOrder_l93 NF (X_computeOrder_l84 NF f) fuel w 255 8 (n32 (1 + d)) (n32 a)) 8 (X_computeOrder_l84 NF f w 255 8 (n32 (1 + (d + 1)))) (fun f' => by
      show X_computeOrder_w93 NF _ _ w _ _ _ _ = _
      unfold X_computeOrder_w93
      have e : n32 (1 + d) + 1 = n32 (1 + (d + 1)) := n32_ad (j := 1) (by omega) (by omega)
      rw [if_neg (show ¬ n32 8 < (8 : Int32) by decide), e]) (fun f' a ha => by
      show X_computeOrder_w93 NF _ (X_computeOrder_l93 NF (X_computeOrder_l84 NF f) f') w _ _ _ _ = X_computeOrder_l93 NF (X_computeOrder_l84 NF f) f' w 255 8 (n32 (1 + d)) (n32 (a + 1))
      unfold X_computeOrder_w93
      have e : n32 a + 1 = n32 (a + 1) := n32_ad (j := 1) (by omega) (by omega)
      rw [if_pos (show n32 a < (8 : Int32) from ylt (n := 8) (by omega) (by omega) ha), if_neg (pl' a (List.mem_range.mpr ha)), e]) 8 NF 0 (by omega) (by omega)
    exact this) 7 g 0 (by omega) (by omega)
  exact ⟨w, t2, w2⟩
theorem rsh (NF : Nat) (hNF : 300 < NF) {ob : Rec} {N : Nat} {P8 Q8 : Int32} (h : GP ob N P8 Q8) (h2 : gI ob 2 = 0) : ∃ r, X_reshape NF ob = some (0, r) ∧ gI r 2 = 1 ∧ gI r 4 = 0 ∧ gI r 1 = gI ob 1 ∧ gI r 3 = gI ob 3 ∧ (∀ j x, j ≤ 3 → gA r j x = gA ob j x) := by
  have k16 : ∀ (k : Nat) (A : Option Int32), k < 16 → chk 16 (n32 k) A = A := fun k A hk => ckN (m := 16) rfl hk (by omega)
  have he : X_hasEmptyRule NF ob = some 0 := by
    unfold X_hasEmptyRule
    have := lpN (fun fuel k => X_hasEmptyRule_l2 NF ob fuel (n32 k)) 2 (some 0) (fun f => by
      show X_hasEmptyRule_w2 NF ob _ _ = _
      unfold X_hasEmptyRule_w2
      rw [h.n3, if_neg (by decide)]) (fun f k hk => by
      show X_hasEmptyRule_w2 NF ob (X_hasEmptyRule_l2 NF ob f) _ = X_hasEmptyRule_l2 NF ob f (n32 (k + 1))
      unfold X_hasEmptyRule_w2
      have e : n32 k + 1 = n32 (k + 1) := n32_ad (j := 1) (by omega) (by omega)
      have ne : ¬ gA ob 1 (n32 k) = 0 := by
        rcases (show k = 0 ∨ k = 1 by omega) with z | z
        · rw [z, show n32 0 = 0 from rfl, h.ln.1]; decide
        · rw [z, show n32 1 = 1 from rfl, h.ln.2]; decide
      rw [h.n3, if_pos (show n32 k < (2 : Int32) from ylt (n := 2) (by omega) (by omega) hk), k16 k _ (by omega), if_neg ne, e]) 2 NF 0 (by omega) (by omega)
    exact this
  have k0 : chk (γ := Int32) 16 0 = fun A => A := funext fun A => k16 0 A (by omega)
  have k1 : chk (γ := Int32) 16 1 = fun A => A := funext fun A => k16 1 A (by omega)
  have sr : X_sameRule NF ob 0 1 = some 0 := by
    unfold X_sameRule
    rw [k0, k1, h.hd.1, h.hd.2, if_pos rfl, h.ln.1, h.ln.2, if_neg (by decide)]
  obtain ⟨g, hg⟩ : ∃ g, NF = g + 4 := ⟨NF - 4, by omega⟩
  have hd : X_hasDuplicate NF ob = some 0 := by
    unfold X_hasDuplicate
    have a0 : X_hasDuplicate_l2 NF ob NF 0 = X_hasDuplicate_w2 NF ob (X_hasDuplicate_l2 NF ob (g + 3)) 0 := by
      have : X_hasDuplicate_l2 NF ob (g + 3 + 1) 0 = X_hasDuplicate_w2 NF ob (X_hasDuplicate_l2 NF ob (g + 3)) 0 := rfl
      rw [show g + 3 + 1 = NF by omega] at this; exact this
    have b0 : ∀ k2 x y, X_hasDuplicate_l14 NF ob k2 NF x y = X_hasDuplicate_w14 NF ob k2 (X_hasDuplicate_l14 NF ob k2 (g + 3)) x y := by
      intro k2 x y
      have : X_hasDuplicate_l14 NF ob k2 (g + 3 + 1) x y = X_hasDuplicate_w14 NF ob k2 (X_hasDuplicate_l14 NF ob k2 (g + 3)) x y := rfl
      rw [show g + 3 + 1 = NF by omega] at this; exact this
    have e1 : (0 : Int32) + 1 = 1 := by decide
    have e2 : (1 : Int32) + 1 = 2 := by decide
    rw [a0]
    unfold X_hasDuplicate_w2
    rw [h.n3, if_pos (by decide), e1, b0]
    unfold X_hasDuplicate_w14
    rw [h.n3, if_pos (by decide), sr, Option.bind_some, if_pos rfl, e2]
    show X_hasDuplicate_w14 NF ob (X_hasDuplicate_l2 NF ob (g + 3)) (X_hasDuplicate_l14 NF ob _ (g + 2)) 0 2 = _
    unfold X_hasDuplicate_w14
    rw [h.n3, if_neg (by decide), e1]
    show X_hasDuplicate_w2 NF ob (X_hasDuplicate_l2 NF ob (g + 2)) 1 = _
    unfold X_hasDuplicate_w2
    rw [h.n3, if_pos (by decide), e2, b0]
    unfold X_hasDuplicate_w14
    rw [h.n3, if_neg (by decide), e2]
    show X_hasDuplicate_w2 NF ob (X_hasDuplicate_l2 NF ob (g + 1)) 2 = _
    unfold X_hasDuplicate_w2
    rw [h.n3, if_neg (by decide)]
  obtain ⟨r, r1, r2⟩ := co_e NF hNF h
  refine ⟨sI (sI (sI (sI r 2 1) 4 0) 5 (-1)) 6 0, ?_, rfl, rfl, r2.1 1, r2.1 3, fun j x hj => r2.2 j x (by omega) (by omega)⟩
  unfold X_reshape
  rw [if_pos h2, h.n3, if_neg (by decide), he, Option.bind_some, if_pos rfl, hd, Option.bind_some, if_pos rfl, r1, bind2_some, if_neg (by decide)]
-- USE: bits pga0 gra grb grc grd
/-- while the input is fed -/
abbrev FD (ob : Rec) (c : Nat) (p q : Int32) : Prop := (GP ob c (8 + p) (8 + q)) ∧ (gI ob 2 = 1) ∧ (gI ob 1 = 16) ∧ (gA ob 3 (n32 0) = q) ∧ (∀ m, 1 ≤ m → m < c → gA ob 3 (n32 m) = p)
theorem FD.gp {ob : Rec} {c : Nat} {p q : Int32} (h : FD ob c p q) : GP ob c (8 + p) (8 + q) := h.1
theorem FD.s2 {ob : Rec} {c : Nat} {p q : Int32} (h : FD ob c p q) : gI ob 2 = 1 := h.2.1
theorem FD.s1 {ob : Rec} {c : Nat} {p q : Int32} (h : FD ob c p q) : gI ob 1 = 16 := h.2.2.1
theorem FD.i0 {ob : Rec} {c : Nat} {p q : Int32} (h : FD ob c p q) : gA ob 3 (n32 0) = q := h.2.2.2.1
theorem FD.ip {ob : Rec} {c : Nat} {p q : Int32} (h : FD ob c p q) : ∀ m, 1 ≤ m → m < c → gA ob 3 (n32 m) = p := h.2.2.2.2
theorem a11 : (1 : Int32) &&& 1 = 1 := by decide
theorem p8 {p : Int32} (h : 0 ≤ p.toInt ∧ p.toInt ≤ 7) : ¬ (8 + p) < 8 ∧ (8 + p) - 8 = p ∧ (0 ≤ (8 + p).toInt ∧ (8 + p).toInt ≤ 15) := by
  have e : (8 + p).toInt = 8 + p.toInt := ad (x := 8) (by show -2147483648 ≤ (8 : Int) + p.toInt ∧ (8 : Int) + p.toInt < 2147483648; omega)
  refine ⟨by rw [lt_i, e]; show ¬ 8 + p.toInt < 8; omega, ?_, by rw [e]; omega⟩
  rw [eq_i32, sb (by rw [e]; show -2147483648 ≤ 8 + p.toInt - (8 : Int) ∧ 8 + p.toInt - (8 : Int) < 2147483648; omega), e]
  show 8 + p.toInt - (8 : Int) = p.toInt
  omega
theorem FD_f {ob : Rec} {c : Nat} {p q t : Int32} (h : FD ob c p q) (hc : 1 ≤ c ∧ c < 16) (ht : 0 ≤ t.toInt ∧ t.toInt ≤ 7) : ∃ r, X_feed ob t = some (0, r) ∧ GP r (c + 1) (8 + p) (8 + q) ∧ gI r 2 = 1 ∧ gI r 1 = 16 ∧ (∀ m, m < 16 → gA r 3 (n32 m) = if m = c then t else gA ob 3 (n32 m)) := by
  refine ⟨_, fed h.s2 h.gp.n4 h.s1 hc.2 ht, ?_, h.s2, h.s1, fun m hm => ?_⟩
  · obtain ⟨a, b, c', d, e, g⟩ := h.gp
    exact ⟨a, rfl, c', d, e, g⟩
  · rw [gA_sI, gA_sI, gA_sI, gA_sA]
    by_cases z : m = c
    · rw [if_pos ⟨rfl, by rw [z]⟩, if_pos z]
    · rw [if_neg (fun e => n32_n (by omega) (by omega) z e.2), if_neg z]
/-- after the parse -/
theorem end1 (NF : Nat) (hNF : 300 < NF) {ob : Rec} {k : Nat} {P8 Q8 x : Int32} (h : EX ob (k + 2) 0 P8 Q8) (hk : k ≤ 3) : L_law_b277 NF ob x x (n32 k) 1 1 1 = some 1 := by
  have dl : X_derivationLength ob = some (n32 (k + 2)) := by
    unfold X_derivationLength; rw [h.r5, if_pos rfl, h.dl]; rfl
  have dr : ∀ t, t < k + 2 → X_derivationRule ob (n32 t) = some (if t = k + 1 then 1 else 0) := fun t ht => by
    unfold X_derivationRule
    rw [if_neg (nneg (by rw [nt t (by omega)]; omega)), dl, Option.bind_some, if_pos (ylt (by omega) (by omega) ht), ckN (m := 256) rfl (by omega) (by omega), h.dv t (by omega)]
    by_cases c : t = k + 1
    · rw [if_pos (by omega), if_pos c]
    · rw [if_neg (by omega), if_neg c]
  have de : X_derivationRule ob (n32 (k + 2)) = some (-1) := by
    unfold X_derivationRule
    rw [if_neg (nneg (by rw [nt _ (by omega)]; omega)), dl, Option.bind_some, if_neg (nlt (by omega) (by omega) (by omega))]
  have e1 : n32 k + 1 = n32 (k + 1) := n32_ad (j := 1) (by omega) (by omega)
  have e2 : n32 k + 2 = n32 (k + 2) := n32_ad (j := 2) (by omega) (by omega)
  unfold L_law_b277 X_treeCount
  rw [Option.bind_some, if_pos h.r5, a11]
  unfold L_law_b297
  rw [dl, Option.bind_some, if_pos rfl, e2, if_pos rfl, a11, a11]
  have := lpN (fun fuel i => L_law_l336 NF fuel ob (n32 k) 1 (n32 i)) 4 (some 1) (fun f => by
    show L_law_w336 NF _ ob _ _ _ = _
    unfold L_law_w336
    rw [if_neg (show ¬ n32 4 < (4 : Int32) by decide), e1, dr (k + 1) (by omega), Option.bind_some, if_pos (by rw [if_pos rfl])]
    unfold L_law_b397
    rw [e2, de, Option.bind_some, if_pos rfl]
    decide) (fun f i hi => by
    show L_law_w336 NF (L_law_l336 NF f) ob _ _ _ = L_law_l336 NF f ob (n32 k) 1 (n32 (i + 1))
    unfold L_law_w336
    have e : n32 i + 1 = n32 (i + 1) := n32_ad (j := 1) (by omega) (by omega)
    rw [if_pos (show n32 i < (4 : Int32) from ylt (n := 4) (by omega) (by omega) hi), e1, e]
    by_cases c : i < k + 1
    · rw [if_pos (ylt (by omega) (by omega) c), dr i (by omega), Option.bind_some, if_pos (by rw [if_neg (by omega)]), a11]
    · rw [if_neg (nlt (by omega) (by omega) c)]) 4 NF 0 (by omega) (by omega)
  exact this
theorem end0 (NF : Nat) {ob : Rec} {x z i7 : Int32} (h5 : gI ob 5 = 0) (hz : ¬ z = x) : L_law_b277 NF ob x z i7 0 1 1 = some 1 := by
  have dl : X_derivationLength ob = some 0 := by
    unfold X_derivationLength; rw [h5, if_neg (by decide)]
  unfold L_law_b277 X_treeCount
  rw [Option.bind_some, if_pos h5, a11]
  unfold L_law_b297
  rw [dl, Option.bind_some, if_neg hz, if_pos rfl, a11]
  unfold L_law_b438 X_derivationRule
  rw [if_neg (by decide), dl, Option.bind_some, if_neg (by decide), Option.bind_some, if_pos rfl]
  decide
/-- the feeding loop and the parse -/
theorem rest (NF : Nat) (hNF : 300 < NF) {ob : Rec} {k : Nat} {p q z : Int32} (h : FD ob 1 p q) (hk : k ≤ 3) (hp : 0 ≤ p.toInt ∧ p.toInt ≤ 7) (hq : 0 ≤ q.toInt ∧ q.toInt ≤ 7) (hz : 0 ≤ z.toInt ∧ z.toInt ≤ 7) : L_law_l183 NF NF ob p z (n32 k) 1 0 = some 1 := by
  obtain ⟨r, r1, r2⟩ := lpE (fun fuel ob' i => L_law_l183 NF fuel ob' p z (n32 k) 1 (n32 i)) (fun r i => FD r (1 + min i k) p q) 3 (fun r => bind2 (X_feed r z) fun r31 q32 => if r31 = (0 : Int32) then L_law_b239 NF q32 p z (n32 k) 1 (1 : Int32) else L_law_b239 NF q32 p z (n32 k) 1 (0 : Int32)) (fun f r hq => by
    show L_law_w183 NF _ r _ _ _ _ _ = _
    unfold L_law_w183
    rw [if_neg (show ¬ n32 3 < (3 : Int32) by decide)]) (fun f r i hi hq => by
    show ∃ ob', L_law_w183 NF (L_law_l183 NF f) r _ _ _ _ _ = L_law_l183 NF f ob' p z (n32 k) 1 (n32 (i + 1)) ∧ _
    unfold L_law_w183
    have e : n32 i + 1 = n32 (i + 1) := n32_ad (j := 1) (by omega) (by omega)
    rw [if_pos (show n32 i < (3 : Int32) from ylt (n := 3) (by omega) (by omega) hi), e]
    by_cases c : i < k
    · obtain ⟨w, w1, w2, w3, w4, w5⟩ := FD_f hq (by omega) hp
      refine ⟨w, by rw [if_pos (ylt (by omega) (by omega) c), w1, bind2_some, if_pos rfl, a11], ?_⟩
      have em : 1 + min i k + 1 = 1 + min (i + 1) k := by omega
      rw [em] at w2
      refine ⟨w2, w3, w4, ?_, fun m m1 m2 => ?_⟩
      · rw [w5 0 (by omega), if_neg (by omega)]; exact hq.i0
      · rw [w5 m (by omega)]
        by_cases d : m = 1 + min i k
        · rw [if_pos d]
        · rw [if_neg d]; exact hq.ip m m1 (by omega)
    · refine ⟨r, by rw [if_neg (nlt (by omega) (by omega) c)], ?_⟩
      have em : 1 + min i k = 1 + min (i + 1) k := by omega
      rw [em] at hq; exact hq) 3 NF ob 0 (by omega) (by omega) h
  have em : 1 + min 3 k = 1 + k := by omega
  have r2' : FD r (1 + k) p q := by
    have : FD r (1 + min 3 k) p q := r2
    rw [em] at this; exact this
  have r1' : L_law_l183 NF NF ob p z (n32 k) 1 0 = _ := r1
  obtain ⟨w, w1, w2, w3, w4, w5⟩ := FD_f r2' (by omega) hz
  rw [show 1 + k + 1 = k + 2 by omega] at w2
  rw [r1']
  show (bind2 (X_feed r z) fun r31 q32 => if r31 = (0 : Int32) then L_law_b239 NF q32 p z (n32 k) 1 (1 : Int32) else L_law_b239 NF q32 p z (n32 k) 1 (0 : Int32)) = some 1
  rw [w1, bind2_some, if_pos rfl]
  unfold L_law_b239
  have pp := p8 hp
  have qq := p8 hq
  have pr := prs NF hNF w2 w3 (by omega)
  rw [pp.2.1, qq.2.1] at pr
  -- the trees
  have g1 : ∀ l, l ≤ k → gv (inp w) p q 0 (l + 1) = 1 := by
    intro l
    induction l with
    | zero =>
      intro _
      show (if 0 = 0 then (if inp w 0 = q then 1 else 0) else _) = 1
      have : inp w 0 = q := by
        show gA w 3 (n32 0) = q
        rw [w5 0 (by omega), if_neg (by omega)]; exact r2'.i0
      rw [if_pos rfl, if_pos this]
    | succ l ih =>
      intro hl
      show (if l + 1 = 0 then _ else (if inp w (0 + (l + 1)) = p then gv (inp w) p q 0 (l + 1) else 0)) = 1
      have : inp w (0 + (l + 1)) = p := by
        show gA w 3 (n32 (0 + (l + 1))) = p
        rw [w5 _ (by omega), if_neg (by omega)]; exact r2'.ip _ (by omega) (by omega)
      rw [if_neg (by omega), if_pos this]; exact ih (by omega)
  have gz : gv (inp w) p q 0 (k + 2) = if z = p then 1 else 0 := by
    show (if k + 1 = 0 then _ else (if inp w (0 + (k + 1)) = p then gv (inp w) p q 0 (k + 1) else 0)) = _
    have : inp w (0 + (k + 1)) = z := by
      show gA w 3 (n32 (0 + (k + 1))) = z
      rw [w5 _ (by omega), if_pos (by omega)]
    rw [if_neg (by omega), this, g1 k (Nat.le_refl _)]
  by_cases c : z = p
  · obtain ⟨u, u1, u2⟩ := pr.1 (by rw [gz, if_pos c])
    rw [if_pos c, a11]
    unfold L_law_b254
    rw [u1, bind2_some, if_pos rfl, c]
    exact end1 NF hNF u2 hk
  · obtain ⟨u, u1, u2⟩ := pr.2 (by rw [gz, if_neg c])
    rw [if_neg c, a11]
    unfold L_law_b254
    rw [u1, bind2_some, if_pos rfl]
    exact end0 NF u2 c
theorem owed : ∀ i0 i1 i2 i3 : Int32, ∃ NF : Nat, L_law NF i0 i1 i2 i3 = some 1 := by
  intro i0 i1 i2 i3
  refine ⟨400, ?_⟩
  have hp := and_b i0 7 7 rfl (by decide)
  have hq := and_b i1 7 7 rfl (by decide)
  have hz := and_b i2 7 7 rfl (by decide)
  have hk := and_b i3 3 3 rfl (by decide)
  unfold L_law
  generalize i0 &&& 7 = p at hp ⊢
  generalize i1 &&& 7 = q at hq ⊢
  generalize i2 &&& 7 = z at hz ⊢
  have ek : ∃ k : Nat, k ≤ 3 ∧ i3 &&& 3 = n32 k := ⟨(i3 &&& 3).toInt.toNat, by omega, (n32_t _ hk.1).symm⟩
  obtain ⟨k, k3, ek⟩ := ek
  rw [ek]
  have pp := p8 hp
  have qq := p8 hq
  have hi : ∃ o, X_init 16 16 = some o ∧ gI o 0 = 16 ∧ gI o 1 = 16 ∧ gI o 2 = 0 ∧ gI o 3 = 0 ∧ gI o 4 = 0 := by
    unfold X_init; rw [if_neg (by decide)]
    unfold X_init_b114; rw [if_neg (by decide)]
    unfold X_init_b123; rw [if_neg (by decide)]
    unfold X_init_b135; rw [if_neg (by decide)]
    exact ⟨_, rfl, rfl, rfl, rfl, rfl, rfl⟩
  obtain ⟨o0, q0, a0, a1, a2, a3, a4⟩ := hi
  have b1 := bgr (k := 0) a2 a3 a0 (by omega)
  generalize h1 : sI (sA (sA o0 0 (n32 0) 0) 1 (n32 0) 0) 3 (n32 (0 + 1)) = o1 at b1
  have f1 : (∀ j, ¬ j = 3 → gI o1 j = gI o0 j) ∧ gI o1 3 = n32 1 ∧ gA o1 1 (n32 0) = n32 0 ∧ gA o1 0 0 = 0 := by
    rw [← h1]; exact ⟨fun j hj => by rw [gI_sI, if_neg hj]; rfl, rfl, rfl, rfl⟩
  have b2 := ads (ob := o1) (k := 0) (m := 0) (s := 0) ((f1.1 2 (by decide)).trans a2) f1.2.1 f1.2.2.1 (by omega) (by omega) (by decide)
  generalize h2 : sA (sA o1 2 (n32 (0 * 5 + 0)) 0) 1 (n32 0) (n32 (0 + 1)) = o2 at b2
  have f2 : (∀ j, gI o2 j = gI o1 j) ∧ gA o2 1 (n32 0) = n32 1 ∧ gA o2 0 0 = 0 ∧ gA o2 2 0 = 0 := by
    rw [← h2]; exact ⟨fun j => rfl, rfl, f1.2.2.2, rfl⟩
  have b3 := ads (ob := o2) (k := 0) (m := 1) (s := 8 + p) ((f2.1 2).trans ((f1.1 2 (by decide)).trans a2)) ((f2.1 3).trans f1.2.1) f2.2.1 (by omega) (by omega) pp.2.2
  generalize h3 : sA (sA o2 2 (n32 (0 * 5 + 1)) (8 + p)) 1 (n32 0) (n32 (1 + 1)) = o3 at b3
  have f3 : (∀ j, gI o3 j = gI o2 j) ∧ gA o3 1 0 = 2 ∧ gA o3 0 0 = 0 ∧ gA o3 2 0 = 0 ∧ gA o3 2 1 = 8 + p := by
    rw [← h3]; exact ⟨fun j => rfl, rfl, f2.2.2.1, f2.2.2.2, rfl⟩
  have g3 : ∀ j, gI o3 j = gI o1 j := fun j => (f3.1 j).trans (f2.1 j)
  have b4 := bgr (ob := o3) (k := 1) ((g3 2).trans ((f1.1 2 (by decide)).trans a2)) ((g3 3).trans f1.2.1) ((g3 0).trans ((f1.1 0 (by decide)).trans a0)) (by omega)
  generalize h4 : sI (sA (sA o3 0 (n32 1) 0) 1 (n32 1) 0) 3 (n32 (1 + 1)) = o4 at b4
  have f4 : (∀ j, ¬ j = 3 → gI o4 j = gI o3 j) ∧ gI o4 3 = n32 2 ∧ gA o4 1 (n32 1) = n32 0 ∧ gA o4 1 0 = 2 ∧ gA o4 0 0 = 0 ∧ gA o4 0 1 = 0 ∧ gA o4 2 0 = 0 ∧ gA o4 2 1 = 8 + p := by
    rw [← h4]; exact ⟨fun j hj => by rw [gI_sI, if_neg hj]; rfl, rfl, rfl, f3.2.1, f3.2.2.1, rfl, f3.2.2.2.1, f3.2.2.2.2⟩
  have g4 : ∀ j, ¬ j = 3 → gI o4 j = gI o0 j := fun j hj => (f4.1 j hj).trans ((g3 j).trans (f1.1 j hj))
  have b5 := ads (ob := o4) (k := 1) (m := 0) (s := 8 + q) ((g4 2 (by decide)).trans a2) f4.2.1 f4.2.2.1 (by omega) (by omega) qq.2.2
  generalize h5 : sA (sA o4 2 (n32 (1 * 5 + 0)) (8 + q)) 1 (n32 1) (n32 (0 + 1)) = o5 at b5
  have f5 : (∀ j, gI o5 j = gI o4 j) ∧ gA o5 1 1 = 1 ∧ gA o5 1 0 = 2 ∧ gA o5 0 0 = 0 ∧ gA o5 0 1 = 0 ∧ gA o5 2 0 = 0 ∧ gA o5 2 1 = 8 + p ∧ gA o5 2 5 = 8 + q := by
    rw [← h5]; exact ⟨fun j => rfl, rfl, f4.2.2.2.1, f4.2.2.2.2.1, f4.2.2.2.2.2.1, f4.2.2.2.2.2.2.1, f4.2.2.2.2.2.2.2, rfl⟩
  have gp5 : GP o5 0 (8 + p) (8 + q) := ⟨(f5.1 3).trans f4.2.1, (f5.1 4).trans ((g4 4 (by decide)).trans a4), ⟨f5.2.2.2.1, f5.2.2.2.2.1⟩, ⟨f5.2.2.1, f5.2.1⟩, ⟨f5.2.2.2.2.2.1, f5.2.2.2.2.2.2.1, f5.2.2.2.2.2.2.2⟩, ⟨pp.1, qq.1⟩⟩
  obtain ⟨o6, c1, c2, c3, c4, c5, c6⟩ := rsh 400 (by omega) gp5 ((f5.1 2).trans ((g4 2 (by decide)).trans a2))
  have gp6 : GP o6 0 (8 + p) (8 + q) := by
    obtain ⟨x1, x2, x3, x4, x5, x6⟩ := gp5
    exact ⟨c5.trans x1, c3, by rw [c6 0 _ (by omega), c6 0 _ (by omega)]; exact x3, by rw [c6 1 _ (by omega), c6 1 _ (by omega)]; exact x4, by rw [c6 2 _ (by omega), c6 2 _ (by omega), c6 2 _ (by omega)]; exact x5, x6⟩
  have s1' : gI o6 1 = 16 := c4.trans ((f5.1 1).trans ((g4 1 (by decide)).trans a1))
  have b6 := fed (ob := o6) (k := 0) (t := q) c2 c3 s1' (by omega) hq
  generalize h7 : sI (sI (sI (sA o6 3 (n32 0) q) 4 (n32 (0 + 1))) 5 (-1)) 6 0 = o7 at b6
  have fd : FD o7 1 p q := by
    rw [← h7]
    obtain ⟨x1, x2, x3, x4, x5, x6⟩ := gp6
    exact ⟨⟨x1, rfl, x3, x4, x5, x6⟩, c2, s1', rfl, fun m m1 m2 => by omega⟩
  rw [q0, Option.bind_some, b1, bind2_some, if_pos rfl]
  unfold L_law_b55
  rw [b2, bind2_some, if_pos rfl, a11]
  unfold L_law_b74
  rw [b3, bind2_some, if_pos rfl, a11]
  unfold L_law_b97
  rw [b4, bind2_some, if_pos rfl, a11]
  unfold L_law_b116
  rw [b5, bind2_some, if_pos rfl, a11]
  unfold L_law_b139
  rw [c1, bind2_some, if_pos rfl, a11]
  unfold L_law_b157
  rw [b6, bind2_some, if_pos rfl, a11, a11]
  exact rest 400 (by omega) fd k3 hp hq hz
-- owed : ∀ i0 i1 i2 i3 : Int32, ∃ NF : Nat, L_law NF i0 i1 i2 i3 = some 1
--COMES--
set_option maxRecDepth 65536 in
set_option maxHeartbeats 4000000 in
theorem comes_1 {Post : Tables → Env → Array Value → State → Outcome → State → Prop} (hpost : ∀ tb e args s v u, (limb_1_1.after args s (.returned v) u = true ∧ limb_1_2.after args s (.returned v) u = true ∧ True) → FrameEnd s (.returned v) u (Jvm.fieldLocs frame_1_writes args s ++ Jvm.arrayLocs frame_1_arrays args s ++ Jvm.staticLocs frame_1_statics s) 40 7296 → Post tb e args s (.returned v) u) :
    ArmFor flags0 classFile x code maxLocals ret World_1 tables_1 room_1 Calls_1 rest_1 Pre_1 Post := by
  intro l hfl _ _ p e ha hc hk s m args below hf hA hF happ hP
  obtain ⟨hcalls, hrest, hpre⟩ := hP
  obtain ⟨-, -, -, hnamed, -, -, -, hat⟩ := (Spec.applies_iff hf).mp happ
  obtain ⟨hg, hn⟩ := and_e (Cond.before_iff.mp (show (Jvm.Cond.and given_1 narrow_1).before args s = true from hpre))
  obtain ⟨hcnt, hg⟩ := and_e hg
  obtain ⟨w0, w1, w2, w3, rfl⟩ : ∃ w0 w1 w2 w3 : Value, args = #[w0, w1, w2, w3] := by
    have hs : args.size = 4 := by simpa [Cond.value, given_1] using hcnt
    obtain ⟨L⟩ := args
    match L, hs with
    | [w0, w1, w2, w3], _ => exact ⟨w0, w1, w2, w3, rfl⟩
  have hw := fun d (hd : d ∈ tables_1) => atoms_spec (ws := Jvm.Cond.code x code maxLocals ret :: tables_1) hat d (List.mem_cons_of_mem _ hd)
  have hfit : Fit s := fun {y c} hc i hi => by
    obtain ⟨ha, rfl⟩ := Array.getElem?_eq_some_iff.mp hc
    have q := List.all_eq_true.mp ((Array.all_eq_true_iff_forall_mem.mp hF) _ (Array.getElem_mem ha)) i (List.mem_range.mpr hi)
    simpa [Array.getElem?_eq_getElem hi] using q
  obtain ⟨h0, hg⟩ := and_e hg
  obtain ⟨i0, e0⟩ := is_v h0
  obtain rfl : w0 = (.int i0) := Option.some.inj e0
  obtain ⟨h1, hg⟩ := and_e hg
  obtain ⟨i1, e1⟩ := is_v h1
  obtain rfl : w1 = (.int i1) := Option.some.inj e1
  obtain ⟨h2, hg⟩ := and_e hg
  obtain ⟨i2, e2⟩ := is_v h2
  obtain rfl : w2 = (.int i2) := Option.some.inj e2
  have h3 := hg
  obtain ⟨i3, e3⟩ := is_v h3
  obtain rfl : w3 = (.int i3) := Option.some.inj e3
  obtain ⟨NF, hlaw⟩ := owed i0 i1 i2 i3
  have hp := L_law_pay (C := (l, s, s.heap.size, #[.int i0, .int i1, .int i2, .int i3])) hlaw hw s.heap (Rep.start s) tables_1
  obtain ⟨n, o, h1, h2, h3, v, L, rfl, ⟨N, G', -, rfl⟩, hq⟩ := hp p e ha hc hk s m _ below hf ((Spec.applies_iff_loose hf).mp happ).1 ⟨rfl, State.Warmed39.refl s, rfl⟩ trivial
  refine ⟨n, _, h1, h2, h3, hpost _ _ _ _ _ _ ⟨Cond.after_iff.mpr rfl, Cond.after_iff.mpr (eq_i res_at (Term.int_eval (1)) rfl), trivial⟩ ⟨hq.1, hq.2.1, (hq.2.2.sift fun y hy => Or.inr (N y hy)).mono (by decide) (by decide)⟩⟩
theorem main_1_1 : Claimed_1_1 := comes_1 fun _ _ _ _ _ _ h hF => ⟨h.1, hF⟩
theorem main_1_2 : Claimed_1_2 := comes_1 fun _ _ _ _ _ _ h hF => ⟨h.2.1, hF⟩
end Jvm.Pilot.@@N@@
namespace Jvm.Pilot.@@N@@
open Jvm Jvm.ClassFile Sem Op Lib Jvm.Free Jvm.Stand Jvm.Pilot.@@N@@.Jvm.D
/-! MADE BY PROGRAM (witnessworld.py) out of the Statement's table words and the real class files: 9 classes; the members and pool entries that the words name. The judged class is class 1, her method 1. -/
namespace start1
open Jvm.ClassFile
def u (s : String) : CpInfo := .utf8 (stringToUtf16 s)
/-- a pool by its gaps: so many unusable entries, then the entry; so many at the end -/
def gap : Nat → List CpInfo → List CpInfo
  | 0, r => r
  | n + 1, r => .unusable :: gap n r
def poolList (es : List (Nat × CpInfo)) (last : Nat) : List CpInfo := es.foldr (fun e r => gap e.1 (e.2 :: r)) (gap last [])
def pool (es : List (Nat × CpInfo)) (last : Nat) : Array CpInfo := ⟨poolList es last⟩
def fileOf (pool : Array CpInfo) (this : Nat) (attrs : Array Attribute := #[]) (ms : Array MethodInfo := #[]) (fl : Nat := 33) (sup : Nat := 0) (ifs : Array Nat := #[]) (fds : Array FieldInfo := #[]) : ClassFile where
  minorVersion := 0
  majorVersion := 65
  constantPool := pool
  accessFlags := fl
  thisClass := this
  superClass := sup
  interfaces := ifs
  fields := fds
  methods := ms
  attributes := attrs
def plain (name : String) (sup : Option ClassId) : Class where
  name := name
  kind := .ordinary
  loader := none
  accessFlags := 33
  super := sup
  interfaces := #[]
  cf := none
  fields := #[]
  methods := #[]
  instanceTypes := #[]
  staticTypes := #[]
  resolved := #[]
  callSites := []
  init := .initialized
  statics := none
  mirror := none

def pool0 : Array CpInfo := pool [(5, u "<init>"), (0, u "()V"), (1, .class_ 10), (1, u "java/lang/Object")] 113

def k0c0 : Code := { maxStack := 0, maxLocals := 1, code := object_method_1_code, exceptionTable := #[], attributes := #[] }
def k0m0 : Method := { name := "<init>", desc := "()V", sig := { parameters := [], returnType := none }, accessFlags := 1, code := some k0c0 }
/-- java/lang/Object -/
def k0 : Class := { plain "java/lang/Object" none with
  accessFlags := 33
  interfaces := #[]
  cf := some (fileOf pool0 8 #[] #[{ accessFlags := 1, nameIndex := 5, descriptorIndex := 6, attributes := #[] }] 33 0 #[] #[])
  fields := #[]
  methods := #[k0m0]
  instanceTypes := #[]
  staticTypes := #[]
  resolved := Array.replicate 124 none
  statics := none }

def pool1 : Array CpInfo := pool [(2, .class_ 4), (1, u "java/lang/Object"), (0, u "<init>"), (0, u "()V"), (0, .class_ 8), (0, u "GrammarReshaper"), (0, .methodref 7 10), (0, .nameAndType 5 11), (0, u "(II)V"), (0, .methodref 7 13), (0, .nameAndType 14 15), (0, u "beginRule"), (0, u "(I)I"), (0, .methodref 7 17), (0, .nameAndType 18 15), (0, u "addSymbol"), (0, .methodref 7 20), (0, .nameAndType 21 22), (0, u "reshape"), (0, u "()I"), (0, .methodref 7 24), (0, .nameAndType 25 15), (0, u "feed"), (0, .methodref 7 27), (0, .nameAndType 28 22), (0, u "parse"), (0, .methodref 7 30), (0, .nameAndType 31 22), (0, u "treeCount"), (0, .methodref 7 33), (0, .nameAndType 34 22), (0, u "derivationLength"), (0, .methodref 7 36), (0, .nameAndType 37 15), (0, u "derivationRule"), (0, .class_ 39), (0, u "GrammarReshaperL3"), (2, u "law"), (0, u "(IIII)Z")] 3

def k1m0 : Method := { name := "<init>", desc := "()V", sig := { parameters := [], returnType := none }, accessFlags := 1, code := none }
def k1c1 : Code := { maxStack := 4, maxLocals := 14, code := code, exceptionTable := #[], attributes := #[] }
def k1m1 : Method := { name := "law", desc := "(IIII)Z", sig := { parameters := [.int, .int, .int, .int], returnType := some .boolean }, accessFlags := 9, code := some k1c1 }
/-- GrammarReshaperL3 -/
def k1 : Class := { plain "GrammarReshaperL3" (some 0) with
  accessFlags := 49
  interfaces := #[]
  cf := some (fileOf pool1 38 #[] #[{ accessFlags := 1, nameIndex := 5, descriptorIndex := 6, attributes := #[] }, { accessFlags := 9, nameIndex := 42, descriptorIndex := 43, attributes := #[] }] 49 2 #[] #[])
  fields := #[]
  methods := #[k1m0, k1m1]
  instanceTypes := #[]
  staticTypes := #[]
  resolved := Array.replicate 47 none
  statics := none }

def pool2 : Array CpInfo := pool [(1, .methodref 2 3), (0, .class_ 4), (0, .nameAndType 5 6), (0, u "java/lang/Object"), (0, u "<init>"), (0, u "()V"), (0, .fieldref 8 9), (0, .class_ 10), (0, .nameAndType 11 12), (0, u "GrammarReshaper"), (0, u "heads"), (0, u "[I"), (0, .fieldref 8 14), (0, .nameAndType 15 12), (0, u "lens"), (0, .fieldref 8 17), (0, .nameAndType 18 12), (0, u "syms"), (0, .fieldref 8 20), (0, .nameAndType 21 12), (0, u "input"), (0, .fieldref 8 23), (0, .nameAndType 24 12), (0, u "cnt"), (0, .fieldref 8 26), (0, .nameAndType 27 12), (0, u "ways"), (0, .fieldref 8 29), (0, .nameAndType 30 12), (0, u "unitAdj"), (0, .fieldref 8 32), (0, .nameAndType 33 12), (0, u "order"), (0, .fieldref 8 35), (0, .nameAndType 36 12), (0, u "deriv"), (0, .fieldref 8 38), (0, .nameAndType 39 12), (0, u "stA"), (0, .fieldref 8 41), (0, .nameAndType 42 12), (0, u "stI"), (0, .fieldref 8 44), (0, .nameAndType 45 12), (0, u "stJ"), (0, .fieldref 8 47), (0, .nameAndType 48 49), (0, u "ruleCap"), (0, u "I"), (0, .fieldref 8 51), (0, .nameAndType 52 49), (0, u "inputCap"), (0, .fieldref 8 54), (0, .nameAndType 55 49), (0, u "state"), (0, .fieldref 8 57), (0, .nameAndType 58 49), (0, u "nRules"), (0, .fieldref 8 60), (0, .nameAndType 61 49), (0, u "inLen"), (0, .fieldref 8 63), (0, .nameAndType 64 49), (0, u "result"), (0, .fieldref 8 66), (0, .nameAndType 67 49), (0, u "derivLen"), (0, .fieldref 8 69), (0, .nameAndType 70 49), (0, u "sp"), (0, .methodref 8 72), (0, .nameAndType 73 74), (0, u "hasEmptyRule"), (0, u "()Z"), (0, .methodref 8 76), (0, .nameAndType 77 74), (0, u "hasDuplicate"), (0, .methodref 8 79), (0, .nameAndType 80 74), (0, u "computeOrder"), (0, .methodref 8 82), (0, .nameAndType 83 6), (0, u "buildChart"), (0, .methodref 8 85), (0, .nameAndType 86 87), (0, u "idx"), (0, u "(III)I"), (0, .methodref 8 89), (0, .nameAndType 90 6), (0, u "extract"), (0, .methodref 8 92), (0, .nameAndType 93 94), (0, u "derivationLength"), (0, u "()I"), (0, .methodref 8 96), (0, .nameAndType 97 98), (0, u "sameRule"), (0, u "(II)Z"), (0, .methodref 8 100), (0, .nameAndType 101 102), (0, u "isUnit"), (0, u "(I)Z"), (0, .methodref 8 104), (0, .nameAndType 105 106), (0, u "computeSpan"), (0, u "(II)V"), (0, .methodref 8 108), (0, .nameAndType 109 87), (0, u "splitCount"), (0, .methodref 8 111), (0, .nameAndType 112 113), (0, u "add"), (0, u "(II)I"), (0, .methodref 8 115), (0, .nameAndType 116 117), (0, u "addUnits"), (0, u "(III)V"), (0, .methodref 8 119), (0, .nameAndType 120 117), (0, u "fillWays"), (0, .methodref 8 122), (0, .nameAndType 123 124), (0, u "cellWays"), (0, u "(IIII)I"), (0, .methodref 8 126), (0, .nameAndType 127 87), (0, u "symCount"), (0, .methodref 8 129), (0, .nameAndType 130 113), (0, u "mul"), (0, .methodref 8 132), (0, .nameAndType 133 117), (0, u "push"), (0, .methodref 8 135), (0, .nameAndType 136 87), (0, u "findRule"), (0, .methodref 8 138), (0, .nameAndType 139 117), (0, u "expand"), (0, .methodref 8 141), (0, .nameAndType 142 87), (0, u "ruleSpanCount"), (0, .methodref 8 144), (0, .nameAndType 145 124), (0, u "findSplit"), (0, u "STATE_EDIT"), (2, u "STATE_READY"), (1, u "OK"), (0, u "ERR_STATE"), (0, u "ERR_RANGE"), (1, u "ERR_FULL"), (1, u "ERR_EMPTY_GRAMMAR"), (1, u "ERR_EMPTY_RULE"), (1, u "ERR_DUPLICATE"), (1, u "ERR_CYCLE"), (1, u "ERR_NO_RULE"), (1, u "MAX_BODY"), (0, u "NONTERMINALS"), (0, u "TERMINALS"), (3, u "beginRule"), (0, u "(I)I"), (0, u "addSymbol"), (0, u "reshape"), (2, u "feed"), (0, u "parse"), (5, u "treeCount"), (0, u "derivationRule")] 2

def k2c0 : Code := { maxStack := 2, maxLocals := 5, code := prog_1_method_1_code, exceptionTable := #[], attributes := #[] }
def k2m0 : Method := { name := "<init>", desc := "(II)V", sig := { parameters := [.int, .int], returnType := none }, accessFlags := 1, code := some k2c0 }
def k2c1 : Code := { maxStack := 3, maxLocals := 2, code := prog_1_method_2_code, exceptionTable := #[], attributes := #[] }
def k2m1 : Method := { name := "beginRule", desc := "(I)I", sig := { parameters := [.int], returnType := some .int }, accessFlags := 1, code := some k2c1 }
def k2c2 : Code := { maxStack := 4, maxLocals := 3, code := prog_1_method_3_code, exceptionTable := #[], attributes := #[] }
def k2m2 : Method := { name := "addSymbol", desc := "(I)I", sig := { parameters := [.int], returnType := some .int }, accessFlags := 1, code := some k2c2 }
def k2c3 : Code := { maxStack := 2, maxLocals := 1, code := prog_1_method_4_code, exceptionTable := #[], attributes := #[] }
def k2m3 : Method := { name := "reshape", desc := "()I", sig := { parameters := [], returnType := some .int }, accessFlags := 1, code := some k2c3 }
def k2c4 : Code := { maxStack := 3, maxLocals := 2, code := prog_1_method_7_code, exceptionTable := #[], attributes := #[] }
def k2m4 : Method := { name := "feed", desc := "(I)I", sig := { parameters := [.int], returnType := some .int }, accessFlags := 1, code := some k2c4 }
def k2c5 : Code := { maxStack := 5, maxLocals := 2, code := prog_1_method_8_code, exceptionTable := #[], attributes := #[] }
def k2m5 : Method := { name := "parse", desc := "()I", sig := { parameters := [], returnType := some .int }, accessFlags := 1, code := some k2c5 }
def k2c6 : Code := { maxStack := 1, maxLocals := 1, code := prog_1_method_15_code, exceptionTable := #[], attributes := #[] }
def k2m6 : Method := { name := "treeCount", desc := "()I", sig := { parameters := [], returnType := some .int }, accessFlags := 1, code := some k2c6 }
def k2c7 : Code := { maxStack := 2, maxLocals := 1, code := prog_1_method_16_code, exceptionTable := #[], attributes := #[] }
def k2m7 : Method := { name := "derivationLength", desc := "()I", sig := { parameters := [], returnType := some .int }, accessFlags := 1, code := some k2c7 }
def k2c8 : Code := { maxStack := 2, maxLocals := 2, code := prog_1_method_17_code, exceptionTable := #[], attributes := #[] }
def k2m8 : Method := { name := "derivationRule", desc := "(I)I", sig := { parameters := [.int], returnType := some .int }, accessFlags := 1, code := some k2c8 }
def k2c9 : Code := { maxStack := 2, maxLocals := 2, code := prog_1_method_18_code, exceptionTable := #[], attributes := #[] }
def k2m9 : Method := { name := "hasEmptyRule", desc := "()Z", sig := { parameters := [], returnType := some .boolean }, accessFlags := 2, code := some k2c9 }
def k2c10 : Code := { maxStack := 3, maxLocals := 3, code := prog_1_method_19_code, exceptionTable := #[], attributes := #[] }
def k2m10 : Method := { name := "hasDuplicate", desc := "()Z", sig := { parameters := [], returnType := some .boolean }, accessFlags := 2, code := some k2c10 }
def k2c11 : Code := { maxStack := 4, maxLocals := 4, code := prog_1_method_20_code, exceptionTable := #[], attributes := #[] }
def k2m11 : Method := { name := "sameRule", desc := "(II)Z", sig := { parameters := [.int, .int], returnType := some .boolean }, accessFlags := 2, code := some k2c11 }
def k2c12 : Code := { maxStack := 3, maxLocals := 2, code := prog_1_method_21_code, exceptionTable := #[], attributes := #[] }
def k2m12 : Method := { name := "isUnit", desc := "(I)Z", sig := { parameters := [.int], returnType := some .boolean }, accessFlags := 2, code := some k2c12 }
def k2c13 : Code := { maxStack := 7, maxLocals := 5, code := prog_1_method_22_code, exceptionTable := #[], attributes := #[] }
def k2m13 : Method := { name := "computeOrder", desc := "()Z", sig := { parameters := [], returnType := some .boolean }, accessFlags := 2, code := some k2c13 }
def k2c14 : Code := { maxStack := 3, maxLocals := 4, code := prog_1_method_23_code, exceptionTable := #[], attributes := #[] }
def k2m14 : Method := { name := "idx", desc := "(III)I", sig := { parameters := [.int, .int, .int], returnType := some .int }, accessFlags := 2, code := some k2c14 }
def k2c15 : Code := { maxStack := 2, maxLocals := 4, code := prog_1_method_24_code, exceptionTable := #[], attributes := #[] }
def k2m15 : Method := { name := "add", desc := "(II)I", sig := { parameters := [.int, .int], returnType := some .int }, accessFlags := 2, code := some k2c15 }
def k2c16 : Code := { maxStack := 2, maxLocals := 4, code := prog_1_method_25_code, exceptionTable := #[], attributes := #[] }
def k2m16 : Method := { name := "mul", desc := "(II)I", sig := { parameters := [.int, .int], returnType := some .int }, accessFlags := 2, code := some k2c16 }
def k2c17 : Code := { maxStack := 4, maxLocals := 3, code := prog_1_method_26_code, exceptionTable := #[], attributes := #[] }
def k2m17 : Method := { name := "buildChart", desc := "()V", sig := { parameters := [], returnType := none }, accessFlags := 2, code := some k2c17 }
def k2c18 : Code := { maxStack := 5, maxLocals := 6, code := prog_1_method_27_code, exceptionTable := #[], attributes := #[] }
def k2m18 : Method := { name := "computeSpan", desc := "(II)V", sig := { parameters := [.int, .int], returnType := none }, accessFlags := 2, code := some k2c18 }
def k2c19 : Code := { maxStack := 5, maxLocals := 7, code := prog_1_method_28_code, exceptionTable := #[], attributes := #[] }
def k2m19 : Method := { name := "addUnits", desc := "(III)V", sig := { parameters := [.int, .int, .int], returnType := none }, accessFlags := 2, code := some k2c19 }
def k2c20 : Code := { maxStack := 5, maxLocals := 4, code := prog_1_method_29_code, exceptionTable := #[], attributes := #[] }
def k2m20 : Method := { name := "symCount", desc := "(III)I", sig := { parameters := [.int, .int, .int], returnType := some .int }, accessFlags := 2, code := some k2c20 }
def k2c21 : Code := { maxStack := 4, maxLocals := 4, code := prog_1_method_30_code, exceptionTable := #[], attributes := #[] }
def k2m21 : Method := { name := "splitCount", desc := "(III)I", sig := { parameters := [.int, .int, .int], returnType := some .int }, accessFlags := 2, code := some k2c21 }
def k2c22 : Code := { maxStack := 7, maxLocals := 7, code := prog_1_method_31_code, exceptionTable := #[], attributes := #[] }
def k2m22 : Method := { name := "fillWays", desc := "(III)V", sig := { parameters := [.int, .int, .int], returnType := none }, accessFlags := 2, code := some k2c22 }
def k2c23 : Code := { maxStack := 4, maxLocals := 11, code := prog_1_method_32_code, exceptionTable := #[], attributes := #[] }
def k2m23 : Method := { name := "cellWays", desc := "(IIII)I", sig := { parameters := [.int, .int, .int, .int], returnType := some .int }, accessFlags := 2, code := some k2c23 }
def k2c24 : Code := { maxStack := 5, maxLocals := 4, code := prog_1_method_33_code, exceptionTable := #[], attributes := #[] }
def k2m24 : Method := { name := "ruleSpanCount", desc := "(III)I", sig := { parameters := [.int, .int, .int], returnType := some .int }, accessFlags := 2, code := some k2c24 }
def k2c25 : Code := { maxStack := 3, maxLocals := 4, code := prog_1_method_34_code, exceptionTable := #[], attributes := #[] }
def k2m25 : Method := { name := "push", desc := "(III)V", sig := { parameters := [.int, .int, .int], returnType := none }, accessFlags := 2, code := some k2c25 }
def k2c26 : Code := { maxStack := 4, maxLocals := 6, code := prog_1_method_35_code, exceptionTable := #[], attributes := #[] }
def k2m26 : Method := { name := "extract", desc := "()V", sig := { parameters := [], returnType := none }, accessFlags := 2, code := some k2c26 }
def k2c27 : Code := { maxStack := 4, maxLocals := 6, code := prog_1_method_36_code, exceptionTable := #[], attributes := #[] }
def k2m27 : Method := { name := "findRule", desc := "(III)I", sig := { parameters := [.int, .int, .int], returnType := some .int }, accessFlags := 2, code := some k2c27 }
def k2c28 : Code := { maxStack := 5, maxLocals := 8, code := prog_1_method_37_code, exceptionTable := #[], attributes := #[] }
def k2m28 : Method := { name := "expand", desc := "(III)V", sig := { parameters := [.int, .int, .int], returnType := none }, accessFlags := 2, code := some k2c28 }
def k2c29 : Code := { maxStack := 4, maxLocals := 8, code := prog_1_method_38_code, exceptionTable := #[], attributes := #[] }
def k2m29 : Method := { name := "findSplit", desc := "(IIII)I", sig := { parameters := [.int, .int, .int, .int], returnType := some .int }, accessFlags := 2, code := some k2c29 }
/-- GrammarReshaper -/
def k2 : Class := { plain "GrammarReshaper" (some 0) with
  accessFlags := 49
  interfaces := #[]
  cf := some (fileOf pool2 8 #[] #[{ accessFlags := 1, nameIndex := 5, descriptorIndex := 106, attributes := #[] }, { accessFlags := 1, nameIndex := 173, descriptorIndex := 174, attributes := #[] }, { accessFlags := 1, nameIndex := 175, descriptorIndex := 174, attributes := #[] }, { accessFlags := 1, nameIndex := 176, descriptorIndex := 94, attributes := #[] }, { accessFlags := 1, nameIndex := 179, descriptorIndex := 174, attributes := #[] }, { accessFlags := 1, nameIndex := 180, descriptorIndex := 94, attributes := #[] }, { accessFlags := 1, nameIndex := 186, descriptorIndex := 94, attributes := #[] }, { accessFlags := 1, nameIndex := 93, descriptorIndex := 94, attributes := #[] }, { accessFlags := 1, nameIndex := 187, descriptorIndex := 174, attributes := #[] }, { accessFlags := 2, nameIndex := 73, descriptorIndex := 74, attributes := #[] }, { accessFlags := 2, nameIndex := 77, descriptorIndex := 74, attributes := #[] }, { accessFlags := 2, nameIndex := 97, descriptorIndex := 98, attributes := #[] }, { accessFlags := 2, nameIndex := 101, descriptorIndex := 102, attributes := #[] }, { accessFlags := 2, nameIndex := 80, descriptorIndex := 74, attributes := #[] }, { accessFlags := 2, nameIndex := 86, descriptorIndex := 87, attributes := #[] }, { accessFlags := 2, nameIndex := 112, descriptorIndex := 113, attributes := #[] }, { accessFlags := 2, nameIndex := 130, descriptorIndex := 113, attributes := #[] }, { accessFlags := 2, nameIndex := 83, descriptorIndex := 6, attributes := #[] }, { accessFlags := 2, nameIndex := 105, descriptorIndex := 106, attributes := #[] }, { accessFlags := 2, nameIndex := 116, descriptorIndex := 117, attributes := #[] }, { accessFlags := 2, nameIndex := 127, descriptorIndex := 87, attributes := #[] }, { accessFlags := 2, nameIndex := 109, descriptorIndex := 87, attributes := #[] }, { accessFlags := 2, nameIndex := 120, descriptorIndex := 117, attributes := #[] }, { accessFlags := 2, nameIndex := 123, descriptorIndex := 124, attributes := #[] }, { accessFlags := 2, nameIndex := 142, descriptorIndex := 87, attributes := #[] }, { accessFlags := 2, nameIndex := 133, descriptorIndex := 117, attributes := #[] }, { accessFlags := 2, nameIndex := 90, descriptorIndex := 6, attributes := #[] }, { accessFlags := 2, nameIndex := 136, descriptorIndex := 87, attributes := #[] }, { accessFlags := 2, nameIndex := 139, descriptorIndex := 117, attributes := #[] }, { accessFlags := 2, nameIndex := 145, descriptorIndex := 124, attributes := #[] }] 49 2 #[] #[{ accessFlags := 25, nameIndex := 146, descriptorIndex := 49, attributes := #[] }, { accessFlags := 25, nameIndex := 149, descriptorIndex := 49, attributes := #[] }, { accessFlags := 25, nameIndex := 151, descriptorIndex := 49, attributes := #[] }, { accessFlags := 25, nameIndex := 152, descriptorIndex := 49, attributes := #[] }, { accessFlags := 25, nameIndex := 153, descriptorIndex := 49, attributes := #[] }, { accessFlags := 25, nameIndex := 155, descriptorIndex := 49, attributes := #[] }, { accessFlags := 25, nameIndex := 157, descriptorIndex := 49, attributes := #[] }, { accessFlags := 25, nameIndex := 159, descriptorIndex := 49, attributes := #[] }, { accessFlags := 25, nameIndex := 161, descriptorIndex := 49, attributes := #[] }, { accessFlags := 25, nameIndex := 163, descriptorIndex := 49, attributes := #[] }, { accessFlags := 25, nameIndex := 165, descriptorIndex := 49, attributes := #[] }, { accessFlags := 25, nameIndex := 167, descriptorIndex := 49, attributes := #[] }, { accessFlags := 25, nameIndex := 168, descriptorIndex := 49, attributes := #[] }, { accessFlags := 25, nameIndex := 169, descriptorIndex := 49, attributes := #[] }, { accessFlags := 2, nameIndex := 48, descriptorIndex := 49, attributes := #[] }, { accessFlags := 2, nameIndex := 52, descriptorIndex := 49, attributes := #[] }, { accessFlags := 2, nameIndex := 55, descriptorIndex := 49, attributes := #[] }, { accessFlags := 2, nameIndex := 58, descriptorIndex := 49, attributes := #[] }, { accessFlags := 2, nameIndex := 61, descriptorIndex := 49, attributes := #[] }, { accessFlags := 2, nameIndex := 64, descriptorIndex := 49, attributes := #[] }, { accessFlags := 2, nameIndex := 67, descriptorIndex := 49, attributes := #[] }, { accessFlags := 2, nameIndex := 70, descriptorIndex := 49, attributes := #[] }, { accessFlags := 2, nameIndex := 11, descriptorIndex := 12, attributes := #[] }, { accessFlags := 2, nameIndex := 15, descriptorIndex := 12, attributes := #[] }, { accessFlags := 2, nameIndex := 18, descriptorIndex := 12, attributes := #[] }, { accessFlags := 2, nameIndex := 21, descriptorIndex := 12, attributes := #[] }, { accessFlags := 2, nameIndex := 24, descriptorIndex := 12, attributes := #[] }, { accessFlags := 2, nameIndex := 27, descriptorIndex := 12, attributes := #[] }, { accessFlags := 2, nameIndex := 30, descriptorIndex := 12, attributes := #[] }, { accessFlags := 2, nameIndex := 33, descriptorIndex := 12, attributes := #[] }, { accessFlags := 2, nameIndex := 36, descriptorIndex := 12, attributes := #[] }, { accessFlags := 2, nameIndex := 39, descriptorIndex := 12, attributes := #[] }, { accessFlags := 2, nameIndex := 42, descriptorIndex := 12, attributes := #[] }, { accessFlags := 2, nameIndex := 45, descriptorIndex := 12, attributes := #[] }])
  fields := #[{ name := "STATE_EDIT", type := .int, accessFlags := 25, slot := 0, constantValue := 0 }, { name := "STATE_READY", type := .int, accessFlags := 25, slot := 1, constantValue := 0 }, { name := "OK", type := .int, accessFlags := 25, slot := 2, constantValue := 0 }, { name := "ERR_STATE", type := .int, accessFlags := 25, slot := 3, constantValue := 0 }, { name := "ERR_RANGE", type := .int, accessFlags := 25, slot := 4, constantValue := 0 }, { name := "ERR_FULL", type := .int, accessFlags := 25, slot := 5, constantValue := 0 }, { name := "ERR_EMPTY_GRAMMAR", type := .int, accessFlags := 25, slot := 6, constantValue := 0 }, { name := "ERR_EMPTY_RULE", type := .int, accessFlags := 25, slot := 7, constantValue := 0 }, { name := "ERR_DUPLICATE", type := .int, accessFlags := 25, slot := 8, constantValue := 0 }, { name := "ERR_CYCLE", type := .int, accessFlags := 25, slot := 9, constantValue := 0 }, { name := "ERR_NO_RULE", type := .int, accessFlags := 25, slot := 10, constantValue := 0 }, { name := "MAX_BODY", type := .int, accessFlags := 25, slot := 11, constantValue := 0 }, { name := "NONTERMINALS", type := .int, accessFlags := 25, slot := 12, constantValue := 0 }, { name := "TERMINALS", type := .int, accessFlags := 25, slot := 13, constantValue := 0 }, { name := "ruleCap", type := .int, accessFlags := 2, slot := 0, constantValue := 0 }, { name := "inputCap", type := .int, accessFlags := 2, slot := 1, constantValue := 0 }, { name := "state", type := .int, accessFlags := 2, slot := 2, constantValue := 0 }, { name := "nRules", type := .int, accessFlags := 2, slot := 3, constantValue := 0 }, { name := "inLen", type := .int, accessFlags := 2, slot := 4, constantValue := 0 }, { name := "result", type := .int, accessFlags := 2, slot := 5, constantValue := 0 }, { name := "derivLen", type := .int, accessFlags := 2, slot := 6, constantValue := 0 }, { name := "sp", type := .int, accessFlags := 2, slot := 7, constantValue := 0 }, { name := "heads", type := (.array .int), accessFlags := 2, slot := 8, constantValue := 0 }, { name := "lens", type := (.array .int), accessFlags := 2, slot := 9, constantValue := 0 }, { name := "syms", type := (.array .int), accessFlags := 2, slot := 10, constantValue := 0 }, { name := "input", type := (.array .int), accessFlags := 2, slot := 11, constantValue := 0 }, { name := "cnt", type := (.array .int), accessFlags := 2, slot := 12, constantValue := 0 }, { name := "ways", type := (.array .int), accessFlags := 2, slot := 13, constantValue := 0 }, { name := "unitAdj", type := (.array .int), accessFlags := 2, slot := 14, constantValue := 0 }, { name := "order", type := (.array .int), accessFlags := 2, slot := 15, constantValue := 0 }, { name := "deriv", type := (.array .int), accessFlags := 2, slot := 16, constantValue := 0 }, { name := "stA", type := (.array .int), accessFlags := 2, slot := 17, constantValue := 0 }, { name := "stI", type := (.array .int), accessFlags := 2, slot := 18, constantValue := 0 }, { name := "stJ", type := (.array .int), accessFlags := 2, slot := 19, constantValue := 0 }]
  methods := #[k2m0, k2m1, k2m2, k2m3, k2m4, k2m5, k2m6, k2m7, k2m8, k2m9, k2m10, k2m11, k2m12, k2m13, k2m14, k2m15, k2m16, k2m17, k2m18, k2m19, k2m20, k2m21, k2m22, k2m23, k2m24, k2m25, k2m26, k2m27, k2m28, k2m29]
  instanceTypes := #[.int, .int, .int, .int, .int, .int, .int, .int, (.array .int), (.array .int), (.array .int), (.array .int), (.array .int), (.array .int), (.array .int), (.array .int), (.array .int), (.array .int), (.array .int), (.array .int)]
  staticTypes := #[.int, .int, .int, .int, .int, .int, .int, .int, .int, .int, .int, .int, .int, .int]
  resolved := Array.replicate 190 none
  statics := none }

def pool3 : Array CpInfo := pool [(1, u "java/lang/Cloneable"), (0, .class_ 1), (0, u "java/lang/Object"), (0, .class_ 3)] 3

/-- java/lang/Cloneable -/
def k3 : Class := { plain "java/lang/Cloneable" (some 0) with
  accessFlags := 1537
  interfaces := #[]
  cf := some (fileOf pool3 2 #[] #[] 1537 4 #[] #[])
  fields := #[]
  methods := #[]
  instanceTypes := #[]
  staticTypes := #[]
  resolved := Array.replicate 8 none
  statics := none }

def pool4 : Array CpInfo := pool [(1, u "java/io/Serializable"), (0, .class_ 1), (0, u "java/lang/Object"), (0, .class_ 3)] 3

/-- java/io/Serializable -/
def k4 : Class := { plain "java/io/Serializable" (some 0) with
  accessFlags := 1537
  interfaces := #[]
  cf := some (fileOf pool4 2 #[] #[] 1537 4 #[] #[])
  fields := #[]
  methods := #[]
  instanceTypes := #[]
  staticTypes := #[]
  resolved := Array.replicate 8 none
  statics := none }

/-- the primitive byte -/
def k5 : Class := { plain "byte" none with kind := .primitive 'B', accessFlags := 0x411 }
/-- [B -/
def k6 : Class := { plain "[B" (some 0) with kind := .array 5 .byte, interfaces := #[3, 4], accessFlags := 1041 }

/-- the primitive int -/
def k7 : Class := { plain "int" none with kind := .primitive 'I', accessFlags := 0x411 }
/-- [I -/
def k8 : Class := { plain "[I" (some 0) with kind := .array 7 .int, interfaces := #[3, 4], accessFlags := 1041 }

def heap : Heap := #[]
def classes : Array Class := #[k0, k1, k2, k3, k4, k5, k6, k7, k8]
def interned : List (Array UInt16 × Addr) := []
def slotsUsed : Nat := 0
def theMethod : MethodId := ⟨1, 1⟩
def args0 : Array Value := #[.int 1, .int 2, .int 1, .int 2]
def aboutOver (below : List Frame) : State where
  vm := { classes := classes, interned := interned.toArray }
  heap := heap
  slotsUsed := slotsUsed
  threads := #[{ frames := .invoking theMethod args0 :: below }]
def below0 : List Frame := [.native { method := ⟨0, 0⟩, args := #[] }]
def about1 : State := aboutOver below0
def p0 : Program := .bare "" "" ""
def e0 : Env := launch0.env 0 0 0
theorem w_frames : about1.frames = Frame.invoking theMethod args0 :: below0 := rfl
set_option maxRecDepth 65536 in
theorem w_args : argsFit about1.vm theMethod args0 = true := by decide +kernel
set_option maxRecDepth 65536 in
theorem w_heap : heapFits about1 = true := by decide +kernel
set_option maxRecDepth 65536 in
theorem w_runnable : about1.curStatus? = some .runnable := by decide +kernel
set_option maxRecDepth 65536 in
theorem w_alone : about1.alone = true := by decide +kernel
set_option maxRecDepth 65536 in
theorem w_named : about1.methodNamed? x = some theMethod := by decide +kernel
set_option maxRecDepth 65536 in
theorem w_hears : about1.hears theMethod below0 = true := by decide +kernel
set_option maxRecDepth 65536 in
theorem w_ripe : about1.ripe theMethod args0 below0 = true := by decide +kernel
theorem w_running : about1.status = .running := rfl
set_option maxRecDepth 65536 in
theorem w_room : about1.hasRoom e0.platform room_1 = true :=
  launch0.hasRoom_least _ room_1 (by decide +kernel) (by decide +kernel) (by decide +kernel) (by decide +kernel) (by decide +kernel) (by decide +kernel)
theorem allAtoms_all (ts : List Jvm.Cond) (a : Array Jvm.Value) (st : Jvm.State) : (allAtoms ts).before a st = ts.all (fun c => c.before a st) := by
  induction ts with
  | nil => rfl
  | cons c t ih =>
    show (Jvm.Cond.and c (allAtoms t)).before a st = _
    rw [Jvm.Cond.before_and, ih, List.all_cons]
def words1 : List Jvm.Cond := Jvm.Cond.code x code maxLocals ret :: tables_1
/-- a 'code' word, met by the world's own term for the bytes: nothing is compared byte by byte -/
theorem code_word {y : MethodName} {bytes : ByteArray} {mx : Nat} {rt : Option FieldType} {a : Array Value} {s : State} {m : MethodId} {meth : Method} {c : Code} (h1 : s.methodNamed? y = some m) (h2 : s.vm.method? m = some meth) (h3 : meth.code = some c) (h4 : c.code = bytes)
    (h5 : (c.maxLocals == mx && c.exceptionTable.isEmpty && decide (c.maxStack ≤ mostOperands) && decide (meth.sig.returnType = rt) && !meth.locks && decide (parseMethodDescriptor y.desc = some meth.sig)) = true) : (Jvm.Cond.code y bytes mx rt).before a s = true := by
  simp only [Bool.and_eq_true, beq_iff_eq, Bool.not_eq_true', decide_eq_true_eq] at h5
  obtain ⟨⟨⟨⟨⟨g1, g2⟩, g3⟩, g4⟩, g5⟩, g6⟩ := h5
  simp [Cond.before, Cond.holds, Cond.value, h1, h2, h3, h4, g1, g2, g3, g4, g5, g6]
def isCode : Jvm.Cond → Bool
  | .code _ _ _ _ => true
  | _ => false
theorem all_split {L : List Jvm.Cond} {P : Jvm.Cond → Bool} (h1 : L.all (fun c => isCode c || P c) = true) (h2 : ∀ c ∈ L.filter isCode, P c = true) : L.all P = true := by
  refine List.all_eq_true.mpr fun c hc => ?_
  have h := List.all_eq_true.mp h1 c hc
  rcases Bool.eq_false_or_eq_true (isCode c) with hi | hi
  · exact h2 c (List.mem_filter.mpr ⟨hc, hi⟩)
  · simpa [hi] using h
set_option maxRecDepth 65536 in
theorem w_c0 : (Jvm.Cond.code x code maxLocals ret).before args0 about1 = true := code_word (m := ⟨1, 1⟩) (meth := k1m1) (c := k1c1) (by decide +kernel) rfl rfl rfl (by decide +kernel)
set_option maxRecDepth 65536 in
theorem w_c1 : (Jvm.Cond.code ({ cls := "GrammarReshaper", name := "<init>", desc := "(II)V" } : Jvm.MethodName) prog_1_method_1_code (5 : Nat) (Option.none : Option Jvm.ClassFile.FieldType)).before args0 about1 = true := code_word (m := ⟨2, 0⟩) (meth := k2m0) (c := k2c0) (by decide +kernel) rfl rfl rfl (by decide +kernel)
set_option maxRecDepth 65536 in
theorem w_c2 : (Jvm.Cond.code ({ cls := "java/lang/Object", name := "<init>", desc := "()V" } : Jvm.MethodName) object_method_1_code (1 : Nat) (Option.none : Option Jvm.ClassFile.FieldType)).before args0 about1 = true := code_word (m := ⟨0, 0⟩) (meth := k0m0) (c := k0c0) (by decide +kernel) rfl rfl rfl (by decide +kernel)
set_option maxRecDepth 65536 in
theorem w_c3 : (Jvm.Cond.code ({ cls := "GrammarReshaper", name := "beginRule", desc := "(I)I" } : Jvm.MethodName) prog_1_method_2_code (2 : Nat) (Option.some Jvm.ClassFile.FieldType.int)).before args0 about1 = true := code_word (m := ⟨2, 1⟩) (meth := k2m1) (c := k2c1) (by decide +kernel) rfl rfl rfl (by decide +kernel)
set_option maxRecDepth 65536 in
theorem w_c4 : (Jvm.Cond.code ({ cls := "GrammarReshaper", name := "addSymbol", desc := "(I)I" } : Jvm.MethodName) prog_1_method_3_code (3 : Nat) (Option.some Jvm.ClassFile.FieldType.int)).before args0 about1 = true := code_word (m := ⟨2, 2⟩) (meth := k2m2) (c := k2c2) (by decide +kernel) rfl rfl rfl (by decide +kernel)
set_option maxRecDepth 65536 in
theorem w_c5 : (Jvm.Cond.code ({ cls := "GrammarReshaper", name := "reshape", desc := "()I" } : Jvm.MethodName) prog_1_method_4_code (1 : Nat) (Option.some Jvm.ClassFile.FieldType.int)).before args0 about1 = true := code_word (m := ⟨2, 3⟩) (meth := k2m3) (c := k2c3) (by decide +kernel) rfl rfl rfl (by decide +kernel)
set_option maxRecDepth 65536 in
theorem w_c6 : (Jvm.Cond.code ({ cls := "GrammarReshaper", name := "hasEmptyRule", desc := "()Z" } : Jvm.MethodName) prog_1_method_18_code (2 : Nat) (Option.some Jvm.ClassFile.FieldType.boolean)).before args0 about1 = true := code_word (m := ⟨2, 9⟩) (meth := k2m9) (c := k2c9) (by decide +kernel) rfl rfl rfl (by decide +kernel)
set_option maxRecDepth 65536 in
theorem w_c7 : (Jvm.Cond.code ({ cls := "GrammarReshaper", name := "hasDuplicate", desc := "()Z" } : Jvm.MethodName) prog_1_method_19_code (3 : Nat) (Option.some Jvm.ClassFile.FieldType.boolean)).before args0 about1 = true := code_word (m := ⟨2, 10⟩) (meth := k2m10) (c := k2c10) (by decide +kernel) rfl rfl rfl (by decide +kernel)
set_option maxRecDepth 65536 in
theorem w_c8 : (Jvm.Cond.code ({ cls := "GrammarReshaper", name := "sameRule", desc := "(II)Z" } : Jvm.MethodName) prog_1_method_20_code (4 : Nat) (Option.some Jvm.ClassFile.FieldType.boolean)).before args0 about1 = true := code_word (m := ⟨2, 11⟩) (meth := k2m11) (c := k2c11) (by decide +kernel) rfl rfl rfl (by decide +kernel)
set_option maxRecDepth 65536 in
theorem w_c9 : (Jvm.Cond.code ({ cls := "GrammarReshaper", name := "computeOrder", desc := "()Z" } : Jvm.MethodName) prog_1_method_22_code (5 : Nat) (Option.some Jvm.ClassFile.FieldType.boolean)).before args0 about1 = true := code_word (m := ⟨2, 13⟩) (meth := k2m13) (c := k2c13) (by decide +kernel) rfl rfl rfl (by decide +kernel)
set_option maxRecDepth 65536 in
theorem w_c10 : (Jvm.Cond.code ({ cls := "GrammarReshaper", name := "isUnit", desc := "(I)Z" } : Jvm.MethodName) prog_1_method_21_code (2 : Nat) (Option.some Jvm.ClassFile.FieldType.boolean)).before args0 about1 = true := code_word (m := ⟨2, 12⟩) (meth := k2m12) (c := k2c12) (by decide +kernel) rfl rfl rfl (by decide +kernel)
set_option maxRecDepth 65536 in
theorem w_c11 : (Jvm.Cond.code ({ cls := "GrammarReshaper", name := "feed", desc := "(I)I" } : Jvm.MethodName) prog_1_method_7_code (2 : Nat) (Option.some Jvm.ClassFile.FieldType.int)).before args0 about1 = true := code_word (m := ⟨2, 4⟩) (meth := k2m4) (c := k2c4) (by decide +kernel) rfl rfl rfl (by decide +kernel)
set_option maxRecDepth 65536 in
theorem w_c12 : (Jvm.Cond.code ({ cls := "GrammarReshaper", name := "parse", desc := "()I" } : Jvm.MethodName) prog_1_method_8_code (2 : Nat) (Option.some Jvm.ClassFile.FieldType.int)).before args0 about1 = true := code_word (m := ⟨2, 5⟩) (meth := k2m5) (c := k2c5) (by decide +kernel) rfl rfl rfl (by decide +kernel)
set_option maxRecDepth 65536 in
theorem w_c13 : (Jvm.Cond.code ({ cls := "GrammarReshaper", name := "buildChart", desc := "()V" } : Jvm.MethodName) prog_1_method_26_code (3 : Nat) (Option.none : Option Jvm.ClassFile.FieldType)).before args0 about1 = true := code_word (m := ⟨2, 17⟩) (meth := k2m17) (c := k2c17) (by decide +kernel) rfl rfl rfl (by decide +kernel)
set_option maxRecDepth 65536 in
theorem w_c14 : (Jvm.Cond.code ({ cls := "GrammarReshaper", name := "computeSpan", desc := "(II)V" } : Jvm.MethodName) prog_1_method_27_code (6 : Nat) (Option.none : Option Jvm.ClassFile.FieldType)).before args0 about1 = true := code_word (m := ⟨2, 18⟩) (meth := k2m18) (c := k2c18) (by decide +kernel) rfl rfl rfl (by decide +kernel)
set_option maxRecDepth 65536 in
theorem w_c15 : (Jvm.Cond.code ({ cls := "GrammarReshaper", name := "idx", desc := "(III)I" } : Jvm.MethodName) prog_1_method_23_code (4 : Nat) (Option.some Jvm.ClassFile.FieldType.int)).before args0 about1 = true := code_word (m := ⟨2, 14⟩) (meth := k2m14) (c := k2c14) (by decide +kernel) rfl rfl rfl (by decide +kernel)
set_option maxRecDepth 65536 in
theorem w_c16 : (Jvm.Cond.code ({ cls := "GrammarReshaper", name := "splitCount", desc := "(III)I" } : Jvm.MethodName) prog_1_method_30_code (4 : Nat) (Option.some Jvm.ClassFile.FieldType.int)).before args0 about1 = true := code_word (m := ⟨2, 21⟩) (meth := k2m21) (c := k2c21) (by decide +kernel) rfl rfl rfl (by decide +kernel)
set_option maxRecDepth 65536 in
theorem w_c17 : (Jvm.Cond.code ({ cls := "GrammarReshaper", name := "fillWays", desc := "(III)V" } : Jvm.MethodName) prog_1_method_31_code (7 : Nat) (Option.none : Option Jvm.ClassFile.FieldType)).before args0 about1 = true := code_word (m := ⟨2, 22⟩) (meth := k2m22) (c := k2c22) (by decide +kernel) rfl rfl rfl (by decide +kernel)
set_option maxRecDepth 65536 in
theorem w_c18 : (Jvm.Cond.code ({ cls := "GrammarReshaper", name := "add", desc := "(II)I" } : Jvm.MethodName) prog_1_method_24_code (4 : Nat) (Option.some Jvm.ClassFile.FieldType.int)).before args0 about1 = true := code_word (m := ⟨2, 15⟩) (meth := k2m15) (c := k2c15) (by decide +kernel) rfl rfl rfl (by decide +kernel)
set_option maxRecDepth 65536 in
theorem w_c19 : (Jvm.Cond.code ({ cls := "GrammarReshaper", name := "cellWays", desc := "(IIII)I" } : Jvm.MethodName) prog_1_method_32_code (11 : Nat) (Option.some Jvm.ClassFile.FieldType.int)).before args0 about1 = true := code_word (m := ⟨2, 23⟩) (meth := k2m23) (c := k2c23) (by decide +kernel) rfl rfl rfl (by decide +kernel)
set_option maxRecDepth 65536 in
theorem w_c20 : (Jvm.Cond.code ({ cls := "GrammarReshaper", name := "symCount", desc := "(III)I" } : Jvm.MethodName) prog_1_method_29_code (4 : Nat) (Option.some Jvm.ClassFile.FieldType.int)).before args0 about1 = true := code_word (m := ⟨2, 20⟩) (meth := k2m20) (c := k2c20) (by decide +kernel) rfl rfl rfl (by decide +kernel)
set_option maxRecDepth 65536 in
theorem w_c21 : (Jvm.Cond.code ({ cls := "GrammarReshaper", name := "mul", desc := "(II)I" } : Jvm.MethodName) prog_1_method_25_code (4 : Nat) (Option.some Jvm.ClassFile.FieldType.int)).before args0 about1 = true := code_word (m := ⟨2, 16⟩) (meth := k2m16) (c := k2c16) (by decide +kernel) rfl rfl rfl (by decide +kernel)
set_option maxRecDepth 65536 in
theorem w_c22 : (Jvm.Cond.code ({ cls := "GrammarReshaper", name := "addUnits", desc := "(III)V" } : Jvm.MethodName) prog_1_method_28_code (7 : Nat) (Option.none : Option Jvm.ClassFile.FieldType)).before args0 about1 = true := code_word (m := ⟨2, 19⟩) (meth := k2m19) (c := k2c19) (by decide +kernel) rfl rfl rfl (by decide +kernel)
set_option maxRecDepth 65536 in
theorem w_c23 : (Jvm.Cond.code ({ cls := "GrammarReshaper", name := "treeCount", desc := "()I" } : Jvm.MethodName) prog_1_method_15_code (1 : Nat) (Option.some Jvm.ClassFile.FieldType.int)).before args0 about1 = true := code_word (m := ⟨2, 6⟩) (meth := k2m6) (c := k2c6) (by decide +kernel) rfl rfl rfl (by decide +kernel)
set_option maxRecDepth 65536 in
theorem w_c24 : (Jvm.Cond.code ({ cls := "GrammarReshaper", name := "derivationLength", desc := "()I" } : Jvm.MethodName) prog_1_method_16_code (1 : Nat) (Option.some Jvm.ClassFile.FieldType.int)).before args0 about1 = true := code_word (m := ⟨2, 7⟩) (meth := k2m7) (c := k2c7) (by decide +kernel) rfl rfl rfl (by decide +kernel)
set_option maxRecDepth 65536 in
theorem w_c25 : (Jvm.Cond.code ({ cls := "GrammarReshaper", name := "derivationRule", desc := "(I)I" } : Jvm.MethodName) prog_1_method_17_code (2 : Nat) (Option.some Jvm.ClassFile.FieldType.int)).before args0 about1 = true := code_word (m := ⟨2, 8⟩) (meth := k2m8) (c := k2c8) (by decide +kernel) rfl rfl rfl (by decide +kernel)
set_option maxRecDepth 65536 in
theorem w_c26 : (Jvm.Cond.code ({ cls := "GrammarReshaper", name := "extract", desc := "()V" } : Jvm.MethodName) prog_1_method_35_code (6 : Nat) (Option.none : Option Jvm.ClassFile.FieldType)).before args0 about1 = true := code_word (m := ⟨2, 26⟩) (meth := k2m26) (c := k2c26) (by decide +kernel) rfl rfl rfl (by decide +kernel)
set_option maxRecDepth 65536 in
theorem w_c27 : (Jvm.Cond.code ({ cls := "GrammarReshaper", name := "push", desc := "(III)V" } : Jvm.MethodName) prog_1_method_34_code (4 : Nat) (Option.none : Option Jvm.ClassFile.FieldType)).before args0 about1 = true := code_word (m := ⟨2, 25⟩) (meth := k2m25) (c := k2c25) (by decide +kernel) rfl rfl rfl (by decide +kernel)
set_option maxRecDepth 65536 in
theorem w_c28 : (Jvm.Cond.code ({ cls := "GrammarReshaper", name := "findRule", desc := "(III)I" } : Jvm.MethodName) prog_1_method_36_code (6 : Nat) (Option.some Jvm.ClassFile.FieldType.int)).before args0 about1 = true := code_word (m := ⟨2, 27⟩) (meth := k2m27) (c := k2c27) (by decide +kernel) rfl rfl rfl (by decide +kernel)
set_option maxRecDepth 65536 in
theorem w_c29 : (Jvm.Cond.code ({ cls := "GrammarReshaper", name := "ruleSpanCount", desc := "(III)I" } : Jvm.MethodName) prog_1_method_33_code (4 : Nat) (Option.some Jvm.ClassFile.FieldType.int)).before args0 about1 = true := code_word (m := ⟨2, 24⟩) (meth := k2m24) (c := k2c24) (by decide +kernel) rfl rfl rfl (by decide +kernel)
set_option maxRecDepth 65536 in
theorem w_c30 : (Jvm.Cond.code ({ cls := "GrammarReshaper", name := "expand", desc := "(III)V" } : Jvm.MethodName) prog_1_method_37_code (8 : Nat) (Option.none : Option Jvm.ClassFile.FieldType)).before args0 about1 = true := code_word (m := ⟨2, 28⟩) (meth := k2m28) (c := k2c28) (by decide +kernel) rfl rfl rfl (by decide +kernel)
set_option maxRecDepth 65536 in
theorem w_c31 : (Jvm.Cond.code ({ cls := "GrammarReshaper", name := "findSplit", desc := "(IIII)I" } : Jvm.MethodName) prog_1_method_38_code (8 : Nat) (Option.some Jvm.ClassFile.FieldType.int)).before args0 about1 = true := code_word (m := ⟨2, 29⟩) (meth := k2m29) (c := k2c29) (by decide +kernel) rfl rfl rfl (by decide +kernel)
def codes1 : List Jvm.Cond := [Jvm.Cond.code x code maxLocals ret, Jvm.Cond.code ({ cls := "GrammarReshaper", name := "<init>", desc := "(II)V" } : Jvm.MethodName) prog_1_method_1_code (5 : Nat) (Option.none : Option Jvm.ClassFile.FieldType), Jvm.Cond.code ({ cls := "java/lang/Object", name := "<init>", desc := "()V" } : Jvm.MethodName) object_method_1_code (1 : Nat) (Option.none : Option Jvm.ClassFile.FieldType), Jvm.Cond.code ({ cls := "GrammarReshaper", name := "beginRule", desc := "(I)I" } : Jvm.MethodName) prog_1_method_2_code (2 : Nat) (Option.some Jvm.ClassFile.FieldType.int), Jvm.Cond.code ({ cls := "GrammarReshaper", name := "addSymbol", desc := "(I)I" } : Jvm.MethodName) prog_1_method_3_code (3 : Nat) (Option.some Jvm.ClassFile.FieldType.int), Jvm.Cond.code ({ cls := "GrammarReshaper", name := "reshape", desc := "()I" } : Jvm.MethodName) prog_1_method_4_code (1 : Nat) (Option.some Jvm.ClassFile.FieldType.int), Jvm.Cond.code ({ cls := "GrammarReshaper", name := "hasEmptyRule", desc := "()Z" } : Jvm.MethodName) prog_1_method_18_code (2 : Nat) (Option.some Jvm.ClassFile.FieldType.boolean), Jvm.Cond.code ({ cls := "GrammarReshaper", name := "hasDuplicate", desc := "()Z" } : Jvm.MethodName) prog_1_method_19_code (3 : Nat) (Option.some Jvm.ClassFile.FieldType.boolean), Jvm.Cond.code ({ cls := "GrammarReshaper", name := "sameRule", desc := "(II)Z" } : Jvm.MethodName) prog_1_method_20_code (4 : Nat) (Option.some Jvm.ClassFile.FieldType.boolean), Jvm.Cond.code ({ cls := "GrammarReshaper", name := "computeOrder", desc := "()Z" } : Jvm.MethodName) prog_1_method_22_code (5 : Nat) (Option.some Jvm.ClassFile.FieldType.boolean), Jvm.Cond.code ({ cls := "GrammarReshaper", name := "isUnit", desc := "(I)Z" } : Jvm.MethodName) prog_1_method_21_code (2 : Nat) (Option.some Jvm.ClassFile.FieldType.boolean), Jvm.Cond.code ({ cls := "GrammarReshaper", name := "feed", desc := "(I)I" } : Jvm.MethodName) prog_1_method_7_code (2 : Nat) (Option.some Jvm.ClassFile.FieldType.int), Jvm.Cond.code ({ cls := "GrammarReshaper", name := "parse", desc := "()I" } : Jvm.MethodName) prog_1_method_8_code (2 : Nat) (Option.some Jvm.ClassFile.FieldType.int), Jvm.Cond.code ({ cls := "GrammarReshaper", name := "buildChart", desc := "()V" } : Jvm.MethodName) prog_1_method_26_code (3 : Nat) (Option.none : Option Jvm.ClassFile.FieldType), Jvm.Cond.code ({ cls := "GrammarReshaper", name := "computeSpan", desc := "(II)V" } : Jvm.MethodName) prog_1_method_27_code (6 : Nat) (Option.none : Option Jvm.ClassFile.FieldType), Jvm.Cond.code ({ cls := "GrammarReshaper", name := "idx", desc := "(III)I" } : Jvm.MethodName) prog_1_method_23_code (4 : Nat) (Option.some Jvm.ClassFile.FieldType.int), Jvm.Cond.code ({ cls := "GrammarReshaper", name := "splitCount", desc := "(III)I" } : Jvm.MethodName) prog_1_method_30_code (4 : Nat) (Option.some Jvm.ClassFile.FieldType.int), Jvm.Cond.code ({ cls := "GrammarReshaper", name := "fillWays", desc := "(III)V" } : Jvm.MethodName) prog_1_method_31_code (7 : Nat) (Option.none : Option Jvm.ClassFile.FieldType), Jvm.Cond.code ({ cls := "GrammarReshaper", name := "add", desc := "(II)I" } : Jvm.MethodName) prog_1_method_24_code (4 : Nat) (Option.some Jvm.ClassFile.FieldType.int), Jvm.Cond.code ({ cls := "GrammarReshaper", name := "cellWays", desc := "(IIII)I" } : Jvm.MethodName) prog_1_method_32_code (11 : Nat) (Option.some Jvm.ClassFile.FieldType.int), Jvm.Cond.code ({ cls := "GrammarReshaper", name := "symCount", desc := "(III)I" } : Jvm.MethodName) prog_1_method_29_code (4 : Nat) (Option.some Jvm.ClassFile.FieldType.int), Jvm.Cond.code ({ cls := "GrammarReshaper", name := "mul", desc := "(II)I" } : Jvm.MethodName) prog_1_method_25_code (4 : Nat) (Option.some Jvm.ClassFile.FieldType.int), Jvm.Cond.code ({ cls := "GrammarReshaper", name := "addUnits", desc := "(III)V" } : Jvm.MethodName) prog_1_method_28_code (7 : Nat) (Option.none : Option Jvm.ClassFile.FieldType), Jvm.Cond.code ({ cls := "GrammarReshaper", name := "treeCount", desc := "()I" } : Jvm.MethodName) prog_1_method_15_code (1 : Nat) (Option.some Jvm.ClassFile.FieldType.int), Jvm.Cond.code ({ cls := "GrammarReshaper", name := "derivationLength", desc := "()I" } : Jvm.MethodName) prog_1_method_16_code (1 : Nat) (Option.some Jvm.ClassFile.FieldType.int), Jvm.Cond.code ({ cls := "GrammarReshaper", name := "derivationRule", desc := "(I)I" } : Jvm.MethodName) prog_1_method_17_code (2 : Nat) (Option.some Jvm.ClassFile.FieldType.int), Jvm.Cond.code ({ cls := "GrammarReshaper", name := "extract", desc := "()V" } : Jvm.MethodName) prog_1_method_35_code (6 : Nat) (Option.none : Option Jvm.ClassFile.FieldType), Jvm.Cond.code ({ cls := "GrammarReshaper", name := "push", desc := "(III)V" } : Jvm.MethodName) prog_1_method_34_code (4 : Nat) (Option.none : Option Jvm.ClassFile.FieldType), Jvm.Cond.code ({ cls := "GrammarReshaper", name := "findRule", desc := "(III)I" } : Jvm.MethodName) prog_1_method_36_code (6 : Nat) (Option.some Jvm.ClassFile.FieldType.int), Jvm.Cond.code ({ cls := "GrammarReshaper", name := "ruleSpanCount", desc := "(III)I" } : Jvm.MethodName) prog_1_method_33_code (4 : Nat) (Option.some Jvm.ClassFile.FieldType.int), Jvm.Cond.code ({ cls := "GrammarReshaper", name := "expand", desc := "(III)V" } : Jvm.MethodName) prog_1_method_37_code (8 : Nat) (Option.none : Option Jvm.ClassFile.FieldType), Jvm.Cond.code ({ cls := "GrammarReshaper", name := "findSplit", desc := "(IIII)I" } : Jvm.MethodName) prog_1_method_38_code (8 : Nat) (Option.some Jvm.ClassFile.FieldType.int)]
set_option maxRecDepth 65536 in
theorem codes_eq : words1.filter isCode = codes1 := rfl
theorem w_codes : ∀ c ∈ words1.filter isCode, c.before args0 about1 = true := by
  rw [codes_eq]
  intro c hc
  simp only [codes1, List.mem_cons, List.not_mem_nil, or_false] at hc
  rcases hc with rfl | rfl | rfl | rfl | rfl | rfl | rfl | rfl | rfl | rfl | rfl | rfl | rfl | rfl | rfl | rfl | rfl | rfl | rfl | rfl | rfl | rfl | rfl | rfl | rfl | rfl | rfl | rfl | rfl | rfl | rfl | rfl
  · exact w_c0
  · exact w_c1
  · exact w_c2
  · exact w_c3
  · exact w_c4
  · exact w_c5
  · exact w_c6
  · exact w_c7
  · exact w_c8
  · exact w_c9
  · exact w_c10
  · exact w_c11
  · exact w_c12
  · exact w_c13
  · exact w_c14
  · exact w_c15
  · exact w_c16
  · exact w_c17
  · exact w_c18
  · exact w_c19
  · exact w_c20
  · exact w_c21
  · exact w_c22
  · exact w_c23
  · exact w_c24
  · exact w_c25
  · exact w_c26
  · exact w_c27
  · exact w_c28
  · exact w_c29
  · exact w_c30
  · exact w_c31
set_option maxRecDepth 65536 in
theorem w_t1 : (words1.take 24).all (fun c => isCode c || c.before args0 about1) = true := by decide +kernel
set_option maxRecDepth 65536 in
theorem w_t2 : ((words1.drop 24).take 24).all (fun c => isCode c || c.before args0 about1) = true := by decide +kernel
set_option maxRecDepth 65536 in
theorem w_t3 : (((words1.drop 24).drop 24).take 24).all (fun c => isCode c || c.before args0 about1) = true := by decide +kernel
set_option maxRecDepth 65536 in
theorem w_t4 : ((((words1.drop 24).drop 24).drop 24).take 24).all (fun c => isCode c || c.before args0 about1) = true := by decide +kernel
set_option maxRecDepth 65536 in
theorem w_t5 : (((((words1.drop 24).drop 24).drop 24).drop 24).take 24).all (fun c => isCode c || c.before args0 about1) = true := by decide +kernel
set_option maxRecDepth 65536 in
theorem w_t6 : ((((((words1.drop 24).drop 24).drop 24).drop 24).drop 24).take 24).all (fun c => isCode c || c.before args0 about1) = true := by decide +kernel
set_option maxRecDepth 65536 in
theorem w_t7 : (((((((words1.drop 24).drop 24).drop 24).drop 24).drop 24).drop 24).take 24).all (fun c => isCode c || c.before args0 about1) = true := by decide +kernel
set_option maxRecDepth 65536 in
theorem w_t8 : (((((((words1.drop 24).drop 24).drop 24).drop 24).drop 24).drop 24).drop 24).all (fun c => isCode c || c.before args0 about1) = true := by decide +kernel
theorem w_tables : (allAtoms (Jvm.Cond.code x code maxLocals ret :: tables_1)).before args0 about1 = true := by
  rw [allAtoms_all]
  show words1.all (fun c => c.before args0 about1) = true
  refine all_split ?_ w_codes
  rw [← List.take_append_drop 24 words1, List.all_append, w_t1, ← List.take_append_drop 24 (words1.drop 24), List.all_append, w_t2, ← List.take_append_drop 24 ((words1.drop 24).drop 24), List.all_append, w_t3, ← List.take_append_drop 24 (((words1.drop 24).drop 24).drop 24), List.all_append, w_t4, ← List.take_append_drop 24 ((((words1.drop 24).drop 24).drop 24).drop 24), List.all_append, w_t5, ← List.take_append_drop 24 (((((words1.drop 24).drop 24).drop 24).drop 24).drop 24), List.all_append, w_t6, ← List.take_append_drop 24 ((((((words1.drop 24).drop 24).drop 24).drop 24).drop 24).drop 24), List.all_append, w_t7, w_t8]
  rfl
set_option maxRecDepth 65536 in
theorem w_case : (Jvm.Cond.and given_1 narrow_1).before args0 about1 = true := by decide +kernel
theorem w_applies : (headSpec (Jvm.Cond.code x code maxLocals ret :: tables_1) room_1).applies x e0.platform about1 = true :=
  (Spec.applies_iff w_frames).mpr ⟨w_running, w_runnable, w_alone, w_named, w_hears, w_ripe, w_room, w_tables⟩
theorem atStart : AtStart classFile x code maxLocals ret World_1 tables_1 room_1 Calls_1 rest_1 Pre_1 launch0 p0 e0 about1 theMethod args0 below0 :=
  ⟨lists_1, trivial, launch0.admits_env _ _ _, launch0.least_env, fairChoices_fair.cas, fairChoices_fair.clock, w_frames, w_args, w_heap, w_applies, trivial, trivial, w_case⟩
end start1
theorem witness_1 : WitnessClaimed_1 := ⟨start1.p0, start1.e0, start1.about1, start1.theMethod, start1.args0, start1.below0, start1.atStart⟩
end Jvm.Pilot.@@N@@
