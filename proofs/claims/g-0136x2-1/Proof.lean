import JvmDerived
import JvmDerived.Pilot.@@N@@Statement
import JvmDerived.Pilot.@@N@@Code
set_option linter.unusedVariables false
set_option linter.unusedSimpArgs false
namespace Jvm.RoadKit
open Sem ClassFile Op Lib Jvm.Stand Jvm.Free Jvm.LawKit
section New
variable {p : Program} {l : Launch} {e : Env} {R : Room} {s : State} {m : MethodId} {args : Array Value} {below : List Frame} {meth : Method} {c : Code} {T : State} {locs : List Loc} {cells slots : Nat}
theorem retI (X : Stand p l e R s m args below meth c T locs cells slots) (hx : p.tables.exec = Jvm.exec) {pc : Nat} {Ls : Array Slot} {z : Int32} {rest : List Value} (hret : meth.sig.returnType = some .int) (hd : decode c.code pc = .ok (.ireturn, 1)) {fs : List Frame}
    (hl : ∀ (f : JFrame) (acts : List Action), f.method = m → f.locked = none → f.entered = [] → (doReturn e (T.setTop f) acts (some (.int z))).1 = T.setFrames fs) : Steps p.tables e below (T.setTop (mkF m pc Ls (.int z :: rest))) (T.setFrames fs) := by
  have hm' : T.vm.method? m = some meth := X.method'
  have hn : narrow .int (.int z) = .int z := rfl
  show Steps p.tables e below (T.setTop { method := m, pc := pc, locals := Ls, stack := _ :: rest, locked := none }) _
  jvm_step X.here [X.here.top, hx, hd, hm', hret, hn]
  first | (intro acts; rw [hl _ acts rfl rfl rfl]) | rw [hl _ _ rfl rfl rfl]
  exact Steps.refl _
end New
end Jvm.RoadKit
namespace Jvm.Pilot.@@N@@
open Jvm Jvm.ClassFile Sem Op Lib Jvm.Free Jvm.Stand Jvm.LawKit Jvm.RoadKit Bundle Jvm.Pilot.@@N@@.Jvm.D
/- records: scalars, int-like arrays, long arrays -/
abbrev Rec : Type := (Nat → Int32) × (Nat → Int32 → Int32) × (Nat → Int32 → Int64)
def zrec : Rec := (fun _ => 0, fun _ _ => 0, fun _ _ => 0)
def gI (ob : Rec) (k : Nat) : Int32 := ob.1 k
def gA (ob : Rec) (k : Nat) (i : Int32) : Int32 := ob.2.1 k i
def gJ (ob : Rec) (k : Nat) (i : Int32) : Int64 := ob.2.2 k i
def sI (ob : Rec) (k : Nat) (v : Int32) : Rec := (fun j => if j = k then v else ob.1 j, ob.2)
def sA (ob : Rec) (k : Nat) (i v : Int32) : Rec := (ob.1, fun j x => if j = k ∧ x = i then v else ob.2.1 j x, ob.2.2)
def sJ (ob : Rec) (k : Nat) (i : Int32) (v : Int64) : Rec := (ob.1, ob.2.1, fun j x => if j = k ∧ x = i then v else ob.2.2 j x)
def chk {γ : Type} (n i : Int32) (A : Option γ) : Option γ := if i < 0 then none else if i < n then A else none
def dvz {γ : Type} (y : Int32) (A : Option γ) : Option γ := if y = 0 then none else A
def bind2 {α β γ : Type} (o : Option (α × β)) (f : α → β → Option γ) : Option γ := o.bind fun q => f q.1 q.2
def bind3 {α β γ δ : Type} (o : Option (α × β × δ)) (f : α → β → δ → Option γ) : Option γ := o.bind fun q => f q.1 q.2.1 q.2.2
theorem ite_el {c : Prop} [Decidable c] {γ : Type} {A B : Option γ} {r : γ} {Q : Prop} (h : (if c then A else B) = some r) (t : c → A = some r → Q) (e : ¬ c → B = some r → Q) : Q := by
  by_cases hc : c
  · rw [if_pos hc] at h; exact t hc h
  · rw [if_neg hc] at h; exact e hc h
theorem bind_el {α γ : Type} {o : Option α} {f : α → Option γ} {r : γ} {Q : Prop} (h : o.bind f = some r) (k : ∀ x, o = some x → f x = some r → Q) : Q := by
  cases o with
  | none => cases h
  | some x => exact k x rfl h
theorem bind2_el {α β γ : Type} {o : Option (α × β)} {f : α → β → Option γ} {r : γ} {Q : Prop} (h : bind2 o f = some r) (k : ∀ x y, o = some (x, y) → f x y = some r → Q) : Q := by
  rcases o with _ | ⟨x, y⟩
  · cases h
  · exact k x y rfl h
theorem bind3_el {α β γ δ : Type} {o : Option (α × β × δ)} {f : α → β → δ → Option γ} {r : γ} {Q : Prop} (h : bind3 o f = some r) (k : ∀ x y z, o = some (x, y, z) → f x y z = some r → Q) : Q := by
  rcases o with _ | ⟨x, y, z⟩
  · cases h
  · exact k x y z rfl h
theorem chk_el {γ : Type} {n i : Int32} {A : Option γ} {r : γ} {Q : Prop} (h : chk n i A = some r) (k : (¬ i < 0 ∧ i < n) → A = some r → Q) : Q := by
  unfold chk at h
  by_cases h0 : i < 0
  · rw [if_pos h0] at h; cases h
  · rw [if_neg h0] at h
    by_cases h1 : i < n
    · rw [if_pos h1] at h; exact k ⟨h0, h1⟩ h
    · rw [if_neg h1] at h; cases h
theorem dvz_el {γ : Type} {y : Int32} {A : Option γ} {r : γ} {Q : Prop} (h : dvz y A = some r) (k : y ≠ 0 → A = some r → Q) : Q := by
  unfold dvz at h
  by_cases h0 : y = 0
  · rw [if_pos h0] at h; cases h
  · rw [if_neg h0] at h; exact k h0 h
def All {α : Type} (p : α → Prop) : List α → Prop
  | [] => True
  | x :: l => p x ∧ All p l
theorem All.mem {α : Type} {p : α → Prop} : ∀ {l : List α}, All p l → ∀ {x : α}, x ∈ l → p x
  | [], _, _, h => nomatch h
  | _ :: _, H, _, h => (List.mem_cons.mp h).elim (fun e => e ▸ H.1) (fun e => All.mem H.2 e)
def el (ty : FieldType) (ob : Rec) (k : Nat) (j : Int32) : Value := match ty with
  | .long => .long (ob.2.2 k j)
  | _ => .int (ob.2.1 k j)
def aD (ty : FieldType) : String := match ty with
  | .int => "[I"
  | .boolean => "[Z"
  | _ => "[J"
abbrev Cls : Type := String × List (String × String) × List (String × FieldType × Int32)
abbrev mem1 (k : Nat) {d : Jvm.Cond} (h : tables_1[k]? = some d) : d ∈ tables_1 := List.mem_of_getElem? h
abbrev sOk (C : String) (nd : String × String) : Prop := (Jvm.Cond.lays C C nd.1 nd.2 ∈ tables_1 ∨ Jvm.Cond.laysFinal C C nd.1 nd.2 ∈ tables_1) ∧ (nd.2 = "I" ∨ nd.2 = "Z")
abbrev aOk (C : String) (t : String × FieldType × Int32) : Prop := (Jvm.Cond.lays C C t.1 (aD t.2.1) ∈ tables_1 ∨ Jvm.Cond.laysFinal C C t.1 (aD t.2.1) ∈ tables_1) ∧ (t.2.1 = .int ∨ t.2.1 = .boolean ∨ t.2.1 = .long) ∧ ¬ t.2.2 < 0
def K : Cls := ("LogicalReplicator", [("nKeys", "I"), ("nSlots", "I"), ("logCap", "I"), ("memCap", "I"), ("length", "I"), ("emittedPos", "I"), ("appliedPos", "I"), ("confirmedPos", "I"), ("qHead", "I"), ("qCount", "I")], [("recKind", .int, 129), ("recSlot", .int, 129), ("recKey", .int, 129), ("recVal", .int, 129), ("recBegin", .int, 129), ("slotOpen", .boolean, 8), ("slotBegin", .int, 8), ("pubHas", .boolean, 32), ("pubVal", .int, 32), ("subHas", .boolean, 32), ("subVal", .int, 32), ("pendKind", .int, 32), ("pendVal", .int, 32), ("qKind", .int, 128), ("qKey", .int, 128), ("qVal", .int, 128), ("qPos", .int, 128)])
theorem kS : All (sOk K.1) K.2.1 := ⟨⟨Or.inl (mem1 50 rfl), Or.inl rfl⟩, ⟨Or.inl (mem1 52 rfl), Or.inl rfl⟩, ⟨Or.inl (mem1 54 rfl), Or.inl rfl⟩, ⟨Or.inl (mem1 56 rfl), Or.inl rfl⟩, ⟨Or.inl (mem1 58 rfl), Or.inl rfl⟩, ⟨Or.inl (mem1 60 rfl), Or.inl rfl⟩, ⟨Or.inl (mem1 62 rfl), Or.inl rfl⟩, ⟨Or.inl (mem1 64 rfl), Or.inl rfl⟩, ⟨Or.inl (mem1 66 rfl), Or.inl rfl⟩, ⟨Or.inl (mem1 68 rfl), Or.inl rfl⟩, trivial⟩
theorem kA : All (aOk K.1) K.2.2 := ⟨⟨Or.inl (mem1 11 rfl), Or.inl rfl, by decide⟩, ⟨Or.inl (mem1 13 rfl), Or.inl rfl, by decide⟩, ⟨Or.inl (mem1 15 rfl), Or.inl rfl, by decide⟩, ⟨Or.inl (mem1 17 rfl), Or.inl rfl, by decide⟩, ⟨Or.inl (mem1 19 rfl), Or.inl rfl, by decide⟩, ⟨Or.inl (mem1 22 rfl), Or.inr (Or.inl rfl), by decide⟩, ⟨Or.inl (mem1 24 rfl), Or.inl rfl, by decide⟩, ⟨Or.inl (mem1 26 rfl), Or.inr (Or.inl rfl), by decide⟩, ⟨Or.inl (mem1 28 rfl), Or.inl rfl, by decide⟩, ⟨Or.inl (mem1 30 rfl), Or.inr (Or.inl rfl), by decide⟩, ⟨Or.inl (mem1 32 rfl), Or.inl rfl, by decide⟩, ⟨Or.inl (mem1 34 rfl), Or.inl rfl, by decide⟩, ⟨Or.inl (mem1 36 rfl), Or.inl rfl, by decide⟩, ⟨Or.inl (mem1 38 rfl), Or.inl rfl, by decide⟩, ⟨Or.inl (mem1 40 rfl), Or.inl rfl, by decide⟩, ⟨Or.inl (mem1 42 rfl), Or.inl rfl, by decide⟩, ⟨Or.inl (mem1 44 rfl), Or.inl rfl, by decide⟩, trivial⟩
abbrev kN : Nat := 27
theorem kI : Jvm.Cond.instantiable K.1 kN ∈ tables_1 := mem1 1 rfl
theorem kZ : Jvm.Cond.initialized K.1 ∈ tables_1 := mem1 2 rfl
theorem kNm : (K.2.1.map (·.1) ++ K.2.2.map (·.1)).Nodup := by decide +kernel
theorem nm_ss {k k' : Nat} {nd nd' : String × String} (h : K.2.1[k]? = some nd) (h' : K.2.1[k']? = some nd') (ne : k ≠ k') : nd.1 ≠ nd'.1 := fun e => by
  have l := (List.getElem?_eq_some_iff.mp h).1
  have l' := (List.getElem?_eq_some_iff.mp h').1
  refine ne ((List.getElem?_inj (l := K.2.1.map (·.1) ++ K.2.2.map (·.1)) (i := k) (j := k') (by simp; omega) kNm).mp ?_)
  rw [List.getElem?_append_left (by simpa using l), List.getElem?_append_left (by simpa using l'), List.getElem?_map, List.getElem?_map, h, h']
  simp [e]
theorem nm_aa {k k' : Nat} {t t' : String × FieldType × Int32} (h : K.2.2[k]? = some t) (h' : K.2.2[k']? = some t') (ne : k ≠ k') : t.1 ≠ t'.1 := fun e => by
  have l := (List.getElem?_eq_some_iff.mp h).1
  have l' := (List.getElem?_eq_some_iff.mp h').1
  have q := (List.getElem?_inj (l := K.2.1.map (·.1) ++ K.2.2.map (·.1)) (i := K.2.1.length + k) (j := K.2.1.length + k') (by simp; omega) kNm).mp (by
    rw [List.getElem?_append_right (by simp), List.getElem?_append_right (by simp)]
    simp [h, h', e])
  omega
theorem nm_sa {k k' : Nat} {nd : String × String} {t : String × FieldType × Int32} (h : K.2.1[k]? = some nd) (h' : K.2.2[k']? = some t) : nd.1 ≠ t.1 := fun e => by
  have l := (List.getElem?_eq_some_iff.mp h).1
  have l' := (List.getElem?_eq_some_iff.mp h').1
  have q := (List.getElem?_inj (l := K.2.1.map (·.1) ++ K.2.2.map (·.1)) (i := k) (j := K.2.1.length + k') (by simp; omega) kNm).mp (by
    rw [List.getElem?_append_left (by simpa using l), List.getElem?_append_right (by simp)]
    simp [h, h', e])
  omega
abbrev Ctx : Type := Launch × State × Nat × Array Value
def Ok (C : Ctx) : Prop := ∀ d ∈ tables_1, d.before C.2.2.2 C.2.1 = true
def ArrAt (Z : State) (h : Heap) (b : Nat) (ty : FieldType) (len : Int32) (v : Int32 → Value) : Prop := ∃ cl : Cell, Arr Z h b cl ty ∧ cl.slots.size = len.toNatClampNeg ∧ ∀ j : Int32, ¬ j < 0 → j < len → cl.slots[j.toNatClampNeg]? = some (v j)
def ObjAt (Z : State) (h : Heap) (a : Nat) (q : Nat) (ob : Rec) : Prop :=
  Exa Z h a K.1 ∧ (∀ k nd, K.2.1[k]? = some nd → Fld Z h a K.1 nd.1 nd.2 (.int (ob.1 k))) ∧
  (∀ k t, K.2.2[k]? = some t → k < q → Fld Z h a K.1 t.1 (aD t.2.1) (.ref (a + 1 + k)) ∧ ArrAt Z h (a + 1 + k) t.2.1 t.2.2 (el t.2.1 ob k)) ∧
  (∀ k t, K.2.2[k]? = some t → q ≤ k → Fld Z h a K.1 t.1 (aD t.2.1) .null)
abbrev AH : Type := Nat × List (Nat × Nat × Rec)
def Rep (Z : State) (n0 : Nat) (h : Heap) (G : AH) : Prop :=
  h.size = G.1 ∧ Old Z n0 h ∧ (∀ x ∈ G.2, n0 ≤ x.1 ∧ x.1 + x.2.1 < G.1 ∧ ObjAt Z h x.1 x.2.1 x.2.2) ∧ G.2.Pairwise (fun x y => x.1 + x.2.1 < y.1 ∨ y.1 + y.2.1 < x.1)
section Facts
variable {Z : State} {h h' : Heap} {a b : Nat} {q k n0 top : Nat} {ob ob' : Rec} {nd : String × String} {t : String × FieldType × Int32} {a0 : Array Value} {sl : Nat} {v : Value} {H : List (Nat × Nat × Rec)} {G : AH}
theorem fld_fr {C n d : String} (e : h'[a]? = h[a]?) (F : Fld Z h a C n d v) : Fld Z h' a C n d v := by
  obtain ⟨cell, cf, k, i, f, h1, r⟩ := F; exact ⟨cell, cf, k, i, f, e.trans h1, r⟩
theorem exa_fr {C : String} (e : h'[a]? = h[a]?) (F : Exa Z h a C) : Exa Z h' a C := by
  obtain ⟨cell, k, h1, r⟩ := F; exact ⟨cell, k, e.trans h1, r⟩
theorem arrAt_fr {ty : FieldType} {len : Int32} {w : Int32 → Value} (e : h'[a]? = h[a]?) (F : ArrAt Z h a ty len w) : ArrAt Z h' a ty len w := by
  obtain ⟨cl, A, r⟩ := F; exact ⟨cl, ⟨e.trans A.1, A.2⟩, r⟩
theorem ObjAt.frame (e : ∀ b, a ≤ b → b ≤ a + q → h'[b]? = h[b]?) (F : ObjAt Z h a q ob) : ObjAt Z h' a q ob := by
  have e0 := e a (Nat.le_refl _) (Nat.le_add_right _ _)
  refine ⟨exa_fr e0 F.1, fun k nd hk => fld_fr e0 (F.2.1 k nd hk), fun k t hk hq => ⟨fld_fr e0 (F.2.2.1 k t hk hq).1, arrAt_fr (e _ (by omega) (by omega)) (F.2.2.1 k t hk hq).2⟩, fun k t hk hq => fld_fr e0 (F.2.2.2 k t hk hq)⟩
theorem ObjAt.ext (E : Ext h h') (F : ObjAt Z h a q ob) : ObjAt Z h' a q ob := by
  refine ⟨F.1.ext E, fun k nd hk => (F.2.1 k nd hk).ext E, fun k t hk hq => ⟨(F.2.2.1 k t hk hq).1.ext E, ?_⟩, fun k t hk hq => (F.2.2.2 k t hk hq).ext E⟩
  obtain ⟨cl, A, r⟩ := (F.2.2.1 k t hk hq).2; exact ⟨cl, A.ext E, r⟩
theorem wr_ne (W : Wr h h' a sl v) (ne : b ≠ a) : h'[b]? = h[b]? := by
  obtain ⟨cell, -, -, -, rfl⟩ := W; exact Array.getElem?_setIfInBounds_ne (Ne.symm ne)
theorem laidS (hw : ∀ d ∈ tables_1, d.before a0 Z = true) (hk : K.2.1[k]? = some nd) : Laid Z a0 K.1 K.1 nd.1 nd.2 := ((All.mem kS (List.mem_of_getElem? hk)).1).imp (hw _) (hw _)
theorem laidA (hw : ∀ d ∈ tables_1, d.before a0 Z = true) (hk : K.2.2[k]? = some t) : Laid Z a0 K.1 K.1 t.1 (aD t.2.1) := ((All.mem kA (List.mem_of_getElem? hk)).1).imp (hw _) (hw _)
theorem pfS (hk : K.2.1[k]? = some nd) : ∃ ty, parseFieldDescriptor nd.2 = some ty := by
  rcases (All.mem kS (List.mem_of_getElem? hk)).2 with e | e <;> rw [e]
  · exact ⟨.int, by decide⟩
  · exact ⟨.boolean, by decide⟩
theorem pfA (hk : K.2.2[k]? = some t) : parseFieldDescriptor (aD t.2.1) = some (.array t.2.1) := by
  rcases (All.mem kA (List.mem_of_getElem? hk)).2.1 with e | e | e <;> rw [e] <;> decide
theorem ObjAt.putI {x : Int32} (hw : ∀ d ∈ tables_1, d.before a0 Z = true) (F : ObjAt Z h a q ob) (hk : K.2.1[k]? = some nd) (W : Wr h h' a (Jvm.RoadKit.slotOf Z K.1 nd.1 nd.2) (.int x)) : ObjAt Z h' a q (sI ob k x) := by
  obtain ⟨ty, hty⟩ := pfS hk
  refine ⟨F.1.wr W, fun k' nd' hk' => ?_, fun k' t hk' hq => ⟨(F.2.2.1 k' t hk' hq).1.other W (Or.inr (Jvm.RoadKit.slot_ne (laidA hw hk') (laidS hw hk) (Ne.symm (nm_sa hk hk')) (pfA hk') hty)), ?_⟩, fun k' t hk' hq => (F.2.2.2 k' t hk' hq).other W (Or.inr (Jvm.RoadKit.slot_ne (laidA hw hk') (laidS hw hk) (Ne.symm (nm_sa hk hk')) (pfA hk') hty))⟩
  · by_cases e : k' = k
    · subst e; cases hk.symm.trans hk'
      have := (F.2.1 k' nd hk).same W
      simpa [sI] using this
    · obtain ⟨ty', hty'⟩ := pfS hk'
      have := (F.2.1 k' nd' hk').other W (Or.inr (Jvm.RoadKit.slot_ne (laidS hw hk') (laidS hw hk) (nm_ss hk' hk e) hty' hty))
      simpa [sI, e] using this
  · have := arrAt_fr (wr_ne W (by omega)) (F.2.2.1 k' t hk' hq).2
    have e : el t.2.1 (sI ob k x) k' = el t.2.1 ob k' := by funext j; unfold el; split <;> rfl
    rw [e]; exact this
theorem ObjAt.putA (F : ObjAt Z h a q ob) (hk : K.2.2[k]? = some t) (hq : k < q) {x : Value} {j : Int32} (hj : ¬ j < 0 ∧ j < t.2.2) (W : Wr h h' (a + 1 + k) j.toNatClampNeg x)
    (e1 : el t.2.1 ob' k = fun i => if i = j then x else el t.2.1 ob k i) (e2 : ∀ k' t', k' ≠ k → el t' ob' k' = el t' ob k') (e3 : ob'.1 = ob.1) : ObjAt Z h' a q ob' := by
  have u : h'[a]? = h[a]? := wr_ne W (by omega)
  refine ⟨exa_fr u F.1, fun k' nd hk' => by rw [e3]; exact fld_fr u (F.2.1 k' nd hk'), fun k' t' hk' hq' => ⟨fld_fr u (F.2.2.1 k' t' hk' hq').1, ?_⟩, fun k' t' hk' hq' => fld_fr u (F.2.2.2 k' t' hk' hq')⟩
  by_cases e : k' = k
  · subst e; cases hk.symm.trans hk'
    obtain ⟨cl, A, S, V⟩ := (F.2.2.1 k' t hk hq).2
    have inb : ¬ (j < 0 ∨ cl.slots.size ≤ j.toNatClampNeg) := inb_of S hj
    refine ⟨_, A.same W, by rw [sz_set]; exact S, fun i h0 h1 => ?_⟩
    rw [e1]
    by_cases ei : i = j
    · simp only [ei, if_true]; exact get_hit inb rfl
    · simp only [ei, if_false]; rw [get_miss hj.1 h0 ei]; exact V i h0 h1
  · rw [e2 k' _ e]; exact arrAt_fr (wr_ne W (by omega)) (F.2.2.1 k' t' hk' hq').2
theorem el_sA {ty : FieldType} (ht : ty ≠ .long) (j x : Int32) : el ty (sA ob k j x) k = fun i => if i = j then .int x else el ty ob k i := by
  funext i; cases ty <;> first | exact absurd rfl ht | (simp only [el, sA, true_and]; split <;> rfl)
theorem el_sJ (j : Int32) (x : Int64) : el .long (sJ ob k j x) k = fun i => if i = j then .long x else el .long ob k i := by
  funext i; simp only [el, sJ, true_and]; split <;> rfl
theorem el_sA' (j x : Int32) (k' : Nat) (t' : FieldType) (ne : k' ≠ k) : el t' (sA ob k j x) k' = el t' ob k' := by
  funext i; cases t' <;> simp [el, sA, ne]
theorem el_sJ' (j : Int32) (x : Int64) (k' : Nat) (t' : FieldType) (ne : k' ≠ k) : el t' (sJ ob k j x) k' = el t' ob k' := by
  funext i; cases t' <;> simp [el, sJ, ne]
theorem Rep.upd (R : Rep Z n0 h (top, (a, q, ob) :: H)) (hs : h'.size = h.size) (hO : Old Z n0 h') (e : ∀ b, (b < a ∨ a + q < b) → h'[b]? = h[b]?) (F : ObjAt Z h' a q ob') : Rep Z n0 h' (top, (a, q, ob') :: H) := by
  obtain ⟨r1, r2, r3, r4⟩ := R
  refine ⟨hs.trans r1, hO, fun x hx => ?_, ?_⟩
  · rcases List.mem_cons.mp hx with rfl | hx
    · exact ⟨(r3 _ (List.mem_cons_self ..)).1, (r3 _ (List.mem_cons_self ..)).2.1, F⟩
    · obtain ⟨p1, p2, p3⟩ := r3 x (List.mem_cons_of_mem _ hx)
      refine ⟨p1, p2, p3.frame fun b h1 h2 => e b ?_⟩
      have := (List.pairwise_cons.mp r4).1 x hx
      simp only at this
      omega
  · have := List.pairwise_cons.mp r4
    exact List.pairwise_cons.mpr ⟨fun y hy => this.1 y hy, this.2⟩
theorem Rep.objs (R : Rep Z n0 h (top, (a, q, ob) :: H)) : n0 ≤ a ∧ a + q < top ∧ ObjAt Z h a q ob := R.2.2.1 _ (List.mem_cons_self ..)
theorem Rep.putI {x : Int32} (hw : ∀ d ∈ tables_1, d.before a0 Z = true) (R : Rep Z n0 h (top, (a, q, ob) :: H)) (hk : K.2.1[k]? = some nd) (W : Wr h h' a (Jvm.RoadKit.slotOf Z K.1 nd.1 nd.2) (.int x)) : Rep Z n0 h' (top, (a, q, sI ob k x) :: H) :=
  R.upd W.size (R.2.1.wr W R.objs.1) (fun b hb => wr_ne W (by omega)) (R.objs.2.2.putI hw hk W)
theorem Rep.putA {x j : Int32} (R : Rep Z n0 h (top, (a, q, ob) :: H)) (hk : K.2.2[k]? = some t) (hq : k < q) (ht : t.2.1 ≠ .long) (hj : ¬ j < 0 ∧ j < t.2.2) (W : Wr h h' (a + 1 + k) j.toNatClampNeg (.int x)) : Rep Z n0 h' (top, (a, q, sA ob k j x) :: H) :=
  R.upd W.size (R.2.1.wr W (by have := R.objs.1; omega)) (fun b hb => wr_ne W (by omega)) (R.objs.2.2.putA hk hq hj W (el_sA ht j x) (fun k' t' ne => el_sA' j x k' t' ne) rfl)
theorem Rep.putJ {j : Int32} {x : Int64} (R : Rep Z n0 h (top, (a, q, ob) :: H)) (hk : K.2.2[k]? = some t) (hq : k < q) (ht : t.2.1 = .long) (hj : ¬ j < 0 ∧ j < t.2.2) (W : Wr h h' (a + 1 + k) j.toNatClampNeg (.long x)) : Rep Z n0 h' (top, (a, q, sJ ob k j x) :: H) :=
  R.upd W.size (R.2.1.wr W (by have := R.objs.1; omega)) (fun b hb => wr_ne W (by omega)) (R.objs.2.2.putA hk hq hj W (by rw [ht]; exact el_sJ j x) (fun k' t' ne => el_sJ' j x k' t' ne) rfl)
theorem Rep.swap {x y : Nat × Nat × Rec} (R : Rep Z n0 h (top, x :: y :: H)) : Rep Z n0 h (top, y :: x :: H) := by
  obtain ⟨r1, r2, r3, r4⟩ := R
  refine ⟨r1, r2, fun z hz => r3 z ?_, ?_⟩
  · simp only [List.mem_cons] at hz ⊢
    rcases hz with e | e | e
    · exact Or.inr (Or.inl e)
    · exact Or.inl e
    · exact Or.inr (Or.inr e)
  · simp only [List.pairwise_cons, List.mem_cons] at r4 ⊢
    obtain ⟨p1, p2, p3⟩ := r4
    refine ⟨fun z hz => ?_, fun z hz => p1 z (Or.inr hz), p3⟩
    rcases hz with rfl | hz
    · exact (p1 _ (Or.inl rfl)).symm
    · exact p2 z hz
theorem ObjAt.addA (hw : ∀ d ∈ tables_1, d.before a0 Z = true) (F : ObjAt Z h a k ob) (hk : K.2.2[k]? = some t) (A : ArrAt Z h (a + 1 + k) t.2.1 t.2.2 (el t.2.1 ob k)) (W : Wr h h' a (Jvm.RoadKit.slotOf Z K.1 t.1 (aD t.2.1)) (.ref (a + 1 + k))) : ObjAt Z h' a (k + 1) ob := by
  refine ⟨F.1.wr W, fun k' nd hk' => ?_, fun k' t' hk' hq => ?_, fun k' t' hk' hq => ?_⟩
  · obtain ⟨ty', hty'⟩ := pfS hk'
    exact (F.2.1 k' nd hk').other W (Or.inr (Jvm.RoadKit.slot_ne (laidS hw hk') (laidA hw hk) (nm_sa hk' hk) hty' (pfA hk)))
  · by_cases e : k' = k
    · subst e
      have et : t = t' := Option.some.inj (hk.symm.trans hk')
      subst et
      exact ⟨(F.2.2.2 k' t hk (Nat.le_refl _)).same W, arrAt_fr (wr_ne W (by omega)) A⟩
    · obtain ⟨f1, f2⟩ := F.2.2.1 k' t' hk' (by omega)
      exact ⟨f1.other W (Or.inr (Jvm.RoadKit.slot_ne (laidA hw hk') (laidA hw hk) (nm_aa hk' hk e) (pfA hk') (pfA hk))), arrAt_fr (wr_ne W (by omega)) f2⟩
  · exact (F.2.2.2 k' t' hk' (by omega)).other W (Or.inr (Jvm.RoadKit.slot_ne (laidA hw hk') (laidA hw hk) (nm_aa hk' hk (by omega)) (pfA hk') (pfA hk)))
theorem Rep.addA {h1 h2 : Heap} (hw : ∀ d ∈ tables_1, d.before a0 Z = true) (R : Rep Z n0 h (top, (a, k, ob) :: H)) (E : Ext h h1) (s1 : h1.size = top + 1) (htop : top = a + 1 + k) (hk : K.2.2[k]? = some t) (A : ArrAt Z h1 top t.2.1 t.2.2 (el t.2.1 ob k)) (W : Wr h1 h2 a (Jvm.RoadKit.slotOf Z K.1 t.1 (aD t.2.1)) (.ref top)) : Rep Z n0 h2 (top + 1, (a, k + 1, ob) :: H) := by
  obtain ⟨q1, q2, q3⟩ := R.objs
  have hp := List.pairwise_cons.mp R.2.2.2
  have hO : ObjAt Z h2 a (k + 1) ob := by
    subst htop
    exact (q3.ext E).addA hw hk A W
  refine ⟨W.size.trans s1, (R.2.1.ext E).wr W q1, List.forall_mem_cons.mpr ⟨⟨q1, ?_, hO⟩, fun x hx => ?_⟩, List.pairwise_cons.mpr ⟨fun y hy => ?_, hp.2⟩⟩
  · show a + (k + 1) < top + 1; omega
  · obtain ⟨p1, p2, p3⟩ := R.2.2.1 x (List.mem_cons_of_mem _ hx)
    have u1 : a + k < x.1 ∨ x.1 + x.2.1 < a := hp.1 x hx
    have u2 : x.1 + x.2.1 < top := p2
    exact ⟨p1, Nat.lt_succ_of_lt u2, (p3.ext E).frame fun b h1 h2 => wr_ne W (by omega)⟩
  · have u1 : a + k < y.1 ∨ y.1 + y.2.1 < a := hp.1 y hy
    have u2 : y.1 + y.2.1 < top := (R.2.2.1 y (List.mem_cons_of_mem _ hy)).2.1
    show a + (k + 1) < y.1 ∨ y.1 + y.2.1 < a
    omega
theorem arr_new {cA : ClassId} {ty : FieldType} {len : Int32} (A : Arr Z h b (newA cA ty len) ty) (hts : ty = .int ∨ ty = .boolean ∨ ty = .long) (hz : (∀ i, ob.2.1 k i = 0) ∧ (∀ i, ob.2.2 k i = 0)) : ArrAt Z h b ty len (el ty ob k) := by
  refine ⟨_, A, sz_new _ _ _, fun i h0 h1 => ?_⟩
  have hi : ¬ (i < 0 ∨ len.toNatClampNeg ≤ i.toNatClampNeg) := by
    have e0 : (0 : Int32).toInt = 0 := rfl
    simp only [Int32.lt_iff_toInt_lt, Int32.toNatClampNeg] at *
    omega
  rw [get_new hi]
  rcases hts with rfl | rfl | rfl
  · show some (Value.int 0) = some (Value.int (ob.2.1 k i)); rw [hz.1]
  · show some (Value.int 0) = some (Value.int (ob.2.1 k i)); rw [hz.1]
  · show some (Value.long 0) = some (Value.long (ob.2.2 k i)); rw [hz.2]
theorem Rep.start (s : State) : Rep s s.heap.size s.heap (s.heap.size, []) := ⟨rfl, Old.start s, fun x hx => (by cases hx), List.Pairwise.nil⟩
end Facts
/- bodies, decode facts, patterns of local variables -/
abbrev Bdy : Type := MethodName × ByteArray × Nat × Option FieldType × Room
def DAt (M : Bdy) (pc : Nat) (i : Instr) (n q : Nat) : Prop := decode M.2.1 pc = .ok (i, n) ∧ q = pc + n
abbrev Pat : Type := List (Option Slot)
abbrev vi (x : Int32) : Option Slot := some (.val (.int x))
abbrev vl (x : Int64) : Option Slot := some (.val (.long x))
abbrev vr (a : Nat) : Option Slot := some (.val (.ref a))
abbrev v2 : Option Slot := some .second
abbrev vn : Option Slot := none
def pget : Pat → Nat → Option Slot
  | [], _ => none
  | x :: _, 0 => x
  | _ :: l, n + 1 => pget l n
theorem pget_eq : ∀ (P : Pat) (i : Nat), pget P i = (P[i]?).join
  | [], _ => by simp [pget]
  | x :: l, 0 => by simp [pget]
  | x :: l, n + 1 => by simp [pget, pget_eq l n]
def pput : Pat → Nat → Option Slot → Pat
  | [], _, _ => []
  | _ :: l, 0, y => y :: l
  | x :: l, n + 1, y => x :: pput l n y
theorem pget_pput : ∀ (P : Pat) (i j : Nat) (y : Option Slot) (s : Slot), pget (pput P i y) j = some s → (j = i ∧ y = some s) ∨ (j ≠ i ∧ pget P j = some s)
  | [], _, _, _, _, h => by simp [pput, pget] at h
  | x :: l, 0, 0, y, s, h => Or.inl ⟨rfl, h⟩
  | x :: l, 0, j + 1, y, s, h => Or.inr ⟨by omega, h⟩
  | x :: l, i + 1, 0, y, s, h => Or.inr ⟨by omega, h⟩
  | x :: l, i + 1, j + 1, y, s, h => by
    rcases pget_pput l i j y s h with ⟨e, r⟩ | ⟨e, r⟩
    · exact Or.inl ⟨by omega, r⟩
    · exact Or.inr ⟨by omega, r⟩
/-- a two-word value whose first word is at i is forgotten -/
def pk1 (P : Pat) (i : Nat) : Pat := match pget P i with
  | some (.val (.long _)) => pput P i none
  | some (.val (.double _)) => pput P i none
  | _ => P
def pk2 (P : Pat) (i : Nat) : Pat := match pget P i with
  | some .second => pput P i none
  | _ => P
def pkp (P : Pat) : Nat → Pat
  | 0 => P
  | i + 1 => pk1 P i
def ps1 (P : Pat) (i : Nat) (v : Value) : Pat := pput (pk2 (pkp P i) (i + 1)) i (some (.val v))
def ps2 (P : Pat) (i : Nat) (v : Value) : Pat := pput (pput (pk2 (pkp P i) (i + 2)) i (some (.val v))) (i + 1) (some .second)
def WFl (L : Array Slot) : Prop := (∀ i : Nat, L[i]? = some .second → ∃ (j : Nat) (v : Value), i = j + 1 ∧ L[j]? = some (.val v) ∧ v.category = 2) ∧ (∀ (i : Nat) (v : Value), L[i]? = some (.val v) → v.category = 2 → L[i + 1]? = some .second)
def Fits (P : Pat) (L : Array Slot) : Prop := (∀ i s, pget P i = some s → L[i]? = some s) ∧ WFl L
theorem pk1_sub {P : Pat} {i j : Nat} {s : Slot} (h : pget (pk1 P i) j = some s) : pget P j = some s ∧ (j = i → ∀ w : Value, s = .val w → w.category = 1) := by
  unfold pk1 at h
  split at h
  · rcases pget_pput _ _ _ _ _ h with ⟨-, e⟩ | ⟨e, r⟩
    · cases e
    · exact ⟨r, fun q => absurd q e⟩
  · rcases pget_pput _ _ _ _ _ h with ⟨-, e⟩ | ⟨e, r⟩
    · cases e
    · exact ⟨r, fun q => absurd q e⟩
  · rename_i h1 h2
    refine ⟨h, fun q w e => ?_⟩
    subst q e
    cases w <;> first | rfl | exact absurd h (h1 _) | exact absurd h (h2 _)
theorem pk2_sub {P : Pat} {i j : Nat} {s : Slot} (h : pget (pk2 P i) j = some s) : pget P j = some s ∧ (j = i → s ≠ .second) := by
  unfold pk2 at h
  split at h
  · rcases pget_pput _ _ _ _ _ h with ⟨-, e⟩ | ⟨e, r⟩
    · cases e
    · exact ⟨r, fun q => absurd q e⟩
  · rename_i h1
    refine ⟨h, fun q e => ?_⟩
    subst q e; exact h1 h
theorem pkp_sub {P : Pat} {i j : Nat} {s : Slot} (h : pget (pkp P i) j = some s) : pget P j = some s ∧ (j + 1 = i → ∀ w : Value, s = .val w → w.category = 1) := by
  cases i with
  | zero => exact ⟨h, fun q => by omega⟩
  | succ i => obtain ⟨h1, h2⟩ := pk1_sub (show pget (pk1 P i) j = some s from h); exact ⟨h1, fun q => h2 (by omega)⟩
theorem setAt_eq {L : Array Slot} {i : Nat} {x : Slot} (hi : i < L.size) : Jvm.setAt L i x = some (L.setIfInBounds i x) := by simp [Jvm.setAt, hi]
theorem sl_second {L : Array Slot} {i : Nat} {v : Value} (ho : L[i]? = some .second) : storeLocals L i v = (Jvm.setAt L (i - 1) .unset).bind fun l => storeSelf l i v := by
  unfold storeLocals; rw [ho]; rfl
theorem sl_unset {L : Array Slot} {i : Nat} {v : Value} (ho : L[i]? = some .unset) : storeLocals L i v = storeSelf L i v := by
  unfold storeLocals; rw [ho]; rfl
theorem sl_val {L : Array Slot} {i : Nat} {v o : Value} (ho : L[i]? = some (.val o)) : storeLocals L i v = if o.category = 2 then (Jvm.setAt L (i + 1) .unset).bind fun l => storeSelf l i v else storeSelf L i v := by
  unfold storeLocals; rw [ho]; rfl
theorem ss_one {L : Array Slot} {i : Nat} {v : Value} (hi : i < L.size) (hv : ¬ v.category = 2) : storeSelf L i v = some (L.setIfInBounds i (.val v)) := by
  unfold storeSelf; rw [setAt_eq hi]; simp [hv]
theorem ss_two {L : Array Slot} {i : Nat} {v : Value} {o : Slot} (hi : i < L.size) (hv : v.category = 2) (ho : L[i + 1]? = some o) : storeSelf L i v = (match o with
    | .val old => if old.category = 2 then (Jvm.setAt (L.setIfInBounds i (.val v)) (i + 2) .unset).bind fun l => Jvm.setAt l (i + 1) .second else Jvm.setAt (L.setIfInBounds i (.val v)) (i + 1) .second
    | _ => Jvm.setAt (L.setIfInBounds i (.val v)) (i + 1) .second) := by
  have e : (L.setIfInBounds i (.val v))[i + 1]? = some o := by rw [Array.getElem?_setIfInBounds_ne (by omega)]; exact ho
  unfold storeSelf; rw [setAt_eq hi]
  show (if v.category = 2 then _ else _) = _
  rw [if_pos hv, e]
  cases o <;> rfl
theorem cat12 (v : Value) : v.category = 1 ∨ v.category = 2 := by cases v <;> first | exact Or.inl rfl | exact Or.inr rfl
/-- a one-word store: what stands elsewhere stays, but for the halves of a two-word value that it breaks -/
theorem store_one {L : Array Slot} {i : Nat} {v : Value} (hW : WFl L) (hi : i < L.size) (hv : v.category = 1) :
    ∃ L', storeLocals L i v = some L' ∧ L'.size = L.size ∧ WFl L' ∧ L'[i]? = some (.val v) ∧ ∀ j, j ≠ i → L'[j]? = L[j]? ∨ (j + 1 = i ∧ L[i]? = some .second) ∨ (j = i + 1 ∧ L[j]? = some .second) := by
  have hv2 : ¬ v.category = 2 := by omega
  cases ho : L[i]? with
  | none => rw [Array.getElem?_eq_none_iff] at ho; omega
  | some o =>
    cases o with
    | unset =>
      refine ⟨L.setIfInBounds i (.val v), ?_, by simp, ?_, by simp [hi], fun j hj => Or.inl (Array.getElem?_setIfInBounds_ne (Ne.symm hj))⟩
      · rw [sl_unset ho, ss_one hi hv2]
      · refine ⟨fun j hj => ?_, fun j w hj hw => ?_⟩
        · by_cases e : j = i
          · subst e; simp [hi] at hj
          · rw [Array.getElem?_setIfInBounds_ne (Ne.symm e)] at hj
            obtain ⟨j', w, e1, e2, e3⟩ := hW.1 j hj
            refine ⟨j', w, e1, ?_, e3⟩
            rw [Array.getElem?_setIfInBounds_ne]; exact e2
            intro q; subst q; rw [ho] at e2; cases e2
        · by_cases e : j = i
          · subst e; simp [hi] at hj; subst hj; omega
          · rw [Array.getElem?_setIfInBounds_ne (Ne.symm e)] at hj
            have := hW.2 j w hj hw
            rw [Array.getElem?_setIfInBounds_ne]; exact this
            intro q; subst q; rw [ho] at this; cases this
    | second =>
      obtain ⟨j0, w0, rfl, f2, f3⟩ := hW.1 i ho
      have hj0 : j0 < L.size := by omega
      refine ⟨(L.setIfInBounds j0 .unset).setIfInBounds (j0 + 1) (.val v), ?_, by simp, ?_, by simp [hi], fun j hj => ?_⟩
      · rw [sl_second ho, show j0 + 1 - 1 = j0 from rfl, setAt_eq hj0]; exact ss_one (by simpa using hi) hv2
      · refine ⟨fun j hj => ?_, fun j w hj hw => ?_⟩
        · by_cases e : j = j0 + 1
          · subst e; simp [hi] at hj
          · rw [Array.getElem?_setIfInBounds_ne (Ne.symm e)] at hj
            by_cases e' : j = j0
            · subst e'; simp [hj0] at hj
            · rw [Array.getElem?_setIfInBounds_ne (Ne.symm e')] at hj
              obtain ⟨j', w, e1, e2, e3⟩ := hW.1 j hj
              refine ⟨j', w, e1, ?_, e3⟩
              rw [Array.getElem?_setIfInBounds_ne, Array.getElem?_setIfInBounds_ne]
              · exact e2
              · intro q; subst q; omega
              · intro q; subst q; rw [ho] at e2; cases e2
        · by_cases e : j = j0 + 1
          · subst e; simp [hi] at hj; subst hj; omega
          · rw [Array.getElem?_setIfInBounds_ne (Ne.symm e)] at hj
            by_cases e' : j = j0
            · subst e'; simp [hj0] at hj
            · rw [Array.getElem?_setIfInBounds_ne (Ne.symm e')] at hj
              have := hW.2 j w hj hw
              rw [Array.getElem?_setIfInBounds_ne, Array.getElem?_setIfInBounds_ne]
              · exact this
              · intro q; subst q; rw [f2] at this; cases this
              · omega
      · by_cases e' : j = j0
        · exact Or.inr (Or.inl ⟨by omega, rfl⟩)
        · left; rw [Array.getElem?_setIfInBounds_ne (Ne.symm hj), Array.getElem?_setIfInBounds_ne (Ne.symm e')]
    | val old =>
      by_cases hc : old.category = 2
      · have f2 := hW.2 i old ho hc
        have hi1 : i + 1 < L.size := (Array.getElem?_eq_some_iff.mp f2).1
        refine ⟨(L.setIfInBounds (i + 1) .unset).setIfInBounds i (.val v), ?_, by simp, ?_, by simp [hi], fun j hj => ?_⟩
        · rw [sl_val ho, if_pos hc, setAt_eq hi1]; exact ss_one (by simpa using hi) hv2
        · refine ⟨fun j hj => ?_, fun j w hj hw => ?_⟩
          · by_cases e : j = i
            · subst e; simp [hi] at hj
            · rw [Array.getElem?_setIfInBounds_ne (Ne.symm e)] at hj
              by_cases e' : j = i + 1
              · subst e'; simp [hi1] at hj
              · rw [Array.getElem?_setIfInBounds_ne (Ne.symm e')] at hj
                obtain ⟨j', w, e1, e2, e3⟩ := hW.1 j hj
                refine ⟨j', w, e1, ?_, e3⟩
                rw [Array.getElem?_setIfInBounds_ne, Array.getElem?_setIfInBounds_ne]
                · exact e2
                · intro q; subst q; rw [f2] at e2; cases e2
                · omega
          · by_cases e : j = i
            · subst e; simp [hi] at hj; subst hj; omega
            · rw [Array.getElem?_setIfInBounds_ne (Ne.symm e)] at hj
              by_cases e' : j = i + 1
              · subst e'; simp [hi1] at hj
              · rw [Array.getElem?_setIfInBounds_ne (Ne.symm e')] at hj
                have := hW.2 j w hj hw
                rw [Array.getElem?_setIfInBounds_ne, Array.getElem?_setIfInBounds_ne]
                · exact this
                · omega
                · intro q; subst q; rw [ho] at this; cases this
        · by_cases e' : j = i + 1
          · subst e'; exact Or.inr (Or.inr ⟨rfl, f2⟩)
          · left; rw [Array.getElem?_setIfInBounds_ne (Ne.symm hj), Array.getElem?_setIfInBounds_ne (Ne.symm e')]
      · refine ⟨L.setIfInBounds i (.val v), ?_, by simp, ?_, by simp [hi], fun j hj => Or.inl (Array.getElem?_setIfInBounds_ne (Ne.symm hj))⟩
        · rw [sl_val ho, if_neg hc, ss_one hi hv2]
        · refine ⟨fun j hj => ?_, fun j w hj hw => ?_⟩
          · by_cases e : j = i
            · subst e; simp [hi] at hj
            · rw [Array.getElem?_setIfInBounds_ne (Ne.symm e)] at hj
              obtain ⟨j', w, e1, e2, e3⟩ := hW.1 j hj
              refine ⟨j', w, e1, ?_, e3⟩
              rw [Array.getElem?_setIfInBounds_ne]; exact e2
              intro q; subst q; rw [ho] at e2; cases e2; omega
          · by_cases e : j = i
            · subst e; simp [hi] at hj; subst hj; omega
            · rw [Array.getElem?_setIfInBounds_ne (Ne.symm e)] at hj
              have := hW.2 j w hj hw
              rw [Array.getElem?_setIfInBounds_ne]; exact this
              intro q; subst q; rw [ho] at this; cases this
theorem Fits.store1 {P : Pat} {L : Array Slot} {i : Nat} {v : Value} (h : Fits P L) (hi : i < L.size) (hv : v.category = 1) :
    ∃ L', storeLocals L i v = some L' ∧ L'.size = L.size ∧ Fits (ps1 P i v) L' := by
  obtain ⟨L', e1, e2, e3, e4, e5⟩ := store_one h.2 hi hv
  refine ⟨L', e1, e2, fun j s hj => ?_, e3⟩
  rcases pget_pput _ _ _ _ _ hj with ⟨rfl, q⟩ | ⟨ne, q⟩
  · rw [e4]; exact q
  · obtain ⟨q1, q2⟩ := pk2_sub q
    obtain ⟨q3, q4⟩ := pkp_sub q1
    have hL := h.1 j s q3
    rcases e5 j ne with r | ⟨r1, r2⟩ | ⟨r1, r2⟩
    · rw [r]; exact hL
    · obtain ⟨j', w, z1, z2, z3⟩ := h.2.1 i r2
      have : j' = j := by omega
      subst this
      rw [hL] at z2; cases z2
      have := q4 r1 w rfl; omega
    · rw [hL] at r2; cases r2
      exact absurd rfl (q2 r1)
theorem st_ph1 {L : Array Slot} {i : Nat} {v : Value} (hW : WFl L) (hi : i + 1 < L.size) :
    ∃ A : Array Slot, storeLocals L i v = storeSelf A i v ∧ A.size = L.size ∧ (∀ j, j ≠ i → j ≠ i + 1 → A[j]? = L[j]? ∨ (j + 1 = i ∧ L[i]? = some .second ∧ A[j]? = some .unset)) ∧ (A[i + 1]? = L[i + 1]? ∨ (A[i + 1]? = some .unset ∧ L[i + 1]? = some .second)) ∧ (L[i]? = some .second → ∀ j, j + 1 = i → A[j]? = some .unset) := by
  have hi0 : i < L.size := by omega
  cases ho : L[i]? with
  | none => rw [Array.getElem?_eq_none_iff] at ho; omega
  | some o =>
    cases o with
    | unset => exact ⟨L, sl_unset ho, rfl, fun j _ _ => Or.inl rfl, Or.inl rfl, fun q => by cases q⟩
    | second =>
      obtain ⟨j0, w0, rfl, f2, f3⟩ := hW.1 i ho
      have hj0 : j0 < L.size := by omega
      refine ⟨L.setIfInBounds j0 .unset, by rw [sl_second ho, show j0 + 1 - 1 = j0 from rfl, setAt_eq hj0]; rfl, by simp, fun j h1 h2 => ?_, Or.inl (Array.getElem?_setIfInBounds_ne (by omega)), fun _ j hj => ?_⟩
      · by_cases e : j = j0
        · subst e; exact Or.inr ⟨rfl, rfl, by simp [hj0]⟩
        · exact Or.inl (Array.getElem?_setIfInBounds_ne (Ne.symm e))
      · have : j = j0 := by omega
        subst this; simp [hj0]
    | val old =>
      by_cases hc : old.category = 2
      · refine ⟨L.setIfInBounds (i + 1) .unset, by rw [sl_val ho, if_pos hc, setAt_eq hi]; rfl, by simp, fun j h1 h2 => Or.inl (Array.getElem?_setIfInBounds_ne (Ne.symm h2)), Or.inr ⟨by simp [hi], hW.2 i old ho hc⟩, fun q => by cases q⟩
      · exact ⟨L, by rw [sl_val ho, if_neg hc], rfl, fun j _ _ => Or.inl rfl, Or.inl rfl, fun q => by cases q⟩
theorem st_ph2 {A : Array Slot} {i : Nat} {v : Value} (hi : i + 1 < A.size) (hv : v.category = 2) (hn : ∀ w : Value, A[i + 1]? = some (.val w) → w.category = 2 → i + 2 < A.size) :
    ∃ L', storeSelf A i v = some L' ∧ L'.size = A.size ∧ L'[i]? = some (.val v) ∧ L'[i + 1]? = some .second ∧ (∀ j, j ≠ i → j ≠ i + 1 → L'[j]? = A[j]? ∨ (j = i + 2 ∧ L'[j]? = some .unset ∧ ∃ w : Value, A[i + 1]? = some (.val w) ∧ w.category = 2)) ∧ ((∃ w : Value, A[i + 1]? = some (.val w) ∧ w.category = 2) → L'[i + 2]? = some .unset) := by
  have hi0 : i < A.size := by omega
  have eB : (A.setIfInBounds i (.val v))[i + 1]? = A[i + 1]? := Array.getElem?_setIfInBounds_ne (by omega)
  have plain : (∀ w : Value, A[i + 1]? = some (.val w) → w.category ≠ 2) → storeSelf A i v = some ((A.setIfInBounds i (.val v)).setIfInBounds (i + 1) .second) := fun hq => by
    cases ho : A[i + 1]? with
    | none => rw [Array.getElem?_eq_none_iff] at ho; omega
    | some o => cases o with
      | unset => rw [ss_two hi0 hv ho]; exact setAt_eq (by simpa using hi)
      | second => rw [ss_two hi0 hv ho]; exact setAt_eq (by simpa using hi)
      | val w => have := hq w ho; rw [ss_two hi0 hv ho]; simp only [if_neg this]; exact setAt_eq (by simpa using hi)
  by_cases hw : ∃ w : Value, A[i + 1]? = some (.val w) ∧ w.category = 2
  · obtain ⟨w, h1, h2⟩ := hw
    have h3 := hn w h1 h2
    refine ⟨((A.setIfInBounds i (.val v)).setIfInBounds (i + 2) .unset).setIfInBounds (i + 1) .second, by rw [ss_two hi0 hv h1]; simp only [if_pos h2]; rw [setAt_eq (by simpa using h3)]; exact setAt_eq (by simpa using hi), by simp, ?_, by simp [hi], fun j a b => ?_, fun _ => ?_⟩
    · rw [Array.getElem?_setIfInBounds_ne (by omega), Array.getElem?_setIfInBounds_ne (by omega)]; simp [hi0]
    · rw [Array.getElem?_setIfInBounds_ne (by omega)]
      by_cases e : j = i + 2
      · subst e; exact Or.inr ⟨rfl, by simp [h3], w, h1, h2⟩
      · left; rw [Array.getElem?_setIfInBounds_ne (by omega), Array.getElem?_setIfInBounds_ne (by omega)]
    · rw [Array.getElem?_setIfInBounds_ne (by omega)]; simp [h3]
  · refine ⟨_, plain fun w h1 h2 => hw ⟨w, h1, h2⟩, by simp, ?_, by simp [hi], fun j a b => Or.inl ?_, fun q => absurd q hw⟩
    · rw [Array.getElem?_setIfInBounds_ne (by omega)]; simp [hi0]
    · rw [Array.getElem?_setIfInBounds_ne (by omega), Array.getElem?_setIfInBounds_ne (by omega)]
theorem store_two {L : Array Slot} {i : Nat} {v : Value} (hW : WFl L) (hi : i + 1 < L.size) (hv : v.category = 2) :
    ∃ L', storeLocals L i v = some L' ∧ L'.size = L.size ∧ WFl L' ∧ L'[i]? = some (.val v) ∧ L'[i + 1]? = some .second ∧ ∀ j, j ≠ i → j ≠ i + 1 → L'[j]? = L[j]? ∨ (j + 1 = i ∧ L[i]? = some .second) ∨ (j = i + 2 ∧ L[j]? = some .second) := by
  obtain ⟨A, a1, a2, a3, a4, a5⟩ := st_ph1 (v := v) hW hi
  have a6 : ∀ w : Value, A[i + 1]? = some (.val w) → w.category = 2 → L[i + 2]? = some .second := fun w h1 h2 => by
    rcases a4 with e | ⟨e, -⟩
    · rw [e] at h1; exact hW.2 _ _ h1 h2
    · rw [e] at h1; cases h1
  obtain ⟨L', b1, b2, b3, b4, b5, b6⟩ := st_ph2 (A := A) (i := i) (v := v) (by omega) hv (fun w h1 h2 => by have := (Array.getElem?_eq_some_iff.mp (a6 w h1 h2)).1; omega)
  have c : ∀ j, j ≠ i → j ≠ i + 1 → L'[j]? = L[j]? ∨ (j + 1 = i ∧ L[i]? = some .second ∧ L'[j]? = some .unset) ∨ (j = i + 2 ∧ L[j]? = some .second ∧ L'[j]? = some .unset) := fun j h1 h2 => by
    rcases b5 j h1 h2 with e | ⟨e1, e2, w, e3, e4⟩
    · rcases a3 j h1 h2 with r | ⟨r1, r2, r3⟩
      · exact Or.inl (e.trans r)
      · exact Or.inr (Or.inl ⟨r1, r2, e.trans r3⟩)
    · subst e1; exact Or.inr (Or.inr ⟨rfl, a6 w e3 e4, e2⟩)
  have cs : L[i]? = some .second → ∀ j, j + 1 = i → L'[j]? = some .unset := fun q j hj => by
    rcases b5 j (by omega) (by omega) with e | ⟨e1, -⟩
    · exact e.trans (a5 q j hj)
    · omega
  have c2 : L[i + 2]? = some .second → L'[i + 2]? = some .unset := fun q => by
    obtain ⟨j', w, z1, z2, z3⟩ := hW.1 _ q
    have : j' = i + 1 := by omega
    subst this
    rcases a4 with e | ⟨-, e⟩
    · exact b6 ⟨w, e.trans z2, z3⟩
    · rw [e] at z2; cases z2
  refine ⟨L', a1.trans b1, b2.trans a2, ⟨fun j hj => ?_, fun j w hj hw => ?_⟩, b3, b4, fun j h1 h2 => ?_⟩
  · by_cases e0 : j = i
    · subst e0; rw [b3] at hj; cases hj
    by_cases e1 : j = i + 1
    · exact ⟨i, v, e1, b3, hv⟩
    rcases c j e0 e1 with r | ⟨-, -, r⟩ | ⟨-, -, r⟩
    · rw [r] at hj
      obtain ⟨j', w, z1, z2, z3⟩ := hW.1 j hj
      refine ⟨j', w, z1, ?_, z3⟩
      have n0 : j' ≠ i := by omega
      by_cases n1 : j' = i + 1
      · have : j = i + 2 := by omega
        subst this
        rw [c2 hj] at r; rw [hj] at r; cases r
      rcases c j' n0 n1 with u | ⟨u, -, -⟩ | ⟨-, u, -⟩
      · exact u.trans z2
      · omega
      · rw [z2] at u; cases u
    · rw [r] at hj; cases hj
    · rw [r] at hj; cases hj
  · by_cases e0 : j = i
    · subst e0; exact b4
    by_cases e1 : j = i + 1
    · subst e1; rw [b4] at hj; cases hj
    rcases c j e0 e1 with r | ⟨-, -, r⟩ | ⟨-, -, r⟩
    · have hj' := hj
      rw [r] at hj
      have z := hW.2 j w hj hw
      by_cases n0 : j + 1 = i
      · subst n0; rw [cs z j rfl] at hj'; cases hj'
      by_cases n1 : j + 1 = i + 1
      · omega
      rcases c (j + 1) n0 n1 with u | ⟨u1, u2, -⟩ | ⟨u, -, -⟩
      · exact u.trans z
      · obtain ⟨j', w', y1, y2, y3⟩ := hW.1 i u2
        have : j' = j + 1 := by omega
        subst this; rw [z] at y2; cases y2
      · omega
    · rw [r] at hj; cases hj
    · rw [r] at hj; cases hj
  · rcases c j h1 h2 with r | ⟨r1, r2, -⟩ | ⟨r1, r2, -⟩
    · exact Or.inl r
    · exact Or.inr (Or.inl ⟨r1, r2⟩)
    · exact Or.inr (Or.inr ⟨r1, r2⟩)
theorem Fits.store2 {P : Pat} {L : Array Slot} {i : Nat} {v : Value} (h : Fits P L) (hi : i + 1 < L.size) (hv : v.category = 2) :
    ∃ L', storeLocals L i v = some L' ∧ L'.size = L.size ∧ Fits (ps2 P i v) L' := by
  obtain ⟨L', e1, e2, e3, e4, e4', e5⟩ := store_two h.2 hi hv
  refine ⟨L', e1, e2, fun j s hj => ?_, e3⟩
  rcases pget_pput _ _ _ _ _ hj with ⟨rfl, q⟩ | ⟨ne, q⟩
  · rw [e4']; exact q
  rcases pget_pput _ _ _ _ _ q with ⟨rfl, q'⟩ | ⟨ne', q'⟩
  · rw [e4]; exact q'
  obtain ⟨q1, q2⟩ := pk2_sub q'
  obtain ⟨q3, q4⟩ := pkp_sub q1
  have hL := h.1 j s q3
  rcases e5 j ne' ne with r | ⟨r1, r2⟩ | ⟨r1, r2⟩
  · rw [r]; exact hL
  · obtain ⟨j', w, z1, z2, z3⟩ := h.2.1 i r2
    have : j' = j := by omega
    subst this
    rw [hL] at z2; cases z2
    have := q4 r1 w rfl; omega
  · rw [hL] at r2; cases r2
    exact absurd rfl (q2 r1)
/- what a body does from a place on -/
def Runs (C : Ctx) (M : Bdy) (k n pc : Nat) (P : Pat) (S : List Value) (G : AH) (Q : Option Value → AH → Prop) : Prop :=
  Ok C → ∀ (p : Program) (e : Env) (s : State) (m : MethodId) (args : Array Value) (below : List Frame) (meth : Method) (c : Code) (T : State) (locs : List Loc) (L : Array Slot),
    p.tables.exec = Jvm.exec → c.code = M.2.1 → c.maxLocals = M.2.2.1 → meth.sig.returnType = M.2.2.2.1 → meth.name = M.1.name → s.vm.findClass M.1.cls = some m.cls → C.2.1.Warmed39 s.vm →
    Fits P L → L.size = M.2.2.1 → Stand p C.1 e M.2.2.2.2 s m args below meth c T locs k n → Rep C.2.1 C.2.2.1 T.heap G → Fr C.2.2.1 locs →
    ∃ (T' : State) (locs' : List Loc) (k' n' : Nat) (r : Option Value) (G' : AH), Stand p C.1 e M.2.2.2.2 s m args below meth c T' locs' k' n' ∧ k' ≤ M.2.2.2.2.cells ∧ n' ≤ M.2.2.2.2.slots ∧ Rep C.2.1 C.2.2.1 T'.heap G' ∧ Fr C.2.2.1 locs' ∧ Q r G' ∧
      (M.2.2.2.1 = none → r = none) ∧
      ∀ fs : List Frame, (∀ (f : JFrame) (acts : List Action), f.method = m → f.locked = none → f.entered = [] → (doReturn e (T'.setTop f) acts r).1 = T'.setFrames fs) → Steps p.tables e below (T.setTop (mkF m pc L S)) (T'.setFrames fs)
section Rules
variable {C : Ctx} {M : Bdy} {k n pc q : Nat} {P P' : Pat} {S S' : List Value} {G : AH} {Q : Option Value → AH → Prop}
/-- a step that leaves the heap alone -/
theorem Runs.pure {i : Instr} {len : Nat} (d : DAt M pc i len q) {pc' : Nat}
    (st : ∀ (p : Program) (e : Env) (s : State) (m : MethodId) (args : Array Value) (below : List Frame) (meth : Method) (c : Code) (T : State) (locs : List Loc) (L : Array Slot), Ok C → p.tables.exec = Jvm.exec → s.vm.findClass M.1.cls = some m.cls → C.2.1.Warmed39 s.vm → decode c.code pc = .ok (i, len) → Fits P L → L.size = M.2.2.1 → Rep C.2.1 C.2.2.1 T.heap G →
      Stand p C.1 e M.2.2.2.2 s m args below meth c T locs k n → ∃ L', Fits P' L' ∧ L'.size = M.2.2.1 ∧ ∀ t, Steps p.tables e below (T.setTop (mkF m pc' L' S')) t → Steps p.tables e below (T.setTop (mkF m pc L S)) t)
    (h : Runs C M k n pc' P' S' G Q) : Runs C M k n pc P S G Q := by
  intro hw p e s m args below meth c T locs L hx hby hml hret hnm hown hZ hP hsz X hR hF
  obtain ⟨L', f1, f2, f3⟩ := st p e s m args below meth c T locs L hw hx hown hZ (hb hby d.1) hP hsz hR X
  obtain ⟨T', locs', k', n', r, G', g1, g2, g3, g4, g5, g6, g7, g8⟩ := h hw p e s m args below meth c T locs L' hx hby hml hret hnm hown hZ f1 f2 X hR hF
  exact ⟨T', locs', k', n', r, G', g1, g2, g3, g4, g5, g6, g7, fun fs hr => f3 _ (g8 fs hr)⟩
/-- a step that keeps the locals and what the heap says -/
theorem Runs.stk {i : Instr} {len : Nat} (d : DAt M pc i len q)
    (st : ∀ (p : Program) (e : Env) (s : State) (m : MethodId) (args : Array Value) (below : List Frame) (meth : Method) (c : Code) (T : State) (locs : List Loc) (L : Array Slot), p.tables.exec = Jvm.exec → decode c.code pc = .ok (i, len) → Fits P L →
      Stand p C.1 e M.2.2.2.2 s m args below meth c T locs k n → ∀ t, Steps p.tables e below (T.setTop (mkF m (pc + len) L S')) t → Steps p.tables e below (T.setTop (mkF m pc L S)) t)
    (h : Runs C M k n q P S' G Q) : Runs C M k n pc P S G Q := by
  have hq := d.2
  subst hq
  exact Runs.pure d (fun p e s m args below meth c T locs L _ hx _ _ hd hP hsz _ X => ⟨L, hP, hsz, st p e s m args below meth c T locs L hx hd hP X⟩) h
theorem Runs.iloadN {j : Fin 4} {v : Int32} (d : DAt M pc (.iload_n j) 1 q) (hl : pget P j.val = vi v) (h : Runs C M k n q P (.int v :: S) G Q) : Runs C M k n pc P S G Q :=
  Runs.stk d (fun p e s m args below meth c T locs L hx hd hP X t r => XS.iloadN (g := mkF m pc L S) X.here hx rfl hd (hP.1 _ _ hl) r) h
theorem Runs.iload {j : Nat} {v : Int32} (d : DAt M pc (.iload j) 2 q) (hl : pget P j = vi v) (h : Runs C M k n q P (.int v :: S) G Q) : Runs C M k n pc P S G Q :=
  Runs.stk d (fun p e s m args below meth c T locs L hx hd hP X t r => XS.iload (g := mkF m pc L S) X.here hx rfl hd (hP.1 _ _ hl) r) h
theorem Runs.lloadN {j : Fin 4} {v : Int64} (d : DAt M pc (.lload_n j) 1 q) (hl : pget P j.val = vl v) (h : Runs C M k n q P (.long v :: S) G Q) : Runs C M k n pc P S G Q :=
  Runs.stk d (fun p e s m args below meth c T locs L hx hd hP X t r => XS.lloadN (g := mkF m pc L S) X.here hx rfl hd (hP.1 _ _ hl) r) h
theorem Runs.lload {j : Nat} {v : Int64} (d : DAt M pc (.lload j) 2 q) (hl : pget P j = vl v) (h : Runs C M k n q P (.long v :: S) G Q) : Runs C M k n pc P S G Q :=
  Runs.stk d (fun p e s m args below meth c T locs L hx hd hP X t r => XS.lload (g := mkF m pc L S) X.here hx rfl hd (hP.1 _ _ hl) r) h
theorem Runs.aloadN {j : Fin 4} {v : Nat} (d : DAt M pc (.aload_n j) 1 q) (hl : pget P j.val = vr v) (h : Runs C M k n q P (.ref v :: S) G Q) : Runs C M k n pc P S G Q :=
  Runs.stk d (fun p e s m args below meth c T locs L hx hd hP X t r => XS.aloadN (g := mkF m pc L S) X.here hx rfl hd (hP.1 _ _ hl) rfl r) h
theorem Runs.aload {j : Nat} {v : Nat} (d : DAt M pc (.aload j) 2 q) (hl : pget P j = vr v) (h : Runs C M k n q P (.ref v :: S) G Q) : Runs C M k n pc P S G Q :=
  Runs.stk d (fun p e s m args below meth c T locs L hx hd hP X t r => XS.aload (g := mkF m pc L S) X.here hx rfl hd (hP.1 _ _ hl) rfl r) h
theorem Runs.iconst {i : Int} {v : Int32} (d : DAt M pc (.iconst i) 1 q) (hv : Int32.ofInt i = v) (h : Runs C M k n q P (.int v :: S) G Q) : Runs C M k n pc P S G Q :=
  Runs.stk d (fun p e s m args below meth c T locs L hx hd hP X t r => XS.iconst (g := mkF m pc L S) X.here hx rfl hd (by rw [hv]; exact r)) h
theorem Runs.bipush {i : Int} {v : Int32} (d : DAt M pc (.bipush i) 2 q) (hv : (Int8.ofInt i).toInt32 = v) (h : Runs C M k n q P (.int v :: S) G Q) : Runs C M k n pc P S G Q :=
  Runs.stk d (fun p e s m args below meth c T locs L hx hd hP X t r => XS.bipush (g := mkF m pc L S) X.here hx rfl hd (by rw [hv]; exact r)) h
theorem Runs.sipush {i : Int} {v : Int32} (d : DAt M pc (.sipush i) 3 q) (hv : (Int16.ofInt i).toInt32 = v) (h : Runs C M k n q P (.int v :: S) G Q) : Runs C M k n pc P S G Q :=
  Runs.stk d (fun p e s m args below meth c T locs L hx hd hP X t r => XS.sipush (g := mkF m pc L S) X.here hx rfl hd (by rw [hv]; exact r)) h
theorem Runs.lconst {i : Fin 2} {v : Int64} (d : DAt M pc (.lconst i) 1 q) (hv : Int64.ofNat i = v) (h : Runs C M k n q P (.long v :: S) G Q) : Runs C M k n pc P S G Q :=
  Runs.stk d (fun p e s m args below meth c T locs L hx hd hP X t r => Jvm.Free.XT.lconstV (g := mkF m pc L S) X.here hx rfl v hd hv r) h
theorem Runs.ldc {i : Nat} {v : Int32} (d : DAt M pc (.ldc i) 2 q) (w : Jvm.Cond.constant M.1.cls i v ∈ tables_1) (h : Runs C M k n q P (.int v :: S) G Q) : Runs C M k n pc P S G Q := by
  have hq := d.2
  subst hq
  exact Runs.pure d (fun p e s m args below meth c T locs L hw hx hown hZ hd hP hsz _ X => ⟨L, hP, hsz, fun t r => X.ldcInt hx hown (mvT hZ (hw _ w)) (g := mkF m pc L S) rfl hd t r⟩) h
theorem Runs.ldc2 {i : Nat} {v : Int64} (d : DAt M pc (.ldc2_w i) 3 q) (w : Jvm.Cond.constantLong M.1.cls i v ∈ tables_1) (h : Runs C M k n q P (.long v :: S) G Q) : Runs C M k n pc P S G Q := by
  have hq := d.2
  subst hq
  exact Runs.pure d (fun p e s m args below meth c T locs L hw hx hown hZ hd hP hsz _ X => ⟨L, hP, hsz, fun t r => X.ldc2Long hx hown (mvT hZ (hw _ w)) (g := mkF m pc L S) rfl hd t r⟩) h
theorem Runs.iadd {x y : Int32} (d : DAt M pc .iadd 1 q) (h : Runs C M k n q P (.int (x + y) :: S) G Q) : Runs C M k n pc P (.int y :: .int x :: S) G Q :=
  Runs.stk d (fun p e s m args below meth c T locs L hx hd hP X t r => XS.iadd (g := mkF m pc L (.int y :: .int x :: S)) X.here hx rfl hd rfl r) h
theorem Runs.isub {x y : Int32} (d : DAt M pc .isub 1 q) (h : Runs C M k n q P (.int (x - y) :: S) G Q) : Runs C M k n pc P (.int y :: .int x :: S) G Q :=
  Runs.stk d (fun p e s m args below meth c T locs L hx hd hP X t r => XS.isub (g := mkF m pc L (.int y :: .int x :: S)) X.here hx rfl hd rfl r) h
theorem Runs.imul {x y : Int32} (d : DAt M pc .imul 1 q) (h : Runs C M k n q P (.int (x * y) :: S) G Q) : Runs C M k n pc P (.int y :: .int x :: S) G Q :=
  Runs.stk d (fun p e s m args below meth c T locs L hx hd hP X t r => XS.imul (g := mkF m pc L (.int y :: .int x :: S)) X.here hx rfl hd rfl r) h
theorem Runs.iand {x y : Int32} (d : DAt M pc .iand 1 q) (h : Runs C M k n q P (.int (x &&& y) :: S) G Q) : Runs C M k n pc P (.int y :: .int x :: S) G Q :=
  Runs.stk d (fun p e s m args below meth c T locs L hx hd hP X t r => XS.iand (g := mkF m pc L (.int y :: .int x :: S)) X.here hx rfl hd rfl r) h
theorem Runs.ior {x y : Int32} (d : DAt M pc .ior 1 q) (h : Runs C M k n q P (.int (x ||| y) :: S) G Q) : Runs C M k n pc P (.int y :: .int x :: S) G Q :=
  Runs.stk d (fun p e s m args below meth c T locs L hx hd hP X t r => XS.ior (g := mkF m pc L (.int y :: .int x :: S)) X.here hx rfl hd rfl r) h
theorem Runs.ixor {x y : Int32} (d : DAt M pc .ixor 1 q) (h : Runs C M k n q P (.int (x ^^^ y) :: S) G Q) : Runs C M k n pc P (.int y :: .int x :: S) G Q :=
  Runs.stk d (fun p e s m args below meth c T locs L hx hd hP X t r => XS.ixor (g := mkF m pc L (.int y :: .int x :: S)) X.here hx rfl hd rfl r) h
theorem Runs.ladd {x y : Int64} (d : DAt M pc .ladd 1 q) (h : Runs C M k n q P (.long (x + y) :: S) G Q) : Runs C M k n pc P (.long y :: .long x :: S) G Q :=
  Runs.stk d (fun p e s m args below meth c T locs L hx hd hP X t r => XS.ladd (g := mkF m pc L (.long y :: .long x :: S)) X.here hx rfl hd rfl r) h
theorem Runs.lsub {x y : Int64} (d : DAt M pc .lsub 1 q) (h : Runs C M k n q P (.long (x - y) :: S) G Q) : Runs C M k n pc P (.long y :: .long x :: S) G Q :=
  Runs.stk d (fun p e s m args below meth c T locs L hx hd hP X t r => XS.lsub (g := mkF m pc L (.long y :: .long x :: S)) X.here hx rfl hd rfl r) h
theorem Runs.lmul {x y : Int64} (d : DAt M pc .lmul 1 q) (h : Runs C M k n q P (.long (x * y) :: S) G Q) : Runs C M k n pc P (.long y :: .long x :: S) G Q :=
  Runs.stk d (fun p e s m args below meth c T locs L hx hd hP X t r => XS.lmul (g := mkF m pc L (.long y :: .long x :: S)) X.here hx rfl hd rfl r) h
theorem Runs.land {x y : Int64} (d : DAt M pc .land 1 q) (h : Runs C M k n q P (.long (x &&& y) :: S) G Q) : Runs C M k n pc P (.long y :: .long x :: S) G Q :=
  Runs.stk d (fun p e s m args below meth c T locs L hx hd hP X t r => XS.land (g := mkF m pc L (.long y :: .long x :: S)) X.here hx rfl hd rfl r) h
theorem Runs.lor {x y : Int64} (d : DAt M pc .lor 1 q) (h : Runs C M k n q P (.long (x ||| y) :: S) G Q) : Runs C M k n pc P (.long y :: .long x :: S) G Q :=
  Runs.stk d (fun p e s m args below meth c T locs L hx hd hP X t r => XS.lor (g := mkF m pc L (.long y :: .long x :: S)) X.here hx rfl hd rfl r) h
theorem Runs.lxor {x y : Int64} (d : DAt M pc .lxor 1 q) (h : Runs C M k n q P (.long (x ^^^ y) :: S) G Q) : Runs C M k n pc P (.long y :: .long x :: S) G Q :=
  Runs.stk d (fun p e s m args below meth c T locs L hx hd hP X t r => XS.lxor (g := mkF m pc L (.long y :: .long x :: S)) X.here hx rfl hd rfl r) h
theorem Runs.ishl {x : Int32} {y : Int32} (d : DAt M pc .ishl 1 q) (h : Runs C M k n q P (.int (x <<< (y &&& 31)) :: S) G Q) : Runs C M k n pc P (.int y :: .int x :: S) G Q :=
  Runs.stk d (fun p e s m args below meth c T locs L hx hd hP X t r => XS.ishl (g := mkF m pc L (.int y :: .int x :: S)) X.here hx rfl hd rfl r) h
theorem Runs.ishr {x : Int32} {y : Int32} (d : DAt M pc .ishr 1 q) (h : Runs C M k n q P (.int (x >>> (y &&& 31)) :: S) G Q) : Runs C M k n pc P (.int y :: .int x :: S) G Q :=
  Runs.stk d (fun p e s m args below meth c T locs L hx hd hP X t r => XS.ishr (g := mkF m pc L (.int y :: .int x :: S)) X.here hx rfl hd rfl r) h
theorem Runs.iushr {x : Int32} {y : Int32} (d : DAt M pc .iushr 1 q) (h : Runs C M k n q P (.int ((x.toUInt32 >>> (y &&& 31).toUInt32).toInt32) :: S) G Q) : Runs C M k n pc P (.int y :: .int x :: S) G Q :=
  Runs.stk d (fun p e s m args below meth c T locs L hx hd hP X t r => XS.iushr (g := mkF m pc L (.int y :: .int x :: S)) X.here hx rfl hd rfl r) h
theorem Runs.lshl {x : Int64} {y : Int32} (d : DAt M pc .lshl 1 q) (h : Runs C M k n q P (.long (x <<< (y &&& 0x3f).toInt64) :: S) G Q) : Runs C M k n pc P (.int y :: .long x :: S) G Q :=
  Runs.stk d (fun p e s m args below meth c T locs L hx hd hP X t r => XS.lshl (g := mkF m pc L (.int y :: .long x :: S)) X.here hx rfl hd rfl r) h
theorem Runs.lshr {x : Int64} {y : Int32} (d : DAt M pc .lshr 1 q) (h : Runs C M k n q P (.long (x >>> (y &&& 0x3f).toInt64) :: S) G Q) : Runs C M k n pc P (.int y :: .long x :: S) G Q :=
  Runs.stk d (fun p e s m args below meth c T locs L hx hd hP X t r => XS.lshr (g := mkF m pc L (.int y :: .long x :: S)) X.here hx rfl hd rfl r) h
theorem Runs.lushr {x : Int64} {y : Int32} (d : DAt M pc .lushr 1 q) (h : Runs C M k n q P (.long ((x.toUInt64 >>> (y &&& 0x3f).toInt64.toUInt64).toInt64) :: S) G Q) : Runs C M k n pc P (.int y :: .long x :: S) G Q :=
  Runs.stk d (fun p e s m args below meth c T locs L hx hd hP X t r => XS.lushr (g := mkF m pc L (.int y :: .long x :: S)) X.here hx rfl hd rfl r) h
theorem Runs.ineg {x : Int32} (d : DAt M pc .ineg 1 q) (h : Runs C M k n q P (.int (-x) :: S) G Q) : Runs C M k n pc P (.int x :: S) G Q :=
  Runs.stk d (fun p e s m args below meth c T locs L hx hd hP X t r => XS.ineg (g := mkF m pc L (.int x :: S)) X.here hx rfl hd rfl r) h
theorem Runs.lneg {x : Int64} (d : DAt M pc .lneg 1 q) (h : Runs C M k n q P (.long (-x) :: S) G Q) : Runs C M k n pc P (.long x :: S) G Q :=
  Runs.stk d (fun p e s m args below meth c T locs L hx hd hP X t r => XS.lneg (g := mkF m pc L (.long x :: S)) X.here hx rfl hd rfl r) h
theorem Runs.i2l {x : Int32} (d : DAt M pc .i2l 1 q) (h : Runs C M k n q P (.long x.toInt64 :: S) G Q) : Runs C M k n pc P (.int x :: S) G Q :=
  Runs.stk d (fun p e s m args below meth c T locs L hx hd hP X t r => XS.i2l (g := mkF m pc L (.int x :: S)) X.here hx rfl hd rfl r) h
theorem Runs.l2i {x : Int64} (d : DAt M pc .l2i 1 q) (h : Runs C M k n q P (.int x.toInt32 :: S) G Q) : Runs C M k n pc P (.long x :: S) G Q :=
  Runs.stk d (fun p e s m args below meth c T locs L hx hd hP X t r => XS.l2i (g := mkF m pc L (.long x :: S)) X.here hx rfl hd rfl r) h
theorem Runs.lcmp {x y : Int64} (d : DAt M pc .lcmp 1 q) (h : Runs C M k n q P (.int (lcmpW x y) :: S) G Q) : Runs C M k n pc P (.long y :: .long x :: S) G Q :=
  Runs.stk d (fun p e s m args below meth c T locs L hx hd hP X t r => XS.lcmp (g := mkF m pc L (.long y :: .long x :: S)) X.here hx rfl hd rfl r) h
theorem Runs.idiv {x y : Int32} (d : DAt M pc .idiv 1 q) (hy : y ≠ 0) (h : Runs C M k n q P (.int (x / y) :: S) G Q) : Runs C M k n pc P (.int y :: .int x :: S) G Q :=
  Runs.stk d (fun p e s m args below meth c T locs L hx hd hP X t r => XS.idiv (g := mkF m pc L (.int y :: .int x :: S)) X.here hx rfl hd rfl hy r) h
theorem Runs.irem {x y : Int32} (d : DAt M pc .irem 1 q) (hy : y ≠ 0) (h : Runs C M k n q P (.int (x % y) :: S) G Q) : Runs C M k n pc P (.int y :: .int x :: S) G Q :=
  Runs.stk d (fun p e s m args below meth c T locs L hx hd hP X t r => iremM (g := mkF m pc L (.int y :: .int x :: S)) X hx rfl hd rfl hy r) h
theorem Runs.dup {x : Value} (d : DAt M pc .dup 1 q) (hc : x.category = 1) (h : Runs C M k n q P (x :: x :: S) G Q) : Runs C M k n pc P (x :: S) G Q :=
  Runs.stk d (fun p e s m args below meth c T locs L hx hd hP X t r => XS.dup (g := mkF m pc L (x :: S)) X.here hx rfl hd rfl hc r) h
theorem Runs.dup2 {x y : Value} (d : DAt M pc .dup2 1 q) (hc : x.category = 1) (hc' : y.category = 1) (h : Runs C M k n q P (x :: y :: x :: y :: S) G Q) : Runs C M k n pc P (x :: y :: S) G Q :=
  Runs.stk d (fun p e s m args below meth c T locs L hx hd hP X t r => Jvm.Free.XT.dup2 (g := mkF m pc L (x :: y :: S)) X.here hx rfl hd rfl hc hc' r) h
theorem Runs.pop {x : Value} (d : DAt M pc .pop 1 q) (hc : x.category = 1) (h : Runs C M k n q P S G Q) : Runs C M k n pc P (x :: S) G Q :=
  Runs.stk d (fun p e s m args below meth c T locs L hx hd hP X t r => XS.pop (g := mkF m pc L (x :: S)) X.here hx rfl hd rfl hc r) h
theorem Runs.goto {o : Int} {pc' : Nat} (d : DAt M pc (.goto o) 3 q) (ho : 0 ≤ (pc : Int) + o ∧ ((pc : Int) + o).toNat = pc') (h : Runs C M k n pc' P S G Q) : Runs C M k n pc P S G Q :=
  Runs.pure d (fun p e s m args below meth c T locs L hw hx hown hZ hd hP hsz _ X => ⟨L, hP, hsz, fun t r => XS.goto (g := mkF m pc L S) X.here hx rfl (pc0 := pc) rfl hd ho.1 ho.2 r⟩) h
theorem Runs.ifY {cd : ClassFile.Cond} {x : Int32} {o : Int} {pc' : Nat} (d : DAt M pc (.ifCond cd o) 3 q) (hc : if_icmp.holds cd x 0 = true) (ho : 0 ≤ (pc : Int) + o ∧ ((pc : Int) + o).toNat = pc') (h : Runs C M k n pc' P S G Q) : Runs C M k n pc P (.int x :: S) G Q :=
  Runs.pure d (fun p e s m args below meth c T locs L hw hx hown hZ hd hP hsz _ X => ⟨L, hP, hsz, fun t r => XS.ifYes (g := mkF m pc L (.int x :: S)) X.here hx rfl (pc0 := pc) rfl hd rfl ((if0 _ _).trans hc) ho.1 ho.2 r⟩) h
theorem Runs.ifN {cd : ClassFile.Cond} {x : Int32} {o : Int} (d : DAt M pc (.ifCond cd o) 3 q) (hc : if_icmp.holds cd x 0 = false) (h : Runs C M k n q P S G Q) : Runs C M k n pc P (.int x :: S) G Q :=
  Runs.stk d (fun p e s m args below meth c T locs L hx hd hP X t r => XS.ifNo (g := mkF m pc L (.int x :: S)) X.here hx rfl hd rfl ((if0 _ _).trans hc) r) h
theorem Runs.icY {cd : ClassFile.Cond} {x y : Int32} {o : Int} {pc' : Nat} (d : DAt M pc (.if_icmp cd o) 3 q) (hc : if_icmp.holds cd x y = true) (ho : 0 ≤ (pc : Int) + o ∧ ((pc : Int) + o).toNat = pc') (h : Runs C M k n pc' P S G Q) : Runs C M k n pc P (.int y :: .int x :: S) G Q :=
  Runs.pure d (fun p e s m args below meth c T locs L hw hx hown hZ hd hP hsz _ X => ⟨L, hP, hsz, fun t r => XS.icmpYes (g := mkF m pc L (.int y :: .int x :: S)) X.here hx rfl (pc0 := pc) rfl hd rfl hc ho.1 ho.2 r⟩) h
theorem Runs.icN {cd : ClassFile.Cond} {x y : Int32} {o : Int} (d : DAt M pc (.if_icmp cd o) 3 q) (hc : if_icmp.holds cd x y = false) (h : Runs C M k n q P S G Q) : Runs C M k n pc P (.int y :: .int x :: S) G Q :=
  Runs.stk d (fun p e s m args below meth c T locs L hx hd hP X t r => XS.icmpNo (g := mkF m pc L (.int y :: .int x :: S)) X.here hx rfl hd rfl hc r) h
theorem Runs.tswI {dflt low high : Int} {offs : Array Int} {len : Nat} {o : Int} {pc' : Nat} {i : Int32} (d : DAt M pc (.tableswitch dflt low high offs) len q) (hin : ¬ (i.toInt < low ∨ i.toInt > high)) (hoff : offs[(i.toInt - low).toNat]? = some o) (ho : 0 ≤ (pc : Int) + o ∧ ((pc : Int) + o).toNat = pc') (h : Runs C M k n pc' P S G Q) : Runs C M k n pc P (.int i :: S) G Q :=
  Runs.pure d (fun p e s m args below meth c T locs L hw hx hown hZ hd hP hsz _ X => ⟨L, hP, hsz, fun t r => XS.tswIn (g := mkF m pc L (.int i :: S)) X.here hx rfl (pc0 := pc) rfl hd rfl hin hoff ho.1 ho.2 r⟩) h
theorem Runs.tswO {dflt low high : Int} {offs : Array Int} {len : Nat} {pc' : Nat} {i : Int32} (d : DAt M pc (.tableswitch dflt low high offs) len q) (hout : i.toInt < low ∨ i.toInt > high) (ho : 0 ≤ (pc : Int) + dflt ∧ ((pc : Int) + dflt).toNat = pc') (h : Runs C M k n pc' P S G Q) : Runs C M k n pc P (.int i :: S) G Q :=
  Runs.pure d (fun p e s m args below meth c T locs L hw hx hown hZ hd hP hsz _ X => ⟨L, hP, hsz, fun t r => XS.tswOut (g := mkF m pc L (.int i :: S)) X.here hx rfl (pc0 := pc) rfl hd rfl hout ho.1 ho.2 r⟩) h
theorem Runs.istoreN {j : Fin 4} {x : Int32} (d : DAt M pc (.istore_n j) 1 q) (hi : j.val < M.2.2.1) (hP' : ps1 P j.val (.int x) = P') (h : Runs C M k n q P' S G Q) : Runs C M k n pc P (.int x :: S) G Q := by
  have hq := d.2
  subst hq hP'
  refine Runs.pure d (fun p e s m args below meth c T locs L hw hx hown hZ hd hP hsz _ X => ?_) h
  obtain ⟨L', e1, e2, e3⟩ := hP.store1 (i := j.val) (v := .int x) (by omega) rfl
  exact ⟨L', e3, e2.trans hsz, fun t r => XS.istoreN (g := mkF m pc L (.int x :: S)) X.here hx rfl hd rfl e1 r⟩
theorem Runs.istore {j : Nat} {x : Int32} (d : DAt M pc (.istore j) 2 q) (hi : j < M.2.2.1) (hP' : ps1 P j (.int x) = P') (h : Runs C M k n q P' S G Q) : Runs C M k n pc P (.int x :: S) G Q := by
  have hq := d.2
  subst hq hP'
  refine Runs.pure d (fun p e s m args below meth c T locs L hw hx hown hZ hd hP hsz _ X => ?_) h
  obtain ⟨L', e1, e2, e3⟩ := hP.store1 (i := j) (v := .int x) (by omega) rfl
  exact ⟨L', e3, e2.trans hsz, fun t r => XS.istore (g := mkF m pc L (.int x :: S)) X.here hx rfl hd rfl e1 r⟩
theorem Runs.astoreN {j : Fin 4} {x : Nat} (d : DAt M pc (.astore_n j) 1 q) (hi : j.val < M.2.2.1) (hP' : ps1 P j.val (.ref x) = P') (h : Runs C M k n q P' S G Q) : Runs C M k n pc P (.ref x :: S) G Q := by
  have hq := d.2
  subst hq hP'
  refine Runs.pure d (fun p e s m args below meth c T locs L hw hx hown hZ hd hP hsz _ X => ?_) h
  obtain ⟨L', e1, e2, e3⟩ := hP.store1 (i := j.val) (v := .ref x) (by omega) rfl
  exact ⟨L', e3, e2.trans hsz, fun t r => XS.astoreN (g := mkF m pc L (.ref x :: S)) X.here hx rfl hd rfl rfl e1 r⟩
theorem Runs.astore {j : Nat} {x : Nat} (d : DAt M pc (.astore j) 2 q) (hi : j < M.2.2.1) (hP' : ps1 P j (.ref x) = P') (h : Runs C M k n q P' S G Q) : Runs C M k n pc P (.ref x :: S) G Q := by
  have hq := d.2
  subst hq hP'
  refine Runs.pure d (fun p e s m args below meth c T locs L hw hx hown hZ hd hP hsz _ X => ?_) h
  obtain ⟨L', e1, e2, e3⟩ := hP.store1 (i := j) (v := .ref x) (by omega) rfl
  exact ⟨L', e3, e2.trans hsz, fun t r => XS.astore (g := mkF m pc L (.ref x :: S)) X.here hx rfl hd rfl rfl e1 r⟩
theorem Runs.lstoreN {j : Fin 4} {x : Int64} (d : DAt M pc (.lstore_n j) 1 q) (hi : j.val + 1 < M.2.2.1) (hP' : ps2 P j.val (.long x) = P') (h : Runs C M k n q P' S G Q) : Runs C M k n pc P (.long x :: S) G Q := by
  have hq := d.2
  subst hq hP'
  refine Runs.pure d (fun p e s m args below meth c T locs L hw hx hown hZ hd hP hsz _ X => ?_) h
  obtain ⟨L', e1, e2, e3⟩ := hP.store2 (i := j.val) (v := .long x) (by omega) rfl
  exact ⟨L', e3, e2.trans hsz, fun t r => XS.lstoreN (g := mkF m pc L (.long x :: S)) X.here hx rfl hd rfl e1 r⟩
theorem Runs.lstore {j : Nat} {x : Int64} (d : DAt M pc (.lstore j) 2 q) (hi : j + 1 < M.2.2.1) (hP' : ps2 P j (.long x) = P') (h : Runs C M k n q P' S G Q) : Runs C M k n pc P (.long x :: S) G Q := by
  have hq := d.2
  subst hq hP'
  refine Runs.pure d (fun p e s m args below meth c T locs L hw hx hown hZ hd hP hsz _ X => ?_) h
  obtain ⟨L', e1, e2, e3⟩ := hP.store2 (i := j) (v := .long x) (by omega) rfl
  exact ⟨L', e3, e2.trans hsz, fun t r => XS.lstore (g := mkF m pc L (.long x :: S)) X.here hx rfl hd rfl e1 r⟩
theorem Runs.iinc {j : Nat} {cst : Int} {x v : Int32} (d : DAt M pc (.iinc j cst) 3 q) (hv : Int32.ofInt cst = v) (hl : pget P j = vi x) (hi : j < M.2.2.1) (hP' : ps1 P j (.int (x + v)) = P') (h : Runs C M k n q P' S G Q) : Runs C M k n pc P S G Q := by
  have hq := d.2
  subst hq hP' hv
  refine Runs.pure d (fun p e s m args below meth c T locs L hw hx hown hZ hd hP hsz _ X => ?_) h
  obtain ⟨L', e1, e2, e3⟩ := hP.store1 (i := j) (v := .int (x + Int32.ofInt cst)) (by omega) rfl
  exact ⟨L', e3, e2.trans hsz, fun t r => XS.iinc (g := mkF m pc L S) X.here hx rfl hd (hP.1 _ _ hl) e1 r⟩
/-- less is known of the locals -/
def psub : Pat → Pat → Prop
  | [], _ => True
  | none :: l, _ :: l' => psub l l'
  | some s :: l, y :: l' => y = some s ∧ psub l l'
  | none :: l, [] => psub l []
  | some _ :: _, [] => False
theorem psub_get : ∀ (P P' : Pat), psub P P' → ∀ i s, pget P i = some s → pget P' i = some s
  | [], _, _, i, s, h => by simp [pget] at h
  | none :: l, _ :: l', H, 0, s, h => by simp [pget] at h
  | none :: l, _ :: l', H, i + 1, s, h => psub_get l l' H i s h
  | some x :: l, y :: l', H, 0, s, h => by rw [show y = some x from H.1]; exact h
  | some x :: l, y :: l', H, i + 1, s, h => psub_get l l' H.2 i s h
  | none :: l, [], H, 0, s, h => by simp [pget] at h
  | none :: l, [], H, i + 1, s, h => by have := psub_get l [] H i s h; simp [pget] at this
  | some _ :: _, [], H, _, _, _ => H.elim
theorem Runs.weak (hP : psub P' P) (h : Runs C M k n pc P' S G Q) : Runs C M k n pc P S G Q := by
  intro hw p e s m args below meth c T locs L hx hby hml hret hnm hown hZ hf
  exact h hw p e s m args below meth c T locs L hx hby hml hret hnm hown hZ ⟨fun i s hi => hf.1 i s (psub_get _ _ hP i s hi), hf.2⟩
theorem Runs.swap {top : Nat} {x y : Nat × Nat × Rec} {H : List (Nat × Nat × Rec)} (h : Runs C M k n pc P S (top, y :: x :: H) Q) : Runs C M k n pc P S (top, x :: y :: H) Q := by
  intro hw p e s m args below meth c T locs L hx hby hml hret hnm hown hZ hf hsz X hR hF
  exact h hw p e s m args below meth c T locs L hx hby hml hret hnm hown hZ hf hsz X hR.swap hF
end Rules
/- the steps that touch the heap -/
section Made
variable {p : Program} {l : Launch} {e : Env} {R : Room} {s : State} {m : MethodId} {args : Array Value} {below : List Frame} {meth : Method} {c : Code} {T : State} {locs : List Loc} {cells slots : Nat} {Z : State} {a0 : Array Value}
theorem ext_push (h : Heap) (x : Cell) : Ext h (h.push x) := ⟨by simp, fun a c q => by rw [Array.getElem?_push_lt (Array.getElem?_eq_some_iff.mp q).1]; exact (Array.getElem?_eq_getElem _).symm.trans q⟩
/-- 'new', with the heap's size behind it -/
theorem new1 (X : Stand p l e R s m args below meth c T locs cells slots) (hx : p.tables.exec = Jvm.exec) (hZ : Z.Warmed39 s.vm) {own C : String} {index n : Nat} (hown : s.vm.findClass own = some m.cls) (w : (Jvm.Cond.classLink own index C).before a0 Z = true) (wi : (Jvm.Cond.instantiable C n).before a0 Z = true) (wz : (Jvm.Cond.initialized C).before a0 Z = true)
    {g : JFrame} (hg : g.method = m) (hd : decode c.code g.pc = .ok (.new index, 3)) (hc : cells + 1 ≤ R.cells) (hl : slots + n ≤ R.slots) :
    ∃ T', Stand p l e R s m args below meth c T' locs (cells + 1) (slots + n) ∧ T'.heap.size = T.heap.size + 1 ∧ Ext T.heap T'.heap ∧ Exa Z T'.heap T.heap.size C ∧ (∀ {O nm d : String} {ty : FieldType}, Laid Z a0 C O nm d → parseFieldDescriptor d = some ty → Fld Z T'.heap T.heap.size O nm d (defaultValue ty)) ∧
      ∀ target, Steps p.tables e below (T'.setTop { g with pc := g.pc + 3, stack := .ref T.heap.size :: g.stack }) target → Steps p.tables e below (T.setTop g) target := by
  obtain ⟨vm', cC, kC, h1, h2, h3, h4, X', st⟩ := X.newCold hx hown (mv hZ w) (mv hZ wi) (mv hZ wz) hg hd hc hl
  rw [hZ.alike.findClass] at h1
  obtain ⟨kZ, z1, -⟩ := Vm.findClass_spec h1
  obtain ⟨k', z2, z3⟩ := hZ.alike.2.2 _ _ z1
  have ek : kC.instanceTypes = kZ.instanceTypes := by rw [Option.some.inj (h2.symm.trans z2), z3]
  obtain ⟨cell, hcell⟩ : ∃ cell : Cell, cell = { cls := cC, slots := kC.instanceTypes.map defaultValue, vm := .none } := ⟨_, rfl⟩
  rw [← hcell] at X' st
  have hp : ((T.setVm vm').pushCell cell).heap = T.heap.push cell := rfl
  have at' : (T.heap.push cell)[T.heap.size]? = some cell := by simp
  refine ⟨_, X', by rw [hp]; simp, by rw [hp]; exact ext_push _ _, ?_, fun {O nm d ty} L ht => ?_, st⟩
  · rw [hp]; exact ⟨cell, kZ, at', by rw [hcell]; exact h1, by rw [hcell]; exact z1, by rw [hcell]; rfl, fun _ => by rw [hcell]; simp [ek]⟩
  · rw [hp]
    obtain ⟨c1, k1, cf, kf, i, f, a1, a2, a3, a4, a5, a6, -⟩ := L.spec
    cases h1.symm.trans a1
    cases z1.symm.trans a2
    refine ⟨cell, cf, kf, i, f, at', a3, a4, by rw [hcell]; simp, by rw [hcell]; rfl, by rw [hcell]; exact a5, ?_⟩
    rw [hcell]; simp [ek, a6, (State.fieldFound?_type a3 ht).2]
theorem newArr1 (X : Stand p l e R s m args below meth c T locs cells slots) (hx : p.tables.exec = Jvm.exec) (hZ : Z.Warmed39 s.vm) {aty : ArrayType} (w : (Jvm.Cond.arrayClass (newarray.typeOf aty)).before a0 Z = true) {g : JFrame} (hg : g.method = m) (hd : decode c.code g.pc = .ok (.newarray aty, 2)) {n : Int32} {rest : List Value} (hs : g.stack = .int n :: rest)
    (hn : ¬ n < 0) (hb : n.toNatClampNeg * 8 ≤ 536870912) (hc : cells + 1 ≤ R.cells) (hl : slots + n.toNatClampNeg ≤ R.slots) :
    ∃ T' cA, Stand p l e R s m args below meth c T' locs (cells + 1) (slots + n.toNatClampNeg) ∧ T'.heap.size = T.heap.size + 1 ∧ Ext T.heap T'.heap ∧ Arr Z T'.heap T.heap.size (newA cA (newarray.typeOf aty) n) (newarray.typeOf aty) ∧
      ∀ target, Steps p.tables e below (T'.setTop { g with pc := g.pc + 2, stack := .ref T.heap.size :: rest }) target → Steps p.tables e below (T.setTop g) target := by
  have hcb : componentBytes (newarray.typeOf aty) ≤ 8 := by cases aty <;> decide
  obtain ⟨cA, kA, comp, h1, h2, h3, X', st⟩ := X.newarrayPrim hx (mvA hZ w) hg hd hs hn (Nat.le_trans (Nat.mul_le_mul_left _ hcb) hb) hc hl
  rw [hZ.alike.findClass] at h1
  obtain ⟨kZ, z1, -⟩ := Vm.findClass_spec h1
  obtain ⟨k', z2, z3⟩ := hZ.alike.2.2 _ _ z1
  have ek : kA.kind = kZ.kind := by rw [Option.some.inj (h2.symm.trans z2), z3]
  have hp : (T.pushCell (newA cA (newarray.typeOf aty) n)).heap = T.heap.push (newA cA (newarray.typeOf aty) n) := rfl
  refine ⟨T.pushCell (newA cA (newarray.typeOf aty) n), cA, X', by rw [hp]; simp, by rw [hp]; exact ext_push _ _, ?_, st⟩
  rw [hp]
  exact ⟨by simp, ⟨by simp [newA], kZ, z1, comp, by rw [← ek]; exact h3⟩, by simp [newA]⟩
end Made
section Heap
variable {C : Ctx} {M : Bdy} {k n pc q : Nat} {P P' : Pat} {S S' : List Value} {G : AH} {Q : Option Value → AH → Prop} {top : Nat} {a : Nat} {qq j idx : Nat} {ob : Rec} {H : List (Nat × Nat × Rec)} {nm ds : String}
theorem Runs.getI (d : DAt M pc (.getfield idx) 3 q) (w : Jvm.Cond.fieldLink M.1.cls idx K.1 nm ds ∈ tables_1) (hk : K.2.1[j]? = some (nm, ds)) (h : Runs C M k n q P (.int (gI ob j) :: S) (top, (a, qq, ob) :: H) Q) : Runs C M k n pc P (.ref a :: S) (top, (a, qq, ob) :: H) Q := by
  intro hw p e s m args below meth c T locs L hx hby hml hret hnm hown hZ hf hsz X hR hF
  have hq := d.2
  subst hq
  obtain ⟨T1, X1, e1, st1⟩ := getF X hx hZ hown (host := "") (Or.inl (hw _ w)) Via.refl rfl (hR.objs.2.2.2.1 j _ hk) (g := mkF m pc L (.ref a :: S)) rfl rfl (hb hby d.1)
  obtain ⟨T', locs', k', n', r, G', g1, g2, g3, g4, g5, g6, g7, g8⟩ := h hw p e s m args below meth c T1 locs L hx hby hml hret hnm hown hZ hf hsz X1 (by rw [e1]; exact hR) hF
  exact ⟨T', locs', k', n', r, G', g1, g2, g3, g4, g5, g6, g7, fun fs hr => st1 _ (g8 fs hr)⟩
theorem Runs.getA {ty : FieldType} {len : Int32} (d : DAt M pc (.getfield idx) 3 q) (hk : K.2.2[j]? = some (nm, ty, len)) (w : Jvm.Cond.fieldLink M.1.cls idx K.1 nm (aD ty) ∈ tables_1) (hq : j < qq) (h : Runs C M k n q P (.ref (a + 1 + j) :: S) (top, (a, qq, ob) :: H) Q) : Runs C M k n pc P (.ref a :: S) (top, (a, qq, ob) :: H) Q := by
  intro hw p e s m args below meth c T locs L hx hby hml hret hnm hown hZ hf hsz X hR hF
  have hqq := d.2
  subst hqq
  obtain ⟨T1, X1, e1, st1⟩ := getF X hx hZ hown (host := "") (Or.inl (hw _ w)) Via.refl rfl (hR.objs.2.2.2.2.1 j _ hk hq).1 (g := mkF m pc L (.ref a :: S)) rfl rfl (hb hby d.1)
  obtain ⟨T', locs', k', n', r, G', g1, g2, g3, g4, g5, g6, g7, g8⟩ := h hw p e s m args below meth c T1 locs L hx hby hml hret hnm hown hZ hf hsz X1 (by rw [e1]; exact hR) hF
  exact ⟨T', locs', k', n', r, G', g1, g2, g3, g4, g5, g6, g7, fun fs hr => st1 _ (g8 fs hr)⟩
theorem lw_of {Z : State} {a0 : Array Value} {meth : Method} (hw : ∀ d ∈ tables_1, d.before a0 Z = true) {C O n d own : String} (h : Jvm.Cond.lays C O n d ∈ tables_1 ∨ Jvm.Cond.laysFinal C O n d ∈ tables_1) (hc : Jvm.Cond.lays C O n d ∈ tables_1 ∨ (own = O ∧ meth.name = "<init>")) : (Jvm.Cond.lays C O n d).before a0 Z = true ∨ ((Jvm.Cond.laysFinal C O n d).before a0 Z = true ∧ own = O ∧ meth.name = "<init>") := by
  rcases hc with hc | hc
  · exact Or.inl (hw _ hc)
  · exact h.imp (hw _) (fun u => ⟨hw _ u, hc⟩)
/-- a field that may be written here: not final, or in a constructor of its class -/
def Mine (M : Bdy) (nm ds : String) : Prop := Jvm.Cond.lays K.1 K.1 nm ds ∈ tables_1 ∨ (M.1.cls = K.1 ∧ M.1.name = "<init>")
theorem Runs.putI {x : Int32} (d : DAt M pc (.putfield idx) 3 q) (w : Jvm.Cond.fieldLink M.1.cls idx K.1 nm "I" ∈ tables_1) (hk : K.2.1[j]? = some (nm, "I")) (hm : Mine M nm "I") (h : Runs C M k n q P S (top, (a, qq, sI ob j x) :: H) Q) : Runs C M k n pc P (.int x :: .ref a :: S) (top, (a, qq, ob) :: H) Q := by
  intro hw p e s m args below meth c T locs L hx hby hml hret hnm hown hZ hf hsz X hR hF
  have hqq := d.2
  subst hqq
  obtain ⟨T1, h1, X1, e1, W1, st1⟩ := putF X hx hZ hown (host := "") (Or.inl (hw _ w)) Via.refl rfl (hR.objs.2.2.2.1 j _ hk) hR.objs.2.2.1 (lw_of hw ((All.mem kS (List.mem_of_getElem? hk)).1) (hm.imp id (fun u => ⟨u.1, hnm.trans u.2⟩))) (hw _ kI) (ty := .int) (by decide) rfl rfl (g := mkF m pc L (.int x :: .ref a :: S)) rfl rfl (hb hby d.1)
  obtain ⟨T', locs', k', n', r, G', g1, g2, g3, g4, g5, g6, g7, g8⟩ := h hw p e s m args below meth c T1 _ L hx hby hml hret hnm hown hZ hf hsz X1 (by rw [e1]; exact hR.putI hw hk W1) (Fr.snoc X1 hF hR.objs.1)
  exact ⟨T', locs', k', n', r, G', g1, g2, g3, g4, g5, g6, g7, fun fs hr => st1 _ (g8 fs hr)⟩
theorem Runs.putZ {x y : Int32} (d : DAt M pc (.putfield idx) 3 q) (w : Jvm.Cond.fieldLink M.1.cls idx K.1 nm "Z" ∈ tables_1) (hk : K.2.1[j]? = some (nm, "Z")) (hm : Mine M nm "Z") (hy : nar .boolean x = y) (h : Runs C M k n q P S (top, (a, qq, sI ob j y) :: H) Q) : Runs C M k n pc P (.int x :: .ref a :: S) (top, (a, qq, ob) :: H) Q := by
  subst hy
  intro hw p e s m args below meth c T locs L hx hby hml hret hnm hown hZ hf hsz X hR hF
  have hqq := d.2
  subst hqq
  obtain ⟨T1, h1, X1, e1, W1, st1⟩ := putFN X hx hZ hown (hw _ w) Via.refl rfl (hR.objs.2.2.2.1 j _ hk) hR.objs.2.2.1 (lw_of hw ((All.mem kS (List.mem_of_getElem? hk)).1) (hm.imp id (fun u => ⟨u.1, hnm.trans u.2⟩))) (hw _ kI) (ty := .boolean) (v' := .int (nar .boolean x)) (by decide) rfl (fits_nar_bool _) (g := mkF m pc L (.int x :: .ref a :: S)) rfl rfl (hb hby d.1)
  obtain ⟨T', locs', k', n', r, G', g1, g2, g3, g4, g5, g6, g7, g8⟩ := h hw p e s m args below meth c T1 _ L hx hby hml hret hnm hown hZ hf hsz X1 (by rw [e1]; exact hR.putI hw hk W1) (Fr.snoc X1 hF hR.objs.1)
  exact ⟨T', locs', k', n', r, G', g1, g2, g3, g4, g5, g6, g7, fun fs hr => st1 _ (g8 fs hr)⟩
theorem Runs.ialoadA {i len : Int32} (d : DAt M pc .iaload 1 q) (hk : K.2.2[j]? = some (nm, .int, len)) (hq : j < qq) (hi : ¬ i < 0 ∧ i < len) (h : Runs C M k n q P (.int (gA ob j i) :: S) (top, (a, qq, ob) :: H) Q) : Runs C M k n pc P (.int i :: .ref (a + 1 + j) :: S) (top, (a, qq, ob) :: H) Q := by
  have hqq := d.2
  subst hqq
  refine Runs.pure d (fun p e s m args below meth c T locs L hw hx hown hZ hd hP hsz hR X => ⟨L, hP, hsz, fun t r => ?_⟩) h
  obtain ⟨cl, A, Sz, V⟩ := (hR.objs.2.2.2.2.1 j _ hk hq).2
  exact X.iaload hx (j := i) (v := .int (gA ob j i)) A.1 (State.isArrayOf_alike hZ.alike A.2.1) A.2.2 (inb_of Sz hi) (V i hi.1 hi.2) (g := mkF m pc L (.int i :: .ref (a + 1 + j) :: S)) rfl rfl hd _ r
theorem Runs.baloadA {i len : Int32} (d : DAt M pc .baload 1 q) (hk : K.2.2[j]? = some (nm, .boolean, len)) (hq : j < qq) (hi : ¬ i < 0 ∧ i < len) (h : Runs C M k n q P (.int (gA ob j i) :: S) (top, (a, qq, ob) :: H) Q) : Runs C M k n pc P (.int i :: .ref (a + 1 + j) :: S) (top, (a, qq, ob) :: H) Q := by
  have hqq := d.2
  subst hqq
  refine Runs.pure d (fun p e s m args below meth c T locs L hw hx hown hZ hd hP hsz hR X => ⟨L, hP, hsz, fun t r => ?_⟩) h
  obtain ⟨cl, A, Sz, V⟩ := (hR.objs.2.2.2.2.1 j _ hk hq).2
  exact X.baloadBooleans hx (j := i) (v := .int (gA ob j i)) A.1 (State.isArrayOf_alike hZ.alike A.2.1) A.2.2 (inb_of Sz hi) (V i hi.1 hi.2) (g := mkF m pc L (.int i :: .ref (a + 1 + j) :: S)) rfl rfl hd _ r
theorem Runs.laloadA {i len : Int32} (d : DAt M pc .laload 1 q) (hk : K.2.2[j]? = some (nm, .long, len)) (hq : j < qq) (hi : ¬ i < 0 ∧ i < len) (h : Runs C M k n q P (.long (gJ ob j i) :: S) (top, (a, qq, ob) :: H) Q) : Runs C M k n pc P (.int i :: .ref (a + 1 + j) :: S) (top, (a, qq, ob) :: H) Q := by
  have hqq := d.2
  subst hqq
  refine Runs.pure d (fun p e s m args below meth c T locs L hw hx hown hZ hd hP hsz hR X => ⟨L, hP, hsz, fun t r => ?_⟩) h
  obtain ⟨cl, A, Sz, V⟩ := (hR.objs.2.2.2.2.1 j _ hk hq).2
  exact X.laload hx (j := i) (v := .long (gJ ob j i)) A.1 (State.isArrayOf_alike hZ.alike A.2.1) A.2.2 (inb_of Sz hi) (V i hi.1 hi.2) (g := mkF m pc L (.int i :: .ref (a + 1 + j) :: S)) rfl rfl hd _ r
theorem Runs.iastoreA {i x len : Int32} (d : DAt M pc .iastore 1 q) (hk : K.2.2[j]? = some (nm, .int, len)) (hq : j < qq) (hi : ¬ i < 0 ∧ i < len) (h : Runs C M k n q P S (top, (a, qq, sA ob j i x) :: H) Q) : Runs C M k n pc P (.int x :: .int i :: .ref (a + 1 + j) :: S) (top, (a, qq, ob) :: H) Q := by
  intro hw p e s m args below meth c T locs L hx hby hml hret hnm hown hZ hf hsz X hR hF
  have hqq := d.2
  subst hqq
  obtain ⟨cl, A, Sz, V⟩ := (hR.objs.2.2.2.2.1 j _ hk hq).2
  obtain ⟨T1, h1, X1, e1, W1, st1⟩ := stI X hx hZ rfl A (j := i) (x := x) (inb_of Sz hi) (g := mkF m pc L (.int x :: .int i :: .ref (a + 1 + j) :: S)) rfl rfl (hb hby d.1)
  obtain ⟨T', locs', k', n', r, G', g1, g2, g3, g4, g5, g6, g7, g8⟩ := h hw p e s m args below meth c T1 _ L hx hby hml hret hnm hown hZ hf hsz X1 (by rw [e1]; exact hR.putA hk hq (by simp) hi W1) (Fr.snoc X1 hF (by have := hR.objs.1; omega))
  exact ⟨T', locs', k', n', r, G', g1, g2, g3, g4, g5, g6, g7, fun fs hr => st1 _ (g8 fs hr)⟩
theorem Runs.bastoreA {i x len : Int32} (d : DAt M pc .bastore 1 q) (hk : K.2.2[j]? = some (nm, .boolean, len)) (hq : j < qq) (hi : ¬ i < 0 ∧ i < len) {y : Int32} (hy : nar .boolean x = y) (h : Runs C M k n q P S (top, (a, qq, sA ob j i y) :: H) Q) : Runs C M k n pc P (.int x :: .int i :: .ref (a + 1 + j) :: S) (top, (a, qq, ob) :: H) Q := by
  subst hy
  intro hw p e s m args below meth c T locs L hx hby hml hret hnm hown hZ hf hsz X hR hF
  have hqq := d.2
  subst hqq
  obtain ⟨cl, A, Sz, V⟩ := (hR.objs.2.2.2.2.1 j _ hk hq).2
  obtain ⟨T1, h1, X1, e1, W1, st1⟩ := stZ X hx hZ rfl A (j := i) (x := x) (inb_of Sz hi) (g := mkF m pc L (.int x :: .int i :: .ref (a + 1 + j) :: S)) rfl rfl (hb hby d.1)
  obtain ⟨T', locs', k', n', r, G', g1, g2, g3, g4, g5, g6, g7, g8⟩ := h hw p e s m args below meth c T1 _ L hx hby hml hret hnm hown hZ hf hsz X1 (by rw [e1]; exact hR.putA hk hq (by simp) hi W1) (Fr.snoc X1 hF (by have := hR.objs.1; omega))
  exact ⟨T', locs', k', n', r, G', g1, g2, g3, g4, g5, g6, g7, fun fs hr => st1 _ (g8 fs hr)⟩
theorem Runs.lastoreA {i len : Int32} {x : Int64} (d : DAt M pc .lastore 1 q) (hk : K.2.2[j]? = some (nm, .long, len)) (hq : j < qq) (hi : ¬ i < 0 ∧ i < len) (h : Runs C M k n q P S (top, (a, qq, sJ ob j i x) :: H) Q) : Runs C M k n pc P (.long x :: .int i :: .ref (a + 1 + j) :: S) (top, (a, qq, ob) :: H) Q := by
  intro hw p e s m args below meth c T locs L hx hby hml hret hnm hown hZ hf hsz X hR hF
  have hqq := d.2
  subst hqq
  obtain ⟨cl, A, Sz, V⟩ := (hR.objs.2.2.2.2.1 j _ hk hq).2
  obtain ⟨T1, h1, X1, e1, W1, st1⟩ := stJ X hx hZ rfl A (j := i) (x := x) (inb_of Sz hi) (g := mkF m pc L (.long x :: .int i :: .ref (a + 1 + j) :: S)) rfl rfl (hb hby d.1)
  obtain ⟨T', locs', k', n', r, G', g1, g2, g3, g4, g5, g6, g7, g8⟩ := h hw p e s m args below meth c T1 _ L hx hby hml hret hnm hown hZ hf hsz X1 (by rw [e1]; exact hR.putJ hk hq rfl hi W1) (Fr.snoc X1 hF (by have := hR.objs.1; omega))
  exact ⟨T', locs', k', n', r, G', g1, g2, g3, g4, g5, g6, g7, fun fs hr => st1 _ (g8 fs hr)⟩
/-- the script: an array that stood before the law began -/
def ScrF (C : Ctx) (sa : Nat) (z : Int32) (f : Int32 → Int32) : Prop := ∃ cl : Cell, Scr C.2.1 C.2.1.heap sa cl z ∧ f = atv cl
theorem Runs.lenS {sa : Nat} {z : Int32} {f : Int32 → Int32} (hs : ScrF C sa z f) (d : DAt M pc .arraylength 1 q) (h : Runs C M k n q P (.int z :: S) G Q) : Runs C M k n pc P (.ref sa :: S) G Q := by
  have hqq := d.2
  subst hqq
  refine Runs.pure d (fun p e s m args below meth c T locs L hw hx hown hZ hd hP hsz hR X => ⟨L, hP, hsz, fun t r => ?_⟩) h
  obtain ⟨cl, F, -⟩ := hs
  obtain ⟨A, Sz, N, V⟩ := F.ext hR.2.1.2
  exact X.arraylength hx A.1 (State.isArrayOf_alike hZ.alike A.2.1) (g := mkF m pc L (.ref sa :: S)) rfl rfl hd _ (by rw [len_of Sz N]; exact r)
theorem Runs.ialoadS {sa : Nat} {z i : Int32} {f : Int32 → Int32} (hs : ScrF C sa z f) (d : DAt M pc .iaload 1 q) (hi : ¬ i < 0 ∧ i < z) (h : Runs C M k n q P (.int (f i) :: S) G Q) : Runs C M k n pc P (.int i :: .ref sa :: S) G Q := by
  have hqq := d.2
  subst hqq
  refine Runs.pure d (fun p e s m args below meth c T locs L hw hx hown hZ hd hP hsz hR X => ⟨L, hP, hsz, fun t r => ?_⟩) h
  obtain ⟨cl, F, rfl⟩ := hs
  obtain ⟨A, Sz, N, V⟩ := F.ext hR.2.1.2
  exact X.iaload hx (j := i) (v := .int (atv cl i)) A.1 (State.isArrayOf_alike hZ.alike A.2.1) A.2.2 (inb_of Sz hi) (V i (inb_of Sz hi)) (g := mkF m pc L (.int i :: .ref sa :: S)) rfl rfl hd _ r
/- leaving -/
theorem Runs.retI {v : Int32} (d : DAt M pc .ireturn 1 q) (hret : M.2.2.2.1 = some .int) (hk : k ≤ M.2.2.2.2.cells ∧ n ≤ M.2.2.2.2.slots) (hQ : Q (some (.int v)) G) : Runs C M k n pc P (.int v :: S) G Q := by
  intro hw p e s m args below meth c T locs L hx hby hml hr0 hnm hown hZ hf hsz X hR hF
  exact ⟨T, locs, k, n, _, G, X, hk.1, hk.2, hR, hF, hQ, (fun u => by rw [hret] at u; cases u), fun fs hr => Jvm.RoadKit.retI X hx (hr0.trans hret) (hb hby d.1) hr⟩
theorem Runs.retZ {v : Int32} (d : DAt M pc .ireturn 1 q) (hret : M.2.2.2.1 = some .boolean) (hk : k ≤ M.2.2.2.2.cells ∧ n ≤ M.2.2.2.2.slots) {y : Int32} (hy : nar .boolean v = y) (hQ : Q (some (.int y)) G) : Runs C M k n pc P (.int v :: S) G Q := by
  subst hy
  intro hw p e s m args below meth c T locs L hx hby hml hr0 hnm hown hZ hf hsz X hR hF
  exact ⟨T, locs, k, n, _, G, X, hk.1, hk.2, hR, hF, hQ, (fun u => by rw [hret] at u; cases u), fun fs hr => retN X hx (t := .boolean) (hr0.trans hret) (by simp) (hb hby d.1) hr⟩
theorem Runs.retJ {v : Int64} (d : DAt M pc .lreturn 1 q) (hret : M.2.2.2.1 = some .long) (hk : k ≤ M.2.2.2.2.cells ∧ n ≤ M.2.2.2.2.slots) (hQ : Q (some (.long v)) G) : Runs C M k n pc P (.long v :: []) G Q := by
  intro hw p e s m args below meth c T locs L hx hby hml hr0 hnm hown hZ hf hsz X hR hF
  exact ⟨T, locs, k, n, _, G, X, hk.1, hk.2, hR, hF, hQ, (fun u => by rw [hret] at u; cases u), fun fs hr => X.lreturnOut hx (hr0.trans hret) (hb hby d.1) hr⟩
theorem Runs.retV (d : DAt M pc .return_ 1 q) (hret : M.2.2.2.1 = none) (hk : k ≤ M.2.2.2.2.cells ∧ n ≤ M.2.2.2.2.slots) (hQ : Q none G) : Runs C M k n pc P [] G Q := by
  intro hw p e s m args below meth c T locs L hx hby hml hr0 hnm hown hZ hf hsz X hR hF
  exact ⟨T, locs, k, n, _, G, X, hk.1, hk.2, hR, hF, hQ, (fun _ => rfl), fun fs hr => X.returnOut hx (hr0.trans hret) (hb hby d.1) hr⟩
/- a new object, and the arrays that its constructor makes -/
theorem Runs.newK (d : DAt M pc (.new idx) 3 q) (w : Jvm.Cond.classLink M.1.cls idx K.1 ∈ tables_1) (hc : k + 1 ≤ M.2.2.2.2.cells ∧ n + kN ≤ M.2.2.2.2.slots) {k' n' : Nat} (hk' : k + 1 = k') (hn' : n + kN = n') {H : List (Nat × Nat × Rec)} (hd : ∀ x ∈ H, x.1 + x.2.1 < top) (h : Runs C M k' n' q P (.ref top :: S) (top + 1, (top, 0, zrec) :: H) Q) : Runs C M k n pc P S (top, H) Q := by
  subst hk' hn'
  intro hw p e s m args below meth c T locs L hx hby hml hr0 hnm hown hZ hf hsz X hR hF
  have hqq := d.2
  subst hqq
  obtain ⟨T2, X2, s2, E2, A2, D2, st2⟩ := new1 X hx hZ hown (hw _ w) (hw _ kI) (hw _ kZ) (g := mkF m pc L S) rfl (hb hby d.1) hc.1 hc.2
  have hs : T.heap.size = top := hR.1
  rw [hs] at A2 D2 st2 s2
  have hR2 : Rep C.2.1 C.2.2.1 T2.heap (top + 1, (top, 0, zrec) :: H) := by
    refine ⟨s2, hR.2.1.ext E2, fun x hx' => ?_, ?_⟩
    · rcases List.mem_cons.mp hx' with rfl | hx'
      · refine ⟨?_, by simp, A2, fun k nd hk => ?_, fun k t hk hq => by simp at hq, fun k t hk hq => ?_⟩
        · have := hR.2.1.2.1; rw [hR.2.1.1] at this; simp only; omega
        · rcases (All.mem kS (List.mem_of_getElem? hk)).2 with e | e
          · have := D2 (laidS hw hk) (ty := .int) (by rw [e]; decide); exact this
          · have := D2 (laidS hw hk) (ty := .boolean) (by rw [e]; decide); exact this
        · have := D2 (laidA hw hk) (pfA hk); exact this
      · obtain ⟨p1, p2, p3⟩ := hR.2.2.1 x hx'
        exact ⟨p1, by simp only at p2 ⊢; omega, p3.ext E2⟩
    · exact List.pairwise_cons.mpr ⟨fun y hy => Or.inr (hd y hy), hR.2.2.2⟩
  obtain ⟨T', locs', k', n', r, G', g1, g2, g3, g4, g5, g6, g7, g8⟩ := h hw p e s m args below meth c T2 _ L hx hby hml hr0 hnm hown hZ hf hsz X2 hR2 hF
  exact ⟨T', locs', k', n', r, G', g1, g2, g3, g4, g5, g6, g7, fun fs hr => st2 _ (g8 fs hr)⟩
/-- newarray and the putfield behind it: the next array of an object that is being made -/
theorem Runs.newArr {aty : ArrayType} {ty : FieldType} {len : Int32} {q1 : Nat} (d : DAt M pc (.newarray aty) 2 q1) (d' : DAt M q1 (.putfield idx) 3 q) (hk : K.2.2[j]? = some (nm, ty, len)) (w : Jvm.Cond.fieldLink M.1.cls idx K.1 nm (aD ty) ∈ tables_1) (ht : newarray.typeOf aty = ty) (wa : Jvm.Cond.arrayClass ty ∈ tables_1) (hm : Mine M nm (aD ty))
    (htop : top = a + 1 + j) (hlen : ¬ len < 0 ∧ len.toNatClampNeg * 8 ≤ 536870912) (hc : k + 1 ≤ M.2.2.2.2.cells ∧ n + len.toNatClampNeg ≤ M.2.2.2.2.slots) (hz : (∀ i, ob.2.1 j i = 0) ∧ (∀ i, ob.2.2 j i = 0)) {j' top' k' n' : Nat} (hj' : j + 1 = j') (ht' : top + 1 = top') (hk' : k + 1 = k') (hn' : n + len.toNatClampNeg = n')
    (h : Runs C M k' n' q P S (top', (a, j', ob) :: H) Q) : Runs C M k n pc P (.int len :: .ref a :: S) (top, (a, j, ob) :: H) Q := by
  subst hj' ht' hk' hn'
  intro hw p e s m args below meth c T locs L hx hby hml hr0 hnm hown hZ hf hsz X hR hF
  have hqq := d.2
  have hqq' := d'.2
  subst hqq hqq' ht
  obtain ⟨T1, cA, X1, s1, E1, A1, st1⟩ := newArr1 X hx hZ (hw _ wa) (g := mkF m pc L (.int len :: .ref a :: S)) rfl (hb hby d.1) rfl hlen.1 hlen.2 hc.1 hc.2
  have hs : T.heap.size = top := hR.1
  rw [hs] at A1 st1 s1
  have O1 := hR.objs.2.2.ext E1
  obtain ⟨T2, h2, X2, e2, W2, st2⟩ := putF X1 hx hZ hown (host := "") (Or.inl (hw _ w)) Via.refl rfl (O1.2.2.2 j _ hk (Nat.le_refl _)) O1.1 (lw_of hw ((All.mem kA (List.mem_of_getElem? hk)).1) (hm.imp id (fun u => ⟨u.1, hnm.trans u.2⟩))) (hw _ kI) (ty := .array (newarray.typeOf aty)) (pfA hk) rfl rfl (g := mkF m (pc + 2) L (.ref top :: .ref a :: S)) rfl rfl (hb hby d'.1)
  have hts : (newarray.typeOf aty = .int ∨ newarray.typeOf aty = .boolean ∨ newarray.typeOf aty = .long) := (All.mem kA (List.mem_of_getElem? hk)).2.1
  have hA := arr_new A1 hts hz
  have hR2 : Rep C.2.1 C.2.2.1 T2.heap (top + 1, (a, j + 1, ob) :: H) := by rw [e2]; exact hR.addA hw E1 s1 htop hk hA W2
  obtain ⟨T', locs', k', n', r, G', g1, g2, g3, g4, g5, g6, g7, g8⟩ := h hw p e s m args below meth c T2 _ L hx hby hml hr0 hnm hown hZ hf hsz X2 hR2 (Fr.snoc X2 hF hR.objs.1)
  exact ⟨T', locs', k', n', r, G', g1, g2, g3, g4, g5, g6, g7, fun fs hr => st1 _ (st2 _ (g8 fs hr))⟩
theorem Runs.initO {W : Nat} (d : DAt M pc (.invokespecial idx) 3 q) (w1 : Jvm.Cond.methodLink M.1.cls idx Lib.objectInit ∈ tables_1) (w2 : Jvm.Cond.instanceMethod Lib.objectInit ∈ tables_1) (w3 : Jvm.Cond.code Lib.objectInit ⟨#[0xb1]⟩ 1 none ∈ tables_1) (hW : (S.map fun v => v.category).sum = W) (hc : 1 ≤ M.2.2.2.2.frames ∧ W + 12 ≤ M.2.2.2.2.locals) (h : Runs C M k n q P S G Q) : Runs C M k n pc P (.ref a :: S) G Q := by
  intro hw p e s m args below meth c T locs L hx hby hml hr0 hnm hown hZ hf hsz X hR hF
  have hqq := d.2
  subst hqq
  obtain ⟨T1, X1, e1, st1⟩ := Jvm.RoadKit.initO X hx hZ hown (hw _ w1) (hw _ w2) (hw _ w3) rfl (g := mkF m pc L (.ref a :: S)) rfl (by rw [hml]; exact hsz) rfl (hb hby d.1) hc.1 (W := W) (by show 2 * 0 + _ ≤ _; omega) hc.2
  obtain ⟨T', locs', k', n', r, G', g1, g2, g3, g4, g5, g6, g7, g8⟩ := h hw p e s m args below meth c T1 _ L hx hby hml hr0 hnm hown hZ hf hsz X1 (by rw [e1]; exact hR) hF
  exact ⟨T', locs', k', n', r, G', g1, g2, g3, g4, g5, g6, g7, fun fs hr => st1 _ (g8 fs hr)⟩
end Heap
/- a body's contract, and the calls that are paid by one -/
def Pays (C : Ctx) (N : Bdy) (as : List Value) (G : AH) (Q : Option Value → AH → Prop) : Prop :=
  Ok C → ∀ h0 : Heap, Rep C.2.1 C.2.2.1 h0 G → ∀ ws : List Jvm.Cond, MetFree C.1 N.1 (head1 (Jvm.Cond.code N.1 N.2.1 N.2.2.1 N.2.2.2.1 :: ws) N.2.2.2.2) (fun a U => a = as.toArray ∧ C.2.1.Warmed39 U.vm ∧ U.heap = h0) (fun _ _ _ _ _ => True)
    (fun _ U o U' => ∃ v L, o = .returned v ∧ (Fr C.2.2.1 L ∧ ∃ G', Rep C.2.1 C.2.2.1 U'.heap G' ∧ Q v G') ∧ FrameEnd U o U' L N.2.2.2.2.cells N.2.2.2.2.slots)
def lay : List Value → List Slot
  | [] => []
  | v :: l => if v.category = 2 then .val v :: .second :: lay l else .val v :: lay l
theorem lay_foldl (l : List Value) : ∀ acc : Array Slot, (l.foldl (fun acc v => if v.category = 2 then (acc.push (.val v)).push .second else acc.push (.val v)) acc).toList = acc.toList ++ lay l := by
  induction l with
  | nil => intro acc; simp [lay]
  | cons v l ih =>
    intro acc
    rw [List.foldl_cons, ih]
    by_cases h : v.category = 2 <;> simp [lay, h]
theorem args_lay (as : List Value) (ml : Nat) : argsToLocals as.toArray ml = (lay as ++ List.replicate (ml - (lay as).length) Slot.unset).toArray := by
  have h := lay_foldl as #[]
  apply Array.ext'
  simp only [argsToLocals, Array.toList_append, List.toList_toArray] at *
  rw [show (as.toArray.foldl (init := #[]) fun acc v => if v.category = 2 then (acc.push (Slot.val v)).push .second else acc.push (.val v)).toList = lay as by simpa using h]
  congr 1
  rw [← Array.length_toList, show (as.toArray.foldl (init := #[]) fun acc v => if v.category = 2 then (acc.push (Slot.val v)).push .second else acc.push (.val v)).toList = lay as by simpa using h]
  simp
def WFL (l : List Slot) : Prop := (∀ i : Nat, l[i]? = some .second → ∃ (j : Nat) (v : Value), i = j + 1 ∧ l[j]? = some (.val v) ∧ v.category = 2) ∧ (∀ (i : Nat) (v : Value), l[i]? = some (.val v) → v.category = 2 → l[i + 1]? = some .second)
theorem WFL.unset (n : Nat) : WFL (List.replicate n Slot.unset) := by
  refine ⟨fun i h => ?_, fun i v h => ?_⟩ <;> (rw [List.getElem?_replicate] at h; split at h <;> cases h)
theorem WFL.one {l : List Slot} {v : Value} (h : WFL l) (hv : v.category ≠ 2) : WFL (.val v :: l) := by
  refine ⟨fun i hi => ?_, fun i w hi hw => ?_⟩
  · cases i with
    | zero => simp at hi
    | succ i =>
      obtain ⟨j, w, e1, e2, e3⟩ := h.1 i (by simpa using hi)
      exact ⟨j + 1, w, by omega, by simpa using e2, e3⟩
  · cases i with
    | zero => simp at hi; subst hi; exact absurd hw hv
    | succ i => have := h.2 i w (by simpa using hi) hw; simpa using this
theorem WFL.two {l : List Slot} {v : Value} (h : WFL l) (hv : v.category = 2) : WFL (.val v :: .second :: l) := by
  refine ⟨fun i hi => ?_, fun i w hi hw => ?_⟩
  · match i, hi with
    | 0, hi => simp at hi
    | 1, hi => exact ⟨0, v, rfl, by simp, hv⟩
    | i + 2, hi =>
      obtain ⟨j, w, e1, e2, e3⟩ := h.1 i (by simpa using hi)
      exact ⟨j + 2, w, by omega, by simpa using e2, e3⟩
  · match i, hi with
    | 0, hi => simp
    | 1, hi => simp at hi
    | i + 2, hi => have := h.2 i w (by simpa using hi) hw; simpa using this
theorem WFL.lay (as : List Value) (n : Nat) : WFL (lay as ++ List.replicate n Slot.unset) := by
  induction as with
  | nil => exact WFL.unset n
  | cons v l ih =>
    by_cases h : v.category = 2
    · simpa [Jvm.Pilot.@@N@@.lay, h] using ih.two h
    · simpa [Jvm.Pilot.@@N@@.lay, h] using ih.one h
def pforget : List Bool → Pat → Pat
  | [], _ => []
  | _, [] => []
  | true :: ms, x :: l => x :: pforget ms l
  | false :: ms, _ :: l => none :: pforget ms l
theorem pforget_get : ∀ (ms : List Bool) (P : Pat) (i : Nat) (s : Slot), pget (pforget ms P) i = some s → pget P i = some s
  | [], _, i, s, h => by simp [pforget, pget] at h
  | _ :: _, [], i, s, h => by simp [pforget, pget] at h
  | true :: ms, x :: l, 0, s, h => h
  | true :: ms, x :: l, i + 1, s, h => pforget_get ms l i s h
  | false :: ms, x :: l, 0, s, h => by simp [pforget, pget] at h
  | false :: ms, x :: l, i + 1, s, h => pforget_get ms l i s h
section Calls
variable {C : Ctx} {M N : Bdy} {k n pc q : Nat} {P P' : Pat} {S S' : List Value} {G G1 : AH} {Q : Option Value → AH → Prop} {top : Nat} {a : Nat} {qq j idx W : Nat} {ob : Rec} {H : List (Nat × Nat × Rec)} {as : List Value}
theorem Runs.forget (ms : List Bool) (hP : pforget ms P = P') (h : Runs C M k n pc P' S G Q) : Runs C M k n pc P S G Q := by
  intro hw p e s m args below meth c T locs L hx hby hml hret hnm hown hZ hf
  subst hP
  exact h hw p e s m args below meth c T locs L hx hby hml hret hnm hown hZ ⟨fun i s hi => hf.1 i s (pforget_get _ _ i s hi), hf.2⟩
theorem Pays.of (hpl : plainName N.1.cls = true) (hml : (lay as).length ≤ N.2.2.1) (x : Nat) (hP : (lay as).map some ++ List.replicate x none = P) (h : Runs C N 0 0 0 P [] G Q) : Pays C N as G Q := by
  intro hw h0 hR ws
  refine MetFree.of_bodySF (plainFor_of_name hpl) hisR ?_
  intro p e s m args below meth c s₁ Bd hml0 hp hK
  obtain ⟨rfl, hZ, hh⟩ := hp
  have X0 : Stand p C.1 e N.2.2.2.2 s m as.toArray below meth c s₁ [] 0 0 := Stand.of_body Bd
  have e0 : s₁.heap = h0 := by rw [← hh, Bd.state]; rfl
  obtain ⟨L, hL⟩ : ∃ L : Array Slot, L = (lay as ++ List.replicate (N.2.2.1 - (lay as).length) Slot.unset).toArray := ⟨_, rfl⟩
  have hfit : Fits P L := by
    subst hP hL
    refine ⟨fun i s hi => ?_, ?_⟩
    · rw [pget_eq] at hi
      cases hq : (lay as)[i]? with
      | none =>
        rw [List.getElem?_append_right (by simpa using hq), List.getElem?_replicate] at hi
        split at hi <;> simp at hi
      | some y =>
        have hlt := (List.getElem?_eq_some_iff.mp hq).1
        rw [List.getElem?_append_left (by simpa using hlt), List.getElem?_map, hq] at hi
        have this : y = s := by simpa using hi
        simp only [List.getElem?_toArray]
        rw [List.getElem?_append_left hlt, hq, this]
    · have := WFL.lay as (N.2.2.1 - (lay as).length)
      refine ⟨fun i hi => ?_, fun i v hi hv => ?_⟩
      · rw [List.getElem?_toArray] at hi
        obtain ⟨j, v, e1, e2, e3⟩ := this.1 i hi
        exact ⟨j, v, e1, by rw [List.getElem?_toArray]; exact e2, e3⟩
      · rw [List.getElem?_toArray] at hi ⊢
        exact this.2 i v hi hv
  obtain ⟨T', locs', k', n', r, G', g1, g2, g3, g4, g5, g6, g7, g8⟩ := h hw p e s m as.toArray below meth c s₁ [] L Bd.exec Bd.bytes hml0 Bd.returns (name_of_methodNamed Bd.named Bd.method).1 (findClass_of_methodNamed Bd.named) hZ hfit (by rw [hL]; simp; omega) X0 (by rw [e0]; exact hR) (Fr.nil _)
  obtain ⟨fs, hr, hrun, hended, hW, hsame⟩ := g1.leave (v := r) (fun u => g7 (by rw [← Bd.returns]; exact u))
  refine ⟨_, _, ?_, hrun, hended, _, _, rfl, ⟨g5, G', ?_, g6⟩, ⟨_, rfl⟩, hW, hsame.mono g2 g3⟩
  · have ef : entryFrame m as.toArray N.2.2.1 = mkF m 0 L [] := by
      rw [hL, ← args_lay]; rfl
    rw [ef]; exact g8 fs hr
  · exact g4
abbrev room_al (M N : Bdy) (W k n : Nat) : Prop := N.2.2.2.2.frames + 1 ≤ M.2.2.2.2.frames ∧ W + (N.2.2.1 + 11) + N.2.2.2.2.locals ≤ M.2.2.2.2.locals ∧ k + N.2.2.2.2.cells ≤ M.2.2.2.2.cells ∧ n + N.2.2.2.2.slots ≤ M.2.2.2.2.slots
abbrev room_ok (M N : Bdy) (W : Nat) : Prop := N.2.2.2.2.frames + 1 ≤ M.2.2.2.2.frames ∧ W + (N.2.2.1 + 11) + N.2.2.2.2.locals ≤ M.2.2.2.2.locals ∧ N.2.2.2.2.cells = 0 ∧ N.2.2.2.2.slots = 0
abbrev full_ok (M : Bdy) (k n : Nat) : Prop := k ≤ M.2.2.2.2.cells ∧ n ≤ M.2.2.2.2.slots
theorem room_ok.al (h : room_ok M N W) (f : full_ok M k n) : room_al M N W k n := ⟨h.1, h.2.1, by rw [h.2.2.1]; exact f.1, by rw [h.2.2.2]; exact f.2⟩
abbrev code_w (N : Bdy) : Prop := Jvm.Cond.code N.1 N.2.1 N.2.2.1 N.2.2.2.1 ∈ tables_1 ∧ Jvm.Cond.initialized N.1.cls ∈ tables_1 ∧ (N.1.cls ≠ "java/lang/invoke/MethodHandle" ∧ N.1.cls ≠ "java/lang/invoke/VarHandle")
def arity (N : Bdy) (na : Nat) : Prop := ∃ ps r, parseMethodDescriptor N.1.desc = some ⟨ps, r⟩ ∧ na = ps.length
theorem arity.len {na : Nat} (h : arity N na) (e : as.length = na) : ∀ sig, parseMethodDescriptor N.1.desc = some sig → as.length = sig.parameters.length := by
  obtain ⟨ps, r, h1, h2⟩ := h
  exact lenOf h1 (e.trans h2)
theorem after_call {v : Option Value} {p : Program} {e : Env} {s : State} {m : MethodId} {args : Array Value} {below : List Frame} {meth : Method} {c : Code} {T T0 : State} {locs : List Loc} {L : Array Slot} {QN : Option Value → AH → Prop} {Lc : List Loc}
    (hw : Ok C) (hx : p.tables.exec = Jvm.exec) (hby : c.code = M.2.1) (hml : c.maxLocals = M.2.2.1) (hret : meth.sig.returnType = M.2.2.2.1) (hnm : meth.name = M.1.name) (hown : s.vm.findClass M.1.cls = some m.cls) (hZ : C.2.1.Warmed39 s.vm) (hf : Fits P L) (hsz : L.size = M.2.2.1) (hF : Fr C.2.2.1 locs)
    (X : Stand p C.1 e M.2.2.2.2 s m args below meth c T (locs ++ Lc) (k + N.2.2.2.2.cells) (n + N.2.2.2.2.slots)) (hQ : Fr C.2.2.1 Lc ∧ ∃ G', Rep C.2.1 C.2.2.1 T.heap G' ∧ QN v G')
    (h : ∀ v G', QN v G' → Runs C M (k + N.2.2.2.2.cells) (n + N.2.2.2.2.slots) (pc + 3) P (v.toList ++ S') G' Q)
    (st : ∀ t, Steps p.tables e below (T.setTop (mkF m (pc + 3) L (v.toList ++ S'))) t → Steps p.tables e below (T0.setTop (mkF m pc L S)) t) :
    ∃ (T' : State) (locs' : List Loc) (k' n' : Nat) (r : Option Value) (G' : AH), Stand p C.1 e M.2.2.2.2 s m args below meth c T' locs' k' n' ∧ k' ≤ M.2.2.2.2.cells ∧ n' ≤ M.2.2.2.2.slots ∧ Rep C.2.1 C.2.2.1 T'.heap G' ∧ Fr C.2.2.1 locs' ∧ Q r G' ∧
      (M.2.2.2.1 = none → r = none) ∧
      ∀ fs : List Frame, (∀ (f : JFrame) (acts : List Action), f.method = m → f.locked = none → f.entered = [] → (doReturn e (T'.setTop f) acts r).1 = T'.setFrames fs) → Steps p.tables e below (T0.setTop (mkF m pc L S)) (T'.setFrames fs) := by
  obtain ⟨f1, G', f2, f3⟩ := hQ
  obtain ⟨T', locs', k', n', r, G'', g1, g2, g3, g4, g5, g6, g7, g8⟩ := h v G' f3 hw p e s m args below meth c T _ L hx hby hml hret hnm hown hZ hf hsz X f2 (Fr.app hF f1)
  exact ⟨T', locs', k', n', r, G'', g1, g2, g3, g4, g5, g6, g7, fun fs hr => st _ (g8 fs hr)⟩
theorem Runs.callS {QN : Option Value → AH → Prop} (d : DAt M pc (.invokestatic idx) 3 q) (wl : Jvm.Cond.methodLink M.1.cls idx N.1 ∈ tables_1) (wt : Jvm.Cond.static N.1 ∈ tables_1) (wc : code_w N) (ar : arity N as.length) (hr0 : room_ok M N W) (hfull : full_ok M k n) (hS : S = as.reverse ++ S') (hW : (S'.map fun v => v.category).sum = W)
    (hN : Pays C N as G QN) (h : ∀ v G', QN v G' → Runs C M k n q P (v.toList ++ S') G' Q) : Runs C M k n pc P S G Q := by
  intro hw p e s m args below meth c T locs L hx hby hml hret hnm hown hZ hf hsz X hR hF
  have hq := d.2
  subst hq hS
  have hr := hr0.al hfull
  obtain ⟨_, _, ⟨T1, L1, k1, n1⟩, -, X1, ⟨Lc, hQ, l1, y1, z1⟩, st⟩ := Jvm.LawKit.callS X hx (y := N.1) hown (mvT hZ (hw _ wl)) (mvT hZ (hw _ wt)) (mvT hZ (hw _ wc.2.1)) (mvT hZ (hw _ wc.1)) wc.2.2 (backOf (W := W) (Q := fun v h L => Fr C.2.2.1 L ∧ ∃ G', Rep C.2.1 C.2.2.1 h G' ∧ QN v G') (hN hw T.heap hR []) hZ (hw _ wc.1) (hw _ wc.2.1) hr.1 hr.2.1) (g := mkF m pc L (as.reverse ++ S')) rfl (by rw [hml]; exact hsz) (argsL := as) (rest := S') (ar.len rfl) rfl (by show 2 * 0 + _ ≤ _; omega) (hb hby d.1) (fun _ _ => ⟨rfl, rfl, hr.2.2.1, hr.2.2.2⟩)
  dsimp only [Pt.U, Pt.locs, Pt.cells, Pt.slots] at X1 l1 y1 z1 st hQ
  subst l1 y1 z1
  exact after_call hw hx hby hml hret hnm hown hZ hf hsz hF X1 hQ (by rw [hr0.2.2.1, hr0.2.2.2]; exact h) (fun t u => st t u)
theorem Runs.callV {QN : Option Value → AH → Prop} (d : DAt M pc (.invokevirtual idx) 3 q) (wl : Jvm.Cond.methodLink M.1.cls idx N.1 ∈ tables_1) (wd : Jvm.Cond.declares N.1 ∈ tables_1) (wi : Jvm.Cond.instanceMethod N.1 ∈ tables_1) (ws : Jvm.Cond.selects K.1 N.1 N.1 ∈ tables_1) (wc : code_w N) (ar : arity N as.length) (hr0 : room_ok M N W) (hfull : full_ok M k n) (hS : S = as.reverse ++ .ref a :: S') (hW : (S'.map fun v => v.category).sum = W)
    (hN : Pays C N (.ref a :: as) (top, (a, qq, ob) :: H) QN) (h : ∀ v G', QN v G' → Runs C M k n q P (v.toList ++ S') G' Q) : Runs C M k n pc P S (top, (a, qq, ob) :: H) Q := by
  intro hw p e s m args below meth c T locs L hx hby hml hret hnm hown hZ hf hsz X hR hF
  have hq := d.2
  subst hq hS
  have hr := hr0.al hfull
  obtain ⟨cB, kB, u1, -, u3⟩ := isOf hZ rfl hR.objs.2.2.1
  obtain ⟨_, _, ⟨T1, L1, k1, n1⟩, -, X1, ⟨Lc, hQ, l1, y1, z1⟩, st⟩ := X.virtualBack hx (y := N.1) (z := N.1) hown (mvT hZ (hw _ wl)) (mvT hZ (hw _ wd)) (notFace_of_selects (args := #[]) (mvT hZ (hw _ ws))) (mvT hZ (hw _ ws)) (mvT hZ (hw _ wi)) wc.2.2 (backOf (W := W) (Q := fun v h L => Fr C.2.2.1 L ∧ ∃ G', Rep C.2.1 C.2.2.1 h G' ∧ QN v G') (hN hw T.heap hR []) hZ (hw _ wc.1) (hw _ wc.2.1) hr.1 hr.2.1) u1 u3 (g := mkF m pc L (as.reverse ++ .ref a :: S')) rfl (by rw [hml]; exact hsz) (Steps.refl _) (argsL := as) (rest := S') (ar.len rfl) rfl (by show 2 * 0 + _ ≤ _; omega) (hb hby d.1) (fun _ _ => ⟨rfl, rfl, hr.2.2.1, hr.2.2.2⟩)
  dsimp only [Pt.U, Pt.locs, Pt.cells, Pt.slots] at X1 l1 y1 z1 st hQ
  subst l1 y1 z1
  exact after_call hw hx hby hml hret hnm hown hZ hf hsz hF X1 hQ (by rw [hr0.2.2.1, hr0.2.2.2]; exact h) (fun t u => st.trans u)
theorem Runs.callP {QN : Option Value → AH → Prop} (d : DAt M pc (.invokevirtual idx) 3 q) (wl : Jvm.Cond.methodLink M.1.cls idx N.1 ∈ tables_1) (wi : Jvm.Cond.instanceMethod N.1 ∈ tables_1) (wp : Jvm.Cond.privateMethod N.1 ∈ tables_1) (wK : N.1.cls = K.1) (wc : code_w N) (ar : arity N as.length) (hr0 : room_ok M N W) (hfull : full_ok M k n) (hS : S = as.reverse ++ .ref a :: S') (hW : (S'.map fun v => v.category).sum = W)
    (hN : Pays C N (.ref a :: as) (top, (a, qq, ob) :: H) QN) (h : ∀ v G', QN v G' → Runs C M k n q P (v.toList ++ S') G' Q) : Runs C M k n pc P S (top, (a, qq, ob) :: H) Q := by
  intro hw p e s m args below meth c T locs L hx hby hml hret hnm hown hZ hf hsz X hR hF
  have hq := d.2
  subst hq hS
  have hr := hr0.al hfull
  obtain ⟨cl, u1, u2⟩ := hR.objs.2.2.1.cell
  have hpr : s.PrivateAt N.1 := Cond.privateMethod_at (mvP hZ (hw _ wp) (args := #[]))
  obtain ⟨c2, k2, i1, i2, i3, i4, -⟩ := Cond.instantiable_spec (mvT (args := args) hZ (hw _ kI))
  have hsel : (Jvm.Cond.selects N.1.cls N.1 N.1).before args s = true := Stand.selects_self_of_private (by rw [wK]; exact i1) i2 (by simp at i4; exact i4.1) hpr (mvT hZ (hw _ wi)) wc.2.2
  obtain ⟨_, _, ⟨T1, L1, k1, n1⟩, -, X1, ⟨Lc, hQ, l1, y1, z1⟩, st⟩ := X.privateBack hx (y := N.1) hown (mvT hZ (hw _ wl)) (mvT hZ (hw _ wi)) hsel hpr (mvT hZ (hw _ wc.1)) wc.2.2 (backOf (W := W) (Q := fun v h L => Fr C.2.2.1 L ∧ ∃ G', Rep C.2.1 C.2.2.1 h G' ∧ QN v G') (hN hw T.heap hR []) hZ (hw _ wc.1) (hw _ wc.2.1) hr.1 hr.2.1) (g := mkF m pc L (as.reverse ++ .ref a :: S')) rfl (by rw [hml]; exact hsz) (Steps.refl _) (a := a) u1 u2 (argsL := as) (rest := S') (ar.len rfl) rfl (by show 2 * 0 + _ ≤ _; omega) (hb hby d.1) (fun _ _ => ⟨rfl, rfl, hr.2.2.1, hr.2.2.2⟩)
  dsimp only [Pt.U, Pt.locs, Pt.cells, Pt.slots] at X1 l1 y1 z1 st hQ
  subst l1 y1 z1
  exact after_call hw hx hby hml hret hnm hown hZ hf hsz hF X1 hQ (by rw [hr0.2.2.1, hr0.2.2.2]; exact h) (fun t u => st.trans u)
theorem Runs.callI {QN : Option Value → AH → Prop} (d : DAt M pc (.invokespecial idx) 3 q) (hi : N.1.name = "<init>") (hn : N.2.2.2.1 = none) (wl : Jvm.Cond.methodLink M.1.cls idx N.1 ∈ tables_1) (wi : Jvm.Cond.instanceMethod N.1 ∈ tables_1) (wc : code_w N) (ar : arity N as.length) (hr : room_al M N W k n) (hS : S = as.reverse ++ .ref a :: S') (hW : (S'.map fun v => v.category).sum = W) {k' n' : Nat} (hk' : k + N.2.2.2.2.cells = k') (hn' : n + N.2.2.2.2.slots = n')
    (hN : Pays C N (.ref a :: as) G QN) (h : ∀ v G', QN v G' → Runs C M k' n' q P (v.toList ++ S') G' Q) : Runs C M k n pc P S G Q := by
  intro hw p e s m args below meth c T locs L hx hby hml hret hnm hown hZ hf hsz X hR hF
  have hq := d.2
  subst hq hS hk' hn'
  have wc1 := hw _ wc.1
  obtain ⟨_, _, ⟨T1, L1, k1, n1⟩, -, X1, ⟨Lc, hQ, l1, y1, z1⟩, st⟩ := X.specialBack hx (y := N.1) hi hown (mvT hZ (hw _ wl)) (mvT hZ (hw _ wi)) (bytes := N.2.1) (maxL := N.2.2.1) (by have := mvT (args := args) hZ wc1; rw [hn] at this; exact this) wc.2.2 (backOf (W := W) (Q := fun v h L => Fr C.2.2.1 L ∧ ∃ G', Rep C.2.1 C.2.2.1 h G' ∧ QN v G') (hN hw T.heap hR []) hZ wc1 (hw _ wc.2.1) hr.1 hr.2.1) (g := mkF m pc L (as.reverse ++ .ref a :: S')) rfl (by rw [hml]; exact hsz) (Steps.refl _) (a := a) (argsL := as) (rest := S') (ar.len rfl) rfl (by show 2 * 0 + _ ≤ _; omega) (hb hby d.1) (fun _ _ => ⟨rfl, rfl, hr.2.2.1, hr.2.2.2⟩)
  dsimp only [Pt.U, Pt.locs, Pt.cells, Pt.slots] at X1 l1 y1 z1 st hQ
  subst l1 y1 z1
  exact after_call hw hx hby hml hret hnm hown hZ hf hsz hF X1 hQ h (fun t u => st.trans u)
/-- the plain form of a contract: one answer, one heap -/
abbrev Ans (r : Option Value) (G1 : AH) : Option Value → AH → Prop := fun v G' => v = r ∧ G' = G1
theorem ans1 {x : Value} {k n : Nat} (h : Runs C M k n pc P (x :: S) G1 Q) : ∀ v G', Ans (some x) G1 v G' → Runs C M k n pc P (v.toList ++ S) G' Q := by
  rintro v G' ⟨rfl, rfl⟩; exact h
theorem ans0 {k n : Nat} (h : Runs C M k n pc P S G1 Q) : ∀ v G', Ans none G1 v G' → Runs C M k n pc P (v.toList ++ S) G' Q := by
  rintro v G' ⟨rfl, rfl⟩; exact h
end Calls
theorem pnK : plainName "LogicalReplicator" = true := by first | (simp [plainName, overriddenIn]; done) | decide +kernel
theorem pnL : plainName "LogicalReplicatorOwnLaw" = true := by first | (simp [plainName, overriddenIn]; done) | decide +kernel
theorem w0 : (Jvm.Cond.classLink "LogicalReplicatorOwnLaw" (11 : Nat) "LogicalReplicator") ∈ tables_1 := mem1 0 rfl
theorem w3 : (Jvm.Cond.methodLink "LogicalReplicatorOwnLaw" (13 : Nat) ({ cls := "LogicalReplicator", name := "<init>", desc := "(IIII)V" } : Jvm.MethodName)) ∈ tables_1 := mem1 3 rfl
theorem w4 : (Jvm.Cond.instanceMethod ({ cls := "LogicalReplicator", name := "<init>", desc := "(IIII)V" } : Jvm.MethodName)) ∈ tables_1 := mem1 4 rfl
theorem w6 : (Jvm.Cond.methodLink "LogicalReplicator" (1 : Nat) ({ cls := "java/lang/Object", name := "<init>", desc := "()V" } : Jvm.MethodName)) ∈ tables_1 := mem1 6 rfl
theorem w7 : (Jvm.Cond.instanceMethod ({ cls := "java/lang/Object", name := "<init>", desc := "()V" } : Jvm.MethodName)) ∈ tables_1 := mem1 7 rfl
theorem w8 : (Jvm.Cond.code ({ cls := "java/lang/Object", name := "<init>", desc := "()V" } : Jvm.MethodName) object_method_1_code (1 : Nat) (Option.none : Option Jvm.ClassFile.FieldType)) ∈ tables_1 := mem1 8 rfl
theorem w9 : (Jvm.Cond.arrayClass Jvm.ClassFile.FieldType.int) ∈ tables_1 := mem1 9 rfl
theorem w10 : (Jvm.Cond.fieldLink "LogicalReplicator" (7 : Nat) "LogicalReplicator" "recKind" "[I") ∈ tables_1 := mem1 10 rfl
theorem w11 : (Jvm.Cond.lays "LogicalReplicator" "LogicalReplicator" "recKind" "[I") ∈ tables_1 := mem1 11 rfl
theorem w12 : (Jvm.Cond.fieldLink "LogicalReplicator" (13 : Nat) "LogicalReplicator" "recSlot" "[I") ∈ tables_1 := mem1 12 rfl
theorem w13 : (Jvm.Cond.lays "LogicalReplicator" "LogicalReplicator" "recSlot" "[I") ∈ tables_1 := mem1 13 rfl
theorem w14 : (Jvm.Cond.fieldLink "LogicalReplicator" (16 : Nat) "LogicalReplicator" "recKey" "[I") ∈ tables_1 := mem1 14 rfl
theorem w15 : (Jvm.Cond.lays "LogicalReplicator" "LogicalReplicator" "recKey" "[I") ∈ tables_1 := mem1 15 rfl
theorem w16 : (Jvm.Cond.fieldLink "LogicalReplicator" (19 : Nat) "LogicalReplicator" "recVal" "[I") ∈ tables_1 := mem1 16 rfl
theorem w17 : (Jvm.Cond.lays "LogicalReplicator" "LogicalReplicator" "recVal" "[I") ∈ tables_1 := mem1 17 rfl
theorem w18 : (Jvm.Cond.fieldLink "LogicalReplicator" (22 : Nat) "LogicalReplicator" "recBegin" "[I") ∈ tables_1 := mem1 18 rfl
theorem w19 : (Jvm.Cond.lays "LogicalReplicator" "LogicalReplicator" "recBegin" "[I") ∈ tables_1 := mem1 19 rfl
theorem w20 : (Jvm.Cond.arrayClass Jvm.ClassFile.FieldType.boolean) ∈ tables_1 := mem1 20 rfl
theorem w21 : (Jvm.Cond.fieldLink "LogicalReplicator" (25 : Nat) "LogicalReplicator" "slotOpen" "[Z") ∈ tables_1 := mem1 21 rfl
theorem w22 : (Jvm.Cond.lays "LogicalReplicator" "LogicalReplicator" "slotOpen" "[Z") ∈ tables_1 := mem1 22 rfl
theorem w23 : (Jvm.Cond.fieldLink "LogicalReplicator" (29 : Nat) "LogicalReplicator" "slotBegin" "[I") ∈ tables_1 := mem1 23 rfl
theorem w24 : (Jvm.Cond.lays "LogicalReplicator" "LogicalReplicator" "slotBegin" "[I") ∈ tables_1 := mem1 24 rfl
theorem w25 : (Jvm.Cond.fieldLink "LogicalReplicator" (32 : Nat) "LogicalReplicator" "pubHas" "[Z") ∈ tables_1 := mem1 25 rfl
theorem w26 : (Jvm.Cond.lays "LogicalReplicator" "LogicalReplicator" "pubHas" "[Z") ∈ tables_1 := mem1 26 rfl
theorem w27 : (Jvm.Cond.fieldLink "LogicalReplicator" (35 : Nat) "LogicalReplicator" "pubVal" "[I") ∈ tables_1 := mem1 27 rfl
theorem w28 : (Jvm.Cond.lays "LogicalReplicator" "LogicalReplicator" "pubVal" "[I") ∈ tables_1 := mem1 28 rfl
theorem w29 : (Jvm.Cond.fieldLink "LogicalReplicator" (38 : Nat) "LogicalReplicator" "subHas" "[Z") ∈ tables_1 := mem1 29 rfl
theorem w30 : (Jvm.Cond.lays "LogicalReplicator" "LogicalReplicator" "subHas" "[Z") ∈ tables_1 := mem1 30 rfl
theorem w31 : (Jvm.Cond.fieldLink "LogicalReplicator" (41 : Nat) "LogicalReplicator" "subVal" "[I") ∈ tables_1 := mem1 31 rfl
theorem w32 : (Jvm.Cond.lays "LogicalReplicator" "LogicalReplicator" "subVal" "[I") ∈ tables_1 := mem1 32 rfl
theorem w33 : (Jvm.Cond.fieldLink "LogicalReplicator" (44 : Nat) "LogicalReplicator" "pendKind" "[I") ∈ tables_1 := mem1 33 rfl
theorem w34 : (Jvm.Cond.lays "LogicalReplicator" "LogicalReplicator" "pendKind" "[I") ∈ tables_1 := mem1 34 rfl
theorem w35 : (Jvm.Cond.fieldLink "LogicalReplicator" (47 : Nat) "LogicalReplicator" "pendVal" "[I") ∈ tables_1 := mem1 35 rfl
theorem w36 : (Jvm.Cond.lays "LogicalReplicator" "LogicalReplicator" "pendVal" "[I") ∈ tables_1 := mem1 36 rfl
theorem w37 : (Jvm.Cond.fieldLink "LogicalReplicator" (50 : Nat) "LogicalReplicator" "qKind" "[I") ∈ tables_1 := mem1 37 rfl
theorem w38 : (Jvm.Cond.lays "LogicalReplicator" "LogicalReplicator" "qKind" "[I") ∈ tables_1 := mem1 38 rfl
theorem w39 : (Jvm.Cond.fieldLink "LogicalReplicator" (53 : Nat) "LogicalReplicator" "qKey" "[I") ∈ tables_1 := mem1 39 rfl
theorem w40 : (Jvm.Cond.lays "LogicalReplicator" "LogicalReplicator" "qKey" "[I") ∈ tables_1 := mem1 40 rfl
theorem w41 : (Jvm.Cond.fieldLink "LogicalReplicator" (56 : Nat) "LogicalReplicator" "qVal" "[I") ∈ tables_1 := mem1 41 rfl
theorem w42 : (Jvm.Cond.lays "LogicalReplicator" "LogicalReplicator" "qVal" "[I") ∈ tables_1 := mem1 42 rfl
theorem w43 : (Jvm.Cond.fieldLink "LogicalReplicator" (59 : Nat) "LogicalReplicator" "qPos" "[I") ∈ tables_1 := mem1 43 rfl
theorem w44 : (Jvm.Cond.lays "LogicalReplicator" "LogicalReplicator" "qPos" "[I") ∈ tables_1 := mem1 44 rfl
theorem w45 : (Jvm.Cond.methodLink "LogicalReplicator" (62 : Nat) ({ cls := "LogicalReplicator", name := "clamp", desc := "(III)I" } : Jvm.MethodName)) ∈ tables_1 := mem1 45 rfl
theorem w46 : (Jvm.Cond.instanceMethod ({ cls := "LogicalReplicator", name := "clamp", desc := "(III)I" } : Jvm.MethodName)) ∈ tables_1 := mem1 46 rfl
theorem w47 : (Jvm.Cond.privateMethod ({ cls := "LogicalReplicator", name := "clamp", desc := "(III)I" } : Jvm.MethodName)) ∈ tables_1 := mem1 47 rfl
theorem w49 : (Jvm.Cond.fieldLink "LogicalReplicator" (66 : Nat) "LogicalReplicator" "nKeys" "I") ∈ tables_1 := mem1 49 rfl
theorem w50 : (Jvm.Cond.lays "LogicalReplicator" "LogicalReplicator" "nKeys" "I") ∈ tables_1 := mem1 50 rfl
theorem w51 : (Jvm.Cond.fieldLink "LogicalReplicator" (70 : Nat) "LogicalReplicator" "nSlots" "I") ∈ tables_1 := mem1 51 rfl
theorem w52 : (Jvm.Cond.lays "LogicalReplicator" "LogicalReplicator" "nSlots" "I") ∈ tables_1 := mem1 52 rfl
theorem w53 : (Jvm.Cond.fieldLink "LogicalReplicator" (73 : Nat) "LogicalReplicator" "logCap" "I") ∈ tables_1 := mem1 53 rfl
theorem w54 : (Jvm.Cond.lays "LogicalReplicator" "LogicalReplicator" "logCap" "I") ∈ tables_1 := mem1 54 rfl
theorem w55 : (Jvm.Cond.fieldLink "LogicalReplicator" (76 : Nat) "LogicalReplicator" "memCap" "I") ∈ tables_1 := mem1 55 rfl
theorem w56 : (Jvm.Cond.lays "LogicalReplicator" "LogicalReplicator" "memCap" "I") ∈ tables_1 := mem1 56 rfl
theorem w57 : (Jvm.Cond.fieldLink "LogicalReplicator" (79 : Nat) "LogicalReplicator" "length" "I") ∈ tables_1 := mem1 57 rfl
theorem w58 : (Jvm.Cond.lays "LogicalReplicator" "LogicalReplicator" "length" "I") ∈ tables_1 := mem1 58 rfl
theorem w59 : (Jvm.Cond.fieldLink "LogicalReplicator" (82 : Nat) "LogicalReplicator" "emittedPos" "I") ∈ tables_1 := mem1 59 rfl
theorem w60 : (Jvm.Cond.lays "LogicalReplicator" "LogicalReplicator" "emittedPos" "I") ∈ tables_1 := mem1 60 rfl
theorem w61 : (Jvm.Cond.fieldLink "LogicalReplicator" (85 : Nat) "LogicalReplicator" "appliedPos" "I") ∈ tables_1 := mem1 61 rfl
theorem w62 : (Jvm.Cond.lays "LogicalReplicator" "LogicalReplicator" "appliedPos" "I") ∈ tables_1 := mem1 62 rfl
theorem w63 : (Jvm.Cond.fieldLink "LogicalReplicator" (88 : Nat) "LogicalReplicator" "confirmedPos" "I") ∈ tables_1 := mem1 63 rfl
theorem w64 : (Jvm.Cond.lays "LogicalReplicator" "LogicalReplicator" "confirmedPos" "I") ∈ tables_1 := mem1 64 rfl
theorem w65 : (Jvm.Cond.fieldLink "LogicalReplicator" (91 : Nat) "LogicalReplicator" "qHead" "I") ∈ tables_1 := mem1 65 rfl
theorem w66 : (Jvm.Cond.lays "LogicalReplicator" "LogicalReplicator" "qHead" "I") ∈ tables_1 := mem1 66 rfl
theorem w67 : (Jvm.Cond.fieldLink "LogicalReplicator" (94 : Nat) "LogicalReplicator" "qCount" "I") ∈ tables_1 := mem1 67 rfl
theorem w68 : (Jvm.Cond.lays "LogicalReplicator" "LogicalReplicator" "qCount" "I") ∈ tables_1 := mem1 68 rfl
theorem w69 : (Jvm.Cond.methodLink "LogicalReplicatorOwnLaw" (16 : Nat) ({ cls := "LogicalReplicator", name := "info", desc := "(I)I" } : Jvm.MethodName)) ∈ tables_1 := mem1 69 rfl
theorem w70 : (Jvm.Cond.declares ({ cls := "LogicalReplicator", name := "info", desc := "(I)I" } : Jvm.MethodName)) ∈ tables_1 := mem1 70 rfl
theorem w71 : (Jvm.Cond.instanceMethod ({ cls := "LogicalReplicator", name := "info", desc := "(I)I" } : Jvm.MethodName)) ∈ tables_1 := mem1 71 rfl
theorem w72 : (Jvm.Cond.selects "LogicalReplicator" ({ cls := "LogicalReplicator", name := "info", desc := "(I)I" } : Jvm.MethodName) ({ cls := "LogicalReplicator", name := "info", desc := "(I)I" } : Jvm.MethodName)) ∈ tables_1 := mem1 72 rfl
theorem w74 : (Jvm.Cond.constantLong "LogicalReplicatorOwnLaw" (20 : Nat) (4294967296 : Int64)) ∈ tables_1 := mem1 74 rfl
theorem w75 : (Jvm.Cond.methodLink "LogicalReplicatorOwnLaw" (41 : Nat) ({ cls := "LogicalReplicator", name := "pubRow", desc := "(I)J" } : Jvm.MethodName)) ∈ tables_1 := mem1 75 rfl
theorem w76 : (Jvm.Cond.declares ({ cls := "LogicalReplicator", name := "pubRow", desc := "(I)J" } : Jvm.MethodName)) ∈ tables_1 := mem1 76 rfl
theorem w77 : (Jvm.Cond.instanceMethod ({ cls := "LogicalReplicator", name := "pubRow", desc := "(I)J" } : Jvm.MethodName)) ∈ tables_1 := mem1 77 rfl
theorem w78 : (Jvm.Cond.selects "LogicalReplicator" ({ cls := "LogicalReplicator", name := "pubRow", desc := "(I)J" } : Jvm.MethodName) ({ cls := "LogicalReplicator", name := "pubRow", desc := "(I)J" } : Jvm.MethodName)) ∈ tables_1 := mem1 78 rfl
theorem w80 : (Jvm.Cond.methodLink "LogicalReplicator" (116 : Nat) ({ cls := "LogicalReplicator", name := "validKey", desc := "(I)Z" } : Jvm.MethodName)) ∈ tables_1 := mem1 80 rfl
theorem w81 : (Jvm.Cond.instanceMethod ({ cls := "LogicalReplicator", name := "validKey", desc := "(I)Z" } : Jvm.MethodName)) ∈ tables_1 := mem1 81 rfl
theorem w82 : (Jvm.Cond.privateMethod ({ cls := "LogicalReplicator", name := "validKey", desc := "(I)Z" } : Jvm.MethodName)) ∈ tables_1 := mem1 82 rfl
theorem w84 : (Jvm.Cond.constantLong "LogicalReplicator" (146 : Nat) (4294967296 : Int64)) ∈ tables_1 := mem1 84 rfl
theorem w85 : (Jvm.Cond.methodLink "LogicalReplicatorOwnLaw" (44 : Nat) ({ cls := "LogicalReplicator", name := "subRow", desc := "(I)J" } : Jvm.MethodName)) ∈ tables_1 := mem1 85 rfl
theorem w86 : (Jvm.Cond.declares ({ cls := "LogicalReplicator", name := "subRow", desc := "(I)J" } : Jvm.MethodName)) ∈ tables_1 := mem1 86 rfl
theorem w87 : (Jvm.Cond.instanceMethod ({ cls := "LogicalReplicator", name := "subRow", desc := "(I)J" } : Jvm.MethodName)) ∈ tables_1 := mem1 87 rfl
theorem w88 : (Jvm.Cond.selects "LogicalReplicator" ({ cls := "LogicalReplicator", name := "subRow", desc := "(I)J" } : Jvm.MethodName) ({ cls := "LogicalReplicator", name := "subRow", desc := "(I)J" } : Jvm.MethodName)) ∈ tables_1 := mem1 88 rfl
theorem w90 : (Jvm.Cond.methodLink "LogicalReplicatorOwnLaw" (47 : Nat) ({ cls := "LogicalReplicatorOwnLaw", name := "cell", desc := "([II)I" } : Jvm.MethodName)) ∈ tables_1 := mem1 90 rfl
theorem w91 : (Jvm.Cond.static ({ cls := "LogicalReplicatorOwnLaw", name := "cell", desc := "([II)I" } : Jvm.MethodName)) ∈ tables_1 := mem1 91 rfl
theorem w94 : (Jvm.Cond.methodLink "LogicalReplicatorOwnLaw" (54 : Nat) ({ cls := "LogicalReplicator", name := "put", desc := "(III)I" } : Jvm.MethodName)) ∈ tables_1 := mem1 94 rfl
theorem w95 : (Jvm.Cond.declares ({ cls := "LogicalReplicator", name := "put", desc := "(III)I" } : Jvm.MethodName)) ∈ tables_1 := mem1 95 rfl
theorem w96 : (Jvm.Cond.instanceMethod ({ cls := "LogicalReplicator", name := "put", desc := "(III)I" } : Jvm.MethodName)) ∈ tables_1 := mem1 96 rfl
theorem w97 : (Jvm.Cond.selects "LogicalReplicator" ({ cls := "LogicalReplicator", name := "put", desc := "(III)I" } : Jvm.MethodName) ({ cls := "LogicalReplicator", name := "put", desc := "(III)I" } : Jvm.MethodName)) ∈ tables_1 := mem1 97 rfl
theorem w99 : (Jvm.Cond.methodLink "LogicalReplicator" (109 : Nat) ({ cls := "LogicalReplicator", name := "write", desc := "(IIII)I" } : Jvm.MethodName)) ∈ tables_1 := mem1 99 rfl
theorem w100 : (Jvm.Cond.instanceMethod ({ cls := "LogicalReplicator", name := "write", desc := "(IIII)I" } : Jvm.MethodName)) ∈ tables_1 := mem1 100 rfl
theorem w101 : (Jvm.Cond.privateMethod ({ cls := "LogicalReplicator", name := "write", desc := "(IIII)I" } : Jvm.MethodName)) ∈ tables_1 := mem1 101 rfl
theorem w103 : (Jvm.Cond.methodLink "LogicalReplicator" (112 : Nat) ({ cls := "LogicalReplicator", name := "checkOpenSlot", desc := "(I)I" } : Jvm.MethodName)) ∈ tables_1 := mem1 103 rfl
theorem w104 : (Jvm.Cond.instanceMethod ({ cls := "LogicalReplicator", name := "checkOpenSlot", desc := "(I)I" } : Jvm.MethodName)) ∈ tables_1 := mem1 104 rfl
theorem w105 : (Jvm.Cond.privateMethod ({ cls := "LogicalReplicator", name := "checkOpenSlot", desc := "(I)I" } : Jvm.MethodName)) ∈ tables_1 := mem1 105 rfl
theorem w107 : (Jvm.Cond.methodLink "LogicalReplicator" (97 : Nat) ({ cls := "LogicalReplicator", name := "validSlot", desc := "(I)Z" } : Jvm.MethodName)) ∈ tables_1 := mem1 107 rfl
theorem w108 : (Jvm.Cond.instanceMethod ({ cls := "LogicalReplicator", name := "validSlot", desc := "(I)Z" } : Jvm.MethodName)) ∈ tables_1 := mem1 108 rfl
theorem w109 : (Jvm.Cond.privateMethod ({ cls := "LogicalReplicator", name := "validSlot", desc := "(I)Z" } : Jvm.MethodName)) ∈ tables_1 := mem1 109 rfl
theorem w111 : (Jvm.Cond.methodLink "LogicalReplicatorOwnLaw" (51 : Nat) ({ cls := "LogicalReplicator", name := "begin", desc := "(I)I" } : Jvm.MethodName)) ∈ tables_1 := mem1 111 rfl
theorem w112 : (Jvm.Cond.declares ({ cls := "LogicalReplicator", name := "begin", desc := "(I)I" } : Jvm.MethodName)) ∈ tables_1 := mem1 112 rfl
theorem w113 : (Jvm.Cond.instanceMethod ({ cls := "LogicalReplicator", name := "begin", desc := "(I)I" } : Jvm.MethodName)) ∈ tables_1 := mem1 113 rfl
theorem w114 : (Jvm.Cond.selects "LogicalReplicator" ({ cls := "LogicalReplicator", name := "begin", desc := "(I)I" } : Jvm.MethodName) ({ cls := "LogicalReplicator", name := "begin", desc := "(I)I" } : Jvm.MethodName)) ∈ tables_1 := mem1 114 rfl
theorem w116 : (Jvm.Cond.methodLink "LogicalReplicator" (101 : Nat) ({ cls := "LogicalReplicator", name := "logFull", desc := "()Z" } : Jvm.MethodName)) ∈ tables_1 := mem1 116 rfl
theorem w117 : (Jvm.Cond.instanceMethod ({ cls := "LogicalReplicator", name := "logFull", desc := "()Z" } : Jvm.MethodName)) ∈ tables_1 := mem1 117 rfl
theorem w118 : (Jvm.Cond.privateMethod ({ cls := "LogicalReplicator", name := "logFull", desc := "()Z" } : Jvm.MethodName)) ∈ tables_1 := mem1 118 rfl
theorem w120 : (Jvm.Cond.methodLink "LogicalReplicator" (105 : Nat) ({ cls := "LogicalReplicator", name := "append", desc := "(IIII)I" } : Jvm.MethodName)) ∈ tables_1 := mem1 120 rfl
theorem w121 : (Jvm.Cond.instanceMethod ({ cls := "LogicalReplicator", name := "append", desc := "(IIII)I" } : Jvm.MethodName)) ∈ tables_1 := mem1 121 rfl
theorem w122 : (Jvm.Cond.privateMethod ({ cls := "LogicalReplicator", name := "append", desc := "(IIII)I" } : Jvm.MethodName)) ∈ tables_1 := mem1 122 rfl
theorem w124 : (Jvm.Cond.methodLink "LogicalReplicatorOwnLaw" (22 : Nat) ({ cls := "LogicalReplicator", name := "logRecord", desc := "(I)J" } : Jvm.MethodName)) ∈ tables_1 := mem1 124 rfl
theorem w125 : (Jvm.Cond.declares ({ cls := "LogicalReplicator", name := "logRecord", desc := "(I)J" } : Jvm.MethodName)) ∈ tables_1 := mem1 125 rfl
theorem w126 : (Jvm.Cond.instanceMethod ({ cls := "LogicalReplicator", name := "logRecord", desc := "(I)J" } : Jvm.MethodName)) ∈ tables_1 := mem1 126 rfl
theorem w127 : (Jvm.Cond.selects "LogicalReplicator" ({ cls := "LogicalReplicator", name := "logRecord", desc := "(I)J" } : Jvm.MethodName) ({ cls := "LogicalReplicator", name := "logRecord", desc := "(I)J" } : Jvm.MethodName)) ∈ tables_1 := mem1 127 rfl
theorem w129 : (Jvm.Cond.constant "LogicalReplicator" (152 : Nat) (65536 : Int32)) ∈ tables_1 := mem1 129 rfl
theorem w130 : (Jvm.Cond.methodLink "LogicalReplicatorOwnLaw" (26 : Nat) ({ cls := "LogicalReplicatorOwnLaw", name := "kind", desc := "(J)I" } : Jvm.MethodName)) ∈ tables_1 := mem1 130 rfl
theorem w131 : (Jvm.Cond.static ({ cls := "LogicalReplicatorOwnLaw", name := "kind", desc := "(J)I" } : Jvm.MethodName)) ∈ tables_1 := mem1 131 rfl
theorem w133 : (Jvm.Cond.constantLong "LogicalReplicatorOwnLaw" (7 : Nat) (255 : Int64)) ∈ tables_1 := mem1 133 rfl
theorem w134 : (Jvm.Cond.methodLink "LogicalReplicatorOwnLaw" (65 : Nat) ({ cls := "LogicalReplicator", name := "abort", desc := "(I)I" } : Jvm.MethodName)) ∈ tables_1 := mem1 134 rfl
theorem w135 : (Jvm.Cond.declares ({ cls := "LogicalReplicator", name := "abort", desc := "(I)I" } : Jvm.MethodName)) ∈ tables_1 := mem1 135 rfl
theorem w136 : (Jvm.Cond.instanceMethod ({ cls := "LogicalReplicator", name := "abort", desc := "(I)I" } : Jvm.MethodName)) ∈ tables_1 := mem1 136 rfl
theorem w137 : (Jvm.Cond.selects "LogicalReplicator" ({ cls := "LogicalReplicator", name := "abort", desc := "(I)I" } : Jvm.MethodName) ({ cls := "LogicalReplicator", name := "abort", desc := "(I)I" } : Jvm.MethodName)) ∈ tables_1 := mem1 137 rfl
theorem w139 : (Jvm.Cond.methodLink "LogicalReplicatorOwnLaw" (71 : Nat) ({ cls := "LogicalReplicator", name := "apply", desc := "(I)I" } : Jvm.MethodName)) ∈ tables_1 := mem1 139 rfl
theorem w140 : (Jvm.Cond.declares ({ cls := "LogicalReplicator", name := "apply", desc := "(I)I" } : Jvm.MethodName)) ∈ tables_1 := mem1 140 rfl
theorem w141 : (Jvm.Cond.instanceMethod ({ cls := "LogicalReplicator", name := "apply", desc := "(I)I" } : Jvm.MethodName)) ∈ tables_1 := mem1 141 rfl
theorem w142 : (Jvm.Cond.selects "LogicalReplicator" ({ cls := "LogicalReplicator", name := "apply", desc := "(I)I" } : Jvm.MethodName) ({ cls := "LogicalReplicator", name := "apply", desc := "(I)I" } : Jvm.MethodName)) ∈ tables_1 := mem1 142 rfl
theorem w144 : (Jvm.Cond.methodLink "LogicalReplicatorOwnLaw" (62 : Nat) ({ cls := "LogicalReplicator", name := "commit", desc := "(I)I" } : Jvm.MethodName)) ∈ tables_1 := mem1 144 rfl
theorem w145 : (Jvm.Cond.declares ({ cls := "LogicalReplicator", name := "commit", desc := "(I)I" } : Jvm.MethodName)) ∈ tables_1 := mem1 145 rfl
theorem w146 : (Jvm.Cond.instanceMethod ({ cls := "LogicalReplicator", name := "commit", desc := "(I)I" } : Jvm.MethodName)) ∈ tables_1 := mem1 146 rfl
theorem w147 : (Jvm.Cond.selects "LogicalReplicator" ({ cls := "LogicalReplicator", name := "commit", desc := "(I)I" } : Jvm.MethodName) ({ cls := "LogicalReplicator", name := "commit", desc := "(I)I" } : Jvm.MethodName)) ∈ tables_1 := mem1 147 rfl
theorem w149 : (Jvm.Cond.methodLink "LogicalReplicatorOwnLaw" (78 : Nat) ({ cls := "LogicalReplicator", name := "crashPublisher", desc := "()V" } : Jvm.MethodName)) ∈ tables_1 := mem1 149 rfl
theorem w150 : (Jvm.Cond.declares ({ cls := "LogicalReplicator", name := "crashPublisher", desc := "()V" } : Jvm.MethodName)) ∈ tables_1 := mem1 150 rfl
theorem w151 : (Jvm.Cond.instanceMethod ({ cls := "LogicalReplicator", name := "crashPublisher", desc := "()V" } : Jvm.MethodName)) ∈ tables_1 := mem1 151 rfl
theorem w152 : (Jvm.Cond.selects "LogicalReplicator" ({ cls := "LogicalReplicator", name := "crashPublisher", desc := "()V" } : Jvm.MethodName) ({ cls := "LogicalReplicator", name := "crashPublisher", desc := "()V" } : Jvm.MethodName)) ∈ tables_1 := mem1 152 rfl
theorem w154 : (Jvm.Cond.methodLink "LogicalReplicator" (140 : Nat) ({ cls := "LogicalReplicator", name := "clearQueue", desc := "()V" } : Jvm.MethodName)) ∈ tables_1 := mem1 154 rfl
theorem w155 : (Jvm.Cond.instanceMethod ({ cls := "LogicalReplicator", name := "clearQueue", desc := "()V" } : Jvm.MethodName)) ∈ tables_1 := mem1 155 rfl
theorem w156 : (Jvm.Cond.privateMethod ({ cls := "LogicalReplicator", name := "clearQueue", desc := "()V" } : Jvm.MethodName)) ∈ tables_1 := mem1 156 rfl
theorem w158 : (Jvm.Cond.methodLink "LogicalReplicator" (143 : Nat) ({ cls := "LogicalReplicator", name := "clearPending", desc := "()V" } : Jvm.MethodName)) ∈ tables_1 := mem1 158 rfl
theorem w159 : (Jvm.Cond.instanceMethod ({ cls := "LogicalReplicator", name := "clearPending", desc := "()V" } : Jvm.MethodName)) ∈ tables_1 := mem1 159 rfl
theorem w160 : (Jvm.Cond.privateMethod ({ cls := "LogicalReplicator", name := "clearPending", desc := "()V" } : Jvm.MethodName)) ∈ tables_1 := mem1 160 rfl
theorem w162 : (Jvm.Cond.methodLink "LogicalReplicatorOwnLaw" (68 : Nat) ({ cls := "LogicalReplicator", name := "stream", desc := "(I)I" } : Jvm.MethodName)) ∈ tables_1 := mem1 162 rfl
theorem w163 : (Jvm.Cond.declares ({ cls := "LogicalReplicator", name := "stream", desc := "(I)I" } : Jvm.MethodName)) ∈ tables_1 := mem1 163 rfl
theorem w164 : (Jvm.Cond.instanceMethod ({ cls := "LogicalReplicator", name := "stream", desc := "(I)I" } : Jvm.MethodName)) ∈ tables_1 := mem1 164 rfl
theorem w165 : (Jvm.Cond.selects "LogicalReplicator" ({ cls := "LogicalReplicator", name := "stream", desc := "(I)I" } : Jvm.MethodName) ({ cls := "LogicalReplicator", name := "stream", desc := "(I)I" } : Jvm.MethodName)) ∈ tables_1 := mem1 165 rfl
theorem w167 : (Jvm.Cond.methodLink "LogicalReplicator" (123 : Nat) ({ cls := "LogicalReplicator", name := "nextCommit", desc := "(I)I" } : Jvm.MethodName)) ∈ tables_1 := mem1 167 rfl
theorem w168 : (Jvm.Cond.instanceMethod ({ cls := "LogicalReplicator", name := "nextCommit", desc := "(I)I" } : Jvm.MethodName)) ∈ tables_1 := mem1 168 rfl
theorem w169 : (Jvm.Cond.privateMethod ({ cls := "LogicalReplicator", name := "nextCommit", desc := "(I)I" } : Jvm.MethodName)) ∈ tables_1 := mem1 169 rfl
theorem w171 : (Jvm.Cond.methodLink "LogicalReplicatorOwnLaw" (74 : Nat) ({ cls := "LogicalReplicator", name := "feedback", desc := "()I" } : Jvm.MethodName)) ∈ tables_1 := mem1 171 rfl
theorem w172 : (Jvm.Cond.declares ({ cls := "LogicalReplicator", name := "feedback", desc := "()I" } : Jvm.MethodName)) ∈ tables_1 := mem1 172 rfl
theorem w173 : (Jvm.Cond.instanceMethod ({ cls := "LogicalReplicator", name := "feedback", desc := "()I" } : Jvm.MethodName)) ∈ tables_1 := mem1 173 rfl
theorem w174 : (Jvm.Cond.selects "LogicalReplicator" ({ cls := "LogicalReplicator", name := "feedback", desc := "()I" } : Jvm.MethodName) ({ cls := "LogicalReplicator", name := "feedback", desc := "()I" } : Jvm.MethodName)) ∈ tables_1 := mem1 174 rfl
theorem w176 : (Jvm.Cond.methodLink "LogicalReplicatorOwnLaw" (58 : Nat) ({ cls := "LogicalReplicator", name := "del", desc := "(II)I" } : Jvm.MethodName)) ∈ tables_1 := mem1 176 rfl
theorem w177 : (Jvm.Cond.declares ({ cls := "LogicalReplicator", name := "del", desc := "(II)I" } : Jvm.MethodName)) ∈ tables_1 := mem1 177 rfl
theorem w178 : (Jvm.Cond.instanceMethod ({ cls := "LogicalReplicator", name := "del", desc := "(II)I" } : Jvm.MethodName)) ∈ tables_1 := mem1 178 rfl
theorem w179 : (Jvm.Cond.selects "LogicalReplicator" ({ cls := "LogicalReplicator", name := "del", desc := "(II)I" } : Jvm.MethodName) ({ cls := "LogicalReplicator", name := "del", desc := "(II)I" } : Jvm.MethodName)) ∈ tables_1 := mem1 179 rfl
theorem w181 : (Jvm.Cond.methodLink "LogicalReplicator" (119 : Nat) ({ cls := "LogicalReplicator", name := "applyToPublisher", desc := "(III)V" } : Jvm.MethodName)) ∈ tables_1 := mem1 181 rfl
theorem w182 : (Jvm.Cond.instanceMethod ({ cls := "LogicalReplicator", name := "applyToPublisher", desc := "(III)V" } : Jvm.MethodName)) ∈ tables_1 := mem1 182 rfl
theorem w183 : (Jvm.Cond.privateMethod ({ cls := "LogicalReplicator", name := "applyToPublisher", desc := "(III)V" } : Jvm.MethodName)) ∈ tables_1 := mem1 183 rfl
theorem w185 : (Jvm.Cond.methodLink "LogicalReplicatorOwnLaw" (32 : Nat) ({ cls := "LogicalReplicatorOwnLaw", name := "slot", desc := "(J)I" } : Jvm.MethodName)) ∈ tables_1 := mem1 185 rfl
theorem w186 : (Jvm.Cond.static ({ cls := "LogicalReplicatorOwnLaw", name := "slot", desc := "(J)I" } : Jvm.MethodName)) ∈ tables_1 := mem1 186 rfl
theorem w188 : (Jvm.Cond.methodLink "LogicalReplicatorOwnLaw" (35 : Nat) ({ cls := "LogicalReplicatorOwnLaw", name := "key", desc := "(J)I" } : Jvm.MethodName)) ∈ tables_1 := mem1 188 rfl
theorem w189 : (Jvm.Cond.static ({ cls := "LogicalReplicatorOwnLaw", name := "key", desc := "(J)I" } : Jvm.MethodName)) ∈ tables_1 := mem1 189 rfl
theorem w191 : (Jvm.Cond.constantLong "LogicalReplicatorOwnLaw" (9 : Nat) (65535 : Int64)) ∈ tables_1 := mem1 191 rfl
theorem w192 : (Jvm.Cond.methodLink "LogicalReplicatorOwnLaw" (38 : Nat) ({ cls := "LogicalReplicatorOwnLaw", name := "val", desc := "(J)I" } : Jvm.MethodName)) ∈ tables_1 := mem1 192 rfl
theorem w193 : (Jvm.Cond.static ({ cls := "LogicalReplicatorOwnLaw", name := "val", desc := "(J)I" } : Jvm.MethodName)) ∈ tables_1 := mem1 193 rfl
theorem w195 : (Jvm.Cond.methodLink "LogicalReplicator" (126 : Nat) ({ cls := "LogicalReplicator", name := "emitTransaction", desc := "(I)V" } : Jvm.MethodName)) ∈ tables_1 := mem1 195 rfl
theorem w196 : (Jvm.Cond.instanceMethod ({ cls := "LogicalReplicator", name := "emitTransaction", desc := "(I)V" } : Jvm.MethodName)) ∈ tables_1 := mem1 196 rfl
theorem w197 : (Jvm.Cond.privateMethod ({ cls := "LogicalReplicator", name := "emitTransaction", desc := "(I)V" } : Jvm.MethodName)) ∈ tables_1 := mem1 197 rfl
theorem w199 : (Jvm.Cond.methodLink "LogicalReplicator" (130 : Nat) ({ cls := "LogicalReplicator", name := "enqueue", desc := "(IIII)V" } : Jvm.MethodName)) ∈ tables_1 := mem1 199 rfl
theorem w200 : (Jvm.Cond.instanceMethod ({ cls := "LogicalReplicator", name := "enqueue", desc := "(IIII)V" } : Jvm.MethodName)) ∈ tables_1 := mem1 200 rfl
theorem w201 : (Jvm.Cond.privateMethod ({ cls := "LogicalReplicator", name := "enqueue", desc := "(IIII)V" } : Jvm.MethodName)) ∈ tables_1 := mem1 201 rfl
theorem w203 : (Jvm.Cond.methodLink "LogicalReplicatorOwnLaw" (81 : Nat) ({ cls := "LogicalReplicator", name := "crashSubscriber", desc := "()V" } : Jvm.MethodName)) ∈ tables_1 := mem1 203 rfl
theorem w204 : (Jvm.Cond.declares ({ cls := "LogicalReplicator", name := "crashSubscriber", desc := "()V" } : Jvm.MethodName)) ∈ tables_1 := mem1 204 rfl
theorem w205 : (Jvm.Cond.instanceMethod ({ cls := "LogicalReplicator", name := "crashSubscriber", desc := "()V" } : Jvm.MethodName)) ∈ tables_1 := mem1 205 rfl
theorem w206 : (Jvm.Cond.selects "LogicalReplicator" ({ cls := "LogicalReplicator", name := "crashSubscriber", desc := "()V" } : Jvm.MethodName) ({ cls := "LogicalReplicator", name := "crashSubscriber", desc := "()V" } : Jvm.MethodName)) ∈ tables_1 := mem1 206 rfl
theorem w208 : (Jvm.Cond.methodLink "LogicalReplicator" (134 : Nat) ({ cls := "LogicalReplicator", name := "handleHead", desc := "()V" } : Jvm.MethodName)) ∈ tables_1 := mem1 208 rfl
theorem w209 : (Jvm.Cond.instanceMethod ({ cls := "LogicalReplicator", name := "handleHead", desc := "()V" } : Jvm.MethodName)) ∈ tables_1 := mem1 209 rfl
theorem w210 : (Jvm.Cond.privateMethod ({ cls := "LogicalReplicator", name := "handleHead", desc := "()V" } : Jvm.MethodName)) ∈ tables_1 := mem1 210 rfl
theorem w212 : (Jvm.Cond.methodLink "LogicalReplicator" (137 : Nat) ({ cls := "LogicalReplicator", name := "applyPending", desc := "()V" } : Jvm.MethodName)) ∈ tables_1 := mem1 212 rfl
theorem w213 : (Jvm.Cond.instanceMethod ({ cls := "LogicalReplicator", name := "applyPending", desc := "()V" } : Jvm.MethodName)) ∈ tables_1 := mem1 213 rfl
theorem w214 : (Jvm.Cond.privateMethod ({ cls := "LogicalReplicator", name := "applyPending", desc := "()V" } : Jvm.MethodName)) ∈ tables_1 := mem1 214 rfl
theorem fS_0 : K.2.1[0]? = some ("nKeys", "I") := rfl
theorem fS_1 : K.2.1[1]? = some ("nSlots", "I") := rfl
theorem fS_2 : K.2.1[2]? = some ("logCap", "I") := rfl
theorem fS_3 : K.2.1[3]? = some ("memCap", "I") := rfl
theorem fS_4 : K.2.1[4]? = some ("length", "I") := rfl
theorem fS_5 : K.2.1[5]? = some ("emittedPos", "I") := rfl
theorem fS_6 : K.2.1[6]? = some ("appliedPos", "I") := rfl
theorem fS_7 : K.2.1[7]? = some ("confirmedPos", "I") := rfl
theorem fS_8 : K.2.1[8]? = some ("qHead", "I") := rfl
theorem fS_9 : K.2.1[9]? = some ("qCount", "I") := rfl
theorem fA_0 : K.2.2[0]? = some ("recKind", .int, (129 : Int32)) := rfl
theorem fA_1 : K.2.2[1]? = some ("recSlot", .int, (129 : Int32)) := rfl
theorem fA_2 : K.2.2[2]? = some ("recKey", .int, (129 : Int32)) := rfl
theorem fA_3 : K.2.2[3]? = some ("recVal", .int, (129 : Int32)) := rfl
theorem fA_4 : K.2.2[4]? = some ("recBegin", .int, (129 : Int32)) := rfl
theorem fA_5 : K.2.2[5]? = some ("slotOpen", .boolean, (8 : Int32)) := rfl
theorem fA_6 : K.2.2[6]? = some ("slotBegin", .int, (8 : Int32)) := rfl
theorem fA_7 : K.2.2[7]? = some ("pubHas", .boolean, (32 : Int32)) := rfl
theorem fA_8 : K.2.2[8]? = some ("pubVal", .int, (32 : Int32)) := rfl
theorem fA_9 : K.2.2[9]? = some ("subHas", .boolean, (32 : Int32)) := rfl
theorem fA_10 : K.2.2[10]? = some ("subVal", .int, (32 : Int32)) := rfl
theorem fA_11 : K.2.2[11]? = some ("pendKind", .int, (32 : Int32)) := rfl
theorem fA_12 : K.2.2[12]? = some ("pendVal", .int, (32 : Int32)) := rfl
theorem fA_13 : K.2.2[13]? = some ("qKind", .int, (128 : Int32)) := rfl
theorem fA_14 : K.2.2[14]? = some ("qKey", .int, (128 : Int32)) := rfl
theorem fA_15 : K.2.2[15]? = some ("qVal", .int, (128 : Int32)) := rfl
theorem fA_16 : K.2.2[16]? = some ("qPos", .int, (128 : Int32)) := rfl
theorem cb_m4 : (Int8.ofInt (-4)).toInt32 = (-4 : Int32) := by decide
theorem cb_m3 : (Int8.ofInt (-3)).toInt32 = (-3 : Int32) := by decide
theorem cb_m2 : (Int8.ofInt (-2)).toInt32 = (-2 : Int32) := by decide
theorem cb_6 : (Int8.ofInt 6).toInt32 = (6 : Int32) := by decide
theorem cb_7 : (Int8.ofInt 7).toInt32 = (7 : Int32) := by decide
theorem cb_8 : (Int8.ofInt 8).toInt32 = (8 : Int32) := by decide
theorem cb_9 : (Int8.ofInt 9).toInt32 = (9 : Int32) := by decide
theorem cb_10 : (Int8.ofInt 10).toInt32 = (10 : Int32) := by decide
theorem cb_12 : (Int8.ofInt 12).toInt32 = (12 : Int32) := by decide
theorem cb_13 : (Int8.ofInt 13).toInt32 = (13 : Int32) := by decide
theorem cb_14 : (Int8.ofInt 14).toInt32 = (14 : Int32) := by decide
theorem cb_15 : (Int8.ofInt 15).toInt32 = (15 : Int32) := by decide
theorem cb_16 : (Int8.ofInt 16).toInt32 = (16 : Int32) := by decide
theorem cb_32 : (Int8.ofInt 32).toInt32 = (32 : Int32) := by decide
theorem cb_64 : (Int8.ofInt 64).toInt32 = (64 : Int32) := by decide
theorem ci_m1 : Int32.ofInt (-1) = (-1 : Int32) := by decide
theorem ci_0 : Int32.ofInt 0 = (0 : Int32) := by decide
theorem ci_1 : Int32.ofInt 1 = (1 : Int32) := by decide
theorem ci_2 : Int32.ofInt 2 = (2 : Int32) := by decide
theorem ci_3 : Int32.ofInt 3 = (3 : Int32) := by decide
theorem ci_4 : Int32.ofInt 4 = (4 : Int32) := by decide
theorem ci_5 : Int32.ofInt 5 = (5 : Int32) := by decide
theorem cl_0 : Int64.ofNat (0 : Fin 2) = (0 : Int64) := by decide
theorem cs_128 : (Int16.ofInt 128).toInt32 = (128 : Int32) := by decide
theorem cs_129 : (Int16.ofInt 129).toInt32 = (129 : Int32) := by decide
theorem cs_256 : (Int16.ofInt 256).toInt32 = (256 : Int32) := by decide
def B2 : Bdy := ((⟨"LogicalReplicator", "clamp", "(III)I"⟩ : MethodName), prog_1_method_2_code, 4, (some .int), ({ frames := 0, cells := 0, slots := 0, locals := 0 } : Room))
theorem d2_0 : DAt B2 0 (.iload_n 1) 1 1 := ⟨by decide +kernel, rfl⟩
theorem d2_1 : DAt B2 1 (.iload_n 2) 1 2 := ⟨by decide +kernel, rfl⟩
theorem d2_2 : DAt B2 2 (.if_icmp .ge 5) 3 5 := ⟨by decide +kernel, rfl⟩
theorem d2_5 : DAt B2 5 (.iload_n 2) 1 6 := ⟨by decide +kernel, rfl⟩
theorem d2_6 : DAt B2 6 (.ireturn) 1 7 := ⟨by decide +kernel, rfl⟩
theorem d2_7 : DAt B2 7 (.iload_n 1) 1 8 := ⟨by decide +kernel, rfl⟩
theorem d2_8 : DAt B2 8 (.iload_n 3) 1 9 := ⟨by decide +kernel, rfl⟩
theorem d2_9 : DAt B2 9 (.if_icmp .le 5) 3 12 := ⟨by decide +kernel, rfl⟩
theorem d2_12 : DAt B2 12 (.iload_n 3) 1 13 := ⟨by decide +kernel, rfl⟩
theorem d2_13 : DAt B2 13 (.ireturn) 1 14 := ⟨by decide +kernel, rfl⟩
theorem d2_14 : DAt B2 14 (.iload_n 1) 1 15 := ⟨by decide +kernel, rfl⟩
theorem d2_15 : DAt B2 15 (.ireturn) 1 16 := ⟨by decide +kernel, rfl⟩
def B1 : Bdy := ((⟨"LogicalReplicator", "<init>", "(IIII)V"⟩ : MethodName), prog_1_method_1_code, 5, none, ({ frames := 1, cells := 17, slots := 1365, locals := 16 } : Room))
theorem d1_0 : DAt B1 0 (.aload_n 0) 1 1 := ⟨by decide +kernel, rfl⟩
theorem d1_1 : DAt B1 1 (.invokespecial 1) 3 4 := ⟨by decide +kernel, rfl⟩
theorem d1_4 : DAt B1 4 (.aload_n 0) 1 5 := ⟨by decide +kernel, rfl⟩
theorem d1_5 : DAt B1 5 (.sipush 129) 3 8 := ⟨by decide +kernel, rfl⟩
theorem d1_8 : DAt B1 8 (.newarray .int) 2 10 := ⟨by decide +kernel, rfl⟩
theorem d1_10 : DAt B1 10 (.putfield 7) 3 13 := ⟨by decide +kernel, rfl⟩
theorem d1_13 : DAt B1 13 (.aload_n 0) 1 14 := ⟨by decide +kernel, rfl⟩
theorem d1_14 : DAt B1 14 (.sipush 129) 3 17 := ⟨by decide +kernel, rfl⟩
theorem d1_17 : DAt B1 17 (.newarray .int) 2 19 := ⟨by decide +kernel, rfl⟩
theorem d1_19 : DAt B1 19 (.putfield 13) 3 22 := ⟨by decide +kernel, rfl⟩
theorem d1_22 : DAt B1 22 (.aload_n 0) 1 23 := ⟨by decide +kernel, rfl⟩
theorem d1_23 : DAt B1 23 (.sipush 129) 3 26 := ⟨by decide +kernel, rfl⟩
theorem d1_26 : DAt B1 26 (.newarray .int) 2 28 := ⟨by decide +kernel, rfl⟩
theorem d1_28 : DAt B1 28 (.putfield 16) 3 31 := ⟨by decide +kernel, rfl⟩
theorem d1_31 : DAt B1 31 (.aload_n 0) 1 32 := ⟨by decide +kernel, rfl⟩
theorem d1_32 : DAt B1 32 (.sipush 129) 3 35 := ⟨by decide +kernel, rfl⟩
theorem d1_35 : DAt B1 35 (.newarray .int) 2 37 := ⟨by decide +kernel, rfl⟩
theorem d1_37 : DAt B1 37 (.putfield 19) 3 40 := ⟨by decide +kernel, rfl⟩
theorem d1_40 : DAt B1 40 (.aload_n 0) 1 41 := ⟨by decide +kernel, rfl⟩
theorem d1_41 : DAt B1 41 (.sipush 129) 3 44 := ⟨by decide +kernel, rfl⟩
theorem d1_44 : DAt B1 44 (.newarray .int) 2 46 := ⟨by decide +kernel, rfl⟩
theorem d1_46 : DAt B1 46 (.putfield 22) 3 49 := ⟨by decide +kernel, rfl⟩
theorem d1_49 : DAt B1 49 (.aload_n 0) 1 50 := ⟨by decide +kernel, rfl⟩
theorem d1_50 : DAt B1 50 (.bipush 8) 2 52 := ⟨by decide +kernel, rfl⟩
theorem d1_52 : DAt B1 52 (.newarray .boolean) 2 54 := ⟨by decide +kernel, rfl⟩
theorem d1_54 : DAt B1 54 (.putfield 25) 3 57 := ⟨by decide +kernel, rfl⟩
theorem d1_57 : DAt B1 57 (.aload_n 0) 1 58 := ⟨by decide +kernel, rfl⟩
theorem d1_58 : DAt B1 58 (.bipush 8) 2 60 := ⟨by decide +kernel, rfl⟩
theorem d1_60 : DAt B1 60 (.newarray .int) 2 62 := ⟨by decide +kernel, rfl⟩
theorem d1_62 : DAt B1 62 (.putfield 29) 3 65 := ⟨by decide +kernel, rfl⟩
theorem d1_65 : DAt B1 65 (.aload_n 0) 1 66 := ⟨by decide +kernel, rfl⟩
theorem d1_66 : DAt B1 66 (.bipush 32) 2 68 := ⟨by decide +kernel, rfl⟩
theorem d1_68 : DAt B1 68 (.newarray .boolean) 2 70 := ⟨by decide +kernel, rfl⟩
theorem d1_70 : DAt B1 70 (.putfield 32) 3 73 := ⟨by decide +kernel, rfl⟩
theorem d1_73 : DAt B1 73 (.aload_n 0) 1 74 := ⟨by decide +kernel, rfl⟩
theorem d1_74 : DAt B1 74 (.bipush 32) 2 76 := ⟨by decide +kernel, rfl⟩
theorem d1_76 : DAt B1 76 (.newarray .int) 2 78 := ⟨by decide +kernel, rfl⟩
theorem d1_78 : DAt B1 78 (.putfield 35) 3 81 := ⟨by decide +kernel, rfl⟩
theorem d1_81 : DAt B1 81 (.aload_n 0) 1 82 := ⟨by decide +kernel, rfl⟩
theorem d1_82 : DAt B1 82 (.bipush 32) 2 84 := ⟨by decide +kernel, rfl⟩
theorem d1_84 : DAt B1 84 (.newarray .boolean) 2 86 := ⟨by decide +kernel, rfl⟩
theorem d1_86 : DAt B1 86 (.putfield 38) 3 89 := ⟨by decide +kernel, rfl⟩
theorem d1_89 : DAt B1 89 (.aload_n 0) 1 90 := ⟨by decide +kernel, rfl⟩
theorem d1_90 : DAt B1 90 (.bipush 32) 2 92 := ⟨by decide +kernel, rfl⟩
theorem d1_92 : DAt B1 92 (.newarray .int) 2 94 := ⟨by decide +kernel, rfl⟩
theorem d1_94 : DAt B1 94 (.putfield 41) 3 97 := ⟨by decide +kernel, rfl⟩
theorem d1_97 : DAt B1 97 (.aload_n 0) 1 98 := ⟨by decide +kernel, rfl⟩
theorem d1_98 : DAt B1 98 (.bipush 32) 2 100 := ⟨by decide +kernel, rfl⟩
theorem d1_100 : DAt B1 100 (.newarray .int) 2 102 := ⟨by decide +kernel, rfl⟩
theorem d1_102 : DAt B1 102 (.putfield 44) 3 105 := ⟨by decide +kernel, rfl⟩
theorem d1_105 : DAt B1 105 (.aload_n 0) 1 106 := ⟨by decide +kernel, rfl⟩
theorem d1_106 : DAt B1 106 (.bipush 32) 2 108 := ⟨by decide +kernel, rfl⟩
theorem d1_108 : DAt B1 108 (.newarray .int) 2 110 := ⟨by decide +kernel, rfl⟩
theorem d1_110 : DAt B1 110 (.putfield 47) 3 113 := ⟨by decide +kernel, rfl⟩
theorem d1_113 : DAt B1 113 (.aload_n 0) 1 114 := ⟨by decide +kernel, rfl⟩
theorem d1_114 : DAt B1 114 (.sipush 128) 3 117 := ⟨by decide +kernel, rfl⟩
theorem d1_117 : DAt B1 117 (.newarray .int) 2 119 := ⟨by decide +kernel, rfl⟩
theorem d1_119 : DAt B1 119 (.putfield 50) 3 122 := ⟨by decide +kernel, rfl⟩
theorem d1_122 : DAt B1 122 (.aload_n 0) 1 123 := ⟨by decide +kernel, rfl⟩
theorem d1_123 : DAt B1 123 (.sipush 128) 3 126 := ⟨by decide +kernel, rfl⟩
theorem d1_126 : DAt B1 126 (.newarray .int) 2 128 := ⟨by decide +kernel, rfl⟩
theorem d1_128 : DAt B1 128 (.putfield 53) 3 131 := ⟨by decide +kernel, rfl⟩
theorem d1_131 : DAt B1 131 (.aload_n 0) 1 132 := ⟨by decide +kernel, rfl⟩
theorem d1_132 : DAt B1 132 (.sipush 128) 3 135 := ⟨by decide +kernel, rfl⟩
theorem d1_135 : DAt B1 135 (.newarray .int) 2 137 := ⟨by decide +kernel, rfl⟩
theorem d1_137 : DAt B1 137 (.putfield 56) 3 140 := ⟨by decide +kernel, rfl⟩
theorem d1_140 : DAt B1 140 (.aload_n 0) 1 141 := ⟨by decide +kernel, rfl⟩
theorem d1_141 : DAt B1 141 (.sipush 128) 3 144 := ⟨by decide +kernel, rfl⟩
theorem d1_144 : DAt B1 144 (.newarray .int) 2 146 := ⟨by decide +kernel, rfl⟩
theorem d1_146 : DAt B1 146 (.putfield 59) 3 149 := ⟨by decide +kernel, rfl⟩
theorem d1_149 : DAt B1 149 (.aload_n 0) 1 150 := ⟨by decide +kernel, rfl⟩
theorem d1_150 : DAt B1 150 (.aload_n 0) 1 151 := ⟨by decide +kernel, rfl⟩
theorem d1_151 : DAt B1 151 (.iload_n 1) 1 152 := ⟨by decide +kernel, rfl⟩
theorem d1_152 : DAt B1 152 (.bipush 8) 2 154 := ⟨by decide +kernel, rfl⟩
theorem d1_154 : DAt B1 154 (.bipush 32) 2 156 := ⟨by decide +kernel, rfl⟩
theorem d1_156 : DAt B1 156 (.invokevirtual 62) 3 159 := ⟨by decide +kernel, rfl⟩
theorem d1_159 : DAt B1 159 (.putfield 66) 3 162 := ⟨by decide +kernel, rfl⟩
theorem d1_162 : DAt B1 162 (.aload_n 0) 1 163 := ⟨by decide +kernel, rfl⟩
theorem d1_163 : DAt B1 163 (.aload_n 0) 1 164 := ⟨by decide +kernel, rfl⟩
theorem d1_164 : DAt B1 164 (.iload_n 2) 1 165 := ⟨by decide +kernel, rfl⟩
theorem d1_165 : DAt B1 165 (.iconst 2) 1 166 := ⟨by decide +kernel, rfl⟩
theorem d1_166 : DAt B1 166 (.bipush 8) 2 168 := ⟨by decide +kernel, rfl⟩
theorem d1_168 : DAt B1 168 (.invokevirtual 62) 3 171 := ⟨by decide +kernel, rfl⟩
theorem d1_171 : DAt B1 171 (.putfield 70) 3 174 := ⟨by decide +kernel, rfl⟩
theorem d1_174 : DAt B1 174 (.aload_n 0) 1 175 := ⟨by decide +kernel, rfl⟩
theorem d1_175 : DAt B1 175 (.aload_n 0) 1 176 := ⟨by decide +kernel, rfl⟩
theorem d1_176 : DAt B1 176 (.iload_n 3) 1 177 := ⟨by decide +kernel, rfl⟩
theorem d1_177 : DAt B1 177 (.bipush 16) 2 179 := ⟨by decide +kernel, rfl⟩
theorem d1_179 : DAt B1 179 (.sipush 128) 3 182 := ⟨by decide +kernel, rfl⟩
theorem d1_182 : DAt B1 182 (.invokevirtual 62) 3 185 := ⟨by decide +kernel, rfl⟩
theorem d1_185 : DAt B1 185 (.putfield 73) 3 188 := ⟨by decide +kernel, rfl⟩
theorem d1_188 : DAt B1 188 (.aload_n 0) 1 189 := ⟨by decide +kernel, rfl⟩
theorem d1_189 : DAt B1 189 (.aload_n 0) 1 190 := ⟨by decide +kernel, rfl⟩
theorem d1_190 : DAt B1 190 (.iload 4) 2 192 := ⟨by decide +kernel, rfl⟩
theorem d1_192 : DAt B1 192 (.iconst 2) 1 193 := ⟨by decide +kernel, rfl⟩
theorem d1_193 : DAt B1 193 (.bipush 32) 2 195 := ⟨by decide +kernel, rfl⟩
theorem d1_195 : DAt B1 195 (.invokevirtual 62) 3 198 := ⟨by decide +kernel, rfl⟩
theorem d1_198 : DAt B1 198 (.putfield 76) 3 201 := ⟨by decide +kernel, rfl⟩
theorem d1_201 : DAt B1 201 (.aload_n 0) 1 202 := ⟨by decide +kernel, rfl⟩
theorem d1_202 : DAt B1 202 (.iconst 0) 1 203 := ⟨by decide +kernel, rfl⟩
theorem d1_203 : DAt B1 203 (.putfield 79) 3 206 := ⟨by decide +kernel, rfl⟩
theorem d1_206 : DAt B1 206 (.aload_n 0) 1 207 := ⟨by decide +kernel, rfl⟩
theorem d1_207 : DAt B1 207 (.iconst 0) 1 208 := ⟨by decide +kernel, rfl⟩
theorem d1_208 : DAt B1 208 (.putfield 82) 3 211 := ⟨by decide +kernel, rfl⟩
theorem d1_211 : DAt B1 211 (.aload_n 0) 1 212 := ⟨by decide +kernel, rfl⟩
theorem d1_212 : DAt B1 212 (.iconst 0) 1 213 := ⟨by decide +kernel, rfl⟩
theorem d1_213 : DAt B1 213 (.putfield 85) 3 216 := ⟨by decide +kernel, rfl⟩
theorem d1_216 : DAt B1 216 (.aload_n 0) 1 217 := ⟨by decide +kernel, rfl⟩
theorem d1_217 : DAt B1 217 (.iconst 0) 1 218 := ⟨by decide +kernel, rfl⟩
theorem d1_218 : DAt B1 218 (.putfield 88) 3 221 := ⟨by decide +kernel, rfl⟩
theorem d1_221 : DAt B1 221 (.aload_n 0) 1 222 := ⟨by decide +kernel, rfl⟩
theorem d1_222 : DAt B1 222 (.iconst 0) 1 223 := ⟨by decide +kernel, rfl⟩
theorem d1_223 : DAt B1 223 (.putfield 91) 3 226 := ⟨by decide +kernel, rfl⟩
theorem d1_226 : DAt B1 226 (.aload_n 0) 1 227 := ⟨by decide +kernel, rfl⟩
theorem d1_227 : DAt B1 227 (.iconst 0) 1 228 := ⟨by decide +kernel, rfl⟩
theorem d1_228 : DAt B1 228 (.putfield 94) 3 231 := ⟨by decide +kernel, rfl⟩
theorem d1_231 : DAt B1 231 (.return_) 1 232 := ⟨by decide +kernel, rfl⟩
def B3 : Bdy := ((⟨"LogicalReplicator", "info", "(I)I"⟩ : MethodName), prog_1_method_31_code, 2, (some .int), ({ frames := 0, cells := 0, slots := 0, locals := 0 } : Room))
theorem d3_0 : DAt B3 0 (.iload_n 1) 1 1 := ⟨by decide +kernel, rfl⟩
theorem d3_1 : DAt B3 1 (.tableswitch 87 0 7 #[47, 52, 57, 62, 67, 72, 77, 82]) 47 48 := ⟨by decide +kernel, rfl⟩
theorem d3_48 : DAt B3 48 (.aload_n 0) 1 49 := ⟨by decide +kernel, rfl⟩
theorem d3_49 : DAt B3 49 (.getfield 79) 3 52 := ⟨by decide +kernel, rfl⟩
theorem d3_52 : DAt B3 52 (.ireturn) 1 53 := ⟨by decide +kernel, rfl⟩
theorem d3_53 : DAt B3 53 (.aload_n 0) 1 54 := ⟨by decide +kernel, rfl⟩
theorem d3_58 : DAt B3 58 (.aload_n 0) 1 59 := ⟨by decide +kernel, rfl⟩
theorem d3_59 : DAt B3 59 (.getfield 82) 3 62 := ⟨by decide +kernel, rfl⟩
theorem d3_62 : DAt B3 62 (.ireturn) 1 63 := ⟨by decide +kernel, rfl⟩
theorem d3_63 : DAt B3 63 (.aload_n 0) 1 64 := ⟨by decide +kernel, rfl⟩
theorem d3_64 : DAt B3 64 (.getfield 94) 3 67 := ⟨by decide +kernel, rfl⟩
theorem d3_67 : DAt B3 67 (.ireturn) 1 68 := ⟨by decide +kernel, rfl⟩
theorem d3_68 : DAt B3 68 (.aload_n 0) 1 69 := ⟨by decide +kernel, rfl⟩
theorem d3_69 : DAt B3 69 (.getfield 85) 3 72 := ⟨by decide +kernel, rfl⟩
theorem d3_72 : DAt B3 72 (.ireturn) 1 73 := ⟨by decide +kernel, rfl⟩
theorem d3_73 : DAt B3 73 (.aload_n 0) 1 74 := ⟨by decide +kernel, rfl⟩
theorem d3_74 : DAt B3 74 (.getfield 88) 3 77 := ⟨by decide +kernel, rfl⟩
theorem d3_77 : DAt B3 77 (.ireturn) 1 78 := ⟨by decide +kernel, rfl⟩
theorem d3_78 : DAt B3 78 (.aload_n 0) 1 79 := ⟨by decide +kernel, rfl⟩
theorem d3_83 : DAt B3 83 (.aload_n 0) 1 84 := ⟨by decide +kernel, rfl⟩
theorem d3_88 : DAt B3 88 (.iconst (-1)) 1 89 := ⟨by decide +kernel, rfl⟩
theorem d3_89 : DAt B3 89 (.ireturn) 1 90 := ⟨by decide +kernel, rfl⟩
def B15 : Bdy := ((⟨"LogicalReplicator", "logRecord", "(I)J"⟩ : MethodName), prog_1_method_30_code, 6, (some .long), ({ frames := 0, cells := 0, slots := 0, locals := 0 } : Room))
theorem d15_0 : DAt B15 0 (.iload_n 1) 1 1 := ⟨by decide +kernel, rfl⟩
theorem d15_1 : DAt B15 1 (.iconst 1) 1 2 := ⟨by decide +kernel, rfl⟩
theorem d15_2 : DAt B15 2 (.if_icmp .lt 18) 3 5 := ⟨by decide +kernel, rfl⟩
theorem d15_5 : DAt B15 5 (.iload_n 1) 1 6 := ⟨by decide +kernel, rfl⟩
theorem d15_6 : DAt B15 6 (.aload_n 0) 1 7 := ⟨by decide +kernel, rfl⟩
theorem d15_7 : DAt B15 7 (.getfield 79) 3 10 := ⟨by decide +kernel, rfl⟩
theorem d15_10 : DAt B15 10 (.if_icmp .gt 10) 3 13 := ⟨by decide +kernel, rfl⟩
theorem d15_13 : DAt B15 13 (.iload_n 1) 1 14 := ⟨by decide +kernel, rfl⟩
theorem d15_14 : DAt B15 14 (.sipush 129) 3 17 := ⟨by decide +kernel, rfl⟩
theorem d15_17 : DAt B15 17 (.if_icmp .lt 5) 3 20 := ⟨by decide +kernel, rfl⟩
theorem d15_20 : DAt B15 20 (.lconst 0) 1 21 := ⟨by decide +kernel, rfl⟩
theorem d15_21 : DAt B15 21 (.lreturn) 1 22 := ⟨by decide +kernel, rfl⟩
theorem d15_22 : DAt B15 22 (.aload_n 0) 1 23 := ⟨by decide +kernel, rfl⟩
theorem d15_23 : DAt B15 23 (.getfield 7) 3 26 := ⟨by decide +kernel, rfl⟩
theorem d15_26 : DAt B15 26 (.iload_n 1) 1 27 := ⟨by decide +kernel, rfl⟩
theorem d15_27 : DAt B15 27 (.iaload) 1 28 := ⟨by decide +kernel, rfl⟩
theorem d15_28 : DAt B15 28 (.sipush 256) 3 31 := ⟨by decide +kernel, rfl⟩
theorem d15_31 : DAt B15 31 (.aload_n 0) 1 32 := ⟨by decide +kernel, rfl⟩
theorem d15_32 : DAt B15 32 (.getfield 13) 3 35 := ⟨by decide +kernel, rfl⟩
theorem d15_35 : DAt B15 35 (.iload_n 1) 1 36 := ⟨by decide +kernel, rfl⟩
theorem d15_36 : DAt B15 36 (.iaload) 1 37 := ⟨by decide +kernel, rfl⟩
theorem d15_37 : DAt B15 37 (.imul) 1 38 := ⟨by decide +kernel, rfl⟩
theorem d15_38 : DAt B15 38 (.iadd) 1 39 := ⟨by decide +kernel, rfl⟩
theorem d15_39 : DAt B15 39 (.ldc 152) 2 41 := ⟨by decide +kernel, rfl⟩
theorem d15_41 : DAt B15 41 (.aload_n 0) 1 42 := ⟨by decide +kernel, rfl⟩
theorem d15_42 : DAt B15 42 (.getfield 16) 3 45 := ⟨by decide +kernel, rfl⟩
theorem d15_45 : DAt B15 45 (.iload_n 1) 1 46 := ⟨by decide +kernel, rfl⟩
theorem d15_46 : DAt B15 46 (.iaload) 1 47 := ⟨by decide +kernel, rfl⟩
theorem d15_47 : DAt B15 47 (.imul) 1 48 := ⟨by decide +kernel, rfl⟩
theorem d15_48 : DAt B15 48 (.iadd) 1 49 := ⟨by decide +kernel, rfl⟩
theorem d15_49 : DAt B15 49 (.i2l) 1 50 := ⟨by decide +kernel, rfl⟩
theorem d15_50 : DAt B15 50 (.lstore_n 2) 1 51 := ⟨by decide +kernel, rfl⟩
theorem d15_51 : DAt B15 51 (.aload_n 0) 1 52 := ⟨by decide +kernel, rfl⟩
theorem d15_52 : DAt B15 52 (.getfield 19) 3 55 := ⟨by decide +kernel, rfl⟩
theorem d15_55 : DAt B15 55 (.iload_n 1) 1 56 := ⟨by decide +kernel, rfl⟩
theorem d15_56 : DAt B15 56 (.iaload) 1 57 := ⟨by decide +kernel, rfl⟩
theorem d15_57 : DAt B15 57 (.i2l) 1 58 := ⟨by decide +kernel, rfl⟩
theorem d15_58 : DAt B15 58 (.bipush 32) 2 60 := ⟨by decide +kernel, rfl⟩
theorem d15_60 : DAt B15 60 (.lshl) 1 61 := ⟨by decide +kernel, rfl⟩
theorem d15_61 : DAt B15 61 (.lstore 4) 2 63 := ⟨by decide +kernel, rfl⟩
theorem d15_63 : DAt B15 63 (.lload 4) 2 65 := ⟨by decide +kernel, rfl⟩
theorem d15_65 : DAt B15 65 (.lload_n 2) 1 66 := ⟨by decide +kernel, rfl⟩
theorem d15_66 : DAt B15 66 (.lor) 1 67 := ⟨by decide +kernel, rfl⟩
theorem d15_67 : DAt B15 67 (.lreturn) 1 68 := ⟨by decide +kernel, rfl⟩
def B16 : Bdy := ((⟨"LogicalReplicatorOwnLaw", "kind", "(J)I"⟩ : MethodName), method_3_code, 2, (some .int), ({ frames := 0, cells := 0, slots := 0, locals := 0 } : Room))
theorem d16_0 : DAt B16 0 (.lload_n 0) 1 1 := ⟨by decide +kernel, rfl⟩
theorem d16_1 : DAt B16 1 (.ldc2_w 7) 3 4 := ⟨by decide +kernel, rfl⟩
theorem d16_4 : DAt B16 4 (.land) 1 5 := ⟨by decide +kernel, rfl⟩
theorem d16_5 : DAt B16 5 (.l2i) 1 6 := ⟨by decide +kernel, rfl⟩
theorem d16_6 : DAt B16 6 (.ireturn) 1 7 := ⟨by decide +kernel, rfl⟩
def B28 : Bdy := ((⟨"LogicalReplicatorOwnLaw", "slot", "(J)I"⟩ : MethodName), method_4_code, 2, (some .int), ({ frames := 0, cells := 0, slots := 0, locals := 0 } : Room))
theorem d28_0 : DAt B28 0 (.lload_n 0) 1 1 := ⟨by decide +kernel, rfl⟩
theorem d28_1 : DAt B28 1 (.bipush 8) 2 3 := ⟨by decide +kernel, rfl⟩
theorem d28_3 : DAt B28 3 (.lushr) 1 4 := ⟨by decide +kernel, rfl⟩
theorem d28_4 : DAt B28 4 (.ldc2_w 7) 3 7 := ⟨by decide +kernel, rfl⟩
theorem d28_7 : DAt B28 7 (.land) 1 8 := ⟨by decide +kernel, rfl⟩
theorem d28_8 : DAt B28 8 (.l2i) 1 9 := ⟨by decide +kernel, rfl⟩
theorem d28_9 : DAt B28 9 (.ireturn) 1 10 := ⟨by decide +kernel, rfl⟩
def B29 : Bdy := ((⟨"LogicalReplicatorOwnLaw", "key", "(J)I"⟩ : MethodName), method_5_code, 2, (some .int), ({ frames := 0, cells := 0, slots := 0, locals := 0 } : Room))
theorem d29_0 : DAt B29 0 (.lload_n 0) 1 1 := ⟨by decide +kernel, rfl⟩
theorem d29_1 : DAt B29 1 (.bipush 16) 2 3 := ⟨by decide +kernel, rfl⟩
theorem d29_3 : DAt B29 3 (.lushr) 1 4 := ⟨by decide +kernel, rfl⟩
theorem d29_4 : DAt B29 4 (.ldc2_w 9) 3 7 := ⟨by decide +kernel, rfl⟩
theorem d29_7 : DAt B29 7 (.land) 1 8 := ⟨by decide +kernel, rfl⟩
theorem d29_8 : DAt B29 8 (.l2i) 1 9 := ⟨by decide +kernel, rfl⟩
theorem d29_9 : DAt B29 9 (.ireturn) 1 10 := ⟨by decide +kernel, rfl⟩
def B30 : Bdy := ((⟨"LogicalReplicatorOwnLaw", "val", "(J)I"⟩ : MethodName), method_6_code, 2, (some .int), ({ frames := 0, cells := 0, slots := 0, locals := 0 } : Room))
theorem d30_0 : DAt B30 0 (.lload_n 0) 1 1 := ⟨by decide +kernel, rfl⟩
theorem d30_1 : DAt B30 1 (.bipush 32) 2 3 := ⟨by decide +kernel, rfl⟩
theorem d30_3 : DAt B30 3 (.lshr) 1 4 := ⟨by decide +kernel, rfl⟩
theorem d30_4 : DAt B30 4 (.l2i) 1 5 := ⟨by decide +kernel, rfl⟩
theorem d30_5 : DAt B30 5 (.ireturn) 1 6 := ⟨by decide +kernel, rfl⟩
def B5 : Bdy := ((⟨"LogicalReplicator", "validKey", "(I)Z"⟩ : MethodName), prog_1_method_4_code, 2, (some .boolean), ({ frames := 0, cells := 0, slots := 0, locals := 0 } : Room))
theorem d5_0 : DAt B5 0 (.iload_n 1) 1 1 := ⟨by decide +kernel, rfl⟩
theorem d5_1 : DAt B5 1 (.ifCond .lt 21) 3 4 := ⟨by decide +kernel, rfl⟩
theorem d5_4 : DAt B5 4 (.iload_n 1) 1 5 := ⟨by decide +kernel, rfl⟩
theorem d5_5 : DAt B5 5 (.aload_n 0) 1 6 := ⟨by decide +kernel, rfl⟩
theorem d5_6 : DAt B5 6 (.getfield 66) 3 9 := ⟨by decide +kernel, rfl⟩
theorem d5_9 : DAt B5 9 (.if_icmp .ge 13) 3 12 := ⟨by decide +kernel, rfl⟩
theorem d5_12 : DAt B5 12 (.iload_n 1) 1 13 := ⟨by decide +kernel, rfl⟩
theorem d5_13 : DAt B5 13 (.bipush 32) 2 15 := ⟨by decide +kernel, rfl⟩
theorem d5_15 : DAt B5 15 (.if_icmp .ge 7) 3 18 := ⟨by decide +kernel, rfl⟩
theorem d5_18 : DAt B5 18 (.iconst 1) 1 19 := ⟨by decide +kernel, rfl⟩
theorem d5_19 : DAt B5 19 (.goto 4) 3 22 := ⟨by decide +kernel, rfl⟩
theorem d5_22 : DAt B5 22 (.iconst 0) 1 23 := ⟨by decide +kernel, rfl⟩
theorem d5_23 : DAt B5 23 (.ireturn) 1 24 := ⟨by decide +kernel, rfl⟩
def B4 : Bdy := ((⟨"LogicalReplicator", "pubRow", "(I)J"⟩ : MethodName), prog_1_method_27_code, 2, (some .long), ({ frames := 1, cells := 0, slots := 0, locals := 13 } : Room))
theorem d4_0 : DAt B4 0 (.aload_n 0) 1 1 := ⟨by decide +kernel, rfl⟩
theorem d4_1 : DAt B4 1 (.iload_n 1) 1 2 := ⟨by decide +kernel, rfl⟩
theorem d4_2 : DAt B4 2 (.invokevirtual 116) 3 5 := ⟨by decide +kernel, rfl⟩
theorem d4_5 : DAt B4 5 (.ifCond .ne 7) 3 8 := ⟨by decide +kernel, rfl⟩
theorem d4_8 : DAt B4 8 (.ldc2_w 146) 3 11 := ⟨by decide +kernel, rfl⟩
theorem d4_11 : DAt B4 11 (.lreturn) 1 12 := ⟨by decide +kernel, rfl⟩
theorem d4_12 : DAt B4 12 (.aload_n 0) 1 13 := ⟨by decide +kernel, rfl⟩
theorem d4_13 : DAt B4 13 (.getfield 32) 3 16 := ⟨by decide +kernel, rfl⟩
theorem d4_16 : DAt B4 16 (.iload_n 1) 1 17 := ⟨by decide +kernel, rfl⟩
theorem d4_17 : DAt B4 17 (.baload) 1 18 := ⟨by decide +kernel, rfl⟩
theorem d4_18 : DAt B4 18 (.ifCond .eq 11) 3 21 := ⟨by decide +kernel, rfl⟩
theorem d4_21 : DAt B4 21 (.aload_n 0) 1 22 := ⟨by decide +kernel, rfl⟩
theorem d4_22 : DAt B4 22 (.getfield 35) 3 25 := ⟨by decide +kernel, rfl⟩
theorem d4_25 : DAt B4 25 (.iload_n 1) 1 26 := ⟨by decide +kernel, rfl⟩
theorem d4_26 : DAt B4 26 (.iaload) 1 27 := ⟨by decide +kernel, rfl⟩
theorem d4_27 : DAt B4 27 (.i2l) 1 28 := ⟨by decide +kernel, rfl⟩
theorem d4_28 : DAt B4 28 (.lreturn) 1 29 := ⟨by decide +kernel, rfl⟩
theorem d4_29 : DAt B4 29 (.ldc2_w 146) 3 32 := ⟨by decide +kernel, rfl⟩
theorem d4_32 : DAt B4 32 (.lreturn) 1 33 := ⟨by decide +kernel, rfl⟩
def B6 : Bdy := ((⟨"LogicalReplicator", "subRow", "(I)J"⟩ : MethodName), prog_1_method_28_code, 2, (some .long), ({ frames := 1, cells := 0, slots := 0, locals := 13 } : Room))
theorem d6_0 : DAt B6 0 (.aload_n 0) 1 1 := ⟨by decide +kernel, rfl⟩
theorem d6_1 : DAt B6 1 (.iload_n 1) 1 2 := ⟨by decide +kernel, rfl⟩
theorem d6_2 : DAt B6 2 (.invokevirtual 116) 3 5 := ⟨by decide +kernel, rfl⟩
theorem d6_5 : DAt B6 5 (.ifCond .ne 7) 3 8 := ⟨by decide +kernel, rfl⟩
theorem d6_8 : DAt B6 8 (.ldc2_w 146) 3 11 := ⟨by decide +kernel, rfl⟩
theorem d6_11 : DAt B6 11 (.lreturn) 1 12 := ⟨by decide +kernel, rfl⟩
theorem d6_12 : DAt B6 12 (.aload_n 0) 1 13 := ⟨by decide +kernel, rfl⟩
theorem d6_13 : DAt B6 13 (.getfield 38) 3 16 := ⟨by decide +kernel, rfl⟩
theorem d6_16 : DAt B6 16 (.iload_n 1) 1 17 := ⟨by decide +kernel, rfl⟩
theorem d6_17 : DAt B6 17 (.baload) 1 18 := ⟨by decide +kernel, rfl⟩
theorem d6_18 : DAt B6 18 (.ifCond .eq 11) 3 21 := ⟨by decide +kernel, rfl⟩
theorem d6_21 : DAt B6 21 (.aload_n 0) 1 22 := ⟨by decide +kernel, rfl⟩
theorem d6_22 : DAt B6 22 (.getfield 41) 3 25 := ⟨by decide +kernel, rfl⟩
theorem d6_25 : DAt B6 25 (.iload_n 1) 1 26 := ⟨by decide +kernel, rfl⟩
theorem d6_26 : DAt B6 26 (.iaload) 1 27 := ⟨by decide +kernel, rfl⟩
theorem d6_27 : DAt B6 27 (.i2l) 1 28 := ⟨by decide +kernel, rfl⟩
theorem d6_28 : DAt B6 28 (.lreturn) 1 29 := ⟨by decide +kernel, rfl⟩
theorem d6_29 : DAt B6 29 (.ldc2_w 146) 3 32 := ⟨by decide +kernel, rfl⟩
theorem d6_32 : DAt B6 32 (.lreturn) 1 33 := ⟨by decide +kernel, rfl⟩
def B7 : Bdy := ((⟨"LogicalReplicatorOwnLaw", "cell", "([II)I"⟩ : MethodName), method_2_code, 2, (some .int), ({ frames := 0, cells := 0, slots := 0, locals := 0 } : Room))
theorem d7_0 : DAt B7 0 (.iload_n 1) 1 1 := ⟨by decide +kernel, rfl⟩
theorem d7_1 : DAt B7 1 (.aload_n 0) 1 2 := ⟨by decide +kernel, rfl⟩
theorem d7_2 : DAt B7 2 (.arraylength) 1 3 := ⟨by decide +kernel, rfl⟩
theorem d7_3 : DAt B7 3 (.if_icmp .ge 9) 3 6 := ⟨by decide +kernel, rfl⟩
theorem d7_6 : DAt B7 6 (.aload_n 0) 1 7 := ⟨by decide +kernel, rfl⟩
theorem d7_7 : DAt B7 7 (.iload_n 1) 1 8 := ⟨by decide +kernel, rfl⟩
theorem d7_8 : DAt B7 8 (.iaload) 1 9 := ⟨by decide +kernel, rfl⟩
theorem d7_9 : DAt B7 9 (.goto 4) 3 12 := ⟨by decide +kernel, rfl⟩
theorem d7_12 : DAt B7 12 (.iconst 0) 1 13 := ⟨by decide +kernel, rfl⟩
theorem d7_13 : DAt B7 13 (.ireturn) 1 14 := ⟨by decide +kernel, rfl⟩
def B11 : Bdy := ((⟨"LogicalReplicator", "validSlot", "(I)Z"⟩ : MethodName), prog_1_method_3_code, 2, (some .boolean), ({ frames := 0, cells := 0, slots := 0, locals := 0 } : Room))
theorem d11_0 : DAt B11 0 (.iload_n 1) 1 1 := ⟨by decide +kernel, rfl⟩
theorem d11_1 : DAt B11 1 (.ifCond .lt 21) 3 4 := ⟨by decide +kernel, rfl⟩
theorem d11_4 : DAt B11 4 (.iload_n 1) 1 5 := ⟨by decide +kernel, rfl⟩
theorem d11_5 : DAt B11 5 (.aload_n 0) 1 6 := ⟨by decide +kernel, rfl⟩
theorem d11_6 : DAt B11 6 (.getfield 70) 3 9 := ⟨by decide +kernel, rfl⟩
theorem d11_9 : DAt B11 9 (.if_icmp .ge 13) 3 12 := ⟨by decide +kernel, rfl⟩
theorem d11_12 : DAt B11 12 (.iload_n 1) 1 13 := ⟨by decide +kernel, rfl⟩
theorem d11_13 : DAt B11 13 (.bipush 8) 2 15 := ⟨by decide +kernel, rfl⟩
theorem d11_15 : DAt B11 15 (.if_icmp .ge 7) 3 18 := ⟨by decide +kernel, rfl⟩
theorem d11_18 : DAt B11 18 (.iconst 1) 1 19 := ⟨by decide +kernel, rfl⟩
theorem d11_19 : DAt B11 19 (.goto 4) 3 22 := ⟨by decide +kernel, rfl⟩
theorem d11_22 : DAt B11 22 (.iconst 0) 1 23 := ⟨by decide +kernel, rfl⟩
theorem d11_23 : DAt B11 23 (.ireturn) 1 24 := ⟨by decide +kernel, rfl⟩
def B13 : Bdy := ((⟨"LogicalReplicator", "logFull", "()Z"⟩ : MethodName), prog_1_method_5_code, 1, (some .boolean), ({ frames := 0, cells := 0, slots := 0, locals := 0 } : Room))
theorem d13_0 : DAt B13 0 (.aload_n 0) 1 1 := ⟨by decide +kernel, rfl⟩
theorem d13_1 : DAt B13 1 (.getfield 79) 3 4 := ⟨by decide +kernel, rfl⟩
theorem d13_4 : DAt B13 4 (.aload_n 0) 1 5 := ⟨by decide +kernel, rfl⟩
theorem d13_5 : DAt B13 5 (.getfield 73) 3 8 := ⟨by decide +kernel, rfl⟩
theorem d13_8 : DAt B13 8 (.if_icmp .ge 13) 3 11 := ⟨by decide +kernel, rfl⟩
theorem d13_11 : DAt B13 11 (.aload_n 0) 1 12 := ⟨by decide +kernel, rfl⟩
theorem d13_12 : DAt B13 12 (.getfield 79) 3 15 := ⟨by decide +kernel, rfl⟩
theorem d13_15 : DAt B13 15 (.sipush 128) 3 18 := ⟨by decide +kernel, rfl⟩
theorem d13_18 : DAt B13 18 (.if_icmp .lt 7) 3 21 := ⟨by decide +kernel, rfl⟩
theorem d13_21 : DAt B13 21 (.iconst 1) 1 22 := ⟨by decide +kernel, rfl⟩
theorem d13_22 : DAt B13 22 (.goto 4) 3 25 := ⟨by decide +kernel, rfl⟩
theorem d13_25 : DAt B13 25 (.iconst 0) 1 26 := ⟨by decide +kernel, rfl⟩
theorem d13_26 : DAt B13 26 (.ireturn) 1 27 := ⟨by decide +kernel, rfl⟩
def B14 : Bdy := ((⟨"LogicalReplicator", "append", "(IIII)I"⟩ : MethodName), prog_1_method_7_code, 5, (some .int), ({ frames := 0, cells := 0, slots := 0, locals := 0 } : Room))
theorem d14_0 : DAt B14 0 (.aload_n 0) 1 1 := ⟨by decide +kernel, rfl⟩
theorem d14_1 : DAt B14 1 (.dup) 1 2 := ⟨by decide +kernel, rfl⟩
theorem d14_2 : DAt B14 2 (.getfield 79) 3 5 := ⟨by decide +kernel, rfl⟩
theorem d14_5 : DAt B14 5 (.iconst 1) 1 6 := ⟨by decide +kernel, rfl⟩
theorem d14_6 : DAt B14 6 (.iadd) 1 7 := ⟨by decide +kernel, rfl⟩
theorem d14_7 : DAt B14 7 (.putfield 79) 3 10 := ⟨by decide +kernel, rfl⟩
theorem d14_10 : DAt B14 10 (.aload_n 0) 1 11 := ⟨by decide +kernel, rfl⟩
theorem d14_11 : DAt B14 11 (.getfield 7) 3 14 := ⟨by decide +kernel, rfl⟩
theorem d14_14 : DAt B14 14 (.aload_n 0) 1 15 := ⟨by decide +kernel, rfl⟩
theorem d14_15 : DAt B14 15 (.getfield 79) 3 18 := ⟨by decide +kernel, rfl⟩
theorem d14_18 : DAt B14 18 (.iload_n 1) 1 19 := ⟨by decide +kernel, rfl⟩
theorem d14_19 : DAt B14 19 (.iastore) 1 20 := ⟨by decide +kernel, rfl⟩
theorem d14_20 : DAt B14 20 (.aload_n 0) 1 21 := ⟨by decide +kernel, rfl⟩
theorem d14_21 : DAt B14 21 (.getfield 13) 3 24 := ⟨by decide +kernel, rfl⟩
theorem d14_24 : DAt B14 24 (.aload_n 0) 1 25 := ⟨by decide +kernel, rfl⟩
theorem d14_25 : DAt B14 25 (.getfield 79) 3 28 := ⟨by decide +kernel, rfl⟩
theorem d14_28 : DAt B14 28 (.iload_n 2) 1 29 := ⟨by decide +kernel, rfl⟩
theorem d14_29 : DAt B14 29 (.iastore) 1 30 := ⟨by decide +kernel, rfl⟩
theorem d14_30 : DAt B14 30 (.aload_n 0) 1 31 := ⟨by decide +kernel, rfl⟩
theorem d14_31 : DAt B14 31 (.getfield 16) 3 34 := ⟨by decide +kernel, rfl⟩
theorem d14_34 : DAt B14 34 (.aload_n 0) 1 35 := ⟨by decide +kernel, rfl⟩
theorem d14_35 : DAt B14 35 (.getfield 79) 3 38 := ⟨by decide +kernel, rfl⟩
theorem d14_38 : DAt B14 38 (.iload_n 3) 1 39 := ⟨by decide +kernel, rfl⟩
theorem d14_39 : DAt B14 39 (.iastore) 1 40 := ⟨by decide +kernel, rfl⟩
theorem d14_40 : DAt B14 40 (.aload_n 0) 1 41 := ⟨by decide +kernel, rfl⟩
theorem d14_41 : DAt B14 41 (.getfield 19) 3 44 := ⟨by decide +kernel, rfl⟩
theorem d14_44 : DAt B14 44 (.aload_n 0) 1 45 := ⟨by decide +kernel, rfl⟩
theorem d14_45 : DAt B14 45 (.getfield 79) 3 48 := ⟨by decide +kernel, rfl⟩
theorem d14_48 : DAt B14 48 (.iload 4) 2 50 := ⟨by decide +kernel, rfl⟩
theorem d14_50 : DAt B14 50 (.iastore) 1 51 := ⟨by decide +kernel, rfl⟩
theorem d14_51 : DAt B14 51 (.aload_n 0) 1 52 := ⟨by decide +kernel, rfl⟩
theorem d14_52 : DAt B14 52 (.getfield 22) 3 55 := ⟨by decide +kernel, rfl⟩
theorem d14_55 : DAt B14 55 (.aload_n 0) 1 56 := ⟨by decide +kernel, rfl⟩
theorem d14_56 : DAt B14 56 (.getfield 79) 3 59 := ⟨by decide +kernel, rfl⟩
theorem d14_59 : DAt B14 59 (.iconst 0) 1 60 := ⟨by decide +kernel, rfl⟩
theorem d14_60 : DAt B14 60 (.iastore) 1 61 := ⟨by decide +kernel, rfl⟩
theorem d14_61 : DAt B14 61 (.aload_n 0) 1 62 := ⟨by decide +kernel, rfl⟩
theorem d14_62 : DAt B14 62 (.getfield 79) 3 65 := ⟨by decide +kernel, rfl⟩
theorem d14_65 : DAt B14 65 (.ireturn) 1 66 := ⟨by decide +kernel, rfl⟩
def B12 : Bdy := ((⟨"LogicalReplicator", "begin", "(I)I"⟩ : MethodName), prog_1_method_8_code, 3, (some .int), ({ frames := 1, cells := 0, slots := 0, locals := 16 } : Room))
theorem d12_0 : DAt B12 0 (.aload_n 0) 1 1 := ⟨by decide +kernel, rfl⟩
theorem d12_1 : DAt B12 1 (.iload_n 1) 1 2 := ⟨by decide +kernel, rfl⟩
theorem d12_2 : DAt B12 2 (.invokevirtual 97) 3 5 := ⟨by decide +kernel, rfl⟩
theorem d12_5 : DAt B12 5 (.ifCond .ne 5) 3 8 := ⟨by decide +kernel, rfl⟩
theorem d12_8 : DAt B12 8 (.iconst (-1)) 1 9 := ⟨by decide +kernel, rfl⟩
theorem d12_9 : DAt B12 9 (.ireturn) 1 10 := ⟨by decide +kernel, rfl⟩
theorem d12_10 : DAt B12 10 (.aload_n 0) 1 11 := ⟨by decide +kernel, rfl⟩
theorem d12_11 : DAt B12 11 (.getfield 25) 3 14 := ⟨by decide +kernel, rfl⟩
theorem d12_14 : DAt B12 14 (.iload_n 1) 1 15 := ⟨by decide +kernel, rfl⟩
theorem d12_15 : DAt B12 15 (.baload) 1 16 := ⟨by decide +kernel, rfl⟩
theorem d12_16 : DAt B12 16 (.ifCond .eq 6) 3 19 := ⟨by decide +kernel, rfl⟩
theorem d12_19 : DAt B12 19 (.bipush (-2)) 2 21 := ⟨by decide +kernel, rfl⟩
theorem d12_21 : DAt B12 21 (.ireturn) 1 22 := ⟨by decide +kernel, rfl⟩
theorem d12_22 : DAt B12 22 (.aload_n 0) 1 23 := ⟨by decide +kernel, rfl⟩
theorem d12_23 : DAt B12 23 (.invokevirtual 101) 3 26 := ⟨by decide +kernel, rfl⟩
theorem d12_26 : DAt B12 26 (.ifCond .eq 6) 3 29 := ⟨by decide +kernel, rfl⟩
theorem d12_29 : DAt B12 29 (.bipush (-4)) 2 31 := ⟨by decide +kernel, rfl⟩
theorem d12_31 : DAt B12 31 (.ireturn) 1 32 := ⟨by decide +kernel, rfl⟩
theorem d12_32 : DAt B12 32 (.aload_n 0) 1 33 := ⟨by decide +kernel, rfl⟩
theorem d12_33 : DAt B12 33 (.iconst 1) 1 34 := ⟨by decide +kernel, rfl⟩
theorem d12_34 : DAt B12 34 (.iload_n 1) 1 35 := ⟨by decide +kernel, rfl⟩
theorem d12_35 : DAt B12 35 (.iconst 0) 1 36 := ⟨by decide +kernel, rfl⟩
theorem d12_36 : DAt B12 36 (.iconst 0) 1 37 := ⟨by decide +kernel, rfl⟩
theorem d12_37 : DAt B12 37 (.invokevirtual 105) 3 40 := ⟨by decide +kernel, rfl⟩
theorem d12_40 : DAt B12 40 (.istore_n 2) 1 41 := ⟨by decide +kernel, rfl⟩
theorem d12_41 : DAt B12 41 (.aload_n 0) 1 42 := ⟨by decide +kernel, rfl⟩
theorem d12_42 : DAt B12 42 (.getfield 25) 3 45 := ⟨by decide +kernel, rfl⟩
theorem d12_45 : DAt B12 45 (.iload_n 1) 1 46 := ⟨by decide +kernel, rfl⟩
theorem d12_46 : DAt B12 46 (.iconst 1) 1 47 := ⟨by decide +kernel, rfl⟩
theorem d12_47 : DAt B12 47 (.bastore) 1 48 := ⟨by decide +kernel, rfl⟩
theorem d12_48 : DAt B12 48 (.aload_n 0) 1 49 := ⟨by decide +kernel, rfl⟩
theorem d12_49 : DAt B12 49 (.getfield 29) 3 52 := ⟨by decide +kernel, rfl⟩
theorem d12_52 : DAt B12 52 (.iload_n 1) 1 53 := ⟨by decide +kernel, rfl⟩
theorem d12_53 : DAt B12 53 (.iload_n 2) 1 54 := ⟨by decide +kernel, rfl⟩
theorem d12_54 : DAt B12 54 (.iastore) 1 55 := ⟨by decide +kernel, rfl⟩
theorem d12_55 : DAt B12 55 (.iload_n 2) 1 56 := ⟨by decide +kernel, rfl⟩
theorem d12_56 : DAt B12 56 (.ireturn) 1 57 := ⟨by decide +kernel, rfl⟩
def B10 : Bdy := ((⟨"LogicalReplicator", "checkOpenSlot", "(I)I"⟩ : MethodName), prog_1_method_6_code, 2, (some .int), ({ frames := 1, cells := 0, slots := 0, locals := 13 } : Room))
theorem d10_0 : DAt B10 0 (.aload_n 0) 1 1 := ⟨by decide +kernel, rfl⟩
theorem d10_1 : DAt B10 1 (.iload_n 1) 1 2 := ⟨by decide +kernel, rfl⟩
theorem d10_2 : DAt B10 2 (.invokevirtual 97) 3 5 := ⟨by decide +kernel, rfl⟩
theorem d10_5 : DAt B10 5 (.ifCond .ne 5) 3 8 := ⟨by decide +kernel, rfl⟩
theorem d10_8 : DAt B10 8 (.iconst (-1)) 1 9 := ⟨by decide +kernel, rfl⟩
theorem d10_9 : DAt B10 9 (.ireturn) 1 10 := ⟨by decide +kernel, rfl⟩
theorem d10_10 : DAt B10 10 (.aload_n 0) 1 11 := ⟨by decide +kernel, rfl⟩
theorem d10_11 : DAt B10 11 (.getfield 25) 3 14 := ⟨by decide +kernel, rfl⟩
theorem d10_14 : DAt B10 14 (.iload_n 1) 1 15 := ⟨by decide +kernel, rfl⟩
theorem d10_15 : DAt B10 15 (.baload) 1 16 := ⟨by decide +kernel, rfl⟩
theorem d10_16 : DAt B10 16 (.ifCond .ne 6) 3 19 := ⟨by decide +kernel, rfl⟩
theorem d10_19 : DAt B10 19 (.bipush (-2)) 2 21 := ⟨by decide +kernel, rfl⟩
theorem d10_21 : DAt B10 21 (.ireturn) 1 22 := ⟨by decide +kernel, rfl⟩
theorem d10_22 : DAt B10 22 (.iconst 0) 1 23 := ⟨by decide +kernel, rfl⟩
theorem d10_23 : DAt B10 23 (.ireturn) 1 24 := ⟨by decide +kernel, rfl⟩
def B9 : Bdy := ((⟨"LogicalReplicator", "write", "(IIII)I"⟩ : MethodName), prog_1_method_11_code, 6, (some .int), ({ frames := 2, cells := 0, slots := 0, locals := 26 } : Room))
theorem d9_0 : DAt B9 0 (.aload_n 0) 1 1 := ⟨by decide +kernel, rfl⟩
theorem d9_1 : DAt B9 1 (.iload_n 2) 1 2 := ⟨by decide +kernel, rfl⟩
theorem d9_2 : DAt B9 2 (.invokevirtual 112) 3 5 := ⟨by decide +kernel, rfl⟩
theorem d9_5 : DAt B9 5 (.istore 5) 2 7 := ⟨by decide +kernel, rfl⟩
theorem d9_7 : DAt B9 7 (.iload 5) 2 9 := ⟨by decide +kernel, rfl⟩
theorem d9_9 : DAt B9 9 (.ifCond .eq 6) 3 12 := ⟨by decide +kernel, rfl⟩
theorem d9_12 : DAt B9 12 (.iload 5) 2 14 := ⟨by decide +kernel, rfl⟩
theorem d9_14 : DAt B9 14 (.ireturn) 1 15 := ⟨by decide +kernel, rfl⟩
theorem d9_15 : DAt B9 15 (.aload_n 0) 1 16 := ⟨by decide +kernel, rfl⟩
theorem d9_16 : DAt B9 16 (.iload_n 3) 1 17 := ⟨by decide +kernel, rfl⟩
theorem d9_17 : DAt B9 17 (.invokevirtual 116) 3 20 := ⟨by decide +kernel, rfl⟩
theorem d9_20 : DAt B9 20 (.ifCond .ne 6) 3 23 := ⟨by decide +kernel, rfl⟩
theorem d9_23 : DAt B9 23 (.bipush (-3)) 2 25 := ⟨by decide +kernel, rfl⟩
theorem d9_25 : DAt B9 25 (.ireturn) 1 26 := ⟨by decide +kernel, rfl⟩
theorem d9_26 : DAt B9 26 (.aload_n 0) 1 27 := ⟨by decide +kernel, rfl⟩
theorem d9_27 : DAt B9 27 (.invokevirtual 101) 3 30 := ⟨by decide +kernel, rfl⟩
theorem d9_30 : DAt B9 30 (.ifCond .eq 6) 3 33 := ⟨by decide +kernel, rfl⟩
theorem d9_33 : DAt B9 33 (.bipush (-4)) 2 35 := ⟨by decide +kernel, rfl⟩
theorem d9_35 : DAt B9 35 (.ireturn) 1 36 := ⟨by decide +kernel, rfl⟩
theorem d9_36 : DAt B9 36 (.aload_n 0) 1 37 := ⟨by decide +kernel, rfl⟩
theorem d9_37 : DAt B9 37 (.iload_n 1) 1 38 := ⟨by decide +kernel, rfl⟩
theorem d9_38 : DAt B9 38 (.iload_n 2) 1 39 := ⟨by decide +kernel, rfl⟩
theorem d9_39 : DAt B9 39 (.iload_n 3) 1 40 := ⟨by decide +kernel, rfl⟩
theorem d9_40 : DAt B9 40 (.iload 4) 2 42 := ⟨by decide +kernel, rfl⟩
theorem d9_42 : DAt B9 42 (.invokevirtual 105) 3 45 := ⟨by decide +kernel, rfl⟩
theorem d9_45 : DAt B9 45 (.ireturn) 1 46 := ⟨by decide +kernel, rfl⟩
def B8 : Bdy := ((⟨"LogicalReplicator", "put", "(III)I"⟩ : MethodName), prog_1_method_9_code, 4, (some .int), ({ frames := 3, cells := 0, slots := 0, locals := 43 } : Room))
theorem d8_0 : DAt B8 0 (.aload_n 0) 1 1 := ⟨by decide +kernel, rfl⟩
theorem d8_1 : DAt B8 1 (.iconst 2) 1 2 := ⟨by decide +kernel, rfl⟩
theorem d8_2 : DAt B8 2 (.iload_n 1) 1 3 := ⟨by decide +kernel, rfl⟩
theorem d8_3 : DAt B8 3 (.iload_n 2) 1 4 := ⟨by decide +kernel, rfl⟩
theorem d8_4 : DAt B8 4 (.iload_n 3) 1 5 := ⟨by decide +kernel, rfl⟩
theorem d8_5 : DAt B8 5 (.invokevirtual 109) 3 8 := ⟨by decide +kernel, rfl⟩
theorem d8_8 : DAt B8 8 (.ireturn) 1 9 := ⟨by decide +kernel, rfl⟩
def B26 : Bdy := ((⟨"LogicalReplicator", "del", "(II)I"⟩ : MethodName), prog_1_method_10_code, 3, (some .int), ({ frames := 3, cells := 0, slots := 0, locals := 43 } : Room))
theorem d26_0 : DAt B26 0 (.aload_n 0) 1 1 := ⟨by decide +kernel, rfl⟩
theorem d26_1 : DAt B26 1 (.iconst 3) 1 2 := ⟨by decide +kernel, rfl⟩
theorem d26_2 : DAt B26 2 (.iload_n 1) 1 3 := ⟨by decide +kernel, rfl⟩
theorem d26_3 : DAt B26 3 (.iload_n 2) 1 4 := ⟨by decide +kernel, rfl⟩
theorem d26_4 : DAt B26 4 (.iconst 0) 1 5 := ⟨by decide +kernel, rfl⟩
theorem d26_5 : DAt B26 5 (.invokevirtual 109) 3 8 := ⟨by decide +kernel, rfl⟩
theorem d26_8 : DAt B26 8 (.ireturn) 1 9 := ⟨by decide +kernel, rfl⟩
def B27 : Bdy := ((⟨"LogicalReplicator", "applyToPublisher", "(III)V"⟩ : MethodName), prog_1_method_13_code, 7, none, ({ frames := 0, cells := 0, slots := 0, locals := 0 } : Room))
theorem d27_0 : DAt B27 0 (.iload_n 2) 1 1 := ⟨by decide +kernel, rfl⟩
theorem d27_1 : DAt B27 1 (.iconst 1) 1 2 := ⟨by decide +kernel, rfl⟩
theorem d27_2 : DAt B27 2 (.iadd) 1 3 := ⟨by decide +kernel, rfl⟩
theorem d27_3 : DAt B27 3 (.istore 4) 2 5 := ⟨by decide +kernel, rfl⟩
theorem d27_5 : DAt B27 5 (.iload 4) 2 7 := ⟨by decide +kernel, rfl⟩
theorem d27_7 : DAt B27 7 (.iconst 1) 1 8 := ⟨by decide +kernel, rfl⟩
theorem d27_8 : DAt B27 8 (.if_icmp .ge 6) 3 11 := ⟨by decide +kernel, rfl⟩
theorem d27_11 : DAt B27 11 (.iconst 1) 1 12 := ⟨by decide +kernel, rfl⟩
theorem d27_12 : DAt B27 12 (.istore 4) 2 14 := ⟨by decide +kernel, rfl⟩
theorem d27_14 : DAt B27 14 (.iload 4) 2 16 := ⟨by decide +kernel, rfl⟩
theorem d27_16 : DAt B27 16 (.istore 5) 2 18 := ⟨by decide +kernel, rfl⟩
theorem d27_18 : DAt B27 18 (.iload 5) 2 20 := ⟨by decide +kernel, rfl⟩
theorem d27_20 : DAt B27 20 (.iload_n 3) 1 21 := ⟨by decide +kernel, rfl⟩
theorem d27_21 : DAt B27 21 (.if_icmp .ge 110) 3 24 := ⟨by decide +kernel, rfl⟩
theorem d27_24 : DAt B27 24 (.iload 5) 2 26 := ⟨by decide +kernel, rfl⟩
theorem d27_26 : DAt B27 26 (.sipush 129) 3 29 := ⟨by decide +kernel, rfl⟩
theorem d27_29 : DAt B27 29 (.if_icmp .ge 102) 3 32 := ⟨by decide +kernel, rfl⟩
theorem d27_32 : DAt B27 32 (.aload_n 0) 1 33 := ⟨by decide +kernel, rfl⟩
theorem d27_33 : DAt B27 33 (.getfield 13) 3 36 := ⟨by decide +kernel, rfl⟩
theorem d27_36 : DAt B27 36 (.iload 5) 2 38 := ⟨by decide +kernel, rfl⟩
theorem d27_38 : DAt B27 38 (.iaload) 1 39 := ⟨by decide +kernel, rfl⟩
theorem d27_39 : DAt B27 39 (.iload_n 1) 1 40 := ⟨by decide +kernel, rfl⟩
theorem d27_40 : DAt B27 40 (.if_icmp .eq 6) 3 43 := ⟨by decide +kernel, rfl⟩
theorem d27_43 : DAt B27 43 (.goto 82) 3 46 := ⟨by decide +kernel, rfl⟩
theorem d27_46 : DAt B27 46 (.aload_n 0) 1 47 := ⟨by decide +kernel, rfl⟩
theorem d27_47 : DAt B27 47 (.getfield 16) 3 50 := ⟨by decide +kernel, rfl⟩
theorem d27_50 : DAt B27 50 (.iload 5) 2 52 := ⟨by decide +kernel, rfl⟩
theorem d27_52 : DAt B27 52 (.iaload) 1 53 := ⟨by decide +kernel, rfl⟩
theorem d27_53 : DAt B27 53 (.istore 6) 2 55 := ⟨by decide +kernel, rfl⟩
theorem d27_55 : DAt B27 55 (.iload 6) 2 57 := ⟨by decide +kernel, rfl⟩
theorem d27_57 : DAt B27 57 (.ifCond .lt 68) 3 60 := ⟨by decide +kernel, rfl⟩
theorem d27_60 : DAt B27 60 (.iload 6) 2 62 := ⟨by decide +kernel, rfl⟩
theorem d27_62 : DAt B27 62 (.bipush 32) 2 64 := ⟨by decide +kernel, rfl⟩
theorem d27_64 : DAt B27 64 (.if_icmp .lt 6) 3 67 := ⟨by decide +kernel, rfl⟩
theorem d27_67 : DAt B27 67 (.goto 58) 3 70 := ⟨by decide +kernel, rfl⟩
theorem d27_70 : DAt B27 70 (.aload_n 0) 1 71 := ⟨by decide +kernel, rfl⟩
theorem d27_71 : DAt B27 71 (.getfield 7) 3 74 := ⟨by decide +kernel, rfl⟩
theorem d27_74 : DAt B27 74 (.iload 5) 2 76 := ⟨by decide +kernel, rfl⟩
theorem d27_76 : DAt B27 76 (.iaload) 1 77 := ⟨by decide +kernel, rfl⟩
theorem d27_77 : DAt B27 77 (.iconst 2) 1 78 := ⟨by decide +kernel, rfl⟩
theorem d27_78 : DAt B27 78 (.if_icmp .ne 28) 3 81 := ⟨by decide +kernel, rfl⟩
theorem d27_81 : DAt B27 81 (.aload_n 0) 1 82 := ⟨by decide +kernel, rfl⟩
theorem d27_82 : DAt B27 82 (.getfield 32) 3 85 := ⟨by decide +kernel, rfl⟩
theorem d27_85 : DAt B27 85 (.iload 6) 2 87 := ⟨by decide +kernel, rfl⟩
theorem d27_87 : DAt B27 87 (.iconst 1) 1 88 := ⟨by decide +kernel, rfl⟩
theorem d27_88 : DAt B27 88 (.bastore) 1 89 := ⟨by decide +kernel, rfl⟩
theorem d27_89 : DAt B27 89 (.aload_n 0) 1 90 := ⟨by decide +kernel, rfl⟩
theorem d27_90 : DAt B27 90 (.getfield 35) 3 93 := ⟨by decide +kernel, rfl⟩
theorem d27_93 : DAt B27 93 (.iload 6) 2 95 := ⟨by decide +kernel, rfl⟩
theorem d27_95 : DAt B27 95 (.aload_n 0) 1 96 := ⟨by decide +kernel, rfl⟩
theorem d27_96 : DAt B27 96 (.getfield 19) 3 99 := ⟨by decide +kernel, rfl⟩
theorem d27_99 : DAt B27 99 (.iload 5) 2 101 := ⟨by decide +kernel, rfl⟩
theorem d27_101 : DAt B27 101 (.iaload) 1 102 := ⟨by decide +kernel, rfl⟩
theorem d27_102 : DAt B27 102 (.iastore) 1 103 := ⟨by decide +kernel, rfl⟩
theorem d27_103 : DAt B27 103 (.goto 22) 3 106 := ⟨by decide +kernel, rfl⟩
theorem d27_106 : DAt B27 106 (.aload_n 0) 1 107 := ⟨by decide +kernel, rfl⟩
theorem d27_107 : DAt B27 107 (.getfield 7) 3 110 := ⟨by decide +kernel, rfl⟩
theorem d27_110 : DAt B27 110 (.iload 5) 2 112 := ⟨by decide +kernel, rfl⟩
theorem d27_112 : DAt B27 112 (.iaload) 1 113 := ⟨by decide +kernel, rfl⟩
theorem d27_113 : DAt B27 113 (.iconst 3) 1 114 := ⟨by decide +kernel, rfl⟩
theorem d27_114 : DAt B27 114 (.if_icmp .ne 11) 3 117 := ⟨by decide +kernel, rfl⟩
theorem d27_117 : DAt B27 117 (.aload_n 0) 1 118 := ⟨by decide +kernel, rfl⟩
theorem d27_118 : DAt B27 118 (.getfield 32) 3 121 := ⟨by decide +kernel, rfl⟩
theorem d27_121 : DAt B27 121 (.iload 6) 2 123 := ⟨by decide +kernel, rfl⟩
theorem d27_123 : DAt B27 123 (.iconst 0) 1 124 := ⟨by decide +kernel, rfl⟩
theorem d27_124 : DAt B27 124 (.bastore) 1 125 := ⟨by decide +kernel, rfl⟩
theorem d27_125 : DAt B27 125 (.iinc 5 1) 3 128 := ⟨by decide +kernel, rfl⟩
theorem d27_128 : DAt B27 128 (.goto (-110)) 3 131 := ⟨by decide +kernel, rfl⟩
theorem d27_131 : DAt B27 131 (.return_) 1 132 := ⟨by decide +kernel, rfl⟩
def B19 : Bdy := ((⟨"LogicalReplicator", "commit", "(I)I"⟩ : MethodName), prog_1_method_12_code, 5, (some .int), ({ frames := 2, cells := 0, slots := 0, locals := 26 } : Room))
theorem d19_0 : DAt B19 0 (.aload_n 0) 1 1 := ⟨by decide +kernel, rfl⟩
theorem d19_1 : DAt B19 1 (.iload_n 1) 1 2 := ⟨by decide +kernel, rfl⟩
theorem d19_2 : DAt B19 2 (.invokevirtual 112) 3 5 := ⟨by decide +kernel, rfl⟩
theorem d19_5 : DAt B19 5 (.istore_n 2) 1 6 := ⟨by decide +kernel, rfl⟩
theorem d19_6 : DAt B19 6 (.iload_n 2) 1 7 := ⟨by decide +kernel, rfl⟩
theorem d19_7 : DAt B19 7 (.ifCond .eq 5) 3 10 := ⟨by decide +kernel, rfl⟩
theorem d19_10 : DAt B19 10 (.iload_n 2) 1 11 := ⟨by decide +kernel, rfl⟩
theorem d19_11 : DAt B19 11 (.ireturn) 1 12 := ⟨by decide +kernel, rfl⟩
theorem d19_12 : DAt B19 12 (.aload_n 0) 1 13 := ⟨by decide +kernel, rfl⟩
theorem d19_13 : DAt B19 13 (.invokevirtual 101) 3 16 := ⟨by decide +kernel, rfl⟩
theorem d19_16 : DAt B19 16 (.ifCond .eq 6) 3 19 := ⟨by decide +kernel, rfl⟩
theorem d19_19 : DAt B19 19 (.bipush (-4)) 2 21 := ⟨by decide +kernel, rfl⟩
theorem d19_21 : DAt B19 21 (.ireturn) 1 22 := ⟨by decide +kernel, rfl⟩
theorem d19_22 : DAt B19 22 (.aload_n 0) 1 23 := ⟨by decide +kernel, rfl⟩
theorem d19_23 : DAt B19 23 (.getfield 29) 3 26 := ⟨by decide +kernel, rfl⟩
theorem d19_26 : DAt B19 26 (.iload_n 1) 1 27 := ⟨by decide +kernel, rfl⟩
theorem d19_27 : DAt B19 27 (.iaload) 1 28 := ⟨by decide +kernel, rfl⟩
theorem d19_28 : DAt B19 28 (.istore_n 3) 1 29 := ⟨by decide +kernel, rfl⟩
theorem d19_29 : DAt B19 29 (.aload_n 0) 1 30 := ⟨by decide +kernel, rfl⟩
theorem d19_30 : DAt B19 30 (.iconst 4) 1 31 := ⟨by decide +kernel, rfl⟩
theorem d19_31 : DAt B19 31 (.iload_n 1) 1 32 := ⟨by decide +kernel, rfl⟩
theorem d19_32 : DAt B19 32 (.iconst 0) 1 33 := ⟨by decide +kernel, rfl⟩
theorem d19_33 : DAt B19 33 (.iconst 0) 1 34 := ⟨by decide +kernel, rfl⟩
theorem d19_34 : DAt B19 34 (.invokevirtual 105) 3 37 := ⟨by decide +kernel, rfl⟩
theorem d19_37 : DAt B19 37 (.istore 4) 2 39 := ⟨by decide +kernel, rfl⟩
theorem d19_39 : DAt B19 39 (.aload_n 0) 1 40 := ⟨by decide +kernel, rfl⟩
theorem d19_40 : DAt B19 40 (.getfield 22) 3 43 := ⟨by decide +kernel, rfl⟩
theorem d19_43 : DAt B19 43 (.iload 4) 2 45 := ⟨by decide +kernel, rfl⟩
theorem d19_45 : DAt B19 45 (.iload_n 3) 1 46 := ⟨by decide +kernel, rfl⟩
theorem d19_46 : DAt B19 46 (.iastore) 1 47 := ⟨by decide +kernel, rfl⟩
theorem d19_47 : DAt B19 47 (.aload_n 0) 1 48 := ⟨by decide +kernel, rfl⟩
theorem d19_48 : DAt B19 48 (.iload_n 1) 1 49 := ⟨by decide +kernel, rfl⟩
theorem d19_49 : DAt B19 49 (.iload_n 3) 1 50 := ⟨by decide +kernel, rfl⟩
theorem d19_50 : DAt B19 50 (.iload 4) 2 52 := ⟨by decide +kernel, rfl⟩
theorem d19_52 : DAt B19 52 (.invokevirtual 119) 3 55 := ⟨by decide +kernel, rfl⟩
theorem d19_55 : DAt B19 55 (.aload_n 0) 1 56 := ⟨by decide +kernel, rfl⟩
theorem d19_56 : DAt B19 56 (.getfield 25) 3 59 := ⟨by decide +kernel, rfl⟩
theorem d19_59 : DAt B19 59 (.iload_n 1) 1 60 := ⟨by decide +kernel, rfl⟩
theorem d19_60 : DAt B19 60 (.iconst 0) 1 61 := ⟨by decide +kernel, rfl⟩
theorem d19_61 : DAt B19 61 (.bastore) 1 62 := ⟨by decide +kernel, rfl⟩
theorem d19_62 : DAt B19 62 (.iload 4) 2 64 := ⟨by decide +kernel, rfl⟩
theorem d19_64 : DAt B19 64 (.ireturn) 1 65 := ⟨by decide +kernel, rfl⟩
def B17 : Bdy := ((⟨"LogicalReplicator", "abort", "(I)I"⟩ : MethodName), prog_1_method_14_code, 4, (some .int), ({ frames := 2, cells := 0, slots := 0, locals := 26 } : Room))
theorem d17_0 : DAt B17 0 (.aload_n 0) 1 1 := ⟨by decide +kernel, rfl⟩
theorem d17_1 : DAt B17 1 (.iload_n 1) 1 2 := ⟨by decide +kernel, rfl⟩
theorem d17_2 : DAt B17 2 (.invokevirtual 112) 3 5 := ⟨by decide +kernel, rfl⟩
theorem d17_5 : DAt B17 5 (.istore_n 2) 1 6 := ⟨by decide +kernel, rfl⟩
theorem d17_6 : DAt B17 6 (.iload_n 2) 1 7 := ⟨by decide +kernel, rfl⟩
theorem d17_7 : DAt B17 7 (.ifCond .eq 5) 3 10 := ⟨by decide +kernel, rfl⟩
theorem d17_10 : DAt B17 10 (.iload_n 2) 1 11 := ⟨by decide +kernel, rfl⟩
theorem d17_11 : DAt B17 11 (.ireturn) 1 12 := ⟨by decide +kernel, rfl⟩
theorem d17_12 : DAt B17 12 (.aload_n 0) 1 13 := ⟨by decide +kernel, rfl⟩
theorem d17_13 : DAt B17 13 (.invokevirtual 101) 3 16 := ⟨by decide +kernel, rfl⟩
theorem d17_16 : DAt B17 16 (.ifCond .eq 6) 3 19 := ⟨by decide +kernel, rfl⟩
theorem d17_19 : DAt B17 19 (.bipush (-4)) 2 21 := ⟨by decide +kernel, rfl⟩
theorem d17_21 : DAt B17 21 (.ireturn) 1 22 := ⟨by decide +kernel, rfl⟩
theorem d17_22 : DAt B17 22 (.aload_n 0) 1 23 := ⟨by decide +kernel, rfl⟩
theorem d17_23 : DAt B17 23 (.iconst 5) 1 24 := ⟨by decide +kernel, rfl⟩
theorem d17_24 : DAt B17 24 (.iload_n 1) 1 25 := ⟨by decide +kernel, rfl⟩
theorem d17_25 : DAt B17 25 (.iconst 0) 1 26 := ⟨by decide +kernel, rfl⟩
theorem d17_26 : DAt B17 26 (.iconst 0) 1 27 := ⟨by decide +kernel, rfl⟩
theorem d17_27 : DAt B17 27 (.invokevirtual 105) 3 30 := ⟨by decide +kernel, rfl⟩
theorem d17_30 : DAt B17 30 (.istore_n 3) 1 31 := ⟨by decide +kernel, rfl⟩
theorem d17_31 : DAt B17 31 (.aload_n 0) 1 32 := ⟨by decide +kernel, rfl⟩
theorem d17_32 : DAt B17 32 (.getfield 25) 3 35 := ⟨by decide +kernel, rfl⟩
theorem d17_35 : DAt B17 35 (.iload_n 1) 1 36 := ⟨by decide +kernel, rfl⟩
theorem d17_36 : DAt B17 36 (.iconst 0) 1 37 := ⟨by decide +kernel, rfl⟩
theorem d17_37 : DAt B17 37 (.bastore) 1 38 := ⟨by decide +kernel, rfl⟩
theorem d17_38 : DAt B17 38 (.iload_n 3) 1 39 := ⟨by decide +kernel, rfl⟩
theorem d17_39 : DAt B17 39 (.ireturn) 1 40 := ⟨by decide +kernel, rfl⟩
def B24 : Bdy := ((⟨"LogicalReplicator", "nextCommit", "(I)I"⟩ : MethodName), prog_1_method_16_code, 4, (some .int), ({ frames := 0, cells := 0, slots := 0, locals := 0 } : Room))
theorem d24_0 : DAt B24 0 (.iload_n 1) 1 1 := ⟨by decide +kernel, rfl⟩
theorem d24_1 : DAt B24 1 (.iconst 1) 1 2 := ⟨by decide +kernel, rfl⟩
theorem d24_2 : DAt B24 2 (.iadd) 1 3 := ⟨by decide +kernel, rfl⟩
theorem d24_3 : DAt B24 3 (.istore_n 2) 1 4 := ⟨by decide +kernel, rfl⟩
theorem d24_4 : DAt B24 4 (.iload_n 2) 1 5 := ⟨by decide +kernel, rfl⟩
theorem d24_5 : DAt B24 5 (.iconst 1) 1 6 := ⟨by decide +kernel, rfl⟩
theorem d24_6 : DAt B24 6 (.if_icmp .ge 5) 3 9 := ⟨by decide +kernel, rfl⟩
theorem d24_9 : DAt B24 9 (.iconst 1) 1 10 := ⟨by decide +kernel, rfl⟩
theorem d24_10 : DAt B24 10 (.istore_n 2) 1 11 := ⟨by decide +kernel, rfl⟩
theorem d24_11 : DAt B24 11 (.iload_n 2) 1 12 := ⟨by decide +kernel, rfl⟩
theorem d24_12 : DAt B24 12 (.istore_n 3) 1 13 := ⟨by decide +kernel, rfl⟩
theorem d24_13 : DAt B24 13 (.iload_n 3) 1 14 := ⟨by decide +kernel, rfl⟩
theorem d24_14 : DAt B24 14 (.aload_n 0) 1 15 := ⟨by decide +kernel, rfl⟩
theorem d24_15 : DAt B24 15 (.getfield 79) 3 18 := ⟨by decide +kernel, rfl⟩
theorem d24_18 : DAt B24 18 (.if_icmp .gt 28) 3 21 := ⟨by decide +kernel, rfl⟩
theorem d24_21 : DAt B24 21 (.iload_n 3) 1 22 := ⟨by decide +kernel, rfl⟩
theorem d24_22 : DAt B24 22 (.sipush 129) 3 25 := ⟨by decide +kernel, rfl⟩
theorem d24_25 : DAt B24 25 (.if_icmp .ge 21) 3 28 := ⟨by decide +kernel, rfl⟩
theorem d24_28 : DAt B24 28 (.aload_n 0) 1 29 := ⟨by decide +kernel, rfl⟩
theorem d24_29 : DAt B24 29 (.getfield 7) 3 32 := ⟨by decide +kernel, rfl⟩
theorem d24_32 : DAt B24 32 (.iload_n 3) 1 33 := ⟨by decide +kernel, rfl⟩
theorem d24_33 : DAt B24 33 (.iaload) 1 34 := ⟨by decide +kernel, rfl⟩
theorem d24_34 : DAt B24 34 (.iconst 4) 1 35 := ⟨by decide +kernel, rfl⟩
theorem d24_35 : DAt B24 35 (.if_icmp .ne 5) 3 38 := ⟨by decide +kernel, rfl⟩
theorem d24_38 : DAt B24 38 (.iload_n 3) 1 39 := ⟨by decide +kernel, rfl⟩
theorem d24_39 : DAt B24 39 (.ireturn) 1 40 := ⟨by decide +kernel, rfl⟩
theorem d24_40 : DAt B24 40 (.iinc 3 1) 3 43 := ⟨by decide +kernel, rfl⟩
theorem d24_43 : DAt B24 43 (.goto (-30)) 3 46 := ⟨by decide +kernel, rfl⟩
theorem d24_46 : DAt B24 46 (.iconst 0) 1 47 := ⟨by decide +kernel, rfl⟩
theorem d24_47 : DAt B24 47 (.ireturn) 1 48 := ⟨by decide +kernel, rfl⟩
def B32 : Bdy := ((⟨"LogicalReplicator", "enqueue", "(IIII)V"⟩ : MethodName), prog_1_method_18_code, 6, none, ({ frames := 0, cells := 0, slots := 0, locals := 0 } : Room))
theorem d32_0 : DAt B32 0 (.aload_n 0) 1 1 := ⟨by decide +kernel, rfl⟩
theorem d32_1 : DAt B32 1 (.getfield 94) 3 4 := ⟨by decide +kernel, rfl⟩
theorem d32_4 : DAt B32 4 (.sipush 128) 3 7 := ⟨by decide +kernel, rfl⟩
theorem d32_7 : DAt B32 7 (.if_icmp .lt 4) 3 10 := ⟨by decide +kernel, rfl⟩
theorem d32_10 : DAt B32 10 (.return_) 1 11 := ⟨by decide +kernel, rfl⟩
theorem d32_11 : DAt B32 11 (.aload_n 0) 1 12 := ⟨by decide +kernel, rfl⟩
theorem d32_12 : DAt B32 12 (.getfield 91) 3 15 := ⟨by decide +kernel, rfl⟩
theorem d32_15 : DAt B32 15 (.aload_n 0) 1 16 := ⟨by decide +kernel, rfl⟩
theorem d32_16 : DAt B32 16 (.getfield 94) 3 19 := ⟨by decide +kernel, rfl⟩
theorem d32_19 : DAt B32 19 (.iadd) 1 20 := ⟨by decide +kernel, rfl⟩
theorem d32_20 : DAt B32 20 (.sipush 128) 3 23 := ⟨by decide +kernel, rfl⟩
theorem d32_23 : DAt B32 23 (.irem) 1 24 := ⟨by decide +kernel, rfl⟩
theorem d32_24 : DAt B32 24 (.istore 5) 2 26 := ⟨by decide +kernel, rfl⟩
theorem d32_26 : DAt B32 26 (.iload 5) 2 28 := ⟨by decide +kernel, rfl⟩
theorem d32_28 : DAt B32 28 (.ifCond .ge 6) 3 31 := ⟨by decide +kernel, rfl⟩
theorem d32_31 : DAt B32 31 (.iconst 0) 1 32 := ⟨by decide +kernel, rfl⟩
theorem d32_32 : DAt B32 32 (.istore 5) 2 34 := ⟨by decide +kernel, rfl⟩
theorem d32_34 : DAt B32 34 (.aload_n 0) 1 35 := ⟨by decide +kernel, rfl⟩
theorem d32_35 : DAt B32 35 (.getfield 50) 3 38 := ⟨by decide +kernel, rfl⟩
theorem d32_38 : DAt B32 38 (.iload 5) 2 40 := ⟨by decide +kernel, rfl⟩
theorem d32_40 : DAt B32 40 (.iload_n 1) 1 41 := ⟨by decide +kernel, rfl⟩
theorem d32_41 : DAt B32 41 (.iastore) 1 42 := ⟨by decide +kernel, rfl⟩
theorem d32_42 : DAt B32 42 (.aload_n 0) 1 43 := ⟨by decide +kernel, rfl⟩
theorem d32_43 : DAt B32 43 (.getfield 53) 3 46 := ⟨by decide +kernel, rfl⟩
theorem d32_46 : DAt B32 46 (.iload 5) 2 48 := ⟨by decide +kernel, rfl⟩
theorem d32_48 : DAt B32 48 (.iload_n 2) 1 49 := ⟨by decide +kernel, rfl⟩
theorem d32_49 : DAt B32 49 (.iastore) 1 50 := ⟨by decide +kernel, rfl⟩
theorem d32_50 : DAt B32 50 (.aload_n 0) 1 51 := ⟨by decide +kernel, rfl⟩
theorem d32_51 : DAt B32 51 (.getfield 56) 3 54 := ⟨by decide +kernel, rfl⟩
theorem d32_54 : DAt B32 54 (.iload 5) 2 56 := ⟨by decide +kernel, rfl⟩
theorem d32_56 : DAt B32 56 (.iload_n 3) 1 57 := ⟨by decide +kernel, rfl⟩
theorem d32_57 : DAt B32 57 (.iastore) 1 58 := ⟨by decide +kernel, rfl⟩
theorem d32_58 : DAt B32 58 (.aload_n 0) 1 59 := ⟨by decide +kernel, rfl⟩
theorem d32_59 : DAt B32 59 (.getfield 59) 3 62 := ⟨by decide +kernel, rfl⟩
theorem d32_62 : DAt B32 62 (.iload 5) 2 64 := ⟨by decide +kernel, rfl⟩
theorem d32_64 : DAt B32 64 (.iload 4) 2 66 := ⟨by decide +kernel, rfl⟩
theorem d32_66 : DAt B32 66 (.iastore) 1 67 := ⟨by decide +kernel, rfl⟩
theorem d32_67 : DAt B32 67 (.aload_n 0) 1 68 := ⟨by decide +kernel, rfl⟩
theorem d32_68 : DAt B32 68 (.dup) 1 69 := ⟨by decide +kernel, rfl⟩
theorem d32_69 : DAt B32 69 (.getfield 94) 3 72 := ⟨by decide +kernel, rfl⟩
theorem d32_72 : DAt B32 72 (.iconst 1) 1 73 := ⟨by decide +kernel, rfl⟩
theorem d32_73 : DAt B32 73 (.iadd) 1 74 := ⟨by decide +kernel, rfl⟩
theorem d32_74 : DAt B32 74 (.putfield 94) 3 77 := ⟨by decide +kernel, rfl⟩
theorem d32_77 : DAt B32 77 (.return_) 1 78 := ⟨by decide +kernel, rfl⟩
def B31 : Bdy := ((⟨"LogicalReplicator", "emitTransaction", "(I)V"⟩ : MethodName), prog_1_method_17_code, 6, none, ({ frames := 1, cells := 0, slots := 0, locals := 17 } : Room))
theorem d31_0 : DAt B31 0 (.aload_n 0) 1 1 := ⟨by decide +kernel, rfl⟩
theorem d31_1 : DAt B31 1 (.getfield 13) 3 4 := ⟨by decide +kernel, rfl⟩
theorem d31_4 : DAt B31 4 (.iload_n 1) 1 5 := ⟨by decide +kernel, rfl⟩
theorem d31_5 : DAt B31 5 (.iaload) 1 6 := ⟨by decide +kernel, rfl⟩
theorem d31_6 : DAt B31 6 (.istore_n 2) 1 7 := ⟨by decide +kernel, rfl⟩
theorem d31_7 : DAt B31 7 (.aload_n 0) 1 8 := ⟨by decide +kernel, rfl⟩
theorem d31_8 : DAt B31 8 (.getfield 22) 3 11 := ⟨by decide +kernel, rfl⟩
theorem d31_11 : DAt B31 11 (.iload_n 1) 1 12 := ⟨by decide +kernel, rfl⟩
theorem d31_12 : DAt B31 12 (.iaload) 1 13 := ⟨by decide +kernel, rfl⟩
theorem d31_13 : DAt B31 13 (.iconst 1) 1 14 := ⟨by decide +kernel, rfl⟩
theorem d31_14 : DAt B31 14 (.iadd) 1 15 := ⟨by decide +kernel, rfl⟩
theorem d31_15 : DAt B31 15 (.istore_n 3) 1 16 := ⟨by decide +kernel, rfl⟩
theorem d31_16 : DAt B31 16 (.iload_n 3) 1 17 := ⟨by decide +kernel, rfl⟩
theorem d31_17 : DAt B31 17 (.iconst 1) 1 18 := ⟨by decide +kernel, rfl⟩
theorem d31_18 : DAt B31 18 (.if_icmp .ge 5) 3 21 := ⟨by decide +kernel, rfl⟩
theorem d31_21 : DAt B31 21 (.iconst 1) 1 22 := ⟨by decide +kernel, rfl⟩
theorem d31_22 : DAt B31 22 (.istore_n 3) 1 23 := ⟨by decide +kernel, rfl⟩
theorem d31_23 : DAt B31 23 (.iload_n 3) 1 24 := ⟨by decide +kernel, rfl⟩
theorem d31_24 : DAt B31 24 (.istore 4) 2 26 := ⟨by decide +kernel, rfl⟩
theorem d31_26 : DAt B31 26 (.iload 4) 2 28 := ⟨by decide +kernel, rfl⟩
theorem d31_28 : DAt B31 28 (.iload_n 1) 1 29 := ⟨by decide +kernel, rfl⟩
theorem d31_29 : DAt B31 29 (.if_icmp .ge 73) 3 32 := ⟨by decide +kernel, rfl⟩
theorem d31_32 : DAt B31 32 (.iload 4) 2 34 := ⟨by decide +kernel, rfl⟩
theorem d31_34 : DAt B31 34 (.sipush 129) 3 37 := ⟨by decide +kernel, rfl⟩
theorem d31_37 : DAt B31 37 (.if_icmp .ge 65) 3 40 := ⟨by decide +kernel, rfl⟩
theorem d31_40 : DAt B31 40 (.aload_n 0) 1 41 := ⟨by decide +kernel, rfl⟩
theorem d31_41 : DAt B31 41 (.getfield 13) 3 44 := ⟨by decide +kernel, rfl⟩
theorem d31_44 : DAt B31 44 (.iload 4) 2 46 := ⟨by decide +kernel, rfl⟩
theorem d31_46 : DAt B31 46 (.iaload) 1 47 := ⟨by decide +kernel, rfl⟩
theorem d31_47 : DAt B31 47 (.iload_n 2) 1 48 := ⟨by decide +kernel, rfl⟩
theorem d31_48 : DAt B31 48 (.if_icmp .eq 6) 3 51 := ⟨by decide +kernel, rfl⟩
theorem d31_51 : DAt B31 51 (.goto 45) 3 54 := ⟨by decide +kernel, rfl⟩
theorem d31_54 : DAt B31 54 (.aload_n 0) 1 55 := ⟨by decide +kernel, rfl⟩
theorem d31_55 : DAt B31 55 (.getfield 7) 3 58 := ⟨by decide +kernel, rfl⟩
theorem d31_58 : DAt B31 58 (.iload 4) 2 60 := ⟨by decide +kernel, rfl⟩
theorem d31_60 : DAt B31 60 (.iaload) 1 61 := ⟨by decide +kernel, rfl⟩
theorem d31_61 : DAt B31 61 (.istore 5) 2 63 := ⟨by decide +kernel, rfl⟩
theorem d31_63 : DAt B31 63 (.iload 5) 2 65 := ⟨by decide +kernel, rfl⟩
theorem d31_65 : DAt B31 65 (.iconst 2) 1 66 := ⟨by decide +kernel, rfl⟩
theorem d31_66 : DAt B31 66 (.if_icmp .eq 9) 3 69 := ⟨by decide +kernel, rfl⟩
theorem d31_69 : DAt B31 69 (.iload 5) 2 71 := ⟨by decide +kernel, rfl⟩
theorem d31_71 : DAt B31 71 (.iconst 3) 1 72 := ⟨by decide +kernel, rfl⟩
theorem d31_72 : DAt B31 72 (.if_icmp .ne 24) 3 75 := ⟨by decide +kernel, rfl⟩
theorem d31_75 : DAt B31 75 (.aload_n 0) 1 76 := ⟨by decide +kernel, rfl⟩
theorem d31_76 : DAt B31 76 (.iload 5) 2 78 := ⟨by decide +kernel, rfl⟩
theorem d31_78 : DAt B31 78 (.aload_n 0) 1 79 := ⟨by decide +kernel, rfl⟩
theorem d31_79 : DAt B31 79 (.getfield 16) 3 82 := ⟨by decide +kernel, rfl⟩
theorem d31_82 : DAt B31 82 (.iload 4) 2 84 := ⟨by decide +kernel, rfl⟩
theorem d31_84 : DAt B31 84 (.iaload) 1 85 := ⟨by decide +kernel, rfl⟩
theorem d31_85 : DAt B31 85 (.aload_n 0) 1 86 := ⟨by decide +kernel, rfl⟩
theorem d31_86 : DAt B31 86 (.getfield 19) 3 89 := ⟨by decide +kernel, rfl⟩
theorem d31_89 : DAt B31 89 (.iload 4) 2 91 := ⟨by decide +kernel, rfl⟩
theorem d31_91 : DAt B31 91 (.iaload) 1 92 := ⟨by decide +kernel, rfl⟩
theorem d31_92 : DAt B31 92 (.iload_n 1) 1 93 := ⟨by decide +kernel, rfl⟩
theorem d31_93 : DAt B31 93 (.invokevirtual 130) 3 96 := ⟨by decide +kernel, rfl⟩
theorem d31_96 : DAt B31 96 (.iinc 4 1) 3 99 := ⟨by decide +kernel, rfl⟩
theorem d31_99 : DAt B31 99 (.goto (-73)) 3 102 := ⟨by decide +kernel, rfl⟩
theorem d31_102 : DAt B31 102 (.aload_n 0) 1 103 := ⟨by decide +kernel, rfl⟩
theorem d31_103 : DAt B31 103 (.iconst 4) 1 104 := ⟨by decide +kernel, rfl⟩
theorem d31_104 : DAt B31 104 (.iconst 0) 1 105 := ⟨by decide +kernel, rfl⟩
theorem d31_105 : DAt B31 105 (.iconst 0) 1 106 := ⟨by decide +kernel, rfl⟩
theorem d31_106 : DAt B31 106 (.iload_n 1) 1 107 := ⟨by decide +kernel, rfl⟩
theorem d31_107 : DAt B31 107 (.invokevirtual 130) 3 110 := ⟨by decide +kernel, rfl⟩
theorem d31_110 : DAt B31 110 (.return_) 1 111 := ⟨by decide +kernel, rfl⟩
def B23 : Bdy := ((⟨"LogicalReplicator", "stream", "(I)I"⟩ : MethodName), prog_1_method_15_code, 5, (some .int), ({ frames := 2, cells := 0, slots := 0, locals := 34 } : Room))
theorem d23_0 : DAt B23 0 (.iload_n 1) 1 1 := ⟨by decide +kernel, rfl⟩
theorem d23_1 : DAt B23 1 (.ifCond .gt 5) 3 4 := ⟨by decide +kernel, rfl⟩
theorem d23_4 : DAt B23 4 (.iconst 0) 1 5 := ⟨by decide +kernel, rfl⟩
theorem d23_5 : DAt B23 5 (.ireturn) 1 6 := ⟨by decide +kernel, rfl⟩
theorem d23_6 : DAt B23 6 (.iconst 0) 1 7 := ⟨by decide +kernel, rfl⟩
theorem d23_7 : DAt B23 7 (.istore_n 2) 1 8 := ⟨by decide +kernel, rfl⟩
theorem d23_8 : DAt B23 8 (.iconst 0) 1 9 := ⟨by decide +kernel, rfl⟩
theorem d23_9 : DAt B23 9 (.istore_n 3) 1 10 := ⟨by decide +kernel, rfl⟩
theorem d23_10 : DAt B23 10 (.iload_n 3) 1 11 := ⟨by decide +kernel, rfl⟩
theorem d23_11 : DAt B23 11 (.sipush 129) 3 14 := ⟨by decide +kernel, rfl⟩
theorem d23_14 : DAt B23 14 (.if_icmp .ge 47) 3 17 := ⟨by decide +kernel, rfl⟩
theorem d23_17 : DAt B23 17 (.iload_n 2) 1 18 := ⟨by decide +kernel, rfl⟩
theorem d23_18 : DAt B23 18 (.iload_n 1) 1 19 := ⟨by decide +kernel, rfl⟩
theorem d23_19 : DAt B23 19 (.if_icmp .ge 42) 3 22 := ⟨by decide +kernel, rfl⟩
theorem d23_22 : DAt B23 22 (.aload_n 0) 1 23 := ⟨by decide +kernel, rfl⟩
theorem d23_23 : DAt B23 23 (.aload_n 0) 1 24 := ⟨by decide +kernel, rfl⟩
theorem d23_24 : DAt B23 24 (.getfield 82) 3 27 := ⟨by decide +kernel, rfl⟩
theorem d23_27 : DAt B23 27 (.invokevirtual 123) 3 30 := ⟨by decide +kernel, rfl⟩
theorem d23_30 : DAt B23 30 (.istore 4) 2 32 := ⟨by decide +kernel, rfl⟩
theorem d23_32 : DAt B23 32 (.iload 4) 2 34 := ⟨by decide +kernel, rfl⟩
theorem d23_34 : DAt B23 34 (.ifCond .ne 6) 3 37 := ⟨by decide +kernel, rfl⟩
theorem d23_37 : DAt B23 37 (.goto 24) 3 40 := ⟨by decide +kernel, rfl⟩
theorem d23_40 : DAt B23 40 (.aload_n 0) 1 41 := ⟨by decide +kernel, rfl⟩
theorem d23_41 : DAt B23 41 (.iload 4) 2 43 := ⟨by decide +kernel, rfl⟩
theorem d23_43 : DAt B23 43 (.invokevirtual 126) 3 46 := ⟨by decide +kernel, rfl⟩
theorem d23_46 : DAt B23 46 (.aload_n 0) 1 47 := ⟨by decide +kernel, rfl⟩
theorem d23_47 : DAt B23 47 (.iload 4) 2 49 := ⟨by decide +kernel, rfl⟩
theorem d23_49 : DAt B23 49 (.putfield 82) 3 52 := ⟨by decide +kernel, rfl⟩
theorem d23_52 : DAt B23 52 (.iinc 2 1) 3 55 := ⟨by decide +kernel, rfl⟩
theorem d23_55 : DAt B23 55 (.iinc 3 1) 3 58 := ⟨by decide +kernel, rfl⟩
theorem d23_58 : DAt B23 58 (.goto (-48)) 3 61 := ⟨by decide +kernel, rfl⟩
theorem d23_61 : DAt B23 61 (.iload_n 2) 1 62 := ⟨by decide +kernel, rfl⟩
theorem d23_62 : DAt B23 62 (.ireturn) 1 63 := ⟨by decide +kernel, rfl⟩
def B35 : Bdy := ((⟨"LogicalReplicator", "applyPending", "()V"⟩ : MethodName), prog_1_method_22_code, 2, none, ({ frames := 0, cells := 0, slots := 0, locals := 0 } : Room))
theorem d35_0 : DAt B35 0 (.iconst 0) 1 1 := ⟨by decide +kernel, rfl⟩
theorem d35_1 : DAt B35 1 (.istore_n 1) 1 2 := ⟨by decide +kernel, rfl⟩
theorem d35_2 : DAt B35 2 (.iload_n 1) 1 3 := ⟨by decide +kernel, rfl⟩
theorem d35_3 : DAt B35 3 (.aload_n 0) 1 4 := ⟨by decide +kernel, rfl⟩
theorem d35_4 : DAt B35 4 (.getfield 66) 3 7 := ⟨by decide +kernel, rfl⟩
theorem d35_7 : DAt B35 7 (.if_icmp .ge 78) 3 10 := ⟨by decide +kernel, rfl⟩
theorem d35_10 : DAt B35 10 (.iload_n 1) 1 11 := ⟨by decide +kernel, rfl⟩
theorem d35_11 : DAt B35 11 (.bipush 32) 2 13 := ⟨by decide +kernel, rfl⟩
theorem d35_13 : DAt B35 13 (.if_icmp .ge 72) 3 16 := ⟨by decide +kernel, rfl⟩
theorem d35_16 : DAt B35 16 (.aload_n 0) 1 17 := ⟨by decide +kernel, rfl⟩
theorem d35_17 : DAt B35 17 (.getfield 44) 3 20 := ⟨by decide +kernel, rfl⟩
theorem d35_20 : DAt B35 20 (.iload_n 1) 1 21 := ⟨by decide +kernel, rfl⟩
theorem d35_21 : DAt B35 21 (.iaload) 1 22 := ⟨by decide +kernel, rfl⟩
theorem d35_22 : DAt B35 22 (.iconst 1) 1 23 := ⟨by decide +kernel, rfl⟩
theorem d35_23 : DAt B35 23 (.if_icmp .ne 25) 3 26 := ⟨by decide +kernel, rfl⟩
theorem d35_26 : DAt B35 26 (.aload_n 0) 1 27 := ⟨by decide +kernel, rfl⟩
theorem d35_27 : DAt B35 27 (.getfield 38) 3 30 := ⟨by decide +kernel, rfl⟩
theorem d35_30 : DAt B35 30 (.iload_n 1) 1 31 := ⟨by decide +kernel, rfl⟩
theorem d35_31 : DAt B35 31 (.iconst 1) 1 32 := ⟨by decide +kernel, rfl⟩
theorem d35_32 : DAt B35 32 (.bastore) 1 33 := ⟨by decide +kernel, rfl⟩
theorem d35_33 : DAt B35 33 (.aload_n 0) 1 34 := ⟨by decide +kernel, rfl⟩
theorem d35_34 : DAt B35 34 (.getfield 41) 3 37 := ⟨by decide +kernel, rfl⟩
theorem d35_37 : DAt B35 37 (.iload_n 1) 1 38 := ⟨by decide +kernel, rfl⟩
theorem d35_38 : DAt B35 38 (.aload_n 0) 1 39 := ⟨by decide +kernel, rfl⟩
theorem d35_39 : DAt B35 39 (.getfield 47) 3 42 := ⟨by decide +kernel, rfl⟩
theorem d35_42 : DAt B35 42 (.iload_n 1) 1 43 := ⟨by decide +kernel, rfl⟩
theorem d35_43 : DAt B35 43 (.iaload) 1 44 := ⟨by decide +kernel, rfl⟩
theorem d35_44 : DAt B35 44 (.iastore) 1 45 := ⟨by decide +kernel, rfl⟩
theorem d35_45 : DAt B35 45 (.goto 20) 3 48 := ⟨by decide +kernel, rfl⟩
theorem d35_48 : DAt B35 48 (.aload_n 0) 1 49 := ⟨by decide +kernel, rfl⟩
theorem d35_49 : DAt B35 49 (.getfield 44) 3 52 := ⟨by decide +kernel, rfl⟩
theorem d35_52 : DAt B35 52 (.iload_n 1) 1 53 := ⟨by decide +kernel, rfl⟩
theorem d35_53 : DAt B35 53 (.iaload) 1 54 := ⟨by decide +kernel, rfl⟩
theorem d35_54 : DAt B35 54 (.iconst 2) 1 55 := ⟨by decide +kernel, rfl⟩
theorem d35_55 : DAt B35 55 (.if_icmp .ne 10) 3 58 := ⟨by decide +kernel, rfl⟩
theorem d35_58 : DAt B35 58 (.aload_n 0) 1 59 := ⟨by decide +kernel, rfl⟩
theorem d35_59 : DAt B35 59 (.getfield 38) 3 62 := ⟨by decide +kernel, rfl⟩
theorem d35_62 : DAt B35 62 (.iload_n 1) 1 63 := ⟨by decide +kernel, rfl⟩
theorem d35_63 : DAt B35 63 (.iconst 0) 1 64 := ⟨by decide +kernel, rfl⟩
theorem d35_64 : DAt B35 64 (.bastore) 1 65 := ⟨by decide +kernel, rfl⟩
theorem d35_65 : DAt B35 65 (.aload_n 0) 1 66 := ⟨by decide +kernel, rfl⟩
theorem d35_66 : DAt B35 66 (.getfield 44) 3 69 := ⟨by decide +kernel, rfl⟩
theorem d35_69 : DAt B35 69 (.iload_n 1) 1 70 := ⟨by decide +kernel, rfl⟩
theorem d35_70 : DAt B35 70 (.iconst 0) 1 71 := ⟨by decide +kernel, rfl⟩
theorem d35_71 : DAt B35 71 (.iastore) 1 72 := ⟨by decide +kernel, rfl⟩
theorem d35_72 : DAt B35 72 (.aload_n 0) 1 73 := ⟨by decide +kernel, rfl⟩
theorem d35_73 : DAt B35 73 (.getfield 47) 3 76 := ⟨by decide +kernel, rfl⟩
theorem d35_76 : DAt B35 76 (.iload_n 1) 1 77 := ⟨by decide +kernel, rfl⟩
theorem d35_77 : DAt B35 77 (.iconst 0) 1 78 := ⟨by decide +kernel, rfl⟩
theorem d35_78 : DAt B35 78 (.iastore) 1 79 := ⟨by decide +kernel, rfl⟩
theorem d35_79 : DAt B35 79 (.iinc 1 1) 3 82 := ⟨by decide +kernel, rfl⟩
theorem d35_82 : DAt B35 82 (.goto (-80)) 3 85 := ⟨by decide +kernel, rfl⟩
theorem d35_85 : DAt B35 85 (.return_) 1 86 := ⟨by decide +kernel, rfl⟩
def B34 : Bdy := ((⟨"LogicalReplicator", "handleHead", "()V"⟩ : MethodName), prog_1_method_21_code, 6, none, ({ frames := 1, cells := 0, slots := 0, locals := 13 } : Room))
theorem d34_0 : DAt B34 0 (.aload_n 0) 1 1 := ⟨by decide +kernel, rfl⟩
theorem d34_1 : DAt B34 1 (.getfield 91) 3 4 := ⟨by decide +kernel, rfl⟩
theorem d34_4 : DAt B34 4 (.istore_n 1) 1 5 := ⟨by decide +kernel, rfl⟩
theorem d34_5 : DAt B34 5 (.iload_n 1) 1 6 := ⟨by decide +kernel, rfl⟩
theorem d34_6 : DAt B34 6 (.ifCond .lt 10) 3 9 := ⟨by decide +kernel, rfl⟩
theorem d34_9 : DAt B34 9 (.iload_n 1) 1 10 := ⟨by decide +kernel, rfl⟩
theorem d34_10 : DAt B34 10 (.sipush 128) 3 13 := ⟨by decide +kernel, rfl⟩
theorem d34_13 : DAt B34 13 (.if_icmp .lt 5) 3 16 := ⟨by decide +kernel, rfl⟩
theorem d34_16 : DAt B34 16 (.iconst 0) 1 17 := ⟨by decide +kernel, rfl⟩
theorem d34_17 : DAt B34 17 (.istore_n 1) 1 18 := ⟨by decide +kernel, rfl⟩
theorem d34_18 : DAt B34 18 (.aload_n 0) 1 19 := ⟨by decide +kernel, rfl⟩
theorem d34_19 : DAt B34 19 (.getfield 50) 3 22 := ⟨by decide +kernel, rfl⟩
theorem d34_22 : DAt B34 22 (.iload_n 1) 1 23 := ⟨by decide +kernel, rfl⟩
theorem d34_23 : DAt B34 23 (.iaload) 1 24 := ⟨by decide +kernel, rfl⟩
theorem d34_24 : DAt B34 24 (.istore_n 2) 1 25 := ⟨by decide +kernel, rfl⟩
theorem d34_25 : DAt B34 25 (.aload_n 0) 1 26 := ⟨by decide +kernel, rfl⟩
theorem d34_26 : DAt B34 26 (.getfield 53) 3 29 := ⟨by decide +kernel, rfl⟩
theorem d34_29 : DAt B34 29 (.iload_n 1) 1 30 := ⟨by decide +kernel, rfl⟩
theorem d34_30 : DAt B34 30 (.iaload) 1 31 := ⟨by decide +kernel, rfl⟩
theorem d34_31 : DAt B34 31 (.istore_n 3) 1 32 := ⟨by decide +kernel, rfl⟩
theorem d34_32 : DAt B34 32 (.aload_n 0) 1 33 := ⟨by decide +kernel, rfl⟩
theorem d34_33 : DAt B34 33 (.getfield 56) 3 36 := ⟨by decide +kernel, rfl⟩
theorem d34_36 : DAt B34 36 (.iload_n 1) 1 37 := ⟨by decide +kernel, rfl⟩
theorem d34_37 : DAt B34 37 (.iaload) 1 38 := ⟨by decide +kernel, rfl⟩
theorem d34_38 : DAt B34 38 (.istore 4) 2 40 := ⟨by decide +kernel, rfl⟩
theorem d34_40 : DAt B34 40 (.aload_n 0) 1 41 := ⟨by decide +kernel, rfl⟩
theorem d34_41 : DAt B34 41 (.getfield 59) 3 44 := ⟨by decide +kernel, rfl⟩
theorem d34_44 : DAt B34 44 (.iload_n 1) 1 45 := ⟨by decide +kernel, rfl⟩
theorem d34_45 : DAt B34 45 (.iaload) 1 46 := ⟨by decide +kernel, rfl⟩
theorem d34_46 : DAt B34 46 (.istore 5) 2 48 := ⟨by decide +kernel, rfl⟩
theorem d34_48 : DAt B34 48 (.aload_n 0) 1 49 := ⟨by decide +kernel, rfl⟩
theorem d34_49 : DAt B34 49 (.iload_n 1) 1 50 := ⟨by decide +kernel, rfl⟩
theorem d34_50 : DAt B34 50 (.iconst 1) 1 51 := ⟨by decide +kernel, rfl⟩
theorem d34_51 : DAt B34 51 (.iadd) 1 52 := ⟨by decide +kernel, rfl⟩
theorem d34_52 : DAt B34 52 (.sipush 128) 3 55 := ⟨by decide +kernel, rfl⟩
theorem d34_55 : DAt B34 55 (.irem) 1 56 := ⟨by decide +kernel, rfl⟩
theorem d34_56 : DAt B34 56 (.putfield 91) 3 59 := ⟨by decide +kernel, rfl⟩
theorem d34_59 : DAt B34 59 (.aload_n 0) 1 60 := ⟨by decide +kernel, rfl⟩
theorem d34_60 : DAt B34 60 (.dup) 1 61 := ⟨by decide +kernel, rfl⟩
theorem d34_61 : DAt B34 61 (.getfield 94) 3 64 := ⟨by decide +kernel, rfl⟩
theorem d34_64 : DAt B34 64 (.iconst 1) 1 65 := ⟨by decide +kernel, rfl⟩
theorem d34_65 : DAt B34 65 (.isub) 1 66 := ⟨by decide +kernel, rfl⟩
theorem d34_66 : DAt B34 66 (.putfield 94) 3 69 := ⟨by decide +kernel, rfl⟩
theorem d34_69 : DAt B34 69 (.iload 5) 2 71 := ⟨by decide +kernel, rfl⟩
theorem d34_71 : DAt B34 71 (.aload_n 0) 1 72 := ⟨by decide +kernel, rfl⟩
theorem d34_72 : DAt B34 72 (.getfield 85) 3 75 := ⟨by decide +kernel, rfl⟩
theorem d34_75 : DAt B34 75 (.if_icmp .gt 4) 3 78 := ⟨by decide +kernel, rfl⟩
theorem d34_78 : DAt B34 78 (.return_) 1 79 := ⟨by decide +kernel, rfl⟩
theorem d34_79 : DAt B34 79 (.iload_n 2) 1 80 := ⟨by decide +kernel, rfl⟩
theorem d34_80 : DAt B34 80 (.iconst 4) 1 81 := ⟨by decide +kernel, rfl⟩
theorem d34_81 : DAt B34 81 (.if_icmp .ne 14) 3 84 := ⟨by decide +kernel, rfl⟩
theorem d34_84 : DAt B34 84 (.aload_n 0) 1 85 := ⟨by decide +kernel, rfl⟩
theorem d34_85 : DAt B34 85 (.invokevirtual 137) 3 88 := ⟨by decide +kernel, rfl⟩
theorem d34_88 : DAt B34 88 (.aload_n 0) 1 89 := ⟨by decide +kernel, rfl⟩
theorem d34_89 : DAt B34 89 (.iload 5) 2 91 := ⟨by decide +kernel, rfl⟩
theorem d34_91 : DAt B34 91 (.putfield 85) 3 94 := ⟨by decide +kernel, rfl⟩
theorem d34_94 : DAt B34 94 (.return_) 1 95 := ⟨by decide +kernel, rfl⟩
theorem d34_95 : DAt B34 95 (.iload_n 3) 1 96 := ⟨by decide +kernel, rfl⟩
theorem d34_96 : DAt B34 96 (.ifCond .lt 9) 3 99 := ⟨by decide +kernel, rfl⟩
theorem d34_99 : DAt B34 99 (.iload_n 3) 1 100 := ⟨by decide +kernel, rfl⟩
theorem d34_100 : DAt B34 100 (.bipush 32) 2 102 := ⟨by decide +kernel, rfl⟩
theorem d34_102 : DAt B34 102 (.if_icmp .lt 4) 3 105 := ⟨by decide +kernel, rfl⟩
theorem d34_105 : DAt B34 105 (.return_) 1 106 := ⟨by decide +kernel, rfl⟩
theorem d34_106 : DAt B34 106 (.iload_n 2) 1 107 := ⟨by decide +kernel, rfl⟩
theorem d34_107 : DAt B34 107 (.iconst 2) 1 108 := ⟨by decide +kernel, rfl⟩
theorem d34_108 : DAt B34 108 (.if_icmp .ne 21) 3 111 := ⟨by decide +kernel, rfl⟩
theorem d34_111 : DAt B34 111 (.aload_n 0) 1 112 := ⟨by decide +kernel, rfl⟩
theorem d34_112 : DAt B34 112 (.getfield 44) 3 115 := ⟨by decide +kernel, rfl⟩
theorem d34_115 : DAt B34 115 (.iload_n 3) 1 116 := ⟨by decide +kernel, rfl⟩
theorem d34_116 : DAt B34 116 (.iconst 1) 1 117 := ⟨by decide +kernel, rfl⟩
theorem d34_117 : DAt B34 117 (.iastore) 1 118 := ⟨by decide +kernel, rfl⟩
theorem d34_118 : DAt B34 118 (.aload_n 0) 1 119 := ⟨by decide +kernel, rfl⟩
theorem d34_119 : DAt B34 119 (.getfield 47) 3 122 := ⟨by decide +kernel, rfl⟩
theorem d34_122 : DAt B34 122 (.iload_n 3) 1 123 := ⟨by decide +kernel, rfl⟩
theorem d34_123 : DAt B34 123 (.iload 4) 2 125 := ⟨by decide +kernel, rfl⟩
theorem d34_125 : DAt B34 125 (.iastore) 1 126 := ⟨by decide +kernel, rfl⟩
theorem d34_126 : DAt B34 126 (.goto 22) 3 129 := ⟨by decide +kernel, rfl⟩
theorem d34_129 : DAt B34 129 (.iload_n 2) 1 130 := ⟨by decide +kernel, rfl⟩
theorem d34_130 : DAt B34 130 (.iconst 3) 1 131 := ⟨by decide +kernel, rfl⟩
theorem d34_131 : DAt B34 131 (.if_icmp .ne 17) 3 134 := ⟨by decide +kernel, rfl⟩
theorem d34_134 : DAt B34 134 (.aload_n 0) 1 135 := ⟨by decide +kernel, rfl⟩
theorem d34_135 : DAt B34 135 (.getfield 44) 3 138 := ⟨by decide +kernel, rfl⟩
theorem d34_138 : DAt B34 138 (.iload_n 3) 1 139 := ⟨by decide +kernel, rfl⟩
theorem d34_139 : DAt B34 139 (.iconst 2) 1 140 := ⟨by decide +kernel, rfl⟩
theorem d34_140 : DAt B34 140 (.iastore) 1 141 := ⟨by decide +kernel, rfl⟩
theorem d34_141 : DAt B34 141 (.aload_n 0) 1 142 := ⟨by decide +kernel, rfl⟩
theorem d34_142 : DAt B34 142 (.getfield 47) 3 145 := ⟨by decide +kernel, rfl⟩
theorem d34_145 : DAt B34 145 (.iload_n 3) 1 146 := ⟨by decide +kernel, rfl⟩
theorem d34_146 : DAt B34 146 (.iconst 0) 1 147 := ⟨by decide +kernel, rfl⟩
theorem d34_147 : DAt B34 147 (.iastore) 1 148 := ⟨by decide +kernel, rfl⟩
theorem d34_148 : DAt B34 148 (.return_) 1 149 := ⟨by decide +kernel, rfl⟩
def B18 : Bdy := ((⟨"LogicalReplicator", "apply", "(I)I"⟩ : MethodName), prog_1_method_20_code, 4, (some .int), ({ frames := 2, cells := 0, slots := 0, locals := 30 } : Room))
theorem d18_0 : DAt B18 0 (.iload_n 1) 1 1 := ⟨by decide +kernel, rfl⟩
theorem d18_1 : DAt B18 1 (.ifCond .gt 5) 3 4 := ⟨by decide +kernel, rfl⟩
theorem d18_4 : DAt B18 4 (.iconst 0) 1 5 := ⟨by decide +kernel, rfl⟩
theorem d18_5 : DAt B18 5 (.ireturn) 1 6 := ⟨by decide +kernel, rfl⟩
theorem d18_6 : DAt B18 6 (.iconst 0) 1 7 := ⟨by decide +kernel, rfl⟩
theorem d18_7 : DAt B18 7 (.istore_n 2) 1 8 := ⟨by decide +kernel, rfl⟩
theorem d18_8 : DAt B18 8 (.iconst 0) 1 9 := ⟨by decide +kernel, rfl⟩
theorem d18_9 : DAt B18 9 (.istore_n 3) 1 10 := ⟨by decide +kernel, rfl⟩
theorem d18_10 : DAt B18 10 (.iload_n 3) 1 11 := ⟨by decide +kernel, rfl⟩
theorem d18_11 : DAt B18 11 (.sipush 128) 3 14 := ⟨by decide +kernel, rfl⟩
theorem d18_14 : DAt B18 14 (.if_icmp .gt 28) 3 17 := ⟨by decide +kernel, rfl⟩
theorem d18_17 : DAt B18 17 (.iload_n 2) 1 18 := ⟨by decide +kernel, rfl⟩
theorem d18_18 : DAt B18 18 (.iload_n 1) 1 19 := ⟨by decide +kernel, rfl⟩
theorem d18_19 : DAt B18 19 (.if_icmp .ge 23) 3 22 := ⟨by decide +kernel, rfl⟩
theorem d18_22 : DAt B18 22 (.aload_n 0) 1 23 := ⟨by decide +kernel, rfl⟩
theorem d18_23 : DAt B18 23 (.getfield 94) 3 26 := ⟨by decide +kernel, rfl⟩
theorem d18_26 : DAt B18 26 (.ifCond .le 16) 3 29 := ⟨by decide +kernel, rfl⟩
theorem d18_29 : DAt B18 29 (.aload_n 0) 1 30 := ⟨by decide +kernel, rfl⟩
theorem d18_30 : DAt B18 30 (.invokevirtual 134) 3 33 := ⟨by decide +kernel, rfl⟩
theorem d18_33 : DAt B18 33 (.iinc 2 1) 3 36 := ⟨by decide +kernel, rfl⟩
theorem d18_36 : DAt B18 36 (.iinc 3 1) 3 39 := ⟨by decide +kernel, rfl⟩
theorem d18_39 : DAt B18 39 (.goto (-29)) 3 42 := ⟨by decide +kernel, rfl⟩
theorem d18_42 : DAt B18 42 (.iload_n 2) 1 43 := ⟨by decide +kernel, rfl⟩
theorem d18_43 : DAt B18 43 (.ireturn) 1 44 := ⟨by decide +kernel, rfl⟩
def B25 : Bdy := ((⟨"LogicalReplicator", "feedback", "()I"⟩ : MethodName), prog_1_method_24_code, 1, (some .int), ({ frames := 0, cells := 0, slots := 0, locals := 0 } : Room))
theorem d25_0 : DAt B25 0 (.aload_n 0) 1 1 := ⟨by decide +kernel, rfl⟩
theorem d25_1 : DAt B25 1 (.aload_n 0) 1 2 := ⟨by decide +kernel, rfl⟩
theorem d25_2 : DAt B25 2 (.getfield 85) 3 5 := ⟨by decide +kernel, rfl⟩
theorem d25_5 : DAt B25 5 (.putfield 88) 3 8 := ⟨by decide +kernel, rfl⟩
theorem d25_8 : DAt B25 8 (.aload_n 0) 1 9 := ⟨by decide +kernel, rfl⟩
theorem d25_9 : DAt B25 9 (.getfield 88) 3 12 := ⟨by decide +kernel, rfl⟩
theorem d25_12 : DAt B25 12 (.ireturn) 1 13 := ⟨by decide +kernel, rfl⟩
def B21 : Bdy := ((⟨"LogicalReplicator", "clearQueue", "()V"⟩ : MethodName), prog_1_method_19_code, 1, none, ({ frames := 0, cells := 0, slots := 0, locals := 0 } : Room))
theorem d21_0 : DAt B21 0 (.aload_n 0) 1 1 := ⟨by decide +kernel, rfl⟩
theorem d21_1 : DAt B21 1 (.iconst 0) 1 2 := ⟨by decide +kernel, rfl⟩
theorem d21_2 : DAt B21 2 (.putfield 91) 3 5 := ⟨by decide +kernel, rfl⟩
theorem d21_5 : DAt B21 5 (.aload_n 0) 1 6 := ⟨by decide +kernel, rfl⟩
theorem d21_6 : DAt B21 6 (.iconst 0) 1 7 := ⟨by decide +kernel, rfl⟩
theorem d21_7 : DAt B21 7 (.putfield 94) 3 10 := ⟨by decide +kernel, rfl⟩
theorem d21_10 : DAt B21 10 (.return_) 1 11 := ⟨by decide +kernel, rfl⟩
def B22 : Bdy := ((⟨"LogicalReplicator", "clearPending", "()V"⟩ : MethodName), prog_1_method_23_code, 2, none, ({ frames := 0, cells := 0, slots := 0, locals := 0 } : Room))
theorem d22_0 : DAt B22 0 (.iconst 0) 1 1 := ⟨by decide +kernel, rfl⟩
theorem d22_1 : DAt B22 1 (.istore_n 1) 1 2 := ⟨by decide +kernel, rfl⟩
theorem d22_2 : DAt B22 2 (.iload_n 1) 1 3 := ⟨by decide +kernel, rfl⟩
theorem d22_3 : DAt B22 3 (.bipush 32) 2 5 := ⟨by decide +kernel, rfl⟩
theorem d22_5 : DAt B22 5 (.if_icmp .ge 23) 3 8 := ⟨by decide +kernel, rfl⟩
theorem d22_8 : DAt B22 8 (.aload_n 0) 1 9 := ⟨by decide +kernel, rfl⟩
theorem d22_9 : DAt B22 9 (.getfield 44) 3 12 := ⟨by decide +kernel, rfl⟩
theorem d22_12 : DAt B22 12 (.iload_n 1) 1 13 := ⟨by decide +kernel, rfl⟩
theorem d22_13 : DAt B22 13 (.iconst 0) 1 14 := ⟨by decide +kernel, rfl⟩
theorem d22_14 : DAt B22 14 (.iastore) 1 15 := ⟨by decide +kernel, rfl⟩
theorem d22_15 : DAt B22 15 (.aload_n 0) 1 16 := ⟨by decide +kernel, rfl⟩
theorem d22_16 : DAt B22 16 (.getfield 47) 3 19 := ⟨by decide +kernel, rfl⟩
theorem d22_19 : DAt B22 19 (.iload_n 1) 1 20 := ⟨by decide +kernel, rfl⟩
theorem d22_20 : DAt B22 20 (.iconst 0) 1 21 := ⟨by decide +kernel, rfl⟩
theorem d22_21 : DAt B22 21 (.iastore) 1 22 := ⟨by decide +kernel, rfl⟩
theorem d22_22 : DAt B22 22 (.iinc 1 1) 3 25 := ⟨by decide +kernel, rfl⟩
theorem d22_25 : DAt B22 25 (.goto (-23)) 3 28 := ⟨by decide +kernel, rfl⟩
theorem d22_28 : DAt B22 28 (.return_) 1 29 := ⟨by decide +kernel, rfl⟩
def B20 : Bdy := ((⟨"LogicalReplicator", "crashPublisher", "()V"⟩ : MethodName), prog_1_method_25_code, 2, none, ({ frames := 1, cells := 0, slots := 0, locals := 13 } : Room))
theorem d20_0 : DAt B20 0 (.iconst 0) 1 1 := ⟨by decide +kernel, rfl⟩
theorem d20_1 : DAt B20 1 (.istore_n 1) 1 2 := ⟨by decide +kernel, rfl⟩
theorem d20_2 : DAt B20 2 (.iload_n 1) 1 3 := ⟨by decide +kernel, rfl⟩
theorem d20_3 : DAt B20 3 (.bipush 8) 2 5 := ⟨by decide +kernel, rfl⟩
theorem d20_5 : DAt B20 5 (.if_icmp .ge 16) 3 8 := ⟨by decide +kernel, rfl⟩
theorem d20_8 : DAt B20 8 (.aload_n 0) 1 9 := ⟨by decide +kernel, rfl⟩
theorem d20_9 : DAt B20 9 (.getfield 25) 3 12 := ⟨by decide +kernel, rfl⟩
theorem d20_12 : DAt B20 12 (.iload_n 1) 1 13 := ⟨by decide +kernel, rfl⟩
theorem d20_13 : DAt B20 13 (.iconst 0) 1 14 := ⟨by decide +kernel, rfl⟩
theorem d20_14 : DAt B20 14 (.bastore) 1 15 := ⟨by decide +kernel, rfl⟩
theorem d20_15 : DAt B20 15 (.iinc 1 1) 3 18 := ⟨by decide +kernel, rfl⟩
theorem d20_18 : DAt B20 18 (.goto (-16)) 3 21 := ⟨by decide +kernel, rfl⟩
theorem d20_21 : DAt B20 21 (.aload_n 0) 1 22 := ⟨by decide +kernel, rfl⟩
theorem d20_22 : DAt B20 22 (.invokevirtual 140) 3 25 := ⟨by decide +kernel, rfl⟩
theorem d20_25 : DAt B20 25 (.aload_n 0) 1 26 := ⟨by decide +kernel, rfl⟩
theorem d20_26 : DAt B20 26 (.invokevirtual 143) 3 29 := ⟨by decide +kernel, rfl⟩
theorem d20_29 : DAt B20 29 (.aload_n 0) 1 30 := ⟨by decide +kernel, rfl⟩
theorem d20_30 : DAt B20 30 (.aload_n 0) 1 31 := ⟨by decide +kernel, rfl⟩
theorem d20_31 : DAt B20 31 (.getfield 88) 3 34 := ⟨by decide +kernel, rfl⟩
theorem d20_34 : DAt B20 34 (.putfield 82) 3 37 := ⟨by decide +kernel, rfl⟩
theorem d20_37 : DAt B20 37 (.return_) 1 38 := ⟨by decide +kernel, rfl⟩
def B33 : Bdy := ((⟨"LogicalReplicator", "crashSubscriber", "()V"⟩ : MethodName), prog_1_method_26_code, 1, none, ({ frames := 1, cells := 0, slots := 0, locals := 13 } : Room))
theorem d33_0 : DAt B33 0 (.aload_n 0) 1 1 := ⟨by decide +kernel, rfl⟩
theorem d33_1 : DAt B33 1 (.invokevirtual 140) 3 4 := ⟨by decide +kernel, rfl⟩
theorem d33_4 : DAt B33 4 (.aload_n 0) 1 5 := ⟨by decide +kernel, rfl⟩
theorem d33_5 : DAt B33 5 (.invokevirtual 143) 3 8 := ⟨by decide +kernel, rfl⟩
theorem d33_8 : DAt B33 8 (.aload_n 0) 1 9 := ⟨by decide +kernel, rfl⟩
theorem d33_9 : DAt B33 9 (.aload_n 0) 1 10 := ⟨by decide +kernel, rfl⟩
theorem d33_10 : DAt B33 10 (.getfield 88) 3 13 := ⟨by decide +kernel, rfl⟩
theorem d33_13 : DAt B33 13 (.putfield 82) 3 16 := ⟨by decide +kernel, rfl⟩
theorem d33_16 : DAt B33 16 (.return_) 1 17 := ⟨by decide +kernel, rfl⟩
def B0 : Bdy := (x, code, maxLocals, ret, room_1)
theorem d0_0 : DAt B0 0 (.new 11) 3 3 := ⟨at_0, rfl⟩
theorem d0_3 : DAt B0 3 (.dup) 1 4 := ⟨at_3, rfl⟩
theorem d0_4 : DAt B0 4 (.bipush 8) 2 6 := ⟨at_4, rfl⟩
theorem d0_6 : DAt B0 6 (.iconst 3) 1 7 := ⟨at_6, rfl⟩
theorem d0_7 : DAt B0 7 (.bipush 64) 2 9 := ⟨at_7, rfl⟩
theorem d0_9 : DAt B0 9 (.iconst 4) 1 10 := ⟨at_9, rfl⟩
theorem d0_10 : DAt B0 10 (.invokespecial 13) 3 13 := ⟨at_10, rfl⟩
theorem d0_13 : DAt B0 13 (.astore_n 1) 1 14 := ⟨at_13, rfl⟩
theorem d0_14 : DAt B0 14 (.aload_n 0) 1 15 := ⟨at_14, rfl⟩
theorem d0_15 : DAt B0 15 (.arraylength) 1 16 := ⟨at_15, rfl⟩
theorem d0_16 : DAt B0 16 (.istore_n 2) 1 17 := ⟨at_16, rfl⟩
theorem d0_17 : DAt B0 17 (.iconst 0) 1 18 := ⟨at_17, rfl⟩
theorem d0_18 : DAt B0 18 (.istore_n 3) 1 19 := ⟨at_18, rfl⟩
theorem d0_19 : DAt B0 19 (.iload_n 3) 1 20 := ⟨at_19, rfl⟩
theorem d0_20 : DAt B0 20 (.iload_n 2) 1 21 := ⟨at_20, rfl⟩
theorem d0_21 : DAt B0 21 (.if_icmp .gt 542) 3 24 := ⟨at_21, rfl⟩
theorem d0_24 : DAt B0 24 (.aload_n 1) 1 25 := ⟨at_24, rfl⟩
theorem d0_25 : DAt B0 25 (.iconst 4) 1 26 := ⟨at_25, rfl⟩
theorem d0_26 : DAt B0 26 (.invokevirtual 16) 3 29 := ⟨at_26, rfl⟩
theorem d0_29 : DAt B0 29 (.istore 4) 2 31 := ⟨at_29, rfl⟩
theorem d0_31 : DAt B0 31 (.aload_n 1) 1 32 := ⟨at_31, rfl⟩
theorem d0_32 : DAt B0 32 (.iconst 5) 1 33 := ⟨at_32, rfl⟩
theorem d0_33 : DAt B0 33 (.invokevirtual 16) 3 36 := ⟨at_33, rfl⟩
theorem d0_36 : DAt B0 36 (.istore 5) 2 38 := ⟨at_36, rfl⟩
theorem d0_38 : DAt B0 38 (.iload 5) 2 40 := ⟨at_38, rfl⟩
theorem d0_40 : DAt B0 40 (.iload 4) 2 42 := ⟨at_40, rfl⟩
theorem d0_42 : DAt B0 42 (.if_icmp .le 5) 3 45 := ⟨at_42, rfl⟩
theorem d0_45 : DAt B0 45 (.iconst 0) 1 46 := ⟨at_45, rfl⟩
theorem d0_46 : DAt B0 46 (.ireturn) 1 47 := ⟨at_46, rfl⟩
theorem d0_47 : DAt B0 47 (.aload_n 1) 1 48 := ⟨at_47, rfl⟩
theorem d0_48 : DAt B0 48 (.iconst 0) 1 49 := ⟨at_48, rfl⟩
theorem d0_49 : DAt B0 49 (.invokevirtual 16) 3 52 := ⟨at_49, rfl⟩
theorem d0_52 : DAt B0 52 (.istore 6) 2 54 := ⟨at_52, rfl⟩
theorem d0_54 : DAt B0 54 (.iconst 0) 1 55 := ⟨at_54, rfl⟩
theorem d0_55 : DAt B0 55 (.istore 7) 2 57 := ⟨at_55, rfl⟩
theorem d0_57 : DAt B0 57 (.iload 7) 2 59 := ⟨at_57, rfl⟩
theorem d0_59 : DAt B0 59 (.bipush 8) 2 61 := ⟨at_59, rfl⟩
theorem d0_61 : DAt B0 61 (.if_icmp .ge 245) 3 64 := ⟨at_61, rfl⟩
theorem d0_64 : DAt B0 64 (.ldc2_w 20) 3 67 := ⟨at_64, rfl⟩
theorem d0_67 : DAt B0 67 (.lstore 8) 2 69 := ⟨at_67, rfl⟩
theorem d0_69 : DAt B0 69 (.ldc2_w 20) 3 72 := ⟨at_69, rfl⟩
theorem d0_72 : DAt B0 72 (.lstore 10) 2 74 := ⟨at_72, rfl⟩
theorem d0_74 : DAt B0 74 (.iconst 1) 1 75 := ⟨at_74, rfl⟩
theorem d0_75 : DAt B0 75 (.istore 12) 2 77 := ⟨at_75, rfl⟩
theorem d0_77 : DAt B0 77 (.iload 12) 2 79 := ⟨at_77, rfl⟩
theorem d0_79 : DAt B0 79 (.iload 6) 2 81 := ⟨at_79, rfl⟩
theorem d0_81 : DAt B0 81 (.if_icmp .gt 191) 3 84 := ⟨at_81, rfl⟩
theorem d0_84 : DAt B0 84 (.aload_n 1) 1 85 := ⟨at_84, rfl⟩
theorem d0_85 : DAt B0 85 (.iload 12) 2 87 := ⟨at_85, rfl⟩
theorem d0_87 : DAt B0 87 (.invokevirtual 22) 3 90 := ⟨at_87, rfl⟩
theorem d0_90 : DAt B0 90 (.lstore 13) 2 92 := ⟨at_90, rfl⟩
theorem d0_92 : DAt B0 92 (.lload 13) 2 94 := ⟨at_92, rfl⟩
theorem d0_94 : DAt B0 94 (.invokestatic 26) 3 97 := ⟨at_94, rfl⟩
theorem d0_97 : DAt B0 97 (.iconst 4) 1 98 := ⟨at_97, rfl⟩
theorem d0_98 : DAt B0 98 (.if_icmp .eq 6) 3 101 := ⟨at_98, rfl⟩
theorem d0_101 : DAt B0 101 (.goto 165) 3 104 := ⟨at_101, rfl⟩
theorem d0_104 : DAt B0 104 (.lload 13) 2 106 := ⟨at_104, rfl⟩
theorem d0_106 : DAt B0 106 (.invokestatic 32) 3 109 := ⟨at_106, rfl⟩
theorem d0_109 : DAt B0 109 (.istore 15) 2 111 := ⟨at_109, rfl⟩
theorem d0_111 : DAt B0 111 (.iconst 0) 1 112 := ⟨at_111, rfl⟩
theorem d0_112 : DAt B0 112 (.istore 16) 2 114 := ⟨at_112, rfl⟩
theorem d0_114 : DAt B0 114 (.iload 12) 2 116 := ⟨at_114, rfl⟩
theorem d0_116 : DAt B0 116 (.iconst 1) 1 117 := ⟨at_116, rfl⟩
theorem d0_117 : DAt B0 117 (.isub) 1 118 := ⟨at_117, rfl⟩
theorem d0_118 : DAt B0 118 (.istore 17) 2 120 := ⟨at_118, rfl⟩
theorem d0_120 : DAt B0 120 (.iload 17) 2 122 := ⟨at_120, rfl⟩
theorem d0_122 : DAt B0 122 (.iconst 1) 1 123 := ⟨at_122, rfl⟩
theorem d0_123 : DAt B0 123 (.if_icmp .lt 43) 3 126 := ⟨at_123, rfl⟩
theorem d0_126 : DAt B0 126 (.aload_n 1) 1 127 := ⟨at_126, rfl⟩
theorem d0_127 : DAt B0 127 (.iload 17) 2 129 := ⟨at_127, rfl⟩
theorem d0_129 : DAt B0 129 (.invokevirtual 22) 3 132 := ⟨at_129, rfl⟩
theorem d0_132 : DAt B0 132 (.lstore 18) 2 134 := ⟨at_132, rfl⟩
theorem d0_134 : DAt B0 134 (.lload 18) 2 136 := ⟨at_134, rfl⟩
theorem d0_136 : DAt B0 136 (.invokestatic 26) 3 139 := ⟨at_136, rfl⟩
theorem d0_139 : DAt B0 139 (.iconst 1) 1 140 := ⟨at_139, rfl⟩
theorem d0_140 : DAt B0 140 (.if_icmp .ne 20) 3 143 := ⟨at_140, rfl⟩
theorem d0_143 : DAt B0 143 (.lload 18) 2 145 := ⟨at_143, rfl⟩
theorem d0_145 : DAt B0 145 (.invokestatic 32) 3 148 := ⟨at_145, rfl⟩
theorem d0_148 : DAt B0 148 (.iload 15) 2 150 := ⟨at_148, rfl⟩
theorem d0_150 : DAt B0 150 (.if_icmp .ne 10) 3 153 := ⟨at_150, rfl⟩
theorem d0_153 : DAt B0 153 (.iload 17) 2 155 := ⟨at_153, rfl⟩
theorem d0_155 : DAt B0 155 (.istore 16) 2 157 := ⟨at_155, rfl⟩
theorem d0_157 : DAt B0 157 (.goto 9) 3 160 := ⟨at_157, rfl⟩
theorem d0_160 : DAt B0 160 (.iinc 17 (-1)) 3 163 := ⟨at_160, rfl⟩
theorem d0_163 : DAt B0 163 (.goto (-43)) 3 166 := ⟨at_163, rfl⟩
theorem d0_166 : DAt B0 166 (.iload 16) 2 168 := ⟨at_166, rfl⟩
theorem d0_168 : DAt B0 168 (.iconst 1) 1 169 := ⟨at_168, rfl⟩
theorem d0_169 : DAt B0 169 (.iadd) 1 170 := ⟨at_169, rfl⟩
theorem d0_170 : DAt B0 170 (.istore 17) 2 172 := ⟨at_170, rfl⟩
theorem d0_172 : DAt B0 172 (.iload 17) 2 174 := ⟨at_172, rfl⟩
theorem d0_174 : DAt B0 174 (.iload 12) 2 176 := ⟨at_174, rfl⟩
theorem d0_176 : DAt B0 176 (.if_icmp .ge 90) 3 179 := ⟨at_176, rfl⟩
theorem d0_179 : DAt B0 179 (.aload_n 1) 1 180 := ⟨at_179, rfl⟩
theorem d0_180 : DAt B0 180 (.iload 17) 2 182 := ⟨at_180, rfl⟩
theorem d0_182 : DAt B0 182 (.invokevirtual 22) 3 185 := ⟨at_182, rfl⟩
theorem d0_185 : DAt B0 185 (.lstore 18) 2 187 := ⟨at_185, rfl⟩
theorem d0_187 : DAt B0 187 (.lload 18) 2 189 := ⟨at_187, rfl⟩
theorem d0_189 : DAt B0 189 (.invokestatic 32) 3 192 := ⟨at_189, rfl⟩
theorem d0_192 : DAt B0 192 (.iload 15) 2 194 := ⟨at_192, rfl⟩
theorem d0_194 : DAt B0 194 (.if_icmp .ne 66) 3 197 := ⟨at_194, rfl⟩
theorem d0_197 : DAt B0 197 (.lload 18) 2 199 := ⟨at_197, rfl⟩
theorem d0_199 : DAt B0 199 (.invokestatic 35) 3 202 := ⟨at_199, rfl⟩
theorem d0_202 : DAt B0 202 (.iload 7) 2 204 := ⟨at_202, rfl⟩
theorem d0_204 : DAt B0 204 (.if_icmp .eq 6) 3 207 := ⟨at_204, rfl⟩
theorem d0_207 : DAt B0 207 (.goto 53) 3 210 := ⟨at_207, rfl⟩
theorem d0_210 : DAt B0 210 (.lload 18) 2 212 := ⟨at_210, rfl⟩
theorem d0_212 : DAt B0 212 (.invokestatic 26) 3 215 := ⟨at_212, rfl⟩
theorem d0_215 : DAt B0 215 (.istore 20) 2 217 := ⟨at_215, rfl⟩
theorem d0_217 : DAt B0 217 (.iload 20) 2 219 := ⟨at_217, rfl⟩
theorem d0_219 : DAt B0 219 (.iconst 2) 1 220 := ⟨at_219, rfl⟩
theorem d0_220 : DAt B0 220 (.if_icmp .ne 14) 3 223 := ⟨at_220, rfl⟩
theorem d0_223 : DAt B0 223 (.lload 18) 2 225 := ⟨at_223, rfl⟩
theorem d0_225 : DAt B0 225 (.invokestatic 38) 3 228 := ⟨at_225, rfl⟩
theorem d0_228 : DAt B0 228 (.i2l) 1 229 := ⟨at_228, rfl⟩
theorem d0_229 : DAt B0 229 (.lstore 21) 2 231 := ⟨at_229, rfl⟩
theorem d0_231 : DAt B0 231 (.goto 14) 3 234 := ⟨at_231, rfl⟩
theorem d0_234 : DAt B0 234 (.iload 20) 2 236 := ⟨at_234, rfl⟩
theorem d0_236 : DAt B0 236 (.iconst 3) 1 237 := ⟨at_236, rfl⟩
theorem d0_237 : DAt B0 237 (.if_icmp .ne 23) 3 240 := ⟨at_237, rfl⟩
theorem d0_240 : DAt B0 240 (.ldc2_w 20) 3 243 := ⟨at_240, rfl⟩
theorem d0_243 : DAt B0 243 (.lstore 21) 2 245 := ⟨at_243, rfl⟩
theorem d0_245 : DAt B0 245 (.lload 21) 2 247 := ⟨at_245, rfl⟩
theorem d0_247 : DAt B0 247 (.lstore 8) 2 249 := ⟨at_247, rfl⟩
theorem d0_249 : DAt B0 249 (.iload 12) 2 251 := ⟨at_249, rfl⟩
theorem d0_251 : DAt B0 251 (.iload 4) 2 253 := ⟨at_251, rfl⟩
theorem d0_253 : DAt B0 253 (.if_icmp .gt 7) 3 256 := ⟨at_253, rfl⟩
theorem d0_256 : DAt B0 256 (.lload 21) 2 258 := ⟨at_256, rfl⟩
theorem d0_258 : DAt B0 258 (.lstore 10) 2 260 := ⟨at_258, rfl⟩
theorem d0_260 : DAt B0 260 (.iinc 17 1) 3 263 := ⟨at_260, rfl⟩
theorem d0_263 : DAt B0 263 (.goto (-91)) 3 266 := ⟨at_263, rfl⟩
theorem d0_266 : DAt B0 266 (.iinc 12 1) 3 269 := ⟨at_266, rfl⟩
theorem d0_269 : DAt B0 269 (.goto (-192)) 3 272 := ⟨at_269, rfl⟩
theorem d0_272 : DAt B0 272 (.aload_n 1) 1 273 := ⟨at_272, rfl⟩
theorem d0_273 : DAt B0 273 (.iload 7) 2 275 := ⟨at_273, rfl⟩
theorem d0_275 : DAt B0 275 (.invokevirtual 41) 3 278 := ⟨at_275, rfl⟩
theorem d0_278 : DAt B0 278 (.lload 8) 2 280 := ⟨at_278, rfl⟩
theorem d0_280 : DAt B0 280 (.lcmp) 1 281 := ⟨at_280, rfl⟩
theorem d0_281 : DAt B0 281 (.ifCond .eq 5) 3 284 := ⟨at_281, rfl⟩
theorem d0_284 : DAt B0 284 (.iconst 0) 1 285 := ⟨at_284, rfl⟩
theorem d0_285 : DAt B0 285 (.ireturn) 1 286 := ⟨at_285, rfl⟩
theorem d0_286 : DAt B0 286 (.aload_n 1) 1 287 := ⟨at_286, rfl⟩
theorem d0_287 : DAt B0 287 (.iload 7) 2 289 := ⟨at_287, rfl⟩
theorem d0_289 : DAt B0 289 (.invokevirtual 44) 3 292 := ⟨at_289, rfl⟩
theorem d0_292 : DAt B0 292 (.lload 10) 2 294 := ⟨at_292, rfl⟩
theorem d0_294 : DAt B0 294 (.lcmp) 1 295 := ⟨at_294, rfl⟩
theorem d0_295 : DAt B0 295 (.ifCond .eq 5) 3 298 := ⟨at_295, rfl⟩
theorem d0_298 : DAt B0 298 (.iconst 0) 1 299 := ⟨at_298, rfl⟩
theorem d0_299 : DAt B0 299 (.ireturn) 1 300 := ⟨at_299, rfl⟩
theorem d0_300 : DAt B0 300 (.iinc 7 1) 3 303 := ⟨at_300, rfl⟩
theorem d0_303 : DAt B0 303 (.goto (-246)) 3 306 := ⟨at_303, rfl⟩
theorem d0_306 : DAt B0 306 (.iload_n 3) 1 307 := ⟨at_306, rfl⟩
theorem d0_307 : DAt B0 307 (.iload_n 2) 1 308 := ⟨at_307, rfl⟩
theorem d0_308 : DAt B0 308 (.if_icmp .ne 6) 3 311 := ⟨at_308, rfl⟩
theorem d0_311 : DAt B0 311 (.goto 252) 3 314 := ⟨at_311, rfl⟩
theorem d0_314 : DAt B0 314 (.aload_n 0) 1 315 := ⟨at_314, rfl⟩
theorem d0_315 : DAt B0 315 (.iload_n 3) 1 316 := ⟨at_315, rfl⟩
theorem d0_316 : DAt B0 316 (.invokestatic 47) 3 319 := ⟨at_316, rfl⟩
theorem d0_319 : DAt B0 319 (.istore 7) 2 321 := ⟨at_319, rfl⟩
theorem d0_321 : DAt B0 321 (.iload 7) 2 323 := ⟨at_321, rfl⟩
theorem d0_323 : DAt B0 323 (.bipush 15) 2 325 := ⟨at_323, rfl⟩
theorem d0_325 : DAt B0 325 (.iand) 1 326 := ⟨at_325, rfl⟩
theorem d0_326 : DAt B0 326 (.istore 8) 2 328 := ⟨at_326, rfl⟩
theorem d0_328 : DAt B0 328 (.iload 7) 2 330 := ⟨at_328, rfl⟩
theorem d0_330 : DAt B0 330 (.iconst 4) 1 331 := ⟨at_330, rfl⟩
theorem d0_331 : DAt B0 331 (.iushr) 1 332 := ⟨at_331, rfl⟩
theorem d0_332 : DAt B0 332 (.iconst 3) 1 333 := ⟨at_332, rfl⟩
theorem d0_333 : DAt B0 333 (.irem) 1 334 := ⟨at_333, rfl⟩
theorem d0_334 : DAt B0 334 (.istore 9) 2 336 := ⟨at_334, rfl⟩
theorem d0_336 : DAt B0 336 (.iload 7) 2 338 := ⟨at_336, rfl⟩
theorem d0_338 : DAt B0 338 (.iconst 4) 1 339 := ⟨at_338, rfl⟩
theorem d0_339 : DAt B0 339 (.iushr) 1 340 := ⟨at_339, rfl⟩
theorem d0_340 : DAt B0 340 (.iconst 3) 1 341 := ⟨at_340, rfl⟩
theorem d0_341 : DAt B0 341 (.iand) 1 342 := ⟨at_341, rfl⟩
theorem d0_342 : DAt B0 342 (.istore 10) 2 344 := ⟨at_342, rfl⟩
theorem d0_344 : DAt B0 344 (.iload 7) 2 346 := ⟨at_344, rfl⟩
theorem d0_346 : DAt B0 346 (.bipush 6) 2 348 := ⟨at_346, rfl⟩
theorem d0_348 : DAt B0 348 (.iushr) 1 349 := ⟨at_348, rfl⟩
theorem d0_349 : DAt B0 349 (.bipush 7) 2 351 := ⟨at_349, rfl⟩
theorem d0_351 : DAt B0 351 (.iand) 1 352 := ⟨at_351, rfl⟩
theorem d0_352 : DAt B0 352 (.istore 11) 2 354 := ⟨at_352, rfl⟩
theorem d0_354 : DAt B0 354 (.iload 7) 2 356 := ⟨at_354, rfl⟩
theorem d0_356 : DAt B0 356 (.bipush 9) 2 358 := ⟨at_356, rfl⟩
theorem d0_358 : DAt B0 358 (.ishr) 1 359 := ⟨at_358, rfl⟩
theorem d0_359 : DAt B0 359 (.istore 12) 2 361 := ⟨at_359, rfl⟩
theorem d0_361 : DAt B0 361 (.iload 8) 2 363 := ⟨at_361, rfl⟩
theorem d0_363 : DAt B0 363 (.iconst 1) 1 364 := ⟨at_363, rfl⟩
theorem d0_364 : DAt B0 364 (.if_icmp .gt 13) 3 367 := ⟨at_364, rfl⟩
theorem d0_367 : DAt B0 367 (.aload_n 1) 1 368 := ⟨at_367, rfl⟩
theorem d0_368 : DAt B0 368 (.iload 9) 2 370 := ⟨at_368, rfl⟩
theorem d0_370 : DAt B0 370 (.invokevirtual 51) 3 373 := ⟨at_370, rfl⟩
theorem d0_373 : DAt B0 373 (.pop) 1 374 := ⟨at_373, rfl⟩
theorem d0_374 : DAt B0 374 (.goto 183) 3 377 := ⟨at_374, rfl⟩
theorem d0_377 : DAt B0 377 (.iload 8) 2 379 := ⟨at_377, rfl⟩
theorem d0_379 : DAt B0 379 (.iconst 4) 1 380 := ⟨at_379, rfl⟩
theorem d0_380 : DAt B0 380 (.if_icmp .gt 17) 3 383 := ⟨at_380, rfl⟩
theorem d0_383 : DAt B0 383 (.aload_n 1) 1 384 := ⟨at_383, rfl⟩
theorem d0_384 : DAt B0 384 (.iload 9) 2 386 := ⟨at_384, rfl⟩
theorem d0_386 : DAt B0 386 (.iload 11) 2 388 := ⟨at_386, rfl⟩
theorem d0_388 : DAt B0 388 (.iload 12) 2 390 := ⟨at_388, rfl⟩
theorem d0_390 : DAt B0 390 (.invokevirtual 54) 3 393 := ⟨at_390, rfl⟩
theorem d0_393 : DAt B0 393 (.pop) 1 394 := ⟨at_393, rfl⟩
theorem d0_394 : DAt B0 394 (.goto 163) 3 397 := ⟨at_394, rfl⟩
theorem d0_397 : DAt B0 397 (.iload 8) 2 399 := ⟨at_397, rfl⟩
theorem d0_399 : DAt B0 399 (.iconst 5) 1 400 := ⟨at_399, rfl⟩
theorem d0_400 : DAt B0 400 (.if_icmp .ne 15) 3 403 := ⟨at_400, rfl⟩
theorem d0_403 : DAt B0 403 (.aload_n 1) 1 404 := ⟨at_403, rfl⟩
theorem d0_404 : DAt B0 404 (.iload 9) 2 406 := ⟨at_404, rfl⟩
theorem d0_406 : DAt B0 406 (.iload 11) 2 408 := ⟨at_406, rfl⟩
theorem d0_408 : DAt B0 408 (.invokevirtual 58) 3 411 := ⟨at_408, rfl⟩
theorem d0_411 : DAt B0 411 (.pop) 1 412 := ⟨at_411, rfl⟩
theorem d0_412 : DAt B0 412 (.goto 145) 3 415 := ⟨at_412, rfl⟩
theorem d0_415 : DAt B0 415 (.iload 8) 2 417 := ⟨at_415, rfl⟩
theorem d0_417 : DAt B0 417 (.bipush 7) 2 419 := ⟨at_417, rfl⟩
theorem d0_419 : DAt B0 419 (.if_icmp .gt 13) 3 422 := ⟨at_419, rfl⟩
theorem d0_422 : DAt B0 422 (.aload_n 1) 1 423 := ⟨at_422, rfl⟩
theorem d0_423 : DAt B0 423 (.iload 9) 2 425 := ⟨at_423, rfl⟩
theorem d0_425 : DAt B0 425 (.invokevirtual 62) 3 428 := ⟨at_425, rfl⟩
theorem d0_428 : DAt B0 428 (.pop) 1 429 := ⟨at_428, rfl⟩
theorem d0_429 : DAt B0 429 (.goto 128) 3 432 := ⟨at_429, rfl⟩
theorem d0_432 : DAt B0 432 (.iload 8) 2 434 := ⟨at_432, rfl⟩
theorem d0_434 : DAt B0 434 (.bipush 8) 2 436 := ⟨at_434, rfl⟩
theorem d0_436 : DAt B0 436 (.if_icmp .ne 13) 3 439 := ⟨at_436, rfl⟩
theorem d0_439 : DAt B0 439 (.aload_n 1) 1 440 := ⟨at_439, rfl⟩
theorem d0_440 : DAt B0 440 (.iload 9) 2 442 := ⟨at_440, rfl⟩
theorem d0_442 : DAt B0 442 (.invokevirtual 65) 3 445 := ⟨at_442, rfl⟩
theorem d0_445 : DAt B0 445 (.pop) 1 446 := ⟨at_445, rfl⟩
theorem d0_446 : DAt B0 446 (.goto 111) 3 449 := ⟨at_446, rfl⟩
theorem d0_449 : DAt B0 449 (.iload 8) 2 451 := ⟨at_449, rfl⟩
theorem d0_451 : DAt B0 451 (.bipush 10) 2 453 := ⟨at_451, rfl⟩
theorem d0_453 : DAt B0 453 (.if_icmp .gt 15) 3 456 := ⟨at_453, rfl⟩
theorem d0_456 : DAt B0 456 (.aload_n 1) 1 457 := ⟨at_456, rfl⟩
theorem d0_457 : DAt B0 457 (.iload 10) 2 459 := ⟨at_457, rfl⟩
theorem d0_459 : DAt B0 459 (.iconst 1) 1 460 := ⟨at_459, rfl⟩
theorem d0_460 : DAt B0 460 (.iadd) 1 461 := ⟨at_460, rfl⟩
theorem d0_461 : DAt B0 461 (.invokevirtual 68) 3 464 := ⟨at_461, rfl⟩
theorem d0_464 : DAt B0 464 (.pop) 1 465 := ⟨at_464, rfl⟩
theorem d0_465 : DAt B0 465 (.goto 92) 3 468 := ⟨at_465, rfl⟩
theorem d0_468 : DAt B0 468 (.iload 8) 2 470 := ⟨at_468, rfl⟩
theorem d0_470 : DAt B0 470 (.bipush 12) 2 472 := ⟨at_470, rfl⟩
theorem d0_472 : DAt B0 472 (.if_icmp .gt 17) 3 475 := ⟨at_472, rfl⟩
theorem d0_475 : DAt B0 475 (.aload_n 1) 1 476 := ⟨at_475, rfl⟩
theorem d0_476 : DAt B0 476 (.iload 10) 2 478 := ⟨at_476, rfl⟩
theorem d0_478 : DAt B0 478 (.iconst 3) 1 479 := ⟨at_478, rfl⟩
theorem d0_479 : DAt B0 479 (.imul) 1 480 := ⟨at_479, rfl⟩
theorem d0_480 : DAt B0 480 (.iconst 1) 1 481 := ⟨at_480, rfl⟩
theorem d0_481 : DAt B0 481 (.iadd) 1 482 := ⟨at_481, rfl⟩
theorem d0_482 : DAt B0 482 (.invokevirtual 71) 3 485 := ⟨at_482, rfl⟩
theorem d0_485 : DAt B0 485 (.pop) 1 486 := ⟨at_485, rfl⟩
theorem d0_486 : DAt B0 486 (.goto 71) 3 489 := ⟨at_486, rfl⟩
theorem d0_489 : DAt B0 489 (.iload 8) 2 491 := ⟨at_489, rfl⟩
theorem d0_491 : DAt B0 491 (.bipush 13) 2 493 := ⟨at_491, rfl⟩
theorem d0_493 : DAt B0 493 (.if_icmp .ne 11) 3 496 := ⟨at_493, rfl⟩
theorem d0_496 : DAt B0 496 (.aload_n 1) 1 497 := ⟨at_496, rfl⟩
theorem d0_497 : DAt B0 497 (.invokevirtual 74) 3 500 := ⟨at_497, rfl⟩
theorem d0_500 : DAt B0 500 (.pop) 1 501 := ⟨at_500, rfl⟩
theorem d0_501 : DAt B0 501 (.goto 56) 3 504 := ⟨at_501, rfl⟩
theorem d0_504 : DAt B0 504 (.iload 8) 2 506 := ⟨at_504, rfl⟩
theorem d0_506 : DAt B0 506 (.bipush 14) 2 508 := ⟨at_506, rfl⟩
theorem d0_508 : DAt B0 508 (.if_icmp .ne 25) 3 511 := ⟨at_508, rfl⟩
theorem d0_511 : DAt B0 511 (.iload 10) 2 513 := ⟨at_511, rfl⟩
theorem d0_513 : DAt B0 513 (.ifCond .ne 10) 3 516 := ⟨at_513, rfl⟩
theorem d0_516 : DAt B0 516 (.aload_n 1) 1 517 := ⟨at_516, rfl⟩
theorem d0_517 : DAt B0 517 (.invokevirtual 78) 3 520 := ⟨at_517, rfl⟩
theorem d0_520 : DAt B0 520 (.goto 37) 3 523 := ⟨at_520, rfl⟩
theorem d0_523 : DAt B0 523 (.aload_n 1) 1 524 := ⟨at_523, rfl⟩
theorem d0_524 : DAt B0 524 (.bipush 64) 2 526 := ⟨at_524, rfl⟩
theorem d0_526 : DAt B0 526 (.invokevirtual 68) 3 529 := ⟨at_526, rfl⟩
theorem d0_529 : DAt B0 529 (.pop) 1 530 := ⟨at_529, rfl⟩
theorem d0_530 : DAt B0 530 (.goto 27) 3 533 := ⟨at_530, rfl⟩
theorem d0_533 : DAt B0 533 (.iload 10) 2 535 := ⟨at_533, rfl⟩
theorem d0_535 : DAt B0 535 (.ifCond .ne 10) 3 538 := ⟨at_535, rfl⟩
theorem d0_538 : DAt B0 538 (.aload_n 1) 1 539 := ⟨at_538, rfl⟩
theorem d0_539 : DAt B0 539 (.invokevirtual 81) 3 542 := ⟨at_539, rfl⟩
theorem d0_542 : DAt B0 542 (.goto 15) 3 545 := ⟨at_542, rfl⟩
theorem d0_545 : DAt B0 545 (.aload_n 1) 1 546 := ⟨at_545, rfl⟩
theorem d0_546 : DAt B0 546 (.bipush 64) 2 548 := ⟨at_546, rfl⟩
theorem d0_548 : DAt B0 548 (.invokevirtual 71) 3 551 := ⟨at_548, rfl⟩
theorem d0_551 : DAt B0 551 (.pop) 1 552 := ⟨at_551, rfl⟩
theorem d0_552 : DAt B0 552 (.aload_n 1) 1 553 := ⟨at_552, rfl⟩
theorem d0_553 : DAt B0 553 (.invokevirtual 74) 3 556 := ⟨at_553, rfl⟩
theorem d0_556 : DAt B0 556 (.pop) 1 557 := ⟨at_556, rfl⟩
theorem d0_557 : DAt B0 557 (.iinc 3 1) 3 560 := ⟨at_557, rfl⟩
theorem d0_560 : DAt B0 560 (.goto (-541)) 3 563 := ⟨at_560, rfl⟩
theorem d0_563 : DAt B0 563 (.iconst 1) 1 564 := ⟨at_563, rfl⟩
theorem d0_564 : DAt B0 564 (.ireturn) 1 565 := ⟨at_564, rfl⟩
theorem ar1 : arity B1 4 := ⟨[.int, .int, .int, .int], none, by decide +kernel, rfl⟩
theorem ar2 : arity B2 3 := ⟨[.int, .int, .int], some .int, by decide +kernel, rfl⟩
theorem ar3 : arity B3 1 := ⟨[.int], some .int, by decide +kernel, rfl⟩
theorem ar4 : arity B4 1 := ⟨[.int], some .long, by decide +kernel, rfl⟩
theorem ar5 : arity B5 1 := ⟨[.int], some .boolean, by decide +kernel, rfl⟩
theorem ar6 : arity B6 1 := ⟨[.int], some .long, by decide +kernel, rfl⟩
theorem ar7 : arity B7 2 := ⟨[(.array .int), .int], some .int, by decide +kernel, rfl⟩
theorem ar8 : arity B8 3 := ⟨[.int, .int, .int], some .int, by decide +kernel, rfl⟩
theorem ar9 : arity B9 4 := ⟨[.int, .int, .int, .int], some .int, by decide +kernel, rfl⟩
theorem ar10 : arity B10 1 := ⟨[.int], some .int, by decide +kernel, rfl⟩
theorem ar11 : arity B11 1 := ⟨[.int], some .boolean, by decide +kernel, rfl⟩
theorem ar12 : arity B12 1 := ⟨[.int], some .int, by decide +kernel, rfl⟩
theorem ar13 : arity B13 0 := ⟨[], some .boolean, by decide +kernel, rfl⟩
theorem ar14 : arity B14 4 := ⟨[.int, .int, .int, .int], some .int, by decide +kernel, rfl⟩
theorem ar15 : arity B15 1 := ⟨[.int], some .long, by decide +kernel, rfl⟩
theorem ar16 : arity B16 1 := ⟨[.long], some .int, by decide +kernel, rfl⟩
theorem ar17 : arity B17 1 := ⟨[.int], some .int, by decide +kernel, rfl⟩
theorem ar18 : arity B18 1 := ⟨[.int], some .int, by decide +kernel, rfl⟩
theorem ar19 : arity B19 1 := ⟨[.int], some .int, by decide +kernel, rfl⟩
theorem ar20 : arity B20 0 := ⟨[], none, by decide +kernel, rfl⟩
theorem ar21 : arity B21 0 := ⟨[], none, by decide +kernel, rfl⟩
theorem ar22 : arity B22 0 := ⟨[], none, by decide +kernel, rfl⟩
theorem ar23 : arity B23 1 := ⟨[.int], some .int, by decide +kernel, rfl⟩
theorem ar24 : arity B24 1 := ⟨[.int], some .int, by decide +kernel, rfl⟩
theorem ar25 : arity B25 0 := ⟨[], some .int, by decide +kernel, rfl⟩
theorem ar26 : arity B26 2 := ⟨[.int, .int], some .int, by decide +kernel, rfl⟩
theorem ar27 : arity B27 3 := ⟨[.int, .int, .int], none, by decide +kernel, rfl⟩
theorem ar28 : arity B28 1 := ⟨[.long], some .int, by decide +kernel, rfl⟩
theorem ar29 : arity B29 1 := ⟨[.long], some .int, by decide +kernel, rfl⟩
theorem ar30 : arity B30 1 := ⟨[.long], some .int, by decide +kernel, rfl⟩
theorem ar31 : arity B31 1 := ⟨[.int], none, by decide +kernel, rfl⟩
theorem ar32 : arity B32 4 := ⟨[.int, .int, .int, .int], none, by decide +kernel, rfl⟩
theorem ar33 : arity B33 0 := ⟨[], none, by decide +kernel, rfl⟩
theorem ar34 : arity B34 0 := ⟨[], none, by decide +kernel, rfl⟩
theorem ar35 : arity B35 0 := ⟨[], none, by decide +kernel, rfl⟩
theorem cw1 : code_w B1 := ⟨mem1 5 rfl, mem1 2 rfl, by decide⟩
theorem cw2 : code_w B2 := ⟨mem1 48 rfl, mem1 2 rfl, by decide⟩
theorem cw3 : code_w B3 := ⟨mem1 73 rfl, mem1 2 rfl, by decide⟩
theorem cw4 : code_w B4 := ⟨mem1 79 rfl, mem1 2 rfl, by decide⟩
theorem cw5 : code_w B5 := ⟨mem1 83 rfl, mem1 2 rfl, by decide⟩
theorem cw6 : code_w B6 := ⟨mem1 89 rfl, mem1 2 rfl, by decide⟩
theorem cw7 : code_w B7 := ⟨mem1 93 rfl, mem1 92 rfl, by decide⟩
theorem cw8 : code_w B8 := ⟨mem1 98 rfl, mem1 2 rfl, by decide⟩
theorem cw9 : code_w B9 := ⟨mem1 102 rfl, mem1 2 rfl, by decide⟩
theorem cw10 : code_w B10 := ⟨mem1 106 rfl, mem1 2 rfl, by decide⟩
theorem cw11 : code_w B11 := ⟨mem1 110 rfl, mem1 2 rfl, by decide⟩
theorem cw12 : code_w B12 := ⟨mem1 115 rfl, mem1 2 rfl, by decide⟩
theorem cw13 : code_w B13 := ⟨mem1 119 rfl, mem1 2 rfl, by decide⟩
theorem cw14 : code_w B14 := ⟨mem1 123 rfl, mem1 2 rfl, by decide⟩
theorem cw15 : code_w B15 := ⟨mem1 128 rfl, mem1 2 rfl, by decide⟩
theorem cw16 : code_w B16 := ⟨mem1 132 rfl, mem1 92 rfl, by decide⟩
theorem cw17 : code_w B17 := ⟨mem1 138 rfl, mem1 2 rfl, by decide⟩
theorem cw18 : code_w B18 := ⟨mem1 143 rfl, mem1 2 rfl, by decide⟩
theorem cw19 : code_w B19 := ⟨mem1 148 rfl, mem1 2 rfl, by decide⟩
theorem cw20 : code_w B20 := ⟨mem1 153 rfl, mem1 2 rfl, by decide⟩
theorem cw21 : code_w B21 := ⟨mem1 157 rfl, mem1 2 rfl, by decide⟩
theorem cw22 : code_w B22 := ⟨mem1 161 rfl, mem1 2 rfl, by decide⟩
theorem cw23 : code_w B23 := ⟨mem1 166 rfl, mem1 2 rfl, by decide⟩
theorem cw24 : code_w B24 := ⟨mem1 170 rfl, mem1 2 rfl, by decide⟩
theorem cw25 : code_w B25 := ⟨mem1 175 rfl, mem1 2 rfl, by decide⟩
theorem cw26 : code_w B26 := ⟨mem1 180 rfl, mem1 2 rfl, by decide⟩
theorem cw27 : code_w B27 := ⟨mem1 184 rfl, mem1 2 rfl, by decide⟩
theorem cw28 : code_w B28 := ⟨mem1 187 rfl, mem1 92 rfl, by decide⟩
theorem cw29 : code_w B29 := ⟨mem1 190 rfl, mem1 92 rfl, by decide⟩
theorem cw30 : code_w B30 := ⟨mem1 194 rfl, mem1 92 rfl, by decide⟩
theorem cw31 : code_w B31 := ⟨mem1 198 rfl, mem1 2 rfl, by decide⟩
theorem cw32 : code_w B32 := ⟨mem1 202 rfl, mem1 2 rfl, by decide⟩
theorem cw33 : code_w B33 := ⟨mem1 207 rfl, mem1 2 rfl, by decide⟩
theorem cw34 : code_w B34 := ⟨mem1 211 rfl, mem1 2 rfl, by decide⟩
theorem cw35 : code_w B35 := ⟨mem1 215 rfl, mem1 2 rfl, by decide⟩
theorem rk0_3_0 : room_ok B0 B3 0 := by decide
theorem rk0_4_0 : room_ok B0 B4 0 := by decide
theorem rk0_6_0 : room_ok B0 B6 0 := by decide
theorem rk0_7_0 : room_ok B0 B7 0 := by decide
theorem rk0_8_0 : room_ok B0 B8 0 := by decide
theorem rk0_12_0 : room_ok B0 B12 0 := by decide
theorem rk0_15_0 : room_ok B0 B15 0 := by decide
theorem rk0_16_0 : room_ok B0 B16 0 := by decide
theorem rk0_17_0 : room_ok B0 B17 0 := by decide
theorem rk0_18_0 : room_ok B0 B18 0 := by decide
theorem rk0_19_0 : room_ok B0 B19 0 := by decide
theorem rk0_20_0 : room_ok B0 B20 0 := by decide
theorem rk0_23_0 : room_ok B0 B23 0 := by decide
theorem rk0_25_0 : room_ok B0 B25 0 := by decide
theorem rk0_26_0 : room_ok B0 B26 0 := by decide
theorem rk0_28_0 : room_ok B0 B28 0 := by decide
theorem rk0_29_0 : room_ok B0 B29 0 := by decide
theorem rk0_30_0 : room_ok B0 B30 0 := by decide
theorem rk0_33_0 : room_ok B0 B33 0 := by decide
theorem rk1_2_1 : room_ok B1 B2 1 := by decide
theorem rk4_5_0 : room_ok B4 B5 0 := by decide
theorem rk6_5_0 : room_ok B6 B5 0 := by decide
theorem rk8_9_0 : room_ok B8 B9 0 := by decide
theorem rk9_5_0 : room_ok B9 B5 0 := by decide
theorem rk9_10_0 : room_ok B9 B10 0 := by decide
theorem rk9_13_0 : room_ok B9 B13 0 := by decide
theorem rk9_14_0 : room_ok B9 B14 0 := by decide
theorem rk10_11_0 : room_ok B10 B11 0 := by decide
theorem rk12_11_0 : room_ok B12 B11 0 := by decide
theorem rk12_13_0 : room_ok B12 B13 0 := by decide
theorem rk12_14_0 : room_ok B12 B14 0 := by decide
theorem rk17_10_0 : room_ok B17 B10 0 := by decide
theorem rk17_13_0 : room_ok B17 B13 0 := by decide
theorem rk17_14_0 : room_ok B17 B14 0 := by decide
theorem rk18_34_0 : room_ok B18 B34 0 := by decide
theorem rk19_10_0 : room_ok B19 B10 0 := by decide
theorem rk19_13_0 : room_ok B19 B13 0 := by decide
theorem rk19_14_0 : room_ok B19 B14 0 := by decide
theorem rk19_27_0 : room_ok B19 B27 0 := by decide
theorem rk20_21_0 : room_ok B20 B21 0 := by decide
theorem rk20_22_0 : room_ok B20 B22 0 := by decide
theorem rk23_24_0 : room_ok B23 B24 0 := by decide
theorem rk23_31_0 : room_ok B23 B31 0 := by decide
theorem rk26_9_0 : room_ok B26 B9 0 := by decide
theorem rk31_32_0 : room_ok B31 B32 0 := by decide
theorem rk33_21_0 : room_ok B33 B21 0 := by decide
theorem rk33_22_0 : room_ok B33 B22 0 := by decide
theorem rk34_35_0 : room_ok B34 B35 0 := by decide
def X_clamp (ob : Rec) (i1 : Int32) (i2 : Int32) (i3 : Int32) : Option (Int32) :=
  if i1 < i2 then
    some i2
  else
    if i3 < i1 then
      some i3
    else
      some i1
set_option maxRecDepth 65536 in
set_option maxHeartbeats 4000000 in
theorem X_clamp_p {C : Ctx} {top : Nat} {a : Nat} {H : List (Nat × Nat × Rec)} {ob : Rec} {res : Int32} (i1 : Int32) (i2 : Int32) (i3 : Int32) (hf : X_clamp ob i1 i2 i3 = some res) : Runs C B2 0 0 0 [vr a, vi i1, vi i2, vi i3] [] (top, (a, 17, ob) :: H) (Ans (some (.int res)) (top, (a, 17, ob) :: H)) := by
  delta X_clamp at hf
  refine Runs.iloadN d2_0 rfl <| Runs.iloadN d2_1 rfl <| ?_
  refine ite_el hf (fun hc1 hf => ?_) (fun hc1 hf => ?_)
  · refine Runs.icN d2_2 (tlt hc1).2.1 <| ?_
    obtain rfl := Option.some.inj hf
    exact Runs.iloadN d2_5 rfl <| Runs.retI d2_6 rfl ⟨by decide, by decide⟩ ⟨rfl, rfl⟩
  · refine Runs.icY (pc' := 7) d2_2 (flt hc1).2.1 (by decide) <| ?_
    refine Runs.iloadN d2_7 rfl <| Runs.iloadN d2_8 rfl <| ?_
    refine ite_el hf (fun hc2 hf => ?_) (fun hc2 hf => ?_)
    · refine Runs.icN d2_9 (tlt hc2).2.2.2 <| ?_
      obtain rfl := Option.some.inj hf
      exact Runs.iloadN d2_12 rfl <| Runs.retI d2_13 rfl ⟨by decide, by decide⟩ ⟨rfl, rfl⟩
    · refine Runs.icY (pc' := 14) d2_9 (flt hc2).2.2.2 (by decide) <| ?_
      obtain rfl := Option.some.inj hf
      exact Runs.iloadN d2_14 rfl <| Runs.retI d2_15 rfl ⟨by decide, by decide⟩ ⟨rfl, rfl⟩
theorem X_clamp_pay {C : Ctx} {top : Nat} {a : Nat} {H : List (Nat × Nat × Rec)} {ob : Rec} {res : Int32} {i1 : Int32} {i2 : Int32} {i3 : Int32} (hf : X_clamp ob i1 i2 i3 = some res) : Pays C B2 [.ref a, .int i1, .int i2, .int i3] (top, (a, 17, ob) :: H) (Ans (some (.int res)) (top, (a, 17, ob) :: H)) :=
  Pays.of pnK (Nat.le_of_ble_eq_true rfl) (P := [vr a, vi i1, vi i2, vi i3]) 0 rfl (X_clamp_p i1 i2 i3 hf)
def X_init (i1 : Int32) (i2 : Int32) (i3 : Int32) (i4 : Int32) : Option (Rec) :=
  (X_clamp zrec i1 (8 : Int32) (32 : Int32)).bind fun r1 =>
  (X_clamp (sI zrec 0 r1) i2 (2 : Int32) (8 : Int32)).bind fun r3 =>
  (X_clamp (sI (sI zrec 0 r1) 1 r3) i3 (16 : Int32) (128 : Int32)).bind fun r5 =>
  (X_clamp (sI (sI (sI zrec 0 r1) 1 r3) 2 r5) i4 (2 : Int32) (32 : Int32)).bind fun r7 =>
  some (sI (sI (sI (sI (sI (sI (sI (sI (sI (sI zrec 0 r1) 1 r3) 2 r5) 3 r7) 4 (0 : Int32)) 5 (0 : Int32)) 6 (0 : Int32)) 7 (0 : Int32)) 8 (0 : Int32)) 9 (0 : Int32))
set_option maxRecDepth 65536 in
set_option maxHeartbeats 4000000 in
theorem X_init_p {C : Ctx} {a : Nat} {H : List (Nat × Nat × Rec)} {res : Rec} (i1 : Int32) (i2 : Int32) (i3 : Int32) (i4 : Int32) (hf : X_init i1 i2 i3 i4 = some res) : Runs C B1 0 0 0 [vr a, vi i1, vi i2, vi i3, vi i4] [] (a + 1, (a, 0, zrec) :: H) (Ans none (a + 1 + 17, (a, 17, res) :: H)) := by
  delta X_init at hf
  refine Runs.aloadN d1_0 rfl <| Runs.initO (W := 0) d1_1 w6 w7 w8 rfl (by decide) <| Runs.aloadN d1_4 rfl <| Runs.sipush d1_5 cs_129 <| Runs.newArr (j' := 1) (top' := a + 1 + 1) (k' := 1) (n' := 129) d1_8 d1_10 fA_0 w10 rfl w9 (Or.inl w11) rfl (by decide) ⟨by decide, by decide⟩ ⟨fun _ => rfl, fun _ => rfl⟩ rfl rfl rfl (by decide) <| Runs.aloadN d1_13 rfl <| Runs.sipush d1_14 cs_129 <| Runs.newArr (j' := 2) (top' := a + 1 + 2) (k' := 2) (n' := 258) d1_17 d1_19 fA_1 w12 rfl w9 (Or.inl w13) rfl (by decide) ⟨by decide, by decide⟩ ⟨fun _ => rfl, fun _ => rfl⟩ rfl rfl rfl (by decide) <| Runs.aloadN d1_22 rfl <| Runs.sipush d1_23 cs_129 <| Runs.newArr (j' := 3) (top' := a + 1 + 3) (k' := 3) (n' := 387) d1_26 d1_28 fA_2 w14 rfl w9 (Or.inl w15) rfl (by decide) ⟨by decide, by decide⟩ ⟨fun _ => rfl, fun _ => rfl⟩ rfl rfl rfl (by decide) <| Runs.aloadN d1_31 rfl <| ?_
  refine Runs.sipush d1_32 cs_129 <| Runs.newArr (j' := 4) (top' := a + 1 + 4) (k' := 4) (n' := 516) d1_35 d1_37 fA_3 w16 rfl w9 (Or.inl w17) rfl (by decide) ⟨by decide, by decide⟩ ⟨fun _ => rfl, fun _ => rfl⟩ rfl rfl rfl (by decide) <| Runs.aloadN d1_40 rfl <| Runs.sipush d1_41 cs_129 <| Runs.newArr (j' := 5) (top' := a + 1 + 5) (k' := 5) (n' := 645) d1_44 d1_46 fA_4 w18 rfl w9 (Or.inl w19) rfl (by decide) ⟨by decide, by decide⟩ ⟨fun _ => rfl, fun _ => rfl⟩ rfl rfl rfl (by decide) <| Runs.aloadN d1_49 rfl <| Runs.bipush d1_50 cb_8 <| Runs.newArr (j' := 6) (top' := a + 1 + 6) (k' := 6) (n' := 653) d1_52 d1_54 fA_5 w21 rfl w20 (Or.inl w22) rfl (by decide) ⟨by decide, by decide⟩ ⟨fun _ => rfl, fun _ => rfl⟩ rfl rfl rfl (by decide) <| Runs.aloadN d1_57 rfl <| Runs.bipush d1_58 cb_8 <| Runs.newArr (j' := 7) (top' := a + 1 + 7) (k' := 7) (n' := 661) d1_60 d1_62 fA_6 w23 rfl w9 (Or.inl w24) rfl (by decide) ⟨by decide, by decide⟩ ⟨fun _ => rfl, fun _ => rfl⟩ rfl rfl rfl (by decide) <| Runs.aloadN d1_65 rfl <| ?_
  refine Runs.bipush d1_66 cb_32 <| Runs.newArr (j' := 8) (top' := a + 1 + 8) (k' := 8) (n' := 693) d1_68 d1_70 fA_7 w25 rfl w20 (Or.inl w26) rfl (by decide) ⟨by decide, by decide⟩ ⟨fun _ => rfl, fun _ => rfl⟩ rfl rfl rfl (by decide) <| Runs.aloadN d1_73 rfl <| Runs.bipush d1_74 cb_32 <| Runs.newArr (j' := 9) (top' := a + 1 + 9) (k' := 9) (n' := 725) d1_76 d1_78 fA_8 w27 rfl w9 (Or.inl w28) rfl (by decide) ⟨by decide, by decide⟩ ⟨fun _ => rfl, fun _ => rfl⟩ rfl rfl rfl (by decide) <| Runs.aloadN d1_81 rfl <| Runs.bipush d1_82 cb_32 <| Runs.newArr (j' := 10) (top' := a + 1 + 10) (k' := 10) (n' := 757) d1_84 d1_86 fA_9 w29 rfl w20 (Or.inl w30) rfl (by decide) ⟨by decide, by decide⟩ ⟨fun _ => rfl, fun _ => rfl⟩ rfl rfl rfl (by decide) <| Runs.aloadN d1_89 rfl <| Runs.bipush d1_90 cb_32 <| Runs.newArr (j' := 11) (top' := a + 1 + 11) (k' := 11) (n' := 789) d1_92 d1_94 fA_10 w31 rfl w9 (Or.inl w32) rfl (by decide) ⟨by decide, by decide⟩ ⟨fun _ => rfl, fun _ => rfl⟩ rfl rfl rfl (by decide) <| Runs.aloadN d1_97 rfl <| ?_
  refine Runs.bipush d1_98 cb_32 <| Runs.newArr (j' := 12) (top' := a + 1 + 12) (k' := 12) (n' := 821) d1_100 d1_102 fA_11 w33 rfl w9 (Or.inl w34) rfl (by decide) ⟨by decide, by decide⟩ ⟨fun _ => rfl, fun _ => rfl⟩ rfl rfl rfl (by decide) <| Runs.aloadN d1_105 rfl <| Runs.bipush d1_106 cb_32 <| Runs.newArr (j' := 13) (top' := a + 1 + 13) (k' := 13) (n' := 853) d1_108 d1_110 fA_12 w35 rfl w9 (Or.inl w36) rfl (by decide) ⟨by decide, by decide⟩ ⟨fun _ => rfl, fun _ => rfl⟩ rfl rfl rfl (by decide) <| Runs.aloadN d1_113 rfl <| Runs.sipush d1_114 cs_128 <| Runs.newArr (j' := 14) (top' := a + 1 + 14) (k' := 14) (n' := 981) d1_117 d1_119 fA_13 w37 rfl w9 (Or.inl w38) rfl (by decide) ⟨by decide, by decide⟩ ⟨fun _ => rfl, fun _ => rfl⟩ rfl rfl rfl (by decide) <| Runs.aloadN d1_122 rfl <| Runs.sipush d1_123 cs_128 <| Runs.newArr (j' := 15) (top' := a + 1 + 15) (k' := 15) (n' := 1109) d1_126 d1_128 fA_14 w39 rfl w9 (Or.inl w40) rfl (by decide) ⟨by decide, by decide⟩ ⟨fun _ => rfl, fun _ => rfl⟩ rfl rfl rfl (by decide) <| Runs.aloadN d1_131 rfl <| ?_
  refine Runs.sipush d1_132 cs_128 <| Runs.newArr (j' := 16) (top' := a + 1 + 16) (k' := 16) (n' := 1237) d1_135 d1_137 fA_15 w41 rfl w9 (Or.inl w42) rfl (by decide) ⟨by decide, by decide⟩ ⟨fun _ => rfl, fun _ => rfl⟩ rfl rfl rfl (by decide) <| Runs.aloadN d1_140 rfl <| Runs.sipush d1_141 cs_128 <| Runs.newArr (j' := 17) (top' := a + 1 + 17) (k' := 17) (n' := 1365) d1_144 d1_146 fA_16 w43 rfl w9 (Or.inl w44) rfl (by decide) ⟨by decide, by decide⟩ ⟨fun _ => rfl, fun _ => rfl⟩ rfl rfl rfl (by decide) <| Runs.aloadN d1_149 rfl <| Runs.aloadN d1_150 rfl <| Runs.iloadN d1_151 rfl <| Runs.bipush d1_152 cb_8 <| Runs.bipush d1_154 cb_32 <| ?_
  refine bind_el hf fun r1 hg2 hf => ?_
  refine Runs.callP (N := B2) (W := 1) (as := [.int i1, .int (8 : Int32), .int (32 : Int32)]) (S' := [.ref a]) d1_156 w45 w46 w47 rfl cw2 ar2 rk1_2_1 (by decide) rfl rfl (X_clamp_pay hg2) <| ans1 <| Runs.putI d1_159 w49 fS_0 (Or.inl w50) <| Runs.aloadN d1_162 rfl <| Runs.aloadN d1_163 rfl <| Runs.iloadN d1_164 rfl <| Runs.iconst d1_165 ci_2 <| Runs.bipush d1_166 cb_8 <| ?_
  refine bind_el hf fun r3 hg4 hf => ?_
  refine Runs.callP (N := B2) (W := 1) (as := [.int i2, .int (2 : Int32), .int (8 : Int32)]) (S' := [.ref a]) d1_168 w45 w46 w47 rfl cw2 ar2 rk1_2_1 (by decide) rfl rfl (X_clamp_pay hg4) <| ans1 <| Runs.putI d1_171 w51 fS_1 (Or.inl w52) <| Runs.aloadN d1_174 rfl <| Runs.aloadN d1_175 rfl <| Runs.iloadN d1_176 rfl <| Runs.bipush d1_177 cb_16 <| Runs.sipush d1_179 cs_128 <| ?_
  refine bind_el hf fun r5 hg6 hf => ?_
  refine Runs.callP (N := B2) (W := 1) (as := [.int i3, .int (16 : Int32), .int (128 : Int32)]) (S' := [.ref a]) d1_182 w45 w46 w47 rfl cw2 ar2 rk1_2_1 (by decide) rfl rfl (X_clamp_pay hg6) <| ans1 <| Runs.putI d1_185 w53 fS_2 (Or.inl w54) <| Runs.aloadN d1_188 rfl <| Runs.aloadN d1_189 rfl <| Runs.iload d1_190 rfl <| Runs.iconst d1_192 ci_2 <| Runs.bipush d1_193 cb_32 <| ?_
  refine bind_el hf fun r7 hg8 hf => ?_
  refine Runs.callP (N := B2) (W := 1) (as := [.int i4, .int (2 : Int32), .int (32 : Int32)]) (S' := [.ref a]) d1_195 w45 w46 w47 rfl cw2 ar2 rk1_2_1 (by decide) rfl rfl (X_clamp_pay hg8) <| ans1 <| Runs.putI d1_198 w55 fS_3 (Or.inl w56) <| Runs.aloadN d1_201 rfl <| Runs.iconst d1_202 ci_0 <| Runs.putI d1_203 w57 fS_4 (Or.inl w58) <| Runs.aloadN d1_206 rfl <| Runs.iconst d1_207 ci_0 <| Runs.putI d1_208 w59 fS_5 (Or.inl w60) <| Runs.aloadN d1_211 rfl <| Runs.iconst d1_212 ci_0 <| Runs.putI d1_213 w61 fS_6 (Or.inl w62) <| Runs.aloadN d1_216 rfl <| ?_
  obtain rfl := Option.some.inj hf
  exact Runs.iconst d1_217 ci_0 <| Runs.putI d1_218 w63 fS_7 (Or.inl w64) <| Runs.aloadN d1_221 rfl <| Runs.iconst d1_222 ci_0 <| Runs.putI d1_223 w65 fS_8 (Or.inl w66) <| Runs.aloadN d1_226 rfl <| Runs.iconst d1_227 ci_0 <| Runs.putI d1_228 w67 fS_9 (Or.inl w68) <| Runs.retV d1_231 rfl ⟨by decide, by decide⟩ ⟨rfl, rfl⟩
theorem X_init_pay {C : Ctx} {a : Nat} {H : List (Nat × Nat × Rec)} {res : Rec} {i1 : Int32} {i2 : Int32} {i3 : Int32} {i4 : Int32} (hf : X_init i1 i2 i3 i4 = some res) : Pays C B1 [.ref a, .int i1, .int i2, .int i3, .int i4] (a + 1, (a, 0, zrec) :: H) (Ans none (a + 1 + 17, (a, 17, res) :: H)) :=
  Pays.of pnK (Nat.le_of_ble_eq_true rfl) (P := [vr a, vi i1, vi i2, vi i3, vi i4]) 0 rfl (X_init_p i1 i2 i3 i4 hf)
def X_info (ob : Rec) (i1 : Int32) : Option (Int32) :=
  if i1 = (0 : Int32) then
    some (gI ob 4)
  else
  if i1 = (1 : Int32) then
    none
  else
  if i1 = (2 : Int32) then
    some (gI ob 5)
  else
  if i1 = (3 : Int32) then
    some (gI ob 9)
  else
  if i1 = (4 : Int32) then
    some (gI ob 6)
  else
  if i1 = (5 : Int32) then
    some (gI ob 7)
  else
  if i1 = (6 : Int32) then
    none
  else
  if i1 = (7 : Int32) then
    none
  else
    some (-1 : Int32)
set_option maxRecDepth 65536 in
set_option maxHeartbeats 4000000 in
theorem X_info_p {C : Ctx} {top : Nat} {a : Nat} {H : List (Nat × Nat × Rec)} {ob : Rec} {res : Int32} (i1 : Int32) (hf : X_info ob i1 = some res) : Runs C B3 0 0 0 [vr a, vi i1] [] (top, (a, 17, ob) :: H) (Ans (some (.int res)) (top, (a, 17, ob) :: H)) := by
  delta X_info at hf
  refine Runs.iloadN d3_0 rfl <| ?_
  refine ite_el hf (fun hc1 hf => ?_) (fun hc1 hf => ?_)
  · refine Runs.tswI (pc' := 48) d3_1 (by rw [hc1]; decide) (by rw [hc1]; rfl) (by decide) <| ?_
    obtain rfl := Option.some.inj hf
    exact Runs.aloadN d3_48 rfl <| Runs.getI d3_49 w57 fS_4 <| Runs.retI d3_52 rfl ⟨by decide, by decide⟩ ⟨rfl, rfl⟩
  refine ite_el hf (fun hc2 hf => ?_) (fun hc2 hf => ?_)
  · refine Runs.tswI (pc' := 53) d3_1 (by rw [hc2]; decide) (by rw [hc2]; rfl) (by decide) <| ?_
    cases hf
  refine ite_el hf (fun hc3 hf => ?_) (fun hc3 hf => ?_)
  · refine Runs.tswI (pc' := 58) d3_1 (by rw [hc3]; decide) (by rw [hc3]; rfl) (by decide) <| ?_
    obtain rfl := Option.some.inj hf
    exact Runs.aloadN d3_58 rfl <| Runs.getI d3_59 w59 fS_5 <| Runs.retI d3_62 rfl ⟨by decide, by decide⟩ ⟨rfl, rfl⟩
  refine ite_el hf (fun hc4 hf => ?_) (fun hc4 hf => ?_)
  · refine Runs.tswI (pc' := 63) d3_1 (by rw [hc4]; decide) (by rw [hc4]; rfl) (by decide) <| ?_
    obtain rfl := Option.some.inj hf
    exact Runs.aloadN d3_63 rfl <| Runs.getI d3_64 w67 fS_9 <| Runs.retI d3_67 rfl ⟨by decide, by decide⟩ ⟨rfl, rfl⟩
  refine ite_el hf (fun hc5 hf => ?_) (fun hc5 hf => ?_)
  · refine Runs.tswI (pc' := 68) d3_1 (by rw [hc5]; decide) (by rw [hc5]; rfl) (by decide) <| ?_
    obtain rfl := Option.some.inj hf
    exact Runs.aloadN d3_68 rfl <| Runs.getI d3_69 w61 fS_6 <| Runs.retI d3_72 rfl ⟨by decide, by decide⟩ ⟨rfl, rfl⟩
  refine ite_el hf (fun hc6 hf => ?_) (fun hc6 hf => ?_)
  · refine Runs.tswI (pc' := 73) d3_1 (by rw [hc6]; decide) (by rw [hc6]; rfl) (by decide) <| ?_
    obtain rfl := Option.some.inj hf
    exact Runs.aloadN d3_73 rfl <| Runs.getI d3_74 w63 fS_7 <| Runs.retI d3_77 rfl ⟨by decide, by decide⟩ ⟨rfl, rfl⟩
  refine ite_el hf (fun hc7 hf => ?_) (fun hc7 hf => ?_)
  · refine Runs.tswI (pc' := 78) d3_1 (by rw [hc7]; decide) (by rw [hc7]; rfl) (by decide) <| ?_
    cases hf
  refine ite_el hf (fun hc8 hf => ?_) (fun hc8 hf => ?_)
  · refine Runs.tswI (pc' := 83) d3_1 (by rw [hc8]; decide) (by rw [hc8]; rfl) (by decide) <| ?_
    cases hf
  refine Runs.tswO (pc' := 88) d3_1 (by have u0 : Int32.toInt i1 ≠ 0 := fun u => hc1 (Int32.toInt_inj.mp (u.trans (by decide))); have u1 : Int32.toInt i1 ≠ 1 := fun u => hc2 (Int32.toInt_inj.mp (u.trans (by decide))); have u2 : Int32.toInt i1 ≠ 2 := fun u => hc3 (Int32.toInt_inj.mp (u.trans (by decide))); have u3 : Int32.toInt i1 ≠ 3 := fun u => hc4 (Int32.toInt_inj.mp (u.trans (by decide))); have u4 : Int32.toInt i1 ≠ 4 := fun u => hc5 (Int32.toInt_inj.mp (u.trans (by decide))); have u5 : Int32.toInt i1 ≠ 5 := fun u => hc6 (Int32.toInt_inj.mp (u.trans (by decide))); have u6 : Int32.toInt i1 ≠ 6 := fun u => hc7 (Int32.toInt_inj.mp (u.trans (by decide))); have u7 : Int32.toInt i1 ≠ 7 := fun u => hc8 (Int32.toInt_inj.mp (u.trans (by decide))); omega) (by decide) <| ?_
  obtain rfl := Option.some.inj hf
  exact Runs.iconst d3_88 ci_m1 <| Runs.retI d3_89 rfl ⟨by decide, by decide⟩ ⟨rfl, rfl⟩
theorem X_info_pay {C : Ctx} {top : Nat} {a : Nat} {H : List (Nat × Nat × Rec)} {ob : Rec} {res : Int32} {i1 : Int32} (hf : X_info ob i1 = some res) : Pays C B3 [.ref a, .int i1] (top, (a, 17, ob) :: H) (Ans (some (.int res)) (top, (a, 17, ob) :: H)) :=
  Pays.of pnK (Nat.le_of_ble_eq_true rfl) (P := [vr a, vi i1]) 0 rfl (X_info_p i1 hf)
def X_logRecord (ob : Rec) (i1 : Int32) : Option (Int64) :=
  if i1 < (1 : Int32) then
    some (0 : Int64)
  else
    if (gI ob 4) < i1 then
      some (0 : Int64)
    else
      if i1 < (129 : Int32) then
        chk (129 : Int32) i1 <|
        chk (129 : Int32) i1 <|
        chk (129 : Int32) i1 <|
        chk (129 : Int32) i1 <|
        some (((gA ob 3 i1).toInt64 <<< ((32 : Int32) &&& 0x3f).toInt64) ||| (((gA ob 0 i1) + ((256 : Int32) * (gA ob 1 i1))) + ((65536 : Int32) * (gA ob 2 i1))).toInt64)
      else
        some (0 : Int64)
set_option maxRecDepth 65536 in
set_option maxHeartbeats 4000000 in
theorem X_logRecord_p {C : Ctx} {top : Nat} {a : Nat} {H : List (Nat × Nat × Rec)} {ob : Rec} {res : Int64} (i1 : Int32) (hf : X_logRecord ob i1 = some res) : Runs C B15 0 0 0 [vr a, vi i1, vn, vn, vn, vn] [] (top, (a, 17, ob) :: H) (Ans (some (.long res)) (top, (a, 17, ob) :: H)) := by
  delta X_logRecord at hf
  refine Runs.iloadN d15_0 rfl <| Runs.iconst d15_1 ci_1 <| ?_
  refine ite_el hf (fun hc1 hf => ?_) (fun hc1 hf => ?_)
  · refine Runs.icY (pc' := 20) d15_2 (tlt hc1).1 (by decide) <| ?_
    obtain rfl := Option.some.inj hf
    exact Runs.lconst d15_20 cl_0 <| Runs.retJ d15_21 rfl ⟨by decide, by decide⟩ ⟨rfl, rfl⟩
  · refine Runs.icN d15_2 (flt hc1).1 <| ?_
    refine Runs.iloadN d15_5 rfl <| Runs.aloadN d15_6 rfl <| Runs.getI d15_7 w57 fS_4 <| ?_
    refine ite_el hf (fun hc2 hf => ?_) (fun hc2 hf => ?_)
    · refine Runs.icY (pc' := 20) d15_10 (tlt hc2).2.2.1 (by decide) <| ?_
      obtain rfl := Option.some.inj hf
      exact Runs.lconst d15_20 cl_0 <| Runs.retJ d15_21 rfl ⟨by decide, by decide⟩ ⟨rfl, rfl⟩
    · refine Runs.icN d15_10 (flt hc2).2.2.1 <| ?_
      refine Runs.iloadN d15_13 rfl <| Runs.sipush d15_14 cs_129 <| ?_
      refine ite_el hf (fun hc3 hf => ?_) (fun hc3 hf => ?_)
      · refine Runs.icY (pc' := 22) d15_17 (tlt hc3).1 (by decide) <| ?_
        refine Runs.aloadN d15_22 rfl <| Runs.getA d15_23 fA_0 w10 (by decide) <| Runs.iloadN d15_26 rfl <| ?_
        refine chk_el hf fun hi4 hf => ?_
        refine Runs.ialoadA d15_27 fA_0 (by decide) hi4 <| Runs.sipush d15_28 cs_256 <| Runs.aloadN d15_31 rfl <| Runs.getA d15_32 fA_1 w12 (by decide) <| Runs.iloadN d15_35 rfl <| ?_
        refine chk_el hf fun hi5 hf => ?_
        refine Runs.ialoadA d15_36 fA_1 (by decide) hi5 <| Runs.imul d15_37 <| Runs.iadd d15_38 <| Runs.ldc d15_39 w129 <| Runs.aloadN d15_41 rfl <| Runs.getA d15_42 fA_2 w14 (by decide) <| Runs.iloadN d15_45 rfl <| ?_
        refine chk_el hf fun hi6 hf => ?_
        refine Runs.ialoadA d15_46 fA_2 (by decide) hi6 <| Runs.imul d15_47 <| Runs.iadd d15_48 <| Runs.i2l d15_49 <| Runs.lstoreN (P' := [vr a, vi i1, vl (((gA ob 0 i1) + ((256 : Int32) * (gA ob 1 i1))) + ((65536 : Int32) * (gA ob 2 i1))).toInt64, v2, vn, vn]) d15_50 (by decide) rfl <| Runs.aloadN d15_51 rfl <| Runs.getA d15_52 fA_3 w16 (by decide) <| Runs.iloadN d15_55 rfl <| ?_
        refine chk_el hf fun hi7 hf => ?_
        obtain rfl := Option.some.inj hf
        exact Runs.ialoadA d15_56 fA_3 (by decide) hi7 <| Runs.i2l d15_57 <| Runs.bipush d15_58 cb_32 <| Runs.lshl d15_60 <| Runs.lstore (P' := [vr a, vi i1, vl (((gA ob 0 i1) + ((256 : Int32) * (gA ob 1 i1))) + ((65536 : Int32) * (gA ob 2 i1))).toInt64, v2, vl ((gA ob 3 i1).toInt64 <<< ((32 : Int32) &&& 0x3f).toInt64), v2]) d15_61 (by decide) rfl <| Runs.lload d15_63 rfl <| Runs.lloadN d15_65 rfl <| Runs.lor d15_66 <| Runs.retJ d15_67 rfl ⟨by decide, by decide⟩ ⟨rfl, rfl⟩
      · refine Runs.icN d15_17 (flt hc3).1 <| ?_
        obtain rfl := Option.some.inj hf
        exact Runs.lconst d15_20 cl_0 <| Runs.retJ d15_21 rfl ⟨by decide, by decide⟩ ⟨rfl, rfl⟩
theorem X_logRecord_pay {C : Ctx} {top : Nat} {a : Nat} {H : List (Nat × Nat × Rec)} {ob : Rec} {res : Int64} {i1 : Int32} (hf : X_logRecord ob i1 = some res) : Pays C B15 [.ref a, .int i1] (top, (a, 17, ob) :: H) (Ans (some (.long res)) (top, (a, 17, ob) :: H)) :=
  Pays.of pnK (Nat.le_of_ble_eq_true rfl) (P := [vr a, vi i1, vn, vn, vn, vn]) 4 rfl (X_logRecord_p i1 hf)
def L_kind (l0 : Int64) : Option (Int32) :=
  some (l0 &&& (255 : Int64)).toInt32
set_option maxRecDepth 65536 in
set_option maxHeartbeats 4000000 in
theorem L_kind_p {C : Ctx} {G : AH} {res : Int32} (l0 : Int64) (hf : L_kind l0 = some res) : Runs C B16 0 0 0 [vl l0, v2] [] G (Ans (some (.int res)) G) := by
  delta L_kind at hf
  obtain rfl := Option.some.inj hf
  exact Runs.lloadN d16_0 rfl <| Runs.ldc2 d16_1 w133 <| Runs.land d16_4 <| Runs.l2i d16_5 <| Runs.retI d16_6 rfl ⟨by decide, by decide⟩ ⟨rfl, rfl⟩
theorem L_kind_pay {C : Ctx} {G : AH} {res : Int32} {l0 : Int64} (hf : L_kind l0 = some res) : Pays C B16 [.long l0] G (Ans (some (.int res)) G) :=
  Pays.of pnL (Nat.le_of_ble_eq_true rfl) (P := [vl l0, v2]) 0 rfl (L_kind_p l0 hf)
def L_slot (l0 : Int64) : Option (Int32) :=
  some (((l0.toUInt64 >>> ((8 : Int32) &&& 0x3f).toInt64.toUInt64).toInt64) &&& (255 : Int64)).toInt32
set_option maxRecDepth 65536 in
set_option maxHeartbeats 4000000 in
theorem L_slot_p {C : Ctx} {G : AH} {res : Int32} (l0 : Int64) (hf : L_slot l0 = some res) : Runs C B28 0 0 0 [vl l0, v2] [] G (Ans (some (.int res)) G) := by
  delta L_slot at hf
  obtain rfl := Option.some.inj hf
  exact Runs.lloadN d28_0 rfl <| Runs.bipush d28_1 cb_8 <| Runs.lushr d28_3 <| Runs.ldc2 d28_4 w133 <| Runs.land d28_7 <| Runs.l2i d28_8 <| Runs.retI d28_9 rfl ⟨by decide, by decide⟩ ⟨rfl, rfl⟩
theorem L_slot_pay {C : Ctx} {G : AH} {res : Int32} {l0 : Int64} (hf : L_slot l0 = some res) : Pays C B28 [.long l0] G (Ans (some (.int res)) G) :=
  Pays.of pnL (Nat.le_of_ble_eq_true rfl) (P := [vl l0, v2]) 0 rfl (L_slot_p l0 hf)
def L_key (l0 : Int64) : Option (Int32) :=
  some (((l0.toUInt64 >>> ((16 : Int32) &&& 0x3f).toInt64.toUInt64).toInt64) &&& (65535 : Int64)).toInt32
set_option maxRecDepth 65536 in
set_option maxHeartbeats 4000000 in
theorem L_key_p {C : Ctx} {G : AH} {res : Int32} (l0 : Int64) (hf : L_key l0 = some res) : Runs C B29 0 0 0 [vl l0, v2] [] G (Ans (some (.int res)) G) := by
  delta L_key at hf
  obtain rfl := Option.some.inj hf
  exact Runs.lloadN d29_0 rfl <| Runs.bipush d29_1 cb_16 <| Runs.lushr d29_3 <| Runs.ldc2 d29_4 w191 <| Runs.land d29_7 <| Runs.l2i d29_8 <| Runs.retI d29_9 rfl ⟨by decide, by decide⟩ ⟨rfl, rfl⟩
theorem L_key_pay {C : Ctx} {G : AH} {res : Int32} {l0 : Int64} (hf : L_key l0 = some res) : Pays C B29 [.long l0] G (Ans (some (.int res)) G) :=
  Pays.of pnL (Nat.le_of_ble_eq_true rfl) (P := [vl l0, v2]) 0 rfl (L_key_p l0 hf)
def L_val (l0 : Int64) : Option (Int32) :=
  some (l0 >>> ((32 : Int32) &&& 0x3f).toInt64).toInt32
set_option maxRecDepth 65536 in
set_option maxHeartbeats 4000000 in
theorem L_val_p {C : Ctx} {G : AH} {res : Int32} (l0 : Int64) (hf : L_val l0 = some res) : Runs C B30 0 0 0 [vl l0, v2] [] G (Ans (some (.int res)) G) := by
  delta L_val at hf
  obtain rfl := Option.some.inj hf
  exact Runs.lloadN d30_0 rfl <| Runs.bipush d30_1 cb_32 <| Runs.lshr d30_3 <| Runs.l2i d30_4 <| Runs.retI d30_5 rfl ⟨by decide, by decide⟩ ⟨rfl, rfl⟩
theorem L_val_pay {C : Ctx} {G : AH} {res : Int32} {l0 : Int64} (hf : L_val l0 = some res) : Pays C B30 [.long l0] G (Ans (some (.int res)) G) :=
  Pays.of pnL (Nat.le_of_ble_eq_true rfl) (P := [vl l0, v2]) 0 rfl (L_val_p l0 hf)
def X_validKey (ob : Rec) (i1 : Int32) : Option (Int32) :=
  if i1 < (0 : Int32) then
    some (0 : Int32)
  else
    if i1 < (gI ob 0) then
      if i1 < (32 : Int32) then
        some (1 : Int32)
      else
        some (0 : Int32)
    else
      some (0 : Int32)
set_option maxRecDepth 65536 in
set_option maxHeartbeats 4000000 in
theorem X_validKey_p {C : Ctx} {top : Nat} {a : Nat} {H : List (Nat × Nat × Rec)} {ob : Rec} {res : Int32} (i1 : Int32) (hf : X_validKey ob i1 = some res) : Runs C B5 0 0 0 [vr a, vi i1] [] (top, (a, 17, ob) :: H) (Ans (some (.int res)) (top, (a, 17, ob) :: H)) := by
  delta X_validKey at hf
  refine Runs.iloadN d5_0 rfl <| ?_
  refine ite_el hf (fun hc1 hf => ?_) (fun hc1 hf => ?_)
  · refine Runs.ifY (pc' := 22) d5_1 (tlt hc1).1 (by decide) <| ?_
    obtain rfl := Option.some.inj hf
    exact Runs.iconst d5_22 ci_0 <| Runs.retZ (y := (0 : Int32)) d5_23 rfl ⟨by decide, by decide⟩ rfl ⟨rfl, rfl⟩
  · refine Runs.ifN d5_1 (flt hc1).1 <| ?_
    refine Runs.iloadN d5_4 rfl <| Runs.aloadN d5_5 rfl <| Runs.getI d5_6 w49 fS_0 <| ?_
    refine ite_el hf (fun hc2 hf => ?_) (fun hc2 hf => ?_)
    · refine Runs.icN d5_9 (tlt hc2).2.1 <| ?_
      refine Runs.iloadN d5_12 rfl <| Runs.bipush d5_13 cb_32 <| ?_
      refine ite_el hf (fun hc3 hf => ?_) (fun hc3 hf => ?_)
      · refine Runs.icN d5_15 (tlt hc3).2.1 <| ?_
        obtain rfl := Option.some.inj hf
        exact Runs.iconst d5_18 ci_1 <| Runs.goto (pc' := 23) d5_19 (by decide) <| Runs.retZ (y := (1 : Int32)) d5_23 rfl ⟨by decide, by decide⟩ rfl ⟨rfl, rfl⟩
      · refine Runs.icY (pc' := 22) d5_15 (flt hc3).2.1 (by decide) <| ?_
        obtain rfl := Option.some.inj hf
        exact Runs.iconst d5_22 ci_0 <| Runs.retZ (y := (0 : Int32)) d5_23 rfl ⟨by decide, by decide⟩ rfl ⟨rfl, rfl⟩
    · refine Runs.icY (pc' := 22) d5_9 (flt hc2).2.1 (by decide) <| ?_
      obtain rfl := Option.some.inj hf
      exact Runs.iconst d5_22 ci_0 <| Runs.retZ (y := (0 : Int32)) d5_23 rfl ⟨by decide, by decide⟩ rfl ⟨rfl, rfl⟩
theorem X_validKey_pay {C : Ctx} {top : Nat} {a : Nat} {H : List (Nat × Nat × Rec)} {ob : Rec} {res : Int32} {i1 : Int32} (hf : X_validKey ob i1 = some res) : Pays C B5 [.ref a, .int i1] (top, (a, 17, ob) :: H) (Ans (some (.int res)) (top, (a, 17, ob) :: H)) :=
  Pays.of pnK (Nat.le_of_ble_eq_true rfl) (P := [vr a, vi i1]) 0 rfl (X_validKey_p i1 hf)
def X_pubRow (ob : Rec) (i1 : Int32) : Option (Int64) :=
  (X_validKey ob i1).bind fun r1 =>
  if r1 = (0 : Int32) then
    some (4294967296 : Int64)
  else
    chk (32 : Int32) i1 <|
    if (gA ob 7 i1) = (0 : Int32) then
      some (4294967296 : Int64)
    else
      chk (32 : Int32) i1 <|
      some (gA ob 8 i1).toInt64
set_option maxRecDepth 65536 in
set_option maxHeartbeats 4000000 in
theorem X_pubRow_p {C : Ctx} {top : Nat} {a : Nat} {H : List (Nat × Nat × Rec)} {ob : Rec} {res : Int64} (i1 : Int32) (hf : X_pubRow ob i1 = some res) : Runs C B4 0 0 0 [vr a, vi i1] [] (top, (a, 17, ob) :: H) (Ans (some (.long res)) (top, (a, 17, ob) :: H)) := by
  delta X_pubRow at hf
  refine Runs.aloadN d4_0 rfl <| Runs.iloadN d4_1 rfl <| ?_
  refine bind_el hf fun r1 hg2 hf => ?_
  refine Runs.callP (N := B5) (W := 0) (as := [.int i1]) (S' := []) d4_2 w80 w81 w82 rfl cw5 ar5 rk4_5_0 (by decide) rfl rfl (X_validKey_pay hg2) <| ans1 <| ?_
  refine ite_el hf (fun hc3 hf => ?_) (fun hc3 hf => ?_)
  · refine Runs.ifN d4_5 (teq hc3).2 <| ?_
    obtain rfl := Option.some.inj hf
    exact Runs.ldc2 d4_8 w84 <| Runs.retJ d4_11 rfl ⟨by decide, by decide⟩ ⟨rfl, rfl⟩
  · refine Runs.ifY (pc' := 12) d4_5 (feq hc3).2 (by decide) <| ?_
    refine Runs.aloadN d4_12 rfl <| Runs.getA d4_13 fA_7 w25 (by decide) <| Runs.iloadN d4_16 rfl <| ?_
    refine chk_el hf fun hi4 hf => ?_
    refine Runs.baloadA d4_17 fA_7 (by decide) hi4 <| ?_
    refine ite_el hf (fun hc5 hf => ?_) (fun hc5 hf => ?_)
    · refine Runs.ifY (pc' := 29) d4_18 (teq hc5).1 (by decide) <| ?_
      obtain rfl := Option.some.inj hf
      exact Runs.ldc2 d4_29 w84 <| Runs.retJ d4_32 rfl ⟨by decide, by decide⟩ ⟨rfl, rfl⟩
    · refine Runs.ifN d4_18 (feq hc5).1 <| ?_
      refine Runs.aloadN d4_21 rfl <| Runs.getA d4_22 fA_8 w27 (by decide) <| Runs.iloadN d4_25 rfl <| ?_
      refine chk_el hf fun hi6 hf => ?_
      obtain rfl := Option.some.inj hf
      exact Runs.ialoadA d4_26 fA_8 (by decide) hi6 <| Runs.i2l d4_27 <| Runs.retJ d4_28 rfl ⟨by decide, by decide⟩ ⟨rfl, rfl⟩
theorem X_pubRow_pay {C : Ctx} {top : Nat} {a : Nat} {H : List (Nat × Nat × Rec)} {ob : Rec} {res : Int64} {i1 : Int32} (hf : X_pubRow ob i1 = some res) : Pays C B4 [.ref a, .int i1] (top, (a, 17, ob) :: H) (Ans (some (.long res)) (top, (a, 17, ob) :: H)) :=
  Pays.of pnK (Nat.le_of_ble_eq_true rfl) (P := [vr a, vi i1]) 0 rfl (X_pubRow_p i1 hf)
def X_subRow (ob : Rec) (i1 : Int32) : Option (Int64) :=
  (X_validKey ob i1).bind fun r1 =>
  if r1 = (0 : Int32) then
    some (4294967296 : Int64)
  else
    chk (32 : Int32) i1 <|
    if (gA ob 9 i1) = (0 : Int32) then
      some (4294967296 : Int64)
    else
      chk (32 : Int32) i1 <|
      some (gA ob 10 i1).toInt64
set_option maxRecDepth 65536 in
set_option maxHeartbeats 4000000 in
theorem X_subRow_p {C : Ctx} {top : Nat} {a : Nat} {H : List (Nat × Nat × Rec)} {ob : Rec} {res : Int64} (i1 : Int32) (hf : X_subRow ob i1 = some res) : Runs C B6 0 0 0 [vr a, vi i1] [] (top, (a, 17, ob) :: H) (Ans (some (.long res)) (top, (a, 17, ob) :: H)) := by
  delta X_subRow at hf
  refine Runs.aloadN d6_0 rfl <| Runs.iloadN d6_1 rfl <| ?_
  refine bind_el hf fun r1 hg2 hf => ?_
  refine Runs.callP (N := B5) (W := 0) (as := [.int i1]) (S' := []) d6_2 w80 w81 w82 rfl cw5 ar5 rk6_5_0 (by decide) rfl rfl (X_validKey_pay hg2) <| ans1 <| ?_
  refine ite_el hf (fun hc3 hf => ?_) (fun hc3 hf => ?_)
  · refine Runs.ifN d6_5 (teq hc3).2 <| ?_
    obtain rfl := Option.some.inj hf
    exact Runs.ldc2 d6_8 w84 <| Runs.retJ d6_11 rfl ⟨by decide, by decide⟩ ⟨rfl, rfl⟩
  · refine Runs.ifY (pc' := 12) d6_5 (feq hc3).2 (by decide) <| ?_
    refine Runs.aloadN d6_12 rfl <| Runs.getA d6_13 fA_9 w29 (by decide) <| Runs.iloadN d6_16 rfl <| ?_
    refine chk_el hf fun hi4 hf => ?_
    refine Runs.baloadA d6_17 fA_9 (by decide) hi4 <| ?_
    refine ite_el hf (fun hc5 hf => ?_) (fun hc5 hf => ?_)
    · refine Runs.ifY (pc' := 29) d6_18 (teq hc5).1 (by decide) <| ?_
      obtain rfl := Option.some.inj hf
      exact Runs.ldc2 d6_29 w84 <| Runs.retJ d6_32 rfl ⟨by decide, by decide⟩ ⟨rfl, rfl⟩
    · refine Runs.ifN d6_18 (feq hc5).1 <| ?_
      refine Runs.aloadN d6_21 rfl <| Runs.getA d6_22 fA_10 w31 (by decide) <| Runs.iloadN d6_25 rfl <| ?_
      refine chk_el hf fun hi6 hf => ?_
      obtain rfl := Option.some.inj hf
      exact Runs.ialoadA d6_26 fA_10 (by decide) hi6 <| Runs.i2l d6_27 <| Runs.retJ d6_28 rfl ⟨by decide, by decide⟩ ⟨rfl, rfl⟩
theorem X_subRow_pay {C : Ctx} {top : Nat} {a : Nat} {H : List (Nat × Nat × Rec)} {ob : Rec} {res : Int64} {i1 : Int32} (hf : X_subRow ob i1 = some res) : Pays C B6 [.ref a, .int i1] (top, (a, 17, ob) :: H) (Ans (some (.long res)) (top, (a, 17, ob) :: H)) :=
  Pays.of pnK (Nat.le_of_ble_eq_true rfl) (P := [vr a, vi i1]) 0 rfl (X_subRow_p i1 hf)
def L_cell (z : Int32) (f : Int32 → Int32) (i1 : Int32) : Option (Int32) :=
  if i1 < z then
    chk z i1 <|
    some (f i1)
  else
    some (0 : Int32)
set_option maxRecDepth 65536 in
set_option maxHeartbeats 4000000 in
theorem L_cell_p {C : Ctx} {G : AH} {sa : Nat} {z : Int32} {f : Int32 → Int32} (hs : ScrF C sa z f) {res : Int32} (i1 : Int32) (hf : L_cell z f i1 = some res) : Runs C B7 0 0 0 [vr sa, vi i1] [] G (Ans (some (.int res)) G) := by
  delta L_cell at hf
  refine Runs.iloadN d7_0 rfl <| Runs.aloadN d7_1 rfl <| Runs.lenS hs d7_2 <| ?_
  refine ite_el hf (fun hc1 hf => ?_) (fun hc1 hf => ?_)
  · refine Runs.icN d7_3 (tlt hc1).2.1 <| ?_
    refine Runs.aloadN d7_6 rfl <| Runs.iloadN d7_7 rfl <| ?_
    refine chk_el hf fun hi2 hf => ?_
    obtain rfl := Option.some.inj hf
    exact Runs.ialoadS hs d7_8 hi2 <| Runs.goto (pc' := 13) d7_9 (by decide) <| Runs.retI d7_13 rfl ⟨by decide, by decide⟩ ⟨rfl, rfl⟩
  · refine Runs.icY (pc' := 12) d7_3 (flt hc1).2.1 (by decide) <| ?_
    obtain rfl := Option.some.inj hf
    exact Runs.iconst d7_12 ci_0 <| Runs.retI d7_13 rfl ⟨by decide, by decide⟩ ⟨rfl, rfl⟩
theorem L_cell_pay {C : Ctx} {G : AH} {sa : Nat} {z : Int32} {f : Int32 → Int32} (hs : ScrF C sa z f) {res : Int32} {i1 : Int32} (hf : L_cell z f i1 = some res) : Pays C B7 [.ref sa, .int i1] G (Ans (some (.int res)) G) :=
  Pays.of pnL (Nat.le_of_ble_eq_true rfl) (P := [vr sa, vi i1]) 0 rfl (L_cell_p hs i1 hf)
def X_validSlot (ob : Rec) (i1 : Int32) : Option (Int32) :=
  if i1 < (0 : Int32) then
    some (0 : Int32)
  else
    if i1 < (gI ob 1) then
      if i1 < (8 : Int32) then
        some (1 : Int32)
      else
        some (0 : Int32)
    else
      some (0 : Int32)
set_option maxRecDepth 65536 in
set_option maxHeartbeats 4000000 in
theorem X_validSlot_p {C : Ctx} {top : Nat} {a : Nat} {H : List (Nat × Nat × Rec)} {ob : Rec} {res : Int32} (i1 : Int32) (hf : X_validSlot ob i1 = some res) : Runs C B11 0 0 0 [vr a, vi i1] [] (top, (a, 17, ob) :: H) (Ans (some (.int res)) (top, (a, 17, ob) :: H)) := by
  delta X_validSlot at hf
  refine Runs.iloadN d11_0 rfl <| ?_
  refine ite_el hf (fun hc1 hf => ?_) (fun hc1 hf => ?_)
  · refine Runs.ifY (pc' := 22) d11_1 (tlt hc1).1 (by decide) <| ?_
    obtain rfl := Option.some.inj hf
    exact Runs.iconst d11_22 ci_0 <| Runs.retZ (y := (0 : Int32)) d11_23 rfl ⟨by decide, by decide⟩ rfl ⟨rfl, rfl⟩
  · refine Runs.ifN d11_1 (flt hc1).1 <| ?_
    refine Runs.iloadN d11_4 rfl <| Runs.aloadN d11_5 rfl <| Runs.getI d11_6 w51 fS_1 <| ?_
    refine ite_el hf (fun hc2 hf => ?_) (fun hc2 hf => ?_)
    · refine Runs.icN d11_9 (tlt hc2).2.1 <| ?_
      refine Runs.iloadN d11_12 rfl <| Runs.bipush d11_13 cb_8 <| ?_
      refine ite_el hf (fun hc3 hf => ?_) (fun hc3 hf => ?_)
      · refine Runs.icN d11_15 (tlt hc3).2.1 <| ?_
        obtain rfl := Option.some.inj hf
        exact Runs.iconst d11_18 ci_1 <| Runs.goto (pc' := 23) d11_19 (by decide) <| Runs.retZ (y := (1 : Int32)) d11_23 rfl ⟨by decide, by decide⟩ rfl ⟨rfl, rfl⟩
      · refine Runs.icY (pc' := 22) d11_15 (flt hc3).2.1 (by decide) <| ?_
        obtain rfl := Option.some.inj hf
        exact Runs.iconst d11_22 ci_0 <| Runs.retZ (y := (0 : Int32)) d11_23 rfl ⟨by decide, by decide⟩ rfl ⟨rfl, rfl⟩
    · refine Runs.icY (pc' := 22) d11_9 (flt hc2).2.1 (by decide) <| ?_
      obtain rfl := Option.some.inj hf
      exact Runs.iconst d11_22 ci_0 <| Runs.retZ (y := (0 : Int32)) d11_23 rfl ⟨by decide, by decide⟩ rfl ⟨rfl, rfl⟩
theorem X_validSlot_pay {C : Ctx} {top : Nat} {a : Nat} {H : List (Nat × Nat × Rec)} {ob : Rec} {res : Int32} {i1 : Int32} (hf : X_validSlot ob i1 = some res) : Pays C B11 [.ref a, .int i1] (top, (a, 17, ob) :: H) (Ans (some (.int res)) (top, (a, 17, ob) :: H)) :=
  Pays.of pnK (Nat.le_of_ble_eq_true rfl) (P := [vr a, vi i1]) 0 rfl (X_validSlot_p i1 hf)
def X_logFull (ob : Rec) : Option (Int32) :=
  if (gI ob 4) < (gI ob 2) then
    if (gI ob 4) < (128 : Int32) then
      some (0 : Int32)
    else
      some (1 : Int32)
  else
    some (1 : Int32)
set_option maxRecDepth 65536 in
set_option maxHeartbeats 4000000 in
theorem X_logFull_p {C : Ctx} {top : Nat} {a : Nat} {H : List (Nat × Nat × Rec)} {ob : Rec} {res : Int32} (hf : X_logFull ob = some res) : Runs C B13 0 0 0 [vr a] [] (top, (a, 17, ob) :: H) (Ans (some (.int res)) (top, (a, 17, ob) :: H)) := by
  delta X_logFull at hf
  refine Runs.aloadN d13_0 rfl <| Runs.getI d13_1 w57 fS_4 <| Runs.aloadN d13_4 rfl <| Runs.getI d13_5 w53 fS_2 <| ?_
  refine ite_el hf (fun hc1 hf => ?_) (fun hc1 hf => ?_)
  · refine Runs.icN d13_8 (tlt hc1).2.1 <| ?_
    refine Runs.aloadN d13_11 rfl <| Runs.getI d13_12 w57 fS_4 <| Runs.sipush d13_15 cs_128 <| ?_
    refine ite_el hf (fun hc2 hf => ?_) (fun hc2 hf => ?_)
    · refine Runs.icY (pc' := 25) d13_18 (tlt hc2).1 (by decide) <| ?_
      obtain rfl := Option.some.inj hf
      exact Runs.iconst d13_25 ci_0 <| Runs.retZ (y := (0 : Int32)) d13_26 rfl ⟨by decide, by decide⟩ rfl ⟨rfl, rfl⟩
    · refine Runs.icN d13_18 (flt hc2).1 <| ?_
      obtain rfl := Option.some.inj hf
      exact Runs.iconst d13_21 ci_1 <| Runs.goto (pc' := 26) d13_22 (by decide) <| Runs.retZ (y := (1 : Int32)) d13_26 rfl ⟨by decide, by decide⟩ rfl ⟨rfl, rfl⟩
  · refine Runs.icY (pc' := 21) d13_8 (flt hc1).2.1 (by decide) <| ?_
    obtain rfl := Option.some.inj hf
    exact Runs.iconst d13_21 ci_1 <| Runs.goto (pc' := 26) d13_22 (by decide) <| Runs.retZ (y := (1 : Int32)) d13_26 rfl ⟨by decide, by decide⟩ rfl ⟨rfl, rfl⟩
theorem X_logFull_pay {C : Ctx} {top : Nat} {a : Nat} {H : List (Nat × Nat × Rec)} {ob : Rec} {res : Int32} (hf : X_logFull ob = some res) : Pays C B13 [.ref a] (top, (a, 17, ob) :: H) (Ans (some (.int res)) (top, (a, 17, ob) :: H)) :=
  Pays.of pnK (Nat.le_of_ble_eq_true rfl) (P := [vr a]) 0 rfl (X_logFull_p hf)
def X_append (ob : Rec) (i1 : Int32) (i2 : Int32) (i3 : Int32) (i4 : Int32) : Option (Int32 × Rec) :=
  chk (129 : Int32) ((gI ob 4) + (1 : Int32)) <|
  chk (129 : Int32) ((gI ob 4) + (1 : Int32)) <|
  chk (129 : Int32) ((gI ob 4) + (1 : Int32)) <|
  chk (129 : Int32) ((gI ob 4) + (1 : Int32)) <|
  chk (129 : Int32) ((gI ob 4) + (1 : Int32)) <|
  some (((gI ob 4) + (1 : Int32)), (sA (sA (sA (sA (sA (sI ob 4 ((gI ob 4) + (1 : Int32))) 0 ((gI ob 4) + (1 : Int32)) i1) 1 ((gI ob 4) + (1 : Int32)) i2) 2 ((gI ob 4) + (1 : Int32)) i3) 3 ((gI ob 4) + (1 : Int32)) i4) 4 ((gI ob 4) + (1 : Int32)) (0 : Int32)))
set_option maxRecDepth 65536 in
set_option maxHeartbeats 4000000 in
theorem X_append_p {C : Ctx} {top : Nat} {a : Nat} {H : List (Nat × Nat × Rec)} {res : Int32 × Rec} (ob : Rec) (i1 : Int32) (i2 : Int32) (i3 : Int32) (i4 : Int32) (hf : X_append ob i1 i2 i3 i4 = some res) : Runs C B14 0 0 0 [vr a, vi i1, vi i2, vi i3, vi i4] [] (top, (a, 17, ob) :: H) (Ans (some (.int res.1)) (top, (a, 17, res.2) :: H)) := by
  delta X_append at hf
  refine Runs.aloadN d14_0 rfl <| Runs.dup d14_1 rfl <| Runs.getI d14_2 w57 fS_4 <| Runs.iconst d14_5 ci_1 <| Runs.iadd d14_6 <| Runs.putI d14_7 w57 fS_4 (Or.inl w58) <| Runs.aloadN d14_10 rfl <| Runs.getA d14_11 fA_0 w10 (by decide) <| Runs.aloadN d14_14 rfl <| Runs.getI d14_15 w57 fS_4 <| Runs.iloadN d14_18 rfl <| ?_
  refine chk_el hf fun hi1 hf => ?_
  refine Runs.iastoreA d14_19 fA_0 (by decide) hi1 <| Runs.aloadN d14_20 rfl <| Runs.getA d14_21 fA_1 w12 (by decide) <| Runs.aloadN d14_24 rfl <| Runs.getI d14_25 w57 fS_4 <| Runs.iloadN d14_28 rfl <| ?_
  refine chk_el hf fun hi2 hf => ?_
  refine Runs.iastoreA d14_29 fA_1 (by decide) hi2 <| Runs.aloadN d14_30 rfl <| Runs.getA d14_31 fA_2 w14 (by decide) <| Runs.aloadN d14_34 rfl <| Runs.getI d14_35 w57 fS_4 <| Runs.iloadN d14_38 rfl <| ?_
  refine chk_el hf fun hi3 hf => ?_
  refine Runs.iastoreA d14_39 fA_2 (by decide) hi3 <| Runs.aloadN d14_40 rfl <| Runs.getA d14_41 fA_3 w16 (by decide) <| Runs.aloadN d14_44 rfl <| Runs.getI d14_45 w57 fS_4 <| Runs.iload d14_48 rfl <| ?_
  refine chk_el hf fun hi4 hf => ?_
  refine Runs.iastoreA d14_50 fA_3 (by decide) hi4 <| Runs.aloadN d14_51 rfl <| Runs.getA d14_52 fA_4 w18 (by decide) <| Runs.aloadN d14_55 rfl <| Runs.getI d14_56 w57 fS_4 <| Runs.iconst d14_59 ci_0 <| ?_
  refine chk_el hf fun hi5 hf => ?_
  obtain rfl := Option.some.inj hf
  exact Runs.iastoreA d14_60 fA_4 (by decide) hi5 <| Runs.aloadN d14_61 rfl <| Runs.getI d14_62 w57 fS_4 <| Runs.retI d14_65 rfl ⟨by decide, by decide⟩ ⟨rfl, rfl⟩
theorem X_append_pay {C : Ctx} {top : Nat} {a : Nat} {H : List (Nat × Nat × Rec)} {res : Int32 × Rec} {ob : Rec} {i1 : Int32} {i2 : Int32} {i3 : Int32} {i4 : Int32} (hf : X_append ob i1 i2 i3 i4 = some res) : Pays C B14 [.ref a, .int i1, .int i2, .int i3, .int i4] (top, (a, 17, ob) :: H) (Ans (some (.int res.1)) (top, (a, 17, res.2) :: H)) :=
  Pays.of pnK (Nat.le_of_ble_eq_true rfl) (P := [vr a, vi i1, vi i2, vi i3, vi i4]) 0 rfl (X_append_p ob i1 i2 i3 i4 hf)
def X_begin (ob : Rec) (i1 : Int32) : Option (Int32 × Rec) :=
  (X_validSlot ob i1).bind fun r1 =>
  if r1 = (0 : Int32) then
    some ((-1 : Int32), ob)
  else
    chk (8 : Int32) i1 <|
    if (gA ob 5 i1) = (0 : Int32) then
      (X_logFull ob).bind fun r6 =>
      if r6 = (0 : Int32) then
        bind2 (X_append ob (1 : Int32) i1 (0 : Int32) (0 : Int32)) fun r9 q10 =>
        chk (8 : Int32) i1 <|
        chk (8 : Int32) i1 <|
        some (r9, (sA (sA q10 5 i1 (1 : Int32)) 6 i1 r9))
      else
        some ((-4 : Int32), ob)
    else
      some ((-2 : Int32), ob)
set_option maxRecDepth 65536 in
set_option maxHeartbeats 4000000 in
theorem X_begin_p {C : Ctx} {top : Nat} {a : Nat} {H : List (Nat × Nat × Rec)} {res : Int32 × Rec} (ob : Rec) (i1 : Int32) (hf : X_begin ob i1 = some res) : Runs C B12 0 0 0 [vr a, vi i1, vn] [] (top, (a, 17, ob) :: H) (Ans (some (.int res.1)) (top, (a, 17, res.2) :: H)) := by
  delta X_begin at hf
  refine Runs.aloadN d12_0 rfl <| Runs.iloadN d12_1 rfl <| ?_
  refine bind_el hf fun r1 hg2 hf => ?_
  refine Runs.callP (N := B11) (W := 0) (as := [.int i1]) (S' := []) d12_2 w107 w108 w109 rfl cw11 ar11 rk12_11_0 (by decide) rfl rfl (X_validSlot_pay hg2) <| ans1 <| ?_
  refine ite_el hf (fun hc3 hf => ?_) (fun hc3 hf => ?_)
  · refine Runs.ifN d12_5 (teq hc3).2 <| ?_
    obtain rfl := Option.some.inj hf
    exact Runs.iconst d12_8 ci_m1 <| Runs.retI d12_9 rfl ⟨by decide, by decide⟩ ⟨rfl, rfl⟩
  · refine Runs.ifY (pc' := 10) d12_5 (feq hc3).2 (by decide) <| ?_
    refine Runs.aloadN d12_10 rfl <| Runs.getA d12_11 fA_5 w21 (by decide) <| Runs.iloadN d12_14 rfl <| ?_
    refine chk_el hf fun hi4 hf => ?_
    refine Runs.baloadA d12_15 fA_5 (by decide) hi4 <| ?_
    refine ite_el hf (fun hc5 hf => ?_) (fun hc5 hf => ?_)
    · refine Runs.ifY (pc' := 22) d12_16 (teq hc5).1 (by decide) <| ?_
      refine Runs.aloadN d12_22 rfl <| ?_
      refine bind_el hf fun r6 hg7 hf => ?_
      refine Runs.callP (N := B13) (W := 0) (as := []) (S' := []) d12_23 w116 w117 w118 rfl cw13 ar13 rk12_13_0 (by decide) rfl rfl (X_logFull_pay hg7) <| ans1 <| ?_
      refine ite_el hf (fun hc8 hf => ?_) (fun hc8 hf => ?_)
      · refine Runs.ifY (pc' := 32) d12_26 (teq hc8).1 (by decide) <| ?_
        refine Runs.aloadN d12_32 rfl <| Runs.iconst d12_33 ci_1 <| Runs.iloadN d12_34 rfl <| Runs.iconst d12_35 ci_0 <| Runs.iconst d12_36 ci_0 <| ?_
        refine bind2_el hf fun r9 q10 hg11 hf => ?_
        refine Runs.callP (N := B14) (W := 0) (as := [.int (1 : Int32), .int i1, .int (0 : Int32), .int (0 : Int32)]) (S' := []) d12_37 w120 w121 w122 rfl cw14 ar14 rk12_14_0 (by decide) rfl rfl (X_append_pay hg11) <| ans1 <| Runs.istoreN (P' := [vr a, vi i1, vi r9]) d12_40 (by decide) rfl <| Runs.aloadN d12_41 rfl <| Runs.getA d12_42 fA_5 w21 (by decide) <| Runs.iloadN d12_45 rfl <| Runs.iconst d12_46 ci_1 <| ?_
        refine chk_el hf fun hi12 hf => ?_
        refine Runs.bastoreA (y := (1 : Int32)) d12_47 fA_5 (by decide) hi12 rfl <| Runs.aloadN d12_48 rfl <| Runs.getA d12_49 fA_6 w23 (by decide) <| Runs.iloadN d12_52 rfl <| Runs.iloadN d12_53 rfl <| ?_
        refine chk_el hf fun hi13 hf => ?_
        obtain rfl := Option.some.inj hf
        exact Runs.iastoreA d12_54 fA_6 (by decide) hi13 <| Runs.iloadN d12_55 rfl <| Runs.retI d12_56 rfl ⟨by decide, by decide⟩ ⟨rfl, rfl⟩
      · refine Runs.ifN d12_26 (feq hc8).1 <| ?_
        obtain rfl := Option.some.inj hf
        exact Runs.bipush d12_29 cb_m4 <| Runs.retI d12_31 rfl ⟨by decide, by decide⟩ ⟨rfl, rfl⟩
    · refine Runs.ifN d12_16 (feq hc5).1 <| ?_
      obtain rfl := Option.some.inj hf
      exact Runs.bipush d12_19 cb_m2 <| Runs.retI d12_21 rfl ⟨by decide, by decide⟩ ⟨rfl, rfl⟩
theorem X_begin_pay {C : Ctx} {top : Nat} {a : Nat} {H : List (Nat × Nat × Rec)} {res : Int32 × Rec} {ob : Rec} {i1 : Int32} (hf : X_begin ob i1 = some res) : Pays C B12 [.ref a, .int i1] (top, (a, 17, ob) :: H) (Ans (some (.int res.1)) (top, (a, 17, res.2) :: H)) :=
  Pays.of pnK (Nat.le_of_ble_eq_true rfl) (P := [vr a, vi i1, vn]) 1 rfl (X_begin_p ob i1 hf)
def X_checkOpenSlot (ob : Rec) (i1 : Int32) : Option (Int32) :=
  (X_validSlot ob i1).bind fun r1 =>
  if r1 = (0 : Int32) then
    some (-1 : Int32)
  else
    chk (8 : Int32) i1 <|
    if (gA ob 5 i1) = (0 : Int32) then
      some (-2 : Int32)
    else
      some (0 : Int32)
set_option maxRecDepth 65536 in
set_option maxHeartbeats 4000000 in
theorem X_checkOpenSlot_p {C : Ctx} {top : Nat} {a : Nat} {H : List (Nat × Nat × Rec)} {ob : Rec} {res : Int32} (i1 : Int32) (hf : X_checkOpenSlot ob i1 = some res) : Runs C B10 0 0 0 [vr a, vi i1] [] (top, (a, 17, ob) :: H) (Ans (some (.int res)) (top, (a, 17, ob) :: H)) := by
  delta X_checkOpenSlot at hf
  refine Runs.aloadN d10_0 rfl <| Runs.iloadN d10_1 rfl <| ?_
  refine bind_el hf fun r1 hg2 hf => ?_
  refine Runs.callP (N := B11) (W := 0) (as := [.int i1]) (S' := []) d10_2 w107 w108 w109 rfl cw11 ar11 rk10_11_0 (by decide) rfl rfl (X_validSlot_pay hg2) <| ans1 <| ?_
  refine ite_el hf (fun hc3 hf => ?_) (fun hc3 hf => ?_)
  · refine Runs.ifN d10_5 (teq hc3).2 <| ?_
    obtain rfl := Option.some.inj hf
    exact Runs.iconst d10_8 ci_m1 <| Runs.retI d10_9 rfl ⟨by decide, by decide⟩ ⟨rfl, rfl⟩
  · refine Runs.ifY (pc' := 10) d10_5 (feq hc3).2 (by decide) <| ?_
    refine Runs.aloadN d10_10 rfl <| Runs.getA d10_11 fA_5 w21 (by decide) <| Runs.iloadN d10_14 rfl <| ?_
    refine chk_el hf fun hi4 hf => ?_
    refine Runs.baloadA d10_15 fA_5 (by decide) hi4 <| ?_
    refine ite_el hf (fun hc5 hf => ?_) (fun hc5 hf => ?_)
    · refine Runs.ifN d10_16 (teq hc5).2 <| ?_
      obtain rfl := Option.some.inj hf
      exact Runs.bipush d10_19 cb_m2 <| Runs.retI d10_21 rfl ⟨by decide, by decide⟩ ⟨rfl, rfl⟩
    · refine Runs.ifY (pc' := 22) d10_16 (feq hc5).2 (by decide) <| ?_
      obtain rfl := Option.some.inj hf
      exact Runs.iconst d10_22 ci_0 <| Runs.retI d10_23 rfl ⟨by decide, by decide⟩ ⟨rfl, rfl⟩
theorem X_checkOpenSlot_pay {C : Ctx} {top : Nat} {a : Nat} {H : List (Nat × Nat × Rec)} {ob : Rec} {res : Int32} {i1 : Int32} (hf : X_checkOpenSlot ob i1 = some res) : Pays C B10 [.ref a, .int i1] (top, (a, 17, ob) :: H) (Ans (some (.int res)) (top, (a, 17, ob) :: H)) :=
  Pays.of pnK (Nat.le_of_ble_eq_true rfl) (P := [vr a, vi i1]) 0 rfl (X_checkOpenSlot_p i1 hf)
def X_write (ob : Rec) (i1 : Int32) (i2 : Int32) (i3 : Int32) (i4 : Int32) : Option (Int32 × Rec) :=
  (X_checkOpenSlot ob i2).bind fun r1 =>
  if r1 = (0 : Int32) then
    (X_validKey ob i3).bind fun r4 =>
    if r4 = (0 : Int32) then
      some ((-3 : Int32), ob)
    else
      (X_logFull ob).bind fun r7 =>
      if r7 = (0 : Int32) then
        bind2 (X_append ob i1 i2 i3 i4) fun r10 q11 =>
        some (r10, q11)
      else
        some ((-4 : Int32), ob)
  else
    some (r1, ob)
set_option maxRecDepth 65536 in
set_option maxHeartbeats 4000000 in
theorem X_write_p {C : Ctx} {top : Nat} {a : Nat} {H : List (Nat × Nat × Rec)} {res : Int32 × Rec} (ob : Rec) (i1 : Int32) (i2 : Int32) (i3 : Int32) (i4 : Int32) (hf : X_write ob i1 i2 i3 i4 = some res) : Runs C B9 0 0 0 [vr a, vi i1, vi i2, vi i3, vi i4, vn] [] (top, (a, 17, ob) :: H) (Ans (some (.int res.1)) (top, (a, 17, res.2) :: H)) := by
  delta X_write at hf
  refine Runs.aloadN d9_0 rfl <| Runs.iloadN d9_1 rfl <| ?_
  refine bind_el hf fun r1 hg2 hf => ?_
  refine Runs.callP (N := B10) (W := 0) (as := [.int i2]) (S' := []) d9_2 w103 w104 w105 rfl cw10 ar10 rk9_10_0 (by decide) rfl rfl (X_checkOpenSlot_pay hg2) <| ans1 <| Runs.istore (P' := [vr a, vi i1, vi i2, vi i3, vi i4, vi r1]) d9_5 (by decide) rfl <| Runs.iload d9_7 rfl <| ?_
  refine ite_el hf (fun hc3 hf => ?_) (fun hc3 hf => ?_)
  · refine Runs.ifY (pc' := 15) d9_9 (teq hc3).1 (by decide) <| ?_
    refine Runs.aloadN d9_15 rfl <| Runs.iloadN d9_16 rfl <| ?_
    refine bind_el hf fun r4 hg5 hf => ?_
    refine Runs.callP (N := B5) (W := 0) (as := [.int i3]) (S' := []) d9_17 w80 w81 w82 rfl cw5 ar5 rk9_5_0 (by decide) rfl rfl (X_validKey_pay hg5) <| ans1 <| ?_
    refine ite_el hf (fun hc6 hf => ?_) (fun hc6 hf => ?_)
    · refine Runs.ifN d9_20 (teq hc6).2 <| ?_
      obtain rfl := Option.some.inj hf
      exact Runs.bipush d9_23 cb_m3 <| Runs.retI d9_25 rfl ⟨by decide, by decide⟩ ⟨rfl, rfl⟩
    · refine Runs.ifY (pc' := 26) d9_20 (feq hc6).2 (by decide) <| ?_
      refine Runs.aloadN d9_26 rfl <| ?_
      refine bind_el hf fun r7 hg8 hf => ?_
      refine Runs.callP (N := B13) (W := 0) (as := []) (S' := []) d9_27 w116 w117 w118 rfl cw13 ar13 rk9_13_0 (by decide) rfl rfl (X_logFull_pay hg8) <| ans1 <| ?_
      refine ite_el hf (fun hc9 hf => ?_) (fun hc9 hf => ?_)
      · refine Runs.ifY (pc' := 36) d9_30 (teq hc9).1 (by decide) <| ?_
        refine Runs.aloadN d9_36 rfl <| Runs.iloadN d9_37 rfl <| Runs.iloadN d9_38 rfl <| Runs.iloadN d9_39 rfl <| Runs.iload d9_40 rfl <| ?_
        refine bind2_el hf fun r10 q11 hg12 hf => ?_
        obtain rfl := Option.some.inj hf
        exact Runs.callP (N := B14) (W := 0) (as := [.int i1, .int i2, .int i3, .int i4]) (S' := []) d9_42 w120 w121 w122 rfl cw14 ar14 rk9_14_0 (by decide) rfl rfl (X_append_pay hg12) <| ans1 <| Runs.retI d9_45 rfl ⟨by decide, by decide⟩ ⟨rfl, rfl⟩
      · refine Runs.ifN d9_30 (feq hc9).1 <| ?_
        obtain rfl := Option.some.inj hf
        exact Runs.bipush d9_33 cb_m4 <| Runs.retI d9_35 rfl ⟨by decide, by decide⟩ ⟨rfl, rfl⟩
  · refine Runs.ifN d9_9 (feq hc3).1 <| ?_
    obtain rfl := Option.some.inj hf
    exact Runs.iload d9_12 rfl <| Runs.retI d9_14 rfl ⟨by decide, by decide⟩ ⟨rfl, rfl⟩
theorem X_write_pay {C : Ctx} {top : Nat} {a : Nat} {H : List (Nat × Nat × Rec)} {res : Int32 × Rec} {ob : Rec} {i1 : Int32} {i2 : Int32} {i3 : Int32} {i4 : Int32} (hf : X_write ob i1 i2 i3 i4 = some res) : Pays C B9 [.ref a, .int i1, .int i2, .int i3, .int i4] (top, (a, 17, ob) :: H) (Ans (some (.int res.1)) (top, (a, 17, res.2) :: H)) :=
  Pays.of pnK (Nat.le_of_ble_eq_true rfl) (P := [vr a, vi i1, vi i2, vi i3, vi i4, vn]) 1 rfl (X_write_p ob i1 i2 i3 i4 hf)
def X_put (ob : Rec) (i1 : Int32) (i2 : Int32) (i3 : Int32) : Option (Int32 × Rec) :=
  bind2 (X_write ob (2 : Int32) i1 i2 i3) fun r1 q2 =>
  some (r1, q2)
set_option maxRecDepth 65536 in
set_option maxHeartbeats 4000000 in
theorem X_put_p {C : Ctx} {top : Nat} {a : Nat} {H : List (Nat × Nat × Rec)} {res : Int32 × Rec} (ob : Rec) (i1 : Int32) (i2 : Int32) (i3 : Int32) (hf : X_put ob i1 i2 i3 = some res) : Runs C B8 0 0 0 [vr a, vi i1, vi i2, vi i3] [] (top, (a, 17, ob) :: H) (Ans (some (.int res.1)) (top, (a, 17, res.2) :: H)) := by
  delta X_put at hf
  refine Runs.aloadN d8_0 rfl <| Runs.iconst d8_1 ci_2 <| Runs.iloadN d8_2 rfl <| Runs.iloadN d8_3 rfl <| Runs.iloadN d8_4 rfl <| ?_
  refine bind2_el hf fun r1 q2 hg3 hf => ?_
  obtain rfl := Option.some.inj hf
  exact Runs.callP (N := B9) (W := 0) (as := [.int (2 : Int32), .int i1, .int i2, .int i3]) (S' := []) d8_5 w99 w100 w101 rfl cw9 ar9 rk8_9_0 (by decide) rfl rfl (X_write_pay hg3) <| ans1 <| Runs.retI d8_8 rfl ⟨by decide, by decide⟩ ⟨rfl, rfl⟩
theorem X_put_pay {C : Ctx} {top : Nat} {a : Nat} {H : List (Nat × Nat × Rec)} {res : Int32 × Rec} {ob : Rec} {i1 : Int32} {i2 : Int32} {i3 : Int32} (hf : X_put ob i1 i2 i3 = some res) : Pays C B8 [.ref a, .int i1, .int i2, .int i3] (top, (a, 17, ob) :: H) (Ans (some (.int res.1)) (top, (a, 17, res.2) :: H)) :=
  Pays.of pnK (Nat.le_of_ble_eq_true rfl) (P := [vr a, vi i1, vi i2, vi i3]) 0 rfl (X_put_p ob i1 i2 i3 hf)
def X_del (ob : Rec) (i1 : Int32) (i2 : Int32) : Option (Int32 × Rec) :=
  bind2 (X_write ob (3 : Int32) i1 i2 (0 : Int32)) fun r1 q2 =>
  some (r1, q2)
set_option maxRecDepth 65536 in
set_option maxHeartbeats 4000000 in
theorem X_del_p {C : Ctx} {top : Nat} {a : Nat} {H : List (Nat × Nat × Rec)} {res : Int32 × Rec} (ob : Rec) (i1 : Int32) (i2 : Int32) (hf : X_del ob i1 i2 = some res) : Runs C B26 0 0 0 [vr a, vi i1, vi i2] [] (top, (a, 17, ob) :: H) (Ans (some (.int res.1)) (top, (a, 17, res.2) :: H)) := by
  delta X_del at hf
  refine Runs.aloadN d26_0 rfl <| Runs.iconst d26_1 ci_3 <| Runs.iloadN d26_2 rfl <| Runs.iloadN d26_3 rfl <| Runs.iconst d26_4 ci_0 <| ?_
  refine bind2_el hf fun r1 q2 hg3 hf => ?_
  obtain rfl := Option.some.inj hf
  exact Runs.callP (N := B9) (W := 0) (as := [.int (3 : Int32), .int i1, .int i2, .int (0 : Int32)]) (S' := []) d26_5 w99 w100 w101 rfl cw9 ar9 rk26_9_0 (by decide) rfl rfl (X_write_pay hg3) <| ans1 <| Runs.retI d26_8 rfl ⟨by decide, by decide⟩ ⟨rfl, rfl⟩
theorem X_del_pay {C : Ctx} {top : Nat} {a : Nat} {H : List (Nat × Nat × Rec)} {res : Int32 × Rec} {ob : Rec} {i1 : Int32} {i2 : Int32} (hf : X_del ob i1 i2 = some res) : Pays C B26 [.ref a, .int i1, .int i2] (top, (a, 17, ob) :: H) (Ans (some (.int res.1)) (top, (a, 17, res.2) :: H)) :=
  Pays.of pnK (Nat.le_of_ble_eq_true rfl) (P := [vr a, vi i1, vi i2]) 0 rfl (X_del_p ob i1 i2 hf)
def X_applyToPublisher_w18 (NF : Nat) (k18 : Rec → Int32 → Int32 → Int32 → Option (Rec)) (ob : Rec) (i1 : Int32) (i3 : Int32) (i5 : Int32) : Option (Rec) :=
  if i5 < i3 then
    if i5 < (129 : Int32) then
      chk (129 : Int32) i5 <|
      if (gA ob 1 i5) = i1 then
        chk (129 : Int32) i5 <|
        if (gA ob 2 i5) < (0 : Int32) then
          k18 ob i1 i3 (i5 + (1 : Int32))
        else
          if (gA ob 2 i5) < (32 : Int32) then
            chk (129 : Int32) i5 <|
            if (gA ob 0 i5) = (2 : Int32) then
              chk (32 : Int32) (gA ob 2 i5) <|
              chk (129 : Int32) i5 <|
              chk (32 : Int32) (gA ob 2 i5) <|
              k18 (sA (sA ob 7 (gA ob 2 i5) (1 : Int32)) 8 (gA ob 2 i5) (gA ob 3 i5)) i1 i3 (i5 + (1 : Int32))
            else
              chk (129 : Int32) i5 <|
              if (gA ob 0 i5) = (3 : Int32) then
                chk (32 : Int32) (gA ob 2 i5) <|
                k18 (sA ob 7 (gA ob 2 i5) (0 : Int32)) i1 i3 (i5 + (1 : Int32))
              else
                k18 ob i1 i3 (i5 + (1 : Int32))
          else
            k18 ob i1 i3 (i5 + (1 : Int32))
      else
        k18 ob i1 i3 (i5 + (1 : Int32))
    else
      some ob
  else
    some ob
def X_applyToPublisher_l18 (NF : Nat) : Nat → Rec → Int32 → Int32 → Int32 → Option (Rec)
  | 0, _, _, _, _ => none
  | n + 1, ob, i1, i3, i5 => X_applyToPublisher_w18 NF (X_applyToPublisher_l18 NF n) ob i1 i3 i5
set_option maxRecDepth 65536 in
set_option maxHeartbeats 4000000 in
theorem X_applyToPublisher_w18_p {C : Ctx} {top : Nat} {a : Nat} {H : List (Nat × Nat × Rec)} {res : Rec} {NF : Nat} (k18 : Rec → Int32 → Int32 → Int32 → Option (Rec)) (hk18 : ∀ (ob : Rec) (i1 : Int32) (i3 : Int32) (i5 : Int32), k18 ob i1 i3 i5 = some res → Runs C B27 0 0 18 [vr a, vi i1, vn, vi i3, vn, vi i5, vn] [] (top, (a, 17, ob) :: H) (Ans none (top, (a, 17, res) :: H))) (ob : Rec) (i1 : Int32) (i3 : Int32) (i5 : Int32) (hf : X_applyToPublisher_w18 NF k18 ob i1 i3 i5 = some res) : Runs C B27 0 0 18 [vr a, vi i1, vn, vi i3, vn, vi i5, vn] [] (top, (a, 17, ob) :: H) (Ans none (top, (a, 17, res) :: H)) := by
  delta X_applyToPublisher_w18 at hf
  refine Runs.iload d27_18 rfl <| Runs.iloadN d27_20 rfl <| ?_
  refine ite_el hf (fun hc1 hf => ?_) (fun hc1 hf => ?_)
  · refine Runs.icN d27_21 (tlt hc1).2.1 <| ?_
    refine Runs.iload d27_24 rfl <| Runs.sipush d27_26 cs_129 <| ?_
    refine ite_el hf (fun hc2 hf => ?_) (fun hc2 hf => ?_)
    · refine Runs.icN d27_29 (tlt hc2).2.1 <| ?_
      refine Runs.aloadN d27_32 rfl <| Runs.getA d27_33 fA_1 w12 (by decide) <| Runs.iload d27_36 rfl <| ?_
      refine chk_el hf fun hi3 hf => ?_
      refine Runs.ialoadA d27_38 fA_1 (by decide) hi3 <| Runs.iloadN d27_39 rfl <| ?_
      refine ite_el hf (fun hc4 hf => ?_) (fun hc4 hf => ?_)
      · refine Runs.icY (pc' := 46) d27_40 (teq hc4).1 (by decide) <| ?_
        refine Runs.aloadN d27_46 rfl <| Runs.getA d27_47 fA_2 w14 (by decide) <| Runs.iload d27_50 rfl <| ?_
        refine chk_el hf fun hi5 hf => ?_
        refine Runs.ialoadA d27_52 fA_2 (by decide) hi5 <| Runs.istore (P' := [vr a, vi i1, vn, vi i3, vn, vi i5, vi (gA ob 2 i5)]) d27_53 (by decide) rfl <| Runs.iload d27_55 rfl <| ?_
        refine ite_el hf (fun hc6 hf => ?_) (fun hc6 hf => ?_)
        · refine Runs.ifY (pc' := 125) d27_57 (tlt hc6).1 (by decide) <| ?_
          exact Runs.iinc (P' := [vr a, vi i1, vn, vi i3, vn, vi (i5 + (1 : Int32)), vi (gA ob 2 i5)]) d27_125 ci_1 rfl (by decide) rfl <| Runs.goto (pc' := 18) d27_128 (by decide) <| Runs.forget [true, true, false, true, false, true, false] rfl <| hk18 ob i1 i3 (i5 + (1 : Int32)) hf
        · refine Runs.ifN d27_57 (flt hc6).1 <| ?_
          refine Runs.iload d27_60 rfl <| Runs.bipush d27_62 cb_32 <| ?_
          refine ite_el hf (fun hc7 hf => ?_) (fun hc7 hf => ?_)
          · refine Runs.icY (pc' := 70) d27_64 (tlt hc7).1 (by decide) <| ?_
            refine Runs.aloadN d27_70 rfl <| Runs.getA d27_71 fA_0 w10 (by decide) <| Runs.iload d27_74 rfl <| ?_
            refine chk_el hf fun hi8 hf => ?_
            refine Runs.ialoadA d27_76 fA_0 (by decide) hi8 <| Runs.iconst d27_77 ci_2 <| ?_
            refine ite_el hf (fun hc9 hf => ?_) (fun hc9 hf => ?_)
            · refine Runs.icN d27_78 (teq hc9).2 <| ?_
              refine Runs.aloadN d27_81 rfl <| Runs.getA d27_82 fA_7 w25 (by decide) <| Runs.iload d27_85 rfl <| Runs.iconst d27_87 ci_1 <| ?_
              refine chk_el hf fun hi10 hf => ?_
              refine Runs.bastoreA (y := (1 : Int32)) d27_88 fA_7 (by decide) hi10 rfl <| Runs.aloadN d27_89 rfl <| Runs.getA d27_90 fA_8 w27 (by decide) <| Runs.iload d27_93 rfl <| Runs.aloadN d27_95 rfl <| Runs.getA d27_96 fA_3 w16 (by decide) <| Runs.iload d27_99 rfl <| ?_
              refine chk_el hf fun hi11 hf => ?_
              refine Runs.ialoadA d27_101 fA_3 (by decide) hi11 <| ?_
              refine chk_el hf fun hi12 hf => ?_
              exact Runs.iastoreA d27_102 fA_8 (by decide) hi12 <| Runs.goto (pc' := 125) d27_103 (by decide) <| Runs.iinc (P' := [vr a, vi i1, vn, vi i3, vn, vi (i5 + (1 : Int32)), vi (gA ob 2 i5)]) d27_125 ci_1 rfl (by decide) rfl <| Runs.goto (pc' := 18) d27_128 (by decide) <| Runs.forget [true, true, false, true, false, true, false] rfl <| hk18 (sA (sA ob 7 (gA ob 2 i5) (1 : Int32)) 8 (gA ob 2 i5) (gA ob 3 i5)) i1 i3 (i5 + (1 : Int32)) hf
            · refine Runs.icY (pc' := 106) d27_78 (feq hc9).2 (by decide) <| ?_
              refine Runs.aloadN d27_106 rfl <| Runs.getA d27_107 fA_0 w10 (by decide) <| Runs.iload d27_110 rfl <| ?_
              refine chk_el hf fun hi13 hf => ?_
              refine Runs.ialoadA d27_112 fA_0 (by decide) hi13 <| Runs.iconst d27_113 ci_3 <| ?_
              refine ite_el hf (fun hc14 hf => ?_) (fun hc14 hf => ?_)
              · refine Runs.icN d27_114 (teq hc14).2 <| ?_
                refine Runs.aloadN d27_117 rfl <| Runs.getA d27_118 fA_7 w25 (by decide) <| Runs.iload d27_121 rfl <| Runs.iconst d27_123 ci_0 <| ?_
                refine chk_el hf fun hi15 hf => ?_
                exact Runs.bastoreA (y := (0 : Int32)) d27_124 fA_7 (by decide) hi15 rfl <| Runs.iinc (P' := [vr a, vi i1, vn, vi i3, vn, vi (i5 + (1 : Int32)), vi (gA ob 2 i5)]) d27_125 ci_1 rfl (by decide) rfl <| Runs.goto (pc' := 18) d27_128 (by decide) <| Runs.forget [true, true, false, true, false, true, false] rfl <| hk18 (sA ob 7 (gA ob 2 i5) (0 : Int32)) i1 i3 (i5 + (1 : Int32)) hf
              · refine Runs.icY (pc' := 125) d27_114 (feq hc14).2 (by decide) <| ?_
                exact Runs.iinc (P' := [vr a, vi i1, vn, vi i3, vn, vi (i5 + (1 : Int32)), vi (gA ob 2 i5)]) d27_125 ci_1 rfl (by decide) rfl <| Runs.goto (pc' := 18) d27_128 (by decide) <| Runs.forget [true, true, false, true, false, true, false] rfl <| hk18 ob i1 i3 (i5 + (1 : Int32)) hf
          · refine Runs.icN d27_64 (flt hc7).1 <| ?_
            exact Runs.goto (pc' := 125) d27_67 (by decide) <| Runs.iinc (P' := [vr a, vi i1, vn, vi i3, vn, vi (i5 + (1 : Int32)), vi (gA ob 2 i5)]) d27_125 ci_1 rfl (by decide) rfl <| Runs.goto (pc' := 18) d27_128 (by decide) <| Runs.forget [true, true, false, true, false, true, false] rfl <| hk18 ob i1 i3 (i5 + (1 : Int32)) hf
      · refine Runs.icN d27_40 (feq hc4).1 <| ?_
        exact Runs.goto (pc' := 125) d27_43 (by decide) <| Runs.iinc (P' := [vr a, vi i1, vn, vi i3, vn, vi (i5 + (1 : Int32)), vn]) d27_125 ci_1 rfl (by decide) rfl <| Runs.goto (pc' := 18) d27_128 (by decide) <| hk18 ob i1 i3 (i5 + (1 : Int32)) hf
    · refine Runs.icY (pc' := 131) d27_29 (flt hc2).2.1 (by decide) <| ?_
      obtain rfl := Option.some.inj hf
      exact Runs.retV d27_131 rfl ⟨by decide, by decide⟩ ⟨rfl, rfl⟩
  · refine Runs.icY (pc' := 131) d27_21 (flt hc1).2.1 (by decide) <| ?_
    obtain rfl := Option.some.inj hf
    exact Runs.retV d27_131 rfl ⟨by decide, by decide⟩ ⟨rfl, rfl⟩
theorem X_applyToPublisher_l18_p {C : Ctx} {top : Nat} {a : Nat} {H : List (Nat × Nat × Rec)} {res : Rec} {NF : Nat} (n : Nat) (ob : Rec) (i1 : Int32) (i3 : Int32) (i5 : Int32) (hf : X_applyToPublisher_l18 NF n ob i1 i3 i5 = some res) : Runs C B27 0 0 18 [vr a, vi i1, vn, vi i3, vn, vi i5, vn] [] (top, (a, 17, ob) :: H) (Ans none (top, (a, 17, res) :: H)) := by
  induction n generalizing ob i1 i3 i5 with
  | zero => cases (show (none : Option (Rec)) = some res from hf)
  | succ n ih => exact X_applyToPublisher_w18_p (X_applyToPublisher_l18 NF n) (fun ob i1 i3 i5 h => ih _ _ _ _ h) ob i1 i3 i5 hf
def X_applyToPublisher (NF : Nat) (ob : Rec) (i1 : Int32) (i2 : Int32) (i3 : Int32) : Option (Rec) :=
  if (i2 + (1 : Int32)) < (1 : Int32) then
    X_applyToPublisher_l18 NF NF ob i1 i3 (1 : Int32)
  else
    X_applyToPublisher_l18 NF NF ob i1 i3 (i2 + (1 : Int32))
set_option maxRecDepth 65536 in
set_option maxHeartbeats 4000000 in
theorem X_applyToPublisher_p {C : Ctx} {top : Nat} {a : Nat} {H : List (Nat × Nat × Rec)} {res : Rec} {NF : Nat} (ob : Rec) (i1 : Int32) (i2 : Int32) (i3 : Int32) (hf : X_applyToPublisher NF ob i1 i2 i3 = some res) : Runs C B27 0 0 0 [vr a, vi i1, vi i2, vi i3, vn, vn, vn] [] (top, (a, 17, ob) :: H) (Ans none (top, (a, 17, res) :: H)) := by
  delta X_applyToPublisher at hf
  refine Runs.iloadN d27_0 rfl <| Runs.iconst d27_1 ci_1 <| Runs.iadd d27_2 <| Runs.istore (P' := [vr a, vi i1, vi i2, vi i3, vi (i2 + (1 : Int32)), vn, vn]) d27_3 (by decide) rfl <| Runs.iload d27_5 rfl <| Runs.iconst d27_7 ci_1 <| ?_
  refine ite_el hf (fun hc16 hf => ?_) (fun hc16 hf => ?_)
  · refine Runs.icN d27_8 (tlt hc16).2.1 <| ?_
    exact Runs.iconst d27_11 ci_1 <| Runs.istore (P' := [vr a, vi i1, vi i2, vi i3, vi (1 : Int32), vn, vn]) d27_12 (by decide) rfl <| Runs.iload d27_14 rfl <| Runs.istore (P' := [vr a, vi i1, vi i2, vi i3, vi (1 : Int32), vi (1 : Int32), vn]) d27_16 (by decide) rfl <| Runs.forget [true, true, false, true, false, true, false] rfl <| X_applyToPublisher_l18_p NF ob i1 i3 (1 : Int32) hf
  · refine Runs.icY (pc' := 14) d27_8 (flt hc16).2.1 (by decide) <| ?_
    exact Runs.iload d27_14 rfl <| Runs.istore (P' := [vr a, vi i1, vi i2, vi i3, vi (i2 + (1 : Int32)), vi (i2 + (1 : Int32)), vn]) d27_16 (by decide) rfl <| Runs.forget [true, true, false, true, false, true, false] rfl <| X_applyToPublisher_l18_p NF ob i1 i3 (i2 + (1 : Int32)) hf
theorem X_applyToPublisher_pay {C : Ctx} {top : Nat} {a : Nat} {H : List (Nat × Nat × Rec)} {res : Rec} {NF : Nat} {ob : Rec} {i1 : Int32} {i2 : Int32} {i3 : Int32} (hf : X_applyToPublisher NF ob i1 i2 i3 = some res) : Pays C B27 [.ref a, .int i1, .int i2, .int i3] (top, (a, 17, ob) :: H) (Ans none (top, (a, 17, res) :: H)) :=
  Pays.of pnK (Nat.le_of_ble_eq_true rfl) (P := [vr a, vi i1, vi i2, vi i3, vn, vn, vn]) 3 rfl (X_applyToPublisher_p ob i1 i2 i3 hf)
def X_commit (NF : Nat) (ob : Rec) (i1 : Int32) : Option (Int32 × Rec) :=
  (X_checkOpenSlot ob i1).bind fun r1 =>
  if r1 = (0 : Int32) then
    (X_logFull ob).bind fun r4 =>
    if r4 = (0 : Int32) then
      chk (8 : Int32) i1 <|
      bind2 (X_append ob (4 : Int32) i1 (0 : Int32) (0 : Int32)) fun r8 q9 =>
      chk (129 : Int32) r8 <|
      (X_applyToPublisher NF (sA q9 4 r8 (gA ob 6 i1)) i1 (gA ob 6 i1) r8).bind fun q12 =>
      chk (8 : Int32) i1 <|
      some (r8, (sA q12 5 i1 (0 : Int32)))
    else
      some ((-4 : Int32), ob)
  else
    some (r1, ob)
set_option maxRecDepth 65536 in
set_option maxHeartbeats 4000000 in
theorem X_commit_p {C : Ctx} {top : Nat} {a : Nat} {H : List (Nat × Nat × Rec)} {res : Int32 × Rec} {NF : Nat} (ob : Rec) (i1 : Int32) (hf : X_commit NF ob i1 = some res) : Runs C B19 0 0 0 [vr a, vi i1, vn, vn, vn] [] (top, (a, 17, ob) :: H) (Ans (some (.int res.1)) (top, (a, 17, res.2) :: H)) := by
  delta X_commit at hf
  refine Runs.aloadN d19_0 rfl <| Runs.iloadN d19_1 rfl <| ?_
  refine bind_el hf fun r1 hg2 hf => ?_
  refine Runs.callP (N := B10) (W := 0) (as := [.int i1]) (S' := []) d19_2 w103 w104 w105 rfl cw10 ar10 rk19_10_0 (by decide) rfl rfl (X_checkOpenSlot_pay hg2) <| ans1 <| Runs.istoreN (P' := [vr a, vi i1, vi r1, vn, vn]) d19_5 (by decide) rfl <| Runs.iloadN d19_6 rfl <| ?_
  refine ite_el hf (fun hc3 hf => ?_) (fun hc3 hf => ?_)
  · refine Runs.ifY (pc' := 12) d19_7 (teq hc3).1 (by decide) <| ?_
    refine Runs.aloadN d19_12 rfl <| ?_
    refine bind_el hf fun r4 hg5 hf => ?_
    refine Runs.callP (N := B13) (W := 0) (as := []) (S' := []) d19_13 w116 w117 w118 rfl cw13 ar13 rk19_13_0 (by decide) rfl rfl (X_logFull_pay hg5) <| ans1 <| ?_
    refine ite_el hf (fun hc6 hf => ?_) (fun hc6 hf => ?_)
    · refine Runs.ifY (pc' := 22) d19_16 (teq hc6).1 (by decide) <| ?_
      refine Runs.aloadN d19_22 rfl <| Runs.getA d19_23 fA_6 w23 (by decide) <| Runs.iloadN d19_26 rfl <| ?_
      refine chk_el hf fun hi7 hf => ?_
      refine Runs.ialoadA d19_27 fA_6 (by decide) hi7 <| Runs.istoreN (P' := [vr a, vi i1, vi r1, vi (gA ob 6 i1), vn]) d19_28 (by decide) rfl <| Runs.aloadN d19_29 rfl <| Runs.iconst d19_30 ci_4 <| Runs.iloadN d19_31 rfl <| Runs.iconst d19_32 ci_0 <| Runs.iconst d19_33 ci_0 <| ?_
      refine bind2_el hf fun r8 q9 hg10 hf => ?_
      refine Runs.callP (N := B14) (W := 0) (as := [.int (4 : Int32), .int i1, .int (0 : Int32), .int (0 : Int32)]) (S' := []) d19_34 w120 w121 w122 rfl cw14 ar14 rk19_14_0 (by decide) rfl rfl (X_append_pay hg10) <| ans1 <| Runs.istore (P' := [vr a, vi i1, vi r1, vi (gA ob 6 i1), vi r8]) d19_37 (by decide) rfl <| Runs.aloadN d19_39 rfl <| Runs.getA d19_40 fA_4 w18 (by decide) <| Runs.iload d19_43 rfl <| Runs.iloadN d19_45 rfl <| ?_
      refine chk_el hf fun hi11 hf => ?_
      refine Runs.iastoreA d19_46 fA_4 (by decide) hi11 <| Runs.aloadN d19_47 rfl <| Runs.iloadN d19_48 rfl <| Runs.iloadN d19_49 rfl <| Runs.iload d19_50 rfl <| ?_
      refine bind_el hf fun q12 hg13 hf => ?_
      refine Runs.callP (N := B27) (W := 0) (as := [.int i1, .int (gA ob 6 i1), .int r8]) (S' := []) d19_52 w181 w182 w183 rfl cw27 ar27 rk19_27_0 (by decide) rfl rfl (X_applyToPublisher_pay hg13) <| ans0 <| Runs.aloadN d19_55 rfl <| Runs.getA d19_56 fA_5 w21 (by decide) <| Runs.iloadN d19_59 rfl <| Runs.iconst d19_60 ci_0 <| ?_
      refine chk_el hf fun hi14 hf => ?_
      obtain rfl := Option.some.inj hf
      exact Runs.bastoreA (y := (0 : Int32)) d19_61 fA_5 (by decide) hi14 rfl <| Runs.iload d19_62 rfl <| Runs.retI d19_64 rfl ⟨by decide, by decide⟩ ⟨rfl, rfl⟩
    · refine Runs.ifN d19_16 (feq hc6).1 <| ?_
      obtain rfl := Option.some.inj hf
      exact Runs.bipush d19_19 cb_m4 <| Runs.retI d19_21 rfl ⟨by decide, by decide⟩ ⟨rfl, rfl⟩
  · refine Runs.ifN d19_7 (feq hc3).1 <| ?_
    obtain rfl := Option.some.inj hf
    exact Runs.iloadN d19_10 rfl <| Runs.retI d19_11 rfl ⟨by decide, by decide⟩ ⟨rfl, rfl⟩
theorem X_commit_pay {C : Ctx} {top : Nat} {a : Nat} {H : List (Nat × Nat × Rec)} {res : Int32 × Rec} {NF : Nat} {ob : Rec} {i1 : Int32} (hf : X_commit NF ob i1 = some res) : Pays C B19 [.ref a, .int i1] (top, (a, 17, ob) :: H) (Ans (some (.int res.1)) (top, (a, 17, res.2) :: H)) :=
  Pays.of pnK (Nat.le_of_ble_eq_true rfl) (P := [vr a, vi i1, vn, vn, vn]) 3 rfl (X_commit_p ob i1 hf)
def X_abort (ob : Rec) (i1 : Int32) : Option (Int32 × Rec) :=
  (X_checkOpenSlot ob i1).bind fun r1 =>
  if r1 = (0 : Int32) then
    (X_logFull ob).bind fun r4 =>
    if r4 = (0 : Int32) then
      bind2 (X_append ob (5 : Int32) i1 (0 : Int32) (0 : Int32)) fun r7 q8 =>
      chk (8 : Int32) i1 <|
      some (r7, (sA q8 5 i1 (0 : Int32)))
    else
      some ((-4 : Int32), ob)
  else
    some (r1, ob)
set_option maxRecDepth 65536 in
set_option maxHeartbeats 4000000 in
theorem X_abort_p {C : Ctx} {top : Nat} {a : Nat} {H : List (Nat × Nat × Rec)} {res : Int32 × Rec} (ob : Rec) (i1 : Int32) (hf : X_abort ob i1 = some res) : Runs C B17 0 0 0 [vr a, vi i1, vn, vn] [] (top, (a, 17, ob) :: H) (Ans (some (.int res.1)) (top, (a, 17, res.2) :: H)) := by
  delta X_abort at hf
  refine Runs.aloadN d17_0 rfl <| Runs.iloadN d17_1 rfl <| ?_
  refine bind_el hf fun r1 hg2 hf => ?_
  refine Runs.callP (N := B10) (W := 0) (as := [.int i1]) (S' := []) d17_2 w103 w104 w105 rfl cw10 ar10 rk17_10_0 (by decide) rfl rfl (X_checkOpenSlot_pay hg2) <| ans1 <| Runs.istoreN (P' := [vr a, vi i1, vi r1, vn]) d17_5 (by decide) rfl <| Runs.iloadN d17_6 rfl <| ?_
  refine ite_el hf (fun hc3 hf => ?_) (fun hc3 hf => ?_)
  · refine Runs.ifY (pc' := 12) d17_7 (teq hc3).1 (by decide) <| ?_
    refine Runs.aloadN d17_12 rfl <| ?_
    refine bind_el hf fun r4 hg5 hf => ?_
    refine Runs.callP (N := B13) (W := 0) (as := []) (S' := []) d17_13 w116 w117 w118 rfl cw13 ar13 rk17_13_0 (by decide) rfl rfl (X_logFull_pay hg5) <| ans1 <| ?_
    refine ite_el hf (fun hc6 hf => ?_) (fun hc6 hf => ?_)
    · refine Runs.ifY (pc' := 22) d17_16 (teq hc6).1 (by decide) <| ?_
      refine Runs.aloadN d17_22 rfl <| Runs.iconst d17_23 ci_5 <| Runs.iloadN d17_24 rfl <| Runs.iconst d17_25 ci_0 <| Runs.iconst d17_26 ci_0 <| ?_
      refine bind2_el hf fun r7 q8 hg9 hf => ?_
      refine Runs.callP (N := B14) (W := 0) (as := [.int (5 : Int32), .int i1, .int (0 : Int32), .int (0 : Int32)]) (S' := []) d17_27 w120 w121 w122 rfl cw14 ar14 rk17_14_0 (by decide) rfl rfl (X_append_pay hg9) <| ans1 <| Runs.istoreN (P' := [vr a, vi i1, vi r1, vi r7]) d17_30 (by decide) rfl <| Runs.aloadN d17_31 rfl <| Runs.getA d17_32 fA_5 w21 (by decide) <| Runs.iloadN d17_35 rfl <| Runs.iconst d17_36 ci_0 <| ?_
      refine chk_el hf fun hi10 hf => ?_
      obtain rfl := Option.some.inj hf
      exact Runs.bastoreA (y := (0 : Int32)) d17_37 fA_5 (by decide) hi10 rfl <| Runs.iloadN d17_38 rfl <| Runs.retI d17_39 rfl ⟨by decide, by decide⟩ ⟨rfl, rfl⟩
    · refine Runs.ifN d17_16 (feq hc6).1 <| ?_
      obtain rfl := Option.some.inj hf
      exact Runs.bipush d17_19 cb_m4 <| Runs.retI d17_21 rfl ⟨by decide, by decide⟩ ⟨rfl, rfl⟩
  · refine Runs.ifN d17_7 (feq hc3).1 <| ?_
    obtain rfl := Option.some.inj hf
    exact Runs.iloadN d17_10 rfl <| Runs.retI d17_11 rfl ⟨by decide, by decide⟩ ⟨rfl, rfl⟩
theorem X_abort_pay {C : Ctx} {top : Nat} {a : Nat} {H : List (Nat × Nat × Rec)} {res : Int32 × Rec} {ob : Rec} {i1 : Int32} (hf : X_abort ob i1 = some res) : Pays C B17 [.ref a, .int i1] (top, (a, 17, ob) :: H) (Ans (some (.int res.1)) (top, (a, 17, res.2) :: H)) :=
  Pays.of pnK (Nat.le_of_ble_eq_true rfl) (P := [vr a, vi i1, vn, vn]) 2 rfl (X_abort_p ob i1 hf)
def X_nextCommit_w13 (NF : Nat) (ob : Rec) (k13 : Int32 → Option (Int32)) (i3 : Int32) : Option (Int32) :=
  if (gI ob 4) < i3 then
    some (0 : Int32)
  else
    if i3 < (129 : Int32) then
      chk (129 : Int32) i3 <|
      if (gA ob 0 i3) = (4 : Int32) then
        some i3
      else
        k13 (i3 + (1 : Int32))
    else
      some (0 : Int32)
def X_nextCommit_l13 (NF : Nat) (ob : Rec) : Nat → Int32 → Option (Int32)
  | 0, _ => none
  | n + 1, i3 => X_nextCommit_w13 NF ob (X_nextCommit_l13 NF ob n) i3
set_option maxRecDepth 65536 in
set_option maxHeartbeats 4000000 in
theorem X_nextCommit_w13_p {C : Ctx} {top : Nat} {a : Nat} {H : List (Nat × Nat × Rec)} {ob : Rec} {res : Int32} {NF : Nat} (k13 : Int32 → Option (Int32)) (hk13 : ∀ (i3 : Int32), k13 i3 = some res → Runs C B24 0 0 13 [vr a, vn, vn, vi i3] [] (top, (a, 17, ob) :: H) (Ans (some (.int res)) (top, (a, 17, ob) :: H))) (i3 : Int32) (hf : X_nextCommit_w13 NF ob k13 i3 = some res) : Runs C B24 0 0 13 [vr a, vn, vn, vi i3] [] (top, (a, 17, ob) :: H) (Ans (some (.int res)) (top, (a, 17, ob) :: H)) := by
  delta X_nextCommit_w13 at hf
  refine Runs.iloadN d24_13 rfl <| Runs.aloadN d24_14 rfl <| Runs.getI d24_15 w57 fS_4 <| ?_
  refine ite_el hf (fun hc1 hf => ?_) (fun hc1 hf => ?_)
  · refine Runs.icY (pc' := 46) d24_18 (tlt hc1).2.2.1 (by decide) <| ?_
    obtain rfl := Option.some.inj hf
    exact Runs.iconst d24_46 ci_0 <| Runs.retI d24_47 rfl ⟨by decide, by decide⟩ ⟨rfl, rfl⟩
  · refine Runs.icN d24_18 (flt hc1).2.2.1 <| ?_
    refine Runs.iloadN d24_21 rfl <| Runs.sipush d24_22 cs_129 <| ?_
    refine ite_el hf (fun hc2 hf => ?_) (fun hc2 hf => ?_)
    · refine Runs.icN d24_25 (tlt hc2).2.1 <| ?_
      refine Runs.aloadN d24_28 rfl <| Runs.getA d24_29 fA_0 w10 (by decide) <| Runs.iloadN d24_32 rfl <| ?_
      refine chk_el hf fun hi3 hf => ?_
      refine Runs.ialoadA d24_33 fA_0 (by decide) hi3 <| Runs.iconst d24_34 ci_4 <| ?_
      refine ite_el hf (fun hc4 hf => ?_) (fun hc4 hf => ?_)
      · refine Runs.icN d24_35 (teq hc4).2 <| ?_
        obtain rfl := Option.some.inj hf
        exact Runs.iloadN d24_38 rfl <| Runs.retI d24_39 rfl ⟨by decide, by decide⟩ ⟨rfl, rfl⟩
      · refine Runs.icY (pc' := 40) d24_35 (feq hc4).2 (by decide) <| ?_
        exact Runs.iinc (P' := [vr a, vn, vn, vi (i3 + (1 : Int32))]) d24_40 ci_1 rfl (by decide) rfl <| Runs.goto (pc' := 13) d24_43 (by decide) <| hk13 (i3 + (1 : Int32)) hf
    · refine Runs.icY (pc' := 46) d24_25 (flt hc2).2.1 (by decide) <| ?_
      obtain rfl := Option.some.inj hf
      exact Runs.iconst d24_46 ci_0 <| Runs.retI d24_47 rfl ⟨by decide, by decide⟩ ⟨rfl, rfl⟩
theorem X_nextCommit_l13_p {C : Ctx} {top : Nat} {a : Nat} {H : List (Nat × Nat × Rec)} {ob : Rec} {res : Int32} {NF : Nat} (n : Nat) (i3 : Int32) (hf : X_nextCommit_l13 NF ob n i3 = some res) : Runs C B24 0 0 13 [vr a, vn, vn, vi i3] [] (top, (a, 17, ob) :: H) (Ans (some (.int res)) (top, (a, 17, ob) :: H)) := by
  induction n generalizing i3 with
  | zero => cases (show (none : Option (Int32)) = some res from hf)
  | succ n ih => exact X_nextCommit_w13_p (X_nextCommit_l13 NF ob n) (fun i3 h => ih _ h) i3 hf
def X_nextCommit (NF : Nat) (ob : Rec) (i1 : Int32) : Option (Int32) :=
  if (i1 + (1 : Int32)) < (1 : Int32) then
    X_nextCommit_l13 NF ob NF (1 : Int32)
  else
    X_nextCommit_l13 NF ob NF (i1 + (1 : Int32))
set_option maxRecDepth 65536 in
set_option maxHeartbeats 4000000 in
theorem X_nextCommit_p {C : Ctx} {top : Nat} {a : Nat} {H : List (Nat × Nat × Rec)} {ob : Rec} {res : Int32} {NF : Nat} (i1 : Int32) (hf : X_nextCommit NF ob i1 = some res) : Runs C B24 0 0 0 [vr a, vi i1, vn, vn] [] (top, (a, 17, ob) :: H) (Ans (some (.int res)) (top, (a, 17, ob) :: H)) := by
  delta X_nextCommit at hf
  refine Runs.iloadN d24_0 rfl <| Runs.iconst d24_1 ci_1 <| Runs.iadd d24_2 <| Runs.istoreN (P' := [vr a, vi i1, vi (i1 + (1 : Int32)), vn]) d24_3 (by decide) rfl <| Runs.iloadN d24_4 rfl <| Runs.iconst d24_5 ci_1 <| ?_
  refine ite_el hf (fun hc5 hf => ?_) (fun hc5 hf => ?_)
  · refine Runs.icN d24_6 (tlt hc5).2.1 <| ?_
    exact Runs.iconst d24_9 ci_1 <| Runs.istoreN (P' := [vr a, vi i1, vi (1 : Int32), vn]) d24_10 (by decide) rfl <| Runs.iloadN d24_11 rfl <| Runs.istoreN (P' := [vr a, vi i1, vi (1 : Int32), vi (1 : Int32)]) d24_12 (by decide) rfl <| Runs.forget [true, false, false, true] rfl <| X_nextCommit_l13_p NF (1 : Int32) hf
  · refine Runs.icY (pc' := 11) d24_6 (flt hc5).2.1 (by decide) <| ?_
    exact Runs.iloadN d24_11 rfl <| Runs.istoreN (P' := [vr a, vi i1, vi (i1 + (1 : Int32)), vi (i1 + (1 : Int32))]) d24_12 (by decide) rfl <| Runs.forget [true, false, false, true] rfl <| X_nextCommit_l13_p NF (i1 + (1 : Int32)) hf
theorem X_nextCommit_pay {C : Ctx} {top : Nat} {a : Nat} {H : List (Nat × Nat × Rec)} {ob : Rec} {res : Int32} {NF : Nat} {i1 : Int32} (hf : X_nextCommit NF ob i1 = some res) : Pays C B24 [.ref a, .int i1] (top, (a, 17, ob) :: H) (Ans (some (.int res)) (top, (a, 17, ob) :: H)) :=
  Pays.of pnK (Nat.le_of_ble_eq_true rfl) (P := [vr a, vi i1, vn, vn]) 2 rfl (X_nextCommit_p i1 hf)
def X_enqueue_b34 (ob : Rec) (i1 : Int32) (i2 : Int32) (i3 : Int32) (i4 : Int32) (i5 : Int32) : Option (Rec) :=
  chk (128 : Int32) i5 <|
  chk (128 : Int32) i5 <|
  chk (128 : Int32) i5 <|
  chk (128 : Int32) i5 <|
  some (sI (sA (sA (sA (sA ob 13 i5 i1) 14 i5 i2) 15 i5 i3) 16 i5 i4) 9 ((gI ob 9) + (1 : Int32)))
set_option maxRecDepth 65536 in
set_option maxHeartbeats 4000000 in
theorem X_enqueue_b34_p {C : Ctx} {top : Nat} {a : Nat} {H : List (Nat × Nat × Rec)} {res : Rec} (ob : Rec) (i1 : Int32) (i2 : Int32) (i3 : Int32) (i4 : Int32) (i5 : Int32) (hf : X_enqueue_b34 ob i1 i2 i3 i4 i5 = some res) : Runs C B32 0 0 34 [vr a, vi i1, vi i2, vi i3, vi i4, vi i5] [] (top, (a, 17, ob) :: H) (Ans none (top, (a, 17, res) :: H)) := by
  delta X_enqueue_b34 at hf
  refine Runs.aloadN d32_34 rfl <| Runs.getA d32_35 fA_13 w37 (by decide) <| Runs.iload d32_38 rfl <| Runs.iloadN d32_40 rfl <| ?_
  refine chk_el hf fun hi1 hf => ?_
  refine Runs.iastoreA d32_41 fA_13 (by decide) hi1 <| Runs.aloadN d32_42 rfl <| Runs.getA d32_43 fA_14 w39 (by decide) <| Runs.iload d32_46 rfl <| Runs.iloadN d32_48 rfl <| ?_
  refine chk_el hf fun hi2 hf => ?_
  refine Runs.iastoreA d32_49 fA_14 (by decide) hi2 <| Runs.aloadN d32_50 rfl <| Runs.getA d32_51 fA_15 w41 (by decide) <| Runs.iload d32_54 rfl <| Runs.iloadN d32_56 rfl <| ?_
  refine chk_el hf fun hi3 hf => ?_
  refine Runs.iastoreA d32_57 fA_15 (by decide) hi3 <| Runs.aloadN d32_58 rfl <| Runs.getA d32_59 fA_16 w43 (by decide) <| Runs.iload d32_62 rfl <| Runs.iload d32_64 rfl <| ?_
  refine chk_el hf fun hi4 hf => ?_
  obtain rfl := Option.some.inj hf
  exact Runs.iastoreA d32_66 fA_16 (by decide) hi4 <| Runs.aloadN d32_67 rfl <| Runs.dup d32_68 rfl <| Runs.getI d32_69 w67 fS_9 <| Runs.iconst d32_72 ci_1 <| Runs.iadd d32_73 <| Runs.putI d32_74 w67 fS_9 (Or.inl w68) <| Runs.retV d32_77 rfl ⟨by decide, by decide⟩ ⟨rfl, rfl⟩
def X_enqueue (ob : Rec) (i1 : Int32) (i2 : Int32) (i3 : Int32) (i4 : Int32) : Option (Rec) :=
  if (gI ob 9) < (128 : Int32) then
    if (((gI ob 8) + (gI ob 9)) % (128 : Int32)) < (0 : Int32) then
      X_enqueue_b34 ob i1 i2 i3 i4 (0 : Int32)
    else
      X_enqueue_b34 ob i1 i2 i3 i4 (((gI ob 8) + (gI ob 9)) % (128 : Int32))
  else
    some ob
set_option maxRecDepth 65536 in
set_option maxHeartbeats 4000000 in
theorem X_enqueue_p {C : Ctx} {top : Nat} {a : Nat} {H : List (Nat × Nat × Rec)} {res : Rec} (ob : Rec) (i1 : Int32) (i2 : Int32) (i3 : Int32) (i4 : Int32) (hf : X_enqueue ob i1 i2 i3 i4 = some res) : Runs C B32 0 0 0 [vr a, vi i1, vi i2, vi i3, vi i4, vn] [] (top, (a, 17, ob) :: H) (Ans none (top, (a, 17, res) :: H)) := by
  delta X_enqueue at hf
  refine Runs.aloadN d32_0 rfl <| Runs.getI d32_1 w67 fS_9 <| Runs.sipush d32_4 cs_128 <| ?_
  refine ite_el hf (fun hc5 hf => ?_) (fun hc5 hf => ?_)
  · refine Runs.icY (pc' := 11) d32_7 (tlt hc5).1 (by decide) <| ?_
    refine Runs.aloadN d32_11 rfl <| Runs.getI d32_12 w65 fS_8 <| Runs.aloadN d32_15 rfl <| Runs.getI d32_16 w67 fS_9 <| Runs.iadd d32_19 <| Runs.sipush d32_20 cs_128 <| Runs.irem d32_23 (by decide) <| Runs.istore (P' := [vr a, vi i1, vi i2, vi i3, vi i4, vi (((gI ob 8) + (gI ob 9)) % (128 : Int32))]) d32_24 (by decide) rfl <| Runs.iload d32_26 rfl <| ?_
    refine ite_el hf (fun hc6 hf => ?_) (fun hc6 hf => ?_)
    · refine Runs.ifN d32_28 (tlt hc6).2.1 <| ?_
      exact Runs.iconst d32_31 ci_0 <| Runs.istore (P' := [vr a, vi i1, vi i2, vi i3, vi i4, vi (0 : Int32)]) d32_32 (by decide) rfl <| X_enqueue_b34_p ob i1 i2 i3 i4 (0 : Int32) hf
    · exact Runs.ifY (pc' := 34) d32_28 (flt hc6).2.1 (by decide) <| X_enqueue_b34_p ob i1 i2 i3 i4 (((gI ob 8) + (gI ob 9)) % (128 : Int32)) hf
  · refine Runs.icN d32_7 (flt hc5).1 <| ?_
    obtain rfl := Option.some.inj hf
    exact Runs.retV d32_10 rfl ⟨by decide, by decide⟩ ⟨rfl, rfl⟩
theorem X_enqueue_pay {C : Ctx} {top : Nat} {a : Nat} {H : List (Nat × Nat × Rec)} {res : Rec} {ob : Rec} {i1 : Int32} {i2 : Int32} {i3 : Int32} {i4 : Int32} (hf : X_enqueue ob i1 i2 i3 i4 = some res) : Pays C B32 [.ref a, .int i1, .int i2, .int i3, .int i4] (top, (a, 17, ob) :: H) (Ans none (top, (a, 17, res) :: H)) :=
  Pays.of pnK (Nat.le_of_ble_eq_true rfl) (P := [vr a, vi i1, vi i2, vi i3, vi i4, vn]) 1 rfl (X_enqueue_p ob i1 i2 i3 i4 hf)
def X_emitTransaction_b75 (NF : Nat) (k26 : Rec → Int32 → Int32 → Int32 → Option (Rec)) (ob : Rec) (i1 : Int32) (i2 : Int32) (i4 : Int32) (i5 : Int32) : Option (Rec) :=
  chk (129 : Int32) i4 <|
  chk (129 : Int32) i4 <|
  (X_enqueue ob i5 (gA ob 2 i4) (gA ob 3 i4) i1).bind fun q10 =>
  k26 q10 i1 i2 (i4 + (1 : Int32))
set_option maxRecDepth 65536 in
set_option maxHeartbeats 4000000 in
theorem X_emitTransaction_b75_p {C : Ctx} {top : Nat} {a : Nat} {H : List (Nat × Nat × Rec)} {res : Rec} {NF : Nat} (k26 : Rec → Int32 → Int32 → Int32 → Option (Rec)) (hk26 : ∀ (ob : Rec) (i1 : Int32) (i2 : Int32) (i4 : Int32), k26 ob i1 i2 i4 = some res → Runs C B31 0 0 26 [vr a, vi i1, vi i2, vn, vi i4, vn] [] (top, (a, 17, ob) :: H) (Ans none (top, (a, 17, res) :: H))) (ob : Rec) (i1 : Int32) (i2 : Int32) (i4 : Int32) (i5 : Int32) (hf : X_emitTransaction_b75 NF k26 ob i1 i2 i4 i5 = some res) : Runs C B31 0 0 75 [vr a, vi i1, vi i2, vn, vi i4, vi i5] [] (top, (a, 17, ob) :: H) (Ans none (top, (a, 17, res) :: H)) := by
  delta X_emitTransaction_b75 at hf
  refine Runs.aloadN d31_75 rfl <| Runs.iload d31_76 rfl <| Runs.aloadN d31_78 rfl <| Runs.getA d31_79 fA_2 w14 (by decide) <| Runs.iload d31_82 rfl <| ?_
  refine chk_el hf fun hi8 hf => ?_
  refine Runs.ialoadA d31_84 fA_2 (by decide) hi8 <| Runs.aloadN d31_85 rfl <| Runs.getA d31_86 fA_3 w16 (by decide) <| Runs.iload d31_89 rfl <| ?_
  refine chk_el hf fun hi9 hf => ?_
  refine Runs.ialoadA d31_91 fA_3 (by decide) hi9 <| Runs.iloadN d31_92 rfl <| ?_
  refine bind_el hf fun q10 hg11 hf => ?_
  exact Runs.callP (N := B32) (W := 0) (as := [.int i5, .int (gA ob 2 i4), .int (gA ob 3 i4), .int i1]) (S' := []) d31_93 w199 w200 w201 rfl cw32 ar32 rk31_32_0 (by decide) rfl rfl (X_enqueue_pay hg11) <| ans0 <| Runs.iinc (P' := [vr a, vi i1, vi i2, vn, vi (i4 + (1 : Int32)), vi i5]) d31_96 ci_1 rfl (by decide) rfl <| Runs.goto (pc' := 26) d31_99 (by decide) <| Runs.forget [true, true, true, false, true, false] rfl <| hk26 q10 i1 i2 (i4 + (1 : Int32)) hf
def X_emitTransaction_b102 (NF : Nat) (ob : Rec) (i1 : Int32) : Option (Rec) :=
  (X_enqueue ob (4 : Int32) (0 : Int32) (0 : Int32) i1).bind fun q12 =>
  some q12
set_option maxRecDepth 65536 in
set_option maxHeartbeats 4000000 in
theorem X_emitTransaction_b102_p {C : Ctx} {top : Nat} {a : Nat} {H : List (Nat × Nat × Rec)} {res : Rec} {NF : Nat} (ob : Rec) (i1 : Int32) (hf : X_emitTransaction_b102 NF ob i1 = some res) : Runs C B31 0 0 102 [vr a, vi i1, vn, vn, vn, vn] [] (top, (a, 17, ob) :: H) (Ans none (top, (a, 17, res) :: H)) := by
  delta X_emitTransaction_b102 at hf
  refine Runs.aloadN d31_102 rfl <| Runs.iconst d31_103 ci_4 <| Runs.iconst d31_104 ci_0 <| Runs.iconst d31_105 ci_0 <| Runs.iloadN d31_106 rfl <| ?_
  refine bind_el hf fun q12 hg13 hf => ?_
  obtain rfl := Option.some.inj hf
  exact Runs.callP (N := B32) (W := 0) (as := [.int (4 : Int32), .int (0 : Int32), .int (0 : Int32), .int i1]) (S' := []) d31_107 w199 w200 w201 rfl cw32 ar32 rk31_32_0 (by decide) rfl rfl (X_enqueue_pay hg13) <| ans0 <| Runs.retV d31_110 rfl ⟨by decide, by decide⟩ ⟨rfl, rfl⟩
def X_emitTransaction_w26 (NF : Nat) (k26 : Rec → Int32 → Int32 → Int32 → Option (Rec)) (ob : Rec) (i1 : Int32) (i2 : Int32) (i4 : Int32) : Option (Rec) :=
  if i4 < i1 then
    if i4 < (129 : Int32) then
      chk (129 : Int32) i4 <|
      if (gA ob 1 i4) = i2 then
        chk (129 : Int32) i4 <|
        if (gA ob 0 i4) = (2 : Int32) then
          X_emitTransaction_b75 NF k26 ob i1 i2 i4 (gA ob 0 i4)
        else
          if (gA ob 0 i4) = (3 : Int32) then
            X_emitTransaction_b75 NF k26 ob i1 i2 i4 (gA ob 0 i4)
          else
            k26 ob i1 i2 (i4 + (1 : Int32))
      else
        k26 ob i1 i2 (i4 + (1 : Int32))
    else
      X_emitTransaction_b102 NF ob i1
  else
    X_emitTransaction_b102 NF ob i1
def X_emitTransaction_l26 (NF : Nat) : Nat → Rec → Int32 → Int32 → Int32 → Option (Rec)
  | 0, _, _, _, _ => none
  | n + 1, ob, i1, i2, i4 => X_emitTransaction_w26 NF (X_emitTransaction_l26 NF n) ob i1 i2 i4
set_option maxRecDepth 65536 in
set_option maxHeartbeats 4000000 in
theorem X_emitTransaction_w26_p {C : Ctx} {top : Nat} {a : Nat} {H : List (Nat × Nat × Rec)} {res : Rec} {NF : Nat} (k26 : Rec → Int32 → Int32 → Int32 → Option (Rec)) (hk26 : ∀ (ob : Rec) (i1 : Int32) (i2 : Int32) (i4 : Int32), k26 ob i1 i2 i4 = some res → Runs C B31 0 0 26 [vr a, vi i1, vi i2, vn, vi i4, vn] [] (top, (a, 17, ob) :: H) (Ans none (top, (a, 17, res) :: H))) (ob : Rec) (i1 : Int32) (i2 : Int32) (i4 : Int32) (hf : X_emitTransaction_w26 NF k26 ob i1 i2 i4 = some res) : Runs C B31 0 0 26 [vr a, vi i1, vi i2, vn, vi i4, vn] [] (top, (a, 17, ob) :: H) (Ans none (top, (a, 17, res) :: H)) := by
  delta X_emitTransaction_w26 at hf
  refine Runs.iload d31_26 rfl <| Runs.iloadN d31_28 rfl <| ?_
  refine ite_el hf (fun hc1 hf => ?_) (fun hc1 hf => ?_)
  · refine Runs.icN d31_29 (tlt hc1).2.1 <| ?_
    refine Runs.iload d31_32 rfl <| Runs.sipush d31_34 cs_129 <| ?_
    refine ite_el hf (fun hc2 hf => ?_) (fun hc2 hf => ?_)
    · refine Runs.icN d31_37 (tlt hc2).2.1 <| ?_
      refine Runs.aloadN d31_40 rfl <| Runs.getA d31_41 fA_1 w12 (by decide) <| Runs.iload d31_44 rfl <| ?_
      refine chk_el hf fun hi3 hf => ?_
      refine Runs.ialoadA d31_46 fA_1 (by decide) hi3 <| Runs.iloadN d31_47 rfl <| ?_
      refine ite_el hf (fun hc4 hf => ?_) (fun hc4 hf => ?_)
      · refine Runs.icY (pc' := 54) d31_48 (teq hc4).1 (by decide) <| ?_
        refine Runs.aloadN d31_54 rfl <| Runs.getA d31_55 fA_0 w10 (by decide) <| Runs.iload d31_58 rfl <| ?_
        refine chk_el hf fun hi5 hf => ?_
        refine Runs.ialoadA d31_60 fA_0 (by decide) hi5 <| Runs.istore (P' := [vr a, vi i1, vi i2, vn, vi i4, vi (gA ob 0 i4)]) d31_61 (by decide) rfl <| Runs.iload d31_63 rfl <| Runs.iconst d31_65 ci_2 <| ?_
        refine ite_el hf (fun hc6 hf => ?_) (fun hc6 hf => ?_)
        · exact Runs.icY (pc' := 75) d31_66 (teq hc6).1 (by decide) <| X_emitTransaction_b75_p k26 hk26 ob i1 i2 i4 (gA ob 0 i4) hf
        · refine Runs.icN d31_66 (feq hc6).1 <| ?_
          refine Runs.iload d31_69 rfl <| Runs.iconst d31_71 ci_3 <| ?_
          refine ite_el hf (fun hc7 hf => ?_) (fun hc7 hf => ?_)
          · exact Runs.icN d31_72 (teq hc7).2 <| X_emitTransaction_b75_p k26 hk26 ob i1 i2 i4 (gA ob 0 i4) hf
          · refine Runs.icY (pc' := 96) d31_72 (feq hc7).2 (by decide) <| ?_
            exact Runs.iinc (P' := [vr a, vi i1, vi i2, vn, vi (i4 + (1 : Int32)), vi (gA ob 0 i4)]) d31_96 ci_1 rfl (by decide) rfl <| Runs.goto (pc' := 26) d31_99 (by decide) <| Runs.forget [true, true, true, false, true, false] rfl <| hk26 ob i1 i2 (i4 + (1 : Int32)) hf
      · refine Runs.icN d31_48 (feq hc4).1 <| ?_
        exact Runs.goto (pc' := 96) d31_51 (by decide) <| Runs.iinc (P' := [vr a, vi i1, vi i2, vn, vi (i4 + (1 : Int32)), vn]) d31_96 ci_1 rfl (by decide) rfl <| Runs.goto (pc' := 26) d31_99 (by decide) <| hk26 ob i1 i2 (i4 + (1 : Int32)) hf
    · exact Runs.icY (pc' := 102) d31_37 (flt hc2).2.1 (by decide) <| Runs.forget [true, true, false, false, false, false] rfl <| X_emitTransaction_b102_p ob i1 hf
  · exact Runs.icY (pc' := 102) d31_29 (flt hc1).2.1 (by decide) <| Runs.forget [true, true, false, false, false, false] rfl <| X_emitTransaction_b102_p ob i1 hf
theorem X_emitTransaction_l26_p {C : Ctx} {top : Nat} {a : Nat} {H : List (Nat × Nat × Rec)} {res : Rec} {NF : Nat} (n : Nat) (ob : Rec) (i1 : Int32) (i2 : Int32) (i4 : Int32) (hf : X_emitTransaction_l26 NF n ob i1 i2 i4 = some res) : Runs C B31 0 0 26 [vr a, vi i1, vi i2, vn, vi i4, vn] [] (top, (a, 17, ob) :: H) (Ans none (top, (a, 17, res) :: H)) := by
  induction n generalizing ob i1 i2 i4 with
  | zero => cases (show (none : Option (Rec)) = some res from hf)
  | succ n ih => exact X_emitTransaction_w26_p (X_emitTransaction_l26 NF n) (fun ob i1 i2 i4 h => ih _ _ _ _ h) ob i1 i2 i4 hf
def X_emitTransaction (NF : Nat) (ob : Rec) (i1 : Int32) : Option (Rec) :=
  chk (129 : Int32) i1 <|
  chk (129 : Int32) i1 <|
  if ((gA ob 4 i1) + (1 : Int32)) < (1 : Int32) then
    X_emitTransaction_l26 NF NF ob i1 (gA ob 1 i1) (1 : Int32)
  else
    X_emitTransaction_l26 NF NF ob i1 (gA ob 1 i1) ((gA ob 4 i1) + (1 : Int32))
set_option maxRecDepth 65536 in
set_option maxHeartbeats 4000000 in
theorem X_emitTransaction_p {C : Ctx} {top : Nat} {a : Nat} {H : List (Nat × Nat × Rec)} {res : Rec} {NF : Nat} (ob : Rec) (i1 : Int32) (hf : X_emitTransaction NF ob i1 = some res) : Runs C B31 0 0 0 [vr a, vi i1, vn, vn, vn, vn] [] (top, (a, 17, ob) :: H) (Ans none (top, (a, 17, res) :: H)) := by
  delta X_emitTransaction at hf
  refine Runs.aloadN d31_0 rfl <| Runs.getA d31_1 fA_1 w12 (by decide) <| Runs.iloadN d31_4 rfl <| ?_
  refine chk_el hf fun hi14 hf => ?_
  refine Runs.ialoadA d31_5 fA_1 (by decide) hi14 <| Runs.istoreN (P' := [vr a, vi i1, vi (gA ob 1 i1), vn, vn, vn]) d31_6 (by decide) rfl <| Runs.aloadN d31_7 rfl <| Runs.getA d31_8 fA_4 w18 (by decide) <| Runs.iloadN d31_11 rfl <| ?_
  refine chk_el hf fun hi15 hf => ?_
  refine Runs.ialoadA d31_12 fA_4 (by decide) hi15 <| Runs.iconst d31_13 ci_1 <| Runs.iadd d31_14 <| Runs.istoreN (P' := [vr a, vi i1, vi (gA ob 1 i1), vi ((gA ob 4 i1) + (1 : Int32)), vn, vn]) d31_15 (by decide) rfl <| Runs.iloadN d31_16 rfl <| Runs.iconst d31_17 ci_1 <| ?_
  refine ite_el hf (fun hc16 hf => ?_) (fun hc16 hf => ?_)
  · refine Runs.icN d31_18 (tlt hc16).2.1 <| ?_
    exact Runs.iconst d31_21 ci_1 <| Runs.istoreN (P' := [vr a, vi i1, vi (gA ob 1 i1), vi (1 : Int32), vn, vn]) d31_22 (by decide) rfl <| Runs.iloadN d31_23 rfl <| Runs.istore (P' := [vr a, vi i1, vi (gA ob 1 i1), vi (1 : Int32), vi (1 : Int32), vn]) d31_24 (by decide) rfl <| Runs.forget [true, true, true, false, true, false] rfl <| X_emitTransaction_l26_p NF ob i1 (gA ob 1 i1) (1 : Int32) hf
  · refine Runs.icY (pc' := 23) d31_18 (flt hc16).2.1 (by decide) <| ?_
    exact Runs.iloadN d31_23 rfl <| Runs.istore (P' := [vr a, vi i1, vi (gA ob 1 i1), vi ((gA ob 4 i1) + (1 : Int32)), vi ((gA ob 4 i1) + (1 : Int32)), vn]) d31_24 (by decide) rfl <| Runs.forget [true, true, true, false, true, false] rfl <| X_emitTransaction_l26_p NF ob i1 (gA ob 1 i1) ((gA ob 4 i1) + (1 : Int32)) hf
theorem X_emitTransaction_pay {C : Ctx} {top : Nat} {a : Nat} {H : List (Nat × Nat × Rec)} {res : Rec} {NF : Nat} {ob : Rec} {i1 : Int32} (hf : X_emitTransaction NF ob i1 = some res) : Pays C B31 [.ref a, .int i1] (top, (a, 17, ob) :: H) (Ans none (top, (a, 17, res) :: H)) :=
  Pays.of pnK (Nat.le_of_ble_eq_true rfl) (P := [vr a, vi i1, vn, vn, vn, vn]) 4 rfl (X_emitTransaction_p ob i1 hf)
def X_stream_w10 (NF : Nat) (k10 : Rec → Int32 → Int32 → Int32 → Option (Int32 × Rec)) (ob : Rec) (i1 : Int32) (i2 : Int32) (i3 : Int32) : Option (Int32 × Rec) :=
  if i3 < (129 : Int32) then
    if i2 < i1 then
      (X_nextCommit NF ob (gI ob 5)).bind fun r3 =>
      if r3 = (0 : Int32) then
        some (i2, ob)
      else
        (X_emitTransaction NF ob r3).bind fun q6 =>
        k10 (sI q6 5 r3) i1 (i2 + (1 : Int32)) (i3 + (1 : Int32))
    else
      some (i2, ob)
  else
    some (i2, ob)
def X_stream_l10 (NF : Nat) : Nat → Rec → Int32 → Int32 → Int32 → Option (Int32 × Rec)
  | 0, _, _, _, _ => none
  | n + 1, ob, i1, i2, i3 => X_stream_w10 NF (X_stream_l10 NF n) ob i1 i2 i3
set_option maxRecDepth 65536 in
set_option maxHeartbeats 4000000 in
theorem X_stream_w10_p {C : Ctx} {top : Nat} {a : Nat} {H : List (Nat × Nat × Rec)} {res : Int32 × Rec} {NF : Nat} (k10 : Rec → Int32 → Int32 → Int32 → Option (Int32 × Rec)) (hk10 : ∀ (ob : Rec) (i1 : Int32) (i2 : Int32) (i3 : Int32), k10 ob i1 i2 i3 = some res → Runs C B23 0 0 10 [vr a, vi i1, vi i2, vi i3, vn] [] (top, (a, 17, ob) :: H) (Ans (some (.int res.1)) (top, (a, 17, res.2) :: H))) (ob : Rec) (i1 : Int32) (i2 : Int32) (i3 : Int32) (hf : X_stream_w10 NF k10 ob i1 i2 i3 = some res) : Runs C B23 0 0 10 [vr a, vi i1, vi i2, vi i3, vn] [] (top, (a, 17, ob) :: H) (Ans (some (.int res.1)) (top, (a, 17, res.2) :: H)) := by
  delta X_stream_w10 at hf
  refine Runs.iloadN d23_10 rfl <| Runs.sipush d23_11 cs_129 <| ?_
  refine ite_el hf (fun hc1 hf => ?_) (fun hc1 hf => ?_)
  · refine Runs.icN d23_14 (tlt hc1).2.1 <| ?_
    refine Runs.iloadN d23_17 rfl <| Runs.iloadN d23_18 rfl <| ?_
    refine ite_el hf (fun hc2 hf => ?_) (fun hc2 hf => ?_)
    · refine Runs.icN d23_19 (tlt hc2).2.1 <| ?_
      refine Runs.aloadN d23_22 rfl <| Runs.aloadN d23_23 rfl <| Runs.getI d23_24 w59 fS_5 <| ?_
      refine bind_el hf fun r3 hg4 hf => ?_
      refine Runs.callP (N := B24) (W := 0) (as := [.int (gI ob 5)]) (S' := []) d23_27 w167 w168 w169 rfl cw24 ar24 rk23_24_0 (by decide) rfl rfl (X_nextCommit_pay hg4) <| ans1 <| Runs.istore (P' := [vr a, vi i1, vi i2, vi i3, vi r3]) d23_30 (by decide) rfl <| Runs.iload d23_32 rfl <| ?_
      refine ite_el hf (fun hc5 hf => ?_) (fun hc5 hf => ?_)
      · refine Runs.ifN d23_34 (teq hc5).2 <| ?_
        obtain rfl := Option.some.inj hf
        exact Runs.goto (pc' := 61) d23_37 (by decide) <| Runs.iloadN d23_61 rfl <| Runs.retI d23_62 rfl ⟨by decide, by decide⟩ ⟨rfl, rfl⟩
      · refine Runs.ifY (pc' := 40) d23_34 (feq hc5).2 (by decide) <| ?_
        refine Runs.aloadN d23_40 rfl <| Runs.iload d23_41 rfl <| ?_
        refine bind_el hf fun q6 hg7 hf => ?_
        exact Runs.callP (N := B31) (W := 0) (as := [.int r3]) (S' := []) d23_43 w195 w196 w197 rfl cw31 ar31 rk23_31_0 (by decide) rfl rfl (X_emitTransaction_pay hg7) <| ans0 <| Runs.aloadN d23_46 rfl <| Runs.iload d23_47 rfl <| Runs.putI d23_49 w59 fS_5 (Or.inl w60) <| Runs.iinc (P' := [vr a, vi i1, vi (i2 + (1 : Int32)), vi i3, vi r3]) d23_52 ci_1 rfl (by decide) rfl <| Runs.iinc (P' := [vr a, vi i1, vi (i2 + (1 : Int32)), vi (i3 + (1 : Int32)), vi r3]) d23_55 ci_1 rfl (by decide) rfl <| Runs.goto (pc' := 10) d23_58 (by decide) <| Runs.forget [true, true, true, true, false] rfl <| hk10 (sI q6 5 r3) i1 (i2 + (1 : Int32)) (i3 + (1 : Int32)) hf
    · refine Runs.icY (pc' := 61) d23_19 (flt hc2).2.1 (by decide) <| ?_
      obtain rfl := Option.some.inj hf
      exact Runs.iloadN d23_61 rfl <| Runs.retI d23_62 rfl ⟨by decide, by decide⟩ ⟨rfl, rfl⟩
  · refine Runs.icY (pc' := 61) d23_14 (flt hc1).2.1 (by decide) <| ?_
    obtain rfl := Option.some.inj hf
    exact Runs.iloadN d23_61 rfl <| Runs.retI d23_62 rfl ⟨by decide, by decide⟩ ⟨rfl, rfl⟩
theorem X_stream_l10_p {C : Ctx} {top : Nat} {a : Nat} {H : List (Nat × Nat × Rec)} {res : Int32 × Rec} {NF : Nat} (n : Nat) (ob : Rec) (i1 : Int32) (i2 : Int32) (i3 : Int32) (hf : X_stream_l10 NF n ob i1 i2 i3 = some res) : Runs C B23 0 0 10 [vr a, vi i1, vi i2, vi i3, vn] [] (top, (a, 17, ob) :: H) (Ans (some (.int res.1)) (top, (a, 17, res.2) :: H)) := by
  induction n generalizing ob i1 i2 i3 with
  | zero => cases (show (none : Option (Int32 × Rec)) = some res from hf)
  | succ n ih => exact X_stream_w10_p (X_stream_l10 NF n) (fun ob i1 i2 i3 h => ih _ _ _ _ h) ob i1 i2 i3 hf
def X_stream (NF : Nat) (ob : Rec) (i1 : Int32) : Option (Int32 × Rec) :=
  if (0 : Int32) < i1 then
    X_stream_l10 NF NF ob i1 (0 : Int32) (0 : Int32)
  else
    some ((0 : Int32), ob)
set_option maxRecDepth 65536 in
set_option maxHeartbeats 4000000 in
theorem X_stream_p {C : Ctx} {top : Nat} {a : Nat} {H : List (Nat × Nat × Rec)} {res : Int32 × Rec} {NF : Nat} (ob : Rec) (i1 : Int32) (hf : X_stream NF ob i1 = some res) : Runs C B23 0 0 0 [vr a, vi i1, vn, vn, vn] [] (top, (a, 17, ob) :: H) (Ans (some (.int res.1)) (top, (a, 17, res.2) :: H)) := by
  delta X_stream at hf
  refine Runs.iloadN d23_0 rfl <| ?_
  refine ite_el hf (fun hc8 hf => ?_) (fun hc8 hf => ?_)
  · refine Runs.ifY (pc' := 6) d23_1 (tlt hc8).2.2.1 (by decide) <| ?_
    exact Runs.iconst d23_6 ci_0 <| Runs.istoreN (P' := [vr a, vi i1, vi (0 : Int32), vn, vn]) d23_7 (by decide) rfl <| Runs.iconst d23_8 ci_0 <| Runs.istoreN (P' := [vr a, vi i1, vi (0 : Int32), vi (0 : Int32), vn]) d23_9 (by decide) rfl <| X_stream_l10_p NF ob i1 (0 : Int32) (0 : Int32) hf
  · refine Runs.ifN d23_1 (flt hc8).2.2.1 <| ?_
    obtain rfl := Option.some.inj hf
    exact Runs.iconst d23_4 ci_0 <| Runs.retI d23_5 rfl ⟨by decide, by decide⟩ ⟨rfl, rfl⟩
theorem X_stream_pay {C : Ctx} {top : Nat} {a : Nat} {H : List (Nat × Nat × Rec)} {res : Int32 × Rec} {NF : Nat} {ob : Rec} {i1 : Int32} (hf : X_stream NF ob i1 = some res) : Pays C B23 [.ref a, .int i1] (top, (a, 17, ob) :: H) (Ans (some (.int res.1)) (top, (a, 17, res.2) :: H)) :=
  Pays.of pnK (Nat.le_of_ble_eq_true rfl) (P := [vr a, vi i1, vn, vn, vn]) 3 rfl (X_stream_p ob i1 hf)
def X_applyPending_w2 (NF : Nat) (k2 : Rec → Int32 → Option (Rec)) (ob : Rec) (i1 : Int32) : Option (Rec) :=
  if i1 < (gI ob 0) then
    if i1 < (32 : Int32) then
      chk (32 : Int32) i1 <|
      if (gA ob 11 i1) = (1 : Int32) then
        chk (32 : Int32) i1 <|
        chk (32 : Int32) i1 <|
        chk (32 : Int32) i1 <|
        chk (32 : Int32) i1 <|
        chk (32 : Int32) i1 <|
        k2 (sA (sA (sA (sA ob 9 i1 (1 : Int32)) 10 i1 (gA ob 12 i1)) 11 i1 (0 : Int32)) 12 i1 (0 : Int32)) (i1 + (1 : Int32))
      else
        chk (32 : Int32) i1 <|
        if (gA ob 11 i1) = (2 : Int32) then
          chk (32 : Int32) i1 <|
          chk (32 : Int32) i1 <|
          chk (32 : Int32) i1 <|
          k2 (sA (sA (sA ob 9 i1 (0 : Int32)) 11 i1 (0 : Int32)) 12 i1 (0 : Int32)) (i1 + (1 : Int32))
        else
          chk (32 : Int32) i1 <|
          chk (32 : Int32) i1 <|
          k2 (sA (sA ob 11 i1 (0 : Int32)) 12 i1 (0 : Int32)) (i1 + (1 : Int32))
    else
      some ob
  else
    some ob
def X_applyPending_l2 (NF : Nat) : Nat → Rec → Int32 → Option (Rec)
  | 0, _, _ => none
  | n + 1, ob, i1 => X_applyPending_w2 NF (X_applyPending_l2 NF n) ob i1
set_option maxRecDepth 65536 in
set_option maxHeartbeats 4000000 in
theorem X_applyPending_w2_p {C : Ctx} {top : Nat} {a : Nat} {H : List (Nat × Nat × Rec)} {res : Rec} {NF : Nat} (k2 : Rec → Int32 → Option (Rec)) (hk2 : ∀ (ob : Rec) (i1 : Int32), k2 ob i1 = some res → Runs C B35 0 0 2 [vr a, vi i1] [] (top, (a, 17, ob) :: H) (Ans none (top, (a, 17, res) :: H))) (ob : Rec) (i1 : Int32) (hf : X_applyPending_w2 NF k2 ob i1 = some res) : Runs C B35 0 0 2 [vr a, vi i1] [] (top, (a, 17, ob) :: H) (Ans none (top, (a, 17, res) :: H)) := by
  delta X_applyPending_w2 at hf
  refine Runs.iloadN d35_2 rfl <| Runs.aloadN d35_3 rfl <| Runs.getI d35_4 w49 fS_0 <| ?_
  refine ite_el hf (fun hc1 hf => ?_) (fun hc1 hf => ?_)
  · refine Runs.icN d35_7 (tlt hc1).2.1 <| ?_
    refine Runs.iloadN d35_10 rfl <| Runs.bipush d35_11 cb_32 <| ?_
    refine ite_el hf (fun hc2 hf => ?_) (fun hc2 hf => ?_)
    · refine Runs.icN d35_13 (tlt hc2).2.1 <| ?_
      refine Runs.aloadN d35_16 rfl <| Runs.getA d35_17 fA_11 w33 (by decide) <| Runs.iloadN d35_20 rfl <| ?_
      refine chk_el hf fun hi3 hf => ?_
      refine Runs.ialoadA d35_21 fA_11 (by decide) hi3 <| Runs.iconst d35_22 ci_1 <| ?_
      refine ite_el hf (fun hc4 hf => ?_) (fun hc4 hf => ?_)
      · refine Runs.icN d35_23 (teq hc4).2 <| ?_
        refine Runs.aloadN d35_26 rfl <| Runs.getA d35_27 fA_9 w29 (by decide) <| Runs.iloadN d35_30 rfl <| Runs.iconst d35_31 ci_1 <| ?_
        refine chk_el hf fun hi5 hf => ?_
        refine Runs.bastoreA (y := (1 : Int32)) d35_32 fA_9 (by decide) hi5 rfl <| Runs.aloadN d35_33 rfl <| Runs.getA d35_34 fA_10 w31 (by decide) <| Runs.iloadN d35_37 rfl <| Runs.aloadN d35_38 rfl <| Runs.getA d35_39 fA_12 w35 (by decide) <| Runs.iloadN d35_42 rfl <| ?_
        refine chk_el hf fun hi6 hf => ?_
        refine Runs.ialoadA d35_43 fA_12 (by decide) hi6 <| ?_
        refine chk_el hf fun hi7 hf => ?_
        refine Runs.iastoreA d35_44 fA_10 (by decide) hi7 <| Runs.goto (pc' := 65) d35_45 (by decide) <| Runs.aloadN d35_65 rfl <| Runs.getA d35_66 fA_11 w33 (by decide) <| Runs.iloadN d35_69 rfl <| Runs.iconst d35_70 ci_0 <| ?_
        refine chk_el hf fun hi8 hf => ?_
        refine Runs.iastoreA d35_71 fA_11 (by decide) hi8 <| Runs.aloadN d35_72 rfl <| Runs.getA d35_73 fA_12 w35 (by decide) <| Runs.iloadN d35_76 rfl <| Runs.iconst d35_77 ci_0 <| ?_
        refine chk_el hf fun hi9 hf => ?_
        exact Runs.iastoreA d35_78 fA_12 (by decide) hi9 <| Runs.iinc (P' := [vr a, vi (i1 + (1 : Int32))]) d35_79 ci_1 rfl (by decide) rfl <| Runs.goto (pc' := 2) d35_82 (by decide) <| hk2 (sA (sA (sA (sA ob 9 i1 (1 : Int32)) 10 i1 (gA ob 12 i1)) 11 i1 (0 : Int32)) 12 i1 (0 : Int32)) (i1 + (1 : Int32)) hf
      · refine Runs.icY (pc' := 48) d35_23 (feq hc4).2 (by decide) <| ?_
        refine Runs.aloadN d35_48 rfl <| Runs.getA d35_49 fA_11 w33 (by decide) <| Runs.iloadN d35_52 rfl <| ?_
        refine chk_el hf fun hi10 hf => ?_
        refine Runs.ialoadA d35_53 fA_11 (by decide) hi10 <| Runs.iconst d35_54 ci_2 <| ?_
        refine ite_el hf (fun hc11 hf => ?_) (fun hc11 hf => ?_)
        · refine Runs.icN d35_55 (teq hc11).2 <| ?_
          refine Runs.aloadN d35_58 rfl <| Runs.getA d35_59 fA_9 w29 (by decide) <| Runs.iloadN d35_62 rfl <| Runs.iconst d35_63 ci_0 <| ?_
          refine chk_el hf fun hi12 hf => ?_
          refine Runs.bastoreA (y := (0 : Int32)) d35_64 fA_9 (by decide) hi12 rfl <| Runs.aloadN d35_65 rfl <| Runs.getA d35_66 fA_11 w33 (by decide) <| Runs.iloadN d35_69 rfl <| Runs.iconst d35_70 ci_0 <| ?_
          refine chk_el hf fun hi13 hf => ?_
          refine Runs.iastoreA d35_71 fA_11 (by decide) hi13 <| Runs.aloadN d35_72 rfl <| Runs.getA d35_73 fA_12 w35 (by decide) <| Runs.iloadN d35_76 rfl <| Runs.iconst d35_77 ci_0 <| ?_
          refine chk_el hf fun hi14 hf => ?_
          exact Runs.iastoreA d35_78 fA_12 (by decide) hi14 <| Runs.iinc (P' := [vr a, vi (i1 + (1 : Int32))]) d35_79 ci_1 rfl (by decide) rfl <| Runs.goto (pc' := 2) d35_82 (by decide) <| hk2 (sA (sA (sA ob 9 i1 (0 : Int32)) 11 i1 (0 : Int32)) 12 i1 (0 : Int32)) (i1 + (1 : Int32)) hf
        · refine Runs.icY (pc' := 65) d35_55 (feq hc11).2 (by decide) <| ?_
          refine Runs.aloadN d35_65 rfl <| Runs.getA d35_66 fA_11 w33 (by decide) <| Runs.iloadN d35_69 rfl <| Runs.iconst d35_70 ci_0 <| ?_
          refine chk_el hf fun hi15 hf => ?_
          refine Runs.iastoreA d35_71 fA_11 (by decide) hi15 <| Runs.aloadN d35_72 rfl <| Runs.getA d35_73 fA_12 w35 (by decide) <| Runs.iloadN d35_76 rfl <| Runs.iconst d35_77 ci_0 <| ?_
          refine chk_el hf fun hi16 hf => ?_
          exact Runs.iastoreA d35_78 fA_12 (by decide) hi16 <| Runs.iinc (P' := [vr a, vi (i1 + (1 : Int32))]) d35_79 ci_1 rfl (by decide) rfl <| Runs.goto (pc' := 2) d35_82 (by decide) <| hk2 (sA (sA ob 11 i1 (0 : Int32)) 12 i1 (0 : Int32)) (i1 + (1 : Int32)) hf
    · refine Runs.icY (pc' := 85) d35_13 (flt hc2).2.1 (by decide) <| ?_
      obtain rfl := Option.some.inj hf
      exact Runs.retV d35_85 rfl ⟨by decide, by decide⟩ ⟨rfl, rfl⟩
  · refine Runs.icY (pc' := 85) d35_7 (flt hc1).2.1 (by decide) <| ?_
    obtain rfl := Option.some.inj hf
    exact Runs.retV d35_85 rfl ⟨by decide, by decide⟩ ⟨rfl, rfl⟩
theorem X_applyPending_l2_p {C : Ctx} {top : Nat} {a : Nat} {H : List (Nat × Nat × Rec)} {res : Rec} {NF : Nat} (n : Nat) (ob : Rec) (i1 : Int32) (hf : X_applyPending_l2 NF n ob i1 = some res) : Runs C B35 0 0 2 [vr a, vi i1] [] (top, (a, 17, ob) :: H) (Ans none (top, (a, 17, res) :: H)) := by
  induction n generalizing ob i1 with
  | zero => cases (show (none : Option (Rec)) = some res from hf)
  | succ n ih => exact X_applyPending_w2_p (X_applyPending_l2 NF n) (fun ob i1 h => ih _ _ h) ob i1 hf
def X_applyPending (NF : Nat) (ob : Rec) : Option (Rec) :=
  X_applyPending_l2 NF NF ob (0 : Int32)
set_option maxRecDepth 65536 in
set_option maxHeartbeats 4000000 in
theorem X_applyPending_p {C : Ctx} {top : Nat} {a : Nat} {H : List (Nat × Nat × Rec)} {res : Rec} {NF : Nat} (ob : Rec) (hf : X_applyPending NF ob = some res) : Runs C B35 0 0 0 [vr a, vn] [] (top, (a, 17, ob) :: H) (Ans none (top, (a, 17, res) :: H)) := by
  delta X_applyPending at hf
  exact Runs.iconst d35_0 ci_0 <| Runs.istoreN (P' := [vr a, vi (0 : Int32)]) d35_1 (by decide) rfl <| X_applyPending_l2_p NF ob (0 : Int32) hf
theorem X_applyPending_pay {C : Ctx} {top : Nat} {a : Nat} {H : List (Nat × Nat × Rec)} {res : Rec} {NF : Nat} {ob : Rec} (hf : X_applyPending NF ob = some res) : Pays C B35 [.ref a] (top, (a, 17, ob) :: H) (Ans none (top, (a, 17, res) :: H)) :=
  Pays.of pnK (Nat.le_of_ble_eq_true rfl) (P := [vr a, vn]) 1 rfl (X_applyPending_p ob hf)
def X_handleHead_b18 (NF : Nat) (ob : Rec) (i1 : Int32) : Option (Rec) :=
  chk (128 : Int32) i1 <|
  chk (128 : Int32) i1 <|
  chk (128 : Int32) i1 <|
  chk (128 : Int32) i1 <|
  if (gI ob 6) < (gA ob 16 i1) then
    if (gA ob 13 i1) = (4 : Int32) then
      (X_applyPending NF (sI (sI ob 8 ((i1 + (1 : Int32)) % (128 : Int32))) 9 ((gI ob 9) - (1 : Int32)))).bind fun q7 =>
      some (sI q7 6 (gA ob 16 i1))
    else
      if (gA ob 14 i1) < (0 : Int32) then
        some (sI (sI ob 8 ((i1 + (1 : Int32)) % (128 : Int32))) 9 ((gI ob 9) - (1 : Int32)))
      else
        if (gA ob 14 i1) < (32 : Int32) then
          if (gA ob 13 i1) = (2 : Int32) then
            chk (32 : Int32) (gA ob 14 i1) <|
            chk (32 : Int32) (gA ob 14 i1) <|
            some (sA (sA (sI (sI ob 8 ((i1 + (1 : Int32)) % (128 : Int32))) 9 ((gI ob 9) - (1 : Int32))) 11 (gA ob 14 i1) (1 : Int32)) 12 (gA ob 14 i1) (gA ob 15 i1))
          else
            if (gA ob 13 i1) = (3 : Int32) then
              chk (32 : Int32) (gA ob 14 i1) <|
              chk (32 : Int32) (gA ob 14 i1) <|
              some (sA (sA (sI (sI ob 8 ((i1 + (1 : Int32)) % (128 : Int32))) 9 ((gI ob 9) - (1 : Int32))) 11 (gA ob 14 i1) (2 : Int32)) 12 (gA ob 14 i1) (0 : Int32))
            else
              some (sI (sI ob 8 ((i1 + (1 : Int32)) % (128 : Int32))) 9 ((gI ob 9) - (1 : Int32)))
        else
          some (sI (sI ob 8 ((i1 + (1 : Int32)) % (128 : Int32))) 9 ((gI ob 9) - (1 : Int32)))
  else
    some (sI (sI ob 8 ((i1 + (1 : Int32)) % (128 : Int32))) 9 ((gI ob 9) - (1 : Int32)))
set_option maxRecDepth 65536 in
set_option maxHeartbeats 4000000 in
theorem X_handleHead_b18_p {C : Ctx} {top : Nat} {a : Nat} {H : List (Nat × Nat × Rec)} {res : Rec} {NF : Nat} (ob : Rec) (i1 : Int32) (hf : X_handleHead_b18 NF ob i1 = some res) : Runs C B34 0 0 18 [vr a, vi i1, vn, vn, vn, vn] [] (top, (a, 17, ob) :: H) (Ans none (top, (a, 17, res) :: H)) := by
  delta X_handleHead_b18 at hf
  refine Runs.aloadN d34_18 rfl <| Runs.getA d34_19 fA_13 w37 (by decide) <| Runs.iloadN d34_22 rfl <| ?_
  refine chk_el hf fun hi1 hf => ?_
  refine Runs.ialoadA d34_23 fA_13 (by decide) hi1 <| Runs.istoreN (P' := [vr a, vi i1, vi (gA ob 13 i1), vn, vn, vn]) d34_24 (by decide) rfl <| Runs.aloadN d34_25 rfl <| Runs.getA d34_26 fA_14 w39 (by decide) <| Runs.iloadN d34_29 rfl <| ?_
  refine chk_el hf fun hi2 hf => ?_
  refine Runs.ialoadA d34_30 fA_14 (by decide) hi2 <| Runs.istoreN (P' := [vr a, vi i1, vi (gA ob 13 i1), vi (gA ob 14 i1), vn, vn]) d34_31 (by decide) rfl <| Runs.aloadN d34_32 rfl <| Runs.getA d34_33 fA_15 w41 (by decide) <| Runs.iloadN d34_36 rfl <| ?_
  refine chk_el hf fun hi3 hf => ?_
  refine Runs.ialoadA d34_37 fA_15 (by decide) hi3 <| Runs.istore (P' := [vr a, vi i1, vi (gA ob 13 i1), vi (gA ob 14 i1), vi (gA ob 15 i1), vn]) d34_38 (by decide) rfl <| Runs.aloadN d34_40 rfl <| Runs.getA d34_41 fA_16 w43 (by decide) <| Runs.iloadN d34_44 rfl <| ?_
  refine chk_el hf fun hi4 hf => ?_
  refine Runs.ialoadA d34_45 fA_16 (by decide) hi4 <| Runs.istore (P' := [vr a, vi i1, vi (gA ob 13 i1), vi (gA ob 14 i1), vi (gA ob 15 i1), vi (gA ob 16 i1)]) d34_46 (by decide) rfl <| Runs.aloadN d34_48 rfl <| Runs.iloadN d34_49 rfl <| Runs.iconst d34_50 ci_1 <| Runs.iadd d34_51 <| Runs.sipush d34_52 cs_128 <| Runs.irem d34_55 (by decide) <| Runs.putI d34_56 w65 fS_8 (Or.inl w66) <| Runs.aloadN d34_59 rfl <| Runs.dup d34_60 rfl <| Runs.getI d34_61 w67 fS_9 <| ?_
  refine Runs.iconst d34_64 ci_1 <| Runs.isub d34_65 <| Runs.putI d34_66 w67 fS_9 (Or.inl w68) <| Runs.iload d34_69 rfl <| Runs.aloadN d34_71 rfl <| Runs.getI d34_72 w61 fS_6 <| ?_
  refine ite_el hf (fun hc5 hf => ?_) (fun hc5 hf => ?_)
  · refine Runs.icY (pc' := 79) d34_75 (tlt hc5).2.2.1 (by decide) <| ?_
    refine Runs.iloadN d34_79 rfl <| Runs.iconst d34_80 ci_4 <| ?_
    refine ite_el hf (fun hc6 hf => ?_) (fun hc6 hf => ?_)
    · refine Runs.icN d34_81 (teq hc6).2 <| ?_
      refine Runs.aloadN d34_84 rfl <| ?_
      refine bind_el hf fun q7 hg8 hf => ?_
      obtain rfl := Option.some.inj hf
      exact Runs.callP (N := B35) (W := 0) (as := []) (S' := []) d34_85 w212 w213 w214 rfl cw35 ar35 rk34_35_0 (by decide) rfl rfl (X_applyPending_pay hg8) <| ans0 <| Runs.aloadN d34_88 rfl <| Runs.iload d34_89 rfl <| Runs.putI d34_91 w61 fS_6 (Or.inl w62) <| Runs.retV d34_94 rfl ⟨by decide, by decide⟩ ⟨rfl, rfl⟩
    · refine Runs.icY (pc' := 95) d34_81 (feq hc6).2 (by decide) <| ?_
      refine Runs.iloadN d34_95 rfl <| ?_
      refine ite_el hf (fun hc9 hf => ?_) (fun hc9 hf => ?_)
      · refine Runs.ifY (pc' := 105) d34_96 (tlt hc9).1 (by decide) <| ?_
        obtain rfl := Option.some.inj hf
        exact Runs.retV d34_105 rfl ⟨by decide, by decide⟩ ⟨rfl, rfl⟩
      · refine Runs.ifN d34_96 (flt hc9).1 <| ?_
        refine Runs.iloadN d34_99 rfl <| Runs.bipush d34_100 cb_32 <| ?_
        refine ite_el hf (fun hc10 hf => ?_) (fun hc10 hf => ?_)
        · refine Runs.icY (pc' := 106) d34_102 (tlt hc10).1 (by decide) <| ?_
          refine Runs.iloadN d34_106 rfl <| Runs.iconst d34_107 ci_2 <| ?_
          refine ite_el hf (fun hc11 hf => ?_) (fun hc11 hf => ?_)
          · refine Runs.icN d34_108 (teq hc11).2 <| ?_
            refine Runs.aloadN d34_111 rfl <| Runs.getA d34_112 fA_11 w33 (by decide) <| Runs.iloadN d34_115 rfl <| Runs.iconst d34_116 ci_1 <| ?_
            refine chk_el hf fun hi12 hf => ?_
            refine Runs.iastoreA d34_117 fA_11 (by decide) hi12 <| Runs.aloadN d34_118 rfl <| Runs.getA d34_119 fA_12 w35 (by decide) <| Runs.iloadN d34_122 rfl <| Runs.iload d34_123 rfl <| ?_
            refine chk_el hf fun hi13 hf => ?_
            obtain rfl := Option.some.inj hf
            exact Runs.iastoreA d34_125 fA_12 (by decide) hi13 <| Runs.goto (pc' := 148) d34_126 (by decide) <| Runs.retV d34_148 rfl ⟨by decide, by decide⟩ ⟨rfl, rfl⟩
          · refine Runs.icY (pc' := 129) d34_108 (feq hc11).2 (by decide) <| ?_
            refine Runs.iloadN d34_129 rfl <| Runs.iconst d34_130 ci_3 <| ?_
            refine ite_el hf (fun hc14 hf => ?_) (fun hc14 hf => ?_)
            · refine Runs.icN d34_131 (teq hc14).2 <| ?_
              refine Runs.aloadN d34_134 rfl <| Runs.getA d34_135 fA_11 w33 (by decide) <| Runs.iloadN d34_138 rfl <| Runs.iconst d34_139 ci_2 <| ?_
              refine chk_el hf fun hi15 hf => ?_
              refine Runs.iastoreA d34_140 fA_11 (by decide) hi15 <| Runs.aloadN d34_141 rfl <| Runs.getA d34_142 fA_12 w35 (by decide) <| Runs.iloadN d34_145 rfl <| Runs.iconst d34_146 ci_0 <| ?_
              refine chk_el hf fun hi16 hf => ?_
              obtain rfl := Option.some.inj hf
              exact Runs.iastoreA d34_147 fA_12 (by decide) hi16 <| Runs.retV d34_148 rfl ⟨by decide, by decide⟩ ⟨rfl, rfl⟩
            · refine Runs.icY (pc' := 148) d34_131 (feq hc14).2 (by decide) <| ?_
              obtain rfl := Option.some.inj hf
              exact Runs.retV d34_148 rfl ⟨by decide, by decide⟩ ⟨rfl, rfl⟩
        · refine Runs.icN d34_102 (flt hc10).1 <| ?_
          obtain rfl := Option.some.inj hf
          exact Runs.retV d34_105 rfl ⟨by decide, by decide⟩ ⟨rfl, rfl⟩
  · refine Runs.icN d34_75 (flt hc5).2.2.1 <| ?_
    obtain rfl := Option.some.inj hf
    exact Runs.retV d34_78 rfl ⟨by decide, by decide⟩ ⟨rfl, rfl⟩
def X_handleHead (NF : Nat) (ob : Rec) : Option (Rec) :=
  if (gI ob 8) < (0 : Int32) then
    X_handleHead_b18 NF ob (0 : Int32)
  else
    if (gI ob 8) < (128 : Int32) then
      X_handleHead_b18 NF ob (gI ob 8)
    else
      X_handleHead_b18 NF ob (0 : Int32)
set_option maxRecDepth 65536 in
set_option maxHeartbeats 4000000 in
theorem X_handleHead_p {C : Ctx} {top : Nat} {a : Nat} {H : List (Nat × Nat × Rec)} {res : Rec} {NF : Nat} (ob : Rec) (hf : X_handleHead NF ob = some res) : Runs C B34 0 0 0 [vr a, vn, vn, vn, vn, vn] [] (top, (a, 17, ob) :: H) (Ans none (top, (a, 17, res) :: H)) := by
  delta X_handleHead at hf
  refine Runs.aloadN d34_0 rfl <| Runs.getI d34_1 w65 fS_8 <| Runs.istoreN (P' := [vr a, vi (gI ob 8), vn, vn, vn, vn]) d34_4 (by decide) rfl <| Runs.iloadN d34_5 rfl <| ?_
  refine ite_el hf (fun hc17 hf => ?_) (fun hc17 hf => ?_)
  · refine Runs.ifY (pc' := 16) d34_6 (tlt hc17).1 (by decide) <| ?_
    exact Runs.iconst d34_16 ci_0 <| Runs.istoreN (P' := [vr a, vi (0 : Int32), vn, vn, vn, vn]) d34_17 (by decide) rfl <| X_handleHead_b18_p ob (0 : Int32) hf
  · refine Runs.ifN d34_6 (flt hc17).1 <| ?_
    refine Runs.iloadN d34_9 rfl <| Runs.sipush d34_10 cs_128 <| ?_
    refine ite_el hf (fun hc18 hf => ?_) (fun hc18 hf => ?_)
    · exact Runs.icY (pc' := 18) d34_13 (tlt hc18).1 (by decide) <| X_handleHead_b18_p ob (gI ob 8) hf
    · refine Runs.icN d34_13 (flt hc18).1 <| ?_
      exact Runs.iconst d34_16 ci_0 <| Runs.istoreN (P' := [vr a, vi (0 : Int32), vn, vn, vn, vn]) d34_17 (by decide) rfl <| X_handleHead_b18_p ob (0 : Int32) hf
theorem X_handleHead_pay {C : Ctx} {top : Nat} {a : Nat} {H : List (Nat × Nat × Rec)} {res : Rec} {NF : Nat} {ob : Rec} (hf : X_handleHead NF ob = some res) : Pays C B34 [.ref a] (top, (a, 17, ob) :: H) (Ans none (top, (a, 17, res) :: H)) :=
  Pays.of pnK (Nat.le_of_ble_eq_true rfl) (P := [vr a, vn, vn, vn, vn, vn]) 5 rfl (X_handleHead_p ob hf)
def X_apply_w10 (NF : Nat) (k10 : Rec → Int32 → Int32 → Int32 → Option (Int32 × Rec)) (ob : Rec) (i1 : Int32) (i2 : Int32) (i3 : Int32) : Option (Int32 × Rec) :=
  if (128 : Int32) < i3 then
    some (i2, ob)
  else
    if i2 < i1 then
      if (0 : Int32) < (gI ob 9) then
        (X_handleHead NF ob).bind fun q4 =>
        k10 q4 i1 (i2 + (1 : Int32)) (i3 + (1 : Int32))
      else
        some (i2, ob)
    else
      some (i2, ob)
def X_apply_l10 (NF : Nat) : Nat → Rec → Int32 → Int32 → Int32 → Option (Int32 × Rec)
  | 0, _, _, _, _ => none
  | n + 1, ob, i1, i2, i3 => X_apply_w10 NF (X_apply_l10 NF n) ob i1 i2 i3
set_option maxRecDepth 65536 in
set_option maxHeartbeats 4000000 in
theorem X_apply_w10_p {C : Ctx} {top : Nat} {a : Nat} {H : List (Nat × Nat × Rec)} {res : Int32 × Rec} {NF : Nat} (k10 : Rec → Int32 → Int32 → Int32 → Option (Int32 × Rec)) (hk10 : ∀ (ob : Rec) (i1 : Int32) (i2 : Int32) (i3 : Int32), k10 ob i1 i2 i3 = some res → Runs C B18 0 0 10 [vr a, vi i1, vi i2, vi i3] [] (top, (a, 17, ob) :: H) (Ans (some (.int res.1)) (top, (a, 17, res.2) :: H))) (ob : Rec) (i1 : Int32) (i2 : Int32) (i3 : Int32) (hf : X_apply_w10 NF k10 ob i1 i2 i3 = some res) : Runs C B18 0 0 10 [vr a, vi i1, vi i2, vi i3] [] (top, (a, 17, ob) :: H) (Ans (some (.int res.1)) (top, (a, 17, res.2) :: H)) := by
  delta X_apply_w10 at hf
  refine Runs.iloadN d18_10 rfl <| Runs.sipush d18_11 cs_128 <| ?_
  refine ite_el hf (fun hc1 hf => ?_) (fun hc1 hf => ?_)
  · refine Runs.icY (pc' := 42) d18_14 (tlt hc1).2.2.1 (by decide) <| ?_
    obtain rfl := Option.some.inj hf
    exact Runs.iloadN d18_42 rfl <| Runs.retI d18_43 rfl ⟨by decide, by decide⟩ ⟨rfl, rfl⟩
  · refine Runs.icN d18_14 (flt hc1).2.2.1 <| ?_
    refine Runs.iloadN d18_17 rfl <| Runs.iloadN d18_18 rfl <| ?_
    refine ite_el hf (fun hc2 hf => ?_) (fun hc2 hf => ?_)
    · refine Runs.icN d18_19 (tlt hc2).2.1 <| ?_
      refine Runs.aloadN d18_22 rfl <| Runs.getI d18_23 w67 fS_9 <| ?_
      refine ite_el hf (fun hc3 hf => ?_) (fun hc3 hf => ?_)
      · refine Runs.ifN d18_26 (tlt hc3).2.2.2 <| ?_
        refine Runs.aloadN d18_29 rfl <| ?_
        refine bind_el hf fun q4 hg5 hf => ?_
        exact Runs.callP (N := B34) (W := 0) (as := []) (S' := []) d18_30 w208 w209 w210 rfl cw34 ar34 rk18_34_0 (by decide) rfl rfl (X_handleHead_pay hg5) <| ans0 <| Runs.iinc (P' := [vr a, vi i1, vi (i2 + (1 : Int32)), vi i3]) d18_33 ci_1 rfl (by decide) rfl <| Runs.iinc (P' := [vr a, vi i1, vi (i2 + (1 : Int32)), vi (i3 + (1 : Int32))]) d18_36 ci_1 rfl (by decide) rfl <| Runs.goto (pc' := 10) d18_39 (by decide) <| hk10 q4 i1 (i2 + (1 : Int32)) (i3 + (1 : Int32)) hf
      · refine Runs.ifY (pc' := 42) d18_26 (flt hc3).2.2.2 (by decide) <| ?_
        obtain rfl := Option.some.inj hf
        exact Runs.iloadN d18_42 rfl <| Runs.retI d18_43 rfl ⟨by decide, by decide⟩ ⟨rfl, rfl⟩
    · refine Runs.icY (pc' := 42) d18_19 (flt hc2).2.1 (by decide) <| ?_
      obtain rfl := Option.some.inj hf
      exact Runs.iloadN d18_42 rfl <| Runs.retI d18_43 rfl ⟨by decide, by decide⟩ ⟨rfl, rfl⟩
theorem X_apply_l10_p {C : Ctx} {top : Nat} {a : Nat} {H : List (Nat × Nat × Rec)} {res : Int32 × Rec} {NF : Nat} (n : Nat) (ob : Rec) (i1 : Int32) (i2 : Int32) (i3 : Int32) (hf : X_apply_l10 NF n ob i1 i2 i3 = some res) : Runs C B18 0 0 10 [vr a, vi i1, vi i2, vi i3] [] (top, (a, 17, ob) :: H) (Ans (some (.int res.1)) (top, (a, 17, res.2) :: H)) := by
  induction n generalizing ob i1 i2 i3 with
  | zero => cases (show (none : Option (Int32 × Rec)) = some res from hf)
  | succ n ih => exact X_apply_w10_p (X_apply_l10 NF n) (fun ob i1 i2 i3 h => ih _ _ _ _ h) ob i1 i2 i3 hf
def X_apply (NF : Nat) (ob : Rec) (i1 : Int32) : Option (Int32 × Rec) :=
  if (0 : Int32) < i1 then
    X_apply_l10 NF NF ob i1 (0 : Int32) (0 : Int32)
  else
    some ((0 : Int32), ob)
set_option maxRecDepth 65536 in
set_option maxHeartbeats 4000000 in
theorem X_apply_p {C : Ctx} {top : Nat} {a : Nat} {H : List (Nat × Nat × Rec)} {res : Int32 × Rec} {NF : Nat} (ob : Rec) (i1 : Int32) (hf : X_apply NF ob i1 = some res) : Runs C B18 0 0 0 [vr a, vi i1, vn, vn] [] (top, (a, 17, ob) :: H) (Ans (some (.int res.1)) (top, (a, 17, res.2) :: H)) := by
  delta X_apply at hf
  refine Runs.iloadN d18_0 rfl <| ?_
  refine ite_el hf (fun hc6 hf => ?_) (fun hc6 hf => ?_)
  · refine Runs.ifY (pc' := 6) d18_1 (tlt hc6).2.2.1 (by decide) <| ?_
    exact Runs.iconst d18_6 ci_0 <| Runs.istoreN (P' := [vr a, vi i1, vi (0 : Int32), vn]) d18_7 (by decide) rfl <| Runs.iconst d18_8 ci_0 <| Runs.istoreN (P' := [vr a, vi i1, vi (0 : Int32), vi (0 : Int32)]) d18_9 (by decide) rfl <| X_apply_l10_p NF ob i1 (0 : Int32) (0 : Int32) hf
  · refine Runs.ifN d18_1 (flt hc6).2.2.1 <| ?_
    obtain rfl := Option.some.inj hf
    exact Runs.iconst d18_4 ci_0 <| Runs.retI d18_5 rfl ⟨by decide, by decide⟩ ⟨rfl, rfl⟩
theorem X_apply_pay {C : Ctx} {top : Nat} {a : Nat} {H : List (Nat × Nat × Rec)} {res : Int32 × Rec} {NF : Nat} {ob : Rec} {i1 : Int32} (hf : X_apply NF ob i1 = some res) : Pays C B18 [.ref a, .int i1] (top, (a, 17, ob) :: H) (Ans (some (.int res.1)) (top, (a, 17, res.2) :: H)) :=
  Pays.of pnK (Nat.le_of_ble_eq_true rfl) (P := [vr a, vi i1, vn, vn]) 2 rfl (X_apply_p ob i1 hf)
def X_feedback (ob : Rec) : Option (Int32 × Rec) :=
  some ((gI ob 6), (sI ob 7 (gI ob 6)))
set_option maxRecDepth 65536 in
set_option maxHeartbeats 4000000 in
theorem X_feedback_p {C : Ctx} {top : Nat} {a : Nat} {H : List (Nat × Nat × Rec)} {res : Int32 × Rec} (ob : Rec) (hf : X_feedback ob = some res) : Runs C B25 0 0 0 [vr a] [] (top, (a, 17, ob) :: H) (Ans (some (.int res.1)) (top, (a, 17, res.2) :: H)) := by
  delta X_feedback at hf
  obtain rfl := Option.some.inj hf
  exact Runs.aloadN d25_0 rfl <| Runs.aloadN d25_1 rfl <| Runs.getI d25_2 w61 fS_6 <| Runs.putI d25_5 w63 fS_7 (Or.inl w64) <| Runs.aloadN d25_8 rfl <| Runs.getI d25_9 w63 fS_7 <| Runs.retI d25_12 rfl ⟨by decide, by decide⟩ ⟨rfl, rfl⟩
theorem X_feedback_pay {C : Ctx} {top : Nat} {a : Nat} {H : List (Nat × Nat × Rec)} {res : Int32 × Rec} {ob : Rec} (hf : X_feedback ob = some res) : Pays C B25 [.ref a] (top, (a, 17, ob) :: H) (Ans (some (.int res.1)) (top, (a, 17, res.2) :: H)) :=
  Pays.of pnK (Nat.le_of_ble_eq_true rfl) (P := [vr a]) 0 rfl (X_feedback_p ob hf)
def X_clearQueue (ob : Rec) : Option (Rec) :=
  some (sI (sI ob 8 (0 : Int32)) 9 (0 : Int32))
set_option maxRecDepth 65536 in
set_option maxHeartbeats 4000000 in
theorem X_clearQueue_p {C : Ctx} {top : Nat} {a : Nat} {H : List (Nat × Nat × Rec)} {res : Rec} (ob : Rec) (hf : X_clearQueue ob = some res) : Runs C B21 0 0 0 [vr a] [] (top, (a, 17, ob) :: H) (Ans none (top, (a, 17, res) :: H)) := by
  delta X_clearQueue at hf
  obtain rfl := Option.some.inj hf
  exact Runs.aloadN d21_0 rfl <| Runs.iconst d21_1 ci_0 <| Runs.putI d21_2 w65 fS_8 (Or.inl w66) <| Runs.aloadN d21_5 rfl <| Runs.iconst d21_6 ci_0 <| Runs.putI d21_7 w67 fS_9 (Or.inl w68) <| Runs.retV d21_10 rfl ⟨by decide, by decide⟩ ⟨rfl, rfl⟩
theorem X_clearQueue_pay {C : Ctx} {top : Nat} {a : Nat} {H : List (Nat × Nat × Rec)} {res : Rec} {ob : Rec} (hf : X_clearQueue ob = some res) : Pays C B21 [.ref a] (top, (a, 17, ob) :: H) (Ans none (top, (a, 17, res) :: H)) :=
  Pays.of pnK (Nat.le_of_ble_eq_true rfl) (P := [vr a]) 0 rfl (X_clearQueue_p ob hf)
def X_clearPending_w2 (NF : Nat) (k2 : Rec → Int32 → Option (Rec)) (ob : Rec) (i1 : Int32) : Option (Rec) :=
  if i1 < (32 : Int32) then
    chk (32 : Int32) i1 <|
    chk (32 : Int32) i1 <|
    k2 (sA (sA ob 11 i1 (0 : Int32)) 12 i1 (0 : Int32)) (i1 + (1 : Int32))
  else
    some ob
def X_clearPending_l2 (NF : Nat) : Nat → Rec → Int32 → Option (Rec)
  | 0, _, _ => none
  | n + 1, ob, i1 => X_clearPending_w2 NF (X_clearPending_l2 NF n) ob i1
set_option maxRecDepth 65536 in
set_option maxHeartbeats 4000000 in
theorem X_clearPending_w2_p {C : Ctx} {top : Nat} {a : Nat} {H : List (Nat × Nat × Rec)} {res : Rec} {NF : Nat} (k2 : Rec → Int32 → Option (Rec)) (hk2 : ∀ (ob : Rec) (i1 : Int32), k2 ob i1 = some res → Runs C B22 0 0 2 [vr a, vi i1] [] (top, (a, 17, ob) :: H) (Ans none (top, (a, 17, res) :: H))) (ob : Rec) (i1 : Int32) (hf : X_clearPending_w2 NF k2 ob i1 = some res) : Runs C B22 0 0 2 [vr a, vi i1] [] (top, (a, 17, ob) :: H) (Ans none (top, (a, 17, res) :: H)) := by
  delta X_clearPending_w2 at hf
  refine Runs.iloadN d22_2 rfl <| Runs.bipush d22_3 cb_32 <| ?_
  refine ite_el hf (fun hc1 hf => ?_) (fun hc1 hf => ?_)
  · refine Runs.icN d22_5 (tlt hc1).2.1 <| ?_
    refine Runs.aloadN d22_8 rfl <| Runs.getA d22_9 fA_11 w33 (by decide) <| Runs.iloadN d22_12 rfl <| Runs.iconst d22_13 ci_0 <| ?_
    refine chk_el hf fun hi2 hf => ?_
    refine Runs.iastoreA d22_14 fA_11 (by decide) hi2 <| Runs.aloadN d22_15 rfl <| Runs.getA d22_16 fA_12 w35 (by decide) <| Runs.iloadN d22_19 rfl <| Runs.iconst d22_20 ci_0 <| ?_
    refine chk_el hf fun hi3 hf => ?_
    exact Runs.iastoreA d22_21 fA_12 (by decide) hi3 <| Runs.iinc (P' := [vr a, vi (i1 + (1 : Int32))]) d22_22 ci_1 rfl (by decide) rfl <| Runs.goto (pc' := 2) d22_25 (by decide) <| hk2 (sA (sA ob 11 i1 (0 : Int32)) 12 i1 (0 : Int32)) (i1 + (1 : Int32)) hf
  · refine Runs.icY (pc' := 28) d22_5 (flt hc1).2.1 (by decide) <| ?_
    obtain rfl := Option.some.inj hf
    exact Runs.retV d22_28 rfl ⟨by decide, by decide⟩ ⟨rfl, rfl⟩
theorem X_clearPending_l2_p {C : Ctx} {top : Nat} {a : Nat} {H : List (Nat × Nat × Rec)} {res : Rec} {NF : Nat} (n : Nat) (ob : Rec) (i1 : Int32) (hf : X_clearPending_l2 NF n ob i1 = some res) : Runs C B22 0 0 2 [vr a, vi i1] [] (top, (a, 17, ob) :: H) (Ans none (top, (a, 17, res) :: H)) := by
  induction n generalizing ob i1 with
  | zero => cases (show (none : Option (Rec)) = some res from hf)
  | succ n ih => exact X_clearPending_w2_p (X_clearPending_l2 NF n) (fun ob i1 h => ih _ _ h) ob i1 hf
def X_clearPending (NF : Nat) (ob : Rec) : Option (Rec) :=
  X_clearPending_l2 NF NF ob (0 : Int32)
set_option maxRecDepth 65536 in
set_option maxHeartbeats 4000000 in
theorem X_clearPending_p {C : Ctx} {top : Nat} {a : Nat} {H : List (Nat × Nat × Rec)} {res : Rec} {NF : Nat} (ob : Rec) (hf : X_clearPending NF ob = some res) : Runs C B22 0 0 0 [vr a, vn] [] (top, (a, 17, ob) :: H) (Ans none (top, (a, 17, res) :: H)) := by
  delta X_clearPending at hf
  exact Runs.iconst d22_0 ci_0 <| Runs.istoreN (P' := [vr a, vi (0 : Int32)]) d22_1 (by decide) rfl <| X_clearPending_l2_p NF ob (0 : Int32) hf
theorem X_clearPending_pay {C : Ctx} {top : Nat} {a : Nat} {H : List (Nat × Nat × Rec)} {res : Rec} {NF : Nat} {ob : Rec} (hf : X_clearPending NF ob = some res) : Pays C B22 [.ref a] (top, (a, 17, ob) :: H) (Ans none (top, (a, 17, res) :: H)) :=
  Pays.of pnK (Nat.le_of_ble_eq_true rfl) (P := [vr a, vn]) 1 rfl (X_clearPending_p ob hf)
def X_crashPublisher_w2 (NF : Nat) (k2 : Rec → Int32 → Option (Rec)) (ob : Rec) (i1 : Int32) : Option (Rec) :=
  if i1 < (8 : Int32) then
    chk (8 : Int32) i1 <|
    k2 (sA ob 5 i1 (0 : Int32)) (i1 + (1 : Int32))
  else
    (X_clearQueue ob).bind fun q3 =>
    (X_clearPending NF q3).bind fun q5 =>
    some (sI q5 5 (gI q5 7))
def X_crashPublisher_l2 (NF : Nat) : Nat → Rec → Int32 → Option (Rec)
  | 0, _, _ => none
  | n + 1, ob, i1 => X_crashPublisher_w2 NF (X_crashPublisher_l2 NF n) ob i1
set_option maxRecDepth 65536 in
set_option maxHeartbeats 4000000 in
theorem X_crashPublisher_w2_p {C : Ctx} {top : Nat} {a : Nat} {H : List (Nat × Nat × Rec)} {res : Rec} {NF : Nat} (k2 : Rec → Int32 → Option (Rec)) (hk2 : ∀ (ob : Rec) (i1 : Int32), k2 ob i1 = some res → Runs C B20 0 0 2 [vr a, vi i1] [] (top, (a, 17, ob) :: H) (Ans none (top, (a, 17, res) :: H))) (ob : Rec) (i1 : Int32) (hf : X_crashPublisher_w2 NF k2 ob i1 = some res) : Runs C B20 0 0 2 [vr a, vi i1] [] (top, (a, 17, ob) :: H) (Ans none (top, (a, 17, res) :: H)) := by
  delta X_crashPublisher_w2 at hf
  refine Runs.iloadN d20_2 rfl <| Runs.bipush d20_3 cb_8 <| ?_
  refine ite_el hf (fun hc1 hf => ?_) (fun hc1 hf => ?_)
  · refine Runs.icN d20_5 (tlt hc1).2.1 <| ?_
    refine Runs.aloadN d20_8 rfl <| Runs.getA d20_9 fA_5 w21 (by decide) <| Runs.iloadN d20_12 rfl <| Runs.iconst d20_13 ci_0 <| ?_
    refine chk_el hf fun hi2 hf => ?_
    exact Runs.bastoreA (y := (0 : Int32)) d20_14 fA_5 (by decide) hi2 rfl <| Runs.iinc (P' := [vr a, vi (i1 + (1 : Int32))]) d20_15 ci_1 rfl (by decide) rfl <| Runs.goto (pc' := 2) d20_18 (by decide) <| hk2 (sA ob 5 i1 (0 : Int32)) (i1 + (1 : Int32)) hf
  · refine Runs.icY (pc' := 21) d20_5 (flt hc1).2.1 (by decide) <| ?_
    refine Runs.aloadN d20_21 rfl <| ?_
    refine bind_el hf fun q3 hg4 hf => ?_
    refine Runs.callP (N := B21) (W := 0) (as := []) (S' := []) d20_22 w154 w155 w156 rfl cw21 ar21 rk20_21_0 (by decide) rfl rfl (X_clearQueue_pay hg4) <| ans0 <| Runs.aloadN d20_25 rfl <| ?_
    refine bind_el hf fun q5 hg6 hf => ?_
    obtain rfl := Option.some.inj hf
    exact Runs.callP (N := B22) (W := 0) (as := []) (S' := []) d20_26 w158 w159 w160 rfl cw22 ar22 rk20_22_0 (by decide) rfl rfl (X_clearPending_pay hg6) <| ans0 <| Runs.aloadN d20_29 rfl <| Runs.aloadN d20_30 rfl <| Runs.getI d20_31 w63 fS_7 <| Runs.putI d20_34 w59 fS_5 (Or.inl w60) <| Runs.retV d20_37 rfl ⟨by decide, by decide⟩ ⟨rfl, rfl⟩
theorem X_crashPublisher_l2_p {C : Ctx} {top : Nat} {a : Nat} {H : List (Nat × Nat × Rec)} {res : Rec} {NF : Nat} (n : Nat) (ob : Rec) (i1 : Int32) (hf : X_crashPublisher_l2 NF n ob i1 = some res) : Runs C B20 0 0 2 [vr a, vi i1] [] (top, (a, 17, ob) :: H) (Ans none (top, (a, 17, res) :: H)) := by
  induction n generalizing ob i1 with
  | zero => cases (show (none : Option (Rec)) = some res from hf)
  | succ n ih => exact X_crashPublisher_w2_p (X_crashPublisher_l2 NF n) (fun ob i1 h => ih _ _ h) ob i1 hf
def X_crashPublisher (NF : Nat) (ob : Rec) : Option (Rec) :=
  X_crashPublisher_l2 NF NF ob (0 : Int32)
set_option maxRecDepth 65536 in
set_option maxHeartbeats 4000000 in
theorem X_crashPublisher_p {C : Ctx} {top : Nat} {a : Nat} {H : List (Nat × Nat × Rec)} {res : Rec} {NF : Nat} (ob : Rec) (hf : X_crashPublisher NF ob = some res) : Runs C B20 0 0 0 [vr a, vn] [] (top, (a, 17, ob) :: H) (Ans none (top, (a, 17, res) :: H)) := by
  delta X_crashPublisher at hf
  exact Runs.iconst d20_0 ci_0 <| Runs.istoreN (P' := [vr a, vi (0 : Int32)]) d20_1 (by decide) rfl <| X_crashPublisher_l2_p NF ob (0 : Int32) hf
theorem X_crashPublisher_pay {C : Ctx} {top : Nat} {a : Nat} {H : List (Nat × Nat × Rec)} {res : Rec} {NF : Nat} {ob : Rec} (hf : X_crashPublisher NF ob = some res) : Pays C B20 [.ref a] (top, (a, 17, ob) :: H) (Ans none (top, (a, 17, res) :: H)) :=
  Pays.of pnK (Nat.le_of_ble_eq_true rfl) (P := [vr a, vn]) 1 rfl (X_crashPublisher_p ob hf)
def X_crashSubscriber (NF : Nat) (ob : Rec) : Option (Rec) :=
  (X_clearQueue ob).bind fun q1 =>
  (X_clearPending NF q1).bind fun q3 =>
  some (sI q3 5 (gI q3 7))
set_option maxRecDepth 65536 in
set_option maxHeartbeats 4000000 in
theorem X_crashSubscriber_p {C : Ctx} {top : Nat} {a : Nat} {H : List (Nat × Nat × Rec)} {res : Rec} {NF : Nat} (ob : Rec) (hf : X_crashSubscriber NF ob = some res) : Runs C B33 0 0 0 [vr a] [] (top, (a, 17, ob) :: H) (Ans none (top, (a, 17, res) :: H)) := by
  delta X_crashSubscriber at hf
  refine Runs.aloadN d33_0 rfl <| ?_
  refine bind_el hf fun q1 hg2 hf => ?_
  refine Runs.callP (N := B21) (W := 0) (as := []) (S' := []) d33_1 w154 w155 w156 rfl cw21 ar21 rk33_21_0 (by decide) rfl rfl (X_clearQueue_pay hg2) <| ans0 <| Runs.aloadN d33_4 rfl <| ?_
  refine bind_el hf fun q3 hg4 hf => ?_
  obtain rfl := Option.some.inj hf
  exact Runs.callP (N := B22) (W := 0) (as := []) (S' := []) d33_5 w158 w159 w160 rfl cw22 ar22 rk33_22_0 (by decide) rfl rfl (X_clearPending_pay hg4) <| ans0 <| Runs.aloadN d33_8 rfl <| Runs.aloadN d33_9 rfl <| Runs.getI d33_10 w63 fS_7 <| Runs.putI d33_13 w59 fS_5 (Or.inl w60) <| Runs.retV d33_16 rfl ⟨by decide, by decide⟩ ⟨rfl, rfl⟩
theorem X_crashSubscriber_pay {C : Ctx} {top : Nat} {a : Nat} {H : List (Nat × Nat × Rec)} {res : Rec} {NF : Nat} {ob : Rec} (hf : X_crashSubscriber NF ob = some res) : Pays C B33 [.ref a] (top, (a, 17, ob) :: H) (Ans none (top, (a, 17, res) :: H)) :=
  Pays.of pnK (Nat.le_of_ble_eq_true rfl) (P := [vr a]) 0 rfl (X_crashSubscriber_p ob hf)
def L_law_b245 (NF : Nat) (z : Int32) (f : Int32 → Int32) (k19 : Rec → Int32 → Int32 → Option (Int32)) (k57 : Rec → Int32 → Int32 → Int32 → Int32 → Int32 → Option (Int32)) (k77 : Rec → Int32 → Int32 → Int32 → Int32 → Int32 → Int64 → Int64 → Int32 → Option (Int32)) (k172 : Rec → Int32 → Int32 → Int32 → Int32 → Int32 → Int64 → Int64 → Int32 → Int32 → Int32 → Option (Int32)) (ob : Rec) (i2 : Int32) (i3 : Int32) (i4 : Int32) (i6 : Int32) (i7 : Int32) (l10 : Int64) (i12 : Int32) (i15 : Int32) (i17 : Int32) (l21 : Int64) : Option (Int32) :=
  if i4 < i12 then
    k172 ob i2 i3 i4 i6 i7 l21 l10 i12 i15 (i17 + (1 : Int32))
  else
    k172 ob i2 i3 i4 i6 i7 l21 l21 i12 i15 (i17 + (1 : Int32))
set_option maxRecDepth 65536 in
set_option maxHeartbeats 4000000 in
theorem L_law_b245_p {C : Ctx} {sa : Nat} {z : Int32} {f : Int32 → Int32} (hs : ScrF C sa z f) {res : Int32} {NF : Nat} (k19 : Rec → Int32 → Int32 → Option (Int32)) (hk19 : ∀ (ob : Rec) (i2 : Int32) (i3 : Int32), k19 ob i2 i3 = some res → Runs C B0 18 1392 19 [vr sa, vr C.2.2.1, vi i2, vi i3, vn, vn, vn, vn, vn, vn, vn, vn, vn, vn, vn, vn, vn, vn, vn, vn, vn, vn, vn] [] (C.2.2.1 + 1 + 17, (C.2.2.1, 17, ob) :: []) (fun v _ => v = (some (.int res)))) (k57 : Rec → Int32 → Int32 → Int32 → Int32 → Int32 → Option (Int32)) (hk57 : ∀ (ob : Rec) (i2 : Int32) (i3 : Int32) (i4 : Int32) (i6 : Int32) (i7 : Int32), k57 ob i2 i3 i4 i6 i7 = some res → Runs C B0 18 1392 57 [vr sa, vr C.2.2.1, vi i2, vi i3, vi i4, vn, vi i6, vi i7, vn, vn, vn, vn, vn, vn, vn, vn, vn, vn, vn, vn, vn, vn, vn] [] (C.2.2.1 + 1 + 17, (C.2.2.1, 17, ob) :: []) (fun v _ => v = (some (.int res)))) (k77 : Rec → Int32 → Int32 → Int32 → Int32 → Int32 → Int64 → Int64 → Int32 → Option (Int32)) (hk77 : ∀ (ob : Rec) (i2 : Int32) (i3 : Int32) (i4 : Int32) (i6 : Int32) (i7 : Int32) (l8 : Int64) (l10 : Int64) (i12 : Int32), k77 ob i2 i3 i4 i6 i7 l8 l10 i12 = some res → Runs C B0 18 1392 77 [vr sa, vr C.2.2.1, vi i2, vi i3, vi i4, vn, vi i6, vi i7, vl l8, v2, vl l10, v2, vi i12, vn, vn, vn, vn, vn, vn, vn, vn, vn, vn] [] (C.2.2.1 + 1 + 17, (C.2.2.1, 17, ob) :: []) (fun v _ => v = (some (.int res)))) (k172 : Rec → Int32 → Int32 → Int32 → Int32 → Int32 → Int64 → Int64 → Int32 → Int32 → Int32 → Option (Int32)) (hk172 : ∀ (ob : Rec) (i2 : Int32) (i3 : Int32) (i4 : Int32) (i6 : Int32) (i7 : Int32) (l8 : Int64) (l10 : Int64) (i12 : Int32) (i15 : Int32) (i17 : Int32), k172 ob i2 i3 i4 i6 i7 l8 l10 i12 i15 i17 = some res → Runs C B0 18 1392 172 [vr sa, vr C.2.2.1, vi i2, vi i3, vi i4, vn, vi i6, vi i7, vl l8, v2, vl l10, v2, vi i12, vn, vn, vi i15, vn, vi i17, vn, vn, vn, vn, vn] [] (C.2.2.1 + 1 + 17, (C.2.2.1, 17, ob) :: []) (fun v _ => v = (some (.int res)))) (ob : Rec) (i2 : Int32) (i3 : Int32) (i4 : Int32) (i6 : Int32) (i7 : Int32) (l10 : Int64) (i12 : Int32) (i15 : Int32) (i17 : Int32) (l21 : Int64) (hf : L_law_b245 NF z f k19 k57 k77 k172 ob i2 i3 i4 i6 i7 l10 i12 i15 i17 l21 = some res) : Runs C B0 18 1392 245 [vr sa, vr C.2.2.1, vi i2, vi i3, vi i4, vn, vi i6, vi i7, vn, vn, vl l10, v2, vi i12, vn, vn, vi i15, vn, vi i17, vn, vn, vn, vl l21, v2] [] (C.2.2.1 + 1 + 17, (C.2.2.1, 17, ob) :: []) (fun v _ => v = (some (.int res))) := by
  delta L_law_b245 at hf
  refine Runs.lload d0_245 rfl <| Runs.lstore (P' := [vr sa, vr C.2.2.1, vi i2, vi i3, vi i4, vn, vi i6, vi i7, vl l21, v2, vl l10, v2, vi i12, vn, vn, vi i15, vn, vi i17, vn, vn, vn, vl l21, v2]) d0_247 (by decide) rfl <| Runs.iload d0_249 rfl <| Runs.iload d0_251 rfl <| ?_
  refine ite_el hf (fun hc99 hf => ?_) (fun hc99 hf => ?_)
  · refine Runs.icY (pc' := 260) d0_253 (tlt hc99).2.2.1 (by decide) <| ?_
    exact Runs.iinc (P' := [vr sa, vr C.2.2.1, vi i2, vi i3, vi i4, vn, vi i6, vi i7, vl l21, v2, vl l10, v2, vi i12, vn, vn, vi i15, vn, vi (i17 + (1 : Int32)), vn, vn, vn, vl l21, v2]) d0_260 ci_1 rfl (by decide) rfl <| Runs.goto (pc' := 172) d0_263 (by decide) <| Runs.forget [true, true, true, true, true, false, true, true, true, true, true, true, true, false, false, true, false, true, false, false, false, false, false] rfl <| hk172 ob i2 i3 i4 i6 i7 l21 l10 i12 i15 (i17 + (1 : Int32)) hf
  · refine Runs.icN d0_253 (flt hc99).2.2.1 <| ?_
    exact Runs.lload d0_256 rfl <| Runs.lstore (P' := [vr sa, vr C.2.2.1, vi i2, vi i3, vi i4, vn, vi i6, vi i7, vl l21, v2, vl l21, v2, vi i12, vn, vn, vi i15, vn, vi i17, vn, vn, vn, vl l21, v2]) d0_258 (by decide) rfl <| Runs.iinc (P' := [vr sa, vr C.2.2.1, vi i2, vi i3, vi i4, vn, vi i6, vi i7, vl l21, v2, vl l21, v2, vi i12, vn, vn, vi i15, vn, vi (i17 + (1 : Int32)), vn, vn, vn, vl l21, v2]) d0_260 ci_1 rfl (by decide) rfl <| Runs.goto (pc' := 172) d0_263 (by decide) <| Runs.forget [true, true, true, true, true, false, true, true, true, true, true, true, true, false, false, true, false, true, false, false, false, false, false] rfl <| hk172 ob i2 i3 i4 i6 i7 l21 l21 i12 i15 (i17 + (1 : Int32)) hf
def L_law_w172 (NF : Nat) (z : Int32) (f : Int32 → Int32) (k19 : Rec → Int32 → Int32 → Option (Int32)) (k57 : Rec → Int32 → Int32 → Int32 → Int32 → Int32 → Option (Int32)) (k77 : Rec → Int32 → Int32 → Int32 → Int32 → Int32 → Int64 → Int64 → Int32 → Option (Int32)) (k172 : Rec → Int32 → Int32 → Int32 → Int32 → Int32 → Int64 → Int64 → Int32 → Int32 → Int32 → Option (Int32)) (ob : Rec) (i2 : Int32) (i3 : Int32) (i4 : Int32) (i6 : Int32) (i7 : Int32) (l8 : Int64) (l10 : Int64) (i12 : Int32) (i15 : Int32) (i17 : Int32) : Option (Int32) :=
  if i17 < i12 then
    (X_logRecord ob i17).bind fun r85 =>
    (L_slot r85).bind fun r87 =>
    if r87 = i15 then
      (L_key r85).bind fun r90 =>
      if r90 = i7 then
        (L_kind r85).bind fun r93 =>
        if r93 = (2 : Int32) then
          (L_val r85).bind fun r96 =>
          L_law_b245 NF z f k19 k57 k77 k172 ob i2 i3 i4 i6 i7 l10 i12 i15 i17 r96.toInt64
        else
          if r93 = (3 : Int32) then
            L_law_b245 NF z f k19 k57 k77 k172 ob i2 i3 i4 i6 i7 l10 i12 i15 i17 (4294967296 : Int64)
          else
            k172 ob i2 i3 i4 i6 i7 l8 l10 i12 i15 (i17 + (1 : Int32))
      else
        k172 ob i2 i3 i4 i6 i7 l8 l10 i12 i15 (i17 + (1 : Int32))
    else
      k172 ob i2 i3 i4 i6 i7 l8 l10 i12 i15 (i17 + (1 : Int32))
  else
    k77 ob i2 i3 i4 i6 i7 l8 l10 (i12 + (1 : Int32))
def L_law_l172 (NF : Nat) (z : Int32) (f : Int32 → Int32) (k19 : Rec → Int32 → Int32 → Option (Int32)) (k57 : Rec → Int32 → Int32 → Int32 → Int32 → Int32 → Option (Int32)) (k77 : Rec → Int32 → Int32 → Int32 → Int32 → Int32 → Int64 → Int64 → Int32 → Option (Int32)) : Nat → Rec → Int32 → Int32 → Int32 → Int32 → Int32 → Int64 → Int64 → Int32 → Int32 → Int32 → Option (Int32)
  | 0, _, _, _, _, _, _, _, _, _, _, _ => none
  | n + 1, ob, i2, i3, i4, i6, i7, l8, l10, i12, i15, i17 => L_law_w172 NF z f k19 k57 k77 (L_law_l172 NF z f k19 k57 k77 n) ob i2 i3 i4 i6 i7 l8 l10 i12 i15 i17
set_option maxRecDepth 65536 in
set_option maxHeartbeats 4000000 in
theorem L_law_w172_p {C : Ctx} {sa : Nat} {z : Int32} {f : Int32 → Int32} (hs : ScrF C sa z f) {res : Int32} {NF : Nat} (k19 : Rec → Int32 → Int32 → Option (Int32)) (hk19 : ∀ (ob : Rec) (i2 : Int32) (i3 : Int32), k19 ob i2 i3 = some res → Runs C B0 18 1392 19 [vr sa, vr C.2.2.1, vi i2, vi i3, vn, vn, vn, vn, vn, vn, vn, vn, vn, vn, vn, vn, vn, vn, vn, vn, vn, vn, vn] [] (C.2.2.1 + 1 + 17, (C.2.2.1, 17, ob) :: []) (fun v _ => v = (some (.int res)))) (k57 : Rec → Int32 → Int32 → Int32 → Int32 → Int32 → Option (Int32)) (hk57 : ∀ (ob : Rec) (i2 : Int32) (i3 : Int32) (i4 : Int32) (i6 : Int32) (i7 : Int32), k57 ob i2 i3 i4 i6 i7 = some res → Runs C B0 18 1392 57 [vr sa, vr C.2.2.1, vi i2, vi i3, vi i4, vn, vi i6, vi i7, vn, vn, vn, vn, vn, vn, vn, vn, vn, vn, vn, vn, vn, vn, vn] [] (C.2.2.1 + 1 + 17, (C.2.2.1, 17, ob) :: []) (fun v _ => v = (some (.int res)))) (k77 : Rec → Int32 → Int32 → Int32 → Int32 → Int32 → Int64 → Int64 → Int32 → Option (Int32)) (hk77 : ∀ (ob : Rec) (i2 : Int32) (i3 : Int32) (i4 : Int32) (i6 : Int32) (i7 : Int32) (l8 : Int64) (l10 : Int64) (i12 : Int32), k77 ob i2 i3 i4 i6 i7 l8 l10 i12 = some res → Runs C B0 18 1392 77 [vr sa, vr C.2.2.1, vi i2, vi i3, vi i4, vn, vi i6, vi i7, vl l8, v2, vl l10, v2, vi i12, vn, vn, vn, vn, vn, vn, vn, vn, vn, vn] [] (C.2.2.1 + 1 + 17, (C.2.2.1, 17, ob) :: []) (fun v _ => v = (some (.int res)))) (k172 : Rec → Int32 → Int32 → Int32 → Int32 → Int32 → Int64 → Int64 → Int32 → Int32 → Int32 → Option (Int32)) (hk172 : ∀ (ob : Rec) (i2 : Int32) (i3 : Int32) (i4 : Int32) (i6 : Int32) (i7 : Int32) (l8 : Int64) (l10 : Int64) (i12 : Int32) (i15 : Int32) (i17 : Int32), k172 ob i2 i3 i4 i6 i7 l8 l10 i12 i15 i17 = some res → Runs C B0 18 1392 172 [vr sa, vr C.2.2.1, vi i2, vi i3, vi i4, vn, vi i6, vi i7, vl l8, v2, vl l10, v2, vi i12, vn, vn, vi i15, vn, vi i17, vn, vn, vn, vn, vn] [] (C.2.2.1 + 1 + 17, (C.2.2.1, 17, ob) :: []) (fun v _ => v = (some (.int res)))) (ob : Rec) (i2 : Int32) (i3 : Int32) (i4 : Int32) (i6 : Int32) (i7 : Int32) (l8 : Int64) (l10 : Int64) (i12 : Int32) (i15 : Int32) (i17 : Int32) (hf : L_law_w172 NF z f k19 k57 k77 k172 ob i2 i3 i4 i6 i7 l8 l10 i12 i15 i17 = some res) : Runs C B0 18 1392 172 [vr sa, vr C.2.2.1, vi i2, vi i3, vi i4, vn, vi i6, vi i7, vl l8, v2, vl l10, v2, vi i12, vn, vn, vi i15, vn, vi i17, vn, vn, vn, vn, vn] [] (C.2.2.1 + 1 + 17, (C.2.2.1, 17, ob) :: []) (fun v _ => v = (some (.int res))) := by
  delta L_law_w172 at hf
  refine Runs.iload d0_172 rfl <| Runs.iload d0_174 rfl <| ?_
  refine ite_el hf (fun hc84 hf => ?_) (fun hc84 hf => ?_)
  · refine Runs.icN d0_176 (tlt hc84).2.1 <| ?_
    refine Runs.aloadN d0_179 rfl <| Runs.iload d0_180 rfl <| ?_
    refine bind_el hf fun r85 hg86 hf => ?_
    refine Runs.callV (N := B15) (W := 0) (as := [.int i17]) (S' := []) d0_182 w124 w125 w126 w127 cw15 ar15 rk0_15_0 (by decide) rfl rfl (X_logRecord_pay hg86) <| ans1 <| Runs.lstore (P' := [vr sa, vr C.2.2.1, vi i2, vi i3, vi i4, vn, vi i6, vi i7, vl l8, v2, vl l10, v2, vi i12, vn, vn, vi i15, vn, vi i17, vl r85, v2, vn, vn, vn]) d0_185 (by decide) rfl <| Runs.lload d0_187 rfl <| ?_
    refine bind_el hf fun r87 hg88 hf => ?_
    refine Runs.callS (N := B28) (W := 0) (as := [.long r85]) (S' := []) d0_189 w185 w186 cw28 ar28 rk0_28_0 (by decide) rfl rfl (L_slot_pay hg88) <| ans1 <| Runs.iload d0_192 rfl <| ?_
    refine ite_el hf (fun hc89 hf => ?_) (fun hc89 hf => ?_)
    · refine Runs.icN d0_194 (teq hc89).2 <| ?_
      refine Runs.lload d0_197 rfl <| ?_
      refine bind_el hf fun r90 hg91 hf => ?_
      refine Runs.callS (N := B29) (W := 0) (as := [.long r85]) (S' := []) d0_199 w188 w189 cw29 ar29 rk0_29_0 (by decide) rfl rfl (L_key_pay hg91) <| ans1 <| Runs.iload d0_202 rfl <| ?_
      refine ite_el hf (fun hc92 hf => ?_) (fun hc92 hf => ?_)
      · refine Runs.icY (pc' := 210) d0_204 (teq hc92).1 (by decide) <| ?_
        refine Runs.lload d0_210 rfl <| ?_
        refine bind_el hf fun r93 hg94 hf => ?_
        refine Runs.callS (N := B16) (W := 0) (as := [.long r85]) (S' := []) d0_212 w130 w131 cw16 ar16 rk0_16_0 (by decide) rfl rfl (L_kind_pay hg94) <| ans1 <| Runs.istore (P' := [vr sa, vr C.2.2.1, vi i2, vi i3, vi i4, vn, vi i6, vi i7, vl l8, v2, vl l10, v2, vi i12, vn, vn, vi i15, vn, vi i17, vl r85, v2, vi r93, vn, vn]) d0_215 (by decide) rfl <| Runs.iload d0_217 rfl <| Runs.iconst d0_219 ci_2 <| ?_
        refine ite_el hf (fun hc95 hf => ?_) (fun hc95 hf => ?_)
        · refine Runs.icN d0_220 (teq hc95).2 <| ?_
          refine Runs.lload d0_223 rfl <| ?_
          refine bind_el hf fun r96 hg97 hf => ?_
          exact Runs.callS (N := B30) (W := 0) (as := [.long r85]) (S' := []) d0_225 w192 w193 cw30 ar30 rk0_30_0 (by decide) rfl rfl (L_val_pay hg97) <| ans1 <| Runs.i2l d0_228 <| Runs.lstore (P' := [vr sa, vr C.2.2.1, vi i2, vi i3, vi i4, vn, vi i6, vi i7, vl l8, v2, vl l10, v2, vi i12, vn, vn, vi i15, vn, vi i17, vl r85, v2, vi r93, vl r96.toInt64, v2]) d0_229 (by decide) rfl <| Runs.goto (pc' := 245) d0_231 (by decide) <| Runs.forget [true, true, true, true, true, false, true, true, false, false, true, true, true, false, false, true, false, true, false, false, false, true, true] rfl <| L_law_b245_p hs k19 hk19 k57 hk57 k77 hk77 k172 hk172 ob i2 i3 i4 i6 i7 l10 i12 i15 i17 r96.toInt64 hf
        · refine Runs.icY (pc' := 234) d0_220 (feq hc95).2 (by decide) <| ?_
          refine Runs.iload d0_234 rfl <| Runs.iconst d0_236 ci_3 <| ?_
          refine ite_el hf (fun hc98 hf => ?_) (fun hc98 hf => ?_)
          · refine Runs.icN d0_237 (teq hc98).2 <| ?_
            exact Runs.ldc2 d0_240 w74 <| Runs.lstore (P' := [vr sa, vr C.2.2.1, vi i2, vi i3, vi i4, vn, vi i6, vi i7, vl l8, v2, vl l10, v2, vi i12, vn, vn, vi i15, vn, vi i17, vl r85, v2, vi r93, vl (4294967296 : Int64), v2]) d0_243 (by decide) rfl <| Runs.forget [true, true, true, true, true, false, true, true, false, false, true, true, true, false, false, true, false, true, false, false, false, true, true] rfl <| L_law_b245_p hs k19 hk19 k57 hk57 k77 hk77 k172 hk172 ob i2 i3 i4 i6 i7 l10 i12 i15 i17 (4294967296 : Int64) hf
          · refine Runs.icY (pc' := 260) d0_237 (feq hc98).2 (by decide) <| ?_
            exact Runs.iinc (P' := [vr sa, vr C.2.2.1, vi i2, vi i3, vi i4, vn, vi i6, vi i7, vl l8, v2, vl l10, v2, vi i12, vn, vn, vi i15, vn, vi (i17 + (1 : Int32)), vl r85, v2, vi r93, vn, vn]) d0_260 ci_1 rfl (by decide) rfl <| Runs.goto (pc' := 172) d0_263 (by decide) <| Runs.forget [true, true, true, true, true, false, true, true, true, true, true, true, true, false, false, true, false, true, false, false, false, false, false] rfl <| hk172 ob i2 i3 i4 i6 i7 l8 l10 i12 i15 (i17 + (1 : Int32)) hf
      · refine Runs.icN d0_204 (feq hc92).1 <| ?_
        exact Runs.goto (pc' := 260) d0_207 (by decide) <| Runs.iinc (P' := [vr sa, vr C.2.2.1, vi i2, vi i3, vi i4, vn, vi i6, vi i7, vl l8, v2, vl l10, v2, vi i12, vn, vn, vi i15, vn, vi (i17 + (1 : Int32)), vl r85, v2, vn, vn, vn]) d0_260 ci_1 rfl (by decide) rfl <| Runs.goto (pc' := 172) d0_263 (by decide) <| Runs.forget [true, true, true, true, true, false, true, true, true, true, true, true, true, false, false, true, false, true, false, false, false, false, false] rfl <| hk172 ob i2 i3 i4 i6 i7 l8 l10 i12 i15 (i17 + (1 : Int32)) hf
    · refine Runs.icY (pc' := 260) d0_194 (feq hc89).2 (by decide) <| ?_
      exact Runs.iinc (P' := [vr sa, vr C.2.2.1, vi i2, vi i3, vi i4, vn, vi i6, vi i7, vl l8, v2, vl l10, v2, vi i12, vn, vn, vi i15, vn, vi (i17 + (1 : Int32)), vl r85, v2, vn, vn, vn]) d0_260 ci_1 rfl (by decide) rfl <| Runs.goto (pc' := 172) d0_263 (by decide) <| Runs.forget [true, true, true, true, true, false, true, true, true, true, true, true, true, false, false, true, false, true, false, false, false, false, false] rfl <| hk172 ob i2 i3 i4 i6 i7 l8 l10 i12 i15 (i17 + (1 : Int32)) hf
  · refine Runs.icY (pc' := 266) d0_176 (flt hc84).2.1 (by decide) <| ?_
    exact Runs.iinc (P' := [vr sa, vr C.2.2.1, vi i2, vi i3, vi i4, vn, vi i6, vi i7, vl l8, v2, vl l10, v2, vi (i12 + (1 : Int32)), vn, vn, vi i15, vn, vi i17, vn, vn, vn, vn, vn]) d0_266 ci_1 rfl (by decide) rfl <| Runs.goto (pc' := 77) d0_269 (by decide) <| Runs.forget [true, true, true, true, true, false, true, true, true, true, true, true, true, false, false, false, false, false, false, false, false, false, false] rfl <| hk77 ob i2 i3 i4 i6 i7 l8 l10 (i12 + (1 : Int32)) hf
theorem L_law_l172_p {C : Ctx} {sa : Nat} {z : Int32} {f : Int32 → Int32} (hs : ScrF C sa z f) {res : Int32} {NF : Nat} (k19 : Rec → Int32 → Int32 → Option (Int32)) (hk19 : ∀ (ob : Rec) (i2 : Int32) (i3 : Int32), k19 ob i2 i3 = some res → Runs C B0 18 1392 19 [vr sa, vr C.2.2.1, vi i2, vi i3, vn, vn, vn, vn, vn, vn, vn, vn, vn, vn, vn, vn, vn, vn, vn, vn, vn, vn, vn] [] (C.2.2.1 + 1 + 17, (C.2.2.1, 17, ob) :: []) (fun v _ => v = (some (.int res)))) (k57 : Rec → Int32 → Int32 → Int32 → Int32 → Int32 → Option (Int32)) (hk57 : ∀ (ob : Rec) (i2 : Int32) (i3 : Int32) (i4 : Int32) (i6 : Int32) (i7 : Int32), k57 ob i2 i3 i4 i6 i7 = some res → Runs C B0 18 1392 57 [vr sa, vr C.2.2.1, vi i2, vi i3, vi i4, vn, vi i6, vi i7, vn, vn, vn, vn, vn, vn, vn, vn, vn, vn, vn, vn, vn, vn, vn] [] (C.2.2.1 + 1 + 17, (C.2.2.1, 17, ob) :: []) (fun v _ => v = (some (.int res)))) (k77 : Rec → Int32 → Int32 → Int32 → Int32 → Int32 → Int64 → Int64 → Int32 → Option (Int32)) (hk77 : ∀ (ob : Rec) (i2 : Int32) (i3 : Int32) (i4 : Int32) (i6 : Int32) (i7 : Int32) (l8 : Int64) (l10 : Int64) (i12 : Int32), k77 ob i2 i3 i4 i6 i7 l8 l10 i12 = some res → Runs C B0 18 1392 77 [vr sa, vr C.2.2.1, vi i2, vi i3, vi i4, vn, vi i6, vi i7, vl l8, v2, vl l10, v2, vi i12, vn, vn, vn, vn, vn, vn, vn, vn, vn, vn] [] (C.2.2.1 + 1 + 17, (C.2.2.1, 17, ob) :: []) (fun v _ => v = (some (.int res)))) (n : Nat) (ob : Rec) (i2 : Int32) (i3 : Int32) (i4 : Int32) (i6 : Int32) (i7 : Int32) (l8 : Int64) (l10 : Int64) (i12 : Int32) (i15 : Int32) (i17 : Int32) (hf : L_law_l172 NF z f k19 k57 k77 n ob i2 i3 i4 i6 i7 l8 l10 i12 i15 i17 = some res) : Runs C B0 18 1392 172 [vr sa, vr C.2.2.1, vi i2, vi i3, vi i4, vn, vi i6, vi i7, vl l8, v2, vl l10, v2, vi i12, vn, vn, vi i15, vn, vi i17, vn, vn, vn, vn, vn] [] (C.2.2.1 + 1 + 17, (C.2.2.1, 17, ob) :: []) (fun v _ => v = (some (.int res))) := by
  induction n generalizing ob i2 i3 i4 i6 i7 l8 l10 i12 i15 i17 with
  | zero => cases (show (none : Option (Int32)) = some res from hf)
  | succ n ih => exact L_law_w172_p hs k19 hk19 k57 hk57 k77 hk77 (L_law_l172 NF z f k19 k57 k77 n) (fun ob i2 i3 i4 i6 i7 l8 l10 i12 i15 i17 h => ih _ _ _ _ _ _ _ _ _ _ _ h) ob i2 i3 i4 i6 i7 l8 l10 i12 i15 i17 hf
def L_law_w120 (NF : Nat) (z : Int32) (f : Int32 → Int32) (k19 : Rec → Int32 → Int32 → Option (Int32)) (k57 : Rec → Int32 → Int32 → Int32 → Int32 → Int32 → Option (Int32)) (k77 : Rec → Int32 → Int32 → Int32 → Int32 → Int32 → Int64 → Int64 → Int32 → Option (Int32)) (k120 : Rec → Int32 → Int32 → Int32 → Int32 → Int32 → Int64 → Int64 → Int32 → Int32 → Int32 → Int32 → Option (Int32)) (ob : Rec) (i2 : Int32) (i3 : Int32) (i4 : Int32) (i6 : Int32) (i7 : Int32) (l8 : Int64) (l10 : Int64) (i12 : Int32) (i15 : Int32) (i16 : Int32) (i17 : Int32) : Option (Int32) :=
  if i17 < (1 : Int32) then
    L_law_l172 NF z f k19 k57 k77 NF ob i2 i3 i4 i6 i7 l8 l10 i12 i15 (i16 + (1 : Int32))
  else
    (X_logRecord ob i17).bind fun r76 =>
    (L_kind r76).bind fun r78 =>
    if r78 = (1 : Int32) then
      (L_slot r76).bind fun r81 =>
      if r81 = i15 then
        L_law_l172 NF z f k19 k57 k77 NF ob i2 i3 i4 i6 i7 l8 l10 i12 i15 (i17 + (1 : Int32))
      else
        k120 ob i2 i3 i4 i6 i7 l8 l10 i12 i15 i16 (i17 + (-1 : Int32))
    else
      k120 ob i2 i3 i4 i6 i7 l8 l10 i12 i15 i16 (i17 + (-1 : Int32))
def L_law_l120 (NF : Nat) (z : Int32) (f : Int32 → Int32) (k19 : Rec → Int32 → Int32 → Option (Int32)) (k57 : Rec → Int32 → Int32 → Int32 → Int32 → Int32 → Option (Int32)) (k77 : Rec → Int32 → Int32 → Int32 → Int32 → Int32 → Int64 → Int64 → Int32 → Option (Int32)) : Nat → Rec → Int32 → Int32 → Int32 → Int32 → Int32 → Int64 → Int64 → Int32 → Int32 → Int32 → Int32 → Option (Int32)
  | 0, _, _, _, _, _, _, _, _, _, _, _, _ => none
  | n + 1, ob, i2, i3, i4, i6, i7, l8, l10, i12, i15, i16, i17 => L_law_w120 NF z f k19 k57 k77 (L_law_l120 NF z f k19 k57 k77 n) ob i2 i3 i4 i6 i7 l8 l10 i12 i15 i16 i17
set_option maxRecDepth 65536 in
set_option maxHeartbeats 4000000 in
theorem L_law_w120_p {C : Ctx} {sa : Nat} {z : Int32} {f : Int32 → Int32} (hs : ScrF C sa z f) {res : Int32} {NF : Nat} (k19 : Rec → Int32 → Int32 → Option (Int32)) (hk19 : ∀ (ob : Rec) (i2 : Int32) (i3 : Int32), k19 ob i2 i3 = some res → Runs C B0 18 1392 19 [vr sa, vr C.2.2.1, vi i2, vi i3, vn, vn, vn, vn, vn, vn, vn, vn, vn, vn, vn, vn, vn, vn, vn, vn, vn, vn, vn] [] (C.2.2.1 + 1 + 17, (C.2.2.1, 17, ob) :: []) (fun v _ => v = (some (.int res)))) (k57 : Rec → Int32 → Int32 → Int32 → Int32 → Int32 → Option (Int32)) (hk57 : ∀ (ob : Rec) (i2 : Int32) (i3 : Int32) (i4 : Int32) (i6 : Int32) (i7 : Int32), k57 ob i2 i3 i4 i6 i7 = some res → Runs C B0 18 1392 57 [vr sa, vr C.2.2.1, vi i2, vi i3, vi i4, vn, vi i6, vi i7, vn, vn, vn, vn, vn, vn, vn, vn, vn, vn, vn, vn, vn, vn, vn] [] (C.2.2.1 + 1 + 17, (C.2.2.1, 17, ob) :: []) (fun v _ => v = (some (.int res)))) (k77 : Rec → Int32 → Int32 → Int32 → Int32 → Int32 → Int64 → Int64 → Int32 → Option (Int32)) (hk77 : ∀ (ob : Rec) (i2 : Int32) (i3 : Int32) (i4 : Int32) (i6 : Int32) (i7 : Int32) (l8 : Int64) (l10 : Int64) (i12 : Int32), k77 ob i2 i3 i4 i6 i7 l8 l10 i12 = some res → Runs C B0 18 1392 77 [vr sa, vr C.2.2.1, vi i2, vi i3, vi i4, vn, vi i6, vi i7, vl l8, v2, vl l10, v2, vi i12, vn, vn, vn, vn, vn, vn, vn, vn, vn, vn] [] (C.2.2.1 + 1 + 17, (C.2.2.1, 17, ob) :: []) (fun v _ => v = (some (.int res)))) (k120 : Rec → Int32 → Int32 → Int32 → Int32 → Int32 → Int64 → Int64 → Int32 → Int32 → Int32 → Int32 → Option (Int32)) (hk120 : ∀ (ob : Rec) (i2 : Int32) (i3 : Int32) (i4 : Int32) (i6 : Int32) (i7 : Int32) (l8 : Int64) (l10 : Int64) (i12 : Int32) (i15 : Int32) (i16 : Int32) (i17 : Int32), k120 ob i2 i3 i4 i6 i7 l8 l10 i12 i15 i16 i17 = some res → Runs C B0 18 1392 120 [vr sa, vr C.2.2.1, vi i2, vi i3, vi i4, vn, vi i6, vi i7, vl l8, v2, vl l10, v2, vi i12, vn, vn, vi i15, vi i16, vi i17, vn, vn, vn, vn, vn] [] (C.2.2.1 + 1 + 17, (C.2.2.1, 17, ob) :: []) (fun v _ => v = (some (.int res)))) (ob : Rec) (i2 : Int32) (i3 : Int32) (i4 : Int32) (i6 : Int32) (i7 : Int32) (l8 : Int64) (l10 : Int64) (i12 : Int32) (i15 : Int32) (i16 : Int32) (i17 : Int32) (hf : L_law_w120 NF z f k19 k57 k77 k120 ob i2 i3 i4 i6 i7 l8 l10 i12 i15 i16 i17 = some res) : Runs C B0 18 1392 120 [vr sa, vr C.2.2.1, vi i2, vi i3, vi i4, vn, vi i6, vi i7, vl l8, v2, vl l10, v2, vi i12, vn, vn, vi i15, vi i16, vi i17, vn, vn, vn, vn, vn] [] (C.2.2.1 + 1 + 17, (C.2.2.1, 17, ob) :: []) (fun v _ => v = (some (.int res))) := by
  delta L_law_w120 at hf
  refine Runs.iload d0_120 rfl <| Runs.iconst d0_122 ci_1 <| ?_
  refine ite_el hf (fun hc75 hf => ?_) (fun hc75 hf => ?_)
  · refine Runs.icY (pc' := 166) d0_123 (tlt hc75).1 (by decide) <| ?_
    exact Runs.iload d0_166 rfl <| Runs.iconst d0_168 ci_1 <| Runs.iadd d0_169 <| Runs.istore (P' := [vr sa, vr C.2.2.1, vi i2, vi i3, vi i4, vn, vi i6, vi i7, vl l8, v2, vl l10, v2, vi i12, vn, vn, vi i15, vi i16, vi (i16 + (1 : Int32)), vn, vn, vn, vn, vn]) d0_170 (by decide) rfl <| Runs.forget [true, true, true, true, true, false, true, true, true, true, true, true, true, false, false, true, false, true, false, false, false, false, false] rfl <| L_law_l172_p hs k19 hk19 k57 hk57 k77 hk77 NF ob i2 i3 i4 i6 i7 l8 l10 i12 i15 (i16 + (1 : Int32)) hf
  · refine Runs.icN d0_123 (flt hc75).1 <| ?_
    refine Runs.aloadN d0_126 rfl <| Runs.iload d0_127 rfl <| ?_
    refine bind_el hf fun r76 hg77 hf => ?_
    refine Runs.callV (N := B15) (W := 0) (as := [.int i17]) (S' := []) d0_129 w124 w125 w126 w127 cw15 ar15 rk0_15_0 (by decide) rfl rfl (X_logRecord_pay hg77) <| ans1 <| Runs.lstore (P' := [vr sa, vr C.2.2.1, vi i2, vi i3, vi i4, vn, vi i6, vi i7, vl l8, v2, vl l10, v2, vi i12, vn, vn, vi i15, vi i16, vi i17, vl r76, v2, vn, vn, vn]) d0_132 (by decide) rfl <| Runs.lload d0_134 rfl <| ?_
    refine bind_el hf fun r78 hg79 hf => ?_
    refine Runs.callS (N := B16) (W := 0) (as := [.long r76]) (S' := []) d0_136 w130 w131 cw16 ar16 rk0_16_0 (by decide) rfl rfl (L_kind_pay hg79) <| ans1 <| Runs.iconst d0_139 ci_1 <| ?_
    refine ite_el hf (fun hc80 hf => ?_) (fun hc80 hf => ?_)
    · refine Runs.icN d0_140 (teq hc80).2 <| ?_
      refine Runs.lload d0_143 rfl <| ?_
      refine bind_el hf fun r81 hg82 hf => ?_
      refine Runs.callS (N := B28) (W := 0) (as := [.long r76]) (S' := []) d0_145 w185 w186 cw28 ar28 rk0_28_0 (by decide) rfl rfl (L_slot_pay hg82) <| ans1 <| Runs.iload d0_148 rfl <| ?_
      refine ite_el hf (fun hc83 hf => ?_) (fun hc83 hf => ?_)
      · refine Runs.icN d0_150 (teq hc83).2 <| ?_
        exact Runs.iload d0_153 rfl <| Runs.istore (P' := [vr sa, vr C.2.2.1, vi i2, vi i3, vi i4, vn, vi i6, vi i7, vl l8, v2, vl l10, v2, vi i12, vn, vn, vi i15, vi i17, vi i17, vl r76, v2, vn, vn, vn]) d0_155 (by decide) rfl <| Runs.goto (pc' := 166) d0_157 (by decide) <| Runs.iload d0_166 rfl <| Runs.iconst d0_168 ci_1 <| Runs.iadd d0_169 <| Runs.istore (P' := [vr sa, vr C.2.2.1, vi i2, vi i3, vi i4, vn, vi i6, vi i7, vl l8, v2, vl l10, v2, vi i12, vn, vn, vi i15, vi i17, vi (i17 + (1 : Int32)), vl r76, v2, vn, vn, vn]) d0_170 (by decide) rfl <| Runs.forget [true, true, true, true, true, false, true, true, true, true, true, true, true, false, false, true, false, true, false, false, false, false, false] rfl <| L_law_l172_p hs k19 hk19 k57 hk57 k77 hk77 NF ob i2 i3 i4 i6 i7 l8 l10 i12 i15 (i17 + (1 : Int32)) hf
      · refine Runs.icY (pc' := 160) d0_150 (feq hc83).2 (by decide) <| ?_
        exact Runs.iinc (P' := [vr sa, vr C.2.2.1, vi i2, vi i3, vi i4, vn, vi i6, vi i7, vl l8, v2, vl l10, v2, vi i12, vn, vn, vi i15, vi i16, vi (i17 + (-1 : Int32)), vl r76, v2, vn, vn, vn]) d0_160 ci_m1 rfl (by decide) rfl <| Runs.goto (pc' := 120) d0_163 (by decide) <| Runs.forget [true, true, true, true, true, false, true, true, true, true, true, true, true, false, false, true, true, true, false, false, false, false, false] rfl <| hk120 ob i2 i3 i4 i6 i7 l8 l10 i12 i15 i16 (i17 + (-1 : Int32)) hf
    · refine Runs.icY (pc' := 160) d0_140 (feq hc80).2 (by decide) <| ?_
      exact Runs.iinc (P' := [vr sa, vr C.2.2.1, vi i2, vi i3, vi i4, vn, vi i6, vi i7, vl l8, v2, vl l10, v2, vi i12, vn, vn, vi i15, vi i16, vi (i17 + (-1 : Int32)), vl r76, v2, vn, vn, vn]) d0_160 ci_m1 rfl (by decide) rfl <| Runs.goto (pc' := 120) d0_163 (by decide) <| Runs.forget [true, true, true, true, true, false, true, true, true, true, true, true, true, false, false, true, true, true, false, false, false, false, false] rfl <| hk120 ob i2 i3 i4 i6 i7 l8 l10 i12 i15 i16 (i17 + (-1 : Int32)) hf
theorem L_law_l120_p {C : Ctx} {sa : Nat} {z : Int32} {f : Int32 → Int32} (hs : ScrF C sa z f) {res : Int32} {NF : Nat} (k19 : Rec → Int32 → Int32 → Option (Int32)) (hk19 : ∀ (ob : Rec) (i2 : Int32) (i3 : Int32), k19 ob i2 i3 = some res → Runs C B0 18 1392 19 [vr sa, vr C.2.2.1, vi i2, vi i3, vn, vn, vn, vn, vn, vn, vn, vn, vn, vn, vn, vn, vn, vn, vn, vn, vn, vn, vn] [] (C.2.2.1 + 1 + 17, (C.2.2.1, 17, ob) :: []) (fun v _ => v = (some (.int res)))) (k57 : Rec → Int32 → Int32 → Int32 → Int32 → Int32 → Option (Int32)) (hk57 : ∀ (ob : Rec) (i2 : Int32) (i3 : Int32) (i4 : Int32) (i6 : Int32) (i7 : Int32), k57 ob i2 i3 i4 i6 i7 = some res → Runs C B0 18 1392 57 [vr sa, vr C.2.2.1, vi i2, vi i3, vi i4, vn, vi i6, vi i7, vn, vn, vn, vn, vn, vn, vn, vn, vn, vn, vn, vn, vn, vn, vn] [] (C.2.2.1 + 1 + 17, (C.2.2.1, 17, ob) :: []) (fun v _ => v = (some (.int res)))) (k77 : Rec → Int32 → Int32 → Int32 → Int32 → Int32 → Int64 → Int64 → Int32 → Option (Int32)) (hk77 : ∀ (ob : Rec) (i2 : Int32) (i3 : Int32) (i4 : Int32) (i6 : Int32) (i7 : Int32) (l8 : Int64) (l10 : Int64) (i12 : Int32), k77 ob i2 i3 i4 i6 i7 l8 l10 i12 = some res → Runs C B0 18 1392 77 [vr sa, vr C.2.2.1, vi i2, vi i3, vi i4, vn, vi i6, vi i7, vl l8, v2, vl l10, v2, vi i12, vn, vn, vn, vn, vn, vn, vn, vn, vn, vn] [] (C.2.2.1 + 1 + 17, (C.2.2.1, 17, ob) :: []) (fun v _ => v = (some (.int res)))) (n : Nat) (ob : Rec) (i2 : Int32) (i3 : Int32) (i4 : Int32) (i6 : Int32) (i7 : Int32) (l8 : Int64) (l10 : Int64) (i12 : Int32) (i15 : Int32) (i16 : Int32) (i17 : Int32) (hf : L_law_l120 NF z f k19 k57 k77 n ob i2 i3 i4 i6 i7 l8 l10 i12 i15 i16 i17 = some res) : Runs C B0 18 1392 120 [vr sa, vr C.2.2.1, vi i2, vi i3, vi i4, vn, vi i6, vi i7, vl l8, v2, vl l10, v2, vi i12, vn, vn, vi i15, vi i16, vi i17, vn, vn, vn, vn, vn] [] (C.2.2.1 + 1 + 17, (C.2.2.1, 17, ob) :: []) (fun v _ => v = (some (.int res))) := by
  induction n generalizing ob i2 i3 i4 i6 i7 l8 l10 i12 i15 i16 i17 with
  | zero => cases (show (none : Option (Int32)) = some res from hf)
  | succ n ih => exact L_law_w120_p hs k19 hk19 k57 hk57 k77 hk77 (L_law_l120 NF z f k19 k57 k77 n) (fun ob i2 i3 i4 i6 i7 l8 l10 i12 i15 i16 i17 h => ih _ _ _ _ _ _ _ _ _ _ _ _ h) ob i2 i3 i4 i6 i7 l8 l10 i12 i15 i16 i17 hf
def L_law_w77 (NF : Nat) (z : Int32) (f : Int32 → Int32) (k19 : Rec → Int32 → Int32 → Option (Int32)) (k57 : Rec → Int32 → Int32 → Int32 → Int32 → Int32 → Option (Int32)) (k77 : Rec → Int32 → Int32 → Int32 → Int32 → Int32 → Int64 → Int64 → Int32 → Option (Int32)) (ob : Rec) (i2 : Int32) (i3 : Int32) (i4 : Int32) (i6 : Int32) (i7 : Int32) (l8 : Int64) (l10 : Int64) (i12 : Int32) : Option (Int32) :=
  if i6 < i12 then
    (X_pubRow ob i7).bind fun r62 =>
    if r62 = l8 then
      (X_subRow ob i7).bind fun r65 =>
      if r65 = l10 then
        k57 ob i2 i3 i4 i6 (i7 + (1 : Int32))
      else
        some (0 : Int32)
    else
      some (0 : Int32)
  else
    (X_logRecord ob i12).bind fun r68 =>
    (L_kind r68).bind fun r70 =>
    if r70 = (4 : Int32) then
      (L_slot r68).bind fun r73 =>
      L_law_l120 NF z f k19 k57 k77 NF ob i2 i3 i4 i6 i7 l8 l10 i12 r73 (0 : Int32) (i12 - (1 : Int32))
    else
      k77 ob i2 i3 i4 i6 i7 l8 l10 (i12 + (1 : Int32))
def L_law_l77 (NF : Nat) (z : Int32) (f : Int32 → Int32) (k19 : Rec → Int32 → Int32 → Option (Int32)) (k57 : Rec → Int32 → Int32 → Int32 → Int32 → Int32 → Option (Int32)) : Nat → Rec → Int32 → Int32 → Int32 → Int32 → Int32 → Int64 → Int64 → Int32 → Option (Int32)
  | 0, _, _, _, _, _, _, _, _, _ => none
  | n + 1, ob, i2, i3, i4, i6, i7, l8, l10, i12 => L_law_w77 NF z f k19 k57 (L_law_l77 NF z f k19 k57 n) ob i2 i3 i4 i6 i7 l8 l10 i12
set_option maxRecDepth 65536 in
set_option maxHeartbeats 4000000 in
theorem L_law_w77_p {C : Ctx} {sa : Nat} {z : Int32} {f : Int32 → Int32} (hs : ScrF C sa z f) {res : Int32} {NF : Nat} (k19 : Rec → Int32 → Int32 → Option (Int32)) (hk19 : ∀ (ob : Rec) (i2 : Int32) (i3 : Int32), k19 ob i2 i3 = some res → Runs C B0 18 1392 19 [vr sa, vr C.2.2.1, vi i2, vi i3, vn, vn, vn, vn, vn, vn, vn, vn, vn, vn, vn, vn, vn, vn, vn, vn, vn, vn, vn] [] (C.2.2.1 + 1 + 17, (C.2.2.1, 17, ob) :: []) (fun v _ => v = (some (.int res)))) (k57 : Rec → Int32 → Int32 → Int32 → Int32 → Int32 → Option (Int32)) (hk57 : ∀ (ob : Rec) (i2 : Int32) (i3 : Int32) (i4 : Int32) (i6 : Int32) (i7 : Int32), k57 ob i2 i3 i4 i6 i7 = some res → Runs C B0 18 1392 57 [vr sa, vr C.2.2.1, vi i2, vi i3, vi i4, vn, vi i6, vi i7, vn, vn, vn, vn, vn, vn, vn, vn, vn, vn, vn, vn, vn, vn, vn] [] (C.2.2.1 + 1 + 17, (C.2.2.1, 17, ob) :: []) (fun v _ => v = (some (.int res)))) (k77 : Rec → Int32 → Int32 → Int32 → Int32 → Int32 → Int64 → Int64 → Int32 → Option (Int32)) (hk77 : ∀ (ob : Rec) (i2 : Int32) (i3 : Int32) (i4 : Int32) (i6 : Int32) (i7 : Int32) (l8 : Int64) (l10 : Int64) (i12 : Int32), k77 ob i2 i3 i4 i6 i7 l8 l10 i12 = some res → Runs C B0 18 1392 77 [vr sa, vr C.2.2.1, vi i2, vi i3, vi i4, vn, vi i6, vi i7, vl l8, v2, vl l10, v2, vi i12, vn, vn, vn, vn, vn, vn, vn, vn, vn, vn] [] (C.2.2.1 + 1 + 17, (C.2.2.1, 17, ob) :: []) (fun v _ => v = (some (.int res)))) (ob : Rec) (i2 : Int32) (i3 : Int32) (i4 : Int32) (i6 : Int32) (i7 : Int32) (l8 : Int64) (l10 : Int64) (i12 : Int32) (hf : L_law_w77 NF z f k19 k57 k77 ob i2 i3 i4 i6 i7 l8 l10 i12 = some res) : Runs C B0 18 1392 77 [vr sa, vr C.2.2.1, vi i2, vi i3, vi i4, vn, vi i6, vi i7, vl l8, v2, vl l10, v2, vi i12, vn, vn, vn, vn, vn, vn, vn, vn, vn, vn] [] (C.2.2.1 + 1 + 17, (C.2.2.1, 17, ob) :: []) (fun v _ => v = (some (.int res))) := by
  delta L_law_w77 at hf
  refine Runs.iload d0_77 rfl <| Runs.iload d0_79 rfl <| ?_
  refine ite_el hf (fun hc61 hf => ?_) (fun hc61 hf => ?_)
  · refine Runs.icY (pc' := 272) d0_81 (tlt hc61).2.2.1 (by decide) <| ?_
    refine Runs.aloadN d0_272 rfl <| Runs.iload d0_273 rfl <| ?_
    refine bind_el hf fun r62 hg63 hf => ?_
    refine Runs.callV (N := B4) (W := 0) (as := [.int i7]) (S' := []) d0_275 w75 w76 w77 w78 cw4 ar4 rk0_4_0 (by decide) rfl rfl (X_pubRow_pay hg63) <| ans1 <| Runs.lload d0_278 rfl <| Runs.lcmp d0_280 <| ?_
    refine ite_el hf (fun hc64 hf => ?_) (fun hc64 hf => ?_)
    · refine Runs.ifY (pc' := 286) d0_281 (teq ((lw_eq _ _).mpr hc64)).1 (by decide) <| ?_
      refine Runs.aloadN d0_286 rfl <| Runs.iload d0_287 rfl <| ?_
      refine bind_el hf fun r65 hg66 hf => ?_
      refine Runs.callV (N := B6) (W := 0) (as := [.int i7]) (S' := []) d0_289 w85 w86 w87 w88 cw6 ar6 rk0_6_0 (by decide) rfl rfl (X_subRow_pay hg66) <| ans1 <| Runs.lload d0_292 rfl <| Runs.lcmp d0_294 <| ?_
      refine ite_el hf (fun hc67 hf => ?_) (fun hc67 hf => ?_)
      · refine Runs.ifY (pc' := 300) d0_295 (teq ((lw_eq _ _).mpr hc67)).1 (by decide) <| ?_
        exact Runs.iinc (P' := [vr sa, vr C.2.2.1, vi i2, vi i3, vi i4, vn, vi i6, vi (i7 + (1 : Int32)), vl l8, v2, vl l10, v2, vi i12, vn, vn, vn, vn, vn, vn, vn, vn, vn, vn]) d0_300 ci_1 rfl (by decide) rfl <| Runs.goto (pc' := 57) d0_303 (by decide) <| Runs.forget [true, true, true, true, true, false, true, true, false, false, false, false, false, false, false, false, false, false, false, false, false, false, false] rfl <| hk57 ob i2 i3 i4 i6 (i7 + (1 : Int32)) hf
      · refine Runs.ifN d0_295 (feq (fun u => hc67 ((lw_eq _ _).mp u))).1 <| ?_
        obtain rfl := Option.some.inj hf
        exact Runs.iconst d0_298 ci_0 <| Runs.retZ (y := (0 : Int32)) d0_299 rfl ⟨by decide, by decide⟩ rfl rfl
    · refine Runs.ifN d0_281 (feq (fun u => hc64 ((lw_eq _ _).mp u))).1 <| ?_
      obtain rfl := Option.some.inj hf
      exact Runs.iconst d0_284 ci_0 <| Runs.retZ (y := (0 : Int32)) d0_285 rfl ⟨by decide, by decide⟩ rfl rfl
  · refine Runs.icN d0_81 (flt hc61).2.2.1 <| ?_
    refine Runs.aloadN d0_84 rfl <| Runs.iload d0_85 rfl <| ?_
    refine bind_el hf fun r68 hg69 hf => ?_
    refine Runs.callV (N := B15) (W := 0) (as := [.int i12]) (S' := []) d0_87 w124 w125 w126 w127 cw15 ar15 rk0_15_0 (by decide) rfl rfl (X_logRecord_pay hg69) <| ans1 <| Runs.lstore (P' := [vr sa, vr C.2.2.1, vi i2, vi i3, vi i4, vn, vi i6, vi i7, vl l8, v2, vl l10, v2, vi i12, vl r68, v2, vn, vn, vn, vn, vn, vn, vn, vn]) d0_90 (by decide) rfl <| Runs.lload d0_92 rfl <| ?_
    refine bind_el hf fun r70 hg71 hf => ?_
    refine Runs.callS (N := B16) (W := 0) (as := [.long r68]) (S' := []) d0_94 w130 w131 cw16 ar16 rk0_16_0 (by decide) rfl rfl (L_kind_pay hg71) <| ans1 <| Runs.iconst d0_97 ci_4 <| ?_
    refine ite_el hf (fun hc72 hf => ?_) (fun hc72 hf => ?_)
    · refine Runs.icY (pc' := 104) d0_98 (teq hc72).1 (by decide) <| ?_
      refine Runs.lload d0_104 rfl <| ?_
      refine bind_el hf fun r73 hg74 hf => ?_
      exact Runs.callS (N := B28) (W := 0) (as := [.long r68]) (S' := []) d0_106 w185 w186 cw28 ar28 rk0_28_0 (by decide) rfl rfl (L_slot_pay hg74) <| ans1 <| Runs.istore (P' := [vr sa, vr C.2.2.1, vi i2, vi i3, vi i4, vn, vi i6, vi i7, vl l8, v2, vl l10, v2, vi i12, vl r68, v2, vi r73, vn, vn, vn, vn, vn, vn, vn]) d0_109 (by decide) rfl <| Runs.iconst d0_111 ci_0 <| Runs.istore (P' := [vr sa, vr C.2.2.1, vi i2, vi i3, vi i4, vn, vi i6, vi i7, vl l8, v2, vl l10, v2, vi i12, vl r68, v2, vi r73, vi (0 : Int32), vn, vn, vn, vn, vn, vn]) d0_112 (by decide) rfl <| Runs.iload d0_114 rfl <| Runs.iconst d0_116 ci_1 <| Runs.isub d0_117 <| Runs.istore (P' := [vr sa, vr C.2.2.1, vi i2, vi i3, vi i4, vn, vi i6, vi i7, vl l8, v2, vl l10, v2, vi i12, vl r68, v2, vi r73, vi (0 : Int32), vi (i12 - (1 : Int32)), vn, vn, vn, vn, vn]) d0_118 (by decide) rfl <| Runs.forget [true, true, true, true, true, false, true, true, true, true, true, true, true, false, false, true, true, true, false, false, false, false, false] rfl <| L_law_l120_p hs k19 hk19 k57 hk57 k77 hk77 NF ob i2 i3 i4 i6 i7 l8 l10 i12 r73 (0 : Int32) (i12 - (1 : Int32)) hf
    · refine Runs.icN d0_98 (feq hc72).1 <| ?_
      exact Runs.goto (pc' := 266) d0_101 (by decide) <| Runs.iinc (P' := [vr sa, vr C.2.2.1, vi i2, vi i3, vi i4, vn, vi i6, vi i7, vl l8, v2, vl l10, v2, vi (i12 + (1 : Int32)), vl r68, v2, vn, vn, vn, vn, vn, vn, vn, vn]) d0_266 ci_1 rfl (by decide) rfl <| Runs.goto (pc' := 77) d0_269 (by decide) <| Runs.forget [true, true, true, true, true, false, true, true, true, true, true, true, true, false, false, false, false, false, false, false, false, false, false] rfl <| hk77 ob i2 i3 i4 i6 i7 l8 l10 (i12 + (1 : Int32)) hf
theorem L_law_l77_p {C : Ctx} {sa : Nat} {z : Int32} {f : Int32 → Int32} (hs : ScrF C sa z f) {res : Int32} {NF : Nat} (k19 : Rec → Int32 → Int32 → Option (Int32)) (hk19 : ∀ (ob : Rec) (i2 : Int32) (i3 : Int32), k19 ob i2 i3 = some res → Runs C B0 18 1392 19 [vr sa, vr C.2.2.1, vi i2, vi i3, vn, vn, vn, vn, vn, vn, vn, vn, vn, vn, vn, vn, vn, vn, vn, vn, vn, vn, vn] [] (C.2.2.1 + 1 + 17, (C.2.2.1, 17, ob) :: []) (fun v _ => v = (some (.int res)))) (k57 : Rec → Int32 → Int32 → Int32 → Int32 → Int32 → Option (Int32)) (hk57 : ∀ (ob : Rec) (i2 : Int32) (i3 : Int32) (i4 : Int32) (i6 : Int32) (i7 : Int32), k57 ob i2 i3 i4 i6 i7 = some res → Runs C B0 18 1392 57 [vr sa, vr C.2.2.1, vi i2, vi i3, vi i4, vn, vi i6, vi i7, vn, vn, vn, vn, vn, vn, vn, vn, vn, vn, vn, vn, vn, vn, vn] [] (C.2.2.1 + 1 + 17, (C.2.2.1, 17, ob) :: []) (fun v _ => v = (some (.int res)))) (n : Nat) (ob : Rec) (i2 : Int32) (i3 : Int32) (i4 : Int32) (i6 : Int32) (i7 : Int32) (l8 : Int64) (l10 : Int64) (i12 : Int32) (hf : L_law_l77 NF z f k19 k57 n ob i2 i3 i4 i6 i7 l8 l10 i12 = some res) : Runs C B0 18 1392 77 [vr sa, vr C.2.2.1, vi i2, vi i3, vi i4, vn, vi i6, vi i7, vl l8, v2, vl l10, v2, vi i12, vn, vn, vn, vn, vn, vn, vn, vn, vn, vn] [] (C.2.2.1 + 1 + 17, (C.2.2.1, 17, ob) :: []) (fun v _ => v = (some (.int res))) := by
  induction n generalizing ob i2 i3 i4 i6 i7 l8 l10 i12 with
  | zero => cases (show (none : Option (Int32)) = some res from hf)
  | succ n ih => exact L_law_w77_p hs k19 hk19 k57 hk57 (L_law_l77 NF z f k19 k57 n) (fun ob i2 i3 i4 i6 i7 l8 l10 i12 h => ih _ _ _ _ _ _ _ _ _ h) ob i2 i3 i4 i6 i7 l8 l10 i12 hf
def L_law_w57 (NF : Nat) (z : Int32) (f : Int32 → Int32) (k19 : Rec → Int32 → Int32 → Option (Int32)) (k57 : Rec → Int32 → Int32 → Int32 → Int32 → Int32 → Option (Int32)) (ob : Rec) (i2 : Int32) (i3 : Int32) (i4 : Int32) (i6 : Int32) (i7 : Int32) : Option (Int32) :=
  if i7 < (8 : Int32) then
    L_law_l77 NF z f k19 k57 NF ob i2 i3 i4 i6 i7 (4294967296 : Int64) (4294967296 : Int64) (1 : Int32)
  else
    if i3 = i2 then
      some (1 : Int32)
    else
      (L_cell z f i3).bind fun r11 =>
      if (1 : Int32) < (r11 &&& (15 : Int32)) then
        if (4 : Int32) < (r11 &&& (15 : Int32)) then
          if (r11 &&& (15 : Int32)) = (5 : Int32) then
            bind2 (X_del ob (((r11.toUInt32 >>> ((4 : Int32) &&& 31).toUInt32).toInt32) % (3 : Int32)) (((r11.toUInt32 >>> ((6 : Int32) &&& 31).toUInt32).toInt32) &&& (7 : Int32))) fun r16 q17 =>
            k19 q17 i2 (i3 + (1 : Int32))
          else
            if (7 : Int32) < (r11 &&& (15 : Int32)) then
              if (r11 &&& (15 : Int32)) = (8 : Int32) then
                bind2 (X_abort ob (((r11.toUInt32 >>> ((4 : Int32) &&& 31).toUInt32).toInt32) % (3 : Int32))) fun r21 q22 =>
                k19 q22 i2 (i3 + (1 : Int32))
              else
                if (10 : Int32) < (r11 &&& (15 : Int32)) then
                  if (12 : Int32) < (r11 &&& (15 : Int32)) then
                    if (r11 &&& (15 : Int32)) = (13 : Int32) then
                      bind2 (X_feedback ob) fun r27 q28 =>
                      k19 q28 i2 (i3 + (1 : Int32))
                    else
                      if (r11 &&& (15 : Int32)) = (14 : Int32) then
                        if (((r11.toUInt32 >>> ((4 : Int32) &&& 31).toUInt32).toInt32) &&& (3 : Int32)) = (0 : Int32) then
                          (X_crashPublisher NF ob).bind fun q32 =>
                          k19 q32 i2 (i3 + (1 : Int32))
                        else
                          bind2 (X_stream NF ob (64 : Int32)) fun r34 q35 =>
                          k19 q35 i2 (i3 + (1 : Int32))
                      else
                        if (((r11.toUInt32 >>> ((4 : Int32) &&& 31).toUInt32).toInt32) &&& (3 : Int32)) = (0 : Int32) then
                          (X_crashSubscriber NF ob).bind fun q38 =>
                          k19 q38 i2 (i3 + (1 : Int32))
                        else
                          bind2 (X_apply NF ob (64 : Int32)) fun r40 q41 =>
                          bind2 (X_feedback q41) fun r43 q44 =>
                          k19 q44 i2 (i3 + (1 : Int32))
                  else
                    bind2 (X_apply NF ob (((((r11.toUInt32 >>> ((4 : Int32) &&& 31).toUInt32).toInt32) &&& (3 : Int32)) * (3 : Int32)) + (1 : Int32))) fun r46 q47 =>
                    k19 q47 i2 (i3 + (1 : Int32))
                else
                  bind2 (X_stream NF ob ((((r11.toUInt32 >>> ((4 : Int32) &&& 31).toUInt32).toInt32) &&& (3 : Int32)) + (1 : Int32))) fun r49 q50 =>
                  k19 q50 i2 (i3 + (1 : Int32))
            else
              bind2 (X_commit NF ob (((r11.toUInt32 >>> ((4 : Int32) &&& 31).toUInt32).toInt32) % (3 : Int32))) fun r52 q53 =>
              k19 q53 i2 (i3 + (1 : Int32))
        else
          bind2 (X_put ob (((r11.toUInt32 >>> ((4 : Int32) &&& 31).toUInt32).toInt32) % (3 : Int32)) (((r11.toUInt32 >>> ((6 : Int32) &&& 31).toUInt32).toInt32) &&& (7 : Int32)) (r11 >>> ((9 : Int32) &&& 31))) fun r55 q56 =>
          k19 q56 i2 (i3 + (1 : Int32))
      else
        bind2 (X_begin ob (((r11.toUInt32 >>> ((4 : Int32) &&& 31).toUInt32).toInt32) % (3 : Int32))) fun r58 q59 =>
        k19 q59 i2 (i3 + (1 : Int32))
def L_law_l57 (NF : Nat) (z : Int32) (f : Int32 → Int32) (k19 : Rec → Int32 → Int32 → Option (Int32)) : Nat → Rec → Int32 → Int32 → Int32 → Int32 → Int32 → Option (Int32)
  | 0, _, _, _, _, _, _ => none
  | n + 1, ob, i2, i3, i4, i6, i7 => L_law_w57 NF z f k19 (L_law_l57 NF z f k19 n) ob i2 i3 i4 i6 i7
set_option maxRecDepth 65536 in
set_option maxHeartbeats 4000000 in
theorem L_law_w57_p {C : Ctx} {sa : Nat} {z : Int32} {f : Int32 → Int32} (hs : ScrF C sa z f) {res : Int32} {NF : Nat} (k19 : Rec → Int32 → Int32 → Option (Int32)) (hk19 : ∀ (ob : Rec) (i2 : Int32) (i3 : Int32), k19 ob i2 i3 = some res → Runs C B0 18 1392 19 [vr sa, vr C.2.2.1, vi i2, vi i3, vn, vn, vn, vn, vn, vn, vn, vn, vn, vn, vn, vn, vn, vn, vn, vn, vn, vn, vn] [] (C.2.2.1 + 1 + 17, (C.2.2.1, 17, ob) :: []) (fun v _ => v = (some (.int res)))) (k57 : Rec → Int32 → Int32 → Int32 → Int32 → Int32 → Option (Int32)) (hk57 : ∀ (ob : Rec) (i2 : Int32) (i3 : Int32) (i4 : Int32) (i6 : Int32) (i7 : Int32), k57 ob i2 i3 i4 i6 i7 = some res → Runs C B0 18 1392 57 [vr sa, vr C.2.2.1, vi i2, vi i3, vi i4, vn, vi i6, vi i7, vn, vn, vn, vn, vn, vn, vn, vn, vn, vn, vn, vn, vn, vn, vn] [] (C.2.2.1 + 1 + 17, (C.2.2.1, 17, ob) :: []) (fun v _ => v = (some (.int res)))) (ob : Rec) (i2 : Int32) (i3 : Int32) (i4 : Int32) (i6 : Int32) (i7 : Int32) (hf : L_law_w57 NF z f k19 k57 ob i2 i3 i4 i6 i7 = some res) : Runs C B0 18 1392 57 [vr sa, vr C.2.2.1, vi i2, vi i3, vi i4, vn, vi i6, vi i7, vn, vn, vn, vn, vn, vn, vn, vn, vn, vn, vn, vn, vn, vn, vn] [] (C.2.2.1 + 1 + 17, (C.2.2.1, 17, ob) :: []) (fun v _ => v = (some (.int res))) := by
  delta L_law_w57 at hf
  refine Runs.iload d0_57 rfl <| Runs.bipush d0_59 cb_8 <| ?_
  refine ite_el hf (fun hc9 hf => ?_) (fun hc9 hf => ?_)
  · refine Runs.icN d0_61 (tlt hc9).2.1 <| ?_
    exact Runs.ldc2 d0_64 w74 <| Runs.lstore (P' := [vr sa, vr C.2.2.1, vi i2, vi i3, vi i4, vn, vi i6, vi i7, vl (4294967296 : Int64), v2, vn, vn, vn, vn, vn, vn, vn, vn, vn, vn, vn, vn, vn]) d0_67 (by decide) rfl <| Runs.ldc2 d0_69 w74 <| Runs.lstore (P' := [vr sa, vr C.2.2.1, vi i2, vi i3, vi i4, vn, vi i6, vi i7, vl (4294967296 : Int64), v2, vl (4294967296 : Int64), v2, vn, vn, vn, vn, vn, vn, vn, vn, vn, vn, vn]) d0_72 (by decide) rfl <| Runs.iconst d0_74 ci_1 <| Runs.istore (P' := [vr sa, vr C.2.2.1, vi i2, vi i3, vi i4, vn, vi i6, vi i7, vl (4294967296 : Int64), v2, vl (4294967296 : Int64), v2, vi (1 : Int32), vn, vn, vn, vn, vn, vn, vn, vn, vn, vn]) d0_75 (by decide) rfl <| L_law_l77_p hs k19 hk19 k57 hk57 NF ob i2 i3 i4 i6 i7 (4294967296 : Int64) (4294967296 : Int64) (1 : Int32) hf
  · refine Runs.icY (pc' := 306) d0_61 (flt hc9).2.1 (by decide) <| ?_
    refine Runs.iloadN d0_306 rfl <| Runs.iloadN d0_307 rfl <| ?_
    refine ite_el hf (fun hc10 hf => ?_) (fun hc10 hf => ?_)
    · refine Runs.icN d0_308 (teq hc10).2 <| ?_
      obtain rfl := Option.some.inj hf
      exact Runs.goto (pc' := 563) d0_311 (by decide) <| Runs.iconst d0_563 ci_1 <| Runs.retZ (y := (1 : Int32)) d0_564 rfl ⟨by decide, by decide⟩ rfl rfl
    · refine Runs.icY (pc' := 314) d0_308 (feq hc10).2 (by decide) <| ?_
      refine Runs.aloadN d0_314 rfl <| Runs.iloadN d0_315 rfl <| ?_
      refine bind_el hf fun r11 hg12 hf => ?_
      refine Runs.callS (N := B7) (W := 0) (as := [.ref sa, .int i3]) (S' := []) d0_316 w90 w91 cw7 ar7 rk0_7_0 (by decide) rfl rfl (L_cell_pay hs hg12) <| ans1 <| Runs.istore (P' := [vr sa, vr C.2.2.1, vi i2, vi i3, vi i4, vn, vi i6, vi r11, vn, vn, vn, vn, vn, vn, vn, vn, vn, vn, vn, vn, vn, vn, vn]) d0_319 (by decide) rfl <| Runs.iload d0_321 rfl <| Runs.bipush d0_323 cb_15 <| Runs.iand d0_325 <| Runs.istore (P' := [vr sa, vr C.2.2.1, vi i2, vi i3, vi i4, vn, vi i6, vi r11, vi (r11 &&& (15 : Int32)), vn, vn, vn, vn, vn, vn, vn, vn, vn, vn, vn, vn, vn, vn]) d0_326 (by decide) rfl <| Runs.iload d0_328 rfl <| Runs.iconst d0_330 ci_4 <| Runs.iushr d0_331 <| Runs.iconst d0_332 ci_3 <| Runs.irem d0_333 (by decide) <| Runs.istore (P' := [vr sa, vr C.2.2.1, vi i2, vi i3, vi i4, vn, vi i6, vi r11, vi (r11 &&& (15 : Int32)), vi (((r11.toUInt32 >>> ((4 : Int32) &&& 31).toUInt32).toInt32) % (3 : Int32)), vn, vn, vn, vn, vn, vn, vn, vn, vn, vn, vn, vn, vn]) d0_334 (by decide) rfl <| ?_
      refine Runs.iload d0_336 rfl <| Runs.iconst d0_338 ci_4 <| Runs.iushr d0_339 <| Runs.iconst d0_340 ci_3 <| Runs.iand d0_341 <| Runs.istore (P' := [vr sa, vr C.2.2.1, vi i2, vi i3, vi i4, vn, vi i6, vi r11, vi (r11 &&& (15 : Int32)), vi (((r11.toUInt32 >>> ((4 : Int32) &&& 31).toUInt32).toInt32) % (3 : Int32)), vi (((r11.toUInt32 >>> ((4 : Int32) &&& 31).toUInt32).toInt32) &&& (3 : Int32)), vn, vn, vn, vn, vn, vn, vn, vn, vn, vn, vn, vn]) d0_342 (by decide) rfl <| Runs.iload d0_344 rfl <| Runs.bipush d0_346 cb_6 <| Runs.iushr d0_348 <| Runs.bipush d0_349 cb_7 <| Runs.iand d0_351 <| Runs.istore (P' := [vr sa, vr C.2.2.1, vi i2, vi i3, vi i4, vn, vi i6, vi r11, vi (r11 &&& (15 : Int32)), vi (((r11.toUInt32 >>> ((4 : Int32) &&& 31).toUInt32).toInt32) % (3 : Int32)), vi (((r11.toUInt32 >>> ((4 : Int32) &&& 31).toUInt32).toInt32) &&& (3 : Int32)), vi (((r11.toUInt32 >>> ((6 : Int32) &&& 31).toUInt32).toInt32) &&& (7 : Int32)), vn, vn, vn, vn, vn, vn, vn, vn, vn, vn, vn]) d0_352 (by decide) rfl <| ?_
      refine Runs.iload d0_354 rfl <| Runs.bipush d0_356 cb_9 <| Runs.ishr d0_358 <| Runs.istore (P' := [vr sa, vr C.2.2.1, vi i2, vi i3, vi i4, vn, vi i6, vi r11, vi (r11 &&& (15 : Int32)), vi (((r11.toUInt32 >>> ((4 : Int32) &&& 31).toUInt32).toInt32) % (3 : Int32)), vi (((r11.toUInt32 >>> ((4 : Int32) &&& 31).toUInt32).toInt32) &&& (3 : Int32)), vi (((r11.toUInt32 >>> ((6 : Int32) &&& 31).toUInt32).toInt32) &&& (7 : Int32)), vi (r11 >>> ((9 : Int32) &&& 31)), vn, vn, vn, vn, vn, vn, vn, vn, vn, vn]) d0_359 (by decide) rfl <| Runs.iload d0_361 rfl <| Runs.iconst d0_363 ci_1 <| ?_
      refine ite_el hf (fun hc13 hf => ?_) (fun hc13 hf => ?_)
      · refine Runs.icY (pc' := 377) d0_364 (tlt hc13).2.2.1 (by decide) <| ?_
        refine Runs.iload d0_377 rfl <| Runs.iconst d0_379 ci_4 <| ?_
        refine ite_el hf (fun hc14 hf => ?_) (fun hc14 hf => ?_)
        · refine Runs.icY (pc' := 397) d0_380 (tlt hc14).2.2.1 (by decide) <| ?_
          refine Runs.iload d0_397 rfl <| Runs.iconst d0_399 ci_5 <| ?_
          refine ite_el hf (fun hc15 hf => ?_) (fun hc15 hf => ?_)
          · refine Runs.icN d0_400 (teq hc15).2 <| ?_
            refine Runs.aloadN d0_403 rfl <| Runs.iload d0_404 rfl <| Runs.iload d0_406 rfl <| ?_
            refine bind2_el hf fun r16 q17 hg18 hf => ?_
            exact Runs.callV (N := B26) (W := 0) (as := [.int (((r11.toUInt32 >>> ((4 : Int32) &&& 31).toUInt32).toInt32) % (3 : Int32)), .int (((r11.toUInt32 >>> ((6 : Int32) &&& 31).toUInt32).toInt32) &&& (7 : Int32))]) (S' := []) d0_408 w176 w177 w178 w179 cw26 ar26 rk0_26_0 (by decide) rfl rfl (X_del_pay hg18) <| ans1 <| Runs.pop d0_411 rfl <| Runs.goto (pc' := 557) d0_412 (by decide) <| Runs.iinc (P' := [vr sa, vr C.2.2.1, vi i2, vi (i3 + (1 : Int32)), vi i4, vn, vi i6, vi r11, vi (r11 &&& (15 : Int32)), vi (((r11.toUInt32 >>> ((4 : Int32) &&& 31).toUInt32).toInt32) % (3 : Int32)), vi (((r11.toUInt32 >>> ((4 : Int32) &&& 31).toUInt32).toInt32) &&& (3 : Int32)), vi (((r11.toUInt32 >>> ((6 : Int32) &&& 31).toUInt32).toInt32) &&& (7 : Int32)), vi (r11 >>> ((9 : Int32) &&& 31)), vn, vn, vn, vn, vn, vn, vn, vn, vn, vn]) d0_557 ci_1 rfl (by decide) rfl <| Runs.goto (pc' := 19) d0_560 (by decide) <| Runs.forget [true, true, true, true, false, false, false, false, false, false, false, false, false, false, false, false, false, false, false, false, false, false, false] rfl <| hk19 q17 i2 (i3 + (1 : Int32)) hf
          · refine Runs.icY (pc' := 415) d0_400 (feq hc15).2 (by decide) <| ?_
            refine Runs.iload d0_415 rfl <| Runs.bipush d0_417 cb_7 <| ?_
            refine ite_el hf (fun hc19 hf => ?_) (fun hc19 hf => ?_)
            · refine Runs.icY (pc' := 432) d0_419 (tlt hc19).2.2.1 (by decide) <| ?_
              refine Runs.iload d0_432 rfl <| Runs.bipush d0_434 cb_8 <| ?_
              refine ite_el hf (fun hc20 hf => ?_) (fun hc20 hf => ?_)
              · refine Runs.icN d0_436 (teq hc20).2 <| ?_
                refine Runs.aloadN d0_439 rfl <| Runs.iload d0_440 rfl <| ?_
                refine bind2_el hf fun r21 q22 hg23 hf => ?_
                exact Runs.callV (N := B17) (W := 0) (as := [.int (((r11.toUInt32 >>> ((4 : Int32) &&& 31).toUInt32).toInt32) % (3 : Int32))]) (S' := []) d0_442 w134 w135 w136 w137 cw17 ar17 rk0_17_0 (by decide) rfl rfl (X_abort_pay hg23) <| ans1 <| Runs.pop d0_445 rfl <| Runs.goto (pc' := 557) d0_446 (by decide) <| Runs.iinc (P' := [vr sa, vr C.2.2.1, vi i2, vi (i3 + (1 : Int32)), vi i4, vn, vi i6, vi r11, vi (r11 &&& (15 : Int32)), vi (((r11.toUInt32 >>> ((4 : Int32) &&& 31).toUInt32).toInt32) % (3 : Int32)), vi (((r11.toUInt32 >>> ((4 : Int32) &&& 31).toUInt32).toInt32) &&& (3 : Int32)), vi (((r11.toUInt32 >>> ((6 : Int32) &&& 31).toUInt32).toInt32) &&& (7 : Int32)), vi (r11 >>> ((9 : Int32) &&& 31)), vn, vn, vn, vn, vn, vn, vn, vn, vn, vn]) d0_557 ci_1 rfl (by decide) rfl <| Runs.goto (pc' := 19) d0_560 (by decide) <| Runs.forget [true, true, true, true, false, false, false, false, false, false, false, false, false, false, false, false, false, false, false, false, false, false, false] rfl <| hk19 q22 i2 (i3 + (1 : Int32)) hf
              · refine Runs.icY (pc' := 449) d0_436 (feq hc20).2 (by decide) <| ?_
                refine Runs.iload d0_449 rfl <| Runs.bipush d0_451 cb_10 <| ?_
                refine ite_el hf (fun hc24 hf => ?_) (fun hc24 hf => ?_)
                · refine Runs.icY (pc' := 468) d0_453 (tlt hc24).2.2.1 (by decide) <| ?_
                  refine Runs.iload d0_468 rfl <| Runs.bipush d0_470 cb_12 <| ?_
                  refine ite_el hf (fun hc25 hf => ?_) (fun hc25 hf => ?_)
                  · refine Runs.icY (pc' := 489) d0_472 (tlt hc25).2.2.1 (by decide) <| ?_
                    refine Runs.iload d0_489 rfl <| Runs.bipush d0_491 cb_13 <| ?_
                    refine ite_el hf (fun hc26 hf => ?_) (fun hc26 hf => ?_)
                    · refine Runs.icN d0_493 (teq hc26).2 <| ?_
                      refine Runs.aloadN d0_496 rfl <| ?_
                      refine bind2_el hf fun r27 q28 hg29 hf => ?_
                      exact Runs.callV (N := B25) (W := 0) (as := []) (S' := []) d0_497 w171 w172 w173 w174 cw25 ar25 rk0_25_0 (by decide) rfl rfl (X_feedback_pay hg29) <| ans1 <| Runs.pop d0_500 rfl <| Runs.goto (pc' := 557) d0_501 (by decide) <| Runs.iinc (P' := [vr sa, vr C.2.2.1, vi i2, vi (i3 + (1 : Int32)), vi i4, vn, vi i6, vi r11, vi (r11 &&& (15 : Int32)), vi (((r11.toUInt32 >>> ((4 : Int32) &&& 31).toUInt32).toInt32) % (3 : Int32)), vi (((r11.toUInt32 >>> ((4 : Int32) &&& 31).toUInt32).toInt32) &&& (3 : Int32)), vi (((r11.toUInt32 >>> ((6 : Int32) &&& 31).toUInt32).toInt32) &&& (7 : Int32)), vi (r11 >>> ((9 : Int32) &&& 31)), vn, vn, vn, vn, vn, vn, vn, vn, vn, vn]) d0_557 ci_1 rfl (by decide) rfl <| Runs.goto (pc' := 19) d0_560 (by decide) <| Runs.forget [true, true, true, true, false, false, false, false, false, false, false, false, false, false, false, false, false, false, false, false, false, false, false] rfl <| hk19 q28 i2 (i3 + (1 : Int32)) hf
                    · refine Runs.icY (pc' := 504) d0_493 (feq hc26).2 (by decide) <| ?_
                      refine Runs.iload d0_504 rfl <| Runs.bipush d0_506 cb_14 <| ?_
                      refine ite_el hf (fun hc30 hf => ?_) (fun hc30 hf => ?_)
                      · refine Runs.icN d0_508 (teq hc30).2 <| ?_
                        refine Runs.iload d0_511 rfl <| ?_
                        refine ite_el hf (fun hc31 hf => ?_) (fun hc31 hf => ?_)
                        · refine Runs.ifN d0_513 (teq hc31).2 <| ?_
                          refine Runs.aloadN d0_516 rfl <| ?_
                          refine bind_el hf fun q32 hg33 hf => ?_
                          exact Runs.callV (N := B20) (W := 0) (as := []) (S' := []) d0_517 w149 w150 w151 w152 cw20 ar20 rk0_20_0 (by decide) rfl rfl (X_crashPublisher_pay hg33) <| ans0 <| Runs.goto (pc' := 557) d0_520 (by decide) <| Runs.iinc (P' := [vr sa, vr C.2.2.1, vi i2, vi (i3 + (1 : Int32)), vi i4, vn, vi i6, vi r11, vi (r11 &&& (15 : Int32)), vi (((r11.toUInt32 >>> ((4 : Int32) &&& 31).toUInt32).toInt32) % (3 : Int32)), vi (((r11.toUInt32 >>> ((4 : Int32) &&& 31).toUInt32).toInt32) &&& (3 : Int32)), vi (((r11.toUInt32 >>> ((6 : Int32) &&& 31).toUInt32).toInt32) &&& (7 : Int32)), vi (r11 >>> ((9 : Int32) &&& 31)), vn, vn, vn, vn, vn, vn, vn, vn, vn, vn]) d0_557 ci_1 rfl (by decide) rfl <| Runs.goto (pc' := 19) d0_560 (by decide) <| Runs.forget [true, true, true, true, false, false, false, false, false, false, false, false, false, false, false, false, false, false, false, false, false, false, false] rfl <| hk19 q32 i2 (i3 + (1 : Int32)) hf
                        · refine Runs.ifY (pc' := 523) d0_513 (feq hc31).2 (by decide) <| ?_
                          refine Runs.aloadN d0_523 rfl <| Runs.bipush d0_524 cb_64 <| ?_
                          refine bind2_el hf fun r34 q35 hg36 hf => ?_
                          exact Runs.callV (N := B23) (W := 0) (as := [.int (64 : Int32)]) (S' := []) d0_526 w162 w163 w164 w165 cw23 ar23 rk0_23_0 (by decide) rfl rfl (X_stream_pay hg36) <| ans1 <| Runs.pop d0_529 rfl <| Runs.goto (pc' := 557) d0_530 (by decide) <| Runs.iinc (P' := [vr sa, vr C.2.2.1, vi i2, vi (i3 + (1 : Int32)), vi i4, vn, vi i6, vi r11, vi (r11 &&& (15 : Int32)), vi (((r11.toUInt32 >>> ((4 : Int32) &&& 31).toUInt32).toInt32) % (3 : Int32)), vi (((r11.toUInt32 >>> ((4 : Int32) &&& 31).toUInt32).toInt32) &&& (3 : Int32)), vi (((r11.toUInt32 >>> ((6 : Int32) &&& 31).toUInt32).toInt32) &&& (7 : Int32)), vi (r11 >>> ((9 : Int32) &&& 31)), vn, vn, vn, vn, vn, vn, vn, vn, vn, vn]) d0_557 ci_1 rfl (by decide) rfl <| Runs.goto (pc' := 19) d0_560 (by decide) <| Runs.forget [true, true, true, true, false, false, false, false, false, false, false, false, false, false, false, false, false, false, false, false, false, false, false] rfl <| hk19 q35 i2 (i3 + (1 : Int32)) hf
                      · refine Runs.icY (pc' := 533) d0_508 (feq hc30).2 (by decide) <| ?_
                        refine Runs.iload d0_533 rfl <| ?_
                        refine ite_el hf (fun hc37 hf => ?_) (fun hc37 hf => ?_)
                        · refine Runs.ifN d0_535 (teq hc37).2 <| ?_
                          refine Runs.aloadN d0_538 rfl <| ?_
                          refine bind_el hf fun q38 hg39 hf => ?_
                          exact Runs.callV (N := B33) (W := 0) (as := []) (S' := []) d0_539 w203 w204 w205 w206 cw33 ar33 rk0_33_0 (by decide) rfl rfl (X_crashSubscriber_pay hg39) <| ans0 <| Runs.goto (pc' := 557) d0_542 (by decide) <| Runs.iinc (P' := [vr sa, vr C.2.2.1, vi i2, vi (i3 + (1 : Int32)), vi i4, vn, vi i6, vi r11, vi (r11 &&& (15 : Int32)), vi (((r11.toUInt32 >>> ((4 : Int32) &&& 31).toUInt32).toInt32) % (3 : Int32)), vi (((r11.toUInt32 >>> ((4 : Int32) &&& 31).toUInt32).toInt32) &&& (3 : Int32)), vi (((r11.toUInt32 >>> ((6 : Int32) &&& 31).toUInt32).toInt32) &&& (7 : Int32)), vi (r11 >>> ((9 : Int32) &&& 31)), vn, vn, vn, vn, vn, vn, vn, vn, vn, vn]) d0_557 ci_1 rfl (by decide) rfl <| Runs.goto (pc' := 19) d0_560 (by decide) <| Runs.forget [true, true, true, true, false, false, false, false, false, false, false, false, false, false, false, false, false, false, false, false, false, false, false] rfl <| hk19 q38 i2 (i3 + (1 : Int32)) hf
                        · refine Runs.ifY (pc' := 545) d0_535 (feq hc37).2 (by decide) <| ?_
                          refine Runs.aloadN d0_545 rfl <| Runs.bipush d0_546 cb_64 <| ?_
                          refine bind2_el hf fun r40 q41 hg42 hf => ?_
                          refine Runs.callV (N := B18) (W := 0) (as := [.int (64 : Int32)]) (S' := []) d0_548 w139 w140 w141 w142 cw18 ar18 rk0_18_0 (by decide) rfl rfl (X_apply_pay hg42) <| ans1 <| Runs.pop d0_551 rfl <| Runs.aloadN d0_552 rfl <| ?_
                          refine bind2_el hf fun r43 q44 hg45 hf => ?_
                          exact Runs.callV (N := B25) (W := 0) (as := []) (S' := []) d0_553 w171 w172 w173 w174 cw25 ar25 rk0_25_0 (by decide) rfl rfl (X_feedback_pay hg45) <| ans1 <| Runs.pop d0_556 rfl <| Runs.iinc (P' := [vr sa, vr C.2.2.1, vi i2, vi (i3 + (1 : Int32)), vi i4, vn, vi i6, vi r11, vi (r11 &&& (15 : Int32)), vi (((r11.toUInt32 >>> ((4 : Int32) &&& 31).toUInt32).toInt32) % (3 : Int32)), vi (((r11.toUInt32 >>> ((4 : Int32) &&& 31).toUInt32).toInt32) &&& (3 : Int32)), vi (((r11.toUInt32 >>> ((6 : Int32) &&& 31).toUInt32).toInt32) &&& (7 : Int32)), vi (r11 >>> ((9 : Int32) &&& 31)), vn, vn, vn, vn, vn, vn, vn, vn, vn, vn]) d0_557 ci_1 rfl (by decide) rfl <| Runs.goto (pc' := 19) d0_560 (by decide) <| Runs.forget [true, true, true, true, false, false, false, false, false, false, false, false, false, false, false, false, false, false, false, false, false, false, false] rfl <| hk19 q44 i2 (i3 + (1 : Int32)) hf
                  · refine Runs.icN d0_472 (flt hc25).2.2.1 <| ?_
                    refine Runs.aloadN d0_475 rfl <| Runs.iload d0_476 rfl <| Runs.iconst d0_478 ci_3 <| Runs.imul d0_479 <| Runs.iconst d0_480 ci_1 <| Runs.iadd d0_481 <| ?_
                    refine bind2_el hf fun r46 q47 hg48 hf => ?_
                    exact Runs.callV (N := B18) (W := 0) (as := [.int (((((r11.toUInt32 >>> ((4 : Int32) &&& 31).toUInt32).toInt32) &&& (3 : Int32)) * (3 : Int32)) + (1 : Int32))]) (S' := []) d0_482 w139 w140 w141 w142 cw18 ar18 rk0_18_0 (by decide) rfl rfl (X_apply_pay hg48) <| ans1 <| Runs.pop d0_485 rfl <| Runs.goto (pc' := 557) d0_486 (by decide) <| Runs.iinc (P' := [vr sa, vr C.2.2.1, vi i2, vi (i3 + (1 : Int32)), vi i4, vn, vi i6, vi r11, vi (r11 &&& (15 : Int32)), vi (((r11.toUInt32 >>> ((4 : Int32) &&& 31).toUInt32).toInt32) % (3 : Int32)), vi (((r11.toUInt32 >>> ((4 : Int32) &&& 31).toUInt32).toInt32) &&& (3 : Int32)), vi (((r11.toUInt32 >>> ((6 : Int32) &&& 31).toUInt32).toInt32) &&& (7 : Int32)), vi (r11 >>> ((9 : Int32) &&& 31)), vn, vn, vn, vn, vn, vn, vn, vn, vn, vn]) d0_557 ci_1 rfl (by decide) rfl <| Runs.goto (pc' := 19) d0_560 (by decide) <| Runs.forget [true, true, true, true, false, false, false, false, false, false, false, false, false, false, false, false, false, false, false, false, false, false, false] rfl <| hk19 q47 i2 (i3 + (1 : Int32)) hf
                · refine Runs.icN d0_453 (flt hc24).2.2.1 <| ?_
                  refine Runs.aloadN d0_456 rfl <| Runs.iload d0_457 rfl <| Runs.iconst d0_459 ci_1 <| Runs.iadd d0_460 <| ?_
                  refine bind2_el hf fun r49 q50 hg51 hf => ?_
                  exact Runs.callV (N := B23) (W := 0) (as := [.int ((((r11.toUInt32 >>> ((4 : Int32) &&& 31).toUInt32).toInt32) &&& (3 : Int32)) + (1 : Int32))]) (S' := []) d0_461 w162 w163 w164 w165 cw23 ar23 rk0_23_0 (by decide) rfl rfl (X_stream_pay hg51) <| ans1 <| Runs.pop d0_464 rfl <| Runs.goto (pc' := 557) d0_465 (by decide) <| Runs.iinc (P' := [vr sa, vr C.2.2.1, vi i2, vi (i3 + (1 : Int32)), vi i4, vn, vi i6, vi r11, vi (r11 &&& (15 : Int32)), vi (((r11.toUInt32 >>> ((4 : Int32) &&& 31).toUInt32).toInt32) % (3 : Int32)), vi (((r11.toUInt32 >>> ((4 : Int32) &&& 31).toUInt32).toInt32) &&& (3 : Int32)), vi (((r11.toUInt32 >>> ((6 : Int32) &&& 31).toUInt32).toInt32) &&& (7 : Int32)), vi (r11 >>> ((9 : Int32) &&& 31)), vn, vn, vn, vn, vn, vn, vn, vn, vn, vn]) d0_557 ci_1 rfl (by decide) rfl <| Runs.goto (pc' := 19) d0_560 (by decide) <| Runs.forget [true, true, true, true, false, false, false, false, false, false, false, false, false, false, false, false, false, false, false, false, false, false, false] rfl <| hk19 q50 i2 (i3 + (1 : Int32)) hf
            · refine Runs.icN d0_419 (flt hc19).2.2.1 <| ?_
              refine Runs.aloadN d0_422 rfl <| Runs.iload d0_423 rfl <| ?_
              refine bind2_el hf fun r52 q53 hg54 hf => ?_
              exact Runs.callV (N := B19) (W := 0) (as := [.int (((r11.toUInt32 >>> ((4 : Int32) &&& 31).toUInt32).toInt32) % (3 : Int32))]) (S' := []) d0_425 w144 w145 w146 w147 cw19 ar19 rk0_19_0 (by decide) rfl rfl (X_commit_pay hg54) <| ans1 <| Runs.pop d0_428 rfl <| Runs.goto (pc' := 557) d0_429 (by decide) <| Runs.iinc (P' := [vr sa, vr C.2.2.1, vi i2, vi (i3 + (1 : Int32)), vi i4, vn, vi i6, vi r11, vi (r11 &&& (15 : Int32)), vi (((r11.toUInt32 >>> ((4 : Int32) &&& 31).toUInt32).toInt32) % (3 : Int32)), vi (((r11.toUInt32 >>> ((4 : Int32) &&& 31).toUInt32).toInt32) &&& (3 : Int32)), vi (((r11.toUInt32 >>> ((6 : Int32) &&& 31).toUInt32).toInt32) &&& (7 : Int32)), vi (r11 >>> ((9 : Int32) &&& 31)), vn, vn, vn, vn, vn, vn, vn, vn, vn, vn]) d0_557 ci_1 rfl (by decide) rfl <| Runs.goto (pc' := 19) d0_560 (by decide) <| Runs.forget [true, true, true, true, false, false, false, false, false, false, false, false, false, false, false, false, false, false, false, false, false, false, false] rfl <| hk19 q53 i2 (i3 + (1 : Int32)) hf
        · refine Runs.icN d0_380 (flt hc14).2.2.1 <| ?_
          refine Runs.aloadN d0_383 rfl <| Runs.iload d0_384 rfl <| Runs.iload d0_386 rfl <| Runs.iload d0_388 rfl <| ?_
          refine bind2_el hf fun r55 q56 hg57 hf => ?_
          exact Runs.callV (N := B8) (W := 0) (as := [.int (((r11.toUInt32 >>> ((4 : Int32) &&& 31).toUInt32).toInt32) % (3 : Int32)), .int (((r11.toUInt32 >>> ((6 : Int32) &&& 31).toUInt32).toInt32) &&& (7 : Int32)), .int (r11 >>> ((9 : Int32) &&& 31))]) (S' := []) d0_390 w94 w95 w96 w97 cw8 ar8 rk0_8_0 (by decide) rfl rfl (X_put_pay hg57) <| ans1 <| Runs.pop d0_393 rfl <| Runs.goto (pc' := 557) d0_394 (by decide) <| Runs.iinc (P' := [vr sa, vr C.2.2.1, vi i2, vi (i3 + (1 : Int32)), vi i4, vn, vi i6, vi r11, vi (r11 &&& (15 : Int32)), vi (((r11.toUInt32 >>> ((4 : Int32) &&& 31).toUInt32).toInt32) % (3 : Int32)), vi (((r11.toUInt32 >>> ((4 : Int32) &&& 31).toUInt32).toInt32) &&& (3 : Int32)), vi (((r11.toUInt32 >>> ((6 : Int32) &&& 31).toUInt32).toInt32) &&& (7 : Int32)), vi (r11 >>> ((9 : Int32) &&& 31)), vn, vn, vn, vn, vn, vn, vn, vn, vn, vn]) d0_557 ci_1 rfl (by decide) rfl <| Runs.goto (pc' := 19) d0_560 (by decide) <| Runs.forget [true, true, true, true, false, false, false, false, false, false, false, false, false, false, false, false, false, false, false, false, false, false, false] rfl <| hk19 q56 i2 (i3 + (1 : Int32)) hf
      · refine Runs.icN d0_364 (flt hc13).2.2.1 <| ?_
        refine Runs.aloadN d0_367 rfl <| Runs.iload d0_368 rfl <| ?_
        refine bind2_el hf fun r58 q59 hg60 hf => ?_
        exact Runs.callV (N := B12) (W := 0) (as := [.int (((r11.toUInt32 >>> ((4 : Int32) &&& 31).toUInt32).toInt32) % (3 : Int32))]) (S' := []) d0_370 w111 w112 w113 w114 cw12 ar12 rk0_12_0 (by decide) rfl rfl (X_begin_pay hg60) <| ans1 <| Runs.pop d0_373 rfl <| Runs.goto (pc' := 557) d0_374 (by decide) <| Runs.iinc (P' := [vr sa, vr C.2.2.1, vi i2, vi (i3 + (1 : Int32)), vi i4, vn, vi i6, vi r11, vi (r11 &&& (15 : Int32)), vi (((r11.toUInt32 >>> ((4 : Int32) &&& 31).toUInt32).toInt32) % (3 : Int32)), vi (((r11.toUInt32 >>> ((4 : Int32) &&& 31).toUInt32).toInt32) &&& (3 : Int32)), vi (((r11.toUInt32 >>> ((6 : Int32) &&& 31).toUInt32).toInt32) &&& (7 : Int32)), vi (r11 >>> ((9 : Int32) &&& 31)), vn, vn, vn, vn, vn, vn, vn, vn, vn, vn]) d0_557 ci_1 rfl (by decide) rfl <| Runs.goto (pc' := 19) d0_560 (by decide) <| Runs.forget [true, true, true, true, false, false, false, false, false, false, false, false, false, false, false, false, false, false, false, false, false, false, false] rfl <| hk19 q59 i2 (i3 + (1 : Int32)) hf
theorem L_law_l57_p {C : Ctx} {sa : Nat} {z : Int32} {f : Int32 → Int32} (hs : ScrF C sa z f) {res : Int32} {NF : Nat} (k19 : Rec → Int32 → Int32 → Option (Int32)) (hk19 : ∀ (ob : Rec) (i2 : Int32) (i3 : Int32), k19 ob i2 i3 = some res → Runs C B0 18 1392 19 [vr sa, vr C.2.2.1, vi i2, vi i3, vn, vn, vn, vn, vn, vn, vn, vn, vn, vn, vn, vn, vn, vn, vn, vn, vn, vn, vn] [] (C.2.2.1 + 1 + 17, (C.2.2.1, 17, ob) :: []) (fun v _ => v = (some (.int res)))) (n : Nat) (ob : Rec) (i2 : Int32) (i3 : Int32) (i4 : Int32) (i6 : Int32) (i7 : Int32) (hf : L_law_l57 NF z f k19 n ob i2 i3 i4 i6 i7 = some res) : Runs C B0 18 1392 57 [vr sa, vr C.2.2.1, vi i2, vi i3, vi i4, vn, vi i6, vi i7, vn, vn, vn, vn, vn, vn, vn, vn, vn, vn, vn, vn, vn, vn, vn] [] (C.2.2.1 + 1 + 17, (C.2.2.1, 17, ob) :: []) (fun v _ => v = (some (.int res))) := by
  induction n generalizing ob i2 i3 i4 i6 i7 with
  | zero => cases (show (none : Option (Int32)) = some res from hf)
  | succ n ih => exact L_law_w57_p hs k19 hk19 (L_law_l57 NF z f k19 n) (fun ob i2 i3 i4 i6 i7 h => ih _ _ _ _ _ _ h) ob i2 i3 i4 i6 i7 hf
def L_law_w19 (NF : Nat) (z : Int32) (f : Int32 → Int32) (k19 : Rec → Int32 → Int32 → Option (Int32)) (ob : Rec) (i2 : Int32) (i3 : Int32) : Option (Int32) :=
  if i2 < i3 then
    some (1 : Int32)
  else
    (X_info ob (4 : Int32)).bind fun r2 =>
    (X_info ob (5 : Int32)).bind fun r4 =>
    if r2 < r4 then
      some (0 : Int32)
    else
      (X_info ob (0 : Int32)).bind fun r7 =>
      L_law_l57 NF z f k19 NF ob i2 i3 r2 r7 (0 : Int32)
def L_law_l19 (NF : Nat) (z : Int32) (f : Int32 → Int32) : Nat → Rec → Int32 → Int32 → Option (Int32)
  | 0, _, _, _ => none
  | n + 1, ob, i2, i3 => L_law_w19 NF z f (L_law_l19 NF z f n) ob i2 i3
set_option maxRecDepth 65536 in
set_option maxHeartbeats 4000000 in
theorem L_law_w19_p {C : Ctx} {sa : Nat} {z : Int32} {f : Int32 → Int32} (hs : ScrF C sa z f) {res : Int32} {NF : Nat} (k19 : Rec → Int32 → Int32 → Option (Int32)) (hk19 : ∀ (ob : Rec) (i2 : Int32) (i3 : Int32), k19 ob i2 i3 = some res → Runs C B0 18 1392 19 [vr sa, vr C.2.2.1, vi i2, vi i3, vn, vn, vn, vn, vn, vn, vn, vn, vn, vn, vn, vn, vn, vn, vn, vn, vn, vn, vn] [] (C.2.2.1 + 1 + 17, (C.2.2.1, 17, ob) :: []) (fun v _ => v = (some (.int res)))) (ob : Rec) (i2 : Int32) (i3 : Int32) (hf : L_law_w19 NF z f k19 ob i2 i3 = some res) : Runs C B0 18 1392 19 [vr sa, vr C.2.2.1, vi i2, vi i3, vn, vn, vn, vn, vn, vn, vn, vn, vn, vn, vn, vn, vn, vn, vn, vn, vn, vn, vn] [] (C.2.2.1 + 1 + 17, (C.2.2.1, 17, ob) :: []) (fun v _ => v = (some (.int res))) := by
  delta L_law_w19 at hf
  refine Runs.iloadN d0_19 rfl <| Runs.iloadN d0_20 rfl <| ?_
  refine ite_el hf (fun hc1 hf => ?_) (fun hc1 hf => ?_)
  · refine Runs.icY (pc' := 563) d0_21 (tlt hc1).2.2.1 (by decide) <| ?_
    obtain rfl := Option.some.inj hf
    exact Runs.iconst d0_563 ci_1 <| Runs.retZ (y := (1 : Int32)) d0_564 rfl ⟨by decide, by decide⟩ rfl rfl
  · refine Runs.icN d0_21 (flt hc1).2.2.1 <| ?_
    refine Runs.aloadN d0_24 rfl <| Runs.iconst d0_25 ci_4 <| ?_
    refine bind_el hf fun r2 hg3 hf => ?_
    refine Runs.callV (N := B3) (W := 0) (as := [.int (4 : Int32)]) (S' := []) d0_26 w69 w70 w71 w72 cw3 ar3 rk0_3_0 (by decide) rfl rfl (X_info_pay hg3) <| ans1 <| Runs.istore (P' := [vr sa, vr C.2.2.1, vi i2, vi i3, vi r2, vn, vn, vn, vn, vn, vn, vn, vn, vn, vn, vn, vn, vn, vn, vn, vn, vn, vn]) d0_29 (by decide) rfl <| Runs.aloadN d0_31 rfl <| Runs.iconst d0_32 ci_5 <| ?_
    refine bind_el hf fun r4 hg5 hf => ?_
    refine Runs.callV (N := B3) (W := 0) (as := [.int (5 : Int32)]) (S' := []) d0_33 w69 w70 w71 w72 cw3 ar3 rk0_3_0 (by decide) rfl rfl (X_info_pay hg5) <| ans1 <| Runs.istore (P' := [vr sa, vr C.2.2.1, vi i2, vi i3, vi r2, vi r4, vn, vn, vn, vn, vn, vn, vn, vn, vn, vn, vn, vn, vn, vn, vn, vn, vn]) d0_36 (by decide) rfl <| Runs.iload d0_38 rfl <| Runs.iload d0_40 rfl <| ?_
    refine ite_el hf (fun hc6 hf => ?_) (fun hc6 hf => ?_)
    · refine Runs.icN d0_42 (tlt hc6).2.2.2 <| ?_
      obtain rfl := Option.some.inj hf
      exact Runs.iconst d0_45 ci_0 <| Runs.retZ (y := (0 : Int32)) d0_46 rfl ⟨by decide, by decide⟩ rfl rfl
    · refine Runs.icY (pc' := 47) d0_42 (flt hc6).2.2.2 (by decide) <| ?_
      refine Runs.aloadN d0_47 rfl <| Runs.iconst d0_48 ci_0 <| ?_
      refine bind_el hf fun r7 hg8 hf => ?_
      exact Runs.callV (N := B3) (W := 0) (as := [.int (0 : Int32)]) (S' := []) d0_49 w69 w70 w71 w72 cw3 ar3 rk0_3_0 (by decide) rfl rfl (X_info_pay hg8) <| ans1 <| Runs.istore (P' := [vr sa, vr C.2.2.1, vi i2, vi i3, vi r2, vi r4, vi r7, vn, vn, vn, vn, vn, vn, vn, vn, vn, vn, vn, vn, vn, vn, vn, vn]) d0_52 (by decide) rfl <| Runs.iconst d0_54 ci_0 <| Runs.istore (P' := [vr sa, vr C.2.2.1, vi i2, vi i3, vi r2, vi r4, vi r7, vi (0 : Int32), vn, vn, vn, vn, vn, vn, vn, vn, vn, vn, vn, vn, vn, vn, vn]) d0_55 (by decide) rfl <| Runs.forget [true, true, true, true, true, false, true, true, false, false, false, false, false, false, false, false, false, false, false, false, false, false, false] rfl <| L_law_l57_p hs k19 hk19 NF ob i2 i3 r2 r7 (0 : Int32) hf
theorem L_law_l19_p {C : Ctx} {sa : Nat} {z : Int32} {f : Int32 → Int32} (hs : ScrF C sa z f) {res : Int32} {NF : Nat} (n : Nat) (ob : Rec) (i2 : Int32) (i3 : Int32) (hf : L_law_l19 NF z f n ob i2 i3 = some res) : Runs C B0 18 1392 19 [vr sa, vr C.2.2.1, vi i2, vi i3, vn, vn, vn, vn, vn, vn, vn, vn, vn, vn, vn, vn, vn, vn, vn, vn, vn, vn, vn] [] (C.2.2.1 + 1 + 17, (C.2.2.1, 17, ob) :: []) (fun v _ => v = (some (.int res))) := by
  induction n generalizing ob i2 i3 with
  | zero => cases (show (none : Option (Int32)) = some res from hf)
  | succ n ih => exact L_law_w19_p hs (L_law_l19 NF z f n) (fun ob i2 i3 h => ih _ _ _ h) ob i2 i3 hf
def L_law (NF : Nat) (z : Int32) (f : Int32 → Int32) : Option (Int32) :=
  (X_init (8 : Int32) (3 : Int32) (64 : Int32) (4 : Int32)).bind fun q100 =>
  L_law_l19 NF z f NF q100 z (0 : Int32)
set_option maxRecDepth 65536 in
set_option maxHeartbeats 4000000 in
theorem L_law_p {C : Ctx} {sa : Nat} {z : Int32} {f : Int32 → Int32} (hs : ScrF C sa z f) {res : Int32} {NF : Nat} (hf : L_law NF z f = some res) : Runs C B0 0 0 0 [vr sa, vn, vn, vn, vn, vn, vn, vn, vn, vn, vn, vn, vn, vn, vn, vn, vn, vn, vn, vn, vn, vn, vn] [] (C.2.2.1, []) (fun v _ => v = (some (.int res))) := by
  delta L_law at hf
  refine Runs.newK (k' := 1) (n' := 27) d0_0 w0 ⟨by decide, by decide⟩ rfl rfl (by intro x hx; cases hx) <| Runs.dup d0_3 rfl <| Runs.bipush d0_4 cb_8 <| Runs.iconst d0_6 ci_3 <| Runs.bipush d0_7 cb_64 <| Runs.iconst d0_9 ci_4 <| ?_
  refine bind_el hf fun q100 hg101 hf => ?_
  exact Runs.callI (N := B1) (k' := 18) (n' := 1392) (W := 1) (as := [.int (8 : Int32), .int (3 : Int32), .int (64 : Int32), .int (4 : Int32)]) (S' := [.ref C.2.2.1]) d0_10 rfl rfl w3 w4 cw1 ar1 (by decide) rfl rfl rfl rfl (X_init_pay hg101) <| ans0 <| Runs.astoreN (P' := [vr sa, vr C.2.2.1, vn, vn, vn, vn, vn, vn, vn, vn, vn, vn, vn, vn, vn, vn, vn, vn, vn, vn, vn, vn, vn]) d0_13 (by decide) rfl <| Runs.aloadN d0_14 rfl <| Runs.lenS hs d0_15 <| Runs.istoreN (P' := [vr sa, vr C.2.2.1, vi z, vn, vn, vn, vn, vn, vn, vn, vn, vn, vn, vn, vn, vn, vn, vn, vn, vn, vn, vn, vn]) d0_16 (by decide) rfl <| Runs.iconst d0_17 ci_0 <| Runs.istoreN (P' := [vr sa, vr C.2.2.1, vi z, vi (0 : Int32), vn, vn, vn, vn, vn, vn, vn, vn, vn, vn, vn, vn, vn, vn, vn, vn, vn, vn, vn]) d0_18 (by decide) rfl <| L_law_l19_p hs NF q100 z (0 : Int32) hf
theorem L_law_pay {C : Ctx} {sa : Nat} {z : Int32} {f : Int32 → Int32} (hs : ScrF C sa z f) {res : Int32} {NF : Nat} (hf : L_law NF z f = some res) : Pays C B0 [.ref sa] (C.2.2.1, []) (fun v _ => v = (some (.int res))) :=
  Pays.of pnL (Nat.le_of_ble_eq_true rfl) (P := [vr sa, vn, vn, vn, vn, vn, vn, vn, vn, vn, vn, vn, vn, vn, vn, vn, vn, vn, vn, vn, vn, vn, vn]) 22 rfl (L_law_p hs hf)
-- no word: X_info at 54: method #153
-- no word: X_info at 79: method #157
-- no word: X_info at 84: method #160
--OWED--
theorem gI_sI (ob : Rec) (k j : Nat) (v : Int32) : gI (sI ob k v) j = if j = k then v else gI ob j := rfl
theorem gI_sA (ob : Rec) (k j : Nat) (i v : Int32) : gI (sA ob k i v) j = gI ob j := rfl
theorem gI_sJ (ob : Rec) (k j : Nat) (i : Int32) (v : Int64) : gI (sJ ob k i v) j = gI ob j := rfl
theorem gA_sI (ob : Rec) (k j : Nat) (v x : Int32) : gA (sI ob k v) j x = gA ob j x := rfl
theorem gA_sA (ob : Rec) (k j : Nat) (i v x : Int32) : gA (sA ob k i v) j x = if j = k ∧ x = i then v else gA ob j x := rfl
theorem gA_sJ (ob : Rec) (k j : Nat) (i x : Int32) (v : Int64) : gA (sJ ob k i v) j x = gA ob j x := rfl
theorem gJ_sI (ob : Rec) (k j : Nat) (v x : Int32) : gJ (sI ob k v) j x = gJ ob j x := rfl
theorem gJ_sA (ob : Rec) (k j : Nat) (i v x : Int32) : gJ (sA ob k i v) j x = gJ ob j x := rfl
theorem gJ_sJ (ob : Rec) (k j : Nat) (i x : Int32) (v : Int64) : gJ (sJ ob k i v) j x = if j = k ∧ x = i then v else gJ ob j x := rfl
theorem gI_z (k : Nat) : gI zrec k = 0 := rfl
theorem gA_z (k : Nat) (i : Int32) : gA zrec k i = 0 := rfl
theorem gJ_z (k : Nat) (i : Int32) : gJ zrec k i = 0 := rfl
theorem chk_ok {γ : Type} {n i : Int32} {A : Option γ} (h : 0 ≤ i.toInt ∧ i.toInt < n.toInt) : chk n i A = A := by
  have h0 : ¬ i < 0 := by rw [Int32.lt_iff_toInt_lt]; show ¬ i.toInt < 0; omega
  have h1 : i < n := by rw [Int32.lt_iff_toInt_lt]; exact h.2
  unfold chk; rw [if_neg h0, if_pos h1]
theorem lt_i {x y : Int32} : x < y ↔ x.toInt < y.toInt := Int32.lt_iff_toInt_lt
theorem le_i {x y : Int32} : x ≤ y ↔ x.toInt ≤ y.toInt := Int32.le_iff_toInt_le
theorem eq_i32 {x y : Int32} : x = y ↔ x.toInt = y.toInt := Int32.toInt_inj.symm
theorem bm_id {n : Int} (h : -2147483648 ≤ n ∧ n < 2147483648) : n.bmod (2 ^ 32) = n := Int.bmod_eq_of_le (by omega) (by omega)
theorem ad {x y : Int32} (h : -2147483648 ≤ x.toInt + y.toInt ∧ x.toInt + y.toInt < 2147483648) : (x + y).toInt = x.toInt + y.toInt := by rw [Int32.toInt_add, bm_id h]
theorem sb {x y : Int32} (h : -2147483648 ≤ x.toInt - y.toInt ∧ x.toInt - y.toInt < 2147483648) : (x - y).toInt = x.toInt - y.toInt := by rw [Int32.toInt_sub, bm_id h]
theorem ml {x y : Int32} (h : -2147483648 ≤ x.toInt * y.toInt ∧ x.toInt * y.toInt < 2147483648) : (x * y).toInt = x.toInt * y.toInt := by rw [Int32.toInt_mul, bm_id h]
theorem bind2_some {α β γ : Type} (a : α) (b : β) (f : α → β → Option γ) : bind2 (some (a, b)) f = f a b := rfl
theorem and_b (x m : Int32) (k : Nat) (hm : m.toBitVec.toNat = k) (hk : k < 2147483648) : 0 ≤ (x &&& m).toInt ∧ (x &&& m).toInt ≤ (k : Int) := by
  have h1 : (x &&& m).toBitVec.toNat = x.toBitVec.toNat &&& m.toBitVec.toNat := by rw [Int32.toBitVec_and, BitVec.toNat_and]
  have h2 : (x &&& m).toBitVec.toNat ≤ k := by rw [h1, hm]; exact Nat.and_le_right
  have h3 : (x &&& m).toInt = ((x &&& m).toBitVec.toNat : Int) := by
    show (x &&& m).toBitVec.toInt = _
    exact BitVec.toInt_eq_toNat_of_lt (by omega)
  rw [h3]; omega
theorem mem8 (x : Int32) : (x &&& 7) ∈ ([0, 1, 2, 3, 4, 5, 6, 7] : List Int32) := by
  have h := and_b x 7 7 rfl (by omega)
  simp only [List.mem_cons, eq_i32, Int32.reduceToInt, List.not_mem_nil, or_false]
  omega
theorem mem2 (x : Int32) : (x &&& 1) ∈ ([0, 1] : List Int32) := by
  have h := and_b x 1 1 rfl (by omega)
  simp only [List.mem_cons, eq_i32, Int32.reduceToInt, List.not_mem_nil, or_false]
  omega
theorem dv {x y : Int32} (hx : 0 ≤ x.toInt) (hy : 0 < y.toInt) : (x / y).toInt = x.toInt / y.toInt := by
  rw [Int32.toInt_div, Int.tdiv_eq_ediv_of_nonneg hx]
  have h1 : x.toInt / y.toInt ≤ x.toInt := Int.ediv_le_self _ hx
  have h2 : 0 ≤ x.toInt / y.toInt := Int.ediv_nonneg hx (by omega)
  have h3 := x.toInt_lt
  exact Int.bmod_eq_of_le (by omega) (by omega)
theorem md {x y : Int32} (hx : 0 ≤ x.toInt) (_ : 0 < y.toInt) : (x % y).toInt = x.toInt % y.toInt := by
  rw [Int32.toInt_mod, Int.tmod_eq_emod_of_nonneg hx]
def n32 (n : Nat) : Int32 := Int32.ofInt (n : Int)
theorem nt (n : Nat) (h : n < 100000) : (n32 n).toInt = n := by
  unfold n32; rw [Int32.toInt_ofInt]; exact bm_id (by omega)
theorem n32_t (x : Int32) (h : 0 ≤ x.toInt) : n32 x.toInt.toNat = x := by
  unfold n32; rw [Int.toNat_of_nonneg h, Int32.ofInt_toInt]
def cN (f : Nat → Bool) : Nat → Nat
  | 0 => 0
  | n + 1 => cN f n + (if f n then 1 else 0)
theorem cN_le {f g : Nat → Bool} : ∀ n, (∀ i, i < n → f i = true → g i = true) → cN f n ≤ cN g n
  | 0, _ => Nat.le_refl 0
  | n + 1, h => by
    have h1 := cN_le n (fun i hi => h i (by omega))
    have h2 := h n (by omega)
    show cN f n + _ ≤ cN g n + _
    cases hf : f n
    · simp; omega
    · rw [h2 hf]; simp; omega
theorem cN_eq {f g : Nat → Bool} (n : Nat) (h : ∀ i, i < n → f i = g i) : cN f n = cN g n :=
  Nat.le_antisymm (cN_le n (fun i hi e => (h i hi) ▸ e)) (cN_le n (fun i hi e => (h i hi).symm ▸ e))
theorem cN_set {f g : Nat → Bool} {j : Nat} (fj : f j = false) (gj : g j = true) : ∀ n, j < n → (∀ i, i < n → i ≠ j → g i = f i) → cN g n = cN f n + 1
  | 0, h, _ => absurd h (by omega)
  | n + 1, h, e => by
    show cN g n + _ = cN f n + _ + 1
    by_cases c : j = n
    · subst c
      rw [cN_eq j (fun i hi => e i (by omega) (by omega)), fj, gj]; simp
    · rw [cN_set fj gj n (by omega) (fun i hi => e i (by omega)), e n (by omega) (fun h => c h.symm)]; omega
theorem cN_lt {f g : Nat → Bool} {j : Nat} (n : Nat) (hj : j < n) (fj : f j = false) (gj : g j = true) (h : ∀ i, i < n → f i = true → g i = true) : cN f n + 1 ≤ cN g n := by
  have := cN_set (f := f) (g := fun i => if i = j then true else f i) fj (by simp) n hj (fun i _ c => by simp [c])
  rw [← this]
  apply cN_le
  intro i hi e
  by_cases c : i = j
  · rw [c]; exact gj
  · simp only [c, if_false] at e; exact h i hi e
theorem cN_full {f : Nat → Bool} : ∀ n m, m ≤ n → (∀ i, i < m → f i = true) → m ≤ cN f n
  | 0, m, h, _ => by omega
  | n + 1, m, h, e => by
    show m ≤ cN f n + _
    by_cases c : m ≤ n
    · have := cN_full n m c e; omega
    · have := cN_full n n (Nat.le_refl n) (fun i hi => e i (by omega))
      rw [e n (by omega)]; simp; omega
abbrev In (n : Int) (x : Int32) : Prop := 0 ≤ x.toInt ∧ x.toInt < n
theorem neg_i {x : Int32} : x < 0 ↔ x.toInt < 0 := by rw [lt_i]; exact Iff.rfl
theorem nneg {x : Int32} (h : 0 ≤ x.toInt) : ¬ x < 0 := by rw [neg_i]; omega
theorem nneg' {x : Int32} (h : ¬ x < 0) : 0 ≤ x.toInt := by rw [neg_i] at h; omega
theorem s1 {i : Int32} (h : 0 ≤ i.toInt ∧ i.toInt < 100000) : (i + 1).toInt = i.toInt + 1 := by
  rw [ad (by show -2147483648 ≤ i.toInt + 1 ∧ i.toInt + 1 < 2147483648; omega)]; rfl
theorem ckn {γ : Type} {n : Int32} {m : Int} {i : Int32} {A : Option γ} (hm : n.toInt = m) (h : In m i) : chk n i A = A := chk_ok (by rw [hm]; exact h)
theorem ltn {x y : Int32} {m : Int} (hm : y.toInt = m) (h : x.toInt < m) : x < y := by rw [lt_i, hm]; exact h
theorem nltn {x y : Int32} {m : Int} (hm : y.toInt = m) (h : ¬ x.toInt < m) : ¬ x < y := by rw [lt_i, hm]; exact h
theorem cN_b (f : Nat → Bool) : ∀ n, cN f n ≤ n
  | 0 => Nat.le_refl 0
  | n + 1 => by
    have := cN_b f n
    show cN f n + _ ≤ n + 1
    split <;> omega
theorem cN_pos {f : Nat → Bool} {j : Nat} (n : Nat) (hj : j < n) (fj : f j = true) : 1 ≤ cN f n := by
  have z : ∀ n, cN (fun _ => false) n = 0 := fun n => by induction n with
    | zero => rfl
    | succ n ih => show cN (fun _ => false) n + _ = 0; rw [ih]; rfl
  have := cN_lt (f := fun _ => false) (g := f) n hj rfl fj (fun _ _ e => by simp at e)
  rw [z] at this; exact this
theorem ni {i n : Nat} (h : i < n) (hn : n ≤ 1000) : In (n : Int) (n32 i) := by
  rw [In, nt i (by omega)]; omega
theorem n32_inj {i j : Nat} (hi : i < 1000) (hj : j < 1000) (e : n32 i = n32 j) : i = j := by
  have := congrArg Int32.toInt e
  rw [nt i (by omega), nt j (by omega)] at this; omega
abbrev Lg : Type := Nat → Nat → Int32
abbrev Tb : Type := Nat → Option Int32
abbrev Pd : Type := Nat → Option (Option Int32)
abbrev Msg : Type := Int32 × Int32 × Int32 × Int32
def mt (lg : Lg) (s : Int32) (p : Nat) : Bool := decide (lg 1 p = s ∧ (lg 0 p = 2 ∨ lg 0 p = 3))
def eff (lg : Lg) (p : Nat) : Option Int32 := if lg 0 p = 2 then some (lg 3 p) else none
def st1 (lg : Lg) (s : Int32) (p : Nat) (T : Tb) : Tb := if mt lg s p then (fun k => if k = (lg 2 p).toInt.toNat then eff lg p else T k) else T
def apx (lg : Lg) (s : Int32) (p : Nat) : Nat → Tb → Tb
  | 0, T => T
  | n + 1, T => st1 lg s (p + n) (apx lg s p n T)
def st2 (lg : Lg) (s : Int32) (p : Nat) (P : Pd) : Pd := if mt lg s p then (fun k => if k = (lg 2 p).toInt.toNat then some (eff lg p) else P k) else P
def pnx (lg : Lg) (s : Int32) (p : Nat) : Nat → Pd
  | 0 => fun _ => none
  | n + 1 => st2 lg s (p + n) (pnx lg s p n)
def apd (P : Pd) (T : Tb) : Tb := fun k => match P k with
  | none => T k
  | some x => x
theorem apx_pnx (lg : Lg) (s : Int32) (p : Nat) (T : Tb) : ∀ n, apx lg s p n T = apd (pnx lg s p n) T
  | 0 => rfl
  | n + 1 => by
    show st1 lg s (p + n) (apx lg s p n T) = apd (st2 lg s (p + n) (pnx lg s p n)) T
    rw [apx_pnx lg s p T n]
    unfold st1 st2
    cases mt lg s (p + n)
    · rfl
    · funext k
      show (if k = _ then _ else _) = match (if k = _ then _ else _) with | none => T k | some x => x
      by_cases c : k = (lg 2 (p + n)).toInt.toNat
      · rw [if_pos c, if_pos c]
      · rw [if_neg c, if_neg c]; rfl
def bg (lg : Lg) (c : Nat) : Nat := (lg 4 c).toInt.toNat
def rp (lg : Lg) : Nat → Tb
  | 0 => fun _ => none
  | n + 1 => if lg 0 (n + 1) = 4 then apx lg (lg 1 (n + 1)) (bg lg (n + 1) + 1) (n + 1 - (bg lg (n + 1) + 1)) (rp lg n) else rp lg n
def msg (lg : Lg) (c p : Nat) : Msg := (lg 0 p, lg 2 p, lg 3 p, n32 c)
def msx (lg : Lg) (s : Int32) (c p : Nat) : Nat → List Msg
  | 0 => []
  | n + 1 => msx lg s c p n ++ (if mt lg s (p + n) then [msg lg c (p + n)] else [])
def cmsg (c : Nat) : Msg := (4, 0, 0, n32 c)
def tx (lg : Lg) (c : Nat) : List Msg := msx lg (lg 1 c) c (bg lg c + 1) (c - (bg lg c + 1)) ++ [cmsg c]
def em (lg : Lg) (e : Nat) : Nat → List Msg
  | 0 => []
  | n + 1 => em lg e n ++ (if lg 0 (e + n + 1) = 4 then tx lg (e + n + 1) else [])
def cl (lg : Lg) : Nat → Nat → Bool
  | 0, _ => false
  | n + 1, p => cl lg n p || (decide (lg 0 (n + 1) = 4) && (decide (p = n + 1) || (decide (bg lg (n + 1) < p ∧ p < n + 1) && mt lg (lg 1 (n + 1)) p)))
/-- two logs that agree up to n -/
abbrev Ag (lg lg' : Lg) (n : Nat) : Prop := ∀ j p, p ≤ n → lg' j p = lg j p
theorem Ag.mono {lg lg' : Lg} {n m : Nat} (h : Ag lg lg' n) (hm : m ≤ n) : Ag lg lg' m := fun j p hp => h j p (by omega)
theorem mt_a {lg lg' : Lg} {n : Nat} (h : Ag lg lg' n) (s : Int32) {p : Nat} (hp : p ≤ n) : mt lg' s p = mt lg s p := by unfold mt; rw [h 1 p hp, h 0 p hp]
theorem eff_a {lg lg' : Lg} {n : Nat} (h : Ag lg lg' n) {p : Nat} (hp : p ≤ n) : eff lg' p = eff lg p := by unfold eff; rw [h 3 p hp, h 0 p hp]
theorem apx_a {lg lg' : Lg} {n : Nat} (h : Ag lg lg' n) (s : Int32) (p : Nat) (T : Tb) : ∀ m, p + m ≤ n + 1 → apx lg' s p m T = apx lg s p m T
  | 0, _ => rfl
  | m + 1, hm => by
    show st1 lg' s (p + m) (apx lg' s p m T) = st1 lg s (p + m) (apx lg s p m T)
    rw [apx_a h s p T m (by omega)]
    unfold st1
    rw [mt_a h s (by omega), h 2 _ (by omega), eff_a h (by omega)]
theorem pnx_a {lg lg' : Lg} {n : Nat} (h : Ag lg lg' n) (s : Int32) (p : Nat) : ∀ m, p + m ≤ n + 1 → pnx lg' s p m = pnx lg s p m
  | 0, _ => rfl
  | m + 1, hm => by
    show st2 lg' s (p + m) (pnx lg' s p m) = st2 lg s (p + m) (pnx lg s p m)
    rw [pnx_a h s p m (by omega)]
    unfold st2
    rw [mt_a h s (by omega), h 2 _ (by omega), eff_a h (by omega)]
theorem bg_a {lg lg' : Lg} {n : Nat} (h : Ag lg lg' n) {c : Nat} (hc : c ≤ n) : bg lg' c = bg lg c := by unfold bg; rw [h 4 c hc]
theorem rp_a {lg lg' : Lg} {n : Nat} (h : Ag lg lg' n) : ∀ m, m ≤ n → rp lg' m = rp lg m
  | 0, _ => rfl
  | m + 1, hm => by
    show (if lg' 0 (m + 1) = 4 then apx lg' (lg' 1 (m + 1)) (bg lg' (m + 1) + 1) (m + 1 - (bg lg' (m + 1) + 1)) (rp lg' m) else rp lg' m) = (if lg 0 (m + 1) = 4 then apx lg (lg 1 (m + 1)) (bg lg (m + 1) + 1) (m + 1 - (bg lg (m + 1) + 1)) (rp lg m) else rp lg m)
    rw [rp_a h m (by omega), h 0 (m + 1) hm, h 1 (m + 1) hm, bg_a h hm]
    split
    · by_cases c : bg lg (m + 1) + 1 ≤ m + 1
      · rw [apx_a h _ _ _ _ (by omega)]
      · have : m + 1 - (bg lg (m + 1) + 1) = 0 := by omega
        rw [this]; rfl
    · rfl
theorem msx_a {lg lg' : Lg} {n : Nat} (h : Ag lg lg' n) (s : Int32) (c p : Nat) : ∀ m, p + m ≤ n + 1 → msx lg' s c p m = msx lg s c p m
  | 0, _ => rfl
  | m + 1, hm => by
    show msx lg' s c p m ++ _ = msx lg s c p m ++ _
    rw [msx_a h s c p m (by omega), mt_a h s (by omega)]
    unfold msg
    rw [h 0 _ (by omega), h 2 _ (by omega), h 3 _ (by omega)]
theorem tx_a {lg lg' : Lg} {n : Nat} (h : Ag lg lg' n) {c : Nat} (hc : c ≤ n) : tx lg' c = tx lg c := by
  unfold tx
  rw [bg_a h hc, h 1 c hc]
  by_cases d : bg lg c + 1 ≤ c
  · rw [msx_a h _ _ _ _ (by omega)]
  · have : c - (bg lg c + 1) = 0 := by omega
    rw [this]; rfl
theorem em_a {lg lg' : Lg} {n : Nat} (h : Ag lg lg' n) (e : Nat) : ∀ m, e + m ≤ n → em lg' e m = em lg e m
  | 0, _ => rfl
  | m + 1, hm => by
    show em lg' e m ++ _ = em lg e m ++ _
    rw [em_a h e m (by omega), h 0 _ (by omega), tx_a h (by omega)]
theorem cl_a {lg lg' : Lg} {n : Nat} (h : Ag lg lg' n) : ∀ m, m ≤ n → ∀ p, cl lg' m p = cl lg m p
  | 0, _, _ => rfl
  | m + 1, hm, p => by
    show (cl lg' m p || _) = (cl lg m p || _)
    rw [cl_a h m (by omega) p, h 0 (m + 1) hm, h 1 (m + 1) hm, bg_a h hm]
    by_cases c : bg lg (m + 1) < p ∧ p < m + 1
    · rw [mt_a h _ (show p ≤ n by omega)]
    · simp [c]
theorem msx_cons (lg : Lg) (s : Int32) (c : Nat) : ∀ n p, msx lg s c p (n + 1) = (if mt lg s p then [msg lg c p] else []) ++ msx lg s c (p + 1) n
  | 0, p => by show [] ++ _ = _ ++ []; simp
  | n + 1, p => by
    show msx lg s c p (n + 1) ++ _ = _ ++ (msx lg s c (p + 1) n ++ _)
    rw [msx_cons lg s c n p, List.append_assoc]
    have : p + (n + 1) = p + 1 + n := by omega
    rw [this]
theorem msx_first (lg : Lg) (s : Int32) (c : Nat) : ∀ n p, (msx lg s c p n = [] ∧ ∀ i, p ≤ i → i < p + n → mt lg s i = false) ∨ (∃ i, p ≤ i ∧ i < p + n ∧ mt lg s i = true ∧ (∀ j, p ≤ j → j < i → mt lg s j = false) ∧ msx lg s c p n = msg lg c i :: msx lg s c (i + 1) (p + n - (i + 1)))
  | 0, p => Or.inl ⟨rfl, fun i a b => by omega⟩
  | n + 1, p => by
    rw [msx_cons]
    cases h : mt lg s p
    · rcases msx_first lg s c n (p + 1) with ⟨a, b⟩ | ⟨i, a, b, d, e, f⟩
      · left
        refine ⟨by simpa using a, fun i x y => ?_⟩
        by_cases z : i = p
        · rw [z]; exact h
        · exact b i (by omega) (by omega)
      · right
        refine ⟨i, by omega, by omega, d, fun j x y => ?_, ?_⟩
        · by_cases z : j = p
          · rw [z]; exact h
          · exact e j (by omega) y
        · have : p + (n + 1) - (i + 1) = p + 1 + n - (i + 1) := by omega
          rw [this, ← f]; rfl
    · right
      refine ⟨p, by omega, by omega, h, fun j x y => by omega, ?_⟩
      have : p + (n + 1) - (p + 1) = n := by omega
      rw [this]; rfl
theorem pnx_skip (lg : Lg) (s : Int32) (b : Nat) : ∀ n m, (∀ j, b + n ≤ j → j < b + n + m → mt lg s j = false) → pnx lg s b (n + m) = pnx lg s b n
  | n, 0, _ => rfl
  | n, m + 1, h => by
    show st2 lg s (b + (n + m)) (pnx lg s b (n + m)) = _
    rw [pnx_skip lg s b n m (fun j x y => h j x (by omega))]
    unfold st2
    rw [h (b + (n + m)) (by omega) (by omega)]; rfl
theorem em_first (lg : Lg) (e : Nat) : ∀ n, (em lg e n = [] ∧ ∀ j, e < j → j ≤ e + n → ¬ lg 0 j = 4) ∨ (∃ c, e < c ∧ c ≤ e + n ∧ lg 0 c = 4 ∧ (∀ j, e < j → j < c → ¬ lg 0 j = 4) ∧ em lg e n = tx lg c ++ em lg c (e + n - c))
  | 0 => Or.inl ⟨rfl, fun j a b => by omega⟩
  | n + 1 => by
    rcases em_first lg e n with ⟨a, b⟩ | ⟨c, x, y, z, w, v⟩
    · by_cases k : lg 0 (e + n + 1) = 4
      · right
        refine ⟨e + n + 1, by omega, by omega, k, fun j p q => b j p (by omega), ?_⟩
        show em lg e n ++ (if lg 0 (e + n + 1) = 4 then _ else _) = _
        have : e + (n + 1) - (e + n + 1) = 0 := by omega
        rw [a, if_pos k, this]
        show [] ++ _ = _ ++ []
        simp
      · left
        refine ⟨?_, fun j p q => ?_⟩
        · show em lg e n ++ (if lg 0 (e + n + 1) = 4 then _ else _) = _
          rw [a, if_neg k]; rfl
        · by_cases d : j = e + n + 1
          · rw [d]; exact k
          · exact b j p (by omega)
    · right
      refine ⟨c, x, by omega, z, w, ?_⟩
      show em lg e n ++ _ = _
      have h1 : e + (n + 1) - c = (e + n - c) + 1 := by omega
      have h2 : c + (e + n - c) + 1 = e + n + 1 := by omega
      rw [v, h1, List.append_assoc]
      show _ = tx lg c ++ (em lg c (e + n - c) ++ (if lg 0 (c + (e + n - c) + 1) = 4 then tx lg (c + (e + n - c) + 1) else []))
      rw [h2]
/-- what the log keeps -/
abbrev LW (lg : Lg) (L : Nat) : Prop := (∀ p, 1 ≤ p → p ≤ L → (lg 0 p = 2 ∨ lg 0 p = 3) → 0 ≤ (lg 2 p).toInt ∧ (lg 2 p).toInt < 8) ∧ (∀ c, 1 ≤ c → c ≤ L → lg 0 c = 4 → 1 ≤ bg lg c ∧ bg lg c < c ∧ lg 0 (bg lg c) = 1 ∧ lg 1 (bg lg c) = lg 1 c ∧ (∀ p, bg lg c < p → p < c → lg 1 p = lg 1 c → lg 0 p = 2 ∨ lg 0 p = 3))
theorem LW.ky {lg : Lg} {L : Nat} (h : LW lg L) : ∀ p, 1 ≤ p → p ≤ L → (lg 0 p = 2 ∨ lg 0 p = 3) → 0 ≤ (lg 2 p).toInt ∧ (lg 2 p).toInt < 8 := h.1
theorem LW.cm {lg : Lg} {L : Nat} (h : LW lg L) : ∀ c, 1 ≤ c → c ≤ L → lg 0 c = 4 → 1 ≤ bg lg c ∧ bg lg c < c ∧ lg 0 (bg lg c) = 1 ∧ lg 1 (bg lg c) = lg 1 c ∧ (∀ p, bg lg c < p → p < c → lg 1 p = lg 1 c → lg 0 p = 2 ∨ lg 0 p = 3) := h.2
abbrev QS (lg : Lg) (E A : Nat) (l : List Msg) (P : Pd) : Prop :=
  (∃ e, e ≤ E ∧ e ≤ A ∧ l = em lg e (E - e) ∧ P = fun _ => none) ∨
  (∃ c p, lg 0 c = 4 ∧ 1 ≤ c ∧ c ≤ E ∧ bg lg c < p ∧ p ≤ c ∧ l = msx lg (lg 1 c) c p (c - p) ++ (cmsg c :: em lg c (E - c)) ∧
    ((c ≤ A ∧ P = fun _ => none) ∨ (A < c ∧ (∀ j, A < j → j < c → ¬ lg 0 j = 4) ∧ P = pnx lg (lg 1 c) (bg lg c + 1) (p - (bg lg c + 1)))))
theorem rp_skip (lg : Lg) : ∀ n A, (∀ j, A < j → j ≤ A + n → ¬ lg 0 j = 4) → rp lg (A + n) = rp lg A
  | 0, A, _ => rfl
  | n + 1, A, h => by
    show (if lg 0 (A + n + 1) = 4 then _ else rp lg (A + n)) = _
    rw [if_neg (h (A + n + 1) (by omega) (by omega))]
    exact rp_skip lg n A (fun j x y => h j x (by omega))
/-- the first message handled -/
theorem QS_step {lg : Lg} {E A : Nat} {m : Msg} {l : List Msg} {P : Pd} (h : QS lg E A (m :: l) P) (hw : LW lg E) :
    ∃ c, 1 ≤ c ∧ c ≤ E ∧ lg 0 c = 4 ∧ m.2.2.2 = n32 c ∧
      ((c ≤ A ∧ QS lg E A l P) ∨ (A < c ∧ m.1 = 4 ∧ QS lg E c l (fun _ => none) ∧ rp lg c = apd P (rp lg A)) ∨
       (A < c ∧ (m.1 = 2 ∨ m.1 = 3) ∧ (0 ≤ m.2.1.toInt ∧ m.2.1.toInt < 8) ∧ QS lg E A l (fun k => if k = m.2.1.toInt.toNat then some (if m.1 = 2 then some m.2.2.1 else none) else P k))) := by
  have h2 : ∃ c p, lg 0 c = 4 ∧ 1 ≤ c ∧ c ≤ E ∧ bg lg c < p ∧ p ≤ c ∧ m :: l = msx lg (lg 1 c) c p (c - p) ++ (cmsg c :: em lg c (E - c)) ∧
    ((c ≤ A ∧ P = fun _ => none) ∨ (A < c ∧ (∀ j, A < j → j < c → ¬ lg 0 j = 4) ∧ P = pnx lg (lg 1 c) (bg lg c + 1) (p - (bg lg c + 1)))) := by
    rcases h with ⟨e, e1, e2, e3, e4⟩ | h
    · rcases em_first lg e (E - e) with ⟨x, -⟩ | ⟨c, x, y, z, w, v⟩
      · rw [x] at e3; cases e3
      · have cm := hw.cm c (by omega) (by omega) z
        have q : e + (E - e) - c = E - c := by omega
        rw [q] at v
        refine ⟨c, bg lg c + 1, z, by omega, by omega, by omega, by omega, ?_, ?_⟩
        · rw [e3, v]; unfold tx; rw [List.append_assoc]; rfl
        · by_cases d : c ≤ A
          · exact Or.inl ⟨d, e4⟩
          · refine Or.inr ⟨by omega, fun j a b => w j (by omega) b, ?_⟩
            rw [Nat.sub_self]; exact e4
    · exact h
  obtain ⟨c, p, k4, c1, cE, bp, pc, el, hp⟩ := h2
  have cm := hw.cm c c1 cE k4
  refine ⟨c, c1, cE, k4, ?_⟩
  rcases msx_first lg (lg 1 c) c (c - p) p with ⟨x, y⟩ | ⟨i, x, y, z, w, v⟩
  · rw [x] at el
    have el' : m :: l = cmsg c :: em lg c (E - c) := el
    injection el' with em1 em2
    rw [em1, em2]
    refine ⟨rfl, ?_⟩
    rcases hp with ⟨a, b⟩ | ⟨a, b, d⟩
    · exact Or.inl ⟨a, Or.inl ⟨c, cE, a, rfl, b⟩⟩
    · refine Or.inr (Or.inl ⟨a, rfl, Or.inl ⟨c, cE, Nat.le_refl c, rfl, rfl⟩, ?_⟩)
      obtain ⟨n, rfl⟩ : ∃ n, c = n + 1 := ⟨c - 1, by omega⟩
      show (if lg 0 (n + 1) = 4 then _ else _) = _
      rw [if_pos k4, apx_pnx]
      have r1 : rp lg n = rp lg A := by
        have := rp_skip lg (n - A) A (fun j u v => b j u (by omega))
        rw [show A + (n - A) = n by omega] at this; exact this
      have r2 : pnx lg (lg 1 (n + 1)) (bg lg (n + 1) + 1) (n + 1 - (bg lg (n + 1) + 1)) = P := by
        rw [d]
        have s := pnx_skip lg (lg 1 (n + 1)) (bg lg (n + 1) + 1) (p - (bg lg (n + 1) + 1)) (n + 1 - p) (fun j u v => y j (by omega) (by omega))
        rw [show p - (bg lg (n + 1) + 1) + (n + 1 - p) = n + 1 - (bg lg (n + 1) + 1) by omega] at s
        exact s
      rw [r1, r2]
  · rw [v] at el
    have el' : m :: l = msg lg c i :: (msx lg (lg 1 c) c (i + 1) (p + (c - p) - (i + 1)) ++ (cmsg c :: em lg c (E - c))) := el
    injection el' with em1 em2
    have hi : lg 1 i = lg 1 c ∧ (lg 0 i = 2 ∨ lg 0 i = 3) := of_decide_eq_true z
    have q : p + (c - p) - (i + 1) = c - (i + 1) := by omega
    rw [q] at em2
    have kb := hw.ky i (by omega) (by omega) hi.2
    refine ⟨by rw [em1]; rfl, ?_⟩
    rcases hp with ⟨a, b⟩ | ⟨a, b, d⟩
    · exact Or.inl ⟨a, Or.inr ⟨c, i + 1, k4, c1, cE, by omega, by omega, em2, Or.inl ⟨a, b⟩⟩⟩
    · refine Or.inr (Or.inr ⟨a, by rw [em1]; exact hi.2, by rw [em1]; exact kb, Or.inr ⟨c, i + 1, k4, c1, cE, by omega, by omega, em2, Or.inr ⟨a, b, ?_⟩⟩⟩)
      have e1 : i + 1 - (bg lg c + 1) = (i - (bg lg c + 1)) + 1 := by omega
      have e2 : bg lg c + 1 + (i - (bg lg c + 1)) = i := by omega
      have s := pnx_skip lg (lg 1 c) (bg lg c + 1) (p - (bg lg c + 1)) (i - p) (fun j u v => w j (by omega) (by omega))
      rw [show p - (bg lg c + 1) + (i - p) = i - (bg lg c + 1) by omega] at s
      rw [e1]
      show _ = st2 lg (lg 1 c) (bg lg c + 1 + (i - (bg lg c + 1))) (pnx lg (lg 1 c) (bg lg c + 1) (i - (bg lg c + 1)))
      rw [e2, s, ← d]
      unfold st2
      rw [if_pos z, em1]
      rfl
theorem em_app (lg : Lg) (e : Nat) : ∀ n, em lg 0 (e + n) = em lg 0 e ++ em lg e n
  | 0 => by show em lg 0 e = em lg 0 e ++ []; simp
  | n + 1 => by
    show em lg 0 (e + n) ++ (if lg 0 (0 + (e + n) + 1) = 4 then tx lg (0 + (e + n) + 1) else []) = em lg 0 e ++ (em lg e n ++ (if lg 0 (e + n + 1) = 4 then tx lg (e + n + 1) else []))
    rw [em_app lg e n, List.append_assoc, Nat.zero_add]
/-- one more transaction sent -/
theorem QS_emit {lg : Lg} {E A c : Nat} {l : List Msg} {P : Pd} (h : QS lg E A l P) (hc : E < c) (k4 : lg 0 c = 4) (hn : ∀ j, E < j → j < c → ¬ lg 0 j = 4) : QS lg c A (l ++ tx lg c) P := by
  have g : ∀ e, e ≤ E → em lg e (c - e) = em lg e (E - e) ++ tx lg c := by
    intro e he
    have f : ∀ n, E + n < c → em lg e (E + n - e) = em lg e (E - e) := by
      intro n
      induction n with
      | zero => intro _; rfl
      | succ n ih =>
        intro hh
        have : E + (n + 1) - e = (E + n - e) + 1 := by omega
        rw [this]
        show em lg e (E + n - e) ++ (if lg 0 (e + (E + n - e) + 1) = 4 then _ else _) = _
        rw [ih (by omega), if_neg (hn _ (by omega) (by omega))]; simp
    have : c - e = (c - 1 - e) + 1 := by omega
    rw [this]
    show em lg e (c - 1 - e) ++ (if lg 0 (e + (c - 1 - e) + 1) = 4 then tx lg (e + (c - 1 - e) + 1) else []) = _
    rw [show e + (c - 1 - e) + 1 = c by omega, if_pos k4]
    have := f (c - 1 - E) (by omega)
    rw [show E + (c - 1 - E) - e = c - 1 - e by omega] at this
    rw [this]
  rcases h with ⟨e, e1, e2, e3, e4⟩ | ⟨d, p, k, d1, dE, bp, pc, el, hp⟩
  · exact Or.inl ⟨e, by omega, e2, by rw [g e e1, e3], e4⟩
  · refine Or.inr ⟨d, p, k, d1, by omega, bp, pc, ?_, hp⟩
    rw [el, g d dE, List.append_assoc]; rfl
theorem QS_a {lg lg' : Lg} {n E A : Nat} {l : List Msg} {P : Pd} (ag : Ag lg lg' n) (hE : E ≤ n) (hA : A ≤ n) (h : QS lg E A l P) : QS lg' E A l P := by
  rcases h with ⟨e, e1, e2, e3, e4⟩ | ⟨c, p, k, c1, cE, bp, pc, el, hp⟩
  · exact Or.inl ⟨e, e1, e2, by rw [em_a ag e _ (by omega)]; exact e3, e4⟩
  · refine Or.inr ⟨c, p, by rw [ag 0 c (by omega)]; exact k, c1, cE, by rw [bg_a ag (by omega)]; exact bp, pc, ?_, ?_⟩
    · rw [ag 1 c (by omega), msx_a ag _ _ _ _ (by omega), em_a ag _ _ (by omega)]; exact el
    · rcases hp with x | ⟨a, b, d⟩
      · exact Or.inl x
      · refine Or.inr ⟨a, fun j u v => by rw [ag 0 j (by omega)]; exact b j u v, ?_⟩
        rw [ag 1 c (by omega), bg_a ag (by omega), pnx_a ag _ _ _ (by omega)]; exact d
theorem cN_or {f g : Nat → Bool} : ∀ n, (∀ i, i < n → f i = true → g i = false) → cN (fun i => f i || g i) n = cN f n + cN g n
  | 0, _ => rfl
  | n + 1, h => by
    show cN (fun i => f i || g i) n + (if (f n || g n) = true then 1 else 0) = cN f n + (if f n = true then 1 else 0) + (cN g n + (if g n = true then 1 else 0))
    rw [cN_or n (fun i hi => h i (by omega))]
    have := h n (by omega)
    cases hf : f n <;> cases hg : g n
    · show cN f n + cN g n + 0 = cN f n + 0 + (cN g n + 0)
      omega
    · show cN f n + cN g n + 1 = cN f n + 0 + (cN g n + 1)
      omega
    · show cN f n + cN g n + 1 = cN f n + 1 + (cN g n + 0)
      omega
    · rw [this hf] at hg; exact absurd hg (by decide)
theorem msx_len (lg : Lg) (s : Int32) (c b : Nat) : ∀ n, (msx lg s c b n).length = cN (fun i => decide (b ≤ i) && mt lg s i) (b + n)
  | 0 => by
    have z : ∀ m, m ≤ b → cN (fun i => decide (b ≤ i) && mt lg s i) m = 0 := by
      intro m
      induction m with
      | zero => intro _; rfl
      | succ m ih =>
        intro hm
        show cN (fun i => decide (b ≤ i) && mt lg s i) m + (if (decide (b ≤ m) && mt lg s m) = true then 1 else 0) = 0
        rw [ih (by omega), decide_eq_false (by omega)]; rfl
    show 0 = _
    exact (z b (Nat.le_refl b)).symm
  | n + 1 => by
    show (msx lg s c b n ++ (if mt lg s (b + n) then [msg lg c (b + n)] else [])).length = cN (fun i => decide (b ≤ i) && mt lg s i) (b + n) + (if (decide (b ≤ b + n) && mt lg s (b + n)) = true then 1 else 0)
    rw [List.length_append, msx_len lg s c b n, decide_eq_true (by omega)]
    cases mt lg s (b + n) <;> rfl
/-- no message is sent twice: a bound of the queue -/
theorem cl_tx {lg : Lg} {c : Nat} (hw : LW lg c) (k4 : lg 0 c = 4) (c1 : 1 ≤ c) : cN (cl lg c) (c + 1) = cN (cl lg (c - 1)) c + (tx lg c).length := by
  obtain ⟨n, rfl⟩ : ∃ n, c = n + 1 := ⟨c - 1, by omega⟩
  have cm := hw.cm (n + 1) c1 (Nat.le_refl _) k4
  have old : ∀ m, m ≤ n → ∀ p, cl lg m p = true → 1 ≤ p ∧ p ≤ m ∧ ¬ (bg lg (n + 1) < p ∧ mt lg (lg 1 (n + 1)) p = true) := by
    intro m
    induction m with
    | zero => intro _ p e; exact absurd e (by simp [cl])
    | succ m ih =>
      intro hm p e
      have e' : (cl lg m p || (decide (lg 0 (m + 1) = 4) && (decide (p = m + 1) || (decide (bg lg (m + 1) < p ∧ p < m + 1) && mt lg (lg 1 (m + 1)) p)))) = true := e
      rcases Bool.or_eq_true _ _ ▸ e' with e1 | e1
      · have := ih (by omega) p e1
        exact ⟨this.1, by omega, this.2.2⟩
      · rw [Bool.and_eq_true, decide_eq_true_eq] at e1
        obtain ⟨k, e2⟩ := e1
        have cm' := hw.cm (m + 1) (by omega) (by omega) k
        rcases Bool.or_eq_true _ _ ▸ e2 with e3 | e3
        · have e3' := of_decide_eq_true e3
          refine ⟨by omega, by omega, fun x => ?_⟩
          have := of_decide_eq_true x.2
          rw [e3'] at this
          rw [k] at this
          rcases this.2 with y | y <;> exact absurd y (by decide)
        · rw [Bool.and_eq_true, decide_eq_true_eq] at e3
          obtain ⟨e4, e5⟩ := e3
          refine ⟨by omega, by omega, fun x => ?_⟩
          have x2 := (of_decide_eq_true x.2).1
          have x3 := (of_decide_eq_true e5).1
          -- the commit at m + 1 lies in the later one's span, of the same slot
          have := cm.2.2.2.2 (m + 1) (by omega) (by omega) (x3.symm.trans x2)
          rw [k] at this
          rcases this with y | y <;> exact absurd y (by decide)
  have e1 : cN (cl lg (n + 1)) (n + 1 + 1) = cN (fun i => cl lg n i || (decide (i = n + 1) || (decide (bg lg (n + 1) < i ∧ i < n + 1) && mt lg (lg 1 (n + 1)) i))) (n + 1 + 1) := by
    apply cN_eq
    intro i _
    show (cl lg n i || (decide (lg 0 (n + 1) = 4) && _)) = _
    rw [decide_eq_true k4, Bool.true_and]
  have e2 := cN_or (f := cl lg n) (g := fun i => decide (i = n + 1) || (decide (bg lg (n + 1) < i ∧ i < n + 1) && mt lg (lg 1 (n + 1)) i)) (n + 1 + 1) (fun i hi e => by
    have o := old n (Nat.le_refl _) i e
    show (decide (i = n + 1) || (decide (bg lg (n + 1) < i ∧ i < n + 1) && mt lg (lg 1 (n + 1)) i)) = false
    rw [decide_eq_false (by omega)]
    cases h : mt lg (lg 1 (n + 1)) i
    · simp
    · rw [decide_eq_false (fun x => o.2.2 ⟨x.1, h⟩)]; rfl)
  have e3 : cN (cl lg n) (n + 1 + 1) = cN (cl lg n) (n + 1) := by
    show cN (cl lg n) (n + 1) + (if cl lg n (n + 1) = true then 1 else 0) = _
    rw [if_neg (fun e => by have := old n (Nat.le_refl _) (n + 1) e; omega)]; rfl
  have e4 : cN (fun i => decide (i = n + 1) || (decide (bg lg (n + 1) < i ∧ i < n + 1) && mt lg (lg 1 (n + 1)) i)) (n + 1 + 1) = (tx lg (n + 1)).length := by
    unfold tx
    rw [List.length_append, msx_len, show bg lg (n + 1) + 1 + (n + 1 - (bg lg (n + 1) + 1)) = n + 1 by omega]
    show cN _ (n + 1) + (if (decide (n + 1 = n + 1) || _) = true then 1 else 0) = _ + 1
    rw [decide_eq_true rfl, Bool.true_or, if_pos rfl]
    congr 1
    apply cN_eq
    intro i hi
    rw [decide_eq_false (by omega), Bool.false_or]
    congr 1
    by_cases d : bg lg (n + 1) < i
    · rw [decide_eq_true ⟨d, hi⟩, decide_eq_true (by omega)]
    · rw [decide_eq_false (fun x => d x.1), decide_eq_false (by omega)]
  rw [e1, e2, e3, e4]; rfl
theorem cl_skip {lg : Lg} {E : Nat} : ∀ m, (∀ j, E < j → j ≤ E + m → ¬ lg 0 j = 4) → ∀ p, cl lg (E + m) p = cl lg E p
  | 0, _, _ => rfl
  | m + 1, h, p => by
    show (cl lg (E + m) p || (decide (lg 0 (E + m + 1) = 4) && _)) = _
    rw [decide_eq_false (h (E + m + 1) (by omega) (by omega)), Bool.false_and, Bool.or_false]
    exact cl_skip m (fun j x y => h j x (by omega)) p
def lgo (ob : Rec) : Lg := fun j p => if j ≤ 4 then gA ob j (n32 p) else 0
theorem lgo_c {ob r : Rec} (h : ∀ k x, k ≤ 4 → gA r k x = gA ob k x) : lgo r = lgo ob := funext fun j => funext fun p => by
  unfold lgo
  by_cases c : j ≤ 4
  · rw [if_pos c, if_pos c, h j _ c]
  · rw [if_neg c, if_neg c]
def tv (ob : Rec) (a b : Nat) (k : Nat) : Option Int32 := if gA ob a (n32 k) = 0 then none else some (gA ob b (n32 k))
def pv (ob : Rec) (k : Nat) : Option (Option Int32) := if gA ob 11 (n32 k) = 1 then some (some (gA ob 12 (n32 k))) else if gA ob 11 (n32 k) = 2 then some none else none
def qi (h i : Nat) : Int32 := n32 ((h + i) % 128)
def qm (ob : Rec) (x : Int32) : Msg := (gA ob 13 x, gA ob 14 x, gA ob 15 x, gA ob 16 x)
abbrev QL (ob : Rec) (l : List Msg) : Prop := ∃ h, h < 128 ∧ gI ob 8 = n32 h ∧ gI ob 9 = n32 l.length ∧ l.length ≤ 128 ∧ ∀ i, i < l.length → l[i]? = some (qm ob (qi h i))
abbrev LI (ob : Rec) (ns cap : Int32) (L : Nat) : Prop := (gI ob 0 = 8 ∧ gI ob 1 = ns ∧ gI ob 2 = cap) ∧ (gI ob 4 = n32 L) ∧ ((L : Int) ≤ cap.toInt) ∧ (LW (lgo ob) L) ∧ (∀ p, 1 ≤ p → p ≤ L → (1 ≤ (lgo ob 0 p).toInt ∧ (lgo ob 0 p).toInt ≤ 5) ∧ In ns.toInt (lgo ob 1 p) ∧ In 8 (lgo ob 2 p)) ∧ (∀ s, In 8 s → ¬ gA ob 5 s = 0 → s.toInt < ns.toInt ∧ ∃ b, 1 ≤ b ∧ b ≤ L ∧ gA ob 6 s = n32 b ∧ lgo ob 0 b = 1 ∧ lgo ob 1 b = s ∧ ∀ p, b < p → p ≤ L → lgo ob 1 p = s → lgo ob 0 p = 2 ∨ lgo ob 0 p = 3) ∧ (∀ k, k < 8 → tv ob 7 8 k = rp (lgo ob) L k)
theorem LI.cf {ob : Rec} {ns cap : Int32} {L : Nat} (h : LI ob ns cap L) : gI ob 0 = 8 ∧ gI ob 1 = ns ∧ gI ob 2 = cap := h.1
theorem LI.e4 {ob : Rec} {ns cap : Int32} {L : Nat} (h : LI ob ns cap L) : gI ob 4 = n32 L := h.2.1
theorem LI.lc {ob : Rec} {ns cap : Int32} {L : Nat} (h : LI ob ns cap L) : (L : Int) ≤ cap.toInt := h.2.2.1
theorem LI.lw {ob : Rec} {ns cap : Int32} {L : Nat} (h : LI ob ns cap L) : LW (lgo ob) L := h.2.2.2.1
theorem LI.kd {ob : Rec} {ns cap : Int32} {L : Nat} (h : LI ob ns cap L) : ∀ p, 1 ≤ p → p ≤ L → (1 ≤ (lgo ob 0 p).toInt ∧ (lgo ob 0 p).toInt ≤ 5) ∧ In ns.toInt (lgo ob 1 p) ∧ In 8 (lgo ob 2 p) := h.2.2.2.2.1
theorem LI.sl {ob : Rec} {ns cap : Int32} {L : Nat} (h : LI ob ns cap L) : ∀ s, In 8 s → ¬ gA ob 5 s = 0 → s.toInt < ns.toInt ∧ ∃ b, 1 ≤ b ∧ b ≤ L ∧ gA ob 6 s = n32 b ∧ lgo ob 0 b = 1 ∧ lgo ob 1 b = s ∧ ∀ p, b < p → p ≤ L → lgo ob 1 p = s → lgo ob 0 p = 2 ∨ lgo ob 0 p = 3 := h.2.2.2.2.2.1
theorem LI.pu {ob : Rec} {ns cap : Int32} {L : Nat} (h : LI ob ns cap L) : ∀ k, k < 8 → tv ob 7 8 k = rp (lgo ob) L k := h.2.2.2.2.2.2
abbrev SI (ob : Rec) (L E A C : Nat) (l : List Msg) (P : Pd) : Prop := (gI ob 5 = n32 E) ∧ (gI ob 6 = n32 A) ∧ (gI ob 7 = n32 C) ∧ (E ≤ L ∧ (E = 0 ∨ lgo ob 0 E = 4)) ∧ (A ≤ L ∧ (A = 0 ∨ lgo ob 0 A = 4)) ∧ (C ≤ A ∧ (C = 0 ∨ lgo ob 0 C = 4)) ∧ (∀ k, k < 8 → tv ob 9 10 k = rp (lgo ob) A k) ∧ (QL ob l) ∧ (l.length ≤ cN (cl (lgo ob) E) (E + 1)) ∧ (∀ k, k < 8 → pv ob k = P k) ∧ (QS (lgo ob) E A l P)
theorem SI.e5 {ob : Rec} {L E A C : Nat} {l : List Msg} {P : Pd} (h : SI ob L E A C l P) : gI ob 5 = n32 E := h.1
theorem SI.e6 {ob : Rec} {L E A C : Nat} {l : List Msg} {P : Pd} (h : SI ob L E A C l P) : gI ob 6 = n32 A := h.2.1
theorem SI.e7 {ob : Rec} {L E A C : Nat} {l : List Msg} {P : Pd} (h : SI ob L E A C l P) : gI ob 7 = n32 C := h.2.2.1
theorem SI.hE {ob : Rec} {L E A C : Nat} {l : List Msg} {P : Pd} (h : SI ob L E A C l P) : E ≤ L ∧ (E = 0 ∨ lgo ob 0 E = 4) := h.2.2.2.1
theorem SI.hA {ob : Rec} {L E A C : Nat} {l : List Msg} {P : Pd} (h : SI ob L E A C l P) : A ≤ L ∧ (A = 0 ∨ lgo ob 0 A = 4) := h.2.2.2.2.1
theorem SI.hC {ob : Rec} {L E A C : Nat} {l : List Msg} {P : Pd} (h : SI ob L E A C l P) : C ≤ A ∧ (C = 0 ∨ lgo ob 0 C = 4) := h.2.2.2.2.2.1
theorem SI.sb {ob : Rec} {L E A C : Nat} {l : List Msg} {P : Pd} (h : SI ob L E A C l P) : ∀ k, k < 8 → tv ob 9 10 k = rp (lgo ob) A k := h.2.2.2.2.2.2.1
theorem SI.ql {ob : Rec} {L E A C : Nat} {l : List Msg} {P : Pd} (h : SI ob L E A C l P) : QL ob l := h.2.2.2.2.2.2.2.1
theorem SI.qw {ob : Rec} {L E A C : Nat} {l : List Msg} {P : Pd} (h : SI ob L E A C l P) : l.length ≤ cN (cl (lgo ob) E) (E + 1) := h.2.2.2.2.2.2.2.2.1
theorem SI.pd {ob : Rec} {L E A C : Nat} {l : List Msg} {P : Pd} (h : SI ob L E A C l P) : ∀ k, k < 8 → pv ob k = P k := h.2.2.2.2.2.2.2.2.2.1
theorem SI.qs {ob : Rec} {L E A C : Nat} {l : List Msg} {P : Pd} (h : SI ob L E A C l P) : QS (lgo ob) E A l P := h.2.2.2.2.2.2.2.2.2.2
theorem n32_ne {i j : Nat} (hi : i < 1000) (hj : j < 1000) (h : ¬ i = j) : ¬ n32 i = n32 j := fun e => h (n32_inj hi hj e)
theorem n32_s {i : Nat} (hi : i < 1000) : n32 i + 1 = n32 (i + 1) := eq_i32.mpr (by rw [s1 (by rw [nt i (by omega)]; omega), nt i (by omega), nt (i + 1) (by omega)]; omega)
theorem n32_lt {i j : Nat} (hi : i < 1000) (hj : j < 1000) : n32 i < n32 j ↔ i < j := by rw [lt_i, nt i (by omega), nt j (by omega)]; omega
theorem n32_b {i : Nat} (hi : i < 1000) : 0 ≤ (n32 i).toInt ∧ (n32 i).toInt = i := by rw [nt i (by omega)]; omega
theorem ck32 {γ : Type} {n : Int32} {m i : Nat} {A : Option γ} (hm : n.toInt = m) (h : i < m) (hi : i < 1000) : chk n (n32 i) A = A := chk_ok (by rw [hm, nt i (by omega)]; omega)
theorem LI_c {ob r : Rec} {ns cap : Int32} {L : Nat} (h : LI ob ns cap L) (hI : ∀ k, k ≤ 2 ∨ k = 4 → gI r k = gI ob k) (hA : ∀ k x, k ≤ 8 → gA r k x = gA ob k x) : LI r ns cap L := by
  obtain ⟨a1, a2, a3, a4, a5, a6, a7⟩ := h
  have el : lgo r = lgo ob := lgo_c (fun k x hk => hA k x (by omega))
  have tve : ∀ k, tv r 7 8 k = tv ob 7 8 k := fun k => by unfold tv; rw [hA 7 _ (by omega), hA 8 _ (by omega)]
  refine ⟨?_, ?_, a3, by rw [el]; exact a4, by rw [el]; exact a5, fun s hs z => ?_, fun k hk => ?_⟩
  · rw [hI 0 (by omega), hI 1 (by omega), hI 2 (by omega)]; exact a1
  · rw [hI 4 (by omega)]; exact a2
  · rw [hA 5 s (by omega)] at z
    rw [hA 6 s (by omega), el]
    exact a6 s hs z
  · rw [tve, el]; exact a7 k hk
theorem SI_c {ob r : Rec} {L L' E A C : Nat} {l : List Msg} {P : Pd} (h : SI ob L E A C l P) (hL : L ≤ L') (ag : Ag (lgo ob) (lgo r) L) (hI : ∀ k, 5 ≤ k → k ≤ 9 → gI r k = gI ob k) (hA : ∀ k x, 9 ≤ k → gA r k x = gA ob k x) : SI r L' E A C l P := by
  obtain ⟨a1, a2, a3, a4, a5, a6, a7, ⟨q, q1, q2, q3, q4, q5⟩, a9, a10, a11⟩ := h
  refine ⟨?_, ?_, ?_, ⟨by omega, ?_⟩, ⟨by omega, ?_⟩, ⟨a6.1, ?_⟩, fun k hk => ?_, ⟨q, q1, ?_, ?_, q4, fun i hi => ?_⟩, ?_, fun k hk => ?_, QS_a ag a4.1 a5.1 a11⟩
  · rw [hI 5 (by omega) (by omega)]; exact a1
  · rw [hI 6 (by omega) (by omega)]; exact a2
  · rw [hI 7 (by omega) (by omega)]; exact a3
  · rw [ag 0 E a4.1]; exact a4.2
  · rw [ag 0 A a5.1]; exact a5.2
  · rw [ag 0 C (by omega)]; exact a6.2
  · rw [rp_a ag A a5.1]; unfold tv; rw [hA 9 _ (by omega), hA 10 _ (by omega)]; exact a7 k hk
  · rw [hI 8 (by omega) (by omega)]; exact q2
  · rw [hI 9 (by omega) (by omega)]; exact q3
  · rw [q5 i hi]; unfold qm; rw [hA 13 _ (by omega), hA 14 _ (by omega), hA 15 _ (by omega), hA 16 _ (by omega)]
  · rw [cN_eq (E + 1) (fun i _ => cl_a ag E a4.1 i)]; exact a9
  · unfold pv; rw [hA 11 _ (by omega), hA 12 _ (by omega)]; exact a10 k hk
def enr (ob : Rec) (n k s y v : Int32) : Rec := sA (sA (sA (sA (sA (sI ob 4 n) 0 n k) 1 n s) 2 n y) 3 n v) 4 n 0
theorem app_e {ob : Rec} {L : Nat} (h4 : gI ob 4 = n32 L) (hL : L < 128) (k s y v : Int32) : X_append ob k s y v = some (n32 (L + 1), enr ob (n32 (L + 1)) k s y v) := by
  have q : ∀ A : Option (Int32 × Rec), chk 129 (n32 (L + 1)) A = A := fun A => ck32 (m := 129) rfl (by omega) (by omega)
  unfold X_append; rw [h4, n32_s (by omega), q, q, q, q, q]; rfl
theorem enr_o {ob : Rec} {L : Nat} (hL : L < 128) (k s y v : Int32) : Ag (lgo ob) (lgo (enr ob (n32 (L + 1)) k s y v)) L := fun j p hp => by
  have ne : ¬ n32 p = n32 (L + 1) := n32_ne (by omega) (by omega) (by omega)
  unfold lgo
  by_cases c : j ≤ 4
  · rw [if_pos c, if_pos c]
    unfold enr
    simp only [gA_sA, gA_sI, ne, and_false, if_false]
  · rw [if_neg c, if_neg c]
theorem enr_n {ob : Rec} (n k s y v : Int32) : gA (enr ob n k s y v) 0 n = k ∧ gA (enr ob n k s y v) 1 n = s ∧ gA (enr ob n k s y v) 2 n = y ∧ gA (enr ob n k s y v) 3 n = v := by
  unfold enr; simp [gA_sA]
theorem enr_h {ob : Rec} (n k s y v : Int32) (j : Nat) (x : Int32) (hj : 5 ≤ j) : gA (enr ob n k s y v) j x = gA ob j x := by
  unfold enr; simp [gA_sA, gA_sI, show ¬ j = 0 by omega, show ¬ j = 1 by omega, show ¬ j = 2 by omega, show ¬ j = 3 by omega, show ¬ j = 4 by omega]
theorem enr_i {ob : Rec} (n k s y v : Int32) (j : Nat) : gI (enr ob n k s y v) j = if j = 4 then n else gI ob j := rfl
/-- one record more, no commit -/
theorem LI_ap {ob r : Rec} {ns cap k s y : Int32} {L : Nat} (h : LI ob ns cap L) (hc : (L : Int) < cap.toInt) (hI : ∀ j, ¬ j = 4 → j ≤ 2 → gI r j = gI ob j) (h4 : gI r 4 = n32 (L + 1)) (ag : Ag (lgo ob) (lgo r) L) (k0 : lgo r 0 (L + 1) = k) (k1 : lgo r 1 (L + 1) = s) (k2 : lgo r 2 (L + 1) = y)
    (hk : ¬ k = 4 ∧ 1 ≤ k.toInt ∧ k.toInt ≤ 5) (hs : In ns.toInt s) (hy : In 8 y) (h7 : ∀ x, gA r 7 x = gA ob 7 x ∧ gA r 8 x = gA ob 8 x)
    (hsl : ∀ t, In 8 t → ¬ gA r 5 t = 0 → (t = s ∧ k = 1 ∧ gA r 6 t = n32 (L + 1)) ∨ (¬ gA ob 5 t = 0 ∧ gA r 6 t = gA ob 6 t ∧ (¬ t = s ∨ k = 2 ∨ k = 3))) : LI r ns cap (L + 1) := by
  obtain ⟨a1, a2, a3, a4, a5, a6, a7⟩ := h
  refine ⟨?_, h4, by omega, ⟨fun p x z w => ?_, fun c x z w => ?_⟩, fun p x z => ?_, fun t ht z => ?_, fun q hq => ?_⟩
  · rw [hI 0 (by decide) (by decide), hI 1 (by decide) (by decide), hI 2 (by decide) (by decide)]; exact a1
  · by_cases d : p = L + 1
    · rw [d, k2]; exact hy
    · rw [ag 0 p (by omega)] at w; rw [ag 2 p (by omega)]; exact a4.ky p x (by omega) w
  · by_cases d : c = L + 1
    · rw [d, k0] at w; exact absurd w hk.1
    · rw [ag 0 c (by omega)] at w
      have := a4.cm c x (by omega) w
      rw [bg_a ag (by omega), ag 0 _ (by omega), ag 1 _ (by omega), ag 1 _ (by omega)]
      refine ⟨this.1, this.2.1, this.2.2.1, this.2.2.2.1, fun p u v w' => ?_⟩
      rw [ag 1 p (by omega)] at w'
      rw [ag 0 p (by omega)]
      exact this.2.2.2.2 p u v w'
  · by_cases d : p = L + 1
    · rw [d, k0, k1, k2]; exact ⟨hk.2, hs, hy⟩
    · rw [ag 0 p (by omega), ag 1 p (by omega), ag 2 p (by omega)]; exact a5 p x (by omega)
  · rcases hsl t ht z with ⟨u, v, w⟩ | ⟨u, v, w⟩
    · refine ⟨by rw [u]; exact hs.2, L + 1, by omega, by omega, w, by rw [k0]; exact v, by rw [k1, u], fun p x y' => by omega⟩
    · obtain ⟨u', b, b1, b2, b3, b4, b5, b6⟩ := a6 t ht u
      refine ⟨u', b, b1, by omega, by rw [v]; exact b3, by rw [ag 0 b b2]; exact b4, by rw [ag 1 b b2]; exact b5, fun p x y' w' => ?_⟩
      by_cases d : p = L + 1
      · rw [d, k1] at w'
        rw [d, k0]
        rcases w with w | w
        · exact absurd w'.symm w
        · exact w
      · rw [ag 1 p (by omega)] at w'
        rw [ag 0 p (by omega)]
        exact b6 p x (by omega) w'
  · show _ = (if lgo r 0 (L + 1) = 4 then _ else rp (lgo r) L) q
    rw [k0, if_neg hk.1, rp_a ag L (Nat.le_refl _)]
    unfold tv
    rw [(h7 _).1, (h7 _).2]; exact a7 q hq
theorem lf_e {ob : Rec} {ns cap : Int32} {L : Nat} (h : LI ob ns cap L) (hcap : cap.toInt ≤ 64) : X_logFull ob = some (if (L : Int) < cap.toInt then 0 else 1) := by
  have hl := h.lc
  unfold X_logFull; rw [h.e4, h.cf.2.2]
  have e := nt L (by omega)
  by_cases c : (L : Int) < cap.toInt
  · rw [if_pos (by rw [lt_i, e]; exact c), if_pos (by rw [lt_i, e]; show (L : Int) < 128; omega), if_pos c]
  · rw [if_neg (by rw [lt_i, e]; exact c), if_neg c]
theorem vsl {ob : Rec} {ns cap : Int32} {L : Nat} (h : LI ob ns cap L) (hns : ns.toInt ≤ 8) (s : Int32) : X_validSlot ob s = some (if In ns.toInt s then 1 else 0) := by
  unfold X_validSlot; rw [h.cf.2.1]
  by_cases c : In ns.toInt s
  · rw [if_neg (nneg c.1), if_pos (lt_i.mpr c.2), if_pos (by rw [lt_i]; show s.toInt < 8; have := c.2; omega), if_pos c]
  · rw [if_neg c]
    by_cases d : s < 0
    · rw [if_pos d]
    · rw [if_neg d, if_neg (fun e => c ⟨nneg' d, lt_i.mp e⟩)]
theorem vky {ob : Rec} {ns cap : Int32} {L : Nat} (h : LI ob ns cap L) (y : Int32) : X_validKey ob y = some (if In 8 y then 1 else 0) := by
  unfold X_validKey; rw [h.cf.1]
  by_cases c : In 8 y
  · rw [if_neg (nneg c.1), if_pos (ltn (m := 8) rfl c.2), if_pos (by rw [lt_i]; show y.toInt < 32; have := c.2; omega), if_pos c]
  · rw [if_neg c]
    by_cases d : y < 0
    · rw [if_pos d]
    · rw [if_neg d, if_neg (fun e => c ⟨nneg' d, lt_i.mp e⟩)]
theorem cos_e {ob : Rec} {ns cap : Int32} {L : Nat} (h : LI ob ns cap L) (hns : ns.toInt ≤ 8) (s : Int32) : X_checkOpenSlot ob s = some (if In ns.toInt s then (if gA ob 5 s = 0 then -2 else 0) else -1) := by
  unfold X_checkOpenSlot; rw [vsl h hns, Option.bind_some]
  by_cases c : In ns.toInt s
  · rw [if_pos c, if_neg (by decide), ckn (m := 8) rfl ⟨c.1, by have := c.2; omega⟩, if_pos c]
    split <;> rfl
  · rw [if_neg c, if_pos rfl, if_neg c]
/-- what a call that writes the log does: r is its answer -/
abbrev Wr (ob r : Rec) (a : Int32) (L L' : Nat) : Prop := (a.toInt < 0 ∧ r = ob ∧ L' = L) ∨ (a = n32 (L + 1) ∧ L' = L + 1)
theorem SI_w {ob r : Rec} {L E A C : Nat} {l : List Msg} {P : Pd} (h : SI ob L E A C l P) (ag : Ag (lgo ob) (lgo r) L) (hI : ∀ k, 5 ≤ k → k ≤ 9 → gI r k = gI ob k) (hA : ∀ k x, 9 ≤ k → gA r k x = gA ob k x) : SI r (L + 1) E A C l P := SI_c h (by omega) ag hI hA
/-- the facts of a successful append that the laws ask for -/
abbrev Ap (ob r : Rec) (L : Nat) (k s y v : Int32) : Prop := (Ag (lgo ob) (lgo r) L) ∧ (lgo r 0 (L + 1) = k ∧ lgo r 1 (L + 1) = s ∧ lgo r 2 (L + 1) = y ∧ lgo r 3 (L + 1) = v) ∧ (∀ j, ¬ j = 4 → gI r j = gI ob j) ∧ (∀ j x, 9 ≤ j → gA r j x = gA ob j x)
theorem Ap.ag {ob r : Rec} {L : Nat} {k s y v : Int32} (h : Ap ob r L k s y v) : Ag (lgo ob) (lgo r) L := h.1
theorem Ap.nw {ob r : Rec} {L : Nat} {k s y v : Int32} (h : Ap ob r L k s y v) : lgo r 0 (L + 1) = k ∧ lgo r 1 (L + 1) = s ∧ lgo r 2 (L + 1) = y ∧ lgo r 3 (L + 1) = v := h.2.1
theorem Ap.gi {ob r : Rec} {L : Nat} {k s y v : Int32} (h : Ap ob r L k s y v) : ∀ j, ¬ j = 4 → gI r j = gI ob j := h.2.2.1
theorem Ap.ga {ob r : Rec} {L : Nat} {k s y v : Int32} (h : Ap ob r L k s y v) : ∀ j x, 9 ≤ j → gA r j x = gA ob j x := h.2.2.2
theorem Ap_e {ob r : Rec} {L : Nat} (hL : L < 128) (k s y v : Int32) (h04 : ∀ j x, j ≤ 4 → gA r j x = gA (enr ob (n32 (L + 1)) k s y v) j x) (hi : ∀ j, gI r j = gI (enr ob (n32 (L + 1)) k s y v) j) (h9 : ∀ j x, 9 ≤ j → gA r j x = gA ob j x) : Ap ob r L k s y v := by
  have el : lgo r = lgo (enr ob (n32 (L + 1)) k s y v) := lgo_c h04
  have n := enr_n (ob := ob) (n32 (L + 1)) k s y v
  refine ⟨by rw [el]; exact enr_o hL k s y v, by rw [el]; exact n, fun j hj => ?_, h9⟩
  rw [hi, enr_i, if_neg hj]
theorem bgn_e {ob : Rec} {ns cap : Int32} {L : Nat} (h : LI ob ns cap L) (hns : ns.toInt ≤ 8) (hcap : cap.toInt ≤ 64) (s : Int32) :
    ∃ r, X_begin ob s = some (if In ns.toInt s then (if gA ob 5 s = 0 then (if (L : Int) < cap.toInt then n32 (L + 1) else -4) else -2) else -1, r) ∧
      ((¬ (In ns.toInt s ∧ gA ob 5 s = 0 ∧ (L : Int) < cap.toInt) ∧ r = ob) ∨ ((In ns.toInt s ∧ gA ob 5 s = 0 ∧ (L : Int) < cap.toInt) ∧ LI r ns cap (L + 1) ∧ Ap ob r L 1 s 0 0 ∧ (∀ t, gA r 5 t = if t = s then 1 else gA ob 5 t))) := by
  have hl := h.lc
  unfold X_begin; rw [vsl h hns, Option.bind_some]
  by_cases c : In ns.toInt s
  · have s8 : In 8 s := ⟨c.1, by have := c.2; omega⟩
    rw [if_pos c, if_neg (by decide), ckn (m := 8) rfl s8, if_pos c]
    by_cases d : gA ob 5 s = 0
    · rw [if_pos d, lf_e h hcap, Option.bind_some, if_pos d]
      by_cases e : (L : Int) < cap.toInt
      · rw [if_pos e, if_pos rfl, app_e h.e4 (by omega), bind2_some, ckn (m := 8) rfl s8, ckn (m := 8) rfl s8, if_pos e]
        generalize hr : sA (sA (enr ob (n32 (L + 1)) 1 s 0 0) 5 s 1) 6 s (n32 (L + 1)) = r
        have rA : ∀ j x, ¬ j = 5 → ¬ j = 6 → gA r j x = gA (enr ob (n32 (L + 1)) 1 s 0 0) j x := fun j x a b => by rw [← hr, gA_sA, if_neg (fun e => b e.1), gA_sA, if_neg (fun e => a e.1)]
        have rH : ∀ j x, 7 ≤ j → gA r j x = gA ob j x := fun j x hj => by rw [rA j x (by omega) (by omega), enr_h _ _ _ _ _ j x (by omega)]
        have r5 : ∀ t, gA r 5 t = if t = s then 1 else gA ob 5 t := fun t => by
          rw [← hr, gA_sA, if_neg (fun e => absurd e.1 (by decide)), gA_sA]
          by_cases z : t = s
          · rw [if_pos ⟨rfl, z⟩, if_pos z]
          · rw [if_neg (fun e => z e.2), if_neg z, enr_h _ _ _ _ _ 5 t (by omega)]
        have r6 : ∀ t, gA r 6 t = if t = s then n32 (L + 1) else gA ob 6 t := fun t => by
          rw [← hr, gA_sA]
          by_cases z : t = s
          · rw [if_pos ⟨rfl, z⟩, if_pos z]
          · rw [if_neg (fun e => z e.2), if_neg z, gA_sA, if_neg (fun e => absurd e.1 (by decide)), enr_h _ _ _ _ _ 6 t (by omega)]
        have ap := Ap_e (ob := ob) (r := r) (L := L) (by omega) 1 s 0 0 (fun j x hj => rA j x (by omega) (by omega)) (fun j => by rw [← hr]; rfl) (fun j x hj => rH j x (by omega))
        refine ⟨r, rfl, Or.inr ⟨⟨c, d, e⟩, ?_, ap, r5⟩⟩
        refine LI_ap h e (fun j a _ => ap.gi j a) (by rw [← hr]; rfl) ap.ag ap.nw.1 ap.nw.2.1 ap.nw.2.2.1 (by decide) c (by decide) (fun x => ⟨rH 7 x (by omega), rH 8 x (by omega)⟩) (fun t ht z => ?_)
        rw [r5] at z
        rw [r6]
        by_cases u : t = s
        · left; exact ⟨u, rfl, by rw [if_pos u]⟩
        · right; rw [if_neg u] at z; rw [if_neg u]; exact ⟨z, rfl, Or.inl u⟩
      · rw [if_neg e, if_neg (by decide), if_neg e]; exact ⟨ob, rfl, Or.inl ⟨fun x => e x.2.2, rfl⟩⟩
    · rw [if_neg d, if_neg d]; exact ⟨ob, rfl, Or.inl ⟨fun x => d x.2.1, rfl⟩⟩
  · rw [if_neg c, if_pos rfl, if_neg c]; exact ⟨ob, rfl, Or.inl ⟨fun x => c x.1, rfl⟩⟩
/-- put and del -/
theorem wrt_e {ob : Rec} {ns cap k : Int32} {L : Nat} (h : LI ob ns cap L) (hns : ns.toInt ≤ 8) (hcap : cap.toInt ≤ 64) (hk : k = 2 ∨ k = 3) (s y v : Int32) :
    ∃ r, X_write ob k s y v = some (if In ns.toInt s then (if gA ob 5 s = 0 then -2 else if In 8 y then (if (L : Int) < cap.toInt then n32 (L + 1) else -4) else -3) else -1, r) ∧
      ((¬ (In ns.toInt s ∧ ¬ gA ob 5 s = 0 ∧ In 8 y ∧ (L : Int) < cap.toInt) ∧ r = ob) ∨ ((In ns.toInt s ∧ ¬ gA ob 5 s = 0 ∧ In 8 y ∧ (L : Int) < cap.toInt) ∧ LI r ns cap (L + 1) ∧ Ap ob r L k s y v ∧ (∀ t, gA r 5 t = gA ob 5 t))) := by
  have hl := h.lc
  unfold X_write; rw [cos_e h hns, Option.bind_some]
  by_cases c : In ns.toInt s
  · simp only [if_pos c]
    by_cases d : gA ob 5 s = 0
    · simp only [if_pos d]
      rw [if_neg (by decide)]; exact ⟨ob, rfl, Or.inl ⟨fun x => x.2.1 d, rfl⟩⟩
    · simp only [if_neg d]
      rw [if_pos trivial, vky h, Option.bind_some]
      by_cases y8 : In 8 y
      · simp only [if_pos y8]
        rw [if_neg (by decide), lf_e h hcap, Option.bind_some]
        by_cases e : (L : Int) < cap.toInt
        · simp only [if_pos e]
          rw [if_pos trivial, app_e h.e4 (by omega), bind2_some]
          generalize hr : enr ob (n32 (L + 1)) k s y v = r
          have rH : ∀ j x, 5 ≤ j → gA r j x = gA ob j x := fun j x hj => by rw [← hr]; exact enr_h _ _ _ _ _ j x hj
          have ap := Ap_e (ob := ob) (r := r) (L := L) (by omega) k s y v (fun j x _ => by rw [hr]) (fun j => by rw [hr]) (fun j x hj => rH j x (by omega))
          refine ⟨r, rfl, Or.inr ⟨⟨c, d, y8, e⟩, ?_, ap, fun t => rH 5 t (by omega)⟩⟩
          refine LI_ap h e (fun j a _ => ap.gi j a) (by rw [← hr]; rfl) ap.ag ap.nw.1 ap.nw.2.1 ap.nw.2.2.1 (by rcases hk with e | e <;> rw [e] <;> decide) c y8 (fun x => ⟨rH 7 x (by omega), rH 8 x (by omega)⟩) (fun t ht z => ?_)
          rw [rH 5 t (by omega)] at z
          exact Or.inr ⟨z, rH 6 t (by omega), Or.inr hk⟩
        · simp only [if_neg e]
          rw [if_neg (by decide)]; exact ⟨ob, rfl, Or.inl ⟨fun x => e x.2.2.2, rfl⟩⟩
      · simp only [if_neg y8]
        rw [if_pos trivial]; exact ⟨ob, rfl, Or.inl ⟨fun x => y8 x.2.2.1, rfl⟩⟩
  · simp only [if_neg c]
    rw [if_neg (by decide)]; exact ⟨ob, rfl, Or.inl ⟨fun x => c x.1, rfl⟩⟩
theorem abo_e {ob : Rec} {ns cap : Int32} {L : Nat} (h : LI ob ns cap L) (hns : ns.toInt ≤ 8) (hcap : cap.toInt ≤ 64) (s : Int32) :
    ∃ r, X_abort ob s = some (if In ns.toInt s then (if gA ob 5 s = 0 then -2 else if (L : Int) < cap.toInt then n32 (L + 1) else -4) else -1, r) ∧
      ((¬ (In ns.toInt s ∧ ¬ gA ob 5 s = 0 ∧ (L : Int) < cap.toInt) ∧ r = ob) ∨ ((In ns.toInt s ∧ ¬ gA ob 5 s = 0 ∧ (L : Int) < cap.toInt) ∧ LI r ns cap (L + 1) ∧ Ap ob r L 5 s 0 0 ∧ (∀ t, gA r 5 t = if t = s then 0 else gA ob 5 t))) := by
  have hl := h.lc
  unfold X_abort; rw [cos_e h hns, Option.bind_some]
  by_cases c : In ns.toInt s
  · have s8 : In 8 s := ⟨c.1, by have := c.2; omega⟩
    simp only [if_pos c]
    by_cases d : gA ob 5 s = 0
    · simp only [if_pos d]
      rw [if_neg (by decide)]; exact ⟨ob, rfl, Or.inl ⟨fun x => x.2.1 d, rfl⟩⟩
    · simp only [if_neg d]
      rw [if_pos trivial, lf_e h hcap, Option.bind_some]
      by_cases e : (L : Int) < cap.toInt
      · simp only [if_pos e]
        rw [if_pos trivial, app_e h.e4 (by omega), bind2_some, ckn (m := 8) rfl s8]
        generalize hr : sA (enr ob (n32 (L + 1)) 5 s 0 0) 5 s 0 = r
        have rA : ∀ j x, ¬ j = 5 → gA r j x = gA (enr ob (n32 (L + 1)) 5 s 0 0) j x := fun j x a => by rw [← hr, gA_sA, if_neg (fun e => a e.1)]
        have rH : ∀ j x, 6 ≤ j → gA r j x = gA ob j x := fun j x hj => by rw [rA j x (by omega), enr_h _ _ _ _ _ j x (by omega)]
        have r5 : ∀ t, gA r 5 t = if t = s then 0 else gA ob 5 t := fun t => by
          rw [← hr, gA_sA]
          by_cases z : t = s
          · rw [if_pos ⟨rfl, z⟩, if_pos z]
          · rw [if_neg (fun e => z e.2), if_neg z, enr_h _ _ _ _ _ 5 t (by omega)]
        have ap := Ap_e (ob := ob) (r := r) (L := L) (by omega) 5 s 0 0 (fun j x hj => rA j x (by omega)) (fun j => by rw [← hr]; rfl) (fun j x hj => rH j x (by omega))
        refine ⟨r, rfl, Or.inr ⟨⟨c, d, e⟩, ?_, ap, r5⟩⟩
        refine LI_ap h e (fun j a _ => ap.gi j a) (by rw [← hr]; rfl) ap.ag ap.nw.1 ap.nw.2.1 ap.nw.2.2.1 (by decide) c (by decide) (fun x => ⟨rH 7 x (by omega), rH 8 x (by omega)⟩) (fun t ht z => ?_)
        rw [r5] at z
        by_cases u : t = s
        · rw [if_pos u] at z; exact absurd rfl z
        · rw [if_neg u] at z; exact Or.inr ⟨z, rH 6 t (by omega), Or.inl u⟩
      · simp only [if_neg e]
        rw [if_neg (by decide)]; exact ⟨ob, rfl, Or.inl ⟨fun x => e x.2.2, rfl⟩⟩
  · simp only [if_neg c]
    rw [if_neg (by decide)]; exact ⟨ob, rfl, Or.inl ⟨fun x => c x.1, rfl⟩⟩
theorem n32k {k : Nat} {y : Int32} (hk : k < 8) (hy : In 8 y) : n32 k = y ↔ k = y.toInt.toNat := by
  rw [eq_i32, nt k (by omega)]; omega
/-- the publisher's table takes a transaction -/
theorem atp (NF : Nat) (lg : Lg) (s : Int32) (b c : Nat) (hc : c < 129) (T : Tb) (hkd : ∀ p, b ≤ p → p < c → In 8 (lg 2 p)) : ∀ (m fuel : Nat) (ob : Rec) (n : Nat), m < fuel → b + n ≤ c → c - (b + n) ≤ m → lgo ob = lg → (∀ k, k < 8 → tv ob 7 8 k = apx lg s b n T k) →
    ∃ r, X_applyToPublisher_l18 NF fuel ob s (n32 c) (n32 (b + n)) = some r ∧ r.1 = ob.1 ∧ (∀ j x, ¬ j = 7 → ¬ j = 8 → gA r j x = gA ob j x) ∧ (∀ k, k < 8 → tv r 7 8 k = apx lg s b (c - b) T k) := by
  intro m
  induction m with
  | zero =>
    intro fuel ob n hf h1 h2 hl ht
    obtain ⟨f, rfl⟩ : ∃ f, fuel = f + 1 := ⟨fuel - 1, by omega⟩
    have e : b + n = c := by omega
    refine ⟨ob, ?_, rfl, fun _ _ _ _ => rfl, fun k hk => ?_⟩
    · show X_applyToPublisher_w18 NF _ ob s (n32 c) (n32 (b + n)) = _
      unfold X_applyToPublisher_w18; rw [if_neg (by rw [n32_lt (by omega) (by omega)]; omega)]
    · rw [show c - b = n by omega]; exact ht k hk
  | succ m ih =>
    intro fuel ob n hf h1 h2 hl ht
    obtain ⟨f, rfl⟩ : ∃ f, fuel = f + 1 := ⟨fuel - 1, by omega⟩
    by_cases d : b + n < c
    · have lgj : ∀ j, j ≤ 4 → gA ob j (n32 (b + n)) = lg j (b + n) := fun j hj => by rw [← hl]; unfold lgo; rw [if_pos hj]
      have k8 := hkd (b + n) (by omega) d
      have nx : ∀ ob', lgo ob' = lg → (∀ k, k < 8 → tv ob' 7 8 k = apx lg s b (n + 1) T k) → ∃ r, X_applyToPublisher_l18 NF f ob' s (n32 c) (n32 (b + n) + 1) = some r ∧ r.1 = ob'.1 ∧ (∀ j x, ¬ j = 7 → ¬ j = 8 → gA r j x = gA ob' j x) ∧ (∀ k, k < 8 → tv r 7 8 k = apx lg s b (c - b) T k) := fun ob' a b' => by
        rw [n32_s (by omega), show b + n + 1 = b + (n + 1) by omega]; exact ih f ob' (n + 1) (by omega) (by omega) (by omega) a b'
      have same : mt lg s (b + n) = false → ∀ k, k < 8 → tv ob 7 8 k = apx lg s b (n + 1) T k := fun e k hk => by
        show _ = st1 lg s (b + n) (apx lg s b n T) k
        unfold st1; rw [e]; exact ht k hk
      have q : ∀ A : Option Rec, chk 129 (n32 (b + n)) A = A := fun A => ck32 (m := 129) rfl (by omega) (by omega)
      have q' : ∀ A : Option Rec, chk 32 (lg 2 (b + n)) A = A := fun A => ckn (m := 32) rfl ⟨k8.1, by have := k8.2; omega⟩
      show ∃ r, X_applyToPublisher_w18 NF (X_applyToPublisher_l18 NF f) ob s (n32 c) (n32 (b + n)) = _ ∧ _
      unfold X_applyToPublisher_w18
      rw [if_pos (by rw [n32_lt (by omega) (by omega)]; exact d), if_pos (by rw [lt_i, nt _ (by omega)]; show ((b + n : Nat) : Int) < 129; omega), q, lgj 1 (by omega)]
      by_cases es : lg 1 (b + n) = s
      · rw [if_pos es, q, lgj 2 (by omega), if_neg (nneg k8.1), if_pos (by rw [lt_i]; show _ < (32 : Int); have := k8.2; omega), q, lgj 0 (by omega)]
        by_cases e2 : lg 0 (b + n) = 2
        · rw [if_pos e2, q', q, q', lgj 3 (by omega)]
          have mtt : mt lg s (b + n) = true := decide_eq_true ⟨es, Or.inl e2⟩
          obtain ⟨r, r1, r2, r3, r4⟩ := nx (sA (sA ob 7 (lg 2 (b + n)) 1) 8 (lg 2 (b + n)) (lg 3 (b + n))) ((lgo_c (fun k x hk => by rw [gA_sA, if_neg (by omega), gA_sA, if_neg (by omega)])).trans hl) (fun k hk => by
            show _ = st1 lg s (b + n) (apx lg s b n T) k
            unfold st1 eff tv
            rw [mtt, e2]
            simp only [if_true]
            have := n32k hk k8
            by_cases z : k = (lg 2 (b + n)).toInt.toNat
            · rw [if_pos z, this.mpr z]; simp [gA_sA]
            · have z' : ¬ n32 k = lg 2 (b + n) := fun e => z (this.mp e)
              rw [if_neg z, ← ht k hk]
              unfold tv
              simp [gA_sA, z'])
          exact ⟨r, r1, r2, fun j x a b' => by rw [r3 j x a b', gA_sA, if_neg (fun e => b' e.1), gA_sA, if_neg (fun e => a e.1)], r4⟩
        · rw [if_neg e2, q]
          by_cases e3 : lg 0 (b + n) = 3
          · rw [if_pos e3, q']
            have mtt : mt lg s (b + n) = true := decide_eq_true ⟨es, Or.inr e3⟩
            obtain ⟨r, r1, r2, r3, r4⟩ := nx (sA ob 7 (lg 2 (b + n)) 0) ((lgo_c (fun k x hk => by rw [gA_sA, if_neg (by omega)])).trans hl) (fun k hk => by
              show _ = st1 lg s (b + n) (apx lg s b n T) k
              unfold st1 eff tv
              rw [mtt, if_neg e2]
              simp only [if_true]
              have := n32k hk k8
              by_cases z : k = (lg 2 (b + n)).toInt.toNat
              · rw [if_pos z, this.mpr z]; simp [gA_sA]
              · have z' : ¬ n32 k = lg 2 (b + n) := fun e => z (this.mp e)
                rw [if_neg z, ← ht k hk]
                unfold tv
                simp [gA_sA, z'])
            exact ⟨r, r1, r2, fun j x a b' => by rw [r3 j x a b', gA_sA, if_neg (fun e => a e.1)], r4⟩
          · rw [if_neg e3]
            exact nx ob hl (same (decide_eq_false (fun x => x.2.elim e2 e3)))
      · rw [if_neg es]
        exact nx ob hl (same (decide_eq_false (fun x => es x.1)))
    · have e : b + n = c := by omega
      refine ⟨ob, ?_, rfl, fun _ _ _ _ => rfl, fun k hk => ?_⟩
      · show X_applyToPublisher_w18 NF _ ob s (n32 c) (n32 (b + n)) = _
        unfold X_applyToPublisher_w18; rw [if_neg (by rw [n32_lt (by omega) (by omega)]; omega)]
      · rw [show c - b = n by omega]; exact ht k hk
theorem com_e (NF : Nat) (hNF : 200 < NF) {ob : Rec} {ns cap : Int32} {L : Nat} (h : LI ob ns cap L) (hns : ns.toInt ≤ 8) (hcap : cap.toInt ≤ 64) (s : Int32) :
    ∃ r, X_commit NF ob s = some (if In ns.toInt s then (if gA ob 5 s = 0 then -2 else if (L : Int) < cap.toInt then n32 (L + 1) else -4) else -1, r) ∧
      ((¬ (In ns.toInt s ∧ ¬ gA ob 5 s = 0 ∧ (L : Int) < cap.toInt) ∧ r = ob) ∨ ((In ns.toInt s ∧ ¬ gA ob 5 s = 0 ∧ (L : Int) < cap.toInt) ∧ LI r ns cap (L + 1) ∧ Ap ob r L 4 s 0 0 ∧ (∀ t, gA r 5 t = if t = s then 0 else gA ob 5 t))) := by
  have hl := h.lc
  unfold X_commit; rw [cos_e h hns, Option.bind_some]
  by_cases c : In ns.toInt s
  · have s8 : In 8 s := ⟨c.1, by have := c.2; omega⟩
    simp only [if_pos c]
    by_cases d : gA ob 5 s = 0
    · simp only [if_pos d]
      rw [if_neg (by decide)]; exact ⟨ob, rfl, Or.inl ⟨fun x => x.2.1 d, rfl⟩⟩
    · simp only [if_neg d]
      rw [if_pos trivial, lf_e h hcap, Option.bind_some]
      by_cases e : (L : Int) < cap.toInt
      · simp only [if_pos e]
        rw [if_pos trivial, ckn (m := 8) rfl s8, app_e h.e4 (by omega), bind2_some, ck32 (m := 129) rfl (by omega) (by omega)]
        obtain ⟨-, b, b1, b2, b3, b4, b5, b6⟩ := h.sl s s8 d
        generalize hq : sA (enr ob (n32 (L + 1)) 4 s 0 0) 4 (n32 (L + 1)) (gA ob 6 s) = q
        have qA : ∀ j x, ¬ j = 4 → gA q j x = gA (enr ob (n32 (L + 1)) 4 s 0 0) j x := fun j x a => by rw [← hq, gA_sA, if_neg (fun e => a e.1)]
        have qH : ∀ j x, 5 ≤ j → gA q j x = gA ob j x := fun j x hj => by rw [qA j x (by omega), enr_h _ _ _ _ _ j x hj]
        have agq : Ag (lgo ob) (lgo q) L := fun j p hp => by
          rw [← enr_o (ob := ob) (show L < 128 by omega) 4 s 0 0 j p hp]
          unfold lgo
          by_cases j4 : j ≤ 4
          · rw [if_pos j4, if_pos j4, ← hq, gA_sA, if_neg (fun e => n32_ne (by omega) (by omega) (by omega) e.2)]
          · rw [if_neg j4, if_neg j4]
        have en := enr_n (ob := ob) (n32 (L + 1)) 4 s 0 0
        have q0 : lgo q 0 (L + 1) = 4 := (qA 0 _ (by decide)).trans en.1
        have q1 : lgo q 1 (L + 1) = s := (qA 1 _ (by decide)).trans en.2.1
        have q2 : lgo q 2 (L + 1) = 0 := (qA 2 _ (by decide)).trans en.2.2.1
        have q3 : lgo q 3 (L + 1) = 0 := (qA 3 _ (by decide)).trans en.2.2.2
        have q4 : lgo q 4 (L + 1) = n32 b := by
          show gA q 4 (n32 (L + 1)) = _
          rw [← hq, gA_sA, if_pos ⟨rfl, rfl⟩, b3]
        have bgq : bg (lgo q) (L + 1) = b := by unfold bg; rw [q4, nt b (by omega)]; omega
        obtain ⟨r, r1, r2, r3, r4⟩ := atp NF (lgo q) s (b + 1) (L + 1) (by omega) (rp (lgo ob) L) (fun p x y => by rw [agq 2 p (by omega)]; exact (h.kd p (by omega) (by omega)).2.2) 128 NF q 0 (by omega) (by omega) (by omega) rfl (fun k hk => by
          show _ = rp (lgo ob) L k
          unfold tv; rw [qH 7 _ (by omega), qH 8 _ (by omega)]; exact h.pu k hk)
        have ea : X_applyToPublisher NF q s (gA ob 6 s) (n32 (L + 1)) = some r := by
          unfold X_applyToPublisher
          rw [b3, n32_s (by omega), if_neg (by rw [lt_i, nt _ (by omega)]; show ¬ ((b + 1 : Nat) : Int) < 1; omega)]
          exact r1
        rw [ea, Option.bind_some, ckn (m := 8) rfl s8]
        generalize hz : sA r 5 s 0 = z
        have zA : ∀ j x, ¬ j = 5 → gA z j x = gA r j x := fun j x a => by rw [← hz, gA_sA, if_neg (fun e => a e.1)]
        have elz : lgo z = lgo q := lgo_c (fun j x hj => by rw [zA j x (by omega), r3 j x (by omega) (by omega)])
        have z5 : ∀ t, gA z 5 t = if t = s then 0 else gA ob 5 t := fun t => by
          rw [← hz, gA_sA]
          by_cases u : t = s
          · rw [if_pos ⟨rfl, u⟩, if_pos u]
          · rw [if_neg (fun e => u e.2), if_neg u, r3 5 t (by decide) (by decide), qH 5 t (by omega)]
        have z6 : ∀ t, gA z 6 t = gA ob 6 t := fun t => by rw [zA 6 t (by decide), r3 6 t (by decide) (by decide), qH 6 t (by omega)]
        have zi : ∀ j, gI z j = if j = 4 then n32 (L + 1) else gI ob j := fun j => by
          rw [← hz]
          show gI r j = _
          unfold gI
          rw [r2, ← hq]; rfl
        have ag : Ag (lgo ob) (lgo z) L := by rw [elz]; exact agq
        refine ⟨z, rfl, Or.inr ⟨⟨c, d, e⟩, ?_, ⟨ag, by rw [elz]; exact ⟨q0, q1, q2, q3⟩, fun j hj => by rw [zi, if_neg hj], fun j x hj => by rw [zA j x (by omega), r3 j x (by omega) (by omega), qH j x (by omega)]⟩, z5⟩⟩
        refine ⟨by rw [zi, zi, zi]; exact h.cf, by rw [zi]; rfl, by omega, ⟨fun p x y w => ?_, fun p x y w => ?_⟩, fun p x y => ?_, fun t ht w => ?_, fun k hk => ?_⟩
        · by_cases u : p = L + 1
          · rw [u, elz, q0] at w
            rcases w with w | w <;> exact absurd w (by decide)
          · rw [ag 0 p (by omega)] at w; rw [ag 2 p (by omega)]; exact h.lw.ky p x (by omega) w
        · rw [elz] at w ⊢
          by_cases u : p = L + 1
          · rw [u, bgq, q1, agq 0 b b2, agq 1 b b2]
            refine ⟨b1, by omega, b4, b5, fun j x y w => ?_⟩
            rw [agq 1 j (by omega)] at w
            rw [agq 0 j (by omega)]
            exact b6 j x (by omega) w
          · rw [agq 0 p (by omega)] at w
            have := h.lw.cm p x (by omega) w
            rw [bg_a agq (by omega), agq 0 _ (by omega), agq 1 _ (by omega), agq 1 _ (by omega)]
            refine ⟨this.1, this.2.1, this.2.2.1, this.2.2.2.1, fun j x y w => ?_⟩
            rw [agq 1 j (by omega)] at w
            rw [agq 0 j (by omega)]
            exact this.2.2.2.2 j x y w
        · rw [elz]
          by_cases u : p = L + 1
          · rw [u, q0, q1, q2]; exact ⟨by decide, c, by decide⟩
          · rw [agq 0 p (by omega), agq 1 p (by omega), agq 2 p (by omega)]; exact h.kd p x (by omega)
        · rw [z5] at w
          by_cases u : t = s
          · rw [if_pos u] at w; exact absurd rfl w
          · rw [if_neg u] at w
            obtain ⟨u', b', b1', b2', b3', b4', b5', b6'⟩ := h.sl t ht w
            refine ⟨u', b', b1', by omega, by rw [z6]; exact b3', by rw [ag 0 b' b2']; exact b4', by rw [ag 1 b' b2']; exact b5', fun p x y w' => ?_⟩
            by_cases v : p = L + 1
            · rw [v, elz, q1] at w'; exact absurd w'.symm u
            · rw [ag 1 p (by omega)] at w'
              rw [ag 0 p (by omega)]
              exact b6' p x (by omega) w'
        · have tz : tv z 7 8 k = tv r 7 8 k := by unfold tv; rw [zA 7 _ (by decide), zA 8 _ (by decide)]
          rw [tz, r4 k hk, elz]
          show _ = (if lgo q 0 (L + 1) = 4 then apx (lgo q) (lgo q 1 (L + 1)) (bg (lgo q) (L + 1) + 1) (L + 1 - (bg (lgo q) (L + 1) + 1)) (rp (lgo q) L) else rp (lgo q) L) k
          rw [if_pos q0, q1, bgq, rp_a agq L (Nat.le_refl _)]
      · simp only [if_neg e]
        rw [if_neg (by decide)]; exact ⟨ob, rfl, Or.inl ⟨fun x => e x.2.2, rfl⟩⟩
  · simp only [if_neg c]
    rw [if_neg (by decide)]; exact ⟨ob, rfl, Or.inl ⟨fun x => c x.1, rfl⟩⟩
theorem n32_add {i j : Nat} (hi : i < 1000) (hj : j < 1000) : n32 i + n32 j = n32 (i + j) := eq_i32.mpr (by rw [ad (by rw [nt i (by omega), nt j (by omega)]; omega), nt i (by omega), nt j (by omega), nt (i + j) (by omega)]; omega)
theorem n32_p {i : Nat} (hi : i < 1000) : n32 (i + 1) - 1 = n32 i := eq_i32.mpr (by rw [sb (by rw [nt (i + 1) (by omega)]; show -2147483648 ≤ ((i + 1 : Nat) : Int) - 1 ∧ ((i + 1 : Nat) : Int) - 1 < 2147483648; omega), nt (i + 1) (by omega), nt i (by omega)]; show ((i + 1 : Nat) : Int) - 1 = _; omega)
theorem n32_m {i : Nat} (hi : i < 1000) : n32 i % 128 = n32 (i % 128) := eq_i32.mpr (by rw [md (by rw [nt i (by omega)]; omega) (by decide), nt i (by omega), nt (i % 128) (by omega)]; show (i : Int) % 128 = _; omega)
theorem n32_0 : n32 0 = 0 := rfl
theorem lgj {ob : Rec} {j p : Nat} (h : j ≤ 4) : lgo ob j p = gA ob j (n32 p) := by unfold lgo; rw [if_pos h]
/-- the next commit -/
theorem nc_l (NF : Nat) {ob : Rec} {L : Nat} (h4 : gI ob 4 = n32 L) (hL : L ≤ 64) : ∀ m fuel p, m < fuel → 1 ≤ p → p ≤ L + 1 → L + 1 - p ≤ m →
    (X_nextCommit_l13 NF ob fuel (n32 p) = some 0 ∧ ∀ j, p ≤ j → j ≤ L → ¬ lgo ob 0 j = 4) ∨ (∃ c, p ≤ c ∧ c ≤ L ∧ lgo ob 0 c = 4 ∧ (∀ j, p ≤ j → j < c → ¬ lgo ob 0 j = 4) ∧ X_nextCommit_l13 NF ob fuel (n32 p) = some (n32 c)) := by
  intro m
  induction m with
  | zero =>
    intro fuel p hf h1 h2 h3
    obtain ⟨f, rfl⟩ : ∃ f, fuel = f + 1 := ⟨fuel - 1, by omega⟩
    left
    refine ⟨?_, fun j a b => by omega⟩
    show X_nextCommit_w13 NF ob _ (n32 p) = _
    unfold X_nextCommit_w13; rw [h4, if_pos (by rw [n32_lt (by omega) (by omega)]; omega)]
  | succ m ih =>
    intro fuel p hf h1 h2 h3
    obtain ⟨f, rfl⟩ : ∃ f, fuel = f + 1 := ⟨fuel - 1, by omega⟩
    show (X_nextCommit_w13 NF ob (X_nextCommit_l13 NF ob f) (n32 p) = _ ∧ _) ∨ (∃ c, _ ∧ _ ∧ _ ∧ _ ∧ X_nextCommit_w13 NF ob (X_nextCommit_l13 NF ob f) (n32 p) = _)
    unfold X_nextCommit_w13; rw [h4]
    by_cases d : L < p
    · left
      rw [if_pos (by rw [n32_lt (by omega) (by omega)]; omega)]
      exact ⟨rfl, fun j a b => by omega⟩
    · rw [if_neg (by rw [n32_lt (by omega) (by omega)]; omega), if_pos (by rw [lt_i, nt p (by omega)]; show (p : Int) < 129; omega), ck32 (m := 129) rfl (by omega) (by omega)]
      by_cases e : gA ob 0 (n32 p) = 4
      · right
        rw [if_pos e]
        exact ⟨p, Nat.le_refl _, by omega, by rw [lgj (by omega)]; exact e, fun j a b => by omega, rfl⟩
      · rw [if_neg e, n32_s (by omega)]
        have ne : ¬ lgo ob 0 p = 4 := by rw [lgj (by omega)]; exact e
        rcases ih f (p + 1) (by omega) (by omega) (by omega) (by omega) with ⟨a, b⟩ | ⟨c, c1, c2, c3, c4, c5⟩
        · left
          refine ⟨a, fun j x y => ?_⟩
          by_cases z : j = p
          · rw [z]; exact ne
          · exact b j (by omega) y
        · right
          refine ⟨c, by omega, c2, c3, fun j x y => ?_, c5⟩
          by_cases z : j = p
          · rw [z]; exact ne
          · exact c4 j (by omega) y
theorem nc_e (NF : Nat) (hNF : 200 < NF) {ob : Rec} {L E : Nat} (h4 : gI ob 4 = n32 L) (hL : L ≤ 64) (hE : E ≤ L) :
    (X_nextCommit NF ob (n32 E) = some 0 ∧ ∀ j, E < j → j ≤ L → ¬ lgo ob 0 j = 4) ∨ (∃ c, E < c ∧ c ≤ L ∧ lgo ob 0 c = 4 ∧ (∀ j, E < j → j < c → ¬ lgo ob 0 j = 4) ∧ X_nextCommit NF ob (n32 E) = some (n32 c)) := by
  unfold X_nextCommit
  rw [n32_s (by omega), if_neg (by rw [lt_i, nt _ (by omega)]; show ¬ ((E + 1 : Nat) : Int) < 1; omega)]
  exact nc_l NF h4 hL 100 NF (E + 1) (by omega) (by omega) (by omega) (by omega)
/-- one message more -/
theorem enq_e {ob : Rec} {l : List Msg} (h : QL ob l) (hl : l.length < 128) (k y v c : Int32) : ∃ r, X_enqueue ob k y v c = some r ∧ QL r (l ++ [(k, y, v, c)]) ∧ (∀ j, ¬ j = 9 → gI r j = gI ob j) ∧ (∀ j x, j ≤ 12 → gA r j x = gA ob j x) := by
  obtain ⟨q, q1, q2, q3, q4, q5⟩ := h
  unfold X_enqueue
  have e : (gI ob 8 + gI ob 9) % 128 = qi q l.length := by rw [q2, q3, n32_add (by omega) (by omega), n32_m (by omega)]; rfl
  have m8 : (q + l.length) % 128 < 128 := Nat.mod_lt _ (by omega)
  rw [e, q3, if_pos (by rw [lt_i, nt _ (by omega)]; show (l.length : Int) < 128; omega), if_neg (show ¬ qi q l.length < 0 from nneg (n32_b (by omega)).1)]
  unfold X_enqueue_b34
  have ck : ∀ A : Option Rec, chk 128 (qi q l.length) A = A := fun A => ck32 (m := 128) rfl m8 (by omega)
  rw [ck, ck, ck, ck, q3]
  generalize hr : sI (sA (sA (sA (sA ob 13 (qi q l.length) k) 14 (qi q l.length) y) 15 (qi q l.length) v) 16 (qi q l.length) c) 9 (n32 l.length + 1) = r
  refine ⟨r, rfl, ⟨q, q1, ?_, ?_, ?_, fun i hi => ?_⟩, fun j hj => ?_, fun j x hj => ?_⟩
  · rw [← hr]; exact q2
  · rw [← hr, List.length_append, gI_sI, if_pos rfl, n32_s (by omega)]; rfl
  · rw [List.length_append]; show l.length + 1 ≤ 128; omega
  · rw [List.length_append] at hi
    have hi' : i < l.length + 1 := hi
    by_cases d : i = l.length
    · rw [d, List.getElem?_append_right (Nat.le_refl _), Nat.sub_self]
      unfold qm
      rw [← hr]
      simp [gA_sA, gA_sI]
    · rw [List.getElem?_append_left (by omega), q5 i (by omega)]
      have ne : ¬ qi q i = qi q l.length := by
        unfold qi
        exact n32_ne (by omega) (by omega) (by omega)
      unfold qm
      rw [← hr]
      simp [gA_sA, gA_sI, ne]
  · rw [← hr, gI_sI, if_neg hj]; rfl
  · rw [← hr]
    simp [gA_sA, gA_sI, show ¬ j = 13 by omega, show ¬ j = 14 by omega, show ¬ j = 15 by omega, show ¬ j = 16 by omega]
theorem msx_mono (lg : Lg) (s : Int32) (c p n : Nat) : ∀ m, (msx lg s c p n).length ≤ (msx lg s c p (n + m)).length
  | 0 => Nat.le_refl _
  | m + 1 => by
    have := msx_mono lg s c p n m
    show _ ≤ (msx lg s c p (n + m) ++ _).length
    rw [List.length_append]; omega
theorem emt_l (NF : Nat) (lg : Lg) (s : Int32) (b c : Nat) (hc : c < 129) (l : List Msg) (hl : l.length + (msx lg s c b (c - b)).length + 1 ≤ 128) : ∀ (m fuel : Nat) (ob : Rec) (n : Nat), m < fuel → b + n ≤ c → c - (b + n) ≤ m → lgo ob = lg → QL ob (l ++ msx lg s c b n) →
    ∃ r, X_emitTransaction_l26 NF fuel ob (n32 c) s (n32 (b + n)) = some r ∧ QL r (l ++ (msx lg s c b (c - b) ++ [cmsg c])) ∧ (∀ j, ¬ j = 9 → gI r j = gI ob j) ∧ (∀ j x, j ≤ 12 → gA r j x = gA ob j x) := by
  have fin : ∀ (ob : Rec), QL ob (l ++ msx lg s c b (c - b)) → ∃ r, X_emitTransaction_b102 NF ob (n32 c) = some r ∧ QL r (l ++ (msx lg s c b (c - b) ++ [cmsg c])) ∧ (∀ j, ¬ j = 9 → gI r j = gI ob j) ∧ (∀ j x, j ≤ 12 → gA r j x = gA ob j x) := by
    intro ob hq
    obtain ⟨r, r1, r2, r3, r4⟩ := enq_e hq (by rw [List.length_append]; omega) 4 0 0 (n32 c)
    refine ⟨r, ?_, by rw [← List.append_assoc]; exact r2, r3, r4⟩
    unfold X_emitTransaction_b102; rw [r1, Option.bind_some]
  intro m
  induction m with
  | zero =>
    intro fuel ob n hf h1 h2 hg hq
    obtain ⟨f, rfl⟩ : ∃ f, fuel = f + 1 := ⟨fuel - 1, by omega⟩
    rw [show n = c - b by omega] at hq
    show ∃ r, X_emitTransaction_w26 NF _ ob (n32 c) s (n32 (b + n)) = _ ∧ _
    unfold X_emitTransaction_w26; rw [if_neg (by rw [n32_lt (by omega) (by omega)]; omega)]
    exact fin ob hq
  | succ m ih =>
    intro fuel ob n hf h1 h2 hg hq
    obtain ⟨f, rfl⟩ : ∃ f, fuel = f + 1 := ⟨fuel - 1, by omega⟩
    show ∃ r, X_emitTransaction_w26 NF (X_emitTransaction_l26 NF f) ob (n32 c) s (n32 (b + n)) = _ ∧ _
    unfold X_emitTransaction_w26
    by_cases d : b + n < c
    · have g : ∀ j, j ≤ 4 → gA ob j (n32 (b + n)) = lg j (b + n) := fun j hj => by rw [← hg, lgj hj]
      have q : ∀ A : Option Rec, chk 129 (n32 (b + n)) A = A := fun A => ck32 (m := 129) rfl (by omega) (by omega)
      have nx : ∀ ob', lgo ob' = lg → QL ob' (l ++ msx lg s c b (n + 1)) → ∃ r, X_emitTransaction_l26 NF f ob' (n32 c) s (n32 (b + n) + 1) = some r ∧ QL r (l ++ (msx lg s c b (c - b) ++ [cmsg c])) ∧ (∀ j, ¬ j = 9 → gI r j = gI ob' j) ∧ (∀ j x, j ≤ 12 → gA r j x = gA ob' j x) := fun ob' a b' => by
        rw [n32_s (by omega), show b + n + 1 = b + (n + 1) by omega]; exact ih f ob' (n + 1) (by omega) (by omega) (by omega) a b'
      have same : mt lg s (b + n) = false → QL ob (l ++ msx lg s c b (n + 1)) := fun e => by
        show QL ob (l ++ (msx lg s c b n ++ (if mt lg s (b + n) then _ else [])))
        rw [e, if_neg (by decide), List.append_nil]; exact hq
      rw [if_pos (by rw [n32_lt (by omega) (by omega)]; exact d), if_pos (by rw [lt_i, nt _ (by omega)]; show ((b + n : Nat) : Int) < 129; omega), q, g 1 (by omega)]
      by_cases es : lg 1 (b + n) = s
      · have put : (lg 0 (b + n) = 2 ∨ lg 0 (b + n) = 3) → ∃ r, X_emitTransaction_b75 NF (X_emitTransaction_l26 NF f) ob (n32 c) s (n32 (b + n)) (lg 0 (b + n)) = some r ∧ QL r (l ++ (msx lg s c b (c - b) ++ [cmsg c])) ∧ (∀ j, ¬ j = 9 → gI r j = gI ob j) ∧ (∀ j x, j ≤ 12 → gA r j x = gA ob j x) := fun hk => by
          have mtt : mt lg s (b + n) = true := decide_eq_true ⟨es, hk⟩
          have mono := msx_mono lg s c b n (c - b - n)
          rw [show n + (c - b - n) = c - b by omega] at mono
          obtain ⟨r, r1, r2, r3, r4⟩ := enq_e hq (by rw [List.length_append]; omega) (lg 0 (b + n)) (lg 2 (b + n)) (lg 3 (b + n)) (n32 c)
          unfold X_emitTransaction_b75
          rw [q, q, g 2 (by omega), g 3 (by omega), r1, Option.bind_some]
          obtain ⟨w, w1, w2, w3, w4⟩ := nx r ((lgo_c (fun k x hk => r4 k x (by omega))).trans hg) (by
            show QL r (l ++ (msx lg s c b n ++ (if mt lg s (b + n) then [msg lg c (b + n)] else [])))
            rw [mtt, if_pos rfl, ← List.append_assoc]; exact r2)
          exact ⟨w, w1, w2, fun j hj => (w3 j hj).trans (r3 j hj), fun j x hj => (w4 j x hj).trans (r4 j x hj)⟩
        rw [if_pos es, q, g 0 (by omega)]
        by_cases e2 : lg 0 (b + n) = 2
        · rw [if_pos e2]; exact put (Or.inl e2)
        · rw [if_neg e2]
          by_cases e3 : lg 0 (b + n) = 3
          · rw [if_pos e3]; exact put (Or.inr e3)
          · rw [if_neg e3]
            exact nx ob hg (same (decide_eq_false (fun x => x.2.elim e2 e3)))
      · rw [if_neg es]
        exact nx ob hg (same (decide_eq_false (fun x => es x.1)))
    · rw [show n = c - b by omega] at hq
      rw [if_neg (by rw [n32_lt (by omega) (by omega)]; omega)]
      exact fin ob hq
theorem emt_e (NF : Nat) (hNF : 200 < NF) {ob : Rec} {c : Nat} {l : List Msg} (hc : c < 129) (hw : 1 ≤ bg (lgo ob) c ∧ bg (lgo ob) c < c) (hq : QL ob l) (hl : l.length + (tx (lgo ob) c).length ≤ 128) : ∃ r, X_emitTransaction NF ob (n32 c) = some r ∧ QL r (l ++ tx (lgo ob) c) ∧ (∀ j, ¬ j = 9 → gI r j = gI ob j) ∧ (∀ j x, j ≤ 12 → gA r j x = gA ob j x) := by
  have q : ∀ A : Option Rec, chk 129 (n32 c) A = A := fun A => ck32 (m := 129) rfl (by omega) (by omega)
  unfold X_emitTransaction
  rw [q, q]
  have e4 : gA ob 4 (n32 c) = n32 (bg (lgo ob) c) := by
    unfold bg; rw [lgj (by omega)]
    refine (n32_t _ ?_).symm
    have h := hw.1; unfold bg at h; rw [lgj (by omega)] at h; omega
  rw [e4, n32_s (by omega), if_neg (by rw [lt_i, nt _ (by omega)]; show ¬ ((bg (lgo ob) c + 1 : Nat) : Int) < 1; omega), ← lgj (show 1 ≤ 4 by omega)]
  unfold tx at hl ⊢
  rw [List.length_append] at hl
  exact emt_l NF (lgo ob) (lgo ob 1 c) (bg (lgo ob) c + 1) c hc l hl 150 NF ob 0 (by omega) (by omega) (by omega) rfl (by show QL ob (l ++ []); rw [List.append_nil]; exact hq)
/-- what a stream call emits: the last commit sent, and their number -/
def sc (lg : Lg) (N : Int) (E : Nat) : Nat → Nat × Nat
  | 0 => (E, 0)
  | m + 1 => if ((sc lg N E m).2 : Int) < N ∧ lg 0 (E + m + 1) = 4 then (E + m + 1, (sc lg N E m).2 + 1) else sc lg N E m
theorem sc_same (lg : Lg) (N : Int) (E : Nat) (m : Nat) : ∀ n, (((sc lg N E m).2 : Int) < N → ∀ j, E + m < j → j ≤ E + m + n → ¬ lg 0 j = 4) → sc lg N E (m + n) = sc lg N E m
  | 0, _ => rfl
  | n + 1, h => by
    show (if ((sc lg N E (m + n)).2 : Int) < N ∧ lg 0 (E + (m + n) + 1) = 4 then _ else sc lg N E (m + n)) = _
    rw [sc_same lg N E m n (fun a j x y => h a j x (by omega))]
    rw [if_neg (fun x => h x.1 (E + (m + n) + 1) (by omega) (by omega) x.2)]
theorem sc_b (lg : Lg) (N : Int) (E : Nat) : ∀ m, (sc lg N E m).2 ≤ m ∧ E ≤ (sc lg N E m).1 ∧ (sc lg N E m).1 ≤ E + m ∧ ((sc lg N E m).1 = E ∨ lg 0 (sc lg N E m).1 = 4) ∧ (((sc lg N E m).2 : Int) < N → ∀ j, (sc lg N E m).1 < j → j ≤ E + m → ¬ lg 0 j = 4)
  | 0 => ⟨Nat.le_refl _, Nat.le_refl _, Nat.le_refl _, Or.inl rfl, fun _ j x y => by have : E < j := x; omega⟩
  | m + 1 => by
    obtain ⟨a, b, c, d, e⟩ := sc_b lg N E m
    by_cases z : ((sc lg N E m).2 : Int) < N ∧ lg 0 (E + m + 1) = 4
    · have q : sc lg N E (m + 1) = (E + m + 1, (sc lg N E m).2 + 1) := if_pos z
      rw [q]
      exact ⟨by show (sc lg N E m).2 + 1 ≤ m + 1; omega, by show E ≤ E + m + 1; omega, by show E + m + 1 ≤ E + (m + 1); omega, Or.inr z.2, fun _ j x y => by have : E + m + 1 < j := x; omega⟩
    · have q : sc lg N E (m + 1) = sc lg N E m := if_neg z
      rw [q]
      refine ⟨by omega, b, by omega, d, fun x j u v => ?_⟩
      by_cases w : j = E + m + 1
      · rw [w]; exact fun y => z ⟨x, y⟩
      · exact e x j u (by omega)
theorem tx_pos (lg : Lg) (c : Nat) : 1 ≤ (tx lg c).length := by
  unfold tx; rw [List.length_append]; show 1 ≤ _ + 1; omega
theorem lgq {ob r : Rec} (h : ∀ j x, j ≤ 12 → gA r j x = gA ob j x) : lgo r = lgo ob := lgo_c (fun k x hk => h k x (by omega))
/-- one transaction sent -/
theorem SI_em {ob r : Rec} {ns cap : Int32} {L E A C c : Nat} {l : List Msg} {P : Pd} (hI : LI ob ns cap L) (h : SI ob L E A C l P) (cE : E < c) (cL : c ≤ L) (k4 : lgo ob 0 c = 4) (hn : ∀ j, E < j → j < c → ¬ lgo ob 0 j = 4)
    (ql : QL r (l ++ tx (lgo ob) c)) (ri : ∀ j, ¬ j = 9 → ¬ j = 5 → gI r j = gI ob j) (r5 : gI r 5 = n32 c) (ra : ∀ j x, j ≤ 12 → gA r j x = gA ob j x) : SI r L c A C (l ++ tx (lgo ob) c) P := by
  have el := lgq ra
  have hw : LW (lgo ob) c := ⟨fun p x y w => hI.lw.ky p x (by omega) w, fun d x y w => hI.lw.cm d x (by omega) w⟩
  obtain ⟨a1, a2, a3, a4, a5, a6, a7, a8, a9, a10, a11⟩ := h
  refine ⟨r5, (ri 6 (by decide) (by decide)).trans a2, (ri 7 (by decide) (by decide)).trans a3, ⟨cL, Or.inr (by rw [el]; exact k4)⟩, ⟨a5.1, by rw [el]; exact a5.2⟩, ⟨a6.1, by rw [el]; exact a6.2⟩, fun k hk => ?_, ql, ?_, fun k hk => ?_, ?_⟩
  · rw [el, ← a7 k hk]; unfold tv; rw [ra 9 _ (by omega), ra 10 _ (by omega)]
  · rw [el, cl_tx hw k4 (by omega), List.length_append]
    have e1 := cl_skip (lg := lgo ob) (E := E) (c - 1 - E) (fun j x y => hn j x (by omega))
    rw [show E + (c - 1 - E) = c - 1 by omega] at e1
    have e2 : cN (cl (lgo ob) (c - 1)) c = cN (cl (lgo ob) E) c := cN_eq c (fun i _ => e1 i)
    have e3 : cN (cl (lgo ob) E) (E + 1) ≤ cN (cl (lgo ob) E) c := by
      have g : ∀ m, cN (cl (lgo ob) E) (E + 1) ≤ cN (cl (lgo ob) E) (E + 1 + m) := by
        intro m
        induction m with
        | zero => exact Nat.le_refl _
        | succ m ih => show _ ≤ cN (cl (lgo ob) E) (E + 1 + m) + _; omega
      have := g (c - (E + 1))
      rw [show E + 1 + (c - (E + 1)) = c by omega] at this; exact this
    omega
  · rw [← a10 k hk]; unfold pv; rw [ra 11 _ (by omega), ra 12 _ (by omega)]
  · rw [el]; exact QS_emit a11 cE k4 hn
theorem SI_room {ob : Rec} {ns cap : Int32} {L E A C c : Nat} {l : List Msg} {P : Pd} (hI : LI ob ns cap L) (hcap : cap.toInt ≤ 64) (h : SI ob L E A C l P) (cE : E < c) (cL : c ≤ L) (k4 : lgo ob 0 c = 4) (hn : ∀ j, E < j → j < c → ¬ lgo ob 0 j = 4) : l.length + (tx (lgo ob) c).length ≤ 66 := by
  have hw : LW (lgo ob) c := ⟨fun p x y w => hI.lw.ky p x (by omega) w, fun d x y w => hI.lw.cm d x (by omega) w⟩
  have e0 := cl_tx hw k4 (by omega)
  have e1 := cl_skip (lg := lgo ob) (E := E) (c - 1 - E) (fun j x y => hn j x (by omega))
  rw [show E + (c - 1 - E) = c - 1 by omega] at e1
  have e2 : cN (cl (lgo ob) (c - 1)) c = cN (cl (lgo ob) E) c := cN_eq c (fun i _ => e1 i)
  have e3 : cN (cl (lgo ob) E) (E + 1) ≤ cN (cl (lgo ob) E) c := by
    have g : ∀ m, cN (cl (lgo ob) E) (E + 1) ≤ cN (cl (lgo ob) E) (E + 1 + m) := by
      intro m
      induction m with
      | zero => exact Nat.le_refl _
      | succ m ih => show _ ≤ cN (cl (lgo ob) E) (E + 1 + m) + _; omega
    have := g (c - (E + 1))
    rw [show E + 1 + (c - (E + 1)) = c by omega] at this; exact this
  have e4 := cN_b (cl (lgo ob) c) (c + 1)
  have e5 := h.qw
  have e6 := hI.lc
  omega
theorem om1 {E e L : Nat} (a : E ≤ e) (b : e ≤ L) : e - E + (L - e) = L - E := by omega
theorem om2 {E e c : Nat} (a : E ≤ e) (b : e < c) : e - E + (c - 1 - e) = c - 1 - E ∧ c - E = (c - 1 - E) + 1 ∧ E + (c - 1 - E) + 1 = c := by omega
theorem om3 {L e c m : Nat} (a : L - e ≤ m + 1) (b : e < c) (d : c ≤ L) : L - c ≤ m := by omega
theorem str_l (NF : Nat) (hNF : 200 < NF) (lg : Lg) (ns cap : Int32) (hcap : cap.toInt ≤ 64) (n : Int32) (L E A C : Nat) (hEL : E ≤ L) (P : Pd) (q0 : Nat) : ∀ (m fuel : Nat) (ob : Rec) (e k : Nat) (l : List Msg), m < fuel → L - e ≤ m → E ≤ e → lgo ob = lg → LI ob ns cap L → SI ob L e A C l P → sc lg n.toInt E (e - E) = (e, k) → q0 + k ≤ l.length →
    ∃ r l', X_stream_l10 NF fuel ob n (n32 k) (n32 k) = some (n32 (sc lg n.toInt E (L - E)).2, r) ∧ LI r ns cap L ∧ SI r L (sc lg n.toInt E (L - E)).1 A C l' P ∧ q0 + (sc lg n.toInt E (L - E)).2 ≤ l'.length ∧ (∀ j, ¬ j = 5 → ¬ j = 9 → gI r j = gI ob j) ∧ (∀ j x, j ≤ 12 → gA r j x = gA ob j x) := by
  intro m
  induction m with
  | zero =>
    intro fuel ob e k l hf h1 hEe hg hI hS hsc hq
    obtain ⟨f, rfl⟩ : ∃ f, fuel = f + 1 := ⟨fuel - 1, by omega⟩
    have lc := hI.lc
    have eL := hS.hE.1
    have kb := (sc_b lg n.toInt E (e - E)).1
    rw [hsc] at kb
    have kb' : k ≤ e - E := kb
    have ee : e = L := by omega
    rw [ee] at hsc hS
    rw [hsc]
    refine ⟨ob, l, ?_, hI, hS, hq, fun _ _ _ => rfl, fun _ _ _ => rfl⟩
    show X_stream_w10 NF _ ob n (n32 k) (n32 k) = _
    unfold X_stream_w10
    rw [if_pos (by rw [lt_i, nt k (by omega)]; show (k : Int) < 129; omega)]
    by_cases c : n32 k < n
    · rw [if_pos c, hS.e5]
      rcases nc_e NF hNF hI.e4 (by omega) (Nat.le_refl L) with ⟨a, -⟩ | ⟨c, c1, c2, -⟩
      · rw [a, Option.bind_some, if_pos rfl]
      · omega
    · rw [if_neg c]
  | succ m ih =>
    intro fuel ob e k l hf h1 hEe hg hI hS hsc hq
    obtain ⟨f, rfl⟩ : ∃ f, fuel = f + 1 := ⟨fuel - 1, by omega⟩
    have lc := hI.lc
    have eL := hS.hE.1
    have kb := (sc_b lg n.toInt E (e - E)).1
    rw [hsc] at kb
    have kb' : k ≤ e - E := kb
    have kt : (n32 k).toInt = k := nt k (by omega)
    show ∃ r l', X_stream_w10 NF (X_stream_l10 NF f) ob n (n32 k) (n32 k) = _ ∧ _
    unfold X_stream_w10
    rw [if_pos (by rw [lt_i, kt]; show (k : Int) < 129; omega)]
    have stop : ((k : Int) < n.toInt → ∀ j, e < j → j ≤ L → ¬ lg 0 j = 4) → sc lg n.toInt E (L - E) = (e, k) := fun h => by
      have := sc_same lg n.toInt E (e - E) (L - e) (fun a j x y => by rw [hsc] at a; exact h a j (by omega) (by omega))
      rw [om1 hEe eL] at this
      rw [this, hsc]
    by_cases c : n32 k < n
    · rw [if_pos c, hS.e5]
      have c' : (k : Int) < n.toInt := by rw [lt_i, kt] at c; exact c
      rcases nc_e NF hNF hI.e4 (by omega) eL with ⟨a, b⟩ | ⟨c, c1, c2, c3, c4, c5⟩
      · rw [a, Option.bind_some, if_pos rfl, stop (fun _ => by rw [← hg]; exact b)]
        exact ⟨ob, l, rfl, hI, hS, hq, fun _ _ _ => rfl, fun _ _ _ => rfl⟩
      · rw [c5, Option.bind_some, if_neg (show ¬ n32 c = 0 from n32_ne (j := 0) (by omega) (by omega) (by omega))]
        have room := SI_room hI hcap hS c1 c2 c3 c4
        have cm := hI.lw.cm c (by omega) c2 c3
        obtain ⟨r, r1, r2, r3, r4⟩ := emt_e NF hNF (by omega) ⟨cm.1, cm.2.1⟩ hS.ql (by omega)
        rw [r1, Option.bind_some, n32_s (by omega)]
        have nI : ∀ j, ¬ j = 5 → ¬ j = 9 → gI (sI r 5 (n32 c)) j = gI ob j := fun j a b => by rw [gI_sI, if_neg a]; exact r3 j b
        have nA : ∀ j x, j ≤ 12 → gA (sI r 5 (n32 c)) j x = gA ob j x := r4
        have hsc' : sc lg n.toInt E (c - E) = (c, k + 1) := by
          have := sc_same lg n.toInt E (e - E) (c - 1 - e) (fun a j x y => by rw [← hg]; exact c4 j (by omega) (by omega))
          rw [(om2 hEe c1).1] at this
          rw [(om2 hEe c1).2.1]
          show (if ((sc lg n.toInt E (c - 1 - E)).2 : Int) < n.toInt ∧ lg 0 (E + (c - 1 - E) + 1) = 4 then (E + (c - 1 - E) + 1, (sc lg n.toInt E (c - 1 - E)).2 + 1) else _) = _
          rw [this, hsc, (om2 hEe c1).2.2, if_pos ⟨c', by rw [← hg]; exact c3⟩]
        obtain ⟨w, l', w1, w2, w3, w4, w5, w6⟩ := ih f (sI r 5 (n32 c)) c (k + 1) (l ++ tx (lgo ob) c) (by omega) (om3 h1 c1 c2) (Nat.le_of_lt (Nat.lt_of_le_of_lt hEe c1)) ((lgq nA).trans hg) (LI_c hI (fun j hj => nI j (by omega) (by omega)) (fun j x hj => nA j x (by omega))) (SI_em hI hS c1 c2 c3 c4 r2 (fun j a b => nI j b a) rfl nA) hsc' (by rw [List.length_append]; have := tx_pos (lgo ob) c; omega)
        exact ⟨w, l', w1, w2, w3, w4, fun j a b => (w5 j a b).trans (nI j a b), fun j x a => (w6 j x a).trans (nA j x a)⟩
    · have c' : ¬ (k : Int) < n.toInt := by rw [lt_i, kt] at c; exact c
      rw [if_neg c, stop (fun a => absurd a c')]
      exact ⟨ob, l, rfl, hI, hS, hq, fun _ _ _ => rfl, fun _ _ _ => rfl⟩
theorem str_e (NF : Nat) (hNF : 200 < NF) {ob : Rec} {ns cap : Int32} {L E A C : Nat} {l : List Msg} {P : Pd} (hI : LI ob ns cap L) (hcap : cap.toInt ≤ 64) (h : SI ob L E A C l P) (n : Int32) :
    ∃ r l', X_stream NF ob n = some (n32 (sc (lgo ob) n.toInt E (L - E)).2, r) ∧ LI r ns cap L ∧ SI r L (sc (lgo ob) n.toInt E (L - E)).1 A C l' P ∧ l.length + (sc (lgo ob) n.toInt E (L - E)).2 ≤ l'.length ∧ (∀ j, ¬ j = 5 → ¬ j = 9 → gI r j = gI ob j) ∧ (∀ j x, j ≤ 12 → gA r j x = gA ob j x) := by
  unfold X_stream
  have lc := hI.lc
  by_cases c : 0 < n
  · rw [if_pos c]
    exact str_l NF hNF (lgo ob) ns cap hcap n L E A C h.hE.1 P l.length 100 NF ob E 0 l (by omega) (by omega) (Nat.le_refl _) rfl hI h (by rw [Nat.sub_self]; rfl) (Nat.le_refl _)
  · have c' : ¬ 0 < n.toInt := fun x => c (lt_i.mpr x)
    have := sc_same (lgo ob) n.toInt E 0 (L - E) (fun a => absurd a c')
    rw [Nat.zero_add] at this
    rw [if_neg c, this]
    exact ⟨ob, l, rfl, hI, h, Nat.le_refl _, fun _ _ _ => rfl, fun _ _ _ => rfl⟩
theorem pv_1 {ob : Rec} {k : Nat} (h : gA ob 11 (n32 k) = 1) : pv ob k = some (some (gA ob 12 (n32 k))) := by unfold pv; rw [if_pos h]
theorem pv_2 {ob : Rec} {k : Nat} (h : gA ob 11 (n32 k) = 2) : pv ob k = some none := by unfold pv; rw [if_neg (by rw [h]; decide), if_pos h]
theorem pv_3 {ob : Rec} {k : Nat} (h1 : ¬ gA ob 11 (n32 k) = 1) (h2 : ¬ gA ob 11 (n32 k) = 2) : pv ob k = none := by unfold pv; rw [if_neg h1, if_neg h2]
theorem tvc {ob r : Rec} {a b k : Nat} (h : gA r a (n32 k) = gA ob a (n32 k)) (h' : gA r b (n32 k) = gA ob b (n32 k)) : tv r a b k = tv ob a b k := by unfold tv; rw [h, h']
theorem pvc {ob r : Rec} {k : Nat} (h : gA r 11 (n32 k) = gA ob 11 (n32 k)) (h' : gA r 12 (n32 k) = gA ob 12 (n32 k)) : pv r k = pv ob k := by unfold pv; rw [h, h']
def pva (p : Option (Option Int32)) (t : Option Int32) : Option Int32 := match p with
  | none => t
  | some x => x
/-- the pending changes go into the subscriber's table -/
theorem apn (NF : Nat) : ∀ (m fuel : Nat) (ob : Rec) (i : Nat), m < fuel → i ≤ 8 → 8 - i ≤ m → gI ob 0 = 8 →
    ∃ r, X_applyPending_l2 NF fuel ob (n32 i) = some r ∧ r.1 = ob.1 ∧ (∀ j x, (j < 9 ∨ 12 < j) → gA r j x = gA ob j x) ∧ (∀ k, k < i → tv r 9 10 k = tv ob 9 10 k ∧ pv r k = pv ob k) ∧ (∀ k, i ≤ k → k < 8 → tv r 9 10 k = pva (pv ob k) (tv ob 9 10 k) ∧ pv r k = none) := by
  intro m
  induction m with
  | zero =>
    intro fuel ob i hf h1 h2 h0
    obtain ⟨f, rfl⟩ : ∃ f, fuel = f + 1 := ⟨fuel - 1, by omega⟩
    refine ⟨ob, ?_, rfl, fun _ _ _ => rfl, fun _ _ => ⟨rfl, rfl⟩, fun k a b => by omega⟩
    show X_applyPending_w2 NF _ ob (n32 i) = _
    unfold X_applyPending_w2; rw [h0, if_neg (by rw [lt_i, nt i (by omega)]; show ¬ (i : Int) < 8; omega)]
  | succ m ih =>
    intro fuel ob i hf h1 h2 h0
    obtain ⟨f, rfl⟩ : ∃ f, fuel = f + 1 := ⟨fuel - 1, by omega⟩
    show ∃ r, X_applyPending_w2 NF (X_applyPending_l2 NF f) ob (n32 i) = _ ∧ _
    unfold X_applyPending_w2; rw [h0]
    by_cases c : i = 8
    · rw [if_neg (by rw [lt_i, nt i (by omega)]; show ¬ (i : Int) < 8; omega)]
      exact ⟨ob, rfl, rfl, fun _ _ _ => rfl, fun _ _ => ⟨rfl, rfl⟩, fun k a b => by omega⟩
    · have q : ∀ A : Option Rec, chk 32 (n32 i) A = A := fun A => ck32 (m := 32) rfl (by omega) (by omega)
      rw [if_pos (by rw [lt_i, nt i (by omega)]; show (i : Int) < 8; omega), if_pos (by rw [lt_i, nt i (by omega)]; show (i : Int) < 32; omega), q]
      have nx : ∀ ob', ob'.1 = ob.1 → (∀ j x, (j < 9 ∨ 12 < j) → gA ob' j x = gA ob j x) → (∀ j x, ¬ x = n32 i → gA ob' j x = gA ob j x) → tv ob' 9 10 i = pva (pv ob i) (tv ob 9 10 i) → pv ob' i = none →
          ∃ r, X_applyPending_l2 NF f ob' (n32 i + 1) = some r ∧ r.1 = ob.1 ∧ (∀ j x, (j < 9 ∨ 12 < j) → gA r j x = gA ob j x) ∧ (∀ k, k < i → tv r 9 10 k = tv ob 9 10 k ∧ pv r k = pv ob k) ∧ (∀ k, i ≤ k → k < 8 → tv r 9 10 k = pva (pv ob k) (tv ob 9 10 k) ∧ pv r k = none) := by
        intro ob' e1 e2 e3 e4 e5
        rw [n32_s (by omega)]
        obtain ⟨r, r1, r2, r3, r4, r5⟩ := ih f ob' (i + 1) (by omega) (by omega) (by omega) (by unfold gI; rw [e1]; exact h0)
        have oth : ∀ k, k < 8 → ¬ k = i → tv ob' 9 10 k = tv ob 9 10 k ∧ pv ob' k = pv ob k := fun k hk hne => by
          have ne : ¬ n32 k = n32 i := n32_ne (by omega) (by omega) hne
          exact ⟨tvc (e3 _ _ ne) (e3 _ _ ne), pvc (e3 _ _ ne) (e3 _ _ ne)⟩
        refine ⟨r, r1, r2.trans e1, fun j x hj => (r3 j x hj).trans (e2 j x hj), fun k hk => ?_, fun k a b => ?_⟩
        · have := oth k (by omega) (by omega)
          rw [← this.1, ← this.2]; exact r4 k (by omega)
        · by_cases d : k = i
          · rw [d, (r4 i (by omega)).1, (r4 i (by omega)).2]; exact ⟨e4, e5⟩
          · have := oth k b d
            rw [← this.1, ← this.2]; exact r5 k (by omega) b
      by_cases d : gA ob 11 (n32 i) = 1
      · rw [if_pos d, q, q, q, q, q]
        apply nx
        · rfl
        · intro j x hj; simp [gA_sA, show ¬ j = 9 by omega, show ¬ j = 10 by omega, show ¬ j = 11 by omega, show ¬ j = 12 by omega]
        · intro j x hx; simp [gA_sA, hx]
        · rw [pv_1 d]; unfold tv pva; simp [gA_sA]
        · exact pv_3 (by simp [gA_sA]) (by simp [gA_sA])
      · rw [if_neg d, q]
        by_cases e : gA ob 11 (n32 i) = 2
        · rw [if_pos e, q, q, q]
          apply nx
          · rfl
          · intro j x hj; simp [gA_sA, show ¬ j = 9 by omega, show ¬ j = 11 by omega, show ¬ j = 12 by omega]
          · intro j x hx; simp [gA_sA, hx]
          · rw [pv_2 e]; unfold tv pva; simp [gA_sA]
          · exact pv_3 (by simp [gA_sA]) (by simp [gA_sA])
        · rw [if_neg e, q, q]
          apply nx
          · rfl
          · intro j x hj; simp [gA_sA, show ¬ j = 11 by omega, show ¬ j = 12 by omega]
          · intro j x hx; simp [gA_sA, hx]
          · rw [pv_3 d e]; unfold tv pva; simp [gA_sA]
          · exact pv_3 (by simp [gA_sA]) (by simp [gA_sA])
theorem apn_e (NF : Nat) (hNF : 200 < NF) {ob : Rec} (h0 : gI ob 0 = 8) : ∃ r, X_applyPending NF ob = some r ∧ r.1 = ob.1 ∧ (∀ j x, (j < 9 ∨ 12 < j) → gA r j x = gA ob j x) ∧ (∀ k, k < 8 → tv r 9 10 k = pva (pv ob k) (tv ob 9 10 k) ∧ pv r k = none) := by
  obtain ⟨r, r1, r2, r3, -, r5⟩ := apn NF 20 NF ob 0 (by omega) (by omega) (by omega) h0
  exact ⟨r, r1, r2, r3, fun k hk => r5 k (by omega) hk⟩
/-- the head of the queue goes -/
theorem QL_tl {ob r : Rec} {m : Msg} {l : List Msg} (h : QL ob (m :: l)) (h8 : gI r 8 = (gI ob 8 + 1) % 128) (h9 : gI r 9 = gI ob 9 - 1) (hA : ∀ j x, 13 ≤ j → gA r j x = gA ob j x) : QL r l := by
  obtain ⟨q, q1, q2, q3, q4, q5⟩ := h
  have q3' : gI ob 9 = n32 (l.length + 1) := q3
  have q4' : l.length + 1 ≤ 128 := q4
  refine ⟨(q + 1) % 128, Nat.mod_lt _ (by omega), ?_, ?_, by omega, fun i hi => ?_⟩
  · rw [h8, q2, n32_s (by omega), n32_m (by omega)]
  · rw [h9, q3', n32_p (by omega)]
  · have := q5 (i + 1) (by show i + 1 < l.length + 1; omega)
    have e : qi q (i + 1) = qi ((q + 1) % 128) i := by unfold qi; congr 1; omega
    rw [e] at this
    have t : l[i]? = some (qm ob (qi ((q + 1) % 128) i)) := this
    rw [t]; unfold qm; rw [hA 13 _ (by omega), hA 14 _ (by omega), hA 15 _ (by omega), hA 16 _ (by omega)]
theorem QL_hd {ob : Rec} {m : Msg} {l : List Msg} (h : QL ob (m :: l)) : In 128 (gI ob 8) ∧ m = (gA ob 13 (gI ob 8), gA ob 14 (gI ob 8), gA ob 15 (gI ob 8), gA ob 16 (gI ob 8)) := by
  obtain ⟨q, q1, q2, q3, q4, q5⟩ := h
  have := q5 0 (by show 0 < l.length + 1; omega)
  have e : qi q 0 = n32 q := by unfold qi; rw [Nat.add_zero, Nat.mod_eq_of_lt q1]
  rw [e] at this
  have t : some m = some (qm ob (n32 q)) := this
  rw [q2]
  exact ⟨ni (n := 128) q1 (by decide), Option.some.inj t⟩
theorem hh_e (NF : Nat) (hNF : 200 < NF) {ob : Rec} {ns cap : Int32} {L E A C : Nat} {m : Msg} {l : List Msg} {P : Pd} (hI : LI ob ns cap L) (hcap : cap.toInt ≤ 64) (h : SI ob L E A C (m :: l) P) :
    ∃ r A' P', X_handleHead NF ob = some r ∧ SI r L E A' C l P' ∧ (A' = A ∨ (A < A' ∧ A' ≤ E ∧ lgo ob 0 A' = 4)) ∧ (∀ j, ¬ j = 6 → ¬ j = 8 → ¬ j = 9 → gI r j = gI ob j) ∧ (∀ j x, (j < 9 ∨ 12 < j) → gA r j x = gA ob j x) := by
  obtain ⟨hd8, hdm⟩ := QL_hd h.ql
  have lc := hI.lc
  have aL := h.hA.1
  have eL := h.hE.1
  have hw : LW (lgo ob) E := ⟨fun p x y w => hI.lw.ky p x (by omega) w, fun d x y w => hI.lw.cm d x (by omega) w⟩
  obtain ⟨c, c1, cE, k4, mp, cs⟩ := QS_step h.qs hw
  have q : ∀ A : Option Rec, chk 128 (gI ob 8) A = A := fun A => ckn (m := 128) rfl hd8
  have m1 : m.1 = gA ob 13 (gI ob 8) := by rw [hdm]
  have m2 : m.2.1 = gA ob 14 (gI ob 8) := by rw [hdm]
  have m3 : m.2.2.1 = gA ob 15 (gI ob 8) := by rw [hdm]
  have m4 : m.2.2.2 = gA ob 16 (gI ob 8) := by rw [hdm]
  unfold X_handleHead
  rw [if_neg (nneg hd8.1), if_pos (ltn (m := 128) rfl hd8.2)]
  unfold X_handleHead_b18
  rw [q, q, q, q, ← m1, ← m2, ← m3, ← m4, h.e6, mp]
  clear hdm
  generalize ho : sI (sI ob 8 ((gI ob 8 + 1) % 128)) 9 (gI ob 9 - 1) = o
  have oi : ∀ j, ¬ j = 8 → ¬ j = 9 → gI o j = gI ob j := fun j a b => by rw [← ho, gI_sI, if_neg b, gI_sI, if_neg a]
  have oa : ∀ j x, gA o j x = gA ob j x := fun j x => by rw [← ho]; rfl
  have o8 : gI o 8 = (gI ob 8 + 1) % 128 := by rw [← ho]; rfl
  have o9 : gI o 9 = gI ob 9 - 1 := by rw [← ho]; rfl
  obtain ⟨a1, a2, a3, a4, a5, a6, a7, a8, a9, a10, a11⟩ := h
  have a9' : l.length + 1 ≤ cN (cl (lgo ob) E) (E + 1) := a9
  rcases cs with ⟨s1, s2⟩ | ⟨s1, s2, s3, s4⟩ | ⟨s1, s2, s3, s4⟩
  · rw [if_neg (by rw [n32_lt (by omega) (by omega)]; omega)]
    have el : lgo o = lgo ob := lgo_c (fun j x _ => oa j x)
    refine ⟨o, A, P, rfl, ⟨?_, ?_, ?_, ?_, ?_, ?_, fun k hk => ?_, QL_tl a8 o8 o9 (fun j x _ => oa j x), ?_, fun k hk => ?_, ?_⟩, Or.inl rfl, fun j _ a b => oi j a b, fun j x _ => oa j x⟩
    · exact (oi 5 (by decide) (by decide)).trans a1
    · exact (oi 6 (by decide) (by decide)).trans a2
    · exact (oi 7 (by decide) (by decide)).trans a3
    · rw [el]; exact a4
    · rw [el]; exact a5
    · rw [el]; exact a6
    · rw [el, tvc (oa _ _) (oa _ _)]; exact a7 k hk
    · rw [el]; omega
    · rw [pvc (oa _ _) (oa _ _)]; exact a10 k hk
    · rw [el]; exact s2
  · rw [if_pos (by rw [n32_lt (by omega) (by omega)]; omega), if_pos s2]
    obtain ⟨r, r1, r2, r3, r4⟩ := apn_e NF hNF (ob := o) ((oi 0 (by decide) (by decide)).trans hI.cf.1)
    rw [r1, Option.bind_some]
    generalize hz : sI r 6 (n32 c) = z
    have zi : ∀ j, ¬ j = 6 → gI z j = gI o j := fun j a => by rw [← hz, gI_sI, if_neg a]; unfold gI; rw [r2]
    have za : ∀ j x, gA z j x = gA r j x := fun j x => by rw [← hz]; rfl
    have zo : ∀ j x, (j < 9 ∨ 12 < j) → gA z j x = gA ob j x := fun j x hj => by rw [za, r3 j x hj, oa]
    have el : lgo z = lgo ob := lgo_c (fun j x hj => zo j x (by omega))
    refine ⟨z, c, fun _ => none, rfl, ⟨?_, ?_, ?_, ?_, ⟨by omega, Or.inr (by rw [el]; exact k4)⟩, ?_, fun k hk => ?_, QL_tl a8 ((zi 8 (by decide)).trans o8) ((zi 9 (by decide)).trans o9) (fun j x hj => zo j x (by omega)), ?_, fun k hk => ?_, ?_⟩, Or.inr ⟨s1, cE, k4⟩, fun j a b d => (zi j a).trans (oi j b d), zo⟩
    · exact ((zi 5 (by decide)).trans (oi 5 (by decide) (by decide))).trans a1
    · rw [← hz]; rfl
    · exact ((zi 7 (by decide)).trans (oi 7 (by decide) (by decide))).trans a3
    · rw [el]; exact a4
    · rw [el]; exact ⟨by omega, a6.2⟩
    · rw [el, s4, tvc (za _ _) (za _ _), (r4 k hk).1, pvc (oa _ _) (oa _ _), tvc (oa _ _) (oa _ _), a10 k hk, a7 k hk]
      unfold apd pva; rfl
    · rw [el]; omega
    · rw [pvc (za _ _) (za _ _)]; exact (r4 k hk).2
    · rw [el]; exact s3
  · have n4 : ¬ m.1 = 4 := by rcases s2 with s2 | s2 <;> rw [s2] <;> decide
    rw [if_pos (by rw [n32_lt (by omega) (by omega)]; omega), if_neg n4, if_neg (nneg s3.1), if_pos (by rw [lt_i]; show m.2.1.toInt < 32; omega)]
    have q' : ∀ A : Option Rec, chk 32 m.2.1 A = A := fun A => ckn (m := 32) rfl ⟨s3.1, by omega⟩
    have fin : ∀ z, (∀ j, gI z j = gI o j) → (∀ j x, ¬ j = 11 → ¬ j = 12 → gA z j x = gA o j x) → (∀ k, k < 8 → pv z k = if k = m.2.1.toInt.toNat then some (if m.1 = 2 then some m.2.2.1 else none) else pv ob k) →
        SI z L E A C l (fun k => if k = m.2.1.toInt.toNat then some (if m.1 = 2 then some m.2.2.1 else none) else P k) ∧ (A = A ∨ (A < A ∧ A ≤ E ∧ lgo ob 0 A = 4)) ∧ (∀ j, ¬ j = 6 → ¬ j = 8 → ¬ j = 9 → gI z j = gI ob j) ∧ (∀ j x, (j < 9 ∨ 12 < j) → gA z j x = gA ob j x) := by
      intro z zi za zp
      have zo : ∀ j x, (j < 11 ∨ 12 < j) → gA z j x = gA ob j x := fun j x hj => by rw [za j x (by omega) (by omega), oa]
      have el : lgo z = lgo ob := lgo_c (fun j x hj => zo j x (by omega))
      refine ⟨⟨?_, ?_, ?_, ?_, ?_, ?_, fun k hk => ?_, QL_tl a8 ((zi 8).trans o8) ((zi 9).trans o9) (fun j x hj => zo j x (by omega)), ?_, fun k hk => ?_, ?_⟩, Or.inl rfl, fun j a b d => (zi j).trans (oi j b d), fun j x hj => zo j x (by omega)⟩
      · exact ((zi 5).trans (oi 5 (by decide) (by decide))).trans a1
      · exact ((zi 6).trans (oi 6 (by decide) (by decide))).trans a2
      · exact ((zi 7).trans (oi 7 (by decide) (by decide))).trans a3
      · rw [el]; exact a4
      · rw [el]; exact a5
      · rw [el]; exact a6
      · rw [el, tvc (zo _ _ (by omega)) (zo _ _ (by omega))]; exact a7 k hk
      · rw [el]; omega
      · rw [zp k hk, a10 k hk]
      · rw [el]; exact s4
    by_cases d : m.1 = 2
    · rw [if_pos d, q', q']
      refine ⟨_, A, _, rfl, fin _ (fun j => rfl) (fun j x a b => by rw [gA_sA, if_neg (fun e => b e.1), gA_sA, if_neg (fun e => a e.1)]) (fun k hk => ?_)⟩
      rw [if_pos d]
      have := n32k hk s3
      by_cases e : k = m.2.1.toInt.toNat
      · rw [if_pos e, pv_1 (by rw [this.mpr e]; simp [gA_sA]), this.mpr e]; simp [gA_sA]
      · have e' : ¬ n32 k = m.2.1 := fun x => e (this.mp x)
        rw [if_neg e]
        exact pvc (by simp [gA_sA, e', oa]) (by simp [gA_sA, e', oa])
    · have d3 : m.1 = 3 := s2.resolve_left d
      rw [if_neg d, if_pos d3, q', q']
      refine ⟨_, A, _, rfl, fin _ (fun j => rfl) (fun j x a b => by rw [gA_sA, if_neg (fun e => b e.1), gA_sA, if_neg (fun e => a e.1)]) (fun k hk => ?_)⟩
      rw [if_neg d]
      have := n32k hk s3
      by_cases e : k = m.2.1.toInt.toNat
      · rw [if_pos e, pv_2 (by rw [this.mpr e]; simp [gA_sA])]
      · have e' : ¬ n32 k = m.2.1 := fun x => e (this.mp x)
        rw [if_neg e]
        exact pvc (by simp [gA_sA, e', oa]) (by simp [gA_sA, e', oa])
/-- apply: so many messages handled -/
theorem apl_l (NF : Nat) (hNF : 200 < NF) (ns cap : Int32) (hcap : cap.toInt ≤ 64) (n : Int32) (L E C : Nat) : ∀ (l : List Msg) (fuel : Nat) (ob : Rec) (A k : Nat) (P : Pd), l.length < fuel → k + l.length ≤ 128 → LI ob ns cap L → SI ob L E A C l P →
    ∃ r A' P', X_apply_l10 NF fuel ob n (n32 k) (n32 k) = some (n32 (k + min (n.toInt.toNat - k) l.length), r) ∧ LI r ns cap L ∧ SI r L E A' C (l.drop (min (n.toInt.toNat - k) l.length)) P' ∧ (A' = A ∨ (A < A' ∧ A' ≤ E ∧ lgo ob 0 A' = 4)) ∧ (∀ j, ¬ j = 6 → ¬ j = 8 → ¬ j = 9 → gI r j = gI ob j) ∧ (∀ j x, (j < 9 ∨ 12 < j) → gA r j x = gA ob j x) := by
  intro l
  induction l with
  | nil =>
    intro fuel ob A k P hf hk hI hS
    obtain ⟨f, rfl⟩ : ∃ f, fuel = f + 1 := ⟨fuel - 1, by omega⟩
    have hk' : k ≤ 128 := hk
    have kt : (n32 k).toInt = k := nt k (by omega)
    refine ⟨ob, A, P, ?_, hI, by rw [List.drop_nil]; exact hS, Or.inl rfl, fun _ _ _ _ => rfl, fun _ _ _ => rfl⟩
    show X_apply_w10 NF _ ob n (n32 k) (n32 k) = some (n32 (k + min (n.toInt.toNat - k) 0), ob)
    rw [Nat.min_zero, Nat.add_zero]
    unfold X_apply_w10
    obtain ⟨q, -, -, q3, -⟩ := hS.ql
    have q3' : gI ob 9 = 0 := q3
    rw [if_neg (by rw [lt_i, kt]; show ¬ (128 : Int) < k; omega), q3']
    by_cases c : n32 k < n
    · rw [if_pos c, if_neg (by decide)]
    · rw [if_neg c]
  | cons m l ih =>
    intro fuel ob A k P hf hk hI hS
    obtain ⟨f, rfl⟩ : ∃ f, fuel = f + 1 := ⟨fuel - 1, by omega⟩
    have hk' : k + (l.length + 1) ≤ 128 := hk
    have hf' : l.length + 1 < f + 1 := hf
    have kt : (n32 k).toInt = k := nt k (by omega)
    show ∃ r A' P', X_apply_w10 NF (X_apply_l10 NF f) ob n (n32 k) (n32 k) = some (n32 (k + min (n.toInt.toNat - k) (l.length + 1)), r) ∧ LI r ns cap L ∧ SI r L E A' C ((m :: l).drop (min (n.toInt.toNat - k) (l.length + 1))) P' ∧ _
    unfold X_apply_w10
    rw [if_neg (by rw [lt_i, kt]; show ¬ (128 : Int) < k; omega)]
    by_cases c : n32 k < n
    · have c' : (k : Int) < n.toInt := by rw [lt_i, kt] at c; exact c
      have q3' : gI ob 9 = n32 (l.length + 1) := by obtain ⟨q, -, -, q3, -⟩ := hS.ql; exact q3
      rw [if_pos c, q3', if_pos (by rw [lt_i, nt _ (by omega)]; show (0 : Int) < ((l.length + 1 : Nat) : Int); omega)]
      obtain ⟨r, A1, P1, r1, r2, r3, r4, r5⟩ := hh_e NF hNF hI hcap hS
      rw [r1, Option.bind_some, n32_s (by omega)]
      have hI' : LI r ns cap L := LI_c hI (fun j hj => r4 j (by omega) (by omega) (by omega)) (fun j x hj => r5 j x (by omega))
      obtain ⟨w, A2, P2, w1, w2, w3, w4, w5, w6⟩ := ih f r A1 (k + 1) P1 (by omega) (by omega) hI' r2
      have el : lgo r = lgo ob := lgo_c (fun j x hj => r5 j x (by omega))
      have e1 : min (n.toInt.toNat - k) (l.length + 1) = min (n.toInt.toNat - (k + 1)) l.length + 1 := by clear w3 r2 hS ih hI hI' w2; omega
      have e2 : k + (min (n.toInt.toNat - (k + 1)) l.length + 1) = k + 1 + min (n.toInt.toNat - (k + 1)) l.length := by clear w3 r2 hS ih hI hI' w2; omega
      rw [e1, e2, List.drop_succ_cons]
      refine ⟨w, A2, P2, w1, w2, w3, ?_, fun j a b d => (w5 j a b d).trans (r4 j a b d), fun j x hj => (w6 j x hj).trans (r5 j x hj)⟩
      rw [el] at w4
      rcases w4 with w4 | w4
      · rw [w4]; exact r3
      · rcases r3 with r3 | r3
        · rw [r3] at w4; exact Or.inr w4
        · exact Or.inr ⟨Nat.lt_trans r3.1 w4.1, w4.2⟩
    · have c' : ¬ (k : Int) < n.toInt := by rw [lt_i, kt] at c; exact c
      have e1 : n.toInt.toNat - k = 0 := by clear hS ih hI; omega
      rw [if_neg c, e1, Nat.zero_min, Nat.add_zero]
      exact ⟨ob, A, P, rfl, hI, hS, Or.inl rfl, fun _ _ _ _ => rfl, fun _ _ _ => rfl⟩
theorem apl_e (NF : Nat) (hNF : 200 < NF) {ob : Rec} {ns cap : Int32} {L E A C : Nat} {l : List Msg} {P : Pd} (hI : LI ob ns cap L) (hcap : cap.toInt ≤ 64) (h : SI ob L E A C l P) (n : Int32) :
    ∃ r A' P', X_apply NF ob n = some (n32 (min n.toInt.toNat l.length), r) ∧ LI r ns cap L ∧ SI r L E A' C (l.drop (min n.toInt.toNat l.length)) P' ∧ (A' = A ∨ (A < A' ∧ A' ≤ E ∧ lgo ob 0 A' = 4)) ∧ (∀ j, ¬ j = 6 → ¬ j = 8 → ¬ j = 9 → gI r j = gI ob j) ∧ (∀ j x, (j < 9 ∨ 12 < j) → gA r j x = gA ob j x) := by
  have ll : l.length ≤ 128 := by obtain ⟨q, -, -, -, q4, -⟩ := h.ql; exact q4
  unfold X_apply
  by_cases c : 0 < n
  · rw [if_pos c]
    have := apl_l NF hNF ns cap hcap n L E C l NF ob A 0 P (by omega) (by omega) hI h
    rw [Nat.sub_zero, Nat.zero_add] at this
    exact this
  · have c' : ¬ 0 < n.toInt := fun x => c (lt_i.mpr x)
    have e1 : n.toInt.toNat = 0 := by clear h hI; omega
    rw [if_neg c, e1, Nat.zero_min]
    exact ⟨ob, A, P, rfl, hI, h, Or.inl rfl, fun _ _ _ _ => rfl, fun _ _ _ => rfl⟩
theorem cp_l (NF : Nat) : ∀ (m fuel : Nat) (ob : Rec) (i : Nat), m < fuel → i ≤ 32 → 32 - i ≤ m →
    ∃ r, X_clearPending_l2 NF fuel ob (n32 i) = some r ∧ r.1 = ob.1 ∧ (∀ j x, ¬ j = 11 → ¬ j = 12 → gA r j x = gA ob j x) ∧ (∀ k, k < i → gA r 11 (n32 k) = gA ob 11 (n32 k)) ∧ (∀ k, i ≤ k → k < 32 → gA r 11 (n32 k) = 0) := by
  intro m
  induction m with
  | zero =>
    intro fuel ob i hf h1 h2
    obtain ⟨f, rfl⟩ : ∃ f, fuel = f + 1 := ⟨fuel - 1, by omega⟩
    refine ⟨ob, ?_, rfl, fun _ _ _ _ => rfl, fun _ _ => rfl, fun k a b => by omega⟩
    show X_clearPending_w2 NF _ ob (n32 i) = _
    unfold X_clearPending_w2; rw [if_neg (by rw [lt_i, nt i (by omega)]; show ¬ (i : Int) < 32; omega)]
  | succ m ih =>
    intro fuel ob i hf h1 h2
    obtain ⟨f, rfl⟩ : ∃ f, fuel = f + 1 := ⟨fuel - 1, by omega⟩
    show ∃ r, X_clearPending_w2 NF (X_clearPending_l2 NF f) ob (n32 i) = _ ∧ _
    unfold X_clearPending_w2
    by_cases c : i = 32
    · rw [if_neg (by rw [lt_i, nt i (by omega)]; show ¬ (i : Int) < 32; omega)]
      exact ⟨ob, rfl, rfl, fun _ _ _ _ => rfl, fun _ _ => rfl, fun k a b => by omega⟩
    · have q : ∀ A : Option Rec, chk 32 (n32 i) A = A := fun A => ck32 (m := 32) rfl (by omega) (by omega)
      rw [if_pos (by rw [lt_i, nt i (by omega)]; show (i : Int) < 32; omega), q, q, n32_s (by omega)]
      obtain ⟨r, r1, r2, r3, r4, r5⟩ := ih f (sA (sA ob 11 (n32 i) 0) 12 (n32 i) 0) (i + 1) (by omega) (by omega) (by omega)
      refine ⟨r, r1, r2, fun j x a b => by rw [r3 j x a b, gA_sA, if_neg (fun e => b e.1), gA_sA, if_neg (fun e => a e.1)], fun k hk => ?_, fun k a b => ?_⟩
      · have ne : ¬ n32 k = n32 i := n32_ne (by omega) (by omega) (by omega)
        rw [r4 k (by omega)]; simp [gA_sA, ne]
      · by_cases d : k = i
        · rw [d, r4 i (by omega)]; simp [gA_sA]
        · exact r5 k (by omega) b
theorem cp_e (NF : Nat) (hNF : 200 < NF) (ob : Rec) : ∃ r, X_clearPending NF ob = some r ∧ r.1 = ob.1 ∧ (∀ j x, ¬ j = 11 → ¬ j = 12 → gA r j x = gA ob j x) ∧ (∀ k, k < 32 → gA r 11 (n32 k) = 0) := by
  obtain ⟨r, r1, r2, r3, -, r5⟩ := cp_l NF 40 NF ob 0 (by omega) (by omega) (by omega)
  exact ⟨r, r1, r2, r3, fun k hk => r5 k (by omega) hk⟩
/-- after a crash -/
theorem SI_cr {ob r : Rec} {L E A C : Nat} {l : List Msg} {P : Pd} (h : SI ob L E A C l P) (ri : ∀ j, ¬ j = 5 → ¬ j = 8 → ¬ j = 9 → gI r j = gI ob j) (r5 : gI r 5 = gI ob 7) (r8 : gI r 8 = 0) (r9 : gI r 9 = 0) (ra : ∀ j x, ¬ j = 5 → ¬ j = 11 → ¬ j = 12 → gA r j x = gA ob j x) (rp' : ∀ k, k < 32 → gA r 11 (n32 k) = 0) : SI r L C A C [] (fun _ => none) := by
  obtain ⟨a1, a2, a3, a4, a5, a6, a7, a8, a9, a10, a11⟩ := h
  have el : lgo r = lgo ob := lgo_c (fun j x hj => ra j x (by omega) (by omega) (by omega))
  refine ⟨r5.trans a3, (ri 6 (by decide) (by decide) (by decide)).trans a2, (ri 7 (by decide) (by decide) (by decide)).trans a3, ⟨by omega, by rw [el]; exact a6.2⟩, ⟨a5.1, by rw [el]; exact a5.2⟩, ⟨a6.1, by rw [el]; exact a6.2⟩, fun k hk => ?_, ⟨0, by omega, r8, r9, by show 0 ≤ 128; omega, fun i hi => absurd hi (Nat.not_lt_zero i)⟩, Nat.zero_le _, fun k hk => ?_, ?_⟩
  · rw [el, tvc (ra _ _ (by decide) (by decide) (by decide)) (ra _ _ (by decide) (by decide) (by decide))]; exact a7 k hk
  · have := rp' k (by omega)
    exact pv_3 (by rw [this]; decide) (by rw [this]; decide)
  · exact Or.inl ⟨C, Nat.le_refl _, a6.1, by rw [Nat.sub_self]; rfl, rfl⟩
theorem csu_e (NF : Nat) (hNF : 200 < NF) {ob : Rec} {ns cap : Int32} {L E A C : Nat} {l : List Msg} {P : Pd} (hI : LI ob ns cap L) (h : SI ob L E A C l P) :
    ∃ r, X_crashSubscriber NF ob = some r ∧ LI r ns cap L ∧ SI r L C A C [] (fun _ => none) ∧ (∀ j, ¬ j = 5 → ¬ j = 8 → ¬ j = 9 → gI r j = gI ob j) ∧ (∀ j x, j ≤ 10 → gA r j x = gA ob j x) := by
  unfold X_crashSubscriber X_clearQueue
  rw [Option.bind_some]
  obtain ⟨r, r1, r2, r3, r4⟩ := cp_e NF hNF (sI (sI ob 8 0) 9 0)
  have ri : ∀ j, gI r j = gI (sI (sI ob 8 0) 9 0) j := fun j => by unfold gI; rw [r2]
  rw [r1, Option.bind_some]
  have zi : ∀ j, ¬ j = 5 → ¬ j = 8 → ¬ j = 9 → gI (sI r 5 (gI r 7)) j = gI ob j := fun j a b c => by rw [gI_sI, if_neg a, ri, gI_sI, if_neg c, gI_sI, if_neg b]
  refine ⟨_, rfl, LI_c hI (fun j hj => zi j (by omega) (by omega) (by omega)) (fun j x hj => (r3 j x (by omega) (by omega))), SI_cr h zi (ri 7) (ri 8) (ri 9) (fun j x _ a b => r3 j x a b) r4, zi, fun j x hj => r3 j x (by omega) (by omega)⟩
theorem cpu_l (NF : Nat) (hNF : 200 < NF) : ∀ (m fuel : Nat) (ob : Rec) (i : Nat), m < fuel → i ≤ 8 → 8 - i ≤ m →
    ∃ r, X_crashPublisher_l2 NF fuel ob (n32 i) = some r ∧ (∀ j, ¬ j = 5 → ¬ j = 8 → ¬ j = 9 → gI r j = gI ob j) ∧ gI r 5 = gI ob 7 ∧ gI r 8 = 0 ∧ gI r 9 = 0 ∧ (∀ j x, ¬ j = 5 → ¬ j = 11 → ¬ j = 12 → gA r j x = gA ob j x) ∧ (∀ k, k < 32 → gA r 11 (n32 k) = 0) ∧ (∀ k, k < i → gA r 5 (n32 k) = gA ob 5 (n32 k)) ∧ (∀ k, i ≤ k → k < 8 → gA r 5 (n32 k) = 0) := by
  have fin : ∀ ob : Rec, ∃ r, ((X_clearQueue ob).bind fun q3 => (X_clearPending NF q3).bind fun q5 => some (sI q5 5 (gI q5 7))) = some r ∧ (∀ j, ¬ j = 5 → ¬ j = 8 → ¬ j = 9 → gI r j = gI ob j) ∧ gI r 5 = gI ob 7 ∧ gI r 8 = 0 ∧ gI r 9 = 0 ∧ (∀ j x, ¬ j = 11 → ¬ j = 12 → gA r j x = gA ob j x) ∧ (∀ k, k < 32 → gA r 11 (n32 k) = 0) := by
    intro ob
    unfold X_clearQueue
    rw [Option.bind_some]
    obtain ⟨r, r1, r2, r3, r4⟩ := cp_e NF hNF (sI (sI ob 8 0) 9 0)
    have ri : ∀ j, gI r j = gI (sI (sI ob 8 0) 9 0) j := fun j => by unfold gI; rw [r2]
    rw [r1, Option.bind_some]
    exact ⟨_, rfl, fun j a b c => by rw [gI_sI, if_neg a, ri, gI_sI, if_neg c, gI_sI, if_neg b], ri 7, ri 8, ri 9, fun j x a b => r3 j x a b, r4⟩
  intro m
  induction m with
  | zero =>
    intro fuel ob i hf h1 h2
    obtain ⟨f, rfl⟩ : ∃ f, fuel = f + 1 := ⟨fuel - 1, by omega⟩
    show ∃ r, X_crashPublisher_w2 NF _ ob (n32 i) = _ ∧ _
    unfold X_crashPublisher_w2; rw [if_neg (by rw [lt_i, nt i (by omega)]; show ¬ (i : Int) < 8; omega)]
    obtain ⟨r, r1, r2, r3, r4, r5, r6, r7⟩ := fin ob
    exact ⟨r, r1, r2, r3, r4, r5, fun j x _ a b => r6 j x a b, r7, fun k _ => r6 5 _ (by decide) (by decide), fun k a b => by omega⟩
  | succ m ih =>
    intro fuel ob i hf h1 h2
    obtain ⟨f, rfl⟩ : ∃ f, fuel = f + 1 := ⟨fuel - 1, by omega⟩
    show ∃ r, X_crashPublisher_w2 NF (X_crashPublisher_l2 NF f) ob (n32 i) = _ ∧ _
    unfold X_crashPublisher_w2
    by_cases c : i = 8
    · rw [if_neg (by rw [lt_i, nt i (by omega)]; show ¬ (i : Int) < 8; omega)]
      obtain ⟨r, r1, r2, r3, r4, r5, r6, r7⟩ := fin ob
      exact ⟨r, r1, r2, r3, r4, r5, fun j x _ a b => r6 j x a b, r7, fun k _ => r6 5 _ (by decide) (by decide), fun k a b => by omega⟩
    · rw [if_pos (by rw [lt_i, nt i (by omega)]; show (i : Int) < 8; omega), ck32 (m := 8) rfl (by omega) (by omega), n32_s (by omega)]
      obtain ⟨r, r1, r2, r3, r4, r5, r6, r7, r8, r9⟩ := ih f (sA ob 5 (n32 i) 0) (i + 1) (by omega) (by omega) (by omega)
      refine ⟨r, r1, r2, r3, r4, r5, fun j x a b d => by rw [r6 j x a b d, gA_sA, if_neg (fun e => a e.1)], r7, fun k hk => ?_, fun k a b => ?_⟩
      · have ne : ¬ n32 k = n32 i := n32_ne (by omega) (by omega) (by omega)
        rw [r8 k (by omega)]; simp [gA_sA, ne]
      · by_cases d : k = i
        · rw [d, r8 i (by omega)]; simp [gA_sA]
        · exact r9 k (by omega) b
theorem cpu_e (NF : Nat) (hNF : 200 < NF) {ob : Rec} {ns cap : Int32} {L E A C : Nat} {l : List Msg} {P : Pd} (hI : LI ob ns cap L) (h : SI ob L E A C l P) :
    ∃ r, X_crashPublisher NF ob = some r ∧ LI r ns cap L ∧ SI r L C A C [] (fun _ => none) ∧ (∀ j, ¬ j = 5 → ¬ j = 8 → ¬ j = 9 → gI r j = gI ob j) ∧ (∀ j x, ¬ j = 5 → j ≤ 10 → gA r j x = gA ob j x) ∧ (∀ t, In 8 t → gA r 5 t = 0) := by
  obtain ⟨r, r1, r2, r3, r4, r5, r6, r7, -, r9⟩ := cpu_l NF hNF 20 NF ob 0 (by omega) (by omega) (by omega)
  have z5 : ∀ t, In 8 t → gA r 5 t = 0 := fun t ht => by
    have := r9 t.toInt.toNat (by omega) (by clear h; omega)
    rw [n32_t t ht.1] at this; exact this
  refine ⟨r, r1, ?_, SI_cr h r2 r3 r4 r5 r6 r7, r2, fun j x a b => r6 j x a (by omega) (by omega), z5⟩
  have el : lgo r = lgo ob := lgo_c (fun j x hj => r6 j x (by omega) (by omega) (by omega))
  obtain ⟨b1, b2, b3, b4, b5, b6, b7⟩ := hI
  refine ⟨?_, (r2 4 (by decide) (by decide) (by decide)).trans b2, b3, by rw [el]; exact b4, by rw [el]; exact b5, fun s hs z => absurd (z5 s hs) z, fun k hk => ?_⟩
  · rw [r2 0 (by decide) (by decide) (by decide), r2 1 (by decide) (by decide) (by decide), r2 2 (by decide) (by decide) (by decide)]; exact b1
  · rw [el, tvc (r6 _ _ (by decide) (by decide) (by decide)) (r6 _ _ (by decide) (by decide) (by decide))]; exact b7 k hk
theorem fb_e {ob : Rec} {ns cap : Int32} {L E A C : Nat} {l : List Msg} {P : Pd} (hI : LI ob ns cap L) (h : SI ob L E A C l P) :
    ∃ r, X_feedback ob = some (n32 A, r) ∧ LI r ns cap L ∧ SI r L E A A l P ∧ (∀ j, ¬ j = 7 → gI r j = gI ob j) ∧ (∀ j x, gA r j x = gA ob j x) := by
  unfold X_feedback; rw [h.e6]
  have zi : ∀ j, ¬ j = 7 → gI (sI ob 7 (n32 A)) j = gI ob j := fun j a => by rw [gI_sI, if_neg a]
  refine ⟨_, rfl, LI_c hI (fun j hj => zi j (by omega)) (fun _ _ _ => rfl), ?_, zi, fun _ _ => rfl⟩
  obtain ⟨a1, a2, a3, a4, a5, a6, a7, a8, a9, a10, a11⟩ := h
  exact ⟨a1, a2, rfl, a4, a5, ⟨Nat.le_refl _, a5.2⟩, a7, a8, a9, a10, a11⟩
/- the getters -/
def rv : Option Int32 → Int64
  | none => 4294967296
  | some v => v.toInt64
theorem k8 {k : Nat} (hk : k < 8) : In 8 (n32 k) := ni (n := 8) hk (by decide)
theorem tv_n {ob : Rec} {a b k : Nat} : gA ob a (n32 k) = 0 ↔ tv ob a b k = none := by
  unfold tv
  by_cases c : gA ob a (n32 k) = 0
  · rw [if_pos c]; exact ⟨fun _ => rfl, fun _ => c⟩
  · rw [if_neg c]; exact ⟨fun x => absurd x c, fun x => by cases x⟩
/-- the last commit -/
abbrev LC (lg : Lg) (L c : Nat) : Prop := c ≤ L ∧ (c = 0 ∨ lg 0 c = 4) ∧ ∀ j, c < j → j ≤ L → ¬ lg 0 j = 4
theorem LC_u {lg : Lg} {L c d : Nat} (h : LC lg L c) (h' : LC lg L d) : c = d := by
  obtain ⟨h1, h2, h3⟩ := h
  obtain ⟨g1, g2, g3⟩ := h'
  by_cases x : c < d
  · rcases g2 with g2 | g2
    · omega
    · exact absurd g2 (h3 d x g1)
  · by_cases y : d < c
    · rcases h2 with h2 | h2
      · omega
      · exact absurd h2 (g3 c y h1)
    · omega
theorem QS_nil {lg : Lg} {E A : Nat} {P : Pd} (h : QS lg E A [] P) : (∀ j, A < j → j ≤ E → ¬ lg 0 j = 4) ∧ P = fun _ => none := by
  rcases h with ⟨e, e1, e2, e3, e4⟩ | ⟨c, p, k, c1, cE, bp, pc, el, hp⟩
  · refine ⟨fun j x y => ?_, e4⟩
    rcases em_first lg e (E - e) with ⟨-, b⟩ | ⟨c, x', y', z, w, v⟩
    · exact b j (by omega) (by omega)
    · rw [v] at e3
      have := congrArg List.length e3
      rw [List.length_append] at this
      have t := tx_pos lg c
      have this' : 0 = (tx lg c).length + (em lg c (e + (E - e) - c)).length := this
      omega
  · exact absurd el (by simp)
/-- streamed and applied to the end -/
theorem drain (NF : Nat) (hNF : 200 < NF) {ob : Rec} {ns cap : Int32} {L E A C c : Nat} {l : List Msg} {P : Pd} (hI : LI ob ns cap L) (hcap : cap.toInt ≤ 64) (h : SI ob L E A C l P) (hc : LC (lgo ob) L c) {n n' : Int32} (hn : 64 < n.toInt) (hn' : 128 ≤ n'.toInt) :
    ∃ x r y w, X_stream NF ob n = some (x, r) ∧ X_apply NF r n' = some (y, w) ∧ LI w ns cap L ∧ SI w L c c C [] (fun _ => none) ∧ (∀ j x, j ≤ 8 → gA w j x = gA ob j x) := by
  have lc := hI.lc
  obtain ⟨r, l', r1, r2, r3, r4, r5, r6⟩ := str_e NF hNF hI hcap h n
  have sb := sc_b (lgo ob) n.toInt E (L - E)
  have eL := h.hE
  generalize hs : sc (lgo ob) n.toInt E (L - E) = s at *
  have eqc : s.1 = c := by
    refine LC_u ⟨?_, ?_, fun j x y => ?_⟩ hc
    · have := sb.2.2.1; clear h r3 hI r2; omega
    · rcases sb.2.2.2.1 with z | z
      · rw [z]; exact eL.2
      · exact Or.inr z
    · refine sb.2.2.2.2 ?_ j x (by clear h r3 hI r2; omega)
      have := sb.1
      clear h r3 hI r2; omega
  rw [eqc] at r3
  obtain ⟨w, A', P', w1, w2, w3, w4, w5, w6⟩ := apl_e NF hNF r2 hcap r3 n'
  have ll : l'.length ≤ 128 := by obtain ⟨q, -, -, -, q4, -⟩ := r3.ql; exact q4
  have em : min n'.toInt.toNat l'.length = l'.length := by clear h r3 hI r2 w2 w3; omega
  rw [em, List.drop_length] at w3
  have qn := QS_nil w3.qs
  have ela : lgo w = lgo ob := lgo_c (fun j x hj => by rw [w6 j x (by omega), r6 j x (by omega)])
  have aeq : A' = c := by
    refine LC_u (lg := lgo ob) ⟨w3.hA.1, by rw [← ela]; exact w3.hA.2, fun j x y => ?_⟩ hc
    by_cases z : j ≤ c
    · have := qn.1 j x z; rw [ela] at this; exact this
    · exact hc.2.2 j (by omega) y
  rw [aeq, qn.2] at w3
  exact ⟨_, r, _, w, r1, w1, w2, w3, fun j x hj => by rw [w6 j x (by omega), r6 j x (by omega)]⟩
theorem lr_0 {ob : Rec} {L : Nat} (h4 : gI ob 4 = n32 L) (hL : L ≤ 64) : X_logRecord ob (n32 (L + 1)) = some 0 := by
  unfold X_logRecord; rw [h4, if_neg (by rw [lt_i, nt _ (by omega)]; show ¬ ((L + 1 : Nat) : Int) < 1; omega), if_pos (by rw [n32_lt (by omega) (by omega)]; omega)]
def rcd (k s y v : Int32) : Int64 := (v.toInt64 <<< ((32 : Int32) &&& 0x3f).toInt64) ||| ((k + ((256 : Int32) * s)) + ((65536 : Int32) * y)).toInt64
theorem lr_e {ob : Rec} {L p : Nat} (h4 : gI ob 4 = n32 L) (hL : L ≤ 64) (h1 : 1 ≤ p) (h2 : p ≤ L) : X_logRecord ob (n32 p) = some (rcd (lgo ob 0 p) (lgo ob 1 p) (lgo ob 2 p) (lgo ob 3 p)) := by
  have q : ∀ A : Option Int64, chk 129 (n32 p) A = A := fun A => ck32 (m := 129) rfl (by omega) (by omega)
  unfold X_logRecord; rw [h4, if_neg (by rw [lt_i, nt _ (by omega)]; show ¬ (p : Int) < 1; omega), if_neg (by rw [n32_lt (by omega) (by omega)]; omega), if_pos (by rw [lt_i, nt _ (by omega)]; show (p : Int) < 129; omega), q, q, q, q, lgj (by omega), lgj (by omega), lgj (by omega), lgj (by omega)]; rfl
theorem sr_e {ob : Rec} {ns cap : Int32} {L : Nat} (h : LI ob ns cap L) {k : Nat} (hk : k < 8) : X_subRow ob (n32 k) = some (rv (tv ob 9 10 k)) := by
  unfold X_subRow; rw [vky h, Option.bind_some, if_pos (k8 hk), if_neg (by decide), ck32 (m := 32) rfl (by omega) (by omega)]
  unfold tv
  by_cases c : gA ob 9 (n32 k) = 0
  · rw [if_pos c, if_pos c]; rfl
  · rw [if_neg c, if_neg c, ck32 (m := 32) rfl (by omega) (by omega)]; rfl
theorem pr_e {ob : Rec} {ns cap : Int32} {L : Nat} (h : LI ob ns cap L) {k : Nat} (hk : k < 8) : X_pubRow ob (n32 k) = some (rv (tv ob 7 8 k)) := by
  unfold X_pubRow; rw [vky h, Option.bind_some, if_pos (k8 hk), if_neg (by decide), ck32 (m := 32) rfl (by omega) (by omega)]
  unfold tv
  by_cases c : gA ob 7 (n32 k) = 0
  · rw [if_pos c, if_pos c]; rfl
  · rw [if_neg c, if_neg c, ck32 (m := 32) rfl (by omega) (by omega)]; rfl
/- the writing calls, in short -/
abbrev W1 (ob : Rec) (ns cap : Int32) (L : Nat) (k s y v : Int32) (a : Int32) (r : Rec) : Prop := (r = ob ∧ a < 0) ∨ (a = n32 (L + 1) ∧ (L : Int) < cap.toInt ∧ LI r ns cap (L + 1) ∧ Ap ob r L k s y v)
theorem bgn_s {ob : Rec} {ns cap : Int32} {L : Nat} (h : LI ob ns cap L) (hns : ns.toInt ≤ 8) (hcap : cap.toInt ≤ 64) (s : Int32) : ∃ a r, X_begin ob s = some (a, r) ∧ W1 ob ns cap L 1 s 0 0 a r := by
  obtain ⟨r, r1, r2⟩ := bgn_e h hns hcap s
  refine ⟨_, r, r1, ?_⟩
  rcases r2 with ⟨c, e⟩ | ⟨c, l, p, -⟩
  · refine Or.inl ⟨e, ?_⟩
    by_cases c1 : In ns.toInt s
    · rw [if_pos c1]
      by_cases c2 : gA ob 5 s = 0
      · rw [if_pos c2, if_neg (fun x => c ⟨c1, c2, x⟩)]; decide
      · rw [if_neg c2]; decide
    · rw [if_neg c1]; decide
  · refine Or.inr ⟨?_, c.2.2, l, p⟩
    rw [if_pos c.1, if_pos c.2.1, if_pos c.2.2]
theorem wrt_s {ob : Rec} {ns cap k : Int32} {L : Nat} (h : LI ob ns cap L) (hns : ns.toInt ≤ 8) (hcap : cap.toInt ≤ 64) (hk : k = 2 ∨ k = 3) (s y v : Int32) : ∃ a r, X_write ob k s y v = some (a, r) ∧ W1 ob ns cap L k s y v a r := by
  obtain ⟨r, r1, r2⟩ := wrt_e h hns hcap hk s y v
  refine ⟨_, r, r1, ?_⟩
  rcases r2 with ⟨c, e⟩ | ⟨c, l, p, -⟩
  · refine Or.inl ⟨e, ?_⟩
    by_cases c1 : In ns.toInt s
    · rw [if_pos c1]
      by_cases c2 : gA ob 5 s = 0
      · rw [if_pos c2]; decide
      · rw [if_neg c2]
        by_cases c3 : In 8 y
        · rw [if_pos c3, if_neg (fun x => c ⟨c1, c2, c3, x⟩)]; decide
        · rw [if_neg c3]; decide
    · rw [if_neg c1]; decide
  · refine Or.inr ⟨?_, c.2.2.2, l, p⟩
    rw [if_pos c.1, if_neg c.2.1, if_pos c.2.2.1, if_pos c.2.2.2]
theorem put_s {ob : Rec} {ns cap : Int32} {L : Nat} (h : LI ob ns cap L) (hns : ns.toInt ≤ 8) (hcap : cap.toInt ≤ 64) (s y v : Int32) : ∃ a r, X_put ob s y v = some (a, r) ∧ W1 ob ns cap L 2 s y v a r := by
  obtain ⟨a, r, r1, r2⟩ := wrt_s h hns hcap (Or.inl rfl) s y v
  exact ⟨a, r, by unfold X_put; rw [r1, bind2_some], r2⟩
theorem del_s {ob : Rec} {ns cap : Int32} {L : Nat} (h : LI ob ns cap L) (hns : ns.toInt ≤ 8) (hcap : cap.toInt ≤ 64) (s y : Int32) : ∃ a r, X_del ob s y = some (a, r) ∧ W1 ob ns cap L 3 s y 0 a r := by
  obtain ⟨a, r, r1, r2⟩ := wrt_s h hns hcap (Or.inr rfl) s y 0
  exact ⟨a, r, by unfold X_del; rw [r1, bind2_some], r2⟩
theorem abo_s {ob : Rec} {ns cap : Int32} {L : Nat} (h : LI ob ns cap L) (hns : ns.toInt ≤ 8) (hcap : cap.toInt ≤ 64) (s : Int32) : ∃ a r, X_abort ob s = some (a, r) ∧ W1 ob ns cap L 5 s 0 0 a r := by
  obtain ⟨r, r1, r2⟩ := abo_e h hns hcap s
  refine ⟨_, r, r1, ?_⟩
  rcases r2 with ⟨c, e⟩ | ⟨c, l, p, -⟩
  · refine Or.inl ⟨e, ?_⟩
    by_cases c1 : In ns.toInt s
    · rw [if_pos c1]
      by_cases c2 : gA ob 5 s = 0
      · rw [if_pos c2]; decide
      · rw [if_neg c2, if_neg (fun x => c ⟨c1, c2, x⟩)]; decide
    · rw [if_neg c1]; decide
  · refine Or.inr ⟨?_, c.2.2, l, p⟩
    rw [if_pos c.1, if_neg c.2.1, if_pos c.2.2]
theorem com_s (NF : Nat) (hNF : 200 < NF) {ob : Rec} {ns cap : Int32} {L : Nat} (h : LI ob ns cap L) (hns : ns.toInt ≤ 8) (hcap : cap.toInt ≤ 64) (s : Int32) : ∃ a r, X_commit NF ob s = some (a, r) ∧ W1 ob ns cap L 4 s 0 0 a r := by
  obtain ⟨r, r1, r2⟩ := com_e NF hNF h hns hcap s
  refine ⟨_, r, r1, ?_⟩
  rcases r2 with ⟨c, e⟩ | ⟨c, l, p, -⟩
  · refine Or.inl ⟨e, ?_⟩
    by_cases c1 : In ns.toInt s
    · rw [if_pos c1]
      by_cases c2 : gA ob 5 s = 0
      · rw [if_pos c2]; decide
      · rw [if_neg c2, if_neg (fun x => c ⟨c1, c2, x⟩)]; decide
    · rw [if_neg c1]; decide
  · refine Or.inr ⟨?_, c.2.2, l, p⟩
    rw [if_pos c.1, if_neg c.2.1, if_pos c.2.2]
theorem ap_i {ob r : Rec} {L : Nat} {k s y v : Int32} (h : Ap ob r L k s y v) {E A C : Nat} {l : List Msg} {P : Pd} (hS : SI ob L E A C l P) : SI r (L + 1) E A C l P := SI_w hS h.ag (fun j a b => h.gi j (by omega)) (fun j x hj => h.ga j x hj)
theorem LC_n {ob r : Rec} {L c : Nat} {k s y v : Int32} (h : Ap ob r L k s y v) (hk : ¬ k = 4) (hc : LC (lgo ob) L c) : LC (lgo r) (L + 1) c := by
  obtain ⟨a, b, d⟩ := hc
  refine ⟨by omega, by rw [h.ag 0 c a]; exact b, fun j x z => ?_⟩
  by_cases e : j = L + 1
  · rw [e, h.nw.1]; exact hk
  · rw [h.ag 0 j (by omega)]; exact d j x (by omega)
theorem LC_c {ob r : Rec} {L : Nat} {s y v : Int32} (h : Ap ob r L 4 s y v) : LC (lgo r) (L + 1) (L + 1) := ⟨Nat.le_refl _, Or.inr h.nw.1, fun j x z => by omega⟩
/-- the new object -/
theorem ini_s (ns cap mc : Int32) (h1 : 2 ≤ ns.toInt ∧ ns.toInt ≤ 8) (h2 : 16 ≤ cap.toInt ∧ cap.toInt ≤ 64) (h3 : 2 ≤ mc.toInt ∧ mc.toInt ≤ 32) : ∃ r, X_init 8 ns cap mc = some r ∧ LI r ns cap 0 ∧ SI r 0 0 0 0 [] (fun _ => none) ∧ LC (lgo r) 0 0 ∧ (∀ j x, gA r j x = 0) := by
  have cl' : ∀ (ob : Rec) (x lo hi : Int32), lo.toInt ≤ x.toInt → x.toInt ≤ hi.toInt → X_clamp ob x lo hi = some x := fun ob x lo hi a b => by
    unfold X_clamp; rw [if_neg (by rw [lt_i]; omega), if_neg (by rw [lt_i]; omega)]
  unfold X_init
  rw [cl' _ 8 8 32 (by decide) (by decide), Option.bind_some, cl' _ ns 2 8 h1.1 h1.2, Option.bind_some, cl' _ cap 16 128 h2.1 (by show cap.toInt ≤ 128; omega), Option.bind_some, cl' _ mc 2 32 h3.1 h3.2, Option.bind_some]
  generalize hr : sI (sI (sI (sI (sI (sI (sI (sI (sI (sI zrec 0 8) 1 ns) 2 cap) 3 mc) 4 0) 5 0) 6 0) 7 0) 8 0) 9 0 = r
  have rA : ∀ j x, gA r j x = 0 := fun j x => by rw [← hr]; rfl
  have r0 : gI r 0 = 8 ∧ gI r 1 = ns ∧ gI r 2 = cap ∧ gI r 4 = 0 ∧ gI r 5 = 0 ∧ gI r 6 = 0 ∧ gI r 7 = 0 ∧ gI r 8 = 0 ∧ gI r 9 = 0 := by rw [← hr]; exact ⟨rfl, rfl, rfl, rfl, rfl, rfl, rfl, rfl, rfl⟩
  obtain ⟨g0, g1, g2, g4, g5, g6, g7, g8, g9⟩ := r0
  have tz : ∀ a b k, tv r a b k = none := fun a b k => by unfold tv; rw [rA, if_pos rfl]
  refine ⟨r, rfl, ⟨⟨g0, g1, g2⟩, g4, by omega, ⟨fun p x z => by omega, fun p x z => by omega⟩, fun p x z => by omega, fun s hs z => absurd (rA 5 s) z, fun k hk => tz 7 8 k⟩,
    ⟨g5, g6, g7, ⟨Nat.le_refl _, Or.inl rfl⟩, ⟨Nat.le_refl _, Or.inl rfl⟩, ⟨Nat.le_refl _, Or.inl rfl⟩, fun k hk => tz 9 10 k, ⟨0, by omega, g8, g9, by show 0 ≤ 128; omega, fun i hi => absurd hi (Nat.not_lt_zero i)⟩, Nat.zero_le _, fun k hk => pv_3 (by rw [rA]; decide) (by rw [rA]; decide), Or.inl ⟨0, Nat.le_refl _, Nat.le_refl _, rfl, rfl⟩⟩,
    ⟨Nat.le_refl _, Or.inl rfl, fun j x z => by omega⟩, rA⟩
theorem lgo_9 {ob r : Rec} (h : ∀ j x, j ≤ 4 → gA r j x = gA ob j x) {L c : Nat} (hc : LC (lgo ob) L c) : LC (lgo r) L c := by rw [lgo_c h]; exact hc
def bt (l : Int64) (a : Nat) : Bool := l.toBitVec.getLsbD a
theorem sh64 : ∀ n ∈ List.range 64, ((n32 n &&& 0x3f).toInt64.toUInt64.toBitVec % 64).toNat = n ∧ ((n32 n &&& 0x3f).toInt64.toBitVec.smod 64).toNat = n := by decide +kernel
theorem sh64' {a : Int32} (ha : In 64 a) : ((a &&& 0x3f).toInt64.toUInt64.toBitVec % 64).toNat = a.toInt.toNat ∧ ((a &&& 0x3f).toInt64.toBitVec.smod 64).toNat = a.toInt.toNat := by
  have := sh64 a.toInt.toNat (List.mem_range.mpr (by omega))
  rw [n32_t a ha.1] at this; exact this
theorem shr_e (l m : Int64) (s : UInt64) (k : Nat) (hs : (s.toBitVec % 64).toNat = k) : ((l.toUInt64 >>> s).toInt64 &&& m).toBitVec = (l.toBitVec >>> k) &&& m.toBitVec := by
  rw [Int64.toBitVec_and]
  congr 1
  show (l.toUInt64 >>> s).toBitVec = _
  rw [UInt64.toBitVec_shiftRight, BitVec.ushiftRight_eq', hs]; rfl
theorem bit1 (l : Int64) {a : Int32} (ha : In 64 a) : (((l.toUInt64 >>> (a &&& 0x3f).toInt64.toUInt64).toInt64) &&& (1 : Int64)) = if bt l a.toInt.toNat then 1 else 0 := by
  apply Int64.toBitVec_inj.mp
  rw [shr_e l 1 _ _ (sh64' ha).1]
  generalize a.toInt.toNat = k
  apply BitVec.eq_of_getLsbD_eq
  intro i hi
  have o : (1 : Int64).toBitVec = 1#64 := rfl
  rw [BitVec.getLsbD_and, BitVec.getLsbD_ushiftRight, o]
  by_cases c : i = 0
  · subst c
    cases h : bt l k <;> unfold bt at h <;> simp [h]
  · have c1 : (1#64).getLsbD i = false := by rw [BitVec.getLsbD_one]; simp [c]
    rw [c1, Bool.and_false]
    cases bt l k
    · simp
    · show false = (1#64).getLsbD i
      rw [c1]
theorem bit1n (l : Int64) {a : Int32} (ha : In 64 a) : ((((l.toUInt64 >>> (a &&& 0x3f).toInt64.toUInt64).toInt64) &&& (1 : Int64)) = 0) ↔ bt l a.toInt.toNat = false := by
  rw [bit1 l ha]
  cases bt l a.toInt.toNat <;> decide
theorem bitor (l : Int64) {a : Int32} (ha : In 64 a) (i : Nat) (hi : i < 64) : bt (l ||| ((1 : Int64) <<< (a &&& 0x3f).toInt64)) i = (bt l i || decide (i = a.toInt.toNat)) := by
  unfold bt
  have o : (1 : Int64).toBitVec = 1#64 := rfl
  rw [Int64.toBitVec_or, BitVec.getLsbD_or, Int64.toBitVec_shiftLeft, BitVec.shiftLeft_eq', (sh64' ha).2, BitVec.getLsbD_shiftLeft, o, BitVec.getLsbD_one]
  congr 1
  generalize a.toInt.toNat = k
  by_cases c : i = k
  · subst c; simp [hi]
  · by_cases d : i < k
    · simp [d, c]
    · have : ¬ i - k = 0 := by omega
      simp [this, c]
-- USE: bits pga0 rpa rpb rpc rpd rpe rpf rgl rgs rgp rpg b64
theorem mk32 {M : BitVec 64} {i n : Nat} (hM : M.toNat < 2 ^ n) (hi : n ≤ i) : M.getLsbD i = false := by
  rw [BitVec.getLsbD]
  exact Nat.testBit_lt_two_pow (Nat.lt_of_lt_of_le hM (Nat.pow_le_pow_right (by omega) hi))
theorem lowb (A W M : BitVec 64) (n m : Nat) (hn : n + m ≤ 32) (hM : M.toNat < 2 ^ m) : ((A <<< 32 ||| W) >>> n) &&& M = (W >>> n) &&& M := by
  apply BitVec.eq_of_getLsbD_eq
  intro i hi
  rw [BitVec.getLsbD_and, BitVec.getLsbD_and]
  by_cases c : m ≤ i
  · rw [mk32 hM c, Bool.and_false, Bool.and_false]
  · congr 1
    rw [BitVec.getLsbD_ushiftRight, BitVec.getLsbD_ushiftRight, BitVec.getLsbD_or, BitVec.getLsbD_shiftLeft]
    have : n + i < 32 := by omega
    simp [this]
theorem hib (v : Int32) (W : BitVec 64) (hW : W.toNat < 2 ^ 32) : ((v.toInt64.toBitVec <<< 32 ||| W).sshiftRight 32).truncate 32 = v.toBitVec := by
  apply BitVec.eq_of_getLsbD_eq
  intro i hi
  have e1 : (v.toInt64.toBitVec).getLsbD i = v.toBitVec.getLsbD i := by
    rw [Int32.toBitVec_toInt64, BitVec.getLsbD_signExtend]
    simp [hi, show i < 64 by omega]
  rw [BitVec.truncate_eq_setWidth, BitVec.getLsbD_setWidth, BitVec.getLsbD_sshiftRight]
  have c1 : ¬ 64 ≤ i := by omega
  have c2 : 32 + i < 64 := by omega
  have c3 : ¬ 32 + i < 32 := by omega
  simp only [hi, decide_true, Bool.true_and, c1, decide_false, Bool.not_false, c2, if_true, BitVec.getLsbD_or, BitVec.getLsbD_shiftLeft, c3, mk32 hW (show 32 ≤ 32 + i by omega), Bool.or_false]
  rw [show 32 + i - 32 = i by omega]
  exact e1
def wd (k s y : Int32) : Int32 := (k + (256 : Int32) * s) + (65536 : Int32) * y
abbrev K5 : List Int32 := [1, 2, 3, 4, 5]
abbrev S3 : List Int32 := [0, 1, 2]
abbrev Y8 : List Int32 := [0, 1, 2, 3, 4, 5, 6, 7]
theorem wd_all : ∀ k ∈ K5, ∀ s ∈ S3, ∀ y ∈ Y8, (wd k s y).toInt64.toBitVec.toNat < 2 ^ 32 ∧ ((wd k s y).toInt64 &&& 255).toInt32 = k ∧ (Int64.ofBitVec (((wd k s y).toInt64.toBitVec >>> 8) &&& 255#64)).toInt32 = s ∧ (Int64.ofBitVec (((wd k s y).toInt64.toBitVec >>> 16) &&& 65535#64)).toInt32 = y := by decide +kernel
theorem rcd_b (k s y v : Int32) : (rcd k s y v).toBitVec = v.toInt64.toBitVec <<< 32 ||| (wd k s y).toInt64.toBitVec := by
  unfold rcd wd
  rw [Int64.toBitVec_or, Int64.toBitVec_shiftLeft, BitVec.shiftLeft_eq']
  rfl
theorem dec_e {k s y : Int32} (v : Int32) (hk : k ∈ K5) (hs : s ∈ S3) (hy : y ∈ Y8) : L_kind (rcd k s y v) = some k ∧ L_slot (rcd k s y v) = some s ∧ L_key (rcd k s y v) = some y ∧ L_val (rcd k s y v) = some v := by
  obtain ⟨w1, w2, w3, w4⟩ := wd_all k hk s hs y hy
  refine ⟨?_, ?_, ?_, ?_⟩
  · unfold L_kind
    congr 1
    have e : rcd k s y v &&& 255 = (wd k s y).toInt64 &&& 255 := by
      apply Int64.toBitVec_inj.mp
      rw [Int64.toBitVec_and, Int64.toBitVec_and, rcd_b]
      have := lowb v.toInt64.toBitVec (wd k s y).toInt64.toBitVec (255 : Int64).toBitVec 0 8 (by omega) (by decide)
      rw [BitVec.ushiftRight_zero, BitVec.ushiftRight_zero] at this
      exact this
    rw [e]; exact w2
  · unfold L_slot
    congr 1
    have e : ((rcd k s y v).toUInt64 >>> ((8 : Int32) &&& 0x3f).toInt64.toUInt64).toInt64 &&& (255 : Int64) = Int64.ofBitVec (((wd k s y).toInt64.toBitVec >>> 8) &&& 255#64) := by
      apply Int64.toBitVec_inj.mp
      rw [shr_e _ _ _ 8 rfl, rcd_b]
      exact lowb v.toInt64.toBitVec (wd k s y).toInt64.toBitVec 255#64 8 8 (by omega) (by decide)
    rw [e]; exact w3
  · unfold L_key
    congr 1
    have e : ((rcd k s y v).toUInt64 >>> ((16 : Int32) &&& 0x3f).toInt64.toUInt64).toInt64 &&& (65535 : Int64) = Int64.ofBitVec (((wd k s y).toInt64.toBitVec >>> 16) &&& 65535#64) := by
      apply Int64.toBitVec_inj.mp
      rw [shr_e _ _ _ 16 rfl, rcd_b]
      exact lowb v.toInt64.toBitVec (wd k s y).toInt64.toBitVec 65535#64 16 16 (by omega) (by decide)
    rw [e]; exact w4
  · unfold L_val
    congr 1
    apply Int32.toBitVec_inj.mp
    have := hib v (wd k s y).toInt64.toBitVec w1
    rw [← rcd_b k s y v] at this
    rw [← this, Int64.toBitVec_toInt32, BitVec.truncate_eq_setWidth]
    have e : (rcd k s y v >>> ((32 : Int32) &&& 0x3f).toInt64).toBitVec = (rcd k s y v).toBitVec.sshiftRight 32 := by
      rw [Int64.toBitVec_shiftRight]; rfl
    rw [e]
    exact BitVec.signExtend_eq_setWidth_of_le _ (by omega)
theorem n32_d {n : Nat} (h : n < 1000) : n32 (n + 1) + (-1) = n32 n := by
  rw [eq_i32, ad (by rw [nt (n + 1) (by omega)]; show -2147483648 ≤ ((n + 1 : Nat) : Int) + (-1) ∧ ((n + 1 : Nat) : Int) + (-1) < 2147483648; omega), nt (n + 1) (by omega), nt n (by omega)]
  show ((n + 1 : Nat) : Int) + (-1) = n
  omega
theorem lrd {ob : Rec} {L p : Nat} (h : LI ob 3 64 L) (h1 : 1 ≤ p) (h2 : p ≤ L) : ∃ R, X_logRecord ob (n32 p) = some R ∧ L_kind R = some (lgo ob 0 p) ∧ L_slot R = some (lgo ob 1 p) ∧ L_key R = some (lgo ob 2 p) ∧ L_val R = some (lgo ob 3 p) := by
  have lc : (L : Int) ≤ 64 := h.lc
  obtain ⟨⟨a, b⟩, ⟨c, d⟩, ⟨e, f⟩⟩ := h.kd p h1 h2
  have d' : (lgo ob 1 p).toInt < 3 := d
  refine ⟨_, lr_e h.e4 (by clear h; omega) h1 h2, dec_e _ ?_ ?_ ?_⟩
  · simp only [List.mem_cons, eq_i32, Int32.reduceToInt, List.not_mem_nil, or_false]; clear h; omega
  · simp only [List.mem_cons, eq_i32, Int32.reduceToInt, List.not_mem_nil, or_false]; clear h; omega
  · simp only [List.mem_cons, eq_i32, Int32.reduceToInt, List.not_mem_nil, or_false]; clear h; omega
theorem t172 (NF : Nat) (z : Int32) (f : Int32 → Int32) (k19 : Rec → Int32 → Int32 → Option Int32) (k57 : Rec → Int32 → Int32 → Int32 → Int32 → Int32 → Option Int32) (k77 : Rec → Int32 → Int32 → Int32 → Int32 → Int32 → Int64 → Int64 → Int32 → Option Int32) {ob : Rec} {L A c b k : Nat} (h : LI ob 3 64 L) (hc : c ≤ L) (hA : A ≤ L) (hb : 1 ≤ b) (hk : k < 8) (i2 i3 i6 s : Int32) (T U : Tb) : ∀ (m fuel n : Nat), m < fuel → b + n ≤ c → c - (b + n) ≤ m →
    L_law_l172 NF z f k19 k57 k77 fuel ob i2 i3 (n32 A) i6 (n32 k) (rv (apx (lgo ob) s b n T k)) (rv (if c ≤ A then apx (lgo ob) s b n T k else U k)) (n32 c) s (n32 (b + n)) = k77 ob i2 i3 (n32 A) i6 (n32 k) (rv (apx (lgo ob) s b (c - b) T k)) (rv (if c ≤ A then apx (lgo ob) s b (c - b) T k else U k)) (n32 (c + 1)) := by
  have lc : (L : Int) ≤ 64 := h.lc
  have fin : ∀ kk, L_law_w172 NF z f k19 k57 k77 kk ob i2 i3 (n32 A) i6 (n32 k) (rv (apx (lgo ob) s b (c - b) T k)) (rv (if c ≤ A then apx (lgo ob) s b (c - b) T k else U k)) (n32 c) s (n32 c) = k77 ob i2 i3 (n32 A) i6 (n32 k) (rv (apx (lgo ob) s b (c - b) T k)) (rv (if c ≤ A then apx (lgo ob) s b (c - b) T k else U k)) (n32 (c + 1)) := by
    intro kk
    unfold L_law_w172; rw [if_neg (by rw [lt_i]; clear h; omega), n32_s (by clear h; omega)]
  intro m
  induction m with
  | zero =>
    intro fuel n hf h1 h2
    obtain ⟨g, rfl⟩ : ∃ g, fuel = g + 1 := ⟨fuel - 1, by clear h; omega⟩
    have e : n = c - b := by clear h; omega
    have e' : b + (c - b) = c := by clear h; omega
    rw [e, e']
    exact fin _
  | succ m ih =>
    intro fuel n hf h1 h2
    obtain ⟨g, rfl⟩ : ∃ g, fuel = g + 1 := ⟨fuel - 1, by clear h; omega⟩
    by_cases d : b + n = c
    · have e : n = c - b := by clear h; omega
      rw [d, e]
      exact fin _
    · have nx := ih g (n + 1) (by clear h; omega) (by clear h; omega) (by clear h; omega)
      have e1 : apx (lgo ob) s b (n + 1) T k = st1 (lgo ob) s (b + n) (apx (lgo ob) s b n T) k := rfl
      rw [e1, show b + (n + 1) = b + n + 1 by clear h; omega] at nx
      obtain ⟨R, R1, R2, R3, R4, R5⟩ := lrd h (p := b + n) (by clear h; omega) (by clear h; omega)
      have k8 := (h.kd (b + n) (by clear h; omega) (by clear h; omega)).2.2
      have kk := n32k hk k8
      show L_law_w172 NF z f k19 k57 k77 (L_law_l172 NF z f k19 k57 k77 g) ob i2 i3 (n32 A) i6 (n32 k) (rv (apx (lgo ob) s b n T k)) (rv (if c ≤ A then apx (lgo ob) s b n T k else U k)) (n32 c) s (n32 (b + n)) = _
      unfold L_law_w172
      rw [if_pos (by rw [n32_lt (by clear h; omega) (by clear h; omega)]; clear h; omega), R1, Option.bind_some, R3, Option.bind_some, R4, R2, R5, n32_s (by clear h; omega)]
      unfold st1 at nx
      have up : ∀ e : Option Int32, rv (if k = (lgo ob 2 (b + n)).toInt.toNat then e else apx (lgo ob) s b n T k) = rv e → L_law_l172 NF z f k19 k57 k77 g ob i2 i3 (n32 A) i6 (n32 k) (rv e) (rv (if c ≤ A then e else U k)) (n32 c) s (n32 (b + n + 1)) = k77 ob i2 i3 (n32 A) i6 (n32 k) (rv (apx (lgo ob) s b (c - b) T k)) (rv (if c ≤ A then apx (lgo ob) s b (c - b) T k else U k)) (n32 (c + 1)) → L_law_b245 NF z f k19 k57 k77 (L_law_l172 NF z f k19 k57 k77 g) ob i2 i3 (n32 A) i6 (n32 k) (rv (if c ≤ A then apx (lgo ob) s b n T k else U k)) (n32 c) s (n32 (b + n)) (rv e) = k77 ob i2 i3 (n32 A) i6 (n32 k) (rv (apx (lgo ob) s b (c - b) T k)) (rv (if c ≤ A then apx (lgo ob) s b (c - b) T k else U k)) (n32 (c + 1)) := by
        intro e _ hh
        unfold L_law_b245
        rw [n32_s (by clear h; omega)]
        by_cases w : c ≤ A
        · rw [if_neg (by rw [n32_lt (by clear h; omega) (by clear h; omega)]; clear h; omega)]
          rw [if_pos w] at hh; exact hh
        · rw [if_pos (by rw [n32_lt (by clear h; omega) (by clear h; omega)]; clear h; omega)]
          rw [if_neg w] at hh ⊢; exact hh
      by_cases c1 : lgo ob 1 (b + n) = s
      · rw [if_pos c1, Option.bind_some]
        by_cases c2 : lgo ob 2 (b + n) = n32 k
        · have kt := kk.mp c2.symm
          rw [if_pos c2, Option.bind_some]
          by_cases c3 : lgo ob 0 (b + n) = 2
          · have mtt : mt (lgo ob) s (b + n) = true := decide_eq_true ⟨c1, Or.inl c3⟩
            rw [mtt] at nx
            simp only [if_true] at nx
            rw [if_pos kt] at nx
            unfold eff at nx
            rw [if_pos c3] at nx
            rw [if_pos c3, Option.bind_some]
            exact up (some (lgo ob 3 (b + n))) (by rw [if_pos kt]) nx
          · rw [if_neg c3]
            by_cases c4 : lgo ob 0 (b + n) = 3
            · have mtt : mt (lgo ob) s (b + n) = true := decide_eq_true ⟨c1, Or.inr c4⟩
              rw [mtt] at nx
              simp only [if_true] at nx
              rw [if_pos kt] at nx
              unfold eff at nx
              rw [if_neg c3] at nx
              rw [if_pos c4]
              exact up none (by rw [if_pos kt]) nx
            · have mtt : mt (lgo ob) s (b + n) = false := decide_eq_false (fun x => x.2.elim c3 c4)
              rw [mtt] at nx
              rw [if_neg c4]; exact nx
        · rw [if_neg c2]
          by_cases c5 : mt (lgo ob) s (b + n) = true
          · rw [c5] at nx
            simp only [if_true] at nx
            rw [if_neg (fun x => c2 (kk.mpr x).symm)] at nx
            exact nx
          · rw [eq_false_of_ne_true c5] at nx; exact nx
      · have mtt : mt (lgo ob) s (b + n) = false := decide_eq_false (fun x => c1 x.1)
        rw [mtt] at nx
        rw [if_neg c1]; exact nx
theorem t120 (NF : Nat) (z : Int32) (f : Int32 → Int32) (k19 : Rec → Int32 → Int32 → Option Int32) (k57 : Rec → Int32 → Int32 → Int32 → Int32 → Int32 → Option Int32) (k77 : Rec → Int32 → Int32 → Int32 → Int32 → Int32 → Int64 → Int64 → Int32 → Option Int32) {ob : Rec} {L c : Nat} (h : LI ob 3 64 L) (hc : c ≤ L) (hc1 : 1 ≤ c) (k4 : lgo ob 0 c = 4) (i2 i3 i4 i6 i7 : Int32) (l8 l10 : Int64) : ∀ (m fuel p : Nat), m < fuel → bg (lgo ob) c ≤ p → p < c → p - bg (lgo ob) c ≤ m →
    L_law_l120 NF z f k19 k57 k77 fuel ob i2 i3 i4 i6 i7 l8 l10 (n32 c) (lgo ob 1 c) 0 (n32 p) = L_law_l172 NF z f k19 k57 k77 NF ob i2 i3 i4 i6 i7 l8 l10 (n32 c) (lgo ob 1 c) (n32 (bg (lgo ob) c + 1)) := by
  have lc : (L : Int) ≤ 64 := h.lc
  have cm := h.lw.cm c hc1 hc k4
  intro m
  induction m with
  | zero =>
    intro fuel p hf h1 h2 h3
    obtain ⟨g, rfl⟩ : ∃ g, fuel = g + 1 := ⟨fuel - 1, by clear h cm; omega⟩
    have e : p = bg (lgo ob) c := by clear h cm; omega
    have p1 : 1 ≤ p := by rw [e]; exact cm.1
    obtain ⟨R, R1, R2, R3, R4, R5⟩ := lrd h (p := p) p1 (by clear h cm; omega)
    show L_law_w120 NF z f k19 k57 k77 _ ob i2 i3 i4 i6 i7 l8 l10 (n32 c) (lgo ob 1 c) 0 (n32 p) = _
    unfold L_law_w120
    rw [if_neg (by rw [lt_i, nt p (by clear h cm; omega)]; show ¬ (p : Int) < 1; clear h cm; omega), R1, Option.bind_some, R2, Option.bind_some, if_pos (by rw [e]; exact cm.2.2.1), R3, Option.bind_some, if_pos (by rw [e]; exact cm.2.2.2.1), n32_s (by clear h cm; omega), e]
  | succ m ih =>
    intro fuel p hf h1 h2 h3
    obtain ⟨g, rfl⟩ : ∃ g, fuel = g + 1 := ⟨fuel - 1, by clear h cm; omega⟩
    have b1 := cm.1
    have p1 : 1 ≤ p := by clear h cm; omega
    obtain ⟨R, R1, R2, R3, R4, R5⟩ := lrd h (p := p) p1 (by clear h cm; omega)
    show L_law_w120 NF z f k19 k57 k77 (L_law_l120 NF z f k19 k57 k77 g) ob i2 i3 i4 i6 i7 l8 l10 (n32 c) (lgo ob 1 c) 0 (n32 p) = _
    unfold L_law_w120
    rw [if_neg (by rw [lt_i, nt p (by clear h cm; omega)]; show ¬ (p : Int) < 1; clear h cm; omega), R1, Option.bind_some, R2, Option.bind_some, R3, Option.bind_some]
    by_cases e : p = bg (lgo ob) c
    · rw [if_pos (by rw [e]; exact cm.2.2.1), if_pos (by rw [e]; exact cm.2.2.2.1), n32_s (by clear h cm; omega), e]
    · have nx := ih g (p - 1) (by clear h cm; omega) (by clear h cm; omega) (by clear h cm; omega) (by clear h cm; omega)
      have e2 : n32 p + (-1) = n32 (p - 1) := by
        obtain ⟨q, rfl⟩ : ∃ q, p = q + 1 := ⟨p - 1, by clear h cm; omega⟩
        exact n32_d (by clear h cm; omega)
      rw [e2]
      by_cases c1 : lgo ob 0 p = 1
      · rw [if_pos c1]
        by_cases c2 : lgo ob 1 p = lgo ob 1 c
        · have := cm.2.2.2.2 p (by clear h cm; omega) h2 c2
          rw [c1] at this
          rcases this with x | x <;> exact absurd x (by decide)
        · rw [if_neg c2]; exact nx
      · rw [if_neg c1]; exact nx
theorem t77 (NF : Nat) (hNF : 200 < NF) (z : Int32) (f : Int32 → Int32) (k19 : Rec → Int32 → Int32 → Option Int32) (k57 : Rec → Int32 → Int32 → Int32 → Int32 → Int32 → Option Int32) {ob : Rec} {L E A C k : Nat} {l : List Msg} {P : Pd} (h : LI ob 3 64 L) (hS : SI ob L E A C l P) (hk : k < 8) (i2 i3 : Int32) : ∀ (m fuel c : Nat), m < fuel → c ≤ L → L - c ≤ m →
    L_law_l77 NF z f k19 k57 fuel ob i2 i3 (n32 A) (n32 L) (n32 k) (rv (rp (lgo ob) c k)) (rv (rp (lgo ob) (min c A) k)) (n32 (c + 1)) = k57 ob i2 i3 (n32 A) (n32 L) (n32 (k + 1)) := by
  have lc : (L : Int) ≤ 64 := h.lc
  have aL := hS.hA.1
  have fin : ∀ kk, L_law_w77 NF z f k19 k57 kk ob i2 i3 (n32 A) (n32 L) (n32 k) (rv (rp (lgo ob) L k)) (rv (rp (lgo ob) (min L A) k)) (n32 (L + 1)) = k57 ob i2 i3 (n32 A) (n32 L) (n32 (k + 1)) := by
    intro kk
    unfold L_law_w77
    rw [if_pos (by rw [n32_lt (by clear h hS; omega) (by clear h hS; omega)]; clear h hS; omega), pr_e h hk, Option.bind_some, h.pu k hk, if_pos rfl, sr_e h hk, Option.bind_some, hS.sb k hk, Nat.min_eq_right aL, if_pos rfl, n32_s (by clear h hS; omega)]
  intro m
  induction m with
  | zero =>
    intro fuel c hf h1 h2
    obtain ⟨g, rfl⟩ : ∃ g, fuel = g + 1 := ⟨fuel - 1, by clear h hS; omega⟩
    have e : c = L := by clear h hS; omega
    rw [e]; exact fin _
  | succ m ih =>
    intro fuel c hf h1 h2
    obtain ⟨g, rfl⟩ : ∃ g, fuel = g + 1 := ⟨fuel - 1, by clear h hS; omega⟩
    by_cases d : c = L
    · rw [d]; exact fin _
    · have nx := ih g (c + 1) (by clear h hS; omega) (by clear h hS; omega) (by clear h hS; omega)
      obtain ⟨R, R1, R2, R3, R4, R5⟩ := lrd h (p := c + 1) (by clear h hS; omega) (by clear h hS; omega)
      show L_law_w77 NF z f k19 k57 (L_law_l77 NF z f k19 k57 g) ob i2 i3 (n32 A) (n32 L) (n32 k) (rv (rp (lgo ob) c k)) (rv (rp (lgo ob) (min c A) k)) (n32 (c + 1)) = _
      unfold L_law_w77
      rw [if_neg (by rw [n32_lt (by clear h hS; omega) (by clear h hS; omega)]; clear h hS; omega), R1, Option.bind_some, R2, Option.bind_some, R3, Option.bind_some]
      by_cases k4 : lgo ob 0 (c + 1) = 4
      · have cm := h.lw.cm (c + 1) (by clear h hS; omega) (by clear h hS; omega) k4
        have b1 := cm.1
        have b2 := cm.2.1
        have er : rp (lgo ob) (c + 1) = apx (lgo ob) (lgo ob 1 (c + 1)) (bg (lgo ob) (c + 1) + 1) (c + 1 - (bg (lgo ob) (c + 1) + 1)) (rp (lgo ob) c) := by
          show (if lgo ob 0 (c + 1) = 4 then _ else _) = _
          rw [if_pos k4]
        rw [if_pos k4, n32_p (by clear h hS cm; omega), t120 NF z f k19 k57 (L_law_l77 NF z f k19 k57 g) h (by clear h hS cm; omega) (by clear h hS cm; omega) k4 i2 i3 (n32 A) (n32 L) (n32 k) _ _ 100 NF c (by clear h hS cm; omega) (by clear h hS cm; omega) (by clear h hS cm; omega) (by clear h hS cm; omega)]
        have t := t172 NF z f k19 k57 (L_law_l77 NF z f k19 k57 g) (A := A) (c := c + 1) (b := bg (lgo ob) (c + 1) + 1) (k := k) h (by clear h hS cm; omega) aL (by clear h hS cm; omega) hk i2 i3 (n32 L) (lgo ob 1 (c + 1)) (rp (lgo ob) c) (rp (lgo ob) A) 100 NF 0 (by clear h hS cm; omega) (by clear h hS cm; omega) (by clear h hS cm; omega)
        have e0 : apx (lgo ob) (lgo ob 1 (c + 1)) (bg (lgo ob) (c + 1) + 1) 0 (rp (lgo ob) c) k = rp (lgo ob) c k := rfl
        rw [e0, Nat.add_zero, ← er] at t
        have m1 : (if c + 1 ≤ A then rp (lgo ob) c k else rp (lgo ob) A k) = rp (lgo ob) (min c A) k := by
          by_cases w : c + 1 ≤ A
          · rw [if_pos w, Nat.min_eq_left (by clear h hS cm; omega)]
          · rw [if_neg w, Nat.min_eq_right (by clear h hS cm; omega)]
        have m2 : (if c + 1 ≤ A then rp (lgo ob) (c + 1) k else rp (lgo ob) A k) = rp (lgo ob) (min (c + 1) A) k := by
          by_cases w : c + 1 ≤ A
          · rw [if_pos w, Nat.min_eq_left w]
          · rw [if_neg w, Nat.min_eq_right (by clear h hS cm; omega)]
        rw [m1, m2] at t
        rw [t]; exact nx
      · have er : rp (lgo ob) (c + 1) = rp (lgo ob) c := by
          show (if lgo ob 0 (c + 1) = 4 then _ else _) = _
          rw [if_neg k4]
        have m1 : rp (lgo ob) (min (c + 1) A) k = rp (lgo ob) (min c A) k := by
          by_cases w : c + 1 ≤ A
          · rw [Nat.min_eq_left w, Nat.min_eq_left (by clear h hS; omega), er]
          · rw [Nat.min_eq_right (by clear h hS; omega), Nat.min_eq_right (by clear h hS; omega)]
        rw [er, m1] at nx
        rw [if_neg k4, n32_s (by clear h hS; omega)]; exact nx
abbrev St (ob : Rec) : Prop := ∃ L E A C l P, LI ob 3 64 L ∧ SI ob L E A C l P
theorem w1_st {ob : Rec} {L E A C : Nat} {l : List Msg} {P : Pd} (hI : LI ob 3 64 L) (hS : SI ob L E A C l P) {k s y v a : Int32} {r : Rec} (h : W1 ob 3 64 L k s y v a r) : St r := by
  rcases h with ⟨w1, w2⟩ | ⟨w1, w2, w3, w4⟩
  · rw [w1]; exact ⟨L, E, A, C, l, P, hI, hS⟩
  · exact ⟨L + 1, E, A, C, l, P, w3, ap_i w4 hS⟩
theorem ite_1 {c : Prop} [Decidable c] {γ : Type} {A B r : Option γ} (h1 : c → A = r) (h2 : ¬ c → B = r) : (if c then A else B) = r := by
  by_cases h : c
  · rw [if_pos h]; exact h1 h
  · rw [if_neg h]; exact h2 h
theorem t57e (NF : Nat) (hNF : 200 < NF) (z : Int32) (f : Int32 → Int32) (k19 : Rec → Int32 → Int32 → Option Int32) (k57 : Rec → Int32 → Int32 → Int32 → Int32 → Int32 → Option Int32) {ob : Rec} (h : St ob) {i : Int32} (hi : 0 ≤ i.toInt ∧ i.toInt ≤ z.toInt) (i4 i6 : Int32) (nx : i.toInt < z.toInt → ∀ r, St r → k19 r z (i + 1) = some 1) : L_law_w57 NF z f k19 k57 ob z i i4 i6 8 = some 1 := by
  unfold L_law_w57
  rw [if_neg (by decide)]
  by_cases c : i = z
  · rw [if_pos c]
  · have c' : i.toInt < z.toInt := by
      have : ¬ i.toInt = z.toInt := fun e => c (eq_i32.mpr e)
      clear h; omega
    have nx' := nx c'
    rw [if_neg c]
    unfold L_cell
    rw [if_pos (lt_i.mpr c'), chk_ok (by clear h; omega), Option.bind_some]
    obtain ⟨L, E, A, C, l, P, hI, hS⟩ := h
    have h64 : (64 : Int32).toInt ≤ 64 := by decide
    have h4 : (3 : Int32).toInt ≤ 8 := by decide
    generalize f i = x
    generalize (x.toUInt32 >>> ((4 : Int32) &&& 31).toUInt32).toInt32 = v4
    generalize (x.toUInt32 >>> ((6 : Int32) &&& 31).toUInt32).toInt32 = v6
    generalize x >>> ((9 : Int32) &&& 31) = v9
    generalize x &&& 15 = op
    refine ite_1 (fun _ => ?_) (fun _ => ?_)
    · refine ite_1 (fun _ => ?_) (fun _ => ?_)
      · refine ite_1 (fun _ => ?_) (fun _ => ?_)
        · obtain ⟨a, r, r1, r2⟩ := del_s hI h4 h64 (v4 % (3 : Int32)) (v6 &&& (7 : Int32))
          rw [r1, bind2_some]; exact nx' r (w1_st hI hS r2)
        · refine ite_1 (fun _ => ?_) (fun _ => ?_)
          · refine ite_1 (fun _ => ?_) (fun _ => ?_)
            · obtain ⟨a, r, r1, r2⟩ := abo_s hI h4 h64 (v4 % (3 : Int32))
              rw [r1, bind2_some]; exact nx' r (w1_st hI hS r2)
            · refine ite_1 (fun _ => ?_) (fun _ => ?_)
              · refine ite_1 (fun _ => ?_) (fun _ => ?_)
                · refine ite_1 (fun _ => ?_) (fun _ => ?_)
                  · obtain ⟨r, r1, r2, r3, r4, r5⟩ := fb_e hI hS
                    rw [r1, bind2_some]; exact nx' r ⟨L, _, _, _, _, _, r2, r3⟩
                  · refine ite_1 (fun _ => ?_) (fun _ => ?_)
                    · refine ite_1 (fun _ => ?_) (fun _ => ?_)
                      · obtain ⟨r, r1, r2, r3, r4, r5, r6⟩ := cpu_e NF hNF hI hS
                        rw [r1, Option.bind_some]; exact nx' r ⟨L, _, _, _, _, _, r2, r3⟩
                      · obtain ⟨r, l', r1, r2, r3, r4, r5, r6⟩ := str_e NF hNF hI h64 hS 64
                        rw [r1, bind2_some]; exact nx' r ⟨L, _, _, _, _, _, r2, r3⟩
                    · refine ite_1 (fun _ => ?_) (fun _ => ?_)
                      · obtain ⟨r, r1, r2, r3, r4, r5⟩ := csu_e NF hNF hI hS
                        rw [r1, Option.bind_some]; exact nx' r ⟨L, _, _, _, _, _, r2, r3⟩
                      · obtain ⟨r, A', P', r1, r2, r3, r4, r5, r6⟩ := apl_e NF hNF hI h64 hS 64
                        obtain ⟨w, w1, w2, w3, w4, w5⟩ := fb_e r2 r3
                        rw [r1, bind2_some, w1, bind2_some]; exact nx' w ⟨L, _, _, _, _, _, w2, w3⟩
                · obtain ⟨r, A', P', r1, r2, r3, r4, r5, r6⟩ := apl_e NF hNF hI h64 hS (((v4 &&& (3 : Int32)) * (3 : Int32)) + (1 : Int32))
                  rw [r1, bind2_some]; exact nx' r ⟨L, _, _, _, _, _, r2, r3⟩
              · obtain ⟨r, l', r1, r2, r3, r4, r5, r6⟩ := str_e NF hNF hI h64 hS ((v4 &&& (3 : Int32)) + (1 : Int32))
                rw [r1, bind2_some]; exact nx' r ⟨L, _, _, _, _, _, r2, r3⟩
          · obtain ⟨a, r, r1, r2⟩ := com_s NF hNF hI h4 h64 (v4 % (3 : Int32))
            rw [r1, bind2_some]; exact nx' r (w1_st hI hS r2)
      · obtain ⟨a, r, r1, r2⟩ := put_s hI h4 h64 (v4 % (3 : Int32)) (v6 &&& (7 : Int32)) v9
        rw [r1, bind2_some]; exact nx' r (w1_st hI hS r2)
    · obtain ⟨a, r, r1, r2⟩ := bgn_s hI h4 h64 (v4 % (3 : Int32))
      rw [r1, bind2_some]; exact nx' r (w1_st hI hS r2)
theorem t57 (NF : Nat) (hNF : 200 < NF) (z : Int32) (f : Int32 → Int32) (k19 : Rec → Int32 → Int32 → Option Int32) {ob : Rec} {L E A C : Nat} {l : List Msg} {P : Pd} (h : LI ob 3 64 L) (hS : SI ob L E A C l P) {i : Int32} (hi : 0 ≤ i.toInt ∧ i.toInt ≤ z.toInt) (nx : i.toInt < z.toInt → ∀ r, St r → k19 r z (i + 1) = some 1) : ∀ (m fuel k : Nat), m < fuel → k ≤ 8 → 8 - k ≤ m → L_law_l57 NF z f k19 fuel ob z i (n32 A) (n32 L) (n32 k) = some 1 := by
  have lc : (L : Int) ≤ 64 := h.lc
  intro m
  induction m with
  | zero =>
    intro fuel k hf h1 h2
    obtain ⟨g, rfl⟩ : ∃ g, fuel = g + 1 := ⟨fuel - 1, by clear h hS; omega⟩
    have e : k = 8 := by clear h hS; omega
    rw [e]
    exact t57e NF hNF z f k19 _ ⟨L, E, A, C, l, P, h, hS⟩ hi _ _ nx
  | succ m ih =>
    intro fuel k hf h1 h2
    obtain ⟨g, rfl⟩ : ∃ g, fuel = g + 1 := ⟨fuel - 1, by clear h hS; omega⟩
    by_cases e : k = 8
    · rw [e]
      exact t57e NF hNF z f k19 _ ⟨L, E, A, C, l, P, h, hS⟩ hi _ _ nx
    · show L_law_w57 NF z f k19 (L_law_l57 NF z f k19 g) ob z i (n32 A) (n32 L) (n32 k) = _
      unfold L_law_w57
      rw [if_pos (by rw [lt_i, nt k (by clear h hS; omega)]; show (k : Int) < 8; clear h hS; omega)]
      have t := t77 NF hNF z f k19 (L_law_l57 NF z f k19 g) (k := k) h hS (by clear h hS; omega) z i 100 NF 0 (by clear h hS; omega) (Nat.zero_le _) (by clear h hS; omega)
      refine Eq.trans ?_ (ih g (k + 1) (by clear h hS; omega) (by clear h hS; omega) (by clear h hS; omega))
      rw [← t, Nat.zero_min]
      rfl
theorem law_l (NF : Nat) (hNF : 200 < NF) (z : Int32) (f : Int32 → Int32) (hz : 0 ≤ z.toInt ∧ z.toInt ≤ 260) : ∀ (m fuel : Nat) (ob : Rec) (i : Int32), m < fuel → St ob → (0 ≤ i.toInt ∧ i.toInt ≤ z.toInt) → z.toInt - i.toInt ≤ m → L_law_l19 NF z f fuel ob z i = some 1 := by
  intro m
  induction m with
  | zero =>
    intro fuel ob i hf h hi hm
    obtain ⟨n, rfl⟩ : ∃ n, fuel = n + 1 := ⟨fuel - 1, by omega⟩
    show L_law_w19 NF z f _ ob z i = _
    unfold L_law_w19
    obtain ⟨L, E, A, C, l, P, hI, hS⟩ := h
    have lc : (L : Int) ≤ 64 := hI.lc
    have aL := hS.hA.1
    have cA := hS.hC.1
    have i4 : X_info ob 4 = some (gI ob 6) := rfl
    have i5 : X_info ob 5 = some (gI ob 7) := rfl
    have i0 : X_info ob 0 = some (gI ob 4) := rfl
    rw [if_neg (by rw [lt_i]; clear hI hS; omega), i4, Option.bind_some, i5, Option.bind_some, hS.e6, hS.e7, if_neg (by rw [n32_lt (by clear hI hS; omega) (by clear hI hS; omega)]; clear hI hS; omega), i0, Option.bind_some, hI.e4]
    exact t57 NF hNF z f _ hI hS hi (fun x => by clear hI hS; omega) 20 NF 0 (by clear hI hS; omega) (by clear hI hS; omega) (by clear hI hS; omega)
  | succ m ih =>
    intro fuel ob i hf h hi hm
    obtain ⟨n, rfl⟩ : ∃ n, fuel = n + 1 := ⟨fuel - 1, by omega⟩
    show L_law_w19 NF z f (L_law_l19 NF z f n) ob z i = _
    unfold L_law_w19
    obtain ⟨L, E, A, C, l, P, hI, hS⟩ := h
    have lc : (L : Int) ≤ 64 := hI.lc
    have aL := hS.hA.1
    have cA := hS.hC.1
    have i4 : X_info ob 4 = some (gI ob 6) := rfl
    have i5 : X_info ob 5 = some (gI ob 7) := rfl
    have i0 : X_info ob 0 = some (gI ob 4) := rfl
    have e1 : (i + 1).toInt = i.toInt + 1 := s1 (by clear hI hS; omega)
    rw [if_neg (by rw [lt_i]; clear hI hS; omega), i4, Option.bind_some, i5, Option.bind_some, hS.e6, hS.e7, if_neg (by rw [n32_lt (by clear hI hS; omega) (by clear hI hS; omega)]; clear hI hS; omega), i0, Option.bind_some, hI.e4]
    refine t57 NF hNF z f _ hI hS hi (fun x r hr => ih n r (i + 1) (by clear hI hS hr; omega) hr (by rw [e1]; clear hI hS hr; omega) (by rw [e1]; clear hI hS hr; omega)) 20 NF 0 (by clear hI hS; omega) (by clear hI hS; omega) (by clear hI hS; omega)
theorem owed : ∀ (z : Int32) (f : Int32 → Int32), ¬ z < 0 → z ≤ 260 → ∃ NF, L_law NF z f = some 1 := by
  intro z f h0 h1
  refine ⟨400, ?_⟩
  have h1' : z.toInt ≤ 260 := le_i.mp h1
  obtain ⟨r, r1, r2, r3, r4, -⟩ := ini_s 3 64 4 (by decide) (by decide) (by decide)
  unfold L_law
  rw [r1, Option.bind_some]
  exact law_l 400 (by omega) z f ⟨nneg' h0, h1'⟩ 300 400 r 0 (by omega) ⟨0, 0, 0, 0, _, _, r2, r3⟩ ⟨by decide, nneg' h0⟩ (by show z.toInt - 0 ≤ _; omega)
-- owed : ∀ (z : Int32) (f : Int32 → Int32), ¬ z < 0 → z ≤ 260 → ∃ NF, L_law NF z f = some 1
--COMES--
set_option maxRecDepth 65536 in
set_option maxHeartbeats 4000000 in
theorem comes_1 {Post : Tables → Env → Array Value → State → Outcome → State → Prop} (hpost : ∀ tb e args s v u, (limb_1_1.after args s (.returned v) u = true ∧ limb_1_2.after args s (.returned v) u = true ∧ True) → FrameEnd s (.returned v) u (Jvm.fieldLocs frame_1_writes args s ++ Jvm.arrayLocs frame_1_arrays args s ++ Jvm.staticLocs frame_1_statics s) 48 2880 → Post tb e args s (.returned v) u) :
    ArmFor flags0 classFile x code maxLocals ret World_1 tables_1 room_1 Calls_1 rest_1 Pre_1 Post := by
  intro l hfl _ _ p e ha hc hk s m args below hf hA hF happ hP
  obtain ⟨hcalls, hrest, hpre⟩ := hP
  obtain ⟨-, -, -, hnamed, -, -, -, hat⟩ := (Spec.applies_iff hf).mp happ
  obtain ⟨hg, hn⟩ := and_e (Cond.before_iff.mp (show (Jvm.Cond.and given_1 narrow_1).before args s = true from hpre))
  obtain ⟨hcnt, hg⟩ := and_e hg
  obtain ⟨w0, rfl⟩ : ∃ w0 : Value, args = #[w0] := by
    have hs : args.size = 1 := by simpa [Cond.value, given_1] using hcnt
    obtain ⟨L⟩ := args
    match L, hs with
    | [w0], _ => exact ⟨w0, rfl⟩
  have hw := fun d (hd : d ∈ tables_1) => atoms_spec (ws := Jvm.Cond.code x code maxLocals ret :: tables_1) hat d (List.mem_cons_of_mem _ hd)
  have hfit : Fit s := fun {y c} hc i hi => by
    obtain ⟨ha, rfl⟩ := Array.getElem?_eq_some_iff.mp hc
    have q := List.all_eq_true.mp ((Array.all_eq_true_iff_forall_mem.mp hF) _ (Array.getElem_mem ha)) i (List.mem_range.mpr hi)
    simpa [Array.getElem?_eq_getElem hi] using q
  obtain ⟨n1, n2⟩ := and_e hn
  obtain ⟨sa, ev⟩ := arr_v n1
  obtain rfl : w0 = .ref sa := Option.some.inj ev
  obtain ⟨cl, A⟩ := Arr.start ev n1
  have hsz : cl.slots.size < 2 ^ 31 := by
    rcases Nat.lt_or_ge cl.slots.size (2 ^ 31) with q | q
    · exact q
    · have u : (Term.length (.arg 0)).eval #[.ref sa] s none [] s = none := by
        have v : s.arrayAt? sa = some cl := A.fin (Vm.Alike.refl _)
        have e' : ¬ cl.slots.size < 2 ^ 31 := by omega
        simp only [Term.eval] at ev ⊢
        simp [v, e']
      simp [Cond.value, u] at n2
  obtain ⟨z, hz, F⟩ := Scr.start hfit A hsz
  have hle : z ≤ 260 := by
    have u := len_f (t := .arg 0) (args := #[.ref sa]) (first := s) (o := none) (idx := []) ev (A.fin (Vm.Alike.refl _)) hsz
    rw [hz]; first | (simp only [Cond.value, u] at n2; simpa [Term.eval] using n2) | (simp [Cond.value, u, Term.int_eval] at n2; exact n2) | (simp [Cond.value, u, Term.int_eval] at n2; simpa using n2)
  obtain ⟨NF, hlaw⟩ := owed z (atv cl) F.2.2.1 hle
  have hp := L_law_pay (C := (l, s, s.heap.size, #[.ref sa])) (⟨cl, F, rfl⟩ : ScrF (l, s, s.heap.size, #[.ref sa]) sa z (atv cl)) hlaw hw s.heap (Rep.start s) tables_1
  obtain ⟨n, o, h1, h2, h3, v, L, rfl, ⟨N, G', -, rfl⟩, hq⟩ := hp p e ha hc hk s m _ below hf ((Spec.applies_iff_loose hf).mp happ).1 ⟨rfl, State.Warmed39.refl s, rfl⟩ trivial
  refine ⟨n, _, h1, h2, h3, hpost _ _ _ _ _ _ ⟨Cond.after_iff.mpr rfl, Cond.after_iff.mpr (eq_i res_at (Term.int_eval (1)) rfl), trivial⟩ ⟨hq.1, hq.2.1, (hq.2.2.sift fun y hy => Or.inr (N y hy)).mono (by decide) (by decide)⟩⟩
theorem main_1_1 : Claimed_1_1 := comes_1 fun _ _ _ _ _ _ h hF => ⟨h.1, hF⟩
theorem main_1_2 : Claimed_1_2 := comes_1 fun _ _ _ _ _ _ h hF => ⟨h.2.1, hF⟩
end Jvm.Pilot.@@N@@
namespace Jvm.Pilot.@@N@@
open Jvm Jvm.ClassFile Sem Op Lib Jvm.Free Jvm.Stand Jvm.Pilot.@@N@@.Jvm.D
/-! MADE BY PROGRAM (witnessworld.py) out of the Statement's table words and the real class files: 11 classes; the members and pool entries that the words name. The judged class is class 1, her method 6. -/
namespace start1
open Jvm.ClassFile
def u (s : String) : CpInfo := .utf8 (stringToUtf16 s)
/-- a pool by its gaps: so many unusable entries, then the entry; so many at the end -/
def gap : Nat → List CpInfo → List CpInfo
  | 0, r => r
  | n + 1, r => .unusable :: gap n r
def poolList (es : List (Nat × CpInfo)) (last : Nat) : List CpInfo := es.foldr (fun e r => gap e.1 (e.2 :: r)) (gap last [])
def pool (es : List (Nat × CpInfo)) (last : Nat) : Array CpInfo := ⟨poolList es last⟩
def fileOf (pool : Array CpInfo) (this : Nat) (attrs : Array Attribute := #[]) (ms : Array MethodInfo := #[]) (fl : Nat := 33) (sup : Nat := 0) (ifs : Array Nat := #[]) (fds : Array FieldInfo := #[]) : ClassFile where
  minorVersion := 0
  majorVersion := 65
  constantPool := pool
  accessFlags := fl
  thisClass := this
  superClass := sup
  interfaces := ifs
  fields := fds
  methods := ms
  attributes := attrs
def plain (name : String) (sup : Option ClassId) : Class where
  name := name
  kind := .ordinary
  loader := none
  accessFlags := 33
  super := sup
  interfaces := #[]
  cf := none
  fields := #[]
  methods := #[]
  instanceTypes := #[]
  staticTypes := #[]
  resolved := #[]
  callSites := []
  init := .initialized
  statics := none
  mirror := none

def pool0 : Array CpInfo := pool [(5, u "<init>"), (0, u "()V"), (1, .class_ 10), (1, u "java/lang/Object")] 113

def k0c0 : Code := { maxStack := 0, maxLocals := 1, code := object_method_1_code, exceptionTable := #[], attributes := #[] }
def k0m0 : Method := { name := "<init>", desc := "()V", sig := { parameters := [], returnType := none }, accessFlags := 1, code := some k0c0 }
/-- java/lang/Object -/
def k0 : Class := { plain "java/lang/Object" none with
  accessFlags := 33
  interfaces := #[]
  cf := some (fileOf pool0 8 #[] #[{ accessFlags := 1, nameIndex := 5, descriptorIndex := 6, attributes := #[] }] 33 0 #[] #[])
  fields := #[]
  methods := #[k0m0]
  instanceTypes := #[]
  staticTypes := #[]
  resolved := Array.replicate 124 none
  statics := none }

def pool1 : Array CpInfo := pool [(2, .class_ 4), (1, u "java/lang/Object"), (0, u "<init>"), (0, u "()V"), (0, .long 255), (1, .long 65535), (1, .class_ 12), (0, u "LogicalReplicator"), (0, .methodref 11 14), (0, .nameAndType 5 15), (0, u "(IIII)V"), (0, .methodref 11 17), (0, .nameAndType 18 19), (0, u "info"), (0, u "(I)I"), (0, .long 4294967296), (1, .methodref 11 23), (0, .nameAndType 24 25), (0, u "logRecord"), (0, u "(I)J"), (0, .methodref 27 28), (0, .class_ 29), (0, .nameAndType 30 31), (0, u "LogicalReplicatorOwnLaw"), (0, u "kind"), (0, u "(J)I"), (0, .methodref 27 33), (0, .nameAndType 34 31), (0, u "slot"), (0, .methodref 27 36), (0, .nameAndType 37 31), (0, u "key"), (0, .methodref 27 39), (0, .nameAndType 40 31), (0, u "val"), (0, .methodref 11 42), (0, .nameAndType 43 25), (0, u "pubRow"), (0, .methodref 11 45), (0, .nameAndType 46 25), (0, u "subRow"), (0, .methodref 27 48), (0, .nameAndType 49 50), (0, u "cell"), (0, u "([II)I"), (0, .methodref 11 52), (0, .nameAndType 53 19), (0, u "begin"), (0, .methodref 11 55), (0, .nameAndType 56 57), (0, u "put"), (0, u "(III)I"), (0, .methodref 11 59), (0, .nameAndType 60 61), (0, u "del"), (0, u "(II)I"), (0, .methodref 11 63), (0, .nameAndType 64 19), (0, u "commit"), (0, .methodref 11 66), (0, .nameAndType 67 19), (0, u "abort"), (0, .methodref 11 69), (0, .nameAndType 70 19), (0, u "stream"), (0, .methodref 11 72), (0, .nameAndType 73 19), (0, u "apply"), (0, .methodref 11 75), (0, .nameAndType 76 77), (0, u "feedback"), (0, u "()I"), (0, .methodref 11 79), (0, .nameAndType 80 6), (0, u "crashPublisher"), (0, .methodref 11 82), (0, .nameAndType 83 6), (0, u "crashSubscriber"), (3, u "law"), (0, u "([I)Z")] 4

def k1m0 : Method := { name := "<init>", desc := "()V", sig := { parameters := [], returnType := none }, accessFlags := 1, code := none }
def k1c1 : Code := { maxStack := 2, maxLocals := 2, code := method_2_code, exceptionTable := #[], attributes := #[] }
def k1m1 : Method := { name := "cell", desc := "([II)I", sig := { parameters := [(.array .int), .int], returnType := some .int }, accessFlags := 10, code := some k1c1 }
def k1c2 : Code := { maxStack := 4, maxLocals := 2, code := method_3_code, exceptionTable := #[], attributes := #[] }
def k1m2 : Method := { name := "kind", desc := "(J)I", sig := { parameters := [.long], returnType := some .int }, accessFlags := 10, code := some k1c2 }
def k1c3 : Code := { maxStack := 4, maxLocals := 2, code := method_4_code, exceptionTable := #[], attributes := #[] }
def k1m3 : Method := { name := "slot", desc := "(J)I", sig := { parameters := [.long], returnType := some .int }, accessFlags := 10, code := some k1c3 }
def k1c4 : Code := { maxStack := 4, maxLocals := 2, code := method_5_code, exceptionTable := #[], attributes := #[] }
def k1m4 : Method := { name := "key", desc := "(J)I", sig := { parameters := [.long], returnType := some .int }, accessFlags := 10, code := some k1c4 }
def k1c5 : Code := { maxStack := 3, maxLocals := 2, code := method_6_code, exceptionTable := #[], attributes := #[] }
def k1m5 : Method := { name := "val", desc := "(J)I", sig := { parameters := [.long], returnType := some .int }, accessFlags := 10, code := some k1c5 }
def k1c6 : Code := { maxStack := 6, maxLocals := 23, code := code, exceptionTable := #[], attributes := #[] }
def k1m6 : Method := { name := "law", desc := "([I)Z", sig := { parameters := [(.array .int)], returnType := some .boolean }, accessFlags := 9, code := some k1c6 }
/-- LogicalReplicatorOwnLaw -/
def k1 : Class := { plain "LogicalReplicatorOwnLaw" (some 0) with
  accessFlags := 49
  interfaces := #[]
  cf := some (fileOf pool1 27 #[] #[{ accessFlags := 1, nameIndex := 5, descriptorIndex := 6, attributes := #[] }, { accessFlags := 10, nameIndex := 49, descriptorIndex := 50, attributes := #[] }, { accessFlags := 10, nameIndex := 30, descriptorIndex := 31, attributes := #[] }, { accessFlags := 10, nameIndex := 34, descriptorIndex := 31, attributes := #[] }, { accessFlags := 10, nameIndex := 37, descriptorIndex := 31, attributes := #[] }, { accessFlags := 10, nameIndex := 40, descriptorIndex := 31, attributes := #[] }, { accessFlags := 9, nameIndex := 87, descriptorIndex := 88, attributes := #[] }] 49 2 #[] #[])
  fields := #[]
  methods := #[k1m0, k1m1, k1m2, k1m3, k1m4, k1m5, k1m6]
  instanceTypes := #[]
  staticTypes := #[]
  resolved := Array.replicate 93 none
  statics := none }

def pool2 : Array CpInfo := pool [(1, .methodref 2 3), (0, .class_ 4), (0, .nameAndType 5 6), (0, u "java/lang/Object"), (0, u "<init>"), (0, u "()V"), (0, .fieldref 8 9), (0, .class_ 10), (0, .nameAndType 11 12), (0, u "LogicalReplicator"), (0, u "recKind"), (0, u "[I"), (0, .fieldref 8 14), (0, .nameAndType 15 12), (0, u "recSlot"), (0, .fieldref 8 17), (0, .nameAndType 18 12), (0, u "recKey"), (0, .fieldref 8 20), (0, .nameAndType 21 12), (0, u "recVal"), (0, .fieldref 8 23), (0, .nameAndType 24 12), (0, u "recBegin"), (0, .fieldref 8 26), (0, .nameAndType 27 28), (0, u "slotOpen"), (0, u "[Z"), (0, .fieldref 8 30), (0, .nameAndType 31 12), (0, u "slotBegin"), (0, .fieldref 8 33), (0, .nameAndType 34 28), (0, u "pubHas"), (0, .fieldref 8 36), (0, .nameAndType 37 12), (0, u "pubVal"), (0, .fieldref 8 39), (0, .nameAndType 40 28), (0, u "subHas"), (0, .fieldref 8 42), (0, .nameAndType 43 12), (0, u "subVal"), (0, .fieldref 8 45), (0, .nameAndType 46 12), (0, u "pendKind"), (0, .fieldref 8 48), (0, .nameAndType 49 12), (0, u "pendVal"), (0, .fieldref 8 51), (0, .nameAndType 52 12), (0, u "qKind"), (0, .fieldref 8 54), (0, .nameAndType 55 12), (0, u "qKey"), (0, .fieldref 8 57), (0, .nameAndType 58 12), (0, u "qVal"), (0, .fieldref 8 60), (0, .nameAndType 61 12), (0, u "qPos"), (0, .methodref 8 63), (0, .nameAndType 64 65), (0, u "clamp"), (0, u "(III)I"), (0, .fieldref 8 67), (0, .nameAndType 68 69), (0, u "nKeys"), (0, u "I"), (0, .fieldref 8 71), (0, .nameAndType 72 69), (0, u "nSlots"), (0, .fieldref 8 74), (0, .nameAndType 75 69), (0, u "logCap"), (0, .fieldref 8 77), (0, .nameAndType 78 69), (0, u "memCap"), (0, .fieldref 8 80), (0, .nameAndType 81 69), (0, u "length"), (0, .fieldref 8 83), (0, .nameAndType 84 69), (0, u "emittedPos"), (0, .fieldref 8 86), (0, .nameAndType 87 69), (0, u "appliedPos"), (0, .fieldref 8 89), (0, .nameAndType 90 69), (0, u "confirmedPos"), (0, .fieldref 8 92), (0, .nameAndType 93 69), (0, u "qHead"), (0, .fieldref 8 95), (0, .nameAndType 96 69), (0, u "qCount"), (0, .methodref 8 98), (0, .nameAndType 99 100), (0, u "validSlot"), (0, u "(I)Z"), (0, .methodref 8 102), (0, .nameAndType 103 104), (0, u "logFull"), (0, u "()Z"), (0, .methodref 8 106), (0, .nameAndType 107 108), (0, u "append"), (0, u "(IIII)I"), (0, .methodref 8 110), (0, .nameAndType 111 108), (0, u "write"), (0, .methodref 8 113), (0, .nameAndType 114 115), (0, u "checkOpenSlot"), (0, u "(I)I"), (0, .methodref 8 117), (0, .nameAndType 118 100), (0, u "validKey"), (0, .methodref 8 120), (0, .nameAndType 121 122), (0, u "applyToPublisher"), (0, u "(III)V"), (0, .methodref 8 124), (0, .nameAndType 125 115), (0, u "nextCommit"), (0, .methodref 8 127), (0, .nameAndType 128 129), (0, u "emitTransaction"), (0, u "(I)V"), (0, .methodref 8 131), (0, .nameAndType 132 133), (0, u "enqueue"), (0, u "(IIII)V"), (0, .methodref 8 135), (0, .nameAndType 136 6), (0, u "handleHead"), (0, .methodref 8 138), (0, .nameAndType 139 6), (0, u "applyPending"), (0, .methodref 8 141), (0, .nameAndType 142 6), (0, u "clearQueue"), (0, .methodref 8 144), (0, .nameAndType 145 6), (0, u "clearPending"), (0, .long 4294967296), (5, .integer 65536), (3, u "()I"), (6, u "OK"), (2, u "ERR_SLOT"), (1, u "ERR_STATE"), (1, u "ERR_KEY"), (1, u "ERR_FULL"), (1, u "REC_BEGIN"), (1, u "REC_PUT"), (1, u "REC_DEL"), (1, u "REC_COMMIT"), (1, u "REC_ABORT"), (1, u "ABSENT"), (0, u "J"), (0, u "DELETED"), (0, u "NO_CHANGE"), (0, u "INFO_LOG_LENGTH"), (0, u "INFO_OPEN"), (0, u "INFO_EMITTED"), (0, u "INFO_QUEUED"), (0, u "INFO_APPLIED"), (0, u "INFO_CONFIRMED"), (0, u "INFO_PUB_ROWS"), (1, u "INFO_SUB_ROWS"), (1, u "PEND_NONE"), (0, u "PEND_PUT"), (0, u "PEND_DEL"), (0, u "LOG_SLOTS"), (1, u "QUEUE_CAP"), (1, u "MAX_KEYS"), (1, u "MAX_SLOTS"), (4, u "begin"), (0, u "put"), (0, u "del"), (0, u "(II)I"), (0, u "commit"), (0, u "abort"), (0, u "stream"), (0, u "apply"), (0, u "feedback"), (0, u "crashPublisher"), (0, u "crashSubscriber"), (0, u "pubRow"), (0, u "(I)J"), (0, u "subRow"), (1, u "logRecord"), (0, u "info")] 2

def k2c0 : Code := { maxStack := 5, maxLocals := 5, code := prog_1_method_1_code, exceptionTable := #[], attributes := #[] }
def k2m0 : Method := { name := "<init>", desc := "(IIII)V", sig := { parameters := [.int, .int, .int, .int], returnType := none }, accessFlags := 1, code := some k2c0 }
def k2c1 : Code := { maxStack := 2, maxLocals := 4, code := prog_1_method_2_code, exceptionTable := #[], attributes := #[] }
def k2m1 : Method := { name := "clamp", desc := "(III)I", sig := { parameters := [.int, .int, .int], returnType := some .int }, accessFlags := 2, code := some k2c1 }
def k2c2 : Code := { maxStack := 2, maxLocals := 2, code := prog_1_method_3_code, exceptionTable := #[], attributes := #[] }
def k2m2 : Method := { name := "validSlot", desc := "(I)Z", sig := { parameters := [.int], returnType := some .boolean }, accessFlags := 2, code := some k2c2 }
def k2c3 : Code := { maxStack := 2, maxLocals := 2, code := prog_1_method_4_code, exceptionTable := #[], attributes := #[] }
def k2m3 : Method := { name := "validKey", desc := "(I)Z", sig := { parameters := [.int], returnType := some .boolean }, accessFlags := 2, code := some k2c3 }
def k2c4 : Code := { maxStack := 2, maxLocals := 1, code := prog_1_method_5_code, exceptionTable := #[], attributes := #[] }
def k2m4 : Method := { name := "logFull", desc := "()Z", sig := { parameters := [], returnType := some .boolean }, accessFlags := 2, code := some k2c4 }
def k2c5 : Code := { maxStack := 2, maxLocals := 2, code := prog_1_method_6_code, exceptionTable := #[], attributes := #[] }
def k2m5 : Method := { name := "checkOpenSlot", desc := "(I)I", sig := { parameters := [.int], returnType := some .int }, accessFlags := 2, code := some k2c5 }
def k2c6 : Code := { maxStack := 3, maxLocals := 5, code := prog_1_method_7_code, exceptionTable := #[], attributes := #[] }
def k2m6 : Method := { name := "append", desc := "(IIII)I", sig := { parameters := [.int, .int, .int, .int], returnType := some .int }, accessFlags := 2, code := some k2c6 }
def k2c7 : Code := { maxStack := 5, maxLocals := 3, code := prog_1_method_8_code, exceptionTable := #[], attributes := #[] }
def k2m7 : Method := { name := "begin", desc := "(I)I", sig := { parameters := [.int], returnType := some .int }, accessFlags := 1, code := some k2c7 }
def k2c8 : Code := { maxStack := 5, maxLocals := 4, code := prog_1_method_9_code, exceptionTable := #[], attributes := #[] }
def k2m8 : Method := { name := "put", desc := "(III)I", sig := { parameters := [.int, .int, .int], returnType := some .int }, accessFlags := 1, code := some k2c8 }
def k2c9 : Code := { maxStack := 5, maxLocals := 3, code := prog_1_method_10_code, exceptionTable := #[], attributes := #[] }
def k2m9 : Method := { name := "del", desc := "(II)I", sig := { parameters := [.int, .int], returnType := some .int }, accessFlags := 1, code := some k2c9 }
def k2c10 : Code := { maxStack := 5, maxLocals := 6, code := prog_1_method_11_code, exceptionTable := #[], attributes := #[] }
def k2m10 : Method := { name := "write", desc := "(IIII)I", sig := { parameters := [.int, .int, .int, .int], returnType := some .int }, accessFlags := 2, code := some k2c10 }
def k2c11 : Code := { maxStack := 5, maxLocals := 5, code := prog_1_method_12_code, exceptionTable := #[], attributes := #[] }
def k2m11 : Method := { name := "commit", desc := "(I)I", sig := { parameters := [.int], returnType := some .int }, accessFlags := 1, code := some k2c11 }
def k2c12 : Code := { maxStack := 4, maxLocals := 7, code := prog_1_method_13_code, exceptionTable := #[], attributes := #[] }
def k2m12 : Method := { name := "applyToPublisher", desc := "(III)V", sig := { parameters := [.int, .int, .int], returnType := none }, accessFlags := 2, code := some k2c12 }
def k2c13 : Code := { maxStack := 5, maxLocals := 4, code := prog_1_method_14_code, exceptionTable := #[], attributes := #[] }
def k2m13 : Method := { name := "abort", desc := "(I)I", sig := { parameters := [.int], returnType := some .int }, accessFlags := 1, code := some k2c13 }
def k2c14 : Code := { maxStack := 2, maxLocals := 5, code := prog_1_method_15_code, exceptionTable := #[], attributes := #[] }
def k2m14 : Method := { name := "stream", desc := "(I)I", sig := { parameters := [.int], returnType := some .int }, accessFlags := 1, code := some k2c14 }
def k2c15 : Code := { maxStack := 2, maxLocals := 4, code := prog_1_method_16_code, exceptionTable := #[], attributes := #[] }
def k2m15 : Method := { name := "nextCommit", desc := "(I)I", sig := { parameters := [.int], returnType := some .int }, accessFlags := 2, code := some k2c15 }
def k2c16 : Code := { maxStack := 5, maxLocals := 6, code := prog_1_method_17_code, exceptionTable := #[], attributes := #[] }
def k2m16 : Method := { name := "emitTransaction", desc := "(I)V", sig := { parameters := [.int], returnType := none }, accessFlags := 2, code := some k2c16 }
def k2c17 : Code := { maxStack := 3, maxLocals := 6, code := prog_1_method_18_code, exceptionTable := #[], attributes := #[] }
def k2m17 : Method := { name := "enqueue", desc := "(IIII)V", sig := { parameters := [.int, .int, .int, .int], returnType := none }, accessFlags := 2, code := some k2c17 }
def k2c18 : Code := { maxStack := 2, maxLocals := 1, code := prog_1_method_19_code, exceptionTable := #[], attributes := #[] }
def k2m18 : Method := { name := "clearQueue", desc := "()V", sig := { parameters := [], returnType := none }, accessFlags := 2, code := some k2c18 }
def k2c19 : Code := { maxStack := 2, maxLocals := 4, code := prog_1_method_20_code, exceptionTable := #[], attributes := #[] }
def k2m19 : Method := { name := "apply", desc := "(I)I", sig := { parameters := [.int], returnType := some .int }, accessFlags := 1, code := some k2c19 }
def k2c20 : Code := { maxStack := 3, maxLocals := 6, code := prog_1_method_21_code, exceptionTable := #[], attributes := #[] }
def k2m20 : Method := { name := "handleHead", desc := "()V", sig := { parameters := [], returnType := none }, accessFlags := 2, code := some k2c20 }
def k2c21 : Code := { maxStack := 4, maxLocals := 2, code := prog_1_method_22_code, exceptionTable := #[], attributes := #[] }
def k2m21 : Method := { name := "applyPending", desc := "()V", sig := { parameters := [], returnType := none }, accessFlags := 2, code := some k2c21 }
def k2c22 : Code := { maxStack := 3, maxLocals := 2, code := prog_1_method_23_code, exceptionTable := #[], attributes := #[] }
def k2m22 : Method := { name := "clearPending", desc := "()V", sig := { parameters := [], returnType := none }, accessFlags := 2, code := some k2c22 }
def k2c23 : Code := { maxStack := 2, maxLocals := 1, code := prog_1_method_24_code, exceptionTable := #[], attributes := #[] }
def k2m23 : Method := { name := "feedback", desc := "()I", sig := { parameters := [], returnType := some .int }, accessFlags := 1, code := some k2c23 }
def k2c24 : Code := { maxStack := 3, maxLocals := 2, code := prog_1_method_25_code, exceptionTable := #[], attributes := #[] }
def k2m24 : Method := { name := "crashPublisher", desc := "()V", sig := { parameters := [], returnType := none }, accessFlags := 1, code := some k2c24 }
def k2c25 : Code := { maxStack := 2, maxLocals := 1, code := prog_1_method_26_code, exceptionTable := #[], attributes := #[] }
def k2m25 : Method := { name := "crashSubscriber", desc := "()V", sig := { parameters := [], returnType := none }, accessFlags := 1, code := some k2c25 }
def k2c26 : Code := { maxStack := 2, maxLocals := 2, code := prog_1_method_27_code, exceptionTable := #[], attributes := #[] }
def k2m26 : Method := { name := "pubRow", desc := "(I)J", sig := { parameters := [.int], returnType := some .long }, accessFlags := 1, code := some k2c26 }
def k2c27 : Code := { maxStack := 2, maxLocals := 2, code := prog_1_method_28_code, exceptionTable := #[], attributes := #[] }
def k2m27 : Method := { name := "subRow", desc := "(I)J", sig := { parameters := [.int], returnType := some .long }, accessFlags := 1, code := some k2c27 }
def k2c28 : Code := { maxStack := 4, maxLocals := 6, code := prog_1_method_30_code, exceptionTable := #[], attributes := #[] }
def k2m28 : Method := { name := "logRecord", desc := "(I)J", sig := { parameters := [.int], returnType := some .long }, accessFlags := 1, code := some k2c28 }
def k2c29 : Code := { maxStack := 1, maxLocals := 2, code := prog_1_method_31_code, exceptionTable := #[], attributes := #[] }
def k2m29 : Method := { name := "info", desc := "(I)I", sig := { parameters := [.int], returnType := some .int }, accessFlags := 1, code := some k2c29 }
/-- LogicalReplicator -/
def k2 : Class := { plain "LogicalReplicator" (some 0) with
  accessFlags := 49
  interfaces := #[]
  cf := some (fileOf pool2 8 #[] #[{ accessFlags := 1, nameIndex := 5, descriptorIndex := 133, attributes := #[] }, { accessFlags := 2, nameIndex := 64, descriptorIndex := 65, attributes := #[] }, { accessFlags := 2, nameIndex := 99, descriptorIndex := 100, attributes := #[] }, { accessFlags := 2, nameIndex := 118, descriptorIndex := 100, attributes := #[] }, { accessFlags := 2, nameIndex := 103, descriptorIndex := 104, attributes := #[] }, { accessFlags := 2, nameIndex := 114, descriptorIndex := 115, attributes := #[] }, { accessFlags := 2, nameIndex := 107, descriptorIndex := 108, attributes := #[] }, { accessFlags := 1, nameIndex := 212, descriptorIndex := 115, attributes := #[] }, { accessFlags := 1, nameIndex := 213, descriptorIndex := 65, attributes := #[] }, { accessFlags := 1, nameIndex := 214, descriptorIndex := 215, attributes := #[] }, { accessFlags := 2, nameIndex := 111, descriptorIndex := 108, attributes := #[] }, { accessFlags := 1, nameIndex := 216, descriptorIndex := 115, attributes := #[] }, { accessFlags := 2, nameIndex := 121, descriptorIndex := 122, attributes := #[] }, { accessFlags := 1, nameIndex := 217, descriptorIndex := 115, attributes := #[] }, { accessFlags := 1, nameIndex := 218, descriptorIndex := 115, attributes := #[] }, { accessFlags := 2, nameIndex := 125, descriptorIndex := 115, attributes := #[] }, { accessFlags := 2, nameIndex := 128, descriptorIndex := 129, attributes := #[] }, { accessFlags := 2, nameIndex := 132, descriptorIndex := 133, attributes := #[] }, { accessFlags := 2, nameIndex := 142, descriptorIndex := 6, attributes := #[] }, { accessFlags := 1, nameIndex := 219, descriptorIndex := 115, attributes := #[] }, { accessFlags := 2, nameIndex := 136, descriptorIndex := 6, attributes := #[] }, { accessFlags := 2, nameIndex := 139, descriptorIndex := 6, attributes := #[] }, { accessFlags := 2, nameIndex := 145, descriptorIndex := 6, attributes := #[] }, { accessFlags := 1, nameIndex := 220, descriptorIndex := 156, attributes := #[] }, { accessFlags := 1, nameIndex := 221, descriptorIndex := 6, attributes := #[] }, { accessFlags := 1, nameIndex := 222, descriptorIndex := 6, attributes := #[] }, { accessFlags := 1, nameIndex := 223, descriptorIndex := 224, attributes := #[] }, { accessFlags := 1, nameIndex := 225, descriptorIndex := 224, attributes := #[] }, { accessFlags := 1, nameIndex := 227, descriptorIndex := 224, attributes := #[] }, { accessFlags := 1, nameIndex := 228, descriptorIndex := 115, attributes := #[] }] 49 2 #[] #[{ accessFlags := 25, nameIndex := 163, descriptorIndex := 69, attributes := #[] }, { accessFlags := 25, nameIndex := 166, descriptorIndex := 69, attributes := #[] }, { accessFlags := 25, nameIndex := 168, descriptorIndex := 69, attributes := #[] }, { accessFlags := 25, nameIndex := 170, descriptorIndex := 69, attributes := #[] }, { accessFlags := 25, nameIndex := 172, descriptorIndex := 69, attributes := #[] }, { accessFlags := 25, nameIndex := 174, descriptorIndex := 69, attributes := #[] }, { accessFlags := 25, nameIndex := 176, descriptorIndex := 69, attributes := #[] }, { accessFlags := 25, nameIndex := 178, descriptorIndex := 69, attributes := #[] }, { accessFlags := 25, nameIndex := 180, descriptorIndex := 69, attributes := #[] }, { accessFlags := 25, nameIndex := 182, descriptorIndex := 69, attributes := #[] }, { accessFlags := 25, nameIndex := 184, descriptorIndex := 185, attributes := #[] }, { accessFlags := 25, nameIndex := 186, descriptorIndex := 185, attributes := #[] }, { accessFlags := 25, nameIndex := 187, descriptorIndex := 185, attributes := #[] }, { accessFlags := 25, nameIndex := 188, descriptorIndex := 69, attributes := #[] }, { accessFlags := 25, nameIndex := 189, descriptorIndex := 69, attributes := #[] }, { accessFlags := 25, nameIndex := 190, descriptorIndex := 69, attributes := #[] }, { accessFlags := 25, nameIndex := 191, descriptorIndex := 69, attributes := #[] }, { accessFlags := 25, nameIndex := 192, descriptorIndex := 69, attributes := #[] }, { accessFlags := 25, nameIndex := 193, descriptorIndex := 69, attributes := #[] }, { accessFlags := 25, nameIndex := 194, descriptorIndex := 69, attributes := #[] }, { accessFlags := 25, nameIndex := 196, descriptorIndex := 69, attributes := #[] }, { accessFlags := 26, nameIndex := 198, descriptorIndex := 69, attributes := #[] }, { accessFlags := 26, nameIndex := 199, descriptorIndex := 69, attributes := #[] }, { accessFlags := 26, nameIndex := 200, descriptorIndex := 69, attributes := #[] }, { accessFlags := 26, nameIndex := 201, descriptorIndex := 69, attributes := #[] }, { accessFlags := 26, nameIndex := 203, descriptorIndex := 69, attributes := #[] }, { accessFlags := 26, nameIndex := 205, descriptorIndex := 69, attributes := #[] }, { accessFlags := 26, nameIndex := 207, descriptorIndex := 69, attributes := #[] }, { accessFlags := 2, nameIndex := 68, descriptorIndex := 69, attributes := #[] }, { accessFlags := 2, nameIndex := 72, descriptorIndex := 69, attributes := #[] }, { accessFlags := 2, nameIndex := 75, descriptorIndex := 69, attributes := #[] }, { accessFlags := 2, nameIndex := 78, descriptorIndex := 69, attributes := #[] }, { accessFlags := 2, nameIndex := 81, descriptorIndex := 69, attributes := #[] }, { accessFlags := 2, nameIndex := 11, descriptorIndex := 12, attributes := #[] }, { accessFlags := 2, nameIndex := 15, descriptorIndex := 12, attributes := #[] }, { accessFlags := 2, nameIndex := 18, descriptorIndex := 12, attributes := #[] }, { accessFlags := 2, nameIndex := 21, descriptorIndex := 12, attributes := #[] }, { accessFlags := 2, nameIndex := 24, descriptorIndex := 12, attributes := #[] }, { accessFlags := 2, nameIndex := 27, descriptorIndex := 28, attributes := #[] }, { accessFlags := 2, nameIndex := 31, descriptorIndex := 12, attributes := #[] }, { accessFlags := 2, nameIndex := 34, descriptorIndex := 28, attributes := #[] }, { accessFlags := 2, nameIndex := 37, descriptorIndex := 12, attributes := #[] }, { accessFlags := 2, nameIndex := 40, descriptorIndex := 28, attributes := #[] }, { accessFlags := 2, nameIndex := 43, descriptorIndex := 12, attributes := #[] }, { accessFlags := 2, nameIndex := 46, descriptorIndex := 12, attributes := #[] }, { accessFlags := 2, nameIndex := 49, descriptorIndex := 12, attributes := #[] }, { accessFlags := 2, nameIndex := 84, descriptorIndex := 69, attributes := #[] }, { accessFlags := 2, nameIndex := 87, descriptorIndex := 69, attributes := #[] }, { accessFlags := 2, nameIndex := 90, descriptorIndex := 69, attributes := #[] }, { accessFlags := 2, nameIndex := 52, descriptorIndex := 12, attributes := #[] }, { accessFlags := 2, nameIndex := 55, descriptorIndex := 12, attributes := #[] }, { accessFlags := 2, nameIndex := 58, descriptorIndex := 12, attributes := #[] }, { accessFlags := 2, nameIndex := 61, descriptorIndex := 12, attributes := #[] }, { accessFlags := 2, nameIndex := 93, descriptorIndex := 69, attributes := #[] }, { accessFlags := 2, nameIndex := 96, descriptorIndex := 69, attributes := #[] }])
  fields := #[{ name := "OK", type := .int, accessFlags := 25, slot := 0, constantValue := 0 }, { name := "ERR_SLOT", type := .int, accessFlags := 25, slot := 1, constantValue := 0 }, { name := "ERR_STATE", type := .int, accessFlags := 25, slot := 2, constantValue := 0 }, { name := "ERR_KEY", type := .int, accessFlags := 25, slot := 3, constantValue := 0 }, { name := "ERR_FULL", type := .int, accessFlags := 25, slot := 4, constantValue := 0 }, { name := "REC_BEGIN", type := .int, accessFlags := 25, slot := 5, constantValue := 0 }, { name := "REC_PUT", type := .int, accessFlags := 25, slot := 6, constantValue := 0 }, { name := "REC_DEL", type := .int, accessFlags := 25, slot := 7, constantValue := 0 }, { name := "REC_COMMIT", type := .int, accessFlags := 25, slot := 8, constantValue := 0 }, { name := "REC_ABORT", type := .int, accessFlags := 25, slot := 9, constantValue := 0 }, { name := "ABSENT", type := .long, accessFlags := 25, slot := 10, constantValue := 0 }, { name := "DELETED", type := .long, accessFlags := 25, slot := 11, constantValue := 0 }, { name := "NO_CHANGE", type := .long, accessFlags := 25, slot := 12, constantValue := 0 }, { name := "INFO_LOG_LENGTH", type := .int, accessFlags := 25, slot := 13, constantValue := 0 }, { name := "INFO_OPEN", type := .int, accessFlags := 25, slot := 14, constantValue := 0 }, { name := "INFO_EMITTED", type := .int, accessFlags := 25, slot := 15, constantValue := 0 }, { name := "INFO_QUEUED", type := .int, accessFlags := 25, slot := 16, constantValue := 0 }, { name := "INFO_APPLIED", type := .int, accessFlags := 25, slot := 17, constantValue := 0 }, { name := "INFO_CONFIRMED", type := .int, accessFlags := 25, slot := 18, constantValue := 0 }, { name := "INFO_PUB_ROWS", type := .int, accessFlags := 25, slot := 19, constantValue := 0 }, { name := "INFO_SUB_ROWS", type := .int, accessFlags := 25, slot := 20, constantValue := 0 }, { name := "PEND_NONE", type := .int, accessFlags := 26, slot := 21, constantValue := 0 }, { name := "PEND_PUT", type := .int, accessFlags := 26, slot := 22, constantValue := 0 }, { name := "PEND_DEL", type := .int, accessFlags := 26, slot := 23, constantValue := 0 }, { name := "LOG_SLOTS", type := .int, accessFlags := 26, slot := 24, constantValue := 0 }, { name := "QUEUE_CAP", type := .int, accessFlags := 26, slot := 25, constantValue := 0 }, { name := "MAX_KEYS", type := .int, accessFlags := 26, slot := 26, constantValue := 0 }, { name := "MAX_SLOTS", type := .int, accessFlags := 26, slot := 27, constantValue := 0 }, { name := "nKeys", type := .int, accessFlags := 2, slot := 0, constantValue := 0 }, { name := "nSlots", type := .int, accessFlags := 2, slot := 1, constantValue := 0 }, { name := "logCap", type := .int, accessFlags := 2, slot := 2, constantValue := 0 }, { name := "memCap", type := .int, accessFlags := 2, slot := 3, constantValue := 0 }, { name := "length", type := .int, accessFlags := 2, slot := 4, constantValue := 0 }, { name := "recKind", type := (.array .int), accessFlags := 2, slot := 5, constantValue := 0 }, { name := "recSlot", type := (.array .int), accessFlags := 2, slot := 6, constantValue := 0 }, { name := "recKey", type := (.array .int), accessFlags := 2, slot := 7, constantValue := 0 }, { name := "recVal", type := (.array .int), accessFlags := 2, slot := 8, constantValue := 0 }, { name := "recBegin", type := (.array .int), accessFlags := 2, slot := 9, constantValue := 0 }, { name := "slotOpen", type := (.array .boolean), accessFlags := 2, slot := 10, constantValue := 0 }, { name := "slotBegin", type := (.array .int), accessFlags := 2, slot := 11, constantValue := 0 }, { name := "pubHas", type := (.array .boolean), accessFlags := 2, slot := 12, constantValue := 0 }, { name := "pubVal", type := (.array .int), accessFlags := 2, slot := 13, constantValue := 0 }, { name := "subHas", type := (.array .boolean), accessFlags := 2, slot := 14, constantValue := 0 }, { name := "subVal", type := (.array .int), accessFlags := 2, slot := 15, constantValue := 0 }, { name := "pendKind", type := (.array .int), accessFlags := 2, slot := 16, constantValue := 0 }, { name := "pendVal", type := (.array .int), accessFlags := 2, slot := 17, constantValue := 0 }, { name := "emittedPos", type := .int, accessFlags := 2, slot := 18, constantValue := 0 }, { name := "appliedPos", type := .int, accessFlags := 2, slot := 19, constantValue := 0 }, { name := "confirmedPos", type := .int, accessFlags := 2, slot := 20, constantValue := 0 }, { name := "qKind", type := (.array .int), accessFlags := 2, slot := 21, constantValue := 0 }, { name := "qKey", type := (.array .int), accessFlags := 2, slot := 22, constantValue := 0 }, { name := "qVal", type := (.array .int), accessFlags := 2, slot := 23, constantValue := 0 }, { name := "qPos", type := (.array .int), accessFlags := 2, slot := 24, constantValue := 0 }, { name := "qHead", type := .int, accessFlags := 2, slot := 25, constantValue := 0 }, { name := "qCount", type := .int, accessFlags := 2, slot := 26, constantValue := 0 }]
  methods := #[k2m0, k2m1, k2m2, k2m3, k2m4, k2m5, k2m6, k2m7, k2m8, k2m9, k2m10, k2m11, k2m12, k2m13, k2m14, k2m15, k2m16, k2m17, k2m18, k2m19, k2m20, k2m21, k2m22, k2m23, k2m24, k2m25, k2m26, k2m27, k2m28, k2m29]
  instanceTypes := #[.int, .int, .int, .int, .int, (.array .int), (.array .int), (.array .int), (.array .int), (.array .int), (.array .boolean), (.array .int), (.array .boolean), (.array .int), (.array .boolean), (.array .int), (.array .int), (.array .int), .int, .int, .int, (.array .int), (.array .int), (.array .int), (.array .int), .int, .int]
  staticTypes := #[.int, .int, .int, .int, .int, .int, .int, .int, .int, .int, .long, .long, .long, .int, .int, .int, .int, .int, .int, .int, .int, .int, .int, .int, .int, .int, .int, .int]
  resolved := Array.replicate 231 none
  statics := none }

def pool3 : Array CpInfo := pool [(1, u "java/lang/Cloneable"), (0, .class_ 1), (0, u "java/lang/Object"), (0, .class_ 3)] 3

/-- java/lang/Cloneable -/
def k3 : Class := { plain "java/lang/Cloneable" (some 0) with
  accessFlags := 1537
  interfaces := #[]
  cf := some (fileOf pool3 2 #[] #[] 1537 4 #[] #[])
  fields := #[]
  methods := #[]
  instanceTypes := #[]
  staticTypes := #[]
  resolved := Array.replicate 8 none
  statics := none }

def pool4 : Array CpInfo := pool [(1, u "java/io/Serializable"), (0, .class_ 1), (0, u "java/lang/Object"), (0, .class_ 3)] 3

/-- java/io/Serializable -/
def k4 : Class := { plain "java/io/Serializable" (some 0) with
  accessFlags := 1537
  interfaces := #[]
  cf := some (fileOf pool4 2 #[] #[] 1537 4 #[] #[])
  fields := #[]
  methods := #[]
  instanceTypes := #[]
  staticTypes := #[]
  resolved := Array.replicate 8 none
  statics := none }

/-- the primitive boolean -/
def k5 : Class := { plain "boolean" none with kind := .primitive 'Z', accessFlags := 0x411 }
/-- [Z -/
def k6 : Class := { plain "[Z" (some 0) with kind := .array 5 .boolean, interfaces := #[3, 4], accessFlags := 1041 }

/-- the primitive byte -/
def k7 : Class := { plain "byte" none with kind := .primitive 'B', accessFlags := 0x411 }
/-- [B -/
def k8 : Class := { plain "[B" (some 0) with kind := .array 7 .byte, interfaces := #[3, 4], accessFlags := 1041 }

/-- the primitive int -/
def k9 : Class := { plain "int" none with kind := .primitive 'I', accessFlags := 0x411 }
/-- [I -/
def k10 : Class := { plain "[I" (some 0) with kind := .array 9 .int, interfaces := #[3, 4], accessFlags := 1041 }

def heap : Heap := #[{ cls := 10, slots := #[.int 0, .int 3, .int 7], vm := .none }]
def classes : Array Class := #[k0, k1, k2, k3, k4, k5, k6, k7, k8, k9, k10]
def interned : List (Array UInt16 × Addr) := []
def slotsUsed : Nat := 3
def theMethod : MethodId := ⟨1, 6⟩
def args0 : Array Value := #[.ref 0]
def aboutOver (below : List Frame) : State where
  vm := { classes := classes, interned := interned.toArray }
  heap := heap
  slotsUsed := slotsUsed
  threads := #[{ frames := .invoking theMethod args0 :: below }]
def below0 : List Frame := [.native { method := ⟨0, 0⟩, args := #[] }]
def about1 : State := aboutOver below0
def p0 : Program := .bare "" "" ""
def e0 : Env := launch0.env 0 0 0
theorem w_frames : about1.frames = Frame.invoking theMethod args0 :: below0 := rfl
set_option maxRecDepth 65536 in
theorem w_args : argsFit about1.vm theMethod args0 = true := by decide +kernel
set_option maxRecDepth 65536 in
theorem w_heap : heapFits about1 = true := by decide +kernel
set_option maxRecDepth 65536 in
theorem w_runnable : about1.curStatus? = some .runnable := by decide +kernel
set_option maxRecDepth 65536 in
theorem w_alone : about1.alone = true := by decide +kernel
set_option maxRecDepth 65536 in
theorem w_named : about1.methodNamed? x = some theMethod := by decide +kernel
set_option maxRecDepth 65536 in
theorem w_hears : about1.hears theMethod below0 = true := by decide +kernel
set_option maxRecDepth 65536 in
theorem w_ripe : about1.ripe theMethod args0 below0 = true := by decide +kernel
theorem w_running : about1.status = .running := rfl
set_option maxRecDepth 65536 in
theorem w_room : about1.hasRoom e0.platform room_1 = true :=
  launch0.hasRoom_least _ room_1 (by decide +kernel) (by decide +kernel) (by decide +kernel) (by decide +kernel) (by decide +kernel) (by decide +kernel)
theorem allAtoms_all (ts : List Jvm.Cond) (a : Array Jvm.Value) (st : Jvm.State) : (allAtoms ts).before a st = ts.all (fun c => c.before a st) := by
  induction ts with
  | nil => rfl
  | cons c t ih =>
    show (Jvm.Cond.and c (allAtoms t)).before a st = _
    rw [Jvm.Cond.before_and, ih, List.all_cons]
def words1 : List Jvm.Cond := Jvm.Cond.code x code maxLocals ret :: tables_1
/-- a 'code' word, met by the world's own term for the bytes: nothing is compared byte by byte -/
theorem code_word {y : MethodName} {bytes : ByteArray} {mx : Nat} {rt : Option FieldType} {a : Array Value} {s : State} {m : MethodId} {meth : Method} {c : Code} (h1 : s.methodNamed? y = some m) (h2 : s.vm.method? m = some meth) (h3 : meth.code = some c) (h4 : c.code = bytes)
    (h5 : (c.maxLocals == mx && c.exceptionTable.isEmpty && decide (c.maxStack ≤ mostOperands) && decide (meth.sig.returnType = rt) && !meth.locks && decide (parseMethodDescriptor y.desc = some meth.sig)) = true) : (Jvm.Cond.code y bytes mx rt).before a s = true := by
  simp only [Bool.and_eq_true, beq_iff_eq, Bool.not_eq_true', decide_eq_true_eq] at h5
  obtain ⟨⟨⟨⟨⟨g1, g2⟩, g3⟩, g4⟩, g5⟩, g6⟩ := h5
  simp [Cond.before, Cond.holds, Cond.value, h1, h2, h3, h4, g1, g2, g3, g4, g5, g6]
def isCode : Jvm.Cond → Bool
  | .code _ _ _ _ => true
  | _ => false
theorem all_split {L : List Jvm.Cond} {P : Jvm.Cond → Bool} (h1 : L.all (fun c => isCode c || P c) = true) (h2 : ∀ c ∈ L.filter isCode, P c = true) : L.all P = true := by
  refine List.all_eq_true.mpr fun c hc => ?_
  have h := List.all_eq_true.mp h1 c hc
  rcases Bool.eq_false_or_eq_true (isCode c) with hi | hi
  · exact h2 c (List.mem_filter.mpr ⟨hc, hi⟩)
  · simpa [hi] using h
set_option maxRecDepth 65536 in
theorem w_c0 : (Jvm.Cond.code x code maxLocals ret).before args0 about1 = true := code_word (m := ⟨1, 6⟩) (meth := k1m6) (c := k1c6) (by decide +kernel) rfl rfl rfl (by decide +kernel)
set_option maxRecDepth 65536 in
theorem w_c1 : (Jvm.Cond.code ({ cls := "LogicalReplicator", name := "<init>", desc := "(IIII)V" } : Jvm.MethodName) prog_1_method_1_code (5 : Nat) (Option.none : Option Jvm.ClassFile.FieldType)).before args0 about1 = true := code_word (m := ⟨2, 0⟩) (meth := k2m0) (c := k2c0) (by decide +kernel) rfl rfl rfl (by decide +kernel)
set_option maxRecDepth 65536 in
theorem w_c2 : (Jvm.Cond.code ({ cls := "java/lang/Object", name := "<init>", desc := "()V" } : Jvm.MethodName) object_method_1_code (1 : Nat) (Option.none : Option Jvm.ClassFile.FieldType)).before args0 about1 = true := code_word (m := ⟨0, 0⟩) (meth := k0m0) (c := k0c0) (by decide +kernel) rfl rfl rfl (by decide +kernel)
set_option maxRecDepth 65536 in
theorem w_c3 : (Jvm.Cond.code ({ cls := "LogicalReplicator", name := "clamp", desc := "(III)I" } : Jvm.MethodName) prog_1_method_2_code (4 : Nat) (Option.some Jvm.ClassFile.FieldType.int)).before args0 about1 = true := code_word (m := ⟨2, 1⟩) (meth := k2m1) (c := k2c1) (by decide +kernel) rfl rfl rfl (by decide +kernel)
set_option maxRecDepth 65536 in
theorem w_c4 : (Jvm.Cond.code ({ cls := "LogicalReplicator", name := "info", desc := "(I)I" } : Jvm.MethodName) prog_1_method_31_code (2 : Nat) (Option.some Jvm.ClassFile.FieldType.int)).before args0 about1 = true := code_word (m := ⟨2, 29⟩) (meth := k2m29) (c := k2c29) (by decide +kernel) rfl rfl rfl (by decide +kernel)
set_option maxRecDepth 65536 in
theorem w_c5 : (Jvm.Cond.code ({ cls := "LogicalReplicator", name := "pubRow", desc := "(I)J" } : Jvm.MethodName) prog_1_method_27_code (2 : Nat) (Option.some Jvm.ClassFile.FieldType.long)).before args0 about1 = true := code_word (m := ⟨2, 26⟩) (meth := k2m26) (c := k2c26) (by decide +kernel) rfl rfl rfl (by decide +kernel)
set_option maxRecDepth 65536 in
theorem w_c6 : (Jvm.Cond.code ({ cls := "LogicalReplicator", name := "validKey", desc := "(I)Z" } : Jvm.MethodName) prog_1_method_4_code (2 : Nat) (Option.some Jvm.ClassFile.FieldType.boolean)).before args0 about1 = true := code_word (m := ⟨2, 3⟩) (meth := k2m3) (c := k2c3) (by decide +kernel) rfl rfl rfl (by decide +kernel)
set_option maxRecDepth 65536 in
theorem w_c7 : (Jvm.Cond.code ({ cls := "LogicalReplicator", name := "subRow", desc := "(I)J" } : Jvm.MethodName) prog_1_method_28_code (2 : Nat) (Option.some Jvm.ClassFile.FieldType.long)).before args0 about1 = true := code_word (m := ⟨2, 27⟩) (meth := k2m27) (c := k2c27) (by decide +kernel) rfl rfl rfl (by decide +kernel)
set_option maxRecDepth 65536 in
theorem w_c8 : (Jvm.Cond.code ({ cls := "LogicalReplicatorOwnLaw", name := "cell", desc := "([II)I" } : Jvm.MethodName) method_2_code (2 : Nat) (Option.some Jvm.ClassFile.FieldType.int)).before args0 about1 = true := code_word (m := ⟨1, 1⟩) (meth := k1m1) (c := k1c1) (by decide +kernel) rfl rfl rfl (by decide +kernel)
set_option maxRecDepth 65536 in
theorem w_c9 : (Jvm.Cond.code ({ cls := "LogicalReplicator", name := "put", desc := "(III)I" } : Jvm.MethodName) prog_1_method_9_code (4 : Nat) (Option.some Jvm.ClassFile.FieldType.int)).before args0 about1 = true := code_word (m := ⟨2, 8⟩) (meth := k2m8) (c := k2c8) (by decide +kernel) rfl rfl rfl (by decide +kernel)
set_option maxRecDepth 65536 in
theorem w_c10 : (Jvm.Cond.code ({ cls := "LogicalReplicator", name := "write", desc := "(IIII)I" } : Jvm.MethodName) prog_1_method_11_code (6 : Nat) (Option.some Jvm.ClassFile.FieldType.int)).before args0 about1 = true := code_word (m := ⟨2, 10⟩) (meth := k2m10) (c := k2c10) (by decide +kernel) rfl rfl rfl (by decide +kernel)
set_option maxRecDepth 65536 in
theorem w_c11 : (Jvm.Cond.code ({ cls := "LogicalReplicator", name := "checkOpenSlot", desc := "(I)I" } : Jvm.MethodName) prog_1_method_6_code (2 : Nat) (Option.some Jvm.ClassFile.FieldType.int)).before args0 about1 = true := code_word (m := ⟨2, 5⟩) (meth := k2m5) (c := k2c5) (by decide +kernel) rfl rfl rfl (by decide +kernel)
set_option maxRecDepth 65536 in
theorem w_c12 : (Jvm.Cond.code ({ cls := "LogicalReplicator", name := "validSlot", desc := "(I)Z" } : Jvm.MethodName) prog_1_method_3_code (2 : Nat) (Option.some Jvm.ClassFile.FieldType.boolean)).before args0 about1 = true := code_word (m := ⟨2, 2⟩) (meth := k2m2) (c := k2c2) (by decide +kernel) rfl rfl rfl (by decide +kernel)
set_option maxRecDepth 65536 in
theorem w_c13 : (Jvm.Cond.code ({ cls := "LogicalReplicator", name := "begin", desc := "(I)I" } : Jvm.MethodName) prog_1_method_8_code (3 : Nat) (Option.some Jvm.ClassFile.FieldType.int)).before args0 about1 = true := code_word (m := ⟨2, 7⟩) (meth := k2m7) (c := k2c7) (by decide +kernel) rfl rfl rfl (by decide +kernel)
set_option maxRecDepth 65536 in
theorem w_c14 : (Jvm.Cond.code ({ cls := "LogicalReplicator", name := "logFull", desc := "()Z" } : Jvm.MethodName) prog_1_method_5_code (1 : Nat) (Option.some Jvm.ClassFile.FieldType.boolean)).before args0 about1 = true := code_word (m := ⟨2, 4⟩) (meth := k2m4) (c := k2c4) (by decide +kernel) rfl rfl rfl (by decide +kernel)
set_option maxRecDepth 65536 in
theorem w_c15 : (Jvm.Cond.code ({ cls := "LogicalReplicator", name := "append", desc := "(IIII)I" } : Jvm.MethodName) prog_1_method_7_code (5 : Nat) (Option.some Jvm.ClassFile.FieldType.int)).before args0 about1 = true := code_word (m := ⟨2, 6⟩) (meth := k2m6) (c := k2c6) (by decide +kernel) rfl rfl rfl (by decide +kernel)
set_option maxRecDepth 65536 in
theorem w_c16 : (Jvm.Cond.code ({ cls := "LogicalReplicator", name := "logRecord", desc := "(I)J" } : Jvm.MethodName) prog_1_method_30_code (6 : Nat) (Option.some Jvm.ClassFile.FieldType.long)).before args0 about1 = true := code_word (m := ⟨2, 28⟩) (meth := k2m28) (c := k2c28) (by decide +kernel) rfl rfl rfl (by decide +kernel)
set_option maxRecDepth 65536 in
theorem w_c17 : (Jvm.Cond.code ({ cls := "LogicalReplicatorOwnLaw", name := "kind", desc := "(J)I" } : Jvm.MethodName) method_3_code (2 : Nat) (Option.some Jvm.ClassFile.FieldType.int)).before args0 about1 = true := code_word (m := ⟨1, 2⟩) (meth := k1m2) (c := k1c2) (by decide +kernel) rfl rfl rfl (by decide +kernel)
set_option maxRecDepth 65536 in
theorem w_c18 : (Jvm.Cond.code ({ cls := "LogicalReplicator", name := "abort", desc := "(I)I" } : Jvm.MethodName) prog_1_method_14_code (4 : Nat) (Option.some Jvm.ClassFile.FieldType.int)).before args0 about1 = true := code_word (m := ⟨2, 13⟩) (meth := k2m13) (c := k2c13) (by decide +kernel) rfl rfl rfl (by decide +kernel)
set_option maxRecDepth 65536 in
theorem w_c19 : (Jvm.Cond.code ({ cls := "LogicalReplicator", name := "apply", desc := "(I)I" } : Jvm.MethodName) prog_1_method_20_code (4 : Nat) (Option.some Jvm.ClassFile.FieldType.int)).before args0 about1 = true := code_word (m := ⟨2, 19⟩) (meth := k2m19) (c := k2c19) (by decide +kernel) rfl rfl rfl (by decide +kernel)
set_option maxRecDepth 65536 in
theorem w_c20 : (Jvm.Cond.code ({ cls := "LogicalReplicator", name := "commit", desc := "(I)I" } : Jvm.MethodName) prog_1_method_12_code (5 : Nat) (Option.some Jvm.ClassFile.FieldType.int)).before args0 about1 = true := code_word (m := ⟨2, 11⟩) (meth := k2m11) (c := k2c11) (by decide +kernel) rfl rfl rfl (by decide +kernel)
set_option maxRecDepth 65536 in
theorem w_c21 : (Jvm.Cond.code ({ cls := "LogicalReplicator", name := "crashPublisher", desc := "()V" } : Jvm.MethodName) prog_1_method_25_code (2 : Nat) (Option.none : Option Jvm.ClassFile.FieldType)).before args0 about1 = true := code_word (m := ⟨2, 24⟩) (meth := k2m24) (c := k2c24) (by decide +kernel) rfl rfl rfl (by decide +kernel)
set_option maxRecDepth 65536 in
theorem w_c22 : (Jvm.Cond.code ({ cls := "LogicalReplicator", name := "clearQueue", desc := "()V" } : Jvm.MethodName) prog_1_method_19_code (1 : Nat) (Option.none : Option Jvm.ClassFile.FieldType)).before args0 about1 = true := code_word (m := ⟨2, 18⟩) (meth := k2m18) (c := k2c18) (by decide +kernel) rfl rfl rfl (by decide +kernel)
set_option maxRecDepth 65536 in
theorem w_c23 : (Jvm.Cond.code ({ cls := "LogicalReplicator", name := "clearPending", desc := "()V" } : Jvm.MethodName) prog_1_method_23_code (2 : Nat) (Option.none : Option Jvm.ClassFile.FieldType)).before args0 about1 = true := code_word (m := ⟨2, 22⟩) (meth := k2m22) (c := k2c22) (by decide +kernel) rfl rfl rfl (by decide +kernel)
set_option maxRecDepth 65536 in
theorem w_c24 : (Jvm.Cond.code ({ cls := "LogicalReplicator", name := "stream", desc := "(I)I" } : Jvm.MethodName) prog_1_method_15_code (5 : Nat) (Option.some Jvm.ClassFile.FieldType.int)).before args0 about1 = true := code_word (m := ⟨2, 14⟩) (meth := k2m14) (c := k2c14) (by decide +kernel) rfl rfl rfl (by decide +kernel)
set_option maxRecDepth 65536 in
theorem w_c25 : (Jvm.Cond.code ({ cls := "LogicalReplicator", name := "nextCommit", desc := "(I)I" } : Jvm.MethodName) prog_1_method_16_code (4 : Nat) (Option.some Jvm.ClassFile.FieldType.int)).before args0 about1 = true := code_word (m := ⟨2, 15⟩) (meth := k2m15) (c := k2c15) (by decide +kernel) rfl rfl rfl (by decide +kernel)
set_option maxRecDepth 65536 in
theorem w_c26 : (Jvm.Cond.code ({ cls := "LogicalReplicator", name := "feedback", desc := "()I" } : Jvm.MethodName) prog_1_method_24_code (1 : Nat) (Option.some Jvm.ClassFile.FieldType.int)).before args0 about1 = true := code_word (m := ⟨2, 23⟩) (meth := k2m23) (c := k2c23) (by decide +kernel) rfl rfl rfl (by decide +kernel)
set_option maxRecDepth 65536 in
theorem w_c27 : (Jvm.Cond.code ({ cls := "LogicalReplicator", name := "del", desc := "(II)I" } : Jvm.MethodName) prog_1_method_10_code (3 : Nat) (Option.some Jvm.ClassFile.FieldType.int)).before args0 about1 = true := code_word (m := ⟨2, 9⟩) (meth := k2m9) (c := k2c9) (by decide +kernel) rfl rfl rfl (by decide +kernel)
set_option maxRecDepth 65536 in
theorem w_c28 : (Jvm.Cond.code ({ cls := "LogicalReplicator", name := "applyToPublisher", desc := "(III)V" } : Jvm.MethodName) prog_1_method_13_code (7 : Nat) (Option.none : Option Jvm.ClassFile.FieldType)).before args0 about1 = true := code_word (m := ⟨2, 12⟩) (meth := k2m12) (c := k2c12) (by decide +kernel) rfl rfl rfl (by decide +kernel)
set_option maxRecDepth 65536 in
theorem w_c29 : (Jvm.Cond.code ({ cls := "LogicalReplicatorOwnLaw", name := "slot", desc := "(J)I" } : Jvm.MethodName) method_4_code (2 : Nat) (Option.some Jvm.ClassFile.FieldType.int)).before args0 about1 = true := code_word (m := ⟨1, 3⟩) (meth := k1m3) (c := k1c3) (by decide +kernel) rfl rfl rfl (by decide +kernel)
set_option maxRecDepth 65536 in
theorem w_c30 : (Jvm.Cond.code ({ cls := "LogicalReplicatorOwnLaw", name := "key", desc := "(J)I" } : Jvm.MethodName) method_5_code (2 : Nat) (Option.some Jvm.ClassFile.FieldType.int)).before args0 about1 = true := code_word (m := ⟨1, 4⟩) (meth := k1m4) (c := k1c4) (by decide +kernel) rfl rfl rfl (by decide +kernel)
set_option maxRecDepth 65536 in
theorem w_c31 : (Jvm.Cond.code ({ cls := "LogicalReplicatorOwnLaw", name := "val", desc := "(J)I" } : Jvm.MethodName) method_6_code (2 : Nat) (Option.some Jvm.ClassFile.FieldType.int)).before args0 about1 = true := code_word (m := ⟨1, 5⟩) (meth := k1m5) (c := k1c5) (by decide +kernel) rfl rfl rfl (by decide +kernel)
set_option maxRecDepth 65536 in
theorem w_c32 : (Jvm.Cond.code ({ cls := "LogicalReplicator", name := "emitTransaction", desc := "(I)V" } : Jvm.MethodName) prog_1_method_17_code (6 : Nat) (Option.none : Option Jvm.ClassFile.FieldType)).before args0 about1 = true := code_word (m := ⟨2, 16⟩) (meth := k2m16) (c := k2c16) (by decide +kernel) rfl rfl rfl (by decide +kernel)
set_option maxRecDepth 65536 in
theorem w_c33 : (Jvm.Cond.code ({ cls := "LogicalReplicator", name := "enqueue", desc := "(IIII)V" } : Jvm.MethodName) prog_1_method_18_code (6 : Nat) (Option.none : Option Jvm.ClassFile.FieldType)).before args0 about1 = true := code_word (m := ⟨2, 17⟩) (meth := k2m17) (c := k2c17) (by decide +kernel) rfl rfl rfl (by decide +kernel)
set_option maxRecDepth 65536 in
theorem w_c34 : (Jvm.Cond.code ({ cls := "LogicalReplicator", name := "crashSubscriber", desc := "()V" } : Jvm.MethodName) prog_1_method_26_code (1 : Nat) (Option.none : Option Jvm.ClassFile.FieldType)).before args0 about1 = true := code_word (m := ⟨2, 25⟩) (meth := k2m25) (c := k2c25) (by decide +kernel) rfl rfl rfl (by decide +kernel)
set_option maxRecDepth 65536 in
theorem w_c35 : (Jvm.Cond.code ({ cls := "LogicalReplicator", name := "handleHead", desc := "()V" } : Jvm.MethodName) prog_1_method_21_code (6 : Nat) (Option.none : Option Jvm.ClassFile.FieldType)).before args0 about1 = true := code_word (m := ⟨2, 20⟩) (meth := k2m20) (c := k2c20) (by decide +kernel) rfl rfl rfl (by decide +kernel)
set_option maxRecDepth 65536 in
theorem w_c36 : (Jvm.Cond.code ({ cls := "LogicalReplicator", name := "applyPending", desc := "()V" } : Jvm.MethodName) prog_1_method_22_code (2 : Nat) (Option.none : Option Jvm.ClassFile.FieldType)).before args0 about1 = true := code_word (m := ⟨2, 21⟩) (meth := k2m21) (c := k2c21) (by decide +kernel) rfl rfl rfl (by decide +kernel)
def codes1 : List Jvm.Cond := [Jvm.Cond.code x code maxLocals ret, Jvm.Cond.code ({ cls := "LogicalReplicator", name := "<init>", desc := "(IIII)V" } : Jvm.MethodName) prog_1_method_1_code (5 : Nat) (Option.none : Option Jvm.ClassFile.FieldType), Jvm.Cond.code ({ cls := "java/lang/Object", name := "<init>", desc := "()V" } : Jvm.MethodName) object_method_1_code (1 : Nat) (Option.none : Option Jvm.ClassFile.FieldType), Jvm.Cond.code ({ cls := "LogicalReplicator", name := "clamp", desc := "(III)I" } : Jvm.MethodName) prog_1_method_2_code (4 : Nat) (Option.some Jvm.ClassFile.FieldType.int), Jvm.Cond.code ({ cls := "LogicalReplicator", name := "info", desc := "(I)I" } : Jvm.MethodName) prog_1_method_31_code (2 : Nat) (Option.some Jvm.ClassFile.FieldType.int), Jvm.Cond.code ({ cls := "LogicalReplicator", name := "pubRow", desc := "(I)J" } : Jvm.MethodName) prog_1_method_27_code (2 : Nat) (Option.some Jvm.ClassFile.FieldType.long), Jvm.Cond.code ({ cls := "LogicalReplicator", name := "validKey", desc := "(I)Z" } : Jvm.MethodName) prog_1_method_4_code (2 : Nat) (Option.some Jvm.ClassFile.FieldType.boolean), Jvm.Cond.code ({ cls := "LogicalReplicator", name := "subRow", desc := "(I)J" } : Jvm.MethodName) prog_1_method_28_code (2 : Nat) (Option.some Jvm.ClassFile.FieldType.long), Jvm.Cond.code ({ cls := "LogicalReplicatorOwnLaw", name := "cell", desc := "([II)I" } : Jvm.MethodName) method_2_code (2 : Nat) (Option.some Jvm.ClassFile.FieldType.int), Jvm.Cond.code ({ cls := "LogicalReplicator", name := "put", desc := "(III)I" } : Jvm.MethodName) prog_1_method_9_code (4 : Nat) (Option.some Jvm.ClassFile.FieldType.int), Jvm.Cond.code ({ cls := "LogicalReplicator", name := "write", desc := "(IIII)I" } : Jvm.MethodName) prog_1_method_11_code (6 : Nat) (Option.some Jvm.ClassFile.FieldType.int), Jvm.Cond.code ({ cls := "LogicalReplicator", name := "checkOpenSlot", desc := "(I)I" } : Jvm.MethodName) prog_1_method_6_code (2 : Nat) (Option.some Jvm.ClassFile.FieldType.int), Jvm.Cond.code ({ cls := "LogicalReplicator", name := "validSlot", desc := "(I)Z" } : Jvm.MethodName) prog_1_method_3_code (2 : Nat) (Option.some Jvm.ClassFile.FieldType.boolean), Jvm.Cond.code ({ cls := "LogicalReplicator", name := "begin", desc := "(I)I" } : Jvm.MethodName) prog_1_method_8_code (3 : Nat) (Option.some Jvm.ClassFile.FieldType.int), Jvm.Cond.code ({ cls := "LogicalReplicator", name := "logFull", desc := "()Z" } : Jvm.MethodName) prog_1_method_5_code (1 : Nat) (Option.some Jvm.ClassFile.FieldType.boolean), Jvm.Cond.code ({ cls := "LogicalReplicator", name := "append", desc := "(IIII)I" } : Jvm.MethodName) prog_1_method_7_code (5 : Nat) (Option.some Jvm.ClassFile.FieldType.int), Jvm.Cond.code ({ cls := "LogicalReplicator", name := "logRecord", desc := "(I)J" } : Jvm.MethodName) prog_1_method_30_code (6 : Nat) (Option.some Jvm.ClassFile.FieldType.long), Jvm.Cond.code ({ cls := "LogicalReplicatorOwnLaw", name := "kind", desc := "(J)I" } : Jvm.MethodName) method_3_code (2 : Nat) (Option.some Jvm.ClassFile.FieldType.int), Jvm.Cond.code ({ cls := "LogicalReplicator", name := "abort", desc := "(I)I" } : Jvm.MethodName) prog_1_method_14_code (4 : Nat) (Option.some Jvm.ClassFile.FieldType.int), Jvm.Cond.code ({ cls := "LogicalReplicator", name := "apply", desc := "(I)I" } : Jvm.MethodName) prog_1_method_20_code (4 : Nat) (Option.some Jvm.ClassFile.FieldType.int), Jvm.Cond.code ({ cls := "LogicalReplicator", name := "commit", desc := "(I)I" } : Jvm.MethodName) prog_1_method_12_code (5 : Nat) (Option.some Jvm.ClassFile.FieldType.int), Jvm.Cond.code ({ cls := "LogicalReplicator", name := "crashPublisher", desc := "()V" } : Jvm.MethodName) prog_1_method_25_code (2 : Nat) (Option.none : Option Jvm.ClassFile.FieldType), Jvm.Cond.code ({ cls := "LogicalReplicator", name := "clearQueue", desc := "()V" } : Jvm.MethodName) prog_1_method_19_code (1 : Nat) (Option.none : Option Jvm.ClassFile.FieldType), Jvm.Cond.code ({ cls := "LogicalReplicator", name := "clearPending", desc := "()V" } : Jvm.MethodName) prog_1_method_23_code (2 : Nat) (Option.none : Option Jvm.ClassFile.FieldType), Jvm.Cond.code ({ cls := "LogicalReplicator", name := "stream", desc := "(I)I" } : Jvm.MethodName) prog_1_method_15_code (5 : Nat) (Option.some Jvm.ClassFile.FieldType.int), Jvm.Cond.code ({ cls := "LogicalReplicator", name := "nextCommit", desc := "(I)I" } : Jvm.MethodName) prog_1_method_16_code (4 : Nat) (Option.some Jvm.ClassFile.FieldType.int), Jvm.Cond.code ({ cls := "LogicalReplicator", name := "feedback", desc := "()I" } : Jvm.MethodName) prog_1_method_24_code (1 : Nat) (Option.some Jvm.ClassFile.FieldType.int), Jvm.Cond.code ({ cls := "LogicalReplicator", name := "del", desc := "(II)I" } : Jvm.MethodName) prog_1_method_10_code (3 : Nat) (Option.some Jvm.ClassFile.FieldType.int), Jvm.Cond.code ({ cls := "LogicalReplicator", name := "applyToPublisher", desc := "(III)V" } : Jvm.MethodName) prog_1_method_13_code (7 : Nat) (Option.none : Option Jvm.ClassFile.FieldType), Jvm.Cond.code ({ cls := "LogicalReplicatorOwnLaw", name := "slot", desc := "(J)I" } : Jvm.MethodName) method_4_code (2 : Nat) (Option.some Jvm.ClassFile.FieldType.int), Jvm.Cond.code ({ cls := "LogicalReplicatorOwnLaw", name := "key", desc := "(J)I" } : Jvm.MethodName) method_5_code (2 : Nat) (Option.some Jvm.ClassFile.FieldType.int), Jvm.Cond.code ({ cls := "LogicalReplicatorOwnLaw", name := "val", desc := "(J)I" } : Jvm.MethodName) method_6_code (2 : Nat) (Option.some Jvm.ClassFile.FieldType.int), Jvm.Cond.code ({ cls := "LogicalReplicator", name := "emitTransaction", desc := "(I)V" } : Jvm.MethodName) prog_1_method_17_code (6 : Nat) (Option.none : Option Jvm.ClassFile.FieldType), Jvm.Cond.code ({ cls := "LogicalReplicator", name := "enqueue", desc := "(IIII)V" } : Jvm.MethodName) prog_1_method_18_code (6 : Nat) (Option.none : Option Jvm.ClassFile.FieldType), Jvm.Cond.code ({ cls := "LogicalReplicator", name := "crashSubscriber", desc := "()V" } : Jvm.MethodName) prog_1_method_26_code (1 : Nat) (Option.none : Option Jvm.ClassFile.FieldType), Jvm.Cond.code ({ cls := "LogicalReplicator", name := "handleHead", desc := "()V" } : Jvm.MethodName) prog_1_method_21_code (6 : Nat) (Option.none : Option Jvm.ClassFile.FieldType), Jvm.Cond.code ({ cls := "LogicalReplicator", name := "applyPending", desc := "()V" } : Jvm.MethodName) prog_1_method_22_code (2 : Nat) (Option.none : Option Jvm.ClassFile.FieldType)]
set_option maxRecDepth 65536 in
theorem codes_eq : words1.filter isCode = codes1 := rfl
theorem w_codes : ∀ c ∈ words1.filter isCode, c.before args0 about1 = true := by
  rw [codes_eq]
  intro c hc
  simp only [codes1, List.mem_cons, List.not_mem_nil, or_false] at hc
  rcases hc with rfl | rfl | rfl | rfl | rfl | rfl | rfl | rfl | rfl | rfl | rfl | rfl | rfl | rfl | rfl | rfl | rfl | rfl | rfl | rfl | rfl | rfl | rfl | rfl | rfl | rfl | rfl | rfl | rfl | rfl | rfl | rfl | rfl | rfl | rfl | rfl | rfl
  · exact w_c0
  · exact w_c1
  · exact w_c2
  · exact w_c3
  · exact w_c4
  · exact w_c5
  · exact w_c6
  · exact w_c7
  · exact w_c8
  · exact w_c9
  · exact w_c10
  · exact w_c11
  · exact w_c12
  · exact w_c13
  · exact w_c14
  · exact w_c15
  · exact w_c16
  · exact w_c17
  · exact w_c18
  · exact w_c19
  · exact w_c20
  · exact w_c21
  · exact w_c22
  · exact w_c23
  · exact w_c24
  · exact w_c25
  · exact w_c26
  · exact w_c27
  · exact w_c28
  · exact w_c29
  · exact w_c30
  · exact w_c31
  · exact w_c32
  · exact w_c33
  · exact w_c34
  · exact w_c35
  · exact w_c36
set_option maxRecDepth 65536 in
theorem w_t1 : (words1.take 24).all (fun c => isCode c || c.before args0 about1) = true := by decide +kernel
set_option maxRecDepth 65536 in
theorem w_t2 : ((words1.drop 24).take 24).all (fun c => isCode c || c.before args0 about1) = true := by decide +kernel
set_option maxRecDepth 65536 in
theorem w_t3 : (((words1.drop 24).drop 24).take 24).all (fun c => isCode c || c.before args0 about1) = true := by decide +kernel
set_option maxRecDepth 65536 in
theorem w_t4 : ((((words1.drop 24).drop 24).drop 24).take 24).all (fun c => isCode c || c.before args0 about1) = true := by decide +kernel
set_option maxRecDepth 65536 in
theorem w_t5 : (((((words1.drop 24).drop 24).drop 24).drop 24).take 24).all (fun c => isCode c || c.before args0 about1) = true := by decide +kernel
set_option maxRecDepth 65536 in
theorem w_t6 : ((((((words1.drop 24).drop 24).drop 24).drop 24).drop 24).take 24).all (fun c => isCode c || c.before args0 about1) = true := by decide +kernel
set_option maxRecDepth 65536 in
theorem w_t7 : (((((((words1.drop 24).drop 24).drop 24).drop 24).drop 24).drop 24).take 24).all (fun c => isCode c || c.before args0 about1) = true := by decide +kernel
set_option maxRecDepth 65536 in
theorem w_t8 : ((((((((words1.drop 24).drop 24).drop 24).drop 24).drop 24).drop 24).drop 24).take 24).all (fun c => isCode c || c.before args0 about1) = true := by decide +kernel
set_option maxRecDepth 65536 in
theorem w_t9 : (((((((((words1.drop 24).drop 24).drop 24).drop 24).drop 24).drop 24).drop 24).drop 24).take 24).all (fun c => isCode c || c.before args0 about1) = true := by decide +kernel
set_option maxRecDepth 65536 in
theorem w_t10 : (((((((((words1.drop 24).drop 24).drop 24).drop 24).drop 24).drop 24).drop 24).drop 24).drop 24).all (fun c => isCode c || c.before args0 about1) = true := by decide +kernel
theorem w_tables : (allAtoms (Jvm.Cond.code x code maxLocals ret :: tables_1)).before args0 about1 = true := by
  rw [allAtoms_all]
  show words1.all (fun c => c.before args0 about1) = true
  refine all_split ?_ w_codes
  rw [← List.take_append_drop 24 words1, List.all_append, w_t1, ← List.take_append_drop 24 (words1.drop 24), List.all_append, w_t2, ← List.take_append_drop 24 ((words1.drop 24).drop 24), List.all_append, w_t3, ← List.take_append_drop 24 (((words1.drop 24).drop 24).drop 24), List.all_append, w_t4, ← List.take_append_drop 24 ((((words1.drop 24).drop 24).drop 24).drop 24), List.all_append, w_t5, ← List.take_append_drop 24 (((((words1.drop 24).drop 24).drop 24).drop 24).drop 24), List.all_append, w_t6, ← List.take_append_drop 24 ((((((words1.drop 24).drop 24).drop 24).drop 24).drop 24).drop 24), List.all_append, w_t7, ← List.take_append_drop 24 (((((((words1.drop 24).drop 24).drop 24).drop 24).drop 24).drop 24).drop 24), List.all_append, w_t8, ← List.take_append_drop 24 ((((((((words1.drop 24).drop 24).drop 24).drop 24).drop 24).drop 24).drop 24).drop 24), List.all_append, w_t9, w_t10]
  rfl
set_option maxRecDepth 65536 in
theorem w_rest : rest_1_c.before args0 about1 = true := by decide +kernel
set_option maxRecDepth 65536 in
theorem w_case : (Jvm.Cond.and given_1 narrow_1).before args0 about1 = true := by decide +kernel
theorem w_applies : (headSpec (Jvm.Cond.code x code maxLocals ret :: tables_1) room_1).applies x e0.platform about1 = true :=
  (Spec.applies_iff w_frames).mpr ⟨w_running, w_runnable, w_alone, w_named, w_hears, w_ripe, w_room, w_tables⟩
theorem atStart : AtStart classFile x code maxLocals ret World_1 tables_1 room_1 Calls_1 rest_1 Pre_1 launch0 p0 e0 about1 theMethod args0 below0 :=
  ⟨lists_1, trivial, launch0.admits_env _ _ _, launch0.least_env, fairChoices_fair.cas, fairChoices_fair.clock, w_frames, w_args, w_heap, w_applies, trivial, w_rest, w_case⟩
end start1
theorem witness_1 : WitnessClaimed_1 := ⟨start1.p0, start1.e0, start1.about1, start1.theMethod, start1.args0, start1.below0, start1.atStart⟩
end Jvm.Pilot.@@N@@
